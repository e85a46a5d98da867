/- Part 7 of a proof: Val to G2. -/
import Derived.Test.YteggpgndiajdpaaGreatDoorM6
import Derived.Test.YteggpgndiajdpaaGreatDoorM4
import Derived.Test.YteggpgndiajdpaaGreatDoorM5
import Derived.Shelf.Strings.Trim
import Derived.Shelf.Strings.SlTrimAscii
import Derived.Test.YteggpgndiajdpaaGreatDoorProg
set_option maxRecDepth 100000
set_option linter.unusedVariables false
set_option linter.unusedSimpArgs false
namespace Go.Proofs.YteggpgndiajdpaaGreatDoor
open Go Go.RowKit
structure Lv where
 A:Option Addr
 n:Nat
 c:Nat
structure Zv where
 s:Bool
 A:Option Addr
 n:Nat
 c:Nat
structure Rv where
 s:Bool
 A:Option Addr
 n:Nat
 c:Nat
 t:Bool
 B:Option Addr
 m:Nat
 d:Nat
def Rv.x (r:Rv):Zv:=⟨r.s,r.A,r.n,r.c⟩
def Rv.y (r:Rv):Zv:=⟨r.t,r.B,r.m,r.d⟩
def Lv.v (l:Lv):Value:=.slice l.A l.n l.c
def Zv.cs (z:Zv):List Value:=[.bool z.s,.slice z.A z.n z.c]
def Rv.cs (r:Rv):List Value:=[.bool r.s,.slice r.A r.n r.c,.bool r.t,.slice r.B r.m r.d]
structure LimR (W:World) (N:Nat→Prop) (A:Option Addr) (n c:Nat) (xs:List Nat):Prop where
 len:xs.length=n
 cap:n≤c
 big:c≤9223372036854775807
 lim:Lim 4294967296 xs
 cell:0<n→∃ad,A=some ad∧N ad.block∧∀k u,(cZ xs)[k]? =some u→W.cell? (ad.add k)=some u
section
variable {W W':World}{N N':Nat→Prop}{A:Option Addr}{n c:Nat}{xs:List Nat}
theorem LimR.mono (h:LimR W N A n c xs) (hN:∀b,N b→N' b):LimR W N' A n c xs:=
 ⟨h.len,h.cap,h.big,h.lim,fun hn=>let ⟨ad,e,hb,hc⟩:=h.cell hn;⟨ad,e,hN _ hb,hc⟩⟩
theorem Bd {ad:Addr}(h:W'.heap[ad.block]? =W.heap[ad.block]?) (k:Nat):W'.cell? (ad.add k)=W.cell? (ad.add k):=World.cell?_of_block (w:=W) (by rw[dV];exact h)
theorem LimR.keep (h:LimR W N A n c xs) (hN:∀b,N b→W'.heap[b]? =W.heap[b]?):LimR W' N A n c xs:=
 ⟨h.len,h.cap,h.big,h.lim,fun hn=>let ⟨ad,e,hb,hc⟩:=h.cell hn;⟨ad,e,hb,fun k u hu=>(Bd (hN _ hb) k).trans (hc k u hu)⟩⟩
theorem LimR.u32 {B:Nat}(h:LimR W N A n c xs) (hN:∀b,N b→b<B):U32 W B A n c xs:=
 ⟨⟨by rw[eS,h.len,Nat.mul_one],h.cap,h.big,fun hn=>let ⟨ad,e,hb,hc⟩:=h.cell hn;⟨ad,e,hN _ hb,hc⟩⟩,h.lim⟩
theorem LimR.of_own {t base:Nat}(h:Own t W base A n c xs):LimR W (· ∈(Value.slice A n c).ownBlock.toList) A n c xs:=by
 have hu:=h.u32
 refine⟨hu.len,hu.cap,hu.big,hu.lim,fun hn=>?_⟩
 obtain⟨ad,e,_,hc⟩:=hu.rd.cell hn
 exact⟨ad,e,by subst e;simp[Value.ownBlock],hc⟩
theorem LimR.nil:LimR W N none 0 0 []:=⟨rfl,Nat.le_refl _,by omega,Lim.nil,fun h=>absurd h (by omega)⟩
end
theorem Own.keep {t:TypeId}{w w':World}{base n c:Nat}{A:Option Addr}{xs:List Nat}(h:Own t w base A n c xs) (hk:∀b∈(Value.slice A n c).ownBlock.toList,w'.heap[b]? =w.heap[b]?):Own t w' base A n c xs:=by
 refine⟨⟨h.row.1,?_⟩,h.lim⟩
 rcases h.row.2 with h2 | ⟨g,cap,cur,hv,hb,hh,rest⟩
 ·exact .inl h2
 exact .inr ⟨g,cap,cur,hv,hb,(hk g (by rw[hv];simp[Value.ownBlock])).trans hh,rest⟩
theorem Own.blk {t:TypeId}{w:World}{base n c:Nat}{A:Option Addr}{xs:List Nat}(h:Own t w base A n c xs):∀b∈(Value.slice A n c).ownBlock.toList,base≤b∧b<w.heap.size:=by
 intro b hb
 rcases h.row.2 with⟨h2,_⟩ | ⟨g,cap,cur,hv,hb',hh,rest⟩
 ·rw[h2]at hb
  simp[Value.ownBlock]at hb
 rw[hv]at hb
 simp[Value.ownBlock]at hb
 subst hb
 exact⟨hb',(Array.getElem?_eq_some_iff.1 hh).1⟩
section
variable {w:World}{r r':Rv}{p q:Rat}
end
section
variable {w:World}{z z':Zv}{k k':Int}
end
theorem Sz.mono {L M:Nat}{q:Rat}(h:Sz L q) (hL:L≤M):Sz M q:=⟨Nat.le_trans h.1 hL,Nat.le_trans h.2 hL⟩
def aS (xs:List Nat):List Tr:=xs.map fun(n:Nat)=>.v (.int .u32 (n:Int))
def sU (o:Bool) (xs:List Nat):Tr:=.s o 22 1 xs.length (aS xs)
theorem fY (xs:List Nat):(aS xs).length=xs.length:=by simp[aS]
theorem Oz (xs:List Nat):eO ((aS xs).map .t)=true:=by
 induction xs with
 | nil=>rfl
 | cons x xs ih=>simpa[aS,eO,kJ]using ih
theorem Gm (xs:List Nat):cN ((aS xs).map .t)=true:=by
 induction xs with
 | nil=>rfl
 | cons x xs ih=>simpa[aS,cN,lone]using ih
theorem eM (xs:List Nat):NoFrL (aS xs):=by
 induction xs with
 | nil=>simp[aS,NoFrL]
 | cons x xs ih=>simpa[aS,NoFrL,jU]using ih
structure Fr4 where
 s:Bool
 x:List Nat
 t:Bool
 y:List Nat
namespace Fr4
def q (a:Fr4):Rat:=We a.s a.x a.t a.y
def of (q:Rat):Fr4:=⟨aT q.num,dg 4294967296 q.num.natAbs,false,dg 4294967296 q.den⟩
def ok (a:Fr4):Prop:=Lim 4294967296 a.x∧Lim 4294967296 a.y∧a.x.length≤68719476736∧a.y.length≤68719476736
end Fr4
section
variable {W:World}{N:Nat→Prop}
theorem sQ {o:Bool}{xs:List Nat}{u:Value}(h:FR W N (sU o xs) u) (hl:Lim 4294967296 xs):∃A c,u=.slice A xs.length c∧LimR W N A xs.length c xs:=by
 simp only[sU,FR]at h
 obtain⟨A,c,rfl,h1,h2,h3,h4⟩:=h
 refine⟨A,c,rfl,rfl,h1,h2,hl,fun hn=>?_⟩
 rcases h4 with h4 | ⟨ad,rfl,h5,h6⟩
 ·omega
 refine⟨ad,rfl,h5,fun k u hk=>?_⟩
 simp only[cZ,List.getElem?_map,Option.map_eq_some_iff]at hk
 obtain⟨m,hm,rfl⟩:=hk
 obtain⟨u,e1,e2⟩:=iA h6 (j:=k) (x:=.v (.int .u32 (m:Int))) (by simp[aS,hm])
 simp only[FR]at e2
 rw[Nat.zero_add]at e1
 rw[e1,e2]
theorem lP {t:TypeId}{base n c:Nat}{A:Option Addr}{xs:List Nat}(h:Own t W base A n c xs):∃y:VT,y.val=.slice A n c∧OR W N (.s true t 1 xs.length (aS xs)) y∧y.ok W∧y.fp=(Value.slice A n c).ownBlock.toList:=by
 have hl:=h.len
 rcases h.row.2 with⟨h2,h3⟩ | ⟨g,cap,cur,hv,_,hg,hnc,hcm,hcs,htake⟩
 ·injection h2 with e1 e2 e3
  subst e1 e3
  subst h3
  have:xs=[]:=List.eq_nil_of_length_eq_zero hl
  subst this
  exact⟨.w (.slice none 0 0),rfl,by simp[OR,aS],by simp[VT.ok],by simp[VT.fp,Value.ownBlock]⟩
 injection hv with e1 e2 e3
 subst e1 e3
 have hor:ORL W N (aS xs) ((cZ xs).map VT.w):=by
  clear hl htake h
  induction xs with
  | nil=>simp[aS,cZ,ORL]
  | cons x xs ih=>simpa[aS,cZ,ORL,OR]using ih
 refine⟨.s g c t 1 n ((cZ xs).map .w),rfl,?_,?_,by simp[VT.fp,gL,Value.ownBlock]⟩
 ·simp only[OR]
  exact⟨trivial,hl.symm,trivial,trivial,hor⟩
 simp only[VT.ok]
 refine⟨⟨cur.toList.drop (n*1),?_,?_⟩,hnc,hcm,by simp[eS,hl],mF _⟩
 ·rw[mG,←htake,List.take_append_drop]
  simpa using hg
 rw[mG,←htake,List.take_append_drop]
 simpa using hcs
end
section
variable {f:FuncId}{args:List FV}
theorem lQ {N:Nat→Prop}{w:World}{cs:List Co}{us:List Value}(hL:Loc ((aA (aF []) cs).flatMap Res.S) w w (aA (aF []) cs) [(Cf [] cs args us).on N]):cs=[]∧bP w (fun b=>b<w.heap.size∧N b) [] args us:=by
 have h:=Sh.off (hL.sh 0 rfl)
 have hc:cs=[]:=List.eq_nil_of_length_eq_zero (by have:=h.1.1;simpa[aF]using this.symm)
 subst hc
 exact⟨rfl,fU (fun _ _=>rfl) (fun b hb=>⟨hb.1.1,hb.2⟩) .refl _ _ h.2⟩
theorem Ended.mk0 {fresh:Bool}{N:Nat→Prop}{M:List Nat}{w W:World}{R:List Lt→FV→Prop}{v:Value}{r:FV}{y:List VT}(hR:R [] r) (hb:Below w.heap.size w W) (hok:VT.okL W y) (hnd:(VT.fpL y).Nodup) (hfp:∀b∈VT.fpL y,w.heap.size≤b∧b<W.heap.size)
  (hro:RO W (fun b=>fresh=false∧(b<W.heap.size∧b∉VT.fpL y)∧(N b∨w.heap.size≤b)) [] r v y):Ended fresh N M w [] [] R (.returned v) W:=by
 refine⟨v,[],[],r,y,rfl,hR,rfl,fun _ _ _ h=>by simp at h,rfl,.refl,?_⟩
 refine⟨⟨hb.os,hb.tape,hb.output,hb.size,fun k hk _=>hb.block k hk⟩,fun q hq=>?_,fun b hb=>?_,by simpa[aF,aA,cW]using hnd,fun q hq=>?_⟩
 ·simp[aF,aA]at hq
  subst hq
  exact hok
 ·have:=hfp b (by simpa[aF,aA,cW]using hb)
  exact⟨.inr this.1,this.2⟩
 simp at hq
 subst hq
 refine⟨⟨rfl,fun k o hk=>by simp[aF]at hk⟩,jJ (fun _ _=>rfl) (fun b hb=>⟨hb.1,⟨⟨hb.2.1.1,?_⟩,hb.2.2.elim .inl fun h=>.inr (.inr h)⟩⟩) .refl hro⟩
 simpa[aF,aA,cW]using hb.2.1.2
theorem wG {v:Value}(h:∀(N:Nat→Prop) (w:World) us,bP w N [] args us→(∀b,N b→b<w.heap.size)→Calls Tryz.prog f us.toArray w (fun e w'=>e=.returned v∧Below w.heap.size w w')):aE true Tryz.prog f [] args (bC (.one (tv v))):=by
 intro N w cs us hL
 obtain⟨rfl,hf⟩:=lQ hL
 refine(h _ w us hf (fun b hb=>hb.1)).mono ?_
 rintro e W ⟨rfl,hb⟩
 refine .mk0 (y:=[.w v]) rfl hb (by simp[VT.okL,VT.ok]) (by simp[VT.fpL,VT.fp]) (by simp[VT.fpL,VT.fp]) ⟨.w v,rfl,rfl,?_⟩
 simp[CR,tv,OR]
end
theorem oG {W:World}{N:Nat→Prop}{a b:FV}{us:List Value}(h:bP W N [] [a,b] us):∃u v,us=[u,v]∧aX W N [] a u∧aX W N [] b v:=by
 match us,h with
 | [u,v],h=>
  simp only[bP]at h
  exact⟨u,v,rfl,h.1,h.2.1⟩
 | [],h=>simp only[bP]at h
 | [_],h=>simp only[bP]at h;exact h.2.elim
 | _::_::_::_,h=>simp only[bP]at h;exact absurd h.2.2 (by simp)
theorem Gn {W:World}{N:Nat→Prop}{a:FV}{us:List Value}(h:bP W N [] [a] us):∃u,us=[u]∧aX W N [] a u:=by
 match us,h with
 | [u],h=>
  simp only[bP]at h
  exact⟨u,rfl,h.1⟩
 | [],h=>simp only[bP]at h
 | _::_::_,h=>simp only[bP]at h;exact absurd h.2 (by simp)
section
variable {a b:Fr4}
end
theorem gV (xs:List Nat){k:Nat}(h:k<xs.length):((aS xs).drop (k*1)).take [Tr.v (.int .u32 ((nth xs k:Nat):Int))].length=[Tr.v (.int .u32 ((nth xs k:Nat):Int))]:=by
 rw[Nat.mul_one]
 have:(aS xs)[k]? =some (Tr.v (.int .u32 ((nth xs k:Nat):Int))):=by simp[aS,bG h,h]
 rw[List.length_singleton,List.take_one]
 simp[this]
theorem bH {x:Cx}{g:Nat→FV}{ob:List (Option Ob)}(h0:x.c0.length=0) (τ:List Nat) (live:List (Nat×FV)) (os:List Ob) (hn:τ.Nodup) (h1:nO τ g live) (h2:eK τ ob τ os):Sub x g ob (cK live) (os.map some):=
 su τ (fun k hk=>by rw[h0]at hk;cases hk) live os hn h1 h2
theorem Gp {xs ys:List Nat}{k:Nat}(h:xs.take k=ys.take k) (h1:k<xs.length) (h2:k<ys.length) (he:nth xs k=nth ys k):xs.take (k+1)=ys.take (k+1):=by
 rw[List.take_add_one,List.take_add_one,h]
 rw[bG h1,bG h2]at he
 simp[List.getElem?_eq_getElem h1,List.getElem?_eq_getElem h2,he]
theorem bY (xs:List Nat):((aS xs).map AV.t).take (xs.length*1)=(aS xs).map .t:=by rw[Nat.mul_one,List.take_of_length_le (by simp[fY])]
theorem bO (xs:List Nat):(aS xs).length=xs.length*1:=by simp[fY]
theorem Pa {a b:Fr4}:a=b↔(a.s=b.s∧a.t=b.t)∧a.x=b.x∧a.y=b.y:=by
 obtain⟨s,x,t,y⟩:=a
 obtain⟨s',x',t',y'⟩:=b
 simp only[Fr4.mk.injEq]
 constructor
 ·rintro⟨h1,h2,h3,h4⟩
  exact⟨⟨h1,h3⟩,h2,h4⟩
 rintro⟨⟨h1,h3⟩,h2,h4⟩
 exact⟨h1,h2,h3,h4⟩
instance:DecidableEq Fr4:=fun a b=>decidable_of_iff _ Pa.symm
def Fr4.len (a:Fr4) (m:Nat):Prop:=a.x.length≤m∧a.y.length≤m
def hv:List Nat→List Nat
 | []=>[]
 | x::xs=>x%65536::x/65536::hv xs
def lb:List Nat→List Nat
 | []=>[]
 | [a]=>[a]
 | a::b::l=>(a+65536*b)::lb l
theorem tS:∀(a b:List Nat),hv (a++b)=hv a++hv b
 | [],_=>rfl
 | x::xs,b=>by simp only[List.cons_append,hv,tS xs b]
theorem rG:∀(a:List Nat),(hv a).length=2*a.length
 | []=>rfl
 | x::xs=>by simp only[hv,List.length_cons,rG xs];omega
theorem Dv:∀{a:List Nat},Lim 4294967296 a→Lim 65536 (hv a)
 | [],_=>Lim.nil
 | x::xs,h=>Lim.cons (Nat.mod_lt _ (by omega)) (Lim.cons (by have:=h.head;omega) (Dv h.tail))
theorem Io:∀(a:List Nat),vl 65536 (hv a)=vl 4294967296 a
 | []=>rfl
 | x::xs=>by
  simp only[hv,eF,Io xs]
  have:=Nat.mod_add_div x 65536
  omega
theorem Sb {a:List Nat}(h:Lim 4294967296 a):trim (hv a)=dg 65536 (vl 4294967296 a):=by rw[←Io,cM (by omega) (Dv h)]
theorem Kk {a:List Nat}{k:Nat}(h:k<a.length):hv (a.take (k+1))=hv (a.take k)++[nth a k%65536,nth a k/65536]:=by
 rw[iZ h,tS]
 rfl
theorem Ip:∀(a:List Nat),vl 4294967296 (lb a)=vl 65536 a
 | []=>rfl
 | [a]=>by simp[lb,qC]
 | a::b::l=>by
  simp only[lb,eF,Ip l]
  omega
theorem Dw:∀{a:List Nat},Lim 65536 a→Lim 4294967296 (lb a)
 | [],_=>Lim.nil
 | [a],h=>Lim.cons (by have:=h.head;omega) Lim.nil
 | a::b::l,h=>Lim.cons (by have:=h.head;have:=h.tail.head;omega) (Dw h.tail.tail)
theorem lR:∀(a:List Nat),(lb a).length=(a.length+1)/2
 | []=>rfl
 | [a]=>by simp[lb]
 | a::b::l=>by simp only[lb,List.length_cons,lR l];omega
theorem Pb {a:List Nat}(h:lb a=[]):a=[]:=by
 rcases a with _ | ⟨x,_ | ⟨y,l⟩⟩
 ·rfl
 ·simp[lb]at h
 simp[lb]at h
theorem yW:∀{a:List Nat},trim a=a→trim (lb a)=lb a
 | [],_=>rfl
 | [a],h=>h
 | a::b::l,h=>by
  have hl:trim l=l:=by
   rw[cF]at h
   split at h
   ·cases h
   injection h with _ h
   rw[cF]at h
   split at h
   ·cases h
   injection h
  have ih:=yW hl
  simp only[lb]
  rw[cF,ih]
  split
  ·rename_i hc
   have h0:=Pb hc.1
   subst h0
   rw[cF,cF,Et]at h
   have hb:b=0:=by omega
   have ha:a=0:=by omega
   subst hb ha
   simp at h
  rfl
theorem Sc (v:Nat):lb (dg 65536 v)=dg 4294967296 v:=by
 have h:=yW (rP (B:=65536) (by omega) v)
 rw[←h,←cM (B:=4294967296) (by omega) (Dw (aQ (by omega) v)),Ip,bM (by omega)]
theorem sR:∀{l:List Nat}{k:Nat},2*k<l.length→lb (l.take (2*(k+1)))=lb (l.take (2*k))++[nth l (2*k)+65536*nth l (2*k+1)]
 | [],_,h=>by simp at h
 | [a],0,_=>by simp[lb,nth]
 | [a],k+1,h=>by simp at h
 | a::b::l,0,_=>by simp[lb,nth]
 | a::b::l,k+1,h=>by
  have ih:=sR (l:=l) (k:=k) (by simp at h;omega)
  have e1:2*(k+1+1)=2*(k+1)+1+1:=by omega
  have e2:2*(k+1)=2*k+1+1:=by omega
  rw[e1,List.take_succ_cons,List.take_succ_cons]
  simp only[lb]
  rw[ih,e2,List.take_succ_cons,List.take_succ_cons]
  simp only[lb,List.cons_append]
  simp[nth]
theorem eN {v L:Nat}(h:(dg 4294967296 v).length≤L):(dg 65536 v).length≤2*L:=by
 have h1:=iK (B:=4294967296) (by omega) (n:=v)
 refine bF (by omega) (Nat.lt_of_lt_of_le h1 ?_)
 rw[Nat.pow_mul]
 exact Nat.pow_le_pow_right (by omega) h
theorem wH {X Y os:List Nat}{k cr:Nat}(hl:os.length=k) (h:vl 65536 os+65536^k*cr=vl 65536 (X.take k)+vl 65536 (Y.take k)):
  vl 65536 (os++[(nth X k+nth Y k+cr)%65536])+65536^(k+1)*((nth X k+nth Y k+cr)/65536)=vl 65536 (X.take (k+1))+vl 65536 (Y.take (k+1)):=by
 rw[fZ,aP,aP,hl,Nat.pow_succ,Nat.mul_assoc]
 have h2:=Nat.mod_add_div (nth X k+nth Y k+cr) 65536
 have h3:65536^k*(nth X k+nth Y k+cr)=65536^k*((nth X k+nth Y k+cr)%65536)+65536^k*(65536*((nth X k+nth Y k+cr)/65536)):=by rw[←Nat.mul_add,h2]
 rw[Nat.mul_add,Nat.mul_add]at h3
 omega
theorem Iq {X Y:List Nat}{k:Nat}(hX:Lim 65536 X) (hk:∀j,k+1≤j→nth X j=nth Y j) (h:nth X k<nth Y k):vl 65536 X<vl 65536 Y:=by
 have hS:∀m,vl 65536 (X.take (k+1+m))+vl 65536 (Y.take (k+1))=vl 65536 (Y.take (k+1+m))+vl 65536 (X.take (k+1)):=by
  intro m
  induction m with
  | zero=>exact Nat.add_comm _ _
  | succ m ih=>
   rw[←Nat.add_assoc,aP 65536 X (k+1+m),aP 65536 Y (k+1+m),hk (k+1+m) (by omega)]
   omega
 have h1:=hS (X.length+Y.length)
 rw[aY 65536 (l:=X) (k:=k+1+(X.length+Y.length)) (by omega),aY 65536 (l:=Y) (k:=k+1+(X.length+Y.length)) (by omega)]at h1
 have h2:vl 65536 (X.take (k+1))<vl 65536 (Y.take (k+1)):=by
  rw[aP,aP]
  have h3:=eC (hX.take k)
  have h4:65536^(X.take k).length≤65536^k:=Nat.pow_le_pow_right (by omega) (by rw[List.length_take];omega)
  have h5:65536^k*(nth X k+1)≤65536^k*nth Y k:=Nat.mul_le_mul_left _ h
  rw[Nat.mul_add]at h5
  omega
 omega
theorem Pc {X Y:List Nat}(h:∀j,nth X j=nth Y j):vl 65536 X=vl 65536 Y:=by
 have hS:∀m,vl 65536 (X.take m)=vl 65536 (Y.take m):=by
  intro m
  induction m with
  | zero=>rfl
  | succ m ih=>rw[aP,aP,ih,h]
 have h1:=hS (X.length+Y.length)
 rwa[aY 65536 (l:=X) (k:=X.length+Y.length) (by omega),aY 65536 (l:=Y) (k:=X.length+Y.length) (by omega)]at h1
def cX (xs:List Nat):List Tr:=xs.map fun(n:Nat)=>.v (.int .i64 (n:Int))
def sI (o:Bool) (xs:List Nat):Tr:=.s o 3 1 xs.length (cX xs)
theorem iI (xs:List Nat):(cX xs).length=xs.length:=by simp[cX]
theorem lS (xs:List Nat){k:Nat}(h:k<xs.length):((cX xs).drop (k*1)).take [Tr.v (.int .i64 ((nth xs k:Nat):Int))].length=[Tr.v (.int .i64 ((nth xs k:Nat):Int))]:=by
 rw[Nat.mul_one]
 have:(cX xs)[k]? =some (Tr.v (.int .i64 ((nth xs k:Nat):Int))):=by simp[cX,bG h,h]
 rw[List.length_singleton,List.take_one]
 simp[this]
theorem jZ (xs ys:List Nat):(cX xs).map AV.t++(cX ys).map .t=(cX (xs++ys)).map .t:=by simp[cX]
theorem wI (xs ys:List Nat):(aS xs).map AV.t++(aS ys).map .t=(aS (xs++ys)).map .t:=by simp[aS]
theorem Dx (xs:List Nat) (k:Nat):(cX xs).take (k*1)=cX (xs.take k):=by simp[cX,List.map_take]
theorem Pd {xs:List Nat}{m:Nat}(h:m≤xs.length):FV.one (.t (.s false 3 1 m ((cX xs).take (m*1))))=.one (.t (sI false (xs.take m))):=by
 rw[Dx]
 unfold sI
 rw[List.length_take,Nat.min_eq_left h]
theorem fN (a b:Nat):Int.tmod (a:Int) (b:Int)=((a%b:Nat):Int):=by
 rw[Int.tmod_eq_emod_of_nonneg (by omega)]
 rfl
theorem gG (a b:Nat):Int.tdiv (a:Int) (b:Int)=((a/b:Nat):Int):=by
 rw[Int.tdiv_eq_ediv_of_nonneg (by omega)]
 rfl
theorem kA {k:IntKind}{a:Nat}(b:Nat) (hb:b≠0) (h:fA k (a:Int)):(b:Int)≠0∧fA k (Int.tdiv (a:Int) (b:Int)):=by
 refine⟨by omega,?_⟩
 rw[gG]
 have:=Nat.div_le_self a b
 generalize a/b=c at this⊢
 cases k <;> simp only[fA]at h⊢ <;> omega
section
variable {x:Cx}{g:Nat→FV}{ob:List (Option Ob)}
theorem Ir {i k n:Nat}{zs zs':List Nat}(hi:Nat.blt i x.n=true) (hg:g i=.one (.sl k 0 n)) (ho:bI ob k=some ⟨3,1,(cX zs).map .t⟩) (hn:n=zs.length) (he:zs=zs'):Sub x g ob (aG g i (.one (.t (sI false zs')))) (ob.set k none):=by
 subst he
 have:=fz hi hg ho (by rw[iI,hn,Nat.mul_one])
 rw[hn]at this
 exact this
theorem Pe {i k n:Nat}{zs zs':List Nat}(hi:Nat.blt i x.n=true) (hg:g i=.one (.sl k 0 n)) (ho:bI ob k=some ⟨22,1,(aS zs).map .t⟩) (hn:n=zs.length) (he:zs=zs'):Sub x g ob (aG g i (.one (.t (sU false zs')))) (ob.set k none):=by
 subst he
 have:=fz hi hg ho (by rw[fY,hn,Nat.mul_one])
 rw[hn]at this
 exact this
theorem Dy {τ:List Nat}{a:Option Ob}{xs ys:List Nat}{l:List AV}(h1:a=some ⟨3,1,l⟩) (h:l=(cX ys).map .t) (he:ys=xs):tF τ a ⟨3,1,(cX xs).map .t⟩:=cY (by rw[h1,h,he])
theorem Tf {τ:List Nat}{a:Option Ob}{xs ys:List Nat}{l:List AV}(h1:a=some ⟨22,1,l⟩) (h:l=(aS ys).map .t) (he:ys=xs):tF τ a ⟨22,1,(aS xs).map .t⟩:=cY (by rw[h1,h,he])
end
section
variable {l:List Nat}{k N:Nat}{z:Int}{xs:List Nat}{neg:Bool}
theorem rH (hr:bX neg xs=false):gU neg xs=0:=by simp[gU,hr]
theorem gW (h:xs.length=0):bX neg xs= !neg:=by
 rw[List.length_eq_zero_iff]at h
 subst h
 simp[bX]
theorem mQ {n:Nat}(hn:xs.length=n) (h:0<n):bX neg xs=decide (((nth xs (n-1):Nat):Int)≠0):=by
 subst hn
 rcases xs with _ | ⟨x,l⟩
 ·simp at h
 simp only[bX,List.isEmpty_cons,Bool.false_and,Bool.not_false,Bool.true_and,Bool.false_or]
 by_cases h0:nth (x::l) ((x::l).length-1)=0
 ·rw[h0];rfl
 rw[bne_iff_ne.2 h0,decide_eq_true (by omega)]
theorem Km (k:Int):cG (!(aT k)) k.natAbs=-k:=by
 unfold cG aT
 by_cases h:k<0 <;> simp[h] <;> omega
theorem Kn {xs ys:List Nat}(hx:Lim 4294967296 xs) (hy:Lim 4294967296 ys):(dg 4294967296 (vl 4294967296 xs+vl 4294967296 ys)).length≤xs.length+ys.length+1:=by
 refine bF (by omega) ?_
 have h1:=eC hx
 have h2:=eC hy
 have h3:4294967296^xs.length≤4294967296^(xs.length+ys.length):=Nat.pow_le_pow_right (by omega) (by omega)
 have h4:4294967296^ys.length≤4294967296^(xs.length+ys.length):=Nat.pow_le_pow_right (by omega) (by omega)
 rw[Nat.pow_succ]
 omega
theorem bB (k:Int):vl 4294967296 (dg 4294967296 k.natAbs)=k.natAbs:=bM (by omega) _
theorem kN {a b:Nat}(h:a≤b):(dg 4294967296 a).length≤(dg 4294967296 b).length:=fG (by omega) h
theorem Gq (k:Int):(dg 4294967296 (-(k)).natAbs).length=(dg 4294967296 k.natAbs).length:=by rw[Int.natAbs_neg]
theorem Gr {n:Int}(h1:-9223372036854775808≤n) (h2:n≤9223372036854775807):-4294967295≤Int.tmod n 4294967296∧Int.tmod n 4294967296≤4294967295∧-2147483648≤Int.tdiv n 4294967296∧Int.tdiv n 4294967296≤2147483648∧(Int.tmod n 4294967296).natAbs+4294967296*(Int.tdiv n 4294967296).natAbs=n.natAbs∧True:=by
 obtain⟨m,hm⟩:∃m:Nat,n.natAbs=m:=⟨_,rfl⟩
 rw[hm]
 rcases(show n=m∨n=-(m:Int) by omega)with h | h
 ·subst h
  have e1:Int.tmod (m:Int) 4294967296=((m%4294967296:Nat):Int):=by rw[Int.tmod_eq_emod_of_nonneg (by omega)];omega
  have e2:Int.tdiv (m:Int) 4294967296=((m/4294967296:Nat):Int):=by rw[Int.tdiv_eq_ediv_of_nonneg (by omega)];omega
  rw[e1,e2]
  exact⟨by omega,by omega,by omega,by omega,by rw[Int.natAbs_natCast,Int.natAbs_natCast];omega,trivial⟩
 subst h
 have e1:Int.tmod (-(m:Int)) 4294967296=-((m%4294967296:Nat):Int):=by rw[Int.neg_tmod,Int.tmod_eq_emod_of_nonneg (by omega)];omega
 have e2:Int.tdiv (-(m:Int)) 4294967296=-((m/4294967296:Nat):Int):=by rw[Int.neg_tdiv,Int.tdiv_eq_ediv_of_nonneg (by omega)];omega
 rw[e1,e2]
 exact⟨by omega,by omega,by omega,by omega,by rw[Int.natAbs_neg,Int.natAbs_neg,Int.natAbs_natCast,Int.natAbs_natCast];omega,trivial⟩
theorem Pf {n:Int}{a b:Nat}(h:a+4294967296*b=n.natAbs):cG (decide (n<0)) (vl 4294967296 [a,b])=n:=by
 have e:vl 4294967296 [a,b]=n.natAbs:=by simp[vl];omega
 rw[e]
 exact wE n
theorem Dz {k k':Int}{s:Bool}(h:s=aT k) (h':aT k=aT k'):cG s (k.natAbs+k'.natAbs)=k+k':=by
 subst h
 unfold aT at*
 unfold cG
 by_cases h1:k<0 <;> by_cases h2:k'<0 <;> simp[h1,h2]at h'⊢ <;> omega
theorem Ko {k k':Int}{s:Bool}(h:s=aT k) (h':aT k≠aT k') (hl:¬k.natAbs<k'.natAbs):cG s (k.natAbs-k'.natAbs)=k+k':=by
 subst h
 unfold aT at*
 unfold cG
 by_cases h1:k<0 <;> by_cases h2:k'<0 <;> simp[h1,h2]at h'⊢ <;> omega
theorem Kq {k k':Int}{s:Bool}(h:s=aT k') (h':aT k≠aT k') (hl:k.natAbs<k'.natAbs):cG s (k'.natAbs-k.natAbs)=k+k':=by
 subst h
 unfold aT at*
 unfold cG
 by_cases h1:k<0 <;> by_cases h2:k'<0 <;> simp[h1,h2]at h'⊢ <;> omega
end
theorem Kr {k k':Int}(h:aT k=true) (h':aT k'=false):(-1:Int)=(k-k').sign:=by
 unfold aT at h h'
 simp at h h'
 rw[Int.sign_eq_neg_one_of_neg (by omega)]
theorem Ks {k k':Int}(h:aT k=false) (h':aT k'=true):(1:Int)=(k-k').sign:=by
 unfold aT at h h'
 simp at h h'
 rw[Int.sign_eq_one_of_pos (by omega)]
theorem Kt {k k':Int}(h:aT k=true) (h':aT k'=true):(((k'.natAbs:Nat):Int)-((k.natAbs:Nat):Int)).sign=(k-k').sign:=by
 unfold aT at h h'
 simp at h h'
 rw[show((k'.natAbs:Nat):Int)-((k.natAbs:Nat):Int)=k-k' by omega]
theorem Ku {k k':Int}(h:aT k=false) (h':aT k'=false):(((k.natAbs:Nat):Int)-((k'.natAbs:Nat):Int)).sign=(k-k').sign:=by
 unfold aT at h h'
 simp at h h'
 rw[show((k.natAbs:Nat):Int)-((k'.natAbs:Nat):Int)=k-k' by omega]
theorem Kv (xs:List Nat){k v:Nat}(h:k<xs.length):cJ ((cX xs).map AV.t) (0+k*1) [tv (.int .i64 (v:Int))]=(cX (xs.set k v)).map .t:=by
 rw[Nat.zero_add,Nat.mul_one,List.set_eq_take_append_cons_drop,if_pos h]
 simp[cJ,cX,tv,List.map_take,List.map_drop]
theorem Pg (xs:List Nat){k:Nat}{a:AV}(h:k<xs.length):0+k*1+[a].length≤((cX xs).map AV.t).length:=by simp[cX];omega
theorem Gs (m:Nat):(List.replicate m (Value.int .i64 0)).map tv=(cX (List.replicate m 0)).map .t:=by simp[cX,tv]
structure Zi where
 s:Bool
 x:List Nat
def Zi.of (k:Int):Zi:=⟨aT k,dg 4294967296 k.natAbs⟩
def gF (a:Zi):FV:=.agg (([.v (.bool a.s),sU false a.x]:List Tr).map .t)
def kF (k:Int):FV:=.agg (([.v (.bool (aT k)),sU false (dg 4294967296 k.natAbs)]:List Tr).map .t)
def kO (k:Int):FV:=.agg (([.v (.bool (aT k)),sU true (dg 4294967296 k.natAbs)]:List Tr).map .t)
def Zn (a:Zi) (k:Int):Prop:=Lim 4294967296 a.x∧a.x.length≤137438953472∧gU a.s a.x=k
theorem Zn.of {k:Int}(h:(dg 4294967296 k.natAbs).length≤137438953472):Zn (.of k) k:=⟨aQ (by omega) _,h,Dt k⟩
theorem Zn.len {a:Zi}{k:Int}(h:Zn a k):(dg 4294967296 k.natAbs).length≤137438953472:=by
 obtain⟨h1,h2,rfl⟩:=h
 exact Nat.le_trans (sP h1) h2
theorem Zn.right {a:Zi}{k:Int}(h:Zn a k) (hr:bX a.s a.x=true):aT k=a.s∧dg 4294967296 k.natAbs=a.x:=by
 obtain⟨h1,h2,rfl⟩:=h
 exact⟨yU h1 hr,oY h1 hr⟩
theorem Zn.wrong {a:Zi}{k:Int}(h:Zn a k) (hr:bX a.s a.x=false):k=0:=by
 obtain⟨h1,h2,rfl⟩:=h
 exact rH hr
theorem Gt {a:Zi}{k:Int}(h:Zn a k) (hr:bX a.s a.x=true):gF a=kF k:=by
 obtain⟨h1,h2⟩:=h.right hr
 unfold gF kF
 rw[h1,h2]
theorem oZ {b:Bool}{m:Nat}{k:Int}(h:b=aT k) (hm:m=k.natAbs):FV.agg [tv (.bool b),.t (sU true (dg 4294967296 m))]=kO k:=by subst h hm;rfl
theorem yX:FV.agg [tv (.bool false),.t (sU false [])]=kF 0:=by
 unfold kF
 rw[show Int.natAbs 0=0 from rfl,eX]
 rfl
theorem cI (k:Int):kL (kO k):=by
 simp only[kL,kO,nS,List.map_cons,List.map_nil,iU,qO,sU,jU]
 exact⟨trivial,.inl ⟨trivial,eM _⟩,trivial⟩
theorem yY (b:Bool) (m:Nat):kL (.agg (([.v (.bool b),sU true (dg 4294967296 m)]:List Tr).map .t)):=by
 simp only[kL,nS,List.map_cons,List.map_nil,iU,qO,sU,jU]
 exact⟨trivial,.inl ⟨trivial,eM _⟩,trivial⟩
theorem Sd:CallOk Tryz.prog 105:=.mk Tryz.func105 (by decide) rfl
def aW (l:List Nat):Nat:=l.foldl (fun n c=>n*10+(c-48)) 0
theorem Gu {l:List Nat}{k:Nat}(h:k<l.length):aW (l.take k)*10+(nth l k-48)=aW (l.take (k+1)):=by
 have e:l[k]? =some (nth l k):=by rw[bG h];simp[h]
 rw[List.take_add_one,e]
 simp[aW]
theorem uF:∀{l:List Nat}{k:Nat},(∀c∈l,48≤c∧c≤57)→k≤l.length→aW (l.take k)<10^k
 | l,0,_,_=>by simp[aW]
 | l,k+1,h,hk=>by
  have ih:=uF (k:=k) h (by omega)
  have h2:=h (nth l k) (by rw[bG (by omega)];exact List.getElem_mem _)
  rw[←Gu (by omega),Nat.pow_succ]
  omega
theorem rI {l:List Nat}{k:Nat}(h:∀c∈l,48≤c∧c≤57) (hk:k<l.length):48≤nth l k∧nth l k≤57:=h _ (by rw[bG hk];exact List.getElem_mem hk)
theorem Kw {l:List Nat}(h:∀c∈l,48≤c∧c≤57):Lim 256 l:=fun c hc=>by have:=h c hc;omega
theorem Se {k:Nat}(h:k≤17):10^k≤100000000000000000:=Nat.le_trans (Nat.pow_le_pow_right (by omega) h) (by decide)
theorem Kx {l:List Nat}(hd:∀c∈l,48≤c∧c≤57) (h0l:0<l.length) (h18:l.length≤18):aE true Tryz.prog 105 [] [.one (tv (.string (aL l)))] (bC (.tup [.one (tv (.int .i64 ((aW l:Nat):Int))),.one (tv .nilIface)])):=by
 refine cL Tryz.func105 rfl Tryz.ntmps105 rfl aB rfl fun N9 w9 c0 h0=>?_
 have hd0:=rI hd h0l
 refine sq ?_;refine rl ?_;refine o1 ?_;refine o1 ?_;refine nl ?_;refine sq ?_;refine rl ?_;refine o1 ?_;refine o1 ?_
 refine WL.cast (t:=12) (u':=.int .i64 ((l.length:Nat):Int)) rfl (congrArg (fun n:Nat=>Value.int .i64 (n:Int)) (aR _)) ?_
 refine o1 ?_;refine nl ?_;refine sq ?_;refine sq ?_;refine rl ?_;refine o1 ?_;(iterate 6 refine dL ?_);(iterate 6 refine o1 ?_);refine WL.split (t:=25) rfl (fun h1=>?_) (fun h1=>?_)
 ·(iterate 5 refine o1 ?_);refine nl ?_;refine cE rfl (fun h2=>?_) (fun h2=>?_)
  ·refine sq ?_;refine rl ?_;refine o1 ?_;refine o1 ?_;refine nl ?_;refine sq ?_;refine sq ?_;refine rl ?_;refine o1 ?_;refine o1 ?_ (hC:=(by rw[aR];show 0<l.length;omega))
   refine WL.cast (t:=33) (u':=.int .u8 (((nth l 0):Nat):Int)) rfl (congrArg (fun n:Nat=>Value.int .u8 (n:Int)) (fT (i:=0) (by omega) (by omega))) ?_
   refine o1 ?_;refine o1 ?_;refine WL.split (t:=35) rfl (fun h3=>?_) (fun h3=>?_)
   ·omega
   refine o1 ?_;refine o1 ?_ (hC:=(by rw[aR];show 0<l.length;omega))
   refine WL.cast (t:=37) (u':=.int .u8 (((nth l 0):Nat):Int)) rfl (congrArg (fun n:Nat=>Value.int .u8 (n:Int)) (fT (i:=0) (by omega) (by omega))) ?_
   refine o1 ?_;refine o1 ?_;refine nl ?_;refine cE rfl (fun h4=>?_) (fun h4=>?_)
   ·omega
   refine sk ?_;refine sq ?_;refine rl ?_;refine o1 ?_;refine nl ?_;refine sq ?_;refine sq ?_;refine rl ?_;refine o1 ?_;refine Wb (Kw hd) (by omega) ?_
   refine o1 ?_;refine o1 ?_;refine nl ?_;refine bl ?_
   refine lp (γ:=Nat) (fun k=>cK [(5,.one (tv (.string (aL l)))),(6,.one (tv (.int .i64 ((aW (l.take k):Nat):Int)))),(47,.one (.t (.s false 5 1 l.length (bZ l)))),(48,.one (tv (.int .i64 ((l.length:Nat):Int)))),(49,.one (tv (.int .i64 ((k:Nat):Int))))]) (fun _=>([]:List Ob).map some) (fun k=>k≤l.length) (fun k=>l.length-k) 0 (Nat.zero_le _) (bH h0 [] _ _ (by decide) ⟨rfl,rfl,rfl,rfl,rfl,trivial⟩ rfl) fun k hk=>?_
   refine sq ?_;refine rl ?_;refine o1 ?_;refine nl ?_;refine sq ?_;refine cE rfl (fun h5=>?_) (fun h5=>?_)
   ·refine sk ?_;refine sq ?_;refine bl ?_;refine sq ?_;have hdk:=rI hd (k:=k) (by omega)
    have hvk:=Nat.lt_of_lt_of_le (uF (k:=k) hd hk) (Se (by omega))
    refine rl ?_;refine o1 ?_;refine mY ([.v (.int .u8 ((nth l (k):Nat):Int))]) (Rr l (k:=k) (by omega)) ?_
    refine o1 ?_;refine nl ?_;refine sq ?_;refine rl ?_;refine o1 ?_;refine o1 ?_;refine WL.cast (t:=54) (u':=.int .u8 (((nth l k-48):Nat):Int)) rfl (aI (by omega)) ?_
    refine o1 ?_;refine nl ?_;refine sq ?_;refine sq ?_;refine rl ?_;refine o1 ?_;refine o1 ?_;refine nl ?_;refine cE rfl (fun h6=>?_) (fun h6=>?_)
    ·omega
    refine sk ?_;refine rl ?_;refine o1 ?_;refine o1 ?_;refine WL.cast (t:=59) (u':=.int .i64 (((aW (l.take k)*10):Nat):Int)) rfl (aI (by omega)) ?_
    refine o1 ?_;refine o1 ?_;refine WL.cast (t:=61) (u':=.int .i64 (((nth l k-48):Nat):Int)) rfl (aI (by omega)) ?_
    refine o1 ?_;refine WL.cast (t:=62) (u':=.int .i64 (((aW (l.take k)*10+(nth l k-48)):Nat):Int)) rfl (aI (by omega)) ?_
    refine WL.cast (t:=62) (u':=.int .i64 (((aW (l.take k)*10)+(nth l k-48):Nat):Int)) rfl (aI (by omega)) ?_
    refine o1 ?_;refine nl ?_;refine rl ?_;refine o1 ?_;refine WL.cast (t:=63) (u':=.int .i64 ((k+1:Nat):Int)) rfl (aI (by omega)) ?_
    refine o1 ?_;refine nl ?_
    exact⟨k+1,by omega,by omega,bH h0 [] _ _ (by decide) ⟨rfl,qW (congrArg (fun n:Nat=>(n:Int)) (Gu (by omega)).symm),rfl,rfl,rfl,trivial⟩ rfl⟩
   refine ex ?_;refine sq ?_;refine sq ?_;refine rl ?_;refine o1 ?_;refine o1 ?_ (hC:=(by rw[aR];show 0<l.length;omega))
   refine WL.cast (t:=65) (u':=.int .u8 (((nth l 0):Nat):Int)) rfl (congrArg (fun n:Nat=>Value.int .u8 (n:Int)) (fT (i:=0) (by omega) (by omega))) ?_
   refine o1 ?_;refine nl ?_;refine cE rfl (fun h7=>?_) (fun h7=>?_)
   ·omega
   refine sk ?_;refine sq ?_;refine rl ?_;(iterate 3 refine o1 ?_);refine nl ?_;refine rt ?_;have hk9:k=l.length:=by omega
   exact en (.inl rfl) rfl (dN (.cons (bD _) (.cons (bD _) .nil))) (by decide) (fun _=>⟨trivial,trivial,trivial⟩) (by rw[hk9,List.take_of_length_le (Nat.le_refl _)];rfl)
  omega
 omega
theorem rJ {l:List Nat}(hd:∀c∈l,48≤c∧c≤57) (h0l:0<l.length) (h18:l.length≤18):aE true Tryz.prog 49 [] [.one (tv (.string (aL l)))] (bC (.tup [.one (tv (.int .i64 ((aW l:Nat):Int))),.one (tv .nilIface)])):=by
 refine cL Tryz.func49 rfl Tryz.ntmps49 rfl aB rfl fun N9 w9 c0 h0=>?_
 refine sq ?_;refine rl ?_;refine o1 ?_;refine o1 ?_;refine nl ?_;refine sq ?_;refine rl ?_;refine o1 ?_
 refine ca (Kx hd h0l h18) Sd ⟨a1 rfl,rfl⟩ (.tup [.one (tv (.int .i64 ((aW l:Nat):Int))),.one (tv .nilIface)]) ?_;(iterate 5 refine o1 ?_);refine nl ?_;refine sq ?_;refine sq ?_
 refine rl ?_;refine o1 ?_;refine Wd ?_ (by kernel_rfl)
 refine nl ?_;refine gZ rfl ?_;refine sk ?_;refine sq ?_;refine rl ?_;(iterate 3 refine o1 ?_);refine nl ?_;refine rt ?_
 exact en (.inl rfl) rfl (dN (.cons (bD _) (.cons (bD _) .nil))) (by decide) (fun _=>⟨trivial,trivial,trivial⟩) rfl
end Go.Proofs.YteggpgndiajdpaaGreatDoor
namespace Go.Proofs.YteggpgndiajdpaaGreatDoor
open Go Go.Shelf
def lays160_ren:Go.Shelf.Ren:=⟨fun | 160=>48 | 232=>99 | 231=>98 | 227=>100 | 234=>102 | 233=>101 | 236=>104 | 235=>103 | 228=>134 | 271=>137 | 151=>136 | 197=>135 | 120=>153 | 152=>152 | 260=>151 | 137=>159 | 119=>160 | 224=>161 | 225=>162 | 217=>166 | 266=>168 | n=>n,fun | 9=>9 | 4=>4 | 3=>3 | 5=>5 | 117=>127 | 116=>126 | 0=>0 | 124=>130 | 21=>21 | 105=>151 | 46=>85 | 119=>175 | 139=>178 | 138=>177 | n=>n,fun | 3=>3 | 4=>4 | n=>n⟩
theorem Ky:Go.Proofs.Lays.n160 Tryz.prog lays160_ren:={
 mixed:=by kernel_rfl
 f119:=Tryz.func160.trans (congrArg some (by kernel_rfl))
 f120:=Tryz.func153.trans (congrArg some (by kernel_rfl))
 f137:=Tryz.func159.trans (congrArg some (by kernel_rfl))
 f151:=Tryz.func136.trans (congrArg some (by kernel_rfl))
 f152:=Tryz.func152.trans (congrArg some (by kernel_rfl))
 f160:=Tryz.func48.trans (congrArg some (by kernel_rfl))
 f197:=Tryz.func135.trans (congrArg some (by kernel_rfl))
 f217:=Tryz.func166.trans (congrArg some (by kernel_rfl))
 f224:=Tryz.func161.trans (congrArg some (by kernel_rfl))
 f225:=Tryz.func162.trans (congrArg some (by kernel_rfl))
 f227:=Tryz.func100.trans (congrArg some (by kernel_rfl))
 f228:=Tryz.func134.trans (congrArg some (by kernel_rfl))
 f231:=Tryz.func98.trans (congrArg some (by kernel_rfl))
 f232:=Tryz.func99.trans (congrArg some (by kernel_rfl))
 f233:=Tryz.func101.trans (congrArg some (by kernel_rfl))
 f234:=Tryz.func102.trans (congrArg some (by kernel_rfl))
 f235:=Tryz.func103.trans (congrArg some (by kernel_rfl))
 f236:=Tryz.func104.trans (congrArg some (by kernel_rfl))
 f260:=Tryz.func151.trans (congrArg some (by kernel_rfl))
 f266:=Tryz.func168.trans (congrArg some (by kernel_rfl))
 f271:=Tryz.func137.trans (congrArg some (by kernel_rfl))
 t0:=Tryz.underlying0
 a0:=Tryz.isAgg0
 z0:=Tryz.sizeOf0
 v0:=Tryz.zeroValue0
 t3:=Tryz.underlying3
 a3:=Tryz.isAgg3
 z3:=Tryz.sizeOf3
 v3:=Tryz.zeroValue3
 t4:=Tryz.underlying4
 a4:=Tryz.isAgg4
 z4:=Tryz.sizeOf4
 v4:=Tryz.zeroValue4
 t5:=Tryz.underlying5
 a5:=Tryz.isAgg5
 z5:=Tryz.sizeOf5
 v5:=Tryz.zeroValue5
 t9:=Tryz.underlying9
 a9:=Tryz.isAgg9
 z9:=Tryz.sizeOf9
 v9:=Tryz.zeroValue9
 t21:=Tryz.underlying21
 a21:=Tryz.isAgg21
 z21:=Tryz.sizeOf21
 v21:=Tryz.zeroValue21
 t46:=Tryz.underlying85
 a46:=Tryz.isAgg85
 z46:=Tryz.sizeOf85
 v46:=Tryz.zeroValue85
 t105:=Tryz.underlying151
 a105:=Tryz.isAgg151
 z105:=Tryz.sizeOf151
 v105:=Tryz.zeroValue151
 t116:=Tryz.underlying126
 a116:=Tryz.isAgg126
 z116:=Tryz.sizeOf126
 t117:=Tryz.underlying127
 a117:=Tryz.isAgg127
 z117:=Tryz.sizeOf127
 v117:=Tryz.zeroValue127
 t119:=Tryz.underlying175
 a119:=Tryz.isAgg175
 z119:=Tryz.sizeOf175
 t124:=Tryz.underlying130
 a124:=Tryz.isAgg130
 z124:=Tryz.sizeOf130
 v124:=Tryz.zeroValue130
 t138:=Tryz.underlying177
 a138:=Tryz.isAgg177
 z138:=Tryz.sizeOf177
 v138:=Tryz.zeroValue177
 t139:=Tryz.underlying178
 a139:=Tryz.isAgg178
 z139:=Tryz.sizeOf178
 v139:=Tryz.zeroValue178
 g3:=by kernel_rfl
 g4:=by kernel_rfl}
end Go.Proofs.YteggpgndiajdpaaGreatDoor
namespace Go.Proofs.YteggpgndiajdpaaGreatDoor
open Go Go.RowKit
section
variable {f:FuncId}{args:List FV}
theorem iY {xs:List Nat}(h:∀(N:Nat→Prop) (w:World) us,bP w N [] args us→(∀b,N b→b<w.heap.size)→Calls Tryz.prog f us.toArray w (gR xs w)):aE true Tryz.prog f [] args (bC (.one (.t (sU true xs)))):=by
 intro N w cs us hL
 obtain⟨rfl,hf⟩:=lQ hL
 refine(h _ w us hf (fun b hb=>hb.1)).mono ?_
 rintro e W ⟨A,n,c,rfl,ho,hb⟩
 obtain⟨y1,a1,a2,a3,a4⟩:=lP (N:=fun b=>true=false∧(b<W.heap.size∧b∉VT.fpL [])∧(N b∨w.heap.size≤b)) ho
 refine .mk0 (y:=[y1]) rfl hb (by simp only[VT.okL];exact⟨a3,trivial⟩) ?_ (fun b hb'=>?_) ?_
 ·simp only[VT.fpL,a4,List.append_nil]
  cases A <;> simp[Value.ownBlock]
 ·simp only[VT.fpL,a4,List.append_nil]at hb'
  exact ho.blk b hb'
 exact⟨y1,rfl,a1.symm,eY (fun _ _=>rfl) (fun b hb=>absurd hb.1 (by simp)) _ _ a2⟩
variable {xs ys:List Nat}
theorem eQ {W:World}{N:Nat→Prop}{v:Value}(h:aX W N [] (.one (.t (sU false xs))) v) (hl:Lim 4294967296 xs) (hN:∀b,N b→b<W.heap.size):∃A c,v=.slice A xs.length c∧U32 W W.heap.size A xs.length c xs:=by
 simp only[aX,AR]at h
 obtain⟨A,c,rfl,l⟩:=sQ h hl
 exact⟨A,c,rfl,l.u32 hN⟩
theorem Ph (hx:Lim 4294967296 xs) (h:xs.length≤1099511627776):aE true Tryz.prog 56 [] [.one (.t (sU false xs))] (bC (.one (.t (sU true (trim xs))))):=iY fun N w us hf hN=>by
 obtain⟨u,rfl,h1⟩:=Gn hf
 obtain⟨A,c,rfl,u1⟩:=eQ h1 hx hN
 exact cU A _ c xs w u1 h
theorem Sf (hx:Lim 4294967296 xs) (hy:Lim 4294967296 ys):aE true Tryz.prog 67 [] [.one (.t (sU false xs)),.one (.t (sU false ys))] (bC (.one (tv (.int .i64 (gS (vl 4294967296 xs) (vl 4294967296 ys)))))):=wG fun N w us hf hN=>by
 obtain⟨u,v,rfl,h1,h2⟩:=oG hf
 obtain⟨A,c,rfl,u1⟩:=eQ h1 hx hN
 obtain⟨B,d,rfl,u2⟩:=eQ h2 hy hN
 exact(jX A B _ _ c d xs ys _ w u1 u2).mono fun e W ⟨he,k,hk⟩=>⟨he,hk▸dJ (Below.refl _ _) k⟩
theorem Be (hx:Lim 4294967296 xs) (hy:Lim 4294967296 ys) (h:xs.length≤1099511627776) (h':ys.length≤1099511627776):aE true Tryz.prog 50 [] [.one (.t (sU false xs)),.one (.t (sU false ys))] (bC (.one (.t (sU true (dg 4294967296 (vl 4294967296 xs+vl 4294967296 ys)))))):=iY fun N w us hf hN=>by
 obtain⟨u,v,rfl,h1,h2⟩:=oG hf
 obtain⟨A,c,rfl,u1⟩:=eQ h1 hx hN
 obtain⟨B,d,rfl,u2⟩:=eQ h2 hy hN
 exact Gh A B _ _ c d xs ys w u1 u2 h h'
theorem Sg (hx:Lim 4294967296 xs) (hy:Lim 4294967296 ys) (h:xs.length≤549755813888) (h':ys.length≤549755813888):aE true Tryz.prog 44 [] [.one (.t (sU false xs)),.one (.t (sU false ys))] (bC (.one (.t (sU true (dg 4294967296 (vl 4294967296 xs*vl 4294967296 ys)))))):=iY fun N w us hf hN=>by
 obtain⟨u,v,rfl,h1,h2⟩:=oG hf
 obtain⟨A,c,rfl,u1⟩:=eQ h1 hx hN
 obtain⟨B,d,rfl,u2⟩:=eQ h2 hy hN
 exact Jy A B _ _ c d xs ys w u1 u2 h h'
theorem Gv {W:World}{N:Nat→Prop}{t:Nat}{v:Value}(h:aX W N [] (.one (.t (.s false t 1 2 [sU false xs,sU false ys]))) v) (hx:Lim 4294967296 xs) (hy:Lim 4294967296 ys) (hN:∀b,N b→b<W.heap.size):∃A c,v=.slice A 2 c∧URows W W.heap.size A 2 c [xs,ys]:=by
 simp only[aX,AR,FR]at h
 obtain⟨A,c,rfl,h1,h2,_,h4⟩:=h
 rcases h4 with h4 | ⟨ad,rfl,h5,h6⟩
 ·omega
 obtain⟨u0,e0,f0⟩:=iA h6 (j:=0) rfl
 obtain⟨u1,e1,f1⟩:=iA h6 (j:=1) rfl
 obtain⟨A0,c0,rfl,l0⟩:=sQ f0 hx
 obtain⟨A1,c1,rfl,l1⟩:=sQ f1 hy
 rw[Nat.zero_add]at e0 e1
 refine⟨_,c,rfl,rfl,h1,h2,fun k hk=>?_⟩
 obtain⟨b,o,sp⟩:=ad
 match k,hk with
 | 0,_=>exact⟨b,o,sp,A0,_,c0,rfl,hN _ h5,e0,l0.u32 hN⟩
 | 1,_=>exact⟨b,o,sp,A1,_,c1,rfl,hN _ h5,e1,l1.u32 hN⟩
theorem Si {t:Nat}(hx:Lim 4294967296 xs) (hy:Lim 4294967296 ys) (h:xs.length≤549755813888) (h':ys.length≤549755813888):aE true Tryz.prog 46 [] [.one (.t (.s false t 1 2 [sU false xs,sU false ys]))] (bC (.one (.t (sU true (dg 4294967296 (jY [xs,ys])))))):=iY fun N w us hf hN=>by
 obtain⟨u,rfl,h1⟩:=Gn hf
 obtain⟨A,c,rfl,u1⟩:=Gv h1 hx hy hN
 exact Kf A 2 c [xs,ys] w u1 (by omega) (fun k hk=>by match k,hk with | 0,_=>exact h | 1,_=>exact h')
theorem oH (A:Option Addr) (n c:Nat):((Value.slice A n c).ownBlock.toList).Nodup:=by cases A <;> simp[Value.ownBlock]
theorem Bf (hx:Lim 4294967296 xs) (hy:Lim 4294967296 ys) (h:xs.length≤1099511627776) (hle:vl 4294967296 ys≤vl 4294967296 xs):aE true Tryz.prog 77 [] [.one (.t (sU false xs)),.one (.t (sU false ys))] (bC (.tup [.one (.t (sU true (dg 4294967296 (vl 4294967296 xs-vl 4294967296 ys)))),.one (tv (.int .i64 0))])):=by
 intro N w cs us hL
 obtain⟨rfl,hf⟩:=lQ hL
 obtain⟨u,v,rfl,h1,h2⟩:=oG hf
 obtain⟨A,c,rfl,u1⟩:=eQ h1 hx fun b hb=>hb.1
 obtain⟨B,d,rfl,u2⟩:=eQ h2 hy fun b hb=>hb.1
 refine(Gi A B _ _ c d xs ys w u1 u2 h hle).mono ?_
 rintro e W ⟨A,n,c,rfl,ho,hb⟩
 obtain⟨y1,a1,a2,a3,a4⟩:=lP (N:=fun b=>true=false∧(b<W.heap.size∧b∉VT.fpL [])∧(N b∨w.heap.size≤b)) ho
 refine .mk0 (y:=[y1,.w (.int .i64 0)]) rfl hb (by simp only[VT.okL,VT.ok];exact⟨a3,trivial,trivial⟩) ?_ (fun b hb'=>?_) ?_
 ·simp only[VT.fpL,VT.fp,a4,List.append_nil]
  exact oH A n c
 ·simp only[VT.fpL,VT.fp,a4,List.append_nil]at hb'
  exact ho.blk b hb'
 refine⟨[_,_],rfl,?_⟩
 exact⟨_,_,[y1],[.w (.int .i64 0)],rfl,rfl,⟨y1,rfl,a1.symm,eY (fun _ _=>rfl) (fun b hb=>absurd hb.1 (by simp)) _ _ a2⟩,_,_,[.w (.int .i64 0)],[],rfl,rfl,⟨_,rfl,rfl,by simp[CR,tv,OR]⟩,rfl,rfl⟩
theorem Gw (hx:Lim 4294967296 xs) (hy:Lim 4294967296 ys) (h:xs.length≤549755813888) (h':ys.length≤549755813888) (h0:vl 4294967296 ys≠0):aE true Tryz.prog 45 [] [.one (.t (sU false xs)),.one (.t (sU false ys))] (bC (.tup [.one (.t (sU true (dg 4294967296 (vl 4294967296 xs/vl 4294967296 ys)))),.one (.t (sU true (dg 4294967296 (vl 4294967296 xs%vl 4294967296 ys)))),.one (tv (.int .i64 0))])):=by
 intro N w cs us hL
 obtain⟨rfl,hf⟩:=lQ hL
 obtain⟨u,v,rfl,h1,h2⟩:=oG hf
 obtain⟨A,c,rfl,u1⟩:=eQ h1 hx fun b hb=>hb.1
 obtain⟨B,d,rfl,u2⟩:=eQ h2 hy fun b hb=>hb.1
 refine(rD A B _ _ c d xs ys w u1 u2 h h' h0).mono ?_
 rintro e W ⟨A1,n1,c1,A2,n2,c2,rfl,ho,ho2,hap,hb⟩
 obtain⟨y1,a1,a2,a3,a4⟩:=lP (N:=fun b=>true=false∧(b<W.heap.size∧b∉VT.fpL [])∧(N b∨w.heap.size≤b)) ho
 obtain⟨y2,b1,b2,b3,b4⟩:=lP (N:=fun b=>true=false∧(b<W.heap.size∧b∉VT.fpL [])∧(N b∨w.heap.size≤b)) ho2
 refine .mk0 (y:=[y1,y2,.w (.int .i64 0)]) rfl hb (by simp only[VT.okL,VT.ok];exact⟨a3,b3,trivial,trivial⟩) ?_ (fun b hb'=>?_) ?_
 ·simp only[VT.fpL,VT.fp,a4,b4,List.append_nil]
  rw[List.nodup_append]
  refine⟨oH ..,oH ..,fun x hx y hy e=>?_⟩
  subst e
  rcases A1 with _ | a
  ·simp[Value.ownBlock]at hx
  rcases A2 with _ | b
  ·simp[Value.ownBlock]at hy
  simp[Value.ownBlock]at hx hy
  exact hap a b rfl rfl (by rw[←hx,←hy])
 ·simp only[VT.fpL,VT.fp,a4,b4,List.append_nil]at hb'
  rcases List.mem_append.1 hb' with hb' | hb'
  ·exact ho.blk b hb'
  exact ho2.blk b hb'
 refine⟨[_,_,_],rfl,?_⟩
 exact⟨_,_,[y1],[y2,.w (.int .i64 0)],rfl,rfl,⟨y1,rfl,a1.symm,eY (fun _ _=>rfl) (fun b hb=>absurd hb.1 (by simp)) _ _ a2⟩,_,_,[y2],[.w (.int .i64 0)],rfl,rfl,⟨y2,rfl,b1.symm,eY (fun _ _=>rfl) (fun b hb=>absurd hb.1 (by simp)) _ _ b2⟩,_,_,[.w (.int .i64 0)],[],rfl,rfl,⟨_,rfl,rfl,by simp[CR,tv,OR]⟩,rfl,rfl⟩
end
section
variable {xs:List Nat}
theorem Bg {d:Nat}(hx:Lim 4294967296 xs) (h:xs.length≤1099511627776) (hd0:0<d) (hd:d<4294967296):aE true Tryz.prog 57 [] [.one (.t (sU false xs)),.one (tv (.int .u32 (d:Int)))] (bC (.tup [.one (.t (sU true (dg 4294967296 (vl 4294967296 xs/d)))),.one (tv (.int .u32 ((vl 4294967296 xs%d:Nat):Int))),.one (tv (.int .i64 0))])):=by
 intro N w cs us hL
 obtain⟨rfl,hf⟩:=lQ hL
 obtain⟨u,v,rfl,h1,h2⟩:=oG hf
 obtain⟨A,c,rfl,u1⟩:=eQ h1 hx fun b hb=>hb.1
 obtain rfl:=aD (fH h2)
 refine(jD A _ c d xs w u1 h hd0 hd).mono ?_
 rintro e W ⟨A,n,c,rfl,ho,hb⟩
 obtain⟨y1,a1,a2,a3,a4⟩:=lP (N:=fun b=>true=false∧(b<W.heap.size∧b∉VT.fpL [])∧(N b∨w.heap.size≤b)) ho
 refine .mk0 (y:=[y1,.w (.int .u32 ((vl 4294967296 xs%d:Nat):Int)),.w (.int .i64 0)]) rfl hb (by simp only[VT.okL,VT.ok];exact⟨a3,trivial,trivial,trivial⟩) ?_ (fun b hb'=>?_) ?_
 ·simp only[VT.fpL,VT.fp,a4,List.append_nil]
  exact oH A n c
 ·simp only[VT.fpL,VT.fp,a4,List.append_nil]at hb'
  exact ho.blk b hb'
 refine⟨[_,_,_],rfl,?_⟩
 exact⟨_,_,[y1],[.w _,.w (.int .i64 0)],rfl,rfl,⟨y1,rfl,a1.symm,eY (fun _ _=>rfl) (fun b hb=>absurd hb.1 (by simp)) _ _ a2⟩,_,_,[.w _],[.w (.int .i64 0)],rfl,rfl,⟨_,rfl,rfl,by simp[CR,tv,OR]⟩,_,_,[.w (.int .i64 0)],[],rfl,rfl,⟨_,rfl,rfl,by simp[CR,tv,OR]⟩,rfl,rfl⟩
theorem Kz {v:Nat}(hx:Lim 4294967296 xs) (h:xs.length≤1099511627776) (hv:vl 4294967296 xs=v):aE true Tryz.prog 56 [] [.one (.t (sU false xs))] (bC (.one (.t (sU true (dg 4294967296 v))))):=by
 have e:=cM (B:=4294967296) (by omega) hx
 rw[←hv,e]
 exact Ph hx h
theorem Pi {u d:Nat}(h:(dg 4294967296 u).length≤1099511627776) (hd0:0<d) (hd:d<4294967296):aE true Tryz.prog 57 [] [.one (.t (sU false (dg 4294967296 u))),.one (tv (.int .u32 (d:Int)))] (bC (.tup [.one (.t (sU true (dg 4294967296 (u/d)))),.one (tv (.int .u32 ((u%d:Nat):Int))),.one (tv (.int .i64 0))])):=by
 have e:=bM (B:=4294967296) (by omega) u
 have h2:=Bg (xs:=dg 4294967296 u) (d:=d) (aQ (by omega) _) h hd0 hd
 rw[e]at h2
 exact h2
end
theorem wJ {l:List Nat}(hn:l.length≤1000000):aE true Tryz.prog 48 [] [.one (tv (.string (aL l))),.one (tv (.string ⟨#[48,49,50,51,52,53,54,55,56,57]⟩))] (bC (.one (tv (.string ⟨(Lib.trimS (aL l).data.toList [48,49,50,51,52,53,54,55,56,57]).toArray⟩)))):=wG fun N w us hf hN=>by
 obtain⟨u,v,rfl,h1,h2⟩:=oG hf
 obtain rfl:=aD (fH h1)
 obtain rfl:=aD (fH h2)
 exact Go.Proofs.Any.strings_Trim_laid Ky (by kernel_rfl) (aL l) ⟨#[48,49,50,51,52,53,54,55,56,57]⟩ w (by rw[aR];omega) (by decide) (fun j b h=>(by decide:∀b∈([48,49,50,51,52,53,54,55,56,57]:List UInt8),b.toNat<128) b (List.mem_of_getElem? h))
theorem wK {α:Type}{p:α→Bool}:∀{l:List α},l.dropWhile p=[]↔∀x∈l,p x=true
 | []=>by simp
 | x::l=>by
  rw[List.dropWhile_cons]
  by_cases h:p x=true
  ·rw[if_pos h,wK];simp[h]
  rw[if_neg h];simp[h]
theorem Ea {l cs:List UInt8}:Lib.trimS l cs=[]↔∀x∈l,cs.contains x=true:=by
 unfold Lib.trimS Lib.trimLeftS Lib.trimRightS
 rw[wK]
 refine⟨fun h=>?_,fun h x hx=>h x (by simpa using(List.dropWhile_sublist _).subset (List.mem_reverse.1 hx))⟩
 cases hq:l.reverse.dropWhile (cs.contains ·)with
 | nil=>exact fun x hx=>wK.1 hq x (List.mem_reverse.2 hx)
 | cons y ys=>
  have h1:=h y (by rw[hq];simp)
  have h2:=List.head?_dropWhile_not (cs.contains ·) l.reverse
  rw[hq]at h2
  simp at h2
  exact absurd (by simpa using h1) h2
theorem Bh {xs:List Nat}{m:Nat}(hx:Lim 4294967296 xs) (h:xs.length≤1099511627776) (hm:m<4294967296):aE true Tryz.prog 51 [] [.one (.t (sU false xs)),.one (tv (.int .u32 (m:Int)))] (bC (.one (.t (sU true (dg 4294967296 (vl 4294967296 xs*m)))))):=iY fun N w us hf hN=>by
 obtain⟨u,v,rfl,h1,h2⟩:=oG hf
 obtain⟨A,c,rfl,u1⟩:=eQ h1 hx hN
 obtain rfl:=aD (fH h2)
 exact nA A _ c m xs w u1 h hm
theorem Eb {xs:List Nat}(hx:xs.length≤4398046511104):aE false Tryz.prog 146 [] [.one (.t (sI false xs))] (bC (.one (.t (sI false (trim xs))))):=by
 refine cL Tryz.func146 rfl Tryz.ntmps146 rfl aB rfl fun N w c0 h0=>?_
 refine sq ?_;refine rl ?_;refine o1 ?_;refine nl ?_;refine sq ?_;refine bl ?_
 refine lp (γ:=List Nat) (fun zs=>cK [(0,.one (.t (sI false zs)))]) (fun _=>([]:List Ob).map some) (fun zs=>trim zs=trim xs∧zs.length≤xs.length) (fun zs=>zs.length) xs ⟨rfl,Nat.le_refl _⟩ (bH h0 [] _ _ (by decide) ⟨rfl,trivial⟩ rfl) fun zs hz=>?_
 refine sq ?_;refine sq ?_;refine rl ?_;(iterate 4 refine o1 ?_);refine WL.split (t:=6) rfl (fun h1=>?_) (fun h1=>?_)
 ·(iterate 4 refine o1 ?_);refine WL.cast (t:=10) (u':=.int .i64 ((zs.length-1:Nat):Int)) rfl (aI (by omega)) ?_
  refine o1 ?_;refine mY ([.v (.int .i64 ((nth zs (zs.length-1):Nat):Int))]) (lS zs (k:=zs.length-1) (by omega)) ?_
  refine o1 ?_;refine o1 ?_;refine nl ?_;refine cE rfl (fun h2=>?_) (fun h2=>?_)
  ·refine sk ?_;refine bl ?_;refine rl ?_;(iterate 4 refine o1 ?_);refine WL.cast (t:=18) (u':=.int .i64 ((zs.length-1:Nat):Int)) rfl (aI (by omega)) ?_
   refine o1 ?_;refine o1 ?_;refine nl ?_
   exact⟨zs.take (zs.length-1),by rw[List.length_take];omega,⟨(by rw[sY (xs:=zs) (k:=zs.length) (by omega) (Nat.le_refl _) (by omega),List.take_length];exact hz.1),by rw[List.length_take];omega⟩,bH h0 [] _ _ (by decide) ⟨congrArg some (Pd (by omega)).symm,trivial⟩ rfl⟩
  refine ex ?_;refine sq ?_;refine rl ?_;refine o1 ?_;refine o1 ?_;refine nl ?_;refine rt ?_;refine en (.inl rfl) rfl (bV (.one (.id rfl))) (by decide) (fun h=>by cases h) ?_
  have hx:trim xs=zs:=by
   rw[←hz.1];have h9:=nF (xs:=zs) (k:=zs.length) (by omega) (Nat.le_refl _) (by omega)
   rwa[List.take_length]at h9
  rw[hx];rfl
 (iterate 7 refine dL ?_);refine o1 ?_;refine nl ?_;refine gZ rfl ?_;refine ex ?_;refine sq ?_;refine rl ?_;refine o1 ?_;refine o1 ?_;refine nl ?_;refine rt ?_
 refine en (.inl rfl) rfl (bV (.one (.id rfl))) (by decide) (fun h=>by cases h) ?_
 have hx:trim xs=zs:=by
  have h9:zs=[]:=List.eq_nil_of_length_eq_zero (by omega)
  rw[←hz.1,h9];rfl
 rw[hx];rfl
theorem fF {xs:List Nat}(hx:xs.length≤1099511627776) (hl:Lim 4294967296 xs):aE false Tryz.prog 119 [] [.one (.t (sU false xs))] (bC (.one (.t (sI false (dg 65536 (vl 4294967296 xs)))))):=by
 refine cL Tryz.func119 rfl Tryz.ntmps119 rfl aB rfl fun N w c0 h0=>?_
 refine sq ?_;refine rl ?_;refine o1 ?_;refine nl ?_;refine sq ?_;refine rl ?_;refine o1 ?_;refine nl ?_;refine sq ?_;refine sq ?_;refine rl ?_;refine o1 ?_;refine nl ?_;refine bl ?_
 refine lp (γ:=Nat) (fun k=>cK [(0,.one (.t (sU false xs))),(3,.one (.sl 0 0 (2*k))),(4,.one (tv (.int .i64 ((k:Nat):Int))))]) (fun k=>[(⟨3,1,(cX (hv (xs.take k))).map .t⟩:Ob)].map some) (fun k=>k≤xs.length) (fun k=>xs.length-k) 0 (Nat.zero_le _) ((nr (i:=3) 0 3 1 rfl rfl rfl rfl).trans (bH h0 [0] _ _ (by decide) ⟨rfl,rfl,rfl,trivial⟩ ⟨cY (l:=[]) rfl,rfl⟩)) fun k hk=>?_
 have hn:=hl.nth (by omega) k
 refine sq ?_;refine sq ?_;refine rl ?_;(iterate 4 refine o1 ?_);refine nl ?_;refine cE rfl (fun h1=>?_) (fun h1=>?_)
 ·refine sk ?_;refine sq ?_;refine bl ?_;refine rd [] (fun i=>[15].contains i) mixed ?_
  refine dv 0 ?_;refine dv 1 ?_;refine dv 2 ?_;refine dv 3 ?_;refine Ic 4 ([.v (.int .u32 ((nth xs (k):Nat):Int))]) (gV xs (k:=k) (by omega)) ?_
  refine dv 5 ?_;refine WD.cast (t:=16) (u':=.int .u32 ((nth xs k%65536:Nat):Int)) rfl (aI (fN _ 65536)) ?_;refine dv 6 ?_;refine dv 7 ?_;refine dv 8 ?_;refine dv 9 ?_
  refine Ic 10 ([.v (.int .u32 ((nth xs (k):Nat):Int))]) (gV xs (k:=k) (by omega)) ?_
  refine dv 11 ?_ (hC:=(kA 65536 (by omega) (by simp only[fA];omega)))
  refine WD.cast (t:=22) (u':=.int .u32 ((nth xs k/65536:Nat):Int)) rfl (aI (gG _ 65536)) ?_;refine dv 12 ?_;refine Ag (key:=1) 13 (by kernel_rfl) rfl rfl aB rfl trivial ?_
  refine Ra (j:=2) 14 rfl aB rfl rfl rfl (.sl rfl (by rw[List.length_map,iI,rG,List.length_take];omega)) (.sl rfl rfl rfl) rfl rfl (by omega) (by omega) rfl rfl (by kernel_rfl) rfl ?_
  refine nY 15 (by kernel_rfl) rfl rfl aB rfl (by trivial) ?_ (fun h=>by first | rfl | cases h)
  refine cR ?_;refine rl ?_;(iterate 3 refine o1 ?_);refine nl ?_
  exact⟨k+1,by omega,by omega,bH h0 [2] _ _ (by decide) ⟨rfl,rfl,rfl,trivial⟩ ⟨Dy rfl (jZ _ [nth xs k%65536,nth xs k/65536]) (Kk (by omega)).symm,rfl⟩⟩
 refine ex ?_;refine sq ?_;refine rl ?_;refine WL.sub (Ir (i:=3) (zs':=hv xs) rfl rfl rfl (by rw[rG,List.length_take];omega) (by rw[List.take_of_length_le (by omega)])) ?_
 refine o1 ?_;refine ca (Eb (by rw[rG];omega)) Ib ⟨a1 rfl,rfl⟩ (.one (.t (sI false (trim (hv xs))))) ?_
 refine o1 ?_;refine nl ?_;refine rt ?_;exact en (.inl rfl) rfl (bV (.one (.id rfl))) (by decide) (fun h=>by cases h) (by rw[Sb hl];rfl)
theorem mR {xs:List Nat}(hx:xs.length≤4398046511104) (hl:Lim 65536 xs):aE true Tryz.prog 121 [] [.one (.t (sI false xs))] (bC (.one (.t (sU true (dg 4294967296 (vl 65536 xs)))))):=by
 refine cL Tryz.func121 rfl Tryz.ntmps121 rfl aB rfl fun N w c0 h0=>?_
 refine sq ?_;refine rl ?_;refine o1 ?_;refine nl ?_;refine sq ?_;refine rl ?_;refine o1 ?_;refine nl ?_;refine sq ?_;refine rl ?_;refine o1 ?_
 refine ca (Eb hx) Ib ⟨a1 rfl,rfl⟩ (.one (.t (sI false (trim xs)))) ?_;refine o1 ?_;refine nl ?_;refine sq ?_;refine sq ?_;have htl:=bK xs
 have hlt:=hl.trim
 generalize hY:trim xs=ys at htl hlt;refine rl ?_;refine o1 ?_;refine nl ?_;refine bl ?_
 refine lp (γ:=Nat) (fun k=>cK [(0,.one (.t (sI false ys))),(3,.one (.sl 0 0 k)),(4,.one (tv (.int .i64 ((2*k:Nat):Int))))]) (fun k=>[(⟨22,1,(aS (lb (ys.take (2*k)))).map .t⟩:Ob)].map some) (fun k=>2*k≤ys.length+1) (fun k=>ys.length+1-2*k) 0 (Nat.zero_le _) ((nr (i:=3) 0 22 1 rfl rfl rfl rfl).trans (bH h0 [0] _ _ (by decide) ⟨rfl,rfl,rfl,trivial⟩ ⟨cY (l:=[]) rfl,rfl⟩)) fun k hk=>?_
 have hn:=hlt.nth (by omega) (2*k)
 have hn2:=hlt.nth (by omega) (2*k+1)
 refine sq ?_;refine sq ?_;refine rl ?_;(iterate 4 refine o1 ?_);refine nl ?_;refine cE rfl (fun h1=>?_) (fun h1=>?_)
 ·refine sk ?_;refine sq ?_;refine bl ?_;refine sq ?_;refine rl ?_;refine o1 ?_;refine nl ?_;refine sq ?_;refine sq ?_;refine rl ?_;refine o1 ?_;refine o1 ?_
  refine WL.cast (t:=15) (u':=.int .i64 ((2*k+1:Nat):Int)) rfl (aI (by omega)) ?_
  (iterate 3 refine o1 ?_);refine nl ?_;refine cE rfl (fun h2=>?_) (fun h2=>?_)
  ·refine rl ?_;(iterate 3 refine o1 ?_);refine WL.cast (t:=21) (u':=.int .i64 ((2*k+1:Nat):Int)) rfl (aI (by omega)) ?_
   refine o1 ?_;refine mY ([.v (.int .i64 ((nth ys (2*k+1):Nat):Int))]) (lS ys (k:=2*k+1) (by omega)) ?_
   refine o1 ?_;refine nl ?_;refine rl ?_;(iterate 4 refine o1 ?_);refine mY ([.v (.int .i64 ((nth ys (2*k):Nat):Int))]) (lS ys (k:=2*k) (by omega)) ?_
   (iterate 5 refine o1 ?_);refine WL.cast (t:=33) (u':=.int .u32 ((nth ys (2*k)+65536*nth ys (2*k+1):Nat):Int)) rfl (aI (by omega)) ?_
   refine bs 1 ?_;refine mJ (j:=2) aB rfl rfl rfl rfl (.sl rfl (by rw[List.length_map,fY,lR,List.length_take];omega)) (.sl rfl rfl rfl) rfl rfl rfl (by omega) (by omega) ?_
   refine o1 ?_;refine nl ?_;refine rl ?_;(iterate 3 refine o1 ?_);refine nl ?_
   exact⟨k+1,by omega,by omega,bH h0 [2] _ _ (by decide) ⟨rfl,rfl,rfl,trivial⟩ ⟨Tf rfl (wI _ [nth ys (2*k)+65536*nth ys (2*k+1)]) (sR (by omega)).symm,rfl⟩⟩
  have hz:=dE (l:=ys) (k:=2*k+1) (by omega)
  refine sk ?_;refine rl ?_;(iterate 4 refine o1 ?_);refine mY ([.v (.int .i64 ((nth ys (2*k):Nat):Int))]) (lS ys (k:=2*k) (by omega)) ?_
  (iterate 5 refine o1 ?_);refine WL.cast (t:=33) (u':=.int .u32 ((nth ys (2*k)+65536*nth ys (2*k+1):Nat):Int)) rfl (aI (by omega)) ?_
  refine bs 1 ?_;refine mJ (j:=2) aB rfl rfl rfl rfl (.sl rfl (by rw[List.length_map,fY,lR,List.length_take];omega)) (.sl rfl rfl rfl) rfl rfl rfl (by omega) (by omega) ?_
  refine o1 ?_;refine nl ?_;refine rl ?_;(iterate 3 refine o1 ?_);refine nl ?_
  exact⟨k+1,by omega,by omega,bH h0 [2] _ _ (by decide) ⟨rfl,rfl,rfl,trivial⟩ ⟨Tf rfl (wI _ [nth ys (2*k)+65536*nth ys (2*k+1)]) (sR (by omega)).symm,rfl⟩⟩
 refine ex ?_;refine sq ?_;refine rl ?_;refine o1 ?_;refine o1 ?_;refine nl ?_;refine rt ?_
 exact en (.inl rfl) rfl (bV (.one (.sl (trs:=aS (lb ys)) rfl rfl (by rw[List.take_of_length_le (l:=ys) (by omega),List.take_of_length_le (by simp[fY,lR];omega)]) (by rw[fY,lR];omega)))) (by decide) (fun _=>.inl ⟨rfl,eM _⟩) (by rw[←Sc,cM (by omega) hl,hY];unfold sU;rw[show k=(lb ys).length by rw[lR];omega];rfl)
theorem iP {xs:List Nat}{k:Nat}:aE true Tryz.prog 120 [] [.one (.t (sI false xs)),.one (tv (.int .i64 ((k:Nat):Int)))] (bC (.one (tv (.int .i64 ((nth xs k:Nat):Int))))):=by
 refine cL Tryz.func120 rfl Tryz.ntmps120 rfl aB rfl fun N w c0 h0=>?_
 refine sq ?_;refine rl ?_;refine o1 ?_;refine nl ?_;refine sq ?_;refine sq ?_;refine rl ?_;(iterate 4 refine o1 ?_);refine nl ?_;refine cE rfl (fun h1=>?_) (fun h1=>?_)
 ·refine sq ?_;refine rl ?_;(iterate 3 refine o1 ?_);refine mY ([.v (.int .i64 ((nth xs (k):Nat):Int))]) (lS xs (k:=k) (by omega)) ?_
  refine o1 ?_;refine nl ?_;refine rt ?_;refine en (.inl rfl) rfl (bV (bD _)) (by decide) (fun _=>trivial) ?_
  rfl
 refine sk ?_;refine sq ?_;refine rl ?_;refine o1 ?_;refine nl ?_;refine rt ?_;refine en (.inl rfl) rfl (bV (bD _)) (by decide) (fun _=>trivial) ?_
 rw[dE (by omega)];rfl
theorem La {xs:List Nat}(hx:xs.length≤1099511627776) (hlx:Lim 4294967296 xs):aE true Tryz.prog 122 [] [.one (.t (sU false xs))] (bC (.one (.t (sU true (dg 4294967296 (vl 4294967296 xs)))))):=by
 refine cL Tryz.func122 rfl Tryz.ntmps122 rfl aB rfl fun N w c0 h0=>?_
 have hd:=eN (v:=vl 4294967296 xs) (L:=xs.length) (by rw[cM (by omega) hlx];exact bK _)
 have hl9:=aQ (B:=65536) (by omega) (vl 4294967296 xs)
 refine sq ?_;refine rl ?_;refine o1 ?_;refine nl ?_;refine sq ?_;refine rl ?_;refine o1 ?_
 refine ca (fF hx hlx) mK ⟨a1 rfl,rfl⟩ (.one (.t (sI false (dg 65536 (vl 4294967296 xs))))) ?_;refine hH 0 (mR (by omega) (by assumption)) uC ⟨a1 rfl,rfl⟩ ?_
 refine o1 ?_;refine nl ?_;refine rt ?_
 exact en (.inl rfl) rfl (bV (.one (.sl (trs:=aS (dg 4294967296 (vl 65536 (dg 65536 (vl 4294967296 xs))))) rfl rfl (bY _) (bO _)))) (by decide) (fun _=>.inl ⟨rfl,eM _⟩) (by rw[bM (by omega)];rfl)
theorem Ec {xs ys:List Nat}(hx:xs.length≤1099511627776) (hlx:Lim 4294967296 xs) (hy:ys.length≤1099511627776) (hly:Lim 4294967296 ys):aE true Tryz.prog 123 [] [.one (.t (sU false xs)),.one (.t (sU false ys))] (bC (.one (tv (.int .i64 (((vl 4294967296 xs:Nat):Int)-((vl 4294967296 ys:Nat):Int)).sign)))):=by
 refine cL Tryz.func123 rfl Tryz.ntmps123 rfl aB rfl fun N w c0 h0=>?_
 refine sq ?_;refine rl ?_;refine o1 ?_;refine nl ?_;refine sq ?_;refine rl ?_;refine o1 ?_
 refine ca (fF hx hlx) mK ⟨a1 rfl,rfl⟩ (.one (.t (sI false (dg 65536 (vl 4294967296 xs))))) ?_;refine o1 ?_
 refine ca (fF hy hly) mK ⟨a1 rfl,rfl⟩ (.one (.t (sI false (dg 65536 (vl 4294967296 ys))))) ?_;refine o1 ?_;refine o1 ?_;refine nl ?_;refine sq ?_;refine sq ?_
 have hdx:=eN (v:=vl 4294967296 xs) (L:=xs.length) (by rw[cM (by omega) hlx];exact bK _)
 have hdy:=eN (v:=vl 4294967296 ys) (L:=ys.length) (by rw[cM (by omega) hly];exact bK _)
 have hX:=aQ (B:=65536) (by omega) (vl 4294967296 xs)
 have hY:=aQ (B:=65536) (by omega) (vl 4294967296 ys)
 have hvX:=bM (B:=65536) (by omega) (vl 4294967296 xs)
 have hvY:=bM (B:=65536) (by omega) (vl 4294967296 ys)
 generalize dg 65536 (vl 4294967296 xs)=X at hdx hX hvX⊢;generalize dg 65536 (vl 4294967296 ys)=Y at hdy hY hvY⊢;refine rl ?_;(iterate 5 refine o1 ?_)
 refine WL.cast (t:=16) (u':=.int .i64 ((max X.length Y.length:Nat):Int)) rfl (aI (by omega)) ?_
 refine o1 ?_;refine o1 ?_;refine nl ?_;refine bl ?_
 refine lp (γ:=Nat) (fun k=>cK [(5,.one (.t (sI false X))),(6,.one (.t (sI false Y))),(7,.one (tv (.int .i64 ((k:Nat)-1))))]) (fun k=>([]:List Ob).map some) (fun k=>(∀j,k≤j→nth X j=nth Y j)∧k≤max X.length Y.length) (fun k=>k) (max X.length Y.length) ⟨fun j hj=>by rw[dE (by omega),dE (by omega)],Nat.le_refl _⟩ (bH h0 [] _ _ (by decide) ⟨rfl,rfl,rfl,trivial⟩ rfl) fun k hk=>?_
 refine sq ?_;refine sq ?_;refine rl ?_;refine o1 ?_;refine o1 ?_;refine nl ?_;refine cE rfl (fun h1=>?_) (fun h1=>?_)
 ·refine sk ?_;refine sq ?_;refine bl ?_;refine sq ?_;refine sq ?_;refine rl ?_;refine o1 ?_;refine o1 ?_
  refine WL.cast (t:=23) (u':=.int .i64 ((k-1:Nat):Int)) rfl (aI (by omega)) ?_
  refine ca (iP) iO ⟨a1 rfl,a1 rfl,rfl⟩ (.one (tv (.int .i64 ((nth X (k-1):Nat):Int)))) ?_;refine o1 ?_;refine o1 ?_
  refine WL.cast (t:=26) (u':=.int .i64 ((k-1:Nat):Int)) rfl (aI (by omega)) ?_
  refine ca (iP) iO ⟨a1 rfl,a1 rfl,rfl⟩ (.one (tv (.int .i64 ((nth Y (k-1):Nat):Int)))) ?_;refine o1 ?_;refine nl ?_;refine cE rfl (fun h2=>?_) (fun h2=>?_)
  ·refine sq ?_;refine rl ?_;refine o1 ?_;refine nl ?_;refine rt ?_;refine en (.inl rfl) rfl (bV (bD _)) (by decide) (fun _=>trivial) (congrArg (fun z=>FV.one (tv (.int .i64 z))) ?_)
   have he:=Iq (X:=X) (Y:=Y) (k:=k-1) hX (fun j hj=>hk.1 j (by omega)) (by omega)
   rw[hvX,hvY]at he;rw[Int.sign_eq_neg_one_of_neg (by omega)]
  refine sk ?_;refine sq ?_;refine rl ?_;refine o1 ?_;refine o1 ?_;refine WL.cast (t:=30) (u':=.int .i64 ((k-1:Nat):Int)) rfl (aI (by omega)) ?_
  refine ca (iP) iO ⟨a1 rfl,a1 rfl,rfl⟩ (.one (tv (.int .i64 ((nth X (k-1):Nat):Int)))) ?_;refine o1 ?_;refine o1 ?_
  refine WL.cast (t:=33) (u':=.int .i64 ((k-1:Nat):Int)) rfl (aI (by omega)) ?_
  refine ca (iP) iO ⟨a1 rfl,a1 rfl,rfl⟩ (.one (tv (.int .i64 ((nth Y (k-1):Nat):Int)))) ?_;refine o1 ?_;refine nl ?_;refine cE rfl (fun h3=>?_) (fun h3=>?_)
  ·refine sq ?_;refine rl ?_;refine o1 ?_;refine nl ?_;refine rt ?_;refine en (.inl rfl) rfl (bV (bD _)) (by decide) (fun _=>trivial) (congrArg (fun z=>FV.one (tv (.int .i64 z))) ?_)
   have he:=Iq (X:=Y) (Y:=X) (k:=k-1) hY (fun j hj=>(hk.1 j (by omega)).symm) (by omega)
   rw[hvX,hvY]at he;rw[Int.sign_eq_one_of_pos (by omega)]
  refine sk ?_;refine rl ?_;(iterate 3 refine o1 ?_);refine nl ?_
  exact⟨k-1,by omega,⟨fun j hj=>(Nat.eq_or_lt_of_le hj).elim (fun h9=>by rw[←h9];omega) (fun h9=>hk.1 j (by omega)),by omega⟩,bH h0 [] _ _ (by decide) ⟨rfl,rfl,congrArg (fun z=>some (FV.one (tv (.int .i64 z)))) (by omega),trivial⟩ rfl⟩
 refine ex ?_;refine sq ?_;refine rl ?_;refine o1 ?_;refine nl ?_;refine rt ?_
 refine en (.inl rfl) rfl (bV (bD _)) (by decide) (fun _=>trivial) (congrArg (fun z=>FV.one (tv (.int .i64 z))) ?_)
 have he:=Pc (fun j=>hk.1 j (by omega))
 rw[hvX,hvY]at he;rw[he,Int.sub_self];rfl
theorem Pj {xs ys:List Nat}(hx:xs.length≤1099511627776) (hlx:Lim 4294967296 xs) (hy:ys.length≤1099511627776) (hly:Lim 4294967296 ys):aE true Tryz.prog 70 [] [.one (.t (sU false xs)),.one (.t (sU false ys))] (bC (.one (.t (sU true (dg 4294967296 (vl 4294967296 xs+vl 4294967296 ys)))))):=by
 refine cL Tryz.func70 rfl Tryz.ntmps70 rfl aB rfl fun N w c0 h0=>?_
 refine sq ?_;refine rl ?_;refine o1 ?_;refine nl ?_;refine sq ?_;refine rl ?_;refine o1 ?_
 refine ca (fF hx hlx) mK ⟨a1 rfl,rfl⟩ (.one (.t (sI false (dg 65536 (vl 4294967296 xs))))) ?_;refine o1 ?_
 refine ca (fF hy hly) mK ⟨a1 rfl,rfl⟩ (.one (.t (sI false (dg 65536 (vl 4294967296 ys))))) ?_;refine o1 ?_;refine o1 ?_;refine nl ?_;refine sq ?_
 have hdx:=eN (v:=vl 4294967296 xs) (L:=xs.length) (by rw[cM (by omega) hlx];exact bK _)
 have hdy:=eN (v:=vl 4294967296 ys) (L:=ys.length) (by rw[cM (by omega) hly];exact bK _)
 have hX:=aQ (B:=65536) (by omega) (vl 4294967296 xs)
 have hY:=aQ (B:=65536) (by omega) (vl 4294967296 ys)
 have hvX:=bM (B:=65536) (by omega) (vl 4294967296 xs)
 have hvY:=bM (B:=65536) (by omega) (vl 4294967296 ys)
 generalize dg 65536 (vl 4294967296 xs)=X at hdx hX hvX⊢;generalize dg 65536 (vl 4294967296 ys)=Y at hdy hY hvY⊢;refine rl ?_;refine o1 ?_;refine nl ?_;refine sq ?_;refine rl ?_
 refine o1 ?_;refine nl ?_;refine sq ?_;refine sq ?_;refine rl ?_;refine o1 ?_;refine nl ?_;refine bl ?_
 refine lp (γ:=Nat×Nat×List Nat) (fun s=>cK [(5,.one (.t (sI false X))),(6,.one (.t (sI false Y))),(7,.one (.sl 0 0 s.1)),(8,.one (tv (.int .i64 ((s.2.1:Nat):Int)))),(9,.one (tv (.int .i64 ((s.1:Nat):Int))))]) (fun s=>[(⟨3,1,(cX s.2.2).map .t⟩:Ob)].map some) (fun s=>s.2.2.length=s.1∧Lim 65536 s.2.2∧vl 65536 s.2.2+65536^s.1*s.2.1=vl 65536 (X.take s.1)+vl 65536 (Y.take s.1)∧s.2.1≤1∧(s.1≤max X.length Y.length∨s.1=max X.length Y.length+1∧s.2.1=0)) (fun s=>max X.length Y.length+1-s.1) (0,0,[]) ⟨rfl,Lim.nil,rfl,Nat.zero_le _,.inl (Nat.zero_le _)⟩ ((nr (i:=7) 0 3 1 rfl rfl rfl rfl).trans (bH h0 [0] _ _ (by decide) ⟨rfl,rfl,rfl,rfl,rfl,trivial⟩ ⟨cY (l:=[]) rfl,rfl⟩)) ?_
 rintro⟨k,cr,os⟩ ⟨hos,hol,hv,hc1,hkm⟩;dsimp only at hos hol hv hc1 hkm⊢;have hn1:=hX.nth (by omega) k
 have hn2:=hY.nth (by omega) k
 refine sq ?_;refine sq ?_;refine rl ?_;(iterate 6 refine o1 ?_);refine WL.cast (t:=20) (u':=.int .i64 ((max X.length Y.length:Nat):Int)) rfl (aI (by omega)) ?_
 refine o1 ?_;refine o1 ?_;refine WL.split (t:=22) rfl (fun h1=>?_) (fun h1=>?_)
 ·refine dL ?_;refine dL ?_;refine o1 ?_;refine nl ?_;refine jS rfl ?_;refine sk ?_;refine sq ?_;refine bl ?_;refine sq ?_;refine rl ?_;refine o1 ?_;refine o1 ?_
  refine ca (iP) iO ⟨a1 rfl,a1 rfl,rfl⟩ (.one (tv (.int .i64 ((nth X (k):Nat):Int)))) ?_;refine o1 ?_;refine o1 ?_
  refine ca (iP) iO ⟨a1 rfl,a1 rfl,rfl⟩ (.one (tv (.int .i64 ((nth Y (k):Nat):Int)))) ?_;(iterate 3 refine o1 ?_)
  refine WL.cast (t:=36) (u':=.int .i64 ((nth X k+nth Y k+cr:Nat):Int)) rfl (aI (by omega)) ?_
  refine o1 ?_;refine nl ?_;refine sq ?_;refine rl ?_;(iterate 3 refine o1 ?_)
  refine WL.cast (t:=39) (u':=.int .i64 (((nth X k+nth Y k+cr)%65536:Nat):Int)) rfl (aI (fN _ 65536)) ?_;refine bs 1 ?_
  refine mJ (j:=2) aB rfl rfl rfl rfl (.sl rfl (by rw[List.length_map,iI,hos];omega)) (.sl rfl rfl rfl) rfl rfl rfl (by omega) (by omega) ?_
  refine o1 ?_;refine nl ?_;refine rl ?_;refine o1 ?_;refine o1 ?_ (hC:=(kA 65536 (by omega) (by simp only[fA];omega)))
  refine WL.cast (t:=43) (u':=.int .i64 (((nth X k+nth Y k+cr)/65536:Nat):Int)) rfl (aI (gG _ 65536)) ?_;refine o1 ?_;refine nl ?_;refine rl ?_;(iterate 3 refine o1 ?_)
  refine nl ?_;have hst:=wH hos hv
  have hz1:X.length≤k→nth X k=0:=fun h=>dE (by omega)
  have hz2:Y.length≤k→nth Y k=0:=fun h=>dE (by omega)
  exact⟨(k+1,(nth X k+nth Y k+cr)/65536,os++[(nth X k+nth Y k+cr)%65536]),by dsimp only;omega,⟨by simp[hos],hol.append (Lim.cons (Nat.mod_lt _ (by omega)) Lim.nil),hst,by dsimp only;omega,by dsimp only;omega⟩,bH h0 [2] _ _ (by decide) ⟨rfl,rfl,rfl,rfl,rfl,trivial⟩ ⟨Dy rfl (jZ _ [(nth X k+nth Y k+cr)%65536]) rfl,rfl⟩⟩
 (iterate 3 refine o1 ?_);refine nl ?_;refine cE rfl (fun h2=>?_) (fun h2=>?_)
 ·refine sk ?_;refine sq ?_;refine bl ?_;refine sq ?_;refine rl ?_;refine o1 ?_;refine o1 ?_
  refine ca (iP) iO ⟨a1 rfl,a1 rfl,rfl⟩ (.one (tv (.int .i64 ((nth X (k):Nat):Int)))) ?_;refine o1 ?_;refine o1 ?_
  refine ca (iP) iO ⟨a1 rfl,a1 rfl,rfl⟩ (.one (tv (.int .i64 ((nth Y (k):Nat):Int)))) ?_;(iterate 3 refine o1 ?_)
  refine WL.cast (t:=36) (u':=.int .i64 ((nth X k+nth Y k+cr:Nat):Int)) rfl (aI (by omega)) ?_
  refine o1 ?_;refine nl ?_;refine sq ?_;refine rl ?_;(iterate 3 refine o1 ?_)
  refine WL.cast (t:=39) (u':=.int .i64 (((nth X k+nth Y k+cr)%65536:Nat):Int)) rfl (aI (fN _ 65536)) ?_;refine bs 1 ?_
  refine mJ (j:=2) aB rfl rfl rfl rfl (.sl rfl (by rw[List.length_map,iI,hos];omega)) (.sl rfl rfl rfl) rfl rfl rfl (by omega) (by omega) ?_
  refine o1 ?_;refine nl ?_;refine rl ?_;refine o1 ?_;refine o1 ?_ (hC:=(kA 65536 (by omega) (by simp only[fA];omega)))
  refine WL.cast (t:=43) (u':=.int .i64 (((nth X k+nth Y k+cr)/65536:Nat):Int)) rfl (aI (gG _ 65536)) ?_;refine o1 ?_;refine nl ?_;refine rl ?_;(iterate 3 refine o1 ?_)
  refine nl ?_;have hst:=wH hos hv
  have hz1:X.length≤k→nth X k=0:=fun h=>dE (by omega)
  have hz2:Y.length≤k→nth Y k=0:=fun h=>dE (by omega)
  exact⟨(k+1,(nth X k+nth Y k+cr)/65536,os++[(nth X k+nth Y k+cr)%65536]),by dsimp only;omega,⟨by simp[hos],hol.append (Lim.cons (Nat.mod_lt _ (by omega)) Lim.nil),hst,by dsimp only;omega,by dsimp only;omega⟩,bH h0 [2] _ _ (by decide) ⟨rfl,rfl,rfl,rfl,rfl,trivial⟩ ⟨Dy rfl (jZ _ [(nth X k+nth Y k+cr)%65536]) rfl,rfl⟩⟩
 refine ex ?_;refine sq ?_;refine rl ?_;have hc0:cr=0:=by omega
 rw[hc0,Nat.mul_zero,Nat.add_zero,aY 65536 (by omega),aY 65536 (by omega),hvX,hvY]at hv
 refine WL.sub (Ir (i:=7) (zs':=os) rfl rfl rfl (by omega) rfl) ?_
 refine o1 ?_;refine hH 1 (mR (by omega) (by assumption)) uC ⟨a1 rfl,rfl⟩ ?_
 refine o1 ?_;refine nl ?_;refine rt ?_
 exact en (.inl rfl) rfl (bV (.one (.sl (trs:=aS (dg 4294967296 (vl 65536 os))) rfl rfl (bY _) (bO _)))) (by decide) (fun _=>.inl ⟨rfl,eM _⟩) (by rw[hv];rfl)
theorem Gx {a:Zi}{k:Int}(ha:Zn a k):aE true Tryz.prog 90 [] [gF a] (bC (.one (tv (.bool (bX a.s a.x))))):=by
 refine cL Tryz.func90 rfl Tryz.ntmps90 rfl aB rfl fun N w c0 h0=>?_
 have hal:=ha.2.1
 refine sq ?_;refine rl ?_;refine bx 0 ?_;refine o1 ?_;refine nl ?_;refine sq ?_;refine sq ?_;refine rl ?_;refine o1 ?_;refine ld ?_;refine o1 ?_;refine o1 ?_;refine nl ?_
 refine cE rfl (fun h1=>?_) (fun h1=>?_)
 ·refine sq ?_;refine rl ?_;refine o1 ?_;refine ld ?_;refine WL.splitb (t:=8) rfl (fun h2=>?_) (fun h2=>?_)
  ·refine o1 ?_;refine o1 ?_;refine nl ?_;refine rt ?_;refine en (.inl rfl) rfl (bV (bD _)) (by decide) (fun _=>trivial) (congrArg (fun b=>FV.one (tv (.bool b))) ?_)
   rw[gW (by omega)];simp_all
  refine o1 ?_;refine o1 ?_;refine nl ?_;refine rt ?_;refine en (.inl rfl) rfl (bV (bD _)) (by decide) (fun _=>trivial) (congrArg (fun b=>FV.one (tv (.bool b))) ?_)
  rw[gW (by omega)];simp_all
 refine sk ?_;refine sq ?_;refine rl ?_;refine o1 ?_;refine ld ?_;refine o1 ?_;refine ld ?_;refine o1 ?_;refine o1 ?_
 refine WL.cast (t:=15) (u':=.int .i64 ((a.x.length-1:Nat):Int)) rfl (aI (by omega)) ?_
 refine o1 ?_;refine mY ([.v (.int .u32 ((nth a.x (a.x.length-1):Nat):Int))]) (gV a.x (k:=a.x.length-1) (by omega)) ?_
 refine o1 ?_;refine o1 ?_;refine nl ?_;refine rt ?_;refine en (.inl rfl) rfl (bV (bD _)) (by decide) (fun _=>trivial) (congrArg (fun b=>FV.one (tv (.bool b))) ?_)
 exact(mQ rfl (by omega)).symm
theorem mS {a:Zi}{k:Int}(ha:Zn a k):aE false Tryz.prog 75 [] [gF a] (bC (kF k)):=by
 refine cL Tryz.func75 rfl Tryz.ntmps75 rfl aB rfl fun N w c0 h0=>?_
 refine sq ?_;refine rl ?_;refine bx 0 ?_;refine al 1 ?_;refine nl ?_;refine sq ?_;refine sq ?_;refine rl ?_;refine ld ?_
 refine ca (Gx ha) Ve ⟨aV rfl,rfl⟩ (.one (tv (.bool (bX a.s a.x)))) ?_;refine WL.splitb (t:=4) rfl (fun h1=>?_) (fun h1=>?_)
 ·refine o1 ?_;refine nl ?_;refine gZ rfl ?_;refine sk ?_;refine sq ?_;refine rl ?_;refine ld ?_;refine st ?_;refine nl ?_;refine rt ?_
  exact en (.inl rfl) rfl (bV (.agg (.read _ (l:=[.v (.bool a.s),sU false a.x]) rfl))) (by decide) (fun h=>by cases h) (Gt ha h1)
 refine o1 ?_;refine nl ?_;refine jS rfl ?_;refine sq ?_;refine rl ?_;refine o1 ?_;refine st ?_;refine nl ?_;refine rt ?_
 exact en (.inl rfl) rfl (bV (.agg (.cons (.id rfl) (.cons .nilf .nil)))) (by decide) (fun h=>by cases h) (by rw[ha.wrong h1];exact yX)
theorem sS {b:Bool}{xs:List Nat}{K:Int}(hx:xs.length≤1099511627776) (hl:Lim 4294967296 xs) (hK:cG b (vl 4294967296 xs)=K):aE true Tryz.prog 72 [] [.one (tv (.bool b)),.one (.t (sU false xs))] (bC (kO K)):=by
 refine cL Tryz.func72 rfl Tryz.ntmps72 rfl aB rfl fun N w c0 h0=>?_
 refine sq ?_;refine rl ?_;refine al 0 ?_;refine nl ?_;refine sq ?_;refine rl ?_;refine o1 ?_;refine hH 1 (La hx hl) Rj ⟨a1 rfl,rfl⟩ ?_;refine o1 ?_;refine nl ?_;refine sq ?_
 refine rl ?_;refine o1 ?_;refine o1 ?_;refine WL.splitb (t:=9) rfl (fun h1=>?_) (fun h1=>?_)
 ·(iterate 6 refine o1 ?_);refine st ?_;refine nl ?_;refine rt ?_
  exact en (.inl rfl) rfl (bV (.agg (.cons (.id rfl) (.cons (.sl (trs:=aS (dg 4294967296 (vl 4294967296 xs))) rfl rfl (bY _) (bO _)) .nil)))) (by decide) (fun _=>yY _ _) (hK▸oZ (by rw[←rE rfl,h1,Bool.true_and];exact decide_eq_decide.2 (by omega)) (gD _ _).symm)
 (iterate 3 refine dL ?_);(iterate 3 refine o1 ?_);refine st ?_;refine nl ?_;refine rt ?_
 exact en (.inl rfl) rfl (bV (.agg (.cons (.id rfl) (.cons (.sl (trs:=aS (dg 4294967296 (vl 4294967296 xs))) rfl rfl (bY _) (bO _)) .nil)))) (by decide) (fun _=>yY _ _) (hK▸oZ (by rw[←rE rfl,h1];rfl) (gD _ _).symm)
theorem Bi {n:Int}(h1:-9223372036854775808≤n) (h2:n≤9223372036854775807):aE true Tryz.prog 31 [] [.one (tv (.int .i64 n))] (bC (kO n)):=by
 refine cL Tryz.func31 rfl Tryz.ntmps31 rfl aB rfl fun N w c0 h0=>?_
 obtain⟨hr1,hr2,hq1,hq2,hv1,hv2⟩:=Gr h1 h2
 refine sq ?_;refine rl ?_;refine al 0 ?_;refine nl ?_;refine sq ?_;refine rl ?_;(iterate 3 refine o1 ?_);refine o1 ?_ (hC:=(by exact⟨by omega,by simp only[fA];omega⟩))
 refine o1 ?_;refine o1 ?_;refine nl ?_;refine sq ?_;refine rl ?_;(iterate 6 refine o1 ?_)
 refine WL.cast (t:=14) (u':=.int .i64 (((Int.tmod n 4294967296).natAbs:Nat):Int)) rfl (aI (by omega)) ?_
 refine o1 ?_;refine WL.cast (t:=15) (u':=.int .u32 (((Int.tmod n 4294967296).natAbs:Nat):Int)) rfl (aI (by omega)) ?_
 (iterate 4 refine o1 ?_);refine WL.cast (t:=19) (u':=.int .i64 (((Int.tdiv n 4294967296).natAbs:Nat):Int)) rfl (aI (by omega)) ?_
 refine o1 ?_;refine WL.cast (t:=20) (u':=.int .u32 (((Int.tdiv n 4294967296).natAbs:Nat):Int)) rfl (aI (by omega)) ?_
 refine bs 1 ?_
 refine WL.sub (Pe (i:=21) (zs:=[(Int.tmod n 4294967296).natAbs,(Int.tdiv n 4294967296).natAbs]) (zs':=[(Int.tmod n 4294967296).natAbs,(Int.tdiv n 4294967296).natAbs]) rfl rfl rfl rfl rfl) ?_
 refine hH 2 (sS (K:=n) (by simp) (Lim.cons (by omega) (Lim.cons (by omega) Lim.nil)) (Pf hv1)) Fz ⟨a1 rfl,a1 rfl,rfl⟩ ?_
 refine st ?_;refine nl ?_;refine rt ?_
 exact en (.inl rfl) rfl (bV (.agg (.cons (.id rfl) (.cons (.sl (trs:=aS (dg 4294967296 (n).natAbs)) rfl rfl (bY _) (bO _)) .nil)))) (by decide) (fun _=>cI (n)) rfl
theorem Ed {a b:Zi}{k k':Int}(ha:Zn a k) (hb:Zn b k'):aE true Tryz.prog 74 [] [gF a,gF b] (bC (.one (tv (.int .i64 (k-k').sign)))):=by
 refine cL Tryz.func74 rfl Tryz.ntmps74 rfl aB rfl fun N w c0 h0=>?_
 have hkl:=ha.len
 have hkl':=hb.len
 refine sq ?_;refine rl ?_;refine bx 0 ?_;refine bx 1 ?_;refine o1 ?_;refine nl ?_;refine sq ?_;refine rl ?_;refine ld ?_;refine ca (mS ha) Am ⟨aV rfl,rfl⟩ (kF (k)) ?_;refine st ?_
 refine nl ?_;refine sq ?_;refine rl ?_;refine ld ?_;refine ca (mS hb) Am ⟨aV rfl,rfl⟩ (kF (k')) ?_;refine st ?_;refine nl ?_;refine sq ?_;refine bl ?_;refine sq ?_;refine rl ?_
 refine o1 ?_;refine ld ?_;refine o1 ?_;refine WL.splitb (t:=12) rfl (fun h1=>?_) (fun h1=>?_)
 ·refine o1 ?_;refine ld ?_;refine WL.splitb (t:=14) rfl (fun h2=>?_) (fun h2=>?_)
  ·(iterate 3 refine o1 ?_);refine nl ?_;refine gZ rfl ?_;refine sq ?_;refine rl ?_;refine o1 ?_;refine ld ?_;refine o1 ?_;refine WL.cast (t:=20) rfl (congrArg Value.bool h2) ?_
   refine o1 ?_;refine ld ?_;refine WL.cast (t:=22) rfl (congrArg Value.bool h1) ?_;(iterate 3 refine o1 ?_);refine nl ?_;refine gZ rfl ?_;refine sq ?_;refine rl ?_;refine o1 ?_
   refine ld ?_;refine o1 ?_;refine nl ?_;refine jS (congrArg (fun b=>FV.one (tv (.bool b))) h1) ?_
   refine sq ?_;refine rl ?_;refine o1 ?_;refine ld ?_;refine o1 ?_;refine ld ?_
   refine ca (Ec (by omega) (aQ (by omega) _) (by omega) (aQ (by omega) _)) Ia ⟨a1 rfl,a1 rfl,rfl⟩ (.one (tv (.int .i64 (((vl 4294967296 (dg 4294967296 (k').natAbs):Nat):Int)-((vl 4294967296 (dg 4294967296 (k).natAbs):Nat):Int)).sign))) ?_
   refine o1 ?_;refine nl ?_;refine rt ?_;refine en (.inl rfl) rfl (bV (bD _)) (by decide) (fun _=>trivial) (congrArg (fun z=>FV.one (tv (.int .i64 z))) ?_)
   rw[bB,bB];exact Kt h1 h2
  (iterate 3 refine o1 ?_);refine nl ?_;refine jS rfl ?_;refine sq ?_;refine rl ?_;refine o1 ?_;refine nl ?_;refine rt ?_
  refine en (.inl rfl) rfl (bV (bD _)) (by decide) (fun _=>trivial) (congrArg (fun z=>FV.one (tv (.int .i64 z))) ?_)
  exact Kr h1 h2
 (iterate 3 refine dL ?_);refine o1 ?_;refine o1 ?_;refine nl ?_;refine gZ rfl ?_;refine sq ?_;refine rl ?_;refine o1 ?_;refine ld ?_;refine o1 ?_
 refine WL.splitb (t:=20) rfl (fun h3=>?_) (fun h3=>?_)
 ·refine o1 ?_;refine ld ?_;refine WL.cast (t:=22) rfl (congrArg Value.bool h1) ?_;(iterate 3 refine o1 ?_);refine nl ?_;refine jS rfl ?_;refine sq ?_;refine rl ?_;refine o1 ?_
  refine nl ?_;refine rt ?_;refine en (.inl rfl) rfl (bV (bD _)) (by decide) (fun _=>trivial) (congrArg (fun z=>FV.one (tv (.int .i64 z))) ?_)
  exact Ks h1 h3
 (iterate 3 refine dL ?_);refine o1 ?_;refine o1 ?_;refine nl ?_;refine gZ rfl ?_;refine sq ?_;refine rl ?_;refine o1 ?_;refine ld ?_;refine o1 ?_;refine nl ?_
 refine gZ (congrArg (fun b=>FV.one (tv (.bool b))) h1) ?_
 refine sk ?_;refine sq ?_;refine rl ?_;refine o1 ?_;refine ld ?_;refine o1 ?_;refine ld ?_
 refine ca (Ec (by omega) (aQ (by omega) _) (by omega) (aQ (by omega) _)) Ia ⟨a1 rfl,a1 rfl,rfl⟩ (.one (tv (.int .i64 (((vl 4294967296 (dg 4294967296 (k).natAbs):Nat):Int)-((vl 4294967296 (dg 4294967296 (k').natAbs):Nat):Int)).sign))) ?_
 refine o1 ?_;refine nl ?_;refine rt ?_;refine en (.inl rfl) rfl (bV (bD _)) (by decide) (fun _=>trivial) (congrArg (fun z=>FV.one (tv (.int .i64 z))) ?_)
 rw[bB,bB];exact Ku h1 h3
def Zg (a:Zi) (k:Int):Prop:=Lim 4294967296 a.x∧a.x.length≤300000000000∧gU a.s a.x=k
theorem Zn.g {a:Zi}{k:Int}(h:Zn a k):Zg a k:=⟨h.1,Nat.le_trans h.2.1 (by omega),h.2.2⟩
theorem Zg.of {k:Int}(h:(dg 4294967296 k.natAbs).length≤300000000000):Zg (.of k) k:=⟨aQ (by omega) _,h,Dt k⟩
theorem Zg.len {a:Zi}{k:Int}(h:Zg a k):(dg 4294967296 k.natAbs).length≤300000000000:=by
 obtain⟨h1,h2,rfl⟩:=h
 exact Nat.le_trans (sP h1) h2
theorem Zg.wrong {a:Zi}{k:Int}(h:Zg a k) (hr:bX a.s a.x=false):k=0:=by
 obtain⟨h1,h2,rfl⟩:=h
 exact rH hr
theorem Ee {a:Zi}{k:Int}(h:Zg a k) (hr:bX a.s a.x=true):gF a=kF k:=by
 obtain⟨h1,h2,rfl⟩:=h
 unfold gF kF
 rw[yU h1 hr,oY h1 hr]
theorem Lb {a:Zi}{k:Int}(ha:Zg a k):aE true Tryz.prog 32 [] [gF a] (bC (.one (tv (.bool (bX a.s a.x))))):=by
 refine cL Tryz.func32 rfl Tryz.ntmps32 rfl aB rfl fun N w c0 h0=>?_
 have hal:=ha.2.1
 refine sq ?_;refine rl ?_;refine bx 0 ?_;refine o1 ?_;refine nl ?_;refine sq ?_;refine rl ?_;refine o1 ?_;refine ld ?_;refine o1 ?_;refine o1 ?_;refine nl ?_;refine sq ?_;refine rl ?_
 (iterate 3 refine o1 ?_);refine WL.split (t:=9) rfl (fun h1=>?_) (fun h1=>?_)
 ·refine o1 ?_;refine ld ?_;refine WL.splitb (t:=11) rfl (fun h2=>?_) (fun h2=>?_)
  ·(iterate 6 refine o1 ?_);refine WL.split (t:=17) rfl (fun h3=>?_) (fun h3=>?_)
   ·refine o1 ?_;refine ld ?_;refine o1 ?_;refine o1 ?_;refine WL.cast (t:=21) (u':=.int .i64 ((a.x.length-1:Nat):Int)) rfl (aI (by omega)) ?_
    refine o1 ?_;refine mY ([.v (.int .u32 ((nth a.x (a.x.length-1):Nat):Int))]) (gV a.x (k:=a.x.length-1) (by omega)) ?_
    (iterate 4 refine o1 ?_);refine nl ?_;refine rt ?_;refine en (.inl rfl) rfl (bV (bD _)) (by decide) (fun _=>trivial) (congrArg (fun b=>FV.one (tv (.bool b))) ?_)
    rw[gW (by omega)];simp_all
   (iterate 7 refine dL ?_);(iterate 3 refine o1 ?_);refine nl ?_;refine rt ?_
   refine en (.inl rfl) rfl (bV (bD _)) (by decide) (fun _=>trivial) (congrArg (fun b=>FV.one (tv (.bool b))) ?_)
   rw[gW (by omega)];simp_all
  (iterate 3 refine o1 ?_);(iterate 11 refine dL ?_);refine o1 ?_;refine o1 ?_;refine nl ?_;refine rt ?_
  refine en (.inl rfl) rfl (bV (bD _)) (by decide) (fun _=>trivial) (congrArg (fun b=>FV.one (tv (.bool b))) ?_)
  rw[gW (by omega)];simp_all
 (iterate 3 refine dL ?_);(iterate 5 refine o1 ?_);refine WL.split (t:=17) rfl (fun h4=>?_) (fun h4=>?_)
 ·refine o1 ?_;refine ld ?_;refine o1 ?_;refine o1 ?_;refine WL.cast (t:=21) (u':=.int .i64 ((a.x.length-1:Nat):Int)) rfl (aI (by omega)) ?_
  refine o1 ?_;refine mY ([.v (.int .u32 ((nth a.x (a.x.length-1):Nat):Int))]) (gV a.x (k:=a.x.length-1) (by omega)) ?_
  (iterate 4 refine o1 ?_);refine nl ?_;refine rt ?_;refine en (.inl rfl) rfl (bV (bD _)) (by decide) (fun _=>trivial) (congrArg (fun b=>FV.one (tv (.bool b))) ?_)
  first | exact(mQ rfl (by omega)).symm | (unfold bX;simp_all;try omega)
 (iterate 7 refine dL ?_);(iterate 3 refine o1 ?_);refine nl ?_;refine rt ?_
 refine en (.inl rfl) rfl (bV (bD _)) (by decide) (fun _=>trivial) (congrArg (fun b=>FV.one (tv (.bool b))) ?_)
 first | exact(mQ rfl (by omega)).symm | (unfold bX;simp_all;try omega)
theorem cC {a:Zi}{k:Int}(ha:Zg a k):aE false Tryz.prog 73 [] [gF a] (bC (kF k)):=by
 refine cL Tryz.func73 rfl Tryz.ntmps73 rfl aB rfl fun N w c0 h0=>?_
 refine sq ?_;refine rl ?_;refine bx 0 ?_;refine al 1 ?_;refine nl ?_;refine sq ?_;refine sq ?_;refine rl ?_;refine ld ?_
 refine ca (Lb ha) Un ⟨aV rfl,rfl⟩ (.one (tv (.bool (bX a.s a.x)))) ?_;refine WL.splitb (t:=4) rfl (fun h1=>?_) (fun h1=>?_)
 ·refine o1 ?_;refine nl ?_;refine gZ rfl ?_;refine sk ?_;refine sq ?_;refine rl ?_;refine ld ?_;refine o1 ?_;refine st ?_;refine nl ?_;refine rt ?_
  exact en (.inl rfl) rfl (bV (.agg (.read _ (l:=[.v (.bool a.s),sU false a.x]) rfl))) (by decide) (fun h=>by cases h) (Ee ha h1)
 refine o1 ?_;refine nl ?_;refine jS rfl ?_;refine sq ?_;refine rl ?_;refine o1 ?_;refine st ?_;refine nl ?_;refine rt ?_
 exact en (.inl rfl) rfl (bV (.agg (.cons (.id rfl) (.cons .nilf .nil)))) (by decide) (fun h=>by cases h) (by rw[ha.wrong h1];exact yX)
theorem Ef {b:Bool}{m:Nat}{K:Int}(hK:cG b m=K):aE false Tryz.prog 69 [] [.one (tv (.bool b)),.one (.t (sU false (dg 4294967296 m)))] (bC (kF K)):=by
 refine cL Tryz.func69 rfl Tryz.ntmps69 rfl aB rfl fun N w c0 h0=>?_
 refine sq ?_;refine rl ?_;refine al 0 ?_;refine nl ?_;refine sq ?_;refine rl ?_;refine o1 ?_;refine o1 ?_;refine WL.splitb (t:=6) rfl (fun h1=>?_) (fun h1=>?_)
 ·(iterate 6 refine o1 ?_);refine st ?_;refine nl ?_;refine rt ?_
  exact en (.inl rfl) rfl (bV (.agg (.cons (.id rfl) (.cons (.id rfl) .nil)))) (by decide) (fun h=>by cases h) (hK▸congrArg pE (oZ (by rw[lO,h1,Bool.true_and,←gE (m:=m) rfl];exact decide_eq_decide.2 (by omega)) (gD _ _).symm))
 (iterate 3 refine dL ?_);(iterate 3 refine o1 ?_);refine st ?_;refine nl ?_;refine rt ?_
 exact en (.inl rfl) rfl (bV (.agg (.cons (.id rfl) (.cons (.id rfl) .nil)))) (by decide) (fun h=>by cases h) (hK▸congrArg pE (oZ (by rw[lO,h1];rfl) (gD _ _).symm))
theorem dI {b:Bool}{m:Nat}{K:Int}(hK:cG b m=K):mO false Tryz.prog 69 [⟨22,1,(aS (dg 4294967296 m)).map .t⟩] [.one (tv (.bool b)),.one (.sl 0 0 (dg 4294967296 m).length)] (· =kO K):=by
 refine Vz Tryz.func69 rfl Tryz.ntmps69 rfl aB rfl fun N M w c0 h0=>?_
 refine sq ?_;refine rl ?_;refine al 1 ?_;refine nl ?_;refine sq ?_;refine rl ?_;refine o1 ?_;refine o1 ?_;refine WL.splitb (t:=6) rfl (fun h1=>?_) (fun h1=>?_)
 ·(iterate 6 refine o1 ?_);refine st ?_;refine nl ?_;refine rt ?_
  exact Nz (en (.inl rfl) rfl (bV (.agg (.cons (.id rfl) (.cons (.sl (trs:=aS (dg 4294967296 m)) rfl rfl (bY _) (bO _)) .nil)))) (by decide) (fun h=>by cases h) (hK▸oZ (by rw[lO,h1,Bool.true_and,←gE (m:=m) rfl];exact decide_eq_decide.2 (by omega)) (gD _ _).symm))
 (iterate 3 refine dL ?_);(iterate 3 refine o1 ?_);refine st ?_;refine nl ?_;refine rt ?_
 exact Nz (en (.inl rfl) rfl (bV (.agg (.cons (.id rfl) (.cons (.sl (trs:=aS (dg 4294967296 m)) rfl rfl (bY _) (bO _)) .nil)))) (by decide) (fun h=>by cases h) (hK▸oZ (by rw[lO,h1];rfl) (gD _ _).symm))
theorem Gy {k:Int}:aE false Tryz.prog 80 [] [kF k] (bC (kF (-k))):=by
 refine cL Tryz.func80 rfl Tryz.ntmps80 rfl aB rfl fun N w c0 h0=>?_
 refine sq ?_;refine rl ?_;refine bx 0 ?_;refine al 1 ?_;refine nl ?_;refine sq ?_;refine rl ?_;refine o1 ?_;refine o1 ?_;refine ld ?_;(iterate 3 refine o1 ?_);refine ld ?_
 refine ca (Ef (m:=k.natAbs) (K:=-k) (Km k)) gP ⟨a1 rfl,a1 rfl,rfl⟩ (kF (-k)) ?_;refine o1 ?_;refine st ?_;refine nl ?_;refine rt ?_
 exact en (.inl rfl) rfl (bV (.agg (.cons (.id rfl) (.cons (.id rfl) .nil)))) (by decide) (fun h=>by cases h) rfl
theorem Pm {k k':Int}(hk:(dg 4294967296 k.natAbs).length≤500000000000) (hk':(dg 4294967296 k'.natAbs).length≤500000000000):aE true Tryz.prog 78 [] [kF k,kF k'] (bC (kO (k+k'))):=by
 refine cL Tryz.func78 rfl Tryz.ntmps78 rfl aB rfl fun N w c0 h0=>?_
 have hal:=Kn (xs:=dg 4294967296 k.natAbs) (ys:=dg 4294967296 k'.natAbs) (aQ (by omega) _) (aQ (by omega) _)
 rw[bB,bB]at hal;refine sq ?_;refine rl ?_;refine bx 0 ?_;refine bx 1 ?_;refine al 2 ?_;refine nl ?_;refine sq ?_;refine sq ?_;refine rl ?_;refine o1 ?_;refine o1 ?_
 refine ld ?_;refine o1 ?_;refine o1 ?_;refine ld ?_;refine o1 ?_;refine nl ?_;refine gY rfl (fun h1=>?_) (fun h1=>?_)
 ·refine sq ?_;refine rd [0,1,2] (fun i=>[11].contains i) mixed ?_
  refine dv 0 ?_;refine dv 1 ?_;refine cT 2 ?_;refine dv 3 ?_;refine dv 4 ?_;refine cT 5 ?_;refine dv 6 ?_;refine dv 7 ?_;refine cT 8 ?_
  have hA:aE true Tryz.prog 50 [] [.one (.t (sU false (dg 4294967296 k.natAbs))),.one (.t (sU false (dg 4294967296 k'.natAbs)))] (bC (.one (.t (sU true (dg 4294967296 (k.natAbs+k'.natAbs)))))):=by have h9:=Be (aQ (by omega) k.natAbs) (aQ (by omega) k'.natAbs) (by omega) (by omega);rwa[bB,bB]at h9
  refine Id 3 9 rfl hA sJ ⟨a1 rfl,a1 rfl,rfl⟩ ?_
  refine qS 10 4 [3] rfl (dI (m:=(k.natAbs+k'.natAbs)) (K:=k+k') (Dz rfl (eq_of_beq h1))) gP ⟨cY rfl,rfl⟩ ⟨rfl,rfl,rfl⟩ ⟨rfl,rfl,rfl,trivial⟩ ?_;refine dst 11 ?_
  refine cR ?_;refine rt ?_
  exact en (.inl rfl) rfl (bV (.agg (.cons (.id rfl) (.cons (.sl (trs:=aS (dg 4294967296 (k+k').natAbs)) rfl rfl (bY _) (bO _)) .nil)))) (by decide) (fun _=>cI (k+k')) rfl
 refine sk ?_;refine sq ?_;refine sq ?_;refine rl ?_;refine o1 ?_;refine o1 ?_;refine ld ?_;refine o1 ?_;refine o1 ?_;refine ld ?_
 refine ca (Sf (aQ (by omega) _) (aQ (by omega) _)) Uz ⟨a1 rfl,a1 rfl,rfl⟩ (.one (tv (.int .i64 (gS (vl 4294967296 (dg 4294967296 (k).natAbs)) (vl 4294967296 (dg 4294967296 (k').natAbs)))))) ?_
 refine o1 ?_;refine nl ?_;refine cE rfl (fun h2=>?_) (fun h2=>?_)
 ·refine rl ?_;refine ld ?_;refine ld ?_;refine st ?_;refine st ?_;refine nl ?_;refine sq ?_;refine rl ?_;refine o1 ?_;refine o1 ?_;refine ld ?_;refine o1 ?_;refine o1 ?_;refine ld ?_
  have hlt:k.natAbs<k'.natAbs:=Decidable.byContradiction fun h8=>by rw[bB,bB]at h2;rcases Nat.lt_or_ge k'.natAbs k.natAbs with h7 | h7;(rw[gC h7]at h2;omega);(rw[lL (by omega)]at h2;omega)
  have hS:aE true Tryz.prog 77 [] [.one (.t (sU false (dg 4294967296 k'.natAbs))),.one (.t (sU false (dg 4294967296 k.natAbs)))] (bC (.tup [.one (.t (sU true (dg 4294967296 (k'.natAbs-k.natAbs)))),.one (tv (.int .i64 0))])):=by have h9:=Bf (aQ (by omega) k'.natAbs) (aQ (by omega) k.natAbs) (by omega) (by rw[bB,bB];omega);rwa[bB,bB]at h9
  refine hH 3 hS Ga ⟨a1 rfl,a1 rfl,rfl⟩ ?_;(iterate 5 refine o1 ?_);refine nl ?_;refine sq ?_;refine rl ?_;refine o1 ?_;refine o1 ?_;refine ld ?_;refine o1 ?_
  refine cm 4 [3] (dI (m:=(k'.natAbs-k.natAbs)) (K:=k+k') (Kq rfl (ne_of_beq_false h1) hlt)) gP ⟨cY rfl,rfl⟩ ⟨rfl,rfl,rfl⟩ ?_;refine st ?_;refine nl ?_;refine rt ?_
  exact en (.inl rfl) rfl (bV (.agg (.cons (.id rfl) (.cons (.sl (trs:=aS (dg 4294967296 (k+k').natAbs)) rfl rfl (bY _) (bO _)) .nil)))) (by decide) (fun _=>cI (k+k')) rfl
 refine sk ?_;refine sq ?_;refine rl ?_;refine o1 ?_;refine o1 ?_;refine ld ?_;refine o1 ?_;refine o1 ?_;refine ld ?_
 have hlt:¬k.natAbs<k'.natAbs:=fun h8=>h2 (by rw[bB,bB,jL h8];omega)
 have hS:aE true Tryz.prog 77 [] [.one (.t (sU false (dg 4294967296 k.natAbs))),.one (.t (sU false (dg 4294967296 k'.natAbs)))] (bC (.tup [.one (.t (sU true (dg 4294967296 (k.natAbs-k'.natAbs)))),.one (tv (.int .i64 0))])):=by have h9:=Bf (aQ (by omega) k.natAbs) (aQ (by omega) k'.natAbs) (by omega) (by rw[bB,bB];omega);rwa[bB,bB]at h9
 refine hH 3 hS Ga ⟨a1 rfl,a1 rfl,rfl⟩ ?_;(iterate 5 refine o1 ?_);refine nl ?_;refine sq ?_;refine rl ?_;refine o1 ?_;refine o1 ?_;refine ld ?_;refine o1 ?_
 refine cm 4 [3] (dI (m:=(k.natAbs-k'.natAbs)) (K:=k+k') (Ko rfl (ne_of_beq_false h1) hlt)) gP ⟨cY rfl,rfl⟩ ⟨rfl,rfl,rfl⟩ ?_;refine st ?_;refine nl ?_;refine rt ?_
 exact en (.inl rfl) rfl (bV (.agg (.cons (.id rfl) (.cons (.sl (trs:=aS (dg 4294967296 (k+k').natAbs)) rfl rfl (bY _) (bO _)) .nil)))) (by decide) (fun _=>cI (k+k')) rfl
theorem Sj {a b:Zi}{k k':Int}(ha:Zg a k) (hb:Zg b k'):aE true Tryz.prog 40 [] [gF a,gF b] (bC (kO (k-k'))):=by
 refine cL Tryz.func40 rfl Tryz.ntmps40 rfl aB rfl fun N w c0 h0=>?_
 have hkl:=ha.len
 have hkl':=hb.len
 have hkn:=Gq k'
 refine sq ?_;refine rl ?_;refine bx 0 ?_;refine bx 1 ?_;refine al 2 ?_;refine nl ?_;refine sq ?_;refine rd [0,1,2] (fun i=>[6].contains i) mixed ?_
 refine cT 0 ?_;refine cT 2 ?_;refine bS 1 rfl (cC ha) cB ⟨aV rfl,rfl⟩ (kF (k)) ?_;refine bS 3 rfl (cC hb) cB ⟨aV rfl,rfl⟩ (kF (k')) ?_
 refine bS 4 rfl (Gy (k:=k')) Vd ⟨aV rfl,rfl⟩ (kF (-(k'))) ?_;refine Id 3 5 rfl (Pm (k:=k) (k':=(-(k'))) (by omega) (by omega)) Vc ⟨aV rfl,aV rfl,rfl⟩ ?_
 refine dst 6 ?_;refine cR ?_;refine rt ?_
 exact en (.inl rfl) rfl (bV (.agg (.cons (.id rfl) (.cons (.sl (trs:=aS (dg 4294967296 ((k+(-(k')))).natAbs)) rfl rfl (bY _) (bO _)) .nil)))) (by decide) (fun _=>cI ((k+(-(k'))))) (by rw[Int.sub_eq_add_neg];rfl)
theorem Pn {a:Zi}{k:Int}(ha:Zg a k):aE true Tryz.prog 34 [] [gF a] (bC (.one (tv (.int .i64 k.sign)))):=by
 refine cL Tryz.func34 rfl Tryz.ntmps34 rfl aB rfl fun N w c0 h0=>?_
 refine sq ?_;refine rl ?_;refine bx 0 ?_;refine o1 ?_;refine nl ?_;refine sq ?_;refine sq ?_;refine rl ?_;refine ld ?_;refine ca (cC ha) cB ⟨aV rfl,rfl⟩ (kF (k)) ?_;refine al 1 ?_
 refine st ?_;refine nl ?_;refine bl ?_;refine sq ?_;refine rl ?_;refine o1 ?_;refine o1 ?_;refine ld ?_;refine o1 ?_;refine nl ?_;refine gY rfl (fun h1=>?_) (fun h1=>?_)
 ·refine sq ?_;refine rl ?_;refine o1 ?_;refine nl ?_;refine rt ?_;refine en (.inl rfl) rfl (bV (bD _)) (by decide) (fun _=>trivial) (congrArg (fun z=>FV.one (tv (.int .i64 z))) ?_)
  have h9:k<0:=of_decide_eq_true h1
  exact(Int.sign_eq_neg_one_of_neg h9).symm
 refine sq ?_;refine rl ?_;refine o1 ?_;refine o1 ?_;refine ld ?_;(iterate 3 refine o1 ?_);refine nl ?_;refine cE rfl (fun h2=>?_) (fun h2=>?_)
 ·refine sq ?_;refine rl ?_;refine o1 ?_;refine nl ?_;refine rt ?_;refine en (.inl rfl) rfl (bV (bD _)) (by decide) (fun _=>trivial) (congrArg (fun z=>FV.one (tv (.int .i64 z))) ?_)
  have h9:¬k<0:=of_decide_eq_false h1
  have h8:=gE (m:=k.natAbs) rfl
  have h7:decide (0<k.natAbs)=true:=by rw[←h8];exact decide_eq_true (by omega)
  have h6:=of_decide_eq_true h7
  exact(Int.sign_eq_one_of_pos (by omega)).symm
 refine sk ?_;refine sq ?_;refine rl ?_;refine o1 ?_;refine nl ?_;refine rt ?_
 refine en (.inl rfl) rfl (bV (bD _)) (by decide) (fun _=>trivial) (congrArg (fun z=>FV.one (tv (.int .i64 z))) ?_)
 have h9:¬k<0:=of_decide_eq_false h1
 have h8:=gE (m:=k.natAbs) rfl
 have h7:decide (0<k.natAbs)=false:=by rw[←h8];exact decide_eq_false (by omega)
 have h6:=of_decide_eq_false h7
 obtain rfl:k=0:=by omega
 rfl
theorem Sk {a b:Zi}{k k':Int}(ha:Zg a k) (hb:Zg b k') (hs:(dg 4294967296 (k-k').natAbs).length≤300000000000):aE true Tryz.prog 38 [] [gF a,gF b] (bC (.one (tv (.int .i64 (k-k').sign)))):=by
 refine cL Tryz.func38 rfl Tryz.ntmps38 rfl aB rfl fun N w c0 h0=>?_
 have hkl:=ha.2.1;have hkl2:=ha.len;have hkl3:=hb.len
 refine sq ?_;refine rl ?_;refine bx 0 ?_;refine bx 1 ?_;refine o1 ?_;refine nl ?_;refine sq ?_;refine rl ?_;refine ld ?_;refine ld ?_
 refine ca (Sj ha hb) Ur ⟨aV rfl,aV rfl,rfl⟩ (kF (k-k')) ?_;refine ca (Pn (Zg.of (k:=k-k') hs)) Uo ⟨aV rfl,rfl⟩ (.one (tv (.int .i64 (k-k').sign))) ?_;refine o1 ?_
 refine nl ?_;refine rt ?_;exact en (.inl rfl) rfl (bV (bD _)) (by decide) (fun _=>trivial) rfl
theorem Sl {a b:Zi}{k k':Int}(ha:Zg a k) (hb:Zg b k'):aE true Tryz.prog 37 [] [gF a,gF b] (bC (kO (k*k'))):=by
 refine cL Tryz.func37 rfl Tryz.ntmps37 rfl aB rfl fun N w c0 h0=>?_
 have hkl:=ha.len
 have hkl':=hb.len
 refine sq ?_;refine rl ?_;refine bx 0 ?_;refine bx 1 ?_;refine al 2 ?_;refine nl ?_
 refine md (γ:=Unit) (fun _=>cK [(4,.one (.pt 0 0)),(5,.one (.pt 1 0)),(6,.one (.pt 2 0))]) (fun _=>([⟨44,0,[tv (.bool false),tv (.slice none 0 0)]⟩,⟨103,0,[tv (.bool (aT k)),.t (sU false (dg 4294967296 k.natAbs))]⟩,⟨103,0,[tv (.bool (aT k')),.t (sU false (dg 4294967296 k'.natAbs))]⟩]:List Ob).map some) (fun _=>True) ?_ fun _ _=>?_
 ·refine rd [0,1,2] (fun i=>[7].contains i) mixed ?_
  refine cT 0 ?_;refine cT 2 ?_;refine WO.three (i:=1) (j:=4) (m:=5) (by kernel_rfl) ?_ ?_ ?_
  ·refine hG 1 rfl (cC ha) cB ⟨aV rfl,rfl⟩ (kF (k)) ?_;refine WO.three (i:=3) (j:=4) (m:=5) (by kernel_rfl) ?_ ?_ ?_
   ·refine hG 3 rfl (cC hb) cB ⟨aV rfl,rfl⟩ (kF (k')) ?_;refine WO.two (i:=4) (j:=5) (by kernel_rfl) ?_ ?_
    ·refine dS (key:=3) 4 rfl rfl aB rfl ⟨rfl,rfl,rfl,trivial⟩ ?_;refine jA (key:=4) 5 (by kernel_rfl) rfl rfl aB rfl ⟨rfl,rfl,rfl,trivial⟩ ?_
     refine cO 6 (by kernel_rfl) rfl rfl aB rfl rfl rfl rfl ⟨rfl,rfl,rfl,trivial⟩ ?_
     refine dst 7 ?_;refine cR ?_;exact⟨(),trivial,bH h0 [2,3,4] _ _ (by decide) ⟨rfl,rfl,rfl,trivial⟩ ⟨oe rfl rfl,oe rfl rfl,oe rfl rfl,rfl⟩⟩
    refine dS (key:=3) 5 rfl rfl aB rfl ⟨rfl,rfl,rfl,trivial⟩ ?_;refine jA (key:=4) 4 (by kernel_rfl) rfl rfl aB rfl ⟨rfl,rfl,rfl,trivial⟩ ?_
    refine cO 6 (by kernel_rfl) rfl rfl aB rfl rfl rfl rfl ⟨rfl,rfl,rfl,trivial⟩ ?_
    refine dst 7 ?_;refine cR ?_;exact⟨(),trivial,bH h0 [2,4,3] _ _ (by decide) ⟨rfl,rfl,rfl,trivial⟩ ⟨oe rfl rfl,oe rfl rfl,oe rfl rfl,rfl⟩⟩
   ·refine dS (key:=3) 4 rfl rfl aB rfl ⟨rfl,rfl,rfl,trivial⟩ ?_;refine WO.two (i:=3) (j:=5) (by kernel_rfl) ?_ ?_
    ·refine hG 3 rfl (cC hb) cB ⟨aV rfl,rfl⟩ (kF (k')) ?_;refine jA (key:=4) 5 (by kernel_rfl) rfl rfl aB rfl ⟨rfl,rfl,rfl,trivial⟩ ?_
     refine cO 6 (by kernel_rfl) rfl rfl aB rfl rfl rfl rfl ⟨rfl,rfl,rfl,trivial⟩ ?_
     refine dst 7 ?_;refine cR ?_;exact⟨(),trivial,bH h0 [2,3,4] _ _ (by decide) ⟨rfl,rfl,rfl,trivial⟩ ⟨oe rfl rfl,oe rfl rfl,oe rfl rfl,rfl⟩⟩
    refine dS (key:=4) 5 rfl rfl aB rfl ⟨rfl,rfl,rfl,trivial⟩ ?_;refine bS 3 rfl (cC hb) cB ⟨aV rfl,rfl⟩ (kF (k')) ?_
    refine cO 6 (by kernel_rfl) rfl rfl aB rfl rfl rfl rfl ⟨rfl,rfl,rfl,trivial⟩ ?_
    refine dst 7 ?_;refine cR ?_;exact⟨(),trivial,bH h0 [2,3,4] _ _ (by decide) ⟨rfl,rfl,rfl,trivial⟩ ⟨oe rfl rfl,oe rfl rfl,oe rfl rfl,rfl⟩⟩
   refine dS (key:=3) 5 rfl rfl aB rfl ⟨rfl,rfl,rfl,trivial⟩ ?_;refine WO.two (i:=3) (j:=4) (by kernel_rfl) ?_ ?_
   ·refine hG 3 rfl (cC hb) cB ⟨aV rfl,rfl⟩ (kF (k')) ?_;refine jA (key:=4) 4 (by kernel_rfl) rfl rfl aB rfl ⟨rfl,rfl,rfl,trivial⟩ ?_
    refine cO 6 (by kernel_rfl) rfl rfl aB rfl rfl rfl rfl ⟨rfl,rfl,rfl,trivial⟩ ?_
    refine dst 7 ?_;refine cR ?_;exact⟨(),trivial,bH h0 [2,4,3] _ _ (by decide) ⟨rfl,rfl,rfl,trivial⟩ ⟨oe rfl rfl,oe rfl rfl,oe rfl rfl,rfl⟩⟩
   refine dS (key:=4) 4 rfl rfl aB rfl ⟨rfl,rfl,rfl,trivial⟩ ?_;refine bS 3 rfl (cC hb) cB ⟨aV rfl,rfl⟩ (kF (k')) ?_
   refine cO 6 (by kernel_rfl) rfl rfl aB rfl rfl rfl rfl ⟨rfl,rfl,rfl,trivial⟩ ?_
   refine dst 7 ?_;refine cR ?_;exact⟨(),trivial,bH h0 [2,4,3] _ _ (by decide) ⟨rfl,rfl,rfl,trivial⟩ ⟨oe rfl rfl,oe rfl rfl,oe rfl rfl,rfl⟩⟩
  ·refine dS (key:=3) 4 rfl rfl aB rfl ⟨rfl,rfl,rfl,trivial⟩ ?_;refine WO.two (i:=1) (j:=5) (by kernel_rfl) ?_ ?_
   ·refine hG 1 rfl (cC ha) cB ⟨aV rfl,rfl⟩ (kF (k)) ?_;refine WO.two (i:=3) (j:=5) (by kernel_rfl) ?_ ?_
    ·refine hG 3 rfl (cC hb) cB ⟨aV rfl,rfl⟩ (kF (k')) ?_;refine jA (key:=4) 5 (by kernel_rfl) rfl rfl aB rfl ⟨rfl,rfl,rfl,trivial⟩ ?_
     refine cO 6 (by kernel_rfl) rfl rfl aB rfl rfl rfl rfl ⟨rfl,rfl,rfl,trivial⟩ ?_
     refine dst 7 ?_;refine cR ?_;exact⟨(),trivial,bH h0 [2,3,4] _ _ (by decide) ⟨rfl,rfl,rfl,trivial⟩ ⟨oe rfl rfl,oe rfl rfl,oe rfl rfl,rfl⟩⟩
    refine dS (key:=4) 5 rfl rfl aB rfl ⟨rfl,rfl,rfl,trivial⟩ ?_;refine bS 3 rfl (cC hb) cB ⟨aV rfl,rfl⟩ (kF (k')) ?_
    refine cO 6 (by kernel_rfl) rfl rfl aB rfl rfl rfl rfl ⟨rfl,rfl,rfl,trivial⟩ ?_
    refine dst 7 ?_;refine cR ?_;exact⟨(),trivial,bH h0 [2,3,4] _ _ (by decide) ⟨rfl,rfl,rfl,trivial⟩ ⟨oe rfl rfl,oe rfl rfl,oe rfl rfl,rfl⟩⟩
   refine dS (key:=4) 5 rfl rfl aB rfl ⟨rfl,rfl,rfl,trivial⟩ ?_;refine bS 1 rfl (cC ha) cB ⟨aV rfl,rfl⟩ (kF (k)) ?_;refine bS 3 rfl (cC hb) cB ⟨aV rfl,rfl⟩ (kF (k')) ?_
   refine cO 6 (by kernel_rfl) rfl rfl aB rfl rfl rfl rfl ⟨rfl,rfl,rfl,trivial⟩ ?_
   refine dst 7 ?_;refine cR ?_;exact⟨(),trivial,bH h0 [2,3,4] _ _ (by decide) ⟨rfl,rfl,rfl,trivial⟩ ⟨oe rfl rfl,oe rfl rfl,oe rfl rfl,rfl⟩⟩
  refine dS (key:=3) 5 rfl rfl aB rfl ⟨rfl,rfl,rfl,trivial⟩ ?_;refine WO.two (i:=1) (j:=4) (by kernel_rfl) ?_ ?_
  ·refine hG 1 rfl (cC ha) cB ⟨aV rfl,rfl⟩ (kF (k)) ?_;refine WO.two (i:=3) (j:=4) (by kernel_rfl) ?_ ?_
   ·refine hG 3 rfl (cC hb) cB ⟨aV rfl,rfl⟩ (kF (k')) ?_;refine jA (key:=4) 4 (by kernel_rfl) rfl rfl aB rfl ⟨rfl,rfl,rfl,trivial⟩ ?_
    refine cO 6 (by kernel_rfl) rfl rfl aB rfl rfl rfl rfl ⟨rfl,rfl,rfl,trivial⟩ ?_
    refine dst 7 ?_;refine cR ?_;exact⟨(),trivial,bH h0 [2,4,3] _ _ (by decide) ⟨rfl,rfl,rfl,trivial⟩ ⟨oe rfl rfl,oe rfl rfl,oe rfl rfl,rfl⟩⟩
   refine dS (key:=4) 4 rfl rfl aB rfl ⟨rfl,rfl,rfl,trivial⟩ ?_;refine bS 3 rfl (cC hb) cB ⟨aV rfl,rfl⟩ (kF (k')) ?_
   refine cO 6 (by kernel_rfl) rfl rfl aB rfl rfl rfl rfl ⟨rfl,rfl,rfl,trivial⟩ ?_
   refine dst 7 ?_;refine cR ?_;exact⟨(),trivial,bH h0 [2,4,3] _ _ (by decide) ⟨rfl,rfl,rfl,trivial⟩ ⟨oe rfl rfl,oe rfl rfl,oe rfl rfl,rfl⟩⟩
  refine dS (key:=4) 4 rfl rfl aB rfl ⟨rfl,rfl,rfl,trivial⟩ ?_;refine bS 1 rfl (cC ha) cB ⟨aV rfl,rfl⟩ (kF (k)) ?_;refine bS 3 rfl (cC hb) cB ⟨aV rfl,rfl⟩ (kF (k')) ?_
  refine cO 6 (by kernel_rfl) rfl rfl aB rfl rfl rfl rfl ⟨rfl,rfl,rfl,trivial⟩ ?_
  refine dst 7 ?_;refine cR ?_;exact⟨(),trivial,bH h0 [2,4,3] _ _ (by decide) ⟨rfl,rfl,rfl,trivial⟩ ⟨oe rfl rfl,oe rfl rfl,oe rfl rfl,rfl⟩⟩
 refine sq ?_;refine rd [0,1,2] (fun i=>[15].contains i) mixed ?_
 refine dv 0 ?_;refine dv 1 ?_;refine cT 2 ?_;refine dv 3 ?_;refine dv 4 ?_;refine cT 5 ?_;refine dv 6 ?_;refine dv 7 ?_;refine dv 8 ?_;refine cT 9 ?_;refine dv 10 ?_;refine dv 11 ?_
 refine cT 12 ?_
 have hA:aE true Tryz.prog 44 [] [.one (.t (sU false (dg 4294967296 k.natAbs))),.one (.t (sU false (dg 4294967296 k'.natAbs)))] (bC (.one (.t (sU true (dg 4294967296 (k.natAbs*k'.natAbs)))))):=by have h9:=Sg (aQ (by omega) k.natAbs) (aQ (by omega) k'.natAbs) (by omega) (by omega);rwa[bB,bB]at h9
 refine Id 3 13 rfl hA Us ⟨a1 rfl,a1 rfl,rfl⟩ ?_
 refine qS 14 4 [3] rfl (dI (b:=(aT k != aT k')) (m:=(k.natAbs*k'.natAbs)) (K:=k*k') (Kg k k')) gP ⟨cY rfl,rfl⟩ ⟨rfl,rfl,rfl⟩ ⟨rfl,rfl,rfl,trivial⟩ ?_
 refine dst 15 ?_;refine cR ?_;refine rt ?_
 exact en (.inl rfl) rfl (bV (.agg (.cons (.id rfl) (.cons (.sl (trs:=aS (dg 4294967296 ((k*k')).natAbs)) rfl rfl (bY _) (bO _)) .nil)))) (by decide) (fun _=>cI ((k*k'))) rfl
theorem Sm {a b:Zi}{k k':Int}(ha:Zg a k) (hb:Zg b k'):aE true Tryz.prog 41 [] [gF a,gF b] (bC (kO (((Int.gcd k k'):Nat):Int))):=by
 refine cL Tryz.func41 rfl Tryz.ntmps41 rfl aB rfl fun N w c0 h0=>?_
 have hkl:=ha.len
 have hkl':=hb.len
 refine sq ?_;refine rl ?_;refine bx 0 ?_;refine bx 1 ?_;refine al 2 ?_;refine nl ?_;refine sq ?_;refine rd [0,1,2] (fun i=>[11].contains i) mixed ?_
 refine cT 0 ?_;refine cT 4 ?_;refine bS 1 rfl (cC ha) cB ⟨aV rfl,rfl⟩ (kF (k)) ?_;refine df 2 ?_;refine df 3 ?_;refine bS 5 rfl (cC hb) cB ⟨aV rfl,rfl⟩ (kF (k')) ?_
 refine df 6 ?_;refine df 7 ?_;refine Ag (key:=3) 8 (by kernel_rfl) rfl rfl aB rfl ⟨rfl,rfl,rfl,trivial⟩ ?_
 refine Vy (i:=13) (k:=3) (t:=23) (t':=23) (z:=1) (n:=2) (l:=[sU false (dg 4294967296 k.natAbs),sU false (dg 4294967296 k'.natAbs)]) rfl rfl rfl rfl (.one .sl) (by rfl) (by rfl) ?_
 have hA:aE true Tryz.prog 46 [] [.one (.t (.s false 23 1 2 [sU false (dg 4294967296 k.natAbs),sU false (dg 4294967296 k'.natAbs)]))] (bC (.one (.t (sU true (dg 4294967296 (Int.gcd k k')))))):=by
  have h9:=Si (t:=23) (aQ (by omega) k.natAbs) (aQ (by omega) k'.natAbs) (by omega) (by omega)
  rwa[show jY [dg 4294967296 k.natAbs,dg 4294967296 k'.natAbs]=(Int.gcd k k') by simp only[jY,List.foldl_cons,List.foldl_nil,bB,Nat.gcd_zero_left];rfl]at h9
 refine Id 4 9 rfl hA Uu ⟨a1 rfl,rfl⟩ ?_
 refine qS 10 5 [4] rfl (dI (b:=false) (m:=(Int.gcd k k')) (K:=(((Int.gcd k k'):Nat):Int)) (by simp[cG])) gP ⟨cY rfl,rfl⟩ ⟨rfl,rfl,rfl⟩ ⟨rfl,rfl,rfl,trivial⟩ ?_
 refine dst 11 ?_;refine cR ?_;refine rt ?_
 exact en (.inl rfl) rfl (bV (.agg (.cons (.id rfl) (.cons (.sl (trs:=aS (dg 4294967296 ((((Int.gcd k k'):Nat):Int)).natAbs)) rfl rfl (bY _) (bO _)) .nil)))) (by decide) (fun _=>cI ((((Int.gcd k k'):Nat):Int))) rfl
end Go.Proofs.YteggpgndiajdpaaGreatDoor
