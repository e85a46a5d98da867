/- Part 7 of a proof: Fq to G1. -/
import Derived.Test.YtbbabfkgdnkehaaGreatM4
import Derived.Test.YtbbabfkgdnkehaaGreatM6
import Derived.Test.YtbbabfkgdnkehaaGreatM5
set_option maxRecDepth 100000
set_option linter.unusedVariables false
set_option linter.unusedSimpArgs false
namespace Go.Proofs.YtbbabfkgdnkehaaGreat
open Go Go.RowKit
def aY (xs:List Nat):List Tr:=xs.map fun(n:Nat)=>.v (.int .u32 (n:Int))
def sU (o:Bool) (xs:List Nat):Tr:=.s o 113 1 xs.length (aY xs)
theorem hH (xs:List Nat):(aY xs).length=xs.length:=by simp[aY]
theorem KB (xs:List Nat):gM ((aY xs).map .t)=true:=by
 induction xs with
 | nil=>rfl
 | cons x xs ih=>simpa[aY,gM,oR]using ih
theorem Xt (xs:List Nat):eJ ((aY xs).map .t)=true:=by
 induction xs with
 | nil=>rfl
 | cons x xs ih=>simpa[aY,eJ,lone]using ih
theorem eV (xs:List Nat):NoFrL (aY xs):=by
 induction xs with
 | nil=>simp[aY,NoFrL]
 | cons x xs ih=>simpa[aY,NoFrL,lI]using ih
structure Fr4 where
 s:Bool
 x:List Nat
 t:Bool
 y:List Nat
namespace Fr4
def tr (o:Bool) (a:Fr4):List Tr:=[.v (.bool a.s),sU o a.x,.v (.bool a.t),sU o a.y]
def q (a:Fr4):Rat:=wI a.s a.x a.t a.y
def of (q:Rat):Fr4:=⟨aE q.num,dg 4294967296 q.num.natAbs,false,dg 4294967296 q.den⟩
def ok (a:Fr4):Prop:=Lim 4294967296 a.x∧Lim 4294967296 a.y∧a.x.length≤68719476736∧a.y.length≤68719476736
theorem q_of (q:Rat):(of q).q=q:=NH q
end Fr4
def qF (a:Fr4):FV:=.agg ((a.tr false).map .t)
def qO (q:Rat):FV:=.agg (((Fr4.of q).tr true).map .t)
theorem Bp (q:Rat):jK (qO q):=by
 simp only[jK,qO,oF,Fr4.tr,List.map_cons,List.map_nil,kB,rE,sU,lI]
 exact⟨trivial,.inl ⟨trivial,eV _⟩,trivial,.inl ⟨trivial,eV _⟩,trivial⟩
section
variable {W:World}{N:Nat→Prop}
theorem Dl {o:Bool}{xs:List Nat}{u:Value}(h:FR W N (sU o xs) u) (hl:Lim 4294967296 xs):∃A c,u=.slice A xs.length c∧LimR W N A xs.length c xs:=by
 simp only[sU,FR]at h
 obtain⟨A,c,rfl,h1,h2,h3,h4⟩:=h
 refine⟨A,c,rfl,rfl,h1,h2,hl,fun hn=>?_⟩
 rcases h4 with h4 | ⟨ad,rfl,h5,h6⟩
 ·omega
 refine⟨ad,rfl,h5,fun k u hk=>?_⟩
 simp only[gB,List.getElem?_map,Option.map_eq_some_iff]at hk
 obtain⟨m,hm,rfl⟩:=hk
 obtain⟨u,e1,e2⟩:=mU h6 (j:=k) (x:=.v (.int .u32 (m:Int))) (by simp[aY,hm])
 simp only[FR]at e2
 rw[Nat.zero_add]at e1
 rw[e1,e2]
theorem wL {t:TypeId}{base n c:Nat}{A:Option Addr}{xs:List Nat}(h:Own t W base A n c xs):∃y:VT,y.val=.slice A n c∧OR W N (.s true t 1 xs.length (aY xs)) y∧y.ok W∧y.fp=(Value.slice A n c).ownBlock.toList:=by
 have hl:=h.len
 rcases h.row.2 with⟨h2,h3⟩ | ⟨g,cap,cur,hv,_,hg,hnc,hcm,hcs,htake⟩
 ·injection h2 with e1 e2 e3
  subst e1 e3
  subst h3
  have:xs=[]:=List.eq_nil_of_length_eq_zero hl
  subst this
  exact⟨.w (.slice none 0 0),rfl,by simp[OR,aY],by simp[VT.ok],by simp[VT.fp,Value.ownBlock]⟩
 injection hv with e1 e2 e3
 subst e1 e3
 have hor:ORL W N (aY xs) ((gB xs).map VT.w):=by
  clear hl htake h
  induction xs with
  | nil=>simp[aY,gB,ORL]
  | cons x xs ih=>simpa[aY,gB,ORL,OR]using ih
 refine⟨.s g c t 1 n ((gB xs).map .w),rfl,?_,?_,by simp[VT.fp,mE,Value.ownBlock]⟩
 ·simp only[OR]
  exact⟨trivial,hl.symm,trivial,trivial,hor⟩
 simp only[VT.ok]
 refine⟨⟨cur.toList.drop (n*1),?_,?_⟩,hnc,hcm,by simp[jC,hl],tV _⟩
 ·rw[tX,←htake,List.take_append_drop]
  simpa using hg
 rw[tX,←htake,List.take_append_drop]
 simpa using hcs
end
section
variable {f:FuncId}{args:List FV}
theorem wM {N:Nat→Prop}{w:World}{cs:List Co}{us:List Value}(hL:Loc ((aF (bD []) cs).flatMap Res.S) w w (aF (bD []) cs) [(Uh [] cs args us).on N]):cs=[]∧dE w (fun b=>b<w.heap.size∧N b) [] args us:=by
 have h:=Sh.off (hL.sh 0 rfl)
 have hc:cs=[]:=List.eq_nil_of_length_eq_zero (by have:=h.1.1;simpa[bD]using this.symm)
 subst hc
 exact⟨rfl,lB (fun _ _=>rfl) (fun b hb=>⟨hb.1.1,hb.2⟩) .refl _ _ h.2⟩
theorem Ended.mk0 {fresh:Bool}{N:Nat→Prop}{M:List Nat}{w W:World}{R:List Lt→FV→Prop}{v:Value}{r:FV}{y:List VT}(hR:R [] r) (hb:Below w.heap.size w W) (hok:VT.okL W y) (hnd:(VT.fpL y).Nodup) (hfp:∀b∈VT.fpL y,w.heap.size≤b∧b<W.heap.size)
  (hro:RO W (fun b=>fresh=false∧(b<W.heap.size∧b∉VT.fpL y)∧(N b∨w.heap.size≤b)) [] r v y):Ended fresh N M w [] [] R (.returned v) W:=by
 refine⟨v,[],[],r,y,rfl,hR,rfl,fun _ _ _ h=>by simp at h,rfl,.refl,?_⟩
 refine⟨⟨hb.os,hb.tape,hb.output,hb.size,fun k hk _=>hb.block k hk⟩,fun q hq=>?_,fun b hb=>?_,by simpa[bD,aF,fL]using hnd,fun q hq=>?_⟩
 ·simp[bD,aF]at hq
  subst hq
  exact hok
 ·have:=hfp b (by simpa[bD,aF,fL]using hb)
  exact⟨.inr this.1,this.2⟩
 simp at hq
 subst hq
 refine⟨⟨rfl,fun k o hk=>by simp[bD]at hk⟩,pI (fun _ _=>rfl) (fun b hb=>⟨hb.1,⟨⟨hb.2.1.1,?_⟩,hb.2.2.elim .inl fun h=>.inr (.inr h)⟩⟩) .refl hro⟩
 simpa[bD,aF,fL]using hb.2.1.2
theorem AQ {v:Value}(h:∀(N:Nat→Prop) (w:World) us,dE w N [] args us→(∀b,N b→b<w.heap.size)→Calls Tryz.prog f us.toArray w (fun e w'=>e=.returned v∧Below w.heap.size w w')):aD true Tryz.prog f [] args (aP (.one (tv v))):=by
 intro N w cs us hL
 obtain⟨rfl,hf⟩:=wM hL
 refine(h _ w us hf (fun b hb=>hb.1)).mono ?_
 rintro e W ⟨rfl,hb⟩
 refine .mk0 (y:=[.w v]) rfl hb (by simp[VT.okL,VT.ok]) (by simp[VT.fpL,VT.fp]) (by simp[VT.fpL,VT.fp]) ⟨.w v,rfl,rfl,?_⟩
 simp[CR,tv,OR]
end
theorem Kd {W:World}{N:Nat→Prop}{a b:FV}{us:List Value}(h:dE W N [] [a,b] us):∃u v,us=[u,v]∧bU W N [] a u∧bU W N [] b v:=by
 match us,h with
 | [u,v],h=>
  simp only[dE]at h
  exact⟨u,v,rfl,h.1,h.2.1⟩
 | [],h=>simp only[dE]at h
 | [_],h=>simp only[dE]at h;exact h.2.elim
 | _::_::_::_,h=>simp only[dE]at h;exact absurd h.2.2 (by simp)
theorem AS {W:World}{N:Nat→Prop}{a:FV}{us:List Value}(h:dE W N [] [a] us):∃u,us=[u]∧bU W N [] a u:=by
 match us,h with
 | [u],h=>
  simp only[dE]at h
  exact⟨u,rfl,h.1⟩
 | [],h=>simp only[dE]at h
 | _::_::_,h=>simp only[dE]at h;exact absurd h.2 (by simp)
section
variable {a b:Fr4}
end
theorem pO (xs:List Nat){k:Nat}(h:k<xs.length):((aY xs).drop (k*1)).take [Tr.v (.int .u32 ((nth xs k:Nat):Int))].length=[Tr.v (.int .u32 ((nth xs k:Nat):Int))]:=by
 rw[Nat.mul_one]
 have:(aY xs)[k]? =some (Tr.v (.int .u32 ((nth xs k:Nat):Int))):=by simp[aY,eG h,h]
 rw[List.length_singleton,List.take_one]
 simp[this]
theorem aN {x:Cx}{g:Nat→FV}{ob:List (Option Ob)}(h0:x.c0.length=0) (τ:List Nat) (live:List (Nat×FV)) (os:List Ob) (hn:τ.Nodup) (h1:vY τ g live) (h2:iN τ ob τ os):Sub x g ob (cA live) (os.map some):=
 su τ (fun k hk=>by rw[h0]at hk;cases hk) live os hn h1 h2
theorem bV (xs:List Nat):((aY xs).map AV.t).take (xs.length*1)=(aY xs).map .t:=by rw[Nat.mul_one,List.take_of_length_le (by simp[hH])]
theorem bR (xs:List Nat):(aY xs).length=xs.length*1:=by simp[hH]
def rO (a:Fr4):FV:=.agg ((a.tr true).map .t)
theorem vN (a:Fr4):jK (rO a):=by
 simp only[jK,rO,oF,Fr4.tr,List.map_cons,List.map_nil,kB,rE,sU,lI]
 exact⟨trivial,.inl ⟨trivial,eV _⟩,trivial,.inl ⟨trivial,eV _⟩,trivial⟩
theorem NI {a b:Fr4}:a=b↔(a.s=b.s∧a.t=b.t)∧a.x=b.x∧a.y=b.y:=by
 obtain⟨s,x,t,y⟩:=a
 obtain⟨s',x',t',y'⟩:=b
 simp only[Fr4.mk.injEq]
 constructor
 ·rintro⟨h1,h2,h3,h4⟩
  exact⟨⟨h1,h3⟩,h2,h4⟩
 rintro⟨⟨h1,h3⟩,h2,h4⟩
 exact⟨h1,h2,h3,h4⟩
instance:DecidableEq Fr4:=fun a b=>decidable_of_iff _ NI.symm
def Fr4.len (a:Fr4) (m:Nat):Prop:=a.x.length≤m∧a.y.length≤m
def hv:List Nat→List Nat
 | []=>[]
 | x::xs=>x%65536::x/65536::hv xs
def lb:List Nat→List Nat
 | []=>[]
 | [a]=>[a]
 | a::b::l=>(a+65536*b)::lb l
theorem Fc:∀(a b:List Nat),hv (a++b)=hv a++hv b
 | [],_=>rfl
 | x::xs,b=>by simp only[List.cons_append,hv,Fc xs b]
theorem pP:∀(a:List Nat),(hv a).length=2*a.length
 | []=>rfl
 | x::xs=>by simp only[hv,List.length_cons,pP xs];omega
theorem Vl:∀{a:List Nat},Lim 4294967296 a→Lim 65536 (hv a)
 | [],_=>Lim.nil
 | x::xs,h=>Lim.cons (Nat.mod_lt _ (by omega)) (Lim.cons (by have:=h.head;omega) (Vl h.tail))
theorem CY:∀(a:List Nat),vl 65536 (hv a)=vl 4294967296 a
 | []=>rfl
 | x::xs=>by
  simp only[hv,fW,CY xs]
  have:=Nat.mod_add_div x 65536
  omega
theorem BM {a:List Nat}(h:Lim 4294967296 a):trim (hv a)=dg 65536 (vl 4294967296 a):=by rw[←CY,eZ (by omega) (Vl h)]
theorem Lr {a:List Nat}{k:Nat}(h:k<a.length):hv (a.take (k+1))=hv (a.take k)++[nth a k%65536,nth a k/65536]:=by
 rw[oI h,Fc]
 rfl
theorem CZ:∀(a:List Nat),vl 4294967296 (lb a)=vl 65536 a
 | []=>rfl
 | [a]=>by simp[lb,rP]
 | a::b::l=>by
  simp only[lb,fW,CZ l]
  omega
theorem Vm:∀{a:List Nat},Lim 65536 a→Lim 4294967296 (lb a)
 | [],_=>Lim.nil
 | [a],h=>Lim.cons (by have:=h.head;omega) Lim.nil
 | a::b::l,h=>Lim.cons (by have:=h.head;have:=h.tail.head;omega) (Vm h.tail.tail)
theorem iK:∀(a:List Nat),(lb a).length=(a.length+1)/2
 | []=>rfl
 | [a]=>by simp[lb]
 | a::b::l=>by simp only[lb,List.length_cons,iK l];omega
theorem NJ {a:List Nat}(h:lb a=[]):a=[]:=by
 rcases a with _ | ⟨x,_ | ⟨y,l⟩⟩
 ·rfl
 ·simp[lb]at h
 simp[lb]at h
theorem Oi:∀{a:List Nat},trim a=a→trim (lb a)=lb a
 | [],_=>rfl
 | [a],h=>h
 | a::b::l,h=>by
  have hl:trim l=l:=by
   rw[eM]at h
   split at h
   ·cases h
   injection h with _ h
   rw[eM]at h
   split at h
   ·cases h
   injection h
  have ih:=Oi hl
  simp only[lb]
  rw[eM,ih]
  split
  ·rename_i hc
   have h0:=NJ hc.1
   subst h0
   rw[eM,eM,Wn]at h
   have hb:b=0:=by omega
   have ha:a=0:=by omega
   subst hb ha
   simp at h
  rfl
theorem zY (v:Nat):lb (dg 65536 v)=dg 4294967296 v:=by
 have h:=Oi (rR (B:=65536) (by omega) v)
 rw[←h,←eZ (B:=4294967296) (by omega) (Vm (aM (by omega) v)),CZ,cE (by omega)]
theorem xW:∀{l:List Nat}{k:Nat},2*k<l.length→lb (l.take (2*(k+1)))=lb (l.take (2*k))++[nth l (2*k)+65536*nth l (2*k+1)]
 | [],_,h=>by simp at h
 | [a],0,_=>by simp[lb,nth]
 | [a],k+1,h=>by simp at h
 | a::b::l,0,_=>by simp[lb,nth]
 | a::b::l,k+1,h=>by
  have ih:=xW (l:=l) (k:=k) (by simp at h;omega)
  have e1:2*(k+1+1)=2*(k+1)+1+1:=by omega
  have e2:2*(k+1)=2*k+1+1:=by omega
  rw[e1,List.take_succ_cons,List.take_succ_cons]
  simp only[lb]
  rw[ih,e2,List.take_succ_cons,List.take_succ_cons]
  simp only[lb,List.cons_append]
  simp[nth]
theorem fB {v L:Nat}(h:(dg 4294967296 v).length≤L):(dg 65536 v).length≤2*L:=by
 have h1:=oS (B:=4294967296) (by omega) (n:=v)
 refine cW (by omega) (Nat.lt_of_lt_of_le h1 ?_)
 rw[Nat.pow_mul]
 exact Nat.pow_le_pow_right (by omega) h
theorem Ke {X Y os:List Nat}{k cr:Nat}(hl:os.length=k) (h:vl 65536 os+65536^k*cr=vl 65536 (X.take k)+vl 65536 (Y.take k)):
  vl 65536 (os++[(nth X k+nth Y k+cr)%65536])+65536^(k+1)*((nth X k+nth Y k+cr)/65536)=vl 65536 (X.take (k+1))+vl 65536 (Y.take (k+1)):=by
 rw[lK,bK,bK,hl,Nat.pow_succ,Nat.mul_assoc]
 have h2:=Nat.mod_add_div (nth X k+nth Y k+cr) 65536
 have h3:65536^k*(nth X k+nth Y k+cr)=65536^k*((nth X k+nth Y k+cr)%65536)+65536^k*(65536*((nth X k+nth Y k+cr)/65536)):=by rw[←Nat.mul_add,h2]
 rw[Nat.mul_add,Nat.mul_add]at h3
 omega
theorem Kf {X Y os:List Nat}{k br br' d:Nat}(hl:os.length=k) (h:vl 65536 os+vl 65536 (Y.take k)=vl 65536 (X.take k)+65536^k*br) (hd:d+nth Y k+br=nth X k+65536*br'):
  vl 65536 (os++[d])+vl 65536 (Y.take (k+1))=vl 65536 (X.take (k+1))+65536^(k+1)*br':=by
 rw[lK,bK,bK,hl,Nat.pow_succ,Nat.mul_assoc]
 have h3:65536^k*(d+nth Y k+br)=65536^k*(nth X k+65536*br'):=by rw[hd]
 rw[Nat.mul_add,Nat.mul_add,Nat.mul_add]at h3
 omega
theorem NK {a b:Nat}(h:¬((a:Int)-(b:Int)).sign<0):b≤a:=by
 rcases Nat.lt_or_ge a b with h1 | h1
 ·exact absurd (by rw[Int.sign_eq_neg_one_of_neg (by omega)];omega) h
 exact h1
theorem NL {a b:Nat}(h:((a:Int)-(b:Int)).sign<0):a<b:=by
 rcases Nat.lt_or_ge a b with h1 | h1
 ·exact h1
 exact absurd (Int.sign_neg_iff.1 h) (by omega)
theorem Gd {X Y:List Nat}{k:Nat}(hX:Lim 65536 X) (hk:∀j,k+1≤j→nth X j=nth Y j) (h:nth X k<nth Y k):vl 65536 X<vl 65536 Y:=by
 have hS:∀m,vl 65536 (X.take (k+1+m))+vl 65536 (Y.take (k+1))=vl 65536 (Y.take (k+1+m))+vl 65536 (X.take (k+1)):=by
  intro m
  induction m with
  | zero=>exact Nat.add_comm _ _
  | succ m ih=>
   rw[←Nat.add_assoc,bK 65536 X (k+1+m),bK 65536 Y (k+1+m),hk (k+1+m) (by omega)]
   omega
 have h1:=hS (X.length+Y.length)
 rw[bP 65536 (l:=X) (k:=k+1+(X.length+Y.length)) (by omega),bP 65536 (l:=Y) (k:=k+1+(X.length+Y.length)) (by omega)]at h1
 have h2:vl 65536 (X.take (k+1))<vl 65536 (Y.take (k+1)):=by
  rw[bK,bK]
  have h3:=eW (hX.take k)
  have h4:65536^(X.take k).length≤65536^k:=Nat.pow_le_pow_right (by omega) (by rw[List.length_take];omega)
  have h5:65536^k*(nth X k+1)≤65536^k*nth Y k:=Nat.mul_le_mul_left _ h
  rw[Nat.mul_add]at h5
  omega
 omega
theorem Ry {X Y:List Nat}(h:∀j,nth X j=nth Y j):vl 65536 X=vl 65536 Y:=by
 have hS:∀m,vl 65536 (X.take m)=vl 65536 (Y.take m):=by
  intro m
  induction m with
  | zero=>rfl
  | succ m ih=>rw[bK,bK,ih,h]
 have h1:=hS (X.length+Y.length)
 rwa[bP 65536 (l:=X) (k:=X.length+Y.length) (by omega),bP 65536 (l:=Y) (k:=X.length+Y.length) (by omega)]at h1
def eD (xs:List Nat):List Tr:=xs.map fun(n:Nat)=>.v (.int .i64 (n:Int))
def sI (o:Bool) (xs:List Nat):Tr:=.s o 3 1 xs.length (eD xs)
theorem gZ (xs:List Nat):(eD xs).length=xs.length:=by simp[eD]
theorem fG (xs:List Nat){k:Nat}(h:k<xs.length):((eD xs).drop (k*1)).take [Tr.v (.int .i64 ((nth xs k:Nat):Int))].length=[Tr.v (.int .i64 ((nth xs k:Nat):Int))]:=by
 rw[Nat.mul_one]
 have:(eD xs)[k]? =some (Tr.v (.int .i64 ((nth xs k:Nat):Int))):=by simp[eD,eG h,h]
 rw[List.length_singleton,List.take_one]
 simp[this]
theorem hG (xs ys:List Nat):(eD xs).map AV.t++(eD ys).map .t=(eD (xs++ys)).map .t:=by simp[eD]
theorem Kg (xs ys:List Nat):(aY xs).map AV.t++(aY ys).map .t=(aY (xs++ys)).map .t:=by simp[aY]
theorem Vo (xs:List Nat) (k:Nat):(eD xs).take (k*1)=eD (xs.take k):=by simp[eD,List.map_take]
theorem Ru {xs:List Nat}{m:Nat}(h:m≤xs.length):FV.one (.t (.s false 3 1 m ((eD xs).take (m*1))))=.one (.t (sI false (xs.take m))):=by
 rw[Vo]
 unfold sI
 rw[List.length_take,Nat.min_eq_left h]
theorem IZ (xs:List Nat):gM ((eD xs).map .t)=true:=by
 induction xs with
 | nil=>rfl
 | cons x xs ih=>simpa[eD,gM,oR]using ih
theorem Xe (xs:List Nat):eJ ((eD xs).map .t)=true:=by
 induction xs with
 | nil=>rfl
 | cons x xs ih=>simpa[eD,eJ,lone]using ih
theorem kG (a b:Nat):Int.tmod (a:Int) (b:Int)=((a%b:Nat):Int):=by
 rw[Int.tmod_eq_emod_of_nonneg (by omega)]
 rfl
theorem fP (a b:Nat):Int.tdiv (a:Int) (b:Int)=((a/b:Nat):Int):=by
 rw[Int.tdiv_eq_ediv_of_nonneg (by omega)]
 rfl
theorem gW {k:IntKind}{a:Nat}(b:Nat) (hb:b≠0) (h:iE k (a:Int)):(b:Int)≠0∧iE k (Int.tdiv (a:Int) (b:Int)):=by
 refine⟨by omega,?_⟩
 rw[fP]
 have:=Nat.div_le_self a b
 generalize a/b=c at this⊢
 cases k <;> simp only[iE]at h⊢ <;> omega
section
variable {x:Cx}{g:Nat→FV}{ob:List (Option Ob)}
theorem xZ {i k n:Nat}{zs zs':List Nat}(hi:Nat.blt i x.n=true) (hg:g i=.one (.sl k 0 n)) (ho:bS ob k=some ⟨3,1,(eD zs).map .t⟩) (hn:n=zs.length) (he:zs=zs'):Sub x g ob (aU g i (.one (.t (sI false zs')))) (ob.set k none):=by
 subst he
 have:=fz hi hg ho (by rw[gZ,hn,Nat.mul_one])
 rw[hn]at this
 exact this
theorem VM {i k n:Nat}{zs zs':List Nat}(hi:Nat.blt i x.n=true) (hg:g i=.one (.sl k 0 n)) (ho:bS ob k=some ⟨113,1,(aY zs).map .t⟩) (hn:n=zs.length) (he:zs=zs'):Sub x g ob (aU g i (.one (.t (sU false zs')))) (ob.set k none):=by
 subst he
 have:=fz hi hg ho (by rw[hH,hn,Nat.mul_one])
 rw[hn]at this
 exact this
theorem lU {τ:List Nat}{a:Option Ob}{xs ys:List Nat}{l:List AV}(h1:a=some ⟨3,1,l⟩) (h:l=(eD ys).map .t) (he:ys=xs):Bd τ a ⟨3,1,(eD xs).map .t⟩:=aI (by rw[h1,h,he])
theorem Rw {τ:List Nat}{a:Option Ob}{xs ys:List Nat}{l:List AV}(h1:a=some ⟨113,1,l⟩) (h:l=(aY ys).map .t) (he:ys=xs):Bd τ a ⟨113,1,(aY xs).map .t⟩:=aI (by rw[h1,h,he])
end
section
variable {l:List Nat}{k N:Nat}{z:Int}{xs:List Nat}{neg:Bool}
theorem Bq (hr:dI neg xs=false):fE neg xs=0:=by simp[fE,hr]
theorem mM (h:xs.length=0):dI neg xs= !neg:=by
 rw[List.length_eq_zero_iff]at h
 subst h
 simp[dI]
theorem uG {n:Nat}(hn:xs.length=n) (h:0<n):dI neg xs=decide (((nth xs (n-1):Nat):Int)≠0):=by
 subst hn
 rcases xs with _ | ⟨x,l⟩
 ·simp at h
 simp only[dI,List.isEmpty_cons,Bool.false_and,Bool.not_false,Bool.true_and,Bool.false_or]
 by_cases h0:nth (x::l) ((x::l).length-1)=0
 ·rw[h0];rfl
 rw[bne_iff_ne.2 h0,decide_eq_true (by omega)]
theorem Oj (k:Int):bO (!(aE k)) k.natAbs=-k:=by
 unfold bO aE
 by_cases h:k<0 <;> simp[h] <;> omega
theorem Dm {xs ys:List Nat}(hx:Lim 4294967296 xs) (hy:Lim 4294967296 ys):(dg 4294967296 (vl 4294967296 xs+vl 4294967296 ys)).length≤xs.length+ys.length+1:=by
 refine cW (by omega) ?_
 have h1:=eW hx
 have h2:=eW hy
 have h3:4294967296^xs.length≤4294967296^(xs.length+ys.length):=Nat.pow_le_pow_right (by omega) (by omega)
 have h4:4294967296^ys.length≤4294967296^(xs.length+ys.length):=Nat.pow_le_pow_right (by omega) (by omega)
 rw[Nat.pow_succ]
 omega
theorem Ol {xs ys:List Nat}(hx:Lim 4294967296 xs):(dg 4294967296 (vl 4294967296 xs-vl 4294967296 ys)).length≤xs.length:=cW (by omega) (Nat.lt_of_le_of_lt (Nat.sub_le _ _) (eW hx))
theorem HD {xs ys:List Nat}(hx:Lim 4294967296 xs) (hy:Lim 4294967296 ys):(dg 4294967296 (vl 4294967296 xs*vl 4294967296 ys)).length≤xs.length+ys.length:=by
 refine cW (by omega) ?_
 rw[Nat.pow_add]
 exact Nat.mul_lt_mul'' (eW hx) (eW hy)
theorem bI (k:Int):vl 4294967296 (dg 4294967296 k.natAbs)=k.natAbs:=cE (by omega) _
theorem iL {a b:Nat}(h:a≤b):(dg 4294967296 a).length≤(dg 4294967296 b).length:=cY (by omega) h
theorem uH (k k':Int):(dg 4294967296 (k+k').natAbs).length≤(dg 4294967296 k.natAbs).length+(dg 4294967296 k'.natAbs).length+1:=by
 have h:=Dm (aM (B:=4294967296) (by omega) k.natAbs) (aM (B:=4294967296) (by omega) k'.natAbs)
 rw[bI,bI]at h
 exact Nat.le_trans (iL (by omega)) h
theorem Kh (k k':Int):(dg 4294967296 (k-k').natAbs).length≤(dg 4294967296 k.natAbs).length+(dg 4294967296 k'.natAbs).length+1:=by
 have h:=uH k (-k')
 rw[Int.natAbs_neg]at h
 exact h
theorem pV (k k':Int):(dg 4294967296 (k*k').natAbs).length≤(dg 4294967296 k.natAbs).length+(dg 4294967296 k'.natAbs).length:=by
 rw[Int.natAbs_mul]
 have h:=HD (aM (B:=4294967296) (by omega) k.natAbs) (aM (B:=4294967296) (by omega) k'.natAbs)
 rwa[bI,bI]at h
theorem jX (k:Int):(dg 4294967296 (-(k)).natAbs).length=(dg 4294967296 k.natAbs).length:=by rw[Int.natAbs_neg]
theorem AT {n:Int}(h1:-9223372036854775808≤n) (h2:n≤9223372036854775807):-4294967295≤Int.tmod n 4294967296∧Int.tmod n 4294967296≤4294967295∧-2147483648≤Int.tdiv n 4294967296∧Int.tdiv n 4294967296≤2147483648∧(Int.tmod n 4294967296).natAbs+4294967296*(Int.tdiv n 4294967296).natAbs=n.natAbs∧True:=by
 obtain⟨m,hm⟩:∃m:Nat,n.natAbs=m:=⟨_,rfl⟩
 rw[hm]
 rcases(show n=m∨n=-(m:Int) by omega)with h | h
 ·subst h
  have e1:Int.tmod (m:Int) 4294967296=((m%4294967296:Nat):Int):=by rw[Int.tmod_eq_emod_of_nonneg (by omega)];omega
  have e2:Int.tdiv (m:Int) 4294967296=((m/4294967296:Nat):Int):=by rw[Int.tdiv_eq_ediv_of_nonneg (by omega)];omega
  rw[e1,e2]
  exact⟨by omega,by omega,by omega,by omega,by rw[Int.natAbs_natCast,Int.natAbs_natCast];omega,trivial⟩
 subst h
 have e1:Int.tmod (-(m:Int)) 4294967296=-((m%4294967296:Nat):Int):=by rw[Int.neg_tmod,Int.tmod_eq_emod_of_nonneg (by omega)];omega
 have e2:Int.tdiv (-(m:Int)) 4294967296=-((m/4294967296:Nat):Int):=by rw[Int.neg_tdiv,Int.tdiv_eq_ediv_of_nonneg (by omega)];omega
 rw[e1,e2]
 exact⟨by omega,by omega,by omega,by omega,by rw[Int.natAbs_neg,Int.natAbs_neg,Int.natAbs_natCast,Int.natAbs_natCast];omega,trivial⟩
theorem NM {n:Int}{a b:Nat}(h:a+4294967296*b=n.natAbs):bO (decide (n<0)) (vl 4294967296 [a,b])=n:=by
 have e:vl 4294967296 [a,b]=n.natAbs:=by simp[vl];omega
 rw[e]
 exact Ka n
theorem Fd {k k':Int}{s:Bool}(h:s=aE k) (h':aE k=aE k'):bO s (k.natAbs+k'.natAbs)=k+k':=by
 subst h
 unfold aE at*
 unfold bO
 by_cases h1:k<0 <;> by_cases h2:k'<0 <;> simp[h1,h2]at h'⊢ <;> omega
theorem Om {k k':Int}{s:Bool}(h:s=aE k) (h':aE k≠aE k') (hl:¬k.natAbs<k'.natAbs):bO s (k.natAbs-k'.natAbs)=k+k':=by
 subst h
 unfold aE at*
 unfold bO
 by_cases h1:k<0 <;> by_cases h2:k'<0 <;> simp[h1,h2]at h'⊢ <;> omega
theorem On {k k':Int}{s:Bool}(h:s=aE k') (h':aE k≠aE k') (hl:k.natAbs<k'.natAbs):bO s (k'.natAbs-k.natAbs)=k+k':=by
 subst h
 unfold aE at*
 unfold bO
 by_cases h1:k<0 <;> by_cases h2:k'<0 <;> simp[h1,h2]at h'⊢ <;> omega
theorem Pi {X os:List Nat}{k q:Nat}{a:Nat}(hk:0<k) (hkx:k≤X.length) (hos:os.length=X.length){v r:Nat}(h:vl 65536 (X.drop k)=v*vl 65536 (os.drop k)+r) (ha:a=nth X (k-1)) (hq:q=(a+65536*r)/v):
  vl 65536 (X.drop (k-1))=v*vl 65536 ((os.set (k-1) q).drop (k-1))+(a+65536*r-q*v):=by
 obtain⟨j,rfl⟩:∃j,k=j+1:=⟨k-1,by omega⟩
 simp only[Nat.add_sub_cancel]at*
 have e1:X.drop j=nth X j::X.drop (j+1):=by rw[List.drop_eq_getElem_cons (by omega),eG (by omega)]
 have e2:(os.set j q).drop j=q::os.drop (j+1):=by
  rw[List.drop_eq_getElem_cons (by rw[List.length_set];omega),List.getElem_set_self,List.drop_set_of_lt (by omega)]
 have h2:q*v≤a+65536*r:=by rw[hq];exact Nat.div_mul_le_self _ _
 rw[e1,e2,fW,fW,h,Nat.mul_add,Nat.mul_add,Nat.mul_comm v q,Nat.mul_left_comm v 65536,←ha]
 omega
theorem Gs {xs ys:List Nat}(hx:Lim 65536 xs) (hy:Lim 65536 ys):(dg 65536 (vl 65536 xs*vl 65536 ys)).length≤xs.length+ys.length:=by
 refine cW (by omega) ?_
 rw[Nat.pow_add]
 exact Nat.mul_lt_mul'' (eW hx) (eW hy)
theorem Xa {u v n m:Nat}(hn:(dg 65536 u).length=n) (hm:(dg 65536 v).length=m) (h:n≠m):decide ((n:Int)<(m:Int))=decide (u<v):=by
 have e1:=cE (B:=65536) (by omega) u
 have e2:=cE (B:=65536) (by omega) v
 rcases Nat.lt_or_gt_of_ne h with h1 | h1
 ·have h2:=iI (B:=65536) (a:=dg 65536 u) (b:=dg 65536 v) (by omega) (aM (by omega) u) (rR (by omega) v) (by omega)
  rw[decide_eq_true (by omega),decide_eq_true (by omega)]
 have h2:=iI (B:=65536) (a:=dg 65536 v) (b:=dg 65536 u) (by omega) (aM (by omega) v) (rR (by omega) u) (by omega)
 rw[decide_eq_false (by omega),decide_eq_false (by omega)]
theorem EA {u v k:Nat}(hag:∀j,k+1≤j→nth (dg 65536 u) j=nth (dg 65536 v) j) (h:nth (dg 65536 u) k≠nth (dg 65536 v) k):decide (((nth (dg 65536 u) k:Nat):Int)<((nth (dg 65536 v) k:Nat):Int))=decide (u<v):=by
 have e1:=cE (B:=65536) (by omega) u
 have e2:=cE (B:=65536) (by omega) v
 rcases Nat.lt_or_gt_of_ne h with h1 | h1
 ·have h2:=Gd (aM (by omega) u) hag h1
  rw[decide_eq_true (by omega),decide_eq_true (by omega)]
 have h2:=Gd (aM (by omega) v) (fun j hj=>(hag j hj).symm) h1
 rw[decide_eq_false (by omega),decide_eq_false (by omega)]
theorem qT {X Y os:List Nat}{n k br br' d:Nat}(hl:os.length=k) (h:vl 65536 os+n*vl 65536 (Y.take k)=vl 65536 (X.take k)+65536^k*br) (hd:d+n*nth Y k+br=nth X k+65536*br'):
  vl 65536 (os++[d])+n*vl 65536 (Y.take (k+1))=vl 65536 (X.take (k+1))+65536^(k+1)*br':=by
 rw[lK,bK,bK,hl,Nat.pow_succ,Nat.mul_assoc,Nat.mul_add,Nat.mul_left_comm n]
 have h3:65536^k*(d+n*nth Y k+br)=65536^k*(nth X k+65536*br'):=by rw[hd]
 rw[Nat.mul_add,Nat.mul_add,Nat.mul_add]at h3
 omega
theorem Xb {u v n k br ln:Nat}{os:List Nat}(hx:(dg 65536 u).length=ln) (hk:os.length=ln) (hol:Lim 65536 os) (h:vl 65536 os+n*vl 65536 ((dg 65536 v).take k)=vl 65536 ((dg 65536 u).take k)+65536^k*br) (hnv:n*v≤u) (hkk:k=ln:=by omega):vl 65536 os=u-n*v:=by
 have h1:=eW hol
 rw[bP 65536 (l:=dg 65536 u) (by omega),cE (by omega)]at h
 have h2:n*vl 65536 ((dg 65536 v).take k)=n*v:=by
  rcases Nat.eq_zero_or_pos n with h0 | h0
  ·rw[h0,Nat.zero_mul,Nat.zero_mul]
  have h3:v≤u:=Nat.le_trans (Nat.le_mul_of_pos_left v h0) hnv
  have h4:=cY (B:=65536) (by omega) h3
  rw[bP 65536 (l:=dg 65536 v) (by omega),cE (by omega)]
 rw[h2]at h
 rcases Nat.eq_zero_or_pos br with h0 | h0
 ·rw[h0,Nat.mul_zero]at h
  omega
 have h5:65536^k*1≤65536^k*br:=Nat.mul_le_mul_left _ h0
 rw[hk,←hkk]at h1
 omega
theorem Rz {u v lo hi:Nat}(h1:lo*v≤u) (h2:u<hi*v) (h:hi=lo+1):u/v=lo:=by
 subst h
 have hv:0<v:=by
  rcases Nat.eq_zero_or_pos v with h0 | h0
  ·subst h0;simp at h2
  exact h0
 exact(Nat.div_eq_iff hv).2 (by rw[Nat.add_mul]at h2;omega)
theorem vD {a r:Nat}(ha:a<65536):trim ([a]++dg 65536 r)=dg 65536 (a+65536*r):=
 Fn (by omega) (Lim.cons ha (aM (by omega) r)) (by show a+65536*vl 65536 (dg 65536 r)=_;rw[cE (by omega)])
theorem Xd {a r v:Nat}(ha:a<65536) (hr:r<v):(dg 65536 (a+65536*r)).length≤(dg 65536 v).length+1:=by
 rw[←vD ha]
 refine Nat.le_trans (cV _) ?_
 have:=cY (B:=65536) (by omega) (Nat.le_of_lt hr)
 simp only[List.length_append,List.length_cons,List.length_nil]
 omega
theorem Gu {l:List Nat}{j v:Nat}(h:j<l.length):nth (l.set j v) j=v:=by simp[nth,h]
theorem Sb {u v r q:Nat}(h:u=v*q+r) (hr:r<v):q=u/v∧r=u%v:=by
 subst h
 rw[Nat.mul_add_div (by omega),Nat.div_eq_of_lt hr,Nat.mul_add_mod,Nat.mod_eq_of_lt hr]
 exact⟨rfl,rfl⟩
theorem HE {x y:Int}(hx:x.sign≠0) (h:x.sign≠y.sign) (hy:y≠0):(x<0∧0<y)∨(0<x∧y<0):=by
 rcases Int.lt_trichotomy x 0 with h1 | h1 | h1
 ·rcases Int.lt_trichotomy y 0 with h2 | h2 | h2
  ·rw[Int.sign_eq_neg_one_of_neg h1,Int.sign_eq_neg_one_of_neg h2]at h;exact absurd rfl h
  ·exact absurd h2 hy
  exact .inl ⟨h1,h2⟩
 ·rw[h1]at hx;exact absurd rfl hx
 rcases Int.lt_trichotomy y 0 with h2 | h2 | h2
 ·exact .inr ⟨h1,h2⟩
 ·exact absurd h2 hy
 rw[Int.sign_eq_one_of_pos h1,Int.sign_eq_one_of_pos h2]at h;exact absurd rfl h
theorem HF {x y:Int}(h:x.sign=0∨x.sign=y.sign) (hy:y≠0):x=0∨(x<0∧y<0)∨(0<x∧0<y):=by
 rcases Int.lt_trichotomy x 0 with h1 | h1 | h1
 ·rw[Int.sign_eq_neg_one_of_neg h1]at h
  rcases Int.lt_trichotomy y 0 with h2 | h2 | h2
  ·exact .inr (.inl ⟨h1,h2⟩)
  ·exact absurd h2 hy
  rw[Int.sign_eq_one_of_pos h2]at h;omega
 ·exact .inl h1
 rw[Int.sign_eq_one_of_pos h1]at h
 rcases Int.lt_trichotomy y 0 with h2 | h2 | h2
 ·rw[Int.sign_eq_neg_one_of_neg h2]at h;omega
 ·exact absurd h2 hy
 exact .inr (.inr ⟨h1,h2⟩)
theorem DA {a b:Int}(h0:b≠0):bO (aE a) (a.natAbs%b.natAbs)+b*bO (aE a != aE b) (a.natAbs/b.natAbs)=a∧(bO (aE a) (a.natAbs%b.natAbs)).natAbs<b.natAbs:=by
 have e:=Nat.div_add_mod a.natAbs b.natAbs
 have l:=Nat.mod_lt a.natAbs (show 0<b.natAbs by omega)
 refine⟨?_,by rw[iS];exact l⟩
 generalize a.natAbs/b.natAbs=q at*
 generalize a.natAbs%b.natAbs=r at*
 have e2:(b.natAbs:Int)*q+r=a.natAbs:=by exact_mod_cast e
 by_cases hb:b<0 <;> by_cases ha:a<0
 ·rw[show(b.natAbs:Int)=-b by omega,show(a.natAbs:Int)=-a by omega,Int.neg_mul]at e2
  simp[bO,aE,hb,ha];omega
 ·rw[show(b.natAbs:Int)=-b by omega,show(a.natAbs:Int)=a by omega,Int.neg_mul]at e2
  simp[bO,aE,hb,ha,Int.mul_neg];omega
 ·rw[show(b.natAbs:Int)=b by omega,show(a.natAbs:Int)=-a by omega]at e2
  simp[bO,aE,hb,ha,Int.mul_neg];omega
 rw[show(b.natAbs:Int)=b by omega,show(a.natAbs:Int)=a by omega]at e2
 simp[bO,aE,hb,ha];omega
theorem EC {a b r q:Int}(h0:b≠0) (hr:r=bO (aE a) (a.natAbs%b.natAbs)) (hq:q=bO (aE a != aE b) (a.natAbs/b.natAbs)) (h1:r.sign≠0) (h2:r.sign≠b.sign):q-1=a.fdiv b∧r+b=a.fmod b:=by
 obtain⟨h3,h4⟩:=DA (a:=a) h0
 rw[←hr]at h3 h4
 rw[←hq]at h3
 have h5:=HE h1 h2 h0
 have h6:=Fa (a:=a) (b:=b) (q:=q-1) (r:=r+b) h0 (by rw[Int.mul_sub,Int.mul_one];omega) (by omega) (by omega)
 exact⟨h6.1.symm,h6.2.symm⟩
theorem Lw {a b r q:Int}(h0:b≠0) (hr:r=bO (aE a) (a.natAbs%b.natAbs)) (hq:q=bO (aE a != aE b) (a.natAbs/b.natAbs)) (h:r.sign=0∨r.sign=b.sign):q=a.fdiv b∧r=a.fmod b:=by
 obtain⟨h3,h4⟩:=DA (a:=a) h0
 rw[←hr]at h3 h4
 rw[←hq]at h3
 have h5:=HF h h0
 have h6:=Fa (a:=a) (b:=b) (q:=q) (r:=r) h0 h3 (by omega) (by omega)
 exact⟨h6.1.symm,h6.2.symm⟩
theorem La {k:Int}(h:(dg 4294967296 k.natAbs).length=0):k.natAbs=0:=(fQ (by omega)).1 (List.length_eq_zero_iff.1 h)
theorem Se {k:Int}(h:(dg 4294967296 k.natAbs).length≠0):k≠0:=by
 intro h0
 subst h0
 exact h (by rw[show Int.natAbs 0=0 from rfl,mS];rfl)
def jU (l:List Nat) (k N:Nat):List Nat:=lb (l.take k)++List.replicate (N-(k+1)/2) 0
theorem Wx:jU l 0 N=List.replicate N 0:=by simp[jU,lb]
theorem DX (hN:N=(l.length+1)/2) (h:l.length≤k):jU l k N=lb l:=by
 unfold jU
 rw[List.take_of_length_le h,show N-(k+1)/2=0 by omega]
 simp
theorem DV (hN:N=(l.length+1)/2) (hk:k≤l.length):(jU l k N).length=N:=by
 unfold jU
 rw[List.length_append,List.length_replicate,iK,List.length_take,Nat.min_eq_left hk]
 omega
theorem xX:∀{l:List Nat}{j:Nat},2*j<l.length→lb (l.take (2*j+1))=lb (l.take (2*j))++[nth l (2*j)]
 | [],_,h=>by simp at h
 | [a],0,_=>by simp[lb,nth]
 | [a],j+1,h=>by simp at h
 | a::b::l,0,_=>by simp[lb,nth]
 | a::b::l,j+1,h=>by
  have ih:=xX (l:=l) (j:=j) (by simp at h;omega)
  have e2:2*(j+1)=2*j+1+1:=by omega
  rw[e2,List.take_succ_cons,List.take_succ_cons,List.take_succ_cons,List.take_succ_cons]
  simp only[lb,List.cons_append]
  rw[ih]
  simp[nth]
theorem Oo {α:Type}(A R:List α) (x y:α){j:Nat}(h:A.length=j):(A++x::R).set j y=A++y::R:=by
 subst h
 rw[List.set_append_right _ _ (Nat.le_refl _),Nat.sub_self]
 rfl
theorem HH (A R:List Nat) (x:Nat){j:Nat}(h:A.length=j):nth (A++x::R) j=x:=by
 subst h
 simp[nth]
theorem Wy (hN:N=(l.length+1)/2) (hk:k<l.length) (he:k%2=0):(jU l k N).set (k/2) (nth l k)=jU l (k+1) N:=by
 obtain⟨j,rfl⟩:∃j,k=2*j:=⟨k/2,by omega⟩
 have hA:(lb (l.take (2*j))).length=j:=by rw[iK,List.length_take,Nat.min_eq_left (by omega)];omega
 unfold jU
 rw[show 2*j/2=j by omega,show N-(2*j+1)/2=(N-(2*j+1+1)/2)+1 by omega,List.replicate_succ,Oo _ _ _ _ hA,xX hk,List.append_assoc]
 rfl
theorem yA (hN:N=(l.length+1)/2) (hk:k<l.length) (ho:k%2=1):nth (jU l k N) (k/2)=nth l (k-1):=by
 obtain⟨j,rfl⟩:∃j,k=2*j+1:=⟨k/2,by omega⟩
 have hA:(lb (l.take (2*j))).length=j:=by rw[iK,List.length_take,Nat.min_eq_left (by omega)];omega
 unfold jU
 rw[show(2*j+1)/2=j by omega,xX (by omega),List.append_assoc]
 exact HH _ _ _ hA
theorem DW (hN:N=(l.length+1)/2) (hk:k<l.length) (ho:k%2=1):(jU l k N).set (k/2) (nth (jU l k N) (k/2)+65536*nth l k)=jU l (k+1) N:=by
 rw[yA hN hk ho]
 obtain⟨j,rfl⟩:∃j,k=2*j+1:=⟨k/2,by omega⟩
 have hA:(lb (l.take (2*j))).length=j:=by rw[iK,List.length_take,Nat.min_eq_left (by omega)];omega
 unfold jU
 rw[show(2*j+1)/2=j by omega,xX (by omega),List.append_assoc,show 2*j+1+1=2*(j+1) by omega,xW (by omega),List.append_assoc,show 2*j+1-1=2*j by omega]
 rw[show N-(2*(j+1))/2=N-(2*(j+1)+1)/2 by omega]
 exact Oo _ _ _ _ hA
theorem NO {l:List Nat}{j v:Nat}:j<l.length→vl 65536 (l.set j v)+65536^j*nth l j=vl 65536 l+65536^j*v:=by
 induction l generalizing j with
 | nil=>intro h;simp at h
 | cons x l ih=>
  intro h
  rcases j with _ | j
  ·simp[nth,fW];omega
  have:=ih (j:=j) (by simpa using h)
  simp only[List.set_cons_succ,fW]
  rw[Nat.pow_succ,show nth (x::l) (j+1)=nth l j by simp[nth],Nat.mul_comm (65536^j) 65536,Nat.mul_assoc,Nat.mul_assoc]
  omega
theorem oU {os a b:List Nat}{i k cr x:Nat}(hj:i+k<os.length) (h:vl 65536 os+65536^(i+k)*cr=vl 65536 (a.take i)*vl 65536 b+65536^i*(nth a i*vl 65536 (b.take k))) (hx:x=nth os (i+k)+cr+nth a i*nth b k):
  vl 65536 (os.set (i+k) (x%65536))+65536^(i+(k+1))*(x/65536)=vl 65536 (a.take i)*vl 65536 b+65536^i*(nth a i*vl 65536 (b.take (k+1))):=by
 have h1:=NO (v:=x%65536) hj
 have h2:=Nat.mod_add_div x 65536
 have h3:65536^(i+k)*x=65536^(i+k)*(x%65536)+65536^(i+k)*(65536*(x/65536)):=by rw[←Nat.mul_add,h2]
 have h4:65536^(i+k)*x=65536^(i+k)*nth os (i+k)+65536^(i+k)*cr+65536^(i+k)*(nth a i*nth b k):=by rw[hx,Nat.mul_add,Nat.mul_add]
 rw[bK,Nat.mul_add,Nat.mul_add,show i+(k+1)=i+k+1 by omega,Nat.pow_succ,Nat.mul_assoc]
 have h5:65536^i*(nth a i*(65536^k*nth b k))=65536^(i+k)*(nth a i*nth b k):=by
  rw[Nat.pow_add,Nat.mul_left_comm (nth a i),Nat.mul_assoc]
 omega
theorem zX {a b:List Nat}{i k:Nat}(hk:b.length≤k):vl 65536 (a.take i)*vl 65536 b+65536^i*(nth a i*vl 65536 (b.take k))=vl 65536 (a.take (i+1))*vl 65536 b:=by
 rw[bP 65536 hk,bK,Nat.add_mul,Nat.mul_assoc]
theorem Gq {os a b:List Nat}{i k cr:Nat}(ha:Lim 65536 a) (hb:Lim 65536 b) (hi:i<a.length) (hk:k≤b.length+1) (h:vl 65536 os+65536^(i+k)*cr=vl 65536 (a.take i)*vl 65536 b+65536^i*(nth a i*vl 65536 (b.take k))) (hc:0<cr):k≤b.length:=by
 rcases Nat.lt_or_ge b.length k with h1 | h1
 ·exfalso
  rw[zX (by omega)]at h
  have h2:=eW (ha.take (i+1))
  have h3:=eW hb
  have h4:vl 65536 (a.take (i+1))*vl 65536 b<65536^(a.take (i+1)).length*65536^b.length:=Nat.mul_lt_mul'' h2 h3
  rw[←Nat.pow_add,List.length_take,Nat.min_eq_left (by omega),show i+1+b.length=i+k by omega]at h4
  have h5:65536^(i+k)*1≤65536^(i+k)*cr:=Nat.mul_le_mul_left _ hc
  omega
 exact h1
end
theorem HI {k k':Int}(h:aE k=true) (h':aE k'=false):(-1:Int)=(k-k').sign:=by
 unfold aE at h h'
 simp at h h'
 rw[Int.sign_eq_neg_one_of_neg (by omega)]
theorem HJ {k k':Int}(h:aE k=false) (h':aE k'=true):(1:Int)=(k-k').sign:=by
 unfold aE at h h'
 simp at h h'
 rw[Int.sign_eq_one_of_pos (by omega)]
theorem HK {k k':Int}(h:aE k=true) (h':aE k'=true):(((k'.natAbs:Nat):Int)-((k.natAbs:Nat):Int)).sign=(k-k').sign:=by
 unfold aE at h h'
 simp at h h'
 rw[show((k'.natAbs:Nat):Int)-((k.natAbs:Nat):Int)=k-k' by omega]
theorem HM {k k':Int}(h:aE k=false) (h':aE k'=false):(((k.natAbs:Nat):Int)-((k'.natAbs:Nat):Int)).sign=(k-k').sign:=by
 unfold aE at h h'
 simp at h h'
 rw[show((k.natAbs:Nat):Int)-((k'.natAbs:Nat):Int)=k-k' by omega]
theorem pQ (v:Nat):(dg 4294967296 v).length≤(dg 65536 v).length:=by
 rw[←zY,iK]
 omega
theorem Gr (xs:List Nat){k:Nat}(h:k<xs.length):((eD xs).map AV.t)[0+k*1]? =some (tv (.int .i64 ((nth xs k:Nat):Int))):=by simp[eD,eG h,h,tv]
theorem IY (xs:List Nat){k:Nat}(h:k<xs.length):((aY xs).map AV.t)[0+k*1]? =some (tv (.int .u32 ((nth xs k:Nat):Int))):=by simp[aY,eG h,h,tv]
theorem rU (xs:List Nat){k v:Nat}(h:k<xs.length):dN ((eD xs).map AV.t) (0+k*1) [tv (.int .i64 (v:Int))]=(eD (xs.set k v)).map .t:=by
 rw[Nat.zero_add,Nat.mul_one,List.set_eq_take_append_cons_drop,if_pos h]
 simp[dN,eD,tv,List.map_take,List.map_drop]
theorem Ls (xs:List Nat){k v:Nat}(h:k<xs.length):dN ((aY xs).map AV.t) (0+k*1) [tv (.int .u32 (v:Int))]=(aY (xs.set k v)).map .t:=by
 rw[Nat.zero_add,Nat.mul_one,List.set_eq_take_append_cons_drop,if_pos h]
 simp[dN,aY,tv,List.map_take,List.map_drop]
theorem vC (xs:List Nat){k:Nat}{a:AV}(h:k<xs.length):0+k*1+[a].length≤((eD xs).map AV.t).length:=by simp[eD];omega
theorem Rx (xs:List Nat){k:Nat}{a:AV}(h:k<xs.length):0+k*1+[a].length≤((aY xs).map AV.t).length:=by simp[aY];omega
theorem Gp (m:Nat):(List.replicate m (Value.int .i64 0)).map tv=(eD (List.replicate m 0)).map .t:=by simp[eD,tv]
theorem Ww (m:Nat):(List.replicate m (Value.int .u32 0)).map tv=(aY (List.replicate m 0)).map .t:=by simp[aY,tv]
structure Zi where
 s:Bool
 x:List Nat
def Zi.of (k:Int):Zi:=⟨aE k,dg 4294967296 k.natAbs⟩
def gF (a:Zi):FV:=.agg (([.v (.bool a.s),sU false a.x]:List Tr).map .t)
def kF (k:Int):FV:=.agg (([.v (.bool (aE k)),sU false (dg 4294967296 k.natAbs)]:List Tr).map .t)
def kO (k:Int):FV:=.agg (([.v (.bool (aE k)),sU true (dg 4294967296 k.natAbs)]:List Tr).map .t)
def Zn (a:Zi) (k:Int):Prop:=Lim 4294967296 a.x∧a.x.length≤137438953472∧fE a.s a.x=k
theorem Zn.of {k:Int}(h:(dg 4294967296 k.natAbs).length≤137438953472):Zn (.of k) k:=⟨aM (by omega) _,h,wH k⟩
theorem VN:Zn ⟨false,[]⟩ 0:=⟨Lim.nil,by simp,rfl⟩
theorem Zn.len {a:Zi}{k:Int}(h:Zn a k):(dg 4294967296 k.natAbs).length≤137438953472:=by
 obtain⟨h1,h2,rfl⟩:=h
 exact Nat.le_trans (xT h1) h2
theorem Zn.right {a:Zi}{k:Int}(h:Zn a k) (hr:dI a.s a.x=true):aE k=a.s∧dg 4294967296 k.natAbs=a.x:=by
 obtain⟨h1,h2,rfl⟩:=h
 exact⟨xS h1 hr,pL h1 hr⟩
theorem Zn.wrong {a:Zi}{k:Int}(h:Zn a k) (hr:dI a.s a.x=false):k=0:=by
 obtain⟨h1,h2,rfl⟩:=h
 exact Bq hr
theorem AU {a:Zi}{k:Int}(h:Zn a k) (hr:dI a.s a.x=true):gF a=kF k:=by
 obtain⟨h1,h2⟩:=h.right hr
 unfold gF kF
 rw[h1,h2]
theorem uI {b:Bool}{m:Nat}{k:Int}(h:b=aE k) (hm:m=k.natAbs):FV.agg [tv (.bool b),.t (sU true (dg 4294967296 m))]=kO k:=by subst h hm;rfl
theorem Cb:FV.agg [tv (.bool false),.t (sU false [])]=kF 0:=by
 unfold kF
 rw[show Int.natAbs 0=0 from rfl,mS]
 rfl
theorem eS (k:Int):jK (kO k):=by
 simp only[jK,kO,oF,List.map_cons,List.map_nil,kB,rE,sU,lI]
 exact⟨trivial,.inl ⟨trivial,eV _⟩,trivial⟩
theorem Dn (b:Bool) (m:Nat):jK (.agg (([.v (.bool b),sU true (dg 4294967296 m)]:List Tr).map .t)):=by
 simp only[jK,oF,List.map_cons,List.map_nil,kB,rE,sU,lI]
 exact⟨trivial,.inl ⟨trivial,eV _⟩,trivial⟩
def Qn (a:Fr4) (p:Rat):Prop:=a.ok∧a.q=p
section
variable {a:Fr4}{p q:Rat}{k k':Int}{L M:Nat}
theorem NP (h:Qn a p):Zn ⟨a.s,a.x⟩ (fE a.s a.x):=⟨h.1.1,by have:=h.1.2.2.1;dsimp only;omega,rfl⟩
theorem Qy (h:Qn a p):Zn ⟨a.t,a.y⟩ (fE a.t a.y):=⟨h.1.2.1,by have:=h.1.2.2.2;dsimp only;omega,rfl⟩
theorem So (h:Sz L p) (hL:L≤137438953472:=by omega):Zn (.of p.num) p.num:=.of (Nat.le_trans h.1 hL)
theorem Sp (h:Sz L p) (hL:L≤137438953472:=by omega):Zn ⟨false,dg 4294967296 p.den⟩ (p.den:Int):=⟨aM (by omega) _,Nat.le_trans h.2 hL,xV p.den⟩
theorem Qn.sz (h:Qn a p):Sz 68719476736 p:=by
 obtain⟨⟨h1,h2,h3,h4⟩,rfl⟩:=h
 exact NG h1 h2 h3 h4 (by omega)
theorem Qn.of (h:Sz L p) (hL:L≤68719476736:=by omega):Qn (.of p) p:=⟨⟨aM (by omega) _,aM (by omega) _,Nat.le_trans h.1 hL,Nat.le_trans h.2 hL⟩,Fr4.q_of p⟩
theorem Qn.right (h:Qn a p) (hr:bQ a.s a.x a.t a.y=true):Fr4.of p=a:=by
 obtain⟨⟨l1,l2,_,_⟩,rfl⟩:=h
 obtain⟨h1,h2,h3,h4⟩:=wJ hr
 have e1:=Og hr
 have e2:=Oh hr
 have e3:=xS l1 h1
 have e4:=pL l1 h1
 have e5:=xS l2 h2
 have e6:=pL l2 h2
 rw[←e1]at e3 e4
 rw[←e2]at e5 e6
 rw[xU]at e5
 rw[Int.natAbs_natCast]at e6
 unfold Fr4.of Fr4.q
 rw[e3,e4,e5,e6]
theorem Qn.wrong (h:Qn a p) (hr:bQ a.s a.x a.t a.y=false):p=0:=by
 obtain⟨_,rfl⟩:=h
 exact Fb hr
theorem Ch (hn:q.num=k) (hd:(q.den:Int)=k'):FV.agg [tv (.bool (aE k)),.t (sU false (dg 4294967296 k.natAbs)),tv (.bool (aE k')),.t (sU false (dg 4294967296 k'.natAbs))]=qF (.of q):=by
 subst hn hd
 have e:aE (q.den:Int)=false:=by unfold aE;exact decide_eq_false (by omega)
 rw[e]
 rfl
theorem Mg (h0:k'≠0):(dg 4294967296 (((Int.gcd k k':Nat):Int)).natAbs).length≤(dg 4294967296 k'.natAbs).length:=by
 rw[Int.natAbs_natCast]
 exact iL (Nat.le_of_dvd (by omega) (Int.gcd_dvd_natAbs_right k k'))
theorem vO {n:Int}(h1:-9223372036854775808≤n) (h2:n≤9223372036854775807):(dg 4294967296 n.natAbs).length≤2:=cW (by omega) (by omega)
theorem Hr {a b:Int}(h0:b≠0):(0<b→(Rat.divInt a b).num=a.fdiv (Int.gcd a b)∧((Rat.divInt a b).den:Int)=b.fdiv (Int.gcd a b))∧(b<0→(Rat.divInt a b).num=(-a).fdiv (Int.gcd (-a) (-b))∧((Rat.divInt a b).den:Int)=(-b).fdiv (Int.gcd (-a) (-b))):=by
 refine⟨fun h=>nK h,fun h=>?_⟩
 rw[←Rat.neg_divInt_neg]
 exact nK (by omega)
theorem Ah {a b:Int}(h:b≠0):((Int.gcd a b:Nat):Int)≠0:=by
 have:=Int.gcd_pos_of_ne_zero_right a h
 omega
end
theorem xY {α:Type}{f:α→List Tr}{z:Nat}(hf:∀x,(f x).length=z):∀{xs:List α}{k:Nat}{x:α},xs[k]? =some x→((xs.flatMap f).drop (k*z)).take z=f x
 | [],_,_,h=>by simp at h
 | y::xs,0,x,h=>by
  simp at h
  subst h
  rw[Nat.zero_mul,List.drop_zero,List.flatMap_cons,List.take_append_of_le_length (by rw[hf];exact Nat.le_refl _),List.take_of_length_le (by rw[hf];exact Nat.le_refl _)]
 | y::xs,k+1,x,h=>by
  rw[List.getElem?_cons_succ]at h
  have e:(f y++xs.flatMap f).drop z=xs.flatMap f:=by rw[←hf y];simp
  rw[List.flatMap_cons,Nat.succ_mul,Nat.add_comm,←List.drop_drop,e]
  exact xY hf h
theorem cL {α:Type}{f:α→List Tr}{z:Nat}(hf:∀x,(f x).length=z):∀(xs:List α),(xs.flatMap f).length=xs.length*z
 | []=>by simp
 | y::xs=>by rw[List.flatMap_cons,List.length_append,hf,cL hf xs,List.length_cons,Nat.succ_mul,Nat.add_comm]
theorem Ki {α:Type}{f:α→List Tr}{z o m:Nat}(hf:∀x,(f x).length=z){xs:List α}{k:Nat}{x:α}(h:xs[k]? =some x) (hm:o+m≤z):((xs.flatMap f).drop (k*z+o)).take m=((f x).drop o).take m:=by
 have e:=xY hf h
 rw[←List.drop_drop,←e,List.drop_take,List.take_take,Nat.min_eq_left (by omega)]
section
variable {α:Type}{f:α→List Tr}{z:Nat}{xs:List α}{k o:Nat}{x x' y:α}{us:List Tr}
theorem bL (hf:∀x,(f x).length=z) (h:xs[k]? =some x) (hm:o+us.length≤z) (hu:((f x).drop o).take us.length=us):((xs.flatMap f).drop (k*z+o)).take us.length=us:=by
 rw[Ki hf h hm]
 exact hu
theorem cG (hf:∀x,(f x).length=z) (h:xs[k]? =some x) (hm:o+us.length≤z) (hu:((f x).drop o).take us.length=us):(((xs.flatMap f).map AV.t).drop (0+k*z+o)).take (us.map AV.t).length=us.map .t:=by
 rw[←List.map_drop,←List.map_take,Nat.zero_add,List.length_map,bL hf h hm hu]
end
def Xf:Fr4:=⟨false,[],false,[]⟩
def dM (xs:List Fr4) (k:Nat):Fr4:=xs.getD k Xf
theorem tE {xs:List Fr4}{k:Nat}(h:k<xs.length):xs[k]? =some (dM xs k):=by simp[dM,h]
theorem jF {xs:List Fr4}{k:Nat}(h:k<xs.length):dM xs k∈xs:=List.mem_of_getElem? (tE h)
def sQ (o:Bool) (xs:List Fr4):Tr:=.s o 52 4 xs.length (xs.flatMap (Fr4.tr o))
theorem lX (xs:List Fr4){k:Nat}(h:k<xs.length):((xs.flatMap (Fr4.tr false)).drop (k*4)).take ((dM xs k).tr false).length=(dM xs k).tr false:=xY (f:=Fr4.tr false) (fun _=>rfl) (tE h)
section
variable {xs:List Fr4}{k:Nat}
theorem Ad (h:k<xs.length):(xs.take (k+1)).map Fr4.q=(xs.take k).map Fr4.q++[(dM xs k).q]:=by rw[List.take_add_one,tE h];simp
end
def cF (o:Bool) (x:Int×Rat):List Tr:=.v (.int .i64 x.1)::(Fr4.of x.2).tr o
def aJ (vs:List (Int×Rat)) (k:Nat):Int×Rat:=vs.getD k (0,0)
section
variable {vs:List (Int×Rat)}{k:Nat}
theorem uJ (h:k<vs.length):vs[k]? =some (aJ vs k):=by simp[aJ,h]
theorem mY (h:k<vs.length):aJ vs k∈vs:=List.mem_of_getElem? (uJ h)
theorem kU (h:k<vs.length):vs.take (k+1)=vs.take k++[aJ vs k]:=by rw[List.take_add_one,uJ h];rfl
theorem rW (o:Bool) (h:k<vs.length):((vs.flatMap (cF o)).drop (k*5)).take (cF o (aJ vs k)).length=cF o (aJ vs k):=xY (f:=cF o) (fun _=>rfl) (uJ h)
theorem RF (o:Bool) (h:k<vs.length):((vs.flatMap (cF o)).drop (k*5+1)).take ((Fr4.of (aJ vs k).2).tr o).length=(Fr4.of (aJ vs k).2).tr o:=Ki (f:=cF o) (o:=1) (m:=4) (fun _=>rfl) (uJ h) (by omega)
def sV (t:Nat) (o:Bool) (vs:List (Int×Rat)):Tr:=.s o t 5 vs.length (vs.flatMap (cF o))
theorem bJ (o:Bool) (vs:List (Int×Rat)):(vs.flatMap (cF o)).length=vs.length*5:=cL (f:=cF o) (z:=5) (fun _=>rfl) vs
end
def nC (l:List Rat):Rat:=l.foldl (· + ·) 0
theorem Vp (l:List Rat) (q:Rat):nC (l++[q])=nC l+q:=by simp[nC]
theorem SE (vs:List (Int×Rat)):gM ((vs.flatMap (cF false)).map .t)=true:=by
 induction vs with
 | nil=>rfl
 | cons x vs ih=>simpa[cF,Fr4.tr,sU,gM,oR]using ih
theorem JV (vs:List (Int×Rat)):eJ ((vs.flatMap (cF false)).map .t)=true:=by
 induction vs with
 | nil=>rfl
 | cons x vs ih=>simpa[cF,Fr4.tr,sU,eJ,lone]using ih
def dW (right:Bool) (q:Rat) (y last:Int) (pt:Bool):Int:=
 if !right then 2 else if decide (q.num.sign<0)then 2 else if pt&&decide (y≤last)then 4 else 0
def jQ (e:Int) (q:Rat) (y:Int) (l:List (Int×Rat)):List (Int×Rat):=if e=0 then(if decide (0<q.num.sign)then l++[(y,q)]else l)else l
def vL (e:Int) (y last:Int):Int:=if e=0 then y else last
def vM (e:Int) (pt:Bool):Bool:=if e=0 then true else pt
def lZ (_:Int) (q:Rat):Bool:=decide (q.num.sign=0)
theorem xA {N:Nat}{p:Rat}{l:List Rat}(hp:Sz N p) (h:∀q∈l,Sz N q):Sz N (aO p l):=by
 rcases AP p l with h1 | h1
 ·rw[h1];exact hp
 exact h _ h1
def vJ (q:Rat):Nat:=max (dg 4294967296 q.num.natAbs).length (dg 4294967296 q.den).length
theorem nZ {L:Nat}{q:Rat}:Sz L q↔vJ q≤L:=by
 unfold Sz vJ
 omega
def wt (q:Rat):Nat:=vJ q+1
def gK (l:List Rat):Nat:=(l.map wt).sum
theorem Me {l:List Rat}{q:Rat}(h:q∈l):wt q≤gK l:=by
 unfold gK
 induction l with
 | nil=>cases h
 | cons x l ih=>
  rw[List.map_cons,List.sum_cons]
  rcases List.mem_cons.1 h with rfl | h
  ·omega
  have:=ih h;omega
theorem tJ (a b:List Rat):gK (a++b)=gK a+gK b:=by simp[gK]
theorem EL {a b:List Rat}(h:List.Sublist a b):gK a≤gK b:=by
 induction h with
 | slnil=>omega
 | cons x h ih=>simp only[gK,List.map_cons,List.sum_cons]at ih⊢;omega
 | cons_cons x h ih=>simp only[gK,List.map_cons,List.sum_cons]at ih⊢;omega
theorem Oq:wt 0≤2:=by
 have h:=vR (z:=0) (by omega) (by omega)
 have h1:vJ (0:Rat)=1:=by
  unfold vJ
  rw[show(0:Rat).num=0 from rfl,show(0:Rat).den=1 from rfl]
  have e1:(dg 4294967296 (Int.natAbs 0)).length=0:=by rw[show Int.natAbs 0=0 from rfl,Dj];rfl
  have e2:(dg 4294967296 1).length=1:=by
   rw[uY (by omega) (by omega)]
   rw[show 1/4294967296=0 by omega,Dj]
   rfl
  rw[e1,e2]
  rfl
 unfold wt
 omega
theorem Vq (p q:Rat):wt (p-q)≤wt p+wt q:=by
 have h:=pW (nZ.2 (Nat.le_refl (vJ p))) (nZ.2 (Nat.le_refl (vJ q)))
 have:=nZ.1 h
 unfold wt
 omega
theorem AW (v m:Rat):aO v [m]=if m<v then m else v:=rfl
theorem Vr (v m:Rat):wt (v-aO v [m])+wt (m-aO v [m])≤wt v+wt m+2:=by
 rw[AW]
 split
 ·rw[show m-m=0 by grind]
  have:=Oq
  have:=Vq v m
  omega
 rw[show v-v=0 by grind]
 have:=Oq
 have:=Vq m v
 omega
def iW (fr:Int) (s:List (Int×Rat)×List (Int×Rat)×Rat) (x:Int×Rat):List (Int×Rat)×List (Int×Rat)×Rat:=
 if decide (fr≤x.1)&&decide (0<s.2.2.num.sign)then(s.1++[(x.1,x.2-aO x.2 [s.2.2])],s.2.1++[(x.1,aO x.2 [s.2.2])],s.2.2-aO x.2 [s.2.2])else(s.1++[x],s.2.1,s.2.2)
def bC (fr:Int) (l:List (Int×Rat)) (p:Rat):List (Int×Rat)×List (Int×Rat)×Rat:=l.foldl (iW fr) ([],[],p)
theorem pX {fr:Int}{s:List (Int×Rat)×List (Int×Rat)×Rat}{y:Int}{q:Rat}(h1:fr≤y) (h2:0<s.2.2.num.sign):
  iW fr s (y,q)=(s.1++[(y,q-aO q [s.2.2])],s.2.1++[(y,aO q [s.2.2])],s.2.2-aO q [s.2.2]):=by
 unfold iW
 rw[if_pos (by simp only[Bool.and_eq_true,decide_eq_true_eq];exact⟨h1,h2⟩)]
theorem pC {fr:Int}{s:List (Int×Rat)×List (Int×Rat)×Rat}{x:Int×Rat}(h:¬(fr≤x.1∧0<s.2.2.num.sign)):iW fr s x=(s.1++[x],s.2.1,s.2.2):=by
 unfold iW
 rw[if_neg (by simp only[Bool.and_eq_true,decide_eq_true_eq];exact h)]
theorem Ho (fr:Int) (l:List (Int×Rat)) (p:Rat):(bC fr l p).1.length=l.length:=by
 have key:∀(l:List (Int×Rat)) s,(l.foldl (iW fr) s).1.length=s.1.length+l.length:=by
  intro l
  induction l with
  | nil=>intro s;simp
  | cons x l ih=>
   intro s
   rw[List.foldl_cons,ih]
   unfold iW
   split <;> simp <;> omega
 have:=key l ([],[],p)
 simpa[bC]using this
theorem kJ (q:Rat):0<q.num.sign↔0<q:=by
 rw[Int.sign_pos_iff,←gt_iff_lt,Rat.lt_iff]
 simp
theorem EM (v m:Rat):wt (m-aO v [m])≤wt v+wt m+2:=by have:=Vr v m;omega
section
variable {f:FuncId}{args:List FV}
theorem rG {xs:List Nat}(h:∀(N:Nat→Prop) (w:World) us,dE w N [] args us→(∀b,N b→b<w.heap.size)→Calls Tryz.prog f us.toArray w (mI xs w)):aD true Tryz.prog f [] args (aP (.one (.t (sU true xs)))):=by
 intro N w cs us hL
 obtain⟨rfl,hf⟩:=wM hL
 refine(h _ w us hf (fun b hb=>hb.1)).mono ?_
 rintro e W ⟨A,n,c,rfl,ho,hb⟩
 obtain⟨y1,a1,a2,a3,a4⟩:=wL (N:=fun b=>true=false∧(b<W.heap.size∧b∉VT.fpL [])∧(N b∨w.heap.size≤b)) ho
 refine .mk0 (y:=[y1]) rfl hb (by simp only[VT.okL];exact⟨a3,trivial⟩) ?_ (fun b hb'=>?_) ?_
 ·simp only[VT.fpL,a4,List.append_nil]
  cases A <;> simp[Value.ownBlock]
 ·simp only[VT.fpL,a4,List.append_nil]at hb'
  exact ho.blk b hb'
 exact⟨y1,rfl,a1.symm,jN (fun _ _=>rfl) (fun b hb=>absurd hb.1 (by simp)) _ _ a2⟩
variable {xs ys:List Nat}
theorem kD {W:World}{N:Nat→Prop}{v:Value}(h:bU W N [] (.one (.t (sU false xs))) v) (hl:Lim 4294967296 xs) (hN:∀b,N b→b<W.heap.size):∃A c,v=.slice A xs.length c∧U32 W W.heap.size A xs.length c xs:=by
 simp only[bU,AR]at h
 obtain⟨A,c,rfl,l⟩:=Dl h hl
 exact⟨A,c,rfl,l.u32 hN⟩
theorem Ot (hx:Lim 4294967296 xs) (h:xs.length≤1099511627776):aD true Tryz.prog 118 [] [.one (.t (sU false xs))] (aP (.one (.t (sU true xs)))):=rG fun N w us hf hN=>by
 obtain⟨u,rfl,h1⟩:=AS hf
 obtain⟨A,c,rfl,u1⟩:=kD h1 hx hN
 exact pJ A _ c xs w u1 h
theorem RG (hx:Lim 4294967296 xs) (hy:Lim 4294967296 ys):aD true Tryz.prog 140 [] [.one (.t (sU false xs)),.one (.t (sU false ys))] (aP (.one (tv (.int .i64 (mJ (vl 4294967296 xs) (vl 4294967296 ys)))))):=AQ fun N w us hf hN=>by
 obtain⟨u,v,rfl,h1,h2⟩:=Kd hf
 obtain⟨A,c,rfl,u1⟩:=kD h1 hx hN
 obtain⟨B,d,rfl,u2⟩:=kD h2 hy hN
 exact(qK A B _ _ c d xs ys _ w u1 u2).mono fun e W ⟨he,k,hk⟩=>⟨he,hk▸gC (Below.refl _ _) k⟩
theorem DB (hx:Lim 4294967296 xs) (hy:Lim 4294967296 ys) (h:xs.length≤1099511627776) (h':ys.length≤1099511627776):aD true Tryz.prog 139 [] [.one (.t (sU false xs)),.one (.t (sU false ys))] (aP (.one (.t (sU true (dg 4294967296 (vl 4294967296 xs+vl 4294967296 ys)))))):=rG fun N w us hf hN=>by
 obtain⟨u,v,rfl,h1,h2⟩:=Kd hf
 obtain⟨A,c,rfl,u1⟩:=kD h1 hx hN
 obtain⟨B,d,rfl,u2⟩:=kD h2 hy hN
 exact AH A B _ _ c d xs ys w u1 u2 h h'
theorem RH (hx:Lim 4294967296 xs) (hy:Lim 4294967296 ys) (h:xs.length≤549755813888) (h':ys.length≤549755813888):aD true Tryz.prog 84 [] [.one (.t (sU false xs)),.one (.t (sU false ys))] (aP (.one (.t (sU true (dg 4294967296 (vl 4294967296 xs*vl 4294967296 ys)))))):=rG fun N w us hf hN=>by
 obtain⟨u,v,rfl,h1,h2⟩:=Kd hf
 obtain⟨A,c,rfl,u1⟩:=kD h1 hx hN
 obtain⟨B,d,rfl,u2⟩:=kD h2 hy hN
 exact GN A B _ _ c d xs ys w u1 u2 h h'
theorem AX {W:World}{N:Nat→Prop}{t:Nat}{v:Value}(h:bU W N [] (.one (.t (.s false t 1 2 [sU false xs,sU false ys]))) v) (hx:Lim 4294967296 xs) (hy:Lim 4294967296 ys) (hN:∀b,N b→b<W.heap.size):∃A c,v=.slice A 2 c∧URows W W.heap.size A 2 c [xs,ys]:=by
 simp only[bU,AR,FR]at h
 obtain⟨A,c,rfl,h1,h2,_,h4⟩:=h
 rcases h4 with h4 | ⟨ad,rfl,h5,h6⟩
 ·omega
 obtain⟨u0,e0,f0⟩:=mU h6 (j:=0) rfl
 obtain⟨u1,e1,f1⟩:=mU h6 (j:=1) rfl
 obtain⟨A0,c0,rfl,l0⟩:=Dl f0 hx
 obtain⟨A1,c1,rfl,l1⟩:=Dl f1 hy
 rw[Nat.zero_add]at e0 e1
 refine⟨_,c,rfl,rfl,h1,h2,fun k hk=>?_⟩
 obtain⟨b,o,sp⟩:=ad
 match k,hk with
 | 0,_=>exact⟨b,o,sp,A0,_,c0,rfl,hN _ h5,e0,l0.u32 hN⟩
 | 1,_=>exact⟨b,o,sp,A1,_,c1,rfl,hN _ h5,e1,l1.u32 hN⟩
theorem RI {t:Nat}(hx:Lim 4294967296 xs) (hy:Lim 4294967296 ys) (h:xs.length≤549755813888) (h':ys.length≤549755813888):aD true Tryz.prog 123 [] [.one (.t (.s false t 1 2 [sU false xs,sU false ys]))] (aP (.one (.t (sU true (dg 4294967296 (qL [xs,ys])))))):=rG fun N w us hf hN=>by
 obtain⟨u,rfl,h1⟩:=AS hf
 obtain⟨A,c,rfl,u1⟩:=AX h1 hx hy hN
 exact GV A 2 c [xs,ys] w u1 (by omega) (fun k hk=>by match k,hk with | 0,_=>exact h | 1,_=>exact h')
theorem Br (A:Option Addr) (n c:Nat):((Value.slice A n c).ownBlock.toList).Nodup:=by cases A <;> simp[Value.ownBlock]
theorem Qz (hx:Lim 4294967296 xs) (hy:Lim 4294967296 ys) (h:xs.length≤1099511627776) (hle:vl 4294967296 ys≤vl 4294967296 xs):aD true Tryz.prog 141 [] [.one (.t (sU false xs)),.one (.t (sU false ys))] (aP (.tup [.one (.t (sU true (dg 4294967296 (vl 4294967296 xs-vl 4294967296 ys)))),.one (tv (.int .i64 0))])):=by
 intro N w cs us hL
 obtain⟨rfl,hf⟩:=wM hL
 obtain⟨u,v,rfl,h1,h2⟩:=Kd hf
 obtain⟨A,c,rfl,u1⟩:=kD h1 hx fun b hb=>hb.1
 obtain⟨B,d,rfl,u2⟩:=kD h2 hy fun b hb=>hb.1
 refine(AI A B _ _ c d xs ys w u1 u2 h hle).mono ?_
 rintro e W ⟨A,n,c,rfl,ho,hb⟩
 obtain⟨y1,a1,a2,a3,a4⟩:=wL (N:=fun b=>true=false∧(b<W.heap.size∧b∉VT.fpL [])∧(N b∨w.heap.size≤b)) ho
 refine .mk0 (y:=[y1,.w (.int .i64 0)]) rfl hb (by simp only[VT.okL,VT.ok];exact⟨a3,trivial,trivial⟩) ?_ (fun b hb'=>?_) ?_
 ·simp only[VT.fpL,VT.fp,a4,List.append_nil]
  exact Br A n c
 ·simp only[VT.fpL,VT.fp,a4,List.append_nil]at hb'
  exact ho.blk b hb'
 refine⟨[_,_],rfl,?_⟩
 exact⟨_,_,[y1],[.w (.int .i64 0)],rfl,rfl,⟨y1,rfl,a1.symm,jN (fun _ _=>rfl) (fun b hb=>absurd hb.1 (by simp)) _ _ a2⟩,_,_,[.w (.int .i64 0)],[],rfl,rfl,⟨_,rfl,rfl,by simp[CR,tv,OR]⟩,rfl,rfl⟩
theorem AY (hx:Lim 4294967296 xs) (hy:Lim 4294967296 ys) (h:xs.length≤549755813888) (h':ys.length≤549755813888) (h0:vl 4294967296 ys≠0):aD true Tryz.prog 142 [] [.one (.t (sU false xs)),.one (.t (sU false ys))] (aP (.tup [.one (.t (sU true (dg 4294967296 (vl 4294967296 xs/vl 4294967296 ys)))),.one (.t (sU true (dg 4294967296 (vl 4294967296 xs%vl 4294967296 ys)))),.one (tv (.int .i64 0))])):=by
 intro N w cs us hL
 obtain⟨rfl,hf⟩:=wM hL
 obtain⟨u,v,rfl,h1,h2⟩:=Kd hf
 obtain⟨A,c,rfl,u1⟩:=kD h1 hx fun b hb=>hb.1
 obtain⟨B,d,rfl,u2⟩:=kD h2 hy fun b hb=>hb.1
 refine(Bm A B _ _ c d xs ys w u1 u2 h h' h0).mono ?_
 rintro e W ⟨A1,n1,c1,A2,n2,c2,rfl,ho,ho2,hap,hb⟩
 obtain⟨y1,a1,a2,a3,a4⟩:=wL (N:=fun b=>true=false∧(b<W.heap.size∧b∉VT.fpL [])∧(N b∨w.heap.size≤b)) ho
 obtain⟨y2,b1,b2,b3,b4⟩:=wL (N:=fun b=>true=false∧(b<W.heap.size∧b∉VT.fpL [])∧(N b∨w.heap.size≤b)) ho2
 refine .mk0 (y:=[y1,y2,.w (.int .i64 0)]) rfl hb (by simp only[VT.okL,VT.ok];exact⟨a3,b3,trivial,trivial⟩) ?_ (fun b hb'=>?_) ?_
 ·simp only[VT.fpL,VT.fp,a4,b4,List.append_nil]
  rw[List.nodup_append]
  refine⟨Br ..,Br ..,fun x hx y hy e=>?_⟩
  subst e
  rcases A1 with _ | a
  ·simp[Value.ownBlock]at hx
  rcases A2 with _ | b
  ·simp[Value.ownBlock]at hy
  simp[Value.ownBlock]at hx hy
  exact hap a b rfl rfl (by rw[←hx,←hy])
 ·simp only[VT.fpL,VT.fp,a4,b4,List.append_nil]at hb'
  rcases List.mem_append.1 hb' with hb' | hb'
  ·exact ho.blk b hb'
  exact ho2.blk b hb'
 refine⟨[_,_,_],rfl,?_⟩
 exact⟨_,_,[y1],[y2,.w (.int .i64 0)],rfl,rfl,⟨y1,rfl,a1.symm,jN (fun _ _=>rfl) (fun b hb=>absurd hb.1 (by simp)) _ _ a2⟩,_,_,[y2],[.w (.int .i64 0)],rfl,rfl,⟨y2,rfl,b1.symm,jN (fun _ _=>rfl) (fun b hb=>absurd hb.1 (by simp)) _ _ b2⟩,_,_,[.w (.int .i64 0)],[],rfl,rfl,⟨_,rfl,rfl,by simp[CR,tv,OR]⟩,rfl,rfl⟩
end
def AZ (P:Program) (t n:Nat):Prop:=∃e,P.underlying t=some (.array n e)∧Ty1 P e
section
variable {P:Program}{w:World}{ρ:Operand→Value}{d:Option Nat}{ty:TypeId}{pos:String}{af:Array Edge}{gd:Option (Nat×Bool)}
theorem Vs {t n:Nat}{z us:List Value}{parts:Array (Nat×Operand)}{ps:List (Nat×Value)}(hT:AZ P t n) (hZ:TyZ P t z) (hps:(parts.map fun x=>(x.1,ρ x.2))=ps.toArray) (hf:iJ (fun i=>some (i*1,1)) z ps=some us):
  (execOp ρ ⟨d,.build t parts,ty,pos,af,gd⟩).run P w=.ok (.value (.agg us.toArray)) w:=by
 obtain⟨e,e1,hu⟩:=hT
 obtain⟨dd,i',h8,h9,h10,h11⟩:=hu
 obtain⟨i,v,h3,h4,h5⟩:=hZ
 have hf':=wR _ ps z us hf
 simp only[Nat.mul_one]at hf'
 have hps':(parts.map fun(x:Nat×Operand)=>match x with | (i,x)=>(i,ρ x))=ps.toArray:=hps
 simp[execOp,Instr.build,zeroValue,sizeOf,typeInfo,h3,h4,run_underlying e1,hps',h5,h10,h11,hf']
end
def uK:List AV→List (Nat×FV)→Option (List AV)
 | l,[]=>some l
 | l,(i,.one a)::r=>match lone a&&Nat.blt i l.length with
  | true=>uK (l.set i a) r
  | false=>none
 | _,_=>none
section
variable {W:World}{N:Nat→Prop}{cs:List Co}
theorem Ou {a:AV}{u:Value}(ha:AR W N cs a u):∀{l:List AV}{us:List Value}{p:Nat},ARL W N cs l us→ARL W N cs (l.set p a) (us.set p u)
 | [],us,p,h=>by
  simp only[ARL]at h
  subst h
  simp[ARL]
 | b::l,[],p,h=>by simp only[ARL]at h
 | b::l,z::us,0,h=>by
  simp only[ARL]at h
  simp only[List.set_cons_zero,ARL]
  exact⟨ha,h.2⟩
 | b::l,z::us,p+1,h=>by
  simp only[ARL]at h
  simp only[List.set_cons_succ,ARL]
  exact⟨h.1,Ou ha h.2⟩
theorem Ov:∀{ps:List (Nat×FV)}{vs:List (Nat×Value)}{l l':List AV}{us:List Value},ARL W N cs l us→uK l ps=some l'→ps.length=vs.length→
  (∀(j:Nat) (p:Nat×FV) (q:Nat×Value),ps[j]? =some p→vs[j]? =some q→p.1=q.1∧bF W N cs p.2 q.2)→∃us',ARL W N cs l' us'∧iJ (fun i=>some (i*1,1)) us vs=some us'
 | [],vs,l,l',us,hc,h,hl,_=>by
  obtain rfl:vs=[]:=List.eq_nil_of_length_eq_zero hl.symm
  simp only[uK,Option.some.injEq]at h
  subst h
  exact⟨us,hc,rfl⟩
 | (i,fv)::ps,vs,l,l',us,hc,h,hl,hp=>by
  obtain⟨⟨i',u⟩,vs,rfl⟩:∃q vs',vs=q::vs':=by
   cases vs with
   | nil=>simp at hl
   | cons q vs=>exact⟨q,vs,rfl⟩
  obtain⟨e0,h0⟩:=hp 0 _ _ rfl rfl
  dsimp only at e0 h0
  subst e0
  cases fv with
  | one a=>
   unfold uK at h
   cases hq:lone a&&Nat.blt i l.length with
   | false=>rw[hq]at h;cases h
   | true=>
    rw[hq]at h
    simp only[Bool.and_eq_true]at hq
    have hi:i<us.length:=by
     have h9:=hq.2
     rw[gH hc]
     simpa[Nat.blt,Nat.lt_iff_add_one_le]using h9
    have hu:u.cells.toList=[u]:=by rw[tT (cs:=cs) h0 hq.1]
    obtain⟨us',r1,r2⟩:=Ov (us:=us.set i u) (Ou h0 hc) h (by simpa using hl) (fun j p q h1 h2=>hp (j+1) p q (by simpa using h1) (by simpa using h2))
    refine⟨us',r1,?_⟩
    unfold iJ
    dsimp only
    have e2:nN us (i*1) u.cells.toList=us.set i u:=by
     rw[hu,Nat.mul_one]
     unfold nN
     rw[List.set_eq_take_append_cons_drop,if_pos hi]
     simp
    have e3:(Nat.beq u.cells.toList.length 1&&Nat.ble (i*1+u.cells.toList.length) us.length)=true:=by
     rw[hu]
     simp
     omega
    rw[e2,e3]
    exact r2
  | any=>simp[uK]at h
  | agg _=>simp[uK]at h
  | tup _=>simp[uK]at h
end
section
variable {x:Cx}{g g':Nat→FV}{ob ob':List (Option Ob)}{cs cs':List Co}{ts ts':Array Value}{W W':World}{T:List (Nat×TI)}{Q:Post}{ops:Array Oper}{rest:List Oper}{d:Nat}{op:Op}{ty:TypeId}{pos:String}{af:Array Edge}{gd:Option (Nat×Bool)}{v:FV}
theorem RJ {t n:Nat}{ti:Bool}{sz:Nat}{z:List Value}{kd:TK}{ps:Array (Nat×Operand)}{l:List AV}(hT:cB x.P T) (ht:bX T t=some ⟨ti,sz,z,kd⟩) (hA:AZ x.P t n) (h:uK (z.map tv) (ps.toList.map fun p=>(p.1,lk x.n g p.2))=some l):
  OS x ⟨some d,.build t ps,ty,pos,af,gd⟩ g ob [] (fun g' ob'=>g'=aU g d (.agg l)∧ob'=ob):=Ud fun cs ts W hR=>by
 have hi:=dX hT ht
 obtain⟨us',h1,h2⟩:=Ov (W:=W) (N:=x.fr W ob cs) (cs:=cs) (us:=z) (vs:=ps.toList.map fun p=>(p.1,Act.eval ⟨ts,[]⟩ p.2)) (oD z) h (by simp) (fun j p q hp hq=>by
  simp only[List.getElem?_map,Option.map_eq_some_iff]at hp hq
  obtain⟨a,ha,rfl⟩:=hp
  obtain⟨b,hb,rfl⟩:=hq
  rw[ha]at hb
  injection hb with hb
  subst hb
  exact⟨rfl,hR.lk _⟩)
 exact⟨.agg us'.toArray,fun W'=>Vs hA hi.2.2.1 (ps:=ps.toList.map fun p=>(p.1,Act.eval ⟨ts,[]⟩ p.2)) (by apply Array.ext';simp only[Array.toList_map]) h2,us',rfl,h1⟩
theorem bA {t n:Nat}{ti:Bool}{sz:Nat}{z:List Value}{kd:TK}{ps:Array (Nat×Operand)}{l:List AV}(hA:AZ x.P t n) (k:WL x ops rest (aU g d (.agg l)) ob Q) (hT:cB x.P ttab:=by exact aA) (ht:bX ttab t=some ⟨ti,sz,z,kd⟩:=by rfl) (h:uK (z.map tv) (ps.toList.map fun p=>(p.1,lk x.n g p.2))=some l:=by rfl) (hw:aV ops x.n g gd=some true:=by rfl):
  WL x ops (⟨some d,.build t ps,ty,pos,af,gd⟩::rest) g ob Q:=iP (RJ hT ht hA h) hw (by rintro _ _ ⟨rfl,rfl⟩;exact k)
inductive PutL (K:List Nat):List AV→List AV→Prop
 | nil:PutL K [] []
 | sl {i k o n:Nat}{l l':List AV}(h:K[i]? =some k) (h':PutL K l l'):PutL K (.sl i o n::l) (.sl k o n::l')
variable {late:Nat→Bool}{K fr:List Nat}{on:Bool}{fuel:Nat}{listed:Array Bool}
theorem kP {t ky o t' z':Nat}{ti:TI}{a:Operand}{l us:List AV}(i:Nat) (hx:(l.drop o).take us.length=us) (k:WD x ops Q late K (d::fr) true fuel (listed.setIfInBounds i true) (aU g d (.agg us)) ob) (hT:cB x.P ttab:=by exact aA) (hi:ops[i]? =some ⟨some d,.load t a,ty,pos,af,gd⟩:=by rfl) (hw:aV ops x.n g gd=some true:=by rfl) (hti:bX ttab t=some ti:=by rfl) (hlk:lk x.n g a=.one (.pt ky o):=by rfl) (ho:bS ob ky=some ⟨t',z',l⟩:=by rfl) (ha:ti.agg=true:=by rfl) (hn:us.length=ti.size:=by rfl) (h0:us≠[]:=by exact fun h=>by cases h) (hr:gM us=true:=by rfl):WO x ops Q late K fr true fuel listed i g ob:=
 Jk (v:=.agg us) i hi rfl hw (Qc hT hti (by rw[hlk];exact Jr ho hx ha hn h0 hr)) (by rintro _ _ ⟨rfl,rfl⟩;exact⟨rfl,fun _ _=>rfl⟩) (by rintro _ _ ⟨rfl,rfl⟩;exact k)
theorem qV {t key o t' z':Nat}{ti:TI}{a b:Operand}{l l' us:List AV}(i:Nat) (hl:dN l o us=l') (hle:o+us.length≤l.length) (k:WD x ops Q late K fr true fuel (listed.setIfInBounds i true) g (ob.set key (some ⟨t',z',l'⟩))) (hT:cB x.P ttab:=by exact aA) (hr:Region.ready .any ops listed=[i]:=by kernel_rfl) (hi:ops[i]? =some ⟨none,.store t a b,ty,pos,af,gd⟩:=by rfl) (hw:aV ops x.n g gd=some true:=by rfl) (hti:bX ttab t=some ti:=by rfl)
  (hlk:lk x.n g a=.one (.pt key o):=by rfl) (ho:bS ob key=some ⟨t',z',l⟩:=by rfl) (hb:vX (lk x.n g b)=some us:=by rfl) (hlo:eJ us=true:=by rfl) (hsz:Nat.beq us.length ti.size=true:=by rfl) (hK:K.contains key=false:=by rfl):WD x ops Q late K fr true (fuel+1) listed g ob:=by
 have hne:∀j∈K,j≠key:=fun j hj e=>by
  subst e
  have:K.contains j=true:=by simpa using hj
  rw[hK]at this
  cases this
 refine En i hr hi hw (Bc (ty:=ty) (pos:=pos) (af:=af) (gd:=gd) hT hti hlk hb hlo hsz ho hle hl) true (fun _=>⟨rfl,fun j hj hm=>?_⟩) (fun _=>rfl) (fun _ g' ob' hR=>?_) fun g' ob' hR=>?_
 ·rw[List.mem_singleton]at hm
  exact hne j hj hm
 ·obtain⟨rfl,rfl⟩:=hR
  exact⟨fun _ _=>rfl,fun j hj=>List.getElem?_set_ne (fun e=>hne j hj e.symm)⟩
 obtain⟨rfl,rfl⟩:=hR
 exact k
end
abbrev Do (x:Cx) (Q:Post):Post:=fun e g ob=>∃g' ob',Sub x g ob g' ob'∧Q e g' ob'
theorem WP.subQ {x:Cx}{c:Code}{g:Nat→FV}{ob:List (Option Ob)}{Q:Post}(h:WP x c g ob (Do x Q)):WP x c g ob Q:=fun ts W hR=>wp_mono (h ts W hR) fun e a w hq=>by
 cases e with
 | panic c=>exact hq
 | _=>
  obtain⟨g,ob,ts,rfl,h1,g',ob',hs,h2⟩:=hq
  exact⟨g',ob',ts,rfl,hs _ _ h1,h2⟩
theorem CB {x:Cx}{e:Exit}{g g':Nat→FV}{ob ob':List (Option Ob)}{Q:Post}(h:Sub x g ob g' ob') (k:Do x Q e g' ob'):Do x Q e g ob:=by
 obtain⟨g2,ob2,h2,h3⟩:=k
 exact⟨g2,ob2,fun ts W hR=>h2 ts W (h ts W hR),h3⟩
theorem Cj {x:Cx}{e:Exit}{g:Nat→FV}{ob:List (Option Ob)}{Q:Post}(h:Q e g ob):Do x Q e g ob:=⟨g,ob,fun _ _ h=>h,h⟩
theorem Pv {T:List (Nat×TI)}{fresh:Bool}{P:Program}{f:FuncId}{fn:Func}{c:Code}{n:Nat}{rv:List ResultVar}{lent:List Lt}{args:List FV}{R:List Lt→FV→Prop}(hf:P.funcs[f]? =some fn) (hb:fn.body=some c) (hn:fn.ntmps=n) (hrv:fn.results.toList=rv) (hT:cB P T) (hle:Nat.ble args.length n=true)
  (h:∀N M w c0,c0.length=lent.length→WP ⟨P,N,M,w,n,c0⟩ c (cA (lH 0 args)) (bD lent) (Do ⟨P,N,M,w,n,c0⟩ (tY ⟨P,N,M,w,n,c0⟩ T rv fresh lent R))):aD fresh P f lent args R:=
 mQ hf hb hn hrv hT hle fun N M w c0 h0=>(h N M w c0 h0).subQ
def Vt (fresh:Bool) (N:Nat→Prop) (M:List Nat) (w:World) (R:FV→Prop) (e:Ending) (W:World):Prop:=
 ∃v r y,e=.returned v∧R r∧Loc M w W [fL y] [(RP fresh [] [] r v y).on (fun b=>N b∨b∈M∨w.heap.size≤b)]
def uL (fresh:Bool) (P:Program) (f:FuncId) (lent:List Lt) (args:List FV) (R:FV→Prop):Prop:=
 ∀(N:Nat→Prop) (w:World) (cs:List Co) (us:List Value),Loc ((aF (bD lent) cs).flatMap Res.S) w w (aF (bD lent) cs) [(Uh lent cs args us).on N]→
  Calls P f us.toArray w (Vt fresh N ((aF (bD lent) cs).flatMap Res.S) w R)
section
variable {x:Cx}{g g':Nat→FV}{ob ob':List (Option Ob)}{cs cs':List Co}{ts ts':Array Value}{W W':World}{T:List (Nat×TI)}{Q:Post}{ops:Array Oper}{rest:List Oper}{d:Nat}{op:Op}{ty:TypeId}{pos:String}{af:Array Edge}{gd:Option (Nat×Bool)}{v:FV}
theorem BA {fresh:Bool}{P:Program}{f:FuncId}{fn:Func}{c:Code}{lent:List Lt}{args:List FV}{R:FV→Prop}(hf:P.funcs[f]? =some fn) (hb:fn.body=some c) (T:List (Nat×TI)) (hT:cB P T) (hle:Nat.ble args.length fn.ntmps=true)
  (h:∀x:Cx,x.P=P→x.n=fn.ntmps→x.c0.length=lent.length→WP x c (cA (lH 0 args)) (bD lent) (tY x T fn.results.toList fresh [] fun _=>R)):uL fresh P f lent args R:=by
 intro N w cs us hL
 refine calls_of_wp hf hb ?_
 have hs0:=Sh.off (hL.sh 0 rfl)
 obtain⟨hobs,hfv⟩:=hs0
 have hus:=sH hfv
 have hle:args.length≤fn.ntmps:=Nat.le_of_ble_eq_true hle
 let x:Cx:=⟨P,N,(aF (bD lent) cs).flatMap Res.S,w,fn.ntmps,cs⟩
 have hNx:∀b,(lT w (aF (bD lent) cs) b∧N b)→x.fr w (bD lent) cs b:=fun b hb=>⟨hb.1,.inl hb.2⟩
 have hsz:(us.toArray++Array.replicate (fn.ntmps-us.toArray.size) undef).size=fn.ntmps:=by simp;omega
 have hR:RelC x (cA (lH 0 args)) (bD lent) cs (us.toArray++Array.replicate (fn.ntmps-us.toArray.size) undef) w:=by
  refine .of hsz hL ⟨hobs.1,fun k o hk=>⟨cQ (fun _ _=>rfl) hNx .refl _ _ (hobs.2 k o hk).1,(hobs.2 k o hk).2⟩⟩ (fun i hi=>?_) .refl
  have hi':i<(us.toArray++Array.replicate (fn.ntmps-us.toArray.size) undef).size:=by rw[hsz];exact hi
  refine⟨_,Array.getElem?_eq_getElem hi',?_⟩
  by_cases hu:i<us.length
  ·have:=zD (j:=0) (i:=i) hfv us[i] (List.getElem?_eq_getElem hu)
   rw[Nat.zero_add]at this
   have e:(us.toArray++Array.replicate (fn.ntmps-us.toArray.size) undef)[i]=us[i]:=by
    rw[Array.getElem_append_left (by simpa using hu)]
    simp
   rw[e]
   exact eU (fun _ _=>rfl) hNx .refl _ _ this
  rw[zE (by omega)]
  trivial
 have hlen:=hR.len
 rw[jL]at hlen
 have hw:=h x rfl rfl hlen.symm _ w ⟨cs,hR⟩
 refine wp_mono hw fun e a W hq=>?_
 have main:∀g ob ts,a=⟨ts,[]⟩→Dy x g ob ts W→(∃rs r ks lent',EndA x T fn.results.toList fresh [] (fun _=>R) g ob rs r ks lent')→a.defers=[]∧∃v,(results fn a.tmps).run P W=.ok v W∧Vt fresh N ((aF (bD lent) cs).flatMap Res.S) w R (.returned v) W:=by
  rintro g ob ts rfl ⟨cs2,hR2⟩ ⟨rs,r,ks,lent',hE⟩
  have hnt:∀v∈rs,∀l,v≠.tup l:=by
   rcases hE.pk with⟨v,rfl,hp⟩ | ⟨_,l,_,hp⟩
   ·intro v' hv' l
    simp at hv'
    subst hv'
    cases hp <;> simp
   exact wD hp
  obtain⟨us2,hrv,hfl⟩:=nP hT hR2 hE.res hnt
  have hrun:=yE hrv
  refine⟨rfl,_,hrun,?_⟩
  have hcoe:rK ([]:List Lt).length cs2 []:=fun k hk=>absurd hk (Nat.not_lt_zero k)
  have hN0:∀b,x.fr W ob cs2 b→x.fr W ob cs2 b:=fun _ h=>h
  obtain⟨v,ys,hv,hro,hok,hsub⟩:∃(v:Value) (ys:List VT),v=(if h:us2.toArray.size=1 then us2.toArray[0]else .tuple us2.toArray)∧RO W (x.fr W ob cs2) [] r v ys∧VT.okL W ys∧(VT.fpL ys).Sublist (ks.flatMap fun k=>(aH (bS ob k) (co cs2 k)).S):=by
   rcases hE.pk with⟨v1,e1,hp⟩ | ⟨hne,l,rfl,hp⟩
   ·subst e1
    cases us2 with
    | nil=>simp only[dE]at hfl
    | cons u us2=>
     simp only[dE]at hfl
     obtain⟨hf1,hf2⟩:=hfl
     subst hf2
     obtain⟨ys,f2,f3,f4⟩:=hp.ok hcoe hR2 hN0 hf1
     exact⟨_,ys,rfl,by simpa using Ui f2,f3,f4⟩
   obtain⟨ys,f2,f3,f4⟩:=hp.ok hcoe hR2 hN0 hfl
   have hl:=sH hfl
   refine⟨_,ys,rfl,?_,f3,f4⟩
   rw[dif_neg (by simp;omega)]
   exact⟨us2,rfl,f2⟩
  have hks:∀k∈ks,(aF ob cs2)[k]? =some (aH (bS ob k) (co cs2 k))∨(aH (bS ob k) (co cs2 k)).S=[]:=fun k hk=>by
   cases hq:bS ob k with
   | none=>exact .inr (by simp[aH])
   | some o=>exact .inl (bG hR2.len (cS hq))
  have hS2:(ks.flatMap fun k=>(aH (bS ob k) (co cs2 k)).S)=(pick (aF ob cs2) ks).flatMap Res.S:=by
   clear hsub
   have hks':=hks
   clear hks hE
   induction ks with
   | nil=>rfl
   | cons k ks ih=>
    have ih:=ih (fun k' h=>hks' k' (List.mem_cons_of_mem _ h))
    unfold pick at ih⊢
    rw[List.flatMap_cons,ih,List.filterMap_cons]
    rcases hks' k (by simp)with h1 | h1
    ·rw[h1]
     simp
    rw[h1,List.nil_append]
    cases hq:(aF ob cs2)[k]? with
    | none=>rfl
    | some r'=>
     obtain⟨o,c,e1,e2,rfl⟩:=Np hq
     have e3:(aH o c).S=[]:=by
      have hco2:co cs2 k=c:=by simp[co,e2]
      cases o with
      | none=>rfl
      | some o=>
       have:bS ob k=some o:=by simp[bS,e1]
       rw[this,hco2]at h1
       exact h1
     simp[e3]
  have hLp:=hR2.2.pick ks hE.nd
  have hsubS:(([fL ys]).flatMap Res.S).Sublist ((pick (aF ob cs2) ks).flatMap Res.S):=by
   rw[←hS2]
   simpa[fL]using hsub
  have hsubO:∀b,b∈([fL ys]).flatMap Res.S→b∈(aF ob cs2).flatMap Res.S:=fun b hb=>by
   have:=hsubS.subset hb
   obtain⟨r',hr',hb'⟩:=List.mem_flatMap.1 this
   obtain⟨i,_,hi⟩:=List.mem_filterMap.1 hr'
   exact List.mem_flatMap.2 ⟨r',List.mem_of_getElem? hi,hb'⟩
  have hfr:∀b,x.fr W ob cs2 b→lT W [fL ys] b∧(N b∨b∈(aF (bD lent) cs).flatMap Res.S∨w.heap.size≤b):=fun b hb=>⟨⟨hb.1.1,fun hm=>hb.1.2 (hsubO b hm)⟩,hb.2⟩
  refine⟨_,r,ys,by rw[←hv],hE.post,?_⟩
  refine⟨hR2.2.chg,fun q hq=>?_,fun b hb=>hLp.blk b (hsubS.subset hb),hLp.nd.sublist hsubS,fun q hq=>?_⟩
  ·simp at hq
   subst hq
   exact hok
  rw[List.mem_singleton]at hq
  subst hq
  show zS W _ [] (bD [])∧RO W _ [] r _ ys
  refine⟨⟨rfl,fun k o hk=>by simp[bD]at hk⟩,?_⟩
  cases hfresh:fresh with
  | false=>exact pI (fun _ _=>rfl) (fun b hb=>⟨rfl,hfr b hb⟩) .refl hro
  | true=>exact Jc (hE.clean hfresh).1 hro
 cases e with
 | normal=>
  obtain⟨g,ob,ts,rfl,h1,h2⟩:=hq
  exact main g ob ts rfl h1 h2
 | ret=>
  obtain⟨g,ob,ts,rfl,h1,h2⟩:=hq
  exact main g ob ts rfl h1 h2
 | panic c=>exact hq.elim
 | exit id=>
  obtain⟨_,_,_,_,_,h2⟩:=hq
  exact h2.elim
 | goto l=>
  obtain⟨_,_,_,_,_,h2⟩:=hq
  exact h2.elim
 | outgrown=>
  obtain⟨_,_,_,_,_,h2⟩:=hq
  exact h2.elim
theorem Ra {fresh:Bool}{f:FuncId}{args:List FV}{R:FV→Prop}{lent:List Lt}{K:List Nat}{os:List Operand}{fst caps:List Tr}{fus cus:List Value}(hS:uL fresh x.P f lent (cJ fst++args++cJ caps) R) (hK:eB ob K K lent) (hnd:K.Nodup) (ha:jS x.n g K os args) (hfst:FRL W (x.fr W ob cs) fst fus) (hcap:FRL W (x.fr W ob cs) caps cus) (hR:RelC x g ob cs ts W):
  Calls x.P f (fus++os.map (Act.eval ⟨ts,[]⟩)++cus).toArray W (fun e W'=>∃v r ys N2,e=.returned v∧R r∧RO W' N2 [] r v ys∧VT.okL W' ys∧(VT.fpL ys).Nodup∧
   ∀(oz:List Ob) (csn:List Co),csn.length=oz.length→(∀b,((aF (oz.map some) csn).flatMap Res.S).count b≤(VT.fpL ys).count b)→(∀r∈aF (oz.map some) csn,r.φ W')→
    (∀b,N2 b→x.fr W' (bE ob K (cH K)++oz.map some) (cs++csn) b)∧
    ((∀i o,oz[i]? =some o→bH W' (x.fr W' (bE ob K (cH K)++oz.map some) (cs++csn)) (cs++csn) o.l (co csn i).l∧((co csn i).b=none→o.l=[]∧o.z≠0))→
     RelC x g (bE ob K (cH K)++oz.map some) (cs++csn) ts W'∧∀d,Aft K d ob cs ts W (bE ob K (cH K)++oz.map some) (cs++csn) ts W')):=by
 have hlen:=hR.len
 have hll:=uD hK
 have hKl:∀k∈K,k<ob.length:=fun k hk=>by
  obtain⟨i,hi⟩:=List.mem_iff_getElem?.1 hk
  obtain⟨a,l',_,_,h2⟩:=gS hK hi
  exact(List.getElem?_eq_some_iff.1 h2).1
 have hlobs:(bD lent).length=K.length:=by rw[jL,hll]
 have hput0:aF (bE ob K (bD lent)) cs=aF ob cs:=by
  have hl0:(bE ob K (bD lent)).length=cs.length:=by rw[fO];exact hlen
  apply List.ext_getElem?
  intro j
  by_cases hjl:j<ob.length
  ·by_cases hj:j∈K
   ·obtain⟨i,hi⟩:=List.mem_iff_getElem?.1 hj
    obtain⟨a,l',h1,_,h2⟩:=gS hK hi
    have h3:=kL hnd hlobs hi hjl
    rw[gA,h1]at h3
    rw[bG hl0 h3,bG hlen h2]
    exact congrArg some (kA _ _)
   have h3:=gP (l:=bD lent) (ob:=ob) hj
   rw[List.getElem?_eq_getElem hjl]at h3
   rw[bG hl0 h3,bG hlen (List.getElem?_eq_getElem hjl)]
  rw[List.getElem?_eq_none (by rw[fN hl0];omega),List.getElem?_eq_none (by rw[fN hlen];omega)]
 have hputc:dG cs K (K.map (co cs))=cs:=by
  have key:∀(K:List Nat),(∀k∈K,k<cs.length)→dG cs K (K.map (co cs))=cs:=by
   intro K
   induction K with
   | nil=>intro _;rfl
   | cons k K ih=>
    intro h
    simp only[List.map_cons,dG]
    rw[pH (h k (by simp))]
    exact ih fun j hj=>h j (List.mem_cons_of_mem _ hj)
  exact key K fun k hk=>by rw[←hlen];exact hKl k hk
 have hcnt0:=fun b=>xQ b (l:=bD lent) (lc:=K.map (co cs)) (cs:=cs) hnd hlobs (by simp) hlen hKl
 unfold cZ at hcnt0
 rw[hputc,hput0]at hcnt0
 have hfr0:∀b,x.fr W ob cs b→lT W (aF (bD lent) (K.map (co cs))) b:=fun b hb=>And.intro hb.1.1 fun hm=>hb.1.2 (by
  have h1:=List.count_pos_iff.2 hm
  have h2:=hcnt0 b
  exact List.count_pos_iff.1 (show 0<((aF ob cs).flatMap Res.S).count b by omega))
 have hgetL:∀i k,K[i]? =some k→∃(a:Lt) (l':List AV),lent[i]? =some a∧renL K a.l=some l'∧ob[k]? =some (some (⟨a.t,a.z,l'⟩:Ob)):=fun i k hi=>gS hK hi
 have hφ0:∀r∈aF (bD lent) (K.map (co cs)),r.φ W:=fun r hr=>by
  obtain⟨i,hi⟩:=List.mem_iff_getElem?.1 hr
  have hil:=(List.getElem?_eq_some_iff.1 hi).1
  have hil2:i<K.length:=by
   rw[fN (by simp[hlobs])]at hil
   simpa using hil
  obtain⟨a,l',h1,_,h2⟩:=hgetL i K[i] (List.getElem?_eq_getElem hil2)
  have e1:(bD lent)[i]? =some (some a.ob):=by rw[gA,h1];rfl
  rw[bG (by simp[hlobs]) e1,jZ (List.getElem?_eq_getElem hil2)]at hi
  injection hi with hi
  subst hi
  rw[show aH (some a.ob) (co cs K[i])=aH (some ⟨a.t,a.z,l'⟩) (co cs K[i]) from kA _ _]
  exact hR.res h2
 have h1:Loc x.M x.w W (aF (bD lent) (K.map (co cs))++aF (bE ob K (cH K)) cs) []:=(hR.2.pickS []).cut (fun b=>by
  rw[List.flatMap_append,List.count_append]
  have:=hcnt0 b
  omega) (fun r hr=>by
  rcases List.mem_append.1 hr with hr | hr
  ·exact hφ0 r hr
  rcases kZ hnd hlen hKl hr with hr | hr
  ·exact hR.2.res r hr
  exact hr.2 W)
 have h2:Loc ((aF (bD lent) (K.map (co cs))).flatMap Res.S) W W (aF (bD lent) (K.map (co cs))) [(Uh lent (K.map (co cs)) (cJ fst++args++cJ caps) (fus++os.map (Act.eval ⟨ts,[]⟩)++cus)).on (x.fr W ob cs)]:=by
  refine h1.focus.read _ ⟨⟨by simp[hlobs],fun k o hk=>?_⟩,sM (sM (qI (fun b hb=>⟨hfr0 b hb,hb⟩) hfst) (Jn hR (fun b hb=>⟨hfr0 b hb,hb⟩) ha)) (qI (fun b hb=>⟨hfr0 b hb,hb⟩) hcap)⟩
  rw[gA]at hk
  cases hq:lent[k]? with
  | none=>rw[hq]at hk;cases hk
  | some a=>
   rw[hq]at hk
   simp at hk
   subst hk
   have hkK:k<K.length:=by rw[←hll];exact(List.getElem?_eq_some_iff.1 hq).1
   obtain⟨a',l',q1,q0,q2⟩:=hgetL k K[k] (List.getElem?_eq_getElem hkK)
   rw[hq]at q1
   injection q1 with q1
   subst q1
   have q3:=hR.obs.2 _ _ q2
   rw[jZ (List.getElem?_eq_getElem hkK)]
   exact⟨xM (fun b hb=>⟨hfr0 b hb,hb⟩) q0 q3.1,fun h=>⟨(zK q0).2 (q3.2 h).1,(q3.2 h).2⟩⟩
 refine(hS _ W _ _ h2).mono fun e W' hE=>?_
 obtain⟨v,r,ys,rfl,hr,h3⟩:=hE
 have h4:=Loc.turn h1 h3
 have hsh:=Sh.off (h3.sh 0 rfl)
 refine⟨v,r,ys,_,rfl,hr,hsh.2,h3.res (fL ys) (by simp),?_,fun oz csn hlz hcz hφz=>?_⟩
 ·have:=h3.nd
  simpa[fL]using this
 have hlen2:(bE ob K (cH K)).length=cs.length:=by rw[fO];exact hlen
 have hrs:aF (bE ob K (cH K)++oz.map some) (cs++csn)=aF (bE ob K (cH K)) cs++aF (oz.map some) csn:=by
  unfold aF
  rw[List.zipWith_append hlen2]
 have hcnt2:∀b,(cZ (bE ob K (cH K)++oz.map some) (cs++csn)).count b≤(([fL ys]++aF (bE ob K (cH K)) cs).flatMap Res.S).count b:=fun b=>by
  have q2:=hcz b
  unfold cZ
  rw[hrs,List.flatMap_append,List.count_append,List.flatMap_append,List.count_append,List.flatMap_cons,List.flatMap_nil,List.append_nil]
  have q3:(fL ys).S=VT.fpL ys:=rfl
  rw[q3]
  omega
 have hin2:∀b,b∈cZ (bE ob K (cH K)++oz.map some) (cs++csn)→b∈([fL ys]++aF (bE ob K (cH K)) cs).flatMap Res.S:=fun b hb=>List.count_pos_iff.1 (Nat.lt_of_lt_of_le (List.count_pos_iff.2 hb) (hcnt2 b))
 have hrest:∀b,b∈(aF (bE ob K (cH K)) cs).flatMap Res.S→b∈cZ ob cs:=fun b hb=>by
  obtain⟨r,hr,hb⟩:=List.mem_flatMap.1 hb
  rcases kZ hnd hlen hKl hr with hr | hr
  ·exact List.mem_flatMap.2 ⟨r,hr,hb⟩
  rw[hr.1]at hb
  cases hb
 have hlentS:∀b,b∈(aF (bD lent) (K.map (co cs))).flatMap Res.S→b∈cZ ob cs:=fun b hb=>by
  have q1:=List.count_pos_iff.2 hb
  have q2:=hcnt0 b
  exact List.count_pos_iff.1 (show 0<((aF ob cs).flatMap Res.S).count b by omega)
 have hfree:∀b,lT W' [fL ys] b→(x.fr W ob cs b∨b∈(aF (bD lent) (K.map (co cs))).flatMap Res.S∨W.heap.size≤b)→x.fr W' (bE ob K (cH K)++oz.map some) (cs++csn) b:=fun b hb hb'=>by
  refine⟨⟨hb.1,fun hm=>?_⟩,?_⟩
  ·have hm:=hin2 b hm
   rw[List.flatMap_append,List.mem_append]at hm
   rcases hm with hm | hm
   ·exact hb.2 hm
   have hm2:=hrest b hm
   rcases hb' with hb' | hb' | hb'
   ·exact hb'.1.2 hm2
   ·have q1:=hcnt0 b
    have q2:=List.nodup_iff_count.1 hR.2.nd b
    have q3:=List.count_pos_iff.2 hb'
    have q4:=List.count_pos_iff.2 hm
    unfold cZ at q1
    omega
   have:=(hR.2.blk b hm2).2
   omega
  rcases hb' with hb' | hb' | hb'
  ·exact hb'.2
  ·exact .inr (hR.2.blk b (hlentS b hb')).1
  exact .inr (.inr (Nat.le_trans hR.2.chg.size hb'))
 have hsize:W.heap.size≤W'.heap.size:=h3.chg.size
 have hfr:∀b,x.fr W ob cs b→x.fr W' (bE ob K (cH K)++oz.map some) (cs++csn) b:=fun b hb=>by
  refine hfree b ⟨Nat.lt_of_lt_of_le hb.1.1 hsize,fun hm=>?_⟩ (.inl hb)
  have q1:=h3.blk b hm
  rcases q1.1 with q1 | q1
  ·exact hb.1.2 (hlentS b q1)
  have:=hb.1.1
  omega
 have hkeep:∀b,x.fr W ob cs b→W'.heap[b]? =W.heap[b]? :=fun b hb=>h3.chg.block b hb.1.1 (fun hm=>hb.1.2 (hlentS b hm))
 refine⟨fun b hb=>hfree b hb.2.1 hb.2.2,fun hoz=>?_⟩
 have happ:∀{k},k<cs.length→co (cs++csn) k=co cs k:=fun hk=>by simp[co,List.getElem?_append_left hk]
 have hsame3:Same cs (cs++csn):=⟨by simp,fun k hk=>by rw[happ hk];exact⟨rfl,rfl⟩⟩
 have hnone:∀{k:Nat},k∈K→k<ob.length→(bE ob K (cH K))[k]? =some none:=fun{k} hk hl=>by
  obtain⟨i,hi⟩:=List.mem_iff_getElem?.1 hk
  rw[kL hnd (by simp[cH]) hi hl]
  simp[cH,hi]
 have hLf:Loc x.M x.w W' (aF (bE ob K (cH K)++oz.map some) (cs++csn)) []:=h4.cut hcnt2 (fun r hr=>by
  rw[hrs]at hr
  rcases List.mem_append.1 hr with hr | hr
  ·exact h4.res _ (List.mem_append_right _ hr)
  exact hφz r hr)
 refine⟨.of hR.1 hLf ⟨by rw[List.length_append,List.length_append,hlen2,List.length_map,hlz],fun k o hk=>?_⟩ (fun i hi=>?_) (hR.3.trans hsame3),fun d=>⟨hsame3,fun k hk hkc=>?_,hsize,fun b hlt hb=>?_,fun b hb=>?_,fun _ _=>rfl⟩⟩
 ·rcases Nat.lt_or_ge k (bE ob K (cH K)).length with hlt | hge
  ·rw[List.getElem?_append_left hlt]at hk
   rw[happ (by rw[←hlen2];exact hlt)]
   rw[fO]at hlt
   by_cases hkK:k∈K
   ·rw[hnone hkK hlt]at hk
    injection hk with hk
    cases hk
   rw[gP hkK]at hk
   have q1:=hR.obs.2 k o hk
   exact⟨cQ hkeep hfr hsame3 _ _ q1.1,q1.2⟩
  rw[List.getElem?_append_right hge]at hk
  have ho:oz[k-(bE ob K (cH K)).length]? =some o:=by
   rw[List.getElem?_map]at hk
   cases hq:oz[k-(bE ob K (cH K)).length]? with
   | none=>rw[hq]at hk;cases hk
   | some o'=>
    rw[hq]at hk
    simp at hk
    rw[hk]
  have q1:=hoz _ o ho
  have e:co (cs++csn) k=co csn (k-(bE ob K (cH K)).length):=by
   unfold co
   rw[List.getElem?_append_right (by rw[←hlen2];exact hge),hlen2]
  rw[e]
  exact q1
 ·obtain⟨u,q1,q2⟩:=hR.fv hi
  exact⟨u,q1,eU hkeep hfr hsame3 _ _ q2⟩
 ·rw[happ hkc]
 ·refine h3.chg.block b hlt fun hm=>?_
  obtain⟨r,hr,hbr⟩:=List.mem_flatMap.1 hm
  obtain⟨i,hi⟩:=List.mem_iff_getElem?.1 hr
  have hil:=(List.getElem?_eq_some_iff.1 hi).1
  have hil2:i<K.length:=by
   rw[fN (by simp[hlobs])]at hil
   simpa using hil
  obtain⟨a,l',q1,_,q2⟩:=hgetL i K[i] (List.getElem?_eq_getElem hil2)
  have e1:(bD lent)[i]? =some (some a.ob):=by rw[gA,q1];rfl
  rw[bG (by simp[hlobs]) e1,jZ (List.getElem?_eq_getElem hil2)]at hi
  injection hi with hi
  subst hi
  rw[show aH (some a.ob) (co cs K[i])=aH (some ⟨a.t,a.z,l'⟩) (co cs K[i]) from kA _ _]at hbr
  exact hb K[i] (List.getElem_mem hil2) _ q2 hbr
 have q1:=hin2 b hb
 rw[List.flatMap_append,List.mem_append]at q1
 rcases q1 with q1 | q1
 ·rcases(h3.blk b (by simpa using q1)).1 with q2 | q2
  ·exact .inl (hlentS b q2)
  exact .inr q2
 exact .inl (hrest b q1)
theorem Kj {fresh:Bool}{f:FuncId}{args:List FV}{R:FV→Prop}{lent:List Lt}{K:List Nat}{aa:Array Operand}{ats:Array TypeId}{cf:Operand}{fst caps:List Tr}{key:Nat}(hS:uL fresh x.P f lent (cJ fst++args++cJ caps) R) (hf:CallOk x.P f) (hc:Un x g cf f fst caps) (hK:eB ob K K lent) (hnd:K.Nodup) (ha:jS x.n g K aa.toList args) (hk:dV ob key=true) (hb:∀r,R r→(jT key r).isSome=true):
  OS x ⟨some d,.call ⟨.value cf,aa,ats⟩,ty,pos,af,gd⟩ g ob K (fun g' ob'=>∃r v os,R r∧jT key r=some (v,os)∧g'=aU g d v∧ob'=bE ob K (cH K)++os.map some):=by
 intro cs ts W hR K' Q kk
 obtain⟨us0,us,e0,hfst,hcap⟩:=hc ob cs ts W hR
 unfold Oper.wp
 rw[nW hf e0]
 refine(Ra hS hK hnd ha hfst hcap hR).mono fun e W' hE=>?_
 obtain⟨v,r,ys,N2,rfl,hr,hro,hok,hndy,fin⟩:=hE
 have hb1:=hb r hr
 obtain⟨⟨v',os⟩,hbn⟩:=Option.isSome_iff_exists.1 hb1
 obtain⟨csn,e1,e2,e3,e4⟩:=Ab (Ps hbn hro) hok hbn
 obtain⟨hN,hfin⟩:=fin os csn e1 (fun b=>by rw[e2];exact Nat.le_refl _) e3
 have hk:=Nat.eq_of_beq_eq_true hk
 have hpl:cs.length=key:=by rw[←hR.len,hk]
 obtain⟨g1,g2⟩:=e4 _ (cs++csn) hN (by simp[hpl,e1]) (fun i _=>by
  unfold co
  rw[List.getElem?_append_right (by omega),hpl,show key+i-key=i by omega])
 obtain⟨m1,m2⟩:=hfin g2
 exact kk _ _ _ _ _ ⟨r,v',os,hr,hbn,rfl,rfl⟩ (m1.put d g1) ((m2 (some d)).then_put v)
theorem cm {fresh:Bool}{f:FuncId}{lent:List Lt}{args:List FV}{r:FV}{os:List Ob}{aa:Array Operand}{ats:Array TypeId}(key:Nat) (K:List Nat) (hS:uL fresh x.P f lent args (· =r)) (hf:CallOk x.P f) (hK:eB ob K K lent) (ha:jS x.n g K aa.toList args) (k:WL x ops rest (aU g d v) (bE ob K (cH K)++os.map some) Q) (hw:aV ops x.n g gd=some true:=by rfl) (hk:dV ob key=true:=by rfl) (hnd:K.Nodup:=by decide) (hb:jT key r=some (v,os):=by rfl):
  WL x ops (⟨some d,.call ⟨.value (.func f),aa,ats⟩,ty,pos,af,gd⟩::rest) g ob Q:=by
 have e:cJ []++args++cJ []=args:=by simp[cJ]
 refine iP (Kj (by rw[e];exact hS) hf (wW f) hK hnd ha hk (by rintro _ rfl;rw[hb];rfl)) hw ?_
 rintro _ _ ⟨r',v',os',rfl,h,rfl,rfl⟩
 rw[hb]at h
 injection h with h
 injection h with h1 h2
 subst h1 h2
 exact k
theorem Bt {late:Nat→Bool}{K fr:List Nat}{fuel:Nat}{listed:Array Bool}{fresh:Bool}{f:FuncId}{lent:List Lt}{args:List FV}{r:FV}{os:List Ob}{aa:Array Operand}{ats:Array TypeId}(i key:Nat) (Kl:List Nat) (hi:ops[i]? =some ⟨some d,.call ⟨.value (.func f),aa,ats⟩,ty,pos,af,gd⟩) (hS:uL fresh x.P f lent args (· =r)) (hf:CallOk x.P f) (hK:eB ob Kl Kl lent) (ha:jS x.n g Kl aa.toList args) (hke:jG ob (bE ob Kl (cH Kl)++os.map some) K) (k:WD x ops Q late K (d::fr) true fuel (listed.setIfInBounds i true) (aU g d v) (bE ob Kl (cH Kl)++os.map some)) (hr:Region.ready .any ops listed=[i]:=by kernel_rfl) (hw:aV ops x.n g gd=some true:=by rfl) (hk:dV ob key=true:=by rfl) (hnd:Kl.Nodup:=by decide) (hdis:∀k∈K,k∉Kl:=by decide) (hb:jT key r=some (v,os):=by rfl):
  WD x ops Q late K fr true (fuel+1) listed g ob:=by
 have e:cJ []++args++cJ []=args:=by simp[cJ]
 refine CV i hr hi rfl hw (Kj (by rw[e];exact hS) hf (wW f) hK hnd ha hk (by rintro _ rfl;rw[hb];rfl)) hdis ?_ ?_
 ·rintro _ _ ⟨r',v',os',rfl,h,rfl,rfl⟩
  rw[hb]at h
  injection h with h
  injection h with h1 h2
  subst h1 h2
  exact⟨⟨_,rfl⟩,fT hke⟩
 rintro _ _ ⟨r',v',os',rfl,h,rfl,rfl⟩
 rw[hb]at h
 injection h with h
 injection h with h1 h2
 subst h1 h2
 exact k
theorem VO {fresh:Bool}{P:Program}{f:FuncId}{fn:Func}{c:Code}{n:Nat}{rv:List ResultVar}{lent:List Lt}{args:List FV}{R:FV→Prop}(hf:P.funcs[f]? =some fn) (hb:fn.body=some c) (hn:fn.ntmps=n) (hrv:fn.results.toList=rv) (hT:cB P T) (hle:Nat.ble args.length n=true)
  (h:∀N M w c0,c0.length=lent.length→WP ⟨P,N,M,w,n,c0⟩ c (cA (lH 0 args)) (bD lent) (Do ⟨P,N,M,w,n,c0⟩ (tY ⟨P,N,M,w,n,c0⟩ T rv fresh [] fun _=>R))):uL fresh P f lent args R:=by
 subst hn hrv
 refine BA hf hb T hT hle ?_
 rintro⟨P',N,M,w,n,c0⟩ rfl rfl h0
 exact(h N M w c0 h0).subQ
end
def Zg (a:Zi) (k:Int):Prop:=Lim 4294967296 a.x∧a.x.length≤300000000000∧fE a.s a.x=k
theorem Zn.g {a:Zi}{k:Int}(h:Zn a k):Zg a k:=⟨h.1,Nat.le_trans h.2.1 (by omega),h.2.2⟩
theorem Zg.of {k:Int}(h:(dg 4294967296 k.natAbs).length≤300000000000):Zg (.of k) k:=⟨aM (by omega) _,h,wH k⟩
theorem Zg.len {a:Zi}{k:Int}(h:Zg a k):(dg 4294967296 k.natAbs).length≤300000000000:=by
 obtain⟨h1,h2,rfl⟩:=h
 exact Nat.le_trans (xT h1) h2
theorem Zg.wrong {a:Zi}{k:Int}(h:Zg a k) (hr:dI a.s a.x=false):k=0:=by
 obtain⟨h1,h2,rfl⟩:=h
 exact Bq hr
theorem Vu {a:Zi}{k:Int}(h:Zg a k) (hr:dI a.s a.x=true):gF a=kF k:=by
 obtain⟨h1,h2,rfl⟩:=h
 unfold gF kF
 rw[xS h1 hr,pL h1 hr]
theorem Dp {a:Zi}{k:Int}(ha:Zg a k):aD true Tryz.prog 96 [] [gF a] (aP (.one (tv (.bool (dI a.s a.x))))):=by
 refine cC Tryz.func96 rfl Tryz.ntmps96 rfl aA rfl fun N w c0 h0=>?_
 have hal:=ha.2.1
 refine sq ?_;refine rl ?_;refine bx 0 ?_;refine o1 ?_;refine nl ?_;refine sq ?_;refine rl ?_;refine o1 ?_;refine ld ?_;refine o1 ?_;refine o1 ?_;refine nl ?_;refine sq ?_;refine rl ?_
 (iterate 3 refine o1 ?_);refine WL.split (t:=9) rfl (fun h1=>?_) (fun h1=>?_)
 ·refine o1 ?_;refine ld ?_;refine WL.splitb (t:=11) rfl (fun h2=>?_) (fun h2=>?_)
  ·(iterate 6 refine o1 ?_);refine WL.split (t:=17) rfl (fun h3=>?_) (fun h3=>?_)
   ·refine o1 ?_;refine ld ?_;refine o1 ?_;refine o1 ?_;refine WL.cast (t:=21) (u':=.int .i64 ((a.x.length-1:Nat):Int)) rfl (aC (by omega)) ?_
    refine o1 ?_;refine dU ([.v (.int .u32 ((nth a.x (a.x.length-1):Nat):Int))]) (pO a.x (k:=a.x.length-1) (by omega)) ?_
    (iterate 4 refine o1 ?_);refine nl ?_;refine rt ?_;refine en (.inl rfl) rfl (aZ (cR _)) (by decide) (fun _=>trivial) (congrArg (fun b=>FV.one (tv (.bool b))) ?_)
    rw[mM (by omega)];simp_all
   (iterate 7 refine cM ?_);(iterate 3 refine o1 ?_);refine nl ?_;refine rt ?_
   refine en (.inl rfl) rfl (aZ (cR _)) (by decide) (fun _=>trivial) (congrArg (fun b=>FV.one (tv (.bool b))) ?_)
   rw[mM (by omega)];simp_all
  (iterate 3 refine o1 ?_);(iterate 11 refine cM ?_);refine o1 ?_;refine o1 ?_;refine nl ?_;refine rt ?_
  refine en (.inl rfl) rfl (aZ (cR _)) (by decide) (fun _=>trivial) (congrArg (fun b=>FV.one (tv (.bool b))) ?_)
  rw[mM (by omega)];simp_all
 (iterate 3 refine cM ?_);(iterate 5 refine o1 ?_);refine WL.split (t:=17) rfl (fun h4=>?_) (fun h4=>?_)
 ·refine o1 ?_;refine ld ?_;refine o1 ?_;refine o1 ?_;refine WL.cast (t:=21) (u':=.int .i64 ((a.x.length-1:Nat):Int)) rfl (aC (by omega)) ?_
  refine o1 ?_;refine dU ([.v (.int .u32 ((nth a.x (a.x.length-1):Nat):Int))]) (pO a.x (k:=a.x.length-1) (by omega)) ?_
  (iterate 4 refine o1 ?_);refine nl ?_;refine rt ?_;refine en (.inl rfl) rfl (aZ (cR _)) (by decide) (fun _=>trivial) (congrArg (fun b=>FV.one (tv (.bool b))) ?_)
  first | exact(uG rfl (by omega)).symm | (unfold dI;simp_all;try omega)
 (iterate 7 refine cM ?_);(iterate 3 refine o1 ?_);refine nl ?_;refine rt ?_
 refine en (.inl rfl) rfl (aZ (cR _)) (by decide) (fun _=>trivial) (congrArg (fun b=>FV.one (tv (.bool b))) ?_)
 first | exact(uG rfl (by omega)).symm | (unfold dI;simp_all;try omega)
theorem dZ {a:Zi}{k:Int}(ha:Zg a k):aD false Tryz.prog 82 [] [gF a] (aP (kF k)):=by
 refine cC Tryz.func82 rfl Tryz.ntmps82 rfl aA rfl fun N w c0 h0=>?_
 refine sq ?_;refine rl ?_;refine bx 0 ?_;refine al 1 ?_;refine nl ?_;refine sq ?_;refine sq ?_;refine rl ?_;refine ld ?_
 refine ca (Dp ha) AD ⟨aG rfl,rfl⟩ (.one (tv (.bool (dI a.s a.x)))) ?_;refine WL.splitb (t:=4) rfl (fun h1=>?_) (fun h1=>?_)
 ·refine o1 ?_;refine nl ?_;refine eN rfl ?_;refine sk ?_;refine sq ?_;refine rl ?_;refine ld ?_;refine o1 ?_;refine st ?_;refine nl ?_;refine rt ?_
  exact en (.inl rfl) rfl (aZ (.agg (.read _ (l:=[.v (.bool a.s),sU false a.x]) rfl))) (by decide) (fun h=>by cases h) (Vu ha h1)
 refine o1 ?_;refine nl ?_;refine gJ rfl ?_;refine sq ?_;refine rl ?_;refine o1 ?_;refine st ?_;refine nl ?_;refine rt ?_
 exact en (.inl rfl) rfl (aZ (.agg (.cons (.id rfl) (.cons .nilf .nil)))) (by decide) (fun h=>by cases h) (by rw[ha.wrong h1];exact Cb)
theorem Vv {b:Bool}{m:Nat}{K:Int}(hK:bO b m=K):aD false Tryz.prog 83 [] [.one (tv (.bool b)),.one (.t (sU false (dg 4294967296 m)))] (aP (kF K)):=by
 refine cC Tryz.func83 rfl Tryz.ntmps83 rfl aA rfl fun N w c0 h0=>?_
 refine sq ?_;refine rl ?_;refine al 0 ?_;refine nl ?_;refine sq ?_;refine rl ?_;refine o1 ?_;refine o1 ?_;refine WL.splitb (t:=6) rfl (fun h1=>?_) (fun h1=>?_)
 ·(iterate 6 refine o1 ?_);refine st ?_;refine nl ?_;refine rt ?_
  exact en (.inl rfl) rfl (aZ (.agg (.cons (.id rfl) (.cons (.id rfl) .nil)))) (by decide) (fun h=>by cases h) (hK▸congrArg yF (uI (by rw[sT,h1,Bool.true_and,←lQ (m:=m) rfl];exact decide_eq_decide.2 (by omega)) (iS _ _).symm))
 (iterate 3 refine cM ?_);(iterate 3 refine o1 ?_);refine st ?_;refine nl ?_;refine rt ?_
 exact en (.inl rfl) rfl (aZ (.agg (.cons (.id rfl) (.cons (.id rfl) .nil)))) (by decide) (fun h=>by cases h) (hK▸congrArg yF (uI (by rw[sT,h1];rfl) (iS _ _).symm))
theorem iD {b:Bool}{m:Nat}{K:Int}(hK:bO b m=K):uL false Tryz.prog 83 [⟨113,1,(aY (dg 4294967296 m)).map .t⟩] [.one (tv (.bool b)),.one (.sl 0 0 (dg 4294967296 m).length)] (· =kO K):=by
 refine VO Tryz.func83 rfl Tryz.ntmps83 rfl aA rfl fun N M w c0 h0=>?_
 refine sq ?_;refine rl ?_;refine al 1 ?_;refine nl ?_;refine sq ?_;refine rl ?_;refine o1 ?_;refine o1 ?_;refine WL.splitb (t:=6) rfl (fun h1=>?_) (fun h1=>?_)
 ·(iterate 6 refine o1 ?_);refine st ?_;refine nl ?_;refine rt ?_
  exact Cj (en (.inl rfl) rfl (aZ (.agg (.cons (.id rfl) (.cons (.sl (trs:=aY (dg 4294967296 m)) rfl rfl (bV _) (bR _)) .nil)))) (by decide) (fun h=>by cases h) (hK▸uI (by rw[sT,h1,Bool.true_and,←lQ (m:=m) rfl];exact decide_eq_decide.2 (by omega)) (iS _ _).symm))
 (iterate 3 refine cM ?_);(iterate 3 refine o1 ?_);refine st ?_;refine nl ?_;refine rt ?_
 exact Cj (en (.inl rfl) rfl (aZ (.agg (.cons (.id rfl) (.cons (.sl (trs:=aY (dg 4294967296 m)) rfl rfl (bV _) (bR _)) .nil)))) (by decide) (fun h=>by cases h) (hK▸uI (by rw[sT,h1];rfl) (iS _ _).symm))
theorem Kk {k:Int}:aD false Tryz.prog 117 [] [kF k] (aP (kF (-k))):=by
 refine cC Tryz.func117 rfl Tryz.ntmps117 rfl aA rfl fun N w c0 h0=>?_
 refine sq ?_;refine rl ?_;refine bx 0 ?_;refine al 1 ?_;refine nl ?_;refine sq ?_;refine rl ?_;refine o1 ?_;refine o1 ?_;refine ld ?_;(iterate 3 refine o1 ?_);refine ld ?_
 refine ca (Vv (m:=k.natAbs) (K:=-k) (Oj k)) oL ⟨a1 rfl,a1 rfl,rfl⟩ (kF (-k)) ?_;refine o1 ?_;refine st ?_;refine nl ?_;refine rt ?_
 exact en (.inl rfl) rfl (aZ (.agg (.cons (.id rfl) (.cons (.id rfl) .nil)))) (by decide) (fun h=>by cases h) rfl
theorem DC {a:Zi}{k:Int}(ha:Zg a k):aD true Tryz.prog 86 [] [gF a] (aP (kO (-(k)))):=by
 refine cC Tryz.func86 rfl Tryz.ntmps86 rfl aA rfl fun N w c0 h0=>?_
 have hkl:=ha.len
 refine sq ?_;refine rl ?_;refine bx 0 ?_;refine al 1 ?_;refine nl ?_;refine sq ?_;refine rl ?_;refine ld ?_;refine ca (dZ ha) dY ⟨aG rfl,rfl⟩ (kF (k)) ?_
 refine ca (Kk (k:=k)) CN ⟨aG rfl,rfl⟩ (kF (-(k))) ?_;refine al 2 ?_;refine st ?_;refine nl ?_;refine sq ?_;refine rd [0,1,2] (fun i=>[8].contains i) mixed ?_
 refine dv 0 ?_;refine dv 1 ?_;refine aR 2 ?_;refine dv 3 ?_;refine dv 4 ?_;refine aR 5 ?_
 refine lN 3 6 rfl (Ot (aM (by omega) _) (by have:=jX k;omega)) CO ⟨a1 rfl,rfl⟩ ?_
 refine df 7 ?_;refine dst 8 ?_;refine aS ?_;refine rt ?_
 exact en (.inl rfl) rfl (aZ (.agg (.cons (.id rfl) (.cons (.sl (trs:=aY (dg 4294967296 (-(k)).natAbs)) rfl rfl (bV _) (bR _)) .nil)))) (by decide) (fun _=>eS (-(k))) rfl
theorem RK {a:Zi}{k:Int}(ha:Zg a k):aD true Tryz.prog 87 [] [gF a] (aP (kO (((k.natAbs:Nat):Int)))):=by
 refine cC Tryz.func87 rfl Tryz.ntmps87 rfl aA rfl fun N w c0 h0=>?_
 have hkl:=ha.len
 refine sq ?_;refine rl ?_;refine bx 0 ?_;refine al 1 ?_;refine nl ?_;refine sq ?_;refine rl ?_;refine ld ?_;refine ca (dZ ha) dY ⟨aG rfl,rfl⟩ (kF (k)) ?_;refine o1 ?_;refine o1 ?_
 refine iY 2 (Ot (aM (by omega) _) (by have:=jX k;omega)) CO ⟨a1 rfl,rfl⟩ ?_
 refine o1 ?_;refine st ?_;refine nl ?_;refine rt ?_
 exact en (.inl rfl) rfl (aZ (.agg (.cons (.id rfl) (.cons (.sl (trs:=aY (dg 4294967296 k.natAbs)) rfl rfl (bV _) (bR _)) .nil)))) (by decide) (fun _=>Dn _ _) (uI (by unfold aE;simp) (by omega))
theorem Vx {k k':Int}(hk:(dg 4294967296 k.natAbs).length≤500000000000) (hk':(dg 4294967296 k'.natAbs).length≤500000000000):aD true Tryz.prog 116 [] [kF k,kF k'] (aP (kO (k+k'))):=by
 refine cC Tryz.func116 rfl Tryz.ntmps116 rfl aA rfl fun N w c0 h0=>?_
 have hal:=Dm (xs:=dg 4294967296 k.natAbs) (ys:=dg 4294967296 k'.natAbs) (aM (by omega) _) (aM (by omega) _)
 rw[bI,bI]at hal;refine sq ?_;refine rl ?_;refine bx 0 ?_;refine bx 1 ?_;refine al 2 ?_;refine nl ?_;refine sq ?_;refine sq ?_;refine rl ?_;refine o1 ?_;refine o1 ?_
 refine ld ?_;refine o1 ?_;refine o1 ?_;refine ld ?_;refine o1 ?_;refine nl ?_;refine nV rfl (fun h1=>?_) (fun h1=>?_)
 ·refine sq ?_;refine rd [0,1,2] (fun i=>[11].contains i) mixed ?_
  refine dv 0 ?_;refine dv 1 ?_;refine aR 2 ?_;refine dv 3 ?_;refine dv 4 ?_;refine aR 5 ?_;refine dv 6 ?_;refine dv 7 ?_;refine aR 8 ?_
  have hA:aD true Tryz.prog 139 [] [.one (.t (sU false (dg 4294967296 k.natAbs))),.one (.t (sU false (dg 4294967296 k'.natAbs)))] (aP (.one (.t (sU true (dg 4294967296 (k.natAbs+k'.natAbs)))))):=by have h9:=DB (aM (by omega) k.natAbs) (aM (by omega) k'.natAbs) (by omega) (by omega);rwa[bI,bI]at h9
  refine lN 3 9 rfl hA CP ⟨a1 rfl,a1 rfl,rfl⟩ ?_
  refine Bt 10 4 [3] rfl (iD (m:=(k.natAbs+k'.natAbs)) (K:=k+k') (Fd rfl (eq_of_beq h1))) oL ⟨aI rfl,rfl⟩ ⟨rfl,rfl,rfl⟩ ⟨rfl,rfl,rfl,trivial⟩ ?_;refine dst 11 ?_
  refine aS ?_;refine rt ?_
  exact en (.inl rfl) rfl (aZ (.agg (.cons (.id rfl) (.cons (.sl (trs:=aY (dg 4294967296 (k+k').natAbs)) rfl rfl (bV _) (bR _)) .nil)))) (by decide) (fun _=>eS (k+k')) rfl
 refine sk ?_;refine sq ?_;refine sq ?_;refine rl ?_;refine o1 ?_;refine o1 ?_;refine ld ?_;refine o1 ?_;refine o1 ?_;refine ld ?_
 refine ca (RG (aM (by omega) _) (aM (by omega) _)) RA ⟨a1 rfl,a1 rfl,rfl⟩ (.one (tv (.int .i64 (mJ (vl 4294967296 (dg 4294967296 (k).natAbs)) (vl 4294967296 (dg 4294967296 (k').natAbs)))))) ?_
 refine o1 ?_;refine nl ?_;refine bM rfl (fun h2=>?_) (fun h2=>?_)
 ·refine rl ?_;refine ld ?_;refine ld ?_;refine st ?_;refine st ?_;refine nl ?_;refine sq ?_;refine rl ?_;refine o1 ?_;refine o1 ?_;refine ld ?_;refine o1 ?_;refine o1 ?_;refine ld ?_
  have hlt:k.natAbs<k'.natAbs:=Decidable.byContradiction fun h8=>by rw[bI,bI]at h2;rcases Nat.lt_or_ge k'.natAbs k.natAbs with h7 | h7;(rw[lP h7]at h2;omega);(rw[sN (by omega)]at h2;omega)
  have hS:aD true Tryz.prog 141 [] [.one (.t (sU false (dg 4294967296 k'.natAbs))),.one (.t (sU false (dg 4294967296 k.natAbs)))] (aP (.tup [.one (.t (sU true (dg 4294967296 (k'.natAbs-k.natAbs)))),.one (tv (.int .i64 0))])):=by have h9:=Qz (aM (by omega) k'.natAbs) (aM (by omega) k.natAbs) (by omega) (by rw[bI,bI];omega);rwa[bI,bI]at h9
  refine iY 3 hS Qo ⟨a1 rfl,a1 rfl,rfl⟩ ?_;(iterate 5 refine o1 ?_);refine nl ?_;refine sq ?_;refine rl ?_;refine o1 ?_;refine o1 ?_;refine ld ?_;refine o1 ?_
  refine cm 4 [3] (iD (m:=(k'.natAbs-k.natAbs)) (K:=k+k') (On rfl (ne_of_beq_false h1) hlt)) oL ⟨aI rfl,rfl⟩ ⟨rfl,rfl,rfl⟩ ?_;refine st ?_;refine nl ?_;refine rt ?_
  exact en (.inl rfl) rfl (aZ (.agg (.cons (.id rfl) (.cons (.sl (trs:=aY (dg 4294967296 (k+k').natAbs)) rfl rfl (bV _) (bR _)) .nil)))) (by decide) (fun _=>eS (k+k')) rfl
 refine sk ?_;refine sq ?_;refine rl ?_;refine o1 ?_;refine o1 ?_;refine ld ?_;refine o1 ?_;refine o1 ?_;refine ld ?_
 have hlt:¬k.natAbs<k'.natAbs:=fun h8=>h2 (by rw[bI,bI,pK h8];omega)
 have hS:aD true Tryz.prog 141 [] [.one (.t (sU false (dg 4294967296 k.natAbs))),.one (.t (sU false (dg 4294967296 k'.natAbs)))] (aP (.tup [.one (.t (sU true (dg 4294967296 (k.natAbs-k'.natAbs)))),.one (tv (.int .i64 0))])):=by have h9:=Qz (aM (by omega) k.natAbs) (aM (by omega) k'.natAbs) (by omega) (by rw[bI,bI];omega);rwa[bI,bI]at h9
 refine iY 3 hS Qo ⟨a1 rfl,a1 rfl,rfl⟩ ?_;(iterate 5 refine o1 ?_);refine nl ?_;refine sq ?_;refine rl ?_;refine o1 ?_;refine o1 ?_;refine ld ?_;refine o1 ?_
 refine cm 4 [3] (iD (m:=(k.natAbs-k'.natAbs)) (K:=k+k') (Om rfl (ne_of_beq_false h1) hlt)) oL ⟨aI rfl,rfl⟩ ⟨rfl,rfl,rfl⟩ ?_;refine st ?_;refine nl ?_;refine rt ?_
 exact en (.inl rfl) rfl (aZ (.agg (.cons (.id rfl) (.cons (.sl (trs:=aY (dg 4294967296 (k+k').natAbs)) rfl rfl (bV _) (bR _)) .nil)))) (by decide) (fun _=>eS (k+k')) rfl
theorem DD {a b:Zi}{k k':Int}(ha:Zg a k) (hb:Zg b k'):aD true Tryz.prog 89 [] [gF a,gF b] (aP (kO (k+k'))):=by
 refine cC Tryz.func89 rfl Tryz.ntmps89 rfl aA rfl fun N w c0 h0=>?_
 have hkl:=ha.len
 have hkl':=hb.len
 refine sq ?_;refine rl ?_;refine bx 0 ?_;refine bx 1 ?_;refine al 2 ?_;refine nl ?_;refine sq ?_;refine rd [0,1,2] (fun i=>[5].contains i) mixed ?_
 refine aR 0 ?_;refine aR 2 ?_;refine bB 1 rfl (dZ ha) dY ⟨aG rfl,rfl⟩ (kF (k)) ?_;refine bB 3 rfl (dZ hb) dY ⟨aG rfl,rfl⟩ (kF (k')) ?_
 refine lN 3 4 rfl (Vx (k:=k) (k':=k') (by omega) (by omega)) CM ⟨aG rfl,aG rfl,rfl⟩ ?_
 refine dst 5 ?_;refine aS ?_;refine rt ?_
 exact en (.inl rfl) rfl (aZ (.agg (.cons (.id rfl) (.cons (.sl (trs:=aY (dg 4294967296 ((k+k')).natAbs)) rfl rfl (bV _) (bR _)) .nil)))) (by decide) (fun _=>eS ((k+k'))) rfl
theorem RL {a b:Zi}{k k':Int}(ha:Zg a k) (hb:Zg b k'):aD true Tryz.prog 81 [] [gF a,gF b] (aP (kO (k-k'))):=by
 refine cC Tryz.func81 rfl Tryz.ntmps81 rfl aA rfl fun N w c0 h0=>?_
 have hkl:=ha.len
 have hkl':=hb.len
 have hkn:=jX k'
 refine sq ?_;refine rl ?_;refine bx 0 ?_;refine bx 1 ?_;refine al 2 ?_;refine nl ?_;refine sq ?_;refine rd [0,1,2] (fun i=>[6].contains i) mixed ?_
 refine aR 0 ?_;refine aR 2 ?_;refine bB 1 rfl (dZ ha) dY ⟨aG rfl,rfl⟩ (kF (k)) ?_;refine bB 3 rfl (dZ hb) dY ⟨aG rfl,rfl⟩ (kF (k')) ?_
 refine bB 4 rfl (Kk (k:=k')) CN ⟨aG rfl,rfl⟩ (kF (-(k'))) ?_;refine lN 3 5 rfl (Vx (k:=k) (k':=(-(k'))) (by omega) (by omega)) CM ⟨aG rfl,aG rfl,rfl⟩ ?_
 refine dst 6 ?_;refine aS ?_;refine rt ?_
 exact en (.inl rfl) rfl (aZ (.agg (.cons (.id rfl) (.cons (.sl (trs:=aY (dg 4294967296 ((k+(-(k')))).natAbs)) rfl rfl (bV _) (bR _)) .nil)))) (by decide) (fun _=>eS ((k+(-(k'))))) (by rw[Int.sub_eq_add_neg];rfl)
theorem Bu {a:Zi}{k:Int}(ha:Zg a k):aD true Tryz.prog 49 [] [gF a] (aP (.one (tv (.int .i64 k.sign)))):=by
 refine cC Tryz.func49 rfl Tryz.ntmps49 rfl aA rfl fun N w c0 h0=>?_
 refine sq ?_;refine rl ?_;refine bx 0 ?_;refine o1 ?_;refine nl ?_;refine sq ?_;refine sq ?_;refine rl ?_;refine ld ?_;refine ca (dZ ha) dY ⟨aG rfl,rfl⟩ (kF (k)) ?_;refine al 1 ?_
 refine st ?_;refine nl ?_;refine bl ?_;refine sq ?_;refine rl ?_;refine o1 ?_;refine o1 ?_;refine ld ?_;refine o1 ?_;refine nl ?_;refine nV rfl (fun h1=>?_) (fun h1=>?_)
 ·refine sq ?_;refine rl ?_;refine o1 ?_;refine nl ?_;refine rt ?_;refine en (.inl rfl) rfl (aZ (cR _)) (by decide) (fun _=>trivial) (congrArg (fun z=>FV.one (tv (.int .i64 z))) ?_)
  have h9:k<0:=of_decide_eq_true h1
  exact(Int.sign_eq_neg_one_of_neg h9).symm
 refine sq ?_;refine rl ?_;refine o1 ?_;refine o1 ?_;refine ld ?_;(iterate 3 refine o1 ?_);refine nl ?_;refine bM rfl (fun h2=>?_) (fun h2=>?_)
 ·refine sq ?_;refine rl ?_;refine o1 ?_;refine nl ?_;refine rt ?_;refine en (.inl rfl) rfl (aZ (cR _)) (by decide) (fun _=>trivial) (congrArg (fun z=>FV.one (tv (.int .i64 z))) ?_)
  have h9:¬k<0:=of_decide_eq_false h1
  have h8:=lQ (m:=k.natAbs) rfl
  have h7:decide (0<k.natAbs)=true:=by rw[←h8];exact decide_eq_true (by omega)
  have h6:=of_decide_eq_true h7
  exact(Int.sign_eq_one_of_pos (by omega)).symm
 refine sk ?_;refine sq ?_;refine rl ?_;refine o1 ?_;refine nl ?_;refine rt ?_
 refine en (.inl rfl) rfl (aZ (cR _)) (by decide) (fun _=>trivial) (congrArg (fun z=>FV.one (tv (.int .i64 z))) ?_)
 have h9:¬k<0:=of_decide_eq_false h1
 have h8:=lQ (m:=k.natAbs) rfl
 have h7:decide (0<k.natAbs)=false:=by rw[←h8];exact decide_eq_false (by omega)
 have h6:=of_decide_eq_false h7
 obtain rfl:k=0:=by omega
 rfl
theorem Rb {a b:Zi}{k k':Int}(ha:Zg a k) (hb:Zg b k') (hs:(dg 4294967296 (k-k').natAbs).length≤300000000000):aD true Tryz.prog 47 [] [gF a,gF b] (aP (.one (tv (.int .i64 (k-k').sign)))):=by
 refine cC Tryz.func47 rfl Tryz.ntmps47 rfl aA rfl fun N w c0 h0=>?_
 have hkl:=ha.2.1;have hkl2:=ha.len;have hkl3:=hb.len
 refine sq ?_;refine rl ?_;refine bx 0 ?_;refine bx 1 ?_;refine o1 ?_;refine nl ?_;refine sq ?_;refine rl ?_;refine ld ?_;refine ld ?_
 refine ca (RL ha hb) UQ ⟨aG rfl,aG rfl,rfl⟩ (kF (k-k')) ?_;refine ca (Bu (Zg.of (k:=k-k') hs)) Qk ⟨aG rfl,rfl⟩ (.one (tv (.int .i64 (k-k').sign))) ?_;refine o1 ?_
 refine nl ?_;refine rt ?_;exact en (.inl rfl) rfl (aZ (cR _)) (by decide) (fun _=>trivial) rfl
end Go.Proofs.YtbbabfkgdnkehaaGreat
