/- Part 7 of a proof: Fq to G1. -/
import Derived.Test.YtbbabfkgdnkehaaGreatM4
import Derived.Test.YtbbabfkgdnkehaaGreatM6
import Derived.Test.YtbbabfkgdnkehaaGreatM5
set_option maxRecDepth 100000
set_option linter.unusedVariables false
set_option linter.unusedSimpArgs false
namespace Go.Proofs.YtbbabfkgdnkehaaGreat
open Go Go.RowKit
def aV (xs:List Nat):List Tr:=xs.map fun(n:Nat)=>.v (.int .u32 (n:Int))
def sU (o:Bool) (xs:List Nat):Tr:=.s o 113 1 xs.length (aV xs)
theorem gP (xs:List Nat):(aV xs).length=xs.length:=by simp[aV]
theorem JJ (xs:List Nat):gA ((aV xs).map .t)=true:=by
 induction xs with
 | nil=>rfl
 | cons x xs ih=>simpa[aV,gA,oF]using ih
theorem Wu (xs:List Nat):eD ((aV xs).map .t)=true:=by
 induction xs with
 | nil=>rfl
 | cons x xs ih=>simpa[aV,eD,lone]using ih
theorem eP (xs:List Nat):NoFrL (aV xs):=by
 induction xs with
 | nil=>simp[aV,NoFrL]
 | cons x xs ih=>simpa[aV,NoFrL,lB]using ih
structure Fr4 where
 s:Bool
 x:List Nat
 t:Bool
 y:List Nat
namespace Fr4
def tr (o:Bool) (a:Fr4):List Tr:=[.v (.bool a.s),sU o a.x,.v (.bool a.t),sU o a.y]
def q (a:Fr4):Rat:=vU a.s a.x a.t a.y
def of (q:Rat):Fr4:=⟨aH q.num,dg 4294967296 q.num.natAbs,false,dg 4294967296 q.den⟩
def ok (a:Fr4):Prop:=Lim 4294967296 a.x∧Lim 4294967296 a.y∧a.x.length≤68719476736∧a.y.length≤68719476736
theorem q_of (q:Rat):(of q).q=q:=ML q
end Fr4
def qF (a:Fr4):FV:=.agg ((a.tr false).map .t)
def qO (q:Rat):FV:=.agg (((Fr4.of q).tr true).map .t)
theorem Aw (q:Rat):jB (qO q):=by
 simp only[jB,qO,nT,Fr4.tr,List.map_cons,List.map_nil,jT,qN,sU,lB]
 exact⟨trivial,.inl ⟨trivial,eP _⟩,trivial,.inl ⟨trivial,eP _⟩,trivial⟩
section
variable {W:World}{N:Nat→Prop}
theorem Cn {o:Bool}{xs:List Nat}{u:Value}(h:FR W N (sU o xs) u) (hl:Lim 4294967296 xs):∃A c,u=.slice A xs.length c∧LimR W N A xs.length c xs:=by
 simp only[sU,FR]at h
 obtain⟨A,c,rfl,h1,h2,h3,h4⟩:=h
 refine⟨A,c,rfl,rfl,h1,h2,hl,fun hn=>?_⟩
 rcases h4 with h4 | ⟨ad,rfl,h5,h6⟩
 ·omega
 refine⟨ad,rfl,h5,fun k u hk=>?_⟩
 simp only[fS,List.getElem?_map,Option.map_eq_some_iff]at hk
 obtain⟨m,hm,rfl⟩:=hk
 obtain⟨u,e1,e2⟩:=mM h6 (j:=k) (x:=.v (.int .u32 (m:Int))) (by simp[aV,hm])
 simp only[FR]at e2
 rw[Nat.zero_add]at e1
 rw[e1,e2]
theorem vX {t:TypeId}{base n c:Nat}{A:Option Addr}{xs:List Nat}(h:Own t W base A n c xs):∃y:VT,y.val=.slice A n c∧OR W N (.s true t 1 xs.length (aV xs)) y∧y.ok W∧y.fp=(Value.slice A n c).ownBlock.toList:=by
 have hl:=h.len
 rcases h.row.2 with⟨h2,h3⟩ | ⟨g,cap,cur,hv,_,hg,hnc,hcm,hcs,htake⟩
 ·injection h2 with e1 e2 e3
  subst e1 e3
  subst h3
  have:xs=[]:=List.eq_nil_of_length_eq_zero hl
  subst this
  exact⟨.w (.slice none 0 0),rfl,by simp[OR,aV],by simp[VT.ok],by simp[VT.fp,Value.ownBlock]⟩
 injection hv with e1 e2 e3
 subst e1 e3
 have hor:ORL W N (aV xs) ((fS xs).map VT.w):=by
  clear hl htake h
  induction xs with
  | nil=>simp[aV,fS,ORL]
  | cons x xs ih=>simpa[aV,fS,ORL,OR]using ih
 refine⟨.s g c t 1 n ((fS xs).map .w),rfl,?_,?_,by simp[VT.fp,lX,Value.ownBlock]⟩
 ·simp only[OR]
  exact⟨trivial,hl.symm,trivial,trivial,hor⟩
 simp only[VT.ok]
 refine⟨⟨cur.toList.drop (n*1),?_,?_⟩,hnc,hcm,by simp[iT,hl],tK _⟩
 ·rw[tM,←htake,List.take_append_drop]
  simpa using hg
 rw[tM,←htake,List.take_append_drop]
 simpa using hcs
end
section
variable {f:FuncId}{args:List FV}
theorem vY {N:Nat→Prop}{w:World}{cs:List Co}{us:List Value}(hL:Loc ((aE (aZ []) cs).flatMap Res.S) w w (aE (aZ []) cs) [(Tk [] cs args us).on N]):cs=[]∧dA w (fun b=>b<w.heap.size∧N b) [] args us:=by
 have h:=Sh.off (hL.sh 0 rfl)
 have hc:cs=[]:=List.eq_nil_of_length_eq_zero (by have:=h.1.1;simpa[aZ]using this.symm)
 subst hc
 exact⟨rfl,kU (fun _ _=>rfl) (fun b hb=>⟨hb.1.1,hb.2⟩) .refl _ _ h.2⟩
theorem Ended.mk0 {fresh:Bool}{N:Nat→Prop}{M:List Nat}{w W:World}{R:List Lt→FV→Prop}{v:Value}{r:FV}{y:List VT}(hR:R [] r) (hb:Below w.heap.size w W) (hok:VT.okL W y) (hnd:(VT.fpL y).Nodup) (hfp:∀b∈VT.fpL y,w.heap.size≤b∧b<W.heap.size)
  (hro:RO W (fun b=>fresh=false∧(b<W.heap.size∧b∉VT.fpL y)∧(N b∨w.heap.size≤b)) [] r v y):Ended fresh N M w [] [] R (.returned v) W:=by
 refine⟨v,[],[],r,y,rfl,hR,rfl,fun _ _ _ h=>by simp at h,rfl,.refl,?_⟩
 refine⟨⟨hb.os,hb.tape,hb.output,hb.size,fun k hk _=>hb.block k hk⟩,fun q hq=>?_,fun b hb=>?_,by simpa[aZ,aE,fH]using hnd,fun q hq=>?_⟩
 ·simp[aZ,aE]at hq
  subst hq
  exact hok
 ·have:=hfp b (by simpa[aZ,aE,fH]using hb)
  exact⟨.inr this.1,this.2⟩
 simp at hq
 subst hq
 refine⟨⟨rfl,fun k o hk=>by simp[aZ]at hk⟩,oU (fun _ _=>rfl) (fun b hb=>⟨hb.1,⟨⟨hb.2.1.1,?_⟩,hb.2.2.elim .inl fun h=>.inr (.inr h)⟩⟩) .refl hro⟩
 simpa[aZ,aE,fH]using hb.2.1.2
theorem Zq {v:Value}(h:∀(N:Nat→Prop) (w:World) us,dA w N [] args us→(∀b,N b→b<w.heap.size)→Calls Tryz.prog f us.toArray w (fun e w'=>e=.returned v∧Below w.heap.size w w')):aD true Tryz.prog f [] args (aN (.one (tv v))):=by
 intro N w cs us hL
 obtain⟨rfl,hf⟩:=vY hL
 refine(h _ w us hf (fun b hb=>hb.1)).mono ?_
 rintro e W ⟨rfl,hb⟩
 refine .mk0 (y:=[.w v]) rfl hb (by simp[VT.okL,VT.ok]) (by simp[VT.fpL,VT.fp]) (by simp[VT.fpL,VT.fp]) ⟨.w v,rfl,rfl,?_⟩
 simp[CR,tv,OR]
end
theorem Jf {W:World}{N:Nat→Prop}{a b:FV}{us:List Value}(h:dA W N [] [a,b] us):∃u v,us=[u,v]∧bQ W N [] a u∧bQ W N [] b v:=by
 match us,h with
 | [u,v],h=>
  simp only[dA]at h
  exact⟨u,v,rfl,h.1,h.2.1⟩
 | [],h=>simp only[dA]at h
 | [_],h=>simp only[dA]at h;exact h.2.elim
 | _::_::_::_,h=>simp only[dA]at h;exact absurd h.2.2 (by simp)
theorem Zr {W:World}{N:Nat→Prop}{a:FV}{us:List Value}(h:dA W N [] [a] us):∃u,us=[u]∧bQ W N [] a u:=by
 match us,h with
 | [u],h=>
  simp only[dA]at h
  exact⟨u,rfl,h.1⟩
 | [],h=>simp only[dA]at h
 | _::_::_,h=>simp only[dA]at h;exact absurd h.2 (by simp)
section
variable {a b:Fr4}
end
theorem pA (xs:List Nat){k:Nat}(h:k<xs.length):((aV xs).drop (k*1)).take [Tr.v (.int .u32 ((nth xs k:Nat):Int))].length=[Tr.v (.int .u32 ((nth xs k:Nat):Int))]:=by
 rw[Nat.mul_one]
 have:(aV xs)[k]? =some (Tr.v (.int .u32 ((nth xs k:Nat):Int))):=by simp[aV,eA h,h]
 rw[List.length_singleton,List.take_one]
 simp[this]
theorem aU {x:Cx}{g:Nat→FV}{ob:List (Option Ob)}(h0:x.c0.length=0) (τ:List Nat) (live:List (Nat×FV)) (os:List Ob) (hn:τ.Nodup) (h1:vK τ g live) (h2:iF τ ob τ os):Sub x g ob (cC live) (os.map some):=
 su τ (fun k hk=>by rw[h0]at hk;cases hk) live os hn h1 h2
theorem bR (xs:List Nat):((aV xs).map AV.t).take (xs.length*1)=(aV xs).map .t:=by rw[Nat.mul_one,List.take_of_length_le (by simp[gP])]
theorem bO (xs:List Nat):(aV xs).length=xs.length*1:=by simp[gP]
def rO (a:Fr4):FV:=.agg ((a.tr true).map .t)
theorem vC (a:Fr4):jB (rO a):=by
 simp only[jB,rO,nT,Fr4.tr,List.map_cons,List.map_nil,jT,qN,sU,lB]
 exact⟨trivial,.inl ⟨trivial,eP _⟩,trivial,.inl ⟨trivial,eP _⟩,trivial⟩
theorem MM {a b:Fr4}:a=b↔(a.s=b.s∧a.t=b.t)∧a.x=b.x∧a.y=b.y:=by
 obtain⟨s,x,t,y⟩:=a
 obtain⟨s',x',t',y'⟩:=b
 simp only[Fr4.mk.injEq]
 constructor
 ·rintro⟨h1,h2,h3,h4⟩
  exact⟨⟨h1,h3⟩,h2,h4⟩
 rintro⟨⟨h1,h3⟩,h2,h4⟩
 exact⟨h1,h2,h3,h4⟩
instance:DecidableEq Fr4:=fun a b=>decidable_of_iff _ MM.symm
def Fr4.len (a:Fr4) (m:Nat):Prop:=a.x.length≤m∧a.y.length≤m
def hv:List Nat→List Nat
 | []=>[]
 | x::xs=>x%65536::x/65536::hv xs
def lb:List Nat→List Nat
 | []=>[]
 | [a]=>[a]
 | a::b::l=>(a+65536*b)::lb l
theorem Ec:∀(a b:List Nat),hv (a++b)=hv a++hv b
 | [],_=>rfl
 | x::xs,b=>by simp only[List.cons_append,hv,Ec xs b]
theorem pB:∀(a:List Nat),(hv a).length=2*a.length
 | []=>rfl
 | x::xs=>by simp only[hv,List.length_cons,pB xs];omega
theorem Un:∀{a:List Nat},Lim 4294967296 a→Lim 65536 (hv a)
 | [],_=>Lim.nil
 | x::xs,h=>Lim.cons (Nat.mod_lt _ (by omega)) (Lim.cons (by have:=h.head;omega) (Un h.tail))
theorem CE:∀(a:List Nat),vl 65536 (hv a)=vl 4294967296 a
 | []=>rfl
 | x::xs=>by
  simp only[hv,fO,CE xs]
  have:=Nat.mod_add_div x 65536
  omega
theorem AN {a:List Nat}(h:Lim 4294967296 a):trim (hv a)=dg 65536 (vl 4294967296 a):=by rw[←CE,eR (by omega) (Un h)]
theorem Ku {a:List Nat}{k:Nat}(h:k<a.length):hv (a.take (k+1))=hv (a.take k)++[nth a k%65536,nth a k/65536]:=by
 rw[nW h,Ec]
 rfl
theorem CF:∀(a:List Nat),vl 4294967296 (lb a)=vl 65536 a
 | []=>rfl
 | [a]=>by simp[lb,qX]
 | a::b::l=>by
  simp only[lb,fO,CF l]
  omega
theorem Uo:∀{a:List Nat},Lim 65536 a→Lim 4294967296 (lb a)
 | [],_=>Lim.nil
 | [a],h=>Lim.cons (by have:=h.head;omega) Lim.nil
 | a::b::l,h=>Lim.cons (by have:=h.head;have:=h.tail.head;omega) (Uo h.tail.tail)
theorem iC:∀(a:List Nat),(lb a).length=(a.length+1)/2
 | []=>rfl
 | [a]=>by simp[lb]
 | a::b::l=>by simp only[lb,List.length_cons,iC l];omega
theorem MN {a:List Nat}(h:lb a=[]):a=[]:=by
 rcases a with _ | ⟨x,_ | ⟨y,l⟩⟩
 ·rfl
 ·simp[lb]at h
 simp[lb]at h
theorem Nk:∀{a:List Nat},trim a=a→trim (lb a)=lb a
 | [],_=>rfl
 | [a],h=>h
 | a::b::l,h=>by
  have hl:trim l=l:=by
   rw[eI]at h
   split at h
   ·cases h
   injection h with _ h
   rw[eI]at h
   split at h
   ·cases h
   injection h
  have ih:=Nk hl
  simp only[lb]
  rw[eI,ih]
  split
  ·rename_i hc
   have h0:=MN hc.1
   subst h0
   rw[eI,eI,Vp]at h
   have hb:b=0:=by omega
   have ha:a=0:=by omega
   subst hb ha
   simp at h
  rfl
theorem zI (v:Nat):lb (dg 65536 v)=dg 4294967296 v:=by
 have h:=Nk (qZ (B:=65536) (by omega) v)
 rw[←h,←eR (B:=4294967296) (by omega) (Uo (aL (by omega) v)),CF,cA (by omega)]
theorem xJ:∀{l:List Nat}{k:Nat},2*k<l.length→lb (l.take (2*(k+1)))=lb (l.take (2*k))++[nth l (2*k)+65536*nth l (2*k+1)]
 | [],_,h=>by simp at h
 | [a],0,_=>by simp[lb,nth]
 | [a],k+1,h=>by simp at h
 | a::b::l,0,_=>by simp[lb,nth]
 | a::b::l,k+1,h=>by
  have ih:=xJ (l:=l) (k:=k) (by simp at h;omega)
  have e1:2*(k+1+1)=2*(k+1)+1+1:=by omega
  have e2:2*(k+1)=2*k+1+1:=by omega
  rw[e1,List.take_succ_cons,List.take_succ_cons]
  simp only[lb]
  rw[ih,e2,List.take_succ_cons,List.take_succ_cons]
  simp only[lb,List.cons_append]
  simp[nth]
theorem eU {v L:Nat}(h:(dg 4294967296 v).length≤L):(dg 65536 v).length≤2*L:=by
 have h1:=oG (B:=4294967296) (by omega) (n:=v)
 refine cR (by omega) (Nat.lt_of_lt_of_le h1 ?_)
 rw[Nat.pow_mul]
 exact Nat.pow_le_pow_right (by omega) h
theorem Jg {X Y os:List Nat}{k cr:Nat}(hl:os.length=k) (h:vl 65536 os+65536^k*cr=vl 65536 (X.take k)+vl 65536 (Y.take k)):
  vl 65536 (os++[(nth X k+nth Y k+cr)%65536])+65536^(k+1)*((nth X k+nth Y k+cr)/65536)=vl 65536 (X.take (k+1))+vl 65536 (Y.take (k+1)):=by
 rw[lD,bI,bI,hl,Nat.pow_succ,Nat.mul_assoc]
 have h2:=Nat.mod_add_div (nth X k+nth Y k+cr) 65536
 have h3:65536^k*(nth X k+nth Y k+cr)=65536^k*((nth X k+nth Y k+cr)%65536)+65536^k*(65536*((nth X k+nth Y k+cr)/65536)):=by rw[←Nat.mul_add,h2]
 rw[Nat.mul_add,Nat.mul_add]at h3
 omega
theorem Jh {X Y os:List Nat}{k br br' d:Nat}(hl:os.length=k) (h:vl 65536 os+vl 65536 (Y.take k)=vl 65536 (X.take k)+65536^k*br) (hd:d+nth Y k+br=nth X k+65536*br'):
  vl 65536 (os++[d])+vl 65536 (Y.take (k+1))=vl 65536 (X.take (k+1))+65536^(k+1)*br':=by
 rw[lD,bI,bI,hl,Nat.pow_succ,Nat.mul_assoc]
 have h3:65536^k*(d+nth Y k+br)=65536^k*(nth X k+65536*br'):=by rw[hd]
 rw[Nat.mul_add,Nat.mul_add,Nat.mul_add]at h3
 omega
theorem MO {a b:Nat}(h:¬((a:Int)-(b:Int)).sign<0):b≤a:=by
 rcases Nat.lt_or_ge a b with h1 | h1
 ·exact absurd (by rw[Int.sign_eq_neg_one_of_neg (by omega)];omega) h
 exact h1
theorem MP {a b:Nat}(h:((a:Int)-(b:Int)).sign<0):a<b:=by
 rcases Nat.lt_or_ge a b with h1 | h1
 ·exact h1
 exact absurd (Int.sign_neg_iff.1 h) (by omega)
theorem Ff {X Y:List Nat}{k:Nat}(hX:Lim 65536 X) (hk:∀j,k+1≤j→nth X j=nth Y j) (h:nth X k<nth Y k):vl 65536 X<vl 65536 Y:=by
 have hS:∀m,vl 65536 (X.take (k+1+m))+vl 65536 (Y.take (k+1))=vl 65536 (Y.take (k+1+m))+vl 65536 (X.take (k+1)):=by
  intro m
  induction m with
  | zero=>exact Nat.add_comm _ _
  | succ m ih=>
   rw[←Nat.add_assoc,bI 65536 X (k+1+m),bI 65536 Y (k+1+m),hk (k+1+m) (by omega)]
   omega
 have h1:=hS (X.length+Y.length)
 rw[bL 65536 (l:=X) (k:=k+1+(X.length+Y.length)) (by omega),bL 65536 (l:=Y) (k:=k+1+(X.length+Y.length)) (by omega)]at h1
 have h2:vl 65536 (X.take (k+1))<vl 65536 (Y.take (k+1)):=by
  rw[bI,bI]
  have h3:=eQ (hX.take k)
  have h4:65536^(X.take k).length≤65536^k:=Nat.pow_le_pow_right (by omega) (by rw[List.length_take];omega)
  have h5:65536^k*(nth X k+1)≤65536^k*nth Y k:=Nat.mul_le_mul_left _ h
  rw[Nat.mul_add]at h5
  omega
 omega
theorem Qy {X Y:List Nat}(h:∀j,nth X j=nth Y j):vl 65536 X=vl 65536 Y:=by
 have hS:∀m,vl 65536 (X.take m)=vl 65536 (Y.take m):=by
  intro m
  induction m with
  | zero=>rfl
  | succ m ih=>rw[bI,bI,ih,h]
 have h1:=hS (X.length+Y.length)
 rwa[bL 65536 (l:=X) (k:=X.length+Y.length) (by omega),bL 65536 (l:=Y) (k:=X.length+Y.length) (by omega)]at h1
def dX (xs:List Nat):List Tr:=xs.map fun(n:Nat)=>.v (.int .i64 (n:Int))
def sI (o:Bool) (xs:List Nat):Tr:=.s o 3 1 xs.length (dX xs)
theorem gN (xs:List Nat):(dX xs).length=xs.length:=by simp[dX]
theorem fD (xs:List Nat){k:Nat}(h:k<xs.length):((dX xs).drop (k*1)).take [Tr.v (.int .i64 ((nth xs k:Nat):Int))].length=[Tr.v (.int .i64 ((nth xs k:Nat):Int))]:=by
 rw[Nat.mul_one]
 have:(dX xs)[k]? =some (Tr.v (.int .i64 ((nth xs k:Nat):Int))):=by simp[dX,eA h,h]
 rw[List.length_singleton,List.take_one]
 simp[this]
theorem gO (xs ys:List Nat):(dX xs).map AV.t++(dX ys).map .t=(dX (xs++ys)).map .t:=by simp[dX]
theorem Ji (xs ys:List Nat):(aV xs).map AV.t++(aV ys).map .t=(aV (xs++ys)).map .t:=by simp[aV]
theorem Up (xs:List Nat) (k:Nat):(dX xs).take (k*1)=dX (xs.take k):=by simp[dX,List.map_take]
theorem Qv {xs:List Nat}{m:Nat}(h:m≤xs.length):FV.one (.t (.s false 3 1 m ((dX xs).take (m*1))))=.one (.t (sI false (xs.take m))):=by
 rw[Up]
 unfold sI
 rw[List.length_take,Nat.min_eq_left h]
theorem IG (xs:List Nat):gA ((dX xs).map .t)=true:=by
 induction xs with
 | nil=>rfl
 | cons x xs ih=>simpa[dX,gA,oF]using ih
theorem Wf (xs:List Nat):eD ((dX xs).map .t)=true:=by
 induction xs with
 | nil=>rfl
 | cons x xs ih=>simpa[dX,eD,lone]using ih
theorem jX (a b:Nat):Int.tmod (a:Int) (b:Int)=((a%b:Nat):Int):=by
 rw[Int.tmod_eq_emod_of_nonneg (by omega)]
 rfl
theorem fK (a b:Nat):Int.tdiv (a:Int) (b:Int)=((a/b:Nat):Int):=by
 rw[Int.tdiv_eq_ediv_of_nonneg (by omega)]
 rfl
theorem gM {k:IntKind}{a:Nat}(b:Nat) (hb:b≠0) (h:gW k (a:Int)):(b:Int)≠0∧gW k (Int.tdiv (a:Int) (b:Int)):=by
 refine⟨by omega,?_⟩
 rw[fK]
 have:=Nat.div_le_self a b
 generalize a/b=c at this⊢
 cases k <;> simp only[gW]at h⊢ <;> omega
section
variable {x:Cx}{g:Nat→FV}{ob:List (Option Ob)}
theorem xM {i k n:Nat}{zs zs':List Nat}(hi:Nat.blt i x.n=true) (hg:g i=.one (.sl k 0 n)) (ho:bP ob k=some ⟨3,1,(dX zs).map .t⟩) (hn:n=zs.length) (he:zs=zs'):Sub x g ob (aW g i (.one (.t (sI false zs')))) (ob.set k none):=by
 subst he
 have:=fz hi hg ho (by rw[gN,hn,Nat.mul_one])
 rw[hn]at this
 exact this
theorem UO {i k n:Nat}{zs zs':List Nat}(hi:Nat.blt i x.n=true) (hg:g i=.one (.sl k 0 n)) (ho:bP ob k=some ⟨113,1,(aV zs).map .t⟩) (hn:n=zs.length) (he:zs=zs'):Sub x g ob (aW g i (.one (.t (sU false zs')))) (ob.set k none):=by
 subst he
 have:=fz hi hg ho (by rw[gP,hn,Nat.mul_one])
 rw[hn]at this
 exact this
theorem lO {τ:List Nat}{a:Option Ob}{xs ys:List Nat}{l:List AV}(h1:a=some ⟨3,1,l⟩) (h:l=(dX ys).map .t) (he:ys=xs):Aj τ a ⟨3,1,(dX xs).map .t⟩:=aK (by rw[h1,h,he])
theorem Qw {τ:List Nat}{a:Option Ob}{xs ys:List Nat}{l:List AV}(h1:a=some ⟨113,1,l⟩) (h:l=(aV ys).map .t) (he:ys=xs):Aj τ a ⟨113,1,(aV xs).map .t⟩:=aK (by rw[h1,h,he])
end
section
variable {l:List Nat}{k N:Nat}{z:Int}{xs:List Nat}{neg:Bool}
theorem Az (hr:dE neg xs=false):fA neg xs=0:=by simp[fA,hr]
theorem mF (h:xs.length=0):dE neg xs= !neg:=by
 rw[List.length_eq_zero_iff]at h
 subst h
 simp[dE]
theorem tU {n:Nat}(hn:xs.length=n) (h:0<n):dE neg xs=decide (((nth xs (n-1):Nat):Int)≠0):=by
 subst hn
 rcases xs with _ | ⟨x,l⟩
 ·simp at h
 simp only[dE,List.isEmpty_cons,Bool.false_and,Bool.not_false,Bool.true_and,Bool.false_or]
 by_cases h0:nth (x::l) ((x::l).length-1)=0
 ·rw[h0];rfl
 rw[bne_iff_ne.2 h0,decide_eq_true (by omega)]
theorem Nl (k:Int):bK (!(aH k)) k.natAbs=-k:=by
 unfold bK aH
 by_cases h:k<0 <;> simp[h] <;> omega
theorem Cp {xs ys:List Nat}(hx:Lim 4294967296 xs) (hy:Lim 4294967296 ys):(dg 4294967296 (vl 4294967296 xs+vl 4294967296 ys)).length≤xs.length+ys.length+1:=by
 refine cR (by omega) ?_
 have h1:=eQ hx
 have h2:=eQ hy
 have h3:4294967296^xs.length≤4294967296^(xs.length+ys.length):=Nat.pow_le_pow_right (by omega) (by omega)
 have h4:4294967296^ys.length≤4294967296^(xs.length+ys.length):=Nat.pow_le_pow_right (by omega) (by omega)
 rw[Nat.pow_succ]
 omega
theorem Nm {xs ys:List Nat}(hx:Lim 4294967296 xs):(dg 4294967296 (vl 4294967296 xs-vl 4294967296 ys)).length≤xs.length:=cR (by omega) (Nat.lt_of_le_of_lt (Nat.sub_le _ _) (eQ hx))
theorem GI {xs ys:List Nat}(hx:Lim 4294967296 xs) (hy:Lim 4294967296 ys):(dg 4294967296 (vl 4294967296 xs*vl 4294967296 ys)).length≤xs.length+ys.length:=by
 refine cR (by omega) ?_
 rw[Nat.pow_add]
 exact Nat.mul_lt_mul'' (eQ hx) (eQ hy)
theorem bG (k:Int):vl 4294967296 (dg 4294967296 k.natAbs)=k.natAbs:=cA (by omega) _
theorem iD {a b:Nat}(h:a≤b):(dg 4294967296 a).length≤(dg 4294967296 b).length:=cU (by omega) h
theorem tV (k k':Int):(dg 4294967296 (k+k').natAbs).length≤(dg 4294967296 k.natAbs).length+(dg 4294967296 k'.natAbs).length+1:=by
 have h:=Cp (aL (B:=4294967296) (by omega) k.natAbs) (aL (B:=4294967296) (by omega) k'.natAbs)
 rw[bG,bG]at h
 exact Nat.le_trans (iD (by omega)) h
theorem Jj (k k':Int):(dg 4294967296 (k-k').natAbs).length≤(dg 4294967296 k.natAbs).length+(dg 4294967296 k'.natAbs).length+1:=by
 have h:=tV k (-k')
 rw[Int.natAbs_neg]at h
 exact h
theorem pG (k k':Int):(dg 4294967296 (k*k').natAbs).length≤(dg 4294967296 k.natAbs).length+(dg 4294967296 k'.natAbs).length:=by
 rw[Int.natAbs_mul]
 have h:=GI (aL (B:=4294967296) (by omega) k.natAbs) (aL (B:=4294967296) (by omega) k'.natAbs)
 rwa[bG,bG]at h
theorem jO (k:Int):(dg 4294967296 (-(k)).natAbs).length=(dg 4294967296 k.natAbs).length:=by rw[Int.natAbs_neg]
theorem Zs {n:Int}(h1:-9223372036854775808≤n) (h2:n≤9223372036854775807):-4294967295≤Int.tmod n 4294967296∧Int.tmod n 4294967296≤4294967295∧-2147483648≤Int.tdiv n 4294967296∧Int.tdiv n 4294967296≤2147483648∧(Int.tmod n 4294967296).natAbs+4294967296*(Int.tdiv n 4294967296).natAbs=n.natAbs∧True:=by
 obtain⟨m,hm⟩:∃m:Nat,n.natAbs=m:=⟨_,rfl⟩
 rw[hm]
 rcases(show n=m∨n=-(m:Int) by omega)with h | h
 ·subst h
  have e1:Int.tmod (m:Int) 4294967296=((m%4294967296:Nat):Int):=by rw[Int.tmod_eq_emod_of_nonneg (by omega)];omega
  have e2:Int.tdiv (m:Int) 4294967296=((m/4294967296:Nat):Int):=by rw[Int.tdiv_eq_ediv_of_nonneg (by omega)];omega
  rw[e1,e2]
  exact⟨by omega,by omega,by omega,by omega,by rw[Int.natAbs_natCast,Int.natAbs_natCast];omega,trivial⟩
 subst h
 have e1:Int.tmod (-(m:Int)) 4294967296=-((m%4294967296:Nat):Int):=by rw[Int.neg_tmod,Int.tmod_eq_emod_of_nonneg (by omega)];omega
 have e2:Int.tdiv (-(m:Int)) 4294967296=-((m/4294967296:Nat):Int):=by rw[Int.neg_tdiv,Int.tdiv_eq_ediv_of_nonneg (by omega)];omega
 rw[e1,e2]
 exact⟨by omega,by omega,by omega,by omega,by rw[Int.natAbs_neg,Int.natAbs_neg,Int.natAbs_natCast,Int.natAbs_natCast];omega,trivial⟩
theorem MQ {n:Int}{a b:Nat}(h:a+4294967296*b=n.natAbs):bK (decide (n<0)) (vl 4294967296 [a,b])=n:=by
 have e:vl 4294967296 [a,b]=n.natAbs:=by simp[vl];omega
 rw[e]
 exact Jc n
theorem Ed {k k':Int}{s:Bool}(h:s=aH k) (h':aH k=aH k'):bK s (k.natAbs+k'.natAbs)=k+k':=by
 subst h
 unfold aH at*
 unfold bK
 by_cases h1:k<0 <;> by_cases h2:k'<0 <;> simp[h1,h2]at h'⊢ <;> omega
theorem Nn {k k':Int}{s:Bool}(h:s=aH k) (h':aH k≠aH k') (hl:¬k.natAbs<k'.natAbs):bK s (k.natAbs-k'.natAbs)=k+k':=by
 subst h
 unfold aH at*
 unfold bK
 by_cases h1:k<0 <;> by_cases h2:k'<0 <;> simp[h1,h2]at h'⊢ <;> omega
theorem No {k k':Int}{s:Bool}(h:s=aH k') (h':aH k≠aH k') (hl:k.natAbs<k'.natAbs):bK s (k'.natAbs-k.natAbs)=k+k':=by
 subst h
 unfold aH at*
 unfold bK
 by_cases h1:k<0 <;> by_cases h2:k'<0 <;> simp[h1,h2]at h'⊢ <;> omega
theorem Oi {X os:List Nat}{k q:Nat}{a:Nat}(hk:0<k) (hkx:k≤X.length) (hos:os.length=X.length){v r:Nat}(h:vl 65536 (X.drop k)=v*vl 65536 (os.drop k)+r) (ha:a=nth X (k-1)) (hq:q=(a+65536*r)/v):
  vl 65536 (X.drop (k-1))=v*vl 65536 ((os.set (k-1) q).drop (k-1))+(a+65536*r-q*v):=by
 obtain⟨j,rfl⟩:∃j,k=j+1:=⟨k-1,by omega⟩
 simp only[Nat.add_sub_cancel]at*
 have e1:X.drop j=nth X j::X.drop (j+1):=by rw[List.drop_eq_getElem_cons (by omega),eA (by omega)]
 have e2:(os.set j q).drop j=q::os.drop (j+1):=by
  rw[List.drop_eq_getElem_cons (by rw[List.length_set];omega),List.getElem_set_self,List.drop_set_of_lt (by omega)]
 have h2:q*v≤a+65536*r:=by rw[hq];exact Nat.div_mul_le_self _ _
 rw[e1,e2,fO,fO,h,Nat.mul_add,Nat.mul_add,Nat.mul_comm v q,Nat.mul_left_comm v 65536,←ha]
 omega
theorem Fv {xs ys:List Nat}(hx:Lim 65536 xs) (hy:Lim 65536 ys):(dg 65536 (vl 65536 xs*vl 65536 ys)).length≤xs.length+ys.length:=by
 refine cR (by omega) ?_
 rw[Nat.pow_add]
 exact Nat.mul_lt_mul'' (eQ hx) (eQ hy)
theorem Wb {u v n m:Nat}(hn:(dg 65536 u).length=n) (hm:(dg 65536 v).length=m) (h:n≠m):decide ((n:Int)<(m:Int))=decide (u<v):=by
 have e1:=cA (B:=65536) (by omega) u
 have e2:=cA (B:=65536) (by omega) v
 rcases Nat.lt_or_gt_of_ne h with h1 | h1
 ·have h2:=hJ (B:=65536) (a:=dg 65536 u) (b:=dg 65536 v) (by omega) (aL (by omega) u) (qZ (by omega) v) (by omega)
  rw[decide_eq_true (by omega),decide_eq_true (by omega)]
 have h2:=hJ (B:=65536) (a:=dg 65536 v) (b:=dg 65536 u) (by omega) (aL (by omega) v) (qZ (by omega) u) (by omega)
 rw[decide_eq_false (by omega),decide_eq_false (by omega)]
theorem DG {u v k:Nat}(hag:∀j,k+1≤j→nth (dg 65536 u) j=nth (dg 65536 v) j) (h:nth (dg 65536 u) k≠nth (dg 65536 v) k):decide (((nth (dg 65536 u) k:Nat):Int)<((nth (dg 65536 v) k:Nat):Int))=decide (u<v):=by
 have e1:=cA (B:=65536) (by omega) u
 have e2:=cA (B:=65536) (by omega) v
 rcases Nat.lt_or_gt_of_ne h with h1 | h1
 ·have h2:=Ff (aL (by omega) u) hag h1
  rw[decide_eq_true (by omega),decide_eq_true (by omega)]
 have h2:=Ff (aL (by omega) v) (fun j hj=>(hag j hj).symm) h1
 rw[decide_eq_false (by omega),decide_eq_false (by omega)]
theorem qA {X Y os:List Nat}{n k br br' d:Nat}(hl:os.length=k) (h:vl 65536 os+n*vl 65536 (Y.take k)=vl 65536 (X.take k)+65536^k*br) (hd:d+n*nth Y k+br=nth X k+65536*br'):
  vl 65536 (os++[d])+n*vl 65536 (Y.take (k+1))=vl 65536 (X.take (k+1))+65536^(k+1)*br':=by
 rw[lD,bI,bI,hl,Nat.pow_succ,Nat.mul_assoc,Nat.mul_add,Nat.mul_left_comm n]
 have h3:65536^k*(d+n*nth Y k+br)=65536^k*(nth X k+65536*br'):=by rw[hd]
 rw[Nat.mul_add,Nat.mul_add,Nat.mul_add]at h3
 omega
theorem Wc {u v n k br ln:Nat}{os:List Nat}(hx:(dg 65536 u).length=ln) (hk:os.length=ln) (hol:Lim 65536 os) (h:vl 65536 os+n*vl 65536 ((dg 65536 v).take k)=vl 65536 ((dg 65536 u).take k)+65536^k*br) (hnv:n*v≤u) (hkk:k=ln:=by omega):vl 65536 os=u-n*v:=by
 have h1:=eQ hol
 rw[bL 65536 (l:=dg 65536 u) (by omega),cA (by omega)]at h
 have h2:n*vl 65536 ((dg 65536 v).take k)=n*v:=by
  rcases Nat.eq_zero_or_pos n with h0 | h0
  ·rw[h0,Nat.zero_mul,Nat.zero_mul]
  have h3:v≤u:=Nat.le_trans (Nat.le_mul_of_pos_left v h0) hnv
  have h4:=cU (B:=65536) (by omega) h3
  rw[bL 65536 (l:=dg 65536 v) (by omega),cA (by omega)]
 rw[h2]at h
 rcases Nat.eq_zero_or_pos br with h0 | h0
 ·rw[h0,Nat.mul_zero]at h
  omega
 have h5:65536^k*1≤65536^k*br:=Nat.mul_le_mul_left _ h0
 rw[hk,←hkk]at h1
 omega
theorem Qz {u v lo hi:Nat}(h1:lo*v≤u) (h2:u<hi*v) (h:hi=lo+1):u/v=lo:=by
 subst h
 have hv:0<v:=by
  rcases Nat.eq_zero_or_pos v with h0 | h0
  ·subst h0;simp at h2
  exact h0
 exact(Nat.div_eq_iff hv).2 (by rw[Nat.add_mul]at h2;omega)
theorem uS {a r:Nat}(ha:a<65536):trim ([a]++dg 65536 r)=dg 65536 (a+65536*r):=
 Eo (by omega) (Lim.cons ha (aL (by omega) r)) (by show a+65536*vl 65536 (dg 65536 r)=_;rw[cA (by omega)])
theorem We {a r v:Nat}(ha:a<65536) (hr:r<v):(dg 65536 (a+65536*r)).length≤(dg 65536 v).length+1:=by
 rw[←uS ha]
 refine Nat.le_trans (cQ _) ?_
 have:=cU (B:=65536) (by omega) (Nat.le_of_lt hr)
 simp only[List.length_append,List.length_cons,List.length_nil]
 omega
theorem Fx {l:List Nat}{j v:Nat}(h:j<l.length):nth (l.set j v) j=v:=by simp[nth,h]
theorem Rb {u v r q:Nat}(h:u=v*q+r) (hr:r<v):q=u/v∧r=u%v:=by
 subst h
 rw[Nat.mul_add_div (by omega),Nat.div_eq_of_lt hr,Nat.mul_add_mod,Nat.mod_eq_of_lt hr]
 exact⟨rfl,rfl⟩
theorem GJ {x y:Int}(hx:x.sign≠0) (h:x.sign≠y.sign) (hy:y≠0):(x<0∧0<y)∨(0<x∧y<0):=by
 rcases Int.lt_trichotomy x 0 with h1 | h1 | h1
 ·rcases Int.lt_trichotomy y 0 with h2 | h2 | h2
  ·rw[Int.sign_eq_neg_one_of_neg h1,Int.sign_eq_neg_one_of_neg h2]at h;exact absurd rfl h
  ·exact absurd h2 hy
  exact .inl ⟨h1,h2⟩
 ·rw[h1]at hx;exact absurd rfl hx
 rcases Int.lt_trichotomy y 0 with h2 | h2 | h2
 ·exact .inr ⟨h1,h2⟩
 ·exact absurd h2 hy
 rw[Int.sign_eq_one_of_pos h1,Int.sign_eq_one_of_pos h2]at h;exact absurd rfl h
theorem GK {x y:Int}(h:x.sign=0∨x.sign=y.sign) (hy:y≠0):x=0∨(x<0∧y<0)∨(0<x∧0<y):=by
 rcases Int.lt_trichotomy x 0 with h1 | h1 | h1
 ·rw[Int.sign_eq_neg_one_of_neg h1]at h
  rcases Int.lt_trichotomy y 0 with h2 | h2 | h2
  ·exact .inr (.inl ⟨h1,h2⟩)
  ·exact absurd h2 hy
  rw[Int.sign_eq_one_of_pos h2]at h;omega
 ·exact .inl h1
 rw[Int.sign_eq_one_of_pos h1]at h
 rcases Int.lt_trichotomy y 0 with h2 | h2 | h2
 ·rw[Int.sign_eq_neg_one_of_neg h2]at h;omega
 ·exact absurd h2 hy
 exact .inr (.inr ⟨h1,h2⟩)
theorem CG {a b:Int}(h0:b≠0):bK (aH a) (a.natAbs%b.natAbs)+b*bK (aH a != aH b) (a.natAbs/b.natAbs)=a∧(bK (aH a) (a.natAbs%b.natAbs)).natAbs<b.natAbs:=by
 have e:=Nat.div_add_mod a.natAbs b.natAbs
 have l:=Nat.mod_lt a.natAbs (show 0<b.natAbs by omega)
 refine⟨?_,by rw[iM];exact l⟩
 generalize a.natAbs/b.natAbs=q at*
 generalize a.natAbs%b.natAbs=r at*
 have e2:(b.natAbs:Int)*q+r=a.natAbs:=by exact_mod_cast e
 by_cases hb:b<0 <;> by_cases ha:a<0
 ·rw[show(b.natAbs:Int)=-b by omega,show(a.natAbs:Int)=-a by omega,Int.neg_mul]at e2
  simp[bK,aH,hb,ha];omega
 ·rw[show(b.natAbs:Int)=-b by omega,show(a.natAbs:Int)=a by omega,Int.neg_mul]at e2
  simp[bK,aH,hb,ha,Int.mul_neg];omega
 ·rw[show(b.natAbs:Int)=b by omega,show(a.natAbs:Int)=-a by omega]at e2
  simp[bK,aH,hb,ha,Int.mul_neg];omega
 rw[show(b.natAbs:Int)=b by omega,show(a.natAbs:Int)=a by omega]at e2
 simp[bK,aH,hb,ha];omega
theorem DI {a b r q:Int}(h0:b≠0) (hr:r=bK (aH a) (a.natAbs%b.natAbs)) (hq:q=bK (aH a != aH b) (a.natAbs/b.natAbs)) (h1:r.sign≠0) (h2:r.sign≠b.sign):q-1=a.fdiv b∧r+b=a.fmod b:=by
 obtain⟨h3,h4⟩:=CG (a:=a) h0
 rw[←hr]at h3 h4
 rw[←hq]at h3
 have h5:=GJ h1 h2 h0
 have h6:=Ea (a:=a) (b:=b) (q:=q-1) (r:=r+b) h0 (by rw[Int.mul_sub,Int.mul_one];omega) (by omega) (by omega)
 exact⟨h6.1.symm,h6.2.symm⟩
theorem Kx {a b r q:Int}(h0:b≠0) (hr:r=bK (aH a) (a.natAbs%b.natAbs)) (hq:q=bK (aH a != aH b) (a.natAbs/b.natAbs)) (h:r.sign=0∨r.sign=b.sign):q=a.fdiv b∧r=a.fmod b:=by
 obtain⟨h3,h4⟩:=CG (a:=a) h0
 rw[←hr]at h3 h4
 rw[←hq]at h3
 have h5:=GK h h0
 have h6:=Ea (a:=a) (b:=b) (q:=q) (r:=r) h0 h3 (by omega) (by omega)
 exact⟨h6.1.symm,h6.2.symm⟩
theorem Kc {k:Int}(h:(dg 4294967296 k.natAbs).length=0):k.natAbs=0:=(fL (by omega)).1 (List.length_eq_zero_iff.1 h)
theorem Rf {k:Int}(h:(dg 4294967296 k.natAbs).length≠0):k≠0:=by
 intro h0
 subst h0
 exact h (by rw[show Int.natAbs 0=0 from rfl,mK];rfl)
def jL (l:List Nat) (k N:Nat):List Nat:=lb (l.take k)++List.replicate (N-(k+1)/2) 0
theorem Vy:jL l 0 N=List.replicate N 0:=by simp[jL,lb]
theorem DD (hN:N=(l.length+1)/2) (h:l.length≤k):jL l k N=lb l:=by
 unfold jL
 rw[List.take_of_length_le h,show N-(k+1)/2=0 by omega]
 simp
theorem DB (hN:N=(l.length+1)/2) (hk:k≤l.length):(jL l k N).length=N:=by
 unfold jL
 rw[List.length_append,List.length_replicate,iC,List.length_take,Nat.min_eq_left hk]
 omega
theorem xK:∀{l:List Nat}{j:Nat},2*j<l.length→lb (l.take (2*j+1))=lb (l.take (2*j))++[nth l (2*j)]
 | [],_,h=>by simp at h
 | [a],0,_=>by simp[lb,nth]
 | [a],j+1,h=>by simp at h
 | a::b::l,0,_=>by simp[lb,nth]
 | a::b::l,j+1,h=>by
  have ih:=xK (l:=l) (j:=j) (by simp at h;omega)
  have e2:2*(j+1)=2*j+1+1:=by omega
  rw[e2,List.take_succ_cons,List.take_succ_cons,List.take_succ_cons,List.take_succ_cons]
  simp only[lb,List.cons_append]
  rw[ih]
  simp[nth]
theorem Np {α:Type}(A R:List α) (x y:α){j:Nat}(h:A.length=j):(A++x::R).set j y=A++y::R:=by
 subst h
 rw[List.set_append_right _ _ (Nat.le_refl _),Nat.sub_self]
 rfl
theorem GL (A R:List Nat) (x:Nat){j:Nat}(h:A.length=j):nth (A++x::R) j=x:=by
 subst h
 simp[nth]
theorem Vz (hN:N=(l.length+1)/2) (hk:k<l.length) (he:k%2=0):(jL l k N).set (k/2) (nth l k)=jL l (k+1) N:=by
 obtain⟨j,rfl⟩:∃j,k=2*j:=⟨k/2,by omega⟩
 have hA:(lb (l.take (2*j))).length=j:=by rw[iC,List.length_take,Nat.min_eq_left (by omega)];omega
 unfold jL
 rw[show 2*j/2=j by omega,show N-(2*j+1)/2=(N-(2*j+1+1)/2)+1 by omega,List.replicate_succ,Np _ _ _ _ hA,xK hk,List.append_assoc]
 rfl
theorem xN (hN:N=(l.length+1)/2) (hk:k<l.length) (ho:k%2=1):nth (jL l k N) (k/2)=nth l (k-1):=by
 obtain⟨j,rfl⟩:∃j,k=2*j+1:=⟨k/2,by omega⟩
 have hA:(lb (l.take (2*j))).length=j:=by rw[iC,List.length_take,Nat.min_eq_left (by omega)];omega
 unfold jL
 rw[show(2*j+1)/2=j by omega,xK (by omega),List.append_assoc]
 exact GL _ _ _ hA
theorem DC (hN:N=(l.length+1)/2) (hk:k<l.length) (ho:k%2=1):(jL l k N).set (k/2) (nth (jL l k N) (k/2)+65536*nth l k)=jL l (k+1) N:=by
 rw[xN hN hk ho]
 obtain⟨j,rfl⟩:∃j,k=2*j+1:=⟨k/2,by omega⟩
 have hA:(lb (l.take (2*j))).length=j:=by rw[iC,List.length_take,Nat.min_eq_left (by omega)];omega
 unfold jL
 rw[show(2*j+1)/2=j by omega,xK (by omega),List.append_assoc,show 2*j+1+1=2*(j+1) by omega,xJ (by omega),List.append_assoc,show 2*j+1-1=2*j by omega]
 rw[show N-(2*(j+1))/2=N-(2*(j+1)+1)/2 by omega]
 exact Np _ _ _ _ hA
theorem MR {l:List Nat}{j v:Nat}:j<l.length→vl 65536 (l.set j v)+65536^j*nth l j=vl 65536 l+65536^j*v:=by
 induction l generalizing j with
 | nil=>intro h;simp at h
 | cons x l ih=>
  intro h
  rcases j with _ | j
  ·simp[nth,fO];omega
  have:=ih (j:=j) (by simpa using h)
  simp only[List.set_cons_succ,fO]
  rw[Nat.pow_succ,show nth (x::l) (j+1)=nth l j by simp[nth],Nat.mul_comm (65536^j) 65536,Nat.mul_assoc,Nat.mul_assoc]
  omega
theorem oI {os a b:List Nat}{i k cr x:Nat}(hj:i+k<os.length) (h:vl 65536 os+65536^(i+k)*cr=vl 65536 (a.take i)*vl 65536 b+65536^i*(nth a i*vl 65536 (b.take k))) (hx:x=nth os (i+k)+cr+nth a i*nth b k):
  vl 65536 (os.set (i+k) (x%65536))+65536^(i+(k+1))*(x/65536)=vl 65536 (a.take i)*vl 65536 b+65536^i*(nth a i*vl 65536 (b.take (k+1))):=by
 have h1:=MR (v:=x%65536) hj
 have h2:=Nat.mod_add_div x 65536
 have h3:65536^(i+k)*x=65536^(i+k)*(x%65536)+65536^(i+k)*(65536*(x/65536)):=by rw[←Nat.mul_add,h2]
 have h4:65536^(i+k)*x=65536^(i+k)*nth os (i+k)+65536^(i+k)*cr+65536^(i+k)*(nth a i*nth b k):=by rw[hx,Nat.mul_add,Nat.mul_add]
 rw[bI,Nat.mul_add,Nat.mul_add,show i+(k+1)=i+k+1 by omega,Nat.pow_succ,Nat.mul_assoc]
 have h5:65536^i*(nth a i*(65536^k*nth b k))=65536^(i+k)*(nth a i*nth b k):=by
  rw[Nat.pow_add,Nat.mul_left_comm (nth a i),Nat.mul_assoc]
 omega
theorem zH {a b:List Nat}{i k:Nat}(hk:b.length≤k):vl 65536 (a.take i)*vl 65536 b+65536^i*(nth a i*vl 65536 (b.take k))=vl 65536 (a.take (i+1))*vl 65536 b:=by
 rw[bL 65536 hk,bI,Nat.add_mul,Nat.mul_assoc]
theorem Ft {os a b:List Nat}{i k cr:Nat}(ha:Lim 65536 a) (hb:Lim 65536 b) (hi:i<a.length) (hk:k≤b.length+1) (h:vl 65536 os+65536^(i+k)*cr=vl 65536 (a.take i)*vl 65536 b+65536^i*(nth a i*vl 65536 (b.take k))) (hc:0<cr):k≤b.length:=by
 rcases Nat.lt_or_ge b.length k with h1 | h1
 ·exfalso
  rw[zH (by omega)]at h
  have h2:=eQ (ha.take (i+1))
  have h3:=eQ hb
  have h4:vl 65536 (a.take (i+1))*vl 65536 b<65536^(a.take (i+1)).length*65536^b.length:=Nat.mul_lt_mul'' h2 h3
  rw[←Nat.pow_add,List.length_take,Nat.min_eq_left (by omega),show i+1+b.length=i+k by omega]at h4
  have h5:65536^(i+k)*1≤65536^(i+k)*cr:=Nat.mul_le_mul_left _ hc
  omega
 exact h1
end
theorem GM {k k':Int}(h:aH k=true) (h':aH k'=false):(-1:Int)=(k-k').sign:=by
 unfold aH at h h'
 simp at h h'
 rw[Int.sign_eq_neg_one_of_neg (by omega)]
theorem GN {k k':Int}(h:aH k=false) (h':aH k'=true):(1:Int)=(k-k').sign:=by
 unfold aH at h h'
 simp at h h'
 rw[Int.sign_eq_one_of_pos (by omega)]
theorem GO {k k':Int}(h:aH k=true) (h':aH k'=true):(((k'.natAbs:Nat):Int)-((k.natAbs:Nat):Int)).sign=(k-k').sign:=by
 unfold aH at h h'
 simp at h h'
 rw[show((k'.natAbs:Nat):Int)-((k.natAbs:Nat):Int)=k-k' by omega]
theorem GP {k k':Int}(h:aH k=false) (h':aH k'=false):(((k.natAbs:Nat):Int)-((k'.natAbs:Nat):Int)).sign=(k-k').sign:=by
 unfold aH at h h'
 simp at h h'
 rw[show((k.natAbs:Nat):Int)-((k'.natAbs:Nat):Int)=k-k' by omega]
theorem pC (v:Nat):(dg 4294967296 v).length≤(dg 65536 v).length:=by
 rw[←zI,iC]
 omega
theorem Fu (xs:List Nat){k:Nat}(h:k<xs.length):((dX xs).map AV.t)[0+k*1]? =some (tv (.int .i64 ((nth xs k:Nat):Int))):=by simp[dX,eA h,h,tv]
theorem IF (xs:List Nat){k:Nat}(h:k<xs.length):((aV xs).map AV.t)[0+k*1]? =some (tv (.int .u32 ((nth xs k:Nat):Int))):=by simp[aV,eA h,h,tv]
theorem rC (xs:List Nat){k v:Nat}(h:k<xs.length):dJ ((dX xs).map AV.t) (0+k*1) [tv (.int .i64 (v:Int))]=(dX (xs.set k v)).map .t:=by
 rw[Nat.zero_add,Nat.mul_one,List.set_eq_take_append_cons_drop,if_pos h]
 simp[dJ,dX,tv,List.map_take,List.map_drop]
theorem Kv (xs:List Nat){k v:Nat}(h:k<xs.length):dJ ((aV xs).map AV.t) (0+k*1) [tv (.int .u32 (v:Int))]=(aV (xs.set k v)).map .t:=by
 rw[Nat.zero_add,Nat.mul_one,List.set_eq_take_append_cons_drop,if_pos h]
 simp[dJ,aV,tv,List.map_take,List.map_drop]
theorem uR (xs:List Nat){k:Nat}{a:AV}(h:k<xs.length):0+k*1+[a].length≤((dX xs).map AV.t).length:=by simp[dX];omega
theorem Qx (xs:List Nat){k:Nat}{a:AV}(h:k<xs.length):0+k*1+[a].length≤((aV xs).map AV.t).length:=by simp[aV];omega
theorem Fs (m:Nat):(List.replicate m (Value.int .i64 0)).map tv=(dX (List.replicate m 0)).map .t:=by simp[dX,tv]
theorem Vx (m:Nat):(List.replicate m (Value.int .u32 0)).map tv=(aV (List.replicate m 0)).map .t:=by simp[aV,tv]
structure Zi where
 s:Bool
 x:List Nat
def Zi.of (k:Int):Zi:=⟨aH k,dg 4294967296 k.natAbs⟩
def gF (a:Zi):FV:=.agg (([.v (.bool a.s),sU false a.x]:List Tr).map .t)
def kF (k:Int):FV:=.agg (([.v (.bool (aH k)),sU false (dg 4294967296 k.natAbs)]:List Tr).map .t)
def kO (k:Int):FV:=.agg (([.v (.bool (aH k)),sU true (dg 4294967296 k.natAbs)]:List Tr).map .t)
def Zn (a:Zi) (k:Int):Prop:=Lim 4294967296 a.x∧a.x.length≤137438953472∧fA a.s a.x=k
theorem Zn.of {k:Int}(h:(dg 4294967296 k.natAbs).length≤137438953472):Zn (.of k) k:=⟨aL (by omega) _,h,vT k⟩
theorem UP:Zn ⟨false,[]⟩ 0:=⟨Lim.nil,by simp,rfl⟩
theorem Zn.len {a:Zi}{k:Int}(h:Zn a k):(dg 4294967296 k.natAbs).length≤137438953472:=by
 obtain⟨h1,h2,rfl⟩:=h
 exact Nat.le_trans (xG h1) h2
theorem Zn.right {a:Zi}{k:Int}(h:Zn a k) (hr:dE a.s a.x=true):aH k=a.s∧dg 4294967296 k.natAbs=a.x:=by
 obtain⟨h1,h2,rfl⟩:=h
 exact⟨xF h1 hr,oX h1 hr⟩
theorem Zn.wrong {a:Zi}{k:Int}(h:Zn a k) (hr:dE a.s a.x=false):k=0:=by
 obtain⟨h1,h2,rfl⟩:=h
 exact Az hr
theorem Zt {a:Zi}{k:Int}(h:Zn a k) (hr:dE a.s a.x=true):gF a=kF k:=by
 obtain⟨h1,h2⟩:=h.right hr
 unfold gF kF
 rw[h1,h2]
theorem tW {b:Bool}{m:Nat}{k:Int}(h:b=aH k) (hm:m=k.natAbs):FV.agg [tv (.bool b),.t (sU true (dg 4294967296 m))]=kO k:=by subst h hm;rfl
theorem Bj:FV.agg [tv (.bool false),.t (sU false [])]=kF 0:=by
 unfold kF
 rw[show Int.natAbs 0=0 from rfl,mK]
 rfl
theorem eM (k:Int):jB (kO k):=by
 simp only[jB,kO,nT,List.map_cons,List.map_nil,jT,qN,sU,lB]
 exact⟨trivial,.inl ⟨trivial,eP _⟩,trivial⟩
theorem Cq (b:Bool) (m:Nat):jB (.agg (([.v (.bool b),sU true (dg 4294967296 m)]:List Tr).map .t)):=by
 simp only[jB,nT,List.map_cons,List.map_nil,jT,qN,sU,lB]
 exact⟨trivial,.inl ⟨trivial,eP _⟩,trivial⟩
def Qn (a:Fr4) (p:Rat):Prop:=a.ok∧a.q=p
section
variable {a:Fr4}{p q:Rat}{k k':Int}{L M:Nat}
theorem MS (h:Qn a p):Zn ⟨a.s,a.x⟩ (fA a.s a.x):=⟨h.1.1,by have:=h.1.2.2.1;dsimp only;omega,rfl⟩
theorem Qd (h:Qn a p):Zn ⟨a.t,a.y⟩ (fA a.t a.y):=⟨h.1.2.1,by have:=h.1.2.2.2;dsimp only;omega,rfl⟩
theorem Rr (h:Sz L p) (hL:L≤137438953472:=by omega):Zn (.of p.num) p.num:=.of (Nat.le_trans h.1 hL)
theorem Rs (h:Sz L p) (hL:L≤137438953472:=by omega):Zn ⟨false,dg 4294967296 p.den⟩ (p.den:Int):=⟨aL (by omega) _,Nat.le_trans h.2 hL,xI p.den⟩
theorem Qn.sz (h:Qn a p):Sz 68719476736 p:=by
 obtain⟨⟨h1,h2,h3,h4⟩,rfl⟩:=h
 exact MK h1 h2 h3 h4 (by omega)
theorem Qn.of (h:Sz L p) (hL:L≤68719476736:=by omega):Qn (.of p) p:=⟨⟨aL (by omega) _,aL (by omega) _,Nat.le_trans h.1 hL,Nat.le_trans h.2 hL⟩,Fr4.q_of p⟩
theorem Qn.right (h:Qn a p) (hr:bM a.s a.x a.t a.y=true):Fr4.of p=a:=by
 obtain⟨⟨l1,l2,_,_⟩,rfl⟩:=h
 obtain⟨h1,h2,h3,h4⟩:=vV hr
 have e1:=Ni hr
 have e2:=Nj hr
 have e3:=xF l1 h1
 have e4:=oX l1 h1
 have e5:=xF l2 h2
 have e6:=oX l2 h2
 rw[←e1]at e3 e4
 rw[←e2]at e5 e6
 rw[xH]at e5
 rw[Int.natAbs_natCast]at e6
 unfold Fr4.of Fr4.q
 rw[e3,e4,e5,e6]
theorem Qn.wrong (h:Qn a p) (hr:bM a.s a.x a.t a.y=false):p=0:=by
 obtain⟨_,rfl⟩:=h
 exact Eb hr
theorem Bn (hn:q.num=k) (hd:(q.den:Int)=k'):FV.agg [tv (.bool (aH k)),.t (sU false (dg 4294967296 k.natAbs)),tv (.bool (aH k')),.t (sU false (dg 4294967296 k'.natAbs))]=qF (.of q):=by
 subst hn hd
 have e:aH (q.den:Int)=false:=by unfold aH;exact decide_eq_false (by omega)
 rw[e]
 rfl
theorem Li (h0:k'≠0):(dg 4294967296 (((Int.gcd k k':Nat):Int)).natAbs).length≤(dg 4294967296 k'.natAbs).length:=by
 rw[Int.natAbs_natCast]
 exact iD (Nat.le_of_dvd (by omega) (Int.gcd_dvd_natAbs_right k k'))
theorem vD {n:Int}(h1:-9223372036854775808≤n) (h2:n≤9223372036854775807):(dg 4294967296 n.natAbs).length≤2:=cR (by omega) (by omega)
theorem Gs {a b:Int}(h0:b≠0):(0<b→(Rat.divInt a b).num=a.fdiv (Int.gcd a b)∧((Rat.divInt a b).den:Int)=b.fdiv (Int.gcd a b))∧(b<0→(Rat.divInt a b).num=(-a).fdiv (Int.gcd (-a) (-b))∧((Rat.divInt a b).den:Int)=(-b).fdiv (Int.gcd (-a) (-b))):=by
 refine⟨fun h=>mZ h,fun h=>?_⟩
 rw[←Rat.neg_divInt_neg]
 exact mZ (by omega)
theorem zO {a b:Int}(h:b≠0):((Int.gcd a b:Nat):Int)≠0:=by
 have:=Int.gcd_pos_of_ne_zero_right a h
 omega
end
theorem xL {α:Type}{f:α→List Tr}{z:Nat}(hf:∀x,(f x).length=z):∀{xs:List α}{k:Nat}{x:α},xs[k]? =some x→((xs.flatMap f).drop (k*z)).take z=f x
 | [],_,_,h=>by simp at h
 | y::xs,0,x,h=>by
  simp at h
  subst h
  rw[Nat.zero_mul,List.drop_zero,List.flatMap_cons,List.take_append_of_le_length (by rw[hf];exact Nat.le_refl _),List.take_of_length_le (by rw[hf];exact Nat.le_refl _)]
 | y::xs,k+1,x,h=>by
  rw[List.getElem?_cons_succ]at h
  have e:(f y++xs.flatMap f).drop z=xs.flatMap f:=by rw[←hf y];simp
  rw[List.flatMap_cons,Nat.succ_mul,Nat.add_comm,←List.drop_drop,e]
  exact xL hf h
theorem cG {α:Type}{f:α→List Tr}{z:Nat}(hf:∀x,(f x).length=z):∀(xs:List α),(xs.flatMap f).length=xs.length*z
 | []=>by simp
 | y::xs=>by rw[List.flatMap_cons,List.length_append,hf,cG hf xs,List.length_cons,Nat.succ_mul,Nat.add_comm]
theorem Jk {α:Type}{f:α→List Tr}{z o m:Nat}(hf:∀x,(f x).length=z){xs:List α}{k:Nat}{x:α}(h:xs[k]? =some x) (hm:o+m≤z):((xs.flatMap f).drop (k*z+o)).take m=((f x).drop o).take m:=by
 have e:=xL hf h
 rw[←List.drop_drop,←e,List.drop_take,List.take_take,Nat.min_eq_left (by omega)]
section
variable {α:Type}{f:α→List Tr}{z:Nat}{xs:List α}{k o:Nat}{x x' y:α}{us:List Tr}
theorem bV (hf:∀x,(f x).length=z) (h:xs[k]? =some x) (hm:o+us.length≤z) (hu:((f x).drop o).take us.length=us):((xs.flatMap f).drop (k*z+o)).take us.length=us:=by
 rw[Jk hf h hm]
 exact hu
theorem cE (hf:∀x,(f x).length=z) (h:xs[k]? =some x) (hm:o+us.length≤z) (hu:((f x).drop o).take us.length=us):(((xs.flatMap f).map AV.t).drop (0+k*z+o)).take (us.map AV.t).length=us.map .t:=by
 rw[←List.map_drop,←List.map_take,Nat.zero_add,List.length_map,bV hf h hm hu]
end
def Wg:Fr4:=⟨false,[],false,[]⟩
def dY (xs:List Fr4) (k:Nat):Fr4:=xs.getD k Wg
theorem sM {xs:List Fr4}{k:Nat}(h:k<xs.length):xs[k]? =some (dY xs k):=by simp[dY,h]
theorem pE {xs:List Fr4}{k:Nat}(h:k<xs.length):dY xs k∈xs:=List.mem_of_getElem? (sM h)
def sQ (o:Bool) (xs:List Fr4):Tr:=.s o 52 4 xs.length (xs.flatMap (Fr4.tr o))
theorem rE (xs:List Fr4){k:Nat}(h:k<xs.length):((xs.flatMap (Fr4.tr false)).drop (k*4)).take ((dY xs k).tr false).length=(dY xs k).tr false:=xL (f:=Fr4.tr false) (fun _=>rfl) (sM h)
section
variable {xs:List Fr4}{k:Nat}
theorem Rx (h:k<xs.length):(xs.take (k+1)).map Fr4.q=(xs.take k).map Fr4.q++[(dY xs k).q]:=by rw[List.take_add_one,sM h];simp
end
def cD (o:Bool) (x:Int×Rat):List Tr:=.v (.int .i64 x.1)::(Fr4.of x.2).tr o
def aI (vs:List (Int×Rat)) (k:Nat):Int×Rat:=vs.getD k (0,0)
section
variable {vs:List (Int×Rat)}{k:Nat}
theorem tX (h:k<vs.length):vs[k]? =some (aI vs k):=by simp[aI,h]
theorem mR (h:k<vs.length):aI vs k∈vs:=List.mem_of_getElem? (tX h)
theorem kN (h:k<vs.length):vs.take (k+1)=vs.take k++[aI vs k]:=by rw[List.take_add_one,tX h];rfl
theorem rF (o:Bool) (h:k<vs.length):((vs.flatMap (cD o)).drop (k*5)).take (cD o (aI vs k)).length=cD o (aI vs k):=xL (f:=cD o) (fun _=>rfl) (tX h)
theorem QK (o:Bool) (h:k<vs.length):((vs.flatMap (cD o)).drop (k*5+1)).take ((Fr4.of (aI vs k).2).tr o).length=(Fr4.of (aI vs k).2).tr o:=Jk (f:=cD o) (o:=1) (m:=4) (fun _=>rfl) (tX h) (by omega)
def sV (t:Nat) (o:Bool) (vs:List (Int×Rat)):Tr:=.s o t 5 vs.length (vs.flatMap (cD o))
theorem bH (o:Bool) (vs:List (Int×Rat)):(vs.flatMap (cD o)).length=vs.length*5:=cG (f:=cD o) (z:=5) (fun _=>rfl) vs
end
def mS (l:List Rat):Rat:=l.foldl (· + ·) 0
theorem Uq (l:List Rat) (q:Rat):mS (l++[q])=mS l+q:=by simp[mS]
theorem RI (vs:List (Int×Rat)):gA ((vs.flatMap (cD false)).map .t)=true:=by
 induction vs with
 | nil=>rfl
 | cons x vs ih=>simpa[cD,Fr4.tr,sU,gA,oF]using ih
theorem JC (vs:List (Int×Rat)):eD ((vs.flatMap (cD false)).map .t)=true:=by
 induction vs with
 | nil=>rfl
 | cons x vs ih=>simpa[cD,Fr4.tr,sU,eD,lone]using ih
def dQ (right:Bool) (q:Rat) (y last:Int) (pt:Bool):Int:=
 if !right then 2 else if decide (q.num.sign<0)then 2 else if pt&&decide (y≤last)then 4 else 0
def jG (e:Int) (q:Rat) (y:Int) (l:List (Int×Rat)):List (Int×Rat):=if e=0 then(if decide (0<q.num.sign)then l++[(y,q)]else l)else l
def vA (e:Int) (y last:Int):Int:=if e=0 then y else last
def vB (e:Int) (pt:Bool):Bool:=if e=0 then true else pt
def lS (_:Int) (q:Rat):Bool:=decide (q.num.sign=0)
theorem wO {N:Nat}{p:Rat}{l:List Rat}(hp:Sz N p) (h:∀q∈l,Sz N q):Sz N (aM p l):=by
 rcases Zp p l with h1 | h1
 ·rw[h1];exact hp
 exact h _ h1
def uY (q:Rat):Nat:=max (dg 4294967296 q.num.natAbs).length (dg 4294967296 q.den).length
theorem nP {L:Nat}{q:Rat}:Sz L q↔uY q≤L:=by
 unfold Sz uY
 omega
def wt (q:Rat):Nat:=uY q+1
def fX (l:List Rat):Nat:=(l.map wt).sum
theorem Lg {l:List Rat}{q:Rat}(h:q∈l):wt q≤fX l:=by
 unfold fX
 induction l with
 | nil=>cases h
 | cons x l ih=>
  rw[List.map_cons,List.sum_cons]
  rcases List.mem_cons.1 h with rfl | h
  ·omega
  have:=ih h;omega
theorem sW (a b:List Rat):fX (a++b)=fX a+fX b:=by simp[fX]
theorem DR {a b:List Rat}(h:List.Sublist a b):fX a≤fX b:=by
 induction h with
 | slnil=>omega
 | cons x h ih=>simp only[fX,List.map_cons,List.sum_cons]at ih⊢;omega
 | cons_cons x h ih=>simp only[fX,List.map_cons,List.sum_cons]at ih⊢;omega
theorem Nq:wt 0≤2:=by
 have h:=zY (z:=0) (by omega) (by omega)
 have h1:uY (0:Rat)=1:=by
  unfold uY
  rw[show(0:Rat).num=0 from rfl,show(0:Rat).den=1 from rfl]
  have e1:(dg 4294967296 (Int.natAbs 0)).length=0:=by rw[show Int.natAbs 0=0 from rfl,Cl];rfl
  have e2:(dg 4294967296 1).length=1:=by
   rw[uN (by omega) (by omega)]
   rw[show 1/4294967296=0 by omega,Cl]
   rfl
  rw[e1,e2]
  rfl
 unfold wt
 omega
theorem Ut (p q:Rat):wt (p-q)≤wt p+wt q:=by
 have h:=rG (nP.2 (Nat.le_refl (uY p))) (nP.2 (Nat.le_refl (uY q)))
 have:=nP.1 h
 unfold wt
 omega
theorem Zu (v m:Rat):aM v [m]=if m<v then m else v:=rfl
theorem Uu (v m:Rat):wt (v-aM v [m])+wt (m-aM v [m])≤wt v+wt m+2:=by
 rw[Zu]
 split
 ·rw[show m-m=0 by grind]
  have:=Nq
  have:=Ut v m
  omega
 rw[show v-v=0 by grind]
 have:=Nq
 have:=Ut m v
 omega
def iQ (fr:Int) (s:List (Int×Rat)×List (Int×Rat)×Rat) (x:Int×Rat):List (Int×Rat)×List (Int×Rat)×Rat:=
 if decide (fr≤x.1)&&decide (0<s.2.2.num.sign)then(s.1++[(x.1,x.2-aM x.2 [s.2.2])],s.2.1++[(x.1,aM x.2 [s.2.2])],s.2.2-aM x.2 [s.2.2])else(s.1++[x],s.2.1,s.2.2)
def aY (fr:Int) (l:List (Int×Rat)) (p:Rat):List (Int×Rat)×List (Int×Rat)×Rat:=l.foldl (iQ fr) ([],[],p)
theorem pH {fr:Int}{s:List (Int×Rat)×List (Int×Rat)×Rat}{y:Int}{q:Rat}(h1:fr≤y) (h2:0<s.2.2.num.sign):
  iQ fr s (y,q)=(s.1++[(y,q-aM q [s.2.2])],s.2.1++[(y,aM q [s.2.2])],s.2.2-aM q [s.2.2]):=by
 unfold iQ
 rw[if_pos (by simp only[Bool.and_eq_true,decide_eq_true_eq];exact⟨h1,h2⟩)]
theorem oO {fr:Int}{s:List (Int×Rat)×List (Int×Rat)×Rat}{x:Int×Rat}(h:¬(fr≤x.1∧0<s.2.2.num.sign)):iQ fr s x=(s.1++[x],s.2.1,s.2.2):=by
 unfold iQ
 rw[if_neg (by simp only[Bool.and_eq_true,decide_eq_true_eq];exact h)]
theorem Gp (fr:Int) (l:List (Int×Rat)) (p:Rat):(aY fr l p).1.length=l.length:=by
 have key:∀(l:List (Int×Rat)) s,(l.foldl (iQ fr) s).1.length=s.1.length+l.length:=by
  intro l
  induction l with
  | nil=>intro s;simp
  | cons x l ih=>
   intro s
   rw[List.foldl_cons,ih]
   unfold iQ
   split <;> simp <;> omega
 have:=key l ([],[],p)
 simpa[aY]using this
theorem kB (q:Rat):0<q.num.sign↔0<q:=by
 rw[Int.sign_pos_iff,←gt_iff_lt,Rat.lt_iff]
 simp
theorem DS (v m:Rat):wt (m-aM v [m])≤wt v+wt m+2:=by have:=Uu v m;omega
section
variable {f:FuncId}{args:List FV}
theorem qQ {xs:List Nat}(h:∀(N:Nat→Prop) (w:World) us,dA w N [] args us→(∀b,N b→b<w.heap.size)→Calls Tryz.prog f us.toArray w (mB xs w)):aD true Tryz.prog f [] args (aN (.one (.t (sU true xs)))):=by
 intro N w cs us hL
 obtain⟨rfl,hf⟩:=vY hL
 refine(h _ w us hf (fun b hb=>hb.1)).mono ?_
 rintro e W ⟨A,n,c,rfl,ho,hb⟩
 obtain⟨y1,a1,a2,a3,a4⟩:=vX (N:=fun b=>true=false∧(b<W.heap.size∧b∉VT.fpL [])∧(N b∨w.heap.size≤b)) ho
 refine .mk0 (y:=[y1]) rfl hb (by simp only[VT.okL];exact⟨a3,trivial⟩) ?_ (fun b hb'=>?_) ?_
 ·simp only[VT.fpL,a4,List.append_nil]
  cases A <;> simp[Value.ownBlock]
 ·simp only[VT.fpL,a4,List.append_nil]at hb'
  exact ho.blk b hb'
 exact⟨y1,rfl,a1.symm,jE (fun _ _=>rfl) (fun b hb=>absurd hb.1 (by simp)) _ _ a2⟩
variable {xs ys:List Nat}
theorem jV {W:World}{N:Nat→Prop}{v:Value}(h:bQ W N [] (.one (.t (sU false xs))) v) (hl:Lim 4294967296 xs) (hN:∀b,N b→b<W.heap.size):∃A c,v=.slice A xs.length c∧U32 W W.heap.size A xs.length c xs:=by
 simp only[bQ,AR]at h
 obtain⟨A,c,rfl,l⟩:=Cn h hl
 exact⟨A,c,rfl,l.u32 hN⟩
theorem Nr (hx:Lim 4294967296 xs) (h:xs.length≤1099511627776):aD true Tryz.prog 118 [] [.one (.t (sU false xs))] (aN (.one (.t (sU true xs)))):=qQ fun N w us hf hN=>by
 obtain⟨u,rfl,h1⟩:=Zr hf
 obtain⟨A,c,rfl,u1⟩:=jV h1 hx hN
 exact oV A _ c xs w u1 h
theorem QL (hx:Lim 4294967296 xs) (hy:Lim 4294967296 ys):aD true Tryz.prog 140 [] [.one (.t (sU false xs)),.one (.t (sU false ys))] (aN (.one (tv (.int .i64 (mC (vl 4294967296 xs) (vl 4294967296 ys)))))):=Zq fun N w us hf hN=>by
 obtain⟨u,v,rfl,h1,h2⟩:=Jf hf
 obtain⟨A,c,rfl,u1⟩:=jV h1 hx hN
 obtain⟨B,d,rfl,u2⟩:=jV h2 hy hN
 exact(pS A B _ _ c d xs ys _ w u1 u2).mono fun e W ⟨he,k,hk⟩=>⟨he,hk▸fT (Below.refl _ _) k⟩
theorem CH (hx:Lim 4294967296 xs) (hy:Lim 4294967296 ys) (h:xs.length≤1099511627776) (h':ys.length≤1099511627776):aD true Tryz.prog 139 [] [.one (.t (sU false xs)),.one (.t (sU false ys))] (aN (.one (.t (sU true (dg 4294967296 (vl 4294967296 xs+vl 4294967296 ys)))))):=qQ fun N w us hf hN=>by
 obtain⟨u,v,rfl,h1,h2⟩:=Jf hf
 obtain⟨A,c,rfl,u1⟩:=jV h1 hx hN
 obtain⟨B,d,rfl,u2⟩:=jV h2 hy hN
 exact Zf A B _ _ c d xs ys w u1 u2 h h'
theorem QM (hx:Lim 4294967296 xs) (hy:Lim 4294967296 ys) (h:xs.length≤549755813888) (h':ys.length≤549755813888):aD true Tryz.prog 84 [] [.one (.t (sU false xs)),.one (.t (sU false ys))] (aN (.one (.t (sU true (dg 4294967296 (vl 4294967296 xs*vl 4294967296 ys)))))):=qQ fun N w us hf hN=>by
 obtain⟨u,v,rfl,h1,h2⟩:=Jf hf
 obtain⟨A,c,rfl,u1⟩:=jV h1 hx hN
 obtain⟨B,d,rfl,u2⟩:=jV h2 hy hN
 exact FT A B _ _ c d xs ys w u1 u2 h h'
theorem Zw {W:World}{N:Nat→Prop}{t:Nat}{v:Value}(h:bQ W N [] (.one (.t (.s false t 1 2 [sU false xs,sU false ys]))) v) (hx:Lim 4294967296 xs) (hy:Lim 4294967296 ys) (hN:∀b,N b→b<W.heap.size):∃A c,v=.slice A 2 c∧URows W W.heap.size A 2 c [xs,ys]:=by
 simp only[bQ,AR,FR]at h
 obtain⟨A,c,rfl,h1,h2,_,h4⟩:=h
 rcases h4 with h4 | ⟨ad,rfl,h5,h6⟩
 ·omega
 obtain⟨u0,e0,f0⟩:=mM h6 (j:=0) rfl
 obtain⟨u1,e1,f1⟩:=mM h6 (j:=1) rfl
 obtain⟨A0,c0,rfl,l0⟩:=Cn f0 hx
 obtain⟨A1,c1,rfl,l1⟩:=Cn f1 hy
 rw[Nat.zero_add]at e0 e1
 refine⟨_,c,rfl,rfl,h1,h2,fun k hk=>?_⟩
 obtain⟨b,o,sp⟩:=ad
 match k,hk with
 | 0,_=>exact⟨b,o,sp,A0,_,c0,rfl,hN _ h5,e0,l0.u32 hN⟩
 | 1,_=>exact⟨b,o,sp,A1,_,c1,rfl,hN _ h5,e1,l1.u32 hN⟩
theorem QN {t:Nat}(hx:Lim 4294967296 xs) (hy:Lim 4294967296 ys) (h:xs.length≤549755813888) (h':ys.length≤549755813888):aD true Tryz.prog 123 [] [.one (.t (.s false t 1 2 [sU false xs,sU false ys]))] (aN (.one (.t (sU true (dg 4294967296 (pT [xs,ys])))))):=qQ fun N w us hf hN=>by
 obtain⟨u,rfl,h1⟩:=Zr hf
 obtain⟨A,c,rfl,u1⟩:=Zw h1 hx hy hN
 exact GB A 2 c [xs,ys] w u1 (by omega) (fun k hk=>by match k,hk with | 0,_=>exact h | 1,_=>exact h')
theorem Ba (A:Option Addr) (n c:Nat):((Value.slice A n c).ownBlock.toList).Nodup:=by cases A <;> simp[Value.ownBlock]
theorem Qe (hx:Lim 4294967296 xs) (hy:Lim 4294967296 ys) (h:xs.length≤1099511627776) (hle:vl 4294967296 ys≤vl 4294967296 xs):aD true Tryz.prog 141 [] [.one (.t (sU false xs)),.one (.t (sU false ys))] (aN (.tup [.one (.t (sU true (dg 4294967296 (vl 4294967296 xs-vl 4294967296 ys)))),.one (tv (.int .i64 0))])):=by
 intro N w cs us hL
 obtain⟨rfl,hf⟩:=vY hL
 obtain⟨u,v,rfl,h1,h2⟩:=Jf hf
 obtain⟨A,c,rfl,u1⟩:=jV h1 hx fun b hb=>hb.1
 obtain⟨B,d,rfl,u2⟩:=jV h2 hy fun b hb=>hb.1
 refine(Zh A B _ _ c d xs ys w u1 u2 h hle).mono ?_
 rintro e W ⟨A,n,c,rfl,ho,hb⟩
 obtain⟨y1,a1,a2,a3,a4⟩:=vX (N:=fun b=>true=false∧(b<W.heap.size∧b∉VT.fpL [])∧(N b∨w.heap.size≤b)) ho
 refine .mk0 (y:=[y1,.w (.int .i64 0)]) rfl hb (by simp only[VT.okL,VT.ok];exact⟨a3,trivial,trivial⟩) ?_ (fun b hb'=>?_) ?_
 ·simp only[VT.fpL,VT.fp,a4,List.append_nil]
  exact Ba A n c
 ·simp only[VT.fpL,VT.fp,a4,List.append_nil]at hb'
  exact ho.blk b hb'
 refine⟨[_,_],rfl,?_⟩
 exact⟨_,_,[y1],[.w (.int .i64 0)],rfl,rfl,⟨y1,rfl,a1.symm,jE (fun _ _=>rfl) (fun b hb=>absurd hb.1 (by simp)) _ _ a2⟩,_,_,[.w (.int .i64 0)],[],rfl,rfl,⟨_,rfl,rfl,by simp[CR,tv,OR]⟩,rfl,rfl⟩
theorem Zx (hx:Lim 4294967296 xs) (hy:Lim 4294967296 ys) (h:xs.length≤549755813888) (h':ys.length≤549755813888) (h0:vl 4294967296 ys≠0):aD true Tryz.prog 142 [] [.one (.t (sU false xs)),.one (.t (sU false ys))] (aN (.tup [.one (.t (sU true (dg 4294967296 (vl 4294967296 xs/vl 4294967296 ys)))),.one (.t (sU true (dg 4294967296 (vl 4294967296 xs%vl 4294967296 ys)))),.one (tv (.int .i64 0))])):=by
 intro N w cs us hL
 obtain⟨rfl,hf⟩:=vY hL
 obtain⟨u,v,rfl,h1,h2⟩:=Jf hf
 obtain⟨A,c,rfl,u1⟩:=jV h1 hx fun b hb=>hb.1
 obtain⟨B,d,rfl,u2⟩:=jV h2 hy fun b hb=>hb.1
 refine(As A B _ _ c d xs ys w u1 u2 h h' h0).mono ?_
 rintro e W ⟨A1,n1,c1,A2,n2,c2,rfl,ho,ho2,hap,hb⟩
 obtain⟨y1,a1,a2,a3,a4⟩:=vX (N:=fun b=>true=false∧(b<W.heap.size∧b∉VT.fpL [])∧(N b∨w.heap.size≤b)) ho
 obtain⟨y2,b1,b2,b3,b4⟩:=vX (N:=fun b=>true=false∧(b<W.heap.size∧b∉VT.fpL [])∧(N b∨w.heap.size≤b)) ho2
 refine .mk0 (y:=[y1,y2,.w (.int .i64 0)]) rfl hb (by simp only[VT.okL,VT.ok];exact⟨a3,b3,trivial,trivial⟩) ?_ (fun b hb'=>?_) ?_
 ·simp only[VT.fpL,VT.fp,a4,b4,List.append_nil]
  rw[List.nodup_append]
  refine⟨Ba ..,Ba ..,fun x hx y hy e=>?_⟩
  subst e
  rcases A1 with _ | a
  ·simp[Value.ownBlock]at hx
  rcases A2 with _ | b
  ·simp[Value.ownBlock]at hy
  simp[Value.ownBlock]at hx hy
  exact hap a b rfl rfl (by rw[←hx,←hy])
 ·simp only[VT.fpL,VT.fp,a4,b4,List.append_nil]at hb'
  rcases List.mem_append.1 hb' with hb' | hb'
  ·exact ho.blk b hb'
  exact ho2.blk b hb'
 refine⟨[_,_,_],rfl,?_⟩
 exact⟨_,_,[y1],[y2,.w (.int .i64 0)],rfl,rfl,⟨y1,rfl,a1.symm,jE (fun _ _=>rfl) (fun b hb=>absurd hb.1 (by simp)) _ _ a2⟩,_,_,[y2],[.w (.int .i64 0)],rfl,rfl,⟨y2,rfl,b1.symm,jE (fun _ _=>rfl) (fun b hb=>absurd hb.1 (by simp)) _ _ b2⟩,_,_,[.w (.int .i64 0)],[],rfl,rfl,⟨_,rfl,rfl,by simp[CR,tv,OR]⟩,rfl,rfl⟩
end
def Zy (P:Program) (t n:Nat):Prop:=∃e,P.underlying t=some (.array n e)∧Ty1 P e
section
variable {P:Program}{w:World}{ρ:Operand→Value}{d:Option Nat}{ty:TypeId}{pos:String}{af:Array Edge}{gd:Option (Nat×Bool)}
theorem Uv {t n:Nat}{z us:List Value}{parts:Array (Nat×Operand)}{ps:List (Nat×Value)}(hT:Zy P t n) (hZ:TyZ P t z) (hps:(parts.map fun x=>(x.1,ρ x.2))=ps.toArray) (hf:iA (fun i=>some (i*1,1)) z ps=some us):
  (execOp ρ ⟨d,.build t parts,ty,pos,af,gd⟩).run P w=.ok (.value (.agg us.toArray)) w:=by
 obtain⟨e,e1,hu⟩:=hT
 obtain⟨dd,i',h8,h9,h10,h11⟩:=hu
 obtain⟨i,v,h3,h4,h5⟩:=hZ
 have hf':=wD _ ps z us hf
 simp only[Nat.mul_one]at hf'
 have hps':(parts.map fun(x:Nat×Operand)=>match x with | (i,x)=>(i,ρ x))=ps.toArray:=hps
 simp[execOp,Instr.build,zeroValue,sizeOf,typeInfo,h3,h4,run_underlying e1,hps',h5,h10,h11,hf']
end
def tY:List AV→List (Nat×FV)→Option (List AV)
 | l,[]=>some l
 | l,(i,.one a)::r=>match lone a&&Nat.blt i l.length with
  | true=>tY (l.set i a) r
  | false=>none
 | _,_=>none
section
variable {W:World}{N:Nat→Prop}{cs:List Co}
theorem Ns {a:AV}{u:Value}(ha:AR W N cs a u):∀{l:List AV}{us:List Value}{p:Nat},ARL W N cs l us→ARL W N cs (l.set p a) (us.set p u)
 | [],us,p,h=>by
  simp only[ARL]at h
  subst h
  simp[ARL]
 | b::l,[],p,h=>by simp only[ARL]at h
 | b::l,z::us,0,h=>by
  simp only[ARL]at h
  simp only[List.set_cons_zero,ARL]
  exact⟨ha,h.2⟩
 | b::l,z::us,p+1,h=>by
  simp only[ARL]at h
  simp only[List.set_cons_succ,ARL]
  exact⟨h.1,Ns ha h.2⟩
theorem Nt:∀{ps:List (Nat×FV)}{vs:List (Nat×Value)}{l l':List AV}{us:List Value},ARL W N cs l us→tY l ps=some l'→ps.length=vs.length→
  (∀(j:Nat) (p:Nat×FV) (q:Nat×Value),ps[j]? =some p→vs[j]? =some q→p.1=q.1∧bC W N cs p.2 q.2)→∃us',ARL W N cs l' us'∧iA (fun i=>some (i*1,1)) us vs=some us'
 | [],vs,l,l',us,hc,h,hl,_=>by
  obtain rfl:vs=[]:=List.eq_nil_of_length_eq_zero hl.symm
  simp only[tY,Option.some.injEq]at h
  subst h
  exact⟨us,hc,rfl⟩
 | (i,fv)::ps,vs,l,l',us,hc,h,hl,hp=>by
  obtain⟨⟨i',u⟩,vs,rfl⟩:∃q vs',vs=q::vs':=by
   cases vs with
   | nil=>simp at hl
   | cons q vs=>exact⟨q,vs,rfl⟩
  obtain⟨e0,h0⟩:=hp 0 _ _ rfl rfl
  dsimp only at e0 h0
  subst e0
  cases fv with
  | one a=>
   unfold tY at h
   cases hq:lone a&&Nat.blt i l.length with
   | false=>rw[hq]at h;cases h
   | true=>
    rw[hq]at h
    simp only[Bool.and_eq_true]at hq
    have hi:i<us.length:=by
     have h9:=hq.2
     rw[fW hc]
     simpa[Nat.blt,Nat.lt_iff_add_one_le]using h9
    have hu:u.cells.toList=[u]:=by rw[tI (cs:=cs) h0 hq.1]
    obtain⟨us',r1,r2⟩:=Nt (us:=us.set i u) (Ns h0 hc) h (by simpa using hl) (fun j p q h1 h2=>hp (j+1) p q (by simpa using h1) (by simpa using h2))
    refine⟨us',r1,?_⟩
    unfold iA
    dsimp only
    have e2:nC us (i*1) u.cells.toList=us.set i u:=by
     rw[hu,Nat.mul_one]
     unfold nC
     rw[List.set_eq_take_append_cons_drop,if_pos hi]
     simp
    have e3:(Nat.beq u.cells.toList.length 1&&Nat.ble (i*1+u.cells.toList.length) us.length)=true:=by
     rw[hu]
     simp
     omega
    rw[e2,e3]
    exact r2
  | any=>simp[tY]at h
  | agg _=>simp[tY]at h
  | tup _=>simp[tY]at h
end
section
variable {x:Cx}{g g':Nat→FV}{ob ob':List (Option Ob)}{cs cs':List Co}{ts ts':Array Value}{W W':World}{T:List (Nat×TI)}{Q:Post}{ops:Array Oper}{rest:List Oper}{d:Nat}{op:Op}{ty:TypeId}{pos:String}{af:Array Edge}{gd:Option (Nat×Bool)}{v:FV}
theorem QO {t n:Nat}{ti:Bool}{sz:Nat}{z:List Value}{kd:TK}{ps:Array (Nat×Operand)}{l:List AV}(hT:bY x.P T) (ht:bS T t=some ⟨ti,sz,z,kd⟩) (hA:Zy x.P t n) (h:tY (z.map tv) (ps.toList.map fun p=>(p.1,lk x.n g p.2))=some l):
  OS x ⟨some d,.build t ps,ty,pos,af,gd⟩ g ob [] (fun g' ob'=>g'=aW g d (.agg l)∧ob'=ob):=Tg fun cs ts W hR=>by
 have hi:=dR hT ht
 obtain⟨us',h1,h2⟩:=Nt (W:=W) (N:=x.fr W ob cs) (cs:=cs) (us:=z) (vs:=ps.toList.map fun p=>(p.1,Act.eval ⟨ts,[]⟩ p.2)) (nR z) h (by simp) (fun j p q hp hq=>by
  simp only[List.getElem?_map,Option.map_eq_some_iff]at hp hq
  obtain⟨a,ha,rfl⟩:=hp
  obtain⟨b,hb,rfl⟩:=hq
  rw[ha]at hb
  injection hb with hb
  subst hb
  exact⟨rfl,hR.lk _⟩)
 exact⟨.agg us'.toArray,fun W'=>Uv hA hi.2.2.1 (ps:=ps.toList.map fun p=>(p.1,Act.eval ⟨ts,[]⟩ p.2)) (by apply Array.ext';simp only[Array.toList_map]) h2,us',rfl,h1⟩
theorem bA {t n:Nat}{ti:Bool}{sz:Nat}{z:List Value}{kd:TK}{ps:Array (Nat×Operand)}{l:List AV}(hA:Zy x.P t n) (k:WL x ops rest (aW g d (.agg l)) ob Q) (hT:bY x.P ttab:=by exact aA) (ht:bS ttab t=some ⟨ti,sz,z,kd⟩:=by rfl) (h:tY (z.map tv) (ps.toList.map fun p=>(p.1,lk x.n g p.2))=some l:=by rfl) (hw:aR ops x.n g gd=some true:=by rfl):
  WL x ops (⟨some d,.build t ps,ty,pos,af,gd⟩::rest) g ob Q:=iH (QO hT ht hA h) hw (by rintro _ _ ⟨rfl,rfl⟩;exact k)
inductive PutL (K:List Nat):List AV→List AV→Prop
 | nil:PutL K [] []
 | sl {i k o n:Nat}{l l':List AV}(h:K[i]? =some k) (h':PutL K l l'):PutL K (.sl i o n::l) (.sl k o n::l')
variable {late:Nat→Bool}{K fr:List Nat}{on:Bool}{fuel:Nat}{listed:Array Bool}
theorem kI {t ky o t' z':Nat}{ti:TI}{a:Operand}{l us:List AV}(i:Nat) (hx:(l.drop o).take us.length=us) (k:WD x ops Q late K (d::fr) true fuel (listed.setIfInBounds i true) (aW g d (.agg us)) ob) (hT:bY x.P ttab:=by exact aA) (hi:ops[i]? =some ⟨some d,.load t a,ty,pos,af,gd⟩:=by rfl) (hw:aR ops x.n g gd=some true:=by rfl) (hti:bS ttab t=some ti:=by rfl) (hlk:lk x.n g a=.one (.pt ky o):=by rfl) (ho:bP ob ky=some ⟨t',z',l⟩:=by rfl) (ha:ti.agg=true:=by rfl) (hn:us.length=ti.size:=by rfl) (h0:us≠[]:=by exact fun h=>by cases h) (hr:gA us=true:=by rfl):WO x ops Q late K fr true fuel listed i g ob:=
 Il (v:=.agg us) i hi rfl hw (Pg hT hti (by rw[hlk];exact Is ho hx ha hn h0 hr)) (by rintro _ _ ⟨rfl,rfl⟩;exact⟨rfl,fun _ _=>rfl⟩) (by rintro _ _ ⟨rfl,rfl⟩;exact k)
theorem qD {t key o t' z':Nat}{ti:TI}{a b:Operand}{l l' us:List AV}(i:Nat) (hl:dJ l o us=l') (hle:o+us.length≤l.length) (k:WD x ops Q late K fr true fuel (listed.setIfInBounds i true) g (ob.set key (some ⟨t',z',l'⟩))) (hT:bY x.P ttab:=by exact aA) (hr:Region.ready .any ops listed=[i]:=by kernel_rfl) (hi:ops[i]? =some ⟨none,.store t a b,ty,pos,af,gd⟩:=by rfl) (hw:aR ops x.n g gd=some true:=by rfl) (hti:bS ttab t=some ti:=by rfl)
  (hlk:lk x.n g a=.one (.pt key o):=by rfl) (ho:bP ob key=some ⟨t',z',l⟩:=by rfl) (hb:vJ (lk x.n g b)=some us:=by rfl) (hlo:eD us=true:=by rfl) (hsz:Nat.beq us.length ti.size=true:=by rfl) (hK:K.contains key=false:=by rfl):WD x ops Q late K fr true (fuel+1) listed g ob:=by
 have hne:∀j∈K,j≠key:=fun j hj e=>by
  subst e
  have:K.contains j=true:=by simpa using hj
  rw[hK]at this
  cases this
 refine Dp i hr hi hw (Ah (ty:=ty) (pos:=pos) (af:=af) (gd:=gd) hT hti hlk hb hlo hsz ho hle hl) true (fun _=>⟨rfl,fun j hj hm=>?_⟩) (fun _=>rfl) (fun _ g' ob' hR=>?_) fun g' ob' hR=>?_
 ·rw[List.mem_singleton]at hm
  exact hne j hj hm
 ·obtain⟨rfl,rfl⟩:=hR
  exact⟨fun _ _=>rfl,fun j hj=>List.getElem?_set_ne (fun e=>hne j hj e.symm)⟩
 obtain⟨rfl,rfl⟩:=hR
 exact k
end
abbrev Cr (x:Cx) (Q:Post):Post:=fun e g ob=>∃g' ob',Sub x g ob g' ob'∧Q e g' ob'
theorem WP.subQ {x:Cx}{c:Code}{g:Nat→FV}{ob:List (Option Ob)}{Q:Post}(h:WP x c g ob (Cr x Q)):WP x c g ob Q:=fun ts W hR=>wp_mono (h ts W hR) fun e a w hq=>by
 cases e with
 | panic c=>exact hq
 | _=>
  obtain⟨g,ob,ts,rfl,h1,g',ob',hs,h2⟩:=hq
  exact⟨g',ob',ts,rfl,hs _ _ h1,h2⟩
theorem BH {x:Cx}{e:Exit}{g g':Nat→FV}{ob ob':List (Option Ob)}{Q:Post}(h:Sub x g ob g' ob') (k:Cr x Q e g' ob'):Cr x Q e g ob:=by
 obtain⟨g2,ob2,h2,h3⟩:=k
 exact⟨g2,ob2,fun ts W hR=>h2 ts W (h ts W hR),h3⟩
theorem Bp {x:Cx}{e:Exit}{g:Nat→FV}{ob:List (Option Ob)}{Q:Post}(h:Q e g ob):Cr x Q e g ob:=⟨g,ob,fun _ _ h=>h,h⟩
theorem Oy {T:List (Nat×TI)}{fresh:Bool}{P:Program}{f:FuncId}{fn:Func}{c:Code}{n:Nat}{rv:List ResultVar}{lent:List Lt}{args:List FV}{R:List Lt→FV→Prop}(hf:P.funcs[f]? =some fn) (hb:fn.body=some c) (hn:fn.ntmps=n) (hrv:fn.results.toList=rv) (hT:bY P T) (hle:Nat.ble args.length n=true)
  (h:∀N M w c0,c0.length=lent.length→WP ⟨P,N,M,w,n,c0⟩ c (cC (kZ 0 args)) (aZ lent) (Cr ⟨P,N,M,w,n,c0⟩ (tN ⟨P,N,M,w,n,c0⟩ T rv fresh lent R))):aD fresh P f lent args R:=
 mI hf hb hn hrv hT hle fun N M w c0 h0=>(h N M w c0 h0).subQ
def Uw (fresh:Bool) (N:Nat→Prop) (M:List Nat) (w:World) (R:FV→Prop) (e:Ending) (W:World):Prop:=
 ∃v r y,e=.returned v∧R r∧Loc M w W [fH y] [(QT fresh [] [] r v y).on (fun b=>N b∨b∈M∨w.heap.size≤b)]
def tZ (fresh:Bool) (P:Program) (f:FuncId) (lent:List Lt) (args:List FV) (R:FV→Prop):Prop:=
 ∀(N:Nat→Prop) (w:World) (cs:List Co) (us:List Value),Loc ((aE (aZ lent) cs).flatMap Res.S) w w (aE (aZ lent) cs) [(Tk lent cs args us).on N]→
  Calls P f us.toArray w (Uw fresh N ((aE (aZ lent) cs).flatMap Res.S) w R)
section
variable {x:Cx}{g g':Nat→FV}{ob ob':List (Option Ob)}{cs cs':List Co}{ts ts':Array Value}{W W':World}{T:List (Nat×TI)}{Q:Post}{ops:Array Oper}{rest:List Oper}{d:Nat}{op:Op}{ty:TypeId}{pos:String}{af:Array Edge}{gd:Option (Nat×Bool)}{v:FV}
theorem Zz {fresh:Bool}{P:Program}{f:FuncId}{fn:Func}{c:Code}{lent:List Lt}{args:List FV}{R:FV→Prop}(hf:P.funcs[f]? =some fn) (hb:fn.body=some c) (T:List (Nat×TI)) (hT:bY P T) (hle:Nat.ble args.length fn.ntmps=true)
  (h:∀x:Cx,x.P=P→x.n=fn.ntmps→x.c0.length=lent.length→WP x c (cC (kZ 0 args)) (aZ lent) (tN x T fn.results.toList fresh [] fun _=>R)):tZ fresh P f lent args R:=by
 intro N w cs us hL
 refine calls_of_wp hf hb ?_
 have hs0:=Sh.off (hL.sh 0 rfl)
 obtain⟨hobs,hfv⟩:=hs0
 have hus:=rU hfv
 have hle:args.length≤fn.ntmps:=Nat.le_of_ble_eq_true hle
 let x:Cx:=⟨P,N,(aE (aZ lent) cs).flatMap Res.S,w,fn.ntmps,cs⟩
 have hNx:∀b,(lN w (aE (aZ lent) cs) b∧N b)→x.fr w (aZ lent) cs b:=fun b hb=>⟨hb.1,.inl hb.2⟩
 have hsz:(us.toArray++Array.replicate (fn.ntmps-us.toArray.size) undef).size=fn.ntmps:=by simp;omega
 have hR:RelC x (cC (kZ 0 args)) (aZ lent) cs (us.toArray++Array.replicate (fn.ntmps-us.toArray.size) undef) w:=by
  refine .of hsz hL ⟨hobs.1,fun k o hk=>⟨cM (fun _ _=>rfl) hNx .refl _ _ (hobs.2 k o hk).1,(hobs.2 k o hk).2⟩⟩ (fun i hi=>?_) .refl
  have hi':i<(us.toArray++Array.replicate (fn.ntmps-us.toArray.size) undef).size:=by rw[hsz];exact hi
  refine⟨_,Array.getElem?_eq_getElem hi',?_⟩
  by_cases hu:i<us.length
  ·have:=yP (j:=0) (i:=i) hfv us[i] (List.getElem?_eq_getElem hu)
   rw[Nat.zero_add]at this
   have e:(us.toArray++Array.replicate (fn.ntmps-us.toArray.size) undef)[i]=us[i]:=by
    rw[Array.getElem_append_left (by simpa using hu)]
    simp
   rw[e]
   exact eO (fun _ _=>rfl) hNx .refl _ _ this
  rw[yQ (by omega)]
  trivial
 have hlen:=hR.len
 rw[jC]at hlen
 have hw:=h x rfl rfl hlen.symm _ w ⟨cs,hR⟩
 refine wp_mono hw fun e a W hq=>?_
 have main:∀g ob ts,a=⟨ts,[]⟩→Dc x g ob ts W→(∃rs r ks lent',EndA x T fn.results.toList fresh [] (fun _=>R) g ob rs r ks lent')→a.defers=[]∧∃v,(results fn a.tmps).run P W=.ok v W∧Uw fresh N ((aE (aZ lent) cs).flatMap Res.S) w R (.returned v) W:=by
  rintro g ob ts rfl ⟨cs2,hR2⟩ ⟨rs,r,ks,lent',hE⟩
  have hnt:∀v∈rs,∀l,v≠.tup l:=by
   rcases hE.pk with⟨v,rfl,hp⟩ | ⟨_,l,_,hp⟩
   ·intro v' hv' l
    simp at hv'
    subst hv'
    cases hp <;> simp
   exact vP hp
  obtain⟨us2,hrv,hfl⟩:=nE hT hR2 hE.res hnt
  have hrun:=xQ hrv
  refine⟨rfl,_,hrun,?_⟩
  have hcoe:qT ([]:List Lt).length cs2 []:=fun k hk=>absurd hk (Nat.not_lt_zero k)
  have hN0:∀b,x.fr W ob cs2 b→x.fr W ob cs2 b:=fun _ h=>h
  obtain⟨v,ys,hv,hro,hok,hsub⟩:∃(v:Value) (ys:List VT),v=(if h:us2.toArray.size=1 then us2.toArray[0]else .tuple us2.toArray)∧RO W (x.fr W ob cs2) [] r v ys∧VT.okL W ys∧(VT.fpL ys).Sublist (ks.flatMap fun k=>(aF (bP ob k) (co cs2 k)).S):=by
   rcases hE.pk with⟨v1,e1,hp⟩ | ⟨hne,l,rfl,hp⟩
   ·subst e1
    cases us2 with
    | nil=>simp only[dA]at hfl
    | cons u us2=>
     simp only[dA]at hfl
     obtain⟨hf1,hf2⟩:=hfl
     subst hf2
     obtain⟨ys,f2,f3,f4⟩:=hp.ok hcoe hR2 hN0 hf1
     exact⟨_,ys,rfl,by simpa using Tl f2,f3,f4⟩
   obtain⟨ys,f2,f3,f4⟩:=hp.ok hcoe hR2 hN0 hfl
   have hl:=rU hfl
   refine⟨_,ys,rfl,?_,f3,f4⟩
   rw[dif_neg (by simp;omega)]
   exact⟨us2,rfl,f2⟩
  have hks:∀k∈ks,(aE ob cs2)[k]? =some (aF (bP ob k) (co cs2 k))∨(aF (bP ob k) (co cs2 k)).S=[]:=fun k hk=>by
   cases hq:bP ob k with
   | none=>exact .inr (by simp[aF])
   | some o=>exact .inl (bE hR2.len (cO hq))
  have hS2:(ks.flatMap fun k=>(aF (bP ob k) (co cs2 k)).S)=(pick (aE ob cs2) ks).flatMap Res.S:=by
   clear hsub
   have hks':=hks
   clear hks hE
   induction ks with
   | nil=>rfl
   | cons k ks ih=>
    have ih:=ih (fun k' h=>hks' k' (List.mem_cons_of_mem _ h))
    unfold pick at ih⊢
    rw[List.flatMap_cons,ih,List.filterMap_cons]
    rcases hks' k (by simp)with h1 | h1
    ·rw[h1]
     simp
    rw[h1,List.nil_append]
    cases hq:(aE ob cs2)[k]? with
    | none=>rfl
    | some r'=>
     obtain⟨o,c,e1,e2,rfl⟩:=Mq hq
     have e3:(aF o c).S=[]:=by
      have hco2:co cs2 k=c:=by simp[co,e2]
      cases o with
      | none=>rfl
      | some o=>
       have:bP ob k=some o:=by simp[bP,e1]
       rw[this,hco2]at h1
       exact h1
     simp[e3]
  have hLp:=hR2.2.pick ks hE.nd
  have hsubS:(([fH ys]).flatMap Res.S).Sublist ((pick (aE ob cs2) ks).flatMap Res.S):=by
   rw[←hS2]
   simpa[fH]using hsub
  have hsubO:∀b,b∈([fH ys]).flatMap Res.S→b∈(aE ob cs2).flatMap Res.S:=fun b hb=>by
   have:=hsubS.subset hb
   obtain⟨r',hr',hb'⟩:=List.mem_flatMap.1 this
   obtain⟨i,_,hi⟩:=List.mem_filterMap.1 hr'
   exact List.mem_flatMap.2 ⟨r',List.mem_of_getElem? hi,hb'⟩
  have hfr:∀b,x.fr W ob cs2 b→lN W [fH ys] b∧(N b∨b∈(aE (aZ lent) cs).flatMap Res.S∨w.heap.size≤b):=fun b hb=>⟨⟨hb.1.1,fun hm=>hb.1.2 (hsubO b hm)⟩,hb.2⟩
  refine⟨_,r,ys,by rw[←hv],hE.post,?_⟩
  refine⟨hR2.2.chg,fun q hq=>?_,fun b hb=>hLp.blk b (hsubS.subset hb),hLp.nd.sublist hsubS,fun q hq=>?_⟩
  ·simp at hq
   subst hq
   exact hok
  rw[List.mem_singleton]at hq
  subst hq
  show zD W _ [] (aZ [])∧RO W _ [] r _ ys
  refine⟨⟨rfl,fun k o hk=>by simp[aZ]at hk⟩,?_⟩
  cases hfresh:fresh with
  | false=>exact oU (fun _ _=>rfl) (fun b hb=>⟨rfl,hfr b hb⟩) .refl hro
  | true=>exact Id (hE.clean hfresh).1 hro
 cases e with
 | normal=>
  obtain⟨g,ob,ts,rfl,h1,h2⟩:=hq
  exact main g ob ts rfl h1 h2
 | ret=>
  obtain⟨g,ob,ts,rfl,h1,h2⟩:=hq
  exact main g ob ts rfl h1 h2
 | panic c=>exact hq.elim
 | exit id=>
  obtain⟨_,_,_,_,_,h2⟩:=hq
  exact h2.elim
 | goto l=>
  obtain⟨_,_,_,_,_,h2⟩:=hq
  exact h2.elim
 | outgrown=>
  obtain⟨_,_,_,_,_,h2⟩:=hq
  exact h2.elim
theorem Qf {fresh:Bool}{f:FuncId}{args:List FV}{R:FV→Prop}{lent:List Lt}{K:List Nat}{os:List Operand}{fst caps:List Tr}{fus cus:List Value}(hS:tZ fresh x.P f lent (cH fst++args++cH caps) R) (hK:dV ob K K lent) (hnd:K.Nodup) (ha:jJ x.n g K os args) (hfst:FRL W (x.fr W ob cs) fst fus) (hcap:FRL W (x.fr W ob cs) caps cus) (hR:RelC x g ob cs ts W):
  Calls x.P f (fus++os.map (Act.eval ⟨ts,[]⟩)++cus).toArray W (fun e W'=>∃v r ys N2,e=.returned v∧R r∧RO W' N2 [] r v ys∧VT.okL W' ys∧(VT.fpL ys).Nodup∧
   ∀(oz:List Ob) (csn:List Co),csn.length=oz.length→(∀b,((aE (oz.map some) csn).flatMap Res.S).count b≤(VT.fpL ys).count b)→(∀r∈aE (oz.map some) csn,r.φ W')→
    (∀b,N2 b→x.fr W' (bB ob K (cF K)++oz.map some) (cs++csn) b)∧
    ((∀i o,oz[i]? =some o→bF W' (x.fr W' (bB ob K (cF K)++oz.map some) (cs++csn)) (cs++csn) o.l (co csn i).l∧((co csn i).b=none→o.l=[]∧o.z≠0))→
     RelC x g (bB ob K (cF K)++oz.map some) (cs++csn) ts W'∧∀d,Aft K d ob cs ts W (bB ob K (cF K)++oz.map some) (cs++csn) ts W')):=by
 have hlen:=hR.len
 have hll:=tR hK
 have hKl:∀k∈K,k<ob.length:=fun k hk=>by
  obtain⟨i,hi⟩:=List.mem_iff_getElem?.1 hk
  obtain⟨a,l',_,_,h2⟩:=gI hK hi
  exact(List.getElem?_eq_some_iff.1 h2).1
 have hlobs:(aZ lent).length=K.length:=by rw[jC,hll]
 have hput0:aE (bB ob K (aZ lent)) cs=aE ob cs:=by
  have hl0:(bB ob K (aZ lent)).length=cs.length:=by rw[fJ];exact hlen
  apply List.ext_getElem?
  intro j
  by_cases hjl:j<ob.length
  ·by_cases hj:j∈K
   ·obtain⟨i,hi⟩:=List.mem_iff_getElem?.1 hj
    obtain⟨a,l',h1,_,h2⟩:=gI hK hi
    have h3:=kE hnd hlobs hi hjl
    rw[fR,h1]at h3
    rw[bE hl0 h3,bE hlen h2]
    exact congrArg some (jS _ _)
   have h3:=gD (l:=aZ lent) (ob:=ob) hj
   rw[List.getElem?_eq_getElem hjl]at h3
   rw[bE hl0 h3,bE hlen (List.getElem?_eq_getElem hjl)]
  rw[List.getElem?_eq_none (by rw[fI hl0];omega),List.getElem?_eq_none (by rw[fI hlen];omega)]
 have hputc:dD cs K (K.map (co cs))=cs:=by
  have key:∀(K:List Nat),(∀k∈K,k<cs.length)→dD cs K (K.map (co cs))=cs:=by
   intro K
   induction K with
   | nil=>intro _;rfl
   | cons k K ih=>
    intro h
    simp only[List.map_cons,dD]
    rw[oT (h k (by simp))]
    exact ih fun j hj=>h j (List.mem_cons_of_mem _ hj)
  exact key K fun k hk=>by rw[←hlen];exact hKl k hk
 have hcnt0:=fun b=>xD b (l:=aZ lent) (lc:=K.map (co cs)) (cs:=cs) hnd hlobs (by simp) hlen hKl
 unfold cV at hcnt0
 rw[hputc,hput0]at hcnt0
 have hfr0:∀b,x.fr W ob cs b→lN W (aE (aZ lent) (K.map (co cs))) b:=fun b hb=>And.intro hb.1.1 fun hm=>hb.1.2 (by
  have h1:=List.count_pos_iff.2 hm
  have h2:=hcnt0 b
  exact List.count_pos_iff.1 (show 0<((aE ob cs).flatMap Res.S).count b by omega))
 have hgetL:∀i k,K[i]? =some k→∃(a:Lt) (l':List AV),lent[i]? =some a∧renL K a.l=some l'∧ob[k]? =some (some (⟨a.t,a.z,l'⟩:Ob)):=fun i k hi=>gI hK hi
 have hφ0:∀r∈aE (aZ lent) (K.map (co cs)),r.φ W:=fun r hr=>by
  obtain⟨i,hi⟩:=List.mem_iff_getElem?.1 hr
  have hil:=(List.getElem?_eq_some_iff.1 hi).1
  have hil2:i<K.length:=by
   rw[fI (by simp[hlobs])]at hil
   simpa using hil
  obtain⟨a,l',h1,_,h2⟩:=hgetL i K[i] (List.getElem?_eq_getElem hil2)
  have e1:(aZ lent)[i]? =some (some a.ob):=by rw[fR,h1];rfl
  rw[bE (by simp[hlobs]) e1,jR (List.getElem?_eq_getElem hil2)]at hi
  injection hi with hi
  subst hi
  rw[show aF (some a.ob) (co cs K[i])=aF (some ⟨a.t,a.z,l'⟩) (co cs K[i]) from jS _ _]
  exact hR.res h2
 have h1:Loc x.M x.w W (aE (aZ lent) (K.map (co cs))++aE (bB ob K (cF K)) cs) []:=(hR.2.pickS []).cut (fun b=>by
  rw[List.flatMap_append,List.count_append]
  have:=hcnt0 b
  omega) (fun r hr=>by
  rcases List.mem_append.1 hr with hr | hr
  ·exact hφ0 r hr
  rcases kT hnd hlen hKl hr with hr | hr
  ·exact hR.2.res r hr
  exact hr.2 W)
 have h2:Loc ((aE (aZ lent) (K.map (co cs))).flatMap Res.S) W W (aE (aZ lent) (K.map (co cs))) [(Tk lent (K.map (co cs)) (cH fst++args++cH caps) (fus++os.map (Act.eval ⟨ts,[]⟩)++cus)).on (x.fr W ob cs)]:=by
  refine h1.focus.read _ ⟨⟨by simp[hlobs],fun k o hk=>?_⟩,rY (rY (pQ (fun b hb=>⟨hfr0 b hb,hb⟩) hfst) (Io hR (fun b hb=>⟨hfr0 b hb,hb⟩) ha)) (pQ (fun b hb=>⟨hfr0 b hb,hb⟩) hcap)⟩
  rw[fR]at hk
  cases hq:lent[k]? with
  | none=>rw[hq]at hk;cases hk
  | some a=>
   rw[hq]at hk
   simp at hk
   subst hk
   have hkK:k<K.length:=by rw[←hll];exact(List.getElem?_eq_some_iff.1 hq).1
   obtain⟨a',l',q1,q0,q2⟩:=hgetL k K[k] (List.getElem?_eq_getElem hkK)
   rw[hq]at q1
   injection q1 with q1
   subst q1
   have q3:=hR.obs.2 _ _ q2
   rw[jR (List.getElem?_eq_getElem hkK)]
   exact⟨wZ (fun b hb=>⟨hfr0 b hb,hb⟩) q0 q3.1,fun h=>⟨(yV q0).2 (q3.2 h).1,(q3.2 h).2⟩⟩
 refine(hS _ W _ _ h2).mono fun e W' hE=>?_
 obtain⟨v,r,ys,rfl,hr,h3⟩:=hE
 have h4:=Loc.turn h1 h3
 have hsh:=Sh.off (h3.sh 0 rfl)
 refine⟨v,r,ys,_,rfl,hr,hsh.2,h3.res (fH ys) (by simp),?_,fun oz csn hlz hcz hφz=>?_⟩
 ·have:=h3.nd
  simpa[fH]using this
 have hlen2:(bB ob K (cF K)).length=cs.length:=by rw[fJ];exact hlen
 have hrs:aE (bB ob K (cF K)++oz.map some) (cs++csn)=aE (bB ob K (cF K)) cs++aE (oz.map some) csn:=by
  unfold aE
  rw[List.zipWith_append hlen2]
 have hcnt2:∀b,(cV (bB ob K (cF K)++oz.map some) (cs++csn)).count b≤(([fH ys]++aE (bB ob K (cF K)) cs).flatMap Res.S).count b:=fun b=>by
  have q2:=hcz b
  unfold cV
  rw[hrs,List.flatMap_append,List.count_append,List.flatMap_append,List.count_append,List.flatMap_cons,List.flatMap_nil,List.append_nil]
  have q3:(fH ys).S=VT.fpL ys:=rfl
  rw[q3]
  omega
 have hin2:∀b,b∈cV (bB ob K (cF K)++oz.map some) (cs++csn)→b∈([fH ys]++aE (bB ob K (cF K)) cs).flatMap Res.S:=fun b hb=>List.count_pos_iff.1 (Nat.lt_of_lt_of_le (List.count_pos_iff.2 hb) (hcnt2 b))
 have hrest:∀b,b∈(aE (bB ob K (cF K)) cs).flatMap Res.S→b∈cV ob cs:=fun b hb=>by
  obtain⟨r,hr,hb⟩:=List.mem_flatMap.1 hb
  rcases kT hnd hlen hKl hr with hr | hr
  ·exact List.mem_flatMap.2 ⟨r,hr,hb⟩
  rw[hr.1]at hb
  cases hb
 have hlentS:∀b,b∈(aE (aZ lent) (K.map (co cs))).flatMap Res.S→b∈cV ob cs:=fun b hb=>by
  have q1:=List.count_pos_iff.2 hb
  have q2:=hcnt0 b
  exact List.count_pos_iff.1 (show 0<((aE ob cs).flatMap Res.S).count b by omega)
 have hfree:∀b,lN W' [fH ys] b→(x.fr W ob cs b∨b∈(aE (aZ lent) (K.map (co cs))).flatMap Res.S∨W.heap.size≤b)→x.fr W' (bB ob K (cF K)++oz.map some) (cs++csn) b:=fun b hb hb'=>by
  refine⟨⟨hb.1,fun hm=>?_⟩,?_⟩
  ·have hm:=hin2 b hm
   rw[List.flatMap_append,List.mem_append]at hm
   rcases hm with hm | hm
   ·exact hb.2 hm
   have hm2:=hrest b hm
   rcases hb' with hb' | hb' | hb'
   ·exact hb'.1.2 hm2
   ·have q1:=hcnt0 b
    have q2:=List.nodup_iff_count.1 hR.2.nd b
    have q3:=List.count_pos_iff.2 hb'
    have q4:=List.count_pos_iff.2 hm
    unfold cV at q1
    omega
   have:=(hR.2.blk b hm2).2
   omega
  rcases hb' with hb' | hb' | hb'
  ·exact hb'.2
  ·exact .inr (hR.2.blk b (hlentS b hb')).1
  exact .inr (.inr (Nat.le_trans hR.2.chg.size hb'))
 have hsize:W.heap.size≤W'.heap.size:=h3.chg.size
 have hfr:∀b,x.fr W ob cs b→x.fr W' (bB ob K (cF K)++oz.map some) (cs++csn) b:=fun b hb=>by
  refine hfree b ⟨Nat.lt_of_lt_of_le hb.1.1 hsize,fun hm=>?_⟩ (.inl hb)
  have q1:=h3.blk b hm
  rcases q1.1 with q1 | q1
  ·exact hb.1.2 (hlentS b q1)
  have:=hb.1.1
  omega
 have hkeep:∀b,x.fr W ob cs b→W'.heap[b]? =W.heap[b]? :=fun b hb=>h3.chg.block b hb.1.1 (fun hm=>hb.1.2 (hlentS b hm))
 refine⟨fun b hb=>hfree b hb.2.1 hb.2.2,fun hoz=>?_⟩
 have happ:∀{k},k<cs.length→co (cs++csn) k=co cs k:=fun hk=>by simp[co,List.getElem?_append_left hk]
 have hsame3:Same cs (cs++csn):=⟨by simp,fun k hk=>by rw[happ hk];exact⟨rfl,rfl⟩⟩
 have hnone:∀{k:Nat},k∈K→k<ob.length→(bB ob K (cF K))[k]? =some none:=fun{k} hk hl=>by
  obtain⟨i,hi⟩:=List.mem_iff_getElem?.1 hk
  rw[kE hnd (by simp[cF]) hi hl]
  simp[cF,hi]
 have hLf:Loc x.M x.w W' (aE (bB ob K (cF K)++oz.map some) (cs++csn)) []:=h4.cut hcnt2 (fun r hr=>by
  rw[hrs]at hr
  rcases List.mem_append.1 hr with hr | hr
  ·exact h4.res _ (List.mem_append_right _ hr)
  exact hφz r hr)
 refine⟨.of hR.1 hLf ⟨by rw[List.length_append,List.length_append,hlen2,List.length_map,hlz],fun k o hk=>?_⟩ (fun i hi=>?_) (hR.3.trans hsame3),fun d=>⟨hsame3,fun k hk hkc=>?_,hsize,fun b hlt hb=>?_,fun b hb=>?_,fun _ _=>rfl⟩⟩
 ·rcases Nat.lt_or_ge k (bB ob K (cF K)).length with hlt | hge
  ·rw[List.getElem?_append_left hlt]at hk
   rw[happ (by rw[←hlen2];exact hlt)]
   rw[fJ]at hlt
   by_cases hkK:k∈K
   ·rw[hnone hkK hlt]at hk
    injection hk with hk
    cases hk
   rw[gD hkK]at hk
   have q1:=hR.obs.2 k o hk
   exact⟨cM hkeep hfr hsame3 _ _ q1.1,q1.2⟩
  rw[List.getElem?_append_right hge]at hk
  have ho:oz[k-(bB ob K (cF K)).length]? =some o:=by
   rw[List.getElem?_map]at hk
   cases hq:oz[k-(bB ob K (cF K)).length]? with
   | none=>rw[hq]at hk;cases hk
   | some o'=>
    rw[hq]at hk
    simp at hk
    rw[hk]
  have q1:=hoz _ o ho
  have e:co (cs++csn) k=co csn (k-(bB ob K (cF K)).length):=by
   unfold co
   rw[List.getElem?_append_right (by rw[←hlen2];exact hge),hlen2]
  rw[e]
  exact q1
 ·obtain⟨u,q1,q2⟩:=hR.fv hi
  exact⟨u,q1,eO hkeep hfr hsame3 _ _ q2⟩
 ·rw[happ hkc]
 ·refine h3.chg.block b hlt fun hm=>?_
  obtain⟨r,hr,hbr⟩:=List.mem_flatMap.1 hm
  obtain⟨i,hi⟩:=List.mem_iff_getElem?.1 hr
  have hil:=(List.getElem?_eq_some_iff.1 hi).1
  have hil2:i<K.length:=by
   rw[fI (by simp[hlobs])]at hil
   simpa using hil
  obtain⟨a,l',q1,_,q2⟩:=hgetL i K[i] (List.getElem?_eq_getElem hil2)
  have e1:(aZ lent)[i]? =some (some a.ob):=by rw[fR,q1];rfl
  rw[bE (by simp[hlobs]) e1,jR (List.getElem?_eq_getElem hil2)]at hi
  injection hi with hi
  subst hi
  rw[show aF (some a.ob) (co cs K[i])=aF (some ⟨a.t,a.z,l'⟩) (co cs K[i]) from jS _ _]at hbr
  exact hb K[i] (List.getElem_mem hil2) _ q2 hbr
 have q1:=hin2 b hb
 rw[List.flatMap_append,List.mem_append]at q1
 rcases q1 with q1 | q1
 ·rcases(h3.blk b (by simpa using q1)).1 with q2 | q2
  ·exact .inl (hlentS b q2)
  exact .inr q2
 exact .inl (hrest b q1)
theorem Jl {fresh:Bool}{f:FuncId}{args:List FV}{R:FV→Prop}{lent:List Lt}{K:List Nat}{aa:Array Operand}{ats:Array TypeId}{cf:Operand}{fst caps:List Tr}{key:Nat}(hS:tZ fresh x.P f lent (cH fst++args++cH caps) R) (hf:CallOk x.P f) (hc:Tq x g cf f fst caps) (hK:dV ob K K lent) (hnd:K.Nodup) (ha:jJ x.n g K aa.toList args) (hk:dP ob key=true) (hb:∀r,R r→(jK key r).isSome=true):
  OS x ⟨some d,.call ⟨.value cf,aa,ats⟩,ty,pos,af,gd⟩ g ob K (fun g' ob'=>∃r v os,R r∧jK key r=some (v,os)∧g'=aW g d v∧ob'=bB ob K (cF K)++os.map some):=by
 intro cs ts W hR K' Q kk
 obtain⟨us0,us,e0,hfst,hcap⟩:=hc ob cs ts W hR
 unfold Oper.wp
 rw[nM hf e0]
 refine(Qf hS hK hnd ha hfst hcap hR).mono fun e W' hE=>?_
 obtain⟨v,r,ys,N2,rfl,hr,hro,hok,hndy,fin⟩:=hE
 have hb1:=hb r hr
 obtain⟨⟨v',os⟩,hbn⟩:=Option.isSome_iff_exists.1 hb1
 obtain⟨csn,e1,e2,e3,e4⟩:=zL (Ot hbn hro) hok hbn
 obtain⟨hN,hfin⟩:=fin os csn e1 (fun b=>by rw[e2];exact Nat.le_refl _) e3
 have hk:=Nat.eq_of_beq_eq_true hk
 have hpl:cs.length=key:=by rw[←hR.len,hk]
 obtain⟨g1,g2⟩:=e4 _ (cs++csn) hN (by simp[hpl,e1]) (fun i _=>by
  unfold co
  rw[List.getElem?_append_right (by omega),hpl,show key+i-key=i by omega])
 obtain⟨m1,m2⟩:=hfin g2
 exact kk _ _ _ _ _ ⟨r,v',os,hr,hbn,rfl,rfl⟩ (m1.put d g1) ((m2 (some d)).then_put v)
theorem cm {fresh:Bool}{f:FuncId}{lent:List Lt}{args:List FV}{r:FV}{os:List Ob}{aa:Array Operand}{ats:Array TypeId}(key:Nat) (K:List Nat) (hS:tZ fresh x.P f lent args (· =r)) (hf:CallOk x.P f) (hK:dV ob K K lent) (ha:jJ x.n g K aa.toList args) (k:WL x ops rest (aW g d v) (bB ob K (cF K)++os.map some) Q) (hw:aR ops x.n g gd=some true:=by rfl) (hk:dP ob key=true:=by rfl) (hnd:K.Nodup:=by decide) (hb:jK key r=some (v,os):=by rfl):
  WL x ops (⟨some d,.call ⟨.value (.func f),aa,ats⟩,ty,pos,af,gd⟩::rest) g ob Q:=by
 have e:cH []++args++cH []=args:=by simp[cH]
 refine iH (Jl (by rw[e];exact hS) hf (wK f) hK hnd ha hk (by rintro _ rfl;rw[hb];rfl)) hw ?_
 rintro _ _ ⟨r',v',os',rfl,h,rfl,rfl⟩
 rw[hb]at h
 injection h with h
 injection h with h1 h2
 subst h1 h2
 exact k
theorem Bb {late:Nat→Bool}{K fr:List Nat}{fuel:Nat}{listed:Array Bool}{fresh:Bool}{f:FuncId}{lent:List Lt}{args:List FV}{r:FV}{os:List Ob}{aa:Array Operand}{ats:Array TypeId}(i key:Nat) (Kl:List Nat) (hi:ops[i]? =some ⟨some d,.call ⟨.value (.func f),aa,ats⟩,ty,pos,af,gd⟩) (hS:tZ fresh x.P f lent args (· =r)) (hf:CallOk x.P f) (hK:dV ob Kl Kl lent) (ha:jJ x.n g Kl aa.toList args) (hke:iW ob (bB ob Kl (cF Kl)++os.map some) K) (k:WD x ops Q late K (d::fr) true fuel (listed.setIfInBounds i true) (aW g d v) (bB ob Kl (cF Kl)++os.map some)) (hr:Region.ready .any ops listed=[i]:=by kernel_rfl) (hw:aR ops x.n g gd=some true:=by rfl) (hk:dP ob key=true:=by rfl) (hnd:Kl.Nodup:=by decide) (hdis:∀k∈K,k∉Kl:=by decide) (hb:jK key r=some (v,os):=by rfl):
  WD x ops Q late K fr true (fuel+1) listed g ob:=by
 have e:cH []++args++cH []=args:=by simp[cH]
 refine CB i hr hi rfl hw (Jl (by rw[e];exact hS) hf (wK f) hK hnd ha hk (by rintro _ rfl;rw[hb];rfl)) hdis ?_ ?_
 ·rintro _ _ ⟨r',v',os',rfl,h,rfl,rfl⟩
  rw[hb]at h
  injection h with h
  injection h with h1 h2
  subst h1 h2
  exact⟨⟨_,rfl⟩,fM hke⟩
 rintro _ _ ⟨r',v',os',rfl,h,rfl,rfl⟩
 rw[hb]at h
 injection h with h
 injection h with h1 h2
 subst h1 h2
 exact k
theorem UQ {fresh:Bool}{P:Program}{f:FuncId}{fn:Func}{c:Code}{n:Nat}{rv:List ResultVar}{lent:List Lt}{args:List FV}{R:FV→Prop}(hf:P.funcs[f]? =some fn) (hb:fn.body=some c) (hn:fn.ntmps=n) (hrv:fn.results.toList=rv) (hT:bY P T) (hle:Nat.ble args.length n=true)
  (h:∀N M w c0,c0.length=lent.length→WP ⟨P,N,M,w,n,c0⟩ c (cC (kZ 0 args)) (aZ lent) (Cr ⟨P,N,M,w,n,c0⟩ (tN ⟨P,N,M,w,n,c0⟩ T rv fresh [] fun _=>R))):tZ fresh P f lent args R:=by
 subst hn hrv
 refine Zz hf hb T hT hle ?_
 rintro⟨P',N,M,w,n,c0⟩ rfl rfl h0
 exact(h N M w c0 h0).subQ
end
def Zg (a:Zi) (k:Int):Prop:=Lim 4294967296 a.x∧a.x.length≤300000000000∧fA a.s a.x=k
theorem Zn.g {a:Zi}{k:Int}(h:Zn a k):Zg a k:=⟨h.1,Nat.le_trans h.2.1 (by omega),h.2.2⟩
theorem Zg.of {k:Int}(h:(dg 4294967296 k.natAbs).length≤300000000000):Zg (.of k) k:=⟨aL (by omega) _,h,vT k⟩
theorem Zg.len {a:Zi}{k:Int}(h:Zg a k):(dg 4294967296 k.natAbs).length≤300000000000:=by
 obtain⟨h1,h2,rfl⟩:=h
 exact Nat.le_trans (xG h1) h2
theorem Zg.wrong {a:Zi}{k:Int}(h:Zg a k) (hr:dE a.s a.x=false):k=0:=by
 obtain⟨h1,h2,rfl⟩:=h
 exact Az hr
theorem Ux {a:Zi}{k:Int}(h:Zg a k) (hr:dE a.s a.x=true):gF a=kF k:=by
 obtain⟨h1,h2,rfl⟩:=h
 unfold gF kF
 rw[xF h1 hr,oX h1 hr]
theorem Cs {a:Zi}{k:Int}(ha:Zg a k):aD true Tryz.prog 96 [] [gF a] (aN (.one (tv (.bool (dE a.s a.x))))):=by
 refine cB Tryz.func96 rfl Tryz.ntmps96 rfl aA rfl fun N w c0 h0=>?_
 have hal:=ha.2.1
 refine sq ?_;refine rl ?_;refine bx 0 ?_;refine o1 ?_;refine nl ?_;refine sq ?_;refine rl ?_;refine o1 ?_;refine ld ?_;refine o1 ?_;refine o1 ?_;refine nl ?_;refine sq ?_;refine rl ?_
 (iterate 3 refine o1 ?_);refine WL.split (t:=9) rfl (fun h1=>?_) (fun h1=>?_)
 ·refine o1 ?_;refine ld ?_;refine WL.splitb (t:=11) rfl (fun h2=>?_) (fun h2=>?_)
  ·(iterate 6 refine o1 ?_);refine WL.split (t:=17) rfl (fun h3=>?_) (fun h3=>?_)
   ·refine o1 ?_;refine ld ?_;refine o1 ?_;refine o1 ?_;refine WL.cast (t:=21) (u':=.int .i64 ((a.x.length-1:Nat):Int)) rfl (aC (by omega)) ?_
    refine o1 ?_;refine eB ([.v (.int .u32 ((nth a.x (a.x.length-1):Nat):Int))]) (pA a.x (k:=a.x.length-1) (by omega)) ?_
    (iterate 4 refine o1 ?_);refine nl ?_;refine rt ?_;refine en (.inl rfl) rfl (aX (cN _)) (by decide) (fun _=>trivial) (congrArg (fun b=>FV.one (tv (.bool b))) ?_)
    rw[mF (by omega)];simp_all
   (iterate 7 refine dM ?_);(iterate 3 refine o1 ?_);refine nl ?_;refine rt ?_
   refine en (.inl rfl) rfl (aX (cN _)) (by decide) (fun _=>trivial) (congrArg (fun b=>FV.one (tv (.bool b))) ?_)
   rw[mF (by omega)];simp_all
  (iterate 3 refine o1 ?_);(iterate 11 refine dM ?_);refine o1 ?_;refine o1 ?_;refine nl ?_;refine rt ?_
  refine en (.inl rfl) rfl (aX (cN _)) (by decide) (fun _=>trivial) (congrArg (fun b=>FV.one (tv (.bool b))) ?_)
  rw[mF (by omega)];simp_all
 (iterate 3 refine dM ?_);(iterate 5 refine o1 ?_);refine WL.split (t:=17) rfl (fun h4=>?_) (fun h4=>?_)
 ·refine o1 ?_;refine ld ?_;refine o1 ?_;refine o1 ?_;refine WL.cast (t:=21) (u':=.int .i64 ((a.x.length-1:Nat):Int)) rfl (aC (by omega)) ?_
  refine o1 ?_;refine eB ([.v (.int .u32 ((nth a.x (a.x.length-1):Nat):Int))]) (pA a.x (k:=a.x.length-1) (by omega)) ?_
  (iterate 4 refine o1 ?_);refine nl ?_;refine rt ?_;refine en (.inl rfl) rfl (aX (cN _)) (by decide) (fun _=>trivial) (congrArg (fun b=>FV.one (tv (.bool b))) ?_)
  first | exact(tU rfl (by omega)).symm | (unfold dE;simp_all;try omega)
 (iterate 7 refine dM ?_);(iterate 3 refine o1 ?_);refine nl ?_;refine rt ?_
 refine en (.inl rfl) rfl (aX (cN _)) (by decide) (fun _=>trivial) (congrArg (fun b=>FV.one (tv (.bool b))) ?_)
 first | exact(tU rfl (by omega)).symm | (unfold dE;simp_all;try omega)
theorem dT {a:Zi}{k:Int}(ha:Zg a k):aD false Tryz.prog 82 [] [gF a] (aN (kF k)):=by
 refine cB Tryz.func82 rfl Tryz.ntmps82 rfl aA rfl fun N w c0 h0=>?_
 refine sq ?_;refine rl ?_;refine bx 0 ?_;refine al 1 ?_;refine nl ?_;refine sq ?_;refine sq ?_;refine rl ?_;refine ld ?_
 refine ca (Cs ha) Zb ⟨aG rfl,rfl⟩ (.one (tv (.bool (dE a.s a.x)))) ?_;refine WL.splitb (t:=4) rfl (fun h1=>?_) (fun h1=>?_)
 ·refine o1 ?_;refine nl ?_;refine gE rfl ?_;refine sk ?_;refine sq ?_;refine rl ?_;refine ld ?_;refine o1 ?_;refine st ?_;refine nl ?_;refine rt ?_
  exact en (.inl rfl) rfl (aX (.agg (.read _ (l:=[.v (.bool a.s),sU false a.x]) rfl))) (by decide) (fun h=>by cases h) (Ux ha h1)
 refine o1 ?_;refine nl ?_;refine iL rfl ?_;refine sq ?_;refine rl ?_;refine o1 ?_;refine st ?_;refine nl ?_;refine rt ?_
 exact en (.inl rfl) rfl (aX (.agg (.cons (.id rfl) (.cons .nilf .nil)))) (by decide) (fun h=>by cases h) (by rw[ha.wrong h1];exact Bj)
theorem Uy {b:Bool}{m:Nat}{K:Int}(hK:bK b m=K):aD false Tryz.prog 83 [] [.one (tv (.bool b)),.one (.t (sU false (dg 4294967296 m)))] (aN (kF K)):=by
 refine cB Tryz.func83 rfl Tryz.ntmps83 rfl aA rfl fun N w c0 h0=>?_
 refine sq ?_;refine rl ?_;refine al 0 ?_;refine nl ?_;refine sq ?_;refine rl ?_;refine o1 ?_;refine o1 ?_;refine WL.splitb (t:=6) rfl (fun h1=>?_) (fun h1=>?_)
 ·(iterate 6 refine o1 ?_);refine st ?_;refine nl ?_;refine rt ?_
  exact en (.inl rfl) rfl (aX (.agg (.cons (.id rfl) (.cons (.id rfl) .nil)))) (by decide) (fun h=>by cases h) (hK▸congrArg xR (tW (by rw[sC,h1,Bool.true_and,←lK (m:=m) rfl];exact decide_eq_decide.2 (by omega)) (iM _ _).symm))
 (iterate 3 refine dM ?_);(iterate 3 refine o1 ?_);refine st ?_;refine nl ?_;refine rt ?_
 exact en (.inl rfl) rfl (aX (.agg (.cons (.id rfl) (.cons (.id rfl) .nil)))) (by decide) (fun h=>by cases h) (hK▸congrArg xR (tW (by rw[sC,h1];rfl) (iM _ _).symm))
theorem gV {b:Bool}{m:Nat}{K:Int}(hK:bK b m=K):tZ false Tryz.prog 83 [⟨113,1,(aV (dg 4294967296 m)).map .t⟩] [.one (tv (.bool b)),.one (.sl 0 0 (dg 4294967296 m).length)] (· =kO K):=by
 refine UQ Tryz.func83 rfl Tryz.ntmps83 rfl aA rfl fun N M w c0 h0=>?_
 refine sq ?_;refine rl ?_;refine al 1 ?_;refine nl ?_;refine sq ?_;refine rl ?_;refine o1 ?_;refine o1 ?_;refine WL.splitb (t:=6) rfl (fun h1=>?_) (fun h1=>?_)
 ·(iterate 6 refine o1 ?_);refine st ?_;refine nl ?_;refine rt ?_
  exact Bp (en (.inl rfl) rfl (aX (.agg (.cons (.id rfl) (.cons (.sl (trs:=aV (dg 4294967296 m)) rfl rfl (bR _) (bO _)) .nil)))) (by decide) (fun h=>by cases h) (hK▸tW (by rw[sC,h1,Bool.true_and,←lK (m:=m) rfl];exact decide_eq_decide.2 (by omega)) (iM _ _).symm))
 (iterate 3 refine dM ?_);(iterate 3 refine o1 ?_);refine st ?_;refine nl ?_;refine rt ?_
 exact Bp (en (.inl rfl) rfl (aX (.agg (.cons (.id rfl) (.cons (.sl (trs:=aV (dg 4294967296 m)) rfl rfl (bR _) (bO _)) .nil)))) (by decide) (fun h=>by cases h) (hK▸tW (by rw[sC,h1];rfl) (iM _ _).symm))
theorem Jm {k:Int}:aD false Tryz.prog 117 [] [kF k] (aN (kF (-k))):=by
 refine cB Tryz.func117 rfl Tryz.ntmps117 rfl aA rfl fun N w c0 h0=>?_
 refine sq ?_;refine rl ?_;refine bx 0 ?_;refine al 1 ?_;refine nl ?_;refine sq ?_;refine rl ?_;refine o1 ?_;refine o1 ?_;refine ld ?_;(iterate 3 refine o1 ?_);refine ld ?_
 refine ca (Uy (m:=k.natAbs) (K:=-k) (Nl k)) nZ ⟨a1 rfl,a1 rfl,rfl⟩ (kF (-k)) ?_;refine o1 ?_;refine st ?_;refine nl ?_;refine rt ?_
 exact en (.inl rfl) rfl (aX (.agg (.cons (.id rfl) (.cons (.id rfl) .nil)))) (by decide) (fun h=>by cases h) rfl
theorem CI {a:Zi}{k:Int}(ha:Zg a k):aD true Tryz.prog 86 [] [gF a] (aN (kO (-(k)))):=by
 refine cB Tryz.func86 rfl Tryz.ntmps86 rfl aA rfl fun N w c0 h0=>?_
 have hkl:=ha.len
 refine sq ?_;refine rl ?_;refine bx 0 ?_;refine al 1 ?_;refine nl ?_;refine sq ?_;refine rl ?_;refine ld ?_;refine ca (dT ha) dS ⟨aG rfl,rfl⟩ (kF (k)) ?_
 refine ca (Jm (k:=k)) BU ⟨aG rfl,rfl⟩ (kF (-(k))) ?_;refine al 2 ?_;refine st ?_;refine nl ?_;refine sq ?_;refine rd [0,1,2] (fun i=>[8].contains i) mixed ?_
 refine dv 0 ?_;refine dv 1 ?_;refine aO 2 ?_;refine dv 3 ?_;refine dv 4 ?_;refine aO 5 ?_
 refine lG 3 6 rfl (Nr (aL (by omega) _) (by have:=jO k;omega)) BV ⟨a1 rfl,rfl⟩ ?_
 refine df 7 ?_;refine dst 8 ?_;refine aQ ?_;refine rt ?_
 exact en (.inl rfl) rfl (aX (.agg (.cons (.id rfl) (.cons (.sl (trs:=aV (dg 4294967296 (-(k)).natAbs)) rfl rfl (bR _) (bO _)) .nil)))) (by decide) (fun _=>eM (-(k))) rfl
theorem QP {a:Zi}{k:Int}(ha:Zg a k):aD true Tryz.prog 87 [] [gF a] (aN (kO (((k.natAbs:Nat):Int)))):=by
 refine cB Tryz.func87 rfl Tryz.ntmps87 rfl aA rfl fun N w c0 h0=>?_
 have hkl:=ha.len
 refine sq ?_;refine rl ?_;refine bx 0 ?_;refine al 1 ?_;refine nl ?_;refine sq ?_;refine rl ?_;refine ld ?_;refine ca (dT ha) dS ⟨aG rfl,rfl⟩ (kF (k)) ?_;refine o1 ?_;refine o1 ?_
 refine iS 2 (Nr (aL (by omega) _) (by have:=jO k;omega)) BV ⟨a1 rfl,rfl⟩ ?_
 refine o1 ?_;refine st ?_;refine nl ?_;refine rt ?_
 exact en (.inl rfl) rfl (aX (.agg (.cons (.id rfl) (.cons (.sl (trs:=aV (dg 4294967296 k.natAbs)) rfl rfl (bR _) (bO _)) .nil)))) (by decide) (fun _=>Cq _ _) (tW (by unfold aH;simp) (by omega))
theorem Uz {k k':Int}(hk:(dg 4294967296 k.natAbs).length≤500000000000) (hk':(dg 4294967296 k'.natAbs).length≤500000000000):aD true Tryz.prog 116 [] [kF k,kF k'] (aN (kO (k+k'))):=by
 refine cB Tryz.func116 rfl Tryz.ntmps116 rfl aA rfl fun N w c0 h0=>?_
 have hal:=Cp (xs:=dg 4294967296 k.natAbs) (ys:=dg 4294967296 k'.natAbs) (aL (by omega) _) (aL (by omega) _)
 rw[bG,bG]at hal;refine sq ?_;refine rl ?_;refine bx 0 ?_;refine bx 1 ?_;refine al 2 ?_;refine nl ?_;refine sq ?_;refine sq ?_;refine rl ?_;refine o1 ?_;refine o1 ?_
 refine ld ?_;refine o1 ?_;refine o1 ?_;refine ld ?_;refine o1 ?_;refine nl ?_;refine nK rfl (fun h1=>?_) (fun h1=>?_)
 ·refine sq ?_;refine rd [0,1,2] (fun i=>[11].contains i) mixed ?_
  refine dv 0 ?_;refine dv 1 ?_;refine aO 2 ?_;refine dv 3 ?_;refine dv 4 ?_;refine aO 5 ?_;refine dv 6 ?_;refine dv 7 ?_;refine aO 8 ?_
  have hA:aD true Tryz.prog 139 [] [.one (.t (sU false (dg 4294967296 k.natAbs))),.one (.t (sU false (dg 4294967296 k'.natAbs)))] (aN (.one (.t (sU true (dg 4294967296 (k.natAbs+k'.natAbs)))))):=by have h9:=CH (aL (by omega) k.natAbs) (aL (by omega) k'.natAbs) (by omega) (by omega);rwa[bG,bG]at h9
  refine lG 3 9 rfl hA BW ⟨a1 rfl,a1 rfl,rfl⟩ ?_
  refine Bb 10 4 [3] rfl (gV (m:=(k.natAbs+k'.natAbs)) (K:=k+k') (Ed rfl (eq_of_beq h1))) nZ ⟨aK rfl,rfl⟩ ⟨rfl,rfl,rfl⟩ ⟨rfl,rfl,rfl,trivial⟩ ?_;refine dst 11 ?_
  refine aQ ?_;refine rt ?_
  exact en (.inl rfl) rfl (aX (.agg (.cons (.id rfl) (.cons (.sl (trs:=aV (dg 4294967296 (k+k').natAbs)) rfl rfl (bR _) (bO _)) .nil)))) (by decide) (fun _=>eM (k+k')) rfl
 refine sk ?_;refine sq ?_;refine sq ?_;refine rl ?_;refine o1 ?_;refine o1 ?_;refine ld ?_;refine o1 ?_;refine o1 ?_;refine ld ?_
 refine ca (QL (aL (by omega) _) (aL (by omega) _)) QF ⟨a1 rfl,a1 rfl,rfl⟩ (.one (tv (.int .i64 (mC (vl 4294967296 (dg 4294967296 (k).natAbs)) (vl 4294967296 (dg 4294967296 (k').natAbs)))))) ?_
 refine o1 ?_;refine nl ?_;refine bN rfl (fun h2=>?_) (fun h2=>?_)
 ·refine rl ?_;refine ld ?_;refine ld ?_;refine st ?_;refine st ?_;refine nl ?_;refine sq ?_;refine rl ?_;refine o1 ?_;refine o1 ?_;refine ld ?_;refine o1 ?_;refine o1 ?_;refine ld ?_
  have hlt:k.natAbs<k'.natAbs:=Decidable.byContradiction fun h8=>by rw[bG,bG]at h2;rcases Nat.lt_or_ge k'.natAbs k.natAbs with h7 | h7;(rw[lJ h7]at h2;omega);(rw[rZ (by omega)]at h2;omega)
  have hS:aD true Tryz.prog 141 [] [.one (.t (sU false (dg 4294967296 k'.natAbs))),.one (.t (sU false (dg 4294967296 k.natAbs)))] (aN (.tup [.one (.t (sU true (dg 4294967296 (k'.natAbs-k.natAbs)))),.one (tv (.int .i64 0))])):=by have h9:=Qe (aL (by omega) k'.natAbs) (aL (by omega) k.natAbs) (by omega) (by rw[bG,bG];omega);rwa[bG,bG]at h9
  refine iS 3 hS Pt ⟨a1 rfl,a1 rfl,rfl⟩ ?_;(iterate 5 refine o1 ?_);refine nl ?_;refine sq ?_;refine rl ?_;refine o1 ?_;refine o1 ?_;refine ld ?_;refine o1 ?_
  refine cm 4 [3] (gV (m:=(k'.natAbs-k.natAbs)) (K:=k+k') (No rfl (ne_of_beq_false h1) hlt)) nZ ⟨aK rfl,rfl⟩ ⟨rfl,rfl,rfl⟩ ?_;refine st ?_;refine nl ?_;refine rt ?_
  exact en (.inl rfl) rfl (aX (.agg (.cons (.id rfl) (.cons (.sl (trs:=aV (dg 4294967296 (k+k').natAbs)) rfl rfl (bR _) (bO _)) .nil)))) (by decide) (fun _=>eM (k+k')) rfl
 refine sk ?_;refine sq ?_;refine rl ?_;refine o1 ?_;refine o1 ?_;refine ld ?_;refine o1 ?_;refine o1 ?_;refine ld ?_
 have hlt:¬k.natAbs<k'.natAbs:=fun h8=>h2 (by rw[bG,bG,oW h8];omega)
 have hS:aD true Tryz.prog 141 [] [.one (.t (sU false (dg 4294967296 k.natAbs))),.one (.t (sU false (dg 4294967296 k'.natAbs)))] (aN (.tup [.one (.t (sU true (dg 4294967296 (k.natAbs-k'.natAbs)))),.one (tv (.int .i64 0))])):=by have h9:=Qe (aL (by omega) k.natAbs) (aL (by omega) k'.natAbs) (by omega) (by rw[bG,bG];omega);rwa[bG,bG]at h9
 refine iS 3 hS Pt ⟨a1 rfl,a1 rfl,rfl⟩ ?_;(iterate 5 refine o1 ?_);refine nl ?_;refine sq ?_;refine rl ?_;refine o1 ?_;refine o1 ?_;refine ld ?_;refine o1 ?_
 refine cm 4 [3] (gV (m:=(k.natAbs-k'.natAbs)) (K:=k+k') (Nn rfl (ne_of_beq_false h1) hlt)) nZ ⟨aK rfl,rfl⟩ ⟨rfl,rfl,rfl⟩ ?_;refine st ?_;refine nl ?_;refine rt ?_
 exact en (.inl rfl) rfl (aX (.agg (.cons (.id rfl) (.cons (.sl (trs:=aV (dg 4294967296 (k+k').natAbs)) rfl rfl (bR _) (bO _)) .nil)))) (by decide) (fun _=>eM (k+k')) rfl
theorem CJ {a b:Zi}{k k':Int}(ha:Zg a k) (hb:Zg b k'):aD true Tryz.prog 89 [] [gF a,gF b] (aN (kO (k+k'))):=by
 refine cB Tryz.func89 rfl Tryz.ntmps89 rfl aA rfl fun N w c0 h0=>?_
 have hkl:=ha.len
 have hkl':=hb.len
 refine sq ?_;refine rl ?_;refine bx 0 ?_;refine bx 1 ?_;refine al 2 ?_;refine nl ?_;refine sq ?_;refine rd [0,1,2] (fun i=>[5].contains i) mixed ?_
 refine aO 0 ?_;refine aO 2 ?_;refine bD 1 rfl (dT ha) dS ⟨aG rfl,rfl⟩ (kF (k)) ?_;refine bD 3 rfl (dT hb) dS ⟨aG rfl,rfl⟩ (kF (k')) ?_
 refine lG 3 4 rfl (Uz (k:=k) (k':=k') (by omega) (by omega)) BT ⟨aG rfl,aG rfl,rfl⟩ ?_
 refine dst 5 ?_;refine aQ ?_;refine rt ?_
 exact en (.inl rfl) rfl (aX (.agg (.cons (.id rfl) (.cons (.sl (trs:=aV (dg 4294967296 ((k+k')).natAbs)) rfl rfl (bR _) (bO _)) .nil)))) (by decide) (fun _=>eM ((k+k'))) rfl
theorem QQ {a b:Zi}{k k':Int}(ha:Zg a k) (hb:Zg b k'):aD true Tryz.prog 81 [] [gF a,gF b] (aN (kO (k-k'))):=by
 refine cB Tryz.func81 rfl Tryz.ntmps81 rfl aA rfl fun N w c0 h0=>?_
 have hkl:=ha.len
 have hkl':=hb.len
 have hkn:=jO k'
 refine sq ?_;refine rl ?_;refine bx 0 ?_;refine bx 1 ?_;refine al 2 ?_;refine nl ?_;refine sq ?_;refine rd [0,1,2] (fun i=>[6].contains i) mixed ?_
 refine aO 0 ?_;refine aO 2 ?_;refine bD 1 rfl (dT ha) dS ⟨aG rfl,rfl⟩ (kF (k)) ?_;refine bD 3 rfl (dT hb) dS ⟨aG rfl,rfl⟩ (kF (k')) ?_
 refine bD 4 rfl (Jm (k:=k')) BU ⟨aG rfl,rfl⟩ (kF (-(k'))) ?_;refine lG 3 5 rfl (Uz (k:=k) (k':=(-(k'))) (by omega) (by omega)) BT ⟨aG rfl,aG rfl,rfl⟩ ?_
 refine dst 6 ?_;refine aQ ?_;refine rt ?_
 exact en (.inl rfl) rfl (aX (.agg (.cons (.id rfl) (.cons (.sl (trs:=aV (dg 4294967296 ((k+(-(k')))).natAbs)) rfl rfl (bR _) (bO _)) .nil)))) (by decide) (fun _=>eM ((k+(-(k'))))) (by rw[Int.sub_eq_add_neg];rfl)
theorem Bc {a:Zi}{k:Int}(ha:Zg a k):aD true Tryz.prog 49 [] [gF a] (aN (.one (tv (.int .i64 k.sign)))):=by
 refine cB Tryz.func49 rfl Tryz.ntmps49 rfl aA rfl fun N w c0 h0=>?_
 refine sq ?_;refine rl ?_;refine bx 0 ?_;refine o1 ?_;refine nl ?_;refine sq ?_;refine sq ?_;refine rl ?_;refine ld ?_;refine ca (dT ha) dS ⟨aG rfl,rfl⟩ (kF (k)) ?_;refine al 1 ?_
 refine st ?_;refine nl ?_;refine bl ?_;refine sq ?_;refine rl ?_;refine o1 ?_;refine o1 ?_;refine ld ?_;refine o1 ?_;refine nl ?_;refine nK rfl (fun h1=>?_) (fun h1=>?_)
 ·refine sq ?_;refine rl ?_;refine o1 ?_;refine nl ?_;refine rt ?_;refine en (.inl rfl) rfl (aX (cN _)) (by decide) (fun _=>trivial) (congrArg (fun z=>FV.one (tv (.int .i64 z))) ?_)
  have h9:k<0:=of_decide_eq_true h1
  exact(Int.sign_eq_neg_one_of_neg h9).symm
 refine sq ?_;refine rl ?_;refine o1 ?_;refine o1 ?_;refine ld ?_;(iterate 3 refine o1 ?_);refine nl ?_;refine bN rfl (fun h2=>?_) (fun h2=>?_)
 ·refine sq ?_;refine rl ?_;refine o1 ?_;refine nl ?_;refine rt ?_;refine en (.inl rfl) rfl (aX (cN _)) (by decide) (fun _=>trivial) (congrArg (fun z=>FV.one (tv (.int .i64 z))) ?_)
  have h9:¬k<0:=of_decide_eq_false h1
  have h8:=lK (m:=k.natAbs) rfl
  have h7:decide (0<k.natAbs)=true:=by rw[←h8];exact decide_eq_true (by omega)
  have h6:=of_decide_eq_true h7
  exact(Int.sign_eq_one_of_pos (by omega)).symm
 refine sk ?_;refine sq ?_;refine rl ?_;refine o1 ?_;refine nl ?_;refine rt ?_
 refine en (.inl rfl) rfl (aX (cN _)) (by decide) (fun _=>trivial) (congrArg (fun z=>FV.one (tv (.int .i64 z))) ?_)
 have h9:¬k<0:=of_decide_eq_false h1
 have h8:=lK (m:=k.natAbs) rfl
 have h7:decide (0<k.natAbs)=false:=by rw[←h8];exact decide_eq_false (by omega)
 have h6:=of_decide_eq_false h7
 obtain rfl:k=0:=by omega
 rfl
theorem Qg {a b:Zi}{k k':Int}(ha:Zg a k) (hb:Zg b k') (hs:(dg 4294967296 (k-k').natAbs).length≤300000000000):aD true Tryz.prog 47 [] [gF a,gF b] (aN (.one (tv (.int .i64 (k-k').sign)))):=by
 refine cB Tryz.func47 rfl Tryz.ntmps47 rfl aA rfl fun N w c0 h0=>?_
 have hkl:=ha.2.1;have hkl2:=ha.len;have hkl3:=hb.len
 refine sq ?_;refine rl ?_;refine bx 0 ?_;refine bx 1 ?_;refine o1 ?_;refine nl ?_;refine sq ?_;refine rl ?_;refine ld ?_;refine ld ?_
 refine ca (QQ ha hb) TS ⟨aG rfl,aG rfl,rfl⟩ (kF (k-k')) ?_;refine ca (Bc (Zg.of (k:=k-k') hs)) Pq ⟨aG rfl,rfl⟩ (.one (tv (.int .i64 (k-k').sign))) ?_;refine o1 ?_
 refine nl ?_;refine rt ?_;exact en (.inl rfl) rfl (aX (cN _)) (by decide) (fun _=>trivial) rfl
end Go.Proofs.YtbbabfkgdnkehaaGreat
