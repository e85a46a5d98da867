/- Part 7 of a proof: Fq to Ta. -/
import Derived.Test.YtimiaildfkimfaaGreatDoorM4
import Derived.Test.YtimiaildfkimfaaGreatDoorM6
import Derived.Test.YtimiaildfkimfaaGreatDoorM5
import Derived.Laws.BytesArg
import Derived.Shelf.Strings.Trim
import Derived.Shelf.Strings.SlTrimAscii
import Derived.Test.YtimiaildfkimfaaGreatDoorProg
import Derived.Shelf.Strings.Repeat
import Derived.Shelf.Bits.Mul64
set_option maxRecDepth 100000
set_option linter.unusedVariables false
set_option linter.unusedSimpArgs false
namespace Go.Proofs.YtimiaildfkimfaaGreatDoor
open Go Go.RowKit
def bF (xs:List Nat):List Tr:=xs.map fun(n:Nat)=>.v (.int .u32 (n:Int))
def sU (o:Bool) (xs:List Nat):Tr:=.s o 223 1 xs.length (bF xs)
theorem kS (xs:List Nat):(bF xs).length=xs.length:=by simp[bF]
theorem VZ (xs:List Nat):fQ ((bF xs).map .t)=true:=by
 induction xs with
 | nil=>rfl
 | cons x xs ih=>simpa[bF,fQ,rL]using ih
theorem GV (xs:List Nat):dR ((bF xs).map .t)=true:=by
 induction xs with
 | nil=>rfl
 | cons x xs ih=>simpa[bF,dR,lone]using ih
theorem gW (xs:List Nat):NoFrL (bF xs):=by
 induction xs with
 | nil=>simp[bF,NoFrL]
 | cons x xs ih=>simpa[bF,NoFrL,qQ]using ih
structure Fr4 where
 s:Bool
 x:List Nat
 t:Bool
 y:List Nat
namespace Fr4
def tr (o:Bool) (a:Fr4):List Tr:=[.v (.bool a.s),sU o a.x,.v (.bool a.t),sU o a.y]
def q (a:Fr4):Rat:=Cz a.s a.x a.t a.y
def of (q:Rat):Fr4:=⟨aZ q.num,dg 4294967296 q.num.natAbs,false,dg 4294967296 q.den⟩
def ok (a:Fr4):Prop:=Lim 4294967296 a.x/\Lim 4294967296 a.y/\a.x.length<=68719476736/\a.y.length<=68719476736
theorem q_of (q:Rat):(of q).q=q:=YP q
end Fr4
def qF (a:Fr4):FV:=.agg ((a.tr false).map .t)
def qO (q:Rat):FV:=.agg (((Fr4.of q).tr true).map .t)
theorem Oo (q:Rat):nN (qO q):=by
 simp only[nN,qO,sZ,Fr4.tr,List.map_cons,List.map_nil,nT,wF,sU,qQ]
 exact⟨trivial,.inl ⟨trivial,gW _⟩,trivial,.inl ⟨trivial,gW _⟩,trivial⟩
section
variable {W:World}{N:Nat->Prop}
theorem Ks {o:Bool}{xs:List Nat}{u:Value}(h:FR W N (sU o xs) u) (hl:Lim 4294967296 xs):∃A c,u=.slice A xs.length c/\LimR W N A xs.length c xs:=by
 simp only[sU,FR]at h
 obtain⟨A,c,rfl,h1,h2,h3,h4⟩:=h
 refine⟨A,c,rfl,rfl,h1,h2,hl,fun hn=>?_⟩
 rcases h4 with h4 | ⟨ad,rfl,h5,h6⟩
 ·omega
 refine⟨ad,rfl,h5,fun k u hk=>?_⟩
 simp only[iV,List.getElem?_map,Option.map_eq_some_iff]at hk
 obtain⟨m,hm,rfl⟩:=hk
 obtain⟨u,e1,e2⟩:=rP h6 (j:=k) (x:=.v (.int .u32 (m:Int))) (by simp[bF,hm])
 simp only[FR]at e2
 rw[Nat.zero_add]at e1
 rw[e1,e2]
theorem xW {t:TypeId}{base n c:Nat}{A:Option Addr}{xs:List Nat}(h:Own t W base A n c xs):∃y:VT,y.val=.slice A n c/\OR W N (.s true t 1 xs.length (bF xs)) y/\y.ok W/\y.fp=(Value.slice A n c).ownBlock.toList:=by
 have hl:=h.len
 rcases h.row.2 with⟨h2,h3⟩ | ⟨g,cap,cur,hv,_,hg,hnc,hcm,hcs,htake⟩
 ·injection h2 with e1 e2 e3
  subst e1 e3
  subst h3
  have:xs=[]:=List.eq_nil_of_length_eq_zero hl
  subst this
  exact⟨.w (.slice none 0 0),rfl,by simp[OR,bF],by simp[VT.ok],by simp[VT.fp,Value.ownBlock]⟩
 injection hv with e1 e2 e3
 subst e1 e3
 have hor:ORL W N (bF xs) ((iV xs).map VT.w):=by
  clear hl htake h
  induction xs with
  | nil=>simp[bF,iV,ORL]
  | cons x xs ih=>simpa[bF,iV,ORL,OR]using ih
 refine⟨.s g c t 1 n ((iV xs).map .w),rfl,?_,?_,by simp[VT.fp,oP,Value.ownBlock]⟩
 ·simp only[OR]
  exact⟨trivial,hl.symm,trivial,trivial,hor⟩
 simp only[VT.ok]
 refine⟨⟨cur.toList.drop (n*1),?_,?_⟩,hnc,hcm,by simp[mW,hl],wY _⟩
 ·rw[wZ,<-htake,List.take_append_drop]
  simpa using hg
 rw[wZ,<-htake,List.take_append_drop]
 simpa using hcs
end
section
variable {f:FuncId}{args:List FV}
theorem vH {N:Nat->Prop}{w:World}{cs:List Co}{us:List Value}(hL:Loc ((aL (bR []) cs).flatMap Res.S) w w (aL (bR []) cs) [(DD [] cs args us).on N]):cs=[]/\dM w (fun b=>b<w.heap.size/\N b) [] args us:=by
 have h:=Sh.off (hL.sh 0 rfl)
 have hc:cs=[]:=List.eq_nil_of_length_eq_zero (by have:=h.1.1;simpa[bR]using this.symm)
 subst hc
 exact⟨rfl,nR (fun _ _=>rfl) (fun b hb=>⟨hb.1.1,hb.2⟩) .refl _ _ h.2⟩
theorem Ended.mk0 {fresh:Bool}{N:Nat->Prop}{M:List Nat}{w W:World}{R:List Lt->FV->Prop}{v:Value}{r:FV}{y:List VT}(hR:R [] r) (hb:Below w.heap.size w W) (hok:VT.okL W y) (hnd:(VT.fpL y).Nodup) (hfp:∀b∈VT.fpL y,w.heap.size<=b/\b<W.heap.size)
  (hro:RO W (fun b=>fresh=false/\(b<W.heap.size/\b∉VT.fpL y)/\(N b\/w.heap.size<=b)) [] r v y):Ended fresh N M w [] [] R (.returned v) W:=by
 refine⟨v,[],[],r,y,rfl,hR,rfl,fun _ _ _ h=>by simp at h,rfl,.refl,?_⟩
 refine⟨⟨hb.os,hb.tape,hb.output,hb.size,fun k hk _=>hb.block k hk⟩,fun q hq=>?_,fun b hb=>?_,by simpa[bR,aL,gG]using hnd,fun q hq=>?_⟩
 ·simp[bR,aL]at hq
  subst hq
  exact hok
 ·have:=hfp b (by simpa[bR,aL,gG]using hb)
  exact⟨.inr this.1,this.2⟩
 simp at hq
 subst hq
 refine⟨⟨rfl,fun k o hk=>by simp[bR]at hk⟩,vA (fun _ _=>rfl) (fun b hb=>⟨hb.1,⟨⟨hb.2.1.1,?_⟩,hb.2.2.elim .inl fun h=>.inr (.inr h)⟩⟩) .refl hro⟩
 simpa[bR,aL,gG]using hb.2.1.2
theorem sL {v:Value}(h:∀(N:Nat->Prop) (w:World) us,dM w N [] args us->(∀b,N b->b<w.heap.size)->Calls Tryz.prog f us.toArray w (fun e w'=>e=.returned v/\Below w.heap.size w w')):aE true Tryz.prog f [] args (aP (.one (tv v))):=by
 intro N w cs us hL
 obtain⟨rfl,hf⟩:=vH hL
 refine(h _ w us hf (fun b hb=>hb.1)).mono ?_
 rintro e W ⟨rfl,hb⟩
 refine .mk0 (y:=[.w v]) rfl hb (by simp[VT.okL,VT.ok]) (by simp[VT.fpL,VT.fp]) (by simp[VT.fpL,VT.fp]) ⟨.w v,rfl,rfl,?_⟩
 simp[CR,tv,OR]
end
theorem uE {W:World}{N:Nat->Prop}{a b:FV}{us:List Value}(h:dM W N [] [a,b] us):∃u v,us=[u,v]/\cE W N [] a u/\cE W N [] b v:=by
 match us,h with
 | [u,v],h=>
  simp only[dM]at h
  exact⟨u,v,rfl,h.1,h.2.1⟩
 | [],h=>simp only[dM]at h
 | [_],h=>simp only[dM]at h;exact h.2.elim
 | _::_::_::_,h=>simp only[dM]at h;exact absurd h.2.2 (by simp)
theorem Xj {W:World}{N:Nat->Prop}{a:FV}{us:List Value}(h:dM W N [] [a] us):∃u,us=[u]/\cE W N [] a u:=by
 match us,h with
 | [u],h=>
  simp only[dM]at h
  exact⟨u,rfl,h.1⟩
 | [],h=>simp only[dM]at h
 | _::_::_,h=>simp only[dM]at h;exact absurd h.2 (by simp)
section
variable {a b:Fr4}
end
theorem pD (xs:List Nat){k:Nat}(h:k<xs.length):((bF xs).drop (k*1)).take [Tr.v (.int .u32 ((nth xs k:Nat):Int))].length=[Tr.v (.int .u32 ((nth xs k:Nat):Int))]:=by
 rw[Nat.mul_one]
 have:(bF xs)[k]? =some (Tr.v (.int .u32 ((nth xs k:Nat):Int))):=by simp[bF,dT h,h]
 rw[List.length_singleton,List.take_one]
 simp[this]
theorem dC {x:Cx}{g:Nat->FV}{ob:List (Option Ob)}(h0:x.c0.length=0) (τ:List Nat) (live:List (Nat×FV)) (os:List Ob) (hn:τ.Nodup) (h1:vT τ g live) (h2:kA τ ob τ os):Sub x g ob (bP live) (os.map some):=
 su τ (fun k hk=>by rw[h0]at hk;cases hk) live os hn h1 h2
theorem cC (xs:List Nat):((bF xs).map AV.t).take (xs.length*1)=(bF xs).map .t:=by rw[Nat.mul_one,cT (by simp[kS])]
theorem bT (xs:List Nat):(bF xs).length=xs.length*1:=by simp[kS]
def rO (a:Fr4):FV:=.agg ((a.tr true).map .t)
theorem xV (a:Fr4):nN (rO a):=by
 simp only[nN,rO,sZ,Fr4.tr,List.map_cons,List.map_nil,nT,wF,sU,qQ]
 exact⟨trivial,.inl ⟨trivial,gW _⟩,trivial,.inl ⟨trivial,gW _⟩,trivial⟩
theorem YQ {a b:Fr4}:a=b↔(a.s=b.s/\a.t=b.t)/\a.x=b.x/\a.y=b.y:=by
 obtain⟨s,x,t,y⟩:=a
 obtain⟨s',x',t',y'⟩:=b
 simp only[Fr4.mk.injEq]
 constructor
 ·rintro⟨h1,h2,h3,h4⟩
  exact⟨⟨h1,h3⟩,h2,h4⟩
 rintro⟨⟨h1,h3⟩,h2,h4⟩
 exact⟨h1,h2,h3,h4⟩
instance:DecidableEq Fr4:=fun a b=>decidable_of_iff _ YQ.symm
def Fr4.len (a:Fr4) (m:Nat):Prop:=a.x.length<=m/\a.y.length<=m
theorem aH {x:Cx}{g:Nat->FV}{ob:List (Option Ob)}{live:List (Nat×FV)}{os:List Ob}(h0:x.c0.length=0) (τ:List Nat) (h2:kA τ ob τ os) (hn:τ.Nodup:=by decide) (h1:vT τ g live:=by repeat' first | exact trivial | refine⟨rfl,?_⟩):Sub x g ob (bP live) (os.map some):=dC h0 τ live os hn h1 h2
def hv:List Nat->List Nat
 | []=>[]
 | x::xs=>x%65536::x/65536::hv xs
def lb:List Nat->List Nat
 | []=>[]
 | [a]=>[a]
 | a::b::l=>(a+65536*b)::lb l
theorem Ms:∀(a b:List Nat),hv (a++b)=hv a++hv b
 | [],_=>rfl
 | x::xs,b=>by simp only[List.cons_append,hv,Ms xs b]
theorem vY:∀(a:List Nat),(hv a).length=2*a.length
 | []=>rfl
 | x::xs=>by simp only[hv,List.length_cons,vY xs];omega
theorem ED:∀{a:List Nat},Lim 4294967296 a->Lim 65536 (hv a)
 | [],_=>Lim.nil
 | x::xs,h=>Lim.cons (Nat.mod_lt _ (by omega)) (Lim.cons (by have:=h.head;omega) (ED h.tail))
theorem LP:∀(a:List Nat),vl 65536 (hv a)=vl 4294967296 a
 | []=>rfl
 | x::xs=>by
  simp only[hv,iF,LP xs]
  have:=Nat.mod_add_div x 65536
  omega
theorem LQ {a:List Nat}(h:Lim 4294967296 a):trim (hv a)=dg 65536 (vl 4294967296 a):=by rw[<-LP,fR (by omega) (ED h)]
theorem Wo {a:List Nat}{k:Nat}(h:k<a.length):hv (a.take (k+1))=hv (a.take k)++[nth a k%65536,nth a k/65536]:=by
 rw[tW h,Ms]
 rfl
theorem LR:∀(a:List Nat),vl 4294967296 (lb a)=vl 65536 a
 | []=>rfl
 | [a]=>by simp[lb,xN]
 | a::b::l=>by
  simp only[lb,iF,LR l]
  omega
theorem EE:∀{a:List Nat},Lim 65536 a->Lim 4294967296 (lb a)
 | [],_=>Lim.nil
 | [a],h=>Lim.cons (by have:=h.head;omega) Lim.nil
 | a::b::l,h=>Lim.cons (by have:=h.head;have:=h.tail.head;omega) (EE h.tail.tail)
theorem lS:∀(a:List Nat),(lb a).length=(a.length+1)/2
 | []=>rfl
 | [a]=>by simp[lb]
 | a::b::l=>by simp only[lb,List.length_cons,lS l];omega
theorem YR {a:List Nat}(h:lb a=[]):a=[]:=by
 rcases a with _ | ⟨x,_ | ⟨y,l⟩⟩
 ·rfl
 ·simp[lb]at h
 simp[lb]at h
theorem Wp:∀{a:List Nat},trim a=a->trim (lb a)=lb a
 | [],_=>rfl
 | [a],h=>h
 | a::b::l,h=>by
  have hl:trim l=l:=by
   rw[fJ]at h
   split at h
   ·cases h
   injection h with _ h
   rw[fJ]at h
   split at h
   ·cases h
   injection h
  have ih:=Wp hl
  simp only[lb]
  rw[fJ,ih]
  split
  ·rename_i hc
   have h0:=YR hc.1
   subst h0
   rw[fJ,fJ,FF]at h
   have hb:b=0:=by omega
   have ha:a=0:=by omega
   subst hb ha
   simp at h
  rfl
theorem En (v:Nat):lb (dg 65536 v)=dg 4294967296 v:=by
 have h:=Wp (xP (B:=65536) (by omega) v)
 rw[<-h,<-fR (B:=4294967296) (by omega) (EE (aU (by omega) v)),LR,cL (by omega)]
theorem Eo:∀{l:List Nat}{k:Nat},2*k<l.length->lb (l.take (2*(k+1)))=lb (l.take (2*k))++[nth l (2*k)+65536*nth l (2*k+1)]
 | [],_,h=>by simp at h
 | [a],0,_=>by simp[lb,nth]
 | [a],k+1,h=>by simp at h
 | a::b::l,0,_=>by simp[lb,nth]
 | a::b::l,k+1,h=>by
  have ih:=Eo (l:=l) (k:=k) (by simp at h;omega)
  have e1:2*(k+1+1)=2*(k+1)+1+1:=by omega
  have e2:2*(k+1)=2*k+1+1:=by omega
  rw[e1,List.take_succ_cons,List.take_succ_cons]
  simp only[lb]
  rw[ih,e2,List.take_succ_cons,List.take_succ_cons]
  simp only[lb,List.cons_append]
  simp[nth]
theorem eZ {v L:Nat}(h:(dg 4294967296 v).length<=L):(dg 65536 v).length<=2*L:=by
 have h1:=qP (B:=4294967296) (by omega) (n:=v)
 refine cW (by omega) (Nat.lt_of_lt_of_le h1 ?_)
 rw[Nat.pow_mul]
 exact Nat.pow_le_pow_right (by omega) h
theorem Sb {X Y os:List Nat}{k cr:Nat}(hl:os.length=k) (h:vl 65536 os+65536^k*cr=vl 65536 (X.take k)+vl 65536 (Y.take k)):
  vl 65536 (os++[(nth X k+nth Y k+cr)%65536])+65536^(k+1)*((nth X k+nth Y k+cr)/65536)=vl 65536 (X.take (k+1))+vl 65536 (Y.take (k+1)):=by
 rw[oF,cD,cD,hl,Nat.pow_succ,Nat.mul_assoc]
 have h2:=Nat.mod_add_div (nth X k+nth Y k+cr) 65536
 have h3:65536^k*(nth X k+nth Y k+cr)=65536^k*((nth X k+nth Y k+cr)%65536)+65536^k*(65536*((nth X k+nth Y k+cr)/65536)):=by rw[<-Nat.mul_add,h2]
 rw[Nat.mul_add,Nat.mul_add]at h3
 omega
theorem Sc {X Y os:List Nat}{k br br' d:Nat}(hl:os.length=k) (h:vl 65536 os+vl 65536 (Y.take k)=vl 65536 (X.take k)+65536^k*br) (hd:d+nth Y k+br=nth X k+65536*br'):
  vl 65536 (os++[d])+vl 65536 (Y.take (k+1))=vl 65536 (X.take (k+1))+65536^(k+1)*br':=by
 rw[oF,cD,cD,hl,Nat.pow_succ,Nat.mul_assoc]
 have h3:65536^k*(d+nth Y k+br)=65536^k*(nth X k+65536*br'):=by rw[hd]
 rw[Nat.mul_add,Nat.mul_add,Nat.mul_add]at h3
 omega
theorem YS {a b:Nat}(h:¬((a:Int)-(b:Int)).sign<0):b<=a:=by
 rcases Nat.lt_or_ge a b with h1 | h1
 ·exact absurd (by rw[Int.sign_eq_neg_one_of_neg (by omega)];omega) h
 exact h1
theorem YT {a b:Nat}(h:((a:Int)-(b:Int)).sign<0):a<b:=by
 rcases Nat.lt_or_ge a b with h1 | h1
 ·exact h1
 exact absurd (Int.sign_neg_iff.1 h) (by omega)
theorem Oe {X Y:List Nat}{k:Nat}(hX:Lim 65536 X) (hk:∀j,k+1<=j->nth X j=nth Y j) (h:nth X k<nth Y k):vl 65536 X<vl 65536 Y:=by
 have hS:∀m,vl 65536 (X.take (k+1+m))+vl 65536 (Y.take (k+1))=vl 65536 (Y.take (k+1+m))+vl 65536 (X.take (k+1)):=by
  intro m
  induction m with
  | zero=>exact Nat.add_comm _ _
  | succ m ih=>
   rw[<-Nat.add_assoc,cD 65536 X (k+1+m),cD 65536 Y (k+1+m),hk (k+1+m) (by omega)]
   omega
 have h1:=hS (X.length+Y.length)
 rw[cK 65536 (l:=X) (k:=k+1+(X.length+Y.length)) (by omega),cK 65536 (l:=Y) (k:=k+1+(X.length+Y.length)) (by omega)]at h1
 have h2:vl 65536 (X.take (k+1))<vl 65536 (Y.take (k+1)):=by
  rw[cD,cD]
  have h3:=fY (hX.take k)
  have h4:65536^(X.take k).length<=65536^k:=Nat.pow_le_pow_right (by omega) (by rw[dU];omega)
  have h5:65536^k*(nth X k+1)<=65536^k*nth Y k:=Nat.mul_le_mul_left _ h
  rw[Nat.mul_add]at h5
  omega
 omega
theorem EF {X Y:List Nat}(h:∀j,nth X j=nth Y j):vl 65536 X=vl 65536 Y:=by
 have hS:∀m,vl 65536 (X.take m)=vl 65536 (Y.take m):=by
  intro m
  induction m with
  | zero=>rfl
  | succ m ih=>rw[cD,cD,ih,h]
 have h1:=hS (X.length+Y.length)
 rwa[cK 65536 (l:=X) (k:=X.length+Y.length) (by omega),cK 65536 (l:=Y) (k:=X.length+Y.length) (by omega)]at h1
def eR (xs:List Nat):List Tr:=xs.map fun(n:Nat)=>.v (.int .i64 (n:Int))
def sI (o:Bool) (xs:List Nat):Tr:=.s o 3 1 xs.length (eR xs)
theorem kY (xs:List Nat):(eR xs).length=xs.length:=by simp[eR]
theorem fD (xs:List Nat){k:Nat}(h:k<xs.length):((eR xs).drop (k*1)).take [Tr.v (.int .i64 ((nth xs k:Nat):Int))].length=[Tr.v (.int .i64 ((nth xs k:Nat):Int))]:=by
 rw[Nat.mul_one]
 have:(eR xs)[k]? =some (Tr.v (.int .i64 ((nth xs k:Nat):Int))):=by simp[eR,dT h,h]
 rw[List.length_singleton,List.take_one]
 simp[this]
theorem kZ (xs ys:List Nat):(eR xs).map AV.t++(eR ys).map .t=(eR (xs++ys)).map .t:=by simp[eR]
theorem Sd (xs ys:List Nat):(bF xs).map AV.t++(bF ys).map .t=(bF (xs++ys)).map .t:=by simp[bF]
theorem EG (xs:List Nat) (k:Nat):(eR xs).take (k*1)=eR (xs.take k):=by simp[eR,List.map_take]
theorem EH {xs:List Nat}{m:Nat}(h:m<=xs.length):FV.one (.t (.s false 3 1 m ((eR xs).take (m*1))))=.one (.t (sI false (xs.take m))):=by
 rw[EG]
 unfold sI
 rw[dU,Nat.min_eq_left h]
theorem YU (xs:List Nat):fQ ((eR xs).map .t)=true:=by
 induction xs with
 | nil=>rfl
 | cons x xs ih=>simpa[eR,fQ,rL]using ih
theorem IM (xs:List Nat):dR ((eR xs).map .t)=true:=by
 induction xs with
 | nil=>rfl
 | cons x xs ih=>simpa[eR,dR,lone]using ih
theorem lG (a b:Nat):Int.tmod (a:Int) (b:Int)=((a%b:Nat):Int):=by
 rw[Int.tmod_eq_emod_of_nonneg (by omega)]
 rfl
theorem gI (a b:Nat):Int.tdiv (a:Int) (b:Int)=((a/b:Nat):Int):=by
 rw[Int.tdiv_eq_ediv_of_nonneg (by omega)]
 rfl
theorem jC {k:IntKind}{a:Nat}(b:Nat) (hb:b≠0) (h:jU k (a:Int)):(b:Int)≠0/\jU k (Int.tdiv (a:Int) (b:Int)):=by
 refine⟨by omega,?_⟩
 rw[gI]
 have:=Nat.div_le_self a b
 generalize a/b=c at this⊢
 cases k <;> simp only[jU]at h⊢ <;> omega
section
variable {x:Cx}{g:Nat->FV}{ob:List (Option Ob)}
theorem Cc {i k n:Nat}{zs zs':List Nat}(hi:Nat.blt i x.n=true) (hg:g i=.one (.sl k 0 n)) (ho:cR ob k=some ⟨3,1,(eR zs).map .t⟩) (hn:n=zs.length) (he:zs=zs'):Sub x g ob (bG g i (.one (.t (sI false zs')))) (ob.set k none):=by
 subst he
 have:=fz hi hg ho (by rw[kY,hn,Nat.mul_one])
 rw[hn]at this
 exact this
theorem fzU {i k n:Nat}{zs zs':List Nat}(hi:Nat.blt i x.n=true) (hg:g i=.one (.sl k 0 n)) (ho:cR ob k=some ⟨223,1,(bF zs).map .t⟩) (hn:n=zs.length) (he:zs=zs'):Sub x g ob (bG g i (.one (.t (sU false zs')))) (ob.set k none):=by
 subst he
 have:=fz hi hg ho (by rw[kS,hn,Nat.mul_one])
 rw[hn]at this
 exact this
theorem rE {τ:List Nat}{a:Option Ob}{xs ys:List Nat}{l:List AV}(h1:a=some ⟨3,1,l⟩) (h:l=(eR ys).map .t) (he:ys=xs):Md τ a ⟨3,1,(eR xs).map .t⟩:=aD (by rw[h1,h,he])
theorem EI {τ:List Nat}{a:Option Ob}{xs ys:List Nat}{l:List AV}(h1:a=some ⟨223,1,l⟩) (h:l=(bF ys).map .t) (he:ys=xs):Md τ a ⟨223,1,(bF xs).map .t⟩:=aD (by rw[h1,h,he])
end
section
variable {l:List Nat}{k N:Nat}{z:Int}{xs:List Nat}{neg:Bool}
theorem Je (hr:eV neg xs=false):eP neg xs=0:=by simp[eP,hr]
theorem rF (h:xs.length=0):eV neg xs= !neg:=by
 rw[List.length_eq_zero_iff]at h
 subst h
 simp[eV]
theorem Ar {n:Nat}(hn:xs.length=n) (h:0<n):eV neg xs=decide (((nth xs (n-1):Nat):Int)≠0):=by
 subst hn
 rcases xs with _ | ⟨x,l⟩
 ·simp at h
 simp only[eV,List.isEmpty_cons,Bool.false_and,Bool.not_false,Bool.true_and,Bool.false_or]
 by_cases h0:nth (x::l) ((x::l).length-1)=0
 ·rw[h0];rfl
 rw[bne_iff_ne.2 h0,decide_eq_true (by omega)]
theorem Wq (k:Int):dV (!(aZ k)) k.natAbs=-k:=by
 unfold dV aZ
 by_cases h:k<0 <;> simp[h] <;> omega
theorem Kt {xs ys:List Nat}(hx:Lim 4294967296 xs) (hy:Lim 4294967296 ys):(dg 4294967296 (vl 4294967296 xs+vl 4294967296 ys)).length<=xs.length+ys.length+1:=by
 refine cW (by omega) ?_
 have h1:=fY hx
 have h2:=fY hy
 have h3:4294967296^xs.length<=4294967296^(xs.length+ys.length):=Nat.pow_le_pow_right (by omega) (by omega)
 have h4:4294967296^ys.length<=4294967296^(xs.length+ys.length):=Nat.pow_le_pow_right (by omega) (by omega)
 rw[Nat.pow_succ]
 omega
theorem Ws {xs ys:List Nat}(hx:Lim 4294967296 xs):(dg 4294967296 (vl 4294967296 xs-vl 4294967296 ys)).length<=xs.length:=cW (by omega) (Nat.lt_of_le_of_lt (Nat.sub_le _ _) (fY hx))
theorem QA {xs ys:List Nat}(hx:Lim 4294967296 xs) (hy:Lim 4294967296 ys):(dg 4294967296 (vl 4294967296 xs*vl 4294967296 ys)).length<=xs.length+ys.length:=by
 refine cW (by omega) ?_
 rw[Nat.pow_add]
 exact Nat.mul_lt_mul'' (fY hx) (fY hy)
theorem cB (k:Int):vl 4294967296 (dg 4294967296 k.natAbs)=k.natAbs:=cL (by omega) _
theorem eH {a b:Nat}(h:a<=b):(dg 4294967296 a).length<=(dg 4294967296 b).length:=dS (by omega) h
theorem iL (k k':Int):(dg 4294967296 (k+k').natAbs).length<=(dg 4294967296 k.natAbs).length+(dg 4294967296 k'.natAbs).length+1:=by
 have h:=Kt (aU (B:=4294967296) (by omega) k.natAbs) (aU (B:=4294967296) (by omega) k'.natAbs)
 rw[cB,cB]at h
 exact Nat.le_trans (eH (by omega)) h
theorem Fk (k k':Int):(dg 4294967296 (k-k').natAbs).length<=(dg 4294967296 k.natAbs).length+(dg 4294967296 k'.natAbs).length+1:=by
 have h:=iL k (-k')
 rw[Int.natAbs_neg]at h
 exact h
theorem eG (k k':Int):(dg 4294967296 (k*k').natAbs).length<=(dg 4294967296 k.natAbs).length+(dg 4294967296 k'.natAbs).length:=by
 rw[Int.natAbs_mul]
 have h:=QA (aU (B:=4294967296) (by omega) k.natAbs) (aU (B:=4294967296) (by omega) k'.natAbs)
 rwa[cB,cB]at h
theorem nS (k:Int):(dg 4294967296 (-(k)).natAbs).length=(dg 4294967296 k.natAbs).length:=by rw[Int.natAbs_neg]
theorem IN {n:Int}(h1:-9223372036854775808<=n) (h2:n<=9223372036854775807):-4294967295<=Int.tmod n 4294967296/\Int.tmod n 4294967296<=4294967295/\-2147483648<=Int.tdiv n 4294967296/\Int.tdiv n 4294967296<=2147483648/\(Int.tmod n 4294967296).natAbs+4294967296*(Int.tdiv n 4294967296).natAbs=n.natAbs/\True:=by
 obtain⟨m,hm⟩:∃m:Nat,n.natAbs=m:=⟨_,rfl⟩
 rw[hm]
 rcases(show n=m\/n=-(m:Int) by omega)with h | h
 ·subst h
  have e1:Int.tmod (m:Int) 4294967296=((m%4294967296:Nat):Int):=by rw[Int.tmod_eq_emod_of_nonneg (by omega)];omega
  have e2:Int.tdiv (m:Int) 4294967296=((m/4294967296:Nat):Int):=by rw[Int.tdiv_eq_ediv_of_nonneg (by omega)];omega
  rw[e1,e2]
  exact⟨by omega,by omega,by omega,by omega,by rw[Int.natAbs_natCast,Int.natAbs_natCast];omega,trivial⟩
 subst h
 have e1:Int.tmod (-(m:Int)) 4294967296=-((m%4294967296:Nat):Int):=by rw[Int.neg_tmod,Int.tmod_eq_emod_of_nonneg (by omega)];omega
 have e2:Int.tdiv (-(m:Int)) 4294967296=-((m/4294967296:Nat):Int):=by rw[Int.neg_tdiv,Int.tdiv_eq_ediv_of_nonneg (by omega)];omega
 rw[e1,e2]
 exact⟨by omega,by omega,by omega,by omega,by rw[Int.natAbs_neg,Int.natAbs_neg,Int.natAbs_natCast,Int.natAbs_natCast];omega,trivial⟩
theorem YV {n:Int}{a b:Nat}(h:a+4294967296*b=n.natAbs):dV (decide (n<0)) (vl 4294967296 [a,b])=n:=by
 have e:vl 4294967296 [a,b]=n.natAbs:=by simp[vl];omega
 rw[e]
 exact Rz n
theorem Mt {k k':Int}{s:Bool}(h:s=aZ k) (h':aZ k=aZ k'):dV s (k.natAbs+k'.natAbs)=k+k':=by
 subst h
 unfold aZ at*
 unfold dV
 by_cases h1:k<0 <;> by_cases h2:k'<0 <;> simp[h1,h2]at h'⊢ <;> omega
theorem Wt {k k':Int}{s:Bool}(h:s=aZ k) (h':aZ k≠aZ k') (hl:¬k.natAbs<k'.natAbs):dV s (k.natAbs-k'.natAbs)=k+k':=by
 subst h
 unfold aZ at*
 unfold dV
 by_cases h1:k<0 <;> by_cases h2:k'<0 <;> simp[h1,h2]at h'⊢ <;> omega
theorem Wu {k k':Int}{s:Bool}(h:s=aZ k') (h':aZ k≠aZ k') (hl:k.natAbs<k'.natAbs):dV s (k'.natAbs-k.natAbs)=k+k':=by
 subst h
 unfold aZ at*
 unfold dV
 by_cases h1:k<0 <;> by_cases h2:k'<0 <;> simp[h1,h2]at h'⊢ <;> omega
theorem Zq {X os:List Nat}{k q:Nat}{a:Nat}(hk:0<k) (hkx:k<=X.length) (hos:os.length=X.length){v r:Nat}(h:vl 65536 (X.drop k)=v*vl 65536 (os.drop k)+r) (ha:a=nth X (k-1)) (hq:q=(a+65536*r)/v):
  vl 65536 (X.drop (k-1))=v*vl 65536 ((os.set (k-1) q).drop (k-1))+(a+65536*r-q*v):=by
 obtain⟨j,rfl⟩:∃j,k=j+1:=⟨k-1,by omega⟩
 simp only[Nat.add_sub_cancel]at*
 have e1:X.drop j=nth X j::X.drop (j+1):=by rw[List.drop_eq_getElem_cons (by omega),dT (by omega)]
 have e2:(os.set j q).drop j=q::os.drop (j+1):=by
  rw[List.drop_eq_getElem_cons (by rw[List.length_set];omega),List.getElem_set_self,List.drop_set_of_lt (by omega)]
 have h2:q*v<=a+65536*r:=by rw[hq];exact Nat.div_mul_le_self _ _
 rw[e1,e2,iF,iF,h,Nat.mul_add,Nat.mul_add,Nat.mul_comm v q,Nat.mul_left_comm v 65536,<-ha]
 omega
theorem Db {xs ys:List Nat}(hx:Lim 65536 xs) (hy:Lim 65536 ys):(dg 65536 (vl 65536 xs*vl 65536 ys)).length<=xs.length+ys.length:=by
 refine cW (by omega) ?_
 rw[Nat.pow_add]
 exact Nat.mul_lt_mul'' (fY hx) (fY hy)
theorem IP {u v n m:Nat}(hn:(dg 65536 u).length=n) (hm:(dg 65536 v).length=m) (h:n≠m):decide ((n:Int)<(m:Int))=decide (u<v):=by
 have e1:=cL (B:=65536) (by omega) u
 have e2:=cL (B:=65536) (by omega) v
 rcases Nat.lt_or_gt_of_ne h with h1 | h1
 ·have h2:=lK (B:=65536) (a:=dg 65536 u) (b:=dg 65536 v) (by omega) (aU (by omega) u) (xP (by omega) v) (by omega)
  rw[decide_eq_true (by omega),decide_eq_true (by omega)]
 have h2:=lK (B:=65536) (a:=dg 65536 v) (b:=dg 65536 u) (by omega) (aU (by omega) v) (xP (by omega) u) (by omega)
 rw[decide_eq_false (by omega),decide_eq_false (by omega)]
theorem QB {u v k:Nat}(hag:∀j,k+1<=j->nth (dg 65536 u) j=nth (dg 65536 v) j) (h:nth (dg 65536 u) k≠nth (dg 65536 v) k):decide (((nth (dg 65536 u) k:Nat):Int)<((nth (dg 65536 v) k:Nat):Int))=decide (u<v):=by
 have e1:=cL (B:=65536) (by omega) u
 have e2:=cL (B:=65536) (by omega) v
 rcases Nat.lt_or_gt_of_ne h with h1 | h1
 ·have h2:=Oe (aU (by omega) u) hag h1
  rw[decide_eq_true (by omega),decide_eq_true (by omega)]
 have h2:=Oe (aU (by omega) v) (fun j hj=>(hag j hj).symm) h1
 rw[decide_eq_false (by omega),decide_eq_false (by omega)]
theorem xB {X Y os:List Nat}{n k br br' d:Nat}(hl:os.length=k) (h:vl 65536 os+n*vl 65536 (Y.take k)=vl 65536 (X.take k)+65536^k*br) (hd:d+n*nth Y k+br=nth X k+65536*br'):
  vl 65536 (os++[d])+n*vl 65536 (Y.take (k+1))=vl 65536 (X.take (k+1))+65536^(k+1)*br':=by
 rw[oF,cD,cD,hl,Nat.pow_succ,Nat.mul_assoc,Nat.mul_add,Nat.mul_left_comm n]
 have h3:65536^k*(d+n*nth Y k+br)=65536^k*(nth X k+65536*br'):=by rw[hd]
 rw[Nat.mul_add,Nat.mul_add,Nat.mul_add]at h3
 omega
theorem IQ {u v n k br ln:Nat}{os:List Nat}(hx:(dg 65536 u).length=ln) (hk:os.length=ln) (hol:Lim 65536 os) (h:vl 65536 os+n*vl 65536 ((dg 65536 v).take k)=vl 65536 ((dg 65536 u).take k)+65536^k*br) (hnv:n*v<=u) (hkk:k=ln:=by omega):vl 65536 os=u-n*v:=by
 have h1:=fY hol
 rw[cK 65536 (l:=dg 65536 u) (by omega),cL (by omega)]at h
 have h2:n*vl 65536 ((dg 65536 v).take k)=n*v:=by
  rcases Nat.eq_zero_or_pos n with h0 | h0
  ·rw[h0,Nat.zero_mul,Nat.zero_mul]
  have h3:v<=u:=Nat.le_trans (Nat.le_mul_of_pos_left v h0) hnv
  have h4:=dS (B:=65536) (by omega) h3
  rw[cK 65536 (l:=dg 65536 v) (by omega),cL (by omega)]
 rw[h2]at h
 rcases Nat.eq_zero_or_pos br with h0 | h0
 ·rw[h0,Nat.mul_zero]at h
  omega
 have h5:65536^k*1<=65536^k*br:=Nat.mul_le_mul_left _ h0
 rw[hk,<-hkk]at h1
 omega
theorem EJ {u v lo hi:Nat}(h1:lo*v<=u) (h2:u<hi*v) (h:hi=lo+1):u/v=lo:=by
 subst h
 have hv:0<v:=by
  rcases Nat.eq_zero_or_pos v with h0 | h0
  ·subst h0;simp at h2
  exact h0
 exact(Nat.div_eq_iff hv).2 (by rw[Nat.add_mul]at h2;omega)
theorem Dc {a r:Nat}(ha:a<65536):trim ([a]++dg 65536 r)=dg 65536 (a+65536*r):=
 Gt (by omega) (Lim.cons ha (aU (by omega) r)) (by show a+65536*vl 65536 (dg 65536 r)=_;rw[cL (by omega)])
theorem IR {a r v:Nat}(ha:a<65536) (hr:r<v):(dg 65536 (a+65536*r)).length<=(dg 65536 v).length+1:=by
 rw[<-Dc ha]
 refine Nat.le_trans (dH _) ?_
 have:=dS (B:=65536) (by omega) (Nat.le_of_lt hr)
 simp only[cJ,List.length_cons,List.length_nil]
 omega
theorem Se {l:List Nat}{j v:Nat}(h:j<l.length):nth (l.set j v) j=v:=by simp[nth,h]
theorem EK {u v r q:Nat}(h:u=v*q+r) (hr:r<v):q=u/v/\r=u%v:=by
 subst h
 rw[Nat.mul_add_div (by omega),Nat.div_eq_of_lt hr,Nat.mul_add_mod,Nat.mod_eq_of_lt hr]
 exact⟨rfl,rfl⟩
theorem QC {x y:Int}(hx:x.sign≠0) (h:x.sign≠y.sign) (hy:y≠0):(x<0/\0<y)\/(0<x/\y<0):=by
 rcases Int.lt_trichotomy x 0 with h1 | h1 | h1
 ·rcases Int.lt_trichotomy y 0 with h2 | h2 | h2
  ·rw[Int.sign_eq_neg_one_of_neg h1,Int.sign_eq_neg_one_of_neg h2]at h;exact absurd rfl h
  ·exact absurd h2 hy
  exact .inl ⟨h1,h2⟩
 ·rw[h1]at hx;exact absurd rfl hx
 rcases Int.lt_trichotomy y 0 with h2 | h2 | h2
 ·exact .inr ⟨h1,h2⟩
 ·exact absurd h2 hy
 rw[Int.sign_eq_one_of_pos h1,Int.sign_eq_one_of_pos h2]at h;exact absurd rfl h
theorem QD {x y:Int}(h:x.sign=0\/x.sign=y.sign) (hy:y≠0):x=0\/(x<0/\y<0)\/(0<x/\0<y):=by
 rcases Int.lt_trichotomy x 0 with h1 | h1 | h1
 ·rw[Int.sign_eq_neg_one_of_neg h1]at h
  rcases Int.lt_trichotomy y 0 with h2 | h2 | h2
  ·exact .inr (.inl ⟨h1,h2⟩)
  ·exact absurd h2 hy
  rw[Int.sign_eq_one_of_pos h2]at h;omega
 ·exact .inl h1
 rw[Int.sign_eq_one_of_pos h1]at h
 rcases Int.lt_trichotomy y 0 with h2 | h2 | h2
 ·rw[Int.sign_eq_neg_one_of_neg h2]at h;omega
 ·exact absurd h2 hy
 exact .inr (.inr ⟨h1,h2⟩)
theorem LS {a b:Int}(h0:b≠0):dV (aZ a) (a.natAbs%b.natAbs)+b*dV (aZ a != aZ b) (a.natAbs/b.natAbs)=a/\(dV (aZ a) (a.natAbs%b.natAbs)).natAbs<b.natAbs:=by
 have e:=Nat.div_add_mod a.natAbs b.natAbs
 have l:=Nat.mod_lt a.natAbs (show 0<b.natAbs by omega)
 refine⟨?_,by rw[mP];exact l⟩
 generalize a.natAbs/b.natAbs=q at*
 generalize a.natAbs%b.natAbs=r at*
 have e2:(b.natAbs:Int)*q+r=a.natAbs:=by exact_mod_cast e
 by_cases hb:b<0 <;> by_cases ha:a<0
 ·rw[show(b.natAbs:Int)=-b by omega,show(a.natAbs:Int)=-a by omega,Int.neg_mul]at e2
  simp[dV,aZ,hb,ha];omega
 ·rw[show(b.natAbs:Int)=-b by omega,show(a.natAbs:Int)=a by omega,Int.neg_mul]at e2
  simp[dV,aZ,hb,ha,Int.mul_neg];omega
 ·rw[show(b.natAbs:Int)=b by omega,show(a.natAbs:Int)=-a by omega]at e2
  simp[dV,aZ,hb,ha,Int.mul_neg];omega
 rw[show(b.natAbs:Int)=b by omega,show(a.natAbs:Int)=a by omega]at e2
 simp[dV,aZ,hb,ha];omega
theorem QE {a b r q:Int}(h0:b≠0) (hr:r=dV (aZ a) (a.natAbs%b.natAbs)) (hq:q=dV (aZ a != aZ b) (a.natAbs/b.natAbs)) (h1:r.sign≠0) (h2:r.sign≠b.sign):q-1=a.fdiv b/\r+b=a.fmod b:=by
 obtain⟨h3,h4⟩:=LS (a:=a) h0
 rw[<-hr]at h3 h4
 rw[<-hq]at h3
 have h5:=QC h1 h2 h0
 have h6:=Mq (a:=a) (b:=b) (q:=q-1) (r:=r+b) h0 (by rw[Int.mul_sub,Int.mul_one];omega) (by omega) (by omega)
 exact⟨h6.1.symm,h6.2.symm⟩
theorem Wv {a b r q:Int}(h0:b≠0) (hr:r=dV (aZ a) (a.natAbs%b.natAbs)) (hq:q=dV (aZ a != aZ b) (a.natAbs/b.natAbs)) (h:r.sign=0\/r.sign=b.sign):q=a.fdiv b/\r=a.fmod b:=by
 obtain⟨h3,h4⟩:=LS (a:=a) h0
 rw[<-hr]at h3 h4
 rw[<-hq]at h3
 have h5:=QD h h0
 have h6:=Mq (a:=a) (b:=b) (q:=q) (r:=r) h0 h3 (by omega) (by omega)
 exact⟨h6.1.symm,h6.2.symm⟩
theorem Tq {k:Int}(h:(dg 4294967296 k.natAbs).length=0):k.natAbs=0:=(fC (by omega)).1 (List.length_eq_zero_iff.1 h)
theorem EL {k:Int}(h:(dg 4294967296 k.natAbs).length≠0):k≠0:=by
 intro h0
 subst h0
 exact h (by rw[show Int.natAbs 0=0 from rfl,kI];rfl)
def oE (l:List Nat) (k N:Nat):List Nat:=lb (l.take k)++List.replicate (N-(k+1)/2) 0
theorem IS:oE l 0 N=List.replicate N 0:=by simp[oE,lb]
theorem QF (hN:N=(l.length+1)/2) (h:l.length<=k):oE l k N=lb l:=by
 unfold oE
 rw[cT h,show N-(k+1)/2=0 by omega]
 simp
theorem QG (hN:N=(l.length+1)/2) (hk:k<=l.length):(oE l k N).length=N:=by
 unfold oE
 rw[cJ,List.length_replicate,lS,dU,Nat.min_eq_left hk]
 omega
theorem Ep:∀{l:List Nat}{j:Nat},2*j<l.length->lb (l.take (2*j+1))=lb (l.take (2*j))++[nth l (2*j)]
 | [],_,h=>by simp at h
 | [a],0,_=>by simp[lb,nth]
 | [a],j+1,h=>by simp at h
 | a::b::l,0,_=>by simp[lb,nth]
 | a::b::l,j+1,h=>by
  have ih:=Ep (l:=l) (j:=j) (by simp at h;omega)
  have e2:2*(j+1)=2*j+1+1:=by omega
  rw[e2,List.take_succ_cons,List.take_succ_cons,List.take_succ_cons,List.take_succ_cons]
  simp only[lb,List.cons_append]
  rw[ih]
  simp[nth]
theorem Ww {α:Type}(A R:List α) (x y:α){j:Nat}(h:A.length=j):(A++x::R).set j y=A++y::R:=by
 subst h
 rw[List.set_append_right _ _ (aX _),Nat.sub_self]
 rfl
theorem QH (A R:List Nat) (x:Nat){j:Nat}(h:A.length=j):nth (A++x::R) j=x:=by
 subst h
 simp[nth]
theorem IT (hN:N=(l.length+1)/2) (hk:k<l.length) (he:k%2=0):(oE l k N).set (k/2) (nth l k)=oE l (k+1) N:=by
 obtain⟨j,rfl⟩:∃j,k=2*j:=⟨k/2,by omega⟩
 have hA:(lb (l.take (2*j))).length=j:=by rw[lS,dU,Nat.min_eq_left (by omega)];omega
 unfold oE
 rw[show 2*j/2=j by omega,show N-(2*j+1)/2=(N-(2*j+1+1)/2)+1 by omega,List.replicate_succ,Ww _ _ _ _ hA,Ep hk,List.append_assoc]
 rfl
theorem Fe (hN:N=(l.length+1)/2) (hk:k<l.length) (ho:k%2=1):nth (oE l k N) (k/2)=nth l (k-1):=by
 obtain⟨j,rfl⟩:∃j,k=2*j+1:=⟨k/2,by omega⟩
 have hA:(lb (l.take (2*j))).length=j:=by rw[lS,dU,Nat.min_eq_left (by omega)];omega
 unfold oE
 rw[show(2*j+1)/2=j by omega,Ep (by omega),List.append_assoc]
 exact QH _ _ _ hA
theorem QI (hN:N=(l.length+1)/2) (hk:k<l.length) (ho:k%2=1):(oE l k N).set (k/2) (nth (oE l k N) (k/2)+65536*nth l k)=oE l (k+1) N:=by
 rw[Fe hN hk ho]
 obtain⟨j,rfl⟩:∃j,k=2*j+1:=⟨k/2,by omega⟩
 have hA:(lb (l.take (2*j))).length=j:=by rw[lS,dU,Nat.min_eq_left (by omega)];omega
 unfold oE
 rw[show(2*j+1)/2=j by omega,Ep (by omega),List.append_assoc,show 2*j+1+1=2*(j+1) by omega,Eo (by omega),List.append_assoc,show 2*j+1-1=2*j by omega]
 rw[show N-(2*(j+1))/2=N-(2*(j+1)+1)/2 by omega]
 exact Ww _ _ _ _ hA
theorem YW {l:List Nat}{j v:Nat}:j<l.length->vl 65536 (l.set j v)+65536^j*nth l j=vl 65536 l+65536^j*v:=by
 induction l generalizing j with
 | nil=>intro h;simp at h
 | cons x l ih=>
  intro h
  rcases j with _ | j
  ·simp[nth,iF];omega
  have:=ih (j:=j) (by simpa using h)
  simp only[List.set_cons_succ,iF]
  rw[Nat.pow_succ,show nth (x::l) (j+1)=nth l j by simp[nth],Nat.mul_comm (65536^j) 65536,Nat.mul_assoc,Nat.mul_assoc]
  omega
theorem uQ {os a b:List Nat}{i k cr x:Nat}(hj:i+k<os.length) (h:vl 65536 os+65536^(i+k)*cr=vl 65536 (a.take i)*vl 65536 b+65536^i*(nth a i*vl 65536 (b.take k))) (hx:x=nth os (i+k)+cr+nth a i*nth b k):
  vl 65536 (os.set (i+k) (x%65536))+65536^(i+(k+1))*(x/65536)=vl 65536 (a.take i)*vl 65536 b+65536^i*(nth a i*vl 65536 (b.take (k+1))):=by
 have h1:=YW (v:=x%65536) hj
 have h2:=Nat.mod_add_div x 65536
 have h3:65536^(i+k)*x=65536^(i+k)*(x%65536)+65536^(i+k)*(65536*(x/65536)):=by rw[<-Nat.mul_add,h2]
 have h4:65536^(i+k)*x=65536^(i+k)*nth os (i+k)+65536^(i+k)*cr+65536^(i+k)*(nth a i*nth b k):=by rw[hx,Nat.mul_add,Nat.mul_add]
 rw[cD,Nat.mul_add,Nat.mul_add,show i+(k+1)=i+k+1 by omega,Nat.pow_succ,Nat.mul_assoc]
 have h5:65536^i*(nth a i*(65536^k*nth b k))=65536^(i+k)*(nth a i*nth b k):=by
  rw[Nat.pow_add,Nat.mul_left_comm (nth a i),Nat.mul_assoc]
 omega
theorem Jf {a b:List Nat}{i k:Nat}(hk:b.length<=k):vl 65536 (a.take i)*vl 65536 b+65536^i*(nth a i*vl 65536 (b.take k))=vl 65536 (a.take (i+1))*vl 65536 b:=by
 rw[cK 65536 hk,cD,Nat.add_mul,Nat.mul_assoc]
theorem Sf {os a b:List Nat}{i k cr:Nat}(ha:Lim 65536 a) (hb:Lim 65536 b) (hi:i<a.length) (hk:k<=b.length+1) (h:vl 65536 os+65536^(i+k)*cr=vl 65536 (a.take i)*vl 65536 b+65536^i*(nth a i*vl 65536 (b.take k))) (hc:0<cr):k<=b.length:=by
 rcases Nat.lt_or_ge b.length k with h1 | h1
 ·exfalso
  rw[Jf (by omega)]at h
  have h2:=fY (ha.take (i+1))
  have h3:=fY hb
  have h4:vl 65536 (a.take (i+1))*vl 65536 b<65536^(a.take (i+1)).length*65536^b.length:=Nat.mul_lt_mul'' h2 h3
  rw[<-Nat.pow_add,dU,Nat.min_eq_left (by omega),show i+1+b.length=i+k by omega]at h4
  have h5:65536^(i+k)*1<=65536^(i+k)*cr:=Nat.mul_le_mul_left _ hc
  omega
 exact h1
end
theorem QJ {k k':Int}(h:aZ k=true) (h':aZ k'=false):(-1:Int)=(k-k').sign:=by
 unfold aZ at h h'
 simp at h h'
 rw[Int.sign_eq_neg_one_of_neg (by omega)]
theorem QK {k k':Int}(h:aZ k=false) (h':aZ k'=true):(1:Int)=(k-k').sign:=by
 unfold aZ at h h'
 simp at h h'
 rw[Int.sign_eq_one_of_pos (by omega)]
theorem QL {k k':Int}(h:aZ k=true) (h':aZ k'=true):(((k'.natAbs:Nat):Int)-((k.natAbs:Nat):Int)).sign=(k-k').sign:=by
 unfold aZ at h h'
 simp at h h'
 rw[show((k'.natAbs:Nat):Int)-((k.natAbs:Nat):Int)=k-k' by omega]
theorem QM {k k':Int}(h:aZ k=false) (h':aZ k'=false):(((k.natAbs:Nat):Int)-((k'.natAbs:Nat):Int)).sign=(k-k').sign:=by
 unfold aZ at h h'
 simp at h h'
 rw[show((k.natAbs:Nat):Int)-((k'.natAbs:Nat):Int)=k-k' by omega]
theorem rG (v:Nat):(dg 4294967296 v).length<=(dg 65536 v).length:=by
 rw[<-En,lS]
 omega
theorem Sg (xs:List Nat){k:Nat}(h:k<xs.length):((eR xs).map AV.t)[0+k*1]? =some (tv (.int .i64 ((nth xs k:Nat):Int))):=by simp[eR,dT h,h,tv]
theorem YX (xs:List Nat){k:Nat}(h:k<xs.length):((bF xs).map AV.t)[0+k*1]? =some (tv (.int .u32 ((nth xs k:Nat):Int))):=by simp[bF,dT h,h,tv]
theorem uV (xs:List Nat){k v:Nat}(h:k<xs.length):eD ((eR xs).map AV.t) (0+k*1) [tv (.int .i64 (v:Int))]=(eR (xs.set k v)).map .t:=by
 rw[Nat.zero_add,Nat.mul_one,List.set_eq_take_append_cons_drop,if_pos h]
 simp[eD,eR,tv,List.map_take,List.map_drop]
theorem Wx (xs:List Nat){k v:Nat}(h:k<xs.length):eD ((bF xs).map AV.t) (0+k*1) [tv (.int .u32 (v:Int))]=(bF (xs.set k v)).map .t:=by
 rw[Nat.zero_add,Nat.mul_one,List.set_eq_take_append_cons_drop,if_pos h]
 simp[eD,bF,tv,List.map_take,List.map_drop]
theorem yD (xs:List Nat){k:Nat}{a:AV}(h:k<xs.length):0+k*1+[a].length<=((eR xs).map AV.t).length:=by simp[eR];omega
theorem EM (xs:List Nat){k:Nat}{a:AV}(h:k<xs.length):0+k*1+[a].length<=((bF xs).map AV.t).length:=by simp[bF];omega
theorem Fs (m:Nat):(List.replicate m (Value.int .i64 0)).map tv=(eR (List.replicate m 0)).map .t:=by simp[eR,tv]
theorem IU (m:Nat):(List.replicate m (Value.int .u32 0)).map tv=(bF (List.replicate m 0)).map .t:=by simp[bF,tv]
structure Zi where
 s:Bool
 x:List Nat
def Zi.of (k:Int):Zi:=⟨aZ k,dg 4294967296 k.natAbs⟩
def gF (a:Zi):FV:=.agg (([.v (.bool a.s),sU false a.x]:List Tr).map .t)
def kF (k:Int):FV:=.agg (([.v (.bool (aZ k)),sU false (dg 4294967296 k.natAbs)]:List Tr).map .t)
def kO (k:Int):FV:=.agg (([.v (.bool (aZ k)),sU true (dg 4294967296 k.natAbs)]:List Tr).map .t)
def Zn (a:Zi) (k:Int):Prop:=Lim 4294967296 a.x/\a.x.length<=137438953472/\eP a.s a.x=k
theorem Zn.of {k:Int}(h:(dg 4294967296 k.natAbs).length<=137438953472):Zn (.of k) k:=⟨aU (by omega) _,h,Cy k⟩
theorem zn0:Zn ⟨false,[]⟩ 0:=⟨Lim.nil,by simp,rfl⟩
theorem Zn.len {a:Zi}{k:Int}(h:Zn a k):(dg 4294967296 k.natAbs).length<=137438953472:=by
 obtain⟨h1,h2,rfl⟩:=h
 exact Nat.le_trans (Em h1) h2
theorem Zn.right {a:Zi}{k:Int}(h:Zn a k) (hr:eV a.s a.x=true):aZ k=a.s/\dg 4294967296 k.natAbs=a.x:=by
 obtain⟨h1,h2,rfl⟩:=h
 exact⟨El h1 hr,vD h1 hr⟩
theorem Zn.wrong {a:Zi}{k:Int}(h:Zn a k) (hr:eV a.s a.x=false):k=0:=by
 obtain⟨h1,h2,rfl⟩:=h
 exact Je hr
theorem IV {a:Zi}{k:Int}(h:Zn a k) (hr:eV a.s a.x=true):gF a=kF k:=by
 obtain⟨h1,h2⟩:=h.right hr
 unfold gF kF
 rw[h1,h2]
theorem As {b:Bool}{m:Nat}{k:Int}(h:b=aZ k) (hm:m=k.natAbs):FV.agg [tv (.bool b),.t (sU true (dg 4294967296 m))]=kO k:=by subst h hm;rfl
theorem Ku:FV.agg [tv (.bool false),.t (sU false [])]=kF 0:=by
 unfold kF
 rw[show Int.natAbs 0=0 from rfl,kI]
 rfl
theorem fT (k:Int):nN (kO k):=by
 simp only[nN,kO,sZ,List.map_cons,List.map_nil,nT,wF,sU,qQ]
 exact⟨trivial,.inl ⟨trivial,gW _⟩,trivial⟩
theorem Kv (b:Bool) (m:Nat):nN (.agg (([.v (.bool b),sU true (dg 4294967296 m)]:List Tr).map .t)):=by
 simp only[nN,sZ,List.map_cons,List.map_nil,nT,wF,sU,qQ]
 exact⟨trivial,.inl ⟨trivial,gW _⟩,trivial⟩
def Qn (a:Fr4) (p:Rat):Prop:=a.ok/\a.q=p
section
variable {a:Fr4}{p q:Rat}{k k':Int}{L M:Nat}
theorem Ov (h:Qn a p):Zn ⟨a.s,a.x⟩ (eP a.s a.x):=⟨h.1.1,by have:=h.1.2.2.1;dsimp only;omega,rfl⟩
theorem lT (h:Qn a p):Zn ⟨a.t,a.y⟩ (eP a.t a.y):=⟨h.1.2.1,by have:=h.1.2.2.2;dsimp only;omega,rfl⟩
theorem gZ (h:Sz L p) (hL:L<=137438953472:=by omega):Zn (.of p.num) p.num:=.of (Nat.le_trans h.1 hL)
theorem cY (h:Sz L p) (hL:L<=137438953472:=by omega):Zn ⟨false,dg 4294967296 p.den⟩ (p.den:Int):=⟨aU (by omega) _,Nat.le_trans h.2 hL,xT p.den⟩
theorem Qn.sz (h:Qn a p):Sz 68719476736 p:=by
 obtain⟨⟨h1,h2,h3,h4⟩,rfl⟩:=h
 exact YO h1 h2 h3 h4 (by omega)
theorem Qn.of (h:Sz L p) (hL:L<=68719476736:=by omega):Qn (.of p) p:=⟨⟨aU (by omega) _,aU (by omega) _,Nat.le_trans h.1 hL,Nat.le_trans h.2 hL⟩,Fr4.q_of p⟩
theorem Qn.right (h:Qn a p) (hr:eC a.s a.x a.t a.y=true):Fr4.of p=a:=by
 obtain⟨⟨l1,l2,_,_⟩,rfl⟩:=h
 obtain⟨h1,h2,h3,h4⟩:=Da hr
 have e1:=Wm hr
 have e2:=Wn hr
 have e3:=El l1 h1
 have e4:=vD l1 h1
 have e5:=El l2 h2
 have e6:=vD l2 h2
 rw[<-e1]at e3 e4
 rw[<-e2]at e5 e6
 rw[Dj]at e5
 rw[Int.natAbs_natCast]at e6
 unfold Fr4.of Fr4.q
 rw[e3,e4,e5,e6]
theorem Qn.wrong (h:Qn a p) (hr:eC a.s a.x a.t a.y=false):p=0:=by
 obtain⟨_,rfl⟩:=h
 exact Mr hr
theorem Dn (hn:q.num=k) (hd:(q.den:Int)=k'):FV.agg [tv (.bool (aZ k)),.t (sU false (dg 4294967296 k.natAbs)),tv (.bool (aZ k')),.t (sU false (dg 4294967296 k'.natAbs))]=qF (.of q):=by
 subst hn hd
 have e:aZ (q.den:Int)=false:=by unfold aZ;exact decide_eq_false (by omega)
 rw[e]
 rfl
theorem GF (k k':Int):decide ((k-k').sign=0)=decide (k=k'):=by
 rw[decide_eq_decide,Int.sign_eq_zero_iff_zero]
 omega
theorem Jt (h0:k'≠0):(dg 4294967296 (((Int.gcd k k':Nat):Int)).natAbs).length<=(dg 4294967296 k'.natAbs).length:=by
 rw[Int.natAbs_natCast]
 exact eH (Nat.le_of_dvd (by omega) (Int.gcd_dvd_natAbs_right k k'))
theorem tB {n:Int}(h1:-9223372036854775808<=n) (h2:n<=9223372036854775807):(dg 4294967296 n.natAbs).length<=2:=cW (by omega) (by omega)
theorem Pv {a b:Int}(h0:b≠0):(0<b->(Rat.divInt a b).num=a.fdiv (Int.gcd a b)/\((Rat.divInt a b).den:Int)=b.fdiv (Int.gcd a b))/\(b<0->(Rat.divInt a b).num=(-a).fdiv (Int.gcd (-a) (-b))/\((Rat.divInt a b).den:Int)=(-b).fdiv (Int.gcd (-a) (-b))):=by
 refine⟨fun h=>rR h,fun h=>?_⟩
 rw[<-Rat.neg_divInt_neg]
 exact rR (by omega)
theorem Hz {a b:Int}(h:b≠0):((Int.gcd a b:Nat):Int)≠0:=by
 have:=Int.gcd_pos_of_ne_zero_right a h
 omega
theorem Uh (n:Nat):decide ((n:Int)=1)=(n==1):=by
 by_cases h:n=1
 ·subst h;rfl
 rw[beq_eq_false_iff_ne.2 h,decide_eq_false (by omega)]
end
theorem Kw {α:Type}{f:α->List Tr}{z:Nat}(hf:∀x,(f x).length=z):∀{xs:List α}{k:Nat}{x:α},xs[k]? =some x->((xs.flatMap f).drop (k*z)).take z=f x
 | [],_,_,h=>by simp at h
 | y::xs,0,x,h=>by
  simp at h
  subst h
  rw[Nat.zero_mul,List.drop_zero,List.flatMap_cons,List.take_append_of_le_length (by rw[hf];exact aX _),cT (by rw[hf];exact aX _)]
 | y::xs,k+1,x,h=>by
  rw[List.getElem?_cons_succ]at h
  have e:(f y++xs.flatMap f).drop z=xs.flatMap f:=by rw[<-hf y];simp
  rw[List.flatMap_cons,Nat.succ_mul,Nat.add_comm,<-List.drop_drop,e]
  exact Kw hf h
theorem nV {α:Type}{f:α->List Tr}{z:Nat}(hf:∀x,(f x).length=z):∀(xs:List α),(xs.flatMap f).length=xs.length*z
 | []=>by simp
 | y::xs=>by rw[List.flatMap_cons,cJ,hf,nV hf xs,List.length_cons,Nat.succ_mul,Nat.add_comm]
theorem IW {α:Type}{f:α->List Tr}{z o m:Nat}(hf:∀x,(f x).length=z){xs:List α}{k:Nat}{x:α}(h:xs[k]? =some x) (hm:o+m<=z):((xs.flatMap f).drop (k*z+o)).take m=((f x).drop o).take m:=by
 have e:=Kw hf h
 rw[<-List.drop_drop,<-e,List.drop_take,List.take_take,Nat.min_eq_left (by omega)]
section
variable {α:Type}{f:α->List Tr}{z:Nat}{xs:List α}{k o:Nat}{x x' y:α}{us:List Tr}
theorem wH (hf:∀x,(f x).length=z) (h:xs[k]? =some x) (hm:o+us.length<=z) (hu:((f x).drop o).take us.length=us):((xs.flatMap f).drop (k*z+o)).take us.length=us:=by
 rw[IW hf h hm]
 exact hu
end
theorem cM {α:Type}{f:α->List Tr}{xs:List α}{k:Nat}{x:α}{us:List Tr}(z o:Nat) (hf:∀x,(f x).length=z) (h:xs[k]? =some x) (hu:((f x).drop o).take us.length=us) (hm:o+us.length<=z:=by exact Nat.le_of_ble_eq_true rfl):((xs.flatMap f).drop (k*z+o)).take us.length=us:=wH hf h hm hu
def nilF:Fr4:=⟨false,[],false,[]⟩
def lC (xs:List Fr4) (k:Nat):Fr4:=xs.getD k nilF
theorem rV {xs:List Fr4}{k:Nat}(h:k<xs.length):xs[k]? =some (lC xs k):=by simp[lC,h]
theorem lU {xs:List Fr4}{k:Nat}(h:k<xs.length):lC xs k∈xs:=List.mem_of_getElem? (rV h)
def sQ (o:Bool) (xs:List Fr4):Tr:=.s o 38 4 xs.length (xs.flatMap (Fr4.tr o))
theorem Oy (xs:List Fr4){k:Nat}(h:k<xs.length):((xs.flatMap (Fr4.tr false)).drop (k*4)).take ((lC xs k).tr false).length=(lC xs k).tr false:=Kw (f:=Fr4.tr false) (fun _=>rfl) (rV h)
section
variable {xs:List Fr4}{k:Nat}
theorem Hi (h:k<xs.length):(xs.take (k+1)).map Fr4.q=(xs.take k).map Fr4.q++[(lC xs k).q]:=by rw[List.take_add_one,rV h];simp
end
section
variable {vs:List (Int×Rat)}{k:Nat}
end
def rT (l:List Rat):Rat:=l.foldl (· + ·) 0
theorem AQ (l:List Rat) (q:Rat):rT (l++[q])=rT l+q:=by simp[rT]
def IX (P:Program) (t n:Nat):Prop:=∃e,P.underlying t=some (.array n e)/\Ty1 P e
section
variable {P:Program}{w:World}{ρ:Operand->Value}{d:Option Nat}{ty:TypeId}{pos:String}{af:Array Edge}{gd:Option (Nat×Bool)}
theorem EN {t n:Nat}{z us:List Value}{parts:Array (Nat×Operand)}{ps:List (Nat×Value)}(hT:IX P t n) (hZ:TyZ P t z) (hps:(parts.map fun x=>(x.1,ρ x.2))=ps.toArray) (hf:lL (fun i=>some (i*1,1)) z ps=some us):
  (execOp ρ ⟨d,.build t parts,ty,pos,af,gd⟩).run P w=.ok (.value (.agg us.toArray)) w:=by
 obtain⟨e,e1,hu⟩:=hT
 obtain⟨dd,i',h8,h9,h10,h11⟩:=hu
 obtain⟨i,v,h3,h4,h5⟩:=hZ
 have hf':=Dh _ ps z us hf
 simp only[Nat.mul_one]at hf'
 have hps':(parts.map fun(x:Nat×Operand)=>match x with | (i,x)=>(i,ρ x))=ps.toArray:=hps
 simp[execOp,Instr.build,zeroValue,sizeOf,typeInfo,h3,h4,run_underlying e1,hps',h5,h10,h11,hf']
end
def At:List AV->List (Nat×FV)->Option (List AV)
 | l,[]=>some l
 | l,(i,.one a)::r=>match lone a&&Nat.blt i l.length with
  | true=>At (l.set i a) r
  | false=>none
 | _,_=>none
section
variable {W:World}{N:Nat->Prop}{cs:List Co}
theorem Wy {a:AV}{u:Value}(ha:AR W N cs a u):∀{l:List AV}{us:List Value}{p:Nat},ARL W N cs l us->ARL W N cs (l.set p a) (us.set p u)
 | [],us,p,h=>by
  simp only[ARL]at h
  subst h
  simp[ARL]
 | b::l,[],p,h=>by simp only[ARL]at h
 | b::l,z::us,0,h=>by
  simp only[ARL]at h
  simp only[List.set_cons_zero,ARL]
  exact⟨ha,h.2⟩
 | b::l,z::us,p+1,h=>by
  simp only[ARL]at h
  simp only[List.set_cons_succ,ARL]
  exact⟨h.1,Wy ha h.2⟩
theorem Wz:∀{ps:List (Nat×FV)}{vs:List (Nat×Value)}{l l':List AV}{us:List Value},ARL W N cs l us->At l ps=some l'->ps.length=vs.length->
  (∀(j:Nat) (p:Nat×FV) (q:Nat×Value),ps[j]? =some p->vs[j]? =some q->p.1=q.1/\bV W N cs p.2 q.2)->∃us',ARL W N cs l' us'/\lL (fun i=>some (i*1,1)) us vs=some us'
 | [],vs,l,l',us,hc,h,hl,_=>by
  obtain rfl:vs=[]:=List.eq_nil_of_length_eq_zero hl.symm
  simp only[At,Option.some.injEq]at h
  subst h
  exact⟨us,hc,rfl⟩
 | (i,fv)::ps,vs,l,l',us,hc,h,hl,hp=>by
  obtain⟨⟨i',u⟩,vs,rfl⟩:∃q vs',vs=q::vs':=by
   cases vs with
   | nil=>simp at hl
   | cons q vs=>exact⟨q,vs,rfl⟩
  obtain⟨e0,h0⟩:=hp 0 _ _ rfl rfl
  dsimp only at e0 h0
  subst e0
  cases fv with
  | one a=>
   unfold At at h
   cases hq:lone a&&Nat.blt i l.length with
   | false=>rw[hq]at h;cases h
   | true=>
    rw[hq]at h
    simp only[Bool.and_eq_true]at hq
    have hi:i<us.length:=by
     have h9:=hq.2
     rw[iG hc]
     simpa[Nat.blt,Nat.lt_iff_add_one_le]using h9
    have hu:u.cells.toList=[u]:=by rw[Ak (cs:=cs) h0 hq.1]
    obtain⟨us',r1,r2⟩:=Wz (us:=us.set i u) (Wy h0 hc) h (by simpa using hl) (fun j p q h1 h2=>hp (j+1) p q (by simpa using h1) (by simpa using h2))
    refine⟨us',r1,?_⟩
    unfold lL
    dsimp only
    have e2:sN us (i*1) u.cells.toList=us.set i u:=by
     rw[hu,Nat.mul_one]
     unfold sN
     rw[List.set_eq_take_append_cons_drop,if_pos hi]
     simp
    have e3:(Nat.beq u.cells.toList.length 1&&Nat.ble (i*1+u.cells.toList.length) us.length)=true:=by
     rw[hu]
     simp
     omega
    rw[e2,e3]
    exact r2
  | any=>simp[At]at h
  | agg _=>simp[At]at h
  | tup _=>simp[At]at h
end
section
variable {x:Cx}{g g':Nat->FV}{ob ob':List (Option Ob)}{cs cs':List Co}{ts ts':Array Value}{W W':World}{T:List (Nat×TI)}{Q:Post}{ops:Array Oper}{rest:List Oper}{d:Nat}{op:Op}{ty:TypeId}{pos:String}{af:Array Edge}{gd:Option (Nat×Bool)}{v:FV}
theorem aBy {t n:Nat}{ti:Bool}{sz:Nat}{z:List Value}{kd:TK}{ps:Array (Nat×Operand)}{l:List AV}(hT:cH x.P T) (ht:bX T t=some ⟨ti,sz,z,kd⟩) (hA:IX x.P t n) (h:At (z.map tv) (ps.toList.map fun p=>(p.1,lk x.n g p.2))=some l):
  OS x ⟨some d,.build t ps,ty,pos,af,gd⟩ g ob [] (fun g' ob'=>g'=bG g d (.agg l)/\ob'=ob):=CZ fun cs ts W hR=>by
 have hi:=dX hT ht
 obtain⟨us',h1,h2⟩:=Wz (W:=W) (N:=x.fr W ob cs) (cs:=cs) (us:=z) (vs:=ps.toList.map fun p=>(p.1,Act.eval ⟨ts,[]⟩ p.2)) (pH z) h (by simp) (fun j p q hp hq=>by
  simp only[List.getElem?_map,Option.map_eq_some_iff]at hp hq
  obtain⟨a,ha,rfl⟩:=hp
  obtain⟨b,hb,rfl⟩:=hq
  rw[ha]at hb
  injection hb with hb
  subst hb
  exact⟨rfl,hR.lk _⟩)
 exact⟨.agg us'.toArray,fun W'=>EN hA hi.2.2.1 (ps:=ps.toList.map fun p=>(p.1,Act.eval ⟨ts,[]⟩ p.2)) (by apply Array.ext';simp only[Array.toList_map]) h2,us',rfl,h1⟩
theorem bA {t n:Nat}{ti:Bool}{sz:Nat}{z:List Value}{kd:TK}{ps:Array (Nat×Operand)}{l:List AV}(hA:IX x.P t n) (k:WL x ops rest (bG g d (.agg l)) ob Q) (hT:cH x.P ttab:=by exact aR) (ht:bX ttab t=some ⟨ti,sz,z,kd⟩:=by rfl) (h:At (z.map tv) (ps.toList.map fun p=>(p.1,lk x.n g p.2))=some l:=by rfl) (hw:bK ops x.n g gd=some true:=by rfl):
  WL x ops (⟨some d,.build t ps,ty,pos,af,gd⟩::rest) g ob Q:=gY (aBy hT ht hA h) hw (by rintro _ _ ⟨rfl,rfl⟩;exact k)
inductive PutL (K:List Nat):List AV->List AV->Prop
 | nil:PutL K [] []
 | sl {i k o n:Nat}{l l':List AV}(h:K[i]? =some k) (h':PutL K l l'):PutL K (.sl i o n::l) (.sl k o n::l')
variable {late:Nat->Bool}{K fr:List Nat}{on:Bool}{fuel:Nat}{listed:Array Bool}
theorem JV {t key o t' z':Nat}{ti:TI}{a b:Operand}{l l' us:List AV}(i:Nat) (hl:eD l o us=l') (hle:o+us.length<=l.length) (k:WD x ops Q late K fr true fuel (listed.setIfInBounds i true) g (ob.set key (some ⟨t',z',l'⟩))) (hT:cH x.P ttab:=by exact aR) (hr:Region.ready .any ops listed=[i]:=by kernel_rfl) (hi:ops[i]? =some ⟨none,.store t a b,ty,pos,af,gd⟩:=by rfl) (hw:bK ops x.n g gd=some true:=by rfl) (hti:bX ttab t=some ti:=by rfl)
  (hlk:lk x.n g a=.one (.pt key o):=by rfl) (ho:cR ob key=some ⟨t',z',l⟩:=by rfl) (hb:Cl (lk x.n g b)=some us:=by rfl) (hlo:dR us=true:=by rfl) (hsz:Nat.beq us.length ti.size=true:=by rfl) (hK:K.contains key=false:=by rfl):WD x ops Q late K fr true (fuel+1) listed g ob:=by
 have hne:∀j∈K,j≠key:=fun j hj e=>by
  subst e
  have:K.contains j=true:=by simpa using hj
  rw[hK]at this
  cases this
 refine Mc i hr hi hw (Ir (ty:=ty) (pos:=pos) (af:=af) (gd:=gd) hT hti hlk hb hlo hsz ho hle hl) true (fun _=>⟨rfl,fun j hj hm=>?_⟩) (fun _=>rfl) (fun _ g' ob' hR=>?_) fun g' ob' hR=>?_
 ·rw[List.mem_singleton]at hm
  exact hne j hj hm
 ·obtain⟨rfl,rfl⟩:=hR
  exact⟨fun _ _=>rfl,fun j hj=>List.getElem?_set_ne (fun e=>hne j hj e.symm)⟩
 obtain⟨rfl,rfl⟩:=hR
 exact k
end
abbrev Gm (x:Cx) (Q:Post):Post:=fun e g ob=>∃g' ob',Sub x g ob g' ob'/\Q e g' ob'
theorem WP.subQ {x:Cx}{c:Code}{g:Nat->FV}{ob:List (Option Ob)}{Q:Post}(h:WP x c g ob (Gm x Q)):WP x c g ob Q:=fun ts W hR=>wp_mono (h ts W hR) fun e a w hq=>by
 cases e with
 | panic c=>exact hq
 | _=>
  obtain⟨g,ob,ts,rfl,h1,g',ob',hs,h2⟩:=hq
  exact⟨g',ob',ts,rfl,hs _ _ h1,h2⟩
theorem AT {x:Cx}{e:Exit}{g g':Nat->FV}{ob ob':List (Option Ob)}{Q:Post}(h:Sub x g ob g' ob') (k:Gm x Q e g' ob'):Gm x Q e g ob:=by
 obtain⟨g2,ob2,h2,h3⟩:=k
 exact⟨g2,ob2,fun ts W hR=>h2 ts W (h ts W hR),h3⟩
theorem zJ {x:Cx}{e:Exit}{g:Nat->FV}{ob:List (Option Ob)}{Q:Post}(h:Q e g ob):Gm x Q e g ob:=⟨g,ob,fun _ _ h=>h,h⟩
theorem GN {T:List (Nat×TI)}{fresh:Bool}{P:Program}{f:FuncId}{fn:Func}{c:Code}{n:Nat}{rv:List ResultVar}{lent:List Lt}{args:List FV}{R:List Lt->FV->Prop}(hf:P.funcs[f]? =some fn) (hb:fn.body=some c) (hn:fn.ntmps=n) (hrv:fn.results.toList=rv) (hT:cH P T) (hle:Nat.ble args.length n=true)
  (h:∀N M w c0,c0.length=lent.length->WP ⟨P,N,M,w,n,c0⟩ c (bP (oD 0 args)) (bR lent) (Gm ⟨P,N,M,w,n,c0⟩ (rA ⟨P,N,M,w,n,c0⟩ T rv fresh lent R))):aE fresh P f lent args R:=
 Hj hf hb hn hrv hT hle fun N M w c0 h0=>(h N M w c0 h0).subQ
theorem aBK {T:List (Nat×TI)}{fresh:Bool}{P:Program}{f:FuncId}{fn:Func}{c:Code}{n:Nat}{rv:List ResultVar}{args:List FV}{R:List Lt->FV->Prop}(hf:P.funcs[f]? =some fn) (hb:fn.body=some c) (hn:fn.ntmps=n) (hrv:fn.results.toList=rv) (hT:cH P T) (hle:Nat.ble args.length n=true)
  (h:∀N w c0,c0.length=0->WP ⟨P,N,[],w,n,c0⟩ c (bP (oD 0 args)) [] (Gm ⟨P,N,[],w,n,c0⟩ (rA ⟨P,N,[],w,n,c0⟩ T rv fresh [] R))):aE fresh P f [] args R:=
 fn0 hf hb hn hrv hT hle fun N w c0 h0=>(h N w c0 h0).subQ
def EO (fresh:Bool) (N:Nat->Prop) (M:List Nat) (w:World) (R:FV->Prop) (e:Ending) (W:World):Prop:=
 ∃v r y,e=.returned v/\R r/\Loc M w W [gG y] [(shE fresh [] [] r v y).on (fun b=>N b\/b∈M\/w.heap.size<=b)]
def wQ (fresh:Bool) (P:Program) (f:FuncId) (lent:List Lt) (args:List FV) (R:FV->Prop):Prop:=
 ∀(N:Nat->Prop) (w:World) (cs:List Co) (us:List Value),Loc ((aL (bR lent) cs).flatMap Res.S) w w (aL (bR lent) cs) [(DD lent cs args us).on N]->
  Calls P f us.toArray w (EO fresh N ((aL (bR lent) cs).flatMap Res.S) w R)
section
variable {x:Cx}{g g':Nat->FV}{ob ob':List (Option Ob)}{cs cs':List Co}{ts ts':Array Value}{W W':World}{T:List (Nat×TI)}{Q:Post}{ops:Array Oper}{rest:List Oper}{d:Nat}{op:Op}{ty:TypeId}{pos:String}{af:Array Edge}{gd:Option (Nat×Bool)}{v:FV}
theorem IY {fresh:Bool}{P:Program}{f:FuncId}{fn:Func}{c:Code}{lent:List Lt}{args:List FV}{R:FV->Prop}(hf:P.funcs[f]? =some fn) (hb:fn.body=some c) (T:List (Nat×TI)) (hT:cH P T) (hle:Nat.ble args.length fn.ntmps=true)
  (h:∀x:Cx,x.P=P->x.n=fn.ntmps->x.c0.length=lent.length->WP x c (bP (oD 0 args)) (bR lent) (rA x T fn.results.toList fresh [] fun _=>R)):wQ fresh P f lent args R:=by
 intro N w cs us hL
 refine calls_of_wp hf hb ?_
 have hs0:=Sh.off (hL.sh 0 rfl)
 obtain⟨hobs,hfv⟩:=hs0
 have hus:=yT hfv
 have hle:args.length<=fn.ntmps:=Kz hle
 let x:Cx:=⟨P,N,(aL (bR lent) cs).flatMap Res.S,w,fn.ntmps,cs⟩
 have hNx:∀b,(pT w (aL (bR lent) cs) b/\N b)->x.fr w (bR lent) cs b:=fun b hb=>⟨hb.1,.inl hb.2⟩
 have hsz:(us.toArray++Array.replicate (fn.ntmps-us.toArray.size) undef).size=fn.ntmps:=by simp;omega
 have hR:RelC x (bP (oD 0 args)) (bR lent) cs (us.toArray++Array.replicate (fn.ntmps-us.toArray.size) undef) w:=by
  refine .of hsz hL ⟨hobs.1,fun k o hk=>⟨dI (fun _ _=>rfl) hNx .refl _ _ (hobs.2 k o hk).1,(hobs.2 k o hk).2⟩⟩ (fun i hi=>?_) .refl
  have hi':i<(us.toArray++Array.replicate (fn.ntmps-us.toArray.size) undef).size:=by rw[hsz];exact hi
  refine⟨_,Array.getElem?_eq_getElem hi',?_⟩
  by_cases hu:i<us.length
  ·have:=Gc (j:=0) (i:=i) hfv us[i] (fV hu)
   rw[Nat.zero_add]at this
   have e:(us.toArray++Array.replicate (fn.ntmps-us.toArray.size) undef)[i]=us[i]:=by
    rw[Array.getElem_append_left (by simpa using hu)]
    simp
   rw[e]
   exact gC (fun _ _=>rfl) hNx .refl _ _ this
  rw[Gd (by omega)]
  trivial
 have hlen:=hR.len
 rw[nA]at hlen
 have hw:=h x rfl rfl hlen.symm _ w ⟨cs,hR⟩
 refine wp_mono hw fun e a W hq=>?_
 have main:∀g ob ts,a=⟨ts,[]⟩->Gz x g ob ts W->(∃rs r ks lent',EndA x T fn.results.toList fresh [] (fun _=>R) g ob rs r ks lent')->a.defers=[]/\∃v,(results fn a.tmps).run P W=.ok v W/\EO fresh N ((aL (bR lent) cs).flatMap Res.S) w R (.returned v) W:=by
  rintro g ob ts rfl ⟨cs2,hR2⟩ ⟨rs,r,ks,lent',hE⟩
  have hnt:∀v∈rs,∀l,v≠.tup l:=by
   rcases hE.pk with⟨v,rfl,hp⟩ | ⟨_,l,_,hp⟩
   ·intro v' hv' l
    simp at hv'
    subst hv'
    cases hp <;> simp
   exact Cs hp
  obtain⟨us2,hrv,hfl⟩:=sV hT hR2 hE.res hnt
  have hrun:=Ez hrv
  refine⟨rfl,_,hrun,?_⟩
  have hcoe:xK ([]:List Lt).length cs2 []:=fun k hk=>absurd hk (Nat.not_lt_zero k)
  have hN0:∀b,x.fr W ob cs2 b->x.fr W ob cs2 b:=fun _ h=>h
  obtain⟨v,ys,hv,hro,hok,hsub⟩:∃(v:Value) (ys:List VT),v=(if h:us2.toArray.size=1 then us2.toArray[0]else .tuple us2.toArray)/\RO W (x.fr W ob cs2) [] r v ys/\VT.okL W ys/\(VT.fpL ys).Sublist (ks.flatMap fun k=>(aQ (cR ob k) (co cs2 k)).S):=by
   rcases hE.pk with⟨v1,e1,hp⟩ | ⟨hne,l,rfl,hp⟩
   ·subst e1
    cases us2 with
    | nil=>simp only[dM]at hfl
    | cons u us2=>
     simp only[dM]at hfl
     obtain⟨hf1,hf2⟩:=hfl
     subst hf2
     obtain⟨ys,f2,f3,f4⟩:=hp.ok hcoe hR2 hN0 hf1
     exact⟨_,ys,rfl,by simpa using DE f2,f3,f4⟩
   obtain⟨ys,f2,f3,f4⟩:=hp.ok hcoe hR2 hN0 hfl
   have hl:=yT hfl
   refine⟨_,ys,rfl,?_,f3,f4⟩
   rw[dif_neg (by simp;omega)]
   exact⟨us2,rfl,f2⟩
  have hks:∀k∈ks,(aL ob cs2)[k]? =some (aQ (cR ob k) (co cs2 k))\/(aQ (cR ob k) (co cs2 k)).S=[]:=fun k hk=>by
   cases hq:cR ob k with
   | none=>exact .inr (by simp[aQ])
   | some o=>exact .inl (cA hR2.len (dL hq))
  have hS2:(ks.flatMap fun k=>(aQ (cR ob k) (co cs2 k)).S)=(pick (aL ob cs2) ks).flatMap Res.S:=by
   clear hsub
   have hks':=hks
   clear hks hE
   induction ks with
   | nil=>rfl
   | cons k ks ih=>
    have ih:=ih (fun k' h=>hks' k' (List.mem_cons_of_mem _ h))
    unfold pick at ih⊢
    rw[List.flatMap_cons,ih,List.filterMap_cons]
    rcases hks' k (by simp)with h1 | h1
    ·rw[h1]
     simp
    rw[h1,List.nil_append]
    cases hq:(aL ob cs2)[k]? with
    | none=>rfl
    | some r'=>
     obtain⟨o,c,e1,e2,rfl⟩:=Vs hq
     have e3:(aQ o c).S=[]:=by
      have hco2:co cs2 k=c:=by simp[co,e2]
      cases o with
      | none=>rfl
      | some o=>
       have:cR ob k=some o:=by simp[cR,e1]
       rw[this,hco2]at h1
       exact h1
     simp[e3]
  have hLp:=hR2.2.pick ks hE.nd
  have hsubS:(([gG ys]).flatMap Res.S).Sublist ((pick (aL ob cs2) ks).flatMap Res.S):=by
   rw[<-hS2]
   simpa[gG]using hsub
  have hsubO:∀b,b∈([gG ys]).flatMap Res.S->b∈(aL ob cs2).flatMap Res.S:=fun b hb=>by
   have:=hsubS.subset hb
   obtain⟨r',hr',hb'⟩:=List.mem_flatMap.1 this
   obtain⟨i,_,hi⟩:=List.mem_filterMap.1 hr'
   exact List.mem_flatMap.2 ⟨r',List.mem_of_getElem? hi,hb'⟩
  have hfr:∀b,x.fr W ob cs2 b->pT W [gG ys] b/\(N b\/b∈(aL (bR lent) cs).flatMap Res.S\/w.heap.size<=b):=fun b hb=>⟨⟨hb.1.1,fun hm=>hb.1.2 (hsubO b hm)⟩,hb.2⟩
  refine⟨_,r,ys,by rw[<-hv],hE.post,?_⟩
  refine⟨hR2.2.chg,fun q hq=>?_,fun b hb=>hLp.blk b (hsubS.subset hb),hLp.nd.sublist hsubS,fun q hq=>?_⟩
  ·simp at hq
   subst hq
   exact hok
  rw[List.mem_singleton]at hq
  subst hq
  show Gy W _ [] (bR [])/\RO W _ [] r _ ys
  refine⟨⟨rfl,fun k o hk=>by simp[bR]at hk⟩,?_⟩
  cases hfresh:fresh with
  | false=>exact vA (fun _ _=>rfl) (fun b hb=>⟨rfl,hfr b hb⟩) .refl hro
  | true=>exact Qy (hE.clean hfresh).1 hro
 cases e with
 | normal=>
  obtain⟨g,ob,ts,rfl,h1,h2⟩:=hq
  exact main g ob ts rfl h1 h2
 | ret=>
  obtain⟨g,ob,ts,rfl,h1,h2⟩:=hq
  exact main g ob ts rfl h1 h2
 | panic c=>exact hq.elim
 | exit id=>
  obtain⟨_,_,_,_,_,h2⟩:=hq
  exact h2.elim
 | goto l=>
  obtain⟨_,_,_,_,_,h2⟩:=hq
  exact h2.elim
 | outgrown=>
  obtain⟨_,_,_,_,_,h2⟩:=hq
  exact h2.elim
theorem Zr {fresh:Bool}{f:FuncId}{args:List FV}{R:FV->Prop}{lent:List Lt}{K:List Nat}{os:List Operand}{fst caps:List Tr}{fus cus:List Value}(hS:wQ fresh x.P f lent (fM fst++args++fM caps) R) (hK:gX ob K K lent) (hnd:K.Nodup) (ha:tC x.n g K os args) (hfst:FRL W (x.fr W ob cs) fst fus) (hcap:FRL W (x.fr W ob cs) caps cus) (hR:RelC x g ob cs ts W):
  Calls x.P f (fus++os.map (Act.eval ⟨ts,[]⟩)++cus).toArray W (fun e W'=>∃v r ys N2,e=.returned v/\R r/\RO W' N2 [] r v ys/\VT.okL W' ys/\(VT.fpL ys).Nodup/\
   ∀(oz:List Ob) (csn:List Co),csn.length=oz.length->(∀b,((aL (oz.map some) csn).flatMap Res.S).count b<=(VT.fpL ys).count b)->(∀r∈aL (oz.map some) csn,r.φ W')->
    (∀b,N2 b->x.fr W' (cI ob K (dB K)++oz.map some) (cs++csn) b)/\
    ((∀i o,oz[i]? =some o->bZ W' (x.fr W' (cI ob K (dB K)++oz.map some) (cs++csn)) (cs++csn) o.l (co csn i).l/\((co csn i).b=none->o.l=[]/\o.z≠0))->
     RelC x g (cI ob K (dB K)++oz.map some) (cs++csn) ts W'/\∀d,Aft K d ob cs ts W (cI ob K (dB K)++oz.map some) (cs++csn) ts W')):=by
 have hlen:=hR.len
 have hll:=Ap hK
 have hKl:∀k∈K,k<ob.length:=fun k hk=>by
  obtain⟨i,hi⟩:=List.mem_iff_getElem?.1 hk
  obtain⟨a,l',_,_,h2⟩:=nB hK hi
  exact(List.getElem?_eq_some_iff.1 h2).1
 have hlobs:(bR lent).length=K.length:=by rw[nA,hll]
 have hput0:aL (cI ob K (bR lent)) cs=aL ob cs:=by
  have hl0:(cI ob K (bR lent)).length=cs.length:=by rw[iE];exact hlen
  apply List.ext_getElem?
  intro j
  by_cases hjl:j<ob.length
  ·by_cases hj:j∈K
   ·obtain⟨i,hi⟩:=List.mem_iff_getElem?.1 hj
    obtain⟨a,l',h1,_,h2⟩:=nB hK hi
    have h3:=oR hnd hlobs hi hjl
    rw[iU,h1]at h3
    rw[cA hl0 h3,cA hlen h2]
    exact congrArg some (oC _ _)
   have h3:=jR (l:=bR lent) (ob:=ob) hj
   rw[fV hjl]at h3
   rw[cA hl0 h3,cA hlen (fV hjl)]
  rw[List.getElem?_eq_none (by rw[iD hl0];omega),List.getElem?_eq_none (by rw[iD hlen];omega)]
 have hputc:eO cs K (K.map (co cs))=cs:=by
  have key:∀(K:List Nat),(∀k∈K,k<cs.length)->eO cs K (K.map (co cs))=cs:=by
   intro K
   induction K with
   | nil=>intro _;rfl
   | cons k K ih=>
    intro h
    simp only[List.map_cons,eO]
    rw[uZ (h k (by simp))]
    exact ih fun j hj=>h j (List.mem_cons_of_mem _ hj)
  exact key K fun k hk=>by rw[<-hlen];exact hKl k hk
 have hcnt0:=fun b=>Ej b (l:=bR lent) (lc:=K.map (co cs)) (cs:=cs) hnd hlobs (by simp) hlen hKl
 unfold dO at hcnt0
 rw[hputc,hput0]at hcnt0
 have hfr0:∀b,x.fr W ob cs b->pT W (aL (bR lent) (K.map (co cs))) b:=fun b hb=>And.intro hb.1.1 fun hm=>hb.1.2 (by
  have h1:=List.count_pos_iff.2 hm
  have h2:=hcnt0 b
  exact List.count_pos_iff.1 (show 0<((aL ob cs).flatMap Res.S).count b by omega))
 have hgetL:∀i k,K[i]? =some k->∃(a:Lt) (l':List AV),lent[i]? =some a/\renL K a.l=some l'/\ob[k]? =some (some (⟨a.t,a.z,l'⟩:Ob)):=fun i k hi=>nB hK hi
 have hφ0:∀r∈aL (bR lent) (K.map (co cs)),r.φ W:=fun r hr=>by
  obtain⟨i,hi⟩:=List.mem_iff_getElem?.1 hr
  have hil:=(List.getElem?_eq_some_iff.1 hi).1
  have hil2:i<K.length:=by
   rw[iD (by simp[hlobs])]at hil
   simpa using hil
  obtain⟨a,l',h1,_,h2⟩:=hgetL i K[i] (fV hil2)
  have e1:(bR lent)[i]? =some (some a.ob):=by rw[iU,h1];rfl
  rw[cA (by simp[hlobs]) e1,oB (fV hil2)]at hi
  injection hi with hi
  subst hi
  rw[show aQ (some a.ob) (co cs K[i])=aQ (some ⟨a.t,a.z,l'⟩) (co cs K[i]) from oC _ _]
  exact hR.res h2
 have h1:Loc x.M x.w W (aL (bR lent) (K.map (co cs))++aL (cI ob K (dB K)) cs) []:=(hR.2.pickS []).cut (fun b=>by
  rw[List.flatMap_append,List.count_append]
  have:=hcnt0 b
  omega) (fun r hr=>by
  rcases List.mem_append.1 hr with hr | hr
  ·exact hφ0 r hr
  rcases pS hnd hlen hKl hr with hr | hr
  ·exact hR.2.res r hr
  exact hr.2 W)
 have h2:Loc ((aL (bR lent) (K.map (co cs))).flatMap Res.S) W W (aL (bR lent) (K.map (co cs))) [(DD lent (K.map (co cs)) (fM fst++args++fM caps) (fus++os.map (Act.eval ⟨ts,[]⟩)++cus)).on (x.fr W ob cs)]:=by
  refine h1.focus.read _ ⟨⟨by simp[hlobs],fun k o hk=>?_⟩,yW (yW (vU (fun b hb=>⟨hfr0 b hb,hb⟩) hfst) (Rl hR (fun b hb=>⟨hfr0 b hb,hb⟩) ha)) (vU (fun b hb=>⟨hfr0 b hb,hb⟩) hcap)⟩
  rw[iU]at hk
  cases hq:lent[k]? with
  | none=>rw[hq]at hk;cases hk
  | some a=>
   rw[hq]at hk
   simp at hk
   subst hk
   have hkK:k<K.length:=by rw[<-hll];exact(List.getElem?_eq_some_iff.1 hq).1
   obtain⟨a',l',q1,q0,q2⟩:=hgetL k K[k] (fV hkK)
   rw[hq]at q1
   injection q1 with q1
   subst q1
   have q3:=hR.obs.2 _ _ q2
   rw[oB (fV hkK)]
   exact⟨Ed (fun b hb=>⟨hfr0 b hb,hb⟩) q0 q3.1,fun h=>⟨(Gi q0).2 (q3.2 h).1,(q3.2 h).2⟩⟩
 refine(hS _ W _ _ h2).mono fun e W' hE=>?_
 obtain⟨v,r,ys,rfl,hr,h3⟩:=hE
 have h4:=Loc.turn h1 h3
 have hsh:=Sh.off (h3.sh 0 rfl)
 refine⟨v,r,ys,_,rfl,hr,hsh.2,h3.res (gG ys) (by simp),?_,fun oz csn hlz hcz hφz=>?_⟩
 ·have:=h3.nd
  simpa[gG]using this
 have hlen2:(cI ob K (dB K)).length=cs.length:=by rw[iE];exact hlen
 have hrs:aL (cI ob K (dB K)++oz.map some) (cs++csn)=aL (cI ob K (dB K)) cs++aL (oz.map some) csn:=by
  unfold aL
  rw[List.zipWith_append hlen2]
 have hcnt2:∀b,(dO (cI ob K (dB K)++oz.map some) (cs++csn)).count b<=(([gG ys]++aL (cI ob K (dB K)) cs).flatMap Res.S).count b:=fun b=>by
  have q2:=hcz b
  unfold dO
  rw[hrs,List.flatMap_append,List.count_append,List.flatMap_append,List.count_append,List.flatMap_cons,List.flatMap_nil,List.append_nil]
  have q3:(gG ys).S=VT.fpL ys:=rfl
  rw[q3]
  omega
 have hin2:∀b,b∈dO (cI ob K (dB K)++oz.map some) (cs++csn)->b∈([gG ys]++aL (cI ob K (dB K)) cs).flatMap Res.S:=fun b hb=>List.count_pos_iff.1 (Nat.lt_of_lt_of_le (List.count_pos_iff.2 hb) (hcnt2 b))
 have hrest:∀b,b∈(aL (cI ob K (dB K)) cs).flatMap Res.S->b∈dO ob cs:=fun b hb=>by
  obtain⟨r,hr,hb⟩:=List.mem_flatMap.1 hb
  rcases pS hnd hlen hKl hr with hr | hr
  ·exact List.mem_flatMap.2 ⟨r,hr,hb⟩
  rw[hr.1]at hb
  cases hb
 have hlentS:∀b,b∈(aL (bR lent) (K.map (co cs))).flatMap Res.S->b∈dO ob cs:=fun b hb=>by
  have q1:=List.count_pos_iff.2 hb
  have q2:=hcnt0 b
  exact List.count_pos_iff.1 (show 0<((aL ob cs).flatMap Res.S).count b by omega)
 have hfree:∀b,pT W' [gG ys] b->(x.fr W ob cs b\/b∈(aL (bR lent) (K.map (co cs))).flatMap Res.S\/W.heap.size<=b)->x.fr W' (cI ob K (dB K)++oz.map some) (cs++csn) b:=fun b hb hb'=>by
  refine⟨⟨hb.1,fun hm=>?_⟩,?_⟩
  ·have hm:=hin2 b hm
   rw[List.flatMap_append,List.mem_append]at hm
   rcases hm with hm | hm
   ·exact hb.2 hm
   have hm2:=hrest b hm
   rcases hb' with hb' | hb' | hb'
   ·exact hb'.1.2 hm2
   ·have q1:=hcnt0 b
    have q2:=List.nodup_iff_count.1 hR.2.nd b
    have q3:=List.count_pos_iff.2 hb'
    have q4:=List.count_pos_iff.2 hm
    unfold dO at q1
    omega
   have:=(hR.2.blk b hm2).2
   omega
  rcases hb' with hb' | hb' | hb'
  ·exact hb'.2
  ·exact .inr (hR.2.blk b (hlentS b hb')).1
  exact .inr (.inr (Nat.le_trans hR.2.chg.size hb'))
 have hsize:W.heap.size<=W'.heap.size:=h3.chg.size
 have hfr:∀b,x.fr W ob cs b->x.fr W' (cI ob K (dB K)++oz.map some) (cs++csn) b:=fun b hb=>by
  refine hfree b ⟨Nat.lt_of_lt_of_le hb.1.1 hsize,fun hm=>?_⟩ (.inl hb)
  have q1:=h3.blk b hm
  rcases q1.1 with q1 | q1
  ·exact hb.1.2 (hlentS b q1)
  have:=hb.1.1
  omega
 have hkeep:∀b,x.fr W ob cs b->W'.heap[b]? =W.heap[b]? :=fun b hb=>h3.chg.block b hb.1.1 (fun hm=>hb.1.2 (hlentS b hm))
 refine⟨fun b hb=>hfree b hb.2.1 hb.2.2,fun hoz=>?_⟩
 have happ:∀{k},k<cs.length->co (cs++csn) k=co cs k:=fun hk=>by simp[co,List.getElem?_append_left hk]
 have hsame3:Same cs (cs++csn):=⟨by simp,fun k hk=>by rw[happ hk];exact⟨rfl,rfl⟩⟩
 have hnone:∀{k:Nat},k∈K->k<ob.length->(cI ob K (dB K))[k]? =some none:=fun{k} hk hl=>by
  obtain⟨i,hi⟩:=List.mem_iff_getElem?.1 hk
  rw[oR hnd (by simp[dB]) hi hl]
  simp[dB,hi]
 have hLf:Loc x.M x.w W' (aL (cI ob K (dB K)++oz.map some) (cs++csn)) []:=h4.cut hcnt2 (fun r hr=>by
  rw[hrs]at hr
  rcases List.mem_append.1 hr with hr | hr
  ·exact h4.res _ (List.mem_append_right _ hr)
  exact hφz r hr)
 refine⟨.of hR.1 hLf ⟨by rw[cJ,cJ,hlen2,dP,hlz],fun k o hk=>?_⟩ (fun i hi=>?_) (hR.3.trans hsame3),fun d=>⟨hsame3,fun k hk hkc=>?_,hsize,fun b hlt hb=>?_,fun b hb=>?_,fun _ _=>rfl⟩⟩
 ·rcases Nat.lt_or_ge k (cI ob K (dB K)).length with hlt | hge
  ·rw[List.getElem?_append_left hlt]at hk
   rw[happ (by rw[<-hlen2];exact hlt)]
   rw[iE]at hlt
   by_cases hkK:k∈K
   ·rw[hnone hkK hlt]at hk
    injection hk with hk
    cases hk
   rw[jR hkK]at hk
   have q1:=hR.obs.2 k o hk
   exact⟨dI hkeep hfr hsame3 _ _ q1.1,q1.2⟩
  rw[List.getElem?_append_right hge]at hk
  have ho:oz[k-(cI ob K (dB K)).length]? =some o:=by
   rw[List.getElem?_map]at hk
   cases hq:oz[k-(cI ob K (dB K)).length]? with
   | none=>rw[hq]at hk;cases hk
   | some o'=>
    rw[hq]at hk
    simp at hk
    rw[hk]
  have q1:=hoz _ o ho
  have e:co (cs++csn) k=co csn (k-(cI ob K (dB K)).length):=by
   unfold co
   rw[List.getElem?_append_right (by rw[<-hlen2];exact hge),hlen2]
  rw[e]
  exact q1
 ·obtain⟨u,q1,q2⟩:=hR.fv hi
  exact⟨u,q1,gC hkeep hfr hsame3 _ _ q2⟩
 ·rw[happ hkc]
 ·refine h3.chg.block b hlt fun hm=>?_
  obtain⟨r,hr,hbr⟩:=List.mem_flatMap.1 hm
  obtain⟨i,hi⟩:=List.mem_iff_getElem?.1 hr
  have hil:=(List.getElem?_eq_some_iff.1 hi).1
  have hil2:i<K.length:=by
   rw[iD (by simp[hlobs])]at hil
   simpa using hil
  obtain⟨a,l',q1,_,q2⟩:=hgetL i K[i] (fV hil2)
  have e1:(bR lent)[i]? =some (some a.ob):=by rw[iU,q1];rfl
  rw[cA (by simp[hlobs]) e1,oB (fV hil2)]at hi
  injection hi with hi
  subst hi
  rw[show aQ (some a.ob) (co cs K[i])=aQ (some ⟨a.t,a.z,l'⟩) (co cs K[i]) from oC _ _]at hbr
  exact hb K[i] (List.getElem_mem hil2) _ q2 hbr
 have q1:=hin2 b hb
 rw[List.flatMap_append,List.mem_append]at q1
 rcases q1 with q1 | q1
 ·rcases(h3.blk b (by simpa using q1)).1 with q2 | q2
  ·exact .inl (hlentS b q2)
  exact .inr q2
 exact .inl (hrest b q1)
theorem Si {fresh:Bool}{f:FuncId}{args:List FV}{R:FV->Prop}{lent:List Lt}{K:List Nat}{aa:Array Operand}{ats:Array TypeId}{cf:Operand}{fst caps:List Tr}{key:Nat}(hS:wQ fresh x.P f lent (fM fst++args++fM caps) R) (hf:CallOk x.P f) (hc:LI x g cf f fst caps) (hK:gX ob K K lent) (hnd:K.Nodup) (ha:tC x.n g K aa.toList args) (hk:eM ob key=true) (hb:∀r,R r->(oU key r).isSome=true):
  OS x ⟨some d,.call ⟨.value cf,aa,ats⟩,ty,pos,af,gd⟩ g ob K (fun g' ob'=>∃r v os,R r/\oU key r=some (v,os)/\g'=bG g d v/\ob'=cI ob K (dB K)++os.map some):=by
 intro cs ts W hR K' Q kk
 obtain⟨us0,us,e0,hfst,hcap⟩:=hc ob cs ts W hR
 unfold Oper.wp
 rw[Mn hf e0]
 refine(Zr hS hK hnd ha hfst hcap hR).mono fun e W' hE=>?_
 obtain⟨v,r,ys,N2,rfl,hr,hro,hok,hndy,fin⟩:=hE
 have hb1:=hb r hr
 obtain⟨⟨v',os⟩,hbn⟩:=Option.isSome_iff_exists.1 hb1
 obtain⟨csn,e1,e2,e3,e4⟩:=Rh (LL hbn hro) hok hbn
 obtain⟨hN,hfin⟩:=fin os csn e1 (fun b=>by rw[e2];exact aX _) e3
 have hk:=Nat.eq_of_beq_eq_true hk
 have hpl:cs.length=key:=by rw[<-hR.len,hk]
 obtain⟨g1,g2⟩:=e4 _ (cs++csn) hN (by simp[hpl,e1]) (fun i _=>by
  unfold co
  rw[List.getElem?_append_right (by omega),hpl,show key+i-key=i by omega])
 obtain⟨m1,m2⟩:=hfin g2
 exact kk _ _ _ _ _ ⟨r,v',os,hr,hbn,rfl,rfl⟩ (m1.put d g1) ((m2 (some d)).then_put v)
theorem cm {fresh:Bool}{f:FuncId}{lent:List Lt}{args:List FV}{r:FV}{os:List Ob}{aa:Array Operand}{ats:Array TypeId}(key:Nat) (K:List Nat) (hS:wQ fresh x.P f lent args (· =r)) (hf:CallOk x.P f) (hK:gX ob K K lent) (ha:tC x.n g K aa.toList args) (k:WL x ops rest (bG g d v) (cI ob K (dB K)++os.map some) Q) (hw:bK ops x.n g gd=some true:=by rfl) (hk:eM ob key=true:=by rfl) (hnd:K.Nodup:=by decide) (hb:oU key r=some (v,os):=by rfl):
  WL x ops (⟨some d,.call ⟨.value (.func f),aa,ats⟩,ty,pos,af,gd⟩::rest) g ob Q:=by
 have e:fM []++args++fM []=args:=by simp[fM]
 refine gY (Si (by rw[e];exact hS) hf (Oc f) hK hnd ha hk (by rintro _ rfl;rw[hb];rfl)) hw ?_
 rintro _ _ ⟨r',v',os',rfl,h,rfl,rfl⟩
 rw[hb]at h
 injection h with h
 injection h with h1 h2
 subst h1 h2
 exact k
theorem Jg {late:Nat->Bool}{K fr:List Nat}{fuel:Nat}{listed:Array Bool}{fresh:Bool}{f:FuncId}{lent:List Lt}{args:List FV}{r:FV}{os:List Ob}{aa:Array Operand}{ats:Array TypeId}(i key:Nat) (Kl:List Nat) (hi:ops[i]? =some ⟨some d,.call ⟨.value (.func f),aa,ats⟩,ty,pos,af,gd⟩) (hS:wQ fresh x.P f lent args (· =r)) (hf:CallOk x.P f) (hK:gX ob Kl Kl lent) (ha:tC x.n g Kl aa.toList args) (hke:nO ob (cI ob Kl (dB Kl)++os.map some) K) (k:WD x ops Q late K (d::fr) true fuel (listed.setIfInBounds i true) (bG g d v) (cI ob Kl (dB Kl)++os.map some)) (hr:Region.ready .any ops listed=[i]:=by kernel_rfl) (hw:bK ops x.n g gd=some true:=by rfl) (hk:eM ob key=true:=by rfl) (hnd:Kl.Nodup:=by decide) (hdis:∀k∈K,k∉Kl:=by decide) (hb:oU key r=some (v,os):=by rfl):
  WD x ops Q late K fr true (fuel+1) listed g ob:=by
 have e:fM []++args++fM []=args:=by simp[fM]
 refine Zc i hr hi rfl hw (Si (by rw[e];exact hS) hf (Oc f) hK hnd ha hk (by rintro _ rfl;rw[hb];rfl)) hdis ?_ ?_
 ·rintro _ _ ⟨r',v',os',rfl,h,rfl,rfl⟩
  rw[hb]at h
  injection h with h
  injection h with h1 h2
  subst h1 h2
  exact⟨⟨_,rfl⟩,lN hke⟩
 rintro _ _ ⟨r',v',os',rfl,h,rfl,rfl⟩
 rw[hb]at h
 injection h with h
 injection h with h1 h2
 subst h1 h2
 exact k
theorem fnM {fresh:Bool}{P:Program}{f:FuncId}{fn:Func}{c:Code}{n:Nat}{rv:List ResultVar}{lent:List Lt}{args:List FV}{R:FV->Prop}(hf:P.funcs[f]? =some fn) (hb:fn.body=some c) (hn:fn.ntmps=n) (hrv:fn.results.toList=rv) (hT:cH P T) (hle:Nat.ble args.length n=true)
  (h:∀N M w c0,c0.length=lent.length->WP ⟨P,N,M,w,n,c0⟩ c (bP (oD 0 args)) (bR lent) (Gm ⟨P,N,M,w,n,c0⟩ (rA ⟨P,N,M,w,n,c0⟩ T rv fresh [] fun _=>R))):wQ fresh P f lent args R:=by
 subst hn hrv
 refine IY hf hb T hT hle ?_
 rintro⟨P',N,M,w,n,c0⟩ rfl rfl h0
 exact(h N M w c0 h0).subQ
end
def aN (l:List Nat):ByteArray:=⟨(l.map UInt8.ofNat).toArray⟩
def bS (xs:List Nat):List Tr:=xs.map fun(n:Nat)=>.v (.int .u8 (n:Int))
section
variable {l l':List Nat}{i j:Nat}
theorem aO (l:List Nat):(aN l).size=l.length:=by simp[aN,ByteArray.size]
theorem kL (l:List Nat):(aN l).data.toList=l.map UInt8.ofNat:=rfl
theorem Jh {a b:ByteArray}(h:a.data.toList=b.data.toList):a=b:=by
 cases a;cases b
 simp only at h
 rw[Array.toList_inj]at h
 rw[h]
theorem eK (l l':List Nat):aN l++aN l'=aN (l++l'):=Jh (by simp[aN])
theorem Bt (l:List Nat) (i j:Nat):(aN l).extract i j=aN ((l.take j).drop i):=Jh (by
 simp[aN,List.map_drop,List.map_take,List.extract_eq_drop_take',List.extract_eq_take_drop])
theorem jJ (h:i<l.length) (h2:nth l i<256):((aN l).data[i]?.getD 0).toNat=nth l i:=by
 have e:(aN l).data[i]? =some (UInt8.ofNat (nth l i)):=by
  rw[<-Array.getElem?_toList,kL,List.getElem?_map]
  simp[nth,h]
 rw[e]
 simp
 omega
theorem YY {a b:Nat}(ha:a<256) (hb:b<256) (h:UInt8.ofNat a=UInt8.ofNat b):a=b:=by
 have:=congrArg UInt8.toNat h
 simp at this
 omega
theorem YZ (h:Lim 256 l) (h':Lim 256 l'):aN l=aN l'↔l=l':=by
 refine⟨fun e=>?_,fun e=>by rw[e]⟩
 have e2:=congrArg (fun a:ByteArray=>a.data.toList) e
 simp only[kL]at e2
 induction l generalizing l' with
 | nil=>cases l' with
  | nil=>rfl
  | cons x l'=>simp at e2
 | cons x l ih=>cases l' with
  | nil=>simp at e2
  | cons y l'=>
   simp only[List.map_cons,List.cons.injEq]at e2
   rw[YY (h x (List.mem_cons_self ..)) (h' y (List.mem_cons_self ..)) e2.1,ih (fun z hz=>h z (List.mem_cons_of_mem _ hz)) (fun z hz=>h' z (List.mem_cons_of_mem _ hz)) (by unfold aN;rw[e2.2]) e2.2]
theorem Nn (h:Lim 256 l) (h':Lim 256 l'):((aN l).toList==(aN l').toList)=decide (l=l'):=by
 rw[ByteArray.toList_eq,ByteArray.toList_eq,kL,kL,Bool.eq_iff_iff,decide_eq_true_eq,beq_iff_eq,<-YZ h h']
 exact⟨fun e=>Jh e,fun e=>by rw[<-kL,<-kL,e]⟩
theorem aBg (a:ByteArray):a=aN (a.data.toList.map UInt8.toNat)/\Lim 256 (a.data.toList.map UInt8.toNat):=by
 refine⟨Jh ?_,fun x hx=>?_⟩
 ·rw[kL,List.map_map]
  have:UInt8.ofNat∘UInt8.toNat=id:=by funext x;simp
  rw[this,List.map_id]
 obtain⟨c,_,rfl⟩:=List.mem_map.1 hx
 exact c.toNat_lt
theorem QN (xs:List Nat):strOfNums (xs.map fun(n:Nat)=>(n:Int))=aN xs:=by simp[strOfNums,aN]
end
section
variable {x:Cx}{g:Nat->FV}{ob ob':List (Option Ob)}{cs:List Co}{ts:Array Value}{W:World}{T:List (Nat×TI)}{Q:Post}{ops:Array Oper}{rest:List Oper}{d:Nat}{ty:TypeId}{pos:String}{af:Array Edge}{gd:Option (Nat×Bool)}
theorem Xa (xs:List Nat):(bS xs).length=xs.length:=by simp[bS]
theorem Xs (xs:List Nat):fQ ((bS xs).map .t)=true:=by
 induction xs with
 | nil=>rfl
 | cons x xs ih=>simpa[bS,fQ,rL]using ih
theorem MX (xs:List Nat):dR ((bS xs).map .t)=true:=by
 induction xs with
 | nil=>rfl
 | cons x xs ih=>simpa[bS,dR,lone]using ih
theorem EP {N:Nat->Prop}:∀{xs:List Nat}{us:List Value},ARL W N cs ((bS xs).map .t) us->us=xs.map fun(n:Nat)=>Value.int .u8 (n:Int)
 | [],us,h=>by simpa[bS,ARL]using h
 | x::xs,u::us,h=>by
  simp only[bS,List.map_cons,ARL,AR,FR]at h
  rw[h.1,EP (xs:=xs) h.2]
  rfl
 | x::xs,[],h=>by simp[bS,ARL]at h
theorem ZA (hT:cH x.P T){t t2 e by_ ts0:Nat}{zz:Value}{ti:Bool}{z0:List Value}{ie i2:TI}{a:Operand}{av:AV}{xs:List Nat}(ht:bX T t=some ⟨ti,ts0,z0,.sl e 1 by_ zz⟩) (he:bX T e=some ie) (hek:ie.kd=.it .u8) (h2:bX T t2=some i2) (h2k:i2.kd=.str)
  (ha:lk x.n g a=.one av) (hs:SrcA ob 1 av xs.length ((bS xs).map .t)):OS x ⟨some d,.convert t t2 a,ty,pos,af,gd⟩ g ob [] (fun g' ob'=>g'=bG g d (.one (tv (.string (aN xs))))/\ob'=ob):=by
 intro cs ts W hR K Q k
 have h1:=hR.lk a
 rw[ha]at h1
 obtain⟨A,c,us,eu,hrd,hus⟩:=hs.ok (Xs xs) hR h1
 have hus:=EP hus
 subst hus
 have k1:=(dX hT ht).2.2.2.1
 have k2:=(dX hT he).2.2.2
 have k3:=(dX hT h2).2.2.2
 rw[hek]at k2
 rw[h2k]at k3
 obtain⟨_,q1,_,_⟩:=k1
 have hrun:(execOp (Act.eval ⟨ts,[]⟩) ⟨some d,.convert t t2 a,ty,pos,af,gd⟩).run x.P W=.ok (.value (.string (aN xs))) W:=by
  have hc:=run_convert_bytes_string (P:=x.P) W t t2 e A xs.length c q1 k2 k3
  have hb:(Conv.bytesToString (.slice A xs.length c)).run x.P W=.ok (.string (aN xs)) W:=by
   cases A with
   | none=>
    have hx:xs.length=0:=by
     rcases Nat.eq_zero_or_pos xs.length with h | h
     ·exact h
     obtain⟨ad,q,_⟩:=hrd.cell h
     cases q
    obtain rfl:=List.eq_nil_of_length_eq_zero hx
    simp[Conv.bytesToString,aN]
    rfl
   | some ad=>
    have hl:(loadCells ad xs.length).run x.P W=.ok ((xs.map fun(n:Nat)=>(n:Int)).map (Value.int .u8)).toArray W:=by
     have:=run_loadCells_list (P:=x.P) W ad ((xs.map fun(n:Nat)=>(n:Int)).map (Value.int .u8)) (fun j v hj=>by
      have hj2:=hj
      rw[List.map_map]at hj2
      have hlt:j<xs.length:=by
       have:=(List.getElem?_eq_some_iff.1 hj2).1
       simpa using this
      obtain⟨ad',q,_,q3⟩:=hrd.cell (by omega)
      injection q with q
      subst q
      exact q3 j v hj2)
     simpa using this
    rw[run_bytesToString W ad _ c _ hl,foldl_push_bytes,<-QN]
    simp[strOfNums]
  simp[execOp,eu,hc,hb]
 exact eN hrun (k _ _ _ _ _ ⟨rfl,rfl⟩ (hR.put d (v:=.one (tv (.string (aN xs)))) (jX (by simp[tv,AR,FR]))) (.put d _))
theorem ZB (hT:cH x.P T){t k n sz ts0:Nat}{ti:Bool}{z0:List Value}(ht:bX T t=some ⟨ti,ts0,z0,.ar n sz⟩) (hk:eM ob k=true) (hz:z0.length=n*sz) (hs:Nat.beq sz 0=false) (hn:n<=1000):OS x ⟨some d,.alloc t,ty,pos,af,gd⟩ g ob [] (fun g' ob2=>g'=bG g d (.one (.pt k 0))/\ob2=ob++[some ⟨t,sz,z0.map tv⟩]):=by
 obtain⟨j,v,h1,h2,h3⟩:=(dX hT ht).2.2.1
 have hk:=Nat.eq_of_beq_eq_true hk
 subst hk
 intro cs ts W hR K Q kk
 have hrun:(execOp (Act.eval ⟨ts,[]⟩) ⟨some d,.alloc t,ty,pos,af,gd⟩).run x.P W=.ok (.value (.pointer (some ⟨W.heap.size,0,none⟩))) (W.alloc (.cells z0.toArray t)):=by
  simp[execOp,Instr.alloc,zeroValue,typeInfo,h1,h2,newVar,newRow,h3]
 obtain⟨m1,m2⟩:=hR.made (t:=t) (z:=sz) (c:=n) (pH z0) (yR _) (by rw[hs];exact hz) (by unfold maxLen;omega)
 refine eN hrun (kk _ _ _ _ _ ⟨rfl,rfl⟩ (m1.put d ?_) ((m2 (some d)).then_put _))
 refine jX ?_
 simp only[AR]
 exact⟨W.heap.size,by rw[hR.len,iT],rfl⟩
theorem alA (key:Nat){t n sz ts0:Nat}{ti:Bool}{z0:List Value}(kk:WL x ops rest (bG g d (.one (.pt key 0))) (ob++[some ⟨t,sz,z0.map tv⟩]) Q) (hT:cH x.P ttab:=by exact aR) (hw:bK ops x.n g gd=some true:=by rfl) (ht:bX ttab t=some ⟨ti,ts0,z0,.ar n sz⟩:=by rfl) (hk:eM ob key=true:=by rfl) (hz:z0.length=n*sz:=by rfl) (hs:Nat.beq sz 0=false:=by rfl) (hn:n<=1000:=by decide):WL x ops (⟨some d,.alloc t,ty,pos,af,gd⟩::rest) g ob Q:=
 gY (ZB hT ht hk hz hs hn) hw (by rintro _ _ ⟨rfl,rfl⟩;exact kk)
theorem aAg {ta t e z by_ n m k d1 t' ts2:Nat}{zz:Value}{ti ti2:Bool}{ts0:Nat}{z0 z2:List Value}{s a:Operand}{av:AV}{l la:List AV}{ty1:TypeId}{pos1:String}{af1:Array Edge}{gd1:Option (Nat×Bool)}(j:Nat) (hd:DstA ob e z av n ob' l) (hr:fQ la=true) (hlo:dR la=true) (hla:la.length=m*z) (hbytes:(n+m)*by_<=140737488355328) (h63:n+m<=140737488355328)
  (kk:WL x ops rest (bG (bG g d1 .any) d (.one (.sl j 0 (n+m)))) (ob'++[some ⟨e,z,l++la⟩]) Q)
  (hT:cH x.P ttab:=by exact aR) (hta:bX ttab ta=some ⟨ti2,ts2,z2,.ar m z⟩:=by rfl) (ht:bX ttab t=some ⟨ti,ts0,z0,.sl e z by_ zz⟩:=by rfl) (hsl:lk x.n g s=.one (.pt k 0):=by rfl) (hob:cR ob k=some ⟨t',z,la⟩:=by rfl) (ha:lk x.n (bG g d1 .any) a=.one av:=by rfl) (hj:eM ob j=true:=by rfl) (hd1:Nat.blt d1 x.n=true:=by rfl)
  (hw1:bK ops x.n g gd1=some true:=by rfl) (hw2:bK ops x.n (bG g d1 .any) gd=some true:=by rfl):
  WL x ops (⟨some d1,.slice ta s none none none,ty1,pos1,af1,gd1⟩::⟨some d,.call ⟨.builtin .append, #[a,.tmp d1], #[t,t]⟩,ty,pos,af,gd⟩::rest) g ob Q:=by
 intro ts W ⟨cs,hR⟩
 have hd1:d1<x.n:=by simpa using hd1
 have h1:=hR.lk s
 rw[hsl]at h1
 simp only[bV,cE,AR]at h1
 obtain⟨b,hb,e1⟩:=h1
 have k1:=(dX hT hta).2.2.2
 obtain⟨ee,ii,q1,q2,q3⟩:=k1
 have hb0:(Instr.sliceBounds false m m none none none).run x.P W=.ok (0,m,m) W:=by
  simp[Instr.sliceBounds]
 have hrun:(execOp (Act.eval ⟨ts,[]⟩) ⟨some d1,.slice ta s none none none,ty1,pos1,af1,gd1⟩).run x.P W=.ok (.value (.slice (some ⟨b,0,none⟩) m m)) W:=by
  simp[execOp,e1,Instr.sliceAt,run_underlying q1,Instr.sureAddr,hb0,sizeOf,typeInfo,q2,Addr.add]
 refine Bk (lW hw1 hR) (eN hrun ?_)
 have hR1:=hR.put d1 (v:=.any) (u:=.slice (some ⟨b,0,none⟩) m m) trivial
 obtain⟨Wr,h,_⟩:=Vz (x:=x) (g:=bG g d1 .any) (E:=fun cs ts=>∃b,(co cs k).b=some b/\Act.eval ⟨ts,[]⟩ (.tmp d1)=.slice (some ⟨b,0,none⟩) m m) (d:=d) (ty:=ty) (pos:=pos) (af:=af) (gd:=gd) (b:=.tmp d1) hT ht ha hd (fun cs ts W hR ⟨b,hb,e⟩=>by
  have hk:=dL hob
  obtain⟨k1,_,k3⟩:=hR.blk hk hb
  have hcl:=hR.crl hk
  have h4:=tT hcl hr
  refine⟨_,m,_,e,⟨by rw[iG h4,hla],aX _,by omega,fun h0=>⟨_,rfl,hR.blkS hk b (by simp[aQ,hb]),fun j u hj=>?_⟩⟩,h4⟩
  have h6:=rN k1 hj
  simpa using h6) hr hlo hj hbytes h63
 refine Bk (lW hw2 hR1) (h cs _ W hR1 ⟨b,hb,?_⟩ _ _ fun g' ob' cs' ts' W' hr hR' _=>?_)
 ·have:d1<ts.size:=by rw[hR.sz];exact hd1
  simp[Act.eval,this]
 obtain⟨rfl,rfl⟩:=hr
 exact kk ts' W' ⟨cs',hR'⟩
theorem Xq {late:Nat->Bool}{K fr:List Nat}{fuel:Nat}{listed:Array Bool}{t ky o t' z':Nat}{ti:TI}{a:Operand}{l:List AV}{v:AV}(i:Nat) (hx:l[o]? =some v) (k:WD x ops Q late K (d::fr) true fuel (listed.setIfInBounds i true) (bG g d (.one v)) ob) (hT:cH x.P ttab:=by exact aR) (hi:ops[i]? =some ⟨some d,.load t a,ty,pos,af,gd⟩:=by rfl) (hw:bK ops x.n g gd=some true:=by rfl) (hti:bX ttab t=some ti:=by rfl) (hlk:lk x.n g a=.one (.pt ky o):=by rfl) (ho:cR ob ky=some ⟨t',z',l⟩:=by rfl) (ha:ti.agg=false:=by rfl) (hr:rL v=true:=by rfl):WO x ops Q late K fr true fuel listed i g ob:=
 Za (v:=.one v) i hi rfl hw (Nx hT hti (by rw[hlk];exact Rj ho hx ha hr)) (by rintro _ _ ⟨rfl,rfl⟩;exact⟨rfl,fun _ _=>rfl⟩) (by rintro _ _ ⟨rfl,rfl⟩;exact k)
theorem b2s {t t2 e by_ ts0:Nat}{zz:Value}{ti:Bool}{z0:List Value}{ie i2:TI}{a:Operand}{av:AV}{xs:List Nat}{m:Nat}(hs:SrcA ob 1 av m ((bS xs).map .t)) (hm:m=xs.length) (kk:WL x ops rest (bG g d (.one (tv (.string (aN xs))))) ob Q) (hT:cH x.P ttab:=by exact aR) (hw:bK ops x.n g gd=some true:=by rfl) (ht:bX ttab t=some ⟨ti,ts0,z0,.sl e 1 by_ zz⟩:=by rfl) (he:bX ttab e=some ie:=by rfl) (hek:ie.kd=.it .u8:=by rfl) (h2:bX ttab t2=some i2:=by rfl) (h2k:i2.kd=.str:=by rfl) (ha:lk x.n g a=.one av:=by rfl):WL x ops (⟨some d,.convert t t2 a,ty,pos,af,gd⟩::rest) g ob Q:=
 gY (ZA hT ht he hek h2 h2k ha (hm▸hs)) hw (by rintro _ _ ⟨rfl,rfl⟩;exact kk)
theorem Nm (xs:List Nat){k:Nat}(h:k<xs.length):((bS xs).map AV.t)[0+k*1]? =some (tv (.int .u8 ((nth xs k:Nat):Int))):=by simp[bS,dT h,h,tv]
theorem Bs (xs:List Nat){k v:Nat}(h:k<xs.length):eD ((bS xs).map AV.t) (0+k*1) [tv (.int .u8 (v:Int))]=(bS (xs.set k v)).map .t:=by
 rw[Nat.zero_add,Nat.mul_one,List.set_eq_take_append_cons_drop,if_pos h]
 simp[eD,bS,tv,List.map_take,List.map_drop]
theorem Hl (xs:List Nat){k:Nat}{a:AV}(h:k<xs.length):0+k*1+[a].length<=((bS xs).map AV.t).length:=by simp[bS];omega
theorem aBz (xs:List Nat):((bS xs).map AV.t).take (xs.length*1)=(bS xs).map .t:=by rw[Nat.mul_one,cT (by simp[Xa])]
theorem zM (xs:List Nat):((bS xs).map AV.t).length=xs.length*1:=by simp[Xa]
theorem SX (xs ys:List Nat):(bS xs).map AV.t++(bS ys).map .t=(bS (xs++ys)).map .t:=by simp[bS]
end
theorem cG {fresh:Bool}{x:Cx}{T:List (Nat×TI)}{rv:List ResultVar}{e:Exit}{g:Nat->FV}{ob:List (Option Ob)}{b b':Bool}(he:e=.ret\/e=.normal) (res:sH T x.n g ob rv=some [.one (tv (.bool b))]) (hb:b=b'):rA x T rv fresh [] (aP (.one (tv (.bool b')))) e g ob:=en he res (bB (bO _)) (by decide) (fun _=>trivial) (by rw[hb];rfl)
theorem Ew {b b':Bool}(h:b=b'):some (FV.one (tv (.bool b)))=some (FV.one (tv (.bool b'))):=by rw[h]
theorem bn9 {b:Bool}(h:(!b)=false):b=true:=by cases b <;> simp_all
theorem f0 {f:Nat->Bool}{b:Bool}:∀j,j<0->f j=b:=fun j hj=>absurd hj (Nat.not_lt_zero j)
theorem vK {k:IntKind}{a b:Int}(h:a=b):some (FV.one (tv (.int k a)))=some (FV.one (tv (.int k b))):=by rw[h]
theorem lZ {x:Cx}{g:Nat->FV}{ob:List (Option Ob)}{Q:Post}{ops:Array Oper}{rest:List Oper}{a:ByteArray}(t:Nat) (b:List Nat) (hg:g t=.one (tv (.string a))) (h:a=aN b) (k:WL x ops rest (bG g t (.one (tv (.string (aN b))))) ob Q):WL x ops rest g ob Q:=WL.cast (t:=t) hg (congrArg Value.string h) k
theorem Ba {x:Cx}{g:Nat->FV}{ob:List (Option Ob)}{Q:Post}{ops:Array Oper}{late:Nat->Bool}{K fr:List Nat}{on:Bool}{fuel:Nat}{listed:Array Bool}{a:ByteArray}(t:Nat) (b:List Nat) (hg:g t=.one (tv (.string a))) (h:a=aN b) (k:WD x ops Q late K fr on fuel listed (bG g t (.one (tv (.string (aN b))))) ob):WD x ops Q late K fr on fuel listed g ob:=WD.cast (t:=t) hg (congrArg Value.string h) k
def sT (l:List Nat):Tr:=.v (.string (aN l))
structure It where
 b:Bool
 k:Nat
 s:List Nat
 t:List Nat
 u:List Nat
 v:List Nat
 p:Fr4
 q:Fr4
def nilIt:It:=⟨false,0,[],[],[],[],nilF,nilF⟩
def tI (x:It):List Tr:=x.p.tr false++x.q.tr false
def nP (x:It):List Tr:=sT x.s::.v (.int .u8 (x.k:Int))::x.p.tr false
def fG (x:It):List Tr:=sT x.s::sT x.t::x.p.tr false
def kP (x:It):List Tr:=.v (.bool x.b)::sT x.s::.v (.int .u8 (x.k:Int))::sT x.t::sT x.u::sT x.v::x.p.tr false
def oV (x:It):List Tr:=sT x.s::(x.p.tr false++x.q.tr false)
def pF (x:It):List Tr:=sT x.s::x.p.tr false
theorem gQ (x:It):(tI x).length=8:=rfl
theorem iH (x:It):(nP x).length=6:=rfl
theorem dF (x:It):(fG x).length=6:=rfl
theorem lH (x:It):(kP x).length=10:=rfl
theorem fI (x:It):(oV x).length=9:=rfl
theorem gR (x:It):(pF x).length=5:=rfl
def fN (ty z:Nat) (c:It->List Tr) (l:List It):Tr:=.s false ty z l.length (l.flatMap c)
def aB (l:List It) (i:Nat):It:=l.getD i nilIt
structure Yer where
 n:Int
 h:List It
 b:List It
 d:List It
 s:List It
 o:List It
def tJ:Yer:=⟨0,[],[],[],[],[]⟩
def aC (l:List Yer) (i:Nat):Yer:=l.getD i tJ
structure Fil where
 nm:List Nat
 pa:List Nat
 br:List It
 th:Fr4
 cp:Fr4
 bk:Int
 fw:Int
 it:Fr4
 fl:Fr4
 kp:Int
 cl:List It
 en:List (List Nat)
 ys:List Yer
def yB (ty:Nat) (l:List (List Nat)):Tr:=.s false ty 1 l.length (l.map sT)
def cV (r:Bool) (y:Yer):List Tr:=[.v (.int .i64 y.n),fN (cond r 127 110) 6 fG y.h,fN (cond r 129 112) 6 fG y.b,fN (cond r 131 67) 10 kP y.d,fN (cond r 133 114) 9 oV y.s,fN (cond r 135 116) 5 pF y.o]
theorem gE (r:Bool) (y:Yer):(cV r y).length=6:=rfl
def xF (r:Bool) (l:List Yer):Tr:=.s false (cond r 81 55) 6 l.length (l.flatMap (cV r))
def cZ (r:Bool) (f:Fil):List Tr:=sT f.nm::sT f.pa::fN (cond r 72 70) 8 tI f.br::(f.th.tr false++(f.cp.tr false++(.v (.int .i64 f.bk)::.v (.int .i64 f.fw)::(f.it.tr false++(f.fl.tr false++[.v (.int .i64 f.kp),fN (cond r 74 64) 6 nP f.cl,yB 9 f.en,xF r f.ys])))))
theorem Nu {α:Type}{l:List α}{i:Nat}{d:α}(h:i<l.length):l.getD i d∈l:=by rw[List.getD_eq_getElem?_getD,fV h];exact List.getElem_mem h
section
variable {i:Nat}
theorem aI {l:List It}(h:i<l.length):l[i]? =some (aB l i):=by simp[aB,h]
theorem aS {l:List It}(h:i<l.length):aB l i∈l:=Nu h
theorem fZ {l:List Yer}(h:i<l.length):l[i]? =some (aC l i):=by simp[aC,h]
theorem jB {l:List Yer}(h:i<l.length):aC l i∈l:=Nu h
end
def eQ (l:List (List Nat)) (i:Nat):List Nat:=l.getD i []
theorem rZ {l:List (List Nat)}{i:Nat}(h:i<l.length):eQ l i∈l:=Nu h
def pV (c:Nat):Bool:=(decide (97<=c)&&decide (c<=122))||(decide (65<=c)&&decide (c<=90))
def nmcB (c:Nat):Bool:=pV c ||(decide (48<=c)&&decide (c<=57))|| decide (c=95)|| decide (c=45)
def namB (l:List Nat):Bool:=decide (0<l.length)&&(decide (l.length<=32)&&(pV (l.headD 0)&&l.all nmcB))
def tX (a:Fr4) (m:Int):Bool:=eC a.s a.x a.t a.y&&decide (m.fmod (a.q.den:Int)=0)
def topQ:Rat:=((1000000000000000:Int):Rat)*((1000000000000000:Int):Rat)
def rX (a:Fr4):Bool:=tX a 100&&(decide (a.q<topQ)&&decide (-a.q<topQ))
def oX (a:Fr4):Bool:=tX a 1000000&&(decide (0<=a.q)&&decide (a.q<=1))
def brB (x:It):Bool:=rX x.p&&oX x.q
def hlB (x:It):Bool:=namB x.s&&(namB x.t&&oX x.p)
def bkB (x:It):Bool:=namB x.s&&(namB x.t&&rX x.p)
def dlB (x:It):Bool:=namB x.s&&(decide (1<=x.k)&&(decide (x.k<=4)&&(namB x.t&&(namB x.u&&(namB x.v&&rX x.p)))))
def stB (x:It):Bool:=namB x.s&&(rX x.p&&oX x.q)
def soB (x:It):Bool:=namB x.s&&oX x.p
def clB (x:It):Bool:=namB x.s&&(if x.k=4 then oX x.p else if x.k=5 then rX x.p else if x.k=6 then tX x.p 1&&(decide (0<=x.p.q)&&decide (x.p.q<=40))else decide (1<=x.k)&&(decide (x.k<=11)&&(eC x.p.s x.p.x x.p.t x.p.y&&decide (x.p.q=0))))
def yrB (y:Yer):Bool:=decide (1<=y.n)&&decide (y.n<=9999)
def wO (n m:Int):Bool:=decide (0<=n)&&decide (n<=m)
def gM (f:Fil):List Bool:=[oX f.th,oX f.cp,oX f.it,wO f.bk 3,wO f.fw 40,wO f.kp 40,rX f.fl]
def dK {α:Type}(most:Nat) (r:α->Bool) (l:List α):Nat:=match l with
 | []=>0
 | x::xs=>match most with
  | 0=>3
  | m+1=>if r x then dK m r xs else 2
def jZ:List Nat->Nat
 | []=>0
 | 0::l=>jZ l
 | (n+1)::_=>n+1
def kR (y:Yer):Nat:=jZ [dK 4096 hlB y.h,dK 4096 bkB y.b,dK 4096 dlB y.d,dK 4096 stB y.s,dK 4096 soB y.o]
def iS (f:Fil):Nat:=jZ ([dK 2 namB [f.nm,f.pa],dK 16 brB f.br,dK 7 id (gM f),dK 64 clB f.cl,dK 256 namB f.en,dK 40 yrB f.ys]++f.ys.map kR)
end Go.Proofs.YtimiaildfkimfaaGreatDoor
namespace Go.Proofs.YtimiaildfkimfaaGreatDoor
open Go Go.Shelf
def laysS_ren:Go.Shelf.Ren:=⟨fun | 119=>210 | 120=>229 | 137=>89 | 151=>93 | 152=>163 | 160=>90 | 161=>152 | 162=>83 | 197=>208 | 217=>158 | 224=>211 | 225=>212 | 227=>143 | 228=>196 | 231=>159 | 232=>142 | 233=>160 | 234=>144 | 235=>161 | 236=>145 | 260=>231 | 266=>207 | 271=>197 | n=>n,fun | 0=>0 | 3=>3 | 4=>4 | 5=>5 | 9=>9 | 21=>21 | 46=>245 | 105=>281 | 116=>236 | 117=>237 | 119=>315 | 124=>240 | 138=>317 | 139=>318 | n=>n,fun | 3=>2 | 4=>3 | n=>n⟩
theorem Sj:Go.Proofs.Lays.n160 Tryz.prog laysS_ren:={
 mixed:=by kernel_rfl
 f119:=Tryz.func210.trans (congrArg some (by kernel_rfl))
 f120:=Tryz.func229.trans (congrArg some (by kernel_rfl))
 f137:=Tryz.func89.trans (congrArg some (by kernel_rfl))
 f151:=Tryz.func93.trans (congrArg some (by kernel_rfl))
 f152:=Tryz.func163.trans (congrArg some (by kernel_rfl))
 f160:=Tryz.func90.trans (congrArg some (by kernel_rfl))
 f197:=Tryz.func208.trans (congrArg some (by kernel_rfl))
 f217:=Tryz.func158.trans (congrArg some (by kernel_rfl))
 f224:=Tryz.func211.trans (congrArg some (by kernel_rfl))
 f225:=Tryz.func212.trans (congrArg some (by kernel_rfl))
 f227:=Tryz.func143.trans (congrArg some (by kernel_rfl))
 f228:=Tryz.func196.trans (congrArg some (by kernel_rfl))
 f231:=Tryz.func159.trans (congrArg some (by kernel_rfl))
 f232:=Tryz.func142.trans (congrArg some (by kernel_rfl))
 f233:=Tryz.func160.trans (congrArg some (by kernel_rfl))
 f234:=Tryz.func144.trans (congrArg some (by kernel_rfl))
 f235:=Tryz.func161.trans (congrArg some (by kernel_rfl))
 f236:=Tryz.func145.trans (congrArg some (by kernel_rfl))
 f260:=Tryz.func231.trans (congrArg some (by kernel_rfl))
 f266:=Tryz.func207.trans (congrArg some (by kernel_rfl))
 f271:=Tryz.func197.trans (congrArg some (by kernel_rfl))
 t0:=Tryz.underlying0
 a0:=Tryz.isAgg0
 z0:=Tryz.sizeOf0
 v0:=Tryz.zeroValue0
 t3:=Tryz.underlying3
 a3:=Tryz.isAgg3
 z3:=Tryz.sizeOf3
 v3:=Tryz.zeroValue3
 t4:=Tryz.underlying4
 a4:=Tryz.isAgg4
 z4:=Tryz.sizeOf4
 v4:=Tryz.zeroValue4
 t5:=Tryz.underlying5
 a5:=Tryz.isAgg5
 z5:=Tryz.sizeOf5
 v5:=Tryz.zeroValue5
 t9:=Tryz.underlying9
 a9:=Tryz.isAgg9
 z9:=Tryz.sizeOf9
 v9:=Tryz.zeroValue9
 t21:=Tryz.underlying21
 a21:=Tryz.isAgg21
 z21:=Tryz.sizeOf21
 v21:=Tryz.zeroValue21
 t46:=Tryz.underlying245
 a46:=Tryz.isAgg245
 z46:=Tryz.sizeOf245
 v46:=Tryz.zeroValue245
 t105:=Tryz.underlying281
 a105:=Tryz.isAgg281
 z105:=Tryz.sizeOf281
 v105:=Tryz.zeroValue281
 t116:=Tryz.underlying236
 a116:=Tryz.isAgg236
 z116:=Tryz.sizeOf236
 t117:=Tryz.underlying237
 a117:=Tryz.isAgg237
 z117:=Tryz.sizeOf237
 v117:=Tryz.zeroValue237
 t119:=Tryz.underlying315
 a119:=Tryz.isAgg315
 z119:=Tryz.sizeOf315
 t124:=Tryz.underlying240
 a124:=Tryz.isAgg240
 z124:=Tryz.sizeOf240
 v124:=Tryz.zeroValue240
 t138:=Tryz.underlying317
 a138:=Tryz.isAgg317
 z138:=Tryz.sizeOf317
 v138:=Tryz.zeroValue317
 t139:=Tryz.underlying318
 a139:=Tryz.isAgg318
 z139:=Tryz.sizeOf318
 v139:=Tryz.zeroValue318
 g3:=by kernel_rfl
 g4:=by kernel_rfl}
theorem IZ:Go.Proofs.Lays.n162 Tryz.prog laysS_ren:={Sj with
 f162:=Tryz.func83.trans (congrArg some (by kernel_rfl))}
def laysR_ren:Go.Shelf.Ren:=⟨fun | 99=>154 | 105=>86 | 165=>72 | 166=>73 | 169=>22 | 170=>155 | 206=>206 | 212=>153 | 240=>130 | 241=>131 | 263=>204 | 264=>205 | 276=>188 | 277=>189 | n=>n,fun | 0=>0 | 3=>3 | 4=>4 | 5=>5 | 9=>9 | 20=>20 | 37=>89 | 46=>245 | 51=>223 | 53=>259 | 70=>88 | 72=>91 | 75=>173 | 76=>174 | 80=>98 | 109=>246 | 127=>154 | 146=>285 | 148=>288 | 164=>275 | n=>n,fun | n=>n⟩
theorem sM:Go.Proofs.Lays.n105 Tryz.prog laysR_ren:={
 mixed:=by kernel_rfl
 f99:=Tryz.func154.trans (congrArg some (by kernel_rfl))
 f105:=Tryz.func86.trans (congrArg some (by kernel_rfl))
 f165:=Tryz.func72.trans (congrArg some (by kernel_rfl))
 f166:=Tryz.func73.trans (congrArg some (by kernel_rfl))
 f169:=Tryz.func22.trans (congrArg some (by kernel_rfl))
 f170:=Tryz.func155.trans (congrArg some (by kernel_rfl))
 f206:=Tryz.func206.trans (congrArg some (by kernel_rfl))
 f212:=Tryz.func153.trans (congrArg some (by kernel_rfl))
 f240:=Tryz.func130.trans (congrArg some (by kernel_rfl))
 f241:=Tryz.func131.trans (congrArg some (by kernel_rfl))
 f263:=Tryz.func204.trans (congrArg some (by kernel_rfl))
 f264:=Tryz.func205.trans (congrArg some (by kernel_rfl))
 f276:=Tryz.func188.trans (congrArg some (by kernel_rfl))
 f277:=Tryz.func189.trans (congrArg some (by kernel_rfl))
 t0:=Tryz.underlying0
 a0:=Tryz.isAgg0
 z0:=Tryz.sizeOf0
 v0:=Tryz.zeroValue0
 t3:=Tryz.underlying3
 a3:=Tryz.isAgg3
 z3:=Tryz.sizeOf3
 v3:=Tryz.zeroValue3
 t4:=Tryz.underlying4
 a4:=Tryz.isAgg4
 z4:=Tryz.sizeOf4
 v4:=Tryz.zeroValue4
 t5:=Tryz.underlying5
 a5:=Tryz.isAgg5
 z5:=Tryz.sizeOf5
 v5:=Tryz.zeroValue5
 t9:=Tryz.underlying9
 a9:=Tryz.isAgg9
 z9:=Tryz.sizeOf9
 v9:=Tryz.zeroValue9
 t20:=Tryz.underlying20
 a20:=Tryz.isAgg20
 z20:=Tryz.sizeOf20
 v20:=Tryz.zeroValue20
 t37:=Tryz.underlying89
 a37:=Tryz.isAgg89
 z37:=Tryz.sizeOf89
 v37:=Tryz.zeroValue89
 t46:=Tryz.underlying245
 a46:=Tryz.isAgg245
 z46:=Tryz.sizeOf245
 v46:=Tryz.zeroValue245
 t51:=Tryz.underlying223
 a51:=Tryz.isAgg223
 z51:=Tryz.sizeOf223
 v51:=Tryz.zeroValue223
 t53:=Tryz.underlying259
 a53:=Tryz.isAgg259
 z53:=Tryz.sizeOf259
 v53:=Tryz.zeroValue259
 t70:=Tryz.underlying88
 a70:=Tryz.isAgg88
 z70:=Tryz.sizeOf88
 v70:=Tryz.zeroValue88
 t72:=Tryz.underlying91
 a72:=Tryz.isAgg91
 z72:=Tryz.sizeOf91
 v72:=Tryz.zeroValue91
 t75:=Tryz.underlying173
 a75:=Tryz.isAgg173
 z75:=Tryz.sizeOf173
 v75:=Tryz.zeroValue173
 t76:=Tryz.underlying174
 a76:=Tryz.isAgg174
 z76:=Tryz.sizeOf174
 v76:=Tryz.zeroValue174
 t109:=Tryz.underlying246
 a109:=Tryz.isAgg246
 z109:=Tryz.sizeOf246
 v109:=Tryz.zeroValue246
 t127:=Tryz.underlying154
 a127:=Tryz.isAgg154
 z127:=Tryz.sizeOf154
 v127:=Tryz.zeroValue154
 t146:=Tryz.underlying285
 a146:=Tryz.isAgg285
 z146:=Tryz.sizeOf285
 v146:=Tryz.zeroValue285
 t148:=Tryz.underlying288
 a148:=Tryz.isAgg288
 z148:=Tryz.sizeOf288
 v148:=Tryz.zeroValue288
 t164:=Tryz.underlying275
 a164:=Tryz.isAgg275
 z164:=Tryz.sizeOf275
 v164:=Tryz.zeroValue275}
theorem JA:Go.Proofs.Lays.n212 Tryz.prog laysR_ren:={sM with
}
theorem QO:Go.Proofs.Builder.Extra Tryz.prog laysR_ren where
 sizeBuilder:=by kernel_rfl
 liesBuilder:=by kernel_rfl
 t5:=sM.t5
 a5:=sM.a5
 z5:=sM.z5
 v5:=sM.v5
 infoByte:=by kernel_rfl
 cellsByte:=by kernel_rfl
 sizeByte:=by kernel_rfl
 neB5:=by decide
end Go.Proofs.YtimiaildfkimfaaGreatDoor
namespace Go.Proofs.YtimiaildfkimfaaGreatDoor
open Go Go.RowKit
theorem Dk (l:List Nat) (i:Nat):(aN l).extract i (aN l).size=aN (l.drop i):=by
 rw[Bt,aO,cT (aX _)]
theorem Br {l:List Nat}(h:Lim 256 l):((aN l).toList==(⟨#[]⟩:ByteArray).toList)=decide (l=[]):=Nn (l':=[]) h Lim.nil
theorem fE {B:Nat}{l:List Nat}{k:Nat}(h:Lim B l) (hk:k<l.length):nth l k<B:=by
 rw[dT hk]
 exact h _ (List.getElem_mem hk)
theorem Pa {B:Nat}{l:List Nat}(h:Lim B l) (k:Nat):Lim B (l.drop k):=fun x hx=>h x (List.mem_of_mem_drop hx)
theorem rU {B:Nat}{l:List Nat}(h:Lim B l):Lim B l.reverse:=fun x hx=>h x (List.mem_reverse.1 hx)
theorem AX {l:List Nat}{c:Nat}(h1:0<l.length) (h2:nth l 0=c):(l.drop 1).dropWhile (· ==c)=l.dropWhile (· ==c):=by
 cases l with
 | nil=>simp at h1
 | cons x l=>
  have:x=c:=h2
  simp[this]
theorem Xo {l:List Nat}{c:Nat}(h1:l.length=0):l=l.dropWhile (· ==c):=by
 rw[List.eq_nil_of_length_eq_zero h1];rfl
theorem Xn {l:List Nat}{c:Nat}(h1:0<l.length) (h2:¬nth l 0=c):l=l.dropWhile (· ==c):=by
 cases l with
 | nil=>simp at h1
 | cons x l=>
  have:¬x=c:=h2
  simp[this]
def jS (xs:List Nat) (k:Nat):List Nat:=(List.range xs.length).map fun i=>if i<k\/xs.length-k<=i then nth xs (xs.length-1-i)else nth xs i
theorem oH (xs:List Nat) (k:Nat):(jS xs k).length=xs.length:=by simp[jS]
theorem vE {xs:List Nat}{k i:Nat}(h:i<xs.length):nth (jS xs k) i=if i<k\/xs.length-k<=i then nth xs (xs.length-1-i)else nth xs i:=by
 rw[dT (by rw[oH];exact h)]
 simp[jS]
theorem Gn {xs ys:List Nat}(h:xs.length=ys.length) (h2:∀i,i<xs.length->nth xs i=nth ys i):xs=ys:=by
 refine List.ext_getElem h fun i h1 h3=>?_
 have:=h2 i h1
 rwa[dT h1,dT h3]at this
theorem aAe (xs:List Nat):xs=jS xs 0:=Gn (by rw[oH]) fun i hi=>by
 rw[vE hi,if_neg (by omega)]
theorem QP {xs:List Nat}{i:Nat}(h:i<xs.length):nth xs.reverse i=nth xs (xs.length-1-i):=by
 rw[dT (by simpa using h),dT (by omega),List.getElem_reverse]
theorem MV {xs:List Nat}{k:Nat}(h:xs.length<=2*k+1):jS xs k=xs.reverse:=Gn (by rw[oH,List.length_reverse]) fun i hi=>by
 rw[oH]at hi
 rw[vE hi,QP hi]
 by_cases h1:i<k\/xs.length-k<=i
 ·rw[if_pos h1]
 rw[if_neg h1,show xs.length-1-i=i by omega]
theorem Sk {xs:List Nat}{k i v:Nat}(h:k<xs.length):nth (xs.set k v) i=if i=k then v else nth xs i:=by
 unfold nth
 rw[List.getD_eq_getElem?_getD,List.getD_eq_getElem?_getD,List.getElem?_set]
 by_cases h1:k=i
 ·subst h1
  simp[h]
 rw[if_neg h1,if_neg (fun e=>h1 e.symm)]
theorem JW {xs:List Nat}{k:Nat}(h:2*k+1<xs.length):((jS xs k).set k (nth (jS xs k) (xs.length-1-k))).set (xs.length-1-k) (nth (jS xs k) k)=jS xs (k+1):=by
 have e1:nth (jS xs k) k=nth xs k:=by rw[vE (by omega),if_neg (by omega)]
 have e2:nth (jS xs k) (xs.length-1-k)=nth xs (xs.length-1-k):=by rw[vE (by omega),if_neg (by omega)]
 rw[e1,e2]
 refine Gn (by simp[oH]) fun i hi=>?_
 simp only[List.length_set,oH]at hi
 rw[Sk (by simp only[List.length_set,oH];omega),Sk (by rw[oH];omega),vE (k:=k+1) hi,vE (k:=k) hi]
 by_cases h1:i=xs.length-1-k
 ·subst h1
  rw[if_pos rfl,if_pos (by omega),show xs.length-1-(xs.length-1-k)=k by omega]
 rw[if_neg h1]
 by_cases h2:i=k
 ·subst h2
  rw[if_pos rfl,if_pos (by omega)]
 rw[if_neg h2]
 by_cases h3:i<k\/xs.length-k<=i
 ·rw[if_pos h3,if_pos (by omega)]
 rw[if_neg h3,if_neg (by omega)]
def fd (n v:Nat):List Nat:=(List.range n).map fun i=>v/10^i%10
theorem tE (n v:Nat):(fd n v).length=n:=by simp[fd]
theorem ZC (n v:Nat):fd (n+1) v=fd n v++[v/10^n%10]:=by simp[fd,List.range_succ]
theorem SW (n v:Nat):Lim 10 (fd n v):=fun x hx=>by
 obtain⟨i,_,rfl⟩:=List.mem_map.1 hx
 exact Nat.mod_lt _ (by omega)
theorem aBA (n v:Nat):vl 10 (fd n v)=v%10^n:=by
 induction n with
 | zero=>simp[fd,vl,Nat.mod_one]
 | succ n ih=>rw[ZC,oF,ih,tE,Nat.pow_succ,Nat.mod_mul]
def eY (l:List Nat):List Nat:=l.map fun d=>48+d
theorem jK (l:List Nat):(eY l).length=l.length:=by simp[eY]
theorem Ua (l m:List Nat):eY l++eY m=eY (l++m):=by simp[eY]
theorem Dl {l:List Nat}(h:Lim 10 l):Lim 256 (eY l):=fun x hx=>by
 obtain⟨d,hd,rfl⟩:=List.mem_map.1 hx
 have:=h d hd
 omega
def tx (v:Nat):List Nat:=if v=0 then [48]else(eY (dg 10 v)).reverse
theorem Pj (v:Nat):Lim 256 (tx v):=by
 unfold tx
 split
 ·exact Lim.cons (by omega) Lim.nil
 exact rU (Dl (aU (by omega) v))
theorem EQ (l:List Nat):(eY l).reverse.dropWhile (· ==48)=(eY (trim l)).reverse:=by
 induction l with
 | nil=>rfl
 | cons d l ih=>
  have e:eY (d::l)=(48+d)::eY l:=rfl
  rw[e,List.reverse_cons,List.dropWhile_append,ih,fJ]
  by_cases h:trim l=[]
  ·rw[h]
   simp only[eY,List.map_nil,List.reverse_nil,List.isEmpty_nil,if_true,true_and]
   by_cases h0:d=0
   ·subst h0;simp
   rw[if_neg h0,List.dropWhile_cons,if_neg (by simp;omega)];rfl
  have h2:((eY (trim l)).reverse).isEmpty=false:=by
   cases hq:trim l with
   | nil=>exact absurd hq h
   | cons a b=>simp[eY]
  rw[h2,if_neg (by simp),if_neg (fun hh=>h hh.1)]
  simp[eY]
theorem Zs {l:List Nat}{v:Nat}(h:Lim 10 l) (hv:vl 10 l=v):(eY l).reverse.dropWhile (· ==48)=(if v=0 then []else tx v):=by
 rw[EQ,Gt (by omega) h hv]
 unfold tx
 by_cases h0:v=0
 ·rw[if_pos h0,h0,kI];rfl
 rw[if_neg h0,if_neg h0]
theorem wI (v:Nat):tx v≠[]:=by
 unfold tx
 split
 ·simp
 rename_i h
 intro e
 have:=congrArg List.length e
 simp only[List.length_reverse,jK,List.length_nil]at this
 exact h ((fC (by omega)).1 (List.eq_nil_of_length_eq_zero this))
theorem SV {i r:Nat}{iK:List Nat}(hi:i<9) (ho:iK.length=9):(eY (fd i r)++iK.drop i).set i (48+r/10^i%10)=eY (fd (i+1) r)++iK.drop (i+1):=by
 rw[List.set_append_right _ _ (by rw[jK,tE];omega),jK,tE,Nat.sub_self,List.drop_eq_getElem_cons (by omega),List.set_cons_zero,ZC,<-Ua,List.append_assoc]
 rfl
theorem aAh {ds:List Nat}{u v:Nat}(h:vl 10 ds+10^ds.length*u=v):vl 10 (ds++fd 9 (u%1000000000))+10^(ds++fd 9 (u%1000000000)).length*(u/1000000000)=v:=by
 rw[Bg,aBA,cJ,tE,Nat.pow_add,<-h,show(10:Nat)^9=1000000000 by rfl,Nat.mod_mod,Nat.mul_assoc,Nat.add_assoc,<-Nat.mul_add,Nat.mod_add_div]
theorem MY {ds:List Nat}{u v L:Nat}(h:vl 10 ds+10^ds.length*u=v) (hu:0<u) (hv:v<4294967296^L):ds.length<=10*L:=by
 have h1:10^ds.length<=v:=by
  have:=Nat.le_mul_of_pos_right (10^ds.length) hu
  omega
 have h2:(4294967296:Nat)^L<=10^(10*L):=by rw[Nat.pow_mul];exact Nat.pow_le_pow_left (by omega) L
 exact Nat.le_of_lt ((Nat.pow_lt_pow_iff_right (a:=10) (by omega)).1 (Nat.lt_of_le_of_lt h1 (Nat.lt_of_lt_of_le hv h2)))
theorem Pc {B:Nat}{l:List Nat}{p:Nat->Bool}(h:Lim B l):Lim B (l.dropWhile p):=fun x hx=>h x ((List.dropWhile_sublist p).subset hx)
theorem MZ {ds:List Nat}{v:Nat}(hd:Lim 10 ds) (hv:vl 10 ds=v) (h:(!decide ((eY ds).reverse.dropWhile (· ==48)=[]))=true):(eY ds).reverse.dropWhile (· ==48)=tx v:=by
 have h1:=of_decide_eq_false (by simpa using h:decide ((eY ds).reverse.dropWhile (· ==48)=[])=false)
 rw[Zs hd hv]at h1⊢
 by_cases h0:v=0
 ·rw[if_pos h0]at h1;exact absurd rfl h1
 rw[if_neg h0]
theorem SY {ds:List Nat}{v:Nat}(hd:Lim 10 ds) (hv:vl 10 ds=v) (h:(!decide ((eY ds).reverse.dropWhile (· ==48)=[]))=false):[48]=tx v:=by
 have h1:=of_decide_eq_true (bn9 h)
 rw[Zs hd hv]at h1
 by_cases h0:v=0
 ·rw[h0];rfl
 rw[if_neg h0]at h1;exact absurd h1 (wI v)
theorem zK {B u:Nat}(h:0<(dg B u).length):0<u:=by
 rcases Nat.eq_zero_or_pos u with h0 | h0
 ·subst h0;simp[kI]at h
 exact h0
theorem BA {ob:List (Option Ob)}{k t m:Nat}{xs:List Nat}(h:cR ob k=some ⟨t,1,(bS xs).map .t⟩) (hm:m=xs.length):SrcA ob 1 (.sl k 0 m) m ((bS xs).map .t):=by
 subst hm
 exact .sl h (by rw[List.drop_zero];exact aBz xs) (zM xs)
theorem aAf {n:Nat}(h:n<4294967296):jU .u32 (n:Int):=by simp only[jU];omega
end Go.Proofs.YtimiaildfkimfaaGreatDoor
