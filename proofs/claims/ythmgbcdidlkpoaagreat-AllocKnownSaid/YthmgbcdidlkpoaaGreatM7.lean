/- Part 7 of a proof: Half to G2. -/
import Derived.Test.YthmgbcdidlkpoaaGreatM6
import Derived.Test.YthmgbcdidlkpoaaGreatM4
import Derived.Test.YthmgbcdidlkpoaaGreatM5
set_option maxRecDepth 100000
set_option linter.unusedVariables false
set_option linter.unusedSimpArgs false
namespace Go.Proofs.YthmgbcdidlkpoaaGreat
open Go Go.RowKit
def hv:List Nat→List Nat
 | []=>[]
 | x::xs=>x%65536::x/65536::hv xs
def lb:List Nat→List Nat
 | []=>[]
 | [a]=>[a]
 | a::b::l=>(a+65536*b)::lb l
theorem Eb:∀(a b:List Nat),hv (a++b)=hv a++hv b
 | [],_=>rfl
 | x::xs,b=>by simp only[List.cons_append,hv,Eb xs b]
theorem pN:∀(a:List Nat),(hv a).length=2*a.length
 | []=>rfl
 | x::xs=>by simp only[hv,List.length_cons,pN xs];omega
theorem Tu:∀{a:List Nat},Lim 4294967296 a→Lim 65536 (hv a)
 | [],_=>Lim.nil
 | x::xs,h=>Lim.cons (Nat.mod_lt _ (by omega)) (Lim.cons (by have:=h.head;omega) (Tu h.tail))
theorem AO:∀(a:List Nat),vl 65536 (hv a)=vl 4294967296 a
 | []=>rfl
 | x::xs=>by
  simp only[hv,fM,AO xs]
  have:=Nat.mod_add_div x 65536
  omega
theorem AP {a:List Nat}(h:Lim 4294967296 a):trim (hv a)=dg 65536 (vl 4294967296 a):=by rw[←AO,eJ (by omega) (Tu h)]
theorem Nd {a:List Nat}{k:Nat}(h:k<a.length):hv (a.take (k+1))=hv (a.take k)++[nth a k%65536,nth a k/65536]:=by
 rw[nR h,Eb]
 rfl
theorem AQ:∀(a:List Nat),vl 4294967296 (lb a)=vl 65536 a
 | []=>rfl
 | [a]=>by simp[lb,qT]
 | a::b::l=>by
  simp only[lb,fM,AQ l]
  omega
theorem Tv:∀{a:List Nat},Lim 65536 a→Lim 4294967296 (lb a)
 | [],_=>Lim.nil
 | [a],h=>Lim.cons (by have:=h.head;omega) Lim.nil
 | a::b::l,h=>Lim.cons (by have:=h.head;have:=h.tail.head;omega) (Tv h.tail.tail)
theorem iC:∀(a:List Nat),(lb a).length=(a.length+1)/2
 | []=>rfl
 | [a]=>by simp[lb]
 | a::b::l=>by simp only[lb,List.length_cons,iC l];omega
theorem IX {a:List Nat}(h:lb a=[]):a=[]:=by
 rcases a with _ | ⟨x,_ | ⟨y,l⟩⟩
 ·rfl
 ·simp[lb]at h
 simp[lb]at h
theorem Nf:∀{a:List Nat},trim a=a→trim (lb a)=lb a
 | [],_=>rfl
 | [a],h=>h
 | a::b::l,h=>by
  have hl:trim l=l:=by
   rw[eA]at h
   split at h
   ·cases h
   injection h with _ h
   rw[eA]at h
   split at h
   ·cases h
   injection h
  have ih:=Nf hl
  simp only[lb]
  rw[eA,ih]
  split
  ·rename_i hc
   have h0:=IX hc.1
   subst h0
   rw[eA,eA,Uu]at h
   have hb:b=0:=by omega
   have ha:a=0:=by omega
   subst hb ha
   simp at h
  rfl
theorem xA (v:Nat):lb (dg 65536 v)=dg 4294967296 v:=by
 have h:=Nf (qV (B:=65536) (by omega) v)
 rw[←h,←eJ (B:=4294967296) (by omega) (Tv (aL (by omega) v)),AQ,cC (by omega)]
theorem xB:∀{l:List Nat}{k:Nat},2*k<l.length→lb (l.take (2*(k+1)))=lb (l.take (2*k))++[nth l (2*k)+65536*nth l (2*k+1)]
 | [],_,h=>by simp at h
 | [a],0,_=>by simp[lb,nth]
 | [a],k+1,h=>by simp at h
 | a::b::l,0,_=>by simp[lb,nth]
 | a::b::l,k+1,h=>by
  have ih:=xB (l:=l) (k:=k) (by simp at h;omega)
  have e1:2*(k+1+1)=2*(k+1)+1+1:=by omega
  have e2:2*(k+1)=2*k+1+1:=by omega
  rw[e1,List.take_succ_cons,List.take_succ_cons]
  simp only[lb]
  rw[ih,e2,List.take_succ_cons,List.take_succ_cons]
  simp only[lb,List.cons_append]
  simp[nth]
theorem dT {v L:Nat}(h:(dg 4294967296 v).length≤L):(dg 65536 v).length≤2*L:=by
 have h1:=nY (B:=4294967296) (by omega) (n:=v)
 refine cH (by omega) (Nat.lt_of_lt_of_le h1 ?_)
 rw[Nat.pow_mul]
 exact Nat.pow_le_pow_right (by omega) h
theorem Ja {X Y os:List Nat}{k cr:Nat}(hl:os.length=k) (h:vl 65536 os+65536^k*cr=vl 65536 (X.take k)+vl 65536 (Y.take k)):
  vl 65536 (os++[(nth X k+nth Y k+cr)%65536])+65536^(k+1)*((nth X k+nth Y k+cr)/65536)=vl 65536 (X.take (k+1))+vl 65536 (Y.take (k+1)):=by
 rw[lH,bJ,bJ,hl,Nat.pow_succ,Nat.mul_assoc]
 have h2:=Nat.mod_add_div (nth X k+nth Y k+cr) 65536
 have h3:65536^k*(nth X k+nth Y k+cr)=65536^k*((nth X k+nth Y k+cr)%65536)+65536^k*(65536*((nth X k+nth Y k+cr)/65536)):=by rw[←Nat.mul_add,h2]
 rw[Nat.mul_add,Nat.mul_add]at h3
 omega
theorem Jb {X Y os:List Nat}{k br br' d:Nat}(hl:os.length=k) (h:vl 65536 os+vl 65536 (Y.take k)=vl 65536 (X.take k)+65536^k*br) (hd:d+nth Y k+br=nth X k+65536*br'):
  vl 65536 (os++[d])+vl 65536 (Y.take (k+1))=vl 65536 (X.take (k+1))+65536^(k+1)*br':=by
 rw[lH,bJ,bJ,hl,Nat.pow_succ,Nat.mul_assoc]
 have h3:65536^k*(d+nth Y k+br)=65536^k*(nth X k+65536*br'):=by rw[hd]
 rw[Nat.mul_add,Nat.mul_add,Nat.mul_add]at h3
 omega
theorem IY {a b:Nat}(h:¬((a:Int)-(b:Int)).sign<0):b≤a:=by
 rcases Nat.lt_or_ge a b with h1 | h1
 ·exact absurd (by rw[Int.sign_eq_neg_one_of_neg (by omega)];omega) h
 exact h1
theorem IZ {a b:Nat}(h:((a:Int)-(b:Int)).sign<0):a<b:=by
 rcases Nat.lt_or_ge a b with h1 | h1
 ·exact h1
 exact absurd (Int.sign_neg_iff.1 h) (by omega)
theorem Er {X Y:List Nat}{k:Nat}(hX:Lim 65536 X) (hk:∀j,k+1≤j→nth X j=nth Y j) (h:nth X k<nth Y k):vl 65536 X<vl 65536 Y:=by
 have hS:∀m,vl 65536 (X.take (k+1+m))+vl 65536 (Y.take (k+1))=vl 65536 (Y.take (k+1+m))+vl 65536 (X.take (k+1)):=by
  intro m
  induction m with
  | zero=>exact Nat.add_comm _ _
  | succ m ih=>
   rw[←Nat.add_assoc,bJ 65536 X (k+1+m),bJ 65536 Y (k+1+m),hk (k+1+m) (by omega)]
   omega
 have h1:=hS (X.length+Y.length)
 rw[bR 65536 (l:=X) (k:=k+1+(X.length+Y.length)) (by omega),bR 65536 (l:=Y) (k:=k+1+(X.length+Y.length)) (by omega)]at h1
 have h2:vl 65536 (X.take (k+1))<vl 65536 (Y.take (k+1)):=by
  rw[bJ,bJ]
  have h3:=eI (hX.take k)
  have h4:65536^(X.take k).length≤65536^k:=Nat.pow_le_pow_right (by omega) (by rw[List.length_take];omega)
  have h5:65536^k*(nth X k+1)≤65536^k*nth Y k:=Nat.mul_le_mul_left _ h
  rw[Nat.mul_add]at h5
  omega
 omega
theorem Tw {X Y:List Nat}(h:∀j,nth X j=nth Y j):vl 65536 X=vl 65536 Y:=by
 have hS:∀m,vl 65536 (X.take m)=vl 65536 (Y.take m):=by
  intro m
  induction m with
  | zero=>rfl
  | succ m ih=>rw[bJ,bJ,ih,h]
 have h1:=hS (X.length+Y.length)
 rwa[bR 65536 (l:=X) (k:=X.length+Y.length) (by omega),bR 65536 (l:=Y) (k:=X.length+Y.length) (by omega)]at h1
def cK (xs:List Nat):List Tr:=xs.map fun(n:Nat)=>.v (.int .i64 (n:Int))
def sI (o:Bool) (xs:List Nat):Tr:=.s o 3 1 xs.length (cK xs)
theorem gB (xs:List Nat):(cK xs).length=xs.length:=by simp[cK]
theorem eX (xs:List Nat){k:Nat}(h:k<xs.length):((cK xs).drop (k*1)).take [Tr.v (.int .i64 ((nth xs k:Nat):Int))].length=[Tr.v (.int .i64 ((nth xs k:Nat):Int))]:=by
 rw[Nat.mul_one]
 have:(cK xs)[k]? =some (Tr.v (.int .i64 ((nth xs k:Nat):Int))):=by simp[cK,dL h,h]
 rw[List.length_singleton,List.take_one]
 simp[this]
theorem gC (xs ys:List Nat):(cK xs).map AV.t++(cK ys).map .t=(cK (xs++ys)).map .t:=by simp[cK]
theorem Jc (xs ys:List Nat):(aP xs).map AV.t++(aP ys).map .t=(aP (xs++ys)).map .t:=by simp[aP]
theorem Tx (xs:List Nat) (k:Nat):(cK xs).take (k*1)=cK (xs.take k):=by simp[cK,List.map_take]
theorem Ty {xs:List Nat}{m:Nat}(h:m≤xs.length):FV.one (.t (.s false 3 1 m ((cK xs).take (m*1))))=.one (.t (sI false (xs.take m))):=by
 rw[Tx]
 unfold sI
 rw[List.length_take,Nat.min_eq_left h]
theorem JA (xs:List Nat):gW ((cK xs).map .t)=true:=by
 induction xs with
 | nil=>rfl
 | cons x xs ih=>simpa[cK,gW,nX]using ih
theorem Xy (xs:List Nat):eL ((cK xs).map .t)=true:=by
 induction xs with
 | nil=>rfl
 | cons x xs ih=>simpa[cK,eL,lone]using ih
theorem fZ (a b:Nat):Int.tmod (a:Int) (b:Int)=((a%b:Nat):Int):=by
 rw[Int.tmod_eq_emod_of_nonneg (by omega)]
 rfl
theorem eN (a b:Nat):Int.tdiv (a:Int) (b:Int)=((a/b:Nat):Int):=by
 rw[Int.tdiv_eq_ediv_of_nonneg (by omega)]
 rfl
theorem fV {k:IntKind}{a:Nat}(b:Nat) (hb:b≠0) (h:gE k (a:Int)):(b:Int)≠0∧gE k (Int.tdiv (a:Int) (b:Int)):=by
 refine⟨by omega,?_⟩
 rw[eN]
 have:=Nat.div_le_self a b
 generalize a/b=c at this⊢
 cases k <;> simp only[gE]at h⊢ <;> omega
section
variable {x:Cx}{g:Nat→FV}{ob:List (Option Ob)}
theorem xL {i k n:Nat}{zs zs':List Nat}(hi:Nat.blt i x.n=true) (hg:g i=.one (.sl k 0 n)) (ho:bZ ob k=some ⟨3,1,(cK zs).map .t⟩) (hn:n=zs.length) (he:zs=zs'):Sub x g ob (bG g i (.one (.t (sI false zs')))) (ob.set k none):=by
 subst he
 have:=fz hi hg ho (by rw[gB,hn,Nat.mul_one])
 rw[hn]at this
 exact this
theorem PO {i k n:Nat}{zs zs':List Nat}(hi:Nat.blt i x.n=true) (hg:g i=.one (.sl k 0 n)) (ho:bZ ob k=some ⟨51,1,(aP zs).map .t⟩) (hn:n=zs.length) (he:zs=zs'):Sub x g ob (bG g i (.one (.t (sU false zs')))) (ob.set k none):=by
 subst he
 have:=fz hi hg ho (by rw[gS,hn,Nat.mul_one])
 rw[hn]at this
 exact this
theorem lM {τ:List Nat}{a:Option Ob}{xs ys:List Nat}{l:List AV}(h1:a=some ⟨3,1,l⟩) (h:l=(cK ys).map .t) (he:ys=xs):Dn τ a ⟨3,1,(cK xs).map .t⟩:=bI (by rw[h1,h,he])
theorem Tz {τ:List Nat}{a:Option Ob}{xs ys:List Nat}{l:List AV}(h1:a=some ⟨51,1,l⟩) (h:l=(aP ys).map .t) (he:ys=xs):Dn τ a ⟨51,1,(aP xs).map .t⟩:=bI (by rw[h1,h,he])
end
section
variable {l:List Nat}{k N:Nat}{z:Int}{xs:List Nat}{neg:Bool}
theorem Aj (hr:cQ neg xs=false):dF neg xs=0:=by simp[dF,hr]
theorem mG (h:xs.length=0):cQ neg xs= !neg:=by
 rw[List.length_eq_zero_iff]at h
 subst h
 simp[cQ]
theorem tL {n:Nat}(hn:xs.length=n) (h:0<n):cQ neg xs=decide (((nth xs (n-1):Nat):Int)≠0):=by
 subst hn
 rcases xs with _ | ⟨x,l⟩
 ·simp at h
 simp only[cQ,List.isEmpty_cons,Bool.false_and,Bool.not_false,Bool.true_and,Bool.false_or]
 by_cases h0:nth (x::l) ((x::l).length-1)=0
 ·rw[h0];rfl
 rw[bne_iff_ne.2 h0,decide_eq_true (by omega)]
theorem Ng (k:Int):bS (!(aG k)) k.natAbs=-k:=by
 unfold bS aG
 by_cases h:k<0 <;> simp[h] <;> omega
theorem Cp {xs ys:List Nat}(hx:Lim 4294967296 xs) (hy:Lim 4294967296 ys):(dg 4294967296 (vl 4294967296 xs+vl 4294967296 ys)).length≤xs.length+ys.length+1:=by
 refine cH (by omega) ?_
 have h1:=eI hx
 have h2:=eI hy
 have h3:4294967296^xs.length≤4294967296^(xs.length+ys.length):=Nat.pow_le_pow_right (by omega) (by omega)
 have h4:4294967296^ys.length≤4294967296^(xs.length+ys.length):=Nat.pow_le_pow_right (by omega) (by omega)
 rw[Nat.pow_succ]
 omega
theorem Nh {xs ys:List Nat}(hx:Lim 4294967296 xs):(dg 4294967296 (vl 4294967296 xs-vl 4294967296 ys)).length≤xs.length:=cH (by omega) (Nat.lt_of_le_of_lt (Nat.sub_le _ _) (eI hx))
theorem DM {xs ys:List Nat}(hx:Lim 4294967296 xs) (hy:Lim 4294967296 ys):(dg 4294967296 (vl 4294967296 xs*vl 4294967296 ys)).length≤xs.length+ys.length:=by
 refine cH (by omega) ?_
 rw[Nat.pow_add]
 exact Nat.mul_lt_mul'' (eI hx) (eI hy)
theorem bL (k:Int):vl 4294967296 (dg 4294967296 k.natAbs)=k.natAbs:=cC (by omega) _
theorem gL {a b:Nat}(h:a≤b):(dg 4294967296 a).length≤(dg 4294967296 b).length:=cO (by omega) h
theorem iD (k k':Int):(dg 4294967296 (k+k').natAbs).length≤(dg 4294967296 k.natAbs).length+(dg 4294967296 k'.natAbs).length+1:=by
 have h:=Cp (aL (B:=4294967296) (by omega) k.natAbs) (aL (B:=4294967296) (by omega) k'.natAbs)
 rw[bL,bL]at h
 exact Nat.le_trans (gL (by omega)) h
theorem xX (k k':Int):(dg 4294967296 (k-k').natAbs).length≤(dg 4294967296 k.natAbs).length+(dg 4294967296 k'.natAbs).length+1:=by
 have h:=iD k (-k')
 rw[Int.natAbs_neg]at h
 exact h
theorem cT (k k':Int):(dg 4294967296 (k*k').natAbs).length≤(dg 4294967296 k.natAbs).length+(dg 4294967296 k'.natAbs).length:=by
 rw[Int.natAbs_mul]
 have h:=DM (aL (B:=4294967296) (by omega) k.natAbs) (aL (B:=4294967296) (by omega) k'.natAbs)
 rwa[bL,bL]at h
theorem jL (k:Int):(dg 4294967296 (-(k)).natAbs).length=(dg 4294967296 k.natAbs).length:=by rw[Int.natAbs_neg]
theorem Xz {n:Int}(h1:-9223372036854775808≤n) (h2:n≤9223372036854775807):-4294967295≤Int.tmod n 4294967296∧Int.tmod n 4294967296≤4294967295∧-2147483648≤Int.tdiv n 4294967296∧Int.tdiv n 4294967296≤2147483648∧(Int.tmod n 4294967296).natAbs+4294967296*(Int.tdiv n 4294967296).natAbs=n.natAbs∧True:=by
 obtain⟨m,hm⟩:∃m:Nat,n.natAbs=m:=⟨_,rfl⟩
 rw[hm]
 rcases(show n=m∨n=-(m:Int) by omega)with h | h
 ·subst h
  have e1:Int.tmod (m:Int) 4294967296=((m%4294967296:Nat):Int):=by rw[Int.tmod_eq_emod_of_nonneg (by omega)];omega
  have e2:Int.tdiv (m:Int) 4294967296=((m/4294967296:Nat):Int):=by rw[Int.tdiv_eq_ediv_of_nonneg (by omega)];omega
  rw[e1,e2]
  exact⟨by omega,by omega,by omega,by omega,by rw[Int.natAbs_natCast,Int.natAbs_natCast];omega,trivial⟩
 subst h
 have e1:Int.tmod (-(m:Int)) 4294967296=-((m%4294967296:Nat):Int):=by rw[Int.neg_tmod,Int.tmod_eq_emod_of_nonneg (by omega)];omega
 have e2:Int.tdiv (-(m:Int)) 4294967296=-((m/4294967296:Nat):Int):=by rw[Int.neg_tdiv,Int.tdiv_eq_ediv_of_nonneg (by omega)];omega
 rw[e1,e2]
 exact⟨by omega,by omega,by omega,by omega,by rw[Int.natAbs_neg,Int.natAbs_neg,Int.natAbs_natCast,Int.natAbs_natCast];omega,trivial⟩
theorem JB {n:Int}{a b:Nat}(h:a+4294967296*b=n.natAbs):bS (decide (n<0)) (vl 4294967296 [a,b])=n:=by
 have e:vl 4294967296 [a,b]=n.natAbs:=by simp[vl];omega
 rw[e]
 exact Iw n
theorem Ec {k k':Int}{s:Bool}(h:s=aG k) (h':aG k=aG k'):bS s (k.natAbs+k'.natAbs)=k+k':=by
 subst h
 unfold aG at*
 unfold bS
 by_cases h1:k<0 <;> by_cases h2:k'<0 <;> simp[h1,h2]at h'⊢ <;> omega
theorem Ni {k k':Int}{s:Bool}(h:s=aG k) (h':aG k≠aG k') (hl:¬k.natAbs<k'.natAbs):bS s (k.natAbs-k'.natAbs)=k+k':=by
 subst h
 unfold aG at*
 unfold bS
 by_cases h1:k<0 <;> by_cases h2:k'<0 <;> simp[h1,h2]at h'⊢ <;> omega
theorem Nj {k k':Int}{s:Bool}(h:s=aG k') (h':aG k≠aG k') (hl:k.natAbs<k'.natAbs):bS s (k'.natAbs-k.natAbs)=k+k':=by
 subst h
 unfold aG at*
 unfold bS
 by_cases h1:k<0 <;> by_cases h2:k'<0 <;> simp[h1,h2]at h'⊢ <;> omega
theorem Qc {X os:List Nat}{k q:Nat}{a:Nat}(hk:0<k) (hkx:k≤X.length) (hos:os.length=X.length){v r:Nat}(h:vl 65536 (X.drop k)=v*vl 65536 (os.drop k)+r) (ha:a=nth X (k-1)) (hq:q=(a+65536*r)/v):
  vl 65536 (X.drop (k-1))=v*vl 65536 ((os.set (k-1) q).drop (k-1))+(a+65536*r-q*v):=by
 obtain⟨j,rfl⟩:∃j,k=j+1:=⟨k-1,by omega⟩
 simp only[Nat.add_sub_cancel]at*
 have e1:X.drop j=nth X j::X.drop (j+1):=by rw[List.drop_eq_getElem_cons (by omega),dL (by omega)]
 have e2:(os.set j q).drop j=q::os.drop (j+1):=by
  rw[List.drop_eq_getElem_cons (by rw[List.length_set];omega),List.getElem_set_self,List.drop_set_of_lt (by omega)]
 have h2:q*v≤a+65536*r:=by rw[hq];exact Nat.div_mul_le_self _ _
 rw[e1,e2,fM,fM,h,Nat.mul_add,Nat.mul_add,Nat.mul_comm v q,Nat.mul_left_comm v 65536,←ha]
 omega
theorem vQ {xs ys:List Nat}(hx:Lim 65536 xs) (hy:Lim 65536 ys):(dg 65536 (vl 65536 xs*vl 65536 ys)).length≤xs.length+ys.length:=by
 refine cH (by omega) ?_
 rw[Nat.pow_add]
 exact Nat.mul_lt_mul'' (eI hx) (eI hy)
theorem Ya {u v n m:Nat}(hn:(dg 65536 u).length=n) (hm:(dg 65536 v).length=m) (h:n≠m):decide ((n:Int)<(m:Int))=decide (u<v):=by
 have e1:=cC (B:=65536) (by omega) u
 have e2:=cC (B:=65536) (by omega) v
 rcases Nat.lt_or_gt_of_ne h with h1 | h1
 ·have h2:=hJ (B:=65536) (a:=dg 65536 u) (b:=dg 65536 v) (by omega) (aL (by omega) u) (qV (by omega) v) (by omega)
  rw[decide_eq_true (by omega),decide_eq_true (by omega)]
 have h2:=hJ (B:=65536) (a:=dg 65536 v) (b:=dg 65536 u) (by omega) (aL (by omega) v) (qV (by omega) u) (by omega)
 rw[decide_eq_false (by omega),decide_eq_false (by omega)]
theorem DN {u v k:Nat}(hag:∀j,k+1≤j→nth (dg 65536 u) j=nth (dg 65536 v) j) (h:nth (dg 65536 u) k≠nth (dg 65536 v) k):decide (((nth (dg 65536 u) k:Nat):Int)<((nth (dg 65536 v) k:Nat):Int))=decide (u<v):=by
 have e1:=cC (B:=65536) (by omega) u
 have e2:=cC (B:=65536) (by omega) v
 rcases Nat.lt_or_gt_of_ne h with h1 | h1
 ·have h2:=Er (aL (by omega) u) hag h1
  rw[decide_eq_true (by omega),decide_eq_true (by omega)]
 have h2:=Er (aL (by omega) v) (fun j hj=>(hag j hj).symm) h1
 rw[decide_eq_false (by omega),decide_eq_false (by omega)]
theorem qE {X Y os:List Nat}{n k br br' d:Nat}(hl:os.length=k) (h:vl 65536 os+n*vl 65536 (Y.take k)=vl 65536 (X.take k)+65536^k*br) (hd:d+n*nth Y k+br=nth X k+65536*br'):
  vl 65536 (os++[d])+n*vl 65536 (Y.take (k+1))=vl 65536 (X.take (k+1))+65536^(k+1)*br':=by
 rw[lH,bJ,bJ,hl,Nat.pow_succ,Nat.mul_assoc,Nat.mul_add,Nat.mul_left_comm n]
 have h3:65536^k*(d+n*nth Y k+br)=65536^k*(nth X k+65536*br'):=by rw[hd]
 rw[Nat.mul_add,Nat.mul_add,Nat.mul_add]at h3
 omega
theorem Yb {u v n k br ln:Nat}{os:List Nat}(hx:(dg 65536 u).length=ln) (hk:os.length=ln) (hol:Lim 65536 os) (h:vl 65536 os+n*vl 65536 ((dg 65536 v).take k)=vl 65536 ((dg 65536 u).take k)+65536^k*br) (hnv:n*v≤u) (hkk:k=ln:=by omega):vl 65536 os=u-n*v:=by
 have h1:=eI hol
 rw[bR 65536 (l:=dg 65536 u) (by omega),cC (by omega)]at h
 have h2:n*vl 65536 ((dg 65536 v).take k)=n*v:=by
  rcases Nat.eq_zero_or_pos n with h0 | h0
  ·rw[h0,Nat.zero_mul,Nat.zero_mul]
  have h3:v≤u:=Nat.le_trans (Nat.le_mul_of_pos_left v h0) hnv
  have h4:=cO (B:=65536) (by omega) h3
  rw[bR 65536 (l:=dg 65536 v) (by omega),cC (by omega)]
 rw[h2]at h
 rcases Nat.eq_zero_or_pos br with h0 | h0
 ·rw[h0,Nat.mul_zero]at h
  omega
 have h5:65536^k*1≤65536^k*br:=Nat.mul_le_mul_left _ h0
 rw[hk,←hkk]at h1
 omega
theorem Ua {u v lo hi:Nat}(h1:lo*v≤u) (h2:u<hi*v) (h:hi=lo+1):u/v=lo:=by
 subst h
 have hv:0<v:=by
  rcases Nat.eq_zero_or_pos v with h0 | h0
  ·subst h0;simp at h2
  exact h0
 exact(Nat.div_eq_iff hv).2 (by rw[Nat.add_mul]at h2;omega)
theorem vR {a r:Nat}(ha:a<65536):trim ([a]++dg 65536 r)=dg 65536 (a+65536*r):=
 Ek (by omega) (Lim.cons ha (aL (by omega) r)) (by show a+65536*vl 65536 (dg 65536 r)=_;rw[cC (by omega)])
theorem Yc {a r v:Nat}(ha:a<65536) (hr:r<v):(dg 65536 (a+65536*r)).length≤(dg 65536 v).length+1:=by
 rw[←vR ha]
 refine Nat.le_trans (cN _) ?_
 have:=cO (B:=65536) (by omega) (Nat.le_of_lt hr)
 simp only[List.length_append,List.length_cons,List.length_nil]
 omega
theorem Jd {l:List Nat}{j v:Nat}(h:j<l.length):nth (l.set j v) j=v:=by simp[nth,h]
theorem Ub {u v r q:Nat}(h:u=v*q+r) (hr:r<v):q=u/v∧r=u%v:=by
 subst h
 rw[Nat.mul_add_div (by omega),Nat.div_eq_of_lt hr,Nat.mul_add_mod,Nat.mod_eq_of_lt hr]
 exact⟨rfl,rfl⟩
theorem DO {x y:Int}(hx:x.sign≠0) (h:x.sign≠y.sign) (hy:y≠0):(x<0∧0<y)∨(0<x∧y<0):=by
 rcases Int.lt_trichotomy x 0 with h1 | h1 | h1
 ·rcases Int.lt_trichotomy y 0 with h2 | h2 | h2
  ·rw[Int.sign_eq_neg_one_of_neg h1,Int.sign_eq_neg_one_of_neg h2]at h;exact absurd rfl h
  ·exact absurd h2 hy
  exact .inl ⟨h1,h2⟩
 ·rw[h1]at hx;exact absurd rfl hx
 rcases Int.lt_trichotomy y 0 with h2 | h2 | h2
 ·exact .inr ⟨h1,h2⟩
 ·exact absurd h2 hy
 rw[Int.sign_eq_one_of_pos h1,Int.sign_eq_one_of_pos h2]at h;exact absurd rfl h
theorem DP {x y:Int}(h:x.sign=0∨x.sign=y.sign) (hy:y≠0):x=0∨(x<0∧y<0)∨(0<x∧0<y):=by
 rcases Int.lt_trichotomy x 0 with h1 | h1 | h1
 ·rw[Int.sign_eq_neg_one_of_neg h1]at h
  rcases Int.lt_trichotomy y 0 with h2 | h2 | h2
  ·exact .inr (.inl ⟨h1,h2⟩)
  ·exact absurd h2 hy
  rw[Int.sign_eq_one_of_pos h2]at h;omega
 ·exact .inl h1
 rw[Int.sign_eq_one_of_pos h1]at h
 rcases Int.lt_trichotomy y 0 with h2 | h2 | h2
 ·rw[Int.sign_eq_neg_one_of_neg h2]at h;omega
 ·exact absurd h2 hy
 exact .inr (.inr ⟨h1,h2⟩)
theorem AS {a b:Int}(h0:b≠0):bS (aG a) (a.natAbs%b.natAbs)+b*bS (aG a != aG b) (a.natAbs/b.natAbs)=a∧(bS (aG a) (a.natAbs%b.natAbs)).natAbs<b.natAbs:=by
 have e:=Nat.div_add_mod a.natAbs b.natAbs
 have l:=Nat.mod_lt a.natAbs (show 0<b.natAbs by omega)
 refine⟨?_,by rw[iO];exact l⟩
 generalize a.natAbs/b.natAbs=q at*
 generalize a.natAbs%b.natAbs=r at*
 have e2:(b.natAbs:Int)*q+r=a.natAbs:=by exact_mod_cast e
 by_cases hb:b<0 <;> by_cases ha:a<0
 ·rw[show(b.natAbs:Int)=-b by omega,show(a.natAbs:Int)=-a by omega,Int.neg_mul]at e2
  simp[bS,aG,hb,ha];omega
 ·rw[show(b.natAbs:Int)=-b by omega,show(a.natAbs:Int)=a by omega,Int.neg_mul]at e2
  simp[bS,aG,hb,ha,Int.mul_neg];omega
 ·rw[show(b.natAbs:Int)=b by omega,show(a.natAbs:Int)=-a by omega]at e2
  simp[bS,aG,hb,ha,Int.mul_neg];omega
 rw[show(b.natAbs:Int)=b by omega,show(a.natAbs:Int)=a by omega]at e2
 simp[bS,aG,hb,ha];omega
theorem DQ {a b r q:Int}(h0:b≠0) (hr:r=bS (aG a) (a.natAbs%b.natAbs)) (hq:q=bS (aG a != aG b) (a.natAbs/b.natAbs)) (h1:r.sign≠0) (h2:r.sign≠b.sign):q-1=a.fdiv b∧r+b=a.fmod b:=by
 obtain⟨h3,h4⟩:=AS (a:=a) h0
 rw[←hr]at h3 h4
 rw[←hq]at h3
 have h5:=DO h1 h2 h0
 have h6:=Dz (a:=a) (b:=b) (q:=q-1) (r:=r+b) h0 (by rw[Int.mul_sub,Int.mul_one];omega) (by omega) (by omega)
 exact⟨h6.1.symm,h6.2.symm⟩
theorem Nk {a b r q:Int}(h0:b≠0) (hr:r=bS (aG a) (a.natAbs%b.natAbs)) (hq:q=bS (aG a != aG b) (a.natAbs/b.natAbs)) (h:r.sign=0∨r.sign=b.sign):q=a.fdiv b∧r=a.fmod b:=by
 obtain⟨h3,h4⟩:=AS (a:=a) h0
 rw[←hr]at h3 h4
 rw[←hq]at h3
 have h5:=DP h h0
 have h6:=Dz (a:=a) (b:=b) (q:=q) (r:=r) h0 h3 (by omega) (by omega)
 exact⟨h6.1.symm,h6.2.symm⟩
theorem Kd {k:Int}(h:(dg 4294967296 k.natAbs).length=0):k.natAbs=0:=(fE (by omega)).1 (List.length_eq_zero_iff.1 h)
theorem Uc {k:Int}(h:(dg 4294967296 k.natAbs).length≠0):k≠0:=by
 intro h0
 subst h0
 exact h (by rw[show Int.natAbs 0=0 from rfl,mK];rfl)
def jR (l:List Nat) (k N:Nat):List Nat:=lb (l.take k)++List.replicate (N-(k+1)/2) 0
theorem Yd:jR l 0 N=List.replicate N 0:=by simp[jR,lb]
theorem DR (hN:N=(l.length+1)/2) (h:l.length≤k):jR l k N=lb l:=by
 unfold jR
 rw[List.take_of_length_le h,show N-(k+1)/2=0 by omega]
 simp
theorem DS (hN:N=(l.length+1)/2) (hk:k≤l.length):(jR l k N).length=N:=by
 unfold jR
 rw[List.length_append,List.length_replicate,iC,List.length_take,Nat.min_eq_left hk]
 omega
theorem xC:∀{l:List Nat}{j:Nat},2*j<l.length→lb (l.take (2*j+1))=lb (l.take (2*j))++[nth l (2*j)]
 | [],_,h=>by simp at h
 | [a],0,_=>by simp[lb,nth]
 | [a],j+1,h=>by simp at h
 | a::b::l,0,_=>by simp[lb,nth]
 | a::b::l,j+1,h=>by
  have ih:=xC (l:=l) (j:=j) (by simp at h;omega)
  have e2:2*(j+1)=2*j+1+1:=by omega
  rw[e2,List.take_succ_cons,List.take_succ_cons,List.take_succ_cons,List.take_succ_cons]
  simp only[lb,List.cons_append]
  rw[ih]
  simp[nth]
theorem Nl {α:Type}(A R:List α) (x y:α){j:Nat}(h:A.length=j):(A++x::R).set j y=A++y::R:=by
 subst h
 rw[List.set_append_right _ _ (Nat.le_refl _),Nat.sub_self]
 rfl
theorem DT (A R:List Nat) (x:Nat){j:Nat}(h:A.length=j):nth (A++x::R) j=x:=by
 subst h
 simp[nth]
theorem Ye (hN:N=(l.length+1)/2) (hk:k<l.length) (he:k%2=0):(jR l k N).set (k/2) (nth l k)=jR l (k+1) N:=by
 obtain⟨j,rfl⟩:∃j,k=2*j:=⟨k/2,by omega⟩
 have hA:(lb (l.take (2*j))).length=j:=by rw[iC,List.length_take,Nat.min_eq_left (by omega)];omega
 unfold jR
 rw[show 2*j/2=j by omega,show N-(2*j+1)/2=(N-(2*j+1+1)/2)+1 by omega,List.replicate_succ,Nl _ _ _ _ hA,xC hk,List.append_assoc]
 rfl
theorem xM (hN:N=(l.length+1)/2) (hk:k<l.length) (ho:k%2=1):nth (jR l k N) (k/2)=nth l (k-1):=by
 obtain⟨j,rfl⟩:∃j,k=2*j+1:=⟨k/2,by omega⟩
 have hA:(lb (l.take (2*j))).length=j:=by rw[iC,List.length_take,Nat.min_eq_left (by omega)];omega
 unfold jR
 rw[show(2*j+1)/2=j by omega,xC (by omega),List.append_assoc]
 exact DT _ _ _ hA
theorem DU (hN:N=(l.length+1)/2) (hk:k<l.length) (ho:k%2=1):(jR l k N).set (k/2) (nth (jR l k N) (k/2)+65536*nth l k)=jR l (k+1) N:=by
 rw[xM hN hk ho]
 obtain⟨j,rfl⟩:∃j,k=2*j+1:=⟨k/2,by omega⟩
 have hA:(lb (l.take (2*j))).length=j:=by rw[iC,List.length_take,Nat.min_eq_left (by omega)];omega
 unfold jR
 rw[show(2*j+1)/2=j by omega,xC (by omega),List.append_assoc,show 2*j+1+1=2*(j+1) by omega,xB (by omega),List.append_assoc,show 2*j+1-1=2*j by omega]
 rw[show N-(2*(j+1))/2=N-(2*(j+1)+1)/2 by omega]
 exact Nl _ _ _ _ hA
theorem JC {l:List Nat}{j v:Nat}:j<l.length→vl 65536 (l.set j v)+65536^j*nth l j=vl 65536 l+65536^j*v:=by
 induction l generalizing j with
 | nil=>intro h;simp at h
 | cons x l ih=>
  intro h
  rcases j with _ | j
  ·simp[nth,fM];omega
  have:=ih (j:=j) (by simpa using h)
  simp only[List.set_cons_succ,fM]
  rw[Nat.pow_succ,show nth (x::l) (j+1)=nth l j by simp[nth],Nat.mul_comm (65536^j) 65536,Nat.mul_assoc,Nat.mul_assoc]
  omega
theorem oF {os a b:List Nat}{i k cr x:Nat}(hj:i+k<os.length) (h:vl 65536 os+65536^(i+k)*cr=vl 65536 (a.take i)*vl 65536 b+65536^i*(nth a i*vl 65536 (b.take k))) (hx:x=nth os (i+k)+cr+nth a i*nth b k):
  vl 65536 (os.set (i+k) (x%65536))+65536^(i+(k+1))*(x/65536)=vl 65536 (a.take i)*vl 65536 b+65536^i*(nth a i*vl 65536 (b.take (k+1))):=by
 have h1:=JC (v:=x%65536) hj
 have h2:=Nat.mod_add_div x 65536
 have h3:65536^(i+k)*x=65536^(i+k)*(x%65536)+65536^(i+k)*(65536*(x/65536)):=by rw[←Nat.mul_add,h2]
 have h4:65536^(i+k)*x=65536^(i+k)*nth os (i+k)+65536^(i+k)*cr+65536^(i+k)*(nth a i*nth b k):=by rw[hx,Nat.mul_add,Nat.mul_add]
 rw[bJ,Nat.mul_add,Nat.mul_add,show i+(k+1)=i+k+1 by omega,Nat.pow_succ,Nat.mul_assoc]
 have h5:65536^i*(nth a i*(65536^k*nth b k))=65536^(i+k)*(nth a i*nth b k):=by
  rw[Nat.pow_add,Nat.mul_left_comm (nth a i),Nat.mul_assoc]
 omega
theorem Ak {a b:List Nat}{i k:Nat}(hk:b.length≤k):vl 65536 (a.take i)*vl 65536 b+65536^i*(nth a i*vl 65536 (b.take k))=vl 65536 (a.take (i+1))*vl 65536 b:=by
 rw[bR 65536 hk,bJ,Nat.add_mul,Nat.mul_assoc]
theorem Je {os a b:List Nat}{i k cr:Nat}(ha:Lim 65536 a) (hb:Lim 65536 b) (hi:i<a.length) (hk:k≤b.length+1) (h:vl 65536 os+65536^(i+k)*cr=vl 65536 (a.take i)*vl 65536 b+65536^i*(nth a i*vl 65536 (b.take k))) (hc:0<cr):k≤b.length:=by
 rcases Nat.lt_or_ge b.length k with h1 | h1
 ·exfalso
  rw[Ak (by omega)]at h
  have h2:=eI (ha.take (i+1))
  have h3:=eI hb
  have h4:vl 65536 (a.take (i+1))*vl 65536 b<65536^(a.take (i+1)).length*65536^b.length:=Nat.mul_lt_mul'' h2 h3
  rw[←Nat.pow_add,List.length_take,Nat.min_eq_left (by omega),show i+1+b.length=i+k by omega]at h4
  have h5:65536^(i+k)*1≤65536^(i+k)*cr:=Nat.mul_le_mul_left _ hc
  omega
 exact h1
end
theorem DV {k k':Int}(h:aG k=true) (h':aG k'=false):(-1:Int)=(k-k').sign:=by
 unfold aG at h h'
 simp at h h'
 rw[Int.sign_eq_neg_one_of_neg (by omega)]
theorem DW {k k':Int}(h:aG k=false) (h':aG k'=true):(1:Int)=(k-k').sign:=by
 unfold aG at h h'
 simp at h h'
 rw[Int.sign_eq_one_of_pos (by omega)]
theorem DX {k k':Int}(h:aG k=true) (h':aG k'=true):(((k'.natAbs:Nat):Int)-((k.natAbs:Nat):Int)).sign=(k-k').sign:=by
 unfold aG at h h'
 simp at h h'
 rw[show((k'.natAbs:Nat):Int)-((k.natAbs:Nat):Int)=k-k' by omega]
theorem DY {k k':Int}(h:aG k=false) (h':aG k'=false):(((k.natAbs:Nat):Int)-((k'.natAbs:Nat):Int)).sign=(k-k').sign:=by
 unfold aG at h h'
 simp at h h'
 rw[show((k.natAbs:Nat):Int)-((k'.natAbs:Nat):Int)=k-k' by omega]
theorem mH (v:Nat):(dg 4294967296 v).length≤(dg 65536 v).length:=by
 rw[←xA,iC]
 omega
theorem kP (xs:List Nat){k:Nat}(h:k<xs.length):((cK xs).map AV.t)[0+k*1]? =some (tv (.int .i64 ((nth xs k:Nat):Int))):=by simp[cK,dL h,h,tv]
theorem JD (xs:List Nat){k:Nat}(h:k<xs.length):((aP xs).map AV.t)[0+k*1]? =some (tv (.int .u32 ((nth xs k:Nat):Int))):=by simp[aP,dL h,h,tv]
theorem jV (xs:List Nat){k v:Nat}(h:k<xs.length):cX ((cK xs).map AV.t) (0+k*1) [tv (.int .i64 (v:Int))]=(cK (xs.set k v)).map .t:=by
 rw[Nat.zero_add,Nat.mul_one,List.set_eq_take_append_cons_drop,if_pos h]
 simp[cX,cK,tv,List.map_take,List.map_drop]
theorem Br (xs:List Nat){k v:Nat}(h:k<xs.length):cX ((aP xs).map AV.t) (0+k*1) [tv (.int .u32 (v:Int))]=(aP (xs.set k v)).map .t:=by
 rw[Nat.zero_add,Nat.mul_one,List.set_eq_take_append_cons_drop,if_pos h]
 simp[cX,aP,tv,List.map_take,List.map_drop]
theorem lV (xs:List Nat){k:Nat}{a:AV}(h:k<xs.length):0+k*1+[a].length≤((cK xs).map AV.t).length:=by simp[cK];omega
theorem Hg (xs:List Nat){k:Nat}{a:AV}(h:k<xs.length):0+k*1+[a].length≤((aP xs).map AV.t).length:=by simp[aP];omega
theorem Jf (m:Nat):(List.replicate m (Value.int .i64 0)).map tv=(cK (List.replicate m 0)).map .t:=by simp[cK,tv]
theorem Yf (m:Nat):(List.replicate m (Value.int .u32 0)).map tv=(aP (List.replicate m 0)).map .t:=by simp[aP,tv]
structure Zi where
 s:Bool
 x:List Nat
def Zi.of (k:Int):Zi:=⟨aG k,dg 4294967296 k.natAbs⟩
def gF (a:Zi):FV:=.agg (([.v (.bool a.s),sU false a.x]:List Tr).map .t)
def kF (k:Int):FV:=.agg (([.v (.bool (aG k)),sU false (dg 4294967296 k.natAbs)]:List Tr).map .t)
def kO (k:Int):FV:=.agg (([.v (.bool (aG k)),sU true (dg 4294967296 k.natAbs)]:List Tr).map .t)
def Zn (a:Zi) (k:Int):Prop:=Lim 4294967296 a.x∧a.x.length≤137438953472∧dF a.s a.x=k
theorem Zn.of {k:Int}(h:(dg 4294967296 k.natAbs).length≤137438953472):Zn (.of k) k:=⟨aL (by omega) _,h,sA k⟩
theorem PP:Zn ⟨false,[]⟩ 0:=⟨Lim.nil,by simp,rfl⟩
theorem Zn.len {a:Zi}{k:Int}(h:Zn a k):(dg 4294967296 k.natAbs).length≤137438953472:=by
 obtain⟨h1,h2,rfl⟩:=h
 exact Nat.le_trans (oL h1) h2
theorem Zn.right {a:Zi}{k:Int}(h:Zn a k) (hr:cQ a.s a.x=true):aG k=a.s∧dg 4294967296 k.natAbs=a.x:=by
 obtain⟨h1,h2,rfl⟩:=h
 exact⟨wY h1 hr,oS h1 hr⟩
theorem Zn.wrong {a:Zi}{k:Int}(h:Zn a k) (hr:cQ a.s a.x=false):k=0:=by
 obtain⟨h1,h2,rfl⟩:=h
 exact Aj hr
theorem Yg {a:Zi}{k:Int}(h:Zn a k) (hr:cQ a.s a.x=true):gF a=kF k:=by
 obtain⟨h1,h2⟩:=h.right hr
 unfold gF kF
 rw[h1,h2]
theorem tM {b:Bool}{m:Nat}{k:Int}(h:b=aG k) (hm:m=k.natAbs):FV.agg [tv (.bool b),.t (sU true (dg 4294967296 m))]=kO k:=by subst h hm;rfl
theorem wH:FV.agg [tv (.bool false),.t (sU false [])]=kF 0:=by
 unfold kF
 rw[show Int.natAbs 0=0 from rfl,mK]
 rfl
theorem dW (k:Int):jI (kO k):=by
 simp only[jI,kO,nP,List.map_cons,List.map_nil,jO,qD,sU,mA]
 exact⟨trivial,.inl ⟨trivial,fC _⟩,trivial⟩
theorem Cq (b:Bool) (m:Nat):jI (.agg (([.v (.bool b),sU true (dg 4294967296 m)]:List Tr).map .t)):=by
 simp only[jI,nP,List.map_cons,List.map_nil,jO,qD,sU,mA]
 exact⟨trivial,.inl ⟨trivial,fC _⟩,trivial⟩
def Qn (a:Fr4) (p:Rat):Prop:=a.ok∧a.q=p
section
variable {a:Fr4}{p q:Rat}{k k':Int}{L M:Nat}
theorem Gl (h:Qn a p):Zn ⟨a.s,a.x⟩ (dF a.s a.x):=⟨h.1.1,by have:=h.1.2.2.1;dsimp only;omega,rfl⟩
theorem sN (h:Qn a p):Zn ⟨a.t,a.y⟩ (dF a.t a.y):=⟨h.1.2.1,by have:=h.1.2.2.2;dsimp only;omega,rfl⟩
theorem eP (h:Sz L p) (hL:L≤137438953472:=by omega):Zn (.of p.num) p.num:=.of (Nat.le_trans h.1 hL)
theorem dB (h:Sz L p) (hL:L≤137438953472:=by omega):Zn ⟨false,dg 4294967296 p.den⟩ (p.den:Int):=⟨aL (by omega) _,Nat.le_trans h.2 hL,rC p.den⟩
theorem Qn.sz (h:Qn a p):Sz 68719476736 p:=by
 obtain⟨⟨h1,h2,h3,h4⟩,rfl⟩:=h
 exact Rw h1 h2 h3 h4 (by omega)
theorem Qn.of (h:Sz L p) (hL:L≤68719476736:=by omega):Qn (.of p) p:=⟨⟨aL (by omega) _,aL (by omega) _,Nat.le_trans h.1 hL,Nat.le_trans h.2 hL⟩,Fr4.q_of p⟩
theorem Qn.right (h:Qn a p) (hr:dD a.s a.x a.t a.y=true):Fr4.of p=a:=by
 obtain⟨⟨l1,l2,_,_⟩,rfl⟩:=h
 obtain⟨h1,h2,h3,h4⟩:=vN hr
 have e1:=Nb hr
 have e2:=Nc hr
 have e3:=wY l1 h1
 have e4:=oS l1 h1
 have e5:=wY l2 h2
 have e6:=oS l2 h2
 rw[←e1]at e3 e4
 rw[←e2]at e5 e6
 rw[wZ]at e5
 rw[Int.natAbs_natCast]at e6
 unfold Fr4.of Fr4.q
 rw[e3,e4,e5,e6]
theorem Qn.wrong (h:Qn a p) (hr:dD a.s a.x a.t a.y=false):p=0:=by
 obtain⟨_,rfl⟩:=h
 exact Ea hr
theorem wG (hn:q.num=k) (hd:(q.den:Int)=k'):FV.agg [tv (.bool (aG k)),.t (sU false (dg 4294967296 k.natAbs)),tv (.bool (aG k')),.t (sU false (dg 4294967296 k'.natAbs))]=qF (.of q):=by
 subst hn hd
 have e:aG (q.den:Int)=false:=by unfold aG;exact decide_eq_false (by omega)
 rw[e]
 rfl
theorem Wa (k k':Int):decide ((k-k').sign=0)=decide (k=k'):=by
 rw[decide_eq_decide,Int.sign_eq_zero_iff_zero]
 omega
theorem Bm (h0:k'≠0):(dg 4294967296 (((Int.gcd k k':Nat):Int)).natAbs).length≤(dg 4294967296 k'.natAbs).length:=by
 rw[Int.natAbs_natCast]
 exact gL (Nat.le_of_dvd (by omega) (Int.gcd_dvd_natAbs_right k k'))
theorem lW {n:Int}(h1:-9223372036854775808≤n) (h2:n≤9223372036854775807):(dg 4294967296 n.natAbs).length≤2:=cH (by omega) (by omega)
theorem Gq {a b:Int}(h0:b≠0):(0<b→(Rat.divInt a b).num=a.fdiv (Int.gcd a b)∧((Rat.divInt a b).den:Int)=b.fdiv (Int.gcd a b))∧(b<0→(Rat.divInt a b).num=(-a).fdiv (Int.gcd (-a) (-b))∧((Rat.divInt a b).den:Int)=(-b).fdiv (Int.gcd (-a) (-b))):=by
 refine⟨fun h=>mX h,fun h=>?_⟩
 rw[←Rat.neg_divInt_neg]
 exact mX (by omega)
theorem zL {a b:Int}(h:b≠0):((Int.gcd a b:Nat):Int)≠0:=by
 have:=Int.gcd_pos_of_ne_zero_right a h
 omega
theorem Ln (n:Nat):decide ((n:Int)=1)=(n==1):=by
 by_cases h:n=1
 ·subst h;rfl
 rw[beq_eq_false_iff_ne.2 h,decide_eq_false (by omega)]
end
theorem rK {α:Type}{f:α→List Tr}{z:Nat}(hf:∀x,(f x).length=z):∀{xs:List α}{k:Nat}{x:α},xs[k]? =some x→((xs.flatMap f).drop (k*z)).take z=f x
 | [],_,_,h=>by simp at h
 | y::xs,0,x,h=>by
  simp at h
  subst h
  rw[Nat.zero_mul,List.drop_zero,List.flatMap_cons,List.take_append_of_le_length (by rw[hf];exact Nat.le_refl _),List.take_of_length_le (by rw[hf];exact Nat.le_refl _)]
 | y::xs,k+1,x,h=>by
  rw[List.getElem?_cons_succ]at h
  have e:(f y++xs.flatMap f).drop z=xs.flatMap f:=by rw[←hf y];simp
  rw[List.flatMap_cons,Nat.succ_mul,Nat.add_comm,←List.drop_drop,e]
  exact rK hf h
theorem bQ {α:Type}{f:α→List Tr}{z:Nat}(hf:∀x,(f x).length=z):∀(xs:List α),(xs.flatMap f).length=xs.length*z
 | []=>by simp
 | y::xs=>by rw[List.flatMap_cons,List.length_append,hf,bQ hf xs,List.length_cons,Nat.succ_mul,Nat.add_comm]
theorem Yh {α:Type}{f:α→List Tr}{z o m:Nat}(hf:∀x,(f x).length=z){xs:List α}{k:Nat}{x:α}(h:xs[k]? =some x) (hm:o+m≤z):((xs.flatMap f).drop (k*z+o)).take m=((f x).drop o).take m:=by
 have e:=rK hf h
 rw[←List.drop_drop,←e,List.drop_take,List.take_take,Nat.min_eq_left (by omega)]
section
variable {α:Type}{f:α→List Tr}{z:Nat}{xs:List α}{k o:Nat}{x x' y:α}{us:List Tr}
theorem dP (hf:∀x,(f x).length=z) (h:xs[k]? =some x) (hm:o+us.length≤z) (hu:((f x).drop o).take us.length=us):((xs.flatMap f).drop (k*z+o)).take us.length=us:=by
 rw[Yh hf h hm]
 exact hu
theorem De (hf:∀x,(f x).length=z) (h:xs[k]? =some x) (hm:o+us.length≤z) (hu:((f x).drop o).take us.length=us):(((xs.flatMap f).map AV.t).drop (0+k*z+o)).take (us.map AV.t).length=us.map .t:=by
 rw[←List.map_drop,←List.map_take,Nat.zero_add,List.length_map,dP hf h hm hu]
end
def fL:List Rat→Rat | []=>0 | a::l=>gA a l
def HH:Fr4:=⟨false,[],false,[]⟩
def aN (xs:List Fr4) (k:Nat):Fr4:=xs.getD k HH
theorem dN {xs:List Fr4}{k:Nat}(h:k<xs.length):xs[k]? =some (aN xs k):=by simp[aN,h]
theorem aT {xs:List Fr4}{k:Nat}(h:k<xs.length):aN xs k∈xs:=List.mem_of_getElem? (dN h)
def sQ (o:Bool) (xs:List Fr4):Tr:=.s o 50 4 xs.length (xs.flatMap (Fr4.tr o))
theorem eE (xs:List Fr4){k:Nat}(h:k<xs.length):((xs.flatMap (Fr4.tr false)).drop (k*4)).take ((aN xs k).tr false).length=(aN xs k).tr false:=rK (f:=Fr4.tr false) (fun _=>rfl) (dN h)
section
variable {xs:List Fr4}{k:Nat}
theorem oX (h:k<xs.length):(xs.take (k+1)).map Fr4.q=(xs.take k).map Fr4.q++[(aN xs k).q]:=by rw[List.take_add_one,dN h];simp
theorem Dl (h:0<xs.length):fL ((xs.take 1).map Fr4.q)=(aN xs 0).q:=by
 rw[oX h]
 simp[fL,gA]
theorem zO (h1:1≤k) (h:k<xs.length):fL ((xs.take (k+1)).map Fr4.q)=if fL ((xs.take k).map Fr4.q)<(aN xs k).q then(aN xs k).q else fL ((xs.take k).map Fr4.q):=by
 rw[oX h]
 rcases e:(xs.take k).map Fr4.q with _ | ⟨a,l⟩
 ·have:=congrArg List.length e
  simp at this
  rcases this with h2 | h2
  ·omega
  subst h2;simp at h
 show List.foldl _ a (l++[_])=_
 rw[List.foldl_append]
 rfl
theorem Si (p q:Rat):0<(p-q).num.sign↔q<p:=by simpa using Kv q p
end
section
variable {vs:List (Int×Rat)}{k:Nat}
end
def aC (l:List Rat):Rat:=l.foldl (· + ·) 0
theorem pT (l:List Rat) (q:Rat):aC (l++[q])=aC l+q:=by simp[aC]
section
variable {f:FuncId}{args:List FV}
theorem qG {xs:List Nat}(h:∀(N:Nat→Prop) (w:World) us,dA w N [] args us→(∀b,N b→b<w.heap.size)→Calls Tryz.prog f us.toArray w (mC xs w)):aD true Tryz.prog f [] args (aO (.one (.t (sU true xs)))):=by
 intro N w cs us hL
 obtain⟨rfl,hf⟩:=vP hL
 refine(h _ w us hf (fun b hb=>hb.1)).mono ?_
 rintro e W ⟨A,n,c,rfl,ho,hb⟩
 obtain⟨y1,a1,a2,a3,a4⟩:=vO (N:=fun b=>true=false∧(b<W.heap.size∧b∉VT.fpL [])∧(N b∨w.heap.size≤b)) ho
 refine .mk0 (y:=[y1]) rfl hb (by simp only[VT.okL];exact⟨a3,trivial⟩) ?_ (fun b hb'=>?_) ?_
 ·simp only[VT.fpL,a4,List.append_nil]
  cases A <;> simp[Value.ownBlock]
 ·simp only[VT.fpL,a4,List.append_nil]at hb'
  exact ho.blk b hb'
 exact⟨y1,rfl,a1.symm,jD (fun _ _=>rfl) (fun b hb=>absurd hb.1 (by simp)) _ _ a2⟩
variable {xs ys:List Nat}
theorem jS {W:World}{N:Nat→Prop}{v:Value}(h:bY W N [] (.one (.t (sU false xs))) v) (hl:Lim 4294967296 xs) (hN:∀b,N b→b<W.heap.size):∃A c,v=.slice A xs.length c∧U32 W W.heap.size A xs.length c xs:=by
 simp only[bY,AR]at h
 obtain⟨A,c,rfl,l⟩:=Cn h hl
 exact⟨A,c,rfl,l.u32 hN⟩
theorem Nm (hx:Lim 4294967296 xs) (h:xs.length≤1099511627776):aD true Tryz.prog 93 [] [.one (.t (sU false xs))] (aO (.one (.t (sU true xs)))):=qG fun N w us hf hN=>by
 obtain⟨u,rfl,h1⟩:=Xx hf
 obtain⟨A,c,rfl,u1⟩:=jS h1 hx hN
 exact oP A _ c xs w u1 h
theorem MA (hx:Lim 4294967296 xs) (hy:Lim 4294967296 ys):aD true Tryz.prog 130 [] [.one (.t (sU false xs)),.one (.t (sU false ys))] (aO (.one (tv (.int .i64 (mD (vl 4294967296 xs) (vl 4294967296 ys)))))):=Xw fun N w us hf hN=>by
 obtain⟨u,v,rfl,h1,h2⟩:=Iz hf
 obtain⟨A,c,rfl,u1⟩:=jS h1 hx hN
 obtain⟨B,d,rfl,u2⟩:=jS h2 hy hN
 exact(pL A B _ _ c d xs ys _ w u1 u2).mono fun e W ⟨he,k,hk⟩=>⟨he,hk▸fR (Below.refl _ _) k⟩
theorem AT (hx:Lim 4294967296 xs) (hy:Lim 4294967296 ys) (h:xs.length≤1099511627776) (h':ys.length≤1099511627776):aD true Tryz.prog 129 [] [.one (.t (sU false xs)),.one (.t (sU false ys))] (aO (.one (.t (sU true (dg 4294967296 (vl 4294967296 xs+vl 4294967296 ys)))))):=qG fun N w us hf hN=>by
 obtain⟨u,v,rfl,h1,h2⟩:=Iz hf
 obtain⟨A,c,rfl,u1⟩:=jS h1 hx hN
 obtain⟨B,d,rfl,u2⟩:=jS h2 hy hN
 exact Xq A B _ _ c d xs ys w u1 u2 h h'
theorem MB (hx:Lim 4294967296 xs) (hy:Lim 4294967296 ys) (h:xs.length≤549755813888) (h':ys.length≤549755813888):aD true Tryz.prog 118 [] [.one (.t (sU false xs)),.one (.t (sU false ys))] (aO (.one (.t (sU true (dg 4294967296 (vl 4294967296 xs*vl 4294967296 ys)))))):=qG fun N w us hf hN=>by
 obtain⟨u,v,rfl,h1,h2⟩:=Iz hf
 obtain⟨A,c,rfl,u1⟩:=jS h1 hx hN
 obtain⟨B,d,rfl,u2⟩:=jS h2 hy hN
 exact DA A B _ _ c d xs ys w u1 u2 h h'
theorem Yi {W:World}{N:Nat→Prop}{t:Nat}{v:Value}(h:bY W N [] (.one (.t (.s false t 1 2 [sU false xs,sU false ys]))) v) (hx:Lim 4294967296 xs) (hy:Lim 4294967296 ys) (hN:∀b,N b→b<W.heap.size):∃A c,v=.slice A 2 c∧URows W W.heap.size A 2 c [xs,ys]:=by
 simp only[bY,AR,FR]at h
 obtain⟨A,c,rfl,h1,h2,_,h4⟩:=h
 rcases h4 with h4 | ⟨ad,rfl,h5,h6⟩
 ·omega
 obtain⟨u0,e0,f0⟩:=mM h6 (j:=0) rfl
 obtain⟨u1,e1,f1⟩:=mM h6 (j:=1) rfl
 obtain⟨A0,c0,rfl,l0⟩:=Cn f0 hx
 obtain⟨A1,c1,rfl,l1⟩:=Cn f1 hy
 rw[Nat.zero_add]at e0 e1
 refine⟨_,c,rfl,rfl,h1,h2,fun k hk=>?_⟩
 obtain⟨b,o,sp⟩:=ad
 match k,hk with
 | 0,_=>exact⟨b,o,sp,A0,_,c0,rfl,hN _ h5,e0,l0.u32 hN⟩
 | 1,_=>exact⟨b,o,sp,A1,_,c1,rfl,hN _ h5,e1,l1.u32 hN⟩
theorem MC {t:Nat}(hx:Lim 4294967296 xs) (hy:Lim 4294967296 ys) (h:xs.length≤549755813888) (h':ys.length≤549755813888):aD true Tryz.prog 135 [] [.one (.t (.s false t 1 2 [sU false xs,sU false ys]))] (aO (.one (.t (sU true (dg 4294967296 (pM [xs,ys])))))):=qG fun N w us hf hN=>by
 obtain⟨u,rfl,h1⟩:=Xx hf
 obtain⟨A,c,rfl,u1⟩:=Yi h1 hx hy hN
 exact DH A 2 c [xs,ys] w u1 (by omega) (fun k hk=>by match k,hk with | 0,_=>exact h | 1,_=>exact h')
theorem Al (A:Option Addr) (n c:Nat):((Value.slice A n c).ownBlock.toList).Nodup:=by cases A <;> simp[Value.ownBlock]
theorem Qd (hx:Lim 4294967296 xs) (hy:Lim 4294967296 ys) (h:xs.length≤1099511627776) (hle:vl 4294967296 ys≤vl 4294967296 xs):aD true Tryz.prog 131 [] [.one (.t (sU false xs)),.one (.t (sU false ys))] (aO (.tup [.one (.t (sU true (dg 4294967296 (vl 4294967296 xs-vl 4294967296 ys)))),.one (tv (.int .i64 0))])):=by
 intro N w cs us hL
 obtain⟨rfl,hf⟩:=vP hL
 obtain⟨u,v,rfl,h1,h2⟩:=Iz hf
 obtain⟨A,c,rfl,u1⟩:=jS h1 hx fun b hb=>hb.1
 obtain⟨B,d,rfl,u2⟩:=jS h2 hy fun b hb=>hb.1
 refine(Xr A B _ _ c d xs ys w u1 u2 h hle).mono ?_
 rintro e W ⟨A,n,c,rfl,ho,hb⟩
 obtain⟨y1,a1,a2,a3,a4⟩:=vO (N:=fun b=>true=false∧(b<W.heap.size∧b∉VT.fpL [])∧(N b∨w.heap.size≤b)) ho
 refine .mk0 (y:=[y1,.w (.int .i64 0)]) rfl hb (by simp only[VT.okL,VT.ok];exact⟨a3,trivial,trivial⟩) ?_ (fun b hb'=>?_) ?_
 ·simp only[VT.fpL,VT.fp,a4,List.append_nil]
  exact Al A n c
 ·simp only[VT.fpL,VT.fp,a4,List.append_nil]at hb'
  exact ho.blk b hb'
 refine⟨[_,_],rfl,?_⟩
 exact⟨_,_,[y1],[.w (.int .i64 0)],rfl,rfl,⟨y1,rfl,a1.symm,jD (fun _ _=>rfl) (fun b hb=>absurd hb.1 (by simp)) _ _ a2⟩,_,_,[.w (.int .i64 0)],[],rfl,rfl,⟨_,rfl,rfl,by simp[CR,tv,OR]⟩,rfl,rfl⟩
theorem Yj (hx:Lim 4294967296 xs) (hy:Lim 4294967296 ys) (h:xs.length≤549755813888) (h':ys.length≤549755813888) (h0:vl 4294967296 ys≠0):aD true Tryz.prog 136 [] [.one (.t (sU false xs)),.one (.t (sU false ys))] (aO (.tup [.one (.t (sU true (dg 4294967296 (vl 4294967296 xs/vl 4294967296 ys)))),.one (.t (sU true (dg 4294967296 (vl 4294967296 xs%vl 4294967296 ys)))),.one (tv (.int .i64 0))])):=by
 intro N w cs us hL
 obtain⟨rfl,hf⟩:=vP hL
 obtain⟨u,v,rfl,h1,h2⟩:=Iz hf
 obtain⟨A,c,rfl,u1⟩:=jS h1 hx fun b hb=>hb.1
 obtain⟨B,d,rfl,u2⟩:=jS h2 hy fun b hb=>hb.1
 refine(Af A B _ _ c d xs ys w u1 u2 h h' h0).mono ?_
 rintro e W ⟨A1,n1,c1,A2,n2,c2,rfl,ho,ho2,hap,hb⟩
 obtain⟨y1,a1,a2,a3,a4⟩:=vO (N:=fun b=>true=false∧(b<W.heap.size∧b∉VT.fpL [])∧(N b∨w.heap.size≤b)) ho
 obtain⟨y2,b1,b2,b3,b4⟩:=vO (N:=fun b=>true=false∧(b<W.heap.size∧b∉VT.fpL [])∧(N b∨w.heap.size≤b)) ho2
 refine .mk0 (y:=[y1,y2,.w (.int .i64 0)]) rfl hb (by simp only[VT.okL,VT.ok];exact⟨a3,b3,trivial,trivial⟩) ?_ (fun b hb'=>?_) ?_
 ·simp only[VT.fpL,VT.fp,a4,b4,List.append_nil]
  rw[List.nodup_append]
  refine⟨Al ..,Al ..,fun x hx y hy e=>?_⟩
  subst e
  rcases A1 with _ | a
  ·simp[Value.ownBlock]at hx
  rcases A2 with _ | b
  ·simp[Value.ownBlock]at hy
  simp[Value.ownBlock]at hx hy
  exact hap a b rfl rfl (by rw[←hx,←hy])
 ·simp only[VT.fpL,VT.fp,a4,b4,List.append_nil]at hb'
  rcases List.mem_append.1 hb' with hb' | hb'
  ·exact ho.blk b hb'
  exact ho2.blk b hb'
 refine⟨[_,_,_],rfl,?_⟩
 exact⟨_,_,[y1],[y2,.w (.int .i64 0)],rfl,rfl,⟨y1,rfl,a1.symm,jD (fun _ _=>rfl) (fun b hb=>absurd hb.1 (by simp)) _ _ a2⟩,_,_,[y2],[.w (.int .i64 0)],rfl,rfl,⟨y2,rfl,b1.symm,jD (fun _ _=>rfl) (fun b hb=>absurd hb.1 (by simp)) _ _ b2⟩,_,_,[.w (.int .i64 0)],[],rfl,rfl,⟨_,rfl,rfl,by simp[CR,tv,OR]⟩,rfl,rfl⟩
end
def Yk (P:Program) (t n:Nat):Prop:=∃e,P.underlying t=some (.array n e)∧Ty1 P e
section
variable {P:Program}{w:World}{ρ:Operand→Value}{d:Option Nat}{ty:TypeId}{pos:String}{af:Array Edge}{gd:Option (Nat×Bool)}
theorem Ud {t n:Nat}{z us:List Value}{parts:Array (Nat×Operand)}{ps:List (Nat×Value)}(hT:Yk P t n) (hZ:TyZ P t z) (hps:(parts.map fun x=>(x.1,ρ x.2))=ps.toArray) (hf:iA (fun i=>some (i*1,1)) z ps=some us):
  (execOp ρ ⟨d,.build t parts,ty,pos,af,gd⟩).run P w=.ok (.value (.agg us.toArray)) w:=by
 obtain⟨e,e1,hu⟩:=hT
 obtain⟨dd,i',h8,h9,h10,h11⟩:=hu
 obtain⟨i,v,h3,h4,h5⟩:=hZ
 have hf':=vW _ ps z us hf
 simp only[Nat.mul_one]at hf'
 have hps':(parts.map fun(x:Nat×Operand)=>match x with | (i,x)=>(i,ρ x))=ps.toArray:=hps
 simp[execOp,Instr.build,zeroValue,sizeOf,typeInfo,h3,h4,run_underlying e1,hps',h5,h10,h11,hf']
end
def tN:List AV→List (Nat×FV)→Option (List AV)
 | l,[]=>some l
 | l,(i,.one a)::r=>match lone a&&Nat.blt i l.length with
  | true=>tN (l.set i a) r
  | false=>none
 | _,_=>none
section
variable {W:World}{N:Nat→Prop}{cs:List Co}
theorem Nn {a:AV}{u:Value}(ha:AR W N cs a u):∀{l:List AV}{us:List Value}{p:Nat},ARL W N cs l us→ARL W N cs (l.set p a) (us.set p u)
 | [],us,p,h=>by
  simp only[ARL]at h
  subst h
  simp[ARL]
 | b::l,[],p,h=>by simp only[ARL]at h
 | b::l,z::us,0,h=>by
  simp only[ARL]at h
  simp only[List.set_cons_zero,ARL]
  exact⟨ha,h.2⟩
 | b::l,z::us,p+1,h=>by
  simp only[ARL]at h
  simp only[List.set_cons_succ,ARL]
  exact⟨h.1,Nn ha h.2⟩
theorem No:∀{ps:List (Nat×FV)}{vs:List (Nat×Value)}{l l':List AV}{us:List Value},ARL W N cs l us→tN l ps=some l'→ps.length=vs.length→
  (∀(j:Nat) (p:Nat×FV) (q:Nat×Value),ps[j]? =some p→vs[j]? =some q→p.1=q.1∧bM W N cs p.2 q.2)→∃us',ARL W N cs l' us'∧iA (fun i=>some (i*1,1)) us vs=some us'
 | [],vs,l,l',us,hc,h,hl,_=>by
  obtain rfl:vs=[]:=List.eq_nil_of_length_eq_zero hl.symm
  simp only[tN,Option.some.injEq]at h
  subst h
  exact⟨us,hc,rfl⟩
 | (i,fv)::ps,vs,l,l',us,hc,h,hl,hp=>by
  obtain⟨⟨i',u⟩,vs,rfl⟩:∃q vs',vs=q::vs':=by
   cases vs with
   | nil=>simp at hl
   | cons q vs=>exact⟨q,vs,rfl⟩
  obtain⟨e0,h0⟩:=hp 0 _ _ rfl rfl
  dsimp only at e0 h0
  subst e0
  cases fv with
  | one a=>
   unfold tN at h
   cases hq:lone a&&Nat.blt i l.length with
   | false=>rw[hq]at h;cases h
   | true=>
    rw[hq]at h
    simp only[Bool.and_eq_true]at hq
    have hi:i<us.length:=by
     have h9:=hq.2
     rw[fX hc]
     simpa[Nat.blt,Nat.lt_iff_add_one_le]using h9
    have hu:u.cells.toList=[u]:=by rw[tB (cs:=cs) h0 hq.1]
    obtain⟨us',r1,r2⟩:=No (us:=us.set i u) (Nn h0 hc) h (by simpa using hl) (fun j p q h1 h2=>hp (j+1) p q (by simpa using h1) (by simpa using h2))
    refine⟨us',r1,?_⟩
    unfold iA
    dsimp only
    have e2:mZ us (i*1) u.cells.toList=us.set i u:=by
     rw[hu,Nat.mul_one]
     unfold mZ
     rw[List.set_eq_take_append_cons_drop,if_pos hi]
     simp
    have e3:(Nat.beq u.cells.toList.length 1&&Nat.ble (i*1+u.cells.toList.length) us.length)=true:=by
     rw[hu]
     simp
     omega
    rw[e2,e3]
    exact r2
  | any=>simp[tN]at h
  | agg _=>simp[tN]at h
  | tup _=>simp[tN]at h
end
section
variable {x:Cx}{g g':Nat→FV}{ob ob':List (Option Ob)}{cs cs':List Co}{ts ts':Array Value}{W W':World}{T:List (Nat×TI)}{Q:Post}{ops:Array Oper}{rest:List Oper}{d:Nat}{op:Op}{ty:TypeId}{pos:String}{af:Array Edge}{gd:Option (Nat×Bool)}{v:FV}
theorem MD {t n:Nat}{ti:Bool}{sz:Nat}{z:List Value}{kd:TK}{ps:Array (Nat×Operand)}{l:List AV}(hT:cE x.P T) (ht:bV T t=some ⟨ti,sz,z,kd⟩) (hA:Yk x.P t n) (h:tN (z.map tv) (ps.toList.map fun p=>(p.1,lk x.n g p.2))=some l):
  OS x ⟨some d,.build t ps,ty,pos,af,gd⟩ g ob [] (fun g' ob'=>g'=bG g d (.agg l)∧ob'=ob):=Sl fun cs ts W hR=>by
 have hi:=dG hT ht
 obtain⟨us',h1,h2⟩:=No (W:=W) (N:=x.fr W ob cs) (cs:=cs) (us:=z) (vs:=ps.toList.map fun p=>(p.1,Act.eval ⟨ts,[]⟩ p.2)) (lU z) h (by simp) (fun j p q hp hq=>by
  simp only[List.getElem?_map,Option.map_eq_some_iff]at hp hq
  obtain⟨a,ha,rfl⟩:=hp
  obtain⟨b,hb,rfl⟩:=hq
  rw[ha]at hb
  injection hb with hb
  subst hb
  exact⟨rfl,hR.lk _⟩)
 exact⟨.agg us'.toArray,fun W'=>Ud hA hi.2.2.1 (ps:=ps.toList.map fun p=>(p.1,Act.eval ⟨ts,[]⟩ p.2)) (by apply Array.ext';simp only[Array.toList_map]) h2,us',rfl,h1⟩
theorem bA {t n:Nat}{ti:Bool}{sz:Nat}{z:List Value}{kd:TK}{ps:Array (Nat×Operand)}{l:List AV}(hA:Yk x.P t n) (k:WL x ops rest (bG g d (.agg l)) ob Q) (hT:cE x.P ttab:=by exact aA) (ht:bV ttab t=some ⟨ti,sz,z,kd⟩:=by rfl) (h:tN (z.map tv) (ps.toList.map fun p=>(p.1,lk x.n g p.2))=some l:=by rfl) (hw:bH ops x.n g gd=some true:=by rfl):
  WL x ops (⟨some d,.build t ps,ty,pos,af,gd⟩::rest) g ob Q:=gX (MD hT ht hA h) hw (by rintro _ _ ⟨rfl,rfl⟩;exact k)
inductive PutL (K:List Nat):List AV→List AV→Prop
 | nil:PutL K [] []
 | sl {i k o n:Nat}{l l':List AV}(h:K[i]? =some k) (h':PutL K l l'):PutL K (.sl i o n::l) (.sl k o n::l')
variable {late:Nat→Bool}{K fr:List Nat}{on:Bool}{fuel:Nat}{listed:Array Bool}
theorem Ok {t key o t' z':Nat}{ti:TI}{a b:Operand}{l l' us:List AV}(i:Nat) (hl:cX l o us=l') (hle:o+us.length≤l.length) (k:WD x ops Q late K fr true fuel (listed.setIfInBounds i true) g (ob.set key (some ⟨t',z',l'⟩))) (hT:cE x.P ttab:=by exact aA) (hr:Region.ready .any ops listed=[i]:=by kernel_rfl) (hi:ops[i]? =some ⟨none,.store t a b,ty,pos,af,gd⟩:=by rfl) (hw:bH ops x.n g gd=some true:=by rfl) (hti:bV ttab t=some ti:=by rfl)
  (hlk:lk x.n g a=.one (.pt key o):=by rfl) (ho:bZ ob key=some ⟨t',z',l⟩:=by rfl) (hb:uZ (lk x.n g b)=some us:=by rfl) (hlo:eL us=true:=by rfl) (hsz:Nat.beq us.length ti.size=true:=by rfl) (hK:K.contains key=false:=by rfl):WD x ops Q late K fr true (fuel+1) listed g ob:=by
 have hne:∀j∈K,j≠key:=fun j hj e=>by
  subst e
  have:K.contains j=true:=by simpa using hj
  rw[hK]at this
  cases this
 refine Hq i hr hi hw (zV (ty:=ty) (pos:=pos) (af:=af) (gd:=gd) hT hti hlk hb hlo hsz ho hle hl) true (fun _=>⟨rfl,fun j hj hm=>?_⟩) (fun _=>rfl) (fun _ g' ob' hR=>?_) fun g' ob' hR=>?_
 ·rw[List.mem_singleton]at hm
  exact hne j hj hm
 ·obtain⟨rfl,rfl⟩:=hR
  exact⟨fun _ _=>rfl,fun j hj=>List.getElem?_set_ne (fun e=>hne j hj e.symm)⟩
 obtain⟨rfl,rfl⟩:=hR
 exact k
end
abbrev Cr (x:Cx) (Q:Post):Post:=fun e g ob=>∃g' ob',Sub x g ob g' ob'∧Q e g' ob'
theorem WP.subQ {x:Cx}{c:Code}{g:Nat→FV}{ob:List (Option Ob)}{Q:Post}(h:WP x c g ob (Cr x Q)):WP x c g ob Q:=fun ts W hR=>wp_mono (h ts W hR) fun e a w hq=>by
 cases e with
 | panic c=>exact hq
 | _=>
  obtain⟨g,ob,ts,rfl,h1,g',ob',hs,h2⟩:=hq
  exact⟨g',ob',ts,rfl,hs _ _ h1,h2⟩
theorem xD {x:Cx}{e:Exit}{g g':Nat→FV}{ob ob':List (Option Ob)}{Q:Post}(h:Sub x g ob g' ob') (k:Cr x Q e g' ob'):Cr x Q e g ob:=by
 obtain⟨g2,ob2,h2,h3⟩:=k
 exact⟨g2,ob2,fun ts W hR=>h2 ts W (h ts W hR),h3⟩
theorem iK {x:Cx}{e:Exit}{g:Nat→FV}{ob:List (Option Ob)}{Q:Post}(h:Q e g ob):Cr x Q e g ob:=⟨g,ob,fun _ _ h=>h,h⟩
theorem Fq {T:List (Nat×TI)}{fresh:Bool}{P:Program}{f:FuncId}{fn:Func}{c:Code}{n:Nat}{rv:List ResultVar}{args:List FV}{R:List Lt→FV→Prop}(hf:P.funcs[f]? =some fn) (hb:fn.body=some c) (hn:fn.ntmps=n) (hrv:fn.results.toList=rv) (hT:cE P T) (hle:Nat.ble args.length n=true)
  (h:∀N w c0,c0.length=0→WP ⟨P,N,[],w,n,c0⟩ c (cG (lE 0 args)) [] (Cr ⟨P,N,[],w,n,c0⟩ (tE ⟨P,N,[],w,n,c0⟩ T rv fresh [] R))):aD fresh P f [] args R:=
 bP hf hb hn hrv hT hle fun N w c0 h0=>(h N w c0 h0).subQ
def Ue (fresh:Bool) (N:Nat→Prop) (M:List Nat) (w:World) (R:FV→Prop) (e:Ending) (W:World):Prop:=
 ∃v r y,e=.returned v∧R r∧Loc M w W [eY y] [(MM fresh [] [] r v y).on (fun b=>N b∨b∈M∨w.heap.size≤b)]
def tO (fresh:Bool) (P:Program) (f:FuncId) (lent:List Lt) (args:List FV) (R:FV→Prop):Prop:=
 ∀(N:Nat→Prop) (w:World) (cs:List Co) (us:List Value),Loc ((aE (bK lent) cs).flatMap Res.S) w w (aE (bK lent) cs) [(Sp lent cs args us).on N]→
  Calls P f us.toArray w (Ue fresh N ((aE (bK lent) cs).flatMap Res.S) w R)
section
variable {x:Cx}{g g':Nat→FV}{ob ob':List (Option Ob)}{cs cs':List Co}{ts ts':Array Value}{W W':World}{T:List (Nat×TI)}{Q:Post}{ops:Array Oper}{rest:List Oper}{d:Nat}{op:Op}{ty:TypeId}{pos:String}{af:Array Edge}{gd:Option (Nat×Bool)}{v:FV}
theorem Yl {fresh:Bool}{P:Program}{f:FuncId}{fn:Func}{c:Code}{lent:List Lt}{args:List FV}{R:FV→Prop}(hf:P.funcs[f]? =some fn) (hb:fn.body=some c) (T:List (Nat×TI)) (hT:cE P T) (hle:Nat.ble args.length fn.ntmps=true)
  (h:∀x:Cx,x.P=P→x.n=fn.ntmps→x.c0.length=lent.length→WP x c (cG (lE 0 args)) (bK lent) (tE x T fn.results.toList fresh [] fun _=>R)):tO fresh P f lent args R:=by
 intro N w cs us hL
 refine calls_of_wp hf hb ?_
 have hs0:=Sh.off (hL.sh 0 rfl)
 obtain⟨hobs,hfv⟩:=hs0
 have hus:=rS hfv
 have hle:args.length≤fn.ntmps:=Nat.le_of_ble_eq_true hle
 let x:Cx:=⟨P,N,(aE (bK lent) cs).flatMap Res.S,w,fn.ntmps,cs⟩
 have hNx:∀b,(lS w (aE (bK lent) cs) b∧N b)→x.fr w (bK lent) cs b:=fun b hb=>⟨hb.1,.inl hb.2⟩
 have hsz:(us.toArray++Array.replicate (fn.ntmps-us.toArray.size) undef).size=fn.ntmps:=by simp;omega
 have hR:RelC x (cG (lE 0 args)) (bK lent) cs (us.toArray++Array.replicate (fn.ntmps-us.toArray.size) undef) w:=by
  refine .of hsz hL ⟨hobs.1,fun k o hk=>⟨cJ (fun _ _=>rfl) hNx .refl _ _ (hobs.2 k o hk).1,(hobs.2 k o hk).2⟩⟩ (fun i hi=>?_) .refl
  have hi':i<(us.toArray++Array.replicate (fn.ntmps-us.toArray.size) undef).size:=by rw[hsz];exact hi
  refine⟨_,Array.getElem?_eq_getElem hi',?_⟩
  by_cases hu:i<us.length
  ·have:=yO (j:=0) (i:=i) hfv us[i] (List.getElem?_eq_getElem hu)
   rw[Nat.zero_add]at this
   have e:(us.toArray++Array.replicate (fn.ntmps-us.toArray.size) undef)[i]=us[i]:=by
    rw[Array.getElem_append_left (by simpa using hu)]
    simp
   rw[e]
   exact eG (fun _ _=>rfl) hNx .refl _ _ this
  rw[yP (by omega)]
  trivial
 have hlen:=hR.len
 rw[jA]at hlen
 have hw:=h x rfl rfl hlen.symm _ w ⟨cs,hR⟩
 refine wp_mono hw fun e a W hq=>?_
 have main:∀g ob ts,a=⟨ts,[]⟩→Dd x g ob ts W→(∃rs r ks lent',EndA x T fn.results.toList fresh [] (fun _=>R) g ob rs r ks lent')→a.defers=[]∧∃v,(results fn a.tmps).run P W=.ok v W∧Ue fresh N ((aE (bK lent) cs).flatMap Res.S) w R (.returned v) W:=by
  rintro g ob ts rfl ⟨cs2,hR2⟩ ⟨rs,r,ks,lent',hE⟩
  have hnt:∀v∈rs,∀l,v≠.tup l:=by
   rcases hE.pk with⟨v,rfl,hp⟩ | ⟨_,l,_,hp⟩
   ·intro v' hv' l
    simp at hv'
    subst hv'
    cases hp <;> simp
   exact vG hp
  obtain⟨us2,hrv,hfl⟩:=nB hT hR2 hE.res hnt
  have hrun:=xF hrv
  refine⟨rfl,_,hrun,?_⟩
  have hcoe:qP ([]:List Lt).length cs2 []:=fun k hk=>absurd hk (Nat.not_lt_zero k)
  have hN0:∀b,x.fr W ob cs2 b→x.fr W ob cs2 b:=fun _ h=>h
  obtain⟨v,ys,hv,hro,hok,hsub⟩:∃(v:Value) (ys:List VT),v=(if h:us2.toArray.size=1 then us2.toArray[0]else .tuple us2.toArray)∧RO W (x.fr W ob cs2) [] r v ys∧VT.okL W ys∧(VT.fpL ys).Sublist (ks.flatMap fun k=>(aI (bZ ob k) (co cs2 k)).S):=by
   rcases hE.pk with⟨v1,e1,hp⟩ | ⟨hne,l,rfl,hp⟩
   ·subst e1
    cases us2 with
    | nil=>simp only[dA]at hfl
    | cons u us2=>
     simp only[dA]at hfl
     obtain⟨hf1,hf2⟩:=hfl
     subst hf2
     obtain⟨ys,f2,f3,f4⟩:=hp.ok hcoe hR2 hN0 hf1
     exact⟨_,ys,rfl,by simpa using Sq f2,f3,f4⟩
   obtain⟨ys,f2,f3,f4⟩:=hp.ok hcoe hR2 hN0 hfl
   have hl:=rS hfl
   refine⟨_,ys,rfl,?_,f3,f4⟩
   rw[dif_neg (by simp;omega)]
   exact⟨us2,rfl,f2⟩
  have hks:∀k∈ks,(aE ob cs2)[k]? =some (aI (bZ ob k) (co cs2 k))∨(aI (bZ ob k) (co cs2 k)).S=[]:=fun k hk=>by
   cases hq:bZ ob k with
   | none=>exact .inr (by simp[aI])
   | some o=>exact .inl (bF hR2.len (cP hq))
  have hS2:(ks.flatMap fun k=>(aI (bZ ob k) (co cs2 k)).S)=(pick (aE ob cs2) ks).flatMap Res.S:=by
   clear hsub
   have hks':=hks
   clear hks hE
   induction ks with
   | nil=>rfl
   | cons k ks ih=>
    have ih:=ih (fun k' h=>hks' k' (List.mem_cons_of_mem _ h))
    unfold pick at ih⊢
    rw[List.flatMap_cons,ih,List.filterMap_cons]
    rcases hks' k (by simp)with h1 | h1
    ·rw[h1]
     simp
    rw[h1,List.nil_append]
    cases hq:(aE ob cs2)[k]? with
    | none=>rfl
    | some r'=>
     obtain⟨o,c,e1,e2,rfl⟩:=Mj hq
     have e3:(aI o c).S=[]:=by
      have hco2:co cs2 k=c:=by simp[co,e2]
      cases o with
      | none=>rfl
      | some o=>
       have:bZ ob k=some o:=by simp[bZ,e1]
       rw[this,hco2]at h1
       exact h1
     simp[e3]
  have hLp:=hR2.2.pick ks hE.nd
  have hsubS:(([eY ys]).flatMap Res.S).Sublist ((pick (aE ob cs2) ks).flatMap Res.S):=by
   rw[←hS2]
   simpa[eY]using hsub
  have hsubO:∀b,b∈([eY ys]).flatMap Res.S→b∈(aE ob cs2).flatMap Res.S:=fun b hb=>by
   have:=hsubS.subset hb
   obtain⟨r',hr',hb'⟩:=List.mem_flatMap.1 this
   obtain⟨i,_,hi⟩:=List.mem_filterMap.1 hr'
   exact List.mem_flatMap.2 ⟨r',List.mem_of_getElem? hi,hb'⟩
  have hfr:∀b,x.fr W ob cs2 b→lS W [eY ys] b∧(N b∨b∈(aE (bK lent) cs).flatMap Res.S∨w.heap.size≤b):=fun b hb=>⟨⟨hb.1.1,fun hm=>hb.1.2 (hsubO b hm)⟩,hb.2⟩
  refine⟨_,r,ys,by rw[←hv],hE.post,?_⟩
  refine⟨hR2.2.chg,fun q hq=>?_,fun b hb=>hLp.blk b (hsubS.subset hb),hLp.nd.sublist hsubS,fun q hq=>?_⟩
  ·simp at hq
   subst hq
   exact hok
  rw[List.mem_singleton]at hq
  subst hq
  show zB W _ [] (bK [])∧RO W _ [] r _ ys
  refine⟨⟨rfl,fun k o hk=>by simp[bK]at hk⟩,?_⟩
  cases hfresh:fresh with
  | false=>exact oO (fun _ _=>rfl) (fun b hb=>⟨rfl,hfr b hb⟩) .refl hro
  | true=>exact Hz (hE.clean hfresh).1 hro
 cases e with
 | normal=>
  obtain⟨g,ob,ts,rfl,h1,h2⟩:=hq
  exact main g ob ts rfl h1 h2
 | ret=>
  obtain⟨g,ob,ts,rfl,h1,h2⟩:=hq
  exact main g ob ts rfl h1 h2
 | panic c=>exact hq.elim
 | exit id=>
  obtain⟨_,_,_,_,_,h2⟩:=hq
  exact h2.elim
 | goto l=>
  obtain⟨_,_,_,_,_,h2⟩:=hq
  exact h2.elim
 | outgrown=>
  obtain⟨_,_,_,_,_,h2⟩:=hq
  exact h2.elim
theorem Qe {fresh:Bool}{f:FuncId}{args:List FV}{R:FV→Prop}{lent:List Lt}{K:List Nat}{os:List Operand}{fst caps:List Tr}{fus cus:List Value}(hS:tO fresh x.P f lent (dI fst++args++dI caps) R) (hK:fW ob K K lent) (hnd:K.Nodup) (ha:pI x.n g K os args) (hfst:FRL W (x.fr W ob cs) fst fus) (hcap:FRL W (x.fr W ob cs) caps cus) (hR:RelC x g ob cs ts W):
  Calls x.P f (fus++os.map (Act.eval ⟨ts,[]⟩)++cus).toArray W (fun e W'=>∃v r ys N2,e=.returned v∧R r∧RO W' N2 [] r v ys∧VT.okL W' ys∧(VT.fpL ys).Nodup∧
   ∀(oz:List Ob) (csn:List Co),csn.length=oz.length→(∀b,((aE (oz.map some) csn).flatMap Res.S).count b≤(VT.fpL ys).count b)→(∀r∈aE (oz.map some) csn,r.φ W')→
    (∀b,N2 b→x.fr W' (bU ob K (cI K)++oz.map some) (cs++csn) b)∧
    ((∀i o,oz[i]? =some o→bN W' (x.fr W' (bU ob K (cI K)++oz.map some) (cs++csn)) (cs++csn) o.l (co csn i).l∧((co csn i).b=none→o.l=[]∧o.z≠0))→
     RelC x g (bU ob K (cI K)++oz.map some) (cs++csn) ts W'∧∀d,Aft K d ob cs ts W (bU ob K (cI K)++oz.map some) (cs++csn) ts W')):=by
 have hlen:=hR.len
 have hll:=tI hK
 have hKl:∀k∈K,k<ob.length:=fun k hk=>by
  obtain⟨i,hi⟩:=List.mem_iff_getElem?.1 hk
  obtain⟨a,l',_,_,h2⟩:=jB hK hi
  exact(List.getElem?_eq_some_iff.1 h2).1
 have hlobs:(bK lent).length=K.length:=by rw[jA,hll]
 have hput0:aE (bU ob K (bK lent)) cs=aE ob cs:=by
  have hl0:(bU ob K (bK lent)).length=cs.length:=by rw[fD];exact hlen
  apply List.ext_getElem?
  intro j
  by_cases hjl:j<ob.length
  ·by_cases hj:j∈K
   ·obtain⟨i,hi⟩:=List.mem_iff_getElem?.1 hj
    obtain⟨a,l',h1,_,h2⟩:=jB hK hi
    have h3:=jZ hnd hlobs hi hjl
    rw[fO,h1]at h3
    rw[bF hl0 h3,bF hlen h2]
    exact congrArg some (jC _ _)
   have h3:=gD (l:=bK lent) (ob:=ob) hj
   rw[List.getElem?_eq_getElem hjl]at h3
   rw[bF hl0 h3,bF hlen (List.getElem?_eq_getElem hjl)]
  rw[List.getElem?_eq_none (by rw[eH hl0];omega),List.getElem?_eq_none (by rw[eH hlen];omega)]
 have hputc:dE cs K (K.map (co cs))=cs:=by
  have key:∀(K:List Nat),(∀k∈K,k<cs.length)→dE cs K (K.map (co cs))=cs:=by
   intro K
   induction K with
   | nil=>intro _;rfl
   | cons k K ih=>
    intro h
    simp only[List.map_cons,dE]
    rw[oN (h k (by simp))]
    exact ih fun j hj=>h j (List.mem_cons_of_mem _ hj)
  exact key K fun k hk=>by rw[←hlen];exact hKl k hk
 have hcnt0:=fun b=>wW b (l:=bK lent) (lc:=K.map (co cs)) (cs:=cs) hnd hlobs (by simp) hlen hKl
 unfold cL at hcnt0
 rw[hputc,hput0]at hcnt0
 have hfr0:∀b,x.fr W ob cs b→lS W (aE (bK lent) (K.map (co cs))) b:=fun b hb=>And.intro hb.1.1 fun hm=>hb.1.2 (by
  have h1:=List.count_pos_iff.2 hm
  have h2:=hcnt0 b
  exact List.count_pos_iff.1 (show 0<((aE ob cs).flatMap Res.S).count b by omega))
 have hgetL:∀i k,K[i]? =some k→∃(a:Lt) (l':List AV),lent[i]? =some a∧renL K a.l=some l'∧ob[k]? =some (some (⟨a.t,a.z,l'⟩:Ob)):=fun i k hi=>jB hK hi
 have hφ0:∀r∈aE (bK lent) (K.map (co cs)),r.φ W:=fun r hr=>by
  obtain⟨i,hi⟩:=List.mem_iff_getElem?.1 hr
  have hil:=(List.getElem?_eq_some_iff.1 hi).1
  have hil2:i<K.length:=by
   rw[eH (by simp[hlobs])]at hil
   simpa using hil
  obtain⟨a,l',h1,_,h2⟩:=hgetL i K[i] (List.getElem?_eq_getElem hil2)
  have e1:(bK lent)[i]? =some (some a.ob):=by rw[fO,h1];rfl
  rw[bF (by simp[hlobs]) e1,jN (List.getElem?_eq_getElem hil2)]at hi
  injection hi with hi
  subst hi
  rw[show aI (some a.ob) (co cs K[i])=aI (some ⟨a.t,a.z,l'⟩) (co cs K[i]) from jC _ _]
  exact hR.res h2
 have h1:Loc x.M x.w W (aE (bK lent) (K.map (co cs))++aE (bU ob K (cI K)) cs) []:=(hR.2.pickS []).cut (fun b=>by
  rw[List.flatMap_append,List.count_append]
  have:=hcnt0 b
  omega) (fun r hr=>by
  rcases List.mem_append.1 hr with hr | hr
  ·exact hφ0 r hr
  rcases kU hnd hlen hKl hr with hr | hr
  ·exact hR.2.res r hr
  exact hr.2 W)
 have h2:Loc ((aE (bK lent) (K.map (co cs))).flatMap Res.S) W W (aE (bK lent) (K.map (co cs))) [(Sp lent (K.map (co cs)) (dI fst++args++dI caps) (fus++os.map (Act.eval ⟨ts,[]⟩)++cus)).on (x.fr W ob cs)]:=by
  refine h1.focus.read _ ⟨⟨by simp[hlobs],fun k o hk=>?_⟩,rV (rV (pJ (fun b hb=>⟨hfr0 b hb,hb⟩) hfst) (Ik hR (fun b hb=>⟨hfr0 b hb,hb⟩) ha)) (pJ (fun b hb=>⟨hfr0 b hb,hb⟩) hcap)⟩
  rw[fO]at hk
  cases hq:lent[k]? with
  | none=>rw[hq]at hk;cases hk
  | some a=>
   rw[hq]at hk
   simp at hk
   subst hk
   have hkK:k<K.length:=by rw[←hll];exact(List.getElem?_eq_some_iff.1 hq).1
   obtain⟨a',l',q1,q0,q2⟩:=hgetL k K[k] (List.getElem?_eq_getElem hkK)
   rw[hq]at q1
   injection q1 with q1
   subst q1
   have q3:=hR.obs.2 _ _ q2
   rw[jN (List.getElem?_eq_getElem hkK)]
   exact⟨wQ (fun b hb=>⟨hfr0 b hb,hb⟩) q0 q3.1,fun h=>⟨(yU q0).2 (q3.2 h).1,(q3.2 h).2⟩⟩
 refine(hS _ W _ _ h2).mono fun e W' hE=>?_
 obtain⟨v,r,ys,rfl,hr,h3⟩:=hE
 have h4:=Loc.turn h1 h3
 have hsh:=Sh.off (h3.sh 0 rfl)
 refine⟨v,r,ys,_,rfl,hr,hsh.2,h3.res (eY ys) (by simp),?_,fun oz csn hlz hcz hφz=>?_⟩
 ·have:=h3.nd
  simpa[eY]using this
 have hlen2:(bU ob K (cI K)).length=cs.length:=by rw[fD];exact hlen
 have hrs:aE (bU ob K (cI K)++oz.map some) (cs++csn)=aE (bU ob K (cI K)) cs++aE (oz.map some) csn:=by
  unfold aE
  rw[List.zipWith_append hlen2]
 have hcnt2:∀b,(cL (bU ob K (cI K)++oz.map some) (cs++csn)).count b≤(([eY ys]++aE (bU ob K (cI K)) cs).flatMap Res.S).count b:=fun b=>by
  have q2:=hcz b
  unfold cL
  rw[hrs,List.flatMap_append,List.count_append,List.flatMap_append,List.count_append,List.flatMap_cons,List.flatMap_nil,List.append_nil]
  have q3:(eY ys).S=VT.fpL ys:=rfl
  rw[q3]
  omega
 have hin2:∀b,b∈cL (bU ob K (cI K)++oz.map some) (cs++csn)→b∈([eY ys]++aE (bU ob K (cI K)) cs).flatMap Res.S:=fun b hb=>List.count_pos_iff.1 (Nat.lt_of_lt_of_le (List.count_pos_iff.2 hb) (hcnt2 b))
 have hrest:∀b,b∈(aE (bU ob K (cI K)) cs).flatMap Res.S→b∈cL ob cs:=fun b hb=>by
  obtain⟨r,hr,hb⟩:=List.mem_flatMap.1 hb
  rcases kU hnd hlen hKl hr with hr | hr
  ·exact List.mem_flatMap.2 ⟨r,hr,hb⟩
  rw[hr.1]at hb
  cases hb
 have hlentS:∀b,b∈(aE (bK lent) (K.map (co cs))).flatMap Res.S→b∈cL ob cs:=fun b hb=>by
  have q1:=List.count_pos_iff.2 hb
  have q2:=hcnt0 b
  exact List.count_pos_iff.1 (show 0<((aE ob cs).flatMap Res.S).count b by omega)
 have hfree:∀b,lS W' [eY ys] b→(x.fr W ob cs b∨b∈(aE (bK lent) (K.map (co cs))).flatMap Res.S∨W.heap.size≤b)→x.fr W' (bU ob K (cI K)++oz.map some) (cs++csn) b:=fun b hb hb'=>by
  refine⟨⟨hb.1,fun hm=>?_⟩,?_⟩
  ·have hm:=hin2 b hm
   rw[List.flatMap_append,List.mem_append]at hm
   rcases hm with hm | hm
   ·exact hb.2 hm
   have hm2:=hrest b hm
   rcases hb' with hb' | hb' | hb'
   ·exact hb'.1.2 hm2
   ·have q1:=hcnt0 b
    have q2:=List.nodup_iff_count.1 hR.2.nd b
    have q3:=List.count_pos_iff.2 hb'
    have q4:=List.count_pos_iff.2 hm
    unfold cL at q1
    omega
   have:=(hR.2.blk b hm2).2
   omega
  rcases hb' with hb' | hb' | hb'
  ·exact hb'.2
  ·exact .inr (hR.2.blk b (hlentS b hb')).1
  exact .inr (.inr (Nat.le_trans hR.2.chg.size hb'))
 have hsize:W.heap.size≤W'.heap.size:=h3.chg.size
 have hfr:∀b,x.fr W ob cs b→x.fr W' (bU ob K (cI K)++oz.map some) (cs++csn) b:=fun b hb=>by
  refine hfree b ⟨Nat.lt_of_lt_of_le hb.1.1 hsize,fun hm=>?_⟩ (.inl hb)
  have q1:=h3.blk b hm
  rcases q1.1 with q1 | q1
  ·exact hb.1.2 (hlentS b q1)
  have:=hb.1.1
  omega
 have hkeep:∀b,x.fr W ob cs b→W'.heap[b]? =W.heap[b]? :=fun b hb=>h3.chg.block b hb.1.1 (fun hm=>hb.1.2 (hlentS b hm))
 refine⟨fun b hb=>hfree b hb.2.1 hb.2.2,fun hoz=>?_⟩
 have happ:∀{k},k<cs.length→co (cs++csn) k=co cs k:=fun hk=>by simp[co,List.getElem?_append_left hk]
 have hsame3:Same cs (cs++csn):=⟨by simp,fun k hk=>by rw[happ hk];exact⟨rfl,rfl⟩⟩
 have hnone:∀{k:Nat},k∈K→k<ob.length→(bU ob K (cI K))[k]? =some none:=fun{k} hk hl=>by
  obtain⟨i,hi⟩:=List.mem_iff_getElem?.1 hk
  rw[jZ hnd (by simp[cI]) hi hl]
  simp[cI,hi]
 have hLf:Loc x.M x.w W' (aE (bU ob K (cI K)++oz.map some) (cs++csn)) []:=h4.cut hcnt2 (fun r hr=>by
  rw[hrs]at hr
  rcases List.mem_append.1 hr with hr | hr
  ·exact h4.res _ (List.mem_append_right _ hr)
  exact hφz r hr)
 refine⟨.of hR.1 hLf ⟨by rw[List.length_append,List.length_append,hlen2,List.length_map,hlz],fun k o hk=>?_⟩ (fun i hi=>?_) (hR.3.trans hsame3),fun d=>⟨hsame3,fun k hk hkc=>?_,hsize,fun b hlt hb=>?_,fun b hb=>?_,fun _ _=>rfl⟩⟩
 ·rcases Nat.lt_or_ge k (bU ob K (cI K)).length with hlt | hge
  ·rw[List.getElem?_append_left hlt]at hk
   rw[happ (by rw[←hlen2];exact hlt)]
   rw[fD]at hlt
   by_cases hkK:k∈K
   ·rw[hnone hkK hlt]at hk
    injection hk with hk
    cases hk
   rw[gD hkK]at hk
   have q1:=hR.obs.2 k o hk
   exact⟨cJ hkeep hfr hsame3 _ _ q1.1,q1.2⟩
  rw[List.getElem?_append_right hge]at hk
  have ho:oz[k-(bU ob K (cI K)).length]? =some o:=by
   rw[List.getElem?_map]at hk
   cases hq:oz[k-(bU ob K (cI K)).length]? with
   | none=>rw[hq]at hk;cases hk
   | some o'=>
    rw[hq]at hk
    simp at hk
    rw[hk]
  have q1:=hoz _ o ho
  have e:co (cs++csn) k=co csn (k-(bU ob K (cI K)).length):=by
   unfold co
   rw[List.getElem?_append_right (by rw[←hlen2];exact hge),hlen2]
  rw[e]
  exact q1
 ·obtain⟨u,q1,q2⟩:=hR.fv hi
  exact⟨u,q1,eG hkeep hfr hsame3 _ _ q2⟩
 ·rw[happ hkc]
 ·refine h3.chg.block b hlt fun hm=>?_
  obtain⟨r,hr,hbr⟩:=List.mem_flatMap.1 hm
  obtain⟨i,hi⟩:=List.mem_iff_getElem?.1 hr
  have hil:=(List.getElem?_eq_some_iff.1 hi).1
  have hil2:i<K.length:=by
   rw[eH (by simp[hlobs])]at hil
   simpa using hil
  obtain⟨a,l',q1,_,q2⟩:=hgetL i K[i] (List.getElem?_eq_getElem hil2)
  have e1:(bK lent)[i]? =some (some a.ob):=by rw[fO,q1];rfl
  rw[bF (by simp[hlobs]) e1,jN (List.getElem?_eq_getElem hil2)]at hi
  injection hi with hi
  subst hi
  rw[show aI (some a.ob) (co cs K[i])=aI (some ⟨a.t,a.z,l'⟩) (co cs K[i]) from jC _ _]at hbr
  exact hb K[i] (List.getElem_mem hil2) _ q2 hbr
 have q1:=hin2 b hb
 rw[List.flatMap_append,List.mem_append]at q1
 rcases q1 with q1 | q1
 ·rcases(h3.blk b (by simpa using q1)).1 with q2 | q2
  ·exact .inl (hlentS b q2)
  exact .inr q2
 exact .inl (hrest b q1)
theorem Jg {fresh:Bool}{f:FuncId}{args:List FV}{R:FV→Prop}{lent:List Lt}{K:List Nat}{aa:Array Operand}{ats:Array TypeId}{cf:Operand}{fst caps:List Tr}{key:Nat}(hS:tO fresh x.P f lent (dI fst++args++dI caps) R) (hf:CallOk x.P f) (hc:AG x g cf f fst caps) (hK:fW ob K K lent) (hnd:K.Nodup) (ha:pI x.n g K aa.toList args) (hk:dU ob key=true) (hb:∀r,R r→(lO key r).isSome=true):
  OS x ⟨some d,.call ⟨.value cf,aa,ats⟩,ty,pos,af,gd⟩ g ob K (fun g' ob'=>∃r v os,R r∧lO key r=some (v,os)∧g'=bG g d v∧ob'=bU ob K (cI K)++os.map some):=by
 intro cs ts W hR K' Q kk
 obtain⟨us0,us,e0,hfst,hcap⟩:=hc ob cs ts W hR
 unfold Oper.wp
 rw[Dw hf e0]
 refine(Qe hS hK hnd ha hfst hcap hR).mono fun e W' hE=>?_
 obtain⟨v,r,ys,N2,rfl,hr,hro,hok,hndy,fin⟩:=hE
 have hb1:=hb r hr
 obtain⟨⟨v',os⟩,hbn⟩:=Option.isSome_iff_exists.1 hb1
 obtain⟨csn,e1,e2,e3,e4⟩:=Ig (AJ hbn hro) hok hbn
 obtain⟨hN,hfin⟩:=fin os csn e1 (fun b=>by rw[e2];exact Nat.le_refl _) e3
 have hk:=Nat.eq_of_beq_eq_true hk
 have hpl:cs.length=key:=by rw[←hR.len,hk]
 obtain⟨g1,g2⟩:=e4 _ (cs++csn) hN (by simp[hpl,e1]) (fun i _=>by
  unfold co
  rw[List.getElem?_append_right (by omega),hpl,show key+i-key=i by omega])
 obtain⟨m1,m2⟩:=hfin g2
 exact kk _ _ _ _ _ ⟨r,v',os,hr,hbn,rfl,rfl⟩ (m1.put d g1) ((m2 (some d)).then_put v)
theorem cm {fresh:Bool}{f:FuncId}{lent:List Lt}{args:List FV}{r:FV}{os:List Ob}{aa:Array Operand}{ats:Array TypeId}(key:Nat) (K:List Nat) (hS:tO fresh x.P f lent args (· =r)) (hf:CallOk x.P f) (hK:fW ob K K lent) (ha:pI x.n g K aa.toList args) (k:WL x ops rest (bG g d v) (bU ob K (cI K)++os.map some) Q) (hw:bH ops x.n g gd=some true:=by rfl) (hk:dU ob key=true:=by rfl) (hnd:K.Nodup:=by decide) (hb:lO key r=some (v,os):=by rfl):
  WL x ops (⟨some d,.call ⟨.value (.func f),aa,ats⟩,ty,pos,af,gd⟩::rest) g ob Q:=by
 have e:dI []++args++dI []=args:=by simp[dI]
 refine gX (Jg (by rw[e];exact hS) hf (Pp f) hK hnd ha hk (by rintro _ rfl;rw[hb];rfl)) hw ?_
 rintro _ _ ⟨r',v',os',rfl,h,rfl,rfl⟩
 rw[hb]at h
 injection h with h
 injection h with h1 h2
 subst h1 h2
 exact k
theorem Am {late:Nat→Bool}{K fr:List Nat}{fuel:Nat}{listed:Array Bool}{fresh:Bool}{f:FuncId}{lent:List Lt}{args:List FV}{r:FV}{os:List Ob}{aa:Array Operand}{ats:Array TypeId}(i key:Nat) (Kl:List Nat) (hi:ops[i]? =some ⟨some d,.call ⟨.value (.func f),aa,ats⟩,ty,pos,af,gd⟩) (hS:tO fresh x.P f lent args (· =r)) (hf:CallOk x.P f) (hK:fW ob Kl Kl lent) (ha:pI x.n g Kl aa.toList args) (hke:oD ob (bU ob Kl (cI Kl)++os.map some) K) (k:WD x ops Q late K (d::fr) true fuel (listed.setIfInBounds i true) (bG g d v) (bU ob Kl (cI Kl)++os.map some)) (hr:Region.ready .any ops listed=[i]:=by kernel_rfl) (hw:bH ops x.n g gd=some true:=by rfl) (hk:dU ob key=true:=by rfl) (hnd:Kl.Nodup:=by decide) (hdis:∀k∈K,k∉Kl:=by decide) (hb:lO key r=some (v,os):=by rfl):
  WD x ops Q late K fr true (fuel+1) listed g ob:=by
 have e:dI []++args++dI []=args:=by simp[dI]
 refine AK i hr hi rfl hw (Jg (by rw[e];exact hS) hf (Pp f) hK hnd ha hk (by rintro _ rfl;rw[hb];rfl)) hdis ?_ ?_
 ·rintro _ _ ⟨r',v',os',rfl,h,rfl,rfl⟩
  rw[hb]at h
  injection h with h
  injection h with h1 h2
  subst h1 h2
  exact⟨⟨_,rfl⟩,iP hke⟩
 rintro _ _ ⟨r',v',os',rfl,h,rfl,rfl⟩
 rw[hb]at h
 injection h with h
 injection h with h1 h2
 subst h1 h2
 exact k
theorem PQ {fresh:Bool}{P:Program}{f:FuncId}{fn:Func}{c:Code}{n:Nat}{rv:List ResultVar}{lent:List Lt}{args:List FV}{R:FV→Prop}(hf:P.funcs[f]? =some fn) (hb:fn.body=some c) (hn:fn.ntmps=n) (hrv:fn.results.toList=rv) (hT:cE P T) (hle:Nat.ble args.length n=true)
  (h:∀N M w c0,c0.length=lent.length→WP ⟨P,N,M,w,n,c0⟩ c (cG (lE 0 args)) (bK lent) (Cr ⟨P,N,M,w,n,c0⟩ (tE ⟨P,N,M,w,n,c0⟩ T rv fresh [] fun _=>R))):tO fresh P f lent args R:=by
 subst hn hrv
 refine Yl hf hb T hT hle ?_
 rintro⟨P',N,M,w,n,c0⟩ rfl rfl h0
 exact(h N M w c0 h0).subQ
end
def Zg (a:Zi) (k:Int):Prop:=Lim 4294967296 a.x∧a.x.length≤300000000000∧dF a.s a.x=k
theorem Zn.g {a:Zi}{k:Int}(h:Zn a k):Zg a k:=⟨h.1,Nat.le_trans h.2.1 (by omega),h.2.2⟩
theorem Zg.of {k:Int}(h:(dg 4294967296 k.natAbs).length≤300000000000):Zg (.of k) k:=⟨aL (by omega) _,h,sA k⟩
theorem Zg.len {a:Zi}{k:Int}(h:Zg a k):(dg 4294967296 k.natAbs).length≤300000000000:=by
 obtain⟨h1,h2,rfl⟩:=h
 exact Nat.le_trans (oL h1) h2
theorem Zg.wrong {a:Zi}{k:Int}(h:Zg a k) (hr:cQ a.s a.x=false):k=0:=by
 obtain⟨h1,h2,rfl⟩:=h
 exact Aj hr
theorem Uf {a:Zi}{k:Int}(h:Zg a k) (hr:cQ a.s a.x=true):gF a=kF k:=by
 obtain⟨h1,h2,rfl⟩:=h
 unfold gF kF
 rw[wY h1 hr,oS h1 hr]
theorem rM {a:Zi}{k:Int}(ha:Zg a k):aD true Tryz.prog 22 [] [gF a] (aO (.one (tv (.bool (cQ a.s a.x))))):=by
 refine bP Tryz.func22 rfl Tryz.ntmps22 rfl aA rfl fun N w c0 h0=>?_
 have hal:=ha.2.1
 refine sq ?_;refine rl ?_;refine bx 0 ?_;refine o1 ?_;refine nl ?_;refine sq ?_;refine rl ?_;refine o1 ?_;refine ld ?_;refine o1 ?_;refine o1 ?_;refine nl ?_;refine sq ?_;refine rl ?_
 (iterate 3 refine o1 ?_);refine WL.split (t:=9) rfl (fun h1=>?_) (fun h1=>?_)
 ·refine o1 ?_;refine ld ?_;refine WL.splitb (t:=11) rfl (fun h2=>?_) (fun h2=>?_)
  ·(iterate 6 refine o1 ?_);refine WL.split (t:=17) rfl (fun h3=>?_) (fun h3=>?_)
   ·refine o1 ?_;refine ld ?_;refine o1 ?_;refine o1 ?_;refine WL.cast (t:=21) (u':=.int .i64 ((a.x.length-1:Nat):Int)) rfl (aJ (by omega)) ?_
    refine o1 ?_;refine fB ([.v (.int .u32 ((nth a.x (a.x.length-1):Nat):Int))]) (kQ a.x (k:=a.x.length-1) (by omega)) ?_
    (iterate 4 refine o1 ?_);refine nl ?_;refine rt ?_;refine en (.inl rfl) rfl (aW (cF _)) (by decide) (fun _=>trivial) (congrArg (fun b=>FV.one (tv (.bool b))) ?_)
    rw[mG (by omega)];simp_all
   (iterate 7 refine eC ?_);(iterate 3 refine o1 ?_);refine nl ?_;refine rt ?_
   refine en (.inl rfl) rfl (aW (cF _)) (by decide) (fun _=>trivial) (congrArg (fun b=>FV.one (tv (.bool b))) ?_)
   rw[mG (by omega)];simp_all
  (iterate 3 refine o1 ?_);(iterate 11 refine eC ?_);refine o1 ?_;refine o1 ?_;refine nl ?_;refine rt ?_
  refine en (.inl rfl) rfl (aW (cF _)) (by decide) (fun _=>trivial) (congrArg (fun b=>FV.one (tv (.bool b))) ?_)
  rw[mG (by omega)];simp_all
 (iterate 3 refine eC ?_);(iterate 5 refine o1 ?_);refine WL.split (t:=17) rfl (fun h4=>?_) (fun h4=>?_)
 ·refine o1 ?_;refine ld ?_;refine o1 ?_;refine o1 ?_;refine WL.cast (t:=21) (u':=.int .i64 ((a.x.length-1:Nat):Int)) rfl (aJ (by omega)) ?_
  refine o1 ?_;refine fB ([.v (.int .u32 ((nth a.x (a.x.length-1):Nat):Int))]) (kQ a.x (k:=a.x.length-1) (by omega)) ?_
  (iterate 4 refine o1 ?_);refine nl ?_;refine rt ?_;refine en (.inl rfl) rfl (aW (cF _)) (by decide) (fun _=>trivial) (congrArg (fun b=>FV.one (tv (.bool b))) ?_)
  first | exact(tL rfl (by omega)).symm | (unfold cQ;simp_all;try omega)
 (iterate 7 refine eC ?_);(iterate 3 refine o1 ?_);refine nl ?_;refine rt ?_
 refine en (.inl rfl) rfl (aW (cF _)) (by decide) (fun _=>trivial) (congrArg (fun b=>FV.one (tv (.bool b))) ?_)
 first | exact(tL rfl (by omega)).symm | (unfold cQ;simp_all;try omega)
theorem dJ {a:Zi}{k:Int}(ha:Zg a k):aD false Tryz.prog 73 [] [gF a] (aO (kF k)):=by
 refine bP Tryz.func73 rfl Tryz.ntmps73 rfl aA rfl fun N w c0 h0=>?_
 refine sq ?_;refine rl ?_;refine bx 0 ?_;refine al 1 ?_;refine nl ?_;refine sq ?_;refine sq ?_;refine rl ?_;refine ld ?_
 refine ca (rM ha) Hd ⟨aB rfl,rfl⟩ (.one (tv (.bool (cQ a.s a.x)))) ?_;refine WL.splitb (t:=4) rfl (fun h1=>?_) (fun h1=>?_)
 ·refine o1 ?_;refine nl ?_;refine eZ rfl ?_;refine sk ?_;refine sq ?_;refine rl ?_;refine ld ?_;refine o1 ?_;refine st ?_;refine nl ?_;refine rt ?_
  exact en (.inl rfl) rfl (aW (.agg (.read _ (l:=[.v (.bool a.s),sU false a.x]) rfl))) (by decide) (fun h=>by cases h) (Uf ha h1)
 refine o1 ?_;refine nl ?_;refine kM rfl ?_;refine sq ?_;refine rl ?_;refine o1 ?_;refine st ?_;refine nl ?_;refine rt ?_
 exact en (.inl rfl) rfl (aW (.agg (.cons (.id rfl) (.cons .nilf .nil)))) (by decide) (fun h=>by cases h) (by rw[ha.wrong h1];exact wH)
theorem Ug {b:Bool}{m:Nat}{K:Int}(hK:bS b m=K):aD false Tryz.prog 77 [] [.one (tv (.bool b)),.one (.t (sU false (dg 4294967296 m)))] (aO (kF K)):=by
 refine bP Tryz.func77 rfl Tryz.ntmps77 rfl aA rfl fun N w c0 h0=>?_
 refine sq ?_;refine rl ?_;refine al 0 ?_;refine nl ?_;refine sq ?_;refine rl ?_;refine o1 ?_;refine o1 ?_;refine WL.splitb (t:=6) rfl (fun h1=>?_) (fun h1=>?_)
 ·(iterate 6 refine o1 ?_);refine st ?_;refine nl ?_;refine rt ?_
  exact en (.inl rfl) rfl (aW (.agg (.cons (.id rfl) (.cons (.id rfl) .nil)))) (by decide) (fun h=>by cases h) (hK▸congrArg xG (tM (by rw[rZ,h1,Bool.true_and,←lQ (m:=m) rfl];exact decide_eq_decide.2 (by omega)) (iO _ _).symm))
 (iterate 3 refine eC ?_);(iterate 3 refine o1 ?_);refine st ?_;refine nl ?_;refine rt ?_
 exact en (.inl rfl) rfl (aW (.agg (.cons (.id rfl) (.cons (.id rfl) .nil)))) (by decide) (fun h=>by cases h) (hK▸congrArg xG (tM (by rw[rZ,h1];rfl) (iO _ _).symm))
theorem gV {b:Bool}{m:Nat}{K:Int}(hK:bS b m=K):tO false Tryz.prog 77 [⟨51,1,(aP (dg 4294967296 m)).map .t⟩] [.one (tv (.bool b)),.one (.sl 0 0 (dg 4294967296 m).length)] (· =kO K):=by
 refine PQ Tryz.func77 rfl Tryz.ntmps77 rfl aA rfl fun N M w c0 h0=>?_
 refine sq ?_;refine rl ?_;refine al 1 ?_;refine nl ?_;refine sq ?_;refine rl ?_;refine o1 ?_;refine o1 ?_;refine WL.splitb (t:=6) rfl (fun h1=>?_) (fun h1=>?_)
 ·(iterate 6 refine o1 ?_);refine st ?_;refine nl ?_;refine rt ?_
  exact iK (en (.inl rfl) rfl (aW (.agg (.cons (.id rfl) (.cons (.sl (trs:=aP (dg 4294967296 m)) rfl rfl (bE _) (bB _)) .nil)))) (by decide) (fun h=>by cases h) (hK▸tM (by rw[rZ,h1,Bool.true_and,←lQ (m:=m) rfl];exact decide_eq_decide.2 (by omega)) (iO _ _).symm))
 (iterate 3 refine eC ?_);(iterate 3 refine o1 ?_);refine st ?_;refine nl ?_;refine rt ?_
 exact iK (en (.inl rfl) rfl (aW (.agg (.cons (.id rfl) (.cons (.sl (trs:=aP (dg 4294967296 m)) rfl rfl (bE _) (bB _)) .nil)))) (by decide) (fun h=>by cases h) (hK▸tM (by rw[rZ,h1];rfl) (iO _ _).symm))
theorem Jh {k:Int}:aD false Tryz.prog 92 [] [kF k] (aO (kF (-k))):=by
 refine bP Tryz.func92 rfl Tryz.ntmps92 rfl aA rfl fun N w c0 h0=>?_
 refine sq ?_;refine rl ?_;refine bx 0 ?_;refine al 1 ?_;refine nl ?_;refine sq ?_;refine rl ?_;refine o1 ?_;refine o1 ?_;refine ld ?_;(iterate 3 refine o1 ?_);refine ld ?_
 refine ca (Ug (m:=k.natAbs) (K:=-k) (Ng k)) nU ⟨a1 rfl,a1 rfl,rfl⟩ (kF (-k)) ?_;refine o1 ?_;refine st ?_;refine nl ?_;refine rt ?_
 exact en (.inl rfl) rfl (aW (.agg (.cons (.id rfl) (.cons (.id rfl) .nil)))) (by decide) (fun h=>by cases h) rfl
theorem On {a:Zi}{k:Int}(ha:Zg a k):aD true Tryz.prog 52 [] [gF a] (aO (kO (-(k)))):=by
 refine bP Tryz.func52 rfl Tryz.ntmps52 rfl aA rfl fun N w c0 h0=>?_
 have hkl:=ha.len
 refine sq ?_;refine rl ?_;refine bx 0 ?_;refine al 1 ?_;refine nl ?_;refine sq ?_;refine rl ?_;refine ld ?_;refine ca (dJ ha) dK ⟨aB rfl,rfl⟩ (kF (k)) ?_
 refine ca (Jh (k:=k)) IG ⟨aB rfl,rfl⟩ (kF (-(k))) ?_;refine al 2 ?_;refine st ?_;refine nl ?_;refine sq ?_;refine rd [0,1,2] (fun i=>[8].contains i) mixed ?_
 refine dv 0 ?_;refine dv 1 ?_;refine aX 2 ?_;refine dv 3 ?_;refine dv 4 ?_;refine aX 5 ?_
 refine jJ 3 6 rfl (Nm (aL (by omega) _) (by have:=jL k;omega)) IH ⟨a1 rfl,rfl⟩ ?_
 refine df 7 ?_;refine dst 8 ?_;refine aR ?_;refine rt ?_
 exact en (.inl rfl) rfl (aW (.agg (.cons (.id rfl) (.cons (.sl (trs:=aP (dg 4294967296 (-(k)).natAbs)) rfl rfl (bE _) (bB _)) .nil)))) (by decide) (fun _=>dW (-(k))) rfl
theorem ME {a:Zi}{k:Int}(ha:Zg a k):aD true Tryz.prog 122 [] [gF a] (aO (kO (((k.natAbs:Nat):Int)))):=by
 refine bP Tryz.func122 rfl Tryz.ntmps122 rfl aA rfl fun N w c0 h0=>?_
 have hkl:=ha.len
 refine sq ?_;refine rl ?_;refine bx 0 ?_;refine al 1 ?_;refine nl ?_;refine sq ?_;refine rl ?_;refine ld ?_;refine ca (dJ ha) dK ⟨aB rfl,rfl⟩ (kF (k)) ?_;refine o1 ?_;refine o1 ?_
 refine fS 2 (Nm (aL (by omega) _) (by have:=jL k;omega)) IH ⟨a1 rfl,rfl⟩ ?_
 refine o1 ?_;refine st ?_;refine nl ?_;refine rt ?_
 exact en (.inl rfl) rfl (aW (.agg (.cons (.id rfl) (.cons (.sl (trs:=aP (dg 4294967296 k.natAbs)) rfl rfl (bE _) (bB _)) .nil)))) (by decide) (fun _=>Cq _ _) (tM (by unfold aG;simp) (by omega))
theorem Uh {k k':Int}(hk:(dg 4294967296 k.natAbs).length≤500000000000) (hk':(dg 4294967296 k'.natAbs).length≤500000000000):aD true Tryz.prog 108 [] [kF k,kF k'] (aO (kO (k+k'))):=by
 refine bP Tryz.func108 rfl Tryz.ntmps108 rfl aA rfl fun N w c0 h0=>?_
 have hal:=Cp (xs:=dg 4294967296 k.natAbs) (ys:=dg 4294967296 k'.natAbs) (aL (by omega) _) (aL (by omega) _)
 rw[bL,bL]at hal;refine sq ?_;refine rl ?_;refine bx 0 ?_;refine bx 1 ?_;refine al 2 ?_;refine nl ?_;refine sq ?_;refine sq ?_;refine rl ?_;refine o1 ?_;refine o1 ?_
 refine ld ?_;refine o1 ?_;refine o1 ?_;refine ld ?_;refine o1 ?_;refine nl ?_;refine xE rfl (fun h1=>?_) (fun h1=>?_)
 ·refine sq ?_;refine rd [0,1,2] (fun i=>[11].contains i) mixed ?_
  refine dv 0 ?_;refine dv 1 ?_;refine aX 2 ?_;refine dv 3 ?_;refine dv 4 ?_;refine aX 5 ?_;refine dv 6 ?_;refine dv 7 ?_;refine aX 8 ?_
  have hA:aD true Tryz.prog 129 [] [.one (.t (sU false (dg 4294967296 k.natAbs))),.one (.t (sU false (dg 4294967296 k'.natAbs)))] (aO (.one (.t (sU true (dg 4294967296 (k.natAbs+k'.natAbs)))))):=by have h9:=AT (aL (by omega) k.natAbs) (aL (by omega) k'.natAbs) (by omega) (by omega);rwa[bL,bL]at h9
  refine jJ 3 9 rfl hA AF ⟨a1 rfl,a1 rfl,rfl⟩ ?_
  refine Am 10 4 [3] rfl (gV (m:=(k.natAbs+k'.natAbs)) (K:=k+k') (Ec rfl (eq_of_beq h1))) nU ⟨bI rfl,rfl⟩ ⟨rfl,rfl,rfl⟩ ⟨rfl,rfl,rfl,trivial⟩ ?_;refine dst 11 ?_
  refine aR ?_;refine rt ?_
  exact en (.inl rfl) rfl (aW (.agg (.cons (.id rfl) (.cons (.sl (trs:=aP (dg 4294967296 (k+k').natAbs)) rfl rfl (bE _) (bB _)) .nil)))) (by decide) (fun _=>dW (k+k')) rfl
 refine sk ?_;refine sq ?_;refine sq ?_;refine rl ?_;refine o1 ?_;refine o1 ?_;refine ld ?_;refine o1 ?_;refine o1 ?_;refine ld ?_
 refine ca (MA (aL (by omega) _) (aL (by omega) _)) LQ ⟨a1 rfl,a1 rfl,rfl⟩ (.one (tv (.int .i64 (mD (vl 4294967296 (dg 4294967296 (k).natAbs)) (vl 4294967296 (dg 4294967296 (k').natAbs)))))) ?_
 refine o1 ?_;refine nl ?_;refine bO rfl (fun h2=>?_) (fun h2=>?_)
 ·refine rl ?_;refine ld ?_;refine ld ?_;refine st ?_;refine st ?_;refine nl ?_;refine sq ?_;refine rl ?_;refine o1 ?_;refine o1 ?_;refine ld ?_;refine o1 ?_;refine o1 ?_;refine ld ?_
  have hlt:k.natAbs<k'.natAbs:=Decidable.byContradiction fun h8=>by rw[bL,bL]at h2;rcases Nat.lt_or_ge k'.natAbs k.natAbs with h7 | h7;(rw[lP h7]at h2;omega);(rw[rW (by omega)]at h2;omega)
  have hS:aD true Tryz.prog 131 [] [.one (.t (sU false (dg 4294967296 k'.natAbs))),.one (.t (sU false (dg 4294967296 k.natAbs)))] (aO (.tup [.one (.t (sU true (dg 4294967296 (k'.natAbs-k.natAbs)))),.one (tv (.int .i64 0))])):=by have h9:=Qd (aL (by omega) k'.natAbs) (aL (by omega) k.natAbs) (by omega) (by rw[bL,bL];omega);rwa[bL,bL]at h9
  refine fS 3 hS Po ⟨a1 rfl,a1 rfl,rfl⟩ ?_;(iterate 5 refine o1 ?_);refine nl ?_;refine sq ?_;refine rl ?_;refine o1 ?_;refine o1 ?_;refine ld ?_;refine o1 ?_
  refine cm 4 [3] (gV (m:=(k'.natAbs-k.natAbs)) (K:=k+k') (Nj rfl (ne_of_beq_false h1) hlt)) nU ⟨bI rfl,rfl⟩ ⟨rfl,rfl,rfl⟩ ?_;refine st ?_;refine nl ?_;refine rt ?_
  exact en (.inl rfl) rfl (aW (.agg (.cons (.id rfl) (.cons (.sl (trs:=aP (dg 4294967296 (k+k').natAbs)) rfl rfl (bE _) (bB _)) .nil)))) (by decide) (fun _=>dW (k+k')) rfl
 refine sk ?_;refine sq ?_;refine rl ?_;refine o1 ?_;refine o1 ?_;refine ld ?_;refine o1 ?_;refine o1 ?_;refine ld ?_
 have hlt:¬k.natAbs<k'.natAbs:=fun h8=>h2 (by rw[bL,bL,oR h8];omega)
 have hS:aD true Tryz.prog 131 [] [.one (.t (sU false (dg 4294967296 k.natAbs))),.one (.t (sU false (dg 4294967296 k'.natAbs)))] (aO (.tup [.one (.t (sU true (dg 4294967296 (k.natAbs-k'.natAbs)))),.one (tv (.int .i64 0))])):=by have h9:=Qd (aL (by omega) k.natAbs) (aL (by omega) k'.natAbs) (by omega) (by rw[bL,bL];omega);rwa[bL,bL]at h9
 refine fS 3 hS Po ⟨a1 rfl,a1 rfl,rfl⟩ ?_;(iterate 5 refine o1 ?_);refine nl ?_;refine sq ?_;refine rl ?_;refine o1 ?_;refine o1 ?_;refine ld ?_;refine o1 ?_
 refine cm 4 [3] (gV (m:=(k.natAbs-k'.natAbs)) (K:=k+k') (Ni rfl (ne_of_beq_false h1) hlt)) nU ⟨bI rfl,rfl⟩ ⟨rfl,rfl,rfl⟩ ?_;refine st ?_;refine nl ?_;refine rt ?_
 exact en (.inl rfl) rfl (aW (.agg (.cons (.id rfl) (.cons (.sl (trs:=aP (dg 4294967296 (k+k').natAbs)) rfl rfl (bE _) (bB _)) .nil)))) (by decide) (fun _=>dW (k+k')) rfl
theorem El {a b:Zi}{k k':Int}(ha:Zg a k) (hb:Zg b k'):aD true Tryz.prog 99 [] [gF a,gF b] (aO (kO (k+k'))):=by
 refine bP Tryz.func99 rfl Tryz.ntmps99 rfl aA rfl fun N w c0 h0=>?_
 have hkl:=ha.len
 have hkl':=hb.len
 refine sq ?_;refine rl ?_;refine bx 0 ?_;refine bx 1 ?_;refine al 2 ?_;refine nl ?_;refine sq ?_;refine rd [0,1,2] (fun i=>[5].contains i) mixed ?_
 refine aX 0 ?_;refine aX 2 ?_;refine aK 1 rfl (dJ ha) dK ⟨aB rfl,rfl⟩ (kF (k)) ?_;refine aK 3 rfl (dJ hb) dK ⟨aB rfl,rfl⟩ (kF (k')) ?_
 refine jJ 3 4 rfl (Uh (k:=k) (k':=k') (by omega) (by omega)) AA ⟨aB rfl,aB rfl,rfl⟩ ?_
 refine dst 5 ?_;refine aR ?_;refine rt ?_
 exact en (.inl rfl) rfl (aW (.agg (.cons (.id rfl) (.cons (.sl (trs:=aP (dg 4294967296 ((k+k')).natAbs)) rfl rfl (bE _) (bB _)) .nil)))) (by decide) (fun _=>dW ((k+k'))) rfl
theorem Zl {a b:Zi}{k k':Int}(ha:Zg a k) (hb:Zg b k'):aD true Tryz.prog 67 [] [gF a,gF b] (aO (kO (k-k'))):=by
 refine bP Tryz.func67 rfl Tryz.ntmps67 rfl aA rfl fun N w c0 h0=>?_
 have hkl:=ha.len
 have hkl':=hb.len
 have hkn:=jL k'
 refine sq ?_;refine rl ?_;refine bx 0 ?_;refine bx 1 ?_;refine al 2 ?_;refine nl ?_;refine sq ?_;refine rd [0,1,2] (fun i=>[6].contains i) mixed ?_
 refine aX 0 ?_;refine aX 2 ?_;refine aK 1 rfl (dJ ha) dK ⟨aB rfl,rfl⟩ (kF (k)) ?_;refine aK 3 rfl (dJ hb) dK ⟨aB rfl,rfl⟩ (kF (k')) ?_
 refine aK 4 rfl (Jh (k:=k')) IG ⟨aB rfl,rfl⟩ (kF (-(k'))) ?_;refine jJ 3 5 rfl (Uh (k:=k) (k':=(-(k'))) (by omega) (by omega)) AA ⟨aB rfl,aB rfl,rfl⟩ ?_
 refine dst 6 ?_;refine aR ?_;refine rt ?_
 exact en (.inl rfl) rfl (aW (.agg (.cons (.id rfl) (.cons (.sl (trs:=aP (dg 4294967296 ((k+(-(k')))).natAbs)) rfl rfl (bE _) (bB _)) .nil)))) (by decide) (fun _=>dW ((k+(-(k'))))) (by rw[Int.sub_eq_add_neg];rfl)
theorem nJ {a:Zi}{k:Int}(ha:Zg a k):aD true Tryz.prog 33 [] [gF a] (aO (.one (tv (.int .i64 k.sign)))):=by
 refine bP Tryz.func33 rfl Tryz.ntmps33 rfl aA rfl fun N w c0 h0=>?_
 refine sq ?_;refine rl ?_;refine bx 0 ?_;refine o1 ?_;refine nl ?_;refine sq ?_;refine sq ?_;refine rl ?_;refine ld ?_;refine ca (dJ ha) dK ⟨aB rfl,rfl⟩ (kF (k)) ?_;refine al 1 ?_
 refine st ?_;refine nl ?_;refine bl ?_;refine sq ?_;refine rl ?_;refine o1 ?_;refine o1 ?_;refine ld ?_;refine o1 ?_;refine nl ?_;refine xE rfl (fun h1=>?_) (fun h1=>?_)
 ·refine sq ?_;refine rl ?_;refine o1 ?_;refine nl ?_;refine rt ?_;refine en (.inl rfl) rfl (aW (cF _)) (by decide) (fun _=>trivial) (congrArg (fun z=>FV.one (tv (.int .i64 z))) ?_)
  have h9:k<0:=of_decide_eq_true h1
  exact(Int.sign_eq_neg_one_of_neg h9).symm
 refine sq ?_;refine rl ?_;refine o1 ?_;refine o1 ?_;refine ld ?_;(iterate 3 refine o1 ?_);refine nl ?_;refine bO rfl (fun h2=>?_) (fun h2=>?_)
 ·refine sq ?_;refine rl ?_;refine o1 ?_;refine nl ?_;refine rt ?_;refine en (.inl rfl) rfl (aW (cF _)) (by decide) (fun _=>trivial) (congrArg (fun z=>FV.one (tv (.int .i64 z))) ?_)
  have h9:¬k<0:=of_decide_eq_false h1
  have h8:=lQ (m:=k.natAbs) rfl
  have h7:decide (0<k.natAbs)=true:=by rw[←h8];exact decide_eq_true (by omega)
  have h6:=of_decide_eq_true h7
  exact(Int.sign_eq_one_of_pos (by omega)).symm
 refine sk ?_;refine sq ?_;refine rl ?_;refine o1 ?_;refine nl ?_;refine rt ?_
 refine en (.inl rfl) rfl (aW (cF _)) (by decide) (fun _=>trivial) (congrArg (fun z=>FV.one (tv (.int .i64 z))) ?_)
 have h9:¬k<0:=of_decide_eq_false h1
 have h8:=lQ (m:=k.natAbs) rfl
 have h7:decide (0<k.natAbs)=false:=by rw[←h8];exact decide_eq_false (by omega)
 have h6:=of_decide_eq_false h7
 obtain rfl:k=0:=by omega
 rfl
theorem Qf {a b:Zi}{k k':Int}(ha:Zg a k) (hb:Zg b k') (hs:(dg 4294967296 (k-k').natAbs).length≤300000000000):aD true Tryz.prog 23 [] [gF a,gF b] (aO (.one (tv (.int .i64 (k-k').sign)))):=by
 refine bP Tryz.func23 rfl Tryz.ntmps23 rfl aA rfl fun N w c0 h0=>?_
 have hkl:=ha.2.1;have hkl2:=ha.len;have hkl3:=hb.len
 refine sq ?_;refine rl ?_;refine bx 0 ?_;refine bx 1 ?_;refine o1 ?_;refine nl ?_;refine sq ?_;refine rl ?_;refine ld ?_;refine ld ?_
 refine ca (Zl ha hb) GG ⟨aB rfl,aB rfl,rfl⟩ (kF (k-k')) ?_;refine ca (nJ (Zg.of (k:=k-k') hs)) uH ⟨aB rfl,rfl⟩ (.one (tv (.int .i64 (k-k').sign))) ?_;refine o1 ?_
 refine nl ?_;refine rt ?_;exact en (.inl rfl) rfl (aW (cF _)) (by decide) (fun _=>trivial) rfl
theorem Es {a b:Zi}{k k':Int}(ha:Zg a k) (hb:Zg b k'):aD true Tryz.prog 85 [] [gF a,gF b] (aO (kO (k*k'))):=by
 refine bP Tryz.func85 rfl Tryz.ntmps85 rfl aA rfl fun N w c0 h0=>?_
 have hkl:=ha.len
 have hkl':=hb.len
 refine sq ?_;refine rl ?_;refine bx 0 ?_;refine bx 1 ?_;refine al 2 ?_;refine nl ?_
 refine md (γ:=Unit) (fun _=>cG [(4,.one (.pt 0 0)),(5,.one (.pt 1 0)),(6,.one (.pt 2 0))]) (fun _=>([⟨24,0,[tv (.bool false),tv (.slice none 0 0)]⟩,⟨105,0,[tv (.bool (aG k)),.t (sU false (dg 4294967296 k.natAbs))]⟩,⟨105,0,[tv (.bool (aG k')),.t (sU false (dg 4294967296 k'.natAbs))]⟩]:List Ob).map some) (fun _=>True) ?_ fun _ _=>?_
 ·refine rd [0,1,2] (fun i=>[7].contains i) mixed ?_
  refine aX 0 ?_;refine aX 2 ?_;refine WO.three (i:=1) (j:=4) (m:=5) (by kernel_rfl) ?_ ?_ ?_
  ·refine cY 1 rfl (dJ ha) dK ⟨aB rfl,rfl⟩ (kF (k)) ?_;refine WO.three (i:=3) (j:=4) (m:=5) (by kernel_rfl) ?_ ?_ ?_
   ·refine cY 3 rfl (dJ hb) dK ⟨aB rfl,rfl⟩ (kF (k')) ?_;refine WO.two (i:=4) (j:=5) (by kernel_rfl) ?_ ?_
    ·refine bX (key:=3) 4 rfl rfl aA rfl ⟨rfl,rfl,rfl,trivial⟩ ?_;refine eQ (key:=4) 5 (by kernel_rfl) rfl rfl aA rfl ⟨rfl,rfl,rfl,trivial⟩ ?_
     refine aZ 6 (by kernel_rfl) rfl rfl aA rfl rfl rfl rfl ⟨rfl,rfl,rfl,trivial⟩ ?_
     refine dst 7 ?_;refine aR ?_;exact⟨(),trivial,aH h0 [2,3,4] _ _ (by decide) ⟨rfl,rfl,rfl,trivial⟩ ⟨oe rfl rfl,oe rfl rfl,oe rfl rfl,rfl⟩⟩
    refine bX (key:=3) 5 rfl rfl aA rfl ⟨rfl,rfl,rfl,trivial⟩ ?_;refine eQ (key:=4) 4 (by kernel_rfl) rfl rfl aA rfl ⟨rfl,rfl,rfl,trivial⟩ ?_
    refine aZ 6 (by kernel_rfl) rfl rfl aA rfl rfl rfl rfl ⟨rfl,rfl,rfl,trivial⟩ ?_
    refine dst 7 ?_;refine aR ?_;exact⟨(),trivial,aH h0 [2,4,3] _ _ (by decide) ⟨rfl,rfl,rfl,trivial⟩ ⟨oe rfl rfl,oe rfl rfl,oe rfl rfl,rfl⟩⟩
   ·refine bX (key:=3) 4 rfl rfl aA rfl ⟨rfl,rfl,rfl,trivial⟩ ?_;refine WO.two (i:=3) (j:=5) (by kernel_rfl) ?_ ?_
    ·refine cY 3 rfl (dJ hb) dK ⟨aB rfl,rfl⟩ (kF (k')) ?_;refine eQ (key:=4) 5 (by kernel_rfl) rfl rfl aA rfl ⟨rfl,rfl,rfl,trivial⟩ ?_
     refine aZ 6 (by kernel_rfl) rfl rfl aA rfl rfl rfl rfl ⟨rfl,rfl,rfl,trivial⟩ ?_
     refine dst 7 ?_;refine aR ?_;exact⟨(),trivial,aH h0 [2,3,4] _ _ (by decide) ⟨rfl,rfl,rfl,trivial⟩ ⟨oe rfl rfl,oe rfl rfl,oe rfl rfl,rfl⟩⟩
    refine bX (key:=4) 5 rfl rfl aA rfl ⟨rfl,rfl,rfl,trivial⟩ ?_;refine aK 3 rfl (dJ hb) dK ⟨aB rfl,rfl⟩ (kF (k')) ?_
    refine aZ 6 (by kernel_rfl) rfl rfl aA rfl rfl rfl rfl ⟨rfl,rfl,rfl,trivial⟩ ?_
    refine dst 7 ?_;refine aR ?_;exact⟨(),trivial,aH h0 [2,3,4] _ _ (by decide) ⟨rfl,rfl,rfl,trivial⟩ ⟨oe rfl rfl,oe rfl rfl,oe rfl rfl,rfl⟩⟩
   refine bX (key:=3) 5 rfl rfl aA rfl ⟨rfl,rfl,rfl,trivial⟩ ?_;refine WO.two (i:=3) (j:=4) (by kernel_rfl) ?_ ?_
   ·refine cY 3 rfl (dJ hb) dK ⟨aB rfl,rfl⟩ (kF (k')) ?_;refine eQ (key:=4) 4 (by kernel_rfl) rfl rfl aA rfl ⟨rfl,rfl,rfl,trivial⟩ ?_
    refine aZ 6 (by kernel_rfl) rfl rfl aA rfl rfl rfl rfl ⟨rfl,rfl,rfl,trivial⟩ ?_
    refine dst 7 ?_;refine aR ?_;exact⟨(),trivial,aH h0 [2,4,3] _ _ (by decide) ⟨rfl,rfl,rfl,trivial⟩ ⟨oe rfl rfl,oe rfl rfl,oe rfl rfl,rfl⟩⟩
   refine bX (key:=4) 4 rfl rfl aA rfl ⟨rfl,rfl,rfl,trivial⟩ ?_;refine aK 3 rfl (dJ hb) dK ⟨aB rfl,rfl⟩ (kF (k')) ?_
   refine aZ 6 (by kernel_rfl) rfl rfl aA rfl rfl rfl rfl ⟨rfl,rfl,rfl,trivial⟩ ?_
   refine dst 7 ?_;refine aR ?_;exact⟨(),trivial,aH h0 [2,4,3] _ _ (by decide) ⟨rfl,rfl,rfl,trivial⟩ ⟨oe rfl rfl,oe rfl rfl,oe rfl rfl,rfl⟩⟩
  ·refine bX (key:=3) 4 rfl rfl aA rfl ⟨rfl,rfl,rfl,trivial⟩ ?_;refine WO.two (i:=1) (j:=5) (by kernel_rfl) ?_ ?_
   ·refine cY 1 rfl (dJ ha) dK ⟨aB rfl,rfl⟩ (kF (k)) ?_;refine WO.two (i:=3) (j:=5) (by kernel_rfl) ?_ ?_
    ·refine cY 3 rfl (dJ hb) dK ⟨aB rfl,rfl⟩ (kF (k')) ?_;refine eQ (key:=4) 5 (by kernel_rfl) rfl rfl aA rfl ⟨rfl,rfl,rfl,trivial⟩ ?_
     refine aZ 6 (by kernel_rfl) rfl rfl aA rfl rfl rfl rfl ⟨rfl,rfl,rfl,trivial⟩ ?_
     refine dst 7 ?_;refine aR ?_;exact⟨(),trivial,aH h0 [2,3,4] _ _ (by decide) ⟨rfl,rfl,rfl,trivial⟩ ⟨oe rfl rfl,oe rfl rfl,oe rfl rfl,rfl⟩⟩
    refine bX (key:=4) 5 rfl rfl aA rfl ⟨rfl,rfl,rfl,trivial⟩ ?_;refine aK 3 rfl (dJ hb) dK ⟨aB rfl,rfl⟩ (kF (k')) ?_
    refine aZ 6 (by kernel_rfl) rfl rfl aA rfl rfl rfl rfl ⟨rfl,rfl,rfl,trivial⟩ ?_
    refine dst 7 ?_;refine aR ?_;exact⟨(),trivial,aH h0 [2,3,4] _ _ (by decide) ⟨rfl,rfl,rfl,trivial⟩ ⟨oe rfl rfl,oe rfl rfl,oe rfl rfl,rfl⟩⟩
   refine bX (key:=4) 5 rfl rfl aA rfl ⟨rfl,rfl,rfl,trivial⟩ ?_;refine aK 1 rfl (dJ ha) dK ⟨aB rfl,rfl⟩ (kF (k)) ?_;refine aK 3 rfl (dJ hb) dK ⟨aB rfl,rfl⟩ (kF (k')) ?_
   refine aZ 6 (by kernel_rfl) rfl rfl aA rfl rfl rfl rfl ⟨rfl,rfl,rfl,trivial⟩ ?_
   refine dst 7 ?_;refine aR ?_;exact⟨(),trivial,aH h0 [2,3,4] _ _ (by decide) ⟨rfl,rfl,rfl,trivial⟩ ⟨oe rfl rfl,oe rfl rfl,oe rfl rfl,rfl⟩⟩
  refine bX (key:=3) 5 rfl rfl aA rfl ⟨rfl,rfl,rfl,trivial⟩ ?_;refine WO.two (i:=1) (j:=4) (by kernel_rfl) ?_ ?_
  ·refine cY 1 rfl (dJ ha) dK ⟨aB rfl,rfl⟩ (kF (k)) ?_;refine WO.two (i:=3) (j:=4) (by kernel_rfl) ?_ ?_
   ·refine cY 3 rfl (dJ hb) dK ⟨aB rfl,rfl⟩ (kF (k')) ?_;refine eQ (key:=4) 4 (by kernel_rfl) rfl rfl aA rfl ⟨rfl,rfl,rfl,trivial⟩ ?_
    refine aZ 6 (by kernel_rfl) rfl rfl aA rfl rfl rfl rfl ⟨rfl,rfl,rfl,trivial⟩ ?_
    refine dst 7 ?_;refine aR ?_;exact⟨(),trivial,aH h0 [2,4,3] _ _ (by decide) ⟨rfl,rfl,rfl,trivial⟩ ⟨oe rfl rfl,oe rfl rfl,oe rfl rfl,rfl⟩⟩
   refine bX (key:=4) 4 rfl rfl aA rfl ⟨rfl,rfl,rfl,trivial⟩ ?_;refine aK 3 rfl (dJ hb) dK ⟨aB rfl,rfl⟩ (kF (k')) ?_
   refine aZ 6 (by kernel_rfl) rfl rfl aA rfl rfl rfl rfl ⟨rfl,rfl,rfl,trivial⟩ ?_
   refine dst 7 ?_;refine aR ?_;exact⟨(),trivial,aH h0 [2,4,3] _ _ (by decide) ⟨rfl,rfl,rfl,trivial⟩ ⟨oe rfl rfl,oe rfl rfl,oe rfl rfl,rfl⟩⟩
  refine bX (key:=4) 4 rfl rfl aA rfl ⟨rfl,rfl,rfl,trivial⟩ ?_;refine aK 1 rfl (dJ ha) dK ⟨aB rfl,rfl⟩ (kF (k)) ?_;refine aK 3 rfl (dJ hb) dK ⟨aB rfl,rfl⟩ (kF (k')) ?_
  refine aZ 6 (by kernel_rfl) rfl rfl aA rfl rfl rfl rfl ⟨rfl,rfl,rfl,trivial⟩ ?_
  refine dst 7 ?_;refine aR ?_;exact⟨(),trivial,aH h0 [2,4,3] _ _ (by decide) ⟨rfl,rfl,rfl,trivial⟩ ⟨oe rfl rfl,oe rfl rfl,oe rfl rfl,rfl⟩⟩
 refine sq ?_;refine rd [0,1,2] (fun i=>[15].contains i) mixed ?_
 refine dv 0 ?_;refine dv 1 ?_;refine aX 2 ?_;refine dv 3 ?_;refine dv 4 ?_;refine aX 5 ?_;refine dv 6 ?_;refine dv 7 ?_;refine dv 8 ?_;refine aX 9 ?_;refine dv 10 ?_;refine dv 11 ?_
 refine aX 12 ?_
 have hA:aD true Tryz.prog 118 [] [.one (.t (sU false (dg 4294967296 k.natAbs))),.one (.t (sU false (dg 4294967296 k'.natAbs)))] (aO (.one (.t (sU true (dg 4294967296 (k.natAbs*k'.natAbs)))))):=by have h9:=MB (aL (by omega) k.natAbs) (aL (by omega) k'.natAbs) (by omega) (by omega);rwa[bL,bL]at h9
 refine jJ 3 13 rfl hA LO ⟨a1 rfl,a1 rfl,rfl⟩ ?_
 refine Am 14 4 [3] rfl (gV (b:=(aG k != aG k')) (m:=(k.natAbs*k'.natAbs)) (K:=k*k') (Na k k')) nU ⟨bI rfl,rfl⟩ ⟨rfl,rfl,rfl⟩ ⟨rfl,rfl,rfl,trivial⟩ ?_
 refine dst 15 ?_;refine aR ?_;refine rt ?_
 exact en (.inl rfl) rfl (aW (.agg (.cons (.id rfl) (.cons (.sl (trs:=aP (dg 4294967296 ((k*k')).natAbs)) rfl rfl (bE _) (bB _)) .nil)))) (by decide) (fun _=>dW ((k*k'))) rfl
theorem AU {a b:Zi}{k k':Int}(ha:Zg a k) (hb:Zg b k'):aD true Tryz.prog 119 [] [gF a,gF b] (aO (kO (((Int.gcd k k'):Nat):Int))):=by
 refine bP Tryz.func119 rfl Tryz.ntmps119 rfl aA rfl fun N w c0 h0=>?_
 have hkl:=ha.len
 have hkl':=hb.len
 refine sq ?_;refine rl ?_;refine bx 0 ?_;refine bx 1 ?_;refine al 2 ?_;refine nl ?_;refine sq ?_;refine rd [0,1,2] (fun i=>[11].contains i) mixed ?_
 refine aX 0 ?_;refine aX 4 ?_;refine aK 1 rfl (dJ ha) dK ⟨aB rfl,rfl⟩ (kF (k)) ?_;refine df 2 ?_;refine df 3 ?_;refine aK 5 rfl (dJ hb) dK ⟨aB rfl,rfl⟩ (kF (k')) ?_
 refine df 6 ?_;refine df 7 ?_;refine sO (key:=3) 8 (by kernel_rfl) rfl rfl aA rfl ⟨rfl,rfl,rfl,trivial⟩ ?_
 refine uK (i:=13) (k:=3) (t:=22) (t':=22) (z:=1) (n:=2) (l:=[sU false (dg 4294967296 k.natAbs),sU false (dg 4294967296 k'.natAbs)]) rfl rfl rfl rfl (.one .sl) (by rfl) (by rfl) ?_
 have hA:aD true Tryz.prog 135 [] [.one (.t (.s false 22 1 2 [sU false (dg 4294967296 k.natAbs),sU false (dg 4294967296 k'.natAbs)]))] (aO (.one (.t (sU true (dg 4294967296 (Int.gcd k k')))))):=by
  have h9:=MC (t:=22) (aL (by omega) k.natAbs) (aL (by omega) k'.natAbs) (by omega) (by omega)
  rwa[show pM [dg 4294967296 k.natAbs,dg 4294967296 k'.natAbs]=(Int.gcd k k') by simp only[pM,List.foldl_cons,List.foldl_nil,bL,Nat.gcd_zero_left];rfl]at h9
 refine jJ 4 9 rfl hA LT ⟨a1 rfl,rfl⟩ ?_
 refine Am 10 5 [4] rfl (gV (b:=false) (m:=(Int.gcd k k')) (K:=(((Int.gcd k k'):Nat):Int)) (by simp[bS])) nU ⟨bI rfl,rfl⟩ ⟨rfl,rfl,rfl⟩ ⟨rfl,rfl,rfl,trivial⟩ ?_
 refine dst 11 ?_;refine aR ?_;refine rt ?_
 exact en (.inl rfl) rfl (aW (.agg (.cons (.id rfl) (.cons (.sl (trs:=aP (dg 4294967296 ((((Int.gcd k k'):Nat):Int)).natAbs)) rfl rfl (bE _) (bB _)) .nil)))) (by decide) (fun _=>dW ((((Int.gcd k k'):Nat):Int))) rfl
end Go.Proofs.YthmgbcdidlkpoaaGreat
