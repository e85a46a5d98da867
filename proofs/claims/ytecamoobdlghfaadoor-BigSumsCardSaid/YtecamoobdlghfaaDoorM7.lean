/- Part 7 of a proof: Tb to Fl. -/
import Derived.Test.YtecamoobdlghfaaDoorM5
import Derived.Test.YtecamoobdlghfaaDoorM6
import Derived.Test.YtecamoobdlghfaaDoorM4
set_option maxRecDepth 100000
set_option linter.unusedVariables false
set_option linter.unusedSimpArgs false
namespace Go.Proofs.YtecamoobdlghfaaDoor
open Go Go.RowKit
section
variable {xs:List Nat}
theorem yU {d:Nat}(hx:Lim 4294967296 xs) (h:xs.length≤1099511627776) (hd0:0<d) (hd:d<4294967296):aK true Tryd.prog 65 [] [.one (.t (sU false xs)),.one (tv (.int .u32 (d:Int)))] (aY (.tup [.one (.t (sU true (dg 4294967296 (vl 4294967296 xs/d)))),.one (tv (.int .u32 ((vl 4294967296 xs%d:Nat):Int))),.one (tv (.int .i64 0))])):=by
 intro N w cs us hL
 obtain⟨rfl,hf⟩:=kR hL
 obtain⟨u,v,rfl,h1,h2⟩:=qY hf
 obtain⟨A,c,rfl,u1⟩:=eP h1 hx fun b hb=>hb.1
 obtain rfl:=aD (iP h2)
 refine(iH A _ c d xs w u1 h hd0 hd).mono ?_
 rintro e W ⟨A,n,c,rfl,ho,hb⟩
 obtain⟨y1,a1,a2,a3,a4⟩:=kQ (N:=fun b=>true=false∧(b<W.heap.size∧b∉VT.fpL [])∧(N b∨w.heap.size≤b)) ho
 refine .mk0 (y:=[y1,.w (.int .u32 ((vl 4294967296 xs%d:Nat):Int)),.w (.int .i64 0)]) rfl hb (by simp only[VT.okL,VT.ok];exact⟨a3,trivial,trivial,trivial⟩) ?_ (fun b hb'=>?_) ?_
 ·simp only[VT.fpL,VT.fp,a4,List.append_nil]
  exact nA A n c
 ·simp only[VT.fpL,VT.fp,a4,List.append_nil]at hb'
  exact ho.blk b hb'
 refine⟨[_,_,_],rfl,?_⟩
 exact⟨_,_,[y1],[.w _,.w (.int .i64 0)],rfl,rfl,⟨y1,rfl,a1.symm,eQ (fun _ _=>rfl) (fun b hb=>absurd hb.1 (by simp)) _ _ a2⟩,_,_,[.w _],[.w (.int .i64 0)],rfl,rfl,⟨_,rfl,rfl,by simp[CR,tv,OR]⟩,_,_,[.w (.int .i64 0)],[],rfl,rfl,⟨_,rfl,rfl,by simp[CR,tv,OR]⟩,rfl,rfl⟩
theorem Hc {v:Nat}(hx:Lim 4294967296 xs) (h:xs.length≤1099511627776) (hv:vl 4294967296 xs=v):aK true Tryd.prog 55 [] [.one (.t (sU false xs))] (aY (.one (.t (sU true (dg 4294967296 v))))):=by
 have e:=cA (B:=4294967296) (by omega) hx
 rw[←hv,e]
 exact Li hx h
theorem Lj {u d:Nat}(h:(dg 4294967296 u).length≤1099511627776) (hd0:0<d) (hd:d<4294967296):aK true Tryd.prog 65 [] [.one (.t (sU false (dg 4294967296 u))),.one (tv (.int .u32 (d:Int)))] (aY (.tup [.one (.t (sU true (dg 4294967296 (u/d)))),.one (tv (.int .u32 ((u%d:Nat):Int))),.one (tv (.int .i64 0))])):=by
 have e:=bJ (B:=4294967296) (by omega) u
 have h2:=yU (xs:=dg 4294967296 u) (d:=d) (aL (by omega) _) h hd0 hd
 rw[e]at h2
 exact h2
end
def hv:List Nat→List Nat
 | []=>[]
 | x::xs=>x%65536::x/65536::hv xs
def lb:List Nat→List Nat
 | []=>[]
 | [a]=>[a]
 | a::b::l=>(a+65536*b)::lb l
theorem sA:∀(a b:List Nat),hv (a++b)=hv a++hv b
 | [],_=>rfl
 | x::xs,b=>by simp only[List.cons_append,hv,sA xs b]
theorem pY:∀(a:List Nat),(hv a).length=2*a.length
 | []=>rfl
 | x::xs=>by simp only[hv,List.length_cons,pY xs];omega
theorem Bd:∀{a:List Nat},Lim 4294967296 a→Lim 65536 (hv a)
 | [],_=>Lim.nil
 | x::xs,h=>Lim.cons (Nat.mod_lt _ (by omega)) (Lim.cons (by have:=h.head;omega) (Bd h.tail))
theorem Fd:∀(a:List Nat),vl 65536 (hv a)=vl 4294967296 a
 | []=>rfl
 | x::xs=>by
  simp only[hv,eD,Fd xs]
  have:=Nat.mod_add_div x 65536
  omega
theorem Ns {a:List Nat}(h:Lim 4294967296 a):trim (hv a)=dg 65536 (vl 4294967296 a):=by rw[←Fd,cA (by omega) (Bd h)]
theorem Hd {a:List Nat}{k:Nat}(h:k<a.length):hv (a.take (k+1))=hv (a.take k)++[nth a k%65536,nth a k/65536]:=by
 rw[iC h,sA]
 rfl
theorem Fe:∀(a:List Nat),vl 4294967296 (lb a)=vl 65536 a
 | []=>rfl
 | [a]=>by simp[lb,oW]
 | a::b::l=>by
  simp only[lb,eD,Fe l]
  omega
theorem Be:∀{a:List Nat},Lim 65536 a→Lim 4294967296 (lb a)
 | [],_=>Lim.nil
 | [a],h=>Lim.cons (by have:=h.head;omega) Lim.nil
 | a::b::l,h=>Lim.cons (by have:=h.head;have:=h.tail.head;omega) (Be h.tail.tail)
theorem kS:∀(a:List Nat),(lb a).length=(a.length+1)/2
 | []=>rfl
 | [a]=>by simp[lb]
 | a::b::l=>by simp only[lb,List.length_cons,kS l];omega
theorem Lk {a:List Nat}(h:lb a=[]):a=[]:=by
 rcases a with _ | ⟨x,_ | ⟨y,l⟩⟩
 ·rfl
 ·simp[lb]at h
 simp[lb]at h
theorem xB:∀{a:List Nat},trim a=a→trim (lb a)=lb a
 | [],_=>rfl
 | [a],h=>h
 | a::b::l,h=>by
  have hl:trim l=l:=by
   rw[bV]at h
   split at h
   ·cases h
   injection h with _ h
   rw[bV]at h
   split at h
   ·cases h
   injection h
  have ih:=xB hl
  simp only[lb]
  rw[bV,ih]
  split
  ·rename_i hc
   have h0:=Lk hc.1
   subst h0
   rw[bV,bV,Bu]at h
   have hb:b=0:=by omega
   have ha:a=0:=by omega
   subst hb ha
   simp at h
  rfl
theorem Nt (v:Nat):lb (dg 65536 v)=dg 4294967296 v:=by
 have h:=xB (qB (B:=65536) (by omega) v)
 rw[←h,←cA (B:=4294967296) (by omega) (Be (aL (by omega) v)),Fe,bJ (by omega)]
theorem qZ:∀{l:List Nat}{k:Nat},2*k<l.length→lb (l.take (2*(k+1)))=lb (l.take (2*k))++[nth l (2*k)+65536*nth l (2*k+1)]
 | [],_,h=>by simp at h
 | [a],0,_=>by simp[lb,nth]
 | [a],k+1,h=>by simp at h
 | a::b::l,0,_=>by simp[lb,nth]
 | a::b::l,k+1,h=>by
  have ih:=qZ (l:=l) (k:=k) (by simp at h;omega)
  have e1:2*(k+1+1)=2*(k+1)+1+1:=by omega
  have e2:2*(k+1)=2*k+1+1:=by omega
  rw[e1,List.take_succ_cons,List.take_succ_cons]
  simp only[lb]
  rw[ih,e2,List.take_succ_cons,List.take_succ_cons]
  simp only[lb,List.cons_append]
  simp[nth]
theorem eA {v L:Nat}(h:(dg 4294967296 v).length≤L):(dg 65536 v).length≤2*L:=by
 have h1:=kW (B:=4294967296) (by omega) (n:=v)
 refine bZ (by omega) (Nat.lt_of_lt_of_le h1 ?_)
 rw[Nat.pow_mul]
 exact Nat.pow_le_pow_right (by omega) h
theorem uQ {X Y os:List Nat}{k cr:Nat}(hl:os.length=k) (h:vl 65536 os+65536^k*cr=vl 65536 (X.take k)+vl 65536 (Y.take k)):
  vl 65536 (os++[(nth X k+nth Y k+cr)%65536])+65536^(k+1)*((nth X k+nth Y k+cr)/65536)=vl 65536 (X.take (k+1))+vl 65536 (Y.take (k+1)):=by
 rw[fM,aN,aN,hl,Nat.pow_succ,Nat.mul_assoc]
 have h2:=Nat.mod_add_div (nth X k+nth Y k+cr) 65536
 have h3:65536^k*(nth X k+nth Y k+cr)=65536^k*((nth X k+nth Y k+cr)%65536)+65536^k*(65536*((nth X k+nth Y k+cr)/65536)):=by rw[←Nat.mul_add,h2]
 rw[Nat.mul_add,Nat.mul_add]at h3
 omega
theorem uR {X Y os:List Nat}{k br br' d:Nat}(hl:os.length=k) (h:vl 65536 os+vl 65536 (Y.take k)=vl 65536 (X.take k)+65536^k*br) (hd:d+nth Y k+br=nth X k+65536*br'):
  vl 65536 (os++[d])+vl 65536 (Y.take (k+1))=vl 65536 (X.take (k+1))+65536^(k+1)*br':=by
 rw[fM,aN,aN,hl,Nat.pow_succ,Nat.mul_assoc]
 have h3:65536^k*(d+nth Y k+br)=65536^k*(nth X k+65536*br'):=by rw[hd]
 rw[Nat.mul_add,Nat.mul_add,Nat.mul_add]at h3
 omega
theorem Ll {a b:Nat}(h:¬((a:Int)-(b:Int)).sign<0):b≤a:=by
 rcases Nat.lt_or_ge a b with h1 | h1
 ·exact absurd (by rw[Int.sign_eq_neg_one_of_neg (by omega)];omega) h
 exact h1
theorem Lm {a b:Nat}(h:((a:Int)-(b:Int)).sign<0):a<b:=by
 rcases Nat.lt_or_ge a b with h1 | h1
 ·exact h1
 exact absurd (Int.sign_neg_iff.1 h) (by omega)
theorem Ff {X Y:List Nat}{k:Nat}(hX:Lim 65536 X) (hk:∀j,k+1≤j→nth X j=nth Y j) (h:nth X k<nth Y k):vl 65536 X<vl 65536 Y:=by
 have hS:∀m,vl 65536 (X.take (k+1+m))+vl 65536 (Y.take (k+1))=vl 65536 (Y.take (k+1+m))+vl 65536 (X.take (k+1)):=by
  intro m
  induction m with
  | zero=>exact Nat.add_comm _ _
  | succ m ih=>
   rw[←Nat.add_assoc,aN 65536 X (k+1+m),aN 65536 Y (k+1+m),hk (k+1+m) (by omega)]
   omega
 have h1:=hS (X.length+Y.length)
 rw[aQ 65536 (l:=X) (k:=k+1+(X.length+Y.length)) (by omega),aQ 65536 (l:=Y) (k:=k+1+(X.length+Y.length)) (by omega)]at h1
 have h2:vl 65536 (X.take (k+1))<vl 65536 (Y.take (k+1)):=by
  rw[aN,aN]
  have h3:=dB (hX.take k)
  have h4:65536^(X.take k).length≤65536^k:=Nat.pow_le_pow_right (by omega) (by rw[List.length_take];omega)
  have h5:65536^k*(nth X k+1)≤65536^k*nth Y k:=Nat.mul_le_mul_left _ h
  rw[Nat.mul_add]at h5
  omega
 omega
theorem Ln {X Y:List Nat}(h:∀j,nth X j=nth Y j):vl 65536 X=vl 65536 Y:=by
 have hS:∀m,vl 65536 (X.take m)=vl 65536 (Y.take m):=by
  intro m
  induction m with
  | zero=>rfl
  | succ m ih=>rw[aN,aN,ih,h]
 have h1:=hS (X.length+Y.length)
 rwa[aQ 65536 (l:=X) (k:=X.length+Y.length) (by omega),aQ 65536 (l:=Y) (k:=X.length+Y.length) (by omega)]at h1
def eG (xs:List Nat):List Tr:=xs.map fun(n:Nat)=>.v (.int .i64 (n:Int))
def sI (o:Bool) (xs:List Nat):Tr:=.s o 3 1 xs.length (eG xs)
theorem gU (xs:List Nat):(eG xs).length=xs.length:=by simp[eG]
theorem kT (xs:List Nat){k:Nat}(h:k<xs.length):((eG xs).drop (k*1)).take [Tr.v (.int .i64 ((nth xs k:Nat):Int))].length=[Tr.v (.int .i64 ((nth xs k:Nat):Int))]:=by
 rw[Nat.mul_one]
 have:(eG xs)[k]? =some (Tr.v (.int .i64 ((nth xs k:Nat):Int))):=by simp[eG,bG h,h]
 rw[List.length_singleton,List.take_one]
 simp[this]
theorem jH (xs ys:List Nat):(eG xs).map AV.t++(eG ys).map .t=(eG (xs++ys)).map .t:=by simp[eG]
theorem uS (xs ys:List Nat):(aW xs).map AV.t++(aW ys).map .t=(aW (xs++ys)).map .t:=by simp[aW]
theorem Bf (xs:List Nat) (k:Nat):(eG xs).take (k*1)=eG (xs.take k):=by simp[eG,List.map_take]
theorem Lo {xs:List Nat}{m:Nat}(h:m≤xs.length):FV.one (.t (.s false 3 1 m ((eG xs).take (m*1))))=.one (.t (sI false (xs.take m))):=by
 rw[Bf]
 unfold sI
 rw[List.length_take,Nat.min_eq_left h]
theorem nQ (a b:Nat):Int.tmod (a:Int) (b:Int)=((a%b:Nat):Int):=by
 rw[Int.tmod_eq_emod_of_nonneg (by omega)]
 rfl
theorem kU (a b:Nat):Int.tdiv (a:Int) (b:Int)=((a/b:Nat):Int):=by
 rw[Int.tdiv_eq_ediv_of_nonneg (by omega)]
 rfl
theorem pZ {k:IntKind}{a:Nat}(b:Nat) (hb:b≠0) (h:fV k (a:Int)):(b:Int)≠0∧fV k (Int.tdiv (a:Int) (b:Int)):=by
 refine⟨by omega,?_⟩
 rw[kU]
 have:=Nat.div_le_self a b
 generalize a/b=c at this⊢
 cases k <;> simp only[fV]at h⊢ <;> omega
section
variable {x:Cx}{g:Nat→FV}{ob:List (Option Ob)}
theorem Lp {i k n:Nat}{zs zs':List Nat}(hi:Nat.blt i x.n=true) (hg:g i=.one (.sl k 0 n)) (ho:aX ob k=some ⟨3,1,(eG zs).map .t⟩) (hn:n=zs.length) (he:zs=zs'):Sub x g ob (aI g i (.one (.t (sI false zs')))) (ob.set k none):=by
 subst he
 have:=fz hi hg ho (by rw[gU,hn,Nat.mul_one])
 rw[hn]at this
 exact this
theorem Bg {τ:List Nat}{a:Option Ob}{xs ys:List Nat}{l:List AV}(h1:a=some ⟨3,1,l⟩) (h:l=(eG ys).map .t) (he:ys=xs):rM τ a ⟨3,1,(eG xs).map .t⟩:=dD (by rw[h1,h,he])
theorem On {τ:List Nat}{a:Option Ob}{xs ys:List Nat}{l:List AV}(h1:a=some ⟨70,1,l⟩) (h:l=(aW ys).map .t) (he:ys=xs):rM τ a ⟨70,1,(aW xs).map .t⟩:=dD (by rw[h1,h,he])
end
section
variable {l:List Nat}{k N:Nat}{z:Int}{xs:List Nat}{neg:Bool}
theorem qA (hr:bL neg xs=false):gG neg xs=0:=by simp[gG,hr]
theorem gH (h:xs.length=0):bL neg xs= !neg:=by
 rw[List.length_eq_zero_iff]at h
 subst h
 simp[bL]
theorem lT {n:Nat}(hn:xs.length=n) (h:0<n):bL neg xs=decide (((nth xs (n-1):Nat):Int)≠0):=by
 subst hn
 rcases xs with _ | ⟨x,l⟩
 ·simp at h
 simp only[bL,List.isEmpty_cons,Bool.false_and,Bool.not_false,Bool.true_and,Bool.false_or]
 by_cases h0:nth (x::l) ((x::l).length-1)=0
 ·rw[h0];rfl
 rw[bne_iff_ne.2 h0,decide_eq_true (by omega)]
theorem Hf (k:Int):cD (!(aT k)) k.natAbs=-k:=by
 unfold cD aT
 by_cases h:k<0 <;> simp[h] <;> omega
theorem xC {xs ys:List Nat}(hx:Lim 4294967296 xs) (hy:Lim 4294967296 ys):(dg 4294967296 (vl 4294967296 xs+vl 4294967296 ys)).length≤xs.length+ys.length+1:=by
 refine bZ (by omega) ?_
 have h1:=dB hx
 have h2:=dB hy
 have h3:4294967296^xs.length≤4294967296^(xs.length+ys.length):=Nat.pow_le_pow_right (by omega) (by omega)
 have h4:4294967296^ys.length≤4294967296^(xs.length+ys.length):=Nat.pow_le_pow_right (by omega) (by omega)
 rw[Nat.pow_succ]
 omega
theorem xD {xs ys:List Nat}(hx:Lim 4294967296 xs):(dg 4294967296 (vl 4294967296 xs-vl 4294967296 ys)).length≤xs.length:=bZ (by omega) (Nat.lt_of_le_of_lt (Nat.sub_le _ _) (dB hx))
theorem aS (k:Int):vl 4294967296 (dg 4294967296 k.natAbs)=k.natAbs:=bJ (by omega) _
theorem nB {a b:Nat}(h:a≤b):(dg 4294967296 a).length≤(dg 4294967296 b).length:=eE (by omega) h
theorem Dt (k:Int):(dg 4294967296 (-(k)).natAbs).length=(dg 4294967296 k.natAbs).length:=by rw[Int.natAbs_neg]
theorem sB {k k':Int}{s:Bool}(h:s=aT k) (h':aT k=aT k'):cD s (k.natAbs+k'.natAbs)=k+k':=by
 subst h
 unfold aT at*
 unfold cD
 by_cases h1:k<0 <;> by_cases h2:k'<0 <;> simp[h1,h2]at h'⊢ <;> omega
theorem xE {k k':Int}{s:Bool}(h:s=aT k) (h':aT k≠aT k') (hl:¬k.natAbs<k'.natAbs):cD s (k.natAbs-k'.natAbs)=k+k':=by
 subst h
 unfold aT at*
 unfold cD
 by_cases h1:k<0 <;> by_cases h2:k'<0 <;> simp[h1,h2]at h'⊢ <;> omega
theorem xF {k k':Int}{s:Bool}(h:s=aT k') (h':aT k≠aT k') (hl:k.natAbs<k'.natAbs):cD s (k'.natAbs-k.natAbs)=k+k':=by
 subst h
 unfold aT at*
 unfold cD
 by_cases h1:k<0 <;> by_cases h2:k'<0 <;> simp[h1,h2]at h'⊢ <;> omega
end
structure Zi where
 s:Bool
 x:List Nat
def Zi.of (k:Int):Zi:=⟨aT k,dg 4294967296 k.natAbs⟩
def gF (a:Zi):FV:=.agg (([.v (.bool a.s),sU false a.x]:List Tr).map .t)
def kF (k:Int):FV:=.agg (([.v (.bool (aT k)),sU false (dg 4294967296 k.natAbs)]:List Tr).map .t)
def kO (k:Int):FV:=.agg (([.v (.bool (aT k)),sU true (dg 4294967296 k.natAbs)]:List Tr).map .t)
def Zn (a:Zi) (k:Int):Prop:=Lim 4294967296 a.x∧a.x.length≤137438953472∧gG a.s a.x=k
theorem Zn.of {k:Int}(h:(dg 4294967296 k.natAbs).length≤137438953472):Zn (.of k) k:=⟨aL (by omega) _,h,Bb k⟩
theorem Zn.len {a:Zi}{k:Int}(h:Zn a k):(dg 4294967296 k.natAbs).length≤137438953472:=by
 obtain⟨h1,h2,rfl⟩:=h
 exact Nat.le_trans (qW h1) h2
theorem Zn.right {a:Zi}{k:Int}(h:Zn a k) (hr:bL a.s a.x=true):aT k=a.s∧dg 4294967296 k.natAbs=a.x:=by
 obtain⟨h1,h2,rfl⟩:=h
 exact⟨wZ h1 hr,nP h1 hr⟩
theorem Zn.wrong {a:Zi}{k:Int}(h:Zn a k) (hr:bL a.s a.x=false):k=0:=by
 obtain⟨h1,h2,rfl⟩:=h
 exact qA hr
theorem Du {a:Zi}{k:Int}(h:Zn a k) (hr:bL a.s a.x=true):gF a=kF k:=by
 obtain⟨h1,h2⟩:=h.right hr
 unfold gF kF
 rw[h1,h2]
theorem nR {b:Bool}{m:Nat}{k:Int}(h:b=aT k) (hm:m=k.natAbs):FV.agg [tv (.bool b),.t (sU true (dg 4294967296 m))]=kO k:=by subst h hm;rfl
theorem xG:FV.agg [tv (.bool false),.t (sU false [])]=kF 0:=by
 unfold kF
 rw[show Int.natAbs 0=0 from rfl,gJ]
 rfl
theorem dI (k:Int):jP (kO k):=by
 simp only[jP,kO,mP,List.map_cons,List.map_nil,hH,pJ,sU,jA]
 exact⟨trivial,.inl ⟨trivial,fK _⟩,trivial⟩
theorem xH (b:Bool) (m:Nat):jP (.agg (([.v (.bool b),sU true (dg 4294967296 m)]:List Tr).map .t)):=by
 simp only[jP,mP,List.map_cons,List.map_nil,hH,pJ,sU,jA]
 exact⟨trivial,.inl ⟨trivial,fK _⟩,trivial⟩
theorem Qq:CallOk Tryd.prog 84:=.mk Tryd.func84 (by decide) rfl
theorem rA {l R:List Nat}{c:Nat}(hl:Lim 256 l) (hR:l.dropWhile (· ==c)=R):aK true Tryd.prog 84 [] [.one (tv (.string (bU l))),.one (tv (.int .u8 ((c:Nat):Int)))] (aY (.one (tv (.string (bU R))))):=by
 refine cX Tryd.func84 rfl Tryd.ntmps84 rfl aB rfl fun N9 w9 c0 h0=>?_
 refine sq ?_;refine rl ?_;refine o1 ?_;refine nl ?_;refine sq ?_;refine bl ?_
 refine lp (γ:=List Nat) (fun l=>cW [(0,.one (tv (.string (bU l)))),(1,.one (tv (.int .u8 ((c:Nat):Int))))]) (fun _=>([]:List Ob).map some) (fun l=>Lim 256 l∧l.dropWhile (· ==c)=R) (fun l=>l.length) l ⟨hl,hR⟩ (bR h0 [] _ _ (by decide) ⟨rfl,rfl,trivial⟩ rfl) fun k hk=>?_
 refine sq ?_;refine sq ?_;refine rl ?_;refine o1 ?_;refine o1 ?_
 refine WL.cast (t:=6) (u':=.int .i64 ((k.length:Nat):Int)) rfl (congrArg (fun n:Nat=>Value.int .i64 (n:Int)) (kJ _)) ?_
 refine o1 ?_;refine o1 ?_;refine WL.split (t:=8) rfl (fun h1=>?_) (fun h1=>?_)
 ·refine o1 ?_;refine o1 ?_ (hC:=(by rw[kJ];show 0<k.length;omega))
  refine WL.cast (t:=10) (u':=.int .u8 (((nth k 0):Nat):Int)) rfl (congrArg (fun n:Nat=>Value.int .u8 (n:Int)) (Nf (i:=0) (by omega) (Gj (k:=0) hk.1 (by omega)))) ?_
  (iterate 3 refine o1 ?_);refine nl ?_;refine dO rfl (fun h2=>?_) (fun h2=>?_)
  ·refine sk ?_;refine bl ?_;refine rl ?_;refine o1 ?_;refine o1 ?_ (hC:=(by rw[kJ];show 1≤k.length;omega))
   refine WL.cast (t:=15) (u':=.string (bU (k.drop 1))) rfl (congrArg Value.string (Gi _ _)) ?_;refine o1 ?_;refine nl ?_
   exact⟨k.drop 1,by rw[List.length_drop];omega,⟨Dg hk.1 1,(Ae (by omega) (by omega)).trans hk.2⟩,bR h0 [] _ _ (by decide) ⟨rfl,rfl,trivial⟩ rfl⟩
  refine ex ?_;refine sq ?_;refine rl ?_;refine o1 ?_;refine o1 ?_;refine nl ?_;refine rt ?_
  exact en (.inl rfl) rfl (bM (dF _)) (by decide) (fun _=>trivial) (congrArg (fun z=>FV.one (tv (.string z))) (congrArg bU ((yJ (by omega) (by omega)).trans hk.2)))
 (iterate 4 refine jB ?_);refine o1 ?_;refine nl ?_;refine vU rfl ?_;refine ex ?_;refine sq ?_;refine rl ?_;refine o1 ?_;refine o1 ?_;refine nl ?_;refine rt ?_
 exact en (.inl rfl) rfl (bM (dF _)) (by decide) (fun _=>trivial) (congrArg (fun z=>FV.one (tv (.string z))) (congrArg bU ((yI (by omega)).trans hk.2)))
theorem yV {l:List Nat}(hl:Lim 256 l):aK true Tryd.prog 74 [] [.one (tv (.string (bU l))),.one (tv (.string ⟨#[48]⟩))] (aY (.one (tv (.string (bU (l.dropWhile (· ==48))))))):=by
 refine cX Tryd.func74 rfl Tryd.ntmps74 rfl aB rfl fun N9 w9 c0 h0=>?_
 refine sq ?_;refine rl ?_;refine o1 ?_;refine nl ?_;refine sq ?_;refine sq ?_;refine rl ?_;refine o1 ?_;refine o1 ?_
 refine WL.cast (t:=8) (u':=.bool (decide (l=[]))) rfl (congrArg Value.bool (uF hl)) ?_;refine o1 ?_;refine WL.splitb (t:=9) rfl (fun h1=>?_) (fun h1=>?_)
 ·refine jB ?_;refine jB ?_;refine o1 ?_;refine nl ?_;refine vT rfl ?_;refine sq ?_;refine rl ?_;refine o1 ?_;refine o1 ?_;refine nl ?_;refine rt ?_
  exact en (.inl rfl) rfl (bM (dF _)) (by decide) (fun _=>trivial) (congrArg (fun z=>FV.one (tv (.string z))) (congrArg bU (by rw[of_decide_eq_true h1];rfl)))
 refine o1 ?_;refine o1 ?_;refine WL.cast (t:=11) (u':=.bool false) rfl (congrArg Value.bool (uF (l:=[48]) (Lim.cons (by omega) Lim.nil))) ?_
 refine o1 ?_;refine nl ?_;refine vU rfl ?_;refine sk ?_;refine sq ?_;refine sq ?_;refine rl ?_;(iterate 3 refine o1 ?_)
 refine WL.cast (t:=16) (u':=.bool true) rfl (congrArg Value.bool rfl) ?_;refine o1 ?_;refine o1 ?_;refine o1 ?_ (hC:=(by decide))
 refine o1 ?_;refine WL.cast (t:=20) (u':=.bool true) rfl (congrArg Value.bool rfl) ?_;refine o1 ?_;refine nl ?_;refine vT rfl ?_;refine sq ?_;refine rl ?_;refine o1 ?_;refine o1 ?_
 refine o1 ?_ (hC:=(by decide))
 refine WL.cast (t:=24) (u':=.int .u8 ((48:Nat):Int)) rfl rfl ?_
 refine ca (rA (c:=48) hl rfl) Qq ⟨a1 rfl,a1 rfl,rfl⟩ (.one (tv (.string (bU (l.dropWhile (· ==48)))))) ?_;refine o1 ?_;refine nl ?_;refine rt ?_
 exact en (.inl rfl) rfl (bM (dF _)) (by decide) (fun _=>trivial) (congrArg (fun z=>FV.one (tv (.string z))) (rfl))
theorem Bh {t n:Nat}{xs:List Nat}(hn:xs.length=n) (hn2:n≤100000000):aK false Tryd.prog 73 [⟨t,1,(cH xs).map .t⟩] [.one (.sl 0 0 n)] (Rt [⟨t,1,(cH xs.reverse).map .t⟩] (.tup [])):=by
 subst hn;refine Qy Tryd.func73 rfl Tryd.ntmps73 rfl aB rfl fun N9 M9 w9 c0 h0=>?_
 refine sq ?_;refine rl ?_;(iterate 5 refine o1 ?_);refine nl ?_;refine bl ?_
 refine lp (γ:=Nat) (fun k=>cW [(0,.one (.sl 0 0 xs.length)),(2,.one (tv (.int .i64 ((k:Nat):Int)))),(3,.one (tv (.int .i64 ((xs.length:Int)-1-(k:Int):Int))))]) (fun k=>[(⟨t,1,(cH (dH xs k)).map .t⟩:Ob)].map some) (fun k=>2*k≤xs.length+1) (fun k=>xs.length-k) 0 (by omega) (Ke h0 [0] _ _ (by decide) rfl ⟨rfl,rfl,Ad (by omega),trivial⟩ ⟨dD (congrArg (fun l=>some (⟨t,1,(cH l).map .t⟩:Ob)) (Nj xs)),rfl⟩) fun k hk=>?_
 have hrl:=fA xs k
 refine sq ?_;refine sq ?_;refine rl ?_;(iterate 3 refine o1 ?_);refine nl ?_;refine dO rfl (fun h1=>?_) (fun h1=>?_)
 ·refine sk ?_;refine sq ?_;refine bl ?_;refine rd [] (fun i=>[15].contains i) mixed ?_
  refine dv 0 ?_;refine dv 1 ?_;refine dv 2 ?_;refine dv 3 ?_;refine WD.cast (t:=17) (u':=.int .i64 (((xs.length-1-k):Nat):Int)) rfl (bQ (by omega)) ?_
  refine dv 4 ?_;refine dv 5 ?_;refine WD.cast (t:=19) (u':=.int .i64 (((xs.length-1-k):Nat):Int)) rfl (bQ (by omega)) ?_
  refine dv 6 ?_;refine dv 8 ?_;refine dv 9 ?_;refine dv 10 ?_;refine WO.two (i:=7) (j:=11) (by kernel_rfl) ?_ ?_
  ·refine yG 7 (sM (dH xs k) (k:=(xs.length-1-k)) (by omega)) ?_
   refine WO.one (by kernel_rfl) (yG 11 (sM (dH xs k) (k:=k) (by omega)) ?_)
   refine dv 12 ?_;refine Eu 13 (mY (dH xs k) (k:=k) (v:=nth (dH xs k) ((xs.length-1-k))) (by omega)) (pO (dH xs k) (by omega)) ?_
   refine dv 14 ?_
   refine Jy 15 (mY ((dH xs k).set (k) (nth (dH xs k) ((xs.length-1-k)))) (k:=(xs.length-1-k)) (v:=nth (dH xs k) (k)) (by simp only[List.length_set];omega)) (pO ((dH xs k).set (k) (nth (dH xs k) ((xs.length-1-k)))) (by simp only[List.length_set];omega)) ?_
   refine cL ?_;refine rl ?_;refine o1 ?_;refine o1 ?_;refine WL.cast (t:=11) (u':=.int .i64 ((k+1:Nat):Int)) rfl (bQ (by omega)) ?_
   (iterate 4 refine o1 ?_);refine nl ?_
   exact⟨k+1,by omega,by omega,Ke h0 [0] _ _ (by decide) rfl ⟨rfl,rfl,Ad (by omega),trivial⟩ ⟨dD (congrArg (fun l=>some (⟨t,1,(cH l).map .t⟩:Ob)) (Ey (by omega))),rfl⟩⟩
  refine yG 11 (sM (dH xs k) (k:=k) (by omega)) ?_
  refine WO.one (by kernel_rfl) (yG 7 (sM (dH xs k) (k:=(xs.length-1-k)) (by omega)) ?_)
  refine dv 12 ?_;refine Eu 13 (mY (dH xs k) (k:=k) (v:=nth (dH xs k) ((xs.length-1-k))) (by omega)) (pO (dH xs k) (by omega)) ?_
  refine dv 14 ?_
  refine Jy 15 (mY ((dH xs k).set (k) (nth (dH xs k) ((xs.length-1-k)))) (k:=(xs.length-1-k)) (v:=nth (dH xs k) (k)) (by simp only[List.length_set];omega)) (pO ((dH xs k).set (k) (nth (dH xs k) ((xs.length-1-k)))) (by simp only[List.length_set];omega)) ?_
  refine cL ?_;refine rl ?_;refine o1 ?_;refine o1 ?_;refine WL.cast (t:=11) (u':=.int .i64 ((k+1:Nat):Int)) rfl (bQ (by omega)) ?_
  (iterate 4 refine o1 ?_);refine nl ?_
  exact⟨k+1,by omega,by omega,Ke h0 [0] _ _ (by decide) rfl ⟨rfl,rfl,Ad (by omega),trivial⟩ ⟨dD (congrArg (fun l=>some (⟨t,1,(cH l).map .t⟩:Ob)) (Ey (by omega))),rfl⟩⟩
 refine ex ?_
 exact Qz (lent':=[⟨t,1,(cH xs.reverse).map .t⟩]) (.inr rfl) rfl Ra (by decide) (fun _ h=>by cases h) ⟨⟨rfl,rfl⟩,trivial⟩ ⟨congrArg (fun l=>some (⟨t,1,(cH l).map .t⟩:Ob)) (Gl (by omega)),trivial⟩ ⟨zV _,trivial⟩ (fun h=>by cases h) ⟨rfl,rfl⟩
theorem Fg {xs:List Nat}{v:Nat}(hx:xs.length≤1000000) (hl:Lim 4294967296 xs) (hv0:vl 4294967296 xs=v):aK true Tryd.prog 56 [] [.one (.t (sU false xs))] (aY (.one (tv (.string (bU (tx v)))))):=by
 refine cX Tryd.func56 rfl Tryd.ntmps56 rfl aB rfl fun N9 w9 c0 h0=>?_
 have hvL:v<4294967296^xs.length:=hv0▸dB hl
 have hvl:=bZ (k:=xs.length) (by omega) hvL
 refine sq ?_;refine rl ?_;refine o1 ?_;refine nl ?_;refine sq ?_;refine rl ?_;refine Rm 0 ?_;refine nl ?_;refine sq ?_;refine rl ?_;refine o1 ?_;refine nl ?_;refine sq ?_;refine sq ?_
 refine rl ?_;refine o1 ?_;refine ca (Hc hl (by omega) hv0) Qj ⟨a1 rfl,rfl⟩ (.one (.t (sU false (dg 4294967296 v)))) ?_
 refine o1 ?_;refine nl ?_;refine bl ?_
 refine lp (γ:=(List Nat×List Nat)×Nat) (fun s=>cW [(0,.one (.t (sU false (dg 4294967296 s.2)))),(3,.one (.pt 0 0)),(4,.one (.sl 1 0 s.1.1.length))]) (fun s=>[(⟨94,1,(cH s.1.2).map .t⟩:Ob),⟨5,1,(cH (cP s.1.1)).map .t⟩].map some) (fun s=>s.1.2.length=9∧Lim 10 s.1.1∧vl 10 s.1.1+10^s.1.1.length*s.2=v∧s.2≤v∧s.1.1.length≤10*xs.length+9) (fun s=>s.2) (([],List.replicate 9 0),v) ⟨rfl,Lim.nil,(by simp[vl]),Nat.le_refl _,Nat.zero_le _⟩ ((nr (i:=4) 1 5 1 rfl rfl rfl rfl).trans (bR h0 [0,1] _ _ (by decide) ⟨rfl,rfl,rfl,trivial⟩ ⟨dD rfl,dD (l:=[]) rfl,rfl⟩)) ?_
 rintro⟨⟨ds,mX⟩,u⟩ ⟨ho,hd,hv,hu,hdl⟩;dsimp only at ho hd hv hu hdl⊢;have hul:=nB hu
 refine sq ?_;refine sq ?_;refine rl ?_;(iterate 3 refine o1 ?_);refine nl ?_;refine dO rfl (fun h1=>?_) (fun h1=>?_)
 ·refine sk ?_;refine bl ?_;refine sq ?_;have hup:=yK (B:=4294967296) (u:=u) (by omega)
  refine rl ?_;refine o1 ?_
  refine ca (Lj (u:=u) (d:=1000000000) (by omega) (by omega) (by omega)) Qm ⟨a1 rfl,a1 rfl,rfl⟩ (.tup [.one (.t (sU false (dg 4294967296 (u/1000000000)))),.one (tv (.int .u32 ((u%1000000000:Nat):Int))),.one (tv (.int .i64 0))]) ?_
  (iterate 7 refine o1 ?_);refine nl ?_;refine sq ?_;refine sq ?_;refine rl ?_;refine o1 ?_;refine nl ?_;refine bl ?_
  refine lp (γ:=Nat) (fun i=>cW [(3,.one (.pt 0 0)),(4,.one (.sl 1 0 ds.length)),(5,.one (.t (sU false (dg 4294967296 (u/1000000000))))),(6,.one (tv (.int .u32 ((u%1000000000/10^i:Nat):Int)))),(21,.one (tv (.int .i64 ((i:Nat):Int))))]) (fun i=>[(⟨94,1,(cH (cP (fd (i) (u%1000000000))++mX.drop (i))).map .t⟩:Ob),⟨5,1,(cH (cP ds)).map .t⟩].map some) (fun i=>i≤9) (fun i=>9-i) 0 (Nat.zero_le _) (bR h0 [0,1] _ _ (by decide) ⟨rfl,rfl,rfl,Ad (by rw[Nat.pow_zero,Nat.div_one]),rfl,trivial⟩ ⟨dD rfl,dD rfl,rfl⟩) fun i hi=>?_
  have hlen:(cP (fd (i) (u%1000000000))++mX.drop (i)).length=9:=by rw[List.length_append,eR,iA,List.length_drop];omega
  have hdi:u%1000000000/10^i≤u%1000000000:=Nat.div_le_self _ _
  refine sq ?_;refine rl ?_;refine o1 ?_;refine nl ?_;refine sq ?_;refine dO rfl (fun h2=>?_) (fun h2=>?_)
  ·refine sk ?_;refine sq ?_;refine bl ?_;refine sq ?_;refine rl ?_;refine o1 ?_;refine o1 ?_;refine nl ?_;refine sq ?_;refine rl ?_;(iterate 3 refine o1 ?_)
   refine WL.cast (t:=26) (u':=.int .u32 (((u%1000000000/10^i%10):Nat):Int)) rfl (bQ (nQ _ 10)) ?_;refine o1 ?_
   refine WL.cast (t:=27) (u':=.int .u8 (((u%1000000000/10^i%10):Nat):Int)) rfl (bQ (by omega)) ?_
   refine o1 ?_;refine WL.cast (t:=28) (u':=.int .u8 (((48+u%1000000000/10^i%10):Nat):Int)) rfl (bQ (by omega)) ?_
   refine o1 ?_
   refine Rj (mY (cP (fd (i) (u%1000000000))++mX.drop (i)) (k:=i) (v:=48+u%1000000000/10^i%10) (by omega)) (pO (cP (fd (i) (u%1000000000))++mX.drop (i)) (by omega)) ?_
   refine nl ?_;refine rl ?_;refine o1 ?_;refine o1 ?_ (hC:=(pZ 10 (by omega) (Nn (Nat.lt_of_le_of_lt hdi (by omega)))))
   refine WL.cast (t:=31) (u':=.int .u32 (((u%1000000000/10^i/10):Nat):Int)) rfl (bQ (kU _ 10)) ?_;refine o1 ?_;refine nl ?_;refine rl ?_;refine o1 ?_
   refine WL.cast (t:=32) (u':=.int .i64 ((i+1:Nat):Int)) rfl (bQ (by omega)) ?_
   refine o1 ?_;refine nl ?_
   exact⟨i+1,by omega,by omega,bR h0 [0,1] _ _ (by decide) ⟨rfl,rfl,rfl,Ad (by rw[Nat.pow_succ,Nat.div_div_eq_div_mul]),rfl,trivial⟩ ⟨dD (congrArg (fun l=>some (⟨94,1,(cH l).map .t⟩:Ob)) (Kr (by omega) ho)),dD rfl,rfl⟩⟩
  refine ex ?_;have hi9:i=9:=by omega
  subst hi9;have he9:(cP (fd (9) (u%1000000000))++mX.drop (9))=cP (fd 9 (u%1000000000)):=by rw[List.drop_of_length_le (by omega),List.append_nil]
  refine sq ?_;refine rl ?_;refine o1 ?_
  refine Ng (m:=9) (by_:=1) 2 (DstA.sl (k:=1) (n:=ds.length) (e:=5) (z:=1) rfl (by rw[yH,eR])) (Ex _) (Gh _) (by rw[yH,hlen]) (by omega) (by omega) ?_
  refine o1 ?_;refine nl ?_;refine rl ?_;refine o1 ?_;refine o1 ?_;refine nl ?_
  exact⟨((ds++fd 9 (u%1000000000),cP (fd 9 (u%1000000000))),u/1000000000),by dsimp only;omega,⟨by dsimp only;rw[eR,iA],hd.append (Kq _ _),Nm hv,by dsimp only;omega,by dsimp only;rw[List.length_append,iA];have:=Gm hv hup hvL;omega⟩,bR h0 [0,2] _ _ (by decide) ⟨rfl,rfl,congrArg (fun n=>some (FV.one (.sl 2 0 n))) (show(ds++fd 9 (u%1000000000)).length=ds.length+9 by rw[List.length_append,iA]),trivial⟩ ⟨dD (congrArg (fun l=>some (⟨94,1,(cH l).map .t⟩:Ob)) he9),dD (congrArg (fun l=>some (⟨5,1,l⟩:Ob)) ((Kn _ _).trans (congrArg (fun l:List Nat=>(cH l).map AV.t) (show cP ds++(cP (fd (9) (u%1000000000))++mX.drop (9))=cP (ds++fd 9 (u%1000000000)) by rw[he9,wR])))),rfl⟩⟩
 refine ex ?_;refine sq ?_;have hu0:u=0:=(cZ (B:=4294967296) (by omega)).1 (List.eq_nil_of_length_eq_zero (by omega))
 subst hu0;rw[Nat.mul_zero,Nat.add_zero]at hv;refine rl ?_;refine o1 ?_
 refine cl 2 [1] (Bh (t:=5) (xs:=cP ds) (n:=ds.length) (eR ds) (by omega)) Qn ⟨dD rfl,rfl⟩ ⟨rfl,rfl⟩ (ok:=[some ⟨5,1,(cH (cP ds).reverse).map .t⟩]) ⟨dD rfl,rfl⟩ ?_
 refine nl ?_;refine sq ?_;refine sq ?_;refine rl ?_;refine o1 ?_
 refine Rn (xs:=(cP ds).reverse) (Ku rfl (by rw[List.length_reverse,eR])) (by rw[List.length_reverse,eR]) ?_
 refine ca (yV (wQ (wS hd))) Qo ⟨a1 rfl,a1 rfl,rfl⟩ (.one (tv (.string (bU ((cP ds).reverse.dropWhile (· ==48)))))) ?_;refine o1 ?_;refine nl ?_;refine sq ?_
 refine rl ?_;refine o1 ?_;refine o1 ?_
 refine WL.cast (t:=43) (u':=.bool (!decide (((cP ds).reverse.dropWhile (· ==48))=[]))) rfl (congrArg Value.bool (congrArg not (uF (Ks (wQ (wS hd)))))) ?_;refine nl ?_
 refine rL rfl (fun h3=>?_) (fun h3=>?_)
 ·refine sq ?_;refine rl ?_;refine o1 ?_;refine o1 ?_;refine nl ?_;refine rt ?_
  exact en (.inl rfl) rfl (bM (dF _)) (by decide) (fun _=>trivial) (congrArg (fun z=>FV.one (tv (.string z))) (congrArg bU (Gn hd hv h3)))
 refine sk ?_;refine sq ?_;refine rl ?_;refine o1 ?_;refine nl ?_;refine rt ?_
 exact en (.inl rfl) rfl (bM (dF _)) (by decide) (fun _=>trivial) (congrArg (fun z=>FV.one (tv (.string z))) (congrArg bU (Kt hd hv h3)))
theorem Bi {xs:List Nat}(hx:xs.length≤4398046511104):aK false Tryd.prog 78 [] [.one (.t (sI false xs))] (aY (.one (.t (sI false (trim xs))))):=by
 refine cX Tryd.func78 rfl Tryd.ntmps78 rfl aB rfl fun N w c0 h0=>?_
 refine sq ?_;refine rl ?_;refine o1 ?_;refine nl ?_;refine sq ?_;refine bl ?_
 refine lp (γ:=List Nat) (fun zs=>cW [(0,.one (.t (sI false zs)))]) (fun _=>([]:List Ob).map some) (fun zs=>trim zs=trim xs∧zs.length≤xs.length) (fun zs=>zs.length) xs ⟨rfl,Nat.le_refl _⟩ (bR h0 [] _ _ (by decide) ⟨rfl,trivial⟩ rfl) fun zs hz=>?_
 refine sq ?_;refine sq ?_;refine rl ?_;(iterate 4 refine o1 ?_);refine WL.split (t:=6) rfl (fun h1=>?_) (fun h1=>?_)
 ·(iterate 4 refine o1 ?_);refine WL.cast (t:=10) (u':=.int .i64 ((zs.length-1:Nat):Int)) rfl (bQ (by omega)) ?_
  refine o1 ?_;refine lZ ([.v (.int .i64 ((nth zs (zs.length-1):Nat):Int))]) (kT zs (k:=zs.length-1) (by omega)) ?_
  refine o1 ?_;refine o1 ?_;refine nl ?_;refine dO rfl (fun h2=>?_) (fun h2=>?_)
  ·refine sk ?_;refine bl ?_;refine rl ?_;(iterate 4 refine o1 ?_);refine WL.cast (t:=18) (u':=.int .i64 ((zs.length-1:Nat):Int)) rfl (bQ (by omega)) ?_
   refine o1 ?_;refine o1 ?_;refine nl ?_
   exact⟨zs.take (zs.length-1),by rw[List.length_take];omega,⟨(by rw[rE (xs:=zs) (k:=zs.length) (by omega) (Nat.le_refl _) (by omega),List.take_length];exact hz.1),by rw[List.length_take];omega⟩,bR h0 [] _ _ (by decide) ⟨congrArg some (Lo (by omega)).symm,trivial⟩ rfl⟩
  refine ex ?_;refine sq ?_;refine rl ?_;refine o1 ?_;refine o1 ?_;refine nl ?_;refine rt ?_;refine en (.inl rfl) rfl (bM (.one (.id rfl))) (by decide) (fun h=>by cases h) ?_
  have hx:trim xs=zs:=by
   rw[←hz.1];have h9:=mC (xs:=zs) (k:=zs.length) (by omega) (Nat.le_refl _) (by omega)
   rwa[List.take_length]at h9
  rw[hx];rfl
 (iterate 7 refine jB ?_);refine o1 ?_;refine nl ?_;refine vU rfl ?_;refine ex ?_;refine sq ?_;refine rl ?_;refine o1 ?_;refine o1 ?_;refine nl ?_;refine rt ?_
 refine en (.inl rfl) rfl (bM (.one (.id rfl))) (by decide) (fun h=>by cases h) ?_
 have hx:trim xs=zs:=by
  have h9:zs=[]:=List.eq_nil_of_length_eq_zero (by omega)
  rw[←hz.1,h9];rfl
 rw[hx];rfl
theorem eX {xs:List Nat}(hx:xs.length≤1099511627776) (hl:Lim 4294967296 xs):aK false Tryd.prog 62 [] [.one (.t (sU false xs))] (aY (.one (.t (sI false (dg 65536 (vl 4294967296 xs)))))):=by
 refine cX Tryd.func62 rfl Tryd.ntmps62 rfl aB rfl fun N w c0 h0=>?_
 refine sq ?_;refine rl ?_;refine o1 ?_;refine nl ?_;refine sq ?_;refine rl ?_;refine o1 ?_;refine nl ?_;refine sq ?_;refine sq ?_;refine rl ?_;refine o1 ?_;refine nl ?_;refine bl ?_
 refine lp (γ:=Nat) (fun k=>cW [(0,.one (.t (sU false xs))),(3,.one (.sl 0 0 (2*k))),(4,.one (tv (.int .i64 ((k:Nat):Int))))]) (fun k=>[(⟨3,1,(eG (hv (xs.take k))).map .t⟩:Ob)].map some) (fun k=>k≤xs.length) (fun k=>xs.length-k) 0 (Nat.zero_le _) ((nr (i:=3) 0 3 1 rfl rfl rfl rfl).trans (bR h0 [0] _ _ (by decide) ⟨rfl,rfl,rfl,trivial⟩ ⟨dD (l:=[]) rfl,rfl⟩)) fun k hk=>?_
 have hn:=hl.nth (by omega) k
 refine sq ?_;refine sq ?_;refine rl ?_;(iterate 4 refine o1 ?_);refine nl ?_;refine dO rfl (fun h1=>?_) (fun h1=>?_)
 ·refine sk ?_;refine sq ?_;refine bl ?_;refine rd [] (fun i=>[15].contains i) mixed ?_
  refine dv 0 ?_;refine dv 1 ?_;refine dv 2 ?_;refine dv 3 ?_;refine wI 4 ([.v (.int .u32 ((nth xs (k):Nat):Int))]) (jG xs (k:=k) (by omega)) ?_
  refine dv 5 ?_;refine WD.cast (t:=16) (u':=.int .u32 ((nth xs k%65536:Nat):Int)) rfl (bQ (nQ _ 65536)) ?_;refine dv 6 ?_;refine dv 7 ?_;refine dv 8 ?_;refine dv 9 ?_
  refine wI 10 ([.v (.int .u32 ((nth xs (k):Nat):Int))]) (jG xs (k:=k) (by omega)) ?_
  refine dv 11 ?_ (hC:=(pZ 65536 (by omega) (by simp only[fV];omega)))
  refine WD.cast (t:=22) (u':=.int .u32 ((nth xs k/65536:Nat):Int)) rfl (bQ (kU _ 65536)) ?_;refine dv 12 ?_;refine Jn (key:=1) 13 (by kernel_rfl) rfl rfl aB rfl trivial ?_
  refine Mx (j:=2) 14 rfl aB rfl rfl rfl (.sl rfl (by rw[List.length_map,gU,pY,List.length_take];omega)) (.sl rfl rfl rfl) rfl rfl (by omega) (by omega) rfl rfl (by kernel_rfl) rfl ?_
  refine tU 15 (by kernel_rfl) rfl rfl aB rfl (by trivial) ?_ (fun h=>by first | rfl | cases h)
  refine cL ?_;refine rl ?_;(iterate 3 refine o1 ?_);refine nl ?_
  exact⟨k+1,by omega,by omega,bR h0 [2] _ _ (by decide) ⟨rfl,rfl,rfl,trivial⟩ ⟨Bg rfl (jH _ [nth xs k%65536,nth xs k/65536]) (Hd (by omega)).symm,rfl⟩⟩
 refine ex ?_;refine sq ?_;refine rl ?_;refine WL.sub (Lp (i:=3) (zs':=hv xs) rfl rfl rfl (by rw[pY,List.length_take];omega) (by rw[List.take_of_length_le (by omega)])) ?_
 refine o1 ?_;refine ca (Bi (by rw[pY];omega)) Jw ⟨a1 rfl,rfl⟩ (.one (.t (sI false (trim (hv xs))))) ?_
 refine o1 ?_;refine nl ?_;refine rt ?_;exact en (.inl rfl) rfl (bM (.one (.id rfl))) (by decide) (fun h=>by cases h) (by rw[Ns hl];rfl)
theorem oT {xs:List Nat}(hx:xs.length≤4398046511104) (hl:Lim 65536 xs):aK true Tryd.prog 64 [] [.one (.t (sI false xs))] (aY (.one (.t (sU true (dg 4294967296 (vl 65536 xs)))))):=by
 refine cX Tryd.func64 rfl Tryd.ntmps64 rfl aB rfl fun N w c0 h0=>?_
 refine sq ?_;refine rl ?_;refine o1 ?_;refine nl ?_;refine sq ?_;refine rl ?_;refine o1 ?_;refine nl ?_;refine sq ?_;refine rl ?_;refine o1 ?_
 refine ca (Bi hx) Jw ⟨a1 rfl,rfl⟩ (.one (.t (sI false (trim xs)))) ?_;refine o1 ?_;refine nl ?_;refine sq ?_;refine sq ?_;have htl:=aZ xs
 have hlt:=hl.trim
 generalize hY:trim xs=ys at htl hlt;refine rl ?_;refine o1 ?_;refine nl ?_;refine bl ?_
 refine lp (γ:=Nat) (fun k=>cW [(0,.one (.t (sI false ys))),(3,.one (.sl 0 0 k)),(4,.one (tv (.int .i64 ((2*k:Nat):Int))))]) (fun k=>[(⟨70,1,(aW (lb (ys.take (2*k)))).map .t⟩:Ob)].map some) (fun k=>2*k≤ys.length+1) (fun k=>ys.length+1-2*k) 0 (Nat.zero_le _) ((nr (i:=3) 0 70 1 rfl rfl rfl rfl).trans (bR h0 [0] _ _ (by decide) ⟨rfl,rfl,rfl,trivial⟩ ⟨dD (l:=[]) rfl,rfl⟩)) fun k hk=>?_
 have hn:=hlt.nth (by omega) (2*k)
 have hn2:=hlt.nth (by omega) (2*k+1)
 refine sq ?_;refine sq ?_;refine rl ?_;(iterate 4 refine o1 ?_);refine nl ?_;refine dO rfl (fun h1=>?_) (fun h1=>?_)
 ·refine sk ?_;refine sq ?_;refine bl ?_;refine sq ?_;refine rl ?_;refine o1 ?_;refine nl ?_;refine sq ?_;refine sq ?_;refine rl ?_;refine o1 ?_;refine o1 ?_
  refine WL.cast (t:=15) (u':=.int .i64 ((2*k+1:Nat):Int)) rfl (bQ (by omega)) ?_
  (iterate 3 refine o1 ?_);refine nl ?_;refine dO rfl (fun h2=>?_) (fun h2=>?_)
  ·refine rl ?_;(iterate 3 refine o1 ?_);refine WL.cast (t:=21) (u':=.int .i64 ((2*k+1:Nat):Int)) rfl (bQ (by omega)) ?_
   refine o1 ?_;refine lZ ([.v (.int .i64 ((nth ys (2*k+1):Nat):Int))]) (kT ys (k:=2*k+1) (by omega)) ?_
   refine o1 ?_;refine nl ?_;refine rl ?_;(iterate 4 refine o1 ?_);refine lZ ([.v (.int .i64 ((nth ys (2*k):Nat):Int))]) (kT ys (k:=2*k) (by omega)) ?_
   (iterate 5 refine o1 ?_);refine WL.cast (t:=33) (u':=.int .u32 ((nth ys (2*k)+65536*nth ys (2*k+1):Nat):Int)) rfl (bQ (by omega)) ?_
   refine bs 1 ?_;refine iM (j:=2) aB rfl rfl rfl rfl (.sl rfl (by rw[List.length_map,gT,kS,List.length_take];omega)) (.sl rfl rfl rfl) rfl rfl rfl (by omega) (by omega) ?_
   refine o1 ?_;refine nl ?_;refine rl ?_;(iterate 3 refine o1 ?_);refine nl ?_
   exact⟨k+1,by omega,by omega,bR h0 [2] _ _ (by decide) ⟨rfl,rfl,rfl,trivial⟩ ⟨On rfl (uS _ [nth ys (2*k)+65536*nth ys (2*k+1)]) (qZ (by omega)).symm,rfl⟩⟩
  have hz:=dC (l:=ys) (k:=2*k+1) (by omega)
  refine sk ?_;refine rl ?_;(iterate 4 refine o1 ?_);refine lZ ([.v (.int .i64 ((nth ys (2*k):Nat):Int))]) (kT ys (k:=2*k) (by omega)) ?_
  (iterate 5 refine o1 ?_);refine WL.cast (t:=33) (u':=.int .u32 ((nth ys (2*k)+65536*nth ys (2*k+1):Nat):Int)) rfl (bQ (by omega)) ?_
  refine bs 1 ?_;refine iM (j:=2) aB rfl rfl rfl rfl (.sl rfl (by rw[List.length_map,gT,kS,List.length_take];omega)) (.sl rfl rfl rfl) rfl rfl rfl (by omega) (by omega) ?_
  refine o1 ?_;refine nl ?_;refine rl ?_;(iterate 3 refine o1 ?_);refine nl ?_
  exact⟨k+1,by omega,by omega,bR h0 [2] _ _ (by decide) ⟨rfl,rfl,rfl,trivial⟩ ⟨On rfl (uS _ [nth ys (2*k)+65536*nth ys (2*k+1)]) (qZ (by omega)).symm,rfl⟩⟩
 refine ex ?_;refine sq ?_;refine rl ?_;refine o1 ?_;refine o1 ?_;refine nl ?_;refine rt ?_
 exact en (.inl rfl) rfl (bM (.one (.sl (trs:=aW (lb ys)) rfl rfl (by rw[List.take_of_length_le (l:=ys) (by omega),List.take_of_length_le (by simp[gT,kS];omega)]) (by rw[gT,kS];omega)))) (by decide) (fun _=>.inl ⟨rfl,fK _⟩) (by rw[←Nt,cA (by omega) hl,hY];unfold sU;rw[show k=(lb ys).length by rw[kS];omega];rfl)
theorem iN {xs:List Nat}{k:Nat}:aK true Tryd.prog 63 [] [.one (.t (sI false xs)),.one (tv (.int .i64 ((k:Nat):Int)))] (aY (.one (tv (.int .i64 ((nth xs k:Nat):Int))))):=by
 refine cX Tryd.func63 rfl Tryd.ntmps63 rfl aB rfl fun N w c0 h0=>?_
 refine sq ?_;refine rl ?_;refine o1 ?_;refine nl ?_;refine sq ?_;refine sq ?_;refine rl ?_;(iterate 4 refine o1 ?_);refine nl ?_;refine dO rfl (fun h1=>?_) (fun h1=>?_)
 ·refine sq ?_;refine rl ?_;(iterate 3 refine o1 ?_);refine lZ ([.v (.int .i64 ((nth xs (k):Nat):Int))]) (kT xs (k:=k) (by omega)) ?_
  refine o1 ?_;refine nl ?_;refine rt ?_;refine en (.inl rfl) rfl (bM (dF _)) (by decide) (fun _=>trivial) ?_
  rfl
 refine sk ?_;refine sq ?_;refine rl ?_;refine o1 ?_;refine nl ?_;refine rt ?_;refine en (.inl rfl) rfl (bM (dF _)) (by decide) (fun _=>trivial) ?_
 rw[dC (by omega)];rfl
theorem Hg {xs:List Nat}(hx:xs.length≤1099511627776) (hlx:Lim 4294967296 xs):aK true Tryd.prog 60 [] [.one (.t (sU false xs))] (aY (.one (.t (sU true (dg 4294967296 (vl 4294967296 xs)))))):=by
 refine cX Tryd.func60 rfl Tryd.ntmps60 rfl aB rfl fun N w c0 h0=>?_
 have hd:=eA (v:=vl 4294967296 xs) (L:=xs.length) (by rw[cA (by omega) hlx];exact aZ _)
 have hl9:=aL (B:=65536) (by omega) (vl 4294967296 xs)
 refine sq ?_;refine rl ?_;refine o1 ?_;refine nl ?_;refine sq ?_;refine rl ?_;refine o1 ?_
 refine ca (eX hx hlx) oP ⟨a1 rfl,rfl⟩ (.one (.t (sI false (dg 65536 (vl 4294967296 xs))))) ?_;refine mW 0 (oT (by omega) (by assumption)) Cz ⟨a1 rfl,rfl⟩ ?_
 refine o1 ?_;refine nl ?_;refine rt ?_
 exact en (.inl rfl) rfl (bM (.one (.sl (trs:=aW (dg 4294967296 (vl 65536 (dg 65536 (vl 4294967296 xs))))) rfl rfl (bY _) (bS _)))) (by decide) (fun _=>.inl ⟨rfl,fK _⟩) (by rw[bJ (by omega)];rfl)
theorem Lq {xs ys:List Nat}(hx:xs.length≤1099511627776) (hlx:Lim 4294967296 xs) (hy:ys.length≤1099511627776) (hly:Lim 4294967296 ys):aK true Tryd.prog 54 [] [.one (.t (sU false xs)),.one (.t (sU false ys))] (aY (.one (tv (.int .i64 (((vl 4294967296 xs:Nat):Int)-((vl 4294967296 ys:Nat):Int)).sign)))):=by
 refine cX Tryd.func54 rfl Tryd.ntmps54 rfl aB rfl fun N w c0 h0=>?_
 refine sq ?_;refine rl ?_;refine o1 ?_;refine nl ?_;refine sq ?_;refine rl ?_;refine o1 ?_
 refine ca (eX hx hlx) oP ⟨a1 rfl,rfl⟩ (.one (.t (sI false (dg 65536 (vl 4294967296 xs))))) ?_;refine o1 ?_
 refine ca (eX hy hly) oP ⟨a1 rfl,rfl⟩ (.one (.t (sI false (dg 65536 (vl 4294967296 ys))))) ?_;refine o1 ?_;refine o1 ?_;refine nl ?_;refine sq ?_;refine sq ?_
 have hdx:=eA (v:=vl 4294967296 xs) (L:=xs.length) (by rw[cA (by omega) hlx];exact aZ _)
 have hdy:=eA (v:=vl 4294967296 ys) (L:=ys.length) (by rw[cA (by omega) hly];exact aZ _)
 have hX:=aL (B:=65536) (by omega) (vl 4294967296 xs)
 have hY:=aL (B:=65536) (by omega) (vl 4294967296 ys)
 have hvX:=bJ (B:=65536) (by omega) (vl 4294967296 xs)
 have hvY:=bJ (B:=65536) (by omega) (vl 4294967296 ys)
 generalize dg 65536 (vl 4294967296 xs)=X at hdx hX hvX⊢;generalize dg 65536 (vl 4294967296 ys)=Y at hdy hY hvY⊢;refine rl ?_;(iterate 5 refine o1 ?_)
 refine WL.cast (t:=16) (u':=.int .i64 ((max X.length Y.length:Nat):Int)) rfl (bQ (by omega)) ?_
 refine o1 ?_;refine o1 ?_;refine nl ?_;refine bl ?_
 refine lp (γ:=Nat) (fun k=>cW [(5,.one (.t (sI false X))),(6,.one (.t (sI false Y))),(7,.one (tv (.int .i64 ((k:Nat)-1))))]) (fun k=>([]:List Ob).map some) (fun k=>(∀j,k≤j→nth X j=nth Y j)∧k≤max X.length Y.length) (fun k=>k) (max X.length Y.length) ⟨fun j hj=>by rw[dC (by omega),dC (by omega)],Nat.le_refl _⟩ (bR h0 [] _ _ (by decide) ⟨rfl,rfl,rfl,trivial⟩ rfl) fun k hk=>?_
 refine sq ?_;refine sq ?_;refine rl ?_;refine o1 ?_;refine o1 ?_;refine nl ?_;refine dO rfl (fun h1=>?_) (fun h1=>?_)
 ·refine sk ?_;refine sq ?_;refine bl ?_;refine sq ?_;refine sq ?_;refine rl ?_;refine o1 ?_;refine o1 ?_
  refine WL.cast (t:=23) (u':=.int .i64 ((k-1:Nat):Int)) rfl (bQ (by omega)) ?_
  refine ca (iN) lO ⟨a1 rfl,a1 rfl,rfl⟩ (.one (tv (.int .i64 ((nth X (k-1):Nat):Int)))) ?_;refine o1 ?_;refine o1 ?_
  refine WL.cast (t:=26) (u':=.int .i64 ((k-1:Nat):Int)) rfl (bQ (by omega)) ?_
  refine ca (iN) lO ⟨a1 rfl,a1 rfl,rfl⟩ (.one (tv (.int .i64 ((nth Y (k-1):Nat):Int)))) ?_;refine o1 ?_;refine nl ?_;refine dO rfl (fun h2=>?_) (fun h2=>?_)
  ·refine sq ?_;refine rl ?_;refine o1 ?_;refine nl ?_;refine rt ?_;refine en (.inl rfl) rfl (bM (dF _)) (by decide) (fun _=>trivial) (congrArg (fun z=>FV.one (tv (.int .i64 z))) ?_)
   have he:=Ff (X:=X) (Y:=Y) (k:=k-1) hX (fun j hj=>hk.1 j (by omega)) (by omega)
   rw[hvX,hvY]at he;rw[Int.sign_eq_neg_one_of_neg (by omega)]
  refine sk ?_;refine sq ?_;refine rl ?_;refine o1 ?_;refine o1 ?_;refine WL.cast (t:=30) (u':=.int .i64 ((k-1:Nat):Int)) rfl (bQ (by omega)) ?_
  refine ca (iN) lO ⟨a1 rfl,a1 rfl,rfl⟩ (.one (tv (.int .i64 ((nth X (k-1):Nat):Int)))) ?_;refine o1 ?_;refine o1 ?_
  refine WL.cast (t:=33) (u':=.int .i64 ((k-1:Nat):Int)) rfl (bQ (by omega)) ?_
  refine ca (iN) lO ⟨a1 rfl,a1 rfl,rfl⟩ (.one (tv (.int .i64 ((nth Y (k-1):Nat):Int)))) ?_;refine o1 ?_;refine nl ?_;refine dO rfl (fun h3=>?_) (fun h3=>?_)
  ·refine sq ?_;refine rl ?_;refine o1 ?_;refine nl ?_;refine rt ?_;refine en (.inl rfl) rfl (bM (dF _)) (by decide) (fun _=>trivial) (congrArg (fun z=>FV.one (tv (.int .i64 z))) ?_)
   have he:=Ff (X:=Y) (Y:=X) (k:=k-1) hY (fun j hj=>(hk.1 j (by omega)).symm) (by omega)
   rw[hvX,hvY]at he;rw[Int.sign_eq_one_of_pos (by omega)]
  refine sk ?_;refine rl ?_;(iterate 3 refine o1 ?_);refine nl ?_
  exact⟨k-1,by omega,⟨fun j hj=>(Nat.eq_or_lt_of_le hj).elim (fun h9=>by rw[←h9];omega) (fun h9=>hk.1 j (by omega)),by omega⟩,bR h0 [] _ _ (by decide) ⟨rfl,rfl,congrArg (fun z=>some (FV.one (tv (.int .i64 z)))) (by omega),trivial⟩ rfl⟩
 refine ex ?_;refine sq ?_;refine rl ?_;refine o1 ?_;refine nl ?_;refine rt ?_
 refine en (.inl rfl) rfl (bM (dF _)) (by decide) (fun _=>trivial) (congrArg (fun z=>FV.one (tv (.int .i64 z))) ?_)
 have he:=Ln (fun j=>hk.1 j (by omega))
 rw[hvX,hvY]at he;rw[he,Int.sub_self];rfl
theorem Lr {xs ys:List Nat}(hx:xs.length≤1099511627776) (hlx:Lim 4294967296 xs) (hy:ys.length≤1099511627776) (hly:Lim 4294967296 ys):aK true Tryd.prog 48 [] [.one (.t (sU false xs)),.one (.t (sU false ys))] (aY (.one (.t (sU true (dg 4294967296 (vl 4294967296 xs+vl 4294967296 ys)))))):=by
 refine cX Tryd.func48 rfl Tryd.ntmps48 rfl aB rfl fun N w c0 h0=>?_
 refine sq ?_;refine rl ?_;refine o1 ?_;refine nl ?_;refine sq ?_;refine rl ?_;refine o1 ?_
 refine ca (eX hx hlx) oP ⟨a1 rfl,rfl⟩ (.one (.t (sI false (dg 65536 (vl 4294967296 xs))))) ?_;refine o1 ?_
 refine ca (eX hy hly) oP ⟨a1 rfl,rfl⟩ (.one (.t (sI false (dg 65536 (vl 4294967296 ys))))) ?_;refine o1 ?_;refine o1 ?_;refine nl ?_;refine sq ?_
 have hdx:=eA (v:=vl 4294967296 xs) (L:=xs.length) (by rw[cA (by omega) hlx];exact aZ _)
 have hdy:=eA (v:=vl 4294967296 ys) (L:=ys.length) (by rw[cA (by omega) hly];exact aZ _)
 have hX:=aL (B:=65536) (by omega) (vl 4294967296 xs)
 have hY:=aL (B:=65536) (by omega) (vl 4294967296 ys)
 have hvX:=bJ (B:=65536) (by omega) (vl 4294967296 xs)
 have hvY:=bJ (B:=65536) (by omega) (vl 4294967296 ys)
 generalize dg 65536 (vl 4294967296 xs)=X at hdx hX hvX⊢;generalize dg 65536 (vl 4294967296 ys)=Y at hdy hY hvY⊢;refine rl ?_;refine o1 ?_;refine nl ?_;refine sq ?_;refine rl ?_
 refine o1 ?_;refine nl ?_;refine sq ?_;refine sq ?_;refine rl ?_;refine o1 ?_;refine nl ?_;refine bl ?_
 refine lp (γ:=Nat×Nat×List Nat) (fun s=>cW [(5,.one (.t (sI false X))),(6,.one (.t (sI false Y))),(7,.one (.sl 0 0 s.1)),(8,.one (tv (.int .i64 ((s.2.1:Nat):Int)))),(9,.one (tv (.int .i64 ((s.1:Nat):Int))))]) (fun s=>[(⟨3,1,(eG s.2.2).map .t⟩:Ob)].map some) (fun s=>s.2.2.length=s.1∧Lim 65536 s.2.2∧vl 65536 s.2.2+65536^s.1*s.2.1=vl 65536 (X.take s.1)+vl 65536 (Y.take s.1)∧s.2.1≤1∧(s.1≤max X.length Y.length∨s.1=max X.length Y.length+1∧s.2.1=0)) (fun s=>max X.length Y.length+1-s.1) (0,0,[]) ⟨rfl,Lim.nil,rfl,Nat.zero_le _,.inl (Nat.zero_le _)⟩ ((nr (i:=7) 0 3 1 rfl rfl rfl rfl).trans (bR h0 [0] _ _ (by decide) ⟨rfl,rfl,rfl,rfl,rfl,trivial⟩ ⟨dD (l:=[]) rfl,rfl⟩)) ?_
 rintro⟨k,cr,os⟩ ⟨hos,hol,hv,hc1,hkm⟩;dsimp only at hos hol hv hc1 hkm⊢;have hn1:=hX.nth (by omega) k
 have hn2:=hY.nth (by omega) k
 refine sq ?_;refine sq ?_;refine rl ?_;(iterate 6 refine o1 ?_);refine WL.cast (t:=20) (u':=.int .i64 ((max X.length Y.length:Nat):Int)) rfl (bQ (by omega)) ?_
 refine o1 ?_;refine o1 ?_;refine WL.split (t:=22) rfl (fun h1=>?_) (fun h1=>?_)
 ·refine jB ?_;refine jB ?_;refine o1 ?_;refine nl ?_;refine vT rfl ?_;refine sk ?_;refine sq ?_;refine bl ?_;refine sq ?_;refine rl ?_;refine o1 ?_;refine o1 ?_
  refine ca (iN) lO ⟨a1 rfl,a1 rfl,rfl⟩ (.one (tv (.int .i64 ((nth X (k):Nat):Int)))) ?_;refine o1 ?_;refine o1 ?_
  refine ca (iN) lO ⟨a1 rfl,a1 rfl,rfl⟩ (.one (tv (.int .i64 ((nth Y (k):Nat):Int)))) ?_;(iterate 3 refine o1 ?_)
  refine WL.cast (t:=36) (u':=.int .i64 ((nth X k+nth Y k+cr:Nat):Int)) rfl (bQ (by omega)) ?_
  refine o1 ?_;refine nl ?_;refine sq ?_;refine rl ?_;(iterate 3 refine o1 ?_)
  refine WL.cast (t:=39) (u':=.int .i64 (((nth X k+nth Y k+cr)%65536:Nat):Int)) rfl (bQ (nQ _ 65536)) ?_;refine bs 1 ?_
  refine iM (j:=2) aB rfl rfl rfl rfl (.sl rfl (by rw[List.length_map,gU,hos];omega)) (.sl rfl rfl rfl) rfl rfl rfl (by omega) (by omega) ?_
  refine o1 ?_;refine nl ?_;refine rl ?_;refine o1 ?_;refine o1 ?_ (hC:=(pZ 65536 (by omega) (by simp only[fV];omega)))
  refine WL.cast (t:=43) (u':=.int .i64 (((nth X k+nth Y k+cr)/65536:Nat):Int)) rfl (bQ (kU _ 65536)) ?_;refine o1 ?_;refine nl ?_;refine rl ?_;(iterate 3 refine o1 ?_)
  refine nl ?_;have hst:=uQ hos hv
  have hz1:X.length≤k→nth X k=0:=fun h=>dC (by omega)
  have hz2:Y.length≤k→nth Y k=0:=fun h=>dC (by omega)
  exact⟨(k+1,(nth X k+nth Y k+cr)/65536,os++[(nth X k+nth Y k+cr)%65536]),by dsimp only;omega,⟨by simp[hos],hol.append (Lim.cons (Nat.mod_lt _ (by omega)) Lim.nil),hst,by dsimp only;omega,by dsimp only;omega⟩,bR h0 [2] _ _ (by decide) ⟨rfl,rfl,rfl,rfl,rfl,trivial⟩ ⟨Bg rfl (jH _ [(nth X k+nth Y k+cr)%65536]) rfl,rfl⟩⟩
 (iterate 3 refine o1 ?_);refine nl ?_;refine dO rfl (fun h2=>?_) (fun h2=>?_)
 ·refine sk ?_;refine sq ?_;refine bl ?_;refine sq ?_;refine rl ?_;refine o1 ?_;refine o1 ?_;refine ca (iN) lO ⟨a1 rfl,a1 rfl,rfl⟩ (.one (tv (.int .i64 ((nth X (k):Nat):Int)))) ?_
  refine o1 ?_;refine o1 ?_;refine ca (iN) lO ⟨a1 rfl,a1 rfl,rfl⟩ (.one (tv (.int .i64 ((nth Y (k):Nat):Int)))) ?_;(iterate 3 refine o1 ?_)
  refine WL.cast (t:=36) (u':=.int .i64 ((nth X k+nth Y k+cr:Nat):Int)) rfl (bQ (by omega)) ?_
  refine o1 ?_;refine nl ?_;refine sq ?_;refine rl ?_;(iterate 3 refine o1 ?_)
  refine WL.cast (t:=39) (u':=.int .i64 (((nth X k+nth Y k+cr)%65536:Nat):Int)) rfl (bQ (nQ _ 65536)) ?_;refine bs 1 ?_
  refine iM (j:=2) aB rfl rfl rfl rfl (.sl rfl (by rw[List.length_map,gU,hos];omega)) (.sl rfl rfl rfl) rfl rfl rfl (by omega) (by omega) ?_
  refine o1 ?_;refine nl ?_;refine rl ?_;refine o1 ?_;refine o1 ?_ (hC:=(pZ 65536 (by omega) (by simp only[fV];omega)))
  refine WL.cast (t:=43) (u':=.int .i64 (((nth X k+nth Y k+cr)/65536:Nat):Int)) rfl (bQ (kU _ 65536)) ?_;refine o1 ?_;refine nl ?_;refine rl ?_;(iterate 3 refine o1 ?_)
  refine nl ?_;have hst:=uQ hos hv
  have hz1:X.length≤k→nth X k=0:=fun h=>dC (by omega)
  have hz2:Y.length≤k→nth Y k=0:=fun h=>dC (by omega)
  exact⟨(k+1,(nth X k+nth Y k+cr)/65536,os++[(nth X k+nth Y k+cr)%65536]),by dsimp only;omega,⟨by simp[hos],hol.append (Lim.cons (Nat.mod_lt _ (by omega)) Lim.nil),hst,by dsimp only;omega,by dsimp only;omega⟩,bR h0 [2] _ _ (by decide) ⟨rfl,rfl,rfl,rfl,rfl,trivial⟩ ⟨Bg rfl (jH _ [(nth X k+nth Y k+cr)%65536]) rfl,rfl⟩⟩
 refine ex ?_;refine sq ?_;refine rl ?_;have hc0:cr=0:=by omega
 rw[hc0,Nat.mul_zero,Nat.add_zero,aQ 65536 (by omega),aQ 65536 (by omega),hvX,hvY]at hv
 refine WL.sub (Lp (i:=7) (zs':=os) rfl rfl rfl (by omega) rfl) ?_
 refine o1 ?_;refine mW 1 (oT (by omega) (by assumption)) Cz ⟨a1 rfl,rfl⟩ ?_
 refine o1 ?_;refine nl ?_;refine rt ?_
 exact en (.inl rfl) rfl (bM (.one (.sl (trs:=aW (dg 4294967296 (vl 65536 os))) rfl rfl (bY _) (bS _)))) (by decide) (fun _=>.inl ⟨rfl,fK _⟩) (by rw[hv];rfl)
theorem Bj {xs ys:List Nat}(hx:xs.length≤1099511627776) (hlx:Lim 4294967296 xs) (hy:ys.length≤1099511627776) (hly:Lim 4294967296 ys):aK true Tryd.prog 49 [] [.one (.t (sU false xs)),.one (.t (sU false ys))] (aY (.tup [.one (.t (sU true (dg 4294967296 (vl 4294967296 xs-vl 4294967296 ys)))),.one (tv (.int .i64 (if vl 4294967296 xs<vl 4294967296 ys then 2 else 0)))])):=by
 refine cX Tryd.func49 rfl Tryd.ntmps49 rfl aB rfl fun N w c0 h0=>?_
 refine sq ?_;refine rl ?_;refine o1 ?_;refine o1 ?_;refine nl ?_;refine sq ?_;refine sq ?_;refine rl ?_;refine o1 ?_;refine o1 ?_
 refine ca (Lq hx hlx hy hly) Qi ⟨a1 rfl,a1 rfl,rfl⟩ (.one (tv (.int .i64 (((vl 4294967296 xs:Nat):Int)-((vl 4294967296 ys:Nat):Int)).sign))) ?_;refine o1 ?_;refine nl ?_
 refine dO rfl (fun h1=>?_) (fun h1=>?_)
 ·refine sq ?_;refine rl ?_;refine o1 ?_;refine o1 ?_;refine nl ?_;refine rt ?_;have hlt:=Lm h1
  exact en (.inl rfl) rfl (Ji (.cons (.one (.nil (t:=70) (z:=1))) (.cons (dF _) .nil))) (by decide) (fun _=>⟨.inl ⟨rfl,trivial⟩,trivial,trivial⟩) (by rw[Nat.sub_eq_zero_of_le (Nat.le_of_lt hlt),if_pos hlt];rfl)
 refine sk ?_;refine sq ?_;refine rl ?_;refine o1 ?_;refine ca (eX hx hlx) oP ⟨a1 rfl,rfl⟩ (.one (.t (sI false (dg 65536 (vl 4294967296 xs))))) ?_;refine o1 ?_
 refine ca (eX hy hly) oP ⟨a1 rfl,rfl⟩ (.one (.t (sI false (dg 65536 (vl 4294967296 ys))))) ?_;refine o1 ?_;refine o1 ?_;refine nl ?_;refine sq ?_
 have hge:vl 4294967296 ys≤vl 4294967296 xs:=Ll h1
 have hyx:=eE (B:=65536) (by omega) hge
 have hdx:=eA (v:=vl 4294967296 xs) (L:=xs.length) (by rw[cA (by omega) hlx];exact aZ _)
 have hdy:=eA (v:=vl 4294967296 ys) (L:=ys.length) (by rw[cA (by omega) hly];exact aZ _)
 have hX:=aL (B:=65536) (by omega) (vl 4294967296 xs)
 have hY:=aL (B:=65536) (by omega) (vl 4294967296 ys)
 have hvX:=bJ (B:=65536) (by omega) (vl 4294967296 xs)
 have hvY:=bJ (B:=65536) (by omega) (vl 4294967296 ys)
 generalize dg 65536 (vl 4294967296 xs)=X at hdx hX hvX hyx⊢;generalize dg 65536 (vl 4294967296 ys)=Y at hdy hY hvY hyx⊢;refine rl ?_;refine o1 ?_;refine nl ?_;refine sq ?_;refine rl ?_
 refine o1 ?_;refine nl ?_;refine sq ?_;refine sq ?_;refine rl ?_;refine o1 ?_;refine nl ?_;refine bl ?_
 refine lp (γ:=Nat×Nat×List Nat) (fun s=>cW [(6,.one (.t (sI false X))),(7,.one (.t (sI false Y))),(8,.one (.sl 0 0 s.1)),(9,.one (tv (.int .i64 ((s.2.1:Nat):Int)))),(10,.one (tv (.int .i64 ((s.1:Nat):Int))))]) (fun s=>[(⟨3,1,(eG s.2.2).map .t⟩:Ob)].map some) (fun s=>s.2.2.length=s.1∧Lim 65536 s.2.2∧vl 65536 s.2.2+vl 65536 (Y.take s.1)=vl 65536 (X.take s.1)+65536^s.1*s.2.1∧s.2.1≤1∧s.1≤X.length) (fun s=>X.length-s.1) (0,0,[]) ⟨rfl,Lim.nil,rfl,Nat.zero_le _,Nat.zero_le _⟩ ((nr (i:=8) 0 3 1 rfl rfl rfl rfl).trans (bR h0 [0] _ _ (by decide) ⟨rfl,rfl,rfl,rfl,rfl,trivial⟩ ⟨dD (l:=[]) rfl,rfl⟩)) ?_
 rintro⟨k,br,os⟩ ⟨hos,hol,hv,hc1,hkm⟩;dsimp only at hos hol hv hc1 hkm⊢;have hn1:=hX.nth (by omega) k
 have hn2:=hY.nth (by omega) k
 refine sq ?_;refine sq ?_;refine rl ?_;(iterate 4 refine o1 ?_);refine nl ?_;refine dO rfl (fun h2=>?_) (fun h2=>?_)
 ·refine sk ?_;refine sq ?_;refine bl ?_;refine sq ?_;refine rd [] (fun i=>[10].contains i) mixed ?_
  refine dv 0 ?_;refine dv 1 ?_;refine dv 2 ?_;refine wI 3 ([.v (.int .i64 ((nth X (k):Nat):Int))]) (kT X (k:=k) (by omega)) ?_
  refine dv 4 ?_;refine dv 5 ?_;refine dv 8 ?_;refine bT 6 rfl (iN) lO ⟨a1 rfl,a1 rfl,rfl⟩ (.one (tv (.int .i64 ((nth Y (k):Nat):Int)))) ?_;refine df 7 ?_;refine df 9 ?_
  refine tU 10 (by kernel_rfl) rfl rfl aB rfl (by trivial) ?_ (fun h=>by first | rfl | cases h)
  refine cL ?_;refine sq ?_;refine rl ?_;refine o1 ?_;refine nl ?_;refine sq ?_;refine sq ?_;refine rl ?_;refine o1 ?_;refine o1 ?_;refine nl ?_
  refine dO rfl (fun h3=>?_) (fun h3=>?_)
  ·refine sq ?_;refine rl ?_;(iterate 3 refine o1 ?_);refine nl ?_;refine rl ?_;refine o1 ?_;refine nl ?_;refine rl ?_
   refine WL.cast (t:=11) (u':=.int .i64 (((nth X k+65536-nth Y k-br:Nat)):Int)) rfl (bQ (by omega)) ?_
   refine o1 ?_;refine o1 ?_;refine bs 1 ?_
   refine iM (j:=2) aB rfl rfl rfl rfl (.sl rfl (by rw[List.length_map,gU,hos];omega)) (.sl rfl rfl rfl) rfl rfl rfl (by omega) (by omega) ?_
   refine o1 ?_;refine nl ?_;refine rl ?_;(iterate 3 refine o1 ?_);refine nl ?_;have hst:=uR (d:=nth X k+65536-nth Y k-br) (br':=1) hos hv (by omega)
   exact⟨(k+1,1,os++[nth X k+65536-nth Y k-br]),by dsimp only;omega,⟨by simp[hos],hol.append (Lim.cons (by omega) Lim.nil),hst,by dsimp only;omega,by dsimp only;omega⟩,bR h0 [2] _ _ (by decide) ⟨rfl,rfl,rfl,rfl,rfl,trivial⟩ ⟨Bg rfl (jH _ [nth X k+65536-nth Y k-br]) rfl,rfl⟩⟩
  refine sk ?_;refine rl ?_;refine WL.cast (t:=11) (u':=.int .i64 (((nth X k-nth Y k-br:Nat)):Int)) rfl (bQ (by omega)) ?_
  refine o1 ?_;refine o1 ?_;refine bs 1 ?_
  refine iM (j:=2) aB rfl rfl rfl rfl (.sl rfl (by rw[List.length_map,gU,hos];omega)) (.sl rfl rfl rfl) rfl rfl rfl (by omega) (by omega) ?_
  refine o1 ?_;refine nl ?_;refine rl ?_;(iterate 3 refine o1 ?_);refine nl ?_;have hst:=uR (d:=nth X k-nth Y k-br) (br':=0) hos hv (by omega)
  exact⟨(k+1,0,os++[nth X k-nth Y k-br]),by dsimp only;omega,⟨by simp[hos],hol.append (Lim.cons (by omega) Lim.nil),hst,by dsimp only;omega,by dsimp only;omega⟩,bR h0 [2] _ _ (by decide) ⟨rfl,rfl,rfl,rfl,rfl,trivial⟩ ⟨Bg rfl (jH _ [nth X k-nth Y k-br]) rfl,rfl⟩⟩
 refine ex ?_;refine sq ?_;refine rl ?_;have hoo:=dB hol
 rw[hos]at hoo;rw[aQ 65536 (l:=X) (by omega),aQ 65536 (l:=Y) (by omega),hvX,hvY]at hv
 have hb0:br=0:=by
  rcases Nat.eq_zero_or_pos br with h0 | h0
  ·exact h0
  have h1:br=1:=by omega
  rw[h1,Nat.mul_one,show k=X.length by omega]at hv
  rw[show k=X.length by omega]at hoo
  omega
 rw[hb0,Nat.mul_zero,Nat.add_zero]at hv;have he:vl 65536 os=vl 4294967296 xs-vl 4294967296 ys:=by omega
 refine WL.sub (Lp (i:=8) (zs':=os) rfl rfl rfl (by omega) rfl) ?_
 refine o1 ?_;refine mW 1 (oT (by omega) (by assumption)) Cz ⟨a1 rfl,rfl⟩ ?_
 refine o1 ?_;refine o1 ?_;refine nl ?_;refine rt ?_
 exact en (.inl rfl) rfl (Ji (.cons (.one (.sl (trs:=aW (dg 4294967296 (vl 65536 os))) rfl rfl (bY _) (bS _))) (.cons (dF _) .nil))) (by decide) (fun _=>⟨.inl ⟨rfl,fK _⟩,trivial,trivial⟩) (by rw[he,if_neg (by omega)];rfl)
theorem Dv {a:Zi}{k:Int}(ha:Zn a k):aK true Tryd.prog 24 [] [gF a] (aY (.one (tv (.bool (bL a.s a.x))))):=by
 refine cX Tryd.func24 rfl Tryd.ntmps24 rfl aB rfl fun N w c0 h0=>?_
 have hal:=ha.2.1
 refine sq ?_;refine rl ?_;refine bx 0 ?_;refine o1 ?_;refine nl ?_;refine sq ?_;refine sq ?_;refine rl ?_;refine o1 ?_;refine ld ?_;refine o1 ?_;refine o1 ?_;refine nl ?_
 refine dO rfl (fun h1=>?_) (fun h1=>?_)
 ·refine sq ?_;refine rl ?_;refine o1 ?_;refine ld ?_;refine WL.splitb (t:=8) rfl (fun h2=>?_) (fun h2=>?_)
  ·refine o1 ?_;refine o1 ?_;refine nl ?_;refine rt ?_;refine en (.inl rfl) rfl (bM (dF _)) (by decide) (fun _=>trivial) (congrArg (fun b=>FV.one (tv (.bool b))) ?_)
   rw[gH (by omega)];simp_all
  refine o1 ?_;refine o1 ?_;refine nl ?_;refine rt ?_;refine en (.inl rfl) rfl (bM (dF _)) (by decide) (fun _=>trivial) (congrArg (fun b=>FV.one (tv (.bool b))) ?_)
  rw[gH (by omega)];simp_all
 refine sk ?_;refine sq ?_;refine rl ?_;refine o1 ?_;refine ld ?_;refine o1 ?_;refine ld ?_;refine o1 ?_;refine o1 ?_
 refine WL.cast (t:=15) (u':=.int .i64 ((a.x.length-1:Nat):Int)) rfl (bQ (by omega)) ?_
 refine o1 ?_;refine lZ ([.v (.int .u32 ((nth a.x (a.x.length-1):Nat):Int))]) (jG a.x (k:=a.x.length-1) (by omega)) ?_
 refine o1 ?_;refine o1 ?_;refine nl ?_;refine rt ?_;refine en (.inl rfl) rfl (bM (dF _)) (by decide) (fun _=>trivial) (congrArg (fun b=>FV.one (tv (.bool b))) ?_)
 exact(lT rfl (by omega)).symm
theorem uT {a:Zi}{k:Int}(ha:Zn a k):aK false Tryd.prog 35 [] [gF a] (aY (kF k)):=by
 refine cX Tryd.func35 rfl Tryd.ntmps35 rfl aB rfl fun N w c0 h0=>?_
 refine sq ?_;refine rl ?_;refine bx 0 ?_;refine al 1 ?_;refine nl ?_;refine sq ?_;refine sq ?_;refine rl ?_;refine ld ?_
 refine ca (Dv ha) Px ⟨aR rfl,rfl⟩ (.one (tv (.bool (bL a.s a.x)))) ?_;refine WL.splitb (t:=4) rfl (fun h1=>?_) (fun h1=>?_)
 ·refine o1 ?_;refine nl ?_;refine vU rfl ?_;refine sk ?_;refine sq ?_;refine rl ?_;refine ld ?_;refine st ?_;refine nl ?_;refine rt ?_
  exact en (.inl rfl) rfl (bM (.agg (.read _ (l:=[.v (.bool a.s),sU false a.x]) rfl))) (by decide) (fun h=>by cases h) (Du ha h1)
 refine o1 ?_;refine nl ?_;refine vT rfl ?_;refine sq ?_;refine rl ?_;refine o1 ?_;refine st ?_;refine nl ?_;refine rt ?_
 exact en (.inl rfl) rfl (bM (.agg (.cons (.id rfl) (.cons .nilf .nil)))) (by decide) (fun h=>by cases h) (by rw[ha.wrong h1];exact xG)
theorem rB {b:Bool}{xs:List Nat}{K:Int}(hx:xs.length≤1099511627776) (hl:Lim 4294967296 xs) (hK:cD b (vl 4294967296 xs)=K):aK true Tryd.prog 38 [] [.one (tv (.bool b)),.one (.t (sU false xs))] (aY (kO K)):=by
 refine cX Tryd.func38 rfl Tryd.ntmps38 rfl aB rfl fun N w c0 h0=>?_
 refine sq ?_;refine rl ?_;refine al 0 ?_;refine nl ?_;refine sq ?_;refine rl ?_;refine o1 ?_;refine mW 1 (Hg hx hl) Qk ⟨a1 rfl,rfl⟩ ?_;refine o1 ?_;refine nl ?_;refine sq ?_
 refine rl ?_;refine o1 ?_;refine o1 ?_;refine WL.splitb (t:=9) rfl (fun h1=>?_) (fun h1=>?_)
 ·(iterate 6 refine o1 ?_);refine st ?_;refine nl ?_;refine rt ?_
  exact en (.inl rfl) rfl (bM (.agg (.cons (.id rfl) (.cons (.sl (trs:=aW (dg 4294967296 (vl 4294967296 xs))) rfl rfl (bY _) (bS _)) .nil)))) (by decide) (fun _=>xH _ _) (hK▸nR (by rw[←pW rfl,h1,Bool.true_and];exact decide_eq_decide.2 (by omega)) (fP _ _).symm)
 (iterate 3 refine jB ?_);(iterate 3 refine o1 ?_);refine st ?_;refine nl ?_;refine rt ?_
 exact en (.inl rfl) rfl (bM (.agg (.cons (.id rfl) (.cons (.sl (trs:=aW (dg 4294967296 (vl 4294967296 xs))) rfl rfl (bY _) (bS _)) .nil)))) (by decide) (fun _=>xH _ _) (hK▸nR (by rw[←pW rfl,h1];rfl) (fP _ _).symm)
theorem Ls {a b:Zi}{k k':Int}(ha:Zn a k) (hb:Zn b k'):aK true Tryd.prog 14 [] [gF a,gF b] (aY (kO (k+k'))):=by
 refine cX Tryd.func14 rfl Tryd.ntmps14 rfl aB rfl fun N w c0 h0=>?_
 have hkl:=ha.len
 have hkl':=hb.len
 refine sq ?_;refine rl ?_;refine bx 0 ?_;refine bx 1 ?_;refine al 2 ?_;refine nl ?_;refine sq ?_;refine rl ?_;refine ld ?_;refine ca (uT ha) Jr ⟨aR rfl,rfl⟩ (kF (k)) ?_
 refine st ?_;refine nl ?_;refine sq ?_;refine rl ?_;refine ld ?_;refine ca (uT hb) Jr ⟨aR rfl,rfl⟩ (kF (k')) ?_;refine st ?_;refine nl ?_;refine sq ?_;refine sq ?_;refine rl ?_
 refine o1 ?_;refine ld ?_;refine o1 ?_;refine ld ?_;refine o1 ?_;refine nl ?_;refine rL rfl (fun h1=>?_) (fun h1=>?_)
 ·refine sq ?_;refine rd [0,1,2] (fun i=>[8].contains i) mixed ?_
  refine dv 0 ?_;refine cI 1 ?_;refine dv 2 ?_;refine cI 3 ?_;refine dv 4 ?_;refine cI 5 ?_
  have hn2:=xC (xs:=(dg 4294967296 (k).natAbs)) (ys:=(dg 4294967296 (k').natAbs)) (aL (by omega) _) (aL (by omega) _)
  refine bT 6 rfl (Lr (by omega) (aL (by omega) _) (by omega) (aL (by omega) _)) Qg ⟨a1 rfl,a1 rfl,rfl⟩ (.one (.t (sU false (dg 4294967296 (vl 4294967296 (dg 4294967296 (k).natAbs)+vl 4294967296 (dg 4294967296 (k').natAbs)))))) ?_
  refine wJ 3 7 rfl (rB (K:=k+k') (by omega) (aL (by omega) _) (by simp only[bJ (B:=4294967296) (by omega)];exact sB rfl (eq_of_beq h1))) Cw ⟨a1 rfl,a1 rfl,rfl⟩ ?_
  refine dst 8 ?_;refine cL ?_;refine rt ?_
  exact en (.inl rfl) rfl (bM (.agg (.cons (.id rfl) (.cons (.sl (trs:=aW (dg 4294967296 (k+k').natAbs)) rfl rfl (bY _) (bS _)) .nil)))) (by decide) (fun _=>dI (k+k')) rfl
 refine sk ?_;refine sq ?_;refine rl ?_;refine o1 ?_;refine ld ?_;refine o1 ?_;refine ld ?_
 have hn3:=xD (xs:=(dg 4294967296 (k).natAbs)) (ys:=(dg 4294967296 (k').natAbs)) (aL (by omega) _)
 refine ca (Bj (by omega) (aL (by omega) _) (by omega) (aL (by omega) _)) Jt ⟨a1 rfl,a1 rfl,rfl⟩ (.tup [.one (.t (sU false (dg 4294967296 (vl 4294967296 (dg 4294967296 (k).natAbs)-vl 4294967296 (dg 4294967296 (k').natAbs))))),.one (tv (.int .i64 (if vl 4294967296 (dg 4294967296 (k).natAbs)<vl 4294967296 (dg 4294967296 (k').natAbs)then 2 else 0)))]) ?_
 (iterate 5 refine o1 ?_);refine nl ?_;refine sq ?_;refine sq ?_;refine rl ?_;refine o1 ?_;refine o1 ?_;refine nl ?_;refine dO rfl (fun h4=>?_) (fun h4=>?_)
 ·refine sq ?_;refine rl ?_;refine o1 ?_;refine ld ?_;refine o1 ?_
  refine mW 3 (rB (K:=k+k') (by omega) (aL (by omega) _) (by simp only[bJ (B:=4294967296) (by omega)];exact xE rfl (ne_of_beq_false h1) (fun h8=>by rw[aS,aS,if_pos h8]at h4;omega))) Cw ⟨a1 rfl,a1 rfl,rfl⟩ ?_
  refine st ?_;refine nl ?_;refine rt ?_
  exact en (.inl rfl) rfl (bM (.agg (.cons (.id rfl) (.cons (.sl (trs:=aW (dg 4294967296 (k+k').natAbs)) rfl rfl (bY _) (bS _)) .nil)))) (by decide) (fun _=>dI (k+k')) rfl
 refine sk ?_;refine sq ?_;refine rl ?_;refine o1 ?_;refine ld ?_;refine o1 ?_;refine ld ?_
 have hn5:=xD (xs:=(dg 4294967296 (k').natAbs)) (ys:=(dg 4294967296 (k).natAbs)) (aL (by omega) _)
 refine ca (Bj (by omega) (aL (by omega) _) (by omega) (aL (by omega) _)) Jt ⟨a1 rfl,a1 rfl,rfl⟩ (.tup [.one (.t (sU false (dg 4294967296 (vl 4294967296 (dg 4294967296 (k').natAbs)-vl 4294967296 (dg 4294967296 (k).natAbs))))),.one (tv (.int .i64 (if vl 4294967296 (dg 4294967296 (k').natAbs)<vl 4294967296 (dg 4294967296 (k).natAbs)then 2 else 0)))]) ?_
 (iterate 4 refine o1 ?_);refine nl ?_;refine sq ?_;refine rl ?_;refine o1 ?_;refine ld ?_;refine o1 ?_
 refine mW 3 (rB (K:=k+k') (by omega) (aL (by omega) _) (by simp only[bJ (B:=4294967296) (by omega)];exact xF rfl (ne_of_beq_false h1) (Decidable.byContradiction fun h8=>h4 (by rw[aS,aS,if_neg h8])))) Cw ⟨a1 rfl,a1 rfl,rfl⟩ ?_
 refine st ?_;refine nl ?_;refine rt ?_
 exact en (.inl rfl) rfl (bM (.agg (.cons (.id rfl) (.cons (.sl (trs:=aW (dg 4294967296 (k+k').natAbs)) rfl rfl (bY _) (bS _)) .nil)))) (by decide) (fun _=>dI (k+k')) rfl
def Zg (a:Zi) (k:Int):Prop:=Lim 4294967296 a.x∧a.x.length≤300000000000∧gG a.s a.x=k
theorem Zn.g {a:Zi}{k:Int}(h:Zn a k):Zg a k:=⟨h.1,Nat.le_trans h.2.1 (by omega),h.2.2⟩
theorem Zg.of {k:Int}(h:(dg 4294967296 k.natAbs).length≤300000000000):Zg (.of k) k:=⟨aL (by omega) _,h,Bb k⟩
theorem Zg.len {a:Zi}{k:Int}(h:Zg a k):(dg 4294967296 k.natAbs).length≤300000000000:=by
 obtain⟨h1,h2,rfl⟩:=h
 exact Nat.le_trans (qW h1) h2
theorem Zg.wrong {a:Zi}{k:Int}(h:Zg a k) (hr:bL a.s a.x=false):k=0:=by
 obtain⟨h1,h2,rfl⟩:=h
 exact qA hr
theorem Bk {a:Zi}{k:Int}(h:Zg a k) (hr:bL a.s a.x=true):gF a=kF k:=by
 obtain⟨h1,h2,rfl⟩:=h
 unfold gF kF
 rw[wZ h1 hr,nP h1 hr]
theorem Hh {a:Zi}{k:Int}(ha:Zg a k):aK true Tryd.prog 23 [] [gF a] (aY (.one (tv (.bool (bL a.s a.x))))):=by
 refine cX Tryd.func23 rfl Tryd.ntmps23 rfl aB rfl fun N w c0 h0=>?_
 have hal:=ha.2.1
 refine sq ?_;refine rl ?_;refine bx 0 ?_;refine o1 ?_;refine nl ?_;refine sq ?_;refine rl ?_;refine o1 ?_;refine ld ?_;refine o1 ?_;refine o1 ?_;refine nl ?_;refine sq ?_;refine rl ?_
 (iterate 3 refine o1 ?_);refine WL.split (t:=9) rfl (fun h1=>?_) (fun h1=>?_)
 ·refine o1 ?_;refine ld ?_;refine WL.splitb (t:=11) rfl (fun h2=>?_) (fun h2=>?_)
  ·(iterate 6 refine o1 ?_);refine WL.split (t:=17) rfl (fun h3=>?_) (fun h3=>?_)
   ·refine o1 ?_;refine ld ?_;refine o1 ?_;refine o1 ?_;refine WL.cast (t:=21) (u':=.int .i64 ((a.x.length-1:Nat):Int)) rfl (bQ (by omega)) ?_
    refine o1 ?_;refine lZ ([.v (.int .u32 ((nth a.x (a.x.length-1):Nat):Int))]) (jG a.x (k:=a.x.length-1) (by omega)) ?_
    (iterate 4 refine o1 ?_);refine nl ?_;refine rt ?_;refine en (.inl rfl) rfl (bM (dF _)) (by decide) (fun _=>trivial) (congrArg (fun b=>FV.one (tv (.bool b))) ?_)
    rw[gH (by omega)];simp_all
   (iterate 7 refine jB ?_);(iterate 3 refine o1 ?_);refine nl ?_;refine rt ?_
   refine en (.inl rfl) rfl (bM (dF _)) (by decide) (fun _=>trivial) (congrArg (fun b=>FV.one (tv (.bool b))) ?_)
   rw[gH (by omega)];simp_all
  (iterate 3 refine o1 ?_);(iterate 11 refine jB ?_);refine o1 ?_;refine o1 ?_;refine nl ?_;refine rt ?_
  refine en (.inl rfl) rfl (bM (dF _)) (by decide) (fun _=>trivial) (congrArg (fun b=>FV.one (tv (.bool b))) ?_)
  rw[gH (by omega)];simp_all
 (iterate 3 refine jB ?_);(iterate 5 refine o1 ?_);refine WL.split (t:=17) rfl (fun h4=>?_) (fun h4=>?_)
 ·refine o1 ?_;refine ld ?_;refine o1 ?_;refine o1 ?_;refine WL.cast (t:=21) (u':=.int .i64 ((a.x.length-1:Nat):Int)) rfl (bQ (by omega)) ?_
  refine o1 ?_;refine lZ ([.v (.int .u32 ((nth a.x (a.x.length-1):Nat):Int))]) (jG a.x (k:=a.x.length-1) (by omega)) ?_
  (iterate 4 refine o1 ?_);refine nl ?_;refine rt ?_;refine en (.inl rfl) rfl (bM (dF _)) (by decide) (fun _=>trivial) (congrArg (fun b=>FV.one (tv (.bool b))) ?_)
  first | exact(lT rfl (by omega)).symm | (unfold bL;simp_all;try omega)
 (iterate 7 refine jB ?_);(iterate 3 refine o1 ?_);refine nl ?_;refine rt ?_
 refine en (.inl rfl) rfl (bM (dF _)) (by decide) (fun _=>trivial) (congrArg (fun b=>FV.one (tv (.bool b))) ?_)
 first | exact(lT rfl (by omega)).symm | (unfold bL;simp_all;try omega)
theorem bO {a:Zi}{k:Int}(ha:Zg a k):aK false Tryd.prog 41 [] [gF a] (aY (kF k)):=by
 refine cX Tryd.func41 rfl Tryd.ntmps41 rfl aB rfl fun N w c0 h0=>?_
 refine sq ?_;refine rl ?_;refine bx 0 ?_;refine al 1 ?_;refine nl ?_;refine sq ?_;refine sq ?_;refine rl ?_;refine ld ?_
 refine ca (Hh ha) Pw ⟨aR rfl,rfl⟩ (.one (tv (.bool (bL a.s a.x)))) ?_;refine WL.splitb (t:=4) rfl (fun h1=>?_) (fun h1=>?_)
 ·refine o1 ?_;refine nl ?_;refine vU rfl ?_;refine sk ?_;refine sq ?_;refine rl ?_;refine ld ?_;refine o1 ?_;refine st ?_;refine nl ?_;refine rt ?_
  exact en (.inl rfl) rfl (bM (.agg (.read _ (l:=[.v (.bool a.s),sU false a.x]) rfl))) (by decide) (fun h=>by cases h) (Bk ha h1)
 refine o1 ?_;refine nl ?_;refine vT rfl ?_;refine sq ?_;refine rl ?_;refine o1 ?_;refine st ?_;refine nl ?_;refine rt ?_
 exact en (.inl rfl) rfl (bM (.agg (.cons (.id rfl) (.cons .nilf .nil)))) (by decide) (fun h=>by cases h) (by rw[ha.wrong h1];exact xG)
theorem Bl {b:Bool}{m:Nat}{K:Int}(hK:cD b m=K):aK false Tryd.prog 44 [] [.one (tv (.bool b)),.one (.t (sU false (dg 4294967296 m)))] (aY (kF K)):=by
 refine cX Tryd.func44 rfl Tryd.ntmps44 rfl aB rfl fun N w c0 h0=>?_
 refine sq ?_;refine rl ?_;refine al 0 ?_;refine nl ?_;refine sq ?_;refine rl ?_;refine o1 ?_;refine o1 ?_;refine WL.splitb (t:=6) rfl (fun h1=>?_) (fun h1=>?_)
 ·(iterate 6 refine o1 ?_);refine st ?_;refine nl ?_;refine rt ?_
  exact en (.inl rfl) rfl (bM (.agg (.cons (.id rfl) (.cons (.id rfl) .nil)))) (by decide) (fun h=>by cases h) (hK▸congrArg nT (nR (by rw[kP,h1,Bool.true_and,←fQ (m:=m) rfl];exact decide_eq_decide.2 (by omega)) (fP _ _).symm))
 (iterate 3 refine jB ?_);(iterate 3 refine o1 ?_);refine st ?_;refine nl ?_;refine rt ?_
 exact en (.inl rfl) rfl (bM (.agg (.cons (.id rfl) (.cons (.id rfl) .nil)))) (by decide) (fun h=>by cases h) (hK▸congrArg nT (nR (by rw[kP,h1];rfl) (fP _ _).symm))
theorem dR {b:Bool}{m:Nat}{K:Int}(hK:cD b m=K):lS false Tryd.prog 44 [⟨70,1,(aW (dg 4294967296 m)).map .t⟩] [.one (tv (.bool b)),.one (.sl 0 0 (dg 4294967296 m).length)] (· =kO K):=by
 refine Rl Tryd.func44 rfl Tryd.ntmps44 rfl aB rfl fun N M w c0 h0=>?_
 refine sq ?_;refine rl ?_;refine al 1 ?_;refine nl ?_;refine sq ?_;refine rl ?_;refine o1 ?_;refine o1 ?_;refine WL.splitb (t:=6) rfl (fun h1=>?_) (fun h1=>?_)
 ·(iterate 6 refine o1 ?_);refine st ?_;refine nl ?_;refine rt ?_
  exact Kf (en (.inl rfl) rfl (bM (.agg (.cons (.id rfl) (.cons (.sl (trs:=aW (dg 4294967296 m)) rfl rfl (bY _) (bS _)) .nil)))) (by decide) (fun h=>by cases h) (hK▸nR (by rw[kP,h1,Bool.true_and,←fQ (m:=m) rfl];exact decide_eq_decide.2 (by omega)) (fP _ _).symm))
 (iterate 3 refine jB ?_);(iterate 3 refine o1 ?_);refine st ?_;refine nl ?_;refine rt ?_
 exact Kf (en (.inl rfl) rfl (bM (.agg (.cons (.id rfl) (.cons (.sl (trs:=aW (dg 4294967296 m)) rfl rfl (bY _) (bS _)) .nil)))) (by decide) (fun h=>by cases h) (hK▸nR (by rw[kP,h1];rfl) (fP _ _).symm))
theorem Dw {k:Int}:aK false Tryd.prog 43 [] [kF k] (aY (kF (-k))):=by
 refine cX Tryd.func43 rfl Tryd.ntmps43 rfl aB rfl fun N w c0 h0=>?_
 refine sq ?_;refine rl ?_;refine bx 0 ?_;refine al 1 ?_;refine nl ?_;refine sq ?_;refine rl ?_;refine o1 ?_;refine o1 ?_;refine ld ?_;(iterate 3 refine o1 ?_);refine ld ?_
 refine ca (Bl (m:=k.natAbs) (K:=-k) (Hf k)) iF ⟨a1 rfl,a1 rfl,rfl⟩ (kF (-k)) ?_;refine o1 ?_;refine st ?_;refine nl ?_;refine rt ?_
 exact en (.inl rfl) rfl (bM (.agg (.cons (.id rfl) (.cons (.id rfl) .nil)))) (by decide) (fun h=>by cases h) rfl
theorem Bm {k k':Int}(hk:(dg 4294967296 k.natAbs).length≤500000000000) (hk':(dg 4294967296 k'.natAbs).length≤500000000000):aK true Tryd.prog 42 [] [kF k,kF k'] (aY (kO (k+k'))):=by
 refine cX Tryd.func42 rfl Tryd.ntmps42 rfl aB rfl fun N w c0 h0=>?_
 have hal:=xC (xs:=dg 4294967296 k.natAbs) (ys:=dg 4294967296 k'.natAbs) (aL (by omega) _) (aL (by omega) _)
 rw[aS,aS]at hal;refine sq ?_;refine rl ?_;refine bx 0 ?_;refine bx 1 ?_;refine al 2 ?_;refine nl ?_;refine sq ?_;refine sq ?_;refine rl ?_;refine o1 ?_;refine o1 ?_
 refine ld ?_;refine o1 ?_;refine o1 ?_;refine ld ?_;refine o1 ?_;refine nl ?_;refine rL rfl (fun h1=>?_) (fun h1=>?_)
 ·refine sq ?_;refine rd [0,1,2] (fun i=>[11].contains i) mixed ?_
  refine dv 0 ?_;refine dv 1 ?_;refine cI 2 ?_;refine dv 3 ?_;refine dv 4 ?_;refine cI 5 ?_;refine dv 6 ?_;refine dv 7 ?_;refine cI 8 ?_
  have hA:aK true Tryd.prog 52 [] [.one (.t (sU false (dg 4294967296 k.natAbs))),.one (.t (sU false (dg 4294967296 k'.natAbs)))] (aY (.one (.t (sU true (dg 4294967296 (k.natAbs+k'.natAbs)))))):=by have h9:=Fc (aL (by omega) k.natAbs) (aL (by omega) k'.natAbs) (by omega) (by omega);rwa[aS,aS]at h9
  refine wJ 3 9 rfl hA Ju ⟨a1 rfl,a1 rfl,rfl⟩ ?_
  refine pN 10 4 [3] rfl (dR (m:=(k.natAbs+k'.natAbs)) (K:=k+k') (sB rfl (eq_of_beq h1))) iF ⟨dD rfl,rfl⟩ ⟨rfl,rfl,rfl⟩ ⟨rfl,rfl,rfl,trivial⟩ ?_;refine dst 11 ?_
  refine cL ?_;refine rt ?_
  exact en (.inl rfl) rfl (bM (.agg (.cons (.id rfl) (.cons (.sl (trs:=aW (dg 4294967296 (k+k').natAbs)) rfl rfl (bY _) (bS _)) .nil)))) (by decide) (fun _=>dI (k+k')) rfl
 refine sk ?_;refine sq ?_;refine sq ?_;refine rl ?_;refine o1 ?_;refine o1 ?_;refine ld ?_;refine o1 ?_;refine o1 ?_;refine ld ?_
 refine ca (Np (aL (by omega) _) (aL (by omega) _)) Ql ⟨a1 rfl,a1 rfl,rfl⟩ (.one (tv (.int .i64 (gD (vl 4294967296 (dg 4294967296 (k).natAbs)) (vl 4294967296 (dg 4294967296 (k').natAbs)))))) ?_
 refine o1 ?_;refine nl ?_;refine dO rfl (fun h2=>?_) (fun h2=>?_)
 ·refine rl ?_;refine ld ?_;refine ld ?_;refine st ?_;refine st ?_;refine nl ?_;refine sq ?_;refine rl ?_;refine o1 ?_;refine o1 ?_;refine ld ?_;refine o1 ?_;refine o1 ?_;refine ld ?_
  have hlt:k.natAbs<k'.natAbs:=Decidable.byContradiction fun h8=>by rw[aS,aS]at h2;rcases Nat.lt_or_ge k'.natAbs k.natAbs with h7 | h7;(rw[fO h7]at h2;omega);(rw[kL (by omega)]at h2;omega)
  have hS:aK true Tryd.prog 53 [] [.one (.t (sU false (dg 4294967296 k'.natAbs))),.one (.t (sU false (dg 4294967296 k.natAbs)))] (aY (.tup [.one (.t (sU true (dg 4294967296 (k'.natAbs-k.natAbs)))),.one (tv (.int .i64 0))])):=by have h9:=yT (aL (by omega) k'.natAbs) (aL (by omega) k.natAbs) (by omega) (by rw[aS,aS];omega);rwa[aS,aS]at h9
  refine mW 3 hS Cy ⟨a1 rfl,a1 rfl,rfl⟩ ?_;(iterate 5 refine o1 ?_);refine nl ?_;refine sq ?_;refine rl ?_;refine o1 ?_;refine o1 ?_;refine ld ?_;refine o1 ?_
  refine cm 4 [3] (dR (m:=(k'.natAbs-k.natAbs)) (K:=k+k') (xF rfl (ne_of_beq_false h1) hlt)) iF ⟨dD rfl,rfl⟩ ⟨rfl,rfl,rfl⟩ ?_;refine st ?_;refine nl ?_;refine rt ?_
  exact en (.inl rfl) rfl (bM (.agg (.cons (.id rfl) (.cons (.sl (trs:=aW (dg 4294967296 (k+k').natAbs)) rfl rfl (bY _) (bS _)) .nil)))) (by decide) (fun _=>dI (k+k')) rfl
 refine sk ?_;refine sq ?_;refine rl ?_;refine o1 ?_;refine o1 ?_;refine ld ?_;refine o1 ?_;refine o1 ?_;refine ld ?_
 have hlt:¬k.natAbs<k'.natAbs:=fun h8=>h2 (by rw[aS,aS,iT h8];omega)
 have hS:aK true Tryd.prog 53 [] [.one (.t (sU false (dg 4294967296 k.natAbs))),.one (.t (sU false (dg 4294967296 k'.natAbs)))] (aY (.tup [.one (.t (sU true (dg 4294967296 (k.natAbs-k'.natAbs)))),.one (tv (.int .i64 0))])):=by have h9:=yT (aL (by omega) k.natAbs) (aL (by omega) k'.natAbs) (by omega) (by rw[aS,aS];omega);rwa[aS,aS]at h9
 refine mW 3 hS Cy ⟨a1 rfl,a1 rfl,rfl⟩ ?_;(iterate 5 refine o1 ?_);refine nl ?_;refine sq ?_;refine rl ?_;refine o1 ?_;refine o1 ?_;refine ld ?_;refine o1 ?_
 refine cm 4 [3] (dR (m:=(k.natAbs-k'.natAbs)) (K:=k+k') (xE rfl (ne_of_beq_false h1) hlt)) iF ⟨dD rfl,rfl⟩ ⟨rfl,rfl,rfl⟩ ?_;refine st ?_;refine nl ?_;refine rt ?_
 exact en (.inl rfl) rfl (bM (.agg (.cons (.id rfl) (.cons (.sl (trs:=aW (dg 4294967296 (k+k').natAbs)) rfl rfl (bY _) (bS _)) .nil)))) (by decide) (fun _=>dI (k+k')) rfl
theorem Nu {a b:Zi}{k k':Int}(ha:Zg a k) (hb:Zg b k'):aK true Tryd.prog 8 [] [gF a,gF b] (aY (kO (k+k'))):=by
 refine cX Tryd.func8 rfl Tryd.ntmps8 rfl aB rfl fun N w c0 h0=>?_
 have hkl:=ha.len
 have hkl':=hb.len
 refine sq ?_;refine rl ?_;refine bx 0 ?_;refine bx 1 ?_;refine al 2 ?_;refine nl ?_;refine sq ?_;refine rd [0,1,2] (fun i=>[5].contains i) mixed ?_
 refine cI 0 ?_;refine cI 2 ?_;refine bT 1 rfl (bO ha) bN ⟨aR rfl,rfl⟩ (kF (k)) ?_;refine bT 3 rfl (bO hb) bN ⟨aR rfl,rfl⟩ (kF (k')) ?_
 refine wJ 3 4 rfl (Bm (k:=k) (k':=k') (by omega) (by omega)) Js ⟨aR rfl,aR rfl,rfl⟩ ?_
 refine dst 5 ?_;refine cL ?_;refine rt ?_
 exact en (.inl rfl) rfl (bM (.agg (.cons (.id rfl) (.cons (.sl (trs:=aW (dg 4294967296 ((k+k')).natAbs)) rfl rfl (bY _) (bS _)) .nil)))) (by decide) (fun _=>dI ((k+k'))) rfl
theorem Nv {a b:Zi}{k k':Int}(ha:Zg a k) (hb:Zg b k'):aK true Tryd.prog 9 [] [gF a,gF b] (aY (kO (k-k'))):=by
 refine cX Tryd.func9 rfl Tryd.ntmps9 rfl aB rfl fun N w c0 h0=>?_
 have hkl:=ha.len
 have hkl':=hb.len
 have hkn:=Dt k'
 refine sq ?_;refine rl ?_;refine bx 0 ?_;refine bx 1 ?_;refine al 2 ?_;refine nl ?_;refine sq ?_;refine rd [0,1,2] (fun i=>[6].contains i) mixed ?_
 refine cI 0 ?_;refine cI 2 ?_;refine bT 1 rfl (bO ha) bN ⟨aR rfl,rfl⟩ (kF (k)) ?_;refine bT 3 rfl (bO hb) bN ⟨aR rfl,rfl⟩ (kF (k')) ?_
 refine bT 4 rfl (Dw (k:=k')) Qd ⟨aR rfl,rfl⟩ (kF (-(k'))) ?_;refine wJ 3 5 rfl (Bm (k:=k) (k':=(-(k'))) (by omega) (by omega)) Js ⟨aR rfl,aR rfl,rfl⟩ ?_
 refine dst 6 ?_;refine cL ?_;refine rt ?_
 exact en (.inl rfl) rfl (bM (.agg (.cons (.id rfl) (.cons (.sl (trs:=aW (dg 4294967296 ((k+(-(k')))).natAbs)) rfl rfl (bY _) (bS _)) .nil)))) (by decide) (fun _=>dI ((k+(-(k'))))) (by rw[Int.sub_eq_add_neg];rfl)
theorem Lu {a:Zi}{k:Int}(ha:Zg a k):aK true Tryd.prog 27 [] [gF a] (aY (.one (tv (.int .i64 k.sign)))):=by
 refine cX Tryd.func27 rfl Tryd.ntmps27 rfl aB rfl fun N w c0 h0=>?_
 refine sq ?_;refine rl ?_;refine bx 0 ?_;refine o1 ?_;refine nl ?_;refine sq ?_;refine sq ?_;refine rl ?_;refine ld ?_;refine ca (bO ha) bN ⟨aR rfl,rfl⟩ (kF (k)) ?_;refine al 1 ?_
 refine st ?_;refine nl ?_;refine bl ?_;refine sq ?_;refine rl ?_;refine o1 ?_;refine o1 ?_;refine ld ?_;refine o1 ?_;refine nl ?_;refine rL rfl (fun h1=>?_) (fun h1=>?_)
 ·refine sq ?_;refine rl ?_;refine o1 ?_;refine nl ?_;refine rt ?_;refine en (.inl rfl) rfl (bM (dF _)) (by decide) (fun _=>trivial) (congrArg (fun z=>FV.one (tv (.int .i64 z))) ?_)
  have h9:k<0:=of_decide_eq_true h1
  exact(Int.sign_eq_neg_one_of_neg h9).symm
 refine sq ?_;refine rl ?_;refine o1 ?_;refine o1 ?_;refine ld ?_;(iterate 3 refine o1 ?_);refine nl ?_;refine dO rfl (fun h2=>?_) (fun h2=>?_)
 ·refine sq ?_;refine rl ?_;refine o1 ?_;refine nl ?_;refine rt ?_;refine en (.inl rfl) rfl (bM (dF _)) (by decide) (fun _=>trivial) (congrArg (fun z=>FV.one (tv (.int .i64 z))) ?_)
  have h9:¬k<0:=of_decide_eq_false h1
  have h8:=fQ (m:=k.natAbs) rfl
  have h7:decide (0<k.natAbs)=true:=by rw[←h8];exact decide_eq_true (by omega)
  have h6:=of_decide_eq_true h7
  exact(Int.sign_eq_one_of_pos (by omega)).symm
 refine sk ?_;refine sq ?_;refine rl ?_;refine o1 ?_;refine nl ?_;refine rt ?_
 refine en (.inl rfl) rfl (bM (dF _)) (by decide) (fun _=>trivial) (congrArg (fun z=>FV.one (tv (.int .i64 z))) ?_)
 have h9:¬k<0:=of_decide_eq_false h1
 have h8:=fQ (m:=k.natAbs) rfl
 have h7:decide (0<k.natAbs)=false:=by rw[←h8];exact decide_eq_false (by omega)
 have h6:=of_decide_eq_false h7
 obtain rfl:k=0:=by omega
 rfl
theorem Nw {a b:Zi}{k k':Int}(ha:Zg a k) (hb:Zg b k') (hs:(dg 4294967296 (k-k').natAbs).length≤300000000000):aK true Tryd.prog 25 [] [gF a,gF b] (aY (.one (tv (.int .i64 (k-k').sign)))):=by
 refine cX Tryd.func25 rfl Tryd.ntmps25 rfl aB rfl fun N w c0 h0=>?_
 have hkl:=ha.2.1;have hkl2:=ha.len;have hkl3:=hb.len
 refine sq ?_;refine rl ?_;refine bx 0 ?_;refine bx 1 ?_;refine o1 ?_;refine nl ?_;refine sq ?_;refine rl ?_;refine ld ?_;refine ld ?_
 refine ca (Nv ha hb) Ri ⟨aR rfl,aR rfl,rfl⟩ (kF (k-k')) ?_;refine ca (Lu (Zg.of (k:=k-k') hs)) Pz ⟨aR rfl,rfl⟩ (.one (tv (.int .i64 (k-k').sign))) ?_;refine o1 ?_
 refine nl ?_;refine rt ?_;exact en (.inl rfl) rfl (bM (dF _)) (by decide) (fun _=>trivial) rfl
theorem Nx {a b:Zi}{k k':Int}(ha:Zg a k) (hb:Zg b k'):aK true Tryd.prog 10 [] [gF a,gF b] (aY (kO (k*k'))):=by
 refine cX Tryd.func10 rfl Tryd.ntmps10 rfl aB rfl fun N w c0 h0=>?_
 have hkl:=ha.len
 have hkl':=hb.len
 refine sq ?_;refine rl ?_;refine bx 0 ?_;refine bx 1 ?_;refine al 2 ?_;refine nl ?_
 refine md (γ:=Unit) (fun _=>cW [(4,.one (.pt 0 0)),(5,.one (.pt 1 0)),(6,.one (.pt 2 0))]) (fun _=>([⟨24,0,[tv (.bool false),tv (.slice none 0 0)]⟩,⟨63,0,[tv (.bool (aT k)),.t (sU false (dg 4294967296 k.natAbs))]⟩,⟨63,0,[tv (.bool (aT k')),.t (sU false (dg 4294967296 k'.natAbs))]⟩]:List Ob).map some) (fun _=>True) ?_ fun _ _=>?_
 ·refine rd [0,1,2] (fun i=>[7].contains i) mixed ?_
  refine cI 0 ?_;refine cI 2 ?_;refine WO.three (i:=1) (j:=4) (m:=5) (by kernel_rfl) ?_ ?_ ?_
  ·refine iJ 1 rfl (bO ha) bN ⟨aR rfl,rfl⟩ (kF (k)) ?_;refine WO.three (i:=3) (j:=4) (m:=5) (by kernel_rfl) ?_ ?_ ?_
   ·refine iJ 3 rfl (bO hb) bN ⟨aR rfl,rfl⟩ (kF (k')) ?_;refine WO.two (i:=4) (j:=5) (by kernel_rfl) ?_ ?_
    ·refine dJ (key:=3) 4 rfl rfl aB rfl ⟨rfl,rfl,rfl,trivial⟩ ?_;refine iD (key:=4) 5 (by kernel_rfl) rfl rfl aB rfl ⟨rfl,rfl,rfl,trivial⟩ ?_
     refine cC 6 (by kernel_rfl) rfl rfl aB rfl rfl rfl rfl ⟨rfl,rfl,rfl,trivial⟩ ?_
     refine dst 7 ?_;refine cL ?_;exact⟨(),trivial,bR h0 [2,3,4] _ _ (by decide) ⟨rfl,rfl,rfl,trivial⟩ ⟨oe rfl rfl,oe rfl rfl,oe rfl rfl,rfl⟩⟩
    refine dJ (key:=3) 5 rfl rfl aB rfl ⟨rfl,rfl,rfl,trivial⟩ ?_;refine iD (key:=4) 4 (by kernel_rfl) rfl rfl aB rfl ⟨rfl,rfl,rfl,trivial⟩ ?_
    refine cC 6 (by kernel_rfl) rfl rfl aB rfl rfl rfl rfl ⟨rfl,rfl,rfl,trivial⟩ ?_
    refine dst 7 ?_;refine cL ?_;exact⟨(),trivial,bR h0 [2,4,3] _ _ (by decide) ⟨rfl,rfl,rfl,trivial⟩ ⟨oe rfl rfl,oe rfl rfl,oe rfl rfl,rfl⟩⟩
   ·refine dJ (key:=3) 4 rfl rfl aB rfl ⟨rfl,rfl,rfl,trivial⟩ ?_;refine WO.two (i:=3) (j:=5) (by kernel_rfl) ?_ ?_
    ·refine iJ 3 rfl (bO hb) bN ⟨aR rfl,rfl⟩ (kF (k')) ?_;refine iD (key:=4) 5 (by kernel_rfl) rfl rfl aB rfl ⟨rfl,rfl,rfl,trivial⟩ ?_
     refine cC 6 (by kernel_rfl) rfl rfl aB rfl rfl rfl rfl ⟨rfl,rfl,rfl,trivial⟩ ?_
     refine dst 7 ?_;refine cL ?_;exact⟨(),trivial,bR h0 [2,3,4] _ _ (by decide) ⟨rfl,rfl,rfl,trivial⟩ ⟨oe rfl rfl,oe rfl rfl,oe rfl rfl,rfl⟩⟩
    refine dJ (key:=4) 5 rfl rfl aB rfl ⟨rfl,rfl,rfl,trivial⟩ ?_;refine bT 3 rfl (bO hb) bN ⟨aR rfl,rfl⟩ (kF (k')) ?_
    refine cC 6 (by kernel_rfl) rfl rfl aB rfl rfl rfl rfl ⟨rfl,rfl,rfl,trivial⟩ ?_
    refine dst 7 ?_;refine cL ?_;exact⟨(),trivial,bR h0 [2,3,4] _ _ (by decide) ⟨rfl,rfl,rfl,trivial⟩ ⟨oe rfl rfl,oe rfl rfl,oe rfl rfl,rfl⟩⟩
   refine dJ (key:=3) 5 rfl rfl aB rfl ⟨rfl,rfl,rfl,trivial⟩ ?_;refine WO.two (i:=3) (j:=4) (by kernel_rfl) ?_ ?_
   ·refine iJ 3 rfl (bO hb) bN ⟨aR rfl,rfl⟩ (kF (k')) ?_;refine iD (key:=4) 4 (by kernel_rfl) rfl rfl aB rfl ⟨rfl,rfl,rfl,trivial⟩ ?_
    refine cC 6 (by kernel_rfl) rfl rfl aB rfl rfl rfl rfl ⟨rfl,rfl,rfl,trivial⟩ ?_
    refine dst 7 ?_;refine cL ?_;exact⟨(),trivial,bR h0 [2,4,3] _ _ (by decide) ⟨rfl,rfl,rfl,trivial⟩ ⟨oe rfl rfl,oe rfl rfl,oe rfl rfl,rfl⟩⟩
   refine dJ (key:=4) 4 rfl rfl aB rfl ⟨rfl,rfl,rfl,trivial⟩ ?_;refine bT 3 rfl (bO hb) bN ⟨aR rfl,rfl⟩ (kF (k')) ?_
   refine cC 6 (by kernel_rfl) rfl rfl aB rfl rfl rfl rfl ⟨rfl,rfl,rfl,trivial⟩ ?_
   refine dst 7 ?_;refine cL ?_;exact⟨(),trivial,bR h0 [2,4,3] _ _ (by decide) ⟨rfl,rfl,rfl,trivial⟩ ⟨oe rfl rfl,oe rfl rfl,oe rfl rfl,rfl⟩⟩
  ·refine dJ (key:=3) 4 rfl rfl aB rfl ⟨rfl,rfl,rfl,trivial⟩ ?_;refine WO.two (i:=1) (j:=5) (by kernel_rfl) ?_ ?_
   ·refine iJ 1 rfl (bO ha) bN ⟨aR rfl,rfl⟩ (kF (k)) ?_;refine WO.two (i:=3) (j:=5) (by kernel_rfl) ?_ ?_
    ·refine iJ 3 rfl (bO hb) bN ⟨aR rfl,rfl⟩ (kF (k')) ?_;refine iD (key:=4) 5 (by kernel_rfl) rfl rfl aB rfl ⟨rfl,rfl,rfl,trivial⟩ ?_
     refine cC 6 (by kernel_rfl) rfl rfl aB rfl rfl rfl rfl ⟨rfl,rfl,rfl,trivial⟩ ?_
     refine dst 7 ?_;refine cL ?_;exact⟨(),trivial,bR h0 [2,3,4] _ _ (by decide) ⟨rfl,rfl,rfl,trivial⟩ ⟨oe rfl rfl,oe rfl rfl,oe rfl rfl,rfl⟩⟩
    refine dJ (key:=4) 5 rfl rfl aB rfl ⟨rfl,rfl,rfl,trivial⟩ ?_;refine bT 3 rfl (bO hb) bN ⟨aR rfl,rfl⟩ (kF (k')) ?_
    refine cC 6 (by kernel_rfl) rfl rfl aB rfl rfl rfl rfl ⟨rfl,rfl,rfl,trivial⟩ ?_
    refine dst 7 ?_;refine cL ?_;exact⟨(),trivial,bR h0 [2,3,4] _ _ (by decide) ⟨rfl,rfl,rfl,trivial⟩ ⟨oe rfl rfl,oe rfl rfl,oe rfl rfl,rfl⟩⟩
   refine dJ (key:=4) 5 rfl rfl aB rfl ⟨rfl,rfl,rfl,trivial⟩ ?_;refine bT 1 rfl (bO ha) bN ⟨aR rfl,rfl⟩ (kF (k)) ?_;refine bT 3 rfl (bO hb) bN ⟨aR rfl,rfl⟩ (kF (k')) ?_
   refine cC 6 (by kernel_rfl) rfl rfl aB rfl rfl rfl rfl ⟨rfl,rfl,rfl,trivial⟩ ?_
   refine dst 7 ?_;refine cL ?_;exact⟨(),trivial,bR h0 [2,3,4] _ _ (by decide) ⟨rfl,rfl,rfl,trivial⟩ ⟨oe rfl rfl,oe rfl rfl,oe rfl rfl,rfl⟩⟩
  refine dJ (key:=3) 5 rfl rfl aB rfl ⟨rfl,rfl,rfl,trivial⟩ ?_;refine WO.two (i:=1) (j:=4) (by kernel_rfl) ?_ ?_
  ·refine iJ 1 rfl (bO ha) bN ⟨aR rfl,rfl⟩ (kF (k)) ?_;refine WO.two (i:=3) (j:=4) (by kernel_rfl) ?_ ?_
   ·refine iJ 3 rfl (bO hb) bN ⟨aR rfl,rfl⟩ (kF (k')) ?_;refine iD (key:=4) 4 (by kernel_rfl) rfl rfl aB rfl ⟨rfl,rfl,rfl,trivial⟩ ?_
    refine cC 6 (by kernel_rfl) rfl rfl aB rfl rfl rfl rfl ⟨rfl,rfl,rfl,trivial⟩ ?_
    refine dst 7 ?_;refine cL ?_;exact⟨(),trivial,bR h0 [2,4,3] _ _ (by decide) ⟨rfl,rfl,rfl,trivial⟩ ⟨oe rfl rfl,oe rfl rfl,oe rfl rfl,rfl⟩⟩
   refine dJ (key:=4) 4 rfl rfl aB rfl ⟨rfl,rfl,rfl,trivial⟩ ?_;refine bT 3 rfl (bO hb) bN ⟨aR rfl,rfl⟩ (kF (k')) ?_
   refine cC 6 (by kernel_rfl) rfl rfl aB rfl rfl rfl rfl ⟨rfl,rfl,rfl,trivial⟩ ?_
   refine dst 7 ?_;refine cL ?_;exact⟨(),trivial,bR h0 [2,4,3] _ _ (by decide) ⟨rfl,rfl,rfl,trivial⟩ ⟨oe rfl rfl,oe rfl rfl,oe rfl rfl,rfl⟩⟩
  refine dJ (key:=4) 4 rfl rfl aB rfl ⟨rfl,rfl,rfl,trivial⟩ ?_;refine bT 1 rfl (bO ha) bN ⟨aR rfl,rfl⟩ (kF (k)) ?_;refine bT 3 rfl (bO hb) bN ⟨aR rfl,rfl⟩ (kF (k')) ?_
  refine cC 6 (by kernel_rfl) rfl rfl aB rfl rfl rfl rfl ⟨rfl,rfl,rfl,trivial⟩ ?_
  refine dst 7 ?_;refine cL ?_;exact⟨(),trivial,bR h0 [2,4,3] _ _ (by decide) ⟨rfl,rfl,rfl,trivial⟩ ⟨oe rfl rfl,oe rfl rfl,oe rfl rfl,rfl⟩⟩
 refine sq ?_;refine rd [0,1,2] (fun i=>[15].contains i) mixed ?_
 refine dv 0 ?_;refine dv 1 ?_;refine cI 2 ?_;refine dv 3 ?_;refine dv 4 ?_;refine cI 5 ?_;refine dv 6 ?_;refine dv 7 ?_;refine dv 8 ?_;refine cI 9 ?_;refine dv 10 ?_;refine dv 11 ?_
 refine cI 12 ?_
 have hA:aK true Tryd.prog 45 [] [.one (.t (sU false (dg 4294967296 k.natAbs))),.one (.t (sU false (dg 4294967296 k'.natAbs)))] (aY (.one (.t (sU true (dg 4294967296 (k.natAbs*k'.natAbs)))))):=by have h9:=Nq (aL (by omega) k.natAbs) (aL (by omega) k'.natAbs) (by omega) (by omega);rwa[aS,aS]at h9
 refine wJ 3 13 rfl hA Qe ⟨a1 rfl,a1 rfl,rfl⟩ ?_
 refine pN 14 4 [3] rfl (dR (b:=(aT k != aT k')) (m:=(k.natAbs*k'.natAbs)) (K:=k*k') (Gy k k')) iF ⟨dD rfl,rfl⟩ ⟨rfl,rfl,rfl⟩ ⟨rfl,rfl,rfl,trivial⟩ ?_
 refine dst 15 ?_;refine cL ?_;refine rt ?_
 exact en (.inl rfl) rfl (bM (.agg (.cons (.id rfl) (.cons (.sl (trs:=aW (dg 4294967296 ((k*k')).natAbs)) rfl rfl (bY _) (bS _)) .nil)))) (by decide) (fun _=>dI ((k*k'))) rfl
theorem Ny {a b:Zi}{k k':Int}(ha:Zg a k) (hb:Zg b k'):aK true Tryd.prog 13 [] [gF a,gF b] (aY (kO (((Int.gcd k k'):Nat):Int))):=by
 refine cX Tryd.func13 rfl Tryd.ntmps13 rfl aB rfl fun N w c0 h0=>?_
 have hkl:=ha.len
 have hkl':=hb.len
 refine sq ?_;refine rl ?_;refine bx 0 ?_;refine bx 1 ?_;refine al 2 ?_;refine nl ?_;refine sq ?_;refine rd [0,1,2] (fun i=>[11].contains i) mixed ?_
 refine cI 0 ?_;refine cI 4 ?_;refine bT 1 rfl (bO ha) bN ⟨aR rfl,rfl⟩ (kF (k)) ?_;refine df 2 ?_;refine df 3 ?_;refine bT 5 rfl (bO hb) bN ⟨aR rfl,rfl⟩ (kF (k')) ?_
 refine df 6 ?_;refine df 7 ?_;refine Jn (key:=3) 8 (by kernel_rfl) rfl rfl aB rfl ⟨rfl,rfl,rfl,trivial⟩ ?_
 refine Rk (i:=13) (k:=3) (t:=22) (t':=22) (z:=1) (n:=2) (l:=[sU false (dg 4294967296 k.natAbs),sU false (dg 4294967296 k'.natAbs)]) rfl rfl rfl rfl (.one .sl) (by rfl) (by rfl) ?_
 have hA:aK true Tryd.prog 47 [] [.one (.t (.s false 22 1 2 [sU false (dg 4294967296 k.natAbs),sU false (dg 4294967296 k'.natAbs)]))] (aY (.one (.t (sU true (dg 4294967296 (Int.gcd k k')))))):=by
  have h9:=Nr (t:=22) (aL (by omega) k.natAbs) (aL (by omega) k'.natAbs) (by omega) (by omega)
  rwa[show jF [dg 4294967296 k.natAbs,dg 4294967296 k'.natAbs]=(Int.gcd k k') by simp only[jF,List.foldl_cons,List.foldl_nil,aS,Nat.gcd_zero_left];rfl]at h9
 refine wJ 4 9 rfl hA Qf ⟨a1 rfl,rfl⟩ ?_
 refine pN 10 5 [4] rfl (dR (b:=false) (m:=(Int.gcd k k')) (K:=(((Int.gcd k k'):Nat):Int)) (by simp[cD])) iF ⟨dD rfl,rfl⟩ ⟨rfl,rfl,rfl⟩ ⟨rfl,rfl,rfl,trivial⟩ ?_
 refine dst 11 ?_;refine cL ?_;refine rt ?_
 exact en (.inl rfl) rfl (bM (.agg (.cons (.id rfl) (.cons (.sl (trs:=aW (dg 4294967296 ((((Int.gcd k k'):Nat):Int)).natAbs)) rfl rfl (bY _) (bS _)) .nil)))) (by decide) (fun _=>dI ((((Int.gcd k k'):Nat):Int))) rfl
theorem Bn (xs:List Nat):((aW xs).map AV.t).take (aW xs).length=(aW xs).map .t:=List.take_of_length_le (by simp)
theorem Dx {a b:Zi}{k k':Int}(ha:Zg a k) (hb:Zg b k') (hz0:k'≠0):aK true Tryd.prog 20 [] [gF a,gF b] (aY (.tup [kO (k.fdiv k'),kO (k.fmod k'),.one (tv (.int .i64 0))])):=by
 refine cX Tryd.func20 rfl Tryd.ntmps20 rfl aB rfl fun N w c0 h0=>?_
 have hkl:=ha.len
 have hkl':=hb.len
 have hq:(dg 4294967296 (k.natAbs/k'.natAbs)).length≤300000000000:=Nat.le_trans (nB (Nat.div_le_self _ _)) hkl
 have hr0:=Nat.mod_lt k.natAbs (show 0<k'.natAbs by omega)
 have hrl:(dg 4294967296 (k.natAbs%k'.natAbs)).length≤300000000000:=Nat.le_trans (nB (Nat.le_of_lt hr0)) hkl'
 refine sq ?_;refine rl ?_;refine bx 0 ?_;refine bx 1 ?_;refine al 2 ?_;refine al 3 ?_;refine o1 ?_;refine nl ?_
 refine md (γ:=Unit) (fun _=>cW [(4,.one (.pt 0 0)),(5,.one (.pt 1 0)),(6,.one (tv (.int .i64 ((0:Nat):Int)))),(7,.one (.pt 2 0)),(8,.one (.pt 3 0))]) (fun _=>([⟨24,0,[tv (.bool false),tv (.slice none 0 0)]⟩,⟨24,0,[tv (.bool false),tv (.slice none 0 0)]⟩,⟨63,0,[tv (.bool (aT k)),.t (sU false (dg 4294967296 k.natAbs))]⟩,⟨63,0,[tv (.bool (aT k')),.t (sU false (dg 4294967296 k'.natAbs))]⟩]:List Ob).map some) (fun _=>True) ?_ fun _ _=>?_
 ·refine rd [0,1,2,3] (fun i=>[7].contains i) mixed ?_
  refine cI 0 ?_;refine cI 2 ?_;refine WO.three (i:=1) (j:=4) (m:=5) (by kernel_rfl) ?_ ?_ ?_
  ·refine iJ 1 rfl (bO ha) bN ⟨aR rfl,rfl⟩ (kF (k)) ?_;refine WO.three (i:=3) (j:=4) (m:=5) (by kernel_rfl) ?_ ?_ ?_
   ·refine iJ 3 rfl (bO hb) bN ⟨aR rfl,rfl⟩ (kF (k')) ?_;refine WO.two (i:=4) (j:=5) (by kernel_rfl) ?_ ?_
    ·refine dJ (key:=4) 4 rfl rfl aB rfl ⟨rfl,rfl,rfl,rfl,trivial⟩ ?_;refine iD (key:=5) 5 (by kernel_rfl) rfl rfl aB rfl ⟨rfl,rfl,rfl,rfl,trivial⟩ ?_
     refine cC 6 (by kernel_rfl) rfl rfl aB rfl rfl rfl rfl ⟨rfl,rfl,rfl,rfl,trivial⟩ ?_
     refine dst 7 ?_;refine cL ?_;exact⟨(),trivial,bR h0 [2,3,4,5] _ _ (by decide) ⟨rfl,rfl,rfl,rfl,rfl,trivial⟩ ⟨oe rfl rfl,oe rfl rfl,oe rfl rfl,oe rfl rfl,rfl⟩⟩
    refine dJ (key:=4) 5 rfl rfl aB rfl ⟨rfl,rfl,rfl,rfl,trivial⟩ ?_;refine iD (key:=5) 4 (by kernel_rfl) rfl rfl aB rfl ⟨rfl,rfl,rfl,rfl,trivial⟩ ?_
    refine cC 6 (by kernel_rfl) rfl rfl aB rfl rfl rfl rfl ⟨rfl,rfl,rfl,rfl,trivial⟩ ?_
    refine dst 7 ?_;refine cL ?_;exact⟨(),trivial,bR h0 [2,3,5,4] _ _ (by decide) ⟨rfl,rfl,rfl,rfl,rfl,trivial⟩ ⟨oe rfl rfl,oe rfl rfl,oe rfl rfl,oe rfl rfl,rfl⟩⟩
   ·refine dJ (key:=4) 4 rfl rfl aB rfl ⟨rfl,rfl,rfl,rfl,trivial⟩ ?_;refine WO.two (i:=3) (j:=5) (by kernel_rfl) ?_ ?_
    ·refine iJ 3 rfl (bO hb) bN ⟨aR rfl,rfl⟩ (kF (k')) ?_;refine iD (key:=5) 5 (by kernel_rfl) rfl rfl aB rfl ⟨rfl,rfl,rfl,rfl,trivial⟩ ?_
     refine cC 6 (by kernel_rfl) rfl rfl aB rfl rfl rfl rfl ⟨rfl,rfl,rfl,rfl,trivial⟩ ?_
     refine dst 7 ?_;refine cL ?_;exact⟨(),trivial,bR h0 [2,3,4,5] _ _ (by decide) ⟨rfl,rfl,rfl,rfl,rfl,trivial⟩ ⟨oe rfl rfl,oe rfl rfl,oe rfl rfl,oe rfl rfl,rfl⟩⟩
    refine dJ (key:=5) 5 rfl rfl aB rfl ⟨rfl,rfl,rfl,rfl,trivial⟩ ?_;refine bT 3 rfl (bO hb) bN ⟨aR rfl,rfl⟩ (kF (k')) ?_
    refine cC 6 (by kernel_rfl) rfl rfl aB rfl rfl rfl rfl ⟨rfl,rfl,rfl,rfl,trivial⟩ ?_
    refine dst 7 ?_;refine cL ?_;exact⟨(),trivial,bR h0 [2,3,4,5] _ _ (by decide) ⟨rfl,rfl,rfl,rfl,rfl,trivial⟩ ⟨oe rfl rfl,oe rfl rfl,oe rfl rfl,oe rfl rfl,rfl⟩⟩
   refine dJ (key:=4) 5 rfl rfl aB rfl ⟨rfl,rfl,rfl,rfl,trivial⟩ ?_;refine WO.two (i:=3) (j:=4) (by kernel_rfl) ?_ ?_
   ·refine iJ 3 rfl (bO hb) bN ⟨aR rfl,rfl⟩ (kF (k')) ?_;refine iD (key:=5) 4 (by kernel_rfl) rfl rfl aB rfl ⟨rfl,rfl,rfl,rfl,trivial⟩ ?_
    refine cC 6 (by kernel_rfl) rfl rfl aB rfl rfl rfl rfl ⟨rfl,rfl,rfl,rfl,trivial⟩ ?_
    refine dst 7 ?_;refine cL ?_;exact⟨(),trivial,bR h0 [2,3,5,4] _ _ (by decide) ⟨rfl,rfl,rfl,rfl,rfl,trivial⟩ ⟨oe rfl rfl,oe rfl rfl,oe rfl rfl,oe rfl rfl,rfl⟩⟩
   refine dJ (key:=5) 4 rfl rfl aB rfl ⟨rfl,rfl,rfl,rfl,trivial⟩ ?_;refine bT 3 rfl (bO hb) bN ⟨aR rfl,rfl⟩ (kF (k')) ?_
   refine cC 6 (by kernel_rfl) rfl rfl aB rfl rfl rfl rfl ⟨rfl,rfl,rfl,rfl,trivial⟩ ?_
   refine dst 7 ?_;refine cL ?_;exact⟨(),trivial,bR h0 [2,3,5,4] _ _ (by decide) ⟨rfl,rfl,rfl,rfl,rfl,trivial⟩ ⟨oe rfl rfl,oe rfl rfl,oe rfl rfl,oe rfl rfl,rfl⟩⟩
  ·refine dJ (key:=4) 4 rfl rfl aB rfl ⟨rfl,rfl,rfl,rfl,trivial⟩ ?_;refine WO.two (i:=1) (j:=5) (by kernel_rfl) ?_ ?_
   ·refine iJ 1 rfl (bO ha) bN ⟨aR rfl,rfl⟩ (kF (k)) ?_;refine WO.two (i:=3) (j:=5) (by kernel_rfl) ?_ ?_
    ·refine iJ 3 rfl (bO hb) bN ⟨aR rfl,rfl⟩ (kF (k')) ?_;refine iD (key:=5) 5 (by kernel_rfl) rfl rfl aB rfl ⟨rfl,rfl,rfl,rfl,trivial⟩ ?_
     refine cC 6 (by kernel_rfl) rfl rfl aB rfl rfl rfl rfl ⟨rfl,rfl,rfl,rfl,trivial⟩ ?_
     refine dst 7 ?_;refine cL ?_;exact⟨(),trivial,bR h0 [2,3,4,5] _ _ (by decide) ⟨rfl,rfl,rfl,rfl,rfl,trivial⟩ ⟨oe rfl rfl,oe rfl rfl,oe rfl rfl,oe rfl rfl,rfl⟩⟩
    refine dJ (key:=5) 5 rfl rfl aB rfl ⟨rfl,rfl,rfl,rfl,trivial⟩ ?_;refine bT 3 rfl (bO hb) bN ⟨aR rfl,rfl⟩ (kF (k')) ?_
    refine cC 6 (by kernel_rfl) rfl rfl aB rfl rfl rfl rfl ⟨rfl,rfl,rfl,rfl,trivial⟩ ?_
    refine dst 7 ?_;refine cL ?_;exact⟨(),trivial,bR h0 [2,3,4,5] _ _ (by decide) ⟨rfl,rfl,rfl,rfl,rfl,trivial⟩ ⟨oe rfl rfl,oe rfl rfl,oe rfl rfl,oe rfl rfl,rfl⟩⟩
   refine dJ (key:=5) 5 rfl rfl aB rfl ⟨rfl,rfl,rfl,rfl,trivial⟩ ?_;refine bT 1 rfl (bO ha) bN ⟨aR rfl,rfl⟩ (kF (k)) ?_
   refine bT 3 rfl (bO hb) bN ⟨aR rfl,rfl⟩ (kF (k')) ?_;refine cC 6 (by kernel_rfl) rfl rfl aB rfl rfl rfl rfl ⟨rfl,rfl,rfl,rfl,trivial⟩ ?_
   refine dst 7 ?_;refine cL ?_;exact⟨(),trivial,bR h0 [2,3,4,5] _ _ (by decide) ⟨rfl,rfl,rfl,rfl,rfl,trivial⟩ ⟨oe rfl rfl,oe rfl rfl,oe rfl rfl,oe rfl rfl,rfl⟩⟩
  refine dJ (key:=4) 5 rfl rfl aB rfl ⟨rfl,rfl,rfl,rfl,trivial⟩ ?_;refine WO.two (i:=1) (j:=4) (by kernel_rfl) ?_ ?_
  ·refine iJ 1 rfl (bO ha) bN ⟨aR rfl,rfl⟩ (kF (k)) ?_;refine WO.two (i:=3) (j:=4) (by kernel_rfl) ?_ ?_
   ·refine iJ 3 rfl (bO hb) bN ⟨aR rfl,rfl⟩ (kF (k')) ?_;refine iD (key:=5) 4 (by kernel_rfl) rfl rfl aB rfl ⟨rfl,rfl,rfl,rfl,trivial⟩ ?_
    refine cC 6 (by kernel_rfl) rfl rfl aB rfl rfl rfl rfl ⟨rfl,rfl,rfl,rfl,trivial⟩ ?_
    refine dst 7 ?_;refine cL ?_;exact⟨(),trivial,bR h0 [2,3,5,4] _ _ (by decide) ⟨rfl,rfl,rfl,rfl,rfl,trivial⟩ ⟨oe rfl rfl,oe rfl rfl,oe rfl rfl,oe rfl rfl,rfl⟩⟩
   refine dJ (key:=5) 4 rfl rfl aB rfl ⟨rfl,rfl,rfl,rfl,trivial⟩ ?_;refine bT 3 rfl (bO hb) bN ⟨aR rfl,rfl⟩ (kF (k')) ?_
   refine cC 6 (by kernel_rfl) rfl rfl aB rfl rfl rfl rfl ⟨rfl,rfl,rfl,rfl,trivial⟩ ?_
   refine dst 7 ?_;refine cL ?_;exact⟨(),trivial,bR h0 [2,3,5,4] _ _ (by decide) ⟨rfl,rfl,rfl,rfl,rfl,trivial⟩ ⟨oe rfl rfl,oe rfl rfl,oe rfl rfl,oe rfl rfl,rfl⟩⟩
  refine dJ (key:=5) 4 rfl rfl aB rfl ⟨rfl,rfl,rfl,rfl,trivial⟩ ?_;refine bT 1 rfl (bO ha) bN ⟨aR rfl,rfl⟩ (kF (k)) ?_
  refine bT 3 rfl (bO hb) bN ⟨aR rfl,rfl⟩ (kF (k')) ?_;refine cC 6 (by kernel_rfl) rfl rfl aB rfl rfl rfl rfl ⟨rfl,rfl,rfl,rfl,trivial⟩ ?_
  refine dst 7 ?_;refine cL ?_;exact⟨(),trivial,bR h0 [2,3,5,4] _ _ (by decide) ⟨rfl,rfl,rfl,rfl,rfl,trivial⟩ ⟨oe rfl rfl,oe rfl rfl,oe rfl rfl,oe rfl rfl,rfl⟩⟩
 refine sq ?_;refine rl ?_;refine o1 ?_;refine o1 ?_;refine ld ?_;refine o1 ?_;refine o1 ?_;refine ld ?_
 have hD:aK true Tryd.prog 51 [] [.one (.t (sU false (dg 4294967296 k.natAbs))),.one (.t (sU false (dg 4294967296 k'.natAbs)))] (aY (.tup [.one (.t (sU true (dg 4294967296 (k.natAbs/k'.natAbs)))),.one (.t (sU true (dg 4294967296 (k.natAbs%k'.natAbs)))),.one (tv (.int .i64 0))])):=by
  have h9:=Ds (aL (by omega) k.natAbs) (aL (by omega) k'.natAbs) (by omega) (by omega) (by rw[aS];omega)
  rwa[aS,aS]at h9
 refine mW 4 hD Qh ⟨a1 rfl,a1 rfl,rfl⟩ ?_;(iterate 7 refine o1 ?_);refine nl ?_;refine sq ?_;refine sq ?_;refine rl ?_;refine o1 ?_;refine o1 ?_;refine nl ?_
 refine dO rfl (fun h1=>?_) (fun h1=>?_)
 ·exact absurd rfl h1
 refine sk ?_;refine sq ?_;refine sq ?_;refine rl ?_;refine o1 ?_;refine o1 ?_;refine ld ?_;refine o1 ?_;refine o1 ?_;refine ld ?_;refine o1 ?_;refine o1 ?_
 refine WL.splitb (t:=37) rfl (fun h2=>?_) (fun h2=>?_)
 ·(iterate 4 refine o1 ?_);refine nl ?_;refine dO rfl (fun h3=>?_) (fun h3=>?_)
  ·refine sq ?_;refine rl ?_;refine o1 ?_;refine bs 6 ?_
   have hA:aK true Tryd.prog 52 [] [.one (.t (sU false (dg 4294967296 (k.natAbs/k'.natAbs)))),.one (.t (sU false [1]))] (aY (.one (.t (sU true (dg 4294967296 ((k.natAbs/k'.natAbs)+1)))))):=by
    have h9:=Fc (aL (by omega) (k.natAbs/k'.natAbs)) (Lim.cons (show 1<4294967296 by omega) Lim.nil) (by omega) (by simp)
    rwa[bJ (by omega),show vl 4294967296 [1]=1 from rfl]at h9
   refine mW 7 hA Ju ⟨En rfl (.sl rfl rfl (Bn _) (bS _)),En rfl (.sl (trs:=aW [1]) rfl rfl rfl rfl),rfl⟩ ?_;refine o1 ?_;refine nl ?_;refine rl ?_;refine o1 ?_;refine o1 ?_
   refine ld ?_;refine o1 ?_
   have hS:aK true Tryd.prog 53 [] [.one (.t (sU false (dg 4294967296 k'.natAbs))),.one (.t (sU false (dg 4294967296 (k.natAbs%k'.natAbs))))] (aY (.tup [.one (.t (sU true (dg 4294967296 (k'.natAbs-(k.natAbs%k'.natAbs))))),.one (tv (.int .i64 0))])):=by
    have h9:=yT (aL (by omega) k'.natAbs) (aL (by omega) (k.natAbs%k'.natAbs)) (by omega) (by rw[aS,bJ (by omega)];omega)
    rwa[aS,bJ (by omega)]at h9
   refine mW 8 hS Cy ⟨a1 rfl,En rfl (.sl rfl rfl (Bn _) (bS _)),rfl⟩ ?_;(iterate 4 refine o1 ?_);refine nl ?_;refine sq ?_
   have hd:k.fdiv k'=cD (aT k != aT k') ((k.natAbs/k'.natAbs)+1)∧k.fmod k'=cD (aT k') (k'.natAbs-(k.natAbs%k'.natAbs)):=by
    have h9:aT k≠aT k':=by simpa using h2
    have h7:k.natAbs%k'.natAbs≠0:=by have h5:=fQ (m:=(k.natAbs%k'.natAbs)) rfl;rw[decide_eq_true (by omega)]at h5;have h6:=of_decide_eq_true h5.symm;omega
    have h8:=Hb (a:=k) (b:=k') hz0 h9 h7
    rw[h2];exact h8
   refine rd [1,2,3,6] (fun i=>[15,16].contains i) mixed ?_
   refine dv 0 ?_;refine dv 1 ?_;refine cI 2 ?_;refine dv 3 ?_;refine dv 4 ?_;refine cI 5 ?_;refine dv 6 ?_;refine dv 7 ?_;refine dv 9 ?_;refine dv 10 ?_;refine cI 11 ?_
   refine dv 12 ?_
   refine pN 8 9 [7] rfl (dR (b:=(aT k != aT k')) (m:=((k.natAbs/k'.natAbs)+1)) (K:=(k.fdiv k')) hd.1.symm) iF ⟨dD rfl,rfl⟩ ⟨rfl,rfl,rfl⟩ ⟨rfl,rfl,rfl,rfl,trivial⟩ ?_
   refine pN 13 10 [8] rfl (dR (b:=(aT k')) (m:=(k'.natAbs-(k.natAbs%k'.natAbs))) (K:=(k.fmod k')) hd.2.symm) iF ⟨dD rfl,rfl⟩ ⟨rfl,rfl,rfl⟩ ⟨rfl,rfl,rfl,rfl,trivial⟩ ?_
   refine cC 14 (by kernel_rfl) rfl rfl aB rfl rfl rfl rfl ⟨rfl,rfl,rfl,rfl,trivial⟩ ?_
   refine dst 15 ?_;refine tU 16 (by kernel_rfl) rfl rfl aB rfl (by trivial) ?_ (fun h=>by first | rfl | cases h)
   refine cL ?_;refine rt ?_
   exact en (.inl rfl) rfl (Ct (.cons (.agg (.cons (.id rfl) (.cons (.sl (trs:=aW (dg 4294967296 ((k.fdiv k')).natAbs)) rfl rfl (bY _) (bS _)) .nil))) (.cons (.agg (.cons (.id rfl) (.cons (.sl (trs:=aW (dg 4294967296 ((k.fmod k')).natAbs)) rfl rfl (bY _) (bS _)) .nil))) (.cons (dF (.int .i64 0)) .nil)))) (by decide) (fun _=>⟨dI (k.fdiv k'),dI (k.fmod k'),trivial,trivial⟩) rfl
  refine sk ?_;refine sq ?_;have hd:k.fdiv k'=cD (aT k != aT k') (k.natAbs/k'.natAbs)∧k.fmod k'=cD (aT k') (k.natAbs%k'.natAbs):=by
   have h9:aT k≠aT k':=by simpa using h2
   have h7:k.natAbs%k'.natAbs=0:=by have h5:=fQ (m:=(k.natAbs%k'.natAbs)) rfl;rw[decide_eq_false (by omega)]at h5;have h6:=of_decide_eq_false h5.symm;omega
   have h8:=Ha (a:=k) (b:=k') hz0 h9 h7
   rw[h2];exact h8
  refine rd [1,2,3] (fun i=>[15,16].contains i) mixed ?_
  refine dv 0 ?_;refine dv 1 ?_;refine cI 2 ?_;refine dv 3 ?_;refine dv 4 ?_;refine cI 5 ?_;refine dv 6 ?_;refine dv 7 ?_;refine dv 9 ?_;refine dv 10 ?_;refine cI 11 ?_
  refine dv 12 ?_
  refine pN 8 6 [4] rfl (dR (b:=(aT k != aT k')) (m:=(k.natAbs/k'.natAbs)) (K:=(k.fdiv k')) hd.1.symm) iF ⟨dD rfl,rfl⟩ ⟨rfl,rfl,rfl⟩ ⟨rfl,rfl,rfl,trivial⟩ ?_
  refine pN 13 7 [5] rfl (dR (b:=(aT k')) (m:=(k.natAbs%k'.natAbs)) (K:=(k.fmod k')) hd.2.symm) iF ⟨dD rfl,rfl⟩ ⟨rfl,rfl,rfl⟩ ⟨rfl,rfl,rfl,trivial⟩ ?_
  refine cC 14 (by kernel_rfl) rfl rfl aB rfl rfl rfl rfl ⟨rfl,rfl,rfl,trivial⟩ ?_
  refine dst 15 ?_;refine tU 16 (by kernel_rfl) rfl rfl aB rfl (by trivial) ?_ (fun h=>by first | rfl | cases h)
  refine cL ?_;refine rt ?_
  exact en (.inl rfl) rfl (Ct (.cons (.agg (.cons (.id rfl) (.cons (.sl (trs:=aW (dg 4294967296 ((k.fdiv k')).natAbs)) rfl rfl (bY _) (bS _)) .nil))) (.cons (.agg (.cons (.id rfl) (.cons (.sl (trs:=aW (dg 4294967296 ((k.fmod k')).natAbs)) rfl rfl (bY _) (bS _)) .nil))) (.cons (dF (.int .i64 0)) .nil)))) (by decide) (fun _=>⟨dI (k.fdiv k'),dI (k.fmod k'),trivial,trivial⟩) rfl
 (iterate 3 refine jB ?_);refine o1 ?_;refine nl ?_;refine vU rfl ?_;refine sk ?_;refine sq ?_
 have hd:k.fdiv k'=cD (aT k != aT k') (k.natAbs/k'.natAbs)∧k.fmod k'=cD (aT k') (k.natAbs%k'.natAbs):=by
  have h9:aT k=aT k':=by simpa using h2
  have h8:=Gz (a:=k) (b:=k') hz0 h9
  rw[h2];exact h8
 refine rd [1,2,3] (fun i=>[15,16].contains i) mixed ?_
 refine dv 0 ?_;refine dv 1 ?_;refine cI 2 ?_;refine dv 3 ?_;refine dv 4 ?_;refine cI 5 ?_;refine dv 6 ?_;refine dv 7 ?_;refine dv 9 ?_;refine dv 10 ?_;refine cI 11 ?_
 refine dv 12 ?_
 refine pN 8 6 [4] rfl (dR (b:=(aT k != aT k')) (m:=(k.natAbs/k'.natAbs)) (K:=(k.fdiv k')) hd.1.symm) iF ⟨dD rfl,rfl⟩ ⟨rfl,rfl,rfl⟩ ⟨rfl,rfl,rfl,trivial⟩ ?_
 refine pN 13 7 [5] rfl (dR (b:=(aT k')) (m:=(k.natAbs%k'.natAbs)) (K:=(k.fmod k')) hd.2.symm) iF ⟨dD rfl,rfl⟩ ⟨rfl,rfl,rfl⟩ ⟨rfl,rfl,rfl,trivial⟩ ?_
 refine cC 14 (by kernel_rfl) rfl rfl aB rfl rfl rfl rfl ⟨rfl,rfl,rfl,trivial⟩ ?_
 refine dst 15 ?_;refine tU 16 (by kernel_rfl) rfl rfl aB rfl (by trivial) ?_ (fun h=>by first | rfl | cases h)
 refine cL ?_;refine rt ?_
 exact en (.inl rfl) rfl (Ct (.cons (.agg (.cons (.id rfl) (.cons (.sl (trs:=aW (dg 4294967296 ((k.fdiv k')).natAbs)) rfl rfl (bY _) (bS _)) .nil))) (.cons (.agg (.cons (.id rfl) (.cons (.sl (trs:=aW (dg 4294967296 ((k.fmod k')).natAbs)) rfl rfl (bY _) (bS _)) .nil))) (.cons (dF (.int .i64 0)) .nil)))) (by decide) (fun _=>⟨dI (k.fdiv k'),dI (k.fmod k'),trivial,trivial⟩) rfl
theorem xI {α:Type}{f:α→List Tr}{z:Nat}(hf:∀x,(f x).length=z):∀{xs:List α}{k:Nat}{x:α},xs[k]? =some x→((xs.flatMap f).drop (k*z)).take z=f x
 | [],_,_,h=>by simp at h
 | y::xs,0,x,h=>by
  simp at h
  subst h
  rw[Nat.zero_mul,List.drop_zero,List.flatMap_cons,List.take_append_of_le_length (by rw[hf];exact Nat.le_refl _),List.take_of_length_le (by rw[hf];exact Nat.le_refl _)]
 | y::xs,k+1,x,h=>by
  rw[List.getElem?_cons_succ]at h
  have e:(f y++xs.flatMap f).drop z=xs.flatMap f:=by rw[←hf y];simp
  rw[List.flatMap_cons,Nat.succ_mul,Nat.add_comm,←List.drop_drop,e]
  exact xI hf h
theorem lU {α:Type}{f:α→List Tr}{z:Nat}(hf:∀x,(f x).length=z):∀(xs:List α),(xs.flatMap f).length=xs.length*z
 | []=>by simp
 | y::xs=>by rw[List.flatMap_cons,List.length_append,hf,lU hf xs,List.length_cons,Nat.succ_mul,Nat.add_comm]
theorem Dy {α:Type}{f:α→List Tr}{z o m:Nat}(hf:∀x,(f x).length=z){xs:List α}{k:Nat}{x:α}(h:xs[k]? =some x) (hm:o+m≤z):((xs.flatMap f).drop (k*z+o)).take m=((f x).drop o).take m:=by
 have e:=xI hf h
 rw[←List.drop_drop,←e,List.drop_take,List.take_take,Nat.min_eq_left (by omega)]
section
variable {α:Type}{f:α→List Tr}{z:Nat}{xs:List α}{k o:Nat}{x x' y:α}{us:List Tr}
theorem iB (hf:∀x,(f x).length=z) (h:xs[k]? =some x) (hm:o+us.length≤z) (hu:((f x).drop o).take us.length=us):((xs.flatMap f).drop (k*z+o)).take us.length=us:=by
 rw[Dy hf h hm]
 exact hu
end
end Go.Proofs.YtecamoobdlghfaaDoor
