/- Part 7 of a proof: Th to Rib5. -/
import Derived.Test.YteggpgndiajdpaaDoorM6
import Derived.Test.YteggpgndiajdpaaDoorM4
import Derived.ProofKit
import Derived.ChangeOld
import Derived.Deep.Slices
import Derived.Deep.Strs
import Derived.WalkKit
import Derived.OpenShut
import Derived.Below
import Derived.Carry
set_option maxRecDepth 100000
set_option linter.unusedVariables false
set_option linter.unusedSimpArgs false
namespace Go.Proofs.YteggpgndiajdpaaDoor
open Go Go.RowKit
theorem Iw {xs:List Nat}{m:Nat}(h:m≤xs.length):FV.one (.t (.s false 64 1 m ((aN xs).take (m*1))))=.one (.t (sU false (xs.take m))):=by
 unfold sU aN
 rw[Nat.mul_one,←List.map_take,List.length_take,Nat.min_eq_left h]
def Nn (xs:List Nat) (u:Nat):Prop:=Lim 4294967296 xs∧xs.length≤1000000∧vl 4294967296 xs=u
theorem Nn.of {u:Nat}(h:(dg 4294967296 u).length≤1000000):Nn (dg 4294967296 u) u:=⟨bQ (by omega) _,h,bY (by omega) _⟩
theorem Nn.eqT {xs:List Nat}{u:Nat}(h:Nn xs u):dg 4294967296 u=trim xs:=by rw[←h.2.2,cS (by omega) h.1]
theorem Nn.len {xs:List Nat}{u L:Nat}(h:Nn xs u) (hL:xs.length≤L):(dg 4294967296 u).length≤L:=by rw[h.eqT];exact Nat.le_trans (bK _) hL
section
variable {xs ys:List Nat}{u v w q r:Nat}
abbrev nF (xs:List Nat):FV:=.one (.t (sU false xs))
abbrev nO (u:Nat):FV:=.one (.t (sU true (dg 4294967296 u)))
theorem dV (hx:Nn xs u) (hy:Nn ys v) (e:u*v=w):aM true Tryd.prog 49 [] [nF xs,nF ys] (bG (nO w)):=by
 obtain⟨a,b,rfl⟩:=hx
 obtain⟨c,d,rfl⟩:=hy
 exact e▸Kq a c (by omega) (by omega)
theorem oE (hx:Nn xs u) (hy:Nn ys v) (e:u+v=w):aM true Tryd.prog 53 [] [nF xs,nF ys] (bG (nO w)):=by
 obtain⟨a,b,rfl⟩:=hx
 obtain⟨c,d,rfl⟩:=hy
 exact e▸Da a c (by omega) (by omega)
theorem tA (hx:Nn xs u):aM true Tryd.prog 47 [] [nF xs] (bG (nO u)):=vN hx.1 (Nat.le_trans hx.2.1 (by omega)) hx.2.2
theorem Kt (hx:Nn xs u) (hy:Nn ys v):aM true Tryd.prog 55 [] [nF xs,nF ys] (bG (.one (tv (.int .i64 (eH u v))))):=by
 obtain⟨a,b,rfl⟩:=hx
 obtain⟨c,d,rfl⟩:=hy
 exact Ko a c
theorem xI {m:Nat}(hx:Nn xs u) (hm:m<4294967296) (e:u*m=w):aM true Tryd.prog 87 [] [nF xs,.one (tv (.int .u32 (m:Int)))] (bG (nO w)):=by
 obtain⟨a,b,rfl⟩:=hx
 exact e▸oB a (by omega) hm
theorem gP (hx:Nn xs u) (hy:Nn ys v) (h0:v≠0) (hq:u/v=q) (hr:u%v=r):aM true Tryd.prog 40 [] [nF xs,nF ys] (bG (.tup [nO q,nO r,.one (tv (.int .i64 0))])):=by
 obtain⟨a,b,rfl⟩:=hx
 obtain⟨c,d,rfl⟩:=hy
 subst hq hr
 exact Bq a c (by omega) (by omega) h0
theorem zV (hx:Nn xs u) (hy:Nn ys 0):aM true Tryd.prog 40 [] [nF xs,nF ys] (bG (.tup [nO 0,nO 0,.one (tv (.int .i64 20))])):=zU hx.1 hy.1 (Nat.le_trans hx.2.1 (by omega)) (Nat.le_trans hy.2.1 (by omega)) hy.2.2
theorem Ku (hx:Nn xs u):aM true Tryd.prog 46 [] [nF xs] (bG (.one (tv (.string (aO (tx u)))))):=Ks hx.2.1 hx.1 hx.2.2
end
def rT (l:List (List Nat)):List Tr:=l.map (sU false)
def dR (l:List (List Nat)) (k:Nat):List Nat:=l.getD k []
theorem Bs:∀(l:List (List Nat)){k:Nat},k<l.length→((rT l).drop (k*1)).take [sU false (dR l k)].length=[sU false (dR l k)]
 | [],_,h=>by simp at h
 | _::_,0,_=>rfl
 | _::l,k+1,h=>by
  have:=Bs l (k:=k) (by simpa using h)
  simp only[Nat.mul_one]at this⊢
  exact this
theorem jX {l:List (List Nat)}{k:Nat}(h:k<l.length):dR l k∈l:=by
 unfold dR
 rw[List.getD_eq_getElem?_getD,List.getElem?_eq_getElem h]
 exact List.getElem_mem h
theorem tB {l:List (List Nat)}{k:Nat}(h:k<l.length):l[k]? =some (dR l k):=by simp[dR,h]
def val (xs:List Nat):Nat:=vl 4294967296 xs
def eS (l:List (List Nat)):Nat:=l.foldl (fun g xs=>Nat.gcd g (val xs)) 0
def dW (l:List (List Nat)):Nat:=l.foldl (fun g xs=>g*val xs) 1
theorem Ix {l:List (List Nat)}{k:Nat}(h:k<l.length):Nat.gcd (eS (l.take k)) (val (dR l k))=eS (l.take (k+1)):=by
 rw[List.take_add_one,tB h]
 simp[eS]
theorem vS {l:List (List Nat)}{k:Nat}(h:k<l.length):dW (l.take k)*val (dR l k)=dW (l.take (k+1)):=by
 rw[List.take_add_one,tB h]
 simp[dW]
def RL (M:Nat) (l:List (List Nat)):Prop:=∀xs∈l,Lim 4294967296 xs∧xs.length≤M
theorem RL.nn {M k:Nat}{l:List (List Nat)}(h:RL M l) (hM:M≤1000000) (hk:k<l.length):Nn (dR l k) (val (dR l k)):=⟨(h _ (jX hk)).1,Nat.le_trans (h _ (jX hk)).2 hM,rfl⟩
theorem RL.len {M k:Nat}{l:List (List Nat)}(h:RL M l) (hk:k<l.length):(dg 4294967296 (val (dR l k))).length≤M:=by
 unfold val
 rw[cS (by omega) (h _ (jX hk)).1]
 exact Nat.le_trans (bK _) (h _ (jX hk)).2
def oF (n:Int):Int:=if n<0 then 2 else if 4096<n then 3 else 0
def zW (x:Nat) (n:Int):Nat:=if oF n=0 then x^n.toNat else 0
theorem vT {x m:Nat}(h:x<4294967296):(dg 4294967296 (x^m)).length≤m+1:=by
 refine aL (by omega) (Nat.lt_of_le_of_lt (Nat.pow_le_pow_left (Nat.le_of_lt h) m) ?_)
 exact Nat.pow_lt_pow_right (by omega) (by omega)
theorem zX {j:Nat}(h:j≤12):4096/2^j=2^(12-j):=by
 rw[show(4096:Nat)=2^12 from rfl,Nat.pow_div h (by omega)]
theorem Bt (n i:Nat):n&&& 2^i=n/2^i%2*2^i:=by
 apply Nat.eq_of_testBit_eq
 intro k
 rw[Nat.testBit_and,Nat.testBit_two_pow]
 rcases Nat.mod_two_eq_zero_or_one (n/2^i)with h | h
 ·rw[h,Nat.zero_mul,Nat.zero_testBit]
  by_cases hk:i=k
  ·subst hk
   rw[Nat.testBit_eq_decide_div_mod_eq,h]
   rfl
  rw[decide_eq_false hk,Bool.and_false]
 rw[h,Nat.one_mul,Nat.testBit_two_pow]
 by_cases hk:i=k
 ·subst hk
  rw[Nat.testBit_eq_decide_div_mod_eq,h]
  rfl
 rw[decide_eq_false hk,Bool.and_false]
theorem vU {n j:Nat}(h:j≤12):n&&&(4096/2^j)=n/2^(12-j)%2*2^(12-j):=by
 rw[zX h,Bt]
theorem Ff {a b:Nat}(ha:a<9223372036854775808) (hb:b<9223372036854775808):IntKind.i64.wrap ((BitVec.ofInt IntKind.i64.bits (a:Int)&&& BitVec.ofInt IntKind.i64.bits (b:Int)).toNat:Int)=((a&&& b:Nat):Int):=by
 have e:IntKind.i64.bits=64:=rfl
 rw[e,BitVec.toNat_and,BitVec.ofInt_natCast,BitVec.ofInt_natCast,BitVec.toNat_ofNat,BitVec.toNat_ofNat,Nat.mod_eq_of_lt (by omega),Nat.mod_eq_of_lt (by omega)]
 have h1:a&&& b≤a:=Nat.and_le_left
 simp[IntKind.wrap,IntKind.signed,IntKind.bits]
 omega
theorem tC {j:Nat}:Int.fdiv ((4096/2^j:Nat):Int) (2^(min (1:Int).toNat IntKind.i64.bits))=((4096/2^(j+1):Nat):Int):=by
 have e:(2:Int)^(min (1:Int).toNat IntKind.i64.bits)=((2:Nat):Int):=by decide
 rw[e,Int.fdiv_eq_ediv,if_pos (Or.inl (by omega)),Int.sub_zero,←Int.natCast_ediv,Nat.div_div_eq_div_mul,←Nat.pow_succ]
theorem vV {n j:Nat}(h:j≤12):n/2^(12-j)=2*(n/2^(13-j))+n/2^(12-j)%2:=by
 have e:2^(13-j)=2^(12-j)*2:=by rw[show 13-j=(12-j)+1 by omega,Nat.pow_succ]
 rw[e,←Nat.div_div_eq_div_mul]
 omega
theorem Kv {x n j:Nat}(h:j≤12) (hb:n&&&(4096/2^j)=0):x^(n/2^(13-j))*x^(n/2^(13-j))=x^(n/2^(12-j)):=by
 rw[vU h]at hb
 have h1:n/2^(12-j)%2=0:=by
  rcases Nat.mul_eq_zero.1 hb with h2 | h2
  ·exact h2
  have:=Nat.pow_pos (n:=12-j) (show 0<2 by omega);omega
 rw[←Nat.pow_add,vV h,h1]
 congr 1
 omega
theorem Kw {x n j:Nat}(h:j≤12) (hb:n&&&(4096/2^j)≠0):x^(n/2^(13-j))*x^(n/2^(13-j))*x=x^(n/2^(12-j)):=by
 rw[vU h]at hb
 have h1:n/2^(12-j)%2=1:=by
  rcases Nat.mod_two_eq_zero_or_one (n/2^(12-j))with h2 | h2
  ·rw[h2,Nat.zero_mul]at hb;exact absurd rfl hb
  exact h2
 rw[←Nat.pow_add,←Nat.pow_succ,vV h,h1]
 congr 1
 omega
def fT:List Nat:=[0,1,2,2,3,3,3,3,4,4,4,4,4,4,4,4]
def gQ (t:Nat):Nat:=if t≤15 then nth fT t else 4+gQ (t/16)
termination_by t
decreasing_by omega
theorem tD {t:Nat}(h:¬t≤15):gQ t=4+gQ (t/16):=by
 rw[gQ,if_neg h]
theorem oG {t:Nat}(h:t≤15):gQ t=nth fT t:=by
 rw[gQ,if_pos h]
theorem Bu {t:Nat}(h:0<t):0<gQ t:=by
 by_cases h1:t≤15
 ·rw[oG h1]
  have:∀t≤15,0<t→0<nth fT t:=by decide
  exact this t h1 h
 rw[tD h1];omega
theorem Fg:∀{n t:Nat},t<16^n→gQ t≤4*n+4:=by
 intro n
 induction n with
 | zero=>intro t h;rw[show t=0 by simpa using h,oG (by omega)];decide
 | succ n ih=>
  intro t h
  by_cases h1:t≤15
  ·rw[oG h1]
   have:∀t≤15,nth fT t≤4:=by decide
   have:=this t h1
   omega
  rw[tD h1]
  have:=ih (t:=t/16) (by rw[Nat.pow_succ]at h;omega)
  omega
def lX (u:Nat):Nat:=if u=0 then 0 else 32*((dg 4294967296 u).length-1)+gQ (nth (dg 4294967296 u) ((dg 4294967296 u).length-1))
theorem Fh {u:Nat}(h:u≠0):0<nth (dg 4294967296 u) ((dg 4294967296 u).length-1):=by
 have h1:=cS (B:=4294967296) (by omega) (bQ (B:=4294967296) (by omega) u)
 rw[bY (by omega)]at h1
 have h0:(dg 4294967296 u).length≠0:=fun e=>h ((bR (by omega)).1 (List.eq_nil_of_length_eq_zero e))
 have h2:=congrArg List.length h1
 rcases Nat.eq_zero_or_pos (nth (dg 4294967296 u) ((dg 4294967296 u).length-1))with h3 | h3
 ·have h4:=kE (xs:=dg 4294967296 u) (k:=(dg 4294967296 u).length) (by omega) (Nat.le_refl _) h3
  rw[List.take_length,←h1]at h4
  have h5:=bK ((dg 4294967296 u).take ((dg 4294967296 u).length-1))
  have h6:=congrArg List.length h4
  rw[List.length_take]at h5
  omega
 exact h3
theorem zY {u:Nat}:lX u=0↔u=0:=by
 unfold lX
 by_cases h:u=0
 ·simp[h]
 rw[if_neg h]
 have:=Bu (Fh h)
 exact⟨fun h=>by omega,fun h'=>absurd h' h⟩
theorem Ms {t:Nat}:Int.fdiv (t:Int) (2^(min (4:Int).toNat IntKind.u32.bits))=((t/16:Nat):Int):=by
 have e:(2:Int)^(min (4:Int).toNat IntKind.u32.bits)=((16:Nat):Int):=by decide
 rw[e,Int.fdiv_eq_ediv,if_pos (Or.inl (by omega)),Int.sub_zero,←Int.natCast_ediv]
theorem pK {l:List (List Nat)}:dg 4294967296 (dW (l.take 0))=[1]:=by
 show dg 4294967296 1=[1]
 decide
theorem Fi {xs ys:List Nat}(h:¬xs.length=ys.length):false=decide (xs=ys):=(decide_eq_false fun e=>h (by rw[e])).symm
theorem Fj {xs ys:List Nat}{k:Nat}(h:¬nth xs k=nth ys k):false=decide (xs=ys):=(decide_eq_false fun e=>h (by rw[e])).symm
theorem Fk {xs ys:List Nat}{k:Nat}(hl:xs.length=ys.length) (hk:xs.take k=ys.take k) (hk2:xs.length≤k):true=decide (xs=ys):=by
 rw[sY hk2,sY (by omega)]at hk
 exact(decide_eq_true hk).symm
theorem zZ {l:List (List Nat)}(hr:RL 1000 l) (hl:l.length≤100):aM true Tryd.prog 51 [] [.one (.t (.s false 22 1 l.length (rT l)))] (bG (nO (dW l))):=by
 refine gL Tryd.func51 rfl Tryd.ntmps51 rfl bF rfl fun N9 w9 c0 h0=>?_
 refine sq ?_;refine rl ?_;refine o1 ?_;refine nl ?_;refine sq ?_;refine rl ?_;refine bs 0 ?_;refine o1 ?_;refine nl ?_;refine sq ?_;refine sq ?_;refine rl ?_;(iterate 3 refine o1 ?_)
 refine nl ?_;refine bl ?_
 refine lp (γ:=Nat) (fun s=>cO [(3,.one (.sl 0 0 ((dg 4294967296 (dW (l.take s))).length))),(7,.one (.t (.s false 22 1 l.length (rT l)))),(8,.one (tv (.int .i64 ((l.length:Nat):Int)))),(9,.one (tv (.int .i64 ((s:Nat):Int))))]) (fun s=>[(⟨64,1,(aN (dg 4294967296 (dW (l.take s)))).map .t⟩:Ob)].map some) (fun s=>s≤l.length∧(dg 4294967296 (dW (l.take s))).length≤1+1000*s) (fun s=>l.length-s) 0 (⟨Nat.zero_le _,by rw[pK];decide⟩) (cW h0 [0] _ _ (by decide) ⟨(congrArg (fun l:List Nat=>some (FV.one (.sl 0 0 l.length))) pK),rfl,rfl,rfl,trivial⟩ ⟨dT (congrArg (fun l:List Nat=>some (⟨64,1,(aN l).map .t⟩:Ob)) pK.symm),rfl⟩) ?_
 rintro i hi;refine sq ?_;refine rl ?_;refine o1 ?_;refine nl ?_;refine sq ?_;refine cU rfl (fun h1=>?_) (fun h1=>?_)
 ·refine sk ?_;refine sq ?_;refine bl ?_;refine sq ?_;refine rl ?_;refine o1 ?_;refine Cq ([sU false (dR l (i))]) (Bs l (k:=i) (by omega)) ?_
  refine o1 ?_;refine nl ?_;have hml:=hr.len (k:=i) (by omega)
  have hml2:=cJ (dW (l.take i)) (val (dR l i))
  refine rl ?_;refine o1 ?_;refine o1 ?_
  refine qC 1 (dV (Nn.of (by omega)) (hr.nn (by omega) (by omega)) (vS (by omega))) eP ⟨cH rfl (.sl rfl rfl (fN _) (dG _)),a1 rfl,rfl⟩ ?_
  refine o1 ?_;refine nl ?_;refine rl ?_;refine o1 ?_;refine WL.cast (t:=16) (u':=.int .i64 ((i+1:Nat):Int)) rfl (bJ (by omega)) ?_
  refine o1 ?_;refine nl ?_;exact⟨i+1,by omega,⟨by omega,by rw[←vS (by omega)];omega⟩,cW h0 [1] _ _ (by decide) ⟨rfl,rfl,rfl,rfl,trivial⟩ ⟨dT rfl,rfl⟩⟩
 refine ex ?_;refine sq ?_;refine rl ?_;refine o1 ?_;refine o1 ?_;refine nl ?_;refine rt ?_;have hk9:i=l.length:=by omega
 exact en (.inl rfl) rfl (gZ (.one (.sl (trs:=aN (dg 4294967296 (dW (l.take i)))) rfl rfl (lD _) (dG _)))) (by decide) (fun _=>.inl ⟨rfl,gO _⟩) (by rw[hk9,List.take_of_length_le (Nat.le_refl _)];rfl)
theorem Kx {l:List (List Nat)}(hr:RL 1000 l) (hl:l.length≤100):aM true Tryd.prog 42 [] [.one (.t (.s false 22 1 l.length (rT l)))] (bG (nO (eS l))):=by
 refine gL Tryd.func42 rfl Tryd.ntmps42 rfl bF rfl fun N9 w9 c0 h0=>?_
 refine sq ?_;refine rl ?_;refine o1 ?_;refine nl ?_;refine sq ?_;refine rl ?_;refine o1 ?_;refine nl ?_;refine sq ?_;refine sq ?_;refine rl ?_;(iterate 3 refine o1 ?_);refine nl ?_
 refine bl ?_
 refine lp (γ:=Nat) (fun s=>cO [(9,.one (.t (.s false 22 1 l.length (rT l)))),(10,.one (tv (.int .i64 ((l.length:Nat):Int)))),(3,.one (.t (sU false (dg 4294967296 (eS (l.take s)))))),(11,.one (tv (.int .i64 ((s:Nat):Int))))]) (fun s=>([]:List Ob).map some) (fun s=>s≤l.length∧(dg 4294967296 (eS (l.take s))).length≤1000) (fun s=>l.length-s) 0 (⟨Nat.zero_le _,by show(dg 4294967296 0).length≤1000;decide⟩) (((nr (i:=3) 0 64 1 rfl rfl rfl rfl).trans (Cz (i:=3) (zs:=[]) (zs':=[]) rfl rfl rfl rfl rfl)).trans (cW h0 [] _ _ (by decide) ⟨rfl,rfl,rfl,rfl,trivial⟩ rfl)) ?_
 rintro i hi;refine sq ?_;refine rl ?_;refine o1 ?_;refine nl ?_;refine sq ?_;refine cU rfl (fun h1=>?_) (fun h1=>?_)
 ·refine sk ?_;refine sq ?_;refine bl ?_;refine sq ?_;refine rl ?_;refine o1 ?_;refine Cq ([sU false (dR l (i))]) (Bs l (k:=i) (by omega)) ?_
  refine o1 ?_;refine nl ?_;refine sq ?_;refine rl ?_;refine o1 ?_;refine ca (tA (hr.nn (by omega) (by omega))) wN ⟨a1 rfl,rfl⟩ (.one (.t (sU false (dg 4294967296 (val (dR l i)))))) ?_
  refine o1 ?_;refine nl ?_;refine bl ?_
  refine lp (γ:=Nat×Nat) (fun s=>cO [(9,.one (.t (.s false 22 1 l.length (rT l)))),(10,.one (tv (.int .i64 ((l.length:Nat):Int)))),(11,.one (tv (.int .i64 ((i:Nat):Int)))),(3,.one (.t (sU false (dg 4294967296 (s.1))))),(5,.one (.t (sU false (dg 4294967296 (s.2)))))]) (fun s=>([]:List Ob).map some) (fun s=>Nat.gcd s.1 s.2=Nat.gcd (eS (l.take i)) (val (dR l i))∧(dg 4294967296 (s.1)).length≤1000∧(dg 4294967296 (s.2)).length≤1000) (fun s=>s.2) (eS (l.take i),val (dR l i)) ⟨rfl,hi.2,hr.len (by omega)⟩ (cW h0 [] _ _ (by decide) ⟨rfl,rfl,rfl,rfl,rfl,trivial⟩ rfl) ?_
  rintro⟨u,v⟩ ⟨hg,hu,hv⟩;dsimp only at hg hu hv⊢;refine sq ?_;refine sq ?_;refine rl ?_;(iterate 3 refine o1 ?_);refine nl ?_;refine cU rfl (fun h2=>?_) (fun h2=>?_)
  ·refine sk ?_;refine bl ?_;refine sq ?_;have hv0:v≠0:=Nat.pos_iff_ne_zero.1 (jT (B:=4294967296) (u:=v) (by omega))
   have hmv:=Nat.mod_lt u (Nat.pos_of_ne_zero hv0)
   have hml:(dg 4294967296 (u%v)).length≤1000:=Nat.le_trans (dH (Nat.le_of_lt hmv)) hv
   have hgs:Nat.gcd v (u%v)=Nat.gcd (eS (l.take i)) (val (dR l i)):=by rw[←hg,Nat.gcd_comm v,←Nat.gcd_rec,Nat.gcd_comm]
   refine rl ?_;refine o1 ?_;refine o1 ?_
   refine ca (gP (Nn.of (u:=u) (by omega)) (Nn.of (u:=v) (by omega)) hv0 rfl rfl) pA ⟨a1 rfl,a1 rfl,rfl⟩ (.tup [nF (dg 4294967296 (u/v)),nF (dg 4294967296 (u%v)),.one (tv (.int .i64 0))]) ?_
   (iterate 7 refine o1 ?_);refine nl ?_;refine rl ?_;(iterate 4 refine o1 ?_);refine nl ?_
   exact⟨(v,u%v),by dsimp only;omega,⟨hgs,hv,hml⟩,cW h0 [] _ _ (by decide) ⟨rfl,rfl,rfl,rfl,rfl,trivial⟩ rfl⟩
  refine ex ?_;refine rl ?_;refine o1 ?_;refine WL.cast (t:=29) (u':=.int .i64 ((i+1:Nat):Int)) rfl (bJ (by omega)) ?_
  refine o1 ?_;refine nl ?_;have hv0:v=0:=(bR (B:=4294967296) (by omega)).1 (List.eq_nil_of_length_eq_zero (by omega))
  have hgu:eS (l.take (i+1))=u:=by rw[←Ix (by omega),←hg,hv0,Nat.gcd_zero_right]
  exact⟨i+1,by omega,⟨by omega,by rw[hgu];exact hu⟩,cW h0 [] _ _ (by decide) ⟨rfl,rfl,(congrArg (fun z:Nat=>some (nF (dg 4294967296 z))) hgu),rfl,trivial⟩ rfl⟩
 refine ex ?_;refine sq ?_;refine rl ?_;refine o1 ?_;refine qC 0 (Ez (bQ (by omega) _) (by omega)) Mm ⟨a1 rfl,rfl⟩ ?_
 refine o1 ?_;refine nl ?_;refine rt ?_;have hk9:i=l.length:=by omega
 exact en (.inl rfl) rfl (gZ (.one (.sl (trs:=aN (dg 4294967296 (eS (l.take i)))) rfl rfl (lD _) (dG _)))) (by decide) (fun _=>.inl ⟨rfl,gO _⟩) (by rw[hk9,List.take_of_length_le (Nat.le_refl _)];rfl)
theorem Ky {x:Nat}{n:Int}(hx:x<4294967296):aM true Tryd.prog 48 [] [.one (tv (.int .u32 ((x:Nat):Int))),.one (tv (.int .i64 n))] (bG (.tup [nO (zW x n),.one (tv (.int .i64 (oF n)))])):=by
 refine gL Tryd.func48 rfl Tryd.ntmps48 rfl bF rfl fun N9 w9 c0 h0=>?_
 refine sq ?_;refine rl ?_;refine o1 ?_;refine o1 ?_;refine nl ?_;refine sq ?_;refine bl ?_;refine sq ?_;refine rl ?_;(iterate 3 refine o1 ?_);refine nl ?_
 refine cU rfl (fun h1=>?_) (fun h1=>?_)
 ·refine sq ?_;refine rl ?_;refine o1 ?_;refine o1 ?_;refine nl ?_;refine rt ?_;have he:oF n=2:=by unfold oF;rw[if_pos (by omega)]
  exact en (.inl rfl) rfl (iR (.cons (.one (.nil (t:=64) (z:=1))) (.cons (dU _) .nil))) (by decide) (fun _=>⟨.inl ⟨rfl,trivial⟩,trivial,trivial⟩) (by rw[he,zW,he,if_neg (by decide)];rfl)
 refine sq ?_;refine rl ?_;(iterate 3 refine o1 ?_);refine nl ?_;refine cU rfl (fun h2=>?_) (fun h2=>?_)
 ·refine sq ?_;refine rl ?_;refine o1 ?_;refine o1 ?_;refine nl ?_;refine rt ?_;have he:oF n=3:=by unfold oF;rw[if_neg (by omega),if_pos (by omega)]
  exact en (.inl rfl) rfl (iR (.cons (.one (.nil (t:=64) (z:=1))) (.cons (dU _) .nil))) (by decide) (fun _=>⟨.inl ⟨rfl,trivial⟩,trivial,trivial⟩) (by rw[he,zW,he,if_neg (by decide)];rfl)
 refine sk ?_;refine sq ?_;refine rl ?_;refine bs 0 ?_;refine o1 ?_;refine nl ?_;refine sq ?_;refine sq ?_;refine rl ?_;refine o1 ?_;refine nl ?_;refine bl ?_
 have h1p:dg 4294967296 (x^(n.toNat/2^(13-0)))=[1]:=by rw[show n.toNat/2^(13-0)=0 from Nat.div_eq_of_lt (show n.toNat<8192 by omega),Nat.pow_zero];decide
 refine lp (γ:=Nat) (fun s=>cO [(0,.one (tv (.int .u32 ((x:Nat):Int)))),(1,.one (tv (.int .i64 n))),(6,.one (.sl 0 0 ((dg 4294967296 (x^(n.toNat/2^(13-s)))).length))),(7,.one (tv (.int .i64 ((4096/2^s:Nat):Int))))]) (fun s=>[(⟨64,1,(aN (dg 4294967296 (x^(n.toNat/2^(13-s))))).map .t⟩:Ob)].map some) (fun s=>s≤13) (fun s=>13-s) 0 (by omega) (cW h0 [0] _ _ (by decide) ⟨rfl,rfl,(congrArg (fun l:List Nat=>some (FV.one (.sl 0 0 l.length))) h1p),rfl,trivial⟩ ⟨dT (congrArg (fun l:List Nat=>some (⟨64,1,(aN l).map .t⟩:Ob)) h1p.symm),rfl⟩) ?_
 rintro j hj;refine sq ?_;refine sq ?_;refine rl ?_;refine o1 ?_;refine o1 ?_;refine nl ?_;refine cU rfl (fun h3=>?_) (fun h3=>?_)
 ·refine sk ?_;refine sq ?_;refine bl ?_;refine sq ?_;have hj12:j≤12:=by
   rcases Nat.lt_or_ge 12 j with h9 | h9
   ·have h8:j=13:=by omega
    rw[h8]at h3;exact absurd h3 (by decide)
   exact h9
  have hpl:=vT (m:=n.toNat/2^(13-j)) hx
  have hql:=vT (m:=n.toNat/2^(13-j)+n.toNat/2^(13-j)) hx
  rw[Nat.pow_add]at hql;have hnl:n.toNat/2^(13-j)≤n.toNat:=Nat.div_le_self _ _
  have hbj:4096/2^j≤4096:=Nat.div_le_self _ _
  refine rl ?_;refine o1 ?_;refine o1 ?_
  refine qC 1 (dV (Nn.of (by omega)) (Nn.of (by omega)) rfl) eP ⟨cH rfl (.sl rfl rfl (fN _) (dG _)),cH rfl (.sl rfl rfl (fN _) (dG _)),rfl⟩ ?_
  refine o1 ?_;refine nl ?_;refine sq ?_;refine rl ?_;(iterate 3 refine o1 ?_)
  refine WL.cast (t:=24) (u':=.int .i64 (((n.toNat&&& 4096/2^j):Nat):Int)) rfl (bJ (by rw[show(n:Int)=((n.toNat:Nat):Int) by omega];exact Ff (by omega) (by omega))) ?_
  refine o1 ?_;refine nl ?_;refine cU rfl (fun h4=>?_) (fun h4=>?_)
  ·refine rl ?_;refine o1 ?_;refine o1 ?_;refine qC 2 (xI (Nn.of (by omega)) hx (Kw hj12 (by omega))) sG ⟨cH rfl (.sl rfl rfl (fN _) (dG _)),a1 rfl,rfl⟩ ?_
   refine o1 ?_;refine nl ?_;refine rl ?_;refine o1 ?_;refine o1 ?_;refine WL.cast (t:=18) (u':=.int .i64 (((4096/2^(j+1)):Nat):Int)) rfl (bJ tC) ?_;refine o1 ?_
   refine nl ?_;have hpw:x^(n.toNat/2^(12-j))=x^(n.toNat/2^(12-j)):=rfl
   exact⟨j+1,by omega,by omega,cW h0 [2] _ _ (by decide) ⟨rfl,rfl,(congrArg (fun z:Nat=>some (FV.one (.sl 2 0 (dg 4294967296 z).length))) (show x^(n.toNat/2^(13-(j+1)))=_ from(by rw[show 13-(j+1)=12-j by omega]))),rfl,trivial⟩ ⟨dT (congrArg (fun z:Nat=>some (⟨64,1,(aN (dg 4294967296 z)).map .t⟩:Ob)) (show x^(n.toNat/2^(13-(j+1)))=_ from(by rw[show 13-(j+1)=12-j by omega])).symm),rfl⟩⟩
  refine sk ?_;refine rl ?_;refine o1 ?_;refine o1 ?_;refine WL.cast (t:=18) (u':=.int .i64 (((4096/2^(j+1)):Nat):Int)) rfl (bJ tC) ?_;refine o1 ?_;refine nl ?_
  have hpw:x^(n.toNat/2^(12-j))=x^(n.toNat/2^(13-j))*x^(n.toNat/2^(13-j)):=(Kv hj12 (by omega)).symm
  exact⟨j+1,by omega,by omega,cW h0 [1] _ _ (by decide) ⟨rfl,rfl,(congrArg (fun z:Nat=>some (FV.one (.sl 1 0 (dg 4294967296 z).length))) (show x^(n.toNat/2^(13-(j+1)))=_ from(by rw[show 13-(j+1)=12-j by omega];exact hpw))),rfl,trivial⟩ ⟨dT (congrArg (fun z:Nat=>some (⟨64,1,(aN (dg 4294967296 z)).map .t⟩:Ob)) (show x^(n.toNat/2^(13-(j+1)))=_ from(by rw[show 13-(j+1)=12-j by omega];exact hpw)).symm),rfl⟩⟩
 refine ex ?_;refine sq ?_;refine rl ?_;(iterate 3 refine o1 ?_);refine nl ?_;refine rt ?_;have he:oF n=0:=by unfold oF;rw[if_neg (by omega),if_neg (by omega)]
 have hj13:j=13:=by
  rcases Nat.lt_or_ge 12 j with h9 | h9
  ·omega
  have h8:=zX h9
  have h7:=Nat.pow_pos (n:=12-j) (show 0<2 by omega)
  omega
 subst hj13
 exact en (.inl rfl) rfl (iR (.cons (.one (.sl (trs:=aN (dg 4294967296 (x^(n.toNat/2^(13-13))))) rfl rfl (lD _) (dG _))) (.cons (dU _) .nil))) (by decide) (fun _=>⟨.inl ⟨rfl,gO _⟩,trivial,trivial⟩) (by rw[he,zW,he,if_pos rfl,show n.toNat/2^(13-13)=n.toNat by simp];rfl)
theorem Iy {xs ys:List Nat}(hx:xs.length≤1000000) (hy:ys.length≤1000000):aM true Tryd.prog 43 [] [nF xs,nF ys] (bG (.one (tv (.bool (decide (xs=ys)))))):=by
 refine gL Tryd.func43 rfl Tryd.ntmps43 rfl bF rfl fun N9 w9 c0 h0=>?_
 refine sq ?_;refine rl ?_;refine o1 ?_;refine nl ?_;refine sq ?_;refine sq ?_;refine rl ?_;(iterate 5 refine o1 ?_);refine nl ?_;refine cU rfl (fun h1=>?_) (fun h1=>?_)
 ·refine sq ?_;refine rl ?_;refine o1 ?_;refine nl ?_;refine rt ?_;exact nP (.inl rfl) rfl (Fi (by omega))
 refine sk ?_;refine sq ?_;refine sq ?_;refine rl ?_;refine o1 ?_;refine nl ?_;refine bl ?_
 refine lp (γ:=Nat) (fun k=>cO [(0,.one (.t (sU false xs))),(1,.one (.t (sU false ys))),(5,.one (tv (.int .i64 ((k:Nat):Int))))]) (fun k=>([]:List Ob).map some) (fun k=>k≤xs.length∧xs.take k=ys.take k) (fun k=>xs.length-k) 0 ⟨Nat.zero_le _,rfl⟩ (cW h0 [] _ _ (by decide) ⟨rfl,rfl,rfl,trivial⟩ rfl) fun k hk=>?_
 refine sq ?_;refine sq ?_;refine rl ?_;(iterate 4 refine o1 ?_);refine nl ?_;refine cU rfl (fun h2=>?_) (fun h2=>?_)
 ·refine sk ?_;refine sq ?_;refine bl ?_;refine sq ?_;refine rd [] (fun i=>[].contains i) mixed ?_
  refine dv 0 ?_;refine dv 1 ?_;refine dv 2 ?_;refine Hi 3 ([.v (.int .u32 ((nth xs (k):Nat):Int))]) (nY xs (k:=k) (by omega)) ?_
  refine dv 4 ?_;refine dv 5 ?_;refine dv 6 ?_;refine Hi 7 ([.v (.int .u32 ((nth ys (k):Nat):Int))]) (nY ys (k:=k) (by omega)) ?_
  refine dv 8 ?_;refine Cr ?_;refine cU rfl (fun h3=>?_) (fun h3=>?_)
  ·refine sq ?_;refine rl ?_;refine o1 ?_;refine nl ?_;refine rt ?_;exact nP (.inl rfl) rfl (Fj (k:=k) (by omega))
  refine sk ?_;refine rl ?_;refine o1 ?_;refine o1 ?_;refine WL.cast (t:=16) (u':=.int .i64 ((k+1:Nat):Int)) rfl (bJ (by omega)) ?_
  refine o1 ?_;refine nl ?_;exact⟨k+1,by omega,⟨by omega,Bp hk.2 (by omega) (by omega) (by omega)⟩,cW h0 [] _ _ (by decide) ⟨rfl,rfl,rfl,trivial⟩ rfl⟩
 refine ex ?_;refine sq ?_;refine rl ?_;refine o1 ?_;refine nl ?_;refine rt ?_;exact nP (.inl rfl) rfl (Fk (by omega) hk.2 (by omega))
theorem bV {xs ys:List Nat}(hx:xs.length≤1000000) (h:xs=ys):aM true Tryd.prog 43 [] [nF xs,nF ys] (bG (.one (tv (.bool true)))):=by
 subst h
 have h:=Iy hx hx
 rw[decide_eq_true rfl]at h
 exact h
theorem vW:mR Tryd.prog 116 16:=⟨3,by kernel_rfl,.mk (by kernel_rfl) (by kernel_rfl)⟩
theorem Fl:∀{t:Nat},t<16→((fT.map fun(n:Nat)=>Tr.v (.int .i64 (n:Int))).map AV.t)[t]? =some (tv (.int .i64 ((nth fT t:Nat):Int)))
 | 0,_=>rfl | 1,_=>rfl | 2,_=>rfl | 3,_=>rfl | 4,_=>rfl | 5,_=>rfl | 6,_=>rfl | 7,_=>rfl | 8,_=>rfl | 9,_=>rfl | 10,_=>rfl | 11,_=>rfl | 12,_=>rfl | 13,_=>rfl | 14,_=>rfl | 15,_=>rfl
 | n+16,h=>by omega
theorem Fm {t:Nat}(h:t≤15):nth fT t≤4:=by
 have:∀t≤15,nth fT t≤4:=by decide
 exact this t h
theorem Kz {l:List Nat}{V:Nat}(h1:Lim 4294967296 l) (h2:trim l=l) (h3:vl 4294967296 l=V):dg 4294967296 V=l:=by rw[←Ca (by omega) h1 h3,h2]
theorem Aa {xs:List Nat}(hx:xs.length≤1000000):aM false Tryd.prog 90 [] [nF xs] (bG (nF (trim xs))):=by
 refine gL Tryd.func90 rfl Tryd.ntmps90 rfl bF rfl fun N9 w9 c0 h0=>?_
 refine sq ?_;refine rl ?_;refine o1 ?_;refine nl ?_;refine sq ?_;refine bl ?_
 refine lp (γ:=List Nat) (fun s=>cO [(0,.one (.t (sU false s)))]) (fun s=>([]:List Ob).map some) (fun s=>(trim s=trim xs∧s.length≤xs.length)) (fun s=>s.length) xs (⟨rfl,Nat.le_refl _⟩) (cW h0 [] _ _ (by decide) ⟨rfl,trivial⟩ rfl) ?_
 rintro zs hz;refine sq ?_;refine sq ?_;refine rl ?_;(iterate 4 refine o1 ?_);refine WL.split (t:=6) rfl (fun h1=>?_) (fun h1=>?_)
 ·(iterate 4 refine o1 ?_);refine WL.cast (t:=10) (u':=.int .i64 ((zs.length-1:Nat):Int)) rfl (bJ (by omega)) ?_
  refine o1 ?_;refine Cq ([.v (.int .u32 ((nth zs (zs.length-1):Nat):Int))]) (nY zs (k:=zs.length-1) (by omega)) ?_
  refine o1 ?_;refine o1 ?_;refine nl ?_;refine cU rfl (fun h2=>?_) (fun h2=>?_)
  ·refine sk ?_;refine bl ?_;refine rl ?_;(iterate 4 refine o1 ?_);refine WL.cast (t:=18) (u':=.int .i64 ((zs.length-1:Nat):Int)) rfl (bJ (by omega)) ?_
   refine o1 ?_;refine o1 ?_;refine nl ?_
   exact⟨zs.take (zs.length-1),by rw[List.length_take];omega,⟨(by rw[kE (xs:=zs) (k:=zs.length) (by omega) (Nat.le_refl _) (by omega),List.take_length];exact hz.1),by rw[List.length_take];omega⟩,cW h0 [] _ _ (by decide) ⟨(congrArg some (Iw (by omega)).symm),trivial⟩ rfl⟩
  refine ex ?_;refine sq ?_;refine rl ?_;refine o1 ?_;refine o1 ?_;refine nl ?_;refine rt ?_;refine en (.inl rfl) rfl (gZ (.one (.id rfl))) (by decide) (fun h=>by cases h) ?_
  have hx9:trim xs=zs:=by
   rw[←hz.1];have h9:=kF (xs:=zs) (k:=zs.length) (by omega) (Nat.le_refl _) (by omega)
   rwa[List.take_length]at h9
  rw[hx9];rfl
 (iterate 7 refine nK ?_);refine o1 ?_;refine nl ?_;refine lZ rfl ?_;refine ex ?_;refine sq ?_;refine rl ?_;refine o1 ?_;refine o1 ?_;refine nl ?_;refine rt ?_
 refine en (.inl rfl) rfl (gZ (.one (.id rfl))) (by decide) (fun h=>by cases h) ?_
 have hx9:trim xs=zs:=by
  have h9:zs=[]:=List.eq_nil_of_length_eq_zero (by omega)
  rw[←hz.1,h9];rfl
 rw[hx9];rfl
theorem Ab:aM false Tryd.prog 93 [] [] (bG (.agg ((fT.map fun(n:Nat)=>Tr.v (.int .i64 (n:Int))).map .t))):=by
 refine gL Tryd.func93 rfl Tryd.ntmps93 rfl bF rfl fun N9 w9 c0 h0=>?_
 refine sq ?_;refine rl ?_;refine al 0 ?_;refine nl ?_;refine sq ?_;refine rl ?_;refine bA vW ?_;refine st ?_;refine nl ?_;refine rt ?_
 exact en (.inl rfl) rfl (gZ (.agg (.read _ (l:=fT.map fun(n:Nat)=>Tr.v (.int .i64 (n:Int))) rfl))) (by decide) (fun h=>by cases h) rfl
theorem Ac {xs:List Nat}{u:Nat}(hx:Nn xs u):aM true Tryd.prog 54 [] [nF xs] (bG (.one (tv (.int .i64 ((lX u:Nat):Int))))):=by
 refine gL Tryd.func54 rfl Tryd.ntmps54 rfl bF rfl fun N9 w9 c0 h0=>?_
 have hT:=hx.eqT
 have hXl:=Nn.len hx (Nat.le_refl _)
 have hx1:=hx.2.1
 refine sq ?_;refine rl ?_;refine o1 ?_;refine nl ?_;refine sq ?_;refine rl ?_;refine o1 ?_;refine ca (Aa hx.2.1) Mq ⟨a1 rfl,rfl⟩ (nF (trim xs)) ?_;refine o1 ?_;refine nl ?_
 refine sq ?_;refine sq ?_;rw[←hT];refine rl ?_;(iterate 3 refine o1 ?_);refine nl ?_;refine cU rfl (fun h1=>?_) (fun h1=>?_)
 ·refine sq ?_;refine rl ?_;refine o1 ?_;refine nl ?_;refine rt ?_;have hu0:u=0:=(bR (B:=4294967296) (by omega)).1 (List.eq_nil_of_length_eq_zero (by omega))
  exact en (.inl rfl) rfl (gZ (dU _)) (by decide) (fun _=>trivial) (congrArg (fun z=>FV.one (tv (.int .i64 z))) (by rw[hu0];rfl))
 refine sk ?_;refine sq ?_;refine rd [] (fun i=>[11].contains i) mixed ?_
 refine dv 0 ?_;refine dv 1 ?_;refine dv 2 ?_;refine WD.cast (t:=12) (u':=.int .i64 (((dg 4294967296 (u)).length-1:Nat):Int)) rfl (bJ (by omega)) ?_
 refine dv 3 ?_;refine WD.cast (t:=13) (u':=.int .i64 ((32*((dg 4294967296 (u)).length-1):Nat):Int)) rfl (bJ (by omega)) ?_
 refine dv 4 ?_;refine dv 5 ?_;refine dv 6 ?_;refine dv 7 ?_;refine WD.cast (t:=17) (u':=.int .i64 (((dg 4294967296 (u)).length-1:Nat):Int)) rfl (bJ (by omega)) ?_
 refine dv 8 ?_
 refine Hi 9 ([.v (.int .u32 ((nth (dg 4294967296 (u)) ((dg 4294967296 (u)).length-1):Nat):Int))]) (nY (dg 4294967296 (u)) (k:=(dg 4294967296 (u)).length-1) (by omega)) ?_
 refine Le 10 (by kernel_rfl) rfl rfl bF rfl (by trivial) ?_ (fun h=>by first | rfl | cases h)
 refine Le 11 (by kernel_rfl) rfl rfl bF rfl (by trivial) ?_ (fun h=>by first | rfl | cases h)
 refine Cr ?_;refine sq ?_;refine bl ?_
 refine lp (γ:=Nat×Nat) (fun s=>cO [(3,.one (tv (.int .i64 ((s.1:Nat):Int)))),(4,.one (tv (.int .u32 ((s.2:Nat):Int))))]) (fun s=>([]:List Ob).map some) (fun s=>s.1+gQ s.2=32*((dg 4294967296 (u)).length-1)+gQ (nth (dg 4294967296 (u)) ((dg 4294967296 (u)).length-1))∧s.2≤(nth (dg 4294967296 (u)) ((dg 4294967296 (u)).length-1))) (fun s=>s.2) (32*((dg 4294967296 (u)).length-1),(nth (dg 4294967296 (u)) ((dg 4294967296 (u)).length-1))) ⟨rfl,Nat.le_refl _⟩ (cW h0 [] _ _ (by decide) ⟨rfl,rfl,trivial⟩ rfl) ?_
 rintro⟨m,t⟩ ⟨hm,ht⟩;dsimp only at hm ht⊢;have hb9:=Fg (n:=8) (t:=(nth (dg 4294967296 (u)) ((dg 4294967296 (u)).length-1))) (Lim.nth (bQ (by omega) u) (by omega) _)
 have htl:=Lim.nth (bQ (B:=4294967296) (by omega) u) (by omega) ((dg 4294967296 (u)).length-1)
 refine sq ?_;refine sq ?_;refine rl ?_;refine o1 ?_;refine o1 ?_;refine nl ?_;refine cU rfl (fun h2=>?_) (fun h2=>?_)
 ·refine sk ?_;refine bl ?_;refine sq ?_;refine rl ?_;refine o1 ?_;refine o1 ?_;refine WL.cast (t:=23) (u':=.int .u32 (((t/16):Nat):Int)) rfl (bJ Ms) ?_;refine o1 ?_
  refine nl ?_;refine rl ?_;refine o1 ?_;refine o1 ?_;refine WL.cast (t:=25) (u':=.int .i64 ((m+4:Nat):Int)) rfl (bJ (by omega)) ?_
  refine o1 ?_;refine nl ?_;have hbs:=tD (t:=t) (by omega)
  exact⟨(m+4,t/16),by dsimp only;omega,⟨(by dsimp only;omega),(by dsimp only;omega)⟩,cW h0 [] _ _ (by decide) ⟨rfl,rfl,trivial⟩ rfl⟩
 refine ex ?_;refine sq ?_;refine rl ?_;refine o1 ?_;refine ca (Ab) Mr rfl ((.agg ((fT.map fun(n:Nat)=>Tr.v (.int .i64 (n:Int))).map .t))) ?_
 refine o1 ?_;have ht16:t<16:=by omega
 have hbt:=Fm (t:=t) (by omega)
 refine Nj vW ht16 (Fl ht16) ?_;refine o1 ?_;refine WL.cast (t:=30) (u':=.int .i64 ((m+(nth fT t):Nat):Int)) rfl (bJ (by omega)) ?_
 refine o1 ?_;refine nl ?_;refine rt ?_;have hu0:u≠0:=Nat.pos_iff_ne_zero.1 (jT (B:=4294967296) (u:=u) (by omega))
 rw[oG (by omega)]at hm
 exact en (.inl rfl) rfl (gZ (dU _)) (by decide) (fun _=>trivial) (congrArg (fun z=>FV.one (tv (.int .i64 z))) (by unfold lX;rw[if_neg hu0,←hm]))
theorem Iz {l:List Nat}(h:eR l=false):tx (aR l)=l:=by
 by_cases h48:l=[48]
 ·subst h48;rfl
 have hd:=sZ h
 have h0:nth l 0≠48:=fun e=>by rw[Dd (decide_eq_false h48) e]at h;cases h
 have hne:l≠[]:=fun e=>by rw[Dc (decide_eq_true e)]at h;cases h
 have e1:l=(bL (l.map (· -48)).reverse).reverse:=by
  unfold bL
  rw[←List.map_reverse,List.reverse_reverse,List.map_map]
  refine(List.ext_getElem (by simp) fun i h1 h2=>?_)
  have:=hd l[i] (List.getElem_mem h1)
  simp
  omega
 have hl:Lim 10 (l.map (· -48)).reverse:=fun x hx=>by
  obtain⟨c,hc,rfl⟩:=List.mem_map.1 (List.mem_reverse.1 hx)
  have:=hd c hc
  omega
 have e2:=wW (v:=aR l) hl (by rw[←Fc,←e1])
 rw[←e1]at e2
 have e3:l.dropWhile (· ==48)=l:=by
  cases l with
  | nil=>rfl
  | cons c m=>
   have:c≠48:=h0
   rw[List.dropWhile_cons,if_neg (by simpa using this)]
 rw[e3]at e2
 by_cases hv:aR l=0
 ·rw[if_pos hv]at e2
  exact absurd e2 hne
 rw[if_neg hv]at e2
 exact e2.symm
def Lh (l:List Nat) (V:Nat):Bool:=l.all (fun x=>decide (x<4294967296))&&decide (l.length≤1000000)&&decide (vl 4294967296 l=V)
theorem Ad {l:List Nat}{V:Nat}(h:Lh l V=true):Nn l V:=by
 simp only[Lh,Bool.and_eq_true,decide_eq_true_eq,List.all_eq_true]at h
 exact⟨h.1.1,h.1.2,h.2⟩
def Li (l:List (List Nat)):Bool:=l.all fun xs=>xs.all (fun x=>decide (x<4294967296))&&decide (xs.length≤1000)
theorem Nq {l:List (List Nat)}(h:Li l=true):RL 1000 l:=by
 intro xs hx
 simp only[Li,List.all_eq_true,Bool.and_eq_true,decide_eq_true_eq]at h
 exact h xs hx
theorem vX {l:List Nat}{V:Nat}(h:(l.all (fun x=>decide (x<4294967296))&&decide (trim l=l)&&decide (vl 4294967296 l=V))=true):dg 4294967296 V=l:=by
 simp only[Bool.and_eq_true,decide_eq_true_eq,List.all_eq_true]at h
 exact Kz h.1.1 h.1.2 h.2
theorem mV {l:List Nat}{V:Nat}{e:Int}(hl:Lim 256 l) (hn:l.length≤1000000) (hv:Db l=V) (he:lF l=e):aM true Tryd.prog 45 [] [.one (tv (.string (aO l)))] (bG (.tup [nO V,.one (tv (.int .i64 e))])):=hv▸he▸Fe hl hn
theorem Ja {x:Nat}{n:Int}{V:Nat}{e:Int}(hx:x<4294967296) (hv:zW x n=V) (he:oF n=e):aM true Tryd.prog 48 [] [.one (tv (.int .u32 ((x:Nat):Int))),.one (tv (.int .i64 n))] (bG (.tup [nO V,.one (tv (.int .i64 e))])):=hv▸he▸Ky hx
theorem lG {l:List (List Nat)}{w:Nat}(hr:RL 1000 l) (hl:l.length≤100) (e:eS l=w):aM true Tryd.prog 42 [] [.one (.t (.s false 22 1 l.length (rT l)))] (bG (nO w)):=e▸Kx hr hl
theorem fW {l:List (List Nat)}{w:Nat}(hr:RL 1000 l) (hl:l.length≤100) (e:dW l=w):aM true Tryd.prog 51 [] [.one (.t (.s false 22 1 l.length (rT l)))] (bG (nO w)):=e▸zZ hr hl
theorem La:((aO (tx 4294967296)).toList==(⟨#[52,50,57,52,57,54,55,50,57,54]⟩:ByteArray).toList)=true:=by
 have h:=Iz (l:=[52,50,57,52,57,54,55,50,57,54]) (by decide)
 rw[show aR [52,50,57,52,57,54,55,50,57,54]=4294967296 by decide]at h
 rw[h]
 exact(wR (l:=[52,50,57,52,57,54,55,50,57,54]) (l':=[52,50,57,52,57,54,55,50,57,54]) (fun d hd=>by revert d;decide) (fun d hd=>by revert d;decide)).trans (decide_eq_true rfl)
theorem iY:aM true Tryd.prog 36 [] [] (bG (.one (tv (.bool true)))):=by
 refine gL Tryd.func36 rfl Tryd.ntmps36 rfl bF rfl fun N9 w9 c0 h0=>?_
 refine sq ?_;refine rl ?_;refine o1 ?_;refine nl ?_;refine sq ?_;refine rl ?_;refine bs 0 ?_;refine bs 1 ?_
 refine ca (dV (w:=18446744065119617025) (Ad (l:=[4294967295]) (V:=4294967295) (by decide)) (Ad (l:=[4294967295]) (V:=4294967295) (by decide)) (by decide)) eP ⟨cH rfl (.sl (trs:=aN [4294967295]) rfl rfl rfl rfl),cH rfl (.sl (trs:=aN [4294967295]) rfl rfl rfl rfl),rfl⟩ (nF (dg 4294967296 (18446744065119617025))) ?_
 refine o1 ?_;refine nl ?_;refine sq ?_;refine rl ?_;refine bs 2 ?_;refine bs 3 ?_
 refine ca (gP (q:=6148914691236517205) (r:=1) (Ad (l:=[0,0,1]) (V:=18446744073709551616) (by decide)) (Ad (l:=[3]) (V:=3) (by decide)) (by decide) (by decide) (by decide)) pA ⟨cH rfl (.sl (trs:=aN [0,0,1]) rfl rfl rfl rfl),cH rfl (.sl (trs:=aN [3]) rfl rfl rfl rfl),rfl⟩ (.tup [nF (dg 4294967296 (6148914691236517205)),nF (dg 4294967296 (1)),.one (tv (.int .i64 0))]) ?_
 (iterate 7 refine o1 ?_);refine nl ?_;refine sq ?_;refine rl ?_;refine bs 4 ?_;refine bs 5 ?_;refine bs 6 ?_;refine WL.sub (Cz (i:=24) (zs:=[12]) (zs':=[12]) rfl rfl rfl rfl rfl) ?_
 refine WL.sub (Cz (i:=25) (zs:=[18]) (zs':=[18]) rfl rfl rfl rfl rfl) ?_;refine WL.sub (Cz (i:=26) (zs:=[30]) (zs':=[30]) rfl rfl rfl rfl rfl) ?_;refine bs 7 ?_
 refine ca (lG (l:=[[12],[18],[30]]) (w:=6) (Nq (by decide)) (by decide) (by decide)) sF ⟨cH rfl (.sl (trs:=rT [[12],[18],[30]]) rfl rfl rfl rfl),rfl⟩ (nF (dg 4294967296 (6))) ?_
 refine o1 ?_;refine nl ?_;refine sq ?_;refine rl ?_
 refine ca (Ja (x:=10) (n:=10) (V:=10000000000) (e:=0) (by decide) (by decide) (by decide)) Mk ⟨a1 rfl,a1 rfl,rfl⟩ (.tup [nF (dg 4294967296 (10000000000)),.one (tv (.int .i64 0))]) ?_
 (iterate 5 refine o1 ?_);refine nl ?_;refine sq ?_;refine rl ?_
 refine ca (mV (l:=[49,48,48,48,48,48,48,48,48,48,48]) (V:=10000000000) (e:=0) (fun x hx=>by revert x;decide) (by decide) (by decide) (by decide)) Bg ⟨a1 rfl,rfl⟩ (.tup [nF (dg 4294967296 (10000000000)),.one (tv (.int .i64 0))]) ?_
 (iterate 5 refine o1 ?_);refine nl ?_;refine sq ?_;refine rl ?_
 refine ca (mV (l:=[48,49]) (V:=0) (e:=60) (fun x hx=>by revert x;decide) (by decide) (by decide) (by decide)) Bg ⟨a1 rfl,rfl⟩ (.tup [nF (dg 4294967296 (0)),.one (tv (.int .i64 60))]) ?_
 (iterate 5 refine o1 ?_);refine nl ?_;refine sq ?_;refine rl ?_
 refine ca (mV (l:=[]) (V:=0) (e:=60) (fun x hx=>by revert x;decide) (by decide) (by decide) (by decide)) Bg ⟨a1 rfl,rfl⟩ (.tup [nF (dg 4294967296 (0)),.one (tv (.int .i64 60))]) ?_
 (iterate 5 refine o1 ?_);refine nl ?_;refine sq ?_;refine rl ?_;refine o1 ?_;refine bs 8 ?_
 refine ca (bV (xs:=(dg 4294967296 (18446744065119617025))) (ys:=[1,4294967294]) (Nat.le_trans (aL (k:=100) (by omega) (by decide)) (by omega)) (vX (l:=[1,4294967294]) (V:=18446744065119617025) (by decide))) eG ⟨a1 rfl,cH rfl (.sl (trs:=aN [1,4294967294]) rfl rfl rfl rfl),rfl⟩ (.one (tv (.bool true))) ?_
 (iterate 3 refine o1 ?_);refine WL.cast (t:=50) (u':=.bool true) rfl (congrArg Value.bool (decide_eq_true rfl)) ?_;(iterate 3 refine o1 ?_);refine bs 9 ?_
 refine ca (bV (xs:=(dg 4294967296 (6148914691236517205))) (ys:=[1431655765,1431655765]) (Nat.le_trans (aL (k:=100) (by omega) (by decide)) (by omega)) (vX (l:=[1431655765,1431655765]) (V:=6148914691236517205) (by decide))) eG ⟨a1 rfl,cH rfl (.sl (trs:=aN [1431655765,1431655765]) rfl rfl rfl rfl),rfl⟩ (.one (tv (.bool true))) ?_
 (iterate 3 refine o1 ?_);refine bs 10 ?_
 refine ca (bV (xs:=(dg 4294967296 (1))) (ys:=[1]) (Nat.le_trans (aL (k:=100) (by omega) (by decide)) (by omega)) (vX (l:=[1]) (V:=1) (by decide))) eG ⟨a1 rfl,cH rfl (.sl (trs:=aN [1]) rfl rfl rfl rfl),rfl⟩ (.one (tv (.bool true))) ?_
 (iterate 3 refine o1 ?_);refine bs 11 ?_
 refine ca (bV (xs:=(dg 4294967296 (6))) (ys:=[6]) (Nat.le_trans (aL (k:=100) (by omega) (by decide)) (by omega)) (vX (l:=[6]) (V:=6) (by decide))) eG ⟨a1 rfl,cH rfl (.sl (trs:=aN [6]) rfl rfl rfl rfl),rfl⟩ (.one (tv (.bool true))) ?_
 (iterate 4 refine o1 ?_);refine WL.cast (t:=69) (u':=.bool true) rfl (congrArg Value.bool (decide_eq_true rfl)) ?_;(iterate 3 refine o1 ?_);refine bs 12 ?_
 refine ca (bV (xs:=(dg 4294967296 (10000000000))) (ys:=[1410065408,2]) (Nat.le_trans (aL (k:=100) (by omega) (by decide)) (by omega)) (vX (l:=[1410065408,2]) (V:=10000000000) (by decide))) eG ⟨a1 rfl,cH rfl (.sl (trs:=aN [1410065408,2]) rfl rfl rfl rfl),rfl⟩ (.one (tv (.bool true))) ?_
 (iterate 4 refine o1 ?_);refine WL.cast (t:=78) (u':=.bool true) rfl (congrArg Value.bool (decide_eq_true rfl)) ?_;(iterate 4 refine o1 ?_)
 refine ca (bV (xs:=(dg 4294967296 (10000000000))) (ys:=(dg 4294967296 (10000000000))) (Nat.le_trans (aL (k:=100) (by omega) (by decide)) (by omega)) rfl) eG ⟨a1 rfl,a1 rfl,rfl⟩ (.one (tv (.bool true))) ?_
 (iterate 4 refine o1 ?_);refine WL.cast (t:=87) (u':=.bool true) rfl (congrArg Value.bool (decide_eq_true rfl)) ?_;(iterate 4 refine o1 ?_)
 refine WL.cast (t:=91) (u':=.bool true) rfl (congrArg Value.bool (decide_eq_true rfl)) ?_;refine o1 ?_;refine o1 ?_;refine bs 13 ?_
 refine ca (Ku (Ad (l:=[0,1]) (V:=4294967296) (by decide))) Mj ⟨cH rfl (.sl (trs:=aN [0,1]) rfl rfl rfl rfl),rfl⟩ (.one (tv (.string (aO (tx 4294967296))))) ?_
 refine o1 ?_;refine WL.cast (t:=96) (u':=.bool true) rfl (congrArg Value.bool La) ?_;refine o1 ?_;refine o1 ?_;refine nl ?_;refine rt ?_;exact nP (.inl rfl) rfl (rfl)
theorem xJ {a b:List Nat}{u v:Nat}(ha:vl 4294967296 a=u) (hb:vl 4294967296 b=v):eS [a,b]=Nat.gcd u v:=by
 subst ha hb
 simp[eS,val]
theorem xK {a b c:List Nat}{u v w:Nat}(ha:vl 4294967296 a=u) (hb:vl 4294967296 b=v) (hc:vl 4294967296 c=w):dW [a,b,c]=u*v*w:=by
 subst ha hb hc
 simp[dW,val]
theorem Ae {a b c:List Nat}{u v w:Nat}(ha:vl 4294967296 a=u) (hb:vl 4294967296 b=v) (hc:vl 4294967296 c=w):dW [c,a,b]=u*v*w:=by
 rw[xK hc ha hb,Nat.mul_assoc,Nat.mul_comm]
theorem xL {a b:List Nat}{u v:Nat}(ha:Nn a u) (hb:Nn b v) (la:a.length≤1000) (lb:b.length≤1000):RL 1000 [a,b]:=by
 intro x hx
 simp only[List.mem_cons,List.not_mem_nil,or_false]at hx
 rcases hx with rfl | rfl
 ·exact⟨ha.1,la⟩
 exact⟨hb.1,lb⟩
theorem xM {a b c:List Nat}{u v w:Nat}(ha:Nn a u) (hb:Nn b v) (hc:Nn c w) (la:a.length≤1000) (lb:b.length≤1000) (lc:c.length≤1000):RL 1000 [a,b,c]:=by
 intro x hx
 simp only[List.mem_cons,List.not_mem_nil,or_false]at hx
 rcases hx with rfl | rfl | rfl
 ·exact⟨ha.1,la⟩
 ·exact⟨hb.1,lb⟩
 exact⟨hc.1,lc⟩
theorem Fn {a b:Nat}(h:a<b):¬0≤eH a b:=by
 unfold eH fC
 rw[if_pos (by omega)]
 omega
theorem Fo {u v:Nat}(h:v≠0):Nat.gcd (u/Nat.gcd u v) (v/Nat.gcd u v)=1:=Nat.gcd_div_gcd_div_gcd_of_pos_right (Nat.pos_of_ne_zero h)
set_option maxHeartbeats 4000000 in
theorem xN {xs ys zs:List Nat}(hxs:Lim 4294967296 xs) (hys:Lim 4294967296 ys) (hzs:Lim 4294967296 zs):aM true Tryd.prog 8 [] [nF xs,nF ys,nF zs] (bG (.one (tv (.bool true)))):=by
 refine gL Tryd.func8 rfl Tryd.ntmps8 rfl bF rfl fun N9 w9 c0 h0=>?_
 refine sq ?_;refine rl ?_;refine o1 ?_;refine nl ?_;refine sq ?_;refine sq ?_;refine rl ?_;(iterate 4 refine o1 ?_);refine WL.split (t:=21) rfl (fun h1=>?_) (fun h1=>?_)
 ·(iterate 3 refine nK ?_);refine o1 ?_;refine o1 ?_;(iterate 3 refine nK ?_);refine o1 ?_;refine nl ?_;refine uG rfl ?_;refine sq ?_;refine rl ?_
  refine ca (iY) sE rfl (.one (tv (.bool true))) ?_;refine o1 ?_;refine nl ?_;refine rt ?_;exact nP (.inl rfl) rfl (rfl)
 (iterate 5 refine o1 ?_);refine WL.split (t:=26) rfl (fun h2=>?_) (fun h2=>?_)
 ·(iterate 3 refine nK ?_);refine o1 ?_;refine nl ?_;refine uG rfl ?_;refine sq ?_;refine rl ?_;refine ca (iY) sE rfl (.one (tv (.bool true))) ?_;refine o1 ?_;refine nl ?_
  refine rt ?_;exact nP (.inl rfl) rfl (rfl)
 (iterate 4 refine o1 ?_);refine nl ?_;refine cU rfl (fun h3=>?_) (fun h3=>?_)
 ·refine sq ?_;refine rl ?_;refine ca (iY) sE rfl (.one (tv (.bool true))) ?_;refine o1 ?_;refine nl ?_;refine rt ?_;exact nP (.inl rfl) rfl (rfl)
 refine sk ?_;refine sq ?_;refine rl ?_;obtain⟨u,hux⟩:∃u,vl 4294967296 xs=u:=⟨_,rfl⟩
 have hNx:Nn xs u:=⟨hxs,by omega,hux⟩
 have hlu:(dg 4294967296 u).length≤40:=Nn.len hNx (by omega)
 obtain⟨v,huy⟩:∃u,vl 4294967296 ys=u:=⟨_,rfl⟩
 have hNy:Nn ys v:=⟨hys,by omega,huy⟩
 have hlv:(dg 4294967296 v).length≤40:=Nn.len hNy (by omega)
 obtain⟨w,huz⟩:∃u,vl 4294967296 zs=u:=⟨_,rfl⟩
 have hNz:Nn zs w:=⟨hzs,by omega,huz⟩
 have hlw:(dg 4294967296 w).length≤40:=Nn.len hNz (by omega)
 have hvw:(dg 4294967296 ((v)+(w))).length≤41:=aL (by omega) (by have h1:=jA (B:=4294967296) (n:=v) (by omega);have h2:=jA (B:=4294967296) (n:=w) (by omega);have h3:=Nat.pow_le_pow_right (n:=4294967296) (by omega) hlv;have h4:=Nat.pow_le_pow_right (n:=4294967296) (by omega) hlw;have h5:(4294967296:Nat)^41=4294967296^40*4294967296:=Nat.pow_succ ..;omega)
 have hm1:=cJ u v
 have hm2:=cJ u w
 have hm3:=cJ u ((v)+(w))
 have hm4:=cJ (u*v) w
 rcases Classical.em (v=0)with rfl | hv0
 ·(iterate 3 refine o1 ?_);refine ca (oE (w:=(0)+(w)) hNy hNz rfl) jQ ⟨a1 rfl,a1 rfl,rfl⟩ (nF (dg 4294967296 ((0)+(w)))) ?_
  refine ca (dV (w:=(u)*((0)+(w))) hNx (Nn.of (u:=(0)+(w)) (by omega)) rfl) eP ⟨a1 rfl,a1 rfl,rfl⟩ (nF (dg 4294967296 ((u)*((0)+(w))))) ?_
  refine o1 ?_;refine nl ?_;refine sq ?_;refine sq ?_;refine rl ?_;(iterate 3 refine o1 ?_)
  refine ca (dV (w:=(u)*(0)) hNx hNy rfl) eP ⟨a1 rfl,a1 rfl,rfl⟩ (nF (dg 4294967296 ((u)*(0)))) ?_;refine o1 ?_;refine o1 ?_
  refine ca (dV (w:=(u)*(w)) hNx hNz rfl) eP ⟨a1 rfl,a1 rfl,rfl⟩ (nF (dg 4294967296 ((u)*(w)))) ?_
  refine ca (oE (w:=(u)*((0)+(w))) (Nn.of (u:=(u)*(0)) (by omega)) (Nn.of (u:=(u)*(w)) (by omega)) (Nat.mul_add _ _ _).symm) jQ ⟨a1 rfl,a1 rfl,rfl⟩ (nF (dg 4294967296 ((u)*((0)+(w))))) ?_
  refine ca (bV (xs:=(dg 4294967296 ((u)*((0)+(w))))) (ys:=(dg 4294967296 ((u)*((0)+(w))))) (by omega) rfl) eG ⟨a1 rfl,a1 rfl,rfl⟩ (.one (tv (.bool true))) ?_
  (iterate 4 refine o1 ?_);refine ca (dV (w:=(u)*(0)) hNx hNy rfl) eP ⟨a1 rfl,a1 rfl,rfl⟩ (nF (dg 4294967296 ((u)*(0)))) ?_;refine o1 ?_;refine o1 ?_
  refine ca (dV (w:=(u)*(0)) hNy hNx (Nat.mul_comm _ _)) eP ⟨a1 rfl,a1 rfl,rfl⟩ (nF (dg 4294967296 ((u)*(0)))) ?_
  refine ca (bV (xs:=(dg 4294967296 ((u)*(0)))) (ys:=(dg 4294967296 ((u)*(0)))) (by omega) rfl) eG ⟨a1 rfl,a1 rfl,rfl⟩ (.one (tv (.bool true))) ?_
  (iterate 6 refine o1 ?_);refine bs 0 ?_
  refine ca (fW (l:=[xs,ys,zs]) (w:=u*0*w) (xM hNx hNy hNz (by omega) (by omega) (by omega)) (by simp) (xK hux huy huz)) wO ⟨cH rfl (.sl (trs:=rT [xs,ys,zs]) rfl rfl rfl rfl),rfl⟩ (nF (dg 4294967296 (u*0*w))) ?_
  (iterate 3 refine o1 ?_);refine bs 1 ?_
  refine ca (fW (l:=[zs,xs,ys]) (w:=u*0*w) (xM hNz hNx hNy (by omega) (by omega) (by omega)) (by simp) (Ae hux huy huz)) wO ⟨cH rfl (.sl (trs:=rT [zs,xs,ys]) rfl rfl rfl rfl),rfl⟩ (nF (dg 4294967296 (u*0*w))) ?_
  refine ca (bV (xs:=(dg 4294967296 (u*0*w))) (ys:=(dg 4294967296 (u*0*w))) (by omega) rfl) eG ⟨a1 rfl,a1 rfl,rfl⟩ (.one (tv (.bool true))) ?_
  refine o1 ?_;refine o1 ?_;refine nl ?_;refine lZ rfl ?_;refine sk ?_;refine sq ?_;refine rl ?_;refine o1 ?_;refine o1 ?_
  refine ca (zV hNx hNy) pA ⟨a1 rfl,a1 rfl,rfl⟩ (.tup [nF (dg 4294967296 (0)),nF (dg 4294967296 (0)),.one (tv (.int .i64 20))]) ?_;(iterate 7 refine o1 ?_);refine nl ?_
  refine sq ?_;refine sq ?_;refine rl ?_;refine o1 ?_;refine ca (Ac hNy) Hg ⟨a1 rfl,rfl⟩ (.one (tv (.int .i64 ((lX 0:Nat):Int)))) ?_;refine o1 ?_
  refine WL.cast (t:=80) (u':=.bool true) rfl (congrArg Value.bool (decide_eq_true (congrArg (fun n:Nat=>(n:Int)) (zY.2 rfl)))) ?_
  refine nl ?_;refine uG rfl ?_;refine sq ?_;refine rl ?_;refine o1 ?_;refine o1 ?_;refine WL.cast (t:=82) (u':=.bool true) rfl (congrArg Value.bool (decide_eq_true rfl)) ?_
  (iterate 3 refine o1 ?_);refine bs 2 ?_
  refine ca (lG (l:=[xs,ys]) (w:=u) (xL hNx hNy (by omega) (by omega)) (by simp) ((xJ hux huy).trans (Nat.gcd_zero_right u))) sF ⟨cH rfl (.sl (trs:=rT [xs,ys]) rfl rfl rfl rfl),rfl⟩ (nF (dg 4294967296 (u))) ?_
  refine o1 ?_;refine ca (tA hNx) wN ⟨a1 rfl,rfl⟩ (nF (dg 4294967296 (u))) ?_
  refine ca (bV (xs:=(dg 4294967296 (u))) (ys:=(dg 4294967296 (u))) (by omega) rfl) eG ⟨a1 rfl,a1 rfl,rfl⟩ (.one (tv (.bool true))) ?_
  refine o1 ?_;refine o1 ?_;refine ca (iY) sE rfl (.one (tv (.bool true))) ?_;refine o1 ?_;refine o1 ?_;refine nl ?_;refine rt ?_;exact nP (.inl rfl) rfl (rfl)
 have hmv:=Nat.mod_lt u (Nat.pos_of_ne_zero hv0)
 have hG0:Nat.gcd u v≠0:=Nat.pos_iff_ne_zero.1 (Nat.gcd_pos_of_pos_right u (Nat.pos_of_ne_zero hv0))
 have hd1:=dH (Nat.div_le_self u v)
 have hd2:=dH (Nat.le_of_lt hmv)
 have hd3:=dH (Nat.gcd_le_right u (Nat.pos_of_ne_zero hv0))
 have hd4:=dH (Nat.div_le_self u (Nat.gcd u v))
 have hd5:=dH (Nat.div_le_self v (Nat.gcd u v))
 have hd6:=dH (Nat.div_mul_le_self u v)
 (iterate 3 refine o1 ?_);refine ca (oE (w:=(v)+(w)) hNy hNz rfl) jQ ⟨a1 rfl,a1 rfl,rfl⟩ (nF (dg 4294967296 ((v)+(w)))) ?_
 refine ca (dV (w:=(u)*((v)+(w))) hNx (Nn.of (u:=(v)+(w)) (by omega)) rfl) eP ⟨a1 rfl,a1 rfl,rfl⟩ (nF (dg 4294967296 ((u)*((v)+(w))))) ?_
 refine o1 ?_;refine nl ?_;refine sq ?_;refine sq ?_;refine rl ?_;(iterate 3 refine o1 ?_)
 refine ca (dV (w:=(u)*(v)) hNx hNy rfl) eP ⟨a1 rfl,a1 rfl,rfl⟩ (nF (dg 4294967296 ((u)*(v)))) ?_;refine o1 ?_;refine o1 ?_
 refine ca (dV (w:=(u)*(w)) hNx hNz rfl) eP ⟨a1 rfl,a1 rfl,rfl⟩ (nF (dg 4294967296 ((u)*(w)))) ?_
 refine ca (oE (w:=(u)*((v)+(w))) (Nn.of (u:=(u)*(v)) (by omega)) (Nn.of (u:=(u)*(w)) (by omega)) (Nat.mul_add _ _ _).symm) jQ ⟨a1 rfl,a1 rfl,rfl⟩ (nF (dg 4294967296 ((u)*((v)+(w))))) ?_
 refine ca (bV (xs:=(dg 4294967296 ((u)*((v)+(w))))) (ys:=(dg 4294967296 ((u)*((v)+(w))))) (by omega) rfl) eG ⟨a1 rfl,a1 rfl,rfl⟩ (.one (tv (.bool true))) ?_
 (iterate 4 refine o1 ?_);refine ca (dV (w:=(u)*(v)) hNx hNy rfl) eP ⟨a1 rfl,a1 rfl,rfl⟩ (nF (dg 4294967296 ((u)*(v)))) ?_;refine o1 ?_;refine o1 ?_
 refine ca (dV (w:=(u)*(v)) hNy hNx (Nat.mul_comm _ _)) eP ⟨a1 rfl,a1 rfl,rfl⟩ (nF (dg 4294967296 ((u)*(v)))) ?_
 refine ca (bV (xs:=(dg 4294967296 ((u)*(v)))) (ys:=(dg 4294967296 ((u)*(v)))) (by omega) rfl) eG ⟨a1 rfl,a1 rfl,rfl⟩ (.one (tv (.bool true))) ?_
 (iterate 6 refine o1 ?_);refine bs 0 ?_
 refine ca (fW (l:=[xs,ys,zs]) (w:=u*v*w) (xM hNx hNy hNz (by omega) (by omega) (by omega)) (by simp) (xK hux huy huz)) wO ⟨cH rfl (.sl (trs:=rT [xs,ys,zs]) rfl rfl rfl rfl),rfl⟩ (nF (dg 4294967296 (u*v*w))) ?_
 (iterate 3 refine o1 ?_);refine bs 1 ?_
 refine ca (fW (l:=[zs,xs,ys]) (w:=u*v*w) (xM hNz hNx hNy (by omega) (by omega) (by omega)) (by simp) (Ae hux huy huz)) wO ⟨cH rfl (.sl (trs:=rT [zs,xs,ys]) rfl rfl rfl rfl),rfl⟩ (nF (dg 4294967296 (u*v*w))) ?_
 refine ca (bV (xs:=(dg 4294967296 (u*v*w))) (ys:=(dg 4294967296 (u*v*w))) (by omega) rfl) eG ⟨a1 rfl,a1 rfl,rfl⟩ (.one (tv (.bool true))) ?_
 refine o1 ?_;refine o1 ?_;refine nl ?_;refine lZ rfl ?_;refine sk ?_;refine sq ?_;refine rl ?_;refine o1 ?_;refine o1 ?_
 refine ca (gP (q:=u/v) (r:=u%v) hNx hNy hv0 rfl rfl) pA ⟨a1 rfl,a1 rfl,rfl⟩ (.tup [nF (dg 4294967296 (u/v)),nF (dg 4294967296 (u%v)),.one (tv (.int .i64 0))]) ?_
 (iterate 7 refine o1 ?_);refine nl ?_;refine sq ?_;refine sq ?_;refine rl ?_;refine o1 ?_;refine ca (Ac hNy) Hg ⟨a1 rfl,rfl⟩ (.one (tv (.int .i64 ((lX v:Nat):Int)))) ?_
 refine o1 ?_;refine WL.cast (t:=80) (u':=.bool false) rfl (congrArg Value.bool (decide_eq_false fun h=>hv0 (zY.1 (by omega)))) ?_
 refine nl ?_;refine lZ rfl ?_;refine sk ?_;refine sq ?_;refine sq ?_;refine rl ?_;refine o1 ?_;refine o1 ?_
 refine WL.cast (t:=96) (u':=.bool false) rfl (congrArg Value.bool (decide_eq_false fun h=>h rfl)) ?_
 (iterate 3 refine o1 ?_);refine ca (dV (w:=u/v*v) (Nn.of (u:=u/v) (by omega)) hNy rfl) eP ⟨a1 rfl,a1 rfl,rfl⟩ (nF (dg 4294967296 (u/v*v))) ?_
 refine o1 ?_
 refine ca (oE (w:=u) (Nn.of (u:=u/v*v) (by omega)) (Nn.of (u:=u%v) (by omega)) (by rw[Nat.mul_comm];exact Nat.div_add_mod u v)) jQ ⟨a1 rfl,a1 rfl,rfl⟩ (nF (dg 4294967296 (u))) ?_
 refine o1 ?_;refine ca (tA hNx) wN ⟨a1 rfl,rfl⟩ (nF (dg 4294967296 (u))) ?_
 refine ca (bV (xs:=(dg 4294967296 (u))) (ys:=(dg 4294967296 (u))) (by omega) rfl) eG ⟨a1 rfl,a1 rfl,rfl⟩ (.one (tv (.bool true))) ?_
 (iterate 5 refine o1 ?_);refine ca (Kt (Nn.of (u:=u%v) (by omega)) hNy) Ml ⟨a1 rfl,a1 rfl,rfl⟩ (.one (tv (.int .i64 (eH (u%v) (v))))) ?_
 refine o1 ?_;refine WL.cast (t:=112) (u':=.bool false) rfl (congrArg Value.bool (decide_eq_false (Fn hmv))) ?_;refine o1 ?_;refine nl ?_;refine lZ rfl ?_;refine sk ?_
 refine sq ?_;refine rl ?_;refine o1 ?_;refine o1 ?_;refine bs 2 ?_
 refine ca (lG (l:=[xs,ys]) (w:=Nat.gcd u v) (xL hNx hNy (by omega) (by omega)) (by simp) ((xJ hux huy).trans (rfl))) sF ⟨cH rfl (.sl (trs:=rT [xs,ys]) rfl rfl rfl rfl),rfl⟩ (nF (dg 4294967296 (Nat.gcd u v))) ?_
 refine o1 ?_;refine nl ?_;refine sq ?_;refine rl ?_;refine o1 ?_;refine o1 ?_
 refine ca (gP (q:=u/Nat.gcd u v) (r:=0) hNx (Nn.of (u:=Nat.gcd u v) (by omega)) hG0 rfl (Nat.mod_eq_zero_of_dvd (Nat.gcd_dvd_left u v))) pA ⟨a1 rfl,a1 rfl,rfl⟩ (.tup [nF (dg 4294967296 (u/Nat.gcd u v)),nF (dg 4294967296 (0)),.one (tv (.int .i64 0))]) ?_
 (iterate 7 refine o1 ?_);refine nl ?_;refine sq ?_;refine rl ?_;refine o1 ?_;refine o1 ?_
 refine ca (gP (q:=v/Nat.gcd u v) (r:=0) hNy (Nn.of (u:=Nat.gcd u v) (by omega)) hG0 rfl (Nat.mod_eq_zero_of_dvd (Nat.gcd_dvd_right u v))) pA ⟨a1 rfl,a1 rfl,rfl⟩ (.tup [nF (dg 4294967296 (v/Nat.gcd u v)),nF (dg 4294967296 (0)),.one (tv (.int .i64 0))]) ?_
 (iterate 7 refine o1 ?_);refine nl ?_;refine sq ?_;refine sq ?_;refine rl ?_;refine o1 ?_;refine o1 ?_
 refine WL.cast (t:=133) (u':=.bool false) rfl (congrArg Value.bool (decide_eq_false fun h=>h rfl)) ?_
 (iterate 3 refine o1 ?_);refine WL.cast (t:=136) (u':=.bool false) rfl (congrArg Value.bool (decide_eq_false fun h=>h rfl)) ?_
 (iterate 5 refine o1 ?_);refine WL.cast (t:=141) (u':=.bool false) rfl (congrArg Value.bool (decide_eq_false fun h=>h rfl)) ?_
 (iterate 5 refine o1 ?_);refine WL.cast (t:=146) (u':=.bool false) rfl (congrArg Value.bool (decide_eq_false fun h=>h rfl)) ?_
 refine o1 ?_;refine nl ?_;refine lZ rfl ?_;refine sk ?_;refine sq ?_;refine rl ?_;refine o1 ?_;refine o1 ?_;refine bs 3 ?_
 refine ca (lG (l:=[(dg 4294967296 (u/Nat.gcd u v)),(dg 4294967296 (v/Nat.gcd u v))]) (w:=1) (xL (Nn.of (u:=u/Nat.gcd u v) (by omega)) (Nn.of (u:=v/Nat.gcd u v) (by omega)) (by omega) (by omega)) (by simp) ((xJ (bY (by omega) _) (bY (by omega) _)).trans (Fo hv0))) sF ⟨cH rfl (.sl (trs:=rT [(dg 4294967296 (u/Nat.gcd u v)),(dg 4294967296 (v/Nat.gcd u v))]) rfl rfl rfl rfl),rfl⟩ (nF (dg 4294967296 (1))) ?_
 refine bs 4 ?_
 refine ca (bV (xs:=dg 4294967296 (1)) (ys:=[1]) (by decide) (vX (by decide))) eG ⟨a1 rfl,cH rfl (.sl (trs:=aN [1]) rfl rfl rfl rfl),rfl⟩ (.one (tv (.bool true))) ?_
 (iterate 4 refine o1 ?_);refine bs 5 ?_
 refine ca (lG (l:=[ys,xs]) (w:=Nat.gcd u v) (xL hNy hNx (by omega) (by omega)) (by simp) ((xJ huy hux).trans (Nat.gcd_comm _ _))) sF ⟨cH rfl (.sl (trs:=rT [ys,xs]) rfl rfl rfl rfl),rfl⟩ (nF (dg 4294967296 (Nat.gcd u v))) ?_
 refine ca (bV (xs:=(dg 4294967296 (Nat.gcd u v))) (ys:=(dg 4294967296 (Nat.gcd u v))) (by omega) rfl) eG ⟨a1 rfl,a1 rfl,rfl⟩ (.one (tv (.bool true))) ?_
 refine o1 ?_;refine o1 ?_;refine ca (iY) sE rfl (.one (tv (.bool true))) ?_;refine o1 ?_;refine o1 ?_;refine nl ?_;refine rt ?_;exact nP (.inl rfl) rfl (rfl)
end Go.Proofs.YteggpgndiajdpaaDoor
namespace Go.Proofs.YteggpgndiajdpaaDoor
open Go Go.RowKit Go.ChangeShapes
def Reads (P:Program) (t:TypeId) (z:Nat) (T:List Tr→Prop):Prop:=
 P.cellsOf t=z∧∀(H:Type) (enc:TypeId×Value→H) (w:World) (fuel:Nat) (cs:List Value) (x:DataW H×List MemPlace),DataW.trod enc P w 0 (fun _=>true) true fuel t cs=some x→∃l,T l∧l.length=z∧FRL w (qF w) l cs
theorem vY {W:World}{N:Nat→Prop}:∀{l l':List Tr}{us us':List Value},FRL W N l us→FRL W N l' us'→FRL W N (l++l') (us++us')
 | [],l',us,us',h,h'=>by simp only[FRL]at h;subst h;exact h'
 | x::l,l',u::us,us',h,h'=>by simp only[FRL,List.cons_append]at*;exact⟨h.1,vY h.2 h'⟩
 | _::_,_,[],_,h,_=>by simp only[FRL]at h
theorem vZ {W:World}{N:Nat→Prop}:∀{l:List Tr}{us:List Value}{j:Nat}{x:Tr},FRL W N l us→l[j]? =some x→∃u,us[j]? =some u∧FR W N x u
 | [],_,_,_,_,h=>by simp at h
 | y::l,u::us,0,x,h,e=>by
  simp only[FRL]at h
  simp at e
  subst e
  exact⟨u,rfl,h.1⟩
 | y::l,u::us,j+1,x,h,e=>by
  simp only[FRL]at h
  exact vZ (j:=j) h.2 (by simpa using e)
 | _::_,[],_,_,h,_=>by simp only[FRL]at h
section
variable {P:Program}{t e:TypeId}{k:IntKind}{z:Nat}{T T':List Tr→Prop}
theorem Reads.mono (h:Reads P t z T) (hi:∀l,T l→T' l):Reads P t z T':=⟨h.1,fun H enc w fuel cs x hx=>let ⟨l,a,b⟩:=h.2 H enc w fuel cs x hx;⟨l,hi l a,b⟩⟩
theorem Jb (ht:P.underlying t=some (.int k)) (hz:P.cellsOf t=1):Reads P t 1 (fun l=>∃n,l=[.v (.int k n)]∧k.min≤n∧n≤k.max):=⟨hz,fun H enc w fuel cs x hx=>by
 obtain⟨n,rfl,_,h⟩:=DataW.trod_int ht hx
 simp only[Lit.wf,Bool.and_eq_true,decide_eq_true_eq]at h
 exact⟨_,⟨n,rfl,h⟩,rfl,by simp[FRL,FR]⟩⟩
inductive Flds (P:Program):Nat→List Field→Nat→(List Tr→Prop)→Prop
 | nil {o:Nat}:Flds P o [] 0 (· =[])
 | cons {o z z':Nat}{f:Field}{fs:List Field}{T T':List Tr→Prop}(ho:f.offset=o) (h:Reads P f.type z T) (h':Flds P (o+z) fs z' T'):Flds P o (f::fs) (z+z') (fun l=>∃a b,l=a++b∧T a∧T' b)
theorem Flds.read {H:Type}{enc:TypeId×Value→H}{w:World}{n o:Nat}{fs:List Field}(h:Flds P o fs z T):∀{cs:List Value},o+z≤cs.length→(∀f∈fs,∃x,DataW.trod enc P w 0 (fun _=>true) true n f.type ((cs.drop f.offset).take (P.cellsOf f.type))=some x)→∃l,T l∧l.length=z∧FRL w (qF w) l ((cs.drop o).take z):=by
 induction h with
 | nil=>exact fun _ _=>⟨[],rfl,rfl,by simp[FRL]⟩
 | @cons o z z' f fs T T' ho hr _ ih=>
  intro cs hl hf
  obtain⟨b,h1,h2,h3⟩:=ih (cs:=cs) (by omega) fun f hm=>hf f (List.mem_cons_of_mem _ hm)
  obtain⟨x,hx⟩:=hf f List.mem_cons_self
  obtain⟨a,g1,g2,g3⟩:=hr.2 H enc w n _ x hx
  rw[ho,hr.1]at g3
  refine⟨a++b,⟨a,b,rfl,g1,h1⟩,by simp[g2,h2],?_⟩
  rw[List.take_add,List.drop_drop]
  exact vY g3 h3
theorem Bv (ht:P.underlying t=some (.slice e)) (hz:P.cellsOf t=1) (hz0:0<z) (h:Reads P e z T):Reads P t 1 (fun l=>∃rows:List (List Tr),(∀r∈rows,T r∧r.length=z)∧l=[.s false e z rows.length rows.flatten]):=⟨hz,fun H enc w fuel cs x hx=>by
 have hlen:∀(rows:List (List Tr)),(∀r∈rows,T r∧r.length=z)→rows.flatten.length=rows.length*z:=by
  intro rows
  induction rows with
  | nil=>intro _;simp
  | cons r rows ih=>
   intro hr
   rw[List.flatten_cons,List.length_append,(hr r List.mem_cons_self).2,ih fun r hm=>hr r (List.mem_cons_of_mem _ hm),List.length_cons,Nat.succ_mul,Nat.add_comm]
 rcases Deep.open_slice ht hx with⟨rfl,_⟩ | ⟨a,len,cap,m,n,D,Pl,rfl,_,hl,hm,hmm,_,hel⟩
 ·refine⟨_,⟨[],fun _ h=>(by cases h),rfl⟩,rfl,?_⟩
  simp only[FRL,FR,and_true]
  exact⟨none,0,rfl,Nat.le_refl _,by omega,by simp,.inl rfl⟩
 have hmc:m=cap:=by simpa using hmm
 rw[h.1]at hel
 have hex:∀i:Nat,∃l:List Tr,i<len→T l∧l.length=z∧∀j y,l[j]? =some y→∃u,w.cell? ((a.add (i*z)).add j)=some u∧FR w (qF w) y u:=fun i=>by
  by_cases hi:i<len
  ·obtain⟨cs',h1,h2⟩:=hel i (by omega)
   obtain⟨l,g1,g2,g3⟩:=h.2 H enc w n cs' _ h2
   obtain⟨_,h3,h4⟩:=World.cells?_some h1
   refine⟨l,fun _=>⟨g1,g2,fun j y hj=>?_⟩⟩
   obtain⟨u,hu,hy⟩:=vZ g3 hj
   have hjl:=(List.getElem?_eq_some_iff.1 hj).1
   exact⟨u,by rw[h4 j (by omega),hu],hy⟩
  exact⟨[],fun h=>absurd h hi⟩
 have hF:=fun i=>Classical.choose_spec (hex i)
 have hrow:∀r∈(List.range len).map (fun i=>Classical.choose (hex i)),T r∧r.length=z:=fun r hr=>by
  obtain⟨i,hi,rfl⟩:=List.mem_map.1 hr
  have:=hF i (List.mem_range.1 hi)
  exact⟨this.1,this.2.1⟩
 refine⟨_,⟨_,hrow,rfl⟩,rfl,?_⟩
 have h5:=hlen _ hrow
 simp only[FRL,and_true,FR]
 refine⟨some a,cap,by simp,by simpa using hl,by unfold maxLen at hm;omega,h5,?_⟩
 rcases Nat.eq_zero_or_pos len with h0 | h0
 ·exact .inl (by simp[h0])
 refine .inr ⟨a,rfl,?_,kI fun j y hj=>?_⟩
 ·obtain⟨_,g2,g3⟩:=hF 0 h0
  obtain⟨u,hu,_⟩:=g3 0 _ (List.getElem?_eq_getElem (by omega))
  have:=World.block_lt_of_cell? w ((a.add (0*z)).add 0) hu
  rwa[cL,cL]at this
 have hjl:=(List.getElem?_eq_some_iff.1 hj).1
 rw[h5,List.length_map,List.length_range]at hjl
 have hi:j/z<len:=Nat.div_lt_of_lt_mul (by rw[Nat.mul_comm];exact hjl)
 obtain⟨_,g2,g3⟩:=hF (j/z) hi
 have hz1:=Nat.mod_lt j hz0
 have hget:∀(rows:List (List Tr)),(∀r∈rows,T r∧r.length=z)→∀(i o:Nat) (r:List Tr),rows[i]? =some r→o<z→rows.flatten[i*z+o]? =r[o]? :=by
  intro rows
  induction rows with
  | nil=>intro _ i o r h;simp at h
  | cons r rows ih=>
   intro hr i o r' hi ho
   have hrl:=(hr r List.mem_cons_self).2
   cases i with
   | zero=>
    simp at hi
    subst hi
    rw[Nat.zero_mul,Nat.zero_add,List.flatten_cons,List.getElem?_append_left (by omega)]
   | succ i=>
    rw[List.flatten_cons,List.getElem?_append_right (by rw[Nat.succ_mul];omega),hrl,show(i+1)*z+o-z=i*z+o by rw[Nat.succ_mul];omega]
    exact ih (fun r hm=>hr r (List.mem_cons_of_mem _ hm)) i o r' (by simpa using hi) ho
 have hd:=Nat.div_add_mod j z
 rw[Nat.mul_comm]at hd
 rw[←hd,hget _ hrow (j/z) (j%z) (Classical.choose (hex (j/z))) (by simp[hi]) hz1]at hj
 obtain⟨u,hu,hy⟩:=g3 _ _ hj
 refine⟨u,?_,hy⟩
 rw[Nat.zero_add]
 have e2:(a.add (j/z*z)).add (j%z)=a.add j:=by rw[iH,hd]
 rwa[e2]at hu⟩
theorem wA {α:Type}(f:α→List Tr) (Q:α→Prop):∀{rows:List (List Tr)},(∀r∈rows,∃a,Q a∧r=f a)→∃xs:List α,(∀a∈xs,Q a)∧rows.flatten=xs.flatMap f∧rows.length=xs.length
 | [],_=>⟨[],fun _ h=>(by cases h),rfl,rfl⟩
 | r::rows,h=>by
  obtain⟨a,h1,rfl⟩:=h r List.mem_cons_self
  obtain⟨xs,h2,h3,h4⟩:=wA f Q fun r hm=>h r (List.mem_cons_of_mem _ hm)
  exact⟨a::xs,fun b hb=>(List.mem_cons.1 hb).elim (fun e=>e▸h1) (h2 b),by simp[h3],by simp[h4]⟩
theorem Bw (ht:P.underlying t=some (.slice e)) (he:P.underlying e=some (.int .u32)) (hz:P.cellsOf t=1) (hze:P.cellsOf e=1) (hn:e=64):Reads P t 1 (fun l=>∃xs:List Nat,Lim 4294967296 xs∧l=[sU false xs]):=
 (Bv ht hz (by omega) (Jb he hze)).mono fun l ⟨rows,h1,h2⟩=>by
  obtain⟨xs,h3,h4,h5⟩:=wA (fun n:Nat=>[Tr.v (.int .u32 (n:Int))]) (fun n=>n<4294967296) (rows:=rows) fun r hr=>by
   obtain⟨⟨n,rfl,h1,h2⟩,_⟩:=h1 r hr
   have e1:IntKind.u32.min=0:=rfl
   have e2:IntKind.u32.max=4294967295:=rfl
   rw[e1]at h1
   rw[e2]at h2
   exact⟨n.toNat,by omega,by rw[Int.toNat_of_nonneg h1]⟩
  refine⟨xs,h3,?_⟩
  rw[h2,h4,h5,sU,hn]
  have:∀xs:List Nat,xs.flatMap (fun n:Nat=>[Tr.v (.int .u32 (n:Int))])=aN xs:=by
   intro xs
   induction xs with
   | nil=>rfl
   | cons n xs ih=>rw[List.flatMap_cons,ih];rfl
  rw[this]
end
def LimF (a:Fr4):Prop:=Lim 4294967296 a.x∧Lim 4294967296 a.y
theorem LimF.ok {a:Fr4}(h:LimF a) (h2:a.x.length≤6∧a.y.length≤6):a.ok:=⟨h.1,h.2,by omega,by omega⟩
end Go.Proofs.YteggpgndiajdpaaDoor
namespace Go.Proofs.YteggpgndiajdpaaDoor
open Go Go.ChangeShapes Go.WideShapes Go.ChangeAt Go.RowKit
theorem Jc:Tryd.prog.cellsOf 64=1:=by kernel_rfl
theorem Bx:Tryd.prog.cellsOf 22=1:=by kernel_rfl
theorem tE {W:World}{y:Tr}{u:Value}(hu:u.cells.toList=[u]) (h:FRL W (qF W) [y] u.cells.toList):aJ W (qF W) [] (.one (.t y)) u:=by
 rw[hu]at h
 simp only[FRL,and_true]at h
 simpa only[aJ,AR]using h
theorem tF:Reads Tryd.prog 22 1 (fun l=>∃xs:List Nat,Lim 4294967296 xs∧l=[sU false xs]):=Bw Tryd.underlying22 Tryd.underlying64 Bx Jc rfl
end Go.Proofs.YteggpgndiajdpaaDoor
