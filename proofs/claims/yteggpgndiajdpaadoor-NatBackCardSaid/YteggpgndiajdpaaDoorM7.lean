/- Part 7 of a proof: Th to Rib5. -/
import Derived.Test.YteggpgndiajdpaaDoorM6
import Derived.Test.YteggpgndiajdpaaDoorM4
import Derived.ProofKit
import Derived.ChangeOld
import Derived.Deep.Slices
import Derived.Deep.Strs
import Derived.WalkKit
import Derived.OpenShut
import Derived.Below
import Derived.Carry
set_option maxRecDepth 100000
set_option linter.unusedVariables false
set_option linter.unusedSimpArgs false
namespace Go.Proofs.YteggpgndiajdpaaDoor
open Go Go.RowKit
def Nn (xs:List Nat) (u:Nat):Prop:=Lim 4294967296 xs∧xs.length≤1000000∧vl 4294967296 xs=u
theorem Nn.of {u:Nat}(h:(dg 4294967296 u).length≤1000000):Nn (dg 4294967296 u) u:=⟨bP (by omega) _,h,bZ (by omega) _⟩
theorem Nn.eqT {xs:List Nat}{u:Nat}(h:Nn xs u):dg 4294967296 u=trim xs:=by rw[←h.2.2,cU (by omega) h.1]
theorem Nn.len {xs:List Nat}{u L:Nat}(h:Nn xs u) (hL:xs.length≤L):(dg 4294967296 u).length≤L:=by rw[h.eqT];exact Nat.le_trans (bN _) hL
section
variable {xs ys:List Nat}{u v w q r:Nat}
abbrev nF (xs:List Nat):FV:=.one (.t (sU false xs))
abbrev nO (u:Nat):FV:=.one (.t (sU true (dg 4294967296 u)))
theorem qI (hx:Nn xs u) (hy:Nn ys v) (e:u*v=w):aW true Tryd.prog 49 [] [nF xs,nF ys] (bS (nO w)):=by
 obtain⟨a,b,rfl⟩:=hx
 obtain⟨c,d,rfl⟩:=hy
 exact e▸Ju a c (by omega) (by omega)
theorem zA (hx:Nn xs u):aW true Tryd.prog 47 [] [nF xs] (bS (nO u)):=vA hx.1 (Nat.le_trans hx.2.1 (by omega)) hx.2.2
theorem wU {m:Nat}(hx:Nn xs u) (hm:m<4294967296) (e:u*m=w):aW true Tryd.prog 87 [] [nF xs,.one (tv (.int .u32 (m:Int)))] (bS (nO w)):=by
 obtain⟨a,b,rfl⟩:=hx
 exact e▸nM a (by omega) hm
theorem sQ (hx:Nn xs u) (hy:Nn ys v) (h0:v≠0) (hq:u/v=q) (hr:u%v=r):aW true Tryd.prog 40 [] [nF xs,nF ys] (bS (.tup [nO q,nO r,.one (tv (.int .i64 0))])):=by
 obtain⟨a,b,rfl⟩:=hx
 obtain⟨c,d,rfl⟩:=hy
 subst hq hr
 exact Aw a c (by omega) (by omega) h0
theorem wV (hx:Nn xs u):aW true Tryd.prog 46 [] [nF xs] (bS (.one (tv (.string (aK (tx u)))))):=Jw hx.2.1 hx.1 hx.2.2
end
def rT (l:List (List Nat)):List Tr:=l.map (sU false)
def eG (l:List (List Nat)) (k:Nat):List Nat:=l.getD k []
theorem Ib:∀(l:List (List Nat)){k:Nat},k<l.length→((rT l).drop (k*1)).take [sU false (eG l k)].length=[sU false (eG l k)]
 | [],_,h=>by simp at h
 | _::_,0,_=>rfl
 | _::l,k+1,h=>by
  have:=Ib l (k:=k) (by simpa using h)
  simp only[Nat.mul_one]at this⊢
  exact this
theorem jP {l:List (List Nat)}{k:Nat}(h:k<l.length):eG l k∈l:=by
 unfold eG
 rw[List.getD_eq_getElem?_getD,List.getElem?_eq_getElem h]
 exact List.getElem_mem h
theorem Az {l:List (List Nat)}{k:Nat}(h:k<l.length):l[k]? =some (eG l k):=by simp[eG,h]
def val (xs:List Nat):Nat:=vl 4294967296 xs
def fM (l:List (List Nat)):Nat:=l.foldl (fun g xs=>Nat.gcd g (val xs)) 0
theorem Ic {l:List (List Nat)}{k:Nat}(h:k<l.length):Nat.gcd (fM (l.take k)) (val (eG l k))=fM (l.take (k+1)):=by
 rw[List.take_add_one,Az h]
 simp[fM]
def RL (M:Nat) (l:List (List Nat)):Prop:=∀xs∈l,Lim 4294967296 xs∧xs.length≤M
theorem RL.nn {M k:Nat}{l:List (List Nat)}(h:RL M l) (hM:M≤1000000) (hk:k<l.length):Nn (eG l k) (val (eG l k)):=⟨(h _ (jP hk)).1,Nat.le_trans (h _ (jP hk)).2 hM,rfl⟩
theorem RL.len {M k:Nat}{l:List (List Nat)}(h:RL M l) (hk:k<l.length):(dg 4294967296 (val (eG l k))).length≤M:=by
 unfold val
 rw[cU (by omega) (h _ (jP hk)).1]
 exact Nat.le_trans (bN _) (h _ (jP hk)).2
def jX (n:Int):Int:=if n<0 then 2 else if 4096<n then 3 else 0
def sR (x:Nat) (n:Int):Nat:=if jX n=0 then x^n.toNat else 0
theorem iQ {x m:Nat}(h:x<4294967296):(dg 4294967296 (x^m)).length≤m+1:=by
 refine aL (by omega) (Nat.lt_of_le_of_lt (Nat.pow_le_pow_left (Nat.le_of_lt h) m) ?_)
 exact Nat.pow_lt_pow_right (by omega) (by omega)
theorem zB {j:Nat}(h:j≤12):4096/2^j=2^(12-j):=by
 rw[show(4096:Nat)=2^12 from rfl,Nat.pow_div h (by omega)]
theorem Ba (n i:Nat):n&&& 2^i=n/2^i%2*2^i:=by
 apply Nat.eq_of_testBit_eq
 intro k
 rw[Nat.testBit_and,Nat.testBit_two_pow]
 rcases Nat.mod_two_eq_zero_or_one (n/2^i)with h | h
 ·rw[h,Nat.zero_mul,Nat.zero_testBit]
  by_cases hk:i=k
  ·subst hk
   rw[Nat.testBit_eq_decide_div_mod_eq,h]
   rfl
  rw[decide_eq_false hk,Bool.and_false]
 rw[h,Nat.one_mul,Nat.testBit_two_pow]
 by_cases hk:i=k
 ·subst hk
  rw[Nat.testBit_eq_decide_div_mod_eq,h]
  rfl
 rw[decide_eq_false hk,Bool.and_false]
theorem vH {n j:Nat}(h:j≤12):n&&&(4096/2^j)=n/2^(12-j)%2*2^(12-j):=by
 rw[zB h,Ba]
theorem Ef {a b:Nat}(ha:a<9223372036854775808) (hb:b<9223372036854775808):IntKind.i64.wrap ((BitVec.ofInt IntKind.i64.bits (a:Int)&&& BitVec.ofInt IntKind.i64.bits (b:Int)).toNat:Int)=((a&&& b:Nat):Int):=by
 have e:IntKind.i64.bits=64:=rfl
 rw[e,BitVec.toNat_and,BitVec.ofInt_natCast,BitVec.ofInt_natCast,BitVec.toNat_ofNat,BitVec.toNat_ofNat,Nat.mod_eq_of_lt (by omega),Nat.mod_eq_of_lt (by omega)]
 have h1:a&&& b≤a:=Nat.and_le_left
 simp[IntKind.wrap,IntKind.signed,IntKind.bits]
 omega
theorem sS {j:Nat}:Int.fdiv ((4096/2^j:Nat):Int) (2^(min (1:Int).toNat IntKind.i64.bits))=((4096/2^(j+1):Nat):Int):=by
 have e:(2:Int)^(min (1:Int).toNat IntKind.i64.bits)=((2:Nat):Int):=by decide
 rw[e,Int.fdiv_eq_ediv,if_pos (Or.inl (by omega)),Int.sub_zero,←Int.natCast_ediv,Nat.div_div_eq_div_mul,←Nat.pow_succ]
theorem vI {n j:Nat}(h:j≤12):n/2^(12-j)=2*(n/2^(13-j))+n/2^(12-j)%2:=by
 have e:2^(13-j)=2^(12-j)*2:=by rw[show 13-j=(12-j)+1 by omega,Nat.pow_succ]
 rw[e,←Nat.div_div_eq_div_mul]
 omega
theorem Jx {x n j:Nat}(h:j≤12) (hb:n&&&(4096/2^j)=0):x^(n/2^(13-j))*x^(n/2^(13-j))=x^(n/2^(12-j)):=by
 rw[vH h]at hb
 have h1:n/2^(12-j)%2=0:=by
  rcases Nat.mul_eq_zero.1 hb with h2 | h2
  ·exact h2
  have:=Nat.pow_pos (n:=12-j) (show 0<2 by omega);omega
 rw[←Nat.pow_add,vI h,h1]
 congr 1
 omega
theorem Jy {x n j:Nat}(h:j≤12) (hb:n&&&(4096/2^j)≠0):x^(n/2^(13-j))*x^(n/2^(13-j))*x=x^(n/2^(12-j)):=by
 rw[vH h]at hb
 have h1:n/2^(12-j)%2=1:=by
  rcases Nat.mod_two_eq_zero_or_one (n/2^(12-j))with h2 | h2
  ·rw[h2,Nat.zero_mul]at hb;exact absurd rfl hb
  exact h2
 rw[←Nat.pow_add,←Nat.pow_succ,vI h,h1]
 congr 1
 omega
theorem Eg {xs ys:List Nat}(h:¬xs.length=ys.length):false=decide (xs=ys):=(decide_eq_false fun e=>h (by rw[e])).symm
theorem Eh {xs ys:List Nat}{k:Nat}(h:¬nth xs k=nth ys k):false=decide (xs=ys):=(decide_eq_false fun e=>h (by rw[e])).symm
theorem Ei {xs ys:List Nat}{k:Nat}(hl:xs.length=ys.length) (hk:xs.take k=ys.take k) (hk2:xs.length≤k):true=decide (xs=ys):=by
 rw[sO hk2,sO (by omega)]at hk
 exact(decide_eq_true hk).symm
theorem Jz {l:List (List Nat)}(hr:RL 1000 l) (hl:l.length≤100):aW true Tryd.prog 42 [] [.one (.t (.s false 22 1 l.length (rT l)))] (bS (nO (fM l))):=by
 refine kO Tryd.func42 rfl Tryd.ntmps42 rfl bK rfl fun N9 w9 c0 h0=>?_
 refine sq ?_;refine rl ?_;refine o1 ?_;refine nl ?_;refine sq ?_;refine rl ?_;refine o1 ?_;refine nl ?_;refine sq ?_;refine sq ?_;refine rl ?_;(iterate 3 refine o1 ?_);refine nl ?_
 refine bl ?_
 refine lp (γ:=Nat) (fun s=>cT [(9,.one (.t (.s false 22 1 l.length (rT l)))),(10,.one (tv (.int .i64 ((l.length:Nat):Int)))),(3,.one (.t (sU false (dg 4294967296 (fM (l.take s)))))),(11,.one (tv (.int .i64 ((s:Nat):Int))))]) (fun s=>([]:List Ob).map some) (fun s=>s≤l.length∧(dg 4294967296 (fM (l.take s))).length≤1000) (fun s=>l.length-s) 0 (⟨Nat.zero_le _,by show(dg 4294967296 0).length≤1000;decide⟩) (((nr (i:=3) 0 64 1 rfl rfl rfl rfl).trans (Ca (i:=3) (zs:=[]) (zs':=[]) rfl rfl rfl rfl rfl)).trans (dQ h0 [] _ _ (by decide) ⟨rfl,rfl,rfl,rfl,trivial⟩ rfl)) ?_
 rintro i hi;refine sq ?_;refine rl ?_;refine o1 ?_;refine nl ?_;refine sq ?_;refine dF rfl (fun h1=>?_) (fun h1=>?_)
 ·refine sk ?_;refine sq ?_;refine bl ?_;refine sq ?_;refine rl ?_;refine o1 ?_;refine Kg ([sU false (eG l (i))]) (Ib l (k:=i) (by omega)) ?_
  refine o1 ?_;refine nl ?_;refine sq ?_;refine rl ?_;refine o1 ?_;refine ca (zA (hr.nn (by omega) (by omega))) Ak ⟨a1 rfl,rfl⟩ (.one (.t (sU false (dg 4294967296 (val (eG l i)))))) ?_
  refine o1 ?_;refine nl ?_;refine bl ?_
  refine lp (γ:=Nat×Nat) (fun s=>cT [(9,.one (.t (.s false 22 1 l.length (rT l)))),(10,.one (tv (.int .i64 ((l.length:Nat):Int)))),(11,.one (tv (.int .i64 ((i:Nat):Int)))),(3,.one (.t (sU false (dg 4294967296 (s.1))))),(5,.one (.t (sU false (dg 4294967296 (s.2)))))]) (fun s=>([]:List Ob).map some) (fun s=>Nat.gcd s.1 s.2=Nat.gcd (fM (l.take i)) (val (eG l i))∧(dg 4294967296 (s.1)).length≤1000∧(dg 4294967296 (s.2)).length≤1000) (fun s=>s.2) (fM (l.take i),val (eG l i)) ⟨rfl,hi.2,hr.len (by omega)⟩ (dQ h0 [] _ _ (by decide) ⟨rfl,rfl,rfl,rfl,rfl,trivial⟩ rfl) ?_
  rintro⟨u,v⟩ ⟨hg,hu,hv⟩;dsimp only at hg hu hv⊢;refine sq ?_;refine sq ?_;refine rl ?_;(iterate 3 refine o1 ?_);refine nl ?_;refine dF rfl (fun h2=>?_) (fun h2=>?_)
  ·refine sk ?_;refine bl ?_;refine sq ?_;have hv0:v≠0:=Nat.pos_iff_ne_zero.1 (nA (B:=4294967296) (u:=v) (by omega))
   have hmv:=Nat.mod_lt u (Nat.pos_of_ne_zero hv0)
   have hml:(dg 4294967296 (u%v)).length≤1000:=Nat.le_trans (pU (Nat.le_of_lt hmv)) hv
   have hgs:Nat.gcd v (u%v)=Nat.gcd (fM (l.take i)) (val (eG l i)):=by rw[←hg,Nat.gcd_comm v,←Nat.gcd_rec,Nat.gcd_comm]
   refine rl ?_;refine o1 ?_;refine o1 ?_
   refine ca (sQ (Nn.of (u:=u) (by omega)) (Nn.of (u:=v) (by omega)) hv0 rfl rfl) Gg ⟨a1 rfl,a1 rfl,rfl⟩ (.tup [nF (dg 4294967296 (u/v)),nF (dg 4294967296 (u%v)),.one (tv (.int .i64 0))]) ?_
   (iterate 7 refine o1 ?_);refine nl ?_;refine rl ?_;(iterate 4 refine o1 ?_);refine nl ?_
   exact⟨(v,u%v),by dsimp only;omega,⟨hgs,hv,hml⟩,dQ h0 [] _ _ (by decide) ⟨rfl,rfl,rfl,rfl,rfl,trivial⟩ rfl⟩
  refine ex ?_;refine rl ?_;refine o1 ?_;refine WL.cast (t:=29) (u':=.int .i64 ((i+1:Nat):Int)) rfl (bF (by omega)) ?_
  refine o1 ?_;refine nl ?_;have hv0:v=0:=(cB (B:=4294967296) (by omega)).1 (List.eq_nil_of_length_eq_zero (by omega))
  have hgu:fM (l.take (i+1))=u:=by rw[←Ic (by omega),←hg,hv0,Nat.gcd_zero_right]
  exact⟨i+1,by omega,⟨by omega,by rw[hgu];exact hu⟩,dQ h0 [] _ _ (by decide) ⟨rfl,rfl,(congrArg (fun z:Nat=>some (nF (dg 4294967296 z))) hgu),rfl,trivial⟩ rfl⟩
 refine ex ?_;refine sq ?_;refine rl ?_;refine o1 ?_;refine rW 0 (Dz (bP (by omega) _) (by omega)) Ln ⟨a1 rfl,rfl⟩ ?_
 refine o1 ?_;refine nl ?_;refine rt ?_;have hk9:i=l.length:=by omega
 exact en (.inl rfl) rfl (pN (.one (.sl (trs:=aT (dg 4294967296 (fM (l.take i)))) rfl rfl (nK _) (dR _)))) (by decide) (fun _=>.inl ⟨rfl,jL _⟩) (by rw[hk9,List.take_of_length_le (Nat.le_refl _)];rfl)
theorem Ka {x:Nat}{n:Int}(hx:x<4294967296):aW true Tryd.prog 48 [] [.one (tv (.int .u32 ((x:Nat):Int))),.one (tv (.int .i64 n))] (bS (.tup [nO (sR x n),.one (tv (.int .i64 (jX n)))])):=by
 refine kO Tryd.func48 rfl Tryd.ntmps48 rfl bK rfl fun N9 w9 c0 h0=>?_
 refine sq ?_;refine rl ?_;refine o1 ?_;refine o1 ?_;refine nl ?_;refine sq ?_;refine bl ?_;refine sq ?_;refine rl ?_;(iterate 3 refine o1 ?_);refine nl ?_
 refine dF rfl (fun h1=>?_) (fun h1=>?_)
 ·refine sq ?_;refine rl ?_;refine o1 ?_;refine o1 ?_;refine nl ?_;refine rt ?_;have he:jX n=2:=by unfold jX;rw[if_pos (by omega)]
  exact en (.inl rfl) rfl (iJ (.cons (.one (.nil (t:=64) (z:=1))) (.cons (dY _) .nil))) (by decide) (fun _=>⟨.inl ⟨rfl,trivial⟩,trivial,trivial⟩) (by rw[he,sR,he,if_neg (by decide)];rfl)
 refine sq ?_;refine rl ?_;(iterate 3 refine o1 ?_);refine nl ?_;refine dF rfl (fun h2=>?_) (fun h2=>?_)
 ·refine sq ?_;refine rl ?_;refine o1 ?_;refine o1 ?_;refine nl ?_;refine rt ?_;have he:jX n=3:=by unfold jX;rw[if_neg (by omega),if_pos (by omega)]
  exact en (.inl rfl) rfl (iJ (.cons (.one (.nil (t:=64) (z:=1))) (.cons (dY _) .nil))) (by decide) (fun _=>⟨.inl ⟨rfl,trivial⟩,trivial,trivial⟩) (by rw[he,sR,he,if_neg (by decide)];rfl)
 refine sk ?_;refine sq ?_;refine rl ?_;refine bs 0 ?_;refine o1 ?_;refine nl ?_;refine sq ?_;refine sq ?_;refine rl ?_;refine o1 ?_;refine nl ?_;refine bl ?_
 have h1p:dg 4294967296 (x^(n.toNat/2^(13-0)))=[1]:=by rw[show n.toNat/2^(13-0)=0 from Nat.div_eq_of_lt (show n.toNat<8192 by omega),Nat.pow_zero];decide
 refine lp (γ:=Nat) (fun s=>cT [(0,.one (tv (.int .u32 ((x:Nat):Int)))),(1,.one (tv (.int .i64 n))),(6,.one (.sl 0 0 ((dg 4294967296 (x^(n.toNat/2^(13-s)))).length))),(7,.one (tv (.int .i64 ((4096/2^s:Nat):Int))))]) (fun s=>[(⟨64,1,(aT (dg 4294967296 (x^(n.toNat/2^(13-s))))).map .t⟩:Ob)].map some) (fun s=>s≤13) (fun s=>13-s) 0 (by omega) (dQ h0 [0] _ _ (by decide) ⟨rfl,rfl,(congrArg (fun l:List Nat=>some (FV.one (.sl 0 0 l.length))) h1p),rfl,trivial⟩ ⟨dX (congrArg (fun l:List Nat=>some (⟨64,1,(aT l).map .t⟩:Ob)) h1p.symm),rfl⟩) ?_
 rintro j hj;refine sq ?_;refine sq ?_;refine rl ?_;refine o1 ?_;refine o1 ?_;refine nl ?_;refine dF rfl (fun h3=>?_) (fun h3=>?_)
 ·refine sk ?_;refine sq ?_;refine bl ?_;refine sq ?_;have hj12:j≤12:=by
   rcases Nat.lt_or_ge 12 j with h9 | h9
   ·have h8:j=13:=by omega
    rw[h8]at h3;exact absurd h3 (by decide)
   exact h9
  have hpl:=iQ (m:=n.toNat/2^(13-j)) hx
  have hql:=iQ (m:=n.toNat/2^(13-j)+n.toNat/2^(13-j)) hx
  rw[Nat.pow_add]at hql;have hnl:n.toNat/2^(13-j)≤n.toNat:=Nat.div_le_self _ _
  have hbj:4096/2^j≤4096:=Nat.div_le_self _ _
  refine rl ?_;refine o1 ?_;refine o1 ?_
  refine rW 1 (qI (Nn.of (by omega)) (Nn.of (by omega)) rfl) vZ ⟨dN rfl (.sl rfl rfl (gH _) (dR _)),dN rfl (.sl rfl rfl (gH _) (dR _)),rfl⟩ ?_
  refine o1 ?_;refine nl ?_;refine sq ?_;refine rl ?_;(iterate 3 refine o1 ?_)
  refine WL.cast (t:=24) (u':=.int .i64 (((n.toNat&&& 4096/2^j):Nat):Int)) rfl (bF (by rw[show(n:Int)=((n.toNat:Nat):Int) by omega];exact Ef (by omega) (by omega))) ?_
  refine o1 ?_;refine nl ?_;refine dF rfl (fun h4=>?_) (fun h4=>?_)
  ·refine rl ?_;refine o1 ?_;refine o1 ?_;refine rW 2 (wU (Nn.of (by omega)) hx (Jy hj12 (by omega))) rU ⟨dN rfl (.sl rfl rfl (gH _) (dR _)),a1 rfl,rfl⟩ ?_
   refine o1 ?_;refine nl ?_;refine rl ?_;refine o1 ?_;refine o1 ?_;refine WL.cast (t:=18) (u':=.int .i64 (((4096/2^(j+1)):Nat):Int)) rfl (bF sS) ?_;refine o1 ?_
   refine nl ?_;have hpw:x^(n.toNat/2^(12-j))=x^(n.toNat/2^(12-j)):=rfl
   exact⟨j+1,by omega,by omega,dQ h0 [2] _ _ (by decide) ⟨rfl,rfl,(congrArg (fun z:Nat=>some (FV.one (.sl 2 0 (dg 4294967296 z).length))) (show x^(n.toNat/2^(13-(j+1)))=_ from(by rw[show 13-(j+1)=12-j by omega]))),rfl,trivial⟩ ⟨dX (congrArg (fun z:Nat=>some (⟨64,1,(aT (dg 4294967296 z)).map .t⟩:Ob)) (show x^(n.toNat/2^(13-(j+1)))=_ from(by rw[show 13-(j+1)=12-j by omega])).symm),rfl⟩⟩
  refine sk ?_;refine rl ?_;refine o1 ?_;refine o1 ?_;refine WL.cast (t:=18) (u':=.int .i64 (((4096/2^(j+1)):Nat):Int)) rfl (bF sS) ?_;refine o1 ?_;refine nl ?_
  have hpw:x^(n.toNat/2^(12-j))=x^(n.toNat/2^(13-j))*x^(n.toNat/2^(13-j)):=(Jx hj12 (by omega)).symm
  exact⟨j+1,by omega,by omega,dQ h0 [1] _ _ (by decide) ⟨rfl,rfl,(congrArg (fun z:Nat=>some (FV.one (.sl 1 0 (dg 4294967296 z).length))) (show x^(n.toNat/2^(13-(j+1)))=_ from(by rw[show 13-(j+1)=12-j by omega];exact hpw))),rfl,trivial⟩ ⟨dX (congrArg (fun z:Nat=>some (⟨64,1,(aT (dg 4294967296 z)).map .t⟩:Ob)) (show x^(n.toNat/2^(13-(j+1)))=_ from(by rw[show 13-(j+1)=12-j by omega];exact hpw)).symm),rfl⟩⟩
 refine ex ?_;refine sq ?_;refine rl ?_;(iterate 3 refine o1 ?_);refine nl ?_;refine rt ?_;have he:jX n=0:=by unfold jX;rw[if_neg (by omega),if_neg (by omega)]
 have hj13:j=13:=by
  rcases Nat.lt_or_ge 12 j with h9 | h9
  ·omega
  have h8:=zB h9
  have h7:=Nat.pow_pos (n:=12-j) (show 0<2 by omega)
  omega
 subst hj13
 exact en (.inl rfl) rfl (iJ (.cons (.one (.sl (trs:=aT (dg 4294967296 (x^(n.toNat/2^(13-13))))) rfl rfl (nK _) (dR _))) (.cons (dY _) .nil))) (by decide) (fun _=>⟨.inl ⟨rfl,jL _⟩,trivial,trivial⟩) (by rw[he,sR,he,if_pos rfl,show n.toNat/2^(13-13)=n.toNat by simp];rfl)
theorem Id {xs ys:List Nat}(hx:xs.length≤1000000) (hy:ys.length≤1000000):aW true Tryd.prog 43 [] [nF xs,nF ys] (bS (.one (tv (.bool (decide (xs=ys)))))):=by
 refine kO Tryd.func43 rfl Tryd.ntmps43 rfl bK rfl fun N9 w9 c0 h0=>?_
 refine sq ?_;refine rl ?_;refine o1 ?_;refine nl ?_;refine sq ?_;refine sq ?_;refine rl ?_;(iterate 5 refine o1 ?_);refine nl ?_;refine dF rfl (fun h1=>?_) (fun h1=>?_)
 ·refine sq ?_;refine rl ?_;refine o1 ?_;refine nl ?_;refine rt ?_;exact pR (.inl rfl) rfl (Eg (by omega))
 refine sk ?_;refine sq ?_;refine sq ?_;refine rl ?_;refine o1 ?_;refine nl ?_;refine bl ?_
 refine lp (γ:=Nat) (fun k=>cT [(0,.one (.t (sU false xs))),(1,.one (.t (sU false ys))),(5,.one (tv (.int .i64 ((k:Nat):Int))))]) (fun k=>([]:List Ob).map some) (fun k=>k≤xs.length∧xs.take k=ys.take k) (fun k=>xs.length-k) 0 ⟨Nat.zero_le _,rfl⟩ (dQ h0 [] _ _ (by decide) ⟨rfl,rfl,rfl,trivial⟩ rfl) fun k hk=>?_
 refine sq ?_;refine sq ?_;refine rl ?_;(iterate 4 refine o1 ?_);refine nl ?_;refine dF rfl (fun h2=>?_) (fun h2=>?_)
 ·refine sk ?_;refine sq ?_;refine bl ?_;refine sq ?_;refine rd [] (fun i=>[].contains i) mixed ?_
  refine dv 0 ?_;refine dv 1 ?_;refine dv 2 ?_;refine Kh 3 ([.v (.int .u32 ((nth xs (k):Nat):Int))]) (yV xs (k:=k) (by omega)) ?_
  refine dv 4 ?_;refine dv 5 ?_;refine dv 6 ?_;refine Kh 7 ([.v (.int .u32 ((nth ys (k):Nat):Int))]) (yV ys (k:=k) (by omega)) ?_
  refine dv 8 ?_;refine Gi ?_;refine dF rfl (fun h3=>?_) (fun h3=>?_)
  ·refine sq ?_;refine rl ?_;refine o1 ?_;refine nl ?_;refine rt ?_;exact pR (.inl rfl) rfl (Eh (k:=k) (by omega))
  refine sk ?_;refine rl ?_;refine o1 ?_;refine o1 ?_;refine WL.cast (t:=16) (u':=.int .i64 ((k+1:Nat):Int)) rfl (bF (by omega)) ?_
  refine o1 ?_;refine nl ?_;exact⟨k+1,by omega,⟨by omega,Av hk.2 (by omega) (by omega) (by omega)⟩,dQ h0 [] _ _ (by decide) ⟨rfl,rfl,rfl,trivial⟩ rfl⟩
 refine ex ?_;refine sq ?_;refine rl ?_;refine o1 ?_;refine nl ?_;refine rt ?_;exact pR (.inl rfl) rfl (Ei (by omega) hk.2 (by omega))
theorem dW {xs ys:List Nat}(hx:xs.length≤1000000) (h:xs=ys):aW true Tryd.prog 43 [] [nF xs,nF ys] (bS (.one (tv (.bool true)))):=by
 subst h
 have h:=Id hx hx
 rw[decide_eq_true rfl]at h
 exact h
theorem Kb {l:List Nat}{V:Nat}(h1:Lim 4294967296 l) (h2:trim l=l) (h3:vl 4294967296 l=V):dg 4294967296 V=l:=by rw[←Bg (by omega) h1 h3,h2]
theorem zC {l:List Nat}(h:dE l=false):tx (aO l)=l:=by
 by_cases h48:l=[48]
 ·subst h48;rfl
 have hd:=nP h
 have h0:nth l 0≠48:=fun e=>by rw[Cc (decide_eq_false h48) e]at h;cases h
 have hne:l≠[]:=fun e=>by rw[Cb (decide_eq_true e)]at h;cases h
 have e1:l=(bI (l.map (· -48)).reverse).reverse:=by
  unfold bI
  rw[←List.map_reverse,List.reverse_reverse,List.map_map]
  refine(List.ext_getElem (by simp) fun i h1 h2=>?_)
  have:=hd l[i] (List.getElem_mem h1)
  simp
  omega
 have hl:Lim 10 (l.map (· -48)).reverse:=fun x hx=>by
  obtain⟨c,hc,rfl⟩:=List.mem_map.1 (List.mem_reverse.1 hx)
  have:=hd c hc
  omega
 have e2:=qF (v:=aO l) hl (by rw[←vD,←e1])
 rw[←e1]at e2
 have e3:l.dropWhile (· ==48)=l:=by
  cases l with
  | nil=>rfl
  | cons c m=>
   have:c≠48:=h0
   rw[List.dropWhile_cons,if_neg (by simpa using this)]
 rw[e3]at e2
 by_cases hv:aO l=0
 ·rw[if_pos hv]at e2
  exact absurd e2 hne
 rw[if_neg hv]at e2
 exact e2.symm
def Kj (l:List Nat) (V:Nat):Bool:=l.all (fun x=>decide (x<4294967296))&&decide (l.length≤1000000)&&decide (vl 4294967296 l=V)
theorem zD {l:List Nat}{V:Nat}(h:Kj l V=true):Nn l V:=by
 simp only[Kj,Bool.and_eq_true,decide_eq_true_eq,List.all_eq_true]at h
 exact⟨h.1.1,h.1.2,h.2⟩
def Kk (l:List (List Nat)):Bool:=l.all fun xs=>xs.all (fun x=>decide (x<4294967296))&&decide (xs.length≤1000)
theorem Mn {l:List (List Nat)}(h:Kk l=true):RL 1000 l:=by
 intro xs hx
 simp only[Kk,List.all_eq_true,Bool.and_eq_true,decide_eq_true_eq]at h
 exact h xs hx
theorem zE {l:List Nat}{V:Nat}(h:(l.all (fun x=>decide (x<4294967296))&&decide (trim l=l)&&decide (vl 4294967296 l=V))=true):dg 4294967296 V=l:=by
 simp only[Bool.and_eq_true,decide_eq_true_eq,List.all_eq_true]at h
 exact Kb h.1.1 h.1.2 h.2
theorem jQ {l:List Nat}{V:Nat}{e:Int}(hl:Lim 256 l) (hn:l.length≤1000000) (hv:lR l=V) (he:gI l=e):aW true Tryd.prog 45 [] [.one (tv (.string (aK l)))] (bS (.tup [nO V,.one (tv (.int .i64 e))])):=hv▸he▸vG hl hn
theorem gJ {x:Nat}{n:Int}{V:Nat}{e:Int}(hx:x<4294967296) (hv:sR x n=V) (he:jX n=e):aW true Tryd.prog 48 [] [.one (tv (.int .u32 ((x:Nat):Int))),.one (tv (.int .i64 n))] (bS (.tup [nO V,.one (tv (.int .i64 e))])):=hv▸he▸Ka hx
theorem Cd {v:Nat}(h:(tx v).length≤4096):gI (tx v)=0∧lR (tx v)=v:=by
 have h1:=Ax (Ed v) (by omega)
 exact⟨h1,by rw[nN h1,Hz]⟩
theorem Ej {l:List Nat}(h:gI l=0):tx (lR l)=l:=by
 have hg:dE l=false:=by
  cases hq:dE l with
  | false=>rfl
  | true=>rw[lL hq]at h;cases h
 rw[nN h,zC hg]
theorem Ek (l:List Nat):(dg 4294967296 (lR l)).length≤l.length:=by
 by_cases h:gI l=0
 ·rw[nN h]
  have hg:dE l=false:=by
   cases hq:dE l with
   | false=>rfl
   | true=>rw[lL hq]at h;cases h
  have h1:=iP (nP hg) (Nat.le_refl _)
  rwa[List.take_of_length_le (Nat.le_refl _)]at h1
 rw[jM h];exact Nat.zero_le _
theorem El {v L:Nat}(h:(dg 4294967296 v).length≤L) (hL:1≤L):(tx v).length≤10*L:=by
 have h1:=kW (B:=4294967296) (n:=v) (by omega)
 have h2:v<10^(10*(dg 4294967296 v).length):=Nat.lt_of_lt_of_le h1 (by rw[Nat.pow_mul];exact Nat.pow_le_pow_left (by omega) _)
 have h3:=aL (B:=10) (by omega) h2
 unfold tx
 split
 ·simp;omega
 rw[List.length_reverse,dI];omega
theorem Ie {l:List (List Nat)}{w:Nat}(hr:RL 1000 l) (hl:l.length≤100) (e:fM l=w):aW true Tryd.prog 42 [] [.one (.t (.s false 22 1 l.length (rT l)))] (bS (nO w)):=e▸Jz hr hl
theorem Kc:((aK (tx 4294967296)).toList==(⟨#[52,50,57,52,57,54,55,50,57,54]⟩:ByteArray).toList)=true:=by
 have h:=zC (l:=[52,50,57,52,57,54,55,50,57,54]) (by decide)
 rw[show aO [52,50,57,52,57,54,55,50,57,54]=4294967296 by decide]at h
 rw[h]
 exact(wD (l:=[52,50,57,52,57,54,55,50,57,54]) (l':=[52,50,57,52,57,54,55,50,57,54]) (fun d hd=>by revert d;decide) (fun d hd=>by revert d;decide)).trans (decide_eq_true rfl)
theorem lM:aW true Tryd.prog 36 [] [] (bS (.one (tv (.bool true)))):=by
 refine kO Tryd.func36 rfl Tryd.ntmps36 rfl bK rfl fun N9 w9 c0 h0=>?_
 refine sq ?_;refine rl ?_;refine o1 ?_;refine nl ?_;refine sq ?_;refine rl ?_;refine bs 0 ?_;refine bs 1 ?_
 refine ca (qI (w:=18446744065119617025) (zD (l:=[4294967295]) (V:=4294967295) (by decide)) (zD (l:=[4294967295]) (V:=4294967295) (by decide)) (by decide)) vZ ⟨dN rfl (.sl (trs:=aT [4294967295]) rfl rfl rfl rfl),dN rfl (.sl (trs:=aT [4294967295]) rfl rfl rfl rfl),rfl⟩ (nF (dg 4294967296 (18446744065119617025))) ?_
 refine o1 ?_;refine nl ?_;refine sq ?_;refine rl ?_;refine bs 2 ?_;refine bs 3 ?_
 refine ca (sQ (q:=6148914691236517205) (r:=1) (zD (l:=[0,0,1]) (V:=18446744073709551616) (by decide)) (zD (l:=[3]) (V:=3) (by decide)) (by decide) (by decide) (by decide)) Gg ⟨dN rfl (.sl (trs:=aT [0,0,1]) rfl rfl rfl rfl),dN rfl (.sl (trs:=aT [3]) rfl rfl rfl rfl),rfl⟩ (.tup [nF (dg 4294967296 (6148914691236517205)),nF (dg 4294967296 (1)),.one (tv (.int .i64 0))]) ?_
 (iterate 7 refine o1 ?_);refine nl ?_;refine sq ?_;refine rl ?_;refine bs 4 ?_;refine bs 5 ?_;refine bs 6 ?_;refine WL.sub (Ca (i:=24) (zs:=[12]) (zs':=[12]) rfl rfl rfl rfl rfl) ?_
 refine WL.sub (Ca (i:=25) (zs:=[18]) (zs':=[18]) rfl rfl rfl rfl rfl) ?_;refine WL.sub (Ca (i:=26) (zs:=[30]) (zs':=[30]) rfl rfl rfl rfl rfl) ?_;refine bs 7 ?_
 refine ca (Ie (l:=[[12],[18],[30]]) (w:=6) (Mn (by decide)) (by decide) (by decide)) Lm ⟨dN rfl (.sl (trs:=rT [[12],[18],[30]]) rfl rfl rfl rfl),rfl⟩ (nF (dg 4294967296 (6))) ?_
 refine o1 ?_;refine nl ?_;refine sq ?_;refine rl ?_
 refine ca (gJ (x:=10) (n:=10) (V:=10000000000) (e:=0) (by decide) (by decide) (by decide)) mD ⟨a1 rfl,a1 rfl,rfl⟩ (.tup [nF (dg 4294967296 (10000000000)),.one (tv (.int .i64 0))]) ?_
 (iterate 5 refine o1 ?_);refine nl ?_;refine sq ?_;refine rl ?_
 refine ca (jQ (l:=[49,48,48,48,48,48,48,48,48,48,48]) (V:=10000000000) (e:=0) (fun x hx=>by revert x;decide) (by decide) (by decide) (by decide)) rS ⟨a1 rfl,rfl⟩ (.tup [nF (dg 4294967296 (10000000000)),.one (tv (.int .i64 0))]) ?_
 (iterate 5 refine o1 ?_);refine nl ?_;refine sq ?_;refine rl ?_
 refine ca (jQ (l:=[48,49]) (V:=0) (e:=60) (fun x hx=>by revert x;decide) (by decide) (by decide) (by decide)) rS ⟨a1 rfl,rfl⟩ (.tup [nF (dg 4294967296 (0)),.one (tv (.int .i64 60))]) ?_
 (iterate 5 refine o1 ?_);refine nl ?_;refine sq ?_;refine rl ?_
 refine ca (jQ (l:=[]) (V:=0) (e:=60) (fun x hx=>by revert x;decide) (by decide) (by decide) (by decide)) rS ⟨a1 rfl,rfl⟩ (.tup [nF (dg 4294967296 (0)),.one (tv (.int .i64 60))]) ?_
 (iterate 5 refine o1 ?_);refine nl ?_;refine sq ?_;refine rl ?_;refine o1 ?_;refine bs 8 ?_
 refine ca (dW (xs:=(dg 4294967296 (18446744065119617025))) (ys:=[1,4294967294]) (Nat.le_trans (aL (k:=100) (by omega) (by decide)) (by omega)) (zE (l:=[1,4294967294]) (V:=18446744065119617025) (by decide))) jI ⟨a1 rfl,dN rfl (.sl (trs:=aT [1,4294967294]) rfl rfl rfl rfl),rfl⟩ (.one (tv (.bool true))) ?_
 (iterate 3 refine o1 ?_);refine WL.cast (t:=50) (u':=.bool true) rfl (congrArg Value.bool (decide_eq_true rfl)) ?_;(iterate 3 refine o1 ?_);refine bs 9 ?_
 refine ca (dW (xs:=(dg 4294967296 (6148914691236517205))) (ys:=[1431655765,1431655765]) (Nat.le_trans (aL (k:=100) (by omega) (by decide)) (by omega)) (zE (l:=[1431655765,1431655765]) (V:=6148914691236517205) (by decide))) jI ⟨a1 rfl,dN rfl (.sl (trs:=aT [1431655765,1431655765]) rfl rfl rfl rfl),rfl⟩ (.one (tv (.bool true))) ?_
 (iterate 3 refine o1 ?_);refine bs 10 ?_
 refine ca (dW (xs:=(dg 4294967296 (1))) (ys:=[1]) (Nat.le_trans (aL (k:=100) (by omega) (by decide)) (by omega)) (zE (l:=[1]) (V:=1) (by decide))) jI ⟨a1 rfl,dN rfl (.sl (trs:=aT [1]) rfl rfl rfl rfl),rfl⟩ (.one (tv (.bool true))) ?_
 (iterate 3 refine o1 ?_);refine bs 11 ?_
 refine ca (dW (xs:=(dg 4294967296 (6))) (ys:=[6]) (Nat.le_trans (aL (k:=100) (by omega) (by decide)) (by omega)) (zE (l:=[6]) (V:=6) (by decide))) jI ⟨a1 rfl,dN rfl (.sl (trs:=aT [6]) rfl rfl rfl rfl),rfl⟩ (.one (tv (.bool true))) ?_
 (iterate 4 refine o1 ?_);refine WL.cast (t:=69) (u':=.bool true) rfl (congrArg Value.bool (decide_eq_true rfl)) ?_;(iterate 3 refine o1 ?_);refine bs 12 ?_
 refine ca (dW (xs:=(dg 4294967296 (10000000000))) (ys:=[1410065408,2]) (Nat.le_trans (aL (k:=100) (by omega) (by decide)) (by omega)) (zE (l:=[1410065408,2]) (V:=10000000000) (by decide))) jI ⟨a1 rfl,dN rfl (.sl (trs:=aT [1410065408,2]) rfl rfl rfl rfl),rfl⟩ (.one (tv (.bool true))) ?_
 (iterate 4 refine o1 ?_);refine WL.cast (t:=78) (u':=.bool true) rfl (congrArg Value.bool (decide_eq_true rfl)) ?_;(iterate 4 refine o1 ?_)
 refine ca (dW (xs:=(dg 4294967296 (10000000000))) (ys:=(dg 4294967296 (10000000000))) (Nat.le_trans (aL (k:=100) (by omega) (by decide)) (by omega)) rfl) jI ⟨a1 rfl,a1 rfl,rfl⟩ (.one (tv (.bool true))) ?_
 (iterate 4 refine o1 ?_);refine WL.cast (t:=87) (u':=.bool true) rfl (congrArg Value.bool (decide_eq_true rfl)) ?_;(iterate 4 refine o1 ?_)
 refine WL.cast (t:=91) (u':=.bool true) rfl (congrArg Value.bool (decide_eq_true rfl)) ?_;refine o1 ?_;refine o1 ?_;refine bs 13 ?_
 refine ca (wV (zD (l:=[0,1]) (V:=4294967296) (by decide))) Aj ⟨dN rfl (.sl (trs:=aT [0,1]) rfl rfl rfl rfl),rfl⟩ (.one (tv (.string (aK (tx 4294967296))))) ?_
 refine o1 ?_;refine WL.cast (t:=96) (u':=.bool true) rfl (congrArg Value.bool Kc) ?_;refine o1 ?_;refine o1 ?_;refine nl ?_;refine rt ?_;exact pR (.inl rfl) rfl (rfl)
theorem eC {x p:Nat}(h:p≤4096):sR x ((p:Nat):Int)=x^p∧jX ((p:Nat):Int)=0:=by
 have he:jX ((p:Nat):Int)=0:=by unfold jX;rw[if_neg (by omega),if_neg (by omega)]
 exact⟨by rw[sR,if_pos he,Int.toNat_natCast],he⟩
theorem zG {xs l:List Nat}{x p q:Nat}(hxs:Lim 4294967296 xs) (hl:Lim 256 l) (hx:x<4294967296) (hp:p<256) (hq:q<256):aW true Tryd.prog 6 [] [nF xs,.one (tv (.string (aK l))),.one (tv (.int .u32 ((x:Nat):Int))),.one (tv (.int .u8 ((p:Nat):Int))),.one (tv (.int .u8 ((q:Nat):Int)))] (bS (.one (tv (.bool true)))):=by
 refine kO Tryd.func6 rfl Tryd.ntmps6 rfl bK rfl fun N9 w9 c0 h0=>?_
 refine sq ?_;refine rl ?_;refine o1 ?_;refine nl ?_;refine sq ?_;refine sq ?_;refine rl ?_;(iterate 4 refine o1 ?_);refine WL.split (t:=24) rfl (fun h1=>?_) (fun h1=>?_)
 ·(iterate 3 refine rV ?_);refine o1 ?_;refine nl ?_;refine Bp rfl ?_;refine sq ?_;refine rl ?_;refine ca (lM) vY rfl (.one (tv (.bool true))) ?_;refine o1 ?_;refine nl ?_
  refine rt ?_;exact pR (.inl rfl) rfl (rfl)
 refine o1 ?_;refine o1 ?_;refine WL.cast (t:=26) (u':=.int .i64 ((l.length:Nat):Int)) rfl (congrArg (fun n:Nat=>Value.int .i64 (n:Int)) (bB _)) ?_
 refine o1 ?_;refine o1 ?_;refine nl ?_;refine dF rfl (fun h2=>?_) (fun h2=>?_)
 ·refine sq ?_;refine rl ?_;refine ca (lM) vY rfl (.one (tv (.bool true))) ?_;refine o1 ?_;refine nl ?_;refine rt ?_;exact pR (.inl rfl) rfl (rfl)
 refine sk ?_;refine sq ?_;obtain⟨u,hu⟩:∃u,vl 4294967296 xs=u:=⟨_,rfl⟩
 have hN:Nn xs u:=⟨hxs,by omega,hu⟩
 have hul:(dg 4294967296 u).length≤100:=Nn.len hN (by omega)
 have htl:=El hul (by omega)
 have hpl:=Ek l
 have hp1:=iQ (m:=p) hx
 have hp2:=iQ (m:=q%45) hx
 have hp3:=iQ (m:=p+q%45) hx
 refine rl ?_;refine o1 ?_;refine ca (wV hN) Aj ⟨a1 rfl,rfl⟩ (.one (tv (.string (aK (tx u))))) ?_
 refine ca (jQ (l:=tx u) (V:=u) (e:=0) (Gz u) (by omega) (Cd (by omega)).2 (Cd (by omega)).1) rS ⟨a1 rfl,rfl⟩ (.tup [nF (dg 4294967296 (u)),.one (tv (.int .i64 0))]) ?_
 (iterate 5 refine o1 ?_);refine nl ?_;refine sq ?_;refine sq ?_;refine rl ?_;refine o1 ?_;refine o1 ?_
 refine WL.cast (t:=37) (u':=.bool false) rfl (congrArg Value.bool (decide_eq_false fun h=>h rfl)) ?_
 (iterate 3 refine o1 ?_);refine ca (zA hN) Ak ⟨a1 rfl,rfl⟩ (nF (dg 4294967296 (u))) ?_
 refine ca (dW (xs:=(dg 4294967296 (u))) (ys:=(dg 4294967296 (u))) (by omega) rfl) jI ⟨a1 rfl,a1 rfl,rfl⟩ (.one (tv (.bool true))) ?_
 refine o1 ?_;refine o1 ?_;refine nl ?_;refine rF rfl ?_;refine sk ?_;refine sq ?_;refine rl ?_;refine o1 ?_
 refine ca (vG hl (by omega)) rS ⟨a1 rfl,rfl⟩ (.tup [nF (dg 4294967296 (lR l)),.one (tv (.int .i64 (gI l)))]) ?_
 (iterate 5 refine o1 ?_);refine nl ?_;refine sq ?_;refine sq ?_;refine rl ?_;(iterate 3 refine o1 ?_);refine WL.split (t:=52) rfl (fun h3=>?_) (fun h3=>?_)
 ·refine o1 ?_;refine ca (wV (Nn.of (u:=lR l) (by omega))) Aj ⟨a1 rfl,rfl⟩ (.one (tv (.string (aK (tx (lR l)))))) ?_
  refine o1 ?_;refine o1 ?_
  refine WL.cast (t:=56) (u':=.bool false) rfl (congrArg Value.bool (congrArg not ((congrArg (fun m:List Nat=>((aK m).toList==(aK l).toList)) (Ej h3)).trans (beq_self_eq_true _)))) ?_
  refine o1 ?_;refine nl ?_;refine rF rfl ?_;refine sk ?_;refine sq ?_;refine rl ?_;(iterate 3 refine o1 ?_)
  refine WL.cast (t:=61) (u':=.int .i64 ((p:Nat):Int)) rfl (bF (by omega)) ?_
  refine ca (gJ (x:=x) (n:=((p:Nat):Int)) (V:=x^(p)) (e:=0) hx (eC (x:=x) (by omega)).1 (eC (x:=x) (by omega)).2) mD ⟨a1 rfl,a1 rfl,rfl⟩ (.tup [nF (dg 4294967296 (x^(p))),.one (tv (.int .i64 0))]) ?_
  (iterate 5 refine o1 ?_);refine nl ?_;refine sq ?_;refine rl ?_;(iterate 3 refine o1 ?_);refine WL.cast (t:=68) (u':=.int .i64 ((q:Nat):Int)) rfl (bF (by omega)) ?_
  refine o1 ?_;refine WL.cast (t:=69) (u':=.int .i64 ((q%45:Nat):Int)) rfl (bF (eW _ 45)) ?_
  refine ca (gJ (x:=x) (n:=((q%45:Nat):Int)) (V:=x^(q%45)) (e:=0) hx (eC (x:=x) (by omega)).1 (eC (x:=x) (by omega)).2) mD ⟨a1 rfl,a1 rfl,rfl⟩ (.tup [nF (dg 4294967296 (x^(q%45))),.one (tv (.int .i64 0))]) ?_
  (iterate 5 refine o1 ?_);refine nl ?_;refine sq ?_;refine rl ?_;(iterate 3 refine o1 ?_);refine WL.cast (t:=76) (u':=.int .i64 ((p:Nat):Int)) rfl (bF (by omega)) ?_
  refine o1 ?_;refine o1 ?_;refine WL.cast (t:=78) (u':=.int .i64 ((q:Nat):Int)) rfl (bF (by omega)) ?_
  refine o1 ?_;refine WL.cast (t:=79) (u':=.int .i64 ((q%45:Nat):Int)) rfl (bF (eW _ 45)) ?_;refine o1 ?_
  refine WL.cast (t:=80) (u':=.int .i64 ((p+(q%45):Nat):Int)) rfl (bF (by omega)) ?_
  refine ca (gJ (x:=x) (n:=((p+(q%45):Nat):Int)) (V:=x^(p+(q%45))) (e:=0) hx (eC (x:=x) (by omega)).1 (eC (x:=x) (by omega)).2) mD ⟨a1 rfl,a1 rfl,rfl⟩ (.tup [nF (dg 4294967296 (x^(p+(q%45)))),.one (tv (.int .i64 0))]) ?_
  (iterate 5 refine o1 ?_);refine nl ?_;refine sq ?_;refine rl ?_;refine o1 ?_;refine o1 ?_;refine WL.cast (t:=85) (u':=.bool true) rfl (congrArg Value.bool (decide_eq_true rfl)) ?_
  (iterate 3 refine o1 ?_);refine WL.cast (t:=88) (u':=.bool true) rfl (congrArg Value.bool (decide_eq_true rfl)) ?_;(iterate 4 refine o1 ?_)
  refine WL.cast (t:=92) (u':=.bool true) rfl (congrArg Value.bool (decide_eq_true rfl)) ?_;(iterate 4 refine o1 ?_)
  refine ca (qI (w:=x^(p+(q%45))) (Nn.of (u:=x^(p)) (by omega)) (Nn.of (u:=x^(q%45)) (by omega)) (Nat.pow_add _ _ _).symm) vZ ⟨a1 rfl,a1 rfl,rfl⟩ (nF (dg 4294967296 (x^(p+(q%45))))) ?_
  refine o1 ?_;refine ca (dW (xs:=(dg 4294967296 (x^(p+(q%45))))) (ys:=(dg 4294967296 (x^(p+(q%45))))) (by omega) rfl) jI ⟨a1 rfl,a1 rfl,rfl⟩ (.one (tv (.bool true))) ?_
  refine o1 ?_;refine o1 ?_;refine ca (lM) vY rfl (.one (tv (.bool true))) ?_;refine o1 ?_;refine o1 ?_;refine nl ?_;refine rt ?_;exact pR (.inl rfl) rfl (rfl)
 (iterate 4 refine rV ?_);refine o1 ?_;refine nl ?_;refine rF rfl ?_;refine sk ?_;refine sq ?_;refine rl ?_;(iterate 3 refine o1 ?_)
 refine WL.cast (t:=61) (u':=.int .i64 ((p:Nat):Int)) rfl (bF (by omega)) ?_
 refine ca (gJ (x:=x) (n:=((p:Nat):Int)) (V:=x^(p)) (e:=0) hx (eC (x:=x) (by omega)).1 (eC (x:=x) (by omega)).2) mD ⟨a1 rfl,a1 rfl,rfl⟩ (.tup [nF (dg 4294967296 (x^(p))),.one (tv (.int .i64 0))]) ?_
 (iterate 5 refine o1 ?_);refine nl ?_;refine sq ?_;refine rl ?_;(iterate 3 refine o1 ?_);refine WL.cast (t:=68) (u':=.int .i64 ((q:Nat):Int)) rfl (bF (by omega)) ?_
 refine o1 ?_;refine WL.cast (t:=69) (u':=.int .i64 ((q%45:Nat):Int)) rfl (bF (eW _ 45)) ?_
 refine ca (gJ (x:=x) (n:=((q%45:Nat):Int)) (V:=x^(q%45)) (e:=0) hx (eC (x:=x) (by omega)).1 (eC (x:=x) (by omega)).2) mD ⟨a1 rfl,a1 rfl,rfl⟩ (.tup [nF (dg 4294967296 (x^(q%45))),.one (tv (.int .i64 0))]) ?_
 (iterate 5 refine o1 ?_);refine nl ?_;refine sq ?_;refine rl ?_;(iterate 3 refine o1 ?_);refine WL.cast (t:=76) (u':=.int .i64 ((p:Nat):Int)) rfl (bF (by omega)) ?_
 refine o1 ?_;refine o1 ?_;refine WL.cast (t:=78) (u':=.int .i64 ((q:Nat):Int)) rfl (bF (by omega)) ?_
 refine o1 ?_;refine WL.cast (t:=79) (u':=.int .i64 ((q%45:Nat):Int)) rfl (bF (eW _ 45)) ?_;refine o1 ?_
 refine WL.cast (t:=80) (u':=.int .i64 ((p+(q%45):Nat):Int)) rfl (bF (by omega)) ?_
 refine ca (gJ (x:=x) (n:=((p+(q%45):Nat):Int)) (V:=x^(p+(q%45))) (e:=0) hx (eC (x:=x) (by omega)).1 (eC (x:=x) (by omega)).2) mD ⟨a1 rfl,a1 rfl,rfl⟩ (.tup [nF (dg 4294967296 (x^(p+(q%45)))),.one (tv (.int .i64 0))]) ?_
 (iterate 5 refine o1 ?_);refine nl ?_;refine sq ?_;refine rl ?_;refine o1 ?_;refine o1 ?_;refine WL.cast (t:=85) (u':=.bool true) rfl (congrArg Value.bool (decide_eq_true rfl)) ?_
 (iterate 3 refine o1 ?_);refine WL.cast (t:=88) (u':=.bool true) rfl (congrArg Value.bool (decide_eq_true rfl)) ?_;(iterate 4 refine o1 ?_)
 refine WL.cast (t:=92) (u':=.bool true) rfl (congrArg Value.bool (decide_eq_true rfl)) ?_;(iterate 4 refine o1 ?_)
 refine ca (qI (w:=x^(p+(q%45))) (Nn.of (u:=x^(p)) (by omega)) (Nn.of (u:=x^(q%45)) (by omega)) (Nat.pow_add _ _ _).symm) vZ ⟨a1 rfl,a1 rfl,rfl⟩ (nF (dg 4294967296 (x^(p+(q%45))))) ?_
 refine o1 ?_;refine ca (dW (xs:=(dg 4294967296 (x^(p+(q%45))))) (ys:=(dg 4294967296 (x^(p+(q%45))))) (by omega) rfl) jI ⟨a1 rfl,a1 rfl,rfl⟩ (.one (tv (.bool true))) ?_
 refine o1 ?_;refine o1 ?_;refine ca (lM) vY rfl (.one (tv (.bool true))) ?_;refine o1 ?_;refine o1 ?_;refine nl ?_;refine rt ?_;exact pR (.inl rfl) rfl (rfl)
end Go.Proofs.YteggpgndiajdpaaDoor
namespace Go.Proofs.YteggpgndiajdpaaDoor
open Go Go.RowKit Go.ChangeShapes
def Reads (P:Program) (t:TypeId) (z:Nat) (T:List Tr→Prop):Prop:=
 P.cellsOf t=z∧∀(H:Type) (enc:TypeId×Value→H) (w:World) (fuel:Nat) (cs:List Value) (x:DataW H×List MemPlace),DataW.trod enc P w 0 (fun _=>true) true fuel t cs=some x→∃l,T l∧l.length=z∧FRL w (pQ w) l cs
theorem vJ {W:World}{N:Nat→Prop}:∀{l l':List Tr}{us us':List Value},FRL W N l us→FRL W N l' us'→FRL W N (l++l') (us++us')
 | [],l',us,us',h,h'=>by simp only[FRL]at h;subst h;exact h'
 | x::l,l',u::us,us',h,h'=>by simp only[FRL,List.cons_append]at*;exact⟨h.1,vJ h.2 h'⟩
 | _::_,_,[],_,h,_=>by simp only[FRL]at h
theorem vK {W:World}{N:Nat→Prop}:∀{l:List Tr}{us:List Value}{j:Nat}{x:Tr},FRL W N l us→l[j]? =some x→∃u,us[j]? =some u∧FR W N x u
 | [],_,_,_,_,h=>by simp at h
 | y::l,u::us,0,x,h,e=>by
  simp only[FRL]at h
  simp at e
  subst e
  exact⟨u,rfl,h.1⟩
 | y::l,u::us,j+1,x,h,e=>by
  simp only[FRL]at h
  exact vK (j:=j) h.2 (by simpa using e)
 | _::_,[],_,_,h,_=>by simp only[FRL]at h
section
variable {P:Program}{t e:TypeId}{k:IntKind}{z:Nat}{T T':List Tr→Prop}
theorem Reads.mono (h:Reads P t z T) (hi:∀l,T l→T' l):Reads P t z T':=⟨h.1,fun H enc w fuel cs x hx=>let ⟨l,a,b⟩:=h.2 H enc w fuel cs x hx;⟨l,hi l a,b⟩⟩
theorem sT (ht:P.underlying t=some (.int k)) (hz:P.cellsOf t=1):Reads P t 1 (fun l=>∃n,l=[.v (.int k n)]∧k.min≤n∧n≤k.max):=⟨hz,fun H enc w fuel cs x hx=>by
 obtain⟨n,rfl,_,h⟩:=DataW.trod_int ht hx
 simp only[Lit.wf,Bool.and_eq_true,decide_eq_true_eq]at h
 exact⟨_,⟨n,rfl,h⟩,rfl,by simp[FRL,FR]⟩⟩
inductive Flds (P:Program):Nat→List Field→Nat→(List Tr→Prop)→Prop
 | nil {o:Nat}:Flds P o [] 0 (· =[])
 | cons {o z z':Nat}{f:Field}{fs:List Field}{T T':List Tr→Prop}(ho:f.offset=o) (h:Reads P f.type z T) (h':Flds P (o+z) fs z' T'):Flds P o (f::fs) (z+z') (fun l=>∃a b,l=a++b∧T a∧T' b)
theorem Flds.read {H:Type}{enc:TypeId×Value→H}{w:World}{n o:Nat}{fs:List Field}(h:Flds P o fs z T):∀{cs:List Value},o+z≤cs.length→(∀f∈fs,∃x,DataW.trod enc P w 0 (fun _=>true) true n f.type ((cs.drop f.offset).take (P.cellsOf f.type))=some x)→∃l,T l∧l.length=z∧FRL w (pQ w) l ((cs.drop o).take z):=by
 induction h with
 | nil=>exact fun _ _=>⟨[],rfl,rfl,by simp[FRL]⟩
 | @cons o z z' f fs T T' ho hr _ ih=>
  intro cs hl hf
  obtain⟨b,h1,h2,h3⟩:=ih (cs:=cs) (by omega) fun f hm=>hf f (List.mem_cons_of_mem _ hm)
  obtain⟨x,hx⟩:=hf f List.mem_cons_self
  obtain⟨a,g1,g2,g3⟩:=hr.2 H enc w n _ x hx
  rw[ho,hr.1]at g3
  refine⟨a++b,⟨a,b,rfl,g1,h1⟩,by simp[g2,h2],?_⟩
  rw[List.take_add,List.drop_drop]
  exact vJ g3 h3
theorem Bb (ht:P.underlying t=some (.slice e)) (hz:P.cellsOf t=1) (hz0:0<z) (h:Reads P e z T):Reads P t 1 (fun l=>∃rows:List (List Tr),(∀r∈rows,T r∧r.length=z)∧l=[.s false e z rows.length rows.flatten]):=⟨hz,fun H enc w fuel cs x hx=>by
 have hlen:∀(rows:List (List Tr)),(∀r∈rows,T r∧r.length=z)→rows.flatten.length=rows.length*z:=by
  intro rows
  induction rows with
  | nil=>intro _;simp
  | cons r rows ih=>
   intro hr
   rw[List.flatten_cons,List.length_append,(hr r List.mem_cons_self).2,ih fun r hm=>hr r (List.mem_cons_of_mem _ hm),List.length_cons,Nat.succ_mul,Nat.add_comm]
 rcases Deep.open_slice ht hx with⟨rfl,_⟩ | ⟨a,len,cap,m,n,D,Pl,rfl,_,hl,hm,hmm,_,hel⟩
 ·refine⟨_,⟨[],fun _ h=>(by cases h),rfl⟩,rfl,?_⟩
  simp only[FRL,FR,and_true]
  exact⟨none,0,rfl,Nat.le_refl _,by omega,by simp,.inl rfl⟩
 have hmc:m=cap:=by simpa using hmm
 rw[h.1]at hel
 have hex:∀i:Nat,∃l:List Tr,i<len→T l∧l.length=z∧∀j y,l[j]? =some y→∃u,w.cell? ((a.add (i*z)).add j)=some u∧FR w (pQ w) y u:=fun i=>by
  by_cases hi:i<len
  ·obtain⟨cs',h1,h2⟩:=hel i (by omega)
   obtain⟨l,g1,g2,g3⟩:=h.2 H enc w n cs' _ h2
   obtain⟨_,h3,h4⟩:=World.cells?_some h1
   refine⟨l,fun _=>⟨g1,g2,fun j y hj=>?_⟩⟩
   obtain⟨u,hu,hy⟩:=vK g3 hj
   have hjl:=(List.getElem?_eq_some_iff.1 hj).1
   exact⟨u,by rw[h4 j (by omega),hu],hy⟩
  exact⟨[],fun h=>absurd h hi⟩
 have hF:=fun i=>Classical.choose_spec (hex i)
 have hrow:∀r∈(List.range len).map (fun i=>Classical.choose (hex i)),T r∧r.length=z:=fun r hr=>by
  obtain⟨i,hi,rfl⟩:=List.mem_map.1 hr
  have:=hF i (List.mem_range.1 hi)
  exact⟨this.1,this.2.1⟩
 refine⟨_,⟨_,hrow,rfl⟩,rfl,?_⟩
 have h5:=hlen _ hrow
 simp only[FRL,and_true,FR]
 refine⟨some a,cap,by simp,by simpa using hl,by unfold maxLen at hm;omega,h5,?_⟩
 rcases Nat.eq_zero_or_pos len with h0 | h0
 ·exact .inl (by simp[h0])
 refine .inr ⟨a,rfl,?_,kB fun j y hj=>?_⟩
 ·obtain⟨_,g2,g3⟩:=hF 0 h0
  obtain⟨u,hu,_⟩:=g3 0 _ (List.getElem?_eq_getElem (by omega))
  have:=World.block_lt_of_cell? w ((a.add (0*z)).add 0) hu
  rwa[cG,cG]at this
 have hjl:=(List.getElem?_eq_some_iff.1 hj).1
 rw[h5,List.length_map,List.length_range]at hjl
 have hi:j/z<len:=Nat.div_lt_of_lt_mul (by rw[Nat.mul_comm];exact hjl)
 obtain⟨_,g2,g3⟩:=hF (j/z) hi
 have hz1:=Nat.mod_lt j hz0
 have hget:∀(rows:List (List Tr)),(∀r∈rows,T r∧r.length=z)→∀(i o:Nat) (r:List Tr),rows[i]? =some r→o<z→rows.flatten[i*z+o]? =r[o]? :=by
  intro rows
  induction rows with
  | nil=>intro _ i o r h;simp at h
  | cons r rows ih=>
   intro hr i o r' hi ho
   have hrl:=(hr r List.mem_cons_self).2
   cases i with
   | zero=>
    simp at hi
    subst hi
    rw[Nat.zero_mul,Nat.zero_add,List.flatten_cons,List.getElem?_append_left (by omega)]
   | succ i=>
    rw[List.flatten_cons,List.getElem?_append_right (by rw[Nat.succ_mul];omega),hrl,show(i+1)*z+o-z=i*z+o by rw[Nat.succ_mul];omega]
    exact ih (fun r hm=>hr r (List.mem_cons_of_mem _ hm)) i o r' (by simpa using hi) ho
 have hd:=Nat.div_add_mod j z
 rw[Nat.mul_comm]at hd
 rw[←hd,hget _ hrow (j/z) (j%z) (Classical.choose (hex (j/z))) (by simp[hi]) hz1]at hj
 obtain⟨u,hu,hy⟩:=g3 _ _ hj
 refine⟨u,?_,hy⟩
 rw[Nat.zero_add]
 have e2:(a.add (j/z*z)).add (j%z)=a.add j:=by rw[hJ,hd]
 rwa[e2]at hu⟩
theorem vL {α:Type}(f:α→List Tr) (Q:α→Prop):∀{rows:List (List Tr)},(∀r∈rows,∃a,Q a∧r=f a)→∃xs:List α,(∀a∈xs,Q a)∧rows.flatten=xs.flatMap f∧rows.length=xs.length
 | [],_=>⟨[],fun _ h=>(by cases h),rfl,rfl⟩
 | r::rows,h=>by
  obtain⟨a,h1,rfl⟩:=h r List.mem_cons_self
  obtain⟨xs,h2,h3,h4⟩:=vL f Q fun r hm=>h r (List.mem_cons_of_mem _ hm)
  exact⟨a::xs,fun b hb=>(List.mem_cons.1 hb).elim (fun e=>e▸h1) (h2 b),by simp[h3],by simp[h4]⟩
theorem Bc (ht:P.underlying t=some (.slice e)) (he:P.underlying e=some (.int .u32)) (hz:P.cellsOf t=1) (hze:P.cellsOf e=1) (hn:e=64):Reads P t 1 (fun l=>∃xs:List Nat,Lim 4294967296 xs∧l=[sU false xs]):=
 (Bb ht hz (by omega) (sT he hze)).mono fun l ⟨rows,h1,h2⟩=>by
  obtain⟨xs,h3,h4,h5⟩:=vL (fun n:Nat=>[Tr.v (.int .u32 (n:Int))]) (fun n=>n<4294967296) (rows:=rows) fun r hr=>by
   obtain⟨⟨n,rfl,h1,h2⟩,_⟩:=h1 r hr
   have e1:IntKind.u32.min=0:=rfl
   have e2:IntKind.u32.max=4294967295:=rfl
   rw[e1]at h1
   rw[e2]at h2
   exact⟨n.toNat,by omega,by rw[Int.toNat_of_nonneg h1]⟩
  refine⟨xs,h3,?_⟩
  rw[h2,h4,h5,sU,hn]
  have:∀xs:List Nat,xs.flatMap (fun n:Nat=>[Tr.v (.int .u32 (n:Int))])=aT xs:=by
   intro xs
   induction xs with
   | nil=>rfl
   | cons n xs ih=>rw[List.flatMap_cons,ih];rfl
  rw[this]
end
def LimF (a:Fr4):Prop:=Lim 4294967296 a.x∧Lim 4294967296 a.y
theorem LimF.ok {a:Fr4}(h:LimF a) (h2:a.x.length≤6∧a.y.length≤6):a.ok:=⟨h.1,h.2,by omega,by omega⟩
end Go.Proofs.YteggpgndiajdpaaDoor
namespace Go.Proofs.YteggpgndiajdpaaDoor
open Go Go.ChangeShapes Go.WideShapes Go.ChangeAt Go.RowKit
theorem zH:Tryd.prog.cellsOf 64=1:=by kernel_rfl
theorem Bd:Tryd.prog.cellsOf 22=1:=by kernel_rfl
theorem kU {W:World}{y:Tr}{u:Value}(hu:u.cells.toList=[u]) (h:FRL W (pQ W) [y] u.cells.toList):aI W (pQ W) [] (.one (.t y)) u:=by
 rw[hu]at h
 simp only[FRL,and_true]at h
 simpa only[aI,AR]using h
theorem Em:Tryd.prog.cellsOf 9=1:=by kernel_rfl
theorem If:Tryd.prog.cellsOf 5=1:=by kernel_rfl
theorem En:Reads Tryd.prog 9 1 (fun l=>∃xs:List Nat,Lim 256 xs∧l=[.v (.string (aK xs))]):=⟨Em,fun H enc w fuel cs x hx=>by
 obtain⟨s,rfl,_,h⟩:=DataW.trod_string Tryd.underlying9 hx
 obtain⟨e,hl⟩:=Ji s
 exact⟨_,⟨_,hl,rfl⟩,rfl,by rw[←e];simp[FRL,FR]⟩⟩
theorem Ig:Reads Tryd.prog 22 1 (fun l=>∃xs:List Nat,Lim 4294967296 xs∧l=[sU false xs]):=Bc Tryd.underlying22 Tryd.underlying64 Bd zH rfl
theorem Ih:Reads Tryd.prog 64 1 (fun l=>∃n:Nat,n<4294967296∧l=[.v (.int .u32 (n:Int))]):=(sT Tryd.underlying64 zH).mono fun l ⟨n,h1,h2,h3⟩=>by
 have e1:IntKind.u32.min=0:=rfl
 have e2:IntKind.u32.max=4294967295:=rfl
 rw[e1]at h2
 rw[e2]at h3
 exact⟨n.toNat,by omega,by rw[h1,Int.toNat_of_nonneg h2]⟩
theorem Ce:Reads Tryd.prog 5 1 (fun l=>∃n:Nat,n<256∧l=[.v (.int .u8 (n:Int))]):=(sT Tryd.underlying5 If).mono fun l ⟨n,h1,h2,h3⟩=>by
 have e1:IntKind.u8.min=0:=rfl
 have e2:IntKind.u8.max=255:=rfl
 rw[e1]at h2
 rw[e2]at h3
 exact⟨n.toNat,by omega,by rw[h1,Int.toNat_of_nonneg h2]⟩
end Go.Proofs.YteggpgndiajdpaaDoor
