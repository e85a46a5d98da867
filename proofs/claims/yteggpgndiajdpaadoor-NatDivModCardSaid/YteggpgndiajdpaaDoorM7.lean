/- Part 7 of a proof: Th to Rib5. -/
import Derived.Test.YteggpgndiajdpaaDoorM6
import Derived.Test.YteggpgndiajdpaaDoorM5
import Derived.Test.YteggpgndiajdpaaDoorM4
import Derived.ProofKit
import Derived.ChangeOld
import Derived.Deep.Slices
import Derived.Deep.Strs
import Derived.WalkKit
import Derived.OpenShut
import Derived.Below
import Derived.Carry
set_option maxRecDepth 100000
set_option linter.unusedVariables false
set_option linter.unusedSimpArgs false
namespace Go.Proofs.YteggpgndiajdpaaDoor
open Go Go.RowKit
def Nn (xs:List Nat) (u:Nat):Prop:=Lim 4294967296 xs∧xs.length≤1000000∧vl 4294967296 xs=u
theorem Nn.of {u:Nat}(h:(dg 4294967296 u).length≤1000000):Nn (dg 4294967296 u) u:=⟨bH (by omega) _,h,bK (by omega) _⟩
theorem Nn.eqT {xs:List Nat}{u:Nat}(h:Nn xs u):dg 4294967296 u=trim xs:=by rw[←h.2.2,cY (by omega) h.1]
theorem Nn.len {xs:List Nat}{u L:Nat}(h:Nn xs u) (hL:xs.length≤L):(dg 4294967296 u).length≤L:=by rw[h.eqT];exact Nat.le_trans (bN _) hL
section
variable {xs ys:List Nat}{u v w q r:Nat}
abbrev nF (xs:List Nat):FV:=.one (.t (sU false xs))
abbrev nO (u:Nat):FV:=.one (.t (sU true (dg 4294967296 u)))
theorem Dz (hx:Nn xs u) (hy:Nn ys v) (e:u*v=w):aO true Tryd.prog 49 [] [nF xs,nF ys] (bJ (nO w)):=by
 obtain⟨a,b,rfl⟩:=hx
 obtain⟨c,d,rfl⟩:=hy
 exact e▸Lu a c (by omega) (by omega)
theorem Jt (hx:Nn xs u):aO true Tryd.prog 47 [] [nF xs] (bJ (nO u)):=vX hx.1 (Nat.le_trans hx.2.1 (by omega)) hx.2.2
theorem xW {m:Nat}(hx:Nn xs u) (hm:m<4294967296) (e:u*m=w):aO true Tryd.prog 87 [] [nF xs,.one (tv (.int .u32 (m:Int)))] (bJ (nO w)):=by
 obtain⟨a,b,rfl⟩:=hx
 exact e▸oH a (by omega) hm
theorem mY (hx:Nn xs u) (hy:Nn ys v) (h0:v≠0) (hq:u/v=q) (hr:u%v=r):aO true Tryd.prog 40 [] [nF xs,nF ys] (bJ (.tup [nO q,nO r,.one (tv (.int .i64 0))])):=by
 obtain⟨a,b,rfl⟩:=hx
 obtain⟨c,d,rfl⟩:=hy
 subst hq hr
 exact Cn a c (by omega) (by omega) h0
theorem Ak (hx:Nn xs u) (hy:Nn ys 0):aO true Tryd.prog 40 [] [nF xs,nF ys] (bJ (.tup [nO 0,nO 0,.one (tv (.int .i64 20))])):=Aj hx.1 hy.1 (Nat.le_trans hx.2.1 (by omega)) (Nat.le_trans hy.2.1 (by omega)) hy.2.2
theorem Ly (hx:Nn xs u):aO true Tryd.prog 46 [] [nF xs] (bJ (.one (tv (.string (aT (tx u)))))):=Lx hx.2.1 hx.1 hx.2.2
end
def rT (l:List (List Nat)):List Tr:=l.map (sU false)
def cN (l:List (List Nat)) (k:Nat):List Nat:=l.getD k []
theorem xX:∀(l:List (List Nat)){k:Nat},k<l.length→((rT l).drop (k*1)).take [sU false (cN l k)].length=[sU false (cN l k)]
 | [],_,h=>by simp at h
 | _::_,0,_=>rfl
 | _::l,k+1,h=>by
  have:=xX l (k:=k) (by simpa using h)
  simp only[Nat.mul_one]at this⊢
  exact this
theorem fI {l:List (List Nat)}{k:Nat}(h:k<l.length):cN l k∈l:=by
 unfold cN
 rw[List.getD_eq_getElem?_getD,List.getElem?_eq_getElem h]
 exact List.getElem_mem h
theorem tH {l:List (List Nat)}{k:Nat}(h:k<l.length):l[k]? =some (cN l k):=by simp[cN,h]
def val (xs:List Nat):Nat:=vl 4294967296 xs
def cK (l:List (List Nat)):Nat:=l.foldl (fun g xs=>Nat.gcd g (val xs)) 0
theorem tI {l:List (List Nat)}{k:Nat}(h:k<l.length):Nat.gcd (cK (l.take k)) (val (cN l k))=cK (l.take (k+1)):=by
 rw[List.take_add_one,tH h]
 simp[cK]
def RL (M:Nat) (l:List (List Nat)):Prop:=∀xs∈l,Lim 4294967296 xs∧xs.length≤M
theorem RL.nn {M k:Nat}{l:List (List Nat)}(h:RL M l) (hM:M≤1000000) (hk:k<l.length):Nn (cN l k) (val (cN l k)):=⟨(h _ (fI hk)).1,Nat.le_trans (h _ (fI hk)).2 hM,rfl⟩
theorem RL.len {M k:Nat}{l:List (List Nat)}(h:RL M l) (hk:k<l.length):(dg 4294967296 (val (cN l k))).length≤M:=by
 unfold val
 rw[cY (by omega) (h _ (fI hk)).1]
 exact Nat.le_trans (bN _) (h _ (fI hk)).2
def oK (n:Int):Int:=if n<0 then 2 else if 4096<n then 3 else 0
def Al (x:Nat) (n:Int):Nat:=if oK n=0 then x^n.toNat else 0
theorem wC {x m:Nat}(h:x<4294967296):(dg 4294967296 (x^m)).length≤m+1:=by
 refine aM (by omega) (Nat.lt_of_le_of_lt (Nat.pow_le_pow_left (Nat.le_of_lt h) m) ?_)
 exact Nat.pow_lt_pow_right (by omega) (by omega)
theorem Am {j:Nat}(h:j≤12):4096/2^j=2^(12-j):=by
 rw[show(4096:Nat)=2^12 from rfl,Nat.pow_div h (by omega)]
theorem Cq (n i:Nat):n&&& 2^i=n/2^i%2*2^i:=by
 apply Nat.eq_of_testBit_eq
 intro k
 rw[Nat.testBit_and,Nat.testBit_two_pow]
 rcases Nat.mod_two_eq_zero_or_one (n/2^i)with h | h
 ·rw[h,Nat.zero_mul,Nat.zero_testBit]
  by_cases hk:i=k
  ·subst hk
   rw[Nat.testBit_eq_decide_div_mod_eq,h]
   rfl
  rw[decide_eq_false hk,Bool.and_false]
 rw[h,Nat.one_mul,Nat.testBit_two_pow]
 by_cases hk:i=k
 ·subst hk
  rw[Nat.testBit_eq_decide_div_mod_eq,h]
  rfl
 rw[decide_eq_false hk,Bool.and_false]
theorem wD {n j:Nat}(h:j≤12):n&&&(4096/2^j)=n/2^(12-j)%2*2^(12-j):=by
 rw[Am h,Cq]
theorem Gc {a b:Nat}(ha:a<9223372036854775808) (hb:b<9223372036854775808):IntKind.i64.wrap ((BitVec.ofInt IntKind.i64.bits (a:Int)&&& BitVec.ofInt IntKind.i64.bits (b:Int)).toNat:Int)=((a&&& b:Nat):Int):=by
 have e:IntKind.i64.bits=64:=rfl
 rw[e,BitVec.toNat_and,BitVec.ofInt_natCast,BitVec.ofInt_natCast,BitVec.toNat_ofNat,BitVec.toNat_ofNat,Nat.mod_eq_of_lt (by omega),Nat.mod_eq_of_lt (by omega)]
 have h1:a&&& b≤a:=Nat.and_le_left
 simp[IntKind.wrap,IntKind.signed,IntKind.bits]
 omega
theorem tJ {j:Nat}:Int.fdiv ((4096/2^j:Nat):Int) (2^(min (1:Int).toNat IntKind.i64.bits))=((4096/2^(j+1):Nat):Int):=by
 have e:(2:Int)^(min (1:Int).toNat IntKind.i64.bits)=((2:Nat):Int):=by decide
 rw[e,Int.fdiv_eq_ediv,if_pos (Or.inl (by omega)),Int.sub_zero,←Int.natCast_ediv,Nat.div_div_eq_div_mul,←Nat.pow_succ]
theorem wE {n j:Nat}(h:j≤12):n/2^(12-j)=2*(n/2^(13-j))+n/2^(12-j)%2:=by
 have e:2^(13-j)=2^(12-j)*2:=by rw[show 13-j=(12-j)+1 by omega,Nat.pow_succ]
 rw[e,←Nat.div_div_eq_div_mul]
 omega
theorem Lz {x n j:Nat}(h:j≤12) (hb:n&&&(4096/2^j)=0):x^(n/2^(13-j))*x^(n/2^(13-j))=x^(n/2^(12-j)):=by
 rw[wD h]at hb
 have h1:n/2^(12-j)%2=0:=by
  rcases Nat.mul_eq_zero.1 hb with h2 | h2
  ·exact h2
  have:=Nat.pow_pos (n:=12-j) (show 0<2 by omega);omega
 rw[←Nat.pow_add,wE h,h1]
 congr 1
 omega
theorem Ma {x n j:Nat}(h:j≤12) (hb:n&&&(4096/2^j)≠0):x^(n/2^(13-j))*x^(n/2^(13-j))*x=x^(n/2^(12-j)):=by
 rw[wD h]at hb
 have h1:n/2^(12-j)%2=1:=by
  rcases Nat.mod_two_eq_zero_or_one (n/2^(12-j))with h2 | h2
  ·rw[h2,Nat.zero_mul]at hb;exact absurd rfl hb
  exact h2
 rw[←Nat.pow_add,←Nat.pow_succ,wE h,h1]
 congr 1
 omega
theorem Gd {xs ys:List Nat}(h:¬xs.length=ys.length):false=decide (xs=ys):=(decide_eq_false fun e=>h (by rw[e])).symm
theorem Ge {xs ys:List Nat}{k:Nat}(h:¬nth xs k=nth ys k):false=decide (xs=ys):=(decide_eq_false fun e=>h (by rw[e])).symm
theorem Gf {xs ys:List Nat}{k:Nat}(hl:xs.length=ys.length) (hk:xs.take k=ys.take k) (hk2:xs.length≤k):true=decide (xs=ys):=by
 rw[tF hk2,tF (by omega)]at hk
 exact(decide_eq_true hk).symm
theorem xY {l:List (List Nat)}(hr:RL 1000 l) (hl:l.length≤100):aO true Tryd.prog 42 [] [.one (.t (.s false 22 1 l.length (rT l)))] (bJ (nO (cK l))):=by
 refine eG Tryd.func42 rfl Tryd.ntmps42 rfl aY rfl fun N9 w9 c0 h0=>?_
 refine sq ?_;refine rl ?_;refine o1 ?_;refine nl ?_;refine sq ?_;refine rl ?_;refine o1 ?_;refine nl ?_;refine sq ?_;refine sq ?_;refine rl ?_;(iterate 3 refine o1 ?_);refine nl ?_
 refine bl ?_
 refine lp (γ:=Nat) (fun s=>cC [(9,.one (.t (.s false 22 1 l.length (rT l)))),(10,.one (tv (.int .i64 ((l.length:Nat):Int)))),(3,.one (.t (sU false (dg 4294967296 (cK (l.take s)))))),(11,.one (tv (.int .i64 ((s:Nat):Int))))]) (fun s=>([]:List Ob).map some) (fun s=>s≤l.length∧(dg 4294967296 (cK (l.take s))).length≤1000) (fun s=>l.length-s) 0 (⟨Nat.zero_le _,by show(dg 4294967296 0).length≤1000;decide⟩) (((nr (i:=3) 0 64 1 rfl rfl rfl rfl).trans (Du (i:=3) (zs:=[]) (zs':=[]) rfl rfl rfl rfl rfl)).trans (bT h0 [] _ _ (by decide) ⟨rfl,rfl,rfl,rfl,trivial⟩ rfl)) ?_
 rintro i hi;refine sq ?_;refine rl ?_;refine o1 ?_;refine nl ?_;refine sq ?_;refine bZ rfl (fun h1=>?_) (fun h1=>?_)
 ·refine sk ?_;refine sq ?_;refine bl ?_;refine sq ?_;refine rl ?_;refine o1 ?_;refine qG ([sU false (cN l (i))]) (xX l (k:=i) (by omega)) ?_
  refine o1 ?_;refine nl ?_;refine sq ?_;refine rl ?_;refine o1 ?_;refine ca (Jt (hr.nn (by omega) (by omega))) Ii ⟨a1 rfl,rfl⟩ (.one (.t (sU false (dg 4294967296 (val (cN l i)))))) ?_
  refine o1 ?_;refine nl ?_;refine bl ?_
  refine lp (γ:=Nat×Nat) (fun s=>cC [(9,.one (.t (.s false 22 1 l.length (rT l)))),(10,.one (tv (.int .i64 ((l.length:Nat):Int)))),(11,.one (tv (.int .i64 ((i:Nat):Int)))),(3,.one (.t (sU false (dg 4294967296 (s.1))))),(5,.one (.t (sU false (dg 4294967296 (s.2)))))]) (fun s=>([]:List Ob).map some) (fun s=>Nat.gcd s.1 s.2=Nat.gcd (cK (l.take i)) (val (cN l i))∧(dg 4294967296 (s.1)).length≤1000∧(dg 4294967296 (s.2)).length≤1000) (fun s=>s.2) (cK (l.take i),val (cN l i)) ⟨rfl,hi.2,hr.len (by omega)⟩ (bT h0 [] _ _ (by decide) ⟨rfl,rfl,rfl,rfl,rfl,trivial⟩ rfl) ?_
  rintro⟨u,v⟩ ⟨hg,hu,hv⟩;dsimp only at hg hu hv⊢;refine sq ?_;refine sq ?_;refine rl ?_;(iterate 3 refine o1 ?_);refine nl ?_;refine bZ rfl (fun h2=>?_) (fun h2=>?_)
  ·refine sk ?_;refine bl ?_;refine sq ?_;have hv0:v≠0:=Nat.pos_iff_ne_zero.1 (nW (B:=4294967296) (u:=v) (by omega))
   have hmv:=Nat.mod_lt u (Nat.pos_of_ne_zero hv0)
   have hml:(dg 4294967296 (u%v)).length≤1000:=Nat.le_trans (qN (Nat.le_of_lt hmv)) hv
   have hgs:Nat.gcd v (u%v)=Nat.gcd (cK (l.take i)) (val (cN l i)):=by rw[←hg,Nat.gcd_comm v,←Nat.gcd_rec,Nat.gcd_comm]
   refine rl ?_;refine o1 ?_;refine o1 ?_
   refine ca (mY (Nn.of (u:=u) (by omega)) (Nn.of (u:=v) (by omega)) hv0 rfl rfl) wY ⟨a1 rfl,a1 rfl,rfl⟩ (.tup [nF (dg 4294967296 (u/v)),nF (dg 4294967296 (u%v)),.one (tv (.int .i64 0))]) ?_
   (iterate 7 refine o1 ?_);refine nl ?_;refine rl ?_;(iterate 4 refine o1 ?_);refine nl ?_
   exact⟨(v,u%v),by dsimp only;omega,⟨hgs,hv,hml⟩,bT h0 [] _ _ (by decide) ⟨rfl,rfl,rfl,rfl,rfl,trivial⟩ rfl⟩
  refine ex ?_;refine rl ?_;refine o1 ?_;refine WL.cast (t:=29) (u':=.int .i64 ((i+1:Nat):Int)) rfl (aQ (by omega)) ?_
  refine o1 ?_;refine nl ?_;have hv0:v=0:=(bV (B:=4294967296) (by omega)).1 (List.eq_nil_of_length_eq_zero (by omega))
  have hgu:cK (l.take (i+1))=u:=by rw[←tI (by omega),←hg,hv0,Nat.gcd_zero_right]
  exact⟨i+1,by omega,⟨by omega,by rw[hgu];exact hu⟩,bT h0 [] _ _ (by decide) ⟨rfl,rfl,(congrArg (fun z:Nat=>some (nF (dg 4294967296 z))) hgu),rfl,trivial⟩ rfl⟩
 refine ex ?_;refine sq ?_;refine rl ?_;refine o1 ?_;refine sL 0 (Fw (bH (by omega) _) (by omega)) Nr ⟨a1 rfl,rfl⟩ ?_
 refine o1 ?_;refine nl ?_;refine rt ?_;have hk9:i=l.length:=by omega
 exact en (.inl rfl) rfl (eY (.one (.sl (trs:=aL (dg 4294967296 (cK (l.take i)))) rfl rfl (jF _) (dL _)))) (by decide) (fun _=>.inl ⟨rfl,fH _⟩) (by rw[hk9,List.take_of_length_le (Nat.le_refl _)];rfl)
theorem Mb {x:Nat}{n:Int}(hx:x<4294967296):aO true Tryd.prog 48 [] [.one (tv (.int .u32 ((x:Nat):Int))),.one (tv (.int .i64 n))] (bJ (.tup [nO (Al x n),.one (tv (.int .i64 (oK n)))])):=by
 refine eG Tryd.func48 rfl Tryd.ntmps48 rfl aY rfl fun N9 w9 c0 h0=>?_
 refine sq ?_;refine rl ?_;refine o1 ?_;refine o1 ?_;refine nl ?_;refine sq ?_;refine bl ?_;refine sq ?_;refine rl ?_;(iterate 3 refine o1 ?_);refine nl ?_
 refine bZ rfl (fun h1=>?_) (fun h1=>?_)
 ·refine sq ?_;refine rl ?_;refine o1 ?_;refine o1 ?_;refine nl ?_;refine rt ?_;have he:oK n=2:=by unfold oK;rw[if_pos (by omega)]
  exact en (.inl rfl) rfl (iG (.cons (.one (.nil (t:=64) (z:=1))) (.cons (dX _) .nil))) (by decide) (fun _=>⟨.inl ⟨rfl,trivial⟩,trivial,trivial⟩) (by rw[he,Al,he,if_neg (by decide)];rfl)
 refine sq ?_;refine rl ?_;(iterate 3 refine o1 ?_);refine nl ?_;refine bZ rfl (fun h2=>?_) (fun h2=>?_)
 ·refine sq ?_;refine rl ?_;refine o1 ?_;refine o1 ?_;refine nl ?_;refine rt ?_;have he:oK n=3:=by unfold oK;rw[if_neg (by omega),if_pos (by omega)]
  exact en (.inl rfl) rfl (iG (.cons (.one (.nil (t:=64) (z:=1))) (.cons (dX _) .nil))) (by decide) (fun _=>⟨.inl ⟨rfl,trivial⟩,trivial,trivial⟩) (by rw[he,Al,he,if_neg (by decide)];rfl)
 refine sk ?_;refine sq ?_;refine rl ?_;refine bs 0 ?_;refine o1 ?_;refine nl ?_;refine sq ?_;refine sq ?_;refine rl ?_;refine o1 ?_;refine nl ?_;refine bl ?_
 have h1p:dg 4294967296 (x^(n.toNat/2^(13-0)))=[1]:=by rw[show n.toNat/2^(13-0)=0 from Nat.div_eq_of_lt (show n.toNat<8192 by omega),Nat.pow_zero];decide
 refine lp (γ:=Nat) (fun s=>cC [(0,.one (tv (.int .u32 ((x:Nat):Int)))),(1,.one (tv (.int .i64 n))),(6,.one (.sl 0 0 ((dg 4294967296 (x^(n.toNat/2^(13-s)))).length))),(7,.one (tv (.int .i64 ((4096/2^s:Nat):Int))))]) (fun s=>[(⟨64,1,(aL (dg 4294967296 (x^(n.toNat/2^(13-s))))).map .t⟩:Ob)].map some) (fun s=>s≤13) (fun s=>13-s) 0 (by omega) (bT h0 [0] _ _ (by decide) ⟨rfl,rfl,(congrArg (fun l:List Nat=>some (FV.one (.sl 0 0 l.length))) h1p),rfl,trivial⟩ ⟨cT (congrArg (fun l:List Nat=>some (⟨64,1,(aL l).map .t⟩:Ob)) h1p.symm),rfl⟩) ?_
 rintro j hj;refine sq ?_;refine sq ?_;refine rl ?_;refine o1 ?_;refine o1 ?_;refine nl ?_;refine bZ rfl (fun h3=>?_) (fun h3=>?_)
 ·refine sk ?_;refine sq ?_;refine bl ?_;refine sq ?_;have hj12:j≤12:=by
   rcases Nat.lt_or_ge 12 j with h9 | h9
   ·have h8:j=13:=by omega
    rw[h8]at h3;exact absurd h3 (by decide)
   exact h9
  have hpl:=wC (m:=n.toNat/2^(13-j)) hx
  have hql:=wC (m:=n.toNat/2^(13-j)+n.toNat/2^(13-j)) hx
  rw[Nat.pow_add]at hql;have hnl:n.toNat/2^(13-j)≤n.toNat:=Nat.div_le_self _ _
  have hbj:4096/2^j≤4096:=Nat.div_le_self _ _
  refine rl ?_;refine o1 ?_;refine o1 ?_
  refine sL 1 (Dz (Nn.of (by omega)) (Nn.of (by omega)) rfl) Ij ⟨dZ rfl (.sl rfl rfl (hG _) (dL _)),dZ rfl (.sl rfl rfl (hG _) (dL _)),rfl⟩ ?_
  refine o1 ?_;refine nl ?_;refine sq ?_;refine rl ?_;(iterate 3 refine o1 ?_)
  refine WL.cast (t:=24) (u':=.int .i64 (((n.toNat&&& 4096/2^j):Nat):Int)) rfl (aQ (by rw[show(n:Int)=((n.toNat:Nat):Int) by omega];exact Gc (by omega) (by omega))) ?_
  refine o1 ?_;refine nl ?_;refine bZ rfl (fun h4=>?_) (fun h4=>?_)
  ·refine rl ?_;refine o1 ?_;refine o1 ?_;refine sL 2 (xW (Nn.of (by omega)) hx (Ma hj12 (by omega))) sK ⟨dZ rfl (.sl rfl rfl (hG _) (dL _)),a1 rfl,rfl⟩ ?_
   refine o1 ?_;refine nl ?_;refine rl ?_;refine o1 ?_;refine o1 ?_;refine WL.cast (t:=18) (u':=.int .i64 (((4096/2^(j+1)):Nat):Int)) rfl (aQ tJ) ?_;refine o1 ?_
   refine nl ?_;have hpw:x^(n.toNat/2^(12-j))=x^(n.toNat/2^(12-j)):=rfl
   exact⟨j+1,by omega,by omega,bT h0 [2] _ _ (by decide) ⟨rfl,rfl,(congrArg (fun z:Nat=>some (FV.one (.sl 2 0 (dg 4294967296 z).length))) (show x^(n.toNat/2^(13-(j+1)))=_ from(by rw[show 13-(j+1)=12-j by omega]))),rfl,trivial⟩ ⟨cT (congrArg (fun z:Nat=>some (⟨64,1,(aL (dg 4294967296 z)).map .t⟩:Ob)) (show x^(n.toNat/2^(13-(j+1)))=_ from(by rw[show 13-(j+1)=12-j by omega])).symm),rfl⟩⟩
  refine sk ?_;refine rl ?_;refine o1 ?_;refine o1 ?_;refine WL.cast (t:=18) (u':=.int .i64 (((4096/2^(j+1)):Nat):Int)) rfl (aQ tJ) ?_;refine o1 ?_;refine nl ?_
  have hpw:x^(n.toNat/2^(12-j))=x^(n.toNat/2^(13-j))*x^(n.toNat/2^(13-j)):=(Lz hj12 (by omega)).symm
  exact⟨j+1,by omega,by omega,bT h0 [1] _ _ (by decide) ⟨rfl,rfl,(congrArg (fun z:Nat=>some (FV.one (.sl 1 0 (dg 4294967296 z).length))) (show x^(n.toNat/2^(13-(j+1)))=_ from(by rw[show 13-(j+1)=12-j by omega];exact hpw))),rfl,trivial⟩ ⟨cT (congrArg (fun z:Nat=>some (⟨64,1,(aL (dg 4294967296 z)).map .t⟩:Ob)) (show x^(n.toNat/2^(13-(j+1)))=_ from(by rw[show 13-(j+1)=12-j by omega];exact hpw)).symm),rfl⟩⟩
 refine ex ?_;refine sq ?_;refine rl ?_;(iterate 3 refine o1 ?_);refine nl ?_;refine rt ?_;have he:oK n=0:=by unfold oK;rw[if_neg (by omega),if_neg (by omega)]
 have hj13:j=13:=by
  rcases Nat.lt_or_ge 12 j with h9 | h9
  ·omega
  have h8:=Am h9
  have h7:=Nat.pow_pos (n:=12-j) (show 0<2 by omega)
  omega
 subst hj13
 exact en (.inl rfl) rfl (iG (.cons (.one (.sl (trs:=aL (dg 4294967296 (x^(n.toNat/2^(13-13))))) rfl rfl (jF _) (dL _))) (.cons (dX _) .nil))) (by decide) (fun _=>⟨.inl ⟨rfl,fH _⟩,trivial,trivial⟩) (by rw[he,Al,he,if_pos rfl,show n.toNat/2^(13-13)=n.toNat by simp];rfl)
theorem Ju {xs ys:List Nat}(hx:xs.length≤1000000) (hy:ys.length≤1000000):aO true Tryd.prog 43 [] [nF xs,nF ys] (bJ (.one (tv (.bool (decide (xs=ys)))))):=by
 refine eG Tryd.func43 rfl Tryd.ntmps43 rfl aY rfl fun N9 w9 c0 h0=>?_
 refine sq ?_;refine rl ?_;refine o1 ?_;refine nl ?_;refine sq ?_;refine sq ?_;refine rl ?_;(iterate 5 refine o1 ?_);refine nl ?_;refine bZ rfl (fun h1=>?_) (fun h1=>?_)
 ·refine sq ?_;refine rl ?_;refine o1 ?_;refine nl ?_;refine rt ?_;exact iH (.inl rfl) rfl (Gd (by omega))
 refine sk ?_;refine sq ?_;refine sq ?_;refine rl ?_;refine o1 ?_;refine nl ?_;refine bl ?_
 refine lp (γ:=Nat) (fun k=>cC [(0,.one (.t (sU false xs))),(1,.one (.t (sU false ys))),(5,.one (tv (.int .i64 ((k:Nat):Int))))]) (fun k=>([]:List Ob).map some) (fun k=>k≤xs.length∧xs.take k=ys.take k) (fun k=>xs.length-k) 0 ⟨Nat.zero_le _,rfl⟩ (bT h0 [] _ _ (by decide) ⟨rfl,rfl,rfl,trivial⟩ rfl) fun k hk=>?_
 refine sq ?_;refine sq ?_;refine rl ?_;(iterate 4 refine o1 ?_);refine nl ?_;refine bZ rfl (fun h2=>?_) (fun h2=>?_)
 ·refine sk ?_;refine sq ?_;refine bl ?_;refine sq ?_;refine rd [] (fun i=>[].contains i) mixed ?_
  refine dv 0 ?_;refine dv 1 ?_;refine dv 2 ?_;refine qH 3 ([.v (.int .u32 ((nth xs (k):Nat):Int))]) (tC xs (k:=k) (by omega)) ?_
  refine dv 4 ?_;refine dv 5 ?_;refine dv 6 ?_;refine qH 7 ([.v (.int .u32 ((nth ys (k):Nat):Int))]) (tC ys (k:=k) (by omega)) ?_
  refine dv 8 ?_;refine sM ?_;refine bZ rfl (fun h3=>?_) (fun h3=>?_)
  ·refine sq ?_;refine rl ?_;refine o1 ?_;refine nl ?_;refine rt ?_;exact iH (.inl rfl) rfl (Ge (k:=k) (by omega))
  refine sk ?_;refine rl ?_;refine o1 ?_;refine o1 ?_;refine WL.cast (t:=16) (u':=.int .i64 ((k+1:Nat):Int)) rfl (aQ (by omega)) ?_
  refine o1 ?_;refine nl ?_;exact⟨k+1,by omega,⟨by omega,Cl hk.2 (by omega) (by omega) (by omega)⟩,bT h0 [] _ _ (by decide) ⟨rfl,rfl,rfl,trivial⟩ rfl⟩
 refine ex ?_;refine sq ?_;refine rl ?_;refine o1 ?_;refine nl ?_;refine rt ?_;exact iH (.inl rfl) rfl (Gf (by omega) hk.2 (by omega))
theorem dM {xs ys:List Nat}(hx:xs.length≤1000000) (h:xs=ys):aO true Tryd.prog 43 [] [nF xs,nF ys] (bJ (.one (tv (.bool true)))):=by
 subst h
 have h:=Ju hx hx
 rw[decide_eq_true rfl]at h
 exact h
theorem Mc {l:List Nat}{V:Nat}(h1:Lim 4294967296 l) (h2:trim l=l) (h3:vl 4294967296 l=V):dg 4294967296 V=l:=by rw[←eR (by omega) h1 h3,h2]
theorem Jv {l:List Nat}(h:eX l=false):tx (aV l)=l:=by
 by_cases h48:l=[48]
 ·subst h48;rfl
 have hd:=tG h
 have h0:nth l 0≠48:=fun e=>by rw[Dx (decide_eq_false h48) e]at h;cases h
 have hne:l≠[]:=fun e=>by rw[Dw (decide_eq_true e)]at h;cases h
 have e1:l=(bO (l.map (· -48)).reverse).reverse:=by
  unfold bO
  rw[←List.map_reverse,List.reverse_reverse,List.map_map]
  refine(List.ext_getElem (by simp) fun i h1 h2=>?_)
  have:=hd l[i] (List.getElem_mem h1)
  simp
  omega
 have hl:Lim 10 (l.map (· -48)).reverse:=fun x hx=>by
  obtain⟨c,hc,rfl⟩:=List.mem_map.1 (List.mem_reverse.1 hx)
  have:=hd c hc
  omega
 have e2:=xK (v:=aV l) hl (by rw[←Fz,←e1])
 rw[←e1]at e2
 have e3:l.dropWhile (· ==48)=l:=by
  cases l with
  | nil=>rfl
  | cons c m=>
   have:c≠48:=h0
   rw[List.dropWhile_cons,if_neg (by simpa using this)]
 rw[e3]at e2
 by_cases hv:aV l=0
 ·rw[if_pos hv]at e2
  exact absurd e2 hne
 rw[if_neg hv]at e2
 exact e2.symm
def Mm (l:List Nat) (V:Nat):Bool:=l.all (fun x=>decide (x<4294967296))&&decide (l.length≤1000000)&&decide (vl 4294967296 l=V)
theorem An {l:List Nat}{V:Nat}(h:Mm l V=true):Nn l V:=by
 simp only[Mm,Bool.and_eq_true,decide_eq_true_eq,List.all_eq_true]at h
 exact⟨h.1.1,h.1.2,h.2⟩
def Mn (l:List (List Nat)):Bool:=l.all fun xs=>xs.all (fun x=>decide (x<4294967296))&&decide (xs.length≤1000)
theorem Oz {l:List (List Nat)}(h:Mn l=true):RL 1000 l:=by
 intro xs hx
 simp only[Mn,List.all_eq_true,Bool.and_eq_true,decide_eq_true_eq]at h
 exact h xs hx
theorem Ao {l:List Nat}{V:Nat}(h:(l.all (fun x=>decide (x<4294967296))&&decide (trim l=l)&&decide (vl 4294967296 l=V))=true):dg 4294967296 V=l:=by
 simp only[Bool.and_eq_true,decide_eq_true_eq,List.all_eq_true]at h
 exact Mc h.1.1 h.1.2 h.2
theorem mZ {l:List Nat}{V:Nat}{e:Int}(hl:Lim 256 l) (hn:l.length≤9223372036854775807) (hv:Dv l=V) (he:lH l=e):aO true Tryd.prog 45 [] [.one (tv (.string (aT l)))] (bJ (.tup [nO V,.one (tv (.int .i64 e))])):=hv▸he▸Gb hl hn
theorem Jw {x:Nat}{n:Int}{V:Nat}{e:Int}(hx:x<4294967296) (hv:Al x n=V) (he:oK n=e):aO true Tryd.prog 48 [] [.one (tv (.int .u32 ((x:Nat):Int))),.one (tv (.int .i64 n))] (bJ (.tup [nO V,.one (tv (.int .i64 e))])):=hv▸he▸Mb hx
theorem Jx {l:List (List Nat)}{w:Nat}(hr:RL 1000 l) (hl:l.length≤100) (e:cK l=w):aO true Tryd.prog 42 [] [.one (.t (.s false 22 1 l.length (rT l)))] (bJ (nO w)):=e▸xY hr hl
theorem Md:((aT (tx 4294967296)).toList==(⟨#[52,50,57,52,57,54,55,50,57,54]⟩:ByteArray).toList)=true:=by
 have h:=Jv (l:=[52,50,57,52,57,54,55,50,57,54]) (by decide)
 rw[show aV [52,50,57,52,57,54,55,50,57,54]=4294967296 by decide]at h
 rw[h]
 exact(xE (l:=[52,50,57,52,57,54,55,50,57,54]) (l':=[52,50,57,52,57,54,55,50,57,54]) (fun d hd=>by revert d;decide) (fun d hd=>by revert d;decide)).trans (decide_eq_true rfl)
theorem gL:aO true Tryd.prog 36 [] [] (bJ (.one (tv (.bool true)))):=by
 refine eG Tryd.func36 rfl Tryd.ntmps36 rfl aY rfl fun N9 w9 c0 h0=>?_
 refine sq ?_;refine rl ?_;refine o1 ?_;refine nl ?_;refine sq ?_;refine rl ?_;refine bs 0 ?_;refine bs 1 ?_
 refine ca (Dz (w:=18446744065119617025) (An (l:=[4294967295]) (V:=4294967295) (by decide)) (An (l:=[4294967295]) (V:=4294967295) (by decide)) (by decide)) Ij ⟨dZ rfl (.sl (trs:=aL [4294967295]) rfl rfl rfl rfl),dZ rfl (.sl (trs:=aL [4294967295]) rfl rfl rfl rfl),rfl⟩ (nF (dg 4294967296 (18446744065119617025))) ?_
 refine o1 ?_;refine nl ?_;refine sq ?_;refine rl ?_;refine bs 2 ?_;refine bs 3 ?_
 refine ca (mY (q:=6148914691236517205) (r:=1) (An (l:=[0,0,1]) (V:=18446744073709551616) (by decide)) (An (l:=[3]) (V:=3) (by decide)) (by decide) (by decide) (by decide)) wY ⟨dZ rfl (.sl (trs:=aL [0,0,1]) rfl rfl rfl rfl),dZ rfl (.sl (trs:=aL [3]) rfl rfl rfl rfl),rfl⟩ (.tup [nF (dg 4294967296 (6148914691236517205)),nF (dg 4294967296 (1)),.one (tv (.int .i64 0))]) ?_
 (iterate 7 refine o1 ?_);refine nl ?_;refine sq ?_;refine rl ?_;refine bs 4 ?_;refine bs 5 ?_;refine bs 6 ?_;refine WL.sub (Du (i:=24) (zs:=[12]) (zs':=[12]) rfl rfl rfl rfl rfl) ?_
 refine WL.sub (Du (i:=25) (zs:=[18]) (zs':=[18]) rfl rfl rfl rfl rfl) ?_;refine WL.sub (Du (i:=26) (zs:=[30]) (zs':=[30]) rfl rfl rfl rfl rfl) ?_;refine bs 7 ?_
 refine ca (Jx (l:=[[12],[18],[30]]) (w:=6) (Oz (by decide)) (by decide) (by decide)) Bx ⟨dZ rfl (.sl (trs:=rT [[12],[18],[30]]) rfl rfl rfl rfl),rfl⟩ (nF (dg 4294967296 (6))) ?_
 refine o1 ?_;refine nl ?_;refine sq ?_;refine rl ?_
 refine ca (Jw (x:=10) (n:=10) (V:=10000000000) (e:=0) (by decide) (by decide) (by decide)) Nq ⟨a1 rfl,a1 rfl,rfl⟩ (.tup [nF (dg 4294967296 (10000000000)),.one (tv (.int .i64 0))]) ?_
 (iterate 5 refine o1 ?_);refine nl ?_;refine sq ?_;refine rl ?_
 refine ca (mZ (l:=[49,48,48,48,48,48,48,48,48,48,48]) (V:=10000000000) (e:=0) (fun x hx=>by revert x;decide) (by decide) (by decide) (by decide)) By ⟨a1 rfl,rfl⟩ (.tup [nF (dg 4294967296 (10000000000)),.one (tv (.int .i64 0))]) ?_
 (iterate 5 refine o1 ?_);refine nl ?_;refine sq ?_;refine rl ?_
 refine ca (mZ (l:=[48,49]) (V:=0) (e:=60) (fun x hx=>by revert x;decide) (by decide) (by decide) (by decide)) By ⟨a1 rfl,rfl⟩ (.tup [nF (dg 4294967296 (0)),.one (tv (.int .i64 60))]) ?_
 (iterate 5 refine o1 ?_);refine nl ?_;refine sq ?_;refine rl ?_
 refine ca (mZ (l:=[]) (V:=0) (e:=60) (fun x hx=>by revert x;decide) (by decide) (by decide) (by decide)) By ⟨a1 rfl,rfl⟩ (.tup [nF (dg 4294967296 (0)),.one (tv (.int .i64 60))]) ?_
 (iterate 5 refine o1 ?_);refine nl ?_;refine sq ?_;refine rl ?_;refine o1 ?_;refine bs 8 ?_
 refine ca (dM (xs:=(dg 4294967296 (18446744065119617025))) (ys:=[1,4294967294]) (Nat.le_trans (aM (k:=100) (by omega) (by decide)) (by omega)) (Ao (l:=[1,4294967294]) (V:=18446744065119617025) (by decide))) gW ⟨a1 rfl,dZ rfl (.sl (trs:=aL [1,4294967294]) rfl rfl rfl rfl),rfl⟩ (.one (tv (.bool true))) ?_
 (iterate 3 refine o1 ?_);refine WL.cast (t:=50) (u':=.bool true) rfl (congrArg Value.bool (decide_eq_true rfl)) ?_;(iterate 3 refine o1 ?_);refine bs 9 ?_
 refine ca (dM (xs:=(dg 4294967296 (6148914691236517205))) (ys:=[1431655765,1431655765]) (Nat.le_trans (aM (k:=100) (by omega) (by decide)) (by omega)) (Ao (l:=[1431655765,1431655765]) (V:=6148914691236517205) (by decide))) gW ⟨a1 rfl,dZ rfl (.sl (trs:=aL [1431655765,1431655765]) rfl rfl rfl rfl),rfl⟩ (.one (tv (.bool true))) ?_
 (iterate 3 refine o1 ?_);refine bs 10 ?_
 refine ca (dM (xs:=(dg 4294967296 (1))) (ys:=[1]) (Nat.le_trans (aM (k:=100) (by omega) (by decide)) (by omega)) (Ao (l:=[1]) (V:=1) (by decide))) gW ⟨a1 rfl,dZ rfl (.sl (trs:=aL [1]) rfl rfl rfl rfl),rfl⟩ (.one (tv (.bool true))) ?_
 (iterate 3 refine o1 ?_);refine bs 11 ?_
 refine ca (dM (xs:=(dg 4294967296 (6))) (ys:=[6]) (Nat.le_trans (aM (k:=100) (by omega) (by decide)) (by omega)) (Ao (l:=[6]) (V:=6) (by decide))) gW ⟨a1 rfl,dZ rfl (.sl (trs:=aL [6]) rfl rfl rfl rfl),rfl⟩ (.one (tv (.bool true))) ?_
 (iterate 4 refine o1 ?_);refine WL.cast (t:=69) (u':=.bool true) rfl (congrArg Value.bool (decide_eq_true rfl)) ?_;(iterate 3 refine o1 ?_);refine bs 12 ?_
 refine ca (dM (xs:=(dg 4294967296 (10000000000))) (ys:=[1410065408,2]) (Nat.le_trans (aM (k:=100) (by omega) (by decide)) (by omega)) (Ao (l:=[1410065408,2]) (V:=10000000000) (by decide))) gW ⟨a1 rfl,dZ rfl (.sl (trs:=aL [1410065408,2]) rfl rfl rfl rfl),rfl⟩ (.one (tv (.bool true))) ?_
 (iterate 4 refine o1 ?_);refine WL.cast (t:=78) (u':=.bool true) rfl (congrArg Value.bool (decide_eq_true rfl)) ?_;(iterate 4 refine o1 ?_)
 refine ca (dM (xs:=(dg 4294967296 (10000000000))) (ys:=(dg 4294967296 (10000000000))) (Nat.le_trans (aM (k:=100) (by omega) (by decide)) (by omega)) rfl) gW ⟨a1 rfl,a1 rfl,rfl⟩ (.one (tv (.bool true))) ?_
 (iterate 4 refine o1 ?_);refine WL.cast (t:=87) (u':=.bool true) rfl (congrArg Value.bool (decide_eq_true rfl)) ?_;(iterate 4 refine o1 ?_)
 refine WL.cast (t:=91) (u':=.bool true) rfl (congrArg Value.bool (decide_eq_true rfl)) ?_;refine o1 ?_;refine o1 ?_;refine bs 13 ?_
 refine ca (Ly (An (l:=[0,1]) (V:=4294967296) (by decide))) Np ⟨dZ rfl (.sl (trs:=aL [0,1]) rfl rfl rfl rfl),rfl⟩ (.one (tv (.string (aT (tx 4294967296))))) ?_
 refine o1 ?_;refine WL.cast (t:=96) (u':=.bool true) rfl (congrArg Value.bool Md) ?_;refine o1 ?_;refine o1 ?_;refine nl ?_;refine rt ?_;exact iH (.inl rfl) rfl (rfl)
theorem xZ {B:Nat}{l:List Nat}{k:Nat}(hB:0<B) (h:k≤l.length):vl B (l.drop k)≤vl B l:=by
 rw[gM B l k h]
 have:=Nat.le_mul_of_pos_left (vl B (l.drop k)) (Nat.pow_pos (n:=k) hB)
 omega
def sB (xs:List Nat):Tr:=.s false 5 1 xs.length (aU xs)
abbrev bR (xs:List Nat):FV:=.one (.t (sB xs))
theorem Ap {xs:List Nat}{m:Nat}(h:m≤xs.length):FV.one (.t (.s false 5 1 m ((aU xs).take (m*1))))=bR (xs.take m):=by
 unfold bR sB aU
 rw[Nat.mul_one,←List.map_take,List.length_take,Nat.min_eq_left h]
theorem wF {x:Cx}{g:Nat→FV}{ob:List (Option Ob)}{i k n:Nat}{zs zs':List Nat}(hi:Nat.blt i x.n=true) (hg:g i=.one (.sl k 0 n)) (ho:aZ ob k=some ⟨5,1,(aU zs).map .t⟩) (hn:n=zs.length) (he:zs=zs'):Sub x g ob (aH g i (bR zs')) (ob.set k none):=by
 subst hn he
 exact fz hi hg ho (by rw[gG,Nat.mul_one])
theorem Ny {x:Cx}{g:Nat→FV}{ob:List (Option Ob)}{j t z:Nat}{l l':List AV}(ho:aZ ob j=some ⟨t,z,l⟩) (hl:l=l'):Sub x g ob g (ob.set j (some ⟨t,z,l'⟩)):=by
 subst hl
 have e:ob.set j (some ⟨t,z,l⟩)=ob:=by
  refine List.ext_getElem? fun i=>?_
  rw[List.getElem?_set]
  split
  ·rename_i h
   subst h
   have h2:=bI ho
   rw[if_pos (List.getElem?_eq_some_iff.1 h2).1]
   exact h2.symm
  rfl
 rw[e]
 exact fun ts W h=>h
theorem Nz {x:Cx}{g:Nat→FV}{ob:List (Option Ob)}{i:Nat}{v:FV}(hi:Nat.blt i x.n=true) (h:g i=v):Sub x g ob (aH g i v) ob:=Io hi fun _ _ _ _ hu=>h▸hu
theorem fJ {u v L:Nat}(h:u≤v) (hv:(dg 2 v).length≤L):(dg 2 u).length≤L:=Nat.le_trans (cR (by omega) h) hv
theorem Gg {u v L:Nat}(hu:(dg 2 u).length≤L) (hv:(dg 2 v).length≤L):(dg 2 (u+v)).length≤L+1:=by
 have h1:=fL (B:=2) (n:=u) (by omega)
 have h2:=fL (B:=2) (n:=v) (by omega)
 have h3:=Nat.pow_le_pow_right (n:=2) (by omega) hu
 have h4:=Nat.pow_le_pow_right (n:=2) (by omega) hv
 exact aM (by omega) (by rw[Nat.pow_succ];omega)
theorem Cr {u L:Nat}(h:(dg 4294967296 u).length≤L):(dg 2 u).length≤32*L:=by
 have h1:=fL (B:=4294967296) (n:=u) (by omega)
 refine aM (by omega) (Nat.lt_of_lt_of_le h1 ?_)
 rw[Nat.pow_mul]
 exact Nat.pow_le_pow_right (by decide) h
theorem nA {u L:Nat}(h:(dg 2 u).length≤32*L):(dg 4294967296 u).length≤L:=by
 have h1:=fL (B:=2) (n:=u) (by omega)
 refine aM (by omega) (Nat.lt_of_lt_of_le h1 ?_)
 rw[show(4294967296:Nat)=2^32 from rfl,←Nat.pow_mul]
 exact Nat.pow_le_pow_right (by decide) h
theorem Gh {d u:Nat}(hd:d<2):trim (d::dg 2 u)=dg 2 (2*u+d):=eR (by omega) (Lim.cons hd (bH (by omega) u)) (by rw[cD,bK (by omega)];omega)
theorem Aq {u:Nat}(h:(dg 2 u).length=0):u=0:=(bV (by omega)).1 (List.eq_nil_of_length_eq_zero h)
theorem Jy {u:Nat}(h:0<(dg 2 u).length):u≠0:=fun e=>by rw[e]at h;simp[eN]at h
theorem Jz {s:Nat}(h:s<256):IntKind.u8.wrap ((BitVec.ofInt IntKind.u8.bits (s:Int)&&& BitVec.ofInt IntKind.u8.bits (1:Int)).toNat:Int)=((s%2:Nat):Int):=by
 have e:IntKind.u8.bits=8:=rfl
 rw[e,BitVec.toNat_and,BitVec.ofInt_natCast,show BitVec.ofInt 8 (1:Int)=1#8 from rfl,BitVec.toNat_ofNat,BitVec.toNat_ofNat,Nat.mod_eq_of_lt (by omega)]
 have h1:s&&&(1%2^8)=s%2:=by rw[show 1%2^8=1 from rfl,Nat.and_one_is_mod]
 rw[h1]
 simp[IntKind.wrap,IntKind.signed,IntKind.bits]
 omega
theorem Gi {s:Nat}(h:s<4294967296):IntKind.u32.wrap ((BitVec.ofInt IntKind.u32.bits (s:Int)&&& BitVec.ofInt IntKind.u32.bits (1:Int)).toNat:Int)=((s%2:Nat):Int):=by
 have e:IntKind.u32.bits=32:=rfl
 rw[e,BitVec.toNat_and,BitVec.ofInt_natCast,show BitVec.ofInt 32 (1:Int)=1#32 from rfl,BitVec.toNat_ofNat,BitVec.toNat_ofNat,Nat.mod_eq_of_lt (by omega)]
 have h1:s&&&(1%2^32)=s%2:=by rw[show 1%2^32=1 from rfl,Nat.and_one_is_mod]
 rw[h1]
 simp[IntKind.wrap,IntKind.signed,IntKind.bits]
 omega
theorem Ka {s:Nat}:Int.fdiv (s:Int) (2^(min (1:Int).toNat IntKind.u8.bits))=((s/2:Nat):Int):=by
 have e:(2:Int)^(min (1:Int).toNat IntKind.u8.bits)=((2:Nat):Int):=by decide
 rw[e,Int.fdiv_eq_ediv,if_pos (Or.inl (by omega)),Int.sub_zero,←Int.natCast_ediv]
theorem Me {x k:Nat}(h:k<32):Int.fdiv (x:Int) (2^(min ((k:Nat):Int).toNat IntKind.u32.bits))=((x/2^k:Nat):Int):=by
 have e0:min ((k:Nat):Int).toNat IntKind.u32.bits=k:=by simp[IntKind.bits];omega
 rw[e0,show(2:Int)^k=((2^k:Nat):Int) by simp]
 generalize 2^k=m
 rw[Int.fdiv_eq_ediv,if_pos (Or.inl (Int.natCast_nonneg m)),Int.sub_zero,←Int.natCast_ediv]
theorem Ea {d s:Nat}(hd:d<2) (hs:s<32):IntKind.u32.wrap ((d:Int)*2^(min ((s:Nat):Int).toNat IntKind.u32.bits))=((d*2^s:Nat):Int):=by
 have e0:min ((s:Nat):Int).toNat IntKind.u32.bits=s:=by simp[IntKind.bits];omega
 have h1:d*2^s<4294967296:=by
  have h2:2^s≤2^31:=Nat.pow_le_pow_right (by omega) (by omega)
  have h3:d*2^s≤1*2^31:=Nat.mul_le_mul (by omega) h2
  omega
 rw[e0,show(2:Int)^s=((2^s:Nat):Int) by simp,←Int.natCast_mul]
 generalize d*2^s=m at h1⊢
 simp[IntKind.wrap,IntKind.signed,IntKind.bits]
 omega
theorem Ar {X Y os:List Nat}{k br br' d:Nat}(hl:os.length=k) (h:vl 2 os+vl 2 (Y.take k)=vl 2 (X.take k)+2^k*br) (hd:d+nth Y k+br=nth X k+2*br'):
  vl 2 (os++[d])+vl 2 (Y.take (k+1))=vl 2 (X.take (k+1))+2^(k+1)*br':=by
 rw[eB,aG,aG,hl,Nat.pow_succ,Nat.mul_assoc]
 have h3:2^k*(d+nth Y k+br)=2^k*(nth X k+2*br'):=by rw[hd]
 rw[Nat.mul_add,Nat.mul_add,Nat.mul_add]at h3
 omega
theorem As {xs os:List Nat}{i k:Nat}(hl:os.length=32*i+k) (h:vl 2 os=vl 4294967296 (xs.take i)+2^(32*i)*(nth xs i%2^k)):
  vl 2 (os++[nth xs i/2^k%2])=vl 4294967296 (xs.take i)+2^(32*i)*(nth xs i%2^(k+1)):=by
 rw[eB,hl,h,Nat.mod_pow_succ,Nat.pow_add,Nat.mul_add,Nat.mul_assoc]
 omega
theorem At {xs os:List Nat}{i:Nat}(hx:nth xs i<4294967296) (h:vl 2 os=vl 4294967296 (xs.take i)+2^(32*i)*(nth xs i%2^32)):vl 2 os=vl 4294967296 (xs.take (i+1)):=by
 rw[h,aG,Nat.mod_eq_of_lt hx,Nat.pow_mul]
theorem wG {u v:Nat}(h:(dg 2 u).length<(dg 2 v).length):u<v:=by
 rcases Nat.lt_or_ge u v with h1 | h1
 ·exact h1
 have:=cR (B:=2) (by omega) h1;omega
theorem Au {X Y:List Nat}{k:Nat}(hX:Lim 2 X) (hk:∀j,k+1≤j→nth X j=nth Y j) (h:nth X k<nth Y k):vl 2 X<vl 2 Y:=by
 have hS:∀m,vl 2 (X.take (k+1+m))+vl 2 (Y.take (k+1))=vl 2 (Y.take (k+1+m))+vl 2 (X.take (k+1)):=by
  intro m
  induction m with
  | zero=>exact Nat.add_comm _ _
  | succ m ih=>
   rw[←Nat.add_assoc,aG 2 X (k+1+m),aG 2 Y (k+1+m),hk (k+1+m) (by omega)]
   omega
 have h1:=hS (X.length+Y.length)
 rw[aN 2 (l:=X) (k:=k+1+(X.length+Y.length)) (by omega),aN 2 (l:=Y) (k:=k+1+(X.length+Y.length)) (by omega)]at h1
 have h2:vl 2 (X.take (k+1))<vl 2 (Y.take (k+1)):=by
  rw[aG,aG]
  have h3:=cW (hX.take k)
  have h4:2^(X.take k).length≤2^k:=Nat.pow_le_pow_right (by omega) (by rw[List.length_take];omega)
  have h5:2^k*(nth X k+1)≤2^k*nth Y k:=Nat.mul_le_mul_left _ h
  rw[Nat.mul_add]at h5
  omega
 omega
theorem Gj {X Y:List Nat}(h:∀j,nth X j=nth Y j):vl 2 X=vl 2 Y:=by
 have hS:∀m,vl 2 (X.take m)=vl 2 (Y.take m):=by
  intro m
  induction m with
  | zero=>rfl
  | succ m ih=>rw[aG,aG,ih,h]
 have h1:=hS (X.length+Y.length)
 rwa[aN 2 (l:=X) (k:=X.length+Y.length) (by omega),aN 2 (l:=Y) (k:=X.length+Y.length) (by omega)]at h1
theorem wH (B:Nat):∀{l:List Nat}{j v:Nat},j<l.length→vl B (l.set j v)+B^j*nth l j=vl B l+B^j*v
 | [],j,v,h=>by simp at h
 | d::l,0,v,h=>by
  rw[List.set_cons_zero,cD,cD,Nat.pow_zero,Nat.one_mul,Nat.one_mul]
  show v+B*vl B l+d=d+B*vl B l+v
  omega
 | d::l,j+1,v,h=>by
  have ih:=wH B (l:=l) (j:=j) (v:=v) (by simpa using h)
  rw[List.set_cons_succ,cD,cD,Nat.pow_succ,Nat.mul_comm (B^j),Nat.mul_assoc,Nat.mul_assoc]
  have e:nth (d::l) (j+1)=nth l j:=rfl
  rw[e]
  have:=congrArg (B* ·) ih
  simp only[Nat.mul_add]at this
  omega
theorem Eb (B:Nat):∀(l:List Nat) (j:Nat),B^j*nth l j≤vl B l
 | [],j=>by simp[nth,vl]
 | d::l,0=>by
  show B^0*d≤d+B*vl B l
  rw[Nat.pow_zero,Nat.one_mul]
  omega
 | d::l,j+1=>by
  have ih:=Eb B l j
  rw[cD,Nat.pow_succ,Nat.mul_comm (B^j),Nat.mul_assoc]
  have e:nth (d::l) (j+1)=nth l j:=rfl
  rw[e]
  have:=Nat.mul_le_mul_left B ih
  omega
theorem Ec (i:Nat):2^i=4294967296^(i/32)*2^(i%32):=by
 rw[show(4294967296:Nat)=2^32 from rfl,←Nat.pow_mul,←Nat.pow_add,Nat.div_add_mod]
theorem wI {ws X:List Nat}{i:Nat}(hX:Lim 2 X) (h:vl 4294967296 ws=vl 2 (X.take i)):nth ws (i/32)<2^(i%32):=by
 have h1:=Eb 4294967296 ws (i/32)
 have h2:=cW (hX.take i)
 have h3:2^(X.take i).length≤2^i:=Nat.pow_le_pow_right (by omega) (by rw[List.length_take];omega)
 rw[Ec i]at h3
 exact Nat.lt_of_mul_lt_mul_left (a:=4294967296^(i/32)) (by omega)
theorem qO {ws X:List Nat}{i:Nat}(hw:i/32<ws.length) (h:vl 4294967296 ws=vl 2 (X.take i)):vl 4294967296 (ws.set (i/32) (nth ws (i/32)+nth X i*2^(i%32)))=vl 2 (X.take (i+1)):=by
 have h1:=wH 4294967296 (v:=nth ws (i/32)+nth X i*2^(i%32)) hw
 rw[Nat.mul_add]at h1
 have h2:4294967296^(i/32)*(nth X i*2^(i%32))=2^i*nth X i:=by
  conv=>rhs;rw[Ec i]
  rw[Nat.mul_assoc,Nat.mul_comm (nth X i)]
 rw[aG]
 omega
theorem Av {ws:List Nat}{u:Nat}(hl:Lim 4294967296 ws) (hv:vl 4294967296 ws=u) (hn:ws.length=((dg 2 u).length+31)/32):ws=dg 4294967296 u:=by
 have h1:=eR (by omega) hl hv
 have h2:=fK ws
 have h3:ws.length≤(dg 4294967296 u).length:=by
  by_cases h0:u=0
  ·subst h0;rw[hn];simp[eN]
  have h4:=Kg (B:=2) (n:=u) (by omega) h0
  have h5:=fL (B:=4294967296) (n:=u) (by omega)
  rw[show(4294967296:Nat)=2^32 from rfl,←Nat.pow_mul]at h5
  have h6:=(Nat.pow_lt_pow_iff_right (a:=2) (by omega)).1 (Nat.lt_of_le_of_lt h4 h5)
  rw[hn]
  rw[show(2:Nat)^32=4294967296 from rfl]at h6
  omega
 rw[←h1]at h3⊢
 rw[←h2,List.take_of_length_le h3]
theorem Kb {xs:List Nat}(hx:xs.length≤1000000):aO false Tryd.prog 75 [] [bR xs] (bJ (bR (trim xs))):=by
 refine eG Tryd.func75 rfl Tryd.ntmps75 rfl aY rfl fun N9 w9 c0 h0=>?_
 refine sq ?_;refine rl ?_;refine o1 ?_;refine nl ?_;refine sq ?_;refine rl ?_;(iterate 3 refine o1 ?_);refine nl ?_;refine sq ?_;refine bl ?_
 refine lp (γ:=Nat) (fun s=>cC [(0,.one (.t (.s false 5 1 xs.length (aU xs)))),(3,.one (tv (.int .i64 ((s:Nat):Int))))]) (fun s=>([]:List Ob).map some) (fun s=>s≤xs.length∧trim (xs.take s)=trim xs) (fun s=>s) (xs.length) (⟨Nat.le_refl _,by rw[List.take_length]⟩) (bT h0 [] _ _ (by decide) ⟨rfl,rfl,trivial⟩ rfl) ?_
 rintro n hn;refine sq ?_;refine sq ?_;refine rl ?_;(iterate 3 refine o1 ?_);refine WL.split (t:=8) rfl (fun h1=>?_) (fun h1=>?_)
 ·(iterate 3 refine o1 ?_);refine WL.cast (t:=11) (u':=.int .i64 ((n-1:Nat):Int)) rfl (aQ (by omega)) ?_
  refine o1 ?_;refine qG ([.v (.int .u8 ((nth xs (n-1):Nat):Int))]) (fO xs (k:=n-1) (by omega)) ?_
  refine o1 ?_;refine o1 ?_;refine nl ?_;refine bZ rfl (fun h2=>?_) (fun h2=>?_)
  ·refine sk ?_;refine bl ?_;refine rl ?_;refine o1 ?_;refine o1 ?_;refine WL.cast (t:=17) (u':=.int .i64 ((n-1:Nat):Int)) rfl (aQ (by omega)) ?_
   refine o1 ?_;refine nl ?_;exact⟨n-1,by omega,⟨by omega,(pO (xs:=xs) (k:=n) (by omega) (by omega) (by omega)).trans hn.2⟩,bT h0 [] _ _ (by decide) ⟨rfl,rfl,trivial⟩ rfl⟩
  refine ex ?_;refine sq ?_;refine rl ?_;(iterate 4 refine o1 ?_);refine nl ?_;refine rt ?_;refine en (.inl rfl) rfl (eY (.one (.id rfl))) (by decide) (fun h=>by cases h) ?_
  have hx9:trim xs=xs.take n:=by
   rw[←hn.2];exact kI (by omega) hn.1 (by omega)
  rw[hx9];exact Ap hn.1
 (iterate 6 refine nR ?_);refine o1 ?_;refine nl ?_;refine pW rfl ?_;refine ex ?_;refine sq ?_;refine rl ?_;(iterate 4 refine o1 ?_);refine nl ?_;refine rt ?_
 refine en (.inl rfl) rfl (eY (.one (.id rfl))) (by decide) (fun h=>by cases h) ?_
 have hx9:trim xs=xs.take n:=by
  rw[←hn.2,show n=0 by omega]
  rfl
 rw[hx9];exact Ap hn.1
theorem eQ {xs:List Nat}{v:Nat}(hx:xs.length≤1000000) (h:trim xs=dg 2 v):aO false Tryd.prog 75 [] [bR xs] (bJ (bR (dg 2 (v)))):=h▸Kb hx
theorem wJ {xs:List Nat}{k:Nat}:aO true Tryd.prog 109 [] [bR xs,.one (tv (.int .i64 ((k:Nat):Int)))] (bJ (.one (tv (.int .u8 ((nth xs k:Nat):Int))))):=by
 refine eG Tryd.func109 rfl Tryd.ntmps109 rfl aY rfl fun N9 w9 c0 h0=>?_
 refine sq ?_;refine rl ?_;refine o1 ?_;refine nl ?_;refine sq ?_;refine sq ?_;refine rl ?_;(iterate 3 refine o1 ?_);refine WL.split (t:=7) rfl (fun h1=>?_) (fun h1=>?_)
 ·omega
 (iterate 5 refine o1 ?_);refine nl ?_;refine bZ rfl (fun h2=>?_) (fun h2=>?_)
 ·refine sq ?_;refine rl ?_;refine o1 ?_;refine nl ?_;refine rt ?_
  exact en (.inl rfl) rfl (eY (dX _)) (by decide) (fun _=>trivial) (congrArg (fun z=>FV.one (tv (.int .u8 z))) (by rw[eO (by omega)];rfl))
 refine sk ?_;refine sq ?_;refine rl ?_;(iterate 3 refine o1 ?_);refine qG ([.v (.int .u8 ((nth xs (k):Nat):Int))]) (fO xs (k:=k) (by omega)) ?_
 refine o1 ?_;refine nl ?_;refine rt ?_;exact en (.inl rfl) rfl (eY (dX _)) (by decide) (fun _=>trivial) (congrArg (fun z=>FV.one (tv (.int .u8 z))) (rfl))
theorem Mf {u v:Nat}(hu:(dg 2 (u)).length≤900000) (hv:(dg 2 (v)).length≤900000) (hle:v≤u):aO false Tryd.prog 84 [] [(bR (dg 2 (u))),(bR (dg 2 (v)))] (bJ (bR (dg 2 (u-v)))):=by
 refine eG Tryd.func84 rfl Tryd.ntmps84 rfl aY rfl fun N9 w9 c0 h0=>?_
 have hX:=bH (B:=2) (by omega) u
 have hY:=bH (B:=2) (by omega) v
 have hvX:=bK (B:=2) (by omega) u
 have hvY:=bK (B:=2) (by omega) v
 obtain⟨X,hXe⟩:∃X,dg 2 u=X:=⟨_,rfl⟩
 obtain⟨Y,hYe⟩:∃Y,dg 2 v=Y:=⟨_,rfl⟩
 rw[hXe]at hX hvX hu⊢;rw[hYe]at hY hvY hv⊢;refine sq ?_;refine rl ?_;refine o1 ?_;refine nl ?_;refine sq ?_;refine rl ?_;refine o1 ?_;refine nl ?_;refine sq ?_;refine rl ?_
 refine o1 ?_;refine nl ?_;refine sq ?_;refine sq ?_;refine rl ?_;refine o1 ?_;refine nl ?_;refine bl ?_
 refine lp (γ:=Nat×Nat×List Nat) (fun s=>cC [(0,.one (.t (.s false 5 1 X.length (aU X)))),(1,.one (.t (.s false 5 1 Y.length (aU Y)))),(5,.one (.sl 0 0 (s.1))),(6,.one (tv (.int .u8 ((s.2.1:Nat):Int)))),(7,.one (tv (.int .i64 ((s.1:Nat):Int))))]) (fun s=>[(⟨5,1,(aU s.2.2).map .t⟩:Ob)].map some) (fun s=>s.2.2.length=s.1∧Lim 2 s.2.2∧vl 2 s.2.2+vl 2 (Y.take s.1)=vl 2 (X.take s.1)+2^s.1*s.2.1∧s.2.1≤1∧s.1≤X.length) (fun s=>X.length-s.1) (0,0,[]) ⟨rfl,Lim.nil,rfl,Nat.zero_le _,Nat.zero_le _⟩ ((nr (i:=5) 0 5 1 rfl rfl rfl rfl).trans (bT h0 [0] _ _ (by decide) ⟨rfl,rfl,rfl,rfl,rfl,trivial⟩ ⟨cT (l:=[]) rfl,rfl⟩)) ?_
 rintro⟨k,cr,os⟩ ⟨hos,hol,hv2,hc,hkm⟩;dsimp only at hos hol hv2 hc hkm⊢;have hn1:=hX.nth (by omega) k
 have hn2:=hY.nth (by omega) k
 refine sq ?_;refine sq ?_;refine rl ?_;(iterate 4 refine o1 ?_);refine nl ?_;refine bZ rfl (fun h1=>?_) (fun h1=>?_)
 ·refine sk ?_;refine sq ?_;refine bl ?_;refine sq ?_;refine rl ?_;refine o1 ?_;refine o1 ?_
  refine ca (wJ (xs:=X) (k:=k)) Dn ⟨a1 rfl,a1 rfl,rfl⟩ (.one (tv (.int .u8 ((nth X (k):Nat):Int)))) ?_;refine o1 ?_
  refine WL.cast (t:=18) (u':=.int .u8 ((2+(nth X (k)):Nat):Int)) rfl (aQ (by omega)) ?_
  refine o1 ?_;refine o1 ?_;refine ca (wJ (xs:=Y) (k:=k)) Dn ⟨a1 rfl,a1 rfl,rfl⟩ (.one (tv (.int .u8 ((nth Y (k):Nat):Int)))) ?_;refine o1 ?_
  refine WL.cast (t:=22) (u':=.int .u8 ((2+(nth X (k))-(nth Y (k)):Nat):Int)) rfl (aQ (by omega)) ?_
  refine o1 ?_;refine o1 ?_;refine WL.cast (t:=24) (u':=.int .u8 ((2+(nth X (k))-(nth Y (k))-cr:Nat):Int)) rfl (aQ (by omega)) ?_
  refine o1 ?_;refine nl ?_;refine sq ?_;refine rl ?_;(iterate 3 refine o1 ?_)
  refine WL.cast (t:=27) (u':=.int .u8 ((((2+nth X k-nth Y k-cr)%2):Nat):Int)) rfl (aQ (Jz (by omega))) ?_
  refine bs 1 ?_;refine nQ (j:=2) aY rfl rfl rfl rfl (.sl rfl (by rw[List.length_map,gG,hos];omega)) (.sl rfl rfl rfl) rfl rfl rfl (by omega) (by omega) ?_
  refine o1 ?_;refine nl ?_;refine rl ?_;refine o1 ?_;refine o1 ?_;refine WL.cast (t:=31) (u':=.int .u8 ((((2+nth X k-nth Y k-cr)/2):Nat):Int)) rfl (aQ Ka) ?_;refine o1 ?_
  refine WL.cast (t:=32) (u':=.int .u8 ((1-((2+nth X k-nth Y k-cr)/2):Nat):Int)) rfl (aQ (by omega)) ?_
  refine o1 ?_;refine nl ?_;refine rl ?_;refine o1 ?_;refine o1 ?_;refine WL.cast (t:=14) (u':=.int .i64 ((k+1:Nat):Int)) rfl (aQ (by omega)) ?_
  refine o1 ?_;refine nl ?_;have hst:=Ar (d:=(2+nth X k-nth Y k-cr)%2) (br':=1-(2+nth X k-nth Y k-cr)/2) hos hv2 (by omega)
  exact⟨(k+1,1-(2+nth X k-nth Y k-cr)/2,os++[(2+nth X k-nth Y k-cr)%2]),by dsimp only;omega,⟨by simp[hos],hol.append (Lim.cons (Nat.mod_lt _ (by omega)) Lim.nil),hst,by dsimp only;omega,by dsimp only;omega⟩,bT h0 [2] _ _ (by decide) ⟨rfl,rfl,rfl,rfl,rfl,trivial⟩ ⟨cT (congrArg (fun l:List AV=>some (⟨5,1,l⟩:Ob)) (sS os [(2+nth X k-nth Y k-cr)%2])),rfl⟩⟩
 refine ex ?_;refine sq ?_;refine rl ?_;have hoo:=cW hol
 rw[hos]at hoo;have hXY:=cR (B:=2) (by omega) hle
 rw[hXe,hYe]at hXY;rw[aN 2 (l:=X) (by omega),aN 2 (l:=Y) (by omega),hvX,hvY]at hv2
 have hb0:cr=0:=by
  rcases Nat.eq_zero_or_pos cr with h0 | h0
  ·exact h0
  have h1:cr=1:=by omega
  rw[h1,Nat.mul_one]at hv2;omega
 rw[hb0,Nat.mul_zero,Nat.add_zero]at hv2;have htr:=eR (n:=u-v) (by omega) hol (by omega)
 refine WL.sub (wF (i:=5) (zs:=os) (zs':=os) rfl rfl rfl (by omega) rfl) ?_
 refine o1 ?_;refine ca (eQ (xs:=os) (by omega) htr) kZ ⟨a1 rfl,rfl⟩ ((bR (dg 2 (u-v)))) ?_
 refine o1 ?_;refine nl ?_;refine rt ?_;exact en (.inl rfl) rfl (eY (.one (.id rfl))) (by decide) (fun h=>by cases h) rfl
theorem Cs {u d:Nat}(hu:(dg 2 (u)).length≤900000) (hd:d<2):aO false Tryd.prog 82 [] [(bR (dg 2 (u))),.one (tv (.int .u8 ((d:Nat):Int)))] (bJ (bR (dg 2 (2*u+d)))):=by
 refine eG Tryd.func82 rfl Tryd.ntmps82 rfl aY rfl fun N9 w9 c0 h0=>?_
 refine sq ?_;refine rl ?_;refine o1 ?_;refine nl ?_;refine sq ?_;refine rl ?_;refine o1 ?_;refine bs 0 ?_;refine o1 ?_;refine nl ?_;refine sq ?_;refine rl ?_;refine o1 ?_;refine o1 ?_
 refine nQ (j:=1) aY rfl rfl rfl rfl (.sl rfl (rfl)) .fz (xF _) (vJ _) rfl (by omega) (by omega) ?_
 refine WL.sub (wF (i:=10) (zs:=(d::dg 2 u)) (zs':=(d::dg 2 u)) rfl rfl rfl (by rw[List.length_cons];omega) rfl) ?_
 refine ca (eQ (xs:=(d::dg 2 u)) (by rw[List.length_cons];omega) (Gh hd)) kZ ⟨a1 rfl,rfl⟩ ((bR (dg 2 (2*u+d)))) ?_
 refine o1 ?_;refine nl ?_;refine rt ?_;exact en (.inl rfl) rfl (eY (.one (.id rfl))) (by decide) (fun h=>by cases h) rfl
theorem Kc {u v:Nat}(hu:(dg 2 (u)).length≤900000) (hv:(dg 2 (v)).length≤900000):aO true Tryd.prog 83 [] [(bR (dg 2 (u))),(bR (dg 2 (v)))] (bJ (.one (tv (.bool (decide (u<v)))))):=by
 refine eG Tryd.func83 rfl Tryd.ntmps83 rfl aY rfl fun N9 w9 c0 h0=>?_
 have hX:=bH (B:=2) (by omega) u
 have hY:=bH (B:=2) (by omega) v
 have hvX:=bK (B:=2) (by omega) u
 have hvY:=bK (B:=2) (by omega) v
 have htX:=eR (by omega) hX hvX
 have htY:=eR (by omega) hY hvY
 refine sq ?_;refine rl ?_;refine o1 ?_;refine nl ?_;refine sq ?_;refine rl ?_;refine o1 ?_;refine ca (eQ (xs:=(dg 2 (u))) (by omega) htX) kZ ⟨a1 rfl,rfl⟩ (bR (dg 2 (u))) ?_
 refine o1 ?_;refine nl ?_;refine sq ?_;refine rl ?_;refine o1 ?_;refine ca (eQ (xs:=(dg 2 (v))) (by omega) htY) kZ ⟨a1 rfl,rfl⟩ (bR (dg 2 (v))) ?_
 refine o1 ?_;refine nl ?_;refine sq ?_;refine sq ?_;refine rl ?_;(iterate 5 refine o1 ?_);refine nl ?_;refine bZ rfl (fun h1=>?_) (fun h1=>?_)
 ·refine sq ?_;refine rl ?_;(iterate 6 refine o1 ?_);refine nl ?_;refine rt ?_;have hq:decide (((dg 2 (u)).length:Int)<((dg 2 (v)).length:Int))=decide (u<v):=by
   rcases Nat.lt_or_ge (dg 2 u).length (dg 2 v).length with h9 | h9
   ·rw[decide_eq_true (by omega),decide_eq_true (wG h9)]
   have h8:=wG (u:=v) (v:=u) (by omega)
   rw[decide_eq_false (by omega),decide_eq_false (by omega)]
  exact iH (.inl rfl) rfl (hq)
 refine sk ?_;refine sq ?_;refine sq ?_;refine rl ?_;(iterate 4 refine o1 ?_);refine nl ?_;refine bl ?_
 refine lp (γ:=Nat) (fun s=>cC [(0,.one (.t (.s false 5 1 (dg 2 (u)).length (aU (dg 2 (u)))))),(1,.one (.t (.s false 5 1 (dg 2 (v)).length (aU (dg 2 (v)))))),(5,.one (tv (.int .i64 (((s:Nat):Int)-1))))]) (fun s=>([]:List Ob).map some) (fun s=>s≤(dg 2 (u)).length∧∀j,s≤j→nth (dg 2 (u)) j=nth (dg 2 (v)) j) (fun s=>s) ((dg 2 (u)).length) (⟨Nat.le_refl _,fun j hj=>by rw[eO (by omega),eO (by omega)]⟩) (bT h0 [] _ _ (by decide) ⟨rfl,rfl,rfl,trivial⟩ rfl) ?_
 rintro i hi;refine sq ?_;refine sq ?_;refine rl ?_;refine o1 ?_;refine o1 ?_;refine nl ?_;refine bZ rfl (fun h2=>?_) (fun h2=>?_)
 ·refine sk ?_;refine sq ?_;refine bl ?_;refine sq ?_;refine rd [] (fun i=>[].contains i) mixed ?_
  refine dv 0 ?_;refine dv 1 ?_;refine WD.cast (t:=28) (u':=.int .i64 ((i-1:Nat):Int)) rfl (aQ (by omega)) ?_
  refine dv 2 ?_;refine qH 3 ([.v (.int .u8 ((nth (dg 2 (u)) (i-1):Nat):Int))]) (fO (dg 2 (u)) (k:=i-1) (by omega)) ?_
  refine dv 4 ?_;refine dv 5 ?_;refine WD.cast (t:=32) (u':=.int .i64 ((i-1:Nat):Int)) rfl (aQ (by omega)) ?_
  refine dv 6 ?_;refine qH 7 ([.v (.int .u8 ((nth (dg 2 (v)) (i-1):Nat):Int))]) (fO (dg 2 (v)) (k:=i-1) (by omega)) ?_
  refine dv 8 ?_;refine sM ?_;refine bZ rfl (fun h3=>?_) (fun h3=>?_)
  ·refine sq ?_;refine rd [] (fun i=>[9].contains i) mixed ?_
   refine dv 0 ?_;refine dv 1 ?_;refine WD.cast (t:=37) (u':=.int .i64 ((i-1:Nat):Int)) rfl (aQ (by omega)) ?_
   refine dv 2 ?_;refine qH 3 ([.v (.int .u8 ((nth (dg 2 (u)) (i-1):Nat):Int))]) (fO (dg 2 (u)) (k:=i-1) (by omega)) ?_
   refine dv 4 ?_;refine dv 5 ?_;refine WD.cast (t:=41) (u':=.int .i64 ((i-1:Nat):Int)) rfl (aQ (by omega)) ?_
   refine dv 6 ?_;refine qH 7 ([.v (.int .u8 ((nth (dg 2 (v)) (i-1):Nat):Int))]) (fO (dg 2 (v)) (k:=i-1) (by omega)) ?_
   refine dv 8 ?_;refine Ok 9 (by kernel_rfl) rfl rfl aY rfl (by trivial) ?_ (fun h=>by first | rfl | cases h)
   refine sM ?_;refine rt ?_;have hq:decide (((nth (dg 2 (u)) (i-1):Nat):Int)<((nth (dg 2 (v)) (i-1):Nat):Int))=decide (u<v):=by
    rcases Nat.lt_or_ge (nth (dg 2 u) (i-1)) (nth (dg 2 v) (i-1))with h9 | h9
    ·have h8:=Au (k:=i-1) hX (fun j hj=>hi.2 j (by omega)) h9
     rw[hvX,hvY]at h8;rw[decide_eq_true (by omega),decide_eq_true h8]
    have h8:=Au (X:=dg 2 v) (Y:=dg 2 u) (k:=i-1) hY (fun j hj=>(hi.2 j (by omega)).symm) (by omega)
    rw[hvX,hvY]at h8;rw[decide_eq_false (by omega),decide_eq_false (by omega)]
   exact iH (.inl rfl) rfl (hq)
  refine sk ?_;refine rl ?_;(iterate 3 refine o1 ?_);refine nl ?_
  exact⟨i-1,by omega,⟨by omega,fun j hj=>(Nat.eq_or_lt_of_le hj).elim (fun h9=>by rw[←h9];omega) (fun h9=>hi.2 j (by omega))⟩,bT h0 [] _ _ (by decide) ⟨rfl,rfl,nV (by omega),trivial⟩ rfl⟩
 refine ex ?_;refine sq ?_;refine rl ?_;refine o1 ?_;refine nl ?_;refine rt ?_;have he:=Gj (fun j=>hi.2 j (by omega))
 rw[hvX,hvY]at he;exact iH (.inl rfl) rfl ((decide_eq_false (by omega)).symm)
theorem lI {xs:List Nat}{u:Nat}(hl:Lim 4294967296 xs) (hx:xs.length≤10000) (hu:vl 4294967296 xs=u):aO false Tryd.prog 38 [] [.one (.t (sU false xs))] (bJ (bR (dg 2 (u)))):=by
 refine eG Tryd.func38 rfl Tryd.ntmps38 rfl aY rfl fun N9 w9 c0 h0=>?_
 refine sq ?_;refine rl ?_;refine o1 ?_;refine nl ?_;refine sq ?_;refine rl ?_;refine o1 ?_;refine nl ?_;refine sq ?_;refine sq ?_;refine rl ?_;refine o1 ?_;refine nl ?_;refine bl ?_
 refine lp (γ:=Nat×List Nat) (fun s=>cC [(0,.one (.t (sU false xs))),(3,.one (.sl 0 0 (32*s.1))),(4,.one (tv (.int .i64 ((s.1:Nat):Int))))]) (fun s=>[(⟨5,1,(aU s.2).map .t⟩:Ob)].map some) (fun s=>s.1≤xs.length∧s.2.length=32*s.1∧Lim 2 s.2∧vl 2 s.2=vl 4294967296 (xs.take s.1)) (fun s=>xs.length-s.1) (0,[]) ⟨Nat.zero_le _,rfl,Lim.nil,rfl⟩ ((nr (i:=3) 0 5 1 rfl rfl rfl rfl).trans (bT h0 [0] _ _ (by decide) ⟨rfl,rfl,rfl,trivial⟩ ⟨cT (l:=[]) rfl,rfl⟩)) ?_
 rintro⟨i,os⟩ ⟨hi,hos,hol,hv⟩;dsimp only at hi hos hol hv⊢;have hxi:=hl.nth (by omega) i
 refine sq ?_;refine sq ?_;refine rl ?_;(iterate 4 refine o1 ?_);refine nl ?_;refine bZ rfl (fun h1=>?_) (fun h1=>?_)
 ·refine sk ?_;refine sq ?_;refine bl ?_;refine sq ?_;refine rl ?_;refine o1 ?_;refine nl ?_;refine bl ?_
  refine lp (γ:=Nat×List Nat) (fun s=>cC [(0,.one (.t (sU false xs))),(3,.one (.sl 0 0 (32*i+s.1))),(4,.one (tv (.int .i64 ((i:Nat):Int)))),(5,.one (tv (.int .i64 ((s.1:Nat):Int))))]) (fun s=>[(⟨5,1,(aU s.2).map .t⟩:Ob)].map some) (fun s=>s.1≤32∧s.2.length=32*i+s.1∧Lim 2 s.2∧vl 2 s.2=vl 4294967296 (xs.take i)+2^(32*i)*(nth xs i%2^s.1)) (fun s=>32-s.1) (0,os) ⟨Nat.zero_le _,(by omega),hol,(by rw[hv,Nat.pow_zero,Nat.mod_one,Nat.mul_zero,Nat.add_zero])⟩ (bT h0 [0] _ _ (by decide) ⟨rfl,rfl,rfl,rfl,trivial⟩ ⟨cT rfl,rfl⟩) ?_
  rintro⟨k,ps⟩ ⟨hk,hos2,hol2,hv2⟩;dsimp only at hk hos2 hol2 hv2⊢;refine sq ?_;refine sq ?_;refine rl ?_;refine o1 ?_;refine o1 ?_;refine nl ?_
  refine bZ rfl (fun h2=>?_) (fun h2=>?_)
  ·refine sk ?_;refine sq ?_;refine bl ?_;refine rl ?_;(iterate 4 refine o1 ?_);refine qG ([.v (.int .u32 ((nth xs (i):Nat):Int))]) (tC xs (k:=i) (by omega)) ?_
   refine o1 ?_;refine o1 ?_;refine WL.cast (t:=22) (u':=.int .u32 ((((nth xs (i))/2^k):Nat):Int)) rfl (aQ (Me (by omega))) ?_
   refine o1 ?_;refine WL.cast (t:=23) (u':=.int .u32 ((((nth xs (i))/2^k%2):Nat):Int)) rfl (aQ (Gi (Nat.lt_of_le_of_lt (Nat.div_le_self _ _) (by omega)))) ?_
   refine o1 ?_;refine WL.cast (t:=24) (u':=.int .u8 ((((nth xs (i))/2^k%2):Nat):Int)) rfl (aQ (by omega)) ?_
   refine bs 1 ?_;refine nQ (j:=2) aY rfl rfl rfl rfl (.sl rfl (by rw[List.length_map,gG,hos2];omega)) (.sl rfl rfl rfl) rfl rfl rfl (by omega) (by omega) ?_
   refine o1 ?_;refine nl ?_;refine rl ?_;refine o1 ?_;refine o1 ?_;refine WL.cast (t:=15) (u':=.int .i64 ((k+1:Nat):Int)) rfl (aQ (by omega)) ?_
   refine o1 ?_;refine nl ?_
   exact⟨(k+1,ps++[nth xs i/2^k%2]),by dsimp only;omega,⟨by dsimp only;omega,(by dsimp only;rw[List.length_append,hos2];simp;omega),hol2.append (Lim.cons (Nat.mod_lt _ (by omega)) Lim.nil),As hos2 hv2⟩,bT h0 [2] _ _ (by decide) ⟨rfl,rfl,rfl,rfl,trivial⟩ ⟨cT (congrArg (fun l:List AV=>some (⟨5,1,l⟩:Ob)) (sS ps [nth xs i/2^k%2])),rfl⟩⟩
  refine ex ?_;refine rl ?_;refine o1 ?_;refine o1 ?_;refine WL.cast (t:=11) (u':=.int .i64 ((i+1:Nat):Int)) rfl (aQ (by omega)) ?_
  refine o1 ?_;refine nl ?_;have hk32:k=32:=by omega
  rw[hk32]at hv2
  exact⟨(i+1,ps),by dsimp only;omega,⟨by dsimp only;omega,by dsimp only;omega,hol2,(At (by omega) hv2)⟩,bT h0 [0] _ _ (by decide) ⟨rfl,(congrArg (fun n:Nat=>some (FV.one (.sl 0 0 n))) (show 32*(i+1)=32*i+k by omega)),rfl,trivial⟩ ⟨cT rfl,rfl⟩⟩
 refine ex ?_;refine sq ?_;refine rl ?_;have hi9:i=xs.length:=by omega
 rw[hi9,List.take_length,hu]at hv;have htr:=eR (by omega) hol hv
 refine WL.sub (wF (i:=3) (zs:=os) (zs':=os) rfl rfl rfl (by omega) rfl) ?_
 refine o1 ?_;refine ca (eQ (xs:=os) (by omega) htr) kZ ⟨a1 rfl,rfl⟩ ((bR (dg 2 (u)))) ?_
 refine o1 ?_;refine nl ?_;refine rt ?_;exact en (.inl rfl) rfl (eY (.one (.id rfl))) (by decide) (fun h=>by cases h) rfl
theorem Gk {u:Nat}(hu:(dg 2 (u)).length≤900000):aO true Tryd.prog 81 [] [(bR (dg 2 (u)))] (bJ (nO u)):=by
 refine eG Tryd.func81 rfl Tryd.ntmps81 rfl aY rfl fun N9 w9 c0 h0=>?_
 have hX:=bH (B:=2) (by omega) u
 have hvX:=bK (B:=2) (by omega) u
 refine sq ?_;refine rl ?_;refine o1 ?_;refine nl ?_;refine sq ?_;refine rl ?_;refine o1 ?_
 refine ca (eQ (xs:=(dg 2 (u))) (by omega) (eR (by omega) (bH (by omega) u) (bK (by omega) u))) kZ ⟨a1 rfl,rfl⟩ ((bR (dg 2 (u)))) ?_
 refine o1 ?_;refine nl ?_;refine sq ?_;refine rl ?_;refine o1 ?_;refine nl ?_;refine sq ?_;refine sq ?_;refine rl ?_;refine o1 ?_;refine nl ?_;refine bl ?_
 refine lp (γ:=Nat×List Nat) (fun s=>cC [(0,.one (.t (.s false 5 1 (dg 2 (u)).length (aU (dg 2 (u)))))),(3,.one (.sl 0 0 ((s.1+31)/32))),(4,.one (tv (.int .i64 ((s.1:Nat):Int))))]) (fun s=>[(⟨64,1,(aL s.2).map .t⟩:Ob)].map some) (fun s=>s.1≤(dg 2 (u)).length∧s.2.length=(s.1+31)/32∧Lim 4294967296 s.2∧vl 4294967296 s.2=vl 2 ((dg 2 u).take s.1)) (fun s=>(dg 2 (u)).length-s.1) (0,[]) ⟨Nat.zero_le _,rfl,Lim.nil,rfl⟩ ((nr (i:=3) 0 64 1 rfl rfl rfl rfl).trans (bT h0 [0] _ _ (by decide) ⟨rfl,rfl,rfl,trivial⟩ ⟨cT (l:=[]) rfl,rfl⟩)) ?_
 rintro⟨i,ws⟩ ⟨hi,hws,hol,hv⟩;dsimp only at hi hws hol hv⊢;refine sq ?_;refine sq ?_;refine rl ?_;(iterate 4 refine o1 ?_);refine nl ?_;refine bZ rfl (fun h1=>?_) (fun h1=>?_)
 ·refine sk ?_;refine sq ?_;refine bl ?_;refine sq ?_;refine sq ?_;refine rl ?_;refine o1 ?_;refine o1 ?_
  refine WL.cast (t:=14) (u':=.int .i64 ((i%32:Nat):Int)) rfl (aQ (gJ _ 32)) ?_;refine o1 ?_;refine nl ?_;refine bZ rfl (fun h2=>?_) (fun h2=>?_)
  ·refine rl ?_;refine o1 ?_;refine bs 1 ?_
   refine nQ (j:=2) aY rfl rfl rfl rfl (.sl rfl (by rw[List.length_map,jZ,hws];omega)) (.sl rfl rfl rfl) rfl rfl rfl (by omega) (by omega) ?_
   refine WL.sub (Ny (j:=2) (t:=64) (z:=1) (l':=(aL (ws++[0])).map .t) rfl (Cm ws [0])) ?_;refine o1 ?_;refine nl ?_
   have hvw:vl 4294967296 (ws++[0])=vl 2 ((dg 2 u).take i):=by rw[eB,Nat.mul_zero,Nat.add_zero];exact hv
   have hlw:(ws++[0]).length=i/32+1:=by rw[List.length_append];simp;omega
   have hb1:=wI hX hvw
   have hb2:=hX.nth (by omega) i
   have hb3:2^(i%32)≤2^31:=Nat.pow_le_pow_right (by omega) (by omega)
   have hb4:=qO (ws:=(ws++[0])) (X:=dg 2 u) (i:=i) (by omega) hvw
   have hb5:nth (dg 2 u) i*2^(i%32)≤1*2^(i%32):=Nat.mul_le_mul_right _ (by omega)
   have hlim:Lim 4294967296 ((ws++[0]).set (i/32) (nth (ws++[0]) (i/32)+nth (dg 2 u) i*2^(i%32))):=Lim.set (hol.append (Lim.cons (by omega) Lim.nil)) _ (by omega)
   refine rd [1,2] (fun i=>[18].contains i) mixed ?_
   refine dv 0 ?_;refine dv 1 ?_;refine dv 2 ?_ (hC:=(lF 32 (by omega) (by simp only[eT];omega)))
   refine WD.cast (t:=21) (u':=.int .i64 ((i/32:Nat):Int)) rfl (aQ (gK _ 32)) ?_;refine dv 3 ?_;refine dv 4 ?_
   refine dv 5 ?_ (hC:=(lF 32 (by omega) (by simp only[eT];omega)))
   refine WD.cast (t:=24) (u':=.int .i64 ((i/32:Nat):Int)) rfl (aQ (gK _ 32)) ?_;refine dv 6 ?_;refine Il 7 (Ab (ws++[0]) (k:=i/32) (by omega)) ?_
   refine dv 8 ?_;refine dv 9 ?_;refine dv 10 ?_;refine qH 11 ([.v (.int .u8 ((nth (dg 2 (u)) (i):Nat):Int))]) (fO (dg 2 (u)) (k:=i) (by omega)) ?_
   refine dv 12 ?_;refine WD.cast (t:=31) (u':=.int .u32 ((nth (dg 2 (u)) (i):Nat):Int)) rfl (aQ (by omega)) ?_
   refine dv 13 ?_;refine dv 14 ?_;refine WD.cast (t:=33) (u':=.int .i64 ((i%32:Nat):Int)) rfl (aQ (gJ _ 32)) ?_;refine dv 15 ?_
   refine WD.cast (t:=34) (u':=.int .u32 (((nth (dg 2 (u)) (i)*2^(i%32)):Nat):Int)) rfl (aQ (Ea (by omega) (by omega))) ?_
   refine dv 16 ?_;refine WD.cast (t:=35) (u':=.int .u32 ((nth (ws++[0]) (i/32)+(nth (dg 2 (u)) (i)*2^(i%32)):Nat):Int)) rfl (aQ (by omega)) ?_
   refine dv 17 ?_;refine xC 18 (vW (ws++[0]) (k:=i/32) (v:=nth (ws++[0]) (i/32)+(nth (dg 2 (u)) (i)*2^(i%32))) (by omega)) (Ac (ws++[0]) (by omega)) ?_
   refine sM ?_;refine rl ?_;refine o1 ?_;refine o1 ?_;refine WL.cast (t:=12) (u':=.int .i64 ((i+1:Nat):Int)) rfl (aQ (by omega)) ?_
   refine o1 ?_;refine nl ?_
   exact⟨(i+1,(ws++[0]).set (i/32) (nth (ws++[0]) (i/32)+nth (dg 2 u) i*2^(i%32))),by dsimp only;omega,⟨by dsimp only;omega,(by dsimp only;rw[List.length_set];omega),hlim,hb4⟩,bT h0 [2] _ _ (by decide) ⟨rfl,(congrArg (fun n:Nat=>some (FV.one (.sl 2 0 n))) (by omega)),rfl,trivial⟩ ⟨cT rfl,rfl⟩⟩
  refine sk ?_;have hvw:=hv
  have hlw:ws.length=i/32+1:=by omega
  have hb1:=wI hX hvw
  have hb2:=hX.nth (by omega) i
  have hb3:2^(i%32)≤2^31:=Nat.pow_le_pow_right (by omega) (by omega)
  have hb4:=qO (ws:=ws) (X:=dg 2 u) (i:=i) (by omega) hvw
  have hb5:nth (dg 2 u) i*2^(i%32)≤1*2^(i%32):=Nat.mul_le_mul_right _ (by omega)
  have hlim:Lim 4294967296 (ws.set (i/32) (nth ws (i/32)+nth (dg 2 u) i*2^(i%32))):=Lim.set (hol) _ (by omega)
  refine rd [0] (fun i=>[18].contains i) mixed ?_
  refine dv 0 ?_;refine dv 1 ?_;refine dv 2 ?_ (hC:=(lF 32 (by omega) (by simp only[eT];omega)))
  refine WD.cast (t:=21) (u':=.int .i64 ((i/32:Nat):Int)) rfl (aQ (gK _ 32)) ?_;refine dv 3 ?_;refine dv 4 ?_
  refine dv 5 ?_ (hC:=(lF 32 (by omega) (by simp only[eT];omega)))
  refine WD.cast (t:=24) (u':=.int .i64 ((i/32:Nat):Int)) rfl (aQ (gK _ 32)) ?_;refine dv 6 ?_;refine Il 7 (Ab ws (k:=i/32) (by omega)) ?_
  refine dv 8 ?_;refine dv 9 ?_;refine dv 10 ?_;refine qH 11 ([.v (.int .u8 ((nth (dg 2 (u)) (i):Nat):Int))]) (fO (dg 2 (u)) (k:=i) (by omega)) ?_
  refine dv 12 ?_;refine WD.cast (t:=31) (u':=.int .u32 ((nth (dg 2 (u)) (i):Nat):Int)) rfl (aQ (by omega)) ?_
  refine dv 13 ?_;refine dv 14 ?_;refine WD.cast (t:=33) (u':=.int .i64 ((i%32:Nat):Int)) rfl (aQ (gJ _ 32)) ?_;refine dv 15 ?_
  refine WD.cast (t:=34) (u':=.int .u32 (((nth (dg 2 (u)) (i)*2^(i%32)):Nat):Int)) rfl (aQ (Ea (by omega) (by omega))) ?_
  refine dv 16 ?_;refine WD.cast (t:=35) (u':=.int .u32 ((nth ws (i/32)+(nth (dg 2 (u)) (i)*2^(i%32)):Nat):Int)) rfl (aQ (by omega)) ?_
  refine dv 17 ?_;refine xC 18 (vW ws (k:=i/32) (v:=nth ws (i/32)+(nth (dg 2 (u)) (i)*2^(i%32))) (by omega)) (Ac ws (by omega)) ?_
  refine sM ?_;refine rl ?_;refine o1 ?_;refine o1 ?_;refine WL.cast (t:=12) (u':=.int .i64 ((i+1:Nat):Int)) rfl (aQ (by omega)) ?_
  refine o1 ?_;refine nl ?_
  exact⟨(i+1,ws.set (i/32) (nth ws (i/32)+nth (dg 2 u) i*2^(i%32))),by dsimp only;omega,⟨by dsimp only;omega,(by dsimp only;rw[List.length_set];omega),hlim,hb4⟩,bT h0 [0] _ _ (by decide) ⟨rfl,(congrArg (fun n:Nat=>some (FV.one (.sl 0 0 n))) (by omega)),rfl,trivial⟩ ⟨cT rfl,rfl⟩⟩
 refine ex ?_;refine sq ?_;refine rl ?_;refine o1 ?_;refine o1 ?_;refine nl ?_;refine rt ?_;have hi9:i=(dg 2 (u)).length:=by omega
 rw[hi9,List.take_length,hvX]at hv;rw[hi9]at hws;have hwd:=Av hol hv hws
 exact en (.inl rfl) rfl (eY (.one (.sl (trs:=aL ws) rfl rfl (by rw[hi9,←hws];exact jF _) (by rw[hi9,←hws];exact dL _)))) (by decide) (fun _=>.inl ⟨rfl,fH _⟩) (by rw[hi9,←hws];exact congrArg (fun l:List Nat=>FV.one (.t (sU true l))) hwd)
theorem tK {u v:Nat}(hu:(dg 2 (u)).length≤200000) (hv:(dg 2 (v)).length≤200000) (hv0:v≠0):aO false Tryd.prog 44 [] [(bR (dg 2 (u))),(bR (dg 2 (v)))] (bJ (.tup [(bR (dg 2 (u/v))),(bR (dg 2 (u%v)))])):=by
 refine eG Tryd.func44 rfl Tryd.ntmps44 rfl aY rfl fun N9 w9 c0 h0=>?_
 have hX:=bH (B:=2) (by omega) u
 have hvX:=bK (B:=2) (by omega) u
 refine sq ?_;refine rl ?_;refine o1 ?_;refine o1 ?_;refine nl ?_;refine sq ?_;refine rl ?_;refine o1 ?_;refine o1 ?_;refine nl ?_;refine sq ?_;refine sq ?_;refine rl ?_
 (iterate 4 refine o1 ?_);refine nl ?_;refine bl ?_
 refine lp (γ:=Nat×Nat×Nat) (fun s=>cC [(0,.one (.t (.s false 5 1 (dg 2 (u)).length (aU (dg 2 (u)))))),(1,.one (.t (.s false 5 1 (dg 2 (v)).length (aU (dg 2 (v)))))),(6,.one (.t (.s false 5 1 (dg 2 (s.2.1)).length (aU (dg 2 (s.2.1)))))),(7,.one (.t (.s false 5 1 (dg 2 (s.2.2)).length (aU (dg 2 (s.2.2)))))),(8,.one (tv (.int .i64 (((s.1:Nat):Int)-1))))]) (fun s=>([]:List Ob).map some) (fun s=>s.1≤(dg 2 (u)).length∧s.2.1*v+s.2.2=vl 2 ((dg 2 (u)).drop s.1)∧s.2.2<v) (fun s=>s.1) ((dg 2 (u)).length,0,0) ⟨Nat.le_refl _,(by rw[List.drop_length];simp[vl]),Nat.pos_of_ne_zero hv0⟩ (((((nr (i:=6) 0 5 1 rfl rfl rfl rfl).trans (wF (i:=6) (zs:=[]) (zs':=[]) rfl rfl rfl rfl rfl)).trans (nr (i:=7) 1 5 1 rfl rfl rfl rfl)).trans (wF (i:=7) (zs:=[]) (zs':=[]) rfl rfl rfl rfl rfl)).trans (bT h0 [] _ _ (by decide) ⟨rfl,rfl,rfl,rfl,rfl,trivial⟩ rfl)) ?_
 rintro⟨i,q,r⟩ ⟨hi,hq,hr⟩;dsimp only at hi hq hr⊢;refine sq ?_;refine sq ?_;refine rl ?_;refine o1 ?_;refine o1 ?_;refine nl ?_;refine bZ rfl (fun h1=>?_) (fun h1=>?_)
 ·refine sk ?_;refine sq ?_;refine bl ?_;refine sq ?_;have hds:=dJ 2 (l:=(dg 2 (u))) (k:=i) (by omega) hi
  have hni:=hX.nth (by omega) (i-1)
  have hdl:=xZ (B:=2) (l:=(dg 2 (u))) (k:=i) (by omega) hi
  have hrl:=fJ (Nat.le_of_lt hr) hv
  have hrl2:(dg 2 (2*r+nth (dg 2 (u)) (i-1))).length≤200001:=fJ (show 2*r+nth (dg 2 (u)) (i-1)≤v+v by omega) (Gg hv hv)
  have hqv:q≤q*v:=Nat.le_mul_of_pos_right q (by omega)
  have hql:(dg 2 (q)).length≤200000:=fJ (show q≤u by omega) hu
  refine rl ?_;(iterate 3 refine o1 ?_);refine WL.cast (t:=19) (u':=.int .i64 ((i-1:Nat):Int)) rfl (aQ (by omega)) ?_
  refine o1 ?_;refine qG ([.v (.int .u8 ((nth (dg 2 (u)) (i-1):Nat):Int))]) (fO (dg 2 (u)) (k:=i-1) (by omega)) ?_
  refine ca (Cs (u:=r) (d:=nth (dg 2 (u)) (i-1)) (by omega) (by omega)) Bz ⟨a1 rfl,a1 rfl,rfl⟩ ((bR (dg 2 (2*r+nth (dg 2 (u)) (i-1))))) ?_
  refine o1 ?_;refine nl ?_;refine sq ?_;refine rl ?_;refine o1 ?_;refine nl ?_;refine sq ?_;refine sq ?_;refine rl ?_;refine o1 ?_;refine o1 ?_
  refine ca (Kc (u:=2*r+nth (dg 2 (u)) (i-1)) (v:=v) (by omega) (by omega)) Nu ⟨a1 rfl,a1 rfl,rfl⟩ (.one (tv (.bool (decide (2*r+nth (dg 2 (u)) (i-1)<v))))) ?_
  refine o1 ?_;refine nl ?_;refine mA rfl (fun h2=>?_) (fun h2=>?_)
  ·refine sq ?_;have hge:¬2*r+nth (dg 2 (u)) (i-1)<v:=of_decide_eq_false (Dr h2)
   refine rl ?_;refine o1 ?_;refine o1 ?_
   refine ca (Mf (u:=2*r+nth (dg 2 (u)) (i-1)) (v:=v) (by omega) (by omega) (by omega)) Nv ⟨a1 rfl,a1 rfl,rfl⟩ ((bR (dg 2 (2*r+nth (dg 2 (u)) (i-1)-v)))) ?_
   refine o1 ?_;refine nl ?_;refine rl ?_;refine o1 ?_;refine nl ?_;refine rl ?_;refine o1 ?_;refine o1 ?_
   refine ca (Cs (u:=q) (d:=1) (by omega) (by omega)) Bz ⟨a1 rfl,a1 rfl,rfl⟩ ((bR (dg 2 (2*q+1)))) ?_
   refine o1 ?_;refine nl ?_;refine rl ?_;(iterate 3 refine o1 ?_);refine nl ?_
   exact⟨(i-1,2*q+1,2*r+nth (dg 2 (u)) (i-1)-v),by dsimp only;omega,⟨by dsimp only;omega,(by dsimp only;rw[hds,←hq,Nat.add_mul,Nat.mul_assoc];omega),by dsimp only;omega⟩,bT h0 [] _ _ (by decide) ⟨rfl,rfl,rfl,rfl,nV (by omega),trivial⟩ rfl⟩
  refine sk ?_;refine rl ?_;refine o1 ?_;refine o1 ?_;refine ca (Cs (u:=q) (d:=0) (by omega) (by omega)) Bz ⟨a1 rfl,a1 rfl,rfl⟩ ((bR (dg 2 (2*q+0)))) ?_
  refine o1 ?_;refine nl ?_;refine rl ?_;(iterate 3 refine o1 ?_);refine nl ?_;have hlt:2*r+nth (dg 2 (u)) (i-1)<v:=of_decide_eq_true (vK h2)
  exact⟨(i-1,2*q+0,2*r+nth (dg 2 (u)) (i-1)),by dsimp only;omega,⟨by dsimp only;omega,(by dsimp only;rw[hds,←hq,Nat.add_mul,Nat.mul_assoc];omega),by dsimp only;omega⟩,bT h0 [] _ _ (by decide) ⟨rfl,rfl,rfl,rfl,nV (by omega),trivial⟩ rfl⟩
 refine ex ?_;refine sq ?_;refine rl ?_;(iterate 4 refine o1 ?_);refine nl ?_;refine rt ?_;have hi0:i=0:=by omega
 rw[hi0,List.drop_zero,hvX]at hq;have hdq:u/v=q:=by rw[←hq,Nat.mul_comm,Nat.mul_add_div (by omega),Nat.div_eq_of_lt hr,Nat.add_zero]
 have hdr:u%v=r:=by rw[←hq,Nat.mul_comm,Nat.mul_add_mod,Nat.mod_eq_of_lt hr]
 exact en (.inl rfl) rfl (iG (.cons (.one (.id rfl)) (.cons (.one (.id rfl)) .nil))) (by decide) (fun h=>by cases h) (by rw[hdq,hdr];rfl)
theorem Mg {u v:Nat}(hu:(dg 2 (u)).length≤200000) (hv:(dg 2 (v)).length≤200000):aO false Tryd.prog 37 [] [(bR (dg 2 (u))),(bR (dg 2 (v)))] (bJ (bR (dg 2 (Nat.gcd u v)))):=by
 refine eG Tryd.func37 rfl Tryd.ntmps37 rfl aY rfl fun N9 w9 c0 h0=>?_
 refine sq ?_;refine rl ?_;refine o1 ?_;refine nl ?_;refine sq ?_;refine bl ?_
 refine lp (γ:=Nat×Nat) (fun s=>cC [(0,.one (.t (.s false 5 1 (dg 2 (s.1)).length (aU (dg 2 (s.1)))))),(1,.one (.t (.s false 5 1 (dg 2 (s.2)).length (aU (dg 2 (s.2))))))]) (fun s=>([]:List Ob).map some) (fun s=>Nat.gcd s.1 s.2=Nat.gcd u v∧(dg 2 (s.1)).length≤200000∧(dg 2 (s.2)).length≤200000) (fun s=>s.2) (u,v) ⟨rfl,hu,hv⟩ (bT h0 [] _ _ (by decide) ⟨rfl,rfl,trivial⟩ rfl) ?_
 rintro⟨p,q⟩ ⟨hg,hlp,hlq⟩;dsimp only at hg hlp hlq⊢;refine sq ?_;refine sq ?_;refine rl ?_;refine o1 ?_
 refine ca (eQ (xs:=(dg 2 (q))) (by omega) (eR (by omega) (bH (by omega) q) (bK (by omega) q))) kZ ⟨a1 rfl,rfl⟩ ((bR (dg 2 (q)))) ?_
 refine o1 ?_;refine o1 ?_;refine nl ?_;refine bZ rfl (fun h1=>?_) (fun h1=>?_)
 ·refine sk ?_;refine bl ?_;refine sq ?_;have hq0:q≠0:=Jy (by omega)
  have hmq:=Nat.mod_lt p (Nat.pos_of_ne_zero hq0)
  have hml:=fJ (Nat.le_of_lt hmq) hlq
  have hgs:Nat.gcd q (p%q)=Nat.gcd u v:=by rw[←hg,Nat.gcd_comm q,←Nat.gcd_rec,Nat.gcd_comm]
  refine rl ?_;refine o1 ?_;refine o1 ?_;refine ca (tK (u:=p) (v:=q) (by omega) (by omega) hq0) Ih ⟨a1 rfl,a1 rfl,rfl⟩ (.tup [(bR (dg 2 (p/q))),(bR (dg 2 (p%q)))]) ?_
  (iterate 5 refine o1 ?_);refine nl ?_;refine sq ?_;refine rl ?_;refine o1 ?_;refine o1 ?_;refine nl ?_;refine rl ?_;refine o1 ?_;refine o1 ?_;refine nl ?_
  exact⟨(q,p%q),by dsimp only;omega,⟨hgs,hlq,hml⟩,bT h0 [] _ _ (by decide) ⟨rfl,rfl,trivial⟩ rfl⟩
 refine ex ?_;refine sq ?_;have hq0:q=0:=Aq (by omega)
 rw[hq0,Nat.gcd_zero_right]at hg;refine rl ?_;refine o1 ?_
 refine ca (eQ (xs:=(dg 2 (p))) (by omega) (eR (by omega) (bH (by omega) p) (bK (by omega) p))) kZ ⟨a1 rfl,rfl⟩ ((bR (dg 2 (p)))) ?_
 refine o1 ?_;refine nl ?_;refine rt ?_;exact en (.inl rfl) rfl (eY (.one (.id rfl))) (by decide) (fun h=>by cases h) (by rw[hg];rfl)
theorem Aw {xs:List Nat}(hl:Lim 4294967296 xs) (h:xs.length≤1000000):Nn xs (val xs):=⟨hl,h,rfl⟩
theorem nB {xs:List Nat}{L:Nat}(hl:Lim 4294967296 xs) (h:xs.length≤L):(dg 2 (val xs)).length≤32*L:=Cr (by unfold val;rw[cY (by omega) hl];exact Nat.le_trans (bN _) h)
theorem Mh {l:List (List Nat)}{k:Nat}(hl:∀x∈l,Lim 4294967296 x) (h:∀j,j<k→(cN l j).length≤8) (hk:l.length≤k):RL 1000 l:=by
 intro xs hx
 refine⟨hl xs hx,?_⟩
 obtain⟨j,hj⟩:=List.mem_iff_getElem?.1 hx
 have h1:=(List.getElem?_eq_some_iff.1 hj).1
 rw[tH h1]at hj
 injection hj with hj
 have:=h j (by omega)
 rw[hj]at this
 omega
theorem rB {xs:List Nat}{u:Nat}(hx:xs.length≤1000000) (hu:(dg 2 (u)).length≤900000) (hxu:xs=(dg 4294967296 (u))):aO true Tryd.prog 41 [] [nF xs,(bR (dg 2 (u)))] (bJ (.one (tv (.bool true)))):=by
 refine eG Tryd.func41 rfl Tryd.ntmps41 rfl aY rfl fun N9 w9 c0 h0=>?_
 refine sq ?_;refine rl ?_;refine o1 ?_;refine nl ?_;refine sq ?_;refine rl ?_;refine o1 ?_;refine o1 ?_;refine ca (Gk hu) Nt ⟨a1 rfl,rfl⟩ (nF (dg 4294967296 (u))) ?_
 refine ca (dM (xs:=xs) (ys:=(dg 4294967296 (u))) hx hxu) gW ⟨a1 rfl,a1 rfl,rfl⟩ (.one (tv (.bool true))) ?_;refine o1 ?_;refine nl ?_;refine rt ?_;exact iH (.inl rfl) rfl (rfl)
theorem tL {xs:List Nat}(hx:xs.length≤1000000):aO true Tryd.prog 39 [] [nF xs] (bJ (.one (.t (sU true xs)))):=by
 refine eG Tryd.func39 rfl Tryd.ntmps39 rfl aY rfl fun N9 w9 c0 h0=>?_
 refine sq ?_;refine rl ?_;refine o1 ?_;refine nl ?_;refine sq ?_;refine rl ?_;refine o1 ?_;refine nl ?_;refine sq ?_;refine rl ?_;refine o1 ?_;refine o1 ?_
 refine nQ (j:=0) aY rfl rfl rfl rfl .nil .fz (Jl _) (Cj _) rfl (by omega) (by omega) ?_
 refine o1 ?_;refine nl ?_;refine rt ?_
 exact en (.inl rfl) rfl (eY (.one (.sl (trs:=aL xs) rfl rfl (by rw[Nat.zero_add];exact jF _) (by rw[Nat.zero_add];exact dL _)))) (by decide) (fun _=>.inl ⟨rfl,fH _⟩) (by rw[Nat.zero_add];rfl)
theorem Ct {u v L:Nat}(hu:(dg 2 u).length≤L) (hv:(dg 2 v).length≤L):(dg 2 (Nat.gcd u v)).length≤L:=by
 rcases Nat.eq_zero_or_pos u with h | h
 ·subst h;rw[Nat.gcd_zero_left];exact hv
 exact fJ (Nat.gcd_le_left v h) hu
theorem uC {xs ys:List Nat}{l:List (List Nat)}(hxs:Lim 4294967296 xs) (hys:Lim 4294967296 ys) (hl:∀x∈l,Lim 4294967296 x):aO true Tryd.prog 5 [] [nF xs,nF ys,.one (.t (.s false 22 1 l.length (rT l)))] (bJ (.one (tv (.bool true)))):=by
 refine eG Tryd.func5 rfl Tryd.ntmps5 rfl aY rfl fun N9 w9 c0 h0=>?_
 refine sq ?_;refine rl ?_;refine o1 ?_;refine nl ?_;refine sq ?_;refine sq ?_;refine rl ?_;(iterate 4 refine o1 ?_);refine WL.split (t:=19) rfl (fun h1=>?_) (fun h1=>?_)
 ·(iterate 3 refine nR ?_);refine o1 ?_;refine o1 ?_;(iterate 3 refine nR ?_);refine o1 ?_;refine nl ?_;refine uP rfl ?_;refine sq ?_;refine rl ?_
  refine ca (gL) pE rfl (.one (tv (.bool true))) ?_;refine o1 ?_;refine nl ?_;refine rt ?_;exact iH (.inl rfl) rfl (rfl)
 (iterate 5 refine o1 ?_);refine WL.split (t:=24) rfl (fun h2=>?_) (fun h2=>?_)
 ·(iterate 3 refine nR ?_);refine o1 ?_;refine nl ?_;refine uP rfl ?_;refine sq ?_;refine rl ?_;refine ca (gL) pE rfl (.one (tv (.bool true))) ?_;refine o1 ?_;refine nl ?_
  refine rt ?_;exact iH (.inl rfl) rfl (rfl)
 (iterate 4 refine o1 ?_);refine nl ?_;refine bZ rfl (fun h3=>?_) (fun h3=>?_)
 ·refine sq ?_;refine rl ?_;refine ca (gL) pE rfl (.one (tv (.bool true))) ?_;refine o1 ?_;refine nl ?_;refine rt ?_;exact iH (.inl rfl) rfl (rfl)
 refine sk ?_;refine sq ?_;refine rl ?_;refine o1 ?_;refine nl ?_;refine sq ?_;refine sq ?_;refine rl ?_;refine o1 ?_;refine nl ?_;refine bl ?_
 refine lp (γ:=Nat) (fun s=>cC [(0,.one (.t (sU false xs))),(1,.one (.t (sU false ys))),(2,.one (.t (.s false 22 1 l.length (rT l)))),(7,.one (.t (.s false 5 1 (dg 2 (cK (l.take s))).length (aU (dg 2 (cK (l.take s))))))),(8,.one (tv (.int .i64 ((s:Nat):Int))))]) (fun s=>([]:List Ob).map some) (fun s=>s≤l.length∧(dg 2 (cK (l.take s))).length≤256∧∀j,j<s→(cN l j).length≤8) (fun s=>l.length-s) 0 (⟨Nat.zero_le _,by show(dg 2 0).length≤_;decide,fun j hj=>absurd hj (by omega)⟩) (((nr (i:=7) 0 5 1 rfl rfl rfl rfl).trans (wF (i:=7) (zs:=[]) (zs':=[]) rfl rfl rfl rfl rfl)).trans (bT h0 [] _ _ (by decide) ⟨rfl,rfl,rfl,rfl,rfl,trivial⟩ rfl)) ?_
 rintro i hi;refine sq ?_;refine sq ?_;refine rl ?_;(iterate 4 refine o1 ?_);refine nl ?_;refine bZ rfl (fun h4=>?_) (fun h4=>?_)
 ·refine sk ?_;refine sq ?_;refine bl ?_;refine sq ?_;refine sq ?_;refine rl ?_;(iterate 3 refine o1 ?_);refine qG ([sU false (cN l (i))]) (xX l (k:=i) (by omega)) ?_
  refine o1 ?_;refine o1 ?_;refine nl ?_;refine bZ rfl (fun h5=>?_) (fun h5=>?_)
  ·refine sq ?_;refine rl ?_;refine ca (gL) pE rfl (.one (tv (.bool true))) ?_;refine o1 ?_;refine nl ?_;refine rt ?_;exact iH (.inl rfl) rfl (rfl)
  refine sk ?_;have hb9:=nB (L:=8) (hl _ (fI (l:=l) (k:=i) (by omega))) (by omega)
  have hm9:(dg 2 (Nat.gcd (cK (l.take i)) (val (cN l i)))).length≤256:=Ct hi.2.1 hb9
  refine rl ?_;(iterate 4 refine o1 ?_);refine qG ([sU false (cN l (i))]) (xX l (k:=i) (by omega)) ?_
  refine ca (lI (xs:=(cN l (i))) (u:=val (cN l (i))) (hl _ (fI (by omega))) (by omega) rfl) sJ ⟨a1 rfl,rfl⟩ ((bR (dg 2 (val (cN l (i)))))) ?_
  refine ca (Mg (u:=cK (l.take i)) (v:=val (cN l i)) (by omega) (by omega)) No ⟨a1 rfl,a1 rfl,rfl⟩ ((bR (dg 2 (Nat.gcd (cK (l.take i)) (val (cN l i)))))) ?_
  refine o1 ?_;refine nl ?_;refine rl ?_;refine o1 ?_;refine o1 ?_;refine WL.cast (t:=35) (u':=.int .i64 ((i+1:Nat):Int)) rfl (aQ (by omega)) ?_
  refine o1 ?_;refine nl ?_
  exact⟨i+1,by omega,⟨by omega,by rw[←tI (by omega)];exact hm9,fun j hj=>(Nat.lt_or_ge j i).elim (hi.2.2 j) (fun h=>by rw[show j=i by omega];omega)⟩,bT h0 [] _ _ (by decide) ⟨rfl,rfl,rfl,(congrArg (fun z:Nat=>some (bR (dg 2 z))) (tI (l:=l) (k:=i) (by omega)).symm),rfl,trivial⟩ rfl⟩
 refine ex ?_;refine sq ?_;refine rl ?_;have hi9:i=l.length:=by omega
 have hRL:=Mh hl hi.2.2 (by omega)
 have hpl:=hi.2.1
 rw[hi9,List.take_length]at hpl;have hpd:=nA (L:=100) (u:=cK l) (by omega)
 have hb1:=nB (L:=16) hxs (by omega)
 have hb2:=nB (L:=16) hys (by omega)
 have hNx:=Aw hxs (by omega)
 have hNy:=Aw hys (by omega)
 have hlx:=Nn.len hNx (Nat.le_refl _)
 have hly:=Nn.len hNy (Nat.le_refl _)
 refine WL.sub (Nz (i:=7) rfl (congrArg (fun z:List (List Nat)=>bR (dg 2 (cK z))) (show l.take i=l by rw[hi9,List.take_length]))) ?_
 refine o1 ?_;refine ca (tL (xs:=xs) (by omega)) Ig ⟨a1 rfl,rfl⟩ (nF xs) ?_
 refine o1 ?_;refine ca (tL (xs:=ys) (by omega)) Ig ⟨a1 rfl,rfl⟩ (nF ys) ?_
 refine o1 ?_;refine o1 ?_;refine nl ?_;refine sq ?_;refine rl ?_;rcases Classical.em (val ys=0)with hv0 | hv0
 ·refine o1 ?_;refine o1 ?_;refine ca (Ak hNx (hv0▸hNy)) wY ⟨a1 rfl,a1 rfl,rfl⟩ (.tup [nF (dg 4294967296 (0)),nF (dg 4294967296 (0)),.one (tv (.int .i64 20))]) ?_
  (iterate 7 refine o1 ?_);refine nl ?_;refine sq ?_;refine sq ?_;refine rl ?_;refine o1 ?_;refine ca (xY hRL (by omega)) Bx ⟨a1 rfl,rfl⟩ (nF (dg 4294967296 (cK l))) ?_
  refine o1 ?_;refine ca (rB (xs:=(dg 4294967296 (cK l))) (u:=cK l) (by omega) (by omega) rfl) wZ ⟨a1 rfl,a1 rfl,rfl⟩ (.one (tv (.bool true))) ?_
  (iterate 4 refine o1 ?_);refine ca (dM (xs:=xs) (ys:=xs) (by omega) rfl) gW ⟨a1 rfl,a1 rfl,rfl⟩ (.one (tv (.bool true))) ?_
  (iterate 5 refine o1 ?_);refine ca (dM (xs:=ys) (ys:=ys) (by omega) rfl) gW ⟨a1 rfl,a1 rfl,rfl⟩ (.one (tv (.bool true))) ?_
  refine o1 ?_;refine o1 ?_;refine nl ?_;refine pW rfl ?_;refine sk ?_;refine sq ?_;refine sq ?_;refine rl ?_;refine o1 ?_
  refine ca (lI (xs:=ys) (u:=val ys) hys (by omega) rfl) sJ ⟨a1 rfl,rfl⟩ ((bR (dg 2 (val ys)))) ?_
  refine o1 ?_;refine o1 ?_;refine WL.cast (t:=81) (u':=.bool true) rfl (congrArg Value.bool (decide_eq_true (by rw[hv0];rfl))) ?_
  refine nl ?_;refine uP rfl ?_;refine sq ?_;refine rl ?_;refine o1 ?_;refine o1 ?_;refine WL.cast (t:=83) (u':=.bool true) rfl (congrArg Value.bool (decide_eq_true rfl)) ?_
  (iterate 4 refine o1 ?_);refine WL.cast (t:=87) (u':=.bool true) rfl (congrArg Value.bool (decide_eq_true rfl)) ?_;(iterate 5 refine o1 ?_)
  refine WL.cast (t:=92) (u':=.bool true) rfl (congrArg Value.bool (decide_eq_true rfl)) ?_;refine o1 ?_;refine o1 ?_;refine ca (gL) pE rfl (.one (tv (.bool true))) ?_
  refine o1 ?_;refine o1 ?_;refine nl ?_;refine rt ?_;exact iH (.inl rfl) rfl (rfl)
 have hmv:=Nat.mod_lt (val xs) (Nat.pos_of_ne_zero hv0)
 have hd1:=fJ (Nat.div_le_self (val xs) (val ys)) hb1
 have hd2:=fJ (Nat.le_of_lt hmv) hb2
 have hd3:=nA (L:=100) (u:=val xs/val ys) (by omega)
 have hd4:=nA (L:=100) (u:=val xs%val ys) (by omega)
 refine o1 ?_;refine o1 ?_
 refine ca (mY (q:=val xs/val ys) (r:=val xs%val ys) hNx hNy hv0 rfl rfl) wY ⟨a1 rfl,a1 rfl,rfl⟩ (.tup [nF (dg 4294967296 (val xs/val ys)),nF (dg 4294967296 (val xs%val ys)),.one (tv (.int .i64 0))]) ?_
 (iterate 7 refine o1 ?_);refine nl ?_;refine sq ?_;refine sq ?_;refine rl ?_;refine o1 ?_;refine ca (xY hRL (by omega)) Bx ⟨a1 rfl,rfl⟩ (nF (dg 4294967296 (cK l))) ?_
 refine o1 ?_;refine ca (rB (xs:=(dg 4294967296 (cK l))) (u:=cK l) (by omega) (by omega) rfl) wZ ⟨a1 rfl,a1 rfl,rfl⟩ (.one (tv (.bool true))) ?_
 (iterate 4 refine o1 ?_);refine ca (dM (xs:=xs) (ys:=xs) (by omega) rfl) gW ⟨a1 rfl,a1 rfl,rfl⟩ (.one (tv (.bool true))) ?_
 (iterate 5 refine o1 ?_);refine ca (dM (xs:=ys) (ys:=ys) (by omega) rfl) gW ⟨a1 rfl,a1 rfl,rfl⟩ (.one (tv (.bool true))) ?_
 refine o1 ?_;refine o1 ?_;refine nl ?_;refine pW rfl ?_;refine sk ?_;refine sq ?_;refine sq ?_;refine rl ?_;refine o1 ?_
 refine ca (lI (xs:=ys) (u:=val ys) hys (by omega) rfl) sJ ⟨a1 rfl,rfl⟩ ((bR (dg 2 (val ys)))) ?_
 refine o1 ?_;refine o1 ?_;refine WL.cast (t:=81) (u':=.bool false) rfl (congrArg Value.bool (decide_eq_false fun h=>hv0 (Aq (by omega)))) ?_
 refine nl ?_;refine pW rfl ?_;refine sk ?_;refine sq ?_;refine rl ?_;refine o1 ?_
 refine ca (lI (xs:=xs) (u:=val xs) hxs (by omega) rfl) sJ ⟨a1 rfl,rfl⟩ ((bR (dg 2 (val xs)))) ?_
 refine o1 ?_;refine ca (lI (xs:=ys) (u:=val ys) hys (by omega) rfl) sJ ⟨a1 rfl,rfl⟩ ((bR (dg 2 (val ys)))) ?_
 refine ca (tK (u:=val xs) (v:=val ys) (by omega) (by omega) hv0) Ih ⟨a1 rfl,a1 rfl,rfl⟩ (.tup [(bR (dg 2 (val xs/val ys))),(bR (dg 2 (val xs%val ys)))]) ?_
 (iterate 5 refine o1 ?_);refine nl ?_;refine sq ?_;refine rl ?_;refine o1 ?_;refine o1 ?_
 refine WL.cast (t:=106) (u':=.bool true) rfl (congrArg Value.bool (decide_eq_true rfl)) ?_;(iterate 3 refine o1 ?_)
 refine ca (rB (xs:=(dg 4294967296 (val xs/val ys))) (u:=val xs/val ys) (by omega) (by omega) rfl) wZ ⟨a1 rfl,a1 rfl,rfl⟩ (.one (tv (.bool true))) ?_
 (iterate 4 refine o1 ?_);refine ca (rB (xs:=(dg 4294967296 (val xs%val ys))) (u:=val xs%val ys) (by omega) (by omega) rfl) wZ ⟨a1 rfl,a1 rfl,rfl⟩ (.one (tv (.bool true))) ?_
 refine o1 ?_;refine o1 ?_;refine ca (gL) pE rfl (.one (tv (.bool true))) ?_;refine o1 ?_;refine o1 ?_;refine nl ?_;refine rt ?_;exact iH (.inl rfl) rfl (rfl)
end Go.Proofs.YteggpgndiajdpaaDoor
namespace Go.Proofs.YteggpgndiajdpaaDoor
open Go Go.RowKit Go.ChangeShapes
def Reads (P:Program) (t:TypeId) (z:Nat) (T:List Tr→Prop):Prop:=
 P.cellsOf t=z∧∀(H:Type) (enc:TypeId×Value→H) (w:World) (fuel:Nat) (cs:List Value) (x:DataW H×List MemPlace),DataW.trod enc P w 0 (fun _=>true) true fuel t cs=some x→∃l,T l∧l.length=z∧FRL w (qK w) l cs
theorem wK {W:World}{N:Nat→Prop}:∀{l l':List Tr}{us us':List Value},FRL W N l us→FRL W N l' us'→FRL W N (l++l') (us++us')
 | [],l',us,us',h,h'=>by simp only[FRL]at h;subst h;exact h'
 | x::l,l',u::us,us',h,h'=>by simp only[FRL,List.cons_append]at*;exact⟨h.1,wK h.2 h'⟩
 | _::_,_,[],_,h,_=>by simp only[FRL]at h
theorem wL {W:World}{N:Nat→Prop}:∀{l:List Tr}{us:List Value}{j:Nat}{x:Tr},FRL W N l us→l[j]? =some x→∃u,us[j]? =some u∧FR W N x u
 | [],_,_,_,_,h=>by simp at h
 | y::l,u::us,0,x,h,e=>by
  simp only[FRL]at h
  simp at e
  subst e
  exact⟨u,rfl,h.1⟩
 | y::l,u::us,j+1,x,h,e=>by
  simp only[FRL]at h
  exact wL (j:=j) h.2 (by simpa using e)
 | _::_,[],_,_,h,_=>by simp only[FRL]at h
section
variable {P:Program}{t e:TypeId}{k:IntKind}{z:Nat}{T T':List Tr→Prop}
theorem Reads.mono (h:Reads P t z T) (hi:∀l,T l→T' l):Reads P t z T':=⟨h.1,fun H enc w fuel cs x hx=>let ⟨l,a,b⟩:=h.2 H enc w fuel cs x hx;⟨l,hi l a,b⟩⟩
theorem Kd (ht:P.underlying t=some (.int k)) (hz:P.cellsOf t=1):Reads P t 1 (fun l=>∃n,l=[.v (.int k n)]∧k.min≤n∧n≤k.max):=⟨hz,fun H enc w fuel cs x hx=>by
 obtain⟨n,rfl,_,h⟩:=DataW.trod_int ht hx
 simp only[Lit.wf,Bool.and_eq_true,decide_eq_true_eq]at h
 exact⟨_,⟨n,rfl,h⟩,rfl,by simp[FRL,FR]⟩⟩
inductive Flds (P:Program):Nat→List Field→Nat→(List Tr→Prop)→Prop
 | nil {o:Nat}:Flds P o [] 0 (· =[])
 | cons {o z z':Nat}{f:Field}{fs:List Field}{T T':List Tr→Prop}(ho:f.offset=o) (h:Reads P f.type z T) (h':Flds P (o+z) fs z' T'):Flds P o (f::fs) (z+z') (fun l=>∃a b,l=a++b∧T a∧T' b)
theorem Flds.read {H:Type}{enc:TypeId×Value→H}{w:World}{n o:Nat}{fs:List Field}(h:Flds P o fs z T):∀{cs:List Value},o+z≤cs.length→(∀f∈fs,∃x,DataW.trod enc P w 0 (fun _=>true) true n f.type ((cs.drop f.offset).take (P.cellsOf f.type))=some x)→∃l,T l∧l.length=z∧FRL w (qK w) l ((cs.drop o).take z):=by
 induction h with
 | nil=>exact fun _ _=>⟨[],rfl,rfl,by simp[FRL]⟩
 | @cons o z z' f fs T T' ho hr _ ih=>
  intro cs hl hf
  obtain⟨b,h1,h2,h3⟩:=ih (cs:=cs) (by omega) fun f hm=>hf f (List.mem_cons_of_mem _ hm)
  obtain⟨x,hx⟩:=hf f List.mem_cons_self
  obtain⟨a,g1,g2,g3⟩:=hr.2 H enc w n _ x hx
  rw[ho,hr.1]at g3
  refine⟨a++b,⟨a,b,rfl,g1,h1⟩,by simp[g2,h2],?_⟩
  rw[List.take_add,List.drop_drop]
  exact wK g3 h3
theorem tM (ht:P.underlying t=some (.slice e)) (hz:P.cellsOf t=1) (hz0:0<z) (h:Reads P e z T):Reads P t 1 (fun l=>∃rows:List (List Tr),(∀r∈rows,T r∧r.length=z)∧l=[.s false e z rows.length rows.flatten]):=⟨hz,fun H enc w fuel cs x hx=>by
 have hlen:∀(rows:List (List Tr)),(∀r∈rows,T r∧r.length=z)→rows.flatten.length=rows.length*z:=by
  intro rows
  induction rows with
  | nil=>intro _;simp
  | cons r rows ih=>
   intro hr
   rw[List.flatten_cons,List.length_append,(hr r List.mem_cons_self).2,ih fun r hm=>hr r (List.mem_cons_of_mem _ hm),List.length_cons,Nat.succ_mul,Nat.add_comm]
 rcases Deep.open_slice ht hx with⟨rfl,_⟩ | ⟨a,len,cap,m,n,D,Pl,rfl,_,hl,hm,hmm,_,hel⟩
 ·refine⟨_,⟨[],fun _ h=>(by cases h),rfl⟩,rfl,?_⟩
  simp only[FRL,FR,and_true]
  exact⟨none,0,rfl,Nat.le_refl _,by omega,by simp,.inl rfl⟩
 have hmc:m=cap:=by simpa using hmm
 rw[h.1]at hel
 have hex:∀i:Nat,∃l:List Tr,i<len→T l∧l.length=z∧∀j y,l[j]? =some y→∃u,w.cell? ((a.add (i*z)).add j)=some u∧FR w (qK w) y u:=fun i=>by
  by_cases hi:i<len
  ·obtain⟨cs',h1,h2⟩:=hel i (by omega)
   obtain⟨l,g1,g2,g3⟩:=h.2 H enc w n cs' _ h2
   obtain⟨_,h3,h4⟩:=World.cells?_some h1
   refine⟨l,fun _=>⟨g1,g2,fun j y hj=>?_⟩⟩
   obtain⟨u,hu,hy⟩:=wL g3 hj
   have hjl:=(List.getElem?_eq_some_iff.1 hj).1
   exact⟨u,by rw[h4 j (by omega),hu],hy⟩
  exact⟨[],fun h=>absurd h hi⟩
 have hF:=fun i=>Classical.choose_spec (hex i)
 have hrow:∀r∈(List.range len).map (fun i=>Classical.choose (hex i)),T r∧r.length=z:=fun r hr=>by
  obtain⟨i,hi,rfl⟩:=List.mem_map.1 hr
  have:=hF i (List.mem_range.1 hi)
  exact⟨this.1,this.2.1⟩
 refine⟨_,⟨_,hrow,rfl⟩,rfl,?_⟩
 have h5:=hlen _ hrow
 simp only[FRL,and_true,FR]
 refine⟨some a,cap,by simp,by simpa using hl,by unfold maxLen at hm;omega,h5,?_⟩
 rcases Nat.eq_zero_or_pos len with h0 | h0
 ·exact .inl (by simp[h0])
 refine .inr ⟨a,rfl,?_,kL fun j y hj=>?_⟩
 ·obtain⟨_,g2,g3⟩:=hF 0 h0
  obtain⟨u,hu,_⟩:=g3 0 _ (List.getElem?_eq_getElem (by omega))
  have:=World.block_lt_of_cell? w ((a.add (0*z)).add 0) hu
  rwa[cQ,cQ]at this
 have hjl:=(List.getElem?_eq_some_iff.1 hj).1
 rw[h5,List.length_map,List.length_range]at hjl
 have hi:j/z<len:=Nat.div_lt_of_lt_mul (by rw[Nat.mul_comm];exact hjl)
 obtain⟨_,g2,g3⟩:=hF (j/z) hi
 have hz1:=Nat.mod_lt j hz0
 have hget:∀(rows:List (List Tr)),(∀r∈rows,T r∧r.length=z)→∀(i o:Nat) (r:List Tr),rows[i]? =some r→o<z→rows.flatten[i*z+o]? =r[o]? :=by
  intro rows
  induction rows with
  | nil=>intro _ i o r h;simp at h
  | cons r rows ih=>
   intro hr i o r' hi ho
   have hrl:=(hr r List.mem_cons_self).2
   cases i with
   | zero=>
    simp at hi
    subst hi
    rw[Nat.zero_mul,Nat.zero_add,List.flatten_cons,List.getElem?_append_left (by omega)]
   | succ i=>
    rw[List.flatten_cons,List.getElem?_append_right (by rw[Nat.succ_mul];omega),hrl,show(i+1)*z+o-z=i*z+o by rw[Nat.succ_mul];omega]
    exact ih (fun r hm=>hr r (List.mem_cons_of_mem _ hm)) i o r' (by simpa using hi) ho
 have hd:=Nat.div_add_mod j z
 rw[Nat.mul_comm]at hd
 rw[←hd,hget _ hrow (j/z) (j%z) (Classical.choose (hex (j/z))) (by simp[hi]) hz1]at hj
 obtain⟨u,hu,hy⟩:=g3 _ _ hj
 refine⟨u,?_,hy⟩
 rw[Nat.zero_add]
 have e2:(a.add (j/z*z)).add (j%z)=a.add j:=by rw[iQ,hd]
 rwa[e2]at hu⟩
theorem pM {α:Type}(f:α→List Tr) (Q:α→Prop):∀{rows:List (List Tr)},(∀r∈rows,∃a,Q a∧r=f a)→∃xs:List α,(∀a∈xs,Q a)∧rows.flatten=xs.flatMap f∧rows.length=xs.length
 | [],_=>⟨[],fun _ h=>(by cases h),rfl,rfl⟩
 | r::rows,h=>by
  obtain⟨a,h1,rfl⟩:=h r List.mem_cons_self
  obtain⟨xs,h2,h3,h4⟩:=pM f Q fun r hm=>h r (List.mem_cons_of_mem _ hm)
  exact⟨a::xs,fun b hb=>(List.mem_cons.1 hb).elim (fun e=>e▸h1) (h2 b),by simp[h3],by simp[h4]⟩
theorem Cu (ht:P.underlying t=some (.slice e)) (he:P.underlying e=some (.int .u32)) (hz:P.cellsOf t=1) (hze:P.cellsOf e=1) (hn:e=64):Reads P t 1 (fun l=>∃xs:List Nat,Lim 4294967296 xs∧l=[sU false xs]):=
 (tM ht hz (by omega) (Kd he hze)).mono fun l ⟨rows,h1,h2⟩=>by
  obtain⟨xs,h3,h4,h5⟩:=pM (fun n:Nat=>[Tr.v (.int .u32 (n:Int))]) (fun n=>n<4294967296) (rows:=rows) fun r hr=>by
   obtain⟨⟨n,rfl,h1,h2⟩,_⟩:=h1 r hr
   have e1:IntKind.u32.min=0:=rfl
   have e2:IntKind.u32.max=4294967295:=rfl
   rw[e1]at h1
   rw[e2]at h2
   exact⟨n.toNat,by omega,by rw[Int.toNat_of_nonneg h1]⟩
  refine⟨xs,h3,?_⟩
  rw[h2,h4,h5,sU,hn]
  have:∀xs:List Nat,xs.flatMap (fun n:Nat=>[Tr.v (.int .u32 (n:Int))])=aL xs:=by
   intro xs
   induction xs with
   | nil=>rfl
   | cons n xs ih=>rw[List.flatMap_cons,ih];rfl
  rw[this]
end
def LimF (a:Fr4):Prop:=Lim 4294967296 a.x∧Lim 4294967296 a.y
theorem LimF.ok {a:Fr4}(h:LimF a) (h2:a.x.length≤6∧a.y.length≤6):a.ok:=⟨h.1,h.2,by omega,by omega⟩
end Go.Proofs.YteggpgndiajdpaaDoor
namespace Go.Proofs.YteggpgndiajdpaaDoor
open Go Go.ChangeShapes Go.WideShapes Go.ChangeAt Go.RowKit
theorem Ke:Tryd.prog.cellsOf 64=1:=by kernel_rfl
theorem Cv:Tryd.prog.cellsOf 22=1:=by kernel_rfl
theorem tN {W:World}{y:Tr}{u:Value}(hu:u.cells.toList=[u]) (h:FRL W (qK W) [y] u.cells.toList):aJ W (qK W) [] (.one (.t y)) u:=by
 rw[hu]at h
 simp only[FRL,and_true]at h
 simpa only[aJ,AR]using h
theorem tO:Reads Tryd.prog 22 1 (fun l=>∃xs:List Nat,Lim 4294967296 xs∧l=[sU false xs]):=Cu Tryd.underlying22 Tryd.underlying64 Cv Ke rfl
theorem Cw:Tryd.prog.cellsOf 51=1:=by kernel_rfl
theorem Gl:Reads Tryd.prog 51 1 (fun l=>∃xs:List (List Nat),(∀x∈xs,Lim 4294967296 x)∧l=[.s false 22 1 xs.length (rT xs)]):=
 (tM Tryd.underlying51 Cw (by omega) tO).mono fun l ⟨rows,h1,h2⟩=>by
  obtain⟨xs,h3,h4,h5⟩:=pM (fun x:List Nat=>[sU false x]) (fun x:List Nat=>Lim 4294967296 x) (rows:=rows) fun r hr=>(h1 r hr).1
  refine⟨xs,h3,?_⟩
  have e:∀xs:List (List Nat),xs.flatMap (fun x:List Nat=>[sU false x])=rT xs:=by
   intro xs
   induction xs with
   | nil=>rfl
   | cons n xs ih=>rw[List.flatMap_cons,ih];rfl
  rw[h2,h4,h5,e]
end Go.Proofs.YteggpgndiajdpaaDoor
