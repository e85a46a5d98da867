/- Part 7 of a proof: Th to Rib5. -/
import Derived.Test.YteggpgndiajdpaaDoorM6
import Derived.Test.YteggpgndiajdpaaDoorM5
import Derived.Test.YteggpgndiajdpaaDoorM4
import Derived.ProofKit
import Derived.ChangeOld
import Derived.Deep.Slices
import Derived.Deep.Strs
import Derived.WalkKit
import Derived.OpenShut
import Derived.Below
import Derived.Carry
set_option maxRecDepth 100000
set_option linter.unusedVariables false
set_option linter.unusedSimpArgs false
namespace Go.Proofs.YteggpgndiajdpaaDoor
open Go Go.RowKit
def Nn (xs:List Nat) (u:Nat):Prop:=Lim 4294967296 xs∧xs.length≤1000000∧vl 4294967296 xs=u
theorem Nn.of {u:Nat}(h:(dg 4294967296 u).length≤1000000):Nn (dg 4294967296 u) u:=⟨bK (by omega) _,h,bT (by omega) _⟩
theorem Nn.eqT {xs:List Nat}{u:Nat}(h:Nn xs u):dg 4294967296 u=trim xs:=by rw[←h.2.2,cY (by omega) h.1]
theorem Nn.len {xs:List Nat}{u L:Nat}(h:Nn xs u) (hL:xs.length≤L):(dg 4294967296 u).length≤L:=by rw[h.eqT];exact Nat.le_trans (bM _) hL
section
variable {xs ys:List Nat}{u v w q r:Nat}
abbrev nF (xs:List Nat):FV:=.one (.t (sU false xs))
abbrev nO (u:Nat):FV:=.one (.t (sU true (dg 4294967296 u)))
theorem rE (hx:Nn xs u) (hy:Nn ys v) (e:u*v=w):aP true Tryd.prog 49 [] [nF xs,nF ys] (bI (nO w)):=by
 obtain⟨a,b,rfl⟩:=hx
 obtain⟨c,d,rfl⟩:=hy
 exact e▸Lo a c (by omega) (by omega)
theorem Jr (hx:Nn xs u):aP true Tryd.prog 47 [] [nF xs] (bI (nO u)):=wB hx.1 (Nat.le_trans hx.2.1 (by omega)) hx.2.2
theorem xY {m:Nat}(hx:Nn xs u) (hm:m<4294967296) (e:u*m=w):aP true Tryd.prog 87 [] [nF xs,.one (tv (.int .u32 (m:Int)))] (bI (nO w)):=by
 obtain⟨a,b,rfl⟩:=hx
 exact e▸oH a (by omega) hm
theorem tL (hx:Nn xs u) (hy:Nn ys v) (h0:v≠0) (hq:u/v=q) (hr:u%v=r):aP true Tryd.prog 40 [] [nF xs,nF ys] (bI (.tup [nO q,nO r,.one (tv (.int .i64 0))])):=by
 obtain⟨a,b,rfl⟩:=hx
 obtain⟨c,d,rfl⟩:=hy
 subst hq hr
 exact Ci a c (by omega) (by omega) h0
theorem Lr (hx:Nn xs u):aP true Tryd.prog 46 [] [nF xs] (bI (.one (tv (.string (aT (tx u)))))):=Lq hx.2.1 hx.1 hx.2.2
end
def rT (l:List (List Nat)):List Tr:=l.map (sU false)
def cE (l:List (List Nat)) (k:Nat):List Nat:=l.getD k []
theorem tM:∀(l:List (List Nat)){k:Nat},k<l.length→((rT l).drop (k*1)).take [sU false (cE l k)].length=[sU false (cE l k)]
 | [],_,h=>by simp at h
 | _::_,0,_=>rfl
 | _::l,k+1,h=>by
  have:=tM l (k:=k) (by simpa using h)
  simp only[Nat.mul_one]at this⊢
  exact this
theorem fL {l:List (List Nat)}{k:Nat}(h:k<l.length):cE l k∈l:=by
 unfold cE
 rw[List.getD_eq_getElem?_getD,List.getElem?_eq_getElem h]
 exact List.getElem_mem h
theorem mZ {l:List (List Nat)}{k:Nat}(h:k<l.length):l[k]? =some (cE l k):=by simp[cE,h]
def val (xs:List Nat):Nat:=vl 4294967296 xs
def gC (l:List (List Nat)):Nat:=l.foldl (fun g xs=>Nat.gcd g (val xs)) 0
def bZ (l:List (List Nat)):Nat:=l.foldl (fun g xs=>g*val xs) 1
theorem Js {l:List (List Nat)}{k:Nat}(h:k<l.length):Nat.gcd (gC (l.take k)) (val (cE l k))=gC (l.take (k+1)):=by
 rw[List.take_add_one,mZ h]
 simp[gC]
theorem lY {l:List (List Nat)}{k:Nat}(h:k<l.length):bZ (l.take k)*val (cE l k)=bZ (l.take (k+1)):=by
 rw[List.take_add_one,mZ h]
 simp[bZ]
def RL (M:Nat) (l:List (List Nat)):Prop:=∀xs∈l,Lim 4294967296 xs∧xs.length≤M
theorem RL.nn {M k:Nat}{l:List (List Nat)}(h:RL M l) (hM:M≤1000000) (hk:k<l.length):Nn (cE l k) (val (cE l k)):=⟨(h _ (fL hk)).1,Nat.le_trans (h _ (fL hk)).2 hM,rfl⟩
theorem RL.len {M k:Nat}{l:List (List Nat)}(h:RL M l) (hk:k<l.length):(dg 4294967296 (val (cE l k))).length≤M:=by
 unfold val
 rw[cY (by omega) (h _ (fL hk)).1]
 exact Nat.le_trans (bM _) (h _ (fL hk)).2
def oK (n:Int):Int:=if n<0 then 2 else if 4096<n then 3 else 0
def Ak (x:Nat) (n:Int):Nat:=if oK n=0 then x^n.toNat else 0
theorem wG {x m:Nat}(h:x<4294967296):(dg 4294967296 (x^m)).length≤m+1:=by
 refine aI (by omega) (Nat.lt_of_le_of_lt (Nat.pow_le_pow_left (Nat.le_of_lt h) m) ?_)
 exact Nat.pow_lt_pow_right (by omega) (by omega)
theorem Al {j:Nat}(h:j≤12):4096/2^j=2^(12-j):=by
 rw[show(4096:Nat)=2^12 from rfl,Nat.pow_div h (by omega)]
theorem Cn (n i:Nat):n&&& 2^i=n/2^i%2*2^i:=by
 apply Nat.eq_of_testBit_eq
 intro k
 rw[Nat.testBit_and,Nat.testBit_two_pow]
 rcases Nat.mod_two_eq_zero_or_one (n/2^i)with h | h
 ·rw[h,Nat.zero_mul,Nat.zero_testBit]
  by_cases hk:i=k
  ·subst hk
   rw[Nat.testBit_eq_decide_div_mod_eq,h]
   rfl
  rw[decide_eq_false hk,Bool.and_false]
 rw[h,Nat.one_mul,Nat.testBit_two_pow]
 by_cases hk:i=k
 ·subst hk
  rw[Nat.testBit_eq_decide_div_mod_eq,h]
  rfl
 rw[decide_eq_false hk,Bool.and_false]
theorem wH {n j:Nat}(h:j≤12):n&&&(4096/2^j)=n/2^(12-j)%2*2^(12-j):=by
 rw[Al h,Cn]
theorem Fy {a b:Nat}(ha:a<9223372036854775808) (hb:b<9223372036854775808):IntKind.i64.wrap ((BitVec.ofInt IntKind.i64.bits (a:Int)&&& BitVec.ofInt IntKind.i64.bits (b:Int)).toNat:Int)=((a&&& b:Nat):Int):=by
 have e:IntKind.i64.bits=64:=rfl
 rw[e,BitVec.toNat_and,BitVec.ofInt_natCast,BitVec.ofInt_natCast,BitVec.toNat_ofNat,BitVec.toNat_ofNat,Nat.mod_eq_of_lt (by omega),Nat.mod_eq_of_lt (by omega)]
 have h1:a&&& b≤a:=Nat.and_le_left
 simp[IntKind.wrap,IntKind.signed,IntKind.bits]
 omega
theorem tN {j:Nat}:Int.fdiv ((4096/2^j:Nat):Int) (2^(min (1:Int).toNat IntKind.i64.bits))=((4096/2^(j+1):Nat):Int):=by
 have e:(2:Int)^(min (1:Int).toNat IntKind.i64.bits)=((2:Nat):Int):=by decide
 rw[e,Int.fdiv_eq_ediv,if_pos (Or.inl (by omega)),Int.sub_zero,←Int.natCast_ediv,Nat.div_div_eq_div_mul,←Nat.pow_succ]
theorem wI {n j:Nat}(h:j≤12):n/2^(12-j)=2*(n/2^(13-j))+n/2^(12-j)%2:=by
 have e:2^(13-j)=2^(12-j)*2:=by rw[show 13-j=(12-j)+1 by omega,Nat.pow_succ]
 rw[e,←Nat.div_div_eq_div_mul]
 omega
theorem Ls {x n j:Nat}(h:j≤12) (hb:n&&&(4096/2^j)=0):x^(n/2^(13-j))*x^(n/2^(13-j))=x^(n/2^(12-j)):=by
 rw[wH h]at hb
 have h1:n/2^(12-j)%2=0:=by
  rcases Nat.mul_eq_zero.1 hb with h2 | h2
  ·exact h2
  have:=Nat.pow_pos (n:=12-j) (show 0<2 by omega);omega
 rw[←Nat.pow_add,wI h,h1]
 congr 1
 omega
theorem Lu {x n j:Nat}(h:j≤12) (hb:n&&&(4096/2^j)≠0):x^(n/2^(13-j))*x^(n/2^(13-j))*x=x^(n/2^(12-j)):=by
 rw[wH h]at hb
 have h1:n/2^(12-j)%2=1:=by
  rcases Nat.mod_two_eq_zero_or_one (n/2^(12-j))with h2 | h2
  ·rw[h2,Nat.zero_mul]at hb;exact absurd rfl hb
  exact h2
 rw[←Nat.pow_add,←Nat.pow_succ,wI h,h1]
 congr 1
 omega
theorem pO {l:List (List Nat)}:dg 4294967296 (bZ (l.take 0))=[1]:=by
 show dg 4294967296 1=[1]
 decide
theorem Fz {xs ys:List Nat}(h:¬xs.length=ys.length):false=decide (xs=ys):=(decide_eq_false fun e=>h (by rw[e])).symm
theorem Ga {xs ys:List Nat}{k:Nat}(h:¬nth xs k=nth ys k):false=decide (xs=ys):=(decide_eq_false fun e=>h (by rw[e])).symm
theorem Gb {xs ys:List Nat}{k:Nat}(hl:xs.length=ys.length) (hk:xs.take k=ys.take k) (hk2:xs.length≤k):true=decide (xs=ys):=by
 rw[tJ hk2,tJ (by omega)]at hk
 exact(decide_eq_true hk).symm
theorem Am {l:List (List Nat)}(hr:RL 1000 l) (hl:l.length≤100):aP true Tryd.prog 51 [] [.one (.t (.s false 22 1 l.length (rT l)))] (bI (nO (bZ l))):=by
 refine eH Tryd.func51 rfl Tryd.ntmps51 rfl aW rfl fun N9 w9 c0 h0=>?_
 refine sq ?_;refine rl ?_;refine o1 ?_;refine nl ?_;refine sq ?_;refine rl ?_;refine bs 0 ?_;refine o1 ?_;refine nl ?_;refine sq ?_;refine sq ?_;refine rl ?_;(iterate 3 refine o1 ?_)
 refine nl ?_;refine bl ?_
 refine lp (γ:=Nat) (fun s=>cD [(3,.one (.sl 0 0 ((dg 4294967296 (bZ (l.take s))).length))),(7,.one (.t (.s false 22 1 l.length (rT l)))),(8,.one (tv (.int .i64 ((l.length:Nat):Int)))),(9,.one (tv (.int .i64 ((s:Nat):Int))))]) (fun s=>[(⟨64,1,(aG (dg 4294967296 (bZ (l.take s)))).map .t⟩:Ob)].map some) (fun s=>s≤l.length∧(dg 4294967296 (bZ (l.take s))).length≤1+1000*s) (fun s=>l.length-s) 0 (⟨Nat.zero_le _,by rw[pO];decide⟩) (bO h0 [0] _ _ (by decide) ⟨(congrArg (fun l:List Nat=>some (FV.one (.sl 0 0 l.length))) pO),rfl,rfl,rfl,trivial⟩ ⟨bV (congrArg (fun l:List Nat=>some (⟨64,1,(aG l).map .t⟩:Ob)) pO.symm),rfl⟩) ?_
 rintro i hi;refine sq ?_;refine rl ?_;refine o1 ?_;refine nl ?_;refine sq ?_;refine cA rfl (fun h1=>?_) (fun h1=>?_)
 ·refine sk ?_;refine sq ?_;refine bl ?_;refine sq ?_;refine rl ?_;refine o1 ?_;refine nS ([sU false (cE l (i))]) (tM l (k:=i) (by omega)) ?_
  refine o1 ?_;refine nl ?_;have hml:=hr.len (k:=i) (by omega)
  have hml2:=fA (bZ (l.take i)) (val (cE l i))
  refine rl ?_;refine o1 ?_;refine o1 ?_
  refine mB 1 (rE (Nn.of (by omega)) (hr.nn (by omega) (by omega)) (lY (by omega))) xA ⟨dM rfl (.sl rfl rfl (eJ _) (cM _)),a1 rfl,rfl⟩ ?_
  refine o1 ?_;refine nl ?_;refine rl ?_;refine o1 ?_;refine WL.cast (t:=16) (u':=.int .i64 ((i+1:Nat):Int)) rfl (aM (by omega)) ?_
  refine o1 ?_;refine nl ?_;exact⟨i+1,by omega,⟨by omega,by rw[←lY (by omega)];omega⟩,bO h0 [1] _ _ (by decide) ⟨rfl,rfl,rfl,rfl,trivial⟩ ⟨bV rfl,rfl⟩⟩
 refine ex ?_;refine sq ?_;refine rl ?_;refine o1 ?_;refine o1 ?_;refine nl ?_;refine rt ?_;have hk9:i=l.length:=by omega
 exact en (.inl rfl) rfl (eY (.one (.sl (trs:=aG (dg 4294967296 (bZ (l.take i)))) rfl rfl (gY _) (cM _)))) (by decide) (fun _=>.inl ⟨rfl,eQ _⟩) (by rw[hk9,List.take_of_length_le (Nat.le_refl _)];rfl)
theorem Lw {l:List (List Nat)}(hr:RL 1000 l) (hl:l.length≤100):aP true Tryd.prog 42 [] [.one (.t (.s false 22 1 l.length (rT l)))] (bI (nO (gC l))):=by
 refine eH Tryd.func42 rfl Tryd.ntmps42 rfl aW rfl fun N9 w9 c0 h0=>?_
 refine sq ?_;refine rl ?_;refine o1 ?_;refine nl ?_;refine sq ?_;refine rl ?_;refine o1 ?_;refine nl ?_;refine sq ?_;refine sq ?_;refine rl ?_;(iterate 3 refine o1 ?_);refine nl ?_
 refine bl ?_
 refine lp (γ:=Nat) (fun s=>cD [(9,.one (.t (.s false 22 1 l.length (rT l)))),(10,.one (tv (.int .i64 ((l.length:Nat):Int)))),(3,.one (.t (sU false (dg 4294967296 (gC (l.take s)))))),(11,.one (tv (.int .i64 ((s:Nat):Int))))]) (fun s=>([]:List Ob).map some) (fun s=>s≤l.length∧(dg 4294967296 (gC (l.take s))).length≤1000) (fun s=>l.length-s) 0 (⟨Nat.zero_le _,by show(dg 4294967296 0).length≤1000;decide⟩) (((nr (i:=3) 0 64 1 rfl rfl rfl rfl).trans (Ac (i:=3) (zs:=[]) (zs':=[]) rfl rfl rfl rfl rfl)).trans (bO h0 [] _ _ (by decide) ⟨rfl,rfl,rfl,rfl,trivial⟩ rfl)) ?_
 rintro i hi;refine sq ?_;refine rl ?_;refine o1 ?_;refine nl ?_;refine sq ?_;refine cA rfl (fun h1=>?_) (fun h1=>?_)
 ·refine sk ?_;refine sq ?_;refine bl ?_;refine sq ?_;refine rl ?_;refine o1 ?_;refine nS ([sU false (cE l (i))]) (tM l (k:=i) (by omega)) ?_
  refine o1 ?_;refine nl ?_;refine sq ?_;refine rl ?_;refine o1 ?_;refine ca (Jr (hr.nn (by omega) (by omega))) If ⟨a1 rfl,rfl⟩ (.one (.t (sU false (dg 4294967296 (val (cE l i)))))) ?_
  refine o1 ?_;refine nl ?_;refine bl ?_
  refine lp (γ:=Nat×Nat) (fun s=>cD [(9,.one (.t (.s false 22 1 l.length (rT l)))),(10,.one (tv (.int .i64 ((l.length:Nat):Int)))),(11,.one (tv (.int .i64 ((i:Nat):Int)))),(3,.one (.t (sU false (dg 4294967296 (s.1))))),(5,.one (.t (sU false (dg 4294967296 (s.2)))))]) (fun s=>([]:List Ob).map some) (fun s=>Nat.gcd s.1 s.2=Nat.gcd (gC (l.take i)) (val (cE l i))∧(dg 4294967296 (s.1)).length≤1000∧(dg 4294967296 (s.2)).length≤1000) (fun s=>s.2) (gC (l.take i),val (cE l i)) ⟨rfl,hi.2,hr.len (by omega)⟩ (bO h0 [] _ _ (by decide) ⟨rfl,rfl,rfl,rfl,rfl,trivial⟩ rfl) ?_
  rintro⟨u,v⟩ ⟨hg,hu,hv⟩;dsimp only at hg hu hv⊢;refine sq ?_;refine sq ?_;refine rl ?_;(iterate 3 refine o1 ?_);refine nl ?_;refine cA rfl (fun h2=>?_) (fun h2=>?_)
  ·refine sk ?_;refine bl ?_;refine sq ?_;have hv0:v≠0:=Nat.pos_iff_ne_zero.1 (nW (B:=4294967296) (u:=v) (by omega))
   have hmv:=Nat.mod_lt u (Nat.pos_of_ne_zero hv0)
   have hml:(dg 4294967296 (u%v)).length≤1000:=Nat.le_trans (qP (Nat.le_of_lt hmv)) hv
   have hgs:Nat.gcd v (u%v)=Nat.gcd (gC (l.take i)) (val (cE l i)):=by rw[←hg,Nat.gcd_comm v,←Nat.gcd_rec,Nat.gcd_comm]
   refine rl ?_;refine o1 ?_;refine o1 ?_
   refine ca (tL (Nn.of (u:=u) (by omega)) (Nn.of (u:=v) (by omega)) hv0 rfl rfl) Id ⟨a1 rfl,a1 rfl,rfl⟩ (.tup [nF (dg 4294967296 (u/v)),nF (dg 4294967296 (u%v)),.one (tv (.int .i64 0))]) ?_
   (iterate 7 refine o1 ?_);refine nl ?_;refine rl ?_;(iterate 4 refine o1 ?_);refine nl ?_
   exact⟨(v,u%v),by dsimp only;omega,⟨hgs,hv,hml⟩,bO h0 [] _ _ (by decide) ⟨rfl,rfl,rfl,rfl,rfl,trivial⟩ rfl⟩
  refine ex ?_;refine rl ?_;refine o1 ?_;refine WL.cast (t:=29) (u':=.int .i64 ((i+1:Nat):Int)) rfl (aM (by omega)) ?_
  refine o1 ?_;refine nl ?_;have hv0:v=0:=(cC (B:=4294967296) (by omega)).1 (List.eq_nil_of_length_eq_zero (by omega))
  have hgu:gC (l.take (i+1))=u:=by rw[←Js (by omega),←hg,hv0,Nat.gcd_zero_right]
  exact⟨i+1,by omega,⟨by omega,by rw[hgu];exact hu⟩,bO h0 [] _ _ (by decide) ⟨rfl,rfl,(congrArg (fun z:Nat=>some (nF (dg 4294967296 z))) hgu),rfl,trivial⟩ rfl⟩
 refine ex ?_;refine sq ?_;refine rl ?_;refine o1 ?_;refine mB 0 (Fs (bK (by omega) _) (by omega)) Ns ⟨a1 rfl,rfl⟩ ?_
 refine o1 ?_;refine nl ?_;refine rt ?_;have hk9:i=l.length:=by omega
 exact en (.inl rfl) rfl (eY (.one (.sl (trs:=aG (dg 4294967296 (gC (l.take i)))) rfl rfl (gY _) (cM _)))) (by decide) (fun _=>.inl ⟨rfl,eQ _⟩) (by rw[hk9,List.take_of_length_le (Nat.le_refl _)];rfl)
theorem Lx {x:Nat}{n:Int}(hx:x<4294967296):aP true Tryd.prog 48 [] [.one (tv (.int .u32 ((x:Nat):Int))),.one (tv (.int .i64 n))] (bI (.tup [nO (Ak x n),.one (tv (.int .i64 (oK n)))])):=by
 refine eH Tryd.func48 rfl Tryd.ntmps48 rfl aW rfl fun N9 w9 c0 h0=>?_
 refine sq ?_;refine rl ?_;refine o1 ?_;refine o1 ?_;refine nl ?_;refine sq ?_;refine bl ?_;refine sq ?_;refine rl ?_;(iterate 3 refine o1 ?_);refine nl ?_
 refine cA rfl (fun h1=>?_) (fun h1=>?_)
 ·refine sq ?_;refine rl ?_;refine o1 ?_;refine o1 ?_;refine nl ?_;refine rt ?_;have he:oK n=2:=by unfold oK;rw[if_pos (by omega)]
  exact en (.inl rfl) rfl (iW (.cons (.one (.nil (t:=64) (z:=1))) (.cons (dV _) .nil))) (by decide) (fun _=>⟨.inl ⟨rfl,trivial⟩,trivial,trivial⟩) (by rw[he,Ak,he,if_neg (by decide)];rfl)
 refine sq ?_;refine rl ?_;(iterate 3 refine o1 ?_);refine nl ?_;refine cA rfl (fun h2=>?_) (fun h2=>?_)
 ·refine sq ?_;refine rl ?_;refine o1 ?_;refine o1 ?_;refine nl ?_;refine rt ?_;have he:oK n=3:=by unfold oK;rw[if_neg (by omega),if_pos (by omega)]
  exact en (.inl rfl) rfl (iW (.cons (.one (.nil (t:=64) (z:=1))) (.cons (dV _) .nil))) (by decide) (fun _=>⟨.inl ⟨rfl,trivial⟩,trivial,trivial⟩) (by rw[he,Ak,he,if_neg (by decide)];rfl)
 refine sk ?_;refine sq ?_;refine rl ?_;refine bs 0 ?_;refine o1 ?_;refine nl ?_;refine sq ?_;refine sq ?_;refine rl ?_;refine o1 ?_;refine nl ?_;refine bl ?_
 have h1p:dg 4294967296 (x^(n.toNat/2^(13-0)))=[1]:=by rw[show n.toNat/2^(13-0)=0 from Nat.div_eq_of_lt (show n.toNat<8192 by omega),Nat.pow_zero];decide
 refine lp (γ:=Nat) (fun s=>cD [(0,.one (tv (.int .u32 ((x:Nat):Int)))),(1,.one (tv (.int .i64 n))),(6,.one (.sl 0 0 ((dg 4294967296 (x^(n.toNat/2^(13-s)))).length))),(7,.one (tv (.int .i64 ((4096/2^s:Nat):Int))))]) (fun s=>[(⟨64,1,(aG (dg 4294967296 (x^(n.toNat/2^(13-s))))).map .t⟩:Ob)].map some) (fun s=>s≤13) (fun s=>13-s) 0 (by omega) (bO h0 [0] _ _ (by decide) ⟨rfl,rfl,(congrArg (fun l:List Nat=>some (FV.one (.sl 0 0 l.length))) h1p),rfl,trivial⟩ ⟨bV (congrArg (fun l:List Nat=>some (⟨64,1,(aG l).map .t⟩:Ob)) h1p.symm),rfl⟩) ?_
 rintro j hj;refine sq ?_;refine sq ?_;refine rl ?_;refine o1 ?_;refine o1 ?_;refine nl ?_;refine cA rfl (fun h3=>?_) (fun h3=>?_)
 ·refine sk ?_;refine sq ?_;refine bl ?_;refine sq ?_;have hj12:j≤12:=by
   rcases Nat.lt_or_ge 12 j with h9 | h9
   ·have h8:j=13:=by omega
    rw[h8]at h3;exact absurd h3 (by decide)
   exact h9
  have hpl:=wG (m:=n.toNat/2^(13-j)) hx
  have hql:=wG (m:=n.toNat/2^(13-j)+n.toNat/2^(13-j)) hx
  rw[Nat.pow_add]at hql;have hnl:n.toNat/2^(13-j)≤n.toNat:=Nat.div_le_self _ _
  have hbj:4096/2^j≤4096:=Nat.div_le_self _ _
  refine rl ?_;refine o1 ?_;refine o1 ?_
  refine mB 1 (rE (Nn.of (by omega)) (Nn.of (by omega)) rfl) xA ⟨dM rfl (.sl rfl rfl (eJ _) (cM _)),dM rfl (.sl rfl rfl (eJ _) (cM _)),rfl⟩ ?_
  refine o1 ?_;refine nl ?_;refine sq ?_;refine rl ?_;(iterate 3 refine o1 ?_)
  refine WL.cast (t:=24) (u':=.int .i64 (((n.toNat&&& 4096/2^j):Nat):Int)) rfl (aM (by rw[show(n:Int)=((n.toNat:Nat):Int) by omega];exact Fy (by omega) (by omega))) ?_
  refine o1 ?_;refine nl ?_;refine cA rfl (fun h4=>?_) (fun h4=>?_)
  ·refine rl ?_;refine o1 ?_;refine o1 ?_;refine mB 2 (xY (Nn.of (by omega)) hx (Lu hj12 (by omega))) sP ⟨dM rfl (.sl rfl rfl (eJ _) (cM _)),a1 rfl,rfl⟩ ?_
   refine o1 ?_;refine nl ?_;refine rl ?_;refine o1 ?_;refine o1 ?_;refine WL.cast (t:=18) (u':=.int .i64 (((4096/2^(j+1)):Nat):Int)) rfl (aM tN) ?_;refine o1 ?_
   refine nl ?_;have hpw:x^(n.toNat/2^(12-j))=x^(n.toNat/2^(12-j)):=rfl
   exact⟨j+1,by omega,by omega,bO h0 [2] _ _ (by decide) ⟨rfl,rfl,(congrArg (fun z:Nat=>some (FV.one (.sl 2 0 (dg 4294967296 z).length))) (show x^(n.toNat/2^(13-(j+1)))=_ from(by rw[show 13-(j+1)=12-j by omega]))),rfl,trivial⟩ ⟨bV (congrArg (fun z:Nat=>some (⟨64,1,(aG (dg 4294967296 z)).map .t⟩:Ob)) (show x^(n.toNat/2^(13-(j+1)))=_ from(by rw[show 13-(j+1)=12-j by omega])).symm),rfl⟩⟩
  refine sk ?_;refine rl ?_;refine o1 ?_;refine o1 ?_;refine WL.cast (t:=18) (u':=.int .i64 (((4096/2^(j+1)):Nat):Int)) rfl (aM tN) ?_;refine o1 ?_;refine nl ?_
  have hpw:x^(n.toNat/2^(12-j))=x^(n.toNat/2^(13-j))*x^(n.toNat/2^(13-j)):=(Ls hj12 (by omega)).symm
  exact⟨j+1,by omega,by omega,bO h0 [1] _ _ (by decide) ⟨rfl,rfl,(congrArg (fun z:Nat=>some (FV.one (.sl 1 0 (dg 4294967296 z).length))) (show x^(n.toNat/2^(13-(j+1)))=_ from(by rw[show 13-(j+1)=12-j by omega];exact hpw))),rfl,trivial⟩ ⟨bV (congrArg (fun z:Nat=>some (⟨64,1,(aG (dg 4294967296 z)).map .t⟩:Ob)) (show x^(n.toNat/2^(13-(j+1)))=_ from(by rw[show 13-(j+1)=12-j by omega];exact hpw)).symm),rfl⟩⟩
 refine ex ?_;refine sq ?_;refine rl ?_;(iterate 3 refine o1 ?_);refine nl ?_;refine rt ?_;have he:oK n=0:=by unfold oK;rw[if_neg (by omega),if_neg (by omega)]
 have hj13:j=13:=by
  rcases Nat.lt_or_ge 12 j with h9 | h9
  ·omega
  have h8:=Al h9
  have h7:=Nat.pow_pos (n:=12-j) (show 0<2 by omega)
  omega
 subst hj13
 exact en (.inl rfl) rfl (iW (.cons (.one (.sl (trs:=aG (dg 4294967296 (x^(n.toNat/2^(13-13))))) rfl rfl (gY _) (cM _))) (.cons (dV _) .nil))) (by decide) (fun _=>⟨.inl ⟨rfl,eQ _⟩,trivial,trivial⟩) (by rw[he,Ak,he,if_pos rfl,show n.toNat/2^(13-13)=n.toNat by simp];rfl)
theorem Jt {xs ys:List Nat}(hx:xs.length≤1000000) (hy:ys.length≤1000000):aP true Tryd.prog 43 [] [nF xs,nF ys] (bI (.one (tv (.bool (decide (xs=ys)))))):=by
 refine eH Tryd.func43 rfl Tryd.ntmps43 rfl aW rfl fun N9 w9 c0 h0=>?_
 refine sq ?_;refine rl ?_;refine o1 ?_;refine nl ?_;refine sq ?_;refine sq ?_;refine rl ?_;(iterate 5 refine o1 ?_);refine nl ?_;refine cA rfl (fun h1=>?_) (fun h1=>?_)
 ·refine sq ?_;refine rl ?_;refine o1 ?_;refine nl ?_;refine rt ?_;exact mC (.inl rfl) rfl (Fz (by omega))
 refine sk ?_;refine sq ?_;refine sq ?_;refine rl ?_;refine o1 ?_;refine nl ?_;refine bl ?_
 refine lp (γ:=Nat) (fun k=>cD [(0,.one (.t (sU false xs))),(1,.one (.t (sU false ys))),(5,.one (tv (.int .i64 ((k:Nat):Int))))]) (fun k=>([]:List Ob).map some) (fun k=>k≤xs.length∧xs.take k=ys.take k) (fun k=>xs.length-k) 0 ⟨Nat.zero_le _,rfl⟩ (bO h0 [] _ _ (by decide) ⟨rfl,rfl,rfl,trivial⟩ rfl) fun k hk=>?_
 refine sq ?_;refine sq ?_;refine rl ?_;(iterate 4 refine o1 ?_);refine nl ?_;refine cA rfl (fun h2=>?_) (fun h2=>?_)
 ·refine sk ?_;refine sq ?_;refine bl ?_;refine sq ?_;refine rd [] (fun i=>[].contains i) mixed ?_
  refine dv 0 ?_;refine dv 1 ?_;refine dv 2 ?_;refine Dj 3 ([.v (.int .u32 ((nth xs (k):Nat):Int))]) (tE xs (k:=k) (by omega)) ?_
  refine dv 4 ?_;refine dv 5 ?_;refine dv 6 ?_;refine Dj 7 ([.v (.int .u32 ((nth ys (k):Nat):Int))]) (tE ys (k:=k) (by omega)) ?_
  refine dv 8 ?_;refine yU ?_;refine cA rfl (fun h3=>?_) (fun h3=>?_)
  ·refine sq ?_;refine rl ?_;refine o1 ?_;refine nl ?_;refine rt ?_;exact mC (.inl rfl) rfl (Ga (k:=k) (by omega))
  refine sk ?_;refine rl ?_;refine o1 ?_;refine o1 ?_;refine WL.cast (t:=16) (u':=.int .i64 ((k+1:Nat):Int)) rfl (aM (by omega)) ?_
  refine o1 ?_;refine nl ?_;exact⟨k+1,by omega,⟨by omega,Cg hk.2 (by omega) (by omega) (by omega)⟩,bO h0 [] _ _ (by decide) ⟨rfl,rfl,rfl,trivial⟩ rfl⟩
 refine ex ?_;refine sq ?_;refine rl ?_;refine o1 ?_;refine nl ?_;refine rt ?_;exact mC (.inl rfl) rfl (Gb (by omega) hk.2 (by omega))
theorem eE {xs ys:List Nat}(hx:xs.length≤1000000) (h:xs=ys):aP true Tryd.prog 43 [] [nF xs,nF ys] (bI (.one (tv (.bool true)))):=by
 subst h
 have h:=Jt hx hx
 rw[decide_eq_true rfl]at h
 exact h
theorem Ly {l:List Nat}{V:Nat}(h1:Lim 4294967296 l) (h2:trim l=l) (h3:vl 4294967296 l=V):dg 4294967296 V=l:=by rw[←jD (by omega) h1 h3,h2]
theorem Ju {l:List Nat}(h:fB l=false):tx (aU l)=l:=by
 by_cases h48:l=[48]
 ·subst h48;rfl
 have hd:=tK h
 have h0:nth l 0≠48:=fun e=>by rw[Dr (decide_eq_false h48) e]at h;cases h
 have hne:l≠[]:=fun e=>by rw[Dq (decide_eq_true e)]at h;cases h
 have e1:l=(bN (l.map (· -48)).reverse).reverse:=by
  unfold bN
  rw[←List.map_reverse,List.reverse_reverse,List.map_map]
  refine(List.ext_getElem (by simp) fun i h1 h2=>?_)
  have:=hd l[i] (List.getElem_mem h1)
  simp
  omega
 have hl:Lim 10 (l.map (· -48)).reverse:=fun x hx=>by
  obtain⟨c,hc,rfl⟩:=List.mem_map.1 (List.mem_reverse.1 hx)
  have:=hd c hc
  omega
 have e2:=xM (v:=aU l) hl (by rw[←Fv,←e1])
 rw[←e1]at e2
 have e3:l.dropWhile (· ==48)=l:=by
  cases l with
  | nil=>rfl
  | cons c m=>
   have:c≠48:=h0
   rw[List.dropWhile_cons,if_neg (by simpa using this)]
 rw[e3]at e2
 by_cases hv:aU l=0
 ·rw[if_pos hv]at e2
  exact absurd e2 hne
 rw[if_neg hv]at e2
 exact e2.symm
def Ml (l:List Nat) (V:Nat):Bool:=l.all (fun x=>decide (x<4294967296))&&decide (l.length≤1000000)&&decide (vl 4294967296 l=V)
theorem An {l:List Nat}{V:Nat}(h:Ml l V=true):Nn l V:=by
 simp only[Ml,Bool.and_eq_true,decide_eq_true_eq,List.all_eq_true]at h
 exact⟨h.1.1,h.1.2,h.2⟩
def Mm (l:List (List Nat)):Bool:=l.all fun xs=>xs.all (fun x=>decide (x<4294967296))&&decide (xs.length≤1000)
theorem Ow {l:List (List Nat)}(h:Mm l=true):RL 1000 l:=by
 intro xs hx
 simp only[Mm,List.all_eq_true,Bool.and_eq_true,decide_eq_true_eq]at h
 exact h xs hx
theorem Ao {l:List Nat}{V:Nat}(h:(l.all (fun x=>decide (x<4294967296))&&decide (trim l=l)&&decide (vl 4294967296 l=V))=true):dg 4294967296 V=l:=by
 simp only[Bool.and_eq_true,decide_eq_true_eq,List.all_eq_true]at h
 exact Ly h.1.1 h.1.2 h.2
theorem nA {l:List Nat}{V:Nat}{e:Int}(hl:Lim 256 l) (hn:l.length≤9223372036854775807) (hv:Dp l=V) (he:lF l=e):aP true Tryd.prog 45 [] [.one (tv (.string (aT l)))] (bI (.tup [nO V,.one (tv (.int .i64 e))])):=hv▸he▸Fx hl hn
theorem Jv {x:Nat}{n:Int}{V:Nat}{e:Int}(hx:x<4294967296) (hv:Ak x n=V) (he:oK n=e):aP true Tryd.prog 48 [] [.one (tv (.int .u32 ((x:Nat):Int))),.one (tv (.int .i64 n))] (bI (.tup [nO V,.one (tv (.int .i64 e))])):=hv▸he▸Lx hx
theorem Jw {l:List (List Nat)}{w:Nat}(hr:RL 1000 l) (hl:l.length≤100) (e:gC l=w):aP true Tryd.prog 42 [] [.one (.t (.s false 22 1 l.length (rT l)))] (bI (nO w)):=e▸Lw hr hl
theorem Lz:((aT (tx 4294967296)).toList==(⟨#[52,50,57,52,57,54,55,50,57,54]⟩:ByteArray).toList)=true:=by
 have h:=Ju (l:=[52,50,57,52,57,54,55,50,57,54]) (by decide)
 rw[show aU [52,50,57,52,57,54,55,50,57,54]=4294967296 by decide]at h
 rw[h]
 exact(xG (l:=[52,50,57,52,57,54,55,50,57,54]) (l':=[52,50,57,52,57,54,55,50,57,54]) (fun d hd=>by revert d;decide) (fun d hd=>by revert d;decide)).trans (decide_eq_true rfl)
theorem jC:aP true Tryd.prog 36 [] [] (bI (.one (tv (.bool true)))):=by
 refine eH Tryd.func36 rfl Tryd.ntmps36 rfl aW rfl fun N9 w9 c0 h0=>?_
 refine sq ?_;refine rl ?_;refine o1 ?_;refine nl ?_;refine sq ?_;refine rl ?_;refine bs 0 ?_;refine bs 1 ?_
 refine ca (rE (w:=18446744065119617025) (An (l:=[4294967295]) (V:=4294967295) (by decide)) (An (l:=[4294967295]) (V:=4294967295) (by decide)) (by decide)) xA ⟨dM rfl (.sl (trs:=aG [4294967295]) rfl rfl rfl rfl),dM rfl (.sl (trs:=aG [4294967295]) rfl rfl rfl rfl),rfl⟩ (nF (dg 4294967296 (18446744065119617025))) ?_
 refine o1 ?_;refine nl ?_;refine sq ?_;refine rl ?_;refine bs 2 ?_;refine bs 3 ?_
 refine ca (tL (q:=6148914691236517205) (r:=1) (An (l:=[0,0,1]) (V:=18446744073709551616) (by decide)) (An (l:=[3]) (V:=3) (by decide)) (by decide) (by decide) (by decide)) Id ⟨dM rfl (.sl (trs:=aG [0,0,1]) rfl rfl rfl rfl),dM rfl (.sl (trs:=aG [3]) rfl rfl rfl rfl),rfl⟩ (.tup [nF (dg 4294967296 (6148914691236517205)),nF (dg 4294967296 (1)),.one (tv (.int .i64 0))]) ?_
 (iterate 7 refine o1 ?_);refine nl ?_;refine sq ?_;refine rl ?_;refine bs 4 ?_;refine bs 5 ?_;refine bs 6 ?_;refine WL.sub (Ac (i:=24) (zs:=[12]) (zs':=[12]) rfl rfl rfl rfl rfl) ?_
 refine WL.sub (Ac (i:=25) (zs:=[18]) (zs':=[18]) rfl rfl rfl rfl rfl) ?_;refine WL.sub (Ac (i:=26) (zs:=[30]) (zs':=[30]) rfl rfl rfl rfl rfl) ?_;refine bs 7 ?_
 refine ca (Jw (l:=[[12],[18],[30]]) (w:=6) (Ow (by decide)) (by decide) (by decide)) No ⟨dM rfl (.sl (trs:=rT [[12],[18],[30]]) rfl rfl rfl rfl),rfl⟩ (nF (dg 4294967296 (6))) ?_
 refine o1 ?_;refine nl ?_;refine sq ?_;refine rl ?_
 refine ca (Jv (x:=10) (n:=10) (V:=10000000000) (e:=0) (by decide) (by decide) (by decide)) Nq ⟨a1 rfl,a1 rfl,rfl⟩ (.tup [nF (dg 4294967296 (10000000000)),.one (tv (.int .i64 0))]) ?_
 (iterate 5 refine o1 ?_);refine nl ?_;refine sq ?_;refine rl ?_
 refine ca (nA (l:=[49,48,48,48,48,48,48,48,48,48,48]) (V:=10000000000) (e:=0) (fun x hx=>by revert x;decide) (by decide) (by decide) (by decide)) Bu ⟨a1 rfl,rfl⟩ (.tup [nF (dg 4294967296 (10000000000)),.one (tv (.int .i64 0))]) ?_
 (iterate 5 refine o1 ?_);refine nl ?_;refine sq ?_;refine rl ?_
 refine ca (nA (l:=[48,49]) (V:=0) (e:=60) (fun x hx=>by revert x;decide) (by decide) (by decide) (by decide)) Bu ⟨a1 rfl,rfl⟩ (.tup [nF (dg 4294967296 (0)),.one (tv (.int .i64 60))]) ?_
 (iterate 5 refine o1 ?_);refine nl ?_;refine sq ?_;refine rl ?_
 refine ca (nA (l:=[]) (V:=0) (e:=60) (fun x hx=>by revert x;decide) (by decide) (by decide) (by decide)) Bu ⟨a1 rfl,rfl⟩ (.tup [nF (dg 4294967296 (0)),.one (tv (.int .i64 60))]) ?_
 (iterate 5 refine o1 ?_);refine nl ?_;refine sq ?_;refine rl ?_;refine o1 ?_;refine bs 8 ?_
 refine ca (eE (xs:=(dg 4294967296 (18446744065119617025))) (ys:=[1,4294967294]) (Nat.le_trans (aI (k:=100) (by omega) (by decide)) (by omega)) (Ao (l:=[1,4294967294]) (V:=18446744065119617025) (by decide))) jW ⟨a1 rfl,dM rfl (.sl (trs:=aG [1,4294967294]) rfl rfl rfl rfl),rfl⟩ (.one (tv (.bool true))) ?_
 (iterate 3 refine o1 ?_);refine WL.cast (t:=50) (u':=.bool true) rfl (congrArg Value.bool (decide_eq_true rfl)) ?_;(iterate 3 refine o1 ?_);refine bs 9 ?_
 refine ca (eE (xs:=(dg 4294967296 (6148914691236517205))) (ys:=[1431655765,1431655765]) (Nat.le_trans (aI (k:=100) (by omega) (by decide)) (by omega)) (Ao (l:=[1431655765,1431655765]) (V:=6148914691236517205) (by decide))) jW ⟨a1 rfl,dM rfl (.sl (trs:=aG [1431655765,1431655765]) rfl rfl rfl rfl),rfl⟩ (.one (tv (.bool true))) ?_
 (iterate 3 refine o1 ?_);refine bs 10 ?_
 refine ca (eE (xs:=(dg 4294967296 (1))) (ys:=[1]) (Nat.le_trans (aI (k:=100) (by omega) (by decide)) (by omega)) (Ao (l:=[1]) (V:=1) (by decide))) jW ⟨a1 rfl,dM rfl (.sl (trs:=aG [1]) rfl rfl rfl rfl),rfl⟩ (.one (tv (.bool true))) ?_
 (iterate 3 refine o1 ?_);refine bs 11 ?_
 refine ca (eE (xs:=(dg 4294967296 (6))) (ys:=[6]) (Nat.le_trans (aI (k:=100) (by omega) (by decide)) (by omega)) (Ao (l:=[6]) (V:=6) (by decide))) jW ⟨a1 rfl,dM rfl (.sl (trs:=aG [6]) rfl rfl rfl rfl),rfl⟩ (.one (tv (.bool true))) ?_
 (iterate 4 refine o1 ?_);refine WL.cast (t:=69) (u':=.bool true) rfl (congrArg Value.bool (decide_eq_true rfl)) ?_;(iterate 3 refine o1 ?_);refine bs 12 ?_
 refine ca (eE (xs:=(dg 4294967296 (10000000000))) (ys:=[1410065408,2]) (Nat.le_trans (aI (k:=100) (by omega) (by decide)) (by omega)) (Ao (l:=[1410065408,2]) (V:=10000000000) (by decide))) jW ⟨a1 rfl,dM rfl (.sl (trs:=aG [1410065408,2]) rfl rfl rfl rfl),rfl⟩ (.one (tv (.bool true))) ?_
 (iterate 4 refine o1 ?_);refine WL.cast (t:=78) (u':=.bool true) rfl (congrArg Value.bool (decide_eq_true rfl)) ?_;(iterate 4 refine o1 ?_)
 refine ca (eE (xs:=(dg 4294967296 (10000000000))) (ys:=(dg 4294967296 (10000000000))) (Nat.le_trans (aI (k:=100) (by omega) (by decide)) (by omega)) rfl) jW ⟨a1 rfl,a1 rfl,rfl⟩ (.one (tv (.bool true))) ?_
 (iterate 4 refine o1 ?_);refine WL.cast (t:=87) (u':=.bool true) rfl (congrArg Value.bool (decide_eq_true rfl)) ?_;(iterate 4 refine o1 ?_)
 refine WL.cast (t:=91) (u':=.bool true) rfl (congrArg Value.bool (decide_eq_true rfl)) ?_;refine o1 ?_;refine o1 ?_;refine bs 13 ?_
 refine ca (Lr (An (l:=[0,1]) (V:=4294967296) (by decide))) Np ⟨dM rfl (.sl (trs:=aG [0,1]) rfl rfl rfl rfl),rfl⟩ (.one (tv (.string (aT (tx 4294967296))))) ?_
 refine o1 ?_;refine WL.cast (t:=96) (u':=.bool true) rfl (congrArg Value.bool Lz) ?_;refine o1 ?_;refine o1 ?_;refine nl ?_;refine rt ?_;exact mC (.inl rfl) rfl (rfl)
theorem xZ {B:Nat}{l:List Nat}{k:Nat}(hB:0<B) (h:k≤l.length):vl B (l.drop k)≤vl B l:=by
 rw[gL B l k h]
 have:=Nat.le_mul_of_pos_left (vl B (l.drop k)) (Nat.pow_pos (n:=k) hB)
 omega
def sB (xs:List Nat):Tr:=.s false 5 1 xs.length (aV xs)
abbrev bR (xs:List Nat):FV:=.one (.t (sB xs))
theorem Ap {xs:List Nat}{m:Nat}(h:m≤xs.length):FV.one (.t (.s false 5 1 m ((aV xs).take (m*1))))=bR (xs.take m):=by
 unfold bR sB aV
 rw[Nat.mul_one,←List.map_take,List.length_take,Nat.min_eq_left h]
theorem Dt {x:Cx}{g:Nat→FV}{ob:List (Option Ob)}{i k n:Nat}{zs zs':List Nat}(hi:Nat.blt i x.n=true) (hg:g i=.one (.sl k 0 n)) (ho:aZ ob k=some ⟨5,1,(aV zs).map .t⟩) (hn:n=zs.length) (he:zs=zs'):Sub x g ob (aH g i (bR zs')) (ob.set k none):=by
 subst hn he
 exact fz hi hg ho (by rw[eT,Nat.mul_one])
theorem Nz {x:Cx}{g:Nat→FV}{ob:List (Option Ob)}{j t z:Nat}{l l':List AV}(ho:aZ ob j=some ⟨t,z,l⟩) (hl:l=l'):Sub x g ob g (ob.set j (some ⟨t,z,l'⟩)):=by
 subst hl
 have e:ob.set j (some ⟨t,z,l⟩)=ob:=by
  refine List.ext_getElem? fun i=>?_
  rw[List.getElem?_set]
  split
  ·rename_i h
   subst h
   have h2:=bH ho
   rw[if_pos (List.getElem?_eq_some_iff.1 h2).1]
   exact h2.symm
  rfl
 rw[e]
 exact fun ts W h=>h
theorem Oa {x:Cx}{g:Nat→FV}{ob:List (Option Ob)}{i:Nat}{v:FV}(hi:Nat.blt i x.n=true) (h:g i=v):Sub x g ob (aH g i v) ob:=Im hi fun _ _ _ _ hu=>h▸hu
theorem Gc {u v L:Nat}(hu:(dg 2 u).length≤L) (hv:(dg 2 v).length≤L):(dg 2 (u+v)).length≤L+1:=by
 have h1:=eL (B:=2) (n:=u) (by omega)
 have h2:=eL (B:=2) (n:=v) (by omega)
 have h3:=Nat.pow_le_pow_right (n:=2) (by omega) hu
 have h4:=Nat.pow_le_pow_right (n:=2) (by omega) hv
 exact aI (by omega) (by rw[Nat.pow_succ];omega)
theorem pP (u v:Nat):(dg 2 (u*v)).length≤(dg 2 u).length+(dg 2 v).length:=by
 have h1:=eL (B:=2) (n:=u) (by omega)
 have h2:=eL (B:=2) (n:=v) (by omega)
 exact aI (by omega) (by rw[Nat.pow_add];exact Nat.mul_lt_mul'' h1 h2)
theorem Cp {u L:Nat}(h:(dg 4294967296 u).length≤L):(dg 2 u).length≤32*L:=by
 have h1:=eL (B:=4294967296) (n:=u) (by omega)
 refine aI (by omega) (Nat.lt_of_lt_of_le h1 ?_)
 rw[Nat.pow_mul]
 exact Nat.pow_le_pow_right (by decide) h
theorem tO {u L:Nat}(h:(dg 2 u).length≤32*L):(dg 4294967296 u).length≤L:=by
 have h1:=eL (B:=2) (n:=u) (by omega)
 refine aI (by omega) (Nat.lt_of_lt_of_le h1 ?_)
 rw[show(4294967296:Nat)=2^32 from rfl,←Nat.pow_mul]
 exact Nat.pow_le_pow_right (by decide) h
theorem Gd {d u:Nat}(hd:d<2):trim (d::dg 2 u)=dg 2 (2*u+d):=jD (by omega) (Lim.cons hd (bK (by omega) u)) (by rw[cF,bT (by omega)];omega)
theorem tP {s:Nat}(h:s<256):IntKind.u8.wrap ((BitVec.ofInt IntKind.u8.bits (s:Int)&&& BitVec.ofInt IntKind.u8.bits (1:Int)).toNat:Int)=((s%2:Nat):Int):=by
 have e:IntKind.u8.bits=8:=rfl
 rw[e,BitVec.toNat_and,BitVec.ofInt_natCast,show BitVec.ofInt 8 (1:Int)=1#8 from rfl,BitVec.toNat_ofNat,BitVec.toNat_ofNat,Nat.mod_eq_of_lt (by omega)]
 have h1:s&&&(1%2^8)=s%2:=by rw[show 1%2^8=1 from rfl,Nat.and_one_is_mod]
 rw[h1]
 simp[IntKind.wrap,IntKind.signed,IntKind.bits]
 omega
theorem Ge {s:Nat}(h:s<4294967296):IntKind.u32.wrap ((BitVec.ofInt IntKind.u32.bits (s:Int)&&& BitVec.ofInt IntKind.u32.bits (1:Int)).toNat:Int)=((s%2:Nat):Int):=by
 have e:IntKind.u32.bits=32:=rfl
 rw[e,BitVec.toNat_and,BitVec.ofInt_natCast,show BitVec.ofInt 32 (1:Int)=1#32 from rfl,BitVec.toNat_ofNat,BitVec.toNat_ofNat,Nat.mod_eq_of_lt (by omega)]
 have h1:s&&&(1%2^32)=s%2:=by rw[show 1%2^32=1 from rfl,Nat.and_one_is_mod]
 rw[h1]
 simp[IntKind.wrap,IntKind.signed,IntKind.bits]
 omega
theorem tQ {s:Nat}:Int.fdiv (s:Int) (2^(min (1:Int).toNat IntKind.u8.bits))=((s/2:Nat):Int):=by
 have e:(2:Int)^(min (1:Int).toNat IntKind.u8.bits)=((2:Nat):Int):=by decide
 rw[e,Int.fdiv_eq_ediv,if_pos (Or.inl (by omega)),Int.sub_zero,←Int.natCast_ediv]
theorem Ma {x k:Nat}(h:k<32):Int.fdiv (x:Int) (2^(min ((k:Nat):Int).toNat IntKind.u32.bits))=((x/2^k:Nat):Int):=by
 have e0:min ((k:Nat):Int).toNat IntKind.u32.bits=k:=by simp[IntKind.bits];omega
 rw[e0,show(2:Int)^k=((2^k:Nat):Int) by simp]
 generalize 2^k=m
 rw[Int.fdiv_eq_ediv,if_pos (Or.inl (Int.natCast_nonneg m)),Int.sub_zero,←Int.natCast_ediv]
theorem Du {d s:Nat}(hd:d<2) (hs:s<32):IntKind.u32.wrap ((d:Int)*2^(min ((s:Nat):Int).toNat IntKind.u32.bits))=((d*2^s:Nat):Int):=by
 have e0:min ((s:Nat):Int).toNat IntKind.u32.bits=s:=by simp[IntKind.bits];omega
 have h1:d*2^s<4294967296:=by
  have h2:2^s≤2^31:=Nat.pow_le_pow_right (by omega) (by omega)
  have h3:d*2^s≤1*2^31:=Nat.mul_le_mul (by omega) h2
  omega
 rw[e0,show(2:Int)^s=((2^s:Nat):Int) by simp,←Int.natCast_mul]
 generalize d*2^s=m at h1⊢
 simp[IntKind.wrap,IntKind.signed,IntKind.bits]
 omega
theorem lG {X Y os:List Nat}{k cr:Nat}(hl:os.length=k) (h:vl 2 os+2^k*cr=vl 2 (X.take k)+vl 2 (Y.take k)):
  vl 2 (os++[(nth X k+nth Y k+cr)%2])+2^(k+1)*((nth X k+nth Y k+cr)/2)=vl 2 (X.take (k+1))+vl 2 (Y.take (k+1)):=by
 rw[dY,aN,aN,hl,Nat.pow_succ,Nat.mul_assoc]
 have h2:=Nat.mod_add_div (nth X k+nth Y k+cr) 2
 have h3:2^k*(nth X k+nth Y k+cr)=2^k*((nth X k+nth Y k+cr)%2)+2^k*(2*((nth X k+nth Y k+cr)/2)):=by rw[←Nat.mul_add,h2]
 rw[Nat.mul_add,Nat.mul_add]at h3
 omega
theorem Aq {xs os:List Nat}{i k:Nat}(hl:os.length=32*i+k) (h:vl 2 os=vl 4294967296 (xs.take i)+2^(32*i)*(nth xs i%2^k)):
  vl 2 (os++[nth xs i/2^k%2])=vl 4294967296 (xs.take i)+2^(32*i)*(nth xs i%2^(k+1)):=by
 rw[dY,hl,h,Nat.mod_pow_succ,Nat.pow_add,Nat.mul_add,Nat.mul_assoc]
 omega
theorem Ar {xs os:List Nat}{i:Nat}(hx:nth xs i<4294967296) (h:vl 2 os=vl 4294967296 (xs.take i)+2^(32*i)*(nth xs i%2^32)):vl 2 os=vl 4294967296 (xs.take (i+1)):=by
 rw[h,aN,Nat.mod_eq_of_lt hx,Nat.pow_mul]
theorem wJ (B:Nat):∀{l:List Nat}{j v:Nat},j<l.length→vl B (l.set j v)+B^j*nth l j=vl B l+B^j*v
 | [],j,v,h=>by simp at h
 | d::l,0,v,h=>by
  rw[List.set_cons_zero,cF,cF,Nat.pow_zero,Nat.one_mul,Nat.one_mul]
  show v+B*vl B l+d=d+B*vl B l+v
  omega
 | d::l,j+1,v,h=>by
  have ih:=wJ B (l:=l) (j:=j) (v:=v) (by simpa using h)
  rw[List.set_cons_succ,cF,cF,Nat.pow_succ,Nat.mul_comm (B^j),Nat.mul_assoc,Nat.mul_assoc]
  have e:nth (d::l) (j+1)=nth l j:=rfl
  rw[e]
  have:=congrArg (B* ·) ih
  simp only[Nat.mul_add]at this
  omega
theorem Dv (B:Nat):∀(l:List Nat) (j:Nat),B^j*nth l j≤vl B l
 | [],j=>by simp[nth,vl]
 | d::l,0=>by
  show B^0*d≤d+B*vl B l
  rw[Nat.pow_zero,Nat.one_mul]
  omega
 | d::l,j+1=>by
  have ih:=Dv B l j
  rw[cF,Nat.pow_succ,Nat.mul_comm (B^j),Nat.mul_assoc]
  have e:nth (d::l) (j+1)=nth l j:=rfl
  rw[e]
  have:=Nat.mul_le_mul_left B ih
  omega
theorem Dw (i:Nat):2^i=4294967296^(i/32)*2^(i%32):=by
 rw[show(4294967296:Nat)=2^32 from rfl,←Nat.pow_mul,←Nat.pow_add,Nat.div_add_mod]
theorem wK {ws X:List Nat}{i:Nat}(hX:Lim 2 X) (h:vl 4294967296 ws=vl 2 (X.take i)):nth ws (i/32)<2^(i%32):=by
 have h1:=Dv 4294967296 ws (i/32)
 have h2:=dE (hX.take i)
 have h3:2^(X.take i).length≤2^i:=Nat.pow_le_pow_right (by omega) (by rw[List.length_take];omega)
 rw[Dw i]at h3
 exact Nat.lt_of_mul_lt_mul_left (a:=4294967296^(i/32)) (by omega)
theorem qQ {ws X:List Nat}{i:Nat}(hw:i/32<ws.length) (h:vl 4294967296 ws=vl 2 (X.take i)):vl 4294967296 (ws.set (i/32) (nth ws (i/32)+nth X i*2^(i%32)))=vl 2 (X.take (i+1)):=by
 have h1:=wJ 4294967296 (v:=nth ws (i/32)+nth X i*2^(i%32)) hw
 rw[Nat.mul_add]at h1
 have h2:4294967296^(i/32)*(nth X i*2^(i%32))=2^i*nth X i:=by
  conv=>rhs;rw[Dw i]
  rw[Nat.mul_assoc,Nat.mul_comm (nth X i)]
 rw[aN]
 omega
theorem As {ws:List Nat}{u:Nat}(hl:Lim 4294967296 ws) (hv:vl 4294967296 ws=u) (hn:ws.length=((dg 2 u).length+31)/32):ws=dg 4294967296 u:=by
 have h1:=jD (by omega) hl hv
 have h2:=fM ws
 have h3:ws.length≤(dg 4294967296 u).length:=by
  by_cases h0:u=0
  ·subst h0;rw[hn];simp[fC]
  have h4:=Kb (B:=2) (n:=u) (by omega) h0
  have h5:=eL (B:=4294967296) (n:=u) (by omega)
  rw[show(4294967296:Nat)=2^32 from rfl,←Nat.pow_mul]at h5
  have h6:=(Nat.pow_lt_pow_iff_right (a:=2) (by omega)).1 (Nat.lt_of_le_of_lt h4 h5)
  rw[hn]
  rw[show(2:Nat)^32=4294967296 from rfl]at h6
  omega
 rw[←h1]at h3⊢
 rw[←h2,List.take_of_length_le h3]
theorem Jx {xs:List Nat}(hx:xs.length≤1000000):aP false Tryd.prog 75 [] [bR xs] (bI (bR (trim xs))):=by
 refine eH Tryd.func75 rfl Tryd.ntmps75 rfl aW rfl fun N9 w9 c0 h0=>?_
 refine sq ?_;refine rl ?_;refine o1 ?_;refine nl ?_;refine sq ?_;refine rl ?_;(iterate 3 refine o1 ?_);refine nl ?_;refine sq ?_;refine bl ?_
 refine lp (γ:=Nat) (fun s=>cD [(0,.one (.t (.s false 5 1 xs.length (aV xs)))),(3,.one (tv (.int .i64 ((s:Nat):Int))))]) (fun s=>([]:List Ob).map some) (fun s=>s≤xs.length∧trim (xs.take s)=trim xs) (fun s=>s) (xs.length) (⟨Nat.le_refl _,by rw[List.take_length]⟩) (bO h0 [] _ _ (by decide) ⟨rfl,rfl,trivial⟩ rfl) ?_
 rintro n hn;refine sq ?_;refine sq ?_;refine rl ?_;(iterate 3 refine o1 ?_);refine WL.split (t:=8) rfl (fun h1=>?_) (fun h1=>?_)
 ·(iterate 3 refine o1 ?_);refine WL.cast (t:=11) (u':=.int .i64 ((n-1:Nat):Int)) rfl (aM (by omega)) ?_
  refine o1 ?_;refine nS ([.v (.int .u8 ((nth xs (n-1):Nat):Int))]) (lT xs (k:=n-1) (by omega)) ?_
  refine o1 ?_;refine o1 ?_;refine nl ?_;refine cA rfl (fun h2=>?_) (fun h2=>?_)
  ·refine sk ?_;refine bl ?_;refine rl ?_;refine o1 ?_;refine o1 ?_;refine WL.cast (t:=17) (u':=.int .i64 ((n-1:Nat):Int)) rfl (aM (by omega)) ?_
   refine o1 ?_;refine nl ?_;exact⟨n-1,by omega,⟨by omega,(pS (xs:=xs) (k:=n) (by omega) (by omega) (by omega)).trans hn.2⟩,bO h0 [] _ _ (by decide) ⟨rfl,rfl,trivial⟩ rfl⟩
  refine ex ?_;refine sq ?_;refine rl ?_;(iterate 4 refine o1 ?_);refine nl ?_;refine rt ?_;refine en (.inl rfl) rfl (eY (.one (.id rfl))) (by decide) (fun h=>by cases h) ?_
  have hx9:trim xs=xs.take n:=by
   rw[←hn.2];exact kI (by omega) hn.1 (by omega)
  rw[hx9];exact Ap hn.1
 (iterate 6 refine iE ?_);refine o1 ?_;refine nl ?_;refine uV rfl ?_;refine ex ?_;refine sq ?_;refine rl ?_;(iterate 4 refine o1 ?_);refine nl ?_;refine rt ?_
 refine en (.inl rfl) rfl (eY (.one (.id rfl))) (by decide) (fun h=>by cases h) ?_
 have hx9:trim xs=xs.take n:=by
  rw[←hn.2,show n=0 by omega]
  rfl
 rw[hx9];exact Ap hn.1
theorem lZ {xs:List Nat}{v:Nat}(hx:xs.length≤1000000) (h:trim xs=dg 2 v):aP false Tryd.prog 75 [] [bR xs] (bI (bR (dg 2 (v)))):=h▸Jx hx
theorem gK {xs:List Nat}{k:Nat}:aP true Tryd.prog 109 [] [bR xs,.one (tv (.int .i64 ((k:Nat):Int)))] (bI (.one (tv (.int .u8 ((nth xs k:Nat):Int))))):=by
 refine eH Tryd.func109 rfl Tryd.ntmps109 rfl aW rfl fun N9 w9 c0 h0=>?_
 refine sq ?_;refine rl ?_;refine o1 ?_;refine nl ?_;refine sq ?_;refine sq ?_;refine rl ?_;(iterate 3 refine o1 ?_);refine WL.split (t:=7) rfl (fun h1=>?_) (fun h1=>?_)
 ·omega
 (iterate 5 refine o1 ?_);refine nl ?_;refine cA rfl (fun h2=>?_) (fun h2=>?_)
 ·refine sq ?_;refine rl ?_;refine o1 ?_;refine nl ?_;refine rt ?_
  exact en (.inl rfl) rfl (eY (dV _)) (by decide) (fun _=>trivial) (congrArg (fun z=>FV.one (tv (.int .u8 z))) (by rw[cV (by omega)];rfl))
 refine sk ?_;refine sq ?_;refine rl ?_;(iterate 3 refine o1 ?_);refine nS ([.v (.int .u8 ((nth xs (k):Nat):Int))]) (lT xs (k:=k) (by omega)) ?_
 refine o1 ?_;refine nl ?_;refine rt ?_;exact en (.inl rfl) rfl (eY (dV _)) (by decide) (fun _=>trivial) (congrArg (fun z=>FV.one (tv (.int .u8 z))) (rfl))
theorem Mb {u v:Nat}(hu:(dg 2 (u)).length≤900000) (hv:(dg 2 (v)).length≤900000):aP false Tryd.prog 91 [] [(bR (dg 2 (u))),(bR (dg 2 (v)))] (bI (bR (dg 2 (u+v)))):=by
 refine eH Tryd.func91 rfl Tryd.ntmps91 rfl aW rfl fun N9 w9 c0 h0=>?_
 have hX:=bK (B:=2) (by omega) u
 have hY:=bK (B:=2) (by omega) v
 have hvX:=bT (B:=2) (by omega) u
 have hvY:=bT (B:=2) (by omega) v
 obtain⟨X,hXe⟩:∃X,dg 2 u=X:=⟨_,rfl⟩
 obtain⟨Y,hYe⟩:∃Y,dg 2 v=Y:=⟨_,rfl⟩
 rw[hXe]at hX hvX hu⊢;rw[hYe]at hY hvY hv⊢;refine sq ?_;refine rl ?_;refine o1 ?_;refine nl ?_;refine sq ?_;refine rl ?_;refine o1 ?_;refine nl ?_;refine sq ?_;refine rl ?_
 refine o1 ?_;refine nl ?_;refine sq ?_;refine sq ?_;refine rl ?_;refine o1 ?_;refine nl ?_;refine bl ?_
 refine lp (γ:=Nat×Nat×List Nat) (fun s=>cD [(0,.one (.t (.s false 5 1 X.length (aV X)))),(1,.one (.t (.s false 5 1 Y.length (aV Y)))),(5,.one (.sl 0 0 (s.1))),(6,.one (tv (.int .u8 ((s.2.1:Nat):Int)))),(7,.one (tv (.int .i64 ((s.1:Nat):Int))))]) (fun s=>[(⟨5,1,(aV s.2.2).map .t⟩:Ob)].map some) (fun s=>s.2.2.length=s.1∧Lim 2 s.2.2∧vl 2 s.2.2+2^s.1*s.2.1=vl 2 (X.take s.1)+vl 2 (Y.take s.1)∧s.2.1≤1∧(s.1≤max X.length Y.length∨s.1=max X.length Y.length+1∧s.2.1=0)) (fun s=>max X.length Y.length+1-s.1) (0,0,[]) ⟨rfl,Lim.nil,rfl,Nat.zero_le _,.inl (Nat.zero_le _)⟩ ((nr (i:=5) 0 5 1 rfl rfl rfl rfl).trans (bO h0 [0] _ _ (by decide) ⟨rfl,rfl,rfl,rfl,rfl,trivial⟩ ⟨bV (l:=[]) rfl,rfl⟩)) ?_
 rintro⟨k,cr,os⟩ ⟨hos,hol,hv2,hc,hkm⟩;dsimp only at hos hol hv2 hc hkm⊢;have hn1:=hX.nth (by omega) k
 have hn2:=hY.nth (by omega) k
 refine sq ?_;refine sq ?_;refine rl ?_;(iterate 5 refine o1 ?_);refine WL.split (t:=13) rfl (fun h1=>?_) (fun h1=>?_)
 ·(iterate 4 refine iE ?_);refine o1 ?_;refine o1 ?_;refine iE ?_;refine iE ?_;refine o1 ?_;refine nl ?_;refine rZ rfl ?_;refine sk ?_;refine sq ?_;refine bl ?_;refine sq ?_
  refine rl ?_;refine o1 ?_;refine o1 ?_;refine ca (gK (xs:=X) (k:=k)) lR ⟨a1 rfl,a1 rfl,rfl⟩ (.one (tv (.int .u8 ((nth X (k):Nat):Int)))) ?_;refine o1 ?_;refine o1 ?_
  refine ca (gK (xs:=Y) (k:=k)) lR ⟨a1 rfl,a1 rfl,rfl⟩ (.one (tv (.int .u8 ((nth Y (k):Nat):Int)))) ?_;refine o1 ?_
  refine WL.cast (t:=31) (u':=.int .u8 (((nth X (k))+(nth Y (k)):Nat):Int)) rfl (aM (by omega)) ?_
  refine o1 ?_;refine o1 ?_;refine WL.cast (t:=33) (u':=.int .u8 (((nth X (k))+(nth Y (k))+cr:Nat):Int)) rfl (aM (by omega)) ?_
  refine o1 ?_;refine nl ?_;refine sq ?_;refine rl ?_;(iterate 3 refine o1 ?_)
  refine WL.cast (t:=36) (u':=.int .u8 ((((nth X k+nth Y k+cr)%2):Nat):Int)) rfl (aM (tP (by omega))) ?_
  refine bs 1 ?_;refine jV (j:=2) aW rfl rfl rfl rfl (.sl rfl (by rw[List.length_map,eT,hos];omega)) (.sl rfl rfl rfl) rfl rfl rfl (by omega) (by omega) ?_
  refine o1 ?_;refine nl ?_;refine rl ?_;refine o1 ?_;refine o1 ?_;refine WL.cast (t:=40) (u':=.int .u8 ((((nth X k+nth Y k+cr)/2):Nat):Int)) rfl (aM tQ) ?_;refine o1 ?_
  refine nl ?_;refine rl ?_;refine o1 ?_;refine o1 ?_;refine WL.cast (t:=24) (u':=.int .i64 ((k+1:Nat):Int)) rfl (aM (by omega)) ?_
  refine o1 ?_;refine nl ?_;have hst:=lG hos hv2
  have hz1:X.length≤k→nth X k=0:=fun h=>cV (by omega)
  have hz2:Y.length≤k→nth Y k=0:=fun h=>cV (by omega)
  exact⟨(k+1,(nth X k+nth Y k+cr)/2,os++[(nth X k+nth Y k+cr)%2]),by dsimp only;omega,⟨by simp[hos],hol.append (Lim.cons (Nat.mod_lt _ (by omega)) Lim.nil),hst,by dsimp only;omega,by dsimp only;omega⟩,bO h0 [2] _ _ (by decide) ⟨rfl,rfl,rfl,rfl,rfl,trivial⟩ ⟨bV (congrArg (fun l:List AV=>some (⟨5,1,l⟩:Ob)) (lD os [(nth X k+nth Y k+cr)%2])),rfl⟩⟩
 (iterate 6 refine o1 ?_);refine WL.split (t:=19) rfl (fun h2=>?_) (fun h2=>?_)
 ·refine iE ?_;refine iE ?_;refine o1 ?_;refine nl ?_;refine rZ rfl ?_;refine sk ?_;refine sq ?_;refine bl ?_;refine sq ?_;refine rl ?_;refine o1 ?_;refine o1 ?_
  refine ca (gK (xs:=X) (k:=k)) lR ⟨a1 rfl,a1 rfl,rfl⟩ (.one (tv (.int .u8 ((nth X (k):Nat):Int)))) ?_;refine o1 ?_;refine o1 ?_
  refine ca (gK (xs:=Y) (k:=k)) lR ⟨a1 rfl,a1 rfl,rfl⟩ (.one (tv (.int .u8 ((nth Y (k):Nat):Int)))) ?_;refine o1 ?_
  refine WL.cast (t:=31) (u':=.int .u8 (((nth X (k))+(nth Y (k)):Nat):Int)) rfl (aM (by omega)) ?_
  refine o1 ?_;refine o1 ?_;refine WL.cast (t:=33) (u':=.int .u8 (((nth X (k))+(nth Y (k))+cr:Nat):Int)) rfl (aM (by omega)) ?_
  refine o1 ?_;refine nl ?_;refine sq ?_;refine rl ?_;(iterate 3 refine o1 ?_)
  refine WL.cast (t:=36) (u':=.int .u8 ((((nth X k+nth Y k+cr)%2):Nat):Int)) rfl (aM (tP (by omega))) ?_
  refine bs 1 ?_;refine jV (j:=2) aW rfl rfl rfl rfl (.sl rfl (by rw[List.length_map,eT,hos];omega)) (.sl rfl rfl rfl) rfl rfl rfl (by omega) (by omega) ?_
  refine o1 ?_;refine nl ?_;refine rl ?_;refine o1 ?_;refine o1 ?_;refine WL.cast (t:=40) (u':=.int .u8 ((((nth X k+nth Y k+cr)/2):Nat):Int)) rfl (aM tQ) ?_;refine o1 ?_
  refine nl ?_;refine rl ?_;refine o1 ?_;refine o1 ?_;refine WL.cast (t:=24) (u':=.int .i64 ((k+1:Nat):Int)) rfl (aM (by omega)) ?_
  refine o1 ?_;refine nl ?_;have hst:=lG hos hv2
  have hz1:X.length≤k→nth X k=0:=fun h=>cV (by omega)
  have hz2:Y.length≤k→nth Y k=0:=fun h=>cV (by omega)
  exact⟨(k+1,(nth X k+nth Y k+cr)/2,os++[(nth X k+nth Y k+cr)%2]),by dsimp only;omega,⟨by simp[hos],hol.append (Lim.cons (Nat.mod_lt _ (by omega)) Lim.nil),hst,by dsimp only;omega,by dsimp only;omega⟩,bO h0 [2] _ _ (by decide) ⟨rfl,rfl,rfl,rfl,rfl,trivial⟩ ⟨bV (congrArg (fun l:List AV=>some (⟨5,1,l⟩:Ob)) (lD os [(nth X k+nth Y k+cr)%2])),rfl⟩⟩
 (iterate 3 refine o1 ?_);refine nl ?_;refine cA rfl (fun h3=>?_) (fun h3=>?_)
 ·refine sk ?_;refine sq ?_;refine bl ?_;refine sq ?_;refine rl ?_;refine o1 ?_;refine o1 ?_
  refine ca (gK (xs:=X) (k:=k)) lR ⟨a1 rfl,a1 rfl,rfl⟩ (.one (tv (.int .u8 ((nth X (k):Nat):Int)))) ?_;refine o1 ?_;refine o1 ?_
  refine ca (gK (xs:=Y) (k:=k)) lR ⟨a1 rfl,a1 rfl,rfl⟩ (.one (tv (.int .u8 ((nth Y (k):Nat):Int)))) ?_;refine o1 ?_
  refine WL.cast (t:=31) (u':=.int .u8 (((nth X (k))+(nth Y (k)):Nat):Int)) rfl (aM (by omega)) ?_
  refine o1 ?_;refine o1 ?_;refine WL.cast (t:=33) (u':=.int .u8 (((nth X (k))+(nth Y (k))+cr:Nat):Int)) rfl (aM (by omega)) ?_
  refine o1 ?_;refine nl ?_;refine sq ?_;refine rl ?_;(iterate 3 refine o1 ?_)
  refine WL.cast (t:=36) (u':=.int .u8 ((((nth X k+nth Y k+cr)%2):Nat):Int)) rfl (aM (tP (by omega))) ?_
  refine bs 1 ?_;refine jV (j:=2) aW rfl rfl rfl rfl (.sl rfl (by rw[List.length_map,eT,hos];omega)) (.sl rfl rfl rfl) rfl rfl rfl (by omega) (by omega) ?_
  refine o1 ?_;refine nl ?_;refine rl ?_;refine o1 ?_;refine o1 ?_;refine WL.cast (t:=40) (u':=.int .u8 ((((nth X k+nth Y k+cr)/2):Nat):Int)) rfl (aM tQ) ?_;refine o1 ?_
  refine nl ?_;refine rl ?_;refine o1 ?_;refine o1 ?_;refine WL.cast (t:=24) (u':=.int .i64 ((k+1:Nat):Int)) rfl (aM (by omega)) ?_
  refine o1 ?_;refine nl ?_;have hst:=lG hos hv2
  have hz1:X.length≤k→nth X k=0:=fun h=>cV (by omega)
  have hz2:Y.length≤k→nth Y k=0:=fun h=>cV (by omega)
  exact⟨(k+1,(nth X k+nth Y k+cr)/2,os++[(nth X k+nth Y k+cr)%2]),by dsimp only;omega,⟨by simp[hos],hol.append (Lim.cons (Nat.mod_lt _ (by omega)) Lim.nil),hst,by dsimp only;omega,by dsimp only;omega⟩,bO h0 [2] _ _ (by decide) ⟨rfl,rfl,rfl,rfl,rfl,trivial⟩ ⟨bV (congrArg (fun l:List AV=>some (⟨5,1,l⟩:Ob)) (lD os [(nth X k+nth Y k+cr)%2])),rfl⟩⟩
 refine ex ?_;refine sq ?_;refine rl ?_;have hc0:cr=0:=by omega
 rw[hc0,Nat.mul_zero,Nat.add_zero,aS 2 (by omega),aS 2 (by omega),hvX,hvY]at hv2
 have htr:=jD (by omega) hol hv2
 refine WL.sub (Dt (i:=5) (zs:=os) (zs':=os) rfl rfl rfl (by omega) rfl) ?_
 refine o1 ?_;refine ca (lZ (xs:=os) (by omega) htr) xC ⟨a1 rfl,rfl⟩ ((bR (dg 2 (u+v)))) ?_
 refine o1 ?_;refine nl ?_;refine rt ?_;exact en (.inl rfl) rfl (eY (.one (.id rfl))) (by decide) (fun h=>by cases h) rfl
theorem Oc {u d:Nat}(hu:(dg 2 (u)).length≤900000) (hd:d<2):aP false Tryd.prog 82 [] [(bR (dg 2 (u))),.one (tv (.int .u8 ((d:Nat):Int)))] (bI (bR (dg 2 (2*u+d)))):=by
 refine eH Tryd.func82 rfl Tryd.ntmps82 rfl aW rfl fun N9 w9 c0 h0=>?_
 refine sq ?_;refine rl ?_;refine o1 ?_;refine nl ?_;refine sq ?_;refine rl ?_;refine o1 ?_;refine bs 0 ?_;refine o1 ?_;refine nl ?_;refine sq ?_;refine rl ?_;refine o1 ?_;refine o1 ?_
 refine jV (j:=1) aW rfl rfl rfl rfl (.sl rfl (rfl)) .fz (xH _) (vP _) rfl (by omega) (by omega) ?_
 refine WL.sub (Dt (i:=10) (zs:=(d::dg 2 u)) (zs':=(d::dg 2 u)) rfl rfl rfl (by rw[List.length_cons];omega) rfl) ?_
 refine ca (lZ (xs:=(d::dg 2 u)) (by rw[List.length_cons];omega) (Gd hd)) xC ⟨a1 rfl,rfl⟩ ((bR (dg 2 (2*u+d)))) ?_
 refine o1 ?_;refine nl ?_;refine rt ?_;exact en (.inl rfl) rfl (eY (.one (.id rfl))) (by decide) (fun h=>by cases h) rfl
theorem oL {xs:List Nat}{u:Nat}(hl:Lim 4294967296 xs) (hx:xs.length≤10000) (hu:vl 4294967296 xs=u):aP false Tryd.prog 38 [] [.one (.t (sU false xs))] (bI (bR (dg 2 (u)))):=by
 refine eH Tryd.func38 rfl Tryd.ntmps38 rfl aW rfl fun N9 w9 c0 h0=>?_
 refine sq ?_;refine rl ?_;refine o1 ?_;refine nl ?_;refine sq ?_;refine rl ?_;refine o1 ?_;refine nl ?_;refine sq ?_;refine sq ?_;refine rl ?_;refine o1 ?_;refine nl ?_;refine bl ?_
 refine lp (γ:=Nat×List Nat) (fun s=>cD [(0,.one (.t (sU false xs))),(3,.one (.sl 0 0 (32*s.1))),(4,.one (tv (.int .i64 ((s.1:Nat):Int))))]) (fun s=>[(⟨5,1,(aV s.2).map .t⟩:Ob)].map some) (fun s=>s.1≤xs.length∧s.2.length=32*s.1∧Lim 2 s.2∧vl 2 s.2=vl 4294967296 (xs.take s.1)) (fun s=>xs.length-s.1) (0,[]) ⟨Nat.zero_le _,rfl,Lim.nil,rfl⟩ ((nr (i:=3) 0 5 1 rfl rfl rfl rfl).trans (bO h0 [0] _ _ (by decide) ⟨rfl,rfl,rfl,trivial⟩ ⟨bV (l:=[]) rfl,rfl⟩)) ?_
 rintro⟨i,os⟩ ⟨hi,hos,hol,hv⟩;dsimp only at hi hos hol hv⊢;have hxi:=hl.nth (by omega) i
 refine sq ?_;refine sq ?_;refine rl ?_;(iterate 4 refine o1 ?_);refine nl ?_;refine cA rfl (fun h1=>?_) (fun h1=>?_)
 ·refine sk ?_;refine sq ?_;refine bl ?_;refine sq ?_;refine rl ?_;refine o1 ?_;refine nl ?_;refine bl ?_
  refine lp (γ:=Nat×List Nat) (fun s=>cD [(0,.one (.t (sU false xs))),(3,.one (.sl 0 0 (32*i+s.1))),(4,.one (tv (.int .i64 ((i:Nat):Int)))),(5,.one (tv (.int .i64 ((s.1:Nat):Int))))]) (fun s=>[(⟨5,1,(aV s.2).map .t⟩:Ob)].map some) (fun s=>s.1≤32∧s.2.length=32*i+s.1∧Lim 2 s.2∧vl 2 s.2=vl 4294967296 (xs.take i)+2^(32*i)*(nth xs i%2^s.1)) (fun s=>32-s.1) (0,os) ⟨Nat.zero_le _,(by omega),hol,(by rw[hv,Nat.pow_zero,Nat.mod_one,Nat.mul_zero,Nat.add_zero])⟩ (bO h0 [0] _ _ (by decide) ⟨rfl,rfl,rfl,rfl,trivial⟩ ⟨bV rfl,rfl⟩) ?_
  rintro⟨k,ps⟩ ⟨hk,hos2,hol2,hv2⟩;dsimp only at hk hos2 hol2 hv2⊢;refine sq ?_;refine sq ?_;refine rl ?_;refine o1 ?_;refine o1 ?_;refine nl ?_
  refine cA rfl (fun h2=>?_) (fun h2=>?_)
  ·refine sk ?_;refine sq ?_;refine bl ?_;refine rl ?_;(iterate 4 refine o1 ?_);refine nS ([.v (.int .u32 ((nth xs (i):Nat):Int))]) (tE xs (k:=i) (by omega)) ?_
   refine o1 ?_;refine o1 ?_;refine WL.cast (t:=22) (u':=.int .u32 ((((nth xs (i))/2^k):Nat):Int)) rfl (aM (Ma (by omega))) ?_
   refine o1 ?_;refine WL.cast (t:=23) (u':=.int .u32 ((((nth xs (i))/2^k%2):Nat):Int)) rfl (aM (Ge (Nat.lt_of_le_of_lt (Nat.div_le_self _ _) (by omega)))) ?_
   refine o1 ?_;refine WL.cast (t:=24) (u':=.int .u8 ((((nth xs (i))/2^k%2):Nat):Int)) rfl (aM (by omega)) ?_
   refine bs 1 ?_;refine jV (j:=2) aW rfl rfl rfl rfl (.sl rfl (by rw[List.length_map,eT,hos2];omega)) (.sl rfl rfl rfl) rfl rfl rfl (by omega) (by omega) ?_
   refine o1 ?_;refine nl ?_;refine rl ?_;refine o1 ?_;refine o1 ?_;refine WL.cast (t:=15) (u':=.int .i64 ((k+1:Nat):Int)) rfl (aM (by omega)) ?_
   refine o1 ?_;refine nl ?_
   exact⟨(k+1,ps++[nth xs i/2^k%2]),by dsimp only;omega,⟨by dsimp only;omega,(by dsimp only;rw[List.length_append,hos2];simp;omega),hol2.append (Lim.cons (Nat.mod_lt _ (by omega)) Lim.nil),Aq hos2 hv2⟩,bO h0 [2] _ _ (by decide) ⟨rfl,rfl,rfl,rfl,trivial⟩ ⟨bV (congrArg (fun l:List AV=>some (⟨5,1,l⟩:Ob)) (lD ps [nth xs i/2^k%2])),rfl⟩⟩
  refine ex ?_;refine rl ?_;refine o1 ?_;refine o1 ?_;refine WL.cast (t:=11) (u':=.int .i64 ((i+1:Nat):Int)) rfl (aM (by omega)) ?_
  refine o1 ?_;refine nl ?_;have hk32:k=32:=by omega
  rw[hk32]at hv2
  exact⟨(i+1,ps),by dsimp only;omega,⟨by dsimp only;omega,by dsimp only;omega,hol2,(Ar (by omega) hv2)⟩,bO h0 [0] _ _ (by decide) ⟨rfl,(congrArg (fun n:Nat=>some (FV.one (.sl 0 0 n))) (show 32*(i+1)=32*i+k by omega)),rfl,trivial⟩ ⟨bV rfl,rfl⟩⟩
 refine ex ?_;refine sq ?_;refine rl ?_;have hi9:i=xs.length:=by omega
 rw[hi9,List.take_length,hu]at hv;have htr:=jD (by omega) hol hv
 refine WL.sub (Dt (i:=3) (zs:=os) (zs':=os) rfl rfl rfl (by omega) rfl) ?_
 refine o1 ?_;refine ca (lZ (xs:=os) (by omega) htr) xC ⟨a1 rfl,rfl⟩ ((bR (dg 2 (u)))) ?_
 refine o1 ?_;refine nl ?_;refine rt ?_;exact en (.inl rfl) rfl (eY (.one (.id rfl))) (by decide) (fun h=>by cases h) rfl
theorem Gf {u:Nat}(hu:(dg 2 (u)).length≤900000):aP true Tryd.prog 81 [] [(bR (dg 2 (u)))] (bI (nO u)):=by
 refine eH Tryd.func81 rfl Tryd.ntmps81 rfl aW rfl fun N9 w9 c0 h0=>?_
 have hX:=bK (B:=2) (by omega) u
 have hvX:=bT (B:=2) (by omega) u
 refine sq ?_;refine rl ?_;refine o1 ?_;refine nl ?_;refine sq ?_;refine rl ?_;refine o1 ?_
 refine ca (lZ (xs:=(dg 2 (u))) (by omega) (jD (by omega) (bK (by omega) u) (bT (by omega) u))) xC ⟨a1 rfl,rfl⟩ ((bR (dg 2 (u)))) ?_
 refine o1 ?_;refine nl ?_;refine sq ?_;refine rl ?_;refine o1 ?_;refine nl ?_;refine sq ?_;refine sq ?_;refine rl ?_;refine o1 ?_;refine nl ?_;refine bl ?_
 refine lp (γ:=Nat×List Nat) (fun s=>cD [(0,.one (.t (.s false 5 1 (dg 2 (u)).length (aV (dg 2 (u)))))),(3,.one (.sl 0 0 ((s.1+31)/32))),(4,.one (tv (.int .i64 ((s.1:Nat):Int))))]) (fun s=>[(⟨64,1,(aG s.2).map .t⟩:Ob)].map some) (fun s=>s.1≤(dg 2 (u)).length∧s.2.length=(s.1+31)/32∧Lim 4294967296 s.2∧vl 4294967296 s.2=vl 2 ((dg 2 u).take s.1)) (fun s=>(dg 2 (u)).length-s.1) (0,[]) ⟨Nat.zero_le _,rfl,Lim.nil,rfl⟩ ((nr (i:=3) 0 64 1 rfl rfl rfl rfl).trans (bO h0 [0] _ _ (by decide) ⟨rfl,rfl,rfl,trivial⟩ ⟨bV (l:=[]) rfl,rfl⟩)) ?_
 rintro⟨i,ws⟩ ⟨hi,hws,hol,hv⟩;dsimp only at hi hws hol hv⊢;refine sq ?_;refine sq ?_;refine rl ?_;(iterate 4 refine o1 ?_);refine nl ?_;refine cA rfl (fun h1=>?_) (fun h1=>?_)
 ·refine sk ?_;refine sq ?_;refine bl ?_;refine sq ?_;refine sq ?_;refine rl ?_;refine o1 ?_;refine o1 ?_
  refine WL.cast (t:=14) (u':=.int .i64 ((i%32:Nat):Int)) rfl (aM (gI _ 32)) ?_;refine o1 ?_;refine nl ?_;refine cA rfl (fun h2=>?_) (fun h2=>?_)
  ·refine rl ?_;refine o1 ?_;refine bs 1 ?_
   refine jV (j:=2) aW rfl rfl rfl rfl (.sl rfl (by rw[List.length_map,jZ,hws];omega)) (.sl rfl rfl rfl) rfl rfl rfl (by omega) (by omega) ?_
   refine WL.sub (Nz (j:=2) (t:=64) (z:=1) (l':=(aG (ws++[0])).map .t) rfl (Ch ws [0])) ?_;refine o1 ?_;refine nl ?_
   have hvw:vl 4294967296 (ws++[0])=vl 2 ((dg 2 u).take i):=by rw[dY,Nat.mul_zero,Nat.add_zero];exact hv
   have hlw:(ws++[0]).length=i/32+1:=by rw[List.length_append];simp;omega
   have hb1:=wK hX hvw
   have hb2:=hX.nth (by omega) i
   have hb3:2^(i%32)≤2^31:=Nat.pow_le_pow_right (by omega) (by omega)
   have hb4:=qQ (ws:=(ws++[0])) (X:=dg 2 u) (i:=i) (by omega) hvw
   have hb5:nth (dg 2 u) i*2^(i%32)≤1*2^(i%32):=Nat.mul_le_mul_right _ (by omega)
   have hlim:Lim 4294967296 ((ws++[0]).set (i/32) (nth (ws++[0]) (i/32)+nth (dg 2 u) i*2^(i%32))):=Lim.set (hol.append (Lim.cons (by omega) Lim.nil)) _ (by omega)
   refine rd [1,2] (fun i=>[18].contains i) mixed ?_
   refine dv 0 ?_;refine dv 1 ?_;refine dv 2 ?_ (hC:=(lE 32 (by omega) (by simp only[eV];omega)))
   refine WD.cast (t:=21) (u':=.int .i64 ((i/32:Nat):Int)) rfl (aM (gJ _ 32)) ?_;refine dv 3 ?_;refine dv 4 ?_
   refine dv 5 ?_ (hC:=(lE 32 (by omega) (by simp only[eV];omega)))
   refine WD.cast (t:=24) (u':=.int .i64 ((i/32:Nat):Int)) rfl (aM (gJ _ 32)) ?_;refine dv 6 ?_;refine Ij 7 (Ad (ws++[0]) (k:=i/32) (by omega)) ?_
   refine dv 8 ?_;refine dv 9 ?_;refine dv 10 ?_;refine Dj 11 ([.v (.int .u8 ((nth (dg 2 (u)) (i):Nat):Int))]) (lT (dg 2 (u)) (k:=i) (by omega)) ?_
   refine dv 12 ?_;refine WD.cast (t:=31) (u':=.int .u32 ((nth (dg 2 (u)) (i):Nat):Int)) rfl (aM (by omega)) ?_
   refine dv 13 ?_;refine dv 14 ?_;refine WD.cast (t:=33) (u':=.int .i64 ((i%32:Nat):Int)) rfl (aM (gI _ 32)) ?_;refine dv 15 ?_
   refine WD.cast (t:=34) (u':=.int .u32 (((nth (dg 2 (u)) (i)*2^(i%32)):Nat):Int)) rfl (aM (Du (by omega) (by omega))) ?_
   refine dv 16 ?_;refine WD.cast (t:=35) (u':=.int .u32 ((nth (ws++[0]) (i/32)+(nth (dg 2 (u)) (i)*2^(i%32)):Nat):Int)) rfl (aM (by omega)) ?_
   refine dv 17 ?_;refine xE 18 (pM (ws++[0]) (k:=i/32) (v:=nth (ws++[0]) (i/32)+(nth (dg 2 (u)) (i)*2^(i%32))) (by omega)) (tF (ws++[0]) (by omega)) ?_
   refine yU ?_;refine rl ?_;refine o1 ?_;refine o1 ?_;refine WL.cast (t:=12) (u':=.int .i64 ((i+1:Nat):Int)) rfl (aM (by omega)) ?_
   refine o1 ?_;refine nl ?_
   exact⟨(i+1,(ws++[0]).set (i/32) (nth (ws++[0]) (i/32)+nth (dg 2 u) i*2^(i%32))),by dsimp only;omega,⟨by dsimp only;omega,(by dsimp only;rw[List.length_set];omega),hlim,hb4⟩,bO h0 [2] _ _ (by decide) ⟨rfl,(congrArg (fun n:Nat=>some (FV.one (.sl 2 0 n))) (by omega)),rfl,trivial⟩ ⟨bV rfl,rfl⟩⟩
  refine sk ?_;have hvw:=hv
  have hlw:ws.length=i/32+1:=by omega
  have hb1:=wK hX hvw
  have hb2:=hX.nth (by omega) i
  have hb3:2^(i%32)≤2^31:=Nat.pow_le_pow_right (by omega) (by omega)
  have hb4:=qQ (ws:=ws) (X:=dg 2 u) (i:=i) (by omega) hvw
  have hb5:nth (dg 2 u) i*2^(i%32)≤1*2^(i%32):=Nat.mul_le_mul_right _ (by omega)
  have hlim:Lim 4294967296 (ws.set (i/32) (nth ws (i/32)+nth (dg 2 u) i*2^(i%32))):=Lim.set (hol) _ (by omega)
  refine rd [0] (fun i=>[18].contains i) mixed ?_
  refine dv 0 ?_;refine dv 1 ?_;refine dv 2 ?_ (hC:=(lE 32 (by omega) (by simp only[eV];omega)))
  refine WD.cast (t:=21) (u':=.int .i64 ((i/32:Nat):Int)) rfl (aM (gJ _ 32)) ?_;refine dv 3 ?_;refine dv 4 ?_
  refine dv 5 ?_ (hC:=(lE 32 (by omega) (by simp only[eV];omega)))
  refine WD.cast (t:=24) (u':=.int .i64 ((i/32:Nat):Int)) rfl (aM (gJ _ 32)) ?_;refine dv 6 ?_;refine Ij 7 (Ad ws (k:=i/32) (by omega)) ?_
  refine dv 8 ?_;refine dv 9 ?_;refine dv 10 ?_;refine Dj 11 ([.v (.int .u8 ((nth (dg 2 (u)) (i):Nat):Int))]) (lT (dg 2 (u)) (k:=i) (by omega)) ?_
  refine dv 12 ?_;refine WD.cast (t:=31) (u':=.int .u32 ((nth (dg 2 (u)) (i):Nat):Int)) rfl (aM (by omega)) ?_
  refine dv 13 ?_;refine dv 14 ?_;refine WD.cast (t:=33) (u':=.int .i64 ((i%32:Nat):Int)) rfl (aM (gI _ 32)) ?_;refine dv 15 ?_
  refine WD.cast (t:=34) (u':=.int .u32 (((nth (dg 2 (u)) (i)*2^(i%32)):Nat):Int)) rfl (aM (Du (by omega) (by omega))) ?_
  refine dv 16 ?_;refine WD.cast (t:=35) (u':=.int .u32 ((nth ws (i/32)+(nth (dg 2 (u)) (i)*2^(i%32)):Nat):Int)) rfl (aM (by omega)) ?_
  refine dv 17 ?_;refine xE 18 (pM ws (k:=i/32) (v:=nth ws (i/32)+(nth (dg 2 (u)) (i)*2^(i%32))) (by omega)) (tF ws (by omega)) ?_
  refine yU ?_;refine rl ?_;refine o1 ?_;refine o1 ?_;refine WL.cast (t:=12) (u':=.int .i64 ((i+1:Nat):Int)) rfl (aM (by omega)) ?_
  refine o1 ?_;refine nl ?_
  exact⟨(i+1,ws.set (i/32) (nth ws (i/32)+nth (dg 2 u) i*2^(i%32))),by dsimp only;omega,⟨by dsimp only;omega,(by dsimp only;rw[List.length_set];omega),hlim,hb4⟩,bO h0 [0] _ _ (by decide) ⟨rfl,(congrArg (fun n:Nat=>some (FV.one (.sl 0 0 n))) (by omega)),rfl,trivial⟩ ⟨bV rfl,rfl⟩⟩
 refine ex ?_;refine sq ?_;refine rl ?_;refine o1 ?_;refine o1 ?_;refine nl ?_;refine rt ?_;have hi9:i=(dg 2 (u)).length:=by omega
 rw[hi9,List.take_length,hvX]at hv;rw[hi9]at hws;have hwd:=As hol hv hws
 exact en (.inl rfl) rfl (eY (.one (.sl (trs:=aG ws) rfl rfl (by rw[hi9,←hws];exact gY _) (by rw[hi9,←hws];exact cM _)))) (by decide) (fun _=>.inl ⟨rfl,eQ _⟩) (by rw[hi9,←hws];exact congrArg (fun l:List Nat=>FV.one (.t (sU true l))) hwd)
theorem Dx {u v:Nat}(hu:(dg 2 (u)).length≤200000) (hv:(dg 2 (v)).length≤200000):aP false Tryd.prog 50 [] [(bR (dg 2 (u))),(bR (dg 2 (v)))] (bI (bR (dg 2 (u*v)))):=by
 refine eH Tryd.func50 rfl Tryd.ntmps50 rfl aW rfl fun N9 w9 c0 h0=>?_
 have hY:=bK (B:=2) (by omega) v
 have hvY:=bT (B:=2) (by omega) v
 refine sq ?_;refine rl ?_;refine o1 ?_;refine nl ?_;refine sq ?_;refine rl ?_;refine o1 ?_;refine nl ?_;refine sq ?_;refine sq ?_;refine rl ?_;(iterate 4 refine o1 ?_);refine nl ?_
 refine bl ?_
 refine lp (γ:=Nat) (fun s=>cD [(0,.one (.t (.s false 5 1 (dg 2 (u)).length (aV (dg 2 (u)))))),(1,.one (.t (.s false 5 1 (dg 2 (v)).length (aV (dg 2 (v)))))),(5,.one (.t (.s false 5 1 (dg 2 (u*vl 2 ((dg 2 (v)).drop (s)))).length (aV (dg 2 (u*vl 2 ((dg 2 (v)).drop (s)))))))),(6,.one (tv (.int .i64 (((s:Nat):Int)-1))))]) (fun s=>([]:List Ob).map some) (fun s=>s≤(dg 2 (v)).length) (fun s=>s) ((dg 2 (v)).length) (Nat.le_refl _) (((nr (i:=5) 0 5 1 rfl rfl rfl rfl).trans (Dt (i:=5) (zs:=[]) (zs':=[]) rfl rfl rfl rfl rfl)).trans (bO h0 [] _ _ (by decide) ⟨rfl,rfl,(congrArg (fun z:Nat=>some (bR (dg 2 z))) (show u*vl 2 ((dg 2 (v)).drop ((dg 2 (v)).length))=0 by rw[List.drop_length];rfl)),rfl,trivial⟩ rfl)) ?_
 rintro i hi;refine sq ?_;refine sq ?_;refine rl ?_;refine o1 ?_;refine o1 ?_;refine nl ?_;refine cA rfl (fun h1=>?_) (fun h1=>?_)
 ·refine sk ?_;refine sq ?_;refine bl ?_;refine sq ?_;have hds:=dK 2 (l:=(dg 2 (v))) (k:=i) (by omega) hi
  have hdl:=xZ (B:=2) (l:=(dg 2 (v))) (k:=i) (by omega) hi
  have hdl2:=pP u (vl 2 ((dg 2 (v)).drop i))
  have hdl3:=dZ (B:=2) (by omega) hdl
  rw[hvY]at hdl3;have hdl4:=Gc (L:=400000) (u:=u*vl 2 ((dg 2 (v)).drop (i))) (v:=u*vl 2 ((dg 2 (v)).drop (i))) (by omega) (by omega)
  have hdl5:(dg 2 (2*(u*vl 2 ((dg 2 (v)).drop (i)))+0)).length≤400001:=by rw[show 2*(u*vl 2 ((dg 2 (v)).drop (i)))+0=u*vl 2 ((dg 2 (v)).drop (i))+u*vl 2 ((dg 2 (v)).drop (i)) by omega];exact hdl4
  have hni:=hY.nth (by omega) (i-1)
  refine rl ?_;refine o1 ?_
  refine ca (Oc (u:=u*vl 2 ((dg 2 (v)).drop (i))) (d:=0) (by omega) (by omega)) Nv ⟨a1 rfl,a1 rfl,rfl⟩ ((bR (dg 2 (2*(u*vl 2 ((dg 2 (v)).drop (i)))+0)))) ?_
  refine o1 ?_;refine nl ?_;refine sq ?_;refine rl ?_;refine o1 ?_;refine o1 ?_;refine WL.cast (t:=17) (u':=.int .i64 ((i-1:Nat):Int)) rfl (aM (by omega)) ?_
  refine o1 ?_;refine nS ([.v (.int .u8 ((nth (dg 2 (v)) (i-1):Nat):Int))]) (lT (dg 2 (v)) (k:=i-1) (by omega)) ?_
  refine o1 ?_;refine nl ?_;refine cA rfl (fun h2=>?_) (fun h2=>?_)
  ·refine rl ?_;refine o1 ?_;refine o1 ?_
   refine ca (Mb (u:=2*(u*vl 2 ((dg 2 (v)).drop (i)))+0) (v:=u) (by omega) (by omega)) Ny ⟨a1 rfl,a1 rfl,rfl⟩ ((bR (dg 2 (2*(u*vl 2 ((dg 2 (v)).drop (i)))+0+u)))) ?_
   refine o1 ?_;refine nl ?_;refine rl ?_;(iterate 3 refine o1 ?_);refine nl ?_
   have hpe:u*vl 2 ((dg 2 (v)).drop (i-1))=2*(u*vl 2 ((dg 2 (v)).drop (i)))+0+u:=by rw[hds,show nth (dg 2 (v)) (i-1)=1 by omega,Nat.mul_add,←Nat.mul_assoc,Nat.mul_comm u 2,Nat.mul_assoc];omega
   exact⟨i-1,by omega,by omega,bO h0 [] _ _ (by decide) ⟨rfl,rfl,(congrArg (fun z:Nat=>some (bR (dg 2 z))) hpe),qM (by omega),trivial⟩ rfl⟩
  refine sk ?_;refine rl ?_;(iterate 3 refine o1 ?_);refine nl ?_
  have hpe:u*vl 2 ((dg 2 (v)).drop (i-1))=2*(u*vl 2 ((dg 2 (v)).drop (i)))+0:=by rw[hds,show nth (dg 2 (v)) (i-1)=0 by omega,Nat.mul_add,←Nat.mul_assoc,Nat.mul_comm u 2,Nat.mul_assoc];omega
  exact⟨i-1,by omega,by omega,bO h0 [] _ _ (by decide) ⟨rfl,rfl,(congrArg (fun z:Nat=>some (bR (dg 2 z))) hpe),qM (by omega),trivial⟩ rfl⟩
 refine ex ?_;refine sq ?_;refine rl ?_;refine o1 ?_;refine o1 ?_;refine nl ?_;refine rt ?_;have hi0:i=0:=by omega
 exact en (.inl rfl) rfl (eY (.one (.id rfl))) (by decide) (fun h=>by cases h) (by rw[hi0,List.drop_zero,hvY];rfl)
theorem At {xs:List Nat}(hl:Lim 4294967296 xs) (h:xs.length≤1000000):Nn xs (val xs):=⟨hl,h,rfl⟩
theorem nB {xs:List Nat}{L:Nat}(hl:Lim 4294967296 xs) (h:xs.length≤L):(dg 2 (val xs)).length≤32*L:=Cp (by unfold val;rw[cY (by omega) hl];exact Nat.le_trans (bM _) h)
theorem Mc {l:List (List Nat)}{k:Nat}(hl:∀x∈l,Lim 4294967296 x) (h:∀j,j<k→(cE l j).length≤8) (hk:l.length≤k):RL 1000 l:=by
 intro xs hx
 refine⟨hl xs hx,?_⟩
 obtain⟨j,hj⟩:=List.mem_iff_getElem?.1 hx
 have h1:=(List.getElem?_eq_some_iff.1 hj).1
 rw[mZ h1]at hj
 injection hj with hj
 have:=h j (by omega)
 rw[hj]at this
 omega
theorem Dy {xs:List Nat}{u:Nat}(hx:xs.length≤1000000) (hu:(dg 2 (u)).length≤900000) (hxu:xs=(dg 4294967296 (u))):aP true Tryd.prog 41 [] [nF xs,(bR (dg 2 (u)))] (bI (.one (tv (.bool true)))):=by
 refine eH Tryd.func41 rfl Tryd.ntmps41 rfl aW rfl fun N9 w9 c0 h0=>?_
 refine sq ?_;refine rl ?_;refine o1 ?_;refine nl ?_;refine sq ?_;refine rl ?_;refine o1 ?_;refine o1 ?_;refine ca (Gf hu) Nu ⟨a1 rfl,rfl⟩ (nF (dg 4294967296 (u))) ?_
 refine ca (eE (xs:=xs) (ys:=(dg 4294967296 (u))) hx hxu) jW ⟨a1 rfl,a1 rfl,rfl⟩ (.one (tv (.bool true))) ?_;refine o1 ?_;refine nl ?_;refine rt ?_;exact mC (.inl rfl) rfl (rfl)
theorem tR {xs:List Nat}(hx:xs.length≤1000000):aP true Tryd.prog 39 [] [nF xs] (bI (.one (.t (sU true xs)))):=by
 refine eH Tryd.func39 rfl Tryd.ntmps39 rfl aW rfl fun N9 w9 c0 h0=>?_
 refine sq ?_;refine rl ?_;refine o1 ?_;refine nl ?_;refine sq ?_;refine rl ?_;refine o1 ?_;refine nl ?_;refine sq ?_;refine rl ?_;refine o1 ?_;refine o1 ?_
 refine jV (j:=0) aW rfl rfl rfl rfl .nil .fz (Jj _) (Ce _) rfl (by omega) (by omega) ?_
 refine o1 ?_;refine nl ?_;refine rt ?_
 exact en (.inl rfl) rfl (eY (.one (.sl (trs:=aG xs) rfl rfl (by rw[Nat.zero_add];exact gY _) (by rw[Nat.zero_add];exact cM _)))) (by decide) (fun _=>.inl ⟨rfl,eQ _⟩) (by rw[Nat.zero_add];rfl)
theorem tS {xs:List Nat}(hx:xs.length≤1099511627776):aP false Tryd.prog 52 [⟨64,1,(aG xs).map .t⟩] [.one (.sl 0 0 xs.length)] (Rt [⟨64,1,(aG (List.replicate xs.length 77)).map .t⟩] (.tup [])):=by
 refine Mg Tryd.func52 rfl Tryd.ntmps52 rfl aW rfl fun N9 M9 w9 c0 h0=>?_
 refine sq ?_;refine rl ?_;refine o1 ?_;refine nl ?_;refine bl ?_
 refine lp (γ:=Nat) (fun i=>cD [(0,.one (.sl 0 0 xs.length)),(2,.one (tv (.int .i64 ((i:Nat):Int))))]) (fun i=>[(⟨64,1,(aG (eK xs i)).map .t⟩:Ob)].map some) (fun i=>i≤xs.length) (fun i=>xs.length-i) 0 (Nat.zero_le _) (zC h0 [0] _ _ (by decide) rfl ⟨rfl,rfl,trivial⟩ ⟨bV rfl,rfl⟩) fun i hi=>?_
 have hli:=Ck (xs:=xs) (k:=i) hi
 refine sq ?_;refine sq ?_;refine rl ?_;(iterate 4 refine o1 ?_);refine nl ?_;refine cA rfl (fun h1=>?_) (fun h1=>?_)
 ·refine sk ?_;refine sq ?_;refine bl ?_;refine rl ?_;(iterate 3 refine o1 ?_);refine Mj (pM (eK xs i) (k:=i) (v:=77) (by omega)) (tF (eK xs i) (by omega)) ?_
  refine nl ?_;refine rl ?_;refine o1 ?_;refine o1 ?_;refine WL.cast (t:=8) (u':=.int .i64 ((i+1:Nat):Int)) rfl (aM (by omega)) ?_
  refine o1 ?_;refine nl ?_
  exact⟨i+1,by omega,by omega,zC h0 [0] _ _ (by decide) rfl ⟨rfl,rfl,trivial⟩ ⟨bV (congrArg (fun l:List Nat=>some (⟨64,1,(aG l).map .t⟩:Ob)) (Cl (by omega))),rfl⟩⟩
 refine ex ?_
 exact Mh (lent':=[⟨64,1,(aG (List.replicate xs.length 77)).map .t⟩]) (.inr rfl) rfl (Mi) (by decide) (fun _ h=>by cases h) ⟨⟨rfl,rfl⟩,trivial⟩ ⟨congrArg (fun l:List Nat=>some (⟨64,1,(aG l).map .t⟩:Ob)) (Cm (by omega) hi),trivial⟩ ⟨sM _,trivial⟩ (fun h=>by cases h) ⟨rfl,rfl⟩
theorem Cq {xs ys:List Nat}{l:List (List Nat)}(hxs:Lim 4294967296 xs) (hys:Lim 4294967296 ys) (hl:∀x∈l,Lim 4294967296 x):aP true Tryd.prog 7 [] [nF xs,nF ys,.one (.t (.s false 22 1 l.length (rT l)))] (bI (.one (tv (.bool true)))):=by
 refine eH Tryd.func7 rfl Tryd.ntmps7 rfl aW rfl fun N9 w9 c0 h0=>?_
 refine sq ?_;refine rl ?_;refine o1 ?_;refine nl ?_;refine sq ?_;refine sq ?_;refine rl ?_;(iterate 4 refine o1 ?_);refine WL.split (t:=18) rfl (fun h1=>?_) (fun h1=>?_)
 ·(iterate 3 refine iE ?_);refine o1 ?_;refine o1 ?_;(iterate 3 refine iE ?_);refine o1 ?_;refine nl ?_;refine rZ rfl ?_;refine sq ?_;refine rl ?_
  refine ca (jC) sO rfl (.one (tv (.bool true))) ?_;refine o1 ?_;refine nl ?_;refine rt ?_;exact mC (.inl rfl) rfl (rfl)
 (iterate 5 refine o1 ?_);refine WL.split (t:=23) rfl (fun h2=>?_) (fun h2=>?_)
 ·(iterate 3 refine iE ?_);refine o1 ?_;refine nl ?_;refine rZ rfl ?_;refine sq ?_;refine rl ?_;refine ca (jC) sO rfl (.one (tv (.bool true))) ?_;refine o1 ?_;refine nl ?_
  refine rt ?_;exact mC (.inl rfl) rfl (rfl)
 (iterate 4 refine o1 ?_);refine nl ?_;refine cA rfl (fun h3=>?_) (fun h3=>?_)
 ·refine sq ?_;refine rl ?_;refine ca (jC) sO rfl (.one (tv (.bool true))) ?_;refine o1 ?_;refine nl ?_;refine rt ?_;exact mC (.inl rfl) rfl (rfl)
 refine sk ?_;refine sq ?_;refine rl ?_;refine bs 0 ?_;refine WL.sub (Ac (i:=29) (zs:=[1]) (zs':=[1]) rfl rfl rfl rfl rfl) ?_
 refine ca (oL (xs:=[1]) (u:=1) (Lim.cons (by omega) Lim.nil) (by decide) (by decide)) wZ ⟨a1 rfl,rfl⟩ ((bR (dg 2 (1)))) ?_
 refine o1 ?_;refine nl ?_;refine sq ?_;refine sq ?_;refine rl ?_;refine o1 ?_;refine nl ?_;refine bl ?_
 refine lp (γ:=Nat) (fun s=>cD [(0,.one (.t (sU false xs))),(1,.one (.t (sU false ys))),(2,.one (.t (.s false 22 1 l.length (rT l)))),(7,.one (.t (.s false 5 1 (dg 2 (bZ (l.take s))).length (aV (dg 2 (bZ (l.take s))))))),(8,.one (tv (.int .i64 ((s:Nat):Int))))]) (fun s=>([]:List Ob).map some) (fun s=>s≤l.length∧(dg 2 (bZ (l.take s))).length≤1+256*s∧∀j,j<s→(cE l j).length≤8) (fun s=>l.length-s) 0 (⟨Nat.zero_le _,by show(dg 2 1).length≤_;decide,fun j hj=>absurd hj (by omega)⟩) (bO h0 [] _ _ (by decide) ⟨rfl,rfl,rfl,rfl,rfl,trivial⟩ rfl) ?_
 rintro i hi;refine sq ?_;refine sq ?_;refine rl ?_;(iterate 4 refine o1 ?_);refine nl ?_;refine cA rfl (fun h4=>?_) (fun h4=>?_)
 ·refine sk ?_;refine sq ?_;refine bl ?_;refine sq ?_;refine sq ?_;refine rl ?_;(iterate 3 refine o1 ?_);refine nS ([sU false (cE l (i))]) (tM l (k:=i) (by omega)) ?_
  refine o1 ?_;refine o1 ?_;refine nl ?_;refine cA rfl (fun h5=>?_) (fun h5=>?_)
  ·refine sq ?_;refine rl ?_;refine ca (jC) sO rfl (.one (tv (.bool true))) ?_;refine o1 ?_;refine nl ?_;refine rt ?_;exact mC (.inl rfl) rfl (rfl)
  refine sk ?_;have hb9:=nB (L:=8) (hl _ (fL (l:=l) (k:=i) (by omega))) (by omega)
  have hm9:=pP (bZ (l.take i)) (val (cE l i))
  refine rl ?_;(iterate 4 refine o1 ?_);refine nS ([sU false (cE l (i))]) (tM l (k:=i) (by omega)) ?_
  refine ca (oL (xs:=(cE l (i))) (u:=val (cE l (i))) (hl _ (fL (by omega))) (by omega) rfl) wZ ⟨a1 rfl,rfl⟩ ((bR (dg 2 (val (cE l (i)))))) ?_
  refine ca (Dx (u:=bZ (l.take i)) (v:=val (cE l (i))) (by omega) (by omega)) Ig ⟨a1 rfl,a1 rfl,rfl⟩ ((bR (dg 2 (bZ (l.take i)*val (cE l (i)))))) ?_
  refine o1 ?_;refine nl ?_;refine rl ?_;refine o1 ?_;refine o1 ?_;refine WL.cast (t:=36) (u':=.int .i64 ((i+1:Nat):Int)) rfl (aM (by omega)) ?_
  refine o1 ?_;refine nl ?_
  exact⟨i+1,by omega,⟨by omega,by rw[←lY (by omega)];omega,fun j hj=>(Nat.lt_or_ge j i).elim (hi.2.2 j) (fun h=>by rw[show j=i by omega];omega)⟩,bO h0 [] _ _ (by decide) ⟨rfl,rfl,rfl,(congrArg (fun z:Nat=>some (bR (dg 2 z))) (lY (l:=l) (k:=i) (by omega)).symm),rfl,trivial⟩ rfl⟩
 refine ex ?_;refine sq ?_;refine rl ?_;have hi9:i=l.length:=by omega
 have hRL:=Mc hl hi.2.2 (by omega)
 have hpl:=hi.2.1
 rw[hi9,List.take_length]at hpl;have hpd:=tO (L:=100) (u:=bZ l) (by omega)
 have hb1:=nB (L:=16) hxs (by omega)
 have hb2:=nB (L:=16) hys (by omega)
 have hNx:=At hxs (by omega)
 have hNy:=At hys (by omega)
 have hlx:=Nn.len hNx (Nat.le_refl _)
 have hly:=Nn.len hNy (Nat.le_refl _)
 have hxy:=pP (val xs) (val ys)
 have hxy2:=tO (L:=100) (u:=val xs*val ys) (by omega)
 refine WL.sub (Oa (i:=7) rfl (congrArg (fun z:List (List Nat)=>bR (dg 2 (bZ z))) (show l.take i=l by rw[hi9,List.take_length]))) ?_
 refine o1 ?_;refine ca (tR (xs:=xs) (by omega)) Ic ⟨a1 rfl,rfl⟩ (nF xs) ?_
 refine o1 ?_;refine ca (tR (xs:=ys) (by omega)) Ic ⟨a1 rfl,rfl⟩ (nF ys) ?_
 refine o1 ?_;refine o1 ?_;refine nl ?_;refine sq ?_;refine rl ?_;refine o1 ?_;refine ca (oL (xs:=xs) (u:=val xs) hxs (by omega) rfl) wZ ⟨a1 rfl,rfl⟩ ((bR (dg 2 (val xs)))) ?_
 refine o1 ?_;refine ca (oL (xs:=ys) (u:=val ys) hys (by omega) rfl) wZ ⟨a1 rfl,rfl⟩ ((bR (dg 2 (val ys)))) ?_
 refine ca (Dx (u:=val xs) (v:=val ys) (by omega) (by omega)) Ig ⟨a1 rfl,a1 rfl,rfl⟩ ((bR (dg 2 (val xs*val ys)))) ?_
 refine o1 ?_;refine nl ?_;refine sq ?_;refine sq ?_;refine rl ?_;refine o1 ?_;refine nl ?_;refine bl ?_
 refine lp (γ:=Nat) (fun t=>cD [(0,.one (.t (sU false xs))),(1,.one (.t (sU false ys))),(2,.one (.t (.s false 22 1 l.length (rT l)))),(7,.one (.t (.s false 5 1 (dg 2 (bZ l)).length (aV (dg 2 (bZ l)))))),(9,.one (.t (sU false xs))),(10,.one (.t (sU false ys))),(11,.one (.t (.s false 5 1 (dg 2 (val xs*val ys)).length (aV (dg 2 (val xs*val ys)))))),(12,.one (tv (.int .i64 ((t:Nat):Int))))]) (fun t=>([]:List Ob).map some) (fun t=>t≤2∧True) (fun t=>2-t) 0 ⟨Nat.zero_le _,trivial⟩ (bO h0 [] _ _ (by decide) ⟨rfl,rfl,rfl,rfl,rfl,rfl,rfl,rfl,trivial⟩ rfl) fun t ht=>?_
 refine sq ?_;refine sq ?_;refine rl ?_;refine o1 ?_;refine o1 ?_;refine nl ?_;refine cA rfl (fun h6=>?_) (fun h6=>?_)
 ·refine sk ?_;refine sq ?_;refine bl ?_;refine sq ?_;refine rl ?_;refine o1 ?_;refine o1 ?_;refine mB 0 (rE (w:=val xs*val ys) hNx hNy rfl) xA ⟨a1 rfl,a1 rfl,rfl⟩ ?_
  refine o1 ?_;refine mB 1 (Am hRL (by omega)) Nr ⟨a1 rfl,rfl⟩ ?_
  refine o1 ?_;refine o1 ?_;refine nl ?_;refine sq ?_;refine sq ?_;refine rl ?_;refine o1 ?_;refine o1 ?_
  refine ca (Dy (xs:=(dg 4294967296 (val xs*val ys))) (u:=val xs*val ys) (by omega) (by omega) rfl) Ie ⟨dM rfl (.sl rfl rfl (eJ _) (cM _)),a1 rfl,rfl⟩ (.one (tv (.bool true))) ?_
  (iterate 4 refine o1 ?_)
  refine ca (Dy (xs:=(dg 4294967296 (bZ l))) (u:=bZ l) (by omega) (by omega) rfl) Ie ⟨dM rfl (.sl rfl rfl (eJ _) (cM _)),a1 rfl,rfl⟩ (.one (tv (.bool true))) ?_
  (iterate 5 refine o1 ?_);refine ca (eE (xs:=xs) (ys:=xs) (by omega) rfl) jW ⟨a1 rfl,a1 rfl,rfl⟩ (.one (tv (.bool true))) ?_
  (iterate 5 refine o1 ?_);refine ca (eE (xs:=ys) (ys:=ys) (by omega) rfl) jW ⟨a1 rfl,a1 rfl,rfl⟩ (.one (tv (.bool true))) ?_
  refine o1 ?_;refine o1 ?_;refine nl ?_;refine uV rfl ?_;refine sk ?_;refine sq ?_;refine rl ?_;refine o1 ?_
  refine cl 2 [0] (tS (xs:=(dg 4294967296 (val xs*val ys))) (by omega)) Ih ⟨bV rfl,rfl⟩ ⟨rfl,rfl⟩ (ok:=[some ⟨64,1,(aG (List.replicate (dg 4294967296 (val xs*val ys)).length 77)).map .t⟩]) ⟨bV rfl,rfl⟩ ?_
  refine nl ?_;refine rl ?_;refine o1 ?_
  refine cl 2 [1] (tS (xs:=(dg 4294967296 (bZ l))) (by omega)) Ih ⟨bV rfl,rfl⟩ ⟨rfl,rfl⟩ (ok:=[some ⟨64,1,(aG (List.replicate (dg 4294967296 (bZ l)).length 77)).map .t⟩]) ⟨bV rfl,rfl⟩ ?_
  refine nl ?_;refine rl ?_;refine o1 ?_;refine o1 ?_;refine WL.cast (t:=63) (u':=.int .i64 ((t+1:Nat):Int)) rfl (aM (by omega)) ?_
  refine o1 ?_;refine nl ?_;exact⟨t+1,by omega,⟨by omega,trivial⟩,bO h0 [] _ _ (by decide) ⟨rfl,rfl,rfl,rfl,rfl,rfl,rfl,rfl,trivial⟩ rfl⟩
 refine ex ?_;refine sq ?_;refine rl ?_;refine ca (jC) sO rfl (.one (tv (.bool true))) ?_;refine o1 ?_;refine nl ?_;refine rt ?_;exact mC (.inl rfl) rfl (rfl)
end Go.Proofs.YteggpgndiajdpaaDoor
namespace Go.Proofs.YteggpgndiajdpaaDoor
open Go Go.RowKit Go.ChangeShapes
def Reads (P:Program) (t:TypeId) (z:Nat) (T:List Tr→Prop):Prop:=
 P.cellsOf t=z∧∀(H:Type) (enc:TypeId×Value→H) (w:World) (fuel:Nat) (cs:List Value) (x:DataW H×List MemPlace),DataW.trod enc P w 0 (fun _=>true) true fuel t cs=some x→∃l,T l∧l.length=z∧FRL w (qL w) l cs
theorem wL {W:World}{N:Nat→Prop}:∀{l l':List Tr}{us us':List Value},FRL W N l us→FRL W N l' us'→FRL W N (l++l') (us++us')
 | [],l',us,us',h,h'=>by simp only[FRL]at h;subst h;exact h'
 | x::l,l',u::us,us',h,h'=>by simp only[FRL,List.cons_append]at*;exact⟨h.1,wL h.2 h'⟩
 | _::_,_,[],_,h,_=>by simp only[FRL]at h
theorem wM {W:World}{N:Nat→Prop}:∀{l:List Tr}{us:List Value}{j:Nat}{x:Tr},FRL W N l us→l[j]? =some x→∃u,us[j]? =some u∧FR W N x u
 | [],_,_,_,_,h=>by simp at h
 | y::l,u::us,0,x,h,e=>by
  simp only[FRL]at h
  simp at e
  subst e
  exact⟨u,rfl,h.1⟩
 | y::l,u::us,j+1,x,h,e=>by
  simp only[FRL]at h
  exact wM (j:=j) h.2 (by simpa using e)
 | _::_,[],_,_,h,_=>by simp only[FRL]at h
section
variable {P:Program}{t e:TypeId}{k:IntKind}{z:Nat}{T T':List Tr→Prop}
theorem Reads.mono (h:Reads P t z T) (hi:∀l,T l→T' l):Reads P t z T':=⟨h.1,fun H enc w fuel cs x hx=>let ⟨l,a,b⟩:=h.2 H enc w fuel cs x hx;⟨l,hi l a,b⟩⟩
theorem Jy (ht:P.underlying t=some (.int k)) (hz:P.cellsOf t=1):Reads P t 1 (fun l=>∃n,l=[.v (.int k n)]∧k.min≤n∧n≤k.max):=⟨hz,fun H enc w fuel cs x hx=>by
 obtain⟨n,rfl,_,h⟩:=DataW.trod_int ht hx
 simp only[Lit.wf,Bool.and_eq_true,decide_eq_true_eq]at h
 exact⟨_,⟨n,rfl,h⟩,rfl,by simp[FRL,FR]⟩⟩
inductive Flds (P:Program):Nat→List Field→Nat→(List Tr→Prop)→Prop
 | nil {o:Nat}:Flds P o [] 0 (· =[])
 | cons {o z z':Nat}{f:Field}{fs:List Field}{T T':List Tr→Prop}(ho:f.offset=o) (h:Reads P f.type z T) (h':Flds P (o+z) fs z' T'):Flds P o (f::fs) (z+z') (fun l=>∃a b,l=a++b∧T a∧T' b)
theorem Flds.read {H:Type}{enc:TypeId×Value→H}{w:World}{n o:Nat}{fs:List Field}(h:Flds P o fs z T):∀{cs:List Value},o+z≤cs.length→(∀f∈fs,∃x,DataW.trod enc P w 0 (fun _=>true) true n f.type ((cs.drop f.offset).take (P.cellsOf f.type))=some x)→∃l,T l∧l.length=z∧FRL w (qL w) l ((cs.drop o).take z):=by
 induction h with
 | nil=>exact fun _ _=>⟨[],rfl,rfl,by simp[FRL]⟩
 | @cons o z z' f fs T T' ho hr _ ih=>
  intro cs hl hf
  obtain⟨b,h1,h2,h3⟩:=ih (cs:=cs) (by omega) fun f hm=>hf f (List.mem_cons_of_mem _ hm)
  obtain⟨x,hx⟩:=hf f List.mem_cons_self
  obtain⟨a,g1,g2,g3⟩:=hr.2 H enc w n _ x hx
  rw[ho,hr.1]at g3
  refine⟨a++b,⟨a,b,rfl,g1,h1⟩,by simp[g2,h2],?_⟩
  rw[List.take_add,List.drop_drop]
  exact wL g3 h3
theorem tT (ht:P.underlying t=some (.slice e)) (hz:P.cellsOf t=1) (hz0:0<z) (h:Reads P e z T):Reads P t 1 (fun l=>∃rows:List (List Tr),(∀r∈rows,T r∧r.length=z)∧l=[.s false e z rows.length rows.flatten]):=⟨hz,fun H enc w fuel cs x hx=>by
 have hlen:∀(rows:List (List Tr)),(∀r∈rows,T r∧r.length=z)→rows.flatten.length=rows.length*z:=by
  intro rows
  induction rows with
  | nil=>intro _;simp
  | cons r rows ih=>
   intro hr
   rw[List.flatten_cons,List.length_append,(hr r List.mem_cons_self).2,ih fun r hm=>hr r (List.mem_cons_of_mem _ hm),List.length_cons,Nat.succ_mul,Nat.add_comm]
 rcases Deep.open_slice ht hx with⟨rfl,_⟩ | ⟨a,len,cap,m,n,D,Pl,rfl,_,hl,hm,hmm,_,hel⟩
 ·refine⟨_,⟨[],fun _ h=>(by cases h),rfl⟩,rfl,?_⟩
  simp only[FRL,FR,and_true]
  exact⟨none,0,rfl,Nat.le_refl _,by omega,by simp,.inl rfl⟩
 have hmc:m=cap:=by simpa using hmm
 rw[h.1]at hel
 have hex:∀i:Nat,∃l:List Tr,i<len→T l∧l.length=z∧∀j y,l[j]? =some y→∃u,w.cell? ((a.add (i*z)).add j)=some u∧FR w (qL w) y u:=fun i=>by
  by_cases hi:i<len
  ·obtain⟨cs',h1,h2⟩:=hel i (by omega)
   obtain⟨l,g1,g2,g3⟩:=h.2 H enc w n cs' _ h2
   obtain⟨_,h3,h4⟩:=World.cells?_some h1
   refine⟨l,fun _=>⟨g1,g2,fun j y hj=>?_⟩⟩
   obtain⟨u,hu,hy⟩:=wM g3 hj
   have hjl:=(List.getElem?_eq_some_iff.1 hj).1
   exact⟨u,by rw[h4 j (by omega),hu],hy⟩
  exact⟨[],fun h=>absurd h hi⟩
 have hF:=fun i=>Classical.choose_spec (hex i)
 have hrow:∀r∈(List.range len).map (fun i=>Classical.choose (hex i)),T r∧r.length=z:=fun r hr=>by
  obtain⟨i,hi,rfl⟩:=List.mem_map.1 hr
  have:=hF i (List.mem_range.1 hi)
  exact⟨this.1,this.2.1⟩
 refine⟨_,⟨_,hrow,rfl⟩,rfl,?_⟩
 have h5:=hlen _ hrow
 simp only[FRL,and_true,FR]
 refine⟨some a,cap,by simp,by simpa using hl,by unfold maxLen at hm;omega,h5,?_⟩
 rcases Nat.eq_zero_or_pos len with h0 | h0
 ·exact .inl (by simp[h0])
 refine .inr ⟨a,rfl,?_,kL fun j y hj=>?_⟩
 ·obtain⟨_,g2,g3⟩:=hF 0 h0
  obtain⟨u,hu,_⟩:=g3 0 _ (List.getElem?_eq_getElem (by omega))
  have:=World.block_lt_of_cell? w ((a.add (0*z)).add 0) hu
  rwa[cQ,cQ]at this
 have hjl:=(List.getElem?_eq_some_iff.1 hj).1
 rw[h5,List.length_map,List.length_range]at hjl
 have hi:j/z<len:=Nat.div_lt_of_lt_mul (by rw[Nat.mul_comm];exact hjl)
 obtain⟨_,g2,g3⟩:=hF (j/z) hi
 have hz1:=Nat.mod_lt j hz0
 have hget:∀(rows:List (List Tr)),(∀r∈rows,T r∧r.length=z)→∀(i o:Nat) (r:List Tr),rows[i]? =some r→o<z→rows.flatten[i*z+o]? =r[o]? :=by
  intro rows
  induction rows with
  | nil=>intro _ i o r h;simp at h
  | cons r rows ih=>
   intro hr i o r' hi ho
   have hrl:=(hr r List.mem_cons_self).2
   cases i with
   | zero=>
    simp at hi
    subst hi
    rw[Nat.zero_mul,Nat.zero_add,List.flatten_cons,List.getElem?_append_left (by omega)]
   | succ i=>
    rw[List.flatten_cons,List.getElem?_append_right (by rw[Nat.succ_mul];omega),hrl,show(i+1)*z+o-z=i*z+o by rw[Nat.succ_mul];omega]
    exact ih (fun r hm=>hr r (List.mem_cons_of_mem _ hm)) i o r' (by simpa using hi) ho
 have hd:=Nat.div_add_mod j z
 rw[Nat.mul_comm]at hd
 rw[←hd,hget _ hrow (j/z) (j%z) (Classical.choose (hex (j/z))) (by simp[hi]) hz1]at hj
 obtain⟨u,hu,hy⟩:=g3 _ _ hj
 refine⟨u,?_,hy⟩
 rw[Nat.zero_add]
 have e2:(a.add (j/z*z)).add (j%z)=a.add j:=by rw[iN,hd]
 rwa[e2]at hu⟩
theorem pQ {α:Type}(f:α→List Tr) (Q:α→Prop):∀{rows:List (List Tr)},(∀r∈rows,∃a,Q a∧r=f a)→∃xs:List α,(∀a∈xs,Q a)∧rows.flatten=xs.flatMap f∧rows.length=xs.length
 | [],_=>⟨[],fun _ h=>(by cases h),rfl,rfl⟩
 | r::rows,h=>by
  obtain⟨a,h1,rfl⟩:=h r List.mem_cons_self
  obtain⟨xs,h2,h3,h4⟩:=pQ f Q fun r hm=>h r (List.mem_cons_of_mem _ hm)
  exact⟨a::xs,fun b hb=>(List.mem_cons.1 hb).elim (fun e=>e▸h1) (h2 b),by simp[h3],by simp[h4]⟩
theorem Cr (ht:P.underlying t=some (.slice e)) (he:P.underlying e=some (.int .u32)) (hz:P.cellsOf t=1) (hze:P.cellsOf e=1) (hn:e=64):Reads P t 1 (fun l=>∃xs:List Nat,Lim 4294967296 xs∧l=[sU false xs]):=
 (tT ht hz (by omega) (Jy he hze)).mono fun l ⟨rows,h1,h2⟩=>by
  obtain⟨xs,h3,h4,h5⟩:=pQ (fun n:Nat=>[Tr.v (.int .u32 (n:Int))]) (fun n=>n<4294967296) (rows:=rows) fun r hr=>by
   obtain⟨⟨n,rfl,h1,h2⟩,_⟩:=h1 r hr
   have e1:IntKind.u32.min=0:=rfl
   have e2:IntKind.u32.max=4294967295:=rfl
   rw[e1]at h1
   rw[e2]at h2
   exact⟨n.toNat,by omega,by rw[Int.toNat_of_nonneg h1]⟩
  refine⟨xs,h3,?_⟩
  rw[h2,h4,h5,sU,hn]
  have:∀xs:List Nat,xs.flatMap (fun n:Nat=>[Tr.v (.int .u32 (n:Int))])=aG xs:=by
   intro xs
   induction xs with
   | nil=>rfl
   | cons n xs ih=>rw[List.flatMap_cons,ih];rfl
  rw[this]
end
def LimF (a:Fr4):Prop:=Lim 4294967296 a.x∧Lim 4294967296 a.y
theorem LimF.ok {a:Fr4}(h:LimF a) (h2:a.x.length≤6∧a.y.length≤6):a.ok:=⟨h.1,h.2,by omega,by omega⟩
end Go.Proofs.YteggpgndiajdpaaDoor
namespace Go.Proofs.YteggpgndiajdpaaDoor
open Go Go.ChangeShapes Go.WideShapes Go.ChangeAt Go.RowKit
theorem Jz:Tryd.prog.cellsOf 64=1:=by kernel_rfl
theorem Cs:Tryd.prog.cellsOf 22=1:=by kernel_rfl
theorem tU {W:World}{y:Tr}{u:Value}(hu:u.cells.toList=[u]) (h:FRL W (qL W) [y] u.cells.toList):aK W (qL W) [] (.one (.t y)) u:=by
 rw[hu]at h
 simp only[FRL,and_true]at h
 simpa only[aK,AR]using h
theorem tV:Reads Tryd.prog 22 1 (fun l=>∃xs:List Nat,Lim 4294967296 xs∧l=[sU false xs]):=Cr Tryd.underlying22 Tryd.underlying64 Cs Jz rfl
theorem Ct:Tryd.prog.cellsOf 51=1:=by kernel_rfl
theorem Gg:Reads Tryd.prog 51 1 (fun l=>∃xs:List (List Nat),(∀x∈xs,Lim 4294967296 x)∧l=[.s false 22 1 xs.length (rT xs)]):=
 (tT Tryd.underlying51 Ct (by omega) tV).mono fun l ⟨rows,h1,h2⟩=>by
  obtain⟨xs,h3,h4,h5⟩:=pQ (fun x:List Nat=>[sU false x]) (fun x:List Nat=>Lim 4294967296 x) (rows:=rows) fun r hr=>(h1 r hr).1
  refine⟨xs,h3,?_⟩
  have e:∀xs:List (List Nat),xs.flatMap (fun x:List Nat=>[sU false x])=rT xs:=by
   intro xs
   induction xs with
   | nil=>rfl
   | cons n xs ih=>rw[List.flatMap_cons,ih];rfl
  rw[h2,h4,h5,e]
end Go.Proofs.YteggpgndiajdpaaDoor
