/- Part 9 of a proof: Tk to Rib5. -/
import Derived.Test.YteggpgndiajdpaaGreatDoorM5
import Derived.Test.YteggpgndiajdpaaGreatDoorM4
import Derived.Test.YteggpgndiajdpaaGreatDoorM8
import Derived.Test.YteggpgndiajdpaaGreatDoorM6
import Derived.ProofKit
import Derived.ChangeOld
import Derived.Deep.Slices
import Derived.Deep.Strs
import Derived.WalkKit
import Derived.OpenShut
import Derived.Below
import Derived.Carry
import Derived.Test.YteggpgndiajdpaaGreatDoorM7
set_option maxRecDepth 100000
set_option linter.unusedVariables false
set_option linter.unusedSimpArgs false
namespace Go.Proofs.YteggpgndiajdpaaGreatDoor
open Go Go.RowKit
section
variable {x:Cx}{g g':Nat→FV}{ob ob':List (Option Ob)}{cs cs':List Co}{ts ts':Array Value}{W W' W1:World}{Q:cP}{ops:Array Oper}{late:Nat→Bool}{K fr fr':List Nat}{on:Bool}{fuel:Nat}{listed listed':Array Bool}
theorem RelC.conv0 (h0:x.c0.length=0){live:List (Nat×FV)}(h1:jP [] g live) (hR:RelC x g ob cs ts W):RelC x (bO live) [] [] ts W∧∀b,x.fr W ob cs b→x.fr W [] [] b:=by
 have hL:=(hR.2.pick [] List.nodup_nil).pickS []
 have hN:∀b,x.fr W ob cs b→x.fr W [] [] b:=fun b hb=>⟨⟨hb.1.1,by simp[bJ,aA]⟩,hb.2⟩
 refine⟨.of hR.1 hL ⟨rfl,fun k o hk=>by simp at hk⟩ (fun i hi=>?_) ⟨by simp[h0],fun k hk=>by omega⟩,hN⟩
 obtain⟨u,e1,e2⟩:=hR.fv hi
 exact⟨u,e1,oS (τ:=[]) hN e2 h1⟩
theorem WD.conv {live:List (Nat×FV)}(k:WD x ops Q late [] fr' on fuel listed' (bO live) []) (h0:x.c0.length=0) (h1:jP [] g live) (hfr:fr.all (fun i=>fr'.any (Nat.beq i))=true) (hl:listed=listed'):WD x ops Q late [] fr on fuel listed g ob:=fun Kp W1 cs ts W hR q1 q2 q3=>by
 subst hl
 obtain⟨hR',hN⟩:=hR.conv0 h0 h1
 refine k Kp W1 [] ts W hR' q1 q2 fun hon=>?_
 obtain⟨a,b,c,d⟩:=q3 hon
 refine⟨a,fun bb _=>.inl (by simp[bJ,aA]),fun k9 hk9=>(by cases hk9),fun i hi=>?_⟩
 obtain⟨u,e1,e2⟩:=d i hi
 refine⟨u,e1,?_⟩
 unfold gB at e2⊢
 cases hq:fr'.any (Nat.beq i)with
 | true=>simp[aI,aR]
 | false=>
  have hq2:fr.any (Nat.beq i)=false:=by
   cases hq3:fr.any (Nat.beq i)with
   | false=>rfl
   | true=>
    obtain⟨j,hj,hb⟩:=List.any_eq_true.1 hq3
    have:=Nat.eq_of_beq_eq_true hb
    subst this
    rw[List.all_eq_true.1 hfr i hj]at hq
    cases hq
  rw[hq2]at e2
  exact oS (τ:=[]) (fun b hb=>⟨hN b hb.1,hb.2⟩) e2 h1
theorem WD.meet (live:List (Nat×FV)) (listed':Array Bool) (fr':List Nat) (fuel':Nat) (k:WD x ops Q late [] fr' on fuel' listed' (bO live) []) (h:WD x ops Q late [] fr' on fuel' listed' (bO live) []→WD x ops Q late [] fr on fuel listed g ob):WD x ops Q late [] fr on fuel listed g ob:=h k
theorem Fd {k b:Nat}(h:b∈bJ (ob.set k none) cs):b∈bJ ob cs:=by
 unfold bJ aA at h⊢
 obtain⟨r,hr,hb⟩:=List.mem_flatMap.1 h
 obtain⟨j,hj⟩:=List.mem_iff_getElem?.1 hr
 rw[List.getElem?_zipWith]at hj
 rw[List.getElem?_set]at hj
 by_cases hkj:k=j
 ·subst hkj
  rw[if_pos rfl]at hj
  by_cases hl:k<ob.length
  ·rw[if_pos hl]at hj
   cases hc:cs[k]? with
   | none=>rw[hc]at hj;cases hj
   | some c=>
    rw[hc]at hj
    simp only[Option.some.injEq]at hj
    subst hj
    simp[aC]at hb
  rw[if_neg hl]at hj;cases hj
 rw[if_neg hkj]at hj
 refine List.mem_flatMap.2 ⟨r,List.mem_iff_getElem?.2 ⟨j,?_⟩,hb⟩
 rw[List.getElem?_zipWith]
 exact hj
theorem bB {i k t z n:Nat}{l:List Tr}(hi:Nat.blt i x.n=true) (hg:g i=.one (.sl k 0 n)) (ho:bI ob k=some ⟨t,z,l.map .t⟩) (hz:l.length=n*z) (hfr:fr.any (Nat.beq i)=true) (kk:WD x ops Q late [] fr on fuel listed (aK g i (.one (.t (.s false t z n l)))) (ob.set k none)):WD x ops Q late [] fr on fuel listed g ob:=fun Kp W1 cs ts W hR h1 h2 h3=>by
 obtain⟨m1,m2⟩:=vP hi hg ho (.one .sl) hR (Cr t ho hz cs ts W hR)
 refine kk Kp W1 cs ts W m1 h1 h2 fun hon=>?_
 obtain⟨a,b,c,d⟩:=h3 hon
 refine⟨a,fun bb hb=>(b bb hb).elim (fun h9=>.inl fun hm=>h9 (Fd hm)) (fun⟨k9,hk9,_⟩=>(by cases hk9)),fun k9 hk9=>(by cases hk9),fun j hj=>?_⟩
 obtain⟨u,e1,e2⟩:=d j hj
 refine⟨u,e1,?_⟩
 unfold gB at e2⊢
 cases hq:fr.any (Nat.beq j)with
 | true=>simp[aI,aR]
 | false=>
  rw[hq]at e2
  have hne:Nat.beq j i=false:=by
   cases hb:Nat.beq j i with
   | false=>rfl
   | true=>rw[Nat.eq_of_beq_eq_true hb,hfr]at hq;cases hq
  simp only[cond_false,aK,hne]at e2⊢
  exact cM (fun _ _=>rfl) (fun b hb=>⟨m2 b hb.1,hb.2⟩) .refl _ _ e2
theorem kQ {d t e z by_ key:Nat}{ty:TypeId}{pos:String}{af:Array Edge}{gd:Option (Nat×Bool)}{zz:Value}{ti:Bool}{ts0:Nat}{z0:List Value}(i:Nat) (hi:ops[i]? =some ⟨some d,.buildSlice t 0 #[],ty,pos,af,gd⟩) (k:WD x ops Q late [] (d::fr) true fuel (listed.setIfInBounds i true) (aK g d (.one (.sl key 0 0))) (ob++[some ⟨e,z,[]⟩])) (hw:aO ops x.n g gd=some true:=by rfl) (hT:aU x.P ttab:=by exact aG) (ht:aL ttab t=some ⟨ti,ts0,z0,.sl e z by_ zz⟩:=by rfl) (hk:dS ob key=true:=by rfl):WO x ops Q late [] fr true fuel listed i g ob:=
 sN (v:=.one (.sl key 0 0)) i hi rfl hw (Mx hT ht hk) (by rintro _ _ ⟨rfl,rfl⟩;exact⟨rfl,fun k hk=>by cases hk⟩) (by rintro _ _ ⟨rfl,rfl⟩;exact k)
theorem Tw {d:Nat}{ty:TypeId}{pos:String}{af:Array Edge}{gd:Option (Nat×Bool)}{op:Op}{C:Prop}{v:FV}(i:Nat) (hi:ops[i]? =some ⟨some d,op,ty,pos,af,gd⟩) (k:WD x ops Q late K (d::fr) true fuel (listed.setIfInBounds i true) (aK g d v) ob) (hw:aO ops x.n g gd=some true:=by rfl) (hT:aU x.P ttab:=by exact aG) (h:lE ttab x.n g op=some (C,v):=by rfl) (hC:C:=by trivial):WO x ops Q late K fr true fuel listed i g ob:=
 sN (v:=v) i hi rfl hw (Fy hT h hC) (by rintro _ _ ⟨rfl,rfl⟩;exact⟨rfl,fun _ _=>rfl⟩) (by rintro _ _ ⟨rfl,rfl⟩;exact k)
theorem WO.four {i j m n:Nat}(hr:Region.ready .any ops listed=[i,j,m,n]) (h:WO x ops Q late K fr on fuel listed i g ob) (h':WO x ops Q late K fr on fuel listed j g ob) (h'':WO x ops Q late K fr on fuel listed m g ob) (h3:WO x ops Q late K fr on fuel listed n g ob):WD x ops Q late K fr on (fuel+1) listed g ob:=fun Kp W1 cs ts W hR q1 q2 q3=>
 ⟨fun h0=>(by rw[hr]at h0;cases h0),fun k hk=>(by
  rw[hr]at hk
  rcases List.mem_cons.1 hk with rfl | hk
  ·exact h Kp W1 cs ts W hR q1 q2 q3
  rcases List.mem_cons.1 hk with rfl | hk
  ·exact h' Kp W1 cs ts W hR q1 q2 q3
  rcases List.mem_cons.1 hk with rfl | hk
  ·exact h'' Kp W1 cs ts W hR q1 q2 q3
  rw[List.mem_singleton]at hk;subst hk;exact h3 Kp W1 cs ts W hR q1 q2 q3)⟩
end
def nkK:List Nat:=[0,1,2,3,9,10,65535,65536,2147483647,2147483648,2147483649,999999999,1000000000,4294967294,4294967295]
def kC:List (List Nat):=[[],[48],[48,48],[48,49],[45,49],[43,49],[32,49],[49,32],[49,95,48],[49,46,48],[57],[57,57,57,57,57,57,57,57,57],[49,48,48,48,48,48,48,48,48,48],[57,57,57,57,57,57,57,57,57,57,57,57,57,57,57,57,57,57,57,57,57,57,57,57,57,57,57,57,57,57,57,57,57,57,57,57,57,57],[97]]
theorem Ks:Lim 4294967296 nkK:=by
 have:∀x∈nkK,x<4294967296:=by decide
 exact this
theorem aX (k:Nat):nth nkK k<4294967296:=Ks.nth (by omega) k
theorem pC (k:Nat):Lim 256 (mU kC k)∧(mU kC k).length≤100:=by
 rcases Nat.lt_or_ge k kC.length with h | h
 ·have h1:∀l∈kC,(∀x∈l,x<256)∧l.length≤100:=by decide
  refine h1 _ ?_
  unfold mU
  rw[List.getD_eq_getElem?_getD,List.getElem?_eq_getElem h]
  exact List.getElem_mem h
 unfold mU
 rw[List.getD_eq_getElem?_getD,List.getElem?_eq_none h]
 exact⟨Lim.nil,Nat.zero_le _⟩
theorem Oq:∀x∈([]:List (List Nat)),Lim 4294967296 x:=fun x h=>by cases h
theorem Rk {a b:List Nat}(ha:Lim 4294967296 a) (hb:Lim 4294967296 b):∀x∈[a,b],Lim 4294967296 x:=by
 intro x hx
 simp only[List.mem_cons,List.not_mem_nil,or_false]at hx
 rcases hx with rfl | rfl
 ·exact ha
 exact hb
theorem Tx {a b c:List Nat}(ha:Lim 4294967296 a) (hb:Lim 4294967296 b) (hc:Lim 4294967296 c):∀x∈[a,b,c],Lim 4294967296 x:=by
 intro x hx
 simp only[List.mem_cons,List.not_mem_nil,or_false]at hx
 rcases hx with rfl | rfl | rfl
 ·exact ha
 ·exact hb
 exact hc
theorem Ot {n:Nat}(h:0<n):dT (List.replicate n 55)=false∧Lim 256 (List.replicate n 55):=by
 obtain⟨m,rfl⟩:∃m,n=m+1:=⟨n-1,by omega⟩
 refine⟨oE (by simp[List.replicate_succ]) (.inr (by simp[List.replicate_succ,nth])) (xC fun c hc=>?_),fun c hc=>?_⟩
 ·have:=List.eq_of_mem_replicate hc;omega
 have:=List.eq_of_mem_replicate hc;omega
theorem Ou (n:Nat):(tx (10^n)).length=n+1:=by
 have h0:=Nat.pow_pos (n:=n) (show 0<10 by omega)
 have h1:(dg 10 (10^n)).length≤n+1:=aF (by omega) (Nat.pow_lt_pow_right (by omega) (by omega))
 have h2:=(Nat.pow_lt_pow_iff_right (a:=10) (by omega)).1 (dW (B:=10) (n:=10^n) (by omega))
 unfold tx
 rw[if_neg (by omega),List.length_reverse,dM]
 omega
theorem Qy {n:Nat}(h:n≤4096):(tx (cS 10 ((n:Nat):Int))).length=n+1:=by rw[(eY h).1,Ou]
theorem Ov {n:Nat}(h:n≤4096):(dg 4294967296 (cS 10 ((n:Nat):Int))).length≤1000000:=by
 rw[(eY h).1]
 exact Nat.le_trans (iA (by decide)) (by omega)
theorem Kt:aJ true Tryz.prog 11 [] [.one (tv (.int .u32 ((10:Nat):Int))),.one (tv (.int .i64 ((4096:Nat):Int)))] (bC (.tup [nO (cS 10 ((4096:Nat):Int)),.one (tv (.int .i64 0))])):=iN (by decide) rfl (eY (x:=10) (p:=4096) (by omega)).2
set_option maxHeartbeats 4000000 in
theorem Cc:aJ true Tryz.prog 4 [] [] (bC (.one (tv (.bool true)))):=by
 refine cR Tryz.func4 rfl Tryz.ntmps4 rfl aG rfl fun N9 w9 c0 h0=>?_
 have hn1:nkK.length=15:=rfl
 have hn2:kC.length=15:=rfl
 refine sq ?_;refine rl ?_;refine o1 ?_;refine nl ?_;refine sq ?_;refine rl ?_;refine bs 0 ?_;refine o1 ?_;refine nl ?_;refine sq ?_;refine sq ?_;refine rl ?_
 refine WL.sub (uC (i:=1) (zs:=nkK) (zs':=nkK) rfl rfl rfl rfl rfl) ?_;refine o1 ?_;refine nl ?_;refine bl ?_
 refine lp (γ:=Nat) (fun i=>bO [(1,.one (.t (sU false nkK))),(2,.one (tv (.int .i64 ((i:Nat):Int))))]) (fun i=>([]:List Ob).map some) (fun i=>i≤nkK.length∧True) (fun i=>nkK.length-i) 0 ⟨Nat.zero_le _,trivial⟩ (aZ h0 [] _ _ (by decide) ⟨rfl,rfl,trivial⟩ rfl) fun i hi=>?_
 refine sq ?_;refine sq ?_;refine rl ?_;(iterate 4 refine o1 ?_);refine nl ?_;refine bG rfl (fun h1=>?_) (fun h1=>?_)
 ·refine sk ?_;refine sq ?_;refine bl ?_;refine sq ?_;refine sq ?_;refine rl ?_;refine o1 ?_;refine nl ?_;refine bl ?_
  refine lp (γ:=Nat) (fun j=>bO [(1,.one (.t (sU false nkK))),(2,.one (tv (.int .i64 ((i:Nat):Int)))),(3,.one (tv (.int .i64 ((j:Nat):Int))))]) (fun j=>([]:List Ob).map some) (fun j=>j≤nkK.length∧True) (fun j=>nkK.length-j) 0 ⟨Nat.zero_le _,trivial⟩ (aZ h0 [] _ _ (by decide) ⟨rfl,rfl,rfl,trivial⟩ rfl) fun j hj=>?_
  refine sq ?_;refine sq ?_;refine rl ?_;(iterate 4 refine o1 ?_);refine nl ?_;refine bG rfl (fun h2=>?_) (fun h2=>?_)
  ·refine sk ?_;refine sq ?_;refine bl ?_;refine sq ?_;refine rd [] (fun i=>[28].contains i) mixed ?_
   refine dv 0 ?_;refine dv 1 ?_;refine dv 2 ?_;refine eK 3 ([.v (.int .u32 ((nth nkK (i):Nat):Int))]) (bU nkK (k:=i) (by omega)) ?_
   refine dv 4 ?_;refine dv 5 ?_;refine dv 6 ?_;refine eK 7 ([.v (.int .u32 ((nth nkK (j):Nat):Int))]) (bU nkK (k:=j) (by omega)) ?_
   refine dv 8 ?_;refine dv 9 ?_;refine dv 10 ?_;refine dv 11 ?_;refine WD.cast (t:=38) (u':=.int .i64 ((i+j:Nat):Int)) rfl (aD (by omega)) ?_
   refine dv 12 ?_;refine dv 13 ?_;refine WD.cast (t:=40) (u':=.int .i64 ((15:Nat):Int)) rfl (aD (by omega)) ?_
   refine dv 14 ?_;refine WD.cast (t:=41) (u':=.int .i64 (((i+j)%15:Nat):Int)) rfl (aD (eO _ 15)) ?_;refine dv 15 ?_
   refine eK 16 ([.v (.int .u32 ((nth nkK ((i+j)%15):Nat):Int))]) (bU nkK (k:=(i+j)%15) (by omega)) ?_
   refine dv 18 ?_;refine dv 19 ?_;refine dv 20 ?_;refine eK 21 ([.v (.int .u32 ((nth nkK (j):Nat):Int))]) (bU nkK (k:=j) (by omega)) ?_
   refine dv 22 ?_;refine dv 23 ?_;refine dv 24 ?_;refine eK 25 ([.v (.int .u32 ((nth nkK (i):Nat):Int))]) (bU nkK (k:=i) (by omega)) ?_
   refine WD.meet [(1,.one (.t (sU false nkK))),(2,.one (tv (.int .i64 ((i:Nat):Int)))),(3,.one (tv (.int .i64 ((j:Nat):Int)))),(4,.one (.t (sU false [nth nkK (i),nth nkK (j),nth nkK ((i+j)%15)]))),(5,.one (.t (sU false [nth nkK (j),nth nkK (i)]))),(21,.one (tv (.int .i64 ((j:Nat):Int)))),(22,.one (.t (sU false nkK))),(23,.one (tv (.int .i64 ((nkK.length:Nat):Int))))] #[true,true,true,true,true,true,true,true,true,true,true,true,true,true,true,true,true,true,true,true,true,true,true,true,true,true,true,true,true] [4,5,27,28,29,30,31,32,33,34,35,36,37,38,39,40,41,42,43,44,45,46,47,48,49,50,51,52,53] 0 ?_ fun key8=>?_
   ·refine mY ?_;refine sq ?_;refine rd [] (fun i=>[].contains i) mixed ?_
    refine dv 0 ?_;refine dv 1 ?_;refine dv 2 ?_;refine dv 3 ?_;refine gD (key:=0) 4 (by kernel_rfl) rfl rfl aG rfl trivial ?_
    refine bB (i:=58) (k:=0) (t:=23) (z:=1) (n:=2) (l:=rT [[nth nkK (i),nth nkK (j),nth nkK ((i+j)%15)],[nth nkK (j),nth nkK (i)]]) rfl rfl rfl rfl rfl ?_
    refine lK 5 rfl (xK (xs:=[nth nkK (i),nth nkK (j),nth nkK ((i+j)%15)]) (ys:=[nth nkK (j),nth nkK (i)]) (l:=[[nth nkK (i),nth nkK (j),nth nkK ((i+j)%15)],[nth nkK (j),nth nkK (i)]]) (Lim.cons (aX _) (Lim.cons (aX _) (Lim.cons (aX _) Lim.nil))) (Lim.cons (aX _) (Lim.cons (aX _) Lim.nil)) (Rk (Lim.cons (aX _) (Lim.cons (aX _) (Lim.cons (aX _) Lim.nil))) (Lim.cons (aX _) (Lim.cons (aX _) Lim.nil)))) Mm ⟨a1 rfl,a1 rfl,a1 rfl,rfl⟩ (.one (tv (.bool true))) ?_
    refine df 6 ?_;refine df 7 ?_;refine dv 8 ?_;refine dv 9 ?_;refine dv 10 ?_;refine dv 11 ?_;refine dv 12 ?_;refine dv 13 ?_;refine dv 14 ?_
    refine eK 15 ([.v (.int .u32 ((nth nkK (i):Nat):Int))]) (bU nkK (k:=i) (by omega)) ?_
    refine gD (key:=1) 16 (by kernel_rfl) rfl rfl aG rfl trivial ?_
    refine bB (i:=70) (k:=1) (t:=22) (z:=1) (n:=1) (l:=aB [nth nkK (i)]) rfl rfl rfl rfl rfl ?_;refine gD (key:=2) 17 (by kernel_rfl) rfl rfl aG rfl trivial ?_
    refine bB (i:=71) (k:=2) (t:=23) (z:=1) (n:=3) (l:=rT [[nth nkK (i),nth nkK (j),nth nkK ((i+j)%15)],[nth nkK (j),nth nkK (i)],[nth nkK (i)]]) rfl rfl rfl rfl rfl ?_
    refine lK 18 rfl (iG (xs:=[nth nkK (i),nth nkK (j),nth nkK ((i+j)%15)]) (ys:=[nth nkK (j),nth nkK (i)]) (l:=[[nth nkK (i),nth nkK (j),nth nkK ((i+j)%15)],[nth nkK (j),nth nkK (i)],[nth nkK (i)]]) (Lim.cons (aX _) (Lim.cons (aX _) (Lim.cons (aX _) Lim.nil))) (Lim.cons (aX _) (Lim.cons (aX _) Lim.nil)) (Tx (Lim.cons (aX _) (Lim.cons (aX _) (Lim.cons (aX _) Lim.nil))) (Lim.cons (aX _) (Lim.cons (aX _) Lim.nil)) (Lim.cons (aX _) Lim.nil))) Av ⟨a1 rfl,a1 rfl,a1 rfl,rfl⟩ (.one (tv (.bool true))) ?_
    refine df 19 ?_;refine df 20 ?_;refine df 21 ?_;refine dv 22 ?_;refine dv 23 ?_;refine dv 24 ?_
    refine eK 25 ([.v (.int .u32 ((nth nkK (i):Nat):Int))]) (bU nkK (k:=i) (by omega)) ?_
    refine dv 26 ?_;refine dv 27 ?_;refine dv 28 ?_;refine eK 29 ([.v (.int .u32 ((nth nkK (j):Nat):Int))]) (bU nkK (k:=j) (by omega)) ?_
    refine dv 31 ?_;refine dv 32 ?_;refine dv 33 ?_;refine eK 34 ([.v (.int .u32 ((nth nkK (i):Nat):Int))]) (bU nkK (k:=i) (by omega)) ?_
    refine WD.meet [(1,.one (.t (sU false nkK))),(2,.one (tv (.int .i64 ((i:Nat):Int)))),(3,.one (tv (.int .i64 ((j:Nat):Int)))),(4,.one (.t (sU false [nth nkK (i),nth nkK (j),nth nkK ((i+j)%15)]))),(5,.one (.t (sU false [nth nkK (j),nth nkK (i)]))),(21,.one (tv (.int .i64 ((j:Nat):Int)))),(22,.one (.t (sU false nkK))),(23,.one (tv (.int .i64 ((nkK.length:Nat):Int)))),(75,.one (tv (.bool false))),(84,.one (.t (sU false [0,0,nth nkK (i),nth nkK (j)]))),(89,.one (.t (sU false [nth nkK (i),4294967295])))] #[true,true,true,true,true,true,true,true,true,true,true,true,true,true,true,true,true,true,true,true,true,true,true,true,true,true,true,true,true,true,true,true,true,true,true,true,false,false,false,false,false,false,false,false,false,false,false,false,false,false,false,false,false,false,false,false,false,false,false,false,false,false,false,false,false,false,false,false,false,false,false,false,false] [54,55,56,57,58,59,60,61,62,63,64,65,66,67,68,69,70,71,72,73,74,75,76,77,78,79,80,81,82,83,84,85,86,87,88,89] 37 ?_ fun key11=>?_
    ·refine lK 36 rfl (iG (xs:=[0,0,nth nkK (i),nth nkK (j)]) (ys:=[nth nkK (i),4294967295]) (l:=[]) (Lim.cons (by decide) (Lim.cons (by decide) (Lim.cons (aX _) (Lim.cons (aX _) Lim.nil)))) (Lim.cons (aX _) (Lim.cons (by decide) Lim.nil)) Oq) Av ⟨a1 rfl,a1 rfl,cH rfl .nil,rfl⟩ (.one (tv (.bool true))) ?_
     refine df 37 ?_;refine df 38 ?_;refine df 39 ?_;refine dv 40 ?_;refine dv 41 ?_;refine dv 42 ?_
     refine eK 43 ([.v (.int .u32 ((nth nkK (j):Nat):Int))]) (bU nkK (k:=j) (by omega)) ?_
     refine WD.meet [(1,.one (.t (sU false nkK))),(2,.one (tv (.int .i64 ((i:Nat):Int)))),(3,.one (tv (.int .i64 ((j:Nat):Int)))),(4,.one (.t (sU false [nth nkK (i),nth nkK (j),nth nkK ((i+j)%15)]))),(5,.one (.t (sU false [nth nkK (j),nth nkK (i)]))),(21,.one (tv (.int .i64 ((j:Nat):Int)))),(22,.one (.t (sU false nkK))),(23,.one (tv (.int .i64 ((nkK.length:Nat):Int)))),(93,.one (tv (.bool false))),(98,.one (.t (sU false [nth nkK (j),0,2147483648]))),(99,.one (.t (sU false [1,2147483648]))),(102,.one (.t (.s false 23 1 2 (rT [[],[0,0]]))))] #[true,true,true,true,true,true,true,true,true,true,true,true,true,true,true,true,true,true,true,true,true,true,true,true,true,true,true,true,true,true,true,true,true,true,true,true,true,true,true,true,true,true,true,true,true,true,true,true,true,false,false,false,false,false,false,false,false,false,false,false,false,false,false,false,false,false,false,false,false,false,false,false,false] [54,55,56,57,58,59,60,61,62,63,64,65,66,67,68,69,70,71,72,73,74,75,76,77,78,79,80,81,82,83,84,85,86,87,88,89,90,91,92,93,94,95,96,97,98,99,100,101,102] 24 ?_ fun key30=>?_
     ·refine lK 49 rfl (iG (xs:=[nth nkK (j),0,2147483648]) (ys:=[1,2147483648]) (l:=[[],[0,0]]) (Lim.cons (aX _) (Lim.cons (by decide) (Lim.cons (by decide) Lim.nil))) (Lim.cons (by decide) (Lim.cons (by decide) Lim.nil)) (Rk Lim.nil (Lim.cons (by decide) (Lim.cons (by decide) Lim.nil)))) Av ⟨a1 rfl,a1 rfl,a1 rfl,rfl⟩ (.one (tv (.bool true))) ?_
      refine df 50 ?_;refine df 51 ?_;refine df 52 ?_;refine dv 53 ?_;refine dv 54 ?_;refine dv 55 ?_
      refine lK 56 rfl (Cb (xs:=[nth nkK (i),nth nkK (j),nth nkK ((i+j)%15)]) (ys:=[nth nkK (j),nth nkK (i)]) (zs:=[nth nkK (i),nth nkK (j),nth nkK ((i+j)%15)]) (Lim.cons (aX _) (Lim.cons (aX _) (Lim.cons (aX _) Lim.nil))) (Lim.cons (aX _) (Lim.cons (aX _) Lim.nil)) (Lim.cons (aX _) (Lim.cons (aX _) (Lim.cons (aX _) Lim.nil)))) Sn ⟨a1 rfl,a1 rfl,a1 rfl,rfl⟩ (.one (tv (.bool true))) ?_
      refine df 57 ?_;refine df 58 ?_;refine df 59 ?_;refine dv 60 ?_;refine dv 61 ?_;refine dv 62 ?_;refine dv 63 ?_
      refine eK 64 ([.v (.int .u32 ((nth nkK (j):Nat):Int))]) (bU nkK (k:=j) (by omega)) ?_
      refine dv 65 ?_;refine dv 66 ?_;refine dv 67 ?_;refine eK 68 ([.v (.int .u32 ((nth nkK (i):Nat):Int))]) (bU nkK (k:=i) (by omega)) ?_
      refine gD (key:=0) 69 (by kernel_rfl) rfl rfl aG rfl trivial ?_
      refine bB (i:=123) (k:=0) (t:=22) (z:=1) (n:=3) (l:=aB [nth nkK (j),nth nkK (i),0]) rfl rfl rfl rfl rfl ?_
      refine lK 70 rfl (iG (xs:=[nth nkK (i),nth nkK (j),nth nkK ((i+j)%15)]) (ys:=[nth nkK (j),nth nkK (i),0]) (l:=[]) (Lim.cons (aX _) (Lim.cons (aX _) (Lim.cons (aX _) Lim.nil))) (Lim.cons (aX _) (Lim.cons (aX _) (Lim.cons (by decide) Lim.nil))) Oq) Av ⟨a1 rfl,a1 rfl,cH rfl .nil,rfl⟩ (.one (tv (.bool true))) ?_
      refine df 71 ?_;refine df 72 ?_;refine mY ?_;refine fU rfl ?_;refine sk ?_;refine rl ?_;refine o1 ?_;refine o1 ?_
      refine WL.cast (t:=26) (u':=.int .i64 ((j+1:Nat):Int)) rfl (aD (by omega)) ?_
      refine o1 ?_;refine nl ?_;exact⟨j+1,by omega,⟨by omega,trivial⟩,aZ h0 [] _ _ (by decide) ⟨rfl,rfl,rfl,trivial⟩ rfl⟩
     refine WD.meet [(1,.one (.t (sU false nkK))),(2,.one (tv (.int .i64 ((i:Nat):Int)))),(3,.one (tv (.int .i64 ((j:Nat):Int)))),(4,.one (.t (sU false [nth nkK (i),nth nkK (j),nth nkK ((i+j)%15)]))),(5,.one (.t (sU false [nth nkK (j),nth nkK (i)]))),(21,.one (tv (.int .i64 ((j:Nat):Int)))),(22,.one (.t (sU false nkK))),(23,.one (tv (.int .i64 ((nkK.length:Nat):Int)))),(93,.one (tv (.bool false))),(98,.one (.t (sU false [nth nkK (j),0,2147483648]))),(99,.one (.t (sU false [1,2147483648]))),(100,.one (.t (sU false []))),(101,.one (.t (sU false [0,0])))] #[true,true,true,true,true,true,true,true,true,true,true,true,true,true,true,true,true,true,true,true,true,true,true,true,true,true,true,true,true,true,true,true,true,true,true,true,true,true,true,true,true,true,true,true,true,true,true,true,false,false,false,false,false,false,false,false,false,false,false,false,false,false,false,false,false,false,false,false,false,false,false,false,false] [54,55,56,57,58,59,60,61,62,63,64,65,66,67,68,69,70,71,72,73,74,75,76,77,78,79,80,81,82,83,84,85,86,87,88,89,90,91,92,93,94,95,96,97,98,99,100,101] 25 ?_ fun key27=>?_
     ·refine gD (key:=0) 48 (by kernel_rfl) rfl rfl aG rfl trivial ?_
      refine bB (i:=102) (k:=0) (t:=23) (z:=1) (n:=2) (l:=rT [[],[0,0]]) rfl rfl rfl rfl rfl ?_
      exact WD.conv key30 h0 ⟨rfl,rfl,rfl,rfl,rfl,rfl,rfl,rfl,rfl,rfl,rfl,rfl,trivial⟩ rfl rfl
     refine WD.meet [(1,.one (.t (sU false nkK))),(2,.one (tv (.int .i64 ((i:Nat):Int)))),(3,.one (tv (.int .i64 ((j:Nat):Int)))),(4,.one (.t (sU false [nth nkK (i),nth nkK (j),nth nkK ((i+j)%15)]))),(5,.one (.t (sU false [nth nkK (j),nth nkK (i)]))),(21,.one (tv (.int .i64 ((j:Nat):Int)))),(22,.one (.t (sU false nkK))),(23,.one (tv (.int .i64 ((nkK.length:Nat):Int)))),(93,.one (tv (.bool false))),(98,.one (.t (sU false [nth nkK (j),0,2147483648]))),(102,.one (.t (.s false 23 1 2 (rT [[],[0,0]]))))] #[true,true,true,true,true,true,true,true,true,true,true,true,true,true,true,true,true,true,true,true,true,true,true,true,true,true,true,true,true,true,true,true,true,true,true,true,true,true,true,true,true,true,true,true,true,false,true,true,true,false,false,false,false,false,false,false,false,false,false,false,false,false,false,false,false,false,false,false,false,false,false,false,false] [54,55,56,57,58,59,60,61,62,63,64,65,66,67,68,69,70,71,72,73,74,75,76,77,78,79,80,81,82,83,84,85,86,87,88,89,90,91,92,93,94,95,96,97,98,100,101,102] 25 ?_ fun key28=>?_
     ·refine gD (key:=0) 45 (by kernel_rfl) rfl rfl aG rfl trivial ?_
      refine bB (i:=99) (k:=0) (t:=22) (z:=1) (n:=2) (l:=aB [1,2147483648]) rfl rfl rfl rfl rfl ?_
      exact WD.conv key30 h0 ⟨rfl,rfl,rfl,rfl,rfl,rfl,rfl,rfl,rfl,rfl,rfl,rfl,trivial⟩ rfl rfl
     refine WD.meet [(1,.one (.t (sU false nkK))),(2,.one (tv (.int .i64 ((i:Nat):Int)))),(3,.one (tv (.int .i64 ((j:Nat):Int)))),(4,.one (.t (sU false [nth nkK (i),nth nkK (j),nth nkK ((i+j)%15)]))),(5,.one (.t (sU false [nth nkK (j),nth nkK (i)]))),(21,.one (tv (.int .i64 ((j:Nat):Int)))),(22,.one (.t (sU false nkK))),(23,.one (tv (.int .i64 ((nkK.length:Nat):Int)))),(93,.one (tv (.bool false))),(97,.one (tv (.int .u32 ((nth nkK (j):Nat):Int)))),(99,.one (.t (sU false [1,2147483648]))),(102,.one (.t (.s false 23 1 2 (rT [[],[0,0]]))))] #[true,true,true,true,true,true,true,true,true,true,true,true,true,true,true,true,true,true,true,true,true,true,true,true,true,true,true,true,true,true,true,true,true,true,true,true,true,true,true,true,true,true,true,true,false,true,true,true,true,false,false,false,false,false,false,false,false,false,false,false,false,false,false,false,false,false,false,false,false,false,false,false,false] [54,55,56,57,58,59,60,61,62,63,64,65,66,67,68,69,70,71,72,73,74,75,76,77,78,79,80,81,82,83,84,85,86,87,88,89,90,91,92,93,94,95,96,97,99,100,101,102] 25 ?_ fun key29=>?_
     ·refine gD (key:=0) 44 (by kernel_rfl) rfl rfl aG rfl trivial ?_
      refine bB (i:=98) (k:=0) (t:=22) (z:=1) (n:=3) (l:=aB [nth nkK (j),0,2147483648]) rfl rfl rfl rfl rfl ?_
      exact WD.conv key30 h0 ⟨rfl,rfl,rfl,rfl,rfl,rfl,rfl,rfl,rfl,rfl,rfl,rfl,trivial⟩ rfl rfl
     refine WD.meet [(1,.one (.t (sU false nkK))),(2,.one (tv (.int .i64 ((i:Nat):Int)))),(3,.one (tv (.int .i64 ((j:Nat):Int)))),(4,.one (.t (sU false [nth nkK (i),nth nkK (j),nth nkK ((i+j)%15)]))),(5,.one (.t (sU false [nth nkK (j),nth nkK (i)]))),(21,.one (tv (.int .i64 ((j:Nat):Int)))),(22,.one (.t (sU false nkK))),(23,.one (tv (.int .i64 ((nkK.length:Nat):Int)))),(93,.one (tv (.bool false))),(98,.one (.t (sU false [nth nkK (j),0,2147483648]))),(99,.one (.t (sU false [1,2147483648]))),(100,.one (.t (sU false [])))] #[true,true,true,true,true,true,true,true,true,true,true,true,true,true,true,true,true,true,true,true,true,true,true,true,true,true,true,true,true,true,true,true,true,true,true,true,true,true,true,true,true,true,true,true,true,true,true,false,false,false,false,false,false,false,false,false,false,false,false,false,false,false,false,false,false,false,false,false,false,false,false,false,false] [54,55,56,57,58,59,60,61,62,63,64,65,66,67,68,69,70,71,72,73,74,75,76,77,78,79,80,81,82,83,84,85,86,87,88,89,90,91,92,93,94,95,96,97,98,99,100] 26 ?_ fun key22=>?_
     ·refine gD (key:=0) 47 (by kernel_rfl) rfl rfl aG rfl trivial ?_
      refine bB (i:=101) (k:=0) (t:=22) (z:=1) (n:=2) (l:=aB [0,0]) rfl rfl rfl rfl rfl ?_
      exact WD.conv key27 h0 ⟨rfl,rfl,rfl,rfl,rfl,rfl,rfl,rfl,rfl,rfl,rfl,rfl,rfl,trivial⟩ rfl rfl
     refine WD.meet [(1,.one (.t (sU false nkK))),(2,.one (tv (.int .i64 ((i:Nat):Int)))),(3,.one (tv (.int .i64 ((j:Nat):Int)))),(4,.one (.t (sU false [nth nkK (i),nth nkK (j),nth nkK ((i+j)%15)]))),(5,.one (.t (sU false [nth nkK (j),nth nkK (i)]))),(21,.one (tv (.int .i64 ((j:Nat):Int)))),(22,.one (.t (sU false nkK))),(23,.one (tv (.int .i64 ((nkK.length:Nat):Int)))),(93,.one (tv (.bool false))),(98,.one (.t (sU false [nth nkK (j),0,2147483648]))),(99,.one (.t (sU false [1,2147483648]))),(101,.one (.t (sU false [0,0])))] #[true,true,true,true,true,true,true,true,true,true,true,true,true,true,true,true,true,true,true,true,true,true,true,true,true,true,true,true,true,true,true,true,true,true,true,true,true,true,true,true,true,true,true,true,true,true,false,true,false,false,false,false,false,false,false,false,false,false,false,false,false,false,false,false,false,false,false,false,false,false,false,false,false] [54,55,56,57,58,59,60,61,62,63,64,65,66,67,68,69,70,71,72,73,74,75,76,77,78,79,80,81,82,83,84,85,86,87,88,89,90,91,92,93,94,95,96,97,98,99,101] 26 ?_ fun key23=>?_
     ·refine WO.one (by kernel_rfl) (kQ (key:=0) 46 rfl ?_)
      refine bB (i:=100) (k:=0) (t:=22) (z:=1) (n:=0) (l:=aB []) rfl rfl rfl rfl rfl ?_
      exact WD.conv key27 h0 ⟨rfl,rfl,rfl,rfl,rfl,rfl,rfl,rfl,rfl,rfl,rfl,rfl,rfl,trivial⟩ rfl rfl
     refine WD.meet [(1,.one (.t (sU false nkK))),(2,.one (tv (.int .i64 ((i:Nat):Int)))),(3,.one (tv (.int .i64 ((j:Nat):Int)))),(4,.one (.t (sU false [nth nkK (i),nth nkK (j),nth nkK ((i+j)%15)]))),(5,.one (.t (sU false [nth nkK (j),nth nkK (i)]))),(21,.one (tv (.int .i64 ((j:Nat):Int)))),(22,.one (.t (sU false nkK))),(23,.one (tv (.int .i64 ((nkK.length:Nat):Int)))),(93,.one (tv (.bool false))),(98,.one (.t (sU false [nth nkK (j),0,2147483648]))),(100,.one (.t (sU false []))),(101,.one (.t (sU false [0,0])))] #[true,true,true,true,true,true,true,true,true,true,true,true,true,true,true,true,true,true,true,true,true,true,true,true,true,true,true,true,true,true,true,true,true,true,true,true,true,true,true,true,true,true,true,true,true,false,true,true,false,false,false,false,false,false,false,false,false,false,false,false,false,false,false,false,false,false,false,false,false,false,false,false,false] [54,55,56,57,58,59,60,61,62,63,64,65,66,67,68,69,70,71,72,73,74,75,76,77,78,79,80,81,82,83,84,85,86,87,88,89,90,91,92,93,94,95,96,97,98,100,101] 26 ?_ fun key24=>?_
     ·refine WO.two (i:=45) (j:=48) (by kernel_rfl) ?_ ?_
      ·refine bZ (key:=0) 45 rfl rfl trivial ?_;refine bB (i:=99) (k:=0) (t:=22) (z:=1) (n:=2) (l:=aB [1,2147483648]) rfl rfl rfl rfl rfl ?_
       exact WD.conv key27 h0 ⟨rfl,rfl,rfl,rfl,rfl,rfl,rfl,rfl,rfl,rfl,rfl,rfl,rfl,trivial⟩ rfl rfl
      refine bZ (key:=0) 48 rfl rfl trivial ?_;refine bB (i:=102) (k:=0) (t:=23) (z:=1) (n:=2) (l:=rT [[],[0,0]]) rfl rfl rfl rfl rfl ?_
      exact WD.conv key28 h0 ⟨rfl,rfl,rfl,rfl,rfl,rfl,rfl,rfl,rfl,rfl,rfl,trivial⟩ rfl rfl
     refine WD.meet [(1,.one (.t (sU false nkK))),(2,.one (tv (.int .i64 ((i:Nat):Int)))),(3,.one (tv (.int .i64 ((j:Nat):Int)))),(4,.one (.t (sU false [nth nkK (i),nth nkK (j),nth nkK ((i+j)%15)]))),(5,.one (.t (sU false [nth nkK (j),nth nkK (i)]))),(21,.one (tv (.int .i64 ((j:Nat):Int)))),(22,.one (.t (sU false nkK))),(23,.one (tv (.int .i64 ((nkK.length:Nat):Int)))),(93,.one (tv (.bool false))),(97,.one (tv (.int .u32 ((nth nkK (j):Nat):Int)))),(99,.one (.t (sU false [1,2147483648]))),(100,.one (.t (sU false []))),(101,.one (.t (sU false [0,0])))] #[true,true,true,true,true,true,true,true,true,true,true,true,true,true,true,true,true,true,true,true,true,true,true,true,true,true,true,true,true,true,true,true,true,true,true,true,true,true,true,true,true,true,true,true,false,true,true,true,false,false,false,false,false,false,false,false,false,false,false,false,false,false,false,false,false,false,false,false,false,false,false,false,false] [54,55,56,57,58,59,60,61,62,63,64,65,66,67,68,69,70,71,72,73,74,75,76,77,78,79,80,81,82,83,84,85,86,87,88,89,90,91,92,93,94,95,96,97,99,100,101] 26 ?_ fun key25=>?_
     ·refine WO.two (i:=44) (j:=48) (by kernel_rfl) ?_ ?_
      ·refine bZ (key:=0) 44 rfl rfl trivial ?_;refine bB (i:=98) (k:=0) (t:=22) (z:=1) (n:=3) (l:=aB [nth nkK (j),0,2147483648]) rfl rfl rfl rfl rfl ?_
       exact WD.conv key27 h0 ⟨rfl,rfl,rfl,rfl,rfl,rfl,rfl,rfl,rfl,rfl,rfl,rfl,rfl,trivial⟩ rfl rfl
      refine bZ (key:=0) 48 rfl rfl trivial ?_;refine bB (i:=102) (k:=0) (t:=23) (z:=1) (n:=2) (l:=rT [[],[0,0]]) rfl rfl rfl rfl rfl ?_
      exact WD.conv key29 h0 ⟨rfl,rfl,rfl,rfl,rfl,rfl,rfl,rfl,rfl,rfl,rfl,rfl,trivial⟩ rfl rfl
     refine WD.meet [(1,.one (.t (sU false nkK))),(2,.one (tv (.int .i64 ((i:Nat):Int)))),(3,.one (tv (.int .i64 ((j:Nat):Int)))),(4,.one (.t (sU false [nth nkK (i),nth nkK (j),nth nkK ((i+j)%15)]))),(5,.one (.t (sU false [nth nkK (j),nth nkK (i)]))),(21,.one (tv (.int .i64 ((j:Nat):Int)))),(22,.one (.t (sU false nkK))),(23,.one (tv (.int .i64 ((nkK.length:Nat):Int)))),(93,.one (tv (.bool false))),(97,.one (tv (.int .u32 ((nth nkK (j):Nat):Int)))),(102,.one (.t (.s false 23 1 2 (rT [[],[0,0]]))))] #[true,true,true,true,true,true,true,true,true,true,true,true,true,true,true,true,true,true,true,true,true,true,true,true,true,true,true,true,true,true,true,true,true,true,true,true,true,true,true,true,true,true,true,true,false,false,true,true,true,false,false,false,false,false,false,false,false,false,false,false,false,false,false,false,false,false,false,false,false,false,false,false,false] [54,55,56,57,58,59,60,61,62,63,64,65,66,67,68,69,70,71,72,73,74,75,76,77,78,79,80,81,82,83,84,85,86,87,88,89,90,91,92,93,94,95,96,97,100,101,102] 26 ?_ fun key26=>?_
     ·refine WO.two (i:=44) (j:=45) (by kernel_rfl) ?_ ?_
      ·refine bZ (key:=0) 44 rfl rfl trivial ?_;refine bB (i:=98) (k:=0) (t:=22) (z:=1) (n:=3) (l:=aB [nth nkK (j),0,2147483648]) rfl rfl rfl rfl rfl ?_
       exact WD.conv key28 h0 ⟨rfl,rfl,rfl,rfl,rfl,rfl,rfl,rfl,rfl,rfl,rfl,trivial⟩ rfl rfl
      refine bZ (key:=0) 45 rfl rfl trivial ?_;refine bB (i:=99) (k:=0) (t:=22) (z:=1) (n:=2) (l:=aB [1,2147483648]) rfl rfl rfl rfl rfl ?_
      exact WD.conv key29 h0 ⟨rfl,rfl,rfl,rfl,rfl,rfl,rfl,rfl,rfl,rfl,rfl,rfl,trivial⟩ rfl rfl
     refine WD.meet [(1,.one (.t (sU false nkK))),(2,.one (tv (.int .i64 ((i:Nat):Int)))),(3,.one (tv (.int .i64 ((j:Nat):Int)))),(4,.one (.t (sU false [nth nkK (i),nth nkK (j),nth nkK ((i+j)%15)]))),(5,.one (.t (sU false [nth nkK (j),nth nkK (i)]))),(21,.one (tv (.int .i64 ((j:Nat):Int)))),(22,.one (.t (sU false nkK))),(23,.one (tv (.int .i64 ((nkK.length:Nat):Int)))),(93,.one (tv (.bool false))),(98,.one (.t (sU false [nth nkK (j),0,2147483648]))),(99,.one (.t (sU false [1,2147483648])))] #[true,true,true,true,true,true,true,true,true,true,true,true,true,true,true,true,true,true,true,true,true,true,true,true,true,true,true,true,true,true,true,true,true,true,true,true,true,true,true,true,true,true,true,true,true,true,false,false,false,false,false,false,false,false,false,false,false,false,false,false,false,false,false,false,false,false,false,false,false,false,false,false,false] [54,55,56,57,58,59,60,61,62,63,64,65,66,67,68,69,70,71,72,73,74,75,76,77,78,79,80,81,82,83,84,85,86,87,88,89,90,91,92,93,94,95,96,97,98,99] 27 ?_ fun key16=>?_
     ·refine WO.two (i:=46) (j:=47) (by kernel_rfl) ?_ ?_
      ·refine kQ (key:=0) 46 rfl ?_;refine bB (i:=100) (k:=0) (t:=22) (z:=1) (n:=0) (l:=aB []) rfl rfl rfl rfl rfl ?_
       exact WD.conv key22 h0 ⟨rfl,rfl,rfl,rfl,rfl,rfl,rfl,rfl,rfl,rfl,rfl,rfl,trivial⟩ rfl rfl
      refine bZ (key:=0) 47 rfl rfl trivial ?_;refine bB (i:=101) (k:=0) (t:=22) (z:=1) (n:=2) (l:=aB [0,0]) rfl rfl rfl rfl rfl ?_
      exact WD.conv key23 h0 ⟨rfl,rfl,rfl,rfl,rfl,rfl,rfl,rfl,rfl,rfl,rfl,rfl,trivial⟩ rfl rfl
     refine WD.meet [(1,.one (.t (sU false nkK))),(2,.one (tv (.int .i64 ((i:Nat):Int)))),(3,.one (tv (.int .i64 ((j:Nat):Int)))),(4,.one (.t (sU false [nth nkK (i),nth nkK (j),nth nkK ((i+j)%15)]))),(5,.one (.t (sU false [nth nkK (j),nth nkK (i)]))),(21,.one (tv (.int .i64 ((j:Nat):Int)))),(22,.one (.t (sU false nkK))),(23,.one (tv (.int .i64 ((nkK.length:Nat):Int)))),(93,.one (tv (.bool false))),(98,.one (.t (sU false [nth nkK (j),0,2147483648]))),(100,.one (.t (sU false [])))] #[true,true,true,true,true,true,true,true,true,true,true,true,true,true,true,true,true,true,true,true,true,true,true,true,true,true,true,true,true,true,true,true,true,true,true,true,true,true,true,true,true,true,true,true,true,false,true,false,false,false,false,false,false,false,false,false,false,false,false,false,false,false,false,false,false,false,false,false,false,false,false,false,false] [54,55,56,57,58,59,60,61,62,63,64,65,66,67,68,69,70,71,72,73,74,75,76,77,78,79,80,81,82,83,84,85,86,87,88,89,90,91,92,93,94,95,96,97,98,100] 27 ?_ fun key17=>?_
     ·refine WO.two (i:=45) (j:=47) (by kernel_rfl) ?_ ?_
      ·refine bZ (key:=0) 45 rfl rfl trivial ?_;refine bB (i:=99) (k:=0) (t:=22) (z:=1) (n:=2) (l:=aB [1,2147483648]) rfl rfl rfl rfl rfl ?_
       exact WD.conv key22 h0 ⟨rfl,rfl,rfl,rfl,rfl,rfl,rfl,rfl,rfl,rfl,rfl,rfl,trivial⟩ rfl rfl
      refine bZ (key:=0) 47 rfl rfl trivial ?_;refine bB (i:=101) (k:=0) (t:=22) (z:=1) (n:=2) (l:=aB [0,0]) rfl rfl rfl rfl rfl ?_
      exact WD.conv key24 h0 ⟨rfl,rfl,rfl,rfl,rfl,rfl,rfl,rfl,rfl,rfl,rfl,rfl,trivial⟩ rfl rfl
     refine WD.meet [(1,.one (.t (sU false nkK))),(2,.one (tv (.int .i64 ((i:Nat):Int)))),(3,.one (tv (.int .i64 ((j:Nat):Int)))),(4,.one (.t (sU false [nth nkK (i),nth nkK (j),nth nkK ((i+j)%15)]))),(5,.one (.t (sU false [nth nkK (j),nth nkK (i)]))),(21,.one (tv (.int .i64 ((j:Nat):Int)))),(22,.one (.t (sU false nkK))),(23,.one (tv (.int .i64 ((nkK.length:Nat):Int)))),(93,.one (tv (.bool false))),(98,.one (.t (sU false [nth nkK (j),0,2147483648]))),(101,.one (.t (sU false [0,0])))] #[true,true,true,true,true,true,true,true,true,true,true,true,true,true,true,true,true,true,true,true,true,true,true,true,true,true,true,true,true,true,true,true,true,true,true,true,true,true,true,true,true,true,true,true,true,false,false,true,false,false,false,false,false,false,false,false,false,false,false,false,false,false,false,false,false,false,false,false,false,false,false,false,false] [54,55,56,57,58,59,60,61,62,63,64,65,66,67,68,69,70,71,72,73,74,75,76,77,78,79,80,81,82,83,84,85,86,87,88,89,90,91,92,93,94,95,96,97,98,101] 27 ?_ fun key18=>?_
     ·refine WO.two (i:=45) (j:=46) (by kernel_rfl) ?_ ?_
      ·refine bZ (key:=0) 45 rfl rfl trivial ?_;refine bB (i:=99) (k:=0) (t:=22) (z:=1) (n:=2) (l:=aB [1,2147483648]) rfl rfl rfl rfl rfl ?_
       exact WD.conv key23 h0 ⟨rfl,rfl,rfl,rfl,rfl,rfl,rfl,rfl,rfl,rfl,rfl,rfl,trivial⟩ rfl rfl
      refine kQ (key:=0) 46 rfl ?_;refine bB (i:=100) (k:=0) (t:=22) (z:=1) (n:=0) (l:=aB []) rfl rfl rfl rfl rfl ?_
      exact WD.conv key24 h0 ⟨rfl,rfl,rfl,rfl,rfl,rfl,rfl,rfl,rfl,rfl,rfl,rfl,trivial⟩ rfl rfl
     refine WD.meet [(1,.one (.t (sU false nkK))),(2,.one (tv (.int .i64 ((i:Nat):Int)))),(3,.one (tv (.int .i64 ((j:Nat):Int)))),(4,.one (.t (sU false [nth nkK (i),nth nkK (j),nth nkK ((i+j)%15)]))),(5,.one (.t (sU false [nth nkK (j),nth nkK (i)]))),(21,.one (tv (.int .i64 ((j:Nat):Int)))),(22,.one (.t (sU false nkK))),(23,.one (tv (.int .i64 ((nkK.length:Nat):Int)))),(93,.one (tv (.bool false))),(97,.one (tv (.int .u32 ((nth nkK (j):Nat):Int)))),(99,.one (.t (sU false [1,2147483648]))),(100,.one (.t (sU false [])))] #[true,true,true,true,true,true,true,true,true,true,true,true,true,true,true,true,true,true,true,true,true,true,true,true,true,true,true,true,true,true,true,true,true,true,true,true,true,true,true,true,true,true,true,true,false,true,true,false,false,false,false,false,false,false,false,false,false,false,false,false,false,false,false,false,false,false,false,false,false,false,false,false,false] [54,55,56,57,58,59,60,61,62,63,64,65,66,67,68,69,70,71,72,73,74,75,76,77,78,79,80,81,82,83,84,85,86,87,88,89,90,91,92,93,94,95,96,97,99,100] 27 ?_ fun key19=>?_
     ·refine WO.two (i:=44) (j:=47) (by kernel_rfl) ?_ ?_
      ·refine bZ (key:=0) 44 rfl rfl trivial ?_;refine bB (i:=98) (k:=0) (t:=22) (z:=1) (n:=3) (l:=aB [nth nkK (j),0,2147483648]) rfl rfl rfl rfl rfl ?_
       exact WD.conv key22 h0 ⟨rfl,rfl,rfl,rfl,rfl,rfl,rfl,rfl,rfl,rfl,rfl,rfl,trivial⟩ rfl rfl
      refine bZ (key:=0) 47 rfl rfl trivial ?_;refine bB (i:=101) (k:=0) (t:=22) (z:=1) (n:=2) (l:=aB [0,0]) rfl rfl rfl rfl rfl ?_
      exact WD.conv key25 h0 ⟨rfl,rfl,rfl,rfl,rfl,rfl,rfl,rfl,rfl,rfl,rfl,rfl,rfl,trivial⟩ rfl rfl
     refine WD.meet [(1,.one (.t (sU false nkK))),(2,.one (tv (.int .i64 ((i:Nat):Int)))),(3,.one (tv (.int .i64 ((j:Nat):Int)))),(4,.one (.t (sU false [nth nkK (i),nth nkK (j),nth nkK ((i+j)%15)]))),(5,.one (.t (sU false [nth nkK (j),nth nkK (i)]))),(21,.one (tv (.int .i64 ((j:Nat):Int)))),(22,.one (.t (sU false nkK))),(23,.one (tv (.int .i64 ((nkK.length:Nat):Int)))),(93,.one (tv (.bool false))),(97,.one (tv (.int .u32 ((nth nkK (j):Nat):Int)))),(99,.one (.t (sU false [1,2147483648]))),(101,.one (.t (sU false [0,0])))] #[true,true,true,true,true,true,true,true,true,true,true,true,true,true,true,true,true,true,true,true,true,true,true,true,true,true,true,true,true,true,true,true,true,true,true,true,true,true,true,true,true,true,true,true,false,true,false,true,false,false,false,false,false,false,false,false,false,false,false,false,false,false,false,false,false,false,false,false,false,false,false,false,false] [54,55,56,57,58,59,60,61,62,63,64,65,66,67,68,69,70,71,72,73,74,75,76,77,78,79,80,81,82,83,84,85,86,87,88,89,90,91,92,93,94,95,96,97,99,101] 27 ?_ fun key20=>?_
     ·refine WO.two (i:=44) (j:=46) (by kernel_rfl) ?_ ?_
      ·refine bZ (key:=0) 44 rfl rfl trivial ?_;refine bB (i:=98) (k:=0) (t:=22) (z:=1) (n:=3) (l:=aB [nth nkK (j),0,2147483648]) rfl rfl rfl rfl rfl ?_
       exact WD.conv key23 h0 ⟨rfl,rfl,rfl,rfl,rfl,rfl,rfl,rfl,rfl,rfl,rfl,rfl,trivial⟩ rfl rfl
      refine kQ (key:=0) 46 rfl ?_;refine bB (i:=100) (k:=0) (t:=22) (z:=1) (n:=0) (l:=aB []) rfl rfl rfl rfl rfl ?_
      exact WD.conv key25 h0 ⟨rfl,rfl,rfl,rfl,rfl,rfl,rfl,rfl,rfl,rfl,rfl,rfl,rfl,trivial⟩ rfl rfl
     refine WD.meet [(1,.one (.t (sU false nkK))),(2,.one (tv (.int .i64 ((i:Nat):Int)))),(3,.one (tv (.int .i64 ((j:Nat):Int)))),(4,.one (.t (sU false [nth nkK (i),nth nkK (j),nth nkK ((i+j)%15)]))),(5,.one (.t (sU false [nth nkK (j),nth nkK (i)]))),(21,.one (tv (.int .i64 ((j:Nat):Int)))),(22,.one (.t (sU false nkK))),(23,.one (tv (.int .i64 ((nkK.length:Nat):Int)))),(93,.one (tv (.bool false))),(97,.one (tv (.int .u32 ((nth nkK (j):Nat):Int)))),(100,.one (.t (sU false []))),(101,.one (.t (sU false [0,0])))] #[true,true,true,true,true,true,true,true,true,true,true,true,true,true,true,true,true,true,true,true,true,true,true,true,true,true,true,true,true,true,true,true,true,true,true,true,true,true,true,true,true,true,true,true,false,false,true,true,false,false,false,false,false,false,false,false,false,false,false,false,false,false,false,false,false,false,false,false,false,false,false,false,false] [54,55,56,57,58,59,60,61,62,63,64,65,66,67,68,69,70,71,72,73,74,75,76,77,78,79,80,81,82,83,84,85,86,87,88,89,90,91,92,93,94,95,96,97,100,101] 27 ?_ fun key21=>?_
     ·refine WO.three (i:=44) (j:=45) (m:=48) (by kernel_rfl) ?_ ?_ ?_
      ·refine bZ (key:=0) 44 rfl rfl trivial ?_;refine bB (i:=98) (k:=0) (t:=22) (z:=1) (n:=3) (l:=aB [nth nkK (j),0,2147483648]) rfl rfl rfl rfl rfl ?_
       exact WD.conv key24 h0 ⟨rfl,rfl,rfl,rfl,rfl,rfl,rfl,rfl,rfl,rfl,rfl,rfl,trivial⟩ rfl rfl
      ·refine bZ (key:=0) 45 rfl rfl trivial ?_;refine bB (i:=99) (k:=0) (t:=22) (z:=1) (n:=2) (l:=aB [1,2147483648]) rfl rfl rfl rfl rfl ?_
       exact WD.conv key25 h0 ⟨rfl,rfl,rfl,rfl,rfl,rfl,rfl,rfl,rfl,rfl,rfl,rfl,rfl,trivial⟩ rfl rfl
      refine bZ (key:=0) 48 rfl rfl trivial ?_;refine bB (i:=102) (k:=0) (t:=23) (z:=1) (n:=2) (l:=rT [[],[0,0]]) rfl rfl rfl rfl rfl ?_
      exact WD.conv key26 h0 ⟨rfl,rfl,rfl,rfl,rfl,rfl,rfl,rfl,rfl,rfl,rfl,trivial⟩ rfl rfl
     refine WD.meet [(1,.one (.t (sU false nkK))),(2,.one (tv (.int .i64 ((i:Nat):Int)))),(3,.one (tv (.int .i64 ((j:Nat):Int)))),(4,.one (.t (sU false [nth nkK (i),nth nkK (j),nth nkK ((i+j)%15)]))),(5,.one (.t (sU false [nth nkK (j),nth nkK (i)]))),(21,.one (tv (.int .i64 ((j:Nat):Int)))),(22,.one (.t (sU false nkK))),(23,.one (tv (.int .i64 ((nkK.length:Nat):Int)))),(93,.one (tv (.bool false))),(98,.one (.t (sU false [nth nkK (j),0,2147483648])))] #[true,true,true,true,true,true,true,true,true,true,true,true,true,true,true,true,true,true,true,true,true,true,true,true,true,true,true,true,true,true,true,true,true,true,true,true,true,true,true,true,true,true,true,true,true,false,false,false,false,false,false,false,false,false,false,false,false,false,false,false,false,false,false,false,false,false,false,false,false,false,false,false,false] [54,55,56,57,58,59,60,61,62,63,64,65,66,67,68,69,70,71,72,73,74,75,76,77,78,79,80,81,82,83,84,85,86,87,88,89,90,91,92,93,94,95,96,97,98] 28 ?_ fun key12=>?_
     ·refine WO.three (i:=45) (j:=46) (m:=47) (by kernel_rfl) ?_ ?_ ?_
      ·refine bZ (key:=0) 45 rfl rfl trivial ?_;refine bB (i:=99) (k:=0) (t:=22) (z:=1) (n:=2) (l:=aB [1,2147483648]) rfl rfl rfl rfl rfl ?_
       exact WD.conv key16 h0 ⟨rfl,rfl,rfl,rfl,rfl,rfl,rfl,rfl,rfl,rfl,rfl,trivial⟩ rfl rfl
      ·refine kQ (key:=0) 46 rfl ?_;refine bB (i:=100) (k:=0) (t:=22) (z:=1) (n:=0) (l:=aB []) rfl rfl rfl rfl rfl ?_
       exact WD.conv key17 h0 ⟨rfl,rfl,rfl,rfl,rfl,rfl,rfl,rfl,rfl,rfl,rfl,trivial⟩ rfl rfl
      refine bZ (key:=0) 47 rfl rfl trivial ?_;refine bB (i:=101) (k:=0) (t:=22) (z:=1) (n:=2) (l:=aB [0,0]) rfl rfl rfl rfl rfl ?_
      exact WD.conv key18 h0 ⟨rfl,rfl,rfl,rfl,rfl,rfl,rfl,rfl,rfl,rfl,rfl,trivial⟩ rfl rfl
     refine WD.meet [(1,.one (.t (sU false nkK))),(2,.one (tv (.int .i64 ((i:Nat):Int)))),(3,.one (tv (.int .i64 ((j:Nat):Int)))),(4,.one (.t (sU false [nth nkK (i),nth nkK (j),nth nkK ((i+j)%15)]))),(5,.one (.t (sU false [nth nkK (j),nth nkK (i)]))),(21,.one (tv (.int .i64 ((j:Nat):Int)))),(22,.one (.t (sU false nkK))),(23,.one (tv (.int .i64 ((nkK.length:Nat):Int)))),(93,.one (tv (.bool false))),(97,.one (tv (.int .u32 ((nth nkK (j):Nat):Int)))),(99,.one (.t (sU false [1,2147483648])))] #[true,true,true,true,true,true,true,true,true,true,true,true,true,true,true,true,true,true,true,true,true,true,true,true,true,true,true,true,true,true,true,true,true,true,true,true,true,true,true,true,true,true,true,true,false,true,false,false,false,false,false,false,false,false,false,false,false,false,false,false,false,false,false,false,false,false,false,false,false,false,false,false,false] [54,55,56,57,58,59,60,61,62,63,64,65,66,67,68,69,70,71,72,73,74,75,76,77,78,79,80,81,82,83,84,85,86,87,88,89,90,91,92,93,94,95,96,97,99] 28 ?_ fun key13=>?_
     ·refine WO.three (i:=44) (j:=46) (m:=47) (by kernel_rfl) ?_ ?_ ?_
      ·refine bZ (key:=0) 44 rfl rfl trivial ?_;refine bB (i:=98) (k:=0) (t:=22) (z:=1) (n:=3) (l:=aB [nth nkK (j),0,2147483648]) rfl rfl rfl rfl rfl ?_
       exact WD.conv key16 h0 ⟨rfl,rfl,rfl,rfl,rfl,rfl,rfl,rfl,rfl,rfl,rfl,trivial⟩ rfl rfl
      ·refine kQ (key:=0) 46 rfl ?_;refine bB (i:=100) (k:=0) (t:=22) (z:=1) (n:=0) (l:=aB []) rfl rfl rfl rfl rfl ?_
       exact WD.conv key19 h0 ⟨rfl,rfl,rfl,rfl,rfl,rfl,rfl,rfl,rfl,rfl,rfl,rfl,trivial⟩ rfl rfl
      refine bZ (key:=0) 47 rfl rfl trivial ?_;refine bB (i:=101) (k:=0) (t:=22) (z:=1) (n:=2) (l:=aB [0,0]) rfl rfl rfl rfl rfl ?_
      exact WD.conv key20 h0 ⟨rfl,rfl,rfl,rfl,rfl,rfl,rfl,rfl,rfl,rfl,rfl,rfl,trivial⟩ rfl rfl
     refine WD.meet [(1,.one (.t (sU false nkK))),(2,.one (tv (.int .i64 ((i:Nat):Int)))),(3,.one (tv (.int .i64 ((j:Nat):Int)))),(4,.one (.t (sU false [nth nkK (i),nth nkK (j),nth nkK ((i+j)%15)]))),(5,.one (.t (sU false [nth nkK (j),nth nkK (i)]))),(21,.one (tv (.int .i64 ((j:Nat):Int)))),(22,.one (.t (sU false nkK))),(23,.one (tv (.int .i64 ((nkK.length:Nat):Int)))),(93,.one (tv (.bool false))),(97,.one (tv (.int .u32 ((nth nkK (j):Nat):Int)))),(100,.one (.t (sU false [])))] #[true,true,true,true,true,true,true,true,true,true,true,true,true,true,true,true,true,true,true,true,true,true,true,true,true,true,true,true,true,true,true,true,true,true,true,true,true,true,true,true,true,true,true,true,false,false,true,false,false,false,false,false,false,false,false,false,false,false,false,false,false,false,false,false,false,false,false,false,false,false,false,false,false] [54,55,56,57,58,59,60,61,62,63,64,65,66,67,68,69,70,71,72,73,74,75,76,77,78,79,80,81,82,83,84,85,86,87,88,89,90,91,92,93,94,95,96,97,100] 28 ?_ fun key14=>?_
     ·refine WO.three (i:=44) (j:=45) (m:=47) (by kernel_rfl) ?_ ?_ ?_
      ·refine bZ (key:=0) 44 rfl rfl trivial ?_;refine bB (i:=98) (k:=0) (t:=22) (z:=1) (n:=3) (l:=aB [nth nkK (j),0,2147483648]) rfl rfl rfl rfl rfl ?_
       exact WD.conv key17 h0 ⟨rfl,rfl,rfl,rfl,rfl,rfl,rfl,rfl,rfl,rfl,rfl,trivial⟩ rfl rfl
      ·refine bZ (key:=0) 45 rfl rfl trivial ?_;refine bB (i:=99) (k:=0) (t:=22) (z:=1) (n:=2) (l:=aB [1,2147483648]) rfl rfl rfl rfl rfl ?_
       exact WD.conv key19 h0 ⟨rfl,rfl,rfl,rfl,rfl,rfl,rfl,rfl,rfl,rfl,rfl,rfl,trivial⟩ rfl rfl
      refine bZ (key:=0) 47 rfl rfl trivial ?_;refine bB (i:=101) (k:=0) (t:=22) (z:=1) (n:=2) (l:=aB [0,0]) rfl rfl rfl rfl rfl ?_
      exact WD.conv key21 h0 ⟨rfl,rfl,rfl,rfl,rfl,rfl,rfl,rfl,rfl,rfl,rfl,rfl,trivial⟩ rfl rfl
     refine WD.meet [(1,.one (.t (sU false nkK))),(2,.one (tv (.int .i64 ((i:Nat):Int)))),(3,.one (tv (.int .i64 ((j:Nat):Int)))),(4,.one (.t (sU false [nth nkK (i),nth nkK (j),nth nkK ((i+j)%15)]))),(5,.one (.t (sU false [nth nkK (j),nth nkK (i)]))),(21,.one (tv (.int .i64 ((j:Nat):Int)))),(22,.one (.t (sU false nkK))),(23,.one (tv (.int .i64 ((nkK.length:Nat):Int)))),(93,.one (tv (.bool false))),(97,.one (tv (.int .u32 ((nth nkK (j):Nat):Int)))),(101,.one (.t (sU false [0,0])))] #[true,true,true,true,true,true,true,true,true,true,true,true,true,true,true,true,true,true,true,true,true,true,true,true,true,true,true,true,true,true,true,true,true,true,true,true,true,true,true,true,true,true,true,true,false,false,false,true,false,false,false,false,false,false,false,false,false,false,false,false,false,false,false,false,false,false,false,false,false,false,false,false,false] [54,55,56,57,58,59,60,61,62,63,64,65,66,67,68,69,70,71,72,73,74,75,76,77,78,79,80,81,82,83,84,85,86,87,88,89,90,91,92,93,94,95,96,97,101] 28 ?_ fun key15=>?_
     ·refine WO.three (i:=44) (j:=45) (m:=46) (by kernel_rfl) ?_ ?_ ?_
      ·refine bZ (key:=0) 44 rfl rfl trivial ?_;refine bB (i:=98) (k:=0) (t:=22) (z:=1) (n:=3) (l:=aB [nth nkK (j),0,2147483648]) rfl rfl rfl rfl rfl ?_
       exact WD.conv key18 h0 ⟨rfl,rfl,rfl,rfl,rfl,rfl,rfl,rfl,rfl,rfl,rfl,trivial⟩ rfl rfl
      ·refine bZ (key:=0) 45 rfl rfl trivial ?_;refine bB (i:=99) (k:=0) (t:=22) (z:=1) (n:=2) (l:=aB [1,2147483648]) rfl rfl rfl rfl rfl ?_
       exact WD.conv key20 h0 ⟨rfl,rfl,rfl,rfl,rfl,rfl,rfl,rfl,rfl,rfl,rfl,rfl,trivial⟩ rfl rfl
      refine kQ (key:=0) 46 rfl ?_;refine bB (i:=100) (k:=0) (t:=22) (z:=1) (n:=0) (l:=aB []) rfl rfl rfl rfl rfl ?_
      exact WD.conv key21 h0 ⟨rfl,rfl,rfl,rfl,rfl,rfl,rfl,rfl,rfl,rfl,rfl,rfl,trivial⟩ rfl rfl
     refine WO.four (i:=44) (j:=45) (m:=46) (n:=47) (by kernel_rfl) ?_ ?_ ?_ ?_
     ·refine bZ (key:=0) 44 rfl rfl trivial ?_;refine bB (i:=98) (k:=0) (t:=22) (z:=1) (n:=3) (l:=aB [nth nkK (j),0,2147483648]) rfl rfl rfl rfl rfl ?_
      exact WD.conv key12 h0 ⟨rfl,rfl,rfl,rfl,rfl,rfl,rfl,rfl,rfl,rfl,trivial⟩ rfl rfl
     ·refine bZ (key:=0) 45 rfl rfl trivial ?_;refine bB (i:=99) (k:=0) (t:=22) (z:=1) (n:=2) (l:=aB [1,2147483648]) rfl rfl rfl rfl rfl ?_
      exact WD.conv key13 h0 ⟨rfl,rfl,rfl,rfl,rfl,rfl,rfl,rfl,rfl,rfl,rfl,trivial⟩ rfl rfl
     ·refine kQ (key:=0) 46 rfl ?_;refine bB (i:=100) (k:=0) (t:=22) (z:=1) (n:=0) (l:=aB []) rfl rfl rfl rfl rfl ?_
      exact WD.conv key14 h0 ⟨rfl,rfl,rfl,rfl,rfl,rfl,rfl,rfl,rfl,rfl,rfl,trivial⟩ rfl rfl
     refine bZ (key:=0) 47 rfl rfl trivial ?_;refine bB (i:=101) (k:=0) (t:=22) (z:=1) (n:=2) (l:=aB [0,0]) rfl rfl rfl rfl rfl ?_
     exact WD.conv key15 h0 ⟨rfl,rfl,rfl,rfl,rfl,rfl,rfl,rfl,rfl,rfl,rfl,trivial⟩ rfl rfl
    refine WD.meet [(1,.one (.t (sU false nkK))),(2,.one (tv (.int .i64 ((i:Nat):Int)))),(3,.one (tv (.int .i64 ((j:Nat):Int)))),(4,.one (.t (sU false [nth nkK (i),nth nkK (j),nth nkK ((i+j)%15)]))),(5,.one (.t (sU false [nth nkK (j),nth nkK (i)]))),(21,.one (tv (.int .i64 ((j:Nat):Int)))),(22,.one (.t (sU false nkK))),(23,.one (tv (.int .i64 ((nkK.length:Nat):Int)))),(75,.one (tv (.bool false))),(84,.one (.t (sU false [0,0,nth nkK (i),nth nkK (j)]))),(88,.one (tv (.int .u32 ((nth nkK (i):Nat):Int))))] #[true,true,true,true,true,true,true,true,true,true,true,true,true,true,true,true,true,true,true,true,true,true,true,true,true,true,true,true,true,true,true,true,true,true,true,false,false,false,false,false,false,false,false,false,false,false,false,false,false,false,false,false,false,false,false,false,false,false,false,false,false,false,false,false,false,false,false,false,false,false,false,false,false] [54,55,56,57,58,59,60,61,62,63,64,65,66,67,68,69,70,71,72,73,74,75,76,77,78,79,80,81,82,83,84,85,86,87,88] 38 ?_ fun key9=>?_
    ·refine gD (key:=0) 35 (by kernel_rfl) rfl rfl aG rfl trivial ?_
     refine bB (i:=89) (k:=0) (t:=22) (z:=1) (n:=2) (l:=aB [nth nkK (i),4294967295]) rfl rfl rfl rfl rfl ?_
     exact WD.conv key11 h0 ⟨rfl,rfl,rfl,rfl,rfl,rfl,rfl,rfl,rfl,rfl,rfl,trivial⟩ rfl rfl
    refine WD.meet [(1,.one (.t (sU false nkK))),(2,.one (tv (.int .i64 ((i:Nat):Int)))),(3,.one (tv (.int .i64 ((j:Nat):Int)))),(4,.one (.t (sU false [nth nkK (i),nth nkK (j),nth nkK ((i+j)%15)]))),(5,.one (.t (sU false [nth nkK (j),nth nkK (i)]))),(21,.one (tv (.int .i64 ((j:Nat):Int)))),(22,.one (.t (sU false nkK))),(23,.one (tv (.int .i64 ((nkK.length:Nat):Int)))),(75,.one (tv (.bool false))),(79,.one (tv (.int .u32 ((nth nkK (i):Nat):Int)))),(83,.one (tv (.int .u32 ((nth nkK (j):Nat):Int)))),(89,.one (.t (sU false [nth nkK (i),4294967295])))] #[true,true,true,true,true,true,true,true,true,true,true,true,true,true,true,true,true,true,true,true,true,true,true,true,true,true,true,true,true,true,false,true,true,true,true,true,false,false,false,false,false,false,false,false,false,false,false,false,false,false,false,false,false,false,false,false,false,false,false,false,false,false,false,false,false,false,false,false,false,false,false,false,false] [54,55,56,57,58,59,60,61,62,63,64,65,66,67,68,69,70,71,72,73,74,75,76,77,78,79,80,81,82,83,85,86,87,88,89] 38 ?_ fun key10=>?_
    ·refine gD (key:=0) 30 (by kernel_rfl) rfl rfl aG rfl trivial ?_
     refine bB (i:=84) (k:=0) (t:=22) (z:=1) (n:=4) (l:=aB [0,0,nth nkK (i),nth nkK (j)]) rfl rfl rfl rfl rfl ?_
     exact WD.conv key11 h0 ⟨rfl,rfl,rfl,rfl,rfl,rfl,rfl,rfl,rfl,rfl,rfl,trivial⟩ rfl rfl
    refine WO.two (i:=30) (j:=35) (by kernel_rfl) ?_ ?_
    ·refine bZ (key:=3) 30 rfl rfl trivial ?_;refine bB (i:=84) (k:=3) (t:=22) (z:=1) (n:=4) (l:=aB [0,0,nth nkK (i),nth nkK (j)]) rfl rfl rfl rfl rfl ?_
     exact WD.conv key9 h0 ⟨rfl,rfl,rfl,rfl,rfl,rfl,rfl,rfl,rfl,rfl,rfl,trivial⟩ rfl rfl
    refine bZ (key:=3) 35 rfl rfl trivial ?_;refine bB (i:=89) (k:=3) (t:=22) (z:=1) (n:=2) (l:=aB [nth nkK (i),4294967295]) rfl rfl rfl rfl rfl ?_
    exact WD.conv key10 h0 ⟨rfl,rfl,rfl,rfl,rfl,rfl,rfl,rfl,rfl,rfl,rfl,rfl,trivial⟩ rfl rfl
   refine WD.meet [(1,.one (.t (sU false nkK))),(2,.one (tv (.int .i64 ((i:Nat):Int)))),(3,.one (tv (.int .i64 ((j:Nat):Int)))),(4,.one (.t (sU false [nth nkK (i),nth nkK (j),nth nkK ((i+j)%15)]))),(21,.one (tv (.int .i64 ((j:Nat):Int)))),(22,.one (.t (sU false nkK))),(23,.one (tv (.int .i64 ((nkK.length:Nat):Int)))),(53,.one (.t (sU false [nth nkK (j),nth nkK (i)])))] #[true,true,true,true,true,true,true,true,true,true,true,true,true,true,true,true,true,true,true,true,true,true,true,true,true,true,true,true,false] [4,27,28,29,30,31,32,33,34,35,36,37,38,39,40,41,42,43,44,45,46,47,48,49,50,51,52,53] 1 ?_ fun key7=>?_
   ·refine yU 28 (by kernel_rfl) rfl rfl aG rfl (by trivial) ?_ (fun h=>by first | rfl | cases h)
    exact WD.conv key8 h0 ⟨rfl,rfl,rfl,rfl,rfl,rfl,rfl,rfl,trivial⟩ rfl rfl
   refine WD.meet [(1,.one (.t (sU false nkK))),(2,.one (tv (.int .i64 ((i:Nat):Int)))),(3,.one (tv (.int .i64 ((j:Nat):Int)))),(21,.one (tv (.int .i64 ((j:Nat):Int)))),(22,.one (.t (sU false nkK))),(23,.one (tv (.int .i64 ((nkK.length:Nat):Int)))),(44,.one (.t (sU false [nth nkK (i),nth nkK (j),nth nkK ((i+j)%15)]))),(53,.one (.t (sU false [nth nkK (j),nth nkK (i)])))] #[true,true,true,true,true,true,true,true,true,true,true,true,true,true,true,true,true,true,true,true,true,true,true,true,true,true,true,false,false] [27,28,29,30,31,32,33,34,35,36,37,38,39,40,41,42,43,44,45,46,47,48,49,50,51,52,53] 2 ?_ fun key5=>?_
   ·refine yU 27 (by kernel_rfl) rfl rfl aG rfl (by trivial) ?_ (fun h=>by first | rfl | cases h)
    exact WD.conv key7 h0 ⟨rfl,rfl,rfl,rfl,rfl,rfl,rfl,rfl,trivial⟩ rfl rfl
   refine WD.meet [(1,.one (.t (sU false nkK))),(2,.one (tv (.int .i64 ((i:Nat):Int)))),(3,.one (tv (.int .i64 ((j:Nat):Int)))),(4,.one (.t (sU false [nth nkK (i),nth nkK (j),nth nkK ((i+j)%15)]))),(21,.one (tv (.int .i64 ((j:Nat):Int)))),(22,.one (.t (sU false nkK))),(23,.one (tv (.int .i64 ((nkK.length:Nat):Int)))),(48,.one (tv (.int .u32 ((nth nkK (j):Nat):Int)))),(52,.one (tv (.int .u32 ((nth nkK (i):Nat):Int))))] #[true,true,true,true,true,true,true,true,true,true,true,true,true,true,true,true,true,true,true,true,true,true,true,true,true,true,false,true,false] [4,27,28,29,30,31,32,33,34,35,36,37,38,39,40,41,42,43,44,45,46,47,48,49,50,51,52] 2 ?_ fun key6=>?_
   ·refine gD (key:=0) 26 (by kernel_rfl) rfl rfl aG rfl trivial ?_
    refine bB (i:=53) (k:=0) (t:=22) (z:=1) (n:=2) (l:=aB [nth nkK (j),nth nkK (i)]) rfl rfl rfl rfl rfl ?_
    exact WD.conv key7 h0 ⟨rfl,rfl,rfl,rfl,rfl,rfl,rfl,rfl,trivial⟩ rfl rfl
   refine WD.meet [(1,.one (.t (sU false nkK))),(2,.one (tv (.int .i64 ((i:Nat):Int)))),(3,.one (tv (.int .i64 ((j:Nat):Int)))),(21,.one (tv (.int .i64 ((j:Nat):Int)))),(22,.one (.t (sU false nkK))),(23,.one (tv (.int .i64 ((nkK.length:Nat):Int)))),(44,.one (.t (sU false [nth nkK (i),nth nkK (j),nth nkK ((i+j)%15)]))),(48,.one (tv (.int .u32 ((nth nkK (j):Nat):Int)))),(52,.one (tv (.int .u32 ((nth nkK (i):Nat):Int))))] #[true,true,true,true,true,true,true,true,true,true,true,true,true,true,true,true,true,true,true,true,true,true,true,true,true,true,false,false,false] [27,28,29,30,31,32,33,34,35,36,37,38,39,40,41,42,43,44,45,46,47,48,49,50,51,52] 3 ?_ fun key3=>?_
   ·refine WO.two (i:=26) (j:=27) (by kernel_rfl) ?_ ?_
    ·refine bZ (key:=0) 26 rfl rfl trivial ?_;refine bB (i:=53) (k:=0) (t:=22) (z:=1) (n:=2) (l:=aB [nth nkK (j),nth nkK (i)]) rfl rfl rfl rfl rfl ?_
     exact WD.conv key5 h0 ⟨rfl,rfl,rfl,rfl,rfl,rfl,rfl,rfl,trivial⟩ rfl rfl
    refine Tw 27 rfl ?_;exact WD.conv key6 h0 ⟨rfl,rfl,rfl,rfl,rfl,rfl,rfl,rfl,rfl,trivial⟩ rfl rfl
   refine WD.meet [(1,.one (.t (sU false nkK))),(2,.one (tv (.int .i64 ((i:Nat):Int)))),(3,.one (tv (.int .i64 ((j:Nat):Int)))),(21,.one (tv (.int .i64 ((j:Nat):Int)))),(22,.one (.t (sU false nkK))),(23,.one (tv (.int .i64 ((nkK.length:Nat):Int)))),(30,.one (tv (.int .u32 ((nth nkK (i):Nat):Int)))),(34,.one (tv (.int .u32 ((nth nkK (j):Nat):Int)))),(43,.one (tv (.int .u32 ((nth nkK ((i+j)%15):Nat):Int)))),(53,.one (.t (sU false [nth nkK (j),nth nkK (i)])))] #[true,true,true,true,true,true,true,true,true,true,true,true,true,true,true,true,true,false,true,true,true,true,true,true,true,true,true,false,false] [27,28,29,30,31,32,33,34,35,36,37,38,39,40,41,42,43,45,46,47,48,49,50,51,52,53] 3 ?_ fun key4=>?_
   ·refine gD (key:=0) 17 (by kernel_rfl) rfl rfl aG rfl trivial ?_
    refine bB (i:=44) (k:=0) (t:=22) (z:=1) (n:=3) (l:=aB [nth nkK (i),nth nkK (j),nth nkK ((i+j)%15)]) rfl rfl rfl rfl rfl ?_
    exact WD.conv key5 h0 ⟨rfl,rfl,rfl,rfl,rfl,rfl,rfl,rfl,trivial⟩ rfl rfl
   refine WO.two (i:=17) (j:=26) (by kernel_rfl) ?_ ?_
   ·refine bZ (key:=0) 17 rfl rfl trivial ?_;refine bB (i:=44) (k:=0) (t:=22) (z:=1) (n:=3) (l:=aB [nth nkK (i),nth nkK (j),nth nkK ((i+j)%15)]) rfl rfl rfl rfl rfl ?_
    exact WD.conv key3 h0 ⟨rfl,rfl,rfl,rfl,rfl,rfl,rfl,rfl,rfl,trivial⟩ rfl rfl
   refine bZ (key:=0) 26 rfl rfl trivial ?_;refine bB (i:=53) (k:=0) (t:=22) (z:=1) (n:=2) (l:=aB [nth nkK (j),nth nkK (i)]) rfl rfl rfl rfl rfl ?_
   exact WD.conv key4 h0 ⟨rfl,rfl,rfl,rfl,rfl,rfl,rfl,rfl,rfl,rfl,trivial⟩ rfl rfl
  refine ex ?_;refine sq ?_
  have htl:=zX (v:=val [nth nkK (i),nth nkK (i)]) (L:=2) (Nn.len (fJ (xs:=[nth nkK (i),nth nkK (i)]) (Lim.cons (aX _) (Lim.cons (aX _) Lim.nil)) (by simp)) (by simp)) (by omega)
  refine rd [] (fun i=>[].contains i) mixed ?_
  refine dv 0 ?_;refine dv 1 ?_;refine dv 2 ?_;refine eK 3 ([.v (.int .u32 ((nth nkK (i):Nat):Int))]) (bU nkK (k:=i) (by omega)) ?_
  refine dv 4 ?_;refine dv 5 ?_;refine dv 6 ?_;refine eK 7 ([.v (.int .u32 ((nth nkK (i):Nat):Int))]) (bU nkK (k:=i) (by omega)) ?_
  refine dv 10 ?_;refine dv 11 ?_;refine dv 12 ?_;refine eK 13 ([.v (.int .u32 ((nth nkK (i):Nat):Int))]) (bU nkK (k:=i) (by omega)) ?_
  refine dv 14 ?_;refine dv 15 ?_;refine WD.cast (t:=142) (u':=.int .i64 ((i*3:Nat):Int)) rfl (aD (by omega)) ?_
  refine dv 16 ?_;refine dv 17 ?_;refine dv 18 ?_;refine eK 19 ([.v (.int .u32 ((nth nkK (i):Nat):Int))]) (bU nkK (k:=i) (by omega)) ?_
  refine WD.meet [(1,.one (.t (sU false nkK))),(2,.one (tv (.int .i64 ((i:Nat):Int)))),(3,.one (tv (.int .i64 ((j:Nat):Int)))),(21,.one (tv (.int .i64 ((j:Nat):Int)))),(22,.one (.t (sU false nkK))),(23,.one (tv (.int .i64 ((nkK.length:Nat):Int)))),(136,.one (tv (.string (aH (tx (val [nth nkK (i),nth nkK (i)])))))),(140,.one (tv (.int .u32 ((nth nkK (i):Nat):Int)))),(142,.one (tv (.int .i64 ((i*3:Nat):Int)))),(147,.one (.t (sU false [nth nkK (i),0,1])))] #[true,true,true,true,true,true,true,true,true,true,true,true,true,true,true,true,true,true,true,true,true,false,false,false,false,false,false,false,false,false,false,false,false,false,false,false,false,false,false,false,false,false] [127,128,129,130,131,132,133,134,135,136,137,138,139,140,141,142,143,144,145,146,147] 21 ?_ fun key35=>?_
  ·refine lK 21 rfl (gS (l:=(tx (val [nth nkK (i),nth nkK (i)]))) (xs:=[nth nkK (i),0,1]) (x:=nth nkK (i)) (n:=((i*3:Nat):Int)) (Dn _) (by omega) (aX _) (Lim.cons (aX _) (Lim.cons (by decide) (Lim.cons (by decide) Lim.nil)))) Cz ⟨a1 rfl,a1 rfl,a1 rfl,a1 rfl,rfl⟩ (.one (tv (.bool true))) ?_
   refine df 22 ?_;refine df 23 ?_;refine dv 24 ?_;refine dv 25 ?_;refine dv 26 ?_;refine eK 27 ([.v (.int .u32 ((nth nkK (i):Nat):Int))]) (bU nkK (k:=i) (by omega)) ?_
   refine dv 28 ?_;refine dv 29 ?_;refine dv 30 ?_;refine eK 31 ([.v (.int .u32 ((nth nkK (i):Nat):Int))]) (bU nkK (k:=i) (by omega)) ?_
   refine dv 33 ?_;refine dv 34 ?_;refine dv 35 ?_;refine eK 36 ([.v (.int .u32 ((nth nkK (i):Nat):Int))]) (bU nkK (k:=i) (by omega)) ?_
   refine dv 37 ?_;refine dv 38 ?_;refine WD.cast (t:=165) (u':=.int .u8 ((i:Nat):Int)) rfl (aD (by omega)) ?_
   refine gD (key:=0) 32 (by kernel_rfl) rfl rfl aG rfl trivial ?_
   refine bB (i:=159) (k:=0) (t:=22) (z:=1) (n:=3) (l:=aB [nth nkK (i),nth nkK (i),0]) rfl rfl rfl rfl rfl ?_
   refine lK 39 rfl (Fc (xs:=[nth nkK (i),nth nkK (i),0]) (l:=[49,48,48,48,48,48,48,48,48,48,48,48,48,48,48,48,48,48,48,48,48,48,48,48,48,48,48,48,48]) (x:=nth nkK (i)) (p:=i) (q:=7) (Lim.cons (aX _) (Lim.cons (aX _) (Lim.cons (by decide) Lim.nil))) (fun x hx=>by revert x;decide) (aX _) (by omega) (by omega)) So ⟨a1 rfl,a1 rfl,a1 rfl,a1 rfl,a1 rfl,rfl⟩ (.one (tv (.bool true))) ?_
   refine df 40 ?_;refine df 41 ?_;refine mY ?_;refine fU rfl ?_;refine sk ?_;refine rl ?_;refine o1 ?_;refine o1 ?_
   refine WL.cast (t:=20) (u':=.int .i64 ((i+1:Nat):Int)) rfl (aD (by omega)) ?_
   refine o1 ?_;refine nl ?_;exact⟨i+1,by omega,⟨by omega,trivial⟩,aZ h0 [] _ _ (by decide) ⟨rfl,rfl,trivial⟩ rfl⟩
  refine WD.meet [(1,.one (.t (sU false nkK))),(2,.one (tv (.int .i64 ((i:Nat):Int)))),(3,.one (tv (.int .i64 ((j:Nat):Int)))),(21,.one (tv (.int .i64 ((j:Nat):Int)))),(22,.one (.t (sU false nkK))),(23,.one (tv (.int .i64 ((nkK.length:Nat):Int)))),(136,.one (tv (.string (aH (tx (val [nth nkK (i),nth nkK (i)])))))),(140,.one (tv (.int .u32 ((nth nkK (i):Nat):Int)))),(142,.one (tv (.int .i64 ((i*3:Nat):Int)))),(146,.one (tv (.int .u32 ((nth nkK (i):Nat):Int))))] #[true,true,true,true,true,true,true,true,true,true,true,true,true,true,true,true,true,true,true,true,false,false,false,false,false,false,false,false,false,false,false,false,false,false,false,false,false,false,false,false,false,false] [127,128,129,130,131,132,133,134,135,136,137,138,139,140,141,142,143,144,145,146] 22 ?_ fun key33=>?_
  ·refine gD (key:=0) 20 (by kernel_rfl) rfl rfl aG rfl trivial ?_
   refine bB (i:=147) (k:=0) (t:=22) (z:=1) (n:=3) (l:=aB [nth nkK (i),0,1]) rfl rfl rfl rfl rfl ?_
   exact WD.conv key35 h0 ⟨rfl,rfl,rfl,rfl,rfl,rfl,rfl,rfl,rfl,rfl,trivial⟩ rfl rfl
  refine WD.meet [(1,.one (.t (sU false nkK))),(2,.one (tv (.int .i64 ((i:Nat):Int)))),(3,.one (tv (.int .i64 ((j:Nat):Int)))),(21,.one (tv (.int .i64 ((j:Nat):Int)))),(22,.one (.t (sU false nkK))),(23,.one (tv (.int .i64 ((nkK.length:Nat):Int)))),(135,.one (.t (sU false [nth nkK (i),nth nkK (i)]))),(140,.one (tv (.int .u32 ((nth nkK (i):Nat):Int)))),(142,.one (tv (.int .i64 ((i*3:Nat):Int)))),(147,.one (.t (sU false [nth nkK (i),0,1])))] #[true,true,true,true,true,true,true,true,true,false,true,true,true,true,true,true,true,true,true,true,true,false,false,false,false,false,false,false,false,false,false,false,false,false,false,false,false,false,false,false,false,false] [127,128,129,130,131,132,133,134,135,137,138,139,140,141,142,143,144,145,146,147] 22 ?_ fun key34=>?_
  ·refine lK 9 rfl (gR (fJ (xs:=[nth nkK (i),nth nkK (i)]) (Lim.cons (aX _) (Lim.cons (aX _) Lim.nil)) (by simp))) jR ⟨a1 rfl,rfl⟩ (.one (tv (.string (aH (tx (val [nth nkK (i),nth nkK (i)])))))) ?_
   exact WD.conv key35 h0 ⟨rfl,rfl,rfl,rfl,rfl,rfl,rfl,rfl,rfl,rfl,trivial⟩ rfl rfl
  refine WD.meet [(1,.one (.t (sU false nkK))),(2,.one (tv (.int .i64 ((i:Nat):Int)))),(3,.one (tv (.int .i64 ((j:Nat):Int)))),(21,.one (tv (.int .i64 ((j:Nat):Int)))),(22,.one (.t (sU false nkK))),(23,.one (tv (.int .i64 ((nkK.length:Nat):Int)))),(135,.one (.t (sU false [nth nkK (i),nth nkK (i)]))),(140,.one (tv (.int .u32 ((nth nkK (i):Nat):Int)))),(142,.one (tv (.int .i64 ((i*3:Nat):Int)))),(146,.one (tv (.int .u32 ((nth nkK (i):Nat):Int))))] #[true,true,true,true,true,true,true,true,true,false,true,true,true,true,true,true,true,true,true,true,false,false,false,false,false,false,false,false,false,false,false,false,false,false,false,false,false,false,false,false,false,false] [127,128,129,130,131,132,133,134,135,137,138,139,140,141,142,143,144,145,146] 23 ?_ fun key31=>?_
  ·refine WO.two (i:=9) (j:=20) (by kernel_rfl) ?_ ?_
   ·refine Tn 9 rfl (gR (fJ (xs:=[nth nkK (i),nth nkK (i)]) (Lim.cons (aX _) (Lim.cons (aX _) Lim.nil)) (by simp))) jR ⟨a1 rfl,rfl⟩ (.one (tv (.string (aH (tx (val [nth nkK (i),nth nkK (i)])))))) ?_
    exact WD.conv key33 h0 ⟨rfl,rfl,rfl,rfl,rfl,rfl,rfl,rfl,rfl,rfl,trivial⟩ rfl rfl
   refine bZ (key:=0) 20 rfl rfl trivial ?_;refine bB (i:=147) (k:=0) (t:=22) (z:=1) (n:=3) (l:=aB [nth nkK (i),0,1]) rfl rfl rfl rfl rfl ?_
   exact WD.conv key34 h0 ⟨rfl,rfl,rfl,rfl,rfl,rfl,rfl,rfl,rfl,rfl,trivial⟩ rfl rfl
  refine WD.meet [(1,.one (.t (sU false nkK))),(2,.one (tv (.int .i64 ((i:Nat):Int)))),(3,.one (tv (.int .i64 ((j:Nat):Int)))),(21,.one (tv (.int .i64 ((j:Nat):Int)))),(22,.one (.t (sU false nkK))),(23,.one (tv (.int .i64 ((nkK.length:Nat):Int)))),(130,.one (tv (.int .u32 ((nth nkK (i):Nat):Int)))),(134,.one (tv (.int .u32 ((nth nkK (i):Nat):Int)))),(140,.one (tv (.int .u32 ((nth nkK (i):Nat):Int)))),(142,.one (tv (.int .i64 ((i*3:Nat):Int)))),(147,.one (.t (sU false [nth nkK (i),0,1])))] #[true,true,true,true,true,true,true,true,false,false,true,true,true,true,true,true,true,true,true,true,true,false,false,false,false,false,false,false,false,false,false,false,false,false,false,false,false,false,false,false,false,false] [127,128,129,130,131,132,133,134,137,138,139,140,141,142,143,144,145,146,147] 23 ?_ fun key32=>?_
  ·refine gD (key:=0) 8 (by kernel_rfl) rfl rfl aG rfl trivial ?_
   refine bB (i:=135) (k:=0) (t:=22) (z:=1) (n:=2) (l:=aB [nth nkK (i),nth nkK (i)]) rfl rfl rfl rfl rfl ?_
   exact WD.conv key34 h0 ⟨rfl,rfl,rfl,rfl,rfl,rfl,rfl,rfl,rfl,rfl,trivial⟩ rfl rfl
  refine WO.two (i:=8) (j:=20) (by kernel_rfl) ?_ ?_
  ·refine bZ (key:=0) 8 rfl rfl trivial ?_;refine bB (i:=135) (k:=0) (t:=22) (z:=1) (n:=2) (l:=aB [nth nkK (i),nth nkK (i)]) rfl rfl rfl rfl rfl ?_
   exact WD.conv key31 h0 ⟨rfl,rfl,rfl,rfl,rfl,rfl,rfl,rfl,rfl,rfl,trivial⟩ rfl rfl
  refine bZ (key:=0) 20 rfl rfl trivial ?_;refine bB (i:=147) (k:=0) (t:=22) (z:=1) (n:=3) (l:=aB [nth nkK (i),0,1]) rfl rfl rfl rfl rfl ?_
  exact WD.conv key32 h0 ⟨rfl,rfl,rfl,rfl,rfl,rfl,rfl,rfl,rfl,rfl,rfl,trivial⟩ rfl rfl
 refine ex ?_;refine sq ?_;refine sq ?_;refine rl ?_;refine bs 0 ?_;refine o1 ?_;refine o1 ?_;refine nl ?_;refine bl ?_
 refine WP.sub (fz (i:=169) (k:=0) (t:=9) (z:=1) (n:=15) (l:=tT kC) rfl rfl rfl rfl) ?_
 refine lp (γ:=Nat) (fun p=>bO [(169,.one (.t (.s false 9 1 kC.length (tT kC)))),(170,.one (tv (.int .i64 ((kC.length:Nat):Int)))),(171,.one (tv (.int .i64 ((p:Nat):Int))))]) (fun p=>([]:List Ob).map some) (fun p=>p≤kC.length∧True) (fun p=>kC.length-p) 0 ⟨Nat.zero_le _,trivial⟩ (aZ h0 [] _ _ (by decide) ⟨rfl,rfl,rfl,trivial⟩ rfl) fun p hp=>?_
 refine sq ?_;refine rl ?_;refine o1 ?_;refine nl ?_;refine sq ?_;refine bG rfl (fun h36=>?_) (fun h36=>?_)
 ·refine sk ?_;refine sq ?_;refine bl ?_;refine sq ?_;refine rl ?_;refine o1 ?_;refine jS ([.v (.string (aH (mU kC (p))))]) (Oo kC (k:=p) (by omega)) ?_
  refine o1 ?_;refine nl ?_;refine sq ?_;refine rl ?_;refine o1 ?_
  refine ca (gS (l:=(mU kC (p))) (xs:=[]) (x:=7) (n:=(-1)) (pC _).1 (Nat.le_trans (pC _).2 (by omega)) (by decide) Lim.nil) Cz ⟨a1 rfl,a1 rfl,a1 rfl,cH rfl .nil,rfl⟩ (.one (tv (.bool true))) ?_
  (iterate 3 refine o1 ?_);refine bs 0 ?_;refine WL.sub (uC (i:=180) (zs:=[0]) (zs':=[0]) rfl rfl rfl rfl rfl) ?_
  refine ca (gS (l:=(mU kC (p))) (xs:=[0]) (x:=7) (n:=((4097:Nat):Int)) (pC _).1 (Nat.le_trans (pC _).2 (by omega)) (by decide) (Lim.cons (by decide) Lim.nil)) Cz ⟨a1 rfl,a1 rfl,a1 rfl,a1 rfl,rfl⟩ (.one (tv (.bool true))) ?_
  refine o1 ?_;refine o1 ?_;refine nl ?_;refine fU rfl ?_;refine sk ?_;refine rl ?_;refine o1 ?_;refine WL.cast (t:=184) (u':=.int .i64 ((p+1:Nat):Int)) rfl (aD (by omega)) ?_
  refine o1 ?_;refine nl ?_;exact⟨p+1,by omega,⟨by omega,trivial⟩,aZ h0 [] _ _ (by decide) ⟨rfl,rfl,rfl,trivial⟩ rfl⟩
 refine ex ?_;refine sq ?_;refine rl ?_;refine o1 ?_;refine nl ?_;refine sq ?_;refine sq ?_;refine rl ?_;refine o1 ?_;refine nl ?_;refine bl ?_
 refine lp (γ:=Nat) (fun s=>bO [(8,.one (tv (.string (aH (List.replicate s 55))))),(9,.one (tv (.int .i64 ((s:Nat):Int))))]) (fun s=>([]:List Ob).map some) (fun s=>s≤4096) (fun s=>4096-s) 0 (Nat.zero_le _) (aZ h0 [] _ _ (by decide) ⟨rfl,rfl,trivial⟩ rfl) ?_
 rintro q hq;refine sq ?_;refine sq ?_;refine rl ?_;refine o1 ?_;refine o1 ?_;refine nl ?_;refine bG rfl (fun h37=>?_) (fun h37=>?_)
 ·refine sk ?_;refine sq ?_;refine bl ?_;refine rl ?_;refine o1 ?_;refine o1 ?_ (hC:=(by rw[aP,List.length_replicate];show q+1≤_;omega))
  refine WL.cast (t:=190) (u':=.string (aH (List.replicate (q+1) 55))) rfl (congrArg Value.string ((nW _ [55]).trans (congrArg aH (List.replicate_succ' ..).symm))) ?_;refine o1 ?_
  refine nl ?_;refine rl ?_;refine o1 ?_;refine o1 ?_;refine WL.cast (t:=188) (u':=.int .i64 ((q+1:Nat):Int)) rfl (aD (by omega)) ?_
  refine o1 ?_;refine nl ?_;exact⟨q+1,by omega,by omega,aZ h0 [] _ _ (by decide) ⟨rfl,rfl,trivial⟩ rfl⟩
 refine ex ?_;refine sq ?_;refine rl ?_;have hq9:q=4096:=by omega
 have hs9:=Ot (n:=q) (by omega)
 obtain⟨L,hLe⟩:∃L,List.replicate q 55=L:=⟨_,rfl⟩
 have hLl:L.length=4096:=by rw[←hLe,List.length_replicate,hq9]
 rw[hLe]at hs9;have hLm:=hs9.2
 have hLe0:=xD hs9.1 (by omega)
 have hpwl:(dg 4294967296 (cS 10 ((4096:Nat):Int))).length≤1000000:=Ov (by omega)
 refine WL.sub (Hb (i:=8) rfl (congrArg (fun l:List Nat=>FV.one (tv (.string (aH l)))) hLe)) ?_
 refine o1 ?_;refine ca (kA (l:=L) (V:=dK L) (e:=0) hLm (by omega) rfl hLe0) pE ⟨a1 rfl,rfl⟩ (.tup [nF (dg 4294967296 (dK L)),.one (tv (.int .i64 0))]) ?_
 (iterate 5 refine o1 ?_);refine nl ?_;refine sq ?_;refine rl ?_
 refine ca (Kt) iP ⟨a1 rfl,a1 rfl,rfl⟩ (.tup [nF (dg 4294967296 (cS 10 ((4096:Nat):Int))),.one (tv (.int .i64 0))]) ?_;(iterate 5 refine o1 ?_);refine nl ?_;refine sq ?_
 refine rl ?_;refine o1 ?_;refine o1 ?_;refine WL.cast (t:=201) (u':=.bool true) rfl (congrArg Value.bool (decide_eq_true rfl)) ?_;refine o1 ?_;refine o1 ?_
 refine ca (gR (Nn.of (u:=dK L) (Nat.le_trans (tD L) (by omega)))) jR ⟨a1 rfl,rfl⟩ (.one (tv (.string (aH (tx (dK L)))))) ?_
 refine o1 ?_;refine o1 ?_
 refine WL.cast (t:=206) (u':=.bool true) rfl (congrArg Value.bool ((congrArg (fun m:List Nat=>((aH m).toList==(aH L).toList)) (zW hLe0)).trans (beq_self_eq_true _))) ?_
 (iterate 4 refine o1 ?_);refine WL.cast (t:=210) (u':=.bool true) rfl (congrArg Value.bool (decide_eq_true rfl)) ?_;(iterate 3 refine o1 ?_)
 refine ca (gR (Nn.of (u:=cS 10 ((4096:Nat):Int)) hpwl)) jR ⟨a1 rfl,rfl⟩ (.one (tv (.string (aH (tx (cS 10 ((4096:Nat):Int))))))) ?_;refine o1 ?_
 refine WL.cast (t:=215) (u':=.int .i64 (((tx (cS 10 ((4096:Nat):Int))).length:Nat):Int)) rfl (congrArg (fun n:Nat=>Value.int .i64 (n:Int)) (aP _)) ?_
 refine o1 ?_;refine WL.cast (t:=216) (u':=.bool true) rfl (congrArg Value.bool (decide_eq_true (by rw[Qy (by omega)];rfl))) ?_
 (iterate 3 refine o1 ?_);refine o1 ?_ (hC:=(by rw[aP,hLl];decide))
 refine WL.cast (t:=220) (u':=.string (aH (L++[55]))) rfl (congrArg Value.string (nW _ [55])) ?_
 refine ca (gS (l:=(L++[55])) (xs:=[]) (x:=0) (n:=((0:Nat):Int)) (hLm.append (Lim.cons (by omega) Lim.nil)) (by rw[List.length_append,hLl];decide) (by decide) Lim.nil) Cz ⟨a1 rfl,a1 rfl,a1 rfl,cH rfl .nil,rfl⟩ (.one (tv (.bool true))) ?_
 (iterate 3 refine o1 ?_);refine o1 ?_ (hC:=(by rw[aP,hLl];decide))
 refine WL.cast (t:=225) (u':=.string (aH (L++[120]))) rfl (congrArg Value.string (nW _ [120])) ?_
 refine ca (gS (l:=(L++[120])) (xs:=[]) (x:=1) (n:=((2:Nat):Int)) (hLm.append (Lim.cons (by omega) Lim.nil)) (by rw[List.length_append,hLl];decide) (by decide) Lim.nil) Cz ⟨a1 rfl,a1 rfl,a1 rfl,cH rfl .nil,rfl⟩ (.one (tv (.bool true))) ?_
 refine o1 ?_;refine o1 ?_;refine ca (xK (xs:=[]) (ys:=[]) (l:=[]) Lim.nil Lim.nil Oq) Mm ⟨cH rfl .nil,cH rfl .nil,cH rfl .nil,rfl⟩ (.one (tv (.bool true))) ?_
 refine o1 ?_;refine o1 ?_;refine ca (bD) dJ rfl (.one (tv (.bool true))) ?_;refine o1 ?_;refine o1 ?_;refine nl ?_;refine rt ?_;exact cL (.inl rfl) rfl (rfl)
end Go.Proofs.YteggpgndiajdpaaGreatDoor
namespace Go.Proofs.YteggpgndiajdpaaGreatDoor
open Go Go.RowKit Go.ChangeShapes
def Reads (P:Program) (t:TypeId) (z:Nat) (T:List Tr→Prop):Prop:=
 P.cellsOf t=z∧∀(H:Type) (enc:TypeId×Value→H) (w:World) (fuel:Nat) (cs:List Value) (x:DataW H×List MemPlace),DataW.trod enc P w 0 (fun _=>true) true fuel t cs=some x→∃l,T l∧l.length=z∧FRL w (Di w) l cs
theorem Ad {W:World}{N:Nat→Prop}:∀{l l':List Tr}{us us':List Value},FRL W N l us→FRL W N l' us'→FRL W N (l++l') (us++us')
 | [],l',us,us',h,h'=>by simp only[FRL]at h;subst h;exact h'
 | x::l,l',u::us,us',h,h'=>by simp only[FRL,List.cons_append]at*;exact⟨h.1,Ad h.2 h'⟩
 | _::_,_,[],_,h,_=>by simp only[FRL]at h
section
variable {P:Program}{t e:TypeId}{k:IntKind}{z:Nat}{T T':List Tr→Prop}
theorem Reads.mono (h:Reads P t z T) (hi:∀l,T l→T' l):Reads P t z T':=⟨h.1,fun H enc w fuel cs x hx=>let ⟨l,a,b⟩:=h.2 H enc w fuel cs x hx;⟨l,hi l a,b⟩⟩
inductive Flds (P:Program):Nat→List Field→Nat→(List Tr→Prop)→Prop
 | nil {o:Nat}:Flds P o [] 0 (· =[])
 | cons {o z z':Nat}{f:Field}{fs:List Field}{T T':List Tr→Prop}(ho:f.offset=o) (h:Reads P f.type z T) (h':Flds P (o+z) fs z' T'):Flds P o (f::fs) (z+z') (fun l=>∃a b,l=a++b∧T a∧T' b)
theorem Flds.read {H:Type}{enc:TypeId×Value→H}{w:World}{n o:Nat}{fs:List Field}(h:Flds P o fs z T):∀{cs:List Value},o+z≤cs.length→(∀f∈fs,∃x,DataW.trod enc P w 0 (fun _=>true) true n f.type ((cs.drop f.offset).take (P.cellsOf f.type))=some x)→∃l,T l∧l.length=z∧FRL w (Di w) l ((cs.drop o).take z):=by
 induction h with
 | nil=>exact fun _ _=>⟨[],rfl,rfl,by simp[FRL]⟩
 | @cons o z z' f fs T T' ho hr _ ih=>
  intro cs hl hf
  obtain⟨b,h1,h2,h3⟩:=ih (cs:=cs) (by omega) fun f hm=>hf f (List.mem_cons_of_mem _ hm)
  obtain⟨x,hx⟩:=hf f List.mem_cons_self
  obtain⟨a,g1,g2,g3⟩:=hr.2 H enc w n _ x hx
  rw[ho,hr.1]at g3
  refine⟨a++b,⟨a,b,rfl,g1,h1⟩,by simp[g2,h2],?_⟩
  rw[List.take_add,List.drop_drop]
  exact Ad g3 h3
end
def LimF (a:Fr4):Prop:=Lim 4294967296 a.x∧Lim 4294967296 a.y
theorem LimF.ok {a:Fr4}(h:LimF a) (h2:a.x.length≤6∧a.y.length≤6):a.ok:=⟨h.1,h.2,by omega,by omega⟩
end Go.Proofs.YteggpgndiajdpaaGreatDoor
namespace Go.Proofs.YteggpgndiajdpaaGreatDoor
open Go Go.ChangeShapes Go.WideShapes Go.ChangeAt Go.RowKit
end Go.Proofs.YteggpgndiajdpaaGreatDoor
