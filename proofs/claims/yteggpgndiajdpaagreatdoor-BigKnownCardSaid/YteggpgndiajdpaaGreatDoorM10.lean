/- Part 10 of a proof: S9 to Tg. -/
import Derived.Test.YteggpgndiajdpaaGreatDoorM9
import Derived.Test.YteggpgndiajdpaaGreatDoorM7
import Derived.Test.YteggpgndiajdpaaGreatDoorM8
set_option maxRecDepth 100000
set_option linter.unusedVariables false
set_option linter.unusedSimpArgs false
namespace Go.Proofs.YteggpgndiajdpaaGreatDoor
open Go Go.RowKit
theorem Cj {xs:List Nat}{m:Nat}(hx:xs.length≤1099511627776) (hlx:Lim 4294967296 xs) (hm:m<4294967296):aL true Tryz.prog 71 [] [.one (.t (sU false xs)),.one (tv (.int .u32 ((m:Nat):Int)))] (aU (.one (.t (sU true (dg 4294967296 (vl 4294967296 xs*m)))))):=by
 refine cF Tryz.func71 rfl Tryz.ntmps71 rfl aA rfl fun N9 w9 c0 h0=>?_
 refine sq ?_;refine rl ?_;refine o1 ?_;refine nl ?_;refine sq ?_;refine rl ?_;refine o1 ?_
 refine ca (gC hx hlx) mA ⟨a1 rfl,rfl⟩ (.one (.t (sI false (dg 65536 (vl 4294967296 xs))))) ?_;refine o1 ?_;refine nl ?_;refine sq ?_
 have hdx:=cU (v:=vl 4294967296 xs) (L:=xs.length) (by rw[dK (by omega) hlx];exact bY _)
 have hX:=aF (B:=65536) (by omega) (vl 4294967296 xs)
 have hvX:=aZ (B:=65536) (by omega) (vl 4294967296 xs)
 generalize dg 65536 (vl 4294967296 xs)=X at hdx hX hvX⊢;refine rl ?_;refine o1 ?_;refine nl ?_;refine sq ?_;refine rl ?_;refine o1 ?_;refine nl ?_;refine sq ?_;refine sq ?_;refine rl ?_
 refine o1 ?_;refine nl ?_;refine bl ?_
 refine lp (γ:=Nat×Nat×List Nat) (fun s=>cJ [(1,.one (tv (.int .u32 ((m:Nat):Int)))),(5,.one (.t (sI false X))),(6,.one (.sl 0 0 (s.1))),(7,.one (tv (.int .i64 ((s.2.1:Nat):Int)))),(8,.one (tv (.int .i64 ((s.1:Nat):Int))))]) (fun s=>[(⟨3,1,(cV s.2.2).map .t⟩:Ob)].map some) (fun s=>s.2.2.length=s.1∧Lim 65536 s.2.2∧vl 65536 s.2.2+65536^s.1*s.2.1=vl 65536 (X.take s.1)*m∧s.2.1≤4294967295∧(s.1≤X.length∨s.1=X.length+1∧s.2.1<65536∨s.1=X.length+2∧s.2.1=0)) (fun s=>(X.length-s.1)*4294967296+s.2.1) (0,0,[]) ⟨rfl,Lim.nil,(by simp[vl]),Nat.zero_le _,.inl (Nat.zero_le _)⟩ ((nr (i:=6) 0 3 1 rfl rfl rfl rfl).trans (aJ h0 [0] _ _ (by decide) ⟨rfl,rfl,rfl,rfl,rfl,trivial⟩ ⟨cD (l:=[]) rfl,rfl⟩)) ?_
 rintro⟨k,cr,os⟩ ⟨hos,hol,hv,hc,hkm⟩;dsimp only at hos hol hv hc hkm⊢;have hn:=hX.nth (by omega) k
 have hmul:=Nat.mul_le_mul (Nat.le_of_lt_succ hn) (Nat.le_of_lt_succ hm)
 refine sq ?_;refine sq ?_;refine rl ?_;(iterate 5 refine o1 ?_);refine WL.split (t:=16) rfl (fun h1=>?_) (fun h1=>?_)
 ·refine cW ?_;refine cW ?_;refine o1 ?_;refine nl ?_;refine iC rfl ?_;refine sk ?_;refine sq ?_;refine bl ?_;refine sq ?_;refine rl ?_;refine o1 ?_;refine o1 ?_
  refine ca (jQ) jR ⟨a1 rfl,a1 rfl,rfl⟩ (.one (tv (.int .i64 ((nth X (k):Nat):Int)))) ?_;refine o1 ?_;refine o1 ?_
  refine WL.cast (t:=26) (u':=.int .i64 ((m:Nat):Int)) rfl (aH (by omega)) ?_
  refine o1 ?_;refine WL.cast (t:=27) (u':=.int .i64 (((nth X (k))*m:Nat):Int)) rfl (aH (Int.natCast_mul _ _).symm) ?_;refine o1 ?_;refine o1 ?_
  refine WL.cast (t:=29) (u':=.int .i64 (((nth X (k))*m+cr:Nat):Int)) rfl (aH (by omega)) ?_
  refine o1 ?_;refine nl ?_;refine sq ?_;refine rl ?_;(iterate 3 refine o1 ?_)
  refine WL.cast (t:=32) (u':=.int .i64 ((((nth X (k))*m+cr)%65536:Nat):Int)) rfl (aH (eK _ 65536)) ?_;refine bs 1 ?_
  refine fR (j:=2) aA rfl rfl rfl rfl (.sl rfl (by rw[List.length_map,eL,hos];omega)) (.sl rfl rfl rfl) rfl rfl rfl (by omega) (by omega) ?_
  refine o1 ?_;refine nl ?_;refine rl ?_;refine o1 ?_;refine o1 ?_ (hC:=(eA 65536 (by omega) (by simp only[eQ];omega)))
  refine WL.cast (t:=36) (u':=.int .i64 ((((nth X (k))*m+cr)/65536:Nat):Int)) rfl (aH (dM _ 65536)) ?_;refine o1 ?_;refine nl ?_;refine rl ?_;refine o1 ?_;refine o1 ?_
  refine WL.cast (t:=21) (u':=.int .i64 ((k+1:Nat):Int)) rfl (aH (by omega)) ?_
  refine o1 ?_;refine nl ?_;have hst:=zJ hos hv
  have hz1:X.length≤k→nth X k*m=0:=fun h=>by rw[dC (by omega)];exact Nat.zero_mul _
  exact⟨(k+1,(nth X k*m+cr)/65536,os++[(nth X k*m+cr)%65536]),by dsimp only;omega,⟨by simp[hos],hol.append (Lim.cons (Nat.mod_lt _ (by omega)) Lim.nil),hst,by dsimp only;omega,by dsimp only;omega⟩,aJ h0 [2] _ _ (by decide) ⟨rfl,rfl,rfl,rfl,rfl,trivial⟩ ⟨iY rfl (eM _ [(nth X k*m+cr)%65536]) rfl,rfl⟩⟩
 (iterate 3 refine o1 ?_);refine nl ?_;refine bU rfl (fun h2=>?_) (fun h2=>?_)
 ·refine sk ?_;refine sq ?_;refine bl ?_;refine sq ?_;refine rl ?_;refine o1 ?_;refine o1 ?_
  refine ca (jQ) jR ⟨a1 rfl,a1 rfl,rfl⟩ (.one (tv (.int .i64 ((nth X (k):Nat):Int)))) ?_;refine o1 ?_;refine o1 ?_
  refine WL.cast (t:=26) (u':=.int .i64 ((m:Nat):Int)) rfl (aH (by omega)) ?_
  refine o1 ?_;refine WL.cast (t:=27) (u':=.int .i64 (((nth X (k))*m:Nat):Int)) rfl (aH (Int.natCast_mul _ _).symm) ?_;refine o1 ?_;refine o1 ?_
  refine WL.cast (t:=29) (u':=.int .i64 (((nth X (k))*m+cr:Nat):Int)) rfl (aH (by omega)) ?_
  refine o1 ?_;refine nl ?_;refine sq ?_;refine rl ?_;(iterate 3 refine o1 ?_)
  refine WL.cast (t:=32) (u':=.int .i64 ((((nth X (k))*m+cr)%65536:Nat):Int)) rfl (aH (eK _ 65536)) ?_;refine bs 1 ?_
  refine fR (j:=2) aA rfl rfl rfl rfl (.sl rfl (by rw[List.length_map,eL,hos];omega)) (.sl rfl rfl rfl) rfl rfl rfl (by omega) (by omega) ?_
  refine o1 ?_;refine nl ?_;refine rl ?_;refine o1 ?_;refine o1 ?_ (hC:=(eA 65536 (by omega) (by simp only[eQ];omega)))
  refine WL.cast (t:=36) (u':=.int .i64 ((((nth X (k))*m+cr)/65536:Nat):Int)) rfl (aH (dM _ 65536)) ?_;refine o1 ?_;refine nl ?_;refine rl ?_;refine o1 ?_;refine o1 ?_
  refine WL.cast (t:=21) (u':=.int .i64 ((k+1:Nat):Int)) rfl (aH (by omega)) ?_
  refine o1 ?_;refine nl ?_;have hst:=zJ hos hv
  have hz1:X.length≤k→nth X k*m=0:=fun h=>by rw[dC (by omega)];exact Nat.zero_mul _
  exact⟨(k+1,(nth X k*m+cr)/65536,os++[(nth X k*m+cr)%65536]),by dsimp only;omega,⟨by simp[hos],hol.append (Lim.cons (Nat.mod_lt _ (by omega)) Lim.nil),hst,by dsimp only;omega,by dsimp only;omega⟩,aJ h0 [2] _ _ (by decide) ⟨rfl,rfl,rfl,rfl,rfl,trivial⟩ ⟨iY rfl (eM _ [(nth X k*m+cr)%65536]) rfl,rfl⟩⟩
 refine ex ?_;refine sq ?_;refine rl ?_;have hc0:cr=0:=by omega
 rw[hc0,Nat.mul_zero,Nat.add_zero,bE 65536 (by omega),hvX]at hv
 refine WL.sub (qC (i:=6) (zs':=os) rfl rfl rfl (by omega) rfl) ?_
 refine o1 ?_;refine hH 1 (mP (by omega) (by assumption)) uH ⟨a1 rfl,rfl⟩ ?_
 refine o1 ?_;refine nl ?_;refine rt ?_
 exact en (.inl rfl) rfl (bZ (.one (.sl (trs:=aM (dg 4294967296 (vl 65536 os))) rfl rfl (bP _) (bK _)))) (by decide) (fun _=>.inl ⟨rfl,eX _⟩) (by rw[hv];rfl)
theorem Ck {xs:List Nat}{d:Nat}(hx:xs.length≤1099511627776) (hlx:Lim 4294967296 xs) (hd0:0<d) (hd:d<4294967296):aL true Tryz.prog 76 [] [.one (.t (sU false xs)),.one (tv (.int .u32 ((d:Nat):Int)))] (aU (.tup [.one (.t (sU true (dg 4294967296 (vl 4294967296 xs/d)))),.one (tv (.int .u32 ((vl 4294967296 xs%d:Nat):Int))),.one (tv (.int .i64 0))])):=by
 refine cF Tryz.func76 rfl Tryz.ntmps76 rfl aA rfl fun N9 w9 c0 h0=>?_
 refine sq ?_;refine rl ?_;(iterate 3 refine o1 ?_);refine nl ?_;refine sq ?_;refine sq ?_;refine rl ?_;refine o1 ?_;refine o1 ?_;refine nl ?_;refine bU rfl (fun h1=>?_) (fun h1=>?_)
 ·omega
 refine sk ?_;refine sq ?_;refine rl ?_;refine o1 ?_;refine ca (gC hx hlx) mA ⟨a1 rfl,rfl⟩ (.one (.t (sI false (dg 65536 (vl 4294967296 xs))))) ?_;refine o1 ?_;refine nl ?_
 refine sq ?_;have hdx:=cU (v:=vl 4294967296 xs) (L:=xs.length) (by rw[dK (by omega) hlx];exact bY _)
 have hX:=aF (B:=65536) (by omega) (vl 4294967296 xs)
 have hvX:=aZ (B:=65536) (by omega) (vl 4294967296 xs)
 generalize dg 65536 (vl 4294967296 xs)=X at hdx hX hvX⊢;refine rl ?_;refine o1 ?_;refine o1 ?_;refine mk (m:=X.length) 0 (by omega) (tD _) ?_
 refine o1 ?_;refine nl ?_;refine sq ?_;refine rl ?_;refine o1 ?_;refine nl ?_;refine sq ?_;refine sq ?_;refine rl ?_;(iterate 4 refine o1 ?_);refine nl ?_;refine bl ?_
 refine lp (γ:=Nat×Nat×List Nat) (fun s=>cJ [(1,.one (tv (.int .u32 ((d:Nat):Int)))),(7,.one (.t (sI false X))),(8,.one (.sl 0 0 (X.length))),(9,.one (tv (.int .i64 ((s.2.1:Nat):Int)))),(10,.one (tv (.int .i64 (((s.1:Nat):Int)-1))))]) (fun s=>[(⟨3,1,(cV (List.replicate s.1 0++s.2.2)).map .t⟩:Ob)].map some) (fun s=>s.1≤X.length∧Lim 65536 s.2.2∧s.2.2.length+s.1=X.length∧s.2.1<d∧vl 65536 s.2.2*d+s.2.1=vl 65536 (X.drop s.1)) (fun s=>s.1) (X.length,0,[]) ⟨Nat.le_refl _,Lim.nil,Nat.zero_add _,hd0,(by rw[List.drop_length];simp[vl])⟩ (aJ h0 [0] _ _ (by decide) ⟨rfl,rfl,rfl,rfl,rfl,trivial⟩ ⟨cD (congrArg (fun l:List Nat=>some (⟨3,1,(cV l).map .t⟩:Ob)) ((List.append_nil _).symm)),rfl⟩) ?_
 rintro⟨k,rest,os⟩ ⟨hk,hol,hos,hr,hv⟩;dsimp only at hk hol hos hr hv⊢;have hn:=hX.nth (by omega) (k-1)
 have hlen:(List.replicate k 0++os).length=X.length:=by rw[List.length_append,List.length_replicate];omega
 refine sq ?_;refine sq ?_;refine rl ?_;refine o1 ?_;refine o1 ?_;refine nl ?_;refine bU rfl (fun h2=>?_) (fun h2=>?_)
 ·refine sk ?_;refine sq ?_;refine bl ?_;refine sq ?_;refine rl ?_;refine o1 ?_;refine o1 ?_;refine WL.cast (t:=27) (u':=.int .i64 ((65536*rest:Nat):Int)) rfl (aH (by omega)) ?_
  refine o1 ?_;refine o1 ?_;refine WL.cast (t:=29) (u':=.int .i64 ((k-1:Nat):Int)) rfl (aH (by omega)) ?_
  refine o1 ?_;refine iT ([.v (.int .i64 ((nth X (k-1):Nat):Int))]) (dR X (k:=k-1) (by omega)) ?_
  refine o1 ?_;refine WL.cast (t:=32) (u':=.int .i64 ((65536*rest+(nth X (k-1)):Nat):Int)) rfl (aH (by omega)) ?_
  refine o1 ?_;refine nl ?_;refine sq ?_;refine rl ?_;refine o1 ?_;refine o1 ?_;refine WL.cast (t:=34) (u':=.int .i64 ((k-1:Nat):Int)) rfl (aH (by omega)) ?_
  (iterate 3 refine o1 ?_);refine WL.cast (t:=37) (u':=.int .i64 ((d:Nat):Int)) rfl (aH (by omega)) ?_
  refine o1 ?_ (hC:=(eA d (by omega) (by simp only[eQ];omega)))
  refine WL.cast (t:=38) (u':=.int .i64 (((65536*rest+(nth X (k-1)))/d:Nat):Int)) rfl (aH (dM _ d)) ?_;refine o1 ?_
  refine uI (mE (List.replicate k 0++os) (k:=k-1) (v:=(65536*rest+(nth X (k-1)))/d) (by omega)) (oH (List.replicate k 0++os) (by omega)) ?_
  refine nl ?_;refine rl ?_;(iterate 3 refine o1 ?_);refine WL.cast (t:=42) (u':=.int .i64 ((d:Nat):Int)) rfl (aH (by omega)) ?_
  refine o1 ?_ (hC:=(by omega))
  refine WL.cast (t:=43) (u':=.int .i64 (((65536*rest+(nth X (k-1)))%d:Nat):Int)) rfl (aH (eK _ d)) ?_;refine o1 ?_;refine nl ?_;refine rl ?_;(iterate 3 refine o1 ?_)
  refine nl ?_
  exact⟨(k-1,(65536*rest+nth X (k-1))%d,(65536*rest+nth X (k-1))/d::os),by dsimp only;omega,⟨by dsimp only;omega,Lim.cons (Ik hr hn) hol,by dsimp only;rw[List.length_cons];omega,Nat.mod_lt _ (by omega),Mn (by omega) hk hv⟩,aJ h0 [0] _ _ (by decide) ⟨rfl,rfl,rfl,rfl,uJ (by omega),trivial⟩ ⟨cD (congrArg (fun l:List Nat=>some (⟨3,1,(cV l).map .t⟩:Ob)) (Qx (by omega))),rfl⟩⟩
 refine ex ?_;refine sq ?_;refine rl ?_;have hk0:k=0:=by omega
 subst hk0;obtain⟨e1,e2⟩:=Mo hr hv
 rw[hvX]at e1 e2;refine WL.sub (qC (i:=8) (zs':=os) rfl rfl rfl (by simp;omega) rfl) ?_
 refine o1 ?_;refine hH 1 (mP (by omega) (by assumption)) uH ⟨a1 rfl,rfl⟩ ?_
 refine o1 ?_;refine o1 ?_;refine WL.cast (t:=47) (u':=.int .u32 ((rest:Nat):Int)) rfl (aH (by omega)) ?_
 (iterate 3 refine o1 ?_);refine nl ?_;refine rt ?_
 exact en (.inl rfl) rfl (pC (.cons (.one (.sl (trs:=aM (dg 4294967296 (vl 65536 os))) rfl rfl (bP _) (bK _))) (.cons (bQ _) (.cons (bQ _) .nil)))) (by decide) (fun _=>⟨.inl ⟨rfl,eX _⟩,trivial,trivial,trivial⟩) (by rw[e1,←e2];rfl)
theorem Qy {u d:Nat}(h:(dg 4294967296 u).length≤1099511627776) (hd0:0<d) (hd:d<4294967296):aL true Tryz.prog 76 [] [.one (.t (sU false (dg 4294967296 u))),.one (tv (.int .u32 ((d:Nat):Int)))] (aU (.tup [.one (.t (sU true (dg 4294967296 (u/d)))),.one (tv (.int .u32 ((u%d:Nat):Int))),.one (tv (.int .i64 0))])):=by
 have h1:=Ck h (aF (by omega) u) hd0 hd
 rwa[aZ (by omega)]at h1
theorem rR {u m:Nat}(h:(dg 4294967296 u).length≤1099511627776) (hm:m<4294967296):aL true Tryz.prog 71 [] [.one (.t (sU false (dg 4294967296 u))),.one (tv (.int .u32 ((m:Nat):Int)))] (aU (.one (.t (sU true (dg 4294967296 (u*m)))))):=by
 have h1:=Cj h (aF (by omega) u) hm
 rwa[aZ (by omega)]at h1
theorem rS {u x:Nat}(h:(dg 4294967296 u).length≤1099511627776) (hx:x<4294967296):aL true Tryz.prog 70 [] [.one (.t (sU false (dg 4294967296 u))),.one (.t (sU false [x]))] (aU (.one (.t (sU true (dg 4294967296 (u+x)))))):=by
 have h1:=Il h (aF (by omega) u) (by simp) (Lim.cons hx Lim.nil)
 rwa[aZ (by omega),show vl 4294967296 [x]=x by simp[vl]]at h1
theorem qD {k:Int}(h:k.natAbs<4294967296^4):(dg 4294967296 k.natAbs).length≤4:=bC (by omega) h
theorem zK {a:Zi}{k:Int}(ha:Zn a k):aL true Tryz.prog 24 [] [gF a] (aU (.tup [.one (tv (.int .i64 (if gJ k then k else 0))),.one (tv (.bool (gJ k)))])):=by
 refine cF Tryz.func24 rfl Tryz.ntmps24 rfl aA rfl fun N9 w9 c0 h0=>?_
 refine sq ?_;refine rl ?_;refine bx 0 ?_;refine o1 ?_;refine o1 ?_;refine nl ?_;refine sq ?_;refine rl ?_;refine ld ?_;refine ca (cB (ha).g) cC ⟨aB rfl,rfl⟩ (kF (k)) ?_;refine al 1 ?_
 refine st ?_;refine nl ?_;refine sq ?_;refine sq ?_;refine rl ?_;refine o1 ?_;refine o1 ?_;refine ld ?_;refine o1 ?_;refine o1 ?_;refine nl ?_;refine bU rfl (fun h1=>?_) (fun h1=>?_)
 ·refine sq ?_;refine rl ?_;refine o1 ?_;refine o1 ?_;refine nl ?_;refine rt ?_;have hin:=Qz (k:=k) (by omega)
  exact en (.inl rfl) rfl (eH (.cons (bQ _) (.cons (bQ _) .nil))) (by decide) (fun _=>⟨trivial,trivial,trivial⟩) (by rw[hin];rfl)
 refine sk ?_;refine sq ?_;refine rl ?_;refine o1 ?_;refine nl ?_;refine sq ?_;refine sq ?_;refine rl ?_;refine o1 ?_;refine o1 ?_;refine ld ?_;refine o1 ?_;refine o1 ?_;refine nl ?_
 refine bl ?_;have hX:Lim 4294967296 (dg 4294967296 (k).natAbs):=aF (by omega) _
 refine lp (γ:=Nat) (fun s=>cJ [(4,.one (.pt 0 0)),(17,.one (.t (sU false (dg 4294967296 (k).natAbs)))),(18,.one (tv (.int .i64 (((dg 4294967296 (k).natAbs).length:Nat):Int)))),(5,.one (tv (.int .u64 (((vl 4294967296 ((dg 4294967296 (k).natAbs).take s)):Nat):Int)))),(19,.one (tv (.int .i64 ((s:Nat):Int))))]) (fun s=>[(⟨103,0,[tv (.bool (aC (k))),.t (sU false (dg 4294967296 (k).natAbs))]⟩:Ob)].map some) (fun s=>s≤(dg 4294967296 (k).natAbs).length) (fun s=>(dg 4294967296 (k).natAbs).length-s) 0 (Nat.zero_le _) (aJ h0 [1] _ _ (by decide) ⟨rfl,rfl,rfl,rfl,rfl,trivial⟩ ⟨oe rfl rfl,rfl⟩) ?_
 rintro i hi;refine sq ?_;refine rl ?_;refine o1 ?_;refine nl ?_;refine sq ?_;refine bU rfl (fun h2=>?_) (fun h2=>?_)
 ·refine sk ?_;refine sq ?_;refine bl ?_;refine sq ?_;refine rl ?_;refine o1 ?_;refine o1 ?_
  refine iT ([.v (.int .u32 ((nth (dg 4294967296 (k).natAbs) (i):Nat):Int))]) (iD (dg 4294967296 (k).natAbs) (k:=i) (by omega)) ?_
  refine o1 ?_;refine o1 ?_;refine nl ?_;have hxi:=hX.nth (by omega) i
  refine rl ?_;(iterate 3 refine o1 ?_);refine WL.cast (t:=26) (u':=.int .u64 ((nth (dg 4294967296 (k).natAbs) (i):Nat):Int)) rfl (aH (by omega)) ?_
  refine o1 ?_;refine o1 ?_;refine WL.cast (t:=28) (u':=.int .i64 ((32*i:Nat):Int)) rfl (aH (by omega)) ?_
  refine o1 ?_;refine WL.cast (t:=29) (u':=.int .u64 (((nth (dg 4294967296 (k).natAbs) (i)*4294967296^i):Nat):Int)) rfl (aH (Yo (by omega) (by omega))) ?_
  refine o1 ?_;refine WL.cast (t:=30) (u':=.int .u64 (((vl 4294967296 ((dg 4294967296 (k).natAbs).take (i+1))):Nat):Int)) rfl (aH (Ra hX (by omega))) ?_
  refine o1 ?_;refine nl ?_;refine rl ?_;refine o1 ?_;refine WL.cast (t:=31) (u':=.int .i64 ((i+1:Nat):Int)) rfl (aH (by omega)) ?_
  refine o1 ?_;refine nl ?_;exact⟨i+1,by omega,by omega,aJ h0 [0] _ _ (by decide) ⟨rfl,rfl,rfl,rfl,rfl,trivial⟩ ⟨oe rfl rfl,rfl⟩⟩
 refine ex ?_;refine sq ?_;refine bl ?_;refine sq ?_;have hu:vl 4294967296 ((dg 4294967296 (k).natAbs).take i)=k.natAbs:=by rw[bE _ (by omega),aZ (by omega)]
 refine rl ?_;refine o1 ?_;refine o1 ?_;refine ld ?_;refine o1 ?_;refine WL.splitb (t:=36) rfl (fun h3=>?_) (fun h3=>?_)
 ·(iterate 4 refine o1 ?_);refine nl ?_;refine bU rfl (fun h4=>?_) (fun h4=>?_)
  ·refine sq ?_;refine rl ?_;refine o1 ?_;refine DA ?_;refine DB (Up (u:=(vl 4294967296 ((dg 4294967296 (k).natAbs).take i))) (by omega)) ?_
   refine o1 ?_;refine o1 ?_;refine nl ?_;refine rt ?_;have hsg:=qP h3
   have hin:gJ k=true:=decide_eq_true (by omega)
   exact en (.inl rfl) rfl (eH (.cons (bQ _) (.cons (bQ _) .nil))) (by decide) (fun _=>⟨trivial,trivial,trivial⟩) (by rw[hin];exact congrArg (fun z:Int=>FV.tup [.one (tv (.int .i64 z)),.one (tv (.bool true))]) ((show-(((vl 4294967296 ((dg 4294967296 (k).natAbs).take i)):Nat):Int)=k by omega).trans (if_pos rfl).symm))
  refine sq ?_;refine rl ?_;refine o1 ?_;refine o1 ?_;refine ld ?_;refine WL.cast (t:=46) rfl (congrArg Value.bool h3) ?_;refine o1 ?_;refine o1 ?_;refine cW ?_;refine cW ?_
  refine o1 ?_;refine o1 ?_;refine nl ?_;refine eR rfl ?_;refine sk ?_;refine sq ?_;refine rl ?_;refine o1 ?_;refine o1 ?_;refine nl ?_;refine rt ?_;have hsg:=qP h3
  have hin:gJ k=false:=decide_eq_false (by omega)
  exact en (.inl rfl) rfl (eH (.cons (bQ _) (.cons (bQ _) .nil))) (by decide) (fun _=>⟨trivial,trivial,trivial⟩) (by rw[hin];rfl)
 refine cW ?_;refine cW ?_;refine o1 ?_;refine o1 ?_;refine nl ?_;refine eR rfl ?_;refine sq ?_;refine rl ?_;refine o1 ?_;refine o1 ?_;refine ld ?_
 refine WL.cast (t:=46) rfl (congrArg Value.bool h3) ?_;(iterate 6 refine o1 ?_);refine nl ?_;refine bU rfl (fun h5=>?_) (fun h5=>?_)
 ·refine sq ?_;refine rl ?_;refine o1 ?_;refine o1 ?_ (hC:=(by simp only[eQ];omega))
  refine WL.cast (t:=53) (u':=.int .i64 (((vl 4294967296 ((dg 4294967296 (k).natAbs).take i)):Nat):Int)) rfl (aH (by omega)) ?_
  refine o1 ?_;refine o1 ?_;refine nl ?_;refine rt ?_;have hsg:=oI h3
  have hin:gJ k=true:=decide_eq_true (by omega)
  exact en (.inl rfl) rfl (eH (.cons (bQ _) (.cons (bQ _) .nil))) (by decide) (fun _=>⟨trivial,trivial,trivial⟩) (by rw[hin];exact congrArg (fun z:Int=>FV.tup [.one (tv (.int .i64 z)),.one (tv (.bool true))]) ((show(((vl 4294967296 ((dg 4294967296 (k).natAbs).take i)):Nat):Int)=k by omega).trans (if_pos rfl).symm))
 refine sk ?_;refine sq ?_;refine rl ?_;refine o1 ?_;refine o1 ?_;refine nl ?_;refine rt ?_;have hsg:=oI h3
 have hin:gJ k=false:=decide_eq_false (by omega)
 exact en (.inl rfl) rfl (eH (.cons (bQ _) (.cons (bQ _) .nil))) (by decide) (fun _=>⟨trivial,trivial,trivial⟩) (by rw[hin];rfl)
theorem Rb {a:Zi}{k:Int}(ha:Zn a k):aL true Tryz.prog 25 [] [gF a] (aU (.tup [.one (tv (.int .i64 (if gJ k then k else 0))),.one (tv (.bool (gJ k)))])):=by
 refine cF Tryz.func25 rfl Tryz.ntmps25 rfl aA rfl fun N9 w9 c0 h0=>?_
 have hkl:=ha.len
 refine sq ?_;refine rl ?_;refine bx 0 ?_;refine o1 ?_;refine o1 ?_;refine nl ?_;refine sq ?_;refine rl ?_
 refine ca (yO (n:=(-9223372036854775808)) (by omega) (by omega)) Fu ⟨a1 rfl,rfl⟩ (kF (-9223372036854775808)) ?_
 refine ca (yO (n:=9223372036854775807) (by omega) (by omega)) Fu ⟨a1 rfl,rfl⟩ (kF 9223372036854775807) ?_
 refine al 1 ?_;refine al 2 ?_;refine st ?_;refine st ?_;refine nl ?_;refine sq ?_;refine sq ?_;refine rl ?_;refine ld ?_;refine ld ?_
 refine ca (uK ha (Zn.of (k:=(-9223372036854775808)) (Nat.le_trans (qD (by decide)) (by omega)))) Fv ⟨aB rfl,aB rfl,rfl⟩ (.one (tv (.int .i64 ((k)-((-9223372036854775808))).sign))) ?_
 refine o1 ?_;refine o1 ?_;refine WL.split (t:=14) rfl (fun h1=>?_) (fun h1=>?_)
 ·(iterate 4 refine cW ?_);refine o1 ?_;refine nl ?_;refine iC rfl ?_;refine sq ?_;refine rl ?_;refine o1 ?_;refine o1 ?_;refine nl ?_;refine rt ?_
  have hin:gJ k=false:=decide_eq_false fun h=>by have h9:=Im.1 h1;omega
  exact en (.inl rfl) rfl (eH (.cons (bQ _) (.cons (bQ _) .nil))) (by decide) (fun _=>⟨trivial,trivial,trivial⟩) (by rw[hin];rfl)
 refine ld ?_;refine ld ?_
 refine ca (uK ha (Zn.of (k:=9223372036854775807) (Nat.le_trans (qD (by decide)) (by omega)))) Fv ⟨aB rfl,aB rfl,rfl⟩ (.one (tv (.int .i64 ((k)-(9223372036854775807)).sign))) ?_
 refine o1 ?_;refine o1 ?_;refine nl ?_;refine bU rfl (fun h2=>?_) (fun h2=>?_)
 ·refine sq ?_;refine rl ?_;refine o1 ?_;refine o1 ?_;refine nl ?_;refine rt ?_;have hin:gJ k=false:=decide_eq_false fun h=>by have h9:=In.1 h2;omega
  exact en (.inl rfl) rfl (eH (.cons (bQ _) (.cons (bQ _) .nil))) (by decide) (fun _=>⟨trivial,trivial,trivial⟩) (by rw[hin];rfl)
 refine sk ?_;refine sq ?_;have hk1:¬k-(-9223372036854775808)<0:=fun h=>h1 (Im.2 h)
 have hk2:¬0<k-9223372036854775807:=fun h=>h2 (In.2 h)
 have hX:Lim 4294967296 (dg 4294967296 (k).natAbs):=aF (by omega) _
 have hvX:vl 4294967296 (dg 4294967296 (k).natAbs)=k.natAbs:=aZ (by omega) _
 refine rl ?_;refine ld ?_;refine ca (dV ha) jG ⟨aB rfl,rfl⟩ (kF (k)) ?_;refine st ?_;refine nl ?_;refine sq ?_;refine rl ?_;refine o1 ?_;refine nl ?_;refine sq ?_;refine sq ?_
 refine rl ?_;refine o1 ?_;refine ld ?_;(iterate 3 refine o1 ?_);refine nl ?_;refine bl ?_
 refine lp (γ:=Nat) (fun s=>cJ [(1,.one (.pt 0 0)),(6,.one (tv (.int .i64 (-((vl 4294967296 ((dg 4294967296 (k).natAbs).drop s)):Int))))),(7,.one (tv (.int .i64 (((s:Nat):Int)-1))))]) (fun s=>[(⟨47,0,[tv (.bool (aC (k))),.t (sU false (dg 4294967296 (k).natAbs))]⟩:Ob)].map some) (fun s=>s≤(dg 4294967296 (k).natAbs).length) (fun s=>s) ((dg 4294967296 (k).natAbs).length) (Nat.le_refl _) (aJ h0 [0] _ _ (by decide) ⟨rfl,uJ (by rw[List.drop_length];rfl),rfl,trivial⟩ ⟨oe rfl rfl,rfl⟩) ?_
 rintro i hi;refine sq ?_;refine sq ?_;refine rl ?_;refine o1 ?_;refine o1 ?_;refine nl ?_;refine bU rfl (fun h3=>?_) (fun h3=>?_)
 ·refine sk ?_;refine sq ?_;refine bl ?_;have hds:=fM 4294967296 (l:=(dg 4294967296 (k).natAbs)) (k:=i) (by omega) hi
  have hle:=Fw (B:=4294967296) (l:=(dg 4294967296 (k).natAbs)) (k:=i-1) (by omega) (by omega)
  have hxi:=hX.nth (by omega) (i-1)
  refine rl ?_;(iterate 3 refine o1 ?_);refine ld ?_;refine o1 ?_;refine WL.cast (t:=34) (u':=.int .i64 ((i-1:Nat):Int)) rfl (aH (by omega)) ?_
  refine o1 ?_;refine iT ([.v (.int .u32 ((nth (dg 4294967296 (k).natAbs) (i-1):Nat):Int))]) (iD (dg 4294967296 (k).natAbs) (k:=i-1) (by omega)) ?_
  refine o1 ?_;refine WL.cast (t:=37) (u':=.int .i64 ((nth (dg 4294967296 (k).natAbs) (i-1):Nat):Int)) rfl (aH (by omega)) ?_
  refine o1 ?_;refine WL.cast (t:=38) (u':=.int .i64 (-((vl 4294967296 ((dg 4294967296 (k).natAbs).drop (i-1)):Nat):Int))) rfl (aH (by omega)) ?_
  refine o1 ?_;refine nl ?_;refine rl ?_;(iterate 3 refine o1 ?_);refine nl ?_
  exact⟨i-1,by omega,by omega,aJ h0 [0] _ _ (by decide) ⟨rfl,rfl,uJ (by omega),trivial⟩ ⟨oe rfl rfl,rfl⟩⟩
 refine ex ?_;refine sq ?_;refine sq ?_;have hi0:i=0:=by omega
 have hu:vl 4294967296 ((dg 4294967296 (k).natAbs).drop i)=k.natAbs:=by rw[hi0,List.drop_zero,hvX]
 refine rl ?_;refine o1 ?_;refine ld ?_;refine nl ?_;refine jS rfl (fun h4=>?_) (fun h4=>?_)
 ·refine sq ?_;refine rl ?_;(iterate 3 refine o1 ?_);refine nl ?_;refine rt ?_;have hsg:=qP h4
  have hin:gJ k=true:=decide_eq_true (by omega)
  exact en (.inl rfl) rfl (eH (.cons (bQ _) (.cons (bQ _) .nil))) (by decide) (fun _=>⟨trivial,trivial,trivial⟩) (by rw[hin];exact congrArg (fun z:Int=>FV.tup [.one (tv (.int .i64 z)),.one (tv (.bool true))]) ((show-(((vl 4294967296 ((dg 4294967296 (k).natAbs).drop i)):Nat):Int)=k by omega).trans (if_pos rfl).symm))
 refine sk ?_;refine sq ?_;have hsg0:=oI h4
 refine rl ?_;refine o1 ?_;refine o1 ?_;refine WL.cast (t:=43) (u':=.int .i64 ((((vl 4294967296 ((dg 4294967296 (k).natAbs).drop i)):Nat):Int))) rfl (aH (by omega)) ?_
 refine o1 ?_;refine o1 ?_;refine nl ?_;refine rt ?_;have hsg:=oI h4
 have hin:gJ k=true:=decide_eq_true (by omega)
 exact en (.inl rfl) rfl (eH (.cons (bQ _) (.cons (bQ _) .nil))) (by decide) (fun _=>⟨trivial,trivial,trivial⟩) (by rw[hin];exact congrArg (fun z:Int=>FV.tup [.one (tv (.int .i64 z)),.one (tv (.bool true))]) ((show(((vl 4294967296 ((dg 4294967296 (k).natAbs).drop i)):Nat):Int)=k by omega).trans (if_pos rfl).symm))
theorem Uq {a:Zi}{k:Int}(ha:Zn a k) (hs:(dg 4294967296 k.natAbs).length≤1000000):aL true Tryz.prog 30 [] [gF a] (aU (.one (tv (.string (aW (fN k)))))):=by
 refine cF Tryz.func30 rfl Tryz.ntmps30 rfl aA rfl fun N9 w9 c0 h0=>?_
 have hdl:=Mp hs
 refine sq ?_;refine rl ?_;refine bx 0 ?_;refine o1 ?_;refine nl ?_;refine sq ?_;refine rl ?_;refine ld ?_;refine ca (dV ha) jG ⟨aB rfl,rfl⟩ (kF (k)) ?_;refine st ?_;refine nl ?_
 refine sq ?_;refine rl ?_;refine o1 ?_;refine nl ?_;refine sq ?_;refine rl ?_;refine o1 ?_;refine ld ?_;refine o1 ?_;refine nl ?_;refine sq ?_;refine bl ?_
 refine lp (γ:=List Nat×Nat) (fun s=>cJ [(1,.one (.pt 0 0)),(3,.one (tv (.string (aW ((cX s.1).reverse))))),(4,.one (.t (sU false (dg 4294967296 s.2))))]) (fun s=>[(⟨47,0,[tv (.bool (aC (k))),.t (sU false (dg 4294967296 (k).natAbs))]⟩:Ob)].map some) (fun s=>Lim 10 s.1∧s.1++dg 10 s.2=dg 10 (k).natAbs∧s.2≤(k).natAbs) (fun s=>s.2) ([],(k).natAbs) ⟨Lim.nil,rfl,Nat.le_refl _⟩ (aJ h0 [0] _ _ (by decide) ⟨rfl,rfl,rfl,trivial⟩ ⟨oe rfl rfl,rfl⟩) ?_
 rintro⟨ds,u⟩ ⟨hd,hv,hu⟩;dsimp only at hd hv hu⊢;have hul:=iE hu
 have hdl2:=congrArg List.length hv
 rw[List.length_append]at hdl2;refine sq ?_;refine sq ?_;refine rl ?_;(iterate 3 refine o1 ?_);refine nl ?_;refine bU rfl (fun h1=>?_) (fun h1=>?_)
 ·refine sk ?_;refine bl ?_;refine sq ?_;have hup:=uL (B:=4294967296) (u:=u) (by omega)
  have hdp:=qL (B:=10) (n:=u) (by omega) (by omega)
  refine rl ?_;refine o1 ?_
  refine ca (Qy (u:=u) (d:=10) (by omega) (by omega) (by omega)) BB ⟨a1 rfl,a1 rfl,rfl⟩ (.tup [.one (.t (sU false (dg 4294967296 (u/10)))),.one (tv (.int .u32 ((u%10:Nat):Int))),.one (tv (.int .i64 0))]) ?_
  (iterate 7 refine o1 ?_);refine nl ?_;refine sq ?_;refine rl ?_;refine o1 ?_;refine o1 ?_;refine WL.cast (t:=22) (u':=.int .u32 ((48+(u%10):Nat):Int)) rfl (aH (by omega)) ?_
  refine o1 ?_;refine WL.cast (t:=23) (u':=.int .u8 ((48+(u%10):Nat):Int)) rfl (aH (by omega)) ?_
  refine bs 1 ?_;refine AT (xs:=[48+(u%10)]) (Io rfl rfl) rfl ?_;refine o1 ?_
  refine o1 ?_ (hC:=(by rw[bL,bL,List.length_reverse,eV];show 1+ds.length≤_;omega))
  refine WL.cast (t:=27) (u':=.string (aW ((cX (ds++[u%10])).reverse))) rfl (congrArg Value.string ((uM _ _).trans (congrArg aW (by simp[cX])))) ?_
  refine o1 ?_;refine nl ?_;refine rl ?_;refine o1 ?_;refine o1 ?_;refine nl ?_
  exact⟨(ds++[u%10],u/10),by dsimp only;omega,⟨hd.append (Lim.cons (Nat.mod_lt _ (by omega)) Lim.nil),(by dsimp only;rw[List.append_assoc,←hv,hdp];rfl),(by dsimp only;omega)⟩,aJ h0 [0] _ _ (by decide) ⟨rfl,rfl,rfl,trivial⟩ ⟨oe rfl rfl,rfl⟩⟩
 refine ex ?_;refine sq ?_;refine sq ?_;have hu0:u=0:=(dH (B:=4294967296) (by omega)).1 (List.eq_nil_of_length_eq_zero (by omega))
 rw[hu0,fV,List.append_nil]at hv;refine rl ?_;refine o1 ?_;refine o1 ?_
 refine WL.cast (t:=30) (u':=.bool (decide ((cX ds).reverse=[]))) rfl (congrArg Value.bool (lH (rT (rU hd)))) ?_;refine nl ?_;refine jS rfl (fun h2=>?_) (fun h2=>?_)
 ·refine sq ?_;refine rl ?_;refine o1 ?_;refine nl ?_;refine rt ?_;have hk0:k=0:=by
   have h9:=congrArg List.length (of_decide_eq_true h2)
   rw[List.length_reverse,eV,hv,List.length_nil]at h9;have h8:=(dH (B:=10) (by omega)).1 (List.eq_nil_of_length_eq_zero h9)
   omega
  subst hk0;exact en (.inl rfl) rfl (bZ (bQ _)) (by decide) (fun _=>trivial) (congrArg (fun z=>FV.one (tv (.string z))) (rfl))
 refine sk ?_;refine sq ?_;refine sq ?_;refine rl ?_;refine o1 ?_;refine ld ?_;refine nl ?_;refine jS rfl (fun h3=>?_) (fun h3=>?_)
 ·refine sq ?_;refine rl ?_;refine o1 ?_;refine o1 ?_ (hC:=(by rw[bL,List.length_reverse,eV];show 1+ds.length≤_;omega))
  refine WL.cast (t:=34) (u':=.string (aW (45::(cX ds).reverse))) rfl (congrArg Value.string (uM [45] _)) ?_;refine o1 ?_;refine nl ?_;refine rt ?_
  have hk0:(k).natAbs≠0:=fun h9=>by
   rw[h9,fV]at hv;rw[hv]at h2;simp[cX]at h2
  have ht:tx (k).natAbs=(cX ds).reverse:=by unfold tx;rw[if_neg hk0,hv]
  exact en (.inl rfl) rfl (bZ (bQ _)) (by decide) (fun _=>trivial) (congrArg (fun z=>FV.one (tv (.string z))) (congrArg aW (by unfold fN;rw[if_pos (qP h3),ht])))
 refine sk ?_;refine sq ?_;refine rl ?_;refine o1 ?_;refine o1 ?_;refine nl ?_;refine rt ?_;have hk0:(k).natAbs≠0:=fun h9=>by
  rw[h9,fV]at hv;rw[hv]at h2;simp[cX]at h2
 have ht:tx (k).natAbs=(cX ds).reverse:=by unfold tx;rw[if_neg hk0,hv]
 exact en (.inl rfl) rfl (bZ (bQ _)) (by decide) (fun _=>trivial) (congrArg (fun z=>FV.one (tv (.string z))) (congrArg aW (by unfold fN;rw[if_neg (oI h3),ht])))
theorem Mq {l:List Nat}(hl:Lim 256 l) (hn:l.length≤1000000):aL true Tryz.prog 23 [] [.one (tv (.string (aW l)))] (aU (.tup [kO (eF l),.one (tv (.int .i64 (fA l)))])):=by
 refine cF Tryz.func23 rfl Tryz.ntmps23 rfl aA rfl fun N9 w9 c0 h0=>?_
 have hL:=Df hl
 have hnL:=Nat.le_trans (Dg (l:=l)) hn
 refine sq ?_;refine rl ?_;refine al 0 ?_;refine o1 ?_;refine nl ?_
 refine md (γ:=Unit) (fun _=>cJ [(0,.one (tv (.string (aW l)))),(2,.one (.pt 0 0)),(4,.one (tv (.bool (decide (l.take 1=[45])))))]) (fun _=>([⟨47,0,[tv (.bool false),tv (.slice none 0 0)]⟩]:List Ob).map some) (fun _=>True) ?_ fun _ _=>?_
 ·refine rl ?_;refine o1 ?_;refine o1 ?_;refine WL.cast (t:=9) (u':=.int .i64 ((l.length:Nat):Int)) rfl (congrArg (fun n:Nat=>Value.int .i64 (n:Int)) (bL _)) ?_
  refine o1 ?_;refine o1 ?_;refine WL.split (t:=11) rfl (fun h1=>?_) (fun h1=>?_)
  ·refine o1 ?_;refine o1 ?_ (hC:=(by rw[bL];show 0<l.length;omega))
   refine WL.cast (t:=13) (u':=.int .u8 (((nth l 0):Nat):Int)) rfl (congrArg (fun n:Nat=>Value.int .u8 (n:Int)) (jD (i:=0) (by omega) (jK hl (by omega)))) ?_
   (iterate 3 refine o1 ?_);refine nl ?_;exact⟨(),trivial,aJ h0 [0] _ _ (by decide) ⟨rfl,rfl,Ip (Rc (l:=l) (by omega)).symm,trivial⟩ ⟨oe rfl rfl,rfl⟩⟩
  (iterate 3 refine cW ?_);refine o1 ?_;refine o1 ?_;refine nl ?_;exact⟨(),trivial,aJ h0 [0] _ _ (by decide) ⟨rfl,rfl,Ip (Mr (l:=l) (by omega)).symm,trivial⟩ ⟨oe rfl rfl,rfl⟩⟩
 refine md (γ:=Unit) (fun _=>cJ [(2,.one (.pt 0 0)),(4,.one (tv (.bool (decide (l.take 1=[45]))))),(0,.one (tv (.string (aW (bG l)))))]) (fun _=>([⟨47,0,[tv (.bool false),tv (.slice none 0 0)]⟩]:List Ob).map some) (fun _=>True) ?_ fun _ _=>?_
 ·refine sq ?_;refine rl ?_;refine o1 ?_;refine nl ?_;refine jS rfl (fun h2=>?_) (fun h2=>?_)
  ·refine rl ?_;refine o1 ?_;refine o1 ?_ (hC:=(by rw[bL];show 1≤l.length;exact Dh (of_decide_eq_true h2)))
   refine WL.cast (t:=18) (u':=.string (aW (bG l))) rfl (congrArg Value.string ((kR _ _).trans (Yp h2))) ?_;refine o1 ?_;refine nl ?_
   exact⟨(),trivial,aJ h0 [0] _ _ (by decide) ⟨rfl,rfl,rfl,trivial⟩ ⟨oe rfl rfl,rfl⟩⟩
  refine sk ?_;exact⟨(),trivial,aJ h0 [0] _ _ (by decide) ⟨rfl,rfl,(congrArg (fun b=>some (FV.one (tv (.string b)))) (Yq h2).symm),trivial⟩ ⟨oe rfl rfl,rfl⟩⟩
 refine sq ?_
 refine md (γ:=Unit) (fun _=>cJ [(0,.one (tv (.string (aW (bG l))))),(2,.one (.pt 0 0)),(4,.one (tv (.bool (decide (l.take 1=[45]))))),(30,.one (tv (.bool (mQ (bG l)))))]) (fun _=>([⟨47,0,[tv (.bool false),tv (.slice none 0 0)]⟩]:List Ob).map some) (fun _=>True) ?_ fun _ _=>?_
 ·refine rl ?_;refine o1 ?_;refine o1 ?_;refine WL.cast (t:=20) (u':=.bool (decide ((bG l)=[]))) rfl (congrArg Value.bool (lH hL)) ?_;refine o1 ?_
  refine WL.splitb (t:=21) rfl (fun h3=>?_) (fun h3=>?_)
  ·(iterate 8 refine cW ?_);refine o1 ?_;refine nl ?_;exact⟨(),trivial,aJ h0 [0] _ _ (by decide) ⟨rfl,rfl,rfl,Ip (Ur h3).symm,trivial⟩ ⟨oe rfl rfl,rfl⟩⟩
  refine o1 ?_;have hp9:=Di h3
  refine o1 ?_ (hC:=(by rw[bL];show 0<(bG l).length;omega))
  refine WL.cast (t:=23) (u':=.int .u8 (((nth (bG l) 0):Nat):Int)) rfl (congrArg (fun n:Nat=>Value.int .u8 (n:Int)) (jD (i:=0) (by omega) (jK hL (by omega)))) ?_
  refine o1 ?_;refine o1 ?_;refine WL.split (t:=25) rfl (fun h4=>?_) (fun h4=>?_)
  ·refine o1 ?_;refine o1 ?_;refine WL.cast (t:=27) (u':=.int .i64 (((bG l).length:Nat):Int)) rfl (congrArg (fun n:Nat=>Value.int .i64 (n:Int)) (bL _)) ?_
   (iterate 3 refine o1 ?_);refine nl ?_;exact⟨(),trivial,aJ h0 [0] _ _ (by decide) ⟨rfl,rfl,rfl,Ip (Us h3 (by omega)).symm,trivial⟩ ⟨oe rfl rfl,rfl⟩⟩
  (iterate 3 refine cW ?_);refine o1 ?_;refine o1 ?_;refine nl ?_;exact⟨(),trivial,aJ h0 [0] _ _ (by decide) ⟨rfl,rfl,rfl,Ip (Ut h3 (by omega)).symm,trivial⟩ ⟨oe rfl rfl,rfl⟩⟩
 refine jS rfl (fun h5=>?_) (fun h5=>?_)
 ·refine sq ?_;refine rl ?_;refine o1 ?_;refine st ?_;refine o1 ?_;refine nl ?_;refine rt ?_;have he:=nK (Uu h5)
  have hE:fA l=60:=by rw[fA,he,if_neg (by decide)]
  have hV:eF l=0:=if_neg (by rw[hE];decide)
  exact en (.inl rfl) rfl (eH (.cons (.agg (.cons (.id rfl) (.cons (.nil (t:=22) (z:=1)) .nil))) (.cons (bQ _) .nil))) (by decide) (fun _=>⟨cG 0,trivial,trivial⟩) (by rw[hE,hV];rfl)
 refine sk ?_;refine sq ?_;refine rl ?_;refine o1 ?_;refine nl ?_;refine sq ?_;refine sq ?_;refine rl ?_;refine o1 ?_;refine nl ?_;refine bl ?_
 refine lp (γ:=Nat) (fun k=>cJ [(0,.one (tv (.string (aW (bG l))))),(2,.one (.pt 0 0)),(4,.one (tv (.bool (decide (l.take 1=[45]))))),(5,.one (tv (.slice none 0 0))),(6,.one (tv (.int .i64 ((k:Nat):Int))))]) (fun k=>[(⟨47,0,[tv (.bool false),tv (.slice none 0 0)]⟩:Ob)].map some) (fun k=>k≤(bG l).length∧∀c∈(bG l).take k,48≤c∧c≤57) (fun k=>(bG l).length-k) 0 ⟨Nat.zero_le _,(by simp)⟩ (aJ h0 [0] _ _ (by decide) ⟨rfl,rfl,rfl,rfl,rfl,trivial⟩ ⟨oe rfl rfl,rfl⟩) fun k hk=>?_
 refine sq ?_;refine sq ?_;refine rl ?_;(iterate 3 refine o1 ?_)
 refine WL.cast (t:=34) (u':=.int .i64 (((bG l).length:Nat):Int)) rfl (congrArg (fun n:Nat=>Value.int .i64 (n:Int)) (bL _)) ?_
 refine o1 ?_;refine nl ?_;refine bU rfl (fun h6=>?_) (fun h6=>?_)
 ·refine sk ?_;refine sq ?_;refine bl ?_;refine sq ?_;refine rl ?_;refine o1 ?_;refine o1 ?_;refine o1 ?_ (hC:=(by rw[bL];omega))
  refine WL.cast (t:=40) (u':=.int .u8 (((nth (bG l) k):Nat):Int)) rfl (congrArg (fun n:Nat=>Value.int .u8 (n:Int)) (jD (i:=k) (by omega) (jK hL (by omega)))) ?_
  refine o1 ?_;refine o1 ?_;refine WL.split (t:=42) rfl (fun h7=>?_) (fun h7=>?_)
  ·(iterate 4 refine cW ?_);refine o1 ?_;refine nl ?_;refine iC rfl ?_;refine sq ?_;refine rl ?_;refine o1 ?_;refine st ?_;refine o1 ?_;refine nl ?_;refine rt ?_
   have he:=nK (uN (Uv (l:=(bG l)) (k:=k) (by omega) (by omega)))
   have hE:fA l=60:=by rw[fA,he,if_neg (by decide)]
   have hV:eF l=0:=if_neg (by rw[hE];decide)
   exact en (.inl rfl) rfl (eH (.cons (.agg (.cons (.id rfl) (.cons (.nil (t:=22) (z:=1)) .nil))) (.cons (bQ _) .nil))) (by decide) (fun _=>⟨cG 0,trivial,trivial⟩) (by rw[hE,hV];rfl)
  refine o1 ?_;refine o1 ?_;refine o1 ?_ (hC:=(by rw[bL];omega))
  refine WL.cast (t:=45) (u':=.int .u8 (((nth (bG l) k):Nat):Int)) rfl (congrArg (fun n:Nat=>Value.int .u8 (n:Int)) (jD (i:=k) (by omega) (jK hL (by omega)))) ?_
  refine o1 ?_;refine o1 ?_;refine nl ?_;refine bU rfl (fun h8=>?_) (fun h8=>?_)
  ·refine sq ?_;refine rl ?_;refine o1 ?_;refine st ?_;refine o1 ?_;refine nl ?_;refine rt ?_;have he:=nK (uN (Uv (l:=(bG l)) (k:=k) (by omega) (by omega)))
   have hE:fA l=60:=by rw[fA,he,if_neg (by decide)]
   have hV:eF l=0:=if_neg (by rw[hE];decide)
   exact en (.inl rfl) rfl (eH (.cons (.agg (.cons (.id rfl) (.cons (.nil (t:=22) (z:=1)) .nil))) (.cons (bQ _) .nil))) (by decide) (fun _=>⟨cG 0,trivial,trivial⟩) (by rw[hE,hV];rfl)
  refine sk ?_;refine rl ?_;refine o1 ?_;refine o1 ?_;refine WL.cast (t:=37) (u':=.int .i64 ((k+1:Nat):Int)) rfl (aH (by omega)) ?_
  refine o1 ?_;refine nl ?_;exact⟨k+1,by omega,⟨by omega,Yr (by omega) hk.2 ⟨by omega,by omega⟩⟩,aJ h0 [0] _ _ (by decide) ⟨rfl,rfl,rfl,rfl,rfl,trivial⟩ ⟨oe rfl rfl,rfl⟩⟩
 refine ex ?_;refine sq ?_;refine sq ?_;have hk9:(bG l).length≤k:=by omega
 have hdg:∀c∈(bG l),48≤c∧c≤57:=by have:=hk.2;rwa[List.take_of_length_le hk9]at this
 have hgd:=Uw h5 (Iq hdg)
 refine rl ?_;refine o1 ?_;refine o1 ?_;refine WL.cast (t:=50) (u':=.int .i64 (((bG l).length:Nat):Int)) rfl (congrArg (fun n:Nat=>Value.int .i64 (n:Int)) (bL _)) ?_
 refine o1 ?_;refine nl ?_;refine bU rfl (fun h9=>?_) (fun h9=>?_)
 ·refine sq ?_;refine rl ?_;refine o1 ?_;refine st ?_;refine o1 ?_;refine nl ?_;refine rt ?_;have he:=Ms hgd (by omega)
  have hE:fA l=3:=by rw[fA,he,if_neg (by decide)]
  have hV:eF l=0:=if_neg (by rw[hE];decide)
  exact en (.inl rfl) rfl (eH (.cons (.agg (.cons (.id rfl) (.cons (.nil (t:=22) (z:=1)) .nil))) (.cons (bQ _) .nil))) (by decide) (fun _=>⟨cG 0,trivial,trivial⟩) (by rw[hE,hV];rfl)
 refine sk ?_;refine sq ?_;refine sq ?_;refine rl ?_;refine o1 ?_;refine o1 ?_;refine WL.splitb (t:=54) rfl (fun h10=>?_) (fun h10=>?_)
 ·refine o1 ?_;refine o1 ?_;refine WL.cast (t:=56) (u':=.bool (decide ((bG l)=[48]))) rfl (congrArg Value.bool (uO (l':=[48]) hL (Lim.cons (by omega) Lim.nil))) ?_
  refine o1 ?_;refine nl ?_;refine jS rfl (fun h11=>?_) (fun h11=>?_)
  ·refine sq ?_;refine rl ?_;refine o1 ?_;refine st ?_;refine o1 ?_;refine nl ?_;refine rt ?_;have he0:iF (bG l)=0:=tE hgd (by omega)
   have hE:fA l=2:=by rw[fA,if_pos he0,if_pos ⟨of_decide_eq_true h10,(zL hgd).2 (of_decide_eq_true h11)⟩]
   have hV:eF l=0:=if_neg (by rw[hE];decide)
   exact en (.inl rfl) rfl (eH (.cons (.agg (.cons (.id rfl) (.cons (.nil (t:=22) (z:=1)) .nil))) (.cons (bQ _) .nil))) (by decide) (fun _=>⟨cG 0,trivial,trivial⟩) (by rw[hE,hV];rfl)
  refine sk ?_;refine sq ?_;refine sq ?_;refine rl ?_;refine o1 ?_;refine nl ?_;refine bl ?_
  refine lp (γ:=Nat) (fun s=>cJ [(0,.one (tv (.string (aW (bG l))))),(2,.one (.pt 0 0)),(4,.one (tv (.bool (decide (l.take 1=[45]))))),(5,.one (.t (sU false (dg 4294967296 ((bM ((bG l).take s))))))),(7,.one (tv (.int .i64 ((s:Nat):Int))))]) (fun s=>[(⟨47,0,[tv (.bool false),tv (.slice none 0 0)]⟩:Ob)].map some) (fun s=>s≤(bG l).length) (fun s=>(bG l).length-s) 0 (Nat.zero_le _) (((nr (i:=5) 1 22 1 rfl rfl rfl rfl).trans (Ir (i:=5) (zs:=[]) (zs':=[]) rfl rfl rfl rfl rfl)).trans (aJ h0 [0] _ _ (by decide) ⟨rfl,rfl,rfl,rfl,rfl,trivial⟩ ⟨oe rfl rfl,rfl⟩)) ?_
  rintro k hk2;have hl1:=kS hdg hk2
  have hl2:=gV (bM ((bG l).take k)) 10
  have hl3:(dg 4294967296 10).length≤1:=bC (by omega) (by decide)
  refine sq ?_;refine sq ?_;refine rl ?_;(iterate 3 refine o1 ?_)
  refine WL.cast (t:=61) (u':=.int .i64 (((bG l).length:Nat):Int)) rfl (congrArg (fun n:Nat=>Value.int .i64 (n:Int)) (bL _)) ?_
  refine o1 ?_;refine nl ?_;refine bU rfl (fun h12=>?_) (fun h12=>?_)
  ·refine sk ?_;refine sq ?_;refine bl ?_;have hdk:=uP hdg (k:=k) (by omega)
   refine rd [0] (fun i=>[9].contains i) mixed ?_
   refine dv 0 ?_;refine dv 2 ?_;refine dv 3 ?_;refine dv 4 ?_ (hC:=(by rw[bL];omega))
   refine WD.cast (t:=69) (u':=.int .u8 (((nth (bG l) k):Nat):Int)) rfl (congrArg (fun n:Nat=>Value.int .u8 (n:Int)) (jD (i:=k) (by omega) (jK hL (by omega)))) ?_
   refine dv 5 ?_;refine WD.cast (t:=70) (u':=.int .u8 (((nth (bG l) k)-48:Nat):Int)) rfl (aH (by omega)) ?_
   refine dv 6 ?_;refine WD.cast (t:=71) (u':=.int .u32 (((nth (bG l) k)-48:Nat):Int)) rfl (aH (by omega)) ?_
   refine WO.two (i:=1) (j:=7) (by kernel_rfl) ?_ ?_
   ·refine cP 1 rfl (rR (u:=(bM ((bG l).take k))) (m:=10) (by omega) (by omega)) Fx ⟨a1 rfl,a1 rfl,rfl⟩ (.one (.t (sU false (dg 4294967296 ((bM ((bG l).take k))*10))))) ?_
    refine qQ (key:=1) 7 (by kernel_rfl) rfl rfl aA rfl ⟨rfl,trivial⟩ ?_
    refine aD 8 rfl (rS (u:=(bM ((bG l).take k))*10) (x:=nth (bG l) k-48) (by omega) (by omega)) zM ⟨a1 rfl,lI rfl (.sl (trs:=aM [nth (bG l) k-48]) rfl rfl rfl rfl),rfl⟩ (.one (.t (sU false (dg 4294967296 ((bM ((bG l).take k))*10+(nth (bG l) k-48)))))) ?_
    refine gR 9 (by kernel_rfl) rfl rfl aA rfl (by trivial) ?_ (fun h=>by first | rfl | cases h)
    refine aP ?_;refine rl ?_;refine o1 ?_;refine o1 ?_;refine WL.cast (t:=64) (u':=.int .i64 ((k+1:Nat):Int)) rfl (aH (by omega)) ?_
    refine o1 ?_;refine nl ?_
    exact⟨k+1,by omega,by omega,aJ h0 [0] _ _ (by decide) ⟨rfl,rfl,rfl,(congrArg (fun z:Nat=>some (FV.one (.t (sU false (dg 4294967296 z))))) (yP (l:=bG l) (k:=k) (by omega)).symm),rfl,trivial⟩ ⟨oe rfl rfl,rfl⟩⟩
   refine Ux (key:=1) 7 rfl rfl ⟨rfl,trivial⟩ ?_
   refine aD 1 rfl (rR (u:=(bM ((bG l).take k))) (m:=10) (by omega) (by omega)) Fx ⟨a1 rfl,a1 rfl,rfl⟩ (.one (.t (sU false (dg 4294967296 ((bM ((bG l).take k))*10))))) ?_
   refine aD 8 rfl (rS (u:=(bM ((bG l).take k))*10) (x:=nth (bG l) k-48) (by omega) (by omega)) zM ⟨a1 rfl,lI rfl (.sl (trs:=aM [nth (bG l) k-48]) rfl rfl rfl rfl),rfl⟩ (.one (.t (sU false (dg 4294967296 ((bM ((bG l).take k))*10+(nth (bG l) k-48)))))) ?_
   refine gR 9 (by kernel_rfl) rfl rfl aA rfl (by trivial) ?_ (fun h=>by first | rfl | cases h)
   refine aP ?_;refine rl ?_;refine o1 ?_;refine o1 ?_;refine WL.cast (t:=64) (u':=.int .i64 ((k+1:Nat):Int)) rfl (aH (by omega)) ?_
   refine o1 ?_;refine nl ?_
   exact⟨k+1,by omega,by omega,aJ h0 [0] _ _ (by decide) ⟨rfl,rfl,rfl,(congrArg (fun z:Nat=>some (FV.one (.t (sU false (dg 4294967296 z))))) (yP (l:=bG l) (k:=k) (by omega)).symm),rfl,trivial⟩ ⟨oe rfl rfl,rfl⟩⟩
  refine ex ?_;refine sq ?_;have hkk:(bG l).take k=(bG l):=List.take_of_length_le (by omega)
  have he0:iF (bG l)=0:=tE hgd (by omega)
  have hE:fA l=0:=by rw[fA,if_pos he0,if_neg];rintro⟨_,h9⟩;exact of_decide_eq_false h11 ((zL hgd).1 h9)
  have hK:bH (decide (l.take 1=[45])) (vl 4294967296 (dg 4294967296 ((bM ((bG l).take k)))))=eF l:=by rw[aZ (by omega),hkk,eF,if_pos hE,if_pos (of_decide_eq_true h10),h10];rfl
  refine rl ?_;refine o1 ?_;refine o1 ?_
  refine hH 1 (fX (b:=(decide (l.take 1=[45]))) (xs:=(dg 4294967296 ((bM ((bG l).take k))))) (K:=eF l) (by omega) (aF (by omega) _) hK) cN ⟨a1 rfl,a1 rfl,rfl⟩ ?_
  refine st ?_;refine o1 ?_;refine nl ?_;refine rt ?_
  exact en (.inl rfl) rfl (eH (.cons (.agg (.cons (.id rfl) (.cons (.sl (trs:=aM (dg 4294967296 ((eF l)).natAbs)) rfl rfl (bP _) (bK _)) .nil))) (.cons (bQ _) .nil))) (by decide) (fun _=>⟨cG (eF l),trivial,trivial⟩) (by rw[hE];rfl)
 refine cW ?_;refine cW ?_;refine o1 ?_;refine nl ?_;refine eR rfl ?_;refine sk ?_;refine sq ?_;refine sq ?_;refine rl ?_;refine o1 ?_;refine nl ?_;refine bl ?_
 refine lp (γ:=Nat) (fun s=>cJ [(0,.one (tv (.string (aW (bG l))))),(2,.one (.pt 0 0)),(4,.one (tv (.bool (decide (l.take 1=[45]))))),(5,.one (.t (sU false (dg 4294967296 ((bM ((bG l).take s))))))),(7,.one (tv (.int .i64 ((s:Nat):Int))))]) (fun s=>[(⟨47,0,[tv (.bool false),tv (.slice none 0 0)]⟩:Ob)].map some) (fun s=>s≤(bG l).length) (fun s=>(bG l).length-s) 0 (Nat.zero_le _) (((nr (i:=5) 1 22 1 rfl rfl rfl rfl).trans (Ir (i:=5) (zs:=[]) (zs':=[]) rfl rfl rfl rfl rfl)).trans (aJ h0 [0] _ _ (by decide) ⟨rfl,rfl,rfl,rfl,rfl,trivial⟩ ⟨oe rfl rfl,rfl⟩)) ?_
 rintro k hk2;have hl1:=kS hdg hk2
 have hl2:=gV (bM ((bG l).take k)) 10
 have hl3:(dg 4294967296 10).length≤1:=bC (by omega) (by decide)
 refine sq ?_;refine sq ?_;refine rl ?_;(iterate 3 refine o1 ?_)
 refine WL.cast (t:=61) (u':=.int .i64 (((bG l).length:Nat):Int)) rfl (congrArg (fun n:Nat=>Value.int .i64 (n:Int)) (bL _)) ?_
 refine o1 ?_;refine nl ?_;refine bU rfl (fun h13=>?_) (fun h13=>?_)
 ·refine sk ?_;refine sq ?_;refine bl ?_;have hdk:=uP hdg (k:=k) (by omega)
  refine rd [0] (fun i=>[9].contains i) mixed ?_
  refine dv 0 ?_;refine dv 2 ?_;refine dv 3 ?_;refine dv 4 ?_ (hC:=(by rw[bL];omega))
  refine WD.cast (t:=69) (u':=.int .u8 (((nth (bG l) k):Nat):Int)) rfl (congrArg (fun n:Nat=>Value.int .u8 (n:Int)) (jD (i:=k) (by omega) (jK hL (by omega)))) ?_
  refine dv 5 ?_;refine WD.cast (t:=70) (u':=.int .u8 (((nth (bG l) k)-48:Nat):Int)) rfl (aH (by omega)) ?_
  refine dv 6 ?_;refine WD.cast (t:=71) (u':=.int .u32 (((nth (bG l) k)-48:Nat):Int)) rfl (aH (by omega)) ?_
  refine WO.two (i:=1) (j:=7) (by kernel_rfl) ?_ ?_
  ·refine cP 1 rfl (rR (u:=(bM ((bG l).take k))) (m:=10) (by omega) (by omega)) Fx ⟨a1 rfl,a1 rfl,rfl⟩ (.one (.t (sU false (dg 4294967296 ((bM ((bG l).take k))*10))))) ?_
   refine qQ (key:=1) 7 (by kernel_rfl) rfl rfl aA rfl ⟨rfl,trivial⟩ ?_
   refine aD 8 rfl (rS (u:=(bM ((bG l).take k))*10) (x:=nth (bG l) k-48) (by omega) (by omega)) zM ⟨a1 rfl,lI rfl (.sl (trs:=aM [nth (bG l) k-48]) rfl rfl rfl rfl),rfl⟩ (.one (.t (sU false (dg 4294967296 ((bM ((bG l).take k))*10+(nth (bG l) k-48)))))) ?_
   refine gR 9 (by kernel_rfl) rfl rfl aA rfl (by trivial) ?_ (fun h=>by first | rfl | cases h)
   refine aP ?_;refine rl ?_;refine o1 ?_;refine o1 ?_;refine WL.cast (t:=64) (u':=.int .i64 ((k+1:Nat):Int)) rfl (aH (by omega)) ?_
   refine o1 ?_;refine nl ?_
   exact⟨k+1,by omega,by omega,aJ h0 [0] _ _ (by decide) ⟨rfl,rfl,rfl,(congrArg (fun z:Nat=>some (FV.one (.t (sU false (dg 4294967296 z))))) (yP (l:=bG l) (k:=k) (by omega)).symm),rfl,trivial⟩ ⟨oe rfl rfl,rfl⟩⟩
  refine Ux (key:=1) 7 rfl rfl ⟨rfl,trivial⟩ ?_
  refine aD 1 rfl (rR (u:=(bM ((bG l).take k))) (m:=10) (by omega) (by omega)) Fx ⟨a1 rfl,a1 rfl,rfl⟩ (.one (.t (sU false (dg 4294967296 ((bM ((bG l).take k))*10))))) ?_
  refine aD 8 rfl (rS (u:=(bM ((bG l).take k))*10) (x:=nth (bG l) k-48) (by omega) (by omega)) zM ⟨a1 rfl,lI rfl (.sl (trs:=aM [nth (bG l) k-48]) rfl rfl rfl rfl),rfl⟩ (.one (.t (sU false (dg 4294967296 ((bM ((bG l).take k))*10+(nth (bG l) k-48)))))) ?_
  refine gR 9 (by kernel_rfl) rfl rfl aA rfl (by trivial) ?_ (fun h=>by first | rfl | cases h)
  refine aP ?_;refine rl ?_;refine o1 ?_;refine o1 ?_;refine WL.cast (t:=64) (u':=.int .i64 ((k+1:Nat):Int)) rfl (aH (by omega)) ?_
  refine o1 ?_;refine nl ?_
  exact⟨k+1,by omega,by omega,aJ h0 [0] _ _ (by decide) ⟨rfl,rfl,rfl,(congrArg (fun z:Nat=>some (FV.one (.t (sU false (dg 4294967296 z))))) (yP (l:=bG l) (k:=k) (by omega)).symm),rfl,trivial⟩ ⟨oe rfl rfl,rfl⟩⟩
 refine ex ?_;refine sq ?_;have hkk:(bG l).take k=(bG l):=List.take_of_length_le (by omega)
 have he0:iF (bG l)=0:=tE hgd (by omega)
 have hE:fA l=0:=by rw[fA,if_pos he0,if_neg (fun h=>of_decide_eq_false h10 h.1)]
 have hK:bH (decide (l.take 1=[45])) (vl 4294967296 (dg 4294967296 ((bM ((bG l).take k)))))=eF l:=by rw[aZ (by omega),hkk,eF,if_pos hE,if_neg (of_decide_eq_false h10),h10];rfl
 refine rl ?_;refine o1 ?_;refine o1 ?_
 refine hH 1 (fX (b:=(decide (l.take 1=[45]))) (xs:=(dg 4294967296 ((bM ((bG l).take k))))) (K:=eF l) (by omega) (aF (by omega) _) hK) cN ⟨a1 rfl,a1 rfl,rfl⟩ ?_
 refine st ?_;refine o1 ?_;refine nl ?_;refine rt ?_
 exact en (.inl rfl) rfl (eH (.cons (.agg (.cons (.id rfl) (.cons (.sl (trs:=aM (dg 4294967296 ((eF l)).natAbs)) rfl rfl (bP _) (bK _)) .nil))) (.cons (bQ _) .nil))) (by decide) (fun _=>⟨cG (eF l),trivial,trivial⟩) (by rw[hE];rfl)
theorem kT {a:Zi}(ha:a.x.length≤1000000):aL true Tryz.prog 28 [] [gF a,gF a] (aU (.one (tv (.bool true)))):=Fy a▸Uy ha ha
theorem Uz {a:Zi}{k:Int}(ha:Zn a k):aL true Tryz.prog 38 [] [gF a,gF a] (aU (.one (tv (.int .i64 0)))):=by
 have h:=lC ha.g ha.g (by rw[Int.sub_self];exact Nat.zero_le _)
 rw[Int.sub_self]at h
 exact h
theorem lW {k:Int}(h:k.natAbs<4294967296^4):Zn (.of k) k:=Zn.of (Nat.le_trans (qD h) (by omega))
theorem Mt {a b q r:Int}(ha:a.natAbs<4294967296^4) (hb:b.natAbs<4294967296^4) (h0:b≠0) (hq:a.fdiv b=q) (hr:a.fmod b=r):aL true Tryz.prog 33 [] [kF a,kF b] (aU (.tup [kO q,kO r,.one (tv (.int .i64 0))])):=by
 subst hq hr
 exact tF (lW ha).g (lW hb).g h0
theorem Ys {a b q:Int}(ha:a.natAbs<4294967296^4) (hb:b.natAbs<4294967296^4) (hq:a*b=q):aL true Tryz.prog 37 [] [kF a,kF b] (aU (kO q)):=by
 subst hq
 exact uQ (lW ha).g (lW hb).g
theorem Pg {a b q:Int}(ha:a.natAbs<4294967296^4) (hb:b.natAbs<4294967296^4) (hq:((Int.gcd a b:Nat):Int)=q):aL true Tryz.prog 41 [] [kF a,kF b] (aU (kO q)):=by
 subst hq
 exact uR (lW ha).g (lW hb).g
theorem Va {n k:Nat}(h:4294967296^k≤n):k<(dg 4294967296 n).length:=by
 have h1:=iM (B:=4294967296) (n:=n) (by omega)
 exact(Nat.pow_lt_pow_iff_right (a:=4294967296) (by omega)).1 (Nat.lt_of_le_of_lt h h1)
def wd:List Nat:=[6,1,6,1,5,5,9,0,7,3,7,0,4,4,7,6,4,4,8,1]
theorem Yt:dg 10 18446744073709551616=wd:=(rL (l:=wd) (by omega) (fun d hd=>by revert d;decide) (by decide)).symm.trans (by decide)
theorem Yu:fN (-18446744073709551616)=[45,49,56,52,52,54,55,52,52,48,55,51,55,48,57,53,53,49,54,49,54]:=by
 have e:(-18446744073709551616:Int).natAbs=18446744073709551616:=by decide
 unfold fN tx
 rw[if_pos (by decide),e,if_neg (by decide),Yt]
 decide
theorem Yv:((aW (fN (-18446744073709551616))).toList==(⟨#[45,49,56,52,52,54,55,52,52,48,55,51,55,48,57,53,53,49,54,49,54]⟩:ByteArray).toList)=true:=by
 rw[Yu]
 exact(uO (l:=[45,49,56,52,52,54,55,52,52,48,55,51,55,48,57,53,53,49,54,49,54]) (l':=[45,49,56,52,52,54,55,52,52,48,55,51,55,48,57,53,53,49,54,49,54]) (fun d hd=>by revert d;decide) (fun d hd=>by revert d;decide)).trans (decide_eq_true rfl)
theorem Is {zs:List Zi}{k:Nat}(h:k<zs.length):((zs.take k).flatMap (dU false)).map AV.t++(dU false (dE zs k)).map .t=((zs.take (k+1)).flatMap (dU false)).map .t:=by
 rw[List.take_add_one,eB h]
 simp
theorem Ph {zs:List Zi}{k:Nat}(h:k≤zs.length):(((zs.take k).flatMap (dU false)).map AV.t).length=k*2:=by
 rw[List.length_map,mR (fY false),List.length_take,Nat.min_eq_left h]
theorem Mu {zs:List Zi}{k:Nat}(h:k<zs.length):dE zs (zs.length-1-k)=dE zs.reverse k:=by
 have h1:=eB (zs:=zs) (k:=zs.length-1-k) (by omega)
 have h2:=eB (zs:=zs.reverse) (k:=k) (by simpa using h)
 rw[List.getElem?_reverse h,h1]at h2
 exact Option.some.inj h2
theorem Yw {zs:List Zi}{k:Nat}(hz:∀a∈zs,Lim 4294967296 a.x) (h:∀j,j<k→decide ((dE zs j).x.length≤30)=true) (hk:zs.length≤k):∀a∈zs,ZL 30 a:=fun a ha=>by
 refine⟨hz a ha,?_⟩
 obtain⟨j,hj⟩:=List.mem_iff_getElem?.1 ha
 have hl:=(List.getElem?_eq_some_iff.1 hj).1
 rw[eB hl]at hj
 injection hj with hj
 have:=of_decide_eq_true (h j (by omega))
 rwa[hj]at this
theorem nU {a:Zi}{k:Int}(ha:a.x.length≤1000000) (hk:Zn a k):aL true Tryz.prog 35 [] [gF a,gF a] (aU (.one (tv (.bool true)))):=by
 refine cF Tryz.func35 rfl Tryz.ntmps35 rfl aA rfl fun N9 w9 c0 h0=>?_
 refine sq ?_;refine rl ?_;refine bx 0 ?_;refine bx 1 ?_;refine o1 ?_;refine nl ?_;refine sq ?_;refine rd [0,1] (fun i=>[10].contains i) mixed ?_
 refine aK 0 ?_;refine aK 1 ?_;refine aD 2 rfl (eW ha) gK ⟨aB rfl,rfl⟩ (gF a) ?_;refine aD 3 rfl (kT ha) tG ⟨aB rfl,aB rfl,rfl⟩ (.one (tv (.bool true))) ?_;refine df 4 ?_
 refine aK 5 ?_;refine aK 6 ?_;refine aD 7 rfl (Uz hk) nV ⟨aB rfl,aB rfl,rfl⟩ (.one (tv (.int .i64 0))) ?_;refine df 8 ?_
 refine WD.cast (t:=13) (u':=.bool true) rfl (congrArg Value.bool rfl) ?_;refine df 9 ?_;refine gR 10 (by kernel_rfl) rfl rfl aA rfl (by trivial) ?_ (fun h=>by first | rfl | cases h)
 refine aP ?_;refine rt ?_;exact fS (.inl rfl) rfl (rfl)
theorem dD:aL true Tryz.prog 21 [] [] (aU (.one (tv (.bool true)))):=by
 refine cF Tryz.func21 rfl Tryz.ntmps21 rfl aA rfl fun N9 w9 c0 h0=>?_
 refine sq ?_;refine rl ?_;refine o1 ?_;refine nl ?_;refine sq ?_;refine rl ?_;refine ca (cR (n:=(-7)) (by omega) (by omega)) cS ⟨a1 rfl,rfl⟩ (kF (-7)) ?_
 refine ca (cR (n:=2) (by omega) (by omega)) cS ⟨a1 rfl,rfl⟩ (kF 2) ?_
 refine ca (Mt (a:=(-7)) (b:=2) (q:=(-4)) (r:=1) (by decide) (by decide) (by decide) (by decide) (by decide)) lR ⟨aB rfl,aB rfl,rfl⟩ (.tup [kF (-4),kF 1,.one (tv (.int .i64 0))]) ?_
 (iterate 4 refine o1 ?_);refine al 0 ?_;refine al 1 ?_;refine st ?_;refine st ?_;refine o1 ?_;refine nl ?_;refine sq ?_;refine rl ?_
 refine ca (cR (n:=7) (by omega) (by omega)) cS ⟨a1 rfl,rfl⟩ (kF 7) ?_
 refine ca (cR (n:=(-2)) (by omega) (by omega)) cS ⟨a1 rfl,rfl⟩ (kF (-2)) ?_
 refine ca (Mt (a:=7) (b:=(-2)) (q:=(-4)) (r:=(-1)) (by decide) (by decide) (by decide) (by decide) (by decide)) lR ⟨aB rfl,aB rfl,rfl⟩ (.tup [kF (-4),kF (-1),.one (tv (.int .i64 0))]) ?_
 (iterate 4 refine o1 ?_);refine al 2 ?_;refine al 3 ?_;refine st ?_;refine st ?_;refine o1 ?_;refine nl ?_;refine sq ?_;refine rl ?_
 refine ca (cR (n:=(-7)) (by omega) (by omega)) cS ⟨a1 rfl,rfl⟩ (kF (-7)) ?_
 refine ca (cR (n:=(-2)) (by omega) (by omega)) cS ⟨a1 rfl,rfl⟩ (kF (-2)) ?_
 refine ca (Mt (a:=(-7)) (b:=(-2)) (q:=3) (r:=(-1)) (by decide) (by decide) (by decide) (by decide) (by decide)) lR ⟨aB rfl,aB rfl,rfl⟩ (.tup [kF 3,kF (-1),.one (tv (.int .i64 0))]) ?_
 (iterate 4 refine o1 ?_);refine al 4 ?_;refine al 5 ?_;refine st ?_;refine st ?_;refine o1 ?_;refine nl ?_;refine sq ?_;refine rl ?_
 refine ca (cR (n:=(-4294967296)) (by omega) (by omega)) cS ⟨a1 rfl,rfl⟩ (kF (-4294967296)) ?_
 refine ca (cR (n:=4294967296) (by omega) (by omega)) cS ⟨a1 rfl,rfl⟩ (kF 4294967296) ?_
 refine ca (Ys (a:=(-4294967296)) (b:=4294967296) (q:=(-18446744073709551616)) (by decide) (by decide) (by decide)) gL ⟨aB rfl,aB rfl,rfl⟩ (kF (-18446744073709551616)) ?_
 refine al 6 ?_;refine st ?_;refine nl ?_;refine sq ?_;refine rl ?_;refine ld ?_
 refine ca (Re (a:=.of (-18446744073709551616)) (k:=(-18446744073709551616)) (lW (by decide)) (Va (by decide))) Mv ⟨aB rfl,rfl⟩ (.tup [.one (tv (.int .i64 0)),.one (tv (.bool false))]) ?_
 (iterate 5 refine o1 ?_);refine nl ?_;refine sq ?_;refine rd [0,1,2,3,4,5,6] (fun i=>[67].contains i) mixed ?_
 refine dv 0 ?_;refine dv 1 ?_;refine WD.cast (t:=43) (u':=.bool true) rfl (congrArg Value.bool rfl) ?_;refine dv 2 ?_;refine dv 3 ?_;refine dv 4 ?_
 refine WD.cast (t:=46) (u':=.bool true) rfl (congrArg Value.bool rfl) ?_;refine dv 5 ?_;refine dv 6 ?_;refine dv 7 ?_;refine dv 8 ?_
 refine WD.cast (t:=50) (u':=.bool true) rfl (congrArg Value.bool rfl) ?_;refine dv 9 ?_;refine dv 10 ?_;refine aK 11 ?_
 refine aD 12 rfl (cR (n:=(-4)) (by omega) (by omega)) cS ⟨a1 rfl,rfl⟩ (kF (-4)) ?_
 refine aD 13 rfl (nU (a:=.of (-4)) (k:=(-4)) (Nat.le_trans (qD (by decide)) (by omega)) (lW (by decide))) fT ⟨aB rfl,aB rfl,rfl⟩ (.one (tv (.bool true))) ?_
 refine df 14 ?_;refine df 15 ?_;refine aK 16 ?_;refine aD 17 rfl (cR (n:=1) (by omega) (by omega)) cS ⟨a1 rfl,rfl⟩ (kF 1) ?_
 refine aD 18 rfl (nU (a:=.of 1) (k:=1) (Nat.le_trans (qD (by decide)) (by omega)) (lW (by decide))) fT ⟨aB rfl,aB rfl,rfl⟩ (.one (tv (.bool true))) ?_
 refine df 19 ?_;refine df 20 ?_;refine aK 21 ?_;refine aD 22 rfl (cR (n:=(-4)) (by omega) (by omega)) cS ⟨a1 rfl,rfl⟩ (kF (-4)) ?_
 refine aD 23 rfl (nU (a:=.of (-4)) (k:=(-4)) (Nat.le_trans (qD (by decide)) (by omega)) (lW (by decide))) fT ⟨aB rfl,aB rfl,rfl⟩ (.one (tv (.bool true))) ?_
 refine df 24 ?_;refine df 25 ?_;refine aK 26 ?_;refine aD 27 rfl (cR (n:=(-1)) (by omega) (by omega)) cS ⟨a1 rfl,rfl⟩ (kF (-1)) ?_
 refine aD 28 rfl (nU (a:=.of (-1)) (k:=(-1)) (Nat.le_trans (qD (by decide)) (by omega)) (lW (by decide))) fT ⟨aB rfl,aB rfl,rfl⟩ (.one (tv (.bool true))) ?_
 refine df 29 ?_;refine df 30 ?_;refine aK 31 ?_;refine aD 32 rfl (cR (n:=3) (by omega) (by omega)) cS ⟨a1 rfl,rfl⟩ (kF 3) ?_
 refine aD 33 rfl (nU (a:=.of 3) (k:=3) (Nat.le_trans (qD (by decide)) (by omega)) (lW (by decide))) fT ⟨aB rfl,aB rfl,rfl⟩ (.one (tv (.bool true))) ?_
 refine df 34 ?_;refine df 35 ?_;refine aK 36 ?_;refine aD 37 rfl (cR (n:=(-1)) (by omega) (by omega)) cS ⟨a1 rfl,rfl⟩ (kF (-1)) ?_
 refine aD 38 rfl (nU (a:=.of (-1)) (k:=(-1)) (Nat.le_trans (qD (by decide)) (by omega)) (lW (by decide))) fT ⟨aB rfl,aB rfl,rfl⟩ (.one (tv (.bool true))) ?_
 refine df 39 ?_;refine df 40 ?_;refine aD 41 rfl (cR (n:=(-12)) (by omega) (by omega)) cS ⟨a1 rfl,rfl⟩ (kF (-12)) ?_
 refine aD 42 rfl (cR (n:=18) (by omega) (by omega)) cS ⟨a1 rfl,rfl⟩ (kF 18) ?_
 refine aD 43 rfl (Pg (a:=(-12)) (b:=18) (q:=6) (by decide) (by decide) (by decide)) wF ⟨aB rfl,aB rfl,rfl⟩ (kF 6) ?_
 refine aD 44 rfl (cR (n:=6) (by omega) (by omega)) cS ⟨a1 rfl,rfl⟩ (kF 6) ?_
 refine aD 45 rfl (nU (a:=.of 6) (k:=6) (Nat.le_trans (qD (by decide)) (by omega)) (lW (by decide))) fT ⟨aB rfl,aB rfl,rfl⟩ (.one (tv (.bool true))) ?_
 refine df 46 ?_;refine df 47 ?_;refine aD 48 rfl (cR (n:=0) (by omega) (by omega)) cS ⟨a1 rfl,rfl⟩ (kF 0) ?_
 refine aD 49 rfl (cR (n:=(-5)) (by omega) (by omega)) cS ⟨a1 rfl,rfl⟩ (kF (-5)) ?_
 refine aD 50 rfl (Pg (a:=0) (b:=(-5)) (q:=5) (by decide) (by decide) (by decide)) wF ⟨aB rfl,aB rfl,rfl⟩ (kF 5) ?_
 refine aD 51 rfl (cR (n:=5) (by omega) (by omega)) cS ⟨a1 rfl,rfl⟩ (kF 5) ?_
 refine aD 52 rfl (nU (a:=.of 5) (k:=5) (Nat.le_trans (qD (by decide)) (by omega)) (lW (by decide))) fT ⟨aB rfl,aB rfl,rfl⟩ (.one (tv (.bool true))) ?_
 refine df 53 ?_;refine df 54 ?_;refine aK 55 ?_
 refine aD 56 rfl (pD (a:=.of (-18446744073709551616)) (k:=(-18446744073709551616)) (lW (by decide)) (Nat.le_trans (qD (by decide)) (by omega))) tH ⟨aB rfl,rfl⟩ (.one (tv (.string (aW (fN (-18446744073709551616)))))) ?_
 refine df 57 ?_;refine WD.cast (t:=99) (u':=.bool true) rfl (congrArg Value.bool Yv) ?_;refine df 58 ?_;refine df 59 ?_;refine dv 60 ?_;refine dv 61 ?_
 refine WD.cast (t:=103) (u':=.bool true) rfl (congrArg Value.bool rfl) ?_;refine df 62 ?_;refine df 63 ?_;refine dv 64 ?_;refine dv 65 ?_;refine df 66 ?_
 refine gR 67 (by kernel_rfl) rfl rfl aA rfl (by trivial) ?_ (fun h=>by first | rfl | cases h)
 refine aP ?_;refine rt ?_;exact fS (.inl rfl) rfl (rfl)
theorem Vb {zs:List Zi}(hz:∀a∈zs,ZL 30 a) (hl:zs.length≤10):aL false Tryz.prog 92 [] [.one (.t (.s false 44 2 zs.length (zs.reverse.flatMap (dU false))))] (aU (kF (dI zs))):=by
 have h:=Fz (zs:=zs.reverse) (fun a ha=>hz a (List.mem_reverse.1 ha)) (by rw[List.length_reverse];exact hl)
 rw[Mw,show sZ 44 zs.reverse=.s false 44 2 zs.length (zs.reverse.flatMap (dU false)) by rw[sZ,List.length_reverse]]at h
 exact h
theorem xO {zs:List Zi}(hz:∀a∈zs,Lim 4294967296 a.x):aL true Tryz.prog 43 [] [.one (.t (sZ 44 zs))] (aU (.one (tv (.bool true)))):=by
 refine cF Tryz.func43 rfl Tryz.ntmps43 rfl aA rfl fun N9 w9 c0 h0=>?_
 refine sq ?_;refine rl ?_;refine o1 ?_;refine nl ?_;refine sq ?_;refine sq ?_;refine rl ?_;(iterate 3 refine o1 ?_);refine nl ?_;refine bU rfl (fun h1=>?_) (fun h1=>?_)
 ·refine sq ?_;refine rl ?_;refine ca (dD) fU rfl (.one (tv (.bool true))) ?_;refine o1 ?_;refine nl ?_;refine rt ?_;exact fS (.inl rfl) rfl (rfl)
 refine sk ?_;refine sq ?_;refine rl ?_;refine o1 ?_;refine nl ?_;refine sq ?_;refine rl ?_;refine o1 ?_;refine nl ?_;refine sq ?_;refine sq ?_;refine rl ?_;refine o1 ?_;refine nl ?_
 refine bl ?_;have hl:zs.length≤10:=by omega
 refine lp (γ:=Nat) (fun k=>cJ [(0,.one (.t (sZ 44 zs))),(3,.one (.sl 0 0 k)),(4,.one (.sl 1 0 k)),(5,.one (tv (.int .i64 ((k:Nat):Int))))]) (fun k=>[(⟨47,2,((zs.take (k)).flatMap (dU false)).map .t⟩:Ob),⟨44,2,((zs.reverse.take (k)).flatMap (dU false)).map .t⟩].map some) (fun k=>k≤zs.length∧∀j,j<k→decide ((dE zs j).x.length≤30)=true) (fun k=>zs.length-k) 0 ⟨Nat.zero_le _,f0⟩ (((nr (i:=3) 0 47 2 rfl rfl rfl rfl).trans (nr (i:=4) 1 44 2 rfl rfl rfl rfl)).trans (aJ h0 [0,1] _ _ (by decide) ⟨rfl,rfl,rfl,rfl,trivial⟩ ⟨cD (l:=[]) rfl,cD (l:=[]) rfl,rfl⟩)) fun k hk=>?_
 refine sq ?_;refine sq ?_;refine rl ?_;(iterate 4 refine o1 ?_);refine nl ?_;refine bU rfl (fun h2=>?_) (fun h2=>?_)
 ·refine sk ?_;refine sq ?_;refine bl ?_;refine sq ?_;refine sq ?_;refine rl ?_;(iterate 4 refine o1 ?_)
  refine iT ([sU false (dE zs (k)).x]) (gS (f:=(dU false)) (z:=2) (o:=1) (fY false) (eB (by omega)) (Nat.le_of_ble_eq_true rfl) rfl) ?_
  refine o1 ?_;refine o1 ?_;refine nl ?_;refine bU rfl (fun h3=>?_) (fun h3=>?_)
  ·refine sq ?_;refine rl ?_;refine ca (dD) fU rfl (.one (tv (.bool true))) ?_;refine o1 ?_;refine nl ?_;refine rt ?_;exact fS (.inl rfl) rfl (rfl)
  refine sk ?_;refine sq ?_;refine rl ?_;(iterate 4 refine o1 ?_)
  refine iT ((dU false) (dE zs (k))) (gS (f:=(dU false)) (z:=2) (o:=0) (fY false) (eB (by omega)) (Nat.le_of_ble_eq_true rfl) rfl) ?_
  refine ca (eW (a:=(dE zs (k))) (by omega)) gK ⟨aB rfl,rfl⟩ (gF (dE zs (k))) ?_
  refine bs 2 ?_;refine fR (j:=3) (n:=k) (m:=1) aA rfl rfl rfl rfl (.sl rfl (Ph (zs:=zs) (by omega))) (.sl rfl rfl rfl) rfl rfl rfl (by omega) (by omega) ?_
  refine o1 ?_;refine nl ?_;refine rl ?_;(iterate 5 refine o1 ?_);refine WL.cast (t:=36) (u':=.int .i64 ((zs.length-1:Nat):Int)) rfl (aH (by omega)) ?_
  refine o1 ?_;refine o1 ?_;refine WL.cast (t:=38) (u':=.int .i64 ((zs.length-1-k:Nat):Int)) rfl (aH (by omega)) ?_
  refine o1 ?_;refine iT ((dU false) (dE zs (zs.length-1-k))) (gS (f:=(dU false)) (z:=2) (o:=0) (fY false) (eB (by omega)) (Nat.le_of_ble_eq_true rfl) rfl) ?_
  refine bs 4 ?_
  refine fR (j:=5) (n:=k) (m:=1) aA rfl rfl rfl rfl (.sl rfl (Ph (zs:=zs.reverse) (by rw[List.length_reverse];omega))) (.sl rfl rfl rfl) rfl rfl rfl (by omega) (by omega) ?_
  refine o1 ?_;refine nl ?_;refine rl ?_;refine o1 ?_;refine o1 ?_;refine WL.cast (t:=15) (u':=.int .i64 ((k+1:Nat):Int)) rfl (aH (by omega)) ?_
  refine o1 ?_;refine nl ?_
  exact⟨k+1,by omega,⟨by omega,Yx (f:=fun j=>decide ((dE zs j).x.length≤30)) hk.2 (decide_eq_true (by omega))⟩,aJ h0 [3,5] _ _ (by decide) ⟨rfl,rfl,rfl,rfl,trivial⟩ ⟨cD (congrArg (fun l:List AV=>some (⟨47,2,l⟩:Ob)) (Is (by omega))),cD (congrArg (fun l:List AV=>some (⟨44,2,l⟩:Ob)) (Mu (zs:=zs) (k:=k) (by omega)▸Is (by rw[List.length_reverse];omega))),rfl⟩⟩
 refine ex ?_;refine sq ?_;refine rl ?_;have hk9:k=zs.length:=by omega
 subst hk9;have hzz:=Yw hz hk.2 (Nat.le_refl _)
 have hsl:=tI (k:=zs.length) hzz hl
 rw[jH (Nat.le_refl _)]at hsl
 refine WL.sub (fz (i:=3) (k:=0) (t:=47) (z:=2) (n:=zs.length) (l:=zs.flatMap (dU false)) rfl rfl (congrArg (fun l:List Zi=>some (⟨47,2,(l.flatMap (dU false)).map .t⟩:Ob)) (jH (l:=zs) (by simp))) (mR (fY false) zs)) ?_
 refine WL.sub (fz (i:=4) (k:=1) (t:=44) (z:=2) (n:=zs.length) (l:=zs.reverse.flatMap (dU false)) rfl rfl (congrArg (fun l:List Zi=>some (⟨44,2,(l.flatMap (dU false)).map .t⟩:Ob)) (jH (l:=zs.reverse) (by simp))) ((mR (fY false) zs.reverse).trans (by rw[List.length_reverse]))) ?_
 refine o1 ?_;refine ca (Fz hzz hl) Mx ⟨a1 rfl,rfl⟩ (kF (dI zs)) ?_;refine o1 ?_;refine ca (Vc hzz hl) BC ⟨a1 rfl,rfl⟩ (kF (dI zs)) ?_
 refine ca (kT (a:=.of (dI zs)) (show(dg 4294967296 (dI zs).natAbs).length≤1000000 by omega)) tG ⟨aB rfl,aB rfl,rfl⟩ (.one (tv (.bool true))) ?_
 refine o1 ?_;refine o1 ?_;refine ca (Vb hzz hl) Mx ⟨a1 rfl,rfl⟩ (kF (dI zs)) ?_;refine o1 ?_;refine ca (Fz hzz hl) Mx ⟨a1 rfl,rfl⟩ (kF (dI zs)) ?_
 refine ca (nU (a:=.of (dI zs)) (k:=dI zs) (show(dg 4294967296 (dI zs).natAbs).length≤1000000 by omega) (Zn.of (by omega))) fT ⟨aB rfl,aB rfl,rfl⟩ (.one (tv (.bool true))) ?_
 refine o1 ?_;refine o1 ?_;refine ca (dD) fU rfl (.one (tv (.bool true))) ?_;refine o1 ?_;refine o1 ?_;refine nl ?_;refine rt ?_;exact fS (.inl rfl) rfl (rfl)
theorem It {n:Int}(h1:-9223372036854775808≤n) (h2:n≤9223372036854775807):gJ n=true:=decide_eq_true ⟨h1,h2⟩
theorem zN {n:Int}(h1:-9223372036854775808≤n) (h2:n≤9223372036854775807):(dg 4294967296 n.natAbs).length≤2:=Dj (It h1 h2)
theorem My {n:Int}(h1:-9223372036854775808≤n) (h2:n≤9223372036854775807):aL true Tryz.prog 24 [] [kF n] (aU (.tup [.one (tv (.int .i64 n)),.one (tv (.bool true))])):=by
 have hl:=zN h1 h2
 have h:=zK (a:=.of n) (k:=n) (Zn.of (by omega))
 rw[It h1 h2,if_pos rfl]at h
 exact h
theorem mB {a:Zi}{l:List Nat}{n:Int}(hla:Lim 4294967296 a.x) (hl:Lim 256 l) (hn1:-9223372036854775808≤n) (hn2:n≤9223372036854775807):aL true Tryz.prog 5 [] [gF a,.one (tv (.string (aW l))),.one (tv (.int .i64 n))] (aU (.one (tv (.bool true)))):=by
 refine cF Tryz.func5 rfl Tryz.ntmps5 rfl aA rfl fun N9 w9 c0 h0=>?_
 refine sq ?_;refine rl ?_;refine bx 0 ?_;refine o1 ?_;refine nl ?_;refine sq ?_;refine sq ?_;refine rl ?_;refine o1 ?_;refine ld ?_;(iterate 3 refine o1 ?_)
 refine WL.split (t:=21) rfl (fun h1=>?_) (fun h1=>?_)
 ·(iterate 3 refine cW ?_);refine o1 ?_;refine nl ?_;refine iC rfl ?_;refine sq ?_;refine rl ?_;refine ca (dD) fU rfl (.one (tv (.bool true))) ?_;refine o1 ?_;refine nl ?_
  refine rt ?_;exact fS (.inl rfl) rfl (rfl)
 refine o1 ?_;refine o1 ?_;refine WL.cast (t:=23) (u':=.int .i64 ((l.length:Nat):Int)) rfl (congrArg (fun n:Nat=>Value.int .i64 (n:Int)) (bL _)) ?_
 refine o1 ?_;refine o1 ?_;refine nl ?_;refine bU rfl (fun h2=>?_) (fun h2=>?_)
 ·refine sq ?_;refine rl ?_;refine ca (dD) fU rfl (.one (tv (.bool true))) ?_;refine o1 ?_;refine nl ?_;refine rt ?_;exact fS (.inl rfl) rfl (rfl)
 refine sk ?_;refine sq ?_;obtain⟨k,hka⟩:∃k,k=zv a:=⟨_,rfl⟩
 have hza:ZL 30 a:=⟨hla,by omega⟩
 have ha:Zn a k:=hka▸hza.n (by omega)
 have hkl:(dg 4294967296 k.natAbs).length≤1000000:=Nat.le_trans (bC (by omega) (hka▸yQ hza)) (by omega)
 have hnl:=zN hn1 hn2
 have hpl:=Rf l
 refine rl ?_;refine o1 ?_;refine ca (Dk hl (by omega)) Ga ⟨a1 rfl,rfl⟩ (.tup [kF (eF l),.one (tv (.int .i64 (fA l)))]) ?_
 (iterate 3 refine o1 ?_);refine al 1 ?_;refine st ?_;refine o1 ?_;refine nl ?_;refine sq ?_;refine rl ?_;refine o1 ?_
 refine ca (Mq hl (by omega)) BD ⟨a1 rfl,rfl⟩ (.tup [kF (eF l),.one (tv (.int .i64 (fA l)))]) ?_
 (iterate 3 refine o1 ?_);refine al 2 ?_;refine st ?_;refine o1 ?_;refine nl ?_;refine sq ?_;refine rl ?_;refine ld ?_
 refine ca (zK ha) Mv ⟨aB rfl,rfl⟩ (.tup [.one (tv (.int .i64 (if gJ k then k else 0))),.one (tv (.bool (gJ k)))]) ?_;(iterate 5 refine o1 ?_);refine nl ?_;refine sq ?_
 refine rl ?_;refine ld ?_;refine ca (eW (a:=a) (by omega)) gK ⟨aB rfl,rfl⟩ (gF a) ?_
 refine ca (Rb ha) BE ⟨aB rfl,rfl⟩ (.tup [.one (tv (.int .i64 (if gJ k then k else 0))),.one (tv (.bool (gJ k)))]) ?_;(iterate 5 refine o1 ?_);refine nl ?_;refine sq ?_
 refine rl ?_;refine o1 ?_;refine ca (cR hn1 hn2) cS ⟨a1 rfl,rfl⟩ (kF n) ?_;refine ca (My hn1 hn2) Mv ⟨aB rfl,rfl⟩ (.tup [.one (tv (.int .i64 n)),.one (tv (.bool true))]) ?_
 (iterate 5 refine o1 ?_);refine nl ?_;refine sq ?_;refine rd [0,1,2] (fun i=>[44].contains i) mixed ?_
 refine dv 0 ?_;refine dv 1 ?_;refine dv 2 ?_;refine WD.cast (t:=56) (u':=.bool true) rfl (congrArg Value.bool (decide_eq_true rfl)) ?_;refine dv 3 ?_;refine aK 4 ?_;refine aK 5 ?_
 refine aD 6 rfl (kT (a:=.of (eF l)) (show(dg 4294967296 (eF l).natAbs).length≤1000000 by omega)) tG ⟨aB rfl,aB rfl,rfl⟩ (.one (tv (.bool true))) ?_
 refine df 7 ?_;refine df 8 ?_;refine aK 9 ?_;refine aK 11 ?_;refine aD 10 rfl (pD ha hkl) tH ⟨aB rfl,rfl⟩ (.one (tv (.string (aW (fN k))))) ?_
 refine aD 12 rfl (eW (a:=a) (by omega)) gK ⟨aB rfl,rfl⟩ (gF a) ?_
 refine aD 13 rfl (Uq ha hkl) BF ⟨aB rfl,rfl⟩ (.one (tv (.string (aW (fN k))))) ?_;refine df 14 ?_
 refine WD.cast (t:=68) (u':=.bool true) rfl (congrArg Value.bool (beq_self_eq_true _)) ?_;refine df 15 ?_;refine df 16 ?_;refine dv 17 ?_;refine dv 18 ?_;refine dv 19 ?_
 refine WD.cast (t:=73) (u':=.bool true) rfl (congrArg Value.bool (decide_eq_true rfl)) ?_;refine df 20 ?_;refine df 21 ?_;refine dv 22 ?_;refine dv 23 ?_;refine dv 24 ?_
 refine WD.cast (t:=78) (u':=.bool true) rfl (congrArg Value.bool (beq_self_eq_true _)) ?_;refine df 25 ?_;refine df 26 ?_;refine dv 27 ?_;refine dv 28 ?_;refine dv 29 ?_
 refine WD.cast (t:=83) (u':=.bool true) rfl (congrArg Value.bool (decide_eq_true rfl)) ?_;refine df 30 ?_;refine df 31 ?_;refine dv 32 ?_;refine df 33 ?_;refine df 34 ?_;refine dv 35 ?_
 refine dv 37 ?_;refine aD 36 rfl (cR hn1 hn2) cS ⟨a1 rfl,rfl⟩ (kF n) ?_;refine aD 38 rfl (yO hn1 hn2) Fu ⟨a1 rfl,rfl⟩ (kF n) ?_
 refine aD 39 rfl (kT (a:=.of (n)) (show(dg 4294967296 (n).natAbs).length≤1000000 by omega)) tG ⟨aB rfl,aB rfl,rfl⟩ (.one (tv (.bool true))) ?_
 refine df 40 ?_;refine df 41 ?_;refine aD 42 rfl (dD) fU rfl (.one (tv (.bool true))) ?_;refine df 43 ?_
 refine gR 44 (by kernel_rfl) rfl rfl aA rfl (by trivial) ?_ (fun h=>by first | rfl | cases h)
 refine aP ?_;refine rt ?_;exact fS (.inl rfl) rfl (rfl)
theorem Iu {xs ys:List Nat}(hx:Lim 4294967296 xs) (hy:Lim 4294967296 ys) (h:xs.length≤549755813888) (h':ys.length≤549755813888) (h0:vl 4294967296 ys=0):aL true Tryz.prog 45 [] [.one (.t (sU false xs)),.one (.t (sU false ys))] (aU (.tup [.one (.t (sU true [])),.one (.t (sU true [])),.one (tv (.int .i64 20))])):=by
 intro N w cs us hL
 obtain⟨rfl,hf⟩:=mS hL
 obtain⟨u,v,rfl,h1,h2⟩:=pE hf
 obtain⟨A,c,rfl,u1⟩:=fB h1 hx fun b hb=>hb.1
 obtain⟨B,d,rfl,u2⟩:=fB h2 hy fun b hb=>hb.1
 refine(uS A B _ _ c d xs ys w u1 u2 h h' h0).mono ?_
 rintro e W ⟨A1,n1,c1,A2,n2,c2,rfl,ho,ho2,hap,hb⟩
 obtain⟨y1,a1,a2,a3,a4⟩:=lJ (N:=fun b=>true=false∧(b<W.heap.size∧b∉VT.fpL [])∧(N b∨w.heap.size≤b)) ho
 obtain⟨y2,b1,b2,b3,b4⟩:=lJ (N:=fun b=>true=false∧(b<W.heap.size∧b∉VT.fpL [])∧(N b∨w.heap.size≤b)) ho2
 refine .mk0 (y:=[y1,y2,.w (.int .i64 20)]) rfl hb (by simp only[VT.okL,VT.ok];exact⟨a3,b3,trivial,trivial⟩) ?_ (fun b hb'=>?_) ?_
 ·simp only[VT.fpL,VT.fp,a4,b4,List.append_nil]
  rw[List.nodup_append]
  refine⟨mT ..,mT ..,fun x hx y hy e=>?_⟩
  subst e
  rcases A1 with _ | a
  ·simp[Value.ownBlock]at hx
  rcases A2 with _ | b
  ·simp[Value.ownBlock]at hy
  simp[Value.ownBlock]at hx hy
  exact hap a b rfl rfl (by rw[←hx,←hy])
 ·simp only[VT.fpL,VT.fp,a4,b4,List.append_nil]at hb'
  rcases List.mem_append.1 hb' with hb' | hb'
  ·exact ho.blk b hb'
  exact ho2.blk b hb'
 refine⟨[_,_,_],rfl,?_⟩
 exact⟨_,_,[y1],[y2,.w (.int .i64 20)],rfl,rfl,⟨y1,rfl,a1.symm,fI (fun _ _=>rfl) (fun b hb=>absurd hb.1 (by simp)) _ _ a2⟩,_,_,[y2],[.w (.int .i64 20)],rfl,rfl,⟨y2,rfl,b1.symm,fI (fun _ _=>rfl) (fun b hb=>absurd hb.1 (by simp)) _ _ b2⟩,_,_,[.w (.int .i64 20)],[],rfl,rfl,⟨_,rfl,rfl,by simp[CR,tv,OR]⟩,rfl,rfl⟩
theorem xP {a b:Zi}{k:Int}(ha:Zg a k) (hb:Zg b 0):aL true Tryz.prog 33 [] [gF a,gF b] (aU (.tup [kO 0,kO 0,.one (tv (.int .i64 20))])):=by
 refine cF Tryz.func33 rfl Tryz.ntmps33 rfl aA rfl fun N9 w9 c0 h0=>?_
 have hkl:=ha.len
 refine sq ?_;refine rl ?_;refine bx 0 ?_;refine bx 1 ?_;refine al 2 ?_;refine al 3 ?_;refine o1 ?_;refine nl ?_
 refine md (γ:=Unit) (fun _=>cJ [(4,.one (.pt 0 0)),(5,.one (.pt 1 0)),(7,.one (.pt 2 0)),(8,.one (.pt 3 0))]) (fun _=>([⟨44,0,[tv (.bool false),tv (.slice none 0 0)]⟩,⟨44,0,[tv (.bool false),tv (.slice none 0 0)]⟩,⟨103,0,[tv (.bool (aC (k))),.t (sU false (dg 4294967296 (k).natAbs))]⟩,⟨103,0,[tv (.bool (aC ((0:Int)))),.t (sU false (dg 4294967296 ((0:Int)).natAbs))]⟩]:List Ob).map some) (fun _=>True) ?_ fun _ _=>?_
 ·refine rd [0,1,2,3] (fun i=>[7].contains i) mixed ?_
  refine aK 0 ?_;refine aK 2 ?_;refine WO.three (i:=1) (j:=4) (m:=5) (by kernel_rfl) ?_ ?_ ?_
  ·refine cP 1 rfl (cB ha) cC ⟨aB rfl,rfl⟩ (kF (k)) ?_;refine WO.three (i:=3) (j:=4) (m:=5) (by kernel_rfl) ?_ ?_ ?_
   ·refine cP 3 rfl (cB hb) cC ⟨aB rfl,rfl⟩ (kF ((0:Int))) ?_;refine WO.two (i:=4) (j:=5) (by kernel_rfl) ?_ ?_
    ·refine bD (key:=4) 4 rfl rfl aA rfl ⟨rfl,rfl,rfl,rfl,trivial⟩ ?_;refine dA (key:=5) 5 (by kernel_rfl) rfl rfl aA rfl ⟨rfl,rfl,rfl,rfl,trivial⟩ ?_
     refine aN 6 (by kernel_rfl) rfl rfl aA rfl rfl rfl rfl ⟨rfl,rfl,rfl,rfl,trivial⟩ ?_
     refine dst 7 ?_;refine aP ?_;exact⟨(),trivial,aJ h0 [2,3,4,5] _ _ (by decide) ⟨rfl,rfl,rfl,rfl,trivial⟩ ⟨oe rfl rfl,oe rfl rfl,oe rfl rfl,oe rfl rfl,rfl⟩⟩
    refine bD (key:=4) 5 rfl rfl aA rfl ⟨rfl,rfl,rfl,rfl,trivial⟩ ?_;refine dA (key:=5) 4 (by kernel_rfl) rfl rfl aA rfl ⟨rfl,rfl,rfl,rfl,trivial⟩ ?_
    refine aN 6 (by kernel_rfl) rfl rfl aA rfl rfl rfl rfl ⟨rfl,rfl,rfl,rfl,trivial⟩ ?_
    refine dst 7 ?_;refine aP ?_;exact⟨(),trivial,aJ h0 [2,3,5,4] _ _ (by decide) ⟨rfl,rfl,rfl,rfl,trivial⟩ ⟨oe rfl rfl,oe rfl rfl,oe rfl rfl,oe rfl rfl,rfl⟩⟩
   ·refine bD (key:=4) 4 rfl rfl aA rfl ⟨rfl,rfl,rfl,rfl,trivial⟩ ?_;refine WO.two (i:=3) (j:=5) (by kernel_rfl) ?_ ?_
    ·refine cP 3 rfl (cB hb) cC ⟨aB rfl,rfl⟩ (kF ((0:Int))) ?_;refine dA (key:=5) 5 (by kernel_rfl) rfl rfl aA rfl ⟨rfl,rfl,rfl,rfl,trivial⟩ ?_
     refine aN 6 (by kernel_rfl) rfl rfl aA rfl rfl rfl rfl ⟨rfl,rfl,rfl,rfl,trivial⟩ ?_
     refine dst 7 ?_;refine aP ?_;exact⟨(),trivial,aJ h0 [2,3,4,5] _ _ (by decide) ⟨rfl,rfl,rfl,rfl,trivial⟩ ⟨oe rfl rfl,oe rfl rfl,oe rfl rfl,oe rfl rfl,rfl⟩⟩
    refine bD (key:=5) 5 rfl rfl aA rfl ⟨rfl,rfl,rfl,rfl,trivial⟩ ?_;refine aD 3 rfl (cB hb) cC ⟨aB rfl,rfl⟩ (kF ((0:Int))) ?_
    refine aN 6 (by kernel_rfl) rfl rfl aA rfl rfl rfl rfl ⟨rfl,rfl,rfl,rfl,trivial⟩ ?_
    refine dst 7 ?_;refine aP ?_;exact⟨(),trivial,aJ h0 [2,3,4,5] _ _ (by decide) ⟨rfl,rfl,rfl,rfl,trivial⟩ ⟨oe rfl rfl,oe rfl rfl,oe rfl rfl,oe rfl rfl,rfl⟩⟩
   refine bD (key:=4) 5 rfl rfl aA rfl ⟨rfl,rfl,rfl,rfl,trivial⟩ ?_;refine WO.two (i:=3) (j:=4) (by kernel_rfl) ?_ ?_
   ·refine cP 3 rfl (cB hb) cC ⟨aB rfl,rfl⟩ (kF ((0:Int))) ?_;refine dA (key:=5) 4 (by kernel_rfl) rfl rfl aA rfl ⟨rfl,rfl,rfl,rfl,trivial⟩ ?_
    refine aN 6 (by kernel_rfl) rfl rfl aA rfl rfl rfl rfl ⟨rfl,rfl,rfl,rfl,trivial⟩ ?_
    refine dst 7 ?_;refine aP ?_;exact⟨(),trivial,aJ h0 [2,3,5,4] _ _ (by decide) ⟨rfl,rfl,rfl,rfl,trivial⟩ ⟨oe rfl rfl,oe rfl rfl,oe rfl rfl,oe rfl rfl,rfl⟩⟩
   refine bD (key:=5) 4 rfl rfl aA rfl ⟨rfl,rfl,rfl,rfl,trivial⟩ ?_;refine aD 3 rfl (cB hb) cC ⟨aB rfl,rfl⟩ (kF ((0:Int))) ?_
   refine aN 6 (by kernel_rfl) rfl rfl aA rfl rfl rfl rfl ⟨rfl,rfl,rfl,rfl,trivial⟩ ?_
   refine dst 7 ?_;refine aP ?_;exact⟨(),trivial,aJ h0 [2,3,5,4] _ _ (by decide) ⟨rfl,rfl,rfl,rfl,trivial⟩ ⟨oe rfl rfl,oe rfl rfl,oe rfl rfl,oe rfl rfl,rfl⟩⟩
  ·refine bD (key:=4) 4 rfl rfl aA rfl ⟨rfl,rfl,rfl,rfl,trivial⟩ ?_;refine WO.two (i:=1) (j:=5) (by kernel_rfl) ?_ ?_
   ·refine cP 1 rfl (cB ha) cC ⟨aB rfl,rfl⟩ (kF (k)) ?_;refine WO.two (i:=3) (j:=5) (by kernel_rfl) ?_ ?_
    ·refine cP 3 rfl (cB hb) cC ⟨aB rfl,rfl⟩ (kF ((0:Int))) ?_;refine dA (key:=5) 5 (by kernel_rfl) rfl rfl aA rfl ⟨rfl,rfl,rfl,rfl,trivial⟩ ?_
     refine aN 6 (by kernel_rfl) rfl rfl aA rfl rfl rfl rfl ⟨rfl,rfl,rfl,rfl,trivial⟩ ?_
     refine dst 7 ?_;refine aP ?_;exact⟨(),trivial,aJ h0 [2,3,4,5] _ _ (by decide) ⟨rfl,rfl,rfl,rfl,trivial⟩ ⟨oe rfl rfl,oe rfl rfl,oe rfl rfl,oe rfl rfl,rfl⟩⟩
    refine bD (key:=5) 5 rfl rfl aA rfl ⟨rfl,rfl,rfl,rfl,trivial⟩ ?_;refine aD 3 rfl (cB hb) cC ⟨aB rfl,rfl⟩ (kF ((0:Int))) ?_
    refine aN 6 (by kernel_rfl) rfl rfl aA rfl rfl rfl rfl ⟨rfl,rfl,rfl,rfl,trivial⟩ ?_
    refine dst 7 ?_;refine aP ?_;exact⟨(),trivial,aJ h0 [2,3,4,5] _ _ (by decide) ⟨rfl,rfl,rfl,rfl,trivial⟩ ⟨oe rfl rfl,oe rfl rfl,oe rfl rfl,oe rfl rfl,rfl⟩⟩
   refine bD (key:=5) 5 rfl rfl aA rfl ⟨rfl,rfl,rfl,rfl,trivial⟩ ?_;refine aD 1 rfl (cB ha) cC ⟨aB rfl,rfl⟩ (kF (k)) ?_
   refine aD 3 rfl (cB hb) cC ⟨aB rfl,rfl⟩ (kF ((0:Int))) ?_;refine aN 6 (by kernel_rfl) rfl rfl aA rfl rfl rfl rfl ⟨rfl,rfl,rfl,rfl,trivial⟩ ?_
   refine dst 7 ?_;refine aP ?_;exact⟨(),trivial,aJ h0 [2,3,4,5] _ _ (by decide) ⟨rfl,rfl,rfl,rfl,trivial⟩ ⟨oe rfl rfl,oe rfl rfl,oe rfl rfl,oe rfl rfl,rfl⟩⟩
  refine bD (key:=4) 5 rfl rfl aA rfl ⟨rfl,rfl,rfl,rfl,trivial⟩ ?_;refine WO.two (i:=1) (j:=4) (by kernel_rfl) ?_ ?_
  ·refine cP 1 rfl (cB ha) cC ⟨aB rfl,rfl⟩ (kF (k)) ?_;refine WO.two (i:=3) (j:=4) (by kernel_rfl) ?_ ?_
   ·refine cP 3 rfl (cB hb) cC ⟨aB rfl,rfl⟩ (kF ((0:Int))) ?_;refine dA (key:=5) 4 (by kernel_rfl) rfl rfl aA rfl ⟨rfl,rfl,rfl,rfl,trivial⟩ ?_
    refine aN 6 (by kernel_rfl) rfl rfl aA rfl rfl rfl rfl ⟨rfl,rfl,rfl,rfl,trivial⟩ ?_
    refine dst 7 ?_;refine aP ?_;exact⟨(),trivial,aJ h0 [2,3,5,4] _ _ (by decide) ⟨rfl,rfl,rfl,rfl,trivial⟩ ⟨oe rfl rfl,oe rfl rfl,oe rfl rfl,oe rfl rfl,rfl⟩⟩
   refine bD (key:=5) 4 rfl rfl aA rfl ⟨rfl,rfl,rfl,rfl,trivial⟩ ?_;refine aD 3 rfl (cB hb) cC ⟨aB rfl,rfl⟩ (kF ((0:Int))) ?_
   refine aN 6 (by kernel_rfl) rfl rfl aA rfl rfl rfl rfl ⟨rfl,rfl,rfl,rfl,trivial⟩ ?_
   refine dst 7 ?_;refine aP ?_;exact⟨(),trivial,aJ h0 [2,3,5,4] _ _ (by decide) ⟨rfl,rfl,rfl,rfl,trivial⟩ ⟨oe rfl rfl,oe rfl rfl,oe rfl rfl,oe rfl rfl,rfl⟩⟩
  refine bD (key:=5) 4 rfl rfl aA rfl ⟨rfl,rfl,rfl,rfl,trivial⟩ ?_;refine aD 1 rfl (cB ha) cC ⟨aB rfl,rfl⟩ (kF (k)) ?_
  refine aD 3 rfl (cB hb) cC ⟨aB rfl,rfl⟩ (kF ((0:Int))) ?_;refine aN 6 (by kernel_rfl) rfl rfl aA rfl rfl rfl rfl ⟨rfl,rfl,rfl,rfl,trivial⟩ ?_
  refine dst 7 ?_;refine aP ?_;exact⟨(),trivial,aJ h0 [2,3,5,4] _ _ (by decide) ⟨rfl,rfl,rfl,rfl,trivial⟩ ⟨oe rfl rfl,oe rfl rfl,oe rfl rfl,oe rfl rfl,rfl⟩⟩
 refine sq ?_;refine rl ?_;refine o1 ?_;refine o1 ?_;refine ld ?_;refine o1 ?_;refine o1 ?_;refine ld ?_
 refine ca (Iu (aF (by omega) k.natAbs) (aF (by omega) (0:Int).natAbs) (by omega) (by decide) rfl) Vd ⟨a1 rfl,a1 rfl,rfl⟩ (.tup [.one (.t (sU false [])),.one (.t (sU false [])),.one (tv (.int .i64 20))]) ?_
 (iterate 7 refine o1 ?_);refine nl ?_;refine sq ?_;refine sq ?_;refine rl ?_;refine o1 ?_;refine o1 ?_;refine WL.cast (t:=27) (u':=.bool true) rfl (congrArg Value.bool rfl) ?_
 refine nl ?_;refine iC rfl ?_;refine sq ?_;refine rl ?_;refine o1 ?_;refine o1 ?_;refine st ?_;refine st ?_;refine o1 ?_;refine nl ?_;refine rt ?_
 exact en (.inl rfl) rfl (pC (.cons (.agg (.cons (.id rfl) (.cons (.nil (t:=22) (z:=1)) .nil))) (.cons (.agg (.cons (.id rfl) (.cons (.nil (t:=22) (z:=1)) .nil))) (.cons (bQ _) .nil)))) (by decide) (fun _=>⟨cG 0,cG 0,trivial,trivial⟩) rfl
theorem Iv {a b:Zi}{k k':Int}(ha:Zg a k) (hb:Zg b k'):aL true Tryz.prog 33 [] [gF a,gF b] (aU (.tup [kO (if k'=0 then 0 else k.fdiv k'),kO (if k'=0 then 0 else k.fmod k'),.one (tv (.int .i64 (if k'=0 then 20 else 0)))])):=by
 by_cases h:k'=0
 ·subst h
  exact xP ha hb
 rw[if_neg h,if_neg h,if_neg h]
 exact tF ha hb h
theorem Ve {a:Zi}{k:Int}(ha:Zn a k):aL true Tryz.prog 87 [] [gF a] (aU (kO (((k.natAbs:Nat):Int)))):=by
 refine cF Tryz.func87 rfl Tryz.ntmps87 rfl aA rfl fun N w c0 h0=>?_
 have hkl:=ha.len
 refine sq ?_;refine rl ?_;refine bx 0 ?_;refine al 1 ?_;refine nl ?_;refine sq ?_;refine rl ?_;refine ld ?_;refine ca (dV ha) jG ⟨aB rfl,rfl⟩ (kF (k)) ?_;refine o1 ?_
 refine hH 2 (fX (b:=false) (xs:=dg 4294967296 k.natAbs) (K:=((k.natAbs:Nat):Int)) (by omega) (aF (by omega) _) (by rw[bI];rfl)) cN ⟨a1 rfl,a1 rfl,rfl⟩ ?_
 refine st ?_;refine nl ?_;refine rt ?_
 exact en (.inl rfl) rfl (bZ (.agg (.cons (.id rfl) (.cons (.sl (trs:=aM (dg 4294967296 (((k.natAbs:Nat):Int)).natAbs)) rfl rfl (bP _) (bK _)) .nil)))) (by decide) (fun _=>cG (((k.natAbs:Nat):Int))) rfl
def iZ (xs:List Nat) (k:Nat):List Nat:=List.replicate k 77++xs.drop k
theorem Mz {xs:List Nat}{k:Nat}(h:k≤xs.length):(iZ xs k).length=xs.length:=by simp[iZ];omega
theorem Na {xs:List Nat}{k:Nat}(h:k<xs.length):(iZ xs k).set k 77=iZ xs (k+1):=by
 unfold iZ
 rw[List.set_append_right _ _ (by simp),List.length_replicate,Nat.sub_self,List.drop_eq_getElem_cons h,List.set_cons_zero,List.replicate_succ',List.append_assoc]
 rfl
theorem Nb {xs:List Nat}{k:Nat}(h:xs.length≤k) (h':k≤xs.length):iZ xs k=List.replicate xs.length 77:=by
 have:k=xs.length:=by omega
 simp[iZ,this]
theorem Rg {a:Zi}(hx:a.x.length≤1099511627776):aL false Tryz.prog 89 [⟨22,1,(aM a.x).map .t⟩] [.agg [tv (.bool a.s),.sl 0 0 a.x.length]] (Rt [⟨22,1,(aM (List.replicate a.x.length 77)).map .t⟩] (.tup [])):=by
 refine AU Tryz.func89 rfl Tryz.ntmps89 rfl aA rfl fun N9 M9 w9 c0 h0=>?_
 refine sq ?_;refine rl ?_;refine bx 1 ?_;refine nl ?_;refine sq ?_;refine rl ?_;refine o1 ?_;refine nl ?_;refine bl ?_
 refine lp (γ:=Nat) (fun i=>cJ [(1,.one (.pt 1 0)),(2,.one (tv (.int .i64 ((i:Nat):Int))))]) (fun i=>[(⟨22,1,(aM (iZ a.x i)).map .t⟩:Ob),⟨44,0,[tv (.bool a.s),.sl 0 0 a.x.length]⟩].map some) (fun i=>i≤a.x.length) (fun i=>a.x.length-i) 0 (Nat.zero_le _) (Iw h0 [0,1] _ _ (by decide) rfl ⟨rfl,rfl,trivial⟩ ⟨cD rfl,oe rfl rfl,rfl⟩) fun i hi=>?_
 have hli:=Mz (xs:=a.x) (k:=i) hi
 refine sq ?_;refine sq ?_;refine rl ?_;refine o1 ?_;refine o1 ?_;refine ld ?_;refine o1 ?_;refine o1 ?_;refine nl ?_;refine bU rfl (fun h1=>?_) (fun h1=>?_)
 ·refine sk ?_;refine sq ?_;refine bl ?_;refine rl ?_;refine o1 ?_;refine ld ?_;refine o1 ?_;refine o1 ?_
  refine uI (wG (iZ a.x i) (k:=i) (v:=77) (by omega)) (zO (iZ a.x i) (by omega)) ?_
  refine nl ?_;refine rl ?_;refine o1 ?_;refine o1 ?_;refine WL.cast (t:=9) (u':=.int .i64 ((i+1:Nat):Int)) rfl (aH (by omega)) ?_
  refine o1 ?_;refine nl ?_
  exact⟨i+1,by omega,by omega,Iw h0 [0,1] _ _ (by decide) rfl ⟨rfl,rfl,trivial⟩ ⟨cD (congrArg (fun l:List Nat=>some (⟨22,1,(aM l).map .t⟩:Ob)) (Na (by omega))),oe rfl rfl,rfl⟩⟩
 refine ex ?_
 exact AW (lent':=[⟨22,1,(aM (List.replicate a.x.length 77)).map .t⟩]) (.inr rfl) rfl (AX) (by decide) (fun _ h=>by cases h) ⟨⟨rfl,rfl⟩,trivial⟩ ⟨congrArg (fun l:List Nat=>some (⟨22,1,(aM l).map .t⟩:Ob)) (Nb (by omega) hi),trivial⟩ ⟨zP _,trivial⟩ (fun h=>by cases h) ⟨rfl,rfl⟩
theorem tJ {a:Zi}{k:Int}(h:Zn a k) (hr:cK a.s a.x=true):a=.of k:=by
 obtain⟨h1,_,h3⟩:=h
 obtain⟨s,x⟩:=a
 simp only at h1 h3 hr
 unfold Zi.of
 rw[←h3,wH h1 hr,oJ h1 hr]
def Ln (k:Int):Nat:=(dg 4294967296 k.natAbs).length
theorem jT {a b:Int}{L:Nat}(h:a.natAbs≤b.natAbs) (hb:Ln b≤L):Ln a≤L:=Nat.le_trans (iE h) hb
theorem iG {a b:Int}{L:Nat}(ha:Ln a≤L) (hb:Ln b≤L):Ln (a+b)≤L+1:=Cl a b ha hb
theorem Vf {a:Int}{L:Nat}(ha:Ln a≤L):Ln (-a)≤L:=by unfold Ln;rw[Int.natAbs_neg];exact ha
theorem lK {a b:Int}{L:Nat}(ha:Ln a≤L) (hb:Ln b≤L):Ln (a-b)≤L+1:=by rw[Int.sub_eq_add_neg];exact iG ha (Vf hb)
theorem gM {a b:Int}{L M:Nat}(ha:Ln a≤L) (hb:Ln b≤M):Ln (a*b)≤L+M:=Nat.le_trans (Cm a b) (Nat.add_le_add ha hb)
theorem jU {a:Int}{L:Nat}(ha:Ln a≤L):Ln ((a.natAbs:Nat):Int)≤L:=ha
theorem fZ {x y:Int}(h:y≠0):(x.fmod y).natAbs<y.natAbs:=by
 rw[Int.fmod_eq_emod]
 have h1:=Int.emod_nonneg x h
 have h2:=Int.emod_lt_of_pos x (show 0<(y.natAbs:Int) by omega)
 have h3:x%(y.natAbs:Int)=x%y:=by
  rcases Int.natAbs_eq y with h4 | h4
  ·rw[←h4]
  conv=>rhs;rw[h4,Int.emod_neg]
 split
 ·omega
 rename_i h5
 have h6:¬x%y=0:=fun h7=>h5 (.inr (Int.dvd_of_emod_eq_zero h7))
 omega
theorem Rh {x y:Int}(h:y≠0) (h2:(x.fmod y).sign≠0):(x.fmod y).sign=y.sign:=by
 have h3:x.fmod y≠0:=fun e=>h2 (by rw[e];rfl)
 have h1:=Int.emod_nonneg x h
 have h5:=fZ (x:=x) h
 have h6:0<y∧0<x.fmod y∨y<0∧x.fmod y<0:=by
  rw[Int.fmod_eq_emod]at h3 h5⊢
  rcases Int.lt_or_lt_of_ne h with h7 | h7
  ·right
   refine⟨h7,?_⟩
   have h2:=Int.emod_lt_of_pos x (show 0<(y.natAbs:Int) by omega)
   have h8:x%(y.natAbs:Int)=x%y:=by
    conv=>rhs;rw[show y=-(y.natAbs:Int) by omega,Int.emod_neg]
   split at h3
   ·rename_i h9
    rcases h9 with h9 | h9
    ·omega
    have:=Int.emod_eq_zero_of_dvd h9;omega
   rename_i h9
   rw[if_neg h9]
   omega
  left
  refine⟨h7,?_⟩
  rw[if_pos (Or.inl (by omega))]at h3⊢
  omega
 rcases h6 with⟨h7,h8⟩ | ⟨h7,h8⟩
 ·rw[Int.sign_eq_one_of_pos h7,Int.sign_eq_one_of_pos h8]
 rw[Int.sign_eq_neg_one_of_neg h7,Int.sign_eq_neg_one_of_neg h8]
theorem Dl {x y:Int}{L:Nat}(h:Ln x≤L) (hL:1≤L):Ln (x.fdiv y)≤L+1:=by
 have h1:(x.fdiv y).natAbs≤(((x.natAbs:Nat):Int)+1).natAbs:=by
  rw[Int.fdiv_eq_ediv]
  have:=Int.natAbs_ediv_le_natAbs x y
  split <;> omega
 exact jT h1 (iG (jU h) (Nat.le_trans (show Ln 1≤1 from bC (by omega) (by decide)) hL))
theorem Ix {r y:Int}(h:r.natAbs<y.natAbs):¬0≤(((r.natAbs:Nat):Int)-((y.natAbs:Nat):Int)).sign:=by
 rw[Int.sign_eq_neg_one_of_neg (by omega)]
 omega
theorem Nc (z:Int):-1≤z.sign∧z.sign≤1:=by
 rcases Int.lt_trichotomy z 0 with h | h | h
 ·rw[Int.sign_eq_neg_one_of_neg h];omega
 ·rw[h];decide
 rw[Int.sign_eq_one_of_pos h];omega
theorem wI (x y:Int):(x-y).sign=0-(y-x).sign:=by
 rw[show x-y=-(y-x) by omega,Int.sign_neg]
 omega
theorem lX {z:Int}:z.sign=0↔z=0:=Int.sign_eq_zero_iff_zero
theorem Yy (x y:Int):x.fdiv y*y+x.fmod y=x:=by
 rw[Int.mul_comm]
 exact Int.mul_fdiv_add_fmod x y
theorem hJ {x y:Int}{L:Nat}(hx:Ln x≤L) (hy:Ln y≤L):Ln ((Int.gcd x y:Nat):Int)≤L:=by
 by_cases h0:x=0
 ·subst h0
  rw[Int.gcd_zero_left]
  exact hy
 refine jT (b:=x) ?_ hx
 rw[Int.natAbs_natCast]
 exact Nat.le_of_dvd (by omega) (Int.gcd_dvd_natAbs_left x y)
theorem zQ {x y:Int}(h:((Int.gcd x y:Nat):Int)=0):x=0:=((Int.gcd_eq_zero_iff (a:=x) (b:=y)).1 (by omega)).1
theorem zR {x y:Int}(h:((Int.gcd x y:Nat):Int)=0):y=0:=((Int.gcd_eq_zero_iff (a:=x) (b:=y)).1 (by omega)).2
theorem zS (x y:Int):x.fmod ((Int.gcd x y:Nat):Int)=0:=Int.fmod_eq_zero_of_dvd (Int.gcd_dvd_left x y)
theorem zU (x y:Int):y.fmod ((Int.gcd x y:Nat):Int)=0:=Int.fmod_eq_zero_of_dvd (Int.gcd_dvd_right x y)
theorem zV {x y:Int}(h:((Int.gcd x y:Nat):Int)≠0):0<(((Int.gcd x y:Nat):Int)).sign:=by
 rw[Int.sign_eq_one_of_pos (by omega)]
 omega
theorem rV {k:Int}{L:Nat}(h:Ln k≤L) (hL:1≤L):(fN k).length≤10*L+1:=by
 have h1:=iM (B:=4294967296) (n:=k.natAbs) (by omega)
 have h2:k.natAbs<10^(10*Ln k):=Nat.lt_of_lt_of_le h1 (by rw[Nat.pow_mul];exact Nat.pow_le_pow_left (by omega) _)
 have h3:=bC (B:=10) (by omega) h2
 have h4:(tx k.natAbs).length≤10*L:=by
  unfold tx
  split
  ·simp;omega
  rw[List.length_reverse,eV];omega
 unfold fN
 split
 ·rw[List.length_cons];omega
 omega
end Go.Proofs.YteggpgndiajdpaaGreatDoor
