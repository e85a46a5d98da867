/- Part 9 of a proof: P2 to Rib4. -/
import Derived.Test.YteggpgndiajdpaaGreatDoorM8
import Derived.Test.YteggpgndiajdpaaGreatDoorM7
import Derived.Test.YteggpgndiajdpaaGreatDoorM5
import Derived.ProofKit
import Derived.ChangeOld
import Derived.Deep.Slices
import Derived.Deep.Strs
import Derived.WalkKit
import Derived.OpenShut
import Derived.Below
import Derived.Carry
set_option maxRecDepth 100000
set_option linter.unusedVariables false
set_option linter.unusedSimpArgs false
namespace Go.Proofs.YteggpgndiajdpaaGreatDoor
open Go Go.RowKit
theorem Lq {u d:Nat}(h:(dg 4294967296 u).length≤1099511627776) (hd0:0<d) (hd:d<4294967296):aE true Tryz.prog 76 [] [.one (.t (sU false (dg 4294967296 u))),.one (tv (.int .u32 ((d:Nat):Int)))] (bC (.tup [.one (.t (sU true (dg 4294967296 (u/d)))),.one (tv (.int .u32 ((u%d:Nat):Int))),.one (tv (.int .i64 0))])):=by
 have h1:=xH h (aQ (by omega) u) hd0 hd
 rwa[bM (by omega)]at h1
theorem pB {u m:Nat}(h:(dg 4294967296 u).length≤1099511627776) (hm:m<4294967296):aE true Tryz.prog 71 [] [.one (.t (sU false (dg 4294967296 u))),.one (tv (.int .u32 ((m:Nat):Int)))] (bC (.one (.t (sU true (dg 4294967296 (u*m)))))):=by
 have h1:=xG h (aQ (by omega) u) hm
 rwa[bM (by omega)]at h1
theorem pC {u x:Nat}(h:(dg 4294967296 u).length≤1099511627776) (hx:x<4294967296):aE true Tryz.prog 70 [] [.one (.t (sU false (dg 4294967296 u))),.one (.t (sU false [x]))] (bC (.one (.t (sU true (dg 4294967296 (u+x)))))):=by
 have h1:=Pj h (aQ (by omega) u) (by simp) (Lim.cons hx Lim.nil)
 rwa[bM (by omega),show vl 4294967296 [x]=x by simp[vl]]at h1
theorem nC {k:Int}(h:k.natAbs<4294967296^4):(dg 4294967296 k.natAbs).length≤4:=bF (by omega) h
theorem wR {a:Zi}{k:Int}(ha:Zn a k):aE true Tryz.prog 24 [] [gF a] (bC (.tup [.one (tv (.int .i64 (if eR k then k else 0))),.one (tv (.bool (eR k)))])):=by
 refine cL Tryz.func24 rfl Tryz.ntmps24 rfl aB rfl fun N9 w9 c0 h0=>?_
 refine sq ?_;refine rl ?_;refine bx 0 ?_;refine o1 ?_;refine o1 ?_;refine nl ?_;refine sq ?_;refine rl ?_;refine ld ?_;refine ca (cC (ha).g) cB ⟨aV rfl,rfl⟩ (kF (k)) ?_;refine al 1 ?_
 refine st ?_;refine nl ?_;refine sq ?_;refine sq ?_;refine rl ?_;refine o1 ?_;refine o1 ?_;refine ld ?_;refine o1 ?_;refine o1 ?_;refine nl ?_;refine cE rfl (fun h1=>?_) (fun h1=>?_)
 ·refine sq ?_;refine rl ?_;refine o1 ?_;refine o1 ?_;refine nl ?_;refine rt ?_;have hin:=Ll (k:=k) (by omega)
  exact en (.inl rfl) rfl (dN (.cons (bD _) (.cons (bD _) .nil))) (by decide) (fun _=>⟨trivial,trivial,trivial⟩) (by rw[hin];rfl)
 refine sk ?_;refine sq ?_;refine rl ?_;refine o1 ?_;refine nl ?_;refine sq ?_;refine sq ?_;refine rl ?_;refine o1 ?_;refine o1 ?_;refine ld ?_;refine o1 ?_;refine o1 ?_;refine nl ?_
 refine bl ?_;have hX:Lim 4294967296 (dg 4294967296 (k).natAbs):=aQ (by omega) _
 refine lp (γ:=Nat) (fun s=>cK [(4,.one (.pt 0 0)),(17,.one (.t (sU false (dg 4294967296 (k).natAbs)))),(18,.one (tv (.int .i64 (((dg 4294967296 (k).natAbs).length:Nat):Int)))),(5,.one (tv (.int .u64 (((vl 4294967296 ((dg 4294967296 (k).natAbs).take s)):Nat):Int)))),(19,.one (tv (.int .i64 ((s:Nat):Int))))]) (fun s=>[(⟨103,0,[tv (.bool (aT (k))),.t (sU false (dg 4294967296 (k).natAbs))]⟩:Ob)].map some) (fun s=>s≤(dg 4294967296 (k).natAbs).length) (fun s=>(dg 4294967296 (k).natAbs).length-s) 0 (Nat.zero_le _) (bH h0 [1] _ _ (by decide) ⟨rfl,rfl,rfl,rfl,rfl,trivial⟩ ⟨oe rfl rfl,rfl⟩) ?_
 rintro i hi;refine sq ?_;refine rl ?_;refine o1 ?_;refine nl ?_;refine sq ?_;refine cE rfl (fun h2=>?_) (fun h2=>?_)
 ·refine sk ?_;refine sq ?_;refine bl ?_;refine sq ?_;refine rl ?_;refine o1 ?_;refine o1 ?_
  refine mY ([.v (.int .u32 ((nth (dg 4294967296 (k).natAbs) (i):Nat):Int))]) (gV (dg 4294967296 (k).natAbs) (k:=i) (by omega)) ?_
  refine o1 ?_;refine o1 ?_;refine nl ?_;have hxi:=hX.nth (by omega) i
  refine rl ?_;(iterate 3 refine o1 ?_);refine WL.cast (t:=26) (u':=.int .u64 ((nth (dg 4294967296 (k).natAbs) (i):Nat):Int)) rfl (aI (by omega)) ?_
  refine o1 ?_;refine o1 ?_;refine WL.cast (t:=28) (u':=.int .i64 ((32*i:Nat):Int)) rfl (aI (by omega)) ?_
  refine o1 ?_;refine WL.cast (t:=29) (u':=.int .u64 (((nth (dg 4294967296 (k).natAbs) (i)*4294967296^i):Nat):Int)) rfl (aI (Sr (by omega) (by omega))) ?_
  refine o1 ?_;refine WL.cast (t:=30) (u':=.int .u64 (((vl 4294967296 ((dg 4294967296 (k).natAbs).take (i+1))):Nat):Int)) rfl (aI (Lm hX (by omega))) ?_
  refine o1 ?_;refine nl ?_;refine rl ?_;refine o1 ?_;refine WL.cast (t:=31) (u':=.int .i64 ((i+1:Nat):Int)) rfl (aI (by omega)) ?_
  refine o1 ?_;refine nl ?_;exact⟨i+1,by omega,by omega,bH h0 [0] _ _ (by decide) ⟨rfl,rfl,rfl,rfl,rfl,trivial⟩ ⟨oe rfl rfl,rfl⟩⟩
 refine ex ?_;refine sq ?_;refine bl ?_;refine sq ?_;have hu:vl 4294967296 ((dg 4294967296 (k).natAbs).take i)=k.natAbs:=by rw[aY _ (by omega),bM (by omega)]
 refine rl ?_;refine o1 ?_;refine o1 ?_;refine ld ?_;refine o1 ?_;refine WL.splitb (t:=36) rfl (fun h3=>?_) (fun h3=>?_)
 ·(iterate 4 refine o1 ?_);refine nl ?_;refine cE rfl (fun h4=>?_) (fun h4=>?_)
  ·refine sq ?_;refine rl ?_;refine o1 ?_;refine Wc ?_;refine Wf (Pv (u:=(vl 4294967296 ((dg 4294967296 (k).natAbs).take i))) (by omega)) ?_
   refine o1 ?_;refine o1 ?_;refine nl ?_;refine rt ?_;have hsg:=oI h3
   have hin:eR k=true:=decide_eq_true (by omega)
   exact en (.inl rfl) rfl (dN (.cons (bD _) (.cons (bD _) .nil))) (by decide) (fun _=>⟨trivial,trivial,trivial⟩) (by rw[hin];exact congrArg (fun z:Int=>FV.tup [.one (tv (.int .i64 z)),.one (tv (.bool true))]) ((show-(((vl 4294967296 ((dg 4294967296 (k).natAbs).take i)):Nat):Int)=k by omega).trans (if_pos rfl).symm))
  refine sq ?_;refine rl ?_;refine o1 ?_;refine o1 ?_;refine ld ?_;refine WL.cast (t:=46) rfl (congrArg Value.bool h3) ?_;refine o1 ?_;refine o1 ?_;refine dL ?_;refine dL ?_
  refine o1 ?_;refine o1 ?_;refine nl ?_;refine gZ rfl ?_;refine sk ?_;refine sq ?_;refine rl ?_;refine o1 ?_;refine o1 ?_;refine nl ?_;refine rt ?_;have hsg:=oI h3
  have hin:eR k=false:=decide_eq_false (by omega)
  exact en (.inl rfl) rfl (dN (.cons (bD _) (.cons (bD _) .nil))) (by decide) (fun _=>⟨trivial,trivial,trivial⟩) (by rw[hin];rfl)
 refine dL ?_;refine dL ?_;refine o1 ?_;refine o1 ?_;refine nl ?_;refine gZ rfl ?_;refine sq ?_;refine rl ?_;refine o1 ?_;refine o1 ?_;refine ld ?_
 refine WL.cast (t:=46) rfl (congrArg Value.bool h3) ?_;(iterate 6 refine o1 ?_);refine nl ?_;refine cE rfl (fun h5=>?_) (fun h5=>?_)
 ·refine sq ?_;refine rl ?_;refine o1 ?_;refine o1 ?_ (hC:=(by simp only[fA];omega))
  refine WL.cast (t:=53) (u':=.int .i64 (((vl 4294967296 ((dg 4294967296 (k).natAbs).take i)):Nat):Int)) rfl (aI (by omega)) ?_
  refine o1 ?_;refine o1 ?_;refine nl ?_;refine rt ?_;have hsg:=lU h3
  have hin:eR k=true:=decide_eq_true (by omega)
  exact en (.inl rfl) rfl (dN (.cons (bD _) (.cons (bD _) .nil))) (by decide) (fun _=>⟨trivial,trivial,trivial⟩) (by rw[hin];exact congrArg (fun z:Int=>FV.tup [.one (tv (.int .i64 z)),.one (tv (.bool true))]) ((show(((vl 4294967296 ((dg 4294967296 (k).natAbs).take i)):Nat):Int)=k by omega).trans (if_pos rfl).symm))
 refine sk ?_;refine sq ?_;refine rl ?_;refine o1 ?_;refine o1 ?_;refine nl ?_;refine rt ?_;have hsg:=lU h3
 have hin:eR k=false:=decide_eq_false (by omega)
 exact en (.inl rfl) rfl (dN (.cons (bD _) (.cons (bD _) .nil))) (by decide) (fun _=>⟨trivial,trivial,trivial⟩) (by rw[hin];rfl)
theorem Lr {a:Zi}{k:Int}(ha:Zn a k):aE true Tryz.prog 25 [] [gF a] (bC (.tup [.one (tv (.int .i64 (if eR k then k else 0))),.one (tv (.bool (eR k)))])):=by
 refine cL Tryz.func25 rfl Tryz.ntmps25 rfl aB rfl fun N9 w9 c0 h0=>?_
 have hkl:=ha.len
 refine sq ?_;refine rl ?_;refine bx 0 ?_;refine o1 ?_;refine o1 ?_;refine nl ?_;refine sq ?_;refine rl ?_
 refine ca (Bi (n:=(-9223372036854775808)) (by omega) (by omega)) Fx ⟨a1 rfl,rfl⟩ (kF (-9223372036854775808)) ?_
 refine ca (Bi (n:=9223372036854775807) (by omega) (by omega)) Fx ⟨a1 rfl,rfl⟩ (kF 9223372036854775807) ?_
 refine al 1 ?_;refine al 2 ?_;refine st ?_;refine st ?_;refine nl ?_;refine sq ?_;refine sq ?_;refine rl ?_;refine ld ?_;refine ld ?_
 refine ca (Ed ha (Zn.of (k:=(-9223372036854775808)) (Nat.le_trans (nC (by decide)) (by omega)))) Np ⟨aV rfl,aV rfl,rfl⟩ (.one (tv (.int .i64 ((k)-((-9223372036854775808))).sign))) ?_
 refine o1 ?_;refine o1 ?_;refine WL.split (t:=14) rfl (fun h1=>?_) (fun h1=>?_)
 ·(iterate 4 refine dL ?_);refine o1 ?_;refine nl ?_;refine jS rfl ?_;refine sq ?_;refine rl ?_;refine o1 ?_;refine o1 ?_;refine nl ?_;refine rt ?_
  have hin:eR k=false:=decide_eq_false fun h=>by have h9:=Ei.1 h1;omega
  exact en (.inl rfl) rfl (dN (.cons (bD _) (.cons (bD _) .nil))) (by decide) (fun _=>⟨trivial,trivial,trivial⟩) (by rw[hin];rfl)
 refine ld ?_;refine ld ?_
 refine ca (Ed ha (Zn.of (k:=9223372036854775807) (Nat.le_trans (nC (by decide)) (by omega)))) Np ⟨aV rfl,aV rfl,rfl⟩ (.one (tv (.int .i64 ((k)-(9223372036854775807)).sign))) ?_
 refine o1 ?_;refine o1 ?_;refine nl ?_;refine cE rfl (fun h2=>?_) (fun h2=>?_)
 ·refine sq ?_;refine rl ?_;refine o1 ?_;refine o1 ?_;refine nl ?_;refine rt ?_;have hin:eR k=false:=decide_eq_false fun h=>by have h9:=Ej.1 h2;omega
  exact en (.inl rfl) rfl (dN (.cons (bD _) (.cons (bD _) .nil))) (by decide) (fun _=>⟨trivial,trivial,trivial⟩) (by rw[hin];rfl)
 refine sk ?_;refine sq ?_;have hk1:¬k-(-9223372036854775808)<0:=fun h=>h1 (Ei.2 h)
 have hk2:¬0<k-9223372036854775807:=fun h=>h2 (Ej.2 h)
 have hX:Lim 4294967296 (dg 4294967296 (k).natAbs):=aQ (by omega) _
 have hvX:vl 4294967296 (dg 4294967296 (k).natAbs)=k.natAbs:=bM (by omega) _
 refine rl ?_;refine ld ?_;refine ca (mS ha) Am ⟨aV rfl,rfl⟩ (kF (k)) ?_;refine st ?_;refine nl ?_;refine sq ?_;refine rl ?_;refine o1 ?_;refine nl ?_;refine sq ?_;refine sq ?_
 refine rl ?_;refine o1 ?_;refine ld ?_;(iterate 3 refine o1 ?_);refine nl ?_;refine bl ?_
 refine lp (γ:=Nat) (fun s=>cK [(1,.one (.pt 0 0)),(6,.one (tv (.int .i64 (-((vl 4294967296 ((dg 4294967296 (k).natAbs).drop s)):Int))))),(7,.one (tv (.int .i64 (((s:Nat):Int)-1))))]) (fun s=>[(⟨47,0,[tv (.bool (aT (k))),.t (sU false (dg 4294967296 (k).natAbs))]⟩:Ob)].map some) (fun s=>s≤(dg 4294967296 (k).natAbs).length) (fun s=>s) ((dg 4294967296 (k).natAbs).length) (Nat.le_refl _) (bH h0 [0] _ _ (by decide) ⟨rfl,qW (by rw[List.drop_length];rfl),rfl,trivial⟩ ⟨oe rfl rfl,rfl⟩) ?_
 rintro i hi;refine sq ?_;refine sq ?_;refine rl ?_;refine o1 ?_;refine o1 ?_;refine nl ?_;refine cE rfl (fun h3=>?_) (fun h3=>?_)
 ·refine sk ?_;refine sq ?_;refine bl ?_;have hds:=eA 4294967296 (l:=(dg 4294967296 (k).natAbs)) (k:=i) (by omega) hi
  have hle:=Bl (B:=4294967296) (l:=(dg 4294967296 (k).natAbs)) (k:=i-1) (by omega) (by omega)
  have hxi:=hX.nth (by omega) (i-1)
  refine rl ?_;(iterate 3 refine o1 ?_);refine ld ?_;refine o1 ?_;refine WL.cast (t:=34) (u':=.int .i64 ((i-1:Nat):Int)) rfl (aI (by omega)) ?_
  refine o1 ?_;refine mY ([.v (.int .u32 ((nth (dg 4294967296 (k).natAbs) (i-1):Nat):Int))]) (gV (dg 4294967296 (k).natAbs) (k:=i-1) (by omega)) ?_
  refine o1 ?_;refine WL.cast (t:=37) (u':=.int .i64 ((nth (dg 4294967296 (k).natAbs) (i-1):Nat):Int)) rfl (aI (by omega)) ?_
  refine o1 ?_;refine WL.cast (t:=38) (u':=.int .i64 (-((vl 4294967296 ((dg 4294967296 (k).natAbs).drop (i-1)):Nat):Int))) rfl (aI (by omega)) ?_
  refine o1 ?_;refine nl ?_;refine rl ?_;(iterate 3 refine o1 ?_);refine nl ?_
  exact⟨i-1,by omega,by omega,bH h0 [0] _ _ (by decide) ⟨rfl,rfl,qW (by omega),trivial⟩ ⟨oe rfl rfl,rfl⟩⟩
 refine ex ?_;refine sq ?_;refine sq ?_;have hi0:i=0:=by omega
 have hu:vl 4294967296 ((dg 4294967296 (k).natAbs).drop i)=k.natAbs:=by rw[hi0,List.drop_zero,hvX]
 refine rl ?_;refine o1 ?_;refine ld ?_;refine nl ?_;refine gY rfl (fun h4=>?_) (fun h4=>?_)
 ·refine sq ?_;refine rl ?_;(iterate 3 refine o1 ?_);refine nl ?_;refine rt ?_;have hsg:=oI h4
  have hin:eR k=true:=decide_eq_true (by omega)
  exact en (.inl rfl) rfl (dN (.cons (bD _) (.cons (bD _) .nil))) (by decide) (fun _=>⟨trivial,trivial,trivial⟩) (by rw[hin];exact congrArg (fun z:Int=>FV.tup [.one (tv (.int .i64 z)),.one (tv (.bool true))]) ((show-(((vl 4294967296 ((dg 4294967296 (k).natAbs).drop i)):Nat):Int)=k by omega).trans (if_pos rfl).symm))
 refine sk ?_;refine sq ?_;have hsg0:=lU h4
 refine rl ?_;refine o1 ?_;refine o1 ?_;refine WL.cast (t:=43) (u':=.int .i64 ((((vl 4294967296 ((dg 4294967296 (k).natAbs).drop i)):Nat):Int))) rfl (aI (by omega)) ?_
 refine o1 ?_;refine o1 ?_;refine nl ?_;refine rt ?_;have hsg:=lU h4
 have hin:eR k=true:=decide_eq_true (by omega)
 exact en (.inl rfl) rfl (dN (.cons (bD _) (.cons (bD _) .nil))) (by decide) (fun _=>⟨trivial,trivial,trivial⟩) (by rw[hin];exact congrArg (fun z:Int=>FV.tup [.one (tv (.int .i64 z)),.one (tv (.bool true))]) ((show(((vl 4294967296 ((dg 4294967296 (k).natAbs).drop i)):Nat):Int)=k by omega).trans (if_pos rfl).symm))
theorem Qb {a:Zi}{k:Int}(ha:Zn a k) (hs:(dg 4294967296 k.natAbs).length≤1000000):aE true Tryz.prog 30 [] [gF a] (bC (.one (tv (.string (aL (nB k)))))):=by
 refine cL Tryz.func30 rfl Tryz.ntmps30 rfl aB rfl fun N9 w9 c0 h0=>?_
 have hdl:=Hd hs
 refine sq ?_;refine rl ?_;refine bx 0 ?_;refine o1 ?_;refine nl ?_;refine sq ?_;refine rl ?_;refine ld ?_;refine ca (mS ha) Am ⟨aV rfl,rfl⟩ (kF (k)) ?_;refine st ?_;refine nl ?_
 refine sq ?_;refine rl ?_;refine o1 ?_;refine nl ?_;refine sq ?_;refine rl ?_;refine o1 ?_;refine ld ?_;refine o1 ?_;refine nl ?_;refine sq ?_;refine bl ?_
 refine lp (γ:=List Nat×Nat) (fun s=>cK [(1,.one (.pt 0 0)),(3,.one (tv (.string (aL ((cH s.1).reverse))))),(4,.one (.t (sU false (dg 4294967296 s.2))))]) (fun s=>[(⟨47,0,[tv (.bool (aT (k))),.t (sU false (dg 4294967296 (k).natAbs))]⟩:Ob)].map some) (fun s=>Lim 10 s.1∧s.1++dg 10 s.2=dg 10 (k).natAbs∧s.2≤(k).natAbs) (fun s=>s.2) ([],(k).natAbs) ⟨Lim.nil,rfl,Nat.le_refl _⟩ (bH h0 [0] _ _ (by decide) ⟨rfl,rfl,rfl,trivial⟩ ⟨oe rfl rfl,rfl⟩) ?_
 rintro⟨ds,u⟩ ⟨hd,hv,hu⟩;dsimp only at hd hv hu⊢;have hul:=kN hu
 have hdl2:=congrArg List.length hv
 rw[List.length_append]at hdl2;refine sq ?_;refine sq ?_;refine rl ?_;(iterate 3 refine o1 ?_);refine nl ?_;refine cE rfl (fun h1=>?_) (fun h1=>?_)
 ·refine sk ?_;refine bl ?_;refine sq ?_;have hup:=qX (B:=4294967296) (u:=u) (by omega)
  have hdp:=nE (B:=10) (n:=u) (by omega) (by omega)
  refine rl ?_;refine o1 ?_
  refine ca (Lq (u:=u) (d:=10) (by omega) (by omega) (by omega)) Vb ⟨a1 rfl,a1 rfl,rfl⟩ (.tup [.one (.t (sU false (dg 4294967296 (u/10)))),.one (tv (.int .u32 ((u%10:Nat):Int))),.one (tv (.int .i64 0))]) ?_
  (iterate 7 refine o1 ?_);refine nl ?_;refine sq ?_;refine rl ?_;refine o1 ?_;refine o1 ?_;refine WL.cast (t:=22) (u':=.int .u32 ((48+(u%10):Nat):Int)) rfl (aI (by omega)) ?_
  refine o1 ?_;refine WL.cast (t:=23) (u':=.int .u8 ((48+(u%10):Nat):Int)) rfl (aI (by omega)) ?_
  refine bs 1 ?_;refine Te (xs:=[48+(u%10)]) (Cy rfl rfl) rfl ?_;refine o1 ?_
  refine o1 ?_ (hC:=(by rw[aR,aR,List.length_reverse,dX];show 1+ds.length≤_;omega))
  refine WL.cast (t:=27) (u':=.string (aL ((cH (ds++[u%10])).reverse))) rfl (congrArg Value.string ((vU _ _).trans (congrArg aL (by simp[cH])))) ?_
  refine o1 ?_;refine nl ?_;refine rl ?_;refine o1 ?_;refine o1 ?_;refine nl ?_
  exact⟨(ds++[u%10],u/10),by dsimp only;omega,⟨hd.append (Lim.cons (Nat.mod_lt _ (by omega)) Lim.nil),(by dsimp only;rw[List.append_assoc,←hv,hdp];rfl),(by dsimp only;omega)⟩,bH h0 [0] _ _ (by decide) ⟨rfl,rfl,rfl,trivial⟩ ⟨oe rfl rfl,rfl⟩⟩
 refine ex ?_;refine sq ?_;refine sq ?_;have hu0:u=0:=(cQ (B:=4294967296) (by omega)).1 (List.eq_nil_of_length_eq_zero (by omega))
 rw[hu0,eX,List.append_nil]at hv;refine rl ?_;refine o1 ?_;refine o1 ?_
 refine WL.cast (t:=30) (u':=.bool (decide ((cH ds).reverse=[]))) rfl (congrArg Value.bool (iW (sL (sM hd)))) ?_;refine nl ?_;refine gY rfl (fun h2=>?_) (fun h2=>?_)
 ·refine sq ?_;refine rl ?_;refine o1 ?_;refine nl ?_;refine rt ?_;have hk0:k=0:=by
   have h9:=congrArg List.length (of_decide_eq_true h2)
   rw[List.length_reverse,dX,hv,List.length_nil]at h9;have h8:=(cQ (B:=10) (by omega)).1 (List.eq_nil_of_length_eq_zero h9)
   omega
  subst hk0;exact en (.inl rfl) rfl (bV (bD _)) (by decide) (fun _=>trivial) (congrArg (fun z=>FV.one (tv (.string z))) (rfl))
 refine sk ?_;refine sq ?_;refine sq ?_;refine rl ?_;refine o1 ?_;refine ld ?_;refine nl ?_;refine gY rfl (fun h3=>?_) (fun h3=>?_)
 ·refine sq ?_;refine rl ?_;refine o1 ?_;refine o1 ?_ (hC:=(by rw[aR,List.length_reverse,dX];show 1+ds.length≤_;omega))
  refine WL.cast (t:=34) (u':=.string (aL (45::(cH ds).reverse))) rfl (congrArg Value.string (vU [45] _)) ?_;refine o1 ?_;refine nl ?_;refine rt ?_
  have hk0:(k).natAbs≠0:=fun h9=>by
   rw[h9,eX]at hv;rw[hv]at h2;simp[cH]at h2
  have ht:tx (k).natAbs=(cH ds).reverse:=by unfold tx;rw[if_neg hk0,hv]
  exact en (.inl rfl) rfl (bV (bD _)) (by decide) (fun _=>trivial) (congrArg (fun z=>FV.one (tv (.string z))) (congrArg aL (by unfold nB;rw[if_pos (oI h3),ht])))
 refine sk ?_;refine sq ?_;refine rl ?_;refine o1 ?_;refine o1 ?_;refine nl ?_;refine rt ?_;have hk0:(k).natAbs≠0:=fun h9=>by
  rw[h9,eX]at hv;rw[hv]at h2;simp[cH]at h2
 have ht:tx (k).natAbs=(cH ds).reverse:=by unfold tx;rw[if_neg hk0,hv]
 exact en (.inl rfl) rfl (bV (bD _)) (by decide) (fun _=>trivial) (congrArg (fun z=>FV.one (tv (.string z))) (congrArg aL (by unfold nB;rw[if_neg (lU h3),ht])))
theorem Hh {l:List Nat}(hl:Lim 256 l) (hn:l.length≤1000000):aE true Tryz.prog 23 [] [.one (tv (.string (aL l)))] (bC (.tup [kO (dM l),.one (tv (.int .i64 (eP l)))])):=by
 refine cL Tryz.func23 rfl Tryz.ntmps23 rfl aB rfl fun N9 w9 c0 h0=>?_
 have hL:=zI hl
 have hnL:=Nat.le_trans (zJ (l:=l)) hn
 refine sq ?_;refine rl ?_;refine al 0 ?_;refine o1 ?_;refine nl ?_
 refine md (γ:=Unit) (fun _=>cK [(0,.one (tv (.string (aL l)))),(2,.one (.pt 0 0)),(4,.one (tv (.bool (decide (l.take 1=[45])))))]) (fun _=>([⟨47,0,[tv (.bool false),tv (.slice none 0 0)]⟩]:List Ob).map some) (fun _=>True) ?_ fun _ _=>?_
 ·refine rl ?_;refine o1 ?_;refine o1 ?_;refine WL.cast (t:=9) (u':=.int .i64 ((l.length:Nat):Int)) rfl (congrArg (fun n:Nat=>Value.int .i64 (n:Int)) (aR _)) ?_
  refine o1 ?_;refine o1 ?_;refine WL.split (t:=11) rfl (fun h1=>?_) (fun h1=>?_)
  ·refine o1 ?_;refine o1 ?_ (hC:=(by rw[aR];show 0<l.length;omega))
   refine WL.cast (t:=13) (u':=.int .u8 (((nth l 0):Nat):Int)) rfl (congrArg (fun n:Nat=>Value.int .u8 (n:Int)) (fT (i:=0) (by omega) (gB hl (by omega)))) ?_
   (iterate 3 refine o1 ?_);refine nl ?_;exact⟨(),trivial,bH h0 [0] _ _ (by decide) ⟨rfl,rfl,Cu (Li (l:=l) (by omega)).symm,trivial⟩ ⟨oe rfl rfl,rfl⟩⟩
  (iterate 3 refine dL ?_);refine o1 ?_;refine o1 ?_;refine nl ?_;exact⟨(),trivial,bH h0 [0] _ _ (by decide) ⟨rfl,rfl,Cu (Hc (l:=l) (by omega)).symm,trivial⟩ ⟨oe rfl rfl,rfl⟩⟩
 refine md (γ:=Unit) (fun _=>cK [(2,.one (.pt 0 0)),(4,.one (tv (.bool (decide (l.take 1=[45]))))),(0,.one (tv (.string (aL (aO l)))))]) (fun _=>([⟨47,0,[tv (.bool false),tv (.slice none 0 0)]⟩]:List Ob).map some) (fun _=>True) ?_ fun _ _=>?_
 ·refine sq ?_;refine rl ?_;refine o1 ?_;refine nl ?_;refine gY rfl (fun h2=>?_) (fun h2=>?_)
  ·refine rl ?_;refine o1 ?_;refine o1 ?_ (hC:=(by rw[aR];show 1≤l.length;exact zD (of_decide_eq_true h2)))
   refine WL.cast (t:=18) (u':=.string (aL (aO l))) rfl (congrArg Value.string ((iG _ _).trans (Sq h2))) ?_;refine o1 ?_;refine nl ?_
   exact⟨(),trivial,bH h0 [0] _ _ (by decide) ⟨rfl,rfl,rfl,trivial⟩ ⟨oe rfl rfl,rfl⟩⟩
  refine sk ?_;exact⟨(),trivial,bH h0 [0] _ _ (by decide) ⟨rfl,rfl,(congrArg (fun b=>some (FV.one (tv (.string b)))) (Sp h2).symm),trivial⟩ ⟨oe rfl rfl,rfl⟩⟩
 refine sq ?_
 refine md (γ:=Unit) (fun _=>cK [(0,.one (tv (.string (aL (aO l))))),(2,.one (.pt 0 0)),(4,.one (tv (.bool (decide (l.take 1=[45]))))),(30,.one (tv (.bool (kC (aO l)))))]) (fun _=>([⟨47,0,[tv (.bool false),tv (.slice none 0 0)]⟩]:List Ob).map some) (fun _=>True) ?_ fun _ _=>?_
 ·refine rl ?_;refine o1 ?_;refine o1 ?_;refine WL.cast (t:=20) (u':=.bool (decide ((aO l)=[]))) rfl (congrArg Value.bool (iW hL)) ?_;refine o1 ?_
  refine WL.splitb (t:=21) rfl (fun h3=>?_) (fun h3=>?_)
  ·(iterate 8 refine dL ?_);refine o1 ?_;refine nl ?_;exact⟨(),trivial,bH h0 [0] _ _ (by decide) ⟨rfl,rfl,rfl,Cu (Pp h3).symm,trivial⟩ ⟨oe rfl rfl,rfl⟩⟩
  refine o1 ?_;have hp9:=zE h3
  refine o1 ?_ (hC:=(by rw[aR];show 0<(aO l).length;omega))
  refine WL.cast (t:=23) (u':=.int .u8 (((nth (aO l) 0):Nat):Int)) rfl (congrArg (fun n:Nat=>Value.int .u8 (n:Int)) (fT (i:=0) (by omega) (gB hL (by omega)))) ?_
  refine o1 ?_;refine o1 ?_;refine WL.split (t:=25) rfl (fun h4=>?_) (fun h4=>?_)
  ·refine o1 ?_;refine o1 ?_;refine WL.cast (t:=27) (u':=.int .i64 (((aO l).length:Nat):Int)) rfl (congrArg (fun n:Nat=>Value.int .i64 (n:Int)) (aR _)) ?_
   (iterate 3 refine o1 ?_);refine nl ?_;exact⟨(),trivial,bH h0 [0] _ _ (by decide) ⟨rfl,rfl,rfl,Cu (Pq h3 (by omega)).symm,trivial⟩ ⟨oe rfl rfl,rfl⟩⟩
  (iterate 3 refine dL ?_);refine o1 ?_;refine o1 ?_;refine nl ?_;exact⟨(),trivial,bH h0 [0] _ _ (by decide) ⟨rfl,rfl,rfl,Cu (Pr h3 (by omega)).symm,trivial⟩ ⟨oe rfl rfl,rfl⟩⟩
 refine gY rfl (fun h5=>?_) (fun h5=>?_)
 ·refine sq ?_;refine rl ?_;refine o1 ?_;refine st ?_;refine o1 ?_;refine nl ?_;refine rt ?_;have he:=kP (Ps h5)
  have hE:eP l=60:=by rw[eP,he,if_neg (by decide)]
  have hV:dM l=0:=if_neg (by rw[hE];decide)
  exact en (.inl rfl) rfl (dN (.cons (.agg (.cons (.id rfl) (.cons (.nil (t:=22) (z:=1)) .nil))) (.cons (bD _) .nil))) (by decide) (fun _=>⟨cI 0,trivial,trivial⟩) (by rw[hE,hV];rfl)
 refine sk ?_;refine sq ?_;refine rl ?_;refine o1 ?_;refine nl ?_;refine sq ?_;refine sq ?_;refine rl ?_;refine o1 ?_;refine nl ?_;refine bl ?_
 refine lp (γ:=Nat) (fun k=>cK [(0,.one (tv (.string (aL (aO l))))),(2,.one (.pt 0 0)),(4,.one (tv (.bool (decide (l.take 1=[45]))))),(5,.one (tv (.slice none 0 0))),(6,.one (tv (.int .i64 ((k:Nat):Int))))]) (fun k=>[(⟨47,0,[tv (.bool false),tv (.slice none 0 0)]⟩:Ob)].map some) (fun k=>k≤(aO l).length∧∀c∈(aO l).take k,48≤c∧c≤57) (fun k=>(aO l).length-k) 0 ⟨Nat.zero_le _,(by simp)⟩ (bH h0 [0] _ _ (by decide) ⟨rfl,rfl,rfl,rfl,rfl,trivial⟩ ⟨oe rfl rfl,rfl⟩) fun k hk=>?_
 refine sq ?_;refine sq ?_;refine rl ?_;(iterate 3 refine o1 ?_)
 refine WL.cast (t:=34) (u':=.int .i64 (((aO l).length:Nat):Int)) rfl (congrArg (fun n:Nat=>Value.int .i64 (n:Int)) (aR _)) ?_
 refine o1 ?_;refine nl ?_;refine cE rfl (fun h6=>?_) (fun h6=>?_)
 ·refine sk ?_;refine sq ?_;refine bl ?_;refine sq ?_;refine rl ?_;refine o1 ?_;refine o1 ?_;refine o1 ?_ (hC:=(by rw[aR];omega))
  refine WL.cast (t:=40) (u':=.int .u8 (((nth (aO l) k):Nat):Int)) rfl (congrArg (fun n:Nat=>Value.int .u8 (n:Int)) (fT (i:=k) (by omega) (gB hL (by omega)))) ?_
  refine o1 ?_;refine o1 ?_;refine WL.split (t:=42) rfl (fun h7=>?_) (fun h7=>?_)
  ·(iterate 4 refine dL ?_);refine o1 ?_;refine nl ?_;refine jS rfl ?_;refine sq ?_;refine rl ?_;refine o1 ?_;refine st ?_;refine o1 ?_;refine nl ?_;refine rt ?_
   have he:=kP (rK (Pu (l:=(aO l)) (k:=k) (by omega) (by omega)))
   have hE:eP l=60:=by rw[eP,he,if_neg (by decide)]
   have hV:dM l=0:=if_neg (by rw[hE];decide)
   exact en (.inl rfl) rfl (dN (.cons (.agg (.cons (.id rfl) (.cons (.nil (t:=22) (z:=1)) .nil))) (.cons (bD _) .nil))) (by decide) (fun _=>⟨cI 0,trivial,trivial⟩) (by rw[hE,hV];rfl)
  refine o1 ?_;refine o1 ?_;refine o1 ?_ (hC:=(by rw[aR];omega))
  refine WL.cast (t:=45) (u':=.int .u8 (((nth (aO l) k):Nat):Int)) rfl (congrArg (fun n:Nat=>Value.int .u8 (n:Int)) (fT (i:=k) (by omega) (gB hL (by omega)))) ?_
  refine o1 ?_;refine o1 ?_;refine nl ?_;refine cE rfl (fun h8=>?_) (fun h8=>?_)
  ·refine sq ?_;refine rl ?_;refine o1 ?_;refine st ?_;refine o1 ?_;refine nl ?_;refine rt ?_;have he:=kP (rK (Pu (l:=(aO l)) (k:=k) (by omega) (by omega)))
   have hE:eP l=60:=by rw[eP,he,if_neg (by decide)]
   have hV:dM l=0:=if_neg (by rw[hE];decide)
   exact en (.inl rfl) rfl (dN (.cons (.agg (.cons (.id rfl) (.cons (.nil (t:=22) (z:=1)) .nil))) (.cons (bD _) .nil))) (by decide) (fun _=>⟨cI 0,trivial,trivial⟩) (by rw[hE,hV];rfl)
  refine sk ?_;refine rl ?_;refine o1 ?_;refine o1 ?_;refine WL.cast (t:=37) (u':=.int .i64 ((k+1:Nat):Int)) rfl (aI (by omega)) ?_
  refine o1 ?_;refine nl ?_;exact⟨k+1,by omega,⟨by omega,So (by omega) hk.2 ⟨by omega,by omega⟩⟩,bH h0 [0] _ _ (by decide) ⟨rfl,rfl,rfl,rfl,rfl,trivial⟩ ⟨oe rfl rfl,rfl⟩⟩
 refine ex ?_;refine sq ?_;refine sq ?_;have hk9:(aO l).length≤k:=by omega
 have hdg:∀c∈(aO l),48≤c∧c≤57:=by have:=hk.2;rwa[List.take_of_length_le hk9]at this
 have hgd:=Pt h5 (Po hdg)
 refine rl ?_;refine o1 ?_;refine o1 ?_;refine WL.cast (t:=50) (u':=.int .i64 (((aO l).length:Nat):Int)) rfl (congrArg (fun n:Nat=>Value.int .i64 (n:Int)) (aR _)) ?_
 refine o1 ?_;refine nl ?_;refine cE rfl (fun h9=>?_) (fun h9=>?_)
 ·refine sq ?_;refine rl ?_;refine o1 ?_;refine st ?_;refine o1 ?_;refine nl ?_;refine rt ?_;have he:=Ha hgd (by omega)
  have hE:eP l=3:=by rw[eP,he,if_neg (by decide)]
  have hV:dM l=0:=if_neg (by rw[hE];decide)
  exact en (.inl rfl) rfl (dN (.cons (.agg (.cons (.id rfl) (.cons (.nil (t:=22) (z:=1)) .nil))) (.cons (bD _) .nil))) (by decide) (fun _=>⟨cI 0,trivial,trivial⟩) (by rw[hE,hV];rfl)
 refine sk ?_;refine sq ?_;refine sq ?_;refine rl ?_;refine o1 ?_;refine o1 ?_;refine WL.splitb (t:=54) rfl (fun h10=>?_) (fun h10=>?_)
 ·refine o1 ?_;refine o1 ?_;refine WL.cast (t:=56) (u':=.bool (decide ((aO l)=[48]))) rfl (congrArg Value.bool (qU (l':=[48]) hL (Lim.cons (by omega) Lim.nil))) ?_
  refine o1 ?_;refine nl ?_;refine gY rfl (fun h11=>?_) (fun h11=>?_)
  ·refine sq ?_;refine rl ?_;refine o1 ?_;refine st ?_;refine o1 ?_;refine nl ?_;refine rt ?_;have he0:fR (aO l)=0:=wO hgd (by omega)
   have hE:eP l=2:=by rw[eP,if_pos he0,if_pos ⟨of_decide_eq_true h10,(wP hgd).2 (of_decide_eq_true h11)⟩]
   have hV:dM l=0:=if_neg (by rw[hE];decide)
   exact en (.inl rfl) rfl (dN (.cons (.agg (.cons (.id rfl) (.cons (.nil (t:=22) (z:=1)) .nil))) (.cons (bD _) .nil))) (by decide) (fun _=>⟨cI 0,trivial,trivial⟩) (by rw[hE,hV];rfl)
  refine sk ?_;refine sq ?_;refine sq ?_;refine rl ?_;refine o1 ?_;refine nl ?_;refine bl ?_
  refine lp (γ:=Nat) (fun s=>cK [(0,.one (tv (.string (aL (aO l))))),(2,.one (.pt 0 0)),(4,.one (tv (.bool (decide (l.take 1=[45]))))),(5,.one (.t (sU false (dg 4294967296 ((aW ((aO l).take s))))))),(7,.one (tv (.int .i64 ((s:Nat):Int))))]) (fun s=>[(⟨47,0,[tv (.bool false),tv (.slice none 0 0)]⟩:Ob)].map some) (fun s=>s≤(aO l).length) (fun s=>(aO l).length-s) 0 (Nat.zero_le _) (((nr (i:=5) 1 22 1 rfl rfl rfl rfl).trans (Pe (i:=5) (zs:=[]) (zs':=[]) rfl rfl rfl rfl rfl)).trans (bH h0 [0] _ _ (by decide) ⟨rfl,rfl,rfl,rfl,rfl,trivial⟩ ⟨oe rfl rfl,rfl⟩)) ?_
  rintro k hk2;have hl1:=iJ hdg hk2
  have hl2:=fM (aW ((aO l).take k)) 10
  have hl3:(dg 4294967296 10).length≤1:=bF (by omega) (by decide)
  refine sq ?_;refine sq ?_;refine rl ?_;(iterate 3 refine o1 ?_)
  refine WL.cast (t:=61) (u':=.int .i64 (((aO l).length:Nat):Int)) rfl (congrArg (fun n:Nat=>Value.int .i64 (n:Int)) (aR _)) ?_
  refine o1 ?_;refine nl ?_;refine cE rfl (fun h12=>?_) (fun h12=>?_)
  ·refine sk ?_;refine sq ?_;refine bl ?_;have hdk:=rI hdg (k:=k) (by omega)
   refine rd [0] (fun i=>[9].contains i) mixed ?_
   refine dv 0 ?_;refine dv 2 ?_;refine dv 3 ?_;refine dv 4 ?_ (hC:=(by rw[aR];omega))
   refine WD.cast (t:=69) (u':=.int .u8 (((nth (aO l) k):Nat):Int)) rfl (congrArg (fun n:Nat=>Value.int .u8 (n:Int)) (fT (i:=k) (by omega) (gB hL (by omega)))) ?_
   refine dv 5 ?_;refine WD.cast (t:=70) (u':=.int .u8 (((nth (aO l) k)-48:Nat):Int)) rfl (aI (by omega)) ?_
   refine dv 6 ?_;refine WD.cast (t:=71) (u':=.int .u32 (((nth (aO l) k)-48:Nat):Int)) rfl (aI (by omega)) ?_
   refine WO.two (i:=1) (j:=7) (by kernel_rfl) ?_ ?_
   ·refine hG 1 rfl (pB (u:=(aW ((aO l).take k))) (m:=10) (by omega) (by omega)) Al ⟨a1 rfl,a1 rfl,rfl⟩ (.one (.t (sU false (dg 4294967296 ((aW ((aO l).take k))*10))))) ?_
    refine Ag (key:=1) 7 (by kernel_rfl) rfl rfl aB rfl ⟨rfl,trivial⟩ ?_
    refine bS 8 rfl (pC (u:=(aW ((aO l).take k))*10) (x:=nth (aO l) k-48) (by omega) (by omega)) Ak ⟨a1 rfl,jF rfl (.sl (trs:=aS [nth (aO l) k-48]) rfl rfl rfl rfl),rfl⟩ (.one (.t (sU false (dg 4294967296 ((aW ((aO l).take k))*10+(nth (aO l) k-48)))))) ?_
    refine nY 9 (by kernel_rfl) rfl rfl aB rfl (by trivial) ?_ (fun h=>by first | rfl | cases h)
    refine cR ?_;refine rl ?_;refine o1 ?_;refine o1 ?_;refine WL.cast (t:=64) (u':=.int .i64 ((k+1:Nat):Int)) rfl (aI (by omega)) ?_
    refine o1 ?_;refine nl ?_
    exact⟨k+1,by omega,by omega,bH h0 [0] _ _ (by decide) ⟨rfl,rfl,rfl,(congrArg (fun z:Nat=>some (FV.one (.t (sU false (dg 4294967296 z))))) (uG (l:=aO l) (k:=k) (by omega)).symm),rfl,trivial⟩ ⟨oe rfl rfl,rfl⟩⟩
   refine Ny (key:=1) 7 rfl rfl ⟨rfl,trivial⟩ ?_
   refine bS 1 rfl (pB (u:=(aW ((aO l).take k))) (m:=10) (by omega) (by omega)) Al ⟨a1 rfl,a1 rfl,rfl⟩ (.one (.t (sU false (dg 4294967296 ((aW ((aO l).take k))*10))))) ?_
   refine bS 8 rfl (pC (u:=(aW ((aO l).take k))*10) (x:=nth (aO l) k-48) (by omega) (by omega)) Ak ⟨a1 rfl,jF rfl (.sl (trs:=aS [nth (aO l) k-48]) rfl rfl rfl rfl),rfl⟩ (.one (.t (sU false (dg 4294967296 ((aW ((aO l).take k))*10+(nth (aO l) k-48)))))) ?_
   refine nY 9 (by kernel_rfl) rfl rfl aB rfl (by trivial) ?_ (fun h=>by first | rfl | cases h)
   refine cR ?_;refine rl ?_;refine o1 ?_;refine o1 ?_;refine WL.cast (t:=64) (u':=.int .i64 ((k+1:Nat):Int)) rfl (aI (by omega)) ?_
   refine o1 ?_;refine nl ?_
   exact⟨k+1,by omega,by omega,bH h0 [0] _ _ (by decide) ⟨rfl,rfl,rfl,(congrArg (fun z:Nat=>some (FV.one (.t (sU false (dg 4294967296 z))))) (uG (l:=aO l) (k:=k) (by omega)).symm),rfl,trivial⟩ ⟨oe rfl rfl,rfl⟩⟩
  refine ex ?_;refine sq ?_;have hkk:(aO l).take k=(aO l):=List.take_of_length_le (by omega)
  have he0:fR (aO l)=0:=wO hgd (by omega)
  have hE:eP l=0:=by rw[eP,if_pos he0,if_neg];rintro⟨_,h9⟩;exact of_decide_eq_false h11 ((wP hgd).1 h9)
  have hK:cG (decide (l.take 1=[45])) (vl 4294967296 (dg 4294967296 ((aW ((aO l).take k)))))=dM l:=by rw[bM (by omega),hkk,dM,if_pos hE,if_pos (of_decide_eq_true h10),h10];rfl
  refine rl ?_;refine o1 ?_;refine o1 ?_
  refine hH 1 (sS (b:=(decide (l.take 1=[45]))) (xs:=(dg 4294967296 ((aW ((aO l).take k))))) (K:=dM l) (by omega) (aQ (by omega) _) hK) Fz ⟨a1 rfl,a1 rfl,rfl⟩ ?_
  refine st ?_;refine o1 ?_;refine nl ?_;refine rt ?_
  exact en (.inl rfl) rfl (dN (.cons (.agg (.cons (.id rfl) (.cons (.sl (trs:=aS (dg 4294967296 ((dM l)).natAbs)) rfl rfl (bY _) (bO _)) .nil))) (.cons (bD _) .nil))) (by decide) (fun _=>⟨cI (dM l),trivial,trivial⟩) (by rw[hE];rfl)
 refine dL ?_;refine dL ?_;refine o1 ?_;refine nl ?_;refine gZ rfl ?_;refine sk ?_;refine sq ?_;refine sq ?_;refine rl ?_;refine o1 ?_;refine nl ?_;refine bl ?_
 refine lp (γ:=Nat) (fun s=>cK [(0,.one (tv (.string (aL (aO l))))),(2,.one (.pt 0 0)),(4,.one (tv (.bool (decide (l.take 1=[45]))))),(5,.one (.t (sU false (dg 4294967296 ((aW ((aO l).take s))))))),(7,.one (tv (.int .i64 ((s:Nat):Int))))]) (fun s=>[(⟨47,0,[tv (.bool false),tv (.slice none 0 0)]⟩:Ob)].map some) (fun s=>s≤(aO l).length) (fun s=>(aO l).length-s) 0 (Nat.zero_le _) (((nr (i:=5) 1 22 1 rfl rfl rfl rfl).trans (Pe (i:=5) (zs:=[]) (zs':=[]) rfl rfl rfl rfl rfl)).trans (bH h0 [0] _ _ (by decide) ⟨rfl,rfl,rfl,rfl,rfl,trivial⟩ ⟨oe rfl rfl,rfl⟩)) ?_
 rintro k hk2;have hl1:=iJ hdg hk2
 have hl2:=fM (aW ((aO l).take k)) 10
 have hl3:(dg 4294967296 10).length≤1:=bF (by omega) (by decide)
 refine sq ?_;refine sq ?_;refine rl ?_;(iterate 3 refine o1 ?_)
 refine WL.cast (t:=61) (u':=.int .i64 (((aO l).length:Nat):Int)) rfl (congrArg (fun n:Nat=>Value.int .i64 (n:Int)) (aR _)) ?_
 refine o1 ?_;refine nl ?_;refine cE rfl (fun h13=>?_) (fun h13=>?_)
 ·refine sk ?_;refine sq ?_;refine bl ?_;have hdk:=rI hdg (k:=k) (by omega)
  refine rd [0] (fun i=>[9].contains i) mixed ?_
  refine dv 0 ?_;refine dv 2 ?_;refine dv 3 ?_;refine dv 4 ?_ (hC:=(by rw[aR];omega))
  refine WD.cast (t:=69) (u':=.int .u8 (((nth (aO l) k):Nat):Int)) rfl (congrArg (fun n:Nat=>Value.int .u8 (n:Int)) (fT (i:=k) (by omega) (gB hL (by omega)))) ?_
  refine dv 5 ?_;refine WD.cast (t:=70) (u':=.int .u8 (((nth (aO l) k)-48:Nat):Int)) rfl (aI (by omega)) ?_
  refine dv 6 ?_;refine WD.cast (t:=71) (u':=.int .u32 (((nth (aO l) k)-48:Nat):Int)) rfl (aI (by omega)) ?_
  refine WO.two (i:=1) (j:=7) (by kernel_rfl) ?_ ?_
  ·refine hG 1 rfl (pB (u:=(aW ((aO l).take k))) (m:=10) (by omega) (by omega)) Al ⟨a1 rfl,a1 rfl,rfl⟩ (.one (.t (sU false (dg 4294967296 ((aW ((aO l).take k))*10))))) ?_
   refine Ag (key:=1) 7 (by kernel_rfl) rfl rfl aB rfl ⟨rfl,trivial⟩ ?_
   refine bS 8 rfl (pC (u:=(aW ((aO l).take k))*10) (x:=nth (aO l) k-48) (by omega) (by omega)) Ak ⟨a1 rfl,jF rfl (.sl (trs:=aS [nth (aO l) k-48]) rfl rfl rfl rfl),rfl⟩ (.one (.t (sU false (dg 4294967296 ((aW ((aO l).take k))*10+(nth (aO l) k-48)))))) ?_
   refine nY 9 (by kernel_rfl) rfl rfl aB rfl (by trivial) ?_ (fun h=>by first | rfl | cases h)
   refine cR ?_;refine rl ?_;refine o1 ?_;refine o1 ?_;refine WL.cast (t:=64) (u':=.int .i64 ((k+1:Nat):Int)) rfl (aI (by omega)) ?_
   refine o1 ?_;refine nl ?_
   exact⟨k+1,by omega,by omega,bH h0 [0] _ _ (by decide) ⟨rfl,rfl,rfl,(congrArg (fun z:Nat=>some (FV.one (.t (sU false (dg 4294967296 z))))) (uG (l:=aO l) (k:=k) (by omega)).symm),rfl,trivial⟩ ⟨oe rfl rfl,rfl⟩⟩
  refine Ny (key:=1) 7 rfl rfl ⟨rfl,trivial⟩ ?_
  refine bS 1 rfl (pB (u:=(aW ((aO l).take k))) (m:=10) (by omega) (by omega)) Al ⟨a1 rfl,a1 rfl,rfl⟩ (.one (.t (sU false (dg 4294967296 ((aW ((aO l).take k))*10))))) ?_
  refine bS 8 rfl (pC (u:=(aW ((aO l).take k))*10) (x:=nth (aO l) k-48) (by omega) (by omega)) Ak ⟨a1 rfl,jF rfl (.sl (trs:=aS [nth (aO l) k-48]) rfl rfl rfl rfl),rfl⟩ (.one (.t (sU false (dg 4294967296 ((aW ((aO l).take k))*10+(nth (aO l) k-48)))))) ?_
  refine nY 9 (by kernel_rfl) rfl rfl aB rfl (by trivial) ?_ (fun h=>by first | rfl | cases h)
  refine cR ?_;refine rl ?_;refine o1 ?_;refine o1 ?_;refine WL.cast (t:=64) (u':=.int .i64 ((k+1:Nat):Int)) rfl (aI (by omega)) ?_
  refine o1 ?_;refine nl ?_
  exact⟨k+1,by omega,by omega,bH h0 [0] _ _ (by decide) ⟨rfl,rfl,rfl,(congrArg (fun z:Nat=>some (FV.one (.t (sU false (dg 4294967296 z))))) (uG (l:=aO l) (k:=k) (by omega)).symm),rfl,trivial⟩ ⟨oe rfl rfl,rfl⟩⟩
 refine ex ?_;refine sq ?_;have hkk:(aO l).take k=(aO l):=List.take_of_length_le (by omega)
 have he0:fR (aO l)=0:=wO hgd (by omega)
 have hE:eP l=0:=by rw[eP,if_pos he0,if_neg (fun h=>of_decide_eq_false h10 h.1)]
 have hK:cG (decide (l.take 1=[45])) (vl 4294967296 (dg 4294967296 ((aW ((aO l).take k)))))=dM l:=by rw[bM (by omega),hkk,dM,if_pos hE,if_neg (of_decide_eq_false h10),h10];rfl
 refine rl ?_;refine o1 ?_;refine o1 ?_
 refine hH 1 (sS (b:=(decide (l.take 1=[45]))) (xs:=(dg 4294967296 ((aW ((aO l).take k))))) (K:=dM l) (by omega) (aQ (by omega) _) hK) Fz ⟨a1 rfl,a1 rfl,rfl⟩ ?_
 refine st ?_;refine o1 ?_;refine nl ?_;refine rt ?_
 exact en (.inl rfl) rfl (dN (.cons (.agg (.cons (.id rfl) (.cons (.sl (trs:=aS (dg 4294967296 ((dM l)).natAbs)) rfl rfl (bY _) (bO _)) .nil))) (.cons (bD _) .nil))) (by decide) (fun _=>⟨cI (dM l),trivial,trivial⟩) (by rw[hE];rfl)
theorem sV {a:Zi}(ha:a.x.length≤1000000):aE true Tryz.prog 28 [] [gF a,gF a] (bC (.one (tv (.bool true)))):=Bj a▸Pz ha ha
theorem Qc {a:Zi}{k:Int}(ha:Zn a k):aE true Tryz.prog 38 [] [gF a,gF a] (bC (.one (tv (.int .i64 0)))):=by
 have h:=Sk ha.g ha.g (by rw[Int.sub_self];exact Nat.zero_le _)
 rw[Int.sub_self]at h
 exact h
theorem jG {k:Int}(h:k.natAbs<4294967296^4):Zn (.of k) k:=Zn.of (Nat.le_trans (nC h) (by omega))
theorem Hi {a b q r:Int}(ha:a.natAbs<4294967296^4) (hb:b.natAbs<4294967296^4) (h0:b≠0) (hq:a.fdiv b=q) (hr:a.fmod b=r):aE true Tryz.prog 33 [] [kF a,kF b] (bC (.tup [kO q,kO r,.one (tv (.int .i64 0))])):=by
 subst hq hr
 exact Gz (jG ha).g (jG hb).g h0
theorem Su {a b q:Int}(ha:a.natAbs<4294967296^4) (hb:b.natAbs<4294967296^4) (hq:a*b=q):aE true Tryz.prog 37 [] [kF a,kF b] (bC (kO q)):=by
 subst hq
 exact Sl (jG ha).g (jG hb).g
theorem Iv {a b q:Int}(ha:a.natAbs<4294967296^4) (hb:b.natAbs<4294967296^4) (hq:((Int.gcd a b:Nat):Int)=q):aE true Tryz.prog 41 [] [kF a,kF b] (bC (kO q)):=by
 subst hq
 exact Sm (jG ha).g (jG hb).g
theorem Qd {n k:Nat}(h:4294967296^k≤n):k<(dg 4294967296 n).length:=by
 have h1:=iK (B:=4294967296) (n:=n) (by omega)
 exact(Nat.pow_lt_pow_iff_right (a:=4294967296) (by omega)).1 (Nat.lt_of_le_of_lt h h1)
def wd:List Nat:=[6,1,6,1,5,5,9,0,7,3,7,0,4,4,7,6,4,4,8,1]
theorem Sv:dg 10 18446744073709551616=wd:=(Hq (l:=wd) (by omega) (fun d hd=>by revert d;decide) (by decide)).symm.trans (by decide)
theorem Sx:nB (-18446744073709551616)=[45,49,56,52,52,54,55,52,52,48,55,51,55,48,57,53,53,49,54,49,54]:=by
 have e:(-18446744073709551616:Int).natAbs=18446744073709551616:=by decide
 unfold nB tx
 rw[if_pos (by decide),e,if_neg (by decide),Sv]
 decide
theorem Sy:((aL (nB (-18446744073709551616))).toList==(⟨#[45,49,56,52,52,54,55,52,52,48,55,51,55,48,57,53,53,49,54,49,54]⟩:ByteArray).toList)=true:=by
 rw[Sx]
 exact(qU (l:=[45,49,56,52,52,54,55,52,52,48,55,51,55,48,57,53,53,49,54,49,54]) (l':=[45,49,56,52,52,54,55,52,52,48,55,51,55,48,57,53,53,49,54,49,54]) (fun d hd=>by revert d;decide) (fun d hd=>by revert d;decide)).trans (decide_eq_true rfl)
theorem oJ {a:Zi}{k:Int}(ha:a.x.length≤1000000) (hk:Zn a k):aE true Tryz.prog 35 [] [gF a,gF a] (bC (.one (tv (.bool true)))):=by
 refine cL Tryz.func35 rfl Tryz.ntmps35 rfl aB rfl fun N9 w9 c0 h0=>?_
 refine sq ?_;refine rl ?_;refine bx 0 ?_;refine bx 1 ?_;refine o1 ?_;refine nl ?_;refine sq ?_;refine rd [0,1] (fun i=>[10].contains i) mixed ?_
 refine cT 0 ?_;refine cT 1 ?_;refine bS 2 rfl (Bn ha) Fv ⟨aV rfl,rfl⟩ (gF a) ?_;refine bS 3 rfl (sV ha) Fw ⟨aV rfl,aV rfl,rfl⟩ (.one (tv (.bool true))) ?_;refine df 4 ?_
 refine cT 5 ?_;refine cT 6 ?_;refine bS 7 rfl (Qc hk) Uq ⟨aV rfl,aV rfl,rfl⟩ (.one (tv (.int .i64 0))) ?_;refine df 8 ?_
 refine WD.cast (t:=13) (u':=.bool true) rfl (congrArg Value.bool rfl) ?_;refine df 9 ?_;refine nY 10 (by kernel_rfl) rfl rfl aB rfl (by trivial) ?_ (fun h=>by first | rfl | cases h)
 refine cR ?_;refine rt ?_;exact oE (.inl rfl) rfl (rfl)
theorem sW:aE true Tryz.prog 21 [] [] (bC (.one (tv (.bool true)))):=by
 refine cL Tryz.func21 rfl Tryz.ntmps21 rfl aB rfl fun N9 w9 c0 h0=>?_
 refine sq ?_;refine rl ?_;refine o1 ?_;refine nl ?_;refine sq ?_;refine rl ?_;refine ca (eE (n:=(-7)) (by omega) (by omega)) eD ⟨a1 rfl,rfl⟩ (kF (-7)) ?_
 refine ca (eE (n:=2) (by omega) (by omega)) eD ⟨a1 rfl,rfl⟩ (kF 2) ?_
 refine ca (Hi (a:=(-7)) (b:=2) (q:=(-4)) (r:=1) (by decide) (by decide) (by decide) (by decide) (by decide)) Fy ⟨aV rfl,aV rfl,rfl⟩ (.tup [kF (-4),kF 1,.one (tv (.int .i64 0))]) ?_
 (iterate 4 refine o1 ?_);refine al 0 ?_;refine al 1 ?_;refine st ?_;refine st ?_;refine o1 ?_;refine nl ?_;refine sq ?_;refine rl ?_
 refine ca (eE (n:=7) (by omega) (by omega)) eD ⟨a1 rfl,rfl⟩ (kF 7) ?_
 refine ca (eE (n:=(-2)) (by omega) (by omega)) eD ⟨a1 rfl,rfl⟩ (kF (-2)) ?_
 refine ca (Hi (a:=7) (b:=(-2)) (q:=(-4)) (r:=(-1)) (by decide) (by decide) (by decide) (by decide) (by decide)) Fy ⟨aV rfl,aV rfl,rfl⟩ (.tup [kF (-4),kF (-1),.one (tv (.int .i64 0))]) ?_
 (iterate 4 refine o1 ?_);refine al 2 ?_;refine al 3 ?_;refine st ?_;refine st ?_;refine o1 ?_;refine nl ?_;refine sq ?_;refine rl ?_
 refine ca (eE (n:=(-7)) (by omega) (by omega)) eD ⟨a1 rfl,rfl⟩ (kF (-7)) ?_
 refine ca (eE (n:=(-2)) (by omega) (by omega)) eD ⟨a1 rfl,rfl⟩ (kF (-2)) ?_
 refine ca (Hi (a:=(-7)) (b:=(-2)) (q:=3) (r:=(-1)) (by decide) (by decide) (by decide) (by decide) (by decide)) Fy ⟨aV rfl,aV rfl,rfl⟩ (.tup [kF 3,kF (-1),.one (tv (.int .i64 0))]) ?_
 (iterate 4 refine o1 ?_);refine al 4 ?_;refine al 5 ?_;refine st ?_;refine st ?_;refine o1 ?_;refine nl ?_;refine sq ?_;refine rl ?_
 refine ca (eE (n:=(-4294967296)) (by omega) (by omega)) eD ⟨a1 rfl,rfl⟩ (kF (-4294967296)) ?_
 refine ca (eE (n:=4294967296) (by omega) (by omega)) eD ⟨a1 rfl,rfl⟩ (kF 4294967296) ?_
 refine ca (Su (a:=(-4294967296)) (b:=4294967296) (q:=(-18446744073709551616)) (by decide) (by decide) (by decide)) Up ⟨aV rfl,aV rfl,rfl⟩ (kF (-18446744073709551616)) ?_
 refine al 6 ?_;refine st ?_;refine nl ?_;refine sq ?_;refine rl ?_;refine ld ?_
 refine ca (Ln (a:=.of (-18446744073709551616)) (k:=(-18446744073709551616)) (jG (by decide)) (Qd (by decide))) Fu ⟨aV rfl,rfl⟩ (.tup [.one (tv (.int .i64 0)),.one (tv (.bool false))]) ?_
 (iterate 5 refine o1 ?_);refine nl ?_;refine sq ?_;refine rd [0,1,2,3,4,5,6] (fun i=>[67].contains i) mixed ?_
 refine dv 0 ?_;refine dv 1 ?_;refine WD.cast (t:=43) (u':=.bool true) rfl (congrArg Value.bool rfl) ?_;refine dv 2 ?_;refine dv 3 ?_;refine dv 4 ?_
 refine WD.cast (t:=46) (u':=.bool true) rfl (congrArg Value.bool rfl) ?_;refine dv 5 ?_;refine dv 6 ?_;refine dv 7 ?_;refine dv 8 ?_
 refine WD.cast (t:=50) (u':=.bool true) rfl (congrArg Value.bool rfl) ?_;refine dv 9 ?_;refine dv 10 ?_;refine cT 11 ?_
 refine bS 12 rfl (eE (n:=(-4)) (by omega) (by omega)) eD ⟨a1 rfl,rfl⟩ (kF (-4)) ?_
 refine bS 13 rfl (oJ (a:=.of (-4)) (k:=(-4)) (Nat.le_trans (nC (by decide)) (by omega)) (jG (by decide))) oB ⟨aV rfl,aV rfl,rfl⟩ (.one (tv (.bool true))) ?_
 refine df 14 ?_;refine df 15 ?_;refine cT 16 ?_;refine bS 17 rfl (eE (n:=1) (by omega) (by omega)) eD ⟨a1 rfl,rfl⟩ (kF 1) ?_
 refine bS 18 rfl (oJ (a:=.of 1) (k:=1) (Nat.le_trans (nC (by decide)) (by omega)) (jG (by decide))) oB ⟨aV rfl,aV rfl,rfl⟩ (.one (tv (.bool true))) ?_
 refine df 19 ?_;refine df 20 ?_;refine cT 21 ?_;refine bS 22 rfl (eE (n:=(-4)) (by omega) (by omega)) eD ⟨a1 rfl,rfl⟩ (kF (-4)) ?_
 refine bS 23 rfl (oJ (a:=.of (-4)) (k:=(-4)) (Nat.le_trans (nC (by decide)) (by omega)) (jG (by decide))) oB ⟨aV rfl,aV rfl,rfl⟩ (.one (tv (.bool true))) ?_
 refine df 24 ?_;refine df 25 ?_;refine cT 26 ?_;refine bS 27 rfl (eE (n:=(-1)) (by omega) (by omega)) eD ⟨a1 rfl,rfl⟩ (kF (-1)) ?_
 refine bS 28 rfl (oJ (a:=.of (-1)) (k:=(-1)) (Nat.le_trans (nC (by decide)) (by omega)) (jG (by decide))) oB ⟨aV rfl,aV rfl,rfl⟩ (.one (tv (.bool true))) ?_
 refine df 29 ?_;refine df 30 ?_;refine cT 31 ?_;refine bS 32 rfl (eE (n:=3) (by omega) (by omega)) eD ⟨a1 rfl,rfl⟩ (kF 3) ?_
 refine bS 33 rfl (oJ (a:=.of 3) (k:=3) (Nat.le_trans (nC (by decide)) (by omega)) (jG (by decide))) oB ⟨aV rfl,aV rfl,rfl⟩ (.one (tv (.bool true))) ?_
 refine df 34 ?_;refine df 35 ?_;refine cT 36 ?_;refine bS 37 rfl (eE (n:=(-1)) (by omega) (by omega)) eD ⟨a1 rfl,rfl⟩ (kF (-1)) ?_
 refine bS 38 rfl (oJ (a:=.of (-1)) (k:=(-1)) (Nat.le_trans (nC (by decide)) (by omega)) (jG (by decide))) oB ⟨aV rfl,aV rfl,rfl⟩ (.one (tv (.bool true))) ?_
 refine df 39 ?_;refine df 40 ?_;refine bS 41 rfl (eE (n:=(-12)) (by omega) (by omega)) eD ⟨a1 rfl,rfl⟩ (kF (-12)) ?_
 refine bS 42 rfl (eE (n:=18) (by omega) (by omega)) eD ⟨a1 rfl,rfl⟩ (kF 18) ?_
 refine bS 43 rfl (Iv (a:=(-12)) (b:=18) (q:=6) (by decide) (by decide) (by decide)) Nn ⟨aV rfl,aV rfl,rfl⟩ (kF 6) ?_
 refine bS 44 rfl (eE (n:=6) (by omega) (by omega)) eD ⟨a1 rfl,rfl⟩ (kF 6) ?_
 refine bS 45 rfl (oJ (a:=.of 6) (k:=6) (Nat.le_trans (nC (by decide)) (by omega)) (jG (by decide))) oB ⟨aV rfl,aV rfl,rfl⟩ (.one (tv (.bool true))) ?_
 refine df 46 ?_;refine df 47 ?_;refine bS 48 rfl (eE (n:=0) (by omega) (by omega)) eD ⟨a1 rfl,rfl⟩ (kF 0) ?_
 refine bS 49 rfl (eE (n:=(-5)) (by omega) (by omega)) eD ⟨a1 rfl,rfl⟩ (kF (-5)) ?_
 refine bS 50 rfl (Iv (a:=0) (b:=(-5)) (q:=5) (by decide) (by decide) (by decide)) Nn ⟨aV rfl,aV rfl,rfl⟩ (kF 5) ?_
 refine bS 51 rfl (eE (n:=5) (by omega) (by omega)) eD ⟨a1 rfl,rfl⟩ (kF 5) ?_
 refine bS 52 rfl (oJ (a:=.of 5) (k:=5) (Nat.le_trans (nC (by decide)) (by omega)) (jG (by decide))) oB ⟨aV rfl,aV rfl,rfl⟩ (.one (tv (.bool true))) ?_
 refine df 53 ?_;refine df 54 ?_;refine cT 55 ?_
 refine bS 56 rfl (Iu (a:=.of (-18446744073709551616)) (k:=(-18446744073709551616)) (jG (by decide)) (Nat.le_trans (nC (by decide)) (by omega))) Nm ⟨aV rfl,rfl⟩ (.one (tv (.string (aL (nB (-18446744073709551616)))))) ?_
 refine df 57 ?_;refine WD.cast (t:=99) (u':=.bool true) rfl (congrArg Value.bool Sy) ?_;refine df 58 ?_;refine df 59 ?_;refine dv 60 ?_;refine dv 61 ?_
 refine WD.cast (t:=103) (u':=.bool true) rfl (congrArg Value.bool rfl) ?_;refine df 62 ?_;refine df 63 ?_;refine dv 64 ?_;refine dv 65 ?_;refine df 66 ?_
 refine nY 67 (by kernel_rfl) rfl rfl aB rfl (by trivial) ?_ (fun h=>by first | rfl | cases h)
 refine cR ?_;refine rt ?_;exact oE (.inl rfl) rfl (rfl)
theorem En {n:Int}(h1:-9223372036854775808≤n) (h2:n≤9223372036854775807):eR n=true:=decide_eq_true ⟨h1,h2⟩
theorem Eo {n:Int}(h1:-9223372036854775808≤n) (h2:n≤9223372036854775807):(dg 4294967296 n.natAbs).length≤2:=zC (En h1 h2)
theorem Hj {n:Int}(h1:-9223372036854775808≤n) (h2:n≤9223372036854775807):aE true Tryz.prog 24 [] [kF n] (bC (.tup [.one (tv (.int .i64 n)),.one (tv (.bool true))])):=by
 have hl:=Eo h1 h2
 have h:=wR (a:=.of n) (k:=n) (Zn.of (by omega))
 rw[En h1 h2,if_pos rfl]at h
 exact h
theorem Bo {a:Zi}{l:List Nat}{n:Int}(hla:Lim 4294967296 a.x) (hl:Lim 256 l) (hn1:-9223372036854775808≤n) (hn2:n≤9223372036854775807):aE true Tryz.prog 5 [] [gF a,.one (tv (.string (aL l))),.one (tv (.int .i64 n))] (bC (.one (tv (.bool true)))):=by
 refine cL Tryz.func5 rfl Tryz.ntmps5 rfl aB rfl fun N9 w9 c0 h0=>?_
 refine sq ?_;refine rl ?_;refine bx 0 ?_;refine o1 ?_;refine nl ?_;refine sq ?_;refine sq ?_;refine rl ?_;refine o1 ?_;refine ld ?_;(iterate 3 refine o1 ?_)
 refine WL.split (t:=21) rfl (fun h1=>?_) (fun h1=>?_)
 ·(iterate 3 refine dL ?_);refine o1 ?_;refine nl ?_;refine jS rfl ?_;refine sq ?_;refine rl ?_;refine ca (sW) Ft rfl (.one (tv (.bool true))) ?_;refine o1 ?_;refine nl ?_
  refine rt ?_;exact oE (.inl rfl) rfl (rfl)
 refine o1 ?_;refine o1 ?_;refine WL.cast (t:=23) (u':=.int .i64 ((l.length:Nat):Int)) rfl (congrArg (fun n:Nat=>Value.int .i64 (n:Int)) (aR _)) ?_
 refine o1 ?_;refine o1 ?_;refine nl ?_;refine cE rfl (fun h2=>?_) (fun h2=>?_)
 ·refine sq ?_;refine rl ?_;refine ca (sW) Ft rfl (.one (tv (.bool true))) ?_;refine o1 ?_;refine nl ?_;refine rt ?_;exact oE (.inl rfl) rfl (rfl)
 refine sk ?_;refine sq ?_;obtain⟨k,hka⟩:∃k,k=zv a:=⟨_,rfl⟩
 have hza:ZL 30 a:=⟨hla,by omega⟩
 have ha:Zn a k:=hka▸hza.n (by omega)
 have hkl:(dg 4294967296 k.natAbs).length≤1000000:=Nat.le_trans (bF (by omega) (hka▸Sn hza)) (by omega)
 have hnl:=Eo hn1 hn2
 have hpl:=Lj l
 refine rl ?_;refine o1 ?_;refine ca (Lp hl (by omega)) Uj ⟨a1 rfl,rfl⟩ (.tup [kF (dM l),.one (tv (.int .i64 (eP l)))]) ?_
 (iterate 3 refine o1 ?_);refine al 1 ?_;refine st ?_;refine o1 ?_;refine nl ?_;refine sq ?_;refine rl ?_;refine o1 ?_
 refine ca (Hh hl (by omega)) Uk ⟨a1 rfl,rfl⟩ (.tup [kF (dM l),.one (tv (.int .i64 (eP l)))]) ?_
 (iterate 3 refine o1 ?_);refine al 2 ?_;refine st ?_;refine o1 ?_;refine nl ?_;refine sq ?_;refine rl ?_;refine ld ?_
 refine ca (wR ha) Fu ⟨aV rfl,rfl⟩ (.tup [.one (tv (.int .i64 (if eR k then k else 0))),.one (tv (.bool (eR k)))]) ?_;(iterate 5 refine o1 ?_);refine nl ?_;refine sq ?_
 refine rl ?_;refine ld ?_;refine ca (Bn (a:=a) (by omega)) Fv ⟨aV rfl,rfl⟩ (gF a) ?_
 refine ca (Lr ha) Ul ⟨aV rfl,rfl⟩ (.tup [.one (tv (.int .i64 (if eR k then k else 0))),.one (tv (.bool (eR k)))]) ?_;(iterate 5 refine o1 ?_);refine nl ?_;refine sq ?_
 refine rl ?_;refine o1 ?_;refine ca (eE hn1 hn2) eD ⟨a1 rfl,rfl⟩ (kF n) ?_;refine ca (Hj hn1 hn2) Fu ⟨aV rfl,rfl⟩ (.tup [.one (tv (.int .i64 n)),.one (tv (.bool true))]) ?_
 (iterate 5 refine o1 ?_);refine nl ?_;refine sq ?_;refine rd [0,1,2] (fun i=>[44].contains i) mixed ?_
 refine dv 0 ?_;refine dv 1 ?_;refine dv 2 ?_;refine WD.cast (t:=56) (u':=.bool true) rfl (congrArg Value.bool (decide_eq_true rfl)) ?_;refine dv 3 ?_;refine cT 4 ?_;refine cT 5 ?_
 refine bS 6 rfl (sV (a:=.of (dM l)) (show(dg 4294967296 (dM l).natAbs).length≤1000000 by omega)) Fw ⟨aV rfl,aV rfl,rfl⟩ (.one (tv (.bool true))) ?_
 refine df 7 ?_;refine df 8 ?_;refine cT 9 ?_;refine cT 11 ?_;refine bS 10 rfl (Iu ha hkl) Nm ⟨aV rfl,rfl⟩ (.one (tv (.string (aL (nB k))))) ?_
 refine bS 12 rfl (Bn (a:=a) (by omega)) Fv ⟨aV rfl,rfl⟩ (gF a) ?_
 refine bS 13 rfl (Qb ha hkl) Um ⟨aV rfl,rfl⟩ (.one (tv (.string (aL (nB k))))) ?_;refine df 14 ?_
 refine WD.cast (t:=68) (u':=.bool true) rfl (congrArg Value.bool (beq_self_eq_true _)) ?_;refine df 15 ?_;refine df 16 ?_;refine dv 17 ?_;refine dv 18 ?_;refine dv 19 ?_
 refine WD.cast (t:=73) (u':=.bool true) rfl (congrArg Value.bool (decide_eq_true rfl)) ?_;refine df 20 ?_;refine df 21 ?_;refine dv 22 ?_;refine dv 23 ?_;refine dv 24 ?_
 refine WD.cast (t:=78) (u':=.bool true) rfl (congrArg Value.bool (beq_self_eq_true _)) ?_;refine df 25 ?_;refine df 26 ?_;refine dv 27 ?_;refine dv 28 ?_;refine dv 29 ?_
 refine WD.cast (t:=83) (u':=.bool true) rfl (congrArg Value.bool (decide_eq_true rfl)) ?_;refine df 30 ?_;refine df 31 ?_;refine dv 32 ?_;refine df 33 ?_;refine df 34 ?_;refine dv 35 ?_
 refine dv 37 ?_;refine bS 36 rfl (eE hn1 hn2) eD ⟨a1 rfl,rfl⟩ (kF n) ?_;refine bS 38 rfl (Bi hn1 hn2) Fx ⟨a1 rfl,rfl⟩ (kF n) ?_
 refine bS 39 rfl (sV (a:=.of (n)) (show(dg 4294967296 (n).natAbs).length≤1000000 by omega)) Fw ⟨aV rfl,aV rfl,rfl⟩ (.one (tv (.bool true))) ?_
 refine df 40 ?_;refine df 41 ?_;refine bS 42 rfl (sW) Ft rfl (.one (tv (.bool true))) ?_;refine df 43 ?_
 refine nY 44 (by kernel_rfl) rfl rfl aB rfl (by trivial) ?_ (fun h=>by first | rfl | cases h)
 refine cR ?_;refine rt ?_;exact oE (.inl rfl) rfl (rfl)
end Go.Proofs.YteggpgndiajdpaaGreatDoor
namespace Go.Proofs.YteggpgndiajdpaaGreatDoor
open Go Go.RowKit Go.ChangeShapes
def Reads (P:Program) (t:TypeId) (z:Nat) (T:List Tr→Prop):Prop:=
 P.cellsOf t=z∧∀(H:Type) (enc:TypeId×Value→H) (w:World) (fuel:Nat) (cs:List Value) (x:DataW H×List MemPlace),DataW.trod enc P w 0 (fun _=>true) true fuel t cs=some x→∃l,T l∧l.length=z∧FRL w (pF w) l cs
theorem zK {W:World}{N:Nat→Prop}:∀{l l':List Tr}{us us':List Value},FRL W N l us→FRL W N l' us'→FRL W N (l++l') (us++us')
 | [],l',us,us',h,h'=>by simp only[FRL]at h;subst h;exact h'
 | x::l,l',u::us,us',h,h'=>by simp only[FRL,List.cons_append]at*;exact⟨h.1,zK h.2 h'⟩
 | _::_,_,[],_,h,_=>by simp only[FRL]at h
theorem zL {W:World}{N:Nat→Prop}:∀{l:List Tr}{us:List Value}{j:Nat}{x:Tr},FRL W N l us→l[j]? =some x→∃u,us[j]? =some u∧FR W N x u
 | [],_,_,_,_,h=>by simp at h
 | y::l,u::us,0,x,h,e=>by
  simp only[FRL]at h
  simp at e
  subst e
  exact⟨u,rfl,h.1⟩
 | y::l,u::us,j+1,x,h,e=>by
  simp only[FRL]at h
  exact zL (j:=j) h.2 (by simpa using e)
 | _::_,[],_,_,h,_=>by simp only[FRL]at h
section
variable {P:Program}{t e:TypeId}{k:IntKind}{z:Nat}{T T':List Tr→Prop}
theorem Reads.mono (h:Reads P t z T) (hi:∀l,T l→T' l):Reads P t z T':=⟨h.1,fun H enc w fuel cs x hx=>let ⟨l,a,b⟩:=h.2 H enc w fuel cs x hx;⟨l,hi l a,b⟩⟩
theorem Ls (ht:P.underlying t=some .bool) (hz:P.cellsOf t=1):Reads P t 1 (fun l=>∃b,l=[.v (.bool b)]):=⟨hz,fun H enc w fuel cs x hx=>by
 obtain⟨b,rfl,_⟩:=DataW.trod_bool ht hx
 exact⟨_,⟨b,rfl⟩,rfl,by simp[FRL,FR]⟩⟩
theorem Ep (ht:P.underlying t=some (.int k)) (hz:P.cellsOf t=1):Reads P t 1 (fun l=>∃n,l=[.v (.int k n)]∧k.min≤n∧n≤k.max):=⟨hz,fun H enc w fuel cs x hx=>by
 obtain⟨n,rfl,_,h⟩:=DataW.trod_int ht hx
 simp only[Lit.wf,Bool.and_eq_true,decide_eq_true_eq]at h
 exact⟨_,⟨n,rfl,h⟩,rfl,by simp[FRL,FR]⟩⟩
inductive Flds (P:Program):Nat→List Field→Nat→(List Tr→Prop)→Prop
 | nil {o:Nat}:Flds P o [] 0 (· =[])
 | cons {o z z':Nat}{f:Field}{fs:List Field}{T T':List Tr→Prop}(ho:f.offset=o) (h:Reads P f.type z T) (h':Flds P (o+z) fs z' T'):Flds P o (f::fs) (z+z') (fun l=>∃a b,l=a++b∧T a∧T' b)
theorem Flds.read {H:Type}{enc:TypeId×Value→H}{w:World}{n o:Nat}{fs:List Field}(h:Flds P o fs z T):∀{cs:List Value},o+z≤cs.length→(∀f∈fs,∃x,DataW.trod enc P w 0 (fun _=>true) true n f.type ((cs.drop f.offset).take (P.cellsOf f.type))=some x)→∃l,T l∧l.length=z∧FRL w (pF w) l ((cs.drop o).take z):=by
 induction h with
 | nil=>exact fun _ _=>⟨[],rfl,rfl,by simp[FRL]⟩
 | @cons o z z' f fs T T' ho hr _ ih=>
  intro cs hl hf
  obtain⟨b,h1,h2,h3⟩:=ih (cs:=cs) (by omega) fun f hm=>hf f (List.mem_cons_of_mem _ hm)
  obtain⟨x,hx⟩:=hf f List.mem_cons_self
  obtain⟨a,g1,g2,g3⟩:=hr.2 H enc w n _ x hx
  rw[ho,hr.1]at g3
  refine⟨a++b,⟨a,b,rfl,g1,h1⟩,by simp[g2,h2],?_⟩
  rw[List.take_add,List.drop_drop]
  exact zK g3 h3
theorem Er {fs:List Field}{z':Nat}(ht:P.underlying t=some (.struct fs.toArray)) (hz:P.cellsOf t=z) (h:Flds P 0 fs z' T) (e:z'=z:=by rfl):Reads P t z T:=⟨hz,fun H enc w fuel cs x hx=>by
 subst e
 obtain⟨xs,n,_,rfl,hl,hlen,hf⟩:=DataW.trod_struct ht hx
 rw[hz]at hl
 obtain⟨l,h1,h2,h3⟩:=h.read (H:=H) (enc:=enc) (w:=w) (n:=n) (cs:=cs) (by omega) fun f hm=>by
  obtain⟨i,hi⟩:=List.mem_iff_getElem?.1 hm
  have h1:=hf i f (by simpa using hi)
  have h2:i<xs.length:=by
   have:=(List.getElem?_eq_some_iff.1 hi).1
   simp at hlen
   omega
  rw[List.getElem?_eq_getElem h2]at h1
  exact⟨_,h1⟩
 refine⟨l,h1,h2,?_⟩
 rw[List.drop_zero,List.take_of_length_le (by omega)]at h3
 exact h3⟩
theorem Hk (ht:P.underlying t=some (.slice e)) (hz:P.cellsOf t=1) (hz0:0<z) (h:Reads P e z T):Reads P t 1 (fun l=>∃rows:List (List Tr),(∀r∈rows,T r∧r.length=z)∧l=[.s false e z rows.length rows.flatten]):=⟨hz,fun H enc w fuel cs x hx=>by
 have hlen:∀(rows:List (List Tr)),(∀r∈rows,T r∧r.length=z)→rows.flatten.length=rows.length*z:=by
  intro rows
  induction rows with
  | nil=>intro _;simp
  | cons r rows ih=>
   intro hr
   rw[List.flatten_cons,List.length_append,(hr r List.mem_cons_self).2,ih fun r hm=>hr r (List.mem_cons_of_mem _ hm),List.length_cons,Nat.succ_mul,Nat.add_comm]
 rcases Deep.open_slice ht hx with⟨rfl,_⟩ | ⟨a,len,cap,m,n,D,Pl,rfl,_,hl,hm,hmm,_,hel⟩
 ·refine⟨_,⟨[],fun _ h=>(by cases h),rfl⟩,rfl,?_⟩
  simp only[FRL,FR,and_true]
  exact⟨none,0,rfl,Nat.le_refl _,by omega,by simp,.inl rfl⟩
 have hmc:m=cap:=by simpa using hmm
 rw[h.1]at hel
 have hex:∀i:Nat,∃l:List Tr,i<len→T l∧l.length=z∧∀j y,l[j]? =some y→∃u,w.cell? ((a.add (i*z)).add j)=some u∧FR w (pF w) y u:=fun i=>by
  by_cases hi:i<len
  ·obtain⟨cs',h1,h2⟩:=hel i (by omega)
   obtain⟨l,g1,g2,g3⟩:=h.2 H enc w n cs' _ h2
   obtain⟨_,h3,h4⟩:=World.cells?_some h1
   refine⟨l,fun _=>⟨g1,g2,fun j y hj=>?_⟩⟩
   obtain⟨u,hu,hy⟩:=zL g3 hj
   have hjl:=(List.getElem?_eq_some_iff.1 hj).1
   exact⟨u,by rw[h4 j (by omega),hu],hy⟩
  exact⟨[],fun h=>absurd h hi⟩
 have hF:=fun i=>Classical.choose_spec (hex i)
 have hrow:∀r∈(List.range len).map (fun i=>Classical.choose (hex i)),T r∧r.length=z:=fun r hr=>by
  obtain⟨i,hi,rfl⟩:=List.mem_map.1 hr
  have:=hF i (List.mem_range.1 hi)
  exact⟨this.1,this.2.1⟩
 refine⟨_,⟨_,hrow,rfl⟩,rfl,?_⟩
 have h5:=hlen _ hrow
 simp only[FRL,and_true,FR]
 refine⟨some a,cap,by simp,by simpa using hl,by unfold maxLen at hm;omega,h5,?_⟩
 rcases Nat.eq_zero_or_pos len with h0 | h0
 ·exact .inl (by simp[h0])
 refine .inr ⟨a,rfl,?_,nJ fun j y hj=>?_⟩
 ·obtain⟨_,g2,g3⟩:=hF 0 h0
  obtain⟨u,hu,_⟩:=g3 0 _ (List.getElem?_eq_getElem (by omega))
  have:=World.block_lt_of_cell? w ((a.add (0*z)).add 0) hu
  rwa[dV,dV]at this
 have hjl:=(List.getElem?_eq_some_iff.1 hj).1
 rw[h5,List.length_map,List.length_range]at hjl
 have hi:j/z<len:=Nat.div_lt_of_lt_mul (by rw[Nat.mul_comm];exact hjl)
 obtain⟨_,g2,g3⟩:=hF (j/z) hi
 have hz1:=Nat.mod_lt j hz0
 have hget:∀(rows:List (List Tr)),(∀r∈rows,T r∧r.length=z)→∀(i o:Nat) (r:List Tr),rows[i]? =some r→o<z→rows.flatten[i*z+o]? =r[o]? :=by
  intro rows
  induction rows with
  | nil=>intro _ i o r h;simp at h
  | cons r rows ih=>
   intro hr i o r' hi ho
   have hrl:=(hr r List.mem_cons_self).2
   cases i with
   | zero=>
    simp at hi
    subst hi
    rw[Nat.zero_mul,Nat.zero_add,List.flatten_cons,List.getElem?_append_left (by omega)]
   | succ i=>
    rw[List.flatten_cons,List.getElem?_append_right (by rw[Nat.succ_mul];omega),hrl,show(i+1)*z+o-z=i*z+o by rw[Nat.succ_mul];omega]
    exact ih (fun r hm=>hr r (List.mem_cons_of_mem _ hm)) i o r' (by simpa using hi) ho
 have hd:=Nat.div_add_mod j z
 rw[Nat.mul_comm]at hd
 rw[←hd,hget _ hrow (j/z) (j%z) (Classical.choose (hex (j/z))) (by simp[hi]) hz1]at hj
 obtain⟨u,hu,hy⟩:=g3 _ _ hj
 refine⟨u,?_,hy⟩
 rw[Nat.zero_add]
 have e2:(a.add (j/z*z)).add (j%z)=a.add j:=by rw[kY,hd]
 rwa[e2]at hu⟩
theorem zM {α:Type}(f:α→List Tr) (Q:α→Prop):∀{rows:List (List Tr)},(∀r∈rows,∃a,Q a∧r=f a)→∃xs:List α,(∀a∈xs,Q a)∧rows.flatten=xs.flatMap f∧rows.length=xs.length
 | [],_=>⟨[],fun _ h=>(by cases h),rfl,rfl⟩
 | r::rows,h=>by
  obtain⟨a,h1,rfl⟩:=h r List.mem_cons_self
  obtain⟨xs,h2,h3,h4⟩:=zM f Q fun r hm=>h r (List.mem_cons_of_mem _ hm)
  exact⟨a::xs,fun b hb=>(List.mem_cons.1 hb).elim (fun e=>e▸h1) (h2 b),by simp[h3],by simp[h4]⟩
theorem Hl (ht:P.underlying t=some (.slice e)) (he:P.underlying e=some (.int .u32)) (hz:P.cellsOf t=1) (hze:P.cellsOf e=1) (hn:e=22):Reads P t 1 (fun l=>∃xs:List Nat,Lim 4294967296 xs∧l=[sU false xs]):=
 (Hk ht hz (by omega) (Ep he hze)).mono fun l ⟨rows,h1,h2⟩=>by
  obtain⟨xs,h3,h4,h5⟩:=zM (fun n:Nat=>[Tr.v (.int .u32 (n:Int))]) (fun n=>n<4294967296) (rows:=rows) fun r hr=>by
   obtain⟨⟨n,rfl,h1,h2⟩,_⟩:=h1 r hr
   have e1:IntKind.u32.min=0:=rfl
   have e2:IntKind.u32.max=4294967295:=rfl
   rw[e1]at h1
   rw[e2]at h2
   exact⟨n.toNat,by omega,by rw[Int.toNat_of_nonneg h1]⟩
  refine⟨xs,h3,?_⟩
  rw[h2,h4,h5,sU,hn]
  have:∀xs:List Nat,xs.flatMap (fun n:Nat=>[Tr.v (.int .u32 (n:Int))])=aS xs:=by
   intro xs
   induction xs with
   | nil=>rfl
   | cons n xs ih=>rw[List.flatMap_cons,ih];rfl
  rw[this]
theorem Lu (hb:Reads P t z (fun l=>∃a b,l=a++b∧(∃s,a=[.v (.bool s)])∧∃b' c',b=b'++c'∧(∃xs:List Nat,Lim 4294967296 xs∧b'=[sU false xs])∧c'=[])):Reads P t z (fun l=>∃(s:Bool) (xs:List Nat),Lim 4294967296 xs∧l=[.v (.bool s),sU false xs]):=
 hb.mono fun l ⟨a,b,h1,⟨s,h2⟩,b',c',h3,⟨xs,h4,h5⟩,h6⟩=>⟨s,xs,h4,by rw[h1,h2,h3,h5,h6];rfl⟩
end
def LimF (a:Fr4):Prop:=Lim 4294967296 a.x∧Lim 4294967296 a.y
theorem LimF.ok {a:Fr4}(h:LimF a) (h2:a.x.length≤6∧a.y.length≤6):a.ok:=⟨h.1,h.2,by omega,by omega⟩
end Go.Proofs.YteggpgndiajdpaaGreatDoor
namespace Go.Proofs.YteggpgndiajdpaaGreatDoor
open Go Go.ChangeShapes Go.WideShapes Go.ChangeAt Go.RowKit
theorem Qe:Tryz.prog.cellsOf 44=2:=by kernel_rfl
theorem Lw:Tryz.prog.cellsOf 4=1:=by kernel_rfl
theorem Qf:Tryz.prog.cellsOf 22=1:=by kernel_rfl
theorem Hm:Tryz.prog.cellsOf 23=1:=by kernel_rfl
theorem Qg:Reads Tryz.prog 44 2 (fun l=>∃a:Zi,Lim 4294967296 a.x∧l=Tg false a):=by
 have h1:=Ls Tryz.underlying4 Lw
 have h2:=Hl Tryz.underlying23 Tryz.underlying22 Hm Qf rfl
 have h3:=Er Tryz.underlying44 Qe (.cons rfl h1 (.cons rfl h2 .nil))
 exact(Lu h3).mono fun l ⟨s,xs,h4,h5⟩=>⟨⟨s,xs⟩,h4,h5⟩
theorem zN {W:World}{N:Nat→Prop}:∀{l:List Tr}{us:List Value},FRL W N l us→ARL W N [] (l.map .t) us
 | [],us,h=>by simpa[FRL,ARL]using h
 | x::l,u::us,h=>by
  simp only[FRL]at h
  simp only[List.map_cons,ARL,AR]
  exact⟨h.1,zN h.2⟩
 | _::_,[],h=>by simp only[FRL]at h
theorem Qh {W:World}{l:List Tr}{cs:Array Value}(h:FRL W (pF W) l (Value.agg cs).cells.toList):aX W (pF W) [] (.agg (l.map .t)) (.agg cs):=⟨cs.toList,by simp,zN (by simpa[Value.cells]using h)⟩
theorem Es {W:World}{y:Tr}{u:Value}(hu:u.cells.toList=[u]) (h:FRL W (pF W) [y] u.cells.toList):aX W (pF W) [] (.one (.t y)) u:=by
 rw[hu]at h
 simp only[FRL,and_true]at h
 simpa only[aX,AR]using h
theorem Qi:Tryz.prog.cellsOf 9=1:=by kernel_rfl
theorem Qj:Tryz.prog.cellsOf 2=1:=by kernel_rfl
theorem Qk:Reads Tryz.prog 9 1 (fun l=>∃xs:List Nat,Lim 256 xs∧l=[.v (.string (aL xs))]):=⟨Qi,fun H enc w fuel cs x hx=>by
 obtain⟨s,rfl,_,h⟩:=DataW.trod_string Tryz.underlying9 hx
 obtain⟨e,hl⟩:=Rp s
 exact⟨_,⟨_,hl,rfl⟩,rfl,by rw[←e];simp[FRL,FR]⟩⟩
theorem Ql:Reads Tryz.prog 2 1 (fun l=>∃n:Int,(-9223372036854775808≤n∧n≤9223372036854775807)∧l=[.v (.int .i64 n)]):=
 (Ep Tryz.underlying2 Qj).mono fun l ⟨n,h1,h2,h3⟩=>⟨n,⟨h2,h3⟩,h1⟩
end Go.Proofs.YteggpgndiajdpaaGreatDoor
