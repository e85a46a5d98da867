/- Part 12 of a proof: B5 to V9. -/
import Derived.Test.YtbbabfkgdnkehaaGreatM11
import Derived.Test.YtbbabfkgdnkehaaGreatM7
import Derived.Test.YtbbabfkgdnkehaaGreatM10
import Derived.Test.YtbbabfkgdnkehaaGreatM8
import Derived.Test.YtbbabfkgdnkehaaGreatM5
set_option maxRecDepth 100000
set_option linter.unusedVariables false
set_option linter.unusedSimpArgs false
namespace Go.Proofs.YtbbabfkgdnkehaaGreat
open Go Go.RowKit
def Af (x:Int×Rat):Bool:=lZ x.1 x.2
theorem JY {y:Int}{q:Rat}(hs:Sz 68719476736 q):aD true Tryz.prog 125 [] [.agg ((cF false (y,q)).map .t)] (aP (.one (tv (.bool (Af (y,q)))))):=by
 refine cC Tryz.func125 rfl Tryz.ntmps125 rfl aA rfl fun N w c0 h0=>?_
 refine sq ?_;refine rl ?_;refine bx 0 ?_;refine o1 ?_;refine nl ?_;refine sq ?_;refine rl ?_;refine o1 ?_;refine ld ?_
 refine ca (lW (Qn.of (p:=q) hs)) tG ⟨aG rfl,rfl⟩ (.one (tv (.int .i64 q.num.sign))) ?_;refine o1 ?_;refine o1 ?_;refine nl ?_;refine rt ?_
 exact en (.inl rfl) rfl (aZ (cR _)) (by decide) (fun _=>trivial) rfl
theorem Hm {t0 i:Nat}{rest:List Tr}{us vs:List (Int×Rat)}{x:Int×Rat}{a:Fr4}{p:Rat}(ha:Qn a p) (hnx:aJ us i=x) (hi:i<us.length) (hul:us.length=vs.length) (hv:Sz 68719476736 x.2) (hl:vs.length≤1073741823):aD false Tryz.prog 124 [⟨t0,0,.sl 1 0 vs.length::rest.map .t⟩,⟨102,5,eF us⟩] [.one (.pt 0 0),.one (tv (.int .i64 ((i:Nat):Int))),qF a] (Rt [⟨t0,0,.sl 1 0 vs.length::rest.map .t⟩,⟨102,5,eF (us.set i (x.1,x.2-aO x.2 [p]))⟩] (.agg ((cF false (x.1,aO x.2 [p])).map .t))):=by
 subst hnx
 rw[←hul]
 exact JW ha hi hv (by omega)
theorem PK {vs:List (Int×Rat)}{last fr:Int}{put:Bool}{a:Fr4}{p:Rat}(ha:Qn a p) (hl:vs.length≤1073741823) (hw:gK (vs.map Prod.snd)+wt p+2*vs.length≤17179869184) (hzU:∀x∈(bC fr vs p).1,Sz 68719476736 x.2):aD false Tryz.prog 100 [⟨137,0,[.t (sR 102 vs),tv (.int .i64 last),tv (.bool put)]⟩] [.one (.pt 0 0),.one (tv (.int .i64 fr)),qF a] (Rt [⟨137,0,[.t (sR 102 (dT Af (bC fr vs p).1)),tv (.int .i64 last),tv (.bool put)]⟩] (.one (.t (sO 102 (bC fr vs p).2.1)))):=by
 refine mQ Tryz.func100 rfl Tryz.ntmps100 rfl aA rfl fun N M w c0 h0=>?_
 refine WP.sub (nX (j:=0) (key:=1) (p:=0) (e:=102) (z:=5) (n:=vs.length) (trs:=vs.flatMap (cF false)) rfl rfl rfl rfl rfl) ?_;refine sq ?_;refine rl ?_;refine bx 2 ?_;refine o1 ?_
 refine nl ?_;refine sq ?_;refine sq ?_;refine rl ?_;refine o1 ?_;refine o1 ?_;refine nl ?_;refine eN rfl ?_;refine sk ?_;refine sq ?_;refine rl ?_;refine o1 ?_;refine nl ?_;refine sq ?_
 refine sq ?_;refine rl ?_;(iterate 4 refine o1 ?_);refine ld ?_;refine o1 ?_;refine o1 ?_;refine nl ?_;refine bl ?_
 refine lp (γ:=Nat×Fr4) (fun s=>cA [(0,.one (.pt 0 0)),(1,.one (tv (.int .i64 fr))),(5,.one (.pt 2 0)),(7,.one (.sl 3 0 ((bC fr (vs.take s.1) p).2.1.length))),(17,.one (.sl 1 0 (vs.length))),(18,.one (tv (.int .i64 ((vs.length:Nat):Int)))),(19,.one (tv (.int .i64 ((s.1:Nat):Int))))]) (fun s=>[(⟨137,0,[.sl 1 0 vs.length,tv (.int .i64 last),tv (.bool put)]⟩:Ob),⟨102,5,eF ((bC fr (vs.take s.1) p).1++vs.drop s.1)⟩,⟨48,0,((s.2).tr false).map .t⟩,⟨102,5,oO (bC fr (vs.take s.1) p).2.1⟩].map some) (fun s=>s.1≤vs.length∧Qn s.2 (bC fr (vs.take s.1) p).2.2∧wt (bC fr (vs.take s.1) p).2.2≤gK ((vs.take s.1).map Prod.snd)+wt p+2*s.1∧(bC fr (vs.take s.1) p).2.1.length≤s.1) (fun s=>vs.length-s.1) (0,a) ⟨Nat.zero_le _,ha,by simp[bC,gK],Nat.le_refl _⟩ ((nr (i:=7) 3 102 5 rfl rfl rfl rfl).trans (cK h0 [0,1,2,3] _ _ (by decide) rfl ⟨rfl,rfl,rfl,rfl,rfl,rfl,rfl,trivial⟩ ⟨oe rfl rfl,aI rfl,aI rfl,oe rfl rfl,rfl⟩)) ?_
 rintro⟨k,m⟩ ⟨hk,hm,hb,hgl⟩;dsimp only at hk hm hb hgl⊢;refine sq ?_;refine rl ?_;refine o1 ?_;refine nl ?_;refine sq ?_;refine bM rfl (fun h1=>?_) (fun h1=>?_)
 ·refine sk ?_;refine sq ?_;refine bl ?_;refine sq ?_;have hal:(bC fr (vs.take k) p).1.length=k:=by rw[Ho,List.length_take,Nat.min_eq_left hk]
  have hul:((bC fr (vs.take k) p).1++vs.drop k).length=vs.length:=by rw[List.length_append,hal,List.length_drop];omega
  have hnx:aJ ((bC fr (vs.take k) p).1++vs.drop k) k=(aJ vs k):=Xq (by rw[←Ag (by omega)]) hal
  have hvw:wt (aJ vs k).2≤gK (vs.map Prod.snd):=Me (List.mem_map.2 ⟨_,mY (by omega),rfl⟩)
  have hwk:gK ((vs.take (k+1)).map Prod.snd)=gK ((vs.take k).map Prod.snd)+wt (aJ vs k).2:=by rw[kU (by omega),List.map_append,tJ];simp[gK]
  have hwl:gK ((vs.take (k+1)).map Prod.snd)≤gK (vs.map Prod.snd):=EL ((List.take_sublist _ _).map _)
  have hszv:Sz 17179869184 (aJ vs k).2:=nZ.2 (by have h9:wt (aJ vs k).2=vJ (aJ vs k).2+1:=rfl;omega)
  have hszr:Sz 17179869184 (bC fr (vs.take k) p).2.2:=nZ.2 (by have h9:wt (bC fr (vs.take k) p).2.2=vJ (bC fr (vs.take k) p).2.2+1:=rfl;omega)
  have hszn:Sz 17179869184 (aO (aJ vs k).2 [(bC fr (vs.take k) p).2.2]):=xA hszv (fun q hq=>by rw[List.mem_singleton]at hq;rw[hq];exact hszr)
  have hszm:Sz 68719476736 ((bC fr (vs.take k) p).2.2-(aO (aJ vs k).2 [(bC fr (vs.take k) p).2.2])):=(pW hszr hszn).mono (by omega)
  refine rl ?_;refine o1 ?_;refine o1 ?_
  refine JS (us:=(cF false (aJ vs k)).map .t) (by have h9:=Hi (us:=((bC fr (vs.take k) p).1++vs.drop k)) (k:=k) (by rw[hul];omega);rwa[hnx]at h9) ?_
  refine al 4 ?_;refine o1 ?_;refine st ?_;refine nl ?_;refine sq ?_;refine rl ?_;refine o1 ?_;refine ld ?_;(iterate 3 refine o1 ?_)
  refine WL.split (t:=28) rfl (fun h2=>?_) (fun h2=>?_)
  ·refine ld ?_;refine ca (lW hm) tG ⟨aG rfl,rfl⟩ (.one (tv (.int .i64 (bC fr (vs.take k) p).2.2.num.sign))) ?_;refine o1 ?_;refine o1 ?_;refine nl ?_
   refine bM rfl (fun h3=>?_) (fun h3=>?_)
   ·refine md (γ:=Unit) (fun _=>cA [(0,.one (.pt 0 0)),(1,.one (tv (.int .i64 fr))),(5,.one (.pt 2 0)),(7,.one (.sl 3 0 ((bC fr (vs.take k) p).2.1.length))),(17,.one (.sl 1 0 (vs.length))),(18,.one (tv (.int .i64 ((vs.length:Nat):Int)))),(19,.one (tv (.int .i64 ((k:Nat):Int)))),(10,.one (.pt 4 0))]) (fun _=>([⟨137,0,[.sl 1 0 vs.length,tv (.int .i64 last),tv (.bool put)]⟩,⟨102,5,eF (((bC fr (vs.take k) p).1++vs.drop k).set (k) ((aJ vs k).1,((aJ vs k).2-(aO (aJ vs k).2 [(bC fr (vs.take k) p).2.2]))))⟩,⟨48,0,(m.tr false).map .t⟩,⟨102,5,oO (bC fr (vs.take k) p).2.1⟩,⟨102,0,(cF false ((aJ vs k).1,(aO (aJ vs k).2 [(bC fr (vs.take k) p).2.2]))).map .t⟩]:List Ob).map some) (fun _=>True) ?_ fun _ _=>?_
    ·refine rd [2,4] (fun i=>[7].contains i) mixed ?_
     refine dv 0 ?_;refine dv 1 ?_;refine dv 2 ?_;refine dv 3 ?_;refine aR 4 ?_;refine WO.two (i:=5) (j:=6) (by kernel_rfl) ?_ ?_
     ·have htk:=Hm (t0:=137) (rest:=[.v (.int .i64 last),.v (.bool put)]) (x:=(aJ vs k)) hm (us:=((bC fr (vs.take k) p).1++vs.drop k)) (i:=k) hnx (by rw[hul];omega) hul (hszv.mono (by omega)) hl
      refine JZ 5 5 [0,1] rfl htk BZ ⟨oe rfl rfl,aI rfl,rfl⟩ ⟨rfl,rfl,rfl,rfl⟩ (ok:=[some ⟨137,0,[.sl 1 0 vs.length,tv (.int .i64 last),tv (.bool put)]⟩,some ⟨102,5,eF (((bC fr (vs.take k) p).1++vs.drop k).set (k) ((aJ vs k).1,((aJ vs k).2-(aO (aJ vs k).2 [(bC fr (vs.take k) p).2.2]))))⟩]) ⟨oe rfl rfl,aI rfl,rfl⟩ ⟨rfl,rfl,trivial⟩ ?_
      refine gN (key:=5) 6 (by kernel_rfl) rfl rfl aA rfl ⟨rfl,rfl,trivial⟩ ?_
      refine dst 7 ?_;refine aS ?_
      exact⟨(),trivial,cK h0 [0,1,2,3,5] _ _ (by decide) rfl ⟨rfl,rfl,rfl,rfl,rfl,rfl,rfl,rfl,trivial⟩ ⟨oe rfl rfl,aI rfl,aI rfl,aI rfl,aI rfl,rfl⟩⟩
     refine cP (key:=5) 6 rfl rfl aA rfl ⟨rfl,rfl,trivial⟩ ?_
     have htk:=Hm (t0:=137) (rest:=[.v (.int .i64 last),.v (.bool put)]) (x:=(aJ vs k)) hm (us:=((bC fr (vs.take k) p).1++vs.drop k)) (i:=k) hnx (by rw[hul];omega) hul (hszv.mono (by omega)) hl
     refine Sx 5 6 [0,1] rfl htk BZ ⟨oe rfl rfl,aI rfl,rfl⟩ ⟨rfl,rfl,rfl,rfl⟩ (ok:=[some ⟨137,0,[.sl 1 0 vs.length,tv (.int .i64 last),tv (.bool put)]⟩,some ⟨102,5,eF (((bC fr (vs.take k) p).1++vs.drop k).set (k) ((aJ vs k).1,((aJ vs k).2-(aO (aJ vs k).2 [(bC fr (vs.take k) p).2.2]))))⟩]) ⟨oe rfl rfl,aI rfl,rfl⟩ ⟨rfl,rfl,trivial⟩ ?_
     refine dst 7 ?_;refine aS ?_
     exact⟨(),trivial,cK h0 [0,1,2,3,5] _ _ (by decide) rfl ⟨rfl,rfl,rfl,rfl,rfl,rfl,rfl,rfl,trivial⟩ ⟨oe rfl rfl,aI rfl,aI rfl,aI rfl,aI rfl,rfl⟩⟩
    refine rd [0,2,4] (fun i=>[10].contains i) mixed ?_
    refine dv 0 ?_;refine aR 1 ?_;refine aR 5 ?_;refine dv 6 ?_;refine aR 7 ?_
    refine lN 5 2 rfl (wY (y:=(aJ vs k).1) (Qn.of (p:=(aO (aJ vs k).2 [(bC fr (vs.take k) p).2.2])) hszn)) Ft ⟨aG rfl,rfl⟩ ?_
    refine kN (key:=7) 3 (by kernel_rfl) rfl rfl aA rfl ⟨rfl,rfl,rfl,trivial⟩ ?_
    refine oB (j:=8) 4 rfl aA rfl rfl rfl (.sl rfl (wZ _)) (.sl rfl rfl rfl) rfl rfl (by omega) (by omega) rfl ⟨rfl,rfl,rfl,trivial⟩ rfl (by kernel_rfl) rfl ?_
    refine bB 8 rfl (Ae hm (Qn.of (p:=(aO (aJ vs k).2 [(bC fr (vs.take k) p).2.2])) hszn)) Hk ⟨aG rfl,aG rfl,rfl⟩ (qF (.of ((bC fr (vs.take k) p).2.2-(aO (aJ vs k).2 [(bC fr (vs.take k) p).2.2])))) ?_
    refine eR 9 (by kernel_rfl) rfl rfl aA rfl (by trivial) ?_ (fun h=>by first | rfl | cases h)
    refine dst 10 ?_;refine aS ?_;refine rl ?_;refine o1 ?_;refine WL.cast (t:=48) (u':=.int .i64 ((k+1:Nat):Int)) rfl (aC (by omega)) ?_
    refine o1 ?_;refine nl ?_;have hst:=(vK (fr:=fr) p (by omega:k<vs.length)).trans (pX (s:=(bC fr (vs.take k) p)) (y:=(aJ vs k).1) (q:=(aJ vs k).2) h2 h3)
    refine⟨(k+1,Fr4.of ((bC fr (vs.take k) p).2.2-(aO (aJ vs k).2 [(bC fr (vs.take k) p).2.2]))),by dsimp only;omega,?_,?_⟩
    ·dsimp only
     rw[hst]
     exact⟨by omega,Qn.of hszm,by dsimp only;have h9:=EM (aJ vs k).2 (bC fr (vs.take k) p).2.2;omega,by dsimp only;rw[List.length_append,List.length_singleton];omega⟩
    dsimp only
    rw[hst];dsimp only
    exact(RN (j:=8) (k1:=5) (k2:=6) (us:=(bC fr (vs.take k) p).2.1) (y:=(aJ vs k).1) (q:=(aO (aJ vs k).2 [(bC fr (vs.take k) p).2.2])) rfl rfl rfl rfl rfl rfl).trans (cK h0 [0,1,2,8] _ _ (by decide) rfl ⟨rfl,rfl,rfl,congrArg (fun n=>some (FV.one (.sl 8 0 n))) (show((bC fr (vs.take k) p).2.1++[((aJ vs k).1,(aO (aJ vs k).2 [(bC fr (vs.take k) p).2.2]))]).length=(bC fr (vs.take k) p).2.1.length+1 by simp),rfl,rfl,rfl,trivial⟩ ⟨oe rfl rfl,aI (congrArg (fun l=>some (⟨102,5,eF l⟩:Ob)) (by rw[Xr (x:=(aJ vs k)) (by rw[←Ag (by omega)]) hal,List.append_assoc])),aI rfl,aI rfl,rfl⟩)
   refine sk ?_;refine rl ?_;refine o1 ?_;refine WL.cast (t:=48) (u':=.int .i64 ((k+1:Nat):Int)) rfl (aC (by omega)) ?_
   refine o1 ?_;refine nl ?_;have hst:=(vK (fr:=fr) p (by omega:k<vs.length)).trans (pC (s:=(bC fr (vs.take k) p)) (x:=(aJ vs k)) (fun hc=>h3 hc.2))
   refine⟨(k+1,m),by dsimp only;omega,?_,?_⟩
   ·dsimp only
    rw[hst];exact⟨by omega,hm,by dsimp only;omega,by dsimp only;omega⟩
   dsimp only
   rw[hst];dsimp only
   exact(cK h0 [0,1,2,3] _ _ (by decide) rfl ⟨rfl,rfl,rfl,rfl,rfl,rfl,rfl,trivial⟩ ⟨oe rfl rfl,aI (congrArg (fun l=>some (⟨102,5,eF l⟩:Ob)) (by rw[Ag (k:=k) (by omega),List.append_assoc];rfl)),aI rfl,aI rfl,rfl⟩)
  (iterate 3 refine cM ?_);refine o1 ?_;refine nl ?_;refine eN rfl ?_;refine sk ?_;refine rl ?_;refine o1 ?_
  refine WL.cast (t:=48) (u':=.int .i64 ((k+1:Nat):Int)) rfl (aC (by omega)) ?_
  refine o1 ?_;refine nl ?_;have hst:=(vK (fr:=fr) p (by omega:k<vs.length)).trans (pC (s:=(bC fr (vs.take k) p)) (x:=(aJ vs k)) (fun hc=>h2 hc.1))
  refine⟨(k+1,m),by dsimp only;omega,?_,?_⟩
  ·dsimp only
   rw[hst];exact⟨by omega,hm,by dsimp only;omega,by dsimp only;omega⟩
  dsimp only
  rw[hst];dsimp only
  exact(cK h0 [0,1,2,3] _ _ (by decide) rfl ⟨rfl,rfl,rfl,rfl,rfl,rfl,rfl,trivial⟩ ⟨oe rfl rfl,aI (congrArg (fun l=>some (⟨102,5,eF l⟩:Ob)) (by rw[Ag (k:=k) (by omega),List.append_assoc];rfl)),aI rfl,aI rfl,rfl⟩)
 refine ex ?_;refine sq ?_;refine rl ?_;(iterate 3 refine o1 ?_);have hkk:vs.take k=vs:=List.take_of_length_le (by omega)
 have hU9:((bC fr (vs.take k) p).1++vs.drop k)=(bC fr vs p).1:=by rw[hkk,List.drop_of_length_le (by omega),List.append_nil]
 have hG9:(bC fr (vs.take k) p).2.1=(bC fr vs p).2.1:=by rw[hkk]
 have hul9:(bC fr vs p).1.length=vs.length:=Ho fr vs p
 refine WL.sub (iU (j:=0) (k:=1) (p:=0) (n:=vs.length) (trs:=(bC fr vs p).1.flatMap (cF false)) rfl rfl rfl (congrArg (fun l=>some (⟨102,5,eF l⟩:Ob)) hU9) rfl (cD _ _ (by rw[bJ,hul9])) (by rw[bJ,hul9]) rfl) ?_
 have hsw:=Cg (t0:=137) (rest:=[.v (.int .i64 last),.v (.bool put)]) (vs:=(bC fr vs p).1) (dl:=Af) (fst:=[]) (caps:=[]) PL (fun x hx=>JY (y:=x.1) (q:=x.2) (hzU x hx)) (by rw[hul9];exact hl)
 rw[show sR 102 (bC fr vs p).1=.s true 102 5 vs.length ((bC fr vs p).1.flatMap (cF false)) by rw[←hul9];rfl]at hsw
 refine cl 4 [0] hsw Pu ⟨oe rfl rfl,rfl⟩ ⟨rfl,rfl,rfl⟩ (ok:=[some ⟨137,0,[.t (sR 102 (dT Af (bC fr vs p).1)),tv (.int .i64 last),tv (.bool put)]⟩]) ⟨oe rfl rfl,rfl⟩ ?_
 refine nl ?_;refine sq ?_;refine rl ?_;refine o1 ?_;refine o1 ?_;refine nl ?_;refine rt ?_
 exact gR (lent':=[⟨137,0,[.t (sR 102 (dT Af (bC fr vs p).1)),tv (.int .i64 last),tv (.bool put)]⟩]) (.inl rfl) rfl (aZ (.one (.sl (trs:=(bC fr (vs.take k) p).2.1.flatMap (cF true)) rfl rfl (cD _ _ (bJ true _)) (bJ true _)))) (by decide) (by simp) ⟨⟨rfl,rfl⟩,trivial⟩ ⟨rfl,trivial⟩ ⟨rfl,trivial⟩ (fun h=>by cases h) ⟨rfl,by rw[hG9];rfl⟩
theorem Sy {y b:Int}{q:Rat}:aD true Tryz.prog 104 [] [.agg ((cF false (y,q)).map .t),.one (.t (.p false 3 [.v (.int .i64 b)]))] (aP (.one (tv (.bool (decide (y<b)))))):=by
 refine cC Tryz.func104 rfl Tryz.ntmps104 rfl aA rfl fun N w c0 h0=>?_
 refine WP.sub (Ha (i:=1) rfl rfl) ?_;refine sq ?_;refine rl ?_;refine bx 0 ?_;refine o1 ?_;refine nl ?_;refine sq ?_;refine rl ?_;refine o1 ?_;refine ld ?_
 refine dU ([.v (.int .i64 b)]) rfl ?_;refine o1 ?_;refine o1 ?_;refine nl ?_;refine rt ?_;exact en (.inl rfl) rfl (aZ (cR _)) (by decide) (fun _=>trivial) rfl
theorem KA {y b:Int}{q:Rat}:aD true Tryz.prog 107 [] [.agg ((cF false (y,q)).map .t),.one (.t (.p false 170 [.f 104 [] [.p false 3 [.v (.int .i64 b)]]]))] (aP (.one (tv (.bool (!decide (y<b)))))):=by
 refine cC Tryz.func107 rfl Tryz.ntmps107 rfl aA rfl fun N w c0 h0=>?_
 refine WP.sub (Ha (i:=1) rfl rfl) ?_;refine sq ?_;refine rl ?_;refine bx 0 ?_;refine o1 ?_;refine nl ?_;refine sq ?_;refine rl ?_
 refine dU ([.f 104 [] [.p false 3 [.v (.int .i64 b)]]]) rfl ?_;refine ld ?_
 refine ce 1 [.agg [tv (.int .i64 y),tv (.bool (aE q.num)),.t (sU false (dg 4294967296 q.num.natAbs)),tv (.bool false),.t (sU false (dg 4294967296 q.den))]] rfl (Sy (y:=y) (q:=q) (b:=b)) CA ⟨rfl,rfl⟩ ?_
 refine o1 ?_;refine o1 ?_;refine nl ?_;refine rt ?_;exact en (.inl rfl) rfl (aZ (cR _)) (by decide) (fun _=>trivial) rfl
theorem Xs {vs:List (Int×Rat)}{last b:Int}{put:Bool}(hl:vs.length≤1073741823) (hz:∀x∈vs,Sz 68719476736 x.2):aD false Tryz.prog 72 [⟨137,0,[.t (sR 102 vs),tv (.int .i64 last),tv (.bool put)]⟩] [.one (.pt 0 0),.one (tv (.int .i64 b))] (Rt [⟨137,0,[.t (sR 102 (dT (fun x:Int×Rat=>decide (x.1<b)) vs)),tv (.int .i64 last),tv (.bool put)]⟩] (.one (.t (sO 102 (dT (fun x:Int×Rat=> !decide (x.1<b)) vs))))):=by
 refine mQ Tryz.func72 rfl Tryz.ntmps72 rfl aA rfl fun N M w c0 h0=>?_
 refine WP.sub (nX (j:=0) (key:=1) (p:=0) (e:=102) (z:=5) (n:=vs.length) (trs:=vs.flatMap (cF false)) rfl rfl rfl rfl rfl) ?_;refine sq ?_;refine rl ?_;refine bx 2 ?_
 refine WL.sub (Ed (i:=3) (k:=2) (t:=3) (l:=[.v (.int .i64 b)]) rfl rfl rfl (.one .sl)) ?_;refine o1 ?_;refine nl ?_;refine sq ?_;refine sq ?_;refine rl ?_;refine o1 ?_;refine o1 ?_
 refine nl ?_;refine eN rfl ?_;refine sk ?_;refine sq ?_;refine rl ?_;refine o1 ?_;refine al 3 ?_;refine st ?_
 refine WL.sub (Ed (i:=5) (k:=3) (t:=170) (l:=[.f 104 [] [.p false 3 [.v (.int .i64 b)]]]) rfl rfl rfl (.one .sl)) ?_;refine nl ?_;refine sq ?_;refine rl ?_;(iterate 4 refine o1 ?_)
 refine ld ?_;refine cl 4 [1] (Xo hl) PM ⟨aI rfl,rfl⟩ ⟨rfl,rfl⟩ (ok:=[some ⟨102,5,eF vs⟩]) ⟨aI rfl,rfl⟩ ?_;refine o1 ?_;refine bx 5 ?_;refine o1 ?_;refine nl ?_;refine sq ?_
 refine rl ?_;refine o1 ?_;refine o1 ?_
 refine WL.sub (iU (j:=5) (k:=4) (p:=0) (n:=vs.length) (trs:=vs.flatMap (cF false)) rfl rfl rfl rfl rfl (cD _ _ (bJ false _)) (bJ false _) rfl) ?_
 refine cl 6 [5] (Cg (t0:=135) (rest:=[]) (dl:=(fun x:Int×Rat=> !decide (x.1<b))) (fst:=[]) (caps:=[.p false 170 [.f 104 [] [.p false 3 [.v (.int .i64 b)]]]]) PN (fun x _=>KA (y:=x.1) (q:=x.2)) hl) Pu ⟨oe rfl rfl,rfl⟩ ⟨rfl,rfl,rfl⟩ (ok:=[some ⟨135,0,[.t (sR 102 (dT (fun x:Int×Rat=> !decide (x.1<b)) vs))]⟩]) ⟨oe rfl rfl,rfl⟩ ?_
 refine nl ?_;refine sq ?_
 refine WP.sub (iU (j:=0) (k:=1) (p:=0) (n:=vs.length) (trs:=vs.flatMap (cF false)) rfl rfl rfl rfl rfl (cD _ _ (bJ false _)) (bJ false _) rfl) ?_
 refine WP.sub (Ha (i:=5) rfl rfl) ?_;refine rd [5] (fun i=>[].contains i) mixed ?_
 refine dv 0 ?_;refine dv 1 ?_;refine dv 2 ?_;refine gI 3 ([.f 104 [] [.p false 3 [.v (.int .i64 b)]]]) rfl ?_
 refine Sx 4 6 [0] rfl (Cg (t0:=137) (rest:=[.v (.int .i64 last),.v (.bool put)]) (dl:=(fun x:Int×Rat=>decide (x.1<b))) (fst:=[]) (caps:=[.p false 3 [.v (.int .i64 b)]]) CA (fun x _=>Sy (y:=x.1) (q:=x.2)) hl) Pu ⟨oe rfl rfl,rfl⟩ ⟨rfl,rfl,rfl⟩ (ok:=[some ⟨137,0,[.t (sR 102 (dT (fun x:Int×Rat=>decide (x.1<b)) vs)),tv (.int .i64 last),tv (.bool put)]⟩]) ⟨oe rfl rfl,rfl⟩ ⟨rfl,trivial⟩ ?_
 refine aS ?_;refine sq ?_;refine rl ?_;refine o1 ?_
 refine iY 6 (Sr (vs:=(dT (fun x:Int×Rat=> !decide (x.1<b)) vs)) (rest:=[]) (fun x hx=>hz x (List.mem_filter.1 hx).1) (Nat.le_trans (List.length_filter_le _ _) hl)) JR ⟨uQ rfl (.pe (trs:=[sR 102 (dT (fun x:Int×Rat=> !decide (x.1<b)) vs)]) rfl rfl rfl (by simp[rdTL,rX,sR,sV,xB])),rfl⟩ ?_
 refine o1 ?_;refine nl ?_;refine rt ?_
 exact gR (lent':=[⟨137,0,[.t (sR 102 (dT (fun x:Int×Rat=>decide (x.1<b)) vs)),tv (.int .i64 last),tv (.bool put)]⟩]) (.inl rfl) rfl (aZ (.one (.sl (trs:=(dT (fun x:Int×Rat=> !decide (x.1<b)) vs).flatMap (cF true)) rfl rfl (cD _ _ (bJ true _)) (bJ true _)))) (by decide) (by simp) ⟨⟨rfl,rfl⟩,trivial⟩ ⟨rfl,trivial⟩ ⟨rfl,trivial⟩ (fun h=>by cases h) ⟨rfl,rfl⟩
theorem PO {vs:List (Int×Rat)}{last y:Int}{put:Bool}{a:Fr4}{q:Rat}(ha:Qn a q) (hl:vs.length≤1073741822):aD false Tryz.prog 71 [⟨137,0,[.t (sR 102 vs),tv (.int .i64 last),tv (.bool put)]⟩] [.one (.pt 0 0),.one (tv (.int .i64 y)),qF a] (Rt [⟨137,0,[.t (sR 102 (jQ (dW (bQ a.s a.x a.t a.y) q y last put) q y vs)),tv (.int .i64 (vL (dW (bQ a.s a.x a.t a.y) q y last put) y last)),tv (.bool (vM (dW (bQ a.s a.x a.t a.y) q y last put) put))]⟩] (.one (tv (.int .i64 (dW (bQ a.s a.x a.t a.y) q y last put))))):=by
 refine mQ Tryz.func71 rfl Tryz.ntmps71 rfl aA rfl fun N M w c0 h0=>?_
 refine WP.sub (nX (j:=0) (key:=1) (p:=0) (e:=102) (z:=5) (n:=vs.length) (trs:=vs.flatMap (cF false)) rfl rfl rfl rfl rfl) ?_;refine sq ?_;refine rl ?_;refine bx 2 ?_;refine o1 ?_
 refine nl ?_;refine sq ?_;refine bl ?_;refine sq ?_;refine rl ?_;(iterate 3 refine o1 ?_);refine nl ?_;refine eN rfl ?_;refine sq ?_;refine rl ?_;refine ld ?_
 refine ca (Gz ha.1) Xi ⟨aG rfl,rfl⟩ (.one (tv (.bool (bQ a.s a.x a.t a.y)))) ?_;refine WL.splitb (t:=12) rfl (fun h1=>?_) (fun h1=>?_)
 ·refine o1 ?_;refine o1 ?_;refine ld ?_;refine ca (lW ha) tG ⟨aG rfl,rfl⟩ (.one (tv (.int .i64 q.num.sign))) ?_;(iterate 3 refine o1 ?_);refine nl ?_
  refine bM rfl (fun h2=>?_) (fun h2=>?_)
  ·refine sq ?_;refine rl ?_
   refine WL.sub (iU (j:=0) (k:=1) (p:=0) (n:=vs.length) (trs:=vs.flatMap (cF false)) rfl rfl rfl rfl rfl (cD _ _ (bJ false _)) (bJ false _) rfl) ?_;refine o1 ?_
   refine nl ?_;refine rt ?_;have hpe:(dW (bQ a.s a.x a.t a.y) q y last put)=2:=by unfold dW;rw[h1,decide_eq_true h2];rfl
   exact gR (lent':=[⟨137,0,[.t (sR 102 (jQ (dW (bQ a.s a.x a.t a.y) q y last put) q y vs)),tv (.int .i64 (vL (dW (bQ a.s a.x a.t a.y) q y last put) y last)),tv (.bool (vM (dW (bQ a.s a.x a.t a.y) q y last put) put))]⟩]) (.inl rfl) rfl (aZ (cR _)) (by decide) (fun _ h=>by cases h) ⟨⟨rfl,rfl⟩,trivial⟩ ⟨(by rw[hpe];rfl),trivial⟩ ⟨rfl,trivial⟩ (fun h=>by cases h) ⟨rfl,by rw[hpe]⟩
  refine sq ?_;refine rl ?_;(iterate 3 refine o1 ?_);refine ld ?_;refine o1 ?_;refine WL.splitb (t:=24) rfl (fun h3=>?_) (fun h3=>?_)
  ·(iterate 4 refine o1 ?_);refine ld ?_;(iterate 3 refine o1 ?_);refine nl ?_;refine bM rfl (fun h4=>?_) (fun h4=>?_)
   ·refine sq ?_;refine rl ?_
    refine WL.sub (iU (j:=0) (k:=1) (p:=0) (n:=vs.length) (trs:=vs.flatMap (cF false)) rfl rfl rfl rfl rfl (cD _ _ (bJ false _)) (bJ false _) rfl) ?_
    refine o1 ?_;refine nl ?_;refine rt ?_;have hpe:(dW (bQ a.s a.x a.t a.y) q y last put)=4:=by unfold dW;rw[h1,decide_eq_false h2,h3,decide_eq_true h4];rfl
    exact gR (lent':=[⟨137,0,[.t (sR 102 (jQ (dW (bQ a.s a.x a.t a.y) q y last put) q y vs)),tv (.int .i64 (vL (dW (bQ a.s a.x a.t a.y) q y last put) y last)),tv (.bool (vM (dW (bQ a.s a.x a.t a.y) q y last put) put))]⟩]) (.inl rfl) rfl (aZ (cR _)) (by decide) (fun _ h=>by cases h) ⟨⟨rfl,rfl⟩,trivial⟩ ⟨(by rw[hpe];rfl),trivial⟩ ⟨rfl,trivial⟩ (fun h=>by cases h) ⟨rfl,by rw[hpe]⟩
   refine sk ?_;refine sq ?_;refine rl ?_;(iterate 5 refine o1 ?_);refine st ?_;refine o1 ?_;refine o1 ?_;refine st ?_;refine nl ?_;refine sq ?_;refine sq ?_
   obtain rfl:=(ha.right h1).symm
   refine rl ?_;refine ld ?_;refine ca (lW ha) tG ⟨aG rfl,rfl⟩ (.one (tv (.int .i64 q.num.sign))) ?_;refine o1 ?_;refine nl ?_;refine bM rfl (fun h5=>?_) (fun h5=>?_)
   ·refine rd [0,2] (fun i=>[12,13,14,15].contains i) mixed ?_
    refine dv 0 ?_;refine dv 1 ?_;refine dv 2 ?_;refine dv 3 ?_;refine dv 4 ?_;refine aR 5 ?_;refine dv 6 ?_;refine aR 7 ?_;refine dv 8 ?_
    refine bB 9 rfl (wY (y:=y) ha) Ft ⟨aG rfl,rfl⟩ (.agg ((cF false (y,q)).map .t)) ?_;refine kN (key:=3) 10 (by kernel_rfl) rfl rfl aA rfl ⟨rfl,rfl,trivial⟩ ?_
    refine oB (j:=4) (n:=vs.length) (l:=eF vs) 11 rfl aA rfl rfl rfl (.sl rfl (kI _)) (.sl rfl rfl rfl) rfl rfl (by omega) (by omega) rfl ⟨rfl,rfl,trivial⟩ rfl (by kernel_rfl) rfl ?_
    refine eR 12 (by kernel_rfl) rfl rfl aA rfl (by trivial) ?_ (fun h=>by first | rfl | cases h)
    refine eR 13 (by kernel_rfl) rfl rfl aA rfl (by trivial) ?_ (fun h=>by first | rfl | cases h)
    refine eR 14 (by kernel_rfl) rfl rfl aA rfl (by trivial) ?_ (fun h=>by first | rfl | cases h)
    refine dst 15 ?_;refine aS ?_;refine sq ?_;refine rl ?_
    refine WL.sub (iU (j:=0) (k:=4) (p:=0) (n:=vs.length+1) (trs:=(vs++[(y,q)]).flatMap (cF false)) rfl rfl rfl (congrArg (fun l=>some (⟨102,5,l⟩:Ob)) (Hp vs (y,q))) rfl (cD _ _ (by rw[bJ,List.length_append];rfl)) (by rw[bJ,List.length_append];rfl) rfl) ?_
    refine o1 ?_;refine nl ?_;refine rt ?_
    have hpe:(dW (bQ (Fr4.of q).s (Fr4.of q).x (Fr4.of q).t (Fr4.of q).y) q y last put)=0:=by unfold dW;rw[h1,decide_eq_false h2,h3,decide_eq_false h4];rfl
    have hpl:jQ 0 q y vs=(vs++[(y,q)]):=by unfold jQ;rw[decide_eq_true h5];rfl
    exact gR (lent':=[⟨137,0,[.t (sR 102 (jQ (dW (bQ (Fr4.of q).s (Fr4.of q).x (Fr4.of q).t (Fr4.of q).y) q y last put) q y vs)),tv (.int .i64 (vL (dW (bQ (Fr4.of q).s (Fr4.of q).x (Fr4.of q).t (Fr4.of q).y) q y last put) y last)),tv (.bool (vM (dW (bQ (Fr4.of q).s (Fr4.of q).x (Fr4.of q).t (Fr4.of q).y) q y last put) put))]⟩]) (.inl rfl) rfl (aZ (cR _)) (by decide) (fun _ h=>by cases h) ⟨⟨rfl,rfl⟩,trivial⟩ ⟨(by rw[hpe,hpl];rw[show sR 102 (vs++[(y,q)])=.s true 102 5 (vs.length+1) ((vs++[(y,q)]).flatMap (cF false)) by rw[sR,List.length_append];rfl];rfl),trivial⟩ ⟨rfl,trivial⟩ (fun h=>by cases h) ⟨rfl,by rw[hpe]⟩
   refine sk ?_;refine sq ?_;refine rl ?_
   refine WL.sub (iU (j:=0) (k:=1) (p:=0) (n:=vs.length) (trs:=vs.flatMap (cF false)) rfl rfl rfl rfl rfl (cD _ _ (bJ false _)) (bJ false _) rfl) ?_
   refine o1 ?_;refine nl ?_;refine rt ?_
   have hpe:(dW (bQ (Fr4.of q).s (Fr4.of q).x (Fr4.of q).t (Fr4.of q).y) q y last put)=0:=by unfold dW;rw[h1,decide_eq_false h2,h3,decide_eq_false h4];rfl
   have hpl:jQ 0 q y vs=vs:=by unfold jQ;rw[decide_eq_false h5];rfl
   exact gR (lent':=[⟨137,0,[.t (sR 102 (jQ (dW (bQ (Fr4.of q).s (Fr4.of q).x (Fr4.of q).t (Fr4.of q).y) q y last put) q y vs)),tv (.int .i64 (vL (dW (bQ (Fr4.of q).s (Fr4.of q).x (Fr4.of q).t (Fr4.of q).y) q y last put) y last)),tv (.bool (vM (dW (bQ (Fr4.of q).s (Fr4.of q).x (Fr4.of q).t (Fr4.of q).y) q y last put) put))]⟩]) (.inl rfl) rfl (aZ (cR _)) (by decide) (fun _ h=>by cases h) ⟨⟨rfl,rfl⟩,trivial⟩ ⟨(by rw[hpe,hpl];rfl),trivial⟩ ⟨rfl,trivial⟩ (fun h=>by cases h) ⟨rfl,by rw[hpe]⟩
  (iterate 6 refine cM ?_);refine o1 ?_;refine o1 ?_;refine nl ?_;refine eN rfl ?_;refine sk ?_;refine sq ?_;refine rl ?_;(iterate 5 refine o1 ?_);refine st ?_;refine o1 ?_
  refine o1 ?_;refine st ?_;refine nl ?_;refine sq ?_;refine sq ?_;obtain rfl:=(ha.right h1).symm
  refine rl ?_;refine ld ?_;refine ca (lW ha) tG ⟨aG rfl,rfl⟩ (.one (tv (.int .i64 q.num.sign))) ?_;refine o1 ?_;refine nl ?_;refine bM rfl (fun h6=>?_) (fun h6=>?_)
  ·refine rd [0,2] (fun i=>[12,13,14,15].contains i) mixed ?_
   refine dv 0 ?_;refine dv 1 ?_;refine dv 2 ?_;refine dv 3 ?_;refine dv 4 ?_;refine aR 5 ?_;refine dv 6 ?_;refine aR 7 ?_;refine dv 8 ?_
   refine bB 9 rfl (wY (y:=y) ha) Ft ⟨aG rfl,rfl⟩ (.agg ((cF false (y,q)).map .t)) ?_;refine kN (key:=3) 10 (by kernel_rfl) rfl rfl aA rfl ⟨rfl,rfl,trivial⟩ ?_
   refine oB (j:=4) (n:=vs.length) (l:=eF vs) 11 rfl aA rfl rfl rfl (.sl rfl (kI _)) (.sl rfl rfl rfl) rfl rfl (by omega) (by omega) rfl ⟨rfl,rfl,trivial⟩ rfl (by kernel_rfl) rfl ?_
   refine eR 12 (by kernel_rfl) rfl rfl aA rfl (by trivial) ?_ (fun h=>by first | rfl | cases h)
   refine eR 13 (by kernel_rfl) rfl rfl aA rfl (by trivial) ?_ (fun h=>by first | rfl | cases h)
   refine eR 14 (by kernel_rfl) rfl rfl aA rfl (by trivial) ?_ (fun h=>by first | rfl | cases h)
   refine dst 15 ?_;refine aS ?_;refine sq ?_;refine rl ?_
   refine WL.sub (iU (j:=0) (k:=4) (p:=0) (n:=vs.length+1) (trs:=(vs++[(y,q)]).flatMap (cF false)) rfl rfl rfl (congrArg (fun l=>some (⟨102,5,l⟩:Ob)) (Hp vs (y,q))) rfl (cD _ _ (by rw[bJ,List.length_append];rfl)) (by rw[bJ,List.length_append];rfl) rfl) ?_
   refine o1 ?_;refine nl ?_;refine rt ?_
   have hpe:(dW (bQ (Fr4.of q).s (Fr4.of q).x (Fr4.of q).t (Fr4.of q).y) q y last put)=0:=by unfold dW;rw[h1,decide_eq_false h2,h3];rfl
   have hpl:jQ 0 q y vs=(vs++[(y,q)]):=by unfold jQ;rw[decide_eq_true h6];rfl
   exact gR (lent':=[⟨137,0,[.t (sR 102 (jQ (dW (bQ (Fr4.of q).s (Fr4.of q).x (Fr4.of q).t (Fr4.of q).y) q y last put) q y vs)),tv (.int .i64 (vL (dW (bQ (Fr4.of q).s (Fr4.of q).x (Fr4.of q).t (Fr4.of q).y) q y last put) y last)),tv (.bool (vM (dW (bQ (Fr4.of q).s (Fr4.of q).x (Fr4.of q).t (Fr4.of q).y) q y last put) put))]⟩]) (.inl rfl) rfl (aZ (cR _)) (by decide) (fun _ h=>by cases h) ⟨⟨rfl,rfl⟩,trivial⟩ ⟨(by rw[hpe,hpl];rw[show sR 102 (vs++[(y,q)])=.s true 102 5 (vs.length+1) ((vs++[(y,q)]).flatMap (cF false)) by rw[sR,List.length_append];rfl];rfl),trivial⟩ ⟨rfl,trivial⟩ (fun h=>by cases h) ⟨rfl,by rw[hpe]⟩
  refine sk ?_;refine sq ?_;refine rl ?_
  refine WL.sub (iU (j:=0) (k:=1) (p:=0) (n:=vs.length) (trs:=vs.flatMap (cF false)) rfl rfl rfl rfl rfl (cD _ _ (bJ false _)) (bJ false _) rfl) ?_
  refine o1 ?_;refine nl ?_;refine rt ?_
  have hpe:(dW (bQ (Fr4.of q).s (Fr4.of q).x (Fr4.of q).t (Fr4.of q).y) q y last put)=0:=by unfold dW;rw[h1,decide_eq_false h2,h3];rfl
  have hpl:jQ 0 q y vs=vs:=by unfold jQ;rw[decide_eq_false h6];rfl
  exact gR (lent':=[⟨137,0,[.t (sR 102 (jQ (dW (bQ (Fr4.of q).s (Fr4.of q).x (Fr4.of q).t (Fr4.of q).y) q y last put) q y vs)),tv (.int .i64 (vL (dW (bQ (Fr4.of q).s (Fr4.of q).x (Fr4.of q).t (Fr4.of q).y) q y last put) y last)),tv (.bool (vM (dW (bQ (Fr4.of q).s (Fr4.of q).x (Fr4.of q).t (Fr4.of q).y) q y last put) put))]⟩]) (.inl rfl) rfl (aZ (cR _)) (by decide) (fun _ h=>by cases h) ⟨⟨rfl,rfl⟩,trivial⟩ ⟨(by rw[hpe,hpl];rfl),trivial⟩ ⟨rfl,trivial⟩ (fun h=>by cases h) ⟨rfl,by rw[hpe]⟩
 refine o1 ?_;refine o1 ?_;(iterate 3 refine cM ?_);refine o1 ?_;refine o1 ?_;refine nl ?_;refine gJ rfl ?_;refine sq ?_;refine rl ?_
 refine WL.sub (iU (j:=0) (k:=1) (p:=0) (n:=vs.length) (trs:=vs.flatMap (cF false)) rfl rfl rfl rfl rfl (cD _ _ (bJ false _)) (bJ false _) rfl) ?_;refine o1 ?_
 refine nl ?_;refine rt ?_;have hpe:(dW (bQ a.s a.x a.t a.y) q y last put)=2:=by unfold dW;rw[h1];rfl
 exact gR (lent':=[⟨137,0,[.t (sR 102 (jQ (dW (bQ a.s a.x a.t a.y) q y last put) q y vs)),tv (.int .i64 (vL (dW (bQ a.s a.x a.t a.y) q y last put) y last)),tv (.bool (vM (dW (bQ a.s a.x a.t a.y) q y last put) put))]⟩]) (.inl rfl) rfl (aZ (cR _)) (by decide) (fun _ h=>by cases h) ⟨⟨rfl,rfl⟩,trivial⟩ ⟨(by rw[hpe];rfl),trivial⟩ ⟨rfl,trivial⟩ (fun h=>by cases h) ⟨rfl,by rw[hpe]⟩
theorem Mf {xs:List Nat}(hx:xs.length≤1099511627776):aD true Tryz.prog 60 [] [.one (.t (sU false xs))] (aP (.one (.t (sU true xs)))):=by
 refine cC Tryz.func60 rfl Tryz.ntmps60 rfl aA rfl fun N w c0 h0=>?_
 refine sq ?_;refine rl ?_;refine o1 ?_;refine nl ?_;refine sq ?_;refine rl ?_;refine o1 ?_;refine nl ?_;refine sq ?_;refine rl ?_;refine o1 ?_;refine o1 ?_
 refine jE (j:=0) aA rfl rfl rfl rfl .nil .fz (KB _) (Xt _) rfl (by omega) (by omega) ?_
 refine o1 ?_;refine nl ?_;refine rt ?_
 exact en (.inl rfl) rfl (aZ (.one (.sl rfl rfl (by rw[Nat.zero_add,Nat.mul_one,List.nil_append,List.take_of_length_le (by simp[hH])]) (by simp[hH])))) (by decide) (fun _=>.inl ⟨rfl,eV xs⟩) (by simp[aP,sU])
theorem EN {a:Fr4}(ha:a.len 1099511627776):aD true Tryz.prog 59 [] [qF a] (aP (rO a)):=by
 refine cC Tryz.func59 rfl Tryz.ntmps59 rfl aA rfl fun N w c0 h0=>?_
 refine sq ?_;refine rl ?_;refine bx 0 ?_;refine al 1 ?_;refine nl ?_;refine sq ?_;refine rd [0,1] (fun i=>[17].contains i) mixed ?_
 refine dv 0 ?_;refine dv 1 ?_;refine aR 2 ?_;refine dv 3 ?_;refine dv 4 ?_;refine aR 5 ?_;refine dv 8 ?_;refine dv 9 ?_;refine aR 10 ?_;refine dv 11 ?_;refine dv 12 ?_;refine aR 13 ?_
 refine lN 2 6 rfl (Mf ha.1) KC ⟨a1 rfl,rfl⟩ ?_;refine df 7 ?_;refine lN 3 14 rfl (Mf ha.2) KC ⟨a1 rfl,rfl⟩ ?_;refine df 15 ?_;refine df 16 ?_;refine dst 17 ?_;refine aS ?_
 refine rt ?_
 exact en (.inl rfl) rfl (aZ (.agg (.cons (.id rfl) (.cons (.sl (trs:=aY a.x) rfl rfl (bV _) (bR _)) (.cons (.id rfl) (.cons (.sl (trs:=aY a.y) rfl rfl (bV _) (bR _)) .nil)))))) (by decide) (fun _=>vN a) rfl
theorem EO:aD false Tryz.prog 44 [] [] (aP (qF (.of 0))):=by
 refine cC Tryz.func44 rfl Tryz.ntmps44 rfl aA rfl fun N w c0 h0=>?_
 refine sq ?_;refine rl ?_;refine al 0 ?_;refine nl ?_;refine sq ?_;refine rl ?_;have hn1:=vO (n:=(0:Int)) (by omega) (by omega)
 refine ca (zZ (n:=(0:Int)) (by omega) (by omega)) Gw ⟨a1 rfl,rfl⟩ (kF ((0:Int))) ?_
 have hn2:=vO (n:=(1:Int)) (by omega) (by omega)
 refine ca (zZ (n:=(1:Int)) (by omega) (by omega)) Gw ⟨a1 rfl,rfl⟩ (kF ((1:Int))) ?_
 refine o1 ?_;refine st ?_;refine nl ?_;refine rt ?_
 exact en (.inl rfl) rfl (aZ (.agg (.cons (.id rfl) (.cons (.id rfl) (.cons (.id rfl) (.cons (.id rfl) .nil)))))) (by decide) (fun h=>by cases h) (Ch (q:=0) rfl rfl)
theorem qY {a b:Zi}{k k':Int}(ha:Zn a k) (hb:Zn b k') (h0:k'≠0):aD false Tryz.prog 109 [] [gF a,gF b] (aP (.tup [kF (k.fdiv k'),kF (k.fmod k'),.one (tv (.int .i64 0))])):=by
 have h:=Sd ha hb
 rwa[if_neg h0,if_neg h0,if_neg h0]at h
theorem KD {a b:Zi}{k k':Int}(ha:Zn a k) (hb:Zn b k'):aD false Tryz.prog 78 [] [gF a,gF b] (aP (.tup [qF (.of (Rat.divInt k k')),.one (tv (.int .i64 (if k'=0 then 20 else 0)))])):=by
 refine cC Tryz.func78 rfl Tryz.ntmps78 rfl aA rfl fun N w c0 h0=>?_
 have hkl:=ha.len
 have hkl':=hb.len
 refine sq ?_;refine rl ?_;refine bx 0 ?_;refine bx 1 ?_;refine al 2 ?_;refine o1 ?_;refine nl ?_;refine sq ?_;refine sq ?_;refine rl ?_;refine ld ?_
 refine ca (rV hb) Gv ⟨aG rfl,rfl⟩ (.one (tv (.int .i64 (k').sign))) ?_;refine o1 ?_;refine nl ?_;refine bM rfl (fun h1=>?_) (fun h1=>?_)
 ·refine sq ?_;refine rl ?_;refine ca (EO) SF rfl (qF (.of 0)) ?_;refine st ?_;refine o1 ?_;refine nl ?_;refine rt ?_;have hk0:k'=0:=Int.sign_eq_zero_iff_zero.1 h1
  have hd0:Rat.divInt k k'=0:=by rw[hk0];simp
  exact en (.inl rfl) rfl (uP (.cons (.agg (.cons (.id rfl) (.cons (.id rfl) (.cons (.id rfl) (.cons (.id rfl) .nil))))) (.cons (cR _) .nil))) (by decide) (fun h=>by cases h) (by rw[if_pos hk0,hd0];rfl)
 refine sk ?_;refine sq ?_;refine sq ?_;have hk0:k'≠0:=fun h9=>h1 (by rw[h9];rfl)
 refine rl ?_;refine ld ?_;refine ca (rV hb) Gv ⟨aG rfl,rfl⟩ (.one (tv (.int .i64 (k').sign))) ?_;refine o1 ?_;refine nl ?_;refine bM rfl (fun h2=>?_) (fun h2=>?_)
 ·refine sq ?_;refine rl ?_;refine ld ?_;have hn3:=jX (k)
  refine ca (Hq ha) Xu ⟨aG rfl,rfl⟩ (kF (-k)) ?_;refine st ?_;refine nl ?_;refine rl ?_;refine ld ?_;have hn4:=jX (k')
  refine ca (Hq hb) Xu ⟨aG rfl,rfl⟩ (kF (-k')) ?_;refine st ?_;refine nl ?_;refine sq ?_;have hkn:k'<0:=Int.sign_neg_iff.1 h2
  refine rl ?_;refine ld ?_;refine ld ?_;have hn5:=Mg (k:=-k) (k':=-k') (by omega)
  refine ca (Sc (Zn.of (k:=-k) (by omega)) (Zn.of (k:=-k') (by omega))) KE ⟨aG rfl,aG rfl,rfl⟩ (kF (((Int.gcd (-k) (-k'):Nat):Int))) ?_
  refine al 3 ?_;refine st ?_;refine nl ?_;refine sq ?_;refine rl ?_;refine ld ?_;refine ld ?_
  refine ca (qY (Zn.of (k:=-k) (by omega)) (Zn.of (k:=((Int.gcd (-k) (-k'):Nat):Int)) (by omega)) (Ah (by omega))) Fu ⟨aG rfl,aG rfl,rfl⟩ (.tup [kF ((-k).fdiv ((Int.gcd (-k) (-k'):Nat):Int)),kF ((-k).fmod ((Int.gcd (-k) (-k'):Nat):Int)),.one (tv (.int .i64 0))]) ?_
  (iterate 4 refine o1 ?_);refine al 4 ?_;refine al 5 ?_;refine st ?_;refine st ?_;refine o1 ?_;refine nl ?_;refine sq ?_;refine rl ?_;refine ld ?_;refine ld ?_
  refine ca (qY (Zn.of (k:=-k') (by omega)) (Zn.of (k:=((Int.gcd (-k) (-k'):Nat):Int)) (by omega)) (Ah (by omega))) Fu ⟨aG rfl,aG rfl,rfl⟩ (.tup [kF ((-k').fdiv ((Int.gcd (-k) (-k'):Nat):Int)),kF ((-k').fmod ((Int.gcd (-k) (-k'):Nat):Int)),.one (tv (.int .i64 0))]) ?_
  (iterate 4 refine o1 ?_);refine al 6 ?_;refine al 7 ?_;refine st ?_;refine st ?_;refine o1 ?_;refine nl ?_;refine sq ?_;refine rl ?_;refine ld ?_;refine ld ?_;refine o1 ?_
  refine st ?_;refine o1 ?_;refine nl ?_;refine rt ?_;obtain⟨hp9,hn9⟩:=Hr (a:=k) hk0
  obtain⟨e1,e2⟩:=hn9 hkn
  exact en (.inl rfl) rfl (uP (.cons (.agg (.cons (.id rfl) (.cons (.id rfl) (.cons (.id rfl) (.cons (.id rfl) .nil))))) (.cons (cR _) .nil))) (by decide) (fun h=>by cases h) (by rw[if_neg hk0];exact congrArg (fun f=>FV.tup [f,.one (tv (.int .i64 0))]) (Ch e1 e2))
 refine sk ?_;refine sq ?_;have hkp:0<k':=by have h9:=mt Int.sign_neg_iff.2 h2;omega
 refine rl ?_;refine ld ?_;refine ld ?_;have hn6:=Mg (k:=k) (k':=k') (by omega)
 refine ca (Sc ha hb) KE ⟨aG rfl,aG rfl,rfl⟩ (kF (((Int.gcd k k':Nat):Int))) ?_;refine al 3 ?_;refine st ?_;refine nl ?_;refine sq ?_;refine rl ?_;refine ld ?_;refine ld ?_
 refine ca (qY ha (Zn.of (k:=((Int.gcd k k':Nat):Int)) (by omega)) (Ah (by omega))) Fu ⟨aG rfl,aG rfl,rfl⟩ (.tup [kF ((k).fdiv ((Int.gcd k k':Nat):Int)),kF ((k).fmod ((Int.gcd k k':Nat):Int)),.one (tv (.int .i64 0))]) ?_
 (iterate 4 refine o1 ?_);refine al 4 ?_;refine al 5 ?_;refine st ?_;refine st ?_;refine o1 ?_;refine nl ?_;refine sq ?_;refine rl ?_;refine ld ?_;refine ld ?_
 refine ca (qY hb (Zn.of (k:=((Int.gcd k k':Nat):Int)) (by omega)) (Ah (by omega))) Fu ⟨aG rfl,aG rfl,rfl⟩ (.tup [kF ((k').fdiv ((Int.gcd k k':Nat):Int)),kF ((k').fmod ((Int.gcd k k':Nat):Int)),.one (tv (.int .i64 0))]) ?_
 (iterate 4 refine o1 ?_);refine al 6 ?_;refine al 7 ?_;refine st ?_;refine st ?_;refine o1 ?_;refine nl ?_;refine sq ?_;refine rl ?_;refine ld ?_;refine ld ?_;refine o1 ?_
 refine st ?_;refine o1 ?_;refine nl ?_;refine rt ?_;obtain⟨hp9,hn9⟩:=Hr (a:=k) hk0
 obtain⟨e1,e2⟩:=hp9 hkp
 exact en (.inl rfl) rfl (uP (.cons (.agg (.cons (.id rfl) (.cons (.id rfl) (.cons (.id rfl) (.cons (.id rfl) .nil))))) (.cons (cR _) .nil))) (by decide) (fun h=>by cases h) (by rw[if_neg hk0];exact congrArg (fun f=>FV.tup [f,.one (tv (.int .i64 0))]) (Ch e1 e2))
theorem PP {n d:Int}(h1:-9223372036854775808≤n) (h2:n≤9223372036854775807) (h3:-9223372036854775808≤d) (h4:d≤9223372036854775807):aD false Tryz.prog 58 [] [.one (tv (.int .i64 n)),.one (tv (.int .i64 d))] (aP (.tup [qF (.of (Rat.divInt n d)),.one (tv (.int .i64 (if d=0 then 20 else 0)))])):=by
 refine cC Tryz.func58 rfl Tryz.ntmps58 rfl aA rfl fun N w c0 h0=>?_
 refine sq ?_;refine rl ?_;refine al 0 ?_;refine o1 ?_;refine nl ?_;refine sq ?_;refine rl ?_;refine o1 ?_;have hn1:=vO (n:=n) (by omega) (by omega)
 refine ca (zZ (n:=n) (by omega) (by omega)) Gw ⟨a1 rfl,rfl⟩ (kF (n)) ?_
 refine o1 ?_;have hn2:=vO (n:=d) (by omega) (by omega)
 refine ca (zZ (n:=d) (by omega) (by omega)) Gw ⟨a1 rfl,rfl⟩ (kF (d)) ?_
 refine ca (KD (Zn.of (k:=n) (by omega)) (Zn.of (k:=d) (by omega))) SG ⟨aG rfl,aG rfl,rfl⟩ (.tup [qF (.of (Rat.divInt (n) (d))),.one (tv (.int .i64 (if(d)=0 then 20 else 0)))]) ?_
 refine o1 ?_;refine o1 ?_;refine st ?_;refine o1 ?_;refine nl ?_;refine rt ?_
 exact en (.inl rfl) rfl (uP (.cons (.agg (.cons (.id rfl) (.cons (.id rfl) (.cons (.id rfl) (.cons (.id rfl) .nil))))) (.cons (cR _) .nil))) (by decide) (fun h=>by cases h) rfl
theorem Ta {vs:List Vn}{y e:Int}{ra rb rc:Tr}(hf:(cN (bZ y e) vs)<vs.length) (hl:vs.length≤1073741823):aD false Tryz.prog 41 [⟨95,0,[.t ra,.sl 1 0 vs.length,.t rb,.t rc]⟩,⟨64,18,(vs.flatMap (eE false)).map .t⟩] [.one (.pt 0 0),.one (tv (.int .i64 y)),.one (tv (.int .i64 e))] (Rt [⟨95,0,[.t ra,.sl 1 0 vs.length,.t rb,.t rc]⟩,⟨64,18,(vs.flatMap (eE false)).map .t⟩] (.one (.pt 1 (0+(cN (bZ y e) vs)*18)))):=by
 refine mQ Tryz.func41 rfl Tryz.ntmps41 rfl aA rfl fun N9 M9 w9 c0 h0=>?_
 refine sq ?_;refine rl ?_;refine bx 2 ?_;refine WL.sub (Ed (i:=4) (k:=2) (t:=3) (l:=[.v (.int .i64 y)]) rfl rfl rfl (.one .sl)) ?_;refine bx 3 ?_
 refine WL.sub (Ed (i:=5) (k:=3) (t:=3) (l:=[.v (.int .i64 e)]) rfl rfl rfl (.one .sl)) ?_;refine o1 ?_;refine nl ?_;refine sq ?_;refine rl ?_;(iterate 4 refine o1 ?_);refine ld ?_
 refine o1 ?_
 refine ca (BU (xs:=vs) (dl:=bZ y e) (fd:=75) (fst:=[]) (caps:=[.p false 3 [.v (.int .i64 y)],.p false 3 [.v (.int .i64 e)]]) KF (fun x _=>Ma) hl) KG ⟨uQ rfl (.sl rfl rfl (cD _ _ rfl) (cL (eH false) vs)),a1 rfl,rfl⟩ (.one (tv (.int .i64 (nU (bZ y e) vs)))) ?_
 refine WL.cast (t:=14) (u':=.int .i64 (((cN (bZ y e) vs):Nat):Int)) rfl (aC (show nU (bZ y e) vs=_ from if_neg (by omega))) ?_
 refine o1 ?_;refine nl ?_;refine sq ?_;refine rl ?_;(iterate 4 refine o1 ?_);refine ld ?_;(iterate 3 refine o1 ?_);refine nl ?_;refine rt ?_
 exact gR (lent':=[⟨95,0,[.t ra,.sl 1 0 vs.length,.t rb,.t rc]⟩,⟨64,18,(vs.flatMap (eE false)).map .t⟩]) (.inl rfl) rfl (aZ (.one (.rf rfl rfl))) (by decide) (fun _ h=>by cases h) ⟨⟨rfl,rfl⟩,⟨rfl,rfl⟩,trivial⟩ ⟨rfl,rfl,trivial⟩ ⟨rfl,eO _,trivial⟩ (fun h=>by cases h) ⟨rfl,rfl⟩
theorem Aj {vs:List Vn}{y e:Int}{ra rb rc:Tr}{m:Nat}{l3:List Tr}(hf:(cN (bZ y e) vs)<vs.length) (hl:vs.length≤1073741823):aD false Tryz.prog 41 [⟨95,0,[.t ra,.sl 1 0 vs.length,.t rb,.sl 2 0 m]⟩,⟨64,18,(vs.flatMap (eE false)).map .t⟩,⟨96,1,(l3:List Tr).map .t⟩] [.one (.pt 0 0),.one (tv (.int .i64 y)),.one (tv (.int .i64 e))] (Rt [⟨95,0,[.t ra,.sl 1 0 vs.length,.t rb,.sl 2 0 m]⟩,⟨64,18,(vs.flatMap (eE false)).map .t⟩,⟨96,1,(l3:List Tr).map .t⟩] (.one (.pt 1 (0+(cN (bZ y e) vs)*18)))):=by
 refine mQ Tryz.func41 rfl Tryz.ntmps41 rfl aA rfl fun N9 M9 w9 c0 h0=>?_
 refine sq ?_;refine rl ?_;refine bx 3 ?_;refine WL.sub (Ed (i:=4) (k:=3) (t:=3) (l:=[.v (.int .i64 y)]) rfl rfl rfl (.one .sl)) ?_;refine bx 4 ?_
 refine WL.sub (Ed (i:=5) (k:=4) (t:=3) (l:=[.v (.int .i64 e)]) rfl rfl rfl (.one .sl)) ?_;refine o1 ?_;refine nl ?_;refine sq ?_;refine rl ?_;(iterate 4 refine o1 ?_);refine ld ?_
 refine o1 ?_
 refine ca (BU (xs:=vs) (dl:=bZ y e) (fd:=75) (fst:=[]) (caps:=[.p false 3 [.v (.int .i64 y)],.p false 3 [.v (.int .i64 e)]]) KF (fun x _=>Ma) hl) KG ⟨uQ rfl (.sl rfl rfl (cD _ _ rfl) (cL (eH false) vs)),a1 rfl,rfl⟩ (.one (tv (.int .i64 (nU (bZ y e) vs)))) ?_
 refine WL.cast (t:=14) (u':=.int .i64 (((cN (bZ y e) vs):Nat):Int)) rfl (aC (show nU (bZ y e) vs=_ from if_neg (by omega))) ?_
 refine o1 ?_;refine nl ?_;refine sq ?_;refine rl ?_;(iterate 4 refine o1 ?_);refine ld ?_;(iterate 3 refine o1 ?_);refine nl ?_;refine rt ?_
 exact gR (lent':=[⟨95,0,[.t ra,.sl 1 0 vs.length,.t rb,.sl 2 0 m]⟩,⟨64,18,(vs.flatMap (eE false)).map .t⟩,⟨96,1,(l3:List Tr).map .t⟩]) (.inl rfl) rfl (aZ (.one (.rf rfl rfl))) (by decide) (fun _ h=>by cases h) ⟨⟨rfl,rfl⟩,⟨rfl,rfl⟩,⟨rfl,rfl⟩,trivial⟩ ⟨rfl,rfl,rfl,trivial⟩ ⟨rfl,eO _,eO _,trivial⟩ (fun h=>by cases h) ⟨rfl,rfl⟩
theorem Tb {ms:List Bool}{Bs bs:List Rat}{L Us:Rat}{e:Nat}{at9:Int}{ta tb tc td:Tr}(he:e<Bs.length) (heb:e<bs.length) (hB3:Sz 1000 (eC Bs e)) (hY3:Sz 1000 (eC bs (e))) (hL3:Sz 1000 L) (hU3:Sz 1000 Us) (hlb:bs.length≤1073741823) (hlB:Bs.length≤1073741823):aD false Tryz.prog 130 [⟨165,0,[.t (gQ ms),.t (sQ false (Bs.map Fr4.of))]++((Fr4.of L).tr false).map .t++((Fr4.of Us).tr false).map .t++[.sl 1 0 bs.length,.fn 99 [] [.pt 2 0,.pt 3 0]]⟩,⟨48,4,(bs.flatMap qt).map .t⟩,⟨92,0,[.pt 4 0]⟩,⟨3,0,[tv (.int .i64 at9)]⟩,⟨95,0,[.t ta,.t tb,.t tc,.t td]⟩] [.one (.pt 0 0),.one (tv (.int .i64 ((e:Nat):Int)))] (Rt [⟨165,0,[.t (gQ ms),.t (sQ false (Bs.map Fr4.of))]++((Fr4.of L).tr false).map .t++((Fr4.of Us).tr false).map .t++[.sl 1 0 bs.length,.fn 99 [] [.pt 2 0,.pt 3 0]]⟩,⟨48,4,(bs.flatMap qt).map .t⟩,⟨92,0,[.pt 4 0]⟩,⟨3,0,[tv (.int .i64 at9)]⟩,⟨95,0,[.t ta,.t tb,.t tc,.t td]⟩] (qF (.of (aO ((eC Bs e)-(eC bs (e))) [(L-Us)])))):=by
 refine mQ Tryz.func130 rfl Tryz.ntmps130 rfl aA rfl fun N9 M9 w9 c0 h0=>?_
 have hBl:(Bs.map Fr4.of).length=Bs.length:=List.length_map _
 have hs1:Sz 68719476736 ((eC Bs e)-(eC bs (e))):=(pW hB3 hY3).mono (by omega)
 have hs2:Sz 68719476736 (L-Us):=(pW hL3 hU3).mono (by omega)
 have hB:Sz 68719476736 (eC Bs e):=hB3.mono (by omega)
 have hY:Sz 68719476736 (eC bs (e)):=hY3.mono (by omega)
 have hL:Sz 68719476736 L:=hL3.mono (by omega)
 have hU:Sz 68719476736 Us:=hU3.mono (by omega)
 refine sq ?_;refine rl ?_;refine al 5 ?_;refine nl ?_;refine sq ?_;refine rd [0,1,2,3,4,5] (fun i=>[30].contains i) mixed ?_
 refine dv 0 ?_;refine dv 1 ?_;refine dv 2 ?_;refine dv 3 ?_;refine aR 4 ?_;refine dv 5 ?_;refine dv 6 ?_
 refine gI 7 ((Fr4.of (eC Bs e)).tr false) ((by rw[←pT he];exact lX (Bs.map Fr4.of) (k:=e) (by rw[List.length_map];exact he))) ?_
 refine dv 8 ?_;refine dv 9 ?_;refine dv 10 ?_;refine dv 11 ?_;refine aR 12 ?_;refine dv 13 ?_;refine dv 14 ?_
 refine mV 15 (cG (f:=qt) (z:=4) (o:=0) (us:=qt (eC bs (e))) vF (vG (by omega)) (Nat.le_of_ble_eq_true rfl) rfl) ?_
 refine dv 17 ?_;refine dv 18 ?_;refine dv 19 ?_;refine dv 20 ?_;refine aR 21 ?_;refine dv 22 ?_;refine dv 23 ?_;refine dv 24 ?_;refine dv 25 ?_;refine aR 26 ?_
 refine bB 16 rfl (Ae (Qn.of (p:=(eC Bs e)) hB) (Qn.of (p:=(eC bs (e))) hY)) Hk ⟨aG rfl,aG rfl,rfl⟩ (qF (.of ((eC Bs e)-(eC bs (e))))) ?_
 refine bB 27 rfl (Ae (Qn.of (p:=L) hL) (Qn.of (p:=Us) hU)) Hk ⟨aG rfl,aG rfl,rfl⟩ (qF (.of (L-Us))) ?_
 refine kN (key:=6) 28 (by kernel_rfl) rfl rfl aA rfl ⟨rfl,rfl,rfl,rfl,rfl,rfl,trivial⟩ ?_
 refine yC (i:=33) (k:=6) (t:=48) (t':=52) (z:=4) (n:=1) (l:=([Fr4.of (L-Us)]).flatMap (Fr4.tr false)) rfl rfl rfl rfl (.one .sl) (by rfl) (by rfl) ?_
 refine bB 29 rfl (nY (a:=.of (L-Us)) (Qn.of (hs2)) hs1) qX ⟨aG rfl,a1 rfl,rfl⟩ (qF (.of (aO ((eC Bs e)-(eC bs (e))) [(L-Us)]))) ?_;refine dst 30 ?_;refine aS ?_
 refine rt ?_
 exact gR (lent':=[⟨165,0,[.t (gQ ms),.t (sQ false (Bs.map Fr4.of))]++((Fr4.of L).tr false).map .t++((Fr4.of Us).tr false).map .t++[.sl 1 0 bs.length,.fn 99 [] [.pt 2 0,.pt 3 0]]⟩,⟨48,4,(bs.flatMap qt).map .t⟩,⟨92,0,[.pt 4 0]⟩,⟨3,0,[tv (.int .i64 at9)]⟩,⟨95,0,[.t ta,.t tb,.t tc,.t td]⟩]) (.inl rfl) rfl (aZ (.agg (.cons (.id rfl) (.cons (.id rfl) (.cons (.id rfl) (.cons (.id rfl) .nil)))))) (by decide) (fun _ h=>by cases h) ⟨⟨rfl,rfl⟩,⟨rfl,rfl⟩,⟨rfl,rfl⟩,⟨rfl,rfl⟩,⟨rfl,rfl⟩,trivial⟩ ⟨rfl,rfl,rfl,rfl,rfl,trivial⟩ ⟨rfl,eO _,rfl,rfl,rfl,trivial⟩ (fun h=>by cases h) ⟨rfl,rfl⟩
def dL (ls:List (List (Int×Rat)×Int×Bool)):Tr:=.s true 96 1 ls.length (ls.map dQ)
theorem xC {ls:List (List (Int×Rat)×Int×Bool)}{e:Nat}(he:e<ls.length):((ls.map dQ).map AV.t)[e]? =some (.t (dQ (cX ls e))):=by
 rw[List.getElem?_map,List.getElem?_map,Ea he]
 rfl
theorem Ak {l:List AV}{e:Nat}{a:AV}(he:e<l.length):(l.set e a)[0+e*1]? =some a:=by rw[show 0+e*1=e by omega];exact List.getElem?_set_self he
theorem jY {ls:List (List (Int×Rat)×Int×Bool)}:((ls.map dQ).map AV.t).length=ls.length:=by simp
theorem Ht {ls:List (List (Int×Rat)×Int×Bool)}{e:Nat}{a:AV}{x:List (Int×Rat)×Int×Bool}:(((ls.map dQ).map AV.t).set e a).set e (.t (dQ x))=((ls.set e x).map dQ).map .t:=by rw[List.set_set,List.map_set,List.map_set]
theorem EP (us:List Ur) (u:Ur):(us.flatMap (hJ false)).map AV.t++(hJ false u).map .t=((us++[u]).flatMap (hJ false)).map .t:=by simp[List.flatMap_append]
theorem KH {vs:List (Int×Rat)}{last fr:Int}{put:Bool}{p:Rat}{n B:Nat}(hok:StOk vs n B) (hs:Sz 330 p) (hn:n≤50) (hB:B≤20000):aD false Tryz.prog 100 [⟨137,0,[.t (sR 102 vs),tv (.int .i64 last),tv (.bool put)]⟩] [.one (.pt 0 0),.one (tv (.int .i64 fr)),qF (.of p)] (Rt [⟨137,0,[.t (sR 102 ((bC fr vs p).1.filter (fun x=> !lZ x.1 x.2))),tv (.int .i64 last),tv (.bool put)]⟩] (.one (.t (sO 102 (bC fr vs p).2.1)))):=by
 have h1:=nZ.1 hs
 have h2:wt p=vJ p+1:=rfl
 have h3:=hok.len
 have h4:=hok.size
 exact PK (fr:=fr) (Qn.of (p:=p) (hs.mono (M:=68719476736) (by omega))) (by omega) (by omega) (hok.zU (by omega))
theorem EQ {vs:List Vn}{us:List Ur}{ls:List (List (Int×Rat)×Int×Bool)}{y e n B:Nat}{q m:Rat}{at9:Int}{ta:Tr}(he:e<ls.length) (hf:(cN (bZ ((y:Nat):Int) ((e:Nat):Int)) vs)<vs.length) (hm3:Sz 320 m) (hu3:Sz 300 (cO vs (cN (bZ ((y:Nat):Int) ((e:Nat):Int)) vs)).u) (hok:StOk (cX ls e).1 n B) (hn:n≤50) (hB:B≤20000) (hlv:vs.length≤1073741823) (hlu:us.length≤1073741823) (hll:ls.length≤1073741823):aD false Tryz.prog 99 [⟨92,0,[.pt 2 0]⟩,⟨3,0,[tv (.int .i64 at9)]⟩,⟨95,0,[.t ta,.t (cU true false vs),.t (cI true false us),.t (dL ls)]⟩] [.agg ((aL (⟨((y:Nat):Int),((e:Nat):Int),q⟩:Wv)).map .t),qF (.of m),.one (.pt 0 0),.one (.pt 1 0)] (Rt [⟨92,0,[.pt 2 0]⟩,⟨3,0,[tv (.int .i64 at9)]⟩,⟨95,0,[.t ta,.t (cU true false (vs.set (cN (bZ ((y:Nat):Int) ((e:Nat):Int)) vs) (⟨(cO vs (cN (bZ ((y:Nat):Int) ((e:Nat):Int)) vs)).y,(cO vs (cN (bZ ((y:Nat):Int) ((e:Nat):Int)) vs)).e,(cO vs (cN (bZ ((y:Nat):Int) ((e:Nat):Int)) vs)).l,(cO vs (cN (bZ ((y:Nat):Int) ((e:Nat):Int)) vs)).u+m,(cO vs (cN (bZ ((y:Nat):Int) ((e:Nat):Int)) vs)).x,(cO vs (cN (bZ ((y:Nat):Int) ((e:Nat):Int)) vs)).c⟩:Vn))),.t (cI true false (us++[(⟨((y:Nat):Int),((e:Nat):Int),at9,m⟩:Ur)])),.t (dL (ls.set e (((bC ((y:Nat):Int) (cX ls e).1 m).1.filter (fun x=> !lZ x.1 x.2)),(cX ls e).2.1,(cX ls e).2.2)))]⟩] (.tup [])):=by
 refine Pv Tryz.func99 rfl Tryz.ntmps99 rfl aA rfl fun N9 M9 w9 c0 h0=>?_
 have hm:Sz 68719476736 m:=hm3.mono (by omega)
 have hu:Sz 68719476736 (cO vs (cN (bZ ((y:Nat):Int) ((e:Nat):Int)) vs)).u:=hu3.mono (by omega)
 refine sq ?_;refine rl ?_;refine bx 3 ?_;refine bx 4 ?_;refine nl ?_;refine sq ?_
 refine WP.sub (nX (j:=2) (key:=5) (p:=3) (e:=96) (z:=1) (n:=ls.length) (trs:=ls.map dQ) rfl rfl rfl rfl rfl) ?_
 refine WP.sub (Hu (j:=5) (key:=6) (p:=e) (e:=137) (trs:=[sR 102 (cX ls e).1,.v (.int .i64 (cX ls e).2.1),.v (.bool (cX ls e).2.2)]) rfl rfl (xC he) rfl) ?_
 refine rd [0,1,2,3,4,5] (fun i=>[].contains i) mixed ?_
 refine aR 0 ?_;refine dv 1 ?_;refine dv 2 ?_;refine aR 3 ?_;refine dv 4 ?_;refine aR 5 ?_;refine WD.cast (t:=12) (u':=.int .i64 ((e:Nat):Int)) rfl (aC rfl) ?_;refine dv 6 ?_
 refine Ph 7 (l:=((ls.map dQ).map AV.t).set e (.pt 6 0)) (v:=.pt 6 0) (Ak (by rw[jY];exact he)) ?_
 refine dv 8 ?_;refine aR 9 ?_;refine aR 10 ?_
 refine Sx 11 7 [6] rfl (KH (fr:=((y:Nat):Int)) (p:=m) hok (hm3.mono (by omega)) hn hB) PQ ⟨oe rfl rfl,rfl⟩ ⟨rfl,rfl,rfl,rfl⟩ (ok:=[some ⟨137,0,[.t (sR 102 ((bC ((y:Nat):Int) (cX ls e).1 m).1.filter (fun x=> !lZ x.1 x.2))),tv (.int .i64 (cX ls e).2.1),tv (.bool (cX ls e).2.2)]⟩]) ⟨oe rfl rfl,rfl⟩ ⟨rfl,rfl,rfl,rfl,rfl,rfl,trivial⟩ ?_
 refine aS ?_;refine sq ?_
 refine WP.sub (Ci (j:=5) (k:=6) (p:=e) (e:=137) (trs:=[sR 102 ((bC ((y:Nat):Int) (cX ls e).1 m).1.filter (fun x=> !lZ x.1 x.2)),.v (.int .i64 (cX ls e).2.1),.v (.bool (cX ls e).2.2)]) (l':=((ls.set e (((bC ((y:Nat):Int) (cX ls e).1 m).1.filter (fun x=> !lZ x.1 x.2)),(cX ls e).2.1,(cX ls e).2.2)).map dQ).map .t) rfl rfl rfl (List.getElem?_set_self (by rw[jY];exact he)) (Ht (x:=(((bC ((y:Nat):Int) (cX ls e).1 m).1.filter (fun x=> !lZ x.1 x.2)),(cX ls e).2.1,(cX ls e).2.2)))) ?_
 refine WP.sub (iU (j:=2) (k:=5) (p:=3) (e:=96) (z:=1) (n:=ls.length) (trs:=(ls.set e (((bC ((y:Nat):Int) (cX ls e).1 m).1.filter (fun x=> !lZ x.1 x.2)),(cX ls e).2.1,(cX ls e).2.2)).map dQ) rfl rfl rfl rfl rfl (cD _ _ (by simp)) (by simp) rfl) ?_
 refine WP.sub (nX (j:=2) (key:=8) (p:=2) (e:=58) (z:=7) (n:=us.length) (trs:=us.flatMap (hJ false)) rfl rfl rfl rfl rfl) ?_
 refine WP.sub (cK h0 [0,1,2,3,4,8] [(2,.one (.pt 0 0)),(3,.one (.pt 1 0)),(4,.one (.pt 3 0)),(5,.one (.pt 4 0))] [⟨92,0,[.pt 2 0]⟩,⟨3,0,[tv (.int .i64 at9)]⟩,⟨95,0,[.t ta,.t (cU true false vs),.sl 5 0 us.length,.t (.s true 96 1 ls.length ((ls.set e (((bC ((y:Nat):Int) (cX ls e).1 m).1.filter (fun x=> !lZ x.1 x.2)),(cX ls e).2.1,(cX ls e).2.2)).map dQ))]⟩,⟨64,0,(aL (⟨((y:Nat):Int),((e:Nat):Int),q⟩:Wv)).map .t⟩,⟨48,0,((Fr4.of m).tr false).map .t⟩,⟨58,7,(us.flatMap (hJ false)).map .t⟩] (by decide) rfl ⟨rfl,rfl,rfl,rfl,trivial⟩ ⟨oe rfl rfl,oe rfl rfl,oe rfl rfl,aI rfl,aI rfl,aI rfl,rfl⟩) ?_
 refine rd [0,1,2,3,4] (fun i=>[18].contains i) mixed ?_
 refine aR 0 ?_;refine aR 1 ?_;refine dv 2 ?_;refine dv 3 ?_;refine dv 4 ?_;refine aR 5 ?_;refine dv 6 ?_;refine aR 7 ?_;refine dv 8 ?_;refine aR 9 ?_;refine aR 10 ?_;refine aR 11 ?_
 refine dv 12 ?_;refine kN (key:=6) 13 (by kernel_rfl) rfl rfl aA rfl ⟨rfl,rfl,rfl,rfl,rfl,trivial⟩ ?_
 refine oB (j:=7) (n:=us.length) (l:=(us.flatMap (hJ false)).map .t) 14 rfl aA rfl rfl rfl (.sl rfl (by rw[List.length_map,cL (fH false)])) (.sl rfl rfl rfl) rfl rfl (by omega) (by omega) rfl ⟨rfl,rfl,rfl,rfl,rfl,trivial⟩ rfl (by kernel_rfl) rfl ?_
 refine eR 15 (by kernel_rfl) rfl rfl aA rfl (by trivial) ?_ (fun h=>by first | rfl | cases h)
 refine eR 16 (by kernel_rfl) rfl rfl aA rfl (by trivial) ?_ (fun h=>by first | rfl | cases h)
 refine df 17 ?_;refine dst 18 ?_;refine aS ?_;refine sq ?_
 refine WP.sub (iU (j:=2) (k:=7) (p:=2) (e:=58) (z:=7) (n:=us.length+1) (trs:=(us++[(⟨((y:Nat):Int),((e:Nat):Int),at9,m⟩:Ur)]).flatMap (hJ false)) rfl rfl rfl (congrArg (fun l:List AV=>some (⟨58,7,l⟩:Ob)) (EP us (⟨((y:Nat):Int),((e:Nat):Int),at9,m⟩:Ur))) rfl (cD _ _ (by rw[cL (fH false),List.length_append];rfl)) (by rw[cL (fH false),List.length_append];rfl) rfl) ?_
 refine WP.sub (nX (j:=2) (key:=8) (p:=1) (e:=64) (z:=18) (n:=vs.length) (trs:=vs.flatMap (eE false)) rfl rfl rfl rfl rfl) ?_
 refine WP.sub (cK h0 [0,1,2,3,4,8] [(2,.one (.pt 0 0)),(3,.one (.pt 1 0)),(4,.one (.pt 3 0)),(5,.one (.pt 4 0))] [⟨92,0,[.pt 2 0]⟩,⟨3,0,[tv (.int .i64 at9)]⟩,⟨95,0,[.t ta,.sl 5 0 vs.length,.t (.s true 58 7 (us.length+1) ((us++[(⟨((y:Nat):Int),((e:Nat):Int),at9,m⟩:Ur)]).flatMap (hJ false))),.t (.s true 96 1 ls.length ((ls.set e (((bC ((y:Nat):Int) (cX ls e).1 m).1.filter (fun x=> !lZ x.1 x.2)),(cX ls e).2.1,(cX ls e).2.2)).map dQ))]⟩,⟨64,0,(aL (⟨((y:Nat):Int),((e:Nat):Int),q⟩:Wv)).map .t⟩,⟨48,0,((Fr4.of m).tr false).map .t⟩,⟨64,18,(vs.flatMap (eE false)).map .t⟩] (by decide) rfl ⟨rfl,rfl,rfl,rfl,trivial⟩ ⟨oe rfl rfl,oe rfl rfl,oe rfl rfl,aI rfl,aI rfl,aI rfl,rfl⟩) ?_
 refine rl ?_;refine ld ?_;refine o1 ?_;refine ld ?_;refine o1 ?_;refine ld ?_
 refine UX [2,5] (Ta (vs:=vs) (y:=((y:Nat):Int)) (e:=((e:Nat):Int)) hf hlv) Xv ⟨oe rfl rfl,aI rfl,rfl⟩ ⟨rfl,rfl,rfl,rfl⟩ (ok:=[some ⟨95,0,[.t ta,.sl 5 0 vs.length,.t (.s true 58 7 (us.length+1) ((us++[(⟨((y:Nat):Int),((e:Nat):Int),at9,m⟩:Ur)]).flatMap (hJ false))),.t (.s true 96 1 ls.length ((ls.set e (((bC ((y:Nat):Int) (cX ls e).1 m).1.filter (fun x=> !lZ x.1 x.2)),(cX ls e).2.1,(cX ls e).2.2)).map dQ))]⟩,some ⟨64,18,(vs.flatMap (eE false)).map .t⟩]) ⟨oe rfl rfl,aI rfl,rfl⟩ ?_
 refine o1 ?_;refine nl ?_;refine rd [0,1,2,3,4,5] (fun i=>[9].contains i) mixed ?_
 refine dv 0 ?_;refine dv 1 ?_;refine dv 2 ?_;refine dv 3 ?_
 refine mV 4 (cG (f:=(eE false)) (z:=18) (o:=6) (us:=(Fr4.of (cO vs (cN (bZ ((y:Nat):Int) ((e:Nat):Int)) vs)).u).tr false) (eH false) (nT hf) (Nat.le_of_ble_eq_true rfl) rfl) ?_
 refine aR 5 ?_
 refine bB 6 rfl (Al (Qn.of (p:=(cO vs (cN (bZ ((y:Nat):Int) ((e:Nat):Int)) vs)).u) hu) (Qn.of (p:=m) hm)) Hd ⟨aG rfl,aG rfl,rfl⟩ (qF (.of ((cO vs (cN (bZ ((y:Nat):Int) ((e:Nat):Int)) vs)).u+m))) ?_
 refine eR 7 (by kernel_rfl) rfl rfl aA rfl (by trivial) ?_ (fun h=>by first | rfl | cases h)
 refine df 8 ?_
 refine lV 9 (dK (xs:=vs) (k:=(cN (bZ ((y:Nat):Int) ((e:Nat):Int)) vs)) (x:=(cO vs (cN (bZ ((y:Nat):Int) ((e:Nat):Int)) vs))) (f:=(eE false)) (z:=18) (o:=6) (x':=(⟨(cO vs (cN (bZ ((y:Nat):Int) ((e:Nat):Int)) vs)).y,(cO vs (cN (bZ ((y:Nat):Int) ((e:Nat):Int)) vs)).e,(cO vs (cN (bZ ((y:Nat):Int) ((e:Nat):Int)) vs)).l,((cO vs (cN (bZ ((y:Nat):Int) ((e:Nat):Int)) vs)).u+m),(cO vs (cN (bZ ((y:Nat):Int) ((e:Nat):Int)) vs)).x,(cO vs (cN (bZ ((y:Nat):Int) ((e:Nat):Int)) vs)).c⟩:Vn)) (us:=(Fr4.of ((cO vs (cN (bZ ((y:Nat):Int) ((e:Nat):Int)) vs)).u+m)).tr false) (eH false) (nT hf) (Nat.le_of_ble_eq_true rfl) rfl) (eL (xs:=vs) (k:=(cN (bZ ((y:Nat):Int) ((e:Nat):Int)) vs)) (f:=(eE false)) (z:=18) (o:=6) (us:=(Fr4.of ((cO vs (cN (bZ ((y:Nat):Int) ((e:Nat):Int)) vs)).u+m)).tr false) (eH false) (by omega) (Nat.le_of_ble_eq_true rfl)) ?_
 refine aS ?_
 refine CB (iU (j:=2) (k:=5) (p:=1) (e:=64) (z:=18) (n:=vs.length) (trs:=(vs.set (cN (bZ ((y:Nat):Int) ((e:Nat):Int)) vs) (⟨(cO vs (cN (bZ ((y:Nat):Int) ((e:Nat):Int)) vs)).y,(cO vs (cN (bZ ((y:Nat):Int) ((e:Nat):Int)) vs)).e,(cO vs (cN (bZ ((y:Nat):Int) ((e:Nat):Int)) vs)).l,(cO vs (cN (bZ ((y:Nat):Int) ((e:Nat):Int)) vs)).u+m,(cO vs (cN (bZ ((y:Nat):Int) ((e:Nat):Int)) vs)).x,(cO vs (cN (bZ ((y:Nat):Int) ((e:Nat):Int)) vs)).c⟩:Vn)).flatMap (eE false)) rfl rfl rfl rfl rfl (cD _ _ (by rw[cL (eH false),List.length_set])) (by rw[cL (eH false),List.length_set]) rfl) ?_
 exact Cj <| gR (lent':=[⟨92,0,[.pt 2 0]⟩,⟨3,0,[tv (.int .i64 at9)]⟩,⟨95,0,[.t ta,.t (cU true false (vs.set (cN (bZ ((y:Nat):Int) ((e:Nat):Int)) vs) (⟨(cO vs (cN (bZ ((y:Nat):Int) ((e:Nat):Int)) vs)).y,(cO vs (cN (bZ ((y:Nat):Int) ((e:Nat):Int)) vs)).e,(cO vs (cN (bZ ((y:Nat):Int) ((e:Nat):Int)) vs)).l,(cO vs (cN (bZ ((y:Nat):Int) ((e:Nat):Int)) vs)).u+m,(cO vs (cN (bZ ((y:Nat):Int) ((e:Nat):Int)) vs)).x,(cO vs (cN (bZ ((y:Nat):Int) ((e:Nat):Int)) vs)).c⟩:Vn))),.t (cI true false (us++[(⟨((y:Nat):Int),((e:Nat):Int),at9,m⟩:Ur)])),.t (dL (ls.set e (((bC ((y:Nat):Int) (cX ls e).1 m).1.filter (fun x=> !lZ x.1 x.2)),(cX ls e).2.1,(cX ls e).2.2)))]⟩]) (.inr rfl) rfl pU (by decide) (fun _ h=>by cases h) ⟨⟨rfl,rfl⟩,⟨rfl,rfl⟩,⟨rfl,rfl⟩,trivial⟩ ⟨rfl,rfl,(by rw[cU,cI,dL,List.length_set,List.length_set,List.length_append];rfl),trivial⟩ ⟨rfl,rfl,rfl,trivial⟩ (fun h=>by cases h) ⟨rfl,rfl⟩
def Rg.ms (R:Rg) (t:Nat):List Bool:=(List.range R.E).map (R.mem t)
def Rg.bs (R:Rg) (t:Nat):List Rat:=(List.range R.E).map (R.base t)
def Rg.by9 (R:Rg) (U:List Ur) (t:Nat):List Rat:=(List.range R.E).map fun(e:Nat)=>dS U t e
def Rg.lp (R:Rg) (e:Nat):Nat→Int×Bool
 | 0=>(0,false)
 | t+1=>bif R.isV t e then((t:Int),true)else R.lp e t
def Rg.own (R:Rg) (U:List Ur) (I:List Nat) (t:Nat):List (List (Int×Rat)×Int×Bool):=(List.range R.E).map fun e=>(R.wl U e I,(R.lp e t).1,(R.lp e t).2)
section
variable {R:Rg}{U:List Ur}{x c:Nat→Nat→Rat}{N y e e' t k:Nat}{m:Rat}{I:List Nat}
open Rg
theorem xD {α:Type}{f g:Nat→α}{E:Nat}(he:e<E) (h:∀z,z<E→z≠e→f z=g z):((List.range E).map f).set e (g e)=(List.range E).map g:=
 Gx List.nodup_range (by rw[List.getElem?_range he]) fun z hz hne=>h z (List.mem_range.1 hz) hne
theorem pD {α:Type}{f:Nat→α}{E:Nat}{d:α}(he:e<E):((List.range E).map f).getD e d=f e:=by simp[he]
theorem mZ (he:e<R.E):eC (R.by9 U t) e=dS U t e:=pD he
theorem pY (he:e<R.E):eC (R.bs t) e=R.base t e:=pD he
theorem Ck (he:e<R.E):cX (R.own U I t) e=(R.wl U e I,(R.lp e t).1,(R.lp e t).2):=pD he
theorem vP (he:e<R.E):pR (R.ms t) e=R.mem t e:=pD he
theorem xE:(R.by9 U t).length=R.E:=by simp[Rg.by9]
theorem oC:(R.bs t).length=R.E:=by simp[Rg.bs]
theorem jP:(R.own U I t).length=R.E:=by simp[Rg.own]
theorem vQ:(R.ms t).length=R.E:=by simp[Rg.ms]
theorem Tc (h:0<m){v:Int}:dR (us U v e t m) t=dR U t+m:=by rw[jV h,Ce,if_pos rfl]
theorem Td (h:0<m){v:Int}:dS (us U v e t m) t e=dS U t e+m:=by rw[jV h,pB,if_pos ⟨rfl,rfl⟩]
theorem Ee (h:e'≠e){v:Int}:dS (us U v e t m) t e'=dS U t e':=by
 unfold Rg.us
 split
 ·rw[pB,if_neg (by omega)]
 rfl
theorem KI (he:e<R.E) (hm:0<m){v:Int}:(R.by9 U t).set e (dS U t e+m)=R.by9 (us U v e t m) t:=by
 rw[←Td hm (v:=v)]
 exact xD (f:=fun(e:Nat)=>dS U t e) (g:=fun(e':Nat)=>dS (us U v e t m) t e') he fun z _ hne=>(Ee hne).symm
theorem KJ (he:e<R.E) (hI:I.Pairwise (· < ·)) (h0:∀i∈I,0≤R.left U i e) (hy:y∈I) (hm:0<m) (hle:m≤R.left U y e):(R.own U I t).set e ((bC (y:Int) (R.wl U e I) m).1.filter (fun x=> !lZ x.1 x.2),(R.lp e t).1,(R.lp e t).2)=R.own (us U y e t m) I t:=by
 rw[Mh (t:=t) hm hle h0 hI hy]
 exact xD (f:=fun e=>(R.wl U e I,(R.lp e t).1,(R.lp e t).2)) (g:=fun e'=>(R.wl (us U y e t m) e' I,(R.lp e' t).1,(R.lp e' t).2)) he fun z _ hne=>by
  have:R.wl U z I=R.wl (us U y e t m) z I:=yR fun j _=>(mA (fun h9=>hne h9.2.symm)).symm
  rw[this]
theorem PR {I:List Nat}(h:∀i∈I,Sz 300 (R.left U i e)):StOk (R.wl U e I) I.length (301*I.length):=by
 induction I with
 | nil=>exact⟨fun x hx=>(by cases hx),Nat.le_refl _,Nat.le_refl _⟩
 | cons i I ih=>
  obtain⟨h1,h2,h3⟩:=ih fun j hj=>h j (List.mem_cons_of_mem _ hj)
  by_cases hp:0<R.left U i e
  ·rw[iV hp]
   have h4:=nZ.1 (h i (List.mem_cons_self ..))
   refine⟨fun x hx=>?_,by simp only[List.length_cons];omega,?_⟩
   ·rcases List.mem_cons.1 hx with rfl | hx
    ·exact hp
    exact h1 x hx
   simp only[List.map_cons,gK,List.sum_cons,List.length_cons,wt]at h3⊢
   omega
  rw[kV hp]
  exact⟨h1,by simp only[List.length_cons];omega,by simp only[List.length_cons];omega⟩
theorem Xw (h:(y,e)∈R.vl k) (hm:0<m){v:Vn}(hv:cO (R.vns U x c (R.vl k)) (cN (bZ (y:Int) (e:Int)) (R.vns U x c (R.vl k)))=v):(R.vns U x c (R.vl k)).set (cN (bZ (y:Int) (e:Int)) (R.vns U x c (R.vl k))) ⟨v.y,v.e,v.l,v.u+m,v.x,v.c⟩=R.vns (us U y e t m) x c (R.vl k):=by
 have h1:=wU (R:=R) (U:=U) (x:=x) (c:=c) h
 have h2:v=R.vn U x c (y,e):=by
  rw[←hv,cO,List.getD_eq_getElem?_getD,h1]
  rfl
 rw[h2]
 exact EE (p:=(y,e)) (nA k) h hm
theorem KK (h:(y,e)∈R.vl k):cO (R.vns U x c (R.vl k)) (cN (bZ (y:Int) (e:Int)) (R.vns U x c (R.vl k)))=R.vn U x c (y,e):=by
 have h1:=wU (R:=R) (U:=U) (x:=x) (c:=c) h
 rw[cO,List.getD_eq_getElem?_getD,h1]
 rfl
theorem Mi {v e:Int}:(us U v e t m).length≤U.length+1:=by
 unfold Rg.us
 split <;> simp
end
theorem PS {R:Rg}{U:List Ur}{x c:Nat→Nat→Rat}{N y e t:Nat}{ta:Tr}(hOk:R.Ok N) (hI:R.Iv N U) (ht:t<N) (hp:(y,e)∈R.vl t) (hw:t≤y+R.f) (hlU:U.length≤1000000) (hlV:(R.vl t).length≤1000000):aD false Tryz.prog 102 [⟨165,0,[.t (gQ (R.ms t)),.t (sQ false ((R.bs t).map Fr4.of))]++((Fr4.of (R.lim t)).tr false).map .t++((Fr4.of (dR U t)).tr false).map .t++[.sl 1 0 (R.by9 U t).length,.fn 99 [] [.pt 2 0,.pt 3 0]]⟩,⟨48,4,((R.by9 U t).flatMap qt).map .t⟩,⟨92,0,[.pt 4 0]⟩,⟨3,0,[tv (.int .i64 ((t:Nat):Int))]⟩,⟨95,0,[.t ta,.t (cU true false (R.vns U x c (R.vl t))),.t (cI true false U),.t (dL (R.own U (R.I t) t))]⟩] [.one (.pt 0 0),.agg ((aL (R.wv U (y,e))).map .t)] (Rt [⟨165,0,[.t (gQ (R.ms t)),.t (sQ false ((R.bs t).map Fr4.of))]++((Fr4.of (R.lim t)).tr false).map .t++((Fr4.of (dR (Rg.us U y e t (aO (R.left U y e) [(R.room U e t)])) t)).tr false).map .t++[.sl 1 0 (R.by9 (Rg.us U y e t (aO (R.left U y e) [(R.room U e t)])) t).length,.fn 99 [] [.pt 2 0,.pt 3 0]]⟩,⟨48,4,((R.by9 (Rg.us U y e t (aO (R.left U y e) [(R.room U e t)])) t).flatMap qt).map .t⟩,⟨92,0,[.pt 4 0]⟩,⟨3,0,[tv (.int .i64 ((t:Nat):Int))]⟩,⟨95,0,[.t ta,.t (cU true false (R.vns (Rg.us U y e t (aO (R.left U y e) [(R.room U e t)])) x c (R.vl t))),.t (cI true false (Rg.us U y e t (aO (R.left U y e) [(R.room U e t)]))),.t (dL (R.own (Rg.us U y e t (aO (R.left U y e) [(R.room U e t)])) (R.I t) t))]⟩] (.tup [])):=by
 refine mQ Tryz.func102 rfl Tryz.ntmps102 rfl aA rfl fun N9 M9 w9 c0 h0=>?_
 have hv:=fM.1 hp
 have hve:e<R.E:=hv.2.1
 have hvy:y<N:=by have:=hv.1;dsimp only at this;omega
 have hbl:(R.bs t).length=R.E:=oC
 have hyl:(R.by9 U t).length=R.E:=xE
 have hE:=hOk.e
 have hsl3:=hI.sz_left hOk hvy hve
 have hsl:Sz 68719476736 (R.left U y e):=hsl3.mono (by omega)
 have hbb3:Sz 300 (dS U t e):=hI.sz_eIn hOk ht hve
 have hyy3:Sz 300 (dR U t):=hI.sz_yIn hOk ht
 have hsm3:Sz 310 (R.room U e t):=xA ((pW (hOk.base t e ht hve) hbb3).mono (by omega)) (fun q hq=>by rw[List.mem_singleton]at hq;rw[hq];exact(pW (hOk.lim t ht) hyy3).mono (by omega))
 have hsm:Sz 68719476736 (R.room U e t):=hsm3.mono (by omega)
 have hsn3:Sz 310 (aO (R.left U y e) [(R.room U e t)]):=xA (hsl3.mono (by omega)) (fun q hq=>by rw[List.mem_singleton]at hq;rw[hq];exact hsm3)
 have hsn:Sz 68719476736 (aO (R.left U y e) [(R.room U e t)]):=hsn3.mono (by omega)
 have hsy:Sz 68719476736 (dR U t):=hyy3.mono (by omega)
 have hsb:Sz 68719476736 (eC (R.by9 U t) (e)):=by rw[mZ hve];exact hbb3.mono (by omega)
 refine sq ?_;refine rl ?_;refine bx 5 ?_;refine nl ?_
 refine md (γ:=Unit) (fun _=>cA [(0,.one (.pt 0 0)),(3,.one (.pt 5 0)),(4,.one (.pt 6 0))]) (fun _=>([⟨165,0,[.t (gQ (R.ms t)),.t (sQ false ((R.bs t).map Fr4.of)),tv (.bool (aE (R.lim t).num)),.t (sU false (dg 4294967296 (R.lim t).num.natAbs)),tv (.bool false),.t (sU false (dg 4294967296 (R.lim t).den)),tv (.bool (aE (dR U t).num)),.t (sU false (dg 4294967296 (dR U t).num.natAbs)),tv (.bool false),.t (sU false (dg 4294967296 (dR U t).den)),.sl 1 0 ((R.by9 U t).length),.fn 99 [] [.pt 2 0,.pt 3 0]]⟩,⟨48,4,((R.by9 U t).flatMap qt).map .t⟩,⟨92,0,[.pt 4 0]⟩,⟨3,0,[tv (.int .i64 ((t:Nat):Int))]⟩,⟨95,0,[.t (ta),.t ((cU true false (R.vns U x c (R.vl t)))),.t ((cI true false U)),.t ((dL (R.own U (R.I t) t)))]⟩,⟨64,0,(aL (R.wv U (y,e))).map .t⟩,⟨48,0,((Fr4.of (aO (R.left U y e) [(R.room U e t)])).tr false).map .t⟩]:List Ob).map some) (fun _=>True) ?_ fun _ _=>?_
 ·refine rd [5] (fun i=>[9].contains i) mixed ?_
  refine dv 0 ?_;refine aR 1 ?_;refine dv 2 ?_;refine dv 3 ?_;refine aR 4 ?_;refine WD.cast (t:=9) (u':=.int .i64 ((e:Nat):Int)) rfl (aC rfl) ?_
  refine WO.two (i:=5) (j:=8) (by kernel_rfl) ?_ ?_
  ·have hmost:=Tb (ms:=R.ms t) (Bs:=R.bs t) (bs:=R.by9 U t) (L:=R.lim t) (Us:=dR U t) (e:=e) (at9:=((t:Nat):Int)) (ta:=ta) (tb:=(cU true false (R.vns U x c (R.vl t)))) (tc:=(cI true false U)) (td:=(dL (R.own U (R.I t) t))) (by omega) (by omega) (by rw[pY hve];exact(hOk.base t e ht hve).mono (by omega)) (by rw[mZ hve];exact hbb3.mono (by omega)) ((hOk.lim t ht).mono (by omega)) (hyy3.mono (by omega)) (by omega) (by omega)
   rw[pY hve,mZ hve]at hmost
   refine JZ 5 6 [0,1,2,3,4] rfl hmost CC ⟨oe rfl rfl,aI rfl,oe rfl rfl,oe rfl rfl,oe rfl rfl,rfl⟩ ⟨rfl,rfl,rfl⟩ (ok:=[some ⟨165,0,[.t (gQ (R.ms t)),.t (sQ false ((R.bs t).map Fr4.of))]++((Fr4.of (R.lim t)).tr false).map .t++((Fr4.of (dR U t)).tr false).map .t++[.sl 1 0 (R.by9 U t).length,.fn 99 [] [.pt 2 0,.pt 3 0]]⟩,some ⟨48,4,((R.by9 U t).flatMap qt).map .t⟩,some ⟨92,0,[.pt 4 0]⟩,some ⟨3,0,[tv (.int .i64 ((t:Nat):Int))]⟩,some ⟨95,0,[.t ta,.t (cU true false (R.vns U x c (R.vl t))),.t (cI true false U),.t (dL (R.own U (R.I t) t))]⟩]) ⟨oe rfl rfl,aI rfl,oe rfl rfl,oe rfl rfl,oe rfl rfl,rfl⟩ ⟨rfl,trivial⟩ ?_
   refine WO.two (i:=6) (j:=8) (by kernel_rfl) ?_ ?_
   ·refine Xp (key:=6) 6 rfl rfl ⟨rfl,trivial⟩ ?_
    refine yC (i:=11) (k:=6) (t:=48) (t':=52) (z:=4) (n:=1) (l:=([Fr4.of (R.room U e t)]).flatMap (Fr4.tr false)) rfl rfl rfl rfl (.one .sl) (by rfl) (by rfl) ?_
    refine WO.two (i:=7) (j:=8) (by kernel_rfl) ?_ ?_
    ·refine fA 7 rfl (nY (a:=.of (R.room U e t)) (Qn.of hsm) hsl) qX ⟨aG rfl,a1 rfl,rfl⟩ (qF (.of (aO (R.left U y e) [(R.room U e t)]))) ?_
     refine gN (key:=7) 8 (by kernel_rfl) rfl rfl aA rfl ⟨rfl,trivial⟩ ?_
     refine dst 9 ?_;refine aS ?_
     exact⟨(),trivial,cK h0 [0,1,2,3,4,5,7] _ _ (by decide) rfl ⟨rfl,rfl,rfl,trivial⟩ ⟨oe rfl rfl,aI rfl,oe rfl rfl,oe rfl rfl,oe rfl rfl,aI rfl,oe rfl rfl,rfl⟩⟩
    refine cP (key:=7) 8 rfl rfl aA rfl ⟨rfl,trivial⟩ ?_
    refine bB 7 rfl (nY (a:=.of (R.room U e t)) (Qn.of hsm) hsl) qX ⟨aG rfl,a1 rfl,rfl⟩ (qF (.of (aO (R.left U y e) [(R.room U e t)]))) ?_;refine dst 9 ?_;refine aS ?_
    exact⟨(),trivial,cK h0 [0,1,2,3,4,5,7] _ _ (by decide) rfl ⟨rfl,rfl,rfl,trivial⟩ ⟨oe rfl rfl,aI rfl,oe rfl rfl,oe rfl rfl,oe rfl rfl,aI rfl,oe rfl rfl,rfl⟩⟩
   refine cP (key:=6) 8 rfl rfl aA rfl ⟨rfl,trivial⟩ ?_;refine kN (key:=7) 6 (by kernel_rfl) rfl rfl aA rfl ⟨rfl,trivial⟩ ?_
   refine yC (i:=11) (k:=7) (t:=48) (t':=52) (z:=4) (n:=1) (l:=([Fr4.of (R.room U e t)]).flatMap (Fr4.tr false)) rfl rfl rfl rfl (.one .sl) (by rfl) (by rfl) ?_
   refine bB 7 rfl (nY (a:=.of (R.room U e t)) (Qn.of hsm) hsl) qX ⟨aG rfl,a1 rfl,rfl⟩ (qF (.of (aO (R.left U y e) [(R.room U e t)]))) ?_;refine dst 9 ?_;refine aS ?_
   exact⟨(),trivial,cK h0 [0,1,2,3,4,5,6] _ _ (by decide) rfl ⟨rfl,rfl,rfl,trivial⟩ ⟨oe rfl rfl,aI rfl,oe rfl rfl,oe rfl rfl,oe rfl rfl,aI rfl,oe rfl rfl,rfl⟩⟩
  refine cP (key:=6) 8 rfl rfl aA rfl ⟨rfl,trivial⟩ ?_
  have hmost:=Tb (ms:=R.ms t) (Bs:=R.bs t) (bs:=R.by9 U t) (L:=R.lim t) (Us:=dR U t) (e:=e) (at9:=((t:Nat):Int)) (ta:=ta) (tb:=(cU true false (R.vns U x c (R.vl t)))) (tc:=(cI true false U)) (td:=(dL (R.own U (R.I t) t))) (by omega) (by omega) (by rw[pY hve];exact(hOk.base t e ht hve).mono (by omega)) (by rw[mZ hve];exact hbb3.mono (by omega)) ((hOk.lim t ht).mono (by omega)) (hyy3.mono (by omega)) (by omega) (by omega)
  rw[pY hve,mZ hve]at hmost
  refine Sx 5 7 [0,1,2,3,4] rfl hmost CC ⟨oe rfl rfl,aI rfl,oe rfl rfl,oe rfl rfl,oe rfl rfl,rfl⟩ ⟨rfl,rfl,rfl⟩ (ok:=[some ⟨165,0,[.t (gQ (R.ms t)),.t (sQ false ((R.bs t).map Fr4.of))]++((Fr4.of (R.lim t)).tr false).map .t++((Fr4.of (dR U t)).tr false).map .t++[.sl 1 0 (R.by9 U t).length,.fn 99 [] [.pt 2 0,.pt 3 0]]⟩,some ⟨48,4,((R.by9 U t).flatMap qt).map .t⟩,some ⟨92,0,[.pt 4 0]⟩,some ⟨3,0,[tv (.int .i64 ((t:Nat):Int))]⟩,some ⟨95,0,[.t ta,.t (cU true false (R.vns U x c (R.vl t))),.t (cI true false U),.t (dL (R.own U (R.I t) t))]⟩]) ⟨oe rfl rfl,aI rfl,oe rfl rfl,oe rfl rfl,oe rfl rfl,rfl⟩ ⟨rfl,trivial⟩ ?_
  refine kN (key:=7) 6 (by kernel_rfl) rfl rfl aA rfl ⟨rfl,trivial⟩ ?_
  refine yC (i:=11) (k:=7) (t:=48) (t':=52) (z:=4) (n:=1) (l:=([Fr4.of (R.room U e t)]).flatMap (Fr4.tr false)) rfl rfl rfl rfl (.one .sl) (by rfl) (by rfl) ?_
  refine bB 7 rfl (nY (a:=.of (R.room U e t)) (Qn.of hsm) hsl) qX ⟨aG rfl,a1 rfl,rfl⟩ (qF (.of (aO (R.left U y e) [(R.room U e t)]))) ?_;refine dst 9 ?_;refine aS ?_
  exact⟨(),trivial,cK h0 [0,1,2,3,4,5,6] _ _ (by decide) rfl ⟨rfl,rfl,rfl,trivial⟩ ⟨oe rfl rfl,aI rfl,oe rfl rfl,oe rfl rfl,oe rfl rfl,aI rfl,oe rfl rfl,rfl⟩⟩
 refine sq ?_;refine sq ?_;refine rl ?_;refine ld ?_
 refine ca (lW (Qn.of (p:=(aO (R.left U y e) [(R.room U e t)])) hsn)) tG ⟨aG rfl,rfl⟩ (.one (tv (.int .i64 (aO (R.left U y e) [(R.room U e t)]).num.sign))) ?_;refine o1 ?_;refine nl ?_
 refine bM rfl (fun h1=>?_) (fun h1=>?_)
 ·refine rt ?_;have hno:(Rg.us U y e t (aO (R.left U y e) [(R.room U e t)]))=U:=mB (fun h9=>by have:=(kJ _).2 h9;omega)
  exact gR (lent':=[⟨165,0,[.t (gQ (R.ms t)),.t (sQ false ((R.bs t).map Fr4.of))]++((Fr4.of (R.lim t)).tr false).map .t++((Fr4.of (dR (Rg.us U y e t (aO (R.left U y e) [(R.room U e t)])) t)).tr false).map .t++[.sl 1 0 (R.by9 (Rg.us U y e t (aO (R.left U y e) [(R.room U e t)])) t).length,.fn 99 [] [.pt 2 0,.pt 3 0]]⟩,⟨48,4,((R.by9 (Rg.us U y e t (aO (R.left U y e) [(R.room U e t)])) t).flatMap qt).map .t⟩,⟨92,0,[.pt 4 0]⟩,⟨3,0,[tv (.int .i64 ((t:Nat):Int))]⟩,⟨95,0,[.t ta,.t (cU true false (R.vns (Rg.us U y e t (aO (R.left U y e) [(R.room U e t)])) x c (R.vl t))),.t (cI true false (Rg.us U y e t (aO (R.left U y e) [(R.room U e t)]))),.t (dL (R.own (Rg.us U y e t (aO (R.left U y e) [(R.room U e t)])) (R.I t) t))]⟩]) (.inl rfl) rfl pU (by decide) (fun _ h=>by cases h) ⟨⟨rfl,rfl⟩,⟨rfl,rfl⟩,⟨rfl,rfl⟩,⟨rfl,rfl⟩,⟨rfl,rfl⟩,trivial⟩ ⟨(by rw[hno];rfl),(by rw[hno];rfl),rfl,rfl,(by rw[hno];rfl),trivial⟩ ⟨rfl,eO _,rfl,rfl,rfl,trivial⟩ (fun h=>by cases h) ⟨rfl,rfl⟩
 refine sk ?_;refine sq ?_;refine rd [0,2,3,4,5,6] (fun i=>[11].contains i) mixed ?_
 refine dv 0 ?_;refine dv 1 ?_;refine dv 2 ?_;refine dv 3 ?_;refine dv 4 ?_;refine aR 5 ?_;refine aR 6 ?_
 refine bB 7 rfl (Al (Qn.of (p:=(dR U t)) hsy) (Qn.of (p:=(aO (R.left U y e) [(R.room U e t)])) hsn)) Hd ⟨aG rfl,aG rfl,rfl⟩ (qF (.of ((dR U t)+(aO (R.left U y e) [(R.room U e t)])))) ?_
 refine eR 8 (by kernel_rfl) rfl rfl aA rfl (by trivial) ?_ (fun h=>by first | rfl | cases h)
 refine eR 9 (by kernel_rfl) rfl rfl aA rfl (by trivial) ?_ (fun h=>by first | rfl | cases h)
 refine df 10 ?_;refine dst 11 ?_;refine aS ?_;refine sq ?_;refine rd [0,1,2,3,4,5,6] (fun i=>[19].contains i) mixed ?_
 refine dv 0 ?_;refine dv 1 ?_;refine dv 2 ?_;refine dv 3 ?_;refine aR 4 ?_;refine dv 5 ?_;refine aR 6 ?_;refine WD.cast (t:=33) (u':=.int .i64 ((e:Nat):Int)) rfl (aC rfl) ?_
 refine dv 7 ?_;refine dv 8 ?_;refine dv 9 ?_;refine dv 10 ?_;refine aR 11 ?_;refine dv 12 ?_;refine aR 13 ?_;refine WD.cast (t:=40) (u':=.int .i64 ((e:Nat):Int)) rfl (aC rfl) ?_
 refine dv 14 ?_;refine mV 15 (cG (f:=qt) (z:=4) (o:=0) (us:=qt (eC (R.by9 U t) (e))) vF (vG (by omega)) (Nat.le_of_ble_eq_true rfl) rfl) ?_
 refine aR 16 ?_
 refine bB 17 rfl (Al (Qn.of (p:=(eC (R.by9 U t) (e))) hsb) (Qn.of (p:=(aO (R.left U y e) [(R.room U e t)])) hsn)) Hd ⟨aG rfl,aG rfl,rfl⟩ (qF (.of ((eC (R.by9 U t) (e))+(aO (R.left U y e) [(R.room U e t)])))) ?_
 refine dv 18 ?_
 refine lV 19 (dK (xs:=(R.by9 U t)) (k:=e) (x:=(eC (R.by9 U t) (e))) (f:=qt) (z:=4) (o:=0) (x':=(((eC (R.by9 U t) (e))+(aO (R.left U y e) [(R.room U e t)])):Rat)) (us:=qt ((eC (R.by9 U t) (e))+(aO (R.left U y e) [(R.room U e t)]))) vF (vG (by omega)) (Nat.le_of_ble_eq_true rfl) rfl) (eL (xs:=(R.by9 U t)) (k:=e) (f:=qt) (z:=4) (o:=0) (us:=qt ((eC (R.by9 U t) (e))+(aO (R.left U y e) [(R.room U e t)]))) vF (by omega) (Nat.le_of_ble_eq_true rfl)) ?_
 refine aS ?_;refine rd [0,5,6] (fun i=>[].contains i) mixed ?_
 refine dv 0 ?_;refine dv 1 ?_;refine dv 2 ?_;refine aR 3 ?_;refine aR 4 ?_;refine aR 5 ?_;have hpos:0<(aO (R.left U y e) [(R.room U e t)]):=by
  have h9:¬((aO (R.left U y e) [(R.room U e t)]).num.sign≤0):=h1
  exact(kJ _).1 (by omega)
 have hIt:y∈R.I t:=jM.2 ⟨hv.1,hw⟩
 have hle:(aO (R.left U y e) [(R.room U e t)])≤R.left U y e:=pZ _ _
 have h0I:∀i∈R.I t,0≤R.left U i e:=fun i hi=>(hI.v i e (by have:=(jM.1 hi).1;omega) hve).1.1
 have hst:=PR (R:=R) (U:=U) (e:=e) (I:=R.I t) fun i hi=>hI.sz_left hOk (by have:=(jM.1 hi).1;omega) hve
 have hIl:=rY (R:=R) (k:=t)
 have hnn:=hOk.n
 have hfx:=(vH (R:=R) (U:=U) (x:=x) (c:=c) hp).1
 have hgo:cX (R.own U (R.I t) t) e=_:=Ck hve
 have hgv:=KK (R:=R) (U:=U) (x:=x) (c:=c) hp
 have hnote:=EQ (vs:=(R.vns U x c (R.vl t))) (us:=U) (ls:=R.own U (R.I t) t) (y:=y) (e:=e) (n:=(R.I t).length) (B:=301*(R.I t).length) (q:=R.left U y e) (m:=(aO (R.left U y e) [(R.room U e t)])) (at9:=((t:Nat):Int)) (ta:=ta) (by rw[jP];exact hve) (by rw[eQ];exact hfx) (hsn3.mono (by omega)) (by rw[hgv];exact(hI.sz_vOf hOk hvy hve)) (by rw[hgo];exact hst) (by omega) (by omega) (by rw[eQ];omega) (by omega) (by rw[jP];omega)
 rw[Xw hp hpos rfl,←jV hpos,hgo,KJ hve Pw h0I hIt hpos hle]at hnote
 refine SD 6 7 6 7 [2,3,4] rfl hnote SH rfl rfl rfl ⟨oe rfl rfl,oe rfl rfl,oe rfl rfl,rfl⟩ ⟨rfl,rfl,rfl,rfl,rfl⟩ (ok:=[some ⟨92,0,[.pt 4 0]⟩,some ⟨3,0,[tv (.int .i64 ((t:Nat):Int))]⟩,some ⟨95,0,[.t ta,.t (cU true false (R.vns (Rg.us U y e t (aO (R.left U y e) [(R.room U e t)])) x c (R.vl t))),.t (cI true false (Rg.us U y e t (aO (R.left U y e) [(R.room U e t)]))),.t (dL (R.own (Rg.us U y e t (aO (R.left U y e) [(R.room U e t)])) (R.I t) t))]⟩]) ⟨oe rfl rfl,oe rfl rfl,oe rfl rfl,rfl⟩ ⟨rfl,rfl,rfl,trivial⟩ ?_
 refine aS ?_;have hY:dR U t+(aO (R.left U y e) [(R.room U e t)])=dR (Rg.us U y e t (aO (R.left U y e) [(R.room U e t)])) t:=(Tc hpos).symm
 have hB:(R.by9 U t).set e (eC (R.by9 U t) e+(aO (R.left U y e) [(R.room U e t)]))=R.by9 (Rg.us U y e t (aO (R.left U y e) [(R.room U e t)])) t:=by rw[mZ hve];exact KI hve hpos
 exact gR (lent':=[⟨165,0,[.t (gQ (R.ms t)),.t (sQ false ((R.bs t).map Fr4.of))]++((Fr4.of (R.lim t)).tr false).map .t++((Fr4.of (dR (Rg.us U y e t (aO (R.left U y e) [(R.room U e t)])) t)).tr false).map .t++[.sl 1 0 (R.by9 (Rg.us U y e t (aO (R.left U y e) [(R.room U e t)])) t).length,.fn 99 [] [.pt 2 0,.pt 3 0]]⟩,⟨48,4,((R.by9 (Rg.us U y e t (aO (R.left U y e) [(R.room U e t)])) t).flatMap qt).map .t⟩,⟨92,0,[.pt 4 0]⟩,⟨3,0,[tv (.int .i64 ((t:Nat):Int))]⟩,⟨95,0,[.t ta,.t (cU true false (R.vns (Rg.us U y e t (aO (R.left U y e) [(R.room U e t)])) x c (R.vl t))),.t (cI true false (Rg.us U y e t (aO (R.left U y e) [(R.room U e t)]))),.t (dL (R.own (Rg.us U y e t (aO (R.left U y e) [(R.room U e t)])) (R.I t) t))]⟩]) (.inr rfl) rfl pU (by decide) (fun _ h=>by cases h) ⟨⟨rfl,rfl⟩,⟨rfl,rfl⟩,⟨rfl,rfl⟩,⟨rfl,rfl⟩,⟨rfl,rfl⟩,trivial⟩ ⟨(by rw[←hY,←hB,List.length_set];rfl),(by rw[←hB];rfl),rfl,rfl,rfl,trivial⟩ ⟨rfl,eO _,rfl,rfl,rfl,trivial⟩ (fun h=>by cases h) ⟨rfl,rfl⟩
section
variable {x:Cx}{g:Nat→FV}{ob ob':List (Option Ob)}{Q:Post}{ops:Array Oper}{rest:List Oper}{d:Nat}{ty:TypeId}{pos:String}{af:Array Edge}{gd:Option (Nat×Bool)}{T:List (Nat×TI)}
theorem ER {k t z n:Nat}(t':Nat){l l':List Tr}(ho:bS ob k=some ⟨t,z,l.map .t⟩) (hz:l.length=n*z) (hl:rdTL l=l'):Fv x g ob k ⟨t,z,l.map .t⟩ (.sl k 0 n) (.s false t' z n l'):=fun cs ts W hR m2 m3 u e2=>by
 have h:=Aa t' ho hz cs ts W hR m2 m3 u e2
 simp only[AR]at h⊢
 have h9:=Hv _ _ h
 rw[rX,hl]at h9
 exact h9
theorem KL {i k t z n:Nat}(t':Nat){l l':List Tr}{fv fv':FV}(hi:Nat.blt i x.n=true) (hg:g i=fv) (ho:bS ob k=some ⟨t,z,l.map .t⟩) (hz:l.length=n*z) (hl:rdTL l=l') (hf:FzF (.sl k 0 n) (.s false t' z n l') fv fv'):Sub x g ob (aU g i fv') (ob.set k none):=wT hi hg ho hf (ER t' ho hz hl)
variable {late:Nat→Bool}{K fr:List Nat}{on:Bool}{fuel:Nat}{listed:Array Bool}
end
def z4:List Tr:=[.v (.bool false),.v (.slice none 0 0),.v (.bool false),.v (.slice none 0 0)]
structure WhOk (Z vs:List (Int×Rat)) (last:Int) (put:Bool):Prop where
 pos:SI Z=vs
 low:∀z∈Z,0≤z.2
 ok:StOk vs Z.length (100*Z.length)
 asc:VA vs
 yrs:∀x∈vs,-9223372036854775808≤x.1
 last:∀x∈vs,put=true∧x.1≤last
section
variable {Z vs us vs':List (Int×Rat)}{last y:Int}{put rt:Bool}{p:Rat}
end
theorem Mj {ls:List (List (Int×Rat)×Int×Bool)}{e:Nat}{a:AV}{x:List (Int×Rat)×Int×Bool}(he:e<ls.length) (hx:cX ls e=x):(((ls.map dQ).map AV.t).set e a).set e (.t (dQ x))=(ls.map dQ).map .t:=by
 subst hx
 rw[List.set_set]
 apply List.ext_getElem?
 intro i
 rw[List.getElem?_set]
 split
 ·rename_i h
  subst h
  rw[if_pos (by rw[jY];exact he)]
  exact(xC he).symm
 rfl
theorem Xx (xs:List Wv) (x:Wv):(xs.flatMap aL).map AV.t++(aL x).map .t=((xs++[x]).flatMap aL).map .t:=by simp[List.flatMap_append]
def Rg.wtk (R:Rg) (U:List Ur) (t e k:Nat):List Wv:=R.wt0 U t e++bif R.mem t e then((R.wl U e (R.I t)).take k).map (fun x=>(⟨x.1,e,x.2⟩:Wv))else []
section
variable {R:Rg}{U:List Ur}{t e k:Nat}
theorem Hw:R.wtk U t e 0=R.wt0 U t e:=by
 unfold Rg.wtk
 cases R.mem t e <;> simp
theorem ES (hm:R.mem t e=true) (hk:k<(R.wl U e (R.I t)).length):R.wtk U t e (k+1)=R.wtk U t e k++[⟨(aJ (R.wl U e (R.I t)) k).1,e,(aJ (R.wl U e (R.I t)) k).2⟩]:=by
 unfold Rg.wtk
 rw[hm,kU hk]
 simp
theorem KM (hm:R.mem t e=false):R.wtk U t e (k+1)=R.wtk U t e k:=by
 unfold Rg.wtk
 rw[hm]
 rfl
theorem ET (hk:(R.wl U e (R.I t)).length≤k):R.wtk U t e k=R.wt0 U t (e+1):=by
 unfold Rg.wtk Rg.wt0
 rw[List.range_succ,List.flatMap_append,List.take_of_length_le hk]
 simp
theorem Mk:(R.wt0 U t k).length≤k*t:=by
 unfold Rg.wt0
 induction k with
 | zero=>simp
 | succ k ih=>
  rw[List.range_succ,List.flatMap_append,List.length_append,Nat.succ_mul]
  have h1:=rZ (R:=R) (U:=U) (e:=k) (I:=R.I t)
  have h2:=rY (R:=R) (k:=t)
  have h3:(List.flatMap (fun e=>bif R.mem t e then(R.wl U e (R.I t)).map (fun x=>(⟨x.1,e,x.2⟩:Wv))else []) [k]).length≤t:=by
   rw[List.flatMap_cons,List.flatMap_nil,List.append_nil]
   cases R.mem t k
   ·simp
   show((R.wl U k (R.I t)).map _).length≤t
   rw[List.length_map]
   omega
  omega
end
theorem Te {R:Rg}{U:List Ur}{N t:Nat}{ta tb tc:Tr}(hOk:R.Ok N) (hI:R.Iv N U) (ht:t<N):aD false Tryz.prog 101 [⟨95,0,[.t ta,.t tb,.t tc,.t (dL (R.own U (R.I t) t))]⟩] [.one (.pt 0 0),.one (.t (gQ (R.ms t)))] (Rt [⟨95,0,[.t ta,.t tb,.t tc,.t (dL (R.own U (R.I t) t))]⟩] (.one (.t (.s true 64 18 ((R.wt U t).map (R.wv U)).length (((R.wt U t).map (R.wv U)).flatMap aL))))):=by
 refine Pv Tryz.func101 rfl Tryz.ntmps101 rfl aA rfl fun N9 M9 w9 c0 h0=>?_
 have hll:(R.own U (R.I t) t).length=R.E:=jP
 have hms:(R.ms t).length=R.E:=vQ
 have hE:=hOk.e;have hN:=hOk.n
 refine sq ?_;refine rl ?_;refine o1 ?_;refine nl ?_;refine sq ?_;refine rl ?_;refine o1 ?_;refine nl ?_;refine sq ?_;refine sq ?_
 refine WP.sub (nX (j:=0) (key:=1) (p:=3) (e:=96) (z:=1) (n:=(R.own U (R.I t) t).length) (trs:=(R.own U (R.I t) t).map dQ) rfl rfl rfl rfl rfl) ?_;refine rl ?_
 (iterate 3 refine o1 ?_);refine ld ?_;refine o1 ?_;refine o1 ?_;refine nl ?_;refine bl ?_
 refine lp (γ:=Nat) (fun s=>cA [(0,.one (.pt 0 0)),(1,.one (.t (gQ (R.ms t)))),(5,.one (.sl 2 0 ((R.wt0 U t s).length))),(13,.one (.sl 1 0 ((R.own U (R.I t) t).length))),(14,.one (tv (.int .i64 (((R.own U (R.I t) t).length:Nat):Int)))),(15,.one (tv (.int .i64 ((s:Nat):Int))))]) (fun s=>[(⟨95,0,[.t ta,.t tb,.t tc,.sl 1 0 (R.own U (R.I t) t).length]⟩:Ob),⟨96,1,((R.own U (R.I t) t).map dQ).map .t⟩,⟨64,18,((R.wt0 U t s).flatMap aL).map .t⟩].map some) (fun s=>s≤R.E) (fun s=>R.E-s) 0 (Nat.zero_le _) ((nr (i:=5) 2 64 18 rfl rfl rfl rfl).trans (cK h0 [0,1,2] _ _ (by decide) rfl ⟨rfl,rfl,rfl,rfl,rfl,rfl,trivial⟩ ⟨oe rfl rfl,aI rfl,aI rfl,rfl⟩)) ?_
 rintro e he;refine sq ?_;refine rl ?_;refine o1 ?_;refine nl ?_;refine sq ?_;refine bM rfl (fun h1=>?_) (fun h1=>?_)
 ·refine sk ?_;refine sq ?_;refine bl ?_;refine sq ?_;have hwl:=rZ (R:=R) (U:=U) (e:=e) (I:=R.I t)
  have hIl:=rY (R:=R) (k:=t)
  have hle9:cX (R.own U (R.I t) t) e=((R.wl U e (R.I t)),(R.lp e t).1,(R.lp e t).2):=Ck (by omega)
  have hzz:∀x∈(R.wl U e (R.I t)),Sz 68719476736 x.2:=fun x hx=>by obtain⟨i,hi,rfl,_⟩:=iG.1 hx;exact(hI.sz_left hOk (by have:=(jM.1 hi).1;omega) (by omega)).mono (by omega)
  refine WP.sub (Hu (j:=1) (key:=3) (p:=e) (e:=137) (trs:=[sR 102 (R.wl U e (R.I t)),.v (.int .i64 (R.lp e t).1),.v (.bool (R.lp e t).2)]) rfl rfl (by rw[xC (by omega),hle9];rfl) rfl) ?_
  refine rl ?_;refine o1 ?_;refine o1 ?_;refine Lu (l:=(((R.own U (R.I t) t).map dQ).map AV.t).set e (.pt 3 0)) (v:=.pt 3 0) (Ak (by rw[jY];omega)) ?_
  refine o1 ?_;refine o1 ?_;refine nl ?_;refine sq ?_;refine rl ?_;refine o1 ?_
  refine iY 4 (Ss (vs:=(R.wl U e (R.I t))) (rest:=[.v (.int .i64 (R.lp e t).1),.v (.bool (R.lp e t).2)]) hzz (by omega)) KN ⟨uQ rfl (.pe (trs:=[sR 102 (R.wl U e (R.I t)),.v (.int .i64 (R.lp e t).1),.v (.bool (R.lp e t).2)]) rfl rfl rfl (by simp only[rdTL,rX,sR,sV,xB])),rfl⟩ ?_
  refine o1 ?_;refine o1 ?_;refine nl ?_;refine bl ?_;refine WP.sub (KL (i:=21) (k:=4) (n:=(R.wl U e (R.I t)).length) 102 rfl rfl rfl (bJ true _) (xB true _) (.one .sl)) ?_
  refine WP.sub (Ci (j:=1) (k:=3) (p:=e) (e:=137) (trs:=[sR 102 (R.wl U e (R.I t)),.v (.int .i64 (R.lp e t).1),.v (.bool (R.lp e t).2)]) (l':=((R.own U (R.I t) t).map dQ).map .t) rfl rfl rfl (List.getElem?_set_self (by rw[jY];omega)) (Mj (x:=((R.wl U e (R.I t)),(R.lp e t).1,(R.lp e t).2)) (by omega) hle9)) ?_
  refine lp (γ:=Nat) (fun s=>cA [(0,.one (.pt 0 0)),(1,.one (.t (gQ (R.ms t)))),(5,.one (.sl 2 0 ((R.wtk U t e s).length))),(6,.one (tv (.int .i64 ((e:Nat):Int)))),(13,.one (.sl 1 0 ((R.own U (R.I t) t).length))),(14,.one (tv (.int .i64 (((R.own U (R.I t) t).length:Nat):Int)))),(15,.one (tv (.int .i64 ((e:Nat):Int)))),(21,.one (.t (sV 102 false (R.wl U e (R.I t))))),(22,.one (tv (.int .i64 (((R.wl U e (R.I t)).length:Nat):Int)))),(23,.one (tv (.int .i64 ((s:Nat):Int))))]) (fun s=>[(⟨95,0,[.t ta,.t tb,.t tc,.sl 1 0 (R.own U (R.I t) t).length]⟩:Ob),⟨96,1,((R.own U (R.I t) t).map dQ).map .t⟩,⟨64,18,((R.wtk U t e s).flatMap aL).map .t⟩].map some) (fun s=>s≤(R.wl U e (R.I t)).length) (fun s=>(R.wl U e (R.I t)).length-s) 0 (Nat.zero_le _) (cK h0 [0,1,2] _ _ (by decide) rfl ⟨rfl,rfl,(by rw[Hw];rfl),rfl,rfl,rfl,rfl,rfl,rfl,rfl,trivial⟩ ⟨oe rfl rfl,aI rfl,aI (congrArg (fun l:List Wv=>some (⟨64,18,(l.flatMap aL).map .t⟩:Ob)) Hw.symm),rfl⟩) ?_
  rintro k hk;refine sq ?_;refine rl ?_;refine o1 ?_;refine nl ?_;refine sq ?_;refine bM rfl (fun h2=>?_) (fun h2=>?_)
  ·refine sk ?_;refine sq ?_;refine bl ?_;refine sq ?_;refine rl ?_;refine o1 ?_;refine dU (cF false (aJ (R.wl U e (R.I t)) (k))) (rW false (by omega)) ?_
   refine al 3 ?_;refine st ?_;refine nl ?_;refine sq ?_;refine rl ?_;(iterate 3 refine o1 ?_);refine dU ([.v (.bool (pR (R.ms t) (e)))]) (Pr (R.ms t) (k:=e) (by omega)) ?_
   refine nl ?_;refine nV rfl (fun h3=>?_) (fun h3=>?_)
   ·have hkl:(R.wtk U t e k).length≤1000:=by
     have h1:=Mk (R:=R) (U:=U) (t:=t) (k:=e)
     have h2:e*t≤6*10:=Nat.mul_le_mul (by omega) (by omega)
     unfold Rg.wtk;rw[List.length_append];have h3:(bif R.mem t e then((R.wl U e (R.I t)).take k).map (fun x=>(⟨x.1,e,x.2⟩:Wv))else []).length≤k:=by
      cases R.mem t e
      ·exact Nat.zero_le _
      show(((R.wl U e (R.I t)).take k).map _).length≤k
      rw[List.length_map,List.length_take];omega
     omega
    refine rl ?_;refine o1 ?_;refine o1 ?_;refine ld ?_;refine o1 ?_;refine o1 ?_;refine ld ?_;refine o1 ?_;refine bs 4 ?_
    refine jE (j:=5) aA rfl rfl rfl rfl (.sl rfl (by rw[List.length_map,cL aX])) (.sl rfl rfl rfl) rfl rfl rfl (by omega) (by omega) ?_
    refine o1 ?_;refine nl ?_;refine rl ?_;refine o1 ?_;refine WL.cast (t:=40) (u':=.int .i64 ((k+1:Nat):Int)) rfl (aC (by omega)) ?_
    refine o1 ?_;refine nl ?_
    have hX:(R.wtk U t e (k+1))=(R.wtk U t e k)++[(⟨(aJ (R.wl U e (R.I t)) (k)).1,((e:Nat):Int),(aJ (R.wl U e (R.I t)) (k)).2⟩:Wv)]:=ES (by have h9:=h3;rwa[vP (by omega)]at h9) (by omega)
    exact⟨k+1,by omega,by omega,cK h0 [0,1,5] _ _ (by decide) rfl ⟨rfl,rfl,(by rw[hX,List.length_append];rfl),rfl,rfl,rfl,rfl,rfl,rfl,rfl,trivial⟩ ⟨oe rfl rfl,aI rfl,aI (by rw[hX,←Xx];rfl),rfl⟩⟩
   refine sk ?_;refine rl ?_;refine o1 ?_;refine WL.cast (t:=40) (u':=.int .i64 ((k+1:Nat):Int)) rfl (aC (by omega)) ?_
   refine o1 ?_;refine nl ?_;have hX:(R.wtk U t e (k+1))=(R.wtk U t e k):=KM (by have h9:=h3;rwa[vP (by omega)]at h9)
   exact⟨k+1,by omega,by omega,cK h0 [0,1,2] _ _ (by decide) rfl ⟨rfl,rfl,(by rw[hX];rfl),rfl,rfl,rfl,rfl,rfl,rfl,rfl,trivial⟩ ⟨oe rfl rfl,aI rfl,aI (by rw[hX];rfl),rfl⟩⟩
  refine ex ?_;refine rl ?_;refine o1 ?_;refine WL.cast (t:=41) (u':=.int .i64 ((e+1:Nat):Int)) rfl (aC (by omega)) ?_
  refine o1 ?_;refine nl ?_;have hfin:(R.wtk U t e k)=(R.wt0 U t (e+1)):=ET (by omega)
  exact⟨e+1,by omega,by omega,cK h0 [0,1,2] _ _ (by decide) rfl ⟨rfl,rfl,(by rw[hfin];rfl),rfl,rfl,rfl,trivial⟩ ⟨oe rfl rfl,aI rfl,aI (congrArg (fun l:List Wv=>some (⟨64,18,(l.flatMap aL).map .t⟩:Ob)) hfin),rfl⟩⟩
 refine ex ?_;refine sq ?_;refine rl ?_;refine o1 ?_
 have hwl9:(R.wt0 U t e).length≤60:=Nat.le_trans (Mk (R:=R) (U:=U) (t:=t) (k:=e)) (Nat.mul_le_mul (show e≤6 by omega) (show t≤10 by omega))
 refine cl 3 [2] (EG (xs:=(R.wt0 U t e)) rfl (by omega)) PT ⟨aI rfl,rfl⟩ ⟨rfl,rfl,rfl⟩ (ok:=[some ⟨64,18,((dC (R.wt0 U t e)).flatMap aL).map .t⟩]) ⟨aI rfl,rfl⟩ ?_
 refine nl ?_;refine sq ?_;refine rl ?_;refine o1 ?_;refine o1 ?_;refine nl ?_;refine rt ?_;have hee:e=R.E:=by omega
 have hso:dC (R.wt0 U t e)=((R.wt U t).map (R.wv U)):=by rw[hee];exact KO hI (by omega)
 have hln:(R.wt0 U t e).length=((R.wt U t).map (R.wv U)).length:=by rw[←hso,gV]
 refine CB (iU (j:=0) (k:=1) (p:=3) (e:=96) (z:=1) (n:=(R.own U (R.I t) t).length) (trs:=(R.own U (R.I t) t).map dQ) rfl rfl rfl rfl rfl (cD _ _ (by simp)) (by simp) rfl) ?_
 exact Cj <| gR (lent':=[⟨95,0,[.t ta,.t tb,.t tc,.t (dL (R.own U (R.I t) t))]⟩]) (.inl rfl) rfl (aZ (.one (.sl (trs:=(dC (R.wt0 U t e)).flatMap aL) rfl rfl (cD _ _ (by rw[cL aX,gV])) (by rw[cL aX,gV])))) (by decide) (by simp) ⟨⟨rfl,rfl⟩,trivial⟩ ⟨rfl,trivial⟩ ⟨rfl,trivial⟩ (fun h=>by cases h) ⟨rfl,by rw[hso,hln]⟩
def Rg.yrq (R:Rg) (t:Nat):List Tr:=[gQ (R.ms t),sQ false ((R.bs t).map Fr4.of)]++(Fr4.of (R.lim t)).tr false
def Rg.uf (R:Rg) (U:List Ur) (t i:Nat):List Ur:=((R.wt U t).take i).foldl (fun U p=>R.use U p.1 p.2 t) U
theorem EU (xs:List Rat) (q:Rat):(xs.flatMap qt).map AV.t++(qt q).map .t=((xs++[q]).flatMap qt).map .t:=by simp[List.flatMap_append]
theorem EV (xs:List Rl) (x:Rl):(xs.flatMap mP).map AV.t++(mP x).map .t=((xs++[x]).flatMap mP).map .t:=by simp[List.flatMap_append]
section
variable {R:Rg}{U:List Ur}{N t i e k:Nat}{p:Nat×Nat}
theorem Tf (h:(R.wt U t)[i]? =some p):p∈R.vl t∧t≤p.1+R.f∧p.2<R.E∧aB ((R.wt U t).map (R.wv U)) i=R.wv U p:=by
 have h1:=List.mem_of_getElem? h
 unfold Rg.wt at h1
 rw[List.mem_filter]at h1
 obtain⟨h2,h3⟩:=h1
 unfold Rg.may at h3
 simp only[Bool.and_eq_true,decide_eq_true_eq]at h3
 refine⟨h2,h3.1.1,(fM.1 h2).2.1,?_⟩
 rw[aB,List.getD_eq_getElem?_getD,List.getElem?_map,h]
 rfl
theorem Cl (h:(R.wt U t)[i]? =some p):R.uf U t (i+1)=R.use (R.uf U t i) p.1 p.2 t:=by
 unfold Rg.uf
 rw[List.take_add_one,h,List.foldl_append]
 rfl
theorem Xy:(R.wt U t).Nodup:=List.Pairwise.filter _ (nA t)
theorem EW (h:(R.wt U t)[i]? =some p):R.left (R.uf U t i) p.1 p.2=R.left U p.1 p.2:=by
 refine oW _ _ fun hm=>?_
 obtain⟨j,hj,e⟩:=List.getElem_of_mem hm
 rw[List.length_take]at hj
 rw[List.getElem_take]at e
 have hi:=(List.getElem?_eq_some_iff.1 h)
 have:=(List.getElem_inj (Xy (R:=R) (U:=U) (t:=t))).1 (e.trans hi.2.symm)
 omega
theorem PU (h:(R.wt U t)[i]? =some p):aB ((R.wt U t).map (R.wv U)) i=R.wv (R.uf U t i) p:=by
 rw[(Tf h).2.2.2]
 unfold Rg.wv
 rw[EW h]
theorem PV (hI:R.Iv N U) (ht:t<N):R.Iv N (R.uf U t i):=hI.fold ht _ fun p hp=>by
 have h1:=List.mem_of_mem_take hp
 unfold Rg.wt at h1
 have:=fM.1 (List.mem_filter.1 h1).1
 exact⟨by omega,this.2.1⟩
theorem KP:(R.uf U t i).length≤U.length+i:=by
 unfold Rg.uf
 have gen:∀(L:List (Nat×Nat)) (V:List Ur),(L.foldl (fun U p=>R.use U p.1 p.2 t) V).length≤V.length+L.length:=by
  intro L
  induction L with
  | nil=>intro V;simp
  | cons q L ih=>
   intro V
   have h1:=ih (R.use V q.1 q.2 t)
   have h2:(R.use V q.1 q.2 t).length≤V.length+1:=Mi
   rw[List.foldl_cons,List.length_cons]
   omega
 have:=gen ((R.wt U t).take i) U
 rw[List.length_take]at this
 omega
theorem KQ (hI:R.Iv N U) (ht:t<N) (hi:(R.wt U t).length≤i):R.uf U t i=R.step U t:=by
 unfold Rg.uf
 rw[List.take_of_length_le hi]
 exact(EX hI ht).symm
theorem EY:(R.wt U t).length≤(R.vl t).length:=List.length_filter_le ..
theorem Xz:R.rls (R.step U t) t=R.rls U t:=by
 unfold Rg.step
 generalize (R.vl t).filter (R.may t)=L
 induction L generalizing U with
 | nil=>rfl
 | cons p L ih=>
  rw[List.foldl_cons,ih]
  exact JE (Nat.le_refl _)
theorem Ya:R.rls U t++[R.rl U t]=R.rls U (t+1):=by simp[Rg.rls,List.range_succ]
theorem KR (l:List Rat):l.flatMap qt=(l.map Fr4.of).flatMap (Fr4.tr false):=by
 induction l with
 | nil=>rfl
 | cons q l ih=>
  rw[List.flatMap_cons,List.map_cons,List.flatMap_cons,←ih]
  rfl
theorem Yb (h:∀e,e<R.E→dS U t e=0):(List.range R.E).map (fun _=>((0:Int):Rat))=R.by9 U t:=List.map_congr_left fun e he=>(h e (List.mem_range.1 he)).symm
end
theorem KS {R:Rg}{U:List Ur}{x c:Nat→Nat→Rat}{N t:Nat}(hOk:R.Ok N) (hI:R.Iv N U) (ht:t<N) (h0y:dR U t=0) (h0b:∀e,e<R.E→dS U t e=0) (hlU:U.length≤1000):aD false Tryz.prog 70 [⟨95,0,[.t (dA true (R.rls U t)),.t (cU true false (R.vns U x c (R.vl t))),.t (cI true false U),.t (dL (R.own U (R.I t) t))]⟩] [.one (.pt 0 0),.one (tv (.int .i64 ((t:Nat):Int))),.agg ((R.yrq t).map .t)] (Rt [⟨95,0,[.t (dA true (R.rls (R.step U t) (t+1))),.t (cU true false (R.vns (R.step U t) x c (R.vl t))),.t (cI true false (R.step U t)),.t (dL (R.own (R.step U t) (R.I t) t))]⟩] (.tup [])):=by
 refine Pv Tryz.func70 rfl Tryz.ntmps70 rfl aA rfl fun N9 M9 w9 c0 h0=>?_
 have hbl:((R.bs t).map Fr4.of).length=R.E:=by rw[List.length_map];exact oC
 have hE:=hOk.e;have hN:=hOk.n
 have hVl:=qA (R:=R) hE t
 have hwl:=EY (R:=R) (U:=U) (t:=t)
 refine sq ?_;refine rl ?_;refine bx 1 ?_;refine bx 2 ?_;refine bx 3 ?_;refine nl ?_;refine sq ?_;refine rd [0,1,2,3] (fun i=>[5].contains i) mixed ?_
 refine aR 0 ?_;refine bB 1 rfl (fX (z:=0) (by omega) (by omega)) mX ⟨a1 rfl,rfl⟩ (qF (.of ((0:Int):Rat))) ?_
 refine df 2 ?_;refine df 3 ?_;refine SJ (key:=4) 4 (by kernel_rfl) rfl rfl rfl ⟨rfl,rfl,rfl,rfl,trivial⟩ ?_
 refine eR 5 (by kernel_rfl) rfl rfl aA rfl (by trivial) ?_ (fun h=>by first | rfl | cases h)
 refine aS ?_;refine sq ?_;refine sq ?_;refine rl ?_;refine o1 ?_;refine ld ?_;refine o1 ?_;refine o1 ?_;refine nl ?_;refine bl ?_
 refine WP.sub (Md (j:=4) (key:=5) (e:=48) (z:=4) rfl rfl rfl (.id (.id (.id (.id (.id (.id (.id (.id (.id (.id (.sl (.id .nil))))))))))))) ?_
 refine lp (γ:=Nat) (fun s=>cA [(3,.one (.pt 1 0)),(4,.one (.pt 2 0)),(5,.one (.pt 3 0)),(6,.one (.pt 4 0)),(16,.one (tv (.int .i64 ((((R.bs t).map Fr4.of).length:Nat):Int)))),(17,.one (tv (.int .i64 ((s:Nat):Int))))]) (fun s=>[(⟨95,0,[.t (dA true (R.rls U t)),.t (cU true false (R.vns U x c (R.vl t))),.t (cI true false U),.t (dL (R.own U (R.I t) t))]⟩:Ob),⟨92,0,[.pt 0 0]⟩,⟨3,0,[tv (.int .i64 ((t:Nat):Int))]⟩,⟨67,0,(R.yrq t).map .t⟩,⟨165,0,[.t (gQ (R.ms t)),.t (sQ false ((R.bs t).map Fr4.of))]++((Fr4.of (R.lim t)).tr false).map .t++((Fr4.of ((0:Int):Rat)).tr false).map .t++[.sl 5 0 s,tv .nilFunc]⟩,⟨48,4,(((List.range s).map (fun _=>((0:Int):Rat))).flatMap qt).map .t⟩].map some) (fun s=>s≤R.E) (fun s=>R.E-s) 0 (Nat.zero_le _) (cK h0 [0,1,2,3,4,5] _ _ (by decide) rfl ⟨rfl,rfl,rfl,rfl,rfl,rfl,trivial⟩ ⟨oe rfl rfl,oe rfl rfl,oe rfl rfl,aI rfl,oe rfl rfl,aI rfl,rfl⟩) ?_
 rintro k hk;refine sq ?_;refine rl ?_;refine o1 ?_;refine nl ?_;refine sq ?_;refine bM rfl (fun h1=>?_) (fun h1=>?_)
 ·refine sk ?_;refine sq ?_;refine bl ?_;refine rd [0,1,2,3,4] (fun i=>[12].contains i) mixed ?_
  refine dv 0 ?_;refine dv 1 ?_;refine dv 2 ?_;refine dv 3 ?_;refine dv 4 ?_;refine aR 5 ?_
  refine bB 6 rfl (fX (z:=0) (by omega) (by omega)) mX ⟨a1 rfl,rfl⟩ (qF (.of ((0:Int):Rat))) ?_
  refine kN (key:=6) 7 (by kernel_rfl) rfl rfl aA rfl ⟨rfl,rfl,rfl,rfl,rfl,trivial⟩ ?_
  refine oB (j:=7) (n:=k) (l:=(((List.range k).map (fun _=>((0:Int):Rat))).flatMap qt).map .t) 8 rfl aA rfl rfl rfl (.sl rfl (by rw[List.length_map,cL vF,List.length_map,List.length_range])) (.sl rfl rfl rfl) rfl rfl (by omega) (by omega) rfl ⟨rfl,rfl,rfl,rfl,rfl,trivial⟩ rfl (by kernel_rfl) rfl ?_
  refine eR 9 (by kernel_rfl) rfl rfl aA rfl (by trivial) ?_ (fun h=>by first | rfl | cases h)
  refine eR 10 (by kernel_rfl) rfl rfl aA rfl (by trivial) ?_ (fun h=>by first | rfl | cases h)
  refine df 11 ?_;refine dst 12 ?_;refine aS ?_;refine rl ?_;refine o1 ?_;refine WL.cast (t:=31) (u':=.int .i64 ((k+1:Nat):Int)) rfl (aC (by omega)) ?_
  refine o1 ?_;refine nl ?_
  exact⟨k+1,by omega,by omega,cK h0 [0,1,2,3,4,7] _ _ (by decide) rfl ⟨rfl,rfl,rfl,rfl,rfl,rfl,trivial⟩ ⟨oe rfl rfl,oe rfl rfl,oe rfl rfl,aI rfl,oe rfl rfl,aI (congrArg (fun l:List AV=>some (⟨48,4,l⟩:Ob)) ((EU ((List.range k).map (fun _=>((0:Int):Rat))) ((0:Int):Rat)).trans (by rw[List.range_succ,List.map_append];rfl))),rfl⟩⟩
 refine ex ?_;refine sq ?_;refine rl ?_;(iterate 4 refine o1 ?_);refine st ?_;refine nl ?_;refine sq ?_;refine sq ?_;refine rl ?_;refine ld ?_;refine o1 ?_;refine ld ?_
 refine cl 6 [0] (Te (U:=U) (ta:=(dA true (R.rls U t))) (tb:=(cU true false (R.vns U x c (R.vl t)))) (tc:=(cI true false U)) hOk hI ht) PW ⟨oe rfl rfl,rfl⟩ ⟨rfl,rfl,rfl⟩ (ok:=[some ⟨95,0,[.t (dA true (R.rls U t)),.t (cU true false (R.vns U x c (R.vl t))),.t (cI true false U),.t (dL (R.own U (R.I t) t))]⟩]) ⟨oe rfl rfl,rfl⟩ ?_
 refine o1 ?_;refine o1 ?_;refine nl ?_;refine bl ?_;have hkE:k=R.E:=by omega
 have hzy:((0:Int):Rat)=dR U t:=h0y.symm
 have hzb:((List.range k).map (fun _=>((0:Int):Rat)))=R.by9 U t:=by rw[hkE];exact Yb h0b
 refine lp (γ:=Nat) (fun s=>cA [(3,.one (.pt 1 0)),(4,.one (.pt 2 0)),(6,.one (.pt 3 0)),(39,.one (.sl 5 0 (((R.wt U t).map (R.wv U)).length))),(40,.one (tv (.int .i64 ((((R.wt U t).map (R.wv U)).length:Nat):Int)))),(41,.one (tv (.int .i64 ((s:Nat):Int))))]) (fun s=>[(⟨95,0,[.t (dA true (R.rls U t)),.t (cU true false (R.vns (R.uf U t s) x c (R.vl t))),.t (cI true false (R.uf U t s)),.t (dL (R.own (R.uf U t s) (R.I t) t))]⟩:Ob),⟨92,0,[.pt 0 0]⟩,⟨3,0,[tv (.int .i64 ((t:Nat):Int))]⟩,⟨165,0,[.t (gQ (R.ms t)),.t (sQ false ((R.bs t).map Fr4.of))]++((Fr4.of (R.lim t)).tr false).map .t++((Fr4.of (dR (R.uf U t s) t)).tr false).map .t++[.sl 4 0 (R.by9 (R.uf U t s) t).length,.fn 99 [] [.pt 1 0,.pt 2 0]]⟩,⟨48,4,((R.by9 (R.uf U t s) t).flatMap qt).map .t⟩,⟨64,18,(((R.wt U t).map (R.wv U)).flatMap aL).map .t⟩].map some) (fun s=>s≤((R.wt U t).map (R.wv U)).length) (fun s=>((R.wt U t).map (R.wv U)).length-s) 0 (Nat.zero_le _) (cK h0 [0,1,2,4,5,6] _ _ (by decide) rfl ⟨rfl,rfl,rfl,rfl,rfl,rfl,trivial⟩ ⟨oe rfl rfl,oe rfl rfl,oe rfl rfl,oe rfl (by have h9:(some ⟨165,0,[.t (gQ (R.ms t)),.t (sQ false ((R.bs t).map Fr4.of))]++((Fr4.of (R.lim t)).tr false).map .t++((Fr4.of ((0:Int):Rat)).tr false).map .t++[.sl 5 0 k,.fn 99 [] [.pt 1 0,.pt 2 0]]⟩:Option Ob)=some ⟨165,0,[.t (gQ (R.ms t)),.t (sQ false ((R.bs t).map Fr4.of))]++((Fr4.of (R.lim t)).tr false).map .t++((Fr4.of (dR U t)).tr false).map .t++[.sl 5 0 (R.by9 U t).length,.fn 99 [] [.pt 1 0,.pt 2 0]]⟩:=(by rw[←hzy,←hzb,List.length_map,List.length_range]);exact h9),aI (by have h9:(some ⟨48,4,(((List.range k).map (fun _=>((0:Int):Rat))).flatMap qt).map .t⟩:Option Ob)=some ⟨48,4,((R.by9 U t).flatMap qt).map .t⟩:=(by rw[hzb]);exact h9),aI rfl,rfl⟩) ?_
 rintro i hi;refine sq ?_;refine rl ?_;refine o1 ?_;refine nl ?_;refine sq ?_;refine bM rfl (fun h2=>?_) (fun h2=>?_)
 ·refine sk ?_;refine sq ?_;refine bl ?_;refine sq ?_;have hwtl:((R.wt U t).map (R.wv U)).length=(R.wt U t).length:=List.length_map _
  obtain⟨p,hp9⟩:∃p,(R.wt U t)[i]? =some p:=⟨_,List.getElem?_eq_getElem (by omega)⟩
  obtain⟨hw1,hw2,hw3,_⟩:=Tf hp9
  have hfl:=KP (R:=R) (U:=U) (t:=t) (i:=i)
  have huse:=PS (U:=(R.uf U t i)) (x:=x) (c:=c) (y:=p.1) (e:=p.2) (ta:=(dA true (R.rls U t))) hOk (PV hI ht) ht hw1 hw2 (by omega) (by omega)
  rw[show R.wv (R.uf U t i) (p.1,p.2)=aB ((R.wt U t).map (R.wv U)) i from(PU hp9).symm]at huse;refine rl ?_;refine o1 ?_
  refine JS (cG (f:=aL) (z:=18) (o:=0) (us:=aL (aB ((R.wt U t).map (R.wv U)) (i))) aX (bN (l:=((R.wt U t).map (R.wv U))) (i:=i) (by omega)) (Nat.le_of_ble_eq_true rfl) rfl) ?_
  refine al 6 ?_;refine st ?_;refine nl ?_;refine rl ?_;refine o1 ?_;refine ld ?_
  refine cl 7 [3,4,1,2,0] huse PX ⟨oe rfl rfl,aI rfl,oe rfl rfl,oe rfl rfl,oe rfl rfl,rfl⟩ ⟨rfl,rfl,rfl⟩ (ok:=[some ⟨165,0,[.t (gQ (R.ms t)),.t (sQ false ((R.bs t).map Fr4.of))]++((Fr4.of (R.lim t)).tr false).map .t++((Fr4.of (dR (R.use (R.uf U t i) p.1 p.2 t) t)).tr false).map .t++[.sl 4 0 (R.by9 (R.use (R.uf U t i) p.1 p.2 t) t).length,.fn 99 [] [.pt 1 0,.pt 2 0]]⟩,some ⟨48,4,((R.by9 (R.use (R.uf U t i) p.1 p.2 t) t).flatMap qt).map .t⟩,some ⟨92,0,[.pt 0 0]⟩,some ⟨3,0,[tv (.int .i64 ((t:Nat):Int))]⟩,some ⟨95,0,[.t (dA true (R.rls U t)),.t (cU true false (R.vns (R.use (R.uf U t i) p.1 p.2 t) x c (R.vl t))),.t (cI true false (R.use (R.uf U t i) p.1 p.2 t)),.t (dL (R.own (R.use (R.uf U t i) p.1 p.2 t) (R.I t) t))]⟩]) ⟨oe rfl rfl,aI rfl,oe rfl rfl,oe rfl rfl,oe rfl rfl,rfl⟩ ?_
  refine nl ?_;refine rl ?_;refine o1 ?_;refine WL.cast (t:=48) (u':=.int .i64 ((i+1:Nat):Int)) rfl (aC (by omega)) ?_
  refine o1 ?_;refine nl ?_
  exact⟨i+1,by omega,by omega,cK h0 [0,1,2,3,4,5] _ _ (by decide) rfl ⟨rfl,rfl,rfl,rfl,rfl,rfl,trivial⟩ ⟨oe rfl (congrArg (fun V:List Ur=>some (⟨95,0,[.t (dA true (R.rls U t)),.t (cU true false (R.vns V x c (R.vl t))),.t (cI true false V),.t (dL (R.own V (R.I t) t))]⟩:Ob)) (Cl hp9).symm),oe rfl rfl,oe rfl rfl,oe rfl (by have h9:(some ⟨165,0,[.t (gQ (R.ms t)),.t (sQ false ((R.bs t).map Fr4.of))]++((Fr4.of (R.lim t)).tr false).map .t++((Fr4.of (dR (R.use (R.uf U t i) p.1 p.2 t) t)).tr false).map .t++[.sl 4 0 (R.by9 (R.use (R.uf U t i) p.1 p.2 t) t).length,.fn 99 [] [.pt 1 0,.pt 2 0]]⟩:Option Ob)=some ⟨165,0,[.t (gQ (R.ms t)),.t (sQ false ((R.bs t).map Fr4.of))]++((Fr4.of (R.lim t)).tr false).map .t++((Fr4.of (dR (R.uf U t (i+1)) t)).tr false).map .t++[.sl 4 0 (R.by9 (R.uf U t (i+1)) t).length,.fn 99 [] [.pt 1 0,.pt 2 0]]⟩:=(by rw[Cl hp9]);exact h9),aI (congrArg (fun V:List Ur=>some (⟨48,4,((R.by9 V t).flatMap qt).map .t⟩:Ob)) (Cl hp9).symm),aI rfl,rfl⟩⟩
 refine ex ?_;have hwtl:((R.wt U t).map (R.wv U)).length=(R.wt U t).length:=List.length_map _
 have hue:(R.uf U t i)=(R.step U t):=KQ hI ht (by omega)
 have hrl:(R.rls U t).length=t:=Cd
 refine WP.sub (nX (j:=0) (key:=6) (p:=0) (e:=62) (z:=5) (n:=(R.rls U t).length) (trs:=(R.rls U t).flatMap mP) rfl rfl rfl rfl rfl) ?_
 refine rd [0,1,2,3] (fun i=>[15].contains i) mixed ?_
 refine aR 0 ?_;refine aR 1 ?_;refine dv 2 ?_;refine dv 3 ?_;refine dv 4 ?_;refine aR 5 ?_;refine dv 6 ?_;refine dv 7 ?_;refine dv 8 ?_;refine WO.one (by kernel_rfl) (Mb 9 ?_)
 refine yC (i:=58) (k:=4) (t:=48) (t':=52) (z:=4) (n:=(R.by9 (R.uf U t i) t).length) (l:=((R.by9 (R.uf U t i) t).map Fr4.of).flatMap (Fr4.tr false)) rfl rfl (congrArg (fun l:List Tr=>some (⟨48,4,l.map .t⟩:Ob)) (KR (R.by9 (R.uf U t i) t))) (by rw[cL (f:=Fr4.tr false) (z:=4) (fun _=>rfl),List.length_map]) (.agg (.cons .id (.cons .id (.cons .id (.cons .id (.cons .sl .nil)))))) (by rfl) (by rfl) ?_
 refine kN (key:=7) 10 (by kernel_rfl) rfl rfl aA rfl ⟨rfl,rfl,rfl,rfl,trivial⟩ ?_
 refine oB (j:=8) (n:=(R.rls U t).length) (l:=((R.rls U t).flatMap mP).map .t) 11 rfl aA rfl rfl rfl (.sl rfl (by rw[List.length_map,cL lM])) (.sl rfl rfl rfl) rfl rfl (by omega) (by omega) rfl ⟨rfl,rfl,rfl,rfl,trivial⟩ rfl (by kernel_rfl) rfl ?_
 refine eR 12 (by kernel_rfl) rfl rfl aA rfl (by trivial) ?_ (fun h=>by first | rfl | cases h)
 refine eR 13 (by kernel_rfl) rfl rfl aA rfl (by trivial) ?_ (fun h=>by first | rfl | cases h)
 refine df 14 ?_;refine dst 15 ?_;refine aS ?_
 have hrow:((R.rls U t).flatMap mP).map AV.t++(mP (R.rl (R.uf U t i) t)).map .t=((R.rls (R.step U t) (t+1)).flatMap mP).map .t:=by rw[EV,hue,←Xz,Ya]
 have hrow2:(mP (R.rl (R.uf U t i) t)).map AV.t=((Fr4.of (dR (R.uf U t i) t)).tr false).map .t++[.t (.s false 52 4 (R.by9 (R.uf U t i) t).length (((R.by9 (R.uf U t i) t).map Fr4.of).flatMap (Fr4.tr false)))]:=by
  have h9:sQ false ((R.by9 (R.uf U t i) t).map Fr4.of)=.s false 52 4 (R.by9 (R.uf U t i) t).length (((R.by9 (R.uf U t i) t).map Fr4.of).flatMap (Fr4.tr false)):=by rw[sQ,List.length_map]
  rw[←h9];rfl
 rw[hrow2]at hrow;have hrnl:(R.rls (R.step U t) (t+1)).length=t+1:=Cd
 refine CB (iU (j:=0) (k:=8) (p:=0) (e:=62) (z:=5) (n:=(R.rls U t).length+1) (trs:=(R.rls (R.step U t) (t+1)).flatMap mP) rfl rfl rfl (congrArg (fun l:List AV=>some (⟨62,5,l⟩:Ob)) hrow) rfl (cD _ _ (by rw[cL lM,hrnl,hrl])) (by rw[cL lM,hrnl,hrl]) rfl) ?_
 exact Cj <| gR (lent':=[⟨95,0,[.t (dA true (R.rls (R.step U t) (t+1))),.t (cU true false (R.vns (R.step U t) x c (R.vl t))),.t (cI true false (R.step U t)),.t (dL (R.own (R.step U t) (R.I t) t))]⟩]) (.inr rfl) rfl pU (by decide) (fun _ h=>by cases h) ⟨⟨rfl,rfl⟩,trivial⟩ ⟨(by have h9:(some ⟨95,0,[.t (.s true 62 5 ((R.rls U t).length+1) ((R.rls (R.step U t) (t+1)).flatMap mP)),.t (cU true false (R.vns (R.uf U t i) x c (R.vl t))),.t (cI true false (R.uf U t i)),.t (dL (R.own (R.uf U t i) (R.I t) t))]⟩:Option Ob)=some ⟨95,0,[.t (dA true (R.rls (R.step U t) (t+1))),.t (cU true false (R.vns (R.step U t) x c (R.vl t))),.t (cI true false (R.step U t)),.t (dL (R.own (R.step U t) (R.I t) t))]⟩:=(by rw[hue,dA,hrnl,hrl]);exact h9),trivial⟩ ⟨rfl,trivial⟩ (fun h=>by cases h) ⟨rfl,rfl⟩
end Go.Proofs.YtbbabfkgdnkehaaGreat
