/- Part 12 of a proof: B5 to V9. -/
import Derived.Test.YtbbabfkgdnkehaaGreatM11
import Derived.Test.YtbbabfkgdnkehaaGreatM7
import Derived.Test.YtbbabfkgdnkehaaGreatM10
import Derived.Test.YtbbabfkgdnkehaaGreatM8
import Derived.Test.YtbbabfkgdnkehaaGreatM5
set_option maxRecDepth 100000
set_option linter.unusedVariables false
set_option linter.unusedSimpArgs false
namespace Go.Proofs.YtbbabfkgdnkehaaGreat
open Go Go.RowKit
def zM (x:Int×Rat):Bool:=lS x.1 x.2
theorem JG {y:Int}{q:Rat}(hs:Sz 68719476736 q):aD true Tryz.prog 125 [] [.agg ((cD false (y,q)).map .t)] (aN (.one (tv (.bool (zM (y,q)))))):=by
 refine cB Tryz.func125 rfl Tryz.ntmps125 rfl aA rfl fun N w c0 h0=>?_
 refine sq ?_;refine rl ?_;refine bx 0 ?_;refine o1 ?_;refine nl ?_;refine sq ?_;refine rl ?_;refine o1 ?_;refine ld ?_
 refine ca (nL (Qn.of (p:=q) hs)) uX ⟨aG rfl,rfl⟩ (.one (tv (.int .i64 q.num.sign))) ?_;refine o1 ?_;refine o1 ?_;refine nl ?_;refine rt ?_
 exact en (.inl rfl) rfl (aX (cN _)) (by decide) (fun _=>trivial) rfl
theorem Gn {t0 i:Nat}{rest:List Tr}{us vs:List (Int×Rat)}{x:Int×Rat}{a:Fr4}{p:Rat}(ha:Qn a p) (hnx:aI us i=x) (hi:i<us.length) (hul:us.length=vs.length) (hv:Sz 68719476736 x.2) (hl:vs.length≤1073741823):aD false Tryz.prog 124 [⟨t0,0,.sl 1 0 vs.length::rest.map .t⟩,⟨102,5,dZ us⟩] [.one (.pt 0 0),.one (tv (.int .i64 ((i:Nat):Int))),qF a] (Rt [⟨t0,0,.sl 1 0 vs.length::rest.map .t⟩,⟨102,5,dZ (us.set i (x.1,x.2-aM x.2 [p]))⟩] (.agg ((cD false (x.1,aM x.2 [p])).map .t))):=by
 subst hnx
 rw[←hul]
 exact JD ha hi hv (by omega)
theorem OO {vs:List (Int×Rat)}{last fr:Int}{put:Bool}{a:Fr4}{p:Rat}(ha:Qn a p) (hl:vs.length≤1073741823) (hw:fX (vs.map Prod.snd)+wt p+2*vs.length≤17179869184) (hzU:∀x∈(aY fr vs p).1,Sz 68719476736 x.2):aD false Tryz.prog 100 [⟨137,0,[.t (sR 102 vs),tv (.int .i64 last),tv (.bool put)]⟩] [.one (.pt 0 0),.one (tv (.int .i64 fr)),qF a] (Rt [⟨137,0,[.t (sR 102 (dO zM (aY fr vs p).1)),tv (.int .i64 last),tv (.bool put)]⟩] (.one (.t (sO 102 (aY fr vs p).2.1)))):=by
 refine mI Tryz.func100 rfl Tryz.ntmps100 rfl aA rfl fun N M w c0 h0=>?_
 refine WP.sub (nN (j:=0) (key:=1) (p:=0) (e:=102) (z:=5) (n:=vs.length) (trs:=vs.flatMap (cD false)) rfl rfl rfl rfl rfl) ?_;refine sq ?_;refine rl ?_;refine bx 2 ?_;refine o1 ?_
 refine nl ?_;refine sq ?_;refine sq ?_;refine rl ?_;refine o1 ?_;refine o1 ?_;refine nl ?_;refine gE rfl ?_;refine sk ?_;refine sq ?_;refine rl ?_;refine o1 ?_;refine nl ?_;refine sq ?_
 refine sq ?_;refine rl ?_;(iterate 4 refine o1 ?_);refine ld ?_;refine o1 ?_;refine o1 ?_;refine nl ?_;refine bl ?_
 refine lp (γ:=Nat×Fr4) (fun s=>cC [(0,.one (.pt 0 0)),(1,.one (tv (.int .i64 fr))),(5,.one (.pt 2 0)),(7,.one (.sl 3 0 ((aY fr (vs.take s.1) p).2.1.length))),(17,.one (.sl 1 0 (vs.length))),(18,.one (tv (.int .i64 ((vs.length:Nat):Int)))),(19,.one (tv (.int .i64 ((s.1:Nat):Int))))]) (fun s=>[(⟨137,0,[.sl 1 0 vs.length,tv (.int .i64 last),tv (.bool put)]⟩:Ob),⟨102,5,dZ ((aY fr (vs.take s.1) p).1++vs.drop s.1)⟩,⟨48,0,((s.2).tr false).map .t⟩,⟨102,5,oD (aY fr (vs.take s.1) p).2.1⟩].map some) (fun s=>s.1≤vs.length∧Qn s.2 (aY fr (vs.take s.1) p).2.2∧wt (aY fr (vs.take s.1) p).2.2≤fX ((vs.take s.1).map Prod.snd)+wt p+2*s.1∧(aY fr (vs.take s.1) p).2.1.length≤s.1) (fun s=>vs.length-s.1) (0,a) ⟨Nat.zero_le _,ha,by simp[aY,fX],Nat.le_refl _⟩ ((nr (i:=7) 3 102 5 rfl rfl rfl rfl).trans (cI h0 [0,1,2,3] _ _ (by decide) rfl ⟨rfl,rfl,rfl,rfl,rfl,rfl,rfl,trivial⟩ ⟨oe rfl rfl,aK rfl,aK rfl,oe rfl rfl,rfl⟩)) ?_
 rintro⟨k,m⟩ ⟨hk,hm,hb,hgl⟩;dsimp only at hk hm hb hgl⊢;refine sq ?_;refine rl ?_;refine o1 ?_;refine nl ?_;refine sq ?_;refine bN rfl (fun h1=>?_) (fun h1=>?_)
 ·refine sk ?_;refine sq ?_;refine bl ?_;refine sq ?_;have hal:(aY fr (vs.take k) p).1.length=k:=by rw[Gp,List.length_take,Nat.min_eq_left hk]
  have hul:((aY fr (vs.take k) p).1++vs.drop k).length=vs.length:=by rw[List.length_append,hal,List.length_drop];omega
  have hnx:aI ((aY fr (vs.take k) p).1++vs.drop k) k=(aI vs k):=Wq (by rw[←zN (by omega)]) hal
  have hvw:wt (aI vs k).2≤fX (vs.map Prod.snd):=Lg (List.mem_map.2 ⟨_,mR (by omega),rfl⟩)
  have hwk:fX ((vs.take (k+1)).map Prod.snd)=fX ((vs.take k).map Prod.snd)+wt (aI vs k).2:=by rw[kN (by omega),List.map_append,sW];simp[fX]
  have hwl:fX ((vs.take (k+1)).map Prod.snd)≤fX (vs.map Prod.snd):=DR ((List.take_sublist _ _).map _)
  have hszv:Sz 17179869184 (aI vs k).2:=nP.2 (by have h9:wt (aI vs k).2=uY (aI vs k).2+1:=rfl;omega)
  have hszr:Sz 17179869184 (aY fr (vs.take k) p).2.2:=nP.2 (by have h9:wt (aY fr (vs.take k) p).2.2=uY (aY fr (vs.take k) p).2.2+1:=rfl;omega)
  have hszn:Sz 17179869184 (aM (aI vs k).2 [(aY fr (vs.take k) p).2.2]):=wO hszv (fun q hq=>by rw[List.mem_singleton]at hq;rw[hq];exact hszr)
  have hszm:Sz 68719476736 ((aY fr (vs.take k) p).2.2-(aM (aI vs k).2 [(aY fr (vs.take k) p).2.2])):=(rG hszr hszn).mono (by omega)
  refine rl ?_;refine o1 ?_;refine o1 ?_
  refine IZ (us:=(cD false (aI vs k)).map .t) (by have h9:=Gk (us:=((aY fr (vs.take k) p).1++vs.drop k)) (k:=k) (by rw[hul];omega);rwa[hnx]at h9) ?_
  refine al 4 ?_;refine o1 ?_;refine st ?_;refine nl ?_;refine sq ?_;refine rl ?_;refine o1 ?_;refine ld ?_;(iterate 3 refine o1 ?_)
  refine WL.split (t:=28) rfl (fun h2=>?_) (fun h2=>?_)
  ·refine ld ?_;refine ca (nL hm) uX ⟨aG rfl,rfl⟩ (.one (tv (.int .i64 (aY fr (vs.take k) p).2.2.num.sign))) ?_;refine o1 ?_;refine o1 ?_;refine nl ?_
   refine bN rfl (fun h3=>?_) (fun h3=>?_)
   ·refine md (γ:=Unit) (fun _=>cC [(0,.one (.pt 0 0)),(1,.one (tv (.int .i64 fr))),(5,.one (.pt 2 0)),(7,.one (.sl 3 0 ((aY fr (vs.take k) p).2.1.length))),(17,.one (.sl 1 0 (vs.length))),(18,.one (tv (.int .i64 ((vs.length:Nat):Int)))),(19,.one (tv (.int .i64 ((k:Nat):Int)))),(10,.one (.pt 4 0))]) (fun _=>([⟨137,0,[.sl 1 0 vs.length,tv (.int .i64 last),tv (.bool put)]⟩,⟨102,5,dZ (((aY fr (vs.take k) p).1++vs.drop k).set (k) ((aI vs k).1,((aI vs k).2-(aM (aI vs k).2 [(aY fr (vs.take k) p).2.2]))))⟩,⟨48,0,(m.tr false).map .t⟩,⟨102,5,oD (aY fr (vs.take k) p).2.1⟩,⟨102,0,(cD false ((aI vs k).1,(aM (aI vs k).2 [(aY fr (vs.take k) p).2.2]))).map .t⟩]:List Ob).map some) (fun _=>True) ?_ fun _ _=>?_
    ·refine rd [2,4] (fun i=>[7].contains i) mixed ?_
     refine dv 0 ?_;refine dv 1 ?_;refine dv 2 ?_;refine dv 3 ?_;refine aO 4 ?_;refine WO.two (i:=5) (j:=6) (by kernel_rfl) ?_ ?_
     ·have htk:=Gn (t0:=137) (rest:=[.v (.int .i64 last),.v (.bool put)]) (x:=(aI vs k)) hm (us:=((aY fr (vs.take k) p).1++vs.drop k)) (i:=k) hnx (by rw[hul];omega) hul (hszv.mono (by omega)) hl
      refine JH 5 5 [0,1] rfl htk BF ⟨oe rfl rfl,aK rfl,rfl⟩ ⟨rfl,rfl,rfl,rfl⟩ (ok:=[some ⟨137,0,[.sl 1 0 vs.length,tv (.int .i64 last),tv (.bool put)]⟩,some ⟨102,5,dZ (((aY fr (vs.take k) p).1++vs.drop k).set (k) ((aI vs k).1,((aI vs k).2-(aM (aI vs k).2 [(aY fr (vs.take k) p).2.2]))))⟩]) ⟨oe rfl rfl,aK rfl,rfl⟩ ⟨rfl,rfl,trivial⟩ ?_
      refine gB (key:=5) 6 (by kernel_rfl) rfl rfl aA rfl ⟨rfl,rfl,trivial⟩ ?_
      refine dst 7 ?_;refine aQ ?_
      exact⟨(),trivial,cI h0 [0,1,2,3,5] _ _ (by decide) rfl ⟨rfl,rfl,rfl,rfl,rfl,rfl,rfl,rfl,trivial⟩ ⟨oe rfl rfl,aK rfl,aK rfl,aK rfl,aK rfl,rfl⟩⟩
     refine cL (key:=5) 6 rfl rfl aA rfl ⟨rfl,rfl,trivial⟩ ?_
     have htk:=Gn (t0:=137) (rest:=[.v (.int .i64 last),.v (.bool put)]) (x:=(aI vs k)) hm (us:=((aY fr (vs.take k) p).1++vs.drop k)) (i:=k) hnx (by rw[hul];omega) hul (hszv.mono (by omega)) hl
     refine Sd 5 6 [0,1] rfl htk BF ⟨oe rfl rfl,aK rfl,rfl⟩ ⟨rfl,rfl,rfl,rfl⟩ (ok:=[some ⟨137,0,[.sl 1 0 vs.length,tv (.int .i64 last),tv (.bool put)]⟩,some ⟨102,5,dZ (((aY fr (vs.take k) p).1++vs.drop k).set (k) ((aI vs k).1,((aI vs k).2-(aM (aI vs k).2 [(aY fr (vs.take k) p).2.2]))))⟩]) ⟨oe rfl rfl,aK rfl,rfl⟩ ⟨rfl,rfl,trivial⟩ ?_
     refine dst 7 ?_;refine aQ ?_
     exact⟨(),trivial,cI h0 [0,1,2,3,5] _ _ (by decide) rfl ⟨rfl,rfl,rfl,rfl,rfl,rfl,rfl,rfl,trivial⟩ ⟨oe rfl rfl,aK rfl,aK rfl,aK rfl,aK rfl,rfl⟩⟩
    refine rd [0,2,4] (fun i=>[10].contains i) mixed ?_
    refine dv 0 ?_;refine aO 1 ?_;refine aO 5 ?_;refine dv 6 ?_;refine aO 7 ?_
    refine lG 5 2 rfl (wM (y:=(aI vs k).1) (Qn.of (p:=(aM (aI vs k).2 [(aY fr (vs.take k) p).2.2])) hszn)) Eu ⟨aG rfl,rfl⟩ ?_
    refine kV (key:=7) 3 (by kernel_rfl) rfl rfl aA rfl ⟨rfl,rfl,rfl,trivial⟩ ?_
    refine nQ (j:=8) 4 rfl aA rfl rfl rfl (.sl rfl (wN _)) (.sl rfl rfl rfl) rfl rfl (by omega) (by omega) rfl ⟨rfl,rfl,rfl,trivial⟩ rfl (by kernel_rfl) rfl ?_
    refine bD 8 rfl (Ew hm (Qn.of (p:=(aM (aI vs k).2 [(aY fr (vs.take k) p).2.2])) hszn)) Ow ⟨aG rfl,aG rfl,rfl⟩ (qF (.of ((aY fr (vs.take k) p).2.2-(aM (aI vs k).2 [(aY fr (vs.take k) p).2.2])))) ?_
    refine eT 9 (by kernel_rfl) rfl rfl aA rfl (by trivial) ?_ (fun h=>by first | rfl | cases h)
    refine dst 10 ?_;refine aQ ?_;refine rl ?_;refine o1 ?_;refine WL.cast (t:=48) (u':=.int .i64 ((k+1:Nat):Int)) rfl (aC (by omega)) ?_
    refine o1 ?_;refine nl ?_;have hst:=(uZ (fr:=fr) p (by omega:k<vs.length)).trans (pH (s:=(aY fr (vs.take k) p)) (y:=(aI vs k).1) (q:=(aI vs k).2) h2 h3)
    refine⟨(k+1,Fr4.of ((aY fr (vs.take k) p).2.2-(aM (aI vs k).2 [(aY fr (vs.take k) p).2.2]))),by dsimp only;omega,?_,?_⟩
    ·dsimp only
     rw[hst]
     exact⟨by omega,Qn.of hszm,by dsimp only;have h9:=DS (aI vs k).2 (aY fr (vs.take k) p).2.2;omega,by dsimp only;rw[List.length_append,List.length_singleton];omega⟩
    dsimp only
    rw[hst];dsimp only
    exact(QS (j:=8) (k1:=5) (k2:=6) (us:=(aY fr (vs.take k) p).2.1) (y:=(aI vs k).1) (q:=(aM (aI vs k).2 [(aY fr (vs.take k) p).2.2])) rfl rfl rfl rfl rfl rfl).trans (cI h0 [0,1,2,8] _ _ (by decide) rfl ⟨rfl,rfl,rfl,congrArg (fun n=>some (FV.one (.sl 8 0 n))) (show((aY fr (vs.take k) p).2.1++[((aI vs k).1,(aM (aI vs k).2 [(aY fr (vs.take k) p).2.2]))]).length=(aY fr (vs.take k) p).2.1.length+1 by simp),rfl,rfl,rfl,trivial⟩ ⟨oe rfl rfl,aK (congrArg (fun l=>some (⟨102,5,dZ l⟩:Ob)) (by rw[Ws (x:=(aI vs k)) (by rw[←zN (by omega)]) hal,List.append_assoc])),aK rfl,aK rfl,rfl⟩)
   refine sk ?_;refine rl ?_;refine o1 ?_;refine WL.cast (t:=48) (u':=.int .i64 ((k+1:Nat):Int)) rfl (aC (by omega)) ?_
   refine o1 ?_;refine nl ?_;have hst:=(uZ (fr:=fr) p (by omega:k<vs.length)).trans (oO (s:=(aY fr (vs.take k) p)) (x:=(aI vs k)) (fun hc=>h3 hc.2))
   refine⟨(k+1,m),by dsimp only;omega,?_,?_⟩
   ·dsimp only
    rw[hst];exact⟨by omega,hm,by dsimp only;omega,by dsimp only;omega⟩
   dsimp only
   rw[hst];dsimp only
   exact(cI h0 [0,1,2,3] _ _ (by decide) rfl ⟨rfl,rfl,rfl,rfl,rfl,rfl,rfl,trivial⟩ ⟨oe rfl rfl,aK (congrArg (fun l=>some (⟨102,5,dZ l⟩:Ob)) (by rw[zN (k:=k) (by omega),List.append_assoc];rfl)),aK rfl,aK rfl,rfl⟩)
  (iterate 3 refine dM ?_);refine o1 ?_;refine nl ?_;refine gE rfl ?_;refine sk ?_;refine rl ?_;refine o1 ?_
  refine WL.cast (t:=48) (u':=.int .i64 ((k+1:Nat):Int)) rfl (aC (by omega)) ?_
  refine o1 ?_;refine nl ?_;have hst:=(uZ (fr:=fr) p (by omega:k<vs.length)).trans (oO (s:=(aY fr (vs.take k) p)) (x:=(aI vs k)) (fun hc=>h2 hc.1))
  refine⟨(k+1,m),by dsimp only;omega,?_,?_⟩
  ·dsimp only
   rw[hst];exact⟨by omega,hm,by dsimp only;omega,by dsimp only;omega⟩
  dsimp only
  rw[hst];dsimp only
  exact(cI h0 [0,1,2,3] _ _ (by decide) rfl ⟨rfl,rfl,rfl,rfl,rfl,rfl,rfl,trivial⟩ ⟨oe rfl rfl,aK (congrArg (fun l=>some (⟨102,5,dZ l⟩:Ob)) (by rw[zN (k:=k) (by omega),List.append_assoc];rfl)),aK rfl,aK rfl,rfl⟩)
 refine ex ?_;refine sq ?_;refine rl ?_;(iterate 3 refine o1 ?_);have hkk:vs.take k=vs:=List.take_of_length_le (by omega)
 have hU9:((aY fr (vs.take k) p).1++vs.drop k)=(aY fr vs p).1:=by rw[hkk,List.drop_of_length_le (by omega),List.append_nil]
 have hG9:(aY fr (vs.take k) p).2.1=(aY fr vs p).2.1:=by rw[hkk]
 have hul9:(aY fr vs p).1.length=vs.length:=Gp fr vs p
 refine WL.sub (iO (j:=0) (k:=1) (p:=0) (n:=vs.length) (trs:=(aY fr vs p).1.flatMap (cD false)) rfl rfl rfl (congrArg (fun l=>some (⟨102,5,dZ l⟩:Ob)) hU9) rfl (bZ _ _ (by rw[bH,hul9])) (by rw[bH,hul9]) rfl) ?_
 have hsw:=Bm (t0:=137) (rest:=[.v (.int .i64 last),.v (.bool put)]) (vs:=(aY fr vs p).1) (dl:=zM) (fst:=[]) (caps:=[]) OP (fun x hx=>JG (y:=x.1) (q:=x.2) (hzU x hx)) (by rw[hul9];exact hl)
 rw[show sR 102 (aY fr vs p).1=.s true 102 5 vs.length ((aY fr vs p).1.flatMap (cD false)) by rw[←hul9];rfl]at hsw
 refine cl 4 [0] hsw Ox ⟨oe rfl rfl,rfl⟩ ⟨rfl,rfl,rfl⟩ (ok:=[some ⟨137,0,[.t (sR 102 (dO zM (aY fr vs p).1)),tv (.int .i64 last),tv (.bool put)]⟩]) ⟨oe rfl rfl,rfl⟩ ?_
 refine nl ?_;refine sq ?_;refine rl ?_;refine o1 ?_;refine o1 ?_;refine nl ?_;refine rt ?_
 exact gG (lent':=[⟨137,0,[.t (sR 102 (dO zM (aY fr vs p).1)),tv (.int .i64 last),tv (.bool put)]⟩]) (.inl rfl) rfl (aX (.one (.sl (trs:=(aY fr (vs.take k) p).2.1.flatMap (cD true)) rfl rfl (bZ _ _ (bH true _)) (bH true _)))) (by decide) (by simp) ⟨⟨rfl,rfl⟩,trivial⟩ ⟨rfl,trivial⟩ ⟨rfl,trivial⟩ (fun h=>by cases h) ⟨rfl,by rw[hG9];rfl⟩
theorem Se {y b:Int}{q:Rat}:aD true Tryz.prog 104 [] [.agg ((cD false (y,q)).map .t),.one (.t (.p false 3 [.v (.int .i64 b)]))] (aN (.one (tv (.bool (decide (y<b)))))):=by
 refine cB Tryz.func104 rfl Tryz.ntmps104 rfl aA rfl fun N w c0 h0=>?_
 refine WP.sub (Gd (i:=1) rfl rfl) ?_;refine sq ?_;refine rl ?_;refine bx 0 ?_;refine o1 ?_;refine nl ?_;refine sq ?_;refine rl ?_;refine o1 ?_;refine ld ?_
 refine eB ([.v (.int .i64 b)]) rfl ?_;refine o1 ?_;refine o1 ?_;refine nl ?_;refine rt ?_;exact en (.inl rfl) rfl (aX (cN _)) (by decide) (fun _=>trivial) rfl
theorem JI {y b:Int}{q:Rat}:aD true Tryz.prog 107 [] [.agg ((cD false (y,q)).map .t),.one (.t (.p false 170 [.f 104 [] [.p false 3 [.v (.int .i64 b)]]]))] (aN (.one (tv (.bool (!decide (y<b)))))):=by
 refine cB Tryz.func107 rfl Tryz.ntmps107 rfl aA rfl fun N w c0 h0=>?_
 refine WP.sub (Gd (i:=1) rfl rfl) ?_;refine sq ?_;refine rl ?_;refine bx 0 ?_;refine o1 ?_;refine nl ?_;refine sq ?_;refine rl ?_
 refine eB ([.f 104 [] [.p false 3 [.v (.int .i64 b)]]]) rfl ?_;refine ld ?_
 refine ce 1 [.agg [tv (.int .i64 y),tv (.bool (aH q.num)),.t (sU false (dg 4294967296 q.num.natAbs)),tv (.bool false),.t (sU false (dg 4294967296 q.den))]] rfl (Se (y:=y) (q:=q) (b:=b)) BG ⟨rfl,rfl⟩ ?_
 refine o1 ?_;refine o1 ?_;refine nl ?_;refine rt ?_;exact en (.inl rfl) rfl (aX (cN _)) (by decide) (fun _=>trivial) rfl
theorem Wt {vs:List (Int×Rat)}{last b:Int}{put:Bool}(hl:vs.length≤1073741823) (hz:∀x∈vs,Sz 68719476736 x.2):aD false Tryz.prog 72 [⟨137,0,[.t (sR 102 vs),tv (.int .i64 last),tv (.bool put)]⟩] [.one (.pt 0 0),.one (tv (.int .i64 b))] (Rt [⟨137,0,[.t (sR 102 (dO (fun x:Int×Rat=>decide (x.1<b)) vs)),tv (.int .i64 last),tv (.bool put)]⟩] (.one (.t (sO 102 (dO (fun x:Int×Rat=> !decide (x.1<b)) vs))))):=by
 refine mI Tryz.func72 rfl Tryz.ntmps72 rfl aA rfl fun N M w c0 h0=>?_
 refine WP.sub (nN (j:=0) (key:=1) (p:=0) (e:=102) (z:=5) (n:=vs.length) (trs:=vs.flatMap (cD false)) rfl rfl rfl rfl rfl) ?_;refine sq ?_;refine rl ?_;refine bx 2 ?_
 refine WL.sub (Dj (i:=3) (k:=2) (t:=3) (l:=[.v (.int .i64 b)]) rfl rfl rfl (.one .sl)) ?_;refine o1 ?_;refine nl ?_;refine sq ?_;refine sq ?_;refine rl ?_;refine o1 ?_;refine o1 ?_
 refine nl ?_;refine gE rfl ?_;refine sk ?_;refine sq ?_;refine rl ?_;refine o1 ?_;refine al 3 ?_;refine st ?_
 refine WL.sub (Dj (i:=5) (k:=3) (t:=170) (l:=[.f 104 [] [.p false 3 [.v (.int .i64 b)]]]) rfl rfl rfl (.one .sl)) ?_;refine nl ?_;refine sq ?_;refine rl ?_;(iterate 4 refine o1 ?_)
 refine ld ?_;refine cl 4 [1] (Wp hl) OQ ⟨aK rfl,rfl⟩ ⟨rfl,rfl⟩ (ok:=[some ⟨102,5,dZ vs⟩]) ⟨aK rfl,rfl⟩ ?_;refine o1 ?_;refine bx 5 ?_;refine o1 ?_;refine nl ?_;refine sq ?_
 refine rl ?_;refine o1 ?_;refine o1 ?_
 refine WL.sub (iO (j:=5) (k:=4) (p:=0) (n:=vs.length) (trs:=vs.flatMap (cD false)) rfl rfl rfl rfl rfl (bZ _ _ (bH false _)) (bH false _) rfl) ?_
 refine cl 6 [5] (Bm (t0:=135) (rest:=[]) (dl:=(fun x:Int×Rat=> !decide (x.1<b))) (fst:=[]) (caps:=[.p false 170 [.f 104 [] [.p false 3 [.v (.int .i64 b)]]]]) OT (fun x _=>JI (y:=x.1) (q:=x.2)) hl) Ox ⟨oe rfl rfl,rfl⟩ ⟨rfl,rfl,rfl⟩ (ok:=[some ⟨135,0,[.t (sR 102 (dO (fun x:Int×Rat=> !decide (x.1<b)) vs))]⟩]) ⟨oe rfl rfl,rfl⟩ ?_
 refine nl ?_;refine sq ?_
 refine WP.sub (iO (j:=0) (k:=1) (p:=0) (n:=vs.length) (trs:=vs.flatMap (cD false)) rfl rfl rfl rfl rfl (bZ _ _ (bH false _)) (bH false _) rfl) ?_
 refine WP.sub (Gd (i:=5) rfl rfl) ?_;refine rd [5] (fun i=>[].contains i) mixed ?_
 refine dv 0 ?_;refine dv 1 ?_;refine dv 2 ?_;refine iB 3 ([.f 104 [] [.p false 3 [.v (.int .i64 b)]]]) rfl ?_
 refine Sd 4 6 [0] rfl (Bm (t0:=137) (rest:=[.v (.int .i64 last),.v (.bool put)]) (dl:=(fun x:Int×Rat=>decide (x.1<b))) (fst:=[]) (caps:=[.p false 3 [.v (.int .i64 b)]]) BG (fun x _=>Se (y:=x.1) (q:=x.2)) hl) Ox ⟨oe rfl rfl,rfl⟩ ⟨rfl,rfl,rfl⟩ (ok:=[some ⟨137,0,[.t (sR 102 (dO (fun x:Int×Rat=>decide (x.1<b)) vs)),tv (.int .i64 last),tv (.bool put)]⟩]) ⟨oe rfl rfl,rfl⟩ ⟨rfl,trivial⟩ ?_
 refine aQ ?_;refine sq ?_;refine rl ?_;refine o1 ?_
 refine iS 6 (Ry (vs:=(dO (fun x:Int×Rat=> !decide (x.1<b)) vs)) (rest:=[]) (fun x hx=>hz x (List.mem_filter.1 hx).1) (Nat.le_trans (List.length_filter_le _ _) hl)) IY ⟨uG rfl (.pe (trs:=[sR 102 (dO (fun x:Int×Rat=> !decide (x.1<b)) vs)]) rfl rfl rfl (by simp[rdTL,rH,sR,sV,wP])),rfl⟩ ?_
 refine o1 ?_;refine nl ?_;refine rt ?_
 exact gG (lent':=[⟨137,0,[.t (sR 102 (dO (fun x:Int×Rat=>decide (x.1<b)) vs)),tv (.int .i64 last),tv (.bool put)]⟩]) (.inl rfl) rfl (aX (.one (.sl (trs:=(dO (fun x:Int×Rat=> !decide (x.1<b)) vs).flatMap (cD true)) rfl rfl (bZ _ _ (bH true _)) (bH true _)))) (by decide) (by simp) ⟨⟨rfl,rfl⟩,trivial⟩ ⟨rfl,trivial⟩ ⟨rfl,trivial⟩ (fun h=>by cases h) ⟨rfl,rfl⟩
theorem OU {vs:List (Int×Rat)}{last y:Int}{put:Bool}{a:Fr4}{q:Rat}(ha:Qn a q) (hl:vs.length≤1073741822):aD false Tryz.prog 71 [⟨137,0,[.t (sR 102 vs),tv (.int .i64 last),tv (.bool put)]⟩] [.one (.pt 0 0),.one (tv (.int .i64 y)),qF a] (Rt [⟨137,0,[.t (sR 102 (jG (dQ (bM a.s a.x a.t a.y) q y last put) q y vs)),tv (.int .i64 (vA (dQ (bM a.s a.x a.t a.y) q y last put) y last)),tv (.bool (vB (dQ (bM a.s a.x a.t a.y) q y last put) put))]⟩] (.one (tv (.int .i64 (dQ (bM a.s a.x a.t a.y) q y last put))))):=by
 refine mI Tryz.func71 rfl Tryz.ntmps71 rfl aA rfl fun N M w c0 h0=>?_
 refine WP.sub (nN (j:=0) (key:=1) (p:=0) (e:=102) (z:=5) (n:=vs.length) (trs:=vs.flatMap (cD false)) rfl rfl rfl rfl rfl) ?_;refine sq ?_;refine rl ?_;refine bx 2 ?_;refine o1 ?_
 refine nl ?_;refine sq ?_;refine bl ?_;refine sq ?_;refine rl ?_;(iterate 3 refine o1 ?_);refine nl ?_;refine gE rfl ?_;refine sq ?_;refine rl ?_;refine ld ?_
 refine ca (Gc ha.1) Wj ⟨aG rfl,rfl⟩ (.one (tv (.bool (bM a.s a.x a.t a.y)))) ?_;refine WL.splitb (t:=12) rfl (fun h1=>?_) (fun h1=>?_)
 ·refine o1 ?_;refine o1 ?_;refine ld ?_;refine ca (nL ha) uX ⟨aG rfl,rfl⟩ (.one (tv (.int .i64 q.num.sign))) ?_;(iterate 3 refine o1 ?_);refine nl ?_
  refine bN rfl (fun h2=>?_) (fun h2=>?_)
  ·refine sq ?_;refine rl ?_
   refine WL.sub (iO (j:=0) (k:=1) (p:=0) (n:=vs.length) (trs:=vs.flatMap (cD false)) rfl rfl rfl rfl rfl (bZ _ _ (bH false _)) (bH false _) rfl) ?_;refine o1 ?_
   refine nl ?_;refine rt ?_;have hpe:(dQ (bM a.s a.x a.t a.y) q y last put)=2:=by unfold dQ;rw[h1,decide_eq_true h2];rfl
   exact gG (lent':=[⟨137,0,[.t (sR 102 (jG (dQ (bM a.s a.x a.t a.y) q y last put) q y vs)),tv (.int .i64 (vA (dQ (bM a.s a.x a.t a.y) q y last put) y last)),tv (.bool (vB (dQ (bM a.s a.x a.t a.y) q y last put) put))]⟩]) (.inl rfl) rfl (aX (cN _)) (by decide) (fun _ h=>by cases h) ⟨⟨rfl,rfl⟩,trivial⟩ ⟨(by rw[hpe];rfl),trivial⟩ ⟨rfl,trivial⟩ (fun h=>by cases h) ⟨rfl,by rw[hpe]⟩
  refine sq ?_;refine rl ?_;(iterate 3 refine o1 ?_);refine ld ?_;refine o1 ?_;refine WL.splitb (t:=24) rfl (fun h3=>?_) (fun h3=>?_)
  ·(iterate 4 refine o1 ?_);refine ld ?_;(iterate 3 refine o1 ?_);refine nl ?_;refine bN rfl (fun h4=>?_) (fun h4=>?_)
   ·refine sq ?_;refine rl ?_
    refine WL.sub (iO (j:=0) (k:=1) (p:=0) (n:=vs.length) (trs:=vs.flatMap (cD false)) rfl rfl rfl rfl rfl (bZ _ _ (bH false _)) (bH false _) rfl) ?_
    refine o1 ?_;refine nl ?_;refine rt ?_;have hpe:(dQ (bM a.s a.x a.t a.y) q y last put)=4:=by unfold dQ;rw[h1,decide_eq_false h2,h3,decide_eq_true h4];rfl
    exact gG (lent':=[⟨137,0,[.t (sR 102 (jG (dQ (bM a.s a.x a.t a.y) q y last put) q y vs)),tv (.int .i64 (vA (dQ (bM a.s a.x a.t a.y) q y last put) y last)),tv (.bool (vB (dQ (bM a.s a.x a.t a.y) q y last put) put))]⟩]) (.inl rfl) rfl (aX (cN _)) (by decide) (fun _ h=>by cases h) ⟨⟨rfl,rfl⟩,trivial⟩ ⟨(by rw[hpe];rfl),trivial⟩ ⟨rfl,trivial⟩ (fun h=>by cases h) ⟨rfl,by rw[hpe]⟩
   refine sk ?_;refine sq ?_;refine rl ?_;(iterate 5 refine o1 ?_);refine st ?_;refine o1 ?_;refine o1 ?_;refine st ?_;refine nl ?_;refine sq ?_;refine sq ?_
   obtain rfl:=(ha.right h1).symm
   refine rl ?_;refine ld ?_;refine ca (nL ha) uX ⟨aG rfl,rfl⟩ (.one (tv (.int .i64 q.num.sign))) ?_;refine o1 ?_;refine nl ?_;refine bN rfl (fun h5=>?_) (fun h5=>?_)
   ·refine rd [0,2] (fun i=>[12,13,14,15].contains i) mixed ?_
    refine dv 0 ?_;refine dv 1 ?_;refine dv 2 ?_;refine dv 3 ?_;refine dv 4 ?_;refine aO 5 ?_;refine dv 6 ?_;refine aO 7 ?_;refine dv 8 ?_
    refine bD 9 rfl (wM (y:=y) ha) Eu ⟨aG rfl,rfl⟩ (.agg ((cD false (y,q)).map .t)) ?_;refine kV (key:=3) 10 (by kernel_rfl) rfl rfl aA rfl ⟨rfl,rfl,trivial⟩ ?_
    refine nQ (j:=4) (n:=vs.length) (l:=dZ vs) 11 rfl aA rfl rfl rfl (.sl rfl (kA _)) (.sl rfl rfl rfl) rfl rfl (by omega) (by omega) rfl ⟨rfl,rfl,trivial⟩ rfl (by kernel_rfl) rfl ?_
    refine eT 12 (by kernel_rfl) rfl rfl aA rfl (by trivial) ?_ (fun h=>by first | rfl | cases h)
    refine eT 13 (by kernel_rfl) rfl rfl aA rfl (by trivial) ?_ (fun h=>by first | rfl | cases h)
    refine eT 14 (by kernel_rfl) rfl rfl aA rfl (by trivial) ?_ (fun h=>by first | rfl | cases h)
    refine dst 15 ?_;refine aQ ?_;refine sq ?_;refine rl ?_
    refine WL.sub (iO (j:=0) (k:=4) (p:=0) (n:=vs.length+1) (trs:=(vs++[(y,q)]).flatMap (cD false)) rfl rfl rfl (congrArg (fun l=>some (⟨102,5,l⟩:Ob)) (Gq vs (y,q))) rfl (bZ _ _ (by rw[bH,List.length_append];rfl)) (by rw[bH,List.length_append];rfl) rfl) ?_
    refine o1 ?_;refine nl ?_;refine rt ?_
    have hpe:(dQ (bM (Fr4.of q).s (Fr4.of q).x (Fr4.of q).t (Fr4.of q).y) q y last put)=0:=by unfold dQ;rw[h1,decide_eq_false h2,h3,decide_eq_false h4];rfl
    have hpl:jG 0 q y vs=(vs++[(y,q)]):=by unfold jG;rw[decide_eq_true h5];rfl
    exact gG (lent':=[⟨137,0,[.t (sR 102 (jG (dQ (bM (Fr4.of q).s (Fr4.of q).x (Fr4.of q).t (Fr4.of q).y) q y last put) q y vs)),tv (.int .i64 (vA (dQ (bM (Fr4.of q).s (Fr4.of q).x (Fr4.of q).t (Fr4.of q).y) q y last put) y last)),tv (.bool (vB (dQ (bM (Fr4.of q).s (Fr4.of q).x (Fr4.of q).t (Fr4.of q).y) q y last put) put))]⟩]) (.inl rfl) rfl (aX (cN _)) (by decide) (fun _ h=>by cases h) ⟨⟨rfl,rfl⟩,trivial⟩ ⟨(by rw[hpe,hpl];rw[show sR 102 (vs++[(y,q)])=.s true 102 5 (vs.length+1) ((vs++[(y,q)]).flatMap (cD false)) by rw[sR,List.length_append];rfl];rfl),trivial⟩ ⟨rfl,trivial⟩ (fun h=>by cases h) ⟨rfl,by rw[hpe]⟩
   refine sk ?_;refine sq ?_;refine rl ?_
   refine WL.sub (iO (j:=0) (k:=1) (p:=0) (n:=vs.length) (trs:=vs.flatMap (cD false)) rfl rfl rfl rfl rfl (bZ _ _ (bH false _)) (bH false _) rfl) ?_
   refine o1 ?_;refine nl ?_;refine rt ?_
   have hpe:(dQ (bM (Fr4.of q).s (Fr4.of q).x (Fr4.of q).t (Fr4.of q).y) q y last put)=0:=by unfold dQ;rw[h1,decide_eq_false h2,h3,decide_eq_false h4];rfl
   have hpl:jG 0 q y vs=vs:=by unfold jG;rw[decide_eq_false h5];rfl
   exact gG (lent':=[⟨137,0,[.t (sR 102 (jG (dQ (bM (Fr4.of q).s (Fr4.of q).x (Fr4.of q).t (Fr4.of q).y) q y last put) q y vs)),tv (.int .i64 (vA (dQ (bM (Fr4.of q).s (Fr4.of q).x (Fr4.of q).t (Fr4.of q).y) q y last put) y last)),tv (.bool (vB (dQ (bM (Fr4.of q).s (Fr4.of q).x (Fr4.of q).t (Fr4.of q).y) q y last put) put))]⟩]) (.inl rfl) rfl (aX (cN _)) (by decide) (fun _ h=>by cases h) ⟨⟨rfl,rfl⟩,trivial⟩ ⟨(by rw[hpe,hpl];rfl),trivial⟩ ⟨rfl,trivial⟩ (fun h=>by cases h) ⟨rfl,by rw[hpe]⟩
  (iterate 6 refine dM ?_);refine o1 ?_;refine o1 ?_;refine nl ?_;refine gE rfl ?_;refine sk ?_;refine sq ?_;refine rl ?_;(iterate 5 refine o1 ?_);refine st ?_;refine o1 ?_
  refine o1 ?_;refine st ?_;refine nl ?_;refine sq ?_;refine sq ?_;obtain rfl:=(ha.right h1).symm
  refine rl ?_;refine ld ?_;refine ca (nL ha) uX ⟨aG rfl,rfl⟩ (.one (tv (.int .i64 q.num.sign))) ?_;refine o1 ?_;refine nl ?_;refine bN rfl (fun h6=>?_) (fun h6=>?_)
  ·refine rd [0,2] (fun i=>[12,13,14,15].contains i) mixed ?_
   refine dv 0 ?_;refine dv 1 ?_;refine dv 2 ?_;refine dv 3 ?_;refine dv 4 ?_;refine aO 5 ?_;refine dv 6 ?_;refine aO 7 ?_;refine dv 8 ?_
   refine bD 9 rfl (wM (y:=y) ha) Eu ⟨aG rfl,rfl⟩ (.agg ((cD false (y,q)).map .t)) ?_;refine kV (key:=3) 10 (by kernel_rfl) rfl rfl aA rfl ⟨rfl,rfl,trivial⟩ ?_
   refine nQ (j:=4) (n:=vs.length) (l:=dZ vs) 11 rfl aA rfl rfl rfl (.sl rfl (kA _)) (.sl rfl rfl rfl) rfl rfl (by omega) (by omega) rfl ⟨rfl,rfl,trivial⟩ rfl (by kernel_rfl) rfl ?_
   refine eT 12 (by kernel_rfl) rfl rfl aA rfl (by trivial) ?_ (fun h=>by first | rfl | cases h)
   refine eT 13 (by kernel_rfl) rfl rfl aA rfl (by trivial) ?_ (fun h=>by first | rfl | cases h)
   refine eT 14 (by kernel_rfl) rfl rfl aA rfl (by trivial) ?_ (fun h=>by first | rfl | cases h)
   refine dst 15 ?_;refine aQ ?_;refine sq ?_;refine rl ?_
   refine WL.sub (iO (j:=0) (k:=4) (p:=0) (n:=vs.length+1) (trs:=(vs++[(y,q)]).flatMap (cD false)) rfl rfl rfl (congrArg (fun l=>some (⟨102,5,l⟩:Ob)) (Gq vs (y,q))) rfl (bZ _ _ (by rw[bH,List.length_append];rfl)) (by rw[bH,List.length_append];rfl) rfl) ?_
   refine o1 ?_;refine nl ?_;refine rt ?_
   have hpe:(dQ (bM (Fr4.of q).s (Fr4.of q).x (Fr4.of q).t (Fr4.of q).y) q y last put)=0:=by unfold dQ;rw[h1,decide_eq_false h2,h3];rfl
   have hpl:jG 0 q y vs=(vs++[(y,q)]):=by unfold jG;rw[decide_eq_true h6];rfl
   exact gG (lent':=[⟨137,0,[.t (sR 102 (jG (dQ (bM (Fr4.of q).s (Fr4.of q).x (Fr4.of q).t (Fr4.of q).y) q y last put) q y vs)),tv (.int .i64 (vA (dQ (bM (Fr4.of q).s (Fr4.of q).x (Fr4.of q).t (Fr4.of q).y) q y last put) y last)),tv (.bool (vB (dQ (bM (Fr4.of q).s (Fr4.of q).x (Fr4.of q).t (Fr4.of q).y) q y last put) put))]⟩]) (.inl rfl) rfl (aX (cN _)) (by decide) (fun _ h=>by cases h) ⟨⟨rfl,rfl⟩,trivial⟩ ⟨(by rw[hpe,hpl];rw[show sR 102 (vs++[(y,q)])=.s true 102 5 (vs.length+1) ((vs++[(y,q)]).flatMap (cD false)) by rw[sR,List.length_append];rfl];rfl),trivial⟩ ⟨rfl,trivial⟩ (fun h=>by cases h) ⟨rfl,by rw[hpe]⟩
  refine sk ?_;refine sq ?_;refine rl ?_
  refine WL.sub (iO (j:=0) (k:=1) (p:=0) (n:=vs.length) (trs:=vs.flatMap (cD false)) rfl rfl rfl rfl rfl (bZ _ _ (bH false _)) (bH false _) rfl) ?_
  refine o1 ?_;refine nl ?_;refine rt ?_
  have hpe:(dQ (bM (Fr4.of q).s (Fr4.of q).x (Fr4.of q).t (Fr4.of q).y) q y last put)=0:=by unfold dQ;rw[h1,decide_eq_false h2,h3];rfl
  have hpl:jG 0 q y vs=vs:=by unfold jG;rw[decide_eq_false h6];rfl
  exact gG (lent':=[⟨137,0,[.t (sR 102 (jG (dQ (bM (Fr4.of q).s (Fr4.of q).x (Fr4.of q).t (Fr4.of q).y) q y last put) q y vs)),tv (.int .i64 (vA (dQ (bM (Fr4.of q).s (Fr4.of q).x (Fr4.of q).t (Fr4.of q).y) q y last put) y last)),tv (.bool (vB (dQ (bM (Fr4.of q).s (Fr4.of q).x (Fr4.of q).t (Fr4.of q).y) q y last put) put))]⟩]) (.inl rfl) rfl (aX (cN _)) (by decide) (fun _ h=>by cases h) ⟨⟨rfl,rfl⟩,trivial⟩ ⟨(by rw[hpe,hpl];rfl),trivial⟩ ⟨rfl,trivial⟩ (fun h=>by cases h) ⟨rfl,by rw[hpe]⟩
 refine o1 ?_;refine o1 ?_;(iterate 3 refine dM ?_);refine o1 ?_;refine o1 ?_;refine nl ?_;refine iL rfl ?_;refine sq ?_;refine rl ?_
 refine WL.sub (iO (j:=0) (k:=1) (p:=0) (n:=vs.length) (trs:=vs.flatMap (cD false)) rfl rfl rfl rfl rfl (bZ _ _ (bH false _)) (bH false _) rfl) ?_;refine o1 ?_
 refine nl ?_;refine rt ?_;have hpe:(dQ (bM a.s a.x a.t a.y) q y last put)=2:=by unfold dQ;rw[h1];rfl
 exact gG (lent':=[⟨137,0,[.t (sR 102 (jG (dQ (bM a.s a.x a.t a.y) q y last put) q y vs)),tv (.int .i64 (vA (dQ (bM a.s a.x a.t a.y) q y last put) y last)),tv (.bool (vB (dQ (bM a.s a.x a.t a.y) q y last put) put))]⟩]) (.inl rfl) rfl (aX (cN _)) (by decide) (fun _ h=>by cases h) ⟨⟨rfl,rfl⟩,trivial⟩ ⟨(by rw[hpe];rfl),trivial⟩ ⟨rfl,trivial⟩ (fun h=>by cases h) ⟨rfl,by rw[hpe]⟩
theorem Lh {xs:List Nat}(hx:xs.length≤1099511627776):aD true Tryz.prog 60 [] [.one (.t (sU false xs))] (aN (.one (.t (sU true xs)))):=by
 refine cB Tryz.func60 rfl Tryz.ntmps60 rfl aA rfl fun N w c0 h0=>?_
 refine sq ?_;refine rl ?_;refine o1 ?_;refine nl ?_;refine sq ?_;refine rl ?_;refine o1 ?_;refine nl ?_;refine sq ?_;refine rl ?_;refine o1 ?_;refine o1 ?_
 refine iV (j:=0) aA rfl rfl rfl rfl .nil .fz (JJ _) (Wu _) rfl (by omega) (by omega) ?_
 refine o1 ?_;refine nl ?_;refine rt ?_
 exact en (.inl rfl) rfl (aX (.one (.sl rfl rfl (by rw[Nat.zero_add,Nat.mul_one,List.nil_append,List.take_of_length_le (by simp[gP])]) (by simp[gP])))) (by decide) (fun _=>.inl ⟨rfl,eP xs⟩) (by simp[aN,sU])
theorem DT {a:Fr4}(ha:a.len 1099511627776):aD true Tryz.prog 59 [] [qF a] (aN (rO a)):=by
 refine cB Tryz.func59 rfl Tryz.ntmps59 rfl aA rfl fun N w c0 h0=>?_
 refine sq ?_;refine rl ?_;refine bx 0 ?_;refine al 1 ?_;refine nl ?_;refine sq ?_;refine rd [0,1] (fun i=>[17].contains i) mixed ?_
 refine dv 0 ?_;refine dv 1 ?_;refine aO 2 ?_;refine dv 3 ?_;refine dv 4 ?_;refine aO 5 ?_;refine dv 8 ?_;refine dv 9 ?_;refine aO 10 ?_;refine dv 11 ?_;refine dv 12 ?_;refine aO 13 ?_
 refine lG 2 6 rfl (Lh ha.1) JK ⟨a1 rfl,rfl⟩ ?_;refine df 7 ?_;refine lG 3 14 rfl (Lh ha.2) JK ⟨a1 rfl,rfl⟩ ?_;refine df 15 ?_;refine df 16 ?_;refine dst 17 ?_;refine aQ ?_
 refine rt ?_
 exact en (.inl rfl) rfl (aX (.agg (.cons (.id rfl) (.cons (.sl (trs:=aV a.x) rfl rfl (bR _) (bO _)) (.cons (.id rfl) (.cons (.sl (trs:=aV a.y) rfl rfl (bR _) (bO _)) .nil)))))) (by decide) (fun _=>vC a) rfl
theorem DU:aD false Tryz.prog 44 [] [] (aN (qF (.of 0))):=by
 refine cB Tryz.func44 rfl Tryz.ntmps44 rfl aA rfl fun N w c0 h0=>?_
 refine sq ?_;refine rl ?_;refine al 0 ?_;refine nl ?_;refine sq ?_;refine rl ?_;have hn1:=vD (n:=(0:Int)) (by omega) (by omega)
 refine ca (zJ (n:=(0:Int)) (by omega) (by omega)) Fz ⟨a1 rfl,rfl⟩ (kF ((0:Int))) ?_
 have hn2:=vD (n:=(1:Int)) (by omega) (by omega)
 refine ca (zJ (n:=(1:Int)) (by omega) (by omega)) Fz ⟨a1 rfl,rfl⟩ (kF ((1:Int))) ?_
 refine o1 ?_;refine st ?_;refine nl ?_;refine rt ?_
 exact en (.inl rfl) rfl (aX (.agg (.cons (.id rfl) (.cons (.id rfl) (.cons (.id rfl) (.cons (.id rfl) .nil)))))) (by decide) (fun h=>by cases h) (Bn (q:=0) rfl rfl)
theorem qG {a b:Zi}{k k':Int}(ha:Zn a k) (hb:Zn b k') (h0:k'≠0):aD false Tryz.prog 109 [] [gF a,gF b] (aN (.tup [kF (k.fdiv k'),kF (k.fmod k'),.one (tv (.int .i64 0))])):=by
 have h:=Re ha hb
 rwa[if_neg h0,if_neg h0,if_neg h0]at h
theorem JL {a b:Zi}{k k':Int}(ha:Zn a k) (hb:Zn b k'):aD false Tryz.prog 78 [] [gF a,gF b] (aN (.tup [qF (.of (Rat.divInt k k')),.one (tv (.int .i64 (if k'=0 then 20 else 0)))])):=by
 refine cB Tryz.func78 rfl Tryz.ntmps78 rfl aA rfl fun N w c0 h0=>?_
 have hkl:=ha.len
 have hkl':=hb.len
 refine sq ?_;refine rl ?_;refine bx 0 ?_;refine bx 1 ?_;refine al 2 ?_;refine o1 ?_;refine nl ?_;refine sq ?_;refine sq ?_;refine rl ?_;refine ld ?_
 refine ca (rD hb) Fy ⟨aG rfl,rfl⟩ (.one (tv (.int .i64 (k').sign))) ?_;refine o1 ?_;refine nl ?_;refine bN rfl (fun h1=>?_) (fun h1=>?_)
 ·refine sq ?_;refine rl ?_;refine ca (DU) RJ rfl (qF (.of 0)) ?_;refine st ?_;refine o1 ?_;refine nl ?_;refine rt ?_;have hk0:k'=0:=Int.sign_eq_zero_iff_zero.1 h1
  have hd0:Rat.divInt k k'=0:=by rw[hk0];simp
  exact en (.inl rfl) rfl (uE (.cons (.agg (.cons (.id rfl) (.cons (.id rfl) (.cons (.id rfl) (.cons (.id rfl) .nil))))) (.cons (cN _) .nil))) (by decide) (fun h=>by cases h) (by rw[if_pos hk0,hd0];rfl)
 refine sk ?_;refine sq ?_;refine sq ?_;have hk0:k'≠0:=fun h9=>h1 (by rw[h9];rfl)
 refine rl ?_;refine ld ?_;refine ca (rD hb) Fy ⟨aG rfl,rfl⟩ (.one (tv (.int .i64 (k').sign))) ?_;refine o1 ?_;refine nl ?_;refine bN rfl (fun h2=>?_) (fun h2=>?_)
 ·refine sq ?_;refine rl ?_;refine ld ?_;have hn3:=jO (k)
  refine ca (Gr ha) Ww ⟨aG rfl,rfl⟩ (kF (-k)) ?_;refine st ?_;refine nl ?_;refine rl ?_;refine ld ?_;have hn4:=jO (k')
  refine ca (Gr hb) Ww ⟨aG rfl,rfl⟩ (kF (-k')) ?_;refine st ?_;refine nl ?_;refine sq ?_;have hkn:k'<0:=Int.sign_neg_iff.1 h2
  refine rl ?_;refine ld ?_;refine ld ?_;have hn5:=Li (k:=-k) (k':=-k') (by omega)
  refine ca (Rc (Zn.of (k:=-k) (by omega)) (Zn.of (k:=-k') (by omega))) JM ⟨aG rfl,aG rfl,rfl⟩ (kF (((Int.gcd (-k) (-k'):Nat):Int))) ?_
  refine al 3 ?_;refine st ?_;refine nl ?_;refine sq ?_;refine rl ?_;refine ld ?_;refine ld ?_
  refine ca (qG (Zn.of (k:=-k) (by omega)) (Zn.of (k:=((Int.gcd (-k) (-k'):Nat):Int)) (by omega)) (zO (by omega))) Ex ⟨aG rfl,aG rfl,rfl⟩ (.tup [kF ((-k).fdiv ((Int.gcd (-k) (-k'):Nat):Int)),kF ((-k).fmod ((Int.gcd (-k) (-k'):Nat):Int)),.one (tv (.int .i64 0))]) ?_
  (iterate 4 refine o1 ?_);refine al 4 ?_;refine al 5 ?_;refine st ?_;refine st ?_;refine o1 ?_;refine nl ?_;refine sq ?_;refine rl ?_;refine ld ?_;refine ld ?_
  refine ca (qG (Zn.of (k:=-k') (by omega)) (Zn.of (k:=((Int.gcd (-k) (-k'):Nat):Int)) (by omega)) (zO (by omega))) Ex ⟨aG rfl,aG rfl,rfl⟩ (.tup [kF ((-k').fdiv ((Int.gcd (-k) (-k'):Nat):Int)),kF ((-k').fmod ((Int.gcd (-k) (-k'):Nat):Int)),.one (tv (.int .i64 0))]) ?_
  (iterate 4 refine o1 ?_);refine al 6 ?_;refine al 7 ?_;refine st ?_;refine st ?_;refine o1 ?_;refine nl ?_;refine sq ?_;refine rl ?_;refine ld ?_;refine ld ?_;refine o1 ?_
  refine st ?_;refine o1 ?_;refine nl ?_;refine rt ?_;obtain⟨hp9,hn9⟩:=Gs (a:=k) hk0
  obtain⟨e1,e2⟩:=hn9 hkn
  exact en (.inl rfl) rfl (uE (.cons (.agg (.cons (.id rfl) (.cons (.id rfl) (.cons (.id rfl) (.cons (.id rfl) .nil))))) (.cons (cN _) .nil))) (by decide) (fun h=>by cases h) (by rw[if_neg hk0];exact congrArg (fun f=>FV.tup [f,.one (tv (.int .i64 0))]) (Bn e1 e2))
 refine sk ?_;refine sq ?_;have hkp:0<k':=by have h9:=mt Int.sign_neg_iff.2 h2;omega
 refine rl ?_;refine ld ?_;refine ld ?_;have hn6:=Li (k:=k) (k':=k') (by omega)
 refine ca (Rc ha hb) JM ⟨aG rfl,aG rfl,rfl⟩ (kF (((Int.gcd k k':Nat):Int))) ?_;refine al 3 ?_;refine st ?_;refine nl ?_;refine sq ?_;refine rl ?_;refine ld ?_;refine ld ?_
 refine ca (qG ha (Zn.of (k:=((Int.gcd k k':Nat):Int)) (by omega)) (zO (by omega))) Ex ⟨aG rfl,aG rfl,rfl⟩ (.tup [kF ((k).fdiv ((Int.gcd k k':Nat):Int)),kF ((k).fmod ((Int.gcd k k':Nat):Int)),.one (tv (.int .i64 0))]) ?_
 (iterate 4 refine o1 ?_);refine al 4 ?_;refine al 5 ?_;refine st ?_;refine st ?_;refine o1 ?_;refine nl ?_;refine sq ?_;refine rl ?_;refine ld ?_;refine ld ?_
 refine ca (qG hb (Zn.of (k:=((Int.gcd k k':Nat):Int)) (by omega)) (zO (by omega))) Ex ⟨aG rfl,aG rfl,rfl⟩ (.tup [kF ((k').fdiv ((Int.gcd k k':Nat):Int)),kF ((k').fmod ((Int.gcd k k':Nat):Int)),.one (tv (.int .i64 0))]) ?_
 (iterate 4 refine o1 ?_);refine al 6 ?_;refine al 7 ?_;refine st ?_;refine st ?_;refine o1 ?_;refine nl ?_;refine sq ?_;refine rl ?_;refine ld ?_;refine ld ?_;refine o1 ?_
 refine st ?_;refine o1 ?_;refine nl ?_;refine rt ?_;obtain⟨hp9,hn9⟩:=Gs (a:=k) hk0
 obtain⟨e1,e2⟩:=hp9 hkp
 exact en (.inl rfl) rfl (uE (.cons (.agg (.cons (.id rfl) (.cons (.id rfl) (.cons (.id rfl) (.cons (.id rfl) .nil))))) (.cons (cN _) .nil))) (by decide) (fun h=>by cases h) (by rw[if_neg hk0];exact congrArg (fun f=>FV.tup [f,.one (tv (.int .i64 0))]) (Bn e1 e2))
theorem OV {n d:Int}(h1:-9223372036854775808≤n) (h2:n≤9223372036854775807) (h3:-9223372036854775808≤d) (h4:d≤9223372036854775807):aD false Tryz.prog 58 [] [.one (tv (.int .i64 n)),.one (tv (.int .i64 d))] (aN (.tup [qF (.of (Rat.divInt n d)),.one (tv (.int .i64 (if d=0 then 20 else 0)))])):=by
 refine cB Tryz.func58 rfl Tryz.ntmps58 rfl aA rfl fun N w c0 h0=>?_
 refine sq ?_;refine rl ?_;refine al 0 ?_;refine o1 ?_;refine nl ?_;refine sq ?_;refine rl ?_;refine o1 ?_;have hn1:=vD (n:=n) (by omega) (by omega)
 refine ca (zJ (n:=n) (by omega) (by omega)) Fz ⟨a1 rfl,rfl⟩ (kF (n)) ?_
 refine o1 ?_;have hn2:=vD (n:=d) (by omega) (by omega)
 refine ca (zJ (n:=d) (by omega) (by omega)) Fz ⟨a1 rfl,rfl⟩ (kF (d)) ?_
 refine ca (JL (Zn.of (k:=n) (by omega)) (Zn.of (k:=d) (by omega))) RK ⟨aG rfl,aG rfl,rfl⟩ (.tup [qF (.of (Rat.divInt (n) (d))),.one (tv (.int .i64 (if(d)=0 then 20 else 0)))]) ?_
 refine o1 ?_;refine o1 ?_;refine st ?_;refine o1 ?_;refine nl ?_;refine rt ?_
 exact en (.inl rfl) rfl (uE (.cons (.agg (.cons (.id rfl) (.cons (.id rfl) (.cons (.id rfl) (.cons (.id rfl) .nil))))) (.cons (cN _) .nil))) (by decide) (fun h=>by cases h) rfl
theorem Sf {vs:List Vn}{y e:Int}{ra rb rc:Tr}(hf:(cK (bX y e) vs)<vs.length) (hl:vs.length≤1073741823):aD false Tryz.prog 41 [⟨95,0,[.t ra,.sl 1 0 vs.length,.t rb,.t rc]⟩,⟨64,18,(vs.flatMap (eF false)).map .t⟩] [.one (.pt 0 0),.one (tv (.int .i64 y)),.one (tv (.int .i64 e))] (Rt [⟨95,0,[.t ra,.sl 1 0 vs.length,.t rb,.t rc]⟩,⟨64,18,(vs.flatMap (eF false)).map .t⟩] (.one (.pt 1 (0+(cK (bX y e) vs)*18)))):=by
 refine mI Tryz.func41 rfl Tryz.ntmps41 rfl aA rfl fun N9 M9 w9 c0 h0=>?_
 refine sq ?_;refine rl ?_;refine bx 2 ?_;refine WL.sub (Dj (i:=4) (k:=2) (t:=3) (l:=[.v (.int .i64 y)]) rfl rfl rfl (.one .sl)) ?_;refine bx 3 ?_
 refine WL.sub (Dj (i:=5) (k:=3) (t:=3) (l:=[.v (.int .i64 e)]) rfl rfl rfl (.one .sl)) ?_;refine o1 ?_;refine nl ?_;refine sq ?_;refine rl ?_;(iterate 4 refine o1 ?_);refine ld ?_
 refine o1 ?_
 refine ca (AY (xs:=vs) (dl:=bX y e) (fd:=75) (fst:=[]) (caps:=[.p false 3 [.v (.int .i64 y)],.p false 3 [.v (.int .i64 e)]]) JN (fun x _=>Lb) hl) JO ⟨uG rfl (.sl rfl rfl (bZ _ _ rfl) (cG (eG false) vs)),a1 rfl,rfl⟩ (.one (tv (.int .i64 (nJ (bX y e) vs)))) ?_
 refine WL.cast (t:=14) (u':=.int .i64 (((cK (bX y e) vs):Nat):Int)) rfl (aC (show nJ (bX y e) vs=_ from if_neg (by omega))) ?_
 refine o1 ?_;refine nl ?_;refine sq ?_;refine rl ?_;(iterate 4 refine o1 ?_);refine ld ?_;(iterate 3 refine o1 ?_);refine nl ?_;refine rt ?_
 exact gG (lent':=[⟨95,0,[.t ra,.sl 1 0 vs.length,.t rb,.t rc]⟩,⟨64,18,(vs.flatMap (eF false)).map .t⟩]) (.inl rfl) rfl (aX (.one (.rf rfl rfl))) (by decide) (fun _ h=>by cases h) ⟨⟨rfl,rfl⟩,⟨rfl,rfl⟩,trivial⟩ ⟨rfl,rfl,trivial⟩ ⟨rfl,eJ _,trivial⟩ (fun h=>by cases h) ⟨rfl,rfl⟩
theorem zP {vs:List Vn}{y e:Int}{ra rb rc:Tr}{m:Nat}{l3:List Tr}(hf:(cK (bX y e) vs)<vs.length) (hl:vs.length≤1073741823):aD false Tryz.prog 41 [⟨95,0,[.t ra,.sl 1 0 vs.length,.t rb,.sl 2 0 m]⟩,⟨64,18,(vs.flatMap (eF false)).map .t⟩,⟨96,1,(l3:List Tr).map .t⟩] [.one (.pt 0 0),.one (tv (.int .i64 y)),.one (tv (.int .i64 e))] (Rt [⟨95,0,[.t ra,.sl 1 0 vs.length,.t rb,.sl 2 0 m]⟩,⟨64,18,(vs.flatMap (eF false)).map .t⟩,⟨96,1,(l3:List Tr).map .t⟩] (.one (.pt 1 (0+(cK (bX y e) vs)*18)))):=by
 refine mI Tryz.func41 rfl Tryz.ntmps41 rfl aA rfl fun N9 M9 w9 c0 h0=>?_
 refine sq ?_;refine rl ?_;refine bx 3 ?_;refine WL.sub (Dj (i:=4) (k:=3) (t:=3) (l:=[.v (.int .i64 y)]) rfl rfl rfl (.one .sl)) ?_;refine bx 4 ?_
 refine WL.sub (Dj (i:=5) (k:=4) (t:=3) (l:=[.v (.int .i64 e)]) rfl rfl rfl (.one .sl)) ?_;refine o1 ?_;refine nl ?_;refine sq ?_;refine rl ?_;(iterate 4 refine o1 ?_);refine ld ?_
 refine o1 ?_
 refine ca (AY (xs:=vs) (dl:=bX y e) (fd:=75) (fst:=[]) (caps:=[.p false 3 [.v (.int .i64 y)],.p false 3 [.v (.int .i64 e)]]) JN (fun x _=>Lb) hl) JO ⟨uG rfl (.sl rfl rfl (bZ _ _ rfl) (cG (eG false) vs)),a1 rfl,rfl⟩ (.one (tv (.int .i64 (nJ (bX y e) vs)))) ?_
 refine WL.cast (t:=14) (u':=.int .i64 (((cK (bX y e) vs):Nat):Int)) rfl (aC (show nJ (bX y e) vs=_ from if_neg (by omega))) ?_
 refine o1 ?_;refine nl ?_;refine sq ?_;refine rl ?_;(iterate 4 refine o1 ?_);refine ld ?_;(iterate 3 refine o1 ?_);refine nl ?_;refine rt ?_
 exact gG (lent':=[⟨95,0,[.t ra,.sl 1 0 vs.length,.t rb,.sl 2 0 m]⟩,⟨64,18,(vs.flatMap (eF false)).map .t⟩,⟨96,1,(l3:List Tr).map .t⟩]) (.inl rfl) rfl (aX (.one (.rf rfl rfl))) (by decide) (fun _ h=>by cases h) ⟨⟨rfl,rfl⟩,⟨rfl,rfl⟩,⟨rfl,rfl⟩,trivial⟩ ⟨rfl,rfl,rfl,trivial⟩ ⟨rfl,eJ _,eJ _,trivial⟩ (fun h=>by cases h) ⟨rfl,rfl⟩
theorem Sg {ms:List Bool}{Bs bs:List Rat}{L Us:Rat}{e:Nat}{at9:Int}{ta tb tc td:Tr}(he:e<Bs.length) (heb:e<bs.length) (hB3:Sz 1000 (dW Bs e)) (hY3:Sz 1000 (dW bs (e))) (hL3:Sz 1000 L) (hU3:Sz 1000 Us) (hlb:bs.length≤1073741823) (hlB:Bs.length≤1073741823):aD false Tryz.prog 130 [⟨165,0,[.t (gQ ms),.t (sQ false (Bs.map Fr4.of))]++((Fr4.of L).tr false).map .t++((Fr4.of Us).tr false).map .t++[.sl 1 0 bs.length,.fn 99 [] [.pt 2 0,.pt 3 0]]⟩,⟨48,4,(bs.flatMap qt).map .t⟩,⟨92,0,[.pt 4 0]⟩,⟨3,0,[tv (.int .i64 at9)]⟩,⟨95,0,[.t ta,.t tb,.t tc,.t td]⟩] [.one (.pt 0 0),.one (tv (.int .i64 ((e:Nat):Int)))] (Rt [⟨165,0,[.t (gQ ms),.t (sQ false (Bs.map Fr4.of))]++((Fr4.of L).tr false).map .t++((Fr4.of Us).tr false).map .t++[.sl 1 0 bs.length,.fn 99 [] [.pt 2 0,.pt 3 0]]⟩,⟨48,4,(bs.flatMap qt).map .t⟩,⟨92,0,[.pt 4 0]⟩,⟨3,0,[tv (.int .i64 at9)]⟩,⟨95,0,[.t ta,.t tb,.t tc,.t td]⟩] (qF (.of (aM ((dW Bs e)-(dW bs (e))) [(L-Us)])))):=by
 refine mI Tryz.func130 rfl Tryz.ntmps130 rfl aA rfl fun N9 M9 w9 c0 h0=>?_
 have hBl:(Bs.map Fr4.of).length=Bs.length:=List.length_map _
 have hs1:Sz 68719476736 ((dW Bs e)-(dW bs (e))):=(rG hB3 hY3).mono (by omega)
 have hs2:Sz 68719476736 (L-Us):=(rG hL3 hU3).mono (by omega)
 have hB:Sz 68719476736 (dW Bs e):=hB3.mono (by omega)
 have hY:Sz 68719476736 (dW bs (e)):=hY3.mono (by omega)
 have hL:Sz 68719476736 L:=hL3.mono (by omega)
 have hU:Sz 68719476736 Us:=hU3.mono (by omega)
 refine sq ?_;refine rl ?_;refine al 5 ?_;refine nl ?_;refine sq ?_;refine rd [0,1,2,3,4,5] (fun i=>[30].contains i) mixed ?_
 refine dv 0 ?_;refine dv 1 ?_;refine dv 2 ?_;refine dv 3 ?_;refine aO 4 ?_;refine dv 5 ?_;refine dv 6 ?_
 refine iB 7 ((Fr4.of (dW Bs e)).tr false) ((by rw[←yD he];exact rE (Bs.map Fr4.of) (k:=e) (by rw[List.length_map];exact he))) ?_
 refine dv 8 ?_;refine dv 9 ?_;refine dv 10 ?_;refine dv 11 ?_;refine aO 12 ?_;refine dv 13 ?_;refine dv 14 ?_
 refine mO 15 (cE (f:=qt) (z:=4) (o:=0) (us:=qt (dW bs (e))) uT (uU (by omega)) (Nat.le_of_ble_eq_true rfl) rfl) ?_
 refine dv 17 ?_;refine dv 18 ?_;refine dv 19 ?_;refine dv 20 ?_;refine aO 21 ?_;refine dv 22 ?_;refine dv 23 ?_;refine dv 24 ?_;refine dv 25 ?_;refine aO 26 ?_
 refine bD 16 rfl (Ew (Qn.of (p:=(dW Bs e)) hB) (Qn.of (p:=(dW bs (e))) hY)) Ow ⟨aG rfl,aG rfl,rfl⟩ (qF (.of ((dW Bs e)-(dW bs (e))))) ?_
 refine bD 27 rfl (Ew (Qn.of (p:=L) hL) (Qn.of (p:=Us) hU)) Ow ⟨aG rfl,aG rfl,rfl⟩ (qF (.of (L-Us))) ?_
 refine kV (key:=6) 28 (by kernel_rfl) rfl rfl aA rfl ⟨rfl,rfl,rfl,rfl,rfl,rfl,trivial⟩ ?_
 refine Di (i:=33) (k:=6) (t:=48) (t':=52) (z:=4) (n:=1) (l:=([Fr4.of (L-Us)]).flatMap (Fr4.tr false)) rfl rfl rfl rfl (.one .sl) (by rfl) (by rfl) ?_
 refine bD 29 rfl (nO (a:=.of (L-Us)) (Qn.of (hs2)) hs1) qE ⟨aG rfl,a1 rfl,rfl⟩ (qF (.of (aM ((dW Bs e)-(dW bs (e))) [(L-Us)]))) ?_;refine dst 30 ?_;refine aQ ?_
 refine rt ?_
 exact gG (lent':=[⟨165,0,[.t (gQ ms),.t (sQ false (Bs.map Fr4.of))]++((Fr4.of L).tr false).map .t++((Fr4.of Us).tr false).map .t++[.sl 1 0 bs.length,.fn 99 [] [.pt 2 0,.pt 3 0]]⟩,⟨48,4,(bs.flatMap qt).map .t⟩,⟨92,0,[.pt 4 0]⟩,⟨3,0,[tv (.int .i64 at9)]⟩,⟨95,0,[.t ta,.t tb,.t tc,.t td]⟩]) (.inl rfl) rfl (aX (.agg (.cons (.id rfl) (.cons (.id rfl) (.cons (.id rfl) (.cons (.id rfl) .nil)))))) (by decide) (fun _ h=>by cases h) ⟨⟨rfl,rfl⟩,⟨rfl,rfl⟩,⟨rfl,rfl⟩,⟨rfl,rfl⟩,⟨rfl,rfl⟩,trivial⟩ ⟨rfl,rfl,rfl,rfl,rfl,trivial⟩ ⟨rfl,eJ _,rfl,rfl,rfl,trivial⟩ (fun h=>by cases h) ⟨rfl,rfl⟩
def dH (ls:List (List (Int×Rat)×Int×Bool)):Tr:=.s true 96 1 ls.length (ls.map dN)
theorem wQ {ls:List (List (Int×Rat)×Int×Bool)}{e:Nat}(he:e<ls.length):((ls.map dN).map AV.t)[e]? =some (.t (dN (cT ls e))):=by
 rw[List.getElem?_map,List.getElem?_map,Df he]
 rfl
theorem zQ {l:List AV}{e:Nat}{a:AV}(he:e<l.length):(l.set e a)[0+e*1]? =some a:=by rw[show 0+e*1=e by omega];exact List.getElem?_set_self he
theorem jP {ls:List (List (Int×Rat)×Int×Bool)}:((ls.map dN).map AV.t).length=ls.length:=by simp
theorem Gt {ls:List (List (Int×Rat)×Int×Bool)}{e:Nat}{a:AV}{x:List (Int×Rat)×Int×Bool}:(((ls.map dN).map AV.t).set e a).set e (.t (dN x))=((ls.set e x).map dN).map .t:=by rw[List.set_set,List.map_set,List.map_set]
theorem DV (us:List Ur) (u:Ur):(us.flatMap (iN false)).map AV.t++(iN false u).map .t=((us++[u]).flatMap (iN false)).map .t:=by simp[List.flatMap_append]
theorem JP {vs:List (Int×Rat)}{last fr:Int}{put:Bool}{p:Rat}{n B:Nat}(hok:StOk vs n B) (hs:Sz 330 p) (hn:n≤50) (hB:B≤20000):aD false Tryz.prog 100 [⟨137,0,[.t (sR 102 vs),tv (.int .i64 last),tv (.bool put)]⟩] [.one (.pt 0 0),.one (tv (.int .i64 fr)),qF (.of p)] (Rt [⟨137,0,[.t (sR 102 ((aY fr vs p).1.filter (fun x=> !lS x.1 x.2))),tv (.int .i64 last),tv (.bool put)]⟩] (.one (.t (sO 102 (aY fr vs p).2.1)))):=by
 have h1:=nP.1 hs
 have h2:wt p=uY p+1:=rfl
 have h3:=hok.len
 have h4:=hok.size
 exact OO (fr:=fr) (Qn.of (p:=p) (hs.mono (M:=68719476736) (by omega))) (by omega) (by omega) (hok.zU (by omega))
theorem DW {vs:List Vn}{us:List Ur}{ls:List (List (Int×Rat)×Int×Bool)}{y e n B:Nat}{q m:Rat}{at9:Int}{ta:Tr}(he:e<ls.length) (hf:(cK (bX ((y:Nat):Int) ((e:Nat):Int)) vs)<vs.length) (hm3:Sz 320 m) (hu3:Sz 300 (cS vs (cK (bX ((y:Nat):Int) ((e:Nat):Int)) vs)).u) (hok:StOk (cT ls e).1 n B) (hn:n≤50) (hB:B≤20000) (hlv:vs.length≤1073741823) (hlu:us.length≤1073741823) (hll:ls.length≤1073741823):aD false Tryz.prog 99 [⟨92,0,[.pt 2 0]⟩,⟨3,0,[tv (.int .i64 at9)]⟩,⟨95,0,[.t ta,.t (cW true false vs),.t (cJ true false us),.t (dH ls)]⟩] [.agg ((aJ (⟨((y:Nat):Int),((e:Nat):Int),q⟩:Wv)).map .t),qF (.of m),.one (.pt 0 0),.one (.pt 1 0)] (Rt [⟨92,0,[.pt 2 0]⟩,⟨3,0,[tv (.int .i64 at9)]⟩,⟨95,0,[.t ta,.t (cW true false (vs.set (cK (bX ((y:Nat):Int) ((e:Nat):Int)) vs) (⟨(cS vs (cK (bX ((y:Nat):Int) ((e:Nat):Int)) vs)).y,(cS vs (cK (bX ((y:Nat):Int) ((e:Nat):Int)) vs)).e,(cS vs (cK (bX ((y:Nat):Int) ((e:Nat):Int)) vs)).l,(cS vs (cK (bX ((y:Nat):Int) ((e:Nat):Int)) vs)).u+m,(cS vs (cK (bX ((y:Nat):Int) ((e:Nat):Int)) vs)).x,(cS vs (cK (bX ((y:Nat):Int) ((e:Nat):Int)) vs)).c⟩:Vn))),.t (cJ true false (us++[(⟨((y:Nat):Int),((e:Nat):Int),at9,m⟩:Ur)])),.t (dH (ls.set e (((aY ((y:Nat):Int) (cT ls e).1 m).1.filter (fun x=> !lS x.1 x.2)),(cT ls e).2.1,(cT ls e).2.2)))]⟩] (.tup [])):=by
 refine Oy Tryz.func99 rfl Tryz.ntmps99 rfl aA rfl fun N9 M9 w9 c0 h0=>?_
 have hm:Sz 68719476736 m:=hm3.mono (by omega)
 have hu:Sz 68719476736 (cS vs (cK (bX ((y:Nat):Int) ((e:Nat):Int)) vs)).u:=hu3.mono (by omega)
 refine sq ?_;refine rl ?_;refine bx 3 ?_;refine bx 4 ?_;refine nl ?_;refine sq ?_
 refine WP.sub (nN (j:=2) (key:=5) (p:=3) (e:=96) (z:=1) (n:=ls.length) (trs:=ls.map dN) rfl rfl rfl rfl rfl) ?_
 refine WP.sub (Gu (j:=5) (key:=6) (p:=e) (e:=137) (trs:=[sR 102 (cT ls e).1,.v (.int .i64 (cT ls e).2.1),.v (.bool (cT ls e).2.2)]) rfl rfl (wQ he) rfl) ?_
 refine rd [0,1,2,3,4,5] (fun i=>[].contains i) mixed ?_
 refine aO 0 ?_;refine dv 1 ?_;refine dv 2 ?_;refine aO 3 ?_;refine dv 4 ?_;refine aO 5 ?_;refine WD.cast (t:=12) (u':=.int .i64 ((e:Nat):Int)) rfl (aC rfl) ?_;refine dv 6 ?_
 refine Oh 7 (l:=((ls.map dN).map AV.t).set e (.pt 6 0)) (v:=.pt 6 0) (zQ (by rw[jP];exact he)) ?_
 refine dv 8 ?_;refine aO 9 ?_;refine aO 10 ?_
 refine Sd 11 7 [6] rfl (JP (fr:=((y:Nat):Int)) (p:=m) hok (hm3.mono (by omega)) hn hB) OW ⟨oe rfl rfl,rfl⟩ ⟨rfl,rfl,rfl,rfl⟩ (ok:=[some ⟨137,0,[.t (sR 102 ((aY ((y:Nat):Int) (cT ls e).1 m).1.filter (fun x=> !lS x.1 x.2))),tv (.int .i64 (cT ls e).2.1),tv (.bool (cT ls e).2.2)]⟩]) ⟨oe rfl rfl,rfl⟩ ⟨rfl,rfl,rfl,rfl,rfl,rfl,trivial⟩ ?_
 refine aQ ?_;refine sq ?_
 refine WP.sub (Bo (j:=5) (k:=6) (p:=e) (e:=137) (trs:=[sR 102 ((aY ((y:Nat):Int) (cT ls e).1 m).1.filter (fun x=> !lS x.1 x.2)),.v (.int .i64 (cT ls e).2.1),.v (.bool (cT ls e).2.2)]) (l':=((ls.set e (((aY ((y:Nat):Int) (cT ls e).1 m).1.filter (fun x=> !lS x.1 x.2)),(cT ls e).2.1,(cT ls e).2.2)).map dN).map .t) rfl rfl rfl (List.getElem?_set_self (by rw[jP];exact he)) (Gt (x:=(((aY ((y:Nat):Int) (cT ls e).1 m).1.filter (fun x=> !lS x.1 x.2)),(cT ls e).2.1,(cT ls e).2.2)))) ?_
 refine WP.sub (iO (j:=2) (k:=5) (p:=3) (e:=96) (z:=1) (n:=ls.length) (trs:=(ls.set e (((aY ((y:Nat):Int) (cT ls e).1 m).1.filter (fun x=> !lS x.1 x.2)),(cT ls e).2.1,(cT ls e).2.2)).map dN) rfl rfl rfl rfl rfl (bZ _ _ (by simp)) (by simp) rfl) ?_
 refine WP.sub (nN (j:=2) (key:=8) (p:=2) (e:=58) (z:=7) (n:=us.length) (trs:=us.flatMap (iN false)) rfl rfl rfl rfl rfl) ?_
 refine WP.sub (cI h0 [0,1,2,3,4,8] [(2,.one (.pt 0 0)),(3,.one (.pt 1 0)),(4,.one (.pt 3 0)),(5,.one (.pt 4 0))] [⟨92,0,[.pt 2 0]⟩,⟨3,0,[tv (.int .i64 at9)]⟩,⟨95,0,[.t ta,.t (cW true false vs),.sl 5 0 us.length,.t (.s true 96 1 ls.length ((ls.set e (((aY ((y:Nat):Int) (cT ls e).1 m).1.filter (fun x=> !lS x.1 x.2)),(cT ls e).2.1,(cT ls e).2.2)).map dN))]⟩,⟨64,0,(aJ (⟨((y:Nat):Int),((e:Nat):Int),q⟩:Wv)).map .t⟩,⟨48,0,((Fr4.of m).tr false).map .t⟩,⟨58,7,(us.flatMap (iN false)).map .t⟩] (by decide) rfl ⟨rfl,rfl,rfl,rfl,trivial⟩ ⟨oe rfl rfl,oe rfl rfl,oe rfl rfl,aK rfl,aK rfl,aK rfl,rfl⟩) ?_
 refine rd [0,1,2,3,4] (fun i=>[18].contains i) mixed ?_
 refine aO 0 ?_;refine aO 1 ?_;refine dv 2 ?_;refine dv 3 ?_;refine dv 4 ?_;refine aO 5 ?_;refine dv 6 ?_;refine aO 7 ?_;refine dv 8 ?_;refine aO 9 ?_;refine aO 10 ?_;refine aO 11 ?_
 refine dv 12 ?_;refine kV (key:=6) 13 (by kernel_rfl) rfl rfl aA rfl ⟨rfl,rfl,rfl,rfl,rfl,trivial⟩ ?_
 refine nQ (j:=7) (n:=us.length) (l:=(us.flatMap (iN false)).map .t) 14 rfl aA rfl rfl rfl (.sl rfl (by rw[List.length_map,cG (fE false)])) (.sl rfl rfl rfl) rfl rfl (by omega) (by omega) rfl ⟨rfl,rfl,rfl,rfl,rfl,trivial⟩ rfl (by kernel_rfl) rfl ?_
 refine eT 15 (by kernel_rfl) rfl rfl aA rfl (by trivial) ?_ (fun h=>by first | rfl | cases h)
 refine eT 16 (by kernel_rfl) rfl rfl aA rfl (by trivial) ?_ (fun h=>by first | rfl | cases h)
 refine df 17 ?_;refine dst 18 ?_;refine aQ ?_;refine sq ?_
 refine WP.sub (iO (j:=2) (k:=7) (p:=2) (e:=58) (z:=7) (n:=us.length+1) (trs:=(us++[(⟨((y:Nat):Int),((e:Nat):Int),at9,m⟩:Ur)]).flatMap (iN false)) rfl rfl rfl (congrArg (fun l:List AV=>some (⟨58,7,l⟩:Ob)) (DV us (⟨((y:Nat):Int),((e:Nat):Int),at9,m⟩:Ur))) rfl (bZ _ _ (by rw[cG (fE false),List.length_append];rfl)) (by rw[cG (fE false),List.length_append];rfl) rfl) ?_
 refine WP.sub (nN (j:=2) (key:=8) (p:=1) (e:=64) (z:=18) (n:=vs.length) (trs:=vs.flatMap (eF false)) rfl rfl rfl rfl rfl) ?_
 refine WP.sub (cI h0 [0,1,2,3,4,8] [(2,.one (.pt 0 0)),(3,.one (.pt 1 0)),(4,.one (.pt 3 0)),(5,.one (.pt 4 0))] [⟨92,0,[.pt 2 0]⟩,⟨3,0,[tv (.int .i64 at9)]⟩,⟨95,0,[.t ta,.sl 5 0 vs.length,.t (.s true 58 7 (us.length+1) ((us++[(⟨((y:Nat):Int),((e:Nat):Int),at9,m⟩:Ur)]).flatMap (iN false))),.t (.s true 96 1 ls.length ((ls.set e (((aY ((y:Nat):Int) (cT ls e).1 m).1.filter (fun x=> !lS x.1 x.2)),(cT ls e).2.1,(cT ls e).2.2)).map dN))]⟩,⟨64,0,(aJ (⟨((y:Nat):Int),((e:Nat):Int),q⟩:Wv)).map .t⟩,⟨48,0,((Fr4.of m).tr false).map .t⟩,⟨64,18,(vs.flatMap (eF false)).map .t⟩] (by decide) rfl ⟨rfl,rfl,rfl,rfl,trivial⟩ ⟨oe rfl rfl,oe rfl rfl,oe rfl rfl,aK rfl,aK rfl,aK rfl,rfl⟩) ?_
 refine rl ?_;refine ld ?_;refine o1 ?_;refine ld ?_;refine o1 ?_;refine ld ?_
 refine TZ [2,5] (Sf (vs:=vs) (y:=((y:Nat):Int)) (e:=((e:Nat):Int)) hf hlv) Wx ⟨oe rfl rfl,aK rfl,rfl⟩ ⟨rfl,rfl,rfl,rfl⟩ (ok:=[some ⟨95,0,[.t ta,.sl 5 0 vs.length,.t (.s true 58 7 (us.length+1) ((us++[(⟨((y:Nat):Int),((e:Nat):Int),at9,m⟩:Ur)]).flatMap (iN false))),.t (.s true 96 1 ls.length ((ls.set e (((aY ((y:Nat):Int) (cT ls e).1 m).1.filter (fun x=> !lS x.1 x.2)),(cT ls e).2.1,(cT ls e).2.2)).map dN))]⟩,some ⟨64,18,(vs.flatMap (eF false)).map .t⟩]) ⟨oe rfl rfl,aK rfl,rfl⟩ ?_
 refine o1 ?_;refine nl ?_;refine rd [0,1,2,3,4,5] (fun i=>[9].contains i) mixed ?_
 refine dv 0 ?_;refine dv 1 ?_;refine dv 2 ?_;refine dv 3 ?_
 refine mO 4 (cE (f:=(eF false)) (z:=18) (o:=6) (us:=(Fr4.of (cS vs (cK (bX ((y:Nat):Int) ((e:Nat):Int)) vs)).u).tr false) (eG false) (qB hf) (Nat.le_of_ble_eq_true rfl) rfl) ?_
 refine aO 5 ?_
 refine bD 6 rfl (zR (Qn.of (p:=(cS vs (cK (bX ((y:Nat):Int) ((e:Nat):Int)) vs)).u) hu) (Qn.of (p:=m) hm)) Gg ⟨aG rfl,aG rfl,rfl⟩ (qF (.of ((cS vs (cK (bX ((y:Nat):Int) ((e:Nat):Int)) vs)).u+m))) ?_
 refine eT 7 (by kernel_rfl) rfl rfl aA rfl (by trivial) ?_ (fun h=>by first | rfl | cases h)
 refine df 8 ?_
 refine lP 9 (dG (xs:=vs) (k:=(cK (bX ((y:Nat):Int) ((e:Nat):Int)) vs)) (x:=(cS vs (cK (bX ((y:Nat):Int) ((e:Nat):Int)) vs))) (f:=(eF false)) (z:=18) (o:=6) (x':=(⟨(cS vs (cK (bX ((y:Nat):Int) ((e:Nat):Int)) vs)).y,(cS vs (cK (bX ((y:Nat):Int) ((e:Nat):Int)) vs)).e,(cS vs (cK (bX ((y:Nat):Int) ((e:Nat):Int)) vs)).l,((cS vs (cK (bX ((y:Nat):Int) ((e:Nat):Int)) vs)).u+m),(cS vs (cK (bX ((y:Nat):Int) ((e:Nat):Int)) vs)).x,(cS vs (cK (bX ((y:Nat):Int) ((e:Nat):Int)) vs)).c⟩:Vn)) (us:=(Fr4.of ((cS vs (cK (bX ((y:Nat):Int) ((e:Nat):Int)) vs)).u+m)).tr false) (eG false) (qB hf) (Nat.le_of_ble_eq_true rfl) rfl) (eH (xs:=vs) (k:=(cK (bX ((y:Nat):Int) ((e:Nat):Int)) vs)) (f:=(eF false)) (z:=18) (o:=6) (us:=(Fr4.of ((cS vs (cK (bX ((y:Nat):Int) ((e:Nat):Int)) vs)).u+m)).tr false) (eG false) (by omega) (Nat.le_of_ble_eq_true rfl)) ?_
 refine aQ ?_
 refine BH (iO (j:=2) (k:=5) (p:=1) (e:=64) (z:=18) (n:=vs.length) (trs:=(vs.set (cK (bX ((y:Nat):Int) ((e:Nat):Int)) vs) (⟨(cS vs (cK (bX ((y:Nat):Int) ((e:Nat):Int)) vs)).y,(cS vs (cK (bX ((y:Nat):Int) ((e:Nat):Int)) vs)).e,(cS vs (cK (bX ((y:Nat):Int) ((e:Nat):Int)) vs)).l,(cS vs (cK (bX ((y:Nat):Int) ((e:Nat):Int)) vs)).u+m,(cS vs (cK (bX ((y:Nat):Int) ((e:Nat):Int)) vs)).x,(cS vs (cK (bX ((y:Nat):Int) ((e:Nat):Int)) vs)).c⟩:Vn)).flatMap (eF false)) rfl rfl rfl rfl rfl (bZ _ _ (by rw[cG (eG false),List.length_set])) (by rw[cG (eG false),List.length_set]) rfl) ?_
 exact Bp <| gG (lent':=[⟨92,0,[.pt 2 0]⟩,⟨3,0,[tv (.int .i64 at9)]⟩,⟨95,0,[.t ta,.t (cW true false (vs.set (cK (bX ((y:Nat):Int) ((e:Nat):Int)) vs) (⟨(cS vs (cK (bX ((y:Nat):Int) ((e:Nat):Int)) vs)).y,(cS vs (cK (bX ((y:Nat):Int) ((e:Nat):Int)) vs)).e,(cS vs (cK (bX ((y:Nat):Int) ((e:Nat):Int)) vs)).l,(cS vs (cK (bX ((y:Nat):Int) ((e:Nat):Int)) vs)).u+m,(cS vs (cK (bX ((y:Nat):Int) ((e:Nat):Int)) vs)).x,(cS vs (cK (bX ((y:Nat):Int) ((e:Nat):Int)) vs)).c⟩:Vn))),.t (cJ true false (us++[(⟨((y:Nat):Int),((e:Nat):Int),at9,m⟩:Ur)])),.t (dH (ls.set e (((aY ((y:Nat):Int) (cT ls e).1 m).1.filter (fun x=> !lS x.1 x.2)),(cT ls e).2.1,(cT ls e).2.2)))]⟩]) (.inr rfl) rfl pF (by decide) (fun _ h=>by cases h) ⟨⟨rfl,rfl⟩,⟨rfl,rfl⟩,⟨rfl,rfl⟩,trivial⟩ ⟨rfl,rfl,(by rw[cW,cJ,dH,List.length_set,List.length_set,List.length_append];rfl),trivial⟩ ⟨rfl,rfl,rfl,trivial⟩ (fun h=>by cases h) ⟨rfl,rfl⟩
def Rg.ms (R:Rg) (t:Nat):List Bool:=(List.range R.E).map (R.mem t)
def Rg.bs (R:Rg) (t:Nat):List Rat:=(List.range R.E).map (R.base t)
def Rg.by9 (R:Rg) (U:List Ur) (t:Nat):List Rat:=(List.range R.E).map fun(e:Nat)=>jI U t e
def Rg.lp (R:Rg) (e:Nat):Nat→Int×Bool
 | 0=>(0,false)
 | t+1=>bif R.isV t e then((t:Int),true)else R.lp e t
def Rg.own (R:Rg) (U:List Ur) (I:List Nat) (t:Nat):List (List (Int×Rat)×Int×Bool):=(List.range R.E).map fun e=>(R.wl U e I,(R.lp e t).1,(R.lp e t).2)
section
variable {R:Rg}{U:List Ur}{x c:Nat→Nat→Rat}{N y e e' t k:Nat}{m:Rat}{I:List Nat}
open Rg
theorem wR {α:Type}{f g:Nat→α}{E:Nat}(he:e<E) (h:∀z,z<E→z≠e→f z=g z):((List.range E).map f).set e (g e)=(List.range E).map g:=
 Ga List.nodup_range (by rw[List.getElem?_range he]) fun z hz hne=>h z (List.mem_range.1 hz) hne
theorem oP {α:Type}{f:Nat→α}{E:Nat}{d:α}(he:e<E):((List.range E).map f).getD e d=f e:=by simp[he]
theorem oR (he:e<R.E):dW (R.by9 U t) e=jI U t e:=oP he
theorem rI (he:e<R.E):dW (R.bs t) e=R.base t e:=oP he
theorem Bq (he:e<R.E):cT (R.own U I t) e=(R.wl U e I,(R.lp e t).1,(R.lp e t).2):=oP he
theorem zS (he:e<R.E):nX (R.ms t) e=R.mem t e:=oP he
theorem DX:(R.by9 U t).length=R.E:=by simp[Rg.by9]
theorem vE:(R.bs t).length=R.E:=by simp[Rg.bs]
theorem jF:(R.own U I t).length=R.E:=by simp[Rg.own]
theorem Si:(R.ms t).length=R.E:=by simp[Rg.ms]
theorem JQ (h:0<m){v:Int}:eW (us U v e t m) t=eW U t+m:=by rw[lQ h,Bl,if_pos rfl]
theorem JR (h:0<m){v:Int}:jI (us U v e t m) t e=jI U t e+m:=by rw[lQ h,wJ,if_pos ⟨rfl,rfl⟩]
theorem Sj (h:e'≠e){v:Int}:jI (us U v e t m) t e'=jI U t e':=by
 unfold Rg.us
 split
 ·rw[wJ,if_neg (by omega)]
 rfl
theorem JS (he:e<R.E) (hm:0<m){v:Int}:(R.by9 U t).set e (jI U t e+m)=R.by9 (us U v e t m) t:=by
 rw[←JR hm (v:=v)]
 exact wR (f:=fun(e:Nat)=>jI U t e) (g:=fun(e':Nat)=>jI (us U v e t m) t e') he fun z _ hne=>(Sj hne).symm
theorem JT (he:e<R.E) (hI:I.Pairwise (· < ·)) (h0:∀i∈I,0≤R.left U i e) (hy:y∈I) (hm:0<m) (hle:m≤R.left U y e):(R.own U I t).set e ((aY (y:Int) (R.wl U e I) m).1.filter (fun x=> !lS x.1 x.2),(R.lp e t).1,(R.lp e t).2)=R.own (us U y e t m) I t:=by
 rw[Lj (t:=t) hm hle h0 hI hy]
 exact wR (f:=fun e=>(R.wl U e I,(R.lp e t).1,(R.lp e t).2)) (g:=fun e'=>(R.wl (us U y e t m) e' I,(R.lp e' t).1,(R.lp e' t).2)) he fun z _ hne=>by
  have:R.wl U z I=R.wl (us U y e t m) z I:=yE fun j _=>(lT (fun h9=>hne h9.2.symm)).symm
  rw[this]
theorem OX {I:List Nat}(h:∀i∈I,Sz 300 (R.left U i e)):StOk (R.wl U e I) I.length (301*I.length):=by
 induction I with
 | nil=>exact⟨fun x hx=>(by cases hx),Nat.le_refl _,Nat.le_refl _⟩
 | cons i I ih=>
  obtain⟨h1,h2,h3⟩:=ih fun j hj=>h j (List.mem_cons_of_mem _ hj)
  by_cases hp:0<R.left U i e
  ·rw[iP hp]
   have h4:=nP.1 (h i (List.mem_cons_self ..))
   refine⟨fun x hx=>?_,by simp only[List.length_cons];omega,?_⟩
   ·rcases List.mem_cons.1 hx with rfl | hx
    ·exact hp
    exact h1 x hx
   simp only[List.map_cons,fX,List.sum_cons,List.length_cons,wt]at h3⊢
   omega
  rw[kP hp]
  exact⟨h1,by simp only[List.length_cons];omega,by simp only[List.length_cons];omega⟩
theorem Wy (h:(y,e)∈R.vl k) (hm:0<m){v:Vn}(hv:cS (R.vns U x c (R.vl k)) (cK (bX (y:Int) (e:Int)) (R.vns U x c (R.vl k)))=v):(R.vns U x c (R.vl k)).set (cK (bX (y:Int) (e:Int)) (R.vns U x c (R.vl k))) ⟨v.y,v.e,v.l,v.u+m,v.x,v.c⟩=R.vns (us U y e t m) x c (R.vl k):=by
 have h1:=wG (R:=R) (U:=U) (x:=x) (c:=c) h
 have h2:v=R.vn U x c (y,e):=by
  rw[←hv,cS,List.getD_eq_getElem?_getD,h1]
  rfl
 rw[h2]
 exact DK (p:=(y,e)) (pI k) h hm
theorem JU (h:(y,e)∈R.vl k):cS (R.vns U x c (R.vl k)) (cK (bX (y:Int) (e:Int)) (R.vns U x c (R.vl k)))=R.vn U x c (y,e):=by
 have h1:=wG (R:=R) (U:=U) (x:=x) (c:=c) h
 rw[cS,List.getD_eq_getElem?_getD,h1]
 rfl
theorem Lk {v e:Int}:(us U v e t m).length≤U.length+1:=by
 unfold Rg.us
 split <;> simp
end
theorem OY {R:Rg}{U:List Ur}{x c:Nat→Nat→Rat}{N y e t:Nat}{ta:Tr}(hOk:R.Ok N) (hI:R.Iv N U) (ht:t<N) (hp:(y,e)∈R.vl t) (hw:t≤y+R.f) (hlU:U.length≤1000000) (hlV:(R.vl t).length≤1000000):aD false Tryz.prog 102 [⟨165,0,[.t (gQ (R.ms t)),.t (sQ false ((R.bs t).map Fr4.of))]++((Fr4.of (R.lim t)).tr false).map .t++((Fr4.of (eW U t)).tr false).map .t++[.sl 1 0 (R.by9 U t).length,.fn 99 [] [.pt 2 0,.pt 3 0]]⟩,⟨48,4,((R.by9 U t).flatMap qt).map .t⟩,⟨92,0,[.pt 4 0]⟩,⟨3,0,[tv (.int .i64 ((t:Nat):Int))]⟩,⟨95,0,[.t ta,.t (cW true false (R.vns U x c (R.vl t))),.t (cJ true false U),.t (dH (R.own U (R.I t) t))]⟩] [.one (.pt 0 0),.agg ((aJ (R.wv U (y,e))).map .t)] (Rt [⟨165,0,[.t (gQ (R.ms t)),.t (sQ false ((R.bs t).map Fr4.of))]++((Fr4.of (R.lim t)).tr false).map .t++((Fr4.of (eW (Rg.us U y e t (aM (R.left U y e) [(R.room U e t)])) t)).tr false).map .t++[.sl 1 0 (R.by9 (Rg.us U y e t (aM (R.left U y e) [(R.room U e t)])) t).length,.fn 99 [] [.pt 2 0,.pt 3 0]]⟩,⟨48,4,((R.by9 (Rg.us U y e t (aM (R.left U y e) [(R.room U e t)])) t).flatMap qt).map .t⟩,⟨92,0,[.pt 4 0]⟩,⟨3,0,[tv (.int .i64 ((t:Nat):Int))]⟩,⟨95,0,[.t ta,.t (cW true false (R.vns (Rg.us U y e t (aM (R.left U y e) [(R.room U e t)])) x c (R.vl t))),.t (cJ true false (Rg.us U y e t (aM (R.left U y e) [(R.room U e t)]))),.t (dH (R.own (Rg.us U y e t (aM (R.left U y e) [(R.room U e t)])) (R.I t) t))]⟩] (.tup [])):=by
 refine mI Tryz.func102 rfl Tryz.ntmps102 rfl aA rfl fun N9 M9 w9 c0 h0=>?_
 have hv:=gH.1 hp
 have hve:e<R.E:=hv.2.1
 have hvy:y<N:=by have:=hv.1;dsimp only at this;omega
 have hbl:(R.bs t).length=R.E:=vE
 have hyl:(R.by9 U t).length=R.E:=DX
 have hE:=hOk.e
 have hsl3:=hI.sz_left hOk hvy hve
 have hsl:Sz 68719476736 (R.left U y e):=hsl3.mono (by omega)
 have hbb3:Sz 300 (jI U t e):=hI.sz_eIn hOk ht hve
 have hyy3:Sz 300 (eW U t):=hI.sz_yIn hOk ht
 have hsm3:Sz 310 (R.room U e t):=wO ((rG (hOk.base t e ht hve) hbb3).mono (by omega)) (fun q hq=>by rw[List.mem_singleton]at hq;rw[hq];exact(rG (hOk.lim t ht) hyy3).mono (by omega))
 have hsm:Sz 68719476736 (R.room U e t):=hsm3.mono (by omega)
 have hsn3:Sz 310 (aM (R.left U y e) [(R.room U e t)]):=wO (hsl3.mono (by omega)) (fun q hq=>by rw[List.mem_singleton]at hq;rw[hq];exact hsm3)
 have hsn:Sz 68719476736 (aM (R.left U y e) [(R.room U e t)]):=hsn3.mono (by omega)
 have hsy:Sz 68719476736 (eW U t):=hyy3.mono (by omega)
 have hsb:Sz 68719476736 (dW (R.by9 U t) (e)):=by rw[oR hve];exact hbb3.mono (by omega)
 refine sq ?_;refine rl ?_;refine bx 5 ?_;refine nl ?_
 refine md (γ:=Unit) (fun _=>cC [(0,.one (.pt 0 0)),(3,.one (.pt 5 0)),(4,.one (.pt 6 0))]) (fun _=>([⟨165,0,[.t (gQ (R.ms t)),.t (sQ false ((R.bs t).map Fr4.of)),tv (.bool (aH (R.lim t).num)),.t (sU false (dg 4294967296 (R.lim t).num.natAbs)),tv (.bool false),.t (sU false (dg 4294967296 (R.lim t).den)),tv (.bool (aH (eW U t).num)),.t (sU false (dg 4294967296 (eW U t).num.natAbs)),tv (.bool false),.t (sU false (dg 4294967296 (eW U t).den)),.sl 1 0 ((R.by9 U t).length),.fn 99 [] [.pt 2 0,.pt 3 0]]⟩,⟨48,4,((R.by9 U t).flatMap qt).map .t⟩,⟨92,0,[.pt 4 0]⟩,⟨3,0,[tv (.int .i64 ((t:Nat):Int))]⟩,⟨95,0,[.t (ta),.t ((cW true false (R.vns U x c (R.vl t)))),.t ((cJ true false U)),.t ((dH (R.own U (R.I t) t)))]⟩,⟨64,0,(aJ (R.wv U (y,e))).map .t⟩,⟨48,0,((Fr4.of (aM (R.left U y e) [(R.room U e t)])).tr false).map .t⟩]:List Ob).map some) (fun _=>True) ?_ fun _ _=>?_
 ·refine rd [5] (fun i=>[9].contains i) mixed ?_
  refine dv 0 ?_;refine aO 1 ?_;refine dv 2 ?_;refine dv 3 ?_;refine aO 4 ?_;refine WD.cast (t:=9) (u':=.int .i64 ((e:Nat):Int)) rfl (aC rfl) ?_
  refine WO.two (i:=5) (j:=8) (by kernel_rfl) ?_ ?_
  ·have hmost:=Sg (ms:=R.ms t) (Bs:=R.bs t) (bs:=R.by9 U t) (L:=R.lim t) (Us:=eW U t) (e:=e) (at9:=((t:Nat):Int)) (ta:=ta) (tb:=(cW true false (R.vns U x c (R.vl t)))) (tc:=(cJ true false U)) (td:=(dH (R.own U (R.I t) t))) (by omega) (by omega) (by rw[rI hve];exact(hOk.base t e ht hve).mono (by omega)) (by rw[oR hve];exact hbb3.mono (by omega)) ((hOk.lim t ht).mono (by omega)) (hyy3.mono (by omega)) (by omega) (by omega)
   rw[rI hve,oR hve]at hmost
   refine JH 5 6 [0,1,2,3,4] rfl hmost BI ⟨oe rfl rfl,aK rfl,oe rfl rfl,oe rfl rfl,oe rfl rfl,rfl⟩ ⟨rfl,rfl,rfl⟩ (ok:=[some ⟨165,0,[.t (gQ (R.ms t)),.t (sQ false ((R.bs t).map Fr4.of))]++((Fr4.of (R.lim t)).tr false).map .t++((Fr4.of (eW U t)).tr false).map .t++[.sl 1 0 (R.by9 U t).length,.fn 99 [] [.pt 2 0,.pt 3 0]]⟩,some ⟨48,4,((R.by9 U t).flatMap qt).map .t⟩,some ⟨92,0,[.pt 4 0]⟩,some ⟨3,0,[tv (.int .i64 ((t:Nat):Int))]⟩,some ⟨95,0,[.t ta,.t (cW true false (R.vns U x c (R.vl t))),.t (cJ true false U),.t (dH (R.own U (R.I t) t))]⟩]) ⟨oe rfl rfl,aK rfl,oe rfl rfl,oe rfl rfl,oe rfl rfl,rfl⟩ ⟨rfl,trivial⟩ ?_
   refine WO.two (i:=6) (j:=8) (by kernel_rfl) ?_ ?_
   ·refine JE (key:=6) 6 rfl rfl ⟨rfl,trivial⟩ ?_
    refine Di (i:=11) (k:=6) (t:=48) (t':=52) (z:=4) (n:=1) (l:=([Fr4.of (R.room U e t)]).flatMap (Fr4.tr false)) rfl rfl rfl rfl (.one .sl) (by rfl) (by rfl) ?_
    refine WO.two (i:=7) (j:=8) (by kernel_rfl) ?_ ?_
    ·refine eV 7 rfl (nO (a:=.of (R.room U e t)) (Qn.of hsm) hsl) qE ⟨aG rfl,a1 rfl,rfl⟩ (qF (.of (aM (R.left U y e) [(R.room U e t)]))) ?_
     refine gB (key:=7) 8 (by kernel_rfl) rfl rfl aA rfl ⟨rfl,trivial⟩ ?_
     refine dst 9 ?_;refine aQ ?_
     exact⟨(),trivial,cI h0 [0,1,2,3,4,5,7] _ _ (by decide) rfl ⟨rfl,rfl,rfl,trivial⟩ ⟨oe rfl rfl,aK rfl,oe rfl rfl,oe rfl rfl,oe rfl rfl,aK rfl,oe rfl rfl,rfl⟩⟩
    refine cL (key:=7) 8 rfl rfl aA rfl ⟨rfl,trivial⟩ ?_
    refine bD 7 rfl (nO (a:=.of (R.room U e t)) (Qn.of hsm) hsl) qE ⟨aG rfl,a1 rfl,rfl⟩ (qF (.of (aM (R.left U y e) [(R.room U e t)]))) ?_;refine dst 9 ?_;refine aQ ?_
    exact⟨(),trivial,cI h0 [0,1,2,3,4,5,7] _ _ (by decide) rfl ⟨rfl,rfl,rfl,trivial⟩ ⟨oe rfl rfl,aK rfl,oe rfl rfl,oe rfl rfl,oe rfl rfl,aK rfl,oe rfl rfl,rfl⟩⟩
   refine cL (key:=6) 8 rfl rfl aA rfl ⟨rfl,trivial⟩ ?_;refine kV (key:=7) 6 (by kernel_rfl) rfl rfl aA rfl ⟨rfl,trivial⟩ ?_
   refine Di (i:=11) (k:=7) (t:=48) (t':=52) (z:=4) (n:=1) (l:=([Fr4.of (R.room U e t)]).flatMap (Fr4.tr false)) rfl rfl rfl rfl (.one .sl) (by rfl) (by rfl) ?_
   refine bD 7 rfl (nO (a:=.of (R.room U e t)) (Qn.of hsm) hsl) qE ⟨aG rfl,a1 rfl,rfl⟩ (qF (.of (aM (R.left U y e) [(R.room U e t)]))) ?_;refine dst 9 ?_;refine aQ ?_
   exact⟨(),trivial,cI h0 [0,1,2,3,4,5,6] _ _ (by decide) rfl ⟨rfl,rfl,rfl,trivial⟩ ⟨oe rfl rfl,aK rfl,oe rfl rfl,oe rfl rfl,oe rfl rfl,aK rfl,oe rfl rfl,rfl⟩⟩
  refine cL (key:=6) 8 rfl rfl aA rfl ⟨rfl,trivial⟩ ?_
  have hmost:=Sg (ms:=R.ms t) (Bs:=R.bs t) (bs:=R.by9 U t) (L:=R.lim t) (Us:=eW U t) (e:=e) (at9:=((t:Nat):Int)) (ta:=ta) (tb:=(cW true false (R.vns U x c (R.vl t)))) (tc:=(cJ true false U)) (td:=(dH (R.own U (R.I t) t))) (by omega) (by omega) (by rw[rI hve];exact(hOk.base t e ht hve).mono (by omega)) (by rw[oR hve];exact hbb3.mono (by omega)) ((hOk.lim t ht).mono (by omega)) (hyy3.mono (by omega)) (by omega) (by omega)
  rw[rI hve,oR hve]at hmost
  refine Sd 5 7 [0,1,2,3,4] rfl hmost BI ⟨oe rfl rfl,aK rfl,oe rfl rfl,oe rfl rfl,oe rfl rfl,rfl⟩ ⟨rfl,rfl,rfl⟩ (ok:=[some ⟨165,0,[.t (gQ (R.ms t)),.t (sQ false ((R.bs t).map Fr4.of))]++((Fr4.of (R.lim t)).tr false).map .t++((Fr4.of (eW U t)).tr false).map .t++[.sl 1 0 (R.by9 U t).length,.fn 99 [] [.pt 2 0,.pt 3 0]]⟩,some ⟨48,4,((R.by9 U t).flatMap qt).map .t⟩,some ⟨92,0,[.pt 4 0]⟩,some ⟨3,0,[tv (.int .i64 ((t:Nat):Int))]⟩,some ⟨95,0,[.t ta,.t (cW true false (R.vns U x c (R.vl t))),.t (cJ true false U),.t (dH (R.own U (R.I t) t))]⟩]) ⟨oe rfl rfl,aK rfl,oe rfl rfl,oe rfl rfl,oe rfl rfl,rfl⟩ ⟨rfl,trivial⟩ ?_
  refine kV (key:=7) 6 (by kernel_rfl) rfl rfl aA rfl ⟨rfl,trivial⟩ ?_
  refine Di (i:=11) (k:=7) (t:=48) (t':=52) (z:=4) (n:=1) (l:=([Fr4.of (R.room U e t)]).flatMap (Fr4.tr false)) rfl rfl rfl rfl (.one .sl) (by rfl) (by rfl) ?_
  refine bD 7 rfl (nO (a:=.of (R.room U e t)) (Qn.of hsm) hsl) qE ⟨aG rfl,a1 rfl,rfl⟩ (qF (.of (aM (R.left U y e) [(R.room U e t)]))) ?_;refine dst 9 ?_;refine aQ ?_
  exact⟨(),trivial,cI h0 [0,1,2,3,4,5,6] _ _ (by decide) rfl ⟨rfl,rfl,rfl,trivial⟩ ⟨oe rfl rfl,aK rfl,oe rfl rfl,oe rfl rfl,oe rfl rfl,aK rfl,oe rfl rfl,rfl⟩⟩
 refine sq ?_;refine sq ?_;refine rl ?_;refine ld ?_
 refine ca (nL (Qn.of (p:=(aM (R.left U y e) [(R.room U e t)])) hsn)) uX ⟨aG rfl,rfl⟩ (.one (tv (.int .i64 (aM (R.left U y e) [(R.room U e t)]).num.sign))) ?_;refine o1 ?_;refine nl ?_
 refine bN rfl (fun h1=>?_) (fun h1=>?_)
 ·refine rt ?_;have hno:(Rg.us U y e t (aM (R.left U y e) [(R.room U e t)]))=U:=wS (fun h9=>by have:=(kB _).2 h9;omega)
  exact gG (lent':=[⟨165,0,[.t (gQ (R.ms t)),.t (sQ false ((R.bs t).map Fr4.of))]++((Fr4.of (R.lim t)).tr false).map .t++((Fr4.of (eW (Rg.us U y e t (aM (R.left U y e) [(R.room U e t)])) t)).tr false).map .t++[.sl 1 0 (R.by9 (Rg.us U y e t (aM (R.left U y e) [(R.room U e t)])) t).length,.fn 99 [] [.pt 2 0,.pt 3 0]]⟩,⟨48,4,((R.by9 (Rg.us U y e t (aM (R.left U y e) [(R.room U e t)])) t).flatMap qt).map .t⟩,⟨92,0,[.pt 4 0]⟩,⟨3,0,[tv (.int .i64 ((t:Nat):Int))]⟩,⟨95,0,[.t ta,.t (cW true false (R.vns (Rg.us U y e t (aM (R.left U y e) [(R.room U e t)])) x c (R.vl t))),.t (cJ true false (Rg.us U y e t (aM (R.left U y e) [(R.room U e t)]))),.t (dH (R.own (Rg.us U y e t (aM (R.left U y e) [(R.room U e t)])) (R.I t) t))]⟩]) (.inl rfl) rfl pF (by decide) (fun _ h=>by cases h) ⟨⟨rfl,rfl⟩,⟨rfl,rfl⟩,⟨rfl,rfl⟩,⟨rfl,rfl⟩,⟨rfl,rfl⟩,trivial⟩ ⟨(by rw[hno];rfl),(by rw[hno];rfl),rfl,rfl,(by rw[hno];rfl),trivial⟩ ⟨rfl,eJ _,rfl,rfl,rfl,trivial⟩ (fun h=>by cases h) ⟨rfl,rfl⟩
 refine sk ?_;refine sq ?_;refine rd [0,2,3,4,5,6] (fun i=>[11].contains i) mixed ?_
 refine dv 0 ?_;refine dv 1 ?_;refine dv 2 ?_;refine dv 3 ?_;refine dv 4 ?_;refine aO 5 ?_;refine aO 6 ?_
 refine bD 7 rfl (zR (Qn.of (p:=(eW U t)) hsy) (Qn.of (p:=(aM (R.left U y e) [(R.room U e t)])) hsn)) Gg ⟨aG rfl,aG rfl,rfl⟩ (qF (.of ((eW U t)+(aM (R.left U y e) [(R.room U e t)])))) ?_
 refine eT 8 (by kernel_rfl) rfl rfl aA rfl (by trivial) ?_ (fun h=>by first | rfl | cases h)
 refine eT 9 (by kernel_rfl) rfl rfl aA rfl (by trivial) ?_ (fun h=>by first | rfl | cases h)
 refine df 10 ?_;refine dst 11 ?_;refine aQ ?_;refine sq ?_;refine rd [0,1,2,3,4,5,6] (fun i=>[19].contains i) mixed ?_
 refine dv 0 ?_;refine dv 1 ?_;refine dv 2 ?_;refine dv 3 ?_;refine aO 4 ?_;refine dv 5 ?_;refine aO 6 ?_;refine WD.cast (t:=33) (u':=.int .i64 ((e:Nat):Int)) rfl (aC rfl) ?_
 refine dv 7 ?_;refine dv 8 ?_;refine dv 9 ?_;refine dv 10 ?_;refine aO 11 ?_;refine dv 12 ?_;refine aO 13 ?_;refine WD.cast (t:=40) (u':=.int .i64 ((e:Nat):Int)) rfl (aC rfl) ?_
 refine dv 14 ?_;refine mO 15 (cE (f:=qt) (z:=4) (o:=0) (us:=qt (dW (R.by9 U t) (e))) uT (uU (by omega)) (Nat.le_of_ble_eq_true rfl) rfl) ?_
 refine aO 16 ?_
 refine bD 17 rfl (zR (Qn.of (p:=(dW (R.by9 U t) (e))) hsb) (Qn.of (p:=(aM (R.left U y e) [(R.room U e t)])) hsn)) Gg ⟨aG rfl,aG rfl,rfl⟩ (qF (.of ((dW (R.by9 U t) (e))+(aM (R.left U y e) [(R.room U e t)])))) ?_
 refine dv 18 ?_
 refine lP 19 (dG (xs:=(R.by9 U t)) (k:=e) (x:=(dW (R.by9 U t) (e))) (f:=qt) (z:=4) (o:=0) (x':=(((dW (R.by9 U t) (e))+(aM (R.left U y e) [(R.room U e t)])):Rat)) (us:=qt ((dW (R.by9 U t) (e))+(aM (R.left U y e) [(R.room U e t)]))) uT (uU (by omega)) (Nat.le_of_ble_eq_true rfl) rfl) (eH (xs:=(R.by9 U t)) (k:=e) (f:=qt) (z:=4) (o:=0) (us:=qt ((dW (R.by9 U t) (e))+(aM (R.left U y e) [(R.room U e t)]))) uT (by omega) (Nat.le_of_ble_eq_true rfl)) ?_
 refine aQ ?_;refine rd [0,5,6] (fun i=>[].contains i) mixed ?_
 refine dv 0 ?_;refine dv 1 ?_;refine dv 2 ?_;refine aO 3 ?_;refine aO 4 ?_;refine aO 5 ?_;have hpos:0<(aM (R.left U y e) [(R.room U e t)]):=by
  have h9:¬((aM (R.left U y e) [(R.room U e t)]).num.sign≤0):=h1
  exact(kB _).1 (by omega)
 have hIt:y∈R.I t:=jD.2 ⟨hv.1,hw⟩
 have hle:(aM (R.left U y e) [(R.room U e t)])≤R.left U y e:=pJ _ _
 have h0I:∀i∈R.I t,0≤R.left U i e:=fun i hi=>(hI.v i e (by have:=(jD.1 hi).1;omega) hve).1.1
 have hst:=OX (R:=R) (U:=U) (e:=e) (I:=R.I t) fun i hi=>hI.sz_left hOk (by have:=(jD.1 hi).1;omega) hve
 have hIl:=rJ (R:=R) (k:=t)
 have hnn:=hOk.n
 have hfx:=(uV (R:=R) (U:=U) (x:=x) (c:=c) hp).1
 have hgo:cT (R.own U (R.I t) t) e=_:=Bq hve
 have hgv:=JU (R:=R) (U:=U) (x:=x) (c:=c) hp
 have hnote:=DW (vs:=(R.vns U x c (R.vl t))) (us:=U) (ls:=R.own U (R.I t) t) (y:=y) (e:=e) (n:=(R.I t).length) (B:=301*(R.I t).length) (q:=R.left U y e) (m:=(aM (R.left U y e) [(R.room U e t)])) (at9:=((t:Nat):Int)) (ta:=ta) (by rw[jF];exact hve) (by rw[eL];exact hfx) (hsn3.mono (by omega)) (by rw[hgv];exact(hI.sz_vOf hOk hvy hve)) (by rw[hgo];exact hst) (by omega) (by omega) (by rw[eL];omega) (by omega) (by rw[jF];omega)
 rw[Wy hp hpos rfl,←lQ hpos,hgo,JT hve Oz h0I hIt hpos hle]at hnote
 refine RG 6 7 6 7 [2,3,4] rfl hnote RL rfl rfl rfl ⟨oe rfl rfl,oe rfl rfl,oe rfl rfl,rfl⟩ ⟨rfl,rfl,rfl,rfl,rfl⟩ (ok:=[some ⟨92,0,[.pt 4 0]⟩,some ⟨3,0,[tv (.int .i64 ((t:Nat):Int))]⟩,some ⟨95,0,[.t ta,.t (cW true false (R.vns (Rg.us U y e t (aM (R.left U y e) [(R.room U e t)])) x c (R.vl t))),.t (cJ true false (Rg.us U y e t (aM (R.left U y e) [(R.room U e t)]))),.t (dH (R.own (Rg.us U y e t (aM (R.left U y e) [(R.room U e t)])) (R.I t) t))]⟩]) ⟨oe rfl rfl,oe rfl rfl,oe rfl rfl,rfl⟩ ⟨rfl,rfl,rfl,trivial⟩ ?_
 refine aQ ?_;have hY:eW U t+(aM (R.left U y e) [(R.room U e t)])=eW (Rg.us U y e t (aM (R.left U y e) [(R.room U e t)])) t:=(JQ hpos).symm
 have hB:(R.by9 U t).set e (dW (R.by9 U t) e+(aM (R.left U y e) [(R.room U e t)]))=R.by9 (Rg.us U y e t (aM (R.left U y e) [(R.room U e t)])) t:=by rw[oR hve];exact JS hve hpos
 exact gG (lent':=[⟨165,0,[.t (gQ (R.ms t)),.t (sQ false ((R.bs t).map Fr4.of))]++((Fr4.of (R.lim t)).tr false).map .t++((Fr4.of (eW (Rg.us U y e t (aM (R.left U y e) [(R.room U e t)])) t)).tr false).map .t++[.sl 1 0 (R.by9 (Rg.us U y e t (aM (R.left U y e) [(R.room U e t)])) t).length,.fn 99 [] [.pt 2 0,.pt 3 0]]⟩,⟨48,4,((R.by9 (Rg.us U y e t (aM (R.left U y e) [(R.room U e t)])) t).flatMap qt).map .t⟩,⟨92,0,[.pt 4 0]⟩,⟨3,0,[tv (.int .i64 ((t:Nat):Int))]⟩,⟨95,0,[.t ta,.t (cW true false (R.vns (Rg.us U y e t (aM (R.left U y e) [(R.room U e t)])) x c (R.vl t))),.t (cJ true false (Rg.us U y e t (aM (R.left U y e) [(R.room U e t)]))),.t (dH (R.own (Rg.us U y e t (aM (R.left U y e) [(R.room U e t)])) (R.I t) t))]⟩]) (.inr rfl) rfl pF (by decide) (fun _ h=>by cases h) ⟨⟨rfl,rfl⟩,⟨rfl,rfl⟩,⟨rfl,rfl⟩,⟨rfl,rfl⟩,⟨rfl,rfl⟩,trivial⟩ ⟨(by rw[←hY,←hB,List.length_set];rfl),(by rw[←hB];rfl),rfl,rfl,rfl,trivial⟩ ⟨rfl,eJ _,rfl,rfl,rfl,trivial⟩ (fun h=>by cases h) ⟨rfl,rfl⟩
section
variable {x:Cx}{g:Nat→FV}{ob ob':List (Option Ob)}{Q:Post}{ops:Array Oper}{rest:List Oper}{d:Nat}{ty:TypeId}{pos:String}{af:Array Edge}{gd:Option (Nat×Bool)}{T:List (Nat×TI)}
theorem DZ {k t z n:Nat}(t':Nat){l l':List Tr}(ho:bP ob k=some ⟨t,z,l.map .t⟩) (hz:l.length=n*z) (hl:rdTL l=l'):Ey x g ob k ⟨t,z,l.map .t⟩ (.sl k 0 n) (.s false t' z n l'):=fun cs ts W hR m2 m3 u e2=>by
 have h:=zK t' ho hz cs ts W hR m2 m3 u e2
 simp only[AR]at h⊢
 have h9:=Gv _ _ h
 rw[rH,hl]at h9
 exact h9
theorem JV {i k t z n:Nat}(t':Nat){l l':List Tr}{fv fv':FV}(hi:Nat.blt i x.n=true) (hg:g i=fv) (ho:bP ob k=some ⟨t,z,l.map .t⟩) (hz:l.length=n*z) (hl:rdTL l=l') (hf:FzF (.sl k 0 n) (.s false t' z n l') fv fv'):Sub x g ob (aW g i fv') (ob.set k none):=wF hi hg ho hf (DZ t' ho hz hl)
variable {late:Nat→Bool}{K fr:List Nat}{on:Bool}{fuel:Nat}{listed:Array Bool}
end
def z4:List Tr:=[.v (.bool false),.v (.slice none 0 0),.v (.bool false),.v (.slice none 0 0)]
structure WhOk (Z vs:List (Int×Rat)) (last:Int) (put:Bool):Prop where
 pos:RM Z=vs
 low:∀z∈Z,0≤z.2
 ok:StOk vs Z.length (100*Z.length)
 asc:UC vs
 yrs:∀x∈vs,-9223372036854775808≤x.1
 last:∀x∈vs,put=true∧x.1≤last
section
variable {Z vs us vs':List (Int×Rat)}{last y:Int}{put rt:Bool}{p:Rat}
end
theorem Ll {ls:List (List (Int×Rat)×Int×Bool)}{e:Nat}{a:AV}{x:List (Int×Rat)×Int×Bool}(he:e<ls.length) (hx:cT ls e=x):(((ls.map dN).map AV.t).set e a).set e (.t (dN x))=(ls.map dN).map .t:=by
 subst hx
 rw[List.set_set]
 apply List.ext_getElem?
 intro i
 rw[List.getElem?_set]
 split
 ·rename_i h
  subst h
  rw[if_pos (by rw[jP];exact he)]
  exact(wQ he).symm
 rfl
theorem Wz (xs:List Wv) (x:Wv):(xs.flatMap aJ).map AV.t++(aJ x).map .t=((xs++[x]).flatMap aJ).map .t:=by simp[List.flatMap_append]
def Rg.wtk (R:Rg) (U:List Ur) (t e k:Nat):List Wv:=R.wt0 U t e++bif R.mem t e then((R.wl U e (R.I t)).take k).map (fun x=>(⟨x.1,e,x.2⟩:Wv))else []
section
variable {R:Rg}{U:List Ur}{t e k:Nat}
theorem Gw:R.wtk U t e 0=R.wt0 U t e:=by
 unfold Rg.wtk
 cases R.mem t e <;> simp
theorem EA (hm:R.mem t e=true) (hk:k<(R.wl U e (R.I t)).length):R.wtk U t e (k+1)=R.wtk U t e k++[⟨(aI (R.wl U e (R.I t)) k).1,e,(aI (R.wl U e (R.I t)) k).2⟩]:=by
 unfold Rg.wtk
 rw[hm,kN hk]
 simp
theorem JW (hm:R.mem t e=false):R.wtk U t e (k+1)=R.wtk U t e k:=by
 unfold Rg.wtk
 rw[hm]
 rfl
theorem EB (hk:(R.wl U e (R.I t)).length≤k):R.wtk U t e k=R.wt0 U t (e+1):=by
 unfold Rg.wtk Rg.wt0
 rw[List.range_succ,List.flatMap_append,List.take_of_length_le hk]
 simp
theorem Lm:(R.wt0 U t k).length≤k*t:=by
 unfold Rg.wt0
 induction k with
 | zero=>simp
 | succ k ih=>
  rw[List.range_succ,List.flatMap_append,List.length_append,Nat.succ_mul]
  have h1:=rK (R:=R) (U:=U) (e:=k) (I:=R.I t)
  have h2:=rJ (R:=R) (k:=t)
  have h3:(List.flatMap (fun e=>bif R.mem t e then(R.wl U e (R.I t)).map (fun x=>(⟨x.1,e,x.2⟩:Wv))else []) [k]).length≤t:=by
   rw[List.flatMap_cons,List.flatMap_nil,List.append_nil]
   cases R.mem t k
   ·simp
   show((R.wl U k (R.I t)).map _).length≤t
   rw[List.length_map]
   omega
  omega
end
theorem Sk {R:Rg}{U:List Ur}{N t:Nat}{ta tb tc:Tr}(hOk:R.Ok N) (hI:R.Iv N U) (ht:t<N):aD false Tryz.prog 101 [⟨95,0,[.t ta,.t tb,.t tc,.t (dH (R.own U (R.I t) t))]⟩] [.one (.pt 0 0),.one (.t (gQ (R.ms t)))] (Rt [⟨95,0,[.t ta,.t tb,.t tc,.t (dH (R.own U (R.I t) t))]⟩] (.one (.t (.s true 64 18 ((R.wt U t).map (R.wv U)).length (((R.wt U t).map (R.wv U)).flatMap aJ))))):=by
 refine Oy Tryz.func101 rfl Tryz.ntmps101 rfl aA rfl fun N9 M9 w9 c0 h0=>?_
 have hll:(R.own U (R.I t) t).length=R.E:=jF
 have hms:(R.ms t).length=R.E:=Si
 have hE:=hOk.e;have hN:=hOk.n
 refine sq ?_;refine rl ?_;refine o1 ?_;refine nl ?_;refine sq ?_;refine rl ?_;refine o1 ?_;refine nl ?_;refine sq ?_;refine sq ?_
 refine WP.sub (nN (j:=0) (key:=1) (p:=3) (e:=96) (z:=1) (n:=(R.own U (R.I t) t).length) (trs:=(R.own U (R.I t) t).map dN) rfl rfl rfl rfl rfl) ?_;refine rl ?_
 (iterate 3 refine o1 ?_);refine ld ?_;refine o1 ?_;refine o1 ?_;refine nl ?_;refine bl ?_
 refine lp (γ:=Nat) (fun s=>cC [(0,.one (.pt 0 0)),(1,.one (.t (gQ (R.ms t)))),(5,.one (.sl 2 0 ((R.wt0 U t s).length))),(13,.one (.sl 1 0 ((R.own U (R.I t) t).length))),(14,.one (tv (.int .i64 (((R.own U (R.I t) t).length:Nat):Int)))),(15,.one (tv (.int .i64 ((s:Nat):Int))))]) (fun s=>[(⟨95,0,[.t ta,.t tb,.t tc,.sl 1 0 (R.own U (R.I t) t).length]⟩:Ob),⟨96,1,((R.own U (R.I t) t).map dN).map .t⟩,⟨64,18,((R.wt0 U t s).flatMap aJ).map .t⟩].map some) (fun s=>s≤R.E) (fun s=>R.E-s) 0 (Nat.zero_le _) ((nr (i:=5) 2 64 18 rfl rfl rfl rfl).trans (cI h0 [0,1,2] _ _ (by decide) rfl ⟨rfl,rfl,rfl,rfl,rfl,rfl,trivial⟩ ⟨oe rfl rfl,aK rfl,aK rfl,rfl⟩)) ?_
 rintro e he;refine sq ?_;refine rl ?_;refine o1 ?_;refine nl ?_;refine sq ?_;refine bN rfl (fun h1=>?_) (fun h1=>?_)
 ·refine sk ?_;refine sq ?_;refine bl ?_;refine sq ?_;have hwl:=rK (R:=R) (U:=U) (e:=e) (I:=R.I t)
  have hIl:=rJ (R:=R) (k:=t)
  have hle9:cT (R.own U (R.I t) t) e=((R.wl U e (R.I t)),(R.lp e t).1,(R.lp e t).2):=Bq (by omega)
  have hzz:∀x∈(R.wl U e (R.I t)),Sz 68719476736 x.2:=fun x hx=>by obtain⟨i,hi,rfl,_⟩:=hG.1 hx;exact(hI.sz_left hOk (by have:=(jD.1 hi).1;omega) (by omega)).mono (by omega)
  refine WP.sub (Gu (j:=1) (key:=3) (p:=e) (e:=137) (trs:=[sR 102 (R.wl U e (R.I t)),.v (.int .i64 (R.lp e t).1),.v (.bool (R.lp e t).2)]) rfl rfl (by rw[wQ (by omega),hle9];rfl) rfl) ?_
  refine rl ?_;refine o1 ?_;refine o1 ?_;refine Kw (l:=(((R.own U (R.I t) t).map dN).map AV.t).set e (.pt 3 0)) (v:=.pt 3 0) (zQ (by rw[jP];omega)) ?_
  refine o1 ?_;refine o1 ?_;refine nl ?_;refine sq ?_;refine rl ?_;refine o1 ?_
  refine iS 4 (Rz (vs:=(R.wl U e (R.I t))) (rest:=[.v (.int .i64 (R.lp e t).1),.v (.bool (R.lp e t).2)]) hzz (by omega)) JX ⟨uG rfl (.pe (trs:=[sR 102 (R.wl U e (R.I t)),.v (.int .i64 (R.lp e t).1),.v (.bool (R.lp e t).2)]) rfl rfl rfl (by simp only[rdTL,rH,sR,sV,wP])),rfl⟩ ?_
  refine o1 ?_;refine o1 ?_;refine nl ?_;refine bl ?_;refine WP.sub (JV (i:=21) (k:=4) (n:=(R.wl U e (R.I t)).length) 102 rfl rfl rfl (bH true _) (wP true _) (.one .sl)) ?_
  refine WP.sub (Bo (j:=1) (k:=3) (p:=e) (e:=137) (trs:=[sR 102 (R.wl U e (R.I t)),.v (.int .i64 (R.lp e t).1),.v (.bool (R.lp e t).2)]) (l':=((R.own U (R.I t) t).map dN).map .t) rfl rfl rfl (List.getElem?_set_self (by rw[jP];omega)) (Ll (x:=((R.wl U e (R.I t)),(R.lp e t).1,(R.lp e t).2)) (by omega) hle9)) ?_
  refine lp (γ:=Nat) (fun s=>cC [(0,.one (.pt 0 0)),(1,.one (.t (gQ (R.ms t)))),(5,.one (.sl 2 0 ((R.wtk U t e s).length))),(6,.one (tv (.int .i64 ((e:Nat):Int)))),(13,.one (.sl 1 0 ((R.own U (R.I t) t).length))),(14,.one (tv (.int .i64 (((R.own U (R.I t) t).length:Nat):Int)))),(15,.one (tv (.int .i64 ((e:Nat):Int)))),(21,.one (.t (sV 102 false (R.wl U e (R.I t))))),(22,.one (tv (.int .i64 (((R.wl U e (R.I t)).length:Nat):Int)))),(23,.one (tv (.int .i64 ((s:Nat):Int))))]) (fun s=>[(⟨95,0,[.t ta,.t tb,.t tc,.sl 1 0 (R.own U (R.I t) t).length]⟩:Ob),⟨96,1,((R.own U (R.I t) t).map dN).map .t⟩,⟨64,18,((R.wtk U t e s).flatMap aJ).map .t⟩].map some) (fun s=>s≤(R.wl U e (R.I t)).length) (fun s=>(R.wl U e (R.I t)).length-s) 0 (Nat.zero_le _) (cI h0 [0,1,2] _ _ (by decide) rfl ⟨rfl,rfl,(by rw[Gw];rfl),rfl,rfl,rfl,rfl,rfl,rfl,rfl,trivial⟩ ⟨oe rfl rfl,aK rfl,aK (congrArg (fun l:List Wv=>some (⟨64,18,(l.flatMap aJ).map .t⟩:Ob)) Gw.symm),rfl⟩) ?_
  rintro k hk;refine sq ?_;refine rl ?_;refine o1 ?_;refine nl ?_;refine sq ?_;refine bN rfl (fun h2=>?_) (fun h2=>?_)
  ·refine sk ?_;refine sq ?_;refine bl ?_;refine sq ?_;refine rl ?_;refine o1 ?_;refine eB (cD false (aI (R.wl U e (R.I t)) (k))) (rF false (by omega)) ?_
   refine al 3 ?_;refine st ?_;refine nl ?_;refine sq ?_;refine rl ?_;(iterate 3 refine o1 ?_);refine eB ([.v (.bool (nX (R.ms t) (e)))]) (AU (R.ms t) (k:=e) (by omega)) ?_
   refine nl ?_;refine nK rfl (fun h3=>?_) (fun h3=>?_)
   ·have hkl:(R.wtk U t e k).length≤1000:=by
     have h1:=Lm (R:=R) (U:=U) (t:=t) (k:=e)
     have h2:e*t≤6*10:=Nat.mul_le_mul (by omega) (by omega)
     unfold Rg.wtk;rw[List.length_append];have h3:(bif R.mem t e then((R.wl U e (R.I t)).take k).map (fun x=>(⟨x.1,e,x.2⟩:Wv))else []).length≤k:=by
      cases R.mem t e
      ·exact Nat.zero_le _
      show(((R.wl U e (R.I t)).take k).map _).length≤k
      rw[List.length_map,List.length_take];omega
     omega
    refine rl ?_;refine o1 ?_;refine o1 ?_;refine ld ?_;refine o1 ?_;refine o1 ?_;refine ld ?_;refine o1 ?_;refine bs 4 ?_
    refine iV (j:=5) aA rfl rfl rfl rfl (.sl rfl (by rw[List.length_map,cG aT])) (.sl rfl rfl rfl) rfl rfl rfl (by omega) (by omega) ?_
    refine o1 ?_;refine nl ?_;refine rl ?_;refine o1 ?_;refine WL.cast (t:=40) (u':=.int .i64 ((k+1:Nat):Int)) rfl (aC (by omega)) ?_
    refine o1 ?_;refine nl ?_
    have hX:(R.wtk U t e (k+1))=(R.wtk U t e k)++[(⟨(aI (R.wl U e (R.I t)) (k)).1,((e:Nat):Int),(aI (R.wl U e (R.I t)) (k)).2⟩:Wv)]:=EA (by have h9:=h3;rwa[zS (by omega)]at h9) (by omega)
    exact⟨k+1,by omega,by omega,cI h0 [0,1,5] _ _ (by decide) rfl ⟨rfl,rfl,(by rw[hX,List.length_append];rfl),rfl,rfl,rfl,rfl,rfl,rfl,rfl,trivial⟩ ⟨oe rfl rfl,aK rfl,aK (by rw[hX,←Wz];rfl),rfl⟩⟩
   refine sk ?_;refine rl ?_;refine o1 ?_;refine WL.cast (t:=40) (u':=.int .i64 ((k+1:Nat):Int)) rfl (aC (by omega)) ?_
   refine o1 ?_;refine nl ?_;have hX:(R.wtk U t e (k+1))=(R.wtk U t e k):=JW (by have h9:=h3;rwa[zS (by omega)]at h9)
   exact⟨k+1,by omega,by omega,cI h0 [0,1,2] _ _ (by decide) rfl ⟨rfl,rfl,(by rw[hX];rfl),rfl,rfl,rfl,rfl,rfl,rfl,rfl,trivial⟩ ⟨oe rfl rfl,aK rfl,aK (by rw[hX];rfl),rfl⟩⟩
  refine ex ?_;refine rl ?_;refine o1 ?_;refine WL.cast (t:=41) (u':=.int .i64 ((e+1:Nat):Int)) rfl (aC (by omega)) ?_
  refine o1 ?_;refine nl ?_;have hfin:(R.wtk U t e k)=(R.wt0 U t (e+1)):=EB (by omega)
  exact⟨e+1,by omega,by omega,cI h0 [0,1,2] _ _ (by decide) rfl ⟨rfl,rfl,(by rw[hfin];rfl),rfl,rfl,rfl,trivial⟩ ⟨oe rfl rfl,aK rfl,aK (congrArg (fun l:List Wv=>some (⟨64,18,(l.flatMap aJ).map .t⟩:Ob)) hfin),rfl⟩⟩
 refine ex ?_;refine sq ?_;refine rl ?_;refine o1 ?_
 have hwl9:(R.wt0 U t e).length≤60:=Nat.le_trans (Lm (R:=R) (U:=U) (t:=t) (k:=e)) (Nat.mul_le_mul (show e≤6 by omega) (show t≤10 by omega))
 refine cl 3 [2] (DM (xs:=(R.wt0 U t e)) rfl (by omega)) OZ ⟨aK rfl,rfl⟩ ⟨rfl,rfl,rfl⟩ (ok:=[some ⟨64,18,((cY (R.wt0 U t e)).flatMap aJ).map .t⟩]) ⟨aK rfl,rfl⟩ ?_
 refine nl ?_;refine sq ?_;refine rl ?_;refine o1 ?_;refine o1 ?_;refine nl ?_;refine rt ?_;have hee:e=R.E:=by omega
 have hso:cY (R.wt0 U t e)=((R.wt U t).map (R.wv U)):=by rw[hee];exact JY hI (by omega)
 have hln:(R.wt0 U t e).length=((R.wt U t).map (R.wv U)).length:=by rw[←hso,gL]
 refine BH (iO (j:=0) (k:=1) (p:=3) (e:=96) (z:=1) (n:=(R.own U (R.I t) t).length) (trs:=(R.own U (R.I t) t).map dN) rfl rfl rfl rfl rfl (bZ _ _ (by simp)) (by simp) rfl) ?_
 exact Bp <| gG (lent':=[⟨95,0,[.t ta,.t tb,.t tc,.t (dH (R.own U (R.I t) t))]⟩]) (.inl rfl) rfl (aX (.one (.sl (trs:=(cY (R.wt0 U t e)).flatMap aJ) rfl rfl (bZ _ _ (by rw[cG aT,gL])) (by rw[cG aT,gL])))) (by decide) (by simp) ⟨⟨rfl,rfl⟩,trivial⟩ ⟨rfl,trivial⟩ ⟨rfl,trivial⟩ (fun h=>by cases h) ⟨rfl,by rw[hso,hln]⟩
def Rg.yrq (R:Rg) (t:Nat):List Tr:=[gQ (R.ms t),sQ false ((R.bs t).map Fr4.of)]++(Fr4.of (R.lim t)).tr false
def Rg.uf (R:Rg) (U:List Ur) (t i:Nat):List Ur:=((R.wt U t).take i).foldl (fun U p=>R.use U p.1 p.2 t) U
theorem EC (xs:List Rat) (q:Rat):(xs.flatMap qt).map AV.t++(qt q).map .t=((xs++[q]).flatMap qt).map .t:=by simp[List.flatMap_append]
theorem ED (xs:List Rl) (x:Rl):(xs.flatMap nI).map AV.t++(nI x).map .t=((xs++[x]).flatMap nI).map .t:=by simp[List.flatMap_append]
section
variable {R:Rg}{U:List Ur}{N t i e k:Nat}{p:Nat×Nat}
theorem Sl (h:(R.wt U t)[i]? =some p):p∈R.vl t∧t≤p.1+R.f∧p.2<R.E∧aB ((R.wt U t).map (R.wv U)) i=R.wv U p:=by
 have h1:=List.mem_of_getElem? h
 unfold Rg.wt at h1
 rw[List.mem_filter]at h1
 obtain⟨h2,h3⟩:=h1
 unfold Rg.may at h3
 simp only[Bool.and_eq_true,decide_eq_true_eq]at h3
 refine⟨h2,h3.1.1,(gH.1 h2).2.1,?_⟩
 rw[aB,List.getD_eq_getElem?_getD,List.getElem?_map,h]
 rfl
theorem Br (h:(R.wt U t)[i]? =some p):R.uf U t (i+1)=R.use (R.uf U t i) p.1 p.2 t:=by
 unfold Rg.uf
 rw[List.take_add_one,h,List.foldl_append]
 rfl
theorem Xa:(R.wt U t).Nodup:=List.Pairwise.filter _ (pI t)
theorem EE (h:(R.wt U t)[i]? =some p):R.left (R.uf U t i) p.1 p.2=R.left U p.1 p.2:=by
 refine sX _ _ fun hm=>?_
 obtain⟨j,hj,e⟩:=List.getElem_of_mem hm
 rw[List.length_take]at hj
 rw[List.getElem_take]at e
 have hi:=(List.getElem?_eq_some_iff.1 h)
 have:=(List.getElem_inj (Xa (R:=R) (U:=U) (t:=t))).1 (e.trans hi.2.symm)
 omega
theorem PA (h:(R.wt U t)[i]? =some p):aB ((R.wt U t).map (R.wv U)) i=R.wv (R.uf U t i) p:=by
 rw[(Sl h).2.2.2]
 unfold Rg.wv
 rw[EE h]
theorem PB (hI:R.Iv N U) (ht:t<N):R.Iv N (R.uf U t i):=hI.fold ht _ fun p hp=>by
 have h1:=List.mem_of_mem_take hp
 unfold Rg.wt at h1
 have:=gH.1 (List.mem_filter.1 h1).1
 exact⟨by omega,this.2.1⟩
theorem JZ:(R.uf U t i).length≤U.length+i:=by
 unfold Rg.uf
 have gen:∀(L:List (Nat×Nat)) (V:List Ur),(L.foldl (fun U p=>R.use U p.1 p.2 t) V).length≤V.length+L.length:=by
  intro L
  induction L with
  | nil=>intro V;simp
  | cons q L ih=>
   intro V
   have h1:=ih (R.use V q.1 q.2 t)
   have h2:(R.use V q.1 q.2 t).length≤V.length+1:=Lk
   rw[List.foldl_cons,List.length_cons]
   omega
 have:=gen ((R.wt U t).take i) U
 rw[List.length_take]at this
 omega
theorem KA (hI:R.Iv N U) (ht:t<N) (hi:(R.wt U t).length≤i):R.uf U t i=R.step U t:=by
 unfold Rg.uf
 rw[List.take_of_length_le hi]
 exact(EF hI ht).symm
theorem EG:(R.wt U t).length≤(R.vl t).length:=List.length_filter_le ..
theorem Xb:R.rls (R.step U t) t=R.rls U t:=by
 unfold Rg.step
 generalize (R.vl t).filter (R.may t)=L
 induction L generalizing U with
 | nil=>rfl
 | cons p L ih=>
  rw[List.foldl_cons,ih]
  exact IL (Nat.le_refl _)
theorem Xc:R.rls U t++[R.rl U t]=R.rls U (t+1):=by simp[Rg.rls,List.range_succ]
theorem KB (l:List Rat):l.flatMap qt=(l.map Fr4.of).flatMap (Fr4.tr false):=by
 induction l with
 | nil=>rfl
 | cons q l ih=>
  rw[List.flatMap_cons,List.map_cons,List.flatMap_cons,←ih]
  rfl
theorem Xd (h:∀e,e<R.E→jI U t e=0):(List.range R.E).map (fun _=>((0:Int):Rat))=R.by9 U t:=List.map_congr_left fun e he=>(h e (List.mem_range.1 he)).symm
end
theorem KC {R:Rg}{U:List Ur}{x c:Nat→Nat→Rat}{N t:Nat}(hOk:R.Ok N) (hI:R.Iv N U) (ht:t<N) (h0y:eW U t=0) (h0b:∀e,e<R.E→jI U t e=0) (hlU:U.length≤1000):aD false Tryz.prog 70 [⟨95,0,[.t (dB true (R.rls U t)),.t (cW true false (R.vns U x c (R.vl t))),.t (cJ true false U),.t (dH (R.own U (R.I t) t))]⟩] [.one (.pt 0 0),.one (tv (.int .i64 ((t:Nat):Int))),.agg ((R.yrq t).map .t)] (Rt [⟨95,0,[.t (dB true (R.rls (R.step U t) (t+1))),.t (cW true false (R.vns (R.step U t) x c (R.vl t))),.t (cJ true false (R.step U t)),.t (dH (R.own (R.step U t) (R.I t) t))]⟩] (.tup [])):=by
 refine Oy Tryz.func70 rfl Tryz.ntmps70 rfl aA rfl fun N9 M9 w9 c0 h0=>?_
 have hbl:((R.bs t).map Fr4.of).length=R.E:=by rw[List.length_map];exact vE
 have hE:=hOk.e;have hN:=hOk.n
 have hVl:=rL (R:=R) hE t
 have hwl:=EG (R:=R) (U:=U) (t:=t)
 refine sq ?_;refine rl ?_;refine bx 1 ?_;refine bx 2 ?_;refine bx 3 ?_;refine nl ?_;refine sq ?_;refine rd [0,1,2,3] (fun i=>[5].contains i) mixed ?_
 refine aO 0 ?_;refine bD 1 rfl (iY (z:=0) (by omega) (by omega)) sS ⟨a1 rfl,rfl⟩ (qF (.of ((0:Int):Rat))) ?_
 refine df 2 ?_;refine df 3 ?_;refine RN (key:=4) 4 (by kernel_rfl) rfl rfl rfl ⟨rfl,rfl,rfl,rfl,trivial⟩ ?_
 refine eT 5 (by kernel_rfl) rfl rfl aA rfl (by trivial) ?_ (fun h=>by first | rfl | cases h)
 refine aQ ?_;refine sq ?_;refine sq ?_;refine rl ?_;refine o1 ?_;refine ld ?_;refine o1 ?_;refine o1 ?_;refine nl ?_;refine bl ?_
 refine WP.sub (Le (j:=4) (key:=5) (e:=48) (z:=4) rfl rfl rfl (.id (.id (.id (.id (.id (.id (.id (.id (.id (.id (.sl (.id .nil))))))))))))) ?_
 refine lp (γ:=Nat) (fun s=>cC [(3,.one (.pt 1 0)),(4,.one (.pt 2 0)),(5,.one (.pt 3 0)),(6,.one (.pt 4 0)),(16,.one (tv (.int .i64 ((((R.bs t).map Fr4.of).length:Nat):Int)))),(17,.one (tv (.int .i64 ((s:Nat):Int))))]) (fun s=>[(⟨95,0,[.t (dB true (R.rls U t)),.t (cW true false (R.vns U x c (R.vl t))),.t (cJ true false U),.t (dH (R.own U (R.I t) t))]⟩:Ob),⟨92,0,[.pt 0 0]⟩,⟨3,0,[tv (.int .i64 ((t:Nat):Int))]⟩,⟨67,0,(R.yrq t).map .t⟩,⟨165,0,[.t (gQ (R.ms t)),.t (sQ false ((R.bs t).map Fr4.of))]++((Fr4.of (R.lim t)).tr false).map .t++((Fr4.of ((0:Int):Rat)).tr false).map .t++[.sl 5 0 s,tv .nilFunc]⟩,⟨48,4,(((List.range s).map (fun _=>((0:Int):Rat))).flatMap qt).map .t⟩].map some) (fun s=>s≤R.E) (fun s=>R.E-s) 0 (Nat.zero_le _) (cI h0 [0,1,2,3,4,5] _ _ (by decide) rfl ⟨rfl,rfl,rfl,rfl,rfl,rfl,trivial⟩ ⟨oe rfl rfl,oe rfl rfl,oe rfl rfl,aK rfl,oe rfl rfl,aK rfl,rfl⟩) ?_
 rintro k hk;refine sq ?_;refine rl ?_;refine o1 ?_;refine nl ?_;refine sq ?_;refine bN rfl (fun h1=>?_) (fun h1=>?_)
 ·refine sk ?_;refine sq ?_;refine bl ?_;refine rd [0,1,2,3,4] (fun i=>[12].contains i) mixed ?_
  refine dv 0 ?_;refine dv 1 ?_;refine dv 2 ?_;refine dv 3 ?_;refine dv 4 ?_;refine aO 5 ?_
  refine bD 6 rfl (iY (z:=0) (by omega) (by omega)) sS ⟨a1 rfl,rfl⟩ (qF (.of ((0:Int):Rat))) ?_
  refine kV (key:=6) 7 (by kernel_rfl) rfl rfl aA rfl ⟨rfl,rfl,rfl,rfl,rfl,trivial⟩ ?_
  refine nQ (j:=7) (n:=k) (l:=(((List.range k).map (fun _=>((0:Int):Rat))).flatMap qt).map .t) 8 rfl aA rfl rfl rfl (.sl rfl (by rw[List.length_map,cG uT,List.length_map,List.length_range])) (.sl rfl rfl rfl) rfl rfl (by omega) (by omega) rfl ⟨rfl,rfl,rfl,rfl,rfl,trivial⟩ rfl (by kernel_rfl) rfl ?_
  refine eT 9 (by kernel_rfl) rfl rfl aA rfl (by trivial) ?_ (fun h=>by first | rfl | cases h)
  refine eT 10 (by kernel_rfl) rfl rfl aA rfl (by trivial) ?_ (fun h=>by first | rfl | cases h)
  refine df 11 ?_;refine dst 12 ?_;refine aQ ?_;refine rl ?_;refine o1 ?_;refine WL.cast (t:=31) (u':=.int .i64 ((k+1:Nat):Int)) rfl (aC (by omega)) ?_
  refine o1 ?_;refine nl ?_
  exact⟨k+1,by omega,by omega,cI h0 [0,1,2,3,4,7] _ _ (by decide) rfl ⟨rfl,rfl,rfl,rfl,rfl,rfl,trivial⟩ ⟨oe rfl rfl,oe rfl rfl,oe rfl rfl,aK rfl,oe rfl rfl,aK (congrArg (fun l:List AV=>some (⟨48,4,l⟩:Ob)) ((EC ((List.range k).map (fun _=>((0:Int):Rat))) ((0:Int):Rat)).trans (by rw[List.range_succ,List.map_append];rfl))),rfl⟩⟩
 refine ex ?_;refine sq ?_;refine rl ?_;(iterate 4 refine o1 ?_);refine st ?_;refine nl ?_;refine sq ?_;refine sq ?_;refine rl ?_;refine ld ?_;refine o1 ?_;refine ld ?_
 refine cl 6 [0] (Sk (U:=U) (ta:=(dB true (R.rls U t))) (tb:=(cW true false (R.vns U x c (R.vl t)))) (tc:=(cJ true false U)) hOk hI ht) PC ⟨oe rfl rfl,rfl⟩ ⟨rfl,rfl,rfl⟩ (ok:=[some ⟨95,0,[.t (dB true (R.rls U t)),.t (cW true false (R.vns U x c (R.vl t))),.t (cJ true false U),.t (dH (R.own U (R.I t) t))]⟩]) ⟨oe rfl rfl,rfl⟩ ?_
 refine o1 ?_;refine o1 ?_;refine nl ?_;refine bl ?_;have hkE:k=R.E:=by omega
 have hzy:((0:Int):Rat)=eW U t:=h0y.symm
 have hzb:((List.range k).map (fun _=>((0:Int):Rat)))=R.by9 U t:=by rw[hkE];exact Xd h0b
 refine lp (γ:=Nat) (fun s=>cC [(3,.one (.pt 1 0)),(4,.one (.pt 2 0)),(6,.one (.pt 3 0)),(39,.one (.sl 5 0 (((R.wt U t).map (R.wv U)).length))),(40,.one (tv (.int .i64 ((((R.wt U t).map (R.wv U)).length:Nat):Int)))),(41,.one (tv (.int .i64 ((s:Nat):Int))))]) (fun s=>[(⟨95,0,[.t (dB true (R.rls U t)),.t (cW true false (R.vns (R.uf U t s) x c (R.vl t))),.t (cJ true false (R.uf U t s)),.t (dH (R.own (R.uf U t s) (R.I t) t))]⟩:Ob),⟨92,0,[.pt 0 0]⟩,⟨3,0,[tv (.int .i64 ((t:Nat):Int))]⟩,⟨165,0,[.t (gQ (R.ms t)),.t (sQ false ((R.bs t).map Fr4.of))]++((Fr4.of (R.lim t)).tr false).map .t++((Fr4.of (eW (R.uf U t s) t)).tr false).map .t++[.sl 4 0 (R.by9 (R.uf U t s) t).length,.fn 99 [] [.pt 1 0,.pt 2 0]]⟩,⟨48,4,((R.by9 (R.uf U t s) t).flatMap qt).map .t⟩,⟨64,18,(((R.wt U t).map (R.wv U)).flatMap aJ).map .t⟩].map some) (fun s=>s≤((R.wt U t).map (R.wv U)).length) (fun s=>((R.wt U t).map (R.wv U)).length-s) 0 (Nat.zero_le _) (cI h0 [0,1,2,4,5,6] _ _ (by decide) rfl ⟨rfl,rfl,rfl,rfl,rfl,rfl,trivial⟩ ⟨oe rfl rfl,oe rfl rfl,oe rfl rfl,oe rfl (by have h9:(some ⟨165,0,[.t (gQ (R.ms t)),.t (sQ false ((R.bs t).map Fr4.of))]++((Fr4.of (R.lim t)).tr false).map .t++((Fr4.of ((0:Int):Rat)).tr false).map .t++[.sl 5 0 k,.fn 99 [] [.pt 1 0,.pt 2 0]]⟩:Option Ob)=some ⟨165,0,[.t (gQ (R.ms t)),.t (sQ false ((R.bs t).map Fr4.of))]++((Fr4.of (R.lim t)).tr false).map .t++((Fr4.of (eW U t)).tr false).map .t++[.sl 5 0 (R.by9 U t).length,.fn 99 [] [.pt 1 0,.pt 2 0]]⟩:=(by rw[←hzy,←hzb,List.length_map,List.length_range]);exact h9),aK (by have h9:(some ⟨48,4,(((List.range k).map (fun _=>((0:Int):Rat))).flatMap qt).map .t⟩:Option Ob)=some ⟨48,4,((R.by9 U t).flatMap qt).map .t⟩:=(by rw[hzb]);exact h9),aK rfl,rfl⟩) ?_
 rintro i hi;refine sq ?_;refine rl ?_;refine o1 ?_;refine nl ?_;refine sq ?_;refine bN rfl (fun h2=>?_) (fun h2=>?_)
 ·refine sk ?_;refine sq ?_;refine bl ?_;refine sq ?_;have hwtl:((R.wt U t).map (R.wv U)).length=(R.wt U t).length:=List.length_map _
  obtain⟨p,hp9⟩:∃p,(R.wt U t)[i]? =some p:=⟨_,List.getElem?_eq_getElem (by omega)⟩
  obtain⟨hw1,hw2,hw3,_⟩:=Sl hp9
  have hfl:=JZ (R:=R) (U:=U) (t:=t) (i:=i)
  have huse:=OY (U:=(R.uf U t i)) (x:=x) (c:=c) (y:=p.1) (e:=p.2) (ta:=(dB true (R.rls U t))) hOk (PB hI ht) ht hw1 hw2 (by omega) (by omega)
  rw[show R.wv (R.uf U t i) (p.1,p.2)=aB ((R.wt U t).map (R.wv U)) i from(PA hp9).symm]at huse;refine rl ?_;refine o1 ?_
  refine IZ (cE (f:=aJ) (z:=18) (o:=0) (us:=aJ (aB ((R.wt U t).map (R.wv U)) (i))) aT (bJ (l:=((R.wt U t).map (R.wv U))) (i:=i) (by omega)) (Nat.le_of_ble_eq_true rfl) rfl) ?_
  refine al 6 ?_;refine st ?_;refine nl ?_;refine rl ?_;refine o1 ?_;refine ld ?_
  refine cl 7 [3,4,1,2,0] huse PD ⟨oe rfl rfl,aK rfl,oe rfl rfl,oe rfl rfl,oe rfl rfl,rfl⟩ ⟨rfl,rfl,rfl⟩ (ok:=[some ⟨165,0,[.t (gQ (R.ms t)),.t (sQ false ((R.bs t).map Fr4.of))]++((Fr4.of (R.lim t)).tr false).map .t++((Fr4.of (eW (R.use (R.uf U t i) p.1 p.2 t) t)).tr false).map .t++[.sl 4 0 (R.by9 (R.use (R.uf U t i) p.1 p.2 t) t).length,.fn 99 [] [.pt 1 0,.pt 2 0]]⟩,some ⟨48,4,((R.by9 (R.use (R.uf U t i) p.1 p.2 t) t).flatMap qt).map .t⟩,some ⟨92,0,[.pt 0 0]⟩,some ⟨3,0,[tv (.int .i64 ((t:Nat):Int))]⟩,some ⟨95,0,[.t (dB true (R.rls U t)),.t (cW true false (R.vns (R.use (R.uf U t i) p.1 p.2 t) x c (R.vl t))),.t (cJ true false (R.use (R.uf U t i) p.1 p.2 t)),.t (dH (R.own (R.use (R.uf U t i) p.1 p.2 t) (R.I t) t))]⟩]) ⟨oe rfl rfl,aK rfl,oe rfl rfl,oe rfl rfl,oe rfl rfl,rfl⟩ ?_
  refine nl ?_;refine rl ?_;refine o1 ?_;refine WL.cast (t:=48) (u':=.int .i64 ((i+1:Nat):Int)) rfl (aC (by omega)) ?_
  refine o1 ?_;refine nl ?_
  exact⟨i+1,by omega,by omega,cI h0 [0,1,2,3,4,5] _ _ (by decide) rfl ⟨rfl,rfl,rfl,rfl,rfl,rfl,trivial⟩ ⟨oe rfl (congrArg (fun V:List Ur=>some (⟨95,0,[.t (dB true (R.rls U t)),.t (cW true false (R.vns V x c (R.vl t))),.t (cJ true false V),.t (dH (R.own V (R.I t) t))]⟩:Ob)) (Br hp9).symm),oe rfl rfl,oe rfl rfl,oe rfl (by have h9:(some ⟨165,0,[.t (gQ (R.ms t)),.t (sQ false ((R.bs t).map Fr4.of))]++((Fr4.of (R.lim t)).tr false).map .t++((Fr4.of (eW (R.use (R.uf U t i) p.1 p.2 t) t)).tr false).map .t++[.sl 4 0 (R.by9 (R.use (R.uf U t i) p.1 p.2 t) t).length,.fn 99 [] [.pt 1 0,.pt 2 0]]⟩:Option Ob)=some ⟨165,0,[.t (gQ (R.ms t)),.t (sQ false ((R.bs t).map Fr4.of))]++((Fr4.of (R.lim t)).tr false).map .t++((Fr4.of (eW (R.uf U t (i+1)) t)).tr false).map .t++[.sl 4 0 (R.by9 (R.uf U t (i+1)) t).length,.fn 99 [] [.pt 1 0,.pt 2 0]]⟩:=(by rw[Br hp9]);exact h9),aK (congrArg (fun V:List Ur=>some (⟨48,4,((R.by9 V t).flatMap qt).map .t⟩:Ob)) (Br hp9).symm),aK rfl,rfl⟩⟩
 refine ex ?_;have hwtl:((R.wt U t).map (R.wv U)).length=(R.wt U t).length:=List.length_map _
 have hue:(R.uf U t i)=(R.step U t):=KA hI ht (by omega)
 have hrl:(R.rls U t).length=t:=wI
 refine WP.sub (nN (j:=0) (key:=6) (p:=0) (e:=62) (z:=5) (n:=(R.rls U t).length) (trs:=(R.rls U t).flatMap nI) rfl rfl rfl rfl rfl) ?_
 refine rd [0,1,2,3] (fun i=>[15].contains i) mixed ?_
 refine aO 0 ?_;refine aO 1 ?_;refine dv 2 ?_;refine dv 3 ?_;refine dv 4 ?_;refine aO 5 ?_;refine dv 6 ?_;refine dv 7 ?_;refine dv 8 ?_;refine WO.one (by kernel_rfl) (Lc 9 ?_)
 refine Di (i:=58) (k:=4) (t:=48) (t':=52) (z:=4) (n:=(R.by9 (R.uf U t i) t).length) (l:=((R.by9 (R.uf U t i) t).map Fr4.of).flatMap (Fr4.tr false)) rfl rfl (congrArg (fun l:List Tr=>some (⟨48,4,l.map .t⟩:Ob)) (KB (R.by9 (R.uf U t i) t))) (by rw[cG (f:=Fr4.tr false) (z:=4) (fun _=>rfl),List.length_map]) (.agg (.cons .id (.cons .id (.cons .id (.cons .id (.cons .sl .nil)))))) (by rfl) (by rfl) ?_
 refine kV (key:=7) 10 (by kernel_rfl) rfl rfl aA rfl ⟨rfl,rfl,rfl,rfl,trivial⟩ ?_
 refine nQ (j:=8) (n:=(R.rls U t).length) (l:=((R.rls U t).flatMap nI).map .t) 11 rfl aA rfl rfl rfl (.sl rfl (by rw[List.length_map,cG mN])) (.sl rfl rfl rfl) rfl rfl (by omega) (by omega) rfl ⟨rfl,rfl,rfl,rfl,trivial⟩ rfl (by kernel_rfl) rfl ?_
 refine eT 12 (by kernel_rfl) rfl rfl aA rfl (by trivial) ?_ (fun h=>by first | rfl | cases h)
 refine eT 13 (by kernel_rfl) rfl rfl aA rfl (by trivial) ?_ (fun h=>by first | rfl | cases h)
 refine df 14 ?_;refine dst 15 ?_;refine aQ ?_
 have hrow:((R.rls U t).flatMap nI).map AV.t++(nI (R.rl (R.uf U t i) t)).map .t=((R.rls (R.step U t) (t+1)).flatMap nI).map .t:=by rw[ED,hue,←Xb,Xc]
 have hrow2:(nI (R.rl (R.uf U t i) t)).map AV.t=((Fr4.of (eW (R.uf U t i) t)).tr false).map .t++[.t (.s false 52 4 (R.by9 (R.uf U t i) t).length (((R.by9 (R.uf U t i) t).map Fr4.of).flatMap (Fr4.tr false)))]:=by
  have h9:sQ false ((R.by9 (R.uf U t i) t).map Fr4.of)=.s false 52 4 (R.by9 (R.uf U t i) t).length (((R.by9 (R.uf U t i) t).map Fr4.of).flatMap (Fr4.tr false)):=by rw[sQ,List.length_map]
  rw[←h9];rfl
 rw[hrow2]at hrow;have hrnl:(R.rls (R.step U t) (t+1)).length=t+1:=wI
 refine BH (iO (j:=0) (k:=8) (p:=0) (e:=62) (z:=5) (n:=(R.rls U t).length+1) (trs:=(R.rls (R.step U t) (t+1)).flatMap nI) rfl rfl rfl (congrArg (fun l:List AV=>some (⟨62,5,l⟩:Ob)) hrow) rfl (bZ _ _ (by rw[cG mN,hrnl,hrl])) (by rw[cG mN,hrnl,hrl]) rfl) ?_
 exact Bp <| gG (lent':=[⟨95,0,[.t (dB true (R.rls (R.step U t) (t+1))),.t (cW true false (R.vns (R.step U t) x c (R.vl t))),.t (cJ true false (R.step U t)),.t (dH (R.own (R.step U t) (R.I t) t))]⟩]) (.inr rfl) rfl pF (by decide) (fun _ h=>by cases h) ⟨⟨rfl,rfl⟩,trivial⟩ ⟨(by have h9:(some ⟨95,0,[.t (.s true 62 5 ((R.rls U t).length+1) ((R.rls (R.step U t) (t+1)).flatMap nI)),.t (cW true false (R.vns (R.uf U t i) x c (R.vl t))),.t (cJ true false (R.uf U t i)),.t (dH (R.own (R.uf U t i) (R.I t) t))]⟩:Option Ob)=some ⟨95,0,[.t (dB true (R.rls (R.step U t) (t+1))),.t (cW true false (R.vns (R.step U t) x c (R.vl t))),.t (cJ true false (R.step U t)),.t (dH (R.own (R.step U t) (R.I t) t))]⟩:=(by rw[hue,dB,hrnl,hrl]);exact h9),trivial⟩ ⟨rfl,trivial⟩ (fun h=>by cases h) ⟨rfl,rfl⟩
end Go.Proofs.YtbbabfkgdnkehaaGreat
