/- Part 10 of a proof: B3 to C7. -/
import Derived.Test.YthoemjjmkgmnjaaGreatM8
import Derived.Test.YthoemjjmkgmnjaaGreatM9
import Derived.Test.YthoemjjmkgmnjaaGreatM7
set_option maxRecDepth 100000
set_option linter.unusedVariables false
set_option linter.unusedSimpArgs false
namespace Go.Proofs.YthoemjjmkgmnjaaGreat
open Go Go.RowKit
theorem Bg {vs:List (Int×Rat)}{dl:Int×Rat→Bool}{fd:FuncId}{fst caps:List Tr}(hok:CallOk Tryz.prog fd) (hd:∀x∈vs,aE true Tryz.prog fd [] (cP fst++[.agg ((cJ false x).map .t)]++cP caps) (aN (.one (tv (.bool (dl x)))))) (hl:vs.length≤1073741823):aE true Tryz.prog 178 [] [.one (.t (sV 97 false vs)),.one (.t (.f fd fst caps))] (aN (.one (tv (.int .i64 (if jY dl vs=vs.length then-1 else(jY dl vs:Int)))))):=by
 refine bC Tryz.func178 rfl Tryz.ntmps178 rfl aA rfl fun N w c0 h0=>?_
 refine sq ?_;refine rl ?_;refine o1 ?_;refine nl ?_;refine sq ?_;refine sq ?_;refine rl ?_;(iterate 3 refine o1 ?_);refine nl ?_;refine bl ?_
 refine lp (γ:=Nat) (fun k=>bS [(0,.one (.t (sV 97 false vs))),(1,.one (.t (.f fd fst caps))),(7,.one (tv (.int .i64 ((vs.length:Nat):Int)))),(8,.one (tv (.int .i64 ((k:Nat):Int))))]) (fun k=>[].map some) (fun k=>k≤vs.length∧k≤jY dl vs) (fun k=>vs.length-k) 0 (⟨Nat.zero_le _,Nat.zero_le _⟩) (aG h0 [] _ _ (by decide) ⟨rfl,rfl,rfl,rfl,trivial⟩ rfl) fun k hk=>?_
 refine sq ?_;refine rl ?_;refine o1 ?_;refine nl ?_;refine sq ?_;refine bP rfl (fun h1=>?_) (fun h1=>?_)
 ·refine sk ?_;refine sq ?_;refine bl ?_;refine sq ?_;refine rl ?_;refine o1 ?_;refine o1 ?_;refine nl ?_;refine sq ?_;refine rl ?_;(iterate 4 refine o1 ?_)
  refine cW (cJ false (aU vs (k))) (tY false (by omega)) ?_
  refine ce 0 [.agg ((cJ false (aU vs k)).map .t)] rfl (hd (aU vs k) (nG (by omega))) hok ⟨rfl,rfl⟩ ?_
  refine nl ?_;refine lL rfl (fun h2=>?_) (fun h2=>?_)
  ·refine sq ?_;refine rl ?_;refine o1 ?_;refine o1 ?_;refine nl ?_;refine rt ?_;have hx9:=(vR hk.2 (by omega)).1 h2
   exact en (.inl rfl) rfl (aO (bL _)) (by decide) (fun _=>trivial) (congrArg (fun z=>FV.one (tv (.int .i64 z))) (by rw[hx9,if_neg (by omega)]))
  refine sk ?_;refine rl ?_;refine o1 ?_;refine WL.cast (t:=18) (u':=.int .i64 ((k+1:Nat):Int)) rfl (aH (by omega)) ?_
  refine o1 ?_;refine nl ?_;exact⟨k+1,by omega,⟨by omega,(vR hk.2 (by omega)).2 h2⟩,aG h0 [] _ _ (by decide) ⟨rfl,rfl,rfl,rfl,trivial⟩ rfl⟩
 refine ex ?_;refine sq ?_;refine rl ?_;refine o1 ?_;refine nl ?_;refine rt ?_;have hx9:=Jz (dl:=dl) vs
 exact en (.inl rfl) rfl (aO (bL _)) (by decide) (fun _=>trivial) (congrArg (fun z=>FV.one (tv (.int .i64 z))) (by rw[if_pos (by omega)]))
theorem Og {vs:List (Int×Rat)}{dl:Int×Rat→Bool}{fd:FuncId}{fst caps:List Tr}(hok:CallOk Tryz.prog fd) (hd:∀x∈vs,aE true Tryz.prog fd [] (cP fst++[.agg ((cJ false x).map .t)]++cP caps) (aN (.one (tv (.bool (dl x)))))) (hl:vs.length≤1073741823) (hix:jY dl vs<vs.length):aE true Tryz.prog 178 [] [.one (.t (sV 97 false vs)),.one (.t (.f fd fst caps))] (aN (.one (tv (.int .i64 ((jY dl vs:Nat):Int))))):=by
 have h9:=Bg hok hd hl
 rwa[if_neg (by omega)]at h9
theorem Ka {vs:List (Int×Rat)}{dl:Int×Rat→Bool}{fd:FuncId}{fst caps:List Tr}(hok:CallOk Tryz.prog fd) (hd:∀x∈vs,aE true Tryz.prog fd [] (cP fst++[.agg ((cJ false x).map .t)]++cP caps) (aN (.one (tv (.bool (dl x)))))) (hl:vs.length≤1073741823) (hix:jY dl vs=vs.length):aE true Tryz.prog 178 [] [.one (.t (sV 97 false vs)),.one (.t (.f fd fst caps))] (aN (.one (tv (.int .i64 (-1))))):=by
 have h9:=Bg hok hd hl
 rwa[if_pos hix]at h9
theorem Kb {vs:List (Int×Rat)}{dl:Int×Rat→Bool}{fd:FuncId}{fst caps:List Tr}(hok:CallOk Tryz.prog fd) (hd:∀x∈vs,aE true Tryz.prog fd [] (cP fst++[.agg ((cJ false x).map .t)]++cP caps) (aN (.one (tv (.bool (dl x)))))) (hl:vs.length≤1073741823):aE false Tryz.prog 165 [⟨97,5,eM vs⟩] [.one (.sl 0 0 vs.length),.one (.t (.f fd fst caps))] (Rt [⟨97,5,(nT vs (dW dl vs)).map .t⟩] (.one (.sl 0 0 (dW dl vs).length))):=by
 refine Hp Tryz.func165 rfl Tryz.ntmps165 rfl aA rfl fun N M w c0 h0=>?_
 have hix0:=Jz (dl:=dl) vs
 rcases Nat.lt_or_ge (jY dl vs) vs.length with hix | hix
 ·refine sq ?_;refine rl ?_;refine o1 ?_;refine nl ?_;refine sq ?_;refine rl ?_;refine o1 ?_;refine o1 ?_
  refine ca (Og hok hd hl hix) EB ⟨Df rfl (.sl rfl rfl (cC _ _ rfl) (bN false vs)),a1 rfl,rfl⟩ (.one (tv (.int .i64 ((jY dl vs:Nat):Int)))) ?_;refine o1 ?_
  refine nl ?_;refine sq ?_;refine sq ?_;refine rl ?_;refine o1 ?_;refine o1 ?_;refine nl ?_;refine bP rfl (fun h1=>?_) (fun h1=>?_)
  ·exact absurd h1 (by omega)
  refine sk ?_;refine sq ?_;refine sq ?_;refine rl ?_;refine o1 ?_;refine o1 ?_;refine WL.cast (t:=15) (u':=.int .i64 ((jY dl vs+1:Nat):Int)) rfl (aH (by omega)) ?_
  refine o1 ?_;refine nl ?_;refine bl ?_
  refine lp (γ:=Nat×Nat×List (Int×Rat)) (fun s=>bS [(0,.one (.sl 0 0 vs.length)),(1,.one (.t (.f fd fst caps))),(5,.one (tv (.int .i64 ((s.1:Nat):Int)))),(6,.one (tv (.int .i64 ((s.2.1:Nat):Int))))]) (fun s=>[({t:=97,z:=5,l:=eM s.2.2}:Ob)].map some) (fun s=>s.1≤s.2.1∧s.2.1≤vs.length∧s.2.2.length=vs.length∧s.2.2.take s.1=(vs.take s.2.1).filter (fun x=> !dl x)∧∀m,s.2.1≤m→aU s.2.2 m=aU vs m) (fun s=>vs.length-s.2.1) (jY dl vs,jY dl vs+1,vs) ⟨by dsimp only;omega,by dsimp only;omega,rfl,Vm hix,fun _ _=>rfl⟩ (gE h0 [0] _ _ (by decide) rfl ⟨rfl,rfl,rfl,rfl,trivial⟩ ⟨aQ rfl,rfl⟩) ?_
  rintro⟨i,j,us⟩ ⟨hij,hj,hul,hpre,hsuf⟩;dsimp only at hij hj hul hpre hsuf⊢;refine sq ?_;refine sq ?_;refine rl ?_;(iterate 4 refine o1 ?_);refine nl ?_
  refine bP rfl (fun h2=>?_) (fun h2=>?_)
  ·refine sk ?_;refine sq ?_;refine bl ?_;refine sq ?_;have hsj:aU us j=aU vs j:=hsuf j (Nat.le_refl _)
   refine rl ?_;(iterate 3 refine o1 ?_);refine LO (Kc (us:=us) (k:=j) (by omega)) ?_
   refine al 1 ?_;refine st ?_;refine nl ?_;refine sq ?_;refine rl ?_;refine o1 ?_;refine ld ?_
   refine ce 2 [.agg ((cJ false (aU us j)).map .t)] rfl (hd (aU us j) (by rw[hsj];exact nG (by omega))) hok ⟨rfl,rfl⟩ ?_
   refine WL.splitb (t:=28) rfl (fun h3=>?_) (fun h3=>?_)
   ·refine o1 ?_;refine nl ?_;refine iH rfl ?_;refine sk ?_;refine rl ?_;refine o1 ?_;refine o1 ?_
    refine WL.cast (t:=21) (u':=.int .i64 ((j+1:Nat):Int)) rfl (aH (by omega)) ?_
    refine o1 ?_;refine nl ?_
    exact⟨(i,j+1,us),by dsimp only;omega,⟨by dsimp only;omega,by dsimp only;omega,hul,by dsimp only;exact AB hpre (by omega) (by rw[←hsj];exact h3),fun m hm=>hsuf m (by dsimp only at hm;omega)⟩,gE h0 [0] _ _ (by decide) rfl ⟨rfl,rfl,rfl,rfl,trivial⟩ ⟨aQ rfl,rfl⟩⟩
   refine o1 ?_;refine nl ?_;refine gL rfl ?_;refine sq ?_;refine rl ?_;refine o1 ?_;refine o1 ?_;refine ld ?_;refine o1 ?_
   refine Hq (EC (us:=us) (k:=i) (x:=((aU us (j)).1,(aU us (j)).2)) (by omega)) (LP (us:=us) (k:=i) (by omega)) ?_
   refine nl ?_;refine rl ?_;refine o1 ?_;refine o1 ?_;refine WL.cast (t:=35) (u':=.int .i64 ((i+1:Nat):Int)) rfl (aH (by omega)) ?_
   refine o1 ?_;refine nl ?_;refine rl ?_;refine o1 ?_;refine o1 ?_;refine WL.cast (t:=21) (u':=.int .i64 ((j+1:Nat):Int)) rfl (aH (by omega)) ?_
   refine o1 ?_;refine nl ?_
   exact⟨(i+1,j+1,us.set i (aU us j)),by dsimp only;omega,⟨by dsimp only;omega,by dsimp only;omega,by dsimp only;rw[List.length_set];exact hul,by dsimp only;rw[hsj];exact AC hpre (by omega) (by rw[←hsj];exact h3) (by omega),fun m hm=>by dsimp only at hm⊢;rw[LQ (by omega)];exact hsuf m (by omega)⟩,gE h0 [0] _ _ (by decide) rfl ⟨rfl,rfl,rfl,rfl,trivial⟩ ⟨aQ rfl,rfl⟩⟩
  refine ex ?_;refine sq ?_;refine rl ?_;(iterate 3 refine o1 ?_);have hF:us.take i=dW dl vs:=by rw[hpre,List.take_of_length_le (by omega)];rfl
  refine clear (o:=0+i*5) (n:=vs.length-i) (z:=5) (zz:=.agg zV.toArray) (l:=eM us) (l':=(nT vs (dW dl vs)).map .t) (by rw[mD];omega) ((by rw[←hul]:cT (eM us) (0+i*5) ((gW zV (vs.length-i)).map tv)=cT (eM us) (0+i*5) ((gW zV (us.length-i)).map tv)).trans (Vn hul (by omega) hF)) ?_
  refine nl ?_;refine sq ?_;refine rl ?_;(iterate 4 refine o1 ?_);refine nl ?_;refine rt ?_;have hFl:(dW dl vs).length=i:=by rw[←hF,List.length_take];omega
  exact kU (lent':=[⟨97,5,(nT vs (dW dl vs)).map .t⟩]) (.inl rfl) rfl (aO (.one (.rf rfl rfl))) (by decide) (fun _ h=>by cases h) ⟨⟨rfl,rfl⟩,trivial⟩ ⟨rfl,trivial⟩ ⟨lM _,trivial⟩ (fun h=>by cases h) ⟨rfl,by rw[hFl]⟩
 replace hix:jY dl vs=vs.length:=by omega
 refine sq ?_;refine rl ?_;refine o1 ?_;refine nl ?_;refine sq ?_;refine rl ?_;refine o1 ?_;refine o1 ?_
 refine ca (Ka hok hd hl hix) EB ⟨Df rfl (.sl rfl rfl (cC _ _ rfl) (bN false vs)),a1 rfl,rfl⟩ (.one (tv (.int .i64 (-1)))) ?_;refine o1 ?_;refine nl ?_;refine sq ?_
 refine sq ?_;refine rl ?_;refine o1 ?_;refine o1 ?_;refine nl ?_;refine bP rfl (fun h4=>?_) (fun h4=>?_)
 ·refine sq ?_;refine rl ?_;refine o1 ?_;refine o1 ?_;refine nl ?_;refine rt ?_
  exact kU (lent':=[⟨97,5,(nT vs (dW dl vs)).map .t⟩]) (.inl rfl) rfl (aO (.one (.rf rfl rfl))) (by decide) (fun _ h=>by cases h) ⟨⟨rfl,rfl⟩,trivial⟩ ⟨congrArg (fun l=>some (⟨97,5,l⟩:Ob)) (Vo (Kd hix)),trivial⟩ ⟨lM _,trivial⟩ (fun h=>by cases h) ⟨rfl,by rw[Kd hix]⟩
 exact absurd h4 (by omega)
theorem AD {vs:List (Int×Rat)}(hl:vs.length≤1073741823):aE false Tryz.prog 129 [⟨97,5,eM vs⟩] [.one (.sl 0 0 vs.length)] (Rt [⟨97,5,eM vs⟩] (.one (.t (sR 97 vs)))):=by
 refine Hp Tryz.func129 rfl Tryz.ntmps129 rfl aA rfl fun N M w c0 h0=>?_
 refine sq ?_;refine rl ?_;refine o1 ?_;refine nl ?_;refine sq ?_;refine sq ?_;refine rl ?_;refine o1 ?_;refine nq (fun hn0=>?_) ?_
 ·refine nl ?_;refine gL rfl ?_;refine sq ?_;refine rl ?_;refine o1 ?_;refine nl ?_;refine rt ?_;have hv0:vs=[]:=List.eq_nil_of_length_eq_zero hn0
  exact kU (lent':=[⟨97,5,eM vs⟩]) (.inl rfl) rfl (aO (.one (.nil (t:=97) (z:=5)))) (by decide) (fun _ h=>by cases h) ⟨⟨rfl,rfl⟩,trivial⟩ ⟨rfl,trivial⟩ ⟨lM _,trivial⟩ (fun h=>by cases h) ⟨rfl,by rw[hv0];rfl⟩
 refine nl ?_;refine iH rfl ?_;refine sk ?_;refine sq ?_;refine rl ?_;refine YR 1 ?_;refine o1 ?_
 refine kK (j:=2) (n:=0) (m:=vs.length) (news:=eM vs) aA rfl rfl rfl rfl (.sl rfl rfl) (.sl rfl (List.take_of_length_le (Nat.le_of_eq (mD vs))) (mD vs)) (VK vs) (LR vs) rfl (by omega) (by omega) ?_
 refine o1 ?_;refine nl ?_;refine rt ?_
 exact kU (lent':=[⟨97,5,eM vs⟩]) (.inl rfl) rfl (aO (.one (.sl (trs:=vs.flatMap (cJ false)) rfl rfl (by rw[List.nil_append,Nat.zero_add];exact List.take_of_length_le (Nat.le_of_eq (mD vs))) (by rw[bN,Nat.zero_add])))) (by decide) (by simp) ⟨⟨rfl,rfl⟩,trivial⟩ ⟨rfl,trivial⟩ ⟨lM _,trivial⟩ (fun h=>by cases h) ⟨rfl,by rw[Nat.zero_add];rfl⟩
theorem Fj {t0:Nat}{rest:List Tr}{vs:List (Int×Rat)}{dl:Int×Rat→Bool}{fd:FuncId}{fst caps:List Tr}(hok:CallOk Tryz.prog fd) (hd:∀x∈vs,aE true Tryz.prog fd [] (cP fst++[.agg ((cJ false x).map .t)]++cP caps) (aN (.one (tv (.bool (dl x)))))) (hl:vs.length≤1073741823):aE false Tryz.prog 130 [⟨t0,0,.t (sR 97 vs)::rest.map .t⟩] [.one (.pt 0 0),.one (.t (.f fd fst caps))] (Rt [⟨t0,0,.t (sR 97 (dW dl vs))::rest.map .t⟩] (.tup [])):=by
 refine Hp Tryz.func130 rfl Tryz.ntmps130 rfl aA rfl fun N M w c0 h0=>?_
 refine WP.sub (tZ (j:=0) (key:=1) (p:=0) (e:=97) (z:=5) (n:=vs.length) (trs:=vs.flatMap (cJ false)) rfl rfl rfl rfl rfl) ?_;refine rl ?_;(iterate 4 refine o1 ?_);refine ld ?_
 refine o1 ?_;refine YS [1] (Kb hok hd hl) RC ⟨aQ rfl,rfl⟩ ⟨rfl,rfl,rfl⟩ (ok:=[some ⟨97,5,(nT vs (dW dl vs)).map .t⟩]) ⟨aQ rfl,rfl⟩ ?_;refine o1 ?_;refine o1 ?_
 refine Hq (o:=0) (us:=[.sl 1 0 (dW dl vs).length]) (l:=.sl 1 0 vs.length::rest.map .t) rfl (by simp) ?_
 refine WL.sub (jQ (j:=0) (k:=1) (p:=0) (n:=(dW dl vs).length) (trs:=(dW dl vs).flatMap (cJ false)) rfl rfl rfl rfl rfl (Sv _ _) (bN _ _) rfl) ?_;refine nl ?_
 exact kU (lent':=[⟨t0,0,.t (sR 97 (dW dl vs))::rest.map .t⟩]) (.inr rfl) rfl Hr (by decide) (fun _ h=>by cases h) ⟨⟨rfl,rfl⟩,trivial⟩ ⟨rfl,trivial⟩ ⟨lM (sR _ _::rest),trivial⟩ (fun h=>by cases h) ⟨rfl,rfl⟩
theorem rB {a:Fr4}{p v:Rat}(ha:Qn a p) (hv:Sz 68719476736 v):aE false Tryz.prog 123 [] [qF (.of v),.one (.t (sQ false [a]))] (aN (qF (.of (aZ v [p])))):=by
 have h:=RD (a:=.of v) (xs:=[a]) (Qn.of hv) (fun x hx=>by rw[List.mem_singleton]at hx;rw[hx];exact ha.1) (by simp)
 have e:[a].map Fr4.q=[p]:=by rw[←ha.2];rfl
 rwa[e]at h
theorem LS {t0 i:Nat}{rest:List Tr}{vs:List (Int×Rat)}{a:Fr4}{p:Rat}(ha:Qn a p) (hi:i<vs.length) (hv:Sz 68719476736 (aU vs (i)).2) (hl:vs.length≤1073741823):aE false Tryz.prog 163 [⟨t0,0,.sl 1 0 vs.length::rest.map .t⟩,⟨97,5,eM vs⟩] [.one (.pt 0 0),.one (tv (.int .i64 ((i:Nat):Int))),qF a] (Rt [⟨t0,0,.sl 1 0 vs.length::rest.map .t⟩,⟨97,5,eM (vs.set (i) ((aU vs (i)).1,((aU vs (i)).2-(aZ (aU vs (i)).2 [p]))))⟩] (.agg ((cJ false ((aU vs (i)).1,(aZ (aU vs (i)).2 [p]))).map .t))):=by
 refine Hp Tryz.func163 rfl Tryz.ntmps163 rfl aA rfl fun N M w c0 h0=>?_
 have hn:Sz 68719476736 (aZ (aU vs (i)).2 [p]):=uA hv fun q hq=>by rw[List.mem_singleton]at hq;rw[hq];exact ha.sz
 have hix:i<vs.length:=hi
 refine sq ?_;refine rl ?_;refine bx 2 ?_;refine al 3 ?_;refine nl ?_;refine sq ?_;refine rl ?_;(iterate 3 refine o1 ?_);refine ld ?_;(iterate 3 refine o1 ?_);refine nl ?_
 refine md (γ:=Unit) (fun _=>bS [(6,.one (.pt 2 0)),(7,.one (.pt 1 (0+i*5))),(8,.one (.pt 3 0))]) (fun _=>([⟨t0,0,.sl 1 0 vs.length::rest.map .t⟩,⟨97,5,eM vs⟩,⟨97,0,[tv (.int .i64 0),tv (.bool false),tv (.slice none 0 0),tv (.bool false),tv (.slice none 0 0)]⟩,⟨26,0,((Fr4.of (aZ (aU vs (i)).2 [p])).tr false).map .t⟩]:List Ob).map some) (fun _=>True) ?_ fun _ _=>?_
 ·refine rd [0,1,2,3] (fun i=>[8].contains i) mixed ?_
  refine dv 0 ?_;refine dv 1 ?_;refine dv 2 ?_;refine oO 3 (ED (us:=vs) (k:=i) (by omega)) ?_
  refine aI 4 ?_;refine WO.two (i:=5) (j:=7) (by kernel_rfl) ?_ ?_
  ·refine Fk (key:=4) 5 rfl rfl ⟨rfl,rfl,rfl,rfl,trivial⟩ ?_
   refine jG (i:=20) (k:=4) (t:=26) (t':=49) (z:=4) (n:=1) (l:=[a].flatMap (Fr4.tr false)) rfl rfl rfl rfl (.one .sl) (by rfl) (by rfl) ?_
   refine WO.two (i:=6) (j:=7) (by kernel_rfl) ?_ ?_
   ·refine cX 6 rfl (rB ha hv) vS ⟨aB rfl,a1 rfl,rfl⟩ (qF (.of (aZ (aU vs (i)).2 [p]))) ?_;refine eN (key:=5) 7 (by kernel_rfl) rfl rfl aA rfl ⟨rfl,rfl,rfl,rfl,trivial⟩ ?_
    refine dst 8 ?_;refine aJ ?_;exact⟨(),trivial,gE h0 [0,1,3,5] _ _ (by decide) rfl ⟨rfl,rfl,rfl,trivial⟩ ⟨LT rfl rfl,aQ rfl,oe rfl rfl,aQ rfl,rfl⟩⟩
   refine bI (key:=5) 7 rfl rfl aA rfl ⟨rfl,rfl,rfl,rfl,trivial⟩ ?_;refine aF 6 rfl (rB ha hv) vS ⟨aB rfl,a1 rfl,rfl⟩ (qF (.of (aZ (aU vs (i)).2 [p]))) ?_
   refine dst 8 ?_;refine aJ ?_;exact⟨(),trivial,gE h0 [0,1,3,5] _ _ (by decide) rfl ⟨rfl,rfl,rfl,trivial⟩ ⟨LT rfl rfl,aQ rfl,oe rfl rfl,aQ rfl,rfl⟩⟩
  refine bI (key:=4) 7 rfl rfl aA rfl ⟨rfl,rfl,rfl,rfl,trivial⟩ ?_;refine eZ (key:=5) 5 (by kernel_rfl) rfl rfl aA rfl ⟨rfl,rfl,rfl,rfl,trivial⟩ ?_
  refine jG (i:=20) (k:=5) (t:=26) (t':=49) (z:=4) (n:=1) (l:=[a].flatMap (Fr4.tr false)) rfl rfl rfl rfl (.one .sl) (by rfl) (by rfl) ?_
  refine aF 6 rfl (rB ha hv) vS ⟨aB rfl,a1 rfl,rfl⟩ (qF (.of (aZ (aU vs (i)).2 [p]))) ?_;refine dst 8 ?_;refine aJ ?_
  exact⟨(),trivial,gE h0 [0,1,3,4] _ _ (by decide) rfl ⟨rfl,rfl,rfl,trivial⟩ ⟨LT rfl rfl,aQ rfl,oe rfl rfl,aQ rfl,rfl⟩⟩
 refine sq ?_;refine rd [0,1,2,3] (fun i=>[7,8,9].contains i) mixed ?_
 refine dv 0 ?_;refine dv 1 ?_;refine dv 2 ?_;refine dv 3 ?_;refine oO 4 (ED (us:=vs) (k:=i) (by omega)) ?_
 refine aI 5 ?_
 refine aF 6 rfl (mZ (Qn.of (p:=(aU vs (i)).2) hv) (Qn.of (p:=(aZ (aU vs (i)).2 [p])) hn)) pV ⟨aB rfl,aB rfl,rfl⟩ (qF (.of ((aU vs (i)).2-(aZ (aU vs (i)).2 [p])))) ?_
 refine cR 7 (by kernel_rfl) rfl rfl aA rfl (by trivial) ?_ (fun h=>by first | rfl | cases h)
 refine cR 8 (by kernel_rfl) rfl rfl aA rfl (by trivial) ?_ (fun h=>by first | rfl | cases h)
 refine Sx 9 (RE (us:=vs) (k:=i) (q:=((aU vs (i)).2-(aZ (aU vs (i)).2 [p]))) (by omega)) (GZ (us:=vs) (k:=i) (by omega)) ?_
 refine aJ ?_;refine sq ?_;refine rd [0,1,2,3] (fun i=>[6].contains i) mixed ?_
 refine dv 0 ?_;refine dv 1 ?_;refine dv 2 ?_
 refine LU 3 (EE (us:=(vs.set (i) ((aU vs (i)).1,((aU vs (i)).2-(aZ (aU vs (i)).2 [p]))))) (k:=i) (by rw[List.length_set];omega)) ?_
 refine aI 4 ?_;refine dv 5 ?_;refine dst 6 ?_;refine aJ ?_;refine rt ?_
 exact kU (lent':=[⟨t0,0,.sl 1 0 vs.length::rest.map .t⟩,⟨97,5,eM (vs.set (i) ((aU vs (i)).1,((aU vs (i)).2-(aZ (aU vs (i)).2 [p]))))⟩]) (.inl rfl) rfl (aO (.agg (.cons (.id rfl) (.cons (.id rfl) (.cons (.id rfl) (.cons (.id rfl) (.cons (.id rfl) .nil))))))) (by decide) (fun _ h=>by cases h) ⟨⟨rfl,rfl⟩,⟨rfl,rfl⟩,trivial⟩ ⟨rfl,rfl,trivial⟩ ⟨lM rest,lM _,trivial⟩ (fun h=>by cases h) ⟨rfl,by rw[Ke hi];rfl⟩
def Dg (x:Int×Rat):Bool:=nM x.1 x.2
theorem LV {y:Int}{q:Rat}(hs:Sz 68719476736 q):aE true Tryz.prog 164 [] [.agg ((cJ false (y,q)).map .t)] (aN (.one (tv (.bool (Dg (y,q)))))):=by
 refine bC Tryz.func164 rfl Tryz.ntmps164 rfl aA rfl fun N w c0 h0=>?_
 refine sq ?_;refine rl ?_;refine bx 0 ?_;refine o1 ?_;refine nl ?_;refine sq ?_;refine rl ?_;refine o1 ?_;refine ld ?_
 refine ca (fZ (Qn.of (p:=q) hs)) kL ⟨aB rfl,rfl⟩ (.one (tv (.int .i64 q.num.sign))) ?_;refine o1 ?_;refine o1 ?_;refine nl ?_;refine rt ?_
 exact en (.inl rfl) rfl (aO (bL _)) (by decide) (fun _=>trivial) rfl
theorem Kf {t0 i:Nat}{rest:List Tr}{us vs:List (Int×Rat)}{x:Int×Rat}{a:Fr4}{p:Rat}(ha:Qn a p) (hnx:aU us i=x) (hi:i<us.length) (hul:us.length=vs.length) (hv:Sz 68719476736 x.2) (hl:vs.length≤1073741823):aE false Tryz.prog 163 [⟨t0,0,.sl 1 0 vs.length::rest.map .t⟩,⟨97,5,eM us⟩] [.one (.pt 0 0),.one (tv (.int .i64 ((i:Nat):Int))),qF a] (Rt [⟨t0,0,.sl 1 0 vs.length::rest.map .t⟩,⟨97,5,eM (us.set i (x.1,x.2-aZ x.2 [p]))⟩] (.agg ((cJ false (x.1,aZ x.2 [p])).map .t))):=by
 subst hnx
 rw[←hul]
 exact LS ha hi hv (by omega)
theorem RF {vs:List (Int×Rat)}{last fr:Int}{put:Bool}{a:Fr4}{p:Rat}(ha:Qn a p) (hl:vs.length≤1073741823) (hw:hH (vs.map Prod.snd)+wt p+2*vs.length≤17179869184) (hzU:∀x∈(aW fr vs p).1,Sz 68719476736 x.2):aE false Tryz.prog 127 [⟨136,0,[.t (sR 97 vs),tv (.int .i64 last),tv (.bool put)]⟩] [.one (.pt 0 0),.one (tv (.int .i64 fr)),qF a] (Rt [⟨136,0,[.t (sR 97 (dW Dg (aW fr vs p).1)),tv (.int .i64 last),tv (.bool put)]⟩] (.one (.t (sO 97 (aW fr vs p).2.1)))):=by
 refine Hp Tryz.func127 rfl Tryz.ntmps127 rfl aA rfl fun N M w c0 h0=>?_
 refine WP.sub (tZ (j:=0) (key:=1) (p:=0) (e:=97) (z:=5) (n:=vs.length) (trs:=vs.flatMap (cJ false)) rfl rfl rfl rfl rfl) ?_;refine sq ?_;refine rl ?_;refine bx 2 ?_;refine o1 ?_
 refine nl ?_;refine sq ?_;refine sq ?_;refine rl ?_;refine o1 ?_;refine o1 ?_;refine nl ?_;refine iH rfl ?_;refine sk ?_;refine sq ?_;refine rl ?_;refine o1 ?_;refine nl ?_;refine sq ?_
 refine sq ?_;refine rl ?_;(iterate 4 refine o1 ?_);refine ld ?_;refine o1 ?_;refine o1 ?_;refine nl ?_;refine bl ?_
 refine lp (γ:=Nat×Fr4) (fun s=>bS [(0,.one (.pt 0 0)),(1,.one (tv (.int .i64 fr))),(5,.one (.pt 2 0)),(7,.one (.sl 3 0 ((aW fr (vs.take s.1) p).2.1.length))),(17,.one (.sl 1 0 (vs.length))),(18,.one (tv (.int .i64 ((vs.length:Nat):Int)))),(19,.one (tv (.int .i64 ((s.1:Nat):Int))))]) (fun s=>[(⟨136,0,[.sl 1 0 vs.length,tv (.int .i64 last),tv (.bool put)]⟩:Ob),⟨97,5,eM ((aW fr (vs.take s.1) p).1++vs.drop s.1)⟩,⟨26,0,((s.2).tr false).map .t⟩,⟨97,5,pH (aW fr (vs.take s.1) p).2.1⟩].map some) (fun s=>s.1≤vs.length∧Qn s.2 (aW fr (vs.take s.1) p).2.2∧wt (aW fr (vs.take s.1) p).2.2≤hH ((vs.take s.1).map Prod.snd)+wt p+2*s.1∧(aW fr (vs.take s.1) p).2.1.length≤s.1) (fun s=>vs.length-s.1) (0,a) ⟨Nat.zero_le _,ha,by simp[aW,hH],Nat.le_refl _⟩ ((nr (i:=7) 3 97 5 rfl rfl rfl rfl).trans (gE h0 [0,1,2,3] _ _ (by decide) rfl ⟨rfl,rfl,rfl,rfl,rfl,rfl,rfl,trivial⟩ ⟨oe rfl rfl,aQ rfl,aQ rfl,oe rfl rfl,rfl⟩)) ?_
 rintro⟨k,m⟩ ⟨hk,hm,hb,hgl⟩;dsimp only at hk hm hb hgl⊢;refine sq ?_;refine rl ?_;refine o1 ?_;refine nl ?_;refine sq ?_;refine bP rfl (fun h1=>?_) (fun h1=>?_)
 ·refine sk ?_;refine sq ?_;refine bl ?_;refine sq ?_;have hal:(aW fr (vs.take k) p).1.length=k:=by rw[Kg,List.length_take,Nat.min_eq_left hk]
  have hul:((aW fr (vs.take k) p).1++vs.drop k).length=vs.length:=by rw[List.length_append,hal,List.length_drop];omega
  have hnx:aU ((aW fr (vs.take k) p).1++vs.drop k) k=(aU vs k):=AE (by rw[←Dh (by omega)]) hal
  have hvw:wt (aU vs k).2≤hH (vs.map Prod.snd):=Pb (List.mem_map.2 ⟨_,nG (by omega),rfl⟩)
  have hwk:hH ((vs.take (k+1)).map Prod.snd)=hH ((vs.take k).map Prod.snd)+wt (aU vs k).2:=by rw[kV (by omega),List.map_append,vT];simp[hH]
  have hwl:hH ((vs.take (k+1)).map Prod.snd)≤hH (vs.map Prod.snd):=HC ((List.take_sublist _ _).map _)
  have hszv:Sz 17179869184 (aU vs k).2:=pI.2 (by have h9:wt (aU vs k).2=xM (aU vs k).2+1:=rfl;omega)
  have hszr:Sz 17179869184 (aW fr (vs.take k) p).2.2:=pI.2 (by have h9:wt (aW fr (vs.take k) p).2.2=xM (aW fr (vs.take k) p).2.2+1:=rfl;omega)
  have hszn:Sz 17179869184 (aZ (aU vs k).2 [(aW fr (vs.take k) p).2.2]):=uA hszv (fun q hq=>by rw[List.mem_singleton]at hq;rw[hq];exact hszr)
  have hszm:Sz 68719476736 ((aW fr (vs.take k) p).2.2-(aZ (aU vs k).2 [(aW fr (vs.take k) p).2.2])):=(rC hszr hszn).mono (by omega)
  refine rl ?_;refine o1 ?_;refine o1 ?_
  refine LO (us:=(cJ false (aU vs k)).map .t) (by have h9:=Kc (us:=((aW fr (vs.take k) p).1++vs.drop k)) (k:=k) (by rw[hul];omega);rwa[hnx]at h9) ?_
  refine al 4 ?_;refine o1 ?_;refine st ?_;refine nl ?_;refine sq ?_;refine rl ?_;refine o1 ?_;refine ld ?_;(iterate 3 refine o1 ?_)
  refine WL.split (t:=28) rfl (fun h2=>?_) (fun h2=>?_)
  ·refine ld ?_;refine ca (fZ hm) kL ⟨aB rfl,rfl⟩ (.one (tv (.int .i64 (aW fr (vs.take k) p).2.2.num.sign))) ?_;refine o1 ?_;refine o1 ?_;refine nl ?_
   refine bP rfl (fun h3=>?_) (fun h3=>?_)
   ·refine md (γ:=Unit) (fun _=>bS [(0,.one (.pt 0 0)),(1,.one (tv (.int .i64 fr))),(5,.one (.pt 2 0)),(7,.one (.sl 3 0 ((aW fr (vs.take k) p).2.1.length))),(17,.one (.sl 1 0 (vs.length))),(18,.one (tv (.int .i64 ((vs.length:Nat):Int)))),(19,.one (tv (.int .i64 ((k:Nat):Int)))),(10,.one (.pt 4 0))]) (fun _=>([⟨136,0,[.sl 1 0 vs.length,tv (.int .i64 last),tv (.bool put)]⟩,⟨97,5,eM (((aW fr (vs.take k) p).1++vs.drop k).set (k) ((aU vs k).1,((aU vs k).2-(aZ (aU vs k).2 [(aW fr (vs.take k) p).2.2]))))⟩,⟨26,0,(m.tr false).map .t⟩,⟨97,5,pH (aW fr (vs.take k) p).2.1⟩,⟨97,0,(cJ false ((aU vs k).1,(aZ (aU vs k).2 [(aW fr (vs.take k) p).2.2]))).map .t⟩]:List Ob).map some) (fun _=>True) ?_ fun _ _=>?_
    ·refine rd [2,4] (fun i=>[7].contains i) mixed ?_
     refine dv 0 ?_;refine dv 1 ?_;refine dv 2 ?_;refine dv 3 ?_;refine aI 4 ?_;refine WO.two (i:=5) (j:=6) (by kernel_rfl) ?_ ?_
     ·have htk:=Kf (t0:=136) (rest:=[.v (.int .i64 last),.v (.bool put)]) (x:=(aU vs k)) hm (us:=((aW fr (vs.take k) p).1++vs.drop k)) (i:=k) hnx (by rw[hul];omega) hul (hszv.mono (by omega)) hl
      refine Pc 5 5 [0,1] rfl htk EF ⟨oe rfl rfl,aQ rfl,rfl⟩ ⟨rfl,rfl,rfl,rfl⟩ (ok:=[some ⟨136,0,[.sl 1 0 vs.length,tv (.int .i64 last),tv (.bool put)]⟩,some ⟨97,5,eM (((aW fr (vs.take k) p).1++vs.drop k).set (k) ((aU vs k).1,((aU vs k).2-(aZ (aU vs k).2 [(aW fr (vs.take k) p).2.2]))))⟩]) ⟨oe rfl rfl,aQ rfl,rfl⟩ ⟨rfl,rfl,trivial⟩ ?_
      refine eN (key:=5) 6 (by kernel_rfl) rfl rfl aA rfl ⟨rfl,rfl,trivial⟩ ?_
      refine dst 7 ?_;refine aJ ?_
      exact⟨(),trivial,gE h0 [0,1,2,3,5] _ _ (by decide) rfl ⟨rfl,rfl,rfl,rfl,rfl,rfl,rfl,rfl,trivial⟩ ⟨oe rfl rfl,aQ rfl,aQ rfl,aQ rfl,aQ rfl,rfl⟩⟩
     refine bI (key:=5) 6 rfl rfl aA rfl ⟨rfl,rfl,trivial⟩ ?_
     have htk:=Kf (t0:=136) (rest:=[.v (.int .i64 last),.v (.bool put)]) (x:=(aU vs k)) hm (us:=((aW fr (vs.take k) p).1++vs.drop k)) (i:=k) hnx (by rw[hul];omega) hul (hszv.mono (by omega)) hl
     refine uC 5 6 [0,1] rfl htk EF ⟨oe rfl rfl,aQ rfl,rfl⟩ ⟨rfl,rfl,rfl,rfl⟩ (ok:=[some ⟨136,0,[.sl 1 0 vs.length,tv (.int .i64 last),tv (.bool put)]⟩,some ⟨97,5,eM (((aW fr (vs.take k) p).1++vs.drop k).set (k) ((aU vs k).1,((aU vs k).2-(aZ (aU vs k).2 [(aW fr (vs.take k) p).2.2]))))⟩]) ⟨oe rfl rfl,aQ rfl,rfl⟩ ⟨rfl,rfl,trivial⟩ ?_
     refine dst 7 ?_;refine aJ ?_
     exact⟨(),trivial,gE h0 [0,1,2,3,5] _ _ (by decide) rfl ⟨rfl,rfl,rfl,rfl,rfl,rfl,rfl,rfl,trivial⟩ ⟨oe rfl rfl,aQ rfl,aQ rfl,aQ rfl,aQ rfl,rfl⟩⟩
    refine rd [0,2,4] (fun i=>[10].contains i) mixed ?_
    refine dv 0 ?_;refine aI 1 ?_;refine aI 5 ?_;refine dv 6 ?_;refine aI 7 ?_
    refine kG 5 2 rfl (zM (y:=(aU vs k).1) (Qn.of (p:=(aZ (aU vs k).2 [(aW fr (vs.take k) p).2.2])) hszn)) Jd ⟨aB rfl,rfl⟩ ?_
    refine eZ (key:=7) 3 (by kernel_rfl) rfl rfl aA rfl ⟨rfl,rfl,rfl,trivial⟩ ?_
    refine nU (j:=8) 4 rfl aA rfl rfl rfl (.sl rfl (zN _)) (.sl rfl rfl rfl) rfl rfl (by omega) (by omega) rfl ⟨rfl,rfl,rfl,trivial⟩ rfl (by kernel_rfl) rfl ?_
    refine aF 8 rfl (mZ hm (Qn.of (p:=(aZ (aU vs k).2 [(aW fr (vs.take k) p).2.2])) hszn)) pV ⟨aB rfl,aB rfl,rfl⟩ (qF (.of ((aW fr (vs.take k) p).2.2-(aZ (aU vs k).2 [(aW fr (vs.take k) p).2.2])))) ?_
    refine cR 9 (by kernel_rfl) rfl rfl aA rfl (by trivial) ?_ (fun h=>by first | rfl | cases h)
    refine dst 10 ?_;refine aJ ?_;refine rl ?_;refine o1 ?_;refine WL.cast (t:=48) (u':=.int .i64 ((k+1:Nat):Int)) rfl (aH (by omega)) ?_
    refine o1 ?_;refine nl ?_;have hst:=(xN (fr:=fr) p (by omega:k<vs.length)).trans (rD (s:=(aW fr (vs.take k) p)) (y:=(aU vs k).1) (q:=(aU vs k).2) h2 h3)
    refine⟨(k+1,Fr4.of ((aW fr (vs.take k) p).2.2-(aZ (aU vs k).2 [(aW fr (vs.take k) p).2.2]))),by dsimp only;omega,?_,?_⟩
    ·dsimp only
     rw[hst]
     exact⟨by omega,Qn.of hszm,by dsimp only;have h9:=HD (aU vs k).2 (aW fr (vs.take k) p).2.2;omega,by dsimp only;rw[List.length_append,List.length_singleton];omega⟩
    dsimp only
    rw[hst];dsimp only
    exact(VA (j:=8) (k1:=5) (k2:=6) (us:=(aW fr (vs.take k) p).2.1) (y:=(aU vs k).1) (q:=(aZ (aU vs k).2 [(aW fr (vs.take k) p).2.2])) rfl rfl rfl rfl rfl rfl).trans (gE h0 [0,1,2,8] _ _ (by decide) rfl ⟨rfl,rfl,rfl,congrArg (fun n=>some (FV.one (.sl 8 0 n))) (show((aW fr (vs.take k) p).2.1++[((aU vs k).1,(aZ (aU vs k).2 [(aW fr (vs.take k) p).2.2]))]).length=(aW fr (vs.take k) p).2.1.length+1 by simp),rfl,rfl,rfl,trivial⟩ ⟨oe rfl rfl,aQ (congrArg (fun l=>some (⟨97,5,eM l⟩:Ob)) (by rw[AF (x:=(aU vs k)) (by rw[←Dh (by omega)]) hal,List.append_assoc])),aQ rfl,aQ rfl,rfl⟩)
   refine sk ?_;refine rl ?_;refine o1 ?_;refine WL.cast (t:=48) (u':=.int .i64 ((k+1:Nat):Int)) rfl (aH (by omega)) ?_
   refine o1 ?_;refine nl ?_;have hst:=(xN (fr:=fr) p (by omega:k<vs.length)).trans (qP (s:=(aW fr (vs.take k) p)) (x:=(aU vs k)) (fun hc=>h3 hc.2))
   refine⟨(k+1,m),by dsimp only;omega,?_,?_⟩
   ·dsimp only
    rw[hst];exact⟨by omega,hm,by dsimp only;omega,by dsimp only;omega⟩
   dsimp only
   rw[hst];dsimp only
   exact(gE h0 [0,1,2,3] _ _ (by decide) rfl ⟨rfl,rfl,rfl,rfl,rfl,rfl,rfl,trivial⟩ ⟨oe rfl rfl,aQ (congrArg (fun l=>some (⟨97,5,eM l⟩:Ob)) (by rw[Dh (k:=k) (by omega),List.append_assoc];rfl)),aQ rfl,aQ rfl,rfl⟩)
  (iterate 3 refine bF ?_);refine o1 ?_;refine nl ?_;refine iH rfl ?_;refine sk ?_;refine rl ?_;refine o1 ?_
  refine WL.cast (t:=48) (u':=.int .i64 ((k+1:Nat):Int)) rfl (aH (by omega)) ?_
  refine o1 ?_;refine nl ?_;have hst:=(xN (fr:=fr) p (by omega:k<vs.length)).trans (qP (s:=(aW fr (vs.take k) p)) (x:=(aU vs k)) (fun hc=>h2 hc.1))
  refine⟨(k+1,m),by dsimp only;omega,?_,?_⟩
  ·dsimp only
   rw[hst];exact⟨by omega,hm,by dsimp only;omega,by dsimp only;omega⟩
  dsimp only
  rw[hst];dsimp only
  exact(gE h0 [0,1,2,3] _ _ (by decide) rfl ⟨rfl,rfl,rfl,rfl,rfl,rfl,rfl,trivial⟩ ⟨oe rfl rfl,aQ (congrArg (fun l=>some (⟨97,5,eM l⟩:Ob)) (by rw[Dh (k:=k) (by omega),List.append_assoc];rfl)),aQ rfl,aQ rfl,rfl⟩)
 refine ex ?_;refine sq ?_;refine rl ?_;(iterate 3 refine o1 ?_);have hkk:vs.take k=vs:=List.take_of_length_le (by omega)
 have hU9:((aW fr (vs.take k) p).1++vs.drop k)=(aW fr vs p).1:=by rw[hkk,List.drop_of_length_le (by omega),List.append_nil]
 have hG9:(aW fr (vs.take k) p).2.1=(aW fr vs p).2.1:=by rw[hkk]
 have hul9:(aW fr vs p).1.length=vs.length:=Kg fr vs p
 refine WL.sub (jQ (j:=0) (k:=1) (p:=0) (n:=vs.length) (trs:=(aW fr vs p).1.flatMap (cJ false)) rfl rfl rfl (congrArg (fun l=>some (⟨97,5,eM l⟩:Ob)) hU9) rfl (cC _ _ (by rw[bN,hul9])) (by rw[bN,hul9]) rfl) ?_
 have hsw:=Fj (t0:=136) (rest:=[.v (.int .i64 last),.v (.bool put)]) (vs:=(aW fr vs p).1) (dl:=Dg) (fst:=[]) (caps:=[]) RG (fun x hx=>LV (y:=x.1) (q:=x.2) (hzU x hx)) (by rw[hul9];exact hl)
 rw[show sR 97 (aW fr vs p).1=.s true 97 5 vs.length ((aW fr vs p).1.flatMap (cJ false)) by rw[←hul9];rfl]at hsw
 refine cl 4 [0] hsw Sy ⟨oe rfl rfl,rfl⟩ ⟨rfl,rfl,rfl⟩ (ok:=[some ⟨136,0,[.t (sR 97 (dW Dg (aW fr vs p).1)),tv (.int .i64 last),tv (.bool put)]⟩]) ⟨oe rfl rfl,rfl⟩ ?_
 refine nl ?_;refine sq ?_;refine rl ?_;refine o1 ?_;refine o1 ?_;refine nl ?_;refine rt ?_
 exact kU (lent':=[⟨136,0,[.t (sR 97 (dW Dg (aW fr vs p).1)),tv (.int .i64 last),tv (.bool put)]⟩]) (.inl rfl) rfl (aO (.one (.sl (trs:=(aW fr (vs.take k) p).2.1.flatMap (cJ true)) rfl rfl (cC _ _ (bN true _)) (bN true _)))) (by decide) (by simp) ⟨⟨rfl,rfl⟩,trivial⟩ ⟨rfl,trivial⟩ ⟨rfl,trivial⟩ (fun h=>by cases h) ⟨rfl,by rw[hG9];rfl⟩
theorem Vp {y b:Int}{q:Rat}:aE true Tryz.prog 128 [] [.agg ((cJ false (y,q)).map .t),.one (.t (.p false 3 [.v (.int .i64 b)]))] (aN (.one (tv (.bool (decide (y<b)))))):=by
 refine bC Tryz.func128 rfl Tryz.ntmps128 rfl aA rfl fun N w c0 h0=>?_
 refine WP.sub (pJ (i:=1) rfl rfl) ?_;refine sq ?_;refine rl ?_;refine bx 0 ?_;refine o1 ?_;refine nl ?_;refine sq ?_;refine rl ?_;refine o1 ?_;refine ld ?_
 refine cW ([.v (.int .i64 b)]) rfl ?_;refine o1 ?_;refine o1 ?_;refine nl ?_;refine rt ?_;exact en (.inl rfl) rfl (aO (bL _)) (by decide) (fun _=>trivial) rfl
theorem LW {y b:Int}{q:Rat}:aE true Tryz.prog 131 [] [.agg ((cJ false (y,q)).map .t),.one (.t (.p false 169 [.f 128 [] [.p false 3 [.v (.int .i64 b)]]]))] (aN (.one (tv (.bool (!decide (y<b)))))):=by
 refine bC Tryz.func131 rfl Tryz.ntmps131 rfl aA rfl fun N w c0 h0=>?_
 refine WP.sub (pJ (i:=1) rfl rfl) ?_;refine sq ?_;refine rl ?_;refine bx 0 ?_;refine o1 ?_;refine nl ?_;refine sq ?_;refine rl ?_
 refine cW ([.f 128 [] [.p false 3 [.v (.int .i64 b)]]]) rfl ?_;refine ld ?_
 refine ce 1 [.agg [tv (.int .i64 y),tv (.bool (aL q.num)),.t (sU false (dg 4294967296 q.num.natAbs)),tv (.bool false),.t (sU false (dg 4294967296 q.den))]] rfl (Vp (y:=y) (q:=q) (b:=b)) EG ⟨rfl,rfl⟩ ?_
 refine o1 ?_;refine o1 ?_;refine nl ?_;refine rt ?_;exact en (.inl rfl) rfl (aO (bL _)) (by decide) (fun _=>trivial) rfl
theorem AG {vs:List (Int×Rat)}{last b:Int}{put:Bool}(hl:vs.length≤1073741823) (hz:∀x∈vs,Sz 68719476736 x.2):aE false Tryz.prog 87 [⟨136,0,[.t (sR 97 vs),tv (.int .i64 last),tv (.bool put)]⟩] [.one (.pt 0 0),.one (tv (.int .i64 b))] (Rt [⟨136,0,[.t (sR 97 (dW (fun x:Int×Rat=>decide (x.1<b)) vs)),tv (.int .i64 last),tv (.bool put)]⟩] (.one (.t (sO 97 (dW (fun x:Int×Rat=> !decide (x.1<b)) vs))))):=by
 refine Hp Tryz.func87 rfl Tryz.ntmps87 rfl aA rfl fun N M w c0 h0=>?_
 refine WP.sub (tZ (j:=0) (key:=1) (p:=0) (e:=97) (z:=5) (n:=vs.length) (trs:=vs.flatMap (cJ false)) rfl rfl rfl rfl rfl) ?_;refine sq ?_;refine rl ?_;refine bx 2 ?_
 refine WL.sub (xB (i:=3) (k:=2) (t:=3) (l:=[.v (.int .i64 b)]) rfl rfl rfl (.one .sl)) ?_;refine o1 ?_;refine nl ?_;refine sq ?_;refine sq ?_;refine rl ?_;refine o1 ?_;refine o1 ?_
 refine nl ?_;refine iH rfl ?_;refine sk ?_;refine sq ?_;refine rl ?_;refine o1 ?_;refine al 3 ?_;refine st ?_
 refine WL.sub (xB (i:=5) (k:=3) (t:=169) (l:=[.f 128 [] [.p false 3 [.v (.int .i64 b)]]]) rfl rfl rfl (.one .sl)) ?_;refine nl ?_;refine sq ?_;refine rl ?_;(iterate 4 refine o1 ?_)
 refine ld ?_;refine cl 4 [1] (AD hl) RH ⟨aQ rfl,rfl⟩ ⟨rfl,rfl⟩ (ok:=[some ⟨97,5,eM vs⟩]) ⟨aQ rfl,rfl⟩ ?_;refine o1 ?_;refine bx 5 ?_;refine o1 ?_;refine nl ?_;refine sq ?_
 refine rl ?_;refine o1 ?_;refine o1 ?_
 refine WL.sub (jQ (j:=5) (k:=4) (p:=0) (n:=vs.length) (trs:=vs.flatMap (cJ false)) rfl rfl rfl rfl rfl (cC _ _ (bN false _)) (bN false _) rfl) ?_
 refine cl 6 [5] (Fj (t0:=134) (rest:=[]) (dl:=(fun x:Int×Rat=> !decide (x.1<b))) (fst:=[]) (caps:=[.p false 169 [.f 128 [] [.p false 3 [.v (.int .i64 b)]]]]) RI (fun x _=>LW (y:=x.1) (q:=x.2)) hl) Sy ⟨oe rfl rfl,rfl⟩ ⟨rfl,rfl,rfl⟩ (ok:=[some ⟨134,0,[.t (sR 97 (dW (fun x:Int×Rat=> !decide (x.1<b)) vs))]⟩]) ⟨oe rfl rfl,rfl⟩ ?_
 refine nl ?_;refine sq ?_
 refine WP.sub (jQ (j:=0) (k:=1) (p:=0) (n:=vs.length) (trs:=vs.flatMap (cJ false)) rfl rfl rfl rfl rfl (cC _ _ (bN false _)) (bN false _) rfl) ?_
 refine WP.sub (pJ (i:=5) rfl rfl) ?_;refine rd [5] (fun i=>[].contains i) mixed ?_
 refine dv 0 ?_;refine dv 1 ?_;refine dv 2 ?_;refine cM 3 ([.f 128 [] [.p false 3 [.v (.int .i64 b)]]]) rfl ?_
 refine uC 4 6 [0] rfl (Fj (t0:=136) (rest:=[.v (.int .i64 last),.v (.bool put)]) (dl:=(fun x:Int×Rat=>decide (x.1<b))) (fst:=[]) (caps:=[.p false 3 [.v (.int .i64 b)]]) EG (fun x _=>Vp (y:=x.1) (q:=x.2)) hl) Sy ⟨oe rfl rfl,rfl⟩ ⟨rfl,rfl,rfl⟩ (ok:=[some ⟨136,0,[.t (sR 97 (dW (fun x:Int×Rat=>decide (x.1<b)) vs)),tv (.int .i64 last),tv (.bool put)]⟩]) ⟨oe rfl rfl,rfl⟩ ⟨rfl,trivial⟩ ?_
 refine aJ ?_;refine sq ?_;refine rl ?_;refine o1 ?_
 refine iI 6 (Vq (vs:=(dW (fun x:Int×Rat=> !decide (x.1<b)) vs)) (rest:=[]) (fun x hx=>hz x (List.mem_filter.1 hx).1) (Nat.le_trans (List.length_filter_le _ _) hl)) LX ⟨Df rfl (.pe (trs:=[sR 97 (dW (fun x:Int×Rat=> !decide (x.1<b)) vs)]) rfl rfl rfl (by simp[rdTL,gR,sR,sV,Di])),rfl⟩ ?_
 refine o1 ?_;refine nl ?_;refine rt ?_
 exact kU (lent':=[⟨136,0,[.t (sR 97 (dW (fun x:Int×Rat=>decide (x.1<b)) vs)),tv (.int .i64 last),tv (.bool put)]⟩]) (.inl rfl) rfl (aO (.one (.sl (trs:=(dW (fun x:Int×Rat=> !decide (x.1<b)) vs).flatMap (cJ true)) rfl rfl (cC _ _ (bN true _)) (bN true _)))) (by decide) (by simp) ⟨⟨rfl,rfl⟩,trivial⟩ ⟨rfl,trivial⟩ ⟨rfl,trivial⟩ (fun h=>by cases h) ⟨rfl,rfl⟩
theorem RJ {vs:List (Int×Rat)}{last y:Int}{put:Bool}{a:Fr4}{q:Rat}(ha:Qn a q) (hl:vs.length≤1073741822):aE false Tryz.prog 126 [⟨136,0,[.t (sR 97 vs),tv (.int .i64 last),tv (.bool put)]⟩] [.one (.pt 0 0),.one (tv (.int .i64 y)),qF a] (Rt [⟨136,0,[.t (sR 97 (lG (eA (bD a.s a.x a.t a.y) q y last put) q y vs)),tv (.int .i64 (xO (eA (bD a.s a.x a.t a.y) q y last put) y last)),tv (.bool (xP (eA (bD a.s a.x a.t a.y) q y last put) put))]⟩] (.one (tv (.int .i64 (eA (bD a.s a.x a.t a.y) q y last put))))):=by
 refine Hp Tryz.func126 rfl Tryz.ntmps126 rfl aA rfl fun N M w c0 h0=>?_
 refine WP.sub (tZ (j:=0) (key:=1) (p:=0) (e:=97) (z:=5) (n:=vs.length) (trs:=vs.flatMap (cJ false)) rfl rfl rfl rfl rfl) ?_;refine sq ?_;refine rl ?_;refine bx 2 ?_;refine o1 ?_
 refine nl ?_;refine sq ?_;refine bl ?_;refine sq ?_;refine rl ?_;(iterate 3 refine o1 ?_);refine nl ?_;refine iH rfl ?_;refine sq ?_;refine rl ?_;refine ld ?_
 refine ca (vU ha.1) Kh ⟨aB rfl,rfl⟩ (.one (tv (.bool (bD a.s a.x a.t a.y)))) ?_;refine WL.splitb (t:=12) rfl (fun h1=>?_) (fun h1=>?_)
 ·refine o1 ?_;refine o1 ?_;refine ld ?_;refine ca (fZ ha) kL ⟨aB rfl,rfl⟩ (.one (tv (.int .i64 q.num.sign))) ?_;(iterate 3 refine o1 ?_);refine nl ?_
  refine bP rfl (fun h2=>?_) (fun h2=>?_)
  ·refine sq ?_;refine rl ?_
   refine WL.sub (jQ (j:=0) (k:=1) (p:=0) (n:=vs.length) (trs:=vs.flatMap (cJ false)) rfl rfl rfl rfl rfl (cC _ _ (bN false _)) (bN false _) rfl) ?_;refine o1 ?_
   refine nl ?_;refine rt ?_;have hpe:(eA (bD a.s a.x a.t a.y) q y last put)=2:=by unfold eA;rw[h1,decide_eq_true h2];rfl
   exact kU (lent':=[⟨136,0,[.t (sR 97 (lG (eA (bD a.s a.x a.t a.y) q y last put) q y vs)),tv (.int .i64 (xO (eA (bD a.s a.x a.t a.y) q y last put) y last)),tv (.bool (xP (eA (bD a.s a.x a.t a.y) q y last put) put))]⟩]) (.inl rfl) rfl (aO (bL _)) (by decide) (fun _ h=>by cases h) ⟨⟨rfl,rfl⟩,trivial⟩ ⟨(by rw[hpe];rfl),trivial⟩ ⟨rfl,trivial⟩ (fun h=>by cases h) ⟨rfl,by rw[hpe]⟩
  refine sq ?_;refine rl ?_;(iterate 3 refine o1 ?_);refine ld ?_;refine o1 ?_;refine WL.splitb (t:=24) rfl (fun h3=>?_) (fun h3=>?_)
  ·(iterate 4 refine o1 ?_);refine ld ?_;(iterate 3 refine o1 ?_);refine nl ?_;refine bP rfl (fun h4=>?_) (fun h4=>?_)
   ·refine sq ?_;refine rl ?_
    refine WL.sub (jQ (j:=0) (k:=1) (p:=0) (n:=vs.length) (trs:=vs.flatMap (cJ false)) rfl rfl rfl rfl rfl (cC _ _ (bN false _)) (bN false _) rfl) ?_
    refine o1 ?_;refine nl ?_;refine rt ?_;have hpe:(eA (bD a.s a.x a.t a.y) q y last put)=4:=by unfold eA;rw[h1,decide_eq_false h2,h3,decide_eq_true h4];rfl
    exact kU (lent':=[⟨136,0,[.t (sR 97 (lG (eA (bD a.s a.x a.t a.y) q y last put) q y vs)),tv (.int .i64 (xO (eA (bD a.s a.x a.t a.y) q y last put) y last)),tv (.bool (xP (eA (bD a.s a.x a.t a.y) q y last put) put))]⟩]) (.inl rfl) rfl (aO (bL _)) (by decide) (fun _ h=>by cases h) ⟨⟨rfl,rfl⟩,trivial⟩ ⟨(by rw[hpe];rfl),trivial⟩ ⟨rfl,trivial⟩ (fun h=>by cases h) ⟨rfl,by rw[hpe]⟩
   refine sk ?_;refine sq ?_;refine rl ?_;(iterate 5 refine o1 ?_);refine st ?_;refine o1 ?_;refine o1 ?_;refine st ?_;refine nl ?_;refine sq ?_;refine sq ?_
   obtain rfl:=(ha.right h1).symm
   refine rl ?_;refine ld ?_;refine ca (fZ ha) kL ⟨aB rfl,rfl⟩ (.one (tv (.int .i64 q.num.sign))) ?_;refine o1 ?_;refine nl ?_;refine bP rfl (fun h5=>?_) (fun h5=>?_)
   ·refine rd [0,2] (fun i=>[12,13,14,15].contains i) mixed ?_
    refine dv 0 ?_;refine dv 1 ?_;refine dv 2 ?_;refine dv 3 ?_;refine dv 4 ?_;refine aI 5 ?_;refine dv 6 ?_;refine aI 7 ?_;refine dv 8 ?_
    refine aF 9 rfl (zM (y:=y) ha) Jd ⟨aB rfl,rfl⟩ (.agg ((cJ false (y,q)).map .t)) ?_;refine eZ (key:=3) 10 (by kernel_rfl) rfl rfl aA rfl ⟨rfl,rfl,trivial⟩ ?_
    refine nU (j:=4) (n:=vs.length) (l:=eM vs) 11 rfl aA rfl rfl rfl (.sl rfl (mD _)) (.sl rfl rfl rfl) rfl rfl (by omega) (by omega) rfl ⟨rfl,rfl,trivial⟩ rfl (by kernel_rfl) rfl ?_
    refine cR 12 (by kernel_rfl) rfl rfl aA rfl (by trivial) ?_ (fun h=>by first | rfl | cases h)
    refine cR 13 (by kernel_rfl) rfl rfl aA rfl (by trivial) ?_ (fun h=>by first | rfl | cases h)
    refine cR 14 (by kernel_rfl) rfl rfl aA rfl (by trivial) ?_ (fun h=>by first | rfl | cases h)
    refine dst 15 ?_;refine aJ ?_;refine sq ?_;refine rl ?_
    refine WL.sub (jQ (j:=0) (k:=4) (p:=0) (n:=vs.length+1) (trs:=(vs++[(y,q)]).flatMap (cJ false)) rfl rfl rfl (congrArg (fun l=>some (⟨97,5,l⟩:Ob)) (Ki vs (y,q))) rfl (cC _ _ (by rw[bN,List.length_append];rfl)) (by rw[bN,List.length_append];rfl) rfl) ?_
    refine o1 ?_;refine nl ?_;refine rt ?_
    have hpe:(eA (bD (Fr4.of q).s (Fr4.of q).x (Fr4.of q).t (Fr4.of q).y) q y last put)=0:=by unfold eA;rw[h1,decide_eq_false h2,h3,decide_eq_false h4];rfl
    have hpl:lG 0 q y vs=(vs++[(y,q)]):=by unfold lG;rw[decide_eq_true h5];rfl
    exact kU (lent':=[⟨136,0,[.t (sR 97 (lG (eA (bD (Fr4.of q).s (Fr4.of q).x (Fr4.of q).t (Fr4.of q).y) q y last put) q y vs)),tv (.int .i64 (xO (eA (bD (Fr4.of q).s (Fr4.of q).x (Fr4.of q).t (Fr4.of q).y) q y last put) y last)),tv (.bool (xP (eA (bD (Fr4.of q).s (Fr4.of q).x (Fr4.of q).t (Fr4.of q).y) q y last put) put))]⟩]) (.inl rfl) rfl (aO (bL _)) (by decide) (fun _ h=>by cases h) ⟨⟨rfl,rfl⟩,trivial⟩ ⟨(by rw[hpe,hpl];rw[show sR 97 (vs++[(y,q)])=.s true 97 5 (vs.length+1) ((vs++[(y,q)]).flatMap (cJ false)) by rw[sR,List.length_append];rfl];rfl),trivial⟩ ⟨rfl,trivial⟩ (fun h=>by cases h) ⟨rfl,by rw[hpe]⟩
   refine sk ?_;refine sq ?_;refine rl ?_
   refine WL.sub (jQ (j:=0) (k:=1) (p:=0) (n:=vs.length) (trs:=vs.flatMap (cJ false)) rfl rfl rfl rfl rfl (cC _ _ (bN false _)) (bN false _) rfl) ?_
   refine o1 ?_;refine nl ?_;refine rt ?_
   have hpe:(eA (bD (Fr4.of q).s (Fr4.of q).x (Fr4.of q).t (Fr4.of q).y) q y last put)=0:=by unfold eA;rw[h1,decide_eq_false h2,h3,decide_eq_false h4];rfl
   have hpl:lG 0 q y vs=vs:=by unfold lG;rw[decide_eq_false h5];rfl
   exact kU (lent':=[⟨136,0,[.t (sR 97 (lG (eA (bD (Fr4.of q).s (Fr4.of q).x (Fr4.of q).t (Fr4.of q).y) q y last put) q y vs)),tv (.int .i64 (xO (eA (bD (Fr4.of q).s (Fr4.of q).x (Fr4.of q).t (Fr4.of q).y) q y last put) y last)),tv (.bool (xP (eA (bD (Fr4.of q).s (Fr4.of q).x (Fr4.of q).t (Fr4.of q).y) q y last put) put))]⟩]) (.inl rfl) rfl (aO (bL _)) (by decide) (fun _ h=>by cases h) ⟨⟨rfl,rfl⟩,trivial⟩ ⟨(by rw[hpe,hpl];rfl),trivial⟩ ⟨rfl,trivial⟩ (fun h=>by cases h) ⟨rfl,by rw[hpe]⟩
  (iterate 6 refine bF ?_);refine o1 ?_;refine o1 ?_;refine nl ?_;refine iH rfl ?_;refine sk ?_;refine sq ?_;refine rl ?_;(iterate 5 refine o1 ?_);refine st ?_;refine o1 ?_
  refine o1 ?_;refine st ?_;refine nl ?_;refine sq ?_;refine sq ?_;obtain rfl:=(ha.right h1).symm
  refine rl ?_;refine ld ?_;refine ca (fZ ha) kL ⟨aB rfl,rfl⟩ (.one (tv (.int .i64 q.num.sign))) ?_;refine o1 ?_;refine nl ?_;refine bP rfl (fun h6=>?_) (fun h6=>?_)
  ·refine rd [0,2] (fun i=>[12,13,14,15].contains i) mixed ?_
   refine dv 0 ?_;refine dv 1 ?_;refine dv 2 ?_;refine dv 3 ?_;refine dv 4 ?_;refine aI 5 ?_;refine dv 6 ?_;refine aI 7 ?_;refine dv 8 ?_
   refine aF 9 rfl (zM (y:=y) ha) Jd ⟨aB rfl,rfl⟩ (.agg ((cJ false (y,q)).map .t)) ?_;refine eZ (key:=3) 10 (by kernel_rfl) rfl rfl aA rfl ⟨rfl,rfl,trivial⟩ ?_
   refine nU (j:=4) (n:=vs.length) (l:=eM vs) 11 rfl aA rfl rfl rfl (.sl rfl (mD _)) (.sl rfl rfl rfl) rfl rfl (by omega) (by omega) rfl ⟨rfl,rfl,trivial⟩ rfl (by kernel_rfl) rfl ?_
   refine cR 12 (by kernel_rfl) rfl rfl aA rfl (by trivial) ?_ (fun h=>by first | rfl | cases h)
   refine cR 13 (by kernel_rfl) rfl rfl aA rfl (by trivial) ?_ (fun h=>by first | rfl | cases h)
   refine cR 14 (by kernel_rfl) rfl rfl aA rfl (by trivial) ?_ (fun h=>by first | rfl | cases h)
   refine dst 15 ?_;refine aJ ?_;refine sq ?_;refine rl ?_
   refine WL.sub (jQ (j:=0) (k:=4) (p:=0) (n:=vs.length+1) (trs:=(vs++[(y,q)]).flatMap (cJ false)) rfl rfl rfl (congrArg (fun l=>some (⟨97,5,l⟩:Ob)) (Ki vs (y,q))) rfl (cC _ _ (by rw[bN,List.length_append];rfl)) (by rw[bN,List.length_append];rfl) rfl) ?_
   refine o1 ?_;refine nl ?_;refine rt ?_
   have hpe:(eA (bD (Fr4.of q).s (Fr4.of q).x (Fr4.of q).t (Fr4.of q).y) q y last put)=0:=by unfold eA;rw[h1,decide_eq_false h2,h3];rfl
   have hpl:lG 0 q y vs=(vs++[(y,q)]):=by unfold lG;rw[decide_eq_true h6];rfl
   exact kU (lent':=[⟨136,0,[.t (sR 97 (lG (eA (bD (Fr4.of q).s (Fr4.of q).x (Fr4.of q).t (Fr4.of q).y) q y last put) q y vs)),tv (.int .i64 (xO (eA (bD (Fr4.of q).s (Fr4.of q).x (Fr4.of q).t (Fr4.of q).y) q y last put) y last)),tv (.bool (xP (eA (bD (Fr4.of q).s (Fr4.of q).x (Fr4.of q).t (Fr4.of q).y) q y last put) put))]⟩]) (.inl rfl) rfl (aO (bL _)) (by decide) (fun _ h=>by cases h) ⟨⟨rfl,rfl⟩,trivial⟩ ⟨(by rw[hpe,hpl];rw[show sR 97 (vs++[(y,q)])=.s true 97 5 (vs.length+1) ((vs++[(y,q)]).flatMap (cJ false)) by rw[sR,List.length_append];rfl];rfl),trivial⟩ ⟨rfl,trivial⟩ (fun h=>by cases h) ⟨rfl,by rw[hpe]⟩
  refine sk ?_;refine sq ?_;refine rl ?_
  refine WL.sub (jQ (j:=0) (k:=1) (p:=0) (n:=vs.length) (trs:=vs.flatMap (cJ false)) rfl rfl rfl rfl rfl (cC _ _ (bN false _)) (bN false _) rfl) ?_
  refine o1 ?_;refine nl ?_;refine rt ?_
  have hpe:(eA (bD (Fr4.of q).s (Fr4.of q).x (Fr4.of q).t (Fr4.of q).y) q y last put)=0:=by unfold eA;rw[h1,decide_eq_false h2,h3];rfl
  have hpl:lG 0 q y vs=vs:=by unfold lG;rw[decide_eq_false h6];rfl
  exact kU (lent':=[⟨136,0,[.t (sR 97 (lG (eA (bD (Fr4.of q).s (Fr4.of q).x (Fr4.of q).t (Fr4.of q).y) q y last put) q y vs)),tv (.int .i64 (xO (eA (bD (Fr4.of q).s (Fr4.of q).x (Fr4.of q).t (Fr4.of q).y) q y last put) y last)),tv (.bool (xP (eA (bD (Fr4.of q).s (Fr4.of q).x (Fr4.of q).t (Fr4.of q).y) q y last put) put))]⟩]) (.inl rfl) rfl (aO (bL _)) (by decide) (fun _ h=>by cases h) ⟨⟨rfl,rfl⟩,trivial⟩ ⟨(by rw[hpe,hpl];rfl),trivial⟩ ⟨rfl,trivial⟩ (fun h=>by cases h) ⟨rfl,by rw[hpe]⟩
 refine o1 ?_;refine o1 ?_;(iterate 3 refine bF ?_);refine o1 ?_;refine o1 ?_;refine nl ?_;refine gL rfl ?_;refine sq ?_;refine rl ?_
 refine WL.sub (jQ (j:=0) (k:=1) (p:=0) (n:=vs.length) (trs:=vs.flatMap (cJ false)) rfl rfl rfl rfl rfl (cC _ _ (bN false _)) (bN false _) rfl) ?_;refine o1 ?_
 refine nl ?_;refine rt ?_;have hpe:(eA (bD a.s a.x a.t a.y) q y last put)=2:=by unfold eA;rw[h1];rfl
 exact kU (lent':=[⟨136,0,[.t (sR 97 (lG (eA (bD a.s a.x a.t a.y) q y last put) q y vs)),tv (.int .i64 (xO (eA (bD a.s a.x a.t a.y) q y last put) y last)),tv (.bool (xP (eA (bD a.s a.x a.t a.y) q y last put) put))]⟩]) (.inl rfl) rfl (aO (bL _)) (by decide) (fun _ h=>by cases h) ⟨⟨rfl,rfl⟩,trivial⟩ ⟨(by rw[hpe];rfl),trivial⟩ ⟨rfl,trivial⟩ (fun h=>by cases h) ⟨rfl,by rw[hpe]⟩
theorem LY {vs:List (Int×Rat)}{last y:Int}{put:Bool}{q:Rat}(hs:Sz 68719476736 q) (h0:0≤q) (hp:put=true→last<y) (hl:vs.length≤1073741822):aE false Tryz.prog 126 [⟨136,0,[.t (sR 97 vs),tv (.int .i64 last),tv (.bool put)]⟩] [.one (.pt 0 0),.one (tv (.int .i64 y)),qF (.of q)] (Rt [⟨136,0,[.t (sR 97 (vs++if 0<q then [(y,q)]else [])),tv (.int .i64 y),tv (.bool true)]⟩] (.one (tv (.int .i64 0)))):=by
 have h:=RJ (last:=last) (y:=y) (put:=put) (Qn.of hs) hl
 rw[AH h0 hp,HE]at h
 exact h
theorem uD {vs:List (Int×Rat)}{last fr:Int}{put:Bool}{p:Rat}{n B:Nat}(hok:StOk vs n B) (hs:Sz 330 p) (hn:n≤50) (hB:B≤20000):aE false Tryz.prog 127 [⟨136,0,[.t (sR 97 vs),tv (.int .i64 last),tv (.bool put)]⟩] [.one (.pt 0 0),.one (tv (.int .i64 fr)),qF (.of p)] (Rt [⟨136,0,[.t (sR 97 ((aW fr vs p).1.filter (fun x=> !nM x.1 x.2))),tv (.int .i64 last),tv (.bool put)]⟩] (.one (.t (sO 97 (aW fr vs p).2.1)))):=by
 have h1:=pI.1 hs
 have h2:wt p=xM p+1:=rfl
 have h3:=hok.len
 have h4:=hok.size
 exact RF (fr:=fr) (Qn.of (p:=p) (hs.mono (M:=68719476736) (by omega))) (by omega) (by omega) (hok.zU (by omega))
theorem LZ {M:Mx}{N y:Nat}{U:List Us}{e c:Nat→Rat}{vs:List (Int×Rat)}{last:Int}{put:Bool}(hOk:M.Ok N) (hI:M.Iv N U) (hy:y<N) (hU:U.length≤1900) (hleft:M.los y=M.left U y) (hlast:put=true→last<(y:Int)) (hvl:vs.length≤1073741822):aE false Tryz.prog 85 [mS M N (M.rows U e c (y+1)) U (dV vs last put)] [.one (.pt 0 0),.one (tv (.int .i64 ((y:Nat):Int)))] (Rt [mS M N (M.rows (M.back U y (y-(y-M.b))) e c (y+1)) (M.back U y (y-(y-M.b))) (dV (vs++wl M (M.back U y (y-(y-M.b))) [y]) (y:Int) true)] (.tup [])):=by
 refine xQ Tryz.func85 rfl Tryz.ntmps85 rfl aA rfl fun N9 M9 w9 c0 h0=>?_
 have hbs:=hOk.b;have hws:=hOk.w;have hNs:=hOk.n
 have hrl:(M.rows U e c (y+1)).length=y+1:=cZ
 have hnr:(M.rows U e c (y+1))[y]? =some (M.row U e c y):=rE (by omega)
 refine WP.sub (tZ (j:=0) (key:=1) (p:=0) (e:=66) (z:=24) (n:=(M.rows U e c (y+1)).length) (trs:=(M.rows U e c (y+1)).flatMap (cE false)) (l':=dD M N (.sl 1 0 (M.rows U e c (y+1)).length) (.t (cN true false U)) (.t (dV vs last put))) rfl rfl rfl rfl rfl) ?_
 refine sq ?_;refine rl ?_;(iterate 4 refine o1 ?_);refine ld ?_;(iterate 3 refine o1 ?_)
 refine LO (fV (f:=(cE false)) (z:=24) (o:=0) (us:=(Fr4.of (M.row U e c y).l).tr false) (dX false) (hnr) (Nat.le_of_ble_eq_true rfl) rfl) ?_;refine al 2 ?_;refine st ?_
 refine nl ?_;refine sq ?_;refine sq ?_
 refine WP.sub (jQ (j:=0) (k:=1) (p:=0) (e:=66) (z:=24) (n:=(M.rows U e c (y+1)).length) (trs:=(M.rows U e c (y+1)).flatMap (cE false)) (l':=dD M N (.t (.s true 66 24 ((M.rows U e c (y+1)).length) ((M.rows U e c (y+1)).flatMap (cE false)))) (.t (cN true false U)) (.t (dV vs last put))) rfl rfl rfl (rfl) rfl (cC _ _ (dY _ _)) (dY _ _) rfl) ?_
 refine rl ?_;(iterate 5 refine o1 ?_);refine ld ?_;refine o1 ?_;refine o1 ?_;refine WL.cast (t:=23) (u':=.int .i64 (((y-M.b):Nat):Int)) rfl (aH (by omega)) ?_
 refine o1 ?_;refine nl ?_;refine bl ?_
 refine lp (γ:=Nat) (fun j=>bS [(0,.one (.pt 0 0)),(1,.one (tv (.int .i64 ((y:Nat):Int)))),(4,.one (.pt 1 0)),(5,.one (tv (.int .i64 (((y-M.b+j):Nat):Int))))]) (fun j=>[(⟨92,0,dD M N (.t (dI true false (M.rows (M.back U y j) e c (y+1)))) (.t (cN true false (M.back U y j))) (.t (dV vs last put))⟩:Ob),⟨26,0,((Fr4.of (M.left (M.back U y j) y)).tr false).map .t⟩].map some) (fun j=>j≤y-(y-M.b)) (fun j=>y-(y-M.b)-j) 0 (Nat.zero_le _) (gE h0 [0,2] _ _ (by decide) rfl ⟨rfl,rfl,rfl,rfl,trivial⟩ ⟨oe rfl rfl,aQ (congrArg (fun q=>some (⟨26,0,((Fr4.of q).tr false).map .t⟩:Ob)) hleft),rfl⟩) fun j hj=>?_
 have hIj:=hI.back (k:=j) hy hj
 have hlj:=Kj (M:=M) (U:=U) (y:=y) (k:=j)
 have hszl:Sz 68719476736 (M.left (M.back U y j) y):=(hIj.sz_left hOk hy).mono (by omega)
 refine sq ?_;refine sq ?_;refine rl ?_;(iterate 3 refine o1 ?_);refine nl ?_;refine bP rfl (fun h1=>?_) (fun h1=>?_)
 ·refine sk ?_;refine sq ?_;refine bl ?_;refine sq ?_;have hXN:(y-M.b+j)<N:=by omega
  have hszr:Sz 68719476736 (M.room (M.back U y j) (y-M.b+j)):=(hIj.sz_room hOk hXN).mono (by omega)
  have hszm:Sz 330 (aZ (M.left (M.back U y j) y) [M.room (M.back U y j) (y-M.b+j)]):=uA (hIj.sz_left hOk hy) (fun q hq=>by rw[List.mem_singleton]at hq;rw[hq];exact hIj.sz_room hOk hXN)
  have hszm1:Sz 68719476736 (aZ (M.left (M.back U y j) y) [M.room (M.back U y j) (y-M.b+j)]):=hszm.mono (by omega)
  have hlu:=Kk (M:=M) (y:=(y-M.b+j)) (hIj.v y hy).1.1
  have hnl:(M.left (M.back U y j) y)-(aZ (M.left (M.back U y j) y) [M.room (M.back U y j) (y-M.b+j)])=M.left (M.back U y (j+1)) y:=by rw[pK];exact hlu.1.symm
  refine rd [1] (fun i=>[7].contains i) mixed ?_
  refine aI 0 ?_;refine dv 1 ?_;refine dv 2 ?_;refine WO.two (i:=3) (j:=6) (by kernel_rfl) ?_ ?_
  ·refine Pc 3 2 [0] rfl (Pd (M:=M) (N:=N) (n:=y+1) (y:=(y-M.b+j)) (U:=(M.back U y j)) (e:=e) (c:=c) (L:=dV vs last put) hOk hIj (by omega) (by omega)) vV ⟨oe rfl rfl,rfl⟩ ⟨rfl,rfl,rfl⟩ (ok:=[some ⟨92,0,dD M N (.t (dI true false (M.rows (M.back U y j) e c (y+1)))) (.t (cN true false (M.back U y j))) (.t (dV vs last put))⟩]) ⟨oe rfl rfl,rfl⟩ ⟨rfl,trivial⟩ ?_
   refine WO.two (i:=4) (j:=6) (by kernel_rfl) ?_ ?_
   ·refine Fk (key:=2) 4 rfl rfl ⟨rfl,trivial⟩ ?_
    refine jG (i:=33) (k:=2) (t:=26) (t':=49) (z:=4) (n:=1) (l:=([Fr4.of (M.room (M.back U y j) (y-M.b+j))]).flatMap (Fr4.tr false)) rfl rfl rfl rfl (.one .sl) (by rfl) (by rfl) ?_
    refine WO.two (i:=5) (j:=6) (by kernel_rfl) ?_ ?_
    ·refine cX 5 rfl (rB (a:=.of (M.room (M.back U y j) (y-M.b+j))) (Qn.of (hszr)) hszl) vS ⟨aB rfl,a1 rfl,rfl⟩ (qF (.of (aZ (M.left (M.back U y j) y) [M.room (M.back U y j) (y-M.b+j)]))) ?_
     refine eN (key:=3) 6 (by kernel_rfl) rfl rfl aA rfl ⟨rfl,trivial⟩ ?_
     refine dst 7 ?_;refine aJ ?_;refine sq ?_;refine rl ?_;(iterate 3 refine o1 ?_);refine ld ?_
     refine cl 4 [0] (xR (M:=M) (N:=N) (n:=y+1) (y:=(y-M.b+j)) (U:=(M.back U y j)) (e:=e) (c:=c) (v:=(y:Int)) (L:=dV vs last put) hOk hIj (by omega) (by omega) hszm (by omega)) Dj ⟨oe rfl rfl,rfl⟩ ⟨rfl,rfl,rfl,rfl,rfl⟩ (ok:=[some ⟨92,0,dD M N (.t (dI true false (M.rows (M.us (M.back U y j) y (y-M.b+j) (aZ (M.left (M.back U y j) y) [M.room (M.back U y j) (y-M.b+j)])) e c (y+1)))) (.t (cN true false (M.us (M.back U y j) y (y-M.b+j) (aZ (M.left (M.back U y j) y) [M.room (M.back U y j) (y-M.b+j)])))) (.t (dV vs last put))⟩]) ⟨oe rfl rfl,rfl⟩ ?_
     refine nl ?_;refine rl ?_;refine ld ?_;refine ld ?_
     refine ca (mZ (Qn.of (p:=(M.left (M.back U y j) y)) (by assumption)) (Qn.of (p:=(aZ (M.left (M.back U y j) y) [M.room (M.back U y j) (y-M.b+j)])) (by assumption))) pV ⟨aB rfl,aB rfl,rfl⟩ (qF (.of ((M.left (M.back U y j) y)-(aZ (M.left (M.back U y j) y) [M.room (M.back U y j) (y-M.b+j)])))) ?_
     refine st ?_;refine nl ?_;refine rl ?_;refine o1 ?_;refine o1 ?_;refine WL.cast (t:=28) (u':=.int .i64 (((y-M.b+(j+1)):Nat):Int)) rfl (aH (by omega)) ?_
     refine o1 ?_;refine nl ?_
     exact⟨j+1,by omega,by omega,gE h0 [0,1] _ _ (by decide) rfl ⟨rfl,rfl,rfl,rfl,trivial⟩ ⟨oe rfl (congrArg (fun V=>some (⟨92,0,dD M N (.t (dI true false (M.rows V e c (y+1)))) (.t (cN true false V)) (.t (dV vs last put))⟩:Ob)) pK.symm),aQ (congrArg (fun q=>some (⟨26,0,((Fr4.of q).tr false).map .t⟩:Ob)) hnl),rfl⟩⟩
    refine bI (key:=3) 6 rfl rfl aA rfl ⟨rfl,trivial⟩ ?_
    refine aF 5 rfl (rB (a:=.of (M.room (M.back U y j) (y-M.b+j))) (Qn.of (hszr)) hszl) vS ⟨aB rfl,a1 rfl,rfl⟩ (qF (.of (aZ (M.left (M.back U y j) y) [M.room (M.back U y j) (y-M.b+j)]))) ?_
    refine dst 7 ?_;refine aJ ?_;refine sq ?_;refine rl ?_;(iterate 3 refine o1 ?_);refine ld ?_
    refine cl 4 [0] (xR (M:=M) (N:=N) (n:=y+1) (y:=(y-M.b+j)) (U:=(M.back U y j)) (e:=e) (c:=c) (v:=(y:Int)) (L:=dV vs last put) hOk hIj (by omega) (by omega) hszm (by omega)) Dj ⟨oe rfl rfl,rfl⟩ ⟨rfl,rfl,rfl,rfl,rfl⟩ (ok:=[some ⟨92,0,dD M N (.t (dI true false (M.rows (M.us (M.back U y j) y (y-M.b+j) (aZ (M.left (M.back U y j) y) [M.room (M.back U y j) (y-M.b+j)])) e c (y+1)))) (.t (cN true false (M.us (M.back U y j) y (y-M.b+j) (aZ (M.left (M.back U y j) y) [M.room (M.back U y j) (y-M.b+j)])))) (.t (dV vs last put))⟩]) ⟨oe rfl rfl,rfl⟩ ?_
    refine nl ?_;refine rl ?_;refine ld ?_;refine ld ?_
    refine ca (mZ (Qn.of (p:=(M.left (M.back U y j) y)) (by assumption)) (Qn.of (p:=(aZ (M.left (M.back U y j) y) [M.room (M.back U y j) (y-M.b+j)])) (by assumption))) pV ⟨aB rfl,aB rfl,rfl⟩ (qF (.of ((M.left (M.back U y j) y)-(aZ (M.left (M.back U y j) y) [M.room (M.back U y j) (y-M.b+j)])))) ?_
    refine st ?_;refine nl ?_;refine rl ?_;refine o1 ?_;refine o1 ?_;refine WL.cast (t:=28) (u':=.int .i64 (((y-M.b+(j+1)):Nat):Int)) rfl (aH (by omega)) ?_
    refine o1 ?_;refine nl ?_
    exact⟨j+1,by omega,by omega,gE h0 [0,1] _ _ (by decide) rfl ⟨rfl,rfl,rfl,rfl,trivial⟩ ⟨oe rfl (congrArg (fun V=>some (⟨92,0,dD M N (.t (dI true false (M.rows V e c (y+1)))) (.t (cN true false V)) (.t (dV vs last put))⟩:Ob)) pK.symm),aQ (congrArg (fun q=>some (⟨26,0,((Fr4.of q).tr false).map .t⟩:Ob)) hnl),rfl⟩⟩
   refine bI (key:=2) 6 rfl rfl aA rfl ⟨rfl,trivial⟩ ?_;refine eZ (key:=3) 4 (by kernel_rfl) rfl rfl aA rfl ⟨rfl,trivial⟩ ?_
   refine jG (i:=33) (k:=3) (t:=26) (t':=49) (z:=4) (n:=1) (l:=([Fr4.of (M.room (M.back U y j) (y-M.b+j))]).flatMap (Fr4.tr false)) rfl rfl rfl rfl (.one .sl) (by rfl) (by rfl) ?_
   refine aF 5 rfl (rB (a:=.of (M.room (M.back U y j) (y-M.b+j))) (Qn.of (hszr)) hszl) vS ⟨aB rfl,a1 rfl,rfl⟩ (qF (.of (aZ (M.left (M.back U y j) y) [M.room (M.back U y j) (y-M.b+j)]))) ?_
   refine dst 7 ?_;refine aJ ?_;refine sq ?_;refine rl ?_;(iterate 3 refine o1 ?_);refine ld ?_
   refine cl 4 [0] (xR (M:=M) (N:=N) (n:=y+1) (y:=(y-M.b+j)) (U:=(M.back U y j)) (e:=e) (c:=c) (v:=(y:Int)) (L:=dV vs last put) hOk hIj (by omega) (by omega) hszm (by omega)) Dj ⟨oe rfl rfl,rfl⟩ ⟨rfl,rfl,rfl,rfl,rfl⟩ (ok:=[some ⟨92,0,dD M N (.t (dI true false (M.rows (M.us (M.back U y j) y (y-M.b+j) (aZ (M.left (M.back U y j) y) [M.room (M.back U y j) (y-M.b+j)])) e c (y+1)))) (.t (cN true false (M.us (M.back U y j) y (y-M.b+j) (aZ (M.left (M.back U y j) y) [M.room (M.back U y j) (y-M.b+j)])))) (.t (dV vs last put))⟩]) ⟨oe rfl rfl,rfl⟩ ?_
   refine nl ?_;refine rl ?_;refine ld ?_;refine ld ?_
   refine ca (mZ (Qn.of (p:=(M.left (M.back U y j) y)) (by assumption)) (Qn.of (p:=(aZ (M.left (M.back U y j) y) [M.room (M.back U y j) (y-M.b+j)])) (by assumption))) pV ⟨aB rfl,aB rfl,rfl⟩ (qF (.of ((M.left (M.back U y j) y)-(aZ (M.left (M.back U y j) y) [M.room (M.back U y j) (y-M.b+j)])))) ?_
   refine st ?_;refine nl ?_;refine rl ?_;refine o1 ?_;refine o1 ?_;refine WL.cast (t:=28) (u':=.int .i64 (((y-M.b+(j+1)):Nat):Int)) rfl (aH (by omega)) ?_
   refine o1 ?_;refine nl ?_
   exact⟨j+1,by omega,by omega,gE h0 [0,1] _ _ (by decide) rfl ⟨rfl,rfl,rfl,rfl,trivial⟩ ⟨oe rfl (congrArg (fun V=>some (⟨92,0,dD M N (.t (dI true false (M.rows V e c (y+1)))) (.t (cN true false V)) (.t (dV vs last put))⟩:Ob)) pK.symm),aQ (congrArg (fun q=>some (⟨26,0,((Fr4.of q).tr false).map .t⟩:Ob)) hnl),rfl⟩⟩
  refine bI (key:=2) 6 rfl rfl aA rfl ⟨rfl,trivial⟩ ?_
  refine uC 3 3 [0] rfl (Pd (M:=M) (N:=N) (n:=y+1) (y:=(y-M.b+j)) (U:=(M.back U y j)) (e:=e) (c:=c) (L:=dV vs last put) hOk hIj (by omega) (by omega)) vV ⟨oe rfl rfl,rfl⟩ ⟨rfl,rfl,rfl⟩ (ok:=[some ⟨92,0,dD M N (.t (dI true false (M.rows (M.back U y j) e c (y+1)))) (.t (cN true false (M.back U y j))) (.t (dV vs last put))⟩]) ⟨oe rfl rfl,rfl⟩ ⟨rfl,trivial⟩ ?_
  refine eZ (key:=3) 4 (by kernel_rfl) rfl rfl aA rfl ⟨rfl,trivial⟩ ?_
  refine jG (i:=33) (k:=3) (t:=26) (t':=49) (z:=4) (n:=1) (l:=([Fr4.of (M.room (M.back U y j) (y-M.b+j))]).flatMap (Fr4.tr false)) rfl rfl rfl rfl (.one .sl) (by rfl) (by rfl) ?_
  refine aF 5 rfl (rB (a:=.of (M.room (M.back U y j) (y-M.b+j))) (Qn.of (hszr)) hszl) vS ⟨aB rfl,a1 rfl,rfl⟩ (qF (.of (aZ (M.left (M.back U y j) y) [M.room (M.back U y j) (y-M.b+j)]))) ?_
  refine dst 7 ?_;refine aJ ?_;refine sq ?_;refine rl ?_;(iterate 3 refine o1 ?_);refine ld ?_
  refine cl 4 [0] (xR (M:=M) (N:=N) (n:=y+1) (y:=(y-M.b+j)) (U:=(M.back U y j)) (e:=e) (c:=c) (v:=(y:Int)) (L:=dV vs last put) hOk hIj (by omega) (by omega) hszm (by omega)) Dj ⟨oe rfl rfl,rfl⟩ ⟨rfl,rfl,rfl,rfl,rfl⟩ (ok:=[some ⟨92,0,dD M N (.t (dI true false (M.rows (M.us (M.back U y j) y (y-M.b+j) (aZ (M.left (M.back U y j) y) [M.room (M.back U y j) (y-M.b+j)])) e c (y+1)))) (.t (cN true false (M.us (M.back U y j) y (y-M.b+j) (aZ (M.left (M.back U y j) y) [M.room (M.back U y j) (y-M.b+j)])))) (.t (dV vs last put))⟩]) ⟨oe rfl rfl,rfl⟩ ?_
  refine nl ?_;refine rl ?_;refine ld ?_;refine ld ?_
  refine ca (mZ (Qn.of (p:=(M.left (M.back U y j) y)) (by assumption)) (Qn.of (p:=(aZ (M.left (M.back U y j) y) [M.room (M.back U y j) (y-M.b+j)])) (by assumption))) pV ⟨aB rfl,aB rfl,rfl⟩ (qF (.of ((M.left (M.back U y j) y)-(aZ (M.left (M.back U y j) y) [M.room (M.back U y j) (y-M.b+j)])))) ?_
  refine st ?_;refine nl ?_;refine rl ?_;refine o1 ?_;refine o1 ?_;refine WL.cast (t:=28) (u':=.int .i64 (((y-M.b+(j+1)):Nat):Int)) rfl (aH (by omega)) ?_
  refine o1 ?_;refine nl ?_
  exact⟨j+1,by omega,by omega,gE h0 [0,1] _ _ (by decide) rfl ⟨rfl,rfl,rfl,rfl,trivial⟩ ⟨oe rfl (congrArg (fun V=>some (⟨92,0,dD M N (.t (dI true false (M.rows V e c (y+1)))) (.t (cN true false V)) (.t (dV vs last put))⟩:Ob)) pK.symm),aQ (congrArg (fun q=>some (⟨26,0,((Fr4.of q).tr false).map .t⟩:Ob)) hnl),rfl⟩⟩
 refine ex ?_;have hjj:j=y-(y-M.b):=by omega
 subst hjj
 refine WP.sub (Ta (j:=0) (key:=2) (p:=9) (e:=136) (trs:=[sR 97 vs,.v (.int .i64 (last)),.v (.bool put)]) (l':=dD M N (.t (dI true false (M.rows (M.back U y (y-(y-M.b))) e c (y+1)))) (.t (cN true false (M.back U y (y-(y-M.b))))) (.pt 2 0)) rfl rfl rfl rfl) ?_
 refine rd [0,1] (fun i=>[].contains i) mixed ?_
 refine dv 0 ?_;refine dv 1 ?_;refine dv 2 ?_;refine aI 3 ?_;refine dv 4 ?_;refine aI 5 ?_
 refine uC 6 3 [2] rfl (LY (vs:=vs) (last:=last) (y:=(y:Int)) (put:=put) (q:=(M.left (M.back U y (y-(y-M.b))) y)) hszl (hIj.v y hy).1.1 hlast hvl) RK ⟨oe rfl rfl,rfl⟩ ⟨rfl,rfl,rfl,rfl⟩ (ok:=[some ⟨136,0,[.t (sR 97 (vs++if 0<(M.left (M.back U y (y-(y-M.b))) y)then [((y:Int),(M.left (M.back U y (y-(y-M.b))) y))]else [])),tv (.int .i64 (y:Int)),tv (.bool true)]⟩]) ⟨oe rfl rfl,rfl⟩ ⟨rfl,rfl,trivial⟩ ?_
 refine aJ ?_
 refine xC (Km (j:=0) (k:=2) (p:=9) (e:=136) (trs:=[sR 97 (vs++if 0<(M.left (M.back U y (y-(y-M.b))) y)then [((y:Int),(M.left (M.back U y (y-(y-M.b))) y))]else []),.v (.int .i64 ((y:Int))),.v (.bool true)]) (l':=dD M N (.t (dI true false (M.rows (M.back U y (y-(y-M.b))) e c (y+1)))) (.t (cN true false (M.back U y (y-(y-M.b))))) (.t (dV (vs++if 0<(M.left (M.back U y (y-(y-M.b))) y)then [((y:Int),(M.left (M.back U y (y-(y-M.b))) y))]else []) ((y:Int)) true))) rfl rfl rfl rfl rfl) ?_
 exact oP <| kU (lent':=[mS M N (M.rows (M.back U y (y-(y-M.b))) e c (y+1)) (M.back U y (y-(y-M.b))) (dV (vs++wl M (M.back U y (y-(y-M.b))) [y]) (y:Int) true)]) (.inr rfl) rfl (Hr) (by decide) (fun _ h=>by cases h) ⟨⟨rfl,rfl⟩,trivial⟩ ⟨by rw[Vr];rfl,trivial⟩ ⟨rfl,trivial⟩ (fun h=>by cases h) ⟨rfl,rfl⟩
theorem Vs {M:Mx}{N y:Nat}{U:List Us}{e c:Nat→Rat}{last:Int}{put:Bool}(hOk:M.Ok N) (hI:M.Iv N U) (hy:y<N) (hU:U.length≤1900):aE false Tryz.prog 86 [mS M N (M.rows U e c (y+1)) U (dV (wl M U (M.I y)) last put)] [.one (.pt 0 0),.one (tv (.int .i64 ((y:Nat):Int)))] (Rt [mS M N (M.rows (M.fwd U y (y-(y-M.w))) e c (y+1)) (M.fwd U y (y-(y-M.w))) (dV (wl M (M.fwd U y (y-(y-M.w))) (M.I y)) last put)] (.tup [])):=by
 refine xQ Tryz.func86 rfl Tryz.ntmps86 rfl aA rfl fun N9 M9 w9 c0 h0=>?_
 have hbs:=hOk.b;have hws:=hOk.w;have hNs:=hOk.n
 have hInd:(M.I y).Nodup:=zO
 have hIf:∀i∈M.I y,((y:Int)-(M.w:Int))≤(i:Int)∧i<N:=fun i hi=>by have:=sJ.1 hi;omega
 obtain⟨hu1,hu2⟩:=Pe (M:=M) (y:=y) (fr:=((y:Int)-(M.w:Int))) (M.I y) U hInd (fun i hi=>(hIf i hi).1) (fun i hi=>(hI.v i (hIf i hi).2).1.1)
 obtain⟨hv1,hv2⟩:=Vt (M:=M) (fr:=((y:Int)-(M.w:Int))) hy (M.I y) U hI hOk hInd hIf
 have hIl:(M.I y).length≤40:=Dk hOk.w
 have hok:=RL (M:=M) (U:=U) (I:=M.I y) fun i hi=>hI.sz_left hOk (hIf i hi).2
 have hGl:(aW ((y:Int)-(M.w:Int)) (wl M U (M.I y)) (M.room U y)).2.1.length≤(wl M U (M.I y)).length:=xS _ _ _
 have hvl9:=hok.len
 refine WP.sub (Ta (j:=0) (key:=1) (p:=9) (e:=136) (trs:=[sR 97 (wl M U (M.I y)),.v (.int .i64 (last)),.v (.bool put)]) (l':=dD M N (.t (dI true false (M.rows U e c (y+1)))) (.t (cN true false U)) (.pt 1 0)) rfl rfl rfl rfl) ?_
 refine md (γ:=Unit) (fun _=>bS [(0,.one (.pt 0 0)),(1,.one (tv (.int .i64 ((y:Nat):Int)))),(20,.one (.sl 2 0 ((aW ((y:Int)-(M.w:Int)) (wl M U (M.I y)) (M.room U y)).2.1.length))),(21,.one (tv (.int .i64 (((aW ((y:Int)-(M.w:Int)) (wl M U (M.I y)) (M.room U y)).2.1.length:Nat):Int)))),(22,.one (tv (.int .i64 ((0:Nat):Int))))]) (fun _=>([⟨92,0,dD M N (.t (dI true false (M.rows U e c (y+1)))) (.t (cN true false U)) (.pt 1 0)⟩,⟨136,0,[.t (sR 97 ((aW ((y:Int)-(M.w:Int)) (wl M U (M.I y)) (M.room U y)).1.filter (fun x=> !nM x.1 x.2))),tv (.int .i64 last),tv (.bool put)]⟩,⟨97,5,pH (aW ((y:Int)-(M.w:Int)) (wl M U (M.I y)) (M.room U y)).2.1⟩]:List Ob).map some) (fun _=>True) ?_ fun _ _=>?_
 ·refine rd [] (fun i=>[].contains i) mixed ?_
  refine dv 0 ?_;refine dv 1 ?_;refine dv 2 ?_;refine dv 4 ?_;refine dv 5 ?_;refine dv 6 ?_;refine dv 7 ?_;refine dv 8 ?_;refine dv 11 ?_;refine dv 12 ?_;refine dv 16 ?_
  refine WO.three (i:=3) (j:=9) (m:=13) (by kernel_rfl) ?_ ?_ ?_
  ·refine kW 3 ?_;refine WO.two (i:=9) (j:=13) (by kernel_rfl) ?_ ?_
   ·refine kW 9 ?_;refine df 10 ?_
    refine uC 13 2 [0,1] rfl (rF (M:=M) (N:=N) (n:=y+1) (y:=y) (U:=U) (e:=e) (c:=c) (o1:=⟨136,0,[.t (sR 97 (wl M U (M.I y))),tv (.int .i64 last),tv (.bool put)]⟩) hOk hI (by omega) (by omega) rfl) vV ⟨oe rfl rfl,oe rfl rfl,rfl⟩ ⟨rfl,rfl,rfl⟩ (ok:=[some ⟨92,0,dD M N (.t (dI true false (M.rows U e c (y+1)))) (.t (cN true false U)) (.pt 1 0)⟩,some ⟨136,0,[.t (sR 97 (wl M U (M.I y))),tv (.int .i64 last),tv (.bool put)]⟩]) ⟨oe rfl rfl,oe rfl rfl,rfl⟩ trivial ?_
    refine uC 14 2 [1] rfl (uD (fr:=((y:Int)-(M.w:Int))) (p:=M.room U y) hok (hI.sz_room hOk hy) (by omega) (by omega)) zP ⟨oe rfl rfl,rfl⟩ ⟨rfl,rfl,rfl,rfl⟩ (ok:=[some ⟨136,0,[.t (sR 97 ((aW ((y:Int)-(M.w:Int)) (wl M U (M.I y)) (M.room U y)).1.filter (fun x=> !nM x.1 x.2))),tv (.int .i64 last),tv (.bool put)]⟩]) ⟨oe rfl rfl,rfl⟩ trivial ?_
    refine df 15 ?_;refine aJ ?_;exact⟨(),trivial,gE h0 [0,1,2] _ _ (by decide) rfl ⟨rfl,rfl,rfl,rfl,rfl,trivial⟩ ⟨oe rfl rfl,oe rfl rfl,aQ rfl,rfl⟩⟩
   refine Pc 13 2 [0,1] rfl (rF (M:=M) (N:=N) (n:=y+1) (y:=y) (U:=U) (e:=e) (c:=c) (o1:=⟨136,0,[.t (sR 97 (wl M U (M.I y))),tv (.int .i64 last),tv (.bool put)]⟩) hOk hI (by omega) (by omega) rfl) vV ⟨oe rfl rfl,oe rfl rfl,rfl⟩ ⟨rfl,rfl,rfl⟩ (ok:=[some ⟨92,0,dD M N (.t (dI true false (M.rows U e c (y+1)))) (.t (cN true false U)) (.pt 1 0)⟩,some ⟨136,0,[.t (sR 97 (wl M U (M.I y))),tv (.int .i64 last),tv (.bool put)]⟩]) ⟨oe rfl rfl,oe rfl rfl,rfl⟩ trivial ?_
   refine WO.one (by kernel_rfl) (kW 9 ?_)
   refine df 10 ?_
   refine uC 14 2 [1] rfl (uD (fr:=((y:Int)-(M.w:Int))) (p:=M.room U y) hok (hI.sz_room hOk hy) (by omega) (by omega)) zP ⟨oe rfl rfl,rfl⟩ ⟨rfl,rfl,rfl,rfl⟩ (ok:=[some ⟨136,0,[.t (sR 97 ((aW ((y:Int)-(M.w:Int)) (wl M U (M.I y)) (M.room U y)).1.filter (fun x=> !nM x.1 x.2))),tv (.int .i64 last),tv (.bool put)]⟩]) ⟨oe rfl rfl,rfl⟩ trivial ?_
   refine df 15 ?_;refine aJ ?_;exact⟨(),trivial,gE h0 [0,1,2] _ _ (by decide) rfl ⟨rfl,rfl,rfl,rfl,rfl,trivial⟩ ⟨oe rfl rfl,oe rfl rfl,aQ rfl,rfl⟩⟩
  ·refine kW 9 ?_;refine df 10 ?_;refine WO.two (i:=3) (j:=13) (by kernel_rfl) ?_ ?_
   ·refine kW 3 ?_
    refine uC 13 2 [0,1] rfl (rF (M:=M) (N:=N) (n:=y+1) (y:=y) (U:=U) (e:=e) (c:=c) (o1:=⟨136,0,[.t (sR 97 (wl M U (M.I y))),tv (.int .i64 last),tv (.bool put)]⟩) hOk hI (by omega) (by omega) rfl) vV ⟨oe rfl rfl,oe rfl rfl,rfl⟩ ⟨rfl,rfl,rfl⟩ (ok:=[some ⟨92,0,dD M N (.t (dI true false (M.rows U e c (y+1)))) (.t (cN true false U)) (.pt 1 0)⟩,some ⟨136,0,[.t (sR 97 (wl M U (M.I y))),tv (.int .i64 last),tv (.bool put)]⟩]) ⟨oe rfl rfl,oe rfl rfl,rfl⟩ trivial ?_
    refine uC 14 2 [1] rfl (uD (fr:=((y:Int)-(M.w:Int))) (p:=M.room U y) hok (hI.sz_room hOk hy) (by omega) (by omega)) zP ⟨oe rfl rfl,rfl⟩ ⟨rfl,rfl,rfl,rfl⟩ (ok:=[some ⟨136,0,[.t (sR 97 ((aW ((y:Int)-(M.w:Int)) (wl M U (M.I y)) (M.room U y)).1.filter (fun x=> !nM x.1 x.2))),tv (.int .i64 last),tv (.bool put)]⟩]) ⟨oe rfl rfl,rfl⟩ trivial ?_
    refine df 15 ?_;refine aJ ?_;exact⟨(),trivial,gE h0 [0,1,2] _ _ (by decide) rfl ⟨rfl,rfl,rfl,rfl,rfl,trivial⟩ ⟨oe rfl rfl,oe rfl rfl,aQ rfl,rfl⟩⟩
   refine Pc 13 2 [0,1] rfl (rF (M:=M) (N:=N) (n:=y+1) (y:=y) (U:=U) (e:=e) (c:=c) (o1:=⟨136,0,[.t (sR 97 (wl M U (M.I y))),tv (.int .i64 last),tv (.bool put)]⟩) hOk hI (by omega) (by omega) rfl) vV ⟨oe rfl rfl,oe rfl rfl,rfl⟩ ⟨rfl,rfl,rfl⟩ (ok:=[some ⟨92,0,dD M N (.t (dI true false (M.rows U e c (y+1)))) (.t (cN true false U)) (.pt 1 0)⟩,some ⟨136,0,[.t (sR 97 (wl M U (M.I y))),tv (.int .i64 last),tv (.bool put)]⟩]) ⟨oe rfl rfl,oe rfl rfl,rfl⟩ trivial ?_
   refine WO.one (by kernel_rfl) (kW 3 ?_)
   refine uC 14 2 [1] rfl (uD (fr:=((y:Int)-(M.w:Int))) (p:=M.room U y) hok (hI.sz_room hOk hy) (by omega) (by omega)) zP ⟨oe rfl rfl,rfl⟩ ⟨rfl,rfl,rfl,rfl⟩ (ok:=[some ⟨136,0,[.t (sR 97 ((aW ((y:Int)-(M.w:Int)) (wl M U (M.I y)) (M.room U y)).1.filter (fun x=> !nM x.1 x.2))),tv (.int .i64 last),tv (.bool put)]⟩]) ⟨oe rfl rfl,rfl⟩ trivial ?_
   refine df 15 ?_;refine aJ ?_;exact⟨(),trivial,gE h0 [0,1,2] _ _ (by decide) rfl ⟨rfl,rfl,rfl,rfl,rfl,trivial⟩ ⟨oe rfl rfl,oe rfl rfl,aQ rfl,rfl⟩⟩
  refine Pc 13 2 [0,1] rfl (rF (M:=M) (N:=N) (n:=y+1) (y:=y) (U:=U) (e:=e) (c:=c) (o1:=⟨136,0,[.t (sR 97 (wl M U (M.I y))),tv (.int .i64 last),tv (.bool put)]⟩) hOk hI (by omega) (by omega) rfl) vV ⟨oe rfl rfl,oe rfl rfl,rfl⟩ ⟨rfl,rfl,rfl⟩ (ok:=[some ⟨92,0,dD M N (.t (dI true false (M.rows U e c (y+1)))) (.t (cN true false U)) (.pt 1 0)⟩,some ⟨136,0,[.t (sR 97 (wl M U (M.I y))),tv (.int .i64 last),tv (.bool put)]⟩]) ⟨oe rfl rfl,oe rfl rfl,rfl⟩ trivial ?_
  refine WO.two (i:=3) (j:=9) (by kernel_rfl) ?_ ?_
  ·refine kW 3 ?_;refine WO.one (by kernel_rfl) (kW 9 ?_)
   refine df 10 ?_
   refine uC 14 2 [1] rfl (uD (fr:=((y:Int)-(M.w:Int))) (p:=M.room U y) hok (hI.sz_room hOk hy) (by omega) (by omega)) zP ⟨oe rfl rfl,rfl⟩ ⟨rfl,rfl,rfl,rfl⟩ (ok:=[some ⟨136,0,[.t (sR 97 ((aW ((y:Int)-(M.w:Int)) (wl M U (M.I y)) (M.room U y)).1.filter (fun x=> !nM x.1 x.2))),tv (.int .i64 last),tv (.bool put)]⟩]) ⟨oe rfl rfl,rfl⟩ trivial ?_
   refine df 15 ?_;refine aJ ?_;exact⟨(),trivial,gE h0 [0,1,2] _ _ (by decide) rfl ⟨rfl,rfl,rfl,rfl,rfl,trivial⟩ ⟨oe rfl rfl,oe rfl rfl,aQ rfl,rfl⟩⟩
  refine kW 9 ?_;refine df 10 ?_;refine WO.one (by kernel_rfl) (kW 3 ?_)
  refine uC 14 2 [1] rfl (uD (fr:=((y:Int)-(M.w:Int))) (p:=M.room U y) hok (hI.sz_room hOk hy) (by omega) (by omega)) zP ⟨oe rfl rfl,rfl⟩ ⟨rfl,rfl,rfl,rfl⟩ (ok:=[some ⟨136,0,[.t (sR 97 ((aW ((y:Int)-(M.w:Int)) (wl M U (M.I y)) (M.room U y)).1.filter (fun x=> !nM x.1 x.2))),tv (.int .i64 last),tv (.bool put)]⟩]) ⟨oe rfl rfl,rfl⟩ trivial ?_
  refine df 15 ?_;refine aJ ?_;exact⟨(),trivial,gE h0 [0,1,2] _ _ (by decide) rfl ⟨rfl,rfl,rfl,rfl,rfl,trivial⟩ ⟨oe rfl rfl,oe rfl rfl,aQ rfl,rfl⟩⟩
 refine bl ?_;refine WP.sub (MA (i:=20) (k:=2) (n:=(aW ((y:Int)-(M.w:Int)) (wl M U (M.I y)) (M.room U y)).2.1.length) 97 rfl rfl rfl (bN true _) (Di true _) (.one .sl)) ?_
 refine WP.sub (Km (j:=0) (k:=1) (p:=9) (e:=136) (trs:=[sR 97 ((aW ((y:Int)-(M.w:Int)) (wl M U (M.I y)) (M.room U y)).1.filter (fun x=> !nM x.1 x.2)),.v (.int .i64 (last)),.v (.bool put)]) (l':=dD M N (.t (dI true false (M.rows U e c (y+1)))) (.t (cN true false U)) (.t (dV ((aW ((y:Int)-(M.w:Int)) (wl M U (M.I y)) (M.room U y)).1.filter (fun x=> !nM x.1 x.2)) (last) put))) rfl rfl rfl rfl rfl) ?_
 refine lp (γ:=Nat) (fun k=>bS [(0,.one (.pt 0 0)),(1,.one (tv (.int .i64 ((y:Nat):Int)))),(20,.one (.t (sV 97 false (aW ((y:Int)-(M.w:Int)) (wl M U (M.I y)) (M.room U y)).2.1))),(21,.one (tv (.int .i64 (((aW ((y:Int)-(M.w:Int)) (wl M U (M.I y)) (M.room U y)).2.1.length:Nat):Int)))),(22,.one (tv (.int .i64 ((k:Nat):Int))))]) (fun k=>[(⟨92,0,dD M N (.t (dI true false (M.rows (((aW ((y:Int)-(M.w:Int)) (wl M U (M.I y)) (M.room U y)).2.1.take k).foldl (fun U x=>M.us U x.1 y x.2) U) e c (y+1)))) (.t (cN true false (((aW ((y:Int)-(M.w:Int)) (wl M U (M.I y)) (M.room U y)).2.1.take k).foldl (fun U x=>M.us U x.1 y x.2) U))) (.t (dV ((aW ((y:Int)-(M.w:Int)) (wl M U (M.I y)) (M.room U y)).1.filter (fun x=> !nM x.1 x.2)) last put))⟩:Ob)].map some) (fun k=>k≤(aW ((y:Int)-(M.w:Int)) (wl M U (M.I y)) (M.room U y)).2.1.length) (fun k=>(aW ((y:Int)-(M.w:Int)) (wl M U (M.I y)) (M.room U y)).2.1.length-k) 0 (Nat.zero_le _) (gE h0 [0] _ _ (by decide) rfl ⟨rfl,rfl,rfl,rfl,rfl,trivial⟩ ⟨oe rfl rfl,rfl⟩) fun k hk=>?_
 have hkl:=vW (f:=fun U (x:Int×Rat)=>M.us U x.1 y x.2) ((aW ((y:Int)-(M.w:Int)) (wl M U (M.I y)) (M.room U y)).2.1.take k) U fun _ _=>Kn
 rw[List.length_take]at hkl;refine sq ?_;refine rl ?_;refine o1 ?_;refine nl ?_;refine sq ?_;refine bP rfl (fun h1=>?_) (fun h1=>?_)
 ·refine sk ?_;refine sq ?_;refine bl ?_;refine sq ?_;refine rl ?_;refine o1 ?_
  refine cW (cJ false (aU (aW ((y:Int)-(M.w:Int)) (wl M U (M.I y)) (M.room U y)).2.1 (k))) (tY false (by omega)) ?_
  refine al 1 ?_;refine st ?_;refine nl ?_;refine rl ?_;refine o1 ?_;refine o1 ?_;refine ld ?_;refine o1 ?_;refine o1 ?_;refine ld ?_
  refine cl 2 [0] (xR (M:=M) (N:=N) (n:=y+1) (y:=y) (U:=(((aW ((y:Int)-(M.w:Int)) (wl M U (M.I y)) (M.room U y)).2.1.take k).foldl (fun U x=>M.us U x.1 y x.2) U)) (e:=e) (c:=c) (v:=(aU (aW ((y:Int)-(M.w:Int)) (wl M U (M.I y)) (M.room U y)).2.1 k).1) (m:=(aU (aW ((y:Int)-(M.w:Int)) (wl M U (M.I y)) (M.room U y)).2.1 k).2) (L:=dV ((aW ((y:Int)-(M.w:Int)) (wl M U (M.I y)) (M.room U y)).1.filter (fun x=> !nM x.1 x.2)) last put) hOk (hv2 k) (by omega) (by omega) (hv1 _ (nG (by omega))).1 (by omega)) Dj ⟨oe rfl rfl,rfl⟩ ⟨rfl,rfl,rfl,rfl,rfl⟩ (ok:=[some ⟨92,0,dD M N (.t (dI true false (M.rows (M.us (((aW ((y:Int)-(M.w:Int)) (wl M U (M.I y)) (M.room U y)).2.1.take k).foldl (fun U x=>M.us U x.1 y x.2) U) (aU (aW ((y:Int)-(M.w:Int)) (wl M U (M.I y)) (M.room U y)).2.1 k).1 y (aU (aW ((y:Int)-(M.w:Int)) (wl M U (M.I y)) (M.room U y)).2.1 k).2) e c (y+1)))) (.t (cN true false (M.us (((aW ((y:Int)-(M.w:Int)) (wl M U (M.I y)) (M.room U y)).2.1.take k).foldl (fun U x=>M.us U x.1 y x.2) U) (aU (aW ((y:Int)-(M.w:Int)) (wl M U (M.I y)) (M.room U y)).2.1 k).1 y (aU (aW ((y:Int)-(M.w:Int)) (wl M U (M.I y)) (M.room U y)).2.1 k).2))) (.t (dV ((aW ((y:Int)-(M.w:Int)) (wl M U (M.I y)) (M.room U y)).1.filter (fun x=> !nM x.1 x.2)) last put))⟩]) ⟨oe rfl rfl,rfl⟩ ?_
  refine nl ?_;refine rl ?_;refine o1 ?_;refine WL.cast (t:=33) (u':=.int .i64 ((k+1:Nat):Int)) rfl (aH (by omega)) ?_
  refine o1 ?_;refine nl ?_
  exact⟨k+1,by omega,by omega,gE h0 [0] _ _ (by decide) rfl ⟨rfl,rfl,rfl,rfl,rfl,trivial⟩ ⟨oe rfl (congrArg (fun V=>some (⟨92,0,dD M N (.t (dI true false (M.rows V e c (y+1)))) (.t (cN true false V)) (.t (dV ((aW ((y:Int)-(M.w:Int)) (wl M U (M.I y)) (M.room U y)).1.filter (fun x=> !nM x.1 x.2)) last put))⟩:Ob)) (by rw[kV (by omega),List.foldl_append];rfl)),rfl⟩⟩
 refine ex ?_
 exact oP <| kU (lent':=[mS M N (M.rows (M.fwd U y (y-(y-M.w))) e c (y+1)) (M.fwd U y (y-(y-M.w))) (dV (wl M (M.fwd U y (y-(y-M.w))) (M.I y)) last put)]) (.inr rfl) rfl (Hr) (by decide) (fun _ h=>by cases h) ⟨⟨rfl,rfl⟩,trivial⟩ ⟨by rw[show(M.fwd U y (y-(y-M.w)))=(((aW ((y:Int)-(M.w:Int)) (wl M U (M.I y)) (M.room U y)).2.1.take k).foldl (fun U x=>M.us U x.1 y x.2) U) by rw[List.take_of_length_le (by omega)];exact hu1,show wl M (((aW ((y:Int)-(M.w:Int)) (wl M U (M.I y)) (M.room U y)).2.1.take k).foldl (fun U x=>M.us U x.1 y x.2) U) (M.I y)=((aW ((y:Int)-(M.w:Int)) (wl M U (M.I y)) (M.room U y)).1.filter (fun x=> !nM x.1 x.2)) by rw[List.take_of_length_le (by omega),←hu1];exact hu2];rfl,trivial⟩ ⟨rfl,trivial⟩ (fun h=>by cases h) ⟨rfl,rfl⟩
theorem HF {M:Mx}{N y:Nat}{U:List Us}{e c:Nat→Rat}{last:Int}{put:Bool}(hOk:M.Ok N) (hI:M.Iv N U) (hy:y<N) (hU:U.length≤1900) (hof:uE U y=0) (hof0:eH U y=0) (he:e y=0) (hc:c y=0) (hlast:put=true→last<(y:Int)):aE false Tryz.prog 37 [mS M N (M.rows U e c y) U (dV (wl M U (M.I y)) last put)] [.one (.pt 0 0),.one (tv (.int .i64 ((y:Nat):Int)))] (Rt [mS M N (M.rows (M.step U y) (eJ (wl M (M.step U y) (M.J y)) e) c (y+1)) (M.step U y) (dV (wl M (M.step U y) (M.I (y+1))) (if M.inc y<0 then(y:Int)else last) (if M.inc y<0 then true else put))] (.tup [])):=by
 refine xQ Tryz.func37 rfl Tryz.ntmps37 rfl aA rfl fun N9 M9 w9 c0 h0=>?_
 have hbs:=hOk.b;have hws:=hOk.w;have hNs:=hOk.n
 have hyl:(yrs M N).length=N:=cK M N
 have hrl:(M.rows U e c y).length=y:=cZ
 have hszi:Sz 68719476736 (M.inc y):=(hOk.sz_inc hy).mono (by omega)
 have hszr:Sz 68719476736 (M.ring y):=(hOk.sz_ring hy).mono (by omega)
 have hszn:Sz 68719476736 (-(M.inc y)):=uF hszi
 have hsza:Sz 68719476736 (abv (M.inc y)):=cQ hszi (by omega)
 have hIs:=hI.step (y:=y) hy
 have hlu:M.left U y=M.los y:=by unfold Mx.left;rw[hof];grind
 refine WP.sub (tZ (j:=0) (key:=1) (p:=0) (e:=66) (z:=24) (n:=(M.rows U e c y).length) (trs:=(M.rows U e c y).flatMap (cE false)) (l':=dD M N (.sl 1 0 (M.rows U e c y).length) (.t (cN true false U)) (.t (dV (wl M U (M.I y)) last put))) rfl rfl rfl rfl rfl) ?_
 refine sq ?_;refine rl ?_;(iterate 3 refine o1 ?_);refine ld ?_;(iterate 3 refine o1 ?_)
 refine cW ((Fr4.of (M.inc (y))).tr false) (aP (f:=bV) (z:=8) (o:=0) cV (eB (by omega)) (Nat.le_of_ble_eq_true rfl) rfl) ?_
 refine al 2 ?_;refine st ?_;refine nl ?_;refine sq ?_;refine rd [0,2] (fun i=>[41].contains i) mixed ?_
 refine dv 0 ?_;refine dv 1 ?_;refine dv 2 ?_;refine dv 3 ?_;refine dv 4 ?_;refine aI 5 ?_;refine aI 6 ?_;refine dv 9 ?_;refine dv 10 ?_;refine dv 11 ?_;refine aI 12 ?_;refine dv 13 ?_
 refine dv 14 ?_;refine dv 15 ?_;refine aI 16 ?_;refine dv 17 ?_;refine dv 18 ?_
 refine cM 19 (bV (Fr4.of (M.inc (y)),Fr4.of (M.ring (y)))) (aP (f:=bV) (z:=8) (o:=0) cV (eB (by omega)) (Nat.le_of_ble_eq_true rfl) rfl) ?_
 refine aI 22 ?_;refine dv 24 ?_;refine dv 25 ?_;refine dv 26 ?_;refine aI 27 ?_;refine dv 28 ?_;refine dv 29 ?_;refine dv 30 ?_
 refine cM 31 ((Fr4.of (M.ring (y))).tr false) (aP (f:=bV) (z:=8) (o:=4) cV (eB (by omega)) (Nat.le_of_ble_eq_true rfl) rfl) ?_
 refine aF 7 rfl (EH (Qn.of (p:=(M.inc (y))) (by assumption))) AI ⟨aB rfl,rfl⟩ (qF (.of (-(M.inc (y))))) ?_
 refine aF 8 rfl (oR (Qn.of (p:=(-(M.inc (y)))) (by assumption))) Bx ⟨aB rfl,rfl⟩ (qF (.of (abv (-(M.inc (y)))))) ?_
 refine aF 20 rfl (Fl (c:=.of M.cap) (a:=.of (M.inc y)) (b:=.of (M.ring y)) (q:=M.cap) (p:=M.inc y) (Qn.of (hOk.cap.mono (M:=68719476736) (by omega))) (Qn.of hszi)) AJ ⟨aB rfl,aB rfl,rfl⟩ (qF (.of (M.cap*abv (M.inc y)))) ?_
 refine aF 21 rfl (uG) Fm rfl (qF (.of ((0:Int):Rat))) ?_;refine aF 23 rfl (oR (Qn.of (p:=(M.inc (y))) (by assumption))) Bx ⟨aB rfl,rfl⟩ (qF (.of (abv (M.inc (y))))) ?_
 refine aF 32 rfl (mZ (Qn.of (p:=(abv (M.inc (y)))) (by assumption)) (Qn.of (p:=(M.ring (y))) (by assumption))) pV ⟨aB rfl,aB rfl,rfl⟩ (qF (.of ((abv (M.inc (y)))-(M.ring (y))))) ?_
 refine aF 33 rfl (uG) Fm rfl (qF (.of ((0:Int):Rat))) ?_;refine aF 34 rfl (uG) Fm rfl (qF (.of ((0:Int):Rat))) ?_;refine df 35 ?_
 refine eZ (key:=3) 36 (by kernel_rfl) rfl rfl aA rfl ⟨rfl,rfl,trivial⟩ ?_
 refine nU (j:=4) (n:=(M.rows U e c y).length) (l:=Ht (M.rows U e c y)) 37 rfl aA rfl rfl rfl (.sl rfl (HH _)) (.sl rfl rfl rfl) rfl rfl (by omega) (by omega) rfl ⟨rfl,rfl,trivial⟩ rfl (by kernel_rfl) rfl ?_
 refine cR 38 (by kernel_rfl) rfl rfl aA rfl (by trivial) ?_ (fun h=>by first | rfl | cases h)
 refine cR 39 (by kernel_rfl) rfl rfl aA rfl (by trivial) ?_ (fun h=>by first | rfl | cases h)
 refine df 40 ?_;refine dst 41 ?_;refine aJ ?_
 refine md (γ:=Unit) (fun _=>bS [(0,.one (.pt 0 0)),(1,.one (tv (.int .i64 ((y:Nat):Int))))]) (fun _=>([⟨92,0,dD M N (.t (dI true false (M.rows (M.step U y) e c (y+1)))) (.t (cN true false (M.step U y))) (.t (dV (wl M (M.step U y) (M.I y++[y])) (if M.inc y<0 then(y:Int)else last) (if M.inc y<0 then true else put)))⟩]:List Ob).map some) (fun _=>True) ?_ fun _ _=>?_
 ·refine sq ?_
  refine WP.sub (jQ (j:=0) (k:=4) (p:=0) (e:=66) (z:=24) (n:=(M.rows U e c y).length+1) (trs:=(M.rows U e c (y+1)).flatMap (cE false)) (l':=dD M N (.t (.s true 66 24 ((M.rows U e c y).length+1) ((M.rows U e c (y+1)).flatMap (cE false)))) (.t (cN true false U)) (.t (dV (wl M U (M.I y)) last put))) rfl rfl rfl (congrArg (fun l:List AV=>some (⟨66,24,l⟩:Ob)) ((AK (M.rows U e c y) (⟨abv (-(M.inc y)),M.cap*abv (M.inc y),((0:Int):Rat),abv (M.inc y)-M.ring y,((0:Int):Rat),((0:Int):Rat)⟩:Rw)).trans (congrArg Ht (by rw[HI hof0 he hc];exact Vu)))) rfl (cC _ _ (by rw[dY,cZ,cZ])) (by rw[dY,cZ,cZ]) rfl) ?_
  refine WP.sub (gE h0 [0,2] [(0,.one (.pt 0 0)),(1,.one (tv (.int .i64 ((y:Nat):Int)))),(4,.one (.pt 1 0))] [⟨92,0,dD M N (.t (dI true false (M.rows U e c (y+1)))) (.t (cN true false U)) (.t (dV (wl M U (M.I y)) last put))⟩,⟨26,0,((Fr4.of (M.inc y)).tr false).map .t⟩] (by decide) rfl ⟨rfl,rfl,rfl,trivial⟩ ⟨oe rfl (congrArg (fun n=>some (⟨92,0,dD M N (.t (.s true 66 24 n ((M.rows U e c (y+1)).flatMap (cE false)))) (.t (cN true false U)) (.t (dV (wl M U (M.I y)) last put))⟩:Ob)) (show(M.rows U e c y).length+1=(M.rows U e c (y+1)).length by rw[cZ,cZ])),oe rfl rfl,rfl⟩) ?_
  refine rl ?_;refine ld ?_;refine ca (fZ (Qn.of (p:=(M.inc y)) (by assumption))) kL ⟨aB rfl,rfl⟩ (.one (tv (.int .i64 (M.inc y).num.sign))) ?_
  refine o1 ?_;refine nl ?_;refine bP rfl (fun h1=>?_) (fun h1=>?_)
  ·refine rl ?_;refine o1 ?_;refine o1 ?_;have hneg:M.inc y<0:=(iQ _).1 h1
   refine cl 2 [0] (LZ (M:=M) (N:=N) (U:=U) (e:=e) (c:=c) (vs:=(wl M U (M.I y))) (last:=last) (put:=put) hOk hI hy hU hlu.symm hlast (Nat.le_trans Dl (Nat.le_trans (Dk hOk.w) (by omega)))) VL ⟨oe rfl rfl,rfl⟩ ⟨rfl,rfl,rfl⟩ (ok:=[some ⟨92,0,dD M N (.t (dI true false (M.rows (M.back U y (y-(y-M.b))) e c (y+1)))) (.t (cN true false (M.back U y (y-(y-M.b))))) (.t (dV ((wl M U (M.I y))++wl M (M.back U y (y-(y-M.b))) [y]) (y:Int) true))⟩]) ⟨oe rfl rfl,rfl⟩ ?_
   refine nl ?_;have e1:(M.step U y)=(M.back U y (y-(y-M.b))):=if_pos hneg
   have e2:(wl M U (M.I y))++wl M (M.back U y (y-(y-M.b))) [y]=wl M (M.back U y (y-(y-M.b))) (M.I y++[y]):=AM hneg
   exact⟨(),trivial,gE h0 [0] _ _ (by decide) rfl ⟨rfl,rfl,trivial⟩ ⟨oe rfl (by rw[e1,if_pos hneg,if_pos hneg,←e2];rfl),rfl⟩⟩
  refine rl ?_;refine o1 ?_;refine o1 ?_;have hneg:¬M.inc y<0:=fun h9=>h1 ((iQ _).2 h9)
  refine cl 2 [0] (Vs (M:=M) (N:=N) (U:=U) (e:=e) (c:=c) (last:=last) (put:=put) hOk hI hy hU) VM ⟨oe rfl rfl,rfl⟩ ⟨rfl,rfl,rfl⟩ (ok:=[some ⟨92,0,dD M N (.t (dI true false (M.rows (M.fwd U y (y-(y-M.w))) e c (y+1)))) (.t (cN true false (M.fwd U y (y-(y-M.w))))) (.t (dV (wl M (M.fwd U y (y-(y-M.w))) (M.I y)) last put))⟩]) ⟨oe rfl rfl,rfl⟩ ?_
  refine nl ?_;have e1:(M.step U y)=(M.fwd U y (y-(y-M.w))):=if_neg hneg
  have e2:wl M (M.fwd U y (y-(y-M.w))) (M.I y)=wl M (M.fwd U y (y-(y-M.w))) (M.I y++[y]):=HJ hneg hlu (Nat.le_refl _)
  exact⟨(),trivial,gE h0 [0] _ _ (by decide) rfl ⟨rfl,rfl,trivial⟩ ⟨oe rfl (by rw[e1,if_neg hneg,if_neg hneg,←e2];rfl),rfl⟩⟩
 refine sq ?_
 refine WP.sub (Ta (j:=0) (key:=1) (p:=9) (e:=136) (trs:=[sR 97 (wl M (M.step U y) (M.I y++[y])),.v (.int .i64 ((if M.inc y<0 then(y:Int)else last))),.v (.bool (if M.inc y<0 then true else put))]) (l':=dD M N (.t (dI true false (M.rows (M.step U y) e c (y+1)))) (.t (cN true false (M.step U y))) (.pt 1 0)) rfl rfl rfl rfl) ?_
 have hzJ:∀x∈(wl M (M.step U y) (M.I y++[y])),Sz 68719476736 x.2:=fun x hx=>by obtain⟨i,hi,rfl,_⟩:=xT hx;refine(hIs.sz_left hOk ?_).mono (by omega);rcases List.mem_append.1 hi with h9 | h9;(have:=sJ.1 h9;omega);(rw[List.mem_singleton]at h9;omega)
 have hlV:(wl M (M.step U y) (M.I y++[y])).length≤1073741823:=by have h9:=Dl (M:=M) (U:=(M.step U y)) (I:=M.I y++[y]);have h8:=Dk (k:=y) hOk.w;rw[List.length_append,List.length_singleton]at h9;omega
 have hEl:(wl M (M.step U y) (M.J y)).length≤1073741823:=by have h9:=Dl (M:=M) (U:=(M.step U y)) (I:=M.J y);have h8:=Dk (k:=y) hOk.w;have h7:(M.J y).length≤(M.I y++[y]).length:=List.length_filter_le _ _;rw[List.length_append,List.length_singleton]at h7;omega
 have hexp:=AG (vs:=(wl M (M.step U y) (M.I y++[y]))) (last:=(if M.inc y<0 then(y:Int)else last)) (put:=(if M.inc y<0 then true else put)) (b:=((y:Int)-(M.w:Int)+1)) hlV hzJ
 rw[RM,RN]at hexp;refine rd [0] (fun i=>[].contains i) mixed ?_
 refine dv 0 ?_;refine dv 1 ?_;refine dv 2 ?_;refine aI 3 ?_;refine dv 4 ?_;refine dv 5 ?_;refine dv 6 ?_;refine dv 7 ?_;refine dv 8 ?_;refine aI 9 ?_;refine dv 10 ?_;refine dv 11 ?_
 refine dv 14 ?_
 refine uC 12 2 [1] rfl hexp VN ⟨oe rfl rfl,rfl⟩ ⟨rfl,rfl,rfl⟩ (ok:=[some ⟨136,0,[.t (sR 97 (wl M (M.step U y) (M.I (y+1)))),tv (.int .i64 (if M.inc y<0 then(y:Int)else last)),tv (.bool (if M.inc y<0 then true else put))]⟩]) ⟨oe rfl rfl,rfl⟩ ⟨rfl,trivial⟩ ?_
 refine df 13 ?_;refine aJ ?_;refine bl ?_;refine WP.sub (MA (i:=77) (k:=2) (n:=(wl M (M.step U y) (M.J y)).length) 97 rfl rfl rfl (bN true _) (Di true _) (.one .sl)) ?_
 refine WP.sub (Km (j:=0) (k:=1) (p:=9) (e:=136) (trs:=[sR 97 (wl M (M.step U y) (M.I (y+1))),.v (.int .i64 ((if M.inc y<0 then(y:Int)else last))),.v (.bool (if M.inc y<0 then true else put))]) (l':=dD M N (.t (dI true false (M.rows (M.step U y) e c (y+1)))) (.t (cN true false (M.step U y))) (.t (dV (wl M (M.step U y) (M.I (y+1))) ((if M.inc y<0 then(y:Int)else last)) (if M.inc y<0 then true else put)))) rfl rfl rfl rfl rfl) ?_
 refine WP.sub (tZ (j:=0) (key:=3) (p:=0) (e:=66) (z:=24) (n:=(M.rows (M.step U y) e c (y+1)).length) (trs:=(M.rows (M.step U y) e c (y+1)).flatMap (cE false)) (l':=dD M N (.sl 3 0 (M.rows (M.step U y) e c (y+1)).length) (.t (cN true false (M.step U y))) (.t (dV (wl M (M.step U y) (M.I (y+1))) (if M.inc y<0 then(y:Int)else last) (if M.inc y<0 then true else put)))) rfl rfl rfl rfl rfl) ?_
 refine lp (γ:=Nat) (fun k=>bS [(0,.one (.pt 0 0)),(1,.one (tv (.int .i64 ((y:Nat):Int)))),(77,.one (.t (sV 97 false (wl M (M.step U y) (M.J y))))),(78,.one (tv (.int .i64 (((wl M (M.step U y) (M.J y)).length:Nat):Int)))),(79,.one (tv (.int .i64 ((k:Nat):Int))))]) (fun k=>[(⟨92,0,dD M N (.sl 1 0 (y+1)) (.t (cN true false (M.step U y))) (.t (dV (wl M (M.step U y) (M.I (y+1))) (if M.inc y<0 then(y:Int)else last) (if M.inc y<0 then true else put)))⟩:Ob),⟨66,24,Ht (M.rows (M.step U y) (eJ ((wl M (M.step U y) (M.J y)).take k) e) c (y+1))⟩].map some) (fun k=>k≤(wl M (M.step U y) (M.J y)).length) (fun k=>(wl M (M.step U y) (M.J y)).length-k) 0 (Nat.zero_le _) (gE h0 [0,3] _ _ (by decide) rfl ⟨rfl,rfl,rfl,rfl,rfl,trivial⟩ ⟨oe rfl (congrArg (fun n=>some (⟨92,0,dD M N (.sl 3 0 n) (.t (cN true false (M.step U y))) (.t (dV (wl M (M.step U y) (M.I (y+1))) (if M.inc y<0 then(y:Int)else last) (if M.inc y<0 then true else put)))⟩:Ob)) cZ),aQ rfl,rfl⟩) fun k hk=>?_
 refine sq ?_;refine rl ?_;refine o1 ?_;refine nl ?_;refine sq ?_;refine bP rfl (fun h2=>?_) (fun h2=>?_)
 ·refine sk ?_;refine sq ?_;refine bl ?_;refine sq ?_;obtain⟨i,hi,hx,hpos⟩:=xT (nG (vs:=(wl M (M.step U y) (M.J y))) (k:=k) (by omega))
  have hiJ:=EI.1 hi
  have hx1:(aU (wl M (M.step U y) (M.J y)) k).1=(i:Int):=by rw[hx]
  have hrk:(M.rows (M.step U y) (eJ ((wl M (M.step U y) (M.J y)).take k) e) c (y+1)).length=y+1:=cZ
  have hst:(M.rows (M.step U y) (eJ ((wl M (M.step U y) (M.J y)).take k) e) c (y+1)).set i (⟨M.los i,M.lim i,eH (M.step U y) i,M.tax (M.step U y) i,(aU (wl M (M.step U y) (M.J y)) k).2,c i⟩:Rw)=(M.rows (M.step U y) (eJ ((wl M (M.step U y) (M.J y)).take (k+1)) e) c (y+1)):=AN (by omega) (fun j hj hne=>by rw[kV (by omega),sK (qG (Dm Pf) (by omega)),if_neg (by rw[hx1];omega)]) (by rw[kV (by omega),sK (qG (Dm Pf) (by omega)),if_pos hx1])
  refine rl ?_;refine o1 ?_;refine cW (cJ false (aU (wl M (M.step U y) (M.J y)) (k))) (tY false (by omega)) ?_
  refine al 2 ?_;refine st ?_;refine nl ?_;refine rd [0,2] (fun i=>[].contains i) mixed ?_
  refine dv 0 ?_;refine dv 1 ?_;refine dv 2 ?_;refine dv 3 ?_;refine aI 4 ?_;refine dv 5 ?_;refine aI 6 ?_;refine WD.cast (t:=89) (u':=.int .i64 ((i:Nat):Int)) rfl (aH hx1) ?_
  refine dv 7 ?_;refine aI 8 ?_;refine dv 9 ?_;refine dv 10 ?_
  refine zQ 11 (lN (xs:=(M.rows (M.step U y) (eJ ((wl M (M.step U y) (M.J y)).take k) e) c (y+1))) (k:=i) (x:=(⟨(M.los i),(M.lim i),(eH (M.step U y) i),(M.tax (M.step U y) i),((eJ ((wl M (M.step U y) (M.J y)).take k) e) i),(c i)⟩:Rw)) (f:=(cE false)) (z:=24) (o:=16) (x':=(⟨(M.los i),(M.lim i),(eH (M.step U y) i),(M.tax (M.step U y) i),(aU (wl M (M.step U y) (M.J y)) (k)).2,(c i)⟩:Rw)) (us:=(Fr4.of (aU (wl M (M.step U y) (M.J y)) (k)).2).tr false) (dX false) (rE (by omega)) (Nat.le_of_ble_eq_true rfl) rfl) (oS (xs:=(M.rows (M.step U y) (eJ ((wl M (M.step U y) (M.J y)).take k) e) c (y+1))) (k:=i) (f:=(cE false)) (z:=24) (o:=16) (us:=(Fr4.of (aU (wl M (M.step U y) (M.J y)) (k)).2).tr false) (dX false) (by omega) (Nat.le_of_ble_eq_true rfl)) ?_
  refine aJ ?_;refine rl ?_;refine o1 ?_;refine WL.cast (t:=94) (u':=.int .i64 ((k+1:Nat):Int)) rfl (aH (by omega)) ?_
  refine o1 ?_;refine nl ?_
  exact⟨k+1,by omega,by omega,gE h0 [0,1] _ _ (by decide) rfl ⟨rfl,rfl,rfl,rfl,rfl,trivial⟩ ⟨oe rfl rfl,aQ (congrArg (fun l:List Rw=>some (⟨66,24,(l.flatMap (cE false)).map .t⟩:Ob)) hst),rfl⟩⟩
 refine ex ?_
 refine xC (jQ (j:=0) (k:=1) (p:=0) (e:=66) (z:=24) (n:=(y+1)) (trs:=(M.rows (M.step U y) (eJ ((wl M (M.step U y) (M.J y)).take k) e) c (y+1)).flatMap (cE false)) (l':=dD M N (.t (.s true 66 24 ((y+1)) ((M.rows (M.step U y) (eJ ((wl M (M.step U y) (M.J y)).take k) e) c (y+1)).flatMap (cE false)))) (.t (cN true false (M.step U y))) (.t (dV (wl M (M.step U y) (M.I (y+1))) (if M.inc y<0 then(y:Int)else last) (if M.inc y<0 then true else put)))) rfl rfl rfl (rfl) rfl (cC _ _ (by rw[dY,cZ])) (by rw[dY,cZ]) rfl) ?_
 exact oP <| kU (lent':=[mS M N (M.rows (M.step U y) (eJ (wl M (M.step U y) (M.J y)) e) c (y+1)) (M.step U y) (dV (wl M (M.step U y) (M.I (y+1))) (if M.inc y<0 then(y:Int)else last) (if M.inc y<0 then true else put))]) (.inr rfl) rfl (Hr) (by decide) (fun _ h=>by cases h) ⟨⟨rfl,rfl⟩,trivial⟩ ⟨by rw[show eJ (wl M (M.step U y) (M.J y)) e=(eJ ((wl M (M.step U y) (M.J y)).take k) e) by rw[List.take_of_length_le (by omega)]];exact congrArg (fun n=>some (⟨92,0,dD M N (.t (.s true 66 24 n ((M.rows (M.step U y) (eJ ((wl M (M.step U y) (M.J y)).take k) e) c (y+1)).flatMap (cE false)))) (.t (cN true false (M.step U y))) (.t (dV (wl M (M.step U y) (M.I (y+1))) (if M.inc y<0 then(y:Int)else last) (if M.inc y<0 then true else put)))⟩:Ob)) (show y+1=(M.rows (M.step U y) (eJ ((wl M (M.step U y) (M.J y)).take k) e) c (y+1)).length from cZ.symm),trivial⟩ ⟨rfl,trivial⟩ (fun h=>by cases h) ⟨rfl,rfl⟩
section
variable {α:Type}{f:Nat→α→List Tr}{q:Nat→α→Rat}{off:Nat→Nat}{z K i k:Nat}{xs:List α}
def pW (f:Nat→α→List Tr) (K:Nat) (xs:List α) (i:Nat):List Tr:=(xs.take i).flatMap (f K)++(xs.drop i).flatMap (f 0)
structure FrL (f:Nat→α→List Tr) (q:Nat→α→Rat) (off:Nat→Nat) (z K:Nat):Prop where
 len:∀k x,(f k x).length=z
 rd:∀k x,k<K→((f k x).drop (off k)).take 4=(Fr4.of (q k x)).tr false
 wr:∀k x,k<K→cT (f k x) (off k) ((Fr4.of (q k x)).tr true)=f (k+1) x
 le:∀k,k<K→off k+4≤z
theorem pX (h:FrL f q off z K) (hi:i≤xs.length) (m:Nat):((xs.take i).flatMap (f m)).length=i*z:=by
 rw[gA (h.len m),List.length_take,Nat.min_eq_left hi]
theorem Ko:pW f K xs 0=xs.flatMap (f 0):=by simp[pW]
theorem Pg (h:xs.length≤i):pW f K xs i=xs.flatMap (f K):=by simp[pW,List.take_of_length_le h,List.drop_of_length_le h]
variable [Inhabited α]
def kM (f:Nat→α→List Tr) (K:Nat) (xs:List α) (i k:Nat):List Tr:=(xs.take i).flatMap (f K)++(f k (xs.getD i default)++(xs.drop (i+1)).flatMap (f 0))
theorem Ph (h:FrL f q off z K) (hi:i<xs.length):(kM f K xs i k).length=xs.length*z:=by
 unfold kM
 rw[List.length_append,List.length_append,pX h (by omega),h.len,gA (h.len 0),List.length_drop]
 have:xs.length=i+1+(xs.length-(i+1)):=by omega
 conv=>rhs;rw[this]
 rw[Nat.add_mul,Nat.add_mul]
 omega
theorem Vv (h:FrL f q off z K) (hi:i<xs.length) (hk:k<K):((kM f K xs i k).drop (0+i*z+off k)).take 4=(Fr4.of (q k (xs.getD i default))).tr false:=by
 have hA:=pX (f:=f) (m:=K) h (i:=i) (xs:=xs) (by omega)
 have hl:=h.len k (xs.getD i default)
 have hle:=h.le k hk
 unfold kM
 rw[List.drop_append,hA,List.drop_of_length_le (by omega),List.nil_append,show 0+i*z+off k-i*z=off k by omega,List.drop_append_of_le_length (by omega),List.take_append_of_le_length (by rw[List.length_drop];omega)]
 exact h.rd k _ hk
theorem Vx (h:FrL f q off z K) (hi:i<xs.length) (hk:k<K):cT (kM f K xs i k) (0+i*z+off k) ((Fr4.of (q k (xs.getD i default))).tr true)=kM f K xs i (k+1):=by
 have hA:=pX (f:=f) (m:=K) h (i:=i) (xs:=xs) (by omega)
 have hl:=h.len k (xs.getD i default)
 have hle:=h.le k hk
 have hw:=h.wr k (xs.getD i default) hk
 unfold kM
 rw[←hw]
 generalize (xs.take i).flatMap (f K)=A at*
 generalize (xs.drop (i+1)).flatMap (f 0)=C at*
 generalize f k (xs.getD i default)=X at*
 have h4:((Fr4.of (q k (xs.getD i default))).tr true).length=4:=rfl
 generalize (Fr4.of (q k (xs.getD i default))).tr true=us at*
 unfold cT
 rw[List.take_append,List.drop_append,hA,List.take_of_length_le (l:=A) (by omega),List.drop_of_length_le (l:=A) (by omega),show 0+i*z+off k-i*z=off k by omega,show 0+i*z+off k+us.length-i*z=off k+us.length by omega,List.take_append,List.drop_append,show off k-X.length=0 by omega,show off k+us.length-X.length=0 by omega]
 simp
theorem Pi (hi:i<xs.length):pW f K xs i=kM f K xs i 0:=by
 unfold pW kM
 rw[List.drop_eq_getElem_cons hi,List.flatMap_cons]
 simp[hi]
theorem Pj (hi:i<xs.length):kM f K xs i K=pW f K xs (i+1):=by
 unfold pW kM
 rw[←List.append_assoc]
 congr 1
 rw[←List.take_append_getElem hi,List.flatMap_append]
 simp[hi]
end
instance:Inhabited Rw:=⟨MB⟩
instance:Inhabited Us:=⟨MC⟩
def tG (k:Nat) (r:Rw):List Tr:=(Fr4.of r.l).tr (Nat.blt 0 k)++((Fr4.of r.m).tr (Nat.blt 1 k)++((Fr4.of r.u).tr (Nat.blt 2 k)++((Fr4.of r.t).tr (Nat.blt 3 k)++((Fr4.of r.e).tr (Nat.blt 4 k)++(Fr4.of r.c).tr (Nat.blt 5 k)))))
def rq:Nat→Rw→Rat
 | 0,r=>r.l | 1,r=>r.m | 2,r=>r.u | 3,r=>r.t | 4,r=>r.e | _,r=>r.c
def tH (k:Nat) (u:Us):List Tr:=.v (.int .i64 u.v)::.v (.int .i64 u.y)::((Fr4.of u.n).tr (Nat.blt 0 k)++((Fr4.of u.p).tr (Nat.blt 1 k)++(Fr4.of u.q).tr (Nat.blt 2 k)))
def uq:Nat→Us→Rat
 | 0,u=>u.n | 1,u=>u.p | _,u=>u.q
theorem MD:FrL tG rq (fun k=>4*k) 24 6:=⟨fun _ _=>rfl,fun k x h=>by match k,h with | 0,_=>rfl | 1,_=>rfl | 2,_=>rfl | 3,_=>rfl | 4,_=>rfl | 5,_=>rfl,fun k x h=>by match k,h with | 0,_=>rfl | 1,_=>rfl | 2,_=>rfl | 3,_=>rfl | 4,_=>rfl | 5,_=>rfl,fun k h=>by omega⟩
theorem ME:FrL tH uq (fun k=>2+4*k) 14 3:=⟨fun _ _=>rfl,fun k x h=>by match k,h with | 0,_=>rfl | 1,_=>rfl | 2,_=>rfl,fun k x h=>by match k,h with | 0,_=>rfl | 1,_=>rfl | 2,_=>rfl,fun k h=>by omega⟩
theorem YT {i k:Nat}(hk:k<6):[AV.pt 0 (0+i*24),.pt 0 (0+i*24+4),.pt 0 (0+i*24+8),.pt 0 (0+i*24+12),.pt 0 (0+i*24+16),.pt 0 (0+i*24+20)][k]? =some (.pt 0 (0+i*24+4*k)):=by
 match k,hk with | 0,_=>rfl | 1,_=>rfl | 2,_=>rfl | 3,_=>rfl | 4,_=>rfl | 5,_=>rfl
theorem YU {i k:Nat}(hk:k<3):[AV.pt 1 (0+i*14+2),.pt 1 (0+i*14+6),.pt 1 (0+i*14+10)][k]? =some (.pt 1 (0+i*14+(2+4*k))):=by
 match k,hk with | 0,_=>rfl | 1,_=>rfl | 2,_=>rfl
theorem Kq {α:Type}{l us:List α}{o j:Nat}(hj:j<us.length) (ho:o+us.length≤l.length):(cT l o us)[o+j]? =us[j]? :=by
 unfold cT
 have h1:(l.take o).length=o:=by rw[List.length_take];omega
 rw[List.append_assoc,List.getElem?_append_right (by omega),h1,show o+j-o=j by omega,List.getElem?_append_left hj]
theorem Kr {α:Type}{l us:List α}{o j:Nat}{a:α}(hj:j<us.length) (ho:o+us.length≤l.length):(cT l o us).set (o+j) a=cT l o (us.set j a):=by
 unfold cT
 have h1:(l.take o).length=o:=by rw[List.length_take];omega
 rw[List.append_assoc,List.set_append_right _ _ (by omega),h1,show o+j-o=j by omega,List.set_append_left _ _ hj,List.length_set,List.append_assoc]
theorem Pm:tI Tryz.prog 142 6:=⟨139,by kernel_rfl,.mk (by kernel_rfl) (by kernel_rfl)⟩
theorem Pn:tI Tryz.prog 144 3:=⟨139,by kernel_rfl,.mk (by kernel_rfl) (by kernel_rfl)⟩
theorem Vy {t z o:Nat}{tl:List Tr}{q:Rat}(hs:Sz 68719476736 q) (hx:(tl.drop o).take 4=(Fr4.of q).tr false) (hle:o+4≤tl.length):aE false Tryz.prog 89 [⟨t,z,tl.map .t⟩] [.one (.pt 0 o)] (Rt [⟨t,z,(cT tl o ((Fr4.of q).tr true)).map .t⟩] (.tup [])):=by
 refine xQ Tryz.func89 rfl Tryz.ntmps89 rfl aA rfl fun N9 M9 w9 c0 h0=>?_
 have hx9:((tl.map AV.t).drop o).take (((Fr4.of q).tr false).map AV.t).length=((Fr4.of q).tr false).map .t:=by rw[←List.map_drop,←List.map_take,List.length_map];exact congrArg (List.map AV.t) hx
 have hle9:o+([tv (.bool (aL q.num)),.sl 1 0 (dg 4294967296 q.num.natAbs).length,tv (.bool false),.sl 2 0 (dg 4294967296 q.den).length]:List AV).length≤(tl.map AV.t).length:=by rw[List.length_map];exact hle
 refine rd [0] (fun i=>[6,7].contains i) mixed ?_
 refine dv 0 ?_;refine dv 1 ?_;refine dv 2 ?_;refine oO 3 (us:=((Fr4.of q).tr false).map .t) hx9 ?_;refine aF 4 rfl (uG) Fm rfl (qF (.of ((0:Int):Rat))) ?_
 refine kG 1 5 rfl (Vz (Qn.of (p:=q) hs)) tJ ⟨aB rfl,aB rfl,rfl⟩ ?_;refine cR 6 (by kernel_rfl) rfl rfl aA rfl (by trivial) ?_ (fun h=>by first | rfl | cases h)
 refine Sx 7 (us:=[tv (.bool (aL q.num)),.sl 1 0 (dg 4294967296 q.num.natAbs).length,tv (.bool false),.sl 2 0 (dg 4294967296 q.den).length]) (l:=tl.map .t) rfl hle9 ?_;refine aJ ?_
 refine xC (jQ (j:=0) (k:=1) (p:=o+1) (e:=109) (z:=1) (n:=(dg 4294967296 q.num.natAbs).length) (trs:=aV (dg 4294967296 q.num.natAbs)) (l':=cT (tl.map AV.t) o [tv (.bool (aL q.num)),.t (sU true (dg 4294967296 q.num.natAbs)),tv (.bool false),.sl 2 0 (dg 4294967296 q.den).length]) rfl rfl rfl rfl ((Kq (j:=1) (us:=[tv (.bool (aL q.num)),.sl 1 0 (dg 4294967296 q.num.natAbs).length,tv (.bool false),.sl 2 0 (dg 4294967296 q.den).length]) (Nat.le_of_ble_eq_true rfl) hle9).trans rfl) (bB _) (aY _) (Kr (j:=1) (us:=[tv (.bool (aL q.num)),.sl 1 0 (dg 4294967296 q.num.natAbs).length,tv (.bool false),.sl 2 0 (dg 4294967296 q.den).length]) (Nat.le_of_ble_eq_true rfl) hle9)) ?_
 refine xC (jQ (j:=0) (k:=2) (p:=o+3) (e:=109) (z:=1) (n:=(dg 4294967296 q.den).length) (trs:=aV (dg 4294967296 q.den)) (l':=cT (tl.map AV.t) o [tv (.bool (aL q.num)),.t (sU true (dg 4294967296 q.num.natAbs)),tv (.bool false),.t (sU true (dg 4294967296 q.den))]) rfl rfl rfl rfl ((Kq (j:=3) (us:=[tv (.bool (aL q.num)),.t (sU true (dg 4294967296 q.num.natAbs)),tv (.bool false),.sl 2 0 (dg 4294967296 q.den).length]) (Nat.le_of_ble_eq_true rfl) hle9).trans rfl) (bB _) (aY _) (Kr (j:=3) (us:=[tv (.bool (aL q.num)),.t (sU true (dg 4294967296 q.num.natAbs)),tv (.bool false),.sl 2 0 (dg 4294967296 q.den).length]) (Nat.le_of_ble_eq_true rfl) hle9)) ?_
 exact oP <| kU (lent':=[⟨t,z,(cT tl o ((Fr4.of q).tr true)).map .t⟩]) (.inr rfl) rfl (Hr) (by decide) (fun _ h=>by cases h) ⟨⟨rfl,rfl⟩,trivial⟩ ⟨congrArg (fun l=>some (⟨t,z,l⟩:Ob)) (By AV.t tl o ((Fr4.of q).tr true)).symm,trivial⟩ ⟨lM _,trivial⟩ (fun h=>by cases h) ⟨rfl,rfl⟩
theorem RP {rs:List Rw}{us:List Us}(hrs:∀i,i<rs.length→∀k,Sz 68719476736 (rq k (rs.getD i default))) (hus:∀i,i<us.length→∀k,Sz 68719476736 (uq k (us.getD i default))) (hl:rs.length≤1073741823) (hlu:us.length≤1073741823):aE false Tryz.prog 39 [⟨66,24,(rs.flatMap (cE false)).map .t⟩,⟨46,14,(us.flatMap (dQ false)).map .t⟩] [.agg [.sl 0 0 rs.length,.sl 1 0 us.length]] (Rt [⟨66,24,(rs.flatMap (cE true)).map .t⟩,⟨46,14,(us.flatMap (dQ true)).map .t⟩] (.agg [.sl 0 0 rs.length,.sl 1 0 us.length])):=by
 refine xQ Tryz.func39 rfl Tryz.ntmps39 rfl aA rfl fun N9 M9 w9 c0 h0=>?_
 refine sq ?_;refine rl ?_;refine bx 2 ?_;refine al 3 ?_;refine nl ?_;refine sq ?_;refine rl ?_;refine o1 ?_;refine nl ?_;refine sq ?_;refine sq ?_;refine rl ?_;refine o1 ?_;refine ld ?_
 refine o1 ?_;refine o1 ?_;refine nl ?_;refine bl ?_
 refine lp (γ:=Nat) (fun i=>bS [(1,.one (.pt 2 0)),(2,.one (.pt 3 0)),(3,.one (.t (.f 89 [] []))),(14,.one (tv (.int .i64 ((rs.length:Nat):Int)))),(15,.one (tv (.int .i64 ((i:Nat):Int))))]) (fun i=>[(⟨66,24,(pW tG 6 rs i).map .t⟩:Ob),⟨46,14,(us.flatMap (dQ false)).map .t⟩,⟨35,0,[.sl 0 0 rs.length,.sl 1 0 us.length]⟩,⟨35,0,[tv (.slice none 0 0),tv (.slice none 0 0)]⟩].map some) (fun i=>i≤rs.length) (fun i=>rs.length-i) 0 (Nat.zero_le _) (gE h0 [0,1,2,3] _ _ (by decide) rfl ⟨rfl,rfl,rfl,rfl,rfl,trivial⟩ ⟨aQ (congrArg (fun l:List Tr=>some (⟨66,24,l.map .t⟩:Ob)) (Ko (f:=tG) (K:=6) (xs:=rs)).symm),aQ rfl,oe rfl rfl,oe rfl rfl,rfl⟩) fun i hi=>?_
 refine sq ?_;refine rl ?_;refine o1 ?_;refine nl ?_;refine sq ?_;refine bP rfl (fun h1=>?_) (fun h1=>?_)
 ·refine sk ?_;refine sq ?_;refine bl ?_;refine sq ?_;refine rl ?_;refine o1 ?_;refine o1 ?_;refine nl ?_;refine sq ?_;refine rl ?_;refine o1 ?_;refine ld ?_;(iterate 3 refine o1 ?_)
  refine nl ?_;refine sq ?_;refine rd [2,3] (fun i=>[].contains i) mixed ?_
  refine dv 0 ?_;refine dv 1 ?_;refine dv 2 ?_;refine dv 3 ?_;refine dv 4 ?_;refine dv 5 ?_;refine dv 6 ?_;refine dv 7 ?_;refine dv 8 ?_;refine dv 9 ?_;refine dv 10 ?_;refine dv 11 ?_
  refine dv 12 ?_;refine dv 13 ?_;refine dv 14 ?_;refine dv 15 ?_;refine dv 16 ?_;refine dv 17 ?_;refine dv 19 ?_;refine VB 18 Pm rfl rfl ?_;refine aJ ?_;refine bl ?_
  refine lp (γ:=Nat) (fun k=>bS [(1,.one (.pt 2 0)),(2,.one (.pt 3 0)),(3,.one (.t (.f 89 [] []))),(14,.one (tv (.int .i64 ((rs.length:Nat):Int)))),(15,.one (tv (.int .i64 ((i:Nat):Int)))),(40,.agg [.pt 0 (0+i*24),.pt 0 (0+i*24+4),.pt 0 (0+i*24+8),.pt 0 (0+i*24+12),.pt 0 (0+i*24+16),.pt 0 (0+i*24+20)]),(41,.one (tv (.int .i64 ((k:Nat):Int))))]) (fun k=>[(⟨66,24,(kM tG 6 rs i k).map .t⟩:Ob),⟨46,14,(us.flatMap (dQ false)).map .t⟩,⟨35,0,[.sl 0 0 rs.length,.sl 1 0 us.length]⟩,⟨35,0,[tv (.slice none 0 0),tv (.slice none 0 0)]⟩].map some) (fun k=>k≤6) (fun k=>6-k) 0 (Nat.zero_le _) (gE h0 [0,1,2,3] _ _ (by decide) rfl ⟨rfl,rfl,rfl,rfl,rfl,rfl,rfl,trivial⟩ ⟨aQ (congrArg (fun l:List Tr=>some (⟨66,24,l.map .t⟩:Ob)) (Pi (f:=tG) (K:=6) (xs:=rs) (i:=i) (by omega))),aQ rfl,oe rfl rfl,oe rfl rfl,rfl⟩) fun k hk=>?_
  refine sq ?_;refine rl ?_;refine o1 ?_;refine nl ?_;refine sq ?_;refine bP rfl (fun h2=>?_) (fun h2=>?_)
  ·refine sk ?_;refine sq ?_;refine bl ?_;refine sq ?_;refine rl ?_;have hk9:k<6:=by omega
   refine MF Pm hk9 (YT (i:=i) hk9) ?_;refine o1 ?_;refine nl ?_;refine rl ?_;refine o1 ?_;refine o1 ?_
   refine VC 4 [0] [.one (.pt 0 (0+i*24+4*k))] rfl (Vy (t:=66) (z:=24) (o:=0+i*24+4*k) (tl:=(kM tG 6 rs i k)) (q:=rq k (rs.getD i default)) (hrs _ (by omega) _) (Vv MD (by omega) hk9) (by rw[Ph MD (by omega)];have h8:=Nat.mul_le_mul_right 24 (show i+1≤rs.length by omega);omega)) MG ⟨aQ rfl,rfl⟩ ⟨rfl,rfl⟩ (ok:=[some ⟨66,24,(cT (kM tG 6 rs i k) (0+i*24+4*k) ((Fr4.of (rq k (rs.getD i default))).tr true)).map .t⟩]) ⟨aQ rfl,rfl⟩ ?_
   refine nl ?_;refine rl ?_;refine o1 ?_;refine WL.cast (t:=47) (u':=.int .i64 ((k+1:Nat):Int)) rfl (aH (by omega)) ?_
   refine o1 ?_;refine nl ?_
   exact⟨k+1,by omega,by omega,gE h0 [0,1,2,3] _ _ (by decide) rfl ⟨rfl,rfl,rfl,rfl,rfl,rfl,rfl,trivial⟩ ⟨aQ (congrArg (fun l:List Tr=>some (⟨66,24,l.map .t⟩:Ob)) (Vx MD (by omega) hk9)),aQ rfl,oe rfl rfl,oe rfl rfl,rfl⟩⟩
  refine ex ?_;refine rl ?_;refine o1 ?_;refine WL.cast (t:=48) (u':=.int .i64 ((i+1:Nat):Int)) rfl (aH (by omega)) ?_
  refine o1 ?_;refine nl ?_
  exact⟨i+1,by omega,by omega,gE h0 [0,1,2,3] _ _ (by decide) rfl ⟨rfl,rfl,rfl,rfl,rfl,trivial⟩ ⟨aQ (congrArg (fun l:List Tr=>some (⟨66,24,l.map .t⟩:Ob)) (show(kM tG 6 rs i k)=(pW tG 6 rs (i+1)) by rw[show k=6 by omega];exact Pj (by omega))),aQ rfl,oe rfl rfl,oe rfl rfl,rfl⟩⟩
 refine ex ?_;refine sq ?_;refine sq ?_;refine rl ?_;refine o1 ?_;refine ld ?_;refine o1 ?_;refine o1 ?_;refine nl ?_;refine bl ?_
 refine lp (γ:=Nat) (fun i=>bS [(1,.one (.pt 2 0)),(2,.one (.pt 3 0)),(3,.one (.t (.f 89 [] []))),(51,.one (tv (.int .i64 ((us.length:Nat):Int)))),(52,.one (tv (.int .i64 ((i:Nat):Int))))]) (fun i=>[(⟨66,24,(rs.flatMap (cE true)).map .t⟩:Ob),⟨46,14,(pW tH 3 us i).map .t⟩,⟨35,0,[.sl 0 0 rs.length,.sl 1 0 us.length]⟩,⟨35,0,[tv (.slice none 0 0),tv (.slice none 0 0)]⟩].map some) (fun i=>i≤us.length) (fun i=>us.length-i) 0 (Nat.zero_le _) (gE h0 [0,1,2,3] _ _ (by decide) rfl ⟨rfl,rfl,rfl,rfl,rfl,trivial⟩ ⟨aQ (congrArg (fun l:List Tr=>some (⟨66,24,l.map .t⟩:Ob)) (Pg (f:=tG) (K:=6) (xs:=rs) (i:=i) (by omega))),aQ (congrArg (fun l:List Tr=>some (⟨46,14,l.map .t⟩:Ob)) (Ko (f:=tH) (K:=3) (xs:=us)).symm),oe rfl rfl,oe rfl rfl,rfl⟩) fun i2 hi2=>?_
 refine sq ?_;refine rl ?_;refine o1 ?_;refine nl ?_;refine sq ?_;refine bP rfl (fun h3=>?_) (fun h3=>?_)
 ·refine sk ?_;refine sq ?_;refine bl ?_;refine sq ?_;refine rl ?_;refine o1 ?_;refine o1 ?_;refine nl ?_;refine sq ?_;refine rl ?_;refine o1 ?_;refine ld ?_;(iterate 3 refine o1 ?_)
  refine nl ?_;refine sq ?_;refine rd [2,3] (fun i=>[].contains i) mixed ?_
  refine dv 0 ?_;refine dv 1 ?_;refine dv 2 ?_;refine dv 3 ?_;refine dv 4 ?_;refine dv 5 ?_;refine dv 6 ?_;refine dv 7 ?_;refine dv 8 ?_;refine dv 10 ?_;refine VB 9 Pn rfl rfl ?_
  refine aJ ?_;refine bl ?_
  refine lp (γ:=Nat) (fun k=>bS [(1,.one (.pt 2 0)),(2,.one (.pt 3 0)),(3,.one (.t (.f 89 [] []))),(51,.one (tv (.int .i64 ((us.length:Nat):Int)))),(52,.one (tv (.int .i64 ((i2:Nat):Int)))),(68,.agg [.pt 1 (0+i2*14+2),.pt 1 (0+i2*14+6),.pt 1 (0+i2*14+10)]),(69,.one (tv (.int .i64 ((k:Nat):Int))))]) (fun k=>[(⟨66,24,(rs.flatMap (cE true)).map .t⟩:Ob),⟨46,14,(kM tH 3 us i2 k).map .t⟩,⟨35,0,[.sl 0 0 rs.length,.sl 1 0 us.length]⟩,⟨35,0,[tv (.slice none 0 0),tv (.slice none 0 0)]⟩].map some) (fun k=>k≤3) (fun k=>3-k) 0 (Nat.zero_le _) (gE h0 [0,1,2,3] _ _ (by decide) rfl ⟨rfl,rfl,rfl,rfl,rfl,rfl,rfl,trivial⟩ ⟨aQ rfl,aQ (congrArg (fun l:List Tr=>some (⟨46,14,l.map .t⟩:Ob)) (Pi (f:=tH) (K:=3) (xs:=us) (i:=i2) (by omega))),oe rfl rfl,oe rfl rfl,rfl⟩) fun k hk=>?_
  refine sq ?_;refine rl ?_;refine o1 ?_;refine nl ?_;refine sq ?_;refine bP rfl (fun h4=>?_) (fun h4=>?_)
  ·refine sk ?_;refine sq ?_;refine bl ?_;refine sq ?_;refine rl ?_;have hk9:k<3:=by omega
   refine MF Pn hk9 (YU (i:=i2) hk9) ?_;refine o1 ?_;refine nl ?_;refine rl ?_;refine o1 ?_;refine o1 ?_
   refine VC 4 [1] [.one (.pt 0 (0+i2*14+(2+4*k)))] rfl (Vy (t:=46) (z:=14) (o:=0+i2*14+(2+4*k)) (tl:=(kM tH 3 us i2 k)) (q:=uq k (us.getD i2 default)) (hus _ (by omega) _) (Vv ME (by omega) hk9) (by rw[Ph ME (by omega)];have h8:=Nat.mul_le_mul_right 14 (show i2+1≤us.length by omega);omega)) MG ⟨aQ rfl,rfl⟩ ⟨rfl,rfl⟩ (ok:=[some ⟨46,14,(cT (kM tH 3 us i2 k) (0+i2*14+(2+4*k)) ((Fr4.of (uq k (us.getD i2 default))).tr true)).map .t⟩]) ⟨aQ rfl,rfl⟩ ?_
   refine nl ?_;refine rl ?_;refine o1 ?_;refine WL.cast (t:=75) (u':=.int .i64 ((k+1:Nat):Int)) rfl (aH (by omega)) ?_
   refine o1 ?_;refine nl ?_
   exact⟨k+1,by omega,by omega,gE h0 [0,1,2,3] _ _ (by decide) rfl ⟨rfl,rfl,rfl,rfl,rfl,rfl,rfl,trivial⟩ ⟨aQ rfl,aQ (congrArg (fun l:List Tr=>some (⟨46,14,l.map .t⟩:Ob)) (Vx ME (by omega) hk9)),oe rfl rfl,oe rfl rfl,rfl⟩⟩
  refine ex ?_;refine rl ?_;refine o1 ?_;refine WL.cast (t:=76) (u':=.int .i64 ((i2+1:Nat):Int)) rfl (aH (by omega)) ?_
  refine o1 ?_;refine nl ?_
  exact⟨i2+1,by omega,by omega,gE h0 [0,1,2,3] _ _ (by decide) rfl ⟨rfl,rfl,rfl,rfl,rfl,trivial⟩ ⟨aQ rfl,aQ (congrArg (fun l:List Tr=>some (⟨46,14,l.map .t⟩:Ob)) (show(kM tH 3 us i2 k)=(pW tH 3 us (i2+1)) by rw[show k=3 by omega];exact Pj (by omega))),oe rfl rfl,oe rfl rfl,rfl⟩⟩
 refine ex ?_;refine sq ?_;refine rl ?_;refine ld ?_;refine st ?_;refine nl ?_;refine rt ?_
 exact oP <| kU (lent':=[⟨66,24,(rs.flatMap (cE true)).map .t⟩,⟨46,14,(us.flatMap (dQ true)).map .t⟩]) (.inl rfl) rfl (aO (.agg (.cons (.rf rfl rfl) (.cons (.rf rfl rfl) .nil)))) (by decide) (fun _ h=>by cases h) ⟨⟨rfl,rfl⟩,⟨rfl,rfl⟩,trivial⟩ ⟨rfl,congrArg (fun l:List Tr=>some (⟨46,14,l.map .t⟩:Ob)) (Pg (f:=tH) (K:=3) (xs:=us) (i:=i2) (by omega)),trivial⟩ ⟨lM _,lM _,trivial⟩ (fun h=>by cases h) ⟨rfl,rfl⟩
end Go.Proofs.YthoemjjmkgmnjaaGreat
