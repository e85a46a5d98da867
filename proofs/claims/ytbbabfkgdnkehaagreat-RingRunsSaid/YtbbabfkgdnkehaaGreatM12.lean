/- Part 12 of a proof: B3 to V12. -/
import Derived.Test.YtbbabfkgdnkehaaGreatM9
import Derived.Test.YtbbabfkgdnkehaaGreatM11
import Derived.Test.YtbbabfkgdnkehaaGreatM7
import Derived.Test.YtbbabfkgdnkehaaGreatM10
import Derived.Test.YtbbabfkgdnkehaaGreatM8
import Derived.Test.YtbbabfkgdnkehaaGreatM5
set_option maxRecDepth 100000
set_option linter.unusedVariables false
set_option linter.unusedSimpArgs false
namespace Go.Proofs.YtbbabfkgdnkehaaGreat
open Go Go.RowKit
theorem Br {vs:List (Int×Rat)}{dl:Int×Rat→Bool}{fd:FuncId}{fst caps:List Tr}(hok:CallOk Tryz.prog fd) (hd:∀x∈vs,aG true Tryz.prog fd [] (cR fst++[.agg ((cT false x).map .t)]++cR caps) (aU (.one (tv (.bool (dl x)))))) (hl:vs.length≤1073741823):aG true Tryz.prog 149 [] [.one (.t (sV 102 false vs)),.one (.t (.f fd fst caps))] (aU (.one (tv (.int .i64 (if jU dl vs=vs.length then-1 else(jU dl vs:Int)))))):=by
 refine cC Tryz.func149 rfl Tryz.ntmps149 rfl aB rfl fun N w c0 h0=>?_
 refine sq (rl (o1 ?_));refine nl (sq (sq (rl ?_)));(iterate 3 refine o1 ?_);refine nl (bl ?_)
 refine lp (γ:=Nat) (fun k=>bS [(0,.one (.t (sV 102 false vs))),(1,.one (.t (.f fd fst caps))),(7,.one (tv (.int .i64 ((vs.length:Nat):Int)))),(8,.one (tv (.int .i64 ((k:Nat):Int))))]) (fun k=>[].map some) (fun k=>k≤vs.length∧k≤jU dl vs) (fun k=>vs.length-k) 0 (⟨Nat.zero_le _,Nat.zero_le _⟩) (aW h0 [] rfl) fun k hk=>?_
 refine sq (rl (o1 ?_));refine nl (sq ?_);refine bL rfl (fun h1=>?_) (fun h1=>?_)
 ·refine sk (sq (bl (sq (rl (o1 ?_)))));refine o1 ?_;refine nl (sq (rl ?_));(iterate 4 refine o1 ?_)
  refine eE (cT false (aH vs (k))) (uP false (by omega)) ?_
  refine ce 0 [.agg ((cT false (aH vs k)).map .t)] rfl (hd (aH vs k) (mQ (by omega))) hok ⟨rfl,rfl⟩ ?_
  refine nl ?_;refine nC rfl (fun h2=>?_) (fun h2=>?_)
  ·refine sq (rl (o1 ?_));refine o1 ?_;refine nl (rt ?_);have hx9:=(wI hk.2 (by omega)).1 h2
   exact en (.inl rfl) rfl (bD (cU _)) (by decide) (fun _=>trivial) (congrArg (fun z=>FV.one (tv (.int .i64 z))) (by rw[hx9,if_neg (by omega)]))
  refine sk (rl (o1 ?_));refine aZ 18 (k+1) ?_
  refine o1 ?_;refine nl ?_;exact⟨k+1,by omega,⟨by omega,(wI hk.2 (by omega)).2 h2⟩,aW h0 [] rfl⟩
 refine ex (sq (rl (o1 ?_)));refine nl (rt ?_);have hx9:=Mf (dl:=dl) vs
 exact en (.inl rfl) rfl (bD (cU _)) (by decide) (fun _=>trivial) (congrArg (fun z=>FV.one (tv (.int .i64 z))) (by rw[if_pos (by omega)]))
theorem Pv {vs:List (Int×Rat)}{dl:Int×Rat→Bool}{fd:FuncId}{fst caps:List Tr}(hok:CallOk Tryz.prog fd) (hd:∀x∈vs,aG true Tryz.prog fd [] (cR fst++[.agg ((cT false x).map .t)]++cR caps) (aU (.one (tv (.bool (dl x)))))) (hl:vs.length≤1073741823) (hix:jU dl vs<vs.length):aG true Tryz.prog 149 [] [.one (.t (sV 102 false vs)),.one (.t (.f fd fst caps))] (aU (.one (tv (.int .i64 ((jU dl vs:Nat):Int))))):=by
 have h9:=Br hok hd hl
 rwa[if_neg (by omega)]at h9
theorem Mg {vs:List (Int×Rat)}{dl:Int×Rat→Bool}{fd:FuncId}{fst caps:List Tr}(hok:CallOk Tryz.prog fd) (hd:∀x∈vs,aG true Tryz.prog fd [] (cR fst++[.agg ((cT false x).map .t)]++cR caps) (aU (.one (tv (.bool (dl x)))))) (hl:vs.length≤1073741823) (hix:jU dl vs=vs.length):aG true Tryz.prog 149 [] [.one (.t (sV 102 false vs)),.one (.t (.f fd fst caps))] (aU (.one (tv (.int .i64 (-1))))):=by
 have h9:=Br hok hd hl
 rwa[if_pos hix]at h9
theorem Mh {vs:List (Int×Rat)}{dl:Int×Rat→Bool}{fd:FuncId}{fst caps:List Tr}(hok:CallOk Tryz.prog fd) (hd:∀x∈vs,aG true Tryz.prog fd [] (cR fst++[.agg ((cT false x).map .t)]++cR caps) (aU (.one (tv (.bool (dl x)))))) (hl:vs.length≤1073741823):aG false Tryz.prog 131 [⟨102,5,eB vs⟩] [.one (.sl 0 0 vs.length),.one (.t (.f fd fst caps))] (Rt [⟨102,5,(oD vs (eI dl vs)).map .t⟩] (.one (.sl 0 0 (eI dl vs).length))):=by
 refine nG Tryz.func131 rfl Tryz.ntmps131 rfl aB rfl fun N M w c0 h0=>?_
 have hix0:=Mf (dl:=dl) vs
 rcases Nat.lt_or_ge (jU dl vs) vs.length with hix | hix
 ·refine sq (rl (o1 ?_));refine nl (sq (rl (o1 ?_)));refine o1 ?_
  refine ca (Pv hok hd hl hix) ID ⟨xT rfl (.sl rfl rfl (aN _ _ rfl) (bM false vs)),a1 rfl,rfl⟩ (.one (tv (.int .i64 ((jU dl vs:Nat):Int)))) ?_;refine o1 ?_
  refine nl (sq (sq (rl (o1 ?_))));refine o1 ?_;refine nl ?_;refine bL rfl (fun h1=>?_) (fun h1=>?_)
  ·exact absurd h1 (by omega)
  refine sk (sq (sq (rl (o1 ?_))));refine o1 ?_;refine aZ 15 (jU dl vs+1) ?_
  refine o1 ?_;refine nl (bl ?_)
  refine lp (γ:=Nat×Nat×List (Int×Rat)) (fun s=>bS [(0,.one (.sl 0 0 vs.length)),(1,.one (.t (.f fd fst caps))),(5,.one (tv (.int .i64 ((s.1:Nat):Int)))),(6,.one (tv (.int .i64 ((s.2.1:Nat):Int))))]) (fun s=>[({t:=102,z:=5,l:=eB s.2.2}:Ob)].map some) (fun s=>s.1≤s.2.1∧s.2.1≤vs.length∧s.2.2.length=vs.length∧s.2.2.take s.1=(vs.take s.2.1).filter (fun x=> !dl x)∧∀m,s.2.1≤m→aH s.2.2 m=aH vs m) (fun s=>vs.length-s.2.1) (jU dl vs,jU dl vs+1,vs) ⟨by dsimp only;omega,by dsimp only;omega,rfl,Yg hix,fun _ _=>rfl⟩ (dH h0 [0] ⟨aC rfl,rfl⟩) ?_
  rintro⟨i,j,us⟩ ⟨hij,hj,hul,hpre,hsuf⟩;dsimp only at hij hj hul hpre hsuf⊢;refine sq (sq (rl ?_));(iterate 4 refine o1 ?_);refine nl ?_
  refine bL rfl (fun h2=>?_) (fun h2=>?_)
  ·refine sk (sq (bl (sq ?_)));have hsj:aH us j=aH vs j:=hsuf j (bC _)
   refine rl ?_;(iterate 3 refine o1 ?_);refine Mi (Ed (us:=us) (k:=j) (by omega)) ?_
   refine al 1 ?_;refine st ?_;refine nl (sq (rl (o1 ?_)));refine ld ?_
   refine ce 2 [.agg ((cT false (aH us j)).map .t)] rfl (hd (aH us j) (by rw[hsj];exact mQ (by omega))) hok ⟨rfl,rfl⟩ ?_
   refine WL.splitb (t:=28) rfl (fun h3=>?_) (fun h3=>?_)
   ·refine o1 ?_;refine nl (gD rfl (sk (rl (o1 ?_))));refine o1 ?_
    refine aZ 21 (j+1) ?_
    refine o1 ?_;refine nl ?_
    exact⟨(i,j+1,us),by dsimp only;omega,⟨by dsimp only;omega,by dsimp only;omega,hul,by dsimp only;exact DR hpre (by omega) (by rw[←hsj];exact h3),fun m hm=>hsuf m (by dsimp only at hm;omega)⟩,dH h0 [0] ⟨aC rfl,rfl⟩⟩
   refine o1 ?_;refine nl (jM rfl (sq (rl (o1 ?_))));refine o1 ?_;refine ld ?_;refine o1 ?_
   refine uI (IE (us:=us) (k:=i) (x:=((aH us (j)).1,(aH us (j)).2)) (by omega)) (PO (us:=us) (k:=i) (by omega)) ?_
   refine nl (rl (o1 ?_));refine o1 ?_;refine aZ 35 (i+1) ?_
   refine o1 ?_;refine nl (rl (o1 ?_));refine o1 ?_;refine aZ 21 (j+1) ?_
   refine o1 ?_;refine nl ?_
   exact⟨(i+1,j+1,us.set i (aH us j)),by dsimp only;omega,⟨by dsimp only;omega,by dsimp only;omega,by dsimp only;rw[List.length_set];exact hul,by dsimp only;rw[hsj];exact DS hpre (by omega) (by rw[←hsj];exact h3) (by omega),fun m hm=>by dsimp only at hm⊢;rw[PP (by omega)];exact hsuf m (by omega)⟩,dH h0 [0] ⟨aC rfl,rfl⟩⟩
  refine ex (sq (rl ?_));(iterate 3 refine o1 ?_);have hF:us.take i=eI dl vs:=by rw[hpre,fF (by omega)];rfl
  refine clear (o:=0+i*5) (n:=vs.length-i) (z:=5) (zz:=.agg zV.toArray) (l:=eB us) (l':=(oD vs (eI dl vs)).map .t) (by rw[lT];omega) ((by rw[←hul]:eJ (eB us) (0+i*5) ((iF zV (vs.length-i)).map tv)=eJ (eB us) (0+i*5) ((iF zV (us.length-i)).map tv)).trans (Yh hul (by omega) hF)) ?_
  refine nl (sq (rl ?_));(iterate 4 refine o1 ?_);refine nl (rt ?_);have hFl:(eI dl vs).length=i:=by rw[←hF,eA];omega
  exact hJ (lent':=[⟨102,5,(oD vs (eI dl vs)).map .t⟩]) (.inl rfl) rfl (bD (.one (.rf rfl rfl))) (by decide) (fun _ h=>by cases h) ⟨⟨rfl,rfl⟩,trivial⟩ ⟨rfl,trivial⟩ ⟨cK _,trivial⟩ (fun h=>by cases h) ⟨rfl,by rw[hFl]⟩
 replace hix:jU dl vs=vs.length:=by omega
 refine sq (rl (o1 ?_));refine nl (sq (rl (o1 ?_)));refine o1 ?_
 refine ca (Mg hok hd hl hix) ID ⟨xT rfl (.sl rfl rfl (aN _ _ rfl) (bM false vs)),a1 rfl,rfl⟩ (.one (tv (.int .i64 (-1)))) ?_;refine o1 ?_;refine nl (sq ?_)
 refine sq (rl (o1 ?_));refine o1 ?_;refine nl ?_;refine bL rfl (fun h4=>?_) (fun h4=>?_)
 ·refine sq (rl (o1 ?_));refine o1 ?_;refine nl (rt ?_)
  exact hJ (lent':=[⟨102,5,(oD vs (eI dl vs)).map .t⟩]) (.inl rfl) rfl (bD (.one (.rf rfl rfl))) (by decide) (fun _ h=>by cases h) ⟨⟨rfl,rfl⟩,trivial⟩ ⟨congrArg (fun l=>some (⟨102,5,l⟩:Ob)) (Yi (Mj hix)),trivial⟩ ⟨cK _,trivial⟩ (fun h=>by cases h) ⟨rfl,by rw[Mj hix]⟩
 exact absurd h4 (by omega)
theorem DT {vs:List (Int×Rat)}(hl:vs.length≤1073741823):aG false Tryz.prog 105 [⟨102,5,eB vs⟩] [.one (.sl 0 0 vs.length)] (Rt [⟨102,5,eB vs⟩] (.one (.t (sR 102 vs)))):=by
 refine nG Tryz.func105 rfl Tryz.ntmps105 rfl aB rfl fun N M w c0 h0=>?_
 refine sq (rl (o1 ?_));refine nl (sq (sq (rl (o1 ?_))));refine nq (fun hn0=>?_) ?_
 ·refine nl (jM rfl (sq (rl (o1 ?_))));refine nl (rt ?_);have hv0:vs=[]:=List.eq_nil_of_length_eq_zero hn0
  exact hJ (lent':=[⟨102,5,eB vs⟩]) (.inl rfl) rfl (bD (.one (.nil (t:=102) (z:=5)))) (by decide) (fun _ h=>by cases h) ⟨⟨rfl,rfl⟩,trivial⟩ ⟨rfl,trivial⟩ ⟨cK _,trivial⟩ (fun h=>by cases h) ⟨rfl,by rw[hv0];rfl⟩
 refine nl (gD rfl (sk (sq (rl (bs0 1 ?_)))));refine o1 ?_
 refine iN (j:=2) (n:=0) (m:=vs.length) (news:=eB vs) aB rfl rfl rfl rfl (.sl rfl rfl) (.sl rfl (fF (Nat.le_of_eq (lT vs))) (lT vs)) (XN vs) (PQ vs) rfl (by omega) (by omega) ?_
 refine o1 ?_;refine nl (rt ?_)
 exact hJ (lent':=[⟨102,5,eB vs⟩]) (.inl rfl) rfl (bD (.one (.sl (trs:=vs.flatMap (cT false)) rfl rfl (by rw[List.nil_append,Nat.zero_add];exact fF (Nat.le_of_eq (lT vs))) (by rw[bM,Nat.zero_add])))) (by decide) (by simp) ⟨⟨rfl,rfl⟩,trivial⟩ ⟨rfl,trivial⟩ ⟨cK _,trivial⟩ (fun h=>by cases h) ⟨rfl,by rw[Nat.zero_add];rfl⟩
theorem Aj {t0:Nat}{rest:List Tr}{vs:List (Int×Rat)}{dl:Int×Rat→Bool}{fd:FuncId}{fst caps:List Tr}(hok:CallOk Tryz.prog fd) (hd:∀x∈vs,aG true Tryz.prog fd [] (cR fst++[.agg ((cT false x).map .t)]++cR caps) (aU (.one (tv (.bool (dl x)))))) (hl:vs.length≤1073741823):aG false Tryz.prog 106 [⟨t0,0,.t (sR 102 vs)::rest.map .t⟩] [.one (.pt 0 0),.one (.t (.f fd fst caps))] (Rt [⟨t0,0,.t (sR 102 (eI dl vs))::rest.map .t⟩] (.tup [])):=by
 refine nG Tryz.func106 rfl Tryz.ntmps106 rfl aB rfl fun N M w c0 h0=>?_
 refine WP.sub (oE (j:=0) (key:=1) (p:=0) (e:=102) (z:=5) (n:=vs.length) (trs:=vs.flatMap (cT false)) rfl rfl rfl rfl rfl) ?_;refine rl ?_;(iterate 4 refine o1 ?_);refine ld ?_
 refine o1 ?_;refine clr [1] (Mh hok hd hl) UY ⟨aC rfl,rfl⟩ ⟨rfl,rfl,rfl⟩ (ok:=[some ⟨102,5,(oD vs (eI dl vs)).map .t⟩]) ⟨aC rfl,rfl⟩ ?_;refine o1 ?_;refine o1 ?_
 refine uI (o:=0) (us:=[.sl 1 0 (eI dl vs).length]) (l:=.sl 1 0 vs.length::rest.map .t) rfl (by simp) ?_
 refine WL.sub (iH (j:=0) (k:=1) (p:=0) (n:=(eI dl vs).length) (trs:=(eI dl vs).flatMap (cT false)) rfl rfl rfl rfl rfl (Uu _ _) (bM _ _) rfl) ?_;refine nl ?_
 exact hJ (lent':=[⟨t0,0,.t (sR 102 (eI dl vs))::rest.map .t⟩]) (.inr rfl) rfl qT (by decide) (fun _ h=>by cases h) ⟨⟨rfl,rfl⟩,trivial⟩ ⟨rfl,trivial⟩ ⟨cK (sR _ _::rest),trivial⟩ (fun h=>by cases h) ⟨rfl,rfl⟩
theorem Ee {a:Fr4}{p v:Rat}(ha:Qn a p) (hv:Sz 68719476736 v):aG false Tryz.prog 129 [] [qF (.of v),.one (.t (sQ false [a]))] (aU (qF (.of (aJ v [p])))):=by
 have h:=UW (a:=.of v) (xs:=[a]) (Qn.of hv) (fun x hx=>by rw[List.mem_singleton]at hx;rw[hx];exact ha.1) (by simp)
 have e:[a].map Fr4.q=[p]:=by rw[←ha.2];rfl
 rwa[e]at h
theorem PR {t0 i:Nat}{rest:List Tr}{vs:List (Int×Rat)}{a:Fr4}{p:Rat}(ha:Qn a p) (hi:i<vs.length) (hv:Sz 68719476736 (aH vs (i)).2) (hl:vs.length≤1073741823):aG false Tryz.prog 124 [⟨t0,0,.sl 1 0 vs.length::rest.map .t⟩,⟨102,5,eB vs⟩] [.one (.pt 0 0),.one (tv (.int .i64 ((i:Nat):Int))),qF a] (Rt [⟨t0,0,.sl 1 0 vs.length::rest.map .t⟩,⟨102,5,eB (vs.set (i) ((aH vs (i)).1,((aH vs (i)).2-(aJ (aH vs (i)).2 [p]))))⟩] (.agg ((cT false ((aH vs (i)).1,(aJ (aH vs (i)).2 [p]))).map .t))):=by
 refine nG Tryz.func124 rfl Tryz.ntmps124 rfl aB rfl fun N M w c0 h0=>?_
 have hn:Sz 68719476736 (aJ (aH vs (i)).2 [p]):=pH hv fun q hq=>by rw[List.mem_singleton]at hq;rw[hq];exact ha.sz
 have hix:i<vs.length:=hi
 refine sq (rl (bx 2 ?_));refine al 3 ?_;refine nl (sq (rl ?_));(iterate 3 refine o1 ?_);refine ld ?_;(iterate 3 refine o1 ?_);refine nl ?_
 refine md (γ:=Unit) (fun _=>bS [(6,.one (.pt 2 0)),(7,.one (.pt 1 (0+i*5))),(8,.one (.pt 3 0))]) (fun _=>([⟨t0,0,.sl 1 0 vs.length::rest.map .t⟩,⟨102,5,eB vs⟩,⟨102,0,[tv (.int .i64 0),tv (.bool false),tv (.slice none 0 0),tv (.bool false),tv (.slice none 0 0)]⟩,⟨48,0,((Fr4.of (aJ (aH vs (i)).2 [p])).tr false).map .t⟩]:List Ob).map some) (fun _=>True) ?_ fun _ _=>?_
 ·refine rd [0,1,2,3] (fun i=>[8].contains i) mixed ?_
  refine dv 0 ?_;refine dv 1 ?_;refine dv 2 ?_;refine lH 3 (Ka (us:=vs) (k:=i) (by omega)) ?_
  refine aO 4 ?_;refine WO.two (i:=5) (j:=7) (by kernel_rfl) ?_ ?_
  ·refine Uv (key:=4) 5 rfl rfl ⟨rfl,rfl,rfl,rfl,trivial⟩ ?_
   refine uR (i:=20) (k:=4) (t:=48) (t':=52) (z:=4) (n:=1) (l:=[a].flatMap (Fr4.tr false)) rfl rfl rfl rfl (.one .sl) (by rfl) (by rfl) ?_
   refine WO.two (i:=6) (j:=7) (by kernel_rfl) ?_ ?_
   ·refine fG 6 rfl (Ee ha hv) oF ⟨aD rfl,a1 rfl,rfl⟩ (qF (.of (aJ (aH vs (i)).2 [p]))) ?_;refine fU (key:=5) 7 (by kernel_rfl) rfl rfl aB rfl ⟨rfl,rfl,rfl,rfl,trivial⟩ ?_
    refine dst 8 ?_;refine aV ?_;exact⟨(),trivial,dH h0 [0,1,3,5] ⟨Rn rfl rfl,aC rfl,oe rfl rfl,aC rfl,rfl⟩⟩
   refine cG (key:=5) 7 rfl rfl aB rfl ⟨rfl,rfl,rfl,rfl,trivial⟩ ?_;refine aX 6 rfl (Ee ha hv) oF ⟨aD rfl,a1 rfl,rfl⟩ (qF (.of (aJ (aH vs (i)).2 [p]))) ?_
   refine dst 8 ?_;refine aV ?_;exact⟨(),trivial,dH h0 [0,1,3,5] ⟨Rn rfl rfl,aC rfl,oe rfl rfl,aC rfl,rfl⟩⟩
  refine cG (key:=4) 7 rfl rfl aB rfl ⟨rfl,rfl,rfl,rfl,trivial⟩ ?_;refine iU (key:=5) 5 (by kernel_rfl) rfl rfl aB rfl ⟨rfl,rfl,rfl,rfl,trivial⟩ ?_
  refine uR (i:=20) (k:=5) (t:=48) (t':=52) (z:=4) (n:=1) (l:=[a].flatMap (Fr4.tr false)) rfl rfl rfl rfl (.one .sl) (by rfl) (by rfl) ?_
  refine aX 6 rfl (Ee ha hv) oF ⟨aD rfl,a1 rfl,rfl⟩ (qF (.of (aJ (aH vs (i)).2 [p]))) ?_;refine dst 8 ?_;refine aV ?_
  exact⟨(),trivial,dH h0 [0,1,3,4] ⟨Rn rfl rfl,aC rfl,oe rfl rfl,aC rfl,rfl⟩⟩
 refine sq ?_;refine rd [0,1,2,3] (fun i=>[7,8,9].contains i) mixed ?_
 refine dv 0 ?_;refine dv 1 ?_;refine dv 2 ?_;refine dv 3 ?_;refine lH 4 (Ka (us:=vs) (k:=i) (by omega)) ?_
 refine aO 5 ?_
 refine aX 6 rfl (Ak (Qn.of (p:=(aH vs (i)).2) hv) (Qn.of (p:=(aJ (aH vs (i)).2 [p])) hn)) Ge ⟨aD rfl,aD rfl,rfl⟩ (qF (.of ((aH vs (i)).2-(aJ (aH vs (i)).2 [p])))) ?_
 refine eQ 7 (by kernel_rfl) rfl rfl aB rfl (by trivial) ?_ (fun h=>by first | rfl | cases h)
 refine eQ 8 (by kernel_rfl) rfl rfl aB rfl (by trivial) ?_ (fun h=>by first | rfl | cases h)
 refine lX 9 (IF (us:=vs) (k:=i) (q:=((aH vs (i)).2-(aJ (aH vs (i)).2 [p]))) (by omega)) (Rp (us:=vs) (k:=i) (by omega)) ?_
 refine aV ?_;refine sq ?_;refine rd [0,1,2,3] (fun i=>[6].contains i) mixed ?_
 refine dv 0 ?_;refine dv 1 ?_;refine dv 2 ?_
 refine La 3 (Uw (us:=(vs.set (i) ((aH vs (i)).1,((aH vs (i)).2-(aJ (aH vs (i)).2 [p]))))) (k:=i) (by rw[List.length_set];omega)) ?_
 refine aO 4 ?_;refine dv 5 ?_;refine dst 6 ?_;refine aV ?_;refine rt ?_
 exact hJ (lent':=[⟨t0,0,.sl 1 0 vs.length::rest.map .t⟩,⟨102,5,eB (vs.set (i) ((aH vs (i)).1,((aH vs (i)).2-(aJ (aH vs (i)).2 [p]))))⟩]) (.inl rfl) rfl (bD (.agg (.cons (.id rfl) (.cons (.id rfl) (.cons (.id rfl) (.cons (.id rfl) (.cons (.id rfl) .nil))))))) (by decide) (fun _ h=>by cases h) ⟨⟨rfl,rfl⟩,⟨rfl,rfl⟩,trivial⟩ ⟨rfl,rfl,trivial⟩ ⟨cK rest,cK _,trivial⟩ (fun h=>by cases h) ⟨rfl,by rw[Cn hi];rfl⟩
def tJ (x:Int×Rat):Bool:=nX x.1 x.2
theorem Yj {y:Int}{q:Rat}(hs:Sz 68719476736 q):aG true Tryz.prog 125 [] [.agg ((cT false (y,q)).map .t)] (aU (.one (tv (.bool (tJ (y,q)))))):=by
 refine cC Tryz.func125 rfl Tryz.ntmps125 rfl aB rfl fun N w c0 h0=>?_
 refine sq (rl (bx 0 ?_));refine o1 ?_;refine nl (sq (rl (o1 ?_)));refine ld ?_
 refine ca (oB (Qn.of (p:=q) hs)) wH ⟨aD rfl,rfl⟩ (.one (tv (.int .i64 q.num.sign))) ?_;refine o1 ?_;refine o1 ?_;refine nl (rt ?_)
 exact en (.inl rfl) rfl (bD (cU _)) (by decide) (fun _=>trivial) rfl
theorem Mk {t0 i:Nat}{rest:List Tr}{us vs:List (Int×Rat)}{x:Int×Rat}{a:Fr4}{p:Rat}(ha:Qn a p) (hnx:aH us i=x) (hi:i<us.length) (hul:us.length=vs.length) (hv:Sz 68719476736 x.2) (hl:vs.length≤1073741823):aG false Tryz.prog 124 [⟨t0,0,.sl 1 0 vs.length::rest.map .t⟩,⟨102,5,eB us⟩] [.one (.pt 0 0),.one (tv (.int .i64 ((i:Nat):Int))),qF a] (Rt [⟨t0,0,.sl 1 0 vs.length::rest.map .t⟩,⟨102,5,eB (us.set i (x.1,x.2-aJ x.2 [p]))⟩] (.agg ((cT false (x.1,aJ x.2 [p])).map .t))):=by
 subst hnx
 rw[←hul]
 exact PR ha hi hv (by omega)
theorem Yk {y b:Int}{q:Rat}:aG true Tryz.prog 104 [] [.agg ((cT false (y,q)).map .t),.one (.t (.p false 3 [.v (.int .i64 b)]))] (aU (.one (tv (.bool (decide (y<b)))))):=by
 refine cC Tryz.func104 rfl Tryz.ntmps104 rfl aB rfl fun N w c0 h0=>?_
 refine WP.sub (Md (i:=1) rfl rfl) ?_;refine sq (rl (bx 0 ?_));refine o1 ?_;refine nl (sq (rl (o1 ?_)));refine ld ?_
 refine eE ([.v (.int .i64 b)]) rfl ?_;refine o1 ?_;refine o1 ?_;refine nl (rt ?_);exact en (.inl rfl) rfl (bD (cU _)) (by decide) (fun _=>trivial) rfl
theorem PS {y b:Int}{q:Rat}:aG true Tryz.prog 107 [] [.agg ((cT false (y,q)).map .t),.one (.t (.p false 170 [.f 104 [] [.p false 3 [.v (.int .i64 b)]]]))] (aU (.one (tv (.bool (!decide (y<b)))))):=by
 refine cC Tryz.func107 rfl Tryz.ntmps107 rfl aB rfl fun N w c0 h0=>?_
 refine WP.sub (Md (i:=1) rfl rfl) ?_;refine sq (rl (bx 0 ?_));refine o1 ?_;refine nl (sq (rl ?_))
 refine eE ([.f 104 [] [.p false 3 [.v (.int .i64 b)]]]) rfl ?_;refine ld ?_
 refine ce 1 [.agg [tv (.int .i64 y),tv (.bool (aM q.num)),.t (sU false (dg 4294967296 q.num.natAbs)),tv (.bool false),.t (sU false (dg 4294967296 q.den))]] rfl (Yk (y:=y) (q:=q) (b:=b)) IG ⟨rfl,rfl⟩ ?_
 refine o1 ?_;refine o1 ?_;refine nl (rt ?_);exact en (.inl rfl) rfl (bD (cU _)) (by decide) (fun _=>trivial) rfl
theorem DU {vs:List (Int×Rat)}{last b:Int}{put:Bool}(hl:vs.length≤1073741823) (hz:∀x∈vs,Sz 68719476736 x.2):aG false Tryz.prog 72 [⟨137,0,[.t (sR 102 vs),tv (.int .i64 last),tv (.bool put)]⟩] [.one (.pt 0 0),.one (tv (.int .i64 b))] (Rt [⟨137,0,[.t (sR 102 (eI (fun x:Int×Rat=>decide (x.1<b)) vs)),tv (.int .i64 last),tv (.bool put)]⟩] (.one (.t (sO 102 (eI (fun x:Int×Rat=> !decide (x.1<b)) vs))))):=by
 refine nG Tryz.func72 rfl Tryz.ntmps72 rfl aB rfl fun N M w c0 h0=>?_
 refine WP.sub (oE (j:=0) (key:=1) (p:=0) (e:=102) (z:=5) (n:=vs.length) (trs:=vs.flatMap (cT false)) rfl rfl rfl rfl rfl) ?_;refine sq (rl (bx 2 ?_))
 refine WL.sub (Il (i:=3) (k:=2) (t:=3) (l:=[.v (.int .i64 b)]) rfl rfl rfl (.one .sl)) ?_;refine o1 ?_;refine nl (sq (sq (rl (o1 ?_))));refine o1 ?_
 refine nl (gD rfl (sk (sq (rl (o1 ?_)))));refine al 3 ?_;refine st ?_
 refine WL.sub (Il (i:=5) (k:=3) (t:=170) (l:=[.f 104 [] [.p false 3 [.v (.int .i64 b)]]]) rfl rfl rfl (.one .sl)) ?_;refine nl (sq (rl ?_));(iterate 4 refine o1 ?_)
 refine ld ?_;refine cl 4 [1] (DT hl) UZ ⟨aC rfl,rfl⟩ ⟨rfl,rfl⟩ (ok:=[some ⟨102,5,eB vs⟩]) ⟨aC rfl,rfl⟩ ?_;refine o1 ?_;refine bx 5 ?_;refine o1 ?_;refine nl (sq ?_)
 refine rl (o1 ?_);refine o1 ?_
 refine WL.sub (iH (j:=5) (k:=4) (p:=0) (n:=vs.length) (trs:=vs.flatMap (cT false)) rfl rfl rfl rfl rfl (aN _ _ (bM false _)) (bM false _) rfl) ?_
 refine cl 6 [5] (Aj (t0:=135) (rest:=[]) (dl:=(fun x:Int×Rat=> !decide (x.1<b))) (fst:=[]) (caps:=[.p false 170 [.f 104 [] [.p false 3 [.v (.int .i64 b)]]]]) VA (fun x _=>PS (y:=x.1) (q:=x.2)) hl) Kb ⟨oe rfl rfl,rfl⟩ ⟨rfl,rfl,rfl⟩ (ok:=[some ⟨135,0,[.t (sR 102 (eI (fun x:Int×Rat=> !decide (x.1<b)) vs))]⟩]) ⟨oe rfl rfl,rfl⟩ ?_
 refine nl (sq ?_)
 refine WP.sub (iH (j:=0) (k:=1) (p:=0) (n:=vs.length) (trs:=vs.flatMap (cT false)) rfl rfl rfl rfl rfl (aN _ _ (bM false _)) (bM false _) rfl) ?_
 refine WP.sub (Md (i:=5) rfl rfl) ?_;refine rd [5] (fun i=>[].contains i) mixed ?_
 refine dv 0 ?_;refine dv 1 ?_;refine dv 2 ?_;refine fM 3 ([.f 104 [] [.p false 3 [.v (.int .i64 b)]]]) rfl ?_
 refine Rq 4 6 [0] rfl (Aj (t0:=137) (rest:=[.v (.int .i64 last),.v (.bool put)]) (dl:=(fun x:Int×Rat=>decide (x.1<b))) (fst:=[]) (caps:=[.p false 3 [.v (.int .i64 b)]]) IG (fun x _=>Yk (y:=x.1) (q:=x.2)) hl) Kb ⟨oe rfl rfl,rfl⟩ ⟨rfl,rfl,rfl⟩ (ok:=[some ⟨137,0,[.t (sR 102 (eI (fun x:Int×Rat=>decide (x.1<b)) vs)),tv (.int .i64 last),tv (.bool put)]⟩]) ⟨oe rfl rfl,rfl⟩ ⟨rfl,trivial⟩ ?_
 refine aV ?_;refine sq (rl (o1 ?_))
 refine iM 6 (Ye (vs:=(eI (fun x:Int×Rat=> !decide (x.1<b)) vs)) (rest:=[]) (fun x hx=>hz x (List.mem_filter.1 hx).1) (Nat.le_trans (List.length_filter_le _ _) hl)) PN ⟨xT rfl (.pe (trs:=[sR 102 (eI (fun x:Int×Rat=> !decide (x.1<b)) vs)]) rfl rfl rfl (by simp[rdTL,nF,sR,sV,Al])),rfl⟩ ?_
 refine o1 ?_;refine nl (rt ?_)
 exact hJ (lent':=[⟨137,0,[.t (sR 102 (eI (fun x:Int×Rat=>decide (x.1<b)) vs)),tv (.int .i64 last),tv (.bool put)]⟩]) (.inl rfl) rfl (bD (.one (.sl (trs:=(eI (fun x:Int×Rat=> !decide (x.1<b)) vs).flatMap (cT true)) rfl rfl (aN _ _ (bM true _)) (bM true _)))) (by decide) (by simp) ⟨⟨rfl,rfl⟩,trivial⟩ ⟨rfl,trivial⟩ ⟨rfl,trivial⟩ (fun h=>by cases h) ⟨rfl,rfl⟩
theorem PT {vs:List (Int×Rat)}{last y:Int}{put:Bool}{a:Fr4}{q:Rat}(ha:Qn a q) (hl:vs.length≤1073741822):aG false Tryz.prog 71 [⟨137,0,[.t (sR 102 vs),tv (.int .i64 last),tv (.bool put)]⟩,⟨113,1,(aI a.x).map .t⟩,⟨113,1,(aI a.y).map .t⟩] [.one (.pt 0 0),.one (tv (.int .i64 y)),.agg [tv (.bool a.s),.sl 1 0 a.x.length,tv (.bool a.t),.sl 2 0 a.y.length]] (Rt [⟨137,0,[.t (sR 102 (kT (eS (bV a.s a.x a.t a.y) q y last put) q y vs)),tv (.int .i64 (yS (eS (bV a.s a.x a.t a.y) q y last put) y last)),tv (.bool (yT (eS (bV a.s a.x a.t a.y) q y last put) put))]⟩,⟨113,1,(aI a.x).map .t⟩,⟨113,1,(aI a.y).map .t⟩] (.one (tv (.int .i64 (eS (bV a.s a.x a.t a.y) q y last put))))):=by
 refine nG Tryz.func71 rfl Tryz.ntmps71 rfl aB rfl fun N M w c0 h0=>?_
 refine WP.sub (oE (j:=0) (key:=3) (p:=0) (e:=102) (z:=5) (n:=vs.length) (trs:=vs.flatMap (cT false)) rfl rfl rfl rfl rfl) ?_;refine sq (rl (bx 4 ?_));refine o1 ?_
 refine nl (sq (bl (sq (rl ?_))));(iterate 3 refine o1 ?_);refine nl (gD rfl (sq (rl (ld ?_))))
 refine ca (Mc ha.1) DO ⟨oV rfl (.cons .t (.cons (.sl rfl rfl (aN _ _ rfl) (aP _)) (.cons .t (.cons (.sl rfl rfl (aN _ _ rfl) (aP _)) .nil)))),rfl⟩ (.one (tv (.bool (bV a.s a.x a.t a.y)))) ?_
 refine WL.splitb (t:=12) rfl (fun h1=>?_) (fun h1=>?_)
 ·refine o1 ?_;refine o1 ?_;refine ld ?_
  refine ca (oB ha) wH ⟨oV rfl (.cons .t (.cons (.sl rfl rfl (aN _ _ rfl) (aP _)) (.cons .t (.cons (.sl rfl rfl (aN _ _ rfl) (aP _)) .nil)))),rfl⟩ (.one (tv (.int .i64 q.num.sign))) ?_
  (iterate 3 refine o1 ?_);refine nl ?_;refine bL rfl (fun h2=>?_) (fun h2=>?_)
  ·refine sq (rl ?_)
   refine WL.sub (iH (j:=0) (k:=3) (p:=0) (n:=vs.length) (trs:=vs.flatMap (cT false)) rfl rfl rfl rfl rfl (aN _ _ (bM false _)) (bM false _) rfl) ?_;refine o1 ?_
   refine nl (rt ?_);have hpe:(eS (bV a.s a.x a.t a.y) q y last put)=2:=by unfold eS;rw[h1,decide_eq_true h2];rfl
   exact hJ (lent':=[⟨137,0,[.t (sR 102 (kT (eS (bV a.s a.x a.t a.y) q y last put) q y vs)),tv (.int .i64 (yS (eS (bV a.s a.x a.t a.y) q y last put) y last)),tv (.bool (yT (eS (bV a.s a.x a.t a.y) q y last put) put))]⟩,⟨113,1,(aI a.x).map .t⟩,⟨113,1,(aI a.y).map .t⟩]) (.inl rfl) rfl (bD (cU _)) (by decide) (fun _ h=>by cases h) ⟨⟨rfl,rfl⟩,⟨rfl,rfl⟩,⟨rfl,rfl⟩,trivial⟩ ⟨(by rw[hpe];rfl),rfl,rfl,trivial⟩ ⟨rfl,cK _,cK _,trivial⟩ (fun h=>by cases h) ⟨rfl,by rw[hpe]⟩
  refine sq (rl ?_);(iterate 3 refine o1 ?_);refine ld ?_;refine o1 ?_;refine WL.splitb (t:=24) rfl (fun h3=>?_) (fun h3=>?_)
  ·(iterate 4 refine o1 ?_);refine ld ?_;(iterate 3 refine o1 ?_);refine nl ?_;refine bL rfl (fun h4=>?_) (fun h4=>?_)
   ·refine sq (rl ?_)
    refine WL.sub (iH (j:=0) (k:=3) (p:=0) (n:=vs.length) (trs:=vs.flatMap (cT false)) rfl rfl rfl rfl rfl (aN _ _ (bM false _)) (bM false _) rfl) ?_
    refine o1 ?_;refine nl (rt ?_);have hpe:(eS (bV a.s a.x a.t a.y) q y last put)=4:=by unfold eS;rw[h1,decide_eq_false h2,h3,decide_eq_true h4];rfl
    exact hJ (lent':=[⟨137,0,[.t (sR 102 (kT (eS (bV a.s a.x a.t a.y) q y last put) q y vs)),tv (.int .i64 (yS (eS (bV a.s a.x a.t a.y) q y last put) y last)),tv (.bool (yT (eS (bV a.s a.x a.t a.y) q y last put) put))]⟩,⟨113,1,(aI a.x).map .t⟩,⟨113,1,(aI a.y).map .t⟩]) (.inl rfl) rfl (bD (cU _)) (by decide) (fun _ h=>by cases h) ⟨⟨rfl,rfl⟩,⟨rfl,rfl⟩,⟨rfl,rfl⟩,trivial⟩ ⟨(by rw[hpe];rfl),rfl,rfl,trivial⟩ ⟨rfl,cK _,cK _,trivial⟩ (fun h=>by cases h) ⟨rfl,by rw[hpe]⟩
   refine sk (sq (rl ?_));(iterate 5 refine o1 ?_);refine st ?_;refine o1 ?_;refine o1 ?_;refine st ?_;refine nl (sq (sq ?_))
   obtain rfl:=(ha.right h1).symm
   refine rl (ld ?_)
   refine ca (oB ha) wH ⟨oV rfl (.cons .t (.cons (.sl rfl rfl (aN _ _ rfl) (aP _)) (.cons .t (.cons (.sl rfl rfl (aN _ _ rfl) (aP _)) .nil)))),rfl⟩ (.one (tv (.int .i64 q.num.sign))) ?_
   refine o1 ?_;refine nl ?_;refine bL rfl (fun h5=>?_) (fun h5=>?_)
   ·refine rd [0,4] (fun i=>[12,13,14,15].contains i) mixed ?_
    refine dv 0 ?_;refine dv 1 ?_;refine dv 2 ?_;refine dv 3 ?_;refine dv 4 ?_;refine aO 5 ?_;refine dv 6 ?_;refine aO 7 ?_;refine dv 8 ?_
    refine aX 9 rfl (uO (y:=y) ha) Ec ⟨oV rfl (.cons .t (.cons .t (.cons (.sl rfl rfl (aN _ _ rfl) (aP _)) (.cons .t (.cons (.sl rfl rfl (aN _ _ rfl) (aP _)) .nil))))),rfl⟩ (.agg ((cT false (y,q)).map .t)) ?_
    refine iU (key:=5) 10 (by kernel_rfl) rfl rfl aB rfl ⟨rfl,rfl,trivial⟩ ?_
    refine kP (j:=6) (n:=vs.length) (l:=eB vs) 11 rfl aB rfl rfl rfl (.sl rfl (lT _)) (.sl rfl rfl rfl) rfl rfl (by omega) (by omega) rfl ⟨rfl,rfl,trivial⟩ rfl (by kernel_rfl) rfl ?_
    refine eQ 12 (by kernel_rfl) rfl rfl aB rfl (by trivial) ?_ (fun h=>by first | rfl | cases h)
    refine eQ 13 (by kernel_rfl) rfl rfl aB rfl (by trivial) ?_ (fun h=>by first | rfl | cases h)
    refine eQ 14 (by kernel_rfl) rfl rfl aB rfl (by trivial) ?_ (fun h=>by first | rfl | cases h)
    refine dst 15 ?_;refine aV ?_;refine sq (rl ?_)
    refine WL.sub (iH (j:=0) (k:=6) (p:=0) (n:=vs.length+1) (trs:=(vs++[(y,q)]).flatMap (cT false)) rfl rfl rfl (congrArg (fun l=>some (⟨102,5,l⟩:Ob)) (Ml vs (y,q))) rfl (aN _ _ (by rw[bM,cO];rfl)) (by rw[bM,cO];rfl) rfl) ?_
    refine o1 ?_;refine nl (rt ?_)
    have hpe:(eS (bV (Fr4.of q).s (Fr4.of q).x (Fr4.of q).t (Fr4.of q).y) q y last put)=0:=by unfold eS;rw[h1,decide_eq_false h2,h3,decide_eq_false h4];rfl
    have hpl:kT 0 q y vs=(vs++[(y,q)]):=by unfold kT;rw[decide_eq_true h5];rfl
    exact hJ (lent':=[⟨137,0,[.t (sR 102 (kT (eS (bV (Fr4.of q).s (Fr4.of q).x (Fr4.of q).t (Fr4.of q).y) q y last put) q y vs)),tv (.int .i64 (yS (eS (bV (Fr4.of q).s (Fr4.of q).x (Fr4.of q).t (Fr4.of q).y) q y last put) y last)),tv (.bool (yT (eS (bV (Fr4.of q).s (Fr4.of q).x (Fr4.of q).t (Fr4.of q).y) q y last put) put))]⟩,⟨113,1,(aI (Fr4.of q).x).map .t⟩,⟨113,1,(aI (Fr4.of q).y).map .t⟩]) (.inl rfl) rfl (bD (cU _)) (by decide) (fun _ h=>by cases h) ⟨⟨rfl,rfl⟩,⟨rfl,rfl⟩,⟨rfl,rfl⟩,trivial⟩ ⟨(by rw[hpe,hpl];rw[show sR 102 (vs++[(y,q)])=.s true 102 5 (vs.length+1) ((vs++[(y,q)]).flatMap (cT false)) by rw[sR,cO];rfl];rfl),rfl,rfl,trivial⟩ ⟨rfl,cK _,cK _,trivial⟩ (fun h=>by cases h) ⟨rfl,by rw[hpe]⟩
   refine sk (sq (rl ?_))
   refine WL.sub (iH (j:=0) (k:=3) (p:=0) (n:=vs.length) (trs:=vs.flatMap (cT false)) rfl rfl rfl rfl rfl (aN _ _ (bM false _)) (bM false _) rfl) ?_
   refine o1 ?_;refine nl (rt ?_)
   have hpe:(eS (bV (Fr4.of q).s (Fr4.of q).x (Fr4.of q).t (Fr4.of q).y) q y last put)=0:=by unfold eS;rw[h1,decide_eq_false h2,h3,decide_eq_false h4];rfl
   have hpl:kT 0 q y vs=vs:=by unfold kT;rw[decide_eq_false h5];rfl
   exact hJ (lent':=[⟨137,0,[.t (sR 102 (kT (eS (bV (Fr4.of q).s (Fr4.of q).x (Fr4.of q).t (Fr4.of q).y) q y last put) q y vs)),tv (.int .i64 (yS (eS (bV (Fr4.of q).s (Fr4.of q).x (Fr4.of q).t (Fr4.of q).y) q y last put) y last)),tv (.bool (yT (eS (bV (Fr4.of q).s (Fr4.of q).x (Fr4.of q).t (Fr4.of q).y) q y last put) put))]⟩,⟨113,1,(aI (Fr4.of q).x).map .t⟩,⟨113,1,(aI (Fr4.of q).y).map .t⟩]) (.inl rfl) rfl (bD (cU _)) (by decide) (fun _ h=>by cases h) ⟨⟨rfl,rfl⟩,⟨rfl,rfl⟩,⟨rfl,rfl⟩,trivial⟩ ⟨(by rw[hpe,hpl];rfl),rfl,rfl,trivial⟩ ⟨rfl,cK _,cK _,trivial⟩ (fun h=>by cases h) ⟨rfl,by rw[hpe]⟩
  (iterate 6 refine dL ?_);refine o1 ?_;refine o1 ?_;refine nl (gD rfl (sk (sq (rl ?_))));(iterate 5 refine o1 ?_);refine st ?_;refine o1 ?_
  refine o1 ?_;refine st ?_;refine nl (sq (sq ?_));obtain rfl:=(ha.right h1).symm
  refine rl (ld ?_)
  refine ca (oB ha) wH ⟨oV rfl (.cons .t (.cons (.sl rfl rfl (aN _ _ rfl) (aP _)) (.cons .t (.cons (.sl rfl rfl (aN _ _ rfl) (aP _)) .nil)))),rfl⟩ (.one (tv (.int .i64 q.num.sign))) ?_
  refine o1 ?_;refine nl ?_;refine bL rfl (fun h6=>?_) (fun h6=>?_)
  ·refine rd [0,4] (fun i=>[12,13,14,15].contains i) mixed ?_
   refine dv 0 ?_;refine dv 1 ?_;refine dv 2 ?_;refine dv 3 ?_;refine dv 4 ?_;refine aO 5 ?_;refine dv 6 ?_;refine aO 7 ?_;refine dv 8 ?_
   refine aX 9 rfl (uO (y:=y) ha) Ec ⟨oV rfl (.cons .t (.cons .t (.cons (.sl rfl rfl (aN _ _ rfl) (aP _)) (.cons .t (.cons (.sl rfl rfl (aN _ _ rfl) (aP _)) .nil))))),rfl⟩ (.agg ((cT false (y,q)).map .t)) ?_
   refine iU (key:=5) 10 (by kernel_rfl) rfl rfl aB rfl ⟨rfl,rfl,trivial⟩ ?_
   refine kP (j:=6) (n:=vs.length) (l:=eB vs) 11 rfl aB rfl rfl rfl (.sl rfl (lT _)) (.sl rfl rfl rfl) rfl rfl (by omega) (by omega) rfl ⟨rfl,rfl,trivial⟩ rfl (by kernel_rfl) rfl ?_
   refine eQ 12 (by kernel_rfl) rfl rfl aB rfl (by trivial) ?_ (fun h=>by first | rfl | cases h)
   refine eQ 13 (by kernel_rfl) rfl rfl aB rfl (by trivial) ?_ (fun h=>by first | rfl | cases h)
   refine eQ 14 (by kernel_rfl) rfl rfl aB rfl (by trivial) ?_ (fun h=>by first | rfl | cases h)
   refine dst 15 ?_;refine aV ?_;refine sq (rl ?_)
   refine WL.sub (iH (j:=0) (k:=6) (p:=0) (n:=vs.length+1) (trs:=(vs++[(y,q)]).flatMap (cT false)) rfl rfl rfl (congrArg (fun l=>some (⟨102,5,l⟩:Ob)) (Ml vs (y,q))) rfl (aN _ _ (by rw[bM,cO];rfl)) (by rw[bM,cO];rfl) rfl) ?_
   refine o1 ?_;refine nl (rt ?_)
   have hpe:(eS (bV (Fr4.of q).s (Fr4.of q).x (Fr4.of q).t (Fr4.of q).y) q y last put)=0:=by unfold eS;rw[h1,decide_eq_false h2,h3];rfl
   have hpl:kT 0 q y vs=(vs++[(y,q)]):=by unfold kT;rw[decide_eq_true h6];rfl
   exact hJ (lent':=[⟨137,0,[.t (sR 102 (kT (eS (bV (Fr4.of q).s (Fr4.of q).x (Fr4.of q).t (Fr4.of q).y) q y last put) q y vs)),tv (.int .i64 (yS (eS (bV (Fr4.of q).s (Fr4.of q).x (Fr4.of q).t (Fr4.of q).y) q y last put) y last)),tv (.bool (yT (eS (bV (Fr4.of q).s (Fr4.of q).x (Fr4.of q).t (Fr4.of q).y) q y last put) put))]⟩,⟨113,1,(aI (Fr4.of q).x).map .t⟩,⟨113,1,(aI (Fr4.of q).y).map .t⟩]) (.inl rfl) rfl (bD (cU _)) (by decide) (fun _ h=>by cases h) ⟨⟨rfl,rfl⟩,⟨rfl,rfl⟩,⟨rfl,rfl⟩,trivial⟩ ⟨(by rw[hpe,hpl];rw[show sR 102 (vs++[(y,q)])=.s true 102 5 (vs.length+1) ((vs++[(y,q)]).flatMap (cT false)) by rw[sR,cO];rfl];rfl),rfl,rfl,trivial⟩ ⟨rfl,cK _,cK _,trivial⟩ (fun h=>by cases h) ⟨rfl,by rw[hpe]⟩
  refine sk (sq (rl ?_))
  refine WL.sub (iH (j:=0) (k:=3) (p:=0) (n:=vs.length) (trs:=vs.flatMap (cT false)) rfl rfl rfl rfl rfl (aN _ _ (bM false _)) (bM false _) rfl) ?_
  refine o1 ?_;refine nl (rt ?_)
  have hpe:(eS (bV (Fr4.of q).s (Fr4.of q).x (Fr4.of q).t (Fr4.of q).y) q y last put)=0:=by unfold eS;rw[h1,decide_eq_false h2,h3];rfl
  have hpl:kT 0 q y vs=vs:=by unfold kT;rw[decide_eq_false h6];rfl
  exact hJ (lent':=[⟨137,0,[.t (sR 102 (kT (eS (bV (Fr4.of q).s (Fr4.of q).x (Fr4.of q).t (Fr4.of q).y) q y last put) q y vs)),tv (.int .i64 (yS (eS (bV (Fr4.of q).s (Fr4.of q).x (Fr4.of q).t (Fr4.of q).y) q y last put) y last)),tv (.bool (yT (eS (bV (Fr4.of q).s (Fr4.of q).x (Fr4.of q).t (Fr4.of q).y) q y last put) put))]⟩,⟨113,1,(aI (Fr4.of q).x).map .t⟩,⟨113,1,(aI (Fr4.of q).y).map .t⟩]) (.inl rfl) rfl (bD (cU _)) (by decide) (fun _ h=>by cases h) ⟨⟨rfl,rfl⟩,⟨rfl,rfl⟩,⟨rfl,rfl⟩,trivial⟩ ⟨(by rw[hpe,hpl];rfl),rfl,rfl,trivial⟩ ⟨rfl,cK _,cK _,trivial⟩ (fun h=>by cases h) ⟨rfl,by rw[hpe]⟩
 refine o1 ?_;refine o1 ?_;(iterate 3 refine dL ?_);refine o1 ?_;refine o1 ?_;refine nl (jM rfl (sq (rl ?_)))
 refine WL.sub (iH (j:=0) (k:=3) (p:=0) (n:=vs.length) (trs:=vs.flatMap (cT false)) rfl rfl rfl rfl rfl (aN _ _ (bM false _)) (bM false _) rfl) ?_;refine o1 ?_
 refine nl (rt ?_);have hpe:(eS (bV a.s a.x a.t a.y) q y last put)=2:=by unfold eS;rw[h1];rfl
 exact hJ (lent':=[⟨137,0,[.t (sR 102 (kT (eS (bV a.s a.x a.t a.y) q y last put) q y vs)),tv (.int .i64 (yS (eS (bV a.s a.x a.t a.y) q y last put) y last)),tv (.bool (yT (eS (bV a.s a.x a.t a.y) q y last put) put))]⟩,⟨113,1,(aI a.x).map .t⟩,⟨113,1,(aI a.y).map .t⟩]) (.inl rfl) rfl (bD (cU _)) (by decide) (fun _ h=>by cases h) ⟨⟨rfl,rfl⟩,⟨rfl,rfl⟩,⟨rfl,rfl⟩,trivial⟩ ⟨(by rw[hpe];rfl),rfl,rfl,trivial⟩ ⟨rfl,cK _,cK _,trivial⟩ (fun h=>by cases h) ⟨rfl,by rw[hpe]⟩
theorem Am {xs:List Nat}(hx:xs.length≤1099511627776):aG true Tryz.prog 60 [] [.one (.t (sU false xs))] (aU (.one (.t (sU true xs)))):=by
 refine cC Tryz.func60 rfl Tryz.ntmps60 rfl aB rfl fun N w c0 h0=>?_
 refine sq (rl (o1 ?_));refine nl (sq (rl (o1 ?_)));refine nl (sq (rl (o1 ?_)));refine o1 ?_
 refine iN (j:=0) aB rfl rfl rfl rfl .nil .fz (PU _) (DV _) rfl (by omega) (by omega) ?_
 refine o1 ?_;refine nl (rt ?_)
 exact en (.inl rfl) rfl (bD (.one (.sl rfl rfl (by rw[Nat.zero_add,Nat.mul_one,List.nil_append,fF (by simp[gE])]) (by simp[gE])))) (by decide) (fun _=>.inl ⟨rfl,fT xs⟩) (by simp[aU,sU])
theorem IH {xs ys:List Nat}(hx:xs.length≤1099511627776) (hy:ys.length≤1099511627776):aG true Tryz.prog 43 [] [.one (.t (sU false xs)),.one (.t (sU false ys))] (aU (.one (tv (.bool (decide (xs=ys)))))):=by
 refine cC Tryz.func43 rfl Tryz.ntmps43 rfl aB rfl fun N w c0 h0=>?_
 refine sq (rl (o1 ?_));refine nl (sq (sq (rl ?_)));(iterate 5 refine o1 ?_);refine nl ?_;refine bL rfl (fun h1=>?_) (fun h1=>?_)
 ·refine sq (rl (o1 ?_));refine nl (rt ?_);refine en (.inl rfl) rfl (bD (cU _)) (by decide) (fun _=>trivial) (congrArg (fun b=>FV.one (tv (.bool b))) ?_)
  exact(decide_eq_false (fun h=>h1 (by rw[h]))).symm
 refine sk (sq (sq (rl (o1 ?_))));refine nl (bl ?_)
 refine lp (γ:=Nat) (fun k=>bS [(0,.one (.t (sU false xs))),(1,.one (.t (sU false ys))),(5,.one (tv (.int .i64 ((k:Nat):Int))))]) (fun k=>[].map some) (fun k=>k≤xs.length∧xs.take k=ys.take k) (fun k=>xs.length-k) 0 (⟨Nat.zero_le _,rfl⟩) (aW h0 [] rfl) fun k hk=>?_
 refine sq (sq (rl ?_));(iterate 4 refine o1 ?_);refine nl ?_;refine bL rfl (fun h2=>?_) (fun h2=>?_)
 ·refine sk (sq (bl (sq ?_)));refine rd [] (fun i=>[].contains i) mixed ?_
  refine dv 0 ?_;refine dv 1 ?_;refine dv 2 ?_;refine fM 3 ([.v (.int .u32 ((nth xs (k):Nat):Int))]) (nR xs (k:=k) (by omega)) ?_
  refine dv 4 ?_;refine dv 5 ?_;refine dv 6 ?_;refine fM 7 ([.v (.int .u32 ((nth ys (k):Nat):Int))]) (nR ys (k:=k) (by omega)) ?_
  refine dv 8 ?_;refine aV ?_;refine bL rfl (fun h3=>?_) (fun h3=>?_)
  ·refine sq (rl (o1 ?_));refine nl (rt ?_);refine en (.inl rfl) rfl (bD (cU _)) (by decide) (fun _=>trivial) (congrArg (fun b=>FV.one (tv (.bool b))) ?_)
   exact(decide_eq_false (fun h=>h3 (by rw[h]))).symm
  refine sk (rl ?_);(iterate 3 refine o1 ?_);refine nl ?_
  exact⟨k+1,by omega,⟨by omega,DW hk.2 (by omega) (by omega) (by omega)⟩,aW h0 [] rfl⟩
 refine ex (sq (rl (o1 ?_)));refine nl (rt ?_)
 refine en (.inl rfl) rfl (bD (cU _)) (by decide) (fun _=>trivial) (congrArg (fun b=>FV.one (tv (.bool b))) ?_)
 exact(decide_eq_true (by rw[←fF (i:=k) (l:=xs) (by omega),hk.2,fF (by omega)])).symm
theorem Mm {a:Fr4}(ha:a.len 1099511627776):aG true Tryz.prog 31 [] [qF a] (aU (rO a)):=by
 refine cC Tryz.func31 rfl Tryz.ntmps31 rfl aB rfl fun N w c0 h0=>?_
 refine sq (rl (bx 0 ?_));refine al 1 ?_;refine nl (sq ?_);refine rd [0,1] (fun i=>[17].contains i) mixed ?_
 refine dv 0 ?_;refine dv 1 ?_;refine aO 2 ?_;refine dv 3 ?_;refine dv 4 ?_;refine aO 5 ?_;refine dv 8 ?_;refine dv 9 ?_;refine aO 10 ?_;refine dv 11 ?_;refine dv 12 ?_;refine aO 13 ?_
 refine jX 2 6 rfl (Am ha.1) Ux ⟨a1 rfl,rfl⟩ ?_;refine df 7 ?_;refine jX 3 14 rfl (Am ha.2) Ux ⟨a1 rfl,rfl⟩ ?_;refine df 15 ?_;refine df 16 ?_;refine dst 17 ?_;refine aV ?_
 refine rt ?_
 exact en (.inl rfl) rfl (bD (.agg (.cons (.id rfl) (.cons (.sl (trs:=aI a.x) rfl rfl (bP _) (aP _)) (.cons (.id rfl) (.cons (.sl (trs:=aI a.y) rfl rfl (bP _) (aP _)) .nil)))))) (by decide) (fun _=>uS a) rfl
theorem KZ {a:Fr4}(ha:a.len 1099511627776):aG true Tryz.prog 59 [] [qF a] (aU (rO a)):=by
 refine cC Tryz.func59 rfl Tryz.ntmps59 rfl aB rfl fun N w c0 h0=>?_
 refine sq (rl (bx 0 ?_));refine al 1 ?_;refine nl (sq ?_);refine rd [0,1] (fun i=>[17].contains i) mixed ?_
 refine dv 0 ?_;refine dv 1 ?_;refine aO 2 ?_;refine dv 3 ?_;refine dv 4 ?_;refine aO 5 ?_;refine dv 8 ?_;refine dv 9 ?_;refine aO 10 ?_;refine dv 11 ?_;refine dv 12 ?_;refine aO 13 ?_
 refine jX 2 6 rfl (Am ha.1) Ux ⟨a1 rfl,rfl⟩ ?_;refine df 7 ?_;refine jX 3 14 rfl (Am ha.2) Ux ⟨a1 rfl,rfl⟩ ?_;refine df 15 ?_;refine df 16 ?_;refine dst 17 ?_;refine aV ?_
 refine rt ?_
 exact en (.inl rfl) rfl (bD (.agg (.cons (.id rfl) (.cons (.sl (trs:=aI a.x) rfl rfl (bP _) (aP _)) (.cons (.id rfl) (.cons (.sl (trs:=aI a.y) rfl rfl (bP _) (aP _)) .nil)))))) (by decide) (fun _=>uS a) rfl
theorem LA {a b:Fr4}(ha:a.len 1099511627776) (hb:b.len 1099511627776):aG true Tryz.prog 14 [] [qF a,qF b] (aU (.one (tv (.bool (decide (a=b)))))):=by
 refine cC Tryz.func14 rfl Tryz.ntmps14 rfl aB rfl fun N w c0 h0=>?_
 refine sq (rl (bx 0 ?_));refine bx 1 ?_;refine o1 ?_;refine nl (sq (rl (o1 ?_)));refine o1 ?_;refine ld ?_;refine o1 ?_;refine o1 ?_;refine ld ?_
 refine o1 ?_;refine o1 ?_;refine WL.splitb (t:=12) rfl (fun h1=>?_) (fun h1=>?_)
 ·refine o1 ?_;refine o1 ?_;refine ld ?_;refine o1 ?_;refine o1 ?_;refine ld ?_;(iterate 3 refine o1 ?_);refine WL.splitb (t:=21) rfl (fun h2=>?_) (fun h2=>?_)
  ·refine o1 ?_;refine o1 ?_;refine ld ?_;refine o1 ?_;refine o1 ?_;refine ld ?_;refine ca (IH ha.1 hb.1) PV ⟨a1 rfl,a1 rfl,rfl⟩ (.one (tv (.bool (decide (a.x=b.x))))) ?_
   refine o1 ?_;refine o1 ?_;refine WL.split (t:=30) rfl (fun h3=>?_) (fun h3=>?_)
   ·refine o1 ?_;refine o1 ?_;refine ld ?_;refine o1 ?_;refine o1 ?_;refine ld ?_;refine ca (IH ha.2 hb.2) PV ⟨a1 rfl,a1 rfl,rfl⟩ (.one (tv (.bool (decide (a.y=b.y))))) ?_
    refine o1 ?_;refine o1 ?_;refine nl (rt ?_);exact en (.inl rfl) rfl (bD (cU _)) (by decide) (fun _=>trivial) (congrArg (fun b=>FV.one (tv (.bool b))) (by simp_all [yU]))
   (iterate 7 refine dL ?_);refine o1 ?_;refine o1 ?_;refine nl (rt ?_)
   exact en (.inl rfl) rfl (bD (cU _)) (by decide) (fun _=>trivial) (congrArg (fun b=>FV.one (tv (.bool b))) (by simp_all [yU]))
  (iterate 7 refine dL ?_);refine o1 ?_;refine o1 ?_;(iterate 7 refine dL ?_);refine o1 ?_;refine o1 ?_;refine nl (rt ?_)
  exact en (.inl rfl) rfl (bD (cU _)) (by decide) (fun _=>trivial) (congrArg (fun b=>FV.one (tv (.bool b))) (by simp_all [yU]))
 (iterate 7 refine dL ?_);refine o1 ?_;refine o1 ?_;(iterate 7 refine dL ?_);refine o1 ?_;refine o1 ?_;(iterate 7 refine dL ?_);refine o1 ?_;refine o1 ?_;refine nl (rt ?_)
 exact en (.inl rfl) rfl (bD (cU _)) (by decide) (fun _=>trivial) (congrArg (fun b=>FV.one (tv (.bool b))) (by simp_all [yU]))
theorem LB {a b:Zi}{k k':Int}(ha:Zn a k) (hb:Zn b k'):aG true Tryz.prog 92 [] [gF a,gF b] (aU (.one (tv (.bool (decide (k=k')))))):=by
 refine cC Tryz.func92 rfl Tryz.ntmps92 rfl aB rfl fun N w c0 h0=>?_
 refine sq (rl (bx 0 ?_));refine bx 1 ?_;refine o1 ?_;refine nl (sq (rl (ld ?_)));refine ld ?_
 refine ca (Wz ha hb) HD ⟨aD rfl,aD rfl,rfl⟩ (.one (tv (.int .i64 ((k)-(k')).sign))) ?_;refine o1 ?_;refine o1 ?_;refine nl (rt ?_)
 exact en (.inl rfl) rfl (bD (cU _)) (by decide) (fun _=>trivial) (congrArg (fun z=>FV.one (tv (.bool z))) (DX _ _))
theorem Cp {a:Fr4}{p:Rat}(ha:Qn a p):aG true Tryz.prog 61 [] [qF a] (aU (.one (tv (.bool (bV a.s a.x a.t a.y))))):=by
 refine cC Tryz.func61 rfl Tryz.ntmps61 rfl aB rfl fun N w c0 h0=>?_
 have hzl:=(Mn ha).len
 have hzd:=(yV ha).len
 refine sq (rl (bx 0 ?_));refine o1 ?_;refine nl (sq (rl (o1 ?_)));refine ld ?_
 refine ca (Cd (Mn ha)) CF ⟨aD rfl,rfl⟩ (.one (tv (.bool (dU a.s a.x)))) ?_;refine o1 ?_;refine WL.splitb (t:=6) rfl (fun h1=>?_) (fun h1=>?_)
 ·refine o1 ?_;refine ld ?_;refine ca (Cd (yV ha)) CF ⟨aD rfl,rfl⟩ (.one (tv (.bool (dU a.t a.y)))) ?_;refine o1 ?_;refine o1 ?_
  refine WL.splitb (t:=11) rfl (fun h2=>?_) (fun h2=>?_)
  ·refine o1 ?_;refine ld ?_;refine ca (pA (yV ha)) Cf ⟨aD rfl,rfl⟩ (.one (tv (.int .i64 ((fA a.t a.y)).sign))) ?_;(iterate 3 refine o1 ?_)
   refine WL.split (t:=17) rfl (fun h3=>?_) (fun h3=>?_)
   ·refine o1 ?_;refine ld ?_;refine o1 ?_;refine ld ?_;have s3:0<fA a.t a.y:=Int.sign_pos_iff.1 h3
    have hn4:=Gf (k:=(fA a.s a.x)) (k':=(fA a.t a.y)) (by omega)
    refine ca (Li (Mn ha) (yV ha)) DZ ⟨aD rfl,aD rfl,rfl⟩ (kF (((Int.gcd (fA a.s a.x) (fA a.t a.y):Nat):Int))) ?_;have hn5:=uT (n:=(1:Int)) (by omega) (by omega)
    refine ca (zW (n:=(1:Int)) (by omega) (by omega)) Fu ⟨a1 rfl,rfl⟩ (kF ((1:Int))) ?_
    refine ca (LB (Zn.of (k:=((Int.gcd (fA a.s a.x) (fA a.t a.y):Nat):Int)) (by omega)) (Zn.of (k:=(1:Int)) (by omega))) XO ⟨aD rfl,aD rfl,rfl⟩ (.one (tv (.bool (decide ((((Int.gcd (fA a.s a.x) (fA a.t a.y):Nat):Int))=((1:Int))))))) ?_
    refine o1 ?_;refine o1 ?_;refine nl (rt ?_)
    exact en (.inl rfl) rfl (bD (cU _)) (by decide) (fun _=>trivial) (congrArg (fun z=>FV.one (tv (.bool z))) (by simp[bV,h1,h2,s3,Rr]))
   (iterate 7 refine dL ?_);refine o1 ?_;refine o1 ?_;refine nl (rt ?_);have s3:¬(0<fA a.t a.y):=fun h=>h3 (Int.sign_pos_iff.2 h)
   exact en (.inl rfl) rfl (bD (cU _)) (by decide) (fun _=>trivial) (congrArg (fun z=>FV.one (tv (.bool z))) (by simp[bV,h1,h2,s3,Rr]))
  (iterate 4 refine dL ?_);refine o1 ?_;refine o1 ?_;(iterate 7 refine dL ?_);refine o1 ?_;refine o1 ?_;refine nl (rt ?_)
  exact en (.inl rfl) rfl (bD (cU _)) (by decide) (fun _=>trivial) (congrArg (fun z=>FV.one (tv (.bool z))) (by simp[bV,h1,h2]))
 (iterate 3 refine dL ?_);refine o1 ?_;refine o1 ?_;(iterate 4 refine dL ?_);refine o1 ?_;refine o1 ?_;(iterate 7 refine dL ?_);refine o1 ?_;refine o1 ?_;refine nl (rt ?_)
 exact en (.inl rfl) rfl (bD (cU _)) (by decide) (fun _=>trivial) (congrArg (fun z=>FV.one (tv (.bool z))) (by simp[bV,h1]))
theorem An:aG false Tryz.prog 44 [] [] (aU (qF (.of 0))):=by
 refine cC Tryz.func44 rfl Tryz.ntmps44 rfl aB rfl fun N w c0 h0=>?_
 refine sq (rl (al 0 ?_));refine nl (sq (rl ?_));have hn1:=uT (n:=(0:Int)) (by omega) (by omega)
 refine ca (zW (n:=(0:Int)) (by omega) (by omega)) Fu ⟨a1 rfl,rfl⟩ (kF ((0:Int))) ?_
 have hn2:=uT (n:=(1:Int)) (by omega) (by omega)
 refine ca (zW (n:=(1:Int)) (by omega) (by omega)) Fu ⟨a1 rfl,rfl⟩ (kF ((1:Int))) ?_
 refine o1 ?_;refine st ?_;refine nl (rt ?_)
 exact en (.inl rfl) rfl (bD (.agg (.cons (.id rfl) (.cons (.id rfl) (.cons (.id rfl) (.cons (.id rfl) .nil)))))) (by decide) (fun h=>by cases h) (Gg (q:=0) rfl rfl)
theorem pI {a:Fr4}{p:Rat}(ha:Qn a p):aG false Tryz.prog 77 [] [qF a] (aU (qF (.of p))):=by
 refine cC Tryz.func77 rfl Tryz.ntmps77 rfl aB rfl fun N w c0 h0=>?_
 refine sq (rl (bx 0 ?_));refine al 1 ?_;refine nl (sq (sq (rl (ld ?_))))
 refine ca (Cp ha) EA ⟨aD rfl,rfl⟩ (.one (tv (.bool (bV a.s a.x a.t a.y)))) ?_;refine WL.splitb (t:=4) rfl (fun h1=>?_) (fun h1=>?_)
 ·refine o1 ?_;refine nl (gD rfl (sk (sq (rl (ld ?_)))));refine st ?_;refine nl (rt ?_)
  exact en (.inl rfl) rfl (bD (.agg (.cons (.id rfl) (.cons (.id rfl) (.cons (.id rfl) (.cons (.id rfl) .nil)))))) (by decide) (fun h=>by cases h) (by rw[ha.right h1];rfl)
 refine o1 ?_;refine nl (jM rfl (sq (rl (ca (An) Uy rfl (qF (.of 0)) ?_))));refine st ?_;refine nl (rt ?_)
 exact en (.inl rfl) rfl (bD (.agg (.cons (.id rfl) (.cons (.id rfl) (.cons (.id rfl) (.cons (.id rfl) .nil)))))) (by decide) (fun h=>by cases h) (by rw[ha.wrong h1];rfl)
theorem tK {a b:Zi}{k k':Int}(ha:Zn a k) (hb:Zn b k') (h0:k'≠0):aG false Tryz.prog 109 [] [gF a,gF b] (aU (.tup [kF (k.fdiv k'),kF (k.fmod k'),.one (tv (.int .i64 0))])):=by
 have h:=Xh ha hb
 rwa[if_neg h0,if_neg h0,if_neg h0]at h
theorem rY {a b:Zi}{k k':Int}(ha:Zn a k) (hb:Zn b k'):aG false Tryz.prog 78 [] [gF a,gF b] (aU (.tup [qF (.of (Rat.divInt k k')),.one (tv (.int .i64 (if k'=0 then 20 else 0)))])):=by
 refine cC Tryz.func78 rfl Tryz.ntmps78 rfl aB rfl fun N w c0 h0=>?_
 have hkl:=ha.len
 have hkl':=hb.len
 refine sq (rl (bx 0 ?_));refine bx 1 ?_;refine al 2 ?_;refine o1 ?_;refine nl (sq (sq (rl (ld ?_))))
 refine ca (pA hb) Cf ⟨aD rfl,rfl⟩ (.one (tv (.int .i64 (k').sign))) ?_;refine o1 ?_;refine nl ?_;refine bL rfl (fun h1=>?_) (fun h1=>?_)
 ·refine sq (rl (ca (An) Uy rfl (qF (.of 0)) ?_));refine st ?_;refine o1 ?_;refine nl (rt ?_);have hk0:k'=0:=Int.sign_eq_zero_iff_zero.1 h1
  have hd0:Rat.divInt k k'=0:=by rw[hk0];simp
  exact en (.inl rfl) rfl (rW (.cons (.agg (.cons (.id rfl) (.cons (.id rfl) (.cons (.id rfl) (.cons (.id rfl) .nil))))) (.cons (cU _) .nil))) (by decide) (fun h=>by cases h) (by rw[if_pos hk0,hd0];rfl)
 refine sk (sq (sq ?_));have hk0:k'≠0:=fun h9=>h1 (by rw[h9];rfl)
 refine rl (ld ?_);refine ca (pA hb) Cf ⟨aD rfl,rfl⟩ (.one (tv (.int .i64 (k').sign))) ?_;refine o1 ?_;refine nl ?_;refine bL rfl (fun h2=>?_) (fun h2=>?_)
 ·refine sq (rl (ld ?_));have hn3:=lC (k)
  refine ca (Dp ha) Uj ⟨aD rfl,rfl⟩ (kF (-k)) ?_;refine st ?_;refine nl (rl (ld ?_));have hn4:=lC (k')
  refine ca (Dp hb) Uj ⟨aD rfl,rfl⟩ (kF (-k')) ?_;refine st ?_;refine nl (sq ?_);have hkn:k'<0:=Int.sign_neg_iff.1 h2
  refine rl (ld ?_);refine ld ?_;have hn5:=Gf (k:=-k) (k':=-k') (by omega)
  refine ca (Li (Zn.of (k:=-k) (by omega)) (Zn.of (k:=-k') (by omega))) DZ ⟨aD rfl,aD rfl,rfl⟩ (kF (((Int.gcd (-k) (-k'):Nat):Int))) ?_
  refine al 3 ?_;refine st ?_;refine nl (sq (rl (ld ?_)));refine ld ?_
  refine ca (tK (Zn.of (k:=-k) (by omega)) (Zn.of (k:=((Int.gcd (-k) (-k'):Nat):Int)) (by omega)) (Ef (by omega))) Kc ⟨aD rfl,aD rfl,rfl⟩ (.tup [kF ((-k).fdiv ((Int.gcd (-k) (-k'):Nat):Int)),kF ((-k).fmod ((Int.gcd (-k) (-k'):Nat):Int)),.one (tv (.int .i64 0))]) ?_
  (iterate 4 refine o1 ?_);refine al 4 ?_;refine al 5 ?_;refine st ?_;refine st ?_;refine o1 ?_;refine nl (sq (rl (ld ?_)));refine ld ?_
  refine ca (tK (Zn.of (k:=-k') (by omega)) (Zn.of (k:=((Int.gcd (-k) (-k'):Nat):Int)) (by omega)) (Ef (by omega))) Kc ⟨aD rfl,aD rfl,rfl⟩ (.tup [kF ((-k').fdiv ((Int.gcd (-k) (-k'):Nat):Int)),kF ((-k').fmod ((Int.gcd (-k) (-k'):Nat):Int)),.one (tv (.int .i64 0))]) ?_
  (iterate 4 refine o1 ?_);refine al 6 ?_;refine al 7 ?_;refine st ?_;refine st ?_;refine o1 ?_;refine nl (sq (rl (ld ?_)));refine ld ?_;refine o1 ?_
  refine st ?_;refine o1 ?_;refine nl (rt ?_);obtain⟨hp9,hn9⟩:=Mo (a:=k) hk0
  obtain⟨e1,e2⟩:=hn9 hkn
  exact en (.inl rfl) rfl (rW (.cons (.agg (.cons (.id rfl) (.cons (.id rfl) (.cons (.id rfl) (.cons (.id rfl) .nil))))) (.cons (cU _) .nil))) (by decide) (fun h=>by cases h) (by rw[if_neg hk0];exact congrArg (fun f=>FV.tup [f,.one (tv (.int .i64 0))]) (Gg e1 e2))
 refine sk (sq ?_);have hkp:0<k':=by have h9:=mt Int.sign_neg_iff.2 h2;omega
 refine rl (ld ?_);refine ld ?_;have hn6:=Gf (k:=k) (k':=k') (by omega)
 refine ca (Li ha hb) DZ ⟨aD rfl,aD rfl,rfl⟩ (kF (((Int.gcd k k':Nat):Int))) ?_;refine al 3 ?_;refine st ?_;refine nl (sq (rl (ld ?_)));refine ld ?_
 refine ca (tK ha (Zn.of (k:=((Int.gcd k k':Nat):Int)) (by omega)) (Ef (by omega))) Kc ⟨aD rfl,aD rfl,rfl⟩ (.tup [kF ((k).fdiv ((Int.gcd k k':Nat):Int)),kF ((k).fmod ((Int.gcd k k':Nat):Int)),.one (tv (.int .i64 0))]) ?_
 (iterate 4 refine o1 ?_);refine al 4 ?_;refine al 5 ?_;refine st ?_;refine st ?_;refine o1 ?_;refine nl (sq (rl (ld ?_)));refine ld ?_
 refine ca (tK hb (Zn.of (k:=((Int.gcd k k':Nat):Int)) (by omega)) (Ef (by omega))) Kc ⟨aD rfl,aD rfl,rfl⟩ (.tup [kF ((k').fdiv ((Int.gcd k k':Nat):Int)),kF ((k').fmod ((Int.gcd k k':Nat):Int)),.one (tv (.int .i64 0))]) ?_
 (iterate 4 refine o1 ?_);refine al 6 ?_;refine al 7 ?_;refine st ?_;refine st ?_;refine o1 ?_;refine nl (sq (rl (ld ?_)));refine ld ?_;refine o1 ?_
 refine st ?_;refine o1 ?_;refine nl (rt ?_);obtain⟨hp9,hn9⟩:=Mo (a:=k) hk0
 obtain⟨e1,e2⟩:=hp9 hkp
 exact en (.inl rfl) rfl (rW (.cons (.agg (.cons (.id rfl) (.cons (.id rfl) (.cons (.id rfl) (.cons (.id rfl) .nil))))) (.cons (cU _) .nil))) (by decide) (fun h=>by cases h) (by rw[if_neg hk0];exact congrArg (fun f=>FV.tup [f,.one (tv (.int .i64 0))]) (Gg e1 e2))
theorem VB {n d:Int}(h1:-9223372036854775808≤n) (h2:n≤9223372036854775807) (h3:-9223372036854775808≤d) (h4:d≤9223372036854775807):aG false Tryz.prog 58 [] [.one (tv (.int .i64 n)),.one (tv (.int .i64 d))] (aU (.tup [qF (.of (Rat.divInt n d)),.one (tv (.int .i64 (if d=0 then 20 else 0)))])):=by
 refine cC Tryz.func58 rfl Tryz.ntmps58 rfl aB rfl fun N w c0 h0=>?_
 refine sq (rl (al 0 ?_));refine o1 ?_;refine nl (sq (rl (o1 ?_)));have hn1:=uT (n:=n) (by omega) (by omega)
 refine ca (zW (n:=n) (by omega) (by omega)) Fu ⟨a1 rfl,rfl⟩ (kF (n)) ?_
 refine o1 ?_;have hn2:=uT (n:=d) (by omega) (by omega)
 refine ca (zW (n:=d) (by omega) (by omega)) Fu ⟨a1 rfl,rfl⟩ (kF (d)) ?_
 refine ca (rY (Zn.of (k:=n) (by omega)) (Zn.of (k:=d) (by omega))) Cq ⟨aD rfl,aD rfl,rfl⟩ (.tup [qF (.of (Rat.divInt (n) (d))),.one (tv (.int .i64 (if(d)=0 then 20 else 0)))]) ?_
 refine o1 ?_;refine o1 ?_;refine st ?_;refine o1 ?_;refine nl (rt ?_)
 exact en (.inl rfl) rfl (rW (.cons (.agg (.cons (.id rfl) (.cons (.id rfl) (.cons (.id rfl) (.cons (.id rfl) .nil))))) (.cons (cU _) .nil))) (by decide) (fun h=>by cases h) rfl
theorem Yl {a:Fr4}{p:Rat}(ha:Qn a p):aG false Tryz.prog 65 [] [qF a] (aU (qF (.of (-p)))):=by
 refine cC Tryz.func65 rfl Tryz.ntmps65 rfl aB rfl fun N w c0 h0=>?_
 refine sq (rl (bx 0 ?_));refine al 1 ?_;refine nl (sq (rl (ld ?_)));refine ca (pI ha) Gh ⟨aD rfl,rfl⟩ (qF (.of p)) ?_;refine st ?_
 refine nl (sq ?_);refine rd [0,1] (fun i=>[6].contains i) mixed ?_
 refine dv 0 ?_;refine aO 1 ?_;refine dv 3 ?_;refine aO 4 ?_;refine aX 2 rfl (Dp (oC ha.sz)) Uj ⟨aD rfl,rfl⟩ (kF (-p.num)) ?_;refine df 5 ?_;refine dst 6 ?_;refine aV ?_
 refine rt ?_
 exact en (.inl rfl) rfl (bD (.agg (.cons (.id rfl) (.cons (.id rfl) (.cons (.id rfl) (.cons (.id rfl) .nil)))))) (by decide) (fun h=>by cases h) (by unfold qF Fr4.of;rw[Rat.neg_num,Rat.neg_den];rfl)
theorem uU {a b:Fr4}{p q:Rat}(ha:Qn a p) (hb:Qn b q) (hs:Sz 17179869184 p) (hs':Sz 17179869184 q):aG false Tryz.prog 45 [] [qF a,qF b] (aU (qF (.of (p+q)))):=by
 refine cC Tryz.func45 rfl Tryz.ntmps45 rfl aB rfl fun N w c0 h0=>?_
 have hs1:=hs.1
 have hs2:(dg 4294967296 ((p.den:Int)).natAbs).length≤17179869184:=hs.2
 have hs3:=hs'.1
 have hs4:(dg 4294967296 ((q.den:Int)).natAbs).length≤17179869184:=hs'.2
 refine sq (rl (bx 0 ?_));refine bx 1 ?_;refine al 2 ?_;refine nl (sq (rl (ld ?_)));refine ca (pI ha) Gh ⟨aD rfl,rfl⟩ (qF (.of p)) ?_
 refine st ?_;refine nl (sq (rl (ld ?_)));refine ca (pI hb) Gh ⟨aD rfl,rfl⟩ (qF (.of q)) ?_;refine st ?_;refine nl ?_
 refine md (γ:=Unit) (fun _=>bS [(4,.one (.pt 0 0)),(5,.one (.pt 1 0))]) (fun _=>([⟨52,0,[tv (.bool false),tv (.slice none 0 0),tv (.bool false),tv (.slice none 0 0)]⟩,⟨52,0,((Fr4.of (Rat.divInt (p.num*(q.den:Int)+q.num*(p.den:Int)) ((p.den:Int)*(q.den:Int)))).tr false).map .t⟩]:List Ob).map some) (fun _=>True) ?_ fun _ _=>?_
 ·refine rd [0,1,2] (fun i=>[22].contains i) mixed ?_
  refine dv 0 ?_;refine aO 1 ?_;refine dv 2 ?_;refine aO 3 ?_;refine dv 5 ?_;refine aO 6 ?_;refine dv 7 ?_;refine aO 8 ?_;refine dv 11 ?_;refine aO 12 ?_;refine dv 13 ?_
  refine aO 14 ?_;refine WO.two (i:=4) (j:=20) (by kernel_rfl) ?_ ?_
  ·have hn1:=gH (p.num) ((q.den:Int))
   refine fG 4 rfl (mF (oC hs) (iD hs')) tY ⟨aD rfl,aD rfl,rfl⟩ (kF (p.num*(q.den:Int))) ?_;refine WO.two (i:=9) (j:=20) (by kernel_rfl) ?_ ?_
   ·have hn2:=gH (q.num) ((p.den:Int))
    refine fG 9 rfl (mF (oC hs') (iD hs)) tY ⟨aD rfl,aD rfl,rfl⟩ (kF (q.num*(p.den:Int))) ?_;refine WO.two (i:=10) (j:=20) (by kernel_rfl) ?_ ?_
    ·have hn3:=lI (p.num*(q.den:Int)) (q.num*(p.den:Int))
     refine fG 10 rfl (uH (Zn.of (k:=p.num*(q.den:Int)) (by omega)) (Zn.of (k:=q.num*(p.den:Int)) (by omega))) Ft ⟨aD rfl,aD rfl,rfl⟩ (kF (p.num*(q.den:Int)+q.num*(p.den:Int))) ?_
     refine WO.two (i:=15) (j:=20) (by kernel_rfl) ?_ ?_
     ·have hn4:=gH ((p.den:Int)) ((q.den:Int))
      refine fG 15 rfl (mF (iD hs) (iD hs')) tY ⟨aD rfl,aD rfl,rfl⟩ (kF ((p.den:Int)*(q.den:Int))) ?_;refine WO.two (i:=16) (j:=20) (by kernel_rfl) ?_ ?_
      ·refine fG 16 rfl (rY (Zn.of (k:=p.num*(q.den:Int)+q.num*(p.den:Int)) (by omega)) (Zn.of (k:=(p.den:Int)*(q.den:Int)) (by omega))) Cq ⟨aD rfl,aD rfl,rfl⟩ (.tup [qF (.of (Rat.divInt (p.num*(q.den:Int)+q.num*(p.den:Int)) ((p.den:Int)*(q.den:Int)))),.one (tv (.int .i64 (if((p.den:Int)*(q.den:Int))=0 then 20 else 0)))]) ?_
       refine df 17 ?_;refine df 18 ?_;refine df 19 ?_;refine fU (key:=3) 20 (by kernel_rfl) rfl rfl aB rfl ⟨rfl,rfl,rfl,trivial⟩ ?_
       refine cA 21 (by kernel_rfl) rfl rfl aB rfl rfl rfl rfl ⟨rfl,rfl,rfl,trivial⟩ ?_
       refine eQ 22 (by kernel_rfl) rfl rfl aB rfl (by trivial) ?_ (fun h=>by first | rfl | cases h)
       refine aV ?_;exact⟨(),trivial,aW h0 [2,3] ⟨oe rfl rfl,oe rfl rfl,rfl⟩⟩
      refine cG (key:=3) 20 rfl rfl aB rfl ⟨rfl,rfl,rfl,trivial⟩ ?_
      refine aX 16 rfl (rY (Zn.of (k:=p.num*(q.den:Int)+q.num*(p.den:Int)) (by omega)) (Zn.of (k:=(p.den:Int)*(q.den:Int)) (by omega))) Cq ⟨aD rfl,aD rfl,rfl⟩ (.tup [qF (.of (Rat.divInt (p.num*(q.den:Int)+q.num*(p.den:Int)) ((p.den:Int)*(q.den:Int)))),.one (tv (.int .i64 (if((p.den:Int)*(q.den:Int))=0 then 20 else 0)))]) ?_
      refine df 17 ?_;refine df 18 ?_;refine df 19 ?_;refine cA 21 (by kernel_rfl) rfl rfl aB rfl rfl rfl rfl ⟨rfl,rfl,rfl,trivial⟩ ?_
      refine eQ 22 (by kernel_rfl) rfl rfl aB rfl (by trivial) ?_ (fun h=>by first | rfl | cases h)
      refine aV ?_;exact⟨(),trivial,aW h0 [2,3] ⟨oe rfl rfl,oe rfl rfl,rfl⟩⟩
     refine cG (key:=3) 20 rfl rfl aB rfl ⟨rfl,rfl,rfl,trivial⟩ ?_;have hn5:=gH ((p.den:Int)) ((q.den:Int))
     refine aX 15 rfl (mF (iD hs) (iD hs')) tY ⟨aD rfl,aD rfl,rfl⟩ (kF ((p.den:Int)*(q.den:Int))) ?_
     refine aX 16 rfl (rY (Zn.of (k:=p.num*(q.den:Int)+q.num*(p.den:Int)) (by omega)) (Zn.of (k:=(p.den:Int)*(q.den:Int)) (by omega))) Cq ⟨aD rfl,aD rfl,rfl⟩ (.tup [qF (.of (Rat.divInt (p.num*(q.den:Int)+q.num*(p.den:Int)) ((p.den:Int)*(q.den:Int)))),.one (tv (.int .i64 (if((p.den:Int)*(q.den:Int))=0 then 20 else 0)))]) ?_
     refine df 17 ?_;refine df 18 ?_;refine df 19 ?_;refine cA 21 (by kernel_rfl) rfl rfl aB rfl rfl rfl rfl ⟨rfl,rfl,rfl,trivial⟩ ?_
     refine eQ 22 (by kernel_rfl) rfl rfl aB rfl (by trivial) ?_ (fun h=>by first | rfl | cases h)
     refine aV ?_;exact⟨(),trivial,aW h0 [2,3] ⟨oe rfl rfl,oe rfl rfl,rfl⟩⟩
    refine cG (key:=3) 20 rfl rfl aB rfl ⟨rfl,rfl,rfl,trivial⟩ ?_;have hn6:=lI (p.num*(q.den:Int)) (q.num*(p.den:Int))
    refine aX 10 rfl (uH (Zn.of (k:=p.num*(q.den:Int)) (by omega)) (Zn.of (k:=q.num*(p.den:Int)) (by omega))) Ft ⟨aD rfl,aD rfl,rfl⟩ (kF (p.num*(q.den:Int)+q.num*(p.den:Int))) ?_
    have hn7:=gH ((p.den:Int)) ((q.den:Int))
    refine aX 15 rfl (mF (iD hs) (iD hs')) tY ⟨aD rfl,aD rfl,rfl⟩ (kF ((p.den:Int)*(q.den:Int))) ?_
    refine aX 16 rfl (rY (Zn.of (k:=p.num*(q.den:Int)+q.num*(p.den:Int)) (by omega)) (Zn.of (k:=(p.den:Int)*(q.den:Int)) (by omega))) Cq ⟨aD rfl,aD rfl,rfl⟩ (.tup [qF (.of (Rat.divInt (p.num*(q.den:Int)+q.num*(p.den:Int)) ((p.den:Int)*(q.den:Int)))),.one (tv (.int .i64 (if((p.den:Int)*(q.den:Int))=0 then 20 else 0)))]) ?_
    refine df 17 ?_;refine df 18 ?_;refine df 19 ?_;refine cA 21 (by kernel_rfl) rfl rfl aB rfl rfl rfl rfl ⟨rfl,rfl,rfl,trivial⟩ ?_
    refine eQ 22 (by kernel_rfl) rfl rfl aB rfl (by trivial) ?_ (fun h=>by first | rfl | cases h)
    refine aV ?_;exact⟨(),trivial,aW h0 [2,3] ⟨oe rfl rfl,oe rfl rfl,rfl⟩⟩
   refine cG (key:=3) 20 rfl rfl aB rfl ⟨rfl,rfl,rfl,trivial⟩ ?_;have hn8:=gH (q.num) ((p.den:Int))
   refine aX 9 rfl (mF (oC hs') (iD hs)) tY ⟨aD rfl,aD rfl,rfl⟩ (kF (q.num*(p.den:Int))) ?_;have hn9:=lI (p.num*(q.den:Int)) (q.num*(p.den:Int))
   refine aX 10 rfl (uH (Zn.of (k:=p.num*(q.den:Int)) (by omega)) (Zn.of (k:=q.num*(p.den:Int)) (by omega))) Ft ⟨aD rfl,aD rfl,rfl⟩ (kF (p.num*(q.den:Int)+q.num*(p.den:Int))) ?_
   have hn10:=gH ((p.den:Int)) ((q.den:Int))
   refine aX 15 rfl (mF (iD hs) (iD hs')) tY ⟨aD rfl,aD rfl,rfl⟩ (kF ((p.den:Int)*(q.den:Int))) ?_
   refine aX 16 rfl (rY (Zn.of (k:=p.num*(q.den:Int)+q.num*(p.den:Int)) (by omega)) (Zn.of (k:=(p.den:Int)*(q.den:Int)) (by omega))) Cq ⟨aD rfl,aD rfl,rfl⟩ (.tup [qF (.of (Rat.divInt (p.num*(q.den:Int)+q.num*(p.den:Int)) ((p.den:Int)*(q.den:Int)))),.one (tv (.int .i64 (if((p.den:Int)*(q.den:Int))=0 then 20 else 0)))]) ?_
   refine df 17 ?_;refine df 18 ?_;refine df 19 ?_;refine cA 21 (by kernel_rfl) rfl rfl aB rfl rfl rfl rfl ⟨rfl,rfl,rfl,trivial⟩ ?_
   refine eQ 22 (by kernel_rfl) rfl rfl aB rfl (by trivial) ?_ (fun h=>by first | rfl | cases h)
   refine aV ?_;exact⟨(),trivial,aW h0 [2,3] ⟨oe rfl rfl,oe rfl rfl,rfl⟩⟩
  refine cG (key:=3) 20 rfl rfl aB rfl ⟨rfl,rfl,rfl,trivial⟩ ?_;have hn11:=gH (p.num) ((q.den:Int))
  refine aX 4 rfl (mF (oC hs) (iD hs')) tY ⟨aD rfl,aD rfl,rfl⟩ (kF (p.num*(q.den:Int))) ?_;have hn12:=gH (q.num) ((p.den:Int))
  refine aX 9 rfl (mF (oC hs') (iD hs)) tY ⟨aD rfl,aD rfl,rfl⟩ (kF (q.num*(p.den:Int))) ?_;have hn13:=lI (p.num*(q.den:Int)) (q.num*(p.den:Int))
  refine aX 10 rfl (uH (Zn.of (k:=p.num*(q.den:Int)) (by omega)) (Zn.of (k:=q.num*(p.den:Int)) (by omega))) Ft ⟨aD rfl,aD rfl,rfl⟩ (kF (p.num*(q.den:Int)+q.num*(p.den:Int))) ?_
  have hn14:=gH ((p.den:Int)) ((q.den:Int))
  refine aX 15 rfl (mF (iD hs) (iD hs')) tY ⟨aD rfl,aD rfl,rfl⟩ (kF ((p.den:Int)*(q.den:Int))) ?_
  refine aX 16 rfl (rY (Zn.of (k:=p.num*(q.den:Int)+q.num*(p.den:Int)) (by omega)) (Zn.of (k:=(p.den:Int)*(q.den:Int)) (by omega))) Cq ⟨aD rfl,aD rfl,rfl⟩ (.tup [qF (.of (Rat.divInt (p.num*(q.den:Int)+q.num*(p.den:Int)) ((p.den:Int)*(q.den:Int)))),.one (tv (.int .i64 (if((p.den:Int)*(q.den:Int))=0 then 20 else 0)))]) ?_
  refine df 17 ?_;refine df 18 ?_;refine df 19 ?_;refine cA 21 (by kernel_rfl) rfl rfl aB rfl rfl rfl rfl ⟨rfl,rfl,rfl,trivial⟩ ?_
  refine eQ 22 (by kernel_rfl) rfl rfl aB rfl (by trivial) ?_ (fun h=>by first | rfl | cases h)
  refine aV ?_;exact⟨(),trivial,aW h0 [2,3] ⟨oe rfl rfl,oe rfl rfl,rfl⟩⟩
 refine sq (rl (ld ?_));refine st ?_;refine nl (rt ?_)
 exact en (.inl rfl) rfl (bD (.agg (.cons (.id rfl) (.cons (.id rfl) (.cons (.id rfl) (.cons (.id rfl) .nil)))))) (by decide) (fun h=>by cases h) (by rw[←tL];rfl)
theorem oG {a b:Fr4}{p q:Rat}(ha:Qn a p) (hb:Qn b q) (hs:Sz 17179869184 p) (hs':Sz 17179869184 q):aG false Tryz.prog 64 [] [qF a,qF b] (aU (qF (.of (p-q)))):=by
 refine cC Tryz.func64 rfl Tryz.ntmps64 rfl aB rfl fun N w c0 h0=>?_
 refine sq (rl (bx 0 ?_));refine bx 1 ?_;refine al 2 ?_;refine nl (sq ?_);refine rd [0,1,2] (fun i=>[4].contains i) mixed ?_
 refine aO 0 ?_;refine aO 1 ?_;refine aX 2 rfl (Yl hb) PW ⟨aD rfl,rfl⟩ (qF (.of (-q))) ?_
 refine aX 3 rfl (uU ha (Qn.of (p:=(-q)) (uV hs')) hs (uV hs')) Gi ⟨aD rfl,aD rfl,rfl⟩ (qF (.of (p+(-q)))) ?_;refine dst 4 ?_;refine aV ?_;refine rt ?_
 exact en (.inl rfl) rfl (bD (.agg (.cons (.id rfl) (.cons (.id rfl) (.cons (.id rfl) (.cons (.id rfl) .nil)))))) (by decide) (fun h=>by cases h) (by rw[Rat.sub_eq_add_neg];rfl)
theorem Ao {a:Fr4}{p:Rat}(ha:Qn a p):aG true Tryz.prog 62 [] [qF a] (aU (.one (tv (.int .i64 p.num.sign)))):=by
 refine cC Tryz.func62 rfl Tryz.ntmps62 rfl aB rfl fun N w c0 h0=>?_
 refine sq (rl (bx 0 ?_));refine o1 ?_;refine nl (sq (rl (ld ?_)));refine ca (pI ha) Gh ⟨aD rfl,rfl⟩ (qF (.of p)) ?_;refine o1 ?_
 refine ca (pA (oC ha.sz)) Cf ⟨aD rfl,rfl⟩ (.one (tv (.int .i64 (p.num).sign))) ?_;refine o1 ?_;refine nl (rt ?_)
 exact en (.inl rfl) rfl (bD (cU _)) (by decide) (fun _=>trivial) rfl
theorem PX {a b:Fr4}{p q:Rat}(ha:Qn a p) (hb:Qn b q) (hs:Sz 17179869184 p) (hs':Sz 17179869184 q):aG true Tryz.prog 94 [] [qF a,qF b] (aU (.one (tv (.int .i64 (p-q).num.sign)))):=by
 refine cC Tryz.func94 rfl Tryz.ntmps94 rfl aB rfl fun N w c0 h0=>?_
 refine sq (rl (bx 0 ?_));refine bx 1 ?_;refine o1 ?_;refine nl (sq (rl (ld ?_)));refine ld ?_
 refine ca (oG ha hb hs hs') wJ ⟨aD rfl,aD rfl,rfl⟩ (qF (.of (p-q))) ?_
 refine ca (Ao (Qn.of (p:=(p-q)) (jZ hs hs'))) Uz ⟨aD rfl,rfl⟩ (.one (tv (.int .i64 (p-q).num.sign))) ?_;refine o1 ?_;refine nl (rt ?_)
 exact en (.inl rfl) rfl (bD (cU _)) (by decide) (fun _=>trivial) rfl
theorem Ym {ms:List Bool}{Bs bs:List Rat}{L Us:Rat}{e:Nat}{at9:Int}{ta tb tc td:Tr}(he:e<Bs.length) (heb:e<bs.length) (hB3:Sz 1000 (fD Bs e)) (hY3:Sz 1000 (fD bs (e))) (hL3:Sz 1000 L) (hU3:Sz 1000 Us) (hlb:bs.length≤1073741823) (hlB:Bs.length≤1073741823):aG false Tryz.prog 130 [⟨165,0,[.t (gU ms),.t (sQ false (Bs.map Fr4.of))]++((Fr4.of L).tr false).map .t++((Fr4.of Us).tr false).map .t++[.sl 1 0 bs.length,.fn 99 [] [.pt 2 0,.pt 3 0]]⟩,⟨48,4,(bs.flatMap qt).map .t⟩,⟨92,0,[.pt 4 0]⟩,⟨3,0,[tv (.int .i64 at9)]⟩,⟨95,0,[.t ta,.t tb,.t tc,.t td]⟩] [.one (.pt 0 0),.one (tv (.int .i64 ((e:Nat):Int)))] (Rt [⟨165,0,[.t (gU ms),.t (sQ false (Bs.map Fr4.of))]++((Fr4.of L).tr false).map .t++((Fr4.of Us).tr false).map .t++[.sl 1 0 bs.length,.fn 99 [] [.pt 2 0,.pt 3 0]]⟩,⟨48,4,(bs.flatMap qt).map .t⟩,⟨92,0,[.pt 4 0]⟩,⟨3,0,[tv (.int .i64 at9)]⟩,⟨95,0,[.t ta,.t tb,.t tc,.t td]⟩] (qF (.of (aJ ((fD Bs e)-(fD bs (e))) [(L-Us)])))):=by
 refine nG Tryz.func130 rfl Tryz.ntmps130 rfl aB rfl fun N9 M9 w9 c0 h0=>?_
 have hBl:(Bs.map Fr4.of).length=Bs.length:=dF _
 have hs1:Sz 68719476736 ((fD Bs e)-(fD bs (e))):=(jZ hB3 hY3).mono (by omega)
 have hs2:Sz 68719476736 (L-Us):=(jZ hL3 hU3).mono (by omega)
 have hB:Sz 68719476736 (fD Bs e):=hB3.mono (by omega)
 have hY:Sz 68719476736 (fD bs (e)):=hY3.mono (by omega)
 have hL:Sz 68719476736 L:=hL3.mono (by omega)
 have hU:Sz 68719476736 Us:=hU3.mono (by omega)
 refine sq (rl (al 5 ?_));refine nl (sq ?_);refine rd [0,1,2,3,4,5] (fun i=>[30].contains i) mixed ?_
 refine dv 0 ?_;refine dv 1 ?_;refine dv 2 ?_;refine dv 3 ?_;refine aO 4 ?_;refine dv 5 ?_;refine dv 6 ?_
 refine fM 7 ((Fr4.of (fD Bs e)).tr false) ((by rw[←pB he];exact iE (Bs.map Fr4.of) (k:=e) (by rw[dF];exact he))) ?_
 refine dv 8 ?_;refine dv 9 ?_;refine dv 10 ?_;refine dv 11 ?_;refine aO 12 ?_;refine dv 13 ?_;refine dv 14 ?_
 refine lH 15 (cJ (f:=qt) (z:=4) (o:=0) (us:=qt (fD bs (e))) mG (tF (by omega)) (bN rfl) rfl) ?_
 refine dv 17 ?_;refine dv 18 ?_;refine dv 19 ?_;refine dv 20 ?_;refine aO 21 ?_;refine dv 22 ?_;refine dv 23 ?_;refine dv 24 ?_;refine dv 25 ?_;refine aO 26 ?_
 refine aX 16 rfl (Ak (Qn.of (p:=(fD Bs e)) hB) (Qn.of (p:=(fD bs (e))) hY)) Ge ⟨aD rfl,aD rfl,rfl⟩ (qF (.of ((fD Bs e)-(fD bs (e))))) ?_
 refine aX 27 rfl (Ak (Qn.of (p:=L) hL) (Qn.of (p:=Us) hU)) Ge ⟨aD rfl,aD rfl,rfl⟩ (qF (.of (L-Us))) ?_
 refine iU (key:=6) 28 (by kernel_rfl) rfl rfl aB rfl ⟨rfl,rfl,rfl,rfl,rfl,rfl,trivial⟩ ?_
 refine uR (i:=33) (k:=6) (t:=48) (t':=52) (z:=4) (n:=1) (l:=([Fr4.of (L-Us)]).flatMap (Fr4.tr false)) rfl rfl rfl rfl (.one .sl) (by rfl) (by rfl) ?_
 refine aX 29 rfl (Ee (a:=.of (L-Us)) (Qn.of (hs2)) hs1) oF ⟨aD rfl,a1 rfl,rfl⟩ (qF (.of (aJ ((fD Bs e)-(fD bs (e))) [(L-Us)]))) ?_;refine dst 30 ?_;refine aV ?_
 refine rt ?_
 exact hJ (lent':=[⟨165,0,[.t (gU ms),.t (sQ false (Bs.map Fr4.of))]++((Fr4.of L).tr false).map .t++((Fr4.of Us).tr false).map .t++[.sl 1 0 bs.length,.fn 99 [] [.pt 2 0,.pt 3 0]]⟩,⟨48,4,(bs.flatMap qt).map .t⟩,⟨92,0,[.pt 4 0]⟩,⟨3,0,[tv (.int .i64 at9)]⟩,⟨95,0,[.t ta,.t tb,.t tc,.t td]⟩]) (.inl rfl) rfl (bD (.agg (.cons (.id rfl) (.cons (.id rfl) (.cons (.id rfl) (.cons (.id rfl) .nil)))))) (by decide) (fun _ h=>by cases h) ⟨⟨rfl,rfl⟩,⟨rfl,rfl⟩,⟨rfl,rfl⟩,⟨rfl,rfl⟩,⟨rfl,rfl⟩,trivial⟩ ⟨rfl,rfl,rfl,rfl,rfl,trivial⟩ ⟨rfl,cK _,rfl,rfl,rfl,trivial⟩ (fun h=>by cases h) ⟨rfl,rfl⟩
def eC (ls:List (List (Int×Rat)×Int×Bool)):Tr:=.s true 96 1 ls.length (ls.map eO)
theorem Ap {ls:List (List (Int×Rat)×Int×Bool)}{e:Nat}(he:e<ls.length):((ls.map eO).map AV.t)[e]? =some (.t (eO (dM ls e))):=by
 rw[List.getElem?_map,List.getElem?_map,Ih he]
 rfl
theorem Eg {l:List AV}{e:Nat}{a:AV}(he:e<l.length):(l.set e a)[0+e*1]? =some a:=by rw[show 0+e*1=e by omega];exact List.getElem?_set_self he
theorem lJ {ls:List (List (Int×Rat)×Int×Bool)}:((ls.map eO).map AV.t).length=ls.length:=by simp
theorem Mp {ls:List (List (Int×Rat)×Int×Bool)}{e:Nat}{a:AV}{x:List (Int×Rat)×Int×Bool}:(((ls.map eO).map AV.t).set e a).set e (.t (eO x))=((ls.set e x).map eO).map .t:=by rw[List.set_set,List.map_set,List.map_set]
theorem LC (us:List Ur) (u:Ur):(us.flatMap (eM false)).map AV.t++(eM false u).map .t=((us++[u]).flatMap (eM false)).map .t:=by simp[List.flatMap_append]
section
variable {x:Cx}{g:Nat→FV}{ob ob':List (Option Ob)}{Q:Post}{ops:Array Oper}{rest:List Oper}{d:Nat}{ty:TypeId}{pos:String}{af:Array Edge}{gd:Option (Nat×Bool)}{T:List (Nat×TI)}
theorem LD {k t z n:Nat}(t':Nat){l l':List Tr}(ho:bX ob k=some ⟨t,z,l.map .t⟩) (hz:l.length=n*z) (hl:rdTL l=l'):Kd x g ob k ⟨t,z,l.map .t⟩ (.sl k 0 n) (.s false t' z n l'):=fun cs ts W hR m2 m3 u e2=>by
 have h:=Du t' ho hz cs ts W hR m2 m3 u e2
 simp only[AR]at h⊢
 have h9:=Eh _ _ h
 rw[nF,hl]at h9
 exact h9
theorem PY {i k t z n:Nat}(t':Nat){l l':List Tr}{fv fv':FV}(hi:Nat.blt i x.n=true) (hg:g i=fv) (ho:bX ob k=some ⟨t,z,l.map .t⟩) (hz:l.length=n*z) (hl:rdTL l=l') (hf:FzF (.sl k 0 n) (.s false t' z n l') fv fv'):Sub x g ob (bF g i fv') (ob.set k none):=Aa hi hg ho hf (LD t' ho hz hl)
variable {late:Nat→Bool}{K fr:List Nat}{on:Bool}{fuel:Nat}{listed:Array Bool}
end
def z4:List Tr:=[.v (.bool false),.v (.slice none 0 0),.v (.bool false),.v (.slice none 0 0)]
structure WhOk (Z vs:List (Int×Rat)) (last:Int) (put:Bool):Prop where
 pos:XP Z=vs
 low:∀z∈Z,0≤z.2
 ok:StOk vs Z.length (100*Z.length)
 asc:Asc vs
 yrs:∀x∈vs,-9223372036854775808≤x.1
 last:∀x∈vs,put=true∧x.1≤last
section
variable {Z vs us vs':List (Int×Rat)}{last y:Int}{put rt:Bool}{p:Rat}
end
theorem Rs {ls:List (List (Int×Rat)×Int×Bool)}{e:Nat}{a:AV}{x:List (Int×Rat)×Int×Bool}(he:e<ls.length) (hx:dM ls e=x):(((ls.map eO).map AV.t).set e a).set e (.t (eO x))=(ls.map eO).map .t:=by
 subst hx
 rw[List.set_set]
 apply List.ext_getElem?
 intro i
 rw[List.getElem?_set]
 split
 ·rename_i h
  subst h
  rw[if_pos (by rw[lJ];exact he)]
  exact(Ap he).symm
 rfl
theorem EB (xs:List Wv) (x:Wv):(xs.flatMap aQ).map AV.t++(aQ x).map .t=((xs++[x]).flatMap aQ).map .t:=by simp[List.flatMap_append]
def Rg.wtk (R:Rg) (U:List Ur) (t e k:Nat):List Wv:=R.wt0 U t e++bif R.mem t e then((R.wl U e (R.I t)).take k).map (fun x=>(⟨x.1,e,x.2⟩:Wv))else []
section
variable {R:Rg}{U:List Ur}{t e k:Nat}
theorem Mq:R.wtk U t e 0=R.wt0 U t e:=by
 unfold Rg.wtk
 cases R.mem t e <;> simp
theorem LE (hm:R.mem t e=true) (hk:k<(R.wl U e (R.I t)).length):R.wtk U t e (k+1)=R.wtk U t e k++[⟨(aH (R.wl U e (R.I t)) k).1,e,(aH (R.wl U e (R.I t)) k).2⟩]:=by
 unfold Rg.wtk
 rw[hm,lG hk]
 simp
theorem PZ (hm:R.mem t e=false):R.wtk U t e (k+1)=R.wtk U t e k:=by
 unfold Rg.wtk
 rw[hm]
 rfl
theorem LF (hk:(R.wl U e (R.I t)).length≤k):R.wtk U t e k=R.wt0 U t (e+1):=by
 unfold Rg.wtk Rg.wt0
 rw[List.range_succ,List.flatMap_append,fF hk]
 simp
theorem Ru:(R.wt0 U t k).length≤k*t:=by
 unfold Rg.wt0
 induction k with
 | zero=>simp
 | succ k ih=>
  rw[List.range_succ,List.flatMap_append,cO,Nat.succ_mul]
  have h1:=uW (R:=R) (U:=U) (e:=k) (I:=R.I t)
  have h2:=uX (R:=R) (k:=t)
  have h3:(List.flatMap (fun e=>bif R.mem t e then(R.wl U e (R.I t)).map (fun x=>(⟨x.1,e,x.2⟩:Wv))else []) [k]).length≤t:=by
   rw[List.flatMap_cons,List.flatMap_nil,List.append_nil]
   cases R.mem t k
   ·simp
   show((R.wl U k (R.I t)).map _).length≤t
   rw[dF]
   omega
  omega
end
theorem Yn {R:Rg}{U:List Ur}{N t:Nat}{ta tb tc:Tr}(hOk:R.Ok N) (hI:R.Iv N U) (ht:t<N):aG false Tryz.prog 101 [⟨95,0,[.t ta,.t tb,.t tc,.t (eC (R.own U (R.I t) t))]⟩] [.one (.pt 0 0),.one (.t (gU (R.ms t)))] (Rt [⟨95,0,[.t ta,.t tb,.t tc,.t (eC (R.own U (R.I t) t))]⟩] (.one (.t (.s true 64 18 ((R.wt U t).map (R.wv U)).length (((R.wt U t).map (R.wv U)).flatMap aQ))))):=by
 refine EC Tryz.func101 rfl Tryz.ntmps101 rfl aB rfl fun N9 M9 w9 c0 h0=>?_
 have hll:(R.own U (R.I t) t).length=R.E:=kR
 have hms:(R.ms t).length=R.E:=Lj
 have hE:=hOk.e;have hN:=hOk.n
 refine sq (rl (o1 ?_));refine nl (sq (rl (o1 ?_)));refine nl (sq (sq ?_))
 refine WP.sub (oE (j:=0) (key:=1) (p:=3) (e:=96) (z:=1) (n:=(R.own U (R.I t) t).length) (trs:=(R.own U (R.I t) t).map eO) rfl rfl rfl rfl rfl) ?_;refine rl ?_
 (iterate 3 refine o1 ?_);refine ld ?_;refine o1 ?_;refine o1 ?_;refine nl (bl ?_)
 refine lp (γ:=Nat) (fun s=>bS [(0,.one (.pt 0 0)),(1,.one (.t (gU (R.ms t)))),(5,.one (.sl 2 0 ((R.wt0 U t s).length))),(13,.one (.sl 1 0 ((R.own U (R.I t) t).length))),(14,.one (tv (.int .i64 (((R.own U (R.I t) t).length:Nat):Int)))),(15,.one (tv (.int .i64 ((s:Nat):Int))))]) (fun s=>[(⟨95,0,[.t ta,.t tb,.t tc,.sl 1 0 (R.own U (R.I t) t).length]⟩:Ob),⟨96,1,((R.own U (R.I t) t).map eO).map .t⟩,⟨64,18,((R.wt0 U t s).flatMap aQ).map .t⟩].map some) (fun s=>s≤R.E) (fun s=>R.E-s) 0 (Nat.zero_le _) ((nr (i:=5) 2 64 18 rfl rfl rfl rfl).trans (dH h0 [0,1,2] ⟨oe rfl rfl,aC rfl,aC rfl,rfl⟩)) ?_
 rintro e he;refine sq (rl (o1 ?_));refine nl (sq ?_);refine bL rfl (fun h1=>?_) (fun h1=>?_)
 ·refine sk (sq (bl (sq ?_)));have hwl:=uW (R:=R) (U:=U) (e:=e) (I:=R.I t)
  have hIl:=uX (R:=R) (k:=t)
  have hle9:dM (R.own U (R.I t) t) e=((R.wl U e (R.I t)),(R.lp e t).1,(R.lp e t).2):=Fx (by omega)
  have hzz:∀x∈(R.wl U e (R.I t)),Sz 68719476736 x.2:=fun x hx=>by obtain⟨i,hi,rfl,_⟩:=jG.1 hx;exact(hI.sz_left hOk (by have:=(kN.1 hi).1;omega) (by omega)).mono (by omega)
  refine WP.sub (Mr (j:=1) (key:=3) (p:=e) (e:=137) (trs:=[sR 102 (R.wl U e (R.I t)),.v (.int .i64 (R.lp e t).1),.v (.bool (R.lp e t).2)]) rfl rfl (by rw[Ap (by omega),hle9];rfl) rfl) ?_
  refine rl (o1 ?_);refine o1 ?_;refine Bp (l:=(((R.own U (R.I t) t).map eO).map AV.t).set e (.pt 3 0)) (v:=.pt 3 0) (Eg (by rw[lJ];omega)) ?_
  refine o1 ?_;refine o1 ?_;refine nl (sq (rl (o1 ?_)))
  refine iM 4 (Yf (vs:=(R.wl U e (R.I t))) (rest:=[.v (.int .i64 (R.lp e t).1),.v (.bool (R.lp e t).2)]) hzz (by omega)) QA ⟨xT rfl (.pe (trs:=[sR 102 (R.wl U e (R.I t)),.v (.int .i64 (R.lp e t).1),.v (.bool (R.lp e t).2)]) rfl rfl rfl (by simp only[rdTL,nF,sR,sV,Al])),rfl⟩ ?_
  refine o1 ?_;refine o1 ?_;refine nl (bl (WP.sub (PY (i:=21) (k:=4) (n:=(R.wl U e (R.I t)).length) 102 rfl rfl rfl (bM true _) (Al true _) (.one .sl)) ?_))
  refine WP.sub (Gj (j:=1) (k:=3) (p:=e) (e:=137) (trs:=[sR 102 (R.wl U e (R.I t)),.v (.int .i64 (R.lp e t).1),.v (.bool (R.lp e t).2)]) (l':=((R.own U (R.I t) t).map eO).map .t) rfl rfl rfl (List.getElem?_set_self (by rw[lJ];omega)) (Rs (x:=((R.wl U e (R.I t)),(R.lp e t).1,(R.lp e t).2)) (by omega) hle9)) ?_
  refine lp (γ:=Nat) (fun s=>bS [(0,.one (.pt 0 0)),(1,.one (.t (gU (R.ms t)))),(5,.one (.sl 2 0 ((R.wtk U t e s).length))),(6,.one (tv (.int .i64 ((e:Nat):Int)))),(13,.one (.sl 1 0 ((R.own U (R.I t) t).length))),(14,.one (tv (.int .i64 (((R.own U (R.I t) t).length:Nat):Int)))),(15,.one (tv (.int .i64 ((e:Nat):Int)))),(21,.one (.t (sV 102 false (R.wl U e (R.I t))))),(22,.one (tv (.int .i64 (((R.wl U e (R.I t)).length:Nat):Int)))),(23,.one (tv (.int .i64 ((s:Nat):Int))))]) (fun s=>[(⟨95,0,[.t ta,.t tb,.t tc,.sl 1 0 (R.own U (R.I t) t).length]⟩:Ob),⟨96,1,((R.own U (R.I t) t).map eO).map .t⟩,⟨64,18,((R.wtk U t e s).flatMap aQ).map .t⟩].map some) (fun s=>s≤(R.wl U e (R.I t)).length) (fun s=>(R.wl U e (R.I t)).length-s) 0 (Nat.zero_le _) (mJ h0 [0,1,2] _ _ (by decide) rfl ⟨rfl,rfl,(by rw[Mq];rfl),rfl,rfl,rfl,rfl,rfl,rfl,rfl,trivial⟩ ⟨oe rfl rfl,aC rfl,aC (congrArg (fun l:List Wv=>some (⟨64,18,(l.flatMap aQ).map .t⟩:Ob)) Mq.symm),rfl⟩) ?_
  rintro k hk;refine sq (rl (o1 ?_));refine nl (sq ?_);refine bL rfl (fun h2=>?_) (fun h2=>?_)
  ·refine sk (sq (bl (sq (rl (o1 ?_)))));refine eE (cT false (aH (R.wl U e (R.I t)) (k))) (uP false (by omega)) ?_
   refine al 3 ?_;refine st ?_;refine nl (sq (rl ?_));(iterate 3 refine o1 ?_);refine eE ([.v (.bool (nU (R.ms t) (e)))]) (Jz (R.ms t) (k:=e) (by omega)) ?_
   refine nl ?_;refine nC rfl (fun h3=>?_) (fun h3=>?_)
   ·have hkl:(R.wtk U t e k).length≤1000:=by
     have h1:=Ru (R:=R) (U:=U) (t:=t) (k:=e)
     have h2:e*t≤6*10:=Nat.mul_le_mul (by omega) (by omega)
     unfold Rg.wtk;rw[cO];have h3:(bif R.mem t e then((R.wl U e (R.I t)).take k).map (fun x=>(⟨x.1,e,x.2⟩:Wv))else []).length≤k:=by
      cases R.mem t e
      ·exact Nat.zero_le _
      show(((R.wl U e (R.I t)).take k).map _).length≤k
      rw[dF,eA];omega
     omega
    refine rl (o1 ?_);refine o1 ?_;refine ld ?_;refine o1 ?_;refine o1 ?_;refine ld ?_;refine o1 ?_;refine bs 4 ?_
    refine iN (j:=5) aB rfl rfl rfl rfl (.sl rfl (by rw[dF,bE bK])) (.sl rfl rfl rfl) rfl rfl rfl (by omega) (by omega) ?_
    refine o1 ?_;refine nl (rl (o1 ?_));refine aZ 40 (k+1) ?_
    refine o1 ?_;refine nl ?_
    have hX:(R.wtk U t e (k+1))=(R.wtk U t e k)++[(⟨(aH (R.wl U e (R.I t)) (k)).1,((e:Nat):Int),(aH (R.wl U e (R.I t)) (k)).2⟩:Wv)]:=LE (by have h9:=h3;rwa[rX (by omega)]at h9) (by omega)
    exact⟨k+1,by omega,by omega,mJ h0 [0,1,5] _ _ (by decide) rfl ⟨rfl,rfl,(by rw[hX,cO];rfl),rfl,rfl,rfl,rfl,rfl,rfl,rfl,trivial⟩ ⟨oe rfl rfl,aC rfl,aC (by rw[hX,←EB];rfl),rfl⟩⟩
   refine sk (rl (o1 ?_));refine aZ 40 (k+1) ?_
   refine o1 ?_;refine nl ?_;have hX:(R.wtk U t e (k+1))=(R.wtk U t e k):=PZ (by have h9:=h3;rwa[rX (by omega)]at h9)
   exact⟨k+1,by omega,by omega,mJ h0 [0,1,2] _ _ (by decide) rfl ⟨rfl,rfl,(by rw[hX];rfl),rfl,rfl,rfl,rfl,rfl,rfl,rfl,trivial⟩ ⟨oe rfl rfl,aC rfl,aC (by rw[hX];rfl),rfl⟩⟩
  refine ex (rl (o1 ?_));refine aZ 41 (e+1) ?_
  refine o1 ?_;refine nl ?_;have hfin:(R.wtk U t e k)=(R.wt0 U t (e+1)):=LF (by omega)
  exact⟨e+1,by omega,by omega,mJ h0 [0,1,2] _ _ (by decide) rfl ⟨rfl,rfl,(by rw[hfin];rfl),rfl,rfl,rfl,trivial⟩ ⟨oe rfl rfl,aC rfl,aC (congrArg (fun l:List Wv=>some (⟨64,18,(l.flatMap aQ).map .t⟩:Ob)) hfin),rfl⟩⟩
 refine ex (sq (rl (o1 ?_)))
 have hwl9:(R.wt0 U t e).length≤60:=Nat.le_trans (Ru (R:=R) (U:=U) (t:=t) (k:=e)) (Nat.mul_le_mul (show e≤6 by omega) (show t≤10 by omega))
 refine cl 3 [2] (KW (xs:=(R.wt0 U t e)) rfl (by omega)) VC ⟨aC rfl,rfl⟩ ⟨rfl,rfl,rfl⟩ (ok:=[some ⟨64,18,((dV (R.wt0 U t e)).flatMap aQ).map .t⟩]) ⟨aC rfl,rfl⟩ ?_
 refine nl (sq (rl (o1 ?_)));refine o1 ?_;refine nl (rt ?_);have hee:e=R.E:=by omega
 have hso:dV (R.wt0 U t e)=((R.wt U t).map (R.wv U)):=by rw[hee];exact QB hI (by omega)
 have hln:(R.wt0 U t e).length=((R.wt U t).map (R.wv U)).length:=by rw[←hso,iR]
 refine Ms (iH (j:=0) (k:=1) (p:=3) (e:=96) (z:=1) (n:=(R.own U (R.I t) t).length) (trs:=(R.own U (R.I t) t).map eO) rfl rfl rfl rfl rfl (aN _ _ (by simp)) (by simp) rfl) ?_
 exact wK <| hJ (lent':=[⟨95,0,[.t ta,.t tb,.t tc,.t (eC (R.own U (R.I t) t))]⟩]) (.inl rfl) rfl (bD (.one (.sl (trs:=(dV (R.wt0 U t e)).flatMap aQ) rfl rfl (aN _ _ (by rw[bE bK,iR])) (by rw[bE bK,iR])))) (by decide) (by simp) ⟨⟨rfl,rfl⟩,trivial⟩ ⟨rfl,trivial⟩ ⟨rfl,trivial⟩ (fun h=>by cases h) ⟨rfl,by rw[hso,hln]⟩
def Rg.yrq (R:Rg) (t:Nat):List Tr:=[gU (R.ms t),sQ false ((R.bs t).map Fr4.of)]++(Fr4.of (R.lim t)).tr false
def Rg.uf (R:Rg) (U:List Ur) (t i:Nat):List Ur:=((R.wt U t).take i).foldl (fun U p=>R.use U p.1 p.2 t) U
theorem Rw (xs:List Rat) (q:Rat):(xs.flatMap qt).map AV.t++(qt q).map .t=((xs++[q]).flatMap qt).map .t:=by simp[List.flatMap_append]
theorem Rx (xs:List Rl) (x:Rl):(xs.flatMap rlt).map AV.t++(rlt x).map .t=((xs++[x]).flatMap rlt).map .t:=by simp[List.flatMap_append]
section
variable {R:Rg}{U:List Ur}{N t i e k:Nat}{p:Nat×Nat}
theorem Yo (h:(R.wt U t)[i]? =some p):p∈R.vl t∧t≤p.1+R.f∧p.2<R.E∧aE ((R.wt U t).map (R.wv U)) i=R.wv U p:=by
 have h1:=List.mem_of_getElem? h
 unfold Rg.wt at h1
 rw[List.mem_filter]at h1
 obtain⟨h2,h3⟩:=h1
 unfold Rg.may at h3
 simp only[Bool.and_eq_true,decide_eq_true_eq]at h3
 refine⟨h2,h3.1.1,(gK.1 h2).2.1,?_⟩
 rw[aE,List.getD_eq_getElem?_getD,List.getElem?_map,h]
 rfl
theorem Gk (h:(R.wt U t)[i]? =some p):R.uf U t (i+1)=R.use (R.uf U t i) p.1 p.2 t:=by
 unfold Rg.uf
 rw[List.take_add_one,h,List.foldl_append]
 rfl
theorem ED:(R.wt U t).Nodup:=List.Pairwise.filter _ (hG t)
theorem LG (h:(R.wt U t)[i]? =some p):R.left (R.uf U t i) p.1 p.2=R.left U p.1 p.2:=by
 refine wC _ _ fun hm=>?_
 obtain⟨j,hj,e⟩:=List.getElem_of_mem hm
 rw[eA]at hj
 rw[List.getElem_take]at e
 have hi:=(List.getElem?_eq_some_iff.1 h)
 have:=(List.getElem_inj (ED (R:=R) (U:=U) (t:=t))).1 (e.trans hi.2.symm)
 omega
theorem VD (h:(R.wt U t)[i]? =some p):aE ((R.wt U t).map (R.wv U)) i=R.wv (R.uf U t i) p:=by
 rw[(Yo h).2.2.2]
 unfold Rg.wv
 rw[LG h]
theorem VE (hI:R.Iv N U) (ht:t<N):R.Iv N (R.uf U t i):=hI.fold ht _ fun p hp=>by
 have h1:=List.mem_of_mem_take hp
 unfold Rg.wt at h1
 have:=gK.1 (List.mem_filter.1 h1).1
 exact⟨by omega,this.2.1⟩
theorem QC:(R.uf U t i).length≤U.length+i:=by
 unfold Rg.uf
 have gen:∀(L:List (Nat×Nat)) (V:List Ur),(L.foldl (fun U p=>R.use U p.1 p.2 t) V).length≤V.length+L.length:=by
  intro L
  induction L with
  | nil=>intro V;simp
  | cons q L ih=>
   intro V
   have h1:=ih (R.use V q.1 q.2 t)
   have h2:(R.use V q.1 q.2 t).length≤V.length+1:=Fy
   rw[List.foldl_cons,List.length_cons]
   omega
 have:=gen ((R.wt U t).take i) U
 rw[eA]at this
 omega
theorem QD (hI:R.Iv N U) (ht:t<N) (hi:(R.wt U t).length≤i):R.uf U t i=R.step U t:=by
 unfold Rg.uf
 rw[fF hi]
 exact(LH hI ht).symm
theorem LI:(R.wt U t).length≤(R.vl t).length:=List.length_filter_le ..
theorem EE:R.rls (R.step U t) t=R.rls U t:=by
 unfold Rg.step
 generalize (R.vl t).filter (R.may t)=L
 induction L generalizing U with
 | nil=>rfl
 | cons p L ih=>
  rw[List.foldl_cons,ih]
  exact OT (bC _)
theorem EF:R.rls U t++[R.rl U t]=R.rls U (t+1):=by simp[Rg.rls,List.range_succ]
theorem Yp (l:List Rat):l.flatMap qt=(l.map Fr4.of).flatMap (Fr4.tr false):=by
 induction l with
 | nil=>rfl
 | cons q l ih=>
  rw[List.flatMap_cons,List.map_cons,List.flatMap_cons,←ih]
  rfl
theorem EG (h:∀e,e<R.E→dQ U t e=0):(List.range R.E).map (fun _=>((0:Int):Rat))=R.by9 U t:=List.map_congr_left fun e he=>(h e (List.mem_range.1 he)).symm
end
theorem rZ (q:Rat):q.num.sign<0↔q<0:=by
 rw[Int.sign_neg_iff]
 have:=Rat.num_nonneg (q:=q)
 constructor
 ·intro h
  rcases Rat.le_total (a:=0) (b:=q)with h1 | h1
  ·have:=this.2 h1;omega
  rcases Rat.le_iff_lt_or_eq.1 h1 with h2 | h2
  ·exact h2
  rw[h2]at h;cases h
 intro h
 rcases Int.lt_or_le q.num 0 with h1 | h1
 ·exact h1
 have:=this.1 h1;grind
theorem EH {q:Rat}{y last:Int}{put:Bool}(h0:0≤q) (hl:put=true→last<y):eS (bV (Fr4.of q).s (Fr4.of q).x (Fr4.of q).t (Fr4.of q).y) q y last put=0:=by
 have h1:bV (Fr4.of q).s (Fr4.of q).x (Fr4.of q).t (Fr4.of q).y=true:=Im q
 have h2:¬q.num.sign<0:=by
  have:=Rat.num_nonneg.2 h0
  rw[Int.not_lt]
  exact Int.sign_nonneg_iff.2 this
 unfold eS
 rw[h1,if_neg (by simp),if_neg (by simp[h2])]
 cases put with
 | false=>rfl
 | true=>rw[if_neg (by have:=hl rfl;simp;omega)]
theorem EI {q:Rat}{y:Int}{vs:List (Int×Rat)}:kT 0 q y vs=vs++(if 0<q then [(y,q)]else []):=by
 unfold kT
 rw[if_pos rfl]
 by_cases h:0<q
 ·rw[if_pos (decide_eq_true ((kA q).2 h)),if_pos h]
 rw[if_neg (by simpa using fun h9=>h ((kA q).1 h9)),if_neg h,List.append_nil]
theorem LJ (xs:List Vn) (x:Vn):(xs.flatMap (cF false)).map AV.t++(cF false x).map .t=((xs++[x]).flatMap (cF false)).map .t:=by simp[List.flatMap_append]
theorem Mt {R:Rg}{U:List Ur}{x c:Nat→Nat→Rat}{L:List (Nat×Nat)}{p:Nat×Nat}:R.vns U x c L++[R.vn U x c p]=R.vns U x c (L++[p]):=by simp[Rg.vns]
theorem Gl {R:Rg}{t e:Nat}(h:R.E≤6) (he:e≤R.E):(R.vlk t e).length≤6*t+6:=by
 unfold Rg.vlk
 have h1:=lK (R:=R) h t
 have h2:=List.length_filter_le (R.isV t) (List.range e)
 rw[List.length_range]at h2
 rw[cO,dF]
 omega
theorem sA {R:Rg}{N k:Nat}(h:R.Ok N) (hk:k≤N):(R.run k).length≤1000:=by
 have gen:∀k:Nat,k≤10→(R.run k).length≤60*k:=by
  intro k
  induction k with
  | zero=>intro _;exact bC _
  | succ k ih=>
   intro hk
   have h1:=ih (by omega)
   have h2:∀(L:List (Nat×Nat)) (V:List Ur),(L.foldl (fun U p=>R.use U p.1 p.2 k) V).length≤V.length+L.length:=by
    intro L
    induction L with
    | nil=>intro V;simp
    | cons q L ih2=>
     intro V
     have h1:=ih2 (R.use V q.1 q.2 k)
     have h2:(R.use V q.1 q.2 k).length≤V.length+1:=Fy
     rw[List.foldl_cons,List.length_cons]
     omega
   have h3:=h2 ((R.vl k).filter (R.may k)) (R.run k)
   have h4:=List.length_filter_le (R.may k) (R.vl k)
   have h5:=lK (R:=R) h.e k
   show(R.step (R.run k) k).length≤_
   unfold Rg.step
   omega
 have h1:=h.n
 have:=gen k (by omega)
 omega
section
variable {x:Cx}{g:Nat→FV}{ob ob':List (Option Ob)}{Q:Post}{ops:Array Oper}{d:Nat}{ty:TypeId}{pos:String}{af:Array Edge}{gd:Option (Nat×Bool)}
theorem EJ {fresh:Bool}{f:FuncId}{args:List FV}{R:List Lt→FV→Prop}{given:List Lt}{K:List Nat}{aa:Array Operand}{ats:Array TypeId}{key:Nat}(hS:rB fresh x.P f [] given args R) (hf:CallOk x.P f) (hK:eH ob K K given) (hnd:K.Nodup) (ha:jT x.n g K aa.toList args) (hk:eD ob key=true) (hb:∀l r,R l r→l.length=0→(jP key r).isSome=true):
  OS x ⟨some d,.call ⟨.value (.func f),aa,ats⟩,ty,pos,af,gd⟩ g ob K (fun g' ob'=>∃l r v os,R l r∧jP key r=some (v,os)∧g'=bF g d v∧ob'=bB ob K (bG K)++os.map some):=by
 intro cs ts W hR K' Q kk
 have e9:cR []++args++cR []=args:=by simp[cR]
 obtain⟨us0,us,e0,hfst,hcap⟩:=(tM f:Ry x g (.func f) f [] []) ob cs ts W hR
 unfold Oper.wp
 rw[kD hf e0]
 refine(Dx (K1:=[]) (K2:=K) (by rw[e9];exact hS) rfl rfl hK hnd ha hfst hcap hR).mono fun e W' hE=>?_
 obtain⟨v,lent',r,ys,cl,N2,rfl,hr,hl1,hl2,hro,hok,hndy,fin⟩:=hE
 have hb1:=hb _ r hr hl1
 obtain⟨⟨v',os⟩,hbn⟩:=Option.isSome_iff_exists.1 hb1
 obtain⟨csn,e1,e2,e3,e4⟩:=yM (Jv hbn hro) hok hbn
 obtain rfl:=List.eq_nil_of_length_eq_zero hl1
 obtain rfl:=List.eq_nil_of_length_eq_zero hl2
 obtain⟨hN,hfin⟩:=fin [] rfl os csn e1 (fun b=>by rw[e2];exact bC _) e3
 have hk:=Nat.eq_of_beq_eq_true hk
 have hpl:(cH cs K ([]++K.map (co cs))).length=key:=by rw[gG,←hR.len,hk]
 obtain⟨g1,g2⟩:=e4 _ (cH cs K ([]++K.map (co cs))++csn) hN (by simp only[cO]at hpl⊢;omega) (fun i _=>by
  rw[Gb (by omega),hpl,show key+i-key=i by omega])
 obtain⟨m1,m2⟩:=hfin g2
 exact kk _ _ _ _ _ ⟨[],r,v',os,hr,hbn,rfl,rfl⟩ (m1.put d g1) ((m2 (some d)).then_put v)
theorem XQ {late:Nat→Bool}{K fr:List Nat}{fuel:Nat}{listed:Array Bool}{fresh:Bool}{f:FuncId}{given:List Lt}{args:List FV}{r v:FV}{os:List Ob}{aa:Array Operand}{ats:Array TypeId}(i key:Nat) (Kl:List Nat) (hi:ops[i]? =some ⟨some d,.call ⟨.value (.func f),aa,ats⟩,ty,pos,af,gd⟩) (hS:rB fresh x.P f [] given args (aU r)) (hf:CallOk x.P f) (hK:eH ob Kl Kl given) (ha:jT x.n g Kl aa.toList args) (hke:jV ob (bB ob Kl (bG Kl)++os.map some) K) (k:WD x ops Q late K (d::fr) true fuel (listed.setIfInBounds i true) (bF g d v) (bB ob Kl (bG Kl)++os.map some)) (hr:Region.ready .any ops listed=[i]:=by kernel_rfl) (hw:bI ops x.n g gd=some true:=by rfl) (hk:eD ob key=true:=by rfl) (hnd:Kl.Nodup:=by decide) (hdis:∀k∈K,k∉Kl:=by decide) (hb:jP key r=some (v,os):=by rfl):
  WD x ops Q late K fr true (fuel+1) listed g ob:=by
 refine WO.one hr (Dy i hi rfl hw (EJ hS hf hK hnd ha hk (by rintro _ _ rfl _;rw[hb];rfl)) hdis ?_ ?_)
 ·rintro _ _ ⟨l,r',v',os',rfl,h,rfl,rfl⟩
  rw[hb]at h
  injection h with h
  injection h with h1 h2
  subst h1 h2
  exact⟨⟨_,rfl⟩,gL hke⟩
 rintro _ _ ⟨l,r',v',os',rfl,h,rfl,rfl⟩
 rw[hb]at h
 injection h with h
 injection h with h1 h2
 subst h1 h2
 exact k
end
theorem Yq {R:Rg}{U:List Ur}{t:Nat}(h:∀e,e<R.E→dQ U t e=0):(List.range R.E).map (fun _=>(0:Rat))=R.by9 U t:=List.map_congr_left fun e he=>(h e (List.mem_range.1 he)).symm
theorem Mv {R:Rg}{U:List Ur}{t e:Nat}(he:e<R.E):(R.by9 U t)[e]? =some (dQ U t e):=by rw[tF (by rw[uK];exact he),pD he]
def kU (o:Bool) (l:List Vn):Tr:=.s o 87 18 l.length (l.flatMap (cF false))
def kV (o:Bool) (l:List Ur):Tr:=.s o 109 7 l.length (l.flatMap (eM false))
def kW (o:Bool) (l:List Rl):Tr:=.s o 106 5 l.length (l.flatMap rlt)
def sB (o:Bool) (l:List Yr):Tr:=.s o 83 6 l.length (l.flatMap eG)
def aA (l:List (Nat×Nat)) (i:Nat):Nat×Nat:=l.getD i (0,0)
def Rg.lf (R:Rg) (U:List Ur) (x:Nat→Nat→Rat) (p:Nat×Nat):Rat:=R.los p.1 p.2-(cS U p.1 p.2+x p.1 p.2)
def Rg.fw (R:Rg) (t i:Nat):List Ur:=((R.vl t).take i).foldl (fun U p=>if R.may t p then R.use U p.1 p.2 t else U) (R.run t)
def Rg.n3 (R:Rg) (U:List Ur) (t:Nat) (p:Nat×Nat):Rat:=aJ (R.lf U (R.ex (R.run t) t) p) [R.base t p.2-dQ U t p.2,R.lim t-cV U t]
def Rg.xk (R:Rg) (t i y e:Nat):Rat:=if(y,e)∈(R.vl (t+1)).take i then R.ex (R.run (t+1)) (t+1) y e else R.ex (R.run (t+1)) t y e
def Rg.ck (R:Rg) (n i y e:Nat):Rat:=if(y,e)∈(R.vl n).take i then R.cl (R.run n) n y e else 0
section
variable {R:Rg}{U:List Ur}{N t i k y e n:Nat}{p:Nat×Nat}
theorem mU {l:List (Nat×Nat)}(h:i<l.length):l[i]? =some (aA l i):=by simp[aA,h]
theorem Cr {l:List (Nat×Nat)}(h:i<l.length):aA l i∈l:=mP h
theorem QE:R.fw t (R.vl t).length=R.run (t+1):=by
 unfold Rg.fw
 rw[fF (bC _)]
 show _=R.step (R.run t) t
 unfold Rg.step
 rw[List.foldl_filter]
theorem Gm (hi:i<(R.vl t).length):R.fw t (i+1)=if R.may t (aA (R.vl t) i)then R.use (R.fw t i) (aA (R.vl t) i).1 (aA (R.vl t) i).2 t else R.fw t i:=by
 unfold Rg.fw
 rw[List.take_add_one,mU hi,List.foldl_append]
 rfl
theorem VF (h:R.Ok N) (ht:t<N):R.Iv N (R.fw t i):=by
 have gen:∀(L:List (Nat×Nat)) (U:List Ur),R.Iv N U→(∀p∈L,p.1<N∧p.2<R.E)→R.Iv N (L.foldl (fun U p=>if R.may t p then R.use U p.1 p.2 t else U) U):=by
  intro L
  induction L with
  | nil=>intro U hU _;exact hU
  | cons p L ih=>
   intro U hU hL
   have h1:=hL p (List.mem_cons_self ..)
   rw[List.foldl_cons]
   refine ih _ ?_ fun q hq=>hL q (List.mem_cons_of_mem _ hq)
   split
   ·exact hU.use h1.1 h1.2 ht
   exact hU
 refine gen _ _ (h.run (by omega)) fun p hp=>?_
 have:=gK.1 (List.mem_of_mem_take hp)
 exact⟨by omega,this.2.1⟩
theorem QF (hm:R.may t (y,e)=false):cS (R.fw t i) y e=cS (R.run t) y e:=by
 have gen:∀(L:List (Nat×Nat)) (U:List Ur),cS (L.foldl (fun U p=>if R.may t p then R.use U p.1 p.2 t else U) U) y e=cS U y e:=by
  intro L
  induction L with
  | nil=>intro U;rfl
  | cons p L ih=>
   intro U
   rw[List.foldl_cons,ih]
   split
   ·rename_i h
    refine yK fun h9=>?_
    have h1:p=(y,e):=Prod.ext (by omega) (by omega)
    rw[h1,hm]at h
    cases h
   rfl
 exact gen _ _
theorem Va (a b c:Rat):aJ a [b,c]=aJ a [aJ b [c]]:=by
 simp only[aJ]
 repeat' split
 all_goals grind
theorem Ys (h:R.may t p=true):R.lf U (R.ex (R.run t) t) p=R.left U p.1 p.2:=by
 unfold Rg.may at h
 simp only[Bool.and_eq_true,decide_eq_true_eq]at h
 unfold Rg.lf Rg.ex Rg.left
 rw[if_neg (by omega)]
 grind
theorem QG (hm:R.mem t p.2=true) (h:R.may t p=false):R.lf (R.fw t i) (R.ex (R.run t) t) p=0:=by
 have h2:p.1+R.f<t:=by
  unfold Rg.may at h
  rw[hm,Bool.and_true,decide_eq_false_iff_not]at h
  omega
 unfold Rg.lf Rg.ex
 rw[if_pos h2,QF h]
 unfold Rg.left
 grind
theorem VG:R.n3 U t p≤R.lf U (R.ex (R.run t) t) p:=by
 unfold Rg.n3
 rw[Va]
 exact pF _ _
theorem Yt (hi:i<(R.vl t).length) (h:R.mem t (aA (R.vl t) i).2=false):R.fw t (i+1)=R.fw t i:=by
 rw[Gm hi,if_neg (by unfold Rg.may;rw[h];simp)]
theorem VH (hi:i<(R.vl t).length) (h:¬0<R.n3 (R.fw t i) t (aA (R.vl t) i)):R.fw t (i+1)=R.fw t i:=by
 rw[Gm hi]
 split
 ·rename_i hm
  unfold Rg.n3 at h
  rw[Ys hm,Va]at h
  exact wE h
 rfl
theorem QH (hi:i<(R.vl t).length) (hm:R.mem t (aA (R.vl t) i).2=true) (h:0<R.n3 (R.fw t i) t (aA (R.vl t) i)):R.may t (aA (R.vl t) i)=true∧R.fw t (i+1)=R.fw t i++[⟨((aA (R.vl t) i).1:Nat),((aA (R.vl t) i).2:Nat),(t:Nat),R.n3 (R.fw t i) t (aA (R.vl t) i)⟩]:=by
 have h1:R.may t (aA (R.vl t) i)=true:=by
  cases h2:R.may t (aA (R.vl t) i)
  ·have h3:=VG (R:=R) (U:=R.fw t i) (t:=t) (p:=aA (R.vl t) i)
   rw[QG hm h2]at h3
   grind
  rfl
 refine⟨h1,?_⟩
 rw[Gm hi,if_pos h1]
 unfold Rg.n3 at h⊢
 rw[Ys h1,Va]at h⊢
 exact lF h
theorem Cs {U':List Ur}{x x' c c':Nat→Nat→Rat}{L:List (Nat×Nat)}(hn:L.Nodup) (hi:i<L.length) (h:∀q∈L,q≠aA L i→R.vn U x c q=R.vn U' x' c' q):(R.vns U x c L).set i (R.vn U' x' c' (aA L i))=R.vns U' x' c' L:=Cg hn (mU hi) h
theorem wL (hn:(R.vl n).Nodup) (hi:i<(R.vl n).length){q:Nat×Nat}:q∈(R.vl n).take (i+1)↔q∈(R.vl n).take i∨q=aA (R.vl n) i:=by
 rw[List.take_add_one,mU hi,List.mem_append]
 simp
theorem EK (hn:(R.vl n).Nodup) (hi:i<(R.vl n).length):aA (R.vl n) i∉(R.vl n).take i:=by
 intro h
 obtain⟨j,hj,e9⟩:=List.mem_take_iff_getElem.1 h
 have h1:=mU hi
 have h2:(R.vl n)[j]? =some (aA (R.vl n) i):=by rw[dC (by omega),e9]
 have h3:(R.vl n)[j]? =(R.vl n)[i]? :=by rw[h1,h2]
 have:=(List.getElem?_inj (by omega) hn).1 h3
 omega
theorem LK:R.xk t 0=R.ex (R.run (t+1)) t:=by
 funext y e
 unfold Rg.xk
 simp
theorem QI (hp:p∈R.vl (t+1)):R.xk t (R.vl (t+1)).length p.1 p.2=R.ex (R.run (t+1)) (t+1) p.1 p.2:=by
 unfold Rg.xk
 rw[fF (bC _),if_pos hp]
theorem II {q:Nat×Nat}(hi:i<(R.vl (t+1)).length) (h:q≠aA (R.vl (t+1)) i):R.xk t (i+1) q.1 q.2=R.xk t i q.1 q.2:=by
 unfold Rg.xk
 have h1:=wL (hG (R:=R) (t+1)) hi (q:=q)
 by_cases h2:q∈(R.vl (t+1)).take i
 ·rw[if_pos (h1.2 (.inl h2)),if_pos h2]
 rw[if_neg (fun h3=>(h1.1 h3).elim h2 h),if_neg h2]
theorem Vb (hi:i<(R.vl (t+1)).length):R.xk t i (aA (R.vl (t+1)) i).1 (aA (R.vl (t+1)) i).2=R.ex (R.run (t+1)) t (aA (R.vl (t+1)) i).1 (aA (R.vl (t+1)) i).2:=if_neg (EK (hG (t+1)) hi)
theorem Yu (hi:i<(R.vl (t+1)).length):R.xk t (i+1) (aA (R.vl (t+1)) i).1 (aA (R.vl (t+1)) i).2=R.ex (R.run (t+1)) (t+1) (aA (R.vl (t+1)) i).1 (aA (R.vl (t+1)) i).2:=if_pos ((wL (hG (R:=R) (t+1)) hi).2 (.inr rfl))
theorem VI {c:Nat→Nat→Rat}(hi:i<(R.vl (t+1)).length) (h:(aA (R.vl (t+1)) i).1+R.f≠t):R.vns (R.run (t+1)) (R.xk t (i+1)) c (R.vl (t+1))=R.vns (R.run (t+1)) (R.xk t i) c (R.vl (t+1)):=by
 refine List.map_congr_left fun q _=>?_
 have:R.xk t (i+1) q.1 q.2=R.xk t i q.1 q.2:=by
  by_cases hq:q=aA (R.vl (t+1)) i
  ·subst hq
   rw[Vb hi,Yu hi]
   unfold Rg.ex
   by_cases h1:(aA (R.vl (t+1)) i).1+R.f<t
   ·rw[if_pos h1,if_pos (by omega)]
   rw[if_neg h1,if_neg (by omega)]
  exact II hi hq
 unfold Rg.vn
 rw[this]
theorem QJ {c:Nat→Nat→Rat}(hi:i<(R.vl (t+1)).length) (h:(aA (R.vl (t+1)) i).1+R.f=t):(R.vns (R.run (t+1)) (R.xk t i) c (R.vl (t+1))).set i ⟨(aA (R.vl (t+1)) i).1,(aA (R.vl (t+1)) i).2,R.los (aA (R.vl (t+1)) i).1 (aA (R.vl (t+1)) i).2,cS (R.run (t+1)) (aA (R.vl (t+1)) i).1 (aA (R.vl (t+1)) i).2,R.lf (R.run (t+1)) (R.xk t i) (aA (R.vl (t+1)) i),c (aA (R.vl (t+1)) i).1 (aA (R.vl (t+1)) i).2⟩=R.vns (R.run (t+1)) (R.xk t (i+1)) c (R.vl (t+1)):=by
 have h1:=Cs (R:=R) (U:=R.run (t+1)) (U':=R.run (t+1)) (x:=R.xk t i) (x':=R.xk t (i+1)) (c:=c) (c':=c) (hG (t+1)) hi fun q _ hq=>by
  unfold Rg.vn
  rw[II hi hq]
 rw[←h1]
 unfold Rg.vn
 rw[Yu hi]
 unfold Rg.lf
 rw[Vb hi]
 unfold Rg.ex
 rw[if_neg (by omega),if_pos (by omega)]
 unfold Rg.left
 rw[show∀a b:Rat,a-(b+0)=a-b from fun a b=>by grind]
theorem LL:R.ck n 0=fun _ _=>0:=by
 funext y e
 unfold Rg.ck
 simp
theorem VJ {q:Nat×Nat}(hi:i<(R.vl n).length) (h:q≠aA (R.vl n) i):R.ck n (i+1) q.1 q.2=R.ck n i q.1 q.2:=by
 unfold Rg.ck
 have h1:=wL (hG (R:=R) n) hi (q:=q)
 by_cases h2:q∈(R.vl n).take i
 ·rw[if_pos (h1.2 (.inl h2)),if_pos h2]
 rw[if_neg (fun h3=>(h1.1 h3).elim h2 h),if_neg h2]
theorem QK {U:List Ur}{x:Nat→Nat→Rat}:R.vns U x (R.ck n (R.vl n).length) (R.vl n)=R.vns U x (R.cl (R.run n) n) (R.vl n):=by
 refine List.map_congr_left fun q hq=>?_
 unfold Rg.vn Rg.ck
 rw[fF (bC _),if_pos hq]
theorem LM (hi:i<(R.vl n).length):(R.vns (R.run n) (R.ex (R.run n) n) (R.ck n i) (R.vl n)).set i ⟨(aA (R.vl n) i).1,(aA (R.vl n) i).2,R.los (aA (R.vl n) i).1 (aA (R.vl n) i).2,cS (R.run n) (aA (R.vl n) i).1 (aA (R.vl n) i).2,R.ex (R.run n) n (aA (R.vl n) i).1 (aA (R.vl n) i).2,R.lf (R.run n) (R.ex (R.run n) n) (aA (R.vl n) i)⟩=R.vns (R.run n) (R.ex (R.run n) n) (R.ck n (i+1)) (R.vl n):=by
 have h1:=Cs (R:=R) (U:=R.run n) (U':=R.run n) (x:=R.ex (R.run n) n) (x':=R.ex (R.run n) n) (c:=R.ck n i) (c':=R.ck n (i+1)) (hG n) hi fun q _ hq=>by
  unfold Rg.vn
  rw[VJ hi hq]
 rw[←h1]
 unfold Rg.vn
 have h2:R.lf (R.run n) (R.ex (R.run n) n) (aA (R.vl n) i)=R.ck n (i+1) (aA (R.vl n) i).1 (aA (R.vl n) i).2:=by
  unfold Rg.ck
  rw[if_pos ((wL (hG (R:=R) n) hi).2 (.inr rfl))]
  unfold Rg.lf Rg.cl Rg.ex Rg.left
  by_cases h:(aA (R.vl n) i).1+R.f<n
  ·rw[if_pos h,if_neg (by omega)]
   grind
  rw[if_neg h,if_pos (by omega)]
  grind
 rw[h2]
theorem LN:R.rls (R.run t) t++[R.rl (R.run (t+1)) t]=R.rls (R.run (t+1)) (t+1):=by
 unfold Rg.rls
 rw[List.range_succ,List.map_append]
 congr 1
 refine List.map_congr_left fun y hy=>?_
 have hy:=List.mem_range.1 hy
 obtain⟨W,h1,h2⟩:=KU (R:=R) (show t≤t+1 by omega)
 have hz:∀p:Ur→Bool,(∀u∈W,p u=false)→lW (R.run (t+1)) p=lW (R.run t) p:=fun p hp=>by rw[h1,KT,wB hp];grind
 unfold Rg.rl
 congr 1
 ·exact(hz _ fun u hu=>by have:=h2 u hu;exact decide_eq_false (by omega)).symm
 refine List.map_congr_left fun e _=>?_
 exact(hz _ fun u hu=>by have:=h2 u hu;rw[decide_eq_false (by omega)];rfl).symm
theorem LO {R:Rg}{N t i:Nat}(h:R.Ok N) (ht:t<N):(R.fw t i).length≤2000:=by
 have gen:∀(L:List (Nat×Nat)) (V:List Ur),(L.foldl (fun U p=>if R.may t p then R.use U p.1 p.2 t else U) V).length≤V.length+L.length:=by
  intro L
  induction L with
  | nil=>intro V;simp
  | cons q L ih=>
   intro V
   rw[List.foldl_cons,List.length_cons]
   split
   ·have h1:=ih (R.use V q.1 q.2 t)
    have h2:(R.use V q.1 q.2 t).length≤V.length+1:=Fy
    omega
   have h1:=ih V
   omega
 have h1:=gen ((R.vl t).take i) (R.run t)
 have h2:=lK (R:=R) h.e t
 have h3:=sA (R:=R) h (k:=t) (by omega)
 have h4:=h.n
 rw[eA]at h1
 unfold Rg.fw
 omega
end
theorem LP {us:List Ur}{k:Nat}(h:k<us.length):us.take (k+1)=us.take k++[fC us k]:=by rw[List.take_add_one,gA h];rfl
def fO (us:List Ur) (ent:Int):Rat:=lW us fun u=>decide (u.e=ent)
theorem Aq {us:List Ur}{k:Nat}{ent:Int}(h:k<us.length):fO (us.take (k+1)) ent=if(fC us k).e=ent then fO (us.take k) ent+(fC us k).n else fO (us.take k) ent:=by
 unfold fO
 rw[LP h,wM]
 simp only[decide_eq_true_eq]
theorem XR {us:List Ur}{ent:Int}{rw9:List Rl}{vs:List Vn}(hz:∀k,Sz 17179869184 (fO (us.take k) ent)) (hu:∀u∈us,Sz 17179869184 u.n) (hl:us.length≤1073741823):aG false Tryz.prog 15 [] [.agg [.t (dJ false rw9),.t (dG false false vs),.t (dA false false us)],.one (tv (.int .i64 ent))] (aU (qF (.of (fO us ent)))):=by
 refine cC Tryz.func15 rfl Tryz.ntmps15 rfl aB rfl fun N9 w9 c0 h0=>?_
 have h00:((0:Int):Rat)=(fO (us.take 0) ent):=by simp[fO,lW,mR]
 refine sq (rl (bx 0 ?_));refine al 1 ?_;refine nl (sq (rl ?_))
 refine ca (iL (z:=0) (by omega) (by omega)) qN ⟨a1 rfl,rfl⟩ (qF (.of ((0:Int):Rat))) ?_
 refine al 2 ?_;refine st ?_;refine nl (sq (sq (rl (o1 ?_))));refine ld ?_;refine o1 ?_;refine o1 ?_;refine nl (bl ?_)
 refine lp (γ:=Nat) (fun s=>bS [(1,.one (tv (.int .i64 ent))),(4,.one (.pt 0 0)),(5,.one (.pt 1 0)),(10,.one (.t (dA false false us))),(11,.one (tv (.int .i64 ((us.length:Nat):Int)))),(12,.one (tv (.int .i64 ((s:Nat):Int))))]) (fun s=>[(⟨48,0,[tv (.bool false),tv (.slice none 0 0),tv (.bool false),tv (.slice none 0 0)]⟩:Ob),⟨48,0,((Fr4.of (fO (us.take s) ent)).tr false).map .t⟩].map some) (fun s=>s≤us.length) (fun s=>us.length-s) 0 (Nat.zero_le _) (aW h0 [1,2] ⟨oe rfl rfl,aC (congrArg (fun q:Rat=>some (⟨48,0,((Fr4.of q).tr false).map .t⟩:Ob)) h00),rfl⟩) ?_
 rintro k hk;refine sq (rl (o1 ?_));refine nl (sq ?_);refine bL rfl (fun h1=>?_) (fun h1=>?_)
 ·refine sk (sq (bl (sq (rl (o1 ?_)))))
  refine eE ((eM false) (fC us (k))) (bH (f:=(eM false)) (z:=7) (o:=0) (eF false) (gA (by omega)) (bN rfl) rfl) ?_
  refine al 2 ?_;refine st ?_;refine nl (sq (rl (o1 ?_)));refine ld ?_;refine o1 ?_;refine o1 ?_;refine nl ?_;refine bL rfl (fun h2=>?_) (fun h2=>?_)
  ·refine rl (ld ?_);refine o1 ?_;refine ld ?_
   refine ca (Ar (Qn.of (p:=(fO (us.take k) ent)) ((hz k).mono (M:=68719476736) (by omega))) (Qn.of (p:=(fC us (k)).n) ((hu _ (iC (l:=us) (i:=k) (by omega))).mono (M:=68719476736) (by omega)))) Gd ⟨aD rfl,aD rfl,rfl⟩ (qF (.of ((fO (us.take k) ent)+(fC us (k)).n))) ?_
   refine st ?_;refine nl (rl (o1 ?_));refine aZ 24 (k+1) ?_
   refine o1 ?_;refine nl ?_;have hst:((fO (us.take k) ent)+(fC us (k)).n)=(fO (us.take (k+1)) ent):=by rw[Aq (by omega),if_pos h2]
   exact⟨k+1,by omega,by omega,aW h0 [0,1] ⟨oe rfl rfl,aC (congrArg (fun q:Rat=>some (⟨48,0,((Fr4.of q).tr false).map .t⟩:Ob)) hst),rfl⟩⟩
  refine sk (rl (o1 ?_));refine aZ 24 (k+1) ?_
  refine o1 ?_;refine nl ?_;have hst:(fO (us.take k) ent)=(fO (us.take (k+1)) ent):=by rw[Aq (by omega),if_neg h2]
  exact⟨k+1,by omega,by omega,aW h0 [0,1] ⟨oe rfl rfl,aC (congrArg (fun q:Rat=>some (⟨48,0,((Fr4.of q).tr false).map .t⟩:Ob)) hst),rfl⟩⟩
 refine ex (sq (rl (ld ?_)));refine st ?_;refine nl (rt ?_)
 exact en (.inl rfl) rfl (bD (.agg (.cons (.id rfl) (.cons (.id rfl) (.cons (.id rfl) (.cons (.id rfl) .nil)))))) (by decide) (fun h=>by cases h) (by rw[fF (by omega)];rfl)
def eZ (fw:Int) (ys:List Yr):Int:=if decide (fw<0)||(decide (40<fw)|| ys.any fun y=> !gV y (aK ys 0).m.length)then 2 else if 40<ys.length then 3 else 0
theorem EL {fw:Int}{ys:List Yr}(hb:∀y∈ys,(∀a∈y.b,a.ok)∧y.l.ok∧y.b.length≤1073741823) (hl:ys.length≤1073741823) (hno:eZ fw ys≠0):aG false Tryz.prog 12 [] [.one (tv (.int .i64 fw)),.one (.t (kY ys))] (aU (.tup [.agg [.t (dJ true []),.t (dG true false []),.t (dA true false [])],.one (tv (.int .i64 (eZ fw ys)))])):=by
 refine cC Tryz.func12 rfl Tryz.ntmps12 rfl aB rfl fun N9 w9 c0 h0=>?_
 refine sq (rl (al 0 ?_));refine o1 ?_;refine nl (sq (rl (al 1 ?_)));refine st ?_;refine nl ?_
 refine md (γ:=Unit) (fun _=>bS [(0,.one (tv (.int .i64 fw))),(1,.one (.t (kY ys))),(4,.one (.pt 0 0)),(6,.one (.pt 1 0))]) (fun _=>([⟨39,0,[tv (.slice none 0 0),tv (.slice none 0 0),tv (.slice none 0 0)]⟩,⟨3,0,[tv (.int .i64 (((aK ys 0).m.length:Nat):Int))]⟩]:List Ob).map some) (fun _=>True) ?_ fun _ _=>?_
 ·refine sq (rl ?_);(iterate 3 refine o1 ?_);refine nl ?_;refine bL rfl (fun h1=>?_) (fun h1=>?_)
  ·refine rl ?_;(iterate 3 refine o1 ?_);refine eE ([gU (aK ys (0)).m]) (bH (f:=eG) (z:=6) (o:=0) dS (cY (by omega)) (bN rfl) rfl) ?_
   refine o1 ?_;refine st ?_;refine nl ?_;exact⟨(),trivial,aW h0 [0,1] ⟨oe rfl rfl,oe rfl rfl,rfl⟩⟩
  refine sk ?_
  exact⟨(),trivial,aW h0 [0,1] ⟨oe rfl rfl,oe rfl (by have h9:ys=[]:=(List.eq_nil_of_length_eq_zero (by omega));subst h9;rfl),rfl⟩⟩
 refine sq (bl (sq (WP.sub (Il (i:=6) (k:=1) (t:=3) (l:=[.v (.int .i64 (((aK ys 0).m.length:Nat):Int))]) rfl rfl rfl (.one .sl)) ?_)));refine rl ?_
 (iterate 3 refine o1 ?_);refine WL.split (t:=25) rfl (fun h2=>?_) (fun h2=>?_)
 ·refine dL ?_;refine dL ?_;refine o1 ?_;refine o1 ?_;(iterate 3 refine dL ?_);refine o1 ?_;refine o1 ?_;refine nl (jM rfl (sq (rl (o1 ?_))))
  refine st ?_;refine o1 ?_;refine nl (rt ?_)
  exact en (.inl rfl) rfl (rW (.cons (.agg (.cons (.nil (t:=62) (z:=5)) (.cons (.nil (t:=64) (z:=18)) (.cons (.nil (t:=58) (z:=7)) .nil)))) (.cons (cU _) .nil))) (by decide) (fun h=>by cases h) (congrArg (fun z:Int=>FV.tup [.agg [.t (dJ true []),.t (dG true false []),.t (dA true false [])],.one (tv (.int .i64 z))]) (by simp only[eZ,decide_eq_true h2,Bool.not_true,Bool.not_false,Bool.or_true,Bool.true_or,Bool.false_or,Bool.or_false,Bool.false_eq_true,if_true,if_false,ite_true,ite_false,Bool.and_true,Bool.true_and,Bool.false_and,Bool.and_false,Bool.not_not] <;> first | rfl | (simp;done) | (simp;omega)))
 (iterate 4 refine o1 ?_);refine WL.split (t:=29) rfl (fun h3=>?_) (fun h3=>?_)
 ·(iterate 3 refine dL ?_);refine o1 ?_;refine o1 ?_;refine nl (jM rfl (sq (rl (o1 ?_))));refine st ?_;refine o1 ?_;refine nl (rt ?_)
  exact en (.inl rfl) rfl (rW (.cons (.agg (.cons (.nil (t:=62) (z:=5)) (.cons (.nil (t:=64) (z:=18)) (.cons (.nil (t:=58) (z:=7)) .nil)))) (.cons (cU _) .nil))) (by decide) (fun h=>by cases h) (congrArg (fun z:Int=>FV.tup [.agg [.t (dJ true []),.t (dG true false []),.t (dA true false [])],.one (tv (.int .i64 z))]) (by simp only[eZ,decide_eq_false h2,decide_eq_true h3,Bool.not_true,Bool.not_false,Bool.or_true,Bool.true_or,Bool.false_or,Bool.or_false,Bool.false_eq_true,if_true,if_false,ite_true,ite_false,Bool.and_true,Bool.true_and,Bool.false_and,Bool.and_false,Bool.not_not] <;> first | rfl | (simp;done) | (simp;omega)))
 refine o1 ?_;refine o1 ?_
 refine ca (HW (xs:=ys) (dl:=(fun y=> !gV y (aK ys 0).m.length)) (fd:=36) (fst:=[]) (caps:=[.p false 3 [.v (.int .i64 (((aK ys 0).m.length:Nat):Int))]]) QL (fun y hy=>Xz (hb y hy).1 (hb y hy).2.1 (hb y hy).2.2) hl) QM ⟨a1 rfl,a1 rfl,rfl⟩ (.one (tv (.bool (ys.any (fun y=> !gV y (aK ys 0).m.length))))) ?_
 refine o1 ?_;refine o1 ?_;refine nl ?_;refine nC rfl (fun h4=>?_) (fun h4=>?_)
 ·refine sq (rl (o1 ?_));refine st ?_;refine o1 ?_;refine nl (rt ?_)
  exact en (.inl rfl) rfl (rW (.cons (.agg (.cons (.nil (t:=62) (z:=5)) (.cons (.nil (t:=64) (z:=18)) (.cons (.nil (t:=58) (z:=7)) .nil)))) (.cons (cU _) .nil))) (by decide) (fun h=>by cases h) (congrArg (fun z:Int=>FV.tup [.agg [.t (dJ true []),.t (dG true false []),.t (dA true false [])],.one (tv (.int .i64 z))]) (by simp only[eZ,decide_eq_false h2,decide_eq_false h3,h4,Bool.not_true,Bool.not_false,Bool.or_true,Bool.true_or,Bool.false_or,Bool.or_false,Bool.false_eq_true,if_true,if_false,ite_true,ite_false,Bool.and_true,Bool.true_and,Bool.false_and,Bool.and_false,Bool.not_not] <;> first | rfl | (simp;done) | (simp;omega)))
 refine sq (rl ?_);(iterate 4 refine o1 ?_);refine nl ?_;refine bL rfl (fun h5=>?_) (fun h5=>?_)
 ·refine sq (rl (o1 ?_));refine st ?_;refine o1 ?_;refine nl (rt ?_)
  exact en (.inl rfl) rfl (rW (.cons (.agg (.cons (.nil (t:=62) (z:=5)) (.cons (.nil (t:=64) (z:=18)) (.cons (.nil (t:=58) (z:=7)) .nil)))) (.cons (cU _) .nil))) (by decide) (fun h=>by cases h) (congrArg (fun z:Int=>FV.tup [.agg [.t (dJ true []),.t (dG true false []),.t (dA true false [])],.one (tv (.int .i64 z))]) (by simp only[eZ,decide_eq_false h2,decide_eq_false h3,h4,decide_eq_true h5,Bool.not_true,Bool.not_false,Bool.or_true,Bool.true_or,Bool.false_or,Bool.or_false,Bool.false_eq_true,if_true,if_false,ite_true,ite_false,Bool.and_true,Bool.true_and,Bool.false_and,Bool.and_false,Bool.not_not] <;> first | rfl | (simp;done) | (simp;omega)))
 refine sk ?_
 exact absurd (show eZ fw ys=0 by unfold eZ;simp only[decide_eq_false h2,decide_eq_false h3,h4,decide_eq_false h5,Bool.not_true,Bool.not_false,Bool.or_true,Bool.true_or,Bool.false_or,Bool.or_false,Bool.false_eq_true,if_true,if_false,ite_true,ite_false,Bool.and_true,Bool.true_and,Bool.false_and,Bool.and_false,Bool.not_not] <;> first | rfl | (simp;done) | (simp;omega)) hno
end Go.Proofs.YtbbabfkgdnkehaaGreat
