/- Part 10 of a proof: A3 to Vk. -/
import Derived.Test.YtbbabfkgdnkehaaGreatM9
import Derived.Test.YtbbabfkgdnkehaaGreatM7
import Derived.Test.YtbbabfkgdnkehaaGreatM8
set_option maxRecDepth 100000
set_option linter.unusedVariables false
set_option linter.unusedSimpArgs false
namespace Go.Proofs.YtbbabfkgdnkehaaGreat
open Go Go.RowKit
theorem Cd {a:Zi}{k:Int}(ha:Zn a k):aG true Tryz.prog 90 [] [gF a] (aU (.one (tv (.bool (dU a.s a.x))))):=by
 refine cC Tryz.func90 rfl Tryz.ntmps90 rfl aB rfl fun N w c0 h0=>?_
 have hal:=ha.2.1
 refine sq (rl (bx 0 ?_));refine o1 ?_;refine nl (sq (sq (rl (o1 ?_))));refine ld ?_;refine o1 ?_;refine o1 ?_;refine nl ?_
 refine bL rfl (fun h1=>?_) (fun h1=>?_)
 ·refine sq (rl (o1 ?_));refine ld ?_;refine WL.splitb (t:=8) rfl (fun h2=>?_) (fun h2=>?_)
  ·refine o1 ?_;refine o1 ?_;refine nl (rt ?_);refine en (.inl rfl) rfl (bD (cU _)) (by decide) (fun _=>trivial) (congrArg (fun b=>FV.one (tv (.bool b))) ?_)
   rw[nQ (by omega)];simp_all
  refine o1 ?_;refine o1 ?_;refine nl (rt ?_);refine en (.inl rfl) rfl (bD (cU _)) (by decide) (fun _=>trivial) (congrArg (fun b=>FV.one (tv (.bool b))) ?_)
  rw[nQ (by omega)];simp_all
 refine sk (sq (rl (o1 ?_)));refine ld ?_;refine o1 ?_;refine ld ?_;refine o1 ?_;refine o1 ?_
 refine aZ 15 (a.x.length-1) ?_
 refine o1 ?_;refine eE ([.v (.int .u32 ((nth a.x (a.x.length-1):Nat):Int))]) (nR a.x (k:=a.x.length-1) (by omega)) ?_
 refine o1 ?_;refine o1 ?_;refine nl (rt ?_);refine en (.inl rfl) rfl (bD (cU _)) (by decide) (fun _=>trivial) (congrArg (fun b=>FV.one (tv (.bool b))) ?_)
 exact(vY rfl (by omega)).symm
theorem iJ {a:Zi}{k:Int}(ha:Zn a k):aG false Tryz.prog 110 [] [gF a] (aU (kF k)):=by
 refine cC Tryz.func110 rfl Tryz.ntmps110 rfl aB rfl fun N w c0 h0=>?_
 refine sq (rl (bx 0 ?_));refine al 1 ?_;refine nl (sq (sq (rl (ld ?_))))
 refine ca (Cd ha) CF ⟨aD rfl,rfl⟩ (.one (tv (.bool (dU a.s a.x)))) ?_;refine WL.splitb (t:=4) rfl (fun h1=>?_) (fun h1=>?_)
 ·refine o1 ?_;refine nl (gD rfl (sk (sq (rl (ld ?_)))));refine st ?_;refine nl (rt ?_)
  exact en (.inl rfl) rfl (bD (.agg (.read _ (l:=[.v (.bool a.s),sU false a.x]) rfl))) (by decide) (fun h=>by cases h) (CG ha h1)
 refine o1 ?_;refine nl (jM rfl (sq (rl (o1 ?_))));refine st ?_;refine nl (rt ?_)
 exact en (.inl rfl) rfl (bD (.agg (.cons (.id rfl) (.cons .nilf .nil)))) (by decide) (fun h=>by cases h) (by rw[ha.wrong h1];exact Fp)
theorem lQ {b:Bool}{xs:List Nat}{K:Int}(hx:xs.length≤1099511627776) (hl:Lim 4294967296 xs) (hK:cD b (vl 4294967296 xs)=K):aG true Tryz.prog 108 [] [.one (tv (.bool b)),.one (.t (sU false xs))] (aU (kO K)):=by
 refine cC Tryz.func108 rfl Tryz.ntmps108 rfl aB rfl fun N w c0 h0=>?_
 refine sq (rl (al 0 ?_));refine nl (sq (rl (o1 ?_)));refine iM 1 (JZ hx hl) UD ⟨a1 rfl,rfl⟩ ?_;refine o1 ?_;refine nl (sq ?_)
 refine rl (o1 ?_);refine o1 ?_;refine WL.splitb (t:=9) rfl (fun h1=>?_) (fun h1=>?_)
 ·(iterate 6 refine o1 ?_);refine st ?_;refine nl (rt ?_)
  exact en (.inl rfl) rfl (bD (.agg (.cons (.id rfl) (.cons (.sl (trs:=aI (dg 4294967296 (vl 4294967296 xs))) rfl rfl (bP _) (aP _)) .nil)))) (by decide) (fun _=>Fq _ _) (hK▸vZ (by rw[←Do rfl,h1,Bool.true_and];exact decide_eq_decide.2 (by omega)) (jW _ _).symm)
 (iterate 3 refine dL ?_);(iterate 3 refine o1 ?_);refine st ?_;refine nl (rt ?_)
 exact en (.inl rfl) rfl (bD (.agg (.cons (.id rfl) (.cons (.sl (trs:=aI (dg 4294967296 (vl 4294967296 xs))) rfl rfl (bP _) (aP _)) .nil)))) (by decide) (fun _=>Fq _ _) (hK▸vZ (by rw[←Do rfl,h1];rfl) (jW _ _).symm)
theorem zW {n:Int}(h1:-9223372036854775808≤n) (h2:n≤9223372036854775807):aG true Tryz.prog 76 [] [.one (tv (.int .i64 n))] (aU (kO n)):=by
 refine cC Tryz.func76 rfl Tryz.ntmps76 rfl aB rfl fun N w c0 h0=>?_
 obtain⟨hr1,hr2,hq1,hq2,hv1,hv2⟩:=CH h1 h2
 refine sq (rl (al 0 ?_));refine nl (sq (rl ?_));(iterate 3 refine o1 ?_);refine o1 ?_ (hC:=(by exact⟨by omega,by simp only[jD];omega⟩))
 refine o1 ?_;refine o1 ?_;refine nl (sq (rl ?_));(iterate 6 refine o1 ?_)
 refine aZ 14 ((Int.tmod n 4294967296).natAbs) ?_
 refine o1 ?_;refine WL.cast (t:=15) (u':=.int .u32 (((Int.tmod n 4294967296).natAbs:Nat):Int)) rfl (dZ (by omega)) ?_
 (iterate 4 refine o1 ?_);refine aZ 19 ((Int.tdiv n 4294967296).natAbs) ?_
 refine o1 ?_;refine WL.cast (t:=20) (u':=.int .u32 (((Int.tdiv n 4294967296).natAbs:Nat):Int)) rfl (dZ (by omega)) ?_
 refine bs 1 ?_
 refine WL.sub (fzU (i:=21) (zs:=[(Int.tmod n 4294967296).natAbs,(Int.tdiv n 4294967296).natAbs]) (zs':=[(Int.tmod n 4294967296).natAbs,(Int.tdiv n 4294967296).natAbs]) rfl rfl rfl rfl rfl) ?_
 refine iM 2 (lQ (K:=n) (by simp) (Lim.cons (by omega) (Lim.cons (by omega) Lim.nil)) (OM hv1)) dE ⟨a1 rfl,a1 rfl,rfl⟩ ?_
 refine st ?_;refine nl (rt ?_)
 exact en (.inl rfl) rfl (bD (.agg (.cons (.id rfl) (.cons (.sl (trs:=aI (dg 4294967296 (n).natAbs)) rfl rfl (bP _) (aP _)) .nil)))) (by decide) (fun _=>fQ (n)) rfl
theorem Wz {a b:Zi}{k k':Int}(ha:Zn a k) (hb:Zn b k'):aG true Tryz.prog 121 [] [gF a,gF b] (aU (.one (tv (.int .i64 (k-k').sign)))):=by
 refine cC Tryz.func121 rfl Tryz.ntmps121 rfl aB rfl fun N w c0 h0=>?_
 have hkl:=ha.len
 have hkl':=hb.len
 refine sq (rl (bx 0 ?_));refine bx 1 ?_;refine o1 ?_;refine nl (sq (rl (ld ?_)));refine ca (iJ ha) mO ⟨aD rfl,rfl⟩ (kF (k)) ?_
 refine st ?_;refine nl (sq (rl (ld ?_)));refine ca (iJ hb) mO ⟨aD rfl,rfl⟩ (kF (k')) ?_;refine st ?_;refine nl (sq (bl (sq ?_)))
 refine rl (o1 ?_);refine ld ?_;refine o1 ?_;refine WL.splitb (t:=12) rfl (fun h1=>?_) (fun h1=>?_)
 ·refine o1 ?_;refine ld ?_;refine WL.splitb (t:=14) rfl (fun h2=>?_) (fun h2=>?_)
  ·(iterate 3 refine o1 ?_);refine nl (gD rfl (sq (rl (o1 ?_))));refine ld ?_;refine o1 ?_;refine WL.cast (t:=20) rfl (congrArg Value.bool h2) ?_
   refine o1 ?_;refine ld ?_;refine WL.cast (t:=22) rfl (congrArg Value.bool h1) ?_;(iterate 3 refine o1 ?_);refine nl (gD rfl (sq (rl (o1 ?_))))
   refine ld ?_;refine o1 ?_;refine nl ?_;refine jM (congrArg (fun b=>FV.one (tv (.bool b))) h1) ?_
   refine sq (rl (o1 ?_));refine ld ?_;refine o1 ?_;refine ld ?_
   refine ca (Kz (by omega) (aR (by omega) _) (by omega) (aR (by omega) _)) Ui ⟨a1 rfl,a1 rfl,rfl⟩ (.one (tv (.int .i64 (((vl 4294967296 (dg 4294967296 (k').natAbs):Nat):Int)-((vl 4294967296 (dg 4294967296 (k).natAbs):Nat):Int)).sign))) ?_
   refine o1 ?_;refine nl (rt ?_);refine en (.inl rfl) rfl (bD (cU _)) (by decide) (fun _=>trivial) (congrArg (fun z=>FV.one (tv (.int .i64 z))) ?_)
   rw[bU,bU];exact KA h1 h2
  (iterate 3 refine o1 ?_);refine nl (jM rfl (sq (rl (o1 ?_))));refine nl (rt ?_)
  refine en (.inl rfl) rfl (bD (cU _)) (by decide) (fun _=>trivial) (congrArg (fun z=>FV.one (tv (.int .i64 z))) ?_)
  exact KB h1 h2
 (iterate 3 refine dL ?_);refine o1 ?_;refine o1 ?_;refine nl (gD rfl (sq (rl (o1 ?_))));refine ld ?_;refine o1 ?_
 refine WL.splitb (t:=20) rfl (fun h3=>?_) (fun h3=>?_)
 ·refine o1 ?_;refine ld ?_;refine WL.cast (t:=22) rfl (congrArg Value.bool h1) ?_;(iterate 3 refine o1 ?_);refine nl (jM rfl (sq (rl (o1 ?_))))
  refine nl (rt ?_);refine en (.inl rfl) rfl (bD (cU _)) (by decide) (fun _=>trivial) (congrArg (fun z=>FV.one (tv (.int .i64 z))) ?_)
  exact KC h1 h3
 (iterate 3 refine dL ?_);refine o1 ?_;refine o1 ?_;refine nl (gD rfl (sq (rl (o1 ?_))));refine ld ?_;refine o1 ?_;refine nl ?_
 refine gD (congrArg (fun b=>FV.one (tv (.bool b))) h1) ?_
 refine sk (sq (rl (o1 ?_)));refine ld ?_;refine o1 ?_;refine ld ?_
 refine ca (Kz (by omega) (aR (by omega) _) (by omega) (aR (by omega) _)) Ui ⟨a1 rfl,a1 rfl,rfl⟩ (.one (tv (.int .i64 (((vl 4294967296 (dg 4294967296 (k).natAbs):Nat):Int)-((vl 4294967296 (dg 4294967296 (k').natAbs):Nat):Int)).sign))) ?_
 refine o1 ?_;refine nl (rt ?_);refine en (.inl rfl) rfl (bD (cU _)) (by decide) (fun _=>trivial) (congrArg (fun z=>FV.one (tv (.int .i64 z))) ?_)
 rw[bU,bU];exact KD h1 h3
theorem pA {a:Zi}{k:Int}(ha:Zn a k):aG true Tryz.prog 91 [] [gF a] (aU (.one (tv (.int .i64 k.sign)))):=by
 refine cC Tryz.func91 rfl Tryz.ntmps91 rfl aB rfl fun N w c0 h0=>?_
 have hkl:=ha.len
 refine sq (rl (bx 0 ?_));refine o1 ?_;refine nl (sq (rl (ld ?_)));refine o1 ?_
 refine ca (Wz ha zn0) HD ⟨aD rfl,oV rfl (.cons .t (.cons .nil .nil)),rfl⟩ (.one (tv (.int .i64 ((k)-(0)).sign))) ?_;refine o1 ?_;refine nl (rt ?_)
 exact en (.inl rfl) rfl (bD (cU _)) (by decide) (fun _=>trivial) (congrArg (fun z=>FV.one (tv (.int .i64 z))) (by rw[Int.sub_zero]))
theorem Dp {a:Zi}{k:Int}(ha:Zn a k):aG true Tryz.prog 95 [] [gF a] (aU (kO (-k))):=by
 refine cC Tryz.func95 rfl Tryz.ntmps95 rfl aB rfl fun N w c0 h0=>?_
 have hkl:=ha.len
 refine sq (rl (bx 0 ?_));refine al 1 ?_;refine nl (sq ?_);refine rd [0,1] (fun i=>[8].contains i) mixed ?_
 refine aO 0 ?_;refine aO 4 ?_;refine aX 1 rfl (iJ ha) mO ⟨aD rfl,rfl⟩ (kF (k)) ?_;refine df 2 ?_;refine df 3 ?_;refine aX 5 rfl (iJ ha) mO ⟨aD rfl,rfl⟩ (kF (k)) ?_
 refine df 6 ?_;refine jX 2 7 rfl (lQ (K:=-k) (by omega) (aR (by omega) _) (by rw[bU];exact Ql k)) dE ⟨a1 rfl,a1 rfl,rfl⟩ ?_
 refine dst 8 ?_;refine aV ?_;refine rt ?_
 exact en (.inl rfl) rfl (bD (.agg (.cons (.id rfl) (.cons (.sl (trs:=aI (dg 4294967296 (-k).natAbs)) rfl rfl (bP _) (aP _)) .nil)))) (by decide) (fun _=>fQ (-k)) rfl
theorem uH {a b:Zi}{k k':Int}(ha:Zn a k) (hb:Zn b k'):aG true Tryz.prog 79 [] [gF a,gF b] (aU (kO (k+k'))):=by
 refine cC Tryz.func79 rfl Tryz.ntmps79 rfl aB rfl fun N w c0 h0=>?_
 have hkl:=ha.len
 have hkl':=hb.len
 refine sq (rl (bx 0 ?_));refine bx 1 ?_;refine al 2 ?_;refine nl (sq (rl (ld ?_)));refine ca (iJ ha) mO ⟨aD rfl,rfl⟩ (kF (k)) ?_
 refine st ?_;refine nl (sq (rl (ld ?_)));refine ca (iJ hb) mO ⟨aD rfl,rfl⟩ (kF (k')) ?_;refine st ?_;refine nl (sq (sq (rl ?_)))
 refine o1 ?_;refine ld ?_;refine o1 ?_;refine ld ?_;refine o1 ?_;refine nl ?_;refine nC rfl (fun h1=>?_) (fun h1=>?_)
 ·refine sq ?_;refine rd [0,1,2] (fun i=>[8].contains i) mixed ?_
  refine dv 0 ?_;refine aO 1 ?_;refine dv 2 ?_;refine aO 3 ?_;refine dv 4 ?_;refine aO 5 ?_
  have hn2:=Fs (xs:=(dg 4294967296 (k).natAbs)) (ys:=(dg 4294967296 (k').natAbs)) (aR (by omega) _) (aR (by omega) _)
  refine aX 6 rfl (ON (by omega) (aR (by omega) _) (by omega) (aR (by omega) _)) UE ⟨a1 rfl,a1 rfl,rfl⟩ (.one (.t (sU false (dg 4294967296 (vl 4294967296 (dg 4294967296 (k).natAbs)+vl 4294967296 (dg 4294967296 (k').natAbs)))))) ?_
  refine jX 3 7 rfl (lQ (K:=k+k') (by omega) (aR (by omega) _) (by simp only[cM (B:=4294967296) (by omega)];exact Ig rfl (eq_of_beq h1))) dE ⟨a1 rfl,a1 rfl,rfl⟩ ?_
  refine dst 8 ?_;refine aV ?_;refine rt ?_
  exact en (.inl rfl) rfl (bD (.agg (.cons (.id rfl) (.cons (.sl (trs:=aI (dg 4294967296 (k+k').natAbs)) rfl rfl (bP _) (aP _)) .nil)))) (by decide) (fun _=>fQ (k+k')) rfl
 refine sk (sq (rl (o1 ?_)));refine ld ?_;refine o1 ?_;refine ld ?_
 have hn3:=Qm (xs:=(dg 4294967296 (k).natAbs)) (ys:=(dg 4294967296 (k').natAbs)) (aR (by omega) _)
 refine ca (Xa (by omega) (aR (by omega) _) (by omega) (aR (by omega) _)) HE ⟨a1 rfl,a1 rfl,rfl⟩ (.tup [.one (.t (sU false (dg 4294967296 (vl 4294967296 (dg 4294967296 (k).natAbs)-vl 4294967296 (dg 4294967296 (k').natAbs))))),.one (tv (.int .i64 (if vl 4294967296 (dg 4294967296 (k).natAbs)<vl 4294967296 (dg 4294967296 (k').natAbs)then 2 else 0)))]) ?_
 (iterate 5 refine o1 ?_);refine nl (sq (sq (rl (o1 ?_))));refine o1 ?_;refine nl ?_;refine bL rfl (fun h4=>?_) (fun h4=>?_)
 ·refine sq (rl (o1 ?_));refine ld ?_;refine o1 ?_
  refine iM 3 (lQ (K:=k+k') (by omega) (aR (by omega) _) (by simp only[cM (B:=4294967296) (by omega)];exact Qo rfl (ne_of_beq_false h1) (fun h8=>by rw[bU,bU,if_pos h8]at h4;omega))) dE ⟨a1 rfl,a1 rfl,rfl⟩ ?_
  refine st ?_;refine nl (rt ?_)
  exact en (.inl rfl) rfl (bD (.agg (.cons (.id rfl) (.cons (.sl (trs:=aI (dg 4294967296 (k+k').natAbs)) rfl rfl (bP _) (aP _)) .nil)))) (by decide) (fun _=>fQ (k+k')) rfl
 refine sk (sq (rl (o1 ?_)));refine ld ?_;refine o1 ?_;refine ld ?_
 have hn5:=Qm (xs:=(dg 4294967296 (k').natAbs)) (ys:=(dg 4294967296 (k).natAbs)) (aR (by omega) _)
 refine ca (Xa (by omega) (aR (by omega) _) (by omega) (aR (by omega) _)) HE ⟨a1 rfl,a1 rfl,rfl⟩ (.tup [.one (.t (sU false (dg 4294967296 (vl 4294967296 (dg 4294967296 (k').natAbs)-vl 4294967296 (dg 4294967296 (k).natAbs))))),.one (tv (.int .i64 (if vl 4294967296 (dg 4294967296 (k').natAbs)<vl 4294967296 (dg 4294967296 (k).natAbs)then 2 else 0)))]) ?_
 (iterate 4 refine o1 ?_);refine nl (sq (rl (o1 ?_)));refine ld ?_;refine o1 ?_
 refine iM 3 (lQ (K:=k+k') (by omega) (aR (by omega) _) (by simp only[cM (B:=4294967296) (by omega)];exact Qp rfl (ne_of_beq_false h1) (Decidable.byContradiction fun h8=>h4 (by rw[bU,bU,if_neg h8])))) dE ⟨a1 rfl,a1 rfl,rfl⟩ ?_
 refine st ?_;refine nl (rt ?_)
 exact en (.inl rfl) rfl (bD (.agg (.cons (.id rfl) (.cons (.sl (trs:=aI (dg 4294967296 (k+k').natAbs)) rfl rfl (bP _) (aP _)) .nil)))) (by decide) (fun _=>fQ (k+k')) rfl
theorem OO {a b:Zi}{k k':Int}(ha:Zn a k) (hb:Zn b k'):aG true Tryz.prog 133 [] [gF a,gF b] (aU (kO (k-k'))):=by
 refine cC Tryz.func133 rfl Tryz.ntmps133 rfl aB rfl fun N w c0 h0=>?_
 have hkl:=ha.len
 have hkl':=hb.len
 refine sq (rl (bx 0 ?_));refine bx 1 ?_;refine al 2 ?_;refine nl (sq ?_);refine rd [0,1,2] (fun i=>[4].contains i) mixed ?_
 refine aO 0 ?_;refine aO 1 ?_;have hn1:=lC (k')
 refine aX 2 rfl (Dp hb) Uj ⟨aD rfl,rfl⟩ (kF (-k')) ?_;refine jX 3 3 rfl (uH ha (Zn.of (k:=-k') (by omega))) Ft ⟨aD rfl,aD rfl,rfl⟩ ?_
 refine dst 4 ?_;refine aV ?_;refine rt ?_
 exact en (.inl rfl) rfl (bD (.agg (.cons (.id rfl) (.cons (.sl (trs:=aI (dg 4294967296 (k+-k').natAbs)) rfl rfl (bP _) (aP _)) .nil)))) (by decide) (fun _=>fQ (k+-k')) rfl
theorem Dq {xs:List Nat}(hx:xs.length≤4398046511104):aG false Tryz.prog 138 [] [.one (.t (sI false xs))] (aU (.one (.t (sI false (trim xs))))):=by
 refine cC Tryz.func138 rfl Tryz.ntmps138 rfl aB rfl fun N w c0 h0=>?_
 refine sq (rl (o1 ?_));refine nl (sq (bl ?_))
 refine lp (γ:=List Nat) (fun zs=>bS [(0,.one (.t (sI false zs)))]) (fun _=>([]:List Ob).map some) (fun zs=>trim zs=trim xs∧zs.length≤xs.length) (fun zs=>zs.length) xs ⟨rfl,bC _⟩ (aW h0 [] rfl) fun zs hz=>?_
 refine sq (sq (rl ?_));(iterate 4 refine o1 ?_);refine WL.split (t:=6) rfl (fun h1=>?_) (fun h1=>?_)
 ·(iterate 4 refine o1 ?_);refine aZ 10 (zs.length-1) ?_
  refine o1 ?_;refine eE ([.v (.int .i64 ((nth zs (zs.length-1):Nat):Int))]) (gJ zs (k:=zs.length-1) (by omega)) ?_
  refine o1 ?_;refine o1 ?_;refine nl ?_;refine bL rfl (fun h2=>?_) (fun h2=>?_)
  ·refine sk (bl (rl ?_));(iterate 4 refine o1 ?_);refine aZ 18 (zs.length-1) ?_
   refine o1 ?_;refine o1 ?_;refine nl ?_
   exact⟨zs.take (zs.length-1),by rw[eA];omega,⟨(by rw[yB (xs:=zs) (k:=zs.length) (by omega) (bC _) (by omega),List.take_length];exact hz.1),by rw[eA];omega⟩,kM h0 [] _ _ (by decide) ⟨congrArg some (Xb (by omega)).symm,trivial⟩ rfl⟩
  refine ex (sq (rl (o1 ?_)));refine o1 ?_;refine nl (rt ?_);refine en (.inl rfl) rfl (bD (.one (.id rfl))) (by decide) (fun h=>by cases h) ?_
  have hx:trim xs=zs:=by
   rw[←hz.1];have h9:=sY (xs:=zs) (k:=zs.length) (by omega) (bC _) (by omega)
   rwa[List.take_length]at h9
  rw[hx];rfl
 (iterate 7 refine dL ?_);refine o1 ?_;refine nl (gD rfl (ex (sq (rl (o1 ?_)))));refine o1 ?_;refine nl (rt ?_)
 refine en (.inl rfl) rfl (bD (.one (.id rfl))) (by decide) (fun h=>by cases h) ?_
 have hx:trim xs=zs:=by
  have h9:zs=[]:=List.eq_nil_of_length_eq_zero (by omega)
  rw[←hz.1,h9];rfl
 rw[hx];rfl
theorem nD {xs:List Nat}(hx:xs.length≤1099511627776) (hl:Lim 4294967296 xs):aG false Tryz.prog 115 [] [.one (.t (sU false xs))] (aU (.one (.t (sI false (dg 65536 (vl 4294967296 xs)))))):=by
 refine cC Tryz.func115 rfl Tryz.ntmps115 rfl aB rfl fun N w c0 h0=>?_
 refine sq (rl (o1 ?_));refine nl (sq (rl (o1 ?_)));refine nl (sq (sq (rl (o1 ?_))));refine nl (bl ?_)
 refine lp (γ:=Nat) (fun k=>bS [(0,.one (.t (sU false xs))),(3,.one (.sl 0 0 (2*k))),(4,.one (tv (.int .i64 ((k:Nat):Int))))]) (fun k=>[(⟨3,1,(fH (hv (xs.take k))).map .t⟩:Ob)].map some) (fun k=>k≤xs.length) (fun k=>xs.length-k) 0 (Nat.zero_le _) ((nr (i:=3) 0 3 1 rfl rfl rfl rfl).trans (aW h0 [0] ⟨aC (l:=[]) rfl,rfl⟩)) fun k hk=>?_
 have hn:=hl.nth (by omega) k
 refine sq (sq (rl ?_));(iterate 4 refine o1 ?_);refine nl ?_;refine bL rfl (fun h1=>?_) (fun h1=>?_)
 ·refine sk (sq (bl ?_));refine rd [] (fun i=>[15].contains i) mixed ?_
  refine dv 0 ?_;refine dv 1 ?_;refine dv 2 ?_;refine dv 3 ?_;refine fM 4 ([.v (.int .u32 ((nth xs (k):Nat):Int))]) (nR xs (k:=k) (by omega)) ?_
  refine dv 5 ?_;refine WD.cast (t:=16) (u':=.int .u32 ((nth xs k%65536:Nat):Int)) rfl (dZ (lR _ 65536)) ?_;refine dv 6 ?_;refine dv 7 ?_;refine dv 8 ?_;refine dv 9 ?_
  refine fM 10 ([.v (.int .u32 ((nth xs (k):Nat):Int))]) (nR xs (k:=k) (by omega)) ?_
  refine dv 11 ?_ (hC:=(iT 65536 (by omega) (by simp only[jD];omega)))
  refine WD.cast (t:=22) (u':=.int .u32 ((nth xs k/65536:Nat):Int)) rfl (dZ (gR _ 65536)) ?_;refine dv 12 ?_;refine iU (key:=1) 13 (by kernel_rfl) rfl rfl aB rfl trivial ?_
  refine HF (j:=2) 14 rfl aB rfl rfl rfl (.sl rfl (by rw[dF,iV,rV,eA];omega)) (.sl rfl rfl rfl) rfl rfl (by omega) (by omega) rfl rfl (by kernel_rfl) rfl ?_
  refine eQ 15 (by kernel_rfl) rfl rfl aB rfl (by trivial) ?_ (fun h=>by first | rfl | cases h)
  refine aV ?_;refine rl ?_;(iterate 3 refine o1 ?_);refine nl ?_
  exact⟨k+1,by omega,by omega,aW h0 [2] ⟨nS rfl (iW _ [nth xs k%65536,nth xs k/65536]) (Qq (by omega)).symm,rfl⟩⟩
 refine ex (sq (rl (WL.sub (Bn (i:=3) (zs':=hv xs) rfl rfl rfl (by rw[rV,eA];omega) (by rw[fF (by omega)])) ?_)))
 refine o1 ?_;refine ca (Dq (by rw[rV];omega)) Dr ⟨a1 rfl,rfl⟩ (.one (.t (sI false (trim (hv xs))))) ?_
 refine o1 ?_;refine nl (rt ?_);exact en (.inl rfl) rfl (bD (.one (.id rfl))) (by decide) (fun h=>by cases h) (by rw[HH hl];rfl)
theorem wA {xs zs:List Nat}(hx:xs.length≤4398046511104) (hl:Lim 65536 xs) (hz:lb xs=zs):aG true Tryz.prog 113 [] [.one (.t (sI false xs))] (aU (.one (.t (sU true zs)))):=by
 refine cC Tryz.func113 rfl Tryz.ntmps113 rfl aB rfl fun N w c0 h0=>?_
 refine sq (rl (o1 ?_));refine nl (sq (rl ?_));(iterate 3 refine o1 ?_)
 refine aZ 7 (xs.length+1) ?_
 refine o1 ?_ (hC:=(iT 2 (by omega) (by simp only[jD];omega)))
 refine WL.cast (t:=8) (u':=.int .i64 (((xs.length+1)/2:Nat):Int)) rfl (dZ (gR _ 2)) ?_;refine mk (m:=(xs.length+1)/2) 0 (by omega) (CI _) ?_
 refine o1 ?_;refine nl (sq (sq (rl (o1 ?_))));refine nl (bl ?_)
 refine lp (γ:=Nat) (fun k=>bS [(0,.one (.t (sI false xs))),(3,.one (.sl 0 0 ((xs.length+1)/2))),(4,.one (tv (.int .i64 ((k:Nat):Int))))]) (fun k=>[(⟨113,1,(aI (lD xs k ((xs.length+1)/2))).map .t⟩:Ob)].map some) (fun k=>k≤xs.length) (fun k=>xs.length-k) 0 (Nat.zero_le _) (aW h0 [0] ⟨Xc rfl rfl CJ.symm,rfl⟩) fun k hk=>?_
 have hn:=hl.nth (by omega) k
 have hln:=KE (l:=xs) (k:=k) (N:=(xs.length+1)/2) rfl hk
 refine sq (sq (rl ?_));(iterate 4 refine o1 ?_);refine nl ?_;refine bL rfl (fun h1=>?_) (fun h1=>?_)
 ·refine sk (sq (bl (sq (rl (o1 ?_)))));refine o1 ?_;refine WL.cast (t:=17) (u':=.int .i64 ((k%2:Nat):Int)) rfl (dZ (lR _ 2)) ?_
  refine o1 ?_;refine nl ?_;refine bL rfl (fun h2=>?_) (fun h2=>?_)
  ·refine rl (o1 ?_);refine o1 ?_;refine o1 ?_ (hC:=(iT 2 (by omega) (by simp only[jD];omega)))
   refine WL.cast (t:=21) (u':=.int .i64 ((k/2:Nat):Int)) rfl (dZ (gR _ 2)) ?_;(iterate 3 refine o1 ?_)
   refine eE ([.v (.int .i64 ((nth xs (k):Nat):Int))]) (gJ xs (k:=k) (by omega)) ?_
   refine o1 ?_;refine WL.cast (t:=26) (u':=.int .u32 ((nth xs k:Nat):Int)) rfl (dZ rfl) ?_;refine o1 ?_
   refine uI (zX (lD xs k ((xs.length+1)/2)) (k:=k/2) (v:=nth xs k) (by omega)) (Ds (lD xs k ((xs.length+1)/2)) (by omega)) ?_
   refine nl (rl (o1 ?_));refine o1 ?_;refine aZ 15 (k+1) ?_
   refine o1 ?_;refine nl ?_;exact⟨k+1,by omega,by omega,aW h0 [0] ⟨Xc rfl rfl (CK rfl (by omega) (by omega)),rfl⟩⟩
  have hnt:=Bo (l:=xs) (k:=k) (N:=(xs.length+1)/2) rfl (by omega) (by omega)
  have hb1:=hl.nth (by omega) (k-1)
  refine rd [0] (fun i=>[16].contains i) mixed ?_
  refine dv 0 ?_;refine dv 1 ?_;refine dv 2 ?_ (hC:=(iT 2 (by omega) (by simp only[jD];omega)))
  refine WD.cast (t:=30) (u':=.int .i64 ((k/2:Nat):Int)) rfl (dZ (gR _ 2)) ?_;refine dv 3 ?_;refine dv 4 ?_
  refine dv 5 ?_ (hC:=(iT 2 (by omega) (by simp only[jD];omega)))
  refine WD.cast (t:=33) (u':=.int .i64 ((k/2:Nat):Int)) rfl (dZ (gR _ 2)) ?_;refine dv 6 ?_;refine La 7 (OP (lD xs k ((xs.length+1)/2)) (k:=k/2) (by omega)) ?_
  refine dv 8 ?_;refine dv 9 ?_;refine dv 10 ?_;refine fM 11 ([.v (.int .i64 ((nth xs (k):Nat):Int))]) (gJ xs (k:=k) (by omega)) ?_
  refine dv 12 ?_;refine dv 13 ?_;refine dv 14 ?_
  refine WD.cast (t:=42) (u':=.int .u32 ((nth (lD xs k ((xs.length+1)/2)) (k/2)+65536*nth xs k:Nat):Int)) rfl (dZ (by omega)) ?_
  refine dv 15 ?_
  refine lX 16 (zX (lD xs k ((xs.length+1)/2)) (k:=k/2) (v:=nth (lD xs k ((xs.length+1)/2)) (k/2)+65536*nth xs k) (by omega)) (Ds (lD xs k ((xs.length+1)/2)) (by omega)) ?_
  refine aV ?_;refine rl (o1 ?_);refine o1 ?_;refine aZ 15 (k+1) ?_
  refine o1 ?_;refine nl ?_;exact⟨k+1,by omega,by omega,aW h0 [0] ⟨Xc rfl rfl (KF rfl (by omega) (by omega)),rfl⟩⟩
 refine ex (sq (rl (o1 ?_)));refine o1 ?_;refine nl (rt ?_)
 exact en (.inl rfl) rfl (bD (.one (.sl (trs:=aI (lb xs)) rfl rfl (by rw[KG rfl (by omega),Nat.mul_one,fF (by simp[gE,jN])]) (by simp[gE,jN])))) (by decide) (fun _=>.inl ⟨rfl,fT _⟩) (by subst hz;unfold sU;rw[jN];rfl)
theorem Lb {xs ys:List Nat}(hx:xs.length≤1099511627776) (hy:ys.length≤1099511627776) (hlx:Lim 65536 xs) (hly:Lim 65536 ys):aG false Tryz.prog 114 [] [.one (.t (sI false xs)),.one (.t (sI false ys))] (aU (.one (.t (sI false (dg 65536 (vl 65536 xs*vl 65536 ys)))))):=by
 refine cC Tryz.func114 rfl Tryz.ntmps114 rfl aB rfl fun N w c0 h0=>?_
 refine sq (rl (o1 ?_));refine nl (sq (rl ?_));(iterate 5 refine o1 ?_)
 refine aZ 14 (xs.length+ys.length) ?_
 refine o1 ?_;refine aZ 15 (xs.length+ys.length+1) ?_
 refine mk (m:=xs.length+ys.length+1) 0 (by omega) (Lc _) ?_
 refine o1 ?_;refine nl (sq (sq (rl (o1 ?_))));refine nl (bl ?_)
 refine lp (γ:=Nat×List Nat) (fun s=>bS [(0,.one (.t (sI false xs))),(1,.one (.t (sI false ys))),(5,.one (.sl 0 0 (xs.length+ys.length+1))),(6,.one (tv (.int .i64 ((s.1:Nat):Int))))]) (fun s=>[(⟨3,1,(fH s.2).map .t⟩:Ob)].map some) (fun s=>s.1≤xs.length∧Lim 65536 s.2∧s.2.length=xs.length+ys.length+1∧vl 65536 s.2=vl 65536 (xs.take s.1)*vl 65536 ys) (fun s=>xs.length-s.1) (0,List.replicate (xs.length+ys.length+1) 0) ⟨Nat.zero_le _,Lim.replicate (by omega) _,List.length_replicate,by rw[xZ];simp[vl]⟩ (aW h0 [0] ⟨nS rfl rfl rfl,rfl⟩) ?_
 rintro⟨i,os⟩ ⟨hi,hol,hos,hv⟩;dsimp only at hi hol hos hv⊢;refine sq (sq (rl ?_));(iterate 4 refine o1 ?_);refine nl ?_;refine bL rfl (fun h1=>?_) (fun h1=>?_)
 ·refine sk (sq (bl (sq (rl (o1 ?_)))));refine nl (sq (rl (o1 ?_)));refine nl (bl ?_)
  have hil:=hlx.nth (by omega) i
  refine lp (γ:=Nat×Nat×List Nat) (fun s=>bS [(0,.one (.t (sI false xs))),(1,.one (.t (sI false ys))),(5,.one (.sl 0 0 (xs.length+ys.length+1))),(6,.one (tv (.int .i64 ((i:Nat):Int)))),(7,.one (tv (.int .i64 ((s.2.1:Nat):Int)))),(8,.one (tv (.int .i64 ((s.1:Nat):Int))))]) (fun s=>[(⟨3,1,(fH s.2.2).map .t⟩:Ob)].map some) (fun s=>s.1≤ys.length+1∧Lim 65536 s.2.2∧s.2.2.length=xs.length+ys.length+1∧vl 65536 s.2.2+65536^(i+s.1)*s.2.1=vl 65536 (xs.take i)*vl 65536 ys+65536^i*(nth xs i*vl 65536 (ys.take s.1))∧s.2.1≤65535) (fun s=>ys.length+1-s.1) (0,0,os) ⟨Nat.zero_le _,hol,hos,by dsimp only;rw[hv];simp[vl],Nat.zero_le _⟩ (aW h0 [0] ⟨nS rfl rfl rfl,rfl⟩) ?_
  rintro⟨k,cr,os2⟩ ⟨hk,hol2,hos2,hv2,hcb⟩;dsimp only at hk hol2 hos2 hv2 hcb⊢;refine sq (sq (rl ?_));(iterate 5 refine o1 ?_)
  refine WL.split (t:=27) rfl (fun h2=>?_) (fun h2=>?_)
  ·refine dL ?_;refine dL ?_;refine o1 ?_;refine nl (jM rfl (sk (sq (bl (sq ?_)))))
   have hkl:k≤ys.length:=by first | omega | exact Ld hlx hly (by omega) hk hv2 (by omega)
   have hon:=hol2.nth (by omega) (i+k)
   have hyn:=hly.nth (by omega) k
   have hmul:=Nat.mul_le_mul (Nat.le_of_lt_succ hil) (Nat.le_of_lt_succ hyn)
   refine rl ?_;(iterate 4 refine o1 ?_);refine aZ 36 (i+k) ?_
   refine o1 ?_;refine Bp (Le os2 (k:=i+k) (by omega)) ?_
   refine o1 ?_;refine o1 ?_;refine aZ 40 (nth os2 (i+k)+cr) ?_
   refine o1 ?_;refine nl (sq (sq (rl ?_)));(iterate 4 refine o1 ?_);refine nl ?_;refine bL rfl (fun h3=>?_) (fun h3=>?_)
   ·refine rd [] (fun i=>[11].contains i) mixed ?_
    refine dv 0 ?_;refine dv 1 ?_;refine dv 2 ?_;refine dv 3 ?_;refine fM 4 ([.v (.int .i64 ((nth xs (i):Nat):Int))]) (gJ xs (k:=i) (by omega)) ?_
    refine dv 5 ?_;refine dv 6 ?_;refine dv 7 ?_;refine fM 8 ([.v (.int .i64 ((nth ys (k):Nat):Int))]) (gJ ys (k:=k) (by omega)) ?_
    refine dv 9 ?_;refine WD.cast (t:=54) (u':=.int .i64 ((nth xs i*nth ys k:Nat):Int)) rfl (dZ (Int.natCast_mul _ _).symm) ?_;refine dv 10 ?_
    refine oW 55 (nth os2 (i+k)+cr+nth xs i*nth ys k) ?_
    refine eQ 11 (by kernel_rfl) rfl rfl aB rfl (by trivial) ?_ (fun h=>by first | rfl | cases h)
    refine aV ?_;refine sq (rl ?_);(iterate 4 refine o1 ?_);refine aZ 59 (i+k) ?_
    refine o1 ?_;refine o1 ?_;refine WL.cast (t:=61) (u':=.int .i64 (((nth os2 (i+k)+cr+nth xs i*nth ys k)%65536:Nat):Int)) rfl (dZ (lR _ 65536)) ?_;refine o1 ?_
    refine uI (uJ os2 (k:=i+k) (v:=(nth os2 (i+k)+cr+nth xs i*nth ys k)%65536) (by omega)) (yG os2 (by omega)) ?_
    refine nl (rl (o1 ?_));refine o1 ?_ (hC:=(iT 65536 (by omega) (by simp only[jD];omega)))
    refine WL.cast (t:=64) (u':=.int .i64 (((nth os2 (i+k)+cr+nth xs i*nth ys k)/65536:Nat):Int)) rfl (dZ (gR _ 65536)) ?_;refine o1 ?_;refine nl (rl ?_)
    refine o1 ?_;refine o1 ?_;refine aZ 32 (k+1) ?_
    refine o1 ?_;refine nl ?_;have hst:=qZ (x:=nth os2 (i+k)+cr+nth xs i*nth ys k) (by omega) hv2 (by rfl)
    exact⟨(k+1,(nth os2 (i+k)+cr+nth xs i*nth ys k)/65536,os2.set (i+k) ((nth os2 (i+k)+cr+nth xs i*nth ys k)%65536)),by dsimp only;omega,⟨by dsimp only;omega,hol2.set _ (Nat.mod_lt _ (by omega)),by rw[List.length_set];exact hos2,hst,by dsimp only;omega⟩,aW h0 [0] ⟨nS rfl rfl rfl,rfl⟩⟩
   refine sk (sq (rl ?_));(iterate 4 refine o1 ?_);refine aZ 59 (i+k) ?_
   refine o1 ?_;refine o1 ?_;refine WL.cast (t:=61) (u':=.int .i64 (((nth os2 (i+k)+cr)%65536:Nat):Int)) rfl (dZ (lR _ 65536)) ?_;refine o1 ?_
   refine uI (uJ os2 (k:=i+k) (v:=(nth os2 (i+k)+cr)%65536) (by omega)) (yG os2 (by omega)) ?_
   refine nl (rl (o1 ?_));refine o1 ?_ (hC:=(iT 65536 (by omega) (by simp only[jD];omega)))
   refine WL.cast (t:=64) (u':=.int .i64 (((nth os2 (i+k)+cr)/65536:Nat):Int)) rfl (dZ (gR _ 65536)) ?_;refine o1 ?_;refine nl (rl (o1 ?_));refine o1 ?_
   refine aZ 32 (k+1) ?_
   refine o1 ?_;refine nl ?_;have hny:nth ys k=0:=fN (by omega)
   have hst:=qZ (x:=nth os2 (i+k)+cr) (by omega) hv2 (by rw[hny,Nat.mul_zero,Nat.add_zero])
   exact⟨(k+1,(nth os2 (i+k)+cr)/65536,os2.set (i+k) ((nth os2 (i+k)+cr)%65536)),by dsimp only;omega,⟨by dsimp only;omega,hol2.set _ (Nat.mod_lt _ (by omega)),by rw[List.length_set];exact hos2,hst,by dsimp only;omega⟩,aW h0 [0] ⟨nS rfl rfl rfl,rfl⟩⟩
  (iterate 3 refine o1 ?_);refine nl ?_;refine bL rfl (fun h4=>?_) (fun h4=>?_)
  ·refine sk (sq (bl (sq ?_)));have hkl:k≤ys.length:=by first | omega | exact Ld hlx hly (by omega) hk hv2 (by omega)
   have hon:=hol2.nth (by omega) (i+k)
   have hyn:=hly.nth (by omega) k
   have hmul:=Nat.mul_le_mul (Nat.le_of_lt_succ hil) (Nat.le_of_lt_succ hyn)
   refine rl ?_;(iterate 4 refine o1 ?_);refine aZ 36 (i+k) ?_
   refine o1 ?_;refine Bp (Le os2 (k:=i+k) (by omega)) ?_
   refine o1 ?_;refine o1 ?_;refine aZ 40 (nth os2 (i+k)+cr) ?_
   refine o1 ?_;refine nl (sq (sq (rl ?_)));(iterate 4 refine o1 ?_);refine nl ?_;refine bL rfl (fun h5=>?_) (fun h5=>?_)
   ·refine rd [] (fun i=>[11].contains i) mixed ?_
    refine dv 0 ?_;refine dv 1 ?_;refine dv 2 ?_;refine dv 3 ?_;refine fM 4 ([.v (.int .i64 ((nth xs (i):Nat):Int))]) (gJ xs (k:=i) (by omega)) ?_
    refine dv 5 ?_;refine dv 6 ?_;refine dv 7 ?_;refine fM 8 ([.v (.int .i64 ((nth ys (k):Nat):Int))]) (gJ ys (k:=k) (by omega)) ?_
    refine dv 9 ?_;refine WD.cast (t:=54) (u':=.int .i64 ((nth xs i*nth ys k:Nat):Int)) rfl (dZ (Int.natCast_mul _ _).symm) ?_;refine dv 10 ?_
    refine oW 55 (nth os2 (i+k)+cr+nth xs i*nth ys k) ?_
    refine eQ 11 (by kernel_rfl) rfl rfl aB rfl (by trivial) ?_ (fun h=>by first | rfl | cases h)
    refine aV ?_;refine sq (rl ?_);(iterate 4 refine o1 ?_);refine aZ 59 (i+k) ?_
    refine o1 ?_;refine o1 ?_;refine WL.cast (t:=61) (u':=.int .i64 (((nth os2 (i+k)+cr+nth xs i*nth ys k)%65536:Nat):Int)) rfl (dZ (lR _ 65536)) ?_;refine o1 ?_
    refine uI (uJ os2 (k:=i+k) (v:=(nth os2 (i+k)+cr+nth xs i*nth ys k)%65536) (by omega)) (yG os2 (by omega)) ?_
    refine nl (rl (o1 ?_));refine o1 ?_ (hC:=(iT 65536 (by omega) (by simp only[jD];omega)))
    refine WL.cast (t:=64) (u':=.int .i64 (((nth os2 (i+k)+cr+nth xs i*nth ys k)/65536:Nat):Int)) rfl (dZ (gR _ 65536)) ?_;refine o1 ?_;refine nl (rl ?_)
    refine o1 ?_;refine o1 ?_;refine aZ 32 (k+1) ?_
    refine o1 ?_;refine nl ?_;have hst:=qZ (x:=nth os2 (i+k)+cr+nth xs i*nth ys k) (by omega) hv2 (by rfl)
    exact⟨(k+1,(nth os2 (i+k)+cr+nth xs i*nth ys k)/65536,os2.set (i+k) ((nth os2 (i+k)+cr+nth xs i*nth ys k)%65536)),by dsimp only;omega,⟨by dsimp only;omega,hol2.set _ (Nat.mod_lt _ (by omega)),by rw[List.length_set];exact hos2,hst,by dsimp only;omega⟩,aW h0 [0] ⟨nS rfl rfl rfl,rfl⟩⟩
   refine sk (sq (rl ?_));(iterate 4 refine o1 ?_);refine aZ 59 (i+k) ?_
   refine o1 ?_;refine o1 ?_;refine WL.cast (t:=61) (u':=.int .i64 (((nth os2 (i+k)+cr)%65536:Nat):Int)) rfl (dZ (lR _ 65536)) ?_;refine o1 ?_
   refine uI (uJ os2 (k:=i+k) (v:=(nth os2 (i+k)+cr)%65536) (by omega)) (yG os2 (by omega)) ?_
   refine nl (rl (o1 ?_));refine o1 ?_ (hC:=(iT 65536 (by omega) (by simp only[jD];omega)))
   refine WL.cast (t:=64) (u':=.int .i64 (((nth os2 (i+k)+cr)/65536:Nat):Int)) rfl (dZ (gR _ 65536)) ?_;refine o1 ?_;refine nl (rl (o1 ?_));refine o1 ?_
   refine aZ 32 (k+1) ?_
   refine o1 ?_;refine nl ?_;have hny:nth ys k=0:=fN (by omega)
   have hst:=qZ (x:=nth os2 (i+k)+cr) (by omega) hv2 (by rw[hny,Nat.mul_zero,Nat.add_zero])
   exact⟨(k+1,(nth os2 (i+k)+cr)/65536,os2.set (i+k) ((nth os2 (i+k)+cr)%65536)),by dsimp only;omega,⟨by dsimp only;omega,hol2.set _ (Nat.mod_lt _ (by omega)),by rw[List.length_set];exact hos2,hst,by dsimp only;omega⟩,aW h0 [0] ⟨nS rfl rfl rfl,rfl⟩⟩
  refine ex (rl (o1 ?_));refine o1 ?_;refine aZ 22 (i+1) ?_
  refine o1 ?_;refine nl ?_;have hcr0:cr=0:=by omega
  rw[hcr0,Nat.mul_zero,Nat.add_zero,Dt (by omega)]at hv2
  exact⟨(i+1,os2),by dsimp only;omega,⟨by dsimp only;omega,hol2,hos2,hv2⟩,aW h0 [0] ⟨nS rfl rfl rfl,rfl⟩⟩
 refine ex (sq (rl ?_));rw[cE 65536 (by omega)]at hv
 refine WL.sub (Bn (i:=5) (zs':=os) rfl rfl rfl (by omega) rfl) ?_
 refine o1 ?_;refine ca (Dq (by omega)) Dr ⟨a1 rfl,rfl⟩ (.one (.t (sI false (trim os)))) ?_
 refine o1 ?_;refine nl (rt ?_);exact en (.inl rfl) rfl (bD (.one (.id rfl))) (by decide) (fun h=>by cases h) (by rw[Jt (by omega) hol hv];rfl)
theorem mF {a b:Zi}{k k':Int}(ha:Zn a k) (hb:Zn b k'):aG true Tryz.prog 80 [] [gF a,gF b] (aU (kO (k*k'))):=by
 refine cC Tryz.func80 rfl Tryz.ntmps80 rfl aB rfl fun N w c0 h0=>?_
 have hkl:=ha.len
 have hkl':=hb.len
 refine sq (rl (bx 0 ?_));refine bx 1 ?_;refine al 2 ?_;refine nl (sq (rl (ld ?_)));refine ca (iJ ha) mO ⟨aD rfl,rfl⟩ (kF (k)) ?_
 refine st ?_;refine nl (sq (rl (ld ?_)));refine ca (iJ hb) mO ⟨aD rfl,rfl⟩ (kF (k')) ?_;refine st ?_;refine nl (sq ?_)
 refine rd [0,1,2] (fun i=>[14].contains i) mixed ?_
 refine dv 0 ?_;refine aO 1 ?_;refine dv 2 ?_;refine aO 3 ?_;refine dv 4 ?_;refine dv 5 ?_;refine aO 6 ?_;refine dv 8 ?_;refine aO 9 ?_
 have hn1:=fJ (v:=vl 4294967296 (dg 4294967296 (k).natAbs)) (L:=(dg 4294967296 (k).natAbs).length) (by rw[cM (by omega)];exact bC _)
 refine aX 7 rfl (nD (by omega) (aR (by omega) _)) zY ⟨a1 rfl,rfl⟩ (.one (.t (sI false (dg 65536 (vl 4294967296 (dg 4294967296 (k).natAbs)))))) ?_
 have hn2:=fJ (v:=vl 4294967296 (dg 4294967296 (k').natAbs)) (L:=(dg 4294967296 (k').natAbs).length) (by rw[cM (by omega)];exact bC _)
 refine aX 10 rfl (nD (by omega) (aR (by omega) _)) zY ⟨a1 rfl,rfl⟩ (.one (.t (sI false (dg 65536 (vl 4294967296 (dg 4294967296 (k').natAbs)))))) ?_
 have hn3:=yH (xs:=(dg 65536 (vl 4294967296 (dg 4294967296 (k).natAbs)))) (ys:=(dg 65536 (vl 4294967296 (dg 4294967296 (k').natAbs)))) (aR (by omega) _) (aR (by omega) _)
 refine aX 11 rfl (Lb (by omega) (by omega) (aR (by omega) _) (aR (by omega) _)) HI ⟨a1 rfl,a1 rfl,rfl⟩ (.one (.t (sI false (dg 65536 (vl 65536 (dg 65536 (vl 4294967296 (dg 4294967296 (k).natAbs)))*vl 65536 (dg 65536 (vl 4294967296 (dg 4294967296 (k').natAbs)))))))) ?_
 have hn4:=nT (vl 65536 (dg 65536 (vl 4294967296 (dg 4294967296 (k).natAbs)))*vl 65536 (dg 65536 (vl 4294967296 (dg 4294967296 (k').natAbs))))
 refine aX 12 rfl (wA (zs:=(dg 4294967296 (vl 65536 (dg 65536 (vl 4294967296 (dg 4294967296 (k).natAbs)))*vl 65536 (dg 65536 (vl 4294967296 (dg 4294967296 (k').natAbs)))))) (by omega) (aR (by omega) _) (zZ _)) fZ ⟨a1 rfl,rfl⟩ (.one (.t (sU false (dg 4294967296 (vl 65536 (dg 65536 (vl 4294967296 (dg 4294967296 (k).natAbs)))*vl 65536 (dg 65536 (vl 4294967296 (dg 4294967296 (k').natAbs)))))))) ?_
 refine jX 3 13 rfl (lQ (K:=k*k') (by omega) (aR (by omega) _) (by simp only[cM (B:=4294967296) (by omega),cM (B:=65536) (by omega)];exact Qr k k')) dE ⟨a1 rfl,a1 rfl,rfl⟩ ?_
 refine dst 14 ?_;refine aV ?_;refine rt ?_
 exact en (.inl rfl) rfl (bD (.agg (.cons (.id rfl) (.cons (.sl (trs:=aI (dg 4294967296 (k*k').natAbs)) rfl rfl (bP _) (aP _)) .nil)))) (by decide) (fun _=>fQ (k*k')) rfl
theorem KH {u v:Nat}(hx:(dg 65536 (u)).length≤4398046511104) (hy:(dg 65536 (v)).length≤4398046511104):aG true Tryz.prog 159 [] [.one (.t (sI false (dg 65536 u))),.one (.t (sI false (dg 65536 v)))] (aU (.one (tv (.bool (decide (u<v)))))):=by
 refine cC Tryz.func159 rfl Tryz.ntmps159 rfl aB rfl fun N w c0 h0=>?_
 refine sq (rl (o1 ?_));refine nl (sq (sq (rl ?_)));(iterate 5 refine o1 ?_);refine nl ?_;refine bL rfl (fun h1=>?_) (fun h1=>?_)
 ·refine sq (rl ?_);(iterate 6 refine o1 ?_);refine nl (rt ?_)
  refine en (.inl rfl) rfl (bD (cU _)) (by decide) (fun _=>trivial) (congrArg (fun z=>FV.one (tv (.bool z))) ?_)
  exact CL rfl rfl (by omega)
 refine sk (sq (sq (rl ?_)));(iterate 4 refine o1 ?_);refine nl (bl ?_)
 refine lp (γ:=Nat) (fun k=>bS [(0,.one (.t (sI false (dg 65536 u)))),(1,.one (.t (sI false (dg 65536 v)))),(5,.one (tv (.int .i64 ((k:Nat)-1))))]) (fun k=>([]:List Ob).map some) (fun k=>(∀j,k≤j→nth (dg 65536 (u)) j=nth (dg 65536 (v)) j)∧k≤(dg 65536 (u)).length) (fun k=>k) (dg 65536 (u)).length ⟨fun j hj=>by rw[fN (by omega),fN (by omega)],bC _⟩ (aW h0 [] rfl) fun k hk=>?_
 refine sq (sq (rl (o1 ?_)));refine o1 ?_;refine nl ?_;refine bL rfl (fun h2=>?_) (fun h2=>?_)
 ·refine sk (sq (bl (sq ?_)));refine rd [] (fun i=>[].contains i) mixed ?_
  refine dv 0 ?_;refine dv 1 ?_;refine oW 24 (k-1) ?_
  refine dv 2 ?_;refine fM 3 ([.v (.int .i64 ((nth (dg 65536 (u)) (k-1):Nat):Int))]) (gJ (dg 65536 (u)) (k:=k-1) (by omega)) ?_
  refine dv 4 ?_;refine dv 5 ?_;refine oW 28 (k-1) ?_
  refine dv 6 ?_;refine fM 7 ([.v (.int .i64 ((nth (dg 65536 (v)) (k-1):Nat):Int))]) (gJ (dg 65536 (v)) (k:=k-1) (by omega)) ?_
  refine dv 8 ?_;refine aV ?_;refine bL rfl (fun h3=>?_) (fun h3=>?_)
  ·refine sq ?_;refine rd [] (fun i=>[9].contains i) mixed ?_
   refine dv 0 ?_;refine dv 1 ?_;refine oW 33 (k-1) ?_
   refine dv 2 ?_;refine fM 3 ([.v (.int .i64 ((nth (dg 65536 (u)) (k-1):Nat):Int))]) (gJ (dg 65536 (u)) (k:=k-1) (by omega)) ?_
   refine dv 4 ?_;refine dv 5 ?_;refine oW 37 (k-1) ?_
   refine dv 6 ?_;refine fM 7 ([.v (.int .i64 ((nth (dg 65536 (v)) (k-1):Nat):Int))]) (gJ (dg 65536 (v)) (k:=k-1) (by omega)) ?_
   refine dv 8 ?_;refine eQ 9 (by kernel_rfl) rfl rfl aB rfl (by trivial) ?_ (fun h=>by first | rfl | cases h)
   refine aV ?_;refine rt ?_;refine en (.inl rfl) rfl (bD (cU _)) (by decide) (fun _=>trivial) (congrArg (fun z=>FV.one (tv (.bool z))) ?_)
   exact KI (k:=k-1) (fun j hj=>hk.1 j (by omega)) (by omega)
  refine sk (rl ?_);(iterate 3 refine o1 ?_);refine nl ?_
  exact⟨k-1,by omega,⟨fun j hj=>(Nat.eq_or_lt_of_le hj).elim (fun h9=>by rw[←h9];omega) (fun h9=>hk.1 j (by omega)),by omega⟩,kM h0 [] _ _ (by decide) ⟨rfl,rfl,congrArg (fun z=>some (FV.one (tv (.int .i64 z)))) (by omega),trivial⟩ rfl⟩
 refine ex (sq (rl (o1 ?_)));refine nl (rt ?_)
 refine en (.inl rfl) rfl (bD (cU _)) (by decide) (fun _=>trivial) (congrArg (fun z=>FV.one (tv (.bool z))) ?_)
 have he:=Xd (fun j=>hk.1 j (by omega))
 rw[cM (by omega),cM (by omega)]at he
 rw[he,decide_eq_false (Nat.lt_irrefl v)]
theorem KJ {u v n:Nat}(hx:(dg 65536 (u)).length≤1099511627776) (hy:(dg 65536 (v)).length≤1099511627776) (hn:n≤65536) (hnv:n*v≤u):aG false Tryz.prog 144 [] [.one (.t (sI false (dg 65536 u))),.one (.t (sI false (dg 65536 v))),.one (tv (.int .i64 ((n:Nat):Int)))] (aU (.one (.t (sI false (dg 65536 (u-n*v)))))):=by
 refine cC Tryz.func144 rfl Tryz.ntmps144 rfl aB rfl fun N w c0 h0=>?_
 have hlu:=aR (B:=65536) (by omega) u
 have hlv:=aR (B:=65536) (by omega) v
 refine sq (rl (o1 ?_));refine nl (sq (rl (o1 ?_)));refine nl (sq (rl (o1 ?_)));refine nl (sq (sq ?_))
 refine rl (o1 ?_);refine nl (bl ?_)
 refine lp (γ:=Nat×Nat×List Nat) (fun s=>bS [(0,.one (.t (sI false (dg 65536 u)))),(1,.one (.t (sI false (dg 65536 v)))),(2,.one (tv (.int .i64 ((n:Nat):Int)))),(7,.one (.sl 0 0 s.1)),(8,.one (tv (.int .i64 ((s.2.1:Nat):Int)))),(9,.one (tv (.int .i64 ((s.1:Nat):Int))))]) (fun s=>[(⟨3,1,(fH s.2.2).map .t⟩:Ob)].map some) (fun s=>s.2.2.length=s.1∧Lim 65536 s.2.2∧vl 65536 s.2.2+n*vl 65536 ((dg 65536 (v)).take s.1)=vl 65536 ((dg 65536 (u)).take s.1)+65536^s.1*s.2.1∧s.2.1≤65536∧s.1≤(dg 65536 (u)).length) (fun s=>(dg 65536 (u)).length-s.1) (0,0,[]) ⟨rfl,Lim.nil,by simp[vl],Nat.zero_le _,Nat.zero_le _⟩ ((nr (i:=7) 0 3 1 rfl rfl rfl rfl).trans (aW h0 [0] ⟨aC (l:=[]) rfl,rfl⟩)) ?_
 rintro⟨k,br,os⟩ ⟨hos,hol,hv,hc1,hkm⟩;dsimp only at hos hol hv hc1 hkm⊢;have hn1:=hlu.nth (by omega) k
 have hn2:=hlv.nth (by omega) k
 have hmul:=Nat.mul_le_mul hn (Nat.le_of_lt_succ hn2)
 refine sq (sq (rl ?_));(iterate 4 refine o1 ?_);refine nl ?_;refine bL rfl (fun h1=>?_) (fun h1=>?_)
 ·refine sk (sq (bl (sq (rl ?_))));(iterate 3 refine o1 ?_)
  refine eE ([.v (.int .i64 ((nth (dg 65536 (u)) (k):Nat):Int))]) (gJ (dg 65536 (u)) (k:=k) (by omega)) ?_
  (iterate 3 refine o1 ?_);refine nl (sq (sq (rl ?_)));(iterate 4 refine o1 ?_);refine nl ?_;refine bL rfl (fun h2=>?_) (fun h2=>?_)
  ·refine rl ?_;(iterate 5 refine o1 ?_);refine eE ([.v (.int .i64 ((nth (dg 65536 (v)) (k):Nat):Int))]) (gJ (dg 65536 (v)) (k:=k) (by omega)) ?_
   (iterate 3 refine o1 ?_);refine nl (sq (rl (o1 ?_)));refine nl (sq (sq (rl (o1 ?_))));refine o1 ?_;refine nl ?_
   refine bL rfl (fun h3=>?_) (fun h3=>?_)
   ·refine sq (rl (o1 ?_));refine o1 ?_
    refine aZ 38 (65535+n*nth (dg 65536 (v)) k+br-nth (dg 65536 (u)) k) ?_
    refine o1 ?_ (hC:=(iT 65536 (by omega) (by simp only[jD];omega)))
    refine WL.cast (t:=39) (u':=.int .i64 (((65535+n*nth (dg 65536 (v)) k+br-nth (dg 65536 (u)) k)/65536:Nat):Int)) rfl (dZ (gR _ 65536)) ?_;refine o1 ?_;refine nl ?_
    refine rl ?_;(iterate 5 refine o1 ?_);refine nl (rl (o1 ?_));refine o1 ?_
    refine aZ 45 (nth (dg 65536 (u)) k+65536*((65535+n*nth (dg 65536 (v)) k+br-nth (dg 65536 (u)) k)/65536)-br-n*nth (dg 65536 (v)) k) ?_
    refine bs 1 ?_;refine iN (j:=2) aB rfl rfl rfl rfl (.sl rfl (by rw[dF,iV,hos];omega)) (.sl rfl rfl rfl) rfl rfl rfl (by omega) (by omega) ?_
    refine o1 ?_;refine nl (rl (o1 ?_));refine o1 ?_;refine aZ 16 (k+1) ?_
    refine o1 ?_;refine nl ?_
    have hst:=tC (d:=nth (dg 65536 (u)) k+65536*((65535+n*nth (dg 65536 (v)) k+br-nth (dg 65536 (u)) k)/65536)-br-n*nth (dg 65536 (v)) k) (br:=br) (br':=(65535+n*nth (dg 65536 (v)) k+br-nth (dg 65536 (u)) k)/65536) hos hv (by omega)
    exact⟨(k+1,(65535+n*nth (dg 65536 (v)) k+br-nth (dg 65536 (u)) k)/65536,os++[nth (dg 65536 (u)) k+65536*((65535+n*nth (dg 65536 (v)) k+br-nth (dg 65536 (u)) k)/65536)-br-n*nth (dg 65536 (v)) k]),by dsimp only;omega,⟨by simp[hos],hol.append (Lim.cons (by omega) Lim.nil),hst,by dsimp only;omega,by dsimp only;omega⟩,aW h0 [2] ⟨nS rfl (iW _ [nth (dg 65536 (u)) k+65536*((65535+n*nth (dg 65536 (v)) k+br-nth (dg 65536 (u)) k)/65536)-br-n*nth (dg 65536 (v)) k]) rfl,rfl⟩⟩
   refine sk (rl (o1 ?_));refine o1 ?_;refine aZ 45 (nth (dg 65536 (u)) k-br-n*nth (dg 65536 (v)) k) ?_
   refine bs 1 ?_;refine iN (j:=2) aB rfl rfl rfl rfl (.sl rfl (by rw[dF,iV,hos];omega)) (.sl rfl rfl rfl) rfl rfl rfl (by omega) (by omega) ?_
   refine o1 ?_;refine nl (rl (o1 ?_));refine o1 ?_;refine aZ 16 (k+1) ?_
   refine o1 ?_;refine nl ?_;have hst:=tC (d:=nth (dg 65536 (u)) k-br-n*nth (dg 65536 (v)) k) (br:=br) (br':=0) hos hv (by omega)
   exact⟨(k+1,0,os++[nth (dg 65536 (u)) k-br-n*nth (dg 65536 (v)) k]),by dsimp only;omega,⟨by simp[hos],hol.append (Lim.cons (by omega) Lim.nil),hst,by dsimp only;omega,by dsimp only;omega⟩,aW h0 [2] ⟨nS rfl (iW _ [nth (dg 65536 (u)) k-br-n*nth (dg 65536 (v)) k]) rfl,rfl⟩⟩
  refine sk (sq (rl (o1 ?_)));refine nl (sq (sq (rl (o1 ?_))));refine o1 ?_;refine nl ?_
  refine bL rfl (fun h4=>?_) (fun h4=>?_)
  ·refine sq (rl (o1 ?_));refine o1 ?_;refine aZ 38 (65535+br-nth (dg 65536 (u)) k) ?_
   refine o1 ?_ (hC:=(iT 65536 (by omega) (by simp only[jD];omega)))
   refine WL.cast (t:=39) (u':=.int .i64 (((65535+br-nth (dg 65536 (u)) k)/65536:Nat):Int)) rfl (dZ (gR _ 65536)) ?_;refine o1 ?_;refine nl (rl ?_)
   (iterate 5 refine o1 ?_);refine nl (rl (o1 ?_));refine o1 ?_
   refine aZ 45 (nth (dg 65536 (u)) k+65536*((65535+br-nth (dg 65536 (u)) k)/65536)-br) ?_
   refine bs 1 ?_;refine iN (j:=2) aB rfl rfl rfl rfl (.sl rfl (by rw[dF,iV,hos];omega)) (.sl rfl rfl rfl) rfl rfl rfl (by omega) (by omega) ?_
   refine o1 ?_;refine nl (rl (o1 ?_));refine o1 ?_;refine aZ 16 (k+1) ?_
   refine o1 ?_;refine nl ?_;have hny:nth (dg 65536 (v)) k=0:=fN (by omega)
   have hst:=tC (d:=nth (dg 65536 (u)) k+65536*((65535+br-nth (dg 65536 (u)) k)/65536)-br) (br:=br) (br':=(65535+br-nth (dg 65536 (u)) k)/65536) hos hv (by rw[hny,Nat.mul_zero];omega)
   exact⟨(k+1,(65535+br-nth (dg 65536 (u)) k)/65536,os++[nth (dg 65536 (u)) k+65536*((65535+br-nth (dg 65536 (u)) k)/65536)-br]),by dsimp only;omega,⟨by simp[hos],hol.append (Lim.cons (by omega) Lim.nil),hst,by dsimp only;omega,by dsimp only;omega⟩,aW h0 [2] ⟨nS rfl (iW _ [nth (dg 65536 (u)) k+65536*((65535+br-nth (dg 65536 (u)) k)/65536)-br]) rfl,rfl⟩⟩
  refine sk (rl (o1 ?_));refine o1 ?_;refine aZ 45 (nth (dg 65536 (u)) k-br) ?_
  refine bs 1 ?_;refine iN (j:=2) aB rfl rfl rfl rfl (.sl rfl (by rw[dF,iV,hos];omega)) (.sl rfl rfl rfl) rfl rfl rfl (by omega) (by omega) ?_
  refine o1 ?_;refine nl (rl (o1 ?_));refine o1 ?_;refine aZ 16 (k+1) ?_
  refine o1 ?_;refine nl ?_;have hny:nth (dg 65536 (v)) k=0:=fN (by omega)
  have hst:=tC (d:=nth (dg 65536 (u)) k-br) (br:=br) (br':=0) hos hv (by rw[hny,Nat.mul_zero];omega)
  exact⟨(k+1,0,os++[nth (dg 65536 (u)) k-br]),by dsimp only;omega,⟨by simp[hos],hol.append (Lim.cons (by omega) Lim.nil),hst,by dsimp only;omega,by dsimp only;omega⟩,aW h0 [2] ⟨nS rfl (iW _ [nth (dg 65536 (u)) k-br]) rfl,rfl⟩⟩
 refine ex (sq (rl ?_));have hve:vl 65536 os=u-n*v:=CM rfl (by omega) hol hv hnv
 refine WL.sub (Bn (i:=7) (zs':=os) rfl rfl rfl (by omega) rfl) ?_
 refine o1 ?_;refine ca (Dq (by omega)) Dr ⟨a1 rfl,rfl⟩ (.one (.t (sI false (trim os)))) ?_
 refine o1 ?_;refine nl (rt ?_);exact en (.inl rfl) rfl (bD (.one (.id rfl))) (by decide) (fun h=>by cases h) (by rw[Jt (by omega) hol hve];rfl)
theorem CN {u v:Nat}(hx:(dg 65536 (u)).length≤1099511627776) (hy:(dg 65536 (v)).length≤1099511627776) (huv:u<65536*v):aG true Tryz.prog 143 [] [.one (.t (sI false (dg 65536 u))),.one (.t (sI false (dg 65536 v)))] (aU (.one (tv (.int .i64 ((u/v:Nat):Int))))):=by
 refine cC Tryz.func143 rfl Tryz.ntmps143 rfl aB rfl fun N w c0 h0=>?_
 refine sq (rl (o1 ?_));refine nl (sq (rl (o1 ?_)));refine o1 ?_;refine nl (sq (bl ?_))
 refine lp (γ:=Nat×Nat) (fun s=>bS [(0,.one (.t (sI false (dg 65536 u)))),(1,.one (.t (sI false (dg 65536 v)))),(5,.one (tv (.int .i64 ((s.1:Nat):Int)))),(6,.one (tv (.int .i64 ((s.2:Nat):Int))))]) (fun s=>([]:List Ob).map some) (fun s=>s.1*v≤u∧u<s.2*v∧s.1<s.2∧s.2≤65536) (fun s=>s.2-s.1) (0,65536) ⟨by simp,huv,by decide,bC _⟩ (aW h0 [] rfl) ?_
 rintro⟨lo,hi⟩ ⟨h91,h92,h93,h94⟩;dsimp only at h91 h92 h93 h94⊢;refine sq (sq (rl ?_));(iterate 3 refine o1 ?_)
 refine aZ 10 (hi-lo) ?_
 refine o1 ?_;refine nl ?_;refine bL rfl (fun h1=>?_) (fun h1=>?_)
 ·refine sk (bl (sq (rl ?_)));(iterate 3 refine o1 ?_);refine aZ 14 (lo+hi) ?_
  refine o1 ?_ (hC:=(iT 2 (by omega) (by simp only[jD];omega)))
  refine WL.cast (t:=15) (u':=.int .i64 (((lo+hi)/2:Nat):Int)) rfl (dZ (gR _ 2)) ?_;refine o1 ?_;refine nl (sq (rl ?_));(iterate 3 refine o1 ?_)
  refine bs 0 ?_;refine WL.sub (Bn (i:=19) (zs:=[(lo+hi)/2]) (zs':=[(lo+hi)/2]) rfl rfl rfl rfl rfl) ?_;have h1l:[(lo+hi)/2].length=1:=rfl
  have hn2:=yH (xs:=(dg 65536 (v))) (ys:=[(lo+hi)/2]) (aR (by omega) _) (Lim.cons (d:=(lo+hi)/2) (by omega) Lim.nil)
  refine ca (Lb (by omega) (by omega) (aR (by omega) _) (Lim.cons (d:=(lo+hi)/2) (by omega) Lim.nil)) HI ⟨a1 rfl,a1 rfl,rfl⟩ (.one (.t (sI false (dg 65536 (vl 65536 (dg 65536 (v))*vl 65536 [(lo+hi)/2]))))) ?_
  refine ca (KH (by omega) (by omega)) UF ⟨a1 rfl,a1 rfl,rfl⟩ (.one (tv (.bool (decide (u<vl 65536 (dg 65536 (v))*vl 65536 [(lo+hi)/2]))))) ?_
  refine nl ?_;refine bL rfl (fun h3=>?_) (fun h3=>?_)
  ·refine rl (o1 ?_);refine o1 ?_;refine nl ?_;rw[cM (by omega),uD,Nat.mul_comm]at h3
   exact⟨(lo,(lo+hi)/2),by dsimp only;omega,⟨by dsimp only;omega,by dsimp only;omega,by dsimp only;omega,by dsimp only;omega⟩,aW h0 [] rfl⟩
  refine rl (o1 ?_);refine o1 ?_;refine nl ?_;rw[cM (by omega),uD,Nat.mul_comm]at h3
  exact⟨((lo+hi)/2,hi),by dsimp only;omega,⟨by dsimp only;omega,by dsimp only;omega,by dsimp only;omega,by dsimp only;omega⟩,aW h0 [] rfl⟩
 refine ex (sq (rl (o1 ?_)));refine o1 ?_;refine nl (rt ?_)
 exact en (.inl rfl) rfl (bD (cU _)) (by decide) (fun _=>trivial) (congrArg (fun z=>FV.one (tv (.int .i64 ((z:Nat):Int)))) (Xe h91 h92 (by omega)).symm)
theorem Xf {xs zs:List Nat}(hx:xs.length≤4398046511104) (hz:trim xs=zs):aG false Tryz.prog 138 [] [.one (.t (sI false xs))] (aU (.one (.t (sI false zs)))):=by
 subst hz
 exact Dq hx
theorem Lg {u v:Nat}(hx:(dg 65536 (u)).length≤549755813888) (hy:(dg 65536 (v)).length≤549755813888) (hvp:0<v):aG false Tryz.prog 122 [] [.one (.t (sI false (dg 65536 u))),.one (.t (sI false (dg 65536 v)))] (aU (.tup [.one (.t (sI false (dg 65536 (u/v)))),.one (.t (sI false (dg 65536 (u%v))))])):=by
 refine cC Tryz.func122 rfl Tryz.ntmps122 rfl aB rfl fun N w c0 h0=>?_
 have hlu:=aR (B:=65536) (by omega) u
 refine sq (rl (o1 ?_));refine o1 ?_;refine nl (sq (rl (o1 ?_)));refine o1 ?_
 refine WL.cast (t:=11) (u':=.int .i64 (((dg 65536 (u)).length:Nat):Int)) rfl (dZ rfl) ?_;refine mk (m:=(dg 65536 (u)).length) 0 (by omega) (Lc _) ?_
 refine o1 ?_;refine nl (sq (rl (o1 ?_)));refine nl (sq (sq (rl ?_)));(iterate 4 refine o1 ?_);refine nl (bl ?_)
 refine lp (γ:=Nat×List Nat×Nat) (fun s=>bS [(0,.one (.t (sI false (dg 65536 u)))),(1,.one (.t (sI false (dg 65536 v)))),(6,.one (.sl 0 0 (dg 65536 (u)).length)),(7,.one (.t (sI false (dg 65536 s.2.2)))),(8,.one (tv (.int .i64 ((s.1:Nat)-1))))]) (fun s=>[(⟨3,1,(fH s.2.1).map .t⟩:Ob)].map some) (fun s=>s.2.1.length=(dg 65536 (u)).length∧Lim 65536 s.2.1∧vl 65536 ((dg 65536 (u)).drop s.1)=v*vl 65536 (s.2.1.drop s.1)+s.2.2∧s.2.2<v∧s.1≤(dg 65536 (u)).length) (fun s=>s.1) ((dg 65536 (u)).length,List.replicate (dg 65536 (u)).length 0,0) ⟨List.length_replicate,Lim.replicate (by omega) _,by dsimp only;rw[List.drop_of_length_le (bC _),List.drop_of_length_le (by rw[List.length_replicate];exact bC _)];simp[vl],hvp,bC _⟩ (((nr (i:=7) 1 3 1 rfl rfl rfl rfl).trans (Bn (i:=7) (k:=1) (zs:=[]) (zs':=dg 65536 0) rfl rfl rfl rfl (oX _).symm)).trans (aW h0 [0] ⟨nS rfl rfl rfl,rfl⟩)) ?_
 rintro⟨k,os,r⟩ ⟨hos,hol,hv,hr,hkm⟩;dsimp only at hos hol hv hr hkm⊢;have hrl:=dO (B:=65536) (by omega) (Nat.le_of_lt hr)
 have hau:=hlu.nth (by omega) (k-1)
 have hce:=CO (a:=nth (dg 65536 (u)) (k-1)) hau hr
 have hql:(nth (dg 65536 (u)) (k-1)+65536*r)/v<65536:=(Nat.div_lt_iff_lt_mul hvp).2 (by omega)
 refine sq (sq (rl (o1 ?_)));refine o1 ?_;refine nl ?_;refine bL rfl (fun h1=>?_) (fun h1=>?_)
 ·refine sk (sq (bl (sq (rl (o1 ?_)))));refine o1 ?_;refine aZ 21 (k-1) ?_
  refine o1 ?_;refine eE ([.v (.int .i64 ((nth (dg 65536 (u)) (k-1):Nat):Int))]) (gJ (dg 65536 (u)) (k:=k-1) (by omega)) ?_
  refine bs 1 ?_;refine o1 ?_;refine nl (sq (rl (o1 ?_)));refine o1 ?_
  refine iN (j:=2) aB rfl rfl rfl rfl (.sl rfl (rfl)) .fz (OQ _) (CP _) rfl (by omega) (by omega) ?_
  refine WL.sub (Bn (i:=27) (k:=2) (zs:=[nth (dg 65536 (u)) (k-1)]++dg 65536 r) (zs':=[nth (dg 65536 (u)) (k-1)]++dg 65536 r) rfl rfl (congrArg (fun l=>some (⟨3,1,l⟩:Ob)) (iW [nth (dg 65536 (u)) (k-1)] (dg 65536 r))) (by rw[cO];rfl) rfl) ?_
  refine ca (Xf (zs:=(dg 65536 (nth (dg 65536 (u)) (k-1)+65536*r))) (by rw[cO];exact Nat.le_trans (Nat.add_le_add_left hrl 1) (by omega)) (yI (by omega))) Dr ⟨a1 rfl,rfl⟩ (.one (.t (sI false (dg 65536 (nth (dg 65536 (u)) (k-1)+65536*r))))) ?_
  refine o1 ?_;refine nl (sq (rl (o1 ?_)));refine o1 ?_;refine aZ 30 (k-1) ?_
  refine o1 ?_;refine o1 ?_;refine ca (CN (by omega) (by omega) (by omega)) UG ⟨a1 rfl,a1 rfl,rfl⟩ (.one (tv (.int .i64 (((nth (dg 65536 (u)) (k-1)+65536*r)/v:Nat):Int)))) ?_
  refine o1 ?_;refine uI (uJ os (k:=k-1) (v:=(nth (dg 65536 (u)) (k-1)+65536*r)/v) (by omega)) (yG os (by omega)) ?_
  refine nl (rl ?_);(iterate 4 refine o1 ?_);refine aZ 38 (k-1) ?_
  refine o1 ?_;refine Bp (Le (os.set (k-1) ((nth (dg 65536 (u)) (k-1)+65536*r)/v)) (k:=k-1) (by rw[List.length_set];omega)) ?_
  refine WL.cast (t:=40) (u':=.int .i64 (((nth (dg 65536 (u)) (k-1)+65536*r)/v:Nat):Int)) rfl (dZ (by rw[Lh (by omega)])) ?_
  refine ca (KJ (by omega) (by omega) (by omega) (Nat.div_mul_le_self _ _)) UH ⟨a1 rfl,a1 rfl,a1 rfl,rfl⟩ (.one (.t (sI false (dg 65536 (nth (dg 65536 (u)) (k-1)+65536*r-(nth (dg 65536 (u)) (k-1)+65536*r)/v*v))))) ?_
  refine o1 ?_;refine nl (rl ?_);(iterate 3 refine o1 ?_);refine nl ?_
  have hst:=Uk (k:=k) (q:=(nth (dg 65536 (u)) (k-1)+65536*r)/v) (by omega) (by omega) (by omega) hv rfl rfl
  have hmod:=Nat.mod_lt (nth (dg 65536 (u)) (k-1)+65536*r) hvp
  have hdm:=Nat.div_add_mod' (nth (dg 65536 (u)) (k-1)+65536*r) v
  exact⟨(k-1,os.set (k-1) ((nth (dg 65536 (u)) (k-1)+65536*r)/v),nth (dg 65536 (u)) (k-1)+65536*r-(nth (dg 65536 (u)) (k-1)+65536*r)/v*v),by dsimp only;omega,⟨by rw[List.length_set];exact hos,hol.set _ hql,hst,by dsimp only;omega,by dsimp only;omega⟩,kM h0 [0] _ _ (by decide) ⟨rfl,rfl,rfl,rfl,congrArg (fun z=>some (FV.one (tv (.int .i64 z)))) (by omega),trivial⟩ ⟨nS rfl rfl rfl,rfl⟩⟩
 refine ex (sq (rl ?_));have hk0:k=0:=by omega
 rw[hk0,List.drop_zero,List.drop_zero,cM (by omega)]at hv
 obtain⟨hq1,hq2⟩:=Xg hv hr
 refine WL.sub (Bn (i:=6) (zs':=os) rfl rfl rfl (by omega) rfl) ?_
 refine o1 ?_;refine ca (Xf (zs:=(dg 65536 (u/v))) (by omega) (by rw[Jt (by omega) hol rfl,hq1])) Dr ⟨a1 rfl,rfl⟩ (.one (.t (sI false (dg 65536 (u/v))))) ?_
 (iterate 3 refine o1 ?_);refine nl (rt ?_);exact en (.inl rfl) rfl (rW (.cons (.one (.id rfl)) (.cons (.one (.id rfl)) .nil))) (by decide) (fun h=>by cases h) (by rw[hq2];rfl)
theorem Li {a b:Zi}{k k':Int}(ha:Zn a k) (hb:Zn b k'):aG true Tryz.prog 93 [] [gF a,gF b] (aU (kO ((Int.gcd k k':Nat):Int))):=by
 refine cC Tryz.func93 rfl Tryz.ntmps93 rfl aB rfl fun N w c0 h0=>?_
 have hkl:=ha.len
 have hkl':=hb.len
 refine sq (rl (bx 0 ?_));refine bx 1 ?_;refine al 2 ?_;refine nl (sq ?_);refine rd [0,1,2] (fun i=>[9].contains i) mixed ?_
 refine aO 0 ?_;refine aO 4 ?_;refine aX 1 rfl (iJ ha) mO ⟨aD rfl,rfl⟩ (kF (k)) ?_;refine df 2 ?_
 have hn1:=fJ (v:=vl 4294967296 (dg 4294967296 (k).natAbs)) (L:=(dg 4294967296 (k).natAbs).length) (by rw[cM (by omega)];exact bC _)
 refine aX 3 rfl (nD (by omega) (aR (by omega) _)) zY ⟨a1 rfl,rfl⟩ (.one (.t (sI false (dg 65536 (vl 4294967296 (dg 4294967296 (k).natAbs)))))) ?_
 refine aX 5 rfl (iJ hb) mO ⟨aD rfl,rfl⟩ (kF (k')) ?_;refine df 6 ?_
 have hn2:=fJ (v:=vl 4294967296 (dg 4294967296 (k').natAbs)) (L:=(dg 4294967296 (k').natAbs).length) (by rw[cM (by omega)];exact bC _)
 refine aX 7 rfl (nD (by omega) (aR (by omega) _)) zY ⟨a1 rfl,rfl⟩ (.one (.t (sI false (dg 65536 (vl 4294967296 (dg 4294967296 (k').natAbs)))))) ?_
 refine eQ 8 (by kernel_rfl) rfl rfl aB rfl (by trivial) ?_ (fun h=>by first | rfl | cases h)
 refine eQ 9 (by kernel_rfl) rfl rfl aB rfl (by trivial) ?_ (fun h=>by first | rfl | cases h)
 refine aV ?_;refine sq (bl ?_)
 refine lp (γ:=Nat×Nat) (fun s=>bS [(4,.one (.pt 0 0)),(5,.one (.t (sI false (dg 65536 s.1)))),(6,.one (.t (sI false (dg 65536 s.2))))]) (fun s=>[(⟨50,0,[tv (.bool false),tv (.slice none 0 0)]⟩:Ob)].map some) (fun s=>Nat.gcd s.1 s.2=Int.gcd k k'∧(dg 65536 s.1).length≤549755813888∧(dg 65536 s.2).length≤549755813888) (fun s=>s.2) (vl 4294967296 (dg 4294967296 (k).natAbs),vl 4294967296 (dg 4294967296 (k').natAbs)) ⟨by dsimp only;rw[cM (by omega),cM (by omega)];rfl,by dsimp only;omega,by dsimp only;omega⟩ (aW h0 [2] ⟨oe rfl rfl,rfl⟩) ?_
 rintro⟨ga,gb⟩ ⟨hg,hga,hgb⟩;dsimp only at hg hga hgb⊢;have hbz:gb=0↔(dg 65536 gb).length=0:=by rw[List.length_eq_zero_iff,gS (by omega)]
 refine sq (sq (rl ?_));(iterate 3 refine o1 ?_);refine nl ?_;refine bL rfl (fun h3=>?_) (fun h3=>?_)
 ·refine sk (bl (sq ?_));have hb0:0<gb:=by omega
  refine rl (o1 ?_);refine o1 ?_;have hn4:=dO (B:=65536) (by omega) (Nat.div_le_self (ga) (gb))
  have hn5:=dO (B:=65536) (by omega) (Nat.mod_le (ga) (gb))
  refine ca (Lg (by omega) (by omega) hb0) HJ ⟨a1 rfl,a1 rfl,rfl⟩ (.tup [.one (.t (sI false (dg 65536 ((ga)/(gb))))),.one (.t (sI false (dg 65536 ((ga)%(gb)))))]) ?_
  (iterate 5 refine o1 ?_);refine nl (sq (rl (o1 ?_)));refine o1 ?_;refine nl (rl (o1 ?_));refine o1 ?_;refine nl ?_;have hmod:=Nat.mod_lt ga hb0
  have hml:=dO (B:=65536) (by omega) (Nat.le_of_lt hmod)
  exact⟨(gb,ga%gb),by dsimp only;omega,⟨by dsimp only;rw[←hg,Nat.gcd_comm gb (ga%gb),←Nat.gcd_rec,Nat.gcd_comm],by dsimp only;omega,by dsimp only;omega⟩,aW h0 [0] ⟨oe rfl rfl,rfl⟩⟩
 refine ex (sq ?_);have hb00:gb=0:=by omega
 rw[hb00,Nat.gcd_zero_right]at hg;refine rl (o1 ?_);have hn6:=nT (ga)
 refine ca (wA (zs:=(dg 4294967296 (ga))) (by omega) (aR (by omega) _) (zZ _)) fZ ⟨a1 rfl,rfl⟩ (.one (.t (sU false (dg 4294967296 (ga))))) ?_
 refine iM 1 (lQ (K:=((Int.gcd k k':Nat):Int)) (by omega) (aR (by omega) _) (by rw[cM (by omega),hg];rfl)) dE ⟨a1 rfl,a1 rfl,rfl⟩ ?_
 refine st ?_;refine nl (rt ?_)
 exact en (.inl rfl) rfl (bD (.agg (.cons (.id rfl) (.cons (.sl (trs:=aI (dg 4294967296 (((Int.gcd k k':Nat):Int)).natAbs)) rfl rfl (bP _) (aP _)) .nil)))) (by decide) (fun _=>fQ (((Int.gcd k k':Nat):Int))) rfl
theorem Xh {a b:Zi}{k k':Int}(ha:Zn a k) (hb:Zn b k'):aG false Tryz.prog 109 [] [gF a,gF b] (aU (.tup [kF (if k'=0 then 0 else k.fdiv k'),kF (if k'=0 then 0 else k.fmod k'),.one (tv (.int .i64 (if k'=0 then 20 else 0)))])):=by
 refine cC Tryz.func109 rfl Tryz.ntmps109 rfl aB rfl fun N w c0 h0=>?_
 have hkl:=ha.len
 have hkl':=hb.len
 refine sq (rl (bx 0 ?_));refine bx 1 ?_;refine al 2 ?_;refine al 3 ?_;refine o1 ?_;refine nl (sq (rl (ld ?_)))
 refine ca (iJ ha) mO ⟨aD rfl,rfl⟩ (kF (k)) ?_;refine st ?_;refine nl (sq (rl (ld ?_)));refine ca (iJ hb) mO ⟨aD rfl,rfl⟩ (kF (k')) ?_;refine st ?_
 refine nl (sq (sq (rl (o1 ?_))));refine ld ?_;refine o1 ?_;refine o1 ?_;refine nl ?_;refine bL rfl (fun h1=>?_) (fun h1=>?_)
 ·refine sq (rl (o1 ?_));refine o1 ?_;refine st ?_;refine st ?_;refine o1 ?_;refine nl (rt ?_);have hk0:k'=0:=by have:=Pu (k:=k') (by omega);omega
  exact en (.inl rfl) rfl (Ce (.cons (.agg (.cons (.id rfl) (.cons .nilf .nil))) (.cons (.agg (.cons (.id rfl) (.cons .nilf .nil))) (.cons (cU _) .nil)))) (by decide) (fun h=>by cases h) (by rw[if_pos hk0,if_pos hk0,if_pos hk0,←Fp];rfl)
 refine sk (sq ?_);have hkn:k'≠0:=Xi (by omega)
 have hva:0<vl 4294967296 (dg 4294967296 (k').natAbs):=by rw[cM (by omega)];omega
 refine rd [0,1,2,3] (fun i=>[11].contains i) mixed ?_
 refine dv 0 ?_;refine aO 1 ?_;refine dv 3 ?_;refine aO 4 ?_
 have hn2:=fJ (v:=vl 4294967296 (dg 4294967296 (k).natAbs)) (L:=(dg 4294967296 (k).natAbs).length) (by rw[cM (by omega)];exact bC _)
 refine aX 2 rfl (nD (by omega) (aR (by omega) _)) zY ⟨a1 rfl,rfl⟩ (.one (.t (sI false (dg 65536 (vl 4294967296 (dg 4294967296 (k).natAbs)))))) ?_
 have hn3:=fJ (v:=vl 4294967296 (dg 4294967296 (k').natAbs)) (L:=(dg 4294967296 (k').natAbs).length) (by rw[cM (by omega)];exact bC _)
 refine aX 5 rfl (nD (by omega) (aR (by omega) _)) zY ⟨a1 rfl,rfl⟩ (.one (.t (sI false (dg 65536 (vl 4294967296 (dg 4294967296 (k').natAbs)))))) ?_
 have hn4:=dO (B:=65536) (by omega) (Nat.div_le_self (vl 4294967296 (dg 4294967296 (k).natAbs)) (vl 4294967296 (dg 4294967296 (k').natAbs)))
 have hn5:=dO (B:=65536) (by omega) (Nat.mod_le (vl 4294967296 (dg 4294967296 (k).natAbs)) (vl 4294967296 (dg 4294967296 (k').natAbs)))
 refine aX 6 rfl (Lg (by omega) (by omega) hva) HJ ⟨a1 rfl,a1 rfl,rfl⟩ (.tup [.one (.t (sI false (dg 65536 ((vl 4294967296 (dg 4294967296 (k).natAbs))/(vl 4294967296 (dg 4294967296 (k').natAbs)))))),.one (.t (sI false (dg 65536 ((vl 4294967296 (dg 4294967296 (k).natAbs))%(vl 4294967296 (dg 4294967296 (k').natAbs))))))]) ?_
 refine df 7 ?_;refine df 8 ?_;refine df 9 ?_;refine eQ 10 (by kernel_rfl) rfl rfl aB rfl (by trivial) ?_ (fun h=>by first | rfl | cases h)
 refine eQ 11 (by kernel_rfl) rfl rfl aB rfl (by trivial) ?_ (fun h=>by first | rfl | cases h)
 refine aV ?_
 refine md (γ:=Unit) (fun _=>bS [(3,.one (.pt 0 0)),(4,.one (.pt 1 0)),(5,.one (.pt 2 0)),(6,.one (tv (.int .i64 0))),(9,.one (.pt 3 0)),(10,.one (.pt 4 0))]) (fun _=>([⟨50,0,[tv (.bool (aM (k'))),.t (sU false (dg 4294967296 (k').natAbs))]⟩,⟨50,0,[tv (.bool false),tv (.slice none 0 0)]⟩,⟨50,0,[tv (.bool false),tv (.slice none 0 0)]⟩,⟨50,0,[tv (.bool (aM (cD (aM k != aM k') (k.natAbs/k'.natAbs)))),.t (sU false (dg 4294967296 (cD (aM k != aM k') (k.natAbs/k'.natAbs)).natAbs))]⟩,⟨50,0,[tv (.bool (aM (cD (aM k) (k.natAbs%k'.natAbs)))),.t (sU false (dg 4294967296 (cD (aM k) (k.natAbs%k'.natAbs)).natAbs))]⟩]:List Ob).map some) (fun _=>True) ?_ fun _ _=>?_
 ·have hnq:=nT ((vl 4294967296 (dg 4294967296 (k).natAbs))/(vl 4294967296 (dg 4294967296 (k').natAbs)))
  have hLq:=wA (xs:=dg 65536 ((vl 4294967296 (dg 4294967296 (k).natAbs))/(vl 4294967296 (dg 4294967296 (k').natAbs)))) (zs:=dg 4294967296 ((vl 4294967296 (dg 4294967296 (k).natAbs))/(vl 4294967296 (dg 4294967296 (k').natAbs)))) (by omega) (aR (by omega) _) (zZ _)
  have hMq:=lQ (b:=aM k != aM k') (xs:=dg 4294967296 ((vl 4294967296 (dg 4294967296 (k).natAbs))/(vl 4294967296 (dg 4294967296 (k').natAbs)))) (K:=cD (aM k != aM k') (k.natAbs/k'.natAbs)) (by omega) (aR (by omega) _) (by simp only[cM (B:=4294967296) (by omega)] <;> rfl)
  have hnr:=nT ((vl 4294967296 (dg 4294967296 (k).natAbs))%(vl 4294967296 (dg 4294967296 (k').natAbs)))
  have hLr:=wA (xs:=dg 65536 ((vl 4294967296 (dg 4294967296 (k).natAbs))%(vl 4294967296 (dg 4294967296 (k').natAbs)))) (zs:=dg 4294967296 ((vl 4294967296 (dg 4294967296 (k).natAbs))%(vl 4294967296 (dg 4294967296 (k').natAbs)))) (by omega) (aR (by omega) _) (zZ _)
  have hMr:=lQ (b:=aM k) (xs:=dg 4294967296 ((vl 4294967296 (dg 4294967296 (k).natAbs))%(vl 4294967296 (dg 4294967296 (k').natAbs)))) (K:=cD (aM k) (k.natAbs%k'.natAbs)) (by omega) (aR (by omega) _) (by simp only[cM (B:=4294967296) (by omega)] <;> rfl)
  generalize dg 4294967296 ((vl 4294967296 (dg 4294967296 (k).natAbs))/(vl 4294967296 (dg 4294967296 (k').natAbs)))=zq at hLq hMq
  generalize dg 4294967296 ((vl 4294967296 (dg 4294967296 (k).natAbs))%(vl 4294967296 (dg 4294967296 (k').natAbs)))=zr at hLr hMr;refine rd [0,1,2,3] (fun i=>[16].contains i) mixed ?_
  refine dv 0 ?_;refine aO 1 ?_;refine dv 2 ?_;refine aO 3 ?_;refine dv 4 ?_;refine dv 5 ?_;refine dv 8 ?_;refine aO 9 ?_;refine dv 10 ?_
  refine WO.three (i:=6) (j:=13) (m:=14) (by kernel_rfl) ?_ ?_ ?_
  ·refine fG 6 rfl (hLq) fZ ⟨a1 rfl,rfl⟩ (.one (.t (sU false zq))) ?_;refine WO.three (i:=7) (j:=13) (m:=14) (by kernel_rfl) ?_ ?_ ?_
   ·refine fG 7 rfl (hMq) dE ⟨a1 rfl,a1 rfl,rfl⟩ (kF (cD (aM k != aM k') (k.natAbs/k'.natAbs))) ?_;refine WO.three (i:=11) (j:=13) (m:=14) (by kernel_rfl) ?_ ?_ ?_
    ·refine fG 11 rfl (hLr) fZ ⟨a1 rfl,rfl⟩ (.one (.t (sU false zr))) ?_;refine WO.three (i:=12) (j:=13) (m:=14) (by kernel_rfl) ?_ ?_ ?_
     ·refine fG 12 rfl (hMr) dE ⟨a1 rfl,a1 rfl,rfl⟩ (kF (cD (aM k) (k.natAbs%k'.natAbs))) ?_;refine WO.two (i:=13) (j:=14) (by kernel_rfl) ?_ ?_
      ·refine cG (key:=4) 13 rfl rfl aB rfl ⟨rfl,rfl,rfl,rfl,trivial⟩ ?_;refine fU (key:=5) 14 (by kernel_rfl) rfl rfl aB rfl ⟨rfl,rfl,rfl,rfl,trivial⟩ ?_
       refine cA 15 (by kernel_rfl) rfl rfl aB rfl rfl rfl rfl ⟨rfl,rfl,rfl,rfl,trivial⟩ ?_
       refine dst 16 ?_;refine aV ?_
       exact⟨(),trivial,aW h0 [1,2,3,4,5] ⟨oe rfl rfl,oe rfl rfl,oe rfl rfl,oe rfl rfl,oe rfl rfl,rfl⟩⟩
      refine cG (key:=4) 14 rfl rfl aB rfl ⟨rfl,rfl,rfl,rfl,trivial⟩ ?_;refine fU (key:=5) 13 (by kernel_rfl) rfl rfl aB rfl ⟨rfl,rfl,rfl,rfl,trivial⟩ ?_
      refine cA 15 (by kernel_rfl) rfl rfl aB rfl rfl rfl rfl ⟨rfl,rfl,rfl,rfl,trivial⟩ ?_
      refine dst 16 ?_;refine aV ?_
      exact⟨(),trivial,aW h0 [1,2,3,5,4] ⟨oe rfl rfl,oe rfl rfl,oe rfl rfl,oe rfl rfl,oe rfl rfl,rfl⟩⟩
     ·refine cG (key:=4) 13 rfl rfl aB rfl ⟨rfl,rfl,rfl,rfl,trivial⟩ ?_;refine WO.two (i:=12) (j:=14) (by kernel_rfl) ?_ ?_
      ·refine fG 12 rfl (hMr) dE ⟨a1 rfl,a1 rfl,rfl⟩ (kF (cD (aM k) (k.natAbs%k'.natAbs))) ?_
       refine fU (key:=5) 14 (by kernel_rfl) rfl rfl aB rfl ⟨rfl,rfl,rfl,rfl,trivial⟩ ?_
       refine cA 15 (by kernel_rfl) rfl rfl aB rfl rfl rfl rfl ⟨rfl,rfl,rfl,rfl,trivial⟩ ?_
       refine dst 16 ?_;refine aV ?_
       exact⟨(),trivial,aW h0 [1,2,3,4,5] ⟨oe rfl rfl,oe rfl rfl,oe rfl rfl,oe rfl rfl,oe rfl rfl,rfl⟩⟩
      refine cG (key:=5) 14 rfl rfl aB rfl ⟨rfl,rfl,rfl,rfl,trivial⟩ ?_;refine aX 12 rfl (hMr) dE ⟨a1 rfl,a1 rfl,rfl⟩ (kF (cD (aM k) (k.natAbs%k'.natAbs))) ?_
      refine cA 15 (by kernel_rfl) rfl rfl aB rfl rfl rfl rfl ⟨rfl,rfl,rfl,rfl,trivial⟩ ?_
      refine dst 16 ?_;refine aV ?_
      exact⟨(),trivial,aW h0 [1,2,3,4,5] ⟨oe rfl rfl,oe rfl rfl,oe rfl rfl,oe rfl rfl,oe rfl rfl,rfl⟩⟩
     refine cG (key:=4) 14 rfl rfl aB rfl ⟨rfl,rfl,rfl,rfl,trivial⟩ ?_;refine WO.two (i:=12) (j:=13) (by kernel_rfl) ?_ ?_
     ·refine fG 12 rfl (hMr) dE ⟨a1 rfl,a1 rfl,rfl⟩ (kF (cD (aM k) (k.natAbs%k'.natAbs))) ?_
      refine fU (key:=5) 13 (by kernel_rfl) rfl rfl aB rfl ⟨rfl,rfl,rfl,rfl,trivial⟩ ?_
      refine cA 15 (by kernel_rfl) rfl rfl aB rfl rfl rfl rfl ⟨rfl,rfl,rfl,rfl,trivial⟩ ?_
      refine dst 16 ?_;refine aV ?_
      exact⟨(),trivial,aW h0 [1,2,3,5,4] ⟨oe rfl rfl,oe rfl rfl,oe rfl rfl,oe rfl rfl,oe rfl rfl,rfl⟩⟩
     refine cG (key:=5) 13 rfl rfl aB rfl ⟨rfl,rfl,rfl,rfl,trivial⟩ ?_;refine aX 12 rfl (hMr) dE ⟨a1 rfl,a1 rfl,rfl⟩ (kF (cD (aM k) (k.natAbs%k'.natAbs))) ?_
     refine cA 15 (by kernel_rfl) rfl rfl aB rfl rfl rfl rfl ⟨rfl,rfl,rfl,rfl,trivial⟩ ?_
     refine dst 16 ?_;refine aV ?_
     exact⟨(),trivial,aW h0 [1,2,3,5,4] ⟨oe rfl rfl,oe rfl rfl,oe rfl rfl,oe rfl rfl,oe rfl rfl,rfl⟩⟩
    ·refine cG (key:=4) 13 rfl rfl aB rfl ⟨rfl,rfl,rfl,rfl,trivial⟩ ?_;refine WO.two (i:=11) (j:=14) (by kernel_rfl) ?_ ?_
     ·refine fG 11 rfl (hLr) fZ ⟨a1 rfl,rfl⟩ (.one (.t (sU false zr))) ?_;refine WO.two (i:=12) (j:=14) (by kernel_rfl) ?_ ?_
      ·refine fG 12 rfl (hMr) dE ⟨a1 rfl,a1 rfl,rfl⟩ (kF (cD (aM k) (k.natAbs%k'.natAbs))) ?_
       refine fU (key:=5) 14 (by kernel_rfl) rfl rfl aB rfl ⟨rfl,rfl,rfl,rfl,trivial⟩ ?_
       refine cA 15 (by kernel_rfl) rfl rfl aB rfl rfl rfl rfl ⟨rfl,rfl,rfl,rfl,trivial⟩ ?_
       refine dst 16 ?_;refine aV ?_
       exact⟨(),trivial,aW h0 [1,2,3,4,5] ⟨oe rfl rfl,oe rfl rfl,oe rfl rfl,oe rfl rfl,oe rfl rfl,rfl⟩⟩
      refine cG (key:=5) 14 rfl rfl aB rfl ⟨rfl,rfl,rfl,rfl,trivial⟩ ?_;refine aX 12 rfl (hMr) dE ⟨a1 rfl,a1 rfl,rfl⟩ (kF (cD (aM k) (k.natAbs%k'.natAbs))) ?_
      refine cA 15 (by kernel_rfl) rfl rfl aB rfl rfl rfl rfl ⟨rfl,rfl,rfl,rfl,trivial⟩ ?_
      refine dst 16 ?_;refine aV ?_
      exact⟨(),trivial,aW h0 [1,2,3,4,5] ⟨oe rfl rfl,oe rfl rfl,oe rfl rfl,oe rfl rfl,oe rfl rfl,rfl⟩⟩
     refine cG (key:=5) 14 rfl rfl aB rfl ⟨rfl,rfl,rfl,rfl,trivial⟩ ?_;refine aX 11 rfl (hLr) fZ ⟨a1 rfl,rfl⟩ (.one (.t (sU false zr))) ?_
     refine aX 12 rfl (hMr) dE ⟨a1 rfl,a1 rfl,rfl⟩ (kF (cD (aM k) (k.natAbs%k'.natAbs))) ?_
     refine cA 15 (by kernel_rfl) rfl rfl aB rfl rfl rfl rfl ⟨rfl,rfl,rfl,rfl,trivial⟩ ?_
     refine dst 16 ?_;refine aV ?_
     exact⟨(),trivial,aW h0 [1,2,3,4,5] ⟨oe rfl rfl,oe rfl rfl,oe rfl rfl,oe rfl rfl,oe rfl rfl,rfl⟩⟩
    refine cG (key:=4) 14 rfl rfl aB rfl ⟨rfl,rfl,rfl,rfl,trivial⟩ ?_;refine WO.two (i:=11) (j:=13) (by kernel_rfl) ?_ ?_
    ·refine fG 11 rfl (hLr) fZ ⟨a1 rfl,rfl⟩ (.one (.t (sU false zr))) ?_;refine WO.two (i:=12) (j:=13) (by kernel_rfl) ?_ ?_
     ·refine fG 12 rfl (hMr) dE ⟨a1 rfl,a1 rfl,rfl⟩ (kF (cD (aM k) (k.natAbs%k'.natAbs))) ?_
      refine fU (key:=5) 13 (by kernel_rfl) rfl rfl aB rfl ⟨rfl,rfl,rfl,rfl,trivial⟩ ?_
      refine cA 15 (by kernel_rfl) rfl rfl aB rfl rfl rfl rfl ⟨rfl,rfl,rfl,rfl,trivial⟩ ?_
      refine dst 16 ?_;refine aV ?_
      exact⟨(),trivial,aW h0 [1,2,3,5,4] ⟨oe rfl rfl,oe rfl rfl,oe rfl rfl,oe rfl rfl,oe rfl rfl,rfl⟩⟩
     refine cG (key:=5) 13 rfl rfl aB rfl ⟨rfl,rfl,rfl,rfl,trivial⟩ ?_;refine aX 12 rfl (hMr) dE ⟨a1 rfl,a1 rfl,rfl⟩ (kF (cD (aM k) (k.natAbs%k'.natAbs))) ?_
     refine cA 15 (by kernel_rfl) rfl rfl aB rfl rfl rfl rfl ⟨rfl,rfl,rfl,rfl,trivial⟩ ?_
     refine dst 16 ?_;refine aV ?_
     exact⟨(),trivial,aW h0 [1,2,3,5,4] ⟨oe rfl rfl,oe rfl rfl,oe rfl rfl,oe rfl rfl,oe rfl rfl,rfl⟩⟩
    refine cG (key:=5) 13 rfl rfl aB rfl ⟨rfl,rfl,rfl,rfl,trivial⟩ ?_;refine aX 11 rfl (hLr) fZ ⟨a1 rfl,rfl⟩ (.one (.t (sU false zr))) ?_
    refine aX 12 rfl (hMr) dE ⟨a1 rfl,a1 rfl,rfl⟩ (kF (cD (aM k) (k.natAbs%k'.natAbs))) ?_
    refine cA 15 (by kernel_rfl) rfl rfl aB rfl rfl rfl rfl ⟨rfl,rfl,rfl,rfl,trivial⟩ ?_
    refine dst 16 ?_;refine aV ?_
    exact⟨(),trivial,aW h0 [1,2,3,5,4] ⟨oe rfl rfl,oe rfl rfl,oe rfl rfl,oe rfl rfl,oe rfl rfl,rfl⟩⟩
   ·refine cG (key:=4) 13 rfl rfl aB rfl ⟨rfl,rfl,rfl,rfl,trivial⟩ ?_;refine WO.two (i:=7) (j:=14) (by kernel_rfl) ?_ ?_
    ·refine fG 7 rfl (hMq) dE ⟨a1 rfl,a1 rfl,rfl⟩ (kF (cD (aM k != aM k') (k.natAbs/k'.natAbs))) ?_;refine WO.two (i:=11) (j:=14) (by kernel_rfl) ?_ ?_
     ·refine fG 11 rfl (hLr) fZ ⟨a1 rfl,rfl⟩ (.one (.t (sU false zr))) ?_;refine WO.two (i:=12) (j:=14) (by kernel_rfl) ?_ ?_
      ·refine fG 12 rfl (hMr) dE ⟨a1 rfl,a1 rfl,rfl⟩ (kF (cD (aM k) (k.natAbs%k'.natAbs))) ?_
       refine fU (key:=5) 14 (by kernel_rfl) rfl rfl aB rfl ⟨rfl,rfl,rfl,rfl,trivial⟩ ?_
       refine cA 15 (by kernel_rfl) rfl rfl aB rfl rfl rfl rfl ⟨rfl,rfl,rfl,rfl,trivial⟩ ?_
       refine dst 16 ?_;refine aV ?_
       exact⟨(),trivial,aW h0 [1,2,3,4,5] ⟨oe rfl rfl,oe rfl rfl,oe rfl rfl,oe rfl rfl,oe rfl rfl,rfl⟩⟩
      refine cG (key:=5) 14 rfl rfl aB rfl ⟨rfl,rfl,rfl,rfl,trivial⟩ ?_;refine aX 12 rfl (hMr) dE ⟨a1 rfl,a1 rfl,rfl⟩ (kF (cD (aM k) (k.natAbs%k'.natAbs))) ?_
      refine cA 15 (by kernel_rfl) rfl rfl aB rfl rfl rfl rfl ⟨rfl,rfl,rfl,rfl,trivial⟩ ?_
      refine dst 16 ?_;refine aV ?_
      exact⟨(),trivial,aW h0 [1,2,3,4,5] ⟨oe rfl rfl,oe rfl rfl,oe rfl rfl,oe rfl rfl,oe rfl rfl,rfl⟩⟩
     refine cG (key:=5) 14 rfl rfl aB rfl ⟨rfl,rfl,rfl,rfl,trivial⟩ ?_;refine aX 11 rfl (hLr) fZ ⟨a1 rfl,rfl⟩ (.one (.t (sU false zr))) ?_
     refine aX 12 rfl (hMr) dE ⟨a1 rfl,a1 rfl,rfl⟩ (kF (cD (aM k) (k.natAbs%k'.natAbs))) ?_
     refine cA 15 (by kernel_rfl) rfl rfl aB rfl rfl rfl rfl ⟨rfl,rfl,rfl,rfl,trivial⟩ ?_
     refine dst 16 ?_;refine aV ?_
     exact⟨(),trivial,aW h0 [1,2,3,4,5] ⟨oe rfl rfl,oe rfl rfl,oe rfl rfl,oe rfl rfl,oe rfl rfl,rfl⟩⟩
    refine cG (key:=5) 14 rfl rfl aB rfl ⟨rfl,rfl,rfl,rfl,trivial⟩ ?_;refine aX 7 rfl (hMq) dE ⟨a1 rfl,a1 rfl,rfl⟩ (kF (cD (aM k != aM k') (k.natAbs/k'.natAbs))) ?_
    refine aX 11 rfl (hLr) fZ ⟨a1 rfl,rfl⟩ (.one (.t (sU false zr))) ?_;refine aX 12 rfl (hMr) dE ⟨a1 rfl,a1 rfl,rfl⟩ (kF (cD (aM k) (k.natAbs%k'.natAbs))) ?_
    refine cA 15 (by kernel_rfl) rfl rfl aB rfl rfl rfl rfl ⟨rfl,rfl,rfl,rfl,trivial⟩ ?_
    refine dst 16 ?_;refine aV ?_
    exact⟨(),trivial,aW h0 [1,2,3,4,5] ⟨oe rfl rfl,oe rfl rfl,oe rfl rfl,oe rfl rfl,oe rfl rfl,rfl⟩⟩
   refine cG (key:=4) 14 rfl rfl aB rfl ⟨rfl,rfl,rfl,rfl,trivial⟩ ?_;refine WO.two (i:=7) (j:=13) (by kernel_rfl) ?_ ?_
   ·refine fG 7 rfl (hMq) dE ⟨a1 rfl,a1 rfl,rfl⟩ (kF (cD (aM k != aM k') (k.natAbs/k'.natAbs))) ?_;refine WO.two (i:=11) (j:=13) (by kernel_rfl) ?_ ?_
    ·refine fG 11 rfl (hLr) fZ ⟨a1 rfl,rfl⟩ (.one (.t (sU false zr))) ?_;refine WO.two (i:=12) (j:=13) (by kernel_rfl) ?_ ?_
     ·refine fG 12 rfl (hMr) dE ⟨a1 rfl,a1 rfl,rfl⟩ (kF (cD (aM k) (k.natAbs%k'.natAbs))) ?_
      refine fU (key:=5) 13 (by kernel_rfl) rfl rfl aB rfl ⟨rfl,rfl,rfl,rfl,trivial⟩ ?_
      refine cA 15 (by kernel_rfl) rfl rfl aB rfl rfl rfl rfl ⟨rfl,rfl,rfl,rfl,trivial⟩ ?_
      refine dst 16 ?_;refine aV ?_
      exact⟨(),trivial,aW h0 [1,2,3,5,4] ⟨oe rfl rfl,oe rfl rfl,oe rfl rfl,oe rfl rfl,oe rfl rfl,rfl⟩⟩
     refine cG (key:=5) 13 rfl rfl aB rfl ⟨rfl,rfl,rfl,rfl,trivial⟩ ?_;refine aX 12 rfl (hMr) dE ⟨a1 rfl,a1 rfl,rfl⟩ (kF (cD (aM k) (k.natAbs%k'.natAbs))) ?_
     refine cA 15 (by kernel_rfl) rfl rfl aB rfl rfl rfl rfl ⟨rfl,rfl,rfl,rfl,trivial⟩ ?_
     refine dst 16 ?_;refine aV ?_
     exact⟨(),trivial,aW h0 [1,2,3,5,4] ⟨oe rfl rfl,oe rfl rfl,oe rfl rfl,oe rfl rfl,oe rfl rfl,rfl⟩⟩
    refine cG (key:=5) 13 rfl rfl aB rfl ⟨rfl,rfl,rfl,rfl,trivial⟩ ?_;refine aX 11 rfl (hLr) fZ ⟨a1 rfl,rfl⟩ (.one (.t (sU false zr))) ?_
    refine aX 12 rfl (hMr) dE ⟨a1 rfl,a1 rfl,rfl⟩ (kF (cD (aM k) (k.natAbs%k'.natAbs))) ?_
    refine cA 15 (by kernel_rfl) rfl rfl aB rfl rfl rfl rfl ⟨rfl,rfl,rfl,rfl,trivial⟩ ?_
    refine dst 16 ?_;refine aV ?_
    exact⟨(),trivial,aW h0 [1,2,3,5,4] ⟨oe rfl rfl,oe rfl rfl,oe rfl rfl,oe rfl rfl,oe rfl rfl,rfl⟩⟩
   refine cG (key:=5) 13 rfl rfl aB rfl ⟨rfl,rfl,rfl,rfl,trivial⟩ ?_;refine aX 7 rfl (hMq) dE ⟨a1 rfl,a1 rfl,rfl⟩ (kF (cD (aM k != aM k') (k.natAbs/k'.natAbs))) ?_
   refine aX 11 rfl (hLr) fZ ⟨a1 rfl,rfl⟩ (.one (.t (sU false zr))) ?_;refine aX 12 rfl (hMr) dE ⟨a1 rfl,a1 rfl,rfl⟩ (kF (cD (aM k) (k.natAbs%k'.natAbs))) ?_
   refine cA 15 (by kernel_rfl) rfl rfl aB rfl rfl rfl rfl ⟨rfl,rfl,rfl,rfl,trivial⟩ ?_
   refine dst 16 ?_;refine aV ?_
   exact⟨(),trivial,aW h0 [1,2,3,5,4] ⟨oe rfl rfl,oe rfl rfl,oe rfl rfl,oe rfl rfl,oe rfl rfl,rfl⟩⟩
  ·refine cG (key:=4) 13 rfl rfl aB rfl ⟨rfl,rfl,rfl,rfl,trivial⟩ ?_;refine WO.two (i:=6) (j:=14) (by kernel_rfl) ?_ ?_
   ·refine fG 6 rfl (hLq) fZ ⟨a1 rfl,rfl⟩ (.one (.t (sU false zq))) ?_;refine WO.two (i:=7) (j:=14) (by kernel_rfl) ?_ ?_
    ·refine fG 7 rfl (hMq) dE ⟨a1 rfl,a1 rfl,rfl⟩ (kF (cD (aM k != aM k') (k.natAbs/k'.natAbs))) ?_;refine WO.two (i:=11) (j:=14) (by kernel_rfl) ?_ ?_
     ·refine fG 11 rfl (hLr) fZ ⟨a1 rfl,rfl⟩ (.one (.t (sU false zr))) ?_;refine WO.two (i:=12) (j:=14) (by kernel_rfl) ?_ ?_
      ·refine fG 12 rfl (hMr) dE ⟨a1 rfl,a1 rfl,rfl⟩ (kF (cD (aM k) (k.natAbs%k'.natAbs))) ?_
       refine fU (key:=5) 14 (by kernel_rfl) rfl rfl aB rfl ⟨rfl,rfl,rfl,rfl,trivial⟩ ?_
       refine cA 15 (by kernel_rfl) rfl rfl aB rfl rfl rfl rfl ⟨rfl,rfl,rfl,rfl,trivial⟩ ?_
       refine dst 16 ?_;refine aV ?_
       exact⟨(),trivial,aW h0 [1,2,3,4,5] ⟨oe rfl rfl,oe rfl rfl,oe rfl rfl,oe rfl rfl,oe rfl rfl,rfl⟩⟩
      refine cG (key:=5) 14 rfl rfl aB rfl ⟨rfl,rfl,rfl,rfl,trivial⟩ ?_;refine aX 12 rfl (hMr) dE ⟨a1 rfl,a1 rfl,rfl⟩ (kF (cD (aM k) (k.natAbs%k'.natAbs))) ?_
      refine cA 15 (by kernel_rfl) rfl rfl aB rfl rfl rfl rfl ⟨rfl,rfl,rfl,rfl,trivial⟩ ?_
      refine dst 16 ?_;refine aV ?_
      exact⟨(),trivial,aW h0 [1,2,3,4,5] ⟨oe rfl rfl,oe rfl rfl,oe rfl rfl,oe rfl rfl,oe rfl rfl,rfl⟩⟩
     refine cG (key:=5) 14 rfl rfl aB rfl ⟨rfl,rfl,rfl,rfl,trivial⟩ ?_;refine aX 11 rfl (hLr) fZ ⟨a1 rfl,rfl⟩ (.one (.t (sU false zr))) ?_
     refine aX 12 rfl (hMr) dE ⟨a1 rfl,a1 rfl,rfl⟩ (kF (cD (aM k) (k.natAbs%k'.natAbs))) ?_
     refine cA 15 (by kernel_rfl) rfl rfl aB rfl rfl rfl rfl ⟨rfl,rfl,rfl,rfl,trivial⟩ ?_
     refine dst 16 ?_;refine aV ?_
     exact⟨(),trivial,aW h0 [1,2,3,4,5] ⟨oe rfl rfl,oe rfl rfl,oe rfl rfl,oe rfl rfl,oe rfl rfl,rfl⟩⟩
    refine cG (key:=5) 14 rfl rfl aB rfl ⟨rfl,rfl,rfl,rfl,trivial⟩ ?_;refine aX 7 rfl (hMq) dE ⟨a1 rfl,a1 rfl,rfl⟩ (kF (cD (aM k != aM k') (k.natAbs/k'.natAbs))) ?_
    refine aX 11 rfl (hLr) fZ ⟨a1 rfl,rfl⟩ (.one (.t (sU false zr))) ?_;refine aX 12 rfl (hMr) dE ⟨a1 rfl,a1 rfl,rfl⟩ (kF (cD (aM k) (k.natAbs%k'.natAbs))) ?_
    refine cA 15 (by kernel_rfl) rfl rfl aB rfl rfl rfl rfl ⟨rfl,rfl,rfl,rfl,trivial⟩ ?_
    refine dst 16 ?_;refine aV ?_
    exact⟨(),trivial,aW h0 [1,2,3,4,5] ⟨oe rfl rfl,oe rfl rfl,oe rfl rfl,oe rfl rfl,oe rfl rfl,rfl⟩⟩
   refine cG (key:=5) 14 rfl rfl aB rfl ⟨rfl,rfl,rfl,rfl,trivial⟩ ?_;refine aX 6 rfl (hLq) fZ ⟨a1 rfl,rfl⟩ (.one (.t (sU false zq))) ?_
   refine aX 7 rfl (hMq) dE ⟨a1 rfl,a1 rfl,rfl⟩ (kF (cD (aM k != aM k') (k.natAbs/k'.natAbs))) ?_;refine aX 11 rfl (hLr) fZ ⟨a1 rfl,rfl⟩ (.one (.t (sU false zr))) ?_
   refine aX 12 rfl (hMr) dE ⟨a1 rfl,a1 rfl,rfl⟩ (kF (cD (aM k) (k.natAbs%k'.natAbs))) ?_;refine cA 15 (by kernel_rfl) rfl rfl aB rfl rfl rfl rfl ⟨rfl,rfl,rfl,rfl,trivial⟩ ?_
   refine dst 16 ?_;refine aV ?_
   exact⟨(),trivial,aW h0 [1,2,3,4,5] ⟨oe rfl rfl,oe rfl rfl,oe rfl rfl,oe rfl rfl,oe rfl rfl,rfl⟩⟩
  refine cG (key:=4) 14 rfl rfl aB rfl ⟨rfl,rfl,rfl,rfl,trivial⟩ ?_;refine WO.two (i:=6) (j:=13) (by kernel_rfl) ?_ ?_
  ·refine fG 6 rfl (hLq) fZ ⟨a1 rfl,rfl⟩ (.one (.t (sU false zq))) ?_;refine WO.two (i:=7) (j:=13) (by kernel_rfl) ?_ ?_
   ·refine fG 7 rfl (hMq) dE ⟨a1 rfl,a1 rfl,rfl⟩ (kF (cD (aM k != aM k') (k.natAbs/k'.natAbs))) ?_;refine WO.two (i:=11) (j:=13) (by kernel_rfl) ?_ ?_
    ·refine fG 11 rfl (hLr) fZ ⟨a1 rfl,rfl⟩ (.one (.t (sU false zr))) ?_;refine WO.two (i:=12) (j:=13) (by kernel_rfl) ?_ ?_
     ·refine fG 12 rfl (hMr) dE ⟨a1 rfl,a1 rfl,rfl⟩ (kF (cD (aM k) (k.natAbs%k'.natAbs))) ?_
      refine fU (key:=5) 13 (by kernel_rfl) rfl rfl aB rfl ⟨rfl,rfl,rfl,rfl,trivial⟩ ?_
      refine cA 15 (by kernel_rfl) rfl rfl aB rfl rfl rfl rfl ⟨rfl,rfl,rfl,rfl,trivial⟩ ?_
      refine dst 16 ?_;refine aV ?_
      exact⟨(),trivial,aW h0 [1,2,3,5,4] ⟨oe rfl rfl,oe rfl rfl,oe rfl rfl,oe rfl rfl,oe rfl rfl,rfl⟩⟩
     refine cG (key:=5) 13 rfl rfl aB rfl ⟨rfl,rfl,rfl,rfl,trivial⟩ ?_;refine aX 12 rfl (hMr) dE ⟨a1 rfl,a1 rfl,rfl⟩ (kF (cD (aM k) (k.natAbs%k'.natAbs))) ?_
     refine cA 15 (by kernel_rfl) rfl rfl aB rfl rfl rfl rfl ⟨rfl,rfl,rfl,rfl,trivial⟩ ?_
     refine dst 16 ?_;refine aV ?_
     exact⟨(),trivial,aW h0 [1,2,3,5,4] ⟨oe rfl rfl,oe rfl rfl,oe rfl rfl,oe rfl rfl,oe rfl rfl,rfl⟩⟩
    refine cG (key:=5) 13 rfl rfl aB rfl ⟨rfl,rfl,rfl,rfl,trivial⟩ ?_;refine aX 11 rfl (hLr) fZ ⟨a1 rfl,rfl⟩ (.one (.t (sU false zr))) ?_
    refine aX 12 rfl (hMr) dE ⟨a1 rfl,a1 rfl,rfl⟩ (kF (cD (aM k) (k.natAbs%k'.natAbs))) ?_
    refine cA 15 (by kernel_rfl) rfl rfl aB rfl rfl rfl rfl ⟨rfl,rfl,rfl,rfl,trivial⟩ ?_
    refine dst 16 ?_;refine aV ?_
    exact⟨(),trivial,aW h0 [1,2,3,5,4] ⟨oe rfl rfl,oe rfl rfl,oe rfl rfl,oe rfl rfl,oe rfl rfl,rfl⟩⟩
   refine cG (key:=5) 13 rfl rfl aB rfl ⟨rfl,rfl,rfl,rfl,trivial⟩ ?_;refine aX 7 rfl (hMq) dE ⟨a1 rfl,a1 rfl,rfl⟩ (kF (cD (aM k != aM k') (k.natAbs/k'.natAbs))) ?_
   refine aX 11 rfl (hLr) fZ ⟨a1 rfl,rfl⟩ (.one (.t (sU false zr))) ?_;refine aX 12 rfl (hMr) dE ⟨a1 rfl,a1 rfl,rfl⟩ (kF (cD (aM k) (k.natAbs%k'.natAbs))) ?_
   refine cA 15 (by kernel_rfl) rfl rfl aB rfl rfl rfl rfl ⟨rfl,rfl,rfl,rfl,trivial⟩ ?_
   refine dst 16 ?_;refine aV ?_
   exact⟨(),trivial,aW h0 [1,2,3,5,4] ⟨oe rfl rfl,oe rfl rfl,oe rfl rfl,oe rfl rfl,oe rfl rfl,rfl⟩⟩
  refine cG (key:=5) 13 rfl rfl aB rfl ⟨rfl,rfl,rfl,rfl,trivial⟩ ?_;refine aX 6 rfl (hLq) fZ ⟨a1 rfl,rfl⟩ (.one (.t (sU false zq))) ?_
  refine aX 7 rfl (hMq) dE ⟨a1 rfl,a1 rfl,rfl⟩ (kF (cD (aM k != aM k') (k.natAbs/k'.natAbs))) ?_;refine aX 11 rfl (hLr) fZ ⟨a1 rfl,rfl⟩ (.one (.t (sU false zr))) ?_
  refine aX 12 rfl (hMr) dE ⟨a1 rfl,a1 rfl,rfl⟩ (kF (cD (aM k) (k.natAbs%k'.natAbs))) ?_;refine cA 15 (by kernel_rfl) rfl rfl aB rfl rfl rfl rfl ⟨rfl,rfl,rfl,rfl,trivial⟩ ?_
  refine dst 16 ?_;refine aV ?_
  exact⟨(),trivial,aW h0 [1,2,3,5,4] ⟨oe rfl rfl,oe rfl rfl,oe rfl rfl,oe rfl rfl,oe rfl rfl,rfl⟩⟩
 have hlq:(dg 4294967296 (cD (aM k != aM k') (k.natAbs/k'.natAbs)).natAbs).length≤(dg 4294967296 (k).natAbs).length:=by rw[jW];exact jO (Nat.div_le_self _ _)
 have hlr:(dg 4294967296 (cD (aM k) (k.natAbs%k'.natAbs)).natAbs).length≤(dg 4294967296 (k).natAbs).length:=by rw[jW];exact jO (Nat.mod_le _ _)
 refine sq (sq ?_);refine rd [0,1,2,3,4] (fun i=>[].contains i) mixed ?_
 refine aO 0 ?_;refine aX 1 rfl (pA (Zn.of (k:=cD (aM k) (k.natAbs%k'.natAbs)) (by omega))) Cf ⟨aD rfl,rfl⟩ (.one (tv (.int .i64 (cD (aM k) (k.natAbs%k'.natAbs)).sign))) ?_
 refine df 2 ?_;refine df 3 ?_;refine WD.split (t:=47) rfl rfl (fun h6=>?_) (fun h6=>?_)
 ·refine aO 4 ?_;refine aO 6 ?_
  refine aX 5 rfl (pA (Zn.of (k:=cD (aM k) (k.natAbs%k'.natAbs)) (by omega))) Cf ⟨aD rfl,rfl⟩ (.one (tv (.int .i64 (cD (aM k) (k.natAbs%k'.natAbs)).sign))) ?_
  refine aX 7 rfl (pA (Zn.of (k:=k') (by omega))) Cf ⟨aD rfl,rfl⟩ (.one (tv (.int .i64 (k').sign))) ?_
  refine df 8 ?_;refine df 9 ?_;refine aV ?_;refine bL rfl (fun h7=>?_) (fun h7=>?_)
  ·refine sq ?_;refine rd [0,1,2,3,4] (fun i=>[2,3].contains i) mixed ?_
   refine aO 0 ?_;have hol:(dg 4294967296 (1:Int).natAbs).length≤1:=dK (by omega) (by decide)
   refine aX 1 rfl (zW (n:=1) (by omega) (by omega)) Fu ⟨a1 rfl,rfl⟩ (kF (1:Int)) ?_
   refine aX 2 rfl (OO (Zn.of (k:=cD (aM k != aM k') (k.natAbs/k'.natAbs)) (by omega)) (Zn.of (k:=(1:Int)) (by omega))) UI ⟨aD rfl,aD rfl,rfl⟩ (kF (cD (aM k != aM k') (k.natAbs/k'.natAbs)-(1:Int))) ?_
   refine dst 3 ?_;refine aV ?_;refine rl (ld ?_);refine ld ?_
   refine ca (uH (Zn.of (k:=cD (aM k) (k.natAbs%k'.natAbs)) (by omega)) (Zn.of (k:=k') (by omega))) Ft ⟨aD rfl,aD rfl,rfl⟩ (kF (cD (aM k) (k.natAbs%k'.natAbs)+k')) ?_
   refine st ?_;refine nl (sq ?_);refine rd [0,2,3,4] (fun i=>[3,4].contains i) mixed ?_
   refine aO 0 ?_;refine aO 1 ?_;refine cA 2 (by kernel_rfl) rfl rfl aB rfl rfl rfl rfl ⟨rfl,rfl,rfl,rfl,trivial⟩ ?_
   refine dst 3 ?_;refine eQ 4 (by kernel_rfl) rfl rfl aB rfl (by trivial) ?_ (fun h=>by first | rfl | cases h)
   refine aV ?_;refine rt ?_;obtain⟨hd1,hd2⟩:=KK (a:=k) (b:=k') hkn rfl rfl h6 h7
   exact en (.inl rfl) rfl (Ce (.cons (.agg (.cons (.id rfl) (.cons (.id rfl) .nil))) (.cons (.agg (.cons (.id rfl) (.cons (.id rfl) .nil))) (.cons (cU _) .nil)))) (by decide) (fun h=>by cases h) (by rw[if_neg hkn,if_neg hkn,if_neg hkn,←hd1,←hd2];rfl)
  refine sk (sq ?_);refine rd [0,2,3,4] (fun i=>[3,4].contains i) mixed ?_
  refine aO 0 ?_;refine aO 1 ?_;refine cA 2 (by kernel_rfl) rfl rfl aB rfl rfl rfl rfl ⟨rfl,rfl,rfl,rfl,trivial⟩ ?_
  refine dst 3 ?_;refine eQ 4 (by kernel_rfl) rfl rfl aB rfl (by trivial) ?_ (fun h=>by first | rfl | cases h)
  refine aV ?_;refine rt ?_;obtain⟨hd1,hd2⟩:=Qs (a:=k) (b:=k') hkn rfl rfl (.inr (Decidable.byContradiction h7))
  exact en (.inl rfl) rfl (Ce (.cons (.agg (.cons (.id rfl) (.cons (.id rfl) .nil))) (.cons (.agg (.cons (.id rfl) (.cons (.id rfl) .nil))) (.cons (cU _) .nil)))) (by decide) (fun h=>by cases h) (by rw[if_neg hkn,if_neg hkn,if_neg hkn,←hd1,←hd2];rfl)
 refine cN 4 ?_;refine cN 6 ?_;refine cN 5 ?_;refine cN 7 ?_;refine cN 8 ?_;refine df 9 ?_;refine aV ?_;refine gD rfl (sk (sq ?_))
 refine rd [0,2,3,4] (fun i=>[3,4].contains i) mixed ?_
 refine aO 0 ?_;refine aO 1 ?_;refine cA 2 (by kernel_rfl) rfl rfl aB rfl rfl rfl rfl ⟨rfl,rfl,rfl,rfl,trivial⟩ ?_
 refine dst 3 ?_;refine eQ 4 (by kernel_rfl) rfl rfl aB rfl (by trivial) ?_ (fun h=>by first | rfl | cases h)
 refine aV ?_;refine rt ?_;obtain⟨hd1,hd2⟩:=Qs (a:=k) (b:=k') hkn rfl rfl (.inl (Decidable.byContradiction h6))
 exact en (.inl rfl) rfl (Ce (.cons (.agg (.cons (.id rfl) (.cons (.id rfl) .nil))) (.cons (.agg (.cons (.id rfl) (.cons (.id rfl) .nil))) (.cons (cU _) .nil)))) (by decide) (fun h=>by cases h) (by rw[if_neg hkn,if_neg hkn,if_neg hkn,←hd1,←hd2];rfl)
def ztr (o:Bool) (a:Zi):List Tr:=[.v (.bool a.s),sU o a.x]
section
variable {x:Cx}{g:Nat→FV}{ob:List (Option Ob)}{ws:List Zi}{z:Zi}{i j k1 e key:Nat}{y a b:AV}
end
section
variable {x:Cx}{g:Nat→FV}{ob:List (Option Ob)}
theorem Xj {i k t z n:Nat}{l:List Tr}{fv fv':FV}(t':Nat) (hi:Nat.blt i x.n=true) (hg:g i=fv) (ho:bX ob k=some ⟨t,z,l.map .t⟩) (hz:l.length=n*z) (hf:FzF (.sl k 0 n) (.s false t' z n l) fv fv'):Sub x g ob (bF g i fv') (ob.set k none):=Aa hi hg ho hf (Du t' ho hz)
end
section
variable {l:List Rat}{f:Rat→Rat}{k:Nat}
end
section
variable {l:List Rat}{k:Nat}{f:Int→Int}{z:List Int}
end
section
variable {x:Cx}{g:Nat→FV}{ob:List (Option Ob)}
end
section
variable {l:List Rat}{k i t:Nat}
def nU (l:List Bool) (k:Nat):Bool:=l.getD k false
end
def bT (xs:List Bool):List Tr:=xs.map fun b=>.v (.bool b)
theorem Xk (xs:List Bool):(bT xs).length=xs.length:=by simp[bT]
section
variable {x:Cx}{g:Nat→FV}{ob ob':List (Option Ob)}{Q:Post}{ops:Array Oper}{rest:List Oper}{d:Nat}{ty:TypeId}{pos:String}{af:Array Edge}{gd:Option (Nat×Bool)}{T:List (Nat×TI)}
end
structure Vn where
 y:Int
 e:Int
 l:Rat
 u:Rat
 x:Rat
 c:Rat
def UJ:Vn:=⟨0,0,0,0,0,0⟩
def cF (o:Bool) (v:Vn):List Tr:=.v (.int .i64 v.y)::.v (.int .i64 v.e)::((Fr4.of v.l).tr o++((Fr4.of v.u).tr false++((Fr4.of v.x).tr false++(Fr4.of v.c).tr false)))
theorem cQ (o:Bool) (v:Vn):(cF o v).length=18:=rfl
def bQ (l:List Vn) (i:Nat):Vn:=l.getD i UJ
def dG (o o':Bool) (l:List Vn):Tr:=.s o 64 18 l.length (l.flatMap (cF o'))
def eM (o:Bool) (u:Ur):List Tr:=.v (.int .i64 u.v)::.v (.int .i64 u.e)::.v (.int .i64 u.y)::(Fr4.of u.n).tr o
theorem eF (o:Bool) (u:Ur):(eM o u).length=7:=rfl
def UK:Ur:=⟨0,0,0,0⟩
def fC (l:List Ur) (i:Nat):Ur:=l.getD i UK
def dA (o o':Bool) (l:List Ur):Tr:=.s o 58 7 l.length (l.flatMap (eM o'))
structure Rl where
 u:Rat
 b:List Rat
def UL:Rl:=⟨0,[]⟩
def rlt (r:Rl):List Tr:=(Fr4.of r.u).tr false++[sQ false (r.b.map Fr4.of)]
theorem gZ (r:Rl):(rlt r).length=5:=rfl
def rA (l:List Rl) (i:Nat):Rl:=l.getD i UL
def dJ (o:Bool) (l:List Rl):Tr:=.s o 62 5 l.length (l.flatMap rlt)
structure Yr where
 m:List Bool
 b:List Fr4
 l:Fr4
def HK:Yr:=⟨[],[],CQ⟩
def gU (xs:List Bool):Tr:=.s false 4 1 xs.length (bT xs)
def eG (y:Yr):List Tr:=gU y.m::sQ false y.b::y.l.tr false
theorem dS (y:Yr):(eG y).length=6:=rfl
def aK (l:List Yr) (i:Nat):Yr:=l.getD i HK
def kY (l:List Yr):Tr:=.s false 67 6 l.length (l.flatMap eG)
section
variable {i k:Nat}
theorem lE {l:List Vn}(h:i<l.length):l[i]? =some (bQ l i):=by simp[bQ,h]
theorem tD {l:List Vn}(h:i<l.length):bQ l i∈l:=mP h
theorem gA {l:List Ur}(h:i<l.length):l[i]? =some (fC l i):=by simp[fC,h]
theorem iC {l:List Ur}(h:i<l.length):fC l i∈l:=mP h
theorem tE {l:List Rl}(h:i<l.length):l[i]? =some (rA l i):=by simp[rA,h]
theorem cY {l:List Yr}(h:i<l.length):l[i]? =some (aK l i):=by simp[aK,h]
theorem fR {l:List Yr}(h:i<l.length):aK l i∈l:=mP h
end
def qt (q:Rat):List Tr:=(Fr4.of q).tr false
theorem mG (q:Rat):(qt q).length=4:=rfl
def fD (l:List Rat) (i:Nat):Rat:=l.getD i 0
theorem tF {l:List Rat}{i:Nat}(h:i<l.length):l[i]? =some (fD l i):=by simp[fD,h]
theorem pB {l:List Rat}{i:Nat}(h:i<l.length):cZ (l.map Fr4.of) i=Fr4.of (fD l i):=by simp[cZ,fD,h]
def eO (x:List (Int×Rat)×Int×Bool):Tr:=.p true 137 [sR 102 x.1,.v (.int .i64 x.2.1),.v (.bool x.2.2)]
def dM (l:List (List (Int×Rat)×Int×Bool)) (i:Nat):List (Int×Rat)×Int×Bool:=l.getD i ([],0,false)
theorem Ih {l:List (List (Int×Rat)×Int×Bool)}{i:Nat}(h:i<l.length):l[i]? =some (dM l i):=by simp[dM,h]
section
variable {α β:Type}{f:α→β}{p:β→Bool}{L:List α}{x:α}
theorem KL (hx:x∈L) (h:∀z∈L,p (f z)=true↔z=x):dD p (L.map f)<L.length∧L[dD p (L.map f)]? =some x:=by
 induction L with
 | nil=>cases hx
 | cons z L ih=>
  rw[List.map_cons]
  unfold dD
  by_cases hz:z=x
  ·subst hz
   rw[if_pos ((h z (List.mem_cons_self ..)).2 rfl)]
   simp
  rw[if_neg (fun h9=>hz ((h z (List.mem_cons_self ..)).1 h9))]
  have hx2:x∈L:=by
   rcases List.mem_cons.1 hx with h9 | h9
   ·exact absurd h9.symm hz
   exact h9
  obtain⟨h1,h2⟩:=ih hx2 fun w hw=>h w (List.mem_cons_of_mem _ hw)
  exact⟨by rw[List.length_cons];omega,by rw[List.getElem?_cons_succ];exact h2⟩
theorem Cg {g:α→β}{i:Nat}(hn:L.Nodup) (hi:L[i]? =some x) (h:∀z∈L,z≠x→f z=g z):(L.map f).set i (g x)=L.map g:=by
 induction L generalizing i with
 | nil=>simp at hi
 | cons z L ih=>
  obtain⟨hz,hn⟩:=List.nodup_cons.1 hn
  cases i with
  | zero=>
   simp at hi
   subst hi
   rw[List.map_cons,List.set_cons_zero,List.map_cons]
   congr 1
   refine List.map_congr_left fun w hw=>h w (List.mem_cons_of_mem _ hw) fun e=>hz (e▸hw)
  | succ i=>
   rw[List.getElem?_cons_succ]at hi
   rw[List.map_cons,List.set_cons_succ,ih hn hi fun w hw=>h w (List.mem_cons_of_mem _ hw),List.map_cons,h z (List.mem_cons_self ..) fun e=>hz (e▸List.mem_of_getElem? hi)]
end
def Rg.vn (R:Rg) (U:List Ur) (x c:Nat→Nat→Rat) (p:Nat×Nat):Vn:=⟨p.1,p.2,R.los p.1 p.2,cS U p.1 p.2,x p.1 p.2,c p.1 p.2⟩
def Rg.vns (R:Rg) (U:List Ur) (x c:Nat→Nat→Rat) (L:List (Nat×Nat)):List Vn:=L.map (R.vn U x c)
def Rg.rl (R:Rg) (U:List Ur) (y:Nat):Rl:=⟨cV U y,(List.range R.E).map fun(e:Nat)=>dQ U y e⟩
def Rg.rls (R:Rg) (U:List Ur) (k:Nat):List Rl:=(List.range k).map (R.rl U)
def cP (y e:Int) (v:Vn):Bool:=decide (v.y=y)&&decide (v.e=e)
section
variable {R:Rg}{U U':List Ur}{x x' c c':Nat→Nat→Rat}{L:List (Nat×Nat)}{p:Nat×Nat}{k y e t:Nat}{m:Rat}
theorem dP:(R.vns U x c L).length=L.length:=dF ..
theorem yJ (hp:p∈L):dD (cP p.1 p.2) (R.vns U x c L)<L.length∧L[dD (cP p.1 p.2) (R.vns U x c L)]? =some p:=by
 refine KL hp fun z _=>?_
 unfold cP Rg.vn
 simp only[Bool.and_eq_true,decide_eq_true_eq]
 constructor
 ·rintro⟨h1,h2⟩
  exact Prod.ext (by omega) (by omega)
 rintro rfl
 exact⟨rfl,rfl⟩
theorem Fv (hn:L.Nodup) (hp:p∈L) (h:∀q∈L,q≠p→R.vn U x c q=R.vn U' x' c' q):(R.vns U x c L).set (dD (cP p.1 p.2) (R.vns U x c L)) (R.vn U' x' c' p)=R.vns U' x' c' L:=Cg hn (yJ hp).2 h
theorem Ab (hp:p∈L):(R.vns U x c L)[dD (cP p.1 p.2) (R.vns U x c L)]? =some (R.vn U x c p):=by
 have h:(L.map (R.vn U x c))[dD (cP p.1 p.2) (R.vns U x c L)]? =some (R.vn U x c p):=by rw[List.getElem?_map,(yJ hp).2];rfl
 exact h
theorem yK {y e y' e':Int}(h:¬(y=y'∧e=e')):cS (Rg.us U y e t m) y' e'=cS U y' e':=by
 unfold Rg.us
 split
 ·rw[Ac,if_neg h]
 rfl
theorem Xl {y e:Int}(h:0<m):cS (Rg.us U y e t m) y e=cS U y e+m:=by rw[lF h,Ac,if_pos ⟨rfl,rfl⟩]
theorem KM (hn:L.Nodup) (hp:p∈L) (hm:0<m):(R.vns U x c L).set (dD (cP p.1 p.2) (R.vns U x c L)) ⟨p.1,p.2,R.los p.1 p.2,cS U p.1 p.2+m,x p.1 p.2,c p.1 p.2⟩=R.vns (Rg.us U p.1 p.2 t m) x c L:=by
 have:=Fv (R:=R) (U:=U) (U':=Rg.us U p.1 p.2 t m) (x:=x) (x':=x) (c:=c) (c':=c) hn hp fun q _ hq=>by
  unfold Rg.vn
  rw[yK fun h9=>hq (Prod.ext (by omega) (by omega))]
 rw[←this]
 unfold Rg.vn
 rw[Xl hm]
theorem pC:(R.rls U k).length=k:=by simp[Rg.rls]
theorem UM (h:y≠t){v e:Int}:R.rl (Rg.us U v e t m) y=R.rl U y:=by
 unfold Rg.us
 split
 ·unfold Rg.rl
  rw[Fw,if_neg (by omega)]
  congr 1
  refine List.map_congr_left fun e' _=>?_
  rw[Ad,if_neg (by omega)]
 rfl
theorem OT (h:k≤t){v e:Int}:R.rls (Rg.us U v e t m) k=R.rls U k:=List.map_congr_left fun y hy=>UM (by have:=List.mem_range.1 hy;omega)
end
def Rg.ms (R:Rg) (t:Nat):List Bool:=(List.range R.E).map (R.mem t)
def Rg.bs (R:Rg) (t:Nat):List Rat:=(List.range R.E).map (R.base t)
def Rg.by9 (R:Rg) (U:List Ur) (t:Nat):List Rat:=(List.range R.E).map fun(e:Nat)=>dQ U t e
def Rg.lp (R:Rg) (e:Nat):Nat→Int×Bool
 | 0=>(0,false)
 | t+1=>bif R.isV t e then((t:Int),true)else R.lp e t
def Rg.own (R:Rg) (U:List Ur) (I:List Nat) (t:Nat):List (List (Int×Rat)×Int×Bool):=(List.range R.E).map fun e=>(R.wl U e I,(R.lp e t).1,(R.lp e t).2)
section
variable {R:Rg}{U:List Ur}{x c:Nat→Nat→Rat}{N y e e' t k:Nat}{m:Rat}{I:List Nat}
open Rg
theorem Ae {α:Type}{f g:Nat→α}{E:Nat}(he:e<E) (h:∀z,z<E→z≠e→f z=g z):((List.range E).map f).set e (g e)=(List.range E).map g:=
 Cg List.nodup_range (by rw[List.getElem?_range he]) fun z hz hne=>h z (List.mem_range.1 hz) hne
theorem rK {α:Type}{f:Nat→α}{E:Nat}{d:α}(he:e<E):((List.range E).map f).getD e d=f e:=by simp[he]
theorem pD (he:e<R.E):fD (R.by9 U t) e=dQ U t e:=rK he
theorem nV (he:e<R.E):fD (R.bs t) e=R.base t e:=rK he
theorem Fx (he:e<R.E):dM (R.own U I t) e=(R.wl U e I,(R.lp e t).1,(R.lp e t).2):=rK he
theorem rX (he:e<R.E):nU (R.ms t) e=R.mem t e:=rK he
theorem uK:(R.by9 U t).length=R.E:=by simp[Rg.by9]
theorem nW:(R.bs t).length=R.E:=by simp[Rg.bs]
theorem kR:(R.own U I t).length=R.E:=by simp[Rg.own]
theorem Lj:(R.ms t).length=R.E:=by simp[Rg.ms]
theorem Xm (h:0<m){v:Int}:cV (us U v e t m) t=cV U t+m:=by rw[lF h,Fw,if_pos rfl]
theorem OU (h:0<m){v:Int}:dQ (us U v e t m) t e=dQ U t e+m:=by rw[lF h,Ad,if_pos ⟨rfl,rfl⟩]
theorem Xn (h:e'≠e){v:Int}:dQ (us U v e t m) t e'=dQ U t e':=by
 unfold Rg.us
 split
 ·rw[Ad,if_neg (by omega)]
 rfl
theorem Xo (he:e<R.E) (hm:0<m){v:Int}:(R.by9 U t).set e (dQ U t e+m)=R.by9 (us U v e t m) t:=by
 rw[←OU hm (v:=v)]
 exact Ae (f:=fun(e:Nat)=>dQ U t e) (g:=fun(e':Nat)=>dQ (us U v e t m) t e') he fun z _ hne=>(Xn hne).symm
theorem OV (he:e<R.E) (hI:I.Pairwise (· < ·)) (h0:∀i∈I,0≤R.left U i e) (hy:y∈I) (hm:0<m) (hle:m≤R.left U y e):(R.own U I t).set e ((aS (y:Int) (R.wl U e I) m).1.filter (fun x=> !nX x.1 x.2),(R.lp e t).1,(R.lp e t).2)=R.own (us U y e t m) I t:=by
 rw[Qt (t:=t) hm hle h0 hI hy]
 exact Ae (f:=fun e=>(R.wl U e I,(R.lp e t).1,(R.lp e t).2)) (g:=fun e'=>(R.wl (us U y e t m) e' I,(R.lp e' t).1,(R.lp e' t).2)) he fun z _ hne=>by
  have:R.wl U z I=R.wl (us U y e t m) z I:=Ch fun j _=>(nY (fun h9=>hne h9.2.symm)).symm
  rw[this]
theorem UN {I:List Nat}(h:∀i∈I,Sz 300 (R.left U i e)):StOk (R.wl U e I) I.length (301*I.length):=by
 induction I with
 | nil=>exact⟨fun x hx=>(by cases hx),bC _,bC _⟩
 | cons i I ih=>
  obtain⟨h1,h2,h3⟩:=ih fun j hj=>h j (List.mem_cons_of_mem _ hj)
  by_cases hp:0<R.left U i e
  ·rw[jY hp]
   have h4:=mH.1 (h i (List.mem_cons_self ..))
   refine⟨fun x hx=>?_,by simp only[List.length_cons];omega,?_⟩
   ·rcases List.mem_cons.1 hx with rfl | hx
    ·exact hp
    exact h1 x hx
   simp only[List.map_cons,gP,List.sum_cons,List.length_cons,wt]at h3⊢
   omega
  rw[mI hp]
  exact⟨h1,by simp only[List.length_cons];omega,by simp only[List.length_cons];omega⟩
theorem CS (h:(y,e)∈R.vl k) (hm:0<m){v:Vn}(hv:bQ (R.vns U x c (R.vl k)) (dD (cP (y:Int) (e:Int)) (R.vns U x c (R.vl k)))=v):(R.vns U x c (R.vl k)).set (dD (cP (y:Int) (e:Int)) (R.vns U x c (R.vl k))) ⟨v.y,v.e,v.l,v.u+m,v.x,v.c⟩=R.vns (us U y e t m) x c (R.vl k):=by
 have h1:=Ab (R:=R) (U:=U) (x:=x) (c:=c) h
 have h2:v=R.vn U x c (y,e):=by
  rw[←hv,bQ,List.getD_eq_getElem?_getD,h1]
  rfl
 rw[h2]
 exact KM (p:=(y,e)) (hG k) h hm
theorem OW (h:(y,e)∈R.vl k):bQ (R.vns U x c (R.vl k)) (dD (cP (y:Int) (e:Int)) (R.vns U x c (R.vl k)))=R.vn U x c (y,e):=by
 have h1:=Ab (R:=R) (U:=U) (x:=x) (c:=c) h
 rw[bQ,List.getD_eq_getElem?_getD,h1]
 rfl
theorem Fy {v e:Int}:(us U v e t m).length≤U.length+1:=by
 unfold Rg.us
 split <;> simp
end
def Rg.vlk (R:Rg) (t e:Nat):List (Nat×Nat):=R.vl t++((List.range e).filter (R.isV t)).map fun e=>(t,e)
def Rg.own1 (R:Rg) (U:List Ur) (t k:Nat):List (List (Int×Rat)×Int×Bool):=(List.range R.E).map fun e=>if e<k then(R.wl U e (R.I t++[t]),(R.lp e (t+1)).1,(R.lp e (t+1)).2)else(R.wl U e (R.I t),(R.lp e t).1,(R.lp e t).2)
def Rg.own2 (R:Rg) (U:List Ur) (t k:Nat):List (List (Int×Rat)×Int×Bool):=(List.range R.E).map fun e=>if e<k then(R.wl U e (R.I (t+1)),(R.lp e (t+1)).1,(R.lp e (t+1)).2)else(R.wl U e (R.I t++[t]),(R.lp e (t+1)).1,(R.lp e (t+1)).2)
def Rg.ex (R:Rg) (U:List Ur) (k y e:Nat):Rat:=if y+R.f<k then R.left U y e else 0
def Rg.exk (R:Rg) (U:List Ur) (t e:Nat) (b:Bool) (y e':Nat):Rat:=if e'<e∨(e'=e∧b=true)then R.ex U (t+1) y e' else R.ex U t y e'
section
variable {R:Rg}{U:List Ur}{N y e e' t k:Nat}{p:Ur→Bool}
open Rg
theorem wB (h:∀u∈U,p u=false):lW U p=0:=by
 unfold lW
 rw[List.filter_eq_nil_iff.2 fun u hu=>by rw[h u hu];simp]
 rfl
theorem KN {u:Ur}(h:u∈R.use U y e t):u∈U∨(u.v=y∧u.e=e∧u.y=t):=by
 unfold Rg.use Rg.us at h
 split at h
 ·rcases List.mem_append.1 h with h | h
  ·exact .inl h
  rw[List.mem_singleton]at h
  subst h
  exact .inr ⟨rfl,rfl,rfl⟩
 exact .inl h
theorem Lk {u:Ur}:∀(L:List (Nat×Nat)) (V:List Ur),u∈L.foldl (fun U p=>R.use U p.1 p.2 t) V→u∈V∨∃p∈L,u.v=(p.1:Int)∧u.e=(p.2:Int)∧u.y=t
 | [],V,h=>.inl h
 | p::L,V,h=>by
  rw[List.foldl_cons]at h
  rcases Lk L _ h with h | ⟨q,hq,h⟩
  ·rcases KN h with h | h
   ·exact .inl h
   exact .inr ⟨p,List.mem_cons_self ..,h⟩
  exact .inr ⟨q,List.mem_cons_of_mem _ hq,h⟩
theorem Af {u:Ur}:∀{k:Nat},u∈R.run k→∃y e t:Nat,u.v=y∧u.e=e∧u.y=t∧y<t∧t<k∧R.may t (y,e)=true∧e<R.E
 | 0,h=>by cases h
 | k+1,h=>by
  rcases Lk _ _ h with h | ⟨p,hp,h1,h2,h3⟩
  ·obtain⟨y,e,t,h1,h2,h3,h4,h5,h6⟩:=Af (k:=k) h
   exact⟨y,e,t,h1,h2,h3,h4,by omega,h6⟩
  rw[List.mem_filter,gK]at hp
  exact⟨p.1,p.2,k,h1,h2,h3,hp.1.1,by omega,hp.2,hp.1.2.1⟩
theorem Fz (h:k≤y+1):cS (R.run k) y e=0:=wB fun u hu=>by
 obtain⟨y',e',t',h1,h2,h3,h4,h5,_⟩:=Af hu
 have:decide (u.v=(y:Int))=false:=decide_eq_false (by omega)
 simp[this]
theorem Ll (h:k≤y+1):R.left (R.run k) y e=R.los y e:=by
 unfold Rg.left
 rw[Fz h]
 grind
theorem Qu (h:k≤y):cV (R.run k) y=0:=wB fun u hu=>by
 obtain⟨y',e',t',h1,h2,h3,h4,h5,_⟩:=Af hu
 exact decide_eq_false (by omega)
theorem Qv {e:Int}(h:k≤y):dQ (R.run k) y e=0:=wB fun u hu=>by
 obtain⟨y',e',t',h1,h2,h3,h4,h5,_⟩:=Af hu
 have:decide (u.y=(y:Int))=false:=decide_eq_false (by omega)
 simp[this]
theorem Xp (h:R.may t (y,e)=false):R.left (R.step U t) y e=R.left U y e:=by
 unfold Rg.step
 exact wC (p:=(y,e)) _ _ fun hm=>by
  have:=(List.mem_filter.1 hm).2
  rw[h]at this
  cases this
theorem Lm:R.ex (R.step U t) t=R.ex U t:=by
 funext y e
 unfold Rg.ex
 by_cases h:y+R.f<t
 ·rw[if_pos h,if_pos h]
  refine Xp ?_
  unfold Rg.may
  have:decide (t≤y+R.f)=false:=decide_eq_false (by omega)
  simp[this]
 rw[if_neg h,if_neg h]
theorem Xq (h:t≤y):R.ex U t y e=0:=if_neg (by omega)
theorem HM:∀{t:Nat},(R.lp e t).2=true→(R.lp e t).1<(t:Int)
 | 0,h=>by cases h
 | t+1,h=>by
  unfold Rg.lp at h⊢
  cases hv:R.isV t e
  ·rw[hv]at h
   have:=HM (t:=t) h
   show(R.lp e t).1<_
   omega
  show(t:Int)<_
  omega
theorem Ci:R.vlk t 0=R.vl t:=by simp[Rg.vlk]
theorem Qw:R.vlk t R.E=R.vl (t+1):=rfl
theorem Qx (h:R.isV t e=true):R.vlk t (e+1)=R.vlk t e++[(t,e)]:=by
 unfold Rg.vlk
 rw[List.range_succ,List.filter_append,List.filter_cons_of_pos h]
 simp
theorem Xr (h:R.isV t e=false):R.vlk t (e+1)=R.vlk t e:=by
 unfold Rg.vlk
 rw[List.range_succ,List.filter_append,List.filter_cons_of_neg (by simp[h])]
 simp
theorem Xs:R.own1 U t 0=R.own U (R.I t) t:=by
 unfold Rg.own1 Rg.own
 exact List.map_congr_left fun e _=>if_neg (by omega)
theorem CT:R.own1 U t R.E=R.own2 U t 0:=by
 unfold Rg.own1 Rg.own2
 exact List.map_congr_left fun e he=>by rw[if_pos (List.mem_range.1 he),if_neg (by omega)]
theorem CU:R.own2 U t R.E=R.own U (R.I (t+1)) (t+1):=by
 unfold Rg.own2 Rg.own
 exact List.map_congr_left fun e he=>if_pos (List.mem_range.1 he)
theorem Ln (he:e<R.E):dM (R.own1 U t e) e=(R.wl U e (R.I t),(R.lp e t).1,(R.lp e t).2):=by
 have h:=rK (f:=fun e'=>if e'<e then(R.wl U e' (R.I t++[t]),(R.lp e' (t+1)).1,(R.lp e' (t+1)).2)else(R.wl U e' (R.I t),(R.lp e' t).1,(R.lp e' t).2)) (d:=([],0,false)) he
 rw[if_neg (by omega)]at h
 exact h
theorem CV (he:e<R.E):dM (R.own2 U t e) e=(R.wl U e (R.I t++[t]),(R.lp e (t+1)).1,(R.lp e (t+1)).2):=by
 have h:=rK (f:=fun e'=>if e'<e then(R.wl U e' (R.I (t+1)),(R.lp e' (t+1)).1,(R.lp e' (t+1)).2)else(R.wl U e' (R.I t++[t]),(R.lp e' (t+1)).1,(R.lp e' (t+1)).2)) (d:=([],0,false)) he
 rw[if_neg (by omega)]at h
 exact h
theorem iK:(R.own1 U t k).length=R.E:=by simp[Rg.own1]
theorem Cj:(R.own2 U t k).length=R.E:=by simp[Rg.own2]
theorem Lo (he:e<R.E):(R.own1 U t e).set e (R.wl U e (R.I t++[t]),(R.lp e (t+1)).1,(R.lp e (t+1)).2)=R.own1 U t (e+1):=by
 have h:=Ae (f:=fun e'=>if e'<e then(R.wl U e' (R.I t++[t]),(R.lp e' (t+1)).1,(R.lp e' (t+1)).2)else(R.wl U e' (R.I t),(R.lp e' t).1,(R.lp e' t).2)) (g:=fun e'=>if e'<e+1 then(R.wl U e' (R.I t++[t]),(R.lp e' (t+1)).1,(R.lp e' (t+1)).2)else(R.wl U e' (R.I t),(R.lp e' t).1,(R.lp e' t).2)) he fun z _ hne=>by
  by_cases h:z<e
  ·rw[if_pos h,if_pos (by omega)]
  rw[if_neg h,if_neg (by omega)]
 rw[if_pos (by omega)]at h
 exact h
theorem CW (he:e<R.E):(R.own2 U t e).set e (R.wl U e (R.I (t+1)),(R.lp e (t+1)).1,(R.lp e (t+1)).2)=R.own2 U t (e+1):=by
 have h:=Ae (f:=fun e'=>if e'<e then(R.wl U e' (R.I (t+1)),(R.lp e' (t+1)).1,(R.lp e' (t+1)).2)else(R.wl U e' (R.I t++[t]),(R.lp e' (t+1)).1,(R.lp e' (t+1)).2)) (g:=fun e'=>if e'<e+1 then(R.wl U e' (R.I (t+1)),(R.lp e' (t+1)).1,(R.lp e' (t+1)).2)else(R.wl U e' (R.I t++[t]),(R.lp e' (t+1)).1,(R.lp e' (t+1)).2)) he fun z _ hne=>by
  by_cases h:z<e
  ·rw[if_pos h,if_pos (by omega)]
  rw[if_neg h,if_neg (by omega)]
 rw[if_pos (by omega)]at h
 exact h
theorem Xt:R.wl U e (R.I t++[t])=R.wl U e (R.I t)++if 0<R.left U t e then [((t:Int),R.left U t e)]else []:=by
 rw[KO]
 congr 1
 by_cases h:0<R.left U t e
 ·rw[jY h,if_pos h]
  rfl
 rw[mI h,if_neg h]
 rfl
theorem KP (he:e<R.E) (h0:∀e,R.left U t e=R.los t e) (hv:R.isV t e=false):R.own1 U t (e+1)=R.own1 U t e:=by
 rw[←Lo he]
 have h1:R.wl U e (R.I t++[t])=R.wl U e (R.I t):=by rw[Xt,h0,Dv hv,if_neg (by grind),List.append_nil]
 have h2:R.lp e (t+1)=R.lp e t:=by
  show(bif R.isV t e then _ else _)=_
  rw[hv]
  rfl
 rw[h1,h2,←Ln he]
 apply List.ext_getElem?
 intro i
 rw[List.getElem?_set]
 split
 ·rename_i hi
  subst hi
  rw[if_pos (by rw[iK];exact he),Ih (by rw[iK];exact he)]
 rfl
theorem OX (hv:R.isV t e=true):R.lp e (t+1)=((t:Int),true):=by
 show(bif R.isV t e then _ else _)=_
 rw[hv]
 rfl
theorem CX:R.exk U t 0 false=R.ex U t:=by
 funext y e
 exact if_neg (by simp)
theorem Lp:R.exk U t e true=R.exk U t (e+1) false:=by
 funext y e'
 unfold Rg.exk
 by_cases h:e'<e∨e'=e
 ·rw[if_pos (by simpa using h),if_pos (.inl (by omega))]
 rw[if_neg (by simpa using h),if_neg (by simp;omega)]
theorem KQ (he:e<R.E):R.exk U t R.E false y e=R.ex U (t+1) y e:=if_pos (.inl he)
theorem CY (hI:R.Iv N U) (ht:t<N) (he:e<R.E) (hE:R.wl U e (R.J t)=[]):R.exk U t e false=R.exk U t e true:=by
 funext y e'
 unfold Rg.exk
 by_cases h:e'<e
 ·rw[if_pos (.inl h),if_pos (.inl h)]
 by_cases h2:e'=e
 ·subst h2
  rw[if_neg (by simp),if_pos (by simp)]
  unfold Rg.ex
  by_cases h3:y+R.f<t
  ·rw[if_pos h3,if_pos (by omega)]
  rw[if_neg h3]
  by_cases h4:y+R.f<t+1
  ·rw[if_pos h4]
   have hy:y∈R.J t:=Lq.2 (by omega)
   have h5:=(hI.v y e' (by omega) he).1.1
   have h6:¬0<R.left U y e':=fun h7=>by
    have:=jG.2 ⟨y,hy,rfl,h7⟩
    rw[hE]at this
    cases this
   grind
  rw[if_neg h4]
 rw[if_neg (by simp;omega),if_neg (by simp;omega)]
theorem Qy:(R.wl U e (R.J t)).length≤1:=by
 have h1:∀x∈R.wl U e (R.J t),x.1=(t:Int)-(R.f:Int):=fun x hx=>by
  obtain⟨i,hi,rfl,_⟩:=jG.1 hx
  have:=Lq.1 hi
  dsimp only
  omega
 have h2:(R.J t).Pairwise (· < ·):=by
  unfold Rg.J
  refine List.Pairwise.filter _ (List.pairwise_append.2 ⟨Ul,List.pairwise_singleton _ _,fun a ha b hb=>?_⟩)
  have:=kN.1 ha
  rw[List.mem_singleton]at hb
  omega
 have h3:=Qz (R:=R) (U:=U) (e:=e) h2
 generalize R.wl U e (R.J t)=L at h1 h3
 match L,h1,h3 with
 | [],_,_=>exact Nat.zero_le _
 | [x],_,_=>exact bC _
 | x::y::L,h1,h3=>
  have h4:=(List.pairwise_cons.1 h3).1 y (List.mem_cons_self ..)
  have h5:=h1 x (List.mem_cons_self ..)
  have h6:=h1 y (List.mem_cons_of_mem _ (List.mem_cons_self ..))
  omega
end
def nZ (f:Nat) (ys:List Yr):Rg:=⟨f,(aK ys 0).m.length,fun y e=>nU (aK ys y).m e,fun y e=>(cZ (aK ys y).b e).q,fun y=>(aK ys y).l.q⟩
section
variable {y:Yr}{ys:List Yr}{E f t N:Nat}
theorem CZ {l:List Bool}(h:l.length=E):(List.range E).map (nU l)=l:=by
 apply List.ext_getElem?
 intro i
 rw[List.getElem?_map]
 by_cases hi:i<E
 ·rw[List.getElem?_range hi]
  simp[nU,show i<l.length by omega]
 rw[List.getElem?_eq_none (by simp;omega),List.getElem?_eq_none (by omega)]
 rfl
theorem OY {l:List Fr4}(h:l.length=E) (hq:∀a∈l,a=Fr4.of a.q):((List.range E).map fun e=>(cZ l e).q).map Fr4.of=l:=by
 apply List.ext_getElem?
 intro i
 rw[List.getElem?_map,List.getElem?_map]
 by_cases hi:i<E
 ·rw[List.getElem?_range hi]
  have h1:i<l.length:=by omega
  have h2:cZ l i=l[i]:=by simp[cZ,h1]
  rw[dC h1]
  show some (Fr4.of (cZ l i).q)=some l[i]
  rw[h2,←hq l[i] (List.getElem_mem h1)]
 rw[List.getElem?_eq_none (by simp;omega),List.getElem?_eq_none (by omega)]
 rfl
theorem OZ (hm:y.m.length=E) (hb:y.b.length=E) (hq:∀a∈y.b,a=Fr4.of a.q) (hl:y.l=Fr4.of y.l.q):eG y=[gU ((List.range E).map (nU y.m)),sQ false (((List.range E).map fun e=>(cZ y.b e).q).map Fr4.of)]++(Fr4.of y.l.q).tr false:=by
 rw[CZ hm,OY hb hq,←hl]
 rfl
theorem Xu {a:Fr4}(h:a=Fr4.of a.q) (h3:a.len 3):Sz 4 a.q:=by
 unfold Fr4.len at h3
 rw[h]at h3
 exact⟨Nat.le_trans h3.1 (by omega),Nat.le_trans h3.2 (by omega)⟩
theorem KR (hn:ys.length≤10) (h6:∀y∈ys,y.m.length≤6) (hE:∀y∈ys,y.b.length=(aK ys 0).m.length) (hf:f≤40) (hb:∀y∈ys,∀a∈y.b,a=Fr4.of a.q∧a.len 3) (hl:∀y∈ys,(y.l=Fr4.of y.l.q∧y.l.len 3)∧0≤y.l.q):(nZ f ys).Ok ys.length:=by
 refine⟨fun t e ht he=>?_,fun t ht=>?_,fun t ht=>(hl _ (fR ht)).2,hn,?_,hf⟩
 ·have h1:=hE _ (fR ht)
  have h2:e<(aK ys t).b.length:=by rw[h1];exact he
  have h3:=hb _ (fR ht) (cZ (aK ys t).b e) (mP h2)
  exact Xu h3.1 h3.2
 ·have h1:=hl _ (fR ht)
  exact Xu h1.1.1 h1.1.2
 cases ys with
 | nil=>exact Nat.zero_le _
 | cons y ys=>exact h6 y (List.mem_cons_self ..)
end
end Go.Proofs.YtbbabfkgdnkehaaGreat
