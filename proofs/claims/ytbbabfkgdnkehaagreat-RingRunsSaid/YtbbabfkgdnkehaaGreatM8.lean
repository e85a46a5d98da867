/- Part 8 of a proof: G1 to Zr. -/
import Derived.Test.YtbbabfkgdnkehaaGreatM7
import Derived.Test.YtbbabfkgdnkehaaGreatM6
import Derived.Test.YtbbabfkgdnkehaaGreatM5
import Derived.Laws.BytesArg
set_option maxRecDepth 100000
set_option linter.unusedVariables false
set_option linter.unusedSimpArgs false
namespace Go.Proofs.YtbbabfkgdnkehaaGreat
open Go Go.RowKit
def Zg (a:Zi) (k:Int):Prop:=Lim 4294967296 a.x∧a.x.length≤300000000000∧fA a.s a.x=k
theorem Zn.g {a:Zi}{k:Int}(h:Zn a k):Zg a k:=⟨h.1,Nat.le_trans h.2.1 (by omega),h.2.2⟩
theorem Zg.of {k:Int}(h:(dg 4294967296 k.natAbs).length≤300000000000):Zg (.of k) k:=⟨aR (by omega) _,h,zJ k⟩
theorem Zg.len {a:Zi}{k:Int}(h:Zg a k):(dg 4294967296 k.natAbs).length≤300000000000:=by
 obtain⟨h1,h2,rfl⟩:=h
 exact Nat.le_trans (Bh h1) h2
theorem Zg.wrong {a:Zi}{k:Int}(h:Zg a k) (hr:dU a.s a.x=false):k=0:=by
 obtain⟨h1,h2,rfl⟩:=h
 exact Ff hr
theorem BF {a:Zi}{k:Int}(h:Zg a k) (hr:dU a.s a.x=true):gF a=kF k:=by
 obtain⟨h1,h2,rfl⟩:=h
 unfold gF kF
 rw[Bg h1 hr,rR h1 hr]
theorem Hu {a:Zi}{k:Int}(ha:Zg a k):aG true Tryz.prog 96 [] [gF a] (aU (.one (tv (.bool (dU a.s a.x))))):=by
 refine cC Tryz.func96 rfl Tryz.ntmps96 rfl aB rfl fun N w c0 h0=>?_
 have hal:=ha.2.1
 refine sq (rl (bx 0 ?_));refine o1 ?_;refine nl (sq (rl (o1 ?_)));refine ld ?_;refine o1 ?_;refine o1 ?_;refine nl (sq (rl ?_))
 (iterate 3 refine o1 ?_);refine WL.split (t:=9) rfl (fun h1=>?_) (fun h1=>?_)
 ·refine o1 ?_;refine ld ?_;refine WL.splitb (t:=11) rfl (fun h2=>?_) (fun h2=>?_)
  ·(iterate 6 refine o1 ?_);refine WL.split (t:=17) rfl (fun h3=>?_) (fun h3=>?_)
   ·refine o1 ?_;refine ld ?_;refine o1 ?_;refine o1 ?_;refine aZ 21 (a.x.length-1) ?_
    refine o1 ?_;refine eE ([.v (.int .u32 ((nth a.x (a.x.length-1):Nat):Int))]) (nR a.x (k:=a.x.length-1) (by omega)) ?_
    (iterate 4 refine o1 ?_);refine nl (rt ?_);refine en (.inl rfl) rfl (bD (cU _)) (by decide) (fun _=>trivial) (congrArg (fun b=>FV.one (tv (.bool b))) ?_)
    rw[nQ (by omega)];simp_all
   (iterate 7 refine dL ?_);(iterate 3 refine o1 ?_);refine nl (rt ?_)
   refine en (.inl rfl) rfl (bD (cU _)) (by decide) (fun _=>trivial) (congrArg (fun b=>FV.one (tv (.bool b))) ?_)
   rw[nQ (by omega)];simp_all
  (iterate 3 refine o1 ?_);(iterate 11 refine dL ?_);refine o1 ?_;refine o1 ?_;refine nl (rt ?_)
  refine en (.inl rfl) rfl (bD (cU _)) (by decide) (fun _=>trivial) (congrArg (fun b=>FV.one (tv (.bool b))) ?_)
  rw[nQ (by omega)];simp_all
 (iterate 3 refine dL ?_);(iterate 5 refine o1 ?_);refine WL.split (t:=17) rfl (fun h4=>?_) (fun h4=>?_)
 ·refine o1 ?_;refine ld ?_;refine o1 ?_;refine o1 ?_;refine aZ 21 (a.x.length-1) ?_
  refine o1 ?_;refine eE ([.v (.int .u32 ((nth a.x (a.x.length-1):Nat):Int))]) (nR a.x (k:=a.x.length-1) (by omega)) ?_
  (iterate 4 refine o1 ?_);refine nl (rt ?_);refine en (.inl rfl) rfl (bD (cU _)) (by decide) (fun _=>trivial) (congrArg (fun b=>FV.one (tv (.bool b))) ?_)
  first | exact(vY rfl (by omega)).symm | (unfold dU;simp_all;try omega)
 (iterate 7 refine dL ?_);(iterate 3 refine o1 ?_);refine nl (rt ?_)
 refine en (.inl rfl) rfl (bD (cU _)) (by decide) (fun _=>trivial) (congrArg (fun b=>FV.one (tv (.bool b))) ?_)
 first | exact(vY rfl (by omega)).symm | (unfold dU;simp_all;try omega)
theorem eV {a:Zi}{k:Int}(ha:Zg a k):aG false Tryz.prog 82 [] [gF a] (aU (kF k)):=by
 refine cC Tryz.func82 rfl Tryz.ntmps82 rfl aB rfl fun N w c0 h0=>?_
 refine sq (rl (bx 0 ?_));refine al 1 ?_;refine nl (sq (sq (rl (ld ?_))))
 refine ca (Hu ha) FW ⟨aD rfl,rfl⟩ (.one (tv (.bool (dU a.s a.x)))) ?_;refine WL.splitb (t:=4) rfl (fun h1=>?_) (fun h1=>?_)
 ·refine o1 ?_;refine nl (gD rfl (sk (sq (rl (ld ?_)))));refine o1 ?_;refine st ?_;refine nl (rt ?_)
  exact en (.inl rfl) rfl (bD (.agg (.read _ (l:=[.v (.bool a.s),sU false a.x]) rfl))) (by decide) (fun h=>by cases h) (BF ha h1)
 refine o1 ?_;refine nl (jM rfl (sq (rl (o1 ?_))));refine st ?_;refine nl (rt ?_)
 exact en (.inl rfl) rfl (bD (.agg (.cons (.id rfl) (.cons .nilf .nil)))) (by decide) (fun h=>by cases h) (by rw[ha.wrong h1];exact Fp)
theorem BG {b:Bool}{m:Nat}{K:Int}(hK:cD b m=K):aG false Tryz.prog 83 [] [.one (tv (.bool b)),.one (.t (sU false (dg 4294967296 m)))] (aU (kF K)):=by
 refine cC Tryz.func83 rfl Tryz.ntmps83 rfl aB rfl fun N w c0 h0=>?_
 refine sq (rl (al 0 ?_));refine nl (sq (rl (o1 ?_)));refine o1 ?_;refine WL.splitb (t:=6) rfl (fun h1=>?_) (fun h1=>?_)
 ·(iterate 6 refine o1 ?_);refine st ?_;refine nl (rt ?_)
  exact en (.inl rfl) rfl (bD (.agg (.cons (.id rfl) (.cons (.id rfl) .nil)))) (by decide) (fun h=>by cases h) (hK▸congrArg zE (vZ (by rw[vQ,h1,Bool.true_and,←nN (m:=m) rfl];exact decide_eq_decide.2 (by omega)) (jW _ _).symm))
 (iterate 3 refine dL ?_);(iterate 3 refine o1 ?_);refine st ?_;refine nl (rt ?_)
 exact en (.inl rfl) rfl (bD (.agg (.cons (.id rfl) (.cons (.id rfl) .nil)))) (by decide) (fun h=>by cases h) (hK▸congrArg zE (vZ (by rw[vQ,h1];rfl) (jW _ _).symm))
theorem jC {b:Bool}{m:Nat}{K:Int}(hK:cD b m=K):xO false Tryz.prog 83 [⟨113,1,(aI (dg 4294967296 m)).map .t⟩] [.one (tv (.bool b)),.one (.sl 0 0 (dg 4294967296 m).length)] (· =kO K):=by
 refine fnM Tryz.func83 rfl Tryz.ntmps83 rfl aB rfl fun N M w c0 h0=>?_
 refine sq (rl (al 1 ?_));refine nl (sq (rl (o1 ?_)));refine o1 ?_;refine WL.splitb (t:=6) rfl (fun h1=>?_) (fun h1=>?_)
 ·(iterate 6 refine o1 ?_);refine st ?_;refine nl (rt ?_)
  exact wK (en (.inl rfl) rfl (bD (.agg (.cons (.id rfl) (.cons (.sl (trs:=aI (dg 4294967296 m)) rfl rfl (bP _) (aP _)) .nil)))) (by decide) (fun h=>by cases h) (hK▸vZ (by rw[vQ,h1,Bool.true_and,←nN (m:=m) rfl];exact decide_eq_decide.2 (by omega)) (jW _ _).symm))
 (iterate 3 refine dL ?_);(iterate 3 refine o1 ?_);refine st ?_;refine nl (rt ?_)
 exact wK (en (.inl rfl) rfl (bD (.agg (.cons (.id rfl) (.cons (.sl (trs:=aI (dg 4294967296 m)) rfl rfl (bP _) (aP _)) .nil)))) (by decide) (fun h=>by cases h) (hK▸vZ (by rw[vQ,h1];rfl) (jW _ _).symm))
theorem Pc {k:Int}:aG false Tryz.prog 117 [] [kF k] (aU (kF (-k))):=by
 refine cC Tryz.func117 rfl Tryz.ntmps117 rfl aB rfl fun N w c0 h0=>?_
 refine sq (rl (bx 0 ?_));refine al 1 ?_;refine nl (sq (rl (o1 ?_)));refine o1 ?_;refine ld ?_;(iterate 3 refine o1 ?_);refine ld ?_
 refine ca (BG (m:=k.natAbs) (K:=-k) (Ql k)) qQ ⟨a1 rfl,a1 rfl,rfl⟩ (kF (-k)) ?_;refine o1 ?_;refine st ?_;refine nl (rt ?_)
 exact en (.inl rfl) rfl (bD (.agg (.cons (.id rfl) (.cons (.id rfl) .nil)))) (by decide) (fun h=>by cases h) rfl
theorem JH {a:Zi}{k:Int}(ha:Zg a k):aG true Tryz.prog 86 [] [gF a] (aU (kO (-(k)))):=by
 refine cC Tryz.func86 rfl Tryz.ntmps86 rfl aB rfl fun N w c0 h0=>?_
 have hkl:=ha.len
 refine sq (rl (bx 0 ?_));refine al 1 ?_;refine nl (sq (rl (ld ?_)));refine ca (eV ha) eU ⟨aD rfl,rfl⟩ (kF (k)) ?_
 refine ca (Pc (k:=k)) IT ⟨aD rfl,rfl⟩ (kF (-(k))) ?_;refine al 2 ?_;refine st ?_;refine nl (sq ?_);refine rd [0,1,2] (fun i=>[8].contains i) mixed ?_
 refine dv 0 ?_;refine dv 1 ?_;refine aO 2 ?_;refine dv 3 ?_;refine dv 4 ?_;refine aO 5 ?_
 refine jX 3 6 rfl (Tt (aR (by omega) _) (by have:=lC k;omega)) IU ⟨a1 rfl,rfl⟩ ?_
 refine df 7 ?_;refine dst 8 ?_;refine aV ?_;refine rt ?_
 exact en (.inl rfl) rfl (bD (.agg (.cons (.id rfl) (.cons (.sl (trs:=aI (dg 4294967296 (-(k)).natAbs)) rfl rfl (bP _) (aP _)) .nil)))) (by decide) (fun _=>fQ (-(k))) rfl
theorem XA {a:Zi}{k:Int}(ha:Zg a k):aG true Tryz.prog 87 [] [gF a] (aU (kO (((k.natAbs:Nat):Int)))):=by
 refine cC Tryz.func87 rfl Tryz.ntmps87 rfl aB rfl fun N w c0 h0=>?_
 have hkl:=ha.len
 refine sq (rl (bx 0 ?_));refine al 1 ?_;refine nl (sq (rl (ld ?_)));refine ca (eV ha) eU ⟨aD rfl,rfl⟩ (kF (k)) ?_;refine o1 ?_;refine o1 ?_
 refine iM 2 (Tt (aR (by omega) _) (by have:=lC k;omega)) IU ⟨a1 rfl,rfl⟩ ?_
 refine o1 ?_;refine st ?_;refine nl (rt ?_)
 exact en (.inl rfl) rfl (bD (.agg (.cons (.id rfl) (.cons (.sl (trs:=aI (dg 4294967296 k.natAbs)) rfl rfl (bP _) (aP _)) .nil)))) (by decide) (fun _=>Fq _ _) (vZ (by unfold aM;simp) (by omega))
theorem BH {k k':Int}(hk:(dg 4294967296 k.natAbs).length≤500000000000) (hk':(dg 4294967296 k'.natAbs).length≤500000000000):aG true Tryz.prog 116 [] [kF k,kF k'] (aU (kO (k+k'))):=by
 refine cC Tryz.func116 rfl Tryz.ntmps116 rfl aB rfl fun N w c0 h0=>?_
 have hal:=Fs (xs:=dg 4294967296 k.natAbs) (ys:=dg 4294967296 k'.natAbs) (aR (by omega) _) (aR (by omega) _)
 rw[bU,bU]at hal;refine sq (rl (bx 0 ?_));refine bx 1 ?_;refine al 2 ?_;refine nl (sq (sq (rl (o1 ?_))));refine o1 ?_
 refine ld ?_;refine o1 ?_;refine o1 ?_;refine ld ?_;refine o1 ?_;refine nl ?_;refine nC rfl (fun h1=>?_) (fun h1=>?_)
 ·refine sq ?_;refine rd [0,1,2] (fun i=>[11].contains i) mixed ?_
  refine dv 0 ?_;refine dv 1 ?_;refine aO 2 ?_;refine dv 3 ?_;refine dv 4 ?_;refine aO 5 ?_;refine dv 6 ?_;refine dv 7 ?_;refine aO 8 ?_
  have hA:aG true Tryz.prog 139 [] [.one (.t (sU false (dg 4294967296 k.natAbs))),.one (.t (sU false (dg 4294967296 k'.natAbs)))] (aU (.one (.t (sU true (dg 4294967296 (k.natAbs+k'.natAbs)))))):=by have h9:=JG (aR (by omega) k.natAbs) (aR (by omega) k'.natAbs) (by omega) (by omega);rwa[bU,bU]at h9
  refine jX 3 9 rfl hA IV ⟨a1 rfl,a1 rfl,rfl⟩ ?_
  refine Fh 10 4 [3] rfl (jC (m:=(k.natAbs+k'.natAbs)) (K:=k+k') (Ig rfl (eq_of_beq h1))) qQ ⟨aC rfl,rfl⟩ ⟨rfl,rfl,rfl⟩ ⟨rfl,rfl,rfl,trivial⟩ ?_;refine dst 11 ?_
  refine aV ?_;refine rt ?_
  exact en (.inl rfl) rfl (bD (.agg (.cons (.id rfl) (.cons (.sl (trs:=aI (dg 4294967296 (k+k').natAbs)) rfl rfl (bP _) (aP _)) .nil)))) (by decide) (fun _=>fQ (k+k')) rfl
 refine sk (sq (sq (rl (o1 ?_))));refine o1 ?_;refine ld ?_;refine o1 ?_;refine o1 ?_;refine ld ?_
 refine ca (WW (aR (by omega) _) (aR (by omega) _)) WQ ⟨a1 rfl,a1 rfl,rfl⟩ (.one (tv (.int .i64 (oP (vl 4294967296 (dg 4294967296 (k).natAbs)) (vl 4294967296 (dg 4294967296 (k').natAbs)))))) ?_
 refine o1 ?_;refine nl ?_;refine bL rfl (fun h2=>?_) (fun h2=>?_)
 ·refine rl (ld ?_);refine ld ?_;refine st ?_;refine st ?_;refine nl (sq (rl (o1 ?_)));refine o1 ?_;refine ld ?_;refine o1 ?_;refine o1 ?_;refine ld ?_
  have hlt:k.natAbs<k'.natAbs:=Decidable.byContradiction fun h8=>by rw[bU,bU]at h2;rcases Nat.lt_or_ge k'.natAbs k.natAbs with h7 | h7;(rw[nM h7]at h2;omega);(rw[vN (by omega)]at h2;omega)
  have hS:aG true Tryz.prog 141 [] [.one (.t (sU false (dg 4294967296 k'.natAbs))),.one (.t (sU false (dg 4294967296 k.natAbs)))] (aU (.tup [.one (.t (sU true (dg 4294967296 (k'.natAbs-k.natAbs)))),.one (tv (.int .i64 0))])):=by have h9:=Wi (aR (by omega) k'.natAbs) (aR (by omega) k.natAbs) (by omega) (by rw[bU,bU];omega);rwa[bU,bU]at h9
  refine iM 3 hS Vu ⟨a1 rfl,a1 rfl,rfl⟩ ?_;(iterate 5 refine o1 ?_);refine nl (sq (rl (o1 ?_)));refine o1 ?_;refine ld ?_;refine o1 ?_
  refine cm 4 [3] (jC (m:=(k'.natAbs-k.natAbs)) (K:=k+k') (Qp rfl (ne_of_beq_false h1) hlt)) qQ ⟨aC rfl,rfl⟩ ⟨rfl,rfl,rfl⟩ ?_;refine st ?_;refine nl (rt ?_)
  exact en (.inl rfl) rfl (bD (.agg (.cons (.id rfl) (.cons (.sl (trs:=aI (dg 4294967296 (k+k').natAbs)) rfl rfl (bP _) (aP _)) .nil)))) (by decide) (fun _=>fQ (k+k')) rfl
 refine sk (sq (rl (o1 ?_)));refine o1 ?_;refine ld ?_;refine o1 ?_;refine o1 ?_;refine ld ?_
 have hlt:¬k.natAbs<k'.natAbs:=fun h8=>h2 (by rw[bU,bU,rQ h8];omega)
 have hS:aG true Tryz.prog 141 [] [.one (.t (sU false (dg 4294967296 k.natAbs))),.one (.t (sU false (dg 4294967296 k'.natAbs)))] (aU (.tup [.one (.t (sU true (dg 4294967296 (k.natAbs-k'.natAbs)))),.one (tv (.int .i64 0))])):=by have h9:=Wi (aR (by omega) k.natAbs) (aR (by omega) k'.natAbs) (by omega) (by rw[bU,bU];omega);rwa[bU,bU]at h9
 refine iM 3 hS Vu ⟨a1 rfl,a1 rfl,rfl⟩ ?_;(iterate 5 refine o1 ?_);refine nl (sq (rl (o1 ?_)));refine o1 ?_;refine ld ?_;refine o1 ?_
 refine cm 4 [3] (jC (m:=(k.natAbs-k'.natAbs)) (K:=k+k') (Qo rfl (ne_of_beq_false h1) hlt)) qQ ⟨aC rfl,rfl⟩ ⟨rfl,rfl,rfl⟩ ?_;refine st ?_;refine nl (rt ?_)
 exact en (.inl rfl) rfl (bD (.agg (.cons (.id rfl) (.cons (.sl (trs:=aI (dg 4294967296 (k+k').natAbs)) rfl rfl (bP _) (aP _)) .nil)))) (by decide) (fun _=>fQ (k+k')) rfl
theorem JI {a b:Zi}{k k':Int}(ha:Zg a k) (hb:Zg b k'):aG true Tryz.prog 89 [] [gF a,gF b] (aU (kO (k+k'))):=by
 refine cC Tryz.func89 rfl Tryz.ntmps89 rfl aB rfl fun N w c0 h0=>?_
 have hkl:=ha.len
 have hkl':=hb.len
 refine sq (rl (bx 0 ?_));refine bx 1 ?_;refine al 2 ?_;refine nl (sq ?_);refine rd [0,1,2] (fun i=>[5].contains i) mixed ?_
 refine aO 0 ?_;refine aO 2 ?_;refine aX 1 rfl (eV ha) eU ⟨aD rfl,rfl⟩ (kF (k)) ?_;refine aX 3 rfl (eV hb) eU ⟨aD rfl,rfl⟩ (kF (k')) ?_
 refine jX 3 4 rfl (BH (k:=k) (k':=k') (by omega) (by omega)) IS ⟨aD rfl,aD rfl,rfl⟩ ?_
 refine dst 5 ?_;refine aV ?_;refine rt ?_
 exact en (.inl rfl) rfl (bD (.agg (.cons (.id rfl) (.cons (.sl (trs:=aI (dg 4294967296 ((k+k')).natAbs)) rfl rfl (bP _) (aP _)) .nil)))) (by decide) (fun _=>fQ ((k+k'))) rfl
theorem XB {a b:Zi}{k k':Int}(ha:Zg a k) (hb:Zg b k'):aG true Tryz.prog 81 [] [gF a,gF b] (aU (kO (k-k'))):=by
 refine cC Tryz.func81 rfl Tryz.ntmps81 rfl aB rfl fun N w c0 h0=>?_
 have hkl:=ha.len
 have hkl':=hb.len
 have hkn:=lC k'
 refine sq (rl (bx 0 ?_));refine bx 1 ?_;refine al 2 ?_;refine nl (sq ?_);refine rd [0,1,2] (fun i=>[6].contains i) mixed ?_
 refine aO 0 ?_;refine aO 2 ?_;refine aX 1 rfl (eV ha) eU ⟨aD rfl,rfl⟩ (kF (k)) ?_;refine aX 3 rfl (eV hb) eU ⟨aD rfl,rfl⟩ (kF (k')) ?_
 refine aX 4 rfl (Pc (k:=k')) IT ⟨aD rfl,rfl⟩ (kF (-(k'))) ?_;refine jX 3 5 rfl (BH (k:=k) (k':=(-(k'))) (by omega) (by omega)) IS ⟨aD rfl,aD rfl,rfl⟩ ?_
 refine dst 6 ?_;refine aV ?_;refine rt ?_
 exact en (.inl rfl) rfl (bD (.agg (.cons (.id rfl) (.cons (.sl (trs:=aI (dg 4294967296 ((k+(-(k')))).natAbs)) rfl rfl (bP _) (aP _)) .nil)))) (by decide) (fun _=>fQ ((k+(-(k'))))) (by rw[Int.sub_eq_add_neg];rfl)
theorem Fi {a:Zi}{k:Int}(ha:Zg a k):aG true Tryz.prog 49 [] [gF a] (aU (.one (tv (.int .i64 k.sign)))):=by
 refine cC Tryz.func49 rfl Tryz.ntmps49 rfl aB rfl fun N w c0 h0=>?_
 refine sq (rl (bx 0 ?_));refine o1 ?_;refine nl (sq (sq (rl (ld ?_))));refine ca (eV ha) eU ⟨aD rfl,rfl⟩ (kF (k)) ?_;refine al 1 ?_
 refine st ?_;refine nl (bl (sq (rl (o1 ?_))));refine o1 ?_;refine ld ?_;refine o1 ?_;refine nl ?_;refine nC rfl (fun h1=>?_) (fun h1=>?_)
 ·refine sq (rl (o1 ?_));refine nl (rt ?_);refine en (.inl rfl) rfl (bD (cU _)) (by decide) (fun _=>trivial) (congrArg (fun z=>FV.one (tv (.int .i64 z))) ?_)
  have h9:k<0:=of_decide_eq_true h1
  exact(Int.sign_eq_neg_one_of_neg h9).symm
 refine sq (rl (o1 ?_));refine o1 ?_;refine ld ?_;(iterate 3 refine o1 ?_);refine nl ?_;refine bL rfl (fun h2=>?_) (fun h2=>?_)
 ·refine sq (rl (o1 ?_));refine nl (rt ?_);refine en (.inl rfl) rfl (bD (cU _)) (by decide) (fun _=>trivial) (congrArg (fun z=>FV.one (tv (.int .i64 z))) ?_)
  have h9:¬k<0:=of_decide_eq_false h1
  have h8:=nN (m:=k.natAbs) rfl
  have h7:decide (0<k.natAbs)=true:=by rw[←h8];exact decide_eq_true (by omega)
  have h6:=of_decide_eq_true h7
  exact(Int.sign_eq_one_of_pos (by omega)).symm
 refine sk (sq (rl (o1 ?_)));refine nl (rt ?_)
 refine en (.inl rfl) rfl (bD (cU _)) (by decide) (fun _=>trivial) (congrArg (fun z=>FV.one (tv (.int .i64 z))) ?_)
 have h9:¬k<0:=of_decide_eq_false h1
 have h8:=nN (m:=k.natAbs) rfl
 have h7:decide (0<k.natAbs)=false:=by rw[←h8];exact decide_eq_false (by omega)
 have h6:=of_decide_eq_false h7
 obtain rfl:k=0:=by omega
 rfl
theorem Wk {a b:Zi}{k k':Int}(ha:Zg a k) (hb:Zg b k') (hs:(dg 4294967296 (k-k').natAbs).length≤300000000000):aG true Tryz.prog 47 [] [gF a,gF b] (aU (.one (tv (.int .i64 (k-k').sign)))):=by
 refine cC Tryz.func47 rfl Tryz.ntmps47 rfl aB rfl fun N w c0 h0=>?_
 have hkl:=ha.2.1;have hkl2:=ha.len;have hkl3:=hb.len
 refine sq (rl (bx 0 ?_));refine bx 1 ?_;refine o1 ?_;refine nl (sq (rl (ld ?_)));refine ld ?_
 refine ca (XB ha hb) ZZ ⟨aD rfl,aD rfl,rfl⟩ (kF (k-k')) ?_;refine ca (Fi (Zg.of (k:=k-k') hs)) Vs ⟨aD rfl,rfl⟩ (.one (tv (.int .i64 (k-k').sign))) ?_;refine o1 ?_
 refine nl (rt ?_);exact en (.inl rfl) rfl (bD (cU _)) (by decide) (fun _=>trivial) rfl
theorem Kn {a b:Zi}{k k':Int}(ha:Zg a k) (hb:Zg b k'):aG true Tryz.prog 48 [] [gF a,gF b] (aU (kO (k*k'))):=by
 refine cC Tryz.func48 rfl Tryz.ntmps48 rfl aB rfl fun N w c0 h0=>?_
 have hkl:=ha.len
 have hkl':=hb.len
 refine sq (rl (bx 0 ?_));refine bx 1 ?_;refine al 2 ?_;refine nl ?_
 refine md (γ:=Unit) (fun _=>bS [(4,.one (.pt 0 0)),(5,.one (.pt 1 0)),(6,.one (.pt 2 0))]) (fun _=>([⟨46,0,[tv (.bool false),tv (.slice none 0 0)]⟩,⟨147,0,[tv (.bool (aM k)),.t (sU false (dg 4294967296 k.natAbs))]⟩,⟨147,0,[tv (.bool (aM k')),.t (sU false (dg 4294967296 k'.natAbs))]⟩]:List Ob).map some) (fun _=>True) ?_ fun _ _=>?_
 ·refine rd [0,1,2] (fun i=>[7].contains i) mixed ?_
  refine aO 0 ?_;refine aO 2 ?_;refine WO.three (i:=1) (j:=4) (m:=5) (by kernel_rfl) ?_ ?_ ?_
  ·refine fG 1 rfl (eV ha) eU ⟨aD rfl,rfl⟩ (kF (k)) ?_;refine WO.three (i:=3) (j:=4) (m:=5) (by kernel_rfl) ?_ ?_ ?_
   ·refine fG 3 rfl (eV hb) eU ⟨aD rfl,rfl⟩ (kF (k')) ?_;refine WO.two (i:=4) (j:=5) (by kernel_rfl) ?_ ?_
    ·refine cG (key:=3) 4 rfl rfl aB rfl ⟨rfl,rfl,rfl,trivial⟩ ?_;refine fU (key:=4) 5 (by kernel_rfl) rfl rfl aB rfl ⟨rfl,rfl,rfl,trivial⟩ ?_
     refine cA 6 (by kernel_rfl) rfl rfl aB rfl rfl rfl rfl ⟨rfl,rfl,rfl,trivial⟩ ?_
     refine dst 7 ?_;refine aV ?_;exact⟨(),trivial,aW h0 [2,3,4] ⟨oe rfl rfl,oe rfl rfl,oe rfl rfl,rfl⟩⟩
    refine cG (key:=3) 5 rfl rfl aB rfl ⟨rfl,rfl,rfl,trivial⟩ ?_;refine fU (key:=4) 4 (by kernel_rfl) rfl rfl aB rfl ⟨rfl,rfl,rfl,trivial⟩ ?_
    refine cA 6 (by kernel_rfl) rfl rfl aB rfl rfl rfl rfl ⟨rfl,rfl,rfl,trivial⟩ ?_
    refine dst 7 ?_;refine aV ?_;exact⟨(),trivial,aW h0 [2,4,3] ⟨oe rfl rfl,oe rfl rfl,oe rfl rfl,rfl⟩⟩
   ·refine cG (key:=3) 4 rfl rfl aB rfl ⟨rfl,rfl,rfl,trivial⟩ ?_;refine WO.two (i:=3) (j:=5) (by kernel_rfl) ?_ ?_
    ·refine fG 3 rfl (eV hb) eU ⟨aD rfl,rfl⟩ (kF (k')) ?_;refine fU (key:=4) 5 (by kernel_rfl) rfl rfl aB rfl ⟨rfl,rfl,rfl,trivial⟩ ?_
     refine cA 6 (by kernel_rfl) rfl rfl aB rfl rfl rfl rfl ⟨rfl,rfl,rfl,trivial⟩ ?_
     refine dst 7 ?_;refine aV ?_;exact⟨(),trivial,aW h0 [2,3,4] ⟨oe rfl rfl,oe rfl rfl,oe rfl rfl,rfl⟩⟩
    refine cG (key:=4) 5 rfl rfl aB rfl ⟨rfl,rfl,rfl,trivial⟩ ?_;refine aX 3 rfl (eV hb) eU ⟨aD rfl,rfl⟩ (kF (k')) ?_
    refine cA 6 (by kernel_rfl) rfl rfl aB rfl rfl rfl rfl ⟨rfl,rfl,rfl,trivial⟩ ?_
    refine dst 7 ?_;refine aV ?_;exact⟨(),trivial,aW h0 [2,3,4] ⟨oe rfl rfl,oe rfl rfl,oe rfl rfl,rfl⟩⟩
   refine cG (key:=3) 5 rfl rfl aB rfl ⟨rfl,rfl,rfl,trivial⟩ ?_;refine WO.two (i:=3) (j:=4) (by kernel_rfl) ?_ ?_
   ·refine fG 3 rfl (eV hb) eU ⟨aD rfl,rfl⟩ (kF (k')) ?_;refine fU (key:=4) 4 (by kernel_rfl) rfl rfl aB rfl ⟨rfl,rfl,rfl,trivial⟩ ?_
    refine cA 6 (by kernel_rfl) rfl rfl aB rfl rfl rfl rfl ⟨rfl,rfl,rfl,trivial⟩ ?_
    refine dst 7 ?_;refine aV ?_;exact⟨(),trivial,aW h0 [2,4,3] ⟨oe rfl rfl,oe rfl rfl,oe rfl rfl,rfl⟩⟩
   refine cG (key:=4) 4 rfl rfl aB rfl ⟨rfl,rfl,rfl,trivial⟩ ?_;refine aX 3 rfl (eV hb) eU ⟨aD rfl,rfl⟩ (kF (k')) ?_
   refine cA 6 (by kernel_rfl) rfl rfl aB rfl rfl rfl rfl ⟨rfl,rfl,rfl,trivial⟩ ?_
   refine dst 7 ?_;refine aV ?_;exact⟨(),trivial,aW h0 [2,4,3] ⟨oe rfl rfl,oe rfl rfl,oe rfl rfl,rfl⟩⟩
  ·refine cG (key:=3) 4 rfl rfl aB rfl ⟨rfl,rfl,rfl,trivial⟩ ?_;refine WO.two (i:=1) (j:=5) (by kernel_rfl) ?_ ?_
   ·refine fG 1 rfl (eV ha) eU ⟨aD rfl,rfl⟩ (kF (k)) ?_;refine WO.two (i:=3) (j:=5) (by kernel_rfl) ?_ ?_
    ·refine fG 3 rfl (eV hb) eU ⟨aD rfl,rfl⟩ (kF (k')) ?_;refine fU (key:=4) 5 (by kernel_rfl) rfl rfl aB rfl ⟨rfl,rfl,rfl,trivial⟩ ?_
     refine cA 6 (by kernel_rfl) rfl rfl aB rfl rfl rfl rfl ⟨rfl,rfl,rfl,trivial⟩ ?_
     refine dst 7 ?_;refine aV ?_;exact⟨(),trivial,aW h0 [2,3,4] ⟨oe rfl rfl,oe rfl rfl,oe rfl rfl,rfl⟩⟩
    refine cG (key:=4) 5 rfl rfl aB rfl ⟨rfl,rfl,rfl,trivial⟩ ?_;refine aX 3 rfl (eV hb) eU ⟨aD rfl,rfl⟩ (kF (k')) ?_
    refine cA 6 (by kernel_rfl) rfl rfl aB rfl rfl rfl rfl ⟨rfl,rfl,rfl,trivial⟩ ?_
    refine dst 7 ?_;refine aV ?_;exact⟨(),trivial,aW h0 [2,3,4] ⟨oe rfl rfl,oe rfl rfl,oe rfl rfl,rfl⟩⟩
   refine cG (key:=4) 5 rfl rfl aB rfl ⟨rfl,rfl,rfl,trivial⟩ ?_;refine aX 1 rfl (eV ha) eU ⟨aD rfl,rfl⟩ (kF (k)) ?_;refine aX 3 rfl (eV hb) eU ⟨aD rfl,rfl⟩ (kF (k')) ?_
   refine cA 6 (by kernel_rfl) rfl rfl aB rfl rfl rfl rfl ⟨rfl,rfl,rfl,trivial⟩ ?_
   refine dst 7 ?_;refine aV ?_;exact⟨(),trivial,aW h0 [2,3,4] ⟨oe rfl rfl,oe rfl rfl,oe rfl rfl,rfl⟩⟩
  refine cG (key:=3) 5 rfl rfl aB rfl ⟨rfl,rfl,rfl,trivial⟩ ?_;refine WO.two (i:=1) (j:=4) (by kernel_rfl) ?_ ?_
  ·refine fG 1 rfl (eV ha) eU ⟨aD rfl,rfl⟩ (kF (k)) ?_;refine WO.two (i:=3) (j:=4) (by kernel_rfl) ?_ ?_
   ·refine fG 3 rfl (eV hb) eU ⟨aD rfl,rfl⟩ (kF (k')) ?_;refine fU (key:=4) 4 (by kernel_rfl) rfl rfl aB rfl ⟨rfl,rfl,rfl,trivial⟩ ?_
    refine cA 6 (by kernel_rfl) rfl rfl aB rfl rfl rfl rfl ⟨rfl,rfl,rfl,trivial⟩ ?_
    refine dst 7 ?_;refine aV ?_;exact⟨(),trivial,aW h0 [2,4,3] ⟨oe rfl rfl,oe rfl rfl,oe rfl rfl,rfl⟩⟩
   refine cG (key:=4) 4 rfl rfl aB rfl ⟨rfl,rfl,rfl,trivial⟩ ?_;refine aX 3 rfl (eV hb) eU ⟨aD rfl,rfl⟩ (kF (k')) ?_
   refine cA 6 (by kernel_rfl) rfl rfl aB rfl rfl rfl rfl ⟨rfl,rfl,rfl,trivial⟩ ?_
   refine dst 7 ?_;refine aV ?_;exact⟨(),trivial,aW h0 [2,4,3] ⟨oe rfl rfl,oe rfl rfl,oe rfl rfl,rfl⟩⟩
  refine cG (key:=4) 4 rfl rfl aB rfl ⟨rfl,rfl,rfl,trivial⟩ ?_;refine aX 1 rfl (eV ha) eU ⟨aD rfl,rfl⟩ (kF (k)) ?_;refine aX 3 rfl (eV hb) eU ⟨aD rfl,rfl⟩ (kF (k')) ?_
  refine cA 6 (by kernel_rfl) rfl rfl aB rfl rfl rfl rfl ⟨rfl,rfl,rfl,trivial⟩ ?_
  refine dst 7 ?_;refine aV ?_;exact⟨(),trivial,aW h0 [2,4,3] ⟨oe rfl rfl,oe rfl rfl,oe rfl rfl,rfl⟩⟩
 refine sq ?_;refine rd [0,1,2] (fun i=>[15].contains i) mixed ?_
 refine dv 0 ?_;refine dv 1 ?_;refine aO 2 ?_;refine dv 3 ?_;refine dv 4 ?_;refine aO 5 ?_;refine dv 6 ?_;refine dv 7 ?_;refine dv 8 ?_;refine aO 9 ?_;refine dv 10 ?_;refine dv 11 ?_
 refine aO 12 ?_
 have hA:aG true Tryz.prog 84 [] [.one (.t (sU false (dg 4294967296 k.natAbs))),.one (.t (sU false (dg 4294967296 k'.natAbs)))] (aU (.one (.t (sU true (dg 4294967296 (k.natAbs*k'.natAbs)))))):=by have h9:=WX (aR (by omega) k.natAbs) (aR (by omega) k'.natAbs) (by omega) (by omega);rwa[bU,bU]at h9
 refine jX 3 13 rfl hA aAa ⟨a1 rfl,a1 rfl,rfl⟩ ?_
 refine Fh 14 4 [3] rfl (jC (b:=(aM k != aM k')) (m:=(k.natAbs*k'.natAbs)) (K:=k*k') (Qr k k')) qQ ⟨aC rfl,rfl⟩ ⟨rfl,rfl,rfl⟩ ⟨rfl,rfl,rfl,trivial⟩ ?_
 refine dst 15 ?_;refine aV ?_;refine rt ?_
 exact en (.inl rfl) rfl (bD (.agg (.cons (.id rfl) (.cons (.sl (trs:=aI (dg 4294967296 ((k*k')).natAbs)) rfl rfl (bP _) (aP _)) .nil)))) (by decide) (fun _=>fQ ((k*k'))) rfl
theorem JJ {a b:Zi}{k k':Int}(ha:Zg a k) (hb:Zg b k'):aG true Tryz.prog 97 [] [gF a,gF b] (aU (kO (((Int.gcd k k'):Nat):Int))):=by
 refine cC Tryz.func97 rfl Tryz.ntmps97 rfl aB rfl fun N w c0 h0=>?_
 have hkl:=ha.len
 have hkl':=hb.len
 refine sq (rl (bx 0 ?_));refine bx 1 ?_;refine al 2 ?_;refine nl (sq ?_);refine rd [0,1,2] (fun i=>[11].contains i) mixed ?_
 refine aO 0 ?_;refine aO 4 ?_;refine aX 1 rfl (eV ha) eU ⟨aD rfl,rfl⟩ (kF (k)) ?_;refine df 2 ?_;refine df 3 ?_;refine aX 5 rfl (eV hb) eU ⟨aD rfl,rfl⟩ (kF (k')) ?_
 refine df 6 ?_;refine df 7 ?_;refine iU (key:=3) 8 (by kernel_rfl) rfl rfl aB rfl ⟨rfl,rfl,rfl,trivial⟩ ?_
 refine uR (i:=13) (k:=3) (t:=44) (t':=44) (z:=1) (n:=2) (l:=[sU false (dg 4294967296 k.natAbs),sU false (dg 4294967296 k'.natAbs)]) rfl rfl rfl rfl (.one .sl) (by rfl) (by rfl) ?_
 have hA:aG true Tryz.prog 123 [] [.one (.t (.s false 44 1 2 [sU false (dg 4294967296 k.natAbs),sU false (dg 4294967296 k'.natAbs)]))] (aU (.one (.t (sU true (dg 4294967296 (Int.gcd k k')))))):=by
  have h9:=WY (t:=44) (aR (by omega) k.natAbs) (aR (by omega) k'.natAbs) (by omega) (by omega)
  rwa[show sT [dg 4294967296 k.natAbs,dg 4294967296 k'.natAbs]=(Int.gcd k k') by simp only[sT,List.foldl_cons,List.foldl_nil,bU,Nat.gcd_zero_left];rfl]at h9
 refine jX 4 9 rfl hA WN ⟨a1 rfl,rfl⟩ ?_
 refine Fh 10 5 [4] rfl (jC (b:=false) (m:=(Int.gcd k k')) (K:=(((Int.gcd k k'):Nat):Int)) (by simp[cD])) qQ ⟨aC rfl,rfl⟩ ⟨rfl,rfl,rfl⟩ ⟨rfl,rfl,rfl,trivial⟩ ?_
 refine dst 11 ?_;refine aV ?_;refine rt ?_
 exact en (.inl rfl) rfl (bD (.agg (.cons (.id rfl) (.cons (.sl (trs:=aI (dg 4294967296 ((((Int.gcd k k'):Nat):Int)).natAbs)) rfl rfl (bP _) (aP _)) .nil)))) (by decide) (fun _=>fQ ((((Int.gcd k k'):Nat):Int))) rfl
theorem BI (xs:List Nat):((aI xs).map AV.t).take (aI xs).length=(aI xs).map .t:=fF (by simp)
theorem xP {a b:Zi}{k k':Int}(ha:Zg a k) (hb:Zg b k') (hz0:k'≠0):aG true Tryz.prog 120 [] [gF a,gF b] (aU (.tup [kO (k.fdiv k'),kO (k.fmod k'),.one (tv (.int .i64 0))])):=by
 refine cC Tryz.func120 rfl Tryz.ntmps120 rfl aB rfl fun N w c0 h0=>?_
 have hkl:=ha.len
 have hkl':=hb.len
 have hq:(dg 4294967296 (k.natAbs/k'.natAbs)).length≤300000000000:=Nat.le_trans (jO (Nat.div_le_self _ _)) hkl
 have hr0:=Nat.mod_lt k.natAbs (show 0<k'.natAbs by omega)
 have hrl:(dg 4294967296 (k.natAbs%k'.natAbs)).length≤300000000000:=Nat.le_trans (jO (Nat.le_of_lt hr0)) hkl'
 refine sq (rl (bx 0 ?_));refine bx 1 ?_;refine al 2 ?_;refine al 3 ?_;refine o1 ?_;refine nl ?_
 refine md (γ:=Unit) (fun _=>bS [(4,.one (.pt 0 0)),(5,.one (.pt 1 0)),(6,.one (tv (.int .i64 ((0:Nat):Int)))),(7,.one (.pt 2 0)),(8,.one (.pt 3 0))]) (fun _=>([⟨46,0,[tv (.bool false),tv (.slice none 0 0)]⟩,⟨46,0,[tv (.bool false),tv (.slice none 0 0)]⟩,⟨147,0,[tv (.bool (aM k)),.t (sU false (dg 4294967296 k.natAbs))]⟩,⟨147,0,[tv (.bool (aM k')),.t (sU false (dg 4294967296 k'.natAbs))]⟩]:List Ob).map some) (fun _=>True) ?_ fun _ _=>?_
 ·refine rd [0,1,2,3] (fun i=>[7].contains i) mixed ?_
  refine aO 0 ?_;refine aO 2 ?_;refine WO.three (i:=1) (j:=4) (m:=5) (by kernel_rfl) ?_ ?_ ?_
  ·refine fG 1 rfl (eV ha) eU ⟨aD rfl,rfl⟩ (kF (k)) ?_;refine WO.three (i:=3) (j:=4) (m:=5) (by kernel_rfl) ?_ ?_ ?_
   ·refine fG 3 rfl (eV hb) eU ⟨aD rfl,rfl⟩ (kF (k')) ?_;refine WO.two (i:=4) (j:=5) (by kernel_rfl) ?_ ?_
    ·refine cG (key:=4) 4 rfl rfl aB rfl ⟨rfl,rfl,rfl,rfl,trivial⟩ ?_;refine fU (key:=5) 5 (by kernel_rfl) rfl rfl aB rfl ⟨rfl,rfl,rfl,rfl,trivial⟩ ?_
     refine cA 6 (by kernel_rfl) rfl rfl aB rfl rfl rfl rfl ⟨rfl,rfl,rfl,rfl,trivial⟩ ?_
     refine dst 7 ?_;refine aV ?_;exact⟨(),trivial,aW h0 [2,3,4,5] ⟨oe rfl rfl,oe rfl rfl,oe rfl rfl,oe rfl rfl,rfl⟩⟩
    refine cG (key:=4) 5 rfl rfl aB rfl ⟨rfl,rfl,rfl,rfl,trivial⟩ ?_;refine fU (key:=5) 4 (by kernel_rfl) rfl rfl aB rfl ⟨rfl,rfl,rfl,rfl,trivial⟩ ?_
    refine cA 6 (by kernel_rfl) rfl rfl aB rfl rfl rfl rfl ⟨rfl,rfl,rfl,rfl,trivial⟩ ?_
    refine dst 7 ?_;refine aV ?_;exact⟨(),trivial,aW h0 [2,3,5,4] ⟨oe rfl rfl,oe rfl rfl,oe rfl rfl,oe rfl rfl,rfl⟩⟩
   ·refine cG (key:=4) 4 rfl rfl aB rfl ⟨rfl,rfl,rfl,rfl,trivial⟩ ?_;refine WO.two (i:=3) (j:=5) (by kernel_rfl) ?_ ?_
    ·refine fG 3 rfl (eV hb) eU ⟨aD rfl,rfl⟩ (kF (k')) ?_;refine fU (key:=5) 5 (by kernel_rfl) rfl rfl aB rfl ⟨rfl,rfl,rfl,rfl,trivial⟩ ?_
     refine cA 6 (by kernel_rfl) rfl rfl aB rfl rfl rfl rfl ⟨rfl,rfl,rfl,rfl,trivial⟩ ?_
     refine dst 7 ?_;refine aV ?_;exact⟨(),trivial,aW h0 [2,3,4,5] ⟨oe rfl rfl,oe rfl rfl,oe rfl rfl,oe rfl rfl,rfl⟩⟩
    refine cG (key:=5) 5 rfl rfl aB rfl ⟨rfl,rfl,rfl,rfl,trivial⟩ ?_;refine aX 3 rfl (eV hb) eU ⟨aD rfl,rfl⟩ (kF (k')) ?_
    refine cA 6 (by kernel_rfl) rfl rfl aB rfl rfl rfl rfl ⟨rfl,rfl,rfl,rfl,trivial⟩ ?_
    refine dst 7 ?_;refine aV ?_;exact⟨(),trivial,aW h0 [2,3,4,5] ⟨oe rfl rfl,oe rfl rfl,oe rfl rfl,oe rfl rfl,rfl⟩⟩
   refine cG (key:=4) 5 rfl rfl aB rfl ⟨rfl,rfl,rfl,rfl,trivial⟩ ?_;refine WO.two (i:=3) (j:=4) (by kernel_rfl) ?_ ?_
   ·refine fG 3 rfl (eV hb) eU ⟨aD rfl,rfl⟩ (kF (k')) ?_;refine fU (key:=5) 4 (by kernel_rfl) rfl rfl aB rfl ⟨rfl,rfl,rfl,rfl,trivial⟩ ?_
    refine cA 6 (by kernel_rfl) rfl rfl aB rfl rfl rfl rfl ⟨rfl,rfl,rfl,rfl,trivial⟩ ?_
    refine dst 7 ?_;refine aV ?_;exact⟨(),trivial,aW h0 [2,3,5,4] ⟨oe rfl rfl,oe rfl rfl,oe rfl rfl,oe rfl rfl,rfl⟩⟩
   refine cG (key:=5) 4 rfl rfl aB rfl ⟨rfl,rfl,rfl,rfl,trivial⟩ ?_;refine aX 3 rfl (eV hb) eU ⟨aD rfl,rfl⟩ (kF (k')) ?_
   refine cA 6 (by kernel_rfl) rfl rfl aB rfl rfl rfl rfl ⟨rfl,rfl,rfl,rfl,trivial⟩ ?_
   refine dst 7 ?_;refine aV ?_;exact⟨(),trivial,aW h0 [2,3,5,4] ⟨oe rfl rfl,oe rfl rfl,oe rfl rfl,oe rfl rfl,rfl⟩⟩
  ·refine cG (key:=4) 4 rfl rfl aB rfl ⟨rfl,rfl,rfl,rfl,trivial⟩ ?_;refine WO.two (i:=1) (j:=5) (by kernel_rfl) ?_ ?_
   ·refine fG 1 rfl (eV ha) eU ⟨aD rfl,rfl⟩ (kF (k)) ?_;refine WO.two (i:=3) (j:=5) (by kernel_rfl) ?_ ?_
    ·refine fG 3 rfl (eV hb) eU ⟨aD rfl,rfl⟩ (kF (k')) ?_;refine fU (key:=5) 5 (by kernel_rfl) rfl rfl aB rfl ⟨rfl,rfl,rfl,rfl,trivial⟩ ?_
     refine cA 6 (by kernel_rfl) rfl rfl aB rfl rfl rfl rfl ⟨rfl,rfl,rfl,rfl,trivial⟩ ?_
     refine dst 7 ?_;refine aV ?_;exact⟨(),trivial,aW h0 [2,3,4,5] ⟨oe rfl rfl,oe rfl rfl,oe rfl rfl,oe rfl rfl,rfl⟩⟩
    refine cG (key:=5) 5 rfl rfl aB rfl ⟨rfl,rfl,rfl,rfl,trivial⟩ ?_;refine aX 3 rfl (eV hb) eU ⟨aD rfl,rfl⟩ (kF (k')) ?_
    refine cA 6 (by kernel_rfl) rfl rfl aB rfl rfl rfl rfl ⟨rfl,rfl,rfl,rfl,trivial⟩ ?_
    refine dst 7 ?_;refine aV ?_;exact⟨(),trivial,aW h0 [2,3,4,5] ⟨oe rfl rfl,oe rfl rfl,oe rfl rfl,oe rfl rfl,rfl⟩⟩
   refine cG (key:=5) 5 rfl rfl aB rfl ⟨rfl,rfl,rfl,rfl,trivial⟩ ?_;refine aX 1 rfl (eV ha) eU ⟨aD rfl,rfl⟩ (kF (k)) ?_
   refine aX 3 rfl (eV hb) eU ⟨aD rfl,rfl⟩ (kF (k')) ?_;refine cA 6 (by kernel_rfl) rfl rfl aB rfl rfl rfl rfl ⟨rfl,rfl,rfl,rfl,trivial⟩ ?_
   refine dst 7 ?_;refine aV ?_;exact⟨(),trivial,aW h0 [2,3,4,5] ⟨oe rfl rfl,oe rfl rfl,oe rfl rfl,oe rfl rfl,rfl⟩⟩
  refine cG (key:=4) 5 rfl rfl aB rfl ⟨rfl,rfl,rfl,rfl,trivial⟩ ?_;refine WO.two (i:=1) (j:=4) (by kernel_rfl) ?_ ?_
  ·refine fG 1 rfl (eV ha) eU ⟨aD rfl,rfl⟩ (kF (k)) ?_;refine WO.two (i:=3) (j:=4) (by kernel_rfl) ?_ ?_
   ·refine fG 3 rfl (eV hb) eU ⟨aD rfl,rfl⟩ (kF (k')) ?_;refine fU (key:=5) 4 (by kernel_rfl) rfl rfl aB rfl ⟨rfl,rfl,rfl,rfl,trivial⟩ ?_
    refine cA 6 (by kernel_rfl) rfl rfl aB rfl rfl rfl rfl ⟨rfl,rfl,rfl,rfl,trivial⟩ ?_
    refine dst 7 ?_;refine aV ?_;exact⟨(),trivial,aW h0 [2,3,5,4] ⟨oe rfl rfl,oe rfl rfl,oe rfl rfl,oe rfl rfl,rfl⟩⟩
   refine cG (key:=5) 4 rfl rfl aB rfl ⟨rfl,rfl,rfl,rfl,trivial⟩ ?_;refine aX 3 rfl (eV hb) eU ⟨aD rfl,rfl⟩ (kF (k')) ?_
   refine cA 6 (by kernel_rfl) rfl rfl aB rfl rfl rfl rfl ⟨rfl,rfl,rfl,rfl,trivial⟩ ?_
   refine dst 7 ?_;refine aV ?_;exact⟨(),trivial,aW h0 [2,3,5,4] ⟨oe rfl rfl,oe rfl rfl,oe rfl rfl,oe rfl rfl,rfl⟩⟩
  refine cG (key:=5) 4 rfl rfl aB rfl ⟨rfl,rfl,rfl,rfl,trivial⟩ ?_;refine aX 1 rfl (eV ha) eU ⟨aD rfl,rfl⟩ (kF (k)) ?_
  refine aX 3 rfl (eV hb) eU ⟨aD rfl,rfl⟩ (kF (k')) ?_;refine cA 6 (by kernel_rfl) rfl rfl aB rfl rfl rfl rfl ⟨rfl,rfl,rfl,rfl,trivial⟩ ?_
  refine dst 7 ?_;refine aV ?_;exact⟨(),trivial,aW h0 [2,3,5,4] ⟨oe rfl rfl,oe rfl rfl,oe rfl rfl,oe rfl rfl,rfl⟩⟩
 refine sq (rl (o1 ?_));refine o1 ?_;refine ld ?_;refine o1 ?_;refine o1 ?_;refine ld ?_
 have hD:aG true Tryz.prog 142 [] [.one (.t (sU false (dg 4294967296 k.natAbs))),.one (.t (sU false (dg 4294967296 k'.natAbs)))] (aU (.tup [.one (.t (sU true (dg 4294967296 (k.natAbs/k'.natAbs)))),.one (.t (sU true (dg 4294967296 (k.natAbs%k'.natAbs)))),.one (tv (.int .i64 0))])):=by
  have h9:=GN (aR (by omega) k.natAbs) (aR (by omega) k'.natAbs) (by omega) (by omega) (by rw[bU];omega)
  rwa[bU,bU]at h9
 refine iM 4 hD WR ⟨a1 rfl,a1 rfl,rfl⟩ ?_;(iterate 7 refine o1 ?_);refine nl (sq (sq (rl (o1 ?_))));refine o1 ?_;refine nl ?_
 refine bL rfl (fun h1=>?_) (fun h1=>?_)
 ·exact absurd rfl h1
 refine sk (sq (sq (rl (o1 ?_))));refine o1 ?_;refine ld ?_;refine o1 ?_;refine o1 ?_;refine ld ?_;refine o1 ?_;refine o1 ?_
 refine WL.splitb (t:=37) rfl (fun h2=>?_) (fun h2=>?_)
 ·(iterate 4 refine o1 ?_);refine nl ?_;refine bL rfl (fun h3=>?_) (fun h3=>?_)
  ·refine sq (rl (o1 ?_));refine bs 6 ?_
   have hA:aG true Tryz.prog 139 [] [.one (.t (sU false (dg 4294967296 (k.natAbs/k'.natAbs)))),.one (.t (sU false [1]))] (aU (.one (.t (sU true (dg 4294967296 ((k.natAbs/k'.natAbs)+1)))))):=by
    have h9:=JG (aR (by omega) (k.natAbs/k'.natAbs)) (Lim.cons (show 1<4294967296 by omega) Lim.nil) (by omega) (by simp)
    rwa[cM (by omega),show vl 4294967296 [1]=1 from rfl]at h9
   refine iM 7 hA IV ⟨xT rfl (.sl rfl rfl (BI _) (aP _)),xT rfl (.sl (trs:=aI [1]) rfl rfl rfl rfl),rfl⟩ ?_;refine o1 ?_;refine nl (rl (o1 ?_))
   refine o1 ?_;refine ld ?_;refine o1 ?_
   have hS:aG true Tryz.prog 141 [] [.one (.t (sU false (dg 4294967296 k'.natAbs))),.one (.t (sU false (dg 4294967296 (k.natAbs%k'.natAbs))))] (aU (.tup [.one (.t (sU true (dg 4294967296 (k'.natAbs-(k.natAbs%k'.natAbs))))),.one (tv (.int .i64 0))])):=by
    have h9:=Wi (aR (by omega) k'.natAbs) (aR (by omega) (k.natAbs%k'.natAbs)) (by omega) (by rw[bU,cM (by omega)];omega)
    rwa[bU,cM (by omega)]at h9
   refine iM 8 hS Vu ⟨a1 rfl,xT rfl (.sl rfl rfl (BI _) (aP _)),rfl⟩ ?_;(iterate 4 refine o1 ?_);refine nl (sq ?_)
   have hd:k.fdiv k'=cD (aM k != aM k') ((k.natAbs/k'.natAbs)+1)∧k.fmod k'=cD (aM k') (k'.natAbs-(k.natAbs%k'.natAbs)):=by
    have h9:aM k≠aM k':=by simpa using h2
    have h7:k.natAbs%k'.natAbs≠0:=by have h5:=nN (m:=(k.natAbs%k'.natAbs)) rfl;rw[decide_eq_true (by omega)]at h5;have h6:=of_decide_eq_true h5.symm;omega
    have h8:=NB (a:=k) (b:=k') hz0 h9 h7
    rw[h2];exact h8
   refine rd [1,2,3,6] (fun i=>[15,16].contains i) mixed ?_
   refine dv 0 ?_;refine dv 1 ?_;refine aO 2 ?_;refine dv 3 ?_;refine dv 4 ?_;refine aO 5 ?_;refine dv 6 ?_;refine dv 7 ?_;refine dv 9 ?_;refine dv 10 ?_;refine aO 11 ?_
   refine dv 12 ?_
   refine Fh 8 9 [7] rfl (jC (b:=(aM k != aM k')) (m:=((k.natAbs/k'.natAbs)+1)) (K:=(k.fdiv k')) hd.1.symm) qQ ⟨aC rfl,rfl⟩ ⟨rfl,rfl,rfl⟩ ⟨rfl,rfl,rfl,rfl,trivial⟩ ?_
   refine Fh 13 10 [8] rfl (jC (b:=(aM k')) (m:=(k'.natAbs-(k.natAbs%k'.natAbs))) (K:=(k.fmod k')) hd.2.symm) qQ ⟨aC rfl,rfl⟩ ⟨rfl,rfl,rfl⟩ ⟨rfl,rfl,rfl,rfl,trivial⟩ ?_
   refine cA 14 (by kernel_rfl) rfl rfl aB rfl rfl rfl rfl ⟨rfl,rfl,rfl,rfl,trivial⟩ ?_
   refine dst 15 ?_;refine eQ 16 (by kernel_rfl) rfl rfl aB rfl (by trivial) ?_ (fun h=>by first | rfl | cases h)
   refine aV ?_;refine rt ?_
   exact en (.inl rfl) rfl (Ce (.cons (.agg (.cons (.id rfl) (.cons (.sl (trs:=aI (dg 4294967296 ((k.fdiv k')).natAbs)) rfl rfl (bP _) (aP _)) .nil))) (.cons (.agg (.cons (.id rfl) (.cons (.sl (trs:=aI (dg 4294967296 ((k.fmod k')).natAbs)) rfl rfl (bP _) (aP _)) .nil))) (.cons (cU (.int .i64 0)) .nil)))) (by decide) (fun _=>⟨fQ (k.fdiv k'),fQ (k.fmod k'),trivial,trivial⟩) rfl
  refine sk (sq ?_);have hd:k.fdiv k'=cD (aM k != aM k') (k.natAbs/k'.natAbs)∧k.fmod k'=cD (aM k') (k.natAbs%k'.natAbs):=by
   have h9:aM k≠aM k':=by simpa using h2
   have h7:k.natAbs%k'.natAbs=0:=by have h5:=nN (m:=(k.natAbs%k'.natAbs)) rfl;rw[decide_eq_false (by omega)]at h5;have h6:=of_decide_eq_false h5.symm;omega
   have h8:=NA (a:=k) (b:=k') hz0 h9 h7
   rw[h2];exact h8
  refine rd [1,2,3] (fun i=>[15,16].contains i) mixed ?_
  refine dv 0 ?_;refine dv 1 ?_;refine aO 2 ?_;refine dv 3 ?_;refine dv 4 ?_;refine aO 5 ?_;refine dv 6 ?_;refine dv 7 ?_;refine dv 9 ?_;refine dv 10 ?_;refine aO 11 ?_
  refine dv 12 ?_
  refine Fh 8 6 [4] rfl (jC (b:=(aM k != aM k')) (m:=(k.natAbs/k'.natAbs)) (K:=(k.fdiv k')) hd.1.symm) qQ ⟨aC rfl,rfl⟩ ⟨rfl,rfl,rfl⟩ ⟨rfl,rfl,rfl,trivial⟩ ?_
  refine Fh 13 7 [5] rfl (jC (b:=(aM k')) (m:=(k.natAbs%k'.natAbs)) (K:=(k.fmod k')) hd.2.symm) qQ ⟨aC rfl,rfl⟩ ⟨rfl,rfl,rfl⟩ ⟨rfl,rfl,rfl,trivial⟩ ?_
  refine cA 14 (by kernel_rfl) rfl rfl aB rfl rfl rfl rfl ⟨rfl,rfl,rfl,trivial⟩ ?_
  refine dst 15 ?_;refine eQ 16 (by kernel_rfl) rfl rfl aB rfl (by trivial) ?_ (fun h=>by first | rfl | cases h)
  refine aV ?_;refine rt ?_
  exact en (.inl rfl) rfl (Ce (.cons (.agg (.cons (.id rfl) (.cons (.sl (trs:=aI (dg 4294967296 ((k.fdiv k')).natAbs)) rfl rfl (bP _) (aP _)) .nil))) (.cons (.agg (.cons (.id rfl) (.cons (.sl (trs:=aI (dg 4294967296 ((k.fmod k')).natAbs)) rfl rfl (bP _) (aP _)) .nil))) (.cons (cU (.int .i64 0)) .nil)))) (by decide) (fun _=>⟨fQ (k.fdiv k'),fQ (k.fmod k'),trivial,trivial⟩) rfl
 (iterate 3 refine dL ?_);refine o1 ?_;refine nl (gD rfl (sk (sq ?_)))
 have hd:k.fdiv k'=cD (aM k != aM k') (k.natAbs/k'.natAbs)∧k.fmod k'=cD (aM k') (k.natAbs%k'.natAbs):=by
  have h9:aM k=aM k':=by simpa using h2
  have h8:=MZ (a:=k) (b:=k') hz0 h9
  rw[h2];exact h8
 refine rd [1,2,3] (fun i=>[15,16].contains i) mixed ?_
 refine dv 0 ?_;refine dv 1 ?_;refine aO 2 ?_;refine dv 3 ?_;refine dv 4 ?_;refine aO 5 ?_;refine dv 6 ?_;refine dv 7 ?_;refine dv 9 ?_;refine dv 10 ?_;refine aO 11 ?_
 refine dv 12 ?_
 refine Fh 8 6 [4] rfl (jC (b:=(aM k != aM k')) (m:=(k.natAbs/k'.natAbs)) (K:=(k.fdiv k')) hd.1.symm) qQ ⟨aC rfl,rfl⟩ ⟨rfl,rfl,rfl⟩ ⟨rfl,rfl,rfl,trivial⟩ ?_
 refine Fh 13 7 [5] rfl (jC (b:=(aM k')) (m:=(k.natAbs%k'.natAbs)) (K:=(k.fmod k')) hd.2.symm) qQ ⟨aC rfl,rfl⟩ ⟨rfl,rfl,rfl⟩ ⟨rfl,rfl,rfl,trivial⟩ ?_
 refine cA 14 (by kernel_rfl) rfl rfl aB rfl rfl rfl rfl ⟨rfl,rfl,rfl,trivial⟩ ?_
 refine dst 15 ?_;refine eQ 16 (by kernel_rfl) rfl rfl aB rfl (by trivial) ?_ (fun h=>by first | rfl | cases h)
 refine aV ?_;refine rt ?_
 exact en (.inl rfl) rfl (Ce (.cons (.agg (.cons (.id rfl) (.cons (.sl (trs:=aI (dg 4294967296 ((k.fdiv k')).natAbs)) rfl rfl (bP _) (aP _)) .nil))) (.cons (.agg (.cons (.id rfl) (.cons (.sl (trs:=aI (dg 4294967296 ((k.fmod k')).natAbs)) rfl rfl (bP _) (aP _)) .nil))) (.cons (cU (.int .i64 0)) .nil)))) (by decide) (fun _=>⟨fQ (k.fdiv k'),fQ (k.fmod k'),trivial,trivial⟩) rfl
theorem vS {p:Rat}{L:Nat}(h:Sz L p) (hL:L≤68719476736:=by omega):Zg (.of p.num) p.num:=.of (Nat.le_trans h.1 (by omega))
theorem mN {p:Rat}{L:Nat}(h:Sz L p) (hL:L≤68719476736:=by omega):Zg ⟨false,dg 4294967296 p.den⟩ (p.den:Int):=⟨aR (by omega) _,Nat.le_trans h.2 (by omega),Bj p.den⟩
theorem Ko {q:Rat}{n d:Int}(h1:q.num=n) (h2:(q.den:Int)=d):FV.agg [tv (.bool (aM n)),.t (sU true (dg 4294967296 n.natAbs)),tv (.bool (aM d)),.t (sU true (dg 4294967296 d.natAbs))]=qO q:=by
 subst h1 h2
 rw[Bi]
 rfl
theorem Jj {a b:Zi}{k k':Int}(ha:Zg a k) (hb:Zg b k') (hz0:k'≠0):aG true Tryz.prog 88 [] [gF a,gF b] (aU (qO (Rat.divInt k k'))):=by
 refine cC Tryz.func88 rfl Tryz.ntmps88 rfl aB rfl fun N w c0 h0=>?_
 have hkl:=ha.len
 have hkl':=hb.len
 have hgl:(dg 4294967296 ((Int.gcd k k':Nat):Int).natAbs).length≤300000000000:=Nat.le_trans (jO (Nat.le_of_dvd (by omega) (Nat.gcd_dvd_right ..))) hkl'
 have hng:=lC ((Int.gcd k k':Nat):Int)
 have hg0:((Int.gcd k k':Nat):Int)≠0:=fun e=>hz0 (Int.gcd_eq_zero_iff.1 (show Int.gcd k k'=0 by omega)).2
 refine sq (rl (bx 0 ?_));refine bx 1 ?_;refine al 2 ?_;refine nl (sq (rl (ld ?_)));refine ld ?_
 refine ca (JJ ha hb) SJ ⟨aD rfl,aD rfl,rfl⟩ (kF (((Int.gcd k k':Nat):Int))) ?_;refine al 3 ?_;refine st ?_;refine nl (sq (sq (rl (ld ?_))))
 refine ca (Fi hb) Vs ⟨aD rfl,rfl⟩ (.one (tv (.int .i64 k'.sign))) ?_;refine o1 ?_;refine nl ?_;refine bL rfl (fun h1=>?_) (fun h1=>?_)
 ·refine rl (ld ?_);refine ca (JH (Zg.of (k:=((Int.gcd k k':Nat):Int)) hgl)) SG ⟨aD rfl,rfl⟩ (kF (-(((Int.gcd k k':Nat):Int)))) ?_;refine st ?_;refine nl (sq ?_)
  refine rl (ld ?_);refine ld ?_;refine iM 4 (xP ha (Zg.of (k:=(-(((Int.gcd k k':Nat):Int)))) (by omega)) (by omega)) Ki ⟨aD rfl,aD rfl,rfl⟩ ?_
  (iterate 4 refine o1 ?_);refine al 6 ?_;refine al 7 ?_;refine st ?_;refine st ?_;refine o1 ?_;refine nl (sq (rl (ld ?_)));refine ld ?_
  refine iM 8 (xP hb (Zg.of (k:=(-(((Int.gcd k k':Nat):Int)))) (by omega)) (by omega)) Ki ⟨aD rfl,aD rfl,rfl⟩ ?_
  (iterate 4 refine o1 ?_);refine al 10 ?_;refine al 11 ?_;refine st ?_;refine st ?_;refine o1 ?_;refine nl (sq (rl (ld ?_)));refine ld ?_;refine o1 ?_
  refine st ?_;refine nl (rt ?_);have hk9:k'<0:=by
   rcases Int.lt_trichotomy k' 0 with h8 | h8 | h8
   ·exact h8
   ·exact absurd h8 hz0
   rw[Int.sign_eq_one_of_pos h8]at h1;omega
  have h9:=Ou (N:=k) (D:=k') hk9
  exact en (.inl rfl) rfl (bD (.agg (.cons (.id rfl) (.cons (.sl (trs:=aI (dg 4294967296 (((k).fdiv (-(((Int.gcd k k':Nat):Int))))).natAbs)) rfl rfl (bP _) (aP _)) (.cons (.id rfl) (.cons (.sl (trs:=aI (dg 4294967296 (((k').fdiv (-(((Int.gcd k k':Nat):Int))))).natAbs)) rfl rfl (bP _) (aP _)) (.nil))))))) (by decide) (fun _=>uS (⟨aM ((k).fdiv (-(((Int.gcd k k':Nat):Int)))),dg 4294967296 (((k).fdiv (-(((Int.gcd k k':Nat):Int))))).natAbs,aM ((k').fdiv (-(((Int.gcd k k':Nat):Int)))),dg 4294967296 (((k').fdiv (-(((Int.gcd k k':Nat):Int))))).natAbs⟩:Fr4)) (Ko h9.1 h9.2)
 refine sk (sq (rl (ld ?_)));refine ld ?_;refine iM 4 (xP ha (Zg.of (k:=((Int.gcd k k':Nat):Int)) (by omega)) (by omega)) Ki ⟨aD rfl,aD rfl,rfl⟩ ?_
 (iterate 4 refine o1 ?_);refine al 6 ?_;refine al 7 ?_;refine st ?_;refine st ?_;refine o1 ?_;refine nl (sq (rl (ld ?_)));refine ld ?_
 refine iM 8 (xP hb (Zg.of (k:=((Int.gcd k k':Nat):Int)) (by omega)) (by omega)) Ki ⟨aD rfl,aD rfl,rfl⟩ ?_
 (iterate 4 refine o1 ?_);refine al 10 ?_;refine al 11 ?_;refine st ?_;refine st ?_;refine o1 ?_;refine nl (sq (rl (ld ?_)));refine ld ?_;refine o1 ?_
 refine st ?_;refine nl (rt ?_);have hk9:0<k':=by
  rcases Int.lt_trichotomy k' 0 with h8 | h8 | h8
  ·rw[Int.sign_eq_neg_one_of_neg h8]at h1;omega
  ·exact absurd h8 hz0
  exact h8
 have h9:=pR (N:=k) (D:=k') hk9
 exact en (.inl rfl) rfl (bD (.agg (.cons (.id rfl) (.cons (.sl (trs:=aI (dg 4294967296 (((k).fdiv ((Int.gcd k k':Nat):Int))).natAbs)) rfl rfl (bP _) (aP _)) (.cons (.id rfl) (.cons (.sl (trs:=aI (dg 4294967296 (((k').fdiv ((Int.gcd k k':Nat):Int))).natAbs)) rfl rfl (bP _) (aP _)) (.nil))))))) (by decide) (fun _=>uS (⟨aM ((k).fdiv ((Int.gcd k k':Nat):Int)),dg 4294967296 (((k).fdiv ((Int.gcd k k':Nat):Int))).natAbs,aM ((k').fdiv ((Int.gcd k k':Nat):Int)),dg 4294967296 (((k').fdiv ((Int.gcd k k':Nat):Int))).natAbs⟩:Fr4)) (Ko h9.1 h9.2)
theorem Wl {p q:Rat}(hp:Sz 68719476736 p) (hq:Sz 68719476736 q):aG true Tryz.prog 57 [] [qF (.of p),qF (.of q)] (aU (qO (p+q))):=by
 refine cC Tryz.func57 rfl Tryz.ntmps57 rfl aB rfl fun N w c0 h0=>?_
 have z1:=(vS hp).len;have z2:=(vS hq).len;have z3:=(mN hp).len;have z4:=(mN hq).len
 have y1:(dg 4294967296 p.num.natAbs).length≤68719476736:=hp.1;have y2:(dg 4294967296 q.num.natAbs).length≤68719476736:=hq.1;have y3:(dg 4294967296 p.den).length≤68719476736:=hp.2;have y4:(dg 4294967296 q.den).length≤68719476736:=hq.2;have y5:(dg 4294967296 (p.den:Int).natAbs).length≤68719476736:=hp.2;have y6:(dg 4294967296 (q.den:Int).natAbs).length≤68719476736:=hq.2
 refine sq (rl (bx 0 ?_));refine bx 1 ?_;refine al 2 ?_;refine nl (sq (sq (rl (o1 ?_))));refine ld ?_;refine o1 ?_;refine ld ?_
 refine ca (Wk (mN hp) (mN hq) (by have h8:=lI (p.den:Int) (-(q.den:Int));have h7:=lC (q.den:Int);rw[Int.natAbs_natCast]at h7 h8;rw[Int.sub_eq_add_neg];omega)) DP ⟨aD rfl,aD rfl,rfl⟩ (.one (tv (.int .i64 ((p.den:Int)-(q.den:Int)).sign))) ?_
 refine o1 ?_;refine nl ?_;refine bL rfl (fun h1=>?_) (fun h1=>?_)
 ·refine sq ?_;refine rd [0,1,2] (fun i=>[8].contains i) mixed ?_
  refine dv 0 ?_;refine aO 1 ?_;refine dv 2 ?_;refine aO 3 ?_;refine dv 5 ?_;refine aO 6 ?_;have hn2:=lI (p.num) (q.num)
  refine aX 4 rfl (JI (vS hp) (vS hq)) SI ⟨aD rfl,aD rfl,rfl⟩ (kF (p.num+q.num)) ?_
  refine jX 3 7 rfl (Jj (Zg.of (k:=(p.num+q.num)) (by omega)) (mN hp) (by have h8:=p.den_nz;have h7:=q.den_nz;first | omega | exact Int.mul_ne_zero (by omega) (by omega))) SH ⟨aD rfl,aD rfl,rfl⟩ ?_
  refine dst 8 ?_;refine aV ?_;refine rt ?_
  exact en (.inl rfl) rfl (bD (.agg (.cons (.id rfl) (.cons (.sl (trs:=aI (dg 4294967296 (Rat.divInt ((p.num+q.num)) ((p.den:Int))).num.natAbs)) rfl rfl (bP _) (aP _)) (.cons (.id rfl) (.cons (.sl (trs:=aI (dg 4294967296 (Rat.divInt ((p.num+q.num)) ((p.den:Int))).den)) rfl rfl (bP _) (aP _)) .nil)))))) (by decide) (fun _=>sD (Rat.divInt ((p.num+q.num)) ((p.den:Int)))) (by rw[show(Rat.divInt ((p.num+q.num)) ((p.den:Int)))=p+q from GG (by have h8:=Int.sign_eq_zero_iff_zero.1 h1;omega)];rfl)
 refine sk (sq ?_);refine rd [0,1,2] (fun i=>[17].contains i) mixed ?_
 refine dv 0 ?_;refine aO 1 ?_;refine dv 2 ?_;refine aO 3 ?_;refine dv 5 ?_;refine aO 6 ?_;refine dv 7 ?_;refine aO 8 ?_;refine dv 11 ?_;refine aO 12 ?_;refine dv 13 ?_
 refine aO 14 ?_;have hn3:=gH (p.num) ((q.den:Int))
 refine aX 4 rfl (Kn (vS hp) (mN hq)) Me ⟨aD rfl,aD rfl,rfl⟩ (kF (p.num*(q.den:Int))) ?_;have hn4:=gH (q.num) ((p.den:Int))
 refine aX 9 rfl (Kn (vS hq) (mN hp)) Me ⟨aD rfl,aD rfl,rfl⟩ (kF (q.num*(p.den:Int))) ?_;have hn5:=lI ((p.num*(q.den:Int))) ((q.num*(p.den:Int)))
 refine aX 10 rfl (JI (Zg.of (k:=(p.num*(q.den:Int))) (by omega)) (Zg.of (k:=(q.num*(p.den:Int))) (by omega))) SI ⟨aD rfl,aD rfl,rfl⟩ (kF ((p.num*(q.den:Int))+(q.num*(p.den:Int)))) ?_
 have hn6:=gH ((p.den:Int)) ((q.den:Int))
 refine aX 15 rfl (Kn (mN hp) (mN hq)) Me ⟨aD rfl,aD rfl,rfl⟩ (kF ((p.den:Int)*(q.den:Int))) ?_
 refine jX 3 16 rfl (Jj (Zg.of (k:=((p.num*(q.den:Int))+(q.num*(p.den:Int)))) (by omega)) (Zg.of (k:=((p.den:Int)*(q.den:Int))) (by omega)) (by have h8:=p.den_nz;have h7:=q.den_nz;first | omega | exact Int.mul_ne_zero (by omega) (by omega))) SH ⟨aD rfl,aD rfl,rfl⟩ ?_
 refine dst 17 ?_;refine aV ?_;refine rt ?_
 exact en (.inl rfl) rfl (bD (.agg (.cons (.id rfl) (.cons (.sl (trs:=aI (dg 4294967296 (Rat.divInt (((p.num*(q.den:Int))+(q.num*(p.den:Int)))) (((p.den:Int)*(q.den:Int)))).num.natAbs)) rfl rfl (bP _) (aP _)) (.cons (.id rfl) (.cons (.sl (trs:=aI (dg 4294967296 (Rat.divInt (((p.num*(q.den:Int))+(q.num*(p.den:Int)))) (((p.den:Int)*(q.den:Int)))).den)) rfl rfl (bP _) (aP _)) .nil)))))) (by decide) (fun _=>sD (Rat.divInt (((p.num*(q.den:Int))+(q.num*(p.den:Int)))) (((p.den:Int)*(q.den:Int))))) (by rw[show(Rat.divInt (((p.num*(q.den:Int))+(q.num*(p.den:Int)))) (((p.den:Int)*(q.den:Int))))=p+q from tL p q];rfl)
theorem BJ {k:Int}{f:FuncId}{args:List FV}(h:∀(N:Nat→Prop) (w:World) us,dR w N [] args us→(∀b,N b→b<w.heap.size)→Calls Tryz.prog f us.toArray w (SY k w)):aG true Tryz.prog f [] args (aU (kO k)):=by
 intro N w cs us hL
 obtain⟨rfl,hf⟩:=zN hL
 refine(h _ w us hf (fun b hb=>hb.1)).mono ?_
 rintro e W ⟨A,n,c,rfl,ho,hb⟩
 obtain⟨y1,a1,a2,a3,a4⟩:=zM (N:=fun b=>true=false∧(b<W.heap.size∧b∉VT.fpL [])∧(N b∨w.heap.size≤b)) ho
 refine .mk0 (y:=[.w (.bool (aM k)),y1]) rfl hb (by simp only[VT.okL,VT.ok];exact⟨trivial,a3,trivial⟩) ?_ (fun b hb'=>?_) ?_
 ·simp only[VT.fpL,VT.fp,a4,List.nil_append,List.append_nil]
  exact Fg A n c
 ·simp only[VT.fpL,VT.fp,a4,List.nil_append,List.append_nil]at hb'
  exact ho.blk b hb'
 refine⟨by simp only[List.map_cons,List.map_nil,a1];rfl,?_⟩
 simp only[List.map_cons,List.map_nil,bR,CR,sU]
 exact⟨by simp[OR],kQ (fun _ _=>rfl) (fun b hb=>absurd hb.1 (by simp)) _ _ a2,trivial⟩
theorem TG {n:Int}(h1:-9223372036854775808≤n) (h2:n≤9223372036854775807):aG true Tryz.prog 54 [] [.one (tv (.int .i64 n))] (aU (kO n)):=BJ fun N w us hf hN=>by
 obtain⟨u,rfl,h3⟩:=GK hf
 obtain rfl:=bJ (vE h3)
 exact SZ n w h1 h2
theorem NH {m:Nat}:decide (((m:Int)-1).sign=0)=(m==1):=by
 rw[decide_eq_decide.2 Int.sign_eq_zero_iff_zero]
 rw[Bool.eq_iff_iff,decide_eq_true_eq,beq_iff_eq]
 omega
theorem Pd {z:Int}:0<z.sign↔0<z:=by
 rcases Int.lt_trichotomy z 0 with h | h | h
 ·rw[Int.sign_eq_neg_one_of_neg h];omega
 ·subst h;decide
 rw[Int.sign_eq_one_of_pos h];omega
theorem Pe:aG true Tryz.prog 55 [] [] (aU (kO 1)):=by
 refine cC Tryz.func55 rfl Tryz.ntmps55 rfl aB rfl fun N w c0 h0=>?_
 refine sq (rl (al 0 ?_));refine nl (sq (rl (iM 1 (TG (n:=1) (by omega) (by omega)) SF ⟨a1 rfl,rfl⟩ ?_)))
 refine st ?_;refine nl (rt ?_)
 exact en (.inl rfl) rfl (bD (.agg (.cons (.id rfl) (.cons (.sl (trs:=aI (dg 4294967296 ((1:Int)).natAbs)) rfl rfl (bP _) (aP _)) .nil)))) (by decide) (fun _=>fQ 1) rfl
theorem Pf {a:Fr4}{p:Rat}(ha:Qn a p):aG true Tryz.prog 68 [] [qF a] (aU (.one (tv (.bool (bV a.s a.x a.t a.y))))):=by
 refine cC Tryz.func68 rfl Tryz.ntmps68 rfl aB rfl fun N w c0 h0=>?_
 refine sq (rl (bx 0 ?_));refine o1 ?_;refine nl (sq (rl (o1 ?_)));refine ld ?_
 refine ca (Hu (a:=⟨a.s,a.x⟩) ((Mn ha).g)) FW ⟨aD rfl,rfl⟩ (.one (tv (.bool (dU a.s a.x)))) ?_;refine o1 ?_;refine WL.splitb (t:=6) rfl (fun h1=>?_) (fun h1=>?_)
 ·refine o1 ?_;refine ld ?_;refine ca (Hu (a:=⟨a.t,a.y⟩) ((yV ha).g)) FW ⟨aD rfl,rfl⟩ (.one (tv (.bool (dU a.t a.y)))) ?_;refine o1 ?_;refine o1 ?_
  refine WL.splitb (t:=11) rfl (fun h2=>?_) (fun h2=>?_)
  ·refine o1 ?_;refine ld ?_;refine ca (Fi (a:=⟨a.t,a.y⟩) ((yV ha).g)) Vs ⟨aD rfl,rfl⟩ (.one (tv (.int .i64 (fA a.t a.y).sign))) ?_;(iterate 3 refine o1 ?_)
   refine WL.split (t:=17) rfl (fun h3=>?_) (fun h3=>?_)
   ·refine o1 ?_;refine ld ?_;refine o1 ?_;refine ld ?_;have hpos:0<fA a.t a.y:=Pd.1 h3
    have hyl:(dg 4294967296 (fA a.t a.y).natAbs).length≤137438953472:=Zn.len (yV (p:=p) ha)
    have hgl9:(dg 4294967296 ((Int.gcd (fA a.s a.x) (fA a.t a.y):Nat):Int).natAbs).length≤137438953472:=Nat.le_trans (jO (Nat.le_of_dvd (by omega) (Nat.gcd_dvd_right ..))) hyl
    have hgl:(dg 4294967296 ((Int.gcd (fA a.s a.x) (fA a.t a.y):Nat):Int).natAbs).length≤300000000000:=Nat.le_trans hgl9 (by omega)
    refine ca (JJ (a:=⟨a.s,a.x⟩) (b:=⟨a.t,a.y⟩) ((Mn ha).g) ((yV ha).g)) SJ ⟨aD rfl,aD rfl,rfl⟩ (kF ((Int.gcd (fA a.s a.x) (fA a.t a.y):Nat):Int)) ?_
    refine ca (Pe) FU rfl (kF 1) ?_
    refine ca (Wk (Zg.of (k:=((Int.gcd (fA a.s a.x) (fA a.t a.y):Nat):Int)) hgl) (Zg.of (k:=1) (by decide)) (by have h8:=Oz ((Int.gcd (fA a.s a.x) (fA a.t a.y):Nat):Int) 1;have h7:(dg 4294967296 (1:Int).natAbs).length=1:=rfl;omega)) DP ⟨aD rfl,aD rfl,rfl⟩ (.one (tv (.int .i64 (((Int.gcd (fA a.s a.x) (fA a.t a.y):Nat):Int)-1).sign))) ?_
    (iterate 3 refine o1 ?_);refine nl (rt ?_)
    exact en (.inl rfl) rfl (bD (cU _)) (by decide) (fun _=>trivial) (congrArg (fun b=>FV.one (tv (.bool b))) (by unfold bV;rw[h1,h2,decide_eq_true hpos,←NH];rfl))
   (iterate 8 refine dL ?_);refine o1 ?_;refine o1 ?_;refine nl (rt ?_)
   exact en (.inl rfl) rfl (bD (cU _)) (by decide) (fun _=>trivial) (congrArg (fun b=>FV.one (tv (.bool b))) (by unfold bV;rw[h1,h2,decide_eq_false (fun h9=>h3 (Pd.2 h9))];rfl))
  (iterate 4 refine dL ?_);refine o1 ?_;refine o1 ?_;(iterate 8 refine dL ?_);refine o1 ?_;refine o1 ?_;refine nl (rt ?_)
  exact en (.inl rfl) rfl (bD (cU _)) (by decide) (fun _=>trivial) (congrArg (fun b=>FV.one (tv (.bool b))) (by unfold bV;rw[h1,h2];rfl))
 (iterate 3 refine dL ?_);refine o1 ?_;refine o1 ?_;(iterate 4 refine dL ?_);refine o1 ?_;refine o1 ?_;(iterate 8 refine dL ?_);refine o1 ?_;refine o1 ?_;refine nl (rt ?_)
 exact en (.inl rfl) rfl (bD (cU _)) (by decide) (fun _=>trivial) (congrArg (fun b=>FV.one (tv (.bool b))) (by unfold bV;rw[h1];rfl))
theorem r0G:FV.agg [tv (.bool false),.t (sU false []),tv (.bool (aM 1)),.t (sU false (dg 4294967296 (1:Int).natAbs))]=qF (.of 0):=rfl
theorem pG {a:Fr4}{p:Rat}(ha:Qn a p):aG false Tryz.prog 46 [] [qF a] (aU (qF (.of p))):=by
 refine cC Tryz.func46 rfl Tryz.ntmps46 rfl aB rfl fun N w c0 h0=>?_
 refine sq (rl (bx 0 ?_));refine al 1 ?_;refine nl (sq (sq (rl (ld ?_))))
 refine ca (Pf ha) DO ⟨aD rfl,rfl⟩ (.one (tv (.bool (bV a.s a.x a.t a.y)))) ?_;refine WL.splitb (t:=4) rfl (fun h1=>?_) (fun h1=>?_)
 ·refine o1 ?_;refine nl (gD rfl (sk (sq (rl (ld ?_)))));refine st ?_;refine nl (rt ?_)
  exact en (.inl rfl) rfl (bD (.agg (.cons (.id rfl) (.cons (.id rfl) (.cons (.id rfl) (.cons (.id rfl) .nil)))))) (by decide) (fun h=>by cases h) (by rw[ha.right h1];rfl)
 refine o1 ?_;refine nl (jM rfl (sq (rl (o1 ?_))));refine ca (Pe) FU rfl (kF 1) ?_;refine o1 ?_;refine st ?_;refine nl (rt ?_)
 have hq9:=ha.wrong h1
 subst hq9;exact en (.inl rfl) rfl (bD (.agg (.cons (.id rfl) (.cons .nilf (.cons (.id rfl) (.cons (.id rfl) .nil)))))) (by decide) (fun h=>by cases h) r0G
theorem TH {a b:Fr4}{p q:Rat}(ha:Qn a p) (hb:Qn b q):aG true Tryz.prog 25 [] [qF a,qF b] (aU (qO (p+q))):=by
 refine cC Tryz.func25 rfl Tryz.ntmps25 rfl aB rfl fun N w c0 h0=>?_
 refine sq (rl (bx 0 ?_));refine bx 1 ?_;refine al 2 ?_;refine nl (sq ?_);refine rd [0,1,2] (fun i=>[5].contains i) mixed ?_
 refine aO 0 ?_;refine aO 2 ?_;refine aX 1 rfl (pG ha) mT ⟨aD rfl,rfl⟩ (qF (.of p)) ?_;refine aX 3 rfl (pG hb) mT ⟨aD rfl,rfl⟩ (qF (.of q)) ?_
 refine jX 3 4 rfl (Wl ha.sz hb.sz) Gc ⟨aD rfl,aD rfl,rfl⟩ ?_;refine dst 5 ?_;refine aV ?_;refine rt ?_
 exact en (.inl rfl) rfl (bD (.agg (.cons (.id rfl) (.cons (.sl (trs:=aI (dg 4294967296 (p+q).num.natAbs)) rfl rfl (bP _) (aP _)) (.cons (.id rfl) (.cons (.sl (trs:=aI (dg 4294967296 (p+q).den)) rfl rfl (bP _) (aP _)) .nil)))))) (by decide) (fun _=>sD (p+q)) rfl
theorem NI {a:Fr4}{p:Rat}(ha:Qn a p):aG true Tryz.prog 20 [] [qF a] (aU (.one (tv (.int .i64 p.num.sign)))):=by
 refine cC Tryz.func20 rfl Tryz.ntmps20 rfl aB rfl fun N w c0 h0=>?_
 refine sq (rl (bx 0 ?_));refine o1 ?_;refine nl (sq (rl (ld ?_)));refine ca (pG ha) mT ⟨aD rfl,rfl⟩ (qF (.of p)) ?_;refine o1 ?_
 refine ca (Fi (Zg.of (k:=p.num) (Nat.le_trans ha.sz.1 (by omega)))) Vs ⟨aD rfl,rfl⟩ (.one (tv (.int .i64 p.num.sign))) ?_
 refine o1 ?_;refine nl (rt ?_);exact en (.inl rfl) rfl (bD (cU _)) (by decide) (fun _=>trivial) rfl
theorem BK {a:Fr4}{p:Rat}(ha:Qn a p):aG true Tryz.prog 56 [] [qF a] (aU (qO (-p))):=by
 refine cC Tryz.func56 rfl Tryz.ntmps56 rfl aB rfl fun N w c0 h0=>?_
 refine sq (rl (bx 0 ?_));refine al 1 ?_;refine nl (sq (rl (ld ?_)));refine ca (pG ha) mT ⟨aD rfl,rfl⟩ (qF (.of p)) ?_;refine st ?_
 refine nl (sq ?_);refine rd [0,1] (fun i=>[7].contains i) mixed ?_
 refine dv 0 ?_;refine aO 1 ?_;refine dv 3 ?_;refine aO 4 ?_;refine jX 2 2 rfl (JH (Zg.of (k:=p.num) (Nat.le_trans ha.sz.1 (by omega)))) SG ⟨aD rfl,rfl⟩ ?_
 refine jX 3 5 rfl (XA (mN ha.sz)) aAb ⟨aD rfl,rfl⟩ ?_;refine df 6 ?_;refine dst 7 ?_;refine aV ?_;refine rt ?_;have hda:(((p.den:Int).natAbs:Nat):Int).natAbs=p.den:=rfl
 exact en (.inl rfl) rfl (bD (.agg (.cons (.id rfl) (.cons (.sl (trs:=aI (dg 4294967296 (-(p.num)).natAbs)) rfl rfl (bP _) (aP _)) (.cons (.id rfl) (.cons (.sl (trs:=aI (dg 4294967296 (((p.den:Int).natAbs:Nat):Int).natAbs)) rfl rfl (bP _) (aP _)) .nil)))))) (by decide) (fun _=>uS (⟨_,dg 4294967296 (-(p.num)).natAbs,_,dg 4294967296 (((p.den:Int).natAbs:Nat):Int).natAbs⟩:Fr4)) (show FV.agg [tv (.bool (aM (-(p.num)))),.t (sU true (dg 4294967296 (-(p.num)).natAbs)),tv (.bool (aM (((p.den:Int).natAbs:Nat):Int))),.t (sU true (dg 4294967296 (((p.den:Int).natAbs:Nat):Int).natAbs))]=qO (-p) from Ko (q:=-p) (by simp) (by simp))
theorem GQ {n:Int}(h1:-9223372036854775808≤n) (h2:n≤9223372036854775807):aG true Tryz.prog 23 [] [.one (tv (.int .i64 n))] (aU (qO ((n:Int):Rat))):=by
 refine cC Tryz.func23 rfl Tryz.ntmps23 rfl aB rfl fun N w c0 h0=>?_
 refine sq (rl (al 0 ?_));refine nl (sq (rl (o1 ?_)));refine iM 1 (TG (n:=n) h1 h2) SF ⟨a1 rfl,rfl⟩ ?_;refine iM 2 (Pe) FU rfl ?_
 refine o1 ?_;refine st ?_;refine nl (rt ?_)
 exact en (.inl rfl) rfl (bD (.agg (.cons (.id rfl) (.cons (.sl (trs:=aI (dg 4294967296 n.natAbs)) rfl rfl (bP _) (aP _)) (.cons (.id rfl) (.cons (.sl (trs:=aI (dg 4294967296 (1:Int).natAbs)) rfl rfl (bP _) (aP _)) .nil)))))) (by decide) (fun _=>uS (⟨_,dg 4294967296 n.natAbs,_,dg 4294967296 (1:Int).natAbs⟩:Fr4)) (Ko (q:=((n:Int):Rat)) (n:=n) (d:=1) (by simp) (by simp))
theorem TJ {a b:Fr4}{p q:Rat}(ha:Qn a p) (hb:Qn b q):aG true Tryz.prog 50 [] [qF a,qF b] (aU (qO (p-q))):=by
 refine cC Tryz.func50 rfl Tryz.ntmps50 rfl aB rfl fun N w c0 h0=>?_
 refine sq (rl (bx 0 ?_));refine bx 1 ?_;refine al 2 ?_;refine nl (sq ?_);refine rd [0,1,2] (fun i=>[5].contains i) mixed ?_
 refine aO 0 ?_;refine aO 2 ?_;refine aX 1 rfl (pG ha) mT ⟨aD rfl,rfl⟩ (qF (.of p)) ?_;refine aX 3 rfl (BK hb) RE ⟨aD rfl,rfl⟩ (qF (.of (-q))) ?_
 refine jX 3 4 rfl (Wl ha.sz (uV hb.sz)) Gc ⟨aD rfl,aD rfl,rfl⟩ ?_;refine dst 5 ?_;refine aV ?_;refine rt ?_
 exact en (.inl rfl) rfl (bD (.agg (.cons (.id rfl) (.cons (.sl (trs:=aI (dg 4294967296 (p+-q).num.natAbs)) rfl rfl (bP _) (aP _)) (.cons (.id rfl) (.cons (.sl (trs:=aI (dg 4294967296 (p+-q).den)) rfl rfl (bP _) (aP _)) .nil)))))) (by decide) (fun _=>sD (p+-q)) (by rw[Rat.sub_eq_add_neg];rfl)
section
variable {f:FuncId}{args:List FV}
end
section
variable {a b:Fr4}{p q:Rat}{x y:Zi}{k k':Int}
theorem Ya (h:Zn x k) (h':Zn y k'):aG true Tryz.prog 48 [] [gF x,gF y] (aU (kO (k*k'))):=Kn h.g h'.g
theorem PI (h:Zn x k) (h':Zn y k'):aG true Tryz.prog 47 [] [gF x,gF y] (aU (.one (tv (.int .i64 (k-k').sign)))):=Wk h.g h'.g (by have:=Oz k k';have:=h.len;have:=h'.len;omega)
theorem Ar (h:Qn a p) (h':Qn b q):aG true Tryz.prog 25 [] [qF a,qF b] (aU (qO (p+q))):=TH h h'
theorem Ak (h:Qn a p) (h':Qn b q):aG true Tryz.prog 50 [] [qF a,qF b] (aU (qO (p-q))):=TJ h h'
theorem oB (h:Qn a p):aG true Tryz.prog 20 [] [qF a] (aU (.one (tv (.int .i64 p.num.sign)))):=NI h
theorem XC (hp:Sz 68719476736 p) (hq:Sz 68719476736 q):aG true Tryz.prog 57 [] [qF (.of p),qF (.of q)] (aU (qO (p+q))):=Wl hp hq
theorem Mc (ha:a.ok):aG true Tryz.prog 68 [] [qF a] (aU (.one (tv (.bool (bV a.s a.x a.t a.y))))):=Pf ⟨ha,rfl⟩
theorem iL {z:Int}(h1:-9223372036854775808≤z) (h2:z≤9223372036854775807):aG true Tryz.prog 23 [] [.one (tv (.int .i64 z))] (aU (qO (z:Rat))):=GQ h1 h2
theorem Eb (hp:Sz 68719476736 p):aG true Tryz.prog 57 [] [qF (.of p),qF (.of ((0:Int):Rat))] (aU (qO p)):=by
 have:=XC hp ((yP (z:=0) (by omega) (by omega)).mono (by omega))
 rwa[show p+((0:Int):Rat)=p from Rat.add_zero p]at this
theorem PL (h:Qn a p):aG true Tryz.prog 25 [] [qF a,qF (.of ((0:Int):Rat))] (aU (qO p)):=by
 have:=Ar h (Qn.of (p:=((0:Int):Rat)) ((yP (z:=0) (by omega) (by omega)).mono (M:=68719476736) (by omega)))
 rwa[show p+((0:Int):Rat)=p from Rat.add_zero p]at this
theorem tI (p:Rat) (l:List Rat) (q:Rat):aJ p (l++[q])=if q<aJ p l then q else aJ p l:=by
 unfold aJ
 rw[List.foldl_append]
 rfl
end
def BL (x:Rat):Rat:=DL x [0]
theorem Pg (x:Rat):BL x=if x<0 then 0 else x:=rfl
theorem TL (x:Rat):0≤BL x:=by rw[Pg];split <;> grind
theorem TM {x:Rat}(h:0≤x):BL x=x:=by rw[Pg];split <;> grind
section
variable {x y:Zi}{k k':Int}
theorem VO {a:Fr4}{p:Rat}(h:Qn a p):aG true Tryz.prog 56 [] [qF a] (aU (qO (-p))):=BK h
theorem den_nz (p q:Rat):(p.den:Int)*(q.den:Int)≠0:=by
 have h1:=p.den_pos
 have h2:=q.den_pos
 exact Int.ne_of_gt (Int.mul_pos (by omega) (by omega))
theorem Ph {L:Nat}{k:Int}(h:vR L k):vR L (-k):=by
 unfold vR
 rw[Int.natAbs_neg]
 exact h
theorem Fj {n:Int}(h1:-9223372036854775808≤n) (h2:n≤9223372036854775807):vR 2 n:=uT h1 h2
theorem wS {n d:Int}(h1:-9223372036854775808≤n) (h2:n≤9223372036854775807) (h3:-9223372036854775808≤d) (h4:d≤9223372036854775807):Sz 2 (Rat.divInt n d):=by
 rcases Int.lt_trichotomy d 0 with hd | hd | hd
 ·rw[←Rat.neg_divInt_neg]
  obtain⟨e1,e2⟩:=tU (a:=-n) (b:=-d) (L:=2) (M:=2) (by omega) (Ph (Fj h1 h2)) (Ph (Fj h3 h4))
  exact⟨e1,e2⟩
 ·subst hd
  rw[Rat.divInt_zero]
  exact⟨Nat.zero_le _,by decide⟩
 obtain⟨e1,e2⟩:=tU (a:=n) (b:=d) (L:=2) (M:=2) hd (Fj h1 h2) (Fj h3 h4)
 exact⟨e1,e2⟩
end
def fl (q:Rat):Int:=q.floor
section
variable {f:Nat→Rat}{x y z:Nat}
end
section
variable {f:Nat→Rat}{n i s t:Nat}
variable {b:Int}
end
section
variable {l:List Rat}{i k t:Nat}
end
section
variable {l:List Rat}{i k:Nat}
end
section
variable {l l':List Nat}{i j:Nat}
end
section
variable {x:Cx}{g:Nat→FV}{ob ob':List (Option Ob)}{cs:List Co}{ts:Array Value}{W:World}{T:List (Nat×TI)}{Q:Post}{ops:Array Oper}{rest:List Oper}{d:Nat}{ty:TypeId}{pos:String}{af:Array Edge}{gd:Option (Nat×Bool)}
end
theorem jQ {fresh:Bool}{x:Cx}{T:List (Nat×TI)}{rv:List ResultVar}{e:Exit}{g:Nat→FV}{ob:List (Option Ob)}{b b':Bool}(he:e=.ret∨e=.normal) (res:tZ T x.n g ob rv=some [.one (tv (.bool b))]) (hb:b=b'):qM x T rv fresh [] (aU (.one (tv (.bool b')))) e g ob:=en he res (bD (cU _)) (by decide) (fun _=>trivial) (by rw[hb];rfl)
theorem nH {b b':Bool}(h:b=b'):some (FV.one (tv (.bool b)))=some (FV.one (tv (.bool b'))):=by rw[h]
theorem Ke {f:Nat→Bool}{k:Nat}{b:Bool}(h:∀j,j<k→f j=b) (h2:f k=b):∀j,j<k+1→f j=b:=fun j hj=>by
 rcases Nat.lt_succ_iff_lt_or_eq.1 hj with h9 | h9
 ·exact h j h9
 rw[h9];exact h2
theorem f0 {f:Nat→Bool}{b:Bool}:∀j,j<0→f j=b:=fun j hj=>absurd hj (Nat.not_lt_zero j)
theorem qU {k:IntKind}{a b:Int}(h:a=b):some (FV.one (tv (.int k a)))=some (FV.one (tv (.int k b))):=by rw[h]
section
variable {x:Cx}{g g':Nat→FV}{ob ob':List (Option Ob)}{cs cs':List Co}{ts ts':Array Value}{W W' W1:World}{Q:Post}{ops:Array Oper}{late:Nat→Bool}{K fr fr':List Nat}{on:Bool}{fuel:Nat}{listed listed':Array Bool}
end
section
variable {x:Cx}{g:Nat→FV}{ob ob':List (Option Ob)}{Q:Post}{ops:Array Oper}{rest:List Oper}{d:Nat}{op:Op}{ty:TypeId}{pos:String}{af:Array Edge}{gd:Option (Nat×Bool)}{C:Prop}{v:FV}{T:List (Nat×TI)}
end
section
variable {x:Cx}{g g':Nat→FV}{ob ob':List (Option Ob)}{Q:Post}{ops:Array Oper}{rest:List Oper}{d:Nat}{op:Op}{ty:TypeId}{pos:String}{af:Array Edge}{gd:Option (Nat×Bool)}
theorem Pi {fresh:Bool}{f:FuncId}{args:List FV}{lent lent':List Lt}{K:List Nat}{aa:Array Operand}{ats:Array TypeId}{i o k:Nat}{ok:List (Option Ob)}(hS:aG fresh x.P f lent args (Rt lent' (.one (.pt i o)))) (hf:CallOk x.P f) (hK:eH ob K K lent) (hnd:K.Nodup) (ha:jT x.n g K aa.toList args) (hi:K[i]? =some k) (hbk:dX K lent' ok):
  OS x ⟨some d,.call ⟨.value (.func f),aa,ats⟩,ty,pos,af,gd⟩ g ob K (fun g' ob'=>g'=bF g d (.one (.pt k o))∧ob'=bB ob K ok):=by
 intro cs ts W hR K' Q kk
 obtain⟨us0,us,e0,hfst,hcap⟩:=tM (x:=x) (g:=g) f ob cs ts W hR
 have e:cR []++args++cR []=args:=by simp[cR]
 unfold Oper.wp
 rw[kD hf e0]
 refine(xL (fst:=[]) (caps:=[]) (by rw[e];exact hS) hK hnd ha hfst hcap hR).mono fun e W' hE=>?_
 obtain⟨v,lent',r,ys,cl,N2,rfl,hr,hl1,hl2,hro,hok,hndy,fin⟩:=hE
 obtain⟨rfl,rfl⟩:=hr
 obtain⟨hN,hfin⟩:=fin ok hbk [] [] rfl (fun b=>by simp[aF]) (by simp[aF])
 obtain⟨m1,m2⟩:=hfin (fun i o h=>by simp at h)
 have hkl:k<cs.length:=by
  obtain⟨a,l',_,_,h2⟩:=gC hK hi
  have:=(List.getElem?_eq_some_iff.1 h2).1
  rw[←hR.len]
  exact this
 simp only[List.map_nil,List.append_nil]at m1 m2
 refine kk _ _ _ _ _ ⟨rfl,rfl⟩ (m1.put d ?_) ((m2 (some d)).then_put v)
 obtain⟨z,rfl,rfl,hz⟩:=hro
 cases z with
 | s b c t z n l=>simp only[CR]at hz
 | p b t l=>simp only[CR]at hz
 | w u=>
  simp only[CR,AR]at hz
  simp only[bO,bZ,AR,VT.val]
  rw[vM hnd hl2 hi hkl]
  exact hz
theorem clp {fresh:Bool}{f:FuncId}{args:List FV}{lent lent':List Lt}{aa:Array Operand}{ats:Array TypeId}{i o ky:Nat}(K:List Nat) (hS:aG fresh x.P f lent args (Rt lent' (.one (.pt i o)))) (hf:CallOk x.P f) (hK:eH ob K K lent) (ha:jT x.n g K aa.toList args){ok:List (Option Ob)}(hbk:dX K lent' ok) (k:WL x ops rest (bF g d (.one (.pt ky o))) (bB ob K ok) Q) (hi:K[i]? =some ky:=by rfl) (hw:bI ops x.n g gd=some true:=by rfl) (hnd:K.Nodup:=by decide):
  WL x ops (⟨some d,.call ⟨.value (.func f),aa,ats⟩,ty,pos,af,gd⟩::rest) g ob Q:=
 jE (Pi hS hf hK hnd ha hi hbk) hw (by rintro _ _ ⟨rfl,rfl⟩;exact k)
theorem aAd {late:Nat→Bool}{K fr:List Nat}{fuel:Nat}{listed:Array Bool}{fresh:Bool}{f:FuncId}{args:List FV}{lent lent':List Lt}{aa:Array Operand}{ats:Array TypeId}{j o ky:Nat}(i:Nat) (Kl:List Nat) (hi:ops[i]? =some ⟨some d,.call ⟨.value (.func f),aa,ats⟩,ty,pos,af,gd⟩) (hS:aG fresh x.P f lent args (Rt lent' (.one (.pt j o)))) (hf:CallOk x.P f) (hK:eH ob Kl Kl lent) (ha:jT x.n g Kl aa.toList args){ok:List (Option Ob)}(hbk:dX Kl lent' ok) (hke:jV ob (bB ob Kl ok) K) (k:WD x ops Q late K (d::fr) true fuel (listed.setIfInBounds i true) (bF g d (.one (.pt ky o))) (bB ob Kl ok)) (hj:Kl[j]? =some ky:=by rfl) (hw:bI ops x.n g gd=some true:=by rfl) (hnd:Kl.Nodup:=by decide) (hdis:∀k∈K,k∉Kl:=by decide):
  WO x ops Q late K fr true fuel listed i g ob:=by
 refine Dy i hi rfl hw (Pi hS hf hK hnd ha hj hbk) hdis ?_ ?_
 ·rintro _ _ ⟨rfl,rfl⟩
  exact⟨⟨_,rfl⟩,gL hke⟩
 rintro _ _ ⟨rfl,rfl⟩
 exact k
theorem RH {late:Nat→Bool}{K fr:List Nat}{fuel:Nat}{listed:Array Bool}{fresh:Bool}{f:FuncId}{args:List FV}{lent lent':List Lt}{aa:Array Operand}{ats:Array TypeId}{j o ky:Nat}(i:Nat) (Kl:List Nat) (hi:ops[i]? =some ⟨some d,.call ⟨.value (.func f),aa,ats⟩,ty,pos,af,gd⟩) (hS:aG fresh x.P f lent args (Rt lent' (.one (.pt j o)))) (hf:CallOk x.P f) (hK:eH ob Kl Kl lent) (ha:jT x.n g Kl aa.toList args){ok:List (Option Ob)}(hbk:dX Kl lent' ok) (hke:jV ob (bB ob Kl ok) K) (k:WD x ops Q late K (d::fr) true fuel (listed.setIfInBounds i true) (bF g d (.one (.pt ky o))) (bB ob Kl ok)) (hr:Region.ready .any ops listed=[i]:=by kernel_rfl) (hj:Kl[j]? =some ky:=by rfl) (hw:bI ops x.n g gd=some true:=by rfl) (hnd:Kl.Nodup:=by decide) (hdis:∀k∈K,k∉Kl:=by decide):
  WD x ops Q late K fr true (fuel+1) listed g ob:=WO.one hr (aAd i Kl hi hS hf hK ha hbk hke k hj hw hnd hdis)
end
def BM (fresh:Bool) (N:Nat→Prop) (M:List Nat) (w:World) (lent:List Lt) (cs:List Co) (R:List Lt→FV→Prop) (e:Ending) (W:World):Prop:=
 ∃v lent' cs' r y,e=.returned v∧R lent' r∧lent'.length=lent.length∧(∀(i:Nat) (a b:Lt),lent[i]? =some a→lent'[i]? =some b→b.t=a.t∧b.z=a.z)∧cs'.length=lent.length∧(∀k,k<lent.length→(co cs' k).b=(co cs k).b∧(co cs' k).c=(co cs k).c)∧
  Loc M w W (aF (aT lent') cs'++[eN y]) [(SB fresh lent' cs' r v y).on (fun b=>N b∨b∈M∨w.heap.size≤b)]
def rB (fresh:Bool) (P:Program) (f:FuncId) (lent given:List Lt) (args:List FV) (R:List Lt→FV→Prop):Prop:=
 ∀(N:Nat→Prop) (w:World) (cs:List Co) (us:List Value),Loc ((aF (aT (lent++given)) cs).flatMap Res.S) w w (aF (aT (lent++given)) cs) [(Nn (lent++given) cs args us).on N]→
  Calls P f us.toArray w (BM fresh N ((aF (aT (lent++given)) cs).flatMap Res.S) w lent cs R)
section
variable {x:Cx}{g g':Nat→FV}{ob ob':List (Option Ob)}{cs cs':List Co}{ts ts':Array Value}{W W':World}{T:List (Nat×TI)}
theorem Gb {a b:List Co}{k:Nat}(h:a.length≤k):co (a++b) k=co b (k-a.length):=by
 unfold co
 rw[List.getElem?_append_right h]
theorem DH {fresh:Bool}{P:Program}{f:FuncId}{fn:Func}{c:Code}{lent given:List Lt}{args:List FV}{R:List Lt→FV→Prop}(hf:P.funcs[f]? =some fn) (hb:fn.body=some c) (T:List (Nat×TI)) (hT:cL P T) (hle:Nat.ble args.length fn.ntmps=true)
  (h:∀x:Cx,x.P=P→x.n=fn.ntmps→x.c0.length=lent.length→WP x c (bS (kI 0 args)) (aT (lent++given)) (qM x T fn.results.toList fresh lent R)):rB fresh P f lent given args R:=by
 intro N w cs us hL
 refine calls_of_wp hf hb ?_
 have hs0:=Sh.off (hL.sh 0 rfl)
 obtain⟨hobs,hfv⟩:=hs0
 have hus:=pP hfv
 have hle:args.length≤fn.ntmps:=bN hle
 let x:Cx:=⟨P,N,(aF (aT (lent++given)) cs).flatMap Res.S,w,fn.ntmps,cs.take lent.length⟩
 have hNx:∀b,(kH w (aF (aT (lent++given)) cs) b∧N b)→x.fr w (aT (lent++given)) cs b:=fun b hb=>⟨hb.1,.inl hb.2⟩
 have hsz:(us.toArray++Array.replicate (fn.ntmps-us.toArray.size) undef).size=fn.ntmps:=by simp;omega
 have hR:RelC x (bS (kI 0 args)) (aT (lent++given)) cs (us.toArray++Array.replicate (fn.ntmps-us.toArray.size) undef) w:=by
  refine .of hsz hL ⟨hobs.1,fun k o hk=>⟨cW (fun _ _=>rfl) hNx .refl _ _ (hobs.2 k o hk).1,(hobs.2 k o hk).2⟩⟩ (fun i hi=>?_) ⟨by show(cs.take lent.length).length≤_;rw[eA];omega,fun k hk=>by
   have hk2:k<lent.length:=by have h9:k<(cs.take lent.length).length:=hk;rw[eA]at h9;omega
   have h8:co (cs.take lent.length) k=co cs k:=by simp[co,List.getElem?_take,hk2]
   show(co cs k).b=(co (cs.take lent.length) k).b∧(co cs k).c=(co (cs.take lent.length) k).c
   rw[h8]
   exact⟨rfl,rfl⟩⟩
  have hi':i<(us.toArray++Array.replicate (fn.ntmps-us.toArray.size) undef).size:=by rw[hsz];exact hi
  refine⟨_,Array.getElem?_eq_getElem hi',?_⟩
  by_cases hu:i<us.length
  ·have:=xF (j:=0) (i:=i) hfv us[i] (dC hu)
   rw[Nat.zero_add]at this
   have e:(us.toArray++Array.replicate (fn.ntmps-us.toArray.size) undef)[i]=us[i]:=by
    rw[Array.getElem_append_left (by simpa using hu)]
    simp
   rw[e]
   exact fB (fun _ _=>rfl) hNx .refl _ _ this
  rw[xG (by omega)]
  trivial
 have hlen:=hR.len
 rw[fV]at hlen
 have hw:=h x rfl rfl (by show(cs.take lent.length).length=_;rw[eA,←hlen];exact Nat.min_eq_left (by rw[cO];omega)) _ w ⟨cs,hR⟩
 refine wp_mono hw fun e a W hq=>?_
 have main:∀g ob ts,a=⟨ts,[]⟩→Dn x g ob ts W→(∃rs r ks lent',EndA x T fn.results.toList fresh lent R g ob rs r ks lent')→a.defers=[]∧∃v,(results fn a.tmps).run P W=.ok v W∧BM fresh N ((aF (aT (lent++given)) cs).flatMap Res.S) w lent cs R (.returned v) W:=by
  rintro g ob ts rfl ⟨cs2,hR2⟩ ⟨rs,r,ks,lent',hE⟩
  have hnt:∀v∈rs,∀l,v≠.tup l:=by
   rcases hE.pk with⟨v,rfl,hp⟩ | ⟨_,l,_,hp⟩
   ·intro v' hv' l
    simp at hv'
    subst hv'
    cases hp <;> simp
   exact tT hp
  obtain⟨us2,hrv,hfl⟩:=mM hT hR2 hE.res hnt
  have hrun:=uA hrv
  refine⟨rfl,_,hrun,?_⟩
  let cs':=cs2.take lent.length
  have hob:lent.length≤ob.length:=by
   rcases Nat.eq_zero_or_pos lent.length with h0 | h0
   ·omega
   have hi:lent.length-1<lent'.length:=by rw[hE.len];omega
   have h1:=hE.obs (lent.length-1) _ (dC hi)
   have h2:=(List.getElem?_eq_some_iff.1 (cX h1)).1
   omega
  have hcs2:lent.length≤cs2.length:=by rw[←hR2.len];exact hob
  have hcl:cs'.length=lent.length:=by simp[cs',Nat.min_eq_left hcs2]
  have hco:∀i,i<lent.length→co cs' i=co cs2 i:=fun i hi=>by simp[cs',co,List.getElem?_take,hi]
  have hcoe:sJ lent.length cs2 cs':=fun k hk=>⟨by rw[hcl];exact hk,hco k hk⟩
  -- the answer
  have hN0:∀b,x.fr W ob cs2 b→x.fr W ob cs2 b:=fun _ h=>h
  obtain⟨v,ys,hv,hro,hok,hsub⟩:∃(v:Value) (ys:List VT),v=(if h:us2.toArray.size=1 then us2.toArray[0]else .tuple us2.toArray)∧RO W (x.fr W ob cs2) cs' r v ys∧VT.okL W ys∧(VT.fpL ys).Sublist (ks.flatMap fun k=>(aL (bX ob k) (co cs2 k)).S):=by
   rcases hE.pk with⟨v1,e1,hp⟩ | ⟨hne,l,rfl,hp⟩
   ·subst e1
    cases us2 with
    | nil=>simp only[dR]at hfl
    | cons u us2=>
     simp only[dR]at hfl
     obtain⟨hf1,hf2⟩:=hfl
     subst hf2
     obtain⟨ys,f2,f3,f4⟩:=hp.ok hcoe hR2 hN0 hf1
     exact⟨_,ys,rfl,by simpa using Nq f2,f3,f4⟩
   obtain⟨ys,f2,f3,f4⟩:=hp.ok hcoe hR2 hN0 hfl
   have hl:=pP hfl
   refine⟨_,ys,rfl,?_,f3,f4⟩
   rw[dif_neg (by simp;omega)]
   exact⟨us2,rfl,f2⟩
  -- the lent ones
  have hpick:∀i,i<lent.length→∃a:Lt,lent'[i]? =some a∧bX ob i=some a.ob:=fun i hi=>by
   have hi':i<lent'.length:=by rw[hE.len];exact hi
   exact⟨_,dC hi',hE.obs i _ (dC hi')⟩
  have hre:aF (aT lent') cs'=(aF ob cs2).take lent.length:=by
   apply List.ext_getElem?
   intro i
   rw[List.getElem?_take]
   by_cases hi:i<lent.length
   ·rw[if_pos hi]
    obtain⟨a,ha,hob'⟩:=hpick i hi
    have e1:(aT lent')[i]? =some (some a.ob):=by rw[eL,ha];rfl
    rw[aY (ob:=aT lent') (cs:=cs') (by rw[fV,hcl,hE.len]) e1,hco i hi,aY hR2.len (cX hob')]
   rw[if_neg hi]
   apply List.getElem?_eq_none
   simp[aF,fV,hcl]
   omega
  have hks:∀k∈ks,(aF ob cs2)[k]? =some (aL (bX ob k) (co cs2 k))∨(aL (bX ob k) (co cs2 k)).S=[]:=fun k hk=>by
   cases hq:bX ob k with
   | none=>exact .inr (by simp[aL])
   | some o=>exact .inl (aY hR2.len (cX hq))
  have hS2:∃l0,(ks.flatMap fun k=>(aL (bX ob k) (co cs2 k)).S)=(pick (aF ob cs2) ks).flatMap Res.S∧l0=ks:=by
   refine⟨ks,?_,rfl⟩
   clear hsub
   have hks':=hks
   clear hks hE hre
   induction ks with
   | nil=>rfl
   | cons k ks ih=>
    have ih:=ih (fun k' h=>hks' k' (List.mem_cons_of_mem _ h))
    unfold pick at ih⊢
    rw[List.flatMap_cons,ih,List.filterMap_cons]
    rcases hks' k (by simp)with h1 | h1
    ·rw[h1]
     simp
    rw[h1,List.nil_append]
    cases hq:(aF ob cs2)[k]? with
    | none=>rfl
    | some r'=>
     obtain⟨o,c,e1,e2,rfl⟩:=Bc hq
     have e3:(aL o c).S=[]:=by
      have hco2:co cs2 k=c:=by simp[co,e2]
      cases o with
      | none=>rfl
      | some o=>
       have:bX ob k=some o:=by simp[bX,e1]
       rw[this,hco2]at h1
       exact h1
     simp[e3]
  obtain⟨_,hS2,_⟩:=hS2
  have hnd2:(List.range lent.length++ks).Nodup:=by
   rw[List.nodup_append]
   refine⟨List.nodup_range,hE.nd,fun a ha b hb e=>?_⟩
   subst e
   have:=hE.far a hb
   have:=List.mem_range.1 ha
   omega
  have hLp:=hR2.2.pick (List.range lent.length++ks) hnd2
  have hpk:pick (aF ob cs2) (List.range lent.length++ks)=aF (aT lent') cs'++pick (aF ob cs2) ks:=by
   unfold pick
   rw[List.filterMap_append]
   congr 1
   rw[hre]
   have hl:lent.length≤(aF ob cs2).length:=by rw[eK hR2.len];exact hcs2
   generalize aF ob cs2=L at hl
   generalize lent.length=m at hl
   induction m with
   | zero=>simp
   | succ m ih=>
    rw[List.range_succ,List.filterMap_append,ih (by omega),List.take_add_one]
    simp[List.filterMap_cons]
    cases L[m]? <;> rfl
  rw[hpk]at hLp
  have hsubS:((aF (aT lent') cs'++[eN ys]).flatMap Res.S).Sublist ((aF (aT lent') cs'++pick (aF ob cs2) ks).flatMap Res.S):=by
   rw[List.flatMap_append,List.flatMap_append]
   refine List.Sublist.append (List.Sublist.refl _) ?_
   rw[←hS2]
   simpa[eN]using hsub
  have hsubO:∀b,b∈(aF (aT lent') cs'++[eN ys]).flatMap Res.S→b∈(aF ob cs2).flatMap Res.S:=fun b hb=>by
   have:=hsubS.subset hb
   obtain⟨r',hr',hb'⟩:=List.mem_flatMap.1 this
   rw[←hpk]at hr'
   obtain⟨i,_,hi⟩:=List.mem_filterMap.1 hr'
   exact List.mem_flatMap.2 ⟨r',List.mem_of_getElem? hi,hb'⟩
  have hfr:∀b,x.fr W ob cs2 b→kH W (aF (aT lent') cs'++[eN ys]) b∧(N b∨b∈(aF (aT (lent++given)) cs).flatMap Res.S∨w.heap.size≤b):=fun b hb=>⟨⟨hb.1.1,fun hm=>hb.1.2 (hsubO b hm)⟩,hb.2⟩
  have hsame:∀k,k<lent.length→(co cs' k).b=(co cs k).b∧(co cs' k).c=(co cs k).c:=fun k hk=>by
   rw[hco k hk]
   have h9:=hR2.3.2 k (by show k<(cs.take lent.length).length;rw[eA,←hlen,cO];omega)
   have h8:co (cs.take lent.length) k=co cs k:=by simp[co,List.getElem?_take,hk]
   have h7:(co cs2 k).b=(co (cs.take lent.length) k).b∧(co cs2 k).c=(co (cs.take lent.length) k).c:=h9
   rwa[h8]at h7
  refine⟨_,lent',cs',r,ys,by rw[←hv],hE.post,hE.len,hE.ty,hcl,hsame,?_⟩
  refine⟨hR2.2.chg,fun q hq=>?_,fun b hb=>hLp.blk b (hsubS.subset hb),hLp.nd.sublist hsubS,fun q hq=>?_⟩
  ·rcases List.mem_append.1 hq with hq | hq
   ·exact hLp.res q (List.mem_append_left _ hq)
   simp at hq
   subst hq
   exact hok
  rw[List.mem_singleton]at hq
  subst hq
  have hobr:yF W (x.fr W ob cs2) cs' (aT lent'):=by
   refine⟨by rw[fV,hcl,hE.len],fun k o hk=>?_⟩
   rw[eL]at hk
   cases hq:lent'[k]? with
   | none=>rw[hq]at hk;cases hk
   | some a=>
    rw[hq]at hk
    simp at hk
    subst hk
    have hkl:k<lent.length:=by
     have:=(List.getElem?_eq_some_iff.1 hq).1
     rw[hE.len]at this
     exact this
    have h1:=hR2.obs.2 k _ (cX (hE.obs k a hq))
    rw[hco k hkl]
    exact⟨Ha hcoe (hE.refs a (List.mem_of_getElem? hq)) h1.1,h1.2⟩
  show yF W _ cs' (aT lent')∧RO W _ cs' r _ ys
  cases hfresh:fresh with
  | false=>
   have hN2:∀b,x.fr W ob cs2 b→(false=false∧(kH W (aF (aT lent') cs'++[eN ys]) b∧(N b∨b∈(aF (aT (lent++given)) cs).flatMap Res.S∨w.heap.size≤b))):=fun b hb=>⟨rfl,hfr b hb⟩
   exact⟨⟨hobr.1,fun k o hk=>⟨cW (fun _ _=>rfl) hN2 .refl _ _ (hobr.2 k o hk).1,(hobr.2 k o hk).2⟩⟩,nL (fun _ _=>rfl) hN2 .refl hro⟩
  | true=>
   obtain⟨c1,c2⟩:=hE.clean hfresh
   refine⟨⟨hobr.1,fun k o hk=>⟨?_,(hobr.2 k o hk).2⟩⟩,Db c1 hro⟩
   have h1:=(hobr.2 k o hk).1
   rw[eL]at hk
   cases hq:lent'[k]? with
   | none=>rw[hq]at hk;cases hk
   | some a=>
    rw[hq]at hk
    simp at hk
    subst hk
    exact tS (c2 a (List.mem_of_getElem? hq)) h1
 cases e with
 | normal=>
  obtain⟨g,ob,ts,rfl,h1,h2⟩:=hq
  exact main g ob ts rfl h1 h2
 | ret=>
  obtain⟨g,ob,ts,rfl,h1,h2⟩:=hq
  exact main g ob ts rfl h1 h2
 | panic c=>exact hq.elim
 | exit id=>
  obtain⟨_,_,_,_,_,h2⟩:=hq
  exact h2.elim
 | goto l=>
  obtain⟨_,_,_,_,_,h2⟩:=hq
  exact h2.elim
 | outgrown=>
  obtain⟨_,_,_,_,_,h2⟩:=hq
  exact h2.elim
theorem Dx {fresh:Bool}{f:FuncId}{args:List FV}{R:List Lt→FV→Prop}{lent given:List Lt}{K K1 K2:List Nat}{os:List Operand}{fst caps:List Tr}{fus cus:List Value}(hS:rB fresh x.P f lent given (cR fst++args++cR caps) R) (hKK:K=K1++K2) (hl1:lent.length=K1.length) (hK:eH ob K K (lent++given)) (hnd:K.Nodup) (ha:jT x.n g K os args) (hfst:FRL W (x.fr W ob cs) fst fus) (hcap:FRL W (x.fr W ob cs) caps cus) (hR:RelC x g ob cs ts W):
  Calls x.P f (fus++os.map (Act.eval ⟨ts,[]⟩)++cus).toArray W (fun e W'=>∃v lent' r ys cl N2,e=.returned v∧R lent' r∧lent'.length=K1.length∧cl.length=K1.length∧RO W' N2 cl r v ys∧VT.okL W' ys∧(VT.fpL ys).Nodup∧
   ∀(ok:List (Option Ob)),dX K1 lent' ok→∀(oz:List Ob) (csn:List Co),csn.length=oz.length→(∀b,((aF (oz.map some) csn).flatMap Res.S).count b≤(VT.fpL ys).count b)→(∀r∈aF (oz.map some) csn,r.φ W')→
    (∀b,N2 b→x.fr W' (bB ob K (ok++bG K2)++oz.map some) (cH cs K (cl++K2.map (co cs))++csn) b)∧
    ((∀i o,oz[i]? =some o→bR W' (x.fr W' (bB ob K (ok++bG K2)++oz.map some) (cH cs K (cl++K2.map (co cs))++csn)) (cH cs K (cl++K2.map (co cs))++csn) o.l (co csn i).l∧((co csn i).b=none→o.l=[]∧o.z≠0))→
     RelC x g (bB ob K (ok++bG K2)++oz.map some) (cH cs K (cl++K2.map (co cs))++csn) ts W'∧∀d,Aft K d ob cs ts W (bB ob K (ok++bG K2)++oz.map some) (cH cs K (cl++K2.map (co cs))++csn) ts W')):=by
 have hlen:=hR.len
 have hll:=rH hK
 have hKl:∀k∈K,k<ob.length:=fun k hk=>by
  obtain⟨i,hi⟩:=List.mem_iff_getElem?.1 hk
  obtain⟨a,l',_,_,h2⟩:=gC hK hi
  exact(List.getElem?_eq_some_iff.1 h2).1
 have hlobs:(aT (lent++given)).length=K.length:=by rw[fV,hll]
 have hput0:aF (bB ob K (aT (lent++given))) cs=aF ob cs:=by
  have hl0:(bB ob K (aT (lent++given))).length=cs.length:=by rw[fL];exact hlen
  apply List.ext_getElem?
  intro j
  by_cases hjl:j<ob.length
  ·by_cases hj:j∈K
   ·obtain⟨i,hi⟩:=List.mem_iff_getElem?.1 hj
    obtain⟨a,l',h1,_,h2⟩:=gC hK hi
    have h3:=jH hnd hlobs hi hjl
    rw[eL,h1]at h3
    rw[aY hl0 h3,aY hlen h2]
    exact congrArg some (iZ _ _)
   have h3:=fW (l:=aT (lent++given)) (ob:=ob) hj
   rw[dC hjl]at h3
   rw[aY hl0 h3,aY hlen (dC hjl)]
  rw[List.getElem?_eq_none (by rw[eK hl0];omega),List.getElem?_eq_none (by rw[eK hlen];omega)]
 have hputc:cH cs K (K.map (co cs))=cs:=by
  have key:∀(K:List Nat),(∀k∈K,k<cs.length)→cH cs K (K.map (co cs))=cs:=by
   intro K
   induction K with
   | nil=>intro _;rfl
   | cons k K ih=>
    intro h
    simp only[List.map_cons,cH]
    rw[pO (h k (by simp))]
    exact ih fun j hj=>h j (List.mem_cons_of_mem _ hj)
  exact key K fun k hk=>by rw[←hlen];exact hKl k hk
 have hcnt0:=fun b=>rN b (l:=aT (lent++given)) (lc:=K.map (co cs)) (cs:=cs) hnd hlobs (by simp) hlen hKl
 unfold dB at hcnt0
 rw[hputc,hput0]at hcnt0
 have hfr0:∀b,x.fr W ob cs b→kH W (aF (aT (lent++given)) (K.map (co cs))) b:=fun b hb=>And.intro hb.1.1 fun hm=>hb.1.2 (by
  have h1:=List.count_pos_iff.2 hm
  have h2:=hcnt0 b
  exact List.count_pos_iff.1 (show 0<((aF ob cs).flatMap Res.S).count b by omega))
 have hgetL:∀i k,K[i]? =some k→∃(a:Lt) (l':List AV),(lent++given)[i]? =some a∧renL K a.l=some l'∧ob[k]? =some (some (⟨a.t,a.z,l'⟩:Ob)):=fun i k hi=>gC hK hi
 have hφ0:∀r∈aF (aT (lent++given)) (K.map (co cs)),r.φ W:=fun r hr=>by
  obtain⟨i,hi⟩:=List.mem_iff_getElem?.1 hr
  have hil:=(List.getElem?_eq_some_iff.1 hi).1
  have hil2:i<K.length:=by
   rw[eK (by simp[hlobs])]at hil
   simpa using hil
  obtain⟨a,l',h1,_,h2⟩:=hgetL i K[i] (dC hil2)
  have e1:(aT (lent++given))[i]? =some (some a.ob):=by rw[eL,h1];rfl
  rw[aY (by simp[hlobs]) e1,iY (dC hil2)]at hi
  injection hi with hi
  subst hi
  rw[show aL (some a.ob) (co cs K[i])=aL (some ⟨a.t,a.z,l'⟩) (co cs K[i]) from iZ _ _]
  exact hR.res h2
 have h1:Loc x.M x.w W (aF (aT (lent++given)) (K.map (co cs))++aF (bB ob K (bG K)) cs) []:=(hR.2.pickS []).cut (fun b=>by
  rw[List.flatMap_append,List.count_append]
  have:=hcnt0 b
  omega) (fun r hr=>by
  rcases List.mem_append.1 hr with hr | hr
  ·exact hφ0 r hr
  rcases jI hnd hlen hKl hr with hr | hr
  ·exact hR.2.res r hr
  exact hr.2 W)
 have h2:Loc ((aF (aT (lent++given)) (K.map (co cs))).flatMap Res.S) W W (aF (aT (lent++given)) (K.map (co cs))) [(Nn (lent++given) (K.map (co cs)) (cR fst++args++cR caps) (fus++os.map (Act.eval ⟨ts,[]⟩)++cus)).on (x.fr W ob cs)]:=by
  refine h1.focus.read _ ⟨⟨by simp[hlobs],fun k o hk=>?_⟩,pQ (pQ (mZ (fun b hb=>⟨hfr0 b hb,hb⟩) hfst) (Ew hR (fun b hb=>⟨hfr0 b hb,hb⟩) ha)) (mZ (fun b hb=>⟨hfr0 b hb,hb⟩) hcap)⟩
  rw[eL]at hk
  cases hq:(lent++given)[k]? with
  | none=>rw[hq]at hk;cases hk
  | some a=>
   rw[hq]at hk
   simp at hk
   subst hk
   have hkK:k<K.length:=by rw[←hll];exact(List.getElem?_eq_some_iff.1 hq).1
   obtain⟨a',l',q1,q0,q2⟩:=hgetL k K[k] (dC hkK)
   rw[hq]at q1
   injection q1 with q1
   subst q1
   have q3:=hR.obs.2 _ _ q2
   rw[iY (dC hkK)]
   exact⟨vI (fun b hb=>⟨hfr0 b hb,hb⟩) q0 q3.1,fun h=>⟨(sM q0).2 (q3.2 h).1,(q3.2 h).2⟩⟩
 refine(hS _ W _ _ h2).mono fun e W' hE=>?_
 obtain⟨v,lent',cl,r,ys,rfl,hr,hl',hty,hcl,hsame,h3⟩:=hE
 have hK1n:K1.length≤K.length:=by rw[hKK,cO];omega
 have hK1i:∀i,i<K1.length→K[i]? =K1[i]? :=fun i hi=>by rw[hKK,List.getElem?_append_left hi]
 have h4:=Loc.turn h1 h3
 have hsh:=Sh.off (h3.sh 0 rfl)
 have hclK:cl.length=K1.length:=by rw[hcl,hl1]
 have hlK:lent'.length=K1.length:=by rw[hl',hl1]
 refine⟨v,lent',r,ys,cl,_,rfl,hr,hlK,hclK,hsh.2,h3.res (eN ys) (by simp),?_,fun ok hbk oz csn hlz hcz hφz=>?_⟩
 ·have:=h3.nd
  rw[List.flatMap_append,List.nodup_append]at this
  simpa[eN]using this.2.1
 have hlobk:ok.length=K1.length:=by rw[xK hbk,hlK]
 have hn2:(bG K2).length=K2.length:=by simp[bG]
 have hlob':(ok++bG K2).length=K.length:=by rw[cO,hlobk,hn2,hKK,cO]
 have hcl':(cl++K2.map (co cs)).length=K.length:=by rw[cO,hclK,dF,hKK,cO]
 have hrk:aF ok cl=aF (aT lent') cl:=by
  apply List.ext_getElem?
  intro j
  by_cases hj:j<lent'.length
  ·obtain⟨l',q1,q2⟩:=oM hbk (dC hj)
   rw[aY (by rw[hlobk,hclK]) q2,aY (ob:=aT lent') (by rw[fV,hlK,hclK]) (o:=some (lent'[j]).ob) (by rw[eL,dC hj];rfl)]
   exact congrArg some (iZ _ _)
  rw[List.getElem?_eq_none (by rw[eK (by rw[hlobk,hclK])];omega),List.getElem?_eq_none (by rw[eK (by rw[fV,hlK,hclK])];omega)]
 have hrz:∀r∈aF (bG K2) (K2.map (co cs)),r.S=[]∧∀W,r.φ W:=fun r hr=>by
  obtain⟨i,hi⟩:=List.mem_iff_getElem?.1 hr
  obtain⟨o,c,e1,e2,rfl⟩:=Bc hi
  have:o=none:=by
   unfold bG at e1
   rw[List.getElem?_map]at e1
   cases hq:K2[i]? with
   | none=>rw[hq]at e1;cases e1
   | some k=>rw[hq]at e1;simpa using e1.symm
  subst this
  refine⟨?_,fun W=>?_⟩ <;> cases hb:c.b <;> simp[aL]
 have hS2:((aF (ok++bG K2) (cl++K2.map (co cs))).flatMap Res.S)=(aF (aT lent') cl).flatMap Res.S:=by
  have e1:aF (ok++bG K2) (cl++K2.map (co cs))=aF ok cl++aF (bG K2) (K2.map (co cs)):=by
   unfold aF
   rw[List.zipWith_append (by rw[hlobk,hclK])]
  rw[e1,List.flatMap_append,hrk,List.flatMap_eq_nil_iff.2 fun r hr=>(hrz r hr).1,List.append_nil]
 have hlen2:(bB ob K (ok++bG K2)).length=(cH cs K (cl++K2.map (co cs))).length:=by rw[fL,gG];exact hlen
 have hrs:aF (bB ob K (ok++bG K2)++oz.map some) (cH cs K (cl++K2.map (co cs))++csn)=aF (bB ob K (ok++bG K2)) (cH cs K (cl++K2.map (co cs)))++aF (oz.map some) csn:=by
  unfold aF
  rw[List.zipWith_append hlen2]
 have hcnt2:∀b,(dB (bB ob K (ok++bG K2)++oz.map some) (cH cs K (cl++K2.map (co cs))++csn)).count b≤(((aF (aT lent') cl++[eN ys])++aF (bB ob K (bG K)) cs).flatMap Res.S).count b:=fun b=>by
  have q1:=rN b (l:=ok++bG K2) (lc:=cl++K2.map (co cs)) (cs:=cs) hnd hlob' hcl' hlen hKl
  rw[hS2]at q1
  have q2:=hcz b
  unfold dB at q1⊢
  rw[hrs,List.flatMap_append,List.count_append,List.flatMap_append,List.count_append,List.flatMap_append,List.count_append,List.flatMap_cons,List.flatMap_nil,List.append_nil]
  have q3:(eN ys).S=VT.fpL ys:=rfl
  rw[q3]
  omega
 have hin2:∀b,b∈dB (bB ob K (ok++bG K2)++oz.map some) (cH cs K (cl++K2.map (co cs))++csn)→b∈((aF (aT lent') cl++[eN ys])++aF (bB ob K (bG K)) cs).flatMap Res.S:=fun b hb=>List.count_pos_iff.1 (Nat.lt_of_lt_of_le (List.count_pos_iff.2 hb) (hcnt2 b))
 have hrest:∀b,b∈(aF (bB ob K (bG K)) cs).flatMap Res.S→b∈dB ob cs:=fun b hb=>by
  obtain⟨r,hr,hb⟩:=List.mem_flatMap.1 hb
  rcases jI hnd hlen hKl hr with hr | hr
  ·exact List.mem_flatMap.2 ⟨r,hr,hb⟩
  rw[hr.1]at hb
  cases hb
 have hlentS:∀b,b∈(aF (aT (lent++given)) (K.map (co cs))).flatMap Res.S→b∈dB ob cs:=fun b hb=>by
  have q1:=List.count_pos_iff.2 hb
  have q2:=hcnt0 b
  exact List.count_pos_iff.1 (show 0<((aF ob cs).flatMap Res.S).count b by omega)
 have hfree:∀b,kH W' (aF (aT lent') cl++[eN ys]) b→(x.fr W ob cs b∨b∈(aF (aT (lent++given)) (K.map (co cs))).flatMap Res.S∨W.heap.size≤b)→x.fr W' (bB ob K (ok++bG K2)++oz.map some) (cH cs K (cl++K2.map (co cs))++csn) b:=fun b hb hb'=>by
  refine⟨⟨hb.1,fun hm=>?_⟩,?_⟩
  ·have hm:=hin2 b hm
   rw[List.flatMap_append,List.mem_append]at hm
   rcases hm with hm | hm
   ·exact hb.2 hm
   have hm2:=hrest b hm
   rcases hb' with hb' | hb' | hb'
   ·exact hb'.1.2 hm2
   ·have q1:=hcnt0 b
    have q2:=List.nodup_iff_count.1 hR.2.nd b
    have q3:=List.count_pos_iff.2 hb'
    have q4:=List.count_pos_iff.2 hm
    unfold dB at q1
    omega
   have:=(hR.2.blk b hm2).2
   omega
  rcases hb' with hb' | hb' | hb'
  ·exact hb'.2
  ·exact .inr (hR.2.blk b (hlentS b hb')).1
  exact .inr (.inr (Nat.le_trans hR.2.chg.size hb'))
 have hsize:W.heap.size≤W'.heap.size:=h3.chg.size
 have hfr:∀b,x.fr W ob cs b→x.fr W' (bB ob K (ok++bG K2)++oz.map some) (cH cs K (cl++K2.map (co cs))++csn) b:=fun b hb=>by
  refine hfree b ⟨Nat.lt_of_lt_of_le hb.1.1 hsize,fun hm=>?_⟩ (.inl hb)
  have q1:=h3.blk b hm
  rcases q1.1 with q1 | q1
  ·exact hb.1.2 (hlentS b q1)
  have:=hb.1.1
  omega
 have hkeep:∀b,x.fr W ob cs b→W'.heap[b]? =W.heap[b]? :=fun b hb=>h3.chg.block b hb.1.1 (fun hm=>hb.1.2 (hlentS b hm))
 refine⟨fun b hb=>hfree b hb.2.1 hb.2.2,fun hoz=>?_⟩
 have hcoK:∀i k,K[i]? =some k→co (cH cs K (cl++K2.map (co cs))) k=co (cl++K2.map (co cs)) i:=fun i k hi=>vM hnd hcl' hi (by rw[←hlen];exact hKl k (List.mem_of_getElem? hi))
 have hco1:∀i,i<K1.length→co (cl++K2.map (co cs)) i=co cl i:=fun i hi=>by simp[co,List.getElem?_append_left (show i<cl.length by omega)]
 have hco2:∀i k,K[i]? =some k→K1.length≤i→co (cl++K2.map (co cs)) i=co cs k:=fun i k hi hge=>by
  rw[hKK,List.getElem?_append_right hge]at hi
  unfold co
  rw[List.getElem?_append_right (by omega),hclK,List.getElem?_map,hi]
  rfl
 have hsame2:Same cs (cH cs K (cl++K2.map (co cs))):=⟨by rw[gG];exact bC _,fun k hk=>by
  by_cases hkK:k∈K
  ·obtain⟨i,hi⟩:=List.mem_iff_getElem?.1 hkK
   rw[hcoK i k hi]
   rcases Nat.lt_or_ge i K1.length with hil | hig
   ·have:=hsame i (by omega)
    rw[iY hi]at this
    rw[hco1 i hil]
    exact this
   rw[hco2 i k hi hig]
   exact⟨rfl,rfl⟩
  rw[jS hkK]
  exact⟨rfl,rfl⟩⟩
 have happ:∀{k},k<(cH cs K (cl++K2.map (co cs))).length→co (cH cs K (cl++K2.map (co cs))++csn) k=co (cH cs K (cl++K2.map (co cs))) k:=fun hk=>by simp[co,List.getElem?_append_left hk]
 have hsame3:Same cs (cH cs K (cl++K2.map (co cs))++csn):=hsame2.trans ⟨by simp,fun k hk=>by rw[happ hk];exact⟨rfl,rfl⟩⟩
 have hLf:Loc x.M x.w W' (aF (bB ob K (ok++bG K2)++oz.map some) (cH cs K (cl++K2.map (co cs))++csn)) []:=h4.cut hcnt2 (fun r hr=>by
  rw[hrs]at hr
  rcases List.mem_append.1 hr with hr | hr
  ·obtain⟨j,hj⟩:=List.mem_iff_getElem?.1 hr
   have hjl:=(List.getElem?_eq_some_iff.1 hj).1
   rw[eK hlen2,gG,←hlen]at hjl
   by_cases hjK:j∈K
   ·obtain⟨i,hi⟩:=List.mem_iff_getElem?.1 hjK
    have q1:=jH hnd hlob' hi (hKl j hjK)
    rcases Nat.lt_or_ge i K1.length with hil | hig
    ·have q2:i<ok.length:=by rw[hlobk];exact hil
     rw[List.getElem?_append_left q2,dC q2]at q1
     rw[aY hlen2 q1,hcoK i j hi,hco1 i hil]at hj
     injection hj with hj
     subst hj
     refine h3.res _ (List.mem_append_left _ (by rw[←hrk];exact List.mem_of_getElem? (aY (by rw[hlobk,hclK]) (dC q2))))
    have hik:=(List.getElem?_eq_some_iff.1 hi).1
    have q2:(ok++bG K2)[i]? =some none:=by
     rw[List.getElem?_append_right (by rw[hlobk];exact hig),hlobk]
     unfold bG
     rw[hKK,cO]at hik
     rw[List.getElem?_map,dC (by omega)]
     rfl
    rw[q2]at q1
    rw[aY hlen2 q1]at hj
    injection hj with hj
    subst hj
    cases hb:(co (cH cs K (cl++K2.map (co cs))) j).b <;> simp[aL]
   have q1:(bB ob K (ok++bG K2))[j]? =ob[j]? :=fW hjK
   rw[dC hjl]at q1
   rw[aY hlen2 q1,jS hjK]at hj
   injection hj with hj
   subst hj
   have q2:(bB ob K (bG K))[j]? =ob[j]? :=fW hjK
   rw[dC hjl]at q2
   exact h4.res _ (List.mem_append_right _ (List.mem_of_getElem? (aY (by rw[fL];exact hlen) q2)))
  exact hφz r hr)
 refine⟨.of hR.1 hLf ⟨by rw[cO,cO,hlen2,dF,hlz],fun k o hk=>?_⟩ (fun i hi=>?_) (hR.3.trans hsame3),fun d=>⟨hsame3,fun k hk hkc=>?_,hsize,fun b hlt hb=>?_,fun b hb=>?_,fun _ _=>rfl⟩⟩
 ·rcases Nat.lt_or_ge k (bB ob K (ok++bG K2)).length with hlt | hge
  ·rw[List.getElem?_append_left hlt]at hk
   rw[happ (by rw[←hlen2];exact hlt)]
   rw[fL]at hlt
   by_cases hkK:k∈K
   ·obtain⟨i,hi⟩:=List.mem_iff_getElem?.1 hkK
    rw[jH hnd hlob' hi hlt]at hk
    have hik:=(List.getElem?_eq_some_iff.1 hi).1
    rcases Nat.lt_or_ge i K1.length with hil9 | hig
    case inr=>
     rw[List.getElem?_append_right (by rw[hlobk];exact hig),hlobk]at hk
     unfold bG at hk
     rw[List.getElem?_map]at hk
     cases hq:K2[i-K1.length]? with
     | none=>rw[hq]at hk;cases hk
     | some k9=>rw[hq]at hk;simp at hk
    have hil:i<lent'.length:=by rw[hlK];exact hil9
    obtain⟨l',q0,q2⟩:=oM hbk (dC hil)
    rw[List.getElem?_append_left (by rw[hlobk];exact hil9),q2]at hk
    injection hk with hk
    injection hk with hk
    subst hk
    have q1:=hsh.1.2 i (lent'[i]).ob (by rw[eL,dC hil];rfl)
    rw[hcoK i k hi,hco1 i hil9]
    have q3:Hm K1 cl (cH cs K (cl++K2.map (co cs))++csn):=fun i k hi=>by
     have hi1:=(List.getElem?_eq_some_iff.1 hi).1
     have hi:=(hK1i i hi1).trans hi
     have hkl:=hKl k (List.mem_of_getElem? hi)
     have hkp:k<(cH cs K (cl++K2.map (co cs))).length:=by rw[gG,←hlen];exact hkl
     exact⟨by rw[cO];omega,by rw[happ hkp,hcoK i k hi,hco1 i hi1]⟩
    exact⟨cW (fun _ _=>rfl) (fun b hb=>hfree b hb.2.1 hb.2.2) .refl _ _ (Nz q3 q0 q1.1),fun h=>⟨(sM q0).1 (q1.2 h).1,(q1.2 h).2⟩⟩
   rw[fW hkK]at hk
   rw[jS hkK]
   have q1:=hR.obs.2 k o hk
   exact⟨cW hkeep hfr hsame3 _ _ q1.1,q1.2⟩
  rw[List.getElem?_append_right hge]at hk
  have ho:oz[k-(bB ob K (ok++bG K2)).length]? =some o:=by
   rw[List.getElem?_map]at hk
   cases hq:oz[k-(bB ob K (ok++bG K2)).length]? with
   | none=>rw[hq]at hk;cases hk
   | some o'=>
    rw[hq]at hk
    simp at hk
    rw[hk]
  have q1:=hoz _ o ho
  have e:co (cH cs K (cl++K2.map (co cs))++csn) k=co csn (k-(bB ob K (ok++bG K2)).length):=by
   rw[Gb (by rw[←hlen2];exact hge),hlen2]
  rw[e]
  exact q1
 ·obtain⟨u,q1,q2⟩:=hR.fv hi
  exact⟨u,q1,fB hkeep hfr hsame3 _ _ q2⟩
 ·rw[happ (by rw[gG];exact hkc),jS hk]
 ·refine h3.chg.block b hlt fun hm=>?_
  obtain⟨r,hr,hbr⟩:=List.mem_flatMap.1 hm
  obtain⟨i,hi⟩:=List.mem_iff_getElem?.1 hr
  have hil:=(List.getElem?_eq_some_iff.1 hi).1
  have hil2:i<K.length:=by
   rw[eK (by simp[hlobs])]at hil
   simpa using hil
  obtain⟨a,l',q1,_,q2⟩:=hgetL i K[i] (dC hil2)
  have e1:(aT (lent++given))[i]? =some (some a.ob):=by rw[eL,q1];rfl
  rw[aY (by simp[hlobs]) e1,iY (dC hil2)]at hi
  injection hi with hi
  subst hi
  rw[show aL (some a.ob) (co cs K[i])=aL (some ⟨a.t,a.z,l'⟩) (co cs K[i]) from iZ _ _]at hbr
  exact hb K[i] (List.getElem_mem hil2) _ q2 hbr
 have q1:=hin2 b hb
 rw[List.flatMap_append,List.mem_append]at q1
 rcases q1 with q1 | q1
 ·rcases(h3.blk b q1).1 with q2 | q2
  ·exact .inl (hlentS b q2)
  exact .inr q2
 exact .inl (hrest b q1)
end
theorem Kq (a b:Rat):aJ a [b]=if b<a then b else a:=rfl
theorem pF (a b:Rat):aJ a [b]≤a:=by rw[Kq];split <;> grind
theorem Pj (a b:Rat):aJ a [b]≤b:=by rw[Kq];split <;> grind
def Mu (D:Nat) (q:Rat):Prop:=∃k:Int,q*(D:Rat)=(k:Rat)
section
variable {D E:Nat}{p q:Rat}
theorem Mu.zero:Mu D 0:=⟨0,by simp⟩
theorem Mu.add (h:Mu D p) (h':Mu D q):Mu D (p+q):=by
 obtain⟨a,ha⟩:=h
 obtain⟨b,hb⟩:=h'
 exact⟨a+b,by rw[Rat.add_mul,ha,hb,Rat.intCast_add]⟩
theorem Mu.neg (h:Mu D p):Mu D (-p):=by
 obtain⟨a,ha⟩:=h
 exact⟨-a,by rw[Rat.neg_mul,ha,Rat.intCast_neg]⟩
theorem Mu.sub (h:Mu D p) (h':Mu D q):Mu D (p-q):=by
 rw[Rat.sub_eq_add_neg]
 exact h.add h'.neg
theorem Mu.up (h:Mu D p):Mu (E*D) p:=by
 obtain⟨a,ha⟩:=h
 refine⟨(E:Int)*a,?_⟩
 rw[Rat.intCast_mul,←ha,Rat.natCast_mul]
 show p*((E:Rat)*(D:Rat))=((E:Int):Rat)*(p*(D:Rat))
 have:((E:Int):Rat)=(E:Rat):=rfl
 grind
theorem Mu.up' (h:Mu D p):Mu (D*E) p:=by
 rw[Nat.mul_comm]
 exact h.up
theorem TN (q:Rat):q*(q.den:Rat)=(q.num:Rat):=by
 have h:=Rat.num_divInt_den q
 have h2:Rat.divInt q.num (q.den:Int)=(q.num:Rat)/((q.den:Int):Rat):=Rat.divInt_eq_div _ _
 have h3:((q.den:Int):Rat)=(q.den:Rat):=rfl
 have h4:(q.den:Rat)≠0:=by
  have:=q.den_pos
  intro h
  have:q.den=0:=by exact_mod_cast h
  omega
 rw[h2,h3]at h
 have h6:(q.num:Rat)/(q.den:Rat)*(q.den:Rat)=(q.num:Rat):=Rat.div_mul_cancel h4
 rwa[h]at h6
theorem Mu.self (p:Rat):Mu p.den p:=⟨p.num,TN p⟩
theorem Mu.min (h:Mu D p) (h':Mu D q):Mu D (aJ p [q]):=by
 rw[Kq]
 split
 ·exact h'
 exact h
theorem Mu.sz {L B:Nat}(h:Mu D p) (h0:0≤p) (hB:p≤(B:Rat)) (hD:0<D) (hL:(dg 4294967296 B).length+(dg 4294967296 D).length≤L):Sz L p:=by
 obtain⟨k,hk⟩:=h
 have hD':(0:Rat)<(D:Rat):=by exact_mod_cast hD
 have hp:p=Rat.divInt k D:=by
  have h2:Rat.divInt k (D:Int)=(k:Rat)/((D:Int):Rat):=Rat.divInt_eq_div k D
  rw[h2,←hk,show(((D:Nat):Int):Rat)=(D:Rat) from rfl,Rat.mul_div_cancel (by grind)]
 have h1:(0:Rat)≤(k:Rat):=by rw[←hk];exact Rat.mul_nonneg h0 (by grind)
 have hk0:0≤k:=by exact_mod_cast h1
 have h3:(k:Rat)≤((B:Rat)*(D:Rat)):=by rw[←hk];exact Rat.mul_le_mul_of_nonneg_right hB (by grind)
 have h4:(k:Rat)≤(((B*D:Nat):Int):Rat):=by
  have e:(((B*D:Nat):Int):Rat)=(B:Rat)*(D:Rat):=by
   show((B*D:Nat):Rat)=_
   exact Rat.natCast_mul ..
  rw[e]
  exact h3
 have h5:k≤((B*D:Nat):Int):=by exact_mod_cast h4
 obtain⟨e1,e2⟩:=tU (a:=k) (b:=D) (L:=L) (M:=L) (by omega) (Nat.le_trans (jO (show k.natAbs≤B*D by omega)) (Nat.le_trans (oS B D) hL)) (by unfold vR;rw[Int.natAbs_natCast];omega)
 rw[hp]
 exact⟨e1,e2⟩
end
theorem TO {q:Rat}{B:Nat}(h:q.num.natAbs≤B):q≤(B:Rat):=by
 rcases Rat.le_total (a:=q) (b:=0)with h0 | h0
 ·exact Rat.le_trans h0 (by exact_mod_cast Nat.zero_le B)
 have h1:q*(q.den:Rat)=(q.num:Rat):=TN q
 have h2:(1:Rat)≤(q.den:Rat):=by exact_mod_cast q.den_pos
 have h3:q*1≤q*(q.den:Rat):=Rat.mul_le_mul_of_nonneg_left h2 h0
 have h4:(q.num:Rat)≤(B:Rat):=by
  have:q.num≤(B:Int):=by omega
  exact_mod_cast this
 grind
def BB:Nat:=340282366920938463463374607431768211456
theorem Wm {q:Rat}(h:Sz 4 q):q≤(BB:Rat):=by
 refine TO ?_
 have h1:=qX (B:=4294967296) (by omega) (n:=q.num.natAbs)
 have h2:(4294967296:Nat)^(dg 4294967296 q.num.natAbs).length≤4294967296^4:=Nat.pow_le_pow_right (by omega) h.1
 have h3:(4294967296:Nat)^4=BB:=by decide
 omega
theorem TP:(dg 4294967296 BB).length≤5:=dK (by omega) (by decide)
def sR (t:Nat) (us:List (Int×Rat)):Tr:=.s true t 5 us.length (us.flatMap (cT false))
def sO (t:Nat) (us:List (Int×Rat)):Tr:=.s true t 5 us.length (us.flatMap (cT true))
def eB (us:List (Int×Rat)):List AV:=(us.flatMap (cT false)).map .t
def pZ (us:List (Int×Rat)):List AV:=(us.flatMap (cT true)).map .t
section
variable {us vs:List (Int×Rat)}{k:Nat}{x:Int×Rat}
theorem lT (us:List (Int×Rat)):(eB us).length=us.length*5:=by rw[eB,dF,bM]
theorem uQ (us:List (Int×Rat)):(pZ us).length=us.length*5:=by rw[pZ,dF,bM]
theorem Ml (us:List (Int×Rat)) (x:Int×Rat):eB us++(cT false x).map .t=eB (us++[x]):=by simp[eB,List.flatMap_append]
theorem GR (us:List (Int×Rat)) (x:Int×Rat):pZ us++(cT true x).map .t=pZ (us++[x]):=by simp[pZ,List.flatMap_append]
theorem Ed (h:k<us.length):((eB us).drop (0+k*5)).take ((cT false (aH us k)).map AV.t).length=(cT false (aH us k)).map .t:=by
 rw[eB,←List.map_drop,←List.map_take,Nat.zero_add,dF,uP false h]
theorem Ka (h:k<us.length):((eB us).drop (0+k*5+1)).take (((Fr4.of (aH us k).2).tr false).map AV.t).length=((Fr4.of (aH us k).2).tr false).map .t:=by
 rw[eB,←List.map_drop,←List.map_take,Nat.zero_add,dF,WV false h]
theorem Uw (h:k<us.length):(eB us)[0+k*5]? =some (tv (.int .i64 (aH us k).1)):=by
 have h1:=congrArg (·[0]?) (Ed h)
 simp only[List.getElem?_take,List.getElem?_drop]at h1
 simpa[cT,tv]using h1
theorem PO (h:k<us.length):0+k*5+5≤(eB us).length:=by rw[lT];omega
theorem Rp {q:Rat}(h:k<us.length):0+k*5+1+(((Fr4.of q).tr false).map AV.t).length≤(eB us).length:=by
 rw[lT]
 show 0+k*5+1+4≤_
 omega
theorem Jk (us:List (Int×Rat)) (k:Nat):(us.flatMap (cT false)).take (k*5)=(us.take k).flatMap (cT false):=by
 by_cases h:k≤us.length
 ·conv=>lhs;rw[←List.take_append_drop k us,List.flatMap_append]
  exact List.take_left' (by rw[bM,eA,Nat.min_eq_left h])
 rw[fF (by rw[bM];omega),fF (by omega)]
theorem BN (us:List (Int×Rat)) (k:Nat):(us.flatMap (cT false)).drop (k*5)=(us.drop k).flatMap (cT false):=by
 by_cases h:k≤us.length
 ·conv=>lhs;rw[←List.take_append_drop k us,List.flatMap_append]
  exact List.drop_left' (by rw[bM,eA,Nat.min_eq_left h])
 rw[List.drop_of_length_le (by rw[bM];omega),List.drop_of_length_le (by omega)]
 rfl
theorem IE (h:k<us.length):eJ (eB us) (0+k*5) ((cT false x).map AV.t)=eB (us.set k x):=by
 have e:k*5+((cT false x).map AV.t).length=(k+1)*5:=by show k*5+5=_;omega
 rw[Nat.zero_add]
 unfold eJ eB
 rw[e,←List.map_take,←List.map_drop,Jk,BN,←List.map_append,←List.map_append,List.set_eq_take_append_cons_drop,if_pos h]
 simp[List.flatMap_append]
theorem IF {q:Rat}(h:k<us.length):eJ (eB us) (0+k*5+1) (((Fr4.of q).tr false).map AV.t)=eB (us.set k ((aH us k).1,q)):=by
 rw[←IE h]
 have h1:(eB us).take (0+k*5+1)=(eB us).take (0+k*5)++[tv (.int .i64 (aH us k).1)]:=by
  rw[List.take_add_one,Uw h]
  rfl
 unfold eJ
 rw[h1]
 have e:0+k*5+1+(((Fr4.of q).tr false).map AV.t).length=0+k*5+((cT false ((aH us k).1,q)).map AV.t).length:=by show 0+k*5+1+4=0+k*5+5;omega
 rw[e]
 simp[cT,tv]
theorem GS (us:List (Int×Rat)) (k:Nat):(eB us).take (k*5)=((us.take k).flatMap (cT false)).map .t:=by rw[eB,←List.map_take,Jk]
theorem aN (l:List Tr) (n:Nat) (h:l.length=n):(l.map AV.t).take n=l.map .t:=fF (by simp[h])
theorem Al (o:Bool) (us:List (Int×Rat)):rdTL (us.flatMap (cT o))=us.flatMap (cT false):=by
 have app:∀a b:List Tr,rdTL (a++b)=rdTL a++rdTL b:=by
  intro a b
  induction a with
  | nil=>rfl
  | cons x a ih=>simp[rdTL,ih]
 have u32:∀xs:List Nat,rdTL (aI xs)=aI xs:=by
  intro xs
  induction xs with
  | nil=>rfl
  | cons x xs ih=>simpa[aI,rdTL,nF]using ih
 induction us with
 | nil=>rfl
 | cons x us ih=>
  show rdTL (cT o x++us.flatMap (cT o))=cT false x++us.flatMap (cT false)
  rw[app,ih]
  simp[cT,Fr4.tr,rdTL,nF,sU,u32]
theorem Rm (us:List (Int×Rat)):NoFrL (us.flatMap (cT true)):=by
 have app:∀a b:List Tr,NoFrL a→NoFrL b→NoFrL (a++b):=by
  intro a b ha hb
  induction a with
  | nil=>exact hb
  | cons x a ih=>
   simp only[NoFrL]at ha
   simp only[List.cons_append,NoFrL]
   exact⟨ha.1,ih ha.2⟩
 induction us with
 | nil=>simp[NoFrL]
 | cons x us ih=>
  rw[List.flatMap_cons]
  refine app _ _ ?_ ih
  simp only[cT,Fr4.tr,sU,NoFrL,mY]
  exact⟨trivial,trivial,.inl ⟨trivial,fT _⟩,trivial,.inl ⟨trivial,fT _⟩,trivial⟩
theorem KY (t:Nat) (us:List (Int×Rat)):kL (.one (.t (sO t us))):=.inl ⟨rfl,Rm us⟩
theorem DQ (x:Int×Rat):kL (.agg ((cT true x).map .t)):=by
 simp only[kL,qH,cT,Fr4.tr,sU,List.map_cons,List.map_nil,lM,tR,mY]
 exact⟨trivial,trivial,.inl ⟨trivial,fT _⟩,trivial,.inl ⟨trivial,fT _⟩,trivial⟩
end
section
variable {x:Cx}{g:Nat→FV}{ob:List (Option Ob)}
theorem PM {j k1 k2 e:Nat}{us:List (Int×Rat)}{y:Int}{q:Rat}(hn:Nat.beq k1 k2=false) (h1:Nat.beq j k1=false) (h2:Nat.beq j k2=false) (ho:bX ob j=some ⟨e,5,pZ us++[tv (.int .i64 y),tv (.bool (aM q.num)),.sl k1 0 (dg 4294967296 q.num.natAbs).length,tv (.bool false),.sl k2 0 (dg 4294967296 q.den).length]⟩)
  (o1:bX ob k1=some ⟨113,1,(aI (dg 4294967296 q.num.natAbs)).map .t⟩) (o2:bX ob k2=some ⟨113,1,(aI (dg 4294967296 q.den)).map .t⟩):Sub x g ob g ((((ob.set j (some ⟨e,5,pZ us++[tv (.int .i64 y),tv (.bool (aM q.num)),.t (sU true (dg 4294967296 q.num.natAbs)),tv (.bool false),.sl k2 0 (dg 4294967296 q.den).length]⟩)).set k1 none).set j (some ⟨e,5,pZ (us++[(y,q)])⟩)).set k2 none):=by
 have hk:∀{l:List (Option Ob)}{i m:Nat}{o:Option Ob},Nat.beq i m=false→bX (l.set i o) m=bX l m:=fun{l i m o} h=>by
  unfold bX
  rw[List.getElem?_set_ne (fun e=>by subst e;simp at h)]
 have hjl:=(List.getElem?_eq_some_iff.1 (cX ho)).1
 have hk1l:=(List.getElem?_eq_some_iff.1 (cX o1)).1
 have hb:∀{a b:Nat},Nat.beq a b=false→Nat.beq b a=false:=fun{a b} h=>by
  cases hq:Nat.beq b a
  ·rfl
  rw[Nat.eq_of_beq_eq_true hq]at h
  simp at h
 have hlen:=uQ us
 have s1:=iH (x:=x) (g:=g) (ob:=ob) (j:=j) (k:=k1) (p:=us.length*5+2) (e:=113) (z:=1) (n:=(dg 4294967296 q.num.natAbs).length) (trs:=aI (dg 4294967296 q.num.natAbs)) h1 rfl ho o1 (by rw[List.getElem?_append_right (by omega)];simp[hlen]) (bP _) (aP _)
  (l':=pZ us++[tv (.int .i64 y),tv (.bool (aM q.num)),.t (sU true (dg 4294967296 q.num.natAbs)),tv (.bool false),.sl k2 0 (dg 4294967296 q.den).length]) (by rw[List.set_append_right _ _ (by omega),hlen,show us.length*5+2-us.length*5=2 by omega];rfl)
 have s2:=iH (x:=x) (g:=g) (ob:=(ob.set j (some ⟨e,5,pZ us++[tv (.int .i64 y),tv (.bool (aM q.num)),.t (sU true (dg 4294967296 q.num.natAbs)),tv (.bool false),.sl k2 0 (dg 4294967296 q.den).length]⟩)).set k1 none) (j:=j) (k:=k2) (p:=us.length*5+4) (e:=113) (z:=1) (n:=(dg 4294967296 q.den).length) (trs:=aI (dg 4294967296 q.den)) (t':=e) (z':=5) h2 rfl
  (by rw[hk (hb h1)];unfold bX;rw[List.getElem?_set_self hjl]) (by rw[hk hn,hk h2];exact o2) (by rw[List.getElem?_append_right (by omega)];simp[hlen]) (bP _) (aP _)
  (l':=pZ (us++[(y,q)])) (by rw[List.set_append_right _ _ (by omega),hlen,show us.length*5+4-us.length*5=4 by omega,←GR];rfl)
 exact fun ts W hR=>s2 ts W (s1 ts W hR)
end
end Go.Proofs.YtbbabfkgdnkehaaGreat
