/- Part 8 of a proof: G1 to Mb. -/
import Derived.Test.YthoemjjmkgmnjaaGreatM7
import Derived.Test.YthoemjjmkgmnjaaGreatM6
import Derived.Test.YthoemjjmkgmnjaaGreatM5
set_option maxRecDepth 100000
set_option linter.unusedVariables false
set_option linter.unusedSimpArgs false
namespace Go.Proofs.YthoemjjmkgmnjaaGreat
open Go Go.RowKit
def Zg (a:Zi) (k:Int):Prop:=Lim 4294967296 a.x∧a.x.length≤300000000000∧eF a.s a.x=k
theorem Zn.g {a:Zi}{k:Int}(h:Zn a k):Zg a k:=⟨h.1,Nat.le_trans h.2.1 (by omega),h.2.2⟩
theorem Zg.of {k:Int}(h:(dg 4294967296 k.natAbs).length≤300000000000):Zg (.of k) k:=⟨aR (by omega) _,h,yG k⟩
theorem Zg.len {a:Zi}{k:Int}(h:Zg a k):(dg 4294967296 k.natAbs).length≤300000000000:=by
 obtain⟨h1,h2,rfl⟩:=h
 exact Nat.le_trans (zX h1) h2
theorem Zg.wrong {a:Zi}{k:Int}(h:Zg a k) (hr:dI a.s a.x=false):k=0:=by
 obtain⟨h1,h2,rfl⟩:=h
 exact Dw hr
theorem Xd {a:Zi}{k:Int}(h:Zg a k) (hr:dI a.s a.x=true):gF a=kF k:=by
 obtain⟨h1,h2,rfl⟩:=h
 unfold gF kF
 rw[zW h1 hr,qM h1 hr]
theorem Fw {a:Zi}{k:Int}(ha:Zg a k):aE true Tryz.prog 120 [] [gF a] (aO (.one (tv (.bool (dI a.s a.x))))):=by
 refine bF Tryz.func120 rfl Tryz.ntmps120 rfl aA rfl fun N w c0 h0=>?_
 have hal:=ha.2.1
 refine sq ?_;refine rl ?_;refine bx 0 ?_;refine o1 ?_;refine nl ?_;refine sq ?_;refine rl ?_;refine o1 ?_;refine ld ?_;refine o1 ?_;refine o1 ?_;refine nl ?_;refine sq ?_;refine rl ?_
 (iterate 3 refine o1 ?_);refine WL.split (t:=9) rfl (fun h1=>?_) (fun h1=>?_)
 ·refine o1 ?_;refine ld ?_;refine WL.splitb (t:=11) rfl (fun h2=>?_) (fun h2=>?_)
  ·(iterate 6 refine o1 ?_);refine WL.split (t:=17) rfl (fun h3=>?_) (fun h3=>?_)
   ·refine o1 ?_;refine ld ?_;refine o1 ?_;refine o1 ?_;refine WL.cast (t:=21) (u':=.int .i64 ((a.x.length-1:Nat):Int)) rfl (aI (by omega)) ?_
    refine o1 ?_;refine cR ([.v (.int .u32 ((nth a.x (a.x.length-1):Nat):Int))]) (qW a.x (k:=a.x.length-1) (by omega)) ?_
    (iterate 4 refine o1 ?_);refine nl ?_;refine rt ?_;refine en (.inl rfl) rfl (aP (bL _)) (by decide) (fun _=>trivial) (congrArg (fun b=>FV.one (tv (.bool b))) ?_)
    rw[nL (by omega)];simp_all
   (iterate 7 refine aX ?_);(iterate 3 refine o1 ?_);refine nl ?_;refine rt ?_
   refine en (.inl rfl) rfl (aP (bL _)) (by decide) (fun _=>trivial) (congrArg (fun b=>FV.one (tv (.bool b))) ?_)
   rw[nL (by omega)];simp_all
  (iterate 3 refine o1 ?_);(iterate 11 refine aX ?_);refine o1 ?_;refine o1 ?_;refine nl ?_;refine rt ?_
  refine en (.inl rfl) rfl (aP (bL _)) (by decide) (fun _=>trivial) (congrArg (fun b=>FV.one (tv (.bool b))) ?_)
  rw[nL (by omega)];simp_all
 (iterate 3 refine aX ?_);(iterate 5 refine o1 ?_);refine WL.split (t:=17) rfl (fun h4=>?_) (fun h4=>?_)
 ·refine o1 ?_;refine ld ?_;refine o1 ?_;refine o1 ?_;refine WL.cast (t:=21) (u':=.int .i64 ((a.x.length-1:Nat):Int)) rfl (aI (by omega)) ?_
  refine o1 ?_;refine cR ([.v (.int .u32 ((nth a.x (a.x.length-1):Nat):Int))]) (qW a.x (k:=a.x.length-1) (by omega)) ?_
  (iterate 4 refine o1 ?_);refine nl ?_;refine rt ?_;refine en (.inl rfl) rfl (aP (bL _)) (by decide) (fun _=>trivial) (congrArg (fun b=>FV.one (tv (.bool b))) ?_)
  first | exact(vH rfl (by omega)).symm | (unfold dI;simp_all;try omega)
 (iterate 7 refine aX ?_);(iterate 3 refine o1 ?_);refine nl ?_;refine rt ?_
 refine en (.inl rfl) rfl (aP (bL _)) (by decide) (fun _=>trivial) (congrArg (fun b=>FV.one (tv (.bool b))) ?_)
 first | exact(vH rfl (by omega)).symm | (unfold dI;simp_all;try omega)
theorem eC {a:Zi}{k:Int}(ha:Zg a k):aE false Tryz.prog 151 [] [gF a] (aO (kF k)):=by
 refine bF Tryz.func151 rfl Tryz.ntmps151 rfl aA rfl fun N w c0 h0=>?_
 refine sq ?_;refine rl ?_;refine bx 0 ?_;refine al 1 ?_;refine nl ?_;refine sq ?_;refine sq ?_;refine rl ?_;refine ld ?_
 refine ca (Fw ha) So ⟨aB rfl,rfl⟩ (.one (tv (.bool (dI a.s a.x)))) ?_;refine WL.splitb (t:=4) rfl (fun h1=>?_) (fun h1=>?_)
 ·refine o1 ?_;refine nl ?_;refine jN rfl ?_;refine sk ?_;refine sq ?_;refine rl ?_;refine ld ?_;refine o1 ?_;refine st ?_;refine nl ?_;refine rt ?_
  exact en (.inl rfl) rfl (aP (.agg (.read _ (l:=[.v (.bool a.s),sU false a.x]) rfl))) (by decide) (fun h=>by cases h) (Xd ha h1)
 refine o1 ?_;refine nl ?_;refine fY rfl ?_;refine sq ?_;refine rl ?_;refine o1 ?_;refine st ?_;refine nl ?_;refine rt ?_
 exact en (.inl rfl) rfl (aP (.agg (.cons (.id rfl) (.cons .nilf .nil)))) (by decide) (fun h=>by cases h) (by rw[ha.wrong h1];exact Eo)
theorem Xe {b:Bool}{m:Nat}{K:Int}(hK:bT b m=K):aE false Tryz.prog 148 [] [.one (tv (.bool b)),.one (.t (sU false (dg 4294967296 m)))] (aO (kF K)):=by
 refine bF Tryz.func148 rfl Tryz.ntmps148 rfl aA rfl fun N w c0 h0=>?_
 refine sq ?_;refine rl ?_;refine al 0 ?_;refine nl ?_;refine sq ?_;refine rl ?_;refine o1 ?_;refine o1 ?_;refine WL.splitb (t:=6) rfl (fun h1=>?_) (fun h1=>?_)
 ·(iterate 6 refine o1 ?_);refine st ?_;refine nl ?_;refine rt ?_
  exact en (.inl rfl) rfl (aP (.agg (.cons (.id rfl) (.cons (.id rfl) .nil)))) (by decide) (fun h=>by cases h) (hK▸congrArg An (vI (by rw[uN,h1,Bool.true_and,←nF (m:=m) rfl];exact decide_eq_decide.2 (by omega)) (jS _ _).symm))
 (iterate 3 refine aX ?_);(iterate 3 refine o1 ?_);refine st ?_;refine nl ?_;refine rt ?_
 exact en (.inl rfl) rfl (aP (.agg (.cons (.id rfl) (.cons (.id rfl) .nil)))) (by decide) (fun h=>by cases h) (hK▸congrArg An (vI (by rw[uN,h1];rfl) (jS _ _).symm))
theorem iU {b:Bool}{m:Nat}{K:Int}(hK:bT b m=K):wD false Tryz.prog 148 [⟨109,1,(aV (dg 4294967296 m)).map .t⟩] [.one (tv (.bool b)),.one (.sl 0 0 (dg 4294967296 m).length)] (· =kO K):=by
 refine WS Tryz.func148 rfl Tryz.ntmps148 rfl aA rfl fun N M w c0 h0=>?_
 refine sq ?_;refine rl ?_;refine al 1 ?_;refine nl ?_;refine sq ?_;refine rl ?_;refine o1 ?_;refine o1 ?_;refine WL.splitb (t:=6) rfl (fun h1=>?_) (fun h1=>?_)
 ·(iterate 6 refine o1 ?_);refine st ?_;refine nl ?_;refine rt ?_
  exact oE (en (.inl rfl) rfl (aP (.agg (.cons (.id rfl) (.cons (.sl (trs:=aV (dg 4294967296 m)) rfl rfl (bB _) (aZ _)) .nil)))) (by decide) (fun h=>by cases h) (hK▸vI (by rw[uN,h1,Bool.true_and,←nF (m:=m) rfl];exact decide_eq_decide.2 (by omega)) (jS _ _).symm))
 (iterate 3 refine aX ?_);(iterate 3 refine o1 ?_);refine st ?_;refine nl ?_;refine rt ?_
 exact oE (en (.inl rfl) rfl (aP (.agg (.cons (.id rfl) (.cons (.sl (trs:=aV (dg 4294967296 m)) rfl rfl (bB _) (aZ _)) .nil)))) (by decide) (fun h=>by cases h) (hK▸vI (by rw[uN,h1];rfl) (jS _ _).symm))
theorem Md {k:Int}:aE false Tryz.prog 152 [] [kF k] (aO (kF (-k))):=by
 refine bF Tryz.func152 rfl Tryz.ntmps152 rfl aA rfl fun N w c0 h0=>?_
 refine sq ?_;refine rl ?_;refine bx 0 ?_;refine al 1 ?_;refine nl ?_;refine sq ?_;refine rl ?_;refine o1 ?_;refine o1 ?_;refine ld ?_;(iterate 3 refine o1 ?_);refine ld ?_
 refine ca (Xe (m:=k.natAbs) (K:=-k) (Ny k)) mP ⟨a1 rfl,a1 rfl,rfl⟩ (kF (-k)) ?_;refine o1 ?_;refine st ?_;refine nl ?_;refine rt ?_
 exact en (.inl rfl) rfl (aP (.agg (.cons (.id rfl) (.cons (.id rfl) .nil)))) (by decide) (fun h=>by cases h) rfl
theorem DX {a:Zi}{k:Int}(ha:Zg a k):aE true Tryz.prog 112 [] [gF a] (aO (kO (-(k)))):=by
 refine bF Tryz.func112 rfl Tryz.ntmps112 rfl aA rfl fun N w c0 h0=>?_
 have hkl:=ha.len
 refine sq ?_;refine rl ?_;refine bx 0 ?_;refine al 1 ?_;refine nl ?_;refine sq ?_;refine rl ?_;refine ld ?_;refine ca (eC ha) dJ ⟨aB rfl,rfl⟩ (kF (k)) ?_
 refine ca (Md (k:=k)) DF ⟨aB rfl,rfl⟩ (kF (-(k))) ?_;refine al 2 ?_;refine st ?_;refine nl ?_;refine sq ?_;refine rd [0,1,2] (fun i=>[8].contains i) mixed ?_
 refine dv 0 ?_;refine dv 1 ?_;refine aJ 2 ?_;refine dv 3 ?_;refine dv 4 ?_;refine aJ 5 ?_
 refine jX 3 6 rfl (Qe (aR (by omega) _) (by have:=lE k;omega)) DG ⟨a1 rfl,rfl⟩ ?_
 refine df 7 ?_;refine dst 8 ?_;refine aK ?_;refine rt ?_
 exact en (.inl rfl) rfl (aP (.agg (.cons (.id rfl) (.cons (.sl (trs:=aV (dg 4294967296 (-(k)).natAbs)) rfl rfl (bB _) (aZ _)) .nil)))) (by decide) (fun _=>eX (-(k))) rfl
theorem SD {a:Zi}{k:Int}(ha:Zg a k):aE true Tryz.prog 113 [] [gF a] (aO (kO (((k.natAbs:Nat):Int)))):=by
 refine bF Tryz.func113 rfl Tryz.ntmps113 rfl aA rfl fun N w c0 h0=>?_
 have hkl:=ha.len
 refine sq ?_;refine rl ?_;refine bx 0 ?_;refine al 1 ?_;refine nl ?_;refine sq ?_;refine rl ?_;refine ld ?_;refine ca (eC ha) dJ ⟨aB rfl,rfl⟩ (kF (k)) ?_;refine o1 ?_;refine o1 ?_
 refine gY 2 (Qe (aR (by omega) _) (by have:=lE k;omega)) DG ⟨a1 rfl,rfl⟩ ?_
 refine o1 ?_;refine st ?_;refine nl ?_;refine rt ?_
 exact en (.inl rfl) rfl (aP (.agg (.cons (.id rfl) (.cons (.sl (trs:=aV (dg 4294967296 k.natAbs)) rfl rfl (bB _) (aZ _)) .nil)))) (by decide) (fun _=>Ep _ _) (vI (by unfold aL;simp) (by omega))
theorem Xf {k k':Int}(hk:(dg 4294967296 k.natAbs).length≤500000000000) (hk':(dg 4294967296 k'.natAbs).length≤500000000000):aE true Tryz.prog 156 [] [kF k,kF k'] (aO (kO (k+k'))):=by
 refine bF Tryz.func156 rfl Tryz.ntmps156 rfl aA rfl fun N w c0 h0=>?_
 have hal:=Er (xs:=dg 4294967296 k.natAbs) (ys:=dg 4294967296 k'.natAbs) (aR (by omega) _) (aR (by omega) _)
 rw[bN,bN]at hal;refine sq ?_;refine rl ?_;refine bx 0 ?_;refine bx 1 ?_;refine al 2 ?_;refine nl ?_;refine sq ?_;refine sq ?_;refine rl ?_;refine o1 ?_;refine o1 ?_
 refine ld ?_;refine o1 ?_;refine o1 ?_;refine ld ?_;refine o1 ?_;refine nl ?_;refine kJ rfl (fun h1=>?_) (fun h1=>?_)
 ·refine sq ?_;refine rd [0,1,2] (fun i=>[11].contains i) mixed ?_
  refine dv 0 ?_;refine dv 1 ?_;refine aJ 2 ?_;refine dv 3 ?_;refine dv 4 ?_;refine aJ 5 ?_;refine dv 6 ?_;refine dv 7 ?_;refine aJ 8 ?_
  have hA:aE true Tryz.prog 175 [] [.one (.t (sU false (dg 4294967296 k.natAbs))),.one (.t (sU false (dg 4294967296 k'.natAbs)))] (aO (.one (.t (sU true (dg 4294967296 (k.natAbs+k'.natAbs)))))):=by have h9:=DV (aR (by omega) k.natAbs) (aR (by omega) k'.natAbs) (by omega) (by omega);rwa[bN,bN]at h9
  refine jX 3 9 rfl hA DJ ⟨a1 rfl,a1 rfl,rfl⟩ ?_
  refine Dy 10 4 [3] rfl (iU (m:=(k.natAbs+k'.natAbs)) (K:=k+k') (Gl rfl (eq_of_beq h1))) mP ⟨aT rfl,rfl⟩ ⟨rfl,rfl,rfl⟩ ⟨rfl,rfl,rfl,trivial⟩ ?_;refine dst 11 ?_
  refine aK ?_;refine rt ?_
  exact en (.inl rfl) rfl (aP (.agg (.cons (.id rfl) (.cons (.sl (trs:=aV (dg 4294967296 (k+k').natAbs)) rfl rfl (bB _) (aZ _)) .nil)))) (by decide) (fun _=>eX (k+k')) rfl
 refine sk ?_;refine sq ?_;refine sq ?_;refine rl ?_;refine o1 ?_;refine o1 ?_;refine ld ?_;refine o1 ?_;refine o1 ?_;refine ld ?_
 refine ca (RY (aR (by omega) _) (aR (by omega) _)) RS ⟨a1 rfl,a1 rfl,rfl⟩ (.one (tv (.int .i64 (nW (vl 4294967296 (dg 4294967296 (k).natAbs)) (vl 4294967296 (dg 4294967296 (k').natAbs)))))) ?_
 refine o1 ?_;refine nl ?_;refine bS rfl (fun h2=>?_) (fun h2=>?_)
 ·refine rl ?_;refine ld ?_;refine ld ?_;refine st ?_;refine st ?_;refine nl ?_;refine sq ?_;refine rl ?_;refine o1 ?_;refine o1 ?_;refine ld ?_;refine o1 ?_;refine o1 ?_;refine ld ?_
  have hlt:k.natAbs<k'.natAbs:=Decidable.byContradiction fun h8=>by rw[bN,bN]at h2;rcases Nat.lt_or_ge k'.natAbs k.natAbs with h7 | h7;(rw[nE h7]at h2;omega);(rw[uK (by omega)]at h2;omega)
  have hS:aE true Tryz.prog 176 [] [.one (.t (sU false (dg 4294967296 k'.natAbs))),.one (.t (sU false (dg 4294967296 k.natAbs)))] (aO (.tup [.one (.t (sU true (dg 4294967296 (k'.natAbs-k.natAbs)))),.one (tv (.int .i64 0))])):=by have h9:=Td (aR (by omega) k'.natAbs) (aR (by omega) k.natAbs) (by omega) (by rw[bN,bN];omega);rwa[bN,bN]at h9
  refine gY 3 hS Sp ⟨a1 rfl,a1 rfl,rfl⟩ ?_;(iterate 5 refine o1 ?_);refine nl ?_;refine sq ?_;refine rl ?_;refine o1 ?_;refine o1 ?_;refine ld ?_;refine o1 ?_
  refine cm 4 [3] (iU (m:=(k'.natAbs-k.natAbs)) (K:=k+k') (Oc rfl (ne_of_beq_false h1) hlt)) mP ⟨aT rfl,rfl⟩ ⟨rfl,rfl,rfl⟩ ?_;refine st ?_;refine nl ?_;refine rt ?_
  exact en (.inl rfl) rfl (aP (.agg (.cons (.id rfl) (.cons (.sl (trs:=aV (dg 4294967296 (k+k').natAbs)) rfl rfl (bB _) (aZ _)) .nil)))) (by decide) (fun _=>eX (k+k')) rfl
 refine sk ?_;refine sq ?_;refine rl ?_;refine o1 ?_;refine o1 ?_;refine ld ?_;refine o1 ?_;refine o1 ?_;refine ld ?_
 have hlt:¬k.natAbs<k'.natAbs:=fun h8=>h2 (by rw[bN,bN,qL h8];omega)
 have hS:aE true Tryz.prog 176 [] [.one (.t (sU false (dg 4294967296 k.natAbs))),.one (.t (sU false (dg 4294967296 k'.natAbs)))] (aO (.tup [.one (.t (sU true (dg 4294967296 (k.natAbs-k'.natAbs)))),.one (tv (.int .i64 0))])):=by have h9:=Td (aR (by omega) k.natAbs) (aR (by omega) k'.natAbs) (by omega) (by rw[bN,bN];omega);rwa[bN,bN]at h9
 refine gY 3 hS Sp ⟨a1 rfl,a1 rfl,rfl⟩ ?_;(iterate 5 refine o1 ?_);refine nl ?_;refine sq ?_;refine rl ?_;refine o1 ?_;refine o1 ?_;refine ld ?_;refine o1 ?_
 refine cm 4 [3] (iU (m:=(k.natAbs-k'.natAbs)) (K:=k+k') (Oa rfl (ne_of_beq_false h1) hlt)) mP ⟨aT rfl,rfl⟩ ⟨rfl,rfl,rfl⟩ ?_;refine st ?_;refine nl ?_;refine rt ?_
 exact en (.inl rfl) rfl (aP (.agg (.cons (.id rfl) (.cons (.sl (trs:=aV (dg 4294967296 (k+k').natAbs)) rfl rfl (bB _) (aZ _)) .nil)))) (by decide) (fun _=>eX (k+k')) rfl
theorem DY {a b:Zi}{k k':Int}(ha:Zg a k) (hb:Zg b k'):aE true Tryz.prog 150 [] [gF a,gF b] (aO (kO (k+k'))):=by
 refine bF Tryz.func150 rfl Tryz.ntmps150 rfl aA rfl fun N w c0 h0=>?_
 have hkl:=ha.len
 have hkl':=hb.len
 refine sq ?_;refine rl ?_;refine bx 0 ?_;refine bx 1 ?_;refine al 2 ?_;refine nl ?_;refine sq ?_;refine rd [0,1,2] (fun i=>[5].contains i) mixed ?_
 refine aJ 0 ?_;refine aJ 2 ?_;refine aF 1 rfl (eC ha) dJ ⟨aB rfl,rfl⟩ (kF (k)) ?_;refine aF 3 rfl (eC hb) dJ ⟨aB rfl,rfl⟩ (kF (k')) ?_
 refine jX 3 4 rfl (Xf (k:=k) (k':=k') (by omega) (by omega)) DH ⟨aB rfl,aB rfl,rfl⟩ ?_
 refine dst 5 ?_;refine aK ?_;refine rt ?_
 exact en (.inl rfl) rfl (aP (.agg (.cons (.id rfl) (.cons (.sl (trs:=aV (dg 4294967296 ((k+k')).natAbs)) rfl rfl (bB _) (aZ _)) .nil)))) (by decide) (fun _=>eX ((k+k'))) rfl
theorem SE {a b:Zi}{k k':Int}(ha:Zg a k) (hb:Zg b k'):aE true Tryz.prog 118 [] [gF a,gF b] (aO (kO (k-k'))):=by
 refine bF Tryz.func118 rfl Tryz.ntmps118 rfl aA rfl fun N w c0 h0=>?_
 have hkl:=ha.len
 have hkl':=hb.len
 have hkn:=lE k'
 refine sq ?_;refine rl ?_;refine bx 0 ?_;refine bx 1 ?_;refine al 2 ?_;refine nl ?_;refine sq ?_;refine rd [0,1,2] (fun i=>[6].contains i) mixed ?_
 refine aJ 0 ?_;refine aJ 2 ?_;refine aF 1 rfl (eC ha) dJ ⟨aB rfl,rfl⟩ (kF (k)) ?_;refine aF 3 rfl (eC hb) dJ ⟨aB rfl,rfl⟩ (kF (k')) ?_
 refine aF 4 rfl (Md (k:=k')) DF ⟨aB rfl,rfl⟩ (kF (-(k'))) ?_;refine jX 3 5 rfl (Xf (k:=k) (k':=(-(k'))) (by omega) (by omega)) DH ⟨aB rfl,aB rfl,rfl⟩ ?_
 refine dst 6 ?_;refine aK ?_;refine rt ?_
 exact en (.inl rfl) rfl (aP (.agg (.cons (.id rfl) (.cons (.sl (trs:=aV (dg 4294967296 ((k+(-(k')))).natAbs)) rfl rfl (bB _) (aZ _)) .nil)))) (by decide) (fun _=>eX ((k+(-(k'))))) (by rw[Int.sub_eq_add_neg];rfl)
theorem Dz {a:Zi}{k:Int}(ha:Zg a k):aE true Tryz.prog 117 [] [gF a] (aO (.one (tv (.int .i64 k.sign)))):=by
 refine bF Tryz.func117 rfl Tryz.ntmps117 rfl aA rfl fun N w c0 h0=>?_
 refine sq ?_;refine rl ?_;refine bx 0 ?_;refine o1 ?_;refine nl ?_;refine sq ?_;refine sq ?_;refine rl ?_;refine ld ?_;refine ca (eC ha) dJ ⟨aB rfl,rfl⟩ (kF (k)) ?_;refine al 1 ?_
 refine st ?_;refine nl ?_;refine bl ?_;refine sq ?_;refine rl ?_;refine o1 ?_;refine o1 ?_;refine ld ?_;refine o1 ?_;refine nl ?_;refine kJ rfl (fun h1=>?_) (fun h1=>?_)
 ·refine sq ?_;refine rl ?_;refine o1 ?_;refine nl ?_;refine rt ?_;refine en (.inl rfl) rfl (aP (bL _)) (by decide) (fun _=>trivial) (congrArg (fun z=>FV.one (tv (.int .i64 z))) ?_)
  have h9:k<0:=of_decide_eq_true h1
  exact(Int.sign_eq_neg_one_of_neg h9).symm
 refine sq ?_;refine rl ?_;refine o1 ?_;refine o1 ?_;refine ld ?_;(iterate 3 refine o1 ?_);refine nl ?_;refine bS rfl (fun h2=>?_) (fun h2=>?_)
 ·refine sq ?_;refine rl ?_;refine o1 ?_;refine nl ?_;refine rt ?_;refine en (.inl rfl) rfl (aP (bL _)) (by decide) (fun _=>trivial) (congrArg (fun z=>FV.one (tv (.int .i64 z))) ?_)
  have h9:¬k<0:=of_decide_eq_false h1
  have h8:=nF (m:=k.natAbs) rfl
  have h7:decide (0<k.natAbs)=true:=by rw[←h8];exact decide_eq_true (by omega)
  have h6:=of_decide_eq_true h7
  exact(Int.sign_eq_one_of_pos (by omega)).symm
 refine sk ?_;refine sq ?_;refine rl ?_;refine o1 ?_;refine nl ?_;refine rt ?_
 refine en (.inl rfl) rfl (aP (bL _)) (by decide) (fun _=>trivial) (congrArg (fun z=>FV.one (tv (.int .i64 z))) ?_)
 have h9:¬k<0:=of_decide_eq_false h1
 have h8:=nF (m:=k.natAbs) rfl
 have h7:decide (0<k.natAbs)=false:=by rw[←h8];exact decide_eq_false (by omega)
 have h6:=of_decide_eq_false h7
 obtain rfl:k=0:=by omega
 rfl
theorem Tf {a b:Zi}{k k':Int}(ha:Zg a k) (hb:Zg b k') (hs:(dg 4294967296 (k-k').natAbs).length≤300000000000):aE true Tryz.prog 76 [] [gF a,gF b] (aO (.one (tv (.int .i64 (k-k').sign)))):=by
 refine bF Tryz.func76 rfl Tryz.ntmps76 rfl aA rfl fun N w c0 h0=>?_
 have hkl:=ha.2.1;have hkl2:=ha.len;have hkl3:=hb.len
 refine sq ?_;refine rl ?_;refine bx 0 ?_;refine bx 1 ?_;refine o1 ?_;refine nl ?_;refine sq ?_;refine rl ?_;refine ld ?_;refine ld ?_
 refine ca (SE ha hb) RH ⟨aB rfl,aB rfl,rfl⟩ (kF (k-k')) ?_;refine ca (Dz (Zg.of (k:=k-k') hs)) Ib ⟨aB rfl,rfl⟩ (.one (tv (.int .i64 (k-k').sign))) ?_;refine o1 ?_
 refine nl ?_;refine rt ?_;exact en (.inl rfl) rfl (aP (bL _)) (by decide) (fun _=>trivial) rfl
theorem Ie {a b:Zi}{k k':Int}(ha:Zg a k) (hb:Zg b k'):aE true Tryz.prog 116 [] [gF a,gF b] (aO (kO (k*k'))):=by
 refine bF Tryz.func116 rfl Tryz.ntmps116 rfl aA rfl fun N w c0 h0=>?_
 have hkl:=ha.len
 have hkl':=hb.len
 refine sq ?_;refine rl ?_;refine bx 0 ?_;refine bx 1 ?_;refine al 2 ?_;refine nl ?_
 refine md (γ:=Unit) (fun _=>bV [(4,.one (.pt 0 0)),(5,.one (.pt 1 0)),(6,.one (.pt 2 0))]) (fun _=>([⟨24,0,[tv (.bool false),tv (.slice none 0 0)]⟩,⟨192,0,[tv (.bool (aL k)),.t (sU false (dg 4294967296 k.natAbs))]⟩,⟨192,0,[tv (.bool (aL k')),.t (sU false (dg 4294967296 k'.natAbs))]⟩]:List Ob).map some) (fun _=>True) ?_ fun _ _=>?_
 ·refine rd [0,1,2] (fun i=>[7].contains i) mixed ?_
  refine aJ 0 ?_;refine aJ 2 ?_;refine WO.three (i:=1) (j:=4) (m:=5) (by kernel_rfl) ?_ ?_ ?_
  ·refine dC 1 rfl (eC ha) dJ ⟨aB rfl,rfl⟩ (kF (k)) ?_;refine WO.three (i:=3) (j:=4) (m:=5) (by kernel_rfl) ?_ ?_ ?_
   ·refine dC 3 rfl (eC hb) dJ ⟨aB rfl,rfl⟩ (kF (k')) ?_;refine WO.two (i:=4) (j:=5) (by kernel_rfl) ?_ ?_
    ·refine bM (key:=3) 4 rfl rfl aA rfl ⟨rfl,rfl,rfl,trivial⟩ ?_;refine eO (key:=4) 5 (by kernel_rfl) rfl rfl aA rfl ⟨rfl,rfl,rfl,trivial⟩ ?_
     refine aY 6 (by kernel_rfl) rfl rfl aA rfl rfl rfl rfl ⟨rfl,rfl,rfl,trivial⟩ ?_
     refine dst 7 ?_;refine aK ?_;exact⟨(),trivial,aG h0 [2,3,4] _ _ (by decide) ⟨rfl,rfl,rfl,trivial⟩ ⟨oe rfl rfl,oe rfl rfl,oe rfl rfl,rfl⟩⟩
    refine bM (key:=3) 5 rfl rfl aA rfl ⟨rfl,rfl,rfl,trivial⟩ ?_;refine eO (key:=4) 4 (by kernel_rfl) rfl rfl aA rfl ⟨rfl,rfl,rfl,trivial⟩ ?_
    refine aY 6 (by kernel_rfl) rfl rfl aA rfl rfl rfl rfl ⟨rfl,rfl,rfl,trivial⟩ ?_
    refine dst 7 ?_;refine aK ?_;exact⟨(),trivial,aG h0 [2,4,3] _ _ (by decide) ⟨rfl,rfl,rfl,trivial⟩ ⟨oe rfl rfl,oe rfl rfl,oe rfl rfl,rfl⟩⟩
   ·refine bM (key:=3) 4 rfl rfl aA rfl ⟨rfl,rfl,rfl,trivial⟩ ?_;refine WO.two (i:=3) (j:=5) (by kernel_rfl) ?_ ?_
    ·refine dC 3 rfl (eC hb) dJ ⟨aB rfl,rfl⟩ (kF (k')) ?_;refine eO (key:=4) 5 (by kernel_rfl) rfl rfl aA rfl ⟨rfl,rfl,rfl,trivial⟩ ?_
     refine aY 6 (by kernel_rfl) rfl rfl aA rfl rfl rfl rfl ⟨rfl,rfl,rfl,trivial⟩ ?_
     refine dst 7 ?_;refine aK ?_;exact⟨(),trivial,aG h0 [2,3,4] _ _ (by decide) ⟨rfl,rfl,rfl,trivial⟩ ⟨oe rfl rfl,oe rfl rfl,oe rfl rfl,rfl⟩⟩
    refine bM (key:=4) 5 rfl rfl aA rfl ⟨rfl,rfl,rfl,trivial⟩ ?_;refine aF 3 rfl (eC hb) dJ ⟨aB rfl,rfl⟩ (kF (k')) ?_
    refine aY 6 (by kernel_rfl) rfl rfl aA rfl rfl rfl rfl ⟨rfl,rfl,rfl,trivial⟩ ?_
    refine dst 7 ?_;refine aK ?_;exact⟨(),trivial,aG h0 [2,3,4] _ _ (by decide) ⟨rfl,rfl,rfl,trivial⟩ ⟨oe rfl rfl,oe rfl rfl,oe rfl rfl,rfl⟩⟩
   refine bM (key:=3) 5 rfl rfl aA rfl ⟨rfl,rfl,rfl,trivial⟩ ?_;refine WO.two (i:=3) (j:=4) (by kernel_rfl) ?_ ?_
   ·refine dC 3 rfl (eC hb) dJ ⟨aB rfl,rfl⟩ (kF (k')) ?_;refine eO (key:=4) 4 (by kernel_rfl) rfl rfl aA rfl ⟨rfl,rfl,rfl,trivial⟩ ?_
    refine aY 6 (by kernel_rfl) rfl rfl aA rfl rfl rfl rfl ⟨rfl,rfl,rfl,trivial⟩ ?_
    refine dst 7 ?_;refine aK ?_;exact⟨(),trivial,aG h0 [2,4,3] _ _ (by decide) ⟨rfl,rfl,rfl,trivial⟩ ⟨oe rfl rfl,oe rfl rfl,oe rfl rfl,rfl⟩⟩
   refine bM (key:=4) 4 rfl rfl aA rfl ⟨rfl,rfl,rfl,trivial⟩ ?_;refine aF 3 rfl (eC hb) dJ ⟨aB rfl,rfl⟩ (kF (k')) ?_
   refine aY 6 (by kernel_rfl) rfl rfl aA rfl rfl rfl rfl ⟨rfl,rfl,rfl,trivial⟩ ?_
   refine dst 7 ?_;refine aK ?_;exact⟨(),trivial,aG h0 [2,4,3] _ _ (by decide) ⟨rfl,rfl,rfl,trivial⟩ ⟨oe rfl rfl,oe rfl rfl,oe rfl rfl,rfl⟩⟩
  ·refine bM (key:=3) 4 rfl rfl aA rfl ⟨rfl,rfl,rfl,trivial⟩ ?_;refine WO.two (i:=1) (j:=5) (by kernel_rfl) ?_ ?_
   ·refine dC 1 rfl (eC ha) dJ ⟨aB rfl,rfl⟩ (kF (k)) ?_;refine WO.two (i:=3) (j:=5) (by kernel_rfl) ?_ ?_
    ·refine dC 3 rfl (eC hb) dJ ⟨aB rfl,rfl⟩ (kF (k')) ?_;refine eO (key:=4) 5 (by kernel_rfl) rfl rfl aA rfl ⟨rfl,rfl,rfl,trivial⟩ ?_
     refine aY 6 (by kernel_rfl) rfl rfl aA rfl rfl rfl rfl ⟨rfl,rfl,rfl,trivial⟩ ?_
     refine dst 7 ?_;refine aK ?_;exact⟨(),trivial,aG h0 [2,3,4] _ _ (by decide) ⟨rfl,rfl,rfl,trivial⟩ ⟨oe rfl rfl,oe rfl rfl,oe rfl rfl,rfl⟩⟩
    refine bM (key:=4) 5 rfl rfl aA rfl ⟨rfl,rfl,rfl,trivial⟩ ?_;refine aF 3 rfl (eC hb) dJ ⟨aB rfl,rfl⟩ (kF (k')) ?_
    refine aY 6 (by kernel_rfl) rfl rfl aA rfl rfl rfl rfl ⟨rfl,rfl,rfl,trivial⟩ ?_
    refine dst 7 ?_;refine aK ?_;exact⟨(),trivial,aG h0 [2,3,4] _ _ (by decide) ⟨rfl,rfl,rfl,trivial⟩ ⟨oe rfl rfl,oe rfl rfl,oe rfl rfl,rfl⟩⟩
   refine bM (key:=4) 5 rfl rfl aA rfl ⟨rfl,rfl,rfl,trivial⟩ ?_;refine aF 1 rfl (eC ha) dJ ⟨aB rfl,rfl⟩ (kF (k)) ?_;refine aF 3 rfl (eC hb) dJ ⟨aB rfl,rfl⟩ (kF (k')) ?_
   refine aY 6 (by kernel_rfl) rfl rfl aA rfl rfl rfl rfl ⟨rfl,rfl,rfl,trivial⟩ ?_
   refine dst 7 ?_;refine aK ?_;exact⟨(),trivial,aG h0 [2,3,4] _ _ (by decide) ⟨rfl,rfl,rfl,trivial⟩ ⟨oe rfl rfl,oe rfl rfl,oe rfl rfl,rfl⟩⟩
  refine bM (key:=3) 5 rfl rfl aA rfl ⟨rfl,rfl,rfl,trivial⟩ ?_;refine WO.two (i:=1) (j:=4) (by kernel_rfl) ?_ ?_
  ·refine dC 1 rfl (eC ha) dJ ⟨aB rfl,rfl⟩ (kF (k)) ?_;refine WO.two (i:=3) (j:=4) (by kernel_rfl) ?_ ?_
   ·refine dC 3 rfl (eC hb) dJ ⟨aB rfl,rfl⟩ (kF (k')) ?_;refine eO (key:=4) 4 (by kernel_rfl) rfl rfl aA rfl ⟨rfl,rfl,rfl,trivial⟩ ?_
    refine aY 6 (by kernel_rfl) rfl rfl aA rfl rfl rfl rfl ⟨rfl,rfl,rfl,trivial⟩ ?_
    refine dst 7 ?_;refine aK ?_;exact⟨(),trivial,aG h0 [2,4,3] _ _ (by decide) ⟨rfl,rfl,rfl,trivial⟩ ⟨oe rfl rfl,oe rfl rfl,oe rfl rfl,rfl⟩⟩
   refine bM (key:=4) 4 rfl rfl aA rfl ⟨rfl,rfl,rfl,trivial⟩ ?_;refine aF 3 rfl (eC hb) dJ ⟨aB rfl,rfl⟩ (kF (k')) ?_
   refine aY 6 (by kernel_rfl) rfl rfl aA rfl rfl rfl rfl ⟨rfl,rfl,rfl,trivial⟩ ?_
   refine dst 7 ?_;refine aK ?_;exact⟨(),trivial,aG h0 [2,4,3] _ _ (by decide) ⟨rfl,rfl,rfl,trivial⟩ ⟨oe rfl rfl,oe rfl rfl,oe rfl rfl,rfl⟩⟩
  refine bM (key:=4) 4 rfl rfl aA rfl ⟨rfl,rfl,rfl,trivial⟩ ?_;refine aF 1 rfl (eC ha) dJ ⟨aB rfl,rfl⟩ (kF (k)) ?_;refine aF 3 rfl (eC hb) dJ ⟨aB rfl,rfl⟩ (kF (k')) ?_
  refine aY 6 (by kernel_rfl) rfl rfl aA rfl rfl rfl rfl ⟨rfl,rfl,rfl,trivial⟩ ?_
  refine dst 7 ?_;refine aK ?_;exact⟨(),trivial,aG h0 [2,4,3] _ _ (by decide) ⟨rfl,rfl,rfl,trivial⟩ ⟨oe rfl rfl,oe rfl rfl,oe rfl rfl,rfl⟩⟩
 refine sq ?_;refine rd [0,1,2] (fun i=>[15].contains i) mixed ?_
 refine dv 0 ?_;refine dv 1 ?_;refine aJ 2 ?_;refine dv 3 ?_;refine dv 4 ?_;refine aJ 5 ?_;refine dv 6 ?_;refine dv 7 ?_;refine dv 8 ?_;refine aJ 9 ?_;refine dv 10 ?_;refine dv 11 ?_
 refine aJ 12 ?_
 have hA:aE true Tryz.prog 155 [] [.one (.t (sU false (dg 4294967296 k.natAbs))),.one (.t (sU false (dg 4294967296 k'.natAbs)))] (aO (.one (.t (sU true (dg 4294967296 (k.natAbs*k'.natAbs)))))):=by have h9:=RZ (aR (by omega) k.natAbs) (aR (by omega) k'.natAbs) (by omega) (by omega);rwa[bN,bN]at h9
 refine jX 3 13 rfl hA RK ⟨a1 rfl,a1 rfl,rfl⟩ ?_
 refine Dy 14 4 [3] rfl (iU (b:=(aL k != aL k')) (m:=(k.natAbs*k'.natAbs)) (K:=k*k') (Oe k k')) mP ⟨aT rfl,rfl⟩ ⟨rfl,rfl,rfl⟩ ⟨rfl,rfl,rfl,trivial⟩ ?_
 refine dst 15 ?_;refine aK ?_;refine rt ?_
 exact en (.inl rfl) rfl (aP (.agg (.cons (.id rfl) (.cons (.sl (trs:=aV (dg 4294967296 ((k*k')).natAbs)) rfl rfl (bB _) (aZ _)) .nil)))) (by decide) (fun _=>eX ((k*k'))) rfl
theorem DZ {a b:Zi}{k k':Int}(ha:Zg a k) (hb:Zg b k'):aE true Tryz.prog 121 [] [gF a,gF b] (aO (kO (((Int.gcd k k'):Nat):Int))):=by
 refine bF Tryz.func121 rfl Tryz.ntmps121 rfl aA rfl fun N w c0 h0=>?_
 have hkl:=ha.len
 have hkl':=hb.len
 refine sq ?_;refine rl ?_;refine bx 0 ?_;refine bx 1 ?_;refine al 2 ?_;refine nl ?_;refine sq ?_;refine rd [0,1,2] (fun i=>[11].contains i) mixed ?_
 refine aJ 0 ?_;refine aJ 4 ?_;refine aF 1 rfl (eC ha) dJ ⟨aB rfl,rfl⟩ (kF (k)) ?_;refine df 2 ?_;refine df 3 ?_;refine aF 5 rfl (eC hb) dJ ⟨aB rfl,rfl⟩ (kF (k')) ?_
 refine df 6 ?_;refine df 7 ?_;refine fJ (key:=3) 8 (by kernel_rfl) rfl rfl aA rfl ⟨rfl,rfl,rfl,trivial⟩ ?_
 refine jW (i:=13) (k:=3) (t:=22) (t':=22) (z:=1) (n:=2) (l:=[sU false (dg 4294967296 k.natAbs),sU false (dg 4294967296 k'.natAbs)]) rfl rfl rfl rfl (.one .sl) (by rfl) (by rfl) ?_
 have hA:aE true Tryz.prog 157 [] [.one (.t (.s false 22 1 2 [sU false (dg 4294967296 k.natAbs),sU false (dg 4294967296 k'.natAbs)]))] (aO (.one (.t (sU true (dg 4294967296 (Int.gcd k k')))))):=by
  have h9:=SA (t:=22) (aR (by omega) k.natAbs) (aR (by omega) k'.natAbs) (by omega) (by omega)
  rwa[show rJ [dg 4294967296 k.natAbs,dg 4294967296 k'.natAbs]=(Int.gcd k k') by simp only[rJ,List.foldl_cons,List.foldl_nil,bN,Nat.gcd_zero_left];rfl]at h9
 refine jX 4 9 rfl hA RL ⟨a1 rfl,rfl⟩ ?_
 refine Dy 10 5 [4] rfl (iU (b:=false) (m:=(Int.gcd k k')) (K:=(((Int.gcd k k'):Nat):Int)) (by simp[bT])) mP ⟨aT rfl,rfl⟩ ⟨rfl,rfl,rfl⟩ ⟨rfl,rfl,rfl,trivial⟩ ?_
 refine dst 11 ?_;refine aK ?_;refine rt ?_
 exact en (.inl rfl) rfl (aP (.agg (.cons (.id rfl) (.cons (.sl (trs:=aV (dg 4294967296 ((((Int.gcd k k'):Nat):Int)).natAbs)) rfl rfl (bB _) (aZ _)) .nil)))) (by decide) (fun _=>eX ((((Int.gcd k k'):Nat):Int))) rfl
theorem Xg (xs:List Nat):((aV xs).map AV.t).take (aV xs).length=(aV xs).map .t:=List.take_of_length_le (by simp)
theorem wE {a b:Zi}{k k':Int}(ha:Zg a k) (hb:Zg b k') (hz0:k'≠0):aE true Tryz.prog 154 [] [gF a,gF b] (aO (.tup [kO (k.fdiv k'),kO (k.fmod k'),.one (tv (.int .i64 0))])):=by
 refine bF Tryz.func154 rfl Tryz.ntmps154 rfl aA rfl fun N w c0 h0=>?_
 have hkl:=ha.len
 have hkl':=hb.len
 have hq:(dg 4294967296 (k.natAbs/k'.natAbs)).length≤300000000000:=Nat.le_trans (jG (Nat.div_le_self _ _)) hkl
 have hr0:=Nat.mod_lt k.natAbs (show 0<k'.natAbs by omega)
 have hrl:(dg 4294967296 (k.natAbs%k'.natAbs)).length≤300000000000:=Nat.le_trans (jG (Nat.le_of_lt hr0)) hkl'
 refine sq ?_;refine rl ?_;refine bx 0 ?_;refine bx 1 ?_;refine al 2 ?_;refine al 3 ?_;refine o1 ?_;refine nl ?_
 refine md (γ:=Unit) (fun _=>bV [(4,.one (.pt 0 0)),(5,.one (.pt 1 0)),(6,.one (tv (.int .i64 ((0:Nat):Int)))),(7,.one (.pt 2 0)),(8,.one (.pt 3 0))]) (fun _=>([⟨24,0,[tv (.bool false),tv (.slice none 0 0)]⟩,⟨24,0,[tv (.bool false),tv (.slice none 0 0)]⟩,⟨192,0,[tv (.bool (aL k)),.t (sU false (dg 4294967296 k.natAbs))]⟩,⟨192,0,[tv (.bool (aL k')),.t (sU false (dg 4294967296 k'.natAbs))]⟩]:List Ob).map some) (fun _=>True) ?_ fun _ _=>?_
 ·refine rd [0,1,2,3] (fun i=>[7].contains i) mixed ?_
  refine aJ 0 ?_;refine aJ 2 ?_;refine WO.three (i:=1) (j:=4) (m:=5) (by kernel_rfl) ?_ ?_ ?_
  ·refine dC 1 rfl (eC ha) dJ ⟨aB rfl,rfl⟩ (kF (k)) ?_;refine WO.three (i:=3) (j:=4) (m:=5) (by kernel_rfl) ?_ ?_ ?_
   ·refine dC 3 rfl (eC hb) dJ ⟨aB rfl,rfl⟩ (kF (k')) ?_;refine WO.two (i:=4) (j:=5) (by kernel_rfl) ?_ ?_
    ·refine bM (key:=4) 4 rfl rfl aA rfl ⟨rfl,rfl,rfl,rfl,trivial⟩ ?_;refine eO (key:=5) 5 (by kernel_rfl) rfl rfl aA rfl ⟨rfl,rfl,rfl,rfl,trivial⟩ ?_
     refine aY 6 (by kernel_rfl) rfl rfl aA rfl rfl rfl rfl ⟨rfl,rfl,rfl,rfl,trivial⟩ ?_
     refine dst 7 ?_;refine aK ?_;exact⟨(),trivial,aG h0 [2,3,4,5] _ _ (by decide) ⟨rfl,rfl,rfl,rfl,rfl,trivial⟩ ⟨oe rfl rfl,oe rfl rfl,oe rfl rfl,oe rfl rfl,rfl⟩⟩
    refine bM (key:=4) 5 rfl rfl aA rfl ⟨rfl,rfl,rfl,rfl,trivial⟩ ?_;refine eO (key:=5) 4 (by kernel_rfl) rfl rfl aA rfl ⟨rfl,rfl,rfl,rfl,trivial⟩ ?_
    refine aY 6 (by kernel_rfl) rfl rfl aA rfl rfl rfl rfl ⟨rfl,rfl,rfl,rfl,trivial⟩ ?_
    refine dst 7 ?_;refine aK ?_;exact⟨(),trivial,aG h0 [2,3,5,4] _ _ (by decide) ⟨rfl,rfl,rfl,rfl,rfl,trivial⟩ ⟨oe rfl rfl,oe rfl rfl,oe rfl rfl,oe rfl rfl,rfl⟩⟩
   ·refine bM (key:=4) 4 rfl rfl aA rfl ⟨rfl,rfl,rfl,rfl,trivial⟩ ?_;refine WO.two (i:=3) (j:=5) (by kernel_rfl) ?_ ?_
    ·refine dC 3 rfl (eC hb) dJ ⟨aB rfl,rfl⟩ (kF (k')) ?_;refine eO (key:=5) 5 (by kernel_rfl) rfl rfl aA rfl ⟨rfl,rfl,rfl,rfl,trivial⟩ ?_
     refine aY 6 (by kernel_rfl) rfl rfl aA rfl rfl rfl rfl ⟨rfl,rfl,rfl,rfl,trivial⟩ ?_
     refine dst 7 ?_;refine aK ?_;exact⟨(),trivial,aG h0 [2,3,4,5] _ _ (by decide) ⟨rfl,rfl,rfl,rfl,rfl,trivial⟩ ⟨oe rfl rfl,oe rfl rfl,oe rfl rfl,oe rfl rfl,rfl⟩⟩
    refine bM (key:=5) 5 rfl rfl aA rfl ⟨rfl,rfl,rfl,rfl,trivial⟩ ?_;refine aF 3 rfl (eC hb) dJ ⟨aB rfl,rfl⟩ (kF (k')) ?_
    refine aY 6 (by kernel_rfl) rfl rfl aA rfl rfl rfl rfl ⟨rfl,rfl,rfl,rfl,trivial⟩ ?_
    refine dst 7 ?_;refine aK ?_;exact⟨(),trivial,aG h0 [2,3,4,5] _ _ (by decide) ⟨rfl,rfl,rfl,rfl,rfl,trivial⟩ ⟨oe rfl rfl,oe rfl rfl,oe rfl rfl,oe rfl rfl,rfl⟩⟩
   refine bM (key:=4) 5 rfl rfl aA rfl ⟨rfl,rfl,rfl,rfl,trivial⟩ ?_;refine WO.two (i:=3) (j:=4) (by kernel_rfl) ?_ ?_
   ·refine dC 3 rfl (eC hb) dJ ⟨aB rfl,rfl⟩ (kF (k')) ?_;refine eO (key:=5) 4 (by kernel_rfl) rfl rfl aA rfl ⟨rfl,rfl,rfl,rfl,trivial⟩ ?_
    refine aY 6 (by kernel_rfl) rfl rfl aA rfl rfl rfl rfl ⟨rfl,rfl,rfl,rfl,trivial⟩ ?_
    refine dst 7 ?_;refine aK ?_;exact⟨(),trivial,aG h0 [2,3,5,4] _ _ (by decide) ⟨rfl,rfl,rfl,rfl,rfl,trivial⟩ ⟨oe rfl rfl,oe rfl rfl,oe rfl rfl,oe rfl rfl,rfl⟩⟩
   refine bM (key:=5) 4 rfl rfl aA rfl ⟨rfl,rfl,rfl,rfl,trivial⟩ ?_;refine aF 3 rfl (eC hb) dJ ⟨aB rfl,rfl⟩ (kF (k')) ?_
   refine aY 6 (by kernel_rfl) rfl rfl aA rfl rfl rfl rfl ⟨rfl,rfl,rfl,rfl,trivial⟩ ?_
   refine dst 7 ?_;refine aK ?_;exact⟨(),trivial,aG h0 [2,3,5,4] _ _ (by decide) ⟨rfl,rfl,rfl,rfl,rfl,trivial⟩ ⟨oe rfl rfl,oe rfl rfl,oe rfl rfl,oe rfl rfl,rfl⟩⟩
  ·refine bM (key:=4) 4 rfl rfl aA rfl ⟨rfl,rfl,rfl,rfl,trivial⟩ ?_;refine WO.two (i:=1) (j:=5) (by kernel_rfl) ?_ ?_
   ·refine dC 1 rfl (eC ha) dJ ⟨aB rfl,rfl⟩ (kF (k)) ?_;refine WO.two (i:=3) (j:=5) (by kernel_rfl) ?_ ?_
    ·refine dC 3 rfl (eC hb) dJ ⟨aB rfl,rfl⟩ (kF (k')) ?_;refine eO (key:=5) 5 (by kernel_rfl) rfl rfl aA rfl ⟨rfl,rfl,rfl,rfl,trivial⟩ ?_
     refine aY 6 (by kernel_rfl) rfl rfl aA rfl rfl rfl rfl ⟨rfl,rfl,rfl,rfl,trivial⟩ ?_
     refine dst 7 ?_;refine aK ?_;exact⟨(),trivial,aG h0 [2,3,4,5] _ _ (by decide) ⟨rfl,rfl,rfl,rfl,rfl,trivial⟩ ⟨oe rfl rfl,oe rfl rfl,oe rfl rfl,oe rfl rfl,rfl⟩⟩
    refine bM (key:=5) 5 rfl rfl aA rfl ⟨rfl,rfl,rfl,rfl,trivial⟩ ?_;refine aF 3 rfl (eC hb) dJ ⟨aB rfl,rfl⟩ (kF (k')) ?_
    refine aY 6 (by kernel_rfl) rfl rfl aA rfl rfl rfl rfl ⟨rfl,rfl,rfl,rfl,trivial⟩ ?_
    refine dst 7 ?_;refine aK ?_;exact⟨(),trivial,aG h0 [2,3,4,5] _ _ (by decide) ⟨rfl,rfl,rfl,rfl,rfl,trivial⟩ ⟨oe rfl rfl,oe rfl rfl,oe rfl rfl,oe rfl rfl,rfl⟩⟩
   refine bM (key:=5) 5 rfl rfl aA rfl ⟨rfl,rfl,rfl,rfl,trivial⟩ ?_;refine aF 1 rfl (eC ha) dJ ⟨aB rfl,rfl⟩ (kF (k)) ?_
   refine aF 3 rfl (eC hb) dJ ⟨aB rfl,rfl⟩ (kF (k')) ?_;refine aY 6 (by kernel_rfl) rfl rfl aA rfl rfl rfl rfl ⟨rfl,rfl,rfl,rfl,trivial⟩ ?_
   refine dst 7 ?_;refine aK ?_;exact⟨(),trivial,aG h0 [2,3,4,5] _ _ (by decide) ⟨rfl,rfl,rfl,rfl,rfl,trivial⟩ ⟨oe rfl rfl,oe rfl rfl,oe rfl rfl,oe rfl rfl,rfl⟩⟩
  refine bM (key:=4) 5 rfl rfl aA rfl ⟨rfl,rfl,rfl,rfl,trivial⟩ ?_;refine WO.two (i:=1) (j:=4) (by kernel_rfl) ?_ ?_
  ·refine dC 1 rfl (eC ha) dJ ⟨aB rfl,rfl⟩ (kF (k)) ?_;refine WO.two (i:=3) (j:=4) (by kernel_rfl) ?_ ?_
   ·refine dC 3 rfl (eC hb) dJ ⟨aB rfl,rfl⟩ (kF (k')) ?_;refine eO (key:=5) 4 (by kernel_rfl) rfl rfl aA rfl ⟨rfl,rfl,rfl,rfl,trivial⟩ ?_
    refine aY 6 (by kernel_rfl) rfl rfl aA rfl rfl rfl rfl ⟨rfl,rfl,rfl,rfl,trivial⟩ ?_
    refine dst 7 ?_;refine aK ?_;exact⟨(),trivial,aG h0 [2,3,5,4] _ _ (by decide) ⟨rfl,rfl,rfl,rfl,rfl,trivial⟩ ⟨oe rfl rfl,oe rfl rfl,oe rfl rfl,oe rfl rfl,rfl⟩⟩
   refine bM (key:=5) 4 rfl rfl aA rfl ⟨rfl,rfl,rfl,rfl,trivial⟩ ?_;refine aF 3 rfl (eC hb) dJ ⟨aB rfl,rfl⟩ (kF (k')) ?_
   refine aY 6 (by kernel_rfl) rfl rfl aA rfl rfl rfl rfl ⟨rfl,rfl,rfl,rfl,trivial⟩ ?_
   refine dst 7 ?_;refine aK ?_;exact⟨(),trivial,aG h0 [2,3,5,4] _ _ (by decide) ⟨rfl,rfl,rfl,rfl,rfl,trivial⟩ ⟨oe rfl rfl,oe rfl rfl,oe rfl rfl,oe rfl rfl,rfl⟩⟩
  refine bM (key:=5) 4 rfl rfl aA rfl ⟨rfl,rfl,rfl,rfl,trivial⟩ ?_;refine aF 1 rfl (eC ha) dJ ⟨aB rfl,rfl⟩ (kF (k)) ?_
  refine aF 3 rfl (eC hb) dJ ⟨aB rfl,rfl⟩ (kF (k')) ?_;refine aY 6 (by kernel_rfl) rfl rfl aA rfl rfl rfl rfl ⟨rfl,rfl,rfl,rfl,trivial⟩ ?_
  refine dst 7 ?_;refine aK ?_;exact⟨(),trivial,aG h0 [2,3,5,4] _ _ (by decide) ⟨rfl,rfl,rfl,rfl,rfl,trivial⟩ ⟨oe rfl rfl,oe rfl rfl,oe rfl rfl,oe rfl rfl,rfl⟩⟩
 refine sq ?_;refine rl ?_;refine o1 ?_;refine o1 ?_;refine ld ?_;refine o1 ?_;refine o1 ?_;refine ld ?_
 have hD:aE true Tryz.prog 174 [] [.one (.t (sU false (dg 4294967296 k.natAbs))),.one (.t (sU false (dg 4294967296 k'.natAbs)))] (aO (.tup [.one (.t (sU true (dg 4294967296 (k.natAbs/k'.natAbs)))),.one (.t (sU true (dg 4294967296 (k.natAbs%k'.natAbs)))),.one (tv (.int .i64 0))])):=by
  have h9:=BD (aR (by omega) k.natAbs) (aR (by omega) k'.natAbs) (by omega) (by omega) (by rw[bN];omega)
  rwa[bN,bN]at h9
 refine gY 4 hD RR ⟨a1 rfl,a1 rfl,rfl⟩ ?_;(iterate 7 refine o1 ?_);refine nl ?_;refine sq ?_;refine sq ?_;refine rl ?_;refine o1 ?_;refine o1 ?_;refine nl ?_
 refine bS rfl (fun h1=>?_) (fun h1=>?_)
 ·exact absurd rfl h1
 refine sk ?_;refine sq ?_;refine sq ?_;refine rl ?_;refine o1 ?_;refine o1 ?_;refine ld ?_;refine o1 ?_;refine o1 ?_;refine ld ?_;refine o1 ?_;refine o1 ?_
 refine WL.splitb (t:=37) rfl (fun h2=>?_) (fun h2=>?_)
 ·(iterate 4 refine o1 ?_);refine nl ?_;refine bS rfl (fun h3=>?_) (fun h3=>?_)
  ·refine sq ?_;refine rl ?_;refine o1 ?_;refine bs 6 ?_
   have hA:aE true Tryz.prog 175 [] [.one (.t (sU false (dg 4294967296 (k.natAbs/k'.natAbs)))),.one (.t (sU false [1]))] (aO (.one (.t (sU true (dg 4294967296 ((k.natAbs/k'.natAbs)+1)))))):=by
    have h9:=DV (aR (by omega) (k.natAbs/k'.natAbs)) (Lim.cons (show 1<4294967296 by omega) Lim.nil) (by omega) (by simp)
    rwa[cE (by omega),show vl 4294967296 [1]=1 from rfl]at h9
   refine gY 7 hA DJ ⟨Cg rfl (.sl rfl rfl (Xg _) (aZ _)),Cg rfl (.sl (trs:=aV [1]) rfl rfl rfl rfl),rfl⟩ ?_;refine o1 ?_;refine nl ?_;refine rl ?_;refine o1 ?_
   refine o1 ?_;refine ld ?_;refine o1 ?_
   have hS:aE true Tryz.prog 176 [] [.one (.t (sU false (dg 4294967296 k'.natAbs))),.one (.t (sU false (dg 4294967296 (k.natAbs%k'.natAbs))))] (aO (.tup [.one (.t (sU true (dg 4294967296 (k'.natAbs-(k.natAbs%k'.natAbs))))),.one (tv (.int .i64 0))])):=by
    have h9:=Td (aR (by omega) k'.natAbs) (aR (by omega) (k.natAbs%k'.natAbs)) (by omega) (by rw[bN,cE (by omega)];omega)
    rwa[bN,cE (by omega)]at h9
   refine gY 8 hS Sp ⟨a1 rfl,Cg rfl (.sl rfl rfl (Xg _) (aZ _)),rfl⟩ ?_;(iterate 4 refine o1 ?_);refine nl ?_;refine sq ?_
   have hd:k.fdiv k'=bT (aL k != aL k') ((k.natAbs/k'.natAbs)+1)∧k.fmod k'=bT (aL k') (k'.natAbs-(k.natAbs%k'.natAbs)):=by
    have h9:aL k≠aL k':=by simpa using h2
    have h7:k.natAbs%k'.natAbs≠0:=by have h5:=nF (m:=(k.natAbs%k'.natAbs)) rfl;rw[decide_eq_true (by omega)]at h5;have h6:=of_decide_eq_true h5.symm;omega
    have h8:=GY (a:=k) (b:=k') hz0 h9 h7
    rw[h2];exact h8
   refine rd [1,2,3,6] (fun i=>[15,16].contains i) mixed ?_
   refine dv 0 ?_;refine dv 1 ?_;refine aJ 2 ?_;refine dv 3 ?_;refine dv 4 ?_;refine aJ 5 ?_;refine dv 6 ?_;refine dv 7 ?_;refine dv 9 ?_;refine dv 10 ?_;refine aJ 11 ?_
   refine dv 12 ?_
   refine Dy 8 9 [7] rfl (iU (b:=(aL k != aL k')) (m:=((k.natAbs/k'.natAbs)+1)) (K:=(k.fdiv k')) hd.1.symm) mP ⟨aT rfl,rfl⟩ ⟨rfl,rfl,rfl⟩ ⟨rfl,rfl,rfl,rfl,trivial⟩ ?_
   refine Dy 13 10 [8] rfl (iU (b:=(aL k')) (m:=(k'.natAbs-(k.natAbs%k'.natAbs))) (K:=(k.fmod k')) hd.2.symm) mP ⟨aT rfl,rfl⟩ ⟨rfl,rfl,rfl⟩ ⟨rfl,rfl,rfl,rfl,trivial⟩ ?_
   refine aY 14 (by kernel_rfl) rfl rfl aA rfl rfl rfl rfl ⟨rfl,rfl,rfl,rfl,trivial⟩ ?_
   refine dst 15 ?_;refine cN 16 (by kernel_rfl) rfl rfl aA rfl (by trivial) ?_ (fun h=>by first | rfl | cases h)
   refine aK ?_;refine rt ?_
   exact en (.inl rfl) rfl (Bg (.cons (.agg (.cons (.id rfl) (.cons (.sl (trs:=aV (dg 4294967296 ((k.fdiv k')).natAbs)) rfl rfl (bB _) (aZ _)) .nil))) (.cons (.agg (.cons (.id rfl) (.cons (.sl (trs:=aV (dg 4294967296 ((k.fmod k')).natAbs)) rfl rfl (bB _) (aZ _)) .nil))) (.cons (bL (.int .i64 0)) .nil)))) (by decide) (fun _=>⟨eX (k.fdiv k'),eX (k.fmod k'),trivial,trivial⟩) rfl
  refine sk ?_;refine sq ?_;have hd:k.fdiv k'=bT (aL k != aL k') (k.natAbs/k'.natAbs)∧k.fmod k'=bT (aL k') (k.natAbs%k'.natAbs):=by
   have h9:aL k≠aL k':=by simpa using h2
   have h7:k.natAbs%k'.natAbs=0:=by have h5:=nF (m:=(k.natAbs%k'.natAbs)) rfl;rw[decide_eq_false (by omega)]at h5;have h6:=of_decide_eq_false h5.symm;omega
   have h8:=GX (a:=k) (b:=k') hz0 h9 h7
   rw[h2];exact h8
  refine rd [1,2,3] (fun i=>[15,16].contains i) mixed ?_
  refine dv 0 ?_;refine dv 1 ?_;refine aJ 2 ?_;refine dv 3 ?_;refine dv 4 ?_;refine aJ 5 ?_;refine dv 6 ?_;refine dv 7 ?_;refine dv 9 ?_;refine dv 10 ?_;refine aJ 11 ?_
  refine dv 12 ?_
  refine Dy 8 6 [4] rfl (iU (b:=(aL k != aL k')) (m:=(k.natAbs/k'.natAbs)) (K:=(k.fdiv k')) hd.1.symm) mP ⟨aT rfl,rfl⟩ ⟨rfl,rfl,rfl⟩ ⟨rfl,rfl,rfl,trivial⟩ ?_
  refine Dy 13 7 [5] rfl (iU (b:=(aL k')) (m:=(k.natAbs%k'.natAbs)) (K:=(k.fmod k')) hd.2.symm) mP ⟨aT rfl,rfl⟩ ⟨rfl,rfl,rfl⟩ ⟨rfl,rfl,rfl,trivial⟩ ?_
  refine aY 14 (by kernel_rfl) rfl rfl aA rfl rfl rfl rfl ⟨rfl,rfl,rfl,trivial⟩ ?_
  refine dst 15 ?_;refine cN 16 (by kernel_rfl) rfl rfl aA rfl (by trivial) ?_ (fun h=>by first | rfl | cases h)
  refine aK ?_;refine rt ?_
  exact en (.inl rfl) rfl (Bg (.cons (.agg (.cons (.id rfl) (.cons (.sl (trs:=aV (dg 4294967296 ((k.fdiv k')).natAbs)) rfl rfl (bB _) (aZ _)) .nil))) (.cons (.agg (.cons (.id rfl) (.cons (.sl (trs:=aV (dg 4294967296 ((k.fmod k')).natAbs)) rfl rfl (bB _) (aZ _)) .nil))) (.cons (bL (.int .i64 0)) .nil)))) (by decide) (fun _=>⟨eX (k.fdiv k'),eX (k.fmod k'),trivial,trivial⟩) rfl
 (iterate 3 refine aX ?_);refine o1 ?_;refine nl ?_;refine jN rfl ?_;refine sk ?_;refine sq ?_
 have hd:k.fdiv k'=bT (aL k != aL k') (k.natAbs/k'.natAbs)∧k.fmod k'=bT (aL k') (k.natAbs%k'.natAbs):=by
  have h9:aL k=aL k':=by simpa using h2
  have h8:=GW (a:=k) (b:=k') hz0 h9
  rw[h2];exact h8
 refine rd [1,2,3] (fun i=>[15,16].contains i) mixed ?_
 refine dv 0 ?_;refine dv 1 ?_;refine aJ 2 ?_;refine dv 3 ?_;refine dv 4 ?_;refine aJ 5 ?_;refine dv 6 ?_;refine dv 7 ?_;refine dv 9 ?_;refine dv 10 ?_;refine aJ 11 ?_
 refine dv 12 ?_
 refine Dy 8 6 [4] rfl (iU (b:=(aL k != aL k')) (m:=(k.natAbs/k'.natAbs)) (K:=(k.fdiv k')) hd.1.symm) mP ⟨aT rfl,rfl⟩ ⟨rfl,rfl,rfl⟩ ⟨rfl,rfl,rfl,trivial⟩ ?_
 refine Dy 13 7 [5] rfl (iU (b:=(aL k')) (m:=(k.natAbs%k'.natAbs)) (K:=(k.fmod k')) hd.2.symm) mP ⟨aT rfl,rfl⟩ ⟨rfl,rfl,rfl⟩ ⟨rfl,rfl,rfl,trivial⟩ ?_
 refine aY 14 (by kernel_rfl) rfl rfl aA rfl rfl rfl rfl ⟨rfl,rfl,rfl,trivial⟩ ?_
 refine dst 15 ?_;refine cN 16 (by kernel_rfl) rfl rfl aA rfl (by trivial) ?_ (fun h=>by first | rfl | cases h)
 refine aK ?_;refine rt ?_
 exact en (.inl rfl) rfl (Bg (.cons (.agg (.cons (.id rfl) (.cons (.sl (trs:=aV (dg 4294967296 ((k.fdiv k')).natAbs)) rfl rfl (bB _) (aZ _)) .nil))) (.cons (.agg (.cons (.id rfl) (.cons (.sl (trs:=aV (dg 4294967296 ((k.fmod k')).natAbs)) rfl rfl (bB _) (aZ _)) .nil))) (.cons (bL (.int .i64 0)) .nil)))) (by decide) (fun _=>⟨eX (k.fdiv k'),eX (k.fmod k'),trivial,trivial⟩) rfl
theorem uQ {p:Rat}{L:Nat}(h:Sz L p) (hL:L≤68719476736:=by omega):Zg (.of p.num) p.num:=.of (Nat.le_trans h.1 (by omega))
theorem mK {p:Rat}{L:Nat}(h:Sz L p) (hL:L≤68719476736:=by omega):Zg ⟨false,dg 4294967296 p.den⟩ (p.den:Int):=⟨aR (by omega) _,Nat.le_trans h.2 (by omega),zZ p.den⟩
theorem If {q:Rat}{n d:Int}(h1:q.num=n) (h2:(q.den:Int)=d):FV.agg [tv (.bool (aL n)),.t (sU true (dg 4294967296 n.natAbs)),tv (.bool (aL d)),.t (sU true (dg 4294967296 d.natAbs))]=qO q:=by
 subst h1 h2
 rw[zY]
 rfl
theorem yL {a b:Zi}{k k':Int}(ha:Zg a k) (hb:Zg b k') (hz0:k'≠0):aE true Tryz.prog 115 [] [gF a,gF b] (aO (qO (Rat.divInt k k'))):=by
 refine bF Tryz.func115 rfl Tryz.ntmps115 rfl aA rfl fun N w c0 h0=>?_
 have hkl:=ha.len
 have hkl':=hb.len
 have hgl:(dg 4294967296 ((Int.gcd k k':Nat):Int).natAbs).length≤300000000000:=Nat.le_trans (jG (Nat.le_of_dvd (by omega) (Nat.gcd_dvd_right ..))) hkl'
 have hng:=lE ((Int.gcd k k':Nat):Int)
 have hg0:((Int.gcd k k':Nat):Int)≠0:=fun e=>hz0 (Int.gcd_eq_zero_iff.1 (show Int.gcd k k'=0 by omega)).2
 refine sq ?_;refine rl ?_;refine bx 0 ?_;refine bx 1 ?_;refine al 2 ?_;refine nl ?_;refine sq ?_;refine rl ?_;refine ld ?_;refine ld ?_
 refine ca (DZ ha hb) DD ⟨aB rfl,aB rfl,rfl⟩ (kF (((Int.gcd k k':Nat):Int))) ?_;refine al 3 ?_;refine st ?_;refine nl ?_;refine sq ?_;refine sq ?_;refine rl ?_;refine ld ?_
 refine ca (Dz hb) Ib ⟨aB rfl,rfl⟩ (.one (tv (.int .i64 k'.sign))) ?_;refine o1 ?_;refine nl ?_;refine bS rfl (fun h1=>?_) (fun h1=>?_)
 ·refine rl ?_;refine ld ?_;refine ca (DX (Zg.of (k:=((Int.gcd k k':Nat):Int)) hgl)) DC ⟨aB rfl,rfl⟩ (kF (-(((Int.gcd k k':Nat):Int)))) ?_;refine st ?_;refine nl ?_
  refine sq ?_;refine rl ?_;refine ld ?_;refine ld ?_;refine gY 4 (wE ha (Zg.of (k:=(-(((Int.gcd k k':Nat):Int)))) (by omega)) (by omega)) Ic ⟨aB rfl,aB rfl,rfl⟩ ?_
  (iterate 4 refine o1 ?_);refine al 6 ?_;refine al 7 ?_;refine st ?_;refine st ?_;refine o1 ?_;refine nl ?_;refine sq ?_;refine rl ?_;refine ld ?_;refine ld ?_
  refine gY 8 (wE hb (Zg.of (k:=(-(((Int.gcd k k':Nat):Int)))) (by omega)) (by omega)) Ic ⟨aB rfl,aB rfl,rfl⟩ ?_
  (iterate 4 refine o1 ?_);refine al 10 ?_;refine al 11 ?_;refine st ?_;refine st ?_;refine o1 ?_;refine nl ?_;refine sq ?_;refine rl ?_;refine ld ?_;refine ld ?_;refine o1 ?_
  refine st ?_;refine nl ?_;refine rt ?_;have hk9:k'<0:=by
   rcases Int.lt_trichotomy k' 0 with h8 | h8 | h8
   ·exact h8
   ·exact absurd h8 hz0
   rw[Int.sign_eq_one_of_pos h8]at h1;omega
  have h9:=Ly (N:=k) (D:=k') hk9
  exact en (.inl rfl) rfl (aP (.agg (.cons (.id rfl) (.cons (.sl (trs:=aV (dg 4294967296 (((k).fdiv (-(((Int.gcd k k':Nat):Int))))).natAbs)) rfl rfl (bB _) (aZ _)) (.cons (.id rfl) (.cons (.sl (trs:=aV (dg 4294967296 (((k').fdiv (-(((Int.gcd k k':Nat):Int))))).natAbs)) rfl rfl (bB _) (aZ _)) (.nil))))))) (by decide) (fun _=>tU (⟨aL ((k).fdiv (-(((Int.gcd k k':Nat):Int)))),dg 4294967296 (((k).fdiv (-(((Int.gcd k k':Nat):Int))))).natAbs,aL ((k').fdiv (-(((Int.gcd k k':Nat):Int)))),dg 4294967296 (((k').fdiv (-(((Int.gcd k k':Nat):Int))))).natAbs⟩:Fr4)) (If h9.1 h9.2)
 refine sk ?_;refine sq ?_;refine rl ?_;refine ld ?_;refine ld ?_;refine gY 4 (wE ha (Zg.of (k:=((Int.gcd k k':Nat):Int)) (by omega)) (by omega)) Ic ⟨aB rfl,aB rfl,rfl⟩ ?_
 (iterate 4 refine o1 ?_);refine al 6 ?_;refine al 7 ?_;refine st ?_;refine st ?_;refine o1 ?_;refine nl ?_;refine sq ?_;refine rl ?_;refine ld ?_;refine ld ?_
 refine gY 8 (wE hb (Zg.of (k:=((Int.gcd k k':Nat):Int)) (by omega)) (by omega)) Ic ⟨aB rfl,aB rfl,rfl⟩ ?_
 (iterate 4 refine o1 ?_);refine al 10 ?_;refine al 11 ?_;refine st ?_;refine st ?_;refine o1 ?_;refine nl ?_;refine sq ?_;refine rl ?_;refine ld ?_;refine ld ?_;refine o1 ?_
 refine st ?_;refine nl ?_;refine rt ?_;have hk9:0<k':=by
  rcases Int.lt_trichotomy k' 0 with h8 | h8 | h8
  ·rw[Int.sign_eq_neg_one_of_neg h8]at h1;omega
  ·exact absurd h8 hz0
  exact h8
 have h9:=oN (N:=k) (D:=k') hk9
 exact en (.inl rfl) rfl (aP (.agg (.cons (.id rfl) (.cons (.sl (trs:=aV (dg 4294967296 (((k).fdiv ((Int.gcd k k':Nat):Int))).natAbs)) rfl rfl (bB _) (aZ _)) (.cons (.id rfl) (.cons (.sl (trs:=aV (dg 4294967296 (((k').fdiv ((Int.gcd k k':Nat):Int))).natAbs)) rfl rfl (bB _) (aZ _)) (.nil))))))) (by decide) (fun _=>tU (⟨aL ((k).fdiv ((Int.gcd k k':Nat):Int)),dg 4294967296 (((k).fdiv ((Int.gcd k k':Nat):Int))).natAbs,aL ((k').fdiv ((Int.gcd k k':Nat):Int)),dg 4294967296 (((k').fdiv ((Int.gcd k k':Nat):Int))).natAbs⟩:Fr4)) (If h9.1 h9.2)
theorem Tg {p q:Rat}(hp:Sz 68719476736 p) (hq:Sz 68719476736 q):aE true Tryz.prog 111 [] [qF (.of p),qF (.of q)] (aO (qO (p+q))):=by
 refine bF Tryz.func111 rfl Tryz.ntmps111 rfl aA rfl fun N w c0 h0=>?_
 have z1:=(uQ hp).len;have z2:=(uQ hq).len;have z3:=(mK hp).len;have z4:=(mK hq).len
 have y1:(dg 4294967296 p.num.natAbs).length≤68719476736:=hp.1;have y2:(dg 4294967296 q.num.natAbs).length≤68719476736:=hq.1;have y3:(dg 4294967296 p.den).length≤68719476736:=hp.2;have y4:(dg 4294967296 q.den).length≤68719476736:=hq.2;have y5:(dg 4294967296 (p.den:Int).natAbs).length≤68719476736:=hp.2;have y6:(dg 4294967296 (q.den:Int).natAbs).length≤68719476736:=hq.2
 refine sq ?_;refine rl ?_;refine bx 0 ?_;refine bx 1 ?_;refine al 2 ?_;refine nl ?_;refine sq ?_;refine sq ?_;refine rl ?_;refine o1 ?_;refine ld ?_;refine o1 ?_;refine ld ?_
 refine ca (Tf (mK hp) (mK hq) (by have h8:=lI (p.den:Int) (-(q.den:Int));have h7:=lE (q.den:Int);rw[Int.natAbs_natCast]at h7 h8;rw[Int.sub_eq_add_neg];omega)) Ld ⟨aB rfl,aB rfl,rfl⟩ (.one (tv (.int .i64 ((p.den:Int)-(q.den:Int)).sign))) ?_
 refine o1 ?_;refine nl ?_;refine bS rfl (fun h1=>?_) (fun h1=>?_)
 ·refine sq ?_;refine rd [0,1,2] (fun i=>[8].contains i) mixed ?_
  refine dv 0 ?_;refine aJ 1 ?_;refine dv 2 ?_;refine aJ 3 ?_;refine dv 5 ?_;refine aJ 6 ?_;have hn2:=lI (p.num) (q.num)
  refine aF 4 rfl (DY (uQ hp) (uQ hq)) DE ⟨aB rfl,aB rfl,rfl⟩ (kF (p.num+q.num)) ?_
  refine jX 3 7 rfl (yL (Zg.of (k:=(p.num+q.num)) (by omega)) (mK hp) (by have h8:=p.den_nz;have h7:=q.den_nz;first | omega | exact Int.mul_ne_zero (by omega) (by omega))) Sn ⟨aB rfl,aB rfl,rfl⟩ ?_
  refine dst 8 ?_;refine aK ?_;refine rt ?_
  exact en (.inl rfl) rfl (aP (.agg (.cons (.id rfl) (.cons (.sl (trs:=aV (dg 4294967296 (Rat.divInt ((p.num+q.num)) ((p.den:Int))).num.natAbs)) rfl rfl (bB _) (aZ _)) (.cons (.id rfl) (.cons (.sl (trs:=aV (dg 4294967296 (Rat.divInt ((p.num+q.num)) ((p.den:Int))).den)) rfl rfl (bB _) (aZ _)) .nil)))))) (by decide) (fun _=>mH (Rat.divInt ((p.num+q.num)) ((p.den:Int)))) (by rw[show(Rat.divInt ((p.num+q.num)) ((p.den:Int)))=p+q from AU (by have h8:=Int.sign_eq_zero_iff_zero.1 h1;omega)];rfl)
 refine sk ?_;refine sq ?_;refine rd [0,1,2] (fun i=>[17].contains i) mixed ?_
 refine dv 0 ?_;refine aJ 1 ?_;refine dv 2 ?_;refine aJ 3 ?_;refine dv 5 ?_;refine aJ 6 ?_;refine dv 7 ?_;refine aJ 8 ?_;refine dv 11 ?_;refine aJ 12 ?_;refine dv 13 ?_
 refine aJ 14 ?_;have hn3:=dR (p.num) ((q.den:Int))
 refine aF 4 rfl (Ie (uQ hp) (mK hq)) vZ ⟨aB rfl,aB rfl,rfl⟩ (kF (p.num*(q.den:Int))) ?_;have hn4:=dR (q.num) ((p.den:Int))
 refine aF 9 rfl (Ie (uQ hq) (mK hp)) vZ ⟨aB rfl,aB rfl,rfl⟩ (kF (q.num*(p.den:Int))) ?_;have hn5:=lI ((p.num*(q.den:Int))) ((q.num*(p.den:Int)))
 refine aF 10 rfl (DY (Zg.of (k:=(p.num*(q.den:Int))) (by omega)) (Zg.of (k:=(q.num*(p.den:Int))) (by omega))) DE ⟨aB rfl,aB rfl,rfl⟩ (kF ((p.num*(q.den:Int))+(q.num*(p.den:Int)))) ?_
 have hn6:=dR ((p.den:Int)) ((q.den:Int))
 refine aF 15 rfl (Ie (mK hp) (mK hq)) vZ ⟨aB rfl,aB rfl,rfl⟩ (kF ((p.den:Int)*(q.den:Int))) ?_
 refine jX 3 16 rfl (yL (Zg.of (k:=((p.num*(q.den:Int))+(q.num*(p.den:Int)))) (by omega)) (Zg.of (k:=((p.den:Int)*(q.den:Int))) (by omega)) (by have h8:=p.den_nz;have h7:=q.den_nz;first | omega | exact Int.mul_ne_zero (by omega) (by omega))) Sn ⟨aB rfl,aB rfl,rfl⟩ ?_
 refine dst 17 ?_;refine aK ?_;refine rt ?_
 exact en (.inl rfl) rfl (aP (.agg (.cons (.id rfl) (.cons (.sl (trs:=aV (dg 4294967296 (Rat.divInt (((p.num*(q.den:Int))+(q.num*(p.den:Int)))) (((p.den:Int)*(q.den:Int)))).num.natAbs)) rfl rfl (bB _) (aZ _)) (.cons (.id rfl) (.cons (.sl (trs:=aV (dg 4294967296 (Rat.divInt (((p.num*(q.den:Int))+(q.num*(p.den:Int)))) (((p.den:Int)*(q.den:Int)))).den)) rfl rfl (bB _) (aZ _)) .nil)))))) (by decide) (fun _=>mH (Rat.divInt (((p.num*(q.den:Int))+(q.num*(p.den:Int)))) (((p.den:Int)*(q.den:Int))))) (by rw[show(Rat.divInt (((p.num*(q.den:Int))+(q.num*(p.den:Int)))) (((p.den:Int)*(q.den:Int))))=p+q from sB p q];rfl)
theorem Xh {k:Int}{f:FuncId}{args:List FV}(h:∀(N:Nat→Prop) (w:World) us,dM w N [] args us→(∀b,N b→b<w.heap.size)→Calls Tryz.prog f us.toArray w (NK k w)):aE true Tryz.prog f [] args (aO (kO k)):=by
 intro N w cs us hL
 obtain⟨rfl,hf⟩:=yK hL
 refine(h _ w us hf (fun b hb=>hb.1)).mono ?_
 rintro e W ⟨A,n,c,rfl,ho,hb⟩
 obtain⟨y1,a1,a2,a3,a4⟩:=yJ (N:=fun b=>true=false∧(b<W.heap.size∧b∉VT.fpL [])∧(N b∨w.heap.size≤b)) ho
 refine .mk0 (y:=[.w (.bool (aL k)),y1]) rfl hb (by simp only[VT.okL,VT.ok];exact⟨trivial,a3,trivial⟩) ?_ (fun b hb'=>?_) ?_
 ·simp only[VT.fpL,VT.fp,a4,List.nil_append,List.append_nil]
  exact Dx A n c
 ·simp only[VT.fpL,VT.fp,a4,List.nil_append,List.append_nil]at hb'
  exact ho.blk b hb'
 refine⟨by simp only[List.map_cons,List.map_nil,a1];rfl,?_⟩
 simp only[List.map_cons,List.map_nil,bJ,CR,sU]
 exact⟨by simp[OR],jR (fun _ _=>rfl) (fun b hb=>absurd hb.1 (by simp)) _ _ a2,trivial⟩
theorem NS {n:Int}(h1:-9223372036854775808≤n) (h2:n≤9223372036854775807):aE true Tryz.prog 109 [] [.one (tv (.int .i64 n))] (aO (kO n)):=Xh fun N w us hf hN=>by
 obtain⟨u,rfl,h3⟩:=AZ hf
 obtain rfl:=cH (tZ h3)
 exact NL n w h1 h2
theorem HI {m:Nat}:decide (((m:Int)-1).sign=0)=(m==1):=by
 rw[decide_eq_decide.2 Int.sign_eq_zero_iff_zero]
 rw[Bool.eq_iff_iff,decide_eq_true_eq,beq_iff_eq]
 omega
theorem Me {z:Int}:0<z.sign↔0<z:=by
 rcases Int.lt_trichotomy z 0 with h | h | h
 ·rw[Int.sign_eq_neg_one_of_neg h];omega
 ·subst h;decide
 rw[Int.sign_eq_one_of_pos h];omega
theorem Mf:aE true Tryz.prog 110 [] [] (aO (kO 1)):=by
 refine bF Tryz.func110 rfl Tryz.ntmps110 rfl aA rfl fun N w c0 h0=>?_
 refine sq ?_;refine rl ?_;refine al 0 ?_;refine nl ?_;refine sq ?_;refine rl ?_;refine gY 1 (NS (n:=1) (by omega) (by omega)) DB ⟨a1 rfl,rfl⟩ ?_
 refine st ?_;refine nl ?_;refine rt ?_
 exact en (.inl rfl) rfl (aP (.agg (.cons (.id rfl) (.cons (.sl (trs:=aV (dg 4294967296 ((1:Int)).natAbs)) rfl rfl (bB _) (aZ _)) .nil)))) (by decide) (fun _=>eX 1) rfl
theorem Mg {a:Fr4}{p:Rat}(ha:Qn a p):aE true Tryz.prog 79 [] [qF a] (aO (.one (tv (.bool (bD a.s a.x a.t a.y))))):=by
 refine bF Tryz.func79 rfl Tryz.ntmps79 rfl aA rfl fun N w c0 h0=>?_
 refine sq ?_;refine rl ?_;refine bx 0 ?_;refine o1 ?_;refine nl ?_;refine sq ?_;refine rl ?_;refine o1 ?_;refine ld ?_
 refine ca (Fw (a:=⟨a.s,a.x⟩) ((Jv ha).g)) So ⟨aB rfl,rfl⟩ (.one (tv (.bool (dI a.s a.x)))) ?_;refine o1 ?_;refine WL.splitb (t:=6) rfl (fun h1=>?_) (fun h1=>?_)
 ·refine o1 ?_;refine ld ?_;refine ca (Fw (a:=⟨a.t,a.y⟩) ((xK ha).g)) So ⟨aB rfl,rfl⟩ (.one (tv (.bool (dI a.t a.y)))) ?_;refine o1 ?_;refine o1 ?_
  refine WL.splitb (t:=11) rfl (fun h2=>?_) (fun h2=>?_)
  ·refine o1 ?_;refine ld ?_;refine ca (Dz (a:=⟨a.t,a.y⟩) ((xK ha).g)) Ib ⟨aB rfl,rfl⟩ (.one (tv (.int .i64 (eF a.t a.y).sign))) ?_;(iterate 3 refine o1 ?_)
   refine WL.split (t:=17) rfl (fun h3=>?_) (fun h3=>?_)
   ·refine o1 ?_;refine ld ?_;refine o1 ?_;refine ld ?_;have hpos:0<eF a.t a.y:=Me.1 h3
    have hyl:(dg 4294967296 (eF a.t a.y).natAbs).length≤137438953472:=Zn.len (xK (p:=p) ha)
    have hgl9:(dg 4294967296 ((Int.gcd (eF a.s a.x) (eF a.t a.y):Nat):Int).natAbs).length≤137438953472:=Nat.le_trans (jG (Nat.le_of_dvd (by omega) (Nat.gcd_dvd_right ..))) hyl
    have hgl:(dg 4294967296 ((Int.gcd (eF a.s a.x) (eF a.t a.y):Nat):Int).natAbs).length≤300000000000:=Nat.le_trans hgl9 (by omega)
    refine ca (DZ (a:=⟨a.s,a.x⟩) (b:=⟨a.t,a.y⟩) ((Jv ha).g) ((xK ha).g)) DD ⟨aB rfl,aB rfl,rfl⟩ (kF ((Int.gcd (eF a.s a.x) (eF a.t a.y):Nat):Int)) ?_
    refine ca (Mf) Sl rfl (kF 1) ?_
    refine ca (Tf (Zg.of (k:=((Int.gcd (eF a.s a.x) (eF a.t a.y):Nat):Int)) hgl) (Zg.of (k:=1) (by decide)) (by have h8:=Ma ((Int.gcd (eF a.s a.x) (eF a.t a.y):Nat):Int) 1;have h7:(dg 4294967296 (1:Int).natAbs).length=1:=rfl;omega)) Ld ⟨aB rfl,aB rfl,rfl⟩ (.one (tv (.int .i64 (((Int.gcd (eF a.s a.x) (eF a.t a.y):Nat):Int)-1).sign))) ?_
    (iterate 3 refine o1 ?_);refine nl ?_;refine rt ?_
    exact en (.inl rfl) rfl (aP (bL _)) (by decide) (fun _=>trivial) (congrArg (fun b=>FV.one (tv (.bool b))) (by unfold bD;rw[h1,h2,decide_eq_true hpos,←HI];rfl))
   (iterate 8 refine aX ?_);refine o1 ?_;refine o1 ?_;refine nl ?_;refine rt ?_
   exact en (.inl rfl) rfl (aP (bL _)) (by decide) (fun _=>trivial) (congrArg (fun b=>FV.one (tv (.bool b))) (by unfold bD;rw[h1,h2,decide_eq_false (fun h9=>h3 (Me.2 h9))];rfl))
  (iterate 4 refine aX ?_);refine o1 ?_;refine o1 ?_;(iterate 8 refine aX ?_);refine o1 ?_;refine o1 ?_;refine nl ?_;refine rt ?_
  exact en (.inl rfl) rfl (aP (bL _)) (by decide) (fun _=>trivial) (congrArg (fun b=>FV.one (tv (.bool b))) (by unfold bD;rw[h1,h2];rfl))
 (iterate 3 refine aX ?_);refine o1 ?_;refine o1 ?_;(iterate 4 refine aX ?_);refine o1 ?_;refine o1 ?_;(iterate 8 refine aX ?_);refine o1 ?_;refine o1 ?_;refine nl ?_;refine rt ?_
 exact en (.inl rfl) rfl (aP (bL _)) (by decide) (fun _=>trivial) (congrArg (fun b=>FV.one (tv (.bool b))) (by unfold bD;rw[h1];rfl))
theorem WT:FV.agg [tv (.bool false),.t (sU false []),tv (.bool (aL 1)),.t (sU false (dg 4294967296 (1:Int).natAbs))]=qF (.of 0):=rfl
theorem oO {a:Fr4}{p:Rat}(ha:Qn a p):aE false Tryz.prog 75 [] [qF a] (aO (qF (.of p))):=by
 refine bF Tryz.func75 rfl Tryz.ntmps75 rfl aA rfl fun N w c0 h0=>?_
 refine sq ?_;refine rl ?_;refine bx 0 ?_;refine al 1 ?_;refine nl ?_;refine sq ?_;refine sq ?_;refine rl ?_;refine ld ?_
 refine ca (Mg ha) Iy ⟨aB rfl,rfl⟩ (.one (tv (.bool (bD a.s a.x a.t a.y)))) ?_;refine WL.splitb (t:=4) rfl (fun h1=>?_) (fun h1=>?_)
 ·refine o1 ?_;refine nl ?_;refine jN rfl ?_;refine sk ?_;refine sq ?_;refine rl ?_;refine ld ?_;refine st ?_;refine nl ?_;refine rt ?_
  exact en (.inl rfl) rfl (aP (.agg (.cons (.id rfl) (.cons (.id rfl) (.cons (.id rfl) (.cons (.id rfl) .nil)))))) (by decide) (fun h=>by cases h) (by rw[ha.right h1];rfl)
 refine o1 ?_;refine nl ?_;refine fY rfl ?_;refine sq ?_;refine rl ?_;refine o1 ?_;refine ca (Mf) Sl rfl (kF 1) ?_;refine o1 ?_;refine st ?_;refine nl ?_;refine rt ?_
 have hq9:=ha.wrong h1
 subst hq9;exact en (.inl rfl) rfl (aP (.agg (.cons (.id rfl) (.cons .nilf (.cons (.id rfl) (.cons (.id rfl) .nil)))))) (by decide) (fun h=>by cases h) WT
theorem NT {a b:Fr4}{p q:Rat}(ha:Qn a p) (hb:Qn b q):aE true Tryz.prog 70 [] [qF a,qF b] (aO (qO (p+q))):=by
 refine bF Tryz.func70 rfl Tryz.ntmps70 rfl aA rfl fun N w c0 h0=>?_
 refine sq ?_;refine rl ?_;refine bx 0 ?_;refine bx 1 ?_;refine al 2 ?_;refine nl ?_;refine sq ?_;refine rd [0,1,2] (fun i=>[5].contains i) mixed ?_
 refine aJ 0 ?_;refine aJ 2 ?_;refine aF 1 rfl (oO ha) gB ⟨aB rfl,rfl⟩ (qF (.of p)) ?_;refine aF 3 rfl (oO hb) gB ⟨aB rfl,rfl⟩ (qF (.of q)) ?_
 refine jX 3 4 rfl (Tg ha.sz hb.sz) vL ⟨aB rfl,aB rfl,rfl⟩ ?_;refine dst 5 ?_;refine aK ?_;refine rt ?_
 exact en (.inl rfl) rfl (aP (.agg (.cons (.id rfl) (.cons (.sl (trs:=aV (dg 4294967296 (p+q).num.natAbs)) rfl rfl (bB _) (aZ _)) (.cons (.id rfl) (.cons (.sl (trs:=aV (dg 4294967296 (p+q).den)) rfl rfl (bB _) (aZ _)) .nil)))))) (by decide) (fun _=>mH (p+q)) rfl
theorem HJ {a:Fr4}{p:Rat}(ha:Qn a p):aE true Tryz.prog 80 [] [qF a] (aO (.one (tv (.int .i64 p.num.sign)))):=by
 refine bF Tryz.func80 rfl Tryz.ntmps80 rfl aA rfl fun N w c0 h0=>?_
 refine sq ?_;refine rl ?_;refine bx 0 ?_;refine o1 ?_;refine nl ?_;refine sq ?_;refine rl ?_;refine ld ?_;refine ca (oO ha) gB ⟨aB rfl,rfl⟩ (qF (.of p)) ?_;refine o1 ?_
 refine ca (Dz (Zg.of (k:=p.num) (Nat.le_trans ha.sz.1 (by omega)))) Ib ⟨aB rfl,rfl⟩ (.one (tv (.int .i64 p.num.sign))) ?_
 refine o1 ?_;refine nl ?_;refine rt ?_;exact en (.inl rfl) rfl (aP (bL _)) (by decide) (fun _=>trivial) rfl
theorem Xi {a:Fr4}{p:Rat}(ha:Qn a p):aE true Tryz.prog 72 [] [qF a] (aO (qO (-p))):=by
 refine bF Tryz.func72 rfl Tryz.ntmps72 rfl aA rfl fun N w c0 h0=>?_
 refine sq ?_;refine rl ?_;refine bx 0 ?_;refine al 1 ?_;refine nl ?_;refine sq ?_;refine rl ?_;refine ld ?_;refine ca (oO ha) gB ⟨aB rfl,rfl⟩ (qF (.of p)) ?_;refine st ?_
 refine nl ?_;refine sq ?_;refine rd [0,1] (fun i=>[7].contains i) mixed ?_
 refine dv 0 ?_;refine aJ 1 ?_;refine dv 3 ?_;refine aJ 4 ?_;refine jX 2 2 rfl (DX (Zg.of (k:=p.num) (Nat.le_trans ha.sz.1 (by omega)))) DC ⟨aB rfl,rfl⟩ ?_
 refine jX 3 5 rfl (SD (mK ha.sz)) RG ⟨aB rfl,rfl⟩ ?_;refine df 6 ?_;refine dst 7 ?_;refine aK ?_;refine rt ?_;have hda:(((p.den:Int).natAbs:Nat):Int).natAbs=p.den:=rfl
 exact en (.inl rfl) rfl (aP (.agg (.cons (.id rfl) (.cons (.sl (trs:=aV (dg 4294967296 (-(p.num)).natAbs)) rfl rfl (bB _) (aZ _)) (.cons (.id rfl) (.cons (.sl (trs:=aV (dg 4294967296 (((p.den:Int).natAbs:Nat):Int).natAbs)) rfl rfl (bB _) (aZ _)) .nil)))))) (by decide) (fun _=>tU (⟨_,dg 4294967296 (-(p.num)).natAbs,_,dg 4294967296 (((p.den:Int).natAbs:Nat):Int).natAbs⟩:Fr4)) (show FV.agg [tv (.bool (aL (-(p.num)))),.t (sU true (dg 4294967296 (-(p.num)).natAbs)),tv (.bool (aL (((p.den:Int).natAbs:Nat):Int))),.t (sU true (dg 4294967296 (((p.den:Int).natAbs:Nat):Int).natAbs))]=qO (-p) from If (q:=-p) (by simp) (by simp))
theorem BG {n:Int}(h1:-9223372036854775808≤n) (h2:n≤9223372036854775807):aE true Tryz.prog 69 [] [.one (tv (.int .i64 n))] (aO (qO ((n:Int):Rat))):=by
 refine bF Tryz.func69 rfl Tryz.ntmps69 rfl aA rfl fun N w c0 h0=>?_
 refine sq ?_;refine rl ?_;refine al 0 ?_;refine nl ?_;refine sq ?_;refine rl ?_;refine o1 ?_;refine gY 1 (NS (n:=n) h1 h2) DB ⟨a1 rfl,rfl⟩ ?_;refine gY 2 (Mf) Sl rfl ?_
 refine o1 ?_;refine st ?_;refine nl ?_;refine rt ?_
 exact en (.inl rfl) rfl (aP (.agg (.cons (.id rfl) (.cons (.sl (trs:=aV (dg 4294967296 n.natAbs)) rfl rfl (bB _) (aZ _)) (.cons (.id rfl) (.cons (.sl (trs:=aV (dg 4294967296 (1:Int).natAbs)) rfl rfl (bB _) (aZ _)) .nil)))))) (by decide) (fun _=>tU (⟨_,dg 4294967296 n.natAbs,_,dg 4294967296 (1:Int).natAbs⟩:Fr4)) (If (q:=((n:Int):Rat)) (n:=n) (d:=1) (by simp) (by simp))
theorem NU {a b:Fr4}{p q:Rat}(ha:Qn a p) (hb:Qn b q):aE true Tryz.prog 71 [] [qF a,qF b] (aO (qO (p-q))):=by
 refine bF Tryz.func71 rfl Tryz.ntmps71 rfl aA rfl fun N w c0 h0=>?_
 refine sq ?_;refine rl ?_;refine bx 0 ?_;refine bx 1 ?_;refine al 2 ?_;refine nl ?_;refine sq ?_;refine rd [0,1,2] (fun i=>[5].contains i) mixed ?_
 refine aJ 0 ?_;refine aJ 2 ?_;refine aF 1 rfl (oO ha) gB ⟨aB rfl,rfl⟩ (qF (.of p)) ?_;refine aF 3 rfl (Xi hb) Yf ⟨aB rfl,rfl⟩ (qF (.of (-q))) ?_
 refine jX 3 4 rfl (Tg ha.sz (tM hb.sz)) vL ⟨aB rfl,aB rfl,rfl⟩ ?_;refine dst 5 ?_;refine aK ?_;refine rt ?_
 exact en (.inl rfl) rfl (aP (.agg (.cons (.id rfl) (.cons (.sl (trs:=aV (dg 4294967296 (p+-q).num.natAbs)) rfl rfl (bB _) (aZ _)) (.cons (.id rfl) (.cons (.sl (trs:=aV (dg 4294967296 (p+-q).den)) rfl rfl (bB _) (aZ _)) .nil)))))) (by decide) (fun _=>mH (p+-q)) (by rw[Rat.sub_eq_add_neg];rfl)
section
variable {f:FuncId}{args:List FV}
end
section
variable {a b:Fr4}{p q:Rat}{x y:Zi}{k k':Int}
theorem Ea (h:Zn x k) (h':Zn y k'):aE true Tryz.prog 116 [] [gF x,gF y] (aO (kO (k*k'))):=Ie h.g h'.g
theorem Mh (h:Zn x k) (h':Zn y k'):aE true Tryz.prog 76 [] [gF x,gF y] (aO (.one (tv (.int .i64 (k-k').sign)))):=Tf h.g h'.g (by have:=Ma k k';have:=h.len;have:=h'.len;omega)
theorem pW (h:Qn a p) (h':Qn b q):aE true Tryz.prog 70 [] [qF a,qF b] (aO (qO (p+q))):=NT h h'
theorem mM (h:Qn a p) (h':Qn b q):aE true Tryz.prog 71 [] [qF a,qF b] (aO (qO (p-q))):=NU h h'
theorem fR (h:Qn a p):aE true Tryz.prog 80 [] [qF a] (aO (.one (tv (.int .i64 p.num.sign)))):=HJ h
theorem CN (hp:Sz 68719476736 p) (hq:Sz 68719476736 q):aE true Tryz.prog 111 [] [qF (.of p),qF (.of q)] (aO (qO (p+q))):=Tg hp hq
theorem vB (ha:a.ok):aE true Tryz.prog 79 [] [qF a] (aO (.one (tv (.bool (bD a.s a.x a.t a.y))))):=Mg ⟨ha,rfl⟩
theorem lK {z:Int}(h1:-9223372036854775808≤z) (h2:z≤9223372036854775807):aE true Tryz.prog 69 [] [.one (tv (.int .i64 z))] (aO (qO (z:Rat))):=BG h1 h2
theorem Eb (hp:Sz 68719476736 p):aE true Tryz.prog 111 [] [qF (.of p),qF (.of ((0:Int):Rat))] (aO (qO p)):=by
 have:=CN hp ((lC (z:=0) (by omega) (by omega)).mono (by omega))
 rwa[show p+((0:Int):Rat)=p from Rat.add_zero p]at this
theorem Ug (h:Qn a p):aE true Tryz.prog 70 [] [qF a,qF (.of ((0:Int):Rat))] (aO (qO p)):=by
 have:=pW h (Qn.of (p:=((0:Int):Rat)) ((lC (z:=0) (by omega) (by omega)).mono (M:=68719476736) (by omega)))
 rwa[show p+((0:Int):Rat)=p from Rat.add_zero p]at this
theorem Hc (p:Rat) (l:List Rat) (q:Rat):bC p (l++[q])=if q<bC p l then q else bC p l:=by
 unfold bC
 rw[List.foldl_append]
 rfl
end
def sR (t:Nat) (us:List (Int×Rat)):Tr:=.s true t 5 us.length (us.flatMap (cI false))
def sO (t:Nat) (us:List (Int×Rat)):Tr:=.s true t 5 us.length (us.flatMap (cI true))
def eI (us:List (Int×Rat)):List AV:=(us.flatMap (cI false)).map .t
def oV (us:List (Int×Rat)):List AV:=(us.flatMap (cI true)).map .t
section
variable {us vs:List (Int×Rat)}{k:Nat}{x:Int×Rat}
theorem lS (us:List (Int×Rat)):(eI us).length=us.length*5:=by rw[eI,List.length_map,bO]
theorem yT (us:List (Int×Rat)):(oV us).length=us.length*5:=by rw[oV,List.length_map,bO]
theorem Iz (us:List (Int×Rat)) (x:Int×Rat):eI us++(cI false x).map .t=eI (us++[x]):=by simp[eI,List.flatMap_append]
theorem BH (us:List (Int×Rat)) (x:Int×Rat):oV us++(cI true x).map .t=oV (us++[x]):=by simp[oV,List.flatMap_append]
theorem Ir (h:k<us.length):((eI us).drop (0+k*5)).take ((cI false (aU us k)).map AV.t).length=(cI false (aU us k)).map .t:=by
 rw[eI,←List.map_drop,←List.map_take,Nat.zero_add,List.length_map,tH false h]
theorem BX (h:k<us.length):((eI us).drop (0+k*5+1)).take (((Fr4.of (aU us k).2).tr false).map AV.t).length=((Fr4.of (aU us k).2).tr false).map .t:=by
 rw[eI,←List.map_drop,←List.map_take,Nat.zero_add,List.length_map,RX false h]
theorem BY (h:k<us.length):(eI us)[0+k*5]? =some (tv (.int .i64 (aU us k).1)):=by
 have h1:=congrArg (·[0]?) (Ir h)
 simp only[List.getElem?_take,List.getElem?_drop]at h1
 simpa[cI,tv]using h1
theorem JD (h:k<us.length):0+k*5+5≤(eI us).length:=by rw[lS];omega
theorem EN {q:Rat}(h:k<us.length):0+k*5+1+(((Fr4.of q).tr false).map AV.t).length≤(eI us).length:=by
 rw[lS]
 show 0+k*5+1+4≤_
 omega
theorem Hd (us:List (Int×Rat)) (k:Nat):(us.flatMap (cI false)).take (k*5)=(us.take k).flatMap (cI false):=by
 by_cases h:k≤us.length
 ·conv=>lhs;rw[←List.take_append_drop k us,List.flatMap_append]
  exact List.take_left' (by rw[bO,List.length_take,Nat.min_eq_left h])
 rw[List.take_of_length_le (by rw[bO];omega),List.take_of_length_le (by omega)]
theorem Xj (us:List (Int×Rat)) (k:Nat):(us.flatMap (cI false)).drop (k*5)=(us.drop k).flatMap (cI false):=by
 by_cases h:k≤us.length
 ·conv=>lhs;rw[←List.take_append_drop k us,List.flatMap_append]
  exact List.drop_left' (by rw[bO,List.length_take,Nat.min_eq_left h])
 rw[List.drop_of_length_le (by rw[bO];omega),List.drop_of_length_le (by omega)]
 rfl
theorem BW (h:k<us.length):cS (eI us) (0+k*5) ((cI false x).map AV.t)=eI (us.set k x):=by
 have e:k*5+((cI false x).map AV.t).length=(k+1)*5:=by show k*5+5=_;omega
 rw[Nat.zero_add]
 unfold cS eI
 rw[e,←List.map_take,←List.map_drop,Hd,Xj,←List.map_append,←List.map_append,List.set_eq_take_append_cons_drop,if_pos h]
 simp[List.flatMap_append]
theorem OO {q:Rat}(h:k<us.length):cS (eI us) (0+k*5+1) (((Fr4.of q).tr false).map AV.t)=eI (us.set k ((aU us k).1,q)):=by
 rw[←BW h]
 have h1:(eI us).take (0+k*5+1)=(eI us).take (0+k*5)++[tv (.int .i64 (aU us k).1)]:=by
  rw[List.take_add_one,BY h]
  rfl
 unfold cS
 rw[h1]
 have e:0+k*5+1+(((Fr4.of q).tr false).map AV.t).length=0+k*5+((cI false ((aU us k).1,q)).map AV.t).length:=by show 0+k*5+1+4=0+k*5+5;omega
 rw[e]
 simp[cI,tv]
theorem BI (us:List (Int×Rat)) (k:Nat):(eI us).take (k*5)=((us.take k).flatMap (cI false)).map .t:=by rw[eI,←List.map_take,Hd]
theorem cC (l:List Tr) (n:Nat) (h:l.length=n):(l.map AV.t).take n=l.map .t:=List.take_of_length_le (by simp[h])
theorem Cj (o:Bool) (us:List (Int×Rat)):rdTL (us.flatMap (cI o))=us.flatMap (cI false):=by
 have app:∀a b:List Tr,rdTL (a++b)=rdTL a++rdTL b:=by
  intro a b
  induction a with
  | nil=>rfl
  | cons x a ih=>simp[rdTL,ih]
 have u32:∀xs:List Nat,rdTL (aV xs)=aV xs:=by
  intro xs
  induction xs with
  | nil=>rfl
  | cons x xs ih=>simpa[aV,rdTL,gR]using ih
 induction us with
 | nil=>rfl
 | cons x us ih=>
  show rdTL (cI o x++us.flatMap (cI o))=cI false x++us.flatMap (cI false)
  rw[app,ih]
  simp[cI,Fr4.tr,rdTL,gR,sU,u32]
theorem Qh (us:List (Int×Rat)):NoFrL (us.flatMap (cI true)):=by
 have app:∀a b:List Tr,NoFrL a→NoFrL b→NoFrL (a++b):=by
  intro a b ha hb
  induction a with
  | nil=>exact hb
  | cons x a ih=>
   simp only[NoFrL]at ha
   simp only[List.cons_append,NoFrL]
   exact⟨ha.1,ih ha.2⟩
 induction us with
 | nil=>simp[NoFrL]
 | cons x us ih=>
  rw[List.flatMap_cons]
  refine app _ _ ?_ ih
  simp only[cI,Fr4.tr,sU,NoFrL,mY]
  exact⟨trivial,trivial,.inl ⟨trivial,fD _⟩,trivial,.inl ⟨trivial,fD _⟩,trivial⟩
theorem HK (t:Nat) (us:List (Int×Rat)):kE (.one (.t (sO t us))):=.inl ⟨rfl,Qh us⟩
theorem BJ (x:Int×Rat):kE (.agg ((cI true x).map .t)):=by
 simp only[kE,pE,cI,Fr4.tr,sU,List.map_cons,List.map_nil,lO,sG,mY]
 exact⟨trivial,trivial,.inl ⟨trivial,fD _⟩,trivial,.inl ⟨trivial,fD _⟩,trivial⟩
end
section
variable {x:Cx}{g:Nat→FV}{ob:List (Option Ob)}
theorem SL {j k1 k2 e:Nat}{us:List (Int×Rat)}{y:Int}{q:Rat}(hn:Nat.beq k1 k2=false) (h1:Nat.beq j k1=false) (h2:Nat.beq j k2=false) (ho:bZ ob j=some ⟨e,5,oV us++[tv (.int .i64 y),tv (.bool (aL q.num)),.sl k1 0 (dg 4294967296 q.num.natAbs).length,tv (.bool false),.sl k2 0 (dg 4294967296 q.den).length]⟩)
  (o1:bZ ob k1=some ⟨109,1,(aV (dg 4294967296 q.num.natAbs)).map .t⟩) (o2:bZ ob k2=some ⟨109,1,(aV (dg 4294967296 q.den)).map .t⟩):Sub x g ob g ((((ob.set j (some ⟨e,5,oV us++[tv (.int .i64 y),tv (.bool (aL q.num)),.t (sU true (dg 4294967296 q.num.natAbs)),tv (.bool false),.sl k2 0 (dg 4294967296 q.den).length]⟩)).set k1 none).set j (some ⟨e,5,oV (us++[(y,q)])⟩)).set k2 none):=by
 have hk:∀{l:List (Option Ob)}{i m:Nat}{o:Option Ob},Nat.beq i m=false→bZ (l.set i o) m=bZ l m:=fun{l i m o} h=>by
  unfold bZ
  rw[List.getElem?_set_ne (fun e=>by subst e;simp at h)]
 have hjl:=(List.getElem?_eq_some_iff.1 (cQ ho)).1
 have hk1l:=(List.getElem?_eq_some_iff.1 (cQ o1)).1
 have hb:∀{a b:Nat},Nat.beq a b=false→Nat.beq b a=false:=fun{a b} h=>by
  cases hq:Nat.beq b a
  ·rfl
  rw[Nat.eq_of_beq_eq_true hq]at h
  simp at h
 have hlen:=yT us
 have s1:=jD (x:=x) (g:=g) (ob:=ob) (j:=j) (k:=k1) (p:=us.length*5+2) (e:=109) (z:=1) (n:=(dg 4294967296 q.num.natAbs).length) (trs:=aV (dg 4294967296 q.num.natAbs)) h1 rfl ho o1 (by rw[List.getElem?_append_right (by omega)];simp[hlen]) (bB _) (aZ _)
  (l':=oV us++[tv (.int .i64 y),tv (.bool (aL q.num)),.t (sU true (dg 4294967296 q.num.natAbs)),tv (.bool false),.sl k2 0 (dg 4294967296 q.den).length]) (by rw[List.set_append_right _ _ (by omega),hlen,show us.length*5+2-us.length*5=2 by omega];rfl)
 have s2:=jD (x:=x) (g:=g) (ob:=(ob.set j (some ⟨e,5,oV us++[tv (.int .i64 y),tv (.bool (aL q.num)),.t (sU true (dg 4294967296 q.num.natAbs)),tv (.bool false),.sl k2 0 (dg 4294967296 q.den).length]⟩)).set k1 none) (j:=j) (k:=k2) (p:=us.length*5+4) (e:=109) (z:=1) (n:=(dg 4294967296 q.den).length) (trs:=aV (dg 4294967296 q.den)) (t':=e) (z':=5) h2 rfl
  (by rw[hk (hb h1)];unfold bZ;rw[List.getElem?_set_self hjl]) (by rw[hk hn,hk h2];exact o2) (by rw[List.getElem?_append_right (by omega)];simp[hlen]) (bB _) (aZ _)
  (l':=oV (us++[(y,q)])) (by rw[List.set_append_right _ _ (by omega),hlen,show us.length*5+4-us.length*5=4 by omega,←BH];rfl)
 exact fun ts W hR=>s2 ts W (s1 ts W hR)
end
def jM (dl:Int×Rat→Bool):List (Int×Rat)→Nat
 | []=>0
 | x::l=>if dl x then 0 else jM dl l+1
def dT (dl:Int×Rat→Bool) (vs:List (Int×Rat)):List (Int×Rat):=vs.filter fun x=> !dl x
def zV:List Value:=[.int .i64 0,.bool false,.slice none 0 0,.bool false,.slice none 0 0]
def nI (vs F:List (Int×Rat)):List Tr:=F.flatMap (cI false)++(gM zV (vs.length-F.length)).map .v
section
variable {dl:Int×Rat→Bool}{vs us:List (Int×Rat)}{i j k:Nat}
theorem Io:∀(vs:List (Int×Rat)),jM dl vs≤vs.length
 | []=>Nat.le_refl _
 | x::l=>by
  have:=Io l
  unfold jM
  split <;> simp <;> omega
theorem uX:∀{vs:List (Int×Rat)}{k:Nat},k≤jM dl vs→k<vs.length→(dl (aU vs k)=true→jM dl vs=k)∧(dl (aU vs k)=false→k+1≤jM dl vs)
 | [],_,_,h=>by simp at h
 | x::l,0,_,_=>by
  have e:aU (x::l) 0=x:=rfl
  rw[e]
  unfold jM
  constructor
  ·intro h;simp[h]
  intro h;simp[h]
 | x::l,k+1,h,h2=>by
  have e:aU (x::l) (k+1)=aU l k:=by simp[aU]
  rw[e]
  unfold jM at h⊢
  by_cases hx:dl x=true
  ·simp[hx]at h
  simp only[if_neg hx]at h⊢
  have:=uX (vs:=l) (k:=k) (by omega) (by simpa using h2)
  exact⟨fun h=>by rw[this.1 h],fun h=>by have:=this.2 h;omega⟩
theorem Bw:∀{vs:List (Int×Rat)}{k:Nat},k≤jM dl vs→(vs.take k).filter (fun x=> !dl x)=vs.take k
 | vs,0,_=>by simp
 | [],k+1,_=>by simp
 | x::l,k+1,h=>by
  unfold jM at h
  by_cases hx:dl x=true
  ·simp[hx]at h
  simp only[if_neg hx]at h
  have:=Bw (vs:=l) (k:=k) (by omega)
  simp[hx,this]
theorem Is (h:jM dl vs=vs.length):dT dl vs=vs:=by
 have:=Bw (dl:=dl) (vs:=vs) (k:=vs.length) (by omega)
 rwa[List.take_of_length_le (Nat.le_refl _)]at this
theorem Iu (h:k<us.length) (x:Int×Rat):aU (us.set k x) k=x:=by simp[aU,h]
theorem Tt (h:jM dl vs<vs.length):vs.take (jM dl vs)=(vs.take (jM dl vs+1)).filter (fun x=> !dl x):=by
 have h1:dl (aU vs (jM dl vs))=true:=by
  cases hq:dl (aU vs (jM dl vs))with
  | true=>rfl
  | false=>
   have:=(uX (Nat.le_refl _) h).2 hq
   omega
 rw[kL h,List.filter_append,Bw (Nat.le_refl _)]
 simp[h1]
theorem Xy (h:us.take i=(vs.take j).filter (fun x=> !dl x)) (hj:j<vs.length) (hx:dl (aU vs j)=false) (hi:i<us.length):(us.set i (aU vs j)).take (i+1)=(vs.take (j+1)).filter (fun x=> !dl x):=by
 rw[kL (by simpa using hi),List.take_set_of_le (Nat.le_refl _),h,Iu hi,kL hj,List.filter_append]
 simp[hx]
theorem Xx (h:us.take i=(vs.take j).filter (fun x=> !dl x)) (hj:j<vs.length) (hx:dl (aU vs j)=true):us.take i=(vs.take (j+1)).filter (fun x=> !dl x):=by
 rw[h,kL hj,List.filter_append]
 simp[hx]
theorem JE (h:i≠j) (x:Int×Rat):aU (us.set i x) j=aU us j:=by simp[aU,List.getElem?_set_ne h]
theorem Tu (hul:us.length=vs.length) (hi:i≤us.length) (h:us.take i=dT dl vs):cS (eI us) (0+i*5) ((gM zV (us.length-i)).map tv)=(nI vs (dT dl vs)).map .t:=by
 have hl:(dT dl vs).length=i:=by rw[←h,List.length_take,Nat.min_eq_left hi]
 unfold cS nI
 rw[Nat.zero_add,BI,h,List.drop_of_length_le (by rw[lS,List.length_map,rE];show us.length*5≤i*5+(us.length-i)*5;omega),List.append_nil,hl,hul]
 simp[tv]
theorem Tv (h:dT dl vs=vs):eI vs=(nI vs (dT dl vs)).map .t:=by
 unfold nI
 rw[h,Nat.sub_self]
 simp[gM,eI]
theorem Qv (vs F:List (Int×Rat)):((nI vs F).map AV.t).take (F.length*5)=(F.flatMap (cI false)).map .t:=by
 unfold nI
 rw[List.map_append]
 exact List.take_left' (by rw[List.length_map,bO])
theorem wU {fr:Int}(p:Rat) (h:k<vs.length):aW fr (vs.take (k+1)) p=jV fr (aW fr (vs.take k) p) (aU vs k):=by
 unfold aW
 rw[kL h,List.foldl_append]
 rfl
theorem Yc {α:Type}{a b us:List α}{k:Nat}{x y:α}(h:us=a++x::b) (ha:a.length=k):us.set k y=(a++[y])++b:=by
 subst h
 rw[List.set_append_right _ _ (by omega),ha,Nat.sub_self]
 simp
theorem Ci (h:k<vs.length):vs.drop k=aU vs k::vs.drop (k+1):=by
 rw[List.drop_eq_getElem_cons h]
 congr 1
 simp[aU,h]
theorem Yb {a b us:List (Int×Rat)}{k:Nat}{x:Int×Rat}(h:us=a++x::b) (ha:a.length=k):aU us k=x:=by
 subst h
 unfold aU
 rw[List.getD_eq_getElem?_getD,List.getElem?_append_right (by omega),ha,Nat.sub_self]
 rfl
end
structure StOk (X:List (Int×Rat)) (n B:Nat):Prop where
 pos:∀x∈X,0<x.2
 len:X.length≤n
 size:gQ (X.map Prod.snd)≤B
section
variable {X:List (Int×Rat)}{n B n' B':Nat}
theorem HM (fr:Int) (p:Rat):∀(xs:List (Int×Rat)),gQ ((aW fr xs p).1.map Prod.snd)+wt (aW fr xs p).2.2≤gQ (xs.map Prod.snd)+wt p+2*xs.length:=by
 intro xs
 have key:∀(xs:List (Int×Rat)) (s:List (Int×Rat)×List (Int×Rat)×Rat),gQ ((xs.foldl (jV fr) s).1.map Prod.snd)+wt (xs.foldl (jV fr) s).2.2≤gQ (s.1.map Prod.snd)+wt s.2.2+gQ (xs.map Prod.snd)+2*xs.length:=by
  intro xs
  induction xs with
  | nil=>intro s;simp[gQ]
  | cons x xs ih=>
   intro s
   rw[List.foldl_cons]
   refine Nat.le_trans (ih _) ?_
   have e:gQ ((x::xs).map Prod.snd)=wt x.2+gQ (xs.map Prod.snd):=by simp[gQ]
   rw[e,List.length_cons]
   by_cases hc:fr≤x.1∧0<s.2.2.num.sign
   ·have h1:=qT (s:=s) (y:=x.1) (q:=x.2) hc.1 hc.2
    have h2:=Wy x.2 s.2.2
    rw[show jV fr s x=jV fr s (x.1,x.2) from rfl,h1]
    dsimp only
    rw[List.map_append,vA]
    simp only[List.map_cons,List.map_nil,gQ,List.sum_cons,List.sum_nil]at h2⊢
    omega
   rw[qB hc]
   dsimp only
   rw[List.map_append,vA]
   simp only[List.map_cons,List.map_nil,gQ,List.sum_cons,List.sum_nil]
   omega
 have:=key xs ([],[],p)
 have e:gQ (([]:List (Int×Rat)).map Prod.snd)=0:=rfl
 unfold aW
 dsimp only at this
 rw[e]at this
 omega
theorem StOk.zU {fr:Int}{p:Rat}{L:Nat}(h:StOk X n B) (hB:B+wt p+2*n≤L):∀x∈(aW fr X p).1,Sz L x.2:=by
 intro x hx
 refine oW.2 ?_
 have h1:=HM fr p X
 have h2:wt x.2≤gQ ((aW fr X p).1.map Prod.snd):=Ni (List.mem_map.2 ⟨x,hx,rfl⟩)
 have h3:wt x.2=wT x.2+1:=rfl
 have h4:=h.size
 have h5:=h.len
 omega
end
theorem Mi {L:Nat}{k:Int}(h:uO L k):uO L (-k):=by
 unfold uO
 rw[Int.natAbs_neg]
 exact h
theorem Ec {n:Int}(h1:-9223372036854775808≤n) (h2:n≤9223372036854775807):uO 2 n:=pA h1 h2
theorem eQ {n d:Int}(h1:-9223372036854775808≤n) (h2:n≤9223372036854775807) (h3:-9223372036854775808≤d) (h4:d≤9223372036854775807):Sz 2 (Rat.divInt n d):=by
 rcases Int.lt_trichotomy d 0 with hd | hd | hd
 ·rw[←Rat.neg_divInt_neg]
  obtain⟨e1,e2⟩:=pG (a:=-n) (b:=-d) (L:=2) (M:=2) (by omega) (Mi (Ec h1 h2)) (Mi (Ec h3 h4))
  exact⟨e1,e2⟩
 ·subst hd
  rw[Rat.divInt_zero]
  exact⟨Nat.zero_le _,by decide⟩
 obtain⟨e1,e2⟩:=pG (a:=n) (b:=d) (L:=2) (M:=2) hd (Ec h1 h2) (Ec h3 h4)
 exact⟨e1,e2⟩
abbrev At:=Int×Int×Fr4
section
variable {xs:List At}{k:Nat}
end
section
variable {ls:List Fr4}{k:Nat}{a:Fr4}
end
section
variable {Z:List (Int×Rat)}{rest r4:List Tr}{k:Nat}{q:Rat}{a:Fr4}
end
inductive Pts (L:Nat):List (Int×Rat)→List (Int×Rat)→List (Int×Rat)→Prop
 | nil {Z:List (Int×Rat)}:Pts L Z [] Z
 | cons {Z us Z':List (Int×Rat)}{u:Int×Rat}{k:Nat}{r:Rat}(hk:Z[k]? =some (u.1,r)) (hr:0<r) (hf:∀j,j<k→¬((aU Z j).1=u.1∧0<(aU Z j).2)) (hu:0<u.2) (hle:u.2≤r) (hs:Sz L (r-u.2)) (h:Pts L (Z.set k (u.1,r-u.2)) us Z'):Pts L Z (u::us) Z'
def WU (L:List (Int×Rat)):Prop:=(L.map Prod.fst).Pairwise (· < ·)
def VX (Z:List (Int×Rat)):List (Int×Rat):=Z.filter fun x=>decide (0<x.2)
inductive UseOf:List (Int×Rat)→List (Int×Rat)→List (Int×Rat)→Prop
 | nil:UseOf [] [] []
 | skip {x:Int×Rat}{vs us vs':List (Int×Rat)}(h:UseOf vs us vs'):UseOf (x::vs) us (x::vs')
 | part {y:Int}{q m:Rat}{vs us vs':List (Int×Rat)}(h0:0<m) (h1:m<q) (h:UseOf vs us vs'):UseOf ((y,q)::vs) ((y,m)::us) ((y,q-m)::vs')
 | all {y:Int}{q:Rat}{vs us vs':List (Int×Rat)}(h0:0<q) (h:UseOf vs us vs'):UseOf ((y,q)::vs) ((y,q)::us) vs'
section
variable {Z vs us vs':List (Int×Rat)}{L:Nat}
end
section
variable {fr:Int}{vs:List (Int×Rat)}{r:Rat}{x:Int×Rat}
theorem nG (fr:Int):∀(vs a b:List (Int×Rat)) (r:Rat),vs.foldl (jV fr) (a,b,r)=(a++(aW fr vs r).1,b++(aW fr vs r).2.1,(aW fr vs r).2.2)
 | [],a,b,r=>by simp[aW]
 | x::vs,a,b,r=>by
  unfold aW
  rw[List.foldl_cons,List.foldl_cons]
  by_cases hc:fr≤x.1∧0<r.num.sign
  ·rw[show jV fr (a,b,r) x=_ from qT (s:=(a,b,r)) (y:=x.1) (q:=x.2) hc.1 hc.2,show jV fr ([],[],r) x=_ from qT (s:=([],[],r)) (y:=x.1) (q:=x.2) hc.1 hc.2]
   rw[nG fr vs _ _ _,nG fr vs _ _ _]
   simp
  rw[qB (s:=(a,b,r)) hc,qB (s:=([],[],r)) hc,nG fr vs _ _ _,nG fr vs _ _ _]
  simp
theorem Bx (h1:fr≤x.1) (h2:0<r):aW fr (x::vs) r=((x.1,x.2-bC x.2 [r])::(aW fr vs (r-bC x.2 [r])).1,(x.1,bC x.2 [r])::(aW fr vs (r-bC x.2 [r])).2.1,(aW fr vs (r-bC x.2 [r])).2.2):=by
 have:aW fr (x::vs) r=vs.foldl (jV fr) (jV fr ([],[],r) x):=rfl
 rw[this,show jV fr ([],[],r) x=_ from qT (s:=([],[],r)) (y:=x.1) (q:=x.2) h1 ((lY r).2 h2),nG]
 rfl
theorem Fx (h:¬(fr≤x.1∧0<r)):aW fr (x::vs) r=(x::(aW fr vs r).1,(aW fr vs r).2.1,(aW fr vs r).2.2):=by
 have:aW fr (x::vs) r=vs.foldl (jV fr) (jV fr ([],[],r) x):=rfl
 rw[this,qB (s:=([],[],r)) (by rwa[lY]),nG]
 rfl
structure UseP (fr:Int) (r:Rat) (vs us vs':List (Int×Rat)) (r':Rat):Prop where
 use:UseOf vs us vs'
 yrs:∀u∈us,fr≤u.1
 sum:r=gU (us.map Prod.snd)+r'
 low:0≤r→0≤r'
 non:r≤0→us=[]
 full:∀z∈vs',fr≤z.1→r'≤0∧∀u∈us,u.1≤z.1
end
section
variable {Z Z' us:List (Int×Rat)}{L k:Nat}{u:Int×Rat}
end
section
variable {x:Cx}{g:Nat→FV}{ob ob':List (Option Ob)}{Q:Post}{ops:Array Oper}{rest:List Oper}{d:Nat}{ty:TypeId}{pos:String}{af:Array Edge}{gd:Option (Nat×Bool)}{T:List (Nat×TI)}
theorem HP {k t z n:Nat}(t':Nat){l l':List Tr}(ho:bZ ob k=some ⟨t,z,l.map .t⟩) (hz:l.length=n*z) (hl:rdTL l=l'):Ia x g ob k ⟨t,z,l.map .t⟩ (.sl k 0 n) (.s false t' z n l'):=fun cs ts W hR m2 m3 u e2=>by
 have h:=Ko t' ho hz cs ts W hR m2 m3 u e2
 simp only[AR]at h⊢
 have h9:=yC _ _ h
 rw[gR,hl]at h9
 exact h9
theorem JO {i k t z n:Nat}(t':Nat){l l':List Tr}{fv fv':FV}(hi:Nat.blt i x.n=true) (hg:g i=fv) (ho:bZ ob k=some ⟨t,z,l.map .t⟩) (hz:l.length=n*z) (hl:rdTL l=l') (hf:FzF (.sl k 0 n) (.s false t' z n l') fv fv'):Sub x g ob (bH g i fv') (ob.set k none):=Fh hi hg ho hf (HP t' ho hz hl)
variable {late:Nat→Bool}{K fr:List Nat}{on:Bool}{fuel:Nat}{listed:Array Bool}
end
def z4:List Tr:=[.v (.bool false),.v (.slice none 0 0),.v (.bool false),.v (.slice none 0 0)]
structure WhOk (Z vs:List (Int×Rat)) (last:Int) (put:Bool):Prop where
 pos:VX Z=vs
 low:∀z∈Z,0≤z.2
 ok:StOk vs Z.length (100*Z.length)
 asc:WU vs
 yrs:∀x∈vs,-9223372036854775808≤x.1
 last:∀x∈vs,put=true∧x.1≤last
section
variable {Z vs us vs':List (Int×Rat)}{last y:Int}{put rt:Bool}{p:Rat}
end
section
variable {vs us vs':List (Int×Rat)}{last y:Int}{put rt:Bool}{p:Rat}
end
abbrev Gt:=Int×Fr4
def gtr (o:Bool) (x:Gt):List Tr:=.v (.int .i64 x.1)::x.2.tr o
section
variable {xs:List Gt}{k:Nat}
end
abbrev Ls:=List (Int×Rat)×Int×Bool
section
variable {xs:List Gt}{k:Nat}{s:Ls}{r:Option Ls}
end
section
variable {x:Cx}{g:Nat→FV}{ob:List (Option Ob)}{Q Q':Post}
end
structure Us where
 v:Int
 y:Int
 n:Rat
 p:Rat
 q:Rat
def fM (U:List Us) (y:Int):Rat:=gU ((U.filter fun u=>decide (u.y=y)).map Us.n)
def Je (U:List Us) (v:Int):Rat:=gU ((U.filter fun u=>decide (u.v=v)).map Us.n)
def abv (x:Rat):Rat:=kI x [0]
theorem mG (x:Rat):abv x=if x<0 then 0 else x:=rfl
theorem yM (x:Rat):0≤abv x:=by rw[mG];split <;> grind
theorem Xk {x:Rat}(h:0≤x):abv x=x:=by rw[mG];split <;> grind
theorem HR {x:Rat}(h:0<abv x):abv x=x:=by rw[mG]at*;split at h <;> grind
theorem Ad (a b:Rat):bC a [b]=if b<a then b else a:=rfl
theorem rL (a b:Rat):bC a [b]≤a:=by rw[Ad];split <;> grind
theorem rM (a b:Rat):bC a [b]≤b:=by rw[Ad];split <;> grind
theorem HS {a b:Rat}(ha:0≤a) (hb:0≤b):0≤bC a [b]:=by rw[Ad];split <;> grind
structure Mx where
 inc:Nat→Rat
 ring:Nat→Rat
 cap:Rat
 b:Nat
 w:Nat
namespace Mx
def lim (M:Mx) (y:Nat):Rat:=M.cap*abv (M.inc y)
def los (M:Mx) (v:Nat):Rat:=abv (0-M.inc v)
def tax (M:Mx) (U:List Us) (y:Nat):Rat:=abv (M.inc y)-(M.ring y+fM U y)
def left (M:Mx) (U:List Us) (v:Nat):Rat:=M.los v-Je U v
def room (M:Mx) (U:List Us) (y:Nat):Rat:=abv (M.lim y-(M.ring y+fM U y))
def app (M:Mx) (U:List Us) (v:Int) (y:Nat) (n:Rat):List Us:=U++[⟨v,y,n,M.tax U y,M.tax U y-n⟩]
def us (M:Mx) (U:List Us) (v:Int) (y:Nat) (n:Rat):List Us:=if 0<n then M.app U v y n else U
def use (M:Mx) (U:List Us) (v y:Nat):List Us:=M.us U v y (bC (M.left U v) [M.room U y])
def back (M:Mx) (U:List Us) (y j:Nat):List Us:=(List.range' (y-M.b) j).foldl (fun U x=>M.use U y x) U
def fwd (M:Mx) (U:List Us) (y j:Nat):List Us:=(List.range' (y-M.w) j).foldl (fun U v=>M.use U v y) U
def step (M:Mx) (U:List Us) (y:Nat):List Us:=if M.inc y<0 then M.back U y (y-(y-M.b))else M.fwd U y (y-(y-M.w))
def run (M:Mx):Nat→List Us
 | 0=>[]
 | y+1=>M.step (M.run y) y
end Mx
section
variable {M M':Mx}{U U':List Us}{v v' y y' j n k:Nat}{m:Rat}
theorem Fy {v:Int}{y':Int}:fM (M.app U v y m) y'=if(y:Int)=y' then fM U y'+m else fM U y':=by
 unfold fM Mx.app
 rw[List.filter_append,List.map_append]
 split
 ·rename_i h
  rw[List.filter_cons_of_pos (by simpa using h)]
  exact rX _ _
 rename_i h
 rw[List.filter_cons_of_neg (by simpa using h)]
 simp
theorem Qi {v v':Int}:Je (M.app U v y m) v'=if v=v' then Je U v'+m else Je U v':=by
 unfold Je Mx.app
 rw[List.filter_append,List.map_append]
 split
 ·rename_i h
  rw[List.filter_cons_of_pos (by simpa using h)]
  exact rX _ _
 rename_i h
 rw[List.filter_cons_of_neg (by simpa using h)]
 simp
theorem Mj:M.left (M.app U (v:Int) y m) v=M.left U v-m:=by
 unfold Mx.left
 rw[Qi,if_pos rfl]
 grind
theorem As (h:v≠v'):M.left (M.app U (v:Int) y m) v'=M.left U v':=by
 unfold Mx.left
 rw[Qi,if_neg (by omega)]
theorem HU {v:Int}:M.tax (M.app U v y m) y=M.tax U y-m:=by
 unfold Mx.tax
 rw[Fy,if_pos rfl]
 grind
theorem rN {v:Int}:fM (M.app U v y m) y=fM U y+m:=by rw[Fy,if_pos rfl]
theorem pZ {v:Int}(h:y≠y'):fM (M.app U v y m) y'=fM U y':=by rw[Fy,if_neg (by omega)]
theorem Th {v:Int}(h:y≠y'):M.tax (M.app U v y m) y'=M.tax U y':=by
 unfold Mx.tax
 rw[pZ h]
theorem Mk {v:Int}(h0:0<m) (h:m≤M.room U y):M.room (M.app U v y m) y=M.room U y-m:=by
 unfold Mx.room at*
 rw[rN]
 have h2:=HR (x:=M.lim y-(M.ring y+fM U y)) (by grind)
 rw[h2]at h⊢
 rw[show M.lim y-(M.ring y+(fM U y+m))=M.lim y-(M.ring y+fM U y)-m by grind]
 exact Xk (by grind)
theorem Qj:0≤M.room U y:=yM _
theorem pH (h:¬0<bC (M.left U v) [M.room U y]):M.use U v y=U:=if_neg h
theorem qN (h:0<bC (M.left U v) [M.room U y]):M.use U v y=M.app U v y (bC (M.left U v) [M.room U y]):=if_pos h
theorem mL (h:v≠v'):M.left (M.use U v y) v'=M.left U v':=by
 by_cases hp:0<bC (M.left U v) [M.room U y]
 ·rw[qN hp];exact As h
 rw[pH hp]
theorem Jb (h:0≤M.left U v):M.left (M.use U v y) v=M.left U v-bC (M.left U v) [M.room U y]∧0≤M.left (M.use U v y) v:=by
 have h1:=HS h (Qj (M:=M) (U:=U) (y:=y))
 have h2:=rL (M.left U v) (M.room U y)
 by_cases hp:0<bC (M.left U v) [M.room U y]
 ·rw[qN hp,Mj]
  grind
 rw[pH hp]
 grind
def wl (M:Mx) (U:List Us) (I:List Nat):List (Int×Rat):=I.filterMap fun i=>if 0<M.left U i then some ((i:Int),M.left U i)else none
theorem kT {I:List Nat}(h:0<M.left U v):wl M U (v::I)=((v:Int),M.left U v)::wl M U I:=by
 unfold wl
 rw[List.filterMap_cons,if_pos h]
theorem mR {I:List Nat}(h:¬0<M.left U v):wl M U (v::I)=wl M U I:=by
 unfold wl
 rw[List.filterMap_cons,if_neg h]
theorem Ae:∀{I:List Nat},(∀i∈I,M.left U i=M.left U' i)→wl M U I=wl M U' I
 | [],_=>rfl
 | i::I,h=>by
  have e:=h i (List.mem_cons_self ..)
  have ih:=Ae (I:=I) fun j hj=>h j (List.mem_cons_of_mem _ hj)
  by_cases hp:0<M.left U i
  ·rw[kT hp,kT (by rw[←e];exact hp),e,ih]
  rw[mR hp,mR (by rw[←e];exact hp),ih]
theorem lR {v':Nat}:∀(I:List Nat) (U:List Us),v'∉I→M.left (I.foldl (fun U v=>M.use U v y) U) v'=M.left U v'
 | [],_,_=>rfl
 | i::I,U,h=>by
  rw[List.foldl_cons,lR I _ fun h9=>h (List.mem_cons_of_mem _ h9)]
  exact mL fun e=>h (e▸List.mem_cons_self ..)
theorem Nl {fr:Int}:∀(I:List Nat) (U:List Us),I.Nodup→(∀i∈I,fr≤(i:Int))→(∀i∈I,0≤M.left U i)→
  I.foldl (fun U v=>M.use U v y) U=(aW fr (wl M U I) (M.room U y)).2.1.foldl (fun U x=>M.us U x.1 y x.2) U∧
  wl M (I.foldl (fun U v=>M.use U v y) U) I=(aW fr (wl M U I) (M.room U y)).1.filter (fun x=> !nA x.1 x.2)
 | [],U,_,_,_=>⟨rfl,rfl⟩
 | i::I,U,hn,hf,h0=>by
  obtain⟨hi,hn⟩:=List.nodup_cons.1 hn
  have hf':∀i∈I,fr≤(i:Int):=fun j hj=>hf j (List.mem_cons_of_mem _ hj)
  have hfi:=hf i (List.mem_cons_self ..)
  have h0i:=h0 i (List.mem_cons_self ..)
  have ne:∀j∈I,i≠j:=fun j hj e=>hi (e▸hj)
  obtain⟨ih1,ih2⟩:=Nl (fr:=fr) I (M.use U i y) hn hf' fun j hj=>by rw[mL (ne j hj)];exact h0 j (List.mem_cons_of_mem _ hj)
  have hw:wl M (M.use U i y) I=wl M U I:=Ae fun j hj=>mL (ne j hj)
  rw[hw]at ih1 ih2
  have hl9:=lR (M:=M) (y:=y) I (M.use U i y) hi
  rw[List.foldl_cons]
  by_cases hp:0<M.left U i
  ·rw[kT hp]
   by_cases hr:0<M.room U y
   ·have hm:0<bC (M.left U i) [M.room U y]:=by rw[Ad];split <;> assumption
    have hroom:M.room (M.use U i y) y=M.room U y-bC (M.left U i) [M.room U y]:=by rw[qN hm];exact Mk hm (rM _ _)
    rw[Bx (x:=((i:Int),M.left U i)) hfi hr]
    rw[hroom]at ih1 ih2
    dsimp only
    refine⟨?_,?_⟩
    ·rw[ih1,List.foldl_cons]
     rfl
    have hl:=(Jb (M:=M) (y:=y) h0i).1
    by_cases hz:0<M.left U i-bC (M.left U i) [M.room U y]
    ·rw[kT (by rw[hl9,hl];exact hz),List.filter_cons_of_pos (by simp only[nA,Bool.not_eq_true',decide_eq_false_iff_not];have:=(lY _).2 hz;omega),hl9,hl,ih2]
    have:M.left U i-bC (M.left U i) [M.room U y]=0:=by have:=rL (M.left U i) (M.room U y);grind
    rw[mR (by rw[hl9,hl];exact hz),List.filter_cons_of_neg (by rw[this];simp[nA]),ih2]
   have hno:M.use U i y=U:=pH (by have:=rM (M.left U i) (M.room U y);grind)
   rw[Fx (x:=((i:Int),M.left U i)) (fun h=>hr h.2)]
   rw[hno]at ih1 ih2 hl9⊢
   dsimp only
   refine⟨ih1,?_⟩
   rw[kT (by rw[hl9];exact hp),List.filter_cons_of_pos (by simp only[nA,Bool.not_eq_true',decide_eq_false_iff_not];have:=(lY _).2 hp;omega),hl9,ih2]
  have hno:M.use U i y=U:=pH (by have:=rL (M.left U i) (M.room U y);grind)
  rw[hno]at ih1 ih2 hl9⊢
  rw[mR hp,mR (by rw[hl9];exact hp)]
  exact⟨ih1,ih2⟩
end
section
variable {α:Type}{f:α→List Tr}{z k o:Nat}{xs:List α}{x x':α}{us:List Tr}
theorem aQ (hf:∀x,(f x).length=z) (h:xs[k]? =some x) (hm:o+us.length≤z) (hu:((f x).drop o).take us.length=us):((xs.flatMap f).drop (k*z+o)).take us.length=us:=by
 rw[Mb hf h hm]
 exact hu
theorem jE (hf:∀x,(f x).length=z) (h:xs[k]? =some x) (hm:o+us.length≤z) (hu:((f x).drop o).take us.length=us):(((xs.flatMap f).map AV.t).drop (0+k*z+o)).take (us.map AV.t).length=us.map .t:=by
 rw[←List.map_drop,←List.map_take,Nat.zero_add,List.length_map,aQ hf h hm hu]
theorem BK (h:k<xs.length):xs=xs.take k++xs[k]::xs.drop (k+1):=by
 rw[←List.drop_eq_getElem_cons h,List.take_append_drop]
theorem nB (hf:∀x,(f x).length=z) (h:xs[k]? =some x) (hm:o+us.length≤z) (hx:f x'=(f x).take o++us++(f x).drop (o+us.length)):cS ((xs.flatMap f).map AV.t) (0+k*z+o) (us.map AV.t)=((xs.set k x').flatMap f).map .t:=by
 obtain⟨hk,rfl⟩:=List.getElem?_eq_some_iff.1 h
 rw[←Bc,Nat.zero_add]
 congr 1
 have hA:((xs.take k).flatMap f).length=k*z:=by rw[gE hf,List.length_take,Nat.min_eq_left (by omega)]
 have e:xs.flatMap f=(xs.take k).flatMap f++(f xs[k]++(xs.drop (k+1)).flatMap f):=by
  conv=>lhs;rw[BK hk]
  rw[List.flatMap_append,List.flatMap_cons]
 have hl:=hf xs[k]
 rw[List.set_eq_take_append_cons_drop,if_pos hk,List.flatMap_append,List.flatMap_cons,hx,e]
 generalize (xs.take k).flatMap f=A at*
 generalize (xs.drop (k+1)).flatMap f=C at*
 generalize f xs[k]=X at*
 unfold cS
 rw[List.take_append,List.drop_append,hA,List.take_of_length_le (l:=A) (by omega),List.drop_of_length_le (l:=A) (by omega),show k*z+o-k*z=o by omega,show k*z+o+us.length-k*z=o+us.length by omega,List.take_append,List.drop_append,show o-X.length=0 by omega,show o+us.length-X.length=0 by omega]
 simp
theorem qD (hf:∀x,(f x).length=z) (h:k<xs.length) (hm:o+us.length≤z):0+k*z+o+(us.map AV.t).length≤((xs.flatMap f).map AV.t).length:=by
 rw[List.length_map,List.length_map,gE hf]
 have:=Nat.mul_le_mul (show k+1≤xs.length by omega) (Nat.le_refl z)
 rw[Nat.add_mul]at this
 omega
theorem rW (xs:List α) (x:α):(xs.flatMap f).map AV.t++(f x).map .t=((xs++[x]).flatMap f).map .t:=by simp[List.flatMap_append]
end
structure Rw where
 l:Rat
 m:Rat
 u:Rat
 t:Rat
 e:Rat
 c:Rat
def cF (o:Bool) (r:Rw):List Tr:=(Fr4.of r.l).tr o++((Fr4.of r.m).tr o++((Fr4.of r.u).tr o++((Fr4.of r.t).tr o++((Fr4.of r.e).tr o++(Fr4.of r.c).tr o))))
def dP (o:Bool) (u:Us):List Tr:=.v (.int .i64 u.v)::.v (.int .i64 u.y)::((Fr4.of u.n).tr o++((Fr4.of u.p).tr o++(Fr4.of u.q).tr o))
def bY (y:Fr4×Fr4):List Tr:=y.1.tr false++y.2.tr false
def Gi (rs:List Rw):List AV:=(rs.flatMap (cF false)).map .t
def Qk (us:List Us):List AV:=(us.flatMap (dP false)).map .t
theorem dU (o:Bool) (r:Rw):(cF o r).length=24:=rfl
theorem kU (o:Bool) (u:Us):(dP o u).length=14:=rfl
theorem dA (y:Fr4×Fr4):(bY y).length=8:=rfl
theorem ES (rs:List Rw):(Gi rs).length=rs.length*24:=by rw[Gi,List.length_map,gE (dU false)]
theorem Ql (us:List Us):(Qk us).length=us.length*14:=by rw[Qk,List.length_map,gE (kU false)]
theorem Yh (rs:List Rw) (r:Rw):Gi rs++(cF false r).map .t=Gi (rs++[r]):=rW rs r
theorem Ml (us:List Us) (u:Us):Qk us++(dP false u).map .t=Qk (us++[u]):=rW us u
def JP:Rw:=⟨0,0,0,0,0,0⟩
def aD (rs:List Rw) (k:Nat):Rw:=rs.getD k JP
theorem iQ {rs:List Rw}{k:Nat}(h:k<rs.length):rs[k]? =some (aD rs k):=by simp[aD,h]
def JQ:Us:=⟨0,0,0,0,0⟩
def mW (us:List Us) (k:Nat):Us:=us.getD k JQ
theorem lL {us:List Us}{k:Nat}(h:k<us.length):us[k]? =some (mW us k):=by simp[mW,h]
def bX (ys:List (Fr4×Fr4)) (k:Nat):Fr4×Fr4:=ys.getD k (mA,mA)
theorem eW {ys:List (Fr4×Fr4)}{k:Nat}(h:k<ys.length):ys[k]? =some (bX ys k):=by simp[bX,h]
theorem iG {ys:List (Fr4×Fr4)}{k:Nat}(h:k<ys.length):bX ys k∈ys:=List.mem_of_getElem? (eW h)
def wF (rs:List Rw) (y:Nat) (n:Rat):List Rw:=if 0<n then rs.set y ⟨(aD rs y).l,(aD rs y).m,(aD rs y).u+n,(aD rs y).t-n,(aD rs y).e,(aD rs y).c⟩else rs
def wG (rs:List Rw) (us:List Us) (v:Int) (y:Nat) (n:Rat):List Us:=if 0<n then us++[⟨v,y,n,(aD rs y).t,(aD rs y).t-n⟩]else us
def yrs (M:Mx) (N:Nat):List (Fr4×Fr4):=(List.range N).map fun y=>(Fr4.of (M.inc y),Fr4.of (M.ring y))
theorem cU (M:Mx) (N:Nat):(yrs M N).length=N:=by simp[yrs]
theorem eL {M:Mx}{N y:Nat}(h:y<N):(yrs M N)[y]? =some (Fr4.of (M.inc y),Fr4.of (M.ring y)):=by simp[yrs,h]
def Mx.row (M:Mx) (U:List Us) (e c:Nat→Rat) (y:Nat):Rw:=⟨M.los y,M.lim y,fM U y,M.tax U y,e y,c y⟩
def Mx.rows (M:Mx) (U:List Us) (e c:Nat→Rat) (n:Nat):List Rw:=(List.range n).map (M.row U e c)
section
variable {M:Mx}{U:List Us}{e c e' c':Nat→Rat}{n y v:Nat}{m:Rat}
theorem dK:(M.rows U e c n).length=n:=by simp[Mx.rows]
theorem vC (h:y<n):(M.rows U e c n)[y]? =some (M.row U e c y):=by simp[Mx.rows,h]
theorem iP (h:y<n):aD (M.rows U e c n) y=M.row U e c y:=by simp[Mx.rows,aD,h]
theorem map_set {f g:Nat→Rw}{x:Rw}(hy:y<n) (h:∀i,i<n→i≠y→f i=g i) (hx:x=g y):((List.range n).map f).set y x=(List.range n).map g:=by
 apply List.ext_getElem?
 intro i
 rw[List.getElem?_set]
 split
 ·rename_i e
  subst e
  rw[if_pos (by simpa using hy)]
  simp[hy,hx]
 rename_i e
 by_cases hi:i<n
 ·simp[hi,h i hi (fun h=>e h.symm)]
 rw[List.getElem?_eq_none (by simp;omega),List.getElem?_eq_none (by simp;omega)]
theorem BL {v:Int}(hy:y<n):wF (M.rows U e c n) y m=M.rows (M.us U v y m) e c n:=by
 unfold wF Mx.us
 split
 ·rw[iP hy]
  refine map_set hy (fun i _ hi=>?_) ?_
  ·unfold Mx.row
   rw[pZ (fun h=>hi h.symm),Th (fun h=>hi h.symm)]
  unfold Mx.row
  rw[rN,HU]
 rfl
theorem BM {v:Int}(hy:y<n):wG (M.rows U e c n) U v y m=M.us U v y m:=by
 unfold wG Mx.us
 rw[iP hy]
 rfl
theorem Yj {q:Rat}(hy:y<n) (h:∀i,i<n→i≠y→e i=e' i) (hq:e' y=q):(M.rows U e c n).set y ⟨M.los y,M.lim y,fM U y,M.tax U y,q,c y⟩=M.rows U e' c n:=
 map_set hy (fun i hi hn=>by unfold Mx.row;rw[h i hi hn]) (by unfold Mx.row;rw[hq])
theorem Yl {q:Rat}(hy:y<n) (h:∀i,i<n→i≠y→c i=c' i) (hq:c' y=q):(M.rows U e c n).set y ⟨M.los y,M.lim y,fM U y,M.tax U y,e y,q⟩=M.rows U e c' n:=
 map_set hy (fun i hi hn=>by unfold Mx.row;rw[h i hi hn]) (by unfold Mx.row;rw[hq])
theorem Gj (h:∀i,i<n→e i=e' i) (h':∀i,i<n→c i=c' i):M.rows U e c n=M.rows U e' c' n:=by
 refine List.map_congr_left fun i hi=>?_
 have:=List.mem_range.1 hi
 unfold Mx.row
 rw[h i this,h' i this]
theorem Ub:M.rows U e c n++[M.row U e c n]=M.rows U e c (n+1):=by simp[Mx.rows,List.range_succ]
end
def Mu (D:Nat) (q:Rat):Prop:=∃k:Int,q*(D:Rat)=(k:Rat)
section
variable {D E:Nat}{p q:Rat}
theorem Mu.zero:Mu D 0:=⟨0,by simp⟩
theorem Mu.add (h:Mu D p) (h':Mu D q):Mu D (p+q):=by
 obtain⟨a,ha⟩:=h
 obtain⟨b,hb⟩:=h'
 exact⟨a+b,by rw[Rat.add_mul,ha,hb,Rat.intCast_add]⟩
theorem Mu.neg (h:Mu D p):Mu D (-p):=by
 obtain⟨a,ha⟩:=h
 exact⟨-a,by rw[Rat.neg_mul,ha,Rat.intCast_neg]⟩
theorem Mu.sub (h:Mu D p) (h':Mu D q):Mu D (p-q):=by
 rw[Rat.sub_eq_add_neg]
 exact h.add h'.neg
theorem Mu.mul (h:Mu D p) (h':Mu E q):Mu (D*E) (p*q):=by
 obtain⟨a,ha⟩:=h
 obtain⟨b,hb⟩:=h'
 refine⟨a*b,?_⟩
 rw[Rat.intCast_mul,←ha,←hb,Rat.natCast_mul]
 grind
theorem Mu.up (h:Mu D p):Mu (E*D) p:=by
 obtain⟨a,ha⟩:=h
 refine⟨(E:Int)*a,?_⟩
 rw[Rat.intCast_mul,←ha,Rat.natCast_mul]
 show p*((E:Rat)*(D:Rat))=((E:Int):Rat)*(p*(D:Rat))
 have:((E:Int):Rat)=(E:Rat):=rfl
 grind
theorem Mu.up' (h:Mu D p):Mu (D*E) p:=by
 rw[Nat.mul_comm]
 exact h.up
theorem NW (q:Rat):q*(q.den:Rat)=(q.num:Rat):=by
 have h:=Rat.num_divInt_den q
 have h2:Rat.divInt q.num (q.den:Int)=(q.num:Rat)/((q.den:Int):Rat):=Rat.divInt_eq_div _ _
 have h3:((q.den:Int):Rat)=(q.den:Rat):=rfl
 have h4:(q.den:Rat)≠0:=by
  have:=q.den_pos
  intro h
  have:q.den=0:=by exact_mod_cast h
  omega
 rw[h2,h3]at h
 have h6:(q.num:Rat)/(q.den:Rat)*(q.den:Rat)=(q.num:Rat):=Rat.div_mul_cancel h4
 rwa[h]at h6
theorem Mu.self (p:Rat):Mu p.den p:=⟨p.num,NW p⟩
theorem Mu.abv (h:Mu D p):Mu D (abv p):=by
 rw[mG]
 split
 ·exact .zero
 exact h
theorem Mu.min (h:Mu D p) (h':Mu D q):Mu D (bC p [q]):=by
 rw[Ad]
 split
 ·exact h'
 exact h
theorem Mu.sz {L B:Nat}(h:Mu D p) (h0:0≤p) (hB:p≤(B:Rat)) (hD:0<D) (hL:(dg 4294967296 B).length+(dg 4294967296 D).length≤L):Sz L p:=by
 obtain⟨k,hk⟩:=h
 have hD':(0:Rat)<(D:Rat):=by exact_mod_cast hD
 have hp:p=Rat.divInt k D:=by
  have h2:Rat.divInt k (D:Int)=(k:Rat)/((D:Int):Rat):=Rat.divInt_eq_div k D
  rw[h2,←hk,show(((D:Nat):Int):Rat)=(D:Rat) from rfl,Rat.mul_div_cancel (by grind)]
 have h1:(0:Rat)≤(k:Rat):=by rw[←hk];exact Rat.mul_nonneg h0 (by grind)
 have hk0:0≤k:=by exact_mod_cast h1
 have h3:(k:Rat)≤((B:Rat)*(D:Rat)):=by rw[←hk];exact Rat.mul_le_mul_of_nonneg_right hB (by grind)
 have h4:(k:Rat)≤(((B*D:Nat):Int):Rat):=by
  have e:(((B*D:Nat):Int):Rat)=(B:Rat)*(D:Rat):=by
   show((B*D:Nat):Rat)=_
   exact Rat.natCast_mul ..
  rw[e]
  exact h3
 have h5:k≤((B*D:Nat):Int):=by exact_mod_cast h4
 obtain⟨e1,e2⟩:=pG (a:=k) (b:=D) (L:=L) (M:=L) (by omega) (Nat.le_trans (jG (show k.natAbs≤B*D by omega)) (Nat.le_trans (nY B D) hL)) (by unfold uO;rw[Int.natAbs_natCast];omega)
 rw[hp]
 exact⟨e1,e2⟩
end
section
variable {x y:Zi}{k k':Int}
theorem Xl (h:Zn x k) (h':Zn y k') (h0:k'≠0):aE true Tryz.prog 115 [] [gF x,gF y] (aO (qO (Rat.divInt k k'))):=yL h.g h'.g h0
theorem CB {a:Fr4}{p:Rat}(h:Qn a p):aE true Tryz.prog 72 [] [qF a] (aO (qO (-p))):=Xi h
theorem EA (p q:Rat):Rat.divInt (p.num*q.num) ((p.den:Int)*(q.den:Int))=p*q:=by
 rw[←Rat.divInt_mul_divInt,Rat.num_divInt_den,Rat.num_divInt_den]
theorem oZ {L M:Nat}{p q:Rat}(hp:Sz L p) (hq:Sz M q):Sz (L+M) (p*q):=by
 rw[←EA p q]
 have h5:=pG (Int.mul_pos (show(0:Int)<p.den by have:=p.den_pos;omega) (show(0:Int)<q.den by have:=q.den_pos;omega)) (uP hp.1 hq.1) (uP (Aa hp) (Aa hq))
 exact⟨h5.1,h5.2⟩
theorem Hf (p:Rat) (l:List Rat) (q:Rat):kI p (l++[q])=if kI p l<q then q else kI p l:=by
 unfold kI
 rw[List.foldl_append]
 rfl
theorem eS {L:Nat}{p:Rat}(h:Sz L p) (hL:2≤L):Sz L (abv p):=by
 rw[mG]
 split
 ·exact(lC (z:=0) (by omega) (by omega)).mono (by omega)
 exact h
theorem den_nz (p q:Rat):(p.den:Int)*(q.den:Int)≠0:=by
 have h1:=p.den_pos
 have h2:=q.den_pos
 exact Int.ne_of_gt (Int.mul_pos (by omega) (by omega))
end
end Go.Proofs.YthoemjjmkgmnjaaGreat
