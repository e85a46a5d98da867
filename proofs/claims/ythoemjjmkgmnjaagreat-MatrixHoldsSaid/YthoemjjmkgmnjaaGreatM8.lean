/- Part 8 of a proof: G1 to Mb. -/
import Derived.Test.YthoemjjmkgmnjaaGreatM7
import Derived.Test.YthoemjjmkgmnjaaGreatM6
import Derived.Test.YthoemjjmkgmnjaaGreatM5
set_option maxRecDepth 100000
set_option linter.unusedVariables false
set_option linter.unusedSimpArgs false
namespace Go.Proofs.YthoemjjmkgmnjaaGreat
open Go Go.RowKit
def Zg (a:Zi) (k:Int):Prop:=Lim 4294967296 a.x∧a.x.length≤300000000000∧eI a.s a.x=k
theorem Zn.g {a:Zi}{k:Int}(h:Zn a k):Zg a k:=⟨h.1,Nat.le_trans h.2.1 (by omega),h.2.2⟩
theorem Zg.of {k:Int}(h:(dg 4294967296 k.natAbs).length≤300000000000):Zg (.of k) k:=⟨aS (by omega) _,h,yZ k⟩
theorem Zg.len {a:Zi}{k:Int}(h:Zg a k):(dg 4294967296 k.natAbs).length≤300000000000:=by
 obtain⟨h1,h2,rfl⟩:=h
 exact Nat.le_trans (Aw h1) h2
theorem Zg.wrong {a:Zi}{k:Int}(h:Zg a k) (hr:dK a.s a.x=false):k=0:=by
 obtain⟨h1,h2,rfl⟩:=h
 exact Ey hr
theorem Zd {a:Zi}{k:Int}(h:Zg a k) (hr:dK a.s a.x=true):gF a=kF k:=by
 obtain⟨h1,h2,rfl⟩:=h
 unfold gF kF
 rw[Av h1 hr,qY h1 hr]
theorem Hf {a:Zi}{k:Int}(ha:Zg a k):aE true Tryz.prog 120 [] [gF a] (aN (.one (tv (.bool (dK a.s a.x))))):=by
 refine bC Tryz.func120 rfl Tryz.ntmps120 rfl aA rfl fun N w c0 h0=>?_
 have hal:=ha.2.1
 refine sq ?_;refine rl ?_;refine bx 0 ?_;refine o1 ?_;refine nl ?_;refine sq ?_;refine rl ?_;refine o1 ?_;refine ld ?_;refine o1 ?_;refine o1 ?_;refine nl ?_;refine sq ?_;refine rl ?_
 (iterate 3 refine o1 ?_);refine WL.split (t:=9) rfl (fun h1=>?_) (fun h1=>?_)
 ·refine o1 ?_;refine ld ?_;refine WL.splitb (t:=11) rfl (fun h2=>?_) (fun h2=>?_)
  ·(iterate 6 refine o1 ?_);refine WL.split (t:=17) rfl (fun h3=>?_) (fun h3=>?_)
   ·refine o1 ?_;refine ld ?_;refine o1 ?_;refine o1 ?_;refine WL.cast (t:=21) (u':=.int .i64 ((a.x.length-1:Nat):Int)) rfl (aH (by omega)) ?_
    refine o1 ?_;refine cW ([.v (.int .u32 ((nth a.x (a.x.length-1):Nat):Int))]) (rI a.x (k:=a.x.length-1) (by omega)) ?_
    (iterate 4 refine o1 ?_);refine nl ?_;refine rt ?_;refine en (.inl rfl) rfl (aO (bL _)) (by decide) (fun _=>trivial) (congrArg (fun b=>FV.one (tv (.bool b))) ?_)
    rw[nW (by omega)];simp_all
   (iterate 7 refine bF ?_);(iterate 3 refine o1 ?_);refine nl ?_;refine rt ?_
   refine en (.inl rfl) rfl (aO (bL _)) (by decide) (fun _=>trivial) (congrArg (fun b=>FV.one (tv (.bool b))) ?_)
   rw[nW (by omega)];simp_all
  (iterate 3 refine o1 ?_);(iterate 11 refine bF ?_);refine o1 ?_;refine o1 ?_;refine nl ?_;refine rt ?_
  refine en (.inl rfl) rfl (aO (bL _)) (by decide) (fun _=>trivial) (congrArg (fun b=>FV.one (tv (.bool b))) ?_)
  rw[nW (by omega)];simp_all
 (iterate 3 refine bF ?_);(iterate 5 refine o1 ?_);refine WL.split (t:=17) rfl (fun h4=>?_) (fun h4=>?_)
 ·refine o1 ?_;refine ld ?_;refine o1 ?_;refine o1 ?_;refine WL.cast (t:=21) (u':=.int .i64 ((a.x.length-1:Nat):Int)) rfl (aH (by omega)) ?_
  refine o1 ?_;refine cW ([.v (.int .u32 ((nth a.x (a.x.length-1):Nat):Int))]) (rI a.x (k:=a.x.length-1) (by omega)) ?_
  (iterate 4 refine o1 ?_);refine nl ?_;refine rt ?_;refine en (.inl rfl) rfl (aO (bL _)) (by decide) (fun _=>trivial) (congrArg (fun b=>FV.one (tv (.bool b))) ?_)
  first | exact(vZ rfl (by omega)).symm | (unfold dK;simp_all;try omega)
 (iterate 7 refine bF ?_);(iterate 3 refine o1 ?_);refine nl ?_;refine rt ?_
 refine en (.inl rfl) rfl (aO (bL _)) (by decide) (fun _=>trivial) (congrArg (fun b=>FV.one (tv (.bool b))) ?_)
 first | exact(vZ rfl (by omega)).symm | (unfold dK;simp_all;try omega)
theorem eF {a:Zi}{k:Int}(ha:Zg a k):aE false Tryz.prog 151 [] [gF a] (aN (kF k)):=by
 refine bC Tryz.func151 rfl Tryz.ntmps151 rfl aA rfl fun N w c0 h0=>?_
 refine sq ?_;refine rl ?_;refine bx 0 ?_;refine al 1 ?_;refine nl ?_;refine sq ?_;refine sq ?_;refine rl ?_;refine ld ?_
 refine ca (Hf ha) Uk ⟨aB rfl,rfl⟩ (.one (tv (.bool (dK a.s a.x)))) ?_;refine WL.splitb (t:=4) rfl (fun h1=>?_) (fun h1=>?_)
 ·refine o1 ?_;refine nl ?_;refine iH rfl ?_;refine sk ?_;refine sq ?_;refine rl ?_;refine ld ?_;refine o1 ?_;refine st ?_;refine nl ?_;refine rt ?_
  exact en (.inl rfl) rfl (aO (.agg (.read _ (l:=[.v (.bool a.s),sU false a.x]) rfl))) (by decide) (fun h=>by cases h) (Zd ha h1)
 refine o1 ?_;refine nl ?_;refine gL rfl ?_;refine sq ?_;refine rl ?_;refine o1 ?_;refine st ?_;refine nl ?_;refine rt ?_
 exact en (.inl rfl) rfl (aO (.agg (.cons (.id rfl) (.cons .nilf .nil)))) (by decide) (fun h=>by cases h) (by rw[ha.wrong h1];exact Fo)
theorem Ze {b:Bool}{m:Nat}{K:Int}(hK:bT b m=K):aE false Tryz.prog 148 [] [.one (tv (.bool b)),.one (.t (sU false (dg 4294967296 m)))] (aN (kF K)):=by
 refine bC Tryz.func148 rfl Tryz.ntmps148 rfl aA rfl fun N w c0 h0=>?_
 refine sq ?_;refine rl ?_;refine al 0 ?_;refine nl ?_;refine sq ?_;refine rl ?_;refine o1 ?_;refine o1 ?_;refine WL.splitb (t:=6) rfl (fun h1=>?_) (fun h1=>?_)
 ·(iterate 6 refine o1 ?_);refine st ?_;refine nl ?_;refine rt ?_
  exact en (.inl rfl) rfl (aO (.agg (.cons (.id rfl) (.cons (.id rfl) .nil)))) (by decide) (fun h=>by cases h) (hK▸congrArg Bm (wA (by rw[vH,h1,Bool.true_and,←nQ (m:=m) rfl];exact decide_eq_decide.2 (by omega)) (kC _ _).symm))
 (iterate 3 refine bF ?_);(iterate 3 refine o1 ?_);refine st ?_;refine nl ?_;refine rt ?_
 exact en (.inl rfl) rfl (aO (.agg (.cons (.id rfl) (.cons (.id rfl) .nil)))) (by decide) (fun h=>by cases h) (hK▸congrArg Bm (wA (by rw[vH,h1];rfl) (kC _ _).symm))
theorem jF {b:Bool}{m:Nat}{K:Int}(hK:bT b m=K):wW false Tryz.prog 148 [⟨109,1,(aV (dg 4294967296 m)).map .t⟩] [.one (tv (.bool b)),.one (.sl 0 0 (dg 4294967296 m).length)] (· =kO K):=by
 refine ZH Tryz.func148 rfl Tryz.ntmps148 rfl aA rfl fun N M w c0 h0=>?_
 refine sq ?_;refine rl ?_;refine al 1 ?_;refine nl ?_;refine sq ?_;refine rl ?_;refine o1 ?_;refine o1 ?_;refine WL.splitb (t:=6) rfl (fun h1=>?_) (fun h1=>?_)
 ·(iterate 6 refine o1 ?_);refine st ?_;refine nl ?_;refine rt ?_
  exact oP (en (.inl rfl) rfl (aO (.agg (.cons (.id rfl) (.cons (.sl (trs:=aV (dg 4294967296 m)) rfl rfl (bB _) (aY _)) .nil)))) (by decide) (fun h=>by cases h) (hK▸wA (by rw[vH,h1,Bool.true_and,←nQ (m:=m) rfl];exact decide_eq_decide.2 (by omega)) (kC _ _).symm))
 (iterate 3 refine bF ?_);(iterate 3 refine o1 ?_);refine st ?_;refine nl ?_;refine rt ?_
 exact oP (en (.inl rfl) rfl (aO (.agg (.cons (.id rfl) (.cons (.sl (trs:=aV (dg 4294967296 m)) rfl rfl (bB _) (aY _)) .nil)))) (by decide) (fun h=>by cases h) (hK▸wA (by rw[vH,h1];rfl) (kC _ _).symm))
theorem Nv {k:Int}:aE false Tryz.prog 152 [] [kF k] (aN (kF (-k))):=by
 refine bC Tryz.func152 rfl Tryz.ntmps152 rfl aA rfl fun N w c0 h0=>?_
 refine sq ?_;refine rl ?_;refine bx 0 ?_;refine al 1 ?_;refine nl ?_;refine sq ?_;refine rl ?_;refine o1 ?_;refine o1 ?_;refine ld ?_;(iterate 3 refine o1 ?_);refine ld ?_
 refine ca (Ze (m:=k.natAbs) (K:=-k) (Pv k)) nC ⟨a1 rfl,a1 rfl,rfl⟩ (kF (-k)) ?_;refine o1 ?_;refine st ?_;refine nl ?_;refine rt ?_
 exact en (.inl rfl) rfl (aO (.agg (.cons (.id rfl) (.cons (.id rfl) .nil)))) (by decide) (fun h=>by cases h) rfl
theorem GJ {a:Zi}{k:Int}(ha:Zg a k):aE true Tryz.prog 112 [] [gF a] (aN (kO (-(k)))):=by
 refine bC Tryz.func112 rfl Tryz.ntmps112 rfl aA rfl fun N w c0 h0=>?_
 have hkl:=ha.len
 refine sq ?_;refine rl ?_;refine bx 0 ?_;refine al 1 ?_;refine nl ?_;refine sq ?_;refine rl ?_;refine ld ?_;refine ca (eF ha) dL ⟨aB rfl,rfl⟩ (kF (k)) ?_
 refine ca (Nv (k:=k)) FO ⟨aB rfl,rfl⟩ (kF (-(k))) ?_;refine al 2 ?_;refine st ?_;refine nl ?_;refine sq ?_;refine rd [0,1,2] (fun i=>[8].contains i) mixed ?_
 refine dv 0 ?_;refine dv 1 ?_;refine aI 2 ?_;refine dv 3 ?_;refine dv 4 ?_;refine aI 5 ?_
 refine kG 3 6 rfl (Se (aS (by omega) _) (by have:=lQ k;omega)) FP ⟨a1 rfl,rfl⟩ ?_
 refine df 7 ?_;refine dst 8 ?_;refine aJ ?_;refine rt ?_
 exact en (.inl rfl) rfl (aO (.agg (.cons (.id rfl) (.cons (.sl (trs:=aV (dg 4294967296 (-(k)).natAbs)) rfl rfl (bB _) (aY _)) .nil)))) (by decide) (fun _=>fB (-(k))) rfl
theorem US {a:Zi}{k:Int}(ha:Zg a k):aE true Tryz.prog 113 [] [gF a] (aN (kO (((k.natAbs:Nat):Int)))):=by
 refine bC Tryz.func113 rfl Tryz.ntmps113 rfl aA rfl fun N w c0 h0=>?_
 have hkl:=ha.len
 refine sq ?_;refine rl ?_;refine bx 0 ?_;refine al 1 ?_;refine nl ?_;refine sq ?_;refine rl ?_;refine ld ?_;refine ca (eF ha) dL ⟨aB rfl,rfl⟩ (kF (k)) ?_;refine o1 ?_;refine o1 ?_
 refine iI 2 (Se (aS (by omega) _) (by have:=lQ k;omega)) FP ⟨a1 rfl,rfl⟩ ?_
 refine o1 ?_;refine st ?_;refine nl ?_;refine rt ?_
 exact en (.inl rfl) rfl (aO (.agg (.cons (.id rfl) (.cons (.sl (trs:=aV (dg 4294967296 k.natAbs)) rfl rfl (bB _) (aY _)) .nil)))) (by decide) (fun _=>Fp _ _) (wA (by unfold aL;simp) (by omega))
theorem Zf {k k':Int}(hk:(dg 4294967296 k.natAbs).length≤500000000000) (hk':(dg 4294967296 k'.natAbs).length≤500000000000):aE true Tryz.prog 156 [] [kF k,kF k'] (aN (kO (k+k'))):=by
 refine bC Tryz.func156 rfl Tryz.ntmps156 rfl aA rfl fun N w c0 h0=>?_
 have hal:=Fq (xs:=dg 4294967296 k.natAbs) (ys:=dg 4294967296 k'.natAbs) (aS (by omega) _) (aS (by omega) _)
 rw[bM,bM]at hal;refine sq ?_;refine rl ?_;refine bx 0 ?_;refine bx 1 ?_;refine al 2 ?_;refine nl ?_;refine sq ?_;refine sq ?_;refine rl ?_;refine o1 ?_;refine o1 ?_
 refine ld ?_;refine o1 ?_;refine o1 ?_;refine ld ?_;refine o1 ?_;refine nl ?_;refine lL rfl (fun h1=>?_) (fun h1=>?_)
 ·refine sq ?_;refine rd [0,1,2] (fun i=>[11].contains i) mixed ?_
  refine dv 0 ?_;refine dv 1 ?_;refine aI 2 ?_;refine dv 3 ?_;refine dv 4 ?_;refine aI 5 ?_;refine dv 6 ?_;refine dv 7 ?_;refine aI 8 ?_
  have hA:aE true Tryz.prog 175 [] [.one (.t (sU false (dg 4294967296 k.natAbs))),.one (.t (sU false (dg 4294967296 k'.natAbs)))] (aN (.one (.t (sU true (dg 4294967296 (k.natAbs+k'.natAbs)))))):=by have h9:=GH (aS (by omega) k.natAbs) (aS (by omega) k'.natAbs) (by omega) (by omega);rwa[bM,bM]at h9
  refine kG 3 9 rfl hA FT ⟨a1 rfl,a1 rfl,rfl⟩ ?_
  refine Fa 10 4 [3] rfl (jF (m:=(k.natAbs+k'.natAbs)) (K:=k+k') (Hv rfl (eq_of_beq h1))) nC ⟨aQ rfl,rfl⟩ ⟨rfl,rfl,rfl⟩ ⟨rfl,rfl,rfl,trivial⟩ ?_;refine dst 11 ?_
  refine aJ ?_;refine rt ?_
  exact en (.inl rfl) rfl (aO (.agg (.cons (.id rfl) (.cons (.sl (trs:=aV (dg 4294967296 (k+k').natAbs)) rfl rfl (bB _) (aY _)) .nil)))) (by decide) (fun _=>fB (k+k')) rfl
 refine sk ?_;refine sq ?_;refine sq ?_;refine rl ?_;refine o1 ?_;refine o1 ?_;refine ld ?_;refine o1 ?_;refine o1 ?_;refine ld ?_
 refine ca (UN (aS (by omega) _) (aS (by omega) _)) UI ⟨a1 rfl,a1 rfl,rfl⟩ (.one (tv (.int .i64 (oH (vl 4294967296 (dg 4294967296 (k).natAbs)) (vl 4294967296 (dg 4294967296 (k').natAbs)))))) ?_
 refine o1 ?_;refine nl ?_;refine bP rfl (fun h2=>?_) (fun h2=>?_)
 ·refine rl ?_;refine ld ?_;refine ld ?_;refine st ?_;refine st ?_;refine nl ?_;refine sq ?_;refine rl ?_;refine o1 ?_;refine o1 ?_;refine ld ?_;refine o1 ?_;refine o1 ?_;refine ld ?_
  have hlt:k.natAbs<k'.natAbs:=Decidable.byContradiction fun h8=>by rw[bM,bM]at h2;rcases Nat.lt_or_ge k'.natAbs k.natAbs with h7 | h7;(rw[nP h7]at h2;omega);(rw[vE (by omega)]at h2;omega)
  have hS:aE true Tryz.prog 176 [] [.one (.t (sU false (dg 4294967296 k'.natAbs))),.one (.t (sU false (dg 4294967296 k.natAbs)))] (aN (.tup [.one (.t (sU true (dg 4294967296 (k'.natAbs-k.natAbs)))),.one (tv (.int .i64 0))])):=by have h9:=Uy (aS (by omega) k'.natAbs) (aS (by omega) k.natAbs) (by omega) (by rw[bM,bM];omega);rwa[bM,bM]at h9
  refine iI 3 hS Ul ⟨a1 rfl,a1 rfl,rfl⟩ ?_;(iterate 5 refine o1 ?_);refine nl ?_;refine sq ?_;refine rl ?_;refine o1 ?_;refine o1 ?_;refine ld ?_;refine o1 ?_
  refine cm 4 [3] (jF (m:=(k'.natAbs-k.natAbs)) (K:=k+k') (Py rfl (ne_of_beq_false h1) hlt)) nC ⟨aQ rfl,rfl⟩ ⟨rfl,rfl,rfl⟩ ?_;refine st ?_;refine nl ?_;refine rt ?_
  exact en (.inl rfl) rfl (aO (.agg (.cons (.id rfl) (.cons (.sl (trs:=aV (dg 4294967296 (k+k').natAbs)) rfl rfl (bB _) (aY _)) .nil)))) (by decide) (fun _=>fB (k+k')) rfl
 refine sk ?_;refine sq ?_;refine rl ?_;refine o1 ?_;refine o1 ?_;refine ld ?_;refine o1 ?_;refine o1 ?_;refine ld ?_
 have hlt:¬k.natAbs<k'.natAbs:=fun h8=>h2 (by rw[bM,bM,qX h8];omega)
 have hS:aE true Tryz.prog 176 [] [.one (.t (sU false (dg 4294967296 k.natAbs))),.one (.t (sU false (dg 4294967296 k'.natAbs)))] (aN (.tup [.one (.t (sU true (dg 4294967296 (k.natAbs-k'.natAbs)))),.one (tv (.int .i64 0))])):=by have h9:=Uy (aS (by omega) k.natAbs) (aS (by omega) k'.natAbs) (by omega) (by rw[bM,bM];omega);rwa[bM,bM]at h9
 refine iI 3 hS Ul ⟨a1 rfl,a1 rfl,rfl⟩ ?_;(iterate 5 refine o1 ?_);refine nl ?_;refine sq ?_;refine rl ?_;refine o1 ?_;refine o1 ?_;refine ld ?_;refine o1 ?_
 refine cm 4 [3] (jF (m:=(k.natAbs-k'.natAbs)) (K:=k+k') (Px rfl (ne_of_beq_false h1) hlt)) nC ⟨aQ rfl,rfl⟩ ⟨rfl,rfl,rfl⟩ ?_;refine st ?_;refine nl ?_;refine rt ?_
 exact en (.inl rfl) rfl (aO (.agg (.cons (.id rfl) (.cons (.sl (trs:=aV (dg 4294967296 (k+k').natAbs)) rfl rfl (bB _) (aY _)) .nil)))) (by decide) (fun _=>fB (k+k')) rfl
theorem GK {a b:Zi}{k k':Int}(ha:Zg a k) (hb:Zg b k'):aE true Tryz.prog 150 [] [gF a,gF b] (aN (kO (k+k'))):=by
 refine bC Tryz.func150 rfl Tryz.ntmps150 rfl aA rfl fun N w c0 h0=>?_
 have hkl:=ha.len
 have hkl':=hb.len
 refine sq ?_;refine rl ?_;refine bx 0 ?_;refine bx 1 ?_;refine al 2 ?_;refine nl ?_;refine sq ?_;refine rd [0,1,2] (fun i=>[5].contains i) mixed ?_
 refine aI 0 ?_;refine aI 2 ?_;refine aF 1 rfl (eF ha) dL ⟨aB rfl,rfl⟩ (kF (k)) ?_;refine aF 3 rfl (eF hb) dL ⟨aB rfl,rfl⟩ (kF (k')) ?_
 refine kG 3 4 rfl (Zf (k:=k) (k':=k') (by omega) (by omega)) FQ ⟨aB rfl,aB rfl,rfl⟩ ?_
 refine dst 5 ?_;refine aJ ?_;refine rt ?_
 exact en (.inl rfl) rfl (aO (.agg (.cons (.id rfl) (.cons (.sl (trs:=aV (dg 4294967296 ((k+k')).natAbs)) rfl rfl (bB _) (aY _)) .nil)))) (by decide) (fun _=>fB ((k+k'))) rfl
theorem UT {a b:Zi}{k k':Int}(ha:Zg a k) (hb:Zg b k'):aE true Tryz.prog 118 [] [gF a,gF b] (aN (kO (k-k'))):=by
 refine bC Tryz.func118 rfl Tryz.ntmps118 rfl aA rfl fun N w c0 h0=>?_
 have hkl:=ha.len
 have hkl':=hb.len
 have hkn:=lQ k'
 refine sq ?_;refine rl ?_;refine bx 0 ?_;refine bx 1 ?_;refine al 2 ?_;refine nl ?_;refine sq ?_;refine rd [0,1,2] (fun i=>[6].contains i) mixed ?_
 refine aI 0 ?_;refine aI 2 ?_;refine aF 1 rfl (eF ha) dL ⟨aB rfl,rfl⟩ (kF (k)) ?_;refine aF 3 rfl (eF hb) dL ⟨aB rfl,rfl⟩ (kF (k')) ?_
 refine aF 4 rfl (Nv (k:=k')) FO ⟨aB rfl,rfl⟩ (kF (-(k'))) ?_;refine kG 3 5 rfl (Zf (k:=k) (k':=(-(k'))) (by omega) (by omega)) FQ ⟨aB rfl,aB rfl,rfl⟩ ?_
 refine dst 6 ?_;refine aJ ?_;refine rt ?_
 exact en (.inl rfl) rfl (aO (.agg (.cons (.id rfl) (.cons (.sl (trs:=aV (dg 4294967296 ((k+(-(k')))).natAbs)) rfl rfl (bB _) (aY _)) .nil)))) (by decide) (fun _=>fB ((k+(-(k'))))) (by rw[Int.sub_eq_add_neg];rfl)
theorem Fb {a:Zi}{k:Int}(ha:Zg a k):aE true Tryz.prog 117 [] [gF a] (aN (.one (tv (.int .i64 k.sign)))):=by
 refine bC Tryz.func117 rfl Tryz.ntmps117 rfl aA rfl fun N w c0 h0=>?_
 refine sq ?_;refine rl ?_;refine bx 0 ?_;refine o1 ?_;refine nl ?_;refine sq ?_;refine sq ?_;refine rl ?_;refine ld ?_;refine ca (eF ha) dL ⟨aB rfl,rfl⟩ (kF (k)) ?_;refine al 1 ?_
 refine st ?_;refine nl ?_;refine bl ?_;refine sq ?_;refine rl ?_;refine o1 ?_;refine o1 ?_;refine ld ?_;refine o1 ?_;refine nl ?_;refine lL rfl (fun h1=>?_) (fun h1=>?_)
 ·refine sq ?_;refine rl ?_;refine o1 ?_;refine nl ?_;refine rt ?_;refine en (.inl rfl) rfl (aO (bL _)) (by decide) (fun _=>trivial) (congrArg (fun z=>FV.one (tv (.int .i64 z))) ?_)
  have h9:k<0:=of_decide_eq_true h1
  exact(Int.sign_eq_neg_one_of_neg h9).symm
 refine sq ?_;refine rl ?_;refine o1 ?_;refine o1 ?_;refine ld ?_;(iterate 3 refine o1 ?_);refine nl ?_;refine bP rfl (fun h2=>?_) (fun h2=>?_)
 ·refine sq ?_;refine rl ?_;refine o1 ?_;refine nl ?_;refine rt ?_;refine en (.inl rfl) rfl (aO (bL _)) (by decide) (fun _=>trivial) (congrArg (fun z=>FV.one (tv (.int .i64 z))) ?_)
  have h9:¬k<0:=of_decide_eq_false h1
  have h8:=nQ (m:=k.natAbs) rfl
  have h7:decide (0<k.natAbs)=true:=by rw[←h8];exact decide_eq_true (by omega)
  have h6:=of_decide_eq_true h7
  exact(Int.sign_eq_one_of_pos (by omega)).symm
 refine sk ?_;refine sq ?_;refine rl ?_;refine o1 ?_;refine nl ?_;refine rt ?_
 refine en (.inl rfl) rfl (aO (bL _)) (by decide) (fun _=>trivial) (congrArg (fun z=>FV.one (tv (.int .i64 z))) ?_)
 have h9:¬k<0:=of_decide_eq_false h1
 have h8:=nQ (m:=k.natAbs) rfl
 have h7:decide (0<k.natAbs)=false:=by rw[←h8];exact decide_eq_false (by omega)
 have h6:=of_decide_eq_false h7
 obtain rfl:k=0:=by omega
 rfl
theorem Va {a b:Zi}{k k':Int}(ha:Zg a k) (hb:Zg b k') (hs:(dg 4294967296 (k-k').natAbs).length≤300000000000):aE true Tryz.prog 76 [] [gF a,gF b] (aN (.one (tv (.int .i64 (k-k').sign)))):=by
 refine bC Tryz.func76 rfl Tryz.ntmps76 rfl aA rfl fun N w c0 h0=>?_
 have hkl:=ha.2.1;have hkl2:=ha.len;have hkl3:=hb.len
 refine sq ?_;refine rl ?_;refine bx 0 ?_;refine bx 1 ?_;refine o1 ?_;refine nl ?_;refine sq ?_;refine rl ?_;refine ld ?_;refine ld ?_
 refine ca (UT ha hb) TY ⟨aB rfl,aB rfl,rfl⟩ (kF (k-k')) ?_;refine ca (Fb (Zg.of (k:=k-k') hs)) Jm ⟨aB rfl,rfl⟩ (.one (tv (.int .i64 (k-k').sign))) ?_;refine o1 ?_
 refine nl ?_;refine rt ?_;exact en (.inl rfl) rfl (aO (bL _)) (by decide) (fun _=>trivial) rfl
theorem Jp {a b:Zi}{k k':Int}(ha:Zg a k) (hb:Zg b k'):aE true Tryz.prog 116 [] [gF a,gF b] (aN (kO (k*k'))):=by
 refine bC Tryz.func116 rfl Tryz.ntmps116 rfl aA rfl fun N w c0 h0=>?_
 have hkl:=ha.len
 have hkl':=hb.len
 refine sq ?_;refine rl ?_;refine bx 0 ?_;refine bx 1 ?_;refine al 2 ?_;refine nl ?_
 refine md (γ:=Unit) (fun _=>bS [(4,.one (.pt 0 0)),(5,.one (.pt 1 0)),(6,.one (.pt 2 0))]) (fun _=>([⟨24,0,[tv (.bool false),tv (.slice none 0 0)]⟩,⟨192,0,[tv (.bool (aL k)),.t (sU false (dg 4294967296 k.natAbs))]⟩,⟨192,0,[tv (.bool (aL k')),.t (sU false (dg 4294967296 k'.natAbs))]⟩]:List Ob).map some) (fun _=>True) ?_ fun _ _=>?_
 ·refine rd [0,1,2] (fun i=>[7].contains i) mixed ?_
  refine aI 0 ?_;refine aI 2 ?_;refine WO.three (i:=1) (j:=4) (m:=5) (by kernel_rfl) ?_ ?_ ?_
  ·refine cX 1 rfl (eF ha) dL ⟨aB rfl,rfl⟩ (kF (k)) ?_;refine WO.three (i:=3) (j:=4) (m:=5) (by kernel_rfl) ?_ ?_ ?_
   ·refine cX 3 rfl (eF hb) dL ⟨aB rfl,rfl⟩ (kF (k')) ?_;refine WO.two (i:=4) (j:=5) (by kernel_rfl) ?_ ?_
    ·refine bI (key:=3) 4 rfl rfl aA rfl ⟨rfl,rfl,rfl,trivial⟩ ?_;refine eN (key:=4) 5 (by kernel_rfl) rfl rfl aA rfl ⟨rfl,rfl,rfl,trivial⟩ ?_
     refine aX 6 (by kernel_rfl) rfl rfl aA rfl rfl rfl rfl ⟨rfl,rfl,rfl,trivial⟩ ?_
     refine dst 7 ?_;refine aJ ?_;exact⟨(),trivial,aG h0 [2,3,4] _ _ (by decide) ⟨rfl,rfl,rfl,trivial⟩ ⟨oe rfl rfl,oe rfl rfl,oe rfl rfl,rfl⟩⟩
    refine bI (key:=3) 5 rfl rfl aA rfl ⟨rfl,rfl,rfl,trivial⟩ ?_;refine eN (key:=4) 4 (by kernel_rfl) rfl rfl aA rfl ⟨rfl,rfl,rfl,trivial⟩ ?_
    refine aX 6 (by kernel_rfl) rfl rfl aA rfl rfl rfl rfl ⟨rfl,rfl,rfl,trivial⟩ ?_
    refine dst 7 ?_;refine aJ ?_;exact⟨(),trivial,aG h0 [2,4,3] _ _ (by decide) ⟨rfl,rfl,rfl,trivial⟩ ⟨oe rfl rfl,oe rfl rfl,oe rfl rfl,rfl⟩⟩
   ·refine bI (key:=3) 4 rfl rfl aA rfl ⟨rfl,rfl,rfl,trivial⟩ ?_;refine WO.two (i:=3) (j:=5) (by kernel_rfl) ?_ ?_
    ·refine cX 3 rfl (eF hb) dL ⟨aB rfl,rfl⟩ (kF (k')) ?_;refine eN (key:=4) 5 (by kernel_rfl) rfl rfl aA rfl ⟨rfl,rfl,rfl,trivial⟩ ?_
     refine aX 6 (by kernel_rfl) rfl rfl aA rfl rfl rfl rfl ⟨rfl,rfl,rfl,trivial⟩ ?_
     refine dst 7 ?_;refine aJ ?_;exact⟨(),trivial,aG h0 [2,3,4] _ _ (by decide) ⟨rfl,rfl,rfl,trivial⟩ ⟨oe rfl rfl,oe rfl rfl,oe rfl rfl,rfl⟩⟩
    refine bI (key:=4) 5 rfl rfl aA rfl ⟨rfl,rfl,rfl,trivial⟩ ?_;refine aF 3 rfl (eF hb) dL ⟨aB rfl,rfl⟩ (kF (k')) ?_
    refine aX 6 (by kernel_rfl) rfl rfl aA rfl rfl rfl rfl ⟨rfl,rfl,rfl,trivial⟩ ?_
    refine dst 7 ?_;refine aJ ?_;exact⟨(),trivial,aG h0 [2,3,4] _ _ (by decide) ⟨rfl,rfl,rfl,trivial⟩ ⟨oe rfl rfl,oe rfl rfl,oe rfl rfl,rfl⟩⟩
   refine bI (key:=3) 5 rfl rfl aA rfl ⟨rfl,rfl,rfl,trivial⟩ ?_;refine WO.two (i:=3) (j:=4) (by kernel_rfl) ?_ ?_
   ·refine cX 3 rfl (eF hb) dL ⟨aB rfl,rfl⟩ (kF (k')) ?_;refine eN (key:=4) 4 (by kernel_rfl) rfl rfl aA rfl ⟨rfl,rfl,rfl,trivial⟩ ?_
    refine aX 6 (by kernel_rfl) rfl rfl aA rfl rfl rfl rfl ⟨rfl,rfl,rfl,trivial⟩ ?_
    refine dst 7 ?_;refine aJ ?_;exact⟨(),trivial,aG h0 [2,4,3] _ _ (by decide) ⟨rfl,rfl,rfl,trivial⟩ ⟨oe rfl rfl,oe rfl rfl,oe rfl rfl,rfl⟩⟩
   refine bI (key:=4) 4 rfl rfl aA rfl ⟨rfl,rfl,rfl,trivial⟩ ?_;refine aF 3 rfl (eF hb) dL ⟨aB rfl,rfl⟩ (kF (k')) ?_
   refine aX 6 (by kernel_rfl) rfl rfl aA rfl rfl rfl rfl ⟨rfl,rfl,rfl,trivial⟩ ?_
   refine dst 7 ?_;refine aJ ?_;exact⟨(),trivial,aG h0 [2,4,3] _ _ (by decide) ⟨rfl,rfl,rfl,trivial⟩ ⟨oe rfl rfl,oe rfl rfl,oe rfl rfl,rfl⟩⟩
  ·refine bI (key:=3) 4 rfl rfl aA rfl ⟨rfl,rfl,rfl,trivial⟩ ?_;refine WO.two (i:=1) (j:=5) (by kernel_rfl) ?_ ?_
   ·refine cX 1 rfl (eF ha) dL ⟨aB rfl,rfl⟩ (kF (k)) ?_;refine WO.two (i:=3) (j:=5) (by kernel_rfl) ?_ ?_
    ·refine cX 3 rfl (eF hb) dL ⟨aB rfl,rfl⟩ (kF (k')) ?_;refine eN (key:=4) 5 (by kernel_rfl) rfl rfl aA rfl ⟨rfl,rfl,rfl,trivial⟩ ?_
     refine aX 6 (by kernel_rfl) rfl rfl aA rfl rfl rfl rfl ⟨rfl,rfl,rfl,trivial⟩ ?_
     refine dst 7 ?_;refine aJ ?_;exact⟨(),trivial,aG h0 [2,3,4] _ _ (by decide) ⟨rfl,rfl,rfl,trivial⟩ ⟨oe rfl rfl,oe rfl rfl,oe rfl rfl,rfl⟩⟩
    refine bI (key:=4) 5 rfl rfl aA rfl ⟨rfl,rfl,rfl,trivial⟩ ?_;refine aF 3 rfl (eF hb) dL ⟨aB rfl,rfl⟩ (kF (k')) ?_
    refine aX 6 (by kernel_rfl) rfl rfl aA rfl rfl rfl rfl ⟨rfl,rfl,rfl,trivial⟩ ?_
    refine dst 7 ?_;refine aJ ?_;exact⟨(),trivial,aG h0 [2,3,4] _ _ (by decide) ⟨rfl,rfl,rfl,trivial⟩ ⟨oe rfl rfl,oe rfl rfl,oe rfl rfl,rfl⟩⟩
   refine bI (key:=4) 5 rfl rfl aA rfl ⟨rfl,rfl,rfl,trivial⟩ ?_;refine aF 1 rfl (eF ha) dL ⟨aB rfl,rfl⟩ (kF (k)) ?_;refine aF 3 rfl (eF hb) dL ⟨aB rfl,rfl⟩ (kF (k')) ?_
   refine aX 6 (by kernel_rfl) rfl rfl aA rfl rfl rfl rfl ⟨rfl,rfl,rfl,trivial⟩ ?_
   refine dst 7 ?_;refine aJ ?_;exact⟨(),trivial,aG h0 [2,3,4] _ _ (by decide) ⟨rfl,rfl,rfl,trivial⟩ ⟨oe rfl rfl,oe rfl rfl,oe rfl rfl,rfl⟩⟩
  refine bI (key:=3) 5 rfl rfl aA rfl ⟨rfl,rfl,rfl,trivial⟩ ?_;refine WO.two (i:=1) (j:=4) (by kernel_rfl) ?_ ?_
  ·refine cX 1 rfl (eF ha) dL ⟨aB rfl,rfl⟩ (kF (k)) ?_;refine WO.two (i:=3) (j:=4) (by kernel_rfl) ?_ ?_
   ·refine cX 3 rfl (eF hb) dL ⟨aB rfl,rfl⟩ (kF (k')) ?_;refine eN (key:=4) 4 (by kernel_rfl) rfl rfl aA rfl ⟨rfl,rfl,rfl,trivial⟩ ?_
    refine aX 6 (by kernel_rfl) rfl rfl aA rfl rfl rfl rfl ⟨rfl,rfl,rfl,trivial⟩ ?_
    refine dst 7 ?_;refine aJ ?_;exact⟨(),trivial,aG h0 [2,4,3] _ _ (by decide) ⟨rfl,rfl,rfl,trivial⟩ ⟨oe rfl rfl,oe rfl rfl,oe rfl rfl,rfl⟩⟩
   refine bI (key:=4) 4 rfl rfl aA rfl ⟨rfl,rfl,rfl,trivial⟩ ?_;refine aF 3 rfl (eF hb) dL ⟨aB rfl,rfl⟩ (kF (k')) ?_
   refine aX 6 (by kernel_rfl) rfl rfl aA rfl rfl rfl rfl ⟨rfl,rfl,rfl,trivial⟩ ?_
   refine dst 7 ?_;refine aJ ?_;exact⟨(),trivial,aG h0 [2,4,3] _ _ (by decide) ⟨rfl,rfl,rfl,trivial⟩ ⟨oe rfl rfl,oe rfl rfl,oe rfl rfl,rfl⟩⟩
  refine bI (key:=4) 4 rfl rfl aA rfl ⟨rfl,rfl,rfl,trivial⟩ ?_;refine aF 1 rfl (eF ha) dL ⟨aB rfl,rfl⟩ (kF (k)) ?_;refine aF 3 rfl (eF hb) dL ⟨aB rfl,rfl⟩ (kF (k')) ?_
  refine aX 6 (by kernel_rfl) rfl rfl aA rfl rfl rfl rfl ⟨rfl,rfl,rfl,trivial⟩ ?_
  refine dst 7 ?_;refine aJ ?_;exact⟨(),trivial,aG h0 [2,4,3] _ _ (by decide) ⟨rfl,rfl,rfl,trivial⟩ ⟨oe rfl rfl,oe rfl rfl,oe rfl rfl,rfl⟩⟩
 refine sq ?_;refine rd [0,1,2] (fun i=>[15].contains i) mixed ?_
 refine dv 0 ?_;refine dv 1 ?_;refine aI 2 ?_;refine dv 3 ?_;refine dv 4 ?_;refine aI 5 ?_;refine dv 6 ?_;refine dv 7 ?_;refine dv 8 ?_;refine aI 9 ?_;refine dv 10 ?_;refine dv 11 ?_
 refine aI 12 ?_
 have hA:aE true Tryz.prog 155 [] [.one (.t (sU false (dg 4294967296 k.natAbs))),.one (.t (sU false (dg 4294967296 k'.natAbs)))] (aN (.one (.t (sU true (dg 4294967296 (k.natAbs*k'.natAbs)))))):=by have h9:=UO (aS (by omega) k.natAbs) (aS (by omega) k'.natAbs) (by omega) (by omega);rwa[bM,bM]at h9
 refine kG 3 13 rfl hA UB ⟨a1 rfl,a1 rfl,rfl⟩ ?_
 refine Fa 14 4 [3] rfl (jF (b:=(aL k != aL k')) (m:=(k.natAbs*k'.natAbs)) (K:=k*k') (Qa k k')) nC ⟨aQ rfl,rfl⟩ ⟨rfl,rfl,rfl⟩ ⟨rfl,rfl,rfl,trivial⟩ ?_
 refine dst 15 ?_;refine aJ ?_;refine rt ?_
 exact en (.inl rfl) rfl (aO (.agg (.cons (.id rfl) (.cons (.sl (trs:=aV (dg 4294967296 ((k*k')).natAbs)) rfl rfl (bB _) (aY _)) .nil)))) (by decide) (fun _=>fB ((k*k'))) rfl
theorem GL {a b:Zi}{k k':Int}(ha:Zg a k) (hb:Zg b k'):aE true Tryz.prog 121 [] [gF a,gF b] (aN (kO (((Int.gcd k k'):Nat):Int))):=by
 refine bC Tryz.func121 rfl Tryz.ntmps121 rfl aA rfl fun N w c0 h0=>?_
 have hkl:=ha.len
 have hkl':=hb.len
 refine sq ?_;refine rl ?_;refine bx 0 ?_;refine bx 1 ?_;refine al 2 ?_;refine nl ?_;refine sq ?_;refine rd [0,1,2] (fun i=>[11].contains i) mixed ?_
 refine aI 0 ?_;refine aI 4 ?_;refine aF 1 rfl (eF ha) dL ⟨aB rfl,rfl⟩ (kF (k)) ?_;refine df 2 ?_;refine df 3 ?_;refine aF 5 rfl (eF hb) dL ⟨aB rfl,rfl⟩ (kF (k')) ?_
 refine df 6 ?_;refine df 7 ?_;refine eZ (key:=3) 8 (by kernel_rfl) rfl rfl aA rfl ⟨rfl,rfl,rfl,trivial⟩ ?_
 refine jG (i:=13) (k:=3) (t:=22) (t':=22) (z:=1) (n:=2) (l:=[sU false (dg 4294967296 k.natAbs),sU false (dg 4294967296 k'.natAbs)]) rfl rfl rfl rfl (.one .sl) (by rfl) (by rfl) ?_
 have hA:aE true Tryz.prog 157 [] [.one (.t (.s false 22 1 2 [sU false (dg 4294967296 k.natAbs),sU false (dg 4294967296 k'.natAbs)]))] (aN (.one (.t (sU true (dg 4294967296 (Int.gcd k k')))))):=by
  have h9:=UP (t:=22) (aS (by omega) k.natAbs) (aS (by omega) k'.natAbs) (by omega) (by omega)
  rwa[show sA [dg 4294967296 k.natAbs,dg 4294967296 k'.natAbs]=(Int.gcd k k') by simp only[sA,List.foldl_cons,List.foldl_nil,bM,Nat.gcd_zero_left];rfl]at h9
 refine kG 4 9 rfl hA UC ⟨a1 rfl,rfl⟩ ?_
 refine Fa 10 5 [4] rfl (jF (b:=false) (m:=(Int.gcd k k')) (K:=(((Int.gcd k k'):Nat):Int)) (by simp[bT])) nC ⟨aQ rfl,rfl⟩ ⟨rfl,rfl,rfl⟩ ⟨rfl,rfl,rfl,trivial⟩ ?_
 refine dst 11 ?_;refine aJ ?_;refine rt ?_
 exact en (.inl rfl) rfl (aO (.agg (.cons (.id rfl) (.cons (.sl (trs:=aV (dg 4294967296 ((((Int.gcd k k'):Nat):Int)).natAbs)) rfl rfl (bB _) (aY _)) .nil)))) (by decide) (fun _=>fB ((((Int.gcd k k'):Nat):Int))) rfl
theorem Zh (xs:List Nat):((aV xs).map AV.t).take (aV xs).length=(aV xs).map .t:=List.take_of_length_le (by simp)
theorem wX {a b:Zi}{k k':Int}(ha:Zg a k) (hb:Zg b k') (hz0:k'≠0):aE true Tryz.prog 154 [] [gF a,gF b] (aN (.tup [kO (k.fdiv k'),kO (k.fmod k'),.one (tv (.int .i64 0))])):=by
 refine bC Tryz.func154 rfl Tryz.ntmps154 rfl aA rfl fun N w c0 h0=>?_
 have hkl:=ha.len
 have hkl':=hb.len
 have hq:(dg 4294967296 (k.natAbs/k'.natAbs)).length≤300000000000:=Nat.le_trans (jT (Nat.div_le_self _ _)) hkl
 have hr0:=Nat.mod_lt k.natAbs (show 0<k'.natAbs by omega)
 have hrl:(dg 4294967296 (k.natAbs%k'.natAbs)).length≤300000000000:=Nat.le_trans (jT (Nat.le_of_lt hr0)) hkl'
 refine sq ?_;refine rl ?_;refine bx 0 ?_;refine bx 1 ?_;refine al 2 ?_;refine al 3 ?_;refine o1 ?_;refine nl ?_
 refine md (γ:=Unit) (fun _=>bS [(4,.one (.pt 0 0)),(5,.one (.pt 1 0)),(6,.one (tv (.int .i64 ((0:Nat):Int)))),(7,.one (.pt 2 0)),(8,.one (.pt 3 0))]) (fun _=>([⟨24,0,[tv (.bool false),tv (.slice none 0 0)]⟩,⟨24,0,[tv (.bool false),tv (.slice none 0 0)]⟩,⟨192,0,[tv (.bool (aL k)),.t (sU false (dg 4294967296 k.natAbs))]⟩,⟨192,0,[tv (.bool (aL k')),.t (sU false (dg 4294967296 k'.natAbs))]⟩]:List Ob).map some) (fun _=>True) ?_ fun _ _=>?_
 ·refine rd [0,1,2,3] (fun i=>[7].contains i) mixed ?_
  refine aI 0 ?_;refine aI 2 ?_;refine WO.three (i:=1) (j:=4) (m:=5) (by kernel_rfl) ?_ ?_ ?_
  ·refine cX 1 rfl (eF ha) dL ⟨aB rfl,rfl⟩ (kF (k)) ?_;refine WO.three (i:=3) (j:=4) (m:=5) (by kernel_rfl) ?_ ?_ ?_
   ·refine cX 3 rfl (eF hb) dL ⟨aB rfl,rfl⟩ (kF (k')) ?_;refine WO.two (i:=4) (j:=5) (by kernel_rfl) ?_ ?_
    ·refine bI (key:=4) 4 rfl rfl aA rfl ⟨rfl,rfl,rfl,rfl,trivial⟩ ?_;refine eN (key:=5) 5 (by kernel_rfl) rfl rfl aA rfl ⟨rfl,rfl,rfl,rfl,trivial⟩ ?_
     refine aX 6 (by kernel_rfl) rfl rfl aA rfl rfl rfl rfl ⟨rfl,rfl,rfl,rfl,trivial⟩ ?_
     refine dst 7 ?_;refine aJ ?_;exact⟨(),trivial,aG h0 [2,3,4,5] _ _ (by decide) ⟨rfl,rfl,rfl,rfl,rfl,trivial⟩ ⟨oe rfl rfl,oe rfl rfl,oe rfl rfl,oe rfl rfl,rfl⟩⟩
    refine bI (key:=4) 5 rfl rfl aA rfl ⟨rfl,rfl,rfl,rfl,trivial⟩ ?_;refine eN (key:=5) 4 (by kernel_rfl) rfl rfl aA rfl ⟨rfl,rfl,rfl,rfl,trivial⟩ ?_
    refine aX 6 (by kernel_rfl) rfl rfl aA rfl rfl rfl rfl ⟨rfl,rfl,rfl,rfl,trivial⟩ ?_
    refine dst 7 ?_;refine aJ ?_;exact⟨(),trivial,aG h0 [2,3,5,4] _ _ (by decide) ⟨rfl,rfl,rfl,rfl,rfl,trivial⟩ ⟨oe rfl rfl,oe rfl rfl,oe rfl rfl,oe rfl rfl,rfl⟩⟩
   ·refine bI (key:=4) 4 rfl rfl aA rfl ⟨rfl,rfl,rfl,rfl,trivial⟩ ?_;refine WO.two (i:=3) (j:=5) (by kernel_rfl) ?_ ?_
    ·refine cX 3 rfl (eF hb) dL ⟨aB rfl,rfl⟩ (kF (k')) ?_;refine eN (key:=5) 5 (by kernel_rfl) rfl rfl aA rfl ⟨rfl,rfl,rfl,rfl,trivial⟩ ?_
     refine aX 6 (by kernel_rfl) rfl rfl aA rfl rfl rfl rfl ⟨rfl,rfl,rfl,rfl,trivial⟩ ?_
     refine dst 7 ?_;refine aJ ?_;exact⟨(),trivial,aG h0 [2,3,4,5] _ _ (by decide) ⟨rfl,rfl,rfl,rfl,rfl,trivial⟩ ⟨oe rfl rfl,oe rfl rfl,oe rfl rfl,oe rfl rfl,rfl⟩⟩
    refine bI (key:=5) 5 rfl rfl aA rfl ⟨rfl,rfl,rfl,rfl,trivial⟩ ?_;refine aF 3 rfl (eF hb) dL ⟨aB rfl,rfl⟩ (kF (k')) ?_
    refine aX 6 (by kernel_rfl) rfl rfl aA rfl rfl rfl rfl ⟨rfl,rfl,rfl,rfl,trivial⟩ ?_
    refine dst 7 ?_;refine aJ ?_;exact⟨(),trivial,aG h0 [2,3,4,5] _ _ (by decide) ⟨rfl,rfl,rfl,rfl,rfl,trivial⟩ ⟨oe rfl rfl,oe rfl rfl,oe rfl rfl,oe rfl rfl,rfl⟩⟩
   refine bI (key:=4) 5 rfl rfl aA rfl ⟨rfl,rfl,rfl,rfl,trivial⟩ ?_;refine WO.two (i:=3) (j:=4) (by kernel_rfl) ?_ ?_
   ·refine cX 3 rfl (eF hb) dL ⟨aB rfl,rfl⟩ (kF (k')) ?_;refine eN (key:=5) 4 (by kernel_rfl) rfl rfl aA rfl ⟨rfl,rfl,rfl,rfl,trivial⟩ ?_
    refine aX 6 (by kernel_rfl) rfl rfl aA rfl rfl rfl rfl ⟨rfl,rfl,rfl,rfl,trivial⟩ ?_
    refine dst 7 ?_;refine aJ ?_;exact⟨(),trivial,aG h0 [2,3,5,4] _ _ (by decide) ⟨rfl,rfl,rfl,rfl,rfl,trivial⟩ ⟨oe rfl rfl,oe rfl rfl,oe rfl rfl,oe rfl rfl,rfl⟩⟩
   refine bI (key:=5) 4 rfl rfl aA rfl ⟨rfl,rfl,rfl,rfl,trivial⟩ ?_;refine aF 3 rfl (eF hb) dL ⟨aB rfl,rfl⟩ (kF (k')) ?_
   refine aX 6 (by kernel_rfl) rfl rfl aA rfl rfl rfl rfl ⟨rfl,rfl,rfl,rfl,trivial⟩ ?_
   refine dst 7 ?_;refine aJ ?_;exact⟨(),trivial,aG h0 [2,3,5,4] _ _ (by decide) ⟨rfl,rfl,rfl,rfl,rfl,trivial⟩ ⟨oe rfl rfl,oe rfl rfl,oe rfl rfl,oe rfl rfl,rfl⟩⟩
  ·refine bI (key:=4) 4 rfl rfl aA rfl ⟨rfl,rfl,rfl,rfl,trivial⟩ ?_;refine WO.two (i:=1) (j:=5) (by kernel_rfl) ?_ ?_
   ·refine cX 1 rfl (eF ha) dL ⟨aB rfl,rfl⟩ (kF (k)) ?_;refine WO.two (i:=3) (j:=5) (by kernel_rfl) ?_ ?_
    ·refine cX 3 rfl (eF hb) dL ⟨aB rfl,rfl⟩ (kF (k')) ?_;refine eN (key:=5) 5 (by kernel_rfl) rfl rfl aA rfl ⟨rfl,rfl,rfl,rfl,trivial⟩ ?_
     refine aX 6 (by kernel_rfl) rfl rfl aA rfl rfl rfl rfl ⟨rfl,rfl,rfl,rfl,trivial⟩ ?_
     refine dst 7 ?_;refine aJ ?_;exact⟨(),trivial,aG h0 [2,3,4,5] _ _ (by decide) ⟨rfl,rfl,rfl,rfl,rfl,trivial⟩ ⟨oe rfl rfl,oe rfl rfl,oe rfl rfl,oe rfl rfl,rfl⟩⟩
    refine bI (key:=5) 5 rfl rfl aA rfl ⟨rfl,rfl,rfl,rfl,trivial⟩ ?_;refine aF 3 rfl (eF hb) dL ⟨aB rfl,rfl⟩ (kF (k')) ?_
    refine aX 6 (by kernel_rfl) rfl rfl aA rfl rfl rfl rfl ⟨rfl,rfl,rfl,rfl,trivial⟩ ?_
    refine dst 7 ?_;refine aJ ?_;exact⟨(),trivial,aG h0 [2,3,4,5] _ _ (by decide) ⟨rfl,rfl,rfl,rfl,rfl,trivial⟩ ⟨oe rfl rfl,oe rfl rfl,oe rfl rfl,oe rfl rfl,rfl⟩⟩
   refine bI (key:=5) 5 rfl rfl aA rfl ⟨rfl,rfl,rfl,rfl,trivial⟩ ?_;refine aF 1 rfl (eF ha) dL ⟨aB rfl,rfl⟩ (kF (k)) ?_
   refine aF 3 rfl (eF hb) dL ⟨aB rfl,rfl⟩ (kF (k')) ?_;refine aX 6 (by kernel_rfl) rfl rfl aA rfl rfl rfl rfl ⟨rfl,rfl,rfl,rfl,trivial⟩ ?_
   refine dst 7 ?_;refine aJ ?_;exact⟨(),trivial,aG h0 [2,3,4,5] _ _ (by decide) ⟨rfl,rfl,rfl,rfl,rfl,trivial⟩ ⟨oe rfl rfl,oe rfl rfl,oe rfl rfl,oe rfl rfl,rfl⟩⟩
  refine bI (key:=4) 5 rfl rfl aA rfl ⟨rfl,rfl,rfl,rfl,trivial⟩ ?_;refine WO.two (i:=1) (j:=4) (by kernel_rfl) ?_ ?_
  ·refine cX 1 rfl (eF ha) dL ⟨aB rfl,rfl⟩ (kF (k)) ?_;refine WO.two (i:=3) (j:=4) (by kernel_rfl) ?_ ?_
   ·refine cX 3 rfl (eF hb) dL ⟨aB rfl,rfl⟩ (kF (k')) ?_;refine eN (key:=5) 4 (by kernel_rfl) rfl rfl aA rfl ⟨rfl,rfl,rfl,rfl,trivial⟩ ?_
    refine aX 6 (by kernel_rfl) rfl rfl aA rfl rfl rfl rfl ⟨rfl,rfl,rfl,rfl,trivial⟩ ?_
    refine dst 7 ?_;refine aJ ?_;exact⟨(),trivial,aG h0 [2,3,5,4] _ _ (by decide) ⟨rfl,rfl,rfl,rfl,rfl,trivial⟩ ⟨oe rfl rfl,oe rfl rfl,oe rfl rfl,oe rfl rfl,rfl⟩⟩
   refine bI (key:=5) 4 rfl rfl aA rfl ⟨rfl,rfl,rfl,rfl,trivial⟩ ?_;refine aF 3 rfl (eF hb) dL ⟨aB rfl,rfl⟩ (kF (k')) ?_
   refine aX 6 (by kernel_rfl) rfl rfl aA rfl rfl rfl rfl ⟨rfl,rfl,rfl,rfl,trivial⟩ ?_
   refine dst 7 ?_;refine aJ ?_;exact⟨(),trivial,aG h0 [2,3,5,4] _ _ (by decide) ⟨rfl,rfl,rfl,rfl,rfl,trivial⟩ ⟨oe rfl rfl,oe rfl rfl,oe rfl rfl,oe rfl rfl,rfl⟩⟩
  refine bI (key:=5) 4 rfl rfl aA rfl ⟨rfl,rfl,rfl,rfl,trivial⟩ ?_;refine aF 1 rfl (eF ha) dL ⟨aB rfl,rfl⟩ (kF (k)) ?_
  refine aF 3 rfl (eF hb) dL ⟨aB rfl,rfl⟩ (kF (k')) ?_;refine aX 6 (by kernel_rfl) rfl rfl aA rfl rfl rfl rfl ⟨rfl,rfl,rfl,rfl,trivial⟩ ?_
  refine dst 7 ?_;refine aJ ?_;exact⟨(),trivial,aG h0 [2,3,5,4] _ _ (by decide) ⟨rfl,rfl,rfl,rfl,rfl,trivial⟩ ⟨oe rfl rfl,oe rfl rfl,oe rfl rfl,oe rfl rfl,rfl⟩⟩
 refine sq ?_;refine rl ?_;refine o1 ?_;refine o1 ?_;refine ld ?_;refine o1 ?_;refine o1 ?_;refine ld ?_
 have hD:aE true Tryz.prog 174 [] [.one (.t (sU false (dg 4294967296 k.natAbs))),.one (.t (sU false (dg 4294967296 k'.natAbs)))] (aN (.tup [.one (.t (sU true (dg 4294967296 (k.natAbs/k'.natAbs)))),.one (.t (sU true (dg 4294967296 (k.natAbs%k'.natAbs)))),.one (tv (.int .i64 0))])):=by
  have h9:=DK (aS (by omega) k.natAbs) (aS (by omega) k'.natAbs) (by omega) (by omega) (by rw[bM];omega)
  rwa[bM,bM]at h9
 refine iI 4 hD UH ⟨a1 rfl,a1 rfl,rfl⟩ ?_;(iterate 7 refine o1 ?_);refine nl ?_;refine sq ?_;refine sq ?_;refine rl ?_;refine o1 ?_;refine o1 ?_;refine nl ?_
 refine bP rfl (fun h1=>?_) (fun h1=>?_)
 ·exact absurd rfl h1
 refine sk ?_;refine sq ?_;refine sq ?_;refine rl ?_;refine o1 ?_;refine o1 ?_;refine ld ?_;refine o1 ?_;refine o1 ?_;refine ld ?_;refine o1 ?_;refine o1 ?_
 refine WL.splitb (t:=37) rfl (fun h2=>?_) (fun h2=>?_)
 ·(iterate 4 refine o1 ?_);refine nl ?_;refine bP rfl (fun h3=>?_) (fun h3=>?_)
  ·refine sq ?_;refine rl ?_;refine o1 ?_;refine bs 6 ?_
   have hA:aE true Tryz.prog 175 [] [.one (.t (sU false (dg 4294967296 (k.natAbs/k'.natAbs)))),.one (.t (sU false [1]))] (aN (.one (.t (sU true (dg 4294967296 ((k.natAbs/k'.natAbs)+1)))))):=by
    have h9:=GH (aS (by omega) (k.natAbs/k'.natAbs)) (Lim.cons (show 1<4294967296 by omega) Lim.nil) (by omega) (by simp)
    rwa[cF (by omega),show vl 4294967296 [1]=1 from rfl]at h9
   refine iI 7 hA FT ⟨Df rfl (.sl rfl rfl (Zh _) (aY _)),Df rfl (.sl (trs:=aV [1]) rfl rfl rfl rfl),rfl⟩ ?_;refine o1 ?_;refine nl ?_;refine rl ?_;refine o1 ?_
   refine o1 ?_;refine ld ?_;refine o1 ?_
   have hS:aE true Tryz.prog 176 [] [.one (.t (sU false (dg 4294967296 k'.natAbs))),.one (.t (sU false (dg 4294967296 (k.natAbs%k'.natAbs))))] (aN (.tup [.one (.t (sU true (dg 4294967296 (k'.natAbs-(k.natAbs%k'.natAbs))))),.one (tv (.int .i64 0))])):=by
    have h9:=Uy (aS (by omega) k'.natAbs) (aS (by omega) (k.natAbs%k'.natAbs)) (by omega) (by rw[bM,cF (by omega)];omega)
    rwa[bM,cF (by omega)]at h9
   refine iI 8 hS Ul ⟨a1 rfl,Df rfl (.sl rfl rfl (Zh _) (aY _)),rfl⟩ ?_;(iterate 4 refine o1 ?_);refine nl ?_;refine sq ?_
   have hd:k.fdiv k'=bT (aL k != aL k') ((k.natAbs/k'.natAbs)+1)∧k.fmod k'=bT (aL k') (k'.natAbs-(k.natAbs%k'.natAbs)):=by
    have h9:aL k≠aL k':=by simpa using h2
    have h7:k.natAbs%k'.natAbs≠0:=by have h5:=nQ (m:=(k.natAbs%k'.natAbs)) rfl;rw[decide_eq_true (by omega)]at h5;have h6:=of_decide_eq_true h5.symm;omega
    have h8:=JV (a:=k) (b:=k') hz0 h9 h7
    rw[h2];exact h8
   refine rd [1,2,3,6] (fun i=>[15,16].contains i) mixed ?_
   refine dv 0 ?_;refine dv 1 ?_;refine aI 2 ?_;refine dv 3 ?_;refine dv 4 ?_;refine aI 5 ?_;refine dv 6 ?_;refine dv 7 ?_;refine dv 9 ?_;refine dv 10 ?_;refine aI 11 ?_
   refine dv 12 ?_
   refine Fa 8 9 [7] rfl (jF (b:=(aL k != aL k')) (m:=((k.natAbs/k'.natAbs)+1)) (K:=(k.fdiv k')) hd.1.symm) nC ⟨aQ rfl,rfl⟩ ⟨rfl,rfl,rfl⟩ ⟨rfl,rfl,rfl,rfl,trivial⟩ ?_
   refine Fa 13 10 [8] rfl (jF (b:=(aL k')) (m:=(k'.natAbs-(k.natAbs%k'.natAbs))) (K:=(k.fmod k')) hd.2.symm) nC ⟨aQ rfl,rfl⟩ ⟨rfl,rfl,rfl⟩ ⟨rfl,rfl,rfl,rfl,trivial⟩ ?_
   refine aX 14 (by kernel_rfl) rfl rfl aA rfl rfl rfl rfl ⟨rfl,rfl,rfl,rfl,trivial⟩ ?_
   refine dst 15 ?_;refine cR 16 (by kernel_rfl) rfl rfl aA rfl (by trivial) ?_ (fun h=>by first | rfl | cases h)
   refine aJ ?_;refine rt ?_
   exact en (.inl rfl) rfl (Cc (.cons (.agg (.cons (.id rfl) (.cons (.sl (trs:=aV (dg 4294967296 ((k.fdiv k')).natAbs)) rfl rfl (bB _) (aY _)) .nil))) (.cons (.agg (.cons (.id rfl) (.cons (.sl (trs:=aV (dg 4294967296 ((k.fmod k')).natAbs)) rfl rfl (bB _) (aY _)) .nil))) (.cons (bL (.int .i64 0)) .nil)))) (by decide) (fun _=>⟨fB (k.fdiv k'),fB (k.fmod k'),trivial,trivial⟩) rfl
  refine sk ?_;refine sq ?_;have hd:k.fdiv k'=bT (aL k != aL k') (k.natAbs/k'.natAbs)∧k.fmod k'=bT (aL k') (k.natAbs%k'.natAbs):=by
   have h9:aL k≠aL k':=by simpa using h2
   have h7:k.natAbs%k'.natAbs=0:=by have h5:=nQ (m:=(k.natAbs%k'.natAbs)) rfl;rw[decide_eq_false (by omega)]at h5;have h6:=of_decide_eq_false h5.symm;omega
   have h8:=JU (a:=k) (b:=k') hz0 h9 h7
   rw[h2];exact h8
  refine rd [1,2,3] (fun i=>[15,16].contains i) mixed ?_
  refine dv 0 ?_;refine dv 1 ?_;refine aI 2 ?_;refine dv 3 ?_;refine dv 4 ?_;refine aI 5 ?_;refine dv 6 ?_;refine dv 7 ?_;refine dv 9 ?_;refine dv 10 ?_;refine aI 11 ?_
  refine dv 12 ?_
  refine Fa 8 6 [4] rfl (jF (b:=(aL k != aL k')) (m:=(k.natAbs/k'.natAbs)) (K:=(k.fdiv k')) hd.1.symm) nC ⟨aQ rfl,rfl⟩ ⟨rfl,rfl,rfl⟩ ⟨rfl,rfl,rfl,trivial⟩ ?_
  refine Fa 13 7 [5] rfl (jF (b:=(aL k')) (m:=(k.natAbs%k'.natAbs)) (K:=(k.fmod k')) hd.2.symm) nC ⟨aQ rfl,rfl⟩ ⟨rfl,rfl,rfl⟩ ⟨rfl,rfl,rfl,trivial⟩ ?_
  refine aX 14 (by kernel_rfl) rfl rfl aA rfl rfl rfl rfl ⟨rfl,rfl,rfl,trivial⟩ ?_
  refine dst 15 ?_;refine cR 16 (by kernel_rfl) rfl rfl aA rfl (by trivial) ?_ (fun h=>by first | rfl | cases h)
  refine aJ ?_;refine rt ?_
  exact en (.inl rfl) rfl (Cc (.cons (.agg (.cons (.id rfl) (.cons (.sl (trs:=aV (dg 4294967296 ((k.fdiv k')).natAbs)) rfl rfl (bB _) (aY _)) .nil))) (.cons (.agg (.cons (.id rfl) (.cons (.sl (trs:=aV (dg 4294967296 ((k.fmod k')).natAbs)) rfl rfl (bB _) (aY _)) .nil))) (.cons (bL (.int .i64 0)) .nil)))) (by decide) (fun _=>⟨fB (k.fdiv k'),fB (k.fmod k'),trivial,trivial⟩) rfl
 (iterate 3 refine bF ?_);refine o1 ?_;refine nl ?_;refine iH rfl ?_;refine sk ?_;refine sq ?_
 have hd:k.fdiv k'=bT (aL k != aL k') (k.natAbs/k'.natAbs)∧k.fmod k'=bT (aL k') (k.natAbs%k'.natAbs):=by
  have h9:aL k=aL k':=by simpa using h2
  have h8:=JT (a:=k) (b:=k') hz0 h9
  rw[h2];exact h8
 refine rd [1,2,3] (fun i=>[15,16].contains i) mixed ?_
 refine dv 0 ?_;refine dv 1 ?_;refine aI 2 ?_;refine dv 3 ?_;refine dv 4 ?_;refine aI 5 ?_;refine dv 6 ?_;refine dv 7 ?_;refine dv 9 ?_;refine dv 10 ?_;refine aI 11 ?_
 refine dv 12 ?_
 refine Fa 8 6 [4] rfl (jF (b:=(aL k != aL k')) (m:=(k.natAbs/k'.natAbs)) (K:=(k.fdiv k')) hd.1.symm) nC ⟨aQ rfl,rfl⟩ ⟨rfl,rfl,rfl⟩ ⟨rfl,rfl,rfl,trivial⟩ ?_
 refine Fa 13 7 [5] rfl (jF (b:=(aL k')) (m:=(k.natAbs%k'.natAbs)) (K:=(k.fmod k')) hd.2.symm) nC ⟨aQ rfl,rfl⟩ ⟨rfl,rfl,rfl⟩ ⟨rfl,rfl,rfl,trivial⟩ ?_
 refine aX 14 (by kernel_rfl) rfl rfl aA rfl rfl rfl rfl ⟨rfl,rfl,rfl,trivial⟩ ?_
 refine dst 15 ?_;refine cR 16 (by kernel_rfl) rfl rfl aA rfl (by trivial) ?_ (fun h=>by first | rfl | cases h)
 refine aJ ?_;refine rt ?_
 exact en (.inl rfl) rfl (Cc (.cons (.agg (.cons (.id rfl) (.cons (.sl (trs:=aV (dg 4294967296 ((k.fdiv k')).natAbs)) rfl rfl (bB _) (aY _)) .nil))) (.cons (.agg (.cons (.id rfl) (.cons (.sl (trs:=aV (dg 4294967296 ((k.fmod k')).natAbs)) rfl rfl (bB _) (aY _)) .nil))) (.cons (bL (.int .i64 0)) .nil)))) (by decide) (fun _=>⟨fB (k.fdiv k'),fB (k.fmod k'),trivial,trivial⟩) rfl
theorem vK {p:Rat}{L:Nat}(h:Sz L p) (hL:L≤68719476736:=by omega):Zg (.of p.num) p.num:=.of (Nat.le_trans h.1 (by omega))
theorem mX {p:Rat}{L:Nat}(h:Sz L p) (hL:L≤68719476736:=by omega):Zg ⟨false,dg 4294967296 p.den⟩ (p.den:Int):=⟨aS (by omega) _,Nat.le_trans h.2 (by omega),Ba p.den⟩
theorem Jq {q:Rat}{n d:Int}(h1:q.num=n) (h2:(q.den:Int)=d):FV.agg [tv (.bool (aL n)),.t (sU true (dg 4294967296 n.natAbs)),tv (.bool (aL d)),.t (sU true (dg 4294967296 d.natAbs))]=qO q:=by
 subst h1 h2
 rw[Az]
 rfl
theorem zE {a b:Zi}{k k':Int}(ha:Zg a k) (hb:Zg b k') (hz0:k'≠0):aE true Tryz.prog 115 [] [gF a,gF b] (aN (qO (Rat.divInt k k'))):=by
 refine bC Tryz.func115 rfl Tryz.ntmps115 rfl aA rfl fun N w c0 h0=>?_
 have hkl:=ha.len
 have hkl':=hb.len
 have hgl:(dg 4294967296 ((Int.gcd k k':Nat):Int).natAbs).length≤300000000000:=Nat.le_trans (jT (Nat.le_of_dvd (by omega) (Nat.gcd_dvd_right ..))) hkl'
 have hng:=lQ ((Int.gcd k k':Nat):Int)
 have hg0:((Int.gcd k k':Nat):Int)≠0:=fun e=>hz0 (Int.gcd_eq_zero_iff.1 (show Int.gcd k k'=0 by omega)).2
 refine sq ?_;refine rl ?_;refine bx 0 ?_;refine bx 1 ?_;refine al 2 ?_;refine nl ?_;refine sq ?_;refine rl ?_;refine ld ?_;refine ld ?_
 refine ca (GL ha hb) FM ⟨aB rfl,aB rfl,rfl⟩ (kF (((Int.gcd k k':Nat):Int))) ?_;refine al 3 ?_;refine st ?_;refine nl ?_;refine sq ?_;refine sq ?_;refine rl ?_;refine ld ?_
 refine ca (Fb hb) Jm ⟨aB rfl,rfl⟩ (.one (tv (.int .i64 k'.sign))) ?_;refine o1 ?_;refine nl ?_;refine bP rfl (fun h1=>?_) (fun h1=>?_)
 ·refine rl ?_;refine ld ?_;refine ca (GJ (Zg.of (k:=((Int.gcd k k':Nat):Int)) hgl)) FL ⟨aB rfl,rfl⟩ (kF (-(((Int.gcd k k':Nat):Int)))) ?_;refine st ?_;refine nl ?_
  refine sq ?_;refine rl ?_;refine ld ?_;refine ld ?_;refine iI 4 (wX ha (Zg.of (k:=(-(((Int.gcd k k':Nat):Int)))) (by omega)) (by omega)) Jn ⟨aB rfl,aB rfl,rfl⟩ ?_
  (iterate 4 refine o1 ?_);refine al 6 ?_;refine al 7 ?_;refine st ?_;refine st ?_;refine o1 ?_;refine nl ?_;refine sq ?_;refine rl ?_;refine ld ?_;refine ld ?_
  refine iI 8 (wX hb (Zg.of (k:=(-(((Int.gcd k k':Nat):Int)))) (by omega)) (by omega)) Jn ⟨aB rfl,aB rfl,rfl⟩ ?_
  (iterate 4 refine o1 ?_);refine al 10 ?_;refine al 11 ?_;refine st ?_;refine st ?_;refine o1 ?_;refine nl ?_;refine sq ?_;refine rl ?_;refine ld ?_;refine ld ?_;refine o1 ?_
  refine st ?_;refine nl ?_;refine rt ?_;have hk9:k'<0:=by
   rcases Int.lt_trichotomy k' 0 with h8 | h8 | h8
   ·exact h8
   ·exact absurd h8 hz0
   rw[Int.sign_eq_one_of_pos h8]at h1;omega
  have h9:=Nq (N:=k) (D:=k') hk9
  exact en (.inl rfl) rfl (aO (.agg (.cons (.id rfl) (.cons (.sl (trs:=aV (dg 4294967296 (((k).fdiv (-(((Int.gcd k k':Nat):Int))))).natAbs)) rfl rfl (bB _) (aY _)) (.cons (.id rfl) (.cons (.sl (trs:=aV (dg 4294967296 (((k').fdiv (-(((Int.gcd k k':Nat):Int))))).natAbs)) rfl rfl (bB _) (aY _)) (.nil))))))) (by decide) (fun _=>uP (⟨aL ((k).fdiv (-(((Int.gcd k k':Nat):Int)))),dg 4294967296 (((k).fdiv (-(((Int.gcd k k':Nat):Int))))).natAbs,aL ((k').fdiv (-(((Int.gcd k k':Nat):Int)))),dg 4294967296 (((k').fdiv (-(((Int.gcd k k':Nat):Int))))).natAbs⟩:Fr4)) (Jq h9.1 h9.2)
 refine sk ?_;refine sq ?_;refine rl ?_;refine ld ?_;refine ld ?_;refine iI 4 (wX ha (Zg.of (k:=((Int.gcd k k':Nat):Int)) (by omega)) (by omega)) Jn ⟨aB rfl,aB rfl,rfl⟩ ?_
 (iterate 4 refine o1 ?_);refine al 6 ?_;refine al 7 ?_;refine st ?_;refine st ?_;refine o1 ?_;refine nl ?_;refine sq ?_;refine rl ?_;refine ld ?_;refine ld ?_
 refine iI 8 (wX hb (Zg.of (k:=((Int.gcd k k':Nat):Int)) (by omega)) (by omega)) Jn ⟨aB rfl,aB rfl,rfl⟩ ?_
 (iterate 4 refine o1 ?_);refine al 10 ?_;refine al 11 ?_;refine st ?_;refine st ?_;refine o1 ?_;refine nl ?_;refine sq ?_;refine rl ?_;refine ld ?_;refine ld ?_;refine o1 ?_
 refine st ?_;refine nl ?_;refine rt ?_;have hk9:0<k':=by
  rcases Int.lt_trichotomy k' 0 with h8 | h8 | h8
  ·rw[Int.sign_eq_neg_one_of_neg h8]at h1;omega
  ·exact absurd h8 hz0
  exact h8
 have h9:=pA (N:=k) (D:=k') hk9
 exact en (.inl rfl) rfl (aO (.agg (.cons (.id rfl) (.cons (.sl (trs:=aV (dg 4294967296 (((k).fdiv ((Int.gcd k k':Nat):Int))).natAbs)) rfl rfl (bB _) (aY _)) (.cons (.id rfl) (.cons (.sl (trs:=aV (dg 4294967296 (((k').fdiv ((Int.gcd k k':Nat):Int))).natAbs)) rfl rfl (bB _) (aY _)) (.nil))))))) (by decide) (fun _=>uP (⟨aL ((k).fdiv ((Int.gcd k k':Nat):Int)),dg 4294967296 (((k).fdiv ((Int.gcd k k':Nat):Int))).natAbs,aL ((k').fdiv ((Int.gcd k k':Nat):Int)),dg 4294967296 (((k').fdiv ((Int.gcd k k':Nat):Int))).natAbs⟩:Fr4)) (Jq h9.1 h9.2)
theorem Vb {p q:Rat}(hp:Sz 68719476736 p) (hq:Sz 68719476736 q):aE true Tryz.prog 111 [] [qF (.of p),qF (.of q)] (aN (qO (p+q))):=by
 refine bC Tryz.func111 rfl Tryz.ntmps111 rfl aA rfl fun N w c0 h0=>?_
 have z1:=(vK hp).len;have z2:=(vK hq).len;have z3:=(mX hp).len;have z4:=(mX hq).len
 have y1:(dg 4294967296 p.num.natAbs).length≤68719476736:=hp.1;have y2:(dg 4294967296 q.num.natAbs).length≤68719476736:=hq.1;have y3:(dg 4294967296 p.den).length≤68719476736:=hp.2;have y4:(dg 4294967296 q.den).length≤68719476736:=hq.2;have y5:(dg 4294967296 (p.den:Int).natAbs).length≤68719476736:=hp.2;have y6:(dg 4294967296 (q.den:Int).natAbs).length≤68719476736:=hq.2
 refine sq ?_;refine rl ?_;refine bx 0 ?_;refine bx 1 ?_;refine al 2 ?_;refine nl ?_;refine sq ?_;refine sq ?_;refine rl ?_;refine o1 ?_;refine ld ?_;refine o1 ?_;refine ld ?_
 refine ca (Va (mX hp) (mX hq) (by have h8:=lU (p.den:Int) (-(q.den:Int));have h7:=lQ (q.den:Int);rw[Int.natAbs_natCast]at h7 h8;rw[Int.sub_eq_add_neg];omega)) My ⟨aB rfl,aB rfl,rfl⟩ (.one (tv (.int .i64 ((p.den:Int)-(q.den:Int)).sign))) ?_
 refine o1 ?_;refine nl ?_;refine bP rfl (fun h1=>?_) (fun h1=>?_)
 ·refine sq ?_;refine rd [0,1,2] (fun i=>[8].contains i) mixed ?_
  refine dv 0 ?_;refine aI 1 ?_;refine dv 2 ?_;refine aI 3 ?_;refine dv 5 ?_;refine aI 6 ?_;have hn2:=lU (p.num) (q.num)
  refine aF 4 rfl (GK (vK hp) (vK hq)) FN ⟨aB rfl,aB rfl,rfl⟩ (kF (p.num+q.num)) ?_
  refine kG 3 7 rfl (zE (Zg.of (k:=(p.num+q.num)) (by omega)) (mX hp) (by have h8:=p.den_nz;have h7:=q.den_nz;first | omega | exact Int.mul_ne_zero (by omega) (by omega))) Uj ⟨aB rfl,aB rfl,rfl⟩ ?_
  refine dst 8 ?_;refine aJ ?_;refine rt ?_
  exact en (.inl rfl) rfl (aO (.agg (.cons (.id rfl) (.cons (.sl (trs:=aV (dg 4294967296 (Rat.divInt ((p.num+q.num)) ((p.den:Int))).num.natAbs)) rfl rfl (bB _) (aY _)) (.cons (.id rfl) (.cons (.sl (trs:=aV (dg 4294967296 (Rat.divInt ((p.num+q.num)) ((p.den:Int))).den)) rfl rfl (bB _) (aY _)) .nil)))))) (by decide) (fun _=>mU (Rat.divInt ((p.num+q.num)) ((p.den:Int)))) (by rw[show(Rat.divInt ((p.num+q.num)) ((p.den:Int)))=p+q from DD (by have h8:=Int.sign_eq_zero_iff_zero.1 h1;omega)];rfl)
 refine sk ?_;refine sq ?_;refine rd [0,1,2] (fun i=>[17].contains i) mixed ?_
 refine dv 0 ?_;refine aI 1 ?_;refine dv 2 ?_;refine aI 3 ?_;refine dv 5 ?_;refine aI 6 ?_;refine dv 7 ?_;refine aI 8 ?_;refine dv 11 ?_;refine aI 12 ?_;refine dv 13 ?_
 refine aI 14 ?_;have hn3:=dU (p.num) ((q.den:Int))
 refine aF 4 rfl (Jp (vK hp) (mX hq)) wS ⟨aB rfl,aB rfl,rfl⟩ (kF (p.num*(q.den:Int))) ?_;have hn4:=dU (q.num) ((p.den:Int))
 refine aF 9 rfl (Jp (vK hq) (mX hp)) wS ⟨aB rfl,aB rfl,rfl⟩ (kF (q.num*(p.den:Int))) ?_;have hn5:=lU ((p.num*(q.den:Int))) ((q.num*(p.den:Int)))
 refine aF 10 rfl (GK (Zg.of (k:=(p.num*(q.den:Int))) (by omega)) (Zg.of (k:=(q.num*(p.den:Int))) (by omega))) FN ⟨aB rfl,aB rfl,rfl⟩ (kF ((p.num*(q.den:Int))+(q.num*(p.den:Int)))) ?_
 have hn6:=dU ((p.den:Int)) ((q.den:Int))
 refine aF 15 rfl (Jp (mX hp) (mX hq)) wS ⟨aB rfl,aB rfl,rfl⟩ (kF ((p.den:Int)*(q.den:Int))) ?_
 refine kG 3 16 rfl (zE (Zg.of (k:=((p.num*(q.den:Int))+(q.num*(p.den:Int)))) (by omega)) (Zg.of (k:=((p.den:Int)*(q.den:Int))) (by omega)) (by have h8:=p.den_nz;have h7:=q.den_nz;first | omega | exact Int.mul_ne_zero (by omega) (by omega))) Uj ⟨aB rfl,aB rfl,rfl⟩ ?_
 refine dst 17 ?_;refine aJ ?_;refine rt ?_
 exact en (.inl rfl) rfl (aO (.agg (.cons (.id rfl) (.cons (.sl (trs:=aV (dg 4294967296 (Rat.divInt (((p.num*(q.den:Int))+(q.num*(p.den:Int)))) (((p.den:Int)*(q.den:Int)))).num.natAbs)) rfl rfl (bB _) (aY _)) (.cons (.id rfl) (.cons (.sl (trs:=aV (dg 4294967296 (Rat.divInt (((p.num*(q.den:Int))+(q.num*(p.den:Int)))) (((p.den:Int)*(q.den:Int)))).den)) rfl rfl (bB _) (aY _)) .nil)))))) (by decide) (fun _=>mU (Rat.divInt (((p.num*(q.den:Int))+(q.num*(p.den:Int)))) (((p.den:Int)*(q.den:Int))))) (by rw[show(Rat.divInt (((p.num*(q.den:Int))+(q.num*(p.den:Int)))) (((p.den:Int)*(q.den:Int))))=p+q from sS p q];rfl)
theorem Zj {k:Int}{f:FuncId}{args:List FV}(h:∀(N:Nat→Prop) (w:World) us,dN w N [] args us→(∀b,N b→b<w.heap.size)→Calls Tryz.prog f us.toArray w (QC k w)):aE true Tryz.prog f [] args (aN (kO k)):=by
 intro N w cs us hL
 obtain⟨rfl,hf⟩:=zD hL
 refine(h _ w us hf (fun b hb=>hb.1)).mono ?_
 rintro e W ⟨A,n,c,rfl,ho,hb⟩
 obtain⟨y1,a1,a2,a3,a4⟩:=zC (N:=fun b=>true=false∧(b<W.heap.size∧b∉VT.fpL [])∧(N b∨w.heap.size≤b)) ho
 refine .mk0 (y:=[.w (.bool (aL k)),y1]) rfl hb (by simp only[VT.okL,VT.ok];exact⟨trivial,a3,trivial⟩) ?_ (fun b hb'=>?_) ?_
 ·simp only[VT.fpL,VT.fp,a4,List.nil_append,List.append_nil]
  exact Ez A n c
 ·simp only[VT.fpL,VT.fp,a4,List.nil_append,List.append_nil]at hb'
  exact ho.blk b hb'
 refine⟨by simp only[List.map_cons,List.map_nil,a1];rfl,?_⟩
 simp only[List.map_cons,List.map_nil,bK,CR,sU]
 exact⟨by simp[OR],jZ (fun _ _=>rfl) (fun b hb=>absurd hb.1 (by simp)) _ _ a2,trivial⟩
theorem QJ {n:Int}(h1:-9223372036854775808≤n) (h2:n≤9223372036854775807):aE true Tryz.prog 109 [] [.one (tv (.int .i64 n))] (aN (kO n)):=Zj fun N w us hf hN=>by
 obtain⟨u,rfl,h3⟩:=DH hf
 obtain rfl:=cH (uT h3)
 exact QD n w h1 h2
theorem KC {m:Nat}:decide (((m:Int)-1).sign=0)=(m==1):=by
 rw[decide_eq_decide.2 Int.sign_eq_zero_iff_zero]
 rw[Bool.eq_iff_iff,decide_eq_true_eq,beq_iff_eq]
 omega
theorem Nw {z:Int}:0<z.sign↔0<z:=by
 rcases Int.lt_trichotomy z 0 with h | h | h
 ·rw[Int.sign_eq_neg_one_of_neg h];omega
 ·subst h;decide
 rw[Int.sign_eq_one_of_pos h];omega
theorem Nx:aE true Tryz.prog 110 [] [] (aN (kO 1)):=by
 refine bC Tryz.func110 rfl Tryz.ntmps110 rfl aA rfl fun N w c0 h0=>?_
 refine sq ?_;refine rl ?_;refine al 0 ?_;refine nl ?_;refine sq ?_;refine rl ?_;refine iI 1 (QJ (n:=1) (by omega) (by omega)) FK ⟨a1 rfl,rfl⟩ ?_
 refine st ?_;refine nl ?_;refine rt ?_
 exact en (.inl rfl) rfl (aO (.agg (.cons (.id rfl) (.cons (.sl (trs:=aV (dg 4294967296 ((1:Int)).natAbs)) rfl rfl (bB _) (aY _)) .nil)))) (by decide) (fun _=>fB 1) rfl
theorem Ny {a:Fr4}{p:Rat}(ha:Qn a p):aE true Tryz.prog 79 [] [qF a] (aN (.one (tv (.bool (bD a.s a.x a.t a.y))))):=by
 refine bC Tryz.func79 rfl Tryz.ntmps79 rfl aA rfl fun N w c0 h0=>?_
 refine sq ?_;refine rl ?_;refine bx 0 ?_;refine o1 ?_;refine nl ?_;refine sq ?_;refine rl ?_;refine o1 ?_;refine ld ?_
 refine ca (Hf (a:=⟨a.s,a.x⟩) ((Li ha).g)) Uk ⟨aB rfl,rfl⟩ (.one (tv (.bool (dK a.s a.x)))) ?_;refine o1 ?_;refine WL.splitb (t:=6) rfl (fun h1=>?_) (fun h1=>?_)
 ·refine o1 ?_;refine ld ?_;refine ca (Hf (a:=⟨a.t,a.y⟩) ((yC ha).g)) Uk ⟨aB rfl,rfl⟩ (.one (tv (.bool (dK a.t a.y)))) ?_;refine o1 ?_;refine o1 ?_
  refine WL.splitb (t:=11) rfl (fun h2=>?_) (fun h2=>?_)
  ·refine o1 ?_;refine ld ?_;refine ca (Fb (a:=⟨a.t,a.y⟩) ((yC ha).g)) Jm ⟨aB rfl,rfl⟩ (.one (tv (.int .i64 (eI a.t a.y).sign))) ?_;(iterate 3 refine o1 ?_)
   refine WL.split (t:=17) rfl (fun h3=>?_) (fun h3=>?_)
   ·refine o1 ?_;refine ld ?_;refine o1 ?_;refine ld ?_;have hpos:0<eI a.t a.y:=Nw.1 h3
    have hyl:(dg 4294967296 (eI a.t a.y).natAbs).length≤137438953472:=Zn.len (yC (p:=p) ha)
    have hgl9:(dg 4294967296 ((Int.gcd (eI a.s a.x) (eI a.t a.y):Nat):Int).natAbs).length≤137438953472:=Nat.le_trans (jT (Nat.le_of_dvd (by omega) (Nat.gcd_dvd_right ..))) hyl
    have hgl:(dg 4294967296 ((Int.gcd (eI a.s a.x) (eI a.t a.y):Nat):Int).natAbs).length≤300000000000:=Nat.le_trans hgl9 (by omega)
    refine ca (GL (a:=⟨a.s,a.x⟩) (b:=⟨a.t,a.y⟩) ((Li ha).g) ((yC ha).g)) FM ⟨aB rfl,aB rfl,rfl⟩ (kF ((Int.gcd (eI a.s a.x) (eI a.t a.y):Nat):Int)) ?_
    refine ca (Nx) Ui rfl (kF 1) ?_
    refine ca (Va (Zg.of (k:=((Int.gcd (eI a.s a.x) (eI a.t a.y):Nat):Int)) hgl) (Zg.of (k:=1) (by decide)) (by have h8:=Ns ((Int.gcd (eI a.s a.x) (eI a.t a.y):Nat):Int) 1;have h7:(dg 4294967296 (1:Int).natAbs).length=1:=rfl;omega)) My ⟨aB rfl,aB rfl,rfl⟩ (.one (tv (.int .i64 (((Int.gcd (eI a.s a.x) (eI a.t a.y):Nat):Int)-1).sign))) ?_
    (iterate 3 refine o1 ?_);refine nl ?_;refine rt ?_
    exact en (.inl rfl) rfl (aO (bL _)) (by decide) (fun _=>trivial) (congrArg (fun b=>FV.one (tv (.bool b))) (by unfold bD;rw[h1,h2,decide_eq_true hpos,←KC];rfl))
   (iterate 8 refine bF ?_);refine o1 ?_;refine o1 ?_;refine nl ?_;refine rt ?_
   exact en (.inl rfl) rfl (aO (bL _)) (by decide) (fun _=>trivial) (congrArg (fun b=>FV.one (tv (.bool b))) (by unfold bD;rw[h1,h2,decide_eq_false (fun h9=>h3 (Nw.2 h9))];rfl))
  (iterate 4 refine bF ?_);refine o1 ?_;refine o1 ?_;(iterate 8 refine bF ?_);refine o1 ?_;refine o1 ?_;refine nl ?_;refine rt ?_
  exact en (.inl rfl) rfl (aO (bL _)) (by decide) (fun _=>trivial) (congrArg (fun b=>FV.one (tv (.bool b))) (by unfold bD;rw[h1,h2];rfl))
 (iterate 3 refine bF ?_);refine o1 ?_;refine o1 ?_;(iterate 4 refine bF ?_);refine o1 ?_;refine o1 ?_;(iterate 8 refine bF ?_);refine o1 ?_;refine o1 ?_;refine nl ?_;refine rt ?_
 exact en (.inl rfl) rfl (aO (bL _)) (by decide) (fun _=>trivial) (congrArg (fun b=>FV.one (tv (.bool b))) (by unfold bD;rw[h1];rfl))
theorem ZI:FV.agg [tv (.bool false),.t (sU false []),tv (.bool (aL 1)),.t (sU false (dg 4294967296 (1:Int).natAbs))]=qF (.of 0):=rfl
theorem pB {a:Fr4}{p:Rat}(ha:Qn a p):aE false Tryz.prog 75 [] [qF a] (aN (qF (.of p))):=by
 refine bC Tryz.func75 rfl Tryz.ntmps75 rfl aA rfl fun N w c0 h0=>?_
 refine sq ?_;refine rl ?_;refine bx 0 ?_;refine al 1 ?_;refine nl ?_;refine sq ?_;refine sq ?_;refine rl ?_;refine ld ?_
 refine ca (Ny ha) Kh ⟨aB rfl,rfl⟩ (.one (tv (.bool (bD a.s a.x a.t a.y)))) ?_;refine WL.splitb (t:=4) rfl (fun h1=>?_) (fun h1=>?_)
 ·refine o1 ?_;refine nl ?_;refine iH rfl ?_;refine sk ?_;refine sq ?_;refine rl ?_;refine ld ?_;refine st ?_;refine nl ?_;refine rt ?_
  exact en (.inl rfl) rfl (aO (.agg (.cons (.id rfl) (.cons (.id rfl) (.cons (.id rfl) (.cons (.id rfl) .nil)))))) (by decide) (fun h=>by cases h) (by rw[ha.right h1];rfl)
 refine o1 ?_;refine nl ?_;refine gL rfl ?_;refine sq ?_;refine rl ?_;refine o1 ?_;refine ca (Nx) Ui rfl (kF 1) ?_;refine o1 ?_;refine st ?_;refine nl ?_;refine rt ?_
 have hq9:=ha.wrong h1
 subst hq9;exact en (.inl rfl) rfl (aO (.agg (.cons (.id rfl) (.cons .nilf (.cons (.id rfl) (.cons (.id rfl) .nil)))))) (by decide) (fun h=>by cases h) ZI
theorem QK {a b:Fr4}{p q:Rat}(ha:Qn a p) (hb:Qn b q):aE true Tryz.prog 70 [] [qF a,qF b] (aN (qO (p+q))):=by
 refine bC Tryz.func70 rfl Tryz.ntmps70 rfl aA rfl fun N w c0 h0=>?_
 refine sq ?_;refine rl ?_;refine bx 0 ?_;refine bx 1 ?_;refine al 2 ?_;refine nl ?_;refine sq ?_;refine rd [0,1,2] (fun i=>[5].contains i) mixed ?_
 refine aI 0 ?_;refine aI 2 ?_;refine aF 1 rfl (pB ha) gJ ⟨aB rfl,rfl⟩ (qF (.of p)) ?_;refine aF 3 rfl (pB hb) gJ ⟨aB rfl,rfl⟩ (qF (.of q)) ?_
 refine kG 3 4 rfl (Vb ha.sz hb.sz) wE ⟨aB rfl,aB rfl,rfl⟩ ?_;refine dst 5 ?_;refine aJ ?_;refine rt ?_
 exact en (.inl rfl) rfl (aO (.agg (.cons (.id rfl) (.cons (.sl (trs:=aV (dg 4294967296 (p+q).num.natAbs)) rfl rfl (bB _) (aY _)) (.cons (.id rfl) (.cons (.sl (trs:=aV (dg 4294967296 (p+q).den)) rfl rfl (bB _) (aY _)) .nil)))))) (by decide) (fun _=>mU (p+q)) rfl
theorem KD {a:Fr4}{p:Rat}(ha:Qn a p):aE true Tryz.prog 80 [] [qF a] (aN (.one (tv (.int .i64 p.num.sign)))):=by
 refine bC Tryz.func80 rfl Tryz.ntmps80 rfl aA rfl fun N w c0 h0=>?_
 refine sq ?_;refine rl ?_;refine bx 0 ?_;refine o1 ?_;refine nl ?_;refine sq ?_;refine rl ?_;refine ld ?_;refine ca (pB ha) gJ ⟨aB rfl,rfl⟩ (qF (.of p)) ?_;refine o1 ?_
 refine ca (Fb (Zg.of (k:=p.num) (Nat.le_trans ha.sz.1 (by omega)))) Jm ⟨aB rfl,rfl⟩ (.one (tv (.int .i64 p.num.sign))) ?_
 refine o1 ?_;refine nl ?_;refine rt ?_;exact en (.inl rfl) rfl (aO (bL _)) (by decide) (fun _=>trivial) rfl
theorem Zk {a:Fr4}{p:Rat}(ha:Qn a p):aE true Tryz.prog 72 [] [qF a] (aN (qO (-p))):=by
 refine bC Tryz.func72 rfl Tryz.ntmps72 rfl aA rfl fun N w c0 h0=>?_
 refine sq ?_;refine rl ?_;refine bx 0 ?_;refine al 1 ?_;refine nl ?_;refine sq ?_;refine rl ?_;refine ld ?_;refine ca (pB ha) gJ ⟨aB rfl,rfl⟩ (qF (.of p)) ?_;refine st ?_
 refine nl ?_;refine sq ?_;refine rd [0,1] (fun i=>[7].contains i) mixed ?_
 refine dv 0 ?_;refine aI 1 ?_;refine dv 3 ?_;refine aI 4 ?_;refine kG 2 2 rfl (GJ (Zg.of (k:=p.num) (Nat.le_trans ha.sz.1 (by omega)))) FL ⟨aB rfl,rfl⟩ ?_
 refine kG 3 5 rfl (US (mX ha.sz)) TX ⟨aB rfl,rfl⟩ ?_;refine df 6 ?_;refine dst 7 ?_;refine aJ ?_;refine rt ?_;have hda:(((p.den:Int).natAbs:Nat):Int).natAbs=p.den:=rfl
 exact en (.inl rfl) rfl (aO (.agg (.cons (.id rfl) (.cons (.sl (trs:=aV (dg 4294967296 (-(p.num)).natAbs)) rfl rfl (bB _) (aY _)) (.cons (.id rfl) (.cons (.sl (trs:=aV (dg 4294967296 (((p.den:Int).natAbs:Nat):Int).natAbs)) rfl rfl (bB _) (aY _)) .nil)))))) (by decide) (fun _=>uP (⟨_,dg 4294967296 (-(p.num)).natAbs,_,dg 4294967296 (((p.den:Int).natAbs:Nat):Int).natAbs⟩:Fr4)) (show FV.agg [tv (.bool (aL (-(p.num)))),.t (sU true (dg 4294967296 (-(p.num)).natAbs)),tv (.bool (aL (((p.den:Int).natAbs:Nat):Int))),.t (sU true (dg 4294967296 (((p.den:Int).natAbs:Nat):Int).natAbs))]=qO (-p) from Jq (q:=-p) (by simp) (by simp))
theorem DM {n:Int}(h1:-9223372036854775808≤n) (h2:n≤9223372036854775807):aE true Tryz.prog 69 [] [.one (tv (.int .i64 n))] (aN (qO ((n:Int):Rat))):=by
 refine bC Tryz.func69 rfl Tryz.ntmps69 rfl aA rfl fun N w c0 h0=>?_
 refine sq ?_;refine rl ?_;refine al 0 ?_;refine nl ?_;refine sq ?_;refine rl ?_;refine o1 ?_;refine iI 1 (QJ (n:=n) h1 h2) FK ⟨a1 rfl,rfl⟩ ?_;refine iI 2 (Nx) Ui rfl ?_
 refine o1 ?_;refine st ?_;refine nl ?_;refine rt ?_
 exact en (.inl rfl) rfl (aO (.agg (.cons (.id rfl) (.cons (.sl (trs:=aV (dg 4294967296 n.natAbs)) rfl rfl (bB _) (aY _)) (.cons (.id rfl) (.cons (.sl (trs:=aV (dg 4294967296 (1:Int).natAbs)) rfl rfl (bB _) (aY _)) .nil)))))) (by decide) (fun _=>uP (⟨_,dg 4294967296 n.natAbs,_,dg 4294967296 (1:Int).natAbs⟩:Fr4)) (Jq (q:=((n:Int):Rat)) (n:=n) (d:=1) (by simp) (by simp))
theorem QL {a b:Fr4}{p q:Rat}(ha:Qn a p) (hb:Qn b q):aE true Tryz.prog 71 [] [qF a,qF b] (aN (qO (p-q))):=by
 refine bC Tryz.func71 rfl Tryz.ntmps71 rfl aA rfl fun N w c0 h0=>?_
 refine sq ?_;refine rl ?_;refine bx 0 ?_;refine bx 1 ?_;refine al 2 ?_;refine nl ?_;refine sq ?_;refine rd [0,1,2] (fun i=>[5].contains i) mixed ?_
 refine aI 0 ?_;refine aI 2 ?_;refine aF 1 rfl (pB ha) gJ ⟨aB rfl,rfl⟩ (qF (.of p)) ?_;refine aF 3 rfl (Zk hb) AI ⟨aB rfl,rfl⟩ (qF (.of (-q))) ?_
 refine kG 3 4 rfl (Vb ha.sz (uF hb.sz)) wE ⟨aB rfl,aB rfl,rfl⟩ ?_;refine dst 5 ?_;refine aJ ?_;refine rt ?_
 exact en (.inl rfl) rfl (aO (.agg (.cons (.id rfl) (.cons (.sl (trs:=aV (dg 4294967296 (p+-q).num.natAbs)) rfl rfl (bB _) (aY _)) (.cons (.id rfl) (.cons (.sl (trs:=aV (dg 4294967296 (p+-q).den)) rfl rfl (bB _) (aY _)) .nil)))))) (by decide) (fun _=>mU (p+-q)) (by rw[Rat.sub_eq_add_neg];rfl)
section
variable {f:FuncId}{args:List FV}
end
section
variable {a b:Fr4}{p q:Rat}{x y:Zi}{k k':Int}
theorem Fc (h:Zn x k) (h':Zn y k'):aE true Tryz.prog 116 [] [gF x,gF y] (aN (kO (k*k'))):=Jp h.g h'.g
theorem Nz (h:Zn x k) (h':Zn y k'):aE true Tryz.prog 76 [] [gF x,gF y] (aN (.one (tv (.int .i64 (k-k').sign)))):=Va h.g h'.g (by have:=Ns k k';have:=h.len;have:=h'.len;omega)
theorem qK (h:Qn a p) (h':Qn b q):aE true Tryz.prog 70 [] [qF a,qF b] (aN (qO (p+q))):=QK h h'
theorem mZ (h:Qn a p) (h':Qn b q):aE true Tryz.prog 71 [] [qF a,qF b] (aN (qO (p-q))):=QL h h'
theorem fZ (h:Qn a p):aE true Tryz.prog 80 [] [qF a] (aN (.one (tv (.int .i64 p.num.sign)))):=KD h
theorem EW (hp:Sz 68719476736 p) (hq:Sz 68719476736 q):aE true Tryz.prog 111 [] [qF (.of p),qF (.of q)] (aN (qO (p+q))):=Vb hp hq
theorem vU (ha:a.ok):aE true Tryz.prog 79 [] [qF a] (aN (.one (tv (.bool (bD a.s a.x a.t a.y))))):=Ny ⟨ha,rfl⟩
theorem lW {z:Int}(h1:-9223372036854775808≤z) (h2:z≤9223372036854775807):aE true Tryz.prog 69 [] [.one (tv (.int .i64 z))] (aN (qO (z:Rat))):=DM h1 h2
theorem Fd (hp:Sz 68719476736 p):aE true Tryz.prog 111 [] [qF (.of p),qF (.of ((0:Int):Rat))] (aN (qO p)):=by
 have:=EW hp ((kX (z:=0) (by omega) (by omega)).mono (by omega))
 rwa[show p+((0:Int):Rat)=p from Rat.add_zero p]at this
theorem Vz (h:Qn a p):aE true Tryz.prog 70 [] [qF a,qF (.of ((0:Int):Rat))] (aN (qO p)):=by
 have:=qK h (Qn.of (p:=((0:Int):Rat)) ((kX (z:=0) (by omega) (by omega)).mono (M:=68719476736) (by omega)))
 rwa[show p+((0:Int):Rat)=p from Rat.add_zero p]at this
theorem Io (p:Rat) (l:List Rat) (q:Rat):aZ p (l++[q])=if q<aZ p l then q else aZ p l:=by
 unfold aZ
 rw[List.foldl_append]
 rfl
end
def sR (t:Nat) (us:List (Int×Rat)):Tr:=.s true t 5 us.length (us.flatMap (cJ false))
def sO (t:Nat) (us:List (Int×Rat)):Tr:=.s true t 5 us.length (us.flatMap (cJ true))
def eM (us:List (Int×Rat)):List AV:=(us.flatMap (cJ false)).map .t
def pH (us:List (Int×Rat)):List AV:=(us.flatMap (cJ true)).map .t
section
variable {us vs:List (Int×Rat)}{k:Nat}{x:Int×Rat}
theorem mD (us:List (Int×Rat)):(eM us).length=us.length*5:=by rw[eM,List.length_map,bN]
theorem zN (us:List (Int×Rat)):(pH us).length=us.length*5:=by rw[pH,List.length_map,bN]
theorem Ki (us:List (Int×Rat)) (x:Int×Rat):eM us++(cJ false x).map .t=eM (us++[x]):=by simp[eM,List.flatMap_append]
theorem DN (us:List (Int×Rat)) (x:Int×Rat):pH us++(cJ true x).map .t=pH (us++[x]):=by simp[pH,List.flatMap_append]
theorem Kc (h:k<us.length):((eM us).drop (0+k*5)).take ((cJ false (aU us k)).map AV.t).length=(cJ false (aU us k)).map .t:=by
 rw[eM,←List.map_drop,←List.map_take,Nat.zero_add,List.length_map,tY false h]
theorem ED (h:k<us.length):((eM us).drop (0+k*5+1)).take (((Fr4.of (aU us k).2).tr false).map AV.t).length=((Fr4.of (aU us k).2).tr false).map .t:=by
 rw[eM,←List.map_drop,←List.map_take,Nat.zero_add,List.length_map,UM false h]
theorem EE (h:k<us.length):(eM us)[0+k*5]? =some (tv (.int .i64 (aU us k).1)):=by
 have h1:=congrArg (·[0]?) (Kc h)
 simp only[List.getElem?_take,List.getElem?_drop]at h1
 simpa[cJ,tv]using h1
theorem LP (h:k<us.length):0+k*5+5≤(eM us).length:=by rw[mD];omega
theorem GZ {q:Rat}(h:k<us.length):0+k*5+1+(((Fr4.of q).tr false).map AV.t).length≤(eM us).length:=by
 rw[mD]
 show 0+k*5+1+4≤_
 omega
theorem Ip (us:List (Int×Rat)) (k:Nat):(us.flatMap (cJ false)).take (k*5)=(us.take k).flatMap (cJ false):=by
 by_cases h:k≤us.length
 ·conv=>lhs;rw[←List.take_append_drop k us,List.flatMap_append]
  exact List.take_left' (by rw[bN,List.length_take,Nat.min_eq_left h])
 rw[List.take_of_length_le (by rw[bN];omega),List.take_of_length_le (by omega)]
theorem Zl (us:List (Int×Rat)) (k:Nat):(us.flatMap (cJ false)).drop (k*5)=(us.drop k).flatMap (cJ false):=by
 by_cases h:k≤us.length
 ·conv=>lhs;rw[←List.take_append_drop k us,List.flatMap_append]
  exact List.drop_left' (by rw[bN,List.length_take,Nat.min_eq_left h])
 rw[List.drop_of_length_le (by rw[bN];omega),List.drop_of_length_le (by omega)]
 rfl
theorem EC (h:k<us.length):cT (eM us) (0+k*5) ((cJ false x).map AV.t)=eM (us.set k x):=by
 have e:k*5+((cJ false x).map AV.t).length=(k+1)*5:=by show k*5+5=_;omega
 rw[Nat.zero_add]
 unfold cT eM
 rw[e,←List.map_take,←List.map_drop,Ip,Zl,←List.map_append,←List.map_append,List.set_eq_take_append_cons_drop,if_pos h]
 simp[List.flatMap_append]
theorem RE {q:Rat}(h:k<us.length):cT (eM us) (0+k*5+1) (((Fr4.of q).tr false).map AV.t)=eM (us.set k ((aU us k).1,q)):=by
 rw[←EC h]
 have h1:(eM us).take (0+k*5+1)=(eM us).take (0+k*5)++[tv (.int .i64 (aU us k).1)]:=by
  rw[List.take_add_one,EE h]
  rfl
 unfold cT
 rw[h1]
 have e:0+k*5+1+(((Fr4.of q).tr false).map AV.t).length=0+k*5+((cJ false ((aU us k).1,q)).map AV.t).length:=by show 0+k*5+1+4=0+k*5+5;omega
 rw[e]
 simp[cJ,tv]
theorem DO (us:List (Int×Rat)) (k:Nat):(eM us).take (k*5)=((us.take k).flatMap (cJ false)).map .t:=by rw[eM,←List.map_take,Ip]
theorem cC (l:List Tr) (n:Nat) (h:l.length=n):(l.map AV.t).take n=l.map .t:=List.take_of_length_le (by simp[h])
theorem Di (o:Bool) (us:List (Int×Rat)):rdTL (us.flatMap (cJ o))=us.flatMap (cJ false):=by
 have app:∀a b:List Tr,rdTL (a++b)=rdTL a++rdTL b:=by
  intro a b
  induction a with
  | nil=>rfl
  | cons x a ih=>simp[rdTL,ih]
 have u32:∀xs:List Nat,rdTL (aV xs)=aV xs:=by
  intro xs
  induction xs with
  | nil=>rfl
  | cons x xs ih=>simpa[aV,rdTL,gR]using ih
 induction us with
 | nil=>rfl
 | cons x us ih=>
  show rdTL (cJ o x++us.flatMap (cJ o))=cJ false x++us.flatMap (cJ false)
  rw[app,ih]
  simp[cJ,Fr4.tr,rdTL,gR,sU,u32]
theorem Sj (us:List (Int×Rat)):NoFrL (us.flatMap (cJ true)):=by
 have app:∀a b:List Tr,NoFrL a→NoFrL b→NoFrL (a++b):=by
  intro a b ha hb
  induction a with
  | nil=>exact hb
  | cons x a ih=>
   simp only[NoFrL]at ha
   simp only[List.cons_append,NoFrL]
   exact⟨ha.1,ih ha.2⟩
 induction us with
 | nil=>simp[NoFrL]
 | cons x us ih=>
  rw[List.flatMap_cons]
  refine app _ _ ?_ ih
  simp only[cJ,Fr4.tr,sU,NoFrL,nK]
  exact⟨trivial,trivial,.inl ⟨trivial,fI _⟩,trivial,.inl ⟨trivial,fI _⟩,trivial⟩
theorem KE (t:Nat) (us:List (Int×Rat)):kR (.one (.t (sO t us))):=.inl ⟨rfl,Sj us⟩
theorem DP (x:Int×Rat):kR (.agg ((cJ true x).map .t)):=by
 simp only[kR,pR,cJ,Fr4.tr,sU,List.map_cons,List.map_nil,lZ,tB,nK]
 exact⟨trivial,trivial,.inl ⟨trivial,fI _⟩,trivial,.inl ⟨trivial,fI _⟩,trivial⟩
end
section
variable {x:Cx}{g:Nat→FV}{ob:List (Option Ob)}
theorem VA {j k1 k2 e:Nat}{us:List (Int×Rat)}{y:Int}{q:Rat}(hn:Nat.beq k1 k2=false) (h1:Nat.beq j k1=false) (h2:Nat.beq j k2=false) (ho:bY ob j=some ⟨e,5,pH us++[tv (.int .i64 y),tv (.bool (aL q.num)),.sl k1 0 (dg 4294967296 q.num.natAbs).length,tv (.bool false),.sl k2 0 (dg 4294967296 q.den).length]⟩)
  (o1:bY ob k1=some ⟨109,1,(aV (dg 4294967296 q.num.natAbs)).map .t⟩) (o2:bY ob k2=some ⟨109,1,(aV (dg 4294967296 q.den)).map .t⟩):Sub x g ob g ((((ob.set j (some ⟨e,5,pH us++[tv (.int .i64 y),tv (.bool (aL q.num)),.t (sU true (dg 4294967296 q.num.natAbs)),tv (.bool false),.sl k2 0 (dg 4294967296 q.den).length]⟩)).set k1 none).set j (some ⟨e,5,pH (us++[(y,q)])⟩)).set k2 none):=by
 have hk:∀{l:List (Option Ob)}{i m:Nat}{o:Option Ob},Nat.beq i m=false→bY (l.set i o) m=bY l m:=fun{l i m o} h=>by
  unfold bY
  rw[List.getElem?_set_ne (fun e=>by subst e;simp at h)]
 have hjl:=(List.getElem?_eq_some_iff.1 (cS ho)).1
 have hk1l:=(List.getElem?_eq_some_iff.1 (cS o1)).1
 have hb:∀{a b:Nat},Nat.beq a b=false→Nat.beq b a=false:=fun{a b} h=>by
  cases hq:Nat.beq b a
  ·rfl
  rw[Nat.eq_of_beq_eq_true hq]at h
  simp at h
 have hlen:=zN us
 have s1:=jQ (x:=x) (g:=g) (ob:=ob) (j:=j) (k:=k1) (p:=us.length*5+2) (e:=109) (z:=1) (n:=(dg 4294967296 q.num.natAbs).length) (trs:=aV (dg 4294967296 q.num.natAbs)) h1 rfl ho o1 (by rw[List.getElem?_append_right (by omega)];simp[hlen]) (bB _) (aY _)
  (l':=pH us++[tv (.int .i64 y),tv (.bool (aL q.num)),.t (sU true (dg 4294967296 q.num.natAbs)),tv (.bool false),.sl k2 0 (dg 4294967296 q.den).length]) (by rw[List.set_append_right _ _ (by omega),hlen,show us.length*5+2-us.length*5=2 by omega];rfl)
 have s2:=jQ (x:=x) (g:=g) (ob:=(ob.set j (some ⟨e,5,pH us++[tv (.int .i64 y),tv (.bool (aL q.num)),.t (sU true (dg 4294967296 q.num.natAbs)),tv (.bool false),.sl k2 0 (dg 4294967296 q.den).length]⟩)).set k1 none) (j:=j) (k:=k2) (p:=us.length*5+4) (e:=109) (z:=1) (n:=(dg 4294967296 q.den).length) (trs:=aV (dg 4294967296 q.den)) (t':=e) (z':=5) h2 rfl
  (by rw[hk (hb h1)];unfold bY;rw[List.getElem?_set_self hjl]) (by rw[hk hn,hk h2];exact o2) (by rw[List.getElem?_append_right (by omega)];simp[hlen]) (bB _) (aY _)
  (l':=pH (us++[(y,q)])) (by rw[List.set_append_right _ _ (by omega),hlen,show us.length*5+4-us.length*5=4 by omega,←DN];rfl)
 exact fun ts W hR=>s2 ts W (s1 ts W hR)
end
def jY (dl:Int×Rat→Bool):List (Int×Rat)→Nat
 | []=>0
 | x::l=>if dl x then 0 else jY dl l+1
def dW (dl:Int×Rat→Bool) (vs:List (Int×Rat)):List (Int×Rat):=vs.filter fun x=> !dl x
def zV:List Value:=[.int .i64 0,.bool false,.slice none 0 0,.bool false,.slice none 0 0]
def nT (vs F:List (Int×Rat)):List Tr:=F.flatMap (cJ false)++(gW zV (vs.length-F.length)).map .v
section
variable {dl:Int×Rat→Bool}{vs us:List (Int×Rat)}{i j k:Nat}
theorem Jz:∀(vs:List (Int×Rat)),jY dl vs≤vs.length
 | []=>Nat.le_refl _
 | x::l=>by
  have:=Jz l
  unfold jY
  split <;> simp <;> omega
theorem vR:∀{vs:List (Int×Rat)}{k:Nat},k≤jY dl vs→k<vs.length→(dl (aU vs k)=true→jY dl vs=k)∧(dl (aU vs k)=false→k+1≤jY dl vs)
 | [],_,_,h=>by simp at h
 | x::l,0,_,_=>by
  have e:aU (x::l) 0=x:=rfl
  rw[e]
  unfold jY
  constructor
  ·intro h;simp[h]
  intro h;simp[h]
 | x::l,k+1,h,h2=>by
  have e:aU (x::l) (k+1)=aU l k:=by simp[aU]
  rw[e]
  unfold jY at h⊢
  by_cases hx:dl x=true
  ·simp[hx]at h
  simp only[if_neg hx]at h⊢
  have:=vR (vs:=l) (k:=k) (by omega) (by simpa using h2)
  exact⟨fun h=>by rw[this.1 h],fun h=>by have:=this.2 h;omega⟩
theorem Cu:∀{vs:List (Int×Rat)}{k:Nat},k≤jY dl vs→(vs.take k).filter (fun x=> !dl x)=vs.take k
 | vs,0,_=>by simp
 | [],k+1,_=>by simp
 | x::l,k+1,h=>by
  unfold jY at h
  by_cases hx:dl x=true
  ·simp[hx]at h
  simp only[if_neg hx]at h
  have:=Cu (vs:=l) (k:=k) (by omega)
  simp[hx,this]
theorem Kd (h:jY dl vs=vs.length):dW dl vs=vs:=by
 have:=Cu (dl:=dl) (vs:=vs) (k:=vs.length) (by omega)
 rwa[List.take_of_length_le (Nat.le_refl _)]at this
theorem Ke (h:k<us.length) (x:Int×Rat):aU (us.set k x) k=x:=by simp[aU,h]
theorem Vm (h:jY dl vs<vs.length):vs.take (jY dl vs)=(vs.take (jY dl vs+1)).filter (fun x=> !dl x):=by
 have h1:dl (aU vs (jY dl vs))=true:=by
  cases hq:dl (aU vs (jY dl vs))with
  | true=>rfl
  | false=>
   have:=(vR (Nat.le_refl _) h).2 hq
   omega
 rw[kV h,List.filter_append,Cu (Nat.le_refl _)]
 simp[h1]
theorem AC (h:us.take i=(vs.take j).filter (fun x=> !dl x)) (hj:j<vs.length) (hx:dl (aU vs j)=false) (hi:i<us.length):(us.set i (aU vs j)).take (i+1)=(vs.take (j+1)).filter (fun x=> !dl x):=by
 rw[kV (by simpa using hi),List.take_set_of_le (Nat.le_refl _),h,Ke hi,kV hj,List.filter_append]
 simp[hx]
theorem AB (h:us.take i=(vs.take j).filter (fun x=> !dl x)) (hj:j<vs.length) (hx:dl (aU vs j)=true):us.take i=(vs.take (j+1)).filter (fun x=> !dl x):=by
 rw[h,kV hj,List.filter_append]
 simp[hx]
theorem LQ (h:i≠j) (x:Int×Rat):aU (us.set i x) j=aU us j:=by simp[aU,List.getElem?_set_ne h]
theorem Vn (hul:us.length=vs.length) (hi:i≤us.length) (h:us.take i=dW dl vs):cT (eM us) (0+i*5) ((gW zV (us.length-i)).map tv)=(nT vs (dW dl vs)).map .t:=by
 have hl:(dW dl vs).length=i:=by rw[←h,List.length_take,Nat.min_eq_left hi]
 unfold cT nT
 rw[Nat.zero_add,DO,h,List.drop_of_length_le (by rw[mD,List.length_map,rV];show us.length*5≤i*5+(us.length-i)*5;omega),List.append_nil,hl,hul]
 simp[tv]
theorem Vo (h:dW dl vs=vs):eM vs=(nT vs (dW dl vs)).map .t:=by
 unfold nT
 rw[h,Nat.sub_self]
 simp[gW,eM]
theorem Sv (vs F:List (Int×Rat)):((nT vs F).map AV.t).take (F.length*5)=(F.flatMap (cJ false)).map .t:=by
 unfold nT
 rw[List.map_append]
 exact List.take_left' (by rw[List.length_map,bN])
theorem xN {fr:Int}(p:Rat) (h:k<vs.length):aW fr (vs.take (k+1)) p=kE fr (aW fr (vs.take k) p) (aU vs k):=by
 unfold aW
 rw[kV h,List.foldl_append]
 rfl
theorem AF {α:Type}{a b us:List α}{k:Nat}{x y:α}(h:us=a++x::b) (ha:a.length=k):us.set k y=(a++[y])++b:=by
 subst h
 rw[List.set_append_right _ _ (by omega),ha,Nat.sub_self]
 simp
theorem Dh (h:k<vs.length):vs.drop k=aU vs k::vs.drop (k+1):=by
 rw[List.drop_eq_getElem_cons h]
 congr 1
 simp[aU,h]
theorem AE {a b us:List (Int×Rat)}{k:Nat}{x:Int×Rat}(h:us=a++x::b) (ha:a.length=k):aU us k=x:=by
 subst h
 unfold aU
 rw[List.getD_eq_getElem?_getD,List.getElem?_append_right (by omega),ha,Nat.sub_self]
 rfl
end
structure StOk (X:List (Int×Rat)) (n B:Nat):Prop where
 pos:∀x∈X,0<x.2
 len:X.length≤n
 size:hH (X.map Prod.snd)≤B
section
variable {X:List (Int×Rat)}{n B n' B':Nat}
theorem KF (fr:Int) (p:Rat):∀(xs:List (Int×Rat)),hH ((aW fr xs p).1.map Prod.snd)+wt (aW fr xs p).2.2≤hH (xs.map Prod.snd)+wt p+2*xs.length:=by
 intro xs
 have key:∀(xs:List (Int×Rat)) (s:List (Int×Rat)×List (Int×Rat)×Rat),hH ((xs.foldl (kE fr) s).1.map Prod.snd)+wt (xs.foldl (kE fr) s).2.2≤hH (s.1.map Prod.snd)+wt s.2.2+hH (xs.map Prod.snd)+2*xs.length:=by
  intro xs
  induction xs with
  | nil=>intro s;simp[hH]
  | cons x xs ih=>
   intro s
   rw[List.foldl_cons]
   refine Nat.le_trans (ih _) ?_
   have e:hH ((x::xs).map Prod.snd)=wt x.2+hH (xs.map Prod.snd):=by simp[hH]
   rw[e,List.length_cons]
   by_cases hc:fr≤x.1∧0<s.2.2.num.sign
   ·have h1:=rD (s:=s) (y:=x.1) (q:=x.2) hc.1 hc.2
    have h2:=Yx x.2 s.2.2
    rw[show kE fr s x=kE fr s (x.1,x.2) from rfl,h1]
    dsimp only
    rw[List.map_append,vT]
    simp only[List.map_cons,List.map_nil,hH,List.sum_cons,List.sum_nil]at h2⊢
    omega
   rw[qP hc]
   dsimp only
   rw[List.map_append,vT]
   simp only[List.map_cons,List.map_nil,hH,List.sum_cons,List.sum_nil]
   omega
 have:=key xs ([],[],p)
 have e:hH (([]:List (Int×Rat)).map Prod.snd)=0:=rfl
 unfold aW
 dsimp only at this
 rw[e]at this
 omega
theorem StOk.zU {fr:Int}{p:Rat}{L:Nat}(h:StOk X n B) (hB:B+wt p+2*n≤L):∀x∈(aW fr X p).1,Sz L x.2:=by
 intro x hx
 refine pI.2 ?_
 have h1:=KF fr p X
 have h2:wt x.2≤hH ((aW fr X p).1.map Prod.snd):=Pb (List.mem_map.2 ⟨x,hx,rfl⟩)
 have h3:wt x.2=xM x.2+1:=rfl
 have h4:=h.size
 have h5:=h.len
 omega
end
theorem Oa {L:Nat}{k:Int}(h:vI L k):vI L (-k):=by
 unfold vI
 rw[Int.natAbs_neg]
 exact h
theorem Fe {n:Int}(h1:-9223372036854775808≤n) (h2:n≤9223372036854775807):vI 2 n:=pN h1 h2
theorem eV {n d:Int}(h1:-9223372036854775808≤n) (h2:n≤9223372036854775807) (h3:-9223372036854775808≤d) (h4:d≤9223372036854775807):Sz 2 (Rat.divInt n d):=by
 rcases Int.lt_trichotomy d 0 with hd | hd | hd
 ·rw[←Rat.neg_divInt_neg]
  obtain⟨e1,e2⟩:=pT (a:=-n) (b:=-d) (L:=2) (M:=2) (by omega) (Oa (Fe h1 h2)) (Oa (Fe h3 h4))
  exact⟨e1,e2⟩
 ·subst hd
  rw[Rat.divInt_zero]
  exact⟨Nat.zero_le _,by decide⟩
 obtain⟨e1,e2⟩:=pT (a:=n) (b:=d) (L:=2) (M:=2) hd (Fe h1 h2) (Fe h3 h4)
 exact⟨e1,e2⟩
abbrev At:=Int×Int×Fr4
section
variable {xs:List At}{k:Nat}
end
section
variable {ls:List Fr4}{k:Nat}{a:Fr4}
end
section
variable {Z:List (Int×Rat)}{rest r4:List Tr}{k:Nat}{q:Rat}{a:Fr4}
end
inductive Pts (L:Nat):List (Int×Rat)→List (Int×Rat)→List (Int×Rat)→Prop
 | nil {Z:List (Int×Rat)}:Pts L Z [] Z
 | cons {Z us Z':List (Int×Rat)}{u:Int×Rat}{k:Nat}{r:Rat}(hk:Z[k]? =some (u.1,r)) (hr:0<r) (hf:∀j,j<k→¬((aU Z j).1=u.1∧0<(aU Z j).2)) (hu:0<u.2) (hle:u.2≤r) (hs:Sz L (r-u.2)) (h:Pts L (Z.set k (u.1,r-u.2)) us Z'):Pts L Z (u::us) Z'
def ZJ (L:List (Int×Rat)):Prop:=(L.map Prod.fst).Pairwise (· < ·)
def YQ (Z:List (Int×Rat)):List (Int×Rat):=Z.filter fun x=>decide (0<x.2)
inductive UseOf:List (Int×Rat)→List (Int×Rat)→List (Int×Rat)→Prop
 | nil:UseOf [] [] []
 | skip {x:Int×Rat}{vs us vs':List (Int×Rat)}(h:UseOf vs us vs'):UseOf (x::vs) us (x::vs')
 | part {y:Int}{q m:Rat}{vs us vs':List (Int×Rat)}(h0:0<m) (h1:m<q) (h:UseOf vs us vs'):UseOf ((y,q)::vs) ((y,m)::us) ((y,q-m)::vs')
 | all {y:Int}{q:Rat}{vs us vs':List (Int×Rat)}(h0:0<q) (h:UseOf vs us vs'):UseOf ((y,q)::vs) ((y,q)::us) vs'
section
variable {Z vs us vs':List (Int×Rat)}{L:Nat}
end
theorem pO (a:Rat) (l:List Rat):fS (a::l)=a+fS l:=by
 have key:∀(l:List Rat) (a:Rat),l.foldl (· + ·) a=a+l.foldl (· + ·) 0:=by
  intro l
  induction l with
  | nil=>intro a;show a=a+0;grind
  | cons b l ih=>
   intro a
   rw[List.foldl_cons,List.foldl_cons,ih (a+b),ih (0+b)]
   grind
 unfold fS
 rw[List.foldl_cons,key]
 grind
section
variable {fr:Int}{vs:List (Int×Rat)}{r:Rat}{x:Int×Rat}
theorem nR (fr:Int):∀(vs a b:List (Int×Rat)) (r:Rat),vs.foldl (kE fr) (a,b,r)=(a++(aW fr vs r).1,b++(aW fr vs r).2.1,(aW fr vs r).2.2)
 | [],a,b,r=>by simp[aW]
 | x::vs,a,b,r=>by
  unfold aW
  rw[List.foldl_cons,List.foldl_cons]
  by_cases hc:fr≤x.1∧0<r.num.sign
  ·rw[show kE fr (a,b,r) x=_ from rD (s:=(a,b,r)) (y:=x.1) (q:=x.2) hc.1 hc.2,show kE fr ([],[],r) x=_ from rD (s:=([],[],r)) (y:=x.1) (q:=x.2) hc.1 hc.2]
   rw[nR fr vs _ _ _,nR fr vs _ _ _]
   simp
  rw[qP (s:=(a,b,r)) hc,qP (s:=([],[],r)) hc,nR fr vs _ _ _,nR fr vs _ _ _]
  simp
theorem Cv (h1:fr≤x.1) (h2:0<r):aW fr (x::vs) r=((x.1,x.2-aZ x.2 [r])::(aW fr vs (r-aZ x.2 [r])).1,(x.1,aZ x.2 [r])::(aW fr vs (r-aZ x.2 [r])).2.1,(aW fr vs (r-aZ x.2 [r])).2.2):=by
 have:aW fr (x::vs) r=vs.foldl (kE fr) (kE fr ([],[],r) x):=rfl
 rw[this,show kE fr ([],[],r) x=_ from rD (s:=([],[],r)) (y:=x.1) (q:=x.2) h1 ((mK r).2 h2),nR]
 rfl
theorem Hg (h:¬(fr≤x.1∧0<r)):aW fr (x::vs) r=(x::(aW fr vs r).1,(aW fr vs r).2.1,(aW fr vs r).2.2):=by
 have:aW fr (x::vs) r=vs.foldl (kE fr) (kE fr ([],[],r) x):=rfl
 rw[this,qP (s:=([],[],r)) (by rwa[mK]),nR]
 rfl
structure UseP (fr:Int) (r:Rat) (vs us vs':List (Int×Rat)) (r':Rat):Prop where
 use:UseOf vs us vs'
 yrs:∀u∈us,fr≤u.1
 sum:r=fS (us.map Prod.snd)+r'
 low:0≤r→0≤r'
 non:r≤0→us=[]
 full:∀z∈vs',fr≤z.1→r'≤0∧∀u∈us,u.1≤z.1
end
section
variable {Z Z' us:List (Int×Rat)}{L k:Nat}{u:Int×Rat}
end
section
variable {x:Cx}{g:Nat→FV}{ob ob':List (Option Ob)}{Q:Post}{ops:Array Oper}{rest:List Oper}{d:Nat}{ty:TypeId}{pos:String}{af:Array Edge}{gd:Option (Nat×Bool)}{T:List (Nat×TI)}
theorem KG {k t z n:Nat}(t':Nat){l l':List Tr}(ho:bY ob k=some ⟨t,z,l.map .t⟩) (hz:l.length=n*z) (hl:rdTL l=l'):Jl x g ob k ⟨t,z,l.map .t⟩ (.sl k 0 n) (.s false t' z n l'):=fun cs ts W hR m2 m3 u e2=>by
 have h:=Mi t' ho hz cs ts W hR m2 m3 u e2
 simp only[AR]at h⊢
 have h9:=vA _ _ h
 rw[gR,hl]at h9
 exact h9
theorem MA {i k t z n:Nat}(t':Nat){l l':List Tr}{fv fv':FV}(hi:Nat.blt i x.n=true) (hg:g i=fv) (ho:bY ob k=some ⟨t,z,l.map .t⟩) (hz:l.length=n*z) (hl:rdTL l=l') (hf:FzF (.sl k 0 n) (.s false t' z n l') fv fv'):Sub x g ob (bH g i fv') (ob.set k none):=Gp hi hg ho hf (KG t' ho hz hl)
variable {late:Nat→Bool}{K fr:List Nat}{on:Bool}{fuel:Nat}{listed:Array Bool}
end
def z4:List Tr:=[.v (.bool false),.v (.slice none 0 0),.v (.bool false),.v (.slice none 0 0)]
structure WhOk (Z vs:List (Int×Rat)) (last:Int) (put:Bool):Prop where
 pos:YQ Z=vs
 low:∀z∈Z,0≤z.2
 ok:StOk vs Z.length (100*Z.length)
 asc:ZJ vs
 yrs:∀x∈vs,-9223372036854775808≤x.1
 last:∀x∈vs,put=true∧x.1≤last
section
variable {Z vs us vs':List (Int×Rat)}{last y:Int}{put rt:Bool}{p:Rat}
end
section
variable {vs us vs':List (Int×Rat)}{last y:Int}{put rt:Bool}{p:Rat}
end
abbrev Gt:=Int×Fr4
def gtr (o:Bool) (x:Gt):List Tr:=.v (.int .i64 x.1)::x.2.tr o
section
variable {xs:List Gt}{k:Nat}
end
abbrev Ls:=List (Int×Rat)×Int×Bool
section
variable {xs:List Gt}{k:Nat}{s:Ls}{r:Option Ls}
end
section
variable {x:Cx}{g:Nat→FV}{ob:List (Option Ob)}{Q Q':Post}
end
structure Us where
 v:Int
 y:Int
 n:Rat
 p:Rat
 q:Rat
def eH (U:List Us) (y:Int):Rat:=fS ((U.filter fun u=>decide (u.y=y)).map Us.n)
def uE (U:List Us) (v:Int):Rat:=fS ((U.filter fun u=>decide (u.v=v)).map Us.n)
def abv (x:Rat):Rat:=jX x [0]
theorem kZ (x:Rat):abv x=if x<0 then 0 else x:=rfl
theorem zG (x:Rat):0≤abv x:=by rw[kZ];split <;> grind
theorem Zm {x:Rat}(h:0≤x):abv x=x:=by rw[kZ];split <;> grind
theorem Ql {x:Rat}(h:0<abv x):abv x=x:=by rw[kZ]at*;split at h <;> grind
theorem sW (a b:Rat):aZ a [b]=if b<a then b else a:=rfl
theorem oU (a b:Rat):aZ a [b]≤a:=by rw[sW];split <;> grind
theorem nI (a b:Rat):aZ a [b]≤b:=by rw[sW];split <;> grind
theorem KH {a b:Rat}(ha:0≤a) (hb:0≤b):0≤aZ a [b]:=by rw[sW];split <;> grind
structure Mx where
 inc:Nat→Rat
 ring:Nat→Rat
 cap:Rat
 b:Nat
 w:Nat
namespace Mx
def lim (M:Mx) (y:Nat):Rat:=M.cap*abv (M.inc y)
def los (M:Mx) (v:Nat):Rat:=abv (0-M.inc v)
def tax (M:Mx) (U:List Us) (y:Nat):Rat:=abv (M.inc y)-(M.ring y+eH U y)
def left (M:Mx) (U:List Us) (v:Nat):Rat:=M.los v-uE U v
def room (M:Mx) (U:List Us) (y:Nat):Rat:=abv (M.lim y-(M.ring y+eH U y))
def app (M:Mx) (U:List Us) (v:Int) (y:Nat) (n:Rat):List Us:=U++[⟨v,y,n,M.tax U y,M.tax U y-n⟩]
def us (M:Mx) (U:List Us) (v:Int) (y:Nat) (n:Rat):List Us:=if 0<n then M.app U v y n else U
def use (M:Mx) (U:List Us) (v y:Nat):List Us:=M.us U v y (aZ (M.left U v) [M.room U y])
def back (M:Mx) (U:List Us) (y j:Nat):List Us:=(List.range' (y-M.b) j).foldl (fun U x=>M.use U y x) U
def fwd (M:Mx) (U:List Us) (y j:Nat):List Us:=(List.range' (y-M.w) j).foldl (fun U v=>M.use U v y) U
def step (M:Mx) (U:List Us) (y:Nat):List Us:=if M.inc y<0 then M.back U y (y-(y-M.b))else M.fwd U y (y-(y-M.w))
def run (M:Mx):Nat→List Us
 | 0=>[]
 | y+1=>M.step (M.run y) y
end Mx
section
variable {M M':Mx}{U U':List Us}{v v' y y' j n k:Nat}{m:Rat}
theorem Hh {v:Int}{y':Int}:eH (M.app U v y m) y'=if(y:Int)=y' then eH U y'+m else eH U y':=by
 unfold eH Mx.app
 rw[List.filter_append,List.map_append]
 split
 ·rename_i h
  rw[List.filter_cons_of_pos (by simpa using h)]
  exact sL _ _
 rename_i h
 rw[List.filter_cons_of_neg (by simpa using h)]
 simp
theorem Sk {v v':Int}:uE (M.app U v y m) v'=if v=v' then uE U v'+m else uE U v':=by
 unfold uE Mx.app
 rw[List.filter_append,List.map_append]
 split
 ·rename_i h
  rw[List.filter_cons_of_pos (by simpa using h)]
  exact sL _ _
 rename_i h
 rw[List.filter_cons_of_neg (by simpa using h)]
 simp
theorem Ce:M.left (M.app U (v:Int) y m) v=M.left U v-m:=by
 unfold Mx.left
 rw[Sk,if_pos rfl]
 grind
theorem Br (h:v≠v'):M.left (M.app U (v:Int) y m) v'=M.left U v':=by
 unfold Mx.left
 rw[Sk,if_neg (by omega)]
theorem KI {v:Int}:M.tax (M.app U v y m) y=M.tax U y-m:=by
 unfold Mx.tax
 rw[Hh,if_pos rfl]
 grind
theorem sC {v:Int}:eH (M.app U v y m) y=eH U y+m:=by rw[Hh,if_pos rfl]
theorem qM {v:Int}(h:y≠y'):eH (M.app U v y m) y'=eH U y':=by rw[Hh,if_neg (by omega)]
theorem Vc {v:Int}(h:y≠y'):M.tax (M.app U v y m) y'=M.tax U y':=by
 unfold Mx.tax
 rw[qM h]
theorem Cf {v:Int}(h0:0<m) (h:m≤M.room U y):M.room (M.app U v y m) y=M.room U y-m:=by
 unfold Mx.room at*
 rw[sC]
 have h2:=Ql (x:=M.lim y-(M.ring y+eH U y)) (by grind)
 rw[h2]at h⊢
 rw[show M.lim y-(M.ring y+(eH U y+m))=M.lim y-(M.ring y+eH U y)-m by grind]
 exact Zm (by grind)
theorem Ge:0≤M.room U y:=zG _
theorem lX (h:¬0<aZ (M.left U v) [M.room U y]):M.use U v y=U:=if_neg h
theorem mG (h:0<aZ (M.left U v) [M.room U y]):M.use U v y=M.app U v y (aZ (M.left U v) [M.room U y]):=if_pos h
theorem mY (h:v≠v'):M.left (M.use U v y) v'=M.left U v':=by
 by_cases hp:0<aZ (M.left U v) [M.room U y]
 ·rw[mG hp];exact Br h
 rw[lX hp]
theorem Kk (h:0≤M.left U v):M.left (M.use U v y) v=M.left U v-aZ (M.left U v) [M.room U y]∧0≤M.left (M.use U v y) v:=by
 have h1:=KH h (Ge (M:=M) (U:=U) (y:=y))
 have h2:=oU (M.left U v) (M.room U y)
 by_cases hp:0<aZ (M.left U v) [M.room U y]
 ·rw[mG hp,Ce]
  grind
 rw[lX hp]
 grind
def wl (M:Mx) (U:List Us) (I:List Nat):List (Int×Rat):=I.filterMap fun i=>if 0<M.left U i then some ((i:Int),M.left U i)else none
theorem lE {I:List Nat}(h:0<M.left U v):wl M U (v::I)=((v:Int),M.left U v)::wl M U I:=by
 unfold wl
 rw[List.filterMap_cons,if_pos h]
theorem nE {I:List Nat}(h:¬0<M.left U v):wl M U (v::I)=wl M U I:=by
 unfold wl
 rw[List.filterMap_cons,if_neg h]
theorem Be:∀{I:List Nat},(∀i∈I,M.left U i=M.left U' i)→wl M U I=wl M U' I
 | [],_=>rfl
 | i::I,h=>by
  have e:=h i (List.mem_cons_self ..)
  have ih:=Be (I:=I) fun j hj=>h j (List.mem_cons_of_mem _ hj)
  by_cases hp:0<M.left U i
  ·rw[lE hp,lE (by rw[←e];exact hp),e,ih]
  rw[nE hp,nE (by rw[←e];exact hp),ih]
theorem mC {v':Nat}:∀(I:List Nat) (U:List Us),v'∉I→M.left (I.foldl (fun U v=>M.use U v y) U) v'=M.left U v'
 | [],_,_=>rfl
 | i::I,U,h=>by
  rw[List.foldl_cons,mC I _ fun h9=>h (List.mem_cons_of_mem _ h9)]
  exact mY fun e=>h (e▸List.mem_cons_self ..)
theorem Pe {fr:Int}:∀(I:List Nat) (U:List Us),I.Nodup→(∀i∈I,fr≤(i:Int))→(∀i∈I,0≤M.left U i)→
  I.foldl (fun U v=>M.use U v y) U=(aW fr (wl M U I) (M.room U y)).2.1.foldl (fun U x=>M.us U x.1 y x.2) U∧
  wl M (I.foldl (fun U v=>M.use U v y) U) I=(aW fr (wl M U I) (M.room U y)).1.filter (fun x=> !nM x.1 x.2)
 | [],U,_,_,_=>⟨rfl,rfl⟩
 | i::I,U,hn,hf,h0=>by
  obtain⟨hi,hn⟩:=List.nodup_cons.1 hn
  have hf':∀i∈I,fr≤(i:Int):=fun j hj=>hf j (List.mem_cons_of_mem _ hj)
  have hfi:=hf i (List.mem_cons_self ..)
  have h0i:=h0 i (List.mem_cons_self ..)
  have ne:∀j∈I,i≠j:=fun j hj e=>hi (e▸hj)
  obtain⟨ih1,ih2⟩:=Pe (fr:=fr) I (M.use U i y) hn hf' fun j hj=>by rw[mY (ne j hj)];exact h0 j (List.mem_cons_of_mem _ hj)
  have hw:wl M (M.use U i y) I=wl M U I:=Be fun j hj=>mY (ne j hj)
  rw[hw]at ih1 ih2
  have hl9:=mC (M:=M) (y:=y) I (M.use U i y) hi
  rw[List.foldl_cons]
  by_cases hp:0<M.left U i
  ·rw[lE hp]
   by_cases hr:0<M.room U y
   ·have hm:0<aZ (M.left U i) [M.room U y]:=by rw[sW];split <;> assumption
    have hroom:M.room (M.use U i y) y=M.room U y-aZ (M.left U i) [M.room U y]:=by rw[mG hm];exact Cf hm (nI _ _)
    rw[Cv (x:=((i:Int),M.left U i)) hfi hr]
    rw[hroom]at ih1 ih2
    dsimp only
    refine⟨?_,?_⟩
    ·rw[ih1,List.foldl_cons]
     rfl
    have hl:=(Kk (M:=M) (y:=y) h0i).1
    by_cases hz:0<M.left U i-aZ (M.left U i) [M.room U y]
    ·rw[lE (by rw[hl9,hl];exact hz),List.filter_cons_of_pos (by simp only[nM,Bool.not_eq_true',decide_eq_false_iff_not];have:=(mK _).2 hz;omega),hl9,hl,ih2]
    have:M.left U i-aZ (M.left U i) [M.room U y]=0:=by have:=oU (M.left U i) (M.room U y);grind
    rw[nE (by rw[hl9,hl];exact hz),List.filter_cons_of_neg (by rw[this];simp[nM]),ih2]
   have hno:M.use U i y=U:=lX (by have:=nI (M.left U i) (M.room U y);grind)
   rw[Hg (x:=((i:Int),M.left U i)) (fun h=>hr h.2)]
   rw[hno]at ih1 ih2 hl9⊢
   dsimp only
   refine⟨ih1,?_⟩
   rw[lE (by rw[hl9];exact hp),List.filter_cons_of_pos (by simp only[nM,Bool.not_eq_true',decide_eq_false_iff_not];have:=(mK _).2 hp;omega),hl9,ih2]
  have hno:M.use U i y=U:=lX (by have:=oU (M.left U i) (M.room U y);grind)
  rw[hno]at ih1 ih2 hl9⊢
  rw[nE hp,nE (by rw[hl9];exact hp)]
  exact⟨ih1,ih2⟩
end
section
variable {α:Type}{f:α→List Tr}{z k o:Nat}{xs:List α}{x x':α}{us:List Tr}
theorem aP (hf:∀x,(f x).length=z) (h:xs[k]? =some x) (hm:o+us.length≤z) (hu:((f x).drop o).take us.length=us):((xs.flatMap f).drop (k*z+o)).take us.length=us:=by
 rw[Nt hf h hm]
 exact hu
theorem fV (hf:∀x,(f x).length=z) (h:xs[k]? =some x) (hm:o+us.length≤z) (hu:((f x).drop o).take us.length=us):(((xs.flatMap f).map AV.t).drop (0+k*z+o)).take (us.map AV.t).length=us.map .t:=by
 rw[←List.map_drop,←List.map_take,Nat.zero_add,List.length_map,aP hf h hm hu]
theorem DQ (h:k<xs.length):xs=xs.take k++xs[k]::xs.drop (k+1):=by
 rw[←List.drop_eq_getElem_cons h,List.take_append_drop]
theorem lN (hf:∀x,(f x).length=z) (h:xs[k]? =some x) (hm:o+us.length≤z) (hx:f x'=(f x).take o++us++(f x).drop (o+us.length)):cT ((xs.flatMap f).map AV.t) (0+k*z+o) (us.map AV.t)=((xs.set k x').flatMap f).map .t:=by
 obtain⟨hk,rfl⟩:=List.getElem?_eq_some_iff.1 h
 rw[←By,Nat.zero_add]
 congr 1
 have hA:((xs.take k).flatMap f).length=k*z:=by rw[gA hf,List.length_take,Nat.min_eq_left (by omega)]
 have e:xs.flatMap f=(xs.take k).flatMap f++(f xs[k]++(xs.drop (k+1)).flatMap f):=by
  conv=>lhs;rw[DQ hk]
  rw[List.flatMap_append,List.flatMap_cons]
 have hl:=hf xs[k]
 rw[List.set_eq_take_append_cons_drop,if_pos hk,List.flatMap_append,List.flatMap_cons,hx,e]
 generalize (xs.take k).flatMap f=A at*
 generalize (xs.drop (k+1)).flatMap f=C at*
 generalize f xs[k]=X at*
 unfold cT
 rw[List.take_append,List.drop_append,hA,List.take_of_length_le (l:=A) (by omega),List.drop_of_length_le (l:=A) (by omega),show k*z+o-k*z=o by omega,show k*z+o+us.length-k*z=o+us.length by omega,List.take_append,List.drop_append,show o-X.length=0 by omega,show o+us.length-X.length=0 by omega]
 simp
theorem oS (hf:∀x,(f x).length=z) (h:k<xs.length) (hm:o+us.length≤z):0+k*z+o+(us.map AV.t).length≤((xs.flatMap f).map AV.t).length:=by
 rw[List.length_map,List.length_map,gA hf]
 have:=Nat.mul_le_mul (show k+1≤xs.length by omega) (Nat.le_refl z)
 rw[Nat.add_mul]at this
 omega
theorem pM (xs:List α) (x:α):(xs.flatMap f).map AV.t++(f x).map .t=((xs++[x]).flatMap f).map .t:=by simp[List.flatMap_append]
end
structure Rw where
 l:Rat
 m:Rat
 u:Rat
 t:Rat
 e:Rat
 c:Rat
def cE (o:Bool) (r:Rw):List Tr:=(Fr4.of r.l).tr o++((Fr4.of r.m).tr o++((Fr4.of r.u).tr o++((Fr4.of r.t).tr o++((Fr4.of r.e).tr o++(Fr4.of r.c).tr o))))
def dQ (o:Bool) (u:Us):List Tr:=.v (.int .i64 u.v)::.v (.int .i64 u.y)::((Fr4.of u.n).tr o++((Fr4.of u.p).tr o++(Fr4.of u.q).tr o))
def bV (y:Fr4×Fr4):List Tr:=y.1.tr false++y.2.tr false
def Ht (rs:List Rw):List AV:=(rs.flatMap (cE false)).map .t
def Sl (us:List Us):List AV:=(us.flatMap (dQ false)).map .t
theorem dX (o:Bool) (r:Rw):(cE o r).length=24:=rfl
theorem lF (o:Bool) (u:Us):(dQ o u).length=14:=rfl
theorem cV (y:Fr4×Fr4):(bV y).length=8:=rfl
theorem HH (rs:List Rw):(Ht rs).length=rs.length*24:=by rw[Ht,List.length_map,gA (dX false)]
theorem Sn (us:List Us):(Sl us).length=us.length*14:=by rw[Sl,List.length_map,gA (lF false)]
theorem AK (rs:List Rw) (r:Rw):Ht rs++(cE false r).map .t=Ht (rs++[r]):=pM rs r
theorem Oc (us:List Us) (u:Us):Sl us++(dQ false u).map .t=Sl (us++[u]):=pM us u
def MB:Rw:=⟨0,0,0,0,0,0⟩
def aD (rs:List Rw) (k:Nat):Rw:=rs.getD k MB
theorem iZ {rs:List Rw}{k:Nat}(h:k<rs.length):rs[k]? =some (aD rs k):=by simp[aD,h]
def MC:Us:=⟨0,0,0,0,0⟩
def cA (us:List Us) (k:Nat):Us:=us.getD k MC
theorem iS {us:List Us}{k:Nat}(h:k<us.length):us[k]? =some (cA us k):=by simp[cA,h]
theorem jA {us:List Us}{k:Nat}(h:k<us.length):cA us k∈us:=List.mem_of_getElem? (iS h)
def bX (ys:List (Fr4×Fr4)) (k:Nat):Fr4×Fr4:=ys.getD k (mN,mN)
theorem fA {ys:List (Fr4×Fr4)}{k:Nat}(h:k<ys.length):ys[k]? =some (bX ys k):=by simp[bX,h]
theorem iR {ys:List (Fr4×Fr4)}{k:Nat}(h:k<ys.length):bX ys k∈ys:=List.mem_of_getElem? (fA h)
def wY (rs:List Rw) (y:Nat) (n:Rat):List Rw:=if 0<n then rs.set y ⟨(aD rs y).l,(aD rs y).m,(aD rs y).u+n,(aD rs y).t-n,(aD rs y).e,(aD rs y).c⟩else rs
def wZ (rs:List Rw) (us:List Us) (v:Int) (y:Nat) (n:Rat):List Us:=if 0<n then us++[⟨v,y,n,(aD rs y).t,(aD rs y).t-n⟩]else us
def yrs (M:Mx) (N:Nat):List (Fr4×Fr4):=(List.range N).map fun y=>(Fr4.of (M.inc y),Fr4.of (M.ring y))
theorem cK (M:Mx) (N:Nat):(yrs M N).length=N:=by simp[yrs]
theorem eB {M:Mx}{N y:Nat}(h:y<N):(yrs M N)[y]? =some (Fr4.of (M.inc y),Fr4.of (M.ring y)):=by simp[yrs,h]
def Mx.row (M:Mx) (U:List Us) (e c:Nat→Rat) (y:Nat):Rw:=⟨M.los y,M.lim y,eH U y,M.tax U y,e y,c y⟩
def Mx.rows (M:Mx) (U:List Us) (e c:Nat→Rat) (n:Nat):List Rw:=(List.range n).map (M.row U e c)
section
variable {M:Mx}{U:List Us}{e c e' c':Nat→Rat}{n y v:Nat}{m:Rat}
theorem cZ:(M.rows U e c n).length=n:=by simp[Mx.rows]
theorem rE (h:y<n):(M.rows U e c n)[y]? =some (M.row U e c y):=by simp[Mx.rows,h]
theorem iE (h:y<n):aD (M.rows U e c n) y=M.row U e c y:=by simp[Mx.rows,aD,h]
theorem map_set {f g:Nat→Rw}{x:Rw}(hy:y<n) (h:∀i,i<n→i≠y→f i=g i) (hx:x=g y):((List.range n).map f).set y x=(List.range n).map g:=by
 apply List.ext_getElem?
 intro i
 rw[List.getElem?_set]
 split
 ·rename_i e
  subst e
  rw[if_pos (by simpa using hy)]
  simp[hy,hx]
 rename_i e
 by_cases hi:i<n
 ·simp[hi,h i hi (fun h=>e h.symm)]
 rw[List.getElem?_eq_none (by simp;omega),List.getElem?_eq_none (by simp;omega)]
theorem DR {v:Int}(hy:y<n):wY (M.rows U e c n) y m=M.rows (M.us U v y m) e c n:=by
 unfold wY Mx.us
 split
 ·rw[iE hy]
  refine map_set hy (fun i _ hi=>?_) ?_
  ·unfold Mx.row
   rw[qM (fun h=>hi h.symm),Vc (fun h=>hi h.symm)]
  unfold Mx.row
  rw[sC,KI]
 rfl
theorem DS {v:Int}(hy:y<n):wZ (M.rows U e c n) U v y m=M.us U v y m:=by
 unfold wZ Mx.us
 rw[iE hy]
 rfl
theorem AN {q:Rat}(hy:y<n) (h:∀i,i<n→i≠y→e i=e' i) (hq:e' y=q):(M.rows U e c n).set y ⟨M.los y,M.lim y,eH U y,M.tax U y,q,c y⟩=M.rows U e' c n:=
 map_set hy (fun i hi hn=>by unfold Mx.row;rw[h i hi hn]) (by unfold Mx.row;rw[hq])
theorem AP {q:Rat}(hy:y<n) (h:∀i,i<n→i≠y→c i=c' i) (hq:c' y=q):(M.rows U e c n).set y ⟨M.los y,M.lim y,eH U y,M.tax U y,e y,q⟩=M.rows U e c' n:=
 map_set hy (fun i hi hn=>by unfold Mx.row;rw[h i hi hn]) (by unfold Mx.row;rw[hq])
theorem Hu (h:∀i,i<n→e i=e' i) (h':∀i,i<n→c i=c' i):M.rows U e c n=M.rows U e' c' n:=by
 refine List.map_congr_left fun i hi=>?_
 have:=List.mem_range.1 hi
 unfold Mx.row
 rw[h i this,h' i this]
theorem Vu:M.rows U e c n++[M.row U e c n]=M.rows U e c (n+1):=by simp[Mx.rows,List.range_succ]
end
def Mu (D:Nat) (q:Rat):Prop:=∃k:Int,q*(D:Rat)=(k:Rat)
section
variable {D E:Nat}{p q:Rat}
theorem Mu.zero:Mu D 0:=⟨0,by simp⟩
theorem Mu.add (h:Mu D p) (h':Mu D q):Mu D (p+q):=by
 obtain⟨a,ha⟩:=h
 obtain⟨b,hb⟩:=h'
 exact⟨a+b,by rw[Rat.add_mul,ha,hb,Rat.intCast_add]⟩
theorem Mu.neg (h:Mu D p):Mu D (-p):=by
 obtain⟨a,ha⟩:=h
 exact⟨-a,by rw[Rat.neg_mul,ha,Rat.intCast_neg]⟩
theorem Mu.sub (h:Mu D p) (h':Mu D q):Mu D (p-q):=by
 rw[Rat.sub_eq_add_neg]
 exact h.add h'.neg
theorem Mu.mul (h:Mu D p) (h':Mu E q):Mu (D*E) (p*q):=by
 obtain⟨a,ha⟩:=h
 obtain⟨b,hb⟩:=h'
 refine⟨a*b,?_⟩
 rw[Rat.intCast_mul,←ha,←hb,Rat.natCast_mul]
 grind
theorem Mu.up (h:Mu D p):Mu (E*D) p:=by
 obtain⟨a,ha⟩:=h
 refine⟨(E:Int)*a,?_⟩
 rw[Rat.intCast_mul,←ha,Rat.natCast_mul]
 show p*((E:Rat)*(D:Rat))=((E:Int):Rat)*(p*(D:Rat))
 have:((E:Int):Rat)=(E:Rat):=rfl
 grind
theorem Mu.up' (h:Mu D p):Mu (D*E) p:=by
 rw[Nat.mul_comm]
 exact h.up
theorem QM (q:Rat):q*(q.den:Rat)=(q.num:Rat):=by
 have h:=Rat.num_divInt_den q
 have h2:Rat.divInt q.num (q.den:Int)=(q.num:Rat)/((q.den:Int):Rat):=Rat.divInt_eq_div _ _
 have h3:((q.den:Int):Rat)=(q.den:Rat):=rfl
 have h4:(q.den:Rat)≠0:=by
  have:=q.den_pos
  intro h
  have:q.den=0:=by exact_mod_cast h
  omega
 rw[h2,h3]at h
 have h6:(q.num:Rat)/(q.den:Rat)*(q.den:Rat)=(q.num:Rat):=Rat.div_mul_cancel h4
 rwa[h]at h6
theorem Mu.self (p:Rat):Mu p.den p:=⟨p.num,QM p⟩
theorem Mu.abv (h:Mu D p):Mu D (abv p):=by
 rw[kZ]
 split
 ·exact .zero
 exact h
theorem Mu.min (h:Mu D p) (h':Mu D q):Mu D (aZ p [q]):=by
 rw[sW]
 split
 ·exact h'
 exact h
theorem Mu.sz {L B:Nat}(h:Mu D p) (h0:0≤p) (hB:p≤(B:Rat)) (hD:0<D) (hL:(dg 4294967296 B).length+(dg 4294967296 D).length≤L):Sz L p:=by
 obtain⟨k,hk⟩:=h
 have hD':(0:Rat)<(D:Rat):=by exact_mod_cast hD
 have hp:p=Rat.divInt k D:=by
  have h2:Rat.divInt k (D:Int)=(k:Rat)/((D:Int):Rat):=Rat.divInt_eq_div k D
  rw[h2,←hk,show(((D:Nat):Int):Rat)=(D:Rat) from rfl,Rat.mul_div_cancel (by grind)]
 have h1:(0:Rat)≤(k:Rat):=by rw[←hk];exact Rat.mul_nonneg h0 (by grind)
 have hk0:0≤k:=by exact_mod_cast h1
 have h3:(k:Rat)≤((B:Rat)*(D:Rat)):=by rw[←hk];exact Rat.mul_le_mul_of_nonneg_right hB (by grind)
 have h4:(k:Rat)≤(((B*D:Nat):Int):Rat):=by
  have e:(((B*D:Nat):Int):Rat)=(B:Rat)*(D:Rat):=by
   show((B*D:Nat):Rat)=_
   exact Rat.natCast_mul ..
  rw[e]
  exact h3
 have h5:k≤((B*D:Nat):Int):=by exact_mod_cast h4
 obtain⟨e1,e2⟩:=pT (a:=k) (b:=D) (L:=L) (M:=L) (by omega) (Nat.le_trans (jT (show k.natAbs≤B*D by omega)) (Nat.le_trans (oJ B D) hL)) (by unfold vI;rw[Int.natAbs_natCast];omega)
 rw[hp]
 exact⟨e1,e2⟩
end
section
variable {x y:Zi}{k k':Int}
theorem Zo (h:Zn x k) (h':Zn y k') (h0:k'≠0):aE true Tryz.prog 115 [] [gF x,gF y] (aN (qO (Rat.divInt k k'))):=zE h.g h'.g h0
theorem EH {a:Fr4}{p:Rat}(h:Qn a p):aE true Tryz.prog 72 [] [qF a] (aN (qO (-p))):=Zk h
theorem GM (p q:Rat):Rat.divInt (p.num*q.num) ((p.den:Int)*(q.den:Int))=p*q:=by
 rw[←Rat.divInt_mul_divInt,Rat.num_divInt_den,Rat.num_divInt_den]
theorem pL {L M:Nat}{p q:Rat}(hp:Sz L p) (hq:Sz M q):Sz (L+M) (p*q):=by
 rw[←GM p q]
 have h5:=pT (Int.mul_pos (show(0:Int)<p.den by have:=p.den_pos;omega) (show(0:Int)<q.den by have:=q.den_pos;omega)) (vJ hp.1 hq.1) (vJ (Bb hp) (Bb hq))
 exact⟨h5.1,h5.2⟩
theorem Iq (p:Rat) (l:List Rat) (q:Rat):jX p (l++[q])=if jX p l<q then q else jX p l:=by
 unfold jX
 rw[List.foldl_append]
 rfl
theorem cQ {L:Nat}{p:Rat}(h:Sz L p) (hL:2≤L):Sz L (abv p):=by
 rw[kZ]
 split
 ·exact(kX (z:=0) (by omega) (by omega)).mono (by omega)
 exact h
theorem den_nz (p q:Rat):(p.den:Int)*(q.den:Int)≠0:=by
 have h1:=p.den_pos
 have h2:=q.den_pos
 exact Int.ne_of_gt (Int.mul_pos (by omega) (by omega))
end
end Go.Proofs.YthoemjjmkgmnjaaGreat
