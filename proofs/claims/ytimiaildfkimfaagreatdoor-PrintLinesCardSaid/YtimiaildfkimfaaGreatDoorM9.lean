/- Part 9 of a proof: G1 to Zw. -/
import Derived.Test.YtimiaildfkimfaaGreatDoorM8
import Derived.Test.YtimiaildfkimfaaGreatDoorM7
import Derived.Test.YtimiaildfkimfaaGreatDoorM6
import Derived.Lib.Builder
import Derived.Lib.AppendStr
import Derived.Laws.Externs
import Derived.Test.YtimiaildfkimfaaGreatDoorM5
set_option maxRecDepth 100000
set_option linter.unusedVariables false
set_option linter.unusedSimpArgs false
namespace Go.Proofs.YtimiaildfkimfaaGreatDoor
open Go Go.RowKit
def Zg (a:Zi) (k:Int):Prop:=Lim 4294967296 a.x/\a.x.length<=300000000000/\eP a.s a.x=k
theorem Zn.g {a:Zi}{k:Int}(h:Zn a k):Zg a k:=⟨h.1,Nat.le_trans h.2.1 (by omega),h.2.2⟩
theorem Zg.of {k:Int}(h:(dg 4294967296 k.natAbs).length<=300000000000):Zg (.of k) k:=⟨aU (by omega) _,h,Cy k⟩
theorem Zg.len {a:Zi}{k:Int}(h:Zg a k):(dg 4294967296 k.natAbs).length<=300000000000:=by
 obtain⟨h1,h2,rfl⟩:=h
 exact Nat.le_trans (Em h1) h2
theorem Zg.wrong {a:Zi}{k:Int}(h:Zg a k) (hr:eV a.s a.x=false):k=0:=by
 obtain⟨h1,h2,rfl⟩:=h
 exact Je hr
theorem EU {a:Zi}{k:Int}(h:Zg a k) (hr:eV a.s a.x=true):gF a=kF k:=by
 obtain⟨h1,h2,rfl⟩:=h
 unfold gF kF
 rw[El h1 hr,vD h1 hr]
theorem Jn {a:Zi}{k:Int}(ha:Zg a k):aE true Tryz.prog 167 [] [gF a] (aP (.one (tv (.bool (eV a.s a.x))))):=by
 refine bD Tryz.func167 Tryz.ntmps167 fun N w c0 h0=>?_
 have hal:=ha.2.1
 refine sq (rl (bx 0 ?_));refine o1 ?_;refine nl (sq (rl (o1 ?_)));refine ld ?_;refine o1 ?_;refine o1 ?_;refine nl (sq (rl ?_))
 (iterate 3 refine o1 ?_);refine WL.split (t:=9) rfl (fun h1=>?_) (fun h1=>?_)
 ·refine o1 ?_;refine ld ?_;refine WL.splitb (t:=11) rfl (fun h2=>?_) (fun h2=>?_)
  ·(iterate 6 refine o1 ?_);refine WL.split (t:=17) rfl (fun h3=>?_) (fun h3=>?_)
   ·refine o1 ?_;refine ld ?_;refine o1 ?_;refine o1 ?_;refine aY 21 (a.x.length-1) ?_
    refine o1 ?_;refine cX ([.v (.int .u32 ((nth a.x (a.x.length-1):Nat):Int))]) (pD a.x (k:=a.x.length-1) (by omega)) ?_
    (iterate 4 refine o1 ?_);refine nl (rt ?_);refine en (.inl rfl) rfl (bB (bO _)) (by decide) (fun _=>trivial) (congrArg (fun b=>FV.one (tv (.bool b))) ?_)
    rw[rF (by omega)];simp_all
   (iterate 7 refine aW ?_);(iterate 3 refine o1 ?_);refine nl (rt ?_)
   refine en (.inl rfl) rfl (bB (bO _)) (by decide) (fun _=>trivial) (congrArg (fun b=>FV.one (tv (.bool b))) ?_)
   rw[rF (by omega)];simp_all
  (iterate 3 refine o1 ?_);(iterate 11 refine aW ?_);refine o1 ?_;refine o1 ?_;refine nl (rt ?_)
  refine en (.inl rfl) rfl (bB (bO _)) (by decide) (fun _=>trivial) (congrArg (fun b=>FV.one (tv (.bool b))) ?_)
  rw[rF (by omega)];simp_all
 (iterate 3 refine aW ?_);(iterate 5 refine o1 ?_);refine WL.split (t:=17) rfl (fun h4=>?_) (fun h4=>?_)
 ·refine o1 ?_;refine ld ?_;refine o1 ?_;refine o1 ?_;refine aY 21 (a.x.length-1) ?_
  refine o1 ?_;refine cX ([.v (.int .u32 ((nth a.x (a.x.length-1):Nat):Int))]) (pD a.x (k:=a.x.length-1) (by omega)) ?_
  (iterate 4 refine o1 ?_);refine nl (rt ?_);refine en (.inl rfl) rfl (bB (bO _)) (by decide) (fun _=>trivial) (congrArg (fun b=>FV.one (tv (.bool b))) ?_)
  first | exact(Ar rfl (by omega)).symm | (unfold eV;simp_all;try omega)
 (iterate 7 refine aW ?_);(iterate 3 refine o1 ?_);refine nl (rt ?_)
 refine en (.inl rfl) rfl (bB (bO _)) (by decide) (fun _=>trivial) (congrArg (fun b=>FV.one (tv (.bool b))) ?_)
 first | exact(Ar rfl (by omega)).symm | (unfold eV;simp_all;try omega)
theorem eW {a:Zi}{k:Int}(ha:Zg a k):aE false Tryz.prog 169 [] [gF a] (aP (kF k)):=by
 refine bD Tryz.func169 Tryz.ntmps169 fun N w c0 h0=>?_
 refine sq (rl (bx 0 ?_));refine al 1 ?_;refine nl (sq (sq (rl (ld ?_))))
 refine ca (Jn ha) aA (aM rfl) _ ?_;refine WL.splitb (t:=4) rfl (fun h1=>?_) (fun h1=>?_)
 ·refine o1 ?_;refine nl (dY rfl (sk (sq (rl (ld ?_)))));refine o1 ?_;refine st ?_;refine nl (rt ?_)
  exact en (.inl rfl) rfl (bB (.agg (.read _ (l:=[.v (.bool a.s),sU false a.x]) rfl))) (by decide) (fun h=>by cases h) (EU ha h1)
 refine o1 ?_;refine nl (eU rfl (sq (rl (o1 ?_))));refine st ?_;refine nl (rt ?_)
 exact en (.inl rfl) rfl (bB (.agg (.cons (.id rfl) (.cons .nilf .nil)))) (by decide) (fun h=>by cases h) (by rw[ha.wrong h1];exact Ku)
theorem EV {b:Bool}{m:Nat}{K:Int}(hK:dV b m=K):aE false Tryz.prog 170 [] [.one (tv (.bool b)),.one (.t (sU false (dg 4294967296 m)))] (aP (kF K)):=by
 refine bD Tryz.func170 Tryz.ntmps170 fun N w c0 h0=>?_
 refine sq (rl (al 0 ?_));refine nl (sq (rl (o1 ?_)));refine o1 ?_;refine WL.splitb (t:=6) rfl (fun h1=>?_) (fun h1=>?_)
 ·(iterate 6 refine o1 ?_);refine st ?_;refine nl (rt ?_)
  exact en (.inl rfl) rfl (bB (.agg (.cons (.id rfl) (.cons (.id rfl) .nil)))) (by decide) (fun h=>by cases h) (hK▸congrArg yF (As (by rw[zA,h1,Bool.true_and,<-qL (m:=m) rfl];exact decide_eq_decide.2 (by omega)) (mP _ _).symm))
 (iterate 3 refine aW ?_);(iterate 3 refine o1 ?_);refine st ?_;refine nl (rt ?_)
 exact en (.inl rfl) rfl (bB (.agg (.cons (.id rfl) (.cons (.id rfl) .nil)))) (by decide) (fun h=>by cases h) (hK▸congrArg yF (As (by rw[zA,h1];rfl) (mP _ _).symm))
theorem lB {b:Bool}{m:Nat}{K:Int}(hK:dV b m=K):wQ false Tryz.prog 170 [⟨223,1,(bF (dg 4294967296 m)).map .t⟩] [.one (tv (.bool b)),.one (.sl 0 0 (dg 4294967296 m).length)] (· =kO K):=by
 refine fnM Tryz.func170 rfl Tryz.ntmps170 rfl aR rfl fun N M w c0 h0=>?_
 refine sq (rl (al 1 ?_));refine nl (sq (rl (o1 ?_)));refine o1 ?_;refine WL.splitb (t:=6) rfl (fun h1=>?_) (fun h1=>?_)
 ·(iterate 6 refine o1 ?_);refine st ?_;refine nl (rt ?_)
  exact zJ (en (.inl rfl) rfl (bB (.agg (.cons (.id rfl) (.cons (.sl (trs:=bF (dg 4294967296 m)) rfl rfl (cC _) (bT _)) .nil)))) (by decide) (fun h=>by cases h) (hK▸As (by rw[zA,h1,Bool.true_and,<-qL (m:=m) rfl];exact decide_eq_decide.2 (by omega)) (mP _ _).symm))
 (iterate 3 refine aW ?_);(iterate 3 refine o1 ?_);refine st ?_;refine nl (rt ?_)
 exact zJ (en (.inl rfl) rfl (bB (.agg (.cons (.id rfl) (.cons (.sl (trs:=bF (dg 4294967296 m)) rfl rfl (cC _) (bT _)) .nil)))) (by decide) (fun h=>by cases h) (hK▸As (by rw[zA,h1];rfl) (mP _ _).symm))
theorem Sp {k:Int}:aE false Tryz.prog 228 [] [kF k] (aP (kF (-k))):=by
 refine bD Tryz.func228 Tryz.ntmps228 fun N w c0 h0=>?_
 refine sq (rl (bx 0 ?_));refine al 1 ?_;refine nl (sq (rl (o1 ?_)));refine o1 ?_;refine ld ?_;(iterate 3 refine o1 ?_);refine ld ?_
 refine ca (EV (m:=k.natAbs) (K:=-k) (Wq k)) aA (cO rfl rfl) _ ?_;refine o1 ?_;refine st ?_;refine nl (rt ?_)
 exact en (.inl rfl) rfl (bB (.agg (.cons (.id rfl) (.cons (.id rfl) .nil)))) (by decide) (fun h=>by cases h) rfl
theorem JN {a:Zi}{k:Int}(ha:Zg a k):aE true Tryz.prog 194 [] [gF a] (aP (kO (-(k)))):=by
 refine bD Tryz.func194 Tryz.ntmps194 fun N w c0 h0=>?_
 have hkl:=ha.len
 refine sq (rl (bx 0 ?_));refine al 1 ?_;refine nl (sq (rl (ld ?_)));refine ca (eW ha) aA (aM rfl) _ ?_
 refine ca (Sp (k:=k)) aA (aM rfl) _ ?_;refine al 2 ?_;refine st ?_;refine nl (sq ?_);refine bU [0,1,2] [8] ?_
 refine dv 0 ?_;refine dv 1 ?_;refine aF 2 ?_;refine dv 3 ?_;refine dv 4 ?_;refine aF 5 ?_
 refine qA 3 6 rfl (Xb (aU (by omega) _) (by have:=nS k;omega)) aA (bC rfl) ?_
 refine df 7 ?_;refine dst 8 ?_;refine aJ ?_;refine rt ?_
 exact en (.inl rfl) rfl (bB (.agg (.cons (.id rfl) (.cons (.sl (trs:=bF (dg 4294967296 (-(k)).natAbs)) rfl rfl (cC _) (bT _)) .nil)))) (by decide) (fun _=>fT (-(k))) rfl
theorem ZW {a:Zi}{k:Int}(ha:Zg a k):aE true Tryz.prog 216 [] [gF a] (aP (kO (((k.natAbs:Nat):Int)))):=by
 refine bD Tryz.func216 Tryz.ntmps216 fun N w c0 h0=>?_
 have hkl:=ha.len
 refine sq (rl (bx 0 ?_));refine al 1 ?_;refine nl (sq (rl (ld ?_)));refine ca (eW ha) aA (aM rfl) _ ?_;refine o1 ?_;refine o1 ?_
 refine nC 2 (Xb (aU (by omega) _) (by have:=nS k;omega)) aA (bC rfl) ?_
 refine o1 ?_;refine st ?_;refine nl (rt ?_)
 exact en (.inl rfl) rfl (bB (.agg (.cons (.id rfl) (.cons (.sl (trs:=bF (dg 4294967296 k.natAbs)) rfl rfl (cC _) (bT _)) .nil)))) (by decide) (fun _=>Kv _ _) (As (by unfold aZ;simp) (by omega))
theorem EW {k k':Int}(hk:(dg 4294967296 k.natAbs).length<=500000000000) (hk':(dg 4294967296 k'.natAbs).length<=500000000000):aE true Tryz.prog 227 [] [kF k,kF k'] (aP (kO (k+k'))):=by
 refine bD Tryz.func227 Tryz.ntmps227 fun N w c0 h0=>?_
 have hal:=Kt (xs:=dg 4294967296 k.natAbs) (ys:=dg 4294967296 k'.natAbs) (aU (by omega) _) (aU (by omega) _)
 rw[cB,cB]at hal;refine sq (rl (bx 0 ?_));refine bx 1 ?_;refine al 2 ?_;refine nl (sq (sq (rl (o1 ?_))));refine o1 ?_
 refine ld ?_;refine o1 ?_;refine o1 ?_;refine ld ?_;refine o1 ?_;refine nl ?_;refine rH rfl (fun h1=>?_) (fun h1=>?_)
 ·refine sq ?_;refine bU [0,1,2] [11] ?_
  refine dv 0 ?_;refine dv 1 ?_;refine aF 2 ?_;refine dv 3 ?_;refine dv 4 ?_;refine aF 5 ?_;refine dv 6 ?_;refine dv 7 ?_;refine aF 8 ?_
  have hA:aE true Tryz.prog 218 [] [.one (.t (sU false (dg 4294967296 k.natAbs))),.one (.t (sU false (dg 4294967296 k'.natAbs)))] (aP (.one (.t (sU true (dg 4294967296 (k.natAbs+k'.natAbs)))))):=by have h9:=LU (aU (by omega) k.natAbs) (aU (by omega) k'.natAbs) (by omega) (by omega);rwa[cB,cB]at h9
  refine qA 3 9 rfl hA aA (cO rfl rfl) ?_
  refine Jg 10 4 [3] rfl (lB (m:=(k.natAbs+k'.natAbs)) (K:=k+k') (Mt rfl (eq_of_beq h1))) aA ⟨aD rfl,rfl⟩ ⟨rfl,rfl,rfl⟩ ⟨rfl,rfl,rfl,trivial⟩ ?_;refine dst 11 ?_
  refine aJ ?_;refine rt ?_
  exact en (.inl rfl) rfl (bB (.agg (.cons (.id rfl) (.cons (.sl (trs:=bF (dg 4294967296 (k+k').natAbs)) rfl rfl (cC _) (bT _)) .nil)))) (by decide) (fun _=>fT (k+k')) rfl
 refine sk (sq (sq (rl (o1 ?_))));refine o1 ?_;refine ld ?_;refine o1 ?_;refine o1 ?_;refine ld ?_
 refine ca (aBB (aU (by omega) _) (aU (by omega) _)) aA (cO rfl rfl) _ ?_
 refine o1 ?_;refine nl ?_;refine aV rfl (fun h2=>?_) (fun h2=>?_)
 ·refine rl (ld ?_);refine ld ?_;refine st ?_;refine st ?_;refine nl (sq (rl (o1 ?_)));refine o1 ?_;refine ld ?_;refine o1 ?_;refine o1 ?_;refine ld ?_
  have hlt:k.natAbs<k'.natAbs:=Decidable.byContradiction fun h8=>by rw[cB,cB]at h2;rcases Nat.lt_or_ge k'.natAbs k.natAbs with h7 | h7;(rw[qK h7]at h2;omega);(rw[yX (by omega)]at h2;omega)
  have hS:aE true Tryz.prog 219 [] [.one (.t (sU false (dg 4294967296 k'.natAbs))),.one (.t (sU false (dg 4294967296 k.natAbs)))] (aP (.tup [.one (.t (sU true (dg 4294967296 (k'.natAbs-k.natAbs)))),.one (tv (.int .i64 0))])):=by have h9:=Zt (aU (by omega) k'.natAbs) (aU (by omega) k.natAbs) (by omega) (by rw[cB,cB];omega);rwa[cB,cB]at h9
  refine nC 3 hS aA (cO rfl rfl) ?_;(iterate 5 refine o1 ?_);refine nl (sq (rl (o1 ?_)));refine o1 ?_;refine ld ?_;refine o1 ?_
  refine cm 4 [3] (lB (m:=(k'.natAbs-k.natAbs)) (K:=k+k') (Wu rfl (ne_of_beq_false h1) hlt)) aA ⟨aD rfl,rfl⟩ ⟨rfl,rfl,rfl⟩ ?_;refine st ?_;refine nl (rt ?_)
  exact en (.inl rfl) rfl (bB (.agg (.cons (.id rfl) (.cons (.sl (trs:=bF (dg 4294967296 (k+k').natAbs)) rfl rfl (cC _) (bT _)) .nil)))) (by decide) (fun _=>fT (k+k')) rfl
 refine sk (sq (rl (o1 ?_)));refine o1 ?_;refine ld ?_;refine o1 ?_;refine o1 ?_;refine ld ?_
 have hlt:¬k.natAbs<k'.natAbs:=fun h8=>h2 (by rw[cB,cB,vC h8];omega)
 have hS:aE true Tryz.prog 219 [] [.one (.t (sU false (dg 4294967296 k.natAbs))),.one (.t (sU false (dg 4294967296 k'.natAbs)))] (aP (.tup [.one (.t (sU true (dg 4294967296 (k.natAbs-k'.natAbs)))),.one (tv (.int .i64 0))])):=by have h9:=Zt (aU (by omega) k.natAbs) (aU (by omega) k'.natAbs) (by omega) (by rw[cB,cB];omega);rwa[cB,cB]at h9
 refine nC 3 hS aA (cO rfl rfl) ?_;(iterate 5 refine o1 ?_);refine nl (sq (rl (o1 ?_)));refine o1 ?_;refine ld ?_;refine o1 ?_
 refine cm 4 [3] (lB (m:=(k.natAbs-k'.natAbs)) (K:=k+k') (Wt rfl (ne_of_beq_false h1) hlt)) aA ⟨aD rfl,rfl⟩ ⟨rfl,rfl,rfl⟩ ?_;refine st ?_;refine nl (rt ?_)
 exact en (.inl rfl) rfl (bB (.agg (.cons (.id rfl) (.cons (.sl (trs:=bF (dg 4294967296 (k+k').natAbs)) rfl rfl (cC _) (bT _)) .nil)))) (by decide) (fun _=>fT (k+k')) rfl
theorem Nj {a b:Zi}{k k':Int}(ha:Zg a k) (hb:Zg b k'):aE true Tryz.prog 190 [] [gF a,gF b] (aP (kO (k+k'))):=by
 refine bD Tryz.func190 Tryz.ntmps190 fun N w c0 h0=>?_
 have hkl:=ha.len
 have hkl':=hb.len
 refine sq (rl (bx 0 ?_));refine bx 1 ?_;refine al 2 ?_;refine nl (sq ?_);refine bU [0,1,2] [5] ?_
 refine aF 0 ?_;refine aF 2 ?_;refine aG 1 rfl (eW ha) aA (aM rfl) _ ?_;refine aG 3 rfl (eW hb) aA (aM rfl) _ ?_
 refine qA 3 4 rfl (EW (k:=k) (k':=k') (by omega) (by omega)) aA (bN rfl rfl) ?_
 refine dst 5 ?_;refine aJ ?_;refine rt ?_
 exact en (.inl rfl) rfl (bB (.agg (.cons (.id rfl) (.cons (.sl (trs:=bF (dg 4294967296 ((k+k')).natAbs)) rfl rfl (cC _) (bT _)) .nil)))) (by decide) (fun _=>fT ((k+k'))) rfl
theorem aBE {a b:Zi}{k k':Int}(ha:Zg a k) (hb:Zg b k'):aE true Tryz.prog 191 [] [gF a,gF b] (aP (kO (k-k'))):=by
 refine bD Tryz.func191 Tryz.ntmps191 fun N w c0 h0=>?_
 have hkl:=ha.len
 have hkl':=hb.len
 have hkn:=nS k'
 refine sq (rl (bx 0 ?_));refine bx 1 ?_;refine al 2 ?_;refine nl (sq ?_);refine bU [0,1,2] [6] ?_
 refine aF 0 ?_;refine aF 2 ?_;refine aG 1 rfl (eW ha) aA (aM rfl) _ ?_;refine aG 3 rfl (eW hb) aA (aM rfl) _ ?_
 refine aG 4 rfl (Sp (k:=k')) aA (aM rfl) _ ?_;refine qA 3 5 rfl (EW (k:=k) (k':=(-(k'))) (by omega) (by omega)) aA (bN rfl rfl) ?_
 refine dst 6 ?_;refine aJ ?_;refine rt ?_
 exact en (.inl rfl) rfl (bB (.agg (.cons (.id rfl) (.cons (.sl (trs:=bF (dg 4294967296 ((k+(-(k')))).natAbs)) rfl rfl (cC _) (bT _)) .nil)))) (by decide) (fun _=>fT ((k+(-(k'))))) (by rw[Int.sub_eq_add_neg];rfl)
theorem xU {a:Zi}{k:Int}(ha:Zg a k):aE true Tryz.prog 134 [] [gF a] (aP (.one (tv (.int .i64 k.sign)))):=by
 refine bD Tryz.func134 Tryz.ntmps134 fun N w c0 h0=>?_
 refine sq (rl (bx 0 ?_));refine o1 ?_;refine nl (sq (sq (rl (ld ?_))));refine ca (eW ha) aA (aM rfl) _ ?_;refine al 1 ?_
 refine st ?_;refine nl (bl (sq (rl (o1 ?_))));refine o1 ?_;refine ld ?_;refine o1 ?_;refine nl ?_;refine rH rfl (fun h1=>?_) (fun h1=>?_)
 ·refine sq (rl (o1 ?_));refine nl (rt ?_);refine en (.inl rfl) rfl (bB (bO _)) (by decide) (fun _=>trivial) (congrArg (fun z=>FV.one (tv (.int .i64 z))) ?_)
  have h9:k<0:=of_decide_eq_true h1
  exact(Int.sign_eq_neg_one_of_neg h9).symm
 refine sq (rl (o1 ?_));refine o1 ?_;refine ld ?_;(iterate 3 refine o1 ?_);refine nl ?_;refine aV rfl (fun h2=>?_) (fun h2=>?_)
 ·refine sq (rl (o1 ?_));refine nl (rt ?_);refine en (.inl rfl) rfl (bB (bO _)) (by decide) (fun _=>trivial) (congrArg (fun z=>FV.one (tv (.int .i64 z))) ?_)
  have h9:¬k<0:=of_decide_eq_false h1
  have h8:=qL (m:=k.natAbs) rfl
  have h7:decide (0<k.natAbs)=true:=by rw[<-h8];exact decide_eq_true (by omega)
  have h6:=of_decide_eq_true h7
  exact(Int.sign_eq_one_of_pos (by omega)).symm
 refine sk (sq (rl (o1 ?_)));refine nl (rt ?_)
 refine en (.inl rfl) rfl (bB (bO _)) (by decide) (fun _=>trivial) (congrArg (fun z=>FV.one (tv (.int .i64 z))) ?_)
 have h9:¬k<0:=of_decide_eq_false h1
 have h8:=qL (m:=k.natAbs) rfl
 have h7:decide (0<k.natAbs)=false:=by rw[<-h8];exact decide_eq_false (by omega)
 have h6:=of_decide_eq_false h7
 obtain rfl:k=0:=by omega
 rfl
theorem Ni {a b:Zi}{k k':Int}(ha:Zg a k) (hb:Zg b k') (hs:(dg 4294967296 (k-k').natAbs).length<=300000000000):aE true Tryz.prog 135 [] [gF a,gF b] (aP (.one (tv (.int .i64 (k-k').sign)))):=by
 refine bD Tryz.func135 Tryz.ntmps135 fun N w c0 h0=>?_
 have hkl:=ha.2.1;have hkl2:=ha.len;have hkl3:=hb.len
 refine sq (rl (bx 0 ?_));refine bx 1 ?_;refine o1 ?_;refine nl (sq (rl (ld ?_)));refine ld ?_
 refine ca (aBE ha hb) aA (bN rfl rfl) _ ?_;refine ca (xU (Zg.of (k:=k-k') hs)) aA (aM rfl) _ ?_;refine o1 ?_
 refine nl (rt ?_);exact en (.inl rfl) rfl (bB (bO _)) (by decide) (fun _=>trivial) rfl
theorem Nk {a b:Zi}{k k':Int}(ha:Zg a k) (hb:Zg b k'):aE true Tryz.prog 136 [] [gF a,gF b] (aP (kO (k*k'))):=by
 refine bD Tryz.func136 Tryz.ntmps136 fun N w c0 h0=>?_
 have hkl:=ha.len
 have hkl':=hb.len
 refine sq (rl (bx 0 ?_));refine bx 1 ?_;refine al 2 ?_;refine nl ?_
 refine md (γ:=Unit) (fun _=>bP [(4,pN 0),(5,pN 1),(6,pN 2)]) (fun _=>([⟨25,0,[tv (.bool false),tv (.slice none 0 0)]⟩,⟨257,0,[tv (.bool (aZ k)),.t (sU false (dg 4294967296 k.natAbs))]⟩,⟨257,0,[tv (.bool (aZ k')),.t (sU false (dg 4294967296 k'.natAbs))]⟩]:List Ob).map some) (fun _=>True) ?_ fun _ _=>?_
 ·refine bU [0,1,2] [7] ?_
  refine aF 0 ?_;refine aF 2 ?_;refine wK 1 4 5 ?_ ?_ ?_
  ·refine dE 1 rfl (eW ha) aA (aM rfl) _ ?_;refine wK 3 4 5 ?_ ?_ ?_
   ·refine dE 3 rfl (eW hb) aA (aM rfl) _ ?_;refine dD 4 5 ?_ ?_
    ·refine bQ 3 4 ?_;refine eE 4 5 ?_
     refine aT 6 ?_
     refine dst 7 ?_;refine aJ ?_;exact⟨(),trivial,aH h0 [2,3,4] ⟨oe rfl rfl,oe rfl rfl,oe rfl rfl,rfl⟩⟩
    refine bQ 3 5 ?_;refine eE 4 4 ?_
    refine aT 6 ?_
    refine dst 7 ?_;refine aJ ?_;exact⟨(),trivial,aH h0 [2,4,3] ⟨oe rfl rfl,oe rfl rfl,oe rfl rfl,rfl⟩⟩
   ·refine bQ 3 4 ?_;refine dD 3 5 ?_ ?_
    ·refine dE 3 rfl (eW hb) aA (aM rfl) _ ?_;refine eE 4 5 ?_
     refine aT 6 ?_
     refine dst 7 ?_;refine aJ ?_;exact⟨(),trivial,aH h0 [2,3,4] ⟨oe rfl rfl,oe rfl rfl,oe rfl rfl,rfl⟩⟩
    refine bQ 4 5 ?_;refine aG 3 rfl (eW hb) aA (aM rfl) _ ?_
    refine aT 6 ?_
    refine dst 7 ?_;refine aJ ?_;exact⟨(),trivial,aH h0 [2,3,4] ⟨oe rfl rfl,oe rfl rfl,oe rfl rfl,rfl⟩⟩
   refine bQ 3 5 ?_;refine dD 3 4 ?_ ?_
   ·refine dE 3 rfl (eW hb) aA (aM rfl) _ ?_;refine eE 4 4 ?_
    refine aT 6 ?_
    refine dst 7 ?_;refine aJ ?_;exact⟨(),trivial,aH h0 [2,4,3] ⟨oe rfl rfl,oe rfl rfl,oe rfl rfl,rfl⟩⟩
   refine bQ 4 4 ?_;refine aG 3 rfl (eW hb) aA (aM rfl) _ ?_
   refine aT 6 ?_
   refine dst 7 ?_;refine aJ ?_;exact⟨(),trivial,aH h0 [2,4,3] ⟨oe rfl rfl,oe rfl rfl,oe rfl rfl,rfl⟩⟩
  ·refine bQ 3 4 ?_;refine dD 1 5 ?_ ?_
   ·refine dE 1 rfl (eW ha) aA (aM rfl) _ ?_;refine dD 3 5 ?_ ?_
    ·refine dE 3 rfl (eW hb) aA (aM rfl) _ ?_;refine eE 4 5 ?_
     refine aT 6 ?_
     refine dst 7 ?_;refine aJ ?_;exact⟨(),trivial,aH h0 [2,3,4] ⟨oe rfl rfl,oe rfl rfl,oe rfl rfl,rfl⟩⟩
    refine bQ 4 5 ?_;refine aG 3 rfl (eW hb) aA (aM rfl) _ ?_
    refine aT 6 ?_
    refine dst 7 ?_;refine aJ ?_;exact⟨(),trivial,aH h0 [2,3,4] ⟨oe rfl rfl,oe rfl rfl,oe rfl rfl,rfl⟩⟩
   refine bQ 4 5 ?_;refine aG 1 rfl (eW ha) aA (aM rfl) _ ?_;refine aG 3 rfl (eW hb) aA (aM rfl) _ ?_
   refine aT 6 ?_
   refine dst 7 ?_;refine aJ ?_;exact⟨(),trivial,aH h0 [2,3,4] ⟨oe rfl rfl,oe rfl rfl,oe rfl rfl,rfl⟩⟩
  refine bQ 3 5 ?_;refine dD 1 4 ?_ ?_
  ·refine dE 1 rfl (eW ha) aA (aM rfl) _ ?_;refine dD 3 4 ?_ ?_
   ·refine dE 3 rfl (eW hb) aA (aM rfl) _ ?_;refine eE 4 4 ?_
    refine aT 6 ?_
    refine dst 7 ?_;refine aJ ?_;exact⟨(),trivial,aH h0 [2,4,3] ⟨oe rfl rfl,oe rfl rfl,oe rfl rfl,rfl⟩⟩
   refine bQ 4 4 ?_;refine aG 3 rfl (eW hb) aA (aM rfl) _ ?_
   refine aT 6 ?_
   refine dst 7 ?_;refine aJ ?_;exact⟨(),trivial,aH h0 [2,4,3] ⟨oe rfl rfl,oe rfl rfl,oe rfl rfl,rfl⟩⟩
  refine bQ 4 4 ?_;refine aG 1 rfl (eW ha) aA (aM rfl) _ ?_;refine aG 3 rfl (eW hb) aA (aM rfl) _ ?_
  refine aT 6 ?_
  refine dst 7 ?_;refine aJ ?_;exact⟨(),trivial,aH h0 [2,4,3] ⟨oe rfl rfl,oe rfl rfl,oe rfl rfl,rfl⟩⟩
 refine sq ?_;refine bU [0,1,2] [15] ?_
 refine dv 0 ?_;refine dv 1 ?_;refine aF 2 ?_;refine dv 3 ?_;refine dv 4 ?_;refine aF 5 ?_;refine dv 6 ?_;refine dv 7 ?_;refine dv 8 ?_;refine aF 9 ?_;refine dv 10 ?_;refine dv 11 ?_
 refine aF 12 ?_
 have hA:aE true Tryz.prog 192 [] [.one (.t (sU false (dg 4294967296 k.natAbs))),.one (.t (sU false (dg 4294967296 k'.natAbs)))] (aP (.one (.t (sU true (dg 4294967296 (k.natAbs*k'.natAbs)))))):=by have h9:=aBC (aU (by omega) k.natAbs) (aU (by omega) k'.natAbs) (by omega) (by omega);rwa[cB,cB]at h9
 refine qA 3 13 rfl hA aA (cO rfl rfl) ?_
 refine Jg 14 4 [3] rfl (lB (b:=(aZ k != aZ k')) (m:=(k.natAbs*k'.natAbs)) (K:=k*k') (Wl k k')) aA ⟨aD rfl,rfl⟩ ⟨rfl,rfl,rfl⟩ ⟨rfl,rfl,rfl,trivial⟩ ?_
 refine dst 15 ?_;refine aJ ?_;refine rt ?_
 exact en (.inl rfl) rfl (bB (.agg (.cons (.id rfl) (.cons (.sl (trs:=bF (dg 4294967296 ((k*k')).natAbs)) rfl rfl (cC _) (bT _)) .nil)))) (by decide) (fun _=>fT ((k*k'))) rfl
theorem JM {a b:Zi}{k k':Int}(ha:Zg a k) (hb:Zg b k'):aE true Tryz.prog 168 [] [gF a,gF b] (aP (kO (((Int.gcd k k'):Nat):Int))):=by
 refine bD Tryz.func168 Tryz.ntmps168 fun N w c0 h0=>?_
 have hkl:=ha.len
 have hkl':=hb.len
 refine sq (rl (bx 0 ?_));refine bx 1 ?_;refine al 2 ?_;refine nl (sq ?_);refine bU [0,1,2] [11] ?_
 refine aF 0 ?_;refine aF 4 ?_;refine aG 1 rfl (eW ha) aA (aM rfl) _ ?_;refine df 2 ?_;refine df 3 ?_;refine aG 5 rfl (eW hb) aA (aM rfl) _ ?_
 refine df 6 ?_;refine df 7 ?_;refine dA (key:=3) 8 (by kernel_rfl) rfl rfl aR rfl ⟨rfl,rfl,rfl,trivial⟩ ?_
 refine wJ (i:=13) (k:=3) (t:=23) (t':=23) (z:=1) (n:=2) (l:=[sU false (dg 4294967296 k.natAbs),sU false (dg 4294967296 k'.natAbs)]) rfl rfl rfl rfl (.one .sl) (by rfl) (by rfl) ?_
 have hA:aE true Tryz.prog 220 [] [.one (.t (.s false 23 1 2 [sU false (dg 4294967296 k.natAbs),sU false (dg 4294967296 k'.natAbs)]))] (aP (.one (.t (sU true (dg 4294967296 (Int.gcd k k')))))):=by
  have h9:=aBD (t:=23) (aU (by omega) k.natAbs) (aU (by omega) k'.natAbs) (by omega) (by omega)
  rwa[show vX [dg 4294967296 k.natAbs,dg 4294967296 k'.natAbs]=(Int.gcd k k') by simp only[vX,List.foldl_cons,List.foldl_nil,cB,Nat.gcd_zero_left];rfl]at h9
 refine qA 4 9 rfl hA aA (bC rfl) ?_
 refine Jg 10 5 [4] rfl (lB (b:=false) (m:=(Int.gcd k k')) (K:=(((Int.gcd k k'):Nat):Int)) (by simp[dV])) aA ⟨aD rfl,rfl⟩ ⟨rfl,rfl,rfl⟩ ⟨rfl,rfl,rfl,trivial⟩ ?_
 refine dst 11 ?_;refine aJ ?_;refine rt ?_
 exact en (.inl rfl) rfl (bB (.agg (.cons (.id rfl) (.cons (.sl (trs:=bF (dg 4294967296 ((((Int.gcd k k'):Nat):Int)).natAbs)) rfl rfl (cC _) (bT _)) .nil)))) (by decide) (fun _=>fT ((((Int.gcd k k'):Nat):Int))) rfl
theorem EX (xs:List Nat):((bF xs).map AV.t).take (bF xs).length=(bF xs).map .t:=cT (by simp)
theorem gD {a b:Zi}{k k':Int}(ha:Zg a k) (hb:Zg b k') (hz0:k'≠0):aE true Tryz.prog 166 [] [gF a,gF b] (aP (.tup [kO (k.fdiv k'),kO (k.fmod k'),.one (tv (.int .i64 0))])):=by
 refine bD Tryz.func166 Tryz.ntmps166 fun N w c0 h0=>?_
 have hkl:=ha.len
 have hkl':=hb.len
 have hq:(dg 4294967296 (k.natAbs/k'.natAbs)).length<=300000000000:=Nat.le_trans (eH (Nat.div_le_self _ _)) hkl
 have hr0:=Nat.mod_lt k.natAbs (show 0<k'.natAbs by omega)
 have hrl:(dg 4294967296 (k.natAbs%k'.natAbs)).length<=300000000000:=Nat.le_trans (eH (Nat.le_of_lt hr0)) hkl'
 refine sq (rl (bx 0 ?_));refine bx 1 ?_;refine al 2 ?_;refine al 3 ?_;refine o1 ?_;refine nl ?_
 refine md (γ:=Unit) (fun _=>bP [(4,pN 0),(5,pN 1),(6,iN 0),(7,pN 2),(8,pN 3)]) (fun _=>([⟨25,0,[tv (.bool false),tv (.slice none 0 0)]⟩,⟨25,0,[tv (.bool false),tv (.slice none 0 0)]⟩,⟨257,0,[tv (.bool (aZ k)),.t (sU false (dg 4294967296 k.natAbs))]⟩,⟨257,0,[tv (.bool (aZ k')),.t (sU false (dg 4294967296 k'.natAbs))]⟩]:List Ob).map some) (fun _=>True) ?_ fun _ _=>?_
 ·refine bU [0,1,2,3] [7] ?_
  refine aF 0 ?_;refine aF 2 ?_;refine wK 1 4 5 ?_ ?_ ?_
  ·refine dE 1 rfl (eW ha) aA (aM rfl) _ ?_;refine wK 3 4 5 ?_ ?_ ?_
   ·refine dE 3 rfl (eW hb) aA (aM rfl) _ ?_;refine dD 4 5 ?_ ?_
    ·refine bQ 4 4 ?_;refine eE 5 5 ?_
     refine aT 6 ?_
     refine dst 7 ?_;refine aJ ?_;exact⟨(),trivial,aH h0 [2,3,4,5] ⟨oe rfl rfl,oe rfl rfl,oe rfl rfl,oe rfl rfl,rfl⟩⟩
    refine bQ 4 5 ?_;refine eE 5 4 ?_
    refine aT 6 ?_
    refine dst 7 ?_;refine aJ ?_;exact⟨(),trivial,aH h0 [2,3,5,4] ⟨oe rfl rfl,oe rfl rfl,oe rfl rfl,oe rfl rfl,rfl⟩⟩
   ·refine bQ 4 4 ?_;refine dD 3 5 ?_ ?_
    ·refine dE 3 rfl (eW hb) aA (aM rfl) _ ?_;refine eE 5 5 ?_
     refine aT 6 ?_
     refine dst 7 ?_;refine aJ ?_;exact⟨(),trivial,aH h0 [2,3,4,5] ⟨oe rfl rfl,oe rfl rfl,oe rfl rfl,oe rfl rfl,rfl⟩⟩
    refine bQ 5 5 ?_;refine aG 3 rfl (eW hb) aA (aM rfl) _ ?_
    refine aT 6 ?_
    refine dst 7 ?_;refine aJ ?_;exact⟨(),trivial,aH h0 [2,3,4,5] ⟨oe rfl rfl,oe rfl rfl,oe rfl rfl,oe rfl rfl,rfl⟩⟩
   refine bQ 4 5 ?_;refine dD 3 4 ?_ ?_
   ·refine dE 3 rfl (eW hb) aA (aM rfl) _ ?_;refine eE 5 4 ?_
    refine aT 6 ?_
    refine dst 7 ?_;refine aJ ?_;exact⟨(),trivial,aH h0 [2,3,5,4] ⟨oe rfl rfl,oe rfl rfl,oe rfl rfl,oe rfl rfl,rfl⟩⟩
   refine bQ 5 4 ?_;refine aG 3 rfl (eW hb) aA (aM rfl) _ ?_
   refine aT 6 ?_
   refine dst 7 ?_;refine aJ ?_;exact⟨(),trivial,aH h0 [2,3,5,4] ⟨oe rfl rfl,oe rfl rfl,oe rfl rfl,oe rfl rfl,rfl⟩⟩
  ·refine bQ 4 4 ?_;refine dD 1 5 ?_ ?_
   ·refine dE 1 rfl (eW ha) aA (aM rfl) _ ?_;refine dD 3 5 ?_ ?_
    ·refine dE 3 rfl (eW hb) aA (aM rfl) _ ?_;refine eE 5 5 ?_
     refine aT 6 ?_
     refine dst 7 ?_;refine aJ ?_;exact⟨(),trivial,aH h0 [2,3,4,5] ⟨oe rfl rfl,oe rfl rfl,oe rfl rfl,oe rfl rfl,rfl⟩⟩
    refine bQ 5 5 ?_;refine aG 3 rfl (eW hb) aA (aM rfl) _ ?_
    refine aT 6 ?_
    refine dst 7 ?_;refine aJ ?_;exact⟨(),trivial,aH h0 [2,3,4,5] ⟨oe rfl rfl,oe rfl rfl,oe rfl rfl,oe rfl rfl,rfl⟩⟩
   refine bQ 5 5 ?_;refine aG 1 rfl (eW ha) aA (aM rfl) _ ?_
   refine aG 3 rfl (eW hb) aA (aM rfl) _ ?_;refine aT 6 ?_
   refine dst 7 ?_;refine aJ ?_;exact⟨(),trivial,aH h0 [2,3,4,5] ⟨oe rfl rfl,oe rfl rfl,oe rfl rfl,oe rfl rfl,rfl⟩⟩
  refine bQ 4 5 ?_;refine dD 1 4 ?_ ?_
  ·refine dE 1 rfl (eW ha) aA (aM rfl) _ ?_;refine dD 3 4 ?_ ?_
   ·refine dE 3 rfl (eW hb) aA (aM rfl) _ ?_;refine eE 5 4 ?_
    refine aT 6 ?_
    refine dst 7 ?_;refine aJ ?_;exact⟨(),trivial,aH h0 [2,3,5,4] ⟨oe rfl rfl,oe rfl rfl,oe rfl rfl,oe rfl rfl,rfl⟩⟩
   refine bQ 5 4 ?_;refine aG 3 rfl (eW hb) aA (aM rfl) _ ?_
   refine aT 6 ?_
   refine dst 7 ?_;refine aJ ?_;exact⟨(),trivial,aH h0 [2,3,5,4] ⟨oe rfl rfl,oe rfl rfl,oe rfl rfl,oe rfl rfl,rfl⟩⟩
  refine bQ 5 4 ?_;refine aG 1 rfl (eW ha) aA (aM rfl) _ ?_
  refine aG 3 rfl (eW hb) aA (aM rfl) _ ?_;refine aT 6 ?_
  refine dst 7 ?_;refine aJ ?_;exact⟨(),trivial,aH h0 [2,3,5,4] ⟨oe rfl rfl,oe rfl rfl,oe rfl rfl,oe rfl rfl,rfl⟩⟩
 refine sq (rl (o1 ?_));refine o1 ?_;refine ld ?_;refine o1 ?_;refine o1 ?_;refine ld ?_
 have hD:aE true Tryz.prog 217 [] [.one (.t (sU false (dg 4294967296 k.natAbs))),.one (.t (sU false (dg 4294967296 k'.natAbs)))] (aP (.tup [.one (.t (sU true (dg 4294967296 (k.natAbs/k'.natAbs)))),.one (.t (sU true (dg 4294967296 (k.natAbs%k'.natAbs)))),.one (tv (.int .i64 0))])):=by
  have h9:=JC (aU (by omega) k.natAbs) (aU (by omega) k'.natAbs) (by omega) (by omega) (by rw[cB];omega)
  rwa[cB,cB]at h9
 refine nC 4 hD aA (cO rfl rfl) ?_;(iterate 7 refine o1 ?_);refine nl (sq (sq (rl (o1 ?_))));refine o1 ?_;refine nl ?_
 refine aV rfl (fun h1=>?_) (fun h1=>?_)
 ·exact absurd rfl h1
 refine sk (sq (sq (rl (o1 ?_))));refine o1 ?_;refine ld ?_;refine o1 ?_;refine o1 ?_;refine ld ?_;refine o1 ?_;refine o1 ?_
 refine WL.splitb (t:=37) rfl (fun h2=>?_) (fun h2=>?_)
 ·(iterate 4 refine o1 ?_);refine nl ?_;refine aV rfl (fun h3=>?_) (fun h3=>?_)
  ·refine sq (rl (o1 ?_));refine bs 6 ?_
   have hA:aE true Tryz.prog 218 [] [.one (.t (sU false (dg 4294967296 (k.natAbs/k'.natAbs)))),.one (.t (sU false [1]))] (aP (.one (.t (sU true (dg 4294967296 ((k.natAbs/k'.natAbs)+1)))))):=by
    have h9:=LU (aU (by omega) (k.natAbs/k'.natAbs)) (Lim.cons (show 1<4294967296 by omega) Lim.nil) (by omega) (by simp)
    rwa[cL (by omega),show vl 4294967296 [1]=1 from rfl]at h9
   refine nC 7 hA aA ⟨CH rfl (.sl rfl rfl (EX _) (bT _)),CH rfl (.sl (trs:=bF [1]) rfl rfl rfl rfl),rfl⟩ ?_;refine o1 ?_;refine nl (rl (o1 ?_))
   refine o1 ?_;refine ld ?_;refine o1 ?_
   have hS:aE true Tryz.prog 219 [] [.one (.t (sU false (dg 4294967296 k'.natAbs))),.one (.t (sU false (dg 4294967296 (k.natAbs%k'.natAbs))))] (aP (.tup [.one (.t (sU true (dg 4294967296 (k'.natAbs-(k.natAbs%k'.natAbs))))),.one (tv (.int .i64 0))])):=by
    have h9:=Zt (aU (by omega) k'.natAbs) (aU (by omega) (k.natAbs%k'.natAbs)) (by omega) (by rw[cB,cL (by omega)];omega)
    rwa[cB,cL (by omega)]at h9
   refine nC 8 hS aA ⟨a1 rfl,CH rfl (.sl rfl rfl (EX _) (bT _)),rfl⟩ ?_;(iterate 4 refine o1 ?_);refine nl (sq ?_)
   have hd:k.fdiv k'=dV (aZ k != aZ k') ((k.natAbs/k'.natAbs)+1)/\k.fmod k'=dV (aZ k') (k'.natAbs-(k.natAbs%k'.natAbs)):=by
    have h9:aZ k≠aZ k':=by simpa using h2
    have h7:k.natAbs%k'.natAbs≠0:=by have h5:=qL (m:=(k.natAbs%k'.natAbs)) rfl;rw[decide_eq_true (by omega)]at h5;have h6:=of_decide_eq_true h5.symm;omega
    have h8:=PY (a:=k) (b:=k') hz0 h9 h7
    rw[h2];exact h8
   refine bU [1,2,3,6] [15,16] ?_
   refine dv 0 ?_;refine dv 1 ?_;refine aF 2 ?_;refine dv 3 ?_;refine dv 4 ?_;refine aF 5 ?_;refine dv 6 ?_;refine dv 7 ?_;refine dv 9 ?_;refine dv 10 ?_;refine aF 11 ?_
   refine dv 12 ?_
   refine Jg 8 9 [7] rfl (lB (b:=(aZ k != aZ k')) (m:=((k.natAbs/k'.natAbs)+1)) (K:=(k.fdiv k')) hd.1.symm) aA ⟨aD rfl,rfl⟩ ⟨rfl,rfl,rfl⟩ ⟨rfl,rfl,rfl,rfl,trivial⟩ ?_
   refine Jg 13 10 [8] rfl (lB (b:=(aZ k')) (m:=(k'.natAbs-(k.natAbs%k'.natAbs))) (K:=(k.fmod k')) hd.2.symm) aA ⟨aD rfl,rfl⟩ ⟨rfl,rfl,rfl⟩ ⟨rfl,rfl,rfl,rfl,trivial⟩ ?_
   refine aT 14 ?_
   refine dst 15 ?_;refine bM 16 ?_
   refine aJ ?_;refine rt ?_
   exact en (.inl rfl) rfl (lD (.cons (.agg (.cons (.id rfl) (.cons (.sl (trs:=bF (dg 4294967296 ((k.fdiv k')).natAbs)) rfl rfl (cC _) (bT _)) .nil))) (.cons (.agg (.cons (.id rfl) (.cons (.sl (trs:=bF (dg 4294967296 ((k.fmod k')).natAbs)) rfl rfl (cC _) (bT _)) .nil))) (.cons (bO (.int .i64 0)) .nil)))) (by decide) (fun _=>⟨fT (k.fdiv k'),fT (k.fmod k'),trivial,trivial⟩) rfl
  refine sk (sq ?_);have hd:k.fdiv k'=dV (aZ k != aZ k') (k.natAbs/k'.natAbs)/\k.fmod k'=dV (aZ k') (k.natAbs%k'.natAbs):=by
   have h9:aZ k≠aZ k':=by simpa using h2
   have h7:k.natAbs%k'.natAbs=0:=by have h5:=qL (m:=(k.natAbs%k'.natAbs)) rfl;rw[decide_eq_false (by omega)]at h5;have h6:=of_decide_eq_false h5.symm;omega
   have h8:=PX (a:=k) (b:=k') hz0 h9 h7
   rw[h2];exact h8
  refine bU [1,2,3] [15,16] ?_
  refine dv 0 ?_;refine dv 1 ?_;refine aF 2 ?_;refine dv 3 ?_;refine dv 4 ?_;refine aF 5 ?_;refine dv 6 ?_;refine dv 7 ?_;refine dv 9 ?_;refine dv 10 ?_;refine aF 11 ?_
  refine dv 12 ?_
  refine Jg 8 6 [4] rfl (lB (b:=(aZ k != aZ k')) (m:=(k.natAbs/k'.natAbs)) (K:=(k.fdiv k')) hd.1.symm) aA ⟨aD rfl,rfl⟩ ⟨rfl,rfl,rfl⟩ ⟨rfl,rfl,rfl,trivial⟩ ?_
  refine Jg 13 7 [5] rfl (lB (b:=(aZ k')) (m:=(k.natAbs%k'.natAbs)) (K:=(k.fmod k')) hd.2.symm) aA ⟨aD rfl,rfl⟩ ⟨rfl,rfl,rfl⟩ ⟨rfl,rfl,rfl,trivial⟩ ?_
  refine aT 14 ?_
  refine dst 15 ?_;refine bM 16 ?_
  refine aJ ?_;refine rt ?_
  exact en (.inl rfl) rfl (lD (.cons (.agg (.cons (.id rfl) (.cons (.sl (trs:=bF (dg 4294967296 ((k.fdiv k')).natAbs)) rfl rfl (cC _) (bT _)) .nil))) (.cons (.agg (.cons (.id rfl) (.cons (.sl (trs:=bF (dg 4294967296 ((k.fmod k')).natAbs)) rfl rfl (cC _) (bT _)) .nil))) (.cons (bO (.int .i64 0)) .nil)))) (by decide) (fun _=>⟨fT (k.fdiv k'),fT (k.fmod k'),trivial,trivial⟩) rfl
 (iterate 3 refine aW ?_);refine o1 ?_;refine nl (dY rfl (sk (sq ?_)))
 have hd:k.fdiv k'=dV (aZ k != aZ k') (k.natAbs/k'.natAbs)/\k.fmod k'=dV (aZ k') (k.natAbs%k'.natAbs):=by
  have h9:aZ k=aZ k':=by simpa using h2
  have h8:=PW (a:=k) (b:=k') hz0 h9
  rw[h2];exact h8
 refine bU [1,2,3] [15,16] ?_
 refine dv 0 ?_;refine dv 1 ?_;refine aF 2 ?_;refine dv 3 ?_;refine dv 4 ?_;refine aF 5 ?_;refine dv 6 ?_;refine dv 7 ?_;refine dv 9 ?_;refine dv 10 ?_;refine aF 11 ?_
 refine dv 12 ?_
 refine Jg 8 6 [4] rfl (lB (b:=(aZ k != aZ k')) (m:=(k.natAbs/k'.natAbs)) (K:=(k.fdiv k')) hd.1.symm) aA ⟨aD rfl,rfl⟩ ⟨rfl,rfl,rfl⟩ ⟨rfl,rfl,rfl,trivial⟩ ?_
 refine Jg 13 7 [5] rfl (lB (b:=(aZ k')) (m:=(k.natAbs%k'.natAbs)) (K:=(k.fmod k')) hd.2.symm) aA ⟨aD rfl,rfl⟩ ⟨rfl,rfl,rfl⟩ ⟨rfl,rfl,rfl,trivial⟩ ?_
 refine aT 14 ?_
 refine dst 15 ?_;refine bM 16 ?_
 refine aJ ?_;refine rt ?_
 exact en (.inl rfl) rfl (lD (.cons (.agg (.cons (.id rfl) (.cons (.sl (trs:=bF (dg 4294967296 ((k.fdiv k')).natAbs)) rfl rfl (cC _) (bT _)) .nil))) (.cons (.agg (.cons (.id rfl) (.cons (.sl (trs:=bF (dg 4294967296 ((k.fmod k')).natAbs)) rfl rfl (cC _) (bT _)) .nil))) (.cons (bO (.int .i64 0)) .nil)))) (by decide) (fun _=>⟨fT (k.fdiv k'),fT (k.fmod k'),trivial,trivial⟩) rfl
def ztr (o:Bool) (a:Zi):List Tr:=[.v (.bool a.s),sU o a.x]
def eB (k:Int):List Nat:=if k<0 then 45::tx k.natAbs else tx k.natAbs
theorem NW (k:Int):Lim 256 (eB k):=by
 unfold eB
 split
 ·exact Lim.cons (by omega) (Pj _)
 exact Pj _
def LV (l:List Nat):Bool:=l.all fun c=>decide (48<=c/\c<=57)
theorem ZG {l:List Nat}(h:∀c∈l,48<=c/\c<=57):LV l=true:=by simpa[LV]using h
def Zw (l:List Nat):Bool:=decide (l=[])||(!decide (l=[48])&&decide (nth l 0=48))|| !LV l
theorem ZH {l:List Nat}(h0:decide (l=[])=false) (h:decide (l=[48])=true\/¬nth l 0=48) (h2:LV l=true):Zw l=false:=by
 rcases h with h | h <;> simp[Zw,h0,h,h2]
theorem Sq (m:List Nat):∀n:Nat,m.foldl (fun n c=>n*10+(c-48)) n=n*10^m.length+jT m:=by
 induction m with
 | nil=>intro n;simp[jT]
 | cons c m ih=>
  intro n
  have e:jT (c::m)=(0*10+(c-48))*10^m.length+jT m:=ih _
  rw[List.foldl_cons,ih,e,List.length_cons,Nat.pow_succ,Nat.zero_mul,Nat.zero_add,Nat.add_mul,Nat.mul_assoc,Nat.mul_comm 10,Nat.add_assoc]
theorem Kx (l m:List Nat):jT (l++m)=jT l*10^m.length+jT m:=by
 show(l++m).foldl _ 0=_
 rw[List.foldl_append,Sq]
 rfl
theorem QT {l:List Nat}(h:∀c∈l,48<=c/\c<=57){j:Nat}(hj:j<=l.length):jT (l.take j)<4294967296^j:=Nat.lt_of_lt_of_le (LT h hj) (Nat.pow_le_pow_left (by omega) j)
theorem QU {l:List Nat}(h:∀c∈l,48<=c/\c<=57){j:Nat}(hj:j<=l.length):(dg 4294967296 (jT (l.take j))).length<=j:=cW (by omega) (QT h hj)
theorem QV (ds:List Nat):jT (eY ds).reverse=vl 10 ds:=by
 induction ds with
 | nil=>rfl
 | cons d ds ih=>
  have e:(eY (d::ds)).reverse=(eY ds).reverse++[48+d]:=by simp[eY]
  rw[e,Kx,ih]
  simp[jT,vl]
  omega
theorem ZI (v:Nat):jT (tx v)=v:=by
 unfold tx
 split
 ·rename_i h;subst h;rfl
 rw[QV,cL (by omega)]
theorem Sr (v:Nat):∀c∈tx v,48<=c/\c<=57:=by
 unfold tx
 split
 ·intro c hc
  simp at hc
  omega
 intro c hc
 rw[List.mem_reverse]at hc
 obtain⟨d,hd,rfl⟩:=List.mem_map.1 hc
 have:=aU (B:=10) (by omega) v d hd
 omega
theorem QW {v:Nat}(h:v≠0):nth (tx v) 0≠48:=by
 have e:=Zs (l:=dg 10 v) (v:=v) (aU (by omega) v) (cL (by omega) v)
 rw[if_neg h]at e
 have e2:tx v=(eY (dg 10 v)).reverse:=by unfold tx;rw[if_neg h]
 rw[<-e2]at e
 have h2:=wI v
 generalize tx v=L at e h2
 cases L with
 | nil=>exact absurd rfl h2
 | cons x l=>
  intro h3
  have h4:x=48:=h3
  subst h4
  have h5:=(List.dropWhile_sublist (· ==48) (l:=l)).length_le
  rw[List.dropWhile_cons,if_pos (by rfl)]at e
  rw[e,List.length_cons]at h5
  omega
theorem QX (v:Nat):Zw (tx v)=false:=by
 by_cases h:v=0
 ·subst h;rfl
 exact ZH (decide_eq_false (wI v)) (.inr (QW h)) (ZG (Sr v))
def bL (l:List Nat):List Nat:=if l.take 1=[45]then l.drop 1 else l
theorem GI {v:Nat}(h:(dg 4294967296 v).length<=1000000):(dg 10 v).length<=10000000:=by
 have h1:=qP (B:=4294967296) (n:=v) (by omega)
 have h2:v<10^(10*(dg 4294967296 v).length):=Nat.lt_of_lt_of_le h1 (by rw[Nat.pow_mul];exact Nat.pow_le_pow_left (by omega) _)
 have:=cW (B:=10) (by omega) h2
 omega
def tL (c:Nat):Bool:=decide (48<=c/\c<=57)
def iW (l:List Nat):Bool:=decide (l.take 1=[45])
def nW (l:List Nat):Bool:=decide (l.take 1=[46])
def wh (m:List Nat):List Nat:=m.takeWhile tL
def fH (m:List Nat):List Nat:=m.dropWhile tL
def Ht (l:List Nat):List Nat:=if l.take 1=[46]then l.drop 1 else l
theorem Nr {l:List Nat}(h:nW l=true):Ht l=l.drop 1:=if_pos (of_decide_eq_true h)
def pl (m:List Nat):List Nat:=if nW (fH m)then(Ht (fH m)).takeWhile tL else []
def rr (m:List Nat):List Nat:=if nW (fH m)then(Ht (fH m)).dropWhile tL else fH m
def Mu (l:List Nat):Bool:=l.all fun c=>decide (c=48)
def Eu (m:List Nat):Bool:=Mu (wh m++pl m)
def pG (m:List Nat):Bool:= !(nW (fH m)&&decide (pl m=[]))&&(decide (rr m=[])&&(!decide (wh m=[])&&(decide (wh m=[48])|| !decide (nth (wh m) 0=48))))
def uF (l:List Nat):Bool:=pG (bL l)&& !(iW l&&Eu (bL l))
def oW (l:List Nat) (most:Nat):Int:=if uF l=true/\(pl (bL l)).length<=most then(if 40<(wh (bL l)).length+(pl (bL l)).length then 3 else 0)else 60
def Et (l:List Nat):Rat:=Rat.divInt (dV (iW l) (jT (wh (bL l)++pl (bL l)))) ((10^(pl (bL l)).length:Nat):Int)
def mB (l:List Nat) (most:Nat):Rat:=if oW l most=0 then Et l else 0
theorem Po {c:Nat}(h:tL c=true):48<=c/\c<=57:=of_decide_eq_true h
theorem EY (p:Nat->Bool) (m:List Nat):∀c∈m.takeWhile p,p c=true:=fun c hc=>by
 induction m with
 | nil=>simp at hc
 | cons x m ih=>
  rw[List.takeWhile_cons]at hc
  split at hc
  ·rcases List.mem_cons.1 hc with rfl | hc
   ·assumption
   exact ih hc
  cases hc
theorem Pr (m:List Nat):∀c∈wh m,48<=c/\c<=57:=fun c hc=>Po (EY tL m c hc)
theorem Ps (m:List Nat):∀c∈pl m,48<=c/\c<=57:=fun c hc=>by
 unfold pl at hc
 split at hc
 ·exact Po (EY tL _ c hc)
 cases hc
theorem GD (m:List Nat):∀c∈wh m++pl m,48<=c/\c<=57:=fun c hc=>(List.mem_append.1 hc).elim (Pr m c) (Ps m c)
theorem sA (m:List Nat):wh m++fH m=m:=List.takeWhile_append_dropWhile
theorem JE {l:List Nat}(h:nW l=true):l=46::l.drop 1:=by
 have h:=of_decide_eq_true h
 cases l with
 | nil=>simp at h
 | cons x l=>simp at h;simp[h]
theorem Bw {m:List Nat}(h:nW (fH m)=true):fH m=46::(pl m++rr m):=by
 have h1:=JE h
 unfold pl rr
 rw[if_pos h,if_pos h,List.takeWhile_append_dropWhile,Nr h]
 exact h1
theorem Xw {m:List Nat}(h:nW (fH m)=false):rr m=fH m:=by unfold rr;rw[h];rfl
theorem uM {m:List Nat}(h:nW (fH m)=false):pl m=[]:=by unfold pl;rw[h];rfl
theorem tM {m:List Nat}(h:pG m=true):m=wh m++(if nW (fH m)then 46::pl m else [])/\wh m≠[]:=by
 unfold pG at h
 simp only[Bool.and_eq_true,Bool.not_eq_true',decide_eq_true_eq,decide_eq_false_iff_not]at h
 obtain⟨_,h2,h3,_⟩:=h
 refine⟨?_,h3⟩
 conv=>lhs;rw[<-sA m]
 congr 1
 cases hp:nW (fH m)with
 | true=>rw[Bw hp,h2,List.append_nil];rfl
 | false=>rw[<-Xw hp,h2];rfl
theorem wL (l:List Nat):l=(if iW l then [45]else [])++bL l:=by
 unfold iW bL
 by_cases h:l.take 1=[45]
 ·rw[if_pos h,decide_eq_true h]
  cases l with
  | nil=>simp at h
  | cons x l=>simp at h;simp[h]
 rw[if_neg h,decide_eq_false h];rfl
def b1 (m:List Nat):Bool:=decide ((wh m).length=0)||(decide (1<(wh m).length)&&decide (nth m 0=48))
def b2 (m:List Nat):Bool:=nW (fH m)&&decide ((pl m).length=0)
theorem wh0 {m:List Nat}(h:wh m≠[]):nth (wh m) 0=nth m 0:=by
 have h2:=sA m
 cases hq:wh m with
 | nil=>exact absurd hq h
 | cons x w=>rw[hq]at h2;rw[<-h2];rfl
theorem KF (m:List Nat):pG m=(!b1 m&&(!b2 m&&decide (rr m=[]))):=by
 unfold pG b1 b2
 by_cases h0:wh m=[]
 ·simp[h0]
 have e1:decide (wh m=[48])=(decide ((wh m).length=1)&&decide (nth m 0=48)):=by
  rw[<-wh0 h0]
  cases hq:wh m with
  | nil=>exact absurd hq h0
  | cons x w=>
   cases w with
   | nil=>simp[nth]
   | cons y w=>simp
 have e2:(wh m).length≠0:=fun h=>h0 (List.eq_nil_of_length_eq_zero h)
 rw[e1,wh0 h0]
 have e3:decide ((pl m).length=0)=decide (pl m=[]):=decide_eq_decide.2 List.length_eq_zero_iff
 rw[e3]
 by_cases h1:nth m 0=48 <;> by_cases h2:(wh m).length=1 <;> cases nW (fH m) <;> by_cases h3:pl m=[] <;> by_cases h4:rr m=[] <;> simp[h0,h1,h2,h3,h4,e2] <;> omega
def sD (l:List Nat):Nat:=l.foldl (fun n c=>if c=46 then n else if c=45 then n else n*10+(c-48)) 0
def sP (l:List Nat):Int:=l.foldl (fun p c=>if c=46 then 0 else if c=45 then p else if 0<=p then p+1 else p) (-1)
theorem Ss {l:List Nat}(h:∀c∈l,48<=c/\c<=57) (n:Nat):l.foldl (fun n c=>if c=46 then n else if c=45 then n else n*10+(c-48)) n=l.foldl (fun n c=>n*10+(c-48)) n:=by
 induction l generalizing n with
 | nil=>rfl
 | cons c l ih=>
  have hc:=h c (by simp)
  rw[List.foldl_cons,List.foldl_cons,if_neg (by omega),if_neg (by omega)]
  exact ih (fun c hc=>h c (by simp[hc])) _
theorem St {l:List Nat}(h:∀c∈l,48<=c/\c<=57) (p:Int):l.foldl (fun p c=>if c=46 then 0 else if c=45 then p else if 0<=p then p+1 else p) p=if 0<=p then p+l.length else p:=by
 induction l generalizing p with
 | nil=>simp
 | cons c l ih=>
  have hc:=h c (by simp)
  rw[List.foldl_cons,if_neg (by omega),if_neg (by omega),ih (fun c hc=>h c (by simp[hc]))]
  by_cases hp:0<=p
  ·rw[if_pos hp,if_pos (by omega),if_pos hp,List.length_cons]
   omega
  rw[if_neg hp,if_neg hp,if_neg hp]
theorem aAt {l:List Nat}(h:pG (bL l)=true):sD l=jT (wh (bL l)++pl (bL l)):=by
 have e1:=wL l
 obtain⟨e2,_⟩:=tM h
 have key:∀m w p:List Nat,(∀c∈w,48<=c/\c<=57)->(∀c∈p,48<=c/\c<=57)->∀b:Bool,(m=w++(if b then 46::p else []))->(b=false->p=[])->∀s:Bool,sD ((if s then [45]else [])++m)=jT (w++p):=by
  intro m w p hw hp b hm hb s
  subst hm
  have:sD ((if s then [45]else [])++(w++(if b then 46::p else [])))=sD (w++(if b then 46::p else [])):=by cases s <;> rfl
  rw[this]
  unfold sD jT
  rw[List.foldl_append,Ss hw,List.foldl_append]
  cases b with
  | true=>
   show List.foldl _ _ (46::p)=_
   rw[List.foldl_cons,if_pos rfl,Ss hp]
  | false=>rw[hb rfl];rfl
 rw[e1]
 have h9:=key (bL l) _ _ (Pr _) (Ps _) _ e2 (fun h=>uM h) (iW l)
 rw[<-e1]
 rw[<-e1]at h9
 exact h9
theorem aAy {l:List Nat}(h:pG (bL l)=true):max 0 (sP l)=((pl (bL l)).length:Int):=by
 have e1:=wL l
 obtain⟨e2,_⟩:=tM h
 have key:∀m w p:List Nat,(∀c∈w,48<=c/\c<=57)->(∀c∈p,48<=c/\c<=57)->∀b:Bool,(m=w++(if b then 46::p else []))->(b=false->p=[])->∀s:Bool,max 0 (sP ((if s then [45]else [])++m))=(p.length:Int):=by
  intro m w p hw hp b hm hb s
  subst hm
  have:sP ((if s then [45]else [])++(w++(if b then 46::p else [])))=sP (w++(if b then 46::p else [])):=by cases s <;> rfl
  rw[this]
  unfold sP
  rw[List.foldl_append,St hw,if_neg (by omega)]
  cases b with
  | true=>
   show max 0 (List.foldl _ _ (46::p))=_
   rw[List.foldl_cons,if_pos rfl,St hp,if_pos (by omega)]
   omega
  | false=>rw[hb rfl];rfl
 have h9:=key (bL l) _ _ (Pr _) (Ps _) _ e2 (fun h=>uM h) (iW l)
 rwa[<-e1]at h9
def nX (c:Nat):Bool:=decide (c=45)||(decide (c=46)|| decide (c=48))
theorem UJ {l:List Nat}(h:pG (bL l)=true):(iW l&&l.all nX)=(iW l&&Eu (bL l)):=by
 have e1:=wL l
 obtain⟨e2,_⟩:=tM h
 cases hn:iW l with
 | false=>rfl
 | true=>
  rw[hn]at e1
  have hall:∀x:List Nat,(∀c∈x,48<=c/\c<=57)->x.all nX=Mu x:=fun x hx=>by
   unfold Mu
   rw[Bool.eq_iff_iff,List.all_eq_true,List.all_eq_true]
   refine forall_congr' fun c=>forall_congr' fun hc=>?_
   have:=hx c hc
   unfold nX
   simp only[Bool.or_eq_true,decide_eq_true_eq]
   omega
  rw[Bool.true_and,Bool.true_and,e1]
  have e3:bL (([45]:List Nat)++bL l)=bL l:=rfl
  show(([45]:List Nat)++bL l).all nX=Eu (bL l)
  rw[List.all_append]
  have e4:([45]:List Nat).all nX=true:=rfl
  rw[e4,Bool.true_and]
  conv=>lhs;rw[e2]
  unfold Eu Mu
  rw[List.all_append,List.all_append,hall _ (Pr _)]
  unfold Mu
  congr 1
  cases hp:nW (fH (bL l))with
  | false=>rw[uM hp];rfl
  | true=>
   show(46::pl (bL l)).all nX=_
   rw[List.all_cons,hall _ (Ps _)]
   rfl
theorem Hr (m:List Nat):(wh m).length<=m.length:=(List.takeWhile_sublist _).length_le
theorem BW (m:List Nat):(wh m).length+(pl m).length<=m.length:=by
 have h1:=congrArg List.length (sA m)
 rw[cJ]at h1
 cases hp:nW (fH m)with
 | true=>
  have h2:=congrArg List.length (Bw hp)
  rw[List.length_cons,cJ]at h2
  omega
 | false=>rw[uM hp,List.length_nil];omega
section
variable {f:FuncId}{args:List FV}
theorem EZ {a b:Value}(h:∀(N:Nat->Prop) (w:World) us,dM w N [] args us->(∀b,N b->b<w.heap.size)->Calls Tryz.prog f us.toArray w (fun e w'=>e=.returned (.tuple #[a,b])/\Below w.heap.size w w')):aE true Tryz.prog f [] args (aP (.tup [.one (tv a),.one (tv b)])):=by
 intro N w cs us hL
 obtain⟨rfl,hf⟩:=vH hL
 refine(h _ w us hf (fun b hb=>hb.1)).mono ?_
 rintro e W ⟨rfl,hb⟩
 refine .mk0 (y:=[.w a]++([.w b]++[])) rfl hb (by simp[VT.okL,VT.ok]) (by simp[VT.fpL,VT.fp]) (by simp[VT.fpL,VT.fp]) ⟨[a,b],rfl,?_⟩
 exact⟨a,[b],[.w a],[.w b]++[],rfl,rfl,⟨.w a,rfl,rfl,by simp[CR,tv,OR]⟩,b,[],[.w b],[],rfl,rfl,⟨.w b,rfl,rfl,by simp[CR,tv,OR]⟩,rfl,rfl⟩
end
theorem Gp {cs:List UInt8}{p:Nat->Bool}(hp:∀c<256,cs.contains (UInt8.ofNat c)=p c):∀{l:List Nat},Lim 256 l->(l.map UInt8.ofNat).dropWhile (cs.contains ·)=(l.dropWhile p).map UInt8.ofNat
 | [],_=>rfl
 | x::l,h=>by
  rw[List.map_cons,List.dropWhile_cons,List.dropWhile_cons,hp x (h x (by simp))]
  split
  ·exact Gp hp (fun c hc=>h c (by simp[hc]))
  rfl
def p0 (c:Nat):Bool:=decide (c=48)
def nE (p:Nat->Bool) (l:List Nat):List Nat:=(l.reverse.dropWhile p).reverse
theorem Dm {B:Nat}{p:Nat->Bool}{l:List Nat}(h:Lim B l):Lim B (nE p l):=rU (Pc (rU h))
theorem aBF:∀c<256,([48]:List UInt8).contains (UInt8.ofNat c)=p0 c:=by decide+kernel
theorem ZJ {cs:List UInt8}{p:Nat->Bool}(hp:∀c<256,cs.contains (UInt8.ofNat c)=p c){l:List Nat}(h:Lim 256 l):Lib.trimRightS (l.map UInt8.ofNat) cs=(nE p l).map UInt8.ofNat:=by
 unfold Lib.trimRightS nE
 rw[<-List.map_reverse,Gp hp (rU h),List.map_reverse]
theorem trR {cs:List UInt8}{p:Nat->Bool}(hp:∀c<256,cs.contains (UInt8.ofNat c)=p c){l:List Nat}(h:Lim 256 l):(⟨(Lib.trimRightS (aN l).data.toList cs).toArray⟩:ByteArray)=aN (nE p l):=by
 rw[kL,ZJ hp h]
 rfl
theorem trB {cs:List UInt8}{p:Nat->Bool}(hp:∀c<256,cs.contains (UInt8.ofNat c)=p c){l:List Nat}(h:Lim 256 l):(⟨(Lib.trimS (aN l).data.toList cs).toArray⟩:ByteArray)=aN ((nE p l).dropWhile p):=by
 rw[kL]
 unfold Lib.trimS
 rw[ZJ hp h]
 unfold Lib.trimLeftS
 rw[Gp hp (Dm h)]
 rfl
variable {l:List Nat}
theorem FY (hl:Lim 256 l) (hn:l.length<=9223372036854775807):aE true Tryz.prog 83 [] [.one (tv (.string (aN l))),.one (tv (.string ⟨#[48]⟩))] (aP (.one (tv (.string (aN (nE p0 l)))))):=sL fun N w us hf hN=>by
 obtain⟨u,v,rfl,h1,h2⟩:=uE hf
 obtain rfl:=bE (gH h1)
 obtain rfl:=bE (gH h2)
 have h:=Go.Proofs.Any.strings_TrimRight_laid IZ (by kernel_rfl) (aN l) ⟨#[48]⟩ w (by rw[aO];omega) (by decide) (fun j b h=>(by decide:∀b∈([48]:List UInt8),b.toNat<128) b (List.mem_of_getElem? h))
 rwa[trR (cs:=[48]) aBF hl]at h
theorem BH {n:Nat}(hn:n<=1000000):aE true Tryz.prog 86 [] [.one (tv (.string ⟨#[48]⟩)),.one (tv (.int .i64 ((n:Nat):Int)))] (aP (.one (tv (.string (aN (List.replicate n 48)))))):=sL fun N w us hf hN=>by
 obtain⟨u,v,rfl,h1,h2⟩:=uE hf
 obtain rfl:=bE (gH h1)
 obtain rfl:=bE (gH h2)
 have h:=Go.Proofs.Any.strings_Repeat sM QO ⟨#[48]⟩ n w (by omega) (by show 1*n<=_;omega)
 have e:(⟨(Lib.repeatL (⟨#[48]⟩:ByteArray).data.toList n).toArray⟩:ByteArray)=aN (List.replicate n 48):=by
  have:∀n,Lib.repeatL [48] n=(List.replicate n 48).map UInt8.ofNat:=fun n=>by
   induction n with
   | zero=>rfl
   | succ n ih=>rw[Lib.repeatL,ih,List.replicate_succ];rfl
  show(⟨(Lib.repeatL [48] n).toArray⟩:ByteArray)=_
  rw[this]
  rfl
 rwa[e]at h
theorem ST {a b:Nat}(ha:a<18446744073709551616) (hb:b<18446744073709551616):aE true Tryz.prog 153 [] [.one (tv (.int .u64 ((a:Nat):Int))),.one (tv (.int .u64 ((b:Nat):Int)))] (aP (.tup [.one (tv (.int .u64 ((a*b/18446744073709551616:Nat):Int))),.one (tv (.int .u64 ((a*b%18446744073709551616:Nat):Int)))])):=EZ fun N w us hf hN=>by
 obtain⟨u,v,rfl,h1,h2⟩:=uE hf
 obtain rfl:=bE (gH h1)
 obtain rfl:=bE (gH h2)
 exact(Go.Proofs.Any.bits_Mul JA a b ha hb w).mono fun e w' h=>⟨h.1,by first | exact h.2 | (rw[h.2];exact Below.refl _ _)⟩
def pU (l:List Nat):Prop:=Lim 256 l/\l.length<=9223372036854775807
def OkS (l:List Nat):Prop:=Lim 256 l/\l.length<=70
def Ok6 (a:Fr4):Prop:=(Lim 4294967296 a.x/\Lim 4294967296 a.y)/\a.x.length<=6/\a.y.length<=6
theorem Ok6.ok {a:Fr4}(h:Ok6 a):a.ok:=⟨h.1.1,h.1.2,by have:=h.2.1;omega,by have:=h.2.2;omega⟩
theorem OkS.lim {l:List Nat}(h:OkS l):pU l:=⟨h.1,by have:=h.2;omega⟩
structure OkI (x:It):Prop where
 k:x.k<256
 s:OkS x.s
 t:OkS x.t
 u:OkS x.u
 v:OkS x.v
 p:Ok6 x.p
 q:Ok6 x.q
structure OkY (y:Yer):Prop where
 n:-9223372036854775808<=y.n/\y.n<=9223372036854775807
 h:∀x∈y.h,OkI x
 b:∀x∈y.b,OkI x
 d:∀x∈y.d,OkI x
 s:∀x∈y.s,OkI x
 o:∀x∈y.o,OkI x
 hl:y.h.length<=40
 bl:y.b.length<=40
 dl:y.d.length<=40
 sl:y.s.length<=40
 ol:y.o.length<=40
structure OkF (f:Fil):Prop where
 nm:OkS f.nm
 pa:OkS f.pa
 br:∀x∈f.br,OkI x
 th:Ok6 f.th
 cp:Ok6 f.cp
 bk:-9223372036854775808<=f.bk/\f.bk<=9223372036854775807
 fw:-9223372036854775808<=f.fw/\f.fw<=9223372036854775807
 it:Ok6 f.it
 fl:Ok6 f.fl
 kp:-9223372036854775808<=f.kp/\f.kp<=9223372036854775807
 cl:∀x∈f.cl,OkI x
 en:∀x∈f.en,OkS x
 ys:∀x∈f.ys,OkY x
 brl:f.br.length<=20
 cll:f.cl.length<=70
 enl:f.en.length<=260
 ysl:f.ys.length<=45
def fB (o:Bool) (pt:Nat) (yr:Int) (e i:Nat):Tr:=if e=0 then .v (.pointer none)else .p o 151 [.v (.int .u8 (pt:Int)),.v (.int .i64 yr),.v (.int .i64 (i:Int)),.v (.int .i64 (e:Int))]
def TQ (xs:List Bool):Tr:=.s false 4 1 xs.length (xs.map fun b=>.v (.bool b))
def jD (xs:List Bool) (k:Nat):Bool:=xs.getD k false
theorem BO (xs:List Bool){k:Nat}(h:k<xs.length):((xs.map fun b=>Tr.v (.bool b)).drop (k*1)).take [Tr.v (.bool (jD xs k))].length=[.v (.bool (jD xs k))]:=by
 have h1:(xs.map fun b=>Tr.v (.bool b))[k]? =some (.v (.bool (jD xs k))):=by simp[jD,h]
 have h2:k<(xs.map fun b=>Tr.v (.bool b)).length:=by rw[dP];exact h
 rw[Nat.mul_one,List.drop_eq_getElem_cons h2,List.length_singleton,List.take_succ_cons,List.take_zero]
 rw[fV h2]at h1
 rw[Option.some.inj h1]
theorem BL (p:Nat->Bool) (l:List Nat):decide ((nE p l).dropWhile p=[])=l.all p:=by
 rw[Bool.eq_iff_iff,decide_eq_true_eq,List.all_eq_true,Sl]
 unfold nE
 constructor
 ·intro h c hc
  cases hq:l.reverse.dropWhile p with
  | nil=>exact Sl.1 hq c (List.mem_reverse.2 hc)
  | cons y ys=>
   have h1:=h y (by rw[hq];simp)
   have h2:=List.head?_dropWhile_not p l.reverse
   rw[hq]at h2
   simp at h2
   rw[h1]at h2
   cases h2
 intro h c hc
 have h1:=(List.dropWhile_sublist p).subset (List.mem_reverse.1 hc)
 exact h c (List.mem_reverse.1 h1)
section
variable {α:Type}{r:α->Bool}{d:α}
def fK (most:Nat) (r:α->Bool) (l:List α):Nat:=match l with
 | []=>0
 | x::xs=>match most with
  | 0=>0
  | m+1=>if r x then fK m r xs+1 else 0
theorem Av:∀{i most:Nat}{l:List α},i<=most->i<=l.length->(∀x∈l.take i,r x=true)->dK most r l=dK (most-i) r (l.drop i)/\fK most r l=i+fK (most-i) r (l.drop i)
 | 0,most,l,_,_,_=>⟨by simp,by simp⟩
 | i+1,0,l,h,_,_=>by omega
 | i+1,m+1,[],_,h,_=>by simp at h
 | i+1,m+1,x::l,h,h2,h3=>by
  have hx:r x=true:=h3 x (by simp)
  have ih:=Av (i:=i) (most:=m) (l:=l) (by omega) (by simpa using h2) (fun y hy=>h3 y (by simp[hy]))
  rw[dK,fK,hx,if_pos rfl,if_pos rfl,ih.1,ih.2,List.drop_succ_cons,Nat.add_sub_add_right]
  exact⟨rfl,by omega⟩
def mA (most:Nat) (r:α->Bool) (l:List α) (i:Nat):Prop:=i<=most/\∀x∈l.take i,r x=true
theorem oJ {most:Nat}{l:List α}:mA most r l 0:=⟨Nat.zero_le _,fun _ h=>by simp at h⟩
theorem iQ {most i:Nat}{l:List α}(hi:i<l.length) (h:mA most r l i) (hm:i≠most) (hr:r (l.getD i d)=true):mA most r l (i+1):=⟨by have:=h.1;omega,fun x hx=>by
 rw[List.take_add_one,List.mem_append]at hx
 rcases hx with hx | hx
 ·exact h.2 x hx
 rw[fV hi]at hx
 simp at hx
 rw[hx]
 simpa[hi]using hr⟩
theorem Xc {i:Nat}{l:List α}(hi:i<l.length):l.drop i=l.getD i d::l.drop (i+1):=by
 rw[List.drop_eq_getElem_cons hi]
 simp[hi]
theorem nG {most i:Nat}{l:List α}(hi:i<l.length) (h:mA most r l i) (e:i=most):dK most r l=3/\fK most r l=i:=by
 obtain⟨h1,h2⟩:=Av h.1 (by omega) h.2
 rw[h1,h2,e,Nat.sub_self]
 subst e
 rw[List.drop_eq_getElem_cons hi]
 exact⟨rfl,rfl⟩
theorem nH {most i:Nat}{l:List α}(hi:i<l.length) (h:mA most r l i) (hm:i≠most) (hr:r (l.getD i d)=false):dK most r l=2/\fK most r l=i:=by
 obtain⟨h1,h2⟩:=Av h.1 (by omega) h.2
 obtain⟨m,hm⟩:∃m,most-i=m+1:=⟨most-i-1,by have:=h.1;omega⟩
 rw[h1,h2,hm,Xc (d:=d) hi,dK,fK,hr]
 exact⟨rfl,rfl⟩
theorem nI {most:Nat}{l:List α}(h:mA most r l l.length):dK most r l=0:=by
 rw[(Av h.1 (aX _) h.2).1,List.drop_length]
 simp[dK]
end
theorem Xd {a b:List Nat}:jZ (a++b)=if jZ a=0 then jZ b else jZ a:=by
 induction a with
 | nil=>rfl
 | cons n a ih=>
  cases n with
  | zero=>exact ih
  | succ n=>rfl
theorem nF (xs:List (List Nat)){k:Nat}(h:k<xs.length):((xs.map sT).drop (k*1)).take [sT (eQ xs k)].length=[sT (eQ xs k)]:=by
 have h1:(xs.map sT)[k]? =some (sT (eQ xs k)):=by simp[eQ,h]
 have h2:k<(xs.map sT).length:=by rw[dP];exact h
 rw[Nat.mul_one,List.drop_eq_getElem_cons h2,List.length_singleton,List.take_succ_cons,List.take_zero]
 rw[fV h2]at h1
 rw[Option.some.inj h1]
def jL (l:List Nat) (k:Nat):Prop:=∀x∈l.take k,x=0
theorem wP {l:List Nat}:jL l 0:=fun _ h=>by simp at h
theorem zV {l:List Nat}{k:Nat}(hk:k<l.length) (h:jL l k) (h0:nth l k=0):jL l (k+1):=fun x hx=>by
 rw[List.take_add_one,List.mem_append]at hx
 rcases hx with hx | hx
 ·exact h x hx
 rw[fV hk]at hx
 simp at hx
 rw[hx]
 simpa[nth,hk]using h0
theorem Gq:∀{k:Nat}{l:List Nat},jL l k->jZ l=jZ (l.drop k)
 | 0,l,_=>by simp
 | k+1,[],_=>by simp
 | k+1,x::l,h=>by
  obtain rfl:x=0:=h x (by simp)
  rw[jZ,Gq (k:=k) (fun y hy=>h y (by simp[hy])),List.drop_succ_cons]
theorem oK {l:List Nat}{k:Nat}(hk:k<l.length) (h:jL l k) (hn:nth l k≠0):jZ l=nth l k:=by
 rw[Gq h,Xc (d:=0) hk]
 show jZ (nth l k::_)=_
 cases hq:nth l k with
 | zero=>exact absurd hq hn
 | succ n=>rfl
theorem uW {l:List Nat}(h:jL l l.length):jZ l=0:=by
 rw[Gq h,List.drop_length]
 rfl
theorem uX {o:Bool}{pt e i:Nat}{yr:Int}(h:e=0):fB o pt yr e i=.v (.pointer none):=if_pos h
theorem Dq {o:Bool}{pt e i:Nat}{yr:Int}(h:e≠0):fB o pt yr e i=.p o 151 [.v (.int .u8 (pt:Int)),.v (.int .i64 yr),.v (.int .i64 (i:Int)),.v (.int .i64 (e:Int))]:=if_neg h
theorem mK {pt e i:Nat}{yr:Int}:yF (.one (.t (fB true pt yr e i)))=.one (.t (fB false pt yr e i)):=by
 unfold fB
 split <;> rfl
theorem nZ (pt e i:Nat) (yr:Int):fB false pt yr e i=.v (.pointer none)\/fB false pt yr e i=.p false 151 [.v (.int .u8 (pt:Int)),.v (.int .i64 yr),.v (.int .i64 (i:Int)),.v (.int .i64 (e:Int))]:=by
 by_cases h:e=0
 ·exact .inl (uX h)
 exact .inr (Dq h)
theorem VM {pt e i:Nat}{yr:Int}:rL (.t (fB false pt yr e i))=true:=by
 unfold fB
 split <;> rfl
def Ii (yr:Int) (ds:List (Nat×Nat×Nat)):List Tr:=ds.map fun d=>fB false d.1 yr d.2.1 d.2.2
def jQ (ds:List (Nat×Nat×Nat)) (k:Nat):Nat×Nat×Nat:=ds.getD k (0,0,0)
def fX (ds:List (Nat×Nat×Nat)):List Nat:=ds.map fun d=>d.2.1
theorem qH (ds:List (Nat×Nat×Nat)) (k:Nat):nth (fX ds) k=(jQ ds k).2.1:=by
 unfold nth fX jQ
 simp only[List.getD_eq_getElem?_getD,List.getElem?_map]
 cases ds[k]? <;> rfl
theorem CF (yr:Int) (ds:List (Nat×Nat×Nat)){k:Nat}(h:k<ds.length):((Ii yr ds).drop (k*1)).take [fB false (jQ ds k).1 yr (jQ ds k).2.1 (jQ ds k).2.2].length=[fB false (jQ ds k).1 yr (jQ ds k).2.1 (jQ ds k).2.2]:=by
 have h1:(Ii yr ds)[k]? =some (fB false (jQ ds k).1 yr (jQ ds k).2.1 (jQ ds k).2.2):=by simp[Ii,jQ,h]
 have h2:k<(Ii yr ds).length:=by simp[Ii,h]
 rw[Nat.mul_one,List.drop_eq_getElem_cons h2,List.length_singleton,List.take_succ_cons,List.take_zero]
 rw[fV h2]at h1
 rw[Option.some.inj h1]
def nQ (y:Yer):List (Nat×Nat×Nat):=[(7,dK 4096 hlB y.h,fK 4096 hlB y.h),(8,dK 4096 bkB y.b,fK 4096 bkB y.b),(9,dK 4096 dlB y.d,fK 4096 dlB y.d),(10,dK 4096 stB y.s,fK 4096 stB y.s),(11,dK 4096 soB y.o,fK 4096 soB y.o)]
def gJ (f:Fil):List (Nat×Nat×Nat):=[(1,dK 2 namB [f.nm,f.pa],fK 2 namB [f.nm,f.pa]),(2,dK 16 brB f.br,fK 16 brB f.br),(3,dK 7 id (gM f),fK 7 id (gM f)),(4,dK 64 clB f.cl,fK 64 clB f.cl),(5,dK 256 namB f.en,fK 256 namB f.en),(6,dK 40 yrB f.ys,fK 40 yrB f.ys)]
theorem Yi (y:Yer):jZ (fX (nQ y))=kR y:=rfl
theorem Do {f:Fil}(h:jZ (fX (gJ f))≠0):iS f=jZ (fX (gJ f)):=by
 unfold iS
 rw[Xd,if_neg (by exact h)]
 rfl
theorem Dp {f:Fil}(h:jZ (fX (gJ f))=0):iS f=jZ (f.ys.map kR):=by
 unfold iS
 rw[Xd,if_pos (by exact h)]
def bJ:List (List Nat)->List Nat
 | []=>[]
 | [x]=>x
 | x::y::l=>x++32::bJ (y::l)
theorem Fw {x:List Nat}:∀{l:List (List Nat)},l≠[]->bJ (l++[x])=bJ l++32::x
 | [],h=>absurd rfl h
 | [y],_=>rfl
 | y::z::l,_=>by
  have:=Fw (x:=x) (l:=z::l) (by simp)
  show y++32::bJ (z::l++[x])=_
  rw[this]
  simp[bJ]
def cN (ls:List (List Nat)):List Nat:=ls.flatMap (· ++[10])
theorem JF {P:Program}(w:World){t u ty e:TypeId}{i:TypeInfo}(ht:P.underlying t=some (.slice e)) (hu:P.underlying u=some .string) (hi:P.info? e=some i) (hz:i.zero=some (.int .u8 0)) (hsize:i.size=1) (hby:i.bytes=1)
  {v:Value}{n:Nat}{xs:List Value}(hown:w.ownsRow 0 e 1 v n xs) (s:ByteArray) (hbytes:n+s.size<=140737488355328):
  ∃A' c' w',(Builtin.append_ #[t,u] ty #[v,.string s]).run P w=.ok (.slice A' (n+s.size) c') w'/\w'.ownsRow 0 e 1 (.slice A' (n+s.size) c') (n+s.size) (xs++Lib.strCells s)/\w.grownBy w' v.ownBlock/\((Value.slice A' (n+s.size) c').ownBlock=v.ownBlock\/(Value.slice A' (n+s.size) c').ownBlock=some w.heap.size):=by
 have hsmall:n+s.size<=9223372036854775807:=by omega
 have h63:n+s.size<=maxLen:=by unfold maxLen;omega
 have hxl:xs.length=n:=by simpa using hown.1
 have hlen:(xs++Lib.strCells s).length=(n+s.size)*1:=by rw[cJ,hxl,Lib.strCells_length,Nat.mul_one]
 have grown:∀(iK:Nat),iK<n+s.size->∀(row:Option Nat),
   (w.drew.alloc (.cells (xs.toArray++(Lib.strCells s).toArray++Builtin.zeroCells (Value.int .u8 0).cells (grownCap w (n+s.size) iK e-(n+s.size))) e)).ownsRow 0 e 1
    (.slice (some ⟨w.heap.size,0,none⟩) (n+s.size) (grownCap w (n+s.size) iK e)) (n+s.size) (xs++Lib.strCells s)/\
   w.grownBy (w.drew.alloc (.cells (xs.toArray++(Lib.strCells s).toArray++Builtin.zeroCells (Value.int .u8 0).cells (grownCap w (n+s.size) iK e-(n+s.size))) e)) row:=by
  intro iK ho row
  have hge:=grownCap_ge w (n+s.size) iK e
  have hcm:grownCap w (n+s.size) iK e<=maxLen:=grownCap_le_maxLen w (n+s.size) iK e h63
  refine⟨⟨hlen,.inr ⟨w.heap.size,_,_,rfl,Nat.zero_le _,heap_alloc_new w.drew _,hge,hcm,?_,?_⟩⟩,⟨rfl,rfl,rfl,by simp,fun k hk _=>heap_alloc_old w.drew _ hk⟩⟩
  ·have hz1:(Value.int IntKind.u8 0).cells.size=1:=rfl
   simp only[Array.size_append,List.size_toArray,size_zeroCells,hz1,hxl,Lib.strCells_length]
   omega
  simp only[Array.toList_append,List.append_assoc]
  rw[<-List.append_assoc,<-hlen]
  exact List.take_left
 rcases hown.2 with⟨rfl,rfl⟩ | ⟨g,cap,cur,rfl,hbg,hg,hnc,hcm,hcs,htake⟩
 ·have hx:xs=[]:=List.eq_nil_of_length_eq_zero hxl
  subst hx
  by_cases hm:s.size=0
  ·have hn:Lib.strCells s=[]:=List.eq_nil_of_length_eq_zero (by rw[Lib.strCells_length];exact hm)
   refine⟨none,0,w,?_,by rw[hm,hn];exact World.ownsRow_nil w 0 e 1,⟨rfl,rfl,rfl,aX _,fun _ _ _=>rfl⟩,.inl rfl⟩
   have hf:=Lib.run_firstCells_string (P:=P) w 1 s
   rw[hm]at hf
   simp[Builtin.append_,run_underlying ht,run_underlying hu,sizeOf,typeInfo,hi,hsize,Builtin.lenOf,hm,hf]
  have hr:=run_append_nil_string (P:=P) w t u ty e i (.int .u8 0) ht hu hi hz s (by omega) (by omega) (by rw[hby];omega)
  have hgr:=grown 0 (by omega) (Value.ownBlock (.slice none 0 0))
  simp only[Nat.zero_add,List.nil_append,Array.empty_append]at hgr⊢
  have e1:(s.data.map fun b=>Value.int .u8 b.toNat)=(Lib.strCells s).toArray:=by
   apply Array.ext'
   simp[Lib.strCells]
  rw[e1]at hr
  exact⟨_,_,_,hr,hgr.1,hgr.2,.inr rfl⟩
 by_cases hroom:n+s.size<=cap
 ·have hcs':cur.size=cap:=by simpa using hcs
  have hr:=Lib.run_append_room_string (P:=P) w t u ty e i ht hu hi hsize g n cap cur hg s hroom (by omega)
  refine⟨_,_,_,hr,⟨hlen,.inr ⟨g,cap,_,rfl,hbg,setRow_heap w g cur _ e _ hg,hroom,hcm,?_,?_⟩⟩,⟨rfl,rfl,rfl,by simp,fun k _ hk=>setRow_other w g k _ (fun e=>hk (by simp[Value.ownBlock,e]))⟩,.inl rfl⟩
  ·simp only[List.size_toArray,cJ,dU,List.length_drop,Array.length_toList,Lib.strCells_length]
   omega
  have ht':cur.toList.take n=xs:=by simpa using htake
  rw[ht',<-hlen]
  exact List.take_left
 have holds:∀j u,xs[j]? =some u->w.cell? ((⟨g,0,none⟩:Addr).add j)=some u:=hown.cells (g:=g) rfl
 have hr:=Lib.run_append_grow_string (P:=P) w t u ty e i (.int .u8 0) ht hu hi hz ⟨g,0,none⟩ n cap xs (by rw[hsize];simpa using hxl) holds s (by omega) (by omega) (by rw[hby];exact growslice_fits (by omega) (by omega))
 have hgr:=grown cap (by omega) (Value.ownBlock (.slice (some ⟨g,0,none⟩) n cap))
 exact⟨_,_,_,hr,hgr.1,hgr.2,.inr rfl⟩
theorem Ts (l:List Nat) (h:Lim 256 l):Lib.strCells (aN l)=l.map fun n:Nat=>Value.int .u8 (n:Int):=by
 unfold Lib.strCells aN
 simp only[List.map_map]
 refine List.map_congr_left fun n hn=>?_
 have:=h n hn
 simp[Nat.mod_eq_of_lt this]
section
variable {x:Cx}{g g':Nat->FV}{ob ob':List (Option Ob)}{cs cs':List Co}{ts ts':Array Value}{W W':World}{T:List (Nat×TI)}{Q:Post}{ops:Array Oper}{rest:List Oper}
variable {d:Nat}{ty:TypeId}{pos:String}{af:Array Edge}{gd:Option (Nat×Bool)}
theorem FA {N:Nat->Prop}:∀l:List Nat,ARL W N cs ((bS l).map .t) (l.map fun n:Nat=>Value.int .u8 (n:Int))
 | []=>rfl
 | n::l=>⟨rfl,FA l⟩
theorem QY (hT:cH x.P T){t u e j n ts0:Nat}{ti:Bool}{z0:List Value}{ui:TI}{a b:Operand}{av:AV}{l:List AV}{l2:List Nat}(ht:bX T t=some ⟨ti,ts0,z0,.sl e 1 1 (.int .u8 0)⟩) (hu:bX T u=some ui) (hu2:ui.kd=.str) (ha:lk x.n g a=.one av) (hb:lk x.n g b=.one (tv (.string (aN l2)))) (hl2:Lim 256 l2)
  (hd:DstA ob e 1 av n ob' l) (hj:eM ob j=true) (hbytes:n+l2.length<=140737488355328):
  ∃Wr,OS x ⟨some d,.call ⟨.builtin .append, #[a,b], #[t,u]⟩,ty,pos,af,gd⟩ g ob Wr (fun g' ob2=>g'=bG g d (.one (.sl j 0 (n+l2.length)))/\ob2=ob'++[some ⟨e,1,l++(bS l2).map .t⟩])/\(∀k∈Wr,av=.sl k 0 n):=by
 obtain⟨ht1,i,hi,hz,hsz,hby,_⟩:=(dX hT ht).2.2.2.2
 have hU:x.P.underlying u=some .string:=by
  have h:=(dX hT hu).2.2.2
  rw[hu2]at h
  exact h
 obtain⟨Wr,h,h2⟩:=Vy (x:=x) (g:=g) (E:=fun _ _=>True) (d:=d) (ty:=ty) (pos:=pos) (af:=af) (gd:=gd) (b:=b) (tys:= #[t,u]) (m:=l2.length) (news:=(bS l2).map .t) hT ht ha hd (fun cs ts W hR _=>by
  refine⟨l2.map fun n:Nat=>Value.int .u8 (n:Int),by simp,FA l2,fun v0 xs e1 hw=>?_⟩
  have hb2:=hR.lk b
  rw[hb]at hb2
  have hb2:=bE hb2
  obtain⟨A',c',w',q1,q2,q3,q4⟩:=JF (P:=x.P) W (ty:=ty) ht1 hU hi hz hsz hby hw (aN l2) (by rw[aO];exact hbytes)
  rw[aO]at q1 q2 q4
  rw[Ts l2 hl2]at q2
  exact⟨A',c',w',by simp only[execOp,resolve,invoke,builtin,Sem.run_bind,Sem.run_pure,Result.andThen_ok,List.map_toArray,List.map_cons,List.map_nil,e1,hb2,q1],q2,q3,q4⟩) (Xs l2) hj
 exact⟨Wr,fun cs ts W hR=>h cs ts W hR trivial,h2⟩
theorem Jj (hR:RelC x g ob cs ts W){a:Operand}{k o:Nat}(ha:lk x.n g a=.one (.pt k o)):∃b,(co cs k).b=some b/\Act.eval ⟨ts,[]⟩ a=.pointer (some ⟨b,o,none⟩):=by
 have h:=hR.lk a
 rw[ha]at h
 simpa only[bV,cE,AR]using h
theorem Su {a:Operand}{op:Op}(h:∀cs ts W,RelC x g ob cs ts W->(execOp (Act.eval ⟨ts,[]⟩) ⟨some d,op,ty,pos,af,gd⟩).run x.P W=.ok (.value (Act.eval ⟨ts,[]⟩ a)) W):
  OS x ⟨some d,op,ty,pos,af,gd⟩ g ob [] (fun g' ob'=>g'=bG g d (lk x.n g a)/\ob'=ob):=fun cs ts W hR K Q kk=>
 eN (h cs ts W hR) (kk _ _ _ _ _ ⟨rfl,rfl⟩ (hR.put d (hR.lk a)) (.put d _))
theorem Sv (hR:RelC x g ob cs ts W){k b t:Nat}{l:List AV}(hk:cR ob k=some ⟨t,0,l⟩) (hb:(co cs k).b=some b):W.shape? b=some (t,l.length):=by
 have hk':=dL hk
 obtain⟨⟨rest,h1,h2⟩,_,_⟩:=hR.blk hk' hb
 have hl:=rQ (hR.crl hk')
 simp only[Nat.beq_refl,cond_true]at h2
 simp[World.shape?,h1]at h2⊢
 subst h2
 simpa using hl
theorem aAP {a:Operand}{src dst tb k t:Nat}{l:List AV}{m:Nat}(hs:x.P.underlying src=some (.pointer tb)) (hd:x.P.underlying dst=some .unsafePointer) (hj:(x.P.info? tb).map TypeInfo.size=some m) (hj0:m≠0) (ha:lk x.n g a=.one (.pt k 0)) (hk:cR ob k=some ⟨t,0,l⟩) (hl:0<l.length) (hw:bK ops x.n g gd=some true) (q:WL x ops rest (bG g d (.one (.pt k 0))) ob Q):
  WL x ops (⟨some d,.convert src dst a,ty,pos,af,gd⟩::rest) g ob Q:=
 gY (Su (a:=a) fun cs ts W hR=>by
  obtain⟨b,hb,e⟩:=Jj hR ha
  obtain⟨j,hj1,hj2⟩:=Option.map_eq_some_iff.1 hj
  simp only[execOp,e,Sem.run_bind,Lib.run_to_unsafe (P:=x.P) W ⟨b,0,none⟩ hs hd hj1 (by rw[hj2];exact hj0) (Sv hR hk hb) hl,Result.andThen_ok,Sem.run_pure]) hw (by rintro _ _ ⟨rfl,rfl⟩;rw[ha];exact q)
theorem aAR {a:Operand}{src dst tb k t:Nat}{l:List AV}{m:Nat}(hs:x.P.underlying src=some .unsafePointer) (hd:x.P.underlying dst=some (.pointer tb)) (hj:(x.P.info? tb).map TypeInfo.size=some m) (ha:lk x.n g a=.one (.pt k 0)) (hk:cR ob k=some ⟨t,0,l⟩) (hlies:liesAt x.P x.P.depth t (l.length/x.P.cellsOf t) 0 tb 1=true) (hw:bK ops x.n g gd=some true) (q:WL x ops rest (bG g d (.one (.pt k 0))) ob Q):
  WL x ops (⟨some d,.convert src dst a,ty,pos,af,gd⟩::rest) g ob Q:=
 gY (Su (a:=a) fun cs ts W hR=>by
  obtain⟨b,hb,e⟩:=Jj hR ha
  obtain⟨j,hj1,_⟩:=Option.map_eq_some_iff.1 hj
  simp only[execOp,e,Sem.run_bind,Lib.run_from_unsafe (P:=x.P) W ⟨b,0,none⟩ hs hd hj1 (Sv hR hk hb) hlies,Result.andThen_ok,Sem.run_pure]) hw (by rintro _ _ ⟨rfl,rfl⟩;rw[ha];exact q)
theorem aAQ {a:Operand}{ats:Array TypeId}{f k:Nat}{fn:Func}(hf:x.P.funcs[f]? =some fn) (h1:(fn.name== "runtime.NumGoroutine")=false) (h2:fn.body.isNone=true) (h3:Extern.findNext fn=none) (h4:Extern.find fn=some Extern.AbiNoEscape.same) (ha:lk x.n g a=.one (.pt k 0)) (hw:bK ops x.n g gd=some true) (q:WL x ops rest (bG g d (.one (.pt k 0))) ob Q):
  WL x ops (⟨some d,.call ⟨.value (.func f), #[a],ats⟩,ty,pos,af,gd⟩::rest) g ob Q:=
 gY (Su (a:=a) fun cs ts W hR=>by
  have hc:=run_callFunc_extern (P:=x.P) hf h1 h2 h3 h4 #[Act.eval ⟨ts,[]⟩ a] W
  rw[Lib.run_noEscape]at hc
  simp only[Result.andThen_ok]at hc
  have e0:Act.eval ⟨ts,[]⟩ (.func f)=.func (.func f) #[] #[]:=rfl
  simp[execOp,resolve,e0,Deferred.ofValue,invoke,hc]) hw (by rintro _ _ ⟨rfl,rfl⟩;rw[ha];exact q)
theorem aAS {a b:Operand}{t te k:Nat}{t2:TypeId}{m:Nat}(hp:x.P.underlying t=some (.pointer te)) (hte:(x.P.info? te).map TypeInfo.size=some m) (ha:lk x.n g a=.one (.pt k 0)) (hb:lk x.n g b=.one (.pt k 0)) (hw:bK ops x.n g gd=some true) (q:WL x ops rest (bG g d (.one (tv (.bool false)))) ob Q):
  WL x ops (⟨some d,.binOp .neq t a b t2,ty,pos,af,gd⟩::rest) g ob Q:=
 gY (Wr:=[]) (R:=fun g' ob'=>g'=bG g d (.one (tv (.bool false)))/\ob'=ob) (fun cs ts W hR K Q kk=>by
  obtain⟨b1,hb1,e1⟩:=Jj hR ha
  obtain⟨b2,hb2,e2⟩:=Jj hR hb
  rw[hb1]at hb2
  injection hb2 with hb2
  subst hb2
  have hrun:(execOp (Act.eval ⟨ts,[]⟩) ⟨some d,.binOp .neq t a b t2,ty,pos,af,gd⟩).run x.P W=.ok (.value (.bool false)) W:=by
   obtain⟨j,hte1,_⟩:=Option.map_eq_some_iff.1 hte
   have h9:=Lib.run_neq_ptr_same (P:=x.P) W ⟨b1,0,none⟩ hp hte1
   have h8:(eqGuard .neq t a b (.pointer (some ⟨b1,0,none⟩)) (.pointer (some ⟨b1,0,none⟩))).run x.P W=.ok () W:=by simp[eqGuard]
   simp only[execOp,e1,e2,Sem.run_bind,h8,h9,Result.andThen_ok,Sem.run_pure]
  exact eN hrun (kk _ _ _ _ _ ⟨rfl,rfl⟩ (hR.put d (v:=.one (tv (.bool false))) (by simp[bV,cE,tv,AR,FR])) (.put d _))) hw (by rintro _ _ ⟨rfl,rfl⟩;exact q)
theorem JG {f:FuncId}{aa:Array Operand}{ats:Array TypeId}{v:Value}(hf:CallOk x.P f) (hC:∀cs ts W,RelC x g ob cs ts W->Calls x.P f (aa.toList.map (Act.eval ⟨ts,[]⟩)).toArray W (fun e W'=>e=.returned v/\Below W.heap.size W W')):
  OS x ⟨some d,.call ⟨.value (.func f),aa,ats⟩,ty,pos,af,gd⟩ g ob [] (fun g' ob'=>g'=bG g d (.one (tv v))/\ob'=ob):=by
 intro cs ts W hR K Q kk
 obtain⟨fn,c,h1,h2,h3⟩:=hf
 have hrun:(execOp (Act.eval ⟨ts,[]⟩) ⟨some d,.call ⟨.value (.func f),aa,ats⟩,ty,pos,af,gd⟩).run x.P W=.ok (.enter f (aa.toList.map (Act.eval ⟨ts,[]⟩)).toArray) W:=by
  have e0:Act.eval ⟨ts,[]⟩ (.func f)=.func (.func f) #[] #[]:=rfl
  have e1:aa.map (Act.eval ⟨ts,[]⟩)=(aa.toList.map (Act.eval ⟨ts,[]⟩)).toArray:=by apply Array.ext';simp only[Array.toList_map]
  simp[execOp,resolve,e0,Deferred.ofValue,invoke,e1,callFunc,h1,h3]
  intro hn
  rw[hn]at h2
  simp at h2
 unfold Oper.wp
 rw[hrun]
 refine(hC cs ts W hR).mono fun e W' hE=>?_
 obtain⟨rfl,hb⟩:=hE
 exact kk _ _ cs (ts.setIfInBounds d v) W' ⟨rfl,rfl⟩ ((hR.ext hb).put d (v:=.one (tv v)) (by simp[bV,cE,tv,AR,FR])) ((hR.below hb (some d)).then_put v)
theorem CE {t u e j n ts0:Nat}{ti:Bool}{z0:List Value}{ui:TI}{a b:Operand}{av:AV}{l:List AV}{l2:List Nat}(hT:cH x.P T) (hw:bK ops x.n g gd=some true) (ht:bX T t=some ⟨ti,ts0,z0,.sl e 1 1 (.int .u8 0)⟩) (hu:bX T u=some ui) (hu2:ui.kd=.str) (ha:lk x.n g a=.one av) (hb:lk x.n g b=.one (tv (.string (aN l2)))) (hl2:Lim 256 l2) (hd:DstA ob e 1 av n ob' l) (hj:eM ob j=true) (hbytes:n+l2.length<=140737488355328)
  (k:WL x ops rest (bG g d (.one (.sl j 0 (n+l2.length)))) (ob'++[some ⟨e,1,l++(bS l2).map .t⟩]) Q):WL x ops (⟨some d,.call ⟨.builtin .append, #[a,b], #[t,u]⟩,ty,pos,af,gd⟩::rest) g ob Q:=by
 obtain⟨Wr,h,_⟩:=QY (d:=d) (ty:=ty) (pos:=pos) (af:=af) (gd:=gd) hT ht hu hu2 ha hb hl2 hd hj hbytes
 exact gY h hw (by rintro _ _ ⟨rfl,rfl⟩;exact k)
theorem VO {fresh:Bool}{f:FuncId}{args:List FV}{R:List Lt->FV->Prop}{aa:Array Operand}{ats:Array TypeId}(hS:aE fresh x.P f [] args R) (hf:CallOk x.P f) (ha:AL fresh x g ob aa.toList args) (k:∀r,R [] r->WL x ops rest (bG g d (yF r)) ob Q) (hw:bK ops x.n g gd=some true:=by rfl):
  WL x ops (⟨some d,.call ⟨.value (.func f),aa,ats⟩,ty,pos,af,gd⟩::rest) g ob Q:=
 gY (Eg hS hf ha) hw (by rintro _ _ ⟨r',hr,rfl,rfl⟩;exact k r' hr)
end
end Go.Proofs.YtimiaildfkimfaaGreatDoor
namespace Go.Proofs.YtimiaildfkimfaaGreatDoor
open Go Go.RowKit Go.Shelf
section
variable {f:FuncId}{args:List FV}
theorem Mv {v:Value}(h:∀(N:Nat->Prop) (w:World) us,dM w N [] args us->(∀b,N b->b<w.heap.size)->Calls Tryz.prog f us.toArray w (fun e w'=>e=.returned v/\w'=w)):aE true Tryz.prog f [] args (aP (.one (tv v))):=
 sL fun N w us hf hN=>(h N w us hf hN).mono fun e w' ⟨h1,h2⟩=>⟨h1,h2▸Below.refl _ _⟩
end
def Zx:List Nat:=[97,98,99,100,101,102,103,104,105,106,107,108,109,110,111,112,113,114,115,116,117,118,119,120,121,122,65,66,67,68,69,70,71,72,73,74,75,76,77,78,79,80,81,82,83,84,85,86,87,88,89,90]
def vZ:List Nat:=[97,98,99,100,101,102,103,104,105,106,107,108,109,110,111,112,113,114,115,116,117,118,119,120,121,122,65,66,67,68,69,70,71,72,73,74,75,76,77,78,79,80,81,82,83,84,85,86,87,88,89,90,48,49,50,51,52,53,54,55,56,57,95,45]
theorem QZ:∀c<256,decide (0<=Lib.indexByte (Zx.map UInt8.ofNat) (UInt8.ofNat c))=pV c:=by decide+kernel
theorem RA:∀c<256,(vZ.map UInt8.ofNat).contains (UInt8.ofNat c)=nmcB c:=by decide+kernel
theorem RB:∀c<256,decide (0<=Lib.indexByte (vZ.map UInt8.ofNat) (UInt8.ofNat c))=nmcB c:=by decide+kernel
theorem Pm {c:Nat}(h:nmcB c=true):c<128:=by
 simp only[nmcB,pV,Bool.or_eq_true,Bool.and_eq_true,decide_eq_true_eq]at h
 omega
def ixL (c:Nat):Int:=Lib.indexByte (Zx.map UInt8.ofNat) (UInt8.ofNat c)
theorem TL {c:Nat}(h:c<256):decide (0<=ixL c)=pV c:=QZ c h
variable {l:List Nat}
theorem aAp {c:Nat}(hc:c<256):aE true Tryz.prog 89 [] [.one (tv (.string (aN Zx))),.one (tv (.int .u8 ((c:Nat):Int)))] (aP (.one (tv (.int .i64 (ixL c))))):=Mv fun N w us hf hN=>by
 obtain⟨u,v,rfl,h1,h2⟩:=uE hf
 obtain rfl:=bE (gH h1)
 obtain rfl:=bE (gH h2)
 exact Go.Proofs.Any.strings_IndexByte IE (aN Zx) ((c:Nat):Int) w
theorem NC (hl:Lim 256 l) (hn:l.length<=9223372036854775807):aE true Tryz.prog 90 [] [.one (tv (.string (aN l))),.one (tv (.string (aN vZ)))] (aP (.one (tv (.string (aN ((nE nmcB l).dropWhile nmcB)))))):=sL fun N w us hf hN=>by
 obtain⟨u,v,rfl,h1,h2⟩:=uE hf
 obtain rfl:=bE (gH h1)
 obtain rfl:=bE (gH h2)
 have h:=Go.Proofs.Any.strings_Trim_laid Sj (by kernel_rfl) (aN l) (aN vZ) w (by rw[aO];omega) (by decide) (fun j b h=>(by decide:∀b∈vZ.map UInt8.ofNat,b.toNat<128) b (List.mem_of_getElem? h))
 rwa[show(aN vZ).data.toList=vZ.map UInt8.ofNat from kL _,trB (cs:=vZ.map UInt8.ofNat) RA hl]at h
theorem TJ {c:Nat}(hc:c<128):aE true Tryz.prog 93 [] [.one (tv (.string (aN vZ))),.one (tv (.int .i32 ((c:Nat):Int)))] (aP (.one (tv (.bool (nmcB c))))):=Mv fun N w us hf hN=>by
 obtain⟨u,v,rfl,h1,h2⟩:=uE hf
 obtain rfl:=bE (gH h1)
 obtain rfl:=bE (gH h2)
 have h:=Go.Proofs.Any.strings_ContainsRune_ascii Gk (aN vZ) ((c:Nat):Int) w (by omega) (by omega)
 rw[show decide (0<=Lib.indexByte (aN vZ).data.toList (((c:Nat):Int).toNat.toUInt8))=nmcB c from RB c (by omega)]at h
 exact h
theorem Ng {fresh:Bool}{f:FuncId}{args:List FV}{us:List Value}{v:Value}(hS:aE fresh Tryz.prog f [] args (aP (.one (tv v)))) (w:World) (hf:dM w (fun b=>b<w.heap.size) [] args us):Calls Tryz.prog f us.toArray w (fun e w'=>e=.returned v/\Below w.heap.size w w'):=by
 refine(hS (fun _=>True) w [] us ⟨Chg.refl _ _,fun r hr=>by simp[bR,aL]at hr,fun b hb=>by simp[bR,aL]at hb,by simp[bR,aL],fun q hq=>?_⟩).mono ?_
 ·obtain rfl:q=_:=by simpa using hq
  exact⟨⟨rfl,fun k o hk=>by simp[bR]at hk⟩,nR (fun _ _=>rfl) (fun b hb=>by simp[pT,bR,aL,hb]) .refl _ _ hf⟩
 rintro e W ⟨v',lent',cs',r,y,rfl,hr,h1,_,h2,_,hL⟩
 have hr':r=.one (tv v):=hr
 subst hr'
 have h3:=(hL.shr _ (List.mem_singleton.2 rfl)).2
 obtain⟨t,_,rfl,hc⟩:=h3
 simp[CR,tv,OR]at hc
 subst hc
 exact⟨rfl,hL.chg.below⟩
set_option maxHeartbeats 2000000 in
set_option maxRecDepth 1000000 in
theorem RC {P:Program}{ρ:Ren}(L:Go.Proofs.Lays.n315 P ρ) (g:Nat) (lb:Array Value) (eg:∀args w,(callFunc g args).run P w=.ok (.enter g args) w) (s:ByteArray) (w:World) (hs:∀b∈s.data.toList,b.toNat<128)
  (hp:∀(W:World) (b:UInt8),b∈s.data.toList->Below w.heap.size w W->Calls P g (#[.int .i32 (b.toNat:Int)]++lb) W fun e w'=>e=.returned (.bool false)/\Below W.heap.size W w'):
  Calls P (ρ.f 315) #[.string s,.func (.func g) #[] lb,.bool true] w fun e w'=>e=.returned (.int .i64 (-1))/\Below w.heap.size w w':=by
 have t0:=L.t0;have a0:=L.a0;have z0:=L.z0;have v0:=L.v0;have t3:=L.t3;have a3:=L.a3;have z3:=L.z3;have v3:=L.v3;have t4:=L.t4;have a4:=L.a4;have z4:=L.z4;have v4:=L.v4;have t9:=L.t9;have a9:=L.a9;have z9:=L.z9;have v9:=L.v9;have t21:=L.t21;have a21:=L.a21;have z21:=L.z21;have v21:=L.v21;have t40:=L.t40;have a40:=L.a40;have z40:=L.z40;have v40:=L.v40
 go_enter L.f315,Body.n315_ntmps ρ
 go_wp2
 go_loopg [] s.size (fun gf wx=>∃pos:Nat,wx.heap[w.heap.size]? =some (.stringIter s pos)/\Below w.heap.size w wx/\s.size<=pos+gf)
 case atStart=>exact⟨0,World.iter_heap w s 0,(Below.refl _ w).alloc (aX _) _,by omega⟩
 case round=>
  obtain⟨pos,hit,hbw,hfu⟩:=hrel
  by_cases hps:pos<s.size
  ·obtain⟨g',rfl⟩:∃g',gk=g'+1:=⟨gk-1,by omega⟩
   have hmem:s[pos]'hps∈s.data.toList:=by
    rw[Array.mem_toList_iff]
    exact Array.getElem_mem hps
   have hnx:∀ty,(Instr.next (.pointer (some ⟨w.heap.size,0,none⟩)) true ty).run P wr=_:=fun ty=>Lib.run_next_ascii_at wr w.heap.size s pos ty hit hps (hs _ hmem)
   have hit2:=Lib.iterAt_heap wr w.heap.size s pos (pos+1) hit
   have hbw2:=Lib.below_iterAt hbw (k:=w.heap.size) (aX _) s (pos+1)
   obtain⟨W,hWd⟩:∃W,wr.iterAt w.heap.size s (pos+1)=W:=⟨_,rfl⟩
   rw[hWd]at hnx hit2 hbw2
   have hltW:w.heap.size<W.heap.size:=(Array.getElem?_eq_some_iff.1 hit2).1
   have cS:Calls P g (#[.int .i32 ((s[pos]'hps).toNat:Int)]++lb) W _:=hp W _ hmem hbw2
   clear hp
   go_wp2_with (go_at_fn g;refine cS.mono ?_;rintro e W' ⟨rfl,hbc⟩)
   go_roundg g'
   case measure=>omega
   case rel=>exact⟨pos+1,(hbc.block _ hltW).trans hit2,hbw2.trans (hbc.mono hbw2.size),by omega⟩
  have hnx:∀ty,(Instr.next (.pointer (some ⟨w.heap.size,0,none⟩)) true ty).run P wr=_:=fun ty=>Lib.run_next_end_at wr w.heap.size s pos ty hit hps
  go_wp2
  go_ret
  exact⟨rfl,hbw⟩
theorem RD {f:FuncId}(h:CallOk Tryz.prog f):∀args w,(callFunc f args).run Tryz.prog w=.ok (.enter f args) w:=fun args w=>by
 obtain⟨fn,c,h1,h2,h3⟩:=h
 simp[callFunc,h1,h2,h3]
 intro hn
 rw[hn]at h2
 simp at h2
theorem aAm {f:FuncId}(hok:CallOk Tryz.prog f){l:List Nat}(hl:∀c∈l,nmcB c=true) (hq:∀c,nmcB c=true->aE true Tryz.prog f [] [.one (tv (.int .i32 ((c:Nat):Int)))] (aP (.one (tv (.bool false))))):aE true Tryz.prog 209 [] [.one (tv (.string (aN l))),.one (.t (.f f [] [])),.one (tv (.bool true))] (aP (.one (tv (.int .i64 (-1))))):=sL fun N w us hf hN=>by
 obtain⟨u,v,us',rfl⟩:∃u v us',us=u::v::us':=by
  match us,hf with
  | u::v::us',_=>exact⟨u,v,us',rfl⟩
  | [u],hf=>simp only[dM]at hf;exact hf.2.elim
  | [],hf=>simp only[dM]at hf
 simp only[dM,cE,AR,FR,tv,FRL]at hf
 obtain⟨rfl,⟨us0,us1,rfl,rfl,rfl⟩,hf⟩:=hf
 match us',hf with
 | [z],hf=>
  simp only[dM,cE,AR,FR]at hf
  obtain⟨rfl,_⟩:=hf
  have hm:∀b∈(aN l).data.toList,∃c∈l,b.toNat=c:=fun b hb=>by
   rw[kL,List.mem_map]at hb
   obtain⟨c,hc,rfl⟩:=hb
   refine⟨c,hc,?_⟩
   have:=Pm (hl c hc)
   simp[Nat.mod_eq_of_lt (show c<256 by omega)]
  refine RC IF f #[] (RD hok) (aN l) w (fun b hb=>?_) (fun W b hb _=>?_)
  ·obtain⟨c,hc,e⟩:=hm b hb
   rw[e]
   exact Pm (hl c hc)
  obtain⟨c,hc,e⟩:=hm b hb
  rw[e]
  exact Ng (us:=[.int .i32 ((c:Nat):Int)]) (hq c (hl c hc)) W (by simp[dM,cE,AR,FR,tv])
theorem Ky:∀ws:List (List Nat),(Lib.join (ws.map fun w=>(aN w).data.toList) (aN [32]).data.toList)=(bJ ws).map UInt8.ofNat
 | []=>rfl
 | [x]=>by simp[Lib.join,List.intercalate,bJ,kL]
 | x::y::l=>by
  have ih:=Ky (y::l)
  simp only[Lib.join,List.map_cons,kL]at ih⊢
  rw[bJ,List.map_append,List.map_cons,<-ih]
  simp[List.intercalate,List.intersperse]
theorem ZK (ws:List (List Nat)):(Lib.join (ws.map fun w=>(aN w).data.toList) (aN [32]).data.toList).length=(bJ ws).length:=by rw[Ky,dP]
theorem Xe {W:World}{N:Nat->Prop}{cs:List Co}:∀{ws:List (List Nat)}{us:List Value},ARL W N cs ((ws.map sT).map .t) us->us=ws.map fun w=>Value.string (aN w)
 | [],us,h=>by simpa[ARL]using h
 | w::ws,[],h=>by simp[ARL]at h
 | w::ws,u::us,h=>by
  simp only[List.map_cons,ARL,AR,FR,sT]at h
  rw[List.map_cons,Xe h.2,h.1]
theorem LW:∀ws:List (List Nat),fQ ((ws.map sT).map .t)=true
 | []=>rfl
 | w::ws=>by simp only[List.map_cons,fQ,LW ws];rfl
section
variable {x:Cx}{g:Nat->FV}{ob:List (Option Ob)}{Q:Post}{ops:Array Oper}{rest:List Oper}{d k:Nat}{ty:TypeId}{pos:String}{af:Array Edge}{gd:Option (Nat×Bool)}{a b:Operand}{ats:Array TypeId}{ws:List (List Nat)}
theorem RE (hP:x.P=Tryz.prog) (hf:CallOk x.P 32) (ha:lk x.n g a=.one (.sl k 0 ws.length)) (hk:cR ob k=some ⟨9,1,(ws.map sT).map .t⟩) (hb:lk x.n g b=.one (tv (.string ⟨#[32]⟩))) (hN:ws.length<=1000000) (hl:(bJ ws).length<=140737488355328):
  OS x ⟨some d,.call ⟨.value (.func 32), #[a,b],ats⟩,ty,pos,af,gd⟩ g ob [] (fun g' ob'=>g'=bG g d (.one (tv (.string (aN (bJ ws)))))/\ob'=ob):=
 JG hf fun cs ts W hR=>by
  rw[hP]
  have h1:=hR.lk a
  have h2:=hR.lk b
  rw[ha]at h1
  rw[hb]at h2
  have h2:=bE h2
  simp only[bV,cE,AR]at h1
  show Calls _ _ #[Act.eval ⟨ts,[]⟩ a,Act.eval ⟨ts,[]⟩ b] W _
  rw[h2]
  have hk':=dL hk
  cases hc:(co cs k).b with
  | none=>
   rw[hc]at h1
   obtain⟨_,h3,_,h4⟩:=h1
   obtain rfl:ws=[]:=List.eq_nil_of_length_eq_zero h3
   rw[h4]
   exact(Go.Proofs.Any.strings_Join_none Gj We none 0 ⟨#[32]⟩ W).mono fun e w' ⟨q1,q2⟩=>⟨q1,q2▸Below.refl _ _⟩
  | some bk=>
   rw[hc]at h1
   obtain⟨_,o',c,h4,h5,h6,h7,_⟩:=h1
   obtain rfl:=h7 (.inr trivial)
   rw[h4]
   obtain⟨k1,_,_⟩:=hR.blk hk' hc
   have hv:=Xe (tT (hR.crl hk') (LW ws))
   have h:=Go.Proofs.Any.strings_Join Gj We bk 0 c (ws.map aN) ⟨#[32]⟩ W (fun j x hx=>by
    have:=rN k1 (j:=j) (u:=.string x) (by rw[hv];simp at hx⊢;obtain⟨w,h8,h9⟩:=hx;exact⟨w,h8,by rw[h9]⟩)
    rwa[kM]at this) (hR.blkS hk' bk (by simp[aQ,hc])) (by rw[dP];omega) (by rw[dP];exact h5) (by rw[List.map_map];exact(ZK ws).symm▸hl)
   rw[dP,List.map_map]at h
   rw[show(Lib.join (ws.map ((fun x:ByteArray=>x.data.toList)∘aN)) (⟨#[32]⟩:ByteArray).data.toList)=(bJ ws).map UInt8.ofNat from Ky ws]at h
   exact h
theorem dJ {late:Nat->Bool}{K fr:List Nat}{fuel:Nat}{listed:Array Bool}(i:Nat) (hi:ops[i]? =some ⟨some d,.call ⟨.value (.func 32), #[a,b],ats⟩,ty,pos,af,gd⟩) (hf:CallOk x.P 32) (hk:cR ob k=some ⟨9,1,(ws.map sT).map .t⟩) (hN:ws.length<=1000000) (hl:(bJ ws).length<=140737488355328) (q:WD x ops Q late K (d::fr) true fuel (listed.setIfInBounds i true) (bG g d (.one (tv (.string (aN (bJ ws)))))) ob) (hP:x.P=Tryz.prog:=by rfl) (ha:lk x.n g a=.one (.sl k 0 ws.length):=by rfl) (hb:lk x.n g b=.one (tv (.string ⟨#[32]⟩)):=by rfl) (hw:bK ops x.n g gd=some true:=by rfl) (hr:Region.ready .any ops listed=[i]:=by kernel_rfl):
  WD x ops Q late K fr true (fuel+1) listed g ob:=
 Rg (v:=.one (tv (.string (aN (bJ ws))))) i hr hi rfl hw (RE hP hf ha hk hb hN hl) (by rintro _ _ ⟨rfl,rfl⟩;exact⟨rfl,fun _ _=>rfl⟩) (by rintro _ _ ⟨rfl,rfl⟩;exact q)
end
theorem Ih:CallOk Tryz.prog 32:=.mk Tryz.func32 (by decide) rfl
end Go.Proofs.YtimiaildfkimfaaGreatDoor
namespace Go.Proofs.YtimiaildfkimfaaGreatDoor
open Go Go.RowKit
def fl (q:Rat):Int:=q.floor
theorem rS (q:Rat):q.num.fdiv (q.den:Int)=fl q:=by
 unfold fl
 rw[Rat.floor_def,Int.fdiv_eq_ediv_of_nonneg _ (by omega)]
theorem LX (q:Rat):q*(q.den:Rat)=(q.num:Rat):=by
 have h:=Rat.num_divInt_den q
 have h2:Rat.divInt q.num (q.den:Int)=(q.num:Rat)/((q.den:Int):Rat):=Rat.divInt_eq_div _ _
 have h3:((q.den:Int):Rat)=(q.den:Rat):=rfl
 have h4:(q.den:Rat)≠0:=by
  have:=q.den_pos
  intro h
  have:q.den=0:=by exact_mod_cast h
  omega
 rw[h2,h3]at h
 have h6:(q.num:Rat)/(q.den:Rat)*(q.den:Rat)=(q.num:Rat):=Rat.div_mul_cancel h4
 rwa[h]at h6
theorem xG (a b:Int) (hb:b≠0):Rat.divInt a b*(b:Rat)=(a:Rat):=by
 rw[Rat.divInt_eq_div,Rat.div_def,Rat.mul_assoc,Rat.inv_mul_cancel _ (by simpa using hb),Rat.mul_one]
theorem Js {a b c:Rat}(hc:c≠0) (h:a*c=b*c):a=b:=by
 have h2:=congrArg (· *c⁻¹) h
 simpa only[Rat.mul_assoc,Rat.mul_inv_cancel c hc,Rat.mul_one]using h2
theorem UL (z:Int):fl (z:Rat)=z:=Rat.floor_intCast z
theorem NQ {q:Rat}(h:q.den=1):((q.num:Int):Rat)=q:=by
 have:=LX q
 rw[h]at this
 rw[<-this]
 simp
theorem NL {p q:Rat}(h:p<=q):fl p<=fl q:=Rat.floor_monotone h
theorem JR (p q:Rat):Rat.divInt (p.num*(q.den:Int)) ((p.den:Int)*q.num)=p/q:=by
 have e:=Rat.num_divInt_den q
 have e2:=Rat.num_divInt_den p
 conv=>rhs;rw[<-e,<-e2]
 rw[Rat.div_def,Rat.inv_divInt,Rat.divInt_mul_divInt]
def pd (n:Nat):Nat->List Nat
 | 0=>[]
 | d+1=>pd (n/10) d++[48+n%10]
theorem tG:∀(d n:Nat),(pd n d).length=d
 | 0,_=>rfl
 | d+1,n=>by rw[pd,cJ,tG d];rfl
theorem FX:∀(d n:Nat),∀c∈pd n d,48<=c/\c<=57
 | 0,_=>by intro c hc;cases hc
 | d+1,n=>by
  intro c hc
  rw[pd]at hc
  rcases List.mem_append.1 hc with h | h
  ·exact FX d _ c h
  rw[List.mem_singleton]at h
  omega
theorem FB:∀(d n:Nat),jT (pd n d)=n%10^d
 | 0,n=>by rw[Nat.pow_zero,Nat.mod_one];rfl
 | d+1,n=>by
  rw[pd,Kx,FB d]
  have e:jT [48+n%10]=n%10:=by simp[jT]
  rw[e,Nat.pow_succ,Nat.mul_comm (10^d) 10,Nat.mod_mul]
  show n/10%10^d*10+n%10=_
  omega
theorem Jv {n:Nat}(h:10<=n):tx n=tx (n/10)++[48+n%10]:=by
 unfold tx
 rw[if_neg (by omega),if_neg (by omega),qN (by omega) (by omega)]
 simp[eY]
theorem Py {n:Nat}(h:n<10):tx n=[48+n]:=by
 unfold tx
 split
 ·rename_i h0;subst h0;rfl
 rw[qN (by omega) (by omega),show n/10=0 by omega,kI,show n%10=n by omega];rfl
theorem Pi:∀(d n:Nat),List.replicate (d+1-(tx n).length) 48++tx n=tx (n/10^d)++pd n d
 | 0,n=>by
  have:1<=(tx n).length:=List.length_pos_iff.2 (wI n)
  rw[show 0+1-(tx n).length=0 by omega,Nat.pow_zero,Nat.div_one,pd,List.append_nil]
  rfl
 | d+1,n=>by
  rw[pd,<-List.append_assoc,Nat.pow_succ,Nat.mul_comm,<-Nat.div_div_eq_div_mul,<-Pi d (n/10)]
  rcases Nat.lt_or_ge n 10 with h | h
  ·rw[Py h,show n/10=0 by omega,Py (n:=0) (by omega),show n%10=n by omega]
   show List.replicate (d+1) 48++_=List.replicate d 48++[48]++_
   rw[List.replicate_succ']
  rw[Jv h,cJ,List.append_assoc]
  show List.replicate (d+1+1-((tx (n/10)).length+1)) 48++_=_
  rw[show d+1+1-((tx (n/10)).length+1)=d+1-(tx (n/10)).length by omega]
def wr (n d:Nat):List Nat:=tx (n/10^d)++(if d=0 then []else 46::pd n d)
def pt (z:Int) (d:Nat):List Nat:=if z<0 then 45::wr z.natAbs d else wr z.natAbs d
theorem FC {l m:List Nat}(h:∀c∈l,48<=c/\c<=57) (hm:∀c,m.head?=some c->tL c=false):(l++m).takeWhile tL=l/\(l++m).dropWhile tL=m:=by
 induction l with
 | nil=>
  cases m with
  | nil=>exact⟨rfl,rfl⟩
  | cons c m=>
   have:=hm c rfl
   simp[this]
 | cons x l ih=>
  have hx:tL x=true:=decide_eq_true (h x (by simp))
  have h2:=ih (fun c hc=>h c (by simp[hc]))
  simp[hx,h2.1,h2.2]
theorem Aw (n d:Nat):wh (wr n d)=tx (n/10^d)/\pl (wr n d)=pd n d/\rr (wr n d)=[]/\nW (fH (wr n d))= !decide (d=0):=by
 have h1:=FC (l:=tx (n/10^d)) (m:=if d=0 then []else 46::pd n d) (Sr _) (by
  intro c hc
  split at hc
  ·cases hc
  injection hc with hc
  subst hc
  rfl)
 have h2:fH (wr n d)=if d=0 then []else 46::pd n d:=h1.2
 have h3:wh (wr n d)=tx (n/10^d):=h1.1
 refine⟨h3,?_⟩
 by_cases h0:d=0
 ·subst h0
  rw[if_pos rfl]at h2
  have hp:nW (fH (wr n 0))=false:=by rw[h2];rfl
  exact⟨uM hp,(Xw hp).trans h2,hp⟩
 rw[if_neg h0]at h2
 have hp:nW (fH (wr n d))=true:=by rw[h2];rfl
 have h4:=FC (l:=pd n d) (m:=[]) (FX d n) (by intro c hc;cases hc)
 rw[List.append_nil]at h4
 refine⟨?_,?_,by rw[hp,decide_eq_false h0];rfl⟩
 ·unfold pl
  rw[if_pos hp,Nr hp,h2]
  exact h4.1
 unfold rr
 rw[if_pos hp,Nr hp,h2]
 exact h4.2
theorem FD (n d:Nat):jT (wh (wr n d)++pl (wr n d))=n:=by
 obtain⟨h1,h2,_,_⟩:=Aw n d
 rw[h1,h2,Kx,ZI,FB,tG]
 exact Nat.div_add_mod' n (10^d)
theorem ZL (n d:Nat):pG (wr n d)=true:=by
 obtain⟨h1,h2,h3,h4⟩:=Aw n d
 have hg:=QX (n/10^d)
 unfold pG
 rw[h1,h2,h3,h4]
 unfold Zw at hg
 simp only[Bool.or_eq_false_iff,Bool.and_eq_false_iff,Bool.not_eq_false',decide_eq_true_eq,decide_eq_false_iff_not]at hg
 obtain⟨⟨g1,g2⟩,_⟩:=hg
 have e1:(!decide (d=0)&&decide (pd n d=[]))=false:=by
  by_cases h0:d=0
  ·simp[h0]
  have:pd n d≠[]:=fun h=>h0 (by rw[<-tG d n,h];rfl)
  simp[this]
 rw[e1]
 rcases g2 with g2 | g2
 ·simp[g1,g2]
 simp[g1,g2]
theorem Uj {l:List Nat}(h:∀c∈l,48<=c/\c<=57):Mu l=decide (jT l=0):=by
 induction l with
 | nil=>rfl
 | cons c l ih=>
  have e:Mu (c::l)=(decide (c=48)&&Mu l):=rfl
  have e2:jT (c::l)=(c-48)*10^l.length+jT l:=by
   show List.foldl _ _ (c::l)=_
   rw[List.foldl_cons,Sq]
   simp
  have hc:=h c (by simp)
  have hp:0<10^l.length:=Nat.pow_pos (by omega)
  rw[e,ih (fun c hc=>h c (by simp[hc])),e2,<-Bool.decide_and]
  refine decide_eq_decide.2 ⟨fun h=>by rw[h.1,h.2];simp,fun h=>?_⟩
  have h3:jT l=0:=by omega
  have h4:(c-48)*10^l.length=0:=by omega
  rcases Nat.mul_eq_zero.1 h4 with h5 | h5
  ·exact⟨by omega,h3⟩
  omega
theorem RF (n d:Nat):∃c,(wr n d).take 1=[c]/\48<=c/\c<=57:=by
 have h:=Sr (n/10^d)
 have h2:=wI (n/10^d)
 unfold wr
 cases hq:tx (n/10^d)with
 | nil=>exact absurd hq h2
 | cons x w=>exact⟨x,rfl,h x (by rw[hq];simp)⟩
theorem Gr (z:Int) (d:Nat):iW (pt z d)=decide (z<0)/\bL (pt z d)=wr z.natAbs d:=by
 unfold pt
 by_cases h:z<0
 ·rw[if_pos h,decide_eq_true h]
  exact⟨rfl,rfl⟩
 rw[if_neg h,decide_eq_false h]
 obtain⟨c,h1,h2,h3⟩:=RF z.natAbs d
 have h4:¬(wr z.natAbs d).take 1=[45]:=by
  rw[h1]
  intro e
  injection e with e
  omega
 exact⟨decide_eq_false h4,if_neg h4⟩
theorem aBG (z:Int) (d:Nat):uF (pt z d)=true:=by
 obtain⟨h1,h2⟩:=Gr z d
 unfold uF
 rw[h1,h2,ZL,Bool.true_and]
 have e:Eu (wr z.natAbs d)=decide (z.natAbs=0):=by
  unfold Eu
  rw[Uj (GD _),FD]
 rw[e,<-Bool.decide_and]
 simp
 omega
theorem aCo (z:Int) (d:Nat):Et (pt z d)=Rat.divInt z ((10^d:Nat):Int):=by
 obtain⟨h1,h2⟩:=Gr z d
 unfold Et
 rw[h1,h2,FD,(Aw z.natAbs d).2.1,tG]
 congr 1
 unfold dV
 by_cases h:z<0
 ·rw[decide_eq_true h]
  simp
  omega
 rw[decide_eq_false h]
 simp
 omega
theorem aCn (z:Int) (d most:Nat):oW (pt z d) most=if d<=most then(if 40<(tx (z.natAbs/10^d)).length+d then 3 else 0)else 60:=by
 obtain⟨h1,h2⟩:=Gr z d
 obtain⟨h3,h4,_,_⟩:=Aw z.natAbs d
 unfold oW
 rw[aBG,h2,h3,h4,tG]
 simp
def hal (q:Rat):Int:=if(q.den:Int)<2*q.num.fmod (q.den:Int)\/((q.den:Int)=2*q.num.fmod (q.den:Int)/\q.num.fdiv (q.den:Int)%2≠0)then q.num.fdiv (q.den:Int)+1 else q.num.fdiv (q.den:Int)
theorem ZM (q:Rat):q.num=(q.den:Int)*q.num.fdiv (q.den:Int)+q.num.fmod (q.den:Int)/\0<=q.num.fmod (q.den:Int)/\q.num.fmod (q.den:Int)<(q.den:Int):=by
 have hd:(0:Int)<(q.den:Int):=by have:=q.den_pos;omega
 exact⟨(Int.mul_fdiv_add_fmod _ _).symm,Int.fmod_nonneg_of_pos _ hd,Int.fmod_lt_of_pos _ hd⟩
theorem Zy {a d f r:Int}(hd:0<d) (h:a=d*f+r) (h0:0<=r) (h1:r<d):a.fdiv d=f/\a.fmod d=r:=by
 have e1:a.fdiv d=f:=by
  rw[Int.fdiv_eq_ediv_of_nonneg _ (Int.le_of_lt hd),h,Int.add_comm,Int.add_mul_ediv_left _ _ (by omega),Int.ediv_eq_zero_of_lt h0 h1,Int.zero_add]
 refine⟨e1,?_⟩
 have h2:=Int.mul_fdiv_add_fmod a d
 rw[e1]at h2
 omega
theorem Uk (q:Rat):hal (-q)=-hal q:=by
 obtain⟨h1,h2,h3⟩:=ZM q
 have hd:(0:Int)<(q.den:Int):=by have:=q.den_pos;omega
 unfold hal
 rw[Rat.neg_num,Rat.neg_den]
 generalize q.num.fdiv (q.den:Int)=f at*
 generalize q.num.fmod (q.den:Int)=r at*
 generalize (q.den:Int)=d at*
 by_cases h0:r=0
 ·subst h0
  obtain⟨e1,e2⟩:=Zy (a:=-q.num) (f:=-f) (r:=0) hd (by rw[h1,Int.mul_neg];omega) (by omega) hd
  rw[e1,e2,if_neg (by omega),if_neg (by omega)]
 obtain⟨e1,e2⟩:=Zy (a:=-q.num) (f:=-f-1) (r:=d-r) hd (by rw[h1,Int.mul_sub,Int.mul_neg];omega) (by omega) (by omega)
 rw[e1,e2]
 by_cases h4:d<2*r
 ·rw[if_neg (by omega),if_pos (by omega)];omega
 by_cases h5:d=2*r
 ·by_cases h6:f%2=0
  ·rw[if_pos (by omega),if_neg (by omega)];omega
  rw[if_neg (by omega),if_pos (by omega)];omega
 rw[if_pos (by omega),if_neg (by omega)];omega
theorem Un (z:Int):hal (z:Rat)=z:=by
 unfold hal
 rw[Rat.num_intCast,Rat.den_intCast]
 obtain⟨e1,e2⟩:=Zy (a:=z) (d:=((1:Nat):Int)) (f:=z) (r:=0) (by omega) (by omega) (by omega) (by omega)
 rw[e1,e2,if_neg (by omega)]
theorem GJ (q:Rat):2*((hal q:Int):Rat)-2*q<=1/\2*q-2*((hal q:Int):Rat)<=1:=by
 obtain⟨h1,h2,h3⟩:=ZM q
 have hd:(0:Rat)<(q.den:Rat):=by have:=q.den_pos;exact_mod_cast this
 have hq:q*(q.den:Rat)=(q.num:Rat):=LX q
 have hh:2*((q.den:Int)*hal q)-2*q.num<=(q.den:Int)/\2*q.num-2*((q.den:Int)*hal q)<=(q.den:Int):=by
  unfold hal
  split
  ·rw[Int.mul_add]
   omega
  omega
 generalize hal q=H at*
 have c1:(2*((H:Int):Rat)-2*q)*(q.den:Rat)<=1*(q.den:Rat):=by
  have:=(Rat.intCast_le_intCast).2 hh.1
  push_cast at this
  grind
 have c2:(2*q-2*((H:Int):Rat))*(q.den:Rat)<=1*(q.den:Rat):=by
  have:=(Rat.intCast_le_intCast).2 hh.2
  push_cast at this
  grind
 exact⟨Rat.le_of_mul_le_mul_right c1 hd,Rat.le_of_mul_le_mul_right c2 hd⟩
theorem TH {p q:Rat}(h:0<(p-q).num.sign):q<p:=by
 have h1:=Gl.1 (Int.sign_pos_iff.1 h)
 grind
theorem BK {p q:Rat}(h:q<p):0<(p-q).num.sign:=Int.sign_pos_iff.2 (Gl.2 (by grind))
theorem Uc (k:Nat):(dg 4294967296 (10^k)).length<=k+1:=cW (by omega) (Nat.lt_of_le_of_lt (Nat.pow_le_pow_left (show 10<=4294967296 by omega) k) (Nat.pow_lt_pow_right (by omega) (by omega)))
theorem GC {l:List Nat}(h:∀c∈l,48<=c/\c<=57):(dg 4294967296 (jT l)).length<=l.length:=by
 have h1:=QU h (aX l.length)
 rwa[List.take_length]at h1
def aK (n:Int):Nat:=(max 0 (min n 40)).toNat
def eI (q:Rat) (d:Nat):List Nat:=pt (hal (q*((10^d:Nat):Rat))) d
theorem Mw {P:Program}{w w':World}{t t2 ty e:TypeId}{ii:TypeInfo}{z bb o n cp m c q:Nat}{A:Option Addr}{cells:List Value}(hm:Nat.min m n=q) (hu:P.underlying t=some (.slice e)) (hi:P.info? e=some ii) (hsz:ii.size=z)
  (hl:(Builtin.firstCells z q (.slice A m c)).run P w=.ok cells.toArray w) (hst:(storeCells ⟨bb,o,none⟩ cells).run P w=.ok () w'):
  (Builtin.copy_ #[t,t2] ty #[.slice (some ⟨bb,o,none⟩) n cp,.slice A m c]).run P w=.ok (.int .i64 (q:Int)) w':=by
 simp[Builtin.copy_,run_underlying hu,Builtin.lenOf,sizeOf,typeInfo,hi,hsz,hm,hl,hst]
 rfl
theorem FE {P:Program}{w:World}{t t2 ty e:TypeId}{ii:TypeInfo}{z m c q:Nat}{A:Option Addr}{cells:Array Value}(hm:Nat.min m 0=q) (hu:P.underlying t=some (.slice e)) (hi:P.info? e=some ii) (hsz:ii.size=z)
  (hl:(Builtin.firstCells z q (.slice A m c)).run P w=.ok cells w):
  (Builtin.copy_ #[t,t2] ty #[.slice none 0 0,.slice A m c]).run P w=.ok (.int .i64 (q:Int)) w:=by
 obtain rfl:q=0:=hm.symm.trans (Nat.min_zero m)
 simp[Builtin.copy_,run_underlying hu,Builtin.lenOf,sizeOf,typeInfo,hi,hsz]
 rw[hl]
 rfl
theorem JH {P:Program}{w:World}{B z m c nn:Nat}{A:Option Addr}{us:List Value}(h:Rd w B z A m c us) (hn:nn<=m):(Builtin.firstCells z nn (.slice A m c)).run P w=.ok (us.take (nn*z)).toArray w:=by
 have hl:(us.take (nn*z)).length=nn*z:=by rw[dU,h.len];exact Nat.min_eq_left (Nat.mul_le_mul_right z hn)
 cases A with
 | none=>
  have h0:m=0:=by
   rcases Nat.eq_zero_or_pos m with h0 | h0
   ·exact h0
   obtain⟨ad,e,_⟩:=h.cell h0
   cases e
  have:nn=0:=by omega
  subst this
  simp[Builtin.firstCells]
 | some ad=>
  have key:=run_loadCells_list (P:=P) w ad (us.take (nn*z)) ?_
  ·rw[hl]at key
   exact key
  intro j v hj
  have hm:0<m:=by
   rcases Nat.eq_zero_or_pos m with h0 | h0
   ·subst h0
    have h1:=h.len
    have h2:us=[]:=List.eq_nil_of_length_eq_zero (by simpa using h1)
    rw[h2]at hj
    simp at hj
   exact h0
  obtain⟨ad',e,_,h3⟩:=h.cell hm
  injection e with e
  subst e
  rw[List.getElem?_take]at hj
  split at hj
  ·exact h3 j v hj
  cases hj
theorem Sx:∀{l:List AV}(k:Nat),fQ l=true->fQ (l.take k)=true
 | [],k,_=>by rw[List.take_nil];rfl
 | _::_,0,_=>rfl
 | a::l,k+1,h=>by
  simp only[fQ,Bool.and_eq_true]at h
  simp only[List.take_succ_cons,fQ,Bool.and_eq_true]
  exact⟨h.1,Sx k h.2⟩
theorem Jk:∀{l:List AV}(k:Nat),dR l=true->dR (l.take k)=true
 | [],k,_=>by rw[List.take_nil];rfl
 | _::_,0,_=>rfl
 | a::l,k+1,h=>by
  simp only[dR,Bool.and_eq_true]at h
  simp only[List.take_succ_cons,dR,Bool.and_eq_true]
  exact⟨h.1,Jk k h.2⟩
section
variable {x:Cx}{g:Nat->FV}{ob:List (Option Ob)}{T:List (Nat×TI)}{d:Nat}{ty:TypeId}{pos:String}{af:Array Edge}{gd:Option (Nat×Bool)}{Q:Post}{ops:Array Oper}{rest:List Oper}
theorem Xf (hT:cH x.P T){t t2 e z by_ n m k o nn:Nat}{zz:Value}{ti:Bool}{ts0:Nat}{z0:List Value}{a b:Operand}{bv:AV}{bo:Ob}{l' news:List AV}(ht:bX T t=some ⟨ti,ts0,z0,.sl e z by_ zz⟩) (ha:lk x.n g a=.one (.sl k o n)) (ho:cR ob k=some bo)
  (hb:lk x.n g b=.one bv) (hs:SrcA ob z bv m news) (hrd:fQ news=true) (hlo:dR news=true) (hnn:min m n=nn) (hle:o+nn*z<=bo.l.length) (hput:eD bo.l o (news.take (nn*z))=l'):
  OS x ⟨some d,.call ⟨.builtin .copy, #[a,b], #[t,t2]⟩,ty,pos,af,gd⟩ g ob [k] (fun g' ob2=>g'=bG g d (.one (tv (.int .i64 (nn:Int))))/\ob2=ob.set k (some ⟨bo.t,bo.z,l'⟩)):=by
 subst hput hnn
 obtain⟨ii,hu,hi,hsz⟩:=(dX hT ht).2.2.2.1
 intro cs ts W hR K Q kk
 have hk:=dL ho
 have hp:=hR.lk a
 rw[ha]at hp
 simp only[bV,cE,AR]at hp
 have hbv:=hR.lk b
 rw[hb]at hbv
 obtain⟨A,c,us,e2,hrd',har⟩:=hs.ok hrd hR hbv
 have hone:=xA har hlo
 have hul:us.length=news.length:=iG har
 have hfst:=JH (P:=x.P) hrd' (Nat.min_le_left m n)
 have hfin:∀cs' W',(Builtin.copy_ #[t,t2] ty #[Act.eval ⟨ts,[]⟩ a,.slice A m c]).run x.P W=.ok (.int .i64 ((min m n:Nat):Int)) W'->RelC x g (ob.set k (some ⟨bo.t,bo.z,eD bo.l o (news.take (min m n*z))⟩)) cs' ts W'->
   (∀d,Aft [k] d ob cs ts W (ob.set k (some ⟨bo.t,bo.z,eD bo.l o (news.take (min m n*z))⟩)) cs' ts W')->Oper.wp x.P ⟨some d,.call ⟨.builtin .copy, #[a,b], #[t,t2]⟩,ty,pos,af,gd⟩ ⟨ts,[]⟩ W K Q:=by
  intro cs' W' hrun m1 m2
  have hrun':(execOp (Act.eval ⟨ts,[]⟩) ⟨some d,.call ⟨.builtin .copy, #[a,b], #[t,t2]⟩,ty,pos,af,gd⟩).run x.P W=.ok (.value (.int .i64 ((min m n:Nat):Int))) W':=by
   simp only[execOp,resolve,invoke,builtin,Sem.run_bind,Sem.run_pure,Result.andThen_ok,List.map_toArray,List.map_cons,List.map_nil,e2,hrun]
  refine eN hrun' ?_
  obtain⟨q1,q2,q3,q4,q5,q6⟩:=m2 (some d)
  exact kk _ _ _ _ _ ⟨rfl,rfl⟩ (m1.put d (jX (by simp only[tv,AR,FR]))) ⟨q1,q2,q3,q4,q5,fun i hi=>Array.getElem?_setIfInBounds_ne (fun e=>hi (by rw[e]))⟩
 cases hbb:(co cs k).b with
 | none=>
  rw[hbb]at hp
  obtain⟨_,h1,h2,h3⟩:=hp
  subst h1 h2
  have e0:eD bo.l 0 (news.take (min m 0*z))=bo.l:=by simp[eD]
  have e1:(⟨bo.t,bo.z,eD bo.l 0 (news.take (min m 0*z))⟩:Ob)=bo:=by rw[e0]
  have e3:ob.set k (some bo)=ob:=by
   apply List.ext_getElem?
   intro j
   rw[List.getElem?_set]
   split
   ·rename_i h
    subst h
    rw[hk]
    simp
    exact(List.getElem?_eq_some_iff.1 hk).1
   rfl
  refine hfin cs W ?_ (by rw[e1,e3];exact hR) (fun d=>by rw[e1,e3];exact⟨.refl,fun _ _ _=>rfl,aX _,fun _ _ _=>rfl,fun _ h=>.inl h,fun _ _=>rfl⟩)
  rw[h3]
  exact FE rfl hu hi hsz hfst
 | some bb=>
  rw[hbb]at hp
  obtain⟨_,o',cp,h1,_,_,h2,_⟩:=hp
  have hA':ARL W (x.fr W ob cs) cs (news.take (min m n*z)) (us.take (min m n*z)):=vQ _ har
  have hlt:(news.take (min m n*z)).length=min m n*z:=by
   rw[dU,<-hul,hrd'.len]
   exact Nat.min_eq_left (Nat.mul_le_mul_right z (Nat.min_le_left m n))
  obtain⟨W',c',hst,m1,m2⟩:=hR.over hk hbb hA' (Sx _ hrd) (Jk _ hlo) (by rw[hlt];exact hle)
  rcases Nat.eq_zero_or_pos (min m n)with h0 | h0
  ·-- nothing is written
   have hW:W'=W:=by
    rw[h0,Nat.zero_mul,List.take_zero]at hst
    simp[storeCells]at hst
    exact hst.symm
   subst hW
   refine hfin _ _ ?_ m1 m2
   rw[h1]
   refine Mw rfl hu hi hsz hfst ?_
   rw[h0,Nat.zero_mul,List.take_zero]
   simp[storeCells]
  obtain rfl:=h2 (.inl (by omega))
  refine hfin _ _ ?_ m1 m2
  rw[h1]
  exact Mw rfl hu hi hsz hfst hst
theorem ZN {t e by_ k m:Nat}{zz:Value}{ti:Bool}{ts0:Nat}{z0:List Value}{k1 k2:IntKind}{a b:Operand}(hT:cH x.P T) (ht:bX T t=some ⟨ti,ts0,z0,.sl e 4 by_ zz⟩) (ha:lk x.n g a=.one (tv (.int k1 (m:Int)))) (hb:lk x.n g b=.one (tv (.int k2 (m:Int)))) (hby:by_<=128) (hm:m<=1000000) (hk:eM ob k=true):
  OS x ⟨some d,.makeSlice t a b,ty,pos,af,gd⟩ g ob [] (fun g' ob2=>g'=bG g d (.one (.sl k 0 m))/\∃us:List Value,us.length=m*4/\ob2=ob++[some ⟨e,4,us.map tv⟩]):=by
 obtain⟨_,hel⟩:=(dX hT ht).2.2.2
 obtain⟨hu,i,hi,hz,hsize,hby',hzs,hsz⟩:=hel
 subst hby'
 have hk:=Nat.eq_of_beq_eq_true hk
 subst hk
 intro cs ts W hR K Q' kk'
 have e1:=hR.lk a
 rw[ha]at e1
 have e1:=bE e1
 have e2:=hR.lk b
 rw[hb]at e2
 have e2:=bE e2
 have hmul:i.bytes*m<=128*1000000:=Nat.mul_le_mul hby hm
 obtain⟨w',hrun,h1,h2⟩:=run_make_full (P:=x.P) W 0 t e i zz 4 hu hi hz hsize k1 k2 m (by omega) (by unfold maxLen;omega) (Nat.zero_le _)
 have hrun':(execOp (Act.eval ⟨ts,[]⟩) ⟨some d,.makeSlice t a b,ty,pos,af,gd⟩).run x.P W=.ok (.value (.slice (some ⟨W.heap.size,0,none⟩) m m)) w':=by
  simp[execOp,e1,e2,hrun]
 have hul:(madeCells zz.cells (m*4)).toList.length=m*4:=by simp[madeCells]
 generalize (madeCells zz.cells (m*4)).toList=us at h1 hul
 have hbl:Below W.heap.size W w':=(Below.refl _ _).grown h2 (aX _) (fun k hk=>by cases hk)
 rcases h1.2 with⟨hh,_⟩ | ⟨g1,cap,cur,hv,_,hg,hnc,hcm,hcs,htake⟩
 ·injection hh with h3;cases h3
 injection hv with q1 q2 q3
 injection q1 with q1
 injection q1 with q1
 subst q1 q3
 have hlt:W.heap.size<w'.heap.size:=(Array.getElem?_eq_some_iff.1 hg).1
 have hcur:cur.toList=us:=by
  have h9:cur.toList.length=m*4:=by simpa using hcs
  rw[<-htake,cT (by omega)]
 have hS:∀b∈(aQ (some ⟨e,4,us.map tv⟩) ⟨some W.heap.size,m,us.map .w⟩).S,W.heap.size<=b/\b<w'.heap.size:=by
  intro b hb
  simp[aQ,oP]at hb
  subst hb
  exact⟨aX _,hlt⟩
 have hown:∀b∈dO (ob++[some ⟨e,4,us.map tv⟩]) (cs++[⟨some W.heap.size,m,us.map .w⟩]),b∈dO ob cs\/W.heap.size<=b:=by
  intro b hb
  unfold dO aL at hb
  rw[List.zipWith_append hR.len,List.flatMap_append,List.mem_append]at hb
  rcases hb with hb | hb
  ·exact .inl hb
  exact .inr (hS b (by simpa using hb)).1
 have m1:RelC x g (ob++[some ⟨e,4,us.map tv⟩]) (cs++[⟨some W.heap.size,m,us.map .w⟩]) ts w':=by
  refine hR.push hbl _ _ ?_ hS (by simp[aQ,oP]) ?_ (fun e=>by cases e)
  ·simp only[aQ,wZ]
   refine⟨⟨[],?_,by simp[hul]⟩,wY _,hcm⟩
   rw[List.append_nil,hg,<-hcur]
  exact vS (pH _) (yR _)
 refine eN hrun' (kk' _ _ _ _ _ ⟨rfl,us,hul,rfl⟩ (m1.put d ?_) ((Aft.mk .app (fun k _ hk=>pJ hk) hbl.size (fun b hlt _=>hbl.block b hlt) hown (fun _ _=>rfl):Aft [] (some d) ob cs ts W _ _ ts w').then_put _))
 refine jX ?_
 simp only[AR]
 rw[hR.len,iT]
 exact⟨by simp[hR.len],0,m,rfl,aX _,hcm,fun _=>rfl,fun _=>rfl⟩
theorem mk4 {t e by_ m:Nat}{zz:Value}{ti:Bool}{ts0:Nat}{z0:List Value}{k1 k2:IntKind}{a b:Operand}(key:Nat) (hm:m<=1000000) (k:∀us:List Value,us.length=m*4->WL x ops rest (bG g d (.one (.sl key 0 m))) (ob++[some ⟨e,4,us.map tv⟩]) Q) (hT:cH x.P ttab:=by exact aR) (hw:bK ops x.n g gd=some true:=by rfl)
  (ht:bX ttab t=some ⟨ti,ts0,z0,.sl e 4 by_ zz⟩:=by rfl) (ha:lk x.n g a=.one (tv (.int k1 (m:Int))):=by rfl) (hb:lk x.n g b=.one (tv (.int k2 (m:Int))):=by rfl) (hby:by_<=128:=by decide) (hk:eM ob key=true:=by rfl):WL x ops (⟨some d,.makeSlice t a b,ty,pos,af,gd⟩::rest) g ob Q:=by
 exact gY (ZN hT ht ha hb hby hm hk) hw (by rintro _ _ ⟨rfl,us,hus,rfl⟩;exact k us hus)
theorem cpy {t t2 e z by_ n m k o nn:Nat}{zz:Value}{ti:Bool}{ts0:Nat}{z0:List Value}{a b:Operand}{bv:AV}{bo:Ob}{l' news:List AV}(hs:SrcA ob z bv m news) (hrd:fQ news=true) (hlo:dR news=true) (hnn:min m n=nn) (hle:o+nn*z<=bo.l.length) (hput:eD bo.l o (news.take (nn*z))=l')
  (kk:WL x ops rest (bG g d (.one (tv (.int .i64 (nn:Int))))) (ob.set k (some ⟨bo.t,bo.z,l'⟩)) Q) (hT:cH x.P ttab:=by exact aR) (hw:bK ops x.n g gd=some true:=by rfl) (ht:bX ttab t=some ⟨ti,ts0,z0,.sl e z by_ zz⟩:=by rfl) (ha:lk x.n g a=.one (.sl k o n):=by rfl) (ho:cR ob k=some bo:=by rfl)
  (hb:lk x.n g b=.one bv:=by rfl):WL x ops (⟨some d,.call ⟨.builtin .copy, #[a,b], #[t,t2]⟩,ty,pos,af,gd⟩::rest) g ob Q:=
 gY (Xf hT ht ha ho hb hs hrd hlo hnn hle hput) hw (by rintro _ _ ⟨rfl,rfl⟩;exact kk)
theorem aBR {late:Nat->Bool}{fr:List Nat}{fuel:Nat}{listed:Array Bool}{t t2 e z by_ n m k o nn:Nat}{zz:Value}{ti:Bool}{ts0:Nat}{z0:List Value}{a b:Operand}{bv:AV}{bo:Ob}{l' news:List AV}(i:Nat) (hs:SrcA ob z bv m news) (hrd:fQ news=true) (hlo:dR news=true) (hnn:min m n=nn) (hle:o+nn*z<=bo.l.length) (hput:eD bo.l o (news.take (nn*z))=l')
  (kk:WD x ops Q late [] (d::fr) true fuel (listed.setIfInBounds i true) (bG g d (.one (tv (.int .i64 (nn:Int))))) (ob.set k (some ⟨bo.t,bo.z,l'⟩))) (hT:cH x.P ttab:=by exact aR) (hr:Region.ready .any ops listed=[i]:=by kernel_rfl) (hi:ops[i]? =some ⟨some d,.call ⟨.builtin .copy, #[a,b], #[t,t2]⟩,ty,pos,af,gd⟩:=by rfl) (hw:bK ops x.n g gd=some true:=by rfl)
  (ht:bX ttab t=some ⟨ti,ts0,z0,.sl e z by_ zz⟩:=by rfl) (ha:lk x.n g a=.one (.sl k o n):=by rfl) (ho:cR ob k=some bo:=by rfl) (hb:lk x.n g b=.one bv:=by rfl):WD x ops Q late [] fr true (fuel+1) listed g ob:=
 Zc i hr hi rfl hw (Xf hT ht ha ho hb hs hrd hlo hnn hle hput) (fun k h=>by cases h) (by rintro _ _ ⟨rfl,rfl⟩;exact⟨⟨_,rfl⟩,fun _ h=>by cases h⟩) (by rintro _ _ ⟨rfl,rfl⟩;exact kk)
end
theorem ND {N:Nat}{p:Rat}{l:List Rat}(hp:Sz N p) (h:∀q∈l,Sz N q):Sz N (iM p l):=by
 rcases IL p l with h1 | h1
 ·rw[h1];exact hp
 exact h _ h1
end Go.Proofs.YtimiaildfkimfaaGreatDoor
