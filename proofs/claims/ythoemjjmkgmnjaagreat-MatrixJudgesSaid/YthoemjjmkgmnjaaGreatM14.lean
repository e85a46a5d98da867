/- Part 14 of a proof: F2 to D1. -/
import Derived.Test.YthoemjjmkgmnjaaGreatM11
import Derived.Test.YthoemjjmkgmnjaaGreatM13
import Derived.Test.YthoemjjmkgmnjaaGreatM7
import Derived.Test.YthoemjjmkgmnjaaGreatM12
set_option maxRecDepth 100000
set_option linter.unusedVariables false
set_option linter.unusedSimpArgs false
namespace Go.Proofs.YthoemjjmkgmnjaaGreat
open Go Go.RowKit
theorem QC (p q:Rat):decide ((p-q).num.sign=0)=decide (p=q):=by
 rw[decide_eq_decide,Int.sign_eq_zero_iff_zero,Rat.num_eq_zero]
 constructor <;> intro h <;> grind
theorem tT {a b:Fr4}{p q:Rat}(ha:Qn a p) (hb:Qn b q) (hp:Sz 17179869184 p) (hq:Sz 17179869184 q):aE true Tryz.prog 30 [] [qF a,qF b] (aO (.one (tv (.bool (decide (p=q)))))):=by
 refine bF Tryz.func30 rfl Tryz.ntmps30 rfl aA rfl fun N9 w9 c0 h0=>?_
 refine sq ?_;refine rl ?_;refine bx 0 ?_;refine bx 1 ?_;refine o1 ?_;refine nl ?_;refine sq ?_;refine rl ?_;refine ld ?_;refine ld ?_
 refine ca (xL ha hb hp hq) Jz ⟨aB rfl,aB rfl,rfl⟩ (.one (tv (.int .i64 (p-q).num.sign))) ?_;refine o1 ?_;refine o1 ?_;refine nl ?_;refine rt ?_;exact dY (.inl rfl) rfl (QC p q)
theorem CS {M:Mx}{N:Nat}{rs:List Rf}{us:List Uf}(hOk:M.Ok N) (hJ:JOk rs us){v y:Int}:aE true Tryz.prog 60 [] [.agg (((Fr4.of M.cap).tr false++[.v (.int .i64 ((M.b:Nat):Int)),.v (.int .i64 ((M.w:Nat):Int))]:List Tr).map .t),.one (.t (iN (yrs M N))),.one (tv (.int .i64 v)),.one (tv (.int .i64 y))] (aO (.one (tv (.bool (M.win N v y))))):=by
 refine bF Tryz.func60 rfl Tryz.ntmps60 rfl aA rfl fun N9 w9 c0 h0=>?_
 have h9l:=cU M N;have h9r:=hJ.rl;have h9u:=hJ.ul;have h9n:=hOk.n;have h9b:=hOk.b;have h9w:=hOk.w
 refine sq ?_;refine rl ?_;refine bx 0 ?_;refine o1 ?_;refine nl ?_;refine sq ?_;refine rl ?_;(iterate 3 refine o1 ?_);refine WL.split (t:=11) rfl (fun h1=>?_) (fun h1=>?_)
 ·(iterate 3 refine o1 ?_);refine WL.cast (t:=14) (u':=.int .i64 ((N:Nat):Int)) rfl (aI (by rw[cU])) ?_
  (iterate 3 refine o1 ?_);refine WL.split (t:=17) rfl (fun h2=>?_) (fun h2=>?_)
  ·(iterate 4 refine o1 ?_);refine WL.split (t:=21) rfl (fun h3=>?_) (fun h3=>?_)
   ·(iterate 3 refine o1 ?_);refine WL.cast (t:=24) (u':=.int .i64 ((N:Nat):Int)) rfl (aI (by rw[cU])) ?_
    (iterate 3 refine o1 ?_);refine WL.split (t:=27) rfl (fun h4=>?_) (fun h4=>?_)
    ·refine o1 ?_;refine o1 ?_;refine WL.cast (t:=29) (u':=.int .i64 ((v.toNat:Nat):Int)) rfl (aI (by omega)) ?_
     refine o1 ?_;refine o1 ?_
     refine cR ((Fr4.of (M.inc (v.toNat))).tr false) (aQ (f:=bY) (z:=8) (o:=0) dA (eL (M:=M) (N:=N) (y:=v.toNat) (by omega)) (Nat.le_of_ble_eq_true rfl) rfl) ?_
     refine ca (gS (Qn.of (p:=(M.inc (v.toNat))) (hOk.sz_inc (y:=v.toNat) (by omega)))) nN ⟨aB rfl,rfl⟩ (.one (tv (.int .i64 (M.inc (v.toNat)).num.sign))) ?_
     (iterate 3 refine o1 ?_);refine WL.split (t:=36) rfl (fun h5=>?_) (fun h5=>?_)
     ·refine o1 ?_;refine o1 ?_;refine WL.cast (t:=38) (u':=.int .i64 ((y.toNat:Nat):Int)) rfl (aI (by omega)) ?_
      refine o1 ?_;refine o1 ?_
      refine cR ((Fr4.of (M.inc (y.toNat))).tr false) (aQ (f:=bY) (z:=8) (o:=0) dA (eL (M:=M) (N:=N) (y:=y.toNat) (by omega)) (Nat.le_of_ble_eq_true rfl) rfl) ?_
      refine ca (gS (Qn.of (p:=(M.inc (y.toNat))) (hOk.sz_inc (y:=y.toNat) (by omega)))) nN ⟨aB rfl,rfl⟩ (.one (tv (.int .i64 (M.inc (y.toNat)).num.sign))) ?_
      (iterate 3 refine o1 ?_);refine WL.split (t:=45) rfl (fun h6=>?_) (fun h6=>?_)
      ·(iterate 4 refine o1 ?_);refine ld ?_;(iterate 3 refine o1 ?_);refine WL.split (t:=53) rfl (fun h7=>?_) (fun h7=>?_)
       ·(iterate 4 refine o1 ?_);refine ld ?_;(iterate 3 refine o1 ?_);refine nl ?_;refine rt ?_
        exact dY (.inl rfl) rfl (by simp only[Mx.win,decide_eq_true h1,decide_eq_true h2,decide_eq_true h3,decide_eq_true h4,decide_eq_true h5,decide_eq_true h6,decide_eq_true (show(v-(M.b:Int)≤y) by omega),show decide (y-v≤(M.w:Int))=decide (y≤v+(M.w:Int)) by rw[decide_eq_decide];omega] <;> first | rfl | simp)
       (iterate 6 refine aX ?_);refine o1 ?_;refine o1 ?_;refine nl ?_;refine rt ?_
       exact dY (.inl rfl) rfl (by simp only[Mx.win,decide_eq_true h1,decide_eq_true h2,decide_eq_true h3,decide_eq_true h4,decide_eq_true h5,decide_eq_true h6,decide_eq_false (show¬(v-(M.b:Int)≤y) by omega)] <;> first | rfl | simp)
      (iterate 6 refine aX ?_);refine o1 ?_;refine o1 ?_;(iterate 6 refine aX ?_);refine o1 ?_;refine o1 ?_;refine nl ?_;refine rt ?_
      exact dY (.inl rfl) rfl (by simp only[Mx.win,decide_eq_true h1,decide_eq_true h2,decide_eq_true h3,decide_eq_true h4,decide_eq_true h5,decide_eq_false h6] <;> first | rfl | simp)
     (iterate 7 refine aX ?_);refine o1 ?_;refine o1 ?_;(iterate 6 refine aX ?_);refine o1 ?_;refine o1 ?_;(iterate 6 refine aX ?_);refine o1 ?_;refine o1 ?_;refine nl ?_
     refine rt ?_;exact dY (.inl rfl) rfl (by simp only[Mx.win,decide_eq_true h1,decide_eq_true h2,decide_eq_true h3,decide_eq_true h4,decide_eq_false h5] <;> first | rfl | simp)
    (iterate 7 refine aX ?_);refine o1 ?_;refine o1 ?_;(iterate 7 refine aX ?_);refine o1 ?_;refine o1 ?_;(iterate 6 refine aX ?_);refine o1 ?_;refine o1 ?_;(iterate 6 refine aX ?_)
    refine o1 ?_;refine o1 ?_;refine nl ?_;refine rt ?_
    exact dY (.inl rfl) rfl (by simp only[Mx.win,decide_eq_true h1,decide_eq_true h2,decide_eq_true h3,decide_eq_false h4] <;> first | rfl | simp)
   (iterate 4 refine aX ?_);refine o1 ?_;refine o1 ?_;(iterate 7 refine aX ?_);refine o1 ?_;refine o1 ?_;(iterate 7 refine aX ?_);refine o1 ?_;refine o1 ?_;(iterate 6 refine aX ?_)
   refine o1 ?_;refine o1 ?_;(iterate 6 refine aX ?_);refine o1 ?_;refine o1 ?_;refine nl ?_;refine rt ?_
   exact dY (.inl rfl) rfl (by simp only[Mx.win,decide_eq_true h1,decide_eq_true h2,decide_eq_false h3] <;> first | rfl | simp)
  refine aX ?_;refine aX ?_;refine o1 ?_;refine o1 ?_;(iterate 4 refine aX ?_);refine o1 ?_;refine o1 ?_;(iterate 7 refine aX ?_);refine o1 ?_;refine o1 ?_;(iterate 7 refine aX ?_)
  refine o1 ?_;refine o1 ?_;(iterate 6 refine aX ?_);refine o1 ?_;refine o1 ?_;(iterate 6 refine aX ?_);refine o1 ?_;refine o1 ?_;refine nl ?_;refine rt ?_
  exact dY (.inl rfl) rfl (by simp only[Mx.win,decide_eq_true h1,decide_eq_false h2] <;> first | rfl | simp)
 (iterate 4 refine aX ?_);refine o1 ?_;refine o1 ?_;refine aX ?_;refine aX ?_;refine o1 ?_;refine o1 ?_;(iterate 4 refine aX ?_);refine o1 ?_;refine o1 ?_;(iterate 7 refine aX ?_)
 refine o1 ?_;refine o1 ?_;(iterate 7 refine aX ?_);refine o1 ?_;refine o1 ?_;(iterate 6 refine aX ?_);refine o1 ?_;refine o1 ?_;(iterate 6 refine aX ?_);refine o1 ?_;refine o1 ?_
 refine nl ?_;refine rt ?_;exact dY (.inl rfl) rfl (by simp only[Mx.win,decide_eq_false h1] <;> first | rfl | simp)
theorem Vh {rs:List Rf}{us:List Uf}{y:Int}(hJ:JOk rs us):aE false Tryz.prog 21 [] [.agg (([jO false rs,jP false us]:List Tr).map .t),.one (tv (.int .i64 y))] (aO (qF (.of (Mx.inJ us y)))):=by
 refine bF Tryz.func21 rfl Tryz.ntmps21 rfl aA rfl fun N9 w9 c0 h0=>?_
 have h9r:=hJ.rl;have h9u:=hJ.ul
 have h00:((0:Int):Rat)=(cJ (us.take 0) fun u:Uf=>decide (u.y=y)):=by simp[cJ,gU,Rat.add_zero]
 refine sq ?_;refine rl ?_;refine bx 0 ?_;refine al 1 ?_;refine nl ?_;refine sq ?_;refine rl ?_;refine ca (Jy) Zb rfl (qF (.of ((0:Int):Rat))) ?_;refine al 2 ?_;refine st ?_
 refine nl ?_;refine sq ?_;refine sq ?_;refine rl ?_;refine o1 ?_;refine nl ?_;refine bl ?_
 refine lp (γ:=Nat) (fun k=>bV [(1,.one (tv (.int .i64 y))),(2,.one (.pt 0 0)),(4,.one (.pt 1 0)),(5,.one (.pt 2 0)),(6,.one (tv (.int .i64 ((k:Nat):Int))))]) (fun k=>[(⟨42,0,[.t (jO false rs),.t (jP false us)]⟩:Ob),⟨49,0,[tv (.bool false),tv (.slice none 0 0),tv (.bool false),tv (.slice none 0 0)]⟩,⟨49,0,((Fr4.of (cJ (us.take k) fun u:Uf=>decide (u.y=y))).tr false).map .t⟩].map some) (fun k=>k≤us.length∧True) (fun k=>us.length-k) 0 ⟨Nat.zero_le _,trivial⟩ (aG h0 [0,1,2] _ _ (by decide) ⟨rfl,rfl,rfl,rfl,rfl,trivial⟩ ⟨oe rfl rfl,oe rfl rfl,aT (congrArg (fun q=>some (⟨49,0,((Fr4.of q).tr false).map .t⟩:Ob)) h00),rfl⟩) fun k hk=>?_
 refine sq ?_;refine sq ?_;refine rl ?_;refine o1 ?_;refine o1 ?_;refine ld ?_;refine o1 ?_;refine o1 ?_;refine nl ?_;refine bS rfl (fun h1=>?_) (fun h1=>?_)
 ·refine sk ?_;refine sq ?_;refine bl ?_;refine sq ?_;refine rl ?_;refine o1 ?_;refine ld ?_;(iterate 3 refine o1 ?_)
  refine cR ([.v (.int .i64 (bK us (k)).y)]) (aQ (f:=(fA false)) (z:=14) (o:=1) (eM false) (dG (us:=us) (k:=k) (by omega)) (Nat.le_of_ble_eq_true rfl) rfl) ?_
  refine o1 ?_;refine o1 ?_;refine nl ?_;refine bS rfl (fun h2=>?_) (fun h2=>?_)
  ·refine rd [0,1,2] (fun i=>[8].contains i) mixed ?_
   refine aJ 0 ?_;refine dv 1 ?_;refine aJ 2 ?_;refine dv 3 ?_;refine dv 4 ?_;refine dv 5 ?_
   refine cO 6 ((bK us (k)).n.tr false) (aQ (f:=(fA false)) (z:=14) (o:=2) (eM false) (dG (us:=us) (k:=k) (by omega)) (Nat.le_of_ble_eq_true rfl) rfl) ?_
   refine aF 7 rfl (lH (Qn.of (p:=(cJ (us.take k) fun u:Uf=>decide (u.y=y))) (kN hJ _ _)) (hJ.u _ (dW (us:=us) (k:=k) (by omega))).1.qn ((kN hJ _ _).mono (by omega)) ((hJ.u _ (dW (us:=us) (k:=k) (by omega))).1.2.1.mono (by omega))) qZ ⟨aB rfl,aB rfl,rfl⟩ (qF (.of ((cJ (us.take k) fun u:Uf=>decide (u.y=y))+(bK us (k)).n.q))) ?_
   refine dst 8 ?_;refine aK ?_;refine rl ?_;refine o1 ?_;refine o1 ?_;refine WL.cast (t:=14) (u':=.int .i64 ((k+1:Nat):Int)) rfl (aI (by omega)) ?_
   refine o1 ?_;refine nl ?_
   have hst:(cJ (us.take (k+1)) fun u:Uf=>decide (u.y=y))=((cJ (us.take k) fun u:Uf=>decide (u.y=y))+(bK us (k)).n.q):=by rw[yX (us:=us) (k:=k) (dl:=fun u:Uf=>decide (u.y=y)) (by omega) (decide_eq_true h2)]
   exact⟨k+1,by omega,⟨by omega,trivial⟩,aG h0 [0,1,2] _ _ (by decide) ⟨rfl,rfl,rfl,rfl,rfl,trivial⟩ ⟨oe rfl rfl,oe rfl rfl,aT (congrArg (fun q=>some (⟨49,0,((Fr4.of q).tr false).map .t⟩:Ob)) hst.symm),rfl⟩⟩
  refine sk ?_;refine rl ?_;refine o1 ?_;refine o1 ?_;refine WL.cast (t:=14) (u':=.int .i64 ((k+1:Nat):Int)) rfl (aI (by omega)) ?_
  refine o1 ?_;refine nl ?_
  have hst:(cJ (us.take (k+1)) fun u:Uf=>decide (u.y=y))=(cJ (us.take k) fun u:Uf=>decide (u.y=y)):=by rw[yY (us:=us) (k:=k) (dl:=fun u:Uf=>decide (u.y=y)) (by omega) (decide_eq_false h2)]
  exact⟨k+1,by omega,⟨by omega,trivial⟩,aG h0 [0,1,2] _ _ (by decide) ⟨rfl,rfl,rfl,rfl,rfl,trivial⟩ ⟨oe rfl rfl,oe rfl rfl,aT (congrArg (fun q=>some (⟨49,0,((Fr4.of q).tr false).map .t⟩:Ob)) hst.symm),rfl⟩⟩
 refine ex ?_;refine sq ?_;refine rl ?_;refine ld ?_;refine st ?_;refine nl ?_;refine rt ?_;have hfin:cJ (us.take k) (fun u:Uf=>decide (u.y=y))=Mx.inJ us y:=tO (by omega)
 exact en (.inl rfl) rfl (aP (.agg (.cons (.id rfl) (.cons (.id rfl) (.cons (.id rfl) (.cons (.id rfl) .nil)))))) (by decide) (fun h=>by cases h) (by rw[hfin];rfl)
theorem Kd {rs:List Rf}{us:List Uf}{y:Int}(hJ:JOk rs us):aE false Tryz.prog 19 [] [.agg (([jO false rs,jP false us]:List Tr).map .t),.one (tv (.int .i64 y))] (aO (qF (.of (Mx.ofJ us y)))):=by
 refine bF Tryz.func19 rfl Tryz.ntmps19 rfl aA rfl fun N9 w9 c0 h0=>?_
 have h9r:=hJ.rl;have h9u:=hJ.ul
 have h00:((0:Int):Rat)=(cJ (us.take 0) fun u:Uf=>decide (u.v=y)):=by simp[cJ,gU,Rat.add_zero]
 refine sq ?_;refine rl ?_;refine bx 0 ?_;refine al 1 ?_;refine nl ?_;refine sq ?_;refine rl ?_;refine ca (Jy) Zb rfl (qF (.of ((0:Int):Rat))) ?_;refine al 2 ?_;refine st ?_
 refine nl ?_;refine sq ?_;refine sq ?_;refine rl ?_;refine o1 ?_;refine nl ?_;refine bl ?_
 refine lp (γ:=Nat) (fun k=>bV [(1,.one (tv (.int .i64 y))),(2,.one (.pt 0 0)),(4,.one (.pt 1 0)),(5,.one (.pt 2 0)),(6,.one (tv (.int .i64 ((k:Nat):Int))))]) (fun k=>[(⟨42,0,[.t (jO false rs),.t (jP false us)]⟩:Ob),⟨49,0,[tv (.bool false),tv (.slice none 0 0),tv (.bool false),tv (.slice none 0 0)]⟩,⟨49,0,((Fr4.of (cJ (us.take k) fun u:Uf=>decide (u.v=y))).tr false).map .t⟩].map some) (fun k=>k≤us.length∧True) (fun k=>us.length-k) 0 ⟨Nat.zero_le _,trivial⟩ (aG h0 [0,1,2] _ _ (by decide) ⟨rfl,rfl,rfl,rfl,rfl,trivial⟩ ⟨oe rfl rfl,oe rfl rfl,aT (congrArg (fun q=>some (⟨49,0,((Fr4.of q).tr false).map .t⟩:Ob)) h00),rfl⟩) fun k hk=>?_
 refine sq ?_;refine sq ?_;refine rl ?_;refine o1 ?_;refine o1 ?_;refine ld ?_;refine o1 ?_;refine o1 ?_;refine nl ?_;refine bS rfl (fun h1=>?_) (fun h1=>?_)
 ·refine sk ?_;refine sq ?_;refine bl ?_;refine sq ?_;refine rl ?_;refine o1 ?_;refine ld ?_;(iterate 3 refine o1 ?_)
  refine cR ([.v (.int .i64 (bK us (k)).v)]) (aQ (f:=(fA false)) (z:=14) (o:=0) (eM false) (dG (us:=us) (k:=k) (by omega)) (Nat.le_of_ble_eq_true rfl) rfl) ?_
  refine o1 ?_;refine o1 ?_;refine nl ?_;refine bS rfl (fun h2=>?_) (fun h2=>?_)
  ·refine rd [0,1,2] (fun i=>[8].contains i) mixed ?_
   refine aJ 0 ?_;refine dv 1 ?_;refine aJ 2 ?_;refine dv 3 ?_;refine dv 4 ?_;refine dv 5 ?_
   refine cO 6 ((bK us (k)).n.tr false) (aQ (f:=(fA false)) (z:=14) (o:=2) (eM false) (dG (us:=us) (k:=k) (by omega)) (Nat.le_of_ble_eq_true rfl) rfl) ?_
   refine aF 7 rfl (lH (Qn.of (p:=(cJ (us.take k) fun u:Uf=>decide (u.v=y))) (kN hJ _ _)) (hJ.u _ (dW (us:=us) (k:=k) (by omega))).1.qn ((kN hJ _ _).mono (by omega)) ((hJ.u _ (dW (us:=us) (k:=k) (by omega))).1.2.1.mono (by omega))) qZ ⟨aB rfl,aB rfl,rfl⟩ (qF (.of ((cJ (us.take k) fun u:Uf=>decide (u.v=y))+(bK us (k)).n.q))) ?_
   refine dst 8 ?_;refine aK ?_;refine rl ?_;refine o1 ?_;refine o1 ?_;refine WL.cast (t:=14) (u':=.int .i64 ((k+1:Nat):Int)) rfl (aI (by omega)) ?_
   refine o1 ?_;refine nl ?_
   have hst:(cJ (us.take (k+1)) fun u:Uf=>decide (u.v=y))=((cJ (us.take k) fun u:Uf=>decide (u.v=y))+(bK us (k)).n.q):=by rw[yX (us:=us) (k:=k) (dl:=fun u:Uf=>decide (u.v=y)) (by omega) (decide_eq_true h2)]
   exact⟨k+1,by omega,⟨by omega,trivial⟩,aG h0 [0,1,2] _ _ (by decide) ⟨rfl,rfl,rfl,rfl,rfl,trivial⟩ ⟨oe rfl rfl,oe rfl rfl,aT (congrArg (fun q=>some (⟨49,0,((Fr4.of q).tr false).map .t⟩:Ob)) hst.symm),rfl⟩⟩
  refine sk ?_;refine rl ?_;refine o1 ?_;refine o1 ?_;refine WL.cast (t:=14) (u':=.int .i64 ((k+1:Nat):Int)) rfl (aI (by omega)) ?_
  refine o1 ?_;refine nl ?_
  have hst:(cJ (us.take (k+1)) fun u:Uf=>decide (u.v=y))=(cJ (us.take k) fun u:Uf=>decide (u.v=y)):=by rw[yY (us:=us) (k:=k) (dl:=fun u:Uf=>decide (u.v=y)) (by omega) (decide_eq_false h2)]
  exact⟨k+1,by omega,⟨by omega,trivial⟩,aG h0 [0,1,2] _ _ (by decide) ⟨rfl,rfl,rfl,rfl,rfl,trivial⟩ ⟨oe rfl rfl,oe rfl rfl,aT (congrArg (fun q=>some (⟨49,0,((Fr4.of q).tr false).map .t⟩:Ob)) hst.symm),rfl⟩⟩
 refine ex ?_;refine sq ?_;refine rl ?_;refine ld ?_;refine st ?_;refine nl ?_;refine rt ?_;have hfin:cJ (us.take k) (fun u:Uf=>decide (u.v=y))=Mx.ofJ us y:=tO (by omega)
 exact en (.inl rfl) rfl (aP (.agg (.cons (.id rfl) (.cons (.id rfl) (.cons (.id rfl) (.cons (.id rfl) .nil)))))) (by decide) (fun h=>by cases h) (by rw[hfin];rfl)
theorem QD {N:Nat}{rs:List Rf}{us:List Uf}{v y:Int}(hJ:JOk rs us) (hl:rs.length=N) (h1:0≤v) (h2:v<(N:Int)):aE false Tryz.prog 105 [] [.agg (([jO false rs,jP false us]:List Tr).map .t),.one (tv (.int .i64 v)),.one (tv (.int .i64 y))] (aO (qF (.of (Mx.remJ rs us v y)))):=by
 refine bF Tryz.func105 rfl Tryz.ntmps105 rfl aA rfl fun N9 w9 c0 h0=>?_
 have h9r:=hJ.rl;have h9u:=hJ.ul
 have h00:((aN rs (v.toNat)).e.q+(aN rs (v.toNat)).c.q)=(((aN rs (v.toNat)).e.q+(aN rs (v.toNat)).c.q)+(cJ (us.take 0) fun u:Uf=>decide (u.v=v)&&decide (y<u.y))):=by simp[cJ,gU,Rat.add_zero]
 refine sq ?_;refine rl ?_;refine bx 0 ?_;refine al 1 ?_;refine nl ?_
 refine md (γ:=Unit) (fun _=>bV [(1,.one (tv (.int .i64 v))),(2,.one (tv (.int .i64 y))),(3,.one (.pt 0 0)),(6,.one (.pt 1 0)),(7,.one (.pt 2 0))]) (fun _=>([⟨42,0,[.t (jO false rs),.t (jP false us)]⟩,⟨49,0,[tv (.bool false),tv (.slice none 0 0),tv (.bool false),tv (.slice none 0 0)]⟩,⟨49,0,((Fr4.of ((aN rs (v.toNat)).e.q+(aN rs (v.toNat)).c.q)).tr false).map .t⟩]:List Ob).map some) (fun _=>True) ?_ fun _ _=>?_
 ·refine rd [0,1] (fun i=>[14].contains i) mixed ?_
  refine dv 0 ?_;refine aJ 1 ?_;refine dv 2 ?_;refine WD.cast (t:=11) (u':=.int .i64 ((v.toNat:Nat):Int)) rfl (aI (by omega)) ?_
  refine dv 3 ?_;refine dv 4 ?_
  refine cO 5 ((aN rs (v.toNat)).e.tr false) (aQ (f:=(iC false)) (z:=24) (o:=16) (iX false) (fS (rs:=rs) (k:=v.toNat) (by omega)) (Nat.le_of_ble_eq_true rfl) rfl) ?_
  refine dv 6 ?_;refine aJ 7 ?_;refine dv 8 ?_;refine WD.cast (t:=17) (u':=.int .i64 ((v.toNat:Nat):Int)) rfl (aI (by omega)) ?_
  refine dv 9 ?_;refine dv 10 ?_
  refine cO 11 ((aN rs (v.toNat)).c.tr false) (aQ (f:=(iC false)) (z:=24) (o:=20) (iX false) (fS (rs:=rs) (k:=v.toNat) (by omega)) (Nat.le_of_ble_eq_true rfl) rfl) ?_
  refine WO.two (i:=12) (j:=13) (by kernel_rfl) ?_ ?_
  ·refine dC 12 rfl (lH (hJ.r _ (aS (rs:=rs) (k:=v.toNat) (by omega))).2.2.2.2.1.qn (hJ.r _ (aS (rs:=rs) (k:=v.toNat) (by omega))).2.2.2.2.2.qn ((hJ.r _ (aS (rs:=rs) (k:=v.toNat) (by omega))).2.2.2.2.1.2.1.mono (by omega)) ((hJ.r _ (aS (rs:=rs) (k:=v.toNat) (by omega))).2.2.2.2.2.2.1.mono (by omega))) qZ ⟨aB rfl,aB rfl,rfl⟩ (qF (.of ((aN rs (v.toNat)).e.q+(aN rs (v.toNat)).c.q))) ?_
   refine eO (key:=2) 13 (by kernel_rfl) rfl rfl aA rfl ⟨rfl,rfl,trivial⟩ ?_
   refine dst 14 ?_;refine aK ?_;exact⟨(),trivial,aG h0 [0,1,2] _ _ (by decide) ⟨rfl,rfl,rfl,rfl,rfl,trivial⟩ ⟨oe rfl rfl,oe rfl rfl,oe rfl rfl,rfl⟩⟩
  refine bM (key:=2) 13 rfl rfl aA rfl ⟨rfl,rfl,trivial⟩ ?_
  refine aF 12 rfl (lH (hJ.r _ (aS (rs:=rs) (k:=v.toNat) (by omega))).2.2.2.2.1.qn (hJ.r _ (aS (rs:=rs) (k:=v.toNat) (by omega))).2.2.2.2.2.qn ((hJ.r _ (aS (rs:=rs) (k:=v.toNat) (by omega))).2.2.2.2.1.2.1.mono (by omega)) ((hJ.r _ (aS (rs:=rs) (k:=v.toNat) (by omega))).2.2.2.2.2.2.1.mono (by omega))) qZ ⟨aB rfl,aB rfl,rfl⟩ (qF (.of ((aN rs (v.toNat)).e.q+(aN rs (v.toNat)).c.q))) ?_
  refine dst 14 ?_;refine aK ?_;exact⟨(),trivial,aG h0 [0,1,2] _ _ (by decide) ⟨rfl,rfl,rfl,rfl,rfl,trivial⟩ ⟨oe rfl rfl,oe rfl rfl,oe rfl rfl,rfl⟩⟩
 refine sq ?_;refine sq ?_;refine rl ?_;refine o1 ?_;refine nl ?_;refine bl ?_
 refine lp (γ:=Nat) (fun k=>bV [(1,.one (tv (.int .i64 v))),(2,.one (tv (.int .i64 y))),(3,.one (.pt 0 0)),(6,.one (.pt 1 0)),(7,.one (.pt 2 0)),(8,.one (tv (.int .i64 ((k:Nat):Int))))]) (fun k=>[(⟨42,0,[.t (jO false rs),.t (jP false us)]⟩:Ob),⟨49,0,[tv (.bool false),tv (.slice none 0 0),tv (.bool false),tv (.slice none 0 0)]⟩,⟨49,0,((Fr4.of (((aN rs (v.toNat)).e.q+(aN rs (v.toNat)).c.q)+(cJ (us.take k) fun u:Uf=>decide (u.v=v)&&decide (y<u.y)))).tr false).map .t⟩].map some) (fun k=>k≤us.length∧True) (fun k=>us.length-k) 0 ⟨Nat.zero_le _,trivial⟩ (aG h0 [0,1,2] _ _ (by decide) ⟨rfl,rfl,rfl,rfl,rfl,rfl,trivial⟩ ⟨oe rfl rfl,oe rfl rfl,aT (congrArg (fun q=>some (⟨49,0,((Fr4.of q).tr false).map .t⟩:Ob)) h00),rfl⟩) fun k hk=>?_
 refine sq ?_;refine sq ?_;refine rl ?_;refine o1 ?_;refine o1 ?_;refine ld ?_;refine o1 ?_;refine o1 ?_;refine nl ?_;refine bS rfl (fun h1=>?_) (fun h1=>?_)
 ·refine sk ?_;refine sq ?_;refine bl ?_
  refine md (γ:=Unit) (fun _=>bV [(1,.one (tv (.int .i64 v))),(2,.one (tv (.int .i64 y))),(3,.one (.pt 0 0)),(6,.one (.pt 1 0)),(7,.one (.pt 2 0)),(8,.one (tv (.int .i64 ((k:Nat):Int)))),(46,.one (tv (.bool (decide ((bK us (k)).v=v)&&decide (y<(bK us (k)).y)))))]) (fun _=>([⟨42,0,[.t (jO false rs),.t (jP false us)]⟩,⟨49,0,[tv (.bool false),tv (.slice none 0 0),tv (.bool false),tv (.slice none 0 0)]⟩,⟨49,0,((Fr4.of (((aN rs (v.toNat)).e.q+(aN rs (v.toNat)).c.q)+(cJ (us.take k) fun u:Uf=>decide (u.v=v)&&decide (y<u.y)))).tr false).map .t⟩]:List Ob).map some) (fun _=>True) ?_ fun _ _=>?_
  ·refine rl ?_;refine o1 ?_;refine ld ?_;(iterate 3 refine o1 ?_)
   refine cR ([.v (.int .i64 (bK us (k)).v)]) (aQ (f:=(fA false)) (z:=14) (o:=0) (eM false) (dG (us:=us) (k:=k) (by omega)) (Nat.le_of_ble_eq_true rfl) rfl) ?_
   (iterate 3 refine o1 ?_);refine WL.split (t:=37) rfl (fun h2=>?_) (fun h2=>?_)
   ·refine o1 ?_;refine ld ?_;(iterate 3 refine o1 ?_)
    refine cR ([.v (.int .i64 (bK us (k)).y)]) (aQ (f:=(fA false)) (z:=14) (o:=1) (eM false) (dG (us:=us) (k:=k) (by omega)) (Nat.le_of_ble_eq_true rfl) rfl) ?_
    (iterate 3 refine o1 ?_);refine nl ?_
    exact⟨(),trivial,aG h0 [0,1,2] _ _ (by decide) ⟨rfl,rfl,rfl,rfl,rfl,rfl,eD (by simp only[decide_eq_true h1,decide_eq_true h2] <;> first | rfl | simp),trivial⟩ ⟨oe rfl rfl,oe rfl rfl,oe rfl rfl,rfl⟩⟩
   (iterate 8 refine aX ?_);refine o1 ?_;refine nl ?_
   exact⟨(),trivial,aG h0 [0,1,2] _ _ (by decide) ⟨rfl,rfl,rfl,rfl,rfl,rfl,eD (by simp only[decide_eq_true h1,decide_eq_false h2] <;> first | rfl | simp),trivial⟩ ⟨oe rfl rfl,oe rfl rfl,oe rfl rfl,rfl⟩⟩
  refine kJ rfl (fun h3=>?_) (fun h3=>?_)
  ·refine rd [0,1,2] (fun i=>[8].contains i) mixed ?_
   refine aJ 0 ?_;refine dv 1 ?_;refine aJ 2 ?_;refine dv 3 ?_;refine dv 4 ?_;refine dv 5 ?_
   refine cO 6 ((bK us (k)).n.tr false) (aQ (f:=(fA false)) (z:=14) (o:=2) (eM false) (dG (us:=us) (k:=k) (by omega)) (Nat.le_of_ble_eq_true rfl) rfl) ?_
   refine aF 7 rfl (lH (Qn.of (p:=(((aN rs (v.toNat)).e.q+(aN rs (v.toNat)).c.q)+(cJ (us.take k) fun u:Uf=>decide (u.v=v)&&decide (y<u.y)))) (dE (dE (hJ.r _ (aS (rs:=rs) (k:=v.toNat) (by omega))).2.2.2.2.1.2.1 (hJ.r _ (aS (rs:=rs) (k:=v.toNat) (by omega))).2.2.2.2.2.2.1) (kN hJ _ _))) (hJ.u _ (dW (us:=us) (k:=k) (by omega))).1.qn ((dE (dE (hJ.r _ (aS (rs:=rs) (k:=v.toNat) (by omega))).2.2.2.2.1.2.1 (hJ.r _ (aS (rs:=rs) (k:=v.toNat) (by omega))).2.2.2.2.2.2.1) (kN hJ _ _)).mono (by omega)) ((hJ.u _ (dW (us:=us) (k:=k) (by omega))).1.2.1.mono (by omega))) qZ ⟨aB rfl,aB rfl,rfl⟩ (qF (.of ((((aN rs (v.toNat)).e.q+(aN rs (v.toNat)).c.q)+(cJ (us.take k) fun u:Uf=>decide (u.v=v)&&decide (y<u.y)))+(bK us (k)).n.q))) ?_
   refine dst 8 ?_;refine aK ?_;refine rl ?_;refine o1 ?_;refine o1 ?_;refine WL.cast (t:=28) (u':=.int .i64 ((k+1:Nat):Int)) rfl (aI (by omega)) ?_
   refine o1 ?_;refine nl ?_
   have hst:(((aN rs (v.toNat)).e.q+(aN rs (v.toNat)).c.q)+(cJ (us.take (k+1)) fun u:Uf=>decide (u.v=v)&&decide (y<u.y)))=((((aN rs (v.toNat)).e.q+(aN rs (v.toNat)).c.q)+(cJ (us.take k) fun u:Uf=>decide (u.v=v)&&decide (y<u.y)))+(bK us (k)).n.q):=by rw[yX (us:=us) (k:=k) (dl:=fun u:Uf=>decide (u.v=v)&&decide (y<u.y)) (by omega) (h3)];exact(Rat.add_assoc _ _ _).symm
   exact⟨k+1,by omega,⟨by omega,trivial⟩,aG h0 [0,1,2] _ _ (by decide) ⟨rfl,rfl,rfl,rfl,rfl,rfl,trivial⟩ ⟨oe rfl rfl,oe rfl rfl,aT (congrArg (fun q=>some (⟨49,0,((Fr4.of q).tr false).map .t⟩:Ob)) hst.symm),rfl⟩⟩
  refine sk ?_;refine rl ?_;refine o1 ?_;refine o1 ?_;refine WL.cast (t:=28) (u':=.int .i64 ((k+1:Nat):Int)) rfl (aI (by omega)) ?_
  refine o1 ?_;refine nl ?_
  have hst:(((aN rs (v.toNat)).e.q+(aN rs (v.toNat)).c.q)+(cJ (us.take (k+1)) fun u:Uf=>decide (u.v=v)&&decide (y<u.y)))=(((aN rs (v.toNat)).e.q+(aN rs (v.toNat)).c.q)+(cJ (us.take k) fun u:Uf=>decide (u.v=v)&&decide (y<u.y))):=by rw[yY (us:=us) (k:=k) (dl:=fun u:Uf=>decide (u.v=v)&&decide (y<u.y)) (by omega) (h3)]
  exact⟨k+1,by omega,⟨by omega,trivial⟩,aG h0 [0,1,2] _ _ (by decide) ⟨rfl,rfl,rfl,rfl,rfl,rfl,trivial⟩ ⟨oe rfl rfl,oe rfl rfl,aT (congrArg (fun q=>some (⟨49,0,((Fr4.of q).tr false).map .t⟩:Ob)) hst.symm),rfl⟩⟩
 refine ex ?_;refine sq ?_;refine rl ?_;refine ld ?_;refine st ?_;refine nl ?_;refine rt ?_
 have hfin:((aN rs (v.toNat)).e.q+(aN rs (v.toNat)).c.q)+cJ (us.take k) (fun u:Uf=>decide (u.v=v)&&decide (y<u.y))=Mx.remJ rs us v y:=by rw[tO (by omega)];unfold Mx.remJ;grind
 exact en (.inl rfl) rfl (aP (.agg (.cons (.id rfl) (.cons (.id rfl) (.cons (.id rfl) (.cons (.id rfl) .nil)))))) (by decide) (fun h=>by cases h) (by rw[hfin];rfl)
theorem TV {M:Mx}{us:List Uf}{y t:Int}:M.ring (y.toNat)+cJ us (fun u:Uf=>decide (u.y=y)&&(decide (u.v≤t)&&decide (y≤t)))=M.fulJ us y t:=by
 unfold Mx.fulJ
 rw[Rat.add_comm]
 congr 2
 funext u
 rw[Bool.eq_iff_iff]
 simp only[Bool.and_eq_true,decide_eq_true_eq]
 omega
theorem QE {M:Mx}{N:Nat}{rs:List Rf}{us:List Uf}(hOk:M.Ok N) (hJ:JOk rs us){y t:Int}(h1:0≤y) (h2:y<(N:Int)):aE true Tryz.prog 106 [] [.agg (((Fr4.of M.cap).tr false++[.v (.int .i64 ((M.b:Nat):Int)),.v (.int .i64 ((M.w:Nat):Int))]:List Tr).map .t),.one (.t (iN (yrs M N))),.agg (([jO false rs,jP false us]:List Tr).map .t),.one (tv (.int .i64 y)),.one (tv (.int .i64 t))] (aO (.one (tv (.bool (decide (0≤(M.fulJ us y t-M.lim y.toNat).num.sign)))))):=by
 refine bF Tryz.func106 rfl Tryz.ntmps106 rfl aA rfl fun N9 w9 c0 h0=>?_
 have h9l:=cU M N;have h9r:=hJ.rl;have h9u:=hJ.ul;have h9n:=hOk.n;have h9b:=hOk.b;have h9w:=hOk.w
 have h00:(M.ring (y.toNat))=((M.ring (y.toNat))+(cJ (us.take 0) fun u:Uf=>decide (u.y=y)&&(decide (u.v≤t)&&decide (y≤t)))):=by simp[cJ,gU,Rat.add_zero]
 refine sq ?_;refine rl ?_;refine bx 0 ?_;refine bx 1 ?_;refine o1 ?_;refine nl ?_;refine sq ?_;refine rl ?_;refine o1 ?_;refine o1 ?_
 refine WL.cast (t:=14) (u':=.int .i64 ((y.toNat:Nat):Int)) rfl (aI (by omega)) ?_
 refine o1 ?_;refine o1 ?_
 refine cR ((Fr4.of (M.ring (y.toNat))).tr false) (aQ (f:=bY) (z:=8) (o:=4) dA (eL (M:=M) (N:=N) (y:=y.toNat) (by omega)) (Nat.le_of_ble_eq_true rfl) rfl) ?_
 refine al 2 ?_;refine st ?_;refine nl ?_;refine sq ?_;refine sq ?_;refine rl ?_;refine o1 ?_;refine nl ?_;refine bl ?_
 refine lp (γ:=Nat) (fun k=>bV [(1,.one (.t (iN (yrs M N)))),(3,.one (tv (.int .i64 y))),(4,.one (tv (.int .i64 t))),(5,.one (.pt 0 0)),(7,.one (.pt 1 0)),(11,.one (.pt 2 0)),(12,.one (tv (.int .i64 ((k:Nat):Int))))]) (fun k=>[(⟨58,0,(qV M).map .t⟩:Ob),⟨42,0,[.t (jO false rs),.t (jP false us)]⟩,⟨49,0,((Fr4.of ((M.ring (y.toNat))+(cJ (us.take k) fun u:Uf=>decide (u.y=y)&&(decide (u.v≤t)&&decide (y≤t))))).tr false).map .t⟩].map some) (fun k=>k≤us.length∧True) (fun k=>us.length-k) 0 ⟨Nat.zero_le _,trivial⟩ (aG h0 [0,1,2] _ _ (by decide) ⟨rfl,rfl,rfl,rfl,rfl,rfl,rfl,trivial⟩ ⟨aT rfl,oe rfl rfl,aT (congrArg (fun q=>some (⟨49,0,((Fr4.of q).tr false).map .t⟩:Ob)) h00),rfl⟩) fun k hk=>?_
 refine sq ?_;refine sq ?_;refine rl ?_;refine o1 ?_;refine o1 ?_;refine ld ?_;refine o1 ?_;refine o1 ?_;refine nl ?_;refine bS rfl (fun h1=>?_) (fun h1=>?_)
 ·refine sk ?_;refine sq ?_;refine bl ?_
  refine md (γ:=Unit) (fun _=>bV [(1,.one (.t (iN (yrs M N)))),(3,.one (tv (.int .i64 y))),(4,.one (tv (.int .i64 t))),(5,.one (.pt 0 0)),(7,.one (.pt 1 0)),(11,.one (.pt 2 0)),(12,.one (tv (.int .i64 ((k:Nat):Int)))),(47,.one (tv (.bool (decide ((bK us (k)).y=y)&&(decide ((bK us (k)).v≤t)&&decide (y≤t))))))]) (fun _=>([⟨58,0,(qV M).map .t⟩,⟨42,0,[.t (jO false rs),.t (jP false us)]⟩,⟨49,0,((Fr4.of ((M.ring (y.toNat))+(cJ (us.take k) fun u:Uf=>decide (u.y=y)&&(decide (u.v≤t)&&decide (y≤t))))).tr false).map .t⟩]:List Ob).map some) (fun _=>True) ?_ fun _ _=>?_
  ·refine rl ?_;refine o1 ?_;refine ld ?_;(iterate 3 refine o1 ?_)
   refine cR ([.v (.int .i64 (bK us (k)).y)]) (aQ (f:=(fA false)) (z:=14) (o:=1) (eM false) (dG (us:=us) (k:=k) (by omega)) (Nat.le_of_ble_eq_true rfl) rfl) ?_
   (iterate 3 refine o1 ?_);refine WL.split (t:=33) rfl (fun h2=>?_) (fun h2=>?_)
   ·refine o1 ?_;refine ld ?_;(iterate 3 refine o1 ?_)
    refine cR ([.v (.int .i64 (bK us (k)).v)]) (aQ (f:=(fA false)) (z:=14) (o:=0) (eM false) (dG (us:=us) (k:=k) (by omega)) (Nat.le_of_ble_eq_true rfl) rfl) ?_
    (iterate 4 refine o1 ?_);refine WL.split (t:=43) rfl (fun h3=>?_) (fun h3=>?_)
    ·(iterate 4 refine o1 ?_);refine nl ?_
     exact⟨(),trivial,aG h0 [0,1,2] _ _ (by decide) ⟨rfl,rfl,rfl,rfl,rfl,rfl,rfl,eD (by simp only[decide_eq_true h1,decide_eq_true h2,decide_eq_true h3] <;> first | rfl | simp),trivial⟩ ⟨aT rfl,oe rfl rfl,oe rfl rfl,rfl⟩⟩
    (iterate 3 refine aX ?_);refine o1 ?_;refine nl ?_
    exact⟨(),trivial,aG h0 [0,1,2] _ _ (by decide) ⟨rfl,rfl,rfl,rfl,rfl,rfl,rfl,eD (by simp only[decide_eq_true h1,decide_eq_true h2,decide_eq_false h3] <;> first | rfl | simp),trivial⟩ ⟨aT rfl,oe rfl rfl,oe rfl rfl,rfl⟩⟩
   (iterate 8 refine aX ?_);refine o1 ?_;refine o1 ?_;(iterate 3 refine aX ?_);refine o1 ?_;refine nl ?_
   exact⟨(),trivial,aG h0 [0,1,2] _ _ (by decide) ⟨rfl,rfl,rfl,rfl,rfl,rfl,rfl,eD (by simp only[decide_eq_true h1,decide_eq_false h2] <;> first | rfl | simp),trivial⟩ ⟨aT rfl,oe rfl rfl,oe rfl rfl,rfl⟩⟩
  refine kJ rfl (fun h4=>?_) (fun h4=>?_)
  ·refine rd [0,1,2] (fun i=>[8].contains i) mixed ?_
   refine aJ 0 ?_;refine dv 1 ?_;refine aJ 2 ?_;refine dv 3 ?_;refine dv 4 ?_;refine dv 5 ?_
   refine cO 6 ((bK us (k)).n.tr false) (aQ (f:=(fA false)) (z:=14) (o:=2) (eM false) (dG (us:=us) (k:=k) (by omega)) (Nat.le_of_ble_eq_true rfl) rfl) ?_
   refine aF 7 rfl (lH (Qn.of (p:=((M.ring (y.toNat))+(cJ (us.take k) fun u:Uf=>decide (u.y=y)&&(decide (u.v≤t)&&decide (y≤t))))) (dE (hOk.sz_ring (y:=y.toNat) (by omega)) (kN hJ _ _))) (hJ.u _ (dW (us:=us) (k:=k) (by omega))).1.qn ((dE (hOk.sz_ring (y:=y.toNat) (by omega)) (kN hJ _ _)).mono (by omega)) ((hJ.u _ (dW (us:=us) (k:=k) (by omega))).1.2.1.mono (by omega))) qZ ⟨aB rfl,aB rfl,rfl⟩ (qF (.of (((M.ring (y.toNat))+(cJ (us.take k) fun u:Uf=>decide (u.y=y)&&(decide (u.v≤t)&&decide (y≤t))))+(bK us (k)).n.q))) ?_
   refine dst 8 ?_;refine aK ?_;refine rl ?_;refine o1 ?_;refine o1 ?_;refine WL.cast (t:=24) (u':=.int .i64 ((k+1:Nat):Int)) rfl (aI (by omega)) ?_
   refine o1 ?_;refine nl ?_
   have hst:((M.ring (y.toNat))+(cJ (us.take (k+1)) fun u:Uf=>decide (u.y=y)&&(decide (u.v≤t)&&decide (y≤t))))=(((M.ring (y.toNat))+(cJ (us.take k) fun u:Uf=>decide (u.y=y)&&(decide (u.v≤t)&&decide (y≤t))))+(bK us (k)).n.q):=by rw[yX (us:=us) (k:=k) (dl:=fun u:Uf=>decide (u.y=y)&&(decide (u.v≤t)&&decide (y≤t))) (by omega) (h4)];exact(Rat.add_assoc _ _ _).symm
   exact⟨k+1,by omega,⟨by omega,trivial⟩,aG h0 [0,1,2] _ _ (by decide) ⟨rfl,rfl,rfl,rfl,rfl,rfl,rfl,trivial⟩ ⟨aT rfl,oe rfl rfl,aT (congrArg (fun q=>some (⟨49,0,((Fr4.of q).tr false).map .t⟩:Ob)) hst.symm),rfl⟩⟩
  refine sk ?_;refine rl ?_;refine o1 ?_;refine o1 ?_;refine WL.cast (t:=24) (u':=.int .i64 ((k+1:Nat):Int)) rfl (aI (by omega)) ?_
  refine o1 ?_;refine nl ?_
  have hst:((M.ring (y.toNat))+(cJ (us.take (k+1)) fun u:Uf=>decide (u.y=y)&&(decide (u.v≤t)&&decide (y≤t))))=((M.ring (y.toNat))+(cJ (us.take k) fun u:Uf=>decide (u.y=y)&&(decide (u.v≤t)&&decide (y≤t)))):=by rw[yY (us:=us) (k:=k) (dl:=fun u:Uf=>decide (u.y=y)&&(decide (u.v≤t)&&decide (y≤t))) (by omega) (h4)]
  exact⟨k+1,by omega,⟨by omega,trivial⟩,aG h0 [0,1,2] _ _ (by decide) ⟨rfl,rfl,rfl,rfl,rfl,rfl,rfl,trivial⟩ ⟨aT rfl,oe rfl rfl,aT (congrArg (fun q=>some (⟨49,0,((Fr4.of q).tr false).map .t⟩:Ob)) hst.symm),rfl⟩⟩
 refine ex ?_;refine sq ?_;refine rd [0,1,2] (fun i=>[9].contains i) mixed ?_
 refine aJ 0 ?_;refine aJ 1 ?_;refine dv 2 ?_;refine dv 3 ?_;refine WD.cast (t:=59) (u':=.int .i64 ((y.toNat:Nat):Int)) rfl (aI (by omega)) ?_
 refine dv 4 ?_
 refine cO 5 (bY (Fr4.of (M.inc (y.toNat)),Fr4.of (M.ring (y.toNat)))) (aQ (f:=bY) (z:=8) (o:=0) dA (eL (M:=M) (N:=N) (y:=y.toNat) (by omega)) (Nat.le_of_ble_eq_true rfl) rfl) ?_
 refine aF 6 rfl (Ew (b:=.of (M.ring (y.toNat))) (Qn.of (p:=M.cap) hOk.cap) (Qn.of (p:=(M.inc (y.toNat))) (hOk.sz_inc (y:=y.toNat) (by omega))) (hOk.cap.mono (by omega)) ((hOk.sz_inc (y:=y.toNat) (by omega)).mono (by omega))) Zd ⟨aB rfl,aB rfl,rfl⟩ (qF (.of (M.cap*abv (M.inc (y.toNat))))) ?_
 refine aF 7 rfl (xL (Qn.of (p:=((M.ring (y.toNat))+(cJ (us.take k) fun u:Uf=>decide (u.y=y)&&(decide (u.v≤t)&&decide (y≤t))))) (dE (hOk.sz_ring (y:=y.toNat) (by omega)) (kN hJ _ _))) (Qn.of (p:=(M.cap*(abv (M.inc (y.toNat))))) (oZ hOk.cap (eS (hOk.sz_inc (y:=y.toNat) (by omega)) (by omega)))) ((dE (hOk.sz_ring (y:=y.toNat) (by omega)) (kN hJ _ _)).mono (by omega)) ((oZ hOk.cap (eS (hOk.sz_inc (y:=y.toNat) (by omega)) (by omega))).mono (by omega))) Jz ⟨aB rfl,aB rfl,rfl⟩ (.one (tv (.int .i64 (((M.ring (y.toNat))+(cJ (us.take k) fun u:Uf=>decide (u.y=y)&&(decide (u.v≤t)&&decide (y≤t))))-(M.cap*(abv (M.inc (y.toNat))))).num.sign))) ?_
 refine df 8 ?_;refine cN 9 (by kernel_rfl) rfl rfl aA rfl (by trivial) ?_ (fun h=>by first | rfl | cases h)
 refine aK ?_;refine rt ?_
 have hfin:(M.ring (y.toNat))+cJ (us.take k) (fun u:Uf=>decide (u.y=y)&&(decide (u.v≤t)&&decide (y≤t)))=M.fulJ us y t:=by rw[tO (by omega)];exact TV
 exact dY (.inl rfl) rfl (by rw[hfin];rfl)
namespace Mx
def bad4 (M:Mx) (rs:List Rf) (y:Nat):Bool:= !decide ((aN rs (y)).l.q=abv (-(M.inc y)))||(!decide ((aN rs (y)).m.q=M.cap*abv (M.inc y))||(decide ((aN rs (y)).e.q.num.sign<0)|| decide ((aN rs (y)).c.q.num.sign<0)))
def bad6 (M:Mx) (N:Nat) (rs:List Rf) (y:Nat):Bool:=(M.lateJ N y&&decide ((aN rs (y)).c.q.num.sign≠0))||(!M.lateJ N y&&decide ((aN rs (y)).e.q.num.sign≠0))
def bad8 (M:Mx) (rs:List Rf) (us:List Uf) (y:Nat):Bool:= !decide ((aN rs (y)).l.q=Mx.ofJ us ((y:Nat):Int)+((aN rs (y)).e.q+(aN rs (y)).c.q))||(!decide ((aN rs (y)).u.q=Mx.inJ us ((y:Nat):Int))||(decide (0<(Mx.inJ us ((y:Nat):Int)+M.ring y-(aN rs (y)).m.q).num.sign)|| !decide ((aN rs (y)).t.q=abv (M.inc y)-(Mx.inJ us ((y:Nat):Int)+M.ring y))))
end Mx
section
variable {M:Mx}{N y:Nat}{rs:List Rf}{us:List Uf}
theorem LG:decide (((y+M.w:Nat):Int)<((N:Nat):Int))=M.lateJ N y:=by
 unfold Mx.lateJ
 rw[decide_eq_decide]
 omega
theorem Vi:decide (((N:Nat):Int)≤((y+M.w:Nat):Int))= !M.lateJ N y:=by
 unfold Mx.lateJ
 rw[←decide_not,decide_eq_decide]
 omega
theorem zE:M.goodR N rs us y=(!M.bad4 rs y&&(!M.bad6 N rs y&& !M.bad8 rs us y)):=by
 unfold Mx.goodR Mx.rowJ Mx.vinJ Mx.capJ Mx.vin5 Mx.bad4 Mx.bad6 Mx.bad8
 rw[Rat.add_assoc]
 generalize decide ((aN rs y).l.q=abv (-(M.inc y)))=b1
 generalize decide ((aN rs y).m.q=M.cap*abv (M.inc y))=b2
 generalize decide ((aN rs y).e.q.num.sign<0)=b3
 generalize decide ((aN rs y).c.q.num.sign<0)=b4
 generalize M.lateJ N y=b5
 generalize decide ((aN rs y).c.q.num.sign≠0)=b6
 generalize decide ((aN rs y).e.q.num.sign≠0)=b7
 cases b1 <;> cases b2 <;> cases b3 <;> cases b4 <;> cases b5 <;> cases b6 <;> cases b7 <;> simp
theorem LH (h:M.bad4 rs y=true):M.goodR N rs us y=false:=by rw[zE,h];rfl
theorem LI (h:M.bad6 N rs y=true):M.goodR N rs us y=false:=by rw[zE,h];simp
theorem LJ (h:M.bad8 rs us y=true):M.goodR N rs us y=false:=by rw[zE,h];simp
theorem LK (h:M.bad4 rs y=false) (h2:M.bad6 N rs y=false) (h3:M.bad8 rs us y=false):M.goodR N rs us y=true:=by rw[zE,h,h2,h3];rfl
end
theorem LL {M:Mx}{N:Nat}{rs:List Rf}{us:List Uf}(hOk:M.Ok N) (hJ:JOk rs us) (hl:rs.length=N){y:Nat}(hy:y<N):aE true Tryz.prog 61 [] [.agg (((Fr4.of M.cap).tr false++[.v (.int .i64 ((M.b:Nat):Int)),.v (.int .i64 ((M.w:Nat):Int))]:List Tr).map .t),.one (.t (iN (yrs M N))),.agg (([jO false rs,jP false us]:List Tr).map .t),.one (tv (.int .i64 ((y:Nat):Int)))] (aO (.one (tv (.bool (M.goodR N rs us y))))):=by
 refine bF Tryz.func61 rfl Tryz.ntmps61 rfl aA rfl fun N9 w9 c0 h0=>?_
 have h9l:=cU M N;have h9r:=hJ.rl;have h9u:=hJ.ul;have h9n:=hOk.n;have h9b:=hOk.b;have h9w:=hOk.w
 refine sq ?_;refine rl ?_;refine bx 0 ?_;refine bx 1 ?_;refine o1 ?_;refine nl ?_;refine sq ?_;refine rl ?_;refine o1 ?_;refine ld ?_;refine o1 ?_;refine o1 ?_
 refine cR ((iC false) (aN rs (y))) (aQ (f:=(iC false)) (z:=24) (o:=0) (iX false) (fS (rs:=rs) (k:=y) (by omega)) (Nat.le_of_ble_eq_true rfl) rfl) ?_
 refine al 2 ?_;refine st ?_;refine nl ?_;refine sq ?_;refine rl ?_;refine ld ?_;refine o1 ?_
 refine ca (Vh (rs:=rs) (y:=((y:Nat):Int)) hJ) TW ⟨aB rfl,a1 rfl,rfl⟩ (qF (.of (Mx.inJ us ((y:Nat):Int)))) ?_;refine al 3 ?_;refine st ?_;refine nl ?_
 refine md (γ:=Unit) (fun _=>bV [(1,.one (.t (iN (yrs M N)))),(3,.one (tv (.int .i64 ((y:Nat):Int)))),(4,.one (.pt 0 0)),(6,.one (.pt 1 0)),(9,.one (.pt 2 0)),(10,.one (.pt 3 0)),(11,.one (.pt 4 0))]) (fun _=>([⟨58,0,(qV M).map .t⟩,⟨42,0,[.t (jO false rs),.t (jP false us)]⟩,⟨68,0,(iC false (aN rs (y))).map .t⟩,⟨49,0,((Fr4.of (Mx.inJ us ((y:Nat):Int))).tr false).map .t⟩,⟨49,0,((Fr4.of ((Mx.inJ us ((y:Nat):Int))+(M.ring (y)))).tr false).map .t⟩]:List Ob).map some) (fun _=>True) ?_ fun _ _=>?_
 ·refine rd [0,1,2,3] (fun i=>[8].contains i) mixed ?_
  refine aJ 0 ?_;refine dv 1 ?_;refine dv 2 ?_;refine dv 3 ?_;refine dv 4 ?_
  refine cO 5 ((Fr4.of (M.ring (y))).tr false) (aQ (f:=bY) (z:=8) (o:=4) dA (eL (M:=M) (N:=N) (y:=y) (by omega)) (Nat.le_of_ble_eq_true rfl) rfl) ?_
  refine WO.two (i:=6) (j:=7) (by kernel_rfl) ?_ ?_
  ·refine dC 6 rfl (lH (Qn.of (p:=(Mx.inJ us ((y:Nat):Int))) (dB hJ _)) (Qn.of (p:=(M.ring (y))) (hOk.sz_ring (y:=y) (by omega))) ((dB hJ _).mono (by omega)) ((hOk.sz_ring (y:=y) (by omega)).mono (by omega))) qZ ⟨aB rfl,aB rfl,rfl⟩ (qF (.of ((Mx.inJ us ((y:Nat):Int))+(M.ring (y))))) ?_
   refine eO (key:=4) 7 (by kernel_rfl) rfl rfl aA rfl ⟨rfl,rfl,rfl,rfl,trivial⟩ ?_
   refine dst 8 ?_;refine aK ?_
   exact⟨(),trivial,aG h0 [0,1,2,3,4] _ _ (by decide) ⟨rfl,rfl,rfl,rfl,rfl,rfl,rfl,trivial⟩ ⟨aT rfl,oe rfl rfl,aT rfl,oe rfl rfl,oe rfl rfl,rfl⟩⟩
  refine bM (key:=4) 7 rfl rfl aA rfl ⟨rfl,rfl,rfl,rfl,trivial⟩ ?_
  refine aF 6 rfl (lH (Qn.of (p:=(Mx.inJ us ((y:Nat):Int))) (dB hJ _)) (Qn.of (p:=(M.ring (y))) (hOk.sz_ring (y:=y) (by omega))) ((dB hJ _).mono (by omega)) ((hOk.sz_ring (y:=y) (by omega)).mono (by omega))) qZ ⟨aB rfl,aB rfl,rfl⟩ (qF (.of ((Mx.inJ us ((y:Nat):Int))+(M.ring (y))))) ?_
  refine dst 8 ?_;refine aK ?_
  exact⟨(),trivial,aG h0 [0,1,2,3,4] _ _ (by decide) ⟨rfl,rfl,rfl,rfl,rfl,rfl,rfl,trivial⟩ ⟨aT rfl,oe rfl rfl,aT rfl,oe rfl rfl,oe rfl rfl,rfl⟩⟩
 refine sq ?_
 refine md (γ:=Unit) (fun _=>bV [(1,.one (.t (iN (yrs M N)))),(3,.one (tv (.int .i64 ((y:Nat):Int)))),(4,.one (.pt 0 0)),(6,.one (.pt 1 0)),(9,.one (.pt 2 0)),(10,.one (.pt 3 0)),(11,.one (.pt 4 0)),(61,.one (tv (.bool (M.bad4 rs y))))]) (fun _=>([⟨58,0,(qV M).map .t⟩,⟨42,0,[.t (jO false rs),.t (jP false us)]⟩,⟨68,0,(iC false (aN rs (y))).map .t⟩,⟨49,0,((Fr4.of (Mx.inJ us ((y:Nat):Int))).tr false).map .t⟩,⟨49,0,((Fr4.of ((Mx.inJ us ((y:Nat):Int))+(M.ring (y)))).tr false).map .t⟩]:List Ob).map some) (fun _=>True) ?_ fun _ _=>?_
 ·refine rd [0,1,2,3,4] (fun i=>[].contains i) mixed ?_
  refine dv 0 ?_;refine aJ 1 ?_;refine dv 2 ?_;refine dv 3 ?_;refine dv 4 ?_;refine dv 5 ?_
  refine cO 6 ((Fr4.of (M.inc (y))).tr false) (aQ (f:=bY) (z:=8) (o:=0) dA (eL (M:=M) (N:=N) (y:=y) (by omega)) (Nat.le_of_ble_eq_true rfl) rfl) ?_
  refine aF 7 rfl (Vd (Qn.of (p:=(M.inc (y))) (hOk.sz_inc (y:=y) (by omega)))) KS ⟨aB rfl,rfl⟩ (qF (.of (-(M.inc (y))))) ?_
  refine aF 8 rfl (Eu (Qn.of (p:=(-(M.inc (y)))) (qE (hOk.sz_inc (y:=y) (by omega))))) Zc ⟨aB rfl,rfl⟩ (qF (.of (abv (-(M.inc (y)))))) ?_
  refine aF 9 rfl (tT (hJ.r _ (aS (rs:=rs) (k:=y) (by omega))).1.qn (Qn.of (p:=(abv (-(M.inc (y))))) (eS (qE (hOk.sz_inc (y:=y) (by omega))) (by omega))) ((hJ.r _ (aS (rs:=rs) (k:=y) (by omega))).1.2.1.mono (by omega)) ((eS (qE (hOk.sz_inc (y:=y) (by omega))) (by omega)).mono (by omega))) Ke ⟨aB rfl,aB rfl,rfl⟩ (.one (tv (.bool (decide ((aN rs (y)).l.q=(abv (-(M.inc (y))))))))) ?_
  refine WD.split (t:=36) rfl rfl (fun h1=>?_) (fun h1=>?_)
  ·refine df 10 ?_;refine df 11 ?_;refine dv 12 ?_;refine aJ 13 ?_;refine aJ 14 ?_;refine dv 15 ?_;refine dv 16 ?_;refine dv 17 ?_
   refine cO 18 (bY (Fr4.of (M.inc (y)),Fr4.of (M.ring (y)))) (aQ (f:=bY) (z:=8) (o:=0) dA (eL (M:=M) (N:=N) (y:=y) (by omega)) (Nat.le_of_ble_eq_true rfl) rfl) ?_
   refine aF 19 rfl (Ew (b:=.of (M.ring (y))) (Qn.of (p:=M.cap) hOk.cap) (Qn.of (p:=(M.inc (y))) (hOk.sz_inc (y:=y) (by omega))) (hOk.cap.mono (by omega)) ((hOk.sz_inc (y:=y) (by omega)).mono (by omega))) Zd ⟨aB rfl,aB rfl,rfl⟩ (qF (.of (M.cap*abv (M.inc (y))))) ?_
   refine aF 20 rfl (tT (hJ.r _ (aS (rs:=rs) (k:=y) (by omega))).2.1.qn (Qn.of (p:=(M.cap*(abv (M.inc (y))))) (oZ hOk.cap (eS (hOk.sz_inc (y:=y) (by omega)) (by omega)))) ((hJ.r _ (aS (rs:=rs) (k:=y) (by omega))).2.1.2.1.mono (by omega)) ((oZ hOk.cap (eS (hOk.sz_inc (y:=y) (by omega)) (by omega))).mono (by omega))) Ke ⟨aB rfl,aB rfl,rfl⟩ (.one (tv (.bool (decide ((aN rs (y)).m.q=(M.cap*(abv (M.inc (y))))))))) ?_
   refine WD.split (t:=47) rfl rfl (fun h2=>?_) (fun h2=>?_)
   ·refine df 21 ?_;refine df 22 ?_;refine df 23 ?_;refine dv 24 ?_;refine aJ 25 ?_
    refine aF 26 rfl (gS (hJ.r _ (aS (rs:=rs) (k:=y) (by omega))).2.2.2.2.1.qn) nN ⟨aB rfl,rfl⟩ (.one (tv (.int .i64 (aN rs (y)).e.q.num.sign))) ?_
    refine df 27 ?_;refine df 28 ?_;refine df 29 ?_;refine WD.split (t:=56) rfl rfl (fun h3=>?_) (fun h3=>?_)
    ·refine aC 30 ?_;refine aC 31 ?_;refine aC 32 ?_;refine aC 33 ?_;refine df 34 ?_;refine aK ?_
     exact⟨(),trivial,aG h0 [0,1,2,3,4] _ _ (by decide) ⟨rfl,rfl,rfl,rfl,rfl,rfl,rfl,eD (by simp only[Mx.bad4,decide_eq_true h1,decide_eq_true h2,decide_eq_true h3] <;> first | rfl | simp),trivial⟩ ⟨aT rfl,oe rfl rfl,aT rfl,oe rfl rfl,oe rfl rfl,rfl⟩⟩
    refine dv 30 ?_;refine aJ 31 ?_
    refine aF 32 rfl (gS (hJ.r _ (aS (rs:=rs) (k:=y) (by omega))).2.2.2.2.2.qn) nN ⟨aB rfl,rfl⟩ (.one (tv (.int .i64 (aN rs (y)).c.q.num.sign))) ?_
    refine df 33 ?_;refine df 34 ?_;refine aK ?_
    exact⟨(),trivial,aG h0 [0,1,2,3,4] _ _ (by decide) ⟨rfl,rfl,rfl,rfl,rfl,rfl,rfl,eD (by simp only[Mx.bad4,decide_eq_true h1,decide_eq_true h2,decide_eq_false h3] <;> first | rfl | simp),trivial⟩ ⟨aT rfl,oe rfl rfl,aT rfl,oe rfl rfl,oe rfl rfl,rfl⟩⟩
   refine df 21 ?_;refine df 22 ?_;refine df 23 ?_;refine aC 24 ?_;refine aC 25 ?_;refine aC 26 ?_;refine aC 27 ?_;refine df 28 ?_;refine df 29 ?_;refine aC 30 ?_;refine aC 31 ?_
   refine aC 32 ?_;refine aC 33 ?_;refine df 34 ?_;refine aK ?_
   exact⟨(),trivial,aG h0 [0,1,2,3,4] _ _ (by decide) ⟨rfl,rfl,rfl,rfl,rfl,rfl,rfl,eD (by simp only[Mx.bad4,decide_eq_true h1,decide_eq_false h2] <;> first | rfl | simp),trivial⟩ ⟨aT rfl,oe rfl rfl,aT rfl,oe rfl rfl,oe rfl rfl,rfl⟩⟩
  refine df 10 ?_;refine df 11 ?_;refine aC 12 ?_;refine aC 13 ?_;refine aC 14 ?_;refine aC 15 ?_;refine aC 16 ?_;refine aC 17 ?_;refine aC 18 ?_;refine aC 19 ?_;refine aC 20 ?_
  refine aC 21 ?_;refine df 22 ?_;refine df 23 ?_;refine aC 24 ?_;refine aC 25 ?_;refine aC 26 ?_;refine aC 27 ?_;refine df 28 ?_;refine df 29 ?_;refine aC 30 ?_;refine aC 31 ?_
  refine aC 32 ?_;refine aC 33 ?_;refine df 34 ?_;refine aK ?_
  exact⟨(),trivial,aG h0 [0,1,2,3,4] _ _ (by decide) ⟨rfl,rfl,rfl,rfl,rfl,rfl,rfl,eD (by simp only[Mx.bad4,decide_eq_false h1] <;> first | rfl | simp),trivial⟩ ⟨aT rfl,oe rfl rfl,aT rfl,oe rfl rfl,oe rfl rfl,rfl⟩⟩
 refine kJ rfl (fun h4=>?_) (fun h4=>?_)
 ·refine sq ?_;refine rl ?_;refine o1 ?_;refine nl ?_;refine rt ?_;exact dY (.inl rfl) rfl ((LH h4).symm)
 refine sk ?_;refine sq ?_
 refine md (γ:=Unit) (fun _=>bV [(1,.one (.t (iN (yrs M N)))),(3,.one (tv (.int .i64 ((y:Nat):Int)))),(6,.one (.pt 0 0)),(9,.one (.pt 1 0)),(10,.one (.pt 2 0)),(11,.one (.pt 3 0)),(89,.one (tv (.bool (M.bad6 N rs y))))]) (fun _=>([⟨42,0,[.t (jO false rs),.t (jP false us)]⟩,⟨68,0,(iC false (aN rs (y))).map .t⟩,⟨49,0,((Fr4.of (Mx.inJ us ((y:Nat):Int))).tr false).map .t⟩,⟨49,0,((Fr4.of ((Mx.inJ us ((y:Nat):Int))+(M.ring (y)))).tr false).map .t⟩]:List Ob).map some) (fun _=>True) ?_ fun _ _=>?_
 ·refine rl ?_;refine o1 ?_;refine o1 ?_;refine ld ?_;refine o1 ?_;refine WL.cast (t:=65) (u':=.int .i64 ((y+M.w:Nat):Int)) rfl (aI (by omega)) ?_
  refine o1 ?_;refine o1 ?_;refine WL.cast (t:=67) (u':=.int .i64 ((N:Nat):Int)) rfl (aI (by rw[cU])) ?_
  refine o1 ?_;refine WL.cast (t:=68) (u':=.bool (M.lateJ N y)) rfl (congrArg Value.bool LG) ?_;refine o1 ?_;refine WL.splitb (t:=69) rfl (fun h5=>?_) (fun h5=>?_)
  ·refine o1 ?_;refine ld ?_;refine ca (gS (hJ.r _ (aS (rs:=rs) (k:=y) (by omega))).2.2.2.2.2.qn) nN ⟨aB rfl,rfl⟩ (.one (tv (.int .i64 (aN rs (y)).c.q.num.sign))) ?_
   (iterate 3 refine o1 ?_);refine WL.split (t:=75) rfl (fun h6=>?_) (fun h6=>?_)
   ·(iterate 13 refine aX ?_);refine o1 ?_;refine nl ?_
    exact⟨(),trivial,aG h0 [1,2,3,4] _ _ (by decide) ⟨rfl,rfl,rfl,rfl,rfl,rfl,eD (by simp only[Mx.bad6,h4,h5,decide_eq_true h6] <;> first | rfl | simp),trivial⟩ ⟨oe rfl rfl,aT rfl,oe rfl rfl,oe rfl rfl,rfl⟩⟩
   refine o1 ?_;refine o1 ?_;refine ld ?_;refine o1 ?_;refine WL.cast (t:=79) (u':=.int .i64 ((y+M.w:Nat):Int)) rfl (aI (by omega)) ?_
   refine o1 ?_;refine o1 ?_;refine WL.cast (t:=81) (u':=.int .i64 ((N:Nat):Int)) rfl (aI (by rw[cU])) ?_
   refine o1 ?_;refine WL.cast (t:=82) (u':=.bool (!M.lateJ N y)) rfl (congrArg Value.bool Vi) ?_;refine o1 ?_
   refine WL.cast (t:=83) (u':=.bool false) rfl (congrArg Value.bool (SO h5)) ?_;(iterate 4 refine aX ?_);refine o1 ?_;refine o1 ?_;refine nl ?_
   exact⟨(),trivial,aG h0 [1,2,3,4] _ _ (by decide) ⟨rfl,rfl,rfl,rfl,rfl,rfl,eD (by simp only[Mx.bad6,h4,h5,decide_eq_false h6] <;> first | rfl | simp),trivial⟩ ⟨oe rfl rfl,aT rfl,oe rfl rfl,oe rfl rfl,rfl⟩⟩
  (iterate 4 refine aX ?_);(iterate 4 refine o1 ?_);refine ld ?_;refine o1 ?_;refine WL.cast (t:=79) (u':=.int .i64 ((y+M.w:Nat):Int)) rfl (aI (by omega)) ?_
  refine o1 ?_;refine o1 ?_;refine WL.cast (t:=81) (u':=.int .i64 ((N:Nat):Int)) rfl (aI (by rw[cU])) ?_
  refine o1 ?_;refine WL.cast (t:=82) (u':=.bool (!M.lateJ N y)) rfl (congrArg Value.bool Vi) ?_;refine o1 ?_
  refine WL.cast (t:=83) (u':=.bool true) rfl (congrArg Value.bool (SO h5)) ?_;refine o1 ?_;refine ld ?_
  refine ca (gS (hJ.r _ (aS (rs:=rs) (k:=y) (by omega))).2.2.2.2.1.qn) nN ⟨aB rfl,rfl⟩ (.one (tv (.int .i64 (aN rs (y)).e.q.num.sign))) ?_
  (iterate 3 refine o1 ?_);refine nl ?_
  exact⟨(),trivial,aG h0 [1,2,3,4] _ _ (by decide) ⟨rfl,rfl,rfl,rfl,rfl,rfl,eD (by simp only[Mx.bad6,h4,h5] <;> first | rfl | simp),trivial⟩ ⟨oe rfl rfl,aT rfl,oe rfl rfl,oe rfl rfl,rfl⟩⟩
 refine kJ rfl (fun h7=>?_) (fun h7=>?_)
 ·refine sq ?_;refine rl ?_;refine o1 ?_;refine nl ?_;refine rt ?_;exact dY (.inl rfl) rfl ((LI h7).symm)
 refine sk ?_;refine sq ?_;refine md (γ:=Unit) (fun _=>bV [(130,.one (tv (.bool (M.bad8 rs us y))))]) (fun _=>([]:List Ob).map some) (fun _=>True) ?_ fun _ _=>?_
 ·refine rd [0,1,2,3] (fun i=>[].contains i) mixed ?_
  refine dv 0 ?_;refine aJ 1 ?_;refine aJ 2 ?_;refine dv 3 ?_;refine dv 5 ?_;refine aJ 6 ?_;refine dv 7 ?_;refine aJ 8 ?_
  refine aF 4 rfl (Kd (rs:=rs) (y:=((y:Nat):Int)) hJ) TX ⟨aB rfl,a1 rfl,rfl⟩ (qF (.of (Mx.ofJ us ((y:Nat):Int)))) ?_
  refine aF 9 rfl (lH (hJ.r _ (aS (rs:=rs) (k:=y) (by omega))).2.2.2.2.1.qn (hJ.r _ (aS (rs:=rs) (k:=y) (by omega))).2.2.2.2.2.qn ((hJ.r _ (aS (rs:=rs) (k:=y) (by omega))).2.2.2.2.1.2.1.mono (by omega)) ((hJ.r _ (aS (rs:=rs) (k:=y) (by omega))).2.2.2.2.2.2.1.mono (by omega))) qZ ⟨aB rfl,aB rfl,rfl⟩ (qF (.of ((aN rs (y)).e.q+(aN rs (y)).c.q))) ?_
  refine aF 10 rfl (lH (Qn.of (p:=(Mx.ofJ us ((y:Nat):Int))) (dB hJ _)) (Qn.of (p:=((aN rs (y)).e.q+(aN rs (y)).c.q)) (dE (hJ.r _ (aS (rs:=rs) (k:=y) (by omega))).2.2.2.2.1.2.1 (hJ.r _ (aS (rs:=rs) (k:=y) (by omega))).2.2.2.2.2.2.1)) ((dB hJ _).mono (by omega)) ((dE (hJ.r _ (aS (rs:=rs) (k:=y) (by omega))).2.2.2.2.1.2.1 (hJ.r _ (aS (rs:=rs) (k:=y) (by omega))).2.2.2.2.2.2.1).mono (by omega))) qZ ⟨aB rfl,aB rfl,rfl⟩ (qF (.of ((Mx.ofJ us ((y:Nat):Int))+((aN rs (y)).e.q+(aN rs (y)).c.q)))) ?_
  refine aF 11 rfl (tT (hJ.r _ (aS (rs:=rs) (k:=y) (by omega))).1.qn (Qn.of (p:=((Mx.ofJ us ((y:Nat):Int))+((aN rs (y)).e.q+(aN rs (y)).c.q))) (dE (dB hJ _) (dE (hJ.r _ (aS (rs:=rs) (k:=y) (by omega))).2.2.2.2.1.2.1 (hJ.r _ (aS (rs:=rs) (k:=y) (by omega))).2.2.2.2.2.2.1))) ((hJ.r _ (aS (rs:=rs) (k:=y) (by omega))).1.2.1.mono (by omega)) ((dE (dB hJ _) (dE (hJ.r _ (aS (rs:=rs) (k:=y) (by omega))).2.2.2.2.1.2.1 (hJ.r _ (aS (rs:=rs) (k:=y) (by omega))).2.2.2.2.2.2.1)).mono (by omega))) Ke ⟨aB rfl,aB rfl,rfl⟩ (.one (tv (.bool (decide ((aN rs (y)).l.q=((Mx.ofJ us ((y:Nat):Int))+((aN rs (y)).e.q+(aN rs (y)).c.q))))))) ?_
  refine WD.split (t:=101) rfl rfl (fun h8=>?_) (fun h8=>?_)
  ·refine df 12 ?_;refine df 13 ?_;refine dv 14 ?_;refine aJ 15 ?_;refine aJ 16 ?_
   refine aF 17 rfl (tT (hJ.r _ (aS (rs:=rs) (k:=y) (by omega))).2.2.1.qn (Qn.of (p:=(Mx.inJ us ((y:Nat):Int))) (dB hJ _)) ((hJ.r _ (aS (rs:=rs) (k:=y) (by omega))).2.2.1.2.1.mono (by omega)) ((dB hJ _).mono (by omega))) Ke ⟨aB rfl,aB rfl,rfl⟩ (.one (tv (.bool (decide ((aN rs (y)).u.q=(Mx.inJ us ((y:Nat):Int))))))) ?_
   refine WD.split (t:=107) rfl rfl (fun h9=>?_) (fun h9=>?_)
   ·refine df 18 ?_;refine df 19 ?_;refine df 20 ?_;refine aJ 21 ?_;refine dv 22 ?_;refine aJ 23 ?_
    refine aF 24 rfl (xL (Qn.of (p:=((Mx.inJ us ((y:Nat):Int))+(M.ring (y)))) (dE (dB hJ _) (hOk.sz_ring (y:=y) (by omega)))) (hJ.r _ (aS (rs:=rs) (k:=y) (by omega))).2.1.qn ((dE (dB hJ _) (hOk.sz_ring (y:=y) (by omega))).mono (by omega)) ((hJ.r _ (aS (rs:=rs) (k:=y) (by omega))).2.1.2.1.mono (by omega))) Jz ⟨aB rfl,aB rfl,rfl⟩ (.one (tv (.int .i64 (((Mx.inJ us ((y:Nat):Int))+(M.ring (y)))-(aN rs (y)).m.q).num.sign))) ?_
    refine df 25 ?_;refine df 26 ?_;refine df 27 ?_;refine WD.split (t:=117) rfl rfl (fun h10=>?_) (fun h10=>?_)
    ·refine aC 28 ?_;refine aC 29 ?_;refine aC 30 ?_;refine aC 31 ?_;refine aC 32 ?_;refine aC 33 ?_;refine aC 34 ?_;refine aC 36 ?_;refine aC 35 ?_;refine aC 37 ?_
     refine aC 38 ?_;refine aC 39 ?_;refine df 40 ?_;refine aK ?_
     exact⟨(),trivial,aG h0 [] _ _ (by decide) ⟨eD (by simp only[Mx.bad8,h4,h7,decide_eq_true h8,decide_eq_true h9,decide_eq_true h10] <;> first | rfl | simp),trivial⟩ rfl⟩
    refine dv 28 ?_;refine aJ 29 ?_;refine dv 30 ?_;refine dv 31 ?_;refine dv 32 ?_;refine dv 33 ?_
    refine cO 34 ((Fr4.of (M.inc (y))).tr false) (aQ (f:=bY) (z:=8) (o:=0) dA (eL (M:=M) (N:=N) (y:=y) (by omega)) (Nat.le_of_ble_eq_true rfl) rfl) ?_
    refine aJ 36 ?_;refine aF 35 rfl (Eu (Qn.of (p:=(M.inc (y))) (hOk.sz_inc (y:=y) (by omega)))) Zc ⟨aB rfl,rfl⟩ (qF (.of (abv (M.inc (y))))) ?_
    refine aF 37 rfl (Ve (Qn.of (p:=(abv (M.inc (y)))) (eS (hOk.sz_inc (y:=y) (by omega)) (by omega))) (Qn.of (p:=((Mx.inJ us ((y:Nat):Int))+(M.ring (y)))) (dE (dB hJ _) (hOk.sz_ring (y:=y) (by omega)))) ((eS (hOk.sz_inc (y:=y) (by omega)) (by omega)).mono (by omega)) ((dE (dB hJ _) (hOk.sz_ring (y:=y) (by omega))).mono (by omega))) KT ⟨aB rfl,aB rfl,rfl⟩ (qF (.of ((abv (M.inc (y)))-((Mx.inJ us ((y:Nat):Int))+(M.ring (y)))))) ?_
    refine aF 38 rfl (tT (hJ.r _ (aS (rs:=rs) (k:=y) (by omega))).2.2.2.1.qn (Qn.of (p:=((abv (M.inc (y)))-((Mx.inJ us ((y:Nat):Int))+(M.ring (y))))) (Ex (eS (hOk.sz_inc (y:=y) (by omega)) (by omega)) (dE (dB hJ _) (hOk.sz_ring (y:=y) (by omega))))) ((hJ.r _ (aS (rs:=rs) (k:=y) (by omega))).2.2.2.1.2.1.mono (by omega)) ((Ex (eS (hOk.sz_inc (y:=y) (by omega)) (by omega)) (dE (dB hJ _) (hOk.sz_ring (y:=y) (by omega)))).mono (by omega))) Ke ⟨aB rfl,aB rfl,rfl⟩ (.one (tv (.bool (decide ((aN rs (y)).t.q=((abv (M.inc (y)))-((Mx.inJ us ((y:Nat):Int))+(M.ring (y))))))))) ?_
    refine WD.split (t:=128) rfl rfl (fun h11=>?_) (fun h11=>?_)
    ·refine df 39 ?_;refine df 40 ?_;refine aK ?_
     exact⟨(),trivial,aG h0 [] _ _ (by decide) ⟨eD (by simp only[Mx.bad8,h4,h7,decide_eq_true h8,decide_eq_true h9,decide_eq_false h10,decide_eq_true h11] <;> first | rfl | simp),trivial⟩ rfl⟩
    refine df 39 ?_;refine df 40 ?_;refine aK ?_
    exact⟨(),trivial,aG h0 [] _ _ (by decide) ⟨eD (by simp only[Mx.bad8,h4,h7,decide_eq_true h8,decide_eq_true h9,decide_eq_false h10,decide_eq_false h11] <;> first | rfl | simp),trivial⟩ rfl⟩
   refine df 18 ?_;refine df 19 ?_;refine df 20 ?_;refine aC 21 ?_;refine aC 22 ?_;refine aC 23 ?_;refine aC 24 ?_;refine aC 25 ?_;refine df 26 ?_;refine df 27 ?_
   refine aC 28 ?_;refine aC 29 ?_;refine aC 30 ?_;refine aC 31 ?_;refine aC 32 ?_;refine aC 33 ?_;refine aC 34 ?_;refine aC 36 ?_;refine aC 35 ?_;refine aC 37 ?_
   refine aC 38 ?_;refine aC 39 ?_;refine df 40 ?_;refine aK ?_
   exact⟨(),trivial,aG h0 [] _ _ (by decide) ⟨eD (by simp only[Mx.bad8,h4,h7,decide_eq_true h8,decide_eq_false h9] <;> first | rfl | simp),trivial⟩ rfl⟩
  refine df 12 ?_;refine df 13 ?_;refine aC 14 ?_;refine aC 15 ?_;refine aC 16 ?_;refine aC 17 ?_;refine aC 18 ?_;refine df 19 ?_;refine df 20 ?_;refine aC 21 ?_
  refine aC 22 ?_;refine aC 23 ?_;refine aC 24 ?_;refine aC 25 ?_;refine df 26 ?_;refine df 27 ?_;refine aC 28 ?_;refine aC 29 ?_;refine aC 30 ?_;refine aC 31 ?_
  refine aC 32 ?_;refine aC 33 ?_;refine aC 34 ?_;refine aC 36 ?_;refine aC 35 ?_;refine aC 37 ?_;refine aC 38 ?_;refine aC 39 ?_;refine df 40 ?_;refine aK ?_
  exact⟨(),trivial,aG h0 [] _ _ (by decide) ⟨eD (by simp only[Mx.bad8,h4,h7,decide_eq_false h8] <;> first | rfl | simp),trivial⟩ rfl⟩
 refine kJ rfl (fun h12=>?_) (fun h12=>?_)
 ·refine sq ?_;refine rl ?_;refine o1 ?_;refine nl ?_;refine rt ?_;exact dY (.inl rfl) rfl ((LJ h12).symm)
 refine sk ?_;refine sq ?_;refine rl ?_;refine o1 ?_;refine nl ?_;refine rt ?_;exact dY (.inl rfl) rfl ((LK h4 h7 h12).symm)
theorem Zm {M:Mx}{N:Nat}{rs:List Rf}{us:List Uf}(hOk:M.Ok N) (hJ:JOk rs us) (hl:rs.length=N):aE true Tryz.prog 62 [] [.agg (((Fr4.of M.cap).tr false++[.v (.int .i64 ((M.b:Nat):Int)),.v (.int .i64 ((M.w:Nat):Int))]:List Tr).map .t),.one (.t (iN (yrs M N))),.agg (([jO false rs,jP false us]:List Tr).map .t)] (aO (.one (tv (.bool ((List.range N).all fun v=>(List.range N).all (M.greedR N rs us v)))))):=by
 refine bF Tryz.func62 rfl Tryz.ntmps62 rfl aA rfl fun N9 w9 c0 h0=>?_
 have h9l:=cU M N;have h9r:=hJ.rl;have h9u:=hJ.ul;have h9n:=hOk.n;have h9b:=hOk.b;have h9w:=hOk.w
 refine sq ?_;refine rl ?_;refine bx 0 ?_;refine bx 1 ?_;refine o1 ?_;refine nl ?_;refine sq ?_;refine sq ?_;refine rl ?_;refine o1 ?_;refine nl ?_;refine bl ?_
 refine lp (γ:=Nat) (fun k=>bV [(1,.one (.t (iN (yrs M N)))),(3,.one (.pt 0 0)),(5,.one (.pt 1 0)),(7,.one (tv (.int .i64 ((k:Nat):Int))))]) (fun k=>[(⟨58,0,(qV M).map .t⟩:Ob),⟨42,0,[.t (jO false rs),.t (jP false us)]⟩].map some) (fun k=>k≤N∧∀j,j<k→(fun v=>(List.range N).all (M.greedR N rs us v)) j=true) (fun k=>N-k) 0 ⟨Nat.zero_le _,f0⟩ (aG h0 [0,1] _ _ (by decide) ⟨rfl,rfl,rfl,rfl,trivial⟩ ⟨aT rfl,oe rfl rfl,rfl⟩) fun k hk=>?_
 refine sq ?_;refine sq ?_;refine rl ?_;(iterate 3 refine o1 ?_);refine WL.cast (t:=12) (u':=.int .i64 ((N:Nat):Int)) rfl (aI (by rw[cU])) ?_
 refine o1 ?_;refine nl ?_;refine bS rfl (fun h1=>?_) (fun h1=>?_)
 ·refine sk ?_;refine sq ?_;refine bl ?_;refine sq ?_;refine rl ?_;refine o1 ?_;refine nl ?_;refine bl ?_
  refine lp (γ:=Nat) (fun i=>bV [(1,.one (.t (iN (yrs M N)))),(3,.one (.pt 0 0)),(5,.one (.pt 1 0)),(7,.one (tv (.int .i64 ((k:Nat):Int)))),(8,.one (tv (.int .i64 ((i:Nat):Int))))]) (fun i=>[(⟨58,0,(qV M).map .t⟩:Ob),⟨42,0,[.t (jO false rs),.t (jP false us)]⟩].map some) (fun i=>i≤N∧∀j,j<i→M.greedR N rs us k j=true) (fun i=>N-i) 0 ⟨Nat.zero_le _,f0⟩ (aG h0 [0,1] _ _ (by decide) ⟨rfl,rfl,rfl,rfl,rfl,trivial⟩ ⟨aT rfl,oe rfl rfl,rfl⟩) fun i hi=>?_
  refine sq ?_;refine sq ?_;refine rl ?_;(iterate 3 refine o1 ?_);refine WL.cast (t:=18) (u':=.int .i64 ((N:Nat):Int)) rfl (aI (by rw[cU])) ?_
  refine o1 ?_;refine nl ?_;refine bS rfl (fun h2=>?_) (fun h2=>?_)
  ·refine sk ?_;refine sq ?_;refine bl ?_;refine sq ?_;refine sq ?_;refine rl ?_;refine ld ?_;(iterate 3 refine o1 ?_)
   refine ca (CS hOk hJ (v:=((k:Nat):Int)) (y:=((i:Nat):Int))) LM ⟨aB rfl,a1 rfl,a1 rfl,a1 rfl,rfl⟩ (.one (tv (.bool (M.win N ((k:Nat):Int) ((i:Nat):Int))))) ?_
   refine WL.splitb (t:=26) rfl (fun h3=>?_) (fun h3=>?_)
   ·refine o1 ?_;refine o1 ?_;refine ld ?_;refine o1 ?_;refine o1 ?_
    refine ca (QD (v:=((k:Nat):Int)) (y:=((i:Nat):Int)) hJ hl (by omega) (by omega)) QF ⟨aB rfl,a1 rfl,a1 rfl,rfl⟩ (qF (.of (Mx.remJ rs us ((k:Nat):Int) ((i:Nat):Int)))) ?_
    refine ca (gS (Qn.of (p:=(Mx.remJ rs us ((k:Nat):Int) ((i:Nat):Int))) (dE (dE (dB hJ _) (hJ.r _ (aS (rs:=rs) (k:=k) (by omega))).2.2.2.2.1.2.1) (hJ.r _ (aS (rs:=rs) (k:=k) (by omega))).2.2.2.2.2.2.1))) nN ⟨aB rfl,rfl⟩ (.one (tv (.int .i64 (Mx.remJ rs us ((k:Nat):Int) ((i:Nat):Int)).num.sign))) ?_
    refine o1 ?_;refine o1 ?_;refine nl ?_;refine bS rfl (fun h4=>?_) (fun h4=>?_)
    ·refine ex ?_;refine rl ?_;refine o1 ?_;refine o1 ?_;refine WL.cast (t:=21) (u':=.int .i64 ((i+1:Nat):Int)) rfl (aI (by omega)) ?_
     refine o1 ?_;refine nl ?_
     exact⟨i+1,by omega,⟨by omega,jQ hi.2 (by simp only[Mx.greedR,decide_eq_true h1,decide_eq_true h2,h3,decide_eq_true h4] <;> first | rfl | simp)⟩,aG h0 [0,1] _ _ (by decide) ⟨rfl,rfl,rfl,rfl,rfl,trivial⟩ ⟨aT rfl,oe rfl rfl,rfl⟩⟩
    refine sk ?_;refine sq ?_;refine sq ?_;refine rl ?_;refine ld ?_;refine o1 ?_;refine ld ?_;(iterate 4 refine o1 ?_)
    refine ca (QE hOk hJ (y:=((i:Nat):Int)) (t:=(max ((k:Nat):Int) ((i:Nat):Int))) (by omega) (by omega)) QG ⟨aB rfl,a1 rfl,aB rfl,a1 rfl,a1 rfl,rfl⟩ (.one (tv (.bool (decide (0≤(M.fulJ us ((i:Nat):Int) (max ((k:Nat):Int) ((i:Nat):Int))-M.lim i).num.sign))))) ?_
    refine WL.splitb (t:=43) rfl (fun h5=>?_) (fun h5=>?_)
    ·refine o1 ?_;refine nl ?_;refine jN rfl ?_;refine sk ?_;refine sq ?_;refine rl ?_;refine o1 ?_;refine nl ?_;refine bl ?_
     refine lp (γ:=Nat) (fun j=>bV [(1,.one (.t (iN (yrs M N)))),(3,.one (.pt 0 0)),(5,.one (.pt 1 0)),(7,.one (tv (.int .i64 ((k:Nat):Int)))),(8,.one (tv (.int .i64 ((i:Nat):Int)))),(9,.one (tv (.int .i64 ((j:Nat):Int))))]) (fun j=>[(⟨58,0,(qV M).map .t⟩:Ob),⟨42,0,[.t (jO false rs),.t (jP false us)]⟩].map some) (fun j=>j≤us.length∧∀x,x<j→Mx.gqJ ((k:Nat):Int) ((i:Nat):Int) (bK us x)=true) (fun j=>us.length-j) 0 ⟨Nat.zero_le _,f0⟩ (aG h0 [0,1] _ _ (by decide) ⟨rfl,rfl,rfl,rfl,rfl,rfl,trivial⟩ ⟨aT rfl,oe rfl rfl,rfl⟩) fun j hj=>?_
     refine sq ?_;refine sq ?_;refine rl ?_;refine o1 ?_;refine o1 ?_;refine ld ?_;refine o1 ?_;refine o1 ?_;refine nl ?_;refine bS rfl (fun h6=>?_) (fun h6=>?_)
     ·refine sk ?_;refine sq ?_;refine bl ?_
      refine md (γ:=Unit) (fun _=>bV [(1,.one (.t (iN (yrs M N)))),(3,.one (.pt 0 0)),(5,.one (.pt 1 0)),(7,.one (tv (.int .i64 ((k:Nat):Int)))),(8,.one (tv (.int .i64 ((i:Nat):Int)))),(9,.one (tv (.int .i64 ((j:Nat):Int)))),(79,.one (tv (.bool (!Mx.gqJ ((k:Nat):Int) ((i:Nat):Int) (bK us (j))))))]) (fun _=>([⟨58,0,(qV M).map .t⟩,⟨42,0,[.t (jO false rs),.t (jP false us)]⟩]:List Ob).map some) (fun _=>True) ?_ fun _ _=>?_
      ·refine rl ?_;refine o1 ?_;refine ld ?_;(iterate 3 refine o1 ?_)
       refine cR ([.v (.int .i64 (bK us (j)).y)]) (aQ (f:=(fA false)) (z:=14) (o:=1) (eM false) (dG (us:=us) (k:=j) (by omega)) (Nat.le_of_ble_eq_true rfl) rfl) ?_
       (iterate 3 refine o1 ?_);refine WL.split (t:=60) rfl (fun h7=>?_) (fun h7=>?_)
       ·refine o1 ?_;refine ld ?_;(iterate 3 refine o1 ?_)
        refine cR ([.v (.int .i64 (bK us (j)).v)]) (aQ (f:=(fA false)) (z:=14) (o:=0) (eM false) (dG (us:=us) (k:=j) (by omega)) (Nat.le_of_ble_eq_true rfl) rfl) ?_
        (iterate 4 refine o1 ?_);refine WL.split (t:=70) rfl (fun h8=>?_) (fun h8=>?_)
        ·refine o1 ?_;refine o1 ?_;refine ld ?_;(iterate 3 refine o1 ?_)
         refine cR ([.v (.int .i64 (bK us (j)).v)]) (aQ (f:=(fA false)) (z:=14) (o:=0) (eM false) (dG (us:=us) (k:=j) (by omega)) (Nat.le_of_ble_eq_true rfl) rfl) ?_
         refine o1 ?_;refine o1 ?_;refine nl ?_
         exact⟨(),trivial,aG h0 [0,1] _ _ (by decide) ⟨rfl,rfl,rfl,rfl,rfl,rfl,eD (by simp only[Mx.gqJ,decide_eq_true h1,decide_eq_true h2,h3,decide_eq_false h4,h5,decide_eq_true h6,decide_eq_true h7,decide_eq_true h8] <;> first | rfl | simp),trivial⟩ ⟨aT rfl,oe rfl rfl,rfl⟩⟩
        (iterate 8 refine aX ?_);refine o1 ?_;refine nl ?_
        exact⟨(),trivial,aG h0 [0,1] _ _ (by decide) ⟨rfl,rfl,rfl,rfl,rfl,rfl,eD (by simp only[Mx.gqJ,decide_eq_true h1,decide_eq_true h2,h3,decide_eq_false h4,h5,decide_eq_true h6,decide_eq_true h7,decide_eq_false h8] <;> first | rfl | simp),trivial⟩ ⟨aT rfl,oe rfl rfl,rfl⟩⟩
       (iterate 8 refine aX ?_);refine o1 ?_;refine o1 ?_;(iterate 8 refine aX ?_);refine o1 ?_;refine nl ?_
       exact⟨(),trivial,aG h0 [0,1] _ _ (by decide) ⟨rfl,rfl,rfl,rfl,rfl,rfl,eD (by simp only[Mx.gqJ,decide_eq_true h1,decide_eq_true h2,h3,decide_eq_false h4,h5,decide_eq_true h6,decide_eq_false h7] <;> first | rfl | simp),trivial⟩ ⟨aT rfl,oe rfl rfl,rfl⟩⟩
      refine kJ rfl (fun h9=>?_) (fun h9=>?_)
      ·refine sq ?_;refine rl ?_;refine o1 ?_;refine nl ?_;refine rt ?_
       exact dY (.inl rfl) rfl ((jT (k:=k) (by omega) (jT (k:=i) (by omega) (by simp only[Mx.greedR,Nw (k:=j) (by omega) (Vf h9),h3,decide_eq_false h4,h5] <;> first | rfl | simp))).symm)
      refine sk ?_;refine rl ?_;refine o1 ?_;refine o1 ?_;refine WL.cast (t:=51) (u':=.int .i64 ((j+1:Nat):Int)) rfl (aI (by omega)) ?_
      refine o1 ?_;refine nl ?_
      exact⟨j+1,by omega,⟨by omega,jQ (f:=fun x=>Mx.gqJ ((k:Nat):Int) ((i:Nat):Int) (bK us x)) hj.2 (Ka h9)⟩,aG h0 [0,1] _ _ (by decide) ⟨rfl,rfl,rfl,rfl,rfl,rfl,trivial⟩ ⟨aT rfl,oe rfl rfl,rfl⟩⟩
     refine ex ?_;refine rl ?_;refine o1 ?_;refine o1 ?_;refine WL.cast (t:=21) (u':=.int .i64 ((i+1:Nat):Int)) rfl (aI (by omega)) ?_
     refine o1 ?_;refine nl ?_
     exact⟨i+1,by omega,⟨by omega,jQ hi.2 (by simp only[Mx.greedR,decide_eq_true h1,decide_eq_true h2,h3,decide_eq_false h4,h5,decide_eq_false h6,Bd (by omega) hj.2] <;> first | rfl | simp)⟩,aG h0 [0,1] _ _ (by decide) ⟨rfl,rfl,rfl,rfl,rfl,trivial⟩ ⟨aT rfl,oe rfl rfl,rfl⟩⟩
    refine o1 ?_;refine nl ?_;refine fY rfl ?_;refine sq ?_;refine rl ?_;refine o1 ?_;refine nl ?_;refine rt ?_
    exact dY (.inl rfl) rfl ((jT (k:=k) (by omega) (jT (k:=i) (by omega) (by simp only[Mx.greedR,decide_eq_true h1,decide_eq_true h2,h3,decide_eq_false h4,h5] <;> first | rfl | simp))).symm)
   refine o1 ?_;refine o1 ?_;(iterate 6 refine aX ?_);refine o1 ?_;refine nl ?_;refine fY rfl ?_;refine ex ?_;refine rl ?_;refine o1 ?_;refine o1 ?_
   refine WL.cast (t:=21) (u':=.int .i64 ((i+1:Nat):Int)) rfl (aI (by omega)) ?_
   refine o1 ?_;refine nl ?_
   exact⟨i+1,by omega,⟨by omega,jQ hi.2 (by simp only[Mx.greedR,decide_eq_true h1,decide_eq_true h2,h3] <;> first | rfl | simp)⟩,aG h0 [0,1] _ _ (by decide) ⟨rfl,rfl,rfl,rfl,rfl,trivial⟩ ⟨aT rfl,oe rfl rfl,rfl⟩⟩
  refine ex ?_;refine rl ?_;refine o1 ?_;refine o1 ?_;refine WL.cast (t:=15) (u':=.int .i64 ((k+1:Nat):Int)) rfl (aI (by omega)) ?_
  refine o1 ?_;refine nl ?_
  exact⟨k+1,by omega,⟨by omega,jQ hk.2 (lJ (k:=i) (by omega) hi.2)⟩,aG h0 [0,1] _ _ (by decide) ⟨rfl,rfl,rfl,rfl,trivial⟩ ⟨aT rfl,oe rfl rfl,rfl⟩⟩
 refine ex ?_;refine sq ?_;refine rl ?_;refine o1 ?_;refine nl ?_;refine rt ?_;exact dY (.inl rfl) rfl ((lJ (k:=k) (by omega) hk.2).symm)
theorem LN {c:Fr4}{bk fw:Int}{ys:List (Fr4×Fr4)}(hs:Sm c ys) (h:dD c bk fw ys=0):aE true Tryz.prog 40 [] [.agg ((c.tr false++[.v (.int .i64 bk),.v (.int .i64 fw)]:List Tr).map .t),.one (.t (iN ys))] (aO (.one (tv (.int .i64 0)))):=by
 have h9:=CM (bk:=bk) (fw:=fw) hs
 rwa[h]at h9
theorem Zo {M:Mx}{N:Nat}{rs:List Rf}{us:List Uf}(hOk:M.Ok N) (hJ:JOk rs us) (hsm:Sm (Fr4.of M.cap) (yrs M N)) (hm:dD (Fr4.of M.cap) ((M.b:Nat):Int) ((M.w:Nat):Int) (yrs M N)=0):aE true Tryz.prog 25 [] [.agg (((Fr4.of M.cap).tr false++[.v (.int .i64 ((M.b:Nat):Int)),.v (.int .i64 ((M.w:Nat):Int))]:List Tr).map .t),.one (.t (iN (yrs M N))),.agg (([jO false rs,jP false us]:List Tr).map .t)] (aO (.one (tv (.int .i64 (if M.judgeR N rs us=true then 0 else 270))))):=by
 refine bF Tryz.func25 rfl Tryz.ntmps25 rfl aA rfl fun N9 w9 c0 h0=>?_
 have h9l:=cU M N;have h9r:=hJ.rl;have h9u:=hJ.ul;have h9n:=hOk.n;have h9b:=hOk.b;have h9w:=hOk.w
 refine sq ?_;refine rl ?_;refine bx 0 ?_;refine bx 1 ?_;refine o1 ?_;refine nl ?_;refine sq ?_;refine rl ?_;refine ld ?_;refine o1 ?_
 refine ca (LN hsm hm) LO ⟨aB rfl,a1 rfl,rfl⟩ (.one (tv (.int .i64 0))) ?_;refine o1 ?_;refine nl ?_;refine sq ?_;refine sq ?_;refine rl ?_;refine o1 ?_;refine o1 ?_;refine nl ?_
 refine bS rfl (fun h1=>?_) (fun h1=>?_)
 ·exact absurd rfl h1
 refine sk ?_;refine sq ?_;refine sq ?_;refine rl ?_;refine o1 ?_;refine ld ?_;(iterate 3 refine o1 ?_)
 refine WL.cast (t:=21) (u':=.int .i64 ((N:Nat):Int)) rfl (aI (by rw[cU])) ?_
 refine o1 ?_;refine nl ?_;refine bS rfl (fun h2=>?_) (fun h2=>?_)
 ·refine sq ?_;refine rl ?_;refine o1 ?_;refine nl ?_;refine rt ?_
  exact en (.inl rfl) rfl (aP (bL _)) (by decide) (fun _=>trivial) (congrArg (fun z=>FV.one (tv (.int .i64 z))) (by rw[KG (by omega)];rfl))
 refine sk ?_;refine sq ?_;refine sq ?_;have hl:rs.length=N:=by omega
 refine rl ?_;refine o1 ?_;refine nl ?_;refine bl ?_
 refine lp (γ:=Nat) (fun k=>bV [(1,.one (.t (iN (yrs M N)))),(3,.one (.pt 0 0)),(5,.one (.pt 1 0)),(8,.one (tv (.int .i64 ((k:Nat):Int))))]) (fun k=>[(⟨58,0,(qV M).map .t⟩:Ob),⟨42,0,[.t (jO false rs),.t (jP false us)]⟩].map some) (fun k=>k≤us.length∧∀x,x<k→M.useJ N (bK us x)=true) (fun k=>us.length-k) 0 ⟨Nat.zero_le _,f0⟩ (aG h0 [0,1] _ _ (by decide) ⟨rfl,rfl,rfl,rfl,trivial⟩ ⟨aT rfl,oe rfl rfl,rfl⟩) fun k hk=>?_
 refine sq ?_;refine sq ?_;refine rl ?_;refine o1 ?_;refine o1 ?_;refine ld ?_;refine o1 ?_;refine o1 ?_;refine nl ?_;refine bS rfl (fun h3=>?_) (fun h3=>?_)
 ·refine sk ?_;refine sq ?_;refine bl ?_;refine sq ?_;refine rl ?_;refine o1 ?_;refine ld ?_;refine o1 ?_;refine o1 ?_
  refine cR ((fA false) (bK us (k))) (aQ (f:=(fA false)) (z:=14) (o:=0) (eM false) (dG (us:=us) (k:=k) (by omega)) (Nat.le_of_ble_eq_true rfl) rfl) ?_
  refine al 2 ?_;refine st ?_;refine nl ?_
  refine md (γ:=Unit) (fun _=>bV [(1,.one (.t (iN (yrs M N)))),(3,.one (.pt 0 0)),(5,.one (.pt 1 0)),(8,.one (tv (.int .i64 ((k:Nat):Int)))),(60,.one (tv (.bool (!M.useJ N (bK us (k))))))]) (fun _=>([⟨58,0,(qV M).map .t⟩,⟨42,0,[.t (jO false rs),.t (jP false us)]⟩]:List Ob).map some) (fun _=>True) ?_ fun _ _=>?_
  ·refine rl ?_;refine ld ?_;refine o1 ?_;refine o1 ?_;refine ld ?_;refine o1 ?_;refine ld ?_
   refine ca (CS hOk hJ (v:=(bK us (k)).v) (y:=(bK us (k)).y)) LM ⟨aB rfl,a1 rfl,a1 rfl,a1 rfl,rfl⟩ (.one (tv (.bool (M.win N (bK us (k)).v (bK us (k)).y)))) ?_
   refine WL.splitb (t:=41) rfl (fun h4=>?_) (fun h4=>?_)
   ·(iterate 3 refine o1 ?_);refine ld ?_
    refine ca (gS (hJ.u _ (dW (us:=us) (k:=k) (by omega))).1.qn) nN ⟨aB rfl,rfl⟩ (.one (tv (.int .i64 (bK us (k)).n.q.num.sign))) ?_
    (iterate 3 refine o1 ?_);refine WL.split (t:=49) rfl (fun h5=>?_) (fun h5=>?_)
    ·(iterate 4 refine aX ?_);refine o1 ?_;refine o1 ?_;(iterate 4 refine aX ?_);refine o1 ?_;refine nl ?_
     exact⟨(),trivial,aG h0 [0,1] _ _ (by decide) ⟨rfl,rfl,rfl,rfl,eD (by simp only[Mx.useJ,decide_eq_false h1,decide_eq_false h2,decide_eq_true h3,h4,decide_eq_true h5] <;> first | rfl | simp),trivial⟩ ⟨aT rfl,oe rfl rfl,rfl⟩⟩
    refine o1 ?_;refine ld ?_;refine ca (gS (hJ.u _ (dW (us:=us) (k:=k) (by omega))).2.1.qn) nN ⟨aB rfl,rfl⟩ (.one (tv (.int .i64 (bK us (k)).p.q.num.sign))) ?_
    (iterate 3 refine o1 ?_);refine WL.split (t:=55) rfl (fun h6=>?_) (fun h6=>?_)
    ·(iterate 4 refine aX ?_);refine o1 ?_;refine nl ?_
     exact⟨(),trivial,aG h0 [0,1] _ _ (by decide) ⟨rfl,rfl,rfl,rfl,eD (by simp only[Mx.useJ,decide_eq_false h1,decide_eq_false h2,decide_eq_true h3,h4,decide_eq_false h5,decide_eq_true h6] <;> first | rfl | simp),trivial⟩ ⟨aT rfl,oe rfl rfl,rfl⟩⟩
    refine o1 ?_;refine ld ?_;refine ca (gS (hJ.u _ (dW (us:=us) (k:=k) (by omega))).2.2.qn) nN ⟨aB rfl,rfl⟩ (.one (tv (.int .i64 (bK us (k)).q.q.num.sign))) ?_
    refine o1 ?_;refine o1 ?_;refine nl ?_
    exact⟨(),trivial,aG h0 [0,1] _ _ (by decide) ⟨rfl,rfl,rfl,rfl,eD (by simp only[Mx.useJ,decide_eq_false h1,decide_eq_false h2,decide_eq_true h3,h4,decide_eq_false h5,decide_eq_false h6] <;> first | rfl | simp),trivial⟩ ⟨aT rfl,oe rfl rfl,rfl⟩⟩
   refine o1 ?_;refine o1 ?_;(iterate 4 refine aX ?_);refine o1 ?_;refine o1 ?_;(iterate 4 refine aX ?_);refine o1 ?_;refine o1 ?_;(iterate 4 refine aX ?_);refine o1 ?_
   refine nl ?_
   exact⟨(),trivial,aG h0 [0,1] _ _ (by decide) ⟨rfl,rfl,rfl,rfl,eD (by simp only[Mx.useJ,decide_eq_false h1,decide_eq_false h2,decide_eq_true h3,h4] <;> first | rfl | simp),trivial⟩ ⟨aT rfl,oe rfl rfl,rfl⟩⟩
  refine kJ rfl (fun h7=>?_) (fun h7=>?_)
  ·refine sq ?_;refine rl ?_;refine o1 ?_;refine nl ?_;refine rt ?_
   exact en (.inl rfl) rfl (aP (bL _)) (by decide) (fun _=>trivial) (congrArg (fun z=>FV.one (tv (.int .i64 z))) (by rw[KH (Nw (k:=k) (by omega) (Vf h7))];rfl))
  refine sk ?_;refine rl ?_;refine o1 ?_;refine o1 ?_;refine WL.cast (t:=29) (u':=.int .i64 ((k+1:Nat):Int)) rfl (aI (by omega)) ?_
  refine o1 ?_;refine nl ?_
  exact⟨k+1,by omega,⟨by omega,jQ (f:=fun x=>M.useJ N (bK us x)) hk.2 (Ka h7)⟩,aG h0 [0,1] _ _ (by decide) ⟨rfl,rfl,rfl,rfl,trivial⟩ ⟨aT rfl,oe rfl rfl,rfl⟩⟩
 refine ex ?_;refine sq ?_;refine sq ?_;refine rl ?_;refine o1 ?_;refine nl ?_;refine bl ?_
 refine lp (γ:=Nat) (fun i=>bV [(1,.one (.t (iN (yrs M N)))),(3,.one (.pt 0 0)),(5,.one (.pt 1 0)),(10,.one (tv (.int .i64 ((i:Nat):Int))))]) (fun i=>[(⟨58,0,(qV M).map .t⟩:Ob),⟨42,0,[.t (jO false rs),.t (jP false us)]⟩].map some) (fun i=>i≤N∧∀j,j<i→M.goodR N rs us j=true) (fun i=>N-i) 0 ⟨Nat.zero_le _,f0⟩ (aG h0 [0,1] _ _ (by decide) ⟨rfl,rfl,rfl,rfl,trivial⟩ ⟨aT rfl,oe rfl rfl,rfl⟩) fun i hi=>?_
 refine sq ?_;refine sq ?_;refine rl ?_;(iterate 3 refine o1 ?_);refine WL.cast (t:=63) (u':=.int .i64 ((N:Nat):Int)) rfl (aI (by rw[cU])) ?_
 refine o1 ?_;refine nl ?_;refine bS rfl (fun h8=>?_) (fun h8=>?_)
 ·refine sk ?_;refine sq ?_;refine bl ?_;refine sq ?_;refine rl ?_;refine ld ?_;refine o1 ?_;refine ld ?_;refine o1 ?_
  refine ca (LL hOk hJ hl (y:=i) (by omega)) TY ⟨aB rfl,a1 rfl,aB rfl,a1 rfl,rfl⟩ (.one (tv (.bool (M.goodR N rs us i)))) ?_
  refine WL.splitb (t:=71) rfl (fun h9=>?_) (fun h9=>?_)
  ·refine o1 ?_;refine nl ?_;refine jN rfl ?_;refine sk ?_;refine rl ?_;refine o1 ?_;refine o1 ?_
   refine WL.cast (t:=66) (u':=.int .i64 ((i+1:Nat):Int)) rfl (aI (by omega)) ?_
   refine o1 ?_;refine nl ?_;exact⟨i+1,by omega,⟨by omega,jQ hi.2 h9⟩,aG h0 [0,1] _ _ (by decide) ⟨rfl,rfl,rfl,rfl,trivial⟩ ⟨aT rfl,oe rfl rfl,rfl⟩⟩
  refine o1 ?_;refine nl ?_;refine fY rfl ?_;refine sq ?_;refine rl ?_;refine o1 ?_;refine nl ?_;refine rt ?_
  exact en (.inl rfl) rfl (aP (bL _)) (by decide) (fun _=>trivial) (congrArg (fun z=>FV.one (tv (.int .i64 z))) (by rw[EY (jT (k:=i) (by omega) h9)];rfl))
 refine ex ?_;refine sq ?_;refine sq ?_;refine rl ?_;refine ld ?_;refine o1 ?_;refine ld ?_
 refine ca (Zm hOk hJ hl) TZ ⟨aB rfl,a1 rfl,aB rfl,rfl⟩ (.one (tv (.bool ((List.range N).all fun v=>(List.range N).all (M.greedR N rs us v))))) ?_
 refine WL.splitb (t:=76) rfl (fun h10=>?_) (fun h10=>?_)
 ·refine o1 ?_;refine nl ?_;refine jN rfl ?_;refine sk ?_;refine sq ?_;refine rl ?_;refine o1 ?_;refine nl ?_;refine rt ?_
  exact en (.inl rfl) rfl (aP (bL _)) (by decide) (fun _=>trivial) (congrArg (fun z=>FV.one (tv (.int .i64 z))) (by rw[PI hl (Bd (k:=k) (by omega) hk.2) (lJ (k:=i) (by omega) hi.2) h10];rfl))
 refine o1 ?_;refine nl ?_;refine fY rfl ?_;refine sq ?_;refine rl ?_;refine o1 ?_;refine nl ?_;refine rt ?_
 exact en (.inl rfl) rfl (aP (bL _)) (by decide) (fun _=>trivial) (congrArg (fun z=>FV.one (tv (.int .i64 z))) (by rw[Yp h10];rfl))
theorem Zp {c:Fr4}{bk fw:Int}{ys:List (Fr4×Fr4)}{rs:List Rf}{us:List Uf}(hs:Sm c ys) (hm:¬dD c bk fw ys=0):aE true Tryz.prog 25 [] [.agg ((c.tr false++[.v (.int .i64 bk),.v (.int .i64 fw)]:List Tr).map .t),.one (.t (iN ys)),.agg (([jO false rs,jP false us]:List Tr).map .t)] (aO (.one (tv (.int .i64 (dD c bk fw ys))))):=by
 refine bF Tryz.func25 rfl Tryz.ntmps25 rfl aA rfl fun N9 w9 c0 h0=>?_
 refine sq ?_;refine rl ?_;refine bx 0 ?_;refine bx 1 ?_;refine o1 ?_;refine nl ?_;refine sq ?_;refine rl ?_;refine ld ?_;refine o1 ?_
 refine ca (CM (bk:=bk) (fw:=fw) hs) LO ⟨aB rfl,a1 rfl,rfl⟩ (.one (tv (.int .i64 (dD c bk fw ys)))) ?_;refine o1 ?_;refine nl ?_;refine sq ?_;refine sq ?_;refine rl ?_;refine o1 ?_
 refine o1 ?_;refine nl ?_;refine bS rfl (fun h1=>?_) (fun h1=>?_)
 ·refine sq ?_;refine rl ?_;refine o1 ?_;refine o1 ?_;refine nl ?_;refine rt ?_
  exact en (.inl rfl) rfl (aP (bL _)) (by decide) (fun _=>trivial) (congrArg (fun z=>FV.one (tv (.int .i64 z))) (rfl))
 exact absurd hm h1
theorem FS {c:Fr4}{bk fw:Int}{ys:List (Fr4×Fr4)}{rs:List Rf}{us:List Uf}(hs:Sm c ys) (hJ:JOk rs us):aE true Tryz.prog 25 [] [.agg ((c.tr false++[.v (.int .i64 bk),.v (.int .i64 fw)]:List Tr).map .t),.one (.t (iN ys)),.agg (([jO false rs,jP false us]:List Tr).map .t)] (aO (.one (tv (.int .i64 (pB c bk fw ys rs us))))):=by
 by_cases h:dD c bk fw ys=0
 ·obtain⟨h1,e1,e2,e3,e4⟩:=Qz hs h
  have h9:=Zo (rs:=rs) (us:=us) h1 hJ (by rw[←e1,←e4];exact hs) (by rw[←e1,←e2,←e3,←e4];exact h)
  rw[←e1,←e2,←e3,←e4]at h9
  unfold pB
  rw[if_pos h,Re]
  exact h9
 unfold pB
 rw[if_neg h]
 exact Zp hs h
theorem zG {xs:List Nat}(hx:xs.length≤1099511627776):aE true Tryz.prog 65 [] [.one (.t (sU false xs))] (aO (.one (.t (sU true xs)))):=by
 refine bF Tryz.func65 rfl Tryz.ntmps65 rfl aA rfl fun N w c0 h0=>?_
 refine sq ?_;refine rl ?_;refine o1 ?_;refine nl ?_;refine sq ?_;refine rl ?_;refine o1 ?_;refine nl ?_;refine sq ?_;refine rl ?_;refine o1 ?_;refine o1 ?_
 refine kX (j:=0) aA rfl rfl rfl rfl .nil .fz (LP _) (Zq _) rfl (by omega) (by omega) ?_
 refine o1 ?_;refine nl ?_;refine rt ?_
 exact en (.inl rfl) rfl (aP (.one (.sl rfl rfl (by rw[Nat.zero_add,Nat.mul_one,List.nil_append,List.take_of_length_le (by simp[iL])]) (by simp[iL])))) (by decide) (fun _=>.inl ⟨rfl,fD xs⟩) (by simp[aO,sU])
theorem gW {a:Fr4}(ha:a.len 1099511627776):aE true Tryz.prog 28 [] [qF a] (aO (rO a)):=by
 refine bF Tryz.func28 rfl Tryz.ntmps28 rfl aA rfl fun N w c0 h0=>?_
 refine sq ?_;refine rl ?_;refine bx 0 ?_;refine al 1 ?_;refine nl ?_;refine sq ?_;refine rd [0,1] (fun i=>[17].contains i) mixed ?_
 refine dv 0 ?_;refine dv 1 ?_;refine aJ 2 ?_;refine dv 3 ?_;refine dv 4 ?_;refine aJ 5 ?_;refine dv 8 ?_;refine dv 9 ?_;refine aJ 10 ?_;refine dv 11 ?_;refine dv 12 ?_;refine aJ 13 ?_
 refine jX 2 6 rfl (zG ha.1) Rr ⟨a1 rfl,rfl⟩ ?_;refine df 7 ?_;refine jX 3 14 rfl (zG ha.2) Rr ⟨a1 rfl,rfl⟩ ?_;refine df 15 ?_;refine df 16 ?_;refine dst 17 ?_;refine aK ?_
 refine rt ?_
 exact en (.inl rfl) rfl (aP (.agg (.cons (.id rfl) (.cons (.sl (trs:=aV a.x) rfl rfl (bB _) (aZ _)) (.cons (.id rfl) (.cons (.sl (trs:=aV a.y) rfl rfl (bB _) (aZ _)) .nil)))))) (by decide) (fun _=>tU a) rfl
theorem FT {a:Fr4}(ha:a.len 1099511627776):aE true Tryz.prog 68 [] [qF a] (aO (rO a)):=by
 refine bF Tryz.func68 rfl Tryz.ntmps68 rfl aA rfl fun N w c0 h0=>?_
 refine sq ?_;refine rl ?_;refine bx 0 ?_;refine al 1 ?_;refine nl ?_;refine sq ?_;refine rd [0,1] (fun i=>[17].contains i) mixed ?_
 refine dv 0 ?_;refine dv 1 ?_;refine aJ 2 ?_;refine dv 3 ?_;refine dv 4 ?_;refine aJ 5 ?_;refine dv 8 ?_;refine dv 9 ?_;refine aJ 10 ?_;refine dv 11 ?_;refine dv 12 ?_;refine aJ 13 ?_
 refine jX 2 6 rfl (zG ha.1) Rr ⟨a1 rfl,rfl⟩ ?_;refine df 7 ?_;refine jX 3 14 rfl (zG ha.2) Rr ⟨a1 rfl,rfl⟩ ?_;refine df 15 ?_;refine df 16 ?_;refine dst 17 ?_;refine aK ?_
 refine rt ?_
 exact en (.inl rfl) rfl (aP (.agg (.cons (.id rfl) (.cons (.sl (trs:=aV a.x) rfl rfl (bB _) (aZ _)) (.cons (.id rfl) (.cons (.sl (trs:=aV a.y) rfl rfl (bB _) (aZ _)) .nil)))))) (by decide) (fun _=>tU a) rfl
theorem xO {n d:Int}(h1:-9223372036854775808≤n) (h2:n≤9223372036854775807) (h3:-9223372036854775808≤d) (h4:d≤9223372036854775807):aE true Tryz.prog 32 [] [.one (tv (.int .i64 n)),.one (tv (.int .i64 d))] (aO (qO (Rat.divInt n d))):=by
 refine bF Tryz.func32 rfl Tryz.ntmps32 rfl aA rfl fun N w c0 h0=>?_
 have hs:=eQ h1 h2 h3 h4
 have hl:(Fr4.of (Rat.divInt n d)).len 1099511627776:=⟨Nat.le_trans hs.1 (by omega),Nat.le_trans hs.2 (by omega)⟩
 refine sq ?_;refine rl ?_;refine al 0 ?_;refine nl ?_;refine sq ?_;refine rl ?_;refine o1 ?_;refine o1 ?_
 refine ca (PQ h1 h2 h3 h4) UA ⟨a1 rfl,a1 rfl,rfl⟩ (.tup [qF (.of (Rat.divInt n d)),.one (tv (.int .i64 (if d=0 then 20 else 0)))]) ?_;(iterate 3 refine o1 ?_);refine al 1 ?_;refine st ?_
 refine o1 ?_;refine nl ?_;refine sq ?_;refine rl ?_;refine ld ?_;refine gY 2 (FT (a:=.of (Rat.divInt n d)) hl) UB ⟨aB rfl,rfl⟩ ?_;refine st ?_;refine nl ?_;refine rt ?_
 exact en (.inl rfl) rfl (aP (.agg (.cons (.id rfl) (.cons (.sl (trs:=aV (dg 4294967296 (Rat.divInt n d).num.natAbs)) rfl rfl (bB _) (aZ _)) (.cons (.id rfl) (.cons (.sl (trs:=aV (dg 4294967296 (Rat.divInt n d).den)) rfl rfl (bB _) (aZ _)) .nil)))))) (by decide) (fun _=>mH _) rfl
theorem iF {a:Fr4}:aE true Tryz.prog 23 [] [qF a] (aO (.one (tv (.bool (cB a))))):=by
 refine bF Tryz.func23 rfl Tryz.ntmps23 rfl aA rfl fun N w c0 h0=>?_
 refine sq ?_;refine rl ?_;refine bx 0 ?_;refine o1 ?_;refine nl ?_;refine sq ?_;refine rl ?_;refine o1 ?_;refine o1 ?_;refine ld ?_;(iterate 3 refine o1 ?_)
 refine WL.split (t:=8) rfl (fun h1=>?_) (fun h1=>?_)
 ·refine o1 ?_;refine o1 ?_;refine ld ?_;(iterate 4 refine o1 ?_);refine nl ?_;refine rt ?_
  exact en (.inl rfl) rfl (aP (bL _)) (by decide) (fun _=>trivial) (congrArg (fun z=>FV.one (tv (.bool z))) (by simp only[cB,decide_eq_true h1,Bool.not_true,Bool.not_false,Bool.or_true,Bool.true_or,Bool.false_or,Bool.or_false,Bool.false_eq_true,if_true,if_false,ite_true,ite_false,Bool.and_true,Bool.true_and,Bool.false_and,Bool.and_false]))
 (iterate 5 refine aX ?_);refine o1 ?_;refine o1 ?_;refine nl ?_;refine rt ?_
 exact en (.inl rfl) rfl (aP (bL _)) (by decide) (fun _=>trivial) (congrArg (fun z=>FV.one (tv (.bool z))) (by simp only[cB,decide_eq_false h1,Bool.not_true,Bool.not_false,Bool.or_true,Bool.true_or,Bool.false_or,Bool.or_false,Bool.false_eq_true,if_true,if_false,ite_true,ite_false,Bool.and_true,Bool.true_and,Bool.false_and,Bool.and_false]))
theorem QH {c:Fr4}{bk fw:Int}{ys:List (Fr4×Fr4)}:aE true Tryz.prog 8 [] [.agg ((c.tr false++[.v (.int .i64 bk),.v (.int .i64 fw)]:List Tr).map .t),.one (.t (fQ ys))] (aO (.one (tv (.bool (xB c ys))))):=by
 refine bF Tryz.func8 rfl Tryz.ntmps8 rfl aA rfl fun N w c0 h0=>?_
 refine sq ?_;refine rl ?_;refine bx 0 ?_;refine o1 ?_;refine nl ?_;refine sq ?_;refine sq ?_;refine rl ?_;refine o1 ?_;refine nl ?_;refine bl ?_
 refine lp (γ:=Nat) (fun k=>bV [(1,.one (.t (fQ ys))),(2,.one (.pt 0 0)),(5,.one (tv (.int .i64 ((k:Nat):Int))))]) (fun _=>[(⟨28,0,(c.tr false++[.v (.int .i64 bk),.v (.int .i64 fw)]:List Tr).map .t⟩:Ob)].map some) (fun k=>k≤ys.length∧k≤50∧∀j,j<k→(cB (bX ys j).1&&cB (bX ys j).2)=true) (fun k=>ys.length-k) 0 ⟨Nat.zero_le _,Nat.zero_le _,fun j hj=>absurd hj (Nat.not_lt_zero j)⟩ (aG h0 [0] _ _ (by decide) ⟨rfl,rfl,rfl,trivial⟩ ⟨oe rfl rfl,rfl⟩) fun k hk=>?_
 refine sq ?_;refine sq ?_;refine rl ?_;(iterate 5 refine o1 ?_);refine WL.split (t:=10) rfl (fun h1=>?_) (fun h1=>?_)
 ·(iterate 3 refine o1 ?_);refine nl ?_;refine bS rfl (fun h2=>?_) (fun h2=>?_)
  ·refine sk ?_;refine sq ?_;refine bl ?_;refine sq ?_;refine rl ?_;(iterate 4 refine o1 ?_)
   refine cR ((bX ys (k)).1.tr false) (aQ (f:=bY) (z:=8) (o:=0) dA (eW (by omega)) (Nat.le_of_ble_eq_true rfl) rfl) ?_
   refine ca (iF (a:=(bX ys (k)).1)) oI ⟨aB rfl,rfl⟩ (.one (tv (.bool (cB (bX ys (k)).1)))) ?_;refine WL.splitb (t:=21) rfl (fun h3=>?_) (fun h3=>?_)
   ·(iterate 6 refine o1 ?_);refine cR ((bX ys (k)).2.tr false) (aQ (f:=bY) (z:=8) (o:=4) dA (eW (by omega)) (Nat.le_of_ble_eq_true rfl) rfl) ?_
    refine ca (iF (a:=(bX ys (k)).2)) oI ⟨aB rfl,rfl⟩ (.one (tv (.bool (cB (bX ys (k)).2)))) ?_;refine WL.splitb (t:=29) rfl (fun h4=>?_) (fun h4=>?_)
    ·refine o1 ?_;refine o1 ?_;refine nl ?_;refine jN rfl ?_;refine sk ?_;refine rl ?_;refine o1 ?_;refine o1 ?_
     refine WL.cast (t:=15) (u':=.int .i64 ((k+1:Nat):Int)) rfl (aI (by omega)) ?_
     refine o1 ?_;refine nl ?_
     exact⟨k+1,by omega,⟨by omega,by omega,fun j hj=>by rcases Nat.lt_succ_iff_lt_or_eq.1 hj with h9 | h9;exact hk.2.2 j h9;subst h9;rw[h3,h4];rfl⟩,aG h0 [0] _ _ (by decide) ⟨rfl,rfl,rfl,trivial⟩ ⟨oe rfl rfl,rfl⟩⟩
    refine o1 ?_;refine o1 ?_;refine nl ?_;refine fY rfl ?_;refine sq ?_;refine rl ?_;refine o1 ?_;refine nl ?_;refine rt ?_
    exact en (.inl rfl) rfl (aP (bL _)) (by decide) (fun _=>trivial) (congrArg (fun z=>FV.one (tv (.bool z))) (Nu (c:=c) (k:=k) (by omega) (by omega) (by simp only[h3,h4,Bool.not_true,Bool.not_false,Bool.or_true,Bool.true_or,Bool.false_or,Bool.or_false,Bool.false_eq_true,if_true,if_false,ite_true,ite_false,Bool.and_true,Bool.true_and,Bool.false_and,Bool.and_false])))
   refine o1 ?_;refine o1 ?_;(iterate 7 refine aX ?_);refine o1 ?_;refine nl ?_;refine fY rfl ?_;refine sq ?_;refine rl ?_;refine o1 ?_;refine nl ?_;refine rt ?_
   exact en (.inl rfl) rfl (aP (bL _)) (by decide) (fun _=>trivial) (congrArg (fun z=>FV.one (tv (.bool z))) (Nu (c:=c) (k:=k) (by omega) (by omega) (by simp only[h3,Bool.not_true,Bool.not_false,Bool.or_true,Bool.true_or,Bool.false_or,Bool.or_false,Bool.false_eq_true,if_true,if_false,ite_true,ite_false,Bool.and_true,Bool.true_and,Bool.false_and,Bool.and_false])))
  refine ex ?_;refine sq ?_;refine rl ?_;refine o1 ?_;refine ld ?_;refine ca (iF (a:=c)) oI ⟨aB rfl,rfl⟩ (.one (tv (.bool (cB c)))) ?_;refine o1 ?_
  refine WL.splitb (t:=35) rfl (fun h5=>?_) (fun h5=>?_)
  ·(iterate 4 refine o1 ?_);refine WL.split (t:=39) rfl (fun h6=>?_) (fun h6=>?_)
   ·(iterate 8 refine aX ?_);(iterate 3 refine o1 ?_);refine nl ?_;refine rt ?_;have hfy:=lB (c:=c) (k:=k) hk.2.2 hk.1 (by omega)
    exact en (.inl rfl) rfl (aP (bL _)) (by decide) (fun _=>trivial) (congrArg (fun z=>FV.one (tv (.bool z))) (by rw[←hfy];simp only[h5,decide_eq_true h6,Bool.not_true,Bool.not_false,Bool.or_true,Bool.true_or,Bool.false_or,Bool.or_false,Bool.false_eq_true,if_true,if_false,ite_true,ite_false,Bool.and_true,Bool.true_and,Bool.false_and,Bool.and_false]))
   (iterate 4 refine o1 ?_);refine WL.split (t:=43) rfl (fun h7=>?_) (fun h7=>?_)
   ·(iterate 7 refine o1 ?_);refine nl ?_;refine rt ?_;have hfy:=lB (c:=c) (k:=k) hk.2.2 hk.1 (by omega)
    exact en (.inl rfl) rfl (aP (bL _)) (by decide) (fun _=>trivial) (congrArg (fun z=>FV.one (tv (.bool z))) (by rw[←hfy];simp only[h5,decide_eq_false h6,decide_eq_true h7,Bool.not_true,Bool.not_false,Bool.or_true,Bool.true_or,Bool.false_or,Bool.or_false,Bool.false_eq_true,if_true,if_false,ite_true,ite_false,Bool.and_true,Bool.true_and,Bool.false_and,Bool.and_false]))
   (iterate 3 refine aX ?_);(iterate 4 refine o1 ?_);refine nl ?_;refine rt ?_;have hfy:=lB (c:=c) (k:=k) hk.2.2 hk.1 (by omega)
   exact en (.inl rfl) rfl (aP (bL _)) (by decide) (fun _=>trivial) (congrArg (fun z=>FV.one (tv (.bool z))) (by rw[←hfy];simp only[h5,decide_eq_false h6,decide_eq_false h7,Bool.not_true,Bool.not_false,Bool.or_true,Bool.true_or,Bool.false_or,Bool.or_false,Bool.false_eq_true,if_true,if_false,ite_true,ite_false,Bool.and_true,Bool.true_and,Bool.false_and,Bool.and_false]))
  (iterate 13 refine aX ?_);refine o1 ?_;refine o1 ?_;refine nl ?_;refine rt ?_;have hfy:=lB (c:=c) (k:=k) hk.2.2 hk.1 (by omega)
  exact en (.inl rfl) rfl (aP (bL _)) (by decide) (fun _=>trivial) (congrArg (fun z=>FV.one (tv (.bool z))) (by rw[←hfy];simp only[h5,Bool.not_true,Bool.not_false,Bool.or_true,Bool.true_or,Bool.false_or,Bool.or_false,Bool.false_eq_true,if_true,if_false,ite_true,ite_false,Bool.and_true,Bool.true_and,Bool.false_and,Bool.and_false]))
 refine aX ?_;refine aX ?_;refine o1 ?_;refine nl ?_;refine jN rfl ?_;refine ex ?_;refine sq ?_;refine rl ?_;refine o1 ?_;refine ld ?_
 refine ca (iF (a:=c)) oI ⟨aB rfl,rfl⟩ (.one (tv (.bool (cB c)))) ?_;refine o1 ?_;refine WL.splitb (t:=35) rfl (fun h8=>?_) (fun h8=>?_)
 ·(iterate 4 refine o1 ?_);refine WL.split (t:=39) rfl (fun h9=>?_) (fun h9=>?_)
  ·(iterate 8 refine aX ?_);(iterate 3 refine o1 ?_);refine nl ?_;refine rt ?_;have hfy:=lB (c:=c) (k:=k) hk.2.2 hk.1 (by omega)
   exact en (.inl rfl) rfl (aP (bL _)) (by decide) (fun _=>trivial) (congrArg (fun z=>FV.one (tv (.bool z))) (by rw[←hfy];simp only[h8,decide_eq_true h9,Bool.not_true,Bool.not_false,Bool.or_true,Bool.true_or,Bool.false_or,Bool.or_false,Bool.false_eq_true,if_true,if_false,ite_true,ite_false,Bool.and_true,Bool.true_and,Bool.false_and,Bool.and_false]))
  (iterate 4 refine o1 ?_);refine WL.split (t:=43) rfl (fun h10=>?_) (fun h10=>?_)
  ·(iterate 7 refine o1 ?_);refine nl ?_;refine rt ?_;have hfy:=lB (c:=c) (k:=k) hk.2.2 hk.1 (by omega)
   exact en (.inl rfl) rfl (aP (bL _)) (by decide) (fun _=>trivial) (congrArg (fun z=>FV.one (tv (.bool z))) (by rw[←hfy];simp only[h8,decide_eq_false h9,decide_eq_true h10,Bool.not_true,Bool.not_false,Bool.or_true,Bool.true_or,Bool.false_or,Bool.or_false,Bool.false_eq_true,if_true,if_false,ite_true,ite_false,Bool.and_true,Bool.true_and,Bool.false_and,Bool.and_false]))
  (iterate 3 refine aX ?_);(iterate 4 refine o1 ?_);refine nl ?_;refine rt ?_;have hfy:=lB (c:=c) (k:=k) hk.2.2 hk.1 (by omega)
  exact en (.inl rfl) rfl (aP (bL _)) (by decide) (fun _=>trivial) (congrArg (fun z=>FV.one (tv (.bool z))) (by rw[←hfy];simp only[h8,decide_eq_false h9,decide_eq_false h10,Bool.not_true,Bool.not_false,Bool.or_true,Bool.true_or,Bool.false_or,Bool.or_false,Bool.false_eq_true,if_true,if_false,ite_true,ite_false,Bool.and_true,Bool.true_and,Bool.false_and,Bool.and_false]))
 (iterate 13 refine aX ?_);refine o1 ?_;refine o1 ?_;refine nl ?_;refine rt ?_;have hfy:=lB (c:=c) (k:=k) hk.2.2 hk.1 (by omega)
 exact en (.inl rfl) rfl (aP (bL _)) (by decide) (fun _=>trivial) (congrArg (fun z=>FV.one (tv (.bool z))) (by rw[←hfy];simp only[h8,Bool.not_true,Bool.not_false,Bool.or_true,Bool.true_or,Bool.false_or,Bool.or_false,Bool.false_eq_true,if_true,if_false,ite_true,ite_false,Bool.and_true,Bool.true_and,Bool.false_and,Bool.and_false]))
theorem cW {n m:Int}(h1:-9223372036854775808≤n) (h2:n≤9223372036854775807) (h3:-9223372036854775808≤m) (h4:m≤9223372036854775807):aE false Tryz.prog 31 [] [.one (tv (.int .i64 n)),.one (tv (.int .i64 m))] (aO (.agg (((Fr4.of (Rat.divInt n 1)).tr true++(Fr4.of (Rat.divInt m 1)).tr true).map .t))):=by
 refine bF Tryz.func31 rfl Tryz.ntmps31 rfl aA rfl fun N w c0 h0=>?_
 refine sq ?_;refine rl ?_;refine al 0 ?_;refine nl ?_;refine sq ?_;refine rl ?_;refine o1 ?_
 refine gY 1 (xO (n:=n) (d:=1) (by omega) (by omega) (by omega) (by omega)) xP ⟨a1 rfl,a1 rfl,rfl⟩ ?_
 refine o1 ?_;refine gY 3 (xO (n:=m) (d:=1) (by omega) (by omega) (by omega) (by omega)) xP ⟨a1 rfl,a1 rfl,rfl⟩ ?_
 refine o1 ?_;refine st ?_;refine nl ?_;refine rt ?_
 exact en (.inl rfl) rfl (aP (.agg (.cons (.id rfl) (.cons (.sl (trs:=aV (dg 4294967296 (Rat.divInt n 1).num.natAbs)) rfl rfl (bB _) (aZ _)) (.cons (.id rfl) (.cons (.sl (trs:=aV (dg 4294967296 (Rat.divInt n 1).den)) rfl rfl (bB _) (aZ _)) (.cons (.id rfl) (.cons (.sl (trs:=aV (dg 4294967296 (Rat.divInt m 1).num.natAbs)) rfl rfl (bB _) (aZ _)) (.cons (.id rfl) (.cons (.sl (trs:=aV (dg 4294967296 (Rat.divInt m 1).den)) rfl rfl (bB _) (aZ _)) (.nil))))))))))) (by decide) (fun h=>by cases h) rfl
end Go.Proofs.YthoemjjmkgmnjaaGreat
