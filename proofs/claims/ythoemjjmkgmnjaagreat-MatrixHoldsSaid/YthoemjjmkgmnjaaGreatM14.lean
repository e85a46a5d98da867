/- Part 14 of a proof: F2 to D1. -/
import Derived.Test.YthoemjjmkgmnjaaGreatM11
import Derived.Test.YthoemjjmkgmnjaaGreatM13
import Derived.Test.YthoemjjmkgmnjaaGreatM7
import Derived.Test.YthoemjjmkgmnjaaGreatM12
set_option maxRecDepth 100000
set_option linter.unusedVariables false
set_option linter.unusedSimpArgs false
namespace Go.Proofs.YthoemjjmkgmnjaaGreat
open Go Go.RowKit
theorem SQ (p q:Rat):decide ((p-q).num.sign=0)=decide (p=q):=by
 rw[decide_eq_decide,Int.sign_eq_zero_iff_zero,Rat.num_eq_zero]
 constructor <;> intro h <;> grind
theorem qR {a b:Fr4}{p q:Rat}(ha:Qn a p) (hb:Qn b q) (hp:Sz 17179869184 p) (hq:Sz 17179869184 q):aE true Tryz.prog 30 [] [qF a,qF b] (aN (.one (tv (.bool (decide (p=q)))))):=by
 refine bC Tryz.func30 rfl Tryz.ntmps30 rfl aA rfl fun N9 w9 c0 h0=>?_
 refine sq ?_;refine rl ?_;refine bx 0 ?_;refine bx 1 ?_;refine o1 ?_;refine nl ?_;refine sq ?_;refine rl ?_;refine ld ?_;refine ld ?_
 refine ca (uM ha hb hp hq) Fu ⟨aB rfl,aB rfl,rfl⟩ (.one (tv (.int .i64 (p-q).num.sign))) ?_;refine o1 ?_;refine o1 ?_;refine nl ?_;refine rt ?_;exact eL (.inl rfl) rfl (SQ p q)
theorem FA {M:Mx}{N:Nat}{rs:List Rf}{us:List Uf}(hOk:M.Ok N) (hJ:JOk rs us){v y:Int}:aE true Tryz.prog 60 [] [.agg (((Fr4.of M.cap).tr false++[.v (.int .i64 ((M.b:Nat):Int)),.v (.int .i64 ((M.w:Nat):Int))]:List Tr).map .t),.one (.t (jI (yrs M N))),.one (tv (.int .i64 v)),.one (tv (.int .i64 y))] (aN (.one (tv (.bool (M.win N v y))))):=by
 refine bC Tryz.func60 rfl Tryz.ntmps60 rfl aA rfl fun N9 w9 c0 h0=>?_
 have h9l:=cK M N;have h9r:=hJ.rl;have h9u:=hJ.ul;have h9n:=hOk.n;have h9b:=hOk.b;have h9w:=hOk.w
 refine sq ?_;refine rl ?_;refine bx 0 ?_;refine o1 ?_;refine nl ?_;refine sq ?_;refine rl ?_;(iterate 3 refine o1 ?_);refine WL.split (t:=11) rfl (fun h1=>?_) (fun h1=>?_)
 ·(iterate 3 refine o1 ?_);refine WL.cast (t:=14) (u':=.int .i64 ((N:Nat):Int)) rfl (aH (by rw[cK])) ?_
  (iterate 3 refine o1 ?_);refine WL.split (t:=17) rfl (fun h2=>?_) (fun h2=>?_)
  ·(iterate 4 refine o1 ?_);refine WL.split (t:=21) rfl (fun h3=>?_) (fun h3=>?_)
   ·(iterate 3 refine o1 ?_);refine WL.cast (t:=24) (u':=.int .i64 ((N:Nat):Int)) rfl (aH (by rw[cK])) ?_
    (iterate 3 refine o1 ?_);refine WL.split (t:=27) rfl (fun h4=>?_) (fun h4=>?_)
    ·refine o1 ?_;refine o1 ?_;refine WL.cast (t:=29) (u':=.int .i64 ((v.toNat:Nat):Int)) rfl (aH (by omega)) ?_
     refine o1 ?_;refine o1 ?_
     refine cW ((Fr4.of (M.inc (v.toNat))).tr false) (aP (f:=bV) (z:=8) (o:=0) cV (eB (M:=M) (N:=N) (y:=v.toNat) (by omega)) (Nat.le_of_ble_eq_true rfl) rfl) ?_
     refine ca (iA (Qn.of (p:=(M.inc (v.toNat))) (hOk.sz_inc (y:=v.toNat) (by omega)))) nY ⟨aB rfl,rfl⟩ (.one (tv (.int .i64 (M.inc (v.toNat)).num.sign))) ?_
     (iterate 3 refine o1 ?_);refine WL.split (t:=36) rfl (fun h5=>?_) (fun h5=>?_)
     ·refine o1 ?_;refine o1 ?_;refine WL.cast (t:=38) (u':=.int .i64 ((y.toNat:Nat):Int)) rfl (aH (by omega)) ?_
      refine o1 ?_;refine o1 ?_
      refine cW ((Fr4.of (M.inc (y.toNat))).tr false) (aP (f:=bV) (z:=8) (o:=0) cV (eB (M:=M) (N:=N) (y:=y.toNat) (by omega)) (Nat.le_of_ble_eq_true rfl) rfl) ?_
      refine ca (iA (Qn.of (p:=(M.inc (y.toNat))) (hOk.sz_inc (y:=y.toNat) (by omega)))) nY ⟨aB rfl,rfl⟩ (.one (tv (.int .i64 (M.inc (y.toNat)).num.sign))) ?_
      (iterate 3 refine o1 ?_);refine WL.split (t:=45) rfl (fun h6=>?_) (fun h6=>?_)
      ·(iterate 4 refine o1 ?_);refine ld ?_;(iterate 3 refine o1 ?_);refine WL.split (t:=53) rfl (fun h7=>?_) (fun h7=>?_)
       ·(iterate 4 refine o1 ?_);refine ld ?_;(iterate 3 refine o1 ?_);refine nl ?_;refine rt ?_
        exact eL (.inl rfl) rfl (by simp only[Mx.win,decide_eq_true h1,decide_eq_true h2,decide_eq_true h3,decide_eq_true h4,decide_eq_true h5,decide_eq_true h6,decide_eq_true (show(v-(M.b:Int)≤y) by omega),show decide (y-v≤(M.w:Int))=decide (y≤v+(M.w:Int)) by rw[decide_eq_decide];omega] <;> first | rfl | simp)
       (iterate 6 refine bF ?_);refine o1 ?_;refine o1 ?_;refine nl ?_;refine rt ?_
       exact eL (.inl rfl) rfl (by simp only[Mx.win,decide_eq_true h1,decide_eq_true h2,decide_eq_true h3,decide_eq_true h4,decide_eq_true h5,decide_eq_true h6,decide_eq_false (show¬(v-(M.b:Int)≤y) by omega)] <;> first | rfl | simp)
      (iterate 6 refine bF ?_);refine o1 ?_;refine o1 ?_;(iterate 6 refine bF ?_);refine o1 ?_;refine o1 ?_;refine nl ?_;refine rt ?_
      exact eL (.inl rfl) rfl (by simp only[Mx.win,decide_eq_true h1,decide_eq_true h2,decide_eq_true h3,decide_eq_true h4,decide_eq_true h5,decide_eq_false h6] <;> first | rfl | simp)
     (iterate 7 refine bF ?_);refine o1 ?_;refine o1 ?_;(iterate 6 refine bF ?_);refine o1 ?_;refine o1 ?_;(iterate 6 refine bF ?_);refine o1 ?_;refine o1 ?_;refine nl ?_
     refine rt ?_;exact eL (.inl rfl) rfl (by simp only[Mx.win,decide_eq_true h1,decide_eq_true h2,decide_eq_true h3,decide_eq_true h4,decide_eq_false h5] <;> first | rfl | simp)
    (iterate 7 refine bF ?_);refine o1 ?_;refine o1 ?_;(iterate 7 refine bF ?_);refine o1 ?_;refine o1 ?_;(iterate 6 refine bF ?_);refine o1 ?_;refine o1 ?_;(iterate 6 refine bF ?_)
    refine o1 ?_;refine o1 ?_;refine nl ?_;refine rt ?_
    exact eL (.inl rfl) rfl (by simp only[Mx.win,decide_eq_true h1,decide_eq_true h2,decide_eq_true h3,decide_eq_false h4] <;> first | rfl | simp)
   (iterate 4 refine bF ?_);refine o1 ?_;refine o1 ?_;(iterate 7 refine bF ?_);refine o1 ?_;refine o1 ?_;(iterate 7 refine bF ?_);refine o1 ?_;refine o1 ?_;(iterate 6 refine bF ?_)
   refine o1 ?_;refine o1 ?_;(iterate 6 refine bF ?_);refine o1 ?_;refine o1 ?_;refine nl ?_;refine rt ?_
   exact eL (.inl rfl) rfl (by simp only[Mx.win,decide_eq_true h1,decide_eq_true h2,decide_eq_false h3] <;> first | rfl | simp)
  refine bF ?_;refine bF ?_;refine o1 ?_;refine o1 ?_;(iterate 4 refine bF ?_);refine o1 ?_;refine o1 ?_;(iterate 7 refine bF ?_);refine o1 ?_;refine o1 ?_;(iterate 7 refine bF ?_)
  refine o1 ?_;refine o1 ?_;(iterate 6 refine bF ?_);refine o1 ?_;refine o1 ?_;(iterate 6 refine bF ?_);refine o1 ?_;refine o1 ?_;refine nl ?_;refine rt ?_
  exact eL (.inl rfl) rfl (by simp only[Mx.win,decide_eq_true h1,decide_eq_false h2] <;> first | rfl | simp)
 (iterate 4 refine bF ?_);refine o1 ?_;refine o1 ?_;refine bF ?_;refine bF ?_;refine o1 ?_;refine o1 ?_;(iterate 4 refine bF ?_);refine o1 ?_;refine o1 ?_;(iterate 7 refine bF ?_)
 refine o1 ?_;refine o1 ?_;(iterate 7 refine bF ?_);refine o1 ?_;refine o1 ?_;(iterate 6 refine bF ?_);refine o1 ?_;refine o1 ?_;(iterate 6 refine bF ?_);refine o1 ?_;refine o1 ?_
 refine nl ?_;refine rt ?_;exact eL (.inl rfl) rfl (by simp only[Mx.win,decide_eq_false h1] <;> first | rfl | simp)
theorem Xc {rs:List Rf}{us:List Uf}{y:Int}(hJ:JOk rs us):aE false Tryz.prog 21 [] [.agg (([kA false rs,kB false us]:List Tr).map .t),.one (tv (.int .i64 y))] (aN (qF (.of (Mx.inJ us y)))):=by
 refine bC Tryz.func21 rfl Tryz.ntmps21 rfl aA rfl fun N9 w9 c0 h0=>?_
 have h9r:=hJ.rl;have h9u:=hJ.ul
 have h00:((0:Int):Rat)=(cI (us.take 0) fun u:Uf=>decide (u.y=y)):=by simp[cI,fS,Rat.add_zero]
 refine sq ?_;refine rl ?_;refine bx 0 ?_;refine al 1 ?_;refine nl ?_;refine sq ?_;refine rl ?_;refine ca (Lk) BI rfl (qF (.of ((0:Int):Rat))) ?_;refine al 2 ?_;refine st ?_
 refine nl ?_;refine sq ?_;refine sq ?_;refine rl ?_;refine o1 ?_;refine nl ?_;refine bl ?_
 refine lp (γ:=Nat) (fun k=>bS [(1,.one (tv (.int .i64 y))),(2,.one (.pt 0 0)),(4,.one (.pt 1 0)),(5,.one (.pt 2 0)),(6,.one (tv (.int .i64 ((k:Nat):Int))))]) (fun k=>[(⟨42,0,[.t (kA false rs),.t (kB false us)]⟩:Ob),⟨49,0,[tv (.bool false),tv (.slice none 0 0),tv (.bool false),tv (.slice none 0 0)]⟩,⟨49,0,((Fr4.of (cI (us.take k) fun u:Uf=>decide (u.y=y))).tr false).map .t⟩].map some) (fun k=>k≤us.length∧True) (fun k=>us.length-k) 0 ⟨Nat.zero_le _,trivial⟩ (aG h0 [0,1,2] _ _ (by decide) ⟨rfl,rfl,rfl,rfl,rfl,trivial⟩ ⟨oe rfl rfl,oe rfl rfl,aQ (congrArg (fun q=>some (⟨49,0,((Fr4.of q).tr false).map .t⟩:Ob)) h00),rfl⟩) fun k hk=>?_
 refine sq ?_;refine sq ?_;refine rl ?_;refine o1 ?_;refine o1 ?_;refine ld ?_;refine o1 ?_;refine o1 ?_;refine nl ?_;refine bP rfl (fun h1=>?_) (fun h1=>?_)
 ·refine sk ?_;refine sq ?_;refine bl ?_;refine sq ?_;refine rl ?_;refine o1 ?_;refine ld ?_;(iterate 3 refine o1 ?_)
  refine cW ([.v (.int .i64 (bZ us (k)).y)]) (aP (f:=(fR false)) (z:=14) (o:=1) (fE false) (dS (us:=us) (k:=k) (by omega)) (Nat.le_of_ble_eq_true rfl) rfl) ?_
  refine o1 ?_;refine o1 ?_;refine nl ?_;refine bP rfl (fun h2=>?_) (fun h2=>?_)
  ·refine rd [0,1,2] (fun i=>[8].contains i) mixed ?_
   refine aI 0 ?_;refine dv 1 ?_;refine aI 2 ?_;refine dv 3 ?_;refine dv 4 ?_;refine dv 5 ?_
   refine cM 6 ((bZ us (k)).n.tr false) (aP (f:=(fR false)) (z:=14) (o:=2) (fE false) (dS (us:=us) (k:=k) (by omega)) (Nat.le_of_ble_eq_true rfl) rfl) ?_
   refine aF 7 rfl (lT (Qn.of (p:=(cI (us.take k) fun u:Uf=>decide (u.y=y))) (kY hJ _ _)) (hJ.u _ (dZ (us:=us) (k:=k) (by omega))).1.qn ((kY hJ _ _).mono (by omega)) ((hJ.u _ (dZ (us:=us) (k:=k) (by omega))).1.2.1.mono (by omega))) rM ⟨aB rfl,aB rfl,rfl⟩ (qF (.of ((cI (us.take k) fun u:Uf=>decide (u.y=y))+(bZ us (k)).n.q))) ?_
   refine dst 8 ?_;refine aJ ?_;refine rl ?_;refine o1 ?_;refine o1 ?_;refine WL.cast (t:=14) (u':=.int .i64 ((k+1:Nat):Int)) rfl (aH (by omega)) ?_
   refine o1 ?_;refine nl ?_
   have hst:(cI (us.take (k+1)) fun u:Uf=>decide (u.y=y))=((cI (us.take k) fun u:Uf=>decide (u.y=y))+(bZ us (k)).n.q):=by rw[zS (us:=us) (k:=k) (dl:=fun u:Uf=>decide (u.y=y)) (by omega) (decide_eq_true h2)]
   exact⟨k+1,by omega,⟨by omega,trivial⟩,aG h0 [0,1,2] _ _ (by decide) ⟨rfl,rfl,rfl,rfl,rfl,trivial⟩ ⟨oe rfl rfl,oe rfl rfl,aQ (congrArg (fun q=>some (⟨49,0,((Fr4.of q).tr false).map .t⟩:Ob)) hst.symm),rfl⟩⟩
  refine sk ?_;refine rl ?_;refine o1 ?_;refine o1 ?_;refine WL.cast (t:=14) (u':=.int .i64 ((k+1:Nat):Int)) rfl (aH (by omega)) ?_
  refine o1 ?_;refine nl ?_
  have hst:(cI (us.take (k+1)) fun u:Uf=>decide (u.y=y))=(cI (us.take k) fun u:Uf=>decide (u.y=y)):=by rw[zT (us:=us) (k:=k) (dl:=fun u:Uf=>decide (u.y=y)) (by omega) (decide_eq_false h2)]
  exact⟨k+1,by omega,⟨by omega,trivial⟩,aG h0 [0,1,2] _ _ (by decide) ⟨rfl,rfl,rfl,rfl,rfl,trivial⟩ ⟨oe rfl rfl,oe rfl rfl,aQ (congrArg (fun q=>some (⟨49,0,((Fr4.of q).tr false).map .t⟩:Ob)) hst.symm),rfl⟩⟩
 refine ex ?_;refine sq ?_;refine rl ?_;refine ld ?_;refine st ?_;refine nl ?_;refine rt ?_;have hfin:cI (us.take k) (fun u:Uf=>decide (u.y=y))=Mx.inJ us y:=uJ (by omega)
 exact en (.inl rfl) rfl (aO (.agg (.cons (.id rfl) (.cons (.id rfl) (.cons (.id rfl) (.cons (.id rfl) .nil)))))) (by decide) (fun h=>by cases h) (by rw[hfin];rfl)
theorem Ln {rs:List Rf}{us:List Uf}{y:Int}(hJ:JOk rs us):aE false Tryz.prog 19 [] [.agg (([kA false rs,kB false us]:List Tr).map .t),.one (tv (.int .i64 y))] (aN (qF (.of (Mx.ofJ us y)))):=by
 refine bC Tryz.func19 rfl Tryz.ntmps19 rfl aA rfl fun N9 w9 c0 h0=>?_
 have h9r:=hJ.rl;have h9u:=hJ.ul
 have h00:((0:Int):Rat)=(cI (us.take 0) fun u:Uf=>decide (u.v=y)):=by simp[cI,fS,Rat.add_zero]
 refine sq ?_;refine rl ?_;refine bx 0 ?_;refine al 1 ?_;refine nl ?_;refine sq ?_;refine rl ?_;refine ca (Lk) BI rfl (qF (.of ((0:Int):Rat))) ?_;refine al 2 ?_;refine st ?_
 refine nl ?_;refine sq ?_;refine sq ?_;refine rl ?_;refine o1 ?_;refine nl ?_;refine bl ?_
 refine lp (γ:=Nat) (fun k=>bS [(1,.one (tv (.int .i64 y))),(2,.one (.pt 0 0)),(4,.one (.pt 1 0)),(5,.one (.pt 2 0)),(6,.one (tv (.int .i64 ((k:Nat):Int))))]) (fun k=>[(⟨42,0,[.t (kA false rs),.t (kB false us)]⟩:Ob),⟨49,0,[tv (.bool false),tv (.slice none 0 0),tv (.bool false),tv (.slice none 0 0)]⟩,⟨49,0,((Fr4.of (cI (us.take k) fun u:Uf=>decide (u.v=y))).tr false).map .t⟩].map some) (fun k=>k≤us.length∧True) (fun k=>us.length-k) 0 ⟨Nat.zero_le _,trivial⟩ (aG h0 [0,1,2] _ _ (by decide) ⟨rfl,rfl,rfl,rfl,rfl,trivial⟩ ⟨oe rfl rfl,oe rfl rfl,aQ (congrArg (fun q=>some (⟨49,0,((Fr4.of q).tr false).map .t⟩:Ob)) h00),rfl⟩) fun k hk=>?_
 refine sq ?_;refine sq ?_;refine rl ?_;refine o1 ?_;refine o1 ?_;refine ld ?_;refine o1 ?_;refine o1 ?_;refine nl ?_;refine bP rfl (fun h1=>?_) (fun h1=>?_)
 ·refine sk ?_;refine sq ?_;refine bl ?_;refine sq ?_;refine rl ?_;refine o1 ?_;refine ld ?_;(iterate 3 refine o1 ?_)
  refine cW ([.v (.int .i64 (bZ us (k)).v)]) (aP (f:=(fR false)) (z:=14) (o:=0) (fE false) (dS (us:=us) (k:=k) (by omega)) (Nat.le_of_ble_eq_true rfl) rfl) ?_
  refine o1 ?_;refine o1 ?_;refine nl ?_;refine bP rfl (fun h2=>?_) (fun h2=>?_)
  ·refine rd [0,1,2] (fun i=>[8].contains i) mixed ?_
   refine aI 0 ?_;refine dv 1 ?_;refine aI 2 ?_;refine dv 3 ?_;refine dv 4 ?_;refine dv 5 ?_
   refine cM 6 ((bZ us (k)).n.tr false) (aP (f:=(fR false)) (z:=14) (o:=2) (fE false) (dS (us:=us) (k:=k) (by omega)) (Nat.le_of_ble_eq_true rfl) rfl) ?_
   refine aF 7 rfl (lT (Qn.of (p:=(cI (us.take k) fun u:Uf=>decide (u.v=y))) (kY hJ _ _)) (hJ.u _ (dZ (us:=us) (k:=k) (by omega))).1.qn ((kY hJ _ _).mono (by omega)) ((hJ.u _ (dZ (us:=us) (k:=k) (by omega))).1.2.1.mono (by omega))) rM ⟨aB rfl,aB rfl,rfl⟩ (qF (.of ((cI (us.take k) fun u:Uf=>decide (u.v=y))+(bZ us (k)).n.q))) ?_
   refine dst 8 ?_;refine aJ ?_;refine rl ?_;refine o1 ?_;refine o1 ?_;refine WL.cast (t:=14) (u':=.int .i64 ((k+1:Nat):Int)) rfl (aH (by omega)) ?_
   refine o1 ?_;refine nl ?_
   have hst:(cI (us.take (k+1)) fun u:Uf=>decide (u.v=y))=((cI (us.take k) fun u:Uf=>decide (u.v=y))+(bZ us (k)).n.q):=by rw[zS (us:=us) (k:=k) (dl:=fun u:Uf=>decide (u.v=y)) (by omega) (decide_eq_true h2)]
   exact⟨k+1,by omega,⟨by omega,trivial⟩,aG h0 [0,1,2] _ _ (by decide) ⟨rfl,rfl,rfl,rfl,rfl,trivial⟩ ⟨oe rfl rfl,oe rfl rfl,aQ (congrArg (fun q=>some (⟨49,0,((Fr4.of q).tr false).map .t⟩:Ob)) hst.symm),rfl⟩⟩
  refine sk ?_;refine rl ?_;refine o1 ?_;refine o1 ?_;refine WL.cast (t:=14) (u':=.int .i64 ((k+1:Nat):Int)) rfl (aH (by omega)) ?_
  refine o1 ?_;refine nl ?_
  have hst:(cI (us.take (k+1)) fun u:Uf=>decide (u.v=y))=(cI (us.take k) fun u:Uf=>decide (u.v=y)):=by rw[zT (us:=us) (k:=k) (dl:=fun u:Uf=>decide (u.v=y)) (by omega) (decide_eq_false h2)]
  exact⟨k+1,by omega,⟨by omega,trivial⟩,aG h0 [0,1,2] _ _ (by decide) ⟨rfl,rfl,rfl,rfl,rfl,trivial⟩ ⟨oe rfl rfl,oe rfl rfl,aQ (congrArg (fun q=>some (⟨49,0,((Fr4.of q).tr false).map .t⟩:Ob)) hst.symm),rfl⟩⟩
 refine ex ?_;refine sq ?_;refine rl ?_;refine ld ?_;refine st ?_;refine nl ?_;refine rt ?_;have hfin:cI (us.take k) (fun u:Uf=>decide (u.v=y))=Mx.ofJ us y:=uJ (by omega)
 exact en (.inl rfl) rfl (aO (.agg (.cons (.id rfl) (.cons (.id rfl) (.cons (.id rfl) (.cons (.id rfl) .nil)))))) (by decide) (fun h=>by cases h) (by rw[hfin];rfl)
theorem SR {N:Nat}{rs:List Rf}{us:List Uf}{v y:Int}(hJ:JOk rs us) (hl:rs.length=N) (h1:0≤v) (h2:v<(N:Int)):aE false Tryz.prog 105 [] [.agg (([kA false rs,kB false us]:List Tr).map .t),.one (tv (.int .i64 v)),.one (tv (.int .i64 y))] (aN (qF (.of (Mx.remJ rs us v y)))):=by
 refine bC Tryz.func105 rfl Tryz.ntmps105 rfl aA rfl fun N9 w9 c0 h0=>?_
 have h9r:=hJ.rl;have h9u:=hJ.ul
 have h00:((aR rs (v.toNat)).e.q+(aR rs (v.toNat)).c.q)=(((aR rs (v.toNat)).e.q+(aR rs (v.toNat)).c.q)+(cI (us.take 0) fun u:Uf=>decide (u.v=v)&&decide (y<u.y))):=by simp[cI,fS,Rat.add_zero]
 refine sq ?_;refine rl ?_;refine bx 0 ?_;refine al 1 ?_;refine nl ?_
 refine md (γ:=Unit) (fun _=>bS [(1,.one (tv (.int .i64 v))),(2,.one (tv (.int .i64 y))),(3,.one (.pt 0 0)),(6,.one (.pt 1 0)),(7,.one (.pt 2 0))]) (fun _=>([⟨42,0,[.t (kA false rs),.t (kB false us)]⟩,⟨49,0,[tv (.bool false),tv (.slice none 0 0),tv (.bool false),tv (.slice none 0 0)]⟩,⟨49,0,((Fr4.of ((aR rs (v.toNat)).e.q+(aR rs (v.toNat)).c.q)).tr false).map .t⟩]:List Ob).map some) (fun _=>True) ?_ fun _ _=>?_
 ·refine rd [0,1] (fun i=>[14].contains i) mixed ?_
  refine dv 0 ?_;refine aI 1 ?_;refine dv 2 ?_;refine WD.cast (t:=11) (u':=.int .i64 ((v.toNat:Nat):Int)) rfl (aH (by omega)) ?_
  refine dv 3 ?_;refine dv 4 ?_
  refine cM 5 ((aR rs (v.toNat)).e.tr false) (aP (f:=(jR false)) (z:=24) (o:=16) (jL false) (iC (rs:=rs) (k:=v.toNat) (by omega)) (Nat.le_of_ble_eq_true rfl) rfl) ?_
  refine dv 6 ?_;refine aI 7 ?_;refine dv 8 ?_;refine WD.cast (t:=17) (u':=.int .i64 ((v.toNat:Nat):Int)) rfl (aH (by omega)) ?_
  refine dv 9 ?_;refine dv 10 ?_
  refine cM 11 ((aR rs (v.toNat)).c.tr false) (aP (f:=(jR false)) (z:=24) (o:=20) (jL false) (iC (rs:=rs) (k:=v.toNat) (by omega)) (Nat.le_of_ble_eq_true rfl) rfl) ?_
  refine WO.two (i:=12) (j:=13) (by kernel_rfl) ?_ ?_
  ·refine cX 12 rfl (lT (hJ.r _ (aT (rs:=rs) (k:=v.toNat) (by omega))).2.2.2.2.1.qn (hJ.r _ (aT (rs:=rs) (k:=v.toNat) (by omega))).2.2.2.2.2.qn ((hJ.r _ (aT (rs:=rs) (k:=v.toNat) (by omega))).2.2.2.2.1.2.1.mono (by omega)) ((hJ.r _ (aT (rs:=rs) (k:=v.toNat) (by omega))).2.2.2.2.2.2.1.mono (by omega))) rM ⟨aB rfl,aB rfl,rfl⟩ (qF (.of ((aR rs (v.toNat)).e.q+(aR rs (v.toNat)).c.q))) ?_
   refine eN (key:=2) 13 (by kernel_rfl) rfl rfl aA rfl ⟨rfl,rfl,trivial⟩ ?_
   refine dst 14 ?_;refine aJ ?_;exact⟨(),trivial,aG h0 [0,1,2] _ _ (by decide) ⟨rfl,rfl,rfl,rfl,rfl,trivial⟩ ⟨oe rfl rfl,oe rfl rfl,oe rfl rfl,rfl⟩⟩
  refine bI (key:=2) 13 rfl rfl aA rfl ⟨rfl,rfl,trivial⟩ ?_
  refine aF 12 rfl (lT (hJ.r _ (aT (rs:=rs) (k:=v.toNat) (by omega))).2.2.2.2.1.qn (hJ.r _ (aT (rs:=rs) (k:=v.toNat) (by omega))).2.2.2.2.2.qn ((hJ.r _ (aT (rs:=rs) (k:=v.toNat) (by omega))).2.2.2.2.1.2.1.mono (by omega)) ((hJ.r _ (aT (rs:=rs) (k:=v.toNat) (by omega))).2.2.2.2.2.2.1.mono (by omega))) rM ⟨aB rfl,aB rfl,rfl⟩ (qF (.of ((aR rs (v.toNat)).e.q+(aR rs (v.toNat)).c.q))) ?_
  refine dst 14 ?_;refine aJ ?_;exact⟨(),trivial,aG h0 [0,1,2] _ _ (by decide) ⟨rfl,rfl,rfl,rfl,rfl,trivial⟩ ⟨oe rfl rfl,oe rfl rfl,oe rfl rfl,rfl⟩⟩
 refine sq ?_;refine sq ?_;refine rl ?_;refine o1 ?_;refine nl ?_;refine bl ?_
 refine lp (γ:=Nat) (fun k=>bS [(1,.one (tv (.int .i64 v))),(2,.one (tv (.int .i64 y))),(3,.one (.pt 0 0)),(6,.one (.pt 1 0)),(7,.one (.pt 2 0)),(8,.one (tv (.int .i64 ((k:Nat):Int))))]) (fun k=>[(⟨42,0,[.t (kA false rs),.t (kB false us)]⟩:Ob),⟨49,0,[tv (.bool false),tv (.slice none 0 0),tv (.bool false),tv (.slice none 0 0)]⟩,⟨49,0,((Fr4.of (((aR rs (v.toNat)).e.q+(aR rs (v.toNat)).c.q)+(cI (us.take k) fun u:Uf=>decide (u.v=v)&&decide (y<u.y)))).tr false).map .t⟩].map some) (fun k=>k≤us.length∧True) (fun k=>us.length-k) 0 ⟨Nat.zero_le _,trivial⟩ (aG h0 [0,1,2] _ _ (by decide) ⟨rfl,rfl,rfl,rfl,rfl,rfl,trivial⟩ ⟨oe rfl rfl,oe rfl rfl,aQ (congrArg (fun q=>some (⟨49,0,((Fr4.of q).tr false).map .t⟩:Ob)) h00),rfl⟩) fun k hk=>?_
 refine sq ?_;refine sq ?_;refine rl ?_;refine o1 ?_;refine o1 ?_;refine ld ?_;refine o1 ?_;refine o1 ?_;refine nl ?_;refine bP rfl (fun h1=>?_) (fun h1=>?_)
 ·refine sk ?_;refine sq ?_;refine bl ?_
  refine md (γ:=Unit) (fun _=>bS [(1,.one (tv (.int .i64 v))),(2,.one (tv (.int .i64 y))),(3,.one (.pt 0 0)),(6,.one (.pt 1 0)),(7,.one (.pt 2 0)),(8,.one (tv (.int .i64 ((k:Nat):Int)))),(46,.one (tv (.bool (decide ((bZ us (k)).v=v)&&decide (y<(bZ us (k)).y)))))]) (fun _=>([⟨42,0,[.t (kA false rs),.t (kB false us)]⟩,⟨49,0,[tv (.bool false),tv (.slice none 0 0),tv (.bool false),tv (.slice none 0 0)]⟩,⟨49,0,((Fr4.of (((aR rs (v.toNat)).e.q+(aR rs (v.toNat)).c.q)+(cI (us.take k) fun u:Uf=>decide (u.v=v)&&decide (y<u.y)))).tr false).map .t⟩]:List Ob).map some) (fun _=>True) ?_ fun _ _=>?_
  ·refine rl ?_;refine o1 ?_;refine ld ?_;(iterate 3 refine o1 ?_)
   refine cW ([.v (.int .i64 (bZ us (k)).v)]) (aP (f:=(fR false)) (z:=14) (o:=0) (fE false) (dS (us:=us) (k:=k) (by omega)) (Nat.le_of_ble_eq_true rfl) rfl) ?_
   (iterate 3 refine o1 ?_);refine WL.split (t:=37) rfl (fun h2=>?_) (fun h2=>?_)
   ·refine o1 ?_;refine ld ?_;(iterate 3 refine o1 ?_)
    refine cW ([.v (.int .i64 (bZ us (k)).y)]) (aP (f:=(fR false)) (z:=14) (o:=1) (fE false) (dS (us:=us) (k:=k) (by omega)) (Nat.le_of_ble_eq_true rfl) rfl) ?_
    (iterate 3 refine o1 ?_);refine nl ?_
    exact⟨(),trivial,aG h0 [0,1,2] _ _ (by decide) ⟨rfl,rfl,rfl,rfl,rfl,rfl,fQ (by simp only[decide_eq_true h1,decide_eq_true h2] <;> first | rfl | simp),trivial⟩ ⟨oe rfl rfl,oe rfl rfl,oe rfl rfl,rfl⟩⟩
   (iterate 8 refine bF ?_);refine o1 ?_;refine nl ?_
   exact⟨(),trivial,aG h0 [0,1,2] _ _ (by decide) ⟨rfl,rfl,rfl,rfl,rfl,rfl,fQ (by simp only[decide_eq_true h1,decide_eq_false h2] <;> first | rfl | simp),trivial⟩ ⟨oe rfl rfl,oe rfl rfl,oe rfl rfl,rfl⟩⟩
  refine lL rfl (fun h3=>?_) (fun h3=>?_)
  ·refine rd [0,1,2] (fun i=>[8].contains i) mixed ?_
   refine aI 0 ?_;refine dv 1 ?_;refine aI 2 ?_;refine dv 3 ?_;refine dv 4 ?_;refine dv 5 ?_
   refine cM 6 ((bZ us (k)).n.tr false) (aP (f:=(fR false)) (z:=14) (o:=2) (fE false) (dS (us:=us) (k:=k) (by omega)) (Nat.le_of_ble_eq_true rfl) rfl) ?_
   refine aF 7 rfl (lT (Qn.of (p:=(((aR rs (v.toNat)).e.q+(aR rs (v.toNat)).c.q)+(cI (us.take k) fun u:Uf=>decide (u.v=v)&&decide (y<u.y)))) (dG (dG (hJ.r _ (aT (rs:=rs) (k:=v.toNat) (by omega))).2.2.2.2.1.2.1 (hJ.r _ (aT (rs:=rs) (k:=v.toNat) (by omega))).2.2.2.2.2.2.1) (kY hJ _ _))) (hJ.u _ (dZ (us:=us) (k:=k) (by omega))).1.qn ((dG (dG (hJ.r _ (aT (rs:=rs) (k:=v.toNat) (by omega))).2.2.2.2.1.2.1 (hJ.r _ (aT (rs:=rs) (k:=v.toNat) (by omega))).2.2.2.2.2.2.1) (kY hJ _ _)).mono (by omega)) ((hJ.u _ (dZ (us:=us) (k:=k) (by omega))).1.2.1.mono (by omega))) rM ⟨aB rfl,aB rfl,rfl⟩ (qF (.of ((((aR rs (v.toNat)).e.q+(aR rs (v.toNat)).c.q)+(cI (us.take k) fun u:Uf=>decide (u.v=v)&&decide (y<u.y)))+(bZ us (k)).n.q))) ?_
   refine dst 8 ?_;refine aJ ?_;refine rl ?_;refine o1 ?_;refine o1 ?_;refine WL.cast (t:=28) (u':=.int .i64 ((k+1:Nat):Int)) rfl (aH (by omega)) ?_
   refine o1 ?_;refine nl ?_
   have hst:(((aR rs (v.toNat)).e.q+(aR rs (v.toNat)).c.q)+(cI (us.take (k+1)) fun u:Uf=>decide (u.v=v)&&decide (y<u.y)))=((((aR rs (v.toNat)).e.q+(aR rs (v.toNat)).c.q)+(cI (us.take k) fun u:Uf=>decide (u.v=v)&&decide (y<u.y)))+(bZ us (k)).n.q):=by rw[zS (us:=us) (k:=k) (dl:=fun u:Uf=>decide (u.v=v)&&decide (y<u.y)) (by omega) (h3)];exact(Rat.add_assoc _ _ _).symm
   exact⟨k+1,by omega,⟨by omega,trivial⟩,aG h0 [0,1,2] _ _ (by decide) ⟨rfl,rfl,rfl,rfl,rfl,rfl,trivial⟩ ⟨oe rfl rfl,oe rfl rfl,aQ (congrArg (fun q=>some (⟨49,0,((Fr4.of q).tr false).map .t⟩:Ob)) hst.symm),rfl⟩⟩
  refine sk ?_;refine rl ?_;refine o1 ?_;refine o1 ?_;refine WL.cast (t:=28) (u':=.int .i64 ((k+1:Nat):Int)) rfl (aH (by omega)) ?_
  refine o1 ?_;refine nl ?_
  have hst:(((aR rs (v.toNat)).e.q+(aR rs (v.toNat)).c.q)+(cI (us.take (k+1)) fun u:Uf=>decide (u.v=v)&&decide (y<u.y)))=(((aR rs (v.toNat)).e.q+(aR rs (v.toNat)).c.q)+(cI (us.take k) fun u:Uf=>decide (u.v=v)&&decide (y<u.y))):=by rw[zT (us:=us) (k:=k) (dl:=fun u:Uf=>decide (u.v=v)&&decide (y<u.y)) (by omega) (h3)]
  exact⟨k+1,by omega,⟨by omega,trivial⟩,aG h0 [0,1,2] _ _ (by decide) ⟨rfl,rfl,rfl,rfl,rfl,rfl,trivial⟩ ⟨oe rfl rfl,oe rfl rfl,aQ (congrArg (fun q=>some (⟨49,0,((Fr4.of q).tr false).map .t⟩:Ob)) hst.symm),rfl⟩⟩
 refine ex ?_;refine sq ?_;refine rl ?_;refine ld ?_;refine st ?_;refine nl ?_;refine rt ?_
 have hfin:((aR rs (v.toNat)).e.q+(aR rs (v.toNat)).c.q)+cI (us.take k) (fun u:Uf=>decide (u.v=v)&&decide (y<u.y))=Mx.remJ rs us v y:=by rw[uJ (by omega)];unfold Mx.remJ;grind
 exact en (.inl rfl) rfl (aO (.agg (.cons (.id rfl) (.cons (.id rfl) (.cons (.id rfl) (.cons (.id rfl) .nil)))))) (by decide) (fun h=>by cases h) (by rw[hfin];rfl)
theorem WM {M:Mx}{us:List Uf}{y t:Int}:M.ring (y.toNat)+cI us (fun u:Uf=>decide (u.y=y)&&(decide (u.v≤t)&&decide (y≤t)))=M.fulJ us y t:=by
 unfold Mx.fulJ
 rw[Rat.add_comm]
 congr 2
 funext u
 rw[Bool.eq_iff_iff]
 simp only[Bool.and_eq_true,decide_eq_true_eq]
 omega
theorem SS {M:Mx}{N:Nat}{rs:List Rf}{us:List Uf}(hOk:M.Ok N) (hJ:JOk rs us){y t:Int}(h1:0≤y) (h2:y<(N:Int)):aE true Tryz.prog 106 [] [.agg (((Fr4.of M.cap).tr false++[.v (.int .i64 ((M.b:Nat):Int)),.v (.int .i64 ((M.w:Nat):Int))]:List Tr).map .t),.one (.t (jI (yrs M N))),.agg (([kA false rs,kB false us]:List Tr).map .t),.one (tv (.int .i64 y)),.one (tv (.int .i64 t))] (aN (.one (tv (.bool (decide (0≤(M.fulJ us y t-M.lim y.toNat).num.sign)))))):=by
 refine bC Tryz.func106 rfl Tryz.ntmps106 rfl aA rfl fun N9 w9 c0 h0=>?_
 have h9l:=cK M N;have h9r:=hJ.rl;have h9u:=hJ.ul;have h9n:=hOk.n;have h9b:=hOk.b;have h9w:=hOk.w
 have h00:(M.ring (y.toNat))=((M.ring (y.toNat))+(cI (us.take 0) fun u:Uf=>decide (u.y=y)&&(decide (u.v≤t)&&decide (y≤t)))):=by simp[cI,fS,Rat.add_zero]
 refine sq ?_;refine rl ?_;refine bx 0 ?_;refine bx 1 ?_;refine o1 ?_;refine nl ?_;refine sq ?_;refine rl ?_;refine o1 ?_;refine o1 ?_
 refine WL.cast (t:=14) (u':=.int .i64 ((y.toNat:Nat):Int)) rfl (aH (by omega)) ?_
 refine o1 ?_;refine o1 ?_
 refine cW ((Fr4.of (M.ring (y.toNat))).tr false) (aP (f:=bV) (z:=8) (o:=4) cV (eB (M:=M) (N:=N) (y:=y.toNat) (by omega)) (Nat.le_of_ble_eq_true rfl) rfl) ?_
 refine al 2 ?_;refine st ?_;refine nl ?_;refine sq ?_;refine sq ?_;refine rl ?_;refine o1 ?_;refine nl ?_;refine bl ?_
 refine lp (γ:=Nat) (fun k=>bS [(1,.one (.t (jI (yrs M N)))),(3,.one (tv (.int .i64 y))),(4,.one (tv (.int .i64 t))),(5,.one (.pt 0 0)),(7,.one (.pt 1 0)),(11,.one (.pt 2 0)),(12,.one (tv (.int .i64 ((k:Nat):Int))))]) (fun k=>[(⟨58,0,(rG M).map .t⟩:Ob),⟨42,0,[.t (kA false rs),.t (kB false us)]⟩,⟨49,0,((Fr4.of ((M.ring (y.toNat))+(cI (us.take k) fun u:Uf=>decide (u.y=y)&&(decide (u.v≤t)&&decide (y≤t))))).tr false).map .t⟩].map some) (fun k=>k≤us.length∧True) (fun k=>us.length-k) 0 ⟨Nat.zero_le _,trivial⟩ (aG h0 [0,1,2] _ _ (by decide) ⟨rfl,rfl,rfl,rfl,rfl,rfl,rfl,trivial⟩ ⟨aQ rfl,oe rfl rfl,aQ (congrArg (fun q=>some (⟨49,0,((Fr4.of q).tr false).map .t⟩:Ob)) h00),rfl⟩) fun k hk=>?_
 refine sq ?_;refine sq ?_;refine rl ?_;refine o1 ?_;refine o1 ?_;refine ld ?_;refine o1 ?_;refine o1 ?_;refine nl ?_;refine bP rfl (fun h1=>?_) (fun h1=>?_)
 ·refine sk ?_;refine sq ?_;refine bl ?_
  refine md (γ:=Unit) (fun _=>bS [(1,.one (.t (jI (yrs M N)))),(3,.one (tv (.int .i64 y))),(4,.one (tv (.int .i64 t))),(5,.one (.pt 0 0)),(7,.one (.pt 1 0)),(11,.one (.pt 2 0)),(12,.one (tv (.int .i64 ((k:Nat):Int)))),(47,.one (tv (.bool (decide ((bZ us (k)).y=y)&&(decide ((bZ us (k)).v≤t)&&decide (y≤t))))))]) (fun _=>([⟨58,0,(rG M).map .t⟩,⟨42,0,[.t (kA false rs),.t (kB false us)]⟩,⟨49,0,((Fr4.of ((M.ring (y.toNat))+(cI (us.take k) fun u:Uf=>decide (u.y=y)&&(decide (u.v≤t)&&decide (y≤t))))).tr false).map .t⟩]:List Ob).map some) (fun _=>True) ?_ fun _ _=>?_
  ·refine rl ?_;refine o1 ?_;refine ld ?_;(iterate 3 refine o1 ?_)
   refine cW ([.v (.int .i64 (bZ us (k)).y)]) (aP (f:=(fR false)) (z:=14) (o:=1) (fE false) (dS (us:=us) (k:=k) (by omega)) (Nat.le_of_ble_eq_true rfl) rfl) ?_
   (iterate 3 refine o1 ?_);refine WL.split (t:=33) rfl (fun h2=>?_) (fun h2=>?_)
   ·refine o1 ?_;refine ld ?_;(iterate 3 refine o1 ?_)
    refine cW ([.v (.int .i64 (bZ us (k)).v)]) (aP (f:=(fR false)) (z:=14) (o:=0) (fE false) (dS (us:=us) (k:=k) (by omega)) (Nat.le_of_ble_eq_true rfl) rfl) ?_
    (iterate 4 refine o1 ?_);refine WL.split (t:=43) rfl (fun h3=>?_) (fun h3=>?_)
    ·(iterate 4 refine o1 ?_);refine nl ?_
     exact⟨(),trivial,aG h0 [0,1,2] _ _ (by decide) ⟨rfl,rfl,rfl,rfl,rfl,rfl,rfl,fQ (by simp only[decide_eq_true h1,decide_eq_true h2,decide_eq_true h3] <;> first | rfl | simp),trivial⟩ ⟨aQ rfl,oe rfl rfl,oe rfl rfl,rfl⟩⟩
    (iterate 3 refine bF ?_);refine o1 ?_;refine nl ?_
    exact⟨(),trivial,aG h0 [0,1,2] _ _ (by decide) ⟨rfl,rfl,rfl,rfl,rfl,rfl,rfl,fQ (by simp only[decide_eq_true h1,decide_eq_true h2,decide_eq_false h3] <;> first | rfl | simp),trivial⟩ ⟨aQ rfl,oe rfl rfl,oe rfl rfl,rfl⟩⟩
   (iterate 8 refine bF ?_);refine o1 ?_;refine o1 ?_;(iterate 3 refine bF ?_);refine o1 ?_;refine nl ?_
   exact⟨(),trivial,aG h0 [0,1,2] _ _ (by decide) ⟨rfl,rfl,rfl,rfl,rfl,rfl,rfl,fQ (by simp only[decide_eq_true h1,decide_eq_false h2] <;> first | rfl | simp),trivial⟩ ⟨aQ rfl,oe rfl rfl,oe rfl rfl,rfl⟩⟩
  refine lL rfl (fun h4=>?_) (fun h4=>?_)
  ·refine rd [0,1,2] (fun i=>[8].contains i) mixed ?_
   refine aI 0 ?_;refine dv 1 ?_;refine aI 2 ?_;refine dv 3 ?_;refine dv 4 ?_;refine dv 5 ?_
   refine cM 6 ((bZ us (k)).n.tr false) (aP (f:=(fR false)) (z:=14) (o:=2) (fE false) (dS (us:=us) (k:=k) (by omega)) (Nat.le_of_ble_eq_true rfl) rfl) ?_
   refine aF 7 rfl (lT (Qn.of (p:=((M.ring (y.toNat))+(cI (us.take k) fun u:Uf=>decide (u.y=y)&&(decide (u.v≤t)&&decide (y≤t))))) (dG (hOk.sz_ring (y:=y.toNat) (by omega)) (kY hJ _ _))) (hJ.u _ (dZ (us:=us) (k:=k) (by omega))).1.qn ((dG (hOk.sz_ring (y:=y.toNat) (by omega)) (kY hJ _ _)).mono (by omega)) ((hJ.u _ (dZ (us:=us) (k:=k) (by omega))).1.2.1.mono (by omega))) rM ⟨aB rfl,aB rfl,rfl⟩ (qF (.of (((M.ring (y.toNat))+(cI (us.take k) fun u:Uf=>decide (u.y=y)&&(decide (u.v≤t)&&decide (y≤t))))+(bZ us (k)).n.q))) ?_
   refine dst 8 ?_;refine aJ ?_;refine rl ?_;refine o1 ?_;refine o1 ?_;refine WL.cast (t:=24) (u':=.int .i64 ((k+1:Nat):Int)) rfl (aH (by omega)) ?_
   refine o1 ?_;refine nl ?_
   have hst:((M.ring (y.toNat))+(cI (us.take (k+1)) fun u:Uf=>decide (u.y=y)&&(decide (u.v≤t)&&decide (y≤t))))=(((M.ring (y.toNat))+(cI (us.take k) fun u:Uf=>decide (u.y=y)&&(decide (u.v≤t)&&decide (y≤t))))+(bZ us (k)).n.q):=by rw[zS (us:=us) (k:=k) (dl:=fun u:Uf=>decide (u.y=y)&&(decide (u.v≤t)&&decide (y≤t))) (by omega) (h4)];exact(Rat.add_assoc _ _ _).symm
   exact⟨k+1,by omega,⟨by omega,trivial⟩,aG h0 [0,1,2] _ _ (by decide) ⟨rfl,rfl,rfl,rfl,rfl,rfl,rfl,trivial⟩ ⟨aQ rfl,oe rfl rfl,aQ (congrArg (fun q=>some (⟨49,0,((Fr4.of q).tr false).map .t⟩:Ob)) hst.symm),rfl⟩⟩
  refine sk ?_;refine rl ?_;refine o1 ?_;refine o1 ?_;refine WL.cast (t:=24) (u':=.int .i64 ((k+1:Nat):Int)) rfl (aH (by omega)) ?_
  refine o1 ?_;refine nl ?_
  have hst:((M.ring (y.toNat))+(cI (us.take (k+1)) fun u:Uf=>decide (u.y=y)&&(decide (u.v≤t)&&decide (y≤t))))=((M.ring (y.toNat))+(cI (us.take k) fun u:Uf=>decide (u.y=y)&&(decide (u.v≤t)&&decide (y≤t)))):=by rw[zT (us:=us) (k:=k) (dl:=fun u:Uf=>decide (u.y=y)&&(decide (u.v≤t)&&decide (y≤t))) (by omega) (h4)]
  exact⟨k+1,by omega,⟨by omega,trivial⟩,aG h0 [0,1,2] _ _ (by decide) ⟨rfl,rfl,rfl,rfl,rfl,rfl,rfl,trivial⟩ ⟨aQ rfl,oe rfl rfl,aQ (congrArg (fun q=>some (⟨49,0,((Fr4.of q).tr false).map .t⟩:Ob)) hst.symm),rfl⟩⟩
 refine ex ?_;refine sq ?_;refine rd [0,1,2] (fun i=>[9].contains i) mixed ?_
 refine aI 0 ?_;refine aI 1 ?_;refine dv 2 ?_;refine dv 3 ?_;refine WD.cast (t:=59) (u':=.int .i64 ((y.toNat:Nat):Int)) rfl (aH (by omega)) ?_
 refine dv 4 ?_
 refine cM 5 (bV (Fr4.of (M.inc (y.toNat)),Fr4.of (M.ring (y.toNat)))) (aP (f:=bV) (z:=8) (o:=0) cV (eB (M:=M) (N:=N) (y:=y.toNat) (by omega)) (Nat.le_of_ble_eq_true rfl) rfl) ?_
 refine aF 6 rfl (Fw (b:=.of (M.ring (y.toNat))) (Qn.of (p:=M.cap) hOk.cap) (Qn.of (p:=(M.inc (y.toNat))) (hOk.sz_inc (y:=y.toNat) (by omega))) (hOk.cap.mono (by omega)) ((hOk.sz_inc (y:=y.toNat) (by omega)).mono (by omega))) BK ⟨aB rfl,aB rfl,rfl⟩ (qF (.of (M.cap*abv (M.inc (y.toNat))))) ?_
 refine aF 7 rfl (uM (Qn.of (p:=((M.ring (y.toNat))+(cI (us.take k) fun u:Uf=>decide (u.y=y)&&(decide (u.v≤t)&&decide (y≤t))))) (dG (hOk.sz_ring (y:=y.toNat) (by omega)) (kY hJ _ _))) (Qn.of (p:=(M.cap*(abv (M.inc (y.toNat))))) (pL hOk.cap (cQ (hOk.sz_inc (y:=y.toNat) (by omega)) (by omega)))) ((dG (hOk.sz_ring (y:=y.toNat) (by omega)) (kY hJ _ _)).mono (by omega)) ((pL hOk.cap (cQ (hOk.sz_inc (y:=y.toNat) (by omega)) (by omega))).mono (by omega))) Fu ⟨aB rfl,aB rfl,rfl⟩ (.one (tv (.int .i64 (((M.ring (y.toNat))+(cI (us.take k) fun u:Uf=>decide (u.y=y)&&(decide (u.v≤t)&&decide (y≤t))))-(M.cap*(abv (M.inc (y.toNat))))).num.sign))) ?_
 refine df 8 ?_;refine cR 9 (by kernel_rfl) rfl rfl aA rfl (by trivial) ?_ (fun h=>by first | rfl | cases h)
 refine aJ ?_;refine rt ?_
 have hfin:(M.ring (y.toNat))+cI (us.take k) (fun u:Uf=>decide (u.y=y)&&(decide (u.v≤t)&&decide (y≤t)))=M.fulJ us y t:=by rw[uJ (by omega)];exact WM
 exact eL (.inl rfl) rfl (by rw[hfin];rfl)
namespace Mx
def bad4 (M:Mx) (rs:List Rf) (y:Nat):Bool:= !decide ((aR rs (y)).l.q=abv (-(M.inc y)))||(!decide ((aR rs (y)).m.q=M.cap*abv (M.inc y))||(decide ((aR rs (y)).e.q.num.sign<0)|| decide ((aR rs (y)).c.q.num.sign<0)))
def bad6 (M:Mx) (N:Nat) (rs:List Rf) (y:Nat):Bool:=(M.lateJ N y&&decide ((aR rs (y)).c.q.num.sign≠0))||(!M.lateJ N y&&decide ((aR rs (y)).e.q.num.sign≠0))
def bad8 (M:Mx) (rs:List Rf) (us:List Uf) (y:Nat):Bool:= !decide ((aR rs (y)).l.q=Mx.ofJ us ((y:Nat):Int)+((aR rs (y)).e.q+(aR rs (y)).c.q))||(!decide ((aR rs (y)).u.q=Mx.inJ us ((y:Nat):Int))||(decide (0<(Mx.inJ us ((y:Nat):Int)+M.ring y-(aR rs (y)).m.q).num.sign)|| !decide ((aR rs (y)).t.q=abv (M.inc y)-(Mx.inJ us ((y:Nat):Int)+M.ring y))))
end Mx
section
variable {M:Mx}{N y:Nat}{rs:List Rf}{us:List Uf}
theorem NW:decide (((y+M.w:Nat):Int)<((N:Nat):Int))=M.lateJ N y:=by
 unfold Mx.lateJ
 rw[decide_eq_decide]
 omega
theorem Xd:decide (((N:Nat):Int)≤((y+M.w:Nat):Int))= !M.lateJ N y:=by
 unfold Mx.lateJ
 rw[←decide_not,decide_eq_decide]
 omega
theorem Ab:M.goodR N rs us y=(!M.bad4 rs y&&(!M.bad6 N rs y&& !M.bad8 rs us y)):=by
 unfold Mx.goodR Mx.rowJ Mx.vinJ Mx.capJ Mx.vin5 Mx.bad4 Mx.bad6 Mx.bad8
 rw[Rat.add_assoc]
 generalize decide ((aR rs y).l.q=abv (-(M.inc y)))=b1
 generalize decide ((aR rs y).m.q=M.cap*abv (M.inc y))=b2
 generalize decide ((aR rs y).e.q.num.sign<0)=b3
 generalize decide ((aR rs y).c.q.num.sign<0)=b4
 generalize M.lateJ N y=b5
 generalize decide ((aR rs y).c.q.num.sign≠0)=b6
 generalize decide ((aR rs y).e.q.num.sign≠0)=b7
 cases b1 <;> cases b2 <;> cases b3 <;> cases b4 <;> cases b5 <;> cases b6 <;> cases b7 <;> simp
theorem NX (h:M.bad4 rs y=true):M.goodR N rs us y=false:=by rw[Ab,h];rfl
theorem NY (h:M.bad6 N rs y=true):M.goodR N rs us y=false:=by rw[Ab,h];simp
theorem NZ (h:M.bad8 rs us y=true):M.goodR N rs us y=false:=by rw[Ab,h];simp
theorem OA (h:M.bad4 rs y=false) (h2:M.bad6 N rs y=false) (h3:M.bad8 rs us y=false):M.goodR N rs us y=true:=by rw[Ab,h,h2,h3];rfl
end
theorem OB {M:Mx}{N:Nat}{rs:List Rf}{us:List Uf}(hOk:M.Ok N) (hJ:JOk rs us) (hl:rs.length=N){y:Nat}(hy:y<N):aE true Tryz.prog 61 [] [.agg (((Fr4.of M.cap).tr false++[.v (.int .i64 ((M.b:Nat):Int)),.v (.int .i64 ((M.w:Nat):Int))]:List Tr).map .t),.one (.t (jI (yrs M N))),.agg (([kA false rs,kB false us]:List Tr).map .t),.one (tv (.int .i64 ((y:Nat):Int)))] (aN (.one (tv (.bool (M.goodR N rs us y))))):=by
 refine bC Tryz.func61 rfl Tryz.ntmps61 rfl aA rfl fun N9 w9 c0 h0=>?_
 have h9l:=cK M N;have h9r:=hJ.rl;have h9u:=hJ.ul;have h9n:=hOk.n;have h9b:=hOk.b;have h9w:=hOk.w
 refine sq ?_;refine rl ?_;refine bx 0 ?_;refine bx 1 ?_;refine o1 ?_;refine nl ?_;refine sq ?_;refine rl ?_;refine o1 ?_;refine ld ?_;refine o1 ?_;refine o1 ?_
 refine cW ((jR false) (aR rs (y))) (aP (f:=(jR false)) (z:=24) (o:=0) (jL false) (iC (rs:=rs) (k:=y) (by omega)) (Nat.le_of_ble_eq_true rfl) rfl) ?_
 refine al 2 ?_;refine st ?_;refine nl ?_;refine sq ?_;refine rl ?_;refine ld ?_;refine o1 ?_
 refine ca (Xc (rs:=rs) (y:=((y:Nat):Int)) hJ) WN ⟨aB rfl,a1 rfl,rfl⟩ (qF (.of (Mx.inJ us ((y:Nat):Int)))) ?_;refine al 3 ?_;refine st ?_;refine nl ?_
 refine md (γ:=Unit) (fun _=>bS [(1,.one (.t (jI (yrs M N)))),(3,.one (tv (.int .i64 ((y:Nat):Int)))),(4,.one (.pt 0 0)),(6,.one (.pt 1 0)),(9,.one (.pt 2 0)),(10,.one (.pt 3 0)),(11,.one (.pt 4 0))]) (fun _=>([⟨58,0,(rG M).map .t⟩,⟨42,0,[.t (kA false rs),.t (kB false us)]⟩,⟨68,0,(jR false (aR rs (y))).map .t⟩,⟨49,0,((Fr4.of (Mx.inJ us ((y:Nat):Int))).tr false).map .t⟩,⟨49,0,((Fr4.of ((Mx.inJ us ((y:Nat):Int))+(M.ring (y)))).tr false).map .t⟩]:List Ob).map some) (fun _=>True) ?_ fun _ _=>?_
 ·refine rd [0,1,2,3] (fun i=>[8].contains i) mixed ?_
  refine aI 0 ?_;refine dv 1 ?_;refine dv 2 ?_;refine dv 3 ?_;refine dv 4 ?_
  refine cM 5 ((Fr4.of (M.ring (y))).tr false) (aP (f:=bV) (z:=8) (o:=4) cV (eB (M:=M) (N:=N) (y:=y) (by omega)) (Nat.le_of_ble_eq_true rfl) rfl) ?_
  refine WO.two (i:=6) (j:=7) (by kernel_rfl) ?_ ?_
  ·refine cX 6 rfl (lT (Qn.of (p:=(Mx.inJ us ((y:Nat):Int))) (dF hJ _)) (Qn.of (p:=(M.ring (y))) (hOk.sz_ring (y:=y) (by omega))) ((dF hJ _).mono (by omega)) ((hOk.sz_ring (y:=y) (by omega)).mono (by omega))) rM ⟨aB rfl,aB rfl,rfl⟩ (qF (.of ((Mx.inJ us ((y:Nat):Int))+(M.ring (y))))) ?_
   refine eN (key:=4) 7 (by kernel_rfl) rfl rfl aA rfl ⟨rfl,rfl,rfl,rfl,trivial⟩ ?_
   refine dst 8 ?_;refine aJ ?_
   exact⟨(),trivial,aG h0 [0,1,2,3,4] _ _ (by decide) ⟨rfl,rfl,rfl,rfl,rfl,rfl,rfl,trivial⟩ ⟨aQ rfl,oe rfl rfl,aQ rfl,oe rfl rfl,oe rfl rfl,rfl⟩⟩
  refine bI (key:=4) 7 rfl rfl aA rfl ⟨rfl,rfl,rfl,rfl,trivial⟩ ?_
  refine aF 6 rfl (lT (Qn.of (p:=(Mx.inJ us ((y:Nat):Int))) (dF hJ _)) (Qn.of (p:=(M.ring (y))) (hOk.sz_ring (y:=y) (by omega))) ((dF hJ _).mono (by omega)) ((hOk.sz_ring (y:=y) (by omega)).mono (by omega))) rM ⟨aB rfl,aB rfl,rfl⟩ (qF (.of ((Mx.inJ us ((y:Nat):Int))+(M.ring (y))))) ?_
  refine dst 8 ?_;refine aJ ?_
  exact⟨(),trivial,aG h0 [0,1,2,3,4] _ _ (by decide) ⟨rfl,rfl,rfl,rfl,rfl,rfl,rfl,trivial⟩ ⟨aQ rfl,oe rfl rfl,aQ rfl,oe rfl rfl,oe rfl rfl,rfl⟩⟩
 refine sq ?_
 refine md (γ:=Unit) (fun _=>bS [(1,.one (.t (jI (yrs M N)))),(3,.one (tv (.int .i64 ((y:Nat):Int)))),(4,.one (.pt 0 0)),(6,.one (.pt 1 0)),(9,.one (.pt 2 0)),(10,.one (.pt 3 0)),(11,.one (.pt 4 0)),(61,.one (tv (.bool (M.bad4 rs y))))]) (fun _=>([⟨58,0,(rG M).map .t⟩,⟨42,0,[.t (kA false rs),.t (kB false us)]⟩,⟨68,0,(jR false (aR rs (y))).map .t⟩,⟨49,0,((Fr4.of (Mx.inJ us ((y:Nat):Int))).tr false).map .t⟩,⟨49,0,((Fr4.of ((Mx.inJ us ((y:Nat):Int))+(M.ring (y)))).tr false).map .t⟩]:List Ob).map some) (fun _=>True) ?_ fun _ _=>?_
 ·refine rd [0,1,2,3,4] (fun i=>[].contains i) mixed ?_
  refine dv 0 ?_;refine aI 1 ?_;refine dv 2 ?_;refine dv 3 ?_;refine dv 4 ?_;refine dv 5 ?_
  refine cM 6 ((Fr4.of (M.inc (y))).tr false) (aP (f:=bV) (z:=8) (o:=0) cV (eB (M:=M) (N:=N) (y:=y) (by omega)) (Nat.le_of_ble_eq_true rfl) rfl) ?_
  refine aF 7 rfl (Wy (Qn.of (p:=(M.inc (y))) (hOk.sz_inc (y:=y) (by omega)))) NH ⟨aB rfl,rfl⟩ (qF (.of (-(M.inc (y))))) ?_
  refine aF 8 rfl (Fv (Qn.of (p:=(-(M.inc (y)))) (qQ (hOk.sz_inc (y:=y) (by omega))))) BJ ⟨aB rfl,rfl⟩ (qF (.of (abv (-(M.inc (y)))))) ?_
  refine aF 9 rfl (qR (hJ.r _ (aT (rs:=rs) (k:=y) (by omega))).1.qn (Qn.of (p:=(abv (-(M.inc (y))))) (cQ (qQ (hOk.sz_inc (y:=y) (by omega))) (by omega))) ((hJ.r _ (aT (rs:=rs) (k:=y) (by omega))).1.2.1.mono (by omega)) ((cQ (qQ (hOk.sz_inc (y:=y) (by omega))) (by omega)).mono (by omega))) yE ⟨aB rfl,aB rfl,rfl⟩ (.one (tv (.bool (decide ((aR rs (y)).l.q=(abv (-(M.inc (y))))))))) ?_
  refine WD.split (t:=36) rfl rfl (fun h1=>?_) (fun h1=>?_)
  ·refine df 10 ?_;refine df 11 ?_;refine dv 12 ?_;refine aI 13 ?_;refine aI 14 ?_;refine dv 15 ?_;refine dv 16 ?_;refine dv 17 ?_
   refine cM 18 (bV (Fr4.of (M.inc (y)),Fr4.of (M.ring (y)))) (aP (f:=bV) (z:=8) (o:=0) cV (eB (M:=M) (N:=N) (y:=y) (by omega)) (Nat.le_of_ble_eq_true rfl) rfl) ?_
   refine aF 19 rfl (Fw (b:=.of (M.ring (y))) (Qn.of (p:=M.cap) hOk.cap) (Qn.of (p:=(M.inc (y))) (hOk.sz_inc (y:=y) (by omega))) (hOk.cap.mono (by omega)) ((hOk.sz_inc (y:=y) (by omega)).mono (by omega))) BK ⟨aB rfl,aB rfl,rfl⟩ (qF (.of (M.cap*abv (M.inc (y))))) ?_
   refine aF 20 rfl (qR (hJ.r _ (aT (rs:=rs) (k:=y) (by omega))).2.1.qn (Qn.of (p:=(M.cap*(abv (M.inc (y))))) (pL hOk.cap (cQ (hOk.sz_inc (y:=y) (by omega)) (by omega)))) ((hJ.r _ (aT (rs:=rs) (k:=y) (by omega))).2.1.2.1.mono (by omega)) ((pL hOk.cap (cQ (hOk.sz_inc (y:=y) (by omega)) (by omega))).mono (by omega))) yE ⟨aB rfl,aB rfl,rfl⟩ (.one (tv (.bool (decide ((aR rs (y)).m.q=(M.cap*(abv (M.inc (y))))))))) ?_
   refine WD.split (t:=47) rfl rfl (fun h2=>?_) (fun h2=>?_)
   ·refine df 21 ?_;refine df 22 ?_;refine df 23 ?_;refine dv 24 ?_;refine aI 25 ?_
    refine aF 26 rfl (iA (hJ.r _ (aT (rs:=rs) (k:=y) (by omega))).2.2.2.2.1.qn) nY ⟨aB rfl,rfl⟩ (.one (tv (.int .i64 (aR rs (y)).e.q.num.sign))) ?_
    refine df 27 ?_;refine df 28 ?_;refine df 29 ?_;refine WD.split (t:=56) rfl rfl (fun h3=>?_) (fun h3=>?_)
    ·refine aC 30 ?_;refine aC 31 ?_;refine aC 32 ?_;refine aC 33 ?_;refine df 34 ?_;refine aJ ?_
     exact⟨(),trivial,aG h0 [0,1,2,3,4] _ _ (by decide) ⟨rfl,rfl,rfl,rfl,rfl,rfl,rfl,fQ (by simp only[Mx.bad4,decide_eq_true h1,decide_eq_true h2,decide_eq_true h3] <;> first | rfl | simp),trivial⟩ ⟨aQ rfl,oe rfl rfl,aQ rfl,oe rfl rfl,oe rfl rfl,rfl⟩⟩
    refine dv 30 ?_;refine aI 31 ?_
    refine aF 32 rfl (iA (hJ.r _ (aT (rs:=rs) (k:=y) (by omega))).2.2.2.2.2.qn) nY ⟨aB rfl,rfl⟩ (.one (tv (.int .i64 (aR rs (y)).c.q.num.sign))) ?_
    refine df 33 ?_;refine df 34 ?_;refine aJ ?_
    exact⟨(),trivial,aG h0 [0,1,2,3,4] _ _ (by decide) ⟨rfl,rfl,rfl,rfl,rfl,rfl,rfl,fQ (by simp only[Mx.bad4,decide_eq_true h1,decide_eq_true h2,decide_eq_false h3] <;> first | rfl | simp),trivial⟩ ⟨aQ rfl,oe rfl rfl,aQ rfl,oe rfl rfl,oe rfl rfl,rfl⟩⟩
   refine df 21 ?_;refine df 22 ?_;refine df 23 ?_;refine aC 24 ?_;refine aC 25 ?_;refine aC 26 ?_;refine aC 27 ?_;refine df 28 ?_;refine df 29 ?_;refine aC 30 ?_;refine aC 31 ?_
   refine aC 32 ?_;refine aC 33 ?_;refine df 34 ?_;refine aJ ?_
   exact⟨(),trivial,aG h0 [0,1,2,3,4] _ _ (by decide) ⟨rfl,rfl,rfl,rfl,rfl,rfl,rfl,fQ (by simp only[Mx.bad4,decide_eq_true h1,decide_eq_false h2] <;> first | rfl | simp),trivial⟩ ⟨aQ rfl,oe rfl rfl,aQ rfl,oe rfl rfl,oe rfl rfl,rfl⟩⟩
  refine df 10 ?_;refine df 11 ?_;refine aC 12 ?_;refine aC 13 ?_;refine aC 14 ?_;refine aC 15 ?_;refine aC 16 ?_;refine aC 17 ?_;refine aC 18 ?_;refine aC 19 ?_;refine aC 20 ?_
  refine aC 21 ?_;refine df 22 ?_;refine df 23 ?_;refine aC 24 ?_;refine aC 25 ?_;refine aC 26 ?_;refine aC 27 ?_;refine df 28 ?_;refine df 29 ?_;refine aC 30 ?_;refine aC 31 ?_
  refine aC 32 ?_;refine aC 33 ?_;refine df 34 ?_;refine aJ ?_
  exact⟨(),trivial,aG h0 [0,1,2,3,4] _ _ (by decide) ⟨rfl,rfl,rfl,rfl,rfl,rfl,rfl,fQ (by simp only[Mx.bad4,decide_eq_false h1] <;> first | rfl | simp),trivial⟩ ⟨aQ rfl,oe rfl rfl,aQ rfl,oe rfl rfl,oe rfl rfl,rfl⟩⟩
 refine lL rfl (fun h4=>?_) (fun h4=>?_)
 ·refine sq ?_;refine rl ?_;refine o1 ?_;refine nl ?_;refine rt ?_;exact eL (.inl rfl) rfl ((NX h4).symm)
 refine sk ?_;refine sq ?_
 refine md (γ:=Unit) (fun _=>bS [(1,.one (.t (jI (yrs M N)))),(3,.one (tv (.int .i64 ((y:Nat):Int)))),(6,.one (.pt 0 0)),(9,.one (.pt 1 0)),(10,.one (.pt 2 0)),(11,.one (.pt 3 0)),(89,.one (tv (.bool (M.bad6 N rs y))))]) (fun _=>([⟨42,0,[.t (kA false rs),.t (kB false us)]⟩,⟨68,0,(jR false (aR rs (y))).map .t⟩,⟨49,0,((Fr4.of (Mx.inJ us ((y:Nat):Int))).tr false).map .t⟩,⟨49,0,((Fr4.of ((Mx.inJ us ((y:Nat):Int))+(M.ring (y)))).tr false).map .t⟩]:List Ob).map some) (fun _=>True) ?_ fun _ _=>?_
 ·refine rl ?_;refine o1 ?_;refine o1 ?_;refine ld ?_;refine o1 ?_;refine WL.cast (t:=65) (u':=.int .i64 ((y+M.w:Nat):Int)) rfl (aH (by omega)) ?_
  refine o1 ?_;refine o1 ?_;refine WL.cast (t:=67) (u':=.int .i64 ((N:Nat):Int)) rfl (aH (by rw[cK])) ?_
  refine o1 ?_;refine WL.cast (t:=68) (u':=.bool (M.lateJ N y)) rfl (congrArg Value.bool NW) ?_;refine o1 ?_;refine WL.splitb (t:=69) rfl (fun h5=>?_) (fun h5=>?_)
  ·refine o1 ?_;refine ld ?_;refine ca (iA (hJ.r _ (aT (rs:=rs) (k:=y) (by omega))).2.2.2.2.2.qn) nY ⟨aB rfl,rfl⟩ (.one (tv (.int .i64 (aR rs (y)).c.q.num.sign))) ?_
   (iterate 3 refine o1 ?_);refine WL.split (t:=75) rfl (fun h6=>?_) (fun h6=>?_)
   ·(iterate 13 refine bF ?_);refine o1 ?_;refine nl ?_
    exact⟨(),trivial,aG h0 [1,2,3,4] _ _ (by decide) ⟨rfl,rfl,rfl,rfl,rfl,rfl,fQ (by simp only[Mx.bad6,h4,h5,decide_eq_true h6] <;> first | rfl | simp),trivial⟩ ⟨oe rfl rfl,aQ rfl,oe rfl rfl,oe rfl rfl,rfl⟩⟩
   refine o1 ?_;refine o1 ?_;refine ld ?_;refine o1 ?_;refine WL.cast (t:=79) (u':=.int .i64 ((y+M.w:Nat):Int)) rfl (aH (by omega)) ?_
   refine o1 ?_;refine o1 ?_;refine WL.cast (t:=81) (u':=.int .i64 ((N:Nat):Int)) rfl (aH (by rw[cK])) ?_
   refine o1 ?_;refine WL.cast (t:=82) (u':=.bool (!M.lateJ N y)) rfl (congrArg Value.bool Xd) ?_;refine o1 ?_
   refine WL.cast (t:=83) (u':=.bool false) rfl (congrArg Value.bool (VD h5)) ?_;(iterate 4 refine bF ?_);refine o1 ?_;refine o1 ?_;refine nl ?_
   exact⟨(),trivial,aG h0 [1,2,3,4] _ _ (by decide) ⟨rfl,rfl,rfl,rfl,rfl,rfl,fQ (by simp only[Mx.bad6,h4,h5,decide_eq_false h6] <;> first | rfl | simp),trivial⟩ ⟨oe rfl rfl,aQ rfl,oe rfl rfl,oe rfl rfl,rfl⟩⟩
  (iterate 4 refine bF ?_);(iterate 4 refine o1 ?_);refine ld ?_;refine o1 ?_;refine WL.cast (t:=79) (u':=.int .i64 ((y+M.w:Nat):Int)) rfl (aH (by omega)) ?_
  refine o1 ?_;refine o1 ?_;refine WL.cast (t:=81) (u':=.int .i64 ((N:Nat):Int)) rfl (aH (by rw[cK])) ?_
  refine o1 ?_;refine WL.cast (t:=82) (u':=.bool (!M.lateJ N y)) rfl (congrArg Value.bool Xd) ?_;refine o1 ?_
  refine WL.cast (t:=83) (u':=.bool true) rfl (congrArg Value.bool (VD h5)) ?_;refine o1 ?_;refine ld ?_
  refine ca (iA (hJ.r _ (aT (rs:=rs) (k:=y) (by omega))).2.2.2.2.1.qn) nY ⟨aB rfl,rfl⟩ (.one (tv (.int .i64 (aR rs (y)).e.q.num.sign))) ?_
  (iterate 3 refine o1 ?_);refine nl ?_
  exact⟨(),trivial,aG h0 [1,2,3,4] _ _ (by decide) ⟨rfl,rfl,rfl,rfl,rfl,rfl,fQ (by simp only[Mx.bad6,h4,h5] <;> first | rfl | simp),trivial⟩ ⟨oe rfl rfl,aQ rfl,oe rfl rfl,oe rfl rfl,rfl⟩⟩
 refine lL rfl (fun h7=>?_) (fun h7=>?_)
 ·refine sq ?_;refine rl ?_;refine o1 ?_;refine nl ?_;refine rt ?_;exact eL (.inl rfl) rfl ((NY h7).symm)
 refine sk ?_;refine sq ?_;refine md (γ:=Unit) (fun _=>bS [(130,.one (tv (.bool (M.bad8 rs us y))))]) (fun _=>([]:List Ob).map some) (fun _=>True) ?_ fun _ _=>?_
 ·refine rd [0,1,2,3] (fun i=>[].contains i) mixed ?_
  refine dv 0 ?_;refine aI 1 ?_;refine aI 2 ?_;refine dv 3 ?_;refine dv 5 ?_;refine aI 6 ?_;refine dv 7 ?_;refine aI 8 ?_
  refine aF 4 rfl (Ln (rs:=rs) (y:=((y:Nat):Int)) hJ) WQ ⟨aB rfl,a1 rfl,rfl⟩ (qF (.of (Mx.ofJ us ((y:Nat):Int)))) ?_
  refine aF 9 rfl (lT (hJ.r _ (aT (rs:=rs) (k:=y) (by omega))).2.2.2.2.1.qn (hJ.r _ (aT (rs:=rs) (k:=y) (by omega))).2.2.2.2.2.qn ((hJ.r _ (aT (rs:=rs) (k:=y) (by omega))).2.2.2.2.1.2.1.mono (by omega)) ((hJ.r _ (aT (rs:=rs) (k:=y) (by omega))).2.2.2.2.2.2.1.mono (by omega))) rM ⟨aB rfl,aB rfl,rfl⟩ (qF (.of ((aR rs (y)).e.q+(aR rs (y)).c.q))) ?_
  refine aF 10 rfl (lT (Qn.of (p:=(Mx.ofJ us ((y:Nat):Int))) (dF hJ _)) (Qn.of (p:=((aR rs (y)).e.q+(aR rs (y)).c.q)) (dG (hJ.r _ (aT (rs:=rs) (k:=y) (by omega))).2.2.2.2.1.2.1 (hJ.r _ (aT (rs:=rs) (k:=y) (by omega))).2.2.2.2.2.2.1)) ((dF hJ _).mono (by omega)) ((dG (hJ.r _ (aT (rs:=rs) (k:=y) (by omega))).2.2.2.2.1.2.1 (hJ.r _ (aT (rs:=rs) (k:=y) (by omega))).2.2.2.2.2.2.1).mono (by omega))) rM ⟨aB rfl,aB rfl,rfl⟩ (qF (.of ((Mx.ofJ us ((y:Nat):Int))+((aR rs (y)).e.q+(aR rs (y)).c.q)))) ?_
  refine aF 11 rfl (qR (hJ.r _ (aT (rs:=rs) (k:=y) (by omega))).1.qn (Qn.of (p:=((Mx.ofJ us ((y:Nat):Int))+((aR rs (y)).e.q+(aR rs (y)).c.q))) (dG (dF hJ _) (dG (hJ.r _ (aT (rs:=rs) (k:=y) (by omega))).2.2.2.2.1.2.1 (hJ.r _ (aT (rs:=rs) (k:=y) (by omega))).2.2.2.2.2.2.1))) ((hJ.r _ (aT (rs:=rs) (k:=y) (by omega))).1.2.1.mono (by omega)) ((dG (dF hJ _) (dG (hJ.r _ (aT (rs:=rs) (k:=y) (by omega))).2.2.2.2.1.2.1 (hJ.r _ (aT (rs:=rs) (k:=y) (by omega))).2.2.2.2.2.2.1)).mono (by omega))) yE ⟨aB rfl,aB rfl,rfl⟩ (.one (tv (.bool (decide ((aR rs (y)).l.q=((Mx.ofJ us ((y:Nat):Int))+((aR rs (y)).e.q+(aR rs (y)).c.q))))))) ?_
  refine WD.split (t:=101) rfl rfl (fun h8=>?_) (fun h8=>?_)
  ·refine df 12 ?_;refine df 13 ?_;refine dv 14 ?_;refine aI 15 ?_;refine aI 16 ?_
   refine aF 17 rfl (qR (hJ.r _ (aT (rs:=rs) (k:=y) (by omega))).2.2.1.qn (Qn.of (p:=(Mx.inJ us ((y:Nat):Int))) (dF hJ _)) ((hJ.r _ (aT (rs:=rs) (k:=y) (by omega))).2.2.1.2.1.mono (by omega)) ((dF hJ _).mono (by omega))) yE ⟨aB rfl,aB rfl,rfl⟩ (.one (tv (.bool (decide ((aR rs (y)).u.q=(Mx.inJ us ((y:Nat):Int))))))) ?_
   refine WD.split (t:=107) rfl rfl (fun h9=>?_) (fun h9=>?_)
   ·refine df 18 ?_;refine df 19 ?_;refine df 20 ?_;refine aI 21 ?_;refine dv 22 ?_;refine aI 23 ?_
    refine aF 24 rfl (uM (Qn.of (p:=((Mx.inJ us ((y:Nat):Int))+(M.ring (y)))) (dG (dF hJ _) (hOk.sz_ring (y:=y) (by omega)))) (hJ.r _ (aT (rs:=rs) (k:=y) (by omega))).2.1.qn ((dG (dF hJ _) (hOk.sz_ring (y:=y) (by omega))).mono (by omega)) ((hJ.r _ (aT (rs:=rs) (k:=y) (by omega))).2.1.2.1.mono (by omega))) Fu ⟨aB rfl,aB rfl,rfl⟩ (.one (tv (.int .i64 (((Mx.inJ us ((y:Nat):Int))+(M.ring (y)))-(aR rs (y)).m.q).num.sign))) ?_
    refine df 25 ?_;refine df 26 ?_;refine df 27 ?_;refine WD.split (t:=117) rfl rfl (fun h10=>?_) (fun h10=>?_)
    ·refine aC 28 ?_;refine aC 29 ?_;refine aC 30 ?_;refine aC 31 ?_;refine aC 32 ?_;refine aC 33 ?_;refine aC 34 ?_;refine aC 36 ?_;refine aC 35 ?_;refine aC 37 ?_
     refine aC 38 ?_;refine aC 39 ?_;refine df 40 ?_;refine aJ ?_
     exact⟨(),trivial,aG h0 [] _ _ (by decide) ⟨fQ (by simp only[Mx.bad8,h4,h7,decide_eq_true h8,decide_eq_true h9,decide_eq_true h10] <;> first | rfl | simp),trivial⟩ rfl⟩
    refine dv 28 ?_;refine aI 29 ?_;refine dv 30 ?_;refine dv 31 ?_;refine dv 32 ?_;refine dv 33 ?_
    refine cM 34 ((Fr4.of (M.inc (y))).tr false) (aP (f:=bV) (z:=8) (o:=0) cV (eB (M:=M) (N:=N) (y:=y) (by omega)) (Nat.le_of_ble_eq_true rfl) rfl) ?_
    refine aI 36 ?_;refine aF 35 rfl (Fv (Qn.of (p:=(M.inc (y))) (hOk.sz_inc (y:=y) (by omega)))) BJ ⟨aB rfl,rfl⟩ (qF (.of (abv (M.inc (y))))) ?_
    refine aF 37 rfl (mT (Qn.of (p:=(abv (M.inc (y)))) (cQ (hOk.sz_inc (y:=y) (by omega)) (by omega))) (Qn.of (p:=((Mx.inJ us ((y:Nat):Int))+(M.ring (y)))) (dG (dF hJ _) (hOk.sz_ring (y:=y) (by omega)))) ((cQ (hOk.sz_inc (y:=y) (by omega)) (by omega)).mono (by omega)) ((dG (dF hJ _) (hOk.sz_ring (y:=y) (by omega))).mono (by omega))) tN ⟨aB rfl,aB rfl,rfl⟩ (qF (.of ((abv (M.inc (y)))-((Mx.inJ us ((y:Nat):Int))+(M.ring (y)))))) ?_
    refine aF 38 rfl (qR (hJ.r _ (aT (rs:=rs) (k:=y) (by omega))).2.2.2.1.qn (Qn.of (p:=((abv (M.inc (y)))-((Mx.inJ us ((y:Nat):Int))+(M.ring (y))))) (Fx (cQ (hOk.sz_inc (y:=y) (by omega)) (by omega)) (dG (dF hJ _) (hOk.sz_ring (y:=y) (by omega))))) ((hJ.r _ (aT (rs:=rs) (k:=y) (by omega))).2.2.2.1.2.1.mono (by omega)) ((Fx (cQ (hOk.sz_inc (y:=y) (by omega)) (by omega)) (dG (dF hJ _) (hOk.sz_ring (y:=y) (by omega)))).mono (by omega))) yE ⟨aB rfl,aB rfl,rfl⟩ (.one (tv (.bool (decide ((aR rs (y)).t.q=((abv (M.inc (y)))-((Mx.inJ us ((y:Nat):Int))+(M.ring (y))))))))) ?_
    refine WD.split (t:=128) rfl rfl (fun h11=>?_) (fun h11=>?_)
    ·refine df 39 ?_;refine df 40 ?_;refine aJ ?_
     exact⟨(),trivial,aG h0 [] _ _ (by decide) ⟨fQ (by simp only[Mx.bad8,h4,h7,decide_eq_true h8,decide_eq_true h9,decide_eq_false h10,decide_eq_true h11] <;> first | rfl | simp),trivial⟩ rfl⟩
    refine df 39 ?_;refine df 40 ?_;refine aJ ?_
    exact⟨(),trivial,aG h0 [] _ _ (by decide) ⟨fQ (by simp only[Mx.bad8,h4,h7,decide_eq_true h8,decide_eq_true h9,decide_eq_false h10,decide_eq_false h11] <;> first | rfl | simp),trivial⟩ rfl⟩
   refine df 18 ?_;refine df 19 ?_;refine df 20 ?_;refine aC 21 ?_;refine aC 22 ?_;refine aC 23 ?_;refine aC 24 ?_;refine aC 25 ?_;refine df 26 ?_;refine df 27 ?_
   refine aC 28 ?_;refine aC 29 ?_;refine aC 30 ?_;refine aC 31 ?_;refine aC 32 ?_;refine aC 33 ?_;refine aC 34 ?_;refine aC 36 ?_;refine aC 35 ?_;refine aC 37 ?_
   refine aC 38 ?_;refine aC 39 ?_;refine df 40 ?_;refine aJ ?_
   exact⟨(),trivial,aG h0 [] _ _ (by decide) ⟨fQ (by simp only[Mx.bad8,h4,h7,decide_eq_true h8,decide_eq_false h9] <;> first | rfl | simp),trivial⟩ rfl⟩
  refine df 12 ?_;refine df 13 ?_;refine aC 14 ?_;refine aC 15 ?_;refine aC 16 ?_;refine aC 17 ?_;refine aC 18 ?_;refine df 19 ?_;refine df 20 ?_;refine aC 21 ?_
  refine aC 22 ?_;refine aC 23 ?_;refine aC 24 ?_;refine aC 25 ?_;refine df 26 ?_;refine df 27 ?_;refine aC 28 ?_;refine aC 29 ?_;refine aC 30 ?_;refine aC 31 ?_
  refine aC 32 ?_;refine aC 33 ?_;refine aC 34 ?_;refine aC 36 ?_;refine aC 35 ?_;refine aC 37 ?_;refine aC 38 ?_;refine aC 39 ?_;refine df 40 ?_;refine aJ ?_
  exact⟨(),trivial,aG h0 [] _ _ (by decide) ⟨fQ (by simp only[Mx.bad8,h4,h7,decide_eq_false h8] <;> first | rfl | simp),trivial⟩ rfl⟩
 refine lL rfl (fun h12=>?_) (fun h12=>?_)
 ·refine sq ?_;refine rl ?_;refine o1 ?_;refine nl ?_;refine rt ?_;exact eL (.inl rfl) rfl ((NZ h12).symm)
 refine sk ?_;refine sq ?_;refine rl ?_;refine o1 ?_;refine nl ?_;refine rt ?_;exact eL (.inl rfl) rfl ((OA h4 h7 h12).symm)
theorem BR {M:Mx}{N:Nat}{rs:List Rf}{us:List Uf}(hOk:M.Ok N) (hJ:JOk rs us) (hl:rs.length=N):aE true Tryz.prog 62 [] [.agg (((Fr4.of M.cap).tr false++[.v (.int .i64 ((M.b:Nat):Int)),.v (.int .i64 ((M.w:Nat):Int))]:List Tr).map .t),.one (.t (jI (yrs M N))),.agg (([kA false rs,kB false us]:List Tr).map .t)] (aN (.one (tv (.bool ((List.range N).all fun v=>(List.range N).all (M.greedR N rs us v)))))):=by
 refine bC Tryz.func62 rfl Tryz.ntmps62 rfl aA rfl fun N9 w9 c0 h0=>?_
 have h9l:=cK M N;have h9r:=hJ.rl;have h9u:=hJ.ul;have h9n:=hOk.n;have h9b:=hOk.b;have h9w:=hOk.w
 refine sq ?_;refine rl ?_;refine bx 0 ?_;refine bx 1 ?_;refine o1 ?_;refine nl ?_;refine sq ?_;refine sq ?_;refine rl ?_;refine o1 ?_;refine nl ?_;refine bl ?_
 refine lp (γ:=Nat) (fun k=>bS [(1,.one (.t (jI (yrs M N)))),(3,.one (.pt 0 0)),(5,.one (.pt 1 0)),(7,.one (tv (.int .i64 ((k:Nat):Int))))]) (fun k=>[(⟨58,0,(rG M).map .t⟩:Ob),⟨42,0,[.t (kA false rs),.t (kB false us)]⟩].map some) (fun k=>k≤N∧∀j,j<k→(fun v=>(List.range N).all (M.greedR N rs us v)) j=true) (fun k=>N-k) 0 ⟨Nat.zero_le _,f0⟩ (aG h0 [0,1] _ _ (by decide) ⟨rfl,rfl,rfl,rfl,trivial⟩ ⟨aQ rfl,oe rfl rfl,rfl⟩) fun k hk=>?_
 refine sq ?_;refine sq ?_;refine rl ?_;(iterate 3 refine o1 ?_);refine WL.cast (t:=12) (u':=.int .i64 ((N:Nat):Int)) rfl (aH (by rw[cK])) ?_
 refine o1 ?_;refine nl ?_;refine bP rfl (fun h1=>?_) (fun h1=>?_)
 ·refine sk ?_;refine sq ?_;refine bl ?_;refine sq ?_;refine rl ?_;refine o1 ?_;refine nl ?_;refine bl ?_
  refine lp (γ:=Nat) (fun i=>bS [(1,.one (.t (jI (yrs M N)))),(3,.one (.pt 0 0)),(5,.one (.pt 1 0)),(7,.one (tv (.int .i64 ((k:Nat):Int)))),(8,.one (tv (.int .i64 ((i:Nat):Int))))]) (fun i=>[(⟨58,0,(rG M).map .t⟩:Ob),⟨42,0,[.t (kA false rs),.t (kB false us)]⟩].map some) (fun i=>i≤N∧∀j,j<i→M.greedR N rs us k j=true) (fun i=>N-i) 0 ⟨Nat.zero_le _,f0⟩ (aG h0 [0,1] _ _ (by decide) ⟨rfl,rfl,rfl,rfl,rfl,trivial⟩ ⟨aQ rfl,oe rfl rfl,rfl⟩) fun i hi=>?_
  refine sq ?_;refine sq ?_;refine rl ?_;(iterate 3 refine o1 ?_);refine WL.cast (t:=18) (u':=.int .i64 ((N:Nat):Int)) rfl (aH (by rw[cK])) ?_
  refine o1 ?_;refine nl ?_;refine bP rfl (fun h2=>?_) (fun h2=>?_)
  ·refine sk ?_;refine sq ?_;refine bl ?_;refine sq ?_;refine sq ?_;refine rl ?_;refine ld ?_;(iterate 3 refine o1 ?_)
   refine ca (FA hOk hJ (v:=((k:Nat):Int)) (y:=((i:Nat):Int))) OC ⟨aB rfl,a1 rfl,a1 rfl,a1 rfl,rfl⟩ (.one (tv (.bool (M.win N ((k:Nat):Int) ((i:Nat):Int))))) ?_
   refine WL.splitb (t:=26) rfl (fun h3=>?_) (fun h3=>?_)
   ·refine o1 ?_;refine o1 ?_;refine ld ?_;refine o1 ?_;refine o1 ?_
    refine ca (SR (v:=((k:Nat):Int)) (y:=((i:Nat):Int)) hJ hl (by omega) (by omega)) ST ⟨aB rfl,a1 rfl,a1 rfl,rfl⟩ (qF (.of (Mx.remJ rs us ((k:Nat):Int) ((i:Nat):Int)))) ?_
    refine ca (iA (Qn.of (p:=(Mx.remJ rs us ((k:Nat):Int) ((i:Nat):Int))) (dG (dG (dF hJ _) (hJ.r _ (aT (rs:=rs) (k:=k) (by omega))).2.2.2.2.1.2.1) (hJ.r _ (aT (rs:=rs) (k:=k) (by omega))).2.2.2.2.2.2.1))) nY ⟨aB rfl,rfl⟩ (.one (tv (.int .i64 (Mx.remJ rs us ((k:Nat):Int) ((i:Nat):Int)).num.sign))) ?_
    refine o1 ?_;refine o1 ?_;refine nl ?_;refine bP rfl (fun h4=>?_) (fun h4=>?_)
    ·refine ex ?_;refine rl ?_;refine o1 ?_;refine o1 ?_;refine WL.cast (t:=21) (u':=.int .i64 ((i+1:Nat):Int)) rfl (aH (by omega)) ?_
     refine o1 ?_;refine nl ?_
     exact⟨i+1,by omega,⟨by omega,lJ hi.2 (by simp only[Mx.greedR,decide_eq_true h1,decide_eq_true h2,h3,decide_eq_true h4] <;> first | rfl | simp)⟩,aG h0 [0,1] _ _ (by decide) ⟨rfl,rfl,rfl,rfl,rfl,trivial⟩ ⟨aQ rfl,oe rfl rfl,rfl⟩⟩
    refine sk ?_;refine sq ?_;refine sq ?_;refine rl ?_;refine ld ?_;refine o1 ?_;refine ld ?_;(iterate 4 refine o1 ?_)
    refine ca (SS hOk hJ (y:=((i:Nat):Int)) (t:=(max ((k:Nat):Int) ((i:Nat):Int))) (by omega) (by omega)) SU ⟨aB rfl,a1 rfl,aB rfl,a1 rfl,a1 rfl,rfl⟩ (.one (tv (.bool (decide (0≤(M.fulJ us ((i:Nat):Int) (max ((k:Nat):Int) ((i:Nat):Int))-M.lim i).num.sign))))) ?_
    refine WL.splitb (t:=43) rfl (fun h5=>?_) (fun h5=>?_)
    ·refine o1 ?_;refine nl ?_;refine iH rfl ?_;refine sk ?_;refine sq ?_;refine rl ?_;refine o1 ?_;refine nl ?_;refine bl ?_
     refine lp (γ:=Nat) (fun j=>bS [(1,.one (.t (jI (yrs M N)))),(3,.one (.pt 0 0)),(5,.one (.pt 1 0)),(7,.one (tv (.int .i64 ((k:Nat):Int)))),(8,.one (tv (.int .i64 ((i:Nat):Int)))),(9,.one (tv (.int .i64 ((j:Nat):Int))))]) (fun j=>[(⟨58,0,(rG M).map .t⟩:Ob),⟨42,0,[.t (kA false rs),.t (kB false us)]⟩].map some) (fun j=>j≤us.length∧∀x,x<j→Mx.gqJ ((k:Nat):Int) ((i:Nat):Int) (bZ us x)=true) (fun j=>us.length-j) 0 ⟨Nat.zero_le _,f0⟩ (aG h0 [0,1] _ _ (by decide) ⟨rfl,rfl,rfl,rfl,rfl,rfl,trivial⟩ ⟨aQ rfl,oe rfl rfl,rfl⟩) fun j hj=>?_
     refine sq ?_;refine sq ?_;refine rl ?_;refine o1 ?_;refine o1 ?_;refine ld ?_;refine o1 ?_;refine o1 ?_;refine nl ?_;refine bP rfl (fun h6=>?_) (fun h6=>?_)
     ·refine sk ?_;refine sq ?_;refine bl ?_
      refine md (γ:=Unit) (fun _=>bS [(1,.one (.t (jI (yrs M N)))),(3,.one (.pt 0 0)),(5,.one (.pt 1 0)),(7,.one (tv (.int .i64 ((k:Nat):Int)))),(8,.one (tv (.int .i64 ((i:Nat):Int)))),(9,.one (tv (.int .i64 ((j:Nat):Int)))),(79,.one (tv (.bool (!Mx.gqJ ((k:Nat):Int) ((i:Nat):Int) (bZ us (j))))))]) (fun _=>([⟨58,0,(rG M).map .t⟩,⟨42,0,[.t (kA false rs),.t (kB false us)]⟩]:List Ob).map some) (fun _=>True) ?_ fun _ _=>?_
      ·refine rl ?_;refine o1 ?_;refine ld ?_;(iterate 3 refine o1 ?_)
       refine cW ([.v (.int .i64 (bZ us (j)).y)]) (aP (f:=(fR false)) (z:=14) (o:=1) (fE false) (dS (us:=us) (k:=j) (by omega)) (Nat.le_of_ble_eq_true rfl) rfl) ?_
       (iterate 3 refine o1 ?_);refine WL.split (t:=60) rfl (fun h7=>?_) (fun h7=>?_)
       ·refine o1 ?_;refine ld ?_;(iterate 3 refine o1 ?_)
        refine cW ([.v (.int .i64 (bZ us (j)).v)]) (aP (f:=(fR false)) (z:=14) (o:=0) (fE false) (dS (us:=us) (k:=j) (by omega)) (Nat.le_of_ble_eq_true rfl) rfl) ?_
        (iterate 4 refine o1 ?_);refine WL.split (t:=70) rfl (fun h8=>?_) (fun h8=>?_)
        ·refine o1 ?_;refine o1 ?_;refine ld ?_;(iterate 3 refine o1 ?_)
         refine cW ([.v (.int .i64 (bZ us (j)).v)]) (aP (f:=(fR false)) (z:=14) (o:=0) (fE false) (dS (us:=us) (k:=j) (by omega)) (Nat.le_of_ble_eq_true rfl) rfl) ?_
         refine o1 ?_;refine o1 ?_;refine nl ?_
         exact⟨(),trivial,aG h0 [0,1] _ _ (by decide) ⟨rfl,rfl,rfl,rfl,rfl,rfl,fQ (by simp only[Mx.gqJ,decide_eq_true h1,decide_eq_true h2,h3,decide_eq_false h4,h5,decide_eq_true h6,decide_eq_true h7,decide_eq_true h8] <;> first | rfl | simp),trivial⟩ ⟨aQ rfl,oe rfl rfl,rfl⟩⟩
        (iterate 8 refine bF ?_);refine o1 ?_;refine nl ?_
        exact⟨(),trivial,aG h0 [0,1] _ _ (by decide) ⟨rfl,rfl,rfl,rfl,rfl,rfl,fQ (by simp only[Mx.gqJ,decide_eq_true h1,decide_eq_true h2,h3,decide_eq_false h4,h5,decide_eq_true h6,decide_eq_true h7,decide_eq_false h8] <;> first | rfl | simp),trivial⟩ ⟨aQ rfl,oe rfl rfl,rfl⟩⟩
       (iterate 8 refine bF ?_);refine o1 ?_;refine o1 ?_;(iterate 8 refine bF ?_);refine o1 ?_;refine nl ?_
       exact⟨(),trivial,aG h0 [0,1] _ _ (by decide) ⟨rfl,rfl,rfl,rfl,rfl,rfl,fQ (by simp only[Mx.gqJ,decide_eq_true h1,decide_eq_true h2,h3,decide_eq_false h4,h5,decide_eq_true h6,decide_eq_false h7] <;> first | rfl | simp),trivial⟩ ⟨aQ rfl,oe rfl rfl,rfl⟩⟩
      refine lL rfl (fun h9=>?_) (fun h9=>?_)
      ·refine sq ?_;refine rl ?_;refine o1 ?_;refine nl ?_;refine rt ?_
       exact eL (.inl rfl) rfl ((kD (k:=k) (by omega) (kD (k:=i) (by omega) (by simp only[Mx.greedR,Pt (k:=j) (by omega) (Xa h9),h3,decide_eq_false h4,h5] <;> first | rfl | simp))).symm)
      refine sk ?_;refine rl ?_;refine o1 ?_;refine o1 ?_;refine WL.cast (t:=51) (u':=.int .i64 ((j+1:Nat):Int)) rfl (aH (by omega)) ?_
      refine o1 ?_;refine nl ?_
      exact⟨j+1,by omega,⟨by omega,lJ (f:=fun x=>Mx.gqJ ((k:Nat):Int) ((i:Nat):Int) (bZ us x)) hj.2 (Wz h9)⟩,aG h0 [0,1] _ _ (by decide) ⟨rfl,rfl,rfl,rfl,rfl,rfl,trivial⟩ ⟨aQ rfl,oe rfl rfl,rfl⟩⟩
     refine ex ?_;refine rl ?_;refine o1 ?_;refine o1 ?_;refine WL.cast (t:=21) (u':=.int .i64 ((i+1:Nat):Int)) rfl (aH (by omega)) ?_
     refine o1 ?_;refine nl ?_
     exact⟨i+1,by omega,⟨by omega,lJ hi.2 (by simp only[Mx.greedR,decide_eq_true h1,decide_eq_true h2,h3,decide_eq_false h4,h5,decide_eq_false h6,Kv (by omega) hj.2] <;> first | rfl | simp)⟩,aG h0 [0,1] _ _ (by decide) ⟨rfl,rfl,rfl,rfl,rfl,trivial⟩ ⟨aQ rfl,oe rfl rfl,rfl⟩⟩
    refine o1 ?_;refine nl ?_;refine gL rfl ?_;refine sq ?_;refine rl ?_;refine o1 ?_;refine nl ?_;refine rt ?_
    exact eL (.inl rfl) rfl ((kD (k:=k) (by omega) (kD (k:=i) (by omega) (by simp only[Mx.greedR,decide_eq_true h1,decide_eq_true h2,h3,decide_eq_false h4,h5] <;> first | rfl | simp))).symm)
   refine o1 ?_;refine o1 ?_;(iterate 6 refine bF ?_);refine o1 ?_;refine nl ?_;refine gL rfl ?_;refine ex ?_;refine rl ?_;refine o1 ?_;refine o1 ?_
   refine WL.cast (t:=21) (u':=.int .i64 ((i+1:Nat):Int)) rfl (aH (by omega)) ?_
   refine o1 ?_;refine nl ?_
   exact⟨i+1,by omega,⟨by omega,lJ hi.2 (by simp only[Mx.greedR,decide_eq_true h1,decide_eq_true h2,h3] <;> first | rfl | simp)⟩,aG h0 [0,1] _ _ (by decide) ⟨rfl,rfl,rfl,rfl,rfl,trivial⟩ ⟨aQ rfl,oe rfl rfl,rfl⟩⟩
  refine ex ?_;refine rl ?_;refine o1 ?_;refine o1 ?_;refine WL.cast (t:=15) (u':=.int .i64 ((k+1:Nat):Int)) rfl (aH (by omega)) ?_
  refine o1 ?_;refine nl ?_
  exact⟨k+1,by omega,⟨by omega,lJ hk.2 (lV (k:=i) (by omega) hi.2)⟩,aG h0 [0,1] _ _ (by decide) ⟨rfl,rfl,rfl,rfl,trivial⟩ ⟨aQ rfl,oe rfl rfl,rfl⟩⟩
 refine ex ?_;refine sq ?_;refine rl ?_;refine o1 ?_;refine nl ?_;refine rt ?_;exact eL (.inl rfl) rfl ((lV (k:=k) (by omega) hk.2).symm)
theorem OD {c:Fr4}{bk fw:Int}{ys:List (Fr4×Fr4)}(hs:Sm c ys) (h:cY c bk fw ys=0):aE true Tryz.prog 40 [] [.agg ((c.tr false++[.v (.int .i64 bk),.v (.int .i64 fw)]:List Tr).map .t),.one (.t (jI ys))] (aN (.one (tv (.int .i64 0)))):=by
 have h9:=SE (bk:=bk) (fw:=fw) hs
 rwa[h]at h9
theorem BS {M:Mx}{N:Nat}{rs:List Rf}{us:List Uf}(hOk:M.Ok N) (hJ:JOk rs us) (hsm:Sm (Fr4.of M.cap) (yrs M N)) (hm:cY (Fr4.of M.cap) ((M.b:Nat):Int) ((M.w:Nat):Int) (yrs M N)=0):aE true Tryz.prog 25 [] [.agg (((Fr4.of M.cap).tr false++[.v (.int .i64 ((M.b:Nat):Int)),.v (.int .i64 ((M.w:Nat):Int))]:List Tr).map .t),.one (.t (jI (yrs M N))),.agg (([kA false rs,kB false us]:List Tr).map .t)] (aN (.one (tv (.int .i64 (if M.judgeR N rs us=true then 0 else 270))))):=by
 refine bC Tryz.func25 rfl Tryz.ntmps25 rfl aA rfl fun N9 w9 c0 h0=>?_
 have h9l:=cK M N;have h9r:=hJ.rl;have h9u:=hJ.ul;have h9n:=hOk.n;have h9b:=hOk.b;have h9w:=hOk.w
 refine sq ?_;refine rl ?_;refine bx 0 ?_;refine bx 1 ?_;refine o1 ?_;refine nl ?_;refine sq ?_;refine rl ?_;refine ld ?_;refine o1 ?_
 refine ca (OD hsm hm) WR ⟨aB rfl,a1 rfl,rfl⟩ (.one (tv (.int .i64 0))) ?_;refine o1 ?_;refine nl ?_;refine sq ?_;refine sq ?_;refine rl ?_;refine o1 ?_;refine o1 ?_;refine nl ?_
 refine bP rfl (fun h1=>?_) (fun h1=>?_)
 ·exact absurd rfl h1
 refine sk ?_;refine sq ?_;refine sq ?_;refine rl ?_;refine o1 ?_;refine ld ?_;(iterate 3 refine o1 ?_)
 refine WL.cast (t:=21) (u':=.int .i64 ((N:Nat):Int)) rfl (aH (by rw[cK])) ?_
 refine o1 ?_;refine nl ?_;refine bP rfl (fun h2=>?_) (fun h2=>?_)
 ·refine sq ?_;refine rl ?_;refine o1 ?_;refine nl ?_;refine rt ?_
  exact en (.inl rfl) rfl (aO (bL _)) (by decide) (fun _=>trivial) (congrArg (fun z=>FV.one (tv (.int .i64 z))) (by rw[MV (by omega)];rfl))
 refine sk ?_;refine sq ?_;refine sq ?_;have hl:rs.length=N:=by omega
 refine rl ?_;refine o1 ?_;refine nl ?_;refine bl ?_
 refine lp (γ:=Nat) (fun k=>bS [(1,.one (.t (jI (yrs M N)))),(3,.one (.pt 0 0)),(5,.one (.pt 1 0)),(8,.one (tv (.int .i64 ((k:Nat):Int))))]) (fun k=>[(⟨58,0,(rG M).map .t⟩:Ob),⟨42,0,[.t (kA false rs),.t (kB false us)]⟩].map some) (fun k=>k≤us.length∧∀x,x<k→M.useJ N (bZ us x)=true) (fun k=>us.length-k) 0 ⟨Nat.zero_le _,f0⟩ (aG h0 [0,1] _ _ (by decide) ⟨rfl,rfl,rfl,rfl,trivial⟩ ⟨aQ rfl,oe rfl rfl,rfl⟩) fun k hk=>?_
 refine sq ?_;refine sq ?_;refine rl ?_;refine o1 ?_;refine o1 ?_;refine ld ?_;refine o1 ?_;refine o1 ?_;refine nl ?_;refine bP rfl (fun h3=>?_) (fun h3=>?_)
 ·refine sk ?_;refine sq ?_;refine bl ?_;refine sq ?_;refine rl ?_;refine o1 ?_;refine ld ?_;refine o1 ?_;refine o1 ?_
  refine cW ((fR false) (bZ us (k))) (aP (f:=(fR false)) (z:=14) (o:=0) (fE false) (dS (us:=us) (k:=k) (by omega)) (Nat.le_of_ble_eq_true rfl) rfl) ?_
  refine al 2 ?_;refine st ?_;refine nl ?_
  refine md (γ:=Unit) (fun _=>bS [(1,.one (.t (jI (yrs M N)))),(3,.one (.pt 0 0)),(5,.one (.pt 1 0)),(8,.one (tv (.int .i64 ((k:Nat):Int)))),(60,.one (tv (.bool (!M.useJ N (bZ us (k))))))]) (fun _=>([⟨58,0,(rG M).map .t⟩,⟨42,0,[.t (kA false rs),.t (kB false us)]⟩]:List Ob).map some) (fun _=>True) ?_ fun _ _=>?_
  ·refine rl ?_;refine ld ?_;refine o1 ?_;refine o1 ?_;refine ld ?_;refine o1 ?_;refine ld ?_
   refine ca (FA hOk hJ (v:=(bZ us (k)).v) (y:=(bZ us (k)).y)) OC ⟨aB rfl,a1 rfl,a1 rfl,a1 rfl,rfl⟩ (.one (tv (.bool (M.win N (bZ us (k)).v (bZ us (k)).y)))) ?_
   refine WL.splitb (t:=41) rfl (fun h4=>?_) (fun h4=>?_)
   ·(iterate 3 refine o1 ?_);refine ld ?_
    refine ca (iA (hJ.u _ (dZ (us:=us) (k:=k) (by omega))).1.qn) nY ⟨aB rfl,rfl⟩ (.one (tv (.int .i64 (bZ us (k)).n.q.num.sign))) ?_
    (iterate 3 refine o1 ?_);refine WL.split (t:=49) rfl (fun h5=>?_) (fun h5=>?_)
    ·(iterate 4 refine bF ?_);refine o1 ?_;refine o1 ?_;(iterate 4 refine bF ?_);refine o1 ?_;refine nl ?_
     exact⟨(),trivial,aG h0 [0,1] _ _ (by decide) ⟨rfl,rfl,rfl,rfl,fQ (by simp only[Mx.useJ,decide_eq_false h1,decide_eq_false h2,decide_eq_true h3,h4,decide_eq_true h5] <;> first | rfl | simp),trivial⟩ ⟨aQ rfl,oe rfl rfl,rfl⟩⟩
    refine o1 ?_;refine ld ?_;refine ca (iA (hJ.u _ (dZ (us:=us) (k:=k) (by omega))).2.1.qn) nY ⟨aB rfl,rfl⟩ (.one (tv (.int .i64 (bZ us (k)).p.q.num.sign))) ?_
    (iterate 3 refine o1 ?_);refine WL.split (t:=55) rfl (fun h6=>?_) (fun h6=>?_)
    ·(iterate 4 refine bF ?_);refine o1 ?_;refine nl ?_
     exact⟨(),trivial,aG h0 [0,1] _ _ (by decide) ⟨rfl,rfl,rfl,rfl,fQ (by simp only[Mx.useJ,decide_eq_false h1,decide_eq_false h2,decide_eq_true h3,h4,decide_eq_false h5,decide_eq_true h6] <;> first | rfl | simp),trivial⟩ ⟨aQ rfl,oe rfl rfl,rfl⟩⟩
    refine o1 ?_;refine ld ?_;refine ca (iA (hJ.u _ (dZ (us:=us) (k:=k) (by omega))).2.2.qn) nY ⟨aB rfl,rfl⟩ (.one (tv (.int .i64 (bZ us (k)).q.q.num.sign))) ?_
    refine o1 ?_;refine o1 ?_;refine nl ?_
    exact⟨(),trivial,aG h0 [0,1] _ _ (by decide) ⟨rfl,rfl,rfl,rfl,fQ (by simp only[Mx.useJ,decide_eq_false h1,decide_eq_false h2,decide_eq_true h3,h4,decide_eq_false h5,decide_eq_false h6] <;> first | rfl | simp),trivial⟩ ⟨aQ rfl,oe rfl rfl,rfl⟩⟩
   refine o1 ?_;refine o1 ?_;(iterate 4 refine bF ?_);refine o1 ?_;refine o1 ?_;(iterate 4 refine bF ?_);refine o1 ?_;refine o1 ?_;(iterate 4 refine bF ?_);refine o1 ?_
   refine nl ?_
   exact⟨(),trivial,aG h0 [0,1] _ _ (by decide) ⟨rfl,rfl,rfl,rfl,fQ (by simp only[Mx.useJ,decide_eq_false h1,decide_eq_false h2,decide_eq_true h3,h4] <;> first | rfl | simp),trivial⟩ ⟨aQ rfl,oe rfl rfl,rfl⟩⟩
  refine lL rfl (fun h7=>?_) (fun h7=>?_)
  ·refine sq ?_;refine rl ?_;refine o1 ?_;refine nl ?_;refine rt ?_
   exact en (.inl rfl) rfl (aO (bL _)) (by decide) (fun _=>trivial) (congrArg (fun z=>FV.one (tv (.int .i64 z))) (by rw[MW (Pt (k:=k) (by omega) (Xa h7))];rfl))
  refine sk ?_;refine rl ?_;refine o1 ?_;refine o1 ?_;refine WL.cast (t:=29) (u':=.int .i64 ((k+1:Nat):Int)) rfl (aH (by omega)) ?_
  refine o1 ?_;refine nl ?_
  exact⟨k+1,by omega,⟨by omega,lJ (f:=fun x=>M.useJ N (bZ us x)) hk.2 (Wz h7)⟩,aG h0 [0,1] _ _ (by decide) ⟨rfl,rfl,rfl,rfl,trivial⟩ ⟨aQ rfl,oe rfl rfl,rfl⟩⟩
 refine ex ?_;refine sq ?_;refine sq ?_;refine rl ?_;refine o1 ?_;refine nl ?_;refine bl ?_
 refine lp (γ:=Nat) (fun i=>bS [(1,.one (.t (jI (yrs M N)))),(3,.one (.pt 0 0)),(5,.one (.pt 1 0)),(10,.one (tv (.int .i64 ((i:Nat):Int))))]) (fun i=>[(⟨58,0,(rG M).map .t⟩:Ob),⟨42,0,[.t (kA false rs),.t (kB false us)]⟩].map some) (fun i=>i≤N∧∀j,j<i→M.goodR N rs us j=true) (fun i=>N-i) 0 ⟨Nat.zero_le _,f0⟩ (aG h0 [0,1] _ _ (by decide) ⟨rfl,rfl,rfl,rfl,trivial⟩ ⟨aQ rfl,oe rfl rfl,rfl⟩) fun i hi=>?_
 refine sq ?_;refine sq ?_;refine rl ?_;(iterate 3 refine o1 ?_);refine WL.cast (t:=63) (u':=.int .i64 ((N:Nat):Int)) rfl (aH (by rw[cK])) ?_
 refine o1 ?_;refine nl ?_;refine bP rfl (fun h8=>?_) (fun h8=>?_)
 ·refine sk ?_;refine sq ?_;refine bl ?_;refine sq ?_;refine rl ?_;refine ld ?_;refine o1 ?_;refine ld ?_;refine o1 ?_
  refine ca (OB hOk hJ hl (y:=i) (by omega)) WS ⟨aB rfl,a1 rfl,aB rfl,a1 rfl,rfl⟩ (.one (tv (.bool (M.goodR N rs us i)))) ?_
  refine WL.splitb (t:=71) rfl (fun h9=>?_) (fun h9=>?_)
  ·refine o1 ?_;refine nl ?_;refine iH rfl ?_;refine sk ?_;refine rl ?_;refine o1 ?_;refine o1 ?_
   refine WL.cast (t:=66) (u':=.int .i64 ((i+1:Nat):Int)) rfl (aH (by omega)) ?_
   refine o1 ?_;refine nl ?_;exact⟨i+1,by omega,⟨by omega,lJ hi.2 h9⟩,aG h0 [0,1] _ _ (by decide) ⟨rfl,rfl,rfl,rfl,trivial⟩ ⟨aQ rfl,oe rfl rfl,rfl⟩⟩
  refine o1 ?_;refine nl ?_;refine gL rfl ?_;refine sq ?_;refine rl ?_;refine o1 ?_;refine nl ?_;refine rt ?_
  exact en (.inl rfl) rfl (aO (bL _)) (by decide) (fun _=>trivial) (congrArg (fun z=>FV.one (tv (.int .i64 z))) (by rw[HP (kD (k:=i) (by omega) h9)];rfl))
 refine ex ?_;refine sq ?_;refine sq ?_;refine rl ?_;refine ld ?_;refine o1 ?_;refine ld ?_
 refine ca (BR hOk hJ hl) WT ⟨aB rfl,a1 rfl,aB rfl,rfl⟩ (.one (tv (.bool ((List.range N).all fun v=>(List.range N).all (M.greedR N rs us v))))) ?_
 refine WL.splitb (t:=76) rfl (fun h10=>?_) (fun h10=>?_)
 ·refine o1 ?_;refine nl ?_;refine iH rfl ?_;refine sk ?_;refine sq ?_;refine rl ?_;refine o1 ?_;refine nl ?_;refine rt ?_
  exact en (.inl rfl) rfl (aO (bL _)) (by decide) (fun _=>trivial) (congrArg (fun z=>FV.one (tv (.int .i64 z))) (by rw[RU hl (Kv (k:=k) (by omega) hk.2) (lV (k:=i) (by omega) hi.2) h10];rfl))
 refine o1 ?_;refine nl ?_;refine gL rfl ?_;refine sq ?_;refine rl ?_;refine o1 ?_;refine nl ?_;refine rt ?_
 exact en (.inl rfl) rfl (aO (bL _)) (by decide) (fun _=>trivial) (congrArg (fun z=>FV.one (tv (.int .i64 z))) (by rw[AT h10];rfl))
theorem Ac {xs:List Nat}(hx:xs.length≤1099511627776):aE true Tryz.prog 65 [] [.one (.t (sU false xs))] (aN (.one (.t (sU true xs)))):=by
 refine bC Tryz.func65 rfl Tryz.ntmps65 rfl aA rfl fun N w c0 h0=>?_
 refine sq ?_;refine rl ?_;refine o1 ?_;refine nl ?_;refine sq ?_;refine rl ?_;refine o1 ?_;refine nl ?_;refine sq ?_;refine rl ?_;refine o1 ?_;refine o1 ?_
 refine kK (j:=0) aA rfl rfl rfl rfl .nil .fz (OE _) (BT _) rfl (by omega) (by omega) ?_
 refine o1 ?_;refine nl ?_;refine rt ?_
 exact en (.inl rfl) rfl (aO (.one (.sl rfl rfl (by rw[Nat.zero_add,Nat.mul_one,List.nil_append,List.take_of_length_le (by simp[iW])]) (by simp[iW])))) (by decide) (fun _=>.inl ⟨rfl,fI xs⟩) (by simp[aN,sU])
theorem dP {a:Fr4}(ha:a.len 1099511627776):aE true Tryz.prog 28 [] [qF a] (aN (rO a)):=by
 refine bC Tryz.func28 rfl Tryz.ntmps28 rfl aA rfl fun N w c0 h0=>?_
 refine sq ?_;refine rl ?_;refine bx 0 ?_;refine al 1 ?_;refine nl ?_;refine sq ?_;refine rd [0,1] (fun i=>[17].contains i) mixed ?_
 refine dv 0 ?_;refine dv 1 ?_;refine aI 2 ?_;refine dv 3 ?_;refine dv 4 ?_;refine aI 5 ?_;refine dv 8 ?_;refine dv 9 ?_;refine aI 10 ?_;refine dv 11 ?_;refine dv 12 ?_;refine aI 13 ?_
 refine kG 2 6 rfl (Ac ha.1) Ts ⟨a1 rfl,rfl⟩ ?_;refine df 7 ?_;refine kG 3 14 rfl (Ac ha.2) Ts ⟨a1 rfl,rfl⟩ ?_;refine df 15 ?_;refine df 16 ?_;refine dst 17 ?_;refine aJ ?_
 refine rt ?_
 exact en (.inl rfl) rfl (aO (.agg (.cons (.id rfl) (.cons (.sl (trs:=aV a.x) rfl rfl (bB _) (aY _)) (.cons (.id rfl) (.cons (.sl (trs:=aV a.y) rfl rfl (bB _) (aY _)) .nil)))))) (by decide) (fun _=>uP a) rfl
theorem IL {a:Fr4}(ha:a.len 1099511627776):aE true Tryz.prog 68 [] [qF a] (aN (rO a)):=by
 refine bC Tryz.func68 rfl Tryz.ntmps68 rfl aA rfl fun N w c0 h0=>?_
 refine sq ?_;refine rl ?_;refine bx 0 ?_;refine al 1 ?_;refine nl ?_;refine sq ?_;refine rd [0,1] (fun i=>[17].contains i) mixed ?_
 refine dv 0 ?_;refine dv 1 ?_;refine aI 2 ?_;refine dv 3 ?_;refine dv 4 ?_;refine aI 5 ?_;refine dv 8 ?_;refine dv 9 ?_;refine aI 10 ?_;refine dv 11 ?_;refine dv 12 ?_;refine aI 13 ?_
 refine kG 2 6 rfl (Ac ha.1) Ts ⟨a1 rfl,rfl⟩ ?_;refine df 7 ?_;refine kG 3 14 rfl (Ac ha.2) Ts ⟨a1 rfl,rfl⟩ ?_;refine df 15 ?_;refine df 16 ?_;refine dst 17 ?_;refine aJ ?_
 refine rt ?_
 exact en (.inl rfl) rfl (aO (.agg (.cons (.id rfl) (.cons (.sl (trs:=aV a.x) rfl rfl (bB _) (aY _)) (.cons (.id rfl) (.cons (.sl (trs:=aV a.y) rfl rfl (bB _) (aY _)) .nil)))))) (by decide) (fun _=>uP a) rfl
theorem yF {n d:Int}(h1:-9223372036854775808≤n) (h2:n≤9223372036854775807) (h3:-9223372036854775808≤d) (h4:d≤9223372036854775807):aE true Tryz.prog 32 [] [.one (tv (.int .i64 n)),.one (tv (.int .i64 d))] (aN (qO (Rat.divInt n d))):=by
 refine bC Tryz.func32 rfl Tryz.ntmps32 rfl aA rfl fun N w c0 h0=>?_
 have hs:=eV h1 h2 h3 h4
 have hl:(Fr4.of (Rat.divInt n d)).len 1099511627776:=⟨Nat.le_trans hs.1 (by omega),Nat.le_trans hs.2 (by omega)⟩
 refine sq ?_;refine rl ?_;refine al 0 ?_;refine nl ?_;refine sq ?_;refine rl ?_;refine o1 ?_;refine o1 ?_
 refine ca (SD h1 h2 h3 h4) WU ⟨a1 rfl,a1 rfl,rfl⟩ (.tup [qF (.of (Rat.divInt n d)),.one (tv (.int .i64 (if d=0 then 20 else 0)))]) ?_;(iterate 3 refine o1 ?_);refine al 1 ?_;refine st ?_
 refine o1 ?_;refine nl ?_;refine sq ?_;refine rl ?_;refine ld ?_;refine iI 2 (IL (a:=.of (Rat.divInt n d)) hl) WV ⟨aB rfl,rfl⟩ ?_;refine st ?_;refine nl ?_;refine rt ?_
 exact en (.inl rfl) rfl (aO (.agg (.cons (.id rfl) (.cons (.sl (trs:=aV (dg 4294967296 (Rat.divInt n d).num.natAbs)) rfl rfl (bB _) (aY _)) (.cons (.id rfl) (.cons (.sl (trs:=aV (dg 4294967296 (Rat.divInt n d).den)) rfl rfl (bB _) (aY _)) .nil)))))) (by decide) (fun _=>mU _) rfl
theorem Ad {a:Fr4}:aE true Tryz.prog 23 [] [qF a] (aN (.one (tv (.bool (dR a))))):=by
 refine bC Tryz.func23 rfl Tryz.ntmps23 rfl aA rfl fun N w c0 h0=>?_
 refine sq ?_;refine rl ?_;refine bx 0 ?_;refine o1 ?_;refine nl ?_;refine sq ?_;refine rl ?_;refine o1 ?_;refine o1 ?_;refine ld ?_;(iterate 3 refine o1 ?_)
 refine WL.split (t:=8) rfl (fun h1=>?_) (fun h1=>?_)
 ·refine o1 ?_;refine o1 ?_;refine ld ?_;(iterate 4 refine o1 ?_);refine nl ?_;refine rt ?_
  exact en (.inl rfl) rfl (aO (bL _)) (by decide) (fun _=>trivial) (congrArg (fun z=>FV.one (tv (.bool z))) (by simp only[dR,decide_eq_true h1,Bool.not_true,Bool.not_false,Bool.or_true,Bool.true_or,Bool.false_or,Bool.or_false,Bool.false_eq_true,if_true,if_false,ite_true,ite_false,Bool.and_true,Bool.true_and,Bool.false_and,Bool.and_false]))
 (iterate 5 refine bF ?_);refine o1 ?_;refine o1 ?_;refine nl ?_;refine rt ?_
 exact en (.inl rfl) rfl (aO (bL _)) (by decide) (fun _=>trivial) (congrArg (fun z=>FV.one (tv (.bool z))) (by simp only[dR,decide_eq_false h1,Bool.not_true,Bool.not_false,Bool.or_true,Bool.true_or,Bool.false_or,Bool.or_false,Bool.false_eq_true,if_true,if_false,ite_true,ite_false,Bool.and_true,Bool.true_and,Bool.false_and,Bool.and_false]))
theorem FB {c:Fr4}{bk fw:Int}{ys:List (Fr4×Fr4)}:aE true Tryz.prog 8 [] [.agg ((c.tr false++[.v (.int .i64 bk),.v (.int .i64 fw)]:List Tr).map .t),.one (.t (fM ys))] (aN (.one (tv (.bool (pY c ys))))):=by
 refine bC Tryz.func8 rfl Tryz.ntmps8 rfl aA rfl fun N w c0 h0=>?_
 refine sq ?_;refine rl ?_;refine bx 0 ?_;refine o1 ?_;refine nl ?_;refine sq ?_;refine sq ?_;refine rl ?_;refine o1 ?_;refine nl ?_;refine bl ?_
 refine lp (γ:=Nat) (fun k=>bS [(1,.one (.t (fM ys))),(2,.one (.pt 0 0)),(5,.one (tv (.int .i64 ((k:Nat):Int))))]) (fun _=>[(⟨28,0,(c.tr false++[.v (.int .i64 bk),.v (.int .i64 fw)]:List Tr).map .t⟩:Ob)].map some) (fun k=>k≤ys.length∧k≤50∧∀j,j<k→(dR (bX ys j).1&&dR (bX ys j).2)=true) (fun k=>ys.length-k) 0 ⟨Nat.zero_le _,Nat.zero_le _,fun j hj=>absurd hj (Nat.not_lt_zero j)⟩ (aG h0 [0] _ _ (by decide) ⟨rfl,rfl,rfl,trivial⟩ ⟨oe rfl rfl,rfl⟩) fun k hk=>?_
 refine sq ?_;refine sq ?_;refine rl ?_;(iterate 5 refine o1 ?_);refine WL.split (t:=10) rfl (fun h1=>?_) (fun h1=>?_)
 ·(iterate 3 refine o1 ?_);refine nl ?_;refine bP rfl (fun h2=>?_) (fun h2=>?_)
  ·refine sk ?_;refine sq ?_;refine bl ?_;refine sq ?_;refine rl ?_;(iterate 4 refine o1 ?_)
   refine cW ((bX ys (k)).1.tr false) (aP (f:=bV) (z:=8) (o:=0) cV (fA (by omega)) (Nat.le_of_ble_eq_true rfl) rfl) ?_
   refine ca (Ad (a:=(bX ys (k)).1)) Tt ⟨aB rfl,rfl⟩ (.one (tv (.bool (dR (bX ys (k)).1)))) ?_;refine WL.splitb (t:=21) rfl (fun h3=>?_) (fun h3=>?_)
   ·(iterate 6 refine o1 ?_);refine cW ((bX ys (k)).2.tr false) (aP (f:=bV) (z:=8) (o:=4) cV (fA (by omega)) (Nat.le_of_ble_eq_true rfl) rfl) ?_
    refine ca (Ad (a:=(bX ys (k)).2)) Tt ⟨aB rfl,rfl⟩ (.one (tv (.bool (dR (bX ys (k)).2)))) ?_;refine WL.splitb (t:=29) rfl (fun h4=>?_) (fun h4=>?_)
    ·refine o1 ?_;refine o1 ?_;refine nl ?_;refine iH rfl ?_;refine sk ?_;refine rl ?_;refine o1 ?_;refine o1 ?_
     refine WL.cast (t:=15) (u':=.int .i64 ((k+1:Nat):Int)) rfl (aH (by omega)) ?_
     refine o1 ?_;refine nl ?_
     exact⟨k+1,by omega,⟨by omega,by omega,fun j hj=>by rcases Nat.lt_succ_iff_lt_or_eq.1 hj with h9 | h9;exact hk.2.2 j h9;subst h9;rw[h3,h4];rfl⟩,aG h0 [0] _ _ (by decide) ⟨rfl,rfl,rfl,trivial⟩ ⟨oe rfl rfl,rfl⟩⟩
    refine o1 ?_;refine o1 ?_;refine nl ?_;refine gL rfl ?_;refine sq ?_;refine rl ?_;refine o1 ?_;refine nl ?_;refine rt ?_
    exact en (.inl rfl) rfl (aO (bL _)) (by decide) (fun _=>trivial) (congrArg (fun z=>FV.one (tv (.bool z))) (Pp (c:=c) (k:=k) (by omega) (by omega) (by simp only[h3,h4,Bool.not_true,Bool.not_false,Bool.or_true,Bool.true_or,Bool.false_or,Bool.or_false,Bool.false_eq_true,if_true,if_false,ite_true,ite_false,Bool.and_true,Bool.true_and,Bool.false_and,Bool.and_false])))
   refine o1 ?_;refine o1 ?_;(iterate 7 refine bF ?_);refine o1 ?_;refine nl ?_;refine gL rfl ?_;refine sq ?_;refine rl ?_;refine o1 ?_;refine nl ?_;refine rt ?_
   exact en (.inl rfl) rfl (aO (bL _)) (by decide) (fun _=>trivial) (congrArg (fun z=>FV.one (tv (.bool z))) (Pp (c:=c) (k:=k) (by omega) (by omega) (by simp only[h3,Bool.not_true,Bool.not_false,Bool.or_true,Bool.true_or,Bool.false_or,Bool.or_false,Bool.false_eq_true,if_true,if_false,ite_true,ite_false,Bool.and_true,Bool.true_and,Bool.false_and,Bool.and_false])))
  refine ex ?_;refine sq ?_;refine rl ?_;refine o1 ?_;refine ld ?_;refine ca (Ad (a:=c)) Tt ⟨aB rfl,rfl⟩ (.one (tv (.bool (dR c)))) ?_;refine o1 ?_
  refine WL.splitb (t:=35) rfl (fun h5=>?_) (fun h5=>?_)
  ·(iterate 4 refine o1 ?_);refine WL.split (t:=39) rfl (fun h6=>?_) (fun h6=>?_)
   ·(iterate 8 refine bF ?_);(iterate 3 refine o1 ?_);refine nl ?_;refine rt ?_;have hfy:=lO (c:=c) (k:=k) hk.2.2 hk.1 (by omega)
    exact en (.inl rfl) rfl (aO (bL _)) (by decide) (fun _=>trivial) (congrArg (fun z=>FV.one (tv (.bool z))) (by rw[←hfy];simp only[h5,decide_eq_true h6,Bool.not_true,Bool.not_false,Bool.or_true,Bool.true_or,Bool.false_or,Bool.or_false,Bool.false_eq_true,if_true,if_false,ite_true,ite_false,Bool.and_true,Bool.true_and,Bool.false_and,Bool.and_false]))
   (iterate 4 refine o1 ?_);refine WL.split (t:=43) rfl (fun h7=>?_) (fun h7=>?_)
   ·(iterate 7 refine o1 ?_);refine nl ?_;refine rt ?_;have hfy:=lO (c:=c) (k:=k) hk.2.2 hk.1 (by omega)
    exact en (.inl rfl) rfl (aO (bL _)) (by decide) (fun _=>trivial) (congrArg (fun z=>FV.one (tv (.bool z))) (by rw[←hfy];simp only[h5,decide_eq_false h6,decide_eq_true h7,Bool.not_true,Bool.not_false,Bool.or_true,Bool.true_or,Bool.false_or,Bool.or_false,Bool.false_eq_true,if_true,if_false,ite_true,ite_false,Bool.and_true,Bool.true_and,Bool.false_and,Bool.and_false]))
   (iterate 3 refine bF ?_);(iterate 4 refine o1 ?_);refine nl ?_;refine rt ?_;have hfy:=lO (c:=c) (k:=k) hk.2.2 hk.1 (by omega)
   exact en (.inl rfl) rfl (aO (bL _)) (by decide) (fun _=>trivial) (congrArg (fun z=>FV.one (tv (.bool z))) (by rw[←hfy];simp only[h5,decide_eq_false h6,decide_eq_false h7,Bool.not_true,Bool.not_false,Bool.or_true,Bool.true_or,Bool.false_or,Bool.or_false,Bool.false_eq_true,if_true,if_false,ite_true,ite_false,Bool.and_true,Bool.true_and,Bool.false_and,Bool.and_false]))
  (iterate 13 refine bF ?_);refine o1 ?_;refine o1 ?_;refine nl ?_;refine rt ?_;have hfy:=lO (c:=c) (k:=k) hk.2.2 hk.1 (by omega)
  exact en (.inl rfl) rfl (aO (bL _)) (by decide) (fun _=>trivial) (congrArg (fun z=>FV.one (tv (.bool z))) (by rw[←hfy];simp only[h5,Bool.not_true,Bool.not_false,Bool.or_true,Bool.true_or,Bool.false_or,Bool.or_false,Bool.false_eq_true,if_true,if_false,ite_true,ite_false,Bool.and_true,Bool.true_and,Bool.false_and,Bool.and_false]))
 refine bF ?_;refine bF ?_;refine o1 ?_;refine nl ?_;refine iH rfl ?_;refine ex ?_;refine sq ?_;refine rl ?_;refine o1 ?_;refine ld ?_
 refine ca (Ad (a:=c)) Tt ⟨aB rfl,rfl⟩ (.one (tv (.bool (dR c)))) ?_;refine o1 ?_;refine WL.splitb (t:=35) rfl (fun h8=>?_) (fun h8=>?_)
 ·(iterate 4 refine o1 ?_);refine WL.split (t:=39) rfl (fun h9=>?_) (fun h9=>?_)
  ·(iterate 8 refine bF ?_);(iterate 3 refine o1 ?_);refine nl ?_;refine rt ?_;have hfy:=lO (c:=c) (k:=k) hk.2.2 hk.1 (by omega)
   exact en (.inl rfl) rfl (aO (bL _)) (by decide) (fun _=>trivial) (congrArg (fun z=>FV.one (tv (.bool z))) (by rw[←hfy];simp only[h8,decide_eq_true h9,Bool.not_true,Bool.not_false,Bool.or_true,Bool.true_or,Bool.false_or,Bool.or_false,Bool.false_eq_true,if_true,if_false,ite_true,ite_false,Bool.and_true,Bool.true_and,Bool.false_and,Bool.and_false]))
  (iterate 4 refine o1 ?_);refine WL.split (t:=43) rfl (fun h10=>?_) (fun h10=>?_)
  ·(iterate 7 refine o1 ?_);refine nl ?_;refine rt ?_;have hfy:=lO (c:=c) (k:=k) hk.2.2 hk.1 (by omega)
   exact en (.inl rfl) rfl (aO (bL _)) (by decide) (fun _=>trivial) (congrArg (fun z=>FV.one (tv (.bool z))) (by rw[←hfy];simp only[h8,decide_eq_false h9,decide_eq_true h10,Bool.not_true,Bool.not_false,Bool.or_true,Bool.true_or,Bool.false_or,Bool.or_false,Bool.false_eq_true,if_true,if_false,ite_true,ite_false,Bool.and_true,Bool.true_and,Bool.false_and,Bool.and_false]))
  (iterate 3 refine bF ?_);(iterate 4 refine o1 ?_);refine nl ?_;refine rt ?_;have hfy:=lO (c:=c) (k:=k) hk.2.2 hk.1 (by omega)
  exact en (.inl rfl) rfl (aO (bL _)) (by decide) (fun _=>trivial) (congrArg (fun z=>FV.one (tv (.bool z))) (by rw[←hfy];simp only[h8,decide_eq_false h9,decide_eq_false h10,Bool.not_true,Bool.not_false,Bool.or_true,Bool.true_or,Bool.false_or,Bool.or_false,Bool.false_eq_true,if_true,if_false,ite_true,ite_false,Bool.and_true,Bool.true_and,Bool.false_and,Bool.and_false]))
 (iterate 13 refine bF ?_);refine o1 ?_;refine o1 ?_;refine nl ?_;refine rt ?_;have hfy:=lO (c:=c) (k:=k) hk.2.2 hk.1 (by omega)
 exact en (.inl rfl) rfl (aO (bL _)) (by decide) (fun _=>trivial) (congrArg (fun z=>FV.one (tv (.bool z))) (by rw[←hfy];simp only[h8,Bool.not_true,Bool.not_false,Bool.or_true,Bool.true_or,Bool.false_or,Bool.or_false,Bool.false_eq_true,if_true,if_false,ite_true,ite_false,Bool.and_true,Bool.true_and,Bool.false_and,Bool.and_false]))
theorem dB {n m:Int}(h1:-9223372036854775808≤n) (h2:n≤9223372036854775807) (h3:-9223372036854775808≤m) (h4:m≤9223372036854775807):aE false Tryz.prog 31 [] [.one (tv (.int .i64 n)),.one (tv (.int .i64 m))] (aN (.agg (((Fr4.of (Rat.divInt n 1)).tr true++(Fr4.of (Rat.divInt m 1)).tr true).map .t))):=by
 refine bC Tryz.func31 rfl Tryz.ntmps31 rfl aA rfl fun N w c0 h0=>?_
 refine sq ?_;refine rl ?_;refine al 0 ?_;refine nl ?_;refine sq ?_;refine rl ?_;refine o1 ?_
 refine iI 1 (yF (n:=n) (d:=1) (by omega) (by omega) (by omega) (by omega)) yG ⟨a1 rfl,a1 rfl,rfl⟩ ?_
 refine o1 ?_;refine iI 3 (yF (n:=m) (d:=1) (by omega) (by omega) (by omega) (by omega)) yG ⟨a1 rfl,a1 rfl,rfl⟩ ?_
 refine o1 ?_;refine st ?_;refine nl ?_;refine rt ?_
 exact en (.inl rfl) rfl (aO (.agg (.cons (.id rfl) (.cons (.sl (trs:=aV (dg 4294967296 (Rat.divInt n 1).num.natAbs)) rfl rfl (bB _) (aY _)) (.cons (.id rfl) (.cons (.sl (trs:=aV (dg 4294967296 (Rat.divInt n 1).den)) rfl rfl (bB _) (aY _)) (.cons (.id rfl) (.cons (.sl (trs:=aV (dg 4294967296 (Rat.divInt m 1).num.natAbs)) rfl rfl (bB _) (aY _)) (.cons (.id rfl) (.cons (.sl (trs:=aV (dg 4294967296 (Rat.divInt m 1).den)) rfl rfl (bB _) (aY _)) (.nil))))))))))) (by decide) (fun h=>by cases h) rfl
end Go.Proofs.YthoemjjmkgmnjaaGreat
