/- Part 8 of a proof: A3 to G1. -/
import Derived.Test.YtcaakamelngceaaGreatDoorM7
import Derived.Test.YtcaakamelngceaaGreatDoorM5
set_option maxRecDepth 100000
set_option linter.unusedVariables false
set_option linter.unusedSimpArgs false
namespace Go.Proofs.YtcaakamelngceaaGreatDoor
open Go Go.RowKit
theorem wQ {a:Zi}{k:Int}(ha:Zn a k):aE true Tryz.prog 133 [] [gF a] (aN (.one (tv (.bool (cK a.s a.x))))):=by
 refine bF Tryz.func133 rfl Tryz.ntmps133 rfl aA rfl fun N w c0 h0=>?_
 have hal:=ha.2.1
 refine sq ?_;refine rl ?_;refine bx 0 ?_;refine o1 ?_;refine nl ?_;refine sq ?_;refine sq ?_;refine rl ?_;refine o1 ?_;refine ld ?_;refine o1 ?_;refine o1 ?_;refine nl ?_
 refine bR rfl (fun h1=>?_) (fun h1=>?_)
 ·refine sq ?_;refine rl ?_;refine o1 ?_;refine ld ?_;refine WL.splitb (t:=8) rfl (fun h2=>?_) (fun h2=>?_)
  ·refine o1 ?_;refine o1 ?_;refine nl ?_;refine rt ?_;refine en (.inl rfl) rfl (aV (aO _)) (by decide) (fun _=>trivial) (congrArg (fun b=>FV.one (tv (.bool b))) ?_)
   rw[lE (by omega)];simp_all
  refine o1 ?_;refine o1 ?_;refine nl ?_;refine rt ?_;refine en (.inl rfl) rfl (aV (aO _)) (by decide) (fun _=>trivial) (congrArg (fun b=>FV.one (tv (.bool b))) ?_)
  rw[lE (by omega)];simp_all
 refine sk ?_;refine sq ?_;refine rl ?_;refine o1 ?_;refine ld ?_;refine o1 ?_;refine ld ?_;refine o1 ?_;refine o1 ?_
 refine WL.cast (t:=15) (u':=.int .i64 ((a.x.length-1:Nat):Int)) rfl (aI (by omega)) ?_
 refine o1 ?_;refine kR ([.v (.int .u32 ((nth a.x (a.x.length-1):Nat):Int))]) (mP a.x (k:=a.x.length-1) (by omega)) ?_
 refine o1 ?_;refine o1 ?_;refine nl ?_;refine rt ?_;refine en (.inl rfl) rfl (aV (aO _)) (by decide) (fun _=>trivial) (congrArg (fun b=>FV.one (tv (.bool b))) ?_)
 exact(sG rfl (by omega)).symm
theorem eY {a:Zi}{k:Int}(ha:Zn a k):aE false Tryz.prog 97 [] [gF a] (aN (kF k)):=by
 refine bF Tryz.func97 rfl Tryz.ntmps97 rfl aA rfl fun N w c0 h0=>?_
 refine sq ?_;refine rl ?_;refine bx 0 ?_;refine al 1 ?_;refine nl ?_;refine sq ?_;refine sq ?_;refine rl ?_;refine ld ?_
 refine ca (wQ ha) Nl ⟨aB rfl,rfl⟩ (.one (tv (.bool (cK a.s a.x)))) ?_;refine WL.splitb (t:=4) rfl (fun h1=>?_) (fun h1=>?_)
 ·refine o1 ?_;refine nl ?_;refine fW rfl ?_;refine sk ?_;refine sq ?_;refine rl ?_;refine ld ?_;refine st ?_;refine nl ?_;refine rt ?_
  exact en (.inl rfl) rfl (aV (.agg (.read _ (l:=[.v (.bool a.s),sU false a.x]) rfl))) (by decide) (fun h=>by cases h) (Xm ha h1)
 refine o1 ?_;refine nl ?_;refine fX rfl ?_;refine sq ?_;refine rl ?_;refine o1 ?_;refine st ?_;refine nl ?_;refine rt ?_
 exact en (.inl rfl) rfl (aV (.agg (.cons (.id rfl) (.cons .nilf .nil)))) (by decide) (fun h=>by cases h) (by rw[ha.wrong h1];exact Bd)
theorem jK {b:Bool}{xs:List Nat}{K:Int}(hx:xs.length≤1099511627776) (hl:Lim 4294967296 xs) (hK:bG b (vl 4294967296 xs)=K):aE true Tryz.prog 100 [] [.one (tv (.bool b)),.one (.t (sU false xs))] (aN (kO K)):=by
 refine bF Tryz.func100 rfl Tryz.ntmps100 rfl aA rfl fun N w c0 h0=>?_
 refine sq ?_;refine rl ?_;refine al 0 ?_;refine nl ?_;refine sq ?_;refine rl ?_;refine o1 ?_;refine gH 1 (EG hx hl) OH ⟨a1 rfl,rfl⟩ ?_;refine o1 ?_;refine nl ?_;refine sq ?_
 refine rl ?_;refine o1 ?_;refine o1 ?_;refine WL.splitb (t:=9) rfl (fun h1=>?_) (fun h1=>?_)
 ·(iterate 6 refine o1 ?_);refine st ?_;refine nl ?_;refine rt ?_
  exact en (.inl rfl) rfl (aV (.agg (.cons (.id rfl) (.cons (.sl (trs:=aR (dg 4294967296 (vl 4294967296 xs))) rfl rfl (bL _) (aX _)) .nil)))) (by decide) (fun _=>Mo _ _) (hK▸vQ (by rw[←zI rfl,h1,Bool.true_and];exact decide_eq_decide.2 (by omega)) (hG _ _).symm)
 (iterate 3 refine cH ?_);(iterate 3 refine o1 ?_);refine st ?_;refine nl ?_;refine rt ?_
 exact en (.inl rfl) rfl (aV (.agg (.cons (.id rfl) (.cons (.sl (trs:=aR (dg 4294967296 (vl 4294967296 xs))) rfl rfl (bL _) (aX _)) .nil)))) (by decide) (fun _=>Mo _ _) (hK▸vQ (by rw[←zI rfl,h1];rfl) (hG _ _).symm)
theorem jF {n:Int}(h1:-9223372036854775808≤n) (h2:n≤9223372036854775807):aE true Tryz.prog 51 [] [.one (tv (.int .i64 n))] (aN (kO n)):=by
 refine bF Tryz.func51 rfl Tryz.ntmps51 rfl aA rfl fun N w c0 h0=>?_
 obtain⟨hr1,hr2,hq1,hq2,hv1,hv2⟩:=Xf h1 h2
 refine sq ?_;refine rl ?_;refine al 0 ?_;refine nl ?_;refine sq ?_;refine rl ?_;(iterate 3 refine o1 ?_);refine o1 ?_ (hC:=(by exact⟨by omega,by simp only[fP];omega⟩))
 refine o1 ?_;refine o1 ?_;refine nl ?_;refine sq ?_;refine rl ?_;(iterate 6 refine o1 ?_)
 refine WL.cast (t:=14) (u':=.int .i64 (((Int.tmod n 4294967296).natAbs:Nat):Int)) rfl (aI (by omega)) ?_
 refine o1 ?_;refine WL.cast (t:=15) (u':=.int .u32 (((Int.tmod n 4294967296).natAbs:Nat):Int)) rfl (aI (by omega)) ?_
 (iterate 4 refine o1 ?_);refine WL.cast (t:=19) (u':=.int .i64 (((Int.tdiv n 4294967296).natAbs:Nat):Int)) rfl (aI (by omega)) ?_
 refine o1 ?_;refine WL.cast (t:=20) (u':=.int .u32 (((Int.tdiv n 4294967296).natAbs:Nat):Int)) rfl (aI (by omega)) ?_
 refine bs 1 ?_
 refine WL.sub (UI (i:=21) (zs:=[(Int.tmod n 4294967296).natAbs,(Int.tdiv n 4294967296).natAbs]) (zs':=[(Int.tmod n 4294967296).natAbs,(Int.tdiv n 4294967296).natAbs]) rfl rfl rfl rfl rfl) ?_
 refine gH 2 (jK (K:=n) (by simp) (Lim.cons (by omega) (Lim.cons (by omega) Lim.nil)) (KQ hv1)) cA ⟨a1 rfl,a1 rfl,rfl⟩ ?_
 refine st ?_;refine nl ?_;refine rt ?_
 exact en (.inl rfl) rfl (aV (.agg (.cons (.id rfl) (.cons (.sl (trs:=aR (dg 4294967296 (n).natAbs)) rfl rfl (bL _) (aX _)) .nil)))) (by decide) (fun _=>dV (n)) rfl
theorem Fn {a b:Zi}{k k':Int}(ha:Zn a k) (hb:Zn b k'):aE true Tryz.prog 49 [] [gF a,gF b] (aN (.one (tv (.int .i64 (k-k').sign)))):=by
 refine bF Tryz.func49 rfl Tryz.ntmps49 rfl aA rfl fun N w c0 h0=>?_
 have hkl:=ha.len
 have hkl':=hb.len
 refine sq ?_;refine rl ?_;refine bx 0 ?_;refine bx 1 ?_;refine o1 ?_;refine nl ?_;refine sq ?_;refine rl ?_;refine ld ?_;refine ca (eY ha) lQ ⟨aB rfl,rfl⟩ (kF (k)) ?_;refine st ?_
 refine nl ?_;refine sq ?_;refine rl ?_;refine ld ?_;refine ca (eY hb) lQ ⟨aB rfl,rfl⟩ (kF (k')) ?_;refine st ?_;refine nl ?_;refine sq ?_;refine bl ?_;refine sq ?_;refine rl ?_
 refine o1 ?_;refine ld ?_;refine o1 ?_;refine WL.splitb (t:=12) rfl (fun h1=>?_) (fun h1=>?_)
 ·refine o1 ?_;refine ld ?_;refine WL.splitb (t:=14) rfl (fun h2=>?_) (fun h2=>?_)
  ·(iterate 3 refine o1 ?_);refine nl ?_;refine fW rfl ?_;refine sq ?_;refine rl ?_;refine o1 ?_;refine ld ?_;refine o1 ?_;refine WL.cast (t:=20) rfl (congrArg Value.bool h2) ?_
   refine o1 ?_;refine ld ?_;refine WL.cast (t:=22) rfl (congrArg Value.bool h1) ?_;(iterate 3 refine o1 ?_);refine nl ?_;refine fW rfl ?_;refine sq ?_;refine rl ?_;refine o1 ?_
   refine ld ?_;refine o1 ?_;refine nl ?_;refine fX (congrArg (fun b=>FV.one (tv (.bool b))) h1) ?_
   refine sq ?_;refine rl ?_;refine o1 ?_;refine ld ?_;refine o1 ?_;refine ld ?_
   refine ca (Ia (by omega) (aM (by omega) _) (by omega) (aM (by omega) _)) Oo ⟨a1 rfl,a1 rfl,rfl⟩ (.one (tv (.int .i64 (((vl 4294967296 (dg 4294967296 (k').natAbs):Nat):Int)-((vl 4294967296 (dg 4294967296 (k).natAbs):Nat):Int)).sign))) ?_
   refine o1 ?_;refine nl ?_;refine rt ?_;refine en (.inl rfl) rfl (aV (aO _)) (by decide) (fun _=>trivial) (congrArg (fun z=>FV.one (tv (.int .i64 z))) ?_)
   rw[bD,bD];exact EA h1 h2
  (iterate 3 refine o1 ?_);refine nl ?_;refine fX rfl ?_;refine sq ?_;refine rl ?_;refine o1 ?_;refine nl ?_;refine rt ?_
  refine en (.inl rfl) rfl (aV (aO _)) (by decide) (fun _=>trivial) (congrArg (fun z=>FV.one (tv (.int .i64 z))) ?_)
  exact DY h1 h2
 (iterate 3 refine cH ?_);refine o1 ?_;refine o1 ?_;refine nl ?_;refine fW rfl ?_;refine sq ?_;refine rl ?_;refine o1 ?_;refine ld ?_;refine o1 ?_
 refine WL.splitb (t:=20) rfl (fun h3=>?_) (fun h3=>?_)
 ·refine o1 ?_;refine ld ?_;refine WL.cast (t:=22) rfl (congrArg Value.bool h1) ?_;(iterate 3 refine o1 ?_);refine nl ?_;refine fX rfl ?_;refine sq ?_;refine rl ?_;refine o1 ?_
  refine nl ?_;refine rt ?_;refine en (.inl rfl) rfl (aV (aO _)) (by decide) (fun _=>trivial) (congrArg (fun z=>FV.one (tv (.int .i64 z))) ?_)
  exact DZ h1 h3
 (iterate 3 refine cH ?_);refine o1 ?_;refine o1 ?_;refine nl ?_;refine fW rfl ?_;refine sq ?_;refine rl ?_;refine o1 ?_;refine ld ?_;refine o1 ?_;refine nl ?_
 refine fW (congrArg (fun b=>FV.one (tv (.bool b))) h1) ?_
 refine sk ?_;refine sq ?_;refine rl ?_;refine o1 ?_;refine ld ?_;refine o1 ?_;refine ld ?_
 refine ca (Ia (by omega) (aM (by omega) _) (by omega) (aM (by omega) _)) Oo ⟨a1 rfl,a1 rfl,rfl⟩ (.one (tv (.int .i64 (((vl 4294967296 (dg 4294967296 (k).natAbs):Nat):Int)-((vl 4294967296 (dg 4294967296 (k').natAbs):Nat):Int)).sign))) ?_
 refine o1 ?_;refine nl ?_;refine rt ?_;refine en (.inl rfl) rfl (aV (aO _)) (by decide) (fun _=>trivial) (congrArg (fun z=>FV.one (tv (.int .i64 z))) ?_)
 rw[bD,bD];exact EB h1 h3
theorem jE {a:Zi}{k:Int}(ha:Zn a k):aE true Tryz.prog 52 [] [gF a] (aN (.one (tv (.int .i64 k.sign)))):=by
 refine bF Tryz.func52 rfl Tryz.ntmps52 rfl aA rfl fun N w c0 h0=>?_
 have hkl:=ha.len
 refine sq ?_;refine rl ?_;refine bx 0 ?_;refine o1 ?_;refine nl ?_;refine sq ?_;refine rl ?_;refine ld ?_;refine o1 ?_
 refine ca (Fn ha UJ) Vk ⟨aB rfl,Fj rfl (.cons .t (.cons .nil .nil)),rfl⟩ (.one (tv (.int .i64 ((k)-(0)).sign))) ?_;refine o1 ?_;refine nl ?_;refine rt ?_
 exact en (.inl rfl) rfl (aV (aO _)) (by decide) (fun _=>trivial) (congrArg (fun z=>FV.one (tv (.int .i64 z))) (by rw[Int.sub_zero]))
theorem yF {a:Zi}{k:Int}(ha:Zn a k):aE true Tryz.prog 96 [] [gF a] (aN (kO (-k))):=by
 refine bF Tryz.func96 rfl Tryz.ntmps96 rfl aA rfl fun N w c0 h0=>?_
 have hkl:=ha.len
 refine sq ?_;refine rl ?_;refine bx 0 ?_;refine al 1 ?_;refine nl ?_;refine sq ?_;refine rd [0,1] (fun i=>[8].contains i) mixed ?_
 refine aW 0 ?_;refine aW 4 ?_;refine aJ 1 rfl (eY ha) lQ ⟨aB rfl,rfl⟩ (kF (k)) ?_;refine df 2 ?_;refine df 3 ?_;refine aJ 5 rfl (eY ha) lQ ⟨aB rfl,rfl⟩ (kF (k)) ?_
 refine df 6 ?_;refine oT 2 7 rfl (jK (K:=-k) (by omega) (aM (by omega) _) (by rw[bD];exact Mh k)) cA ⟨a1 rfl,a1 rfl,rfl⟩ ?_
 refine dst 8 ?_;refine aU ?_;refine rt ?_
 exact en (.inl rfl) rfl (aV (.agg (.cons (.id rfl) (.cons (.sl (trs:=aR (dg 4294967296 (-k).natAbs)) rfl rfl (bL _) (aX _)) .nil)))) (by decide) (fun _=>dV (-k)) rfl
theorem kU {a b:Zi}{k k':Int}(ha:Zn a k) (hb:Zn b k'):aE true Tryz.prog 50 [] [gF a,gF b] (aN (kO (k+k'))):=by
 refine bF Tryz.func50 rfl Tryz.ntmps50 rfl aA rfl fun N w c0 h0=>?_
 have hkl:=ha.len
 have hkl':=hb.len
 refine sq ?_;refine rl ?_;refine bx 0 ?_;refine bx 1 ?_;refine al 2 ?_;refine nl ?_;refine sq ?_;refine rl ?_;refine ld ?_;refine ca (eY ha) lQ ⟨aB rfl,rfl⟩ (kF (k)) ?_
 refine st ?_;refine nl ?_;refine sq ?_;refine rl ?_;refine ld ?_;refine ca (eY hb) lQ ⟨aB rfl,rfl⟩ (kF (k')) ?_;refine st ?_;refine nl ?_;refine sq ?_;refine sq ?_;refine rl ?_
 refine o1 ?_;refine ld ?_;refine o1 ?_;refine ld ?_;refine o1 ?_;refine nl ?_;refine iL rfl (fun h1=>?_) (fun h1=>?_)
 ·refine sq ?_;refine rd [0,1,2] (fun i=>[8].contains i) mixed ?_
  refine dv 0 ?_;refine aW 1 ?_;refine dv 2 ?_;refine aW 3 ?_;refine dv 4 ?_;refine aW 5 ?_
  have hn2:=Bc (xs:=(dg 4294967296 (k).natAbs)) (ys:=(dg 4294967296 (k').natAbs)) (aM (by omega) _) (aM (by omega) _)
  refine aJ 6 rfl (KW (by omega) (aM (by omega) _) (by omega) (aM (by omega) _)) OC ⟨a1 rfl,a1 rfl,rfl⟩ (.one (.t (sU false (dg 4294967296 (vl 4294967296 (dg 4294967296 (k).natAbs)+vl 4294967296 (dg 4294967296 (k').natAbs)))))) ?_
  refine oT 3 7 rfl (jK (K:=k+k') (by omega) (aM (by omega) _) (by simp only[bK (B:=4294967296) (by omega)];exact Cl rfl (eq_of_beq h1))) cA ⟨a1 rfl,a1 rfl,rfl⟩ ?_
  refine dst 8 ?_;refine aU ?_;refine rt ?_
  exact en (.inl rfl) rfl (aV (.agg (.cons (.id rfl) (.cons (.sl (trs:=aR (dg 4294967296 (k+k').natAbs)) rfl rfl (bL _) (aX _)) .nil)))) (by decide) (fun _=>dV (k+k')) rfl
 refine sk ?_;refine sq ?_;refine rl ?_;refine o1 ?_;refine ld ?_;refine o1 ?_;refine ld ?_
 have hn3:=Mi (xs:=(dg 4294967296 (k).natAbs)) (ys:=(dg 4294967296 (k').natAbs)) (aM (by omega) _)
 refine ca (Tv (by omega) (aM (by omega) _) (by omega) (aM (by omega) _)) Zk ⟨a1 rfl,a1 rfl,rfl⟩ (.tup [.one (.t (sU false (dg 4294967296 (vl 4294967296 (dg 4294967296 (k).natAbs)-vl 4294967296 (dg 4294967296 (k').natAbs))))),.one (tv (.int .i64 (if vl 4294967296 (dg 4294967296 (k).natAbs)<vl 4294967296 (dg 4294967296 (k').natAbs)then 2 else 0)))]) ?_
 (iterate 5 refine o1 ?_);refine nl ?_;refine sq ?_;refine sq ?_;refine rl ?_;refine o1 ?_;refine o1 ?_;refine nl ?_;refine bR rfl (fun h4=>?_) (fun h4=>?_)
 ·refine sq ?_;refine rl ?_;refine o1 ?_;refine ld ?_;refine o1 ?_
  refine gH 3 (jK (K:=k+k') (by omega) (aM (by omega) _) (by simp only[bK (B:=4294967296) (by omega)];exact Mj rfl (ne_of_beq_false h1) (fun h8=>by rw[bD,bD,if_pos h8]at h4;omega))) cA ⟨a1 rfl,a1 rfl,rfl⟩ ?_
  refine st ?_;refine nl ?_;refine rt ?_
  exact en (.inl rfl) rfl (aV (.agg (.cons (.id rfl) (.cons (.sl (trs:=aR (dg 4294967296 (k+k').natAbs)) rfl rfl (bL _) (aX _)) .nil)))) (by decide) (fun _=>dV (k+k')) rfl
 refine sk ?_;refine sq ?_;refine rl ?_;refine o1 ?_;refine ld ?_;refine o1 ?_;refine ld ?_
 have hn5:=Mi (xs:=(dg 4294967296 (k').natAbs)) (ys:=(dg 4294967296 (k).natAbs)) (aM (by omega) _)
 refine ca (Tv (by omega) (aM (by omega) _) (by omega) (aM (by omega) _)) Zk ⟨a1 rfl,a1 rfl,rfl⟩ (.tup [.one (.t (sU false (dg 4294967296 (vl 4294967296 (dg 4294967296 (k').natAbs)-vl 4294967296 (dg 4294967296 (k).natAbs))))),.one (tv (.int .i64 (if vl 4294967296 (dg 4294967296 (k').natAbs)<vl 4294967296 (dg 4294967296 (k).natAbs)then 2 else 0)))]) ?_
 (iterate 4 refine o1 ?_);refine nl ?_;refine sq ?_;refine rl ?_;refine o1 ?_;refine ld ?_;refine o1 ?_
 refine gH 3 (jK (K:=k+k') (by omega) (aM (by omega) _) (by simp only[bK (B:=4294967296) (by omega)];exact Mk rfl (ne_of_beq_false h1) (Decidable.byContradiction fun h8=>h4 (by rw[bD,bD,if_neg h8])))) cA ⟨a1 rfl,a1 rfl,rfl⟩ ?_
 refine st ?_;refine nl ?_;refine rt ?_
 exact en (.inl rfl) rfl (aV (.agg (.cons (.id rfl) (.cons (.sl (trs:=aR (dg 4294967296 (k+k').natAbs)) rfl rfl (bL _) (aX _)) .nil)))) (by decide) (fun _=>dV (k+k')) rfl
theorem KX {a b:Zi}{k k':Int}(ha:Zn a k) (hb:Zn b k'):aE true Tryz.prog 102 [] [gF a,gF b] (aN (kO (k-k'))):=by
 refine bF Tryz.func102 rfl Tryz.ntmps102 rfl aA rfl fun N w c0 h0=>?_
 have hkl:=ha.len
 have hkl':=hb.len
 refine sq ?_;refine rl ?_;refine bx 0 ?_;refine bx 1 ?_;refine al 2 ?_;refine nl ?_;refine sq ?_;refine rd [0,1,2] (fun i=>[4].contains i) mixed ?_
 refine aW 0 ?_;refine aW 1 ?_;have hn1:=jY (k')
 refine aJ 2 rfl (yF hb) No ⟨aB rfl,rfl⟩ (kF (-k')) ?_;refine oT 3 3 rfl (kU ha (Zn.of (k:=-k') (by omega))) rM ⟨aB rfl,aB rfl,rfl⟩ ?_
 refine dst 4 ?_;refine aU ?_;refine rt ?_
 exact en (.inl rfl) rfl (aV (.agg (.cons (.id rfl) (.cons (.sl (trs:=aR (dg 4294967296 (k+-k').natAbs)) rfl rfl (bL _) (aX _)) .nil)))) (by decide) (fun _=>dV (k+-k')) rfl
theorem zM {xs:List Nat}(hx:xs.length≤4398046511104):aE false Tryz.prog 148 [] [.one (.t (sI false xs))] (aN (.one (.t (sI false (trim xs))))):=by
 refine bF Tryz.func148 rfl Tryz.ntmps148 rfl aA rfl fun N w c0 h0=>?_
 refine sq ?_;refine rl ?_;refine o1 ?_;refine nl ?_;refine sq ?_;refine bl ?_
 refine lp (γ:=List Nat) (fun zs=>cE [(0,.one (.t (sI false zs)))]) (fun _=>([]:List Ob).map some) (fun zs=>trim zs=trim xs∧zs.length≤xs.length) (fun zs=>zs.length) xs ⟨rfl,Nat.le_refl _⟩ (aQ h0 [] _ _ (by decide) ⟨rfl,trivial⟩ rfl) fun zs hz=>?_
 refine sq ?_;refine sq ?_;refine rl ?_;(iterate 4 refine o1 ?_);refine WL.split (t:=6) rfl (fun h1=>?_) (fun h1=>?_)
 ·(iterate 4 refine o1 ?_);refine WL.cast (t:=10) (u':=.int .i64 ((zs.length-1:Nat):Int)) rfl (aI (by omega)) ?_
  refine o1 ?_;refine kR ([.v (.int .i64 ((nth zs (zs.length-1):Nat):Int))]) (eF zs (k:=zs.length-1) (by omega)) ?_
  refine o1 ?_;refine o1 ?_;refine nl ?_;refine bR rfl (fun h2=>?_) (fun h2=>?_)
  ·refine sk ?_;refine bl ?_;refine rl ?_;(iterate 4 refine o1 ?_);refine WL.cast (t:=18) (u':=.int .i64 ((zs.length-1:Nat):Int)) rfl (aI (by omega)) ?_
   refine o1 ?_;refine o1 ?_;refine nl ?_
   exact⟨zs.take (zs.length-1),by rw[List.length_take];omega,⟨(by rw[tC (xs:=zs) (k:=zs.length) (by omega) (Nat.le_refl _) (by omega),List.take_length];exact hz.1),by rw[List.length_take];omega⟩,aQ h0 [] _ _ (by decide) ⟨congrArg some (Tl (by omega)).symm,trivial⟩ rfl⟩
  refine ex ?_;refine sq ?_;refine rl ?_;refine o1 ?_;refine o1 ?_;refine nl ?_;refine rt ?_;refine en (.inl rfl) rfl (aV (.one (.id rfl))) (by decide) (fun h=>by cases h) ?_
  have hx:trim xs=zs:=by
   rw[←hz.1];have h9:=oO (xs:=zs) (k:=zs.length) (by omega) (Nat.le_refl _) (by omega)
   rwa[List.take_length]at h9
  rw[hx];rfl
 (iterate 7 refine cH ?_);refine o1 ?_;refine nl ?_;refine fW rfl ?_;refine ex ?_;refine sq ?_;refine rl ?_;refine o1 ?_;refine o1 ?_;refine nl ?_;refine rt ?_
 refine en (.inl rfl) rfl (aV (.one (.id rfl))) (by decide) (fun h=>by cases h) ?_
 have hx:trim xs=zs:=by
  have h9:zs=[]:=List.eq_nil_of_length_eq_zero (by omega)
  rw[←hz.1,h9];rfl
 rw[hx];rfl
theorem kH {xs:List Nat}(hx:xs.length≤1099511627776) (hl:Lim 4294967296 xs):aE false Tryz.prog 99 [] [.one (.t (sU false xs))] (aN (.one (.t (sI false (dg 65536 (vl 4294967296 xs)))))):=by
 refine bF Tryz.func99 rfl Tryz.ntmps99 rfl aA rfl fun N w c0 h0=>?_
 refine sq ?_;refine rl ?_;refine o1 ?_;refine nl ?_;refine sq ?_;refine rl ?_;refine o1 ?_;refine nl ?_;refine sq ?_;refine sq ?_;refine rl ?_;refine o1 ?_;refine nl ?_;refine bl ?_
 refine lp (γ:=Nat) (fun k=>cE [(0,.one (.t (sU false xs))),(3,.one (.sl 0 0 (2*k))),(4,.one (tv (.int .i64 ((k:Nat):Int))))]) (fun k=>[(⟨3,1,(dF (hv (xs.take k))).map .t⟩:Ob)].map some) (fun k=>k≤xs.length) (fun k=>xs.length-k) 0 (Nat.zero_le _) ((nr (i:=3) 0 3 1 rfl rfl rfl rfl).trans (aQ h0 [0] _ _ (by decide) ⟨rfl,rfl,rfl,trivial⟩ ⟨cV (l:=[]) rfl,rfl⟩)) fun k hk=>?_
 have hn:=hl.nth (by omega) k
 refine sq ?_;refine sq ?_;refine rl ?_;(iterate 4 refine o1 ?_);refine nl ?_;refine bR rfl (fun h1=>?_) (fun h1=>?_)
 ·refine sk ?_;refine sq ?_;refine bl ?_;refine rd [] (fun i=>[15].contains i) mixed ?_
  refine dv 0 ?_;refine dv 1 ?_;refine dv 2 ?_;refine dv 3 ?_;refine pE 4 ([.v (.int .u32 ((nth xs (k):Nat):Int))]) (mP xs (k:=k) (by omega)) ?_
  refine dv 5 ?_;refine WD.cast (t:=16) (u':=.int .u32 ((nth xs k%65536:Nat):Int)) rfl (aI (fK _ 65536)) ?_;refine dv 6 ?_;refine dv 7 ?_;refine dv 8 ?_;refine dv 9 ?_
  refine pE 10 ([.v (.int .u32 ((nth xs (k):Nat):Int))]) (mP xs (k:=k) (by omega)) ?_
  refine dv 11 ?_ (hC:=(fH 65536 (by omega) (by simp only[fP];omega)))
  refine WD.cast (t:=22) (u':=.int .u32 ((nth xs k/65536:Nat):Int)) rfl (aI (eD _ 65536)) ?_;refine dv 12 ?_;refine Nk (key:=1) 13 (by kernel_rfl) rfl rfl aA rfl trivial ?_
  refine Zj (j:=2) 14 rfl aA rfl rfl rfl (.sl rfl (by rw[List.length_map,gD,oM,List.length_take];omega)) (.sl rfl rfl rfl) rfl rfl (by omega) (by omega) rfl rfl (by kernel_rfl) rfl ?_
  refine cZ 15 (by kernel_rfl) rfl rfl aA rfl (by trivial) ?_ (fun h=>by first | rfl | cases h)
  refine aU ?_;refine rl ?_;(iterate 3 refine o1 ?_);refine nl ?_
  exact⟨k+1,by omega,by omega,aQ h0 [2] _ _ (by decide) ⟨rfl,rfl,rfl,trivial⟩ ⟨lD rfl (gE _ [nth xs k%65536,nth xs k/65536]) (Mf (by omega)).symm,rfl⟩⟩
 refine ex ?_;refine sq ?_;refine rl ?_;refine WL.sub (tR (i:=3) (zs':=hv xs) rfl rfl rfl (by rw[oM,List.length_take];omega) (by rw[List.take_of_length_le (by omega)])) ?_
 refine o1 ?_;refine ca (zM (by rw[oM];omega)) yX ⟨a1 rfl,rfl⟩ (.one (.t (sI false (trim (hv xs))))) ?_
 refine o1 ?_;refine nl ?_;refine rt ?_;exact en (.inl rfl) rfl (aV (.one (.id rfl))) (by decide) (fun h=>by cases h) (by rw[AB hl];rfl)
theorem sJ {xs zs:List Nat}(hx:xs.length≤4398046511104) (hl:Lim 65536 xs) (hz:lb xs=zs):aE true Tryz.prog 101 [] [.one (.t (sI false xs))] (aN (.one (.t (sU true zs)))):=by
 refine bF Tryz.func101 rfl Tryz.ntmps101 rfl aA rfl fun N w c0 h0=>?_
 refine sq ?_;refine rl ?_;refine o1 ?_;refine nl ?_;refine sq ?_;refine rl ?_;(iterate 3 refine o1 ?_)
 refine WL.cast (t:=7) (u':=.int .i64 ((xs.length+1:Nat):Int)) rfl (aI (by omega)) ?_
 refine o1 ?_ (hC:=(fH 2 (by omega) (by simp only[fP];omega)))
 refine WL.cast (t:=8) (u':=.int .i64 (((xs.length+1)/2:Nat):Int)) rfl (aI (eD _ 2)) ?_;refine mk (m:=(xs.length+1)/2) 0 (by omega) (Xl _) ?_
 refine o1 ?_;refine nl ?_;refine sq ?_;refine sq ?_;refine rl ?_;refine o1 ?_;refine nl ?_;refine bl ?_
 refine lp (γ:=Nat) (fun k=>cE [(0,.one (.t (sI false xs))),(3,.one (.sl 0 0 ((xs.length+1)/2))),(4,.one (tv (.int .i64 ((k:Nat):Int))))]) (fun k=>[(⟨115,1,(aR (iZ xs k ((xs.length+1)/2))).map .t⟩:Ob)].map some) (fun k=>k≤xs.length) (fun k=>xs.length-k) 0 (Nat.zero_le _) (aQ h0 [0] _ _ (by decide) ⟨rfl,rfl,rfl,trivial⟩ ⟨Tm rfl rfl Xj.symm,rfl⟩) fun k hk=>?_
 have hn:=hl.nth (by omega) k
 have hln:=DV (l:=xs) (k:=k) (N:=(xs.length+1)/2) rfl hk
 refine sq ?_;refine sq ?_;refine rl ?_;(iterate 4 refine o1 ?_);refine nl ?_;refine bR rfl (fun h1=>?_) (fun h1=>?_)
 ·refine sk ?_;refine sq ?_;refine bl ?_;refine sq ?_;refine rl ?_;refine o1 ?_;refine o1 ?_;refine WL.cast (t:=17) (u':=.int .i64 ((k%2:Nat):Int)) rfl (aI (fK _ 2)) ?_
  refine o1 ?_;refine nl ?_;refine bR rfl (fun h2=>?_) (fun h2=>?_)
  ·refine rl ?_;refine o1 ?_;refine o1 ?_;refine o1 ?_ (hC:=(fH 2 (by omega) (by simp only[fP];omega)))
   refine WL.cast (t:=21) (u':=.int .i64 ((k/2:Nat):Int)) rfl (aI (eD _ 2)) ?_;(iterate 3 refine o1 ?_)
   refine kR ([.v (.int .i64 ((nth xs (k):Nat):Int))]) (eF xs (k:=k) (by omega)) ?_
   refine o1 ?_;refine WL.cast (t:=26) (u':=.int .u32 ((nth xs k:Nat):Int)) rfl (aI rfl) ?_;refine o1 ?_
   refine Bt (Mn (iZ xs k ((xs.length+1)/2)) (k:=k/2) (v:=nth xs k) (by omega)) (Tq (iZ xs k ((xs.length+1)/2)) (by omega)) ?_
   refine nl ?_;refine rl ?_;refine o1 ?_;refine o1 ?_;refine WL.cast (t:=15) (u':=.int .i64 ((k+1:Nat):Int)) rfl (aI (by omega)) ?_
   refine o1 ?_;refine nl ?_;exact⟨k+1,by omega,by omega,aQ h0 [0] _ _ (by decide) ⟨rfl,rfl,rfl,trivial⟩ ⟨Tm rfl rfl (Xk rfl (by omega) (by omega)),rfl⟩⟩
  have hnt:=wB (l:=xs) (k:=k) (N:=(xs.length+1)/2) rfl (by omega) (by omega)
  have hb1:=hl.nth (by omega) (k-1)
  refine rd [0] (fun i=>[16].contains i) mixed ?_
  refine dv 0 ?_;refine dv 1 ?_;refine dv 2 ?_ (hC:=(fH 2 (by omega) (by simp only[fP];omega)))
  refine WD.cast (t:=30) (u':=.int .i64 ((k/2:Nat):Int)) rfl (aI (eD _ 2)) ?_;refine dv 3 ?_;refine dv 4 ?_
  refine dv 5 ?_ (hC:=(fH 2 (by omega) (by simp only[fP];omega)))
  refine WD.cast (t:=33) (u':=.int .i64 ((k/2:Nat):Int)) rfl (aI (eD _ 2)) ?_;refine dv 6 ?_;refine SV 7 (KS (iZ xs k ((xs.length+1)/2)) (k:=k/2) (by omega)) ?_
  refine dv 8 ?_;refine dv 9 ?_;refine dv 10 ?_;refine pE 11 ([.v (.int .i64 ((nth xs (k):Nat):Int))]) (eF xs (k:=k) (by omega)) ?_
  refine dv 12 ?_;refine dv 13 ?_;refine dv 14 ?_
  refine WD.cast (t:=42) (u':=.int .u32 ((nth (iZ xs k ((xs.length+1)/2)) (k/2)+65536*nth xs k:Nat):Int)) rfl (aI (by omega)) ?_
  refine dv 15 ?_
  refine Wv 16 (Mn (iZ xs k ((xs.length+1)/2)) (k:=k/2) (v:=nth (iZ xs k ((xs.length+1)/2)) (k/2)+65536*nth xs k) (by omega)) (Tq (iZ xs k ((xs.length+1)/2)) (by omega)) ?_
  refine aU ?_;refine rl ?_;refine o1 ?_;refine o1 ?_;refine WL.cast (t:=15) (u':=.int .i64 ((k+1:Nat):Int)) rfl (aI (by omega)) ?_
  refine o1 ?_;refine nl ?_;exact⟨k+1,by omega,by omega,aQ h0 [0] _ _ (by decide) ⟨rfl,rfl,rfl,trivial⟩ ⟨Tm rfl rfl (DX rfl (by omega) (by omega)),rfl⟩⟩
 refine ex ?_;refine sq ?_;refine rl ?_;refine o1 ?_;refine o1 ?_;refine nl ?_;refine rt ?_
 exact en (.inl rfl) rfl (aV (.one (.sl (trs:=aR (lb xs)) rfl rfl (by rw[DU rfl (by omega),Nat.mul_one,List.take_of_length_le (by simp[gA,gQ])]) (by simp[gA,gQ])))) (by decide) (fun _=>.inl ⟨rfl,dU _⟩) (by subst hz;unfold sU;rw[gQ];rfl)
theorem Ib {xs ys:List Nat}(hx:xs.length≤1099511627776) (hy:ys.length≤1099511627776) (hlx:Lim 65536 xs) (hly:Lim 65536 ys):aE false Tryz.prog 132 [] [.one (.t (sI false xs)),.one (.t (sI false ys))] (aN (.one (.t (sI false (dg 65536 (vl 65536 xs*vl 65536 ys)))))):=by
 refine bF Tryz.func132 rfl Tryz.ntmps132 rfl aA rfl fun N w c0 h0=>?_
 refine sq ?_;refine rl ?_;refine o1 ?_;refine nl ?_;refine sq ?_;refine rl ?_;(iterate 5 refine o1 ?_)
 refine WL.cast (t:=14) (u':=.int .i64 ((xs.length+ys.length:Nat):Int)) rfl (aI (by omega)) ?_
 refine o1 ?_;refine WL.cast (t:=15) (u':=.int .i64 ((xs.length+ys.length+1:Nat):Int)) rfl (aI (by omega)) ?_
 refine mk (m:=xs.length+ys.length+1) 0 (by omega) (wR _) ?_
 refine o1 ?_;refine nl ?_;refine sq ?_;refine sq ?_;refine rl ?_;refine o1 ?_;refine nl ?_;refine bl ?_
 refine lp (γ:=Nat×List Nat) (fun s=>cE [(0,.one (.t (sI false xs))),(1,.one (.t (sI false ys))),(5,.one (.sl 0 0 (xs.length+ys.length+1))),(6,.one (tv (.int .i64 ((s.1:Nat):Int))))]) (fun s=>[(⟨3,1,(dF s.2).map .t⟩:Ob)].map some) (fun s=>s.1≤xs.length∧Lim 65536 s.2∧s.2.length=xs.length+ys.length+1∧vl 65536 s.2=vl 65536 (xs.take s.1)*vl 65536 ys) (fun s=>xs.length-s.1) (0,List.replicate (xs.length+ys.length+1) 0) ⟨Nat.zero_le _,Lim.replicate (by omega) _,List.length_replicate,by rw[tB];simp[vl]⟩ (aQ h0 [0] _ _ (by decide) ⟨rfl,rfl,rfl,rfl,trivial⟩ ⟨lD rfl rfl rfl,rfl⟩) ?_
 rintro⟨i,os⟩ ⟨hi,hol,hos,hv⟩;dsimp only at hi hol hos hv⊢;refine sq ?_;refine sq ?_;refine rl ?_;(iterate 4 refine o1 ?_);refine nl ?_;refine bR rfl (fun h1=>?_) (fun h1=>?_)
 ·refine sk ?_;refine sq ?_;refine bl ?_;refine sq ?_;refine rl ?_;refine o1 ?_;refine nl ?_;refine sq ?_;refine rl ?_;refine o1 ?_;refine nl ?_;refine bl ?_
  have hil:=hlx.nth (by omega) i
  refine lp (γ:=Nat×Nat×List Nat) (fun s=>cE [(0,.one (.t (sI false xs))),(1,.one (.t (sI false ys))),(5,.one (.sl 0 0 (xs.length+ys.length+1))),(6,.one (tv (.int .i64 ((i:Nat):Int)))),(7,.one (tv (.int .i64 ((s.2.1:Nat):Int)))),(8,.one (tv (.int .i64 ((s.1:Nat):Int))))]) (fun s=>[(⟨3,1,(dF s.2.2).map .t⟩:Ob)].map some) (fun s=>s.1≤ys.length+1∧Lim 65536 s.2.2∧s.2.2.length=xs.length+ys.length+1∧vl 65536 s.2.2+65536^(i+s.1)*s.2.1=vl 65536 (xs.take i)*vl 65536 ys+65536^i*(nth xs i*vl 65536 (ys.take s.1))∧s.2.1≤65535) (fun s=>ys.length+1-s.1) (0,0,os) ⟨Nat.zero_le _,hol,hos,by dsimp only;rw[hv];simp[vl],Nat.zero_le _⟩ (aQ h0 [0] _ _ (by decide) ⟨rfl,rfl,rfl,rfl,rfl,rfl,trivial⟩ ⟨lD rfl rfl rfl,rfl⟩) ?_
  rintro⟨k,cr,os2⟩ ⟨hk,hol2,hos2,hv2,hcb⟩;dsimp only at hk hol2 hos2 hv2 hcb⊢;refine sq ?_;refine sq ?_;refine rl ?_;(iterate 5 refine o1 ?_)
  refine WL.split (t:=27) rfl (fun h2=>?_) (fun h2=>?_)
  ·refine cH ?_;refine cH ?_;refine o1 ?_;refine nl ?_;refine fX rfl ?_;refine sk ?_;refine sq ?_;refine bl ?_;refine sq ?_
   have hkl:k≤ys.length:=by first | omega | exact Hw hlx hly (by omega) hk hv2 (by omega)
   have hon:=hol2.nth (by omega) (i+k)
   have hyn:=hly.nth (by omega) k
   have hmul:=Nat.mul_le_mul (Nat.le_of_lt_succ hil) (Nat.le_of_lt_succ hyn)
   refine rl ?_;(iterate 4 refine o1 ?_);refine WL.cast (t:=36) (u':=.int .i64 ((i+k:Nat):Int)) rfl (aI (by omega)) ?_
   refine o1 ?_;refine JN (Hz os2 (k:=i+k) (by omega)) ?_
   refine o1 ?_;refine o1 ?_;refine WL.cast (t:=40) (u':=.int .i64 ((nth os2 (i+k)+cr:Nat):Int)) rfl (aI (by omega)) ?_
   refine o1 ?_;refine nl ?_;refine sq ?_;refine sq ?_;refine rl ?_;(iterate 4 refine o1 ?_);refine nl ?_;refine bR rfl (fun h3=>?_) (fun h3=>?_)
   ·refine rd [] (fun i=>[11].contains i) mixed ?_
    refine dv 0 ?_;refine dv 1 ?_;refine dv 2 ?_;refine dv 3 ?_;refine pE 4 ([.v (.int .i64 ((nth xs (i):Nat):Int))]) (eF xs (k:=i) (by omega)) ?_
    refine dv 5 ?_;refine dv 6 ?_;refine dv 7 ?_;refine pE 8 ([.v (.int .i64 ((nth ys (k):Nat):Int))]) (eF ys (k:=k) (by omega)) ?_
    refine dv 9 ?_;refine WD.cast (t:=54) (u':=.int .i64 ((nth xs i*nth ys k:Nat):Int)) rfl (aI (Int.natCast_mul _ _).symm) ?_;refine dv 10 ?_
    refine WD.cast (t:=55) (u':=.int .i64 ((nth os2 (i+k)+cr+nth xs i*nth ys k:Nat):Int)) rfl (aI (by omega)) ?_
    refine cZ 11 (by kernel_rfl) rfl rfl aA rfl (by trivial) ?_ (fun h=>by first | rfl | cases h)
    refine aU ?_;refine sq ?_;refine rl ?_;(iterate 4 refine o1 ?_);refine WL.cast (t:=59) (u':=.int .i64 ((i+k:Nat):Int)) rfl (aI (by omega)) ?_
    refine o1 ?_;refine o1 ?_;refine WL.cast (t:=61) (u':=.int .i64 (((nth os2 (i+k)+cr+nth xs i*nth ys k)%65536:Nat):Int)) rfl (aI (fK _ 65536)) ?_;refine o1 ?_
    refine Bt (nN os2 (k:=i+k) (v:=(nth os2 (i+k)+cr+nth xs i*nth ys k)%65536) (by omega)) (qJ os2 (by omega)) ?_
    refine nl ?_;refine rl ?_;refine o1 ?_;refine o1 ?_ (hC:=(fH 65536 (by omega) (by simp only[fP];omega)))
    refine WL.cast (t:=64) (u':=.int .i64 (((nth os2 (i+k)+cr+nth xs i*nth ys k)/65536:Nat):Int)) rfl (aI (eD _ 65536)) ?_;refine o1 ?_;refine nl ?_;refine rl ?_
    refine o1 ?_;refine o1 ?_;refine WL.cast (t:=32) (u':=.int .i64 ((k+1:Nat):Int)) rfl (aI (by omega)) ?_
    refine o1 ?_;refine nl ?_;have hst:=nI (x:=nth os2 (i+k)+cr+nth xs i*nth ys k) (by omega) hv2 (by rfl)
    exact⟨(k+1,(nth os2 (i+k)+cr+nth xs i*nth ys k)/65536,os2.set (i+k) ((nth os2 (i+k)+cr+nth xs i*nth ys k)%65536)),by dsimp only;omega,⟨by dsimp only;omega,hol2.set _ (Nat.mod_lt _ (by omega)),by rw[List.length_set];exact hos2,hst,by dsimp only;omega⟩,aQ h0 [0] _ _ (by decide) ⟨rfl,rfl,rfl,rfl,rfl,rfl,trivial⟩ ⟨lD rfl rfl rfl,rfl⟩⟩
   refine sk ?_;refine sq ?_;refine rl ?_;(iterate 4 refine o1 ?_);refine WL.cast (t:=59) (u':=.int .i64 ((i+k:Nat):Int)) rfl (aI (by omega)) ?_
   refine o1 ?_;refine o1 ?_;refine WL.cast (t:=61) (u':=.int .i64 (((nth os2 (i+k)+cr)%65536:Nat):Int)) rfl (aI (fK _ 65536)) ?_;refine o1 ?_
   refine Bt (nN os2 (k:=i+k) (v:=(nth os2 (i+k)+cr)%65536) (by omega)) (qJ os2 (by omega)) ?_
   refine nl ?_;refine rl ?_;refine o1 ?_;refine o1 ?_ (hC:=(fH 65536 (by omega) (by simp only[fP];omega)))
   refine WL.cast (t:=64) (u':=.int .i64 (((nth os2 (i+k)+cr)/65536:Nat):Int)) rfl (aI (eD _ 65536)) ?_;refine o1 ?_;refine nl ?_;refine rl ?_;refine o1 ?_;refine o1 ?_
   refine WL.cast (t:=32) (u':=.int .i64 ((k+1:Nat):Int)) rfl (aI (by omega)) ?_
   refine o1 ?_;refine nl ?_;have hny:nth ys k=0:=dQ (by omega)
   have hst:=nI (x:=nth os2 (i+k)+cr) (by omega) hv2 (by rw[hny,Nat.mul_zero,Nat.add_zero])
   exact⟨(k+1,(nth os2 (i+k)+cr)/65536,os2.set (i+k) ((nth os2 (i+k)+cr)%65536)),by dsimp only;omega,⟨by dsimp only;omega,hol2.set _ (Nat.mod_lt _ (by omega)),by rw[List.length_set];exact hos2,hst,by dsimp only;omega⟩,aQ h0 [0] _ _ (by decide) ⟨rfl,rfl,rfl,rfl,rfl,rfl,trivial⟩ ⟨lD rfl rfl rfl,rfl⟩⟩
  (iterate 3 refine o1 ?_);refine nl ?_;refine bR rfl (fun h4=>?_) (fun h4=>?_)
  ·refine sk ?_;refine sq ?_;refine bl ?_;refine sq ?_;have hkl:k≤ys.length:=by first | omega | exact Hw hlx hly (by omega) hk hv2 (by omega)
   have hon:=hol2.nth (by omega) (i+k)
   have hyn:=hly.nth (by omega) k
   have hmul:=Nat.mul_le_mul (Nat.le_of_lt_succ hil) (Nat.le_of_lt_succ hyn)
   refine rl ?_;(iterate 4 refine o1 ?_);refine WL.cast (t:=36) (u':=.int .i64 ((i+k:Nat):Int)) rfl (aI (by omega)) ?_
   refine o1 ?_;refine JN (Hz os2 (k:=i+k) (by omega)) ?_
   refine o1 ?_;refine o1 ?_;refine WL.cast (t:=40) (u':=.int .i64 ((nth os2 (i+k)+cr:Nat):Int)) rfl (aI (by omega)) ?_
   refine o1 ?_;refine nl ?_;refine sq ?_;refine sq ?_;refine rl ?_;(iterate 4 refine o1 ?_);refine nl ?_;refine bR rfl (fun h5=>?_) (fun h5=>?_)
   ·refine rd [] (fun i=>[11].contains i) mixed ?_
    refine dv 0 ?_;refine dv 1 ?_;refine dv 2 ?_;refine dv 3 ?_;refine pE 4 ([.v (.int .i64 ((nth xs (i):Nat):Int))]) (eF xs (k:=i) (by omega)) ?_
    refine dv 5 ?_;refine dv 6 ?_;refine dv 7 ?_;refine pE 8 ([.v (.int .i64 ((nth ys (k):Nat):Int))]) (eF ys (k:=k) (by omega)) ?_
    refine dv 9 ?_;refine WD.cast (t:=54) (u':=.int .i64 ((nth xs i*nth ys k:Nat):Int)) rfl (aI (Int.natCast_mul _ _).symm) ?_;refine dv 10 ?_
    refine WD.cast (t:=55) (u':=.int .i64 ((nth os2 (i+k)+cr+nth xs i*nth ys k:Nat):Int)) rfl (aI (by omega)) ?_
    refine cZ 11 (by kernel_rfl) rfl rfl aA rfl (by trivial) ?_ (fun h=>by first | rfl | cases h)
    refine aU ?_;refine sq ?_;refine rl ?_;(iterate 4 refine o1 ?_);refine WL.cast (t:=59) (u':=.int .i64 ((i+k:Nat):Int)) rfl (aI (by omega)) ?_
    refine o1 ?_;refine o1 ?_;refine WL.cast (t:=61) (u':=.int .i64 (((nth os2 (i+k)+cr+nth xs i*nth ys k)%65536:Nat):Int)) rfl (aI (fK _ 65536)) ?_;refine o1 ?_
    refine Bt (nN os2 (k:=i+k) (v:=(nth os2 (i+k)+cr+nth xs i*nth ys k)%65536) (by omega)) (qJ os2 (by omega)) ?_
    refine nl ?_;refine rl ?_;refine o1 ?_;refine o1 ?_ (hC:=(fH 65536 (by omega) (by simp only[fP];omega)))
    refine WL.cast (t:=64) (u':=.int .i64 (((nth os2 (i+k)+cr+nth xs i*nth ys k)/65536:Nat):Int)) rfl (aI (eD _ 65536)) ?_;refine o1 ?_;refine nl ?_;refine rl ?_
    refine o1 ?_;refine o1 ?_;refine WL.cast (t:=32) (u':=.int .i64 ((k+1:Nat):Int)) rfl (aI (by omega)) ?_
    refine o1 ?_;refine nl ?_;have hst:=nI (x:=nth os2 (i+k)+cr+nth xs i*nth ys k) (by omega) hv2 (by rfl)
    exact⟨(k+1,(nth os2 (i+k)+cr+nth xs i*nth ys k)/65536,os2.set (i+k) ((nth os2 (i+k)+cr+nth xs i*nth ys k)%65536)),by dsimp only;omega,⟨by dsimp only;omega,hol2.set _ (Nat.mod_lt _ (by omega)),by rw[List.length_set];exact hos2,hst,by dsimp only;omega⟩,aQ h0 [0] _ _ (by decide) ⟨rfl,rfl,rfl,rfl,rfl,rfl,trivial⟩ ⟨lD rfl rfl rfl,rfl⟩⟩
   refine sk ?_;refine sq ?_;refine rl ?_;(iterate 4 refine o1 ?_);refine WL.cast (t:=59) (u':=.int .i64 ((i+k:Nat):Int)) rfl (aI (by omega)) ?_
   refine o1 ?_;refine o1 ?_;refine WL.cast (t:=61) (u':=.int .i64 (((nth os2 (i+k)+cr)%65536:Nat):Int)) rfl (aI (fK _ 65536)) ?_;refine o1 ?_
   refine Bt (nN os2 (k:=i+k) (v:=(nth os2 (i+k)+cr)%65536) (by omega)) (qJ os2 (by omega)) ?_
   refine nl ?_;refine rl ?_;refine o1 ?_;refine o1 ?_ (hC:=(fH 65536 (by omega) (by simp only[fP];omega)))
   refine WL.cast (t:=64) (u':=.int .i64 (((nth os2 (i+k)+cr)/65536:Nat):Int)) rfl (aI (eD _ 65536)) ?_;refine o1 ?_;refine nl ?_;refine rl ?_;refine o1 ?_;refine o1 ?_
   refine WL.cast (t:=32) (u':=.int .i64 ((k+1:Nat):Int)) rfl (aI (by omega)) ?_
   refine o1 ?_;refine nl ?_;have hny:nth ys k=0:=dQ (by omega)
   have hst:=nI (x:=nth os2 (i+k)+cr) (by omega) hv2 (by rw[hny,Nat.mul_zero,Nat.add_zero])
   exact⟨(k+1,(nth os2 (i+k)+cr)/65536,os2.set (i+k) ((nth os2 (i+k)+cr)%65536)),by dsimp only;omega,⟨by dsimp only;omega,hol2.set _ (Nat.mod_lt _ (by omega)),by rw[List.length_set];exact hos2,hst,by dsimp only;omega⟩,aQ h0 [0] _ _ (by decide) ⟨rfl,rfl,rfl,rfl,rfl,rfl,trivial⟩ ⟨lD rfl rfl rfl,rfl⟩⟩
  refine ex ?_;refine rl ?_;refine o1 ?_;refine o1 ?_;refine WL.cast (t:=22) (u':=.int .i64 ((i+1:Nat):Int)) rfl (aI (by omega)) ?_
  refine o1 ?_;refine nl ?_;have hcr0:cr=0:=by omega
  rw[hcr0,Nat.mul_zero,Nat.add_zero,zL (by omega)]at hv2
  exact⟨(i+1,os2),by dsimp only;omega,⟨by dsimp only;omega,hol2,hos2,hv2⟩,aQ h0 [0] _ _ (by decide) ⟨rfl,rfl,rfl,rfl,trivial⟩ ⟨lD rfl rfl rfl,rfl⟩⟩
 refine ex ?_;refine sq ?_;refine rl ?_;rw[bM 65536 (by omega)]at hv
 refine WL.sub (tR (i:=5) (zs':=os) rfl rfl rfl (by omega) rfl) ?_
 refine o1 ?_;refine ca (zM (by omega)) yX ⟨a1 rfl,rfl⟩ (.one (.t (sI false (trim os)))) ?_
 refine o1 ?_;refine nl ?_;refine rt ?_;exact en (.inl rfl) rfl (aV (.one (.id rfl))) (by decide) (fun h=>by cases h) (by rw[xI (by omega) hol hv];rfl)
theorem fG {a b:Zi}{k k':Int}(ha:Zn a k) (hb:Zn b k'):aE true Tryz.prog 81 [] [gF a,gF b] (aN (kO (k*k'))):=by
 refine bF Tryz.func81 rfl Tryz.ntmps81 rfl aA rfl fun N w c0 h0=>?_
 have hkl:=ha.len
 have hkl':=hb.len
 refine sq ?_;refine rl ?_;refine bx 0 ?_;refine bx 1 ?_;refine al 2 ?_;refine nl ?_;refine sq ?_;refine rl ?_;refine ld ?_;refine ca (eY ha) lQ ⟨aB rfl,rfl⟩ (kF (k)) ?_
 refine st ?_;refine nl ?_;refine sq ?_;refine rl ?_;refine ld ?_;refine ca (eY hb) lQ ⟨aB rfl,rfl⟩ (kF (k')) ?_;refine st ?_;refine nl ?_;refine sq ?_
 refine rd [0,1,2] (fun i=>[14].contains i) mixed ?_
 refine dv 0 ?_;refine aW 1 ?_;refine dv 2 ?_;refine aW 3 ?_;refine dv 4 ?_;refine dv 5 ?_;refine aW 6 ?_;refine dv 8 ?_;refine aW 9 ?_
 have hn1:=dI (v:=vl 4294967296 (dg 4294967296 (k).natAbs)) (L:=(dg 4294967296 (k).natAbs).length) (by rw[bK (by omega)];exact Nat.le_refl _)
 refine aJ 7 rfl (kH (by omega) (aM (by omega) _)) Au ⟨a1 rfl,rfl⟩ (.one (.t (sI false (dg 65536 (vl 4294967296 (dg 4294967296 (k).natAbs)))))) ?_
 have hn2:=dI (v:=vl 4294967296 (dg 4294967296 (k').natAbs)) (L:=(dg 4294967296 (k').natAbs).length) (by rw[bK (by omega)];exact Nat.le_refl _)
 refine aJ 10 rfl (kH (by omega) (aM (by omega) _)) Au ⟨a1 rfl,rfl⟩ (.one (.t (sI false (dg 65536 (vl 4294967296 (dg 4294967296 (k').natAbs)))))) ?_
 have hn3:=uM (xs:=(dg 65536 (vl 4294967296 (dg 4294967296 (k).natAbs)))) (ys:=(dg 65536 (vl 4294967296 (dg 4294967296 (k').natAbs)))) (aM (by omega) _) (aM (by omega) _)
 refine aJ 11 rfl (Ib (by omega) (by omega) (aM (by omega) _) (aM (by omega) _)) Zm ⟨a1 rfl,a1 rfl,rfl⟩ (.one (.t (sI false (dg 65536 (vl 65536 (dg 65536 (vl 4294967296 (dg 4294967296 (k).natAbs)))*vl 65536 (dg 65536 (vl 4294967296 (dg 4294967296 (k').natAbs)))))))) ?_
 have hn4:=lF (vl 65536 (dg 65536 (vl 4294967296 (dg 4294967296 (k).natAbs)))*vl 65536 (dg 65536 (vl 4294967296 (dg 4294967296 (k').natAbs))))
 refine aJ 12 rfl (sJ (zs:=(dg 4294967296 (vl 65536 (dg 65536 (vl 4294967296 (dg 4294967296 (k).natAbs)))*vl 65536 (dg 65536 (vl 4294967296 (dg 4294967296 (k').natAbs)))))) (by omega) (aM (by omega) _) (vN _)) eC ⟨a1 rfl,rfl⟩ (.one (.t (sU false (dg 4294967296 (vl 65536 (dg 65536 (vl 4294967296 (dg 4294967296 (k).natAbs)))*vl 65536 (dg 65536 (vl 4294967296 (dg 4294967296 (k').natAbs)))))))) ?_
 refine oT 3 13 rfl (jK (K:=k*k') (by omega) (aM (by omega) _) (by simp only[bK (B:=4294967296) (by omega),bK (B:=65536) (by omega)];exact Mc k k')) cA ⟨a1 rfl,a1 rfl,rfl⟩ ?_
 refine dst 14 ?_;refine aU ?_;refine rt ?_
 exact en (.inl rfl) rfl (aV (.agg (.cons (.id rfl) (.cons (.sl (trs:=aR (dg 4294967296 (k*k').natAbs)) rfl rfl (bL _) (aX _)) .nil)))) (by decide) (fun _=>dV (k*k')) rfl
theorem EH {u v:Nat}(hx:(dg 65536 (u)).length≤4398046511104) (hy:(dg 65536 (v)).length≤4398046511104):aE true Tryz.prog 171 [] [.one (.t (sI false (dg 65536 u))),.one (.t (sI false (dg 65536 v)))] (aN (.one (tv (.bool (decide (u<v)))))):=by
 refine bF Tryz.func171 rfl Tryz.ntmps171 rfl aA rfl fun N w c0 h0=>?_
 refine sq ?_;refine rl ?_;refine o1 ?_;refine nl ?_;refine sq ?_;refine sq ?_;refine rl ?_;(iterate 5 refine o1 ?_);refine nl ?_;refine bR rfl (fun h1=>?_) (fun h1=>?_)
 ·refine sq ?_;refine rl ?_;(iterate 6 refine o1 ?_);refine nl ?_;refine rt ?_
  refine en (.inl rfl) rfl (aV (aO _)) (by decide) (fun _=>trivial) (congrArg (fun z=>FV.one (tv (.bool z))) ?_)
  exact Xg rfl rfl (by omega)
 refine sk ?_;refine sq ?_;refine sq ?_;refine rl ?_;(iterate 4 refine o1 ?_);refine nl ?_;refine bl ?_
 refine lp (γ:=Nat) (fun k=>cE [(0,.one (.t (sI false (dg 65536 u)))),(1,.one (.t (sI false (dg 65536 v)))),(5,.one (tv (.int .i64 ((k:Nat)-1))))]) (fun k=>([]:List Ob).map some) (fun k=>(∀j,k≤j→nth (dg 65536 (u)) j=nth (dg 65536 (v)) j)∧k≤(dg 65536 (u)).length) (fun k=>k) (dg 65536 (u)).length ⟨fun j hj=>by rw[dQ (by omega),dQ (by omega)],Nat.le_refl _⟩ (aQ h0 [] _ _ (by decide) ⟨rfl,rfl,rfl,trivial⟩ rfl) fun k hk=>?_
 refine sq ?_;refine sq ?_;refine rl ?_;refine o1 ?_;refine o1 ?_;refine nl ?_;refine bR rfl (fun h2=>?_) (fun h2=>?_)
 ·refine sk ?_;refine sq ?_;refine bl ?_;refine sq ?_;refine rd [] (fun i=>[].contains i) mixed ?_
  refine dv 0 ?_;refine dv 1 ?_;refine WD.cast (t:=24) (u':=.int .i64 ((k-1:Nat):Int)) rfl (aI (by omega)) ?_
  refine dv 2 ?_;refine pE 3 ([.v (.int .i64 ((nth (dg 65536 (u)) (k-1):Nat):Int))]) (eF (dg 65536 (u)) (k:=k-1) (by omega)) ?_
  refine dv 4 ?_;refine dv 5 ?_;refine WD.cast (t:=28) (u':=.int .i64 ((k-1:Nat):Int)) rfl (aI (by omega)) ?_
  refine dv 6 ?_;refine pE 7 ([.v (.int .i64 ((nth (dg 65536 (v)) (k-1):Nat):Int))]) (eF (dg 65536 (v)) (k:=k-1) (by omega)) ?_
  refine dv 8 ?_;refine aU ?_;refine bR rfl (fun h3=>?_) (fun h3=>?_)
  ·refine sq ?_;refine rd [] (fun i=>[9].contains i) mixed ?_
   refine dv 0 ?_;refine dv 1 ?_;refine WD.cast (t:=33) (u':=.int .i64 ((k-1:Nat):Int)) rfl (aI (by omega)) ?_
   refine dv 2 ?_;refine pE 3 ([.v (.int .i64 ((nth (dg 65536 (u)) (k-1):Nat):Int))]) (eF (dg 65536 (u)) (k:=k-1) (by omega)) ?_
   refine dv 4 ?_;refine dv 5 ?_;refine WD.cast (t:=37) (u':=.int .i64 ((k-1:Nat):Int)) rfl (aI (by omega)) ?_
   refine dv 6 ?_;refine pE 7 ([.v (.int .i64 ((nth (dg 65536 (v)) (k-1):Nat):Int))]) (eF (dg 65536 (v)) (k:=k-1) (by omega)) ?_
   refine dv 8 ?_;refine cZ 9 (by kernel_rfl) rfl rfl aA rfl (by trivial) ?_ (fun h=>by first | rfl | cases h)
   refine aU ?_;refine rt ?_;refine en (.inl rfl) rfl (aV (aO _)) (by decide) (fun _=>trivial) (congrArg (fun z=>FV.one (tv (.bool z))) ?_)
   exact DQ (k:=k-1) (fun j hj=>hk.1 j (by omega)) (by omega)
  refine sk ?_;refine rl ?_;(iterate 3 refine o1 ?_);refine nl ?_
  exact⟨k-1,by omega,⟨fun j hj=>(Nat.eq_or_lt_of_le hj).elim (fun h9=>by rw[←h9];omega) (fun h9=>hk.1 j (by omega)),by omega⟩,aQ h0 [] _ _ (by decide) ⟨rfl,rfl,congrArg (fun z=>some (FV.one (tv (.int .i64 z)))) (by omega),trivial⟩ rfl⟩
 refine ex ?_;refine sq ?_;refine rl ?_;refine o1 ?_;refine nl ?_;refine rt ?_
 refine en (.inl rfl) rfl (aV (aO _)) (by decide) (fun _=>trivial) (congrArg (fun z=>FV.one (tv (.bool z))) ?_)
 have he:=Tj (fun j=>hk.1 j (by omega))
 rw[bK (by omega),bK (by omega)]at he
 rw[he,decide_eq_false (Nat.lt_irrefl v)]
theorem EI {u v n:Nat}(hx:(dg 65536 (u)).length≤1099511627776) (hy:(dg 65536 (v)).length≤1099511627776) (hn:n≤65536) (hnv:n*v≤u):aE false Tryz.prog 150 [] [.one (.t (sI false (dg 65536 u))),.one (.t (sI false (dg 65536 v))),.one (tv (.int .i64 ((n:Nat):Int)))] (aN (.one (.t (sI false (dg 65536 (u-n*v)))))):=by
 refine bF Tryz.func150 rfl Tryz.ntmps150 rfl aA rfl fun N w c0 h0=>?_
 have hlu:=aM (B:=65536) (by omega) u
 have hlv:=aM (B:=65536) (by omega) v
 refine sq ?_;refine rl ?_;refine o1 ?_;refine nl ?_;refine sq ?_;refine rl ?_;refine o1 ?_;refine nl ?_;refine sq ?_;refine rl ?_;refine o1 ?_;refine nl ?_;refine sq ?_;refine sq ?_
 refine rl ?_;refine o1 ?_;refine nl ?_;refine bl ?_
 refine lp (γ:=Nat×Nat×List Nat) (fun s=>cE [(0,.one (.t (sI false (dg 65536 u)))),(1,.one (.t (sI false (dg 65536 v)))),(2,.one (tv (.int .i64 ((n:Nat):Int)))),(7,.one (.sl 0 0 s.1)),(8,.one (tv (.int .i64 ((s.2.1:Nat):Int)))),(9,.one (tv (.int .i64 ((s.1:Nat):Int))))]) (fun s=>[(⟨3,1,(dF s.2.2).map .t⟩:Ob)].map some) (fun s=>s.2.2.length=s.1∧Lim 65536 s.2.2∧vl 65536 s.2.2+n*vl 65536 ((dg 65536 (v)).take s.1)=vl 65536 ((dg 65536 (u)).take s.1)+65536^s.1*s.2.1∧s.2.1≤65536∧s.1≤(dg 65536 (u)).length) (fun s=>(dg 65536 (u)).length-s.1) (0,0,[]) ⟨rfl,Lim.nil,by simp[vl],Nat.zero_le _,Nat.zero_le _⟩ ((nr (i:=7) 0 3 1 rfl rfl rfl rfl).trans (aQ h0 [0] _ _ (by decide) ⟨rfl,rfl,rfl,rfl,rfl,rfl,trivial⟩ ⟨cV (l:=[]) rfl,rfl⟩)) ?_
 rintro⟨k,br,os⟩ ⟨hos,hol,hv,hc1,hkm⟩;dsimp only at hos hol hv hc1 hkm⊢;have hn1:=hlu.nth (by omega) k
 have hn2:=hlv.nth (by omega) k
 have hmul:=Nat.mul_le_mul hn (Nat.le_of_lt_succ hn2)
 refine sq ?_;refine sq ?_;refine rl ?_;(iterate 4 refine o1 ?_);refine nl ?_;refine bR rfl (fun h1=>?_) (fun h1=>?_)
 ·refine sk ?_;refine sq ?_;refine bl ?_;refine sq ?_;refine rl ?_;(iterate 3 refine o1 ?_)
  refine kR ([.v (.int .i64 ((nth (dg 65536 (u)) (k):Nat):Int))]) (eF (dg 65536 (u)) (k:=k) (by omega)) ?_
  (iterate 3 refine o1 ?_);refine nl ?_;refine sq ?_;refine sq ?_;refine rl ?_;(iterate 4 refine o1 ?_);refine nl ?_;refine bR rfl (fun h2=>?_) (fun h2=>?_)
  ·refine rl ?_;(iterate 5 refine o1 ?_);refine kR ([.v (.int .i64 ((nth (dg 65536 (v)) (k):Nat):Int))]) (eF (dg 65536 (v)) (k:=k) (by omega)) ?_
   (iterate 3 refine o1 ?_);refine nl ?_;refine sq ?_;refine rl ?_;refine o1 ?_;refine nl ?_;refine sq ?_;refine sq ?_;refine rl ?_;refine o1 ?_;refine o1 ?_;refine nl ?_
   refine bR rfl (fun h3=>?_) (fun h3=>?_)
   ·refine sq ?_;refine rl ?_;refine o1 ?_;refine o1 ?_
    refine WL.cast (t:=38) (u':=.int .i64 ((65535+n*nth (dg 65536 (v)) k+br-nth (dg 65536 (u)) k:Nat):Int)) rfl (aI (by omega)) ?_
    refine o1 ?_ (hC:=(fH 65536 (by omega) (by simp only[fP];omega)))
    refine WL.cast (t:=39) (u':=.int .i64 (((65535+n*nth (dg 65536 (v)) k+br-nth (dg 65536 (u)) k)/65536:Nat):Int)) rfl (aI (eD _ 65536)) ?_;refine o1 ?_;refine nl ?_
    refine rl ?_;(iterate 5 refine o1 ?_);refine nl ?_;refine rl ?_;refine o1 ?_;refine o1 ?_
    refine WL.cast (t:=45) (u':=.int .i64 ((nth (dg 65536 (u)) k+65536*((65535+n*nth (dg 65536 (v)) k+br-nth (dg 65536 (u)) k)/65536)-br-n*nth (dg 65536 (v)) k:Nat):Int)) rfl (aI (by omega)) ?_
    refine bs 1 ?_;refine jU (j:=2) aA rfl rfl rfl rfl (.sl rfl (by rw[List.length_map,gD,hos];omega)) (.sl rfl rfl rfl) rfl rfl rfl (by omega) (by omega) ?_
    refine o1 ?_;refine nl ?_;refine rl ?_;refine o1 ?_;refine o1 ?_;refine WL.cast (t:=16) (u':=.int .i64 ((k+1:Nat):Int)) rfl (aI (by omega)) ?_
    refine o1 ?_;refine nl ?_
    have hst:=pF (d:=nth (dg 65536 (u)) k+65536*((65535+n*nth (dg 65536 (v)) k+br-nth (dg 65536 (u)) k)/65536)-br-n*nth (dg 65536 (v)) k) (br:=br) (br':=(65535+n*nth (dg 65536 (v)) k+br-nth (dg 65536 (u)) k)/65536) hos hv (by omega)
    exact⟨(k+1,(65535+n*nth (dg 65536 (v)) k+br-nth (dg 65536 (u)) k)/65536,os++[nth (dg 65536 (u)) k+65536*((65535+n*nth (dg 65536 (v)) k+br-nth (dg 65536 (u)) k)/65536)-br-n*nth (dg 65536 (v)) k]),by dsimp only;omega,⟨by simp[hos],hol.append (Lim.cons (by omega) Lim.nil),hst,by dsimp only;omega,by dsimp only;omega⟩,aQ h0 [2] _ _ (by decide) ⟨rfl,rfl,rfl,rfl,rfl,rfl,trivial⟩ ⟨lD rfl (gE _ [nth (dg 65536 (u)) k+65536*((65535+n*nth (dg 65536 (v)) k+br-nth (dg 65536 (u)) k)/65536)-br-n*nth (dg 65536 (v)) k]) rfl,rfl⟩⟩
   refine sk ?_;refine rl ?_;refine o1 ?_;refine o1 ?_;refine WL.cast (t:=45) (u':=.int .i64 ((nth (dg 65536 (u)) k-br-n*nth (dg 65536 (v)) k:Nat):Int)) rfl (aI (by omega)) ?_
   refine bs 1 ?_;refine jU (j:=2) aA rfl rfl rfl rfl (.sl rfl (by rw[List.length_map,gD,hos];omega)) (.sl rfl rfl rfl) rfl rfl rfl (by omega) (by omega) ?_
   refine o1 ?_;refine nl ?_;refine rl ?_;refine o1 ?_;refine o1 ?_;refine WL.cast (t:=16) (u':=.int .i64 ((k+1:Nat):Int)) rfl (aI (by omega)) ?_
   refine o1 ?_;refine nl ?_;have hst:=pF (d:=nth (dg 65536 (u)) k-br-n*nth (dg 65536 (v)) k) (br:=br) (br':=0) hos hv (by omega)
   exact⟨(k+1,0,os++[nth (dg 65536 (u)) k-br-n*nth (dg 65536 (v)) k]),by dsimp only;omega,⟨by simp[hos],hol.append (Lim.cons (by omega) Lim.nil),hst,by dsimp only;omega,by dsimp only;omega⟩,aQ h0 [2] _ _ (by decide) ⟨rfl,rfl,rfl,rfl,rfl,rfl,trivial⟩ ⟨lD rfl (gE _ [nth (dg 65536 (u)) k-br-n*nth (dg 65536 (v)) k]) rfl,rfl⟩⟩
  refine sk ?_;refine sq ?_;refine rl ?_;refine o1 ?_;refine nl ?_;refine sq ?_;refine sq ?_;refine rl ?_;refine o1 ?_;refine o1 ?_;refine nl ?_
  refine bR rfl (fun h4=>?_) (fun h4=>?_)
  ·refine sq ?_;refine rl ?_;refine o1 ?_;refine o1 ?_;refine WL.cast (t:=38) (u':=.int .i64 ((65535+br-nth (dg 65536 (u)) k:Nat):Int)) rfl (aI (by omega)) ?_
   refine o1 ?_ (hC:=(fH 65536 (by omega) (by simp only[fP];omega)))
   refine WL.cast (t:=39) (u':=.int .i64 (((65535+br-nth (dg 65536 (u)) k)/65536:Nat):Int)) rfl (aI (eD _ 65536)) ?_;refine o1 ?_;refine nl ?_;refine rl ?_
   (iterate 5 refine o1 ?_);refine nl ?_;refine rl ?_;refine o1 ?_;refine o1 ?_
   refine WL.cast (t:=45) (u':=.int .i64 ((nth (dg 65536 (u)) k+65536*((65535+br-nth (dg 65536 (u)) k)/65536)-br:Nat):Int)) rfl (aI (by omega)) ?_
   refine bs 1 ?_;refine jU (j:=2) aA rfl rfl rfl rfl (.sl rfl (by rw[List.length_map,gD,hos];omega)) (.sl rfl rfl rfl) rfl rfl rfl (by omega) (by omega) ?_
   refine o1 ?_;refine nl ?_;refine rl ?_;refine o1 ?_;refine o1 ?_;refine WL.cast (t:=16) (u':=.int .i64 ((k+1:Nat):Int)) rfl (aI (by omega)) ?_
   refine o1 ?_;refine nl ?_;have hny:nth (dg 65536 (v)) k=0:=dQ (by omega)
   have hst:=pF (d:=nth (dg 65536 (u)) k+65536*((65535+br-nth (dg 65536 (u)) k)/65536)-br) (br:=br) (br':=(65535+br-nth (dg 65536 (u)) k)/65536) hos hv (by rw[hny,Nat.mul_zero];omega)
   exact⟨(k+1,(65535+br-nth (dg 65536 (u)) k)/65536,os++[nth (dg 65536 (u)) k+65536*((65535+br-nth (dg 65536 (u)) k)/65536)-br]),by dsimp only;omega,⟨by simp[hos],hol.append (Lim.cons (by omega) Lim.nil),hst,by dsimp only;omega,by dsimp only;omega⟩,aQ h0 [2] _ _ (by decide) ⟨rfl,rfl,rfl,rfl,rfl,rfl,trivial⟩ ⟨lD rfl (gE _ [nth (dg 65536 (u)) k+65536*((65535+br-nth (dg 65536 (u)) k)/65536)-br]) rfl,rfl⟩⟩
  refine sk ?_;refine rl ?_;refine o1 ?_;refine o1 ?_;refine WL.cast (t:=45) (u':=.int .i64 ((nth (dg 65536 (u)) k-br:Nat):Int)) rfl (aI (by omega)) ?_
  refine bs 1 ?_;refine jU (j:=2) aA rfl rfl rfl rfl (.sl rfl (by rw[List.length_map,gD,hos];omega)) (.sl rfl rfl rfl) rfl rfl rfl (by omega) (by omega) ?_
  refine o1 ?_;refine nl ?_;refine rl ?_;refine o1 ?_;refine o1 ?_;refine WL.cast (t:=16) (u':=.int .i64 ((k+1:Nat):Int)) rfl (aI (by omega)) ?_
  refine o1 ?_;refine nl ?_;have hny:nth (dg 65536 (v)) k=0:=dQ (by omega)
  have hst:=pF (d:=nth (dg 65536 (u)) k-br) (br:=br) (br':=0) hos hv (by rw[hny,Nat.mul_zero];omega)
  exact⟨(k+1,0,os++[nth (dg 65536 (u)) k-br]),by dsimp only;omega,⟨by simp[hos],hol.append (Lim.cons (by omega) Lim.nil),hst,by dsimp only;omega,by dsimp only;omega⟩,aQ h0 [2] _ _ (by decide) ⟨rfl,rfl,rfl,rfl,rfl,rfl,trivial⟩ ⟨lD rfl (gE _ [nth (dg 65536 (u)) k-br]) rfl,rfl⟩⟩
 refine ex ?_;refine sq ?_;refine rl ?_;have hve:vl 65536 os=u-n*v:=Xh rfl (by omega) hol hv hnv
 refine WL.sub (tR (i:=7) (zs':=os) rfl rfl rfl (by omega) rfl) ?_
 refine o1 ?_;refine ca (zM (by omega)) yX ⟨a1 rfl,rfl⟩ (.one (.t (sI false (trim os)))) ?_
 refine o1 ?_;refine nl ?_;refine rt ?_;exact en (.inl rfl) rfl (aV (.one (.id rfl))) (by decide) (fun h=>by cases h) (by rw[xI (by omega) hol hve];rfl)
theorem Xr {u v:Nat}(hx:(dg 65536 (u)).length≤1099511627776) (hy:(dg 65536 (v)).length≤1099511627776) (huv:u<65536*v):aE true Tryz.prog 149 [] [.one (.t (sI false (dg 65536 u))),.one (.t (sI false (dg 65536 v)))] (aN (.one (tv (.int .i64 ((u/v:Nat):Int))))):=by
 refine bF Tryz.func149 rfl Tryz.ntmps149 rfl aA rfl fun N w c0 h0=>?_
 refine sq ?_;refine rl ?_;refine o1 ?_;refine nl ?_;refine sq ?_;refine rl ?_;refine o1 ?_;refine o1 ?_;refine nl ?_;refine sq ?_;refine bl ?_
 refine lp (γ:=Nat×Nat) (fun s=>cE [(0,.one (.t (sI false (dg 65536 u)))),(1,.one (.t (sI false (dg 65536 v)))),(5,.one (tv (.int .i64 ((s.1:Nat):Int)))),(6,.one (tv (.int .i64 ((s.2:Nat):Int))))]) (fun s=>([]:List Ob).map some) (fun s=>s.1*v≤u∧u<s.2*v∧s.1<s.2∧s.2≤65536) (fun s=>s.2-s.1) (0,65536) ⟨by simp,huv,by decide,Nat.le_refl _⟩ (aQ h0 [] _ _ (by decide) ⟨rfl,rfl,rfl,rfl,trivial⟩ rfl) ?_
 rintro⟨lo,hi⟩ ⟨h91,h92,h93,h94⟩;dsimp only at h91 h92 h93 h94⊢;refine sq ?_;refine sq ?_;refine rl ?_;(iterate 3 refine o1 ?_)
 refine WL.cast (t:=10) (u':=.int .i64 ((hi-lo:Nat):Int)) rfl (aI (by omega)) ?_
 refine o1 ?_;refine nl ?_;refine bR rfl (fun h1=>?_) (fun h1=>?_)
 ·refine sk ?_;refine bl ?_;refine sq ?_;refine rl ?_;(iterate 3 refine o1 ?_);refine WL.cast (t:=14) (u':=.int .i64 ((lo+hi:Nat):Int)) rfl (aI (by omega)) ?_
  refine o1 ?_ (hC:=(fH 2 (by omega) (by simp only[fP];omega)))
  refine WL.cast (t:=15) (u':=.int .i64 (((lo+hi)/2:Nat):Int)) rfl (aI (eD _ 2)) ?_;refine o1 ?_;refine nl ?_;refine sq ?_;refine rl ?_;(iterate 3 refine o1 ?_)
  refine bs 0 ?_;refine WL.sub (tR (i:=19) (zs:=[(lo+hi)/2]) (zs':=[(lo+hi)/2]) rfl rfl rfl rfl rfl) ?_;have h1l:[(lo+hi)/2].length=1:=rfl
  have hn2:=uM (xs:=(dg 65536 (v))) (ys:=[(lo+hi)/2]) (aM (by omega) _) (Lim.cons (d:=(lo+hi)/2) (by omega) Lim.nil)
  refine ca (Ib (by omega) (by omega) (aM (by omega) _) (Lim.cons (d:=(lo+hi)/2) (by omega) Lim.nil)) Zm ⟨a1 rfl,a1 rfl,rfl⟩ (.one (.t (sI false (dg 65536 (vl 65536 (dg 65536 (v))*vl 65536 [(lo+hi)/2]))))) ?_
  refine ca (EH (by omega) (by omega)) OI ⟨a1 rfl,a1 rfl,rfl⟩ (.one (tv (.bool (decide (u<vl 65536 (dg 65536 (v))*vl 65536 [(lo+hi)/2]))))) ?_
  refine nl ?_;refine bR rfl (fun h3=>?_) (fun h3=>?_)
  ·refine rl ?_;refine o1 ?_;refine o1 ?_;refine nl ?_;rw[bK (by omega),pS,Nat.mul_comm]at h3
   exact⟨(lo,(lo+hi)/2),by dsimp only;omega,⟨by dsimp only;omega,by dsimp only;omega,by dsimp only;omega,by dsimp only;omega⟩,aQ h0 [] _ _ (by decide) ⟨rfl,rfl,rfl,rfl,trivial⟩ rfl⟩
  refine rl ?_;refine o1 ?_;refine o1 ?_;refine nl ?_;rw[bK (by omega),pS,Nat.mul_comm]at h3
  exact⟨((lo+hi)/2,hi),by dsimp only;omega,⟨by dsimp only;omega,by dsimp only;omega,by dsimp only;omega,by dsimp only;omega⟩,aQ h0 [] _ _ (by decide) ⟨rfl,rfl,rfl,rfl,trivial⟩ rfl⟩
 refine ex ?_;refine sq ?_;refine rl ?_;refine o1 ?_;refine o1 ?_;refine nl ?_;refine rt ?_
 exact en (.inl rfl) rfl (aV (aO _)) (by decide) (fun _=>trivial) (congrArg (fun z=>FV.one (tv (.int .i64 ((z:Nat):Int)))) (Tn h91 h92 (by omega)).symm)
theorem Tw {xs zs:List Nat}(hx:xs.length≤4398046511104) (hz:trim xs=zs):aE false Tryz.prog 148 [] [.one (.t (sI false xs))] (aN (.one (.t (sI false zs)))):=by
 subst hz
 exact zM hx
theorem Ic {u v:Nat}(hx:(dg 65536 (u)).length≤549755813888) (hy:(dg 65536 (v)).length≤549755813888) (hvp:0<v):aE false Tryz.prog 98 [] [.one (.t (sI false (dg 65536 u))),.one (.t (sI false (dg 65536 v)))] (aN (.tup [.one (.t (sI false (dg 65536 (u/v)))),.one (.t (sI false (dg 65536 (u%v))))])):=by
 refine bF Tryz.func98 rfl Tryz.ntmps98 rfl aA rfl fun N w c0 h0=>?_
 have hlu:=aM (B:=65536) (by omega) u
 refine sq ?_;refine rl ?_;refine o1 ?_;refine o1 ?_;refine nl ?_;refine sq ?_;refine rl ?_;refine o1 ?_;refine o1 ?_
 refine WL.cast (t:=11) (u':=.int .i64 (((dg 65536 (u)).length:Nat):Int)) rfl (aI rfl) ?_;refine mk (m:=(dg 65536 (u)).length) 0 (by omega) (wR _) ?_
 refine o1 ?_;refine nl ?_;refine sq ?_;refine rl ?_;refine o1 ?_;refine nl ?_;refine sq ?_;refine sq ?_;refine rl ?_;(iterate 4 refine o1 ?_);refine nl ?_;refine bl ?_
 refine lp (γ:=Nat×List Nat×Nat) (fun s=>cE [(0,.one (.t (sI false (dg 65536 u)))),(1,.one (.t (sI false (dg 65536 v)))),(6,.one (.sl 0 0 (dg 65536 (u)).length)),(7,.one (.t (sI false (dg 65536 s.2.2)))),(8,.one (tv (.int .i64 ((s.1:Nat)-1))))]) (fun s=>[(⟨3,1,(dF s.2.1).map .t⟩:Ob)].map some) (fun s=>s.2.1.length=(dg 65536 (u)).length∧Lim 65536 s.2.1∧vl 65536 ((dg 65536 (u)).drop s.1)=v*vl 65536 (s.2.1.drop s.1)+s.2.2∧s.2.2<v∧s.1≤(dg 65536 (u)).length) (fun s=>s.1) ((dg 65536 (u)).length,List.replicate (dg 65536 (u)).length 0,0) ⟨List.length_replicate,Lim.replicate (by omega) _,by dsimp only;rw[List.drop_of_length_le (Nat.le_refl _),List.drop_of_length_le (by rw[List.length_replicate];exact Nat.le_refl _)];simp[vl],hvp,Nat.le_refl _⟩ (((nr (i:=7) 1 3 1 rfl rfl rfl rfl).trans (tR (i:=7) (k:=1) (zs:=[]) (zs':=dg 65536 0) rfl rfl rfl rfl (fJ _).symm)).trans (aQ h0 [0] _ _ (by decide) ⟨rfl,rfl,rfl,rfl,rfl,trivial⟩ ⟨lD rfl rfl rfl,rfl⟩)) ?_
 rintro⟨k,os,r⟩ ⟨hos,hol,hv,hr,hkm⟩;dsimp only at hos hol hv hr hkm⊢;have hrl:=cF (B:=65536) (by omega) (Nat.le_of_lt hr)
 have hau:=hlu.nth (by omega) (k-1)
 have hce:=Xi (a:=nth (dg 65536 (u)) (k-1)) hau hr
 have hql:(nth (dg 65536 (u)) (k-1)+65536*r)/v<65536:=(Nat.div_lt_iff_lt_mul hvp).2 (by omega)
 refine sq ?_;refine sq ?_;refine rl ?_;refine o1 ?_;refine o1 ?_;refine nl ?_;refine bR rfl (fun h1=>?_) (fun h1=>?_)
 ·refine sk ?_;refine sq ?_;refine bl ?_;refine sq ?_;refine rl ?_;refine o1 ?_;refine o1 ?_;refine WL.cast (t:=21) (u':=.int .i64 ((k-1:Nat):Int)) rfl (aI (by omega)) ?_
  refine o1 ?_;refine kR ([.v (.int .i64 ((nth (dg 65536 (u)) (k-1):Nat):Int))]) (eF (dg 65536 (u)) (k:=k-1) (by omega)) ?_
  refine bs 1 ?_;refine o1 ?_;refine nl ?_;refine sq ?_;refine rl ?_;refine o1 ?_;refine o1 ?_
  refine jU (j:=2) aA rfl rfl rfl rfl (.sl rfl (rfl)) .fz (KP _) (Xe _) rfl (by omega) (by omega) ?_
  refine WL.sub (tR (i:=27) (k:=2) (zs:=[nth (dg 65536 (u)) (k-1)]++dg 65536 r) (zs':=[nth (dg 65536 (u)) (k-1)]++dg 65536 r) rfl rfl (congrArg (fun l=>some (⟨3,1,l⟩:Ob)) (gE [nth (dg 65536 (u)) (k-1)] (dg 65536 r))) (by rw[List.length_append];rfl) rfl) ?_
  refine ca (Tw (zs:=(dg 65536 (nth (dg 65536 (u)) (k-1)+65536*r))) (by rw[List.length_append];exact Nat.le_trans (Nat.add_le_add_left hrl 1) (by omega)) (uN (by omega))) yX ⟨a1 rfl,rfl⟩ (.one (.t (sI false (dg 65536 (nth (dg 65536 (u)) (k-1)+65536*r))))) ?_
  refine o1 ?_;refine nl ?_;refine sq ?_;refine rl ?_;refine o1 ?_;refine o1 ?_;refine WL.cast (t:=30) (u':=.int .i64 ((k-1:Nat):Int)) rfl (aI (by omega)) ?_
  refine o1 ?_;refine o1 ?_;refine ca (Xr (by omega) (by omega) (by omega)) OF ⟨a1 rfl,a1 rfl,rfl⟩ (.one (tv (.int .i64 (((nth (dg 65536 (u)) (k-1)+65536*r)/v:Nat):Int)))) ?_
  refine o1 ?_;refine Bt (nN os (k:=k-1) (v:=(nth (dg 65536 (u)) (k-1)+65536*r)/v) (by omega)) (qJ os (by omega)) ?_
  refine nl ?_;refine rl ?_;(iterate 4 refine o1 ?_);refine WL.cast (t:=38) (u':=.int .i64 ((k-1:Nat):Int)) rfl (aI (by omega)) ?_
  refine o1 ?_;refine JN (Hz (os.set (k-1) ((nth (dg 65536 (u)) (k-1)+65536*r)/v)) (k:=k-1) (by rw[List.length_set];omega)) ?_
  refine WL.cast (t:=40) (u':=.int .i64 (((nth (dg 65536 (u)) (k-1)+65536*r)/v:Nat):Int)) rfl (aI (by rw[Hv (by omega)])) ?_
  refine ca (EI (by omega) (by omega) (by omega) (Nat.div_mul_le_self _ _)) OG ⟨a1 rfl,a1 rfl,a1 rfl,rfl⟩ (.one (.t (sI false (dg 65536 (nth (dg 65536 (u)) (k-1)+65536*r-(nth (dg 65536 (u)) (k-1)+65536*r)/v*v))))) ?_
  refine o1 ?_;refine nl ?_;refine rl ?_;(iterate 3 refine o1 ?_);refine nl ?_
  have hst:=Pm (k:=k) (q:=(nth (dg 65536 (u)) (k-1)+65536*r)/v) (by omega) (by omega) (by omega) hv rfl rfl
  have hmod:=Nat.mod_lt (nth (dg 65536 (u)) (k-1)+65536*r) hvp
  have hdm:=Nat.div_add_mod' (nth (dg 65536 (u)) (k-1)+65536*r) v
  exact⟨(k-1,os.set (k-1) ((nth (dg 65536 (u)) (k-1)+65536*r)/v),nth (dg 65536 (u)) (k-1)+65536*r-(nth (dg 65536 (u)) (k-1)+65536*r)/v*v),by dsimp only;omega,⟨by rw[List.length_set];exact hos,hol.set _ hql,hst,by dsimp only;omega,by dsimp only;omega⟩,aQ h0 [0] _ _ (by decide) ⟨rfl,rfl,rfl,rfl,congrArg (fun z=>some (FV.one (tv (.int .i64 z)))) (by omega),trivial⟩ ⟨lD rfl rfl rfl,rfl⟩⟩
 refine ex ?_;refine sq ?_;refine rl ?_;have hk0:k=0:=by omega
 rw[hk0,List.drop_zero,List.drop_zero,bK (by omega)]at hv
 obtain⟨hq1,hq2⟩:=To hv hr
 refine WL.sub (tR (i:=6) (zs':=os) rfl rfl rfl (by omega) rfl) ?_
 refine o1 ?_;refine ca (Tw (zs:=(dg 65536 (u/v))) (by omega) (by rw[xI (by omega) hol rfl,hq1])) yX ⟨a1 rfl,rfl⟩ (.one (.t (sI false (dg 65536 (u/v))))) ?_
 (iterate 3 refine o1 ?_);refine nl ?_;refine rt ?_;exact en (.inl rfl) rfl (dB (.cons (.one (.id rfl)) (.cons (.one (.id rfl)) .nil))) (by decide) (fun h=>by cases h) (by rw[hq2];rfl)
theorem Fo {a b:Zi}{k k':Int}(ha:Zn a k) (hb:Zn b k'):aE true Tryz.prog 131 [] [gF a,gF b] (aN (kO ((Int.gcd k k':Nat):Int))):=by
 refine bF Tryz.func131 rfl Tryz.ntmps131 rfl aA rfl fun N w c0 h0=>?_
 have hkl:=ha.len
 have hkl':=hb.len
 refine sq ?_;refine rl ?_;refine bx 0 ?_;refine bx 1 ?_;refine al 2 ?_;refine nl ?_;refine sq ?_;refine rd [0,1,2] (fun i=>[9].contains i) mixed ?_
 refine aW 0 ?_;refine aW 4 ?_;refine aJ 1 rfl (eY ha) lQ ⟨aB rfl,rfl⟩ (kF (k)) ?_;refine df 2 ?_
 have hn1:=dI (v:=vl 4294967296 (dg 4294967296 (k).natAbs)) (L:=(dg 4294967296 (k).natAbs).length) (by rw[bK (by omega)];exact Nat.le_refl _)
 refine aJ 3 rfl (kH (by omega) (aM (by omega) _)) Au ⟨a1 rfl,rfl⟩ (.one (.t (sI false (dg 65536 (vl 4294967296 (dg 4294967296 (k).natAbs)))))) ?_
 refine aJ 5 rfl (eY hb) lQ ⟨aB rfl,rfl⟩ (kF (k')) ?_;refine df 6 ?_
 have hn2:=dI (v:=vl 4294967296 (dg 4294967296 (k').natAbs)) (L:=(dg 4294967296 (k').natAbs).length) (by rw[bK (by omega)];exact Nat.le_refl _)
 refine aJ 7 rfl (kH (by omega) (aM (by omega) _)) Au ⟨a1 rfl,rfl⟩ (.one (.t (sI false (dg 65536 (vl 4294967296 (dg 4294967296 (k').natAbs)))))) ?_
 refine cZ 8 (by kernel_rfl) rfl rfl aA rfl (by trivial) ?_ (fun h=>by first | rfl | cases h)
 refine cZ 9 (by kernel_rfl) rfl rfl aA rfl (by trivial) ?_ (fun h=>by first | rfl | cases h)
 refine aU ?_;refine sq ?_;refine bl ?_
 refine lp (γ:=Nat×Nat) (fun s=>cE [(4,.one (.pt 0 0)),(5,.one (.t (sI false (dg 65536 s.1)))),(6,.one (.t (sI false (dg 65536 s.2))))]) (fun s=>[(⟨31,0,[tv (.bool false),tv (.slice none 0 0)]⟩:Ob)].map some) (fun s=>Nat.gcd s.1 s.2=Int.gcd k k'∧(dg 65536 s.1).length≤549755813888∧(dg 65536 s.2).length≤549755813888) (fun s=>s.2) (vl 4294967296 (dg 4294967296 (k).natAbs),vl 4294967296 (dg 4294967296 (k').natAbs)) ⟨by dsimp only;rw[bK (by omega),bK (by omega)];rfl,by dsimp only;omega,by dsimp only;omega⟩ (aQ h0 [2] _ _ (by decide) ⟨rfl,rfl,rfl,trivial⟩ ⟨oe rfl rfl,rfl⟩) ?_
 rintro⟨ga,gb⟩ ⟨hg,hga,hgb⟩;dsimp only at hg hga hgb⊢;have hbz:gb=0↔(dg 65536 gb).length=0:=by rw[List.length_eq_zero_iff,dM (by omega)]
 refine sq ?_;refine sq ?_;refine rl ?_;(iterate 3 refine o1 ?_);refine nl ?_;refine bR rfl (fun h3=>?_) (fun h3=>?_)
 ·refine sk ?_;refine bl ?_;refine sq ?_;have hb0:0<gb:=by omega
  refine rl ?_;refine o1 ?_;refine o1 ?_;have hn4:=cF (B:=65536) (by omega) (Nat.div_le_self (ga) (gb))
  have hn5:=cF (B:=65536) (by omega) (Nat.mod_le (ga) (gb))
  refine ca (Ic (by omega) (by omega) hb0) JM ⟨a1 rfl,a1 rfl,rfl⟩ (.tup [.one (.t (sI false (dg 65536 ((ga)/(gb))))),.one (.t (sI false (dg 65536 ((ga)%(gb)))))]) ?_
  (iterate 5 refine o1 ?_);refine nl ?_;refine sq ?_;refine rl ?_;refine o1 ?_;refine o1 ?_;refine nl ?_;refine rl ?_;refine o1 ?_;refine o1 ?_;refine nl ?_;have hmod:=Nat.mod_lt ga hb0
  have hml:=cF (B:=65536) (by omega) (Nat.le_of_lt hmod)
  exact⟨(gb,ga%gb),by dsimp only;omega,⟨by dsimp only;rw[←hg,Nat.gcd_comm gb (ga%gb),←Nat.gcd_rec,Nat.gcd_comm],by dsimp only;omega,by dsimp only;omega⟩,aQ h0 [0] _ _ (by decide) ⟨rfl,rfl,rfl,trivial⟩ ⟨oe rfl rfl,rfl⟩⟩
 refine ex ?_;refine sq ?_;have hb00:gb=0:=by omega
 rw[hb00,Nat.gcd_zero_right]at hg;refine rl ?_;refine o1 ?_;have hn6:=lF (ga)
 refine ca (sJ (zs:=(dg 4294967296 (ga))) (by omega) (aM (by omega) _) (vN _)) eC ⟨a1 rfl,rfl⟩ (.one (.t (sU false (dg 4294967296 (ga))))) ?_
 refine gH 1 (jK (K:=((Int.gcd k k':Nat):Int)) (by omega) (aM (by omega) _) (by rw[bK (by omega),hg];rfl)) cA ⟨a1 rfl,a1 rfl,rfl⟩ ?_
 refine st ?_;refine nl ?_;refine rt ?_
 exact en (.inl rfl) rfl (aV (.agg (.cons (.id rfl) (.cons (.sl (trs:=aR (dg 4294967296 (((Int.gcd k k':Nat):Int)).natAbs)) rfl rfl (bL _) (aX _)) .nil)))) (by decide) (fun _=>dV (((Int.gcd k k':Nat):Int))) rfl
theorem Rc {a b:Zi}{k k':Int}(ha:Zn a k) (hb:Zn b k'):aE false Tryz.prog 48 [] [gF a,gF b] (aN (.tup [kF (if k'=0 then 0 else k.fdiv k'),kF (if k'=0 then 0 else k.fmod k'),.one (tv (.int .i64 (if k'=0 then 20 else 0)))])):=by
 refine bF Tryz.func48 rfl Tryz.ntmps48 rfl aA rfl fun N w c0 h0=>?_
 have hkl:=ha.len
 have hkl':=hb.len
 refine sq ?_;refine rl ?_;refine bx 0 ?_;refine bx 1 ?_;refine al 2 ?_;refine al 3 ?_;refine o1 ?_;refine nl ?_;refine sq ?_;refine rl ?_;refine ld ?_
 refine ca (eY ha) lQ ⟨aB rfl,rfl⟩ (kF (k)) ?_;refine st ?_;refine nl ?_;refine sq ?_;refine rl ?_;refine ld ?_;refine ca (eY hb) lQ ⟨aB rfl,rfl⟩ (kF (k')) ?_;refine st ?_
 refine nl ?_;refine sq ?_;refine sq ?_;refine rl ?_;refine o1 ?_;refine ld ?_;refine o1 ?_;refine o1 ?_;refine nl ?_;refine bR rfl (fun h1=>?_) (fun h1=>?_)
 ·refine sq ?_;refine rl ?_;refine o1 ?_;refine o1 ?_;refine st ?_;refine st ?_;refine o1 ?_;refine nl ?_;refine rt ?_;have hk0:k'=0:=by have:=Jb (k:=k') (by omega);omega
  exact en (.inl rfl) rfl (gI (.cons (.agg (.cons (.id rfl) (.cons .nilf .nil))) (.cons (.agg (.cons (.id rfl) (.cons .nilf .nil))) (.cons (aO _) .nil)))) (by decide) (fun h=>by cases h) (by rw[if_pos hk0,if_pos hk0,if_pos hk0,←Bd];rfl)
 refine sk ?_;refine sq ?_;have hkn:k'≠0:=Tp (by omega)
 have hva:0<vl 4294967296 (dg 4294967296 (k').natAbs):=by rw[bK (by omega)];omega
 refine rd [0,1,2,3] (fun i=>[11].contains i) mixed ?_
 refine dv 0 ?_;refine aW 1 ?_;refine dv 3 ?_;refine aW 4 ?_
 have hn2:=dI (v:=vl 4294967296 (dg 4294967296 (k).natAbs)) (L:=(dg 4294967296 (k).natAbs).length) (by rw[bK (by omega)];exact Nat.le_refl _)
 refine aJ 2 rfl (kH (by omega) (aM (by omega) _)) Au ⟨a1 rfl,rfl⟩ (.one (.t (sI false (dg 65536 (vl 4294967296 (dg 4294967296 (k).natAbs)))))) ?_
 have hn3:=dI (v:=vl 4294967296 (dg 4294967296 (k').natAbs)) (L:=(dg 4294967296 (k').natAbs).length) (by rw[bK (by omega)];exact Nat.le_refl _)
 refine aJ 5 rfl (kH (by omega) (aM (by omega) _)) Au ⟨a1 rfl,rfl⟩ (.one (.t (sI false (dg 65536 (vl 4294967296 (dg 4294967296 (k').natAbs)))))) ?_
 have hn4:=cF (B:=65536) (by omega) (Nat.div_le_self (vl 4294967296 (dg 4294967296 (k).natAbs)) (vl 4294967296 (dg 4294967296 (k').natAbs)))
 have hn5:=cF (B:=65536) (by omega) (Nat.mod_le (vl 4294967296 (dg 4294967296 (k).natAbs)) (vl 4294967296 (dg 4294967296 (k').natAbs)))
 refine aJ 6 rfl (Ic (by omega) (by omega) hva) JM ⟨a1 rfl,a1 rfl,rfl⟩ (.tup [.one (.t (sI false (dg 65536 ((vl 4294967296 (dg 4294967296 (k).natAbs))/(vl 4294967296 (dg 4294967296 (k').natAbs)))))),.one (.t (sI false (dg 65536 ((vl 4294967296 (dg 4294967296 (k).natAbs))%(vl 4294967296 (dg 4294967296 (k').natAbs))))))]) ?_
 refine df 7 ?_;refine df 8 ?_;refine df 9 ?_;refine cZ 10 (by kernel_rfl) rfl rfl aA rfl (by trivial) ?_ (fun h=>by first | rfl | cases h)
 refine cZ 11 (by kernel_rfl) rfl rfl aA rfl (by trivial) ?_ (fun h=>by first | rfl | cases h)
 refine aU ?_
 refine md (γ:=Unit) (fun _=>cE [(3,.one (.pt 0 0)),(4,.one (.pt 1 0)),(5,.one (.pt 2 0)),(6,.one (tv (.int .i64 0))),(9,.one (.pt 3 0)),(10,.one (.pt 4 0))]) (fun _=>([⟨31,0,[tv (.bool (aL (k'))),.t (sU false (dg 4294967296 (k').natAbs))]⟩,⟨31,0,[tv (.bool false),tv (.slice none 0 0)]⟩,⟨31,0,[tv (.bool false),tv (.slice none 0 0)]⟩,⟨31,0,[tv (.bool (aL (bG (aL k != aL k') (k.natAbs/k'.natAbs)))),.t (sU false (dg 4294967296 (bG (aL k != aL k') (k.natAbs/k'.natAbs)).natAbs))]⟩,⟨31,0,[tv (.bool (aL (bG (aL k) (k.natAbs%k'.natAbs)))),.t (sU false (dg 4294967296 (bG (aL k) (k.natAbs%k'.natAbs)).natAbs))]⟩]:List Ob).map some) (fun _=>True) ?_ fun _ _=>?_
 ·have hnq:=lF ((vl 4294967296 (dg 4294967296 (k).natAbs))/(vl 4294967296 (dg 4294967296 (k').natAbs)))
  have hLq:=sJ (xs:=dg 65536 ((vl 4294967296 (dg 4294967296 (k).natAbs))/(vl 4294967296 (dg 4294967296 (k').natAbs)))) (zs:=dg 4294967296 ((vl 4294967296 (dg 4294967296 (k).natAbs))/(vl 4294967296 (dg 4294967296 (k').natAbs)))) (by omega) (aM (by omega) _) (vN _)
  have hMq:=jK (b:=aL k != aL k') (xs:=dg 4294967296 ((vl 4294967296 (dg 4294967296 (k).natAbs))/(vl 4294967296 (dg 4294967296 (k').natAbs)))) (K:=bG (aL k != aL k') (k.natAbs/k'.natAbs)) (by omega) (aM (by omega) _) (by simp only[bK (B:=4294967296) (by omega)] <;> rfl)
  have hnr:=lF ((vl 4294967296 (dg 4294967296 (k).natAbs))%(vl 4294967296 (dg 4294967296 (k').natAbs)))
  have hLr:=sJ (xs:=dg 65536 ((vl 4294967296 (dg 4294967296 (k).natAbs))%(vl 4294967296 (dg 4294967296 (k').natAbs)))) (zs:=dg 4294967296 ((vl 4294967296 (dg 4294967296 (k).natAbs))%(vl 4294967296 (dg 4294967296 (k').natAbs)))) (by omega) (aM (by omega) _) (vN _)
  have hMr:=jK (b:=aL k) (xs:=dg 4294967296 ((vl 4294967296 (dg 4294967296 (k).natAbs))%(vl 4294967296 (dg 4294967296 (k').natAbs)))) (K:=bG (aL k) (k.natAbs%k'.natAbs)) (by omega) (aM (by omega) _) (by simp only[bK (B:=4294967296) (by omega)] <;> rfl)
  generalize dg 4294967296 ((vl 4294967296 (dg 4294967296 (k).natAbs))/(vl 4294967296 (dg 4294967296 (k').natAbs)))=zq at hLq hMq
  generalize dg 4294967296 ((vl 4294967296 (dg 4294967296 (k).natAbs))%(vl 4294967296 (dg 4294967296 (k').natAbs)))=zr at hLr hMr;refine rd [0,1,2,3] (fun i=>[16].contains i) mixed ?_
  refine dv 0 ?_;refine aW 1 ?_;refine dv 2 ?_;refine aW 3 ?_;refine dv 4 ?_;refine dv 5 ?_;refine dv 8 ?_;refine aW 9 ?_;refine dv 10 ?_
  refine WO.three (i:=6) (j:=13) (m:=14) (by kernel_rfl) ?_ ?_ ?_
  ·refine cU 6 rfl (hLq) eC ⟨a1 rfl,rfl⟩ (.one (.t (sU false zq))) ?_;refine WO.three (i:=7) (j:=13) (m:=14) (by kernel_rfl) ?_ ?_ ?_
   ·refine cU 7 rfl (hMq) cA ⟨a1 rfl,a1 rfl,rfl⟩ (kF (bG (aL k != aL k') (k.natAbs/k'.natAbs))) ?_;refine WO.three (i:=11) (j:=13) (m:=14) (by kernel_rfl) ?_ ?_ ?_
    ·refine cU 11 rfl (hLr) eC ⟨a1 rfl,rfl⟩ (.one (.t (sU false zr))) ?_;refine WO.three (i:=12) (j:=13) (m:=14) (by kernel_rfl) ?_ ?_ ?_
     ·refine cU 12 rfl (hMr) cA ⟨a1 rfl,a1 rfl,rfl⟩ (kF (bG (aL k) (k.natAbs%k'.natAbs))) ?_;refine WO.two (i:=13) (j:=14) (by kernel_rfl) ?_ ?_
      ·refine bS (key:=4) 13 rfl rfl aA rfl ⟨rfl,rfl,rfl,rfl,trivial⟩ ?_;refine eH (key:=5) 14 (by kernel_rfl) rfl rfl aA rfl ⟨rfl,rfl,rfl,rfl,trivial⟩ ?_
       refine aS 15 (by kernel_rfl) rfl rfl aA rfl rfl rfl rfl ⟨rfl,rfl,rfl,rfl,trivial⟩ ?_
       refine dst 16 ?_;refine aU ?_
       exact⟨(),trivial,aQ h0 [1,2,3,4,5] _ _ (by decide) ⟨rfl,rfl,rfl,rfl,rfl,rfl,trivial⟩ ⟨oe rfl rfl,oe rfl rfl,oe rfl rfl,oe rfl rfl,oe rfl rfl,rfl⟩⟩
      refine bS (key:=4) 14 rfl rfl aA rfl ⟨rfl,rfl,rfl,rfl,trivial⟩ ?_;refine eH (key:=5) 13 (by kernel_rfl) rfl rfl aA rfl ⟨rfl,rfl,rfl,rfl,trivial⟩ ?_
      refine aS 15 (by kernel_rfl) rfl rfl aA rfl rfl rfl rfl ⟨rfl,rfl,rfl,rfl,trivial⟩ ?_
      refine dst 16 ?_;refine aU ?_
      exact⟨(),trivial,aQ h0 [1,2,3,5,4] _ _ (by decide) ⟨rfl,rfl,rfl,rfl,rfl,rfl,trivial⟩ ⟨oe rfl rfl,oe rfl rfl,oe rfl rfl,oe rfl rfl,oe rfl rfl,rfl⟩⟩
     ·refine bS (key:=4) 13 rfl rfl aA rfl ⟨rfl,rfl,rfl,rfl,trivial⟩ ?_;refine WO.two (i:=12) (j:=14) (by kernel_rfl) ?_ ?_
      ·refine cU 12 rfl (hMr) cA ⟨a1 rfl,a1 rfl,rfl⟩ (kF (bG (aL k) (k.natAbs%k'.natAbs))) ?_
       refine eH (key:=5) 14 (by kernel_rfl) rfl rfl aA rfl ⟨rfl,rfl,rfl,rfl,trivial⟩ ?_
       refine aS 15 (by kernel_rfl) rfl rfl aA rfl rfl rfl rfl ⟨rfl,rfl,rfl,rfl,trivial⟩ ?_
       refine dst 16 ?_;refine aU ?_
       exact⟨(),trivial,aQ h0 [1,2,3,4,5] _ _ (by decide) ⟨rfl,rfl,rfl,rfl,rfl,rfl,trivial⟩ ⟨oe rfl rfl,oe rfl rfl,oe rfl rfl,oe rfl rfl,oe rfl rfl,rfl⟩⟩
      refine bS (key:=5) 14 rfl rfl aA rfl ⟨rfl,rfl,rfl,rfl,trivial⟩ ?_;refine aJ 12 rfl (hMr) cA ⟨a1 rfl,a1 rfl,rfl⟩ (kF (bG (aL k) (k.natAbs%k'.natAbs))) ?_
      refine aS 15 (by kernel_rfl) rfl rfl aA rfl rfl rfl rfl ⟨rfl,rfl,rfl,rfl,trivial⟩ ?_
      refine dst 16 ?_;refine aU ?_
      exact⟨(),trivial,aQ h0 [1,2,3,4,5] _ _ (by decide) ⟨rfl,rfl,rfl,rfl,rfl,rfl,trivial⟩ ⟨oe rfl rfl,oe rfl rfl,oe rfl rfl,oe rfl rfl,oe rfl rfl,rfl⟩⟩
     refine bS (key:=4) 14 rfl rfl aA rfl ⟨rfl,rfl,rfl,rfl,trivial⟩ ?_;refine WO.two (i:=12) (j:=13) (by kernel_rfl) ?_ ?_
     ·refine cU 12 rfl (hMr) cA ⟨a1 rfl,a1 rfl,rfl⟩ (kF (bG (aL k) (k.natAbs%k'.natAbs))) ?_
      refine eH (key:=5) 13 (by kernel_rfl) rfl rfl aA rfl ⟨rfl,rfl,rfl,rfl,trivial⟩ ?_
      refine aS 15 (by kernel_rfl) rfl rfl aA rfl rfl rfl rfl ⟨rfl,rfl,rfl,rfl,trivial⟩ ?_
      refine dst 16 ?_;refine aU ?_
      exact⟨(),trivial,aQ h0 [1,2,3,5,4] _ _ (by decide) ⟨rfl,rfl,rfl,rfl,rfl,rfl,trivial⟩ ⟨oe rfl rfl,oe rfl rfl,oe rfl rfl,oe rfl rfl,oe rfl rfl,rfl⟩⟩
     refine bS (key:=5) 13 rfl rfl aA rfl ⟨rfl,rfl,rfl,rfl,trivial⟩ ?_;refine aJ 12 rfl (hMr) cA ⟨a1 rfl,a1 rfl,rfl⟩ (kF (bG (aL k) (k.natAbs%k'.natAbs))) ?_
     refine aS 15 (by kernel_rfl) rfl rfl aA rfl rfl rfl rfl ⟨rfl,rfl,rfl,rfl,trivial⟩ ?_
     refine dst 16 ?_;refine aU ?_
     exact⟨(),trivial,aQ h0 [1,2,3,5,4] _ _ (by decide) ⟨rfl,rfl,rfl,rfl,rfl,rfl,trivial⟩ ⟨oe rfl rfl,oe rfl rfl,oe rfl rfl,oe rfl rfl,oe rfl rfl,rfl⟩⟩
    ·refine bS (key:=4) 13 rfl rfl aA rfl ⟨rfl,rfl,rfl,rfl,trivial⟩ ?_;refine WO.two (i:=11) (j:=14) (by kernel_rfl) ?_ ?_
     ·refine cU 11 rfl (hLr) eC ⟨a1 rfl,rfl⟩ (.one (.t (sU false zr))) ?_;refine WO.two (i:=12) (j:=14) (by kernel_rfl) ?_ ?_
      ·refine cU 12 rfl (hMr) cA ⟨a1 rfl,a1 rfl,rfl⟩ (kF (bG (aL k) (k.natAbs%k'.natAbs))) ?_
       refine eH (key:=5) 14 (by kernel_rfl) rfl rfl aA rfl ⟨rfl,rfl,rfl,rfl,trivial⟩ ?_
       refine aS 15 (by kernel_rfl) rfl rfl aA rfl rfl rfl rfl ⟨rfl,rfl,rfl,rfl,trivial⟩ ?_
       refine dst 16 ?_;refine aU ?_
       exact⟨(),trivial,aQ h0 [1,2,3,4,5] _ _ (by decide) ⟨rfl,rfl,rfl,rfl,rfl,rfl,trivial⟩ ⟨oe rfl rfl,oe rfl rfl,oe rfl rfl,oe rfl rfl,oe rfl rfl,rfl⟩⟩
      refine bS (key:=5) 14 rfl rfl aA rfl ⟨rfl,rfl,rfl,rfl,trivial⟩ ?_;refine aJ 12 rfl (hMr) cA ⟨a1 rfl,a1 rfl,rfl⟩ (kF (bG (aL k) (k.natAbs%k'.natAbs))) ?_
      refine aS 15 (by kernel_rfl) rfl rfl aA rfl rfl rfl rfl ⟨rfl,rfl,rfl,rfl,trivial⟩ ?_
      refine dst 16 ?_;refine aU ?_
      exact⟨(),trivial,aQ h0 [1,2,3,4,5] _ _ (by decide) ⟨rfl,rfl,rfl,rfl,rfl,rfl,trivial⟩ ⟨oe rfl rfl,oe rfl rfl,oe rfl rfl,oe rfl rfl,oe rfl rfl,rfl⟩⟩
     refine bS (key:=5) 14 rfl rfl aA rfl ⟨rfl,rfl,rfl,rfl,trivial⟩ ?_;refine aJ 11 rfl (hLr) eC ⟨a1 rfl,rfl⟩ (.one (.t (sU false zr))) ?_
     refine aJ 12 rfl (hMr) cA ⟨a1 rfl,a1 rfl,rfl⟩ (kF (bG (aL k) (k.natAbs%k'.natAbs))) ?_
     refine aS 15 (by kernel_rfl) rfl rfl aA rfl rfl rfl rfl ⟨rfl,rfl,rfl,rfl,trivial⟩ ?_
     refine dst 16 ?_;refine aU ?_
     exact⟨(),trivial,aQ h0 [1,2,3,4,5] _ _ (by decide) ⟨rfl,rfl,rfl,rfl,rfl,rfl,trivial⟩ ⟨oe rfl rfl,oe rfl rfl,oe rfl rfl,oe rfl rfl,oe rfl rfl,rfl⟩⟩
    refine bS (key:=4) 14 rfl rfl aA rfl ⟨rfl,rfl,rfl,rfl,trivial⟩ ?_;refine WO.two (i:=11) (j:=13) (by kernel_rfl) ?_ ?_
    ·refine cU 11 rfl (hLr) eC ⟨a1 rfl,rfl⟩ (.one (.t (sU false zr))) ?_;refine WO.two (i:=12) (j:=13) (by kernel_rfl) ?_ ?_
     ·refine cU 12 rfl (hMr) cA ⟨a1 rfl,a1 rfl,rfl⟩ (kF (bG (aL k) (k.natAbs%k'.natAbs))) ?_
      refine eH (key:=5) 13 (by kernel_rfl) rfl rfl aA rfl ⟨rfl,rfl,rfl,rfl,trivial⟩ ?_
      refine aS 15 (by kernel_rfl) rfl rfl aA rfl rfl rfl rfl ⟨rfl,rfl,rfl,rfl,trivial⟩ ?_
      refine dst 16 ?_;refine aU ?_
      exact⟨(),trivial,aQ h0 [1,2,3,5,4] _ _ (by decide) ⟨rfl,rfl,rfl,rfl,rfl,rfl,trivial⟩ ⟨oe rfl rfl,oe rfl rfl,oe rfl rfl,oe rfl rfl,oe rfl rfl,rfl⟩⟩
     refine bS (key:=5) 13 rfl rfl aA rfl ⟨rfl,rfl,rfl,rfl,trivial⟩ ?_;refine aJ 12 rfl (hMr) cA ⟨a1 rfl,a1 rfl,rfl⟩ (kF (bG (aL k) (k.natAbs%k'.natAbs))) ?_
     refine aS 15 (by kernel_rfl) rfl rfl aA rfl rfl rfl rfl ⟨rfl,rfl,rfl,rfl,trivial⟩ ?_
     refine dst 16 ?_;refine aU ?_
     exact⟨(),trivial,aQ h0 [1,2,3,5,4] _ _ (by decide) ⟨rfl,rfl,rfl,rfl,rfl,rfl,trivial⟩ ⟨oe rfl rfl,oe rfl rfl,oe rfl rfl,oe rfl rfl,oe rfl rfl,rfl⟩⟩
    refine bS (key:=5) 13 rfl rfl aA rfl ⟨rfl,rfl,rfl,rfl,trivial⟩ ?_;refine aJ 11 rfl (hLr) eC ⟨a1 rfl,rfl⟩ (.one (.t (sU false zr))) ?_
    refine aJ 12 rfl (hMr) cA ⟨a1 rfl,a1 rfl,rfl⟩ (kF (bG (aL k) (k.natAbs%k'.natAbs))) ?_
    refine aS 15 (by kernel_rfl) rfl rfl aA rfl rfl rfl rfl ⟨rfl,rfl,rfl,rfl,trivial⟩ ?_
    refine dst 16 ?_;refine aU ?_
    exact⟨(),trivial,aQ h0 [1,2,3,5,4] _ _ (by decide) ⟨rfl,rfl,rfl,rfl,rfl,rfl,trivial⟩ ⟨oe rfl rfl,oe rfl rfl,oe rfl rfl,oe rfl rfl,oe rfl rfl,rfl⟩⟩
   ·refine bS (key:=4) 13 rfl rfl aA rfl ⟨rfl,rfl,rfl,rfl,trivial⟩ ?_;refine WO.two (i:=7) (j:=14) (by kernel_rfl) ?_ ?_
    ·refine cU 7 rfl (hMq) cA ⟨a1 rfl,a1 rfl,rfl⟩ (kF (bG (aL k != aL k') (k.natAbs/k'.natAbs))) ?_;refine WO.two (i:=11) (j:=14) (by kernel_rfl) ?_ ?_
     ·refine cU 11 rfl (hLr) eC ⟨a1 rfl,rfl⟩ (.one (.t (sU false zr))) ?_;refine WO.two (i:=12) (j:=14) (by kernel_rfl) ?_ ?_
      ·refine cU 12 rfl (hMr) cA ⟨a1 rfl,a1 rfl,rfl⟩ (kF (bG (aL k) (k.natAbs%k'.natAbs))) ?_
       refine eH (key:=5) 14 (by kernel_rfl) rfl rfl aA rfl ⟨rfl,rfl,rfl,rfl,trivial⟩ ?_
       refine aS 15 (by kernel_rfl) rfl rfl aA rfl rfl rfl rfl ⟨rfl,rfl,rfl,rfl,trivial⟩ ?_
       refine dst 16 ?_;refine aU ?_
       exact⟨(),trivial,aQ h0 [1,2,3,4,5] _ _ (by decide) ⟨rfl,rfl,rfl,rfl,rfl,rfl,trivial⟩ ⟨oe rfl rfl,oe rfl rfl,oe rfl rfl,oe rfl rfl,oe rfl rfl,rfl⟩⟩
      refine bS (key:=5) 14 rfl rfl aA rfl ⟨rfl,rfl,rfl,rfl,trivial⟩ ?_;refine aJ 12 rfl (hMr) cA ⟨a1 rfl,a1 rfl,rfl⟩ (kF (bG (aL k) (k.natAbs%k'.natAbs))) ?_
      refine aS 15 (by kernel_rfl) rfl rfl aA rfl rfl rfl rfl ⟨rfl,rfl,rfl,rfl,trivial⟩ ?_
      refine dst 16 ?_;refine aU ?_
      exact⟨(),trivial,aQ h0 [1,2,3,4,5] _ _ (by decide) ⟨rfl,rfl,rfl,rfl,rfl,rfl,trivial⟩ ⟨oe rfl rfl,oe rfl rfl,oe rfl rfl,oe rfl rfl,oe rfl rfl,rfl⟩⟩
     refine bS (key:=5) 14 rfl rfl aA rfl ⟨rfl,rfl,rfl,rfl,trivial⟩ ?_;refine aJ 11 rfl (hLr) eC ⟨a1 rfl,rfl⟩ (.one (.t (sU false zr))) ?_
     refine aJ 12 rfl (hMr) cA ⟨a1 rfl,a1 rfl,rfl⟩ (kF (bG (aL k) (k.natAbs%k'.natAbs))) ?_
     refine aS 15 (by kernel_rfl) rfl rfl aA rfl rfl rfl rfl ⟨rfl,rfl,rfl,rfl,trivial⟩ ?_
     refine dst 16 ?_;refine aU ?_
     exact⟨(),trivial,aQ h0 [1,2,3,4,5] _ _ (by decide) ⟨rfl,rfl,rfl,rfl,rfl,rfl,trivial⟩ ⟨oe rfl rfl,oe rfl rfl,oe rfl rfl,oe rfl rfl,oe rfl rfl,rfl⟩⟩
    refine bS (key:=5) 14 rfl rfl aA rfl ⟨rfl,rfl,rfl,rfl,trivial⟩ ?_;refine aJ 7 rfl (hMq) cA ⟨a1 rfl,a1 rfl,rfl⟩ (kF (bG (aL k != aL k') (k.natAbs/k'.natAbs))) ?_
    refine aJ 11 rfl (hLr) eC ⟨a1 rfl,rfl⟩ (.one (.t (sU false zr))) ?_;refine aJ 12 rfl (hMr) cA ⟨a1 rfl,a1 rfl,rfl⟩ (kF (bG (aL k) (k.natAbs%k'.natAbs))) ?_
    refine aS 15 (by kernel_rfl) rfl rfl aA rfl rfl rfl rfl ⟨rfl,rfl,rfl,rfl,trivial⟩ ?_
    refine dst 16 ?_;refine aU ?_
    exact⟨(),trivial,aQ h0 [1,2,3,4,5] _ _ (by decide) ⟨rfl,rfl,rfl,rfl,rfl,rfl,trivial⟩ ⟨oe rfl rfl,oe rfl rfl,oe rfl rfl,oe rfl rfl,oe rfl rfl,rfl⟩⟩
   refine bS (key:=4) 14 rfl rfl aA rfl ⟨rfl,rfl,rfl,rfl,trivial⟩ ?_;refine WO.two (i:=7) (j:=13) (by kernel_rfl) ?_ ?_
   ·refine cU 7 rfl (hMq) cA ⟨a1 rfl,a1 rfl,rfl⟩ (kF (bG (aL k != aL k') (k.natAbs/k'.natAbs))) ?_;refine WO.two (i:=11) (j:=13) (by kernel_rfl) ?_ ?_
    ·refine cU 11 rfl (hLr) eC ⟨a1 rfl,rfl⟩ (.one (.t (sU false zr))) ?_;refine WO.two (i:=12) (j:=13) (by kernel_rfl) ?_ ?_
     ·refine cU 12 rfl (hMr) cA ⟨a1 rfl,a1 rfl,rfl⟩ (kF (bG (aL k) (k.natAbs%k'.natAbs))) ?_
      refine eH (key:=5) 13 (by kernel_rfl) rfl rfl aA rfl ⟨rfl,rfl,rfl,rfl,trivial⟩ ?_
      refine aS 15 (by kernel_rfl) rfl rfl aA rfl rfl rfl rfl ⟨rfl,rfl,rfl,rfl,trivial⟩ ?_
      refine dst 16 ?_;refine aU ?_
      exact⟨(),trivial,aQ h0 [1,2,3,5,4] _ _ (by decide) ⟨rfl,rfl,rfl,rfl,rfl,rfl,trivial⟩ ⟨oe rfl rfl,oe rfl rfl,oe rfl rfl,oe rfl rfl,oe rfl rfl,rfl⟩⟩
     refine bS (key:=5) 13 rfl rfl aA rfl ⟨rfl,rfl,rfl,rfl,trivial⟩ ?_;refine aJ 12 rfl (hMr) cA ⟨a1 rfl,a1 rfl,rfl⟩ (kF (bG (aL k) (k.natAbs%k'.natAbs))) ?_
     refine aS 15 (by kernel_rfl) rfl rfl aA rfl rfl rfl rfl ⟨rfl,rfl,rfl,rfl,trivial⟩ ?_
     refine dst 16 ?_;refine aU ?_
     exact⟨(),trivial,aQ h0 [1,2,3,5,4] _ _ (by decide) ⟨rfl,rfl,rfl,rfl,rfl,rfl,trivial⟩ ⟨oe rfl rfl,oe rfl rfl,oe rfl rfl,oe rfl rfl,oe rfl rfl,rfl⟩⟩
    refine bS (key:=5) 13 rfl rfl aA rfl ⟨rfl,rfl,rfl,rfl,trivial⟩ ?_;refine aJ 11 rfl (hLr) eC ⟨a1 rfl,rfl⟩ (.one (.t (sU false zr))) ?_
    refine aJ 12 rfl (hMr) cA ⟨a1 rfl,a1 rfl,rfl⟩ (kF (bG (aL k) (k.natAbs%k'.natAbs))) ?_
    refine aS 15 (by kernel_rfl) rfl rfl aA rfl rfl rfl rfl ⟨rfl,rfl,rfl,rfl,trivial⟩ ?_
    refine dst 16 ?_;refine aU ?_
    exact⟨(),trivial,aQ h0 [1,2,3,5,4] _ _ (by decide) ⟨rfl,rfl,rfl,rfl,rfl,rfl,trivial⟩ ⟨oe rfl rfl,oe rfl rfl,oe rfl rfl,oe rfl rfl,oe rfl rfl,rfl⟩⟩
   refine bS (key:=5) 13 rfl rfl aA rfl ⟨rfl,rfl,rfl,rfl,trivial⟩ ?_;refine aJ 7 rfl (hMq) cA ⟨a1 rfl,a1 rfl,rfl⟩ (kF (bG (aL k != aL k') (k.natAbs/k'.natAbs))) ?_
   refine aJ 11 rfl (hLr) eC ⟨a1 rfl,rfl⟩ (.one (.t (sU false zr))) ?_;refine aJ 12 rfl (hMr) cA ⟨a1 rfl,a1 rfl,rfl⟩ (kF (bG (aL k) (k.natAbs%k'.natAbs))) ?_
   refine aS 15 (by kernel_rfl) rfl rfl aA rfl rfl rfl rfl ⟨rfl,rfl,rfl,rfl,trivial⟩ ?_
   refine dst 16 ?_;refine aU ?_
   exact⟨(),trivial,aQ h0 [1,2,3,5,4] _ _ (by decide) ⟨rfl,rfl,rfl,rfl,rfl,rfl,trivial⟩ ⟨oe rfl rfl,oe rfl rfl,oe rfl rfl,oe rfl rfl,oe rfl rfl,rfl⟩⟩
  ·refine bS (key:=4) 13 rfl rfl aA rfl ⟨rfl,rfl,rfl,rfl,trivial⟩ ?_;refine WO.two (i:=6) (j:=14) (by kernel_rfl) ?_ ?_
   ·refine cU 6 rfl (hLq) eC ⟨a1 rfl,rfl⟩ (.one (.t (sU false zq))) ?_;refine WO.two (i:=7) (j:=14) (by kernel_rfl) ?_ ?_
    ·refine cU 7 rfl (hMq) cA ⟨a1 rfl,a1 rfl,rfl⟩ (kF (bG (aL k != aL k') (k.natAbs/k'.natAbs))) ?_;refine WO.two (i:=11) (j:=14) (by kernel_rfl) ?_ ?_
     ·refine cU 11 rfl (hLr) eC ⟨a1 rfl,rfl⟩ (.one (.t (sU false zr))) ?_;refine WO.two (i:=12) (j:=14) (by kernel_rfl) ?_ ?_
      ·refine cU 12 rfl (hMr) cA ⟨a1 rfl,a1 rfl,rfl⟩ (kF (bG (aL k) (k.natAbs%k'.natAbs))) ?_
       refine eH (key:=5) 14 (by kernel_rfl) rfl rfl aA rfl ⟨rfl,rfl,rfl,rfl,trivial⟩ ?_
       refine aS 15 (by kernel_rfl) rfl rfl aA rfl rfl rfl rfl ⟨rfl,rfl,rfl,rfl,trivial⟩ ?_
       refine dst 16 ?_;refine aU ?_
       exact⟨(),trivial,aQ h0 [1,2,3,4,5] _ _ (by decide) ⟨rfl,rfl,rfl,rfl,rfl,rfl,trivial⟩ ⟨oe rfl rfl,oe rfl rfl,oe rfl rfl,oe rfl rfl,oe rfl rfl,rfl⟩⟩
      refine bS (key:=5) 14 rfl rfl aA rfl ⟨rfl,rfl,rfl,rfl,trivial⟩ ?_;refine aJ 12 rfl (hMr) cA ⟨a1 rfl,a1 rfl,rfl⟩ (kF (bG (aL k) (k.natAbs%k'.natAbs))) ?_
      refine aS 15 (by kernel_rfl) rfl rfl aA rfl rfl rfl rfl ⟨rfl,rfl,rfl,rfl,trivial⟩ ?_
      refine dst 16 ?_;refine aU ?_
      exact⟨(),trivial,aQ h0 [1,2,3,4,5] _ _ (by decide) ⟨rfl,rfl,rfl,rfl,rfl,rfl,trivial⟩ ⟨oe rfl rfl,oe rfl rfl,oe rfl rfl,oe rfl rfl,oe rfl rfl,rfl⟩⟩
     refine bS (key:=5) 14 rfl rfl aA rfl ⟨rfl,rfl,rfl,rfl,trivial⟩ ?_;refine aJ 11 rfl (hLr) eC ⟨a1 rfl,rfl⟩ (.one (.t (sU false zr))) ?_
     refine aJ 12 rfl (hMr) cA ⟨a1 rfl,a1 rfl,rfl⟩ (kF (bG (aL k) (k.natAbs%k'.natAbs))) ?_
     refine aS 15 (by kernel_rfl) rfl rfl aA rfl rfl rfl rfl ⟨rfl,rfl,rfl,rfl,trivial⟩ ?_
     refine dst 16 ?_;refine aU ?_
     exact⟨(),trivial,aQ h0 [1,2,3,4,5] _ _ (by decide) ⟨rfl,rfl,rfl,rfl,rfl,rfl,trivial⟩ ⟨oe rfl rfl,oe rfl rfl,oe rfl rfl,oe rfl rfl,oe rfl rfl,rfl⟩⟩
    refine bS (key:=5) 14 rfl rfl aA rfl ⟨rfl,rfl,rfl,rfl,trivial⟩ ?_;refine aJ 7 rfl (hMq) cA ⟨a1 rfl,a1 rfl,rfl⟩ (kF (bG (aL k != aL k') (k.natAbs/k'.natAbs))) ?_
    refine aJ 11 rfl (hLr) eC ⟨a1 rfl,rfl⟩ (.one (.t (sU false zr))) ?_;refine aJ 12 rfl (hMr) cA ⟨a1 rfl,a1 rfl,rfl⟩ (kF (bG (aL k) (k.natAbs%k'.natAbs))) ?_
    refine aS 15 (by kernel_rfl) rfl rfl aA rfl rfl rfl rfl ⟨rfl,rfl,rfl,rfl,trivial⟩ ?_
    refine dst 16 ?_;refine aU ?_
    exact⟨(),trivial,aQ h0 [1,2,3,4,5] _ _ (by decide) ⟨rfl,rfl,rfl,rfl,rfl,rfl,trivial⟩ ⟨oe rfl rfl,oe rfl rfl,oe rfl rfl,oe rfl rfl,oe rfl rfl,rfl⟩⟩
   refine bS (key:=5) 14 rfl rfl aA rfl ⟨rfl,rfl,rfl,rfl,trivial⟩ ?_;refine aJ 6 rfl (hLq) eC ⟨a1 rfl,rfl⟩ (.one (.t (sU false zq))) ?_
   refine aJ 7 rfl (hMq) cA ⟨a1 rfl,a1 rfl,rfl⟩ (kF (bG (aL k != aL k') (k.natAbs/k'.natAbs))) ?_;refine aJ 11 rfl (hLr) eC ⟨a1 rfl,rfl⟩ (.one (.t (sU false zr))) ?_
   refine aJ 12 rfl (hMr) cA ⟨a1 rfl,a1 rfl,rfl⟩ (kF (bG (aL k) (k.natAbs%k'.natAbs))) ?_;refine aS 15 (by kernel_rfl) rfl rfl aA rfl rfl rfl rfl ⟨rfl,rfl,rfl,rfl,trivial⟩ ?_
   refine dst 16 ?_;refine aU ?_
   exact⟨(),trivial,aQ h0 [1,2,3,4,5] _ _ (by decide) ⟨rfl,rfl,rfl,rfl,rfl,rfl,trivial⟩ ⟨oe rfl rfl,oe rfl rfl,oe rfl rfl,oe rfl rfl,oe rfl rfl,rfl⟩⟩
  refine bS (key:=4) 14 rfl rfl aA rfl ⟨rfl,rfl,rfl,rfl,trivial⟩ ?_;refine WO.two (i:=6) (j:=13) (by kernel_rfl) ?_ ?_
  ·refine cU 6 rfl (hLq) eC ⟨a1 rfl,rfl⟩ (.one (.t (sU false zq))) ?_;refine WO.two (i:=7) (j:=13) (by kernel_rfl) ?_ ?_
   ·refine cU 7 rfl (hMq) cA ⟨a1 rfl,a1 rfl,rfl⟩ (kF (bG (aL k != aL k') (k.natAbs/k'.natAbs))) ?_;refine WO.two (i:=11) (j:=13) (by kernel_rfl) ?_ ?_
    ·refine cU 11 rfl (hLr) eC ⟨a1 rfl,rfl⟩ (.one (.t (sU false zr))) ?_;refine WO.two (i:=12) (j:=13) (by kernel_rfl) ?_ ?_
     ·refine cU 12 rfl (hMr) cA ⟨a1 rfl,a1 rfl,rfl⟩ (kF (bG (aL k) (k.natAbs%k'.natAbs))) ?_
      refine eH (key:=5) 13 (by kernel_rfl) rfl rfl aA rfl ⟨rfl,rfl,rfl,rfl,trivial⟩ ?_
      refine aS 15 (by kernel_rfl) rfl rfl aA rfl rfl rfl rfl ⟨rfl,rfl,rfl,rfl,trivial⟩ ?_
      refine dst 16 ?_;refine aU ?_
      exact⟨(),trivial,aQ h0 [1,2,3,5,4] _ _ (by decide) ⟨rfl,rfl,rfl,rfl,rfl,rfl,trivial⟩ ⟨oe rfl rfl,oe rfl rfl,oe rfl rfl,oe rfl rfl,oe rfl rfl,rfl⟩⟩
     refine bS (key:=5) 13 rfl rfl aA rfl ⟨rfl,rfl,rfl,rfl,trivial⟩ ?_;refine aJ 12 rfl (hMr) cA ⟨a1 rfl,a1 rfl,rfl⟩ (kF (bG (aL k) (k.natAbs%k'.natAbs))) ?_
     refine aS 15 (by kernel_rfl) rfl rfl aA rfl rfl rfl rfl ⟨rfl,rfl,rfl,rfl,trivial⟩ ?_
     refine dst 16 ?_;refine aU ?_
     exact⟨(),trivial,aQ h0 [1,2,3,5,4] _ _ (by decide) ⟨rfl,rfl,rfl,rfl,rfl,rfl,trivial⟩ ⟨oe rfl rfl,oe rfl rfl,oe rfl rfl,oe rfl rfl,oe rfl rfl,rfl⟩⟩
    refine bS (key:=5) 13 rfl rfl aA rfl ⟨rfl,rfl,rfl,rfl,trivial⟩ ?_;refine aJ 11 rfl (hLr) eC ⟨a1 rfl,rfl⟩ (.one (.t (sU false zr))) ?_
    refine aJ 12 rfl (hMr) cA ⟨a1 rfl,a1 rfl,rfl⟩ (kF (bG (aL k) (k.natAbs%k'.natAbs))) ?_
    refine aS 15 (by kernel_rfl) rfl rfl aA rfl rfl rfl rfl ⟨rfl,rfl,rfl,rfl,trivial⟩ ?_
    refine dst 16 ?_;refine aU ?_
    exact⟨(),trivial,aQ h0 [1,2,3,5,4] _ _ (by decide) ⟨rfl,rfl,rfl,rfl,rfl,rfl,trivial⟩ ⟨oe rfl rfl,oe rfl rfl,oe rfl rfl,oe rfl rfl,oe rfl rfl,rfl⟩⟩
   refine bS (key:=5) 13 rfl rfl aA rfl ⟨rfl,rfl,rfl,rfl,trivial⟩ ?_;refine aJ 7 rfl (hMq) cA ⟨a1 rfl,a1 rfl,rfl⟩ (kF (bG (aL k != aL k') (k.natAbs/k'.natAbs))) ?_
   refine aJ 11 rfl (hLr) eC ⟨a1 rfl,rfl⟩ (.one (.t (sU false zr))) ?_;refine aJ 12 rfl (hMr) cA ⟨a1 rfl,a1 rfl,rfl⟩ (kF (bG (aL k) (k.natAbs%k'.natAbs))) ?_
   refine aS 15 (by kernel_rfl) rfl rfl aA rfl rfl rfl rfl ⟨rfl,rfl,rfl,rfl,trivial⟩ ?_
   refine dst 16 ?_;refine aU ?_
   exact⟨(),trivial,aQ h0 [1,2,3,5,4] _ _ (by decide) ⟨rfl,rfl,rfl,rfl,rfl,rfl,trivial⟩ ⟨oe rfl rfl,oe rfl rfl,oe rfl rfl,oe rfl rfl,oe rfl rfl,rfl⟩⟩
  refine bS (key:=5) 13 rfl rfl aA rfl ⟨rfl,rfl,rfl,rfl,trivial⟩ ?_;refine aJ 6 rfl (hLq) eC ⟨a1 rfl,rfl⟩ (.one (.t (sU false zq))) ?_
  refine aJ 7 rfl (hMq) cA ⟨a1 rfl,a1 rfl,rfl⟩ (kF (bG (aL k != aL k') (k.natAbs/k'.natAbs))) ?_;refine aJ 11 rfl (hLr) eC ⟨a1 rfl,rfl⟩ (.one (.t (sU false zr))) ?_
  refine aJ 12 rfl (hMr) cA ⟨a1 rfl,a1 rfl,rfl⟩ (kF (bG (aL k) (k.natAbs%k'.natAbs))) ?_;refine aS 15 (by kernel_rfl) rfl rfl aA rfl rfl rfl rfl ⟨rfl,rfl,rfl,rfl,trivial⟩ ?_
  refine dst 16 ?_;refine aU ?_
  exact⟨(),trivial,aQ h0 [1,2,3,5,4] _ _ (by decide) ⟨rfl,rfl,rfl,rfl,rfl,rfl,trivial⟩ ⟨oe rfl rfl,oe rfl rfl,oe rfl rfl,oe rfl rfl,oe rfl rfl,rfl⟩⟩
 have hlq:(dg 4294967296 (bG (aL k != aL k') (k.natAbs/k'.natAbs)).natAbs).length≤(dg 4294967296 (k).natAbs).length:=by rw[hG];exact dC (Nat.div_le_self _ _)
 have hlr:(dg 4294967296 (bG (aL k) (k.natAbs%k'.natAbs)).natAbs).length≤(dg 4294967296 (k).natAbs).length:=by rw[hG];exact dC (Nat.mod_le _ _)
 refine sq ?_;refine sq ?_;refine rd [0,1,2,3,4] (fun i=>[].contains i) mixed ?_
 refine aW 0 ?_;refine aJ 1 rfl (jE (Zn.of (k:=bG (aL k) (k.natAbs%k'.natAbs)) (by omega))) rL ⟨aB rfl,rfl⟩ (.one (tv (.int .i64 (bG (aL k) (k.natAbs%k'.natAbs)).sign))) ?_
 refine df 2 ?_;refine df 3 ?_;refine WD.split (t:=47) rfl rfl (fun h6=>?_) (fun h6=>?_)
 ·refine aW 4 ?_;refine aW 6 ?_
  refine aJ 5 rfl (jE (Zn.of (k:=bG (aL k) (k.natAbs%k'.natAbs)) (by omega))) rL ⟨aB rfl,rfl⟩ (.one (tv (.int .i64 (bG (aL k) (k.natAbs%k'.natAbs)).sign))) ?_
  refine aJ 7 rfl (jE (Zn.of (k:=k') (by omega))) rL ⟨aB rfl,rfl⟩ (.one (tv (.int .i64 (k').sign))) ?_
  refine df 8 ?_;refine df 9 ?_;refine aU ?_;refine bR rfl (fun h7=>?_) (fun h7=>?_)
  ·refine sq ?_;refine rd [0,1,2,3,4] (fun i=>[2,3].contains i) mixed ?_
   refine aW 0 ?_;have hol:(dg 4294967296 (1:Int).natAbs).length≤1:=bN (by omega) (by decide)
   refine aJ 1 rfl (jF (n:=1) (by omega) (by omega)) lP ⟨a1 rfl,rfl⟩ (kF (1:Int)) ?_
   refine aJ 2 rfl (KX (Zn.of (k:=bG (aL k != aL k') (k.natAbs/k'.natAbs)) (by omega)) (Zn.of (k:=(1:Int)) (by omega))) OB ⟨aB rfl,aB rfl,rfl⟩ (kF (bG (aL k != aL k') (k.natAbs/k'.natAbs)-(1:Int))) ?_
   refine dst 3 ?_;refine aU ?_;refine rl ?_;refine ld ?_;refine ld ?_
   refine ca (kU (Zn.of (k:=bG (aL k) (k.natAbs%k'.natAbs)) (by omega)) (Zn.of (k:=k') (by omega))) rM ⟨aB rfl,aB rfl,rfl⟩ (kF (bG (aL k) (k.natAbs%k'.natAbs)+k')) ?_
   refine st ?_;refine nl ?_;refine sq ?_;refine rd [0,2,3,4] (fun i=>[3,4].contains i) mixed ?_
   refine aW 0 ?_;refine aW 1 ?_;refine aS 2 (by kernel_rfl) rfl rfl aA rfl rfl rfl rfl ⟨rfl,rfl,rfl,rfl,trivial⟩ ?_
   refine dst 3 ?_;refine cZ 4 (by kernel_rfl) rfl rfl aA rfl (by trivial) ?_ (fun h=>by first | rfl | cases h)
   refine aU ?_;refine rt ?_;obtain⟨hd1,hd2⟩:=DT (a:=k) (b:=k') hkn rfl rfl h6 h7
   exact en (.inl rfl) rfl (gI (.cons (.agg (.cons (.id rfl) (.cons (.id rfl) .nil))) (.cons (.agg (.cons (.id rfl) (.cons (.id rfl) .nil))) (.cons (aO _) .nil)))) (by decide) (fun h=>by cases h) (by rw[if_neg hkn,if_neg hkn,if_neg hkn,←hd1,←hd2];rfl)
  refine sk ?_;refine sq ?_;refine rd [0,2,3,4] (fun i=>[3,4].contains i) mixed ?_
  refine aW 0 ?_;refine aW 1 ?_;refine aS 2 (by kernel_rfl) rfl rfl aA rfl rfl rfl rfl ⟨rfl,rfl,rfl,rfl,trivial⟩ ?_
  refine dst 3 ?_;refine cZ 4 (by kernel_rfl) rfl rfl aA rfl (by trivial) ?_ (fun h=>by first | rfl | cases h)
  refine aU ?_;refine rt ?_;obtain⟨hd1,hd2⟩:=Ml (a:=k) (b:=k') hkn rfl rfl (.inr (Decidable.byContradiction h7))
  exact en (.inl rfl) rfl (gI (.cons (.agg (.cons (.id rfl) (.cons (.id rfl) .nil))) (.cons (.agg (.cons (.id rfl) (.cons (.id rfl) .nil))) (.cons (aO _) .nil)))) (by decide) (fun h=>by cases h) (by rw[if_neg hkn,if_neg hkn,if_neg hkn,←hd1,←hd2];rfl)
 refine dH 4 ?_;refine dH 6 ?_;refine dH 5 ?_;refine dH 7 ?_;refine dH 8 ?_;refine df 9 ?_;refine aU ?_;refine fW rfl ?_;refine sk ?_;refine sq ?_
 refine rd [0,2,3,4] (fun i=>[3,4].contains i) mixed ?_
 refine aW 0 ?_;refine aW 1 ?_;refine aS 2 (by kernel_rfl) rfl rfl aA rfl rfl rfl rfl ⟨rfl,rfl,rfl,rfl,trivial⟩ ?_
 refine dst 3 ?_;refine cZ 4 (by kernel_rfl) rfl rfl aA rfl (by trivial) ?_ (fun h=>by first | rfl | cases h)
 refine aU ?_;refine rt ?_;obtain⟨hd1,hd2⟩:=Ml (a:=k) (b:=k') hkn rfl rfl (.inl (Decidable.byContradiction h6))
 exact en (.inl rfl) rfl (gI (.cons (.agg (.cons (.id rfl) (.cons (.id rfl) .nil))) (.cons (.agg (.cons (.id rfl) (.cons (.id rfl) .nil))) (.cons (aO _) .nil)))) (by decide) (fun h=>by cases h) (by rw[if_neg hkn,if_neg hkn,if_neg hkn,←hd1,←hd2];rfl)
def Zg (a:Zi) (k:Int):Prop:=Lim 4294967296 a.x∧a.x.length≤300000000000∧cY a.s a.x=k
theorem Zn.g {a:Zi}{k:Int}(h:Zn a k):Zg a k:=⟨h.1,Nat.le_trans h.2.1 (by omega),h.2.2⟩
theorem Zg.of {k:Int}(h:(dg 4294967296 k.natAbs).length≤300000000000):Zg (.of k) k:=⟨aM (by omega) _,h,qX k⟩
theorem Zg.len {a:Zi}{k:Int}(h:Zg a k):(dg 4294967296 k.natAbs).length≤300000000000:=by
 obtain⟨h1,h2,rfl⟩:=h
 exact Nat.le_trans (vM h1) h2
theorem Zg.wrong {a:Zi}{k:Int}(h:Zg a k) (hr:cK a.s a.x=false):k=0:=by
 obtain⟨h1,h2,rfl⟩:=h
 exact zK hr
theorem Tx {a:Zi}{k:Int}(h:Zg a k) (hr:cK a.s a.x=true):gF a=kF k:=by
 obtain⟨h1,h2,rfl⟩:=h
 unfold gF kF
 rw[vL h1 hr,nT h1 hr]
theorem zT {a:Zi}{k:Int}(ha:Zg a k):aE true Tryz.prog 156 [] [gF a] (aN (.one (tv (.bool (cK a.s a.x))))):=by
 refine bF Tryz.func156 rfl Tryz.ntmps156 rfl aA rfl fun N w c0 h0=>?_
 have hal:=ha.2.1
 refine sq ?_;refine rl ?_;refine bx 0 ?_;refine o1 ?_;refine nl ?_;refine sq ?_;refine rl ?_;refine o1 ?_;refine ld ?_;refine o1 ?_;refine o1 ?_;refine nl ?_;refine sq ?_;refine rl ?_
 (iterate 3 refine o1 ?_);refine WL.split (t:=9) rfl (fun h1=>?_) (fun h1=>?_)
 ·refine o1 ?_;refine ld ?_;refine WL.splitb (t:=11) rfl (fun h2=>?_) (fun h2=>?_)
  ·(iterate 6 refine o1 ?_);refine WL.split (t:=17) rfl (fun h3=>?_) (fun h3=>?_)
   ·refine o1 ?_;refine ld ?_;refine o1 ?_;refine o1 ?_;refine WL.cast (t:=21) (u':=.int .i64 ((a.x.length-1:Nat):Int)) rfl (aI (by omega)) ?_
    refine o1 ?_;refine kR ([.v (.int .u32 ((nth a.x (a.x.length-1):Nat):Int))]) (mP a.x (k:=a.x.length-1) (by omega)) ?_
    (iterate 4 refine o1 ?_);refine nl ?_;refine rt ?_;refine en (.inl rfl) rfl (aV (aO _)) (by decide) (fun _=>trivial) (congrArg (fun b=>FV.one (tv (.bool b))) ?_)
    rw[lE (by omega)];simp_all
   (iterate 7 refine cH ?_);(iterate 3 refine o1 ?_);refine nl ?_;refine rt ?_
   refine en (.inl rfl) rfl (aV (aO _)) (by decide) (fun _=>trivial) (congrArg (fun b=>FV.one (tv (.bool b))) ?_)
   rw[lE (by omega)];simp_all
  (iterate 3 refine o1 ?_);(iterate 11 refine cH ?_);refine o1 ?_;refine o1 ?_;refine nl ?_;refine rt ?_
  refine en (.inl rfl) rfl (aV (aO _)) (by decide) (fun _=>trivial) (congrArg (fun b=>FV.one (tv (.bool b))) ?_)
  rw[lE (by omega)];simp_all
 (iterate 3 refine cH ?_);(iterate 5 refine o1 ?_);refine WL.split (t:=17) rfl (fun h4=>?_) (fun h4=>?_)
 ·refine o1 ?_;refine ld ?_;refine o1 ?_;refine o1 ?_;refine WL.cast (t:=21) (u':=.int .i64 ((a.x.length-1:Nat):Int)) rfl (aI (by omega)) ?_
  refine o1 ?_;refine kR ([.v (.int .u32 ((nth a.x (a.x.length-1):Nat):Int))]) (mP a.x (k:=a.x.length-1) (by omega)) ?_
  (iterate 4 refine o1 ?_);refine nl ?_;refine rt ?_;refine en (.inl rfl) rfl (aV (aO _)) (by decide) (fun _=>trivial) (congrArg (fun b=>FV.one (tv (.bool b))) ?_)
  first | exact(sG rfl (by omega)).symm | (unfold cK;simp_all;try omega)
 (iterate 7 refine cH ?_);(iterate 3 refine o1 ?_);refine nl ?_;refine rt ?_
 refine en (.inl rfl) rfl (aV (aO _)) (by decide) (fun _=>trivial) (congrArg (fun b=>FV.one (tv (.bool b))) ?_)
 first | exact(sG rfl (by omega)).symm | (unfold cK;simp_all;try omega)
theorem dL {a:Zi}{k:Int}(ha:Zg a k):aE false Tryz.prog 118 [] [gF a] (aN (kF k)):=by
 refine bF Tryz.func118 rfl Tryz.ntmps118 rfl aA rfl fun N w c0 h0=>?_
 refine sq ?_;refine rl ?_;refine bx 0 ?_;refine al 1 ?_;refine nl ?_;refine sq ?_;refine sq ?_;refine rl ?_;refine ld ?_
 refine ca (zT ha) Mx ⟨aB rfl,rfl⟩ (.one (tv (.bool (cK a.s a.x)))) ?_;refine WL.splitb (t:=4) rfl (fun h1=>?_) (fun h1=>?_)
 ·refine o1 ?_;refine nl ?_;refine fW rfl ?_;refine sk ?_;refine sq ?_;refine rl ?_;refine ld ?_;refine o1 ?_;refine st ?_;refine nl ?_;refine rt ?_
  exact en (.inl rfl) rfl (aV (.agg (.read _ (l:=[.v (.bool a.s),sU false a.x]) rfl))) (by decide) (fun h=>by cases h) (Tx ha h1)
 refine o1 ?_;refine nl ?_;refine fX rfl ?_;refine sq ?_;refine rl ?_;refine o1 ?_;refine st ?_;refine nl ?_;refine rt ?_
 exact en (.inl rfl) rfl (aV (.agg (.cons (.id rfl) (.cons .nilf .nil)))) (by decide) (fun h=>by cases h) (by rw[ha.wrong h1];exact Bd)
theorem Ty {b:Bool}{m:Nat}{K:Int}(hK:bG b m=K):aE false Tryz.prog 117 [] [.one (tv (.bool b)),.one (.t (sU false (dg 4294967296 m)))] (aN (kF K)):=by
 refine bF Tryz.func117 rfl Tryz.ntmps117 rfl aA rfl fun N w c0 h0=>?_
 refine sq ?_;refine rl ?_;refine al 0 ?_;refine nl ?_;refine sq ?_;refine rl ?_;refine o1 ?_;refine o1 ?_;refine WL.splitb (t:=6) rfl (fun h1=>?_) (fun h1=>?_)
 ·(iterate 6 refine o1 ?_);refine st ?_;refine nl ?_;refine rt ?_
  exact en (.inl rfl) rfl (aV (.agg (.cons (.id rfl) (.cons (.id rfl) .nil)))) (by decide) (fun h=>by cases h) (hK▸congrArg vW (vQ (by rw[qW,h1,Bool.true_and,←kE (m:=m) rfl];exact decide_eq_decide.2 (by omega)) (hG _ _).symm))
 (iterate 3 refine cH ?_);(iterate 3 refine o1 ?_);refine st ?_;refine nl ?_;refine rt ?_
 exact en (.inl rfl) rfl (aV (.agg (.cons (.id rfl) (.cons (.id rfl) .nil)))) (by decide) (fun h=>by cases h) (hK▸congrArg vW (vQ (by rw[qW,h1];rfl) (hG _ _).symm))
theorem gG {b:Bool}{m:Nat}{K:Int}(hK:bG b m=K):sF false Tryz.prog 117 [⟨115,1,(aR (dg 4294967296 m)).map .t⟩] [.one (tv (.bool b)),.one (.sl 0 0 (dg 4294967296 m).length)] (· =kO K):=by
 refine UE Tryz.func117 rfl Tryz.ntmps117 rfl aA rfl fun N M w c0 h0=>?_
 refine sq ?_;refine rl ?_;refine al 1 ?_;refine nl ?_;refine sq ?_;refine rl ?_;refine o1 ?_;refine o1 ?_;refine WL.splitb (t:=6) rfl (fun h1=>?_) (fun h1=>?_)
 ·(iterate 6 refine o1 ?_);refine st ?_;refine nl ?_;refine rt ?_
  exact zU (en (.inl rfl) rfl (aV (.agg (.cons (.id rfl) (.cons (.sl (trs:=aR (dg 4294967296 m)) rfl rfl (bL _) (aX _)) .nil)))) (by decide) (fun h=>by cases h) (hK▸vQ (by rw[qW,h1,Bool.true_and,←kE (m:=m) rfl];exact decide_eq_decide.2 (by omega)) (hG _ _).symm))
 (iterate 3 refine cH ?_);(iterate 3 refine o1 ?_);refine st ?_;refine nl ?_;refine rt ?_
 exact zU (en (.inl rfl) rfl (aV (.agg (.cons (.id rfl) (.cons (.sl (trs:=aR (dg 4294967296 m)) rfl rfl (bL _) (aX _)) .nil)))) (by decide) (fun h=>by cases h) (hK▸vQ (by rw[qW,h1];rfl) (hG _ _).symm))
theorem Id {k:Int}:aE false Tryz.prog 121 [] [kF k] (aN (kF (-k))):=by
 refine bF Tryz.func121 rfl Tryz.ntmps121 rfl aA rfl fun N w c0 h0=>?_
 refine sq ?_;refine rl ?_;refine bx 0 ?_;refine al 1 ?_;refine nl ?_;refine sq ?_;refine rl ?_;refine o1 ?_;refine o1 ?_;refine ld ?_;(iterate 3 refine o1 ?_);refine ld ?_
 refine ca (Ty (m:=k.natAbs) (K:=-k) (Mh k)) jV ⟨a1 rfl,a1 rfl,rfl⟩ (kF (-k)) ?_;refine o1 ?_;refine st ?_;refine nl ?_;refine rt ?_
 exact en (.inl rfl) rfl (aV (.agg (.cons (.id rfl) (.cons (.id rfl) .nil)))) (by decide) (fun h=>by cases h) rfl
theorem LQ {a:Zi}{k:Int}(ha:Zg a k):aE true Tryz.prog 70 [] [gF a] (aN (kO (-(k)))):=by
 refine bF Tryz.func70 rfl Tryz.ntmps70 rfl aA rfl fun N w c0 h0=>?_
 have hkl:=ha.len
 refine sq ?_;refine rl ?_;refine bx 0 ?_;refine al 1 ?_;refine nl ?_;refine sq ?_;refine rl ?_;refine ld ?_;refine ca (dL ha) cP ⟨aB rfl,rfl⟩ (kF (k)) ?_
 refine ca (Id (k:=k)) Zl ⟨aB rfl,rfl⟩ (kF (-(k))) ?_;refine al 2 ?_;refine st ?_;refine nl ?_;refine sq ?_;refine rd [0,1,2] (fun i=>[8].contains i) mixed ?_
 refine dv 0 ?_;refine dv 1 ?_;refine aW 2 ?_;refine dv 3 ?_;refine dv 4 ?_;refine aW 5 ?_
 refine oT 3 6 rfl (EE (aM (by omega) _) (by have:=jY k;omega)) OE ⟨a1 rfl,rfl⟩ ?_
 refine df 7 ?_;refine dst 8 ?_;refine aU ?_;refine rt ?_
 exact en (.inl rfl) rfl (aV (.agg (.cons (.id rfl) (.cons (.sl (trs:=aR (dg 4294967296 (-(k)).natAbs)) rfl rfl (bL _) (aX _)) .nil)))) (by decide) (fun _=>dV (-(k))) rfl
theorem Tz {k k':Int}(hk:(dg 4294967296 k.natAbs).length≤500000000000) (hk':(dg 4294967296 k'.natAbs).length≤500000000000):aE true Tryz.prog 162 [] [kF k,kF k'] (aN (kO (k+k'))):=by
 refine bF Tryz.func162 rfl Tryz.ntmps162 rfl aA rfl fun N w c0 h0=>?_
 have hal:=Bc (xs:=dg 4294967296 k.natAbs) (ys:=dg 4294967296 k'.natAbs) (aM (by omega) _) (aM (by omega) _)
 rw[bD,bD]at hal;refine sq ?_;refine rl ?_;refine bx 0 ?_;refine bx 1 ?_;refine al 2 ?_;refine nl ?_;refine sq ?_;refine sq ?_;refine rl ?_;refine o1 ?_;refine o1 ?_
 refine ld ?_;refine o1 ?_;refine o1 ?_;refine ld ?_;refine o1 ?_;refine nl ?_;refine iL rfl (fun h1=>?_) (fun h1=>?_)
 ·refine sq ?_;refine rd [0,1,2] (fun i=>[11].contains i) mixed ?_
  refine dv 0 ?_;refine dv 1 ?_;refine aW 2 ?_;refine dv 3 ?_;refine dv 4 ?_;refine aW 5 ?_;refine dv 6 ?_;refine dv 7 ?_;refine aW 8 ?_
  have hA:aE true Tryz.prog 165 [] [.one (.t (sU false (dg 4294967296 k.natAbs))),.one (.t (sU false (dg 4294967296 k'.natAbs)))] (aN (.one (.t (sU true (dg 4294967296 (k.natAbs+k'.natAbs)))))):=by have h9:=Pn (aM (by omega) k.natAbs) (aM (by omega) k'.natAbs) (by omega) (by omega);rwa[bD,bD]at h9
  refine oT 3 9 rfl hA uV ⟨a1 rfl,a1 rfl,rfl⟩ ?_
  refine yZ 10 4 [3] rfl (gG (m:=(k.natAbs+k'.natAbs)) (K:=k+k') (Cl rfl (eq_of_beq h1))) jV ⟨cV rfl,rfl⟩ ⟨rfl,rfl,rfl⟩ ⟨rfl,rfl,rfl,trivial⟩ ?_;refine dst 11 ?_
  refine aU ?_;refine rt ?_
  exact en (.inl rfl) rfl (aV (.agg (.cons (.id rfl) (.cons (.sl (trs:=aR (dg 4294967296 (k+k').natAbs)) rfl rfl (bL _) (aX _)) .nil)))) (by decide) (fun _=>dV (k+k')) rfl
 refine sk ?_;refine sq ?_;refine sq ?_;refine rl ?_;refine o1 ?_;refine o1 ?_;refine ld ?_;refine o1 ?_;refine o1 ?_;refine ld ?_
 refine ca (PC (aM (by omega) _) (aM (by omega) _)) OL ⟨a1 rfl,a1 rfl,rfl⟩ (.one (tv (.int .i64 (lB (vl 4294967296 (dg 4294967296 (k).natAbs)) (vl 4294967296 (dg 4294967296 (k').natAbs)))))) ?_
 refine o1 ?_;refine nl ?_;refine bR rfl (fun h2=>?_) (fun h2=>?_)
 ·refine rl ?_;refine ld ?_;refine ld ?_;refine st ?_;refine st ?_;refine nl ?_;refine sq ?_;refine rl ?_;refine o1 ?_;refine o1 ?_;refine ld ?_;refine o1 ?_;refine o1 ?_;refine ld ?_
  have hlt:k.natAbs<k'.natAbs:=Decidable.byContradiction fun h8=>by rw[bD,bD]at h2;rcases Nat.lt_or_ge k'.natAbs k.natAbs with h7 | h7;(rw[kD h7]at h2;omega);(rw[qT (by omega)]at h2;omega)
  have hS:aE true Tryz.prog 175 [] [.one (.t (sU false (dg 4294967296 k'.natAbs))),.one (.t (sU false (dg 4294967296 k.natAbs)))] (aN (.tup [.one (.t (sU true (dg 4294967296 (k'.natAbs-k.natAbs)))),.one (tv (.int .i64 0))])):=by have h9:=Po (aM (by omega) k'.natAbs) (aM (by omega) k.natAbs) (by omega) (by rw[bD,bD];omega);rwa[bD,bD]at h9
  refine gH 3 hS Oq ⟨a1 rfl,a1 rfl,rfl⟩ ?_;(iterate 5 refine o1 ?_);refine nl ?_;refine sq ?_;refine rl ?_;refine o1 ?_;refine o1 ?_;refine ld ?_;refine o1 ?_
  refine cm 4 [3] (gG (m:=(k'.natAbs-k.natAbs)) (K:=k+k') (Mk rfl (ne_of_beq_false h1) hlt)) jV ⟨cV rfl,rfl⟩ ⟨rfl,rfl,rfl⟩ ?_;refine st ?_;refine nl ?_;refine rt ?_
  exact en (.inl rfl) rfl (aV (.agg (.cons (.id rfl) (.cons (.sl (trs:=aR (dg 4294967296 (k+k').natAbs)) rfl rfl (bL _) (aX _)) .nil)))) (by decide) (fun _=>dV (k+k')) rfl
 refine sk ?_;refine sq ?_;refine rl ?_;refine o1 ?_;refine o1 ?_;refine ld ?_;refine o1 ?_;refine o1 ?_;refine ld ?_
 have hlt:¬k.natAbs<k'.natAbs:=fun h8=>h2 (by rw[bD,bD,nS h8];omega)
 have hS:aE true Tryz.prog 175 [] [.one (.t (sU false (dg 4294967296 k.natAbs))),.one (.t (sU false (dg 4294967296 k'.natAbs)))] (aN (.tup [.one (.t (sU true (dg 4294967296 (k.natAbs-k'.natAbs)))),.one (tv (.int .i64 0))])):=by have h9:=Po (aM (by omega) k.natAbs) (aM (by omega) k'.natAbs) (by omega) (by rw[bD,bD];omega);rwa[bD,bD]at h9
 refine gH 3 hS Oq ⟨a1 rfl,a1 rfl,rfl⟩ ?_;(iterate 5 refine o1 ?_);refine nl ?_;refine sq ?_;refine rl ?_;refine o1 ?_;refine o1 ?_;refine ld ?_;refine o1 ?_
 refine cm 4 [3] (gG (m:=(k.natAbs-k'.natAbs)) (K:=k+k') (Mj rfl (ne_of_beq_false h1) hlt)) jV ⟨cV rfl,rfl⟩ ⟨rfl,rfl,rfl⟩ ?_;refine st ?_;refine nl ?_;refine rt ?_
 exact en (.inl rfl) rfl (aV (.agg (.cons (.id rfl) (.cons (.sl (trs:=aR (dg 4294967296 (k+k').natAbs)) rfl rfl (bL _) (aX _)) .nil)))) (by decide) (fun _=>dV (k+k')) rfl
theorem Cz {a b:Zi}{k k':Int}(ha:Zg a k) (hb:Zg b k'):aE true Tryz.prog 120 [] [gF a,gF b] (aN (kO (k+k'))):=by
 refine bF Tryz.func120 rfl Tryz.ntmps120 rfl aA rfl fun N w c0 h0=>?_
 have hkl:=ha.len
 have hkl':=hb.len
 refine sq ?_;refine rl ?_;refine bx 0 ?_;refine bx 1 ?_;refine al 2 ?_;refine nl ?_;refine sq ?_;refine rd [0,1,2] (fun i=>[5].contains i) mixed ?_
 refine aW 0 ?_;refine aW 2 ?_;refine aJ 1 rfl (dL ha) cP ⟨aB rfl,rfl⟩ (kF (k)) ?_;refine aJ 3 rfl (dL hb) cP ⟨aB rfl,rfl⟩ (kF (k')) ?_
 refine oT 3 4 rfl (Tz (k:=k) (k':=k') (by omega) (by omega)) Zo ⟨aB rfl,aB rfl,rfl⟩ ?_
 refine dst 5 ?_;refine aU ?_;refine rt ?_
 exact en (.inl rfl) rfl (aV (.agg (.cons (.id rfl) (.cons (.sl (trs:=aR (dg 4294967296 ((k+k')).natAbs)) rfl rfl (bL _) (aX _)) .nil)))) (by decide) (fun _=>dV ((k+k'))) rfl
theorem PE {a b:Zi}{k k':Int}(ha:Zg a k) (hb:Zg b k'):aE true Tryz.prog 116 [] [gF a,gF b] (aN (kO (k-k'))):=by
 refine bF Tryz.func116 rfl Tryz.ntmps116 rfl aA rfl fun N w c0 h0=>?_
 have hkl:=ha.len
 have hkl':=hb.len
 have hkn:=jY k'
 refine sq ?_;refine rl ?_;refine bx 0 ?_;refine bx 1 ?_;refine al 2 ?_;refine nl ?_;refine sq ?_;refine rd [0,1,2] (fun i=>[6].contains i) mixed ?_
 refine aW 0 ?_;refine aW 2 ?_;refine aJ 1 rfl (dL ha) cP ⟨aB rfl,rfl⟩ (kF (k)) ?_;refine aJ 3 rfl (dL hb) cP ⟨aB rfl,rfl⟩ (kF (k')) ?_
 refine aJ 4 rfl (Id (k:=k')) Zl ⟨aB rfl,rfl⟩ (kF (-(k'))) ?_;refine oT 3 5 rfl (Tz (k:=k) (k':=(-(k'))) (by omega) (by omega)) Zo ⟨aB rfl,aB rfl,rfl⟩ ?_
 refine dst 6 ?_;refine aU ?_;refine rt ?_
 exact en (.inl rfl) rfl (aV (.agg (.cons (.id rfl) (.cons (.sl (trs:=aR (dg 4294967296 ((k+(-(k')))).natAbs)) rfl rfl (bL _) (aX _)) .nil)))) (by decide) (fun _=>dV ((k+(-(k'))))) (by rw[Int.sub_eq_add_neg];rfl)
theorem qA {a:Zi}{k:Int}(ha:Zg a k):aE true Tryz.prog 72 [] [gF a] (aN (.one (tv (.int .i64 k.sign)))):=by
 refine bF Tryz.func72 rfl Tryz.ntmps72 rfl aA rfl fun N w c0 h0=>?_
 refine sq ?_;refine rl ?_;refine bx 0 ?_;refine o1 ?_;refine nl ?_;refine sq ?_;refine sq ?_;refine rl ?_;refine ld ?_;refine ca (dL ha) cP ⟨aB rfl,rfl⟩ (kF (k)) ?_;refine al 1 ?_
 refine st ?_;refine nl ?_;refine bl ?_;refine sq ?_;refine rl ?_;refine o1 ?_;refine o1 ?_;refine ld ?_;refine o1 ?_;refine nl ?_;refine iL rfl (fun h1=>?_) (fun h1=>?_)
 ·refine sq ?_;refine rl ?_;refine o1 ?_;refine nl ?_;refine rt ?_;refine en (.inl rfl) rfl (aV (aO _)) (by decide) (fun _=>trivial) (congrArg (fun z=>FV.one (tv (.int .i64 z))) ?_)
  have h9:k<0:=of_decide_eq_true h1
  exact(Int.sign_eq_neg_one_of_neg h9).symm
 refine sq ?_;refine rl ?_;refine o1 ?_;refine o1 ?_;refine ld ?_;(iterate 3 refine o1 ?_);refine nl ?_;refine bR rfl (fun h2=>?_) (fun h2=>?_)
 ·refine sq ?_;refine rl ?_;refine o1 ?_;refine nl ?_;refine rt ?_;refine en (.inl rfl) rfl (aV (aO _)) (by decide) (fun _=>trivial) (congrArg (fun z=>FV.one (tv (.int .i64 z))) ?_)
  have h9:¬k<0:=of_decide_eq_false h1
  have h8:=kE (m:=k.natAbs) rfl
  have h7:decide (0<k.natAbs)=true:=by rw[←h8];exact decide_eq_true (by omega)
  have h6:=of_decide_eq_true h7
  exact(Int.sign_eq_one_of_pos (by omega)).symm
 refine sk ?_;refine sq ?_;refine rl ?_;refine o1 ?_;refine nl ?_;refine rt ?_
 refine en (.inl rfl) rfl (aV (aO _)) (by decide) (fun _=>trivial) (congrArg (fun z=>FV.one (tv (.int .i64 z))) ?_)
 have h9:¬k<0:=of_decide_eq_false h1
 have h8:=kE (m:=k.natAbs) rfl
 have h7:decide (0<k.natAbs)=false:=by rw[←h8];exact decide_eq_false (by omega)
 have h6:=of_decide_eq_false h7
 obtain rfl:k=0:=by omega
 rfl
theorem Cy {a b:Zi}{k k':Int}(ha:Zg a k) (hb:Zg b k') (hs:(dg 4294967296 (k-k').natAbs).length≤300000000000):aE true Tryz.prog 61 [] [gF a,gF b] (aN (.one (tv (.int .i64 (k-k').sign)))):=by
 refine bF Tryz.func61 rfl Tryz.ntmps61 rfl aA rfl fun N w c0 h0=>?_
 have hkl:=ha.2.1;have hkl2:=ha.len;have hkl3:=hb.len
 refine sq ?_;refine rl ?_;refine bx 0 ?_;refine bx 1 ?_;refine o1 ?_;refine nl ?_;refine sq ?_;refine rl ?_;refine ld ?_;refine ld ?_
 refine ca (PE ha hb) OD ⟨aB rfl,aB rfl,rfl⟩ (kF (k-k')) ?_;refine ca (qA (Zg.of (k:=k-k') hs)) zS ⟨aB rfl,rfl⟩ (.one (tv (.int .i64 (k-k').sign))) ?_;refine o1 ?_
 refine nl ?_;refine rt ?_;exact en (.inl rfl) rfl (aV (aO _)) (by decide) (fun _=>trivial) rfl
end Go.Proofs.YtcaakamelngceaaGreatDoor
