/- Part 8 of a proof: G3 to A3. -/
import Derived.Test.YthmgbcdidlkpoaaGreatM7
import Derived.Test.YthmgbcdidlkpoaaGreatM6
import Derived.Test.YthmgbcdidlkpoaaGreatM5
import Derived.Laws.BytesArg
set_option maxRecDepth 100000
set_option linter.unusedVariables false
set_option linter.unusedSimpArgs false
namespace Go.Proofs.YthmgbcdidlkpoaaGreat
open Go Go.RowKit
theorem Rc (xs:List Nat):((aJ xs).map AV.t).take (aJ xs).length=(aJ xs).map .t:=List.take_of_length_le (by simp)
theorem nI {a b:Zi}{k k':Int}(ha:Zg a k) (hb:Zg b k') (hz0:k'≠0):aC true Tryz.prog 120 [] [gF a,gF b] (aM (.tup [kO (k.fdiv k'),kO (k.fmod k'),.one (tv (.int .i64 0))])):=by
 refine bR Tryz.func120 rfl Tryz.ntmps120 rfl aA rfl fun N w c0 h0=>?_
 have hkl:=ha.len
 have hkl':=hb.len
 have hq:(dg 4294967296 (k.natAbs/k'.natAbs)).length≤300000000000:=Nat.le_trans (fH (Nat.div_le_self _ _)) hkl
 have hr0:=Nat.mod_lt k.natAbs (show 0<k'.natAbs by omega)
 have hrl:(dg 4294967296 (k.natAbs%k'.natAbs)).length≤300000000000:=Nat.le_trans (fH (Nat.le_of_lt hr0)) hkl'
 refine sq ?_;refine rl ?_;refine bx 0 ?_;refine bx 1 ?_;refine al 2 ?_;refine al 3 ?_;refine o1 ?_;refine nl ?_
 refine md (γ:=Unit) (fun _=>cH [(4,.one (.pt 0 0)),(5,.one (.pt 1 0)),(6,.one (tv (.int .i64 ((0:Nat):Int)))),(7,.one (.pt 2 0)),(8,.one (.pt 3 0))]) (fun _=>([⟨24,0,[tv (.bool false),tv (.slice none 0 0)]⟩,⟨24,0,[tv (.bool false),tv (.slice none 0 0)]⟩,⟨105,0,[tv (.bool (aF k)),.t (sU false (dg 4294967296 k.natAbs))]⟩,⟨105,0,[tv (.bool (aF k')),.t (sU false (dg 4294967296 k'.natAbs))]⟩]:List Ob).map some) (fun _=>True) ?_ fun _ _=>?_
 ·refine rd [0,1,2,3] (fun i=>[7].contains i) mixed ?_
  refine aU 0 ?_;refine aU 2 ?_;refine WO.three (i:=1) (j:=4) (m:=5) (by kernel_rfl) ?_ ?_ ?_
  ·refine cQ 1 rfl (cY ha) cZ ⟨aB rfl,rfl⟩ (kF (k)) ?_;refine WO.three (i:=3) (j:=4) (m:=5) (by kernel_rfl) ?_ ?_ ?_
   ·refine cQ 3 rfl (cY hb) cZ ⟨aB rfl,rfl⟩ (kF (k')) ?_;refine WO.two (i:=4) (j:=5) (by kernel_rfl) ?_ ?_
    ·refine bU (key:=4) 4 rfl rfl aA rfl ⟨rfl,rfl,rfl,rfl,trivial⟩ ?_;refine eA (key:=5) 5 (by kernel_rfl) rfl rfl aA rfl ⟨rfl,rfl,rfl,rfl,trivial⟩ ?_
     refine aR 6 (by kernel_rfl) rfl rfl aA rfl rfl rfl rfl ⟨rfl,rfl,rfl,rfl,trivial⟩ ?_
     refine dst 7 ?_;refine aN ?_;exact⟨(),trivial,aL h0 [2,3,4,5] _ _ (by decide) ⟨rfl,rfl,rfl,rfl,rfl,trivial⟩ ⟨oe rfl rfl,oe rfl rfl,oe rfl rfl,oe rfl rfl,rfl⟩⟩
    refine bU (key:=4) 5 rfl rfl aA rfl ⟨rfl,rfl,rfl,rfl,trivial⟩ ?_;refine eA (key:=5) 4 (by kernel_rfl) rfl rfl aA rfl ⟨rfl,rfl,rfl,rfl,trivial⟩ ?_
    refine aR 6 (by kernel_rfl) rfl rfl aA rfl rfl rfl rfl ⟨rfl,rfl,rfl,rfl,trivial⟩ ?_
    refine dst 7 ?_;refine aN ?_;exact⟨(),trivial,aL h0 [2,3,5,4] _ _ (by decide) ⟨rfl,rfl,rfl,rfl,rfl,trivial⟩ ⟨oe rfl rfl,oe rfl rfl,oe rfl rfl,oe rfl rfl,rfl⟩⟩
   ·refine bU (key:=4) 4 rfl rfl aA rfl ⟨rfl,rfl,rfl,rfl,trivial⟩ ?_;refine WO.two (i:=3) (j:=5) (by kernel_rfl) ?_ ?_
    ·refine cQ 3 rfl (cY hb) cZ ⟨aB rfl,rfl⟩ (kF (k')) ?_;refine eA (key:=5) 5 (by kernel_rfl) rfl rfl aA rfl ⟨rfl,rfl,rfl,rfl,trivial⟩ ?_
     refine aR 6 (by kernel_rfl) rfl rfl aA rfl rfl rfl rfl ⟨rfl,rfl,rfl,rfl,trivial⟩ ?_
     refine dst 7 ?_;refine aN ?_;exact⟨(),trivial,aL h0 [2,3,4,5] _ _ (by decide) ⟨rfl,rfl,rfl,rfl,rfl,trivial⟩ ⟨oe rfl rfl,oe rfl rfl,oe rfl rfl,oe rfl rfl,rfl⟩⟩
    refine bU (key:=5) 5 rfl rfl aA rfl ⟨rfl,rfl,rfl,rfl,trivial⟩ ?_;refine aI 3 rfl (cY hb) cZ ⟨aB rfl,rfl⟩ (kF (k')) ?_
    refine aR 6 (by kernel_rfl) rfl rfl aA rfl rfl rfl rfl ⟨rfl,rfl,rfl,rfl,trivial⟩ ?_
    refine dst 7 ?_;refine aN ?_;exact⟨(),trivial,aL h0 [2,3,4,5] _ _ (by decide) ⟨rfl,rfl,rfl,rfl,rfl,trivial⟩ ⟨oe rfl rfl,oe rfl rfl,oe rfl rfl,oe rfl rfl,rfl⟩⟩
   refine bU (key:=4) 5 rfl rfl aA rfl ⟨rfl,rfl,rfl,rfl,trivial⟩ ?_;refine WO.two (i:=3) (j:=4) (by kernel_rfl) ?_ ?_
   ·refine cQ 3 rfl (cY hb) cZ ⟨aB rfl,rfl⟩ (kF (k')) ?_;refine eA (key:=5) 4 (by kernel_rfl) rfl rfl aA rfl ⟨rfl,rfl,rfl,rfl,trivial⟩ ?_
    refine aR 6 (by kernel_rfl) rfl rfl aA rfl rfl rfl rfl ⟨rfl,rfl,rfl,rfl,trivial⟩ ?_
    refine dst 7 ?_;refine aN ?_;exact⟨(),trivial,aL h0 [2,3,5,4] _ _ (by decide) ⟨rfl,rfl,rfl,rfl,rfl,trivial⟩ ⟨oe rfl rfl,oe rfl rfl,oe rfl rfl,oe rfl rfl,rfl⟩⟩
   refine bU (key:=5) 4 rfl rfl aA rfl ⟨rfl,rfl,rfl,rfl,trivial⟩ ?_;refine aI 3 rfl (cY hb) cZ ⟨aB rfl,rfl⟩ (kF (k')) ?_
   refine aR 6 (by kernel_rfl) rfl rfl aA rfl rfl rfl rfl ⟨rfl,rfl,rfl,rfl,trivial⟩ ?_
   refine dst 7 ?_;refine aN ?_;exact⟨(),trivial,aL h0 [2,3,5,4] _ _ (by decide) ⟨rfl,rfl,rfl,rfl,rfl,trivial⟩ ⟨oe rfl rfl,oe rfl rfl,oe rfl rfl,oe rfl rfl,rfl⟩⟩
  ·refine bU (key:=4) 4 rfl rfl aA rfl ⟨rfl,rfl,rfl,rfl,trivial⟩ ?_;refine WO.two (i:=1) (j:=5) (by kernel_rfl) ?_ ?_
   ·refine cQ 1 rfl (cY ha) cZ ⟨aB rfl,rfl⟩ (kF (k)) ?_;refine WO.two (i:=3) (j:=5) (by kernel_rfl) ?_ ?_
    ·refine cQ 3 rfl (cY hb) cZ ⟨aB rfl,rfl⟩ (kF (k')) ?_;refine eA (key:=5) 5 (by kernel_rfl) rfl rfl aA rfl ⟨rfl,rfl,rfl,rfl,trivial⟩ ?_
     refine aR 6 (by kernel_rfl) rfl rfl aA rfl rfl rfl rfl ⟨rfl,rfl,rfl,rfl,trivial⟩ ?_
     refine dst 7 ?_;refine aN ?_;exact⟨(),trivial,aL h0 [2,3,4,5] _ _ (by decide) ⟨rfl,rfl,rfl,rfl,rfl,trivial⟩ ⟨oe rfl rfl,oe rfl rfl,oe rfl rfl,oe rfl rfl,rfl⟩⟩
    refine bU (key:=5) 5 rfl rfl aA rfl ⟨rfl,rfl,rfl,rfl,trivial⟩ ?_;refine aI 3 rfl (cY hb) cZ ⟨aB rfl,rfl⟩ (kF (k')) ?_
    refine aR 6 (by kernel_rfl) rfl rfl aA rfl rfl rfl rfl ⟨rfl,rfl,rfl,rfl,trivial⟩ ?_
    refine dst 7 ?_;refine aN ?_;exact⟨(),trivial,aL h0 [2,3,4,5] _ _ (by decide) ⟨rfl,rfl,rfl,rfl,rfl,trivial⟩ ⟨oe rfl rfl,oe rfl rfl,oe rfl rfl,oe rfl rfl,rfl⟩⟩
   refine bU (key:=5) 5 rfl rfl aA rfl ⟨rfl,rfl,rfl,rfl,trivial⟩ ?_;refine aI 1 rfl (cY ha) cZ ⟨aB rfl,rfl⟩ (kF (k)) ?_
   refine aI 3 rfl (cY hb) cZ ⟨aB rfl,rfl⟩ (kF (k')) ?_;refine aR 6 (by kernel_rfl) rfl rfl aA rfl rfl rfl rfl ⟨rfl,rfl,rfl,rfl,trivial⟩ ?_
   refine dst 7 ?_;refine aN ?_;exact⟨(),trivial,aL h0 [2,3,4,5] _ _ (by decide) ⟨rfl,rfl,rfl,rfl,rfl,trivial⟩ ⟨oe rfl rfl,oe rfl rfl,oe rfl rfl,oe rfl rfl,rfl⟩⟩
  refine bU (key:=4) 5 rfl rfl aA rfl ⟨rfl,rfl,rfl,rfl,trivial⟩ ?_;refine WO.two (i:=1) (j:=4) (by kernel_rfl) ?_ ?_
  ·refine cQ 1 rfl (cY ha) cZ ⟨aB rfl,rfl⟩ (kF (k)) ?_;refine WO.two (i:=3) (j:=4) (by kernel_rfl) ?_ ?_
   ·refine cQ 3 rfl (cY hb) cZ ⟨aB rfl,rfl⟩ (kF (k')) ?_;refine eA (key:=5) 4 (by kernel_rfl) rfl rfl aA rfl ⟨rfl,rfl,rfl,rfl,trivial⟩ ?_
    refine aR 6 (by kernel_rfl) rfl rfl aA rfl rfl rfl rfl ⟨rfl,rfl,rfl,rfl,trivial⟩ ?_
    refine dst 7 ?_;refine aN ?_;exact⟨(),trivial,aL h0 [2,3,5,4] _ _ (by decide) ⟨rfl,rfl,rfl,rfl,rfl,trivial⟩ ⟨oe rfl rfl,oe rfl rfl,oe rfl rfl,oe rfl rfl,rfl⟩⟩
   refine bU (key:=5) 4 rfl rfl aA rfl ⟨rfl,rfl,rfl,rfl,trivial⟩ ?_;refine aI 3 rfl (cY hb) cZ ⟨aB rfl,rfl⟩ (kF (k')) ?_
   refine aR 6 (by kernel_rfl) rfl rfl aA rfl rfl rfl rfl ⟨rfl,rfl,rfl,rfl,trivial⟩ ?_
   refine dst 7 ?_;refine aN ?_;exact⟨(),trivial,aL h0 [2,3,5,4] _ _ (by decide) ⟨rfl,rfl,rfl,rfl,rfl,trivial⟩ ⟨oe rfl rfl,oe rfl rfl,oe rfl rfl,oe rfl rfl,rfl⟩⟩
  refine bU (key:=5) 4 rfl rfl aA rfl ⟨rfl,rfl,rfl,rfl,trivial⟩ ?_;refine aI 1 rfl (cY ha) cZ ⟨aB rfl,rfl⟩ (kF (k)) ?_
  refine aI 3 rfl (cY hb) cZ ⟨aB rfl,rfl⟩ (kF (k')) ?_;refine aR 6 (by kernel_rfl) rfl rfl aA rfl rfl rfl rfl ⟨rfl,rfl,rfl,rfl,trivial⟩ ?_
  refine dst 7 ?_;refine aN ?_;exact⟨(),trivial,aL h0 [2,3,5,4] _ _ (by decide) ⟨rfl,rfl,rfl,rfl,rfl,trivial⟩ ⟨oe rfl rfl,oe rfl rfl,oe rfl rfl,oe rfl rfl,rfl⟩⟩
 refine sq ?_;refine rl ?_;refine o1 ?_;refine o1 ?_;refine ld ?_;refine o1 ?_;refine o1 ?_;refine ld ?_
 have hD:aC true Tryz.prog 136 [] [.one (.t (sU false (dg 4294967296 k.natAbs))),.one (.t (sU false (dg 4294967296 k'.natAbs)))] (aM (.tup [.one (.t (sU true (dg 4294967296 (k.natAbs/k'.natAbs)))),.one (.t (sU true (dg 4294967296 (k.natAbs%k'.natAbs)))),.one (tv (.int .i64 0))])):=by
  have h9:=Vb (aH (by omega) k.natAbs) (aH (by omega) k'.natAbs) (by omega) (by omega) (by rw[bI];omega)
  rwa[bI,bI]at h9
 refine fG 4 hD IQ ⟨a1 rfl,a1 rfl,rfl⟩ ?_;(iterate 7 refine o1 ?_);refine nl ?_;refine sq ?_;refine sq ?_;refine rl ?_;refine o1 ?_;refine o1 ?_;refine nl ?_
 refine bX rfl (fun h1=>?_) (fun h1=>?_)
 ·exact absurd rfl h1
 refine sk ?_;refine sq ?_;refine sq ?_;refine rl ?_;refine o1 ?_;refine o1 ?_;refine ld ?_;refine o1 ?_;refine o1 ?_;refine ld ?_;refine o1 ?_;refine o1 ?_
 refine WL.splitb (t:=37) rfl (fun h2=>?_) (fun h2=>?_)
 ·(iterate 4 refine o1 ?_);refine nl ?_;refine bX rfl (fun h3=>?_) (fun h3=>?_)
  ·refine sq ?_;refine rl ?_;refine o1 ?_;refine bs 6 ?_
   have hA:aC true Tryz.prog 129 [] [.one (.t (sU false (dg 4294967296 (k.natAbs/k'.natAbs)))),.one (.t (sU false [1]))] (aM (.one (.t (sU true (dg 4294967296 ((k.natAbs/k'.natAbs)+1)))))):=by
    have h9:=Xe (aH (by omega) (k.natAbs/k'.natAbs)) (Lim.cons (show 1<4294967296 by omega) Lim.nil) (by omega) (by simp)
    rwa[bS (by omega),show vl 4294967296 [1]=1 from rfl]at h9
   refine fG 7 hA Ws ⟨vF rfl (.sl rfl rfl (Rc _) (aP _)),vF rfl (.sl (trs:=aJ [1]) rfl rfl rfl rfl),rfl⟩ ?_;refine o1 ?_;refine nl ?_;refine rl ?_;refine o1 ?_
   refine o1 ?_;refine ld ?_;refine o1 ?_
   have hS:aC true Tryz.prog 131 [] [.one (.t (sU false (dg 4294967296 k'.natAbs))),.one (.t (sU false (dg 4294967296 (k.natAbs%k'.natAbs))))] (aM (.tup [.one (.t (sU true (dg 4294967296 (k'.natAbs-(k.natAbs%k'.natAbs))))),.one (tv (.int .i64 0))])):=by
    have h9:=Mw (aH (by omega) k'.natAbs) (aH (by omega) (k.natAbs%k'.natAbs)) (by omega) (by rw[bI,bS (by omega)];omega)
    rwa[bI,bS (by omega)]at h9
   refine fG 8 hS Mh ⟨a1 rfl,vF rfl (.sl rfl rfl (Rc _) (aP _)),rfl⟩ ?_;(iterate 4 refine o1 ?_);refine nl ?_;refine sq ?_
   have hd:k.fdiv k'=bL (aF k != aF k') ((k.natAbs/k'.natAbs)+1)∧k.fmod k'=bL (aF k') (k'.natAbs-(k.natAbs%k'.natAbs)):=by
    have h9:aF k≠aF k':=by simpa using h2
    have h7:k.natAbs%k'.natAbs≠0:=by have h5:=kH (m:=(k.natAbs%k'.natAbs)) rfl;rw[decide_eq_true (by omega)]at h5;have h6:=of_decide_eq_true h5.symm;omega
    have h8:=Zy (a:=k) (b:=k') hz0 h9 h7
    rw[h2];exact h8
   refine rd [1,2,3,6] (fun i=>[15,16].contains i) mixed ?_
   refine dv 0 ?_;refine dv 1 ?_;refine aU 2 ?_;refine dv 3 ?_;refine dv 4 ?_;refine aU 5 ?_;refine dv 6 ?_;refine dv 7 ?_;refine dv 9 ?_;refine dv 10 ?_;refine aU 11 ?_
   refine dv 12 ?_
   refine yE 8 9 [7] rfl (fR (b:=(aF k != aF k')) (m:=((k.natAbs/k'.natAbs)+1)) (K:=(k.fdiv k')) hd.1.symm) mM ⟨cB rfl,rfl⟩ ⟨rfl,rfl,rfl⟩ ⟨rfl,rfl,rfl,rfl,trivial⟩ ?_
   refine yE 13 10 [8] rfl (fR (b:=(aF k')) (m:=(k'.natAbs-(k.natAbs%k'.natAbs))) (K:=(k.fmod k')) hd.2.symm) mM ⟨cB rfl,rfl⟩ ⟨rfl,rfl,rfl⟩ ⟨rfl,rfl,rfl,rfl,trivial⟩ ?_
   refine aR 14 (by kernel_rfl) rfl rfl aA rfl rfl rfl rfl ⟨rfl,rfl,rfl,rfl,trivial⟩ ?_
   refine dst 15 ?_;refine dI 16 (by kernel_rfl) rfl rfl aA rfl (by trivial) ?_ (fun h=>by first | rfl | cases h)
   refine aN ?_;refine rt ?_
   exact en (.inl rfl) rfl (nJ (.cons (.agg (.cons (.id rfl) (.cons (.sl (trs:=aJ (dg 4294967296 ((k.fdiv k')).natAbs)) rfl rfl (aW _) (aP _)) .nil))) (.cons (.agg (.cons (.id rfl) (.cons (.sl (trs:=aJ (dg 4294967296 ((k.fmod k')).natAbs)) rfl rfl (aW _) (aP _)) .nil))) (.cons (cA (.int .i64 0)) .nil)))) (by decide) (fun _=>⟨dN (k.fdiv k'),dN (k.fmod k'),trivial,trivial⟩) rfl
  refine sk ?_;refine sq ?_;have hd:k.fdiv k'=bL (aF k != aF k') (k.natAbs/k'.natAbs)∧k.fmod k'=bL (aF k') (k.natAbs%k'.natAbs):=by
   have h9:aF k≠aF k':=by simpa using h2
   have h7:k.natAbs%k'.natAbs=0:=by have h5:=kH (m:=(k.natAbs%k'.natAbs)) rfl;rw[decide_eq_false (by omega)]at h5;have h6:=of_decide_eq_false h5.symm;omega
   have h8:=Zx (a:=k) (b:=k') hz0 h9 h7
   rw[h2];exact h8
  refine rd [1,2,3] (fun i=>[15,16].contains i) mixed ?_
  refine dv 0 ?_;refine dv 1 ?_;refine aU 2 ?_;refine dv 3 ?_;refine dv 4 ?_;refine aU 5 ?_;refine dv 6 ?_;refine dv 7 ?_;refine dv 9 ?_;refine dv 10 ?_;refine aU 11 ?_
  refine dv 12 ?_
  refine yE 8 6 [4] rfl (fR (b:=(aF k != aF k')) (m:=(k.natAbs/k'.natAbs)) (K:=(k.fdiv k')) hd.1.symm) mM ⟨cB rfl,rfl⟩ ⟨rfl,rfl,rfl⟩ ⟨rfl,rfl,rfl,trivial⟩ ?_
  refine yE 13 7 [5] rfl (fR (b:=(aF k')) (m:=(k.natAbs%k'.natAbs)) (K:=(k.fmod k')) hd.2.symm) mM ⟨cB rfl,rfl⟩ ⟨rfl,rfl,rfl⟩ ⟨rfl,rfl,rfl,trivial⟩ ?_
  refine aR 14 (by kernel_rfl) rfl rfl aA rfl rfl rfl rfl ⟨rfl,rfl,rfl,trivial⟩ ?_
  refine dst 15 ?_;refine dI 16 (by kernel_rfl) rfl rfl aA rfl (by trivial) ?_ (fun h=>by first | rfl | cases h)
  refine aN ?_;refine rt ?_
  exact en (.inl rfl) rfl (nJ (.cons (.agg (.cons (.id rfl) (.cons (.sl (trs:=aJ (dg 4294967296 ((k.fdiv k')).natAbs)) rfl rfl (aW _) (aP _)) .nil))) (.cons (.agg (.cons (.id rfl) (.cons (.sl (trs:=aJ (dg 4294967296 ((k.fmod k')).natAbs)) rfl rfl (aW _) (aP _)) .nil))) (.cons (cA (.int .i64 0)) .nil)))) (by decide) (fun _=>⟨dN (k.fdiv k'),dN (k.fmod k'),trivial,trivial⟩) rfl
 (iterate 3 refine eL ?_);refine o1 ?_;refine nl ?_;refine fK rfl ?_;refine sk ?_;refine sq ?_
 have hd:k.fdiv k'=bL (aF k != aF k') (k.natAbs/k'.natAbs)∧k.fmod k'=bL (aF k') (k.natAbs%k'.natAbs):=by
  have h9:aF k=aF k':=by simpa using h2
  have h8:=Zw (a:=k) (b:=k') hz0 h9
  rw[h2];exact h8
 refine rd [1,2,3] (fun i=>[15,16].contains i) mixed ?_
 refine dv 0 ?_;refine dv 1 ?_;refine aU 2 ?_;refine dv 3 ?_;refine dv 4 ?_;refine aU 5 ?_;refine dv 6 ?_;refine dv 7 ?_;refine dv 9 ?_;refine dv 10 ?_;refine aU 11 ?_
 refine dv 12 ?_
 refine yE 8 6 [4] rfl (fR (b:=(aF k != aF k')) (m:=(k.natAbs/k'.natAbs)) (K:=(k.fdiv k')) hd.1.symm) mM ⟨cB rfl,rfl⟩ ⟨rfl,rfl,rfl⟩ ⟨rfl,rfl,rfl,trivial⟩ ?_
 refine yE 13 7 [5] rfl (fR (b:=(aF k')) (m:=(k.natAbs%k'.natAbs)) (K:=(k.fmod k')) hd.2.symm) mM ⟨cB rfl,rfl⟩ ⟨rfl,rfl,rfl⟩ ⟨rfl,rfl,rfl,trivial⟩ ?_
 refine aR 14 (by kernel_rfl) rfl rfl aA rfl rfl rfl rfl ⟨rfl,rfl,rfl,trivial⟩ ?_
 refine dst 15 ?_;refine dI 16 (by kernel_rfl) rfl rfl aA rfl (by trivial) ?_ (fun h=>by first | rfl | cases h)
 refine aN ?_;refine rt ?_
 exact en (.inl rfl) rfl (nJ (.cons (.agg (.cons (.id rfl) (.cons (.sl (trs:=aJ (dg 4294967296 ((k.fdiv k')).natAbs)) rfl rfl (aW _) (aP _)) .nil))) (.cons (.agg (.cons (.id rfl) (.cons (.sl (trs:=aJ (dg 4294967296 ((k.fmod k')).natAbs)) rfl rfl (aW _) (aP _)) .nil))) (.cons (cA (.int .i64 0)) .nil)))) (by decide) (fun _=>⟨dN (k.fdiv k'),dN (k.fmod k'),trivial,trivial⟩) rfl
theorem qG {p:Rat}{L:Nat}(h:Sz L p) (hL:L≤68719476736:=by omega):Zg (.of p.num) p.num:=.of (Nat.le_trans h.1 (by omega))
theorem jQ {p:Rat}{L:Nat}(h:Sz L p) (hL:L≤68719476736:=by omega):Zg ⟨false,dg 4294967296 p.den⟩ (p.den:Int):=⟨aH (by omega) _,Nat.le_trans h.2 (by omega),pH p.den⟩
theorem Cj {q:Rat}{n d:Int}(h1:q.num=n) (h2:(q.den:Int)=d):FV.agg [tv (.bool (aF n)),.t (sU true (dg 4294967296 n.natAbs)),tv (.bool (aF d)),.t (sU true (dg 4294967296 d.natAbs))]=qO q:=by
 subst h1 h2
 rw[uY]
 rfl
theorem tS {a b:Zi}{k k':Int}(ha:Zg a k) (hb:Zg b k') (hz0:k'≠0):aC true Tryz.prog 86 [] [gF a,gF b] (aM (qO (Rat.divInt k k'))):=by
 refine bR Tryz.func86 rfl Tryz.ntmps86 rfl aA rfl fun N w c0 h0=>?_
 have hkl:=ha.len
 have hkl':=hb.len
 have hgl:(dg 4294967296 ((Int.gcd k k':Nat):Int).natAbs).length≤300000000000:=Nat.le_trans (fH (Nat.le_of_dvd (by omega) (Nat.gcd_dvd_right ..))) hkl'
 have hng:=iI ((Int.gcd k k':Nat):Int)
 have hg0:((Int.gcd k k':Nat):Int)≠0:=fun e=>hz0 (Int.gcd_eq_zero_iff.1 (show Int.gcd k k'=0 by omega)).2
 refine sq ?_;refine rl ?_;refine bx 0 ?_;refine bx 1 ?_;refine al 2 ?_;refine nl ?_;refine sq ?_;refine rl ?_;refine ld ?_;refine ld ?_
 refine ca (Xf ha hb) Wp ⟨aB rfl,aB rfl,rfl⟩ (kF (((Int.gcd k k':Nat):Int))) ?_;refine al 3 ?_;refine st ?_;refine nl ?_;refine sq ?_;refine sq ?_;refine rl ?_;refine ld ?_
 refine ca (lY hb) sE ⟨aB rfl,rfl⟩ (.one (tv (.int .i64 k'.sign))) ?_;refine o1 ?_;refine nl ?_;refine bX rfl (fun h1=>?_) (fun h1=>?_)
 ·refine rl ?_;refine ld ?_;refine ca (Lj (Zg.of (k:=((Int.gcd k k':Nat):Int)) hgl)) St ⟨aB rfl,rfl⟩ (kF (-(((Int.gcd k k':Nat):Int)))) ?_;refine st ?_;refine nl ?_;refine sq ?_
  refine rl ?_;refine ld ?_;refine ld ?_;refine fG 4 (nI ha (Zg.of (k:=(-(((Int.gcd k k':Nat):Int)))) (by omega)) (by omega)) wW ⟨aB rfl,aB rfl,rfl⟩ ?_
  (iterate 4 refine o1 ?_);refine al 6 ?_;refine al 7 ?_;refine st ?_;refine st ?_;refine o1 ?_;refine nl ?_;refine sq ?_;refine rl ?_;refine ld ?_;refine ld ?_
  refine fG 8 (nI hb (Zg.of (k:=(-(((Int.gcd k k':Nat):Int)))) (by omega)) (by omega)) wW ⟨aB rfl,aB rfl,rfl⟩ ?_
  (iterate 4 refine o1 ?_);refine al 10 ?_;refine al 11 ?_;refine st ?_;refine st ?_;refine o1 ?_;refine nl ?_;refine sq ?_;refine rl ?_;refine ld ?_;refine ld ?_;refine o1 ?_
  refine st ?_;refine nl ?_;refine rt ?_;have hk9:k'<0:=by
   rcases Int.lt_trichotomy k' 0 with h8 | h8 | h8
   ·exact h8
   ·exact absurd h8 hz0
   rw[Int.sign_eq_one_of_pos h8]at h1;omega
  have h9:=Fu (N:=k) (D:=k') hk9
  exact en (.inl rfl) rfl (aT (.agg (.cons (.id rfl) (.cons (.sl (trs:=aJ (dg 4294967296 (((k).fdiv (-(((Int.gcd k k':Nat):Int))))).natAbs)) rfl rfl (aW _) (aP _)) (.cons (.id rfl) (.cons (.sl (trs:=aJ (dg 4294967296 (((k').fdiv (-(((Int.gcd k k':Nat):Int))))).natAbs)) rfl rfl (aW _) (aP _)) (.nil))))))) (by decide) (fun _=>pS (⟨aF ((k).fdiv (-(((Int.gcd k k':Nat):Int)))),dg 4294967296 (((k).fdiv (-(((Int.gcd k k':Nat):Int))))).natAbs,aF ((k').fdiv (-(((Int.gcd k k':Nat):Int)))),dg 4294967296 (((k').fdiv (-(((Int.gcd k k':Nat):Int))))).natAbs⟩:Fr4)) (Cj h9.1 h9.2)
 refine sk ?_;refine sq ?_;refine rl ?_;refine ld ?_;refine ld ?_;refine fG 4 (nI ha (Zg.of (k:=((Int.gcd k k':Nat):Int)) (by omega)) (by omega)) wW ⟨aB rfl,aB rfl,rfl⟩ ?_
 (iterate 4 refine o1 ?_);refine al 6 ?_;refine al 7 ?_;refine st ?_;refine st ?_;refine o1 ?_;refine nl ?_;refine sq ?_;refine rl ?_;refine ld ?_;refine ld ?_
 refine fG 8 (nI hb (Zg.of (k:=((Int.gcd k k':Nat):Int)) (by omega)) (by omega)) wW ⟨aB rfl,aB rfl,rfl⟩ ?_
 (iterate 4 refine o1 ?_);refine al 10 ?_;refine al 11 ?_;refine st ?_;refine st ?_;refine o1 ?_;refine nl ?_;refine sq ?_;refine rl ?_;refine ld ?_;refine ld ?_;refine o1 ?_
 refine st ?_;refine nl ?_;refine rt ?_;have hk9:0<k':=by
  rcases Int.lt_trichotomy k' 0 with h8 | h8 | h8
  ·rw[Int.sign_eq_neg_one_of_neg h8]at h1;omega
  ·exact absurd h8 hz0
  exact h8
 have h9:=lQ (N:=k) (D:=k') hk9
 exact en (.inl rfl) rfl (aT (.agg (.cons (.id rfl) (.cons (.sl (trs:=aJ (dg 4294967296 (((k).fdiv ((Int.gcd k k':Nat):Int))).natAbs)) rfl rfl (aW _) (aP _)) (.cons (.id rfl) (.cons (.sl (trs:=aJ (dg 4294967296 (((k').fdiv ((Int.gcd k k':Nat):Int))).natAbs)) rfl rfl (aW _) (aP _)) (.nil))))))) (by decide) (fun _=>pS (⟨aF ((k).fdiv ((Int.gcd k k':Nat):Int)),dg 4294967296 (((k).fdiv ((Int.gcd k k':Nat):Int))).natAbs,aF ((k').fdiv ((Int.gcd k k':Nat):Int)),dg 4294967296 (((k').fdiv ((Int.gcd k k':Nat):Int))).natAbs⟩:Fr4)) (Cj h9.1 h9.2)
theorem JB {p q:Rat}(hp:Sz 68719476736 p) (hq:Sz 68719476736 q):aC true Tryz.prog 82 [] [qF (.of p),qF (.of q)] (aM (qO (p+q))):=by
 refine bR Tryz.func82 rfl Tryz.ntmps82 rfl aA rfl fun N w c0 h0=>?_
 have z1:=(qG hp).len;have z2:=(qG hq).len;have z3:=(jQ hp).len;have z4:=(jQ hq).len
 have y1:(dg 4294967296 p.num.natAbs).length≤68719476736:=hp.1;have y2:(dg 4294967296 q.num.natAbs).length≤68719476736:=hq.1;have y3:(dg 4294967296 p.den).length≤68719476736:=hp.2;have y4:(dg 4294967296 q.den).length≤68719476736:=hq.2;have y5:(dg 4294967296 (p.den:Int).natAbs).length≤68719476736:=hp.2;have y6:(dg 4294967296 (q.den:Int).natAbs).length≤68719476736:=hq.2
 refine sq ?_;refine rl ?_;refine bx 0 ?_;refine bx 1 ?_;refine al 2 ?_;refine nl ?_;refine sq ?_;refine sq ?_;refine rl ?_;refine o1 ?_;refine ld ?_;refine o1 ?_;refine ld ?_
 refine ca (My (jQ hp) (jQ hq) (by have h8:=gK (p.den:Int) (-(q.den:Int));have h7:=iI (q.den:Int);rw[Int.natAbs_natCast]at h7 h8;rw[Int.sub_eq_add_neg];omega)) vU ⟨aB rfl,aB rfl,rfl⟩ (.one (tv (.int .i64 ((p.den:Int)-(q.den:Int)).sign))) ?_
 refine o1 ?_;refine nl ?_;refine bX rfl (fun h1=>?_) (fun h1=>?_)
 ·refine sq ?_;refine rd [0,1,2] (fun i=>[8].contains i) mixed ?_
  refine dv 0 ?_;refine aU 1 ?_;refine dv 2 ?_;refine aU 3 ?_;refine dv 5 ?_;refine aU 6 ?_;have hn2:=gK (p.num) (q.num)
  refine aI 4 rfl (Cb (qG hp) (qG hq)) Li ⟨aB rfl,aB rfl,rfl⟩ (kF (p.num+q.num)) ?_
  refine iF 3 7 rfl (tS (Zg.of (k:=(p.num+q.num)) (by omega)) (jQ hp) (by have h8:=p.den_nz;have h7:=q.den_nz;first | omega | exact Int.mul_ne_zero (by omega) (by omega))) Kz ⟨aB rfl,aB rfl,rfl⟩ ?_
  refine dst 8 ?_;refine aN ?_;refine rt ?_
  exact en (.inl rfl) rfl (aT (.agg (.cons (.id rfl) (.cons (.sl (trs:=aJ (dg 4294967296 (Rat.divInt ((p.num+q.num)) ((p.den:Int))).num.natAbs)) rfl rfl (aW _) (aP _)) (.cons (.id rfl) (.cons (.sl (trs:=aJ (dg 4294967296 (Rat.divInt ((p.num+q.num)) ((p.den:Int))).den)) rfl rfl (aW _) (aP _)) .nil)))))) (by decide) (fun _=>sD (Rat.divInt ((p.num+q.num)) ((p.den:Int)))) (by rw[show(Rat.divInt ((p.num+q.num)) ((p.den:Int)))=p+q from Un (by have h8:=Int.sign_eq_zero_iff_zero.1 h1;omega)];rfl)
 refine sk ?_;refine sq ?_;refine rd [0,1,2] (fun i=>[17].contains i) mixed ?_
 refine dv 0 ?_;refine aU 1 ?_;refine dv 2 ?_;refine aU 3 ?_;refine dv 5 ?_;refine aU 6 ?_;refine dv 7 ?_;refine aU 8 ?_;refine dv 11 ?_;refine aU 12 ?_;refine dv 13 ?_
 refine aU 14 ?_;have hn3:=dF (p.num) ((q.den:Int))
 refine aI 4 rfl (Ci (qG hp) (jQ hq)) qP ⟨aB rfl,aB rfl,rfl⟩ (kF (p.num*(q.den:Int))) ?_;have hn4:=dF (q.num) ((p.den:Int))
 refine aI 9 rfl (Ci (qG hq) (jQ hp)) qP ⟨aB rfl,aB rfl,rfl⟩ (kF (q.num*(p.den:Int))) ?_;have hn5:=gK ((p.num*(q.den:Int))) ((q.num*(p.den:Int)))
 refine aI 10 rfl (Cb (Zg.of (k:=(p.num*(q.den:Int))) (by omega)) (Zg.of (k:=(q.num*(p.den:Int))) (by omega))) Li ⟨aB rfl,aB rfl,rfl⟩ (kF ((p.num*(q.den:Int))+(q.num*(p.den:Int)))) ?_
 have hn6:=dF ((p.den:Int)) ((q.den:Int))
 refine aI 15 rfl (Ci (jQ hp) (jQ hq)) qP ⟨aB rfl,aB rfl,rfl⟩ (kF ((p.den:Int)*(q.den:Int))) ?_
 refine iF 3 16 rfl (tS (Zg.of (k:=((p.num*(q.den:Int))+(q.num*(p.den:Int)))) (by omega)) (Zg.of (k:=((p.den:Int)*(q.den:Int))) (by omega)) (by have h8:=p.den_nz;have h7:=q.den_nz;first | omega | exact Int.mul_ne_zero (by omega) (by omega))) Kz ⟨aB rfl,aB rfl,rfl⟩ ?_
 refine dst 17 ?_;refine aN ?_;refine rt ?_
 exact en (.inl rfl) rfl (aT (.agg (.cons (.id rfl) (.cons (.sl (trs:=aJ (dg 4294967296 (Rat.divInt (((p.num*(q.den:Int))+(q.num*(p.den:Int)))) (((p.den:Int)*(q.den:Int)))).num.natAbs)) rfl rfl (aW _) (aP _)) (.cons (.id rfl) (.cons (.sl (trs:=aJ (dg 4294967296 (Rat.divInt (((p.num*(q.den:Int))+(q.num*(p.den:Int)))) (((p.den:Int)*(q.den:Int)))).den)) rfl rfl (aW _) (aP _)) .nil)))))) (by decide) (fun _=>sD (Rat.divInt (((p.num*(q.den:Int))+(q.num*(p.den:Int)))) (((p.den:Int)*(q.den:Int))))) (by rw[show(Rat.divInt (((p.num*(q.den:Int))+(q.num*(p.den:Int)))) (((p.den:Int)*(q.den:Int))))=p+q from oH p q];rfl)
theorem Re {k:Int}{f:FuncId}{args:List FV}(h:∀(N:Nat→Prop) (w:World) us,cL w N [] args us→(∀b,N b→b<w.heap.size)→Calls Tryz.prog f us.toArray w (EX k w)):aC true Tryz.prog f [] args (aM (kO k)):=by
 intro N w cs us hL
 obtain⟨rfl,hf⟩:=tP hL
 refine(h _ w us hf (fun b hb=>hb.1)).mono ?_
 rintro e W ⟨A,n,c,rfl,ho,hb⟩
 obtain⟨y1,a1,a2,a3,a4⟩:=tO (N:=fun b=>true=false∧(b<W.heap.size∧b∉VT.fpL [])∧(N b∨w.heap.size≤b)) ho
 refine .mk0 (y:=[.w (.bool (aF k)),y1]) rfl hb (by simp only[VT.okL,VT.ok];exact⟨trivial,a3,trivial⟩) ?_ (fun b hb'=>?_) ?_
 ·simp only[VT.fpL,VT.fp,a4,List.nil_append,List.append_nil]
  exact yD A n c
 ·simp only[VT.fpL,VT.fp,a4,List.nil_append,List.append_nil]at hb'
  exact ho.blk b hb'
 refine⟨by simp only[List.map_cons,List.map_nil,a1];rfl,?_⟩
 simp only[List.map_cons,List.map_nil,bH,CR,sU]
 exact⟨by simp[OR],iC (fun _ _=>rfl) (fun b hb=>absurd hb.1 (by simp)) _ _ a2,trivial⟩
theorem jE {n:Int}(h1:-9223372036854775808≤n) (h2:n≤9223372036854775807):aC true Tryz.prog 36 [] [.one (tv (.int .i64 n))] (aM (kO n)):=Re fun N w us hf hN=>by
 obtain⟨u,rfl,h3⟩:=Up hf
 obtain rfl:=aQ (pT h3)
 exact EY n w h1 h2
theorem AO {m:Nat}:decide (((m:Int)-1).sign=0)=(m==1):=by
 rw[decide_eq_decide.2 Int.sign_eq_zero_iff_zero]
 rw[Bool.eq_iff_iff,decide_eq_true_eq,beq_iff_eq]
 omega
theorem Gf {z:Int}:0<z.sign↔0<z:=by
 rcases Int.lt_trichotomy z 0 with h | h | h
 ·rw[Int.sign_eq_neg_one_of_neg h];omega
 ·subst h;decide
 rw[Int.sign_eq_one_of_pos h];omega
theorem yF:aC true Tryz.prog 84 [] [] (aM (kO 1)):=by
 refine bR Tryz.func84 rfl Tryz.ntmps84 rfl aA rfl fun N w c0 h0=>?_
 refine sq ?_;refine rl ?_;refine al 0 ?_;refine nl ?_;refine sq ?_;refine rl ?_;refine fG 1 (jE (n:=1) (by omega) (by omega)) jF ⟨a1 rfl,rfl⟩ ?_
 refine st ?_;refine nl ?_;refine rt ?_
 exact en (.inl rfl) rfl (aT (.agg (.cons (.id rfl) (.cons (.sl (trs:=aJ (dg 4294967296 ((1:Int)).natAbs)) rfl rfl (aW _) (aP _)) .nil)))) (by decide) (fun _=>dN 1) rfl
theorem Gg {a:Fr4}{p:Rat}(ha:Qn a p):aC true Tryz.prog 89 [] [qF a] (aM (.one (tv (.bool (cT a.s a.x a.t a.y))))):=by
 refine bR Tryz.func89 rfl Tryz.ntmps89 rfl aA rfl fun N w c0 h0=>?_
 refine sq ?_;refine rl ?_;refine bx 0 ?_;refine o1 ?_;refine nl ?_;refine sq ?_;refine rl ?_;refine o1 ?_;refine ld ?_
 refine ca (uJ (a:=⟨a.s,a.x⟩) ((Dt ha).g)) Lq ⟨aB rfl,rfl⟩ (.one (tv (.bool (cJ a.s a.x)))) ?_;refine o1 ?_;refine WL.splitb (t:=6) rfl (fun h1=>?_) (fun h1=>?_)
 ·refine o1 ?_;refine ld ?_;refine ca (uJ (a:=⟨a.t,a.y⟩) ((qQ ha).g)) Lq ⟨aB rfl,rfl⟩ (.one (tv (.bool (cJ a.t a.y)))) ?_;refine o1 ?_;refine o1 ?_
  refine WL.splitb (t:=11) rfl (fun h2=>?_) (fun h2=>?_)
  ·refine o1 ?_;refine ld ?_;refine ca (lY (a:=⟨a.t,a.y⟩) ((qQ ha).g)) sE ⟨aB rfl,rfl⟩ (.one (tv (.int .i64 (cS a.t a.y).sign))) ?_;(iterate 3 refine o1 ?_)
   refine WL.split (t:=17) rfl (fun h3=>?_) (fun h3=>?_)
   ·refine o1 ?_;refine ld ?_;refine o1 ?_;refine ld ?_;have hpos:0<cS a.t a.y:=Gf.1 h3
    have hyl:(dg 4294967296 (cS a.t a.y).natAbs).length≤137438953472:=Zn.len (qQ (p:=p) ha)
    have hgl9:(dg 4294967296 ((Int.gcd (cS a.s a.x) (cS a.t a.y):Nat):Int).natAbs).length≤137438953472:=Nat.le_trans (fH (Nat.le_of_dvd (by omega) (Nat.gcd_dvd_right ..))) hyl
    have hgl:(dg 4294967296 ((Int.gcd (cS a.s a.x) (cS a.t a.y):Nat):Int).natAbs).length≤300000000000:=Nat.le_trans hgl9 (by omega)
    refine ca (Xf (a:=⟨a.s,a.x⟩) (b:=⟨a.t,a.y⟩) ((Dt ha).g) ((qQ ha).g)) Wp ⟨aB rfl,aB rfl,rfl⟩ (kF ((Int.gcd (cS a.s a.x) (cS a.t a.y):Nat):Int)) ?_
    refine ca (yF) Lb rfl (kF 1) ?_
    refine ca (My (Zg.of (k:=((Int.gcd (cS a.s a.x) (cS a.t a.y):Nat):Int)) hgl) (Zg.of (k:=1) (by decide)) (by have h8:=Fz ((Int.gcd (cS a.s a.x) (cS a.t a.y):Nat):Int) 1;have h7:(dg 4294967296 (1:Int).natAbs).length=1:=rfl;omega)) vU ⟨aB rfl,aB rfl,rfl⟩ (.one (tv (.int .i64 (((Int.gcd (cS a.s a.x) (cS a.t a.y):Nat):Int)-1).sign))) ?_
    (iterate 3 refine o1 ?_);refine nl ?_;refine rt ?_
    exact en (.inl rfl) rfl (aT (cA _)) (by decide) (fun _=>trivial) (congrArg (fun b=>FV.one (tv (.bool b))) (by unfold cT;rw[h1,h2,decide_eq_true hpos,←AO];rfl))
   (iterate 8 refine eL ?_);refine o1 ?_;refine o1 ?_;refine nl ?_;refine rt ?_
   exact en (.inl rfl) rfl (aT (cA _)) (by decide) (fun _=>trivial) (congrArg (fun b=>FV.one (tv (.bool b))) (by unfold cT;rw[h1,h2,decide_eq_false (fun h9=>h3 (Gf.2 h9))];rfl))
  (iterate 4 refine eL ?_);refine o1 ?_;refine o1 ?_;(iterate 8 refine eL ?_);refine o1 ?_;refine o1 ?_;refine nl ?_;refine rt ?_
  exact en (.inl rfl) rfl (aT (cA _)) (by decide) (fun _=>trivial) (congrArg (fun b=>FV.one (tv (.bool b))) (by unfold cT;rw[h1,h2];rfl))
 (iterate 3 refine eL ?_);refine o1 ?_;refine o1 ?_;(iterate 4 refine eL ?_);refine o1 ?_;refine o1 ?_;(iterate 8 refine eL ?_);refine o1 ?_;refine o1 ?_;refine nl ?_;refine rt ?_
 exact en (.inl rfl) rfl (aT (cA _)) (by decide) (fun _=>trivial) (congrArg (fun b=>FV.one (tv (.bool b))) (by unfold cT;rw[h1];rfl))
theorem JE:FV.agg [tv (.bool false),.t (sU false []),tv (.bool (aF 1)),.t (sU false (dg 4294967296 (1:Int).natAbs))]=qF (.of 0):=rfl
theorem wM {a:Fr4}{p:Rat}(ha:Qn a p):aC false Tryz.prog 74 [] [qF a] (aM (qF (.of p))):=by
 refine bR Tryz.func74 rfl Tryz.ntmps74 rfl aA rfl fun N w c0 h0=>?_
 refine sq ?_;refine rl ?_;refine bx 0 ?_;refine al 1 ?_;refine nl ?_;refine sq ?_;refine sq ?_;refine rl ?_;refine ld ?_
 refine ca (Gg ha) Rx ⟨aB rfl,rfl⟩ (.one (tv (.bool (cT a.s a.x a.t a.y)))) ?_;refine WL.splitb (t:=4) rfl (fun h1=>?_) (fun h1=>?_)
 ·refine o1 ?_;refine nl ?_;refine fK rfl ?_;refine sk ?_;refine sq ?_;refine rl ?_;refine ld ?_;refine st ?_;refine nl ?_;refine rt ?_
  exact en (.inl rfl) rfl (aT (.agg (.cons (.id rfl) (.cons (.id rfl) (.cons (.id rfl) (.cons (.id rfl) .nil)))))) (by decide) (fun h=>by cases h) (by rw[ha.right h1];rfl)
 refine o1 ?_;refine nl ?_;refine mP rfl ?_;refine sq ?_;refine rl ?_;refine o1 ?_;refine ca (yF) Lb rfl (kF 1) ?_;refine o1 ?_;refine st ?_;refine nl ?_;refine rt ?_
 have hq9:=ha.wrong h1
 subst hq9;exact en (.inl rfl) rfl (aT (.agg (.cons (.id rfl) (.cons .nilf (.cons (.id rfl) (.cons (.id rfl) .nil)))))) (by decide) (fun h=>by cases h) JE
theorem AP {a:Fr4}{p:Rat}(ha:Qn a p):aC true Tryz.prog 34 [] [qF a] (aM (.one (tv (.int .i64 p.num.sign)))):=by
 refine bR Tryz.func34 rfl Tryz.ntmps34 rfl aA rfl fun N w c0 h0=>?_
 refine sq ?_;refine rl ?_;refine bx 0 ?_;refine o1 ?_;refine nl ?_;refine sq ?_;refine rl ?_;refine ld ?_;refine ca (wM ha) fE ⟨aB rfl,rfl⟩ (qF (.of p)) ?_;refine o1 ?_
 refine ca (lY (Zg.of (k:=p.num) (Nat.le_trans ha.sz.1 (by omega)))) sE ⟨aB rfl,rfl⟩ (.one (tv (.int .i64 p.num.sign))) ?_
 refine o1 ?_;refine nl ?_;refine rt ?_;exact en (.inl rfl) rfl (aT (cA _)) (by decide) (fun _=>trivial) rfl
theorem FI {a:Fr4}{p:Rat}(ha:Qn a p):aC true Tryz.prog 90 [] [qF a] (aM (qO (-p))):=by
 refine bR Tryz.func90 rfl Tryz.ntmps90 rfl aA rfl fun N w c0 h0=>?_
 refine sq ?_;refine rl ?_;refine bx 0 ?_;refine al 1 ?_;refine nl ?_;refine sq ?_;refine rl ?_;refine ld ?_;refine ca (wM ha) fE ⟨aB rfl,rfl⟩ (qF (.of p)) ?_;refine st ?_
 refine nl ?_;refine sq ?_;refine rd [0,1] (fun i=>[7].contains i) mixed ?_
 refine dv 0 ?_;refine aU 1 ?_;refine dv 3 ?_;refine aU 4 ?_;refine iF 2 2 rfl (Lj (Zg.of (k:=p.num) (Nat.le_trans ha.sz.1 (by omega)))) St ⟨aB rfl,rfl⟩ ?_
 refine iF 3 5 rfl (JA (jQ ha.sz)) IK ⟨aB rfl,rfl⟩ ?_;refine df 6 ?_;refine dst 7 ?_;refine aN ?_;refine rt ?_;have hda:(((p.den:Int).natAbs:Nat):Int).natAbs=p.den:=rfl
 exact en (.inl rfl) rfl (aT (.agg (.cons (.id rfl) (.cons (.sl (trs:=aJ (dg 4294967296 (-(p.num)).natAbs)) rfl rfl (aW _) (aP _)) (.cons (.id rfl) (.cons (.sl (trs:=aJ (dg 4294967296 (((p.den:Int).natAbs:Nat):Int).natAbs)) rfl rfl (aW _) (aP _)) .nil)))))) (by decide) (fun _=>pS (⟨_,dg 4294967296 (-(p.num)).natAbs,_,dg 4294967296 (((p.den:Int).natAbs:Nat):Int).natAbs⟩:Fr4)) (show FV.agg [tv (.bool (aF (-(p.num)))),.t (sU true (dg 4294967296 (-(p.num)).natAbs)),tv (.bool (aF (((p.den:Int).natAbs:Nat):Int))),.t (sU true (dg 4294967296 (((p.den:Int).natAbs:Nat):Int).natAbs))]=qO (-p) from Cj (q:=-p) (by simp) (by simp))
theorem Ve {n:Int}(h1:-9223372036854775808≤n) (h2:n≤9223372036854775807):aC true Tryz.prog 45 [] [.one (tv (.int .i64 n))] (aM (qO ((n:Int):Rat))):=by
 refine bR Tryz.func45 rfl Tryz.ntmps45 rfl aA rfl fun N w c0 h0=>?_
 refine sq ?_;refine rl ?_;refine al 0 ?_;refine nl ?_;refine sq ?_;refine rl ?_;refine o1 ?_;refine fG 1 (jE (n:=n) h1 h2) jF ⟨a1 rfl,rfl⟩ ?_;refine fG 2 (yF) Lb rfl ?_
 refine o1 ?_;refine st ?_;refine nl ?_;refine rt ?_
 exact en (.inl rfl) rfl (aT (.agg (.cons (.id rfl) (.cons (.sl (trs:=aJ (dg 4294967296 n.natAbs)) rfl rfl (aW _) (aP _)) (.cons (.id rfl) (.cons (.sl (trs:=aJ (dg 4294967296 (1:Int).natAbs)) rfl rfl (aW _) (aP _)) .nil)))))) (by decide) (fun _=>pS (⟨_,dg 4294967296 n.natAbs,_,dg 4294967296 (1:Int).natAbs⟩:Fr4)) (Cj (q:=((n:Int):Rat)) (n:=n) (d:=1) (by simp) (by simp))
theorem sF (k:Int):iE (kO k):=by
 simp only[iE,kO,mH,List.map_cons,List.map_nil,iL,oL,sU,kU]
 exact⟨trivial,.inl ⟨trivial,eC _⟩,trivial⟩
section
variable {f:FuncId}{args:List FV}
end
section
variable {a b:Fr4}{p q:Rat}{x y:Zi}{k k':Int}
theorem GI:aC true Tryz.prog 84 [] [] (aM (kO 1)):=yF
theorem pE (h:Zn x k) (h':Zn y k'):aC true Tryz.prog 85 [] [gF x,gF y] (aM (kO (k*k'))):=Ci h.g h'.g
theorem sG (h:Zn x k) (h':Zn y k'):aC true Tryz.prog 23 [] [gF x,gF y] (aM (.one (tv (.int .i64 (k-k').sign)))):=My h.g h'.g (by have:=Fz k k';have:=h.len;have:=h'.len;omega)
theorem pJ (h:Qn a p):aC true Tryz.prog 34 [] [qF a] (aM (.one (tv (.int .i64 p.num.sign)))):=AP h
theorem Lc (hp:Sz 68719476736 p) (hq:Sz 68719476736 q):aC true Tryz.prog 82 [] [qF (.of p),qF (.of q)] (aM (qO (p+q))):=JB hp hq
theorem Da (ha:a.ok):aC true Tryz.prog 89 [] [qF a] (aM (.one (tv (.bool (cT a.s a.x a.t a.y))))):=Gg ⟨ha,rfl⟩
theorem lH {z:Int}(h1:-9223372036854775808≤z) (h2:z≤9223372036854775807):aC true Tryz.prog 45 [] [.one (tv (.int .i64 z))] (aM (qO (z:Rat))):=Ve h1 h2
theorem Nm (hp:Sz 68719476736 p):aC true Tryz.prog 82 [] [qF (.of p),qF (.of ((0:Int):Rat))] (aM (qO p)):=by
 have:=Lc hp ((kK (z:=0) (by omega) (by omega)).mono (by omega))
 rwa[show p+((0:Int):Rat)=p from Rat.add_zero p]at this
end
def bN (x:Rat):Rat:=eW x [0]
theorem yG (x:Rat):bN x=if x<0 then 0 else x:=rfl
theorem Ox (x:Rat):0≤bN x:=by rw[yG];split <;> grind
theorem Eb {x:Rat}(h:0≤x):bN x=x:=by rw[yG];split <;> grind
section
variable {x y:Zi}{k k':Int}
theorem Ap (h:Zn x k) (h':Zn y k') (h0:k'≠0):aC true Tryz.prog 86 [] [gF x,gF y] (aM (qO (Rat.divInt k k'))):=tS h.g h'.g h0
theorem GR {a:Fr4}{p:Rat}(h:Qn a p):aC true Tryz.prog 90 [] [qF a] (aM (qO (-p))):=FI h
theorem Vq (p q:Rat):Rat.divInt (p.num*q.num) ((p.den:Int)*(q.den:Int))=p*q:=by
 rw[←Rat.divInt_mul_divInt,Rat.num_divInt_den,Rat.num_divInt_den]
theorem Nz {L M:Nat}{p q:Rat}(hp:Sz L p) (hq:Sz M q):Sz (L+M) (p*q):=by
 rw[←Vq p q]
 have h5:=iN (Int.mul_pos (show(0:Int)<p.den by have:=p.den_pos;omega) (show(0:Int)<q.den by have:=q.den_pos;omega)) (iZ hp.1 hq.1) (iZ (kZ hp) (kZ hq))
 exact⟨h5.1,h5.2⟩
theorem Aq (p:Rat) (l:List Rat) (q:Rat):eW p (l++[q])=if eW p l<q then q else eW p l:=by
 unfold eW
 rw[List.foldl_append]
 rfl
theorem Ia {L:Nat}{p:Rat}(h:Sz L p) (hL:2≤L):Sz L (bN p):=by
 rw[yG]
 split
 ·exact(kK (z:=0) (by omega) (by omega)).mono (by omega)
 exact h
theorem den_nz (p q:Rat):(p.den:Int)*(q.den:Int)≠0:=by
 have h1:=p.den_pos
 have h2:=q.den_pos
 exact Int.ne_of_gt (Int.mul_pos (by omega) (by omega))
theorem Gh {L:Nat}{k:Int}(h:jD L k):jD L (-k):=by
 unfold jD
 rw[Int.natAbs_neg]
 exact h
theorem yH {n:Int}(h1:-9223372036854775808≤n) (h2:n≤9223372036854775807):jD 2 n:=kN h1 h2
theorem HH {n d:Int}(h1:-9223372036854775808≤n) (h2:n≤9223372036854775807) (h3:-9223372036854775808≤d) (h4:d≤9223372036854775807):Sz 2 (Rat.divInt n d):=by
 rcases Int.lt_trichotomy d 0 with hd | hd | hd
 ·rw[←Rat.neg_divInt_neg]
  obtain⟨e1,e2⟩:=iN (a:=-n) (b:=-d) (L:=2) (M:=2) (by omega) (Gh (yH h1 h2)) (Gh (yH h3 h4))
  exact⟨e1,e2⟩
 ·subst hd
  rw[Rat.divInt_zero]
  exact⟨Nat.zero_le _,by decide⟩
 obtain⟨e1,e2⟩:=iN (a:=n) (b:=d) (L:=2) (M:=2) hd (yH h1 h2) (yH h3 h4)
 exact⟨e1,e2⟩
end
def fl (q:Rat):Int:=q.floor
def fc (q:Rat):Rat:=q-((fl q:Int):Rat)
theorem tZ (q:Rat):q.num.fdiv (q.den:Int)=fl q:=by
 unfold fl
 rw[Rat.floor_def,Int.fdiv_eq_ediv_of_nonneg _ (by omega)]
theorem oO (q:Rat):0≤fc q:=by
 have:=Rat.floor_le q
 unfold fc fl
 grind
theorem Ck (q:Rat):fc q<1:=by
 have:=Rat.lt_floor_add_one q
 unfold fc fl
 rw[Rat.intCast_add]at this
 have h1:((1:Int):Rat)=1:=rfl
 grind
theorem Xg (q:Rat):q*(q.den:Rat)=(q.num:Rat):=by
 have h:=Rat.num_divInt_den q
 have h2:Rat.divInt q.num (q.den:Int)=(q.num:Rat)/((q.den:Int):Rat):=Rat.divInt_eq_div _ _
 have h3:((q.den:Int):Rat)=(q.den:Rat):=rfl
 have h4:(q.den:Rat)≠0:=by
  have:=q.den_pos
  intro h
  have:q.den=0:=by exact_mod_cast h
  omega
 rw[h2,h3]at h
 have h6:(q.num:Rat)/(q.den:Rat)*(q.den:Rat)=(q.num:Rat):=Rat.div_mul_cancel h4
 rwa[h]at h6
theorem oS (a b:Int) (hb:b≠0):Rat.divInt a b*(b:Rat)=(a:Rat):=by
 rw[Rat.divInt_eq_div,Rat.div_def,Rat.mul_assoc,Rat.inv_mul_cancel _ (by simpa using hb),Rat.mul_one]
theorem AQ {a b c:Rat}(hc:c≠0) (h:a*c=b*c):a=b:=by
 have h2:=congrArg (· *c⁻¹) h
 simpa only[Rat.mul_assoc,Rat.mul_inv_cancel c hc,Rat.mul_one]using h2
theorem Np (q:Rat):Rat.divInt (q.num.fmod (q.den:Int)) (q.den:Int)=fc q:=by
 have hd:(q.den:Int)≠0:=by have:=q.den_nz;omega
 have hd2:(((q.den:Nat):Int):Rat)≠0:=by simpa using hd
 refine AQ hd2 ?_
 rw[oS _ _ hd]
 have h1:q.num.fmod (q.den:Int)=q.num-(q.den:Int)*fl q:=by
  have:=Int.fmod_add_mul_fdiv q.num (q.den:Int)
  rw[tZ]at this
  omega
 rw[h1,Rat.intCast_sub,Rat.intCast_mul,←Xg q,fc]
 have h2:(((q.den:Nat):Int):Rat)=(q.den:Rat):=rfl
 rw[h2]
 grind
theorem Gi (z:Int):fl (z:Rat)=z:=Rat.floor_intCast z
theorem Kj {q:Rat}(h:q.den=1):((q.num:Int):Rat)=q:=by
 have:=Xg q
 rw[h]at this
 rw[←this]
 simp
theorem Oj {q:Rat}(h:q.den=1):fl q=q.num:=by
 have:=Gi q.num
 rwa[Kj h]at this
theorem AS {p q:Rat}(h:p≤q):fl p≤fl q:=Rat.floor_monotone h
theorem Vs (p q:Rat):Rat.divInt (p.num*(q.den:Int)) ((p.den:Int)*q.num)=p/q:=by
 have e:=Rat.num_divInt_den q
 have e2:=Rat.num_divInt_den p
 conv=>rhs;rw[←e,←e2]
 rw[Rat.div_def,Rat.inv_divInt,Rat.divInt_mul_divInt]
theorem dK (a:Rat) (l:List Rat):aE (a::l)=a+aE l:=by
 have h:∀(l:List Rat) (x:Rat),l.foldl (· + ·) x=x+l.foldl (· + ·) 0:=by
  intro l
  induction l with
  | nil=>intro x;show x=x+0;grind
  | cons b l ih=>intro x;rw[List.foldl_cons,List.foldl_cons,ih (x+b),ih (0+b)];grind
 show(a::l).foldl (· + ·) 0=_
 rw[List.foldl_cons,h]
 show _=a+l.foldl (· + ·) 0
 grind
theorem pP:aE []=0:=rfl
theorem AT {l l':List Rat}(h:l.Perm l'):aE l=aE l':=by
 induction h with
 | nil=>rfl
 | cons x _ ih=>rw[dK,dK,ih]
 | swap x y l=>simp only[dK];grind
 | trans _ _ ih ih2=>rw[ih,ih2]
theorem mE {l:List Rat}(h:∀x∈l,0≤x):0≤aE l:=by
 induction l with
 | nil=>exact Rat.le_refl
 | cons a l ih=>
  have h1:=ih fun x hx=>h x (List.mem_cons_of_mem _ hx)
  have h2:=h a (List.mem_cons_self ..)
  rw[dK]
  grind
theorem FJ (l:List Rat):aE (l.map fun x=>-x)=-aE l:=by
 induction l with
 | nil=>simp[pP]
 | cons a l ih=>rw[List.map_cons,dK,dK,ih];grind
def gZ (l:List Int):Int:=l.foldr (· + ·) 0
theorem gU (a:Int) (l:List Int):gZ (a::l)=a+gZ l:=rfl
theorem Gj (l m:List Int):gZ (l++m)=gZ l+gZ m:=by
 induction l with
 | nil=>simp[gZ]
 | cons a l ih=>rw[List.cons_append,gU,gU,ih];omega
theorem Tk (l:List Int):gZ (l.map fun x=>-x)=-gZ l:=by
 induction l with
 | nil=>rfl
 | cons a l ih=>rw[List.map_cons,gU,gU,ih];omega
theorem Vf (l:List Rat):aE l=((gZ (l.map fl):Int):Rat)+aE (l.map fc):=by
 induction l with
 | nil=>
  show(0:Rat)=((0:Int):Rat)+0
  have:((0:Int):Rat)=0:=rfl
  grind
 | cons a l ih=>
  rw[List.map_cons,List.map_cons,dK,dK,gU,ih,Rat.intCast_add]
  unfold fc
  grind
def jM (l:List Rat):Int:=(aE l).num-gZ (l.map fl)
theorem Ah {l:List Rat}(h:(aE l).den=1):((jM l:Int):Rat)=aE (l.map fc):=by
 have h1:=Vf l
 have h2:=Kj h
 unfold jM
 rw[Rat.intCast_sub,h2]
 grind
theorem kM {l:List Rat}(h:(aE l).den=1):0≤jM l:=by
 have h1:=Ah h
 have h2:=mE (l:=l.map fc) fun x hx=>by
  obtain⟨y,_,rfl⟩:=List.mem_map.1 hx
  exact oO y
 rw[←h1]at h2
 have h3:((0:Int):Rat)≤((jM l:Int):Rat):=h2
 exact Rat.intCast_le_intCast.1 h3
theorem Rf:∀{l:List Rat},l≠[]→aE (l.map fc)<(l.length:Rat)
 | [],h=>absurd rfl h
 | [a],_=>by
  have:=Ck a
  rw[List.map_cons,List.map_nil,dK,pP]
  show fc a+0<((1:Nat):Rat)
  have h1:((1:Nat):Rat)=1:=rfl
  rw[h1]
  grind
 | a::b::l,_=>by
  have h1:=Rf (l:=b::l) (by simp)
  have h2:=Ck a
  rw[List.map_cons,dK,List.length_cons]
  rw[Rat.natCast_add]
  have h3:((1:Nat):Rat)=1:=rfl
  grind
theorem pN {l:List Rat}(h:(aE l).den=1):jM l≤(l.length:Int):=by
 have h1:=Ah h
 by_cases hl:l=[]
 ·subst hl
  exact Int.le_of_eq rfl
 have h2:=Rf hl
 rw[←h1]at h2
 have h3:((jM l:Int):Rat)<(((l.length:Nat):Int):Rat):=h2
 have:=Rat.intCast_lt_intCast.1 h3
 omega
def gI (lt:Nat→Nat→Bool) (x:Nat):List Nat→List Nat
 | []=>[x]
 | y::l=>if lt x y then y::gI lt x l else x::y::l
def jK (lt:Nat→Nat→Bool) (l:List Nat):List Nat:=l.foldl (fun a x=>gI lt x a) []
def gX (lt:Nat→Nat→Bool) (l:List Nat):List Nat:=(jK lt l).reverse
theorem tT (lt:Nat→Nat→Bool) (x:Nat):∀l:List Nat,(gI lt x l).Perm (x::l)
 | []=>.refl _
 | y::l=>by
  unfold gI
  split
  ·exact((tT lt x l).cons y).trans (.swap x y l)
  exact .refl _
theorem Sb (lt:Nat→Nat→Bool) (l:List Nat) (x:Nat):jK lt (l++[x])=gI lt x (jK lt l):=by simp[jK]
theorem Dc (lt:Nat→Nat→Bool) (l:List Nat):(jK lt l).Perm l:=by
 have h:∀(l a:List Nat),(l.foldl (fun a x=>gI lt x a) a).Perm (a++l):=by
  intro l
  induction l with
  | nil=>intro a;simp
  | cons x l ih=>
   intro a
   rw[List.foldl_cons]
   refine(ih _).trans (((tT lt x a).append_right l).trans ?_)
   rw[List.cons_append]
   exact List.perm_middle.symm
 exact(h l []).trans (by simp)
theorem Mz (lt:Nat→Nat→Bool) (l:List Nat):(gX lt l).Perm l:=(List.reverse_perm _).trans (Dc lt l)
def fT (f:Nat→Rat) (i k:Nat):Bool:=decide (f k<f i)||(decide (f k=f i)&&decide (i<k))
section
variable {f:Nat→Rat}{x y z:Nat}
theorem qH:fT f x y=true↔f y<f x∨(f y=f x∧x<y):=by simp[fT]
theorem Gk:fT f x y=false↔f x≤f y∧(f y=f x→y≤x):=by
 have h:fT f x y=false↔¬fT f x y=true:=by simp
 rw[h,qH]
 constructor
 ·intro h
  exact⟨by grind,fun e=>by rcases Nat.lt_or_ge x y with h9 | h9;exact absurd (Or.inr ⟨e,h9⟩) h;exact h9⟩
 rintro⟨h1,h2⟩ (h3 | ⟨h3,h4⟩)
 ·grind
 have:=h2 h3
 omega
theorem Gl (h:fT f x y=true):fT f y x=false:=by
 rw[qH]at h
 rw[Gk]
 rcases h with h | ⟨h,h2⟩
 ·exact⟨by grind,fun e=>by grind⟩
 exact⟨by grind,fun _=>by omega⟩
theorem FK (h:fT f x y=false) (h2:fT f y z=false):fT f x z=false:=by
 rw[Gk]at h h2⊢
 refine⟨by grind,fun e=>?_⟩
 have h3:f y=f x:=by grind
 have h4:f z=f y:=by grind
 have:=h.2 h3
 have:=h2.2 h4
 omega
theorem AU (h:fT f x y=false) (hn:x≠y):fT f y x=true:=by
 rw[Gk]at h
 rw[qH]
 by_cases e:f y=f x
 ·have:=h.2 e
  exact .inr ⟨e.symm,by omega⟩
 exact .inl (by grind)
end
theorem Kk (f:Nat→Rat) (x:Nat):∀l:List Nat,l.Pairwise (fun a b=>fT f a b=false)→(gI (fT f) x l).Pairwise (fun a b=>fT f a b=false)
 | [],_=>List.pairwise_singleton _ _
 | y::l,h=>by
  have h1:=List.pairwise_cons.1 h
  unfold gI
  split
  ·rename_i hx
   refine List.pairwise_cons.2 ⟨fun z hz=>?_,Kk f x l h1.2⟩
   rcases List.mem_cons.1 ((tT _ x l).mem_iff.1 hz)with rfl | hz
   ·exact Gl hx
   exact h1.1 z hz
  rename_i hx
  have hx:fT f x y=false:=by simpa using hx
  refine List.pairwise_cons.2 ⟨fun z hz=>?_,h⟩
  rcases List.mem_cons.1 hz with rfl | hz
  ·exact hx
  exact FK hx (h1.1 z hz)
theorem FL (f:Nat→Rat) (l:List Nat):(jK (fT f) l).Pairwise (fun a b=>fT f a b=false):=by
 have h:∀(l a:List Nat),a.Pairwise (fun a b=>fT f a b=false)→(l.foldl (fun a x=>gI (fT f) x a) a).Pairwise (fun a b=>fT f a b=false):=by
  intro l
  induction l with
  | nil=>intro a h;exact h
  | cons x l ih=>intro a h;exact ih _ (Kk f x a h)
 exact h l [] List.Pairwise.nil
def fD (f:Nat→Rat) (n:Nat):List Nat:=gX (fT f) (List.range n)
theorem wX {l:List Nat}{k:Nat}(h:k<l.length):l[k]? =some (nth l k):=by simp[nth,h]
section
variable {f:Nat→Rat}{n i s t:Nat}
theorem rR:(fD f n).Perm (List.range n):=Mz _ _
theorem fW:(fD f n).length=n:=by rw[rR.length_eq,List.length_range]
theorem Rg:(fD f n).Nodup:=rR.nodup_iff.2 List.nodup_range
theorem Km:i∈fD f n↔i<n:=by rw[rR.mem_iff,List.mem_range]
theorem jB (h:t<n):(fD f n)[t]? =some (nth (fD f n) t):=wX (by rw[fW];exact h)
theorem Dj (h:t<n):nth (fD f n) t<n:=Km.1 (List.mem_of_getElem? (jB h))
theorem Kn (h:s<n) (h2:t<n) (e:nth (fD f n) s=nth (fD f n) t):s=t:=by
 have h3:(fD f n)[s]? =(fD f n)[t]? :=by rw[jB h,jB h2,e]
 exact(List.getElem?_inj (by rw[fW];exact h) Rg).1 h3
theorem FM:(fD f n).Pairwise (fun a b=>fT f b a=false):=List.pairwise_reverse.2 (FL f _)
theorem Ko (h:s<t) (ht:t<n):fT f (nth (fD f n) s) (nth (fD f n) t)=true:=by
 have h1:=(List.pairwise_iff_getElem.1 (FM (f:=f) (n:=n))) s t (by rw[fW];omega) (by rw[fW];omega) h
 have e1:(fD f n)[s]'(by rw[fW];omega)=nth (fD f n) s:=by
  have:=jB (f:=f) (n:=n) (t:=s) (by omega)
  rw[List.getElem?_eq_getElem (by rw[fW];omega)]at this
  exact Option.some.inj this
 have e2:(fD f n)[t]'(by rw[fW];omega)=nth (fD f n) t:=by
  have:=jB (f:=f) (n:=n) (t:=t) (by omega)
  rw[List.getElem?_eq_getElem (by rw[fW];omega)]at this
  exact Option.some.inj this
 rw[e1,e2]at h1
 exact AU h1 fun e=>by have:=Kn (f:=f) (n:=n) ht (by omega) e;omega
theorem FN (h:i<n):∃t,t<n∧nth (fD f n) t=i:=by
 obtain⟨t,ht⟩:=List.mem_iff_getElem?.1 (Km.2 h:i∈fD f n)
 have h1:=(List.getElem?_eq_some_iff.1 ht).1
 rw[fW]at h1
 refine⟨t,h1,?_⟩
 rw[jB h1]at ht
 exact Option.some.inj ht
theorem lR (ht:t≤n):i∈(fD f n).take t↔∃s,s<t∧nth (fD f n) s=i:=by
 constructor
 ·intro h
  obtain⟨s,hs⟩:=List.mem_iff_getElem?.1 h
  rw[List.getElem?_take]at hs
  split at hs
  ·rename_i h2
   rw[jB (by omega)]at hs
   exact⟨s,h2,Option.some.inj hs⟩
  cases hs
 rintro⟨s,h1,rfl⟩
 refine List.mem_iff_getElem?.2 ⟨s,?_⟩
 rw[List.getElem?_take,if_pos h1,jB (by omega)]
theorem AW (ht:t<n):nth (fD f n) t∉(fD f n).take t:=by
 rw[lR (by omega)]
 rintro⟨s,h1,h2⟩
 have:=Kn (f:=f) (n:=n) (by omega) ht h2
 omega
theorem AX (ht:t<n):i∈(fD f n).take (t+1)↔i∈(fD f n).take t∨i=nth (fD f n) t:=by
 rw[lR (by omega),lR (by omega)]
 constructor
 ·rintro⟨s,h1,h2⟩
  rcases Nat.lt_succ_iff_lt_or_eq.1 h1 with h3 | rfl
  ·exact .inl ⟨s,h3,h2⟩
  exact .inr h2.symm
 rintro(⟨s,h1,h2⟩ | rfl)
 ·exact⟨s,by omega,h2⟩
 exact⟨t,by omega,rfl⟩
variable {b:Int}
end
def aO (l:List Rat) (k:Nat):Rat:=l.getD k 0
theorem gY {l:List Rat}{k:Nat}(h:k<l.length):l[k]? =some (aO l k):=by simp[aO,h]
theorem iH {l:List Rat}{k:Nat}(h:k<l.length):aO l k∈l:=List.mem_of_getElem? (gY h)
theorem Ed {l:List Rat}{g:Rat→Rat}{k:Nat}(h:k<l.length):aO (l.map g) k=g (aO l k):=by simp[aO,h]
def aV (l:List Int) (k:Nat):Int:=l.getD k 0
theorem jU {l:List Int}{k:Nat}(h:k<l.length):l[k]? =some (aV l k):=by simp[aV,h]
theorem nO {l:List Int}{k:Nat}(h:k<l.length):aV l k∈l:=List.mem_of_getElem? (jU h)
def eV (l:List Rat) (i:Nat):Rat:=fc (aO l i)
def cM (l:List Rat):List Nat:=fD (eV l) l.length
def fC (l:List Rat) (t:Nat):List Int:=(List.range l.length).map fun i=>fl (aO l i)+if i∈(cM l).take t then 1 else 0
section
variable {l:List Rat}{i k t:Nat}
theorem iU:(fC l t).length=l.length:=by simp[fC]
theorem kB (h:i<l.length):aV (fC l t) i=fl (aO l i)+if i∈(cM l).take t then 1 else 0:=by simp[fC,aV,h]
theorem Rh (l:List Rat) (g:Rat→Int):(List.range l.length).map (fun i=>g (aO l i))=l.map g:=by
 apply List.ext_getElem?
 intro i
 by_cases h:i<l.length
 ·simp[h,aO]
 simp[h]
theorem Na (l:List Rat) (g:Rat→Rat):(List.range l.length).map (fun i=>g (aO l i))=l.map g:=by
 apply List.ext_getElem?
 intro i
 by_cases h:i<l.length
 ·simp[h,aO]
 simp[h]
theorem Di:fC l 0=l.map fl:=by
 rw[←Rh]
 unfold fC
 refine List.map_congr_left fun i _=>?_
 rw[List.take_zero,if_neg (List.not_mem_nil)]
 omega
theorem Dk (h:t<l.length):(fC l t).set (nth (cM l) t) (aV (fC l t) (nth (cM l) t)+1)=fC l (t+1):=by
 apply List.ext_getElem?
 intro i
 have hlt:nth (cM l) t<l.length:=Dj (f:=eV l) h
 rw[List.getElem?_set,iU]
 by_cases hi:i<l.length
 ·rw[jU (l:=fC l (t+1)) (by rw[iU];exact hi),kB hi]
  have h1:i∈(cM l).take (t+1)↔i∈(cM l).take t∨i=nth (cM l) t:=AX (f:=eV l) (i:=i) h
  by_cases e:nth (cM l) t=i
  ·rw[if_pos e,if_pos (by omega)]
   subst e
   rw[kB hlt,if_pos (h1.2 (.inr rfl)),if_neg (show nth (cM l) t∉(cM l).take t from AW h)]
   congr 1
   omega
  rw[if_neg e,jU (by rw[iU];exact hi),kB hi]
  by_cases h2:i∈(cM l).take t
  ·rw[if_pos h2,if_pos (h1.2 (.inl h2))]
  rw[if_neg h2,if_neg]
  intro h3
  rcases h1.1 h3 with h4 | h4
  ·exact h2 h4
  exact e h4.symm
 rw[if_neg (fun e=>by omega),List.getElem?_eq_none (by rw[iU];omega),List.getElem?_eq_none (by rw[iU];omega)]
theorem Vg {z:List Int}{i:Nat}(h:i<z.length):gZ (z.set i (aV z i+1))=gZ z+1:=by
 have h1:z=z.take i++aV z i::z.drop (i+1):=by
  have:=jU h
  rw[List.getElem?_eq_getElem h]at this
  have e:=Option.some.inj this
  rw[←e,List.getElem_cons_drop,List.take_append_drop]
 have h2:z.set i (aV z i+1)=z.take i++(aV z i+1)::z.drop (i+1):=by rw[List.set_eq_take_append_cons_drop,if_pos h]
 have h3:=congrArg gZ h1
 rw[h2,Gj,gU]
 rw[Gj,gU]at h3
 omega
theorem Kq:∀t,t≤l.length→gZ (fC l t)=gZ (l.map fl)+t
 | 0,_=>by rw[Di];omega
 | t+1,h=>by
  rw[←Dk (by omega),Vg (by rw[iU];exact Dj (by omega)),Kq t (by omega)]
  omega
theorem AY:aE ((cM l).map (eV l))=aE (l.map fc):=by
 rw[←Na l fc]
 exact AT (rR.map _)
theorem FO (l m:List Rat):aE (l++m)=aE l+aE m:=by
 induction l with
 | nil=>rw[List.nil_append,pP];grind
 | cons a l ih=>rw[List.cons_append,dK,dK,ih];grind
theorem FP {l:List Rat}(h:∀x∈l,x≤1):aE l≤(l.length:Rat):=by
 induction l with
 | nil=>rw[pP];exact Rat.le_refl
 | cons a l ih=>
  have h1:=ih fun x hx=>h x (List.mem_cons_of_mem _ hx)
  have h2:=h a (List.mem_cons_self ..)
  rw[dK,List.length_cons,Rat.natCast_add]
  have h3:((1:Nat):Rat)=1:=rfl
  grind
theorem Io {l:List Rat}(h:∀x∈l,x=0):aE l=0:=by
 induction l with
 | nil=>rfl
 | cons a l ih=>
  rw[dK,ih fun x hx=>h x (List.mem_cons_of_mem _ hx),h a (List.mem_cons_self ..)]
  grind
theorem AZ {L:Nat}(hL:(L:Rat)=aE (l.map fc)) (hn:L≤l.length) (h:i∈(cM l).take L):0<eV l i:=by
 obtain⟨t,h1,rfl⟩:=(lR hn).1 h
 rcases Decidable.em (0<eV l (nth (fD (eV l) l.length) t))with h2 | h2
 ·exact h2
 exfalso
 have h3:eV l (nth (fD (eV l) l.length) t)=0:=by
  have:0≤eV l (nth (fD (eV l) l.length) t):=oO _
  grind
 have h4:∀x∈((cM l).drop t).map (eV l),x=0:=by
  intro x hx
  obtain⟨j,hj,rfl⟩:=List.mem_map.1 hx
  obtain⟨s,hs⟩:=List.mem_iff_getElem?.1 hj
  rw[List.getElem?_drop]at hs
  have hlt:t+s<l.length:=by
   have:=(List.getElem?_eq_some_iff.1 hs).1
   unfold cM at this
   rw[fW]at this
   exact this
  have e:=(jB (f:=eV l) hlt).symm.trans hs
  have e:=Option.some.inj e
  subst e
  have h5:0≤eV l (nth (fD (eV l) l.length) (t+s)):=oO _
  by_cases hs0:s=0
  ·subst hs0
   exact h3
  have h6:=qH.1 (Ko (f:=eV l) (s:=t) (t:=t+s) (by omega) hlt)
  grind
 have h5:aE ((cM l).map (eV l))≤(t:Rat):=by
  conv=>lhs;rw[←List.take_append_drop t (cM l),List.map_append,FO,Io h4]
  have h6:=FP (l:=((cM l).take t).map (eV l)) fun x hx=>by
   obtain⟨j,_,rfl⟩:=List.mem_map.1 hx
   have:=Ck (aO l j)
   unfold eV
   grind
  have h7:(((cM l).take t).map (eV l)).length=t:=by
   unfold cM
   rw[List.length_map,List.length_take,fW]
   omega
  rw[h7]at h6
  grind
 rw[AY,←hL]at h5
 have:L≤t:=Rat.natCast_le_natCast.1 h5
 omega
theorem Vh {L:Nat}(hn:L≤l.length) (hi:i<l.length) (hk:k<l.length) (h:aO l k<aO l i):aV (fC l L) k≤aV (fC l L) i:=by
 rw[kB hi,kB hk]
 have h1:=AS (show aO l k≤aO l i by grind)
 by_cases e:fl (aO l k)=fl (aO l i)
 ·have h2:eV l k<eV l i:=by
   unfold eV fc
   rw[e]
   grind
  have h3:fT (eV l) i k=true:=qH.2 (.inl h2)
  by_cases h4:k∈(cM l).take L
  ·obtain⟨s,h5,h6⟩:=(lR hn).1 h4
   obtain⟨r,h7,h8⟩:=FN (f:=eV l) hi
   have h9:i∈(cM l).take L:=by
    refine(lR hn).2 ⟨r,?_,h8⟩
    rcases Nat.lt_or_ge s r with h9 | h9
    ·have h10:=Gl (Ko (f:=eV l) h9 h7)
     rw[h6,h8,h3]at h10
     cases h10
    omega
   rw[if_pos h4,if_pos h9]
   omega
  rw[if_neg h4]
  split <;> omega
 split <;> split <;> omega
end
def iB (l:List Rat):List Int:=fC l (jM l).toNat
def aY (l:List Rat):List Int:=
 if(aE l).den=1 then
  if aE l<0 then(if(l.map fun x=>-x).any (fun x=>decide (x<0))then []else(iB (l.map fun x=>-x)).map fun x=>-x)
  else if l.any (fun x=>decide (x<0))then []else iB l
 else []
section
variable {l:List Rat}{i k:Nat}
theorem pO:(iB l).length=l.length:=iU
theorem Yv (h:(aE l).den=1):gZ (iB l)=(aE l).num:=by
 have h1:=kM h
 have h2:=pN h
 unfold iB
 rw[Kq _ (by omega)]
 unfold jM at*
 omega
theorem FQ (h:(aE l).den=1) (hi:i<l.length):aV (iB l) i=fl (aO l i)∨(aV (iB l) i=fl (aO l i)+1∧0<fc (aO l i)):=by
 have h1:=kM h
 have h2:=pN h
 unfold iB
 rw[kB hi]
 split
 ·rename_i h3
  refine .inr ⟨rfl,AZ (l:=l) ?_ (by omega) h3⟩
  rw[←Ah h]
  have e:(((jM l).toNat:Nat):Int)=jM l:=by omega
  conv=>rhs;rw[←e]
  rfl
 exact .inl (by omega)
theorem Tj (h:(aE l).den=1) (hi:i<l.length):aO l i-((aV (iB l) i:Int):Rat)<1∧-(aO l i-((aV (iB l) i:Int):Rat))<1∧(aO l i=0→aV (iB l) i=0):=by
 have h0:=oO (aO l i)
 have h1:=Ck (aO l i)
 have e1:((1:Int):Rat)=1:=rfl
 rcases FQ h hi with h2 | ⟨h2,h3⟩
 ·rw[h2]
  unfold fc at h0 h1
  refine⟨h1,by grind,fun e=>?_⟩
  rw[e]
  exact Gi 0
 rw[h2,Rat.intCast_add,e1]
 unfold fc at h0 h1 h3
 refine⟨by grind,by grind,fun e=>?_⟩
 rw[e]at h3
 have e2:fl 0=0:=Gi 0
 rw[e2]at h3
 have e3:((0:Int):Rat)=0:=rfl
 rw[e3]at h3
 grind
theorem Tl (h:(aE l).den=1) (hi:i<l.length) (hk:k<l.length) (hlt:aO l k<aO l i):aV (iB l) k≤aV (iB l) i:=Vh (by have:=pN h;omega) hi hk hlt
end
section
variable {l l':List Nat}{i j:Nat}
end
section
variable {x:Cx}{g:Nat→FV}{ob ob':List (Option Ob)}{cs:List Co}{ts:Array Value}{W:World}{T:List (Nat×TI)}{Q:Post}{ops:Array Oper}{rest:List Oper}{d:Nat}{ty:TypeId}{pos:String}{af:Array Edge}{gd:Option (Nat×Bool)}
theorem Le {late:Nat→Bool}{K fr:List Nat}{fuel:Nat}{listed:Array Bool}{t ky o t' z':Nat}{ti:TI}{a:Operand}{l:List AV}{v:AV}(i:Nat) (hx:l[o]? =some v) (k:WD x ops Q late K (d::fr) true fuel (listed.setIfInBounds i true) (aZ g d (.one v)) ob) (hT:bV x.P ttab:=by exact aA) (hi:ops[i]? =some ⟨some d,.load t a,ty,pos,af,gd⟩:=by rfl) (hw:bC ops x.n g gd=some true:=by rfl) (hti:bQ ttab t=some ti:=by rfl) (hlk:lk x.n g a=.one (.pt ky o):=by rfl) (ho:bT ob ky=some ⟨t',z',l⟩:=by rfl) (ha:ti.agg=false:=by rfl) (hr:mQ v=true:=by rfl):WO x ops Q late K fr true fuel listed i g ob:=
 Fa (v:=.one v) i hi rfl hw (Lw hT hti (by rw[hlk];exact Fd ho hx ha hr)) (by rintro _ _ ⟨rfl,rfl⟩;exact⟨rfl,fun _ _=>rfl⟩) (by rintro _ _ ⟨rfl,rfl⟩;exact k)
end
theorem oF {fresh:Bool}{x:Cx}{T:List (Nat×TI)}{rv:List ResultVar}{e:Exit}{g:Nat→FV}{ob:List (Option Ob)}{b b':Bool}(he:e=.ret∨e=.normal) (res:oW T x.n g ob rv=some [.one (tv (.bool b))]) (hb:b=b'):rF x T rv fresh [] (aM (.one (tv (.bool b')))) e g ob:=en he res (aT (cA _)) (by decide) (fun _=>trivial) (by rw[hb];rfl)
theorem HI {f:Nat→Bool}{k:Nat}{b:Bool}(h:∀j,j<k→f j=b) (h2:f k=b):∀j,j<k+1→f j=b:=fun j hj=>by
 rcases Nat.lt_succ_iff_lt_or_eq.1 hj with h9 | h9
 ·exact h j h9
 rw[h9];exact h2
theorem f0 {f:Nat→Bool}{b:Bool}:∀j,j<0→f j=b:=fun j hj=>absurd hj (Nat.not_lt_zero j)
theorem CH {k:IntKind}{a b:Int}(h:a=b):some (FV.one (tv (.int k a)))=some (FV.one (tv (.int k b))):=by rw[h]
section
variable {x:Cx}{g g':Nat→FV}{ob ob':List (Option Ob)}{cs cs':List Co}{ts ts':Array Value}{W W' W1:World}{Q:Post}{ops:Array Oper}{late:Nat→Bool}{K fr fr':List Nat}{on:Bool}{fuel:Nat}{listed listed':Array Bool}
end
section
variable {x:Cx}{g:Nat→FV}{ob ob':List (Option Ob)}{Q:Post}{ops:Array Oper}{rest:List Oper}{d:Nat}{op:Op}{ty:TypeId}{pos:String}{af:Array Edge}{gd:Option (Nat×Bool)}{C:Prop}{v:FV}{T:List (Nat×TI)}
theorem LM {fresh:Bool}{f:FuncId}{lent lent':List Lt}{al:List FV}{fst caps:List Tr}{r:FV}{os:List Ob}{cf:Operand}{aa:Array Operand}{ats:Array TypeId}(key:Nat) (K:List Nat) (args:List FV) (hc:lk x.n g cf=.one (.t (.f f fst caps))) (hS:aC fresh x.P f lent al (Rt lent' r)) (hf:CallOk x.P f) (hK:eT ob K K lent) (ha:nU x.n g K aa.toList args){ok:List (Option Ob)}(hbk:dX K lent' ok) (k:WL x ops rest (aZ g d v) (bM ob K ok++os.map some) Q) (hw:bC ops x.n g gd=some true:=by rfl) (hk:dQ ob key=true:=by rfl) (hnd:K.Nodup:=by decide) (hb:kE key r=some (v,os):=by rfl) (he:cX fst++args++cX caps=al:=by rfl):
  WL x ops (⟨some d,.call ⟨.value cf,aa,ats⟩,ty,pos,af,gd⟩::rest) g ob Q:=by
 subst he
 refine gJ (rL hS hf (Mj hc) hK hnd ha hk (by rintro _ _ ⟨rfl,rfl⟩ _;exact⟨by rw[hb];rfl,ok,hbk⟩)) hw ?_
 rintro _ _ ⟨l,r',v',os',ok',⟨rfl,rfl⟩,_,h,h9,rfl,rfl⟩
 obtain rfl:=tJ hbk h9
 rw[hb]at h
 injection h with h
 injection h with h1 h2
 subst h1 h2
 exact k
theorem GK {late:Nat→Bool}{K fr:List Nat}{fuel:Nat}{listed:Array Bool}{t key o:Nat}{ti:TI}{a b:Operand}(i:Nat) (hi:ops[i]? =some ⟨none,.store t a b,ty,pos,af,gd⟩) (hw:bC ops x.n g gd=some true) (hT:bV x.P T) (hti:bQ T t=some ti) (h:sY ti ob (lk x.n g b) (lk x.n g a)=some ob') (hlk:lk x.n g a=.one (.pt key o)) (hK:K.contains key=false) (hke:mU ob ob' K)
  (k:WD x ops Q late K fr true fuel (listed.setIfInBounds i true) g ob'):WO x ops Q late K fr true fuel listed i g ob:=by
 obtain⟨ky,hs,o2,hlk2⟩:=Cf (ty:=ty) (pos:=pos) (af:=af) (gd:=gd) hT hti h
 rw[hlk]at hlk2
 injection hlk2 with e
 injection e with e1 e2
 subst e1
 refine Wh i hi hw hs true (fun _=>⟨rfl,fun k hk hm=>?_⟩) (fun _=>rfl) (fun _ g' ob' hR=>?_) fun g' ob' hR=>?_
 ·rw[List.mem_singleton]at hm
  subst hm
  have:K.contains k=true:=by simpa using hk
  rw[hK]at this
  cases this
 ·obtain⟨rfl,rfl⟩:=hR
  exact⟨fun _ _=>rfl,gT hke⟩
 obtain⟨rfl,rfl⟩:=hR
 exact k
end
theorem Kr {n:Nat}(h:0<n):1≤(dg 4294967296 n).length:=by rw[rZ (by omega) (by omega)];simp
theorem Bt {L:Nat}{k:Int}(h:jD L k):jD L (-k):=by unfold jD at*;rwa[Int.natAbs_neg]
theorem vT (p:Rat):(dg 4294967296 (p.num.fmod (p.den:Int)).natAbs).length≤(dg 4294967296 p.den).length:=by
 refine fH ?_
 have h1:=Int.fmod_nonneg_of_pos p.num (show(0:Int)<p.den by have:=p.den_pos;omega)
 have h2:=Int.fmod_lt_of_pos p.num (show(0:Int)<p.den by have:=p.den_pos;omega)
 omega
theorem Dh (p:Rat):(dg 4294967296 (fl p).natAbs).length≤(dg 4294967296 p.num.natAbs).length:=by
 refine fH ?_
 rw[←tZ,Int.fdiv_eq_ediv_of_nonneg _ (by omega)]
 exact Int.natAbs_ediv_le_natAbs _ _
theorem DD {L M:Nat}{p q:Rat}(hp:Sz L p) (hq:Sz M q):Sz (L+M+1) (p/q):=by
 rw[←Vs p q]
 have hd:(0:Int)<p.den:=by have:=p.den_pos;omega
 have hd2:(0:Int)<q.den:=by have:=q.den_pos;omega
 by_cases h0:q.num=0
 ·rw[h0,Int.mul_zero,Rat.divInt_zero]
  exact(kK (z:=0) (by omega) (by omega)).mono (by
   have:=Kr q.den_pos
   have:=hq.2
   have:=Kr p.den_pos
   have:=hp.2
   omega)
 by_cases h1:0<q.num
 ·have h5:=iN (Int.mul_pos hd h1) (iZ hp.1 (kZ hq)) (iZ (kZ hp) hq.1)
  exact⟨Nat.le_trans h5.1 (by omega),Nat.le_trans h5.2 (by omega)⟩
 have e:Rat.divInt (p.num*(q.den:Int)) ((p.den:Int)*q.num)=Rat.divInt (-(p.num*(q.den:Int))) (-((p.den:Int)*q.num)):=(Rat.neg_divInt_neg _ _).symm
 rw[e]
 have h6:0< -((p.den:Int)*q.num):=by
  have:=Int.mul_pos hd (show 0< -q.num by omega)
  rw[Int.mul_neg]at this
  exact this
 have h5:=iN h6 (Bt (iZ hp.1 (kZ hq))) (Bt (iZ (kZ hp) hq.1))
 exact⟨Nat.le_trans h5.1 (by omega),Nat.le_trans h5.2 (by omega)⟩
theorem Vz {L:Nat}{p:Rat}(h:Sz L p):Sz (L+1) (fc p):=by
 rw[←Np]
 have h5:=iN (L:=L) (M:=L) (show(0:Int)<p.den by have:=p.den_pos;omega) (show jD L (p.num.fmod (p.den:Int)) from Nat.le_trans (vT p) h.2) (kZ h)
 exact⟨Nat.le_trans h5.1 (by omega),Nat.le_trans h5.2 (by omega)⟩
theorem Rw {p q:Rat}:((p.den:Int)*q.num=0)↔q=0:=by
 have h1:=p.den_pos
 constructor
 ·intro h
  rcases Int.mul_eq_zero.1 h with h2 | h2
  ·omega
  exact Rat.num_eq_zero.1 h2
 rintro rfl
 simp
def gD (l:List Rat):List Fr4:=l.map Fr4.of
theorem uA (l:List Rat):(gD l).map Fr4.q=l:=by
 unfold gD
 rw[List.map_map]
 exact(List.map_congr_left fun x _=>Fr4.q_of x).trans (List.map_id l)
theorem kA (l:List Rat):(gD l).length=l.length:=by simp[gD]
def fd (n v:Nat):List Nat:=(List.range n).map fun i=>v/10^i%10
section
variable {xs:List Nat}
end
theorem Ri {xs:List Nat}(hx:xs.length≤4398046511104):aC false Tryz.prog 128 [] [.one (.t (sI false xs))] (aM (.one (.t (sI false (trim xs))))):=by
 refine bR Tryz.func128 rfl Tryz.ntmps128 rfl aA rfl fun N w c0 h0=>?_
 refine sq ?_;refine rl ?_;refine o1 ?_;refine nl ?_;refine sq ?_;refine bl ?_
 refine lp (γ:=List Nat) (fun zs=>cH [(0,.one (.t (sI false zs)))]) (fun _=>([]:List Ob).map some) (fun zs=>trim zs=trim xs∧zs.length≤xs.length) (fun zs=>zs.length) xs ⟨rfl,Nat.le_refl _⟩ (aL h0 [] _ _ (by decide) ⟨rfl,trivial⟩ rfl) fun zs hz=>?_
 refine sq ?_;refine sq ?_;refine rl ?_;(iterate 4 refine o1 ?_);refine WL.split (t:=6) rfl (fun h1=>?_) (fun h1=>?_)
 ·(iterate 4 refine o1 ?_);refine WL.cast (t:=10) (u':=.int .i64 ((zs.length-1:Nat):Int)) rfl (aK (by omega)) ?_
  refine o1 ?_;refine fS ([.v (.int .i64 ((nth zs (zs.length-1):Nat):Int))]) (dZ zs (k:=zs.length-1) (by omega)) ?_
  refine o1 ?_;refine o1 ?_;refine nl ?_;refine bX rfl (fun h2=>?_) (fun h2=>?_)
  ·refine sk ?_;refine bl ?_;refine rl ?_;(iterate 4 refine o1 ?_);refine WL.cast (t:=18) (u':=.int .i64 ((zs.length-1:Nat):Int)) rfl (aK (by omega)) ?_
   refine o1 ?_;refine o1 ?_;refine nl ?_
   exact⟨zs.take (zs.length-1),by rw[List.length_take];omega,⟨(by rw[sA (xs:=zs) (k:=zs.length) (by omega) (Nat.le_refl _) (by omega),List.take_length];exact hz.1),by rw[List.length_take];omega⟩,aL h0 [] _ _ (by decide) ⟨congrArg some (Qr (by omega)).symm,trivial⟩ rfl⟩
  refine ex ?_;refine sq ?_;refine rl ?_;refine o1 ?_;refine o1 ?_;refine nl ?_;refine rt ?_;refine en (.inl rfl) rfl (aT (.one (.id rfl))) (by decide) (fun h=>by cases h) ?_
  have hx:trim xs=zs:=by
   rw[←hz.1];have h9:=oC (xs:=zs) (k:=zs.length) (by omega) (Nat.le_refl _) (by omega)
   rwa[List.take_length]at h9
  rw[hx];rfl
 (iterate 7 refine eL ?_);refine o1 ?_;refine nl ?_;refine fK rfl ?_;refine ex ?_;refine sq ?_;refine rl ?_;refine o1 ?_;refine o1 ?_;refine nl ?_;refine rt ?_
 refine en (.inl rfl) rfl (aT (.one (.id rfl))) (by decide) (fun h=>by cases h) ?_
 have hx:trim xs=zs:=by
  have h9:zs=[]:=List.eq_nil_of_length_eq_zero (by omega)
  rw[←hz.1,h9];rfl
 rw[hx];rfl
theorem iQ {xs:List Nat}(hx:xs.length≤1099511627776) (hl:Lim 4294967296 xs):aC false Tryz.prog 106 [] [.one (.t (sU false xs))] (aM (.one (.t (sI false (dg 65536 (vl 4294967296 xs)))))):=by
 refine bR Tryz.func106 rfl Tryz.ntmps106 rfl aA rfl fun N w c0 h0=>?_
 refine sq ?_;refine rl ?_;refine o1 ?_;refine nl ?_;refine sq ?_;refine rl ?_;refine o1 ?_;refine nl ?_;refine sq ?_;refine sq ?_;refine rl ?_;refine o1 ?_;refine nl ?_;refine bl ?_
 refine lp (γ:=Nat) (fun k=>cH [(0,.one (.t (sU false xs))),(3,.one (.sl 0 0 (2*k))),(4,.one (tv (.int .i64 ((k:Nat):Int))))]) (fun k=>[(⟨3,1,(cC (hv (xs.take k))).map .t⟩:Ob)].map some) (fun k=>k≤xs.length) (fun k=>xs.length-k) 0 (Nat.zero_le _) ((nr (i:=3) 0 3 1 rfl rfl rfl rfl).trans (aL h0 [0] _ _ (by decide) ⟨rfl,rfl,rfl,trivial⟩ ⟨cB (l:=[]) rfl,rfl⟩)) fun k hk=>?_
 have hn:=hl.nth (by omega) k
 refine sq ?_;refine sq ?_;refine rl ?_;(iterate 4 refine o1 ?_);refine nl ?_;refine bX rfl (fun h1=>?_) (fun h1=>?_)
 ·refine sk ?_;refine sq ?_;refine bl ?_;refine rd [] (fun i=>[15].contains i) mixed ?_
  refine dv 0 ?_;refine dv 1 ?_;refine dv 2 ?_;refine dv 3 ?_;refine gE 4 ([.v (.int .u32 ((nth xs (k):Nat):Int))]) (lZ xs (k:=k) (by omega)) ?_
  refine dv 5 ?_;refine WD.cast (t:=16) (u':=.int .u32 ((nth xs k%65536:Nat):Int)) rfl (aK (jA _ 65536)) ?_;refine dv 6 ?_;refine dv 7 ?_;refine dv 8 ?_;refine dv 9 ?_
  refine gE 10 ([.v (.int .u32 ((nth xs (k):Nat):Int))]) (lZ xs (k:=k) (by omega)) ?_
  refine dv 11 ?_ (hC:=(fQ 65536 (by omega) (by simp only[fM];omega)))
  refine WD.cast (t:=22) (u':=.int .u32 ((nth xs k/65536:Nat):Int)) rfl (aK (eF _ 65536)) ?_;refine dv 12 ?_;refine qS (key:=1) 13 (by kernel_rfl) rfl rfl aA rfl trivial ?_
  refine Wk (j:=2) 14 rfl aA rfl rfl rfl (.sl rfl (by rw[List.length_map,eX,nZ,List.length_take];omega)) (.sl rfl rfl rfl) rfl rfl (by omega) (by omega) rfl rfl (by kernel_rfl) rfl ?_
  refine dI 15 (by kernel_rfl) rfl rfl aA rfl (by trivial) ?_ (fun h=>by first | rfl | cases h)
  refine aN ?_;refine rl ?_;(iterate 3 refine o1 ?_);refine nl ?_
  exact⟨k+1,by omega,by omega,aL h0 [2] _ _ (by decide) ⟨rfl,rfl,rfl,trivial⟩ ⟨kD rfl (eY _ [nth xs k%65536,nth xs k/65536]) (Jx (by omega)).symm,rfl⟩⟩
 refine ex ?_;refine sq ?_;refine rl ?_;refine WL.sub (vM (i:=3) (zs':=hv xs) rfl rfl rfl (by rw[nZ,List.length_take];omega) (by rw[List.take_of_length_le (by omega)])) ?_
 refine o1 ?_;refine ca (Ri (by rw[nZ];omega)) Wq ⟨a1 rfl,rfl⟩ (.one (.t (sI false (trim (hv xs))))) ?_
 refine o1 ?_;refine nl ?_;refine rt ?_;exact en (.inl rfl) rfl (aT (.one (.id rfl))) (by decide) (fun h=>by cases h) (by rw[Xb hl];rfl)
theorem wN {xs:List Nat}(hx:xs.length≤4398046511104) (hl:Lim 65536 xs):aC true Tryz.prog 127 [] [.one (.t (sI false xs))] (aM (.one (.t (sU true (dg 4294967296 (vl 65536 xs)))))):=by
 refine bR Tryz.func127 rfl Tryz.ntmps127 rfl aA rfl fun N w c0 h0=>?_
 refine sq ?_;refine rl ?_;refine o1 ?_;refine nl ?_;refine sq ?_;refine rl ?_;refine o1 ?_;refine nl ?_;refine sq ?_;refine rl ?_;refine o1 ?_
 refine ca (Ri hx) Wq ⟨a1 rfl,rfl⟩ (.one (.t (sI false (trim xs)))) ?_;refine o1 ?_;refine nl ?_;refine sq ?_;refine sq ?_;have htl:=cE xs
 have hlt:=hl.trim
 generalize hY:trim xs=ys at htl hlt;refine rl ?_;refine o1 ?_;refine nl ?_;refine bl ?_
 refine lp (γ:=Nat) (fun k=>cH [(0,.one (.t (sI false ys))),(3,.one (.sl 0 0 k)),(4,.one (tv (.int .i64 ((2*k:Nat):Int))))]) (fun k=>[(⟨51,1,(aJ (lb (ys.take (2*k)))).map .t⟩:Ob)].map some) (fun k=>2*k≤ys.length+1) (fun k=>ys.length+1-2*k) 0 (Nat.zero_le _) ((nr (i:=3) 0 51 1 rfl rfl rfl rfl).trans (aL h0 [0] _ _ (by decide) ⟨rfl,rfl,rfl,trivial⟩ ⟨cB (l:=[]) rfl,rfl⟩)) fun k hk=>?_
 have hn:=hlt.nth (by omega) (2*k)
 have hn2:=hlt.nth (by omega) (2*k+1)
 refine sq ?_;refine sq ?_;refine rl ?_;(iterate 4 refine o1 ?_);refine nl ?_;refine bX rfl (fun h1=>?_) (fun h1=>?_)
 ·refine sk ?_;refine sq ?_;refine bl ?_;refine sq ?_;refine rl ?_;refine o1 ?_;refine nl ?_;refine sq ?_;refine sq ?_;refine rl ?_;refine o1 ?_;refine o1 ?_
  refine WL.cast (t:=15) (u':=.int .i64 ((2*k+1:Nat):Int)) rfl (aK (by omega)) ?_
  (iterate 3 refine o1 ?_);refine nl ?_;refine bX rfl (fun h2=>?_) (fun h2=>?_)
  ·refine rl ?_;(iterate 3 refine o1 ?_);refine WL.cast (t:=21) (u':=.int .i64 ((2*k+1:Nat):Int)) rfl (aK (by omega)) ?_
   refine o1 ?_;refine fS ([.v (.int .i64 ((nth ys (2*k+1):Nat):Int))]) (dZ ys (k:=2*k+1) (by omega)) ?_
   refine o1 ?_;refine nl ?_;refine rl ?_;(iterate 4 refine o1 ?_);refine fS ([.v (.int .i64 ((nth ys (2*k):Nat):Int))]) (dZ ys (k:=2*k) (by omega)) ?_
   (iterate 5 refine o1 ?_);refine WL.cast (t:=33) (u':=.int .u32 ((nth ys (2*k)+65536*nth ys (2*k+1):Nat):Int)) rfl (aK (by omega)) ?_
   refine bs 1 ?_;refine gC (j:=2) aA rfl rfl rfl rfl (.sl rfl (by rw[List.length_map,fN,gH,List.length_take];omega)) (.sl rfl rfl rfl) rfl rfl rfl (by omega) (by omega) ?_
   refine o1 ?_;refine nl ?_;refine rl ?_;(iterate 3 refine o1 ?_);refine nl ?_
   exact⟨k+1,by omega,by omega,aL h0 [2] _ _ (by decide) ⟨rfl,rfl,rfl,trivial⟩ ⟨Qs rfl (Fy _ [nth ys (2*k)+65536*nth ys (2*k+1)]) (vA (by omega)).symm,rfl⟩⟩
  have hz:=dJ (l:=ys) (k:=2*k+1) (by omega)
  refine sk ?_;refine rl ?_;(iterate 4 refine o1 ?_);refine fS ([.v (.int .i64 ((nth ys (2*k):Nat):Int))]) (dZ ys (k:=2*k) (by omega)) ?_
  (iterate 5 refine o1 ?_);refine WL.cast (t:=33) (u':=.int .u32 ((nth ys (2*k)+65536*nth ys (2*k+1):Nat):Int)) rfl (aK (by omega)) ?_
  refine bs 1 ?_;refine gC (j:=2) aA rfl rfl rfl rfl (.sl rfl (by rw[List.length_map,fN,gH,List.length_take];omega)) (.sl rfl rfl rfl) rfl rfl rfl (by omega) (by omega) ?_
  refine o1 ?_;refine nl ?_;refine rl ?_;(iterate 3 refine o1 ?_);refine nl ?_
  exact⟨k+1,by omega,by omega,aL h0 [2] _ _ (by decide) ⟨rfl,rfl,rfl,trivial⟩ ⟨Qs rfl (Fy _ [nth ys (2*k)+65536*nth ys (2*k+1)]) (vA (by omega)).symm,rfl⟩⟩
 refine ex ?_;refine sq ?_;refine rl ?_;refine o1 ?_;refine o1 ?_;refine nl ?_;refine rt ?_
 exact en (.inl rfl) rfl (aT (.one (.sl (trs:=aJ (lb ys)) rfl rfl (by rw[List.take_of_length_le (l:=ys) (by omega),List.take_of_length_le (by simp[fN,gH];omega)]) (by rw[fN,gH];omega)))) (by decide) (fun _=>.inl ⟨rfl,eC _⟩) (by rw[←uZ,dT (by omega) hl,hY];unfold sU;rw[show k=(lb ys).length by rw[gH];omega];rfl)
theorem mX {xs:List Nat}{k:Nat}:aC true Tryz.prog 107 [] [.one (.t (sI false xs)),.one (tv (.int .i64 ((k:Nat):Int)))] (aM (.one (tv (.int .i64 ((nth xs k:Nat):Int))))):=by
 refine bR Tryz.func107 rfl Tryz.ntmps107 rfl aA rfl fun N w c0 h0=>?_
 refine sq ?_;refine rl ?_;refine o1 ?_;refine nl ?_;refine sq ?_;refine sq ?_;refine rl ?_;(iterate 4 refine o1 ?_);refine nl ?_;refine bX rfl (fun h1=>?_) (fun h1=>?_)
 ·refine sq ?_;refine rl ?_;(iterate 3 refine o1 ?_);refine fS ([.v (.int .i64 ((nth xs (k):Nat):Int))]) (dZ xs (k:=k) (by omega)) ?_
  refine o1 ?_;refine nl ?_;refine rt ?_;refine en (.inl rfl) rfl (aT (cA _)) (by decide) (fun _=>trivial) ?_
  rfl
 refine sk ?_;refine sq ?_;refine rl ?_;refine o1 ?_;refine nl ?_;refine rt ?_;refine en (.inl rfl) rfl (aT (cA _)) (by decide) (fun _=>trivial) ?_
 rw[dJ (by omega)];rfl
theorem BA {xs:List Nat}(hx:xs.length≤1099511627776) (hlx:Lim 4294967296 xs):aC true Tryz.prog 112 [] [.one (.t (sU false xs))] (aM (.one (.t (sU true (dg 4294967296 (vl 4294967296 xs)))))):=by
 refine bR Tryz.func112 rfl Tryz.ntmps112 rfl aA rfl fun N w c0 h0=>?_
 have hd:=dH (v:=vl 4294967296 xs) (L:=xs.length) (by rw[dT (by omega) hlx];exact cE _)
 have hl9:=aH (B:=65536) (by omega) (vl 4294967296 xs)
 refine sq ?_;refine rl ?_;refine o1 ?_;refine nl ?_;refine sq ?_;refine rl ?_;refine o1 ?_
 refine ca (iQ hx hlx) rI ⟨a1 rfl,rfl⟩ (.one (.t (sI false (dg 65536 (vl 4294967296 xs))))) ?_;refine fG 0 (wN (by omega) (by assumption)) Mg ⟨a1 rfl,rfl⟩ ?_
 refine o1 ?_;refine nl ?_;refine rt ?_
 exact en (.inl rfl) rfl (aT (.one (.sl (trs:=aJ (dg 4294967296 (vl 65536 (dg 65536 (vl 4294967296 xs))))) rfl rfl (aW _) (aP _)))) (by decide) (fun _=>.inl ⟨rfl,eC _⟩) (by rw[bS (by omega)];rfl)
theorem Gm {xs ys:List Nat}(hx:xs.length≤1099511627776) (hlx:Lim 4294967296 xs) (hy:ys.length≤1099511627776) (hly:Lim 4294967296 ys):aC true Tryz.prog 65 [] [.one (.t (sU false xs)),.one (.t (sU false ys))] (aM (.one (tv (.int .i64 (((vl 4294967296 xs:Nat):Int)-((vl 4294967296 ys:Nat):Int)).sign)))):=by
 refine bR Tryz.func65 rfl Tryz.ntmps65 rfl aA rfl fun N w c0 h0=>?_
 refine sq ?_;refine rl ?_;refine o1 ?_;refine nl ?_;refine sq ?_;refine rl ?_;refine o1 ?_
 refine ca (iQ hx hlx) rI ⟨a1 rfl,rfl⟩ (.one (.t (sI false (dg 65536 (vl 4294967296 xs))))) ?_;refine o1 ?_
 refine ca (iQ hy hly) rI ⟨a1 rfl,rfl⟩ (.one (.t (sI false (dg 65536 (vl 4294967296 ys))))) ?_;refine o1 ?_;refine o1 ?_;refine nl ?_;refine sq ?_;refine sq ?_
 have hdx:=dH (v:=vl 4294967296 xs) (L:=xs.length) (by rw[dT (by omega) hlx];exact cE _)
 have hdy:=dH (v:=vl 4294967296 ys) (L:=ys.length) (by rw[dT (by omega) hly];exact cE _)
 have hX:=aH (B:=65536) (by omega) (vl 4294967296 xs)
 have hY:=aH (B:=65536) (by omega) (vl 4294967296 ys)
 have hvX:=bS (B:=65536) (by omega) (vl 4294967296 xs)
 have hvY:=bS (B:=65536) (by omega) (vl 4294967296 ys)
 generalize dg 65536 (vl 4294967296 xs)=X at hdx hX hvX⊢;generalize dg 65536 (vl 4294967296 ys)=Y at hdy hY hvY⊢;refine rl ?_;(iterate 5 refine o1 ?_)
 refine WL.cast (t:=16) (u':=.int .i64 ((max X.length Y.length:Nat):Int)) rfl (aK (by omega)) ?_
 refine o1 ?_;refine o1 ?_;refine nl ?_;refine bl ?_
 refine lp (γ:=Nat) (fun k=>cH [(5,.one (.t (sI false X))),(6,.one (.t (sI false Y))),(7,.one (tv (.int .i64 ((k:Nat)-1))))]) (fun k=>([]:List Ob).map some) (fun k=>(∀j,k≤j→nth X j=nth Y j)∧k≤max X.length Y.length) (fun k=>k) (max X.length Y.length) ⟨fun j hj=>by rw[dJ (by omega),dJ (by omega)],Nat.le_refl _⟩ (aL h0 [] _ _ (by decide) ⟨rfl,rfl,rfl,trivial⟩ rfl) fun k hk=>?_
 refine sq ?_;refine sq ?_;refine rl ?_;refine o1 ?_;refine o1 ?_;refine nl ?_;refine bX rfl (fun h1=>?_) (fun h1=>?_)
 ·refine sk ?_;refine sq ?_;refine bl ?_;refine sq ?_;refine sq ?_;refine rl ?_;refine o1 ?_;refine o1 ?_
  refine WL.cast (t:=23) (u':=.int .i64 ((k-1:Nat):Int)) rfl (aK (by omega)) ?_
  refine ca (mX) mV ⟨a1 rfl,a1 rfl,rfl⟩ (.one (tv (.int .i64 ((nth X (k-1):Nat):Int)))) ?_;refine o1 ?_;refine o1 ?_
  refine WL.cast (t:=26) (u':=.int .i64 ((k-1:Nat):Int)) rfl (aK (by omega)) ?_
  refine ca (mX) mV ⟨a1 rfl,a1 rfl,rfl⟩ (.one (tv (.int .i64 ((nth Y (k-1):Nat):Int)))) ?_;refine o1 ?_;refine nl ?_;refine bX rfl (fun h2=>?_) (fun h2=>?_)
  ·refine sq ?_;refine rl ?_;refine o1 ?_;refine nl ?_;refine rt ?_;refine en (.inl rfl) rfl (aT (cA _)) (by decide) (fun _=>trivial) (congrArg (fun z=>FV.one (tv (.int .i64 z))) ?_)
   have he:=Ch (X:=X) (Y:=Y) (k:=k-1) hX (fun j hj=>hk.1 j (by omega)) (by omega)
   rw[hvX,hvY]at he;rw[Int.sign_eq_neg_one_of_neg (by omega)]
  refine sk ?_;refine sq ?_;refine rl ?_;refine o1 ?_;refine o1 ?_;refine WL.cast (t:=30) (u':=.int .i64 ((k-1:Nat):Int)) rfl (aK (by omega)) ?_
  refine ca (mX) mV ⟨a1 rfl,a1 rfl,rfl⟩ (.one (tv (.int .i64 ((nth X (k-1):Nat):Int)))) ?_;refine o1 ?_;refine o1 ?_
  refine WL.cast (t:=33) (u':=.int .i64 ((k-1:Nat):Int)) rfl (aK (by omega)) ?_
  refine ca (mX) mV ⟨a1 rfl,a1 rfl,rfl⟩ (.one (tv (.int .i64 ((nth Y (k-1):Nat):Int)))) ?_;refine o1 ?_;refine nl ?_;refine bX rfl (fun h3=>?_) (fun h3=>?_)
  ·refine sq ?_;refine rl ?_;refine o1 ?_;refine nl ?_;refine rt ?_;refine en (.inl rfl) rfl (aT (cA _)) (by decide) (fun _=>trivial) (congrArg (fun z=>FV.one (tv (.int .i64 z))) ?_)
   have he:=Ch (X:=Y) (Y:=X) (k:=k-1) hY (fun j hj=>(hk.1 j (by omega)).symm) (by omega)
   rw[hvX,hvY]at he;rw[Int.sign_eq_one_of_pos (by omega)]
  refine sk ?_;refine rl ?_;(iterate 3 refine o1 ?_);refine nl ?_
  exact⟨k-1,by omega,⟨fun j hj=>(Nat.eq_or_lt_of_le hj).elim (fun h9=>by rw[←h9];omega) (fun h9=>hk.1 j (by omega)),by omega⟩,aL h0 [] _ _ (by decide) ⟨rfl,rfl,congrArg (fun z=>some (FV.one (tv (.int .i64 z)))) (by omega),trivial⟩ rfl⟩
 refine ex ?_;refine sq ?_;refine rl ?_;refine o1 ?_;refine nl ?_;refine rt ?_
 refine en (.inl rfl) rfl (aT (cA _)) (by decide) (fun _=>trivial) (congrArg (fun z=>FV.one (tv (.int .i64 z))) ?_)
 have he:=Qp (fun j=>hk.1 j (by omega))
 rw[hvX,hvY]at he;rw[he,Int.sub_self];rfl
theorem FS {xs ys:List Nat}(hx:xs.length≤1099511627776) (hlx:Lim 4294967296 xs) (hy:ys.length≤1099511627776) (hly:Lim 4294967296 ys):aC true Tryz.prog 103 [] [.one (.t (sU false xs)),.one (.t (sU false ys))] (aM (.one (.t (sU true (dg 4294967296 (vl 4294967296 xs+vl 4294967296 ys)))))):=by
 refine bR Tryz.func103 rfl Tryz.ntmps103 rfl aA rfl fun N w c0 h0=>?_
 refine sq ?_;refine rl ?_;refine o1 ?_;refine nl ?_;refine sq ?_;refine rl ?_;refine o1 ?_
 refine ca (iQ hx hlx) rI ⟨a1 rfl,rfl⟩ (.one (.t (sI false (dg 65536 (vl 4294967296 xs))))) ?_;refine o1 ?_
 refine ca (iQ hy hly) rI ⟨a1 rfl,rfl⟩ (.one (.t (sI false (dg 65536 (vl 4294967296 ys))))) ?_;refine o1 ?_;refine o1 ?_;refine nl ?_;refine sq ?_
 have hdx:=dH (v:=vl 4294967296 xs) (L:=xs.length) (by rw[dT (by omega) hlx];exact cE _)
 have hdy:=dH (v:=vl 4294967296 ys) (L:=ys.length) (by rw[dT (by omega) hly];exact cE _)
 have hX:=aH (B:=65536) (by omega) (vl 4294967296 xs)
 have hY:=aH (B:=65536) (by omega) (vl 4294967296 ys)
 have hvX:=bS (B:=65536) (by omega) (vl 4294967296 xs)
 have hvY:=bS (B:=65536) (by omega) (vl 4294967296 ys)
 generalize dg 65536 (vl 4294967296 xs)=X at hdx hX hvX⊢;generalize dg 65536 (vl 4294967296 ys)=Y at hdy hY hvY⊢;refine rl ?_;refine o1 ?_;refine nl ?_;refine sq ?_;refine rl ?_
 refine o1 ?_;refine nl ?_;refine sq ?_;refine sq ?_;refine rl ?_;refine o1 ?_;refine nl ?_;refine bl ?_
 refine lp (γ:=Nat×Nat×List Nat) (fun s=>cH [(5,.one (.t (sI false X))),(6,.one (.t (sI false Y))),(7,.one (.sl 0 0 s.1)),(8,.one (tv (.int .i64 ((s.2.1:Nat):Int)))),(9,.one (tv (.int .i64 ((s.1:Nat):Int))))]) (fun s=>[(⟨3,1,(cC s.2.2).map .t⟩:Ob)].map some) (fun s=>s.2.2.length=s.1∧Lim 65536 s.2.2∧vl 65536 s.2.2+65536^s.1*s.2.1=vl 65536 (X.take s.1)+vl 65536 (Y.take s.1)∧s.2.1≤1∧(s.1≤max X.length Y.length∨s.1=max X.length Y.length+1∧s.2.1=0)) (fun s=>max X.length Y.length+1-s.1) (0,0,[]) ⟨rfl,Lim.nil,rfl,Nat.zero_le _,.inl (Nat.zero_le _)⟩ ((nr (i:=7) 0 3 1 rfl rfl rfl rfl).trans (aL h0 [0] _ _ (by decide) ⟨rfl,rfl,rfl,rfl,rfl,trivial⟩ ⟨cB (l:=[]) rfl,rfl⟩)) ?_
 rintro⟨k,cr,os⟩ ⟨hos,hol,hv,hc1,hkm⟩;dsimp only at hos hol hv hc1 hkm⊢;have hn1:=hX.nth (by omega) k
 have hn2:=hY.nth (by omega) k
 refine sq ?_;refine sq ?_;refine rl ?_;(iterate 6 refine o1 ?_);refine WL.cast (t:=20) (u':=.int .i64 ((max X.length Y.length:Nat):Int)) rfl (aK (by omega)) ?_
 refine o1 ?_;refine o1 ?_;refine WL.split (t:=22) rfl (fun h1=>?_) (fun h1=>?_)
 ·refine eL ?_;refine eL ?_;refine o1 ?_;refine nl ?_;refine mP rfl ?_;refine sk ?_;refine sq ?_;refine bl ?_;refine sq ?_;refine rl ?_;refine o1 ?_;refine o1 ?_
  refine ca (mX) mV ⟨a1 rfl,a1 rfl,rfl⟩ (.one (tv (.int .i64 ((nth X (k):Nat):Int)))) ?_;refine o1 ?_;refine o1 ?_
  refine ca (mX) mV ⟨a1 rfl,a1 rfl,rfl⟩ (.one (tv (.int .i64 ((nth Y (k):Nat):Int)))) ?_;(iterate 3 refine o1 ?_)
  refine WL.cast (t:=36) (u':=.int .i64 ((nth X k+nth Y k+cr:Nat):Int)) rfl (aK (by omega)) ?_
  refine o1 ?_;refine nl ?_;refine sq ?_;refine rl ?_;(iterate 3 refine o1 ?_)
  refine WL.cast (t:=39) (u':=.int .i64 (((nth X k+nth Y k+cr)%65536:Nat):Int)) rfl (aK (jA _ 65536)) ?_;refine bs 1 ?_
  refine gC (j:=2) aA rfl rfl rfl rfl (.sl rfl (by rw[List.length_map,eX,hos];omega)) (.sl rfl rfl rfl) rfl rfl rfl (by omega) (by omega) ?_
  refine o1 ?_;refine nl ?_;refine rl ?_;refine o1 ?_;refine o1 ?_ (hC:=(fQ 65536 (by omega) (by simp only[fM];omega)))
  refine WL.cast (t:=43) (u':=.int .i64 (((nth X k+nth Y k+cr)/65536:Nat):Int)) rfl (aK (eF _ 65536)) ?_;refine o1 ?_;refine nl ?_;refine rl ?_;(iterate 3 refine o1 ?_)
  refine nl ?_;have hst:=Fw hos hv
  have hz1:X.length≤k→nth X k=0:=fun h=>dJ (by omega)
  have hz2:Y.length≤k→nth Y k=0:=fun h=>dJ (by omega)
  exact⟨(k+1,(nth X k+nth Y k+cr)/65536,os++[(nth X k+nth Y k+cr)%65536]),by dsimp only;omega,⟨by simp[hos],hol.append (Lim.cons (Nat.mod_lt _ (by omega)) Lim.nil),hst,by dsimp only;omega,by dsimp only;omega⟩,aL h0 [2] _ _ (by decide) ⟨rfl,rfl,rfl,rfl,rfl,trivial⟩ ⟨kD rfl (eY _ [(nth X k+nth Y k+cr)%65536]) rfl,rfl⟩⟩
 (iterate 3 refine o1 ?_);refine nl ?_;refine bX rfl (fun h2=>?_) (fun h2=>?_)
 ·refine sk ?_;refine sq ?_;refine bl ?_;refine sq ?_;refine rl ?_;refine o1 ?_;refine o1 ?_
  refine ca (mX) mV ⟨a1 rfl,a1 rfl,rfl⟩ (.one (tv (.int .i64 ((nth X (k):Nat):Int)))) ?_;refine o1 ?_;refine o1 ?_
  refine ca (mX) mV ⟨a1 rfl,a1 rfl,rfl⟩ (.one (tv (.int .i64 ((nth Y (k):Nat):Int)))) ?_;(iterate 3 refine o1 ?_)
  refine WL.cast (t:=36) (u':=.int .i64 ((nth X k+nth Y k+cr:Nat):Int)) rfl (aK (by omega)) ?_
  refine o1 ?_;refine nl ?_;refine sq ?_;refine rl ?_;(iterate 3 refine o1 ?_)
  refine WL.cast (t:=39) (u':=.int .i64 (((nth X k+nth Y k+cr)%65536:Nat):Int)) rfl (aK (jA _ 65536)) ?_;refine bs 1 ?_
  refine gC (j:=2) aA rfl rfl rfl rfl (.sl rfl (by rw[List.length_map,eX,hos];omega)) (.sl rfl rfl rfl) rfl rfl rfl (by omega) (by omega) ?_
  refine o1 ?_;refine nl ?_;refine rl ?_;refine o1 ?_;refine o1 ?_ (hC:=(fQ 65536 (by omega) (by simp only[fM];omega)))
  refine WL.cast (t:=43) (u':=.int .i64 (((nth X k+nth Y k+cr)/65536:Nat):Int)) rfl (aK (eF _ 65536)) ?_;refine o1 ?_;refine nl ?_;refine rl ?_;(iterate 3 refine o1 ?_)
  refine nl ?_;have hst:=Fw hos hv
  have hz1:X.length≤k→nth X k=0:=fun h=>dJ (by omega)
  have hz2:Y.length≤k→nth Y k=0:=fun h=>dJ (by omega)
  exact⟨(k+1,(nth X k+nth Y k+cr)/65536,os++[(nth X k+nth Y k+cr)%65536]),by dsimp only;omega,⟨by simp[hos],hol.append (Lim.cons (Nat.mod_lt _ (by omega)) Lim.nil),hst,by dsimp only;omega,by dsimp only;omega⟩,aL h0 [2] _ _ (by decide) ⟨rfl,rfl,rfl,rfl,rfl,trivial⟩ ⟨kD rfl (eY _ [(nth X k+nth Y k+cr)%65536]) rfl,rfl⟩⟩
 refine ex ?_;refine sq ?_;refine rl ?_;have hc0:cr=0:=by omega
 rw[hc0,Nat.mul_zero,Nat.add_zero,bK 65536 (by omega),bK 65536 (by omega),hvX,hvY]at hv
 refine WL.sub (vM (i:=7) (zs':=os) rfl rfl rfl (by omega) rfl) ?_
 refine o1 ?_;refine fG 1 (wN (by omega) (by assumption)) Mg ⟨a1 rfl,rfl⟩ ?_
 refine o1 ?_;refine nl ?_;refine rt ?_
 exact en (.inl rfl) rfl (aT (.one (.sl (trs:=aJ (dg 4294967296 (vl 65536 os))) rfl rfl (aW _) (aP _)))) (by decide) (fun _=>.inl ⟨rfl,eC _⟩) (by rw[hv];rfl)
theorem Rj {xs ys:List Nat}(hx:xs.length≤1099511627776) (hlx:Lim 4294967296 xs) (hy:ys.length≤1099511627776) (hly:Lim 4294967296 ys):aC true Tryz.prog 104 [] [.one (.t (sU false xs)),.one (.t (sU false ys))] (aM (.tup [.one (.t (sU true (dg 4294967296 (vl 4294967296 xs-vl 4294967296 ys)))),.one (tv (.int .i64 (if vl 4294967296 xs<vl 4294967296 ys then 2 else 0)))])):=by
 refine bR Tryz.func104 rfl Tryz.ntmps104 rfl aA rfl fun N w c0 h0=>?_
 refine sq ?_;refine rl ?_;refine o1 ?_;refine o1 ?_;refine nl ?_;refine sq ?_;refine sq ?_;refine rl ?_;refine o1 ?_;refine o1 ?_
 refine ca (Gm hx hlx hy hly) Ug ⟨a1 rfl,a1 rfl,rfl⟩ (.one (tv (.int .i64 (((vl 4294967296 xs:Nat):Int)-((vl 4294967296 ys:Nat):Int)).sign))) ?_;refine o1 ?_;refine nl ?_
 refine bX rfl (fun h1=>?_) (fun h1=>?_)
 ·refine sq ?_;refine rl ?_;refine o1 ?_;refine o1 ?_;refine nl ?_;refine rt ?_;have hlt:=FD h1
  exact en (.inl rfl) rfl (jJ (.cons (.one (.nil (t:=51) (z:=1))) (.cons (cA _) .nil))) (by decide) (fun _=>⟨.inl ⟨rfl,trivial⟩,trivial,trivial⟩) (by rw[Nat.sub_eq_zero_of_le (Nat.le_of_lt hlt),if_pos hlt];rfl)
 refine sk ?_;refine sq ?_;refine rl ?_;refine o1 ?_;refine ca (iQ hx hlx) rI ⟨a1 rfl,rfl⟩ (.one (.t (sI false (dg 65536 (vl 4294967296 xs))))) ?_;refine o1 ?_
 refine ca (iQ hy hly) rI ⟨a1 rfl,rfl⟩ (.one (.t (sI false (dg 65536 (vl 4294967296 ys))))) ?_;refine o1 ?_;refine o1 ?_;refine nl ?_;refine sq ?_
 have hge:vl 4294967296 ys≤vl 4294967296 xs:=FC h1
 have hyx:=cF (B:=65536) (by omega) hge
 have hdx:=dH (v:=vl 4294967296 xs) (L:=xs.length) (by rw[dT (by omega) hlx];exact cE _)
 have hdy:=dH (v:=vl 4294967296 ys) (L:=ys.length) (by rw[dT (by omega) hly];exact cE _)
 have hX:=aH (B:=65536) (by omega) (vl 4294967296 xs)
 have hY:=aH (B:=65536) (by omega) (vl 4294967296 ys)
 have hvX:=bS (B:=65536) (by omega) (vl 4294967296 xs)
 have hvY:=bS (B:=65536) (by omega) (vl 4294967296 ys)
 generalize dg 65536 (vl 4294967296 xs)=X at hdx hX hvX hyx⊢;generalize dg 65536 (vl 4294967296 ys)=Y at hdy hY hvY hyx⊢;refine rl ?_;refine o1 ?_;refine nl ?_;refine sq ?_;refine rl ?_
 refine o1 ?_;refine nl ?_;refine sq ?_;refine sq ?_;refine rl ?_;refine o1 ?_;refine nl ?_;refine bl ?_
 refine lp (γ:=Nat×Nat×List Nat) (fun s=>cH [(6,.one (.t (sI false X))),(7,.one (.t (sI false Y))),(8,.one (.sl 0 0 s.1)),(9,.one (tv (.int .i64 ((s.2.1:Nat):Int)))),(10,.one (tv (.int .i64 ((s.1:Nat):Int))))]) (fun s=>[(⟨3,1,(cC s.2.2).map .t⟩:Ob)].map some) (fun s=>s.2.2.length=s.1∧Lim 65536 s.2.2∧vl 65536 s.2.2+vl 65536 (Y.take s.1)=vl 65536 (X.take s.1)+65536^s.1*s.2.1∧s.2.1≤1∧s.1≤X.length) (fun s=>X.length-s.1) (0,0,[]) ⟨rfl,Lim.nil,rfl,Nat.zero_le _,Nat.zero_le _⟩ ((nr (i:=8) 0 3 1 rfl rfl rfl rfl).trans (aL h0 [0] _ _ (by decide) ⟨rfl,rfl,rfl,rfl,rfl,trivial⟩ ⟨cB (l:=[]) rfl,rfl⟩)) ?_
 rintro⟨k,br,os⟩ ⟨hos,hol,hv,hc1,hkm⟩;dsimp only at hos hol hv hc1 hkm⊢;have hn1:=hX.nth (by omega) k
 have hn2:=hY.nth (by omega) k
 refine sq ?_;refine sq ?_;refine rl ?_;(iterate 4 refine o1 ?_);refine nl ?_;refine bX rfl (fun h2=>?_) (fun h2=>?_)
 ·refine sk ?_;refine sq ?_;refine bl ?_;refine sq ?_;refine rd [] (fun i=>[10].contains i) mixed ?_
  refine dv 0 ?_;refine dv 1 ?_;refine dv 2 ?_;refine gE 3 ([.v (.int .i64 ((nth X (k):Nat):Int))]) (dZ X (k:=k) (by omega)) ?_
  refine dv 4 ?_;refine dv 5 ?_;refine dv 8 ?_;refine aI 6 rfl (mX) mV ⟨a1 rfl,a1 rfl,rfl⟩ (.one (tv (.int .i64 ((nth Y (k):Nat):Int)))) ?_;refine df 7 ?_;refine df 9 ?_
  refine dI 10 (by kernel_rfl) rfl rfl aA rfl (by trivial) ?_ (fun h=>by first | rfl | cases h)
  refine aN ?_;refine sq ?_;refine rl ?_;refine o1 ?_;refine nl ?_;refine sq ?_;refine sq ?_;refine rl ?_;refine o1 ?_;refine o1 ?_;refine nl ?_
  refine bX rfl (fun h3=>?_) (fun h3=>?_)
  ·refine sq ?_;refine rl ?_;(iterate 3 refine o1 ?_);refine nl ?_;refine rl ?_;refine o1 ?_;refine nl ?_;refine rl ?_
   refine WL.cast (t:=11) (u':=.int .i64 (((nth X k+65536-nth Y k-br:Nat)):Int)) rfl (aK (by omega)) ?_
   refine o1 ?_;refine o1 ?_;refine bs 1 ?_
   refine gC (j:=2) aA rfl rfl rfl rfl (.sl rfl (by rw[List.length_map,eX,hos];omega)) (.sl rfl rfl rfl) rfl rfl rfl (by omega) (by omega) ?_
   refine o1 ?_;refine nl ?_;refine rl ?_;(iterate 3 refine o1 ?_);refine nl ?_;have hst:=Fx (d:=nth X k+65536-nth Y k-br) (br':=1) hos hv (by omega)
   exact⟨(k+1,1,os++[nth X k+65536-nth Y k-br]),by dsimp only;omega,⟨by simp[hos],hol.append (Lim.cons (by omega) Lim.nil),hst,by dsimp only;omega,by dsimp only;omega⟩,aL h0 [2] _ _ (by decide) ⟨rfl,rfl,rfl,rfl,rfl,trivial⟩ ⟨kD rfl (eY _ [nth X k+65536-nth Y k-br]) rfl,rfl⟩⟩
  refine sk ?_;refine rl ?_;refine WL.cast (t:=11) (u':=.int .i64 (((nth X k-nth Y k-br:Nat)):Int)) rfl (aK (by omega)) ?_
  refine o1 ?_;refine o1 ?_;refine bs 1 ?_
  refine gC (j:=2) aA rfl rfl rfl rfl (.sl rfl (by rw[List.length_map,eX,hos];omega)) (.sl rfl rfl rfl) rfl rfl rfl (by omega) (by omega) ?_
  refine o1 ?_;refine nl ?_;refine rl ?_;(iterate 3 refine o1 ?_);refine nl ?_;have hst:=Fx (d:=nth X k-nth Y k-br) (br':=0) hos hv (by omega)
  exact⟨(k+1,0,os++[nth X k-nth Y k-br]),by dsimp only;omega,⟨by simp[hos],hol.append (Lim.cons (by omega) Lim.nil),hst,by dsimp only;omega,by dsimp only;omega⟩,aL h0 [2] _ _ (by decide) ⟨rfl,rfl,rfl,rfl,rfl,trivial⟩ ⟨kD rfl (eY _ [nth X k-nth Y k-br]) rfl,rfl⟩⟩
 refine ex ?_;refine sq ?_;refine rl ?_;have hoo:=dS hol
 rw[hos]at hoo;rw[bK 65536 (l:=X) (by omega),bK 65536 (l:=Y) (by omega),hvX,hvY]at hv
 have hb0:br=0:=by
  rcases Nat.eq_zero_or_pos br with h0 | h0
  ·exact h0
  have h1:br=1:=by omega
  rw[h1,Nat.mul_one,show k=X.length by omega]at hv
  rw[show k=X.length by omega]at hoo
  omega
 rw[hb0,Nat.mul_zero,Nat.add_zero]at hv;have he:vl 65536 os=vl 4294967296 xs-vl 4294967296 ys:=by omega
 refine WL.sub (vM (i:=8) (zs':=os) rfl rfl rfl (by omega) rfl) ?_
 refine o1 ?_;refine fG 1 (wN (by omega) (by assumption)) Mg ⟨a1 rfl,rfl⟩ ?_
 refine o1 ?_;refine o1 ?_;refine nl ?_;refine rt ?_
 exact en (.inl rfl) rfl (jJ (.cons (.one (.sl (trs:=aJ (dg 4294967296 (vl 65536 os))) rfl rfl (aW _) (aP _))) (.cons (cA _) .nil))) (by decide) (fun _=>⟨.inl ⟨rfl,eC _⟩,trivial,trivial⟩) (by rw[he,if_neg (by omega)];rfl)
theorem vZ {a:Zi}{k:Int}(ha:Zn a k):aC true Tryz.prog 105 [] [gF a] (aM (.one (tv (.bool (cJ a.s a.x))))):=by
 refine bR Tryz.func105 rfl Tryz.ntmps105 rfl aA rfl fun N w c0 h0=>?_
 have hal:=ha.2.1
 refine sq ?_;refine rl ?_;refine bx 0 ?_;refine o1 ?_;refine nl ?_;refine sq ?_;refine sq ?_;refine rl ?_;refine o1 ?_;refine ld ?_;refine o1 ?_;refine o1 ?_;refine nl ?_
 refine bX rfl (fun h1=>?_) (fun h1=>?_)
 ·refine sq ?_;refine rl ?_;refine o1 ?_;refine ld ?_;refine WL.splitb (t:=8) rfl (fun h2=>?_) (fun h2=>?_)
  ·refine o1 ?_;refine o1 ?_;refine nl ?_;refine rt ?_;refine en (.inl rfl) rfl (aT (cA _)) (by decide) (fun _=>trivial) (congrArg (fun b=>FV.one (tv (.bool b))) ?_)
   rw[lB (by omega)];simp_all
  refine o1 ?_;refine o1 ?_;refine nl ?_;refine rt ?_;refine en (.inl rfl) rfl (aT (cA _)) (by decide) (fun _=>trivial) (congrArg (fun b=>FV.one (tv (.bool b))) ?_)
  rw[lB (by omega)];simp_all
 refine sk ?_;refine sq ?_;refine rl ?_;refine o1 ?_;refine ld ?_;refine o1 ?_;refine ld ?_;refine o1 ?_;refine o1 ?_
 refine WL.cast (t:=15) (u':=.int .i64 ((a.x.length-1:Nat):Int)) rfl (aK (by omega)) ?_
 refine o1 ?_;refine fS ([.v (.int .u32 ((nth a.x (a.x.length-1):Nat):Int))]) (lZ a.x (k:=a.x.length-1) (by omega)) ?_
 refine o1 ?_;refine o1 ?_;refine nl ?_;refine rt ?_;refine en (.inl rfl) rfl (aT (cA _)) (by decide) (fun _=>trivial) (congrArg (fun b=>FV.one (tv (.bool b))) ?_)
 exact(rM rfl (by omega)).symm
theorem fA {a:Zi}{k:Int}(ha:Zn a k):aC false Tryz.prog 64 [] [gF a] (aM (kF k)):=by
 refine bR Tryz.func64 rfl Tryz.ntmps64 rfl aA rfl fun N w c0 h0=>?_
 refine sq ?_;refine rl ?_;refine bx 0 ?_;refine al 1 ?_;refine nl ?_;refine sq ?_;refine sq ?_;refine rl ?_;refine ld ?_
 refine ca (vZ ha) Lk ⟨aB rfl,rfl⟩ (.one (tv (.bool (cJ a.s a.x)))) ?_;refine WL.splitb (t:=4) rfl (fun h1=>?_) (fun h1=>?_)
 ·refine o1 ?_;refine nl ?_;refine fK rfl ?_;refine sk ?_;refine sq ?_;refine rl ?_;refine ld ?_;refine st ?_;refine nl ?_;refine rt ?_
  exact en (.inl rfl) rfl (aT (.agg (.read _ (l:=[.v (.bool a.s),sU false a.x]) rfl))) (by decide) (fun h=>by cases h) (Uy ha h1)
 refine o1 ?_;refine nl ?_;refine mP rfl ?_;refine sq ?_;refine rl ?_;refine o1 ?_;refine st ?_;refine nl ?_;refine rt ?_
 exact en (.inl rfl) rfl (aT (.agg (.cons (.id rfl) (.cons .nilf .nil)))) (by decide) (fun h=>by cases h) (by rw[ha.wrong h1];exact Ae)
theorem jC {b:Bool}{xs:List Nat}{K:Int}(hx:xs.length≤1099511627776) (hl:Lim 4294967296 xs) (hK:bL b (vl 4294967296 xs)=K):aC true Tryz.prog 72 [] [.one (tv (.bool b)),.one (.t (sU false xs))] (aM (kO K)):=by
 refine bR Tryz.func72 rfl Tryz.ntmps72 rfl aA rfl fun N w c0 h0=>?_
 refine sq ?_;refine rl ?_;refine al 0 ?_;refine nl ?_;refine sq ?_;refine rl ?_;refine o1 ?_;refine fG 1 (BA hx hl) II ⟨a1 rfl,rfl⟩ ?_;refine o1 ?_;refine nl ?_;refine sq ?_
 refine rl ?_;refine o1 ?_;refine o1 ?_;refine WL.splitb (t:=9) rfl (fun h1=>?_) (fun h1=>?_)
 ·(iterate 6 refine o1 ?_);refine st ?_;refine nl ?_;refine rt ?_
  exact en (.inl rfl) rfl (aT (.agg (.cons (.id rfl) (.cons (.sl (trs:=aJ (dg 4294967296 (vl 4294967296 xs))) rfl rfl (aW _) (aP _)) .nil)))) (by decide) (fun _=>Af _ _) (hK▸rN (by rw[←xZ rfl,h1,Bool.true_and];exact decide_eq_decide.2 (by omega)) (gQ _ _).symm)
 (iterate 3 refine eL ?_);(iterate 3 refine o1 ?_);refine st ?_;refine nl ?_;refine rt ?_
 exact en (.inl rfl) rfl (aT (.agg (.cons (.id rfl) (.cons (.sl (trs:=aJ (dg 4294967296 (vl 4294967296 xs))) rfl rfl (aW _) (aP _)) .nil)))) (by decide) (fun _=>Af _ _) (hK▸rN (by rw[←xZ rfl,h1];rfl) (gQ _ _).symm)
theorem mT {n:Int}(h1:-9223372036854775808≤n) (h2:n≤9223372036854775807):aC true Tryz.prog 26 [] [.one (tv (.int .i64 n))] (aM (kO n)):=by
 refine bR Tryz.func26 rfl Tryz.ntmps26 rfl aA rfl fun N w c0 h0=>?_
 obtain⟨hr1,hr2,hq1,hq2,hv1,hv2⟩:=Ur h1 h2
 refine sq ?_;refine rl ?_;refine al 0 ?_;refine nl ?_;refine sq ?_;refine rl ?_;(iterate 3 refine o1 ?_);refine o1 ?_ (hC:=(by exact⟨by omega,by simp only[fM];omega⟩))
 refine o1 ?_;refine o1 ?_;refine nl ?_;refine sq ?_;refine rl ?_;(iterate 6 refine o1 ?_)
 refine WL.cast (t:=14) (u':=.int .i64 (((Int.tmod n 4294967296).natAbs:Nat):Int)) rfl (aK (by omega)) ?_
 refine o1 ?_;refine WL.cast (t:=15) (u':=.int .u32 (((Int.tmod n 4294967296).natAbs:Nat):Int)) rfl (aK (by omega)) ?_
 (iterate 4 refine o1 ?_);refine WL.cast (t:=19) (u':=.int .i64 (((Int.tdiv n 4294967296).natAbs:Nat):Int)) rfl (aK (by omega)) ?_
 refine o1 ?_;refine WL.cast (t:=20) (u':=.int .u32 (((Int.tdiv n 4294967296).natAbs:Nat):Int)) rfl (aK (by omega)) ?_
 refine bs 1 ?_
 refine WL.sub (MF (i:=21) (zs:=[(Int.tmod n 4294967296).natAbs,(Int.tdiv n 4294967296).natAbs]) (zs':=[(Int.tmod n 4294967296).natAbs,(Int.tdiv n 4294967296).natAbs]) rfl rfl rfl rfl rfl) ?_
 refine fG 2 (jC (K:=n) (by simp) (Lim.cons (by omega) (Lim.cons (by omega) Lim.nil)) (FF hv1)) cP ⟨a1 rfl,a1 rfl,rfl⟩ ?_
 refine st ?_;refine nl ?_;refine rt ?_
 exact en (.inl rfl) rfl (aT (.agg (.cons (.id rfl) (.cons (.sl (trs:=aJ (dg 4294967296 (n).natAbs)) rfl rfl (aW _) (aP _)) .nil)))) (by decide) (fun _=>dN (n)) rfl
theorem Oo {a b:Zi}{k k':Int}(ha:Zn a k) (hb:Zn b k'):aC true Tryz.prog 19 [] [gF a,gF b] (aM (.one (tv (.int .i64 (k-k').sign)))):=by
 refine bR Tryz.func19 rfl Tryz.ntmps19 rfl aA rfl fun N w c0 h0=>?_
 have hkl:=ha.len
 have hkl':=hb.len
 refine sq ?_;refine rl ?_;refine bx 0 ?_;refine bx 1 ?_;refine o1 ?_;refine nl ?_;refine sq ?_;refine rl ?_;refine ld ?_;refine ca (fA ha) mL ⟨aB rfl,rfl⟩ (kF (k)) ?_;refine st ?_
 refine nl ?_;refine sq ?_;refine rl ?_;refine ld ?_;refine ca (fA hb) mL ⟨aB rfl,rfl⟩ (kF (k')) ?_;refine st ?_;refine nl ?_;refine sq ?_;refine bl ?_;refine sq ?_;refine rl ?_
 refine o1 ?_;refine ld ?_;refine o1 ?_;refine WL.splitb (t:=12) rfl (fun h1=>?_) (fun h1=>?_)
 ·refine o1 ?_;refine ld ?_;refine WL.splitb (t:=14) rfl (fun h2=>?_) (fun h2=>?_)
  ·(iterate 3 refine o1 ?_);refine nl ?_;refine fK rfl ?_;refine sq ?_;refine rl ?_;refine o1 ?_;refine ld ?_;refine o1 ?_;refine WL.cast (t:=20) rfl (congrArg Value.bool h2) ?_
   refine o1 ?_;refine ld ?_;refine WL.cast (t:=22) rfl (congrArg Value.bool h1) ?_;(iterate 3 refine o1 ?_);refine nl ?_;refine fK rfl ?_;refine sq ?_;refine rl ?_;refine o1 ?_
   refine ld ?_;refine o1 ?_;refine nl ?_;refine mP (congrArg (fun b=>FV.one (tv (.bool b))) h1) ?_
   refine sq ?_;refine rl ?_;refine o1 ?_;refine ld ?_;refine o1 ?_;refine ld ?_
   refine ca (Gm (by omega) (aH (by omega) _) (by omega) (aH (by omega) _)) Ug ⟨a1 rfl,a1 rfl,rfl⟩ (.one (tv (.int .i64 (((vl 4294967296 (dg 4294967296 (k').natAbs):Nat):Int)-((vl 4294967296 (dg 4294967296 (k).natAbs):Nat):Int)).sign))) ?_
   refine o1 ?_;refine nl ?_;refine rt ?_;refine en (.inl rfl) rfl (aT (cA _)) (by decide) (fun _=>trivial) (congrArg (fun z=>FV.one (tv (.int .i64 z))) ?_)
   rw[bI,bI];exact AM h1 h2
  (iterate 3 refine o1 ?_);refine nl ?_;refine mP rfl ?_;refine sq ?_;refine rl ?_;refine o1 ?_;refine nl ?_;refine rt ?_
  refine en (.inl rfl) rfl (aT (cA _)) (by decide) (fun _=>trivial) (congrArg (fun z=>FV.one (tv (.int .i64 z))) ?_)
  exact AJ h1 h2
 (iterate 3 refine eL ?_);refine o1 ?_;refine o1 ?_;refine nl ?_;refine fK rfl ?_;refine sq ?_;refine rl ?_;refine o1 ?_;refine ld ?_;refine o1 ?_
 refine WL.splitb (t:=20) rfl (fun h3=>?_) (fun h3=>?_)
 ·refine o1 ?_;refine ld ?_;refine WL.cast (t:=22) rfl (congrArg Value.bool h1) ?_;(iterate 3 refine o1 ?_);refine nl ?_;refine mP rfl ?_;refine sq ?_;refine rl ?_;refine o1 ?_
  refine nl ?_;refine rt ?_;refine en (.inl rfl) rfl (aT (cA _)) (by decide) (fun _=>trivial) (congrArg (fun z=>FV.one (tv (.int .i64 z))) ?_)
  exact AK h1 h3
 (iterate 3 refine eL ?_);refine o1 ?_;refine o1 ?_;refine nl ?_;refine fK rfl ?_;refine sq ?_;refine rl ?_;refine o1 ?_;refine ld ?_;refine o1 ?_;refine nl ?_
 refine fK (congrArg (fun b=>FV.one (tv (.bool b))) h1) ?_
 refine sk ?_;refine sq ?_;refine rl ?_;refine o1 ?_;refine ld ?_;refine o1 ?_;refine ld ?_
 refine ca (Gm (by omega) (aH (by omega) _) (by omega) (aH (by omega) _)) Ug ⟨a1 rfl,a1 rfl,rfl⟩ (.one (tv (.int .i64 (((vl 4294967296 (dg 4294967296 (k).natAbs):Nat):Int)-((vl 4294967296 (dg 4294967296 (k').natAbs):Nat):Int)).sign))) ?_
 refine o1 ?_;refine nl ?_;refine rt ?_;refine en (.inl rfl) rfl (aT (cA _)) (by decide) (fun _=>trivial) (congrArg (fun z=>FV.one (tv (.int .i64 z))) ?_)
 rw[bI,bI];exact AN h1 h3
theorem lK {a:Zi}{k:Int}(ha:Zn a k):aC true Tryz.prog 61 [] [gF a] (aM (.one (tv (.int .i64 k.sign)))):=by
 refine bR Tryz.func61 rfl Tryz.ntmps61 rfl aA rfl fun N w c0 h0=>?_
 have hkl:=ha.len
 refine sq ?_;refine rl ?_;refine bx 0 ?_;refine o1 ?_;refine nl ?_;refine sq ?_;refine rl ?_;refine ld ?_;refine o1 ?_
 refine ca (Oo ha MG) DG ⟨aB rfl,nK rfl (.cons .t (.cons .nil .nil)),rfl⟩ (.one (tv (.int .i64 ((k)-(0)).sign))) ?_;refine o1 ?_;refine nl ?_;refine rt ?_
 exact en (.inl rfl) rfl (aT (cA _)) (by decide) (fun _=>trivial) (congrArg (fun z=>FV.one (tv (.int .i64 z))) (by rw[Int.sub_zero]))
theorem xD {a:Zi}{k:Int}(ha:Zn a k):aC true Tryz.prog 63 [] [gF a] (aM (kO (-k))):=by
 refine bR Tryz.func63 rfl Tryz.ntmps63 rfl aA rfl fun N w c0 h0=>?_
 have hkl:=ha.len
 refine sq ?_;refine rl ?_;refine bx 0 ?_;refine al 1 ?_;refine nl ?_;refine sq ?_;refine rd [0,1] (fun i=>[8].contains i) mixed ?_
 refine aU 0 ?_;refine aU 4 ?_;refine aI 1 rfl (fA ha) mL ⟨aB rfl,rfl⟩ (kF (k)) ?_;refine df 2 ?_;refine df 3 ?_;refine aI 5 rfl (fA ha) mL ⟨aB rfl,rfl⟩ (kF (k)) ?_
 refine df 6 ?_;refine iF 2 7 rfl (jC (K:=-k) (by omega) (aH (by omega) _) (by rw[bI];exact Jz k)) cP ⟨a1 rfl,a1 rfl,rfl⟩ ?_
 refine dst 8 ?_;refine aN ?_;refine rt ?_
 exact en (.inl rfl) rfl (aT (.agg (.cons (.id rfl) (.cons (.sl (trs:=aJ (dg 4294967296 (-k).natAbs)) rfl rfl (aW _) (aP _)) .nil)))) (by decide) (fun _=>dN (-k)) rfl
theorem pR {a b:Zi}{k k':Int}(ha:Zn a k) (hb:Zn b k'):aC true Tryz.prog 62 [] [gF a,gF b] (aM (kO (k+k'))):=by
 refine bR Tryz.func62 rfl Tryz.ntmps62 rfl aA rfl fun N w c0 h0=>?_
 have hkl:=ha.len
 have hkl':=hb.len
 refine sq ?_;refine rl ?_;refine bx 0 ?_;refine bx 1 ?_;refine al 2 ?_;refine nl ?_;refine sq ?_;refine rl ?_;refine ld ?_;refine ca (fA ha) mL ⟨aB rfl,rfl⟩ (kF (k)) ?_
 refine st ?_;refine nl ?_;refine sq ?_;refine rl ?_;refine ld ?_;refine ca (fA hb) mL ⟨aB rfl,rfl⟩ (kF (k')) ?_;refine st ?_;refine nl ?_;refine sq ?_;refine sq ?_;refine rl ?_
 refine o1 ?_;refine ld ?_;refine o1 ?_;refine ld ?_;refine o1 ?_;refine nl ?_;refine vE rfl (fun h1=>?_) (fun h1=>?_)
 ·refine sq ?_;refine rd [0,1,2] (fun i=>[8].contains i) mixed ?_
  refine dv 0 ?_;refine aU 1 ?_;refine dv 2 ?_;refine aU 3 ?_;refine dv 4 ?_;refine aU 5 ?_
  have hn2:=Ad (xs:=(dg 4294967296 (k).natAbs)) (ys:=(dg 4294967296 (k').natAbs)) (aH (by omega) _) (aH (by omega) _)
  refine aI 6 rfl (FS (by omega) (aH (by omega) _) (by omega) (aH (by omega) _)) IH ⟨a1 rfl,a1 rfl,rfl⟩ (.one (.t (sU false (dg 4294967296 (vl 4294967296 (dg 4294967296 (k).natAbs)+vl 4294967296 (dg 4294967296 (k').natAbs)))))) ?_
  refine iF 3 7 rfl (jC (K:=k+k') (by omega) (aH (by omega) _) (by simp only[bS (B:=4294967296) (by omega)];exact Bs rfl (eq_of_beq h1))) cP ⟨a1 rfl,a1 rfl,rfl⟩ ?_
  refine dst 8 ?_;refine aN ?_;refine rt ?_
  exact en (.inl rfl) rfl (aT (.agg (.cons (.id rfl) (.cons (.sl (trs:=aJ (dg 4294967296 (k+k').natAbs)) rfl rfl (aW _) (aP _)) .nil)))) (by decide) (fun _=>dN (k+k')) rfl
 refine sk ?_;refine sq ?_;refine rl ?_;refine o1 ?_;refine ld ?_;refine o1 ?_;refine ld ?_
 have hn3:=Ka (xs:=(dg 4294967296 (k).natAbs)) (ys:=(dg 4294967296 (k').natAbs)) (aH (by omega) _)
 refine ca (Rj (by omega) (aH (by omega) _) (by omega) (aH (by omega) _)) Wl ⟨a1 rfl,a1 rfl,rfl⟩ (.tup [.one (.t (sU false (dg 4294967296 (vl 4294967296 (dg 4294967296 (k).natAbs)-vl 4294967296 (dg 4294967296 (k').natAbs))))),.one (tv (.int .i64 (if vl 4294967296 (dg 4294967296 (k).natAbs)<vl 4294967296 (dg 4294967296 (k').natAbs)then 2 else 0)))]) ?_
 (iterate 5 refine o1 ?_);refine nl ?_;refine sq ?_;refine sq ?_;refine rl ?_;refine o1 ?_;refine o1 ?_;refine nl ?_;refine bX rfl (fun h4=>?_) (fun h4=>?_)
 ·refine sq ?_;refine rl ?_;refine o1 ?_;refine ld ?_;refine o1 ?_
  refine fG 3 (jC (K:=k+k') (by omega) (aH (by omega) _) (by simp only[bS (B:=4294967296) (by omega)];exact Kb rfl (ne_of_beq_false h1) (fun h8=>by rw[bI,bI,if_pos h8]at h4;omega))) cP ⟨a1 rfl,a1 rfl,rfl⟩ ?_
  refine st ?_;refine nl ?_;refine rt ?_
  exact en (.inl rfl) rfl (aT (.agg (.cons (.id rfl) (.cons (.sl (trs:=aJ (dg 4294967296 (k+k').natAbs)) rfl rfl (aW _) (aP _)) .nil)))) (by decide) (fun _=>dN (k+k')) rfl
 refine sk ?_;refine sq ?_;refine rl ?_;refine o1 ?_;refine ld ?_;refine o1 ?_;refine ld ?_
 have hn5:=Ka (xs:=(dg 4294967296 (k').natAbs)) (ys:=(dg 4294967296 (k).natAbs)) (aH (by omega) _)
 refine ca (Rj (by omega) (aH (by omega) _) (by omega) (aH (by omega) _)) Wl ⟨a1 rfl,a1 rfl,rfl⟩ (.tup [.one (.t (sU false (dg 4294967296 (vl 4294967296 (dg 4294967296 (k').natAbs)-vl 4294967296 (dg 4294967296 (k).natAbs))))),.one (tv (.int .i64 (if vl 4294967296 (dg 4294967296 (k').natAbs)<vl 4294967296 (dg 4294967296 (k).natAbs)then 2 else 0)))]) ?_
 (iterate 4 refine o1 ?_);refine nl ?_;refine sq ?_;refine rl ?_;refine o1 ?_;refine ld ?_;refine o1 ?_
 refine fG 3 (jC (K:=k+k') (by omega) (aH (by omega) _) (by simp only[bS (B:=4294967296) (by omega)];exact Kc rfl (ne_of_beq_false h1) (Decidable.byContradiction fun h8=>h4 (by rw[bI,bI,if_neg h8])))) cP ⟨a1 rfl,a1 rfl,rfl⟩ ?_
 refine st ?_;refine nl ?_;refine rt ?_
 exact en (.inl rfl) rfl (aT (.agg (.cons (.id rfl) (.cons (.sl (trs:=aJ (dg 4294967296 (k+k').natAbs)) rfl rfl (aW _) (aP _)) .nil)))) (by decide) (fun _=>dN (k+k')) rfl
theorem FT {a b:Zi}{k k':Int}(ha:Zn a k) (hb:Zn b k'):aC true Tryz.prog 60 [] [gF a,gF b] (aM (kO (k-k'))):=by
 refine bR Tryz.func60 rfl Tryz.ntmps60 rfl aA rfl fun N w c0 h0=>?_
 have hkl:=ha.len
 have hkl':=hb.len
 refine sq ?_;refine rl ?_;refine bx 0 ?_;refine bx 1 ?_;refine al 2 ?_;refine nl ?_;refine sq ?_;refine rd [0,1,2] (fun i=>[4].contains i) mixed ?_
 refine aU 0 ?_;refine aU 1 ?_;have hn1:=iI (k')
 refine aI 2 rfl (xD hb) Ll ⟨aB rfl,rfl⟩ (kF (-k')) ?_;refine iF 3 3 rfl (pR ha (Zn.of (k:=-k') (by omega))) zD ⟨aB rfl,aB rfl,rfl⟩ ?_
 refine dst 4 ?_;refine aN ?_;refine rt ?_
 exact en (.inl rfl) rfl (aT (.agg (.cons (.id rfl) (.cons (.sl (trs:=aJ (dg 4294967296 (k+-k').natAbs)) rfl rfl (aW _) (aP _)) .nil)))) (by decide) (fun _=>dN (k+-k')) rfl
end Go.Proofs.YthmgbcdidlkpoaaGreat
