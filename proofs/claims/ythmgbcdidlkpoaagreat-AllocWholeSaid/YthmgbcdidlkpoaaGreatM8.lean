/- Part 8 of a proof: G3 to A3. -/
import Derived.Test.YthmgbcdidlkpoaaGreatM7
import Derived.Test.YthmgbcdidlkpoaaGreatM6
import Derived.Test.YthmgbcdidlkpoaaGreatM5
import Derived.Laws.BytesArg
set_option maxRecDepth 100000
set_option linter.unusedVariables false
set_option linter.unusedSimpArgs false
namespace Go.Proofs.YthmgbcdidlkpoaaGreat
open Go Go.RowKit
theorem Rf (xs:List Nat):((aK xs).map AV.t).take (aK xs).length=(aK xs).map .t:=List.take_of_length_le (by simp)
theorem nO {a b:Zi}{k k':Int}(ha:Zg a k) (hb:Zg b k') (hz0:k'≠0):aD true Tryz.prog 120 [] [gF a,gF b] (aM (.tup [kO (k.fdiv k'),kO (k.fmod k'),.one (tv (.int .i64 0))])):=by
 refine bK Tryz.func120 rfl Tryz.ntmps120 rfl aA rfl fun N w c0 h0=>?_
 have hkl:=ha.len
 have hkl':=hb.len
 have hq:(dg 4294967296 (k.natAbs/k'.natAbs)).length≤300000000000:=Nat.le_trans (fN (Nat.div_le_self _ _)) hkl
 have hr0:=Nat.mod_lt k.natAbs (show 0<k'.natAbs by omega)
 have hrl:(dg 4294967296 (k.natAbs%k'.natAbs)).length≤300000000000:=Nat.le_trans (fN (Nat.le_of_lt hr0)) hkl'
 refine sq ?_;refine rl ?_;refine bx 0 ?_;refine bx 1 ?_;refine al 2 ?_;refine al 3 ?_;refine o1 ?_;refine nl ?_
 refine md (γ:=Unit) (fun _=>cG [(4,.one (.pt 0 0)),(5,.one (.pt 1 0)),(6,.one (tv (.int .i64 ((0:Nat):Int)))),(7,.one (.pt 2 0)),(8,.one (.pt 3 0))]) (fun _=>([⟨24,0,[tv (.bool false),tv (.slice none 0 0)]⟩,⟨24,0,[tv (.bool false),tv (.slice none 0 0)]⟩,⟨105,0,[tv (.bool (aF k)),.t (sU false (dg 4294967296 k.natAbs))]⟩,⟨105,0,[tv (.bool (aF k')),.t (sU false (dg 4294967296 k'.natAbs))]⟩]:List Ob).map some) (fun _=>True) ?_ fun _ _=>?_
 ·refine rd [0,1,2,3] (fun i=>[7].contains i) mixed ?_
  refine aX 0 ?_;refine aX 2 ?_;refine WO.three (i:=1) (j:=4) (m:=5) (by kernel_rfl) ?_ ?_ ?_
  ·refine cS 1 rfl (dB ha) dC ⟨aB rfl,rfl⟩ (kF (k)) ?_;refine WO.three (i:=3) (j:=4) (m:=5) (by kernel_rfl) ?_ ?_ ?_
   ·refine cS 3 rfl (dB hb) dC ⟨aB rfl,rfl⟩ (kF (k')) ?_;refine WO.two (i:=4) (j:=5) (by kernel_rfl) ?_ ?_
    ·refine bP (key:=4) 4 rfl rfl aA rfl ⟨rfl,rfl,rfl,rfl,trivial⟩ ?_;refine eA (key:=5) 5 (by kernel_rfl) rfl rfl aA rfl ⟨rfl,rfl,rfl,rfl,trivial⟩ ?_
     refine aR 6 (by kernel_rfl) rfl rfl aA rfl rfl rfl rfl ⟨rfl,rfl,rfl,rfl,trivial⟩ ?_
     refine dst 7 ?_;refine aO ?_;exact⟨(),trivial,aJ h0 [2,3,4,5] _ _ (by decide) ⟨rfl,rfl,rfl,rfl,rfl,trivial⟩ ⟨oe rfl rfl,oe rfl rfl,oe rfl rfl,oe rfl rfl,rfl⟩⟩
    refine bP (key:=4) 5 rfl rfl aA rfl ⟨rfl,rfl,rfl,rfl,trivial⟩ ?_;refine eA (key:=5) 4 (by kernel_rfl) rfl rfl aA rfl ⟨rfl,rfl,rfl,rfl,trivial⟩ ?_
    refine aR 6 (by kernel_rfl) rfl rfl aA rfl rfl rfl rfl ⟨rfl,rfl,rfl,rfl,trivial⟩ ?_
    refine dst 7 ?_;refine aO ?_;exact⟨(),trivial,aJ h0 [2,3,5,4] _ _ (by decide) ⟨rfl,rfl,rfl,rfl,rfl,trivial⟩ ⟨oe rfl rfl,oe rfl rfl,oe rfl rfl,oe rfl rfl,rfl⟩⟩
   ·refine bP (key:=4) 4 rfl rfl aA rfl ⟨rfl,rfl,rfl,rfl,trivial⟩ ?_;refine WO.two (i:=3) (j:=5) (by kernel_rfl) ?_ ?_
    ·refine cS 3 rfl (dB hb) dC ⟨aB rfl,rfl⟩ (kF (k')) ?_;refine eA (key:=5) 5 (by kernel_rfl) rfl rfl aA rfl ⟨rfl,rfl,rfl,rfl,trivial⟩ ?_
     refine aR 6 (by kernel_rfl) rfl rfl aA rfl rfl rfl rfl ⟨rfl,rfl,rfl,rfl,trivial⟩ ?_
     refine dst 7 ?_;refine aO ?_;exact⟨(),trivial,aJ h0 [2,3,4,5] _ _ (by decide) ⟨rfl,rfl,rfl,rfl,rfl,trivial⟩ ⟨oe rfl rfl,oe rfl rfl,oe rfl rfl,oe rfl rfl,rfl⟩⟩
    refine bP (key:=5) 5 rfl rfl aA rfl ⟨rfl,rfl,rfl,rfl,trivial⟩ ?_;refine aI 3 rfl (dB hb) dC ⟨aB rfl,rfl⟩ (kF (k')) ?_
    refine aR 6 (by kernel_rfl) rfl rfl aA rfl rfl rfl rfl ⟨rfl,rfl,rfl,rfl,trivial⟩ ?_
    refine dst 7 ?_;refine aO ?_;exact⟨(),trivial,aJ h0 [2,3,4,5] _ _ (by decide) ⟨rfl,rfl,rfl,rfl,rfl,trivial⟩ ⟨oe rfl rfl,oe rfl rfl,oe rfl rfl,oe rfl rfl,rfl⟩⟩
   refine bP (key:=4) 5 rfl rfl aA rfl ⟨rfl,rfl,rfl,rfl,trivial⟩ ?_;refine WO.two (i:=3) (j:=4) (by kernel_rfl) ?_ ?_
   ·refine cS 3 rfl (dB hb) dC ⟨aB rfl,rfl⟩ (kF (k')) ?_;refine eA (key:=5) 4 (by kernel_rfl) rfl rfl aA rfl ⟨rfl,rfl,rfl,rfl,trivial⟩ ?_
    refine aR 6 (by kernel_rfl) rfl rfl aA rfl rfl rfl rfl ⟨rfl,rfl,rfl,rfl,trivial⟩ ?_
    refine dst 7 ?_;refine aO ?_;exact⟨(),trivial,aJ h0 [2,3,5,4] _ _ (by decide) ⟨rfl,rfl,rfl,rfl,rfl,trivial⟩ ⟨oe rfl rfl,oe rfl rfl,oe rfl rfl,oe rfl rfl,rfl⟩⟩
   refine bP (key:=5) 4 rfl rfl aA rfl ⟨rfl,rfl,rfl,rfl,trivial⟩ ?_;refine aI 3 rfl (dB hb) dC ⟨aB rfl,rfl⟩ (kF (k')) ?_
   refine aR 6 (by kernel_rfl) rfl rfl aA rfl rfl rfl rfl ⟨rfl,rfl,rfl,rfl,trivial⟩ ?_
   refine dst 7 ?_;refine aO ?_;exact⟨(),trivial,aJ h0 [2,3,5,4] _ _ (by decide) ⟨rfl,rfl,rfl,rfl,rfl,trivial⟩ ⟨oe rfl rfl,oe rfl rfl,oe rfl rfl,oe rfl rfl,rfl⟩⟩
  ·refine bP (key:=4) 4 rfl rfl aA rfl ⟨rfl,rfl,rfl,rfl,trivial⟩ ?_;refine WO.two (i:=1) (j:=5) (by kernel_rfl) ?_ ?_
   ·refine cS 1 rfl (dB ha) dC ⟨aB rfl,rfl⟩ (kF (k)) ?_;refine WO.two (i:=3) (j:=5) (by kernel_rfl) ?_ ?_
    ·refine cS 3 rfl (dB hb) dC ⟨aB rfl,rfl⟩ (kF (k')) ?_;refine eA (key:=5) 5 (by kernel_rfl) rfl rfl aA rfl ⟨rfl,rfl,rfl,rfl,trivial⟩ ?_
     refine aR 6 (by kernel_rfl) rfl rfl aA rfl rfl rfl rfl ⟨rfl,rfl,rfl,rfl,trivial⟩ ?_
     refine dst 7 ?_;refine aO ?_;exact⟨(),trivial,aJ h0 [2,3,4,5] _ _ (by decide) ⟨rfl,rfl,rfl,rfl,rfl,trivial⟩ ⟨oe rfl rfl,oe rfl rfl,oe rfl rfl,oe rfl rfl,rfl⟩⟩
    refine bP (key:=5) 5 rfl rfl aA rfl ⟨rfl,rfl,rfl,rfl,trivial⟩ ?_;refine aI 3 rfl (dB hb) dC ⟨aB rfl,rfl⟩ (kF (k')) ?_
    refine aR 6 (by kernel_rfl) rfl rfl aA rfl rfl rfl rfl ⟨rfl,rfl,rfl,rfl,trivial⟩ ?_
    refine dst 7 ?_;refine aO ?_;exact⟨(),trivial,aJ h0 [2,3,4,5] _ _ (by decide) ⟨rfl,rfl,rfl,rfl,rfl,trivial⟩ ⟨oe rfl rfl,oe rfl rfl,oe rfl rfl,oe rfl rfl,rfl⟩⟩
   refine bP (key:=5) 5 rfl rfl aA rfl ⟨rfl,rfl,rfl,rfl,trivial⟩ ?_;refine aI 1 rfl (dB ha) dC ⟨aB rfl,rfl⟩ (kF (k)) ?_
   refine aI 3 rfl (dB hb) dC ⟨aB rfl,rfl⟩ (kF (k')) ?_;refine aR 6 (by kernel_rfl) rfl rfl aA rfl rfl rfl rfl ⟨rfl,rfl,rfl,rfl,trivial⟩ ?_
   refine dst 7 ?_;refine aO ?_;exact⟨(),trivial,aJ h0 [2,3,4,5] _ _ (by decide) ⟨rfl,rfl,rfl,rfl,rfl,trivial⟩ ⟨oe rfl rfl,oe rfl rfl,oe rfl rfl,oe rfl rfl,rfl⟩⟩
  refine bP (key:=4) 5 rfl rfl aA rfl ⟨rfl,rfl,rfl,rfl,trivial⟩ ?_;refine WO.two (i:=1) (j:=4) (by kernel_rfl) ?_ ?_
  ·refine cS 1 rfl (dB ha) dC ⟨aB rfl,rfl⟩ (kF (k)) ?_;refine WO.two (i:=3) (j:=4) (by kernel_rfl) ?_ ?_
   ·refine cS 3 rfl (dB hb) dC ⟨aB rfl,rfl⟩ (kF (k')) ?_;refine eA (key:=5) 4 (by kernel_rfl) rfl rfl aA rfl ⟨rfl,rfl,rfl,rfl,trivial⟩ ?_
    refine aR 6 (by kernel_rfl) rfl rfl aA rfl rfl rfl rfl ⟨rfl,rfl,rfl,rfl,trivial⟩ ?_
    refine dst 7 ?_;refine aO ?_;exact⟨(),trivial,aJ h0 [2,3,5,4] _ _ (by decide) ⟨rfl,rfl,rfl,rfl,rfl,trivial⟩ ⟨oe rfl rfl,oe rfl rfl,oe rfl rfl,oe rfl rfl,rfl⟩⟩
   refine bP (key:=5) 4 rfl rfl aA rfl ⟨rfl,rfl,rfl,rfl,trivial⟩ ?_;refine aI 3 rfl (dB hb) dC ⟨aB rfl,rfl⟩ (kF (k')) ?_
   refine aR 6 (by kernel_rfl) rfl rfl aA rfl rfl rfl rfl ⟨rfl,rfl,rfl,rfl,trivial⟩ ?_
   refine dst 7 ?_;refine aO ?_;exact⟨(),trivial,aJ h0 [2,3,5,4] _ _ (by decide) ⟨rfl,rfl,rfl,rfl,rfl,trivial⟩ ⟨oe rfl rfl,oe rfl rfl,oe rfl rfl,oe rfl rfl,rfl⟩⟩
  refine bP (key:=5) 4 rfl rfl aA rfl ⟨rfl,rfl,rfl,rfl,trivial⟩ ?_;refine aI 1 rfl (dB ha) dC ⟨aB rfl,rfl⟩ (kF (k)) ?_
  refine aI 3 rfl (dB hb) dC ⟨aB rfl,rfl⟩ (kF (k')) ?_;refine aR 6 (by kernel_rfl) rfl rfl aA rfl rfl rfl rfl ⟨rfl,rfl,rfl,rfl,trivial⟩ ?_
  refine dst 7 ?_;refine aO ?_;exact⟨(),trivial,aJ h0 [2,3,5,4] _ _ (by decide) ⟨rfl,rfl,rfl,rfl,rfl,trivial⟩ ⟨oe rfl rfl,oe rfl rfl,oe rfl rfl,oe rfl rfl,rfl⟩⟩
 refine sq ?_;refine rl ?_;refine o1 ?_;refine o1 ?_;refine ld ?_;refine o1 ?_;refine o1 ?_;refine ld ?_
 have hD:aD true Tryz.prog 136 [] [.one (.t (sU false (dg 4294967296 k.natAbs))),.one (.t (sU false (dg 4294967296 k'.natAbs)))] (aM (.tup [.one (.t (sU true (dg 4294967296 (k.natAbs/k'.natAbs)))),.one (.t (sU true (dg 4294967296 (k.natAbs%k'.natAbs)))),.one (tv (.int .i64 0))])):=by
  have h9:=Vi (aH (by omega) k.natAbs) (aH (by omega) k'.natAbs) (by omega) (by omega) (by rw[bC];omega)
  rwa[bC,bC]at h9
 refine fJ 4 hD IZ ⟨a1 rfl,a1 rfl,rfl⟩ ?_;(iterate 7 refine o1 ?_);refine nl ?_;refine sq ?_;refine sq ?_;refine rl ?_;refine o1 ?_;refine o1 ?_;refine nl ?_
 refine bU rfl (fun h1=>?_) (fun h1=>?_)
 ·exact absurd rfl h1
 refine sk ?_;refine sq ?_;refine sq ?_;refine rl ?_;refine o1 ?_;refine o1 ?_;refine ld ?_;refine o1 ?_;refine o1 ?_;refine ld ?_;refine o1 ?_;refine o1 ?_
 refine WL.splitb (t:=37) rfl (fun h2=>?_) (fun h2=>?_)
 ·(iterate 4 refine o1 ?_);refine nl ?_;refine bU rfl (fun h3=>?_) (fun h3=>?_)
  ·refine sq ?_;refine rl ?_;refine o1 ?_;refine bs 6 ?_
   have hA:aD true Tryz.prog 129 [] [.one (.t (sU false (dg 4294967296 (k.natAbs/k'.natAbs)))),.one (.t (sU false [1]))] (aM (.one (.t (sU true (dg 4294967296 ((k.natAbs/k'.natAbs)+1)))))):=by
    have h9:=Xm (aH (by omega) (k.natAbs/k'.natAbs)) (Lim.cons (show 1<4294967296 by omega) Lim.nil) (by omega) (by simp)
    rwa[bO (by omega),show vl 4294967296 [1]=1 from rfl]at h9
   refine fJ 7 hA Xa ⟨vO rfl (.sl rfl rfl (Rf _) (aQ _)),vO rfl (.sl (trs:=aK [1]) rfl rfl rfl rfl),rfl⟩ ?_;refine o1 ?_;refine nl ?_;refine rl ?_;refine o1 ?_
   refine o1 ?_;refine ld ?_;refine o1 ?_
   have hS:aD true Tryz.prog 131 [] [.one (.t (sU false (dg 4294967296 k'.natAbs))),.one (.t (sU false (dg 4294967296 (k.natAbs%k'.natAbs))))] (aM (.tup [.one (.t (sU true (dg 4294967296 (k'.natAbs-(k.natAbs%k'.natAbs))))),.one (tv (.int .i64 0))])):=by
    have h9:=Nc (aH (by omega) k'.natAbs) (aH (by omega) (k.natAbs%k'.natAbs)) (by omega) (by rw[bC,bO (by omega)];omega)
    rwa[bC,bO (by omega)]at h9
   refine fJ 8 hS Mn ⟨a1 rfl,vO rfl (.sl rfl rfl (Rf _) (aQ _)),rfl⟩ ?_;(iterate 4 refine o1 ?_);refine nl ?_;refine sq ?_
   have hd:k.fdiv k'=bI (aF k != aF k') ((k.natAbs/k'.natAbs)+1)∧k.fmod k'=bI (aF k') (k'.natAbs-(k.natAbs%k'.natAbs)):=by
    have h9:aF k≠aF k':=by simpa using h2
    have h7:k.natAbs%k'.natAbs≠0:=by have h5:=kP (m:=(k.natAbs%k'.natAbs)) rfl;rw[decide_eq_true (by omega)]at h5;have h6:=of_decide_eq_true h5.symm;omega
    have h8:=AJ (a:=k) (b:=k') hz0 h9 h7
    rw[h2];exact h8
   refine rd [1,2,3,6] (fun i=>[15,16].contains i) mixed ?_
   refine dv 0 ?_;refine dv 1 ?_;refine aX 2 ?_;refine dv 3 ?_;refine dv 4 ?_;refine aX 5 ?_;refine dv 6 ?_;refine dv 7 ?_;refine dv 9 ?_;refine dv 10 ?_;refine aX 11 ?_
   refine dv 12 ?_
   refine yO 8 9 [7] rfl (fY (b:=(aF k != aF k')) (m:=((k.natAbs/k'.natAbs)+1)) (K:=(k.fdiv k')) hd.1.symm) mU ⟨bJ rfl,rfl⟩ ⟨rfl,rfl,rfl⟩ ⟨rfl,rfl,rfl,rfl,trivial⟩ ?_
   refine yO 13 10 [8] rfl (fY (b:=(aF k')) (m:=(k'.natAbs-(k.natAbs%k'.natAbs))) (K:=(k.fmod k')) hd.2.symm) mU ⟨bJ rfl,rfl⟩ ⟨rfl,rfl,rfl⟩ ⟨rfl,rfl,rfl,rfl,trivial⟩ ?_
   refine aR 14 (by kernel_rfl) rfl rfl aA rfl rfl rfl rfl ⟨rfl,rfl,rfl,rfl,trivial⟩ ?_
   refine dst 15 ?_;refine dF 16 (by kernel_rfl) rfl rfl aA rfl (by trivial) ?_ (fun h=>by first | rfl | cases h)
   refine aO ?_;refine rt ?_
   exact en (.inl rfl) rfl (nP (.cons (.agg (.cons (.id rfl) (.cons (.sl (trs:=aK (dg 4294967296 ((k.fdiv k')).natAbs)) rfl rfl (aV _) (aQ _)) .nil))) (.cons (.agg (.cons (.id rfl) (.cons (.sl (trs:=aK (dg 4294967296 ((k.fmod k')).natAbs)) rfl rfl (aV _) (aQ _)) .nil))) (.cons (cD (.int .i64 0)) .nil)))) (by decide) (fun _=>⟨dO (k.fdiv k'),dO (k.fmod k'),trivial,trivial⟩) rfl
  refine sk ?_;refine sq ?_;have hd:k.fdiv k'=bI (aF k != aF k') (k.natAbs/k'.natAbs)∧k.fmod k'=bI (aF k') (k.natAbs%k'.natAbs):=by
   have h9:aF k≠aF k':=by simpa using h2
   have h7:k.natAbs%k'.natAbs=0:=by have h5:=kP (m:=(k.natAbs%k'.natAbs)) rfl;rw[decide_eq_false (by omega)]at h5;have h6:=of_decide_eq_false h5.symm;omega
   have h8:=AI (a:=k) (b:=k') hz0 h9 h7
   rw[h2];exact h8
  refine rd [1,2,3] (fun i=>[15,16].contains i) mixed ?_
  refine dv 0 ?_;refine dv 1 ?_;refine aX 2 ?_;refine dv 3 ?_;refine dv 4 ?_;refine aX 5 ?_;refine dv 6 ?_;refine dv 7 ?_;refine dv 9 ?_;refine dv 10 ?_;refine aX 11 ?_
  refine dv 12 ?_
  refine yO 8 6 [4] rfl (fY (b:=(aF k != aF k')) (m:=(k.natAbs/k'.natAbs)) (K:=(k.fdiv k')) hd.1.symm) mU ⟨bJ rfl,rfl⟩ ⟨rfl,rfl,rfl⟩ ⟨rfl,rfl,rfl,trivial⟩ ?_
  refine yO 13 7 [5] rfl (fY (b:=(aF k')) (m:=(k.natAbs%k'.natAbs)) (K:=(k.fmod k')) hd.2.symm) mU ⟨bJ rfl,rfl⟩ ⟨rfl,rfl,rfl⟩ ⟨rfl,rfl,rfl,trivial⟩ ?_
  refine aR 14 (by kernel_rfl) rfl rfl aA rfl rfl rfl rfl ⟨rfl,rfl,rfl,trivial⟩ ?_
  refine dst 15 ?_;refine dF 16 (by kernel_rfl) rfl rfl aA rfl (by trivial) ?_ (fun h=>by first | rfl | cases h)
  refine aO ?_;refine rt ?_
  exact en (.inl rfl) rfl (nP (.cons (.agg (.cons (.id rfl) (.cons (.sl (trs:=aK (dg 4294967296 ((k.fdiv k')).natAbs)) rfl rfl (aV _) (aQ _)) .nil))) (.cons (.agg (.cons (.id rfl) (.cons (.sl (trs:=aK (dg 4294967296 ((k.fmod k')).natAbs)) rfl rfl (aV _) (aQ _)) .nil))) (.cons (cD (.int .i64 0)) .nil)))) (by decide) (fun _=>⟨dO (k.fdiv k'),dO (k.fmod k'),trivial,trivial⟩) rfl
 (iterate 3 refine eO ?_);refine o1 ?_;refine nl ?_;refine gQ rfl ?_;refine sk ?_;refine sq ?_
 have hd:k.fdiv k'=bI (aF k != aF k') (k.natAbs/k'.natAbs)∧k.fmod k'=bI (aF k') (k.natAbs%k'.natAbs):=by
  have h9:aF k=aF k':=by simpa using h2
  have h8:=AH (a:=k) (b:=k') hz0 h9
  rw[h2];exact h8
 refine rd [1,2,3] (fun i=>[15,16].contains i) mixed ?_
 refine dv 0 ?_;refine dv 1 ?_;refine aX 2 ?_;refine dv 3 ?_;refine dv 4 ?_;refine aX 5 ?_;refine dv 6 ?_;refine dv 7 ?_;refine dv 9 ?_;refine dv 10 ?_;refine aX 11 ?_
 refine dv 12 ?_
 refine yO 8 6 [4] rfl (fY (b:=(aF k != aF k')) (m:=(k.natAbs/k'.natAbs)) (K:=(k.fdiv k')) hd.1.symm) mU ⟨bJ rfl,rfl⟩ ⟨rfl,rfl,rfl⟩ ⟨rfl,rfl,rfl,trivial⟩ ?_
 refine yO 13 7 [5] rfl (fY (b:=(aF k')) (m:=(k.natAbs%k'.natAbs)) (K:=(k.fmod k')) hd.2.symm) mU ⟨bJ rfl,rfl⟩ ⟨rfl,rfl,rfl⟩ ⟨rfl,rfl,rfl,trivial⟩ ?_
 refine aR 14 (by kernel_rfl) rfl rfl aA rfl rfl rfl rfl ⟨rfl,rfl,rfl,trivial⟩ ?_
 refine dst 15 ?_;refine dF 16 (by kernel_rfl) rfl rfl aA rfl (by trivial) ?_ (fun h=>by first | rfl | cases h)
 refine aO ?_;refine rt ?_
 exact en (.inl rfl) rfl (nP (.cons (.agg (.cons (.id rfl) (.cons (.sl (trs:=aK (dg 4294967296 ((k.fdiv k')).natAbs)) rfl rfl (aV _) (aQ _)) .nil))) (.cons (.agg (.cons (.id rfl) (.cons (.sl (trs:=aK (dg 4294967296 ((k.fmod k')).natAbs)) rfl rfl (aV _) (aQ _)) .nil))) (.cons (cD (.int .i64 0)) .nil)))) (by decide) (fun _=>⟨dO (k.fdiv k'),dO (k.fmod k'),trivial,trivial⟩) rfl
theorem qQ {p:Rat}{L:Nat}(h:Sz L p) (hL:L≤68719476736:=by omega):Zg (.of p.num) p.num:=.of (Nat.le_trans h.1 (by omega))
theorem jV {p:Rat}{L:Nat}(h:Sz L p) (hL:L≤68719476736:=by omega):Zg ⟨false,dg 4294967296 p.den⟩ (p.den:Int):=⟨aH (by omega) _,Nat.le_trans h.2 (by omega),pR p.den⟩
theorem Cj {q:Rat}{n d:Int}(h1:q.num=n) (h2:(q.den:Int)=d):FV.agg [tv (.bool (aF n)),.t (sU true (dg 4294967296 n.natAbs)),tv (.bool (aF d)),.t (sU true (dg 4294967296 d.natAbs))]=qO q:=by
 subst h1 h2
 rw[vG]
 rfl
theorem uE {a b:Zi}{k k':Int}(ha:Zg a k) (hb:Zg b k') (hz0:k'≠0):aD true Tryz.prog 86 [] [gF a,gF b] (aM (qO (Rat.divInt k k'))):=by
 refine bK Tryz.func86 rfl Tryz.ntmps86 rfl aA rfl fun N w c0 h0=>?_
 have hkl:=ha.len
 have hkl':=hb.len
 have hgl:(dg 4294967296 ((Int.gcd k k':Nat):Int).natAbs).length≤300000000000:=Nat.le_trans (fN (Nat.le_of_dvd (by omega) (Nat.gcd_dvd_right ..))) hkl'
 have hng:=iP ((Int.gcd k k':Nat):Int)
 have hg0:((Int.gcd k k':Nat):Int)≠0:=fun e=>hz0 (Int.gcd_eq_zero_iff.1 (show Int.gcd k k'=0 by omega)).2
 refine sq ?_;refine rl ?_;refine bx 0 ?_;refine bx 1 ?_;refine al 2 ?_;refine nl ?_;refine sq ?_;refine rl ?_;refine ld ?_;refine ld ?_
 refine ca (Xn ha hb) Wy ⟨aB rfl,aB rfl,rfl⟩ (kF (((Int.gcd k k':Nat):Int))) ?_;refine al 3 ?_;refine st ?_;refine nl ?_;refine sq ?_;refine sq ?_;refine rl ?_;refine ld ?_
 refine ca (pO hb) yW ⟨aB rfl,rfl⟩ (.one (tv (.int .i64 k'.sign))) ?_;refine o1 ?_;refine nl ?_;refine bU rfl (fun h1=>?_) (fun h1=>?_)
 ·refine rl ?_;refine ld ?_;refine ca (Lo (Zg.of (k:=((Int.gcd k k':Nat):Int)) hgl)) Sy ⟨aB rfl,rfl⟩ (kF (-(((Int.gcd k k':Nat):Int)))) ?_;refine st ?_;refine nl ?_;refine sq ?_
  refine rl ?_;refine ld ?_;refine ld ?_;refine fJ 4 (nO ha (Zg.of (k:=(-(((Int.gcd k k':Nat):Int)))) (by omega)) (by omega)) xH ⟨aB rfl,aB rfl,rfl⟩ ?_
  (iterate 4 refine o1 ?_);refine al 6 ?_;refine al 7 ?_;refine st ?_;refine st ?_;refine o1 ?_;refine nl ?_;refine sq ?_;refine rl ?_;refine ld ?_;refine ld ?_
  refine fJ 8 (nO hb (Zg.of (k:=(-(((Int.gcd k k':Nat):Int)))) (by omega)) (by omega)) xH ⟨aB rfl,aB rfl,rfl⟩ ?_
  (iterate 4 refine o1 ?_);refine al 10 ?_;refine al 11 ?_;refine st ?_;refine st ?_;refine o1 ?_;refine nl ?_;refine sq ?_;refine rl ?_;refine ld ?_;refine ld ?_;refine o1 ?_
  refine st ?_;refine nl ?_;refine rt ?_;have hk9:k'<0:=by
   rcases Int.lt_trichotomy k' 0 with h8 | h8 | h8
   ·exact h8
   ·exact absurd h8 hz0
   rw[Int.sign_eq_one_of_pos h8]at h1;omega
  have h9:=Ga (N:=k) (D:=k') hk9
  exact en (.inl rfl) rfl (aP (.agg (.cons (.id rfl) (.cons (.sl (trs:=aK (dg 4294967296 (((k).fdiv (-(((Int.gcd k k':Nat):Int))))).natAbs)) rfl rfl (aV _) (aQ _)) (.cons (.id rfl) (.cons (.sl (trs:=aK (dg 4294967296 (((k').fdiv (-(((Int.gcd k k':Nat):Int))))).natAbs)) rfl rfl (aV _) (aQ _)) (.nil))))))) (by decide) (fun _=>qA (⟨aF ((k).fdiv (-(((Int.gcd k k':Nat):Int)))),dg 4294967296 (((k).fdiv (-(((Int.gcd k k':Nat):Int))))).natAbs,aF ((k').fdiv (-(((Int.gcd k k':Nat):Int)))),dg 4294967296 (((k').fdiv (-(((Int.gcd k k':Nat):Int))))).natAbs⟩:Fr4)) (Cj h9.1 h9.2)
 refine sk ?_;refine sq ?_;refine rl ?_;refine ld ?_;refine ld ?_;refine fJ 4 (nO ha (Zg.of (k:=((Int.gcd k k':Nat):Int)) (by omega)) (by omega)) xH ⟨aB rfl,aB rfl,rfl⟩ ?_
 (iterate 4 refine o1 ?_);refine al 6 ?_;refine al 7 ?_;refine st ?_;refine st ?_;refine o1 ?_;refine nl ?_;refine sq ?_;refine rl ?_;refine ld ?_;refine ld ?_
 refine fJ 8 (nO hb (Zg.of (k:=((Int.gcd k k':Nat):Int)) (by omega)) (by omega)) xH ⟨aB rfl,aB rfl,rfl⟩ ?_
 (iterate 4 refine o1 ?_);refine al 10 ?_;refine al 11 ?_;refine st ?_;refine st ?_;refine o1 ?_;refine nl ?_;refine sq ?_;refine rl ?_;refine ld ?_;refine ld ?_;refine o1 ?_
 refine st ?_;refine nl ?_;refine rt ?_;have hk9:0<k':=by
  rcases Int.lt_trichotomy k' 0 with h8 | h8 | h8
  ·rw[Int.sign_eq_neg_one_of_neg h8]at h1;omega
  ·exact absurd h8 hz0
  exact h8
 have h9:=lX (N:=k) (D:=k') hk9
 exact en (.inl rfl) rfl (aP (.agg (.cons (.id rfl) (.cons (.sl (trs:=aK (dg 4294967296 (((k).fdiv ((Int.gcd k k':Nat):Int))).natAbs)) rfl rfl (aV _) (aQ _)) (.cons (.id rfl) (.cons (.sl (trs:=aK (dg 4294967296 (((k').fdiv ((Int.gcd k k':Nat):Int))).natAbs)) rfl rfl (aV _) (aQ _)) (.nil))))))) (by decide) (fun _=>qA (⟨aF ((k).fdiv ((Int.gcd k k':Nat):Int)),dg 4294967296 (((k).fdiv ((Int.gcd k k':Nat):Int))).natAbs,aF ((k').fdiv ((Int.gcd k k':Nat):Int)),dg 4294967296 (((k').fdiv ((Int.gcd k k':Nat):Int))).natAbs⟩:Fr4)) (Cj h9.1 h9.2)
theorem JK {p q:Rat}(hp:Sz 68719476736 p) (hq:Sz 68719476736 q):aD true Tryz.prog 82 [] [qF (.of p),qF (.of q)] (aM (qO (p+q))):=by
 refine bK Tryz.func82 rfl Tryz.ntmps82 rfl aA rfl fun N w c0 h0=>?_
 have z1:=(qQ hp).len;have z2:=(qQ hq).len;have z3:=(jV hp).len;have z4:=(jV hq).len
 have y1:(dg 4294967296 p.num.natAbs).length≤68719476736:=hp.1;have y2:(dg 4294967296 q.num.natAbs).length≤68719476736:=hq.1;have y3:(dg 4294967296 p.den).length≤68719476736:=hp.2;have y4:(dg 4294967296 q.den).length≤68719476736:=hq.2;have y5:(dg 4294967296 (p.den:Int).natAbs).length≤68719476736:=hp.2;have y6:(dg 4294967296 (q.den:Int).natAbs).length≤68719476736:=hq.2
 refine sq ?_;refine rl ?_;refine bx 0 ?_;refine bx 1 ?_;refine al 2 ?_;refine nl ?_;refine sq ?_;refine sq ?_;refine rl ?_;refine o1 ?_;refine ld ?_;refine o1 ?_;refine ld ?_
 refine ca (Nf (jV hp) (jV hq) (by have h8:=gL (p.den:Int) (-(q.den:Int));have h7:=iP (q.den:Int);rw[Int.natAbs_natCast]at h7 h8;rw[Int.sub_eq_add_neg];omega)) Lc ⟨aB rfl,aB rfl,rfl⟩ (.one (tv (.int .i64 ((p.den:Int)-(q.den:Int)).sign))) ?_
 refine o1 ?_;refine nl ?_;refine bU rfl (fun h1=>?_) (fun h1=>?_)
 ·refine sq ?_;refine rd [0,1,2] (fun i=>[8].contains i) mixed ?_
  refine dv 0 ?_;refine aX 1 ?_;refine dv 2 ?_;refine aX 3 ?_;refine dv 5 ?_;refine aX 6 ?_;have hn2:=gL (p.num) (q.num)
  refine aI 4 rfl (Cb (qQ hp) (qQ hq)) Lm ⟨aB rfl,aB rfl,rfl⟩ (kF (p.num+q.num)) ?_
  refine iM 3 7 rfl (uE (Zg.of (k:=(p.num+q.num)) (by omega)) (jV hp) (by have h8:=p.den_nz;have h7:=q.den_nz;first | omega | exact Int.mul_ne_zero (by omega) (by omega))) Ld ⟨aB rfl,aB rfl,rfl⟩ ?_
  refine dst 8 ?_;refine aO ?_;refine rt ?_
  exact en (.inl rfl) rfl (aP (.agg (.cons (.id rfl) (.cons (.sl (trs:=aK (dg 4294967296 (Rat.divInt ((p.num+q.num)) ((p.den:Int))).num.natAbs)) rfl rfl (aV _) (aQ _)) (.cons (.id rfl) (.cons (.sl (trs:=aK (dg 4294967296 (Rat.divInt ((p.num+q.num)) ((p.den:Int))).den)) rfl rfl (aV _) (aQ _)) .nil)))))) (by decide) (fun _=>sM (Rat.divInt ((p.num+q.num)) ((p.den:Int)))) (by rw[show(Rat.divInt ((p.num+q.num)) ((p.den:Int)))=p+q from Uu (by have h8:=Int.sign_eq_zero_iff_zero.1 h1;omega)];rfl)
 refine sk ?_;refine sq ?_;refine rd [0,1,2] (fun i=>[17].contains i) mixed ?_
 refine dv 0 ?_;refine aX 1 ?_;refine dv 2 ?_;refine aX 3 ?_;refine dv 5 ?_;refine aX 6 ?_;refine dv 7 ?_;refine aX 8 ?_;refine dv 11 ?_;refine aX 12 ?_;refine dv 13 ?_
 refine aX 14 ?_;have hn3:=dH (p.num) ((q.den:Int))
 refine aI 4 rfl (Ci (qQ hp) (jV hq)) qZ ⟨aB rfl,aB rfl,rfl⟩ (kF (p.num*(q.den:Int))) ?_;have hn4:=dH (q.num) ((p.den:Int))
 refine aI 9 rfl (Ci (qQ hq) (jV hp)) qZ ⟨aB rfl,aB rfl,rfl⟩ (kF (q.num*(p.den:Int))) ?_;have hn5:=gL ((p.num*(q.den:Int))) ((q.num*(p.den:Int)))
 refine aI 10 rfl (Cb (Zg.of (k:=(p.num*(q.den:Int))) (by omega)) (Zg.of (k:=(q.num*(p.den:Int))) (by omega))) Lm ⟨aB rfl,aB rfl,rfl⟩ (kF ((p.num*(q.den:Int))+(q.num*(p.den:Int)))) ?_
 have hn6:=dH ((p.den:Int)) ((q.den:Int))
 refine aI 15 rfl (Ci (jV hp) (jV hq)) qZ ⟨aB rfl,aB rfl,rfl⟩ (kF ((p.den:Int)*(q.den:Int))) ?_
 refine iM 3 16 rfl (uE (Zg.of (k:=((p.num*(q.den:Int))+(q.num*(p.den:Int)))) (by omega)) (Zg.of (k:=((p.den:Int)*(q.den:Int))) (by omega)) (by have h8:=p.den_nz;have h7:=q.den_nz;first | omega | exact Int.mul_ne_zero (by omega) (by omega))) Ld ⟨aB rfl,aB rfl,rfl⟩ ?_
 refine dst 17 ?_;refine aO ?_;refine rt ?_
 exact en (.inl rfl) rfl (aP (.agg (.cons (.id rfl) (.cons (.sl (trs:=aK (dg 4294967296 (Rat.divInt (((p.num*(q.den:Int))+(q.num*(p.den:Int)))) (((p.den:Int)*(q.den:Int)))).num.natAbs)) rfl rfl (aV _) (aQ _)) (.cons (.id rfl) (.cons (.sl (trs:=aK (dg 4294967296 (Rat.divInt (((p.num*(q.den:Int))+(q.num*(p.den:Int)))) (((p.den:Int)*(q.den:Int)))).den)) rfl rfl (aV _) (aQ _)) .nil)))))) (by decide) (fun _=>sM (Rat.divInt (((p.num*(q.den:Int))+(q.num*(p.den:Int)))) (((p.den:Int)*(q.den:Int))))) (by rw[show(Rat.divInt (((p.num*(q.den:Int))+(q.num*(p.den:Int)))) (((p.den:Int)*(q.den:Int))))=p+q from oM p q];rfl)
theorem Rg {k:Int}{f:FuncId}{args:List FV}(h:∀(N:Nat→Prop) (w:World) us,cO w N [] args us→(∀b,N b→b<w.heap.size)→Calls Tryz.prog f us.toArray w (FG k w)):aD true Tryz.prog f [] args (aM (kO k)):=by
 intro N w cs us hL
 obtain⟨rfl,hf⟩:=uA hL
 refine(h _ w us hf (fun b hb=>hb.1)).mono ?_
 rintro e W ⟨A,n,c,rfl,ho,hb⟩
 obtain⟨y1,a1,a2,a3,a4⟩:=tZ (N:=fun b=>true=false∧(b<W.heap.size∧b∉VT.fpL [])∧(N b∨w.heap.size≤b)) ho
 refine .mk0 (y:=[.w (.bool (aF k)),y1]) rfl hb (by simp only[VT.okL,VT.ok];exact⟨trivial,a3,trivial⟩) ?_ (fun b hb'=>?_) ?_
 ·simp only[VT.fpL,VT.fp,a4,List.nil_append,List.append_nil]
  exact yN A n c
 ·simp only[VT.fpL,VT.fp,a4,List.nil_append,List.append_nil]at hb'
  exact ho.blk b hb'
 refine⟨by simp only[List.map_cons,List.map_nil,a1];rfl,?_⟩
 simp only[List.map_cons,List.map_nil,bF,CR,sU]
 exact⟨by simp[OR],iG (fun _ _=>rfl) (fun b hb=>absurd hb.1 (by simp)) _ _ a2,trivial⟩
theorem jG {n:Int}(h1:-9223372036854775808≤n) (h2:n≤9223372036854775807):aD true Tryz.prog 36 [] [.one (tv (.int .i64 n))] (aM (kO n)):=Rg fun N w us hf hN=>by
 obtain⟨u,rfl,h3⟩:=Uw hf
 obtain rfl:=aS (qB h3)
 exact FH n w h1 h2
theorem BB {m:Nat}:decide (((m:Int)-1).sign=0)=(m==1):=by
 rw[decide_eq_decide.2 Int.sign_eq_zero_iff_zero]
 rw[Bool.eq_iff_iff,decide_eq_true_eq,beq_iff_eq]
 omega
theorem Gk {z:Int}:0<z.sign↔0<z:=by
 rcases Int.lt_trichotomy z 0 with h | h | h
 ·rw[Int.sign_eq_neg_one_of_neg h];omega
 ·subst h;decide
 rw[Int.sign_eq_one_of_pos h];omega
theorem yP:aD true Tryz.prog 84 [] [] (aM (kO 1)):=by
 refine bK Tryz.func84 rfl Tryz.ntmps84 rfl aA rfl fun N w c0 h0=>?_
 refine sq ?_;refine rl ?_;refine al 0 ?_;refine nl ?_;refine sq ?_;refine rl ?_;refine fJ 1 (jG (n:=1) (by omega) (by omega)) jH ⟨a1 rfl,rfl⟩ ?_
 refine st ?_;refine nl ?_;refine rt ?_
 exact en (.inl rfl) rfl (aP (.agg (.cons (.id rfl) (.cons (.sl (trs:=aK (dg 4294967296 ((1:Int)).natAbs)) rfl rfl (aV _) (aQ _)) .nil)))) (by decide) (fun _=>dO 1) rfl
theorem Gl {a:Fr4}{p:Rat}(ha:Qn a p):aD true Tryz.prog 89 [] [qF a] (aM (.one (tv (.bool (cV a.s a.x a.t a.y))))):=by
 refine bK Tryz.func89 rfl Tryz.ntmps89 rfl aA rfl fun N w c0 h0=>?_
 refine sq ?_;refine rl ?_;refine bx 0 ?_;refine o1 ?_;refine nl ?_;refine sq ?_;refine rl ?_;refine o1 ?_;refine ld ?_
 refine ca (uR (a:=⟨a.s,a.x⟩) ((Du ha).g)) Lx ⟨aB rfl,rfl⟩ (.one (tv (.bool (cM a.s a.x)))) ?_;refine o1 ?_;refine WL.splitb (t:=6) rfl (fun h1=>?_) (fun h1=>?_)
 ·refine o1 ?_;refine ld ?_;refine ca (uR (a:=⟨a.t,a.y⟩) ((rA ha).g)) Lx ⟨aB rfl,rfl⟩ (.one (tv (.bool (cM a.t a.y)))) ?_;refine o1 ?_;refine o1 ?_
  refine WL.splitb (t:=11) rfl (fun h2=>?_) (fun h2=>?_)
  ·refine o1 ?_;refine ld ?_;refine ca (pO (a:=⟨a.t,a.y⟩) ((rA ha).g)) yW ⟨aB rfl,rfl⟩ (.one (tv (.int .i64 (cY a.t a.y).sign))) ?_;(iterate 3 refine o1 ?_)
   refine WL.split (t:=17) rfl (fun h3=>?_) (fun h3=>?_)
   ·refine o1 ?_;refine ld ?_;refine o1 ?_;refine ld ?_;have hpos:0<cY a.t a.y:=Gk.1 h3
    have hyl:(dg 4294967296 (cY a.t a.y).natAbs).length≤137438953472:=Zn.len (rA (p:=p) ha)
    have hgl9:(dg 4294967296 ((Int.gcd (cY a.s a.x) (cY a.t a.y):Nat):Int).natAbs).length≤137438953472:=Nat.le_trans (fN (Nat.le_of_dvd (by omega) (Nat.gcd_dvd_right ..))) hyl
    have hgl:(dg 4294967296 ((Int.gcd (cY a.s a.x) (cY a.t a.y):Nat):Int).natAbs).length≤300000000000:=Nat.le_trans hgl9 (by omega)
    refine ca (Xn (a:=⟨a.s,a.x⟩) (b:=⟨a.t,a.y⟩) ((Du ha).g) ((rA ha).g)) Wy ⟨aB rfl,aB rfl,rfl⟩ (kF ((Int.gcd (cY a.s a.x) (cY a.t a.y):Nat):Int)) ?_
    refine ca (yP) Lg rfl (kF 1) ?_
    refine ca (Nf (Zg.of (k:=((Int.gcd (cY a.s a.x) (cY a.t a.y):Nat):Int)) hgl) (Zg.of (k:=1) (by decide)) (by have h8:=wW ((Int.gcd (cY a.s a.x) (cY a.t a.y):Nat):Int) 1;have h7:(dg 4294967296 (1:Int).natAbs).length=1:=rfl;omega)) Lc ⟨aB rfl,aB rfl,rfl⟩ (.one (tv (.int .i64 (((Int.gcd (cY a.s a.x) (cY a.t a.y):Nat):Int)-1).sign))) ?_
    (iterate 3 refine o1 ?_);refine nl ?_;refine rt ?_
    exact en (.inl rfl) rfl (aP (cD _)) (by decide) (fun _=>trivial) (congrArg (fun b=>FV.one (tv (.bool b))) (by unfold cV;rw[h1,h2,decide_eq_true hpos,←BB];rfl))
   (iterate 8 refine eO ?_);refine o1 ?_;refine o1 ?_;refine nl ?_;refine rt ?_
   exact en (.inl rfl) rfl (aP (cD _)) (by decide) (fun _=>trivial) (congrArg (fun b=>FV.one (tv (.bool b))) (by unfold cV;rw[h1,h2,decide_eq_false (fun h9=>h3 (Gk.2 h9))];rfl))
  (iterate 4 refine eO ?_);refine o1 ?_;refine o1 ?_;(iterate 8 refine eO ?_);refine o1 ?_;refine o1 ?_;refine nl ?_;refine rt ?_
  exact en (.inl rfl) rfl (aP (cD _)) (by decide) (fun _=>trivial) (congrArg (fun b=>FV.one (tv (.bool b))) (by unfold cV;rw[h1,h2];rfl))
 (iterate 3 refine eO ?_);refine o1 ?_;refine o1 ?_;(iterate 4 refine eO ?_);refine o1 ?_;refine o1 ?_;(iterate 8 refine eO ?_);refine o1 ?_;refine o1 ?_;refine nl ?_;refine rt ?_
 exact en (.inl rfl) rfl (aP (cD _)) (by decide) (fun _=>trivial) (congrArg (fun b=>FV.one (tv (.bool b))) (by unfold cV;rw[h1];rfl))
theorem JN:FV.agg [tv (.bool false),.t (sU false []),tv (.bool (aF 1)),.t (sU false (dg 4294967296 (1:Int).natAbs))]=qF (.of 0):=rfl
theorem wC {a:Fr4}{p:Rat}(ha:Qn a p):aD false Tryz.prog 74 [] [qF a] (aM (qF (.of p))):=by
 refine bK Tryz.func74 rfl Tryz.ntmps74 rfl aA rfl fun N w c0 h0=>?_
 refine sq ?_;refine rl ?_;refine bx 0 ?_;refine al 1 ?_;refine nl ?_;refine sq ?_;refine sq ?_;refine rl ?_;refine ld ?_
 refine ca (Gl ha) Sd ⟨aB rfl,rfl⟩ (.one (tv (.bool (cV a.s a.x a.t a.y)))) ?_;refine WL.splitb (t:=4) rfl (fun h1=>?_) (fun h1=>?_)
 ·refine o1 ?_;refine nl ?_;refine gQ rfl ?_;refine sk ?_;refine sq ?_;refine rl ?_;refine ld ?_;refine st ?_;refine nl ?_;refine rt ?_
  exact en (.inl rfl) rfl (aP (.agg (.cons (.id rfl) (.cons (.id rfl) (.cons (.id rfl) (.cons (.id rfl) .nil)))))) (by decide) (fun h=>by cases h) (by rw[ha.right h1];rfl)
 refine o1 ?_;refine nl ?_;refine mF rfl ?_;refine sq ?_;refine rl ?_;refine o1 ?_;refine ca (yP) Lg rfl (kF 1) ?_;refine o1 ?_;refine st ?_;refine nl ?_;refine rt ?_
 have hq9:=ha.wrong h1
 subst hq9;exact en (.inl rfl) rfl (aP (.agg (.cons (.id rfl) (.cons .nilf (.cons (.id rfl) (.cons (.id rfl) .nil)))))) (by decide) (fun h=>by cases h) JN
theorem BC {a:Fr4}{p:Rat}(ha:Qn a p):aD true Tryz.prog 34 [] [qF a] (aM (.one (tv (.int .i64 p.num.sign)))):=by
 refine bK Tryz.func34 rfl Tryz.ntmps34 rfl aA rfl fun N w c0 h0=>?_
 refine sq ?_;refine rl ?_;refine bx 0 ?_;refine o1 ?_;refine nl ?_;refine sq ?_;refine rl ?_;refine ld ?_;refine ca (wC ha) fL ⟨aB rfl,rfl⟩ (qF (.of p)) ?_;refine o1 ?_
 refine ca (pO (Zg.of (k:=p.num) (Nat.le_trans ha.sz.1 (by omega)))) yW ⟨aB rfl,rfl⟩ (.one (tv (.int .i64 p.num.sign))) ?_
 refine o1 ?_;refine nl ?_;refine rt ?_;exact en (.inl rfl) rfl (aP (cD _)) (by decide) (fun _=>trivial) rfl
theorem FS {a:Fr4}{p:Rat}(ha:Qn a p):aD true Tryz.prog 90 [] [qF a] (aM (qO (-p))):=by
 refine bK Tryz.func90 rfl Tryz.ntmps90 rfl aA rfl fun N w c0 h0=>?_
 refine sq ?_;refine rl ?_;refine bx 0 ?_;refine al 1 ?_;refine nl ?_;refine sq ?_;refine rl ?_;refine ld ?_;refine ca (wC ha) fL ⟨aB rfl,rfl⟩ (qF (.of p)) ?_;refine st ?_
 refine nl ?_;refine sq ?_;refine rd [0,1] (fun i=>[7].contains i) mixed ?_
 refine dv 0 ?_;refine aX 1 ?_;refine dv 3 ?_;refine aX 4 ?_;refine iM 2 2 rfl (Lo (Zg.of (k:=p.num) (Nat.le_trans ha.sz.1 (by omega)))) Sy ⟨aB rfl,rfl⟩ ?_
 refine iM 3 5 rfl (JJ (jV ha.sz)) IU ⟨aB rfl,rfl⟩ ?_;refine df 6 ?_;refine dst 7 ?_;refine aO ?_;refine rt ?_;have hda:(((p.den:Int).natAbs:Nat):Int).natAbs=p.den:=rfl
 exact en (.inl rfl) rfl (aP (.agg (.cons (.id rfl) (.cons (.sl (trs:=aK (dg 4294967296 (-(p.num)).natAbs)) rfl rfl (aV _) (aQ _)) (.cons (.id rfl) (.cons (.sl (trs:=aK (dg 4294967296 (((p.den:Int).natAbs:Nat):Int).natAbs)) rfl rfl (aV _) (aQ _)) .nil)))))) (by decide) (fun _=>qA (⟨_,dg 4294967296 (-(p.num)).natAbs,_,dg 4294967296 (((p.den:Int).natAbs:Nat):Int).natAbs⟩:Fr4)) (show FV.agg [tv (.bool (aF (-(p.num)))),.t (sU true (dg 4294967296 (-(p.num)).natAbs)),tv (.bool (aF (((p.den:Int).natAbs:Nat):Int))),.t (sU true (dg 4294967296 (((p.den:Int).natAbs:Nat):Int).natAbs))]=qO (-p) from Cj (q:=-p) (by simp) (by simp))
theorem Vl {n:Int}(h1:-9223372036854775808≤n) (h2:n≤9223372036854775807):aD true Tryz.prog 45 [] [.one (tv (.int .i64 n))] (aM (qO ((n:Int):Rat))):=by
 refine bK Tryz.func45 rfl Tryz.ntmps45 rfl aA rfl fun N w c0 h0=>?_
 refine sq ?_;refine rl ?_;refine al 0 ?_;refine nl ?_;refine sq ?_;refine rl ?_;refine o1 ?_;refine fJ 1 (jG (n:=n) h1 h2) jH ⟨a1 rfl,rfl⟩ ?_;refine fJ 2 (yP) Lg rfl ?_
 refine o1 ?_;refine st ?_;refine nl ?_;refine rt ?_
 exact en (.inl rfl) rfl (aP (.agg (.cons (.id rfl) (.cons (.sl (trs:=aK (dg 4294967296 n.natAbs)) rfl rfl (aV _) (aQ _)) (.cons (.id rfl) (.cons (.sl (trs:=aK (dg 4294967296 (1:Int).natAbs)) rfl rfl (aV _) (aQ _)) .nil)))))) (by decide) (fun _=>qA (⟨_,dg 4294967296 n.natAbs,_,dg 4294967296 (1:Int).natAbs⟩:Fr4)) (Cj (q:=((n:Int):Rat)) (n:=n) (d:=1) (by simp) (by simp))
theorem sR (k:Int):iL (kO k):=by
 simp only[iL,kO,mQ,List.map_cons,List.map_nil,iR,oU,sU,lC]
 exact⟨trivial,.inl ⟨trivial,eK _⟩,trivial⟩
section
variable {f:FuncId}{args:List FV}
end
section
variable {a b:Fr4}{p q:Rat}{x y:Zi}{k k':Int}
theorem GS:aD true Tryz.prog 84 [] [] (aM (kO 1)):=yP
theorem pN (h:Zn x k) (h':Zn y k'):aD true Tryz.prog 85 [] [gF x,gF y] (aM (kO (k*k'))):=Ci h.g h'.g
theorem Nq (h:Zn x k) (h':Zn y k'):aD true Tryz.prog 23 [] [gF x,gF y] (aM (.one (tv (.int .i64 (k-k').sign)))):=Nf h.g h'.g (by have:=wW k k';have:=h.len;have:=h'.len;omega)
theorem xJ (h:Qn a p):aD true Tryz.prog 34 [] [qF a] (aM (.one (tv (.int .i64 p.num.sign)))):=BC h
theorem Lh (hp:Sz 68719476736 p) (hq:Sz 68719476736 q):aD true Tryz.prog 82 [] [qF (.of p),qF (.of q)] (aM (qO (p+q))):=JK hp hq
theorem Cy (ha:a.ok):aD true Tryz.prog 89 [] [qF a] (aM (.one (tv (.bool (cV a.s a.x a.t a.y))))):=Gl ⟨ha,rfl⟩
theorem lO {z:Int}(h1:-9223372036854775808≤z) (h2:z≤9223372036854775807):aD true Tryz.prog 45 [] [.one (tv (.int .i64 z))] (aM (qO (z:Rat))):=Vl h1 h2
theorem Ns (hp:Sz 68719476736 p):aD true Tryz.prog 82 [] [qF (.of p),qF (.of ((0:Int):Rat))] (aM (qO p)):=by
 have:=Lh hp ((kU (z:=0) (by omega) (by omega)).mono (by omega))
 rwa[show p+((0:Int):Rat)=p from Rat.add_zero p]at this
end
def bZ (x:Rat):Rat:=hG x [0]
theorem FT (x:Rat):bZ x=if x<0 then 0 else x:=rfl
section
variable {x y:Zi}{k k':Int}
theorem At (h:Zn x k) (h':Zn y k') (h0:k'≠0):aD true Tryz.prog 86 [] [gF x,gF y] (aM (qO (Rat.divInt k k'))):=uE h.g h'.g h0
theorem HE {a:Fr4}{p:Rat}(h:Qn a p):aD true Tryz.prog 90 [] [qF a] (aM (qO (-p))):=FS h
theorem Vz (p q:Rat):Rat.divInt (p.num*q.num) ((p.den:Int)*(q.den:Int))=p*q:=by
 rw[←Rat.divInt_mul_divInt,Rat.num_divInt_den,Rat.num_divInt_den]
theorem Og {L M:Nat}{p q:Rat}(hp:Sz L p) (hq:Sz M q):Sz (L+M) (p*q):=by
 rw[←Vz p q]
 have h5:=iU (Int.mul_pos (show(0:Int)<p.den by have:=p.den_pos;omega) (show(0:Int)<q.den by have:=q.den_pos;omega)) (jE hp.1 hq.1) (jE (lH hp) (lH hq))
 exact⟨h5.1,h5.2⟩
theorem Au (p:Rat) (l:List Rat) (q:Rat):hG p (l++[q])=if hG p l<q then q else hG p l:=by
 unfold hG
 rw[List.foldl_append]
 rfl
theorem Ib {L:Nat}{p:Rat}(h:Sz L p) (hL:2≤L):Sz L (bZ p):=by
 rw[FT]
 split
 ·exact(kU (z:=0) (by omega) (by omega)).mono (by omega)
 exact h
theorem den_nz (p q:Rat):(p.den:Int)*(q.den:Int)≠0:=by
 have h1:=p.den_pos
 have h2:=q.den_pos
 exact Int.ne_of_gt (Int.mul_pos (by omega) (by omega))
theorem Gm {L:Nat}{k:Int}(h:jO L k):jO L (-k):=by
 unfold jO
 rw[Int.natAbs_neg]
 exact h
theorem yQ {n:Int}(h1:-9223372036854775808≤n) (h2:n≤9223372036854775807):jO 2 n:=nT h1 h2
theorem IA {n d:Int}(h1:-9223372036854775808≤n) (h2:n≤9223372036854775807) (h3:-9223372036854775808≤d) (h4:d≤9223372036854775807):Sz 2 (Rat.divInt n d):=by
 rcases Int.lt_trichotomy d 0 with hd | hd | hd
 ·rw[←Rat.neg_divInt_neg]
  obtain⟨e1,e2⟩:=iU (a:=-n) (b:=-d) (L:=2) (M:=2) (by omega) (Gm (yQ h1 h2)) (Gm (yQ h3 h4))
  exact⟨e1,e2⟩
 ·subst hd
  rw[Rat.divInt_zero]
  exact⟨Nat.zero_le _,by decide⟩
 obtain⟨e1,e2⟩:=iU (a:=n) (b:=d) (L:=2) (M:=2) hd (yQ h1 h2) (yQ h3 h4)
 exact⟨e1,e2⟩
end
def fl (q:Rat):Int:=q.floor
def fc (q:Rat):Rat:=q-((fl q:Int):Rat)
theorem pQ (q:Rat):q.num.fdiv (q.den:Int)=fl q:=by
 unfold fl
 rw[Rat.floor_def,Int.fdiv_eq_ediv_of_nonneg _ (by omega)]
theorem Rh (q:Rat):0≤fc q:=by
 have:=Rat.floor_le q
 unfold fc fl
 grind
theorem Xo (q:Rat):fc q<1:=by
 have:=Rat.lt_floor_add_one q
 unfold fc fl
 rw[Rat.intCast_add]at this
 have h1:((1:Int):Rat)=1:=rfl
 grind
theorem Xp (q:Rat):q*(q.den:Rat)=(q.num:Rat):=by
 have h:=Rat.num_divInt_den q
 have h2:Rat.divInt q.num (q.den:Int)=(q.num:Rat)/((q.den:Int):Rat):=Rat.divInt_eq_div _ _
 have h3:((q.den:Int):Rat)=(q.den:Rat):=rfl
 have h4:(q.den:Rat)≠0:=by
  have:=q.den_pos
  intro h
  have:q.den=0:=by exact_mod_cast h
  omega
 rw[h2,h3]at h
 have h6:(q.num:Rat)/(q.den:Rat)*(q.den:Rat)=(q.num:Rat):=Rat.div_mul_cancel h4
 rwa[h]at h6
theorem pA (a b:Int) (hb:b≠0):Rat.divInt a b*(b:Rat)=(a:Rat):=by
 rw[Rat.divInt_eq_div,Rat.div_def,Rat.mul_assoc,Rat.inv_mul_cancel _ (by simpa using hb),Rat.mul_one]
theorem BD {a b c:Rat}(hc:c≠0) (h:a*c=b*c):a=b:=by
 have h2:=congrArg (· *c⁻¹) h
 simpa only[Rat.mul_assoc,Rat.mul_inv_cancel c hc,Rat.mul_one]using h2
theorem Nv (q:Rat):Rat.divInt (q.num.fmod (q.den:Int)) (q.den:Int)=fc q:=by
 have hd:(q.den:Int)≠0:=by have:=q.den_nz;omega
 have hd2:(((q.den:Nat):Int):Rat)≠0:=by simpa using hd
 refine BD hd2 ?_
 rw[pA _ _ hd]
 have h1:q.num.fmod (q.den:Int)=q.num-(q.den:Int)*fl q:=by
  have:=Int.fmod_add_mul_fdiv q.num (q.den:Int)
  rw[pQ]at this
  omega
 rw[h1,Rat.intCast_sub,Rat.intCast_mul,←Xp q,fc]
 have h2:(((q.den:Nat):Int):Rat)=(q.den:Rat):=rfl
 rw[h2]
 grind
theorem Eb (z:Int):fl (z:Rat)=z:=Rat.floor_intCast z
theorem FU (z:Int):fc (z:Rat)=0:=by rw[fc,Eb];grind
theorem Ah {q:Rat}(h:q.den=1):((q.num:Int):Rat)=q:=by
 have:=Xp q
 rw[h]at this
 rw[←this]
 simp
theorem Ip {q:Rat}:fc q=0↔q.den=1:=by
 constructor
 ·intro h
  have h2:q=((fl q:Int):Rat):=by unfold fc at h;grind
  rw[h2]
  exact Rat.den_intCast _
 intro h
 rw[←Ah h]
 exact FU _
theorem Dl {q:Rat}(h:q.den=1):fl q=q.num:=by
 have:=Eb q.num
 rwa[Ah h]at this
theorem Wa (p q:Rat):Rat.divInt (p.num*(q.den:Int)) ((p.den:Int)*q.num)=p/q:=by
 have e:=Rat.num_divInt_den q
 have e2:=Rat.num_divInt_den p
 conv=>rhs;rw[←e,←e2]
 rw[Rat.div_def,Rat.inv_divInt,Rat.divInt_mul_divInt]
theorem kQ (a:Rat) (l:List Rat):aC (a::l)=a+aC l:=by
 have h:∀(l:List Rat) (x:Rat),l.foldl (· + ·) x=x+l.foldl (· + ·) 0:=by
  intro l
  induction l with
  | nil=>intro x;show x=x+0;grind
  | cons b l ih=>intro x;rw[List.foldl_cons,List.foldl_cons,ih (x+b),ih (0+b)];grind
 show(a::l).foldl (· + ·) 0=_
 rw[List.foldl_cons,h]
 show _=a+l.foldl (· + ·) 0
 grind
theorem Do:aC []=0:=rfl
theorem Ri {l:List Rat}(h:∀x∈l,0≤x):0≤aC l:=by
 induction l with
 | nil=>exact Rat.le_refl
 | cons a l ih=>
  have h1:=ih fun x hx=>h x (List.mem_cons_of_mem _ hx)
  have h2:=h a (List.mem_cons_self ..)
  rw[kQ]
  grind
theorem FW (l:List Rat):aC (l.map fun x=>-x)=-aC l:=by
 induction l with
 | nil=>simp[Do]
 | cons a l ih=>rw[List.map_cons,kQ,kQ,ih];grind
def fF (l:List Int):Int:=l.foldr (· + ·) 0
theorem oX (a:Int) (l:List Int):fF (a::l)=a+fF l:=rfl
theorem Vm (l m:List Int):fF (l++m)=fF l+fF m:=by
 induction l with
 | nil=>simp[fF]
 | cons a l ih=>rw[List.cons_append,oX,oX,ih];omega
theorem Vn (l:List Rat):aC l=((fF (l.map fl):Int):Rat)+aC (l.map fc):=by
 induction l with
 | nil=>
  show(0:Rat)=((0:Int):Rat)+0
  have:((0:Int):Rat)=0:=rfl
  grind
 | cons a l ih=>
  rw[List.map_cons,List.map_cons,kQ,kQ,oX,ih,Rat.intCast_add]
  unfold fc
  grind
def eI (l:List Rat):Int:=(aC l).num-fF (l.map fl)
theorem Ko {l:List Rat}(h:(aC l).den=1):((eI l:Int):Rat)=aC (l.map fc):=by
 have h1:=Vn l
 have h2:=Ah h
 unfold eI
 rw[Rat.intCast_sub,h2]
 grind
theorem kW {l:List Rat}(h:(aC l).den=1):0≤eI l:=by
 have h1:=Ko h
 have h2:=Ri (l:=l.map fc) fun x hx=>by
  obtain⟨y,_,rfl⟩:=List.mem_map.1 hx
  exact Rh y
 rw[←h1]at h2
 have h3:((0:Int):Rat)≤((eI l:Int):Rat):=h2
 exact Rat.intCast_le_intCast.1 h3
theorem Rj:∀{l:List Rat},l≠[]→aC (l.map fc)<(l.length:Rat)
 | [],h=>absurd rfl h
 | [a],_=>by
  have:=Xo a
  rw[List.map_cons,List.map_nil,kQ,Do]
  show fc a+0<((1:Nat):Rat)
  have h1:((1:Nat):Rat)=1:=rfl
  rw[h1]
  grind
 | a::b::l,_=>by
  have h1:=Rj (l:=b::l) (by simp)
  have h2:=Xo a
  rw[List.map_cons,kQ,List.length_cons]
  rw[Rat.natCast_add]
  have h3:((1:Nat):Rat)=1:=rfl
  grind
theorem sY {l:List Rat}(h:(aC l).den=1):eI l≤(l.length:Int):=by
 have h1:=Ko h
 by_cases hl:l=[]
 ·subst hl
  exact Int.le_of_eq rfl
 have h2:=Rj hl
 rw[←h1]at h2
 have h3:((eI l:Int):Rat)<(((l.length:Nat):Int):Rat):=h2
 have:=Rat.intCast_lt_intCast.1 h3
 omega
def gK (lt:Nat→Nat→Bool) (x:Nat):List Nat→List Nat
 | []=>[x]
 | y::l=>if lt x y then y::gK lt x l else x::y::l
def jM (lt:Nat→Nat→Bool) (l:List Nat):List Nat:=l.foldl (fun a x=>gK lt x a) []
def hH (lt:Nat→Nat→Bool) (l:List Nat):List Nat:=(jM lt l).reverse
theorem uF (lt:Nat→Nat→Bool) (x:Nat):∀l:List Nat,(gK lt x l).Perm (x::l)
 | []=>.refl _
 | y::l=>by
  unfold gK
  split
  ·exact((uF lt x l).cons y).trans (.swap x y l)
  exact .refl _
theorem Si (lt:Nat→Nat→Bool) (l:List Nat) (x:Nat):jM lt (l++[x])=gK lt x (jM lt l):=by simp[jM]
theorem Da (lt:Nat→Nat→Bool) (l:List Nat):(jM lt l).Perm l:=by
 have h:∀(l a:List Nat),(l.foldl (fun a x=>gK lt x a) a).Perm (a++l):=by
  intro l
  induction l with
  | nil=>intro a;simp
  | cons x l ih=>
   intro a
   rw[List.foldl_cons]
   refine(ih _).trans (((uF lt x a).append_right l).trans ?_)
   rw[List.cons_append]
   exact List.perm_middle.symm
 exact(h l []).trans (by simp)
theorem Ng (lt:Nat→Nat→Bool) (l:List Nat):(hH lt l).Perm l:=(List.reverse_perm _).trans (Da lt l)
def eY (f:Nat→Rat) (i k:Nat):Bool:=decide (f k<f i)||(decide (f k=f i)&&decide (i<k))
section
variable {f:Nat→Rat}{x y z:Nat}
theorem qR:eY f x y=true↔f y<f x∨(f y=f x∧x<y):=by simp[eY]
theorem Gn:eY f x y=false↔f x≤f y∧(f y=f x→y≤x):=by
 have h:eY f x y=false↔¬eY f x y=true:=by simp
 rw[h,qR]
 constructor
 ·intro h
  exact⟨by grind,fun e=>by rcases Nat.lt_or_ge x y with h9 | h9;exact absurd (Or.inr ⟨e,h9⟩) h;exact h9⟩
 rintro⟨h1,h2⟩ (h3 | ⟨h3,h4⟩)
 ·grind
 have:=h2 h3
 omega
theorem wX (h:eY f x y=true):eY f y x=false:=by
 rw[qR]at h
 rw[Gn]
 rcases h with h | ⟨h,h2⟩
 ·exact⟨by grind,fun e=>by grind⟩
 exact⟨by grind,fun _=>by omega⟩
theorem Rk (h:eY f x y=false) (h2:eY f y z=false):eY f x z=false:=by
 rw[Gn]at h h2⊢
 refine⟨by grind,fun e=>?_⟩
 have h3:f y=f x:=by grind
 have h4:f z=f y:=by grind
 have:=h.2 h3
 have:=h2.2 h4
 omega
theorem BE (h:eY f x y=false) (hn:x≠y):eY f y x=true:=by
 rw[Gn]at h
 rw[qR]
 by_cases e:f y=f x
 ·have:=h.2 e
  exact .inr ⟨e.symm,by omega⟩
 exact .inl (by grind)
theorem FX (h:eY f x y=true) (h2:eY f y z=true):eY f x z=true:=by
 cases h3:eY f x z
 ·have h4:=Rk (wX h) h3
  rw[h2]at h4
  cases h4
 rfl
end
theorem Kq (f:Nat→Rat) (x:Nat):∀l:List Nat,l.Pairwise (fun a b=>eY f a b=false)→(gK (eY f) x l).Pairwise (fun a b=>eY f a b=false)
 | [],_=>List.pairwise_singleton _ _
 | y::l,h=>by
  have h1:=List.pairwise_cons.1 h
  unfold gK
  split
  ·rename_i hx
   refine List.pairwise_cons.2 ⟨fun z hz=>?_,Kq f x l h1.2⟩
   rcases List.mem_cons.1 ((uF _ x l).mem_iff.1 hz)with rfl | hz
   ·exact wX hx
   exact h1.1 z hz
  rename_i hx
  have hx:eY f x y=false:=by simpa using hx
  refine List.pairwise_cons.2 ⟨fun z hz=>?_,h⟩
  rcases List.mem_cons.1 hz with rfl | hz
  ·exact hx
  exact Rk hx (h1.1 z hz)
theorem FY (f:Nat→Rat) (l:List Nat):(jM (eY f) l).Pairwise (fun a b=>eY f a b=false):=by
 have h:∀(l a:List Nat),a.Pairwise (fun a b=>eY f a b=false)→(l.foldl (fun a x=>gK (eY f) x a) a).Pairwise (fun a b=>eY f a b=false):=by
  intro l
  induction l with
  | nil=>intro a h;exact h
  | cons x l ih=>intro a h;exact ih _ (Kq f x a h)
 exact h l [] List.Pairwise.nil
def eW (f:Nat→Rat) (n:Nat):List Nat:=hH (eY f) (List.range n)
theorem xI {l:List Nat}{k:Nat}(h:k<l.length):l[k]? =some (nth l k):=by simp[nth,h]
section
variable {f:Nat→Rat}{n i s t:Nat}
theorem wY:(eW f n).Perm (List.range n):=Ng _ _
theorem iH:(eW f n).length=n:=by rw[wY.length_eq,List.length_range]
theorem Rl:(eW f n).Nodup:=wY.nodup_iff.2 List.nodup_range
theorem Kr:i∈eW f n↔i<n:=by rw[wY.mem_iff,List.mem_range]
theorem kR (h:t<n):(eW f n)[t]? =some (nth (eW f n) t):=xI (by rw[iH];exact h)
theorem pW (h:t<n):nth (eW f n) t<n:=Kr.1 (List.mem_of_getElem? (kR h))
theorem Aj (h:s<n) (h2:t<n) (e:nth (eW f n) s=nth (eW f n) t):s=t:=by
 have h3:(eW f n)[s]? =(eW f n)[t]? :=by rw[kR h,kR h2,e]
 exact(List.getElem?_inj (by rw[iH];exact h) Rl).1 h3
theorem FZ:(eW f n).Pairwise (fun a b=>eY f b a=false):=List.pairwise_reverse.2 (FY f _)
theorem BF (h:s<t) (ht:t<n):eY f (nth (eW f n) s) (nth (eW f n) t)=true:=by
 have h1:=(List.pairwise_iff_getElem.1 (FZ (f:=f) (n:=n))) s t (by rw[iH];omega) (by rw[iH];omega) h
 have e1:(eW f n)[s]'(by rw[iH];omega)=nth (eW f n) s:=by
  have:=kR (f:=f) (n:=n) (t:=s) (by omega)
  rw[List.getElem?_eq_getElem (by rw[iH];omega)]at this
  exact Option.some.inj this
 have e2:(eW f n)[t]'(by rw[iH];omega)=nth (eW f n) t:=by
  have:=kR (f:=f) (n:=n) (t:=t) (by omega)
  rw[List.getElem?_eq_getElem (by rw[iH];omega)]at this
  exact Option.some.inj this
 rw[e1,e2]at h1
 exact BE h1 fun e=>by have:=Aj (f:=f) (n:=n) ht (by omega) e;omega
theorem GA (h:i<n):∃t,t<n∧nth (eW f n) t=i:=by
 obtain⟨t,ht⟩:=List.mem_iff_getElem?.1 (Kr.2 h:i∈eW f n)
 have h1:=(List.getElem?_eq_some_iff.1 ht).1
 rw[iH]at h1
 refine⟨t,h1,?_⟩
 rw[kR h1]at ht
 exact Option.some.inj ht
theorem rZ (ht:t≤n):i∈(eW f n).take t↔∃s,s<t∧nth (eW f n) s=i:=by
 constructor
 ·intro h
  obtain⟨s,hs⟩:=List.mem_iff_getElem?.1 h
  rw[List.getElem?_take]at hs
  split at hs
  ·rename_i h2
   rw[kR (by omega)]at hs
   exact⟨s,h2,Option.some.inj hs⟩
  cases hs
 rintro⟨s,h1,rfl⟩
 refine List.mem_iff_getElem?.2 ⟨s,?_⟩
 rw[List.getElem?_take,if_pos h1,kR (by omega)]
theorem Ak (ht:t<n):nth (eW f n) t∉(eW f n).take t:=by
 rw[rZ (by omega)]
 rintro⟨s,h1,h2⟩
 have:=Aj (f:=f) (n:=n) (by omega) ht h2
 omega
theorem Ks (ht:t<n):i∈(eW f n).take (t+1)↔i∈(eW f n).take t∨i=nth (eW f n) t:=by
 rw[rZ (by omega),rZ (by omega)]
 constructor
 ·rintro⟨s,h1,h2⟩
  rcases Nat.lt_succ_iff_lt_or_eq.1 h1 with h3 | rfl
  ·exact .inl ⟨s,h3,h2⟩
  exact .inr h2.symm
 rintro(⟨s,h1,h2⟩ | rfl)
 ·exact⟨s,by omega,h2⟩
 exact⟨t,by omega,rfl⟩
def Bst (f:Nat→Rat) (n t i:Nat) (b:Int):Prop:=(b=-1∧∀j,j<i→j∈(eW f n).take t)∨∃m:Nat,b=(m:Int)∧m<i∧m∉(eW f n).take t∧∀j,j<i→j∉(eW f n).take t→j≠m→eY f m j=true
theorem Bst.zero:Bst f n t 0 (-1):=.inl ⟨rfl,fun j hj=>absurd hj (Nat.not_lt_zero j)⟩
variable {b:Int}
theorem Bst.given (h:Bst f n t i b) (hg:i∈(eW f n).take t):Bst f n t (i+1) b:=by
 rcases h with⟨h1,h2⟩ | ⟨m,h1,h2,h3,h4⟩
 ·refine .inl ⟨h1,fun j hj=>?_⟩
  rcases Nat.lt_succ_iff_lt_or_eq.1 hj with h9 | rfl
  ·exact h2 j h9
  exact hg
 refine .inr ⟨m,h1,by omega,h3,fun j hj hn hm=>?_⟩
 rcases Nat.lt_succ_iff_lt_or_eq.1 hj with h9 | rfl
 ·exact h4 j h9 hn hm
 exact absurd hg hn
theorem Bst.first (h:Bst f n t i b) (hg:i∉(eW f n).take t) (hb:b<0):Bst f n t (i+1) (i:Int):=by
 rcases h with⟨h1,h2⟩ | ⟨m,h1,h2,h3,h4⟩
 ·refine .inr ⟨i,rfl,by omega,hg,fun j hj hn hm=>?_⟩
  exact absurd (h2 j (by omega)) hn
 omega
theorem Bst.more {m:Nat}(h:Bst f n t i (m:Int)) (hg:i∉(eW f n).take t) (hb:f m<f i):Bst f n t (i+1) (i:Int):=by
 rcases h with⟨h1,h2⟩ | ⟨m',h1,h2,h3,h4⟩
 ·omega
 have e:m=m':=by omega
 subst e
 have h5:eY f i m=true:=qR.2 (.inl hb)
 refine .inr ⟨i,rfl,by omega,hg,fun j hj hn hm=>?_⟩
 by_cases hj2:j=m
 ·subst hj2
  exact h5
 exact FX h5 (h4 j (by omega) hn hj2)
theorem Bst.stay {m:Nat}(h:Bst f n t i (m:Int)) (hb:¬f m<f i):Bst f n t (i+1) (m:Int):=by
 rcases h with⟨h1,h2⟩ | ⟨m',h1,h2,h3,h4⟩
 ·omega
 have e:m=m':=by omega
 subst e
 refine .inr ⟨m,rfl,by omega,h3,fun j hj hn hm=>?_⟩
 rcases Nat.lt_succ_iff_lt_or_eq.1 hj with h9 | rfl
 ·exact h4 j h9 hn hm
 refine qR.2 ?_
 by_cases e:f j=f m
 ·exact .inr ⟨e,h2⟩
 exact .inl (by grind)
theorem Bst.lt {m:Nat}(h:Bst f n t i (m:Int)):m<i:=by
 rcases h with⟨h1,h2⟩ | ⟨m',h1,h2,h3,h4⟩ <;> omega
theorem Bst.last (h:Bst f n t n b) (ht:t<n):b=(nth (eW f n) t:Int):=by
 rcases h with⟨h1,h2⟩ | ⟨m,h1,h2,h3,h4⟩
 ·exact absurd (h2 _ (pW ht)) (Ak ht)
 obtain⟨s,hs,rfl⟩:=GA (f:=f) h2
 rcases Nat.lt_trichotomy s t with h5 | rfl | h5
 ·exact absurd ((rZ (by omega)).2 ⟨s,h5,rfl⟩) h3
 ·exact h1
 have h6:=h4 _ (pW ht) (Ak ht) fun e=>by have:=Aj (f:=f) (n:=n) ht hs e;omega
 have h7:=wX (BF (f:=f) h5 hs)
 rw[h6]at h7
 cases h7
end
def bG (l:List Rat) (k:Nat):Rat:=l.getD k 0
theorem kB {l:List Rat}{k:Nat}(h:k<l.length):l[k]? =some (bG l k):=by simp[bG,h]
theorem eB {l:List Rat}{k:Nat}(h:k<l.length):bG l k∈l:=List.mem_of_getElem? (kB h)
theorem Vo {l:List Rat}{g:Rat→Rat}{k:Nat}(h:k<l.length):bG (l.map g) k=g (bG l k):=by simp[bG,h]
def bY (l:List Int) (k:Nat):Int:=l.getD k 0
theorem lR {l:List Int}{k:Nat}(h:k<l.length):l[k]? =some (bY l k):=by simp[bY,h]
theorem lQ {l:List Int}{k:Nat}(h:k<l.length):bY l k∈l:=List.mem_of_getElem? (lR h)
def nR (l:List Rat) (i:Nat):Rat:=fc (bG l i)
def cA (l:List Rat):List Nat:=eW (nR l) l.length
def dS (l:List Rat) (t:Nat):List Int:=(List.range l.length).map fun i=>fl (bG l i)+if i∈(cA l).take t then 1 else 0
section
variable {l:List Rat}{i k t:Nat}
theorem iI:(dS l t).length=l.length:=by simp[dS]
theorem pV (h:i<l.length):bY (dS l t) i=fl (bG l i)+if i∈(cA l).take t then 1 else 0:=by simp[dS,bY,h]
theorem Rm (l:List Rat) (g:Rat→Int):(List.range l.length).map (fun i=>g (bG l i))=l.map g:=by
 apply List.ext_getElem?
 intro i
 by_cases h:i<l.length
 ·simp[h,bG]
 simp[h]
theorem Dj:dS l 0=l.map fl:=by
 rw[←Rm]
 unfold dS
 refine List.map_congr_left fun i _=>?_
 rw[List.take_zero,if_neg (List.not_mem_nil)]
 omega
theorem Dk (h:t<l.length):(dS l t).set (nth (cA l) t) (bY (dS l t) (nth (cA l) t)+1)=dS l (t+1):=by
 apply List.ext_getElem?
 intro i
 have hlt:nth (cA l) t<l.length:=pW (f:=nR l) h
 rw[List.getElem?_set,iI]
 by_cases hi:i<l.length
 ·rw[lR (l:=dS l (t+1)) (by rw[iI];exact hi),pV hi]
  have h1:i∈(cA l).take (t+1)↔i∈(cA l).take t∨i=nth (cA l) t:=Ks (f:=nR l) (i:=i) h
  by_cases e:nth (cA l) t=i
  ·rw[if_pos e,if_pos (by omega)]
   subst e
   rw[pV hlt,if_pos (h1.2 (.inr rfl)),if_neg (show nth (cA l) t∉(cA l).take t from Ak h)]
   congr 1
   omega
  rw[if_neg e,lR (by rw[iI];exact hi),pV hi]
  by_cases h2:i∈(cA l).take t
  ·rw[if_pos h2,if_pos (h1.2 (.inl h2))]
  rw[if_neg h2,if_neg]
  intro h3
  rcases h1.1 h3 with h4 | h4
  ·exact h2 h4
  exact e h4.symm
 rw[if_neg (fun e=>by omega),List.getElem?_eq_none (by rw[iI];omega),List.getElem?_eq_none (by rw[iI];omega)]
end
def eV (l:List Rat):List Int:=dS l (eI l).toNat
def cK (l:List Rat):List Int:=
 if(aC l).den=1 then
  if aC l<0 then(if(l.map fun x=>-x).any (fun x=>decide (x<0))then []else(eV (l.map fun x=>-x)).map fun x=>-x)
  else if l.any (fun x=>decide (x<0))then []else eV l
 else []
section
variable {l:List Rat}{i k:Nat}
theorem pY:(eV l).length=l.length:=iI
end
section
variable {l l':List Nat}{i j:Nat}
end
section
variable {x:Cx}{g:Nat→FV}{ob ob':List (Option Ob)}{cs:List Co}{ts:Array Value}{W:World}{T:List (Nat×TI)}{Q:Post}{ops:Array Oper}{rest:List Oper}{d:Nat}{ty:TypeId}{pos:String}{af:Array Edge}{gd:Option (Nat×Bool)}
theorem Lk {late:Nat→Bool}{K fr:List Nat}{fuel:Nat}{listed:Array Bool}{t ky o t' z':Nat}{ti:TI}{a:Operand}{l:List AV}{v:AV}(i:Nat) (hx:l[o]? =some v) (k:WD x ops Q late K (d::fr) true fuel (listed.setIfInBounds i true) (aW g d (.one v)) ob) (hT:bR x.P ttab:=by exact aA) (hi:ops[i]? =some ⟨some d,.load t a,ty,pos,af,gd⟩:=by rfl) (hw:aY ops x.n g gd=some true:=by rfl) (hti:bN ttab t=some ti:=by rfl) (hlk:lk x.n g a=.one (.pt ky o):=by rfl) (ho:bQ ob ky=some ⟨t',z',l⟩:=by rfl) (ha:ti.agg=false:=by rfl) (hr:mX v=true:=by rfl):WO x ops Q late K fr true fuel listed i g ob:=
 Fg (v:=.one v) i hi rfl hw (Mc hT hti (by rw[hlk];exact Fj ho hx ha hr)) (by rintro _ _ ⟨rfl,rfl⟩;exact⟨rfl,fun _ _=>rfl⟩) (by rintro _ _ ⟨rfl,rfl⟩;exact k)
end
theorem pT {fresh:Bool}{x:Cx}{T:List (Nat×TI)}{rv:List ResultVar}{e:Exit}{g:Nat→FV}{ob:List (Option Ob)}{b b':Bool}(he:e=.ret∨e=.normal) (res:pF T x.n g ob rv=some [.one (tv (.bool b))]) (hb:b=b'):rN x T rv fresh [] (aM (.one (tv (.bool b')))) e g ob:=en he res (aP (cD _)) (by decide) (fun _=>trivial) (by rw[hb];rfl)
theorem IB {f:Nat→Bool}{k:Nat}{b:Bool}(h:∀j,j<k→f j=b) (h2:f k=b):∀j,j<k+1→f j=b:=fun j hj=>by
 rcases Nat.lt_succ_iff_lt_or_eq.1 hj with h9 | h9
 ·exact h j h9
 rw[h9];exact h2
theorem f0 {f:Nat→Bool}{b:Bool}:∀j,j<0→f j=b:=fun j hj=>absurd hj (Nat.not_lt_zero j)
theorem CP {k:IntKind}{a b:Int}(h:a=b):some (FV.one (tv (.int k a)))=some (FV.one (tv (.int k b))):=by rw[h]
section
variable {x:Cx}{g g':Nat→FV}{ob ob':List (Option Ob)}{cs cs':List Co}{ts ts':Array Value}{W W' W1:World}{Q:Post}{ops:Array Oper}{late:Nat→Bool}{K fr fr':List Nat}{on:Bool}{fuel:Nat}{listed listed':Array Bool}
end
section
variable {x:Cx}{g:Nat→FV}{ob ob':List (Option Ob)}{Q:Post}{ops:Array Oper}{rest:List Oper}{d:Nat}{op:Op}{ty:TypeId}{pos:String}{af:Array Edge}{gd:Option (Nat×Bool)}{C:Prop}{v:FV}{T:List (Nat×TI)}
theorem MC {fresh:Bool}{f:FuncId}{lent lent':List Lt}{al:List FV}{fst caps:List Tr}{r:FV}{os:List Ob}{cf:Operand}{aa:Array Operand}{ats:Array TypeId}(key:Nat) (K:List Nat) (args:List FV) (hc:lk x.n g cf=.one (.t (.f f fst caps))) (hS:aD fresh x.P f lent al (Rt lent' r)) (hf:CallOk x.P f) (hK:fB ob K K lent) (ha:nY x.n g K aa.toList args){ok:List (Option Ob)}(hbk:eE K lent' ok) (k:WL x ops rest (aW g d v) (bL ob K ok++os.map some) Q) (hw:aY ops x.n g gd=some true:=by rfl) (hk:dP ob key=true:=by rfl) (hnd:K.Nodup:=by decide) (hb:kM key r=some (v,os):=by rfl) (he:dA fst++args++dA caps=al:=by rfl):
  WL x ops (⟨some d,.call ⟨.value cf,aa,ats⟩,ty,pos,af,gd⟩::rest) g ob Q:=by
 subst he
 refine gA (rU hS hf (Mp hc) hK hnd ha hk (by rintro _ _ ⟨rfl,rfl⟩ _;exact⟨by rw[hb];rfl,ok,hbk⟩)) hw ?_
 rintro _ _ ⟨l,r',v',os',ok',⟨rfl,rfl⟩,_,h,h9,rfl,rfl⟩
 obtain rfl:=tV hbk h9
 rw[hb]at h
 injection h with h
 injection h with h1 h2
 subst h1 h2
 exact k
theorem GV {late:Nat→Bool}{K fr:List Nat}{fuel:Nat}{listed:Array Bool}{t key o:Nat}{ti:TI}{a b:Operand}(i:Nat) (hi:ops[i]? =some ⟨none,.store t a b,ty,pos,af,gd⟩) (hw:aY ops x.n g gd=some true) (hT:bR x.P T) (hti:bN T t=some ti) (h:tL ti ob (lk x.n g b) (lk x.n g a)=some ob') (hlk:lk x.n g a=.one (.pt key o)) (hK:K.contains key=false) (hke:nA ob ob' K)
  (k:WD x ops Q late K fr true fuel (listed.setIfInBounds i true) g ob'):WO x ops Q late K fr true fuel listed i g ob:=by
 obtain⟨ky,hs,o2,hlk2⟩:=Cf (ty:=ty) (pos:=pos) (af:=af) (gd:=gd) hT hti h
 rw[hlk]at hlk2
 injection hlk2 with e
 injection e with e1 e2
 subst e1
 refine Wp i hi hw hs true (fun _=>⟨rfl,fun k hk hm=>?_⟩) (fun _=>rfl) (fun _ g' ob' hR=>?_) fun g' ob' hR=>?_
 ·rw[List.mem_singleton]at hm
  subst hm
  have:K.contains k=true:=by simpa using hk
  rw[hK]at this
  cases this
 ·obtain⟨rfl,rfl⟩:=hR
  exact⟨fun _ _=>rfl,gX hke⟩
 obtain⟨rfl,rfl⟩:=hR
 exact k
end
theorem Kt {n:Nat}(h:0<n):1≤(dg 4294967296 n).length:=by rw[sH (by omega) (by omega)];simp
theorem Bt {L:Nat}{k:Int}(h:jO L k):jO L (-k):=by unfold jO at*;rwa[Int.natAbs_neg]
theorem wD (p:Rat):(dg 4294967296 (p.num.fmod (p.den:Int)).natAbs).length≤(dg 4294967296 p.den).length:=by
 refine fN ?_
 have h1:=Int.fmod_nonneg_of_pos p.num (show(0:Int)<p.den by have:=p.den_pos;omega)
 have h2:=Int.fmod_lt_of_pos p.num (show(0:Int)<p.den by have:=p.den_pos;omega)
 omega
theorem mL (p:Rat):(dg 4294967296 (fl p).natAbs).length≤(dg 4294967296 p.num.natAbs).length:=by
 refine fN ?_
 rw[←pQ,Int.fdiv_eq_ediv_of_nonneg _ (by omega)]
 exact Int.natAbs_ediv_le_natAbs _ _
theorem DL {L M:Nat}{p q:Rat}(hp:Sz L p) (hq:Sz M q):Sz (L+M+1) (p/q):=by
 rw[←Wa p q]
 have hd:(0:Int)<p.den:=by have:=p.den_pos;omega
 have hd2:(0:Int)<q.den:=by have:=q.den_pos;omega
 by_cases h0:q.num=0
 ·rw[h0,Int.mul_zero,Rat.divInt_zero]
  exact(kU (z:=0) (by omega) (by omega)).mono (by
   have:=Kt q.den_pos
   have:=hq.2
   have:=Kt p.den_pos
   have:=hp.2
   omega)
 by_cases h1:0<q.num
 ·have h5:=iU (Int.mul_pos hd h1) (jE hp.1 (lH hq)) (jE (lH hp) hq.1)
  exact⟨Nat.le_trans h5.1 (by omega),Nat.le_trans h5.2 (by omega)⟩
 have e:Rat.divInt (p.num*(q.den:Int)) ((p.den:Int)*q.num)=Rat.divInt (-(p.num*(q.den:Int))) (-((p.den:Int)*q.num)):=(Rat.neg_divInt_neg _ _).symm
 rw[e]
 have h6:0< -((p.den:Int)*q.num):=by
  have:=Int.mul_pos hd (show 0< -q.num by omega)
  rw[Int.mul_neg]at this
  exact this
 have h5:=iU h6 (Bt (jE hp.1 (lH hq))) (Bt (jE (lH hp) hq.1))
 exact⟨Nat.le_trans h5.1 (by omega),Nat.le_trans h5.2 (by omega)⟩
theorem rC {L:Nat}{p:Rat}(h:Sz L p):Sz (L+1) (fc p):=by
 rw[←Nv]
 have h5:=iU (L:=L) (M:=L) (show(0:Int)<p.den by have:=p.den_pos;omega) (show jO L (p.num.fmod (p.den:Int)) from Nat.le_trans (wD p) h.2) (lH h)
 exact⟨Nat.le_trans h5.1 (by omega),Nat.le_trans h5.2 (by omega)⟩
theorem Sc {p q:Rat}:((p.den:Int)*q.num=0)↔q=0:=by
 have h1:=p.den_pos
 constructor
 ·intro h
  rcases Int.mul_eq_zero.1 h with h2 | h2
  ·omega
  exact Rat.num_eq_zero.1 h2
 rintro rfl
 simp
def dZ (l:List Rat):List Fr4:=l.map Fr4.of
theorem xM (l:List Rat):(dZ l).map Fr4.q=l:=by
 unfold dZ
 rw[List.map_map]
 exact(List.map_congr_left fun x _=>Fr4.q_of x).trans (List.map_id l)
theorem gT (l:List Rat):(dZ l).length=l.length:=by simp[dZ]
theorem BG {l:List Rat}{k:Nat}(h:k<l.length):bD (dZ l) k=Fr4.of (bG l k):=by simp[bD,dZ,bG,h]
def fd (n v:Nat):List Nat:=(List.range n).map fun i=>v/10^i%10
section
variable {xs:List Nat}
end
theorem Rn {xs:List Nat}(hx:xs.length≤4398046511104):aD false Tryz.prog 128 [] [.one (.t (sI false xs))] (aM (.one (.t (sI false (trim xs))))):=by
 refine bK Tryz.func128 rfl Tryz.ntmps128 rfl aA rfl fun N w c0 h0=>?_
 refine sq ?_;refine rl ?_;refine o1 ?_;refine nl ?_;refine sq ?_;refine bl ?_
 refine lp (γ:=List Nat) (fun zs=>cG [(0,.one (.t (sI false zs)))]) (fun _=>([]:List Ob).map some) (fun zs=>trim zs=trim xs∧zs.length≤xs.length) (fun zs=>zs.length) xs ⟨rfl,Nat.le_refl _⟩ (aJ h0 [] _ _ (by decide) ⟨rfl,trivial⟩ rfl) fun zs hz=>?_
 refine sq ?_;refine sq ?_;refine rl ?_;(iterate 4 refine o1 ?_);refine WL.split (t:=6) rfl (fun h1=>?_) (fun h1=>?_)
 ·(iterate 4 refine o1 ?_);refine WL.cast (t:=10) (u':=.int .i64 ((zs.length-1:Nat):Int)) rfl (aL (by omega)) ?_
  refine o1 ?_;refine fQ ([.v (.int .i64 ((nth zs (zs.length-1):Nat):Int))]) (eG zs (k:=zs.length-1) (by omega)) ?_
  refine o1 ?_;refine o1 ?_;refine nl ?_;refine bU rfl (fun h2=>?_) (fun h2=>?_)
  ·refine sk ?_;refine bl ?_;refine rl ?_;(iterate 4 refine o1 ?_);refine WL.cast (t:=18) (u':=.int .i64 ((zs.length-1:Nat):Int)) rfl (aL (by omega)) ?_
   refine o1 ?_;refine o1 ?_;refine nl ?_
   exact⟨zs.take (zs.length-1),by rw[List.length_take];omega,⟨(by rw[sJ (xs:=zs) (k:=zs.length) (by omega) (Nat.le_refl _) (by omega),List.take_length];exact hz.1),by rw[List.length_take];omega⟩,aJ h0 [] _ _ (by decide) ⟨congrArg some (Qt (by omega)).symm,trivial⟩ rfl⟩
  refine ex ?_;refine sq ?_;refine rl ?_;refine o1 ?_;refine o1 ?_;refine nl ?_;refine rt ?_;refine en (.inl rfl) rfl (aP (.one (.id rfl))) (by decide) (fun h=>by cases h) ?_
  have hx:trim xs=zs:=by
   rw[←hz.1];have h9:=oH (xs:=zs) (k:=zs.length) (by omega) (Nat.le_refl _) (by omega)
   rwa[List.take_length]at h9
  rw[hx];rfl
 (iterate 7 refine eO ?_);refine o1 ?_;refine nl ?_;refine gQ rfl ?_;refine ex ?_;refine sq ?_;refine rl ?_;refine o1 ?_;refine o1 ?_;refine nl ?_;refine rt ?_
 refine en (.inl rfl) rfl (aP (.one (.id rfl))) (by decide) (fun h=>by cases h) ?_
 have hx:trim xs=zs:=by
  have h9:zs=[]:=List.eq_nil_of_length_eq_zero (by omega)
  rw[←hz.1,h9];rfl
 rw[hx];rfl
theorem iX {xs:List Nat}(hx:xs.length≤1099511627776) (hl:Lim 4294967296 xs):aD false Tryz.prog 106 [] [.one (.t (sU false xs))] (aM (.one (.t (sI false (dg 65536 (vl 4294967296 xs)))))):=by
 refine bK Tryz.func106 rfl Tryz.ntmps106 rfl aA rfl fun N w c0 h0=>?_
 refine sq ?_;refine rl ?_;refine o1 ?_;refine nl ?_;refine sq ?_;refine rl ?_;refine o1 ?_;refine nl ?_;refine sq ?_;refine sq ?_;refine rl ?_;refine o1 ?_;refine nl ?_;refine bl ?_
 refine lp (γ:=Nat) (fun k=>cG [(0,.one (.t (sU false xs))),(3,.one (.sl 0 0 (2*k))),(4,.one (tv (.int .i64 ((k:Nat):Int))))]) (fun k=>[(⟨3,1,(cE (hv (xs.take k))).map .t⟩:Ob)].map some) (fun k=>k≤xs.length) (fun k=>xs.length-k) 0 (Nat.zero_le _) ((nr (i:=3) 0 3 1 rfl rfl rfl rfl).trans (aJ h0 [0] _ _ (by decide) ⟨rfl,rfl,rfl,trivial⟩ ⟨bJ (l:=[]) rfl,rfl⟩)) fun k hk=>?_
 have hn:=hl.nth (by omega) k
 refine sq ?_;refine sq ?_;refine rl ?_;(iterate 4 refine o1 ?_);refine nl ?_;refine bU rfl (fun h1=>?_) (fun h1=>?_)
 ·refine sk ?_;refine sq ?_;refine bl ?_;refine rd [] (fun i=>[15].contains i) mixed ?_
  refine dv 0 ?_;refine dv 1 ?_;refine dv 2 ?_;refine dv 3 ?_;refine iE 4 ([.v (.int .u32 ((nth xs (k):Nat):Int))]) (mI xs (k:=k) (by omega)) ?_
  refine dv 5 ?_;refine WD.cast (t:=16) (u':=.int .u32 ((nth xs k%65536:Nat):Int)) rfl (aL (jF _ 65536)) ?_;refine dv 6 ?_;refine dv 7 ?_;refine dv 8 ?_;refine dv 9 ?_
  refine iE 10 ([.v (.int .u32 ((nth xs (k):Nat):Int))]) (mI xs (k:=k) (by omega)) ?_
  refine dv 11 ?_ (hC:=(fX 65536 (by omega) (by simp only[fT];omega)))
  refine WD.cast (t:=22) (u':=.int .u32 ((nth xs k/65536:Nat):Int)) rfl (aL (eM _ 65536)) ?_;refine dv 12 ?_;refine sS (key:=1) 13 (by kernel_rfl) rfl rfl aA rfl trivial ?_
  refine Wt (j:=2) 14 rfl aA rfl rfl rfl (.sl rfl (by rw[List.length_map,fG,oE,List.length_take];omega)) (.sl rfl rfl rfl) rfl rfl (by omega) (by omega) rfl rfl (by kernel_rfl) rfl ?_
  refine dF 15 (by kernel_rfl) rfl rfl aA rfl (by trivial) ?_ (fun h=>by first | rfl | cases h)
  refine aO ?_;refine rl ?_;(iterate 3 refine o1 ?_);refine nl ?_
  exact⟨k+1,by omega,by omega,aJ h0 [2] _ _ (by decide) ⟨rfl,rfl,rfl,trivial⟩ ⟨kK rfl (fH _ [nth xs k%65536,nth xs k/65536]) (Kb (by omega)).symm,rfl⟩⟩
 refine ex ?_;refine sq ?_;refine rl ?_;refine WL.sub (vV (i:=3) (zs':=hv xs) rfl rfl rfl (by rw[oE,List.length_take];omega) (by rw[List.take_of_length_le (by omega)])) ?_
 refine o1 ?_;refine ca (Rn (by rw[oE];omega)) Wz ⟨a1 rfl,rfl⟩ (.one (.t (sI false (trim (hv xs))))) ?_
 refine o1 ?_;refine nl ?_;refine rt ?_;exact en (.inl rfl) rfl (aP (.one (.id rfl))) (by decide) (fun h=>by cases h) (by rw[Xj hl];rfl)
theorem wZ {xs:List Nat}(hx:xs.length≤4398046511104) (hl:Lim 65536 xs):aD true Tryz.prog 127 [] [.one (.t (sI false xs))] (aM (.one (.t (sU true (dg 4294967296 (vl 65536 xs)))))):=by
 refine bK Tryz.func127 rfl Tryz.ntmps127 rfl aA rfl fun N w c0 h0=>?_
 refine sq ?_;refine rl ?_;refine o1 ?_;refine nl ?_;refine sq ?_;refine rl ?_;refine o1 ?_;refine nl ?_;refine sq ?_;refine rl ?_;refine o1 ?_
 refine ca (Rn hx) Wz ⟨a1 rfl,rfl⟩ (.one (.t (sI false (trim xs)))) ?_;refine o1 ?_;refine nl ?_;refine sq ?_;refine sq ?_;have htl:=cH xs
 have hlt:=hl.trim
 generalize hY:trim xs=ys at htl hlt;refine rl ?_;refine o1 ?_;refine nl ?_;refine bl ?_
 refine lp (γ:=Nat) (fun k=>cG [(0,.one (.t (sI false ys))),(3,.one (.sl 0 0 k)),(4,.one (tv (.int .i64 ((2*k:Nat):Int))))]) (fun k=>[(⟨51,1,(aK (lb (ys.take (2*k)))).map .t⟩:Ob)].map some) (fun k=>2*k≤ys.length+1) (fun k=>ys.length+1-2*k) 0 (Nat.zero_le _) ((nr (i:=3) 0 51 1 rfl rfl rfl rfl).trans (aJ h0 [0] _ _ (by decide) ⟨rfl,rfl,rfl,trivial⟩ ⟨bJ (l:=[]) rfl,rfl⟩)) fun k hk=>?_
 have hn:=hlt.nth (by omega) (2*k)
 have hn2:=hlt.nth (by omega) (2*k+1)
 refine sq ?_;refine sq ?_;refine rl ?_;(iterate 4 refine o1 ?_);refine nl ?_;refine bU rfl (fun h1=>?_) (fun h1=>?_)
 ·refine sk ?_;refine sq ?_;refine bl ?_;refine sq ?_;refine rl ?_;refine o1 ?_;refine nl ?_;refine sq ?_;refine sq ?_;refine rl ?_;refine o1 ?_;refine o1 ?_
  refine WL.cast (t:=15) (u':=.int .i64 ((2*k+1:Nat):Int)) rfl (aL (by omega)) ?_
  (iterate 3 refine o1 ?_);refine nl ?_;refine bU rfl (fun h2=>?_) (fun h2=>?_)
  ·refine rl ?_;(iterate 3 refine o1 ?_);refine WL.cast (t:=21) (u':=.int .i64 ((2*k+1:Nat):Int)) rfl (aL (by omega)) ?_
   refine o1 ?_;refine fQ ([.v (.int .i64 ((nth ys (2*k+1):Nat):Int))]) (eG ys (k:=2*k+1) (by omega)) ?_
   refine o1 ?_;refine nl ?_;refine rl ?_;(iterate 4 refine o1 ?_);refine fQ ([.v (.int .i64 ((nth ys (2*k):Nat):Int))]) (eG ys (k:=2*k) (by omega)) ?_
   (iterate 5 refine o1 ?_);refine WL.cast (t:=33) (u':=.int .u32 ((nth ys (2*k)+65536*nth ys (2*k+1):Nat):Int)) rfl (aL (by omega)) ?_
   refine bs 1 ?_;refine eJ (j:=2) aA rfl rfl rfl rfl (.sl rfl (by rw[List.length_map,fU,gJ,List.length_take];omega)) (.sl rfl rfl rfl) rfl rfl rfl (by omega) (by omega) ?_
   refine o1 ?_;refine nl ?_;refine rl ?_;(iterate 3 refine o1 ?_);refine nl ?_
   exact⟨k+1,by omega,by omega,aJ h0 [2] _ _ (by decide) ⟨rfl,rfl,rfl,trivial⟩ ⟨Qu rfl (Ge _ [nth ys (2*k)+65536*nth ys (2*k+1)]) (vI (by omega)).symm,rfl⟩⟩
  have hz:=dQ (l:=ys) (k:=2*k+1) (by omega)
  refine sk ?_;refine rl ?_;(iterate 4 refine o1 ?_);refine fQ ([.v (.int .i64 ((nth ys (2*k):Nat):Int))]) (eG ys (k:=2*k) (by omega)) ?_
  (iterate 5 refine o1 ?_);refine WL.cast (t:=33) (u':=.int .u32 ((nth ys (2*k)+65536*nth ys (2*k+1):Nat):Int)) rfl (aL (by omega)) ?_
  refine bs 1 ?_;refine eJ (j:=2) aA rfl rfl rfl rfl (.sl rfl (by rw[List.length_map,fU,gJ,List.length_take];omega)) (.sl rfl rfl rfl) rfl rfl rfl (by omega) (by omega) ?_
  refine o1 ?_;refine nl ?_;refine rl ?_;(iterate 3 refine o1 ?_);refine nl ?_
  exact⟨k+1,by omega,by omega,aJ h0 [2] _ _ (by decide) ⟨rfl,rfl,rfl,trivial⟩ ⟨Qu rfl (Ge _ [nth ys (2*k)+65536*nth ys (2*k+1)]) (vI (by omega)).symm,rfl⟩⟩
 refine ex ?_;refine sq ?_;refine rl ?_;refine o1 ?_;refine o1 ?_;refine nl ?_;refine rt ?_
 exact en (.inl rfl) rfl (aP (.one (.sl (trs:=aK (lb ys)) rfl rfl (by rw[List.take_of_length_le (l:=ys) (by omega),List.take_of_length_le (by simp[fU,gJ];omega)]) (by rw[fU,gJ];omega)))) (by decide) (fun _=>.inl ⟨rfl,eK _⟩) (by rw[←vH,dW (by omega) hl,hY];unfold sU;rw[show k=(lb ys).length by rw[gJ];omega];rfl)
theorem nD {xs:List Nat}{k:Nat}:aD true Tryz.prog 107 [] [.one (.t (sI false xs)),.one (tv (.int .i64 ((k:Nat):Int)))] (aM (.one (tv (.int .i64 ((nth xs k:Nat):Int))))):=by
 refine bK Tryz.func107 rfl Tryz.ntmps107 rfl aA rfl fun N w c0 h0=>?_
 refine sq ?_;refine rl ?_;refine o1 ?_;refine nl ?_;refine sq ?_;refine sq ?_;refine rl ?_;(iterate 4 refine o1 ?_);refine nl ?_;refine bU rfl (fun h1=>?_) (fun h1=>?_)
 ·refine sq ?_;refine rl ?_;(iterate 3 refine o1 ?_);refine fQ ([.v (.int .i64 ((nth xs (k):Nat):Int))]) (eG xs (k:=k) (by omega)) ?_
  refine o1 ?_;refine nl ?_;refine rt ?_;refine en (.inl rfl) rfl (aP (cD _)) (by decide) (fun _=>trivial) ?_
  rfl
 refine sk ?_;refine sq ?_;refine rl ?_;refine o1 ?_;refine nl ?_;refine rt ?_;refine en (.inl rfl) rfl (aP (cD _)) (by decide) (fun _=>trivial) ?_
 rw[dQ (by omega)];rfl
theorem BH {xs:List Nat}(hx:xs.length≤1099511627776) (hlx:Lim 4294967296 xs):aD true Tryz.prog 112 [] [.one (.t (sU false xs))] (aM (.one (.t (sU true (dg 4294967296 (vl 4294967296 xs)))))):=by
 refine bK Tryz.func112 rfl Tryz.ntmps112 rfl aA rfl fun N w c0 h0=>?_
 have hd:=dL (v:=vl 4294967296 xs) (L:=xs.length) (by rw[dW (by omega) hlx];exact cH _)
 have hl9:=aH (B:=65536) (by omega) (vl 4294967296 xs)
 refine sq ?_;refine rl ?_;refine o1 ?_;refine nl ?_;refine sq ?_;refine rl ?_;refine o1 ?_
 refine ca (iX hx hlx) rR ⟨a1 rfl,rfl⟩ (.one (.t (sI false (dg 65536 (vl 4294967296 xs))))) ?_;refine fJ 0 (wZ (by omega) (by assumption)) Mm ⟨a1 rfl,rfl⟩ ?_
 refine o1 ?_;refine nl ?_;refine rt ?_
 exact en (.inl rfl) rfl (aP (.one (.sl (trs:=aK (dg 4294967296 (vl 65536 (dg 65536 (vl 4294967296 xs))))) rfl rfl (aV _) (aQ _)))) (by decide) (fun _=>.inl ⟨rfl,eK _⟩) (by rw[bO (by omega)];rfl)
theorem Gp {xs ys:List Nat}(hx:xs.length≤1099511627776) (hlx:Lim 4294967296 xs) (hy:ys.length≤1099511627776) (hly:Lim 4294967296 ys):aD true Tryz.prog 65 [] [.one (.t (sU false xs)),.one (.t (sU false ys))] (aM (.one (tv (.int .i64 (((vl 4294967296 xs:Nat):Int)-((vl 4294967296 ys:Nat):Int)).sign)))):=by
 refine bK Tryz.func65 rfl Tryz.ntmps65 rfl aA rfl fun N w c0 h0=>?_
 refine sq ?_;refine rl ?_;refine o1 ?_;refine nl ?_;refine sq ?_;refine rl ?_;refine o1 ?_
 refine ca (iX hx hlx) rR ⟨a1 rfl,rfl⟩ (.one (.t (sI false (dg 65536 (vl 4294967296 xs))))) ?_;refine o1 ?_
 refine ca (iX hy hly) rR ⟨a1 rfl,rfl⟩ (.one (.t (sI false (dg 65536 (vl 4294967296 ys))))) ?_;refine o1 ?_;refine o1 ?_;refine nl ?_;refine sq ?_;refine sq ?_
 have hdx:=dL (v:=vl 4294967296 xs) (L:=xs.length) (by rw[dW (by omega) hlx];exact cH _)
 have hdy:=dL (v:=vl 4294967296 ys) (L:=ys.length) (by rw[dW (by omega) hly];exact cH _)
 have hX:=aH (B:=65536) (by omega) (vl 4294967296 xs)
 have hY:=aH (B:=65536) (by omega) (vl 4294967296 ys)
 have hvX:=bO (B:=65536) (by omega) (vl 4294967296 xs)
 have hvY:=bO (B:=65536) (by omega) (vl 4294967296 ys)
 generalize dg 65536 (vl 4294967296 xs)=X at hdx hX hvX⊢;generalize dg 65536 (vl 4294967296 ys)=Y at hdy hY hvY⊢;refine rl ?_;(iterate 5 refine o1 ?_)
 refine WL.cast (t:=16) (u':=.int .i64 ((max X.length Y.length:Nat):Int)) rfl (aL (by omega)) ?_
 refine o1 ?_;refine o1 ?_;refine nl ?_;refine bl ?_
 refine lp (γ:=Nat) (fun k=>cG [(5,.one (.t (sI false X))),(6,.one (.t (sI false Y))),(7,.one (tv (.int .i64 ((k:Nat)-1))))]) (fun k=>([]:List Ob).map some) (fun k=>(∀j,k≤j→nth X j=nth Y j)∧k≤max X.length Y.length) (fun k=>k) (max X.length Y.length) ⟨fun j hj=>by rw[dQ (by omega),dQ (by omega)],Nat.le_refl _⟩ (aJ h0 [] _ _ (by decide) ⟨rfl,rfl,rfl,trivial⟩ rfl) fun k hk=>?_
 refine sq ?_;refine sq ?_;refine rl ?_;refine o1 ?_;refine o1 ?_;refine nl ?_;refine bU rfl (fun h1=>?_) (fun h1=>?_)
 ·refine sk ?_;refine sq ?_;refine bl ?_;refine sq ?_;refine sq ?_;refine rl ?_;refine o1 ?_;refine o1 ?_
  refine WL.cast (t:=23) (u':=.int .i64 ((k-1:Nat):Int)) rfl (aL (by omega)) ?_
  refine ca (nD) nB ⟨a1 rfl,a1 rfl,rfl⟩ (.one (tv (.int .i64 ((nth X (k-1):Nat):Int)))) ?_;refine o1 ?_;refine o1 ?_
  refine WL.cast (t:=26) (u':=.int .i64 ((k-1:Nat):Int)) rfl (aL (by omega)) ?_
  refine ca (nD) nB ⟨a1 rfl,a1 rfl,rfl⟩ (.one (tv (.int .i64 ((nth Y (k-1):Nat):Int)))) ?_;refine o1 ?_;refine nl ?_;refine bU rfl (fun h2=>?_) (fun h2=>?_)
  ·refine sq ?_;refine rl ?_;refine o1 ?_;refine nl ?_;refine rt ?_;refine en (.inl rfl) rfl (aP (cD _)) (by decide) (fun _=>trivial) (congrArg (fun z=>FV.one (tv (.int .i64 z))) ?_)
   have he:=Ch (X:=X) (Y:=Y) (k:=k-1) hX (fun j hj=>hk.1 j (by omega)) (by omega)
   rw[hvX,hvY]at he;rw[Int.sign_eq_neg_one_of_neg (by omega)]
  refine sk ?_;refine sq ?_;refine rl ?_;refine o1 ?_;refine o1 ?_;refine WL.cast (t:=30) (u':=.int .i64 ((k-1:Nat):Int)) rfl (aL (by omega)) ?_
  refine ca (nD) nB ⟨a1 rfl,a1 rfl,rfl⟩ (.one (tv (.int .i64 ((nth X (k-1):Nat):Int)))) ?_;refine o1 ?_;refine o1 ?_
  refine WL.cast (t:=33) (u':=.int .i64 ((k-1:Nat):Int)) rfl (aL (by omega)) ?_
  refine ca (nD) nB ⟨a1 rfl,a1 rfl,rfl⟩ (.one (tv (.int .i64 ((nth Y (k-1):Nat):Int)))) ?_;refine o1 ?_;refine nl ?_;refine bU rfl (fun h3=>?_) (fun h3=>?_)
  ·refine sq ?_;refine rl ?_;refine o1 ?_;refine nl ?_;refine rt ?_;refine en (.inl rfl) rfl (aP (cD _)) (by decide) (fun _=>trivial) (congrArg (fun z=>FV.one (tv (.int .i64 z))) ?_)
   have he:=Ch (X:=Y) (Y:=X) (k:=k-1) hY (fun j hj=>(hk.1 j (by omega)).symm) (by omega)
   rw[hvX,hvY]at he;rw[Int.sign_eq_one_of_pos (by omega)]
  refine sk ?_;refine rl ?_;(iterate 3 refine o1 ?_);refine nl ?_
  exact⟨k-1,by omega,⟨fun j hj=>(Nat.eq_or_lt_of_le hj).elim (fun h9=>by rw[←h9];omega) (fun h9=>hk.1 j (by omega)),by omega⟩,aJ h0 [] _ _ (by decide) ⟨rfl,rfl,congrArg (fun z=>some (FV.one (tv (.int .i64 z)))) (by omega),trivial⟩ rfl⟩
 refine ex ?_;refine sq ?_;refine rl ?_;refine o1 ?_;refine nl ?_;refine rt ?_
 refine en (.inl rfl) rfl (aP (cD _)) (by decide) (fun _=>trivial) (congrArg (fun z=>FV.one (tv (.int .i64 z))) ?_)
 have he:=Qr (fun j=>hk.1 j (by omega))
 rw[hvX,hvY]at he;rw[he,Int.sub_self];rfl
theorem GB {xs ys:List Nat}(hx:xs.length≤1099511627776) (hlx:Lim 4294967296 xs) (hy:ys.length≤1099511627776) (hly:Lim 4294967296 ys):aD true Tryz.prog 103 [] [.one (.t (sU false xs)),.one (.t (sU false ys))] (aM (.one (.t (sU true (dg 4294967296 (vl 4294967296 xs+vl 4294967296 ys)))))):=by
 refine bK Tryz.func103 rfl Tryz.ntmps103 rfl aA rfl fun N w c0 h0=>?_
 refine sq ?_;refine rl ?_;refine o1 ?_;refine nl ?_;refine sq ?_;refine rl ?_;refine o1 ?_
 refine ca (iX hx hlx) rR ⟨a1 rfl,rfl⟩ (.one (.t (sI false (dg 65536 (vl 4294967296 xs))))) ?_;refine o1 ?_
 refine ca (iX hy hly) rR ⟨a1 rfl,rfl⟩ (.one (.t (sI false (dg 65536 (vl 4294967296 ys))))) ?_;refine o1 ?_;refine o1 ?_;refine nl ?_;refine sq ?_
 have hdx:=dL (v:=vl 4294967296 xs) (L:=xs.length) (by rw[dW (by omega) hlx];exact cH _)
 have hdy:=dL (v:=vl 4294967296 ys) (L:=ys.length) (by rw[dW (by omega) hly];exact cH _)
 have hX:=aH (B:=65536) (by omega) (vl 4294967296 xs)
 have hY:=aH (B:=65536) (by omega) (vl 4294967296 ys)
 have hvX:=bO (B:=65536) (by omega) (vl 4294967296 xs)
 have hvY:=bO (B:=65536) (by omega) (vl 4294967296 ys)
 generalize dg 65536 (vl 4294967296 xs)=X at hdx hX hvX⊢;generalize dg 65536 (vl 4294967296 ys)=Y at hdy hY hvY⊢;refine rl ?_;refine o1 ?_;refine nl ?_;refine sq ?_;refine rl ?_
 refine o1 ?_;refine nl ?_;refine sq ?_;refine sq ?_;refine rl ?_;refine o1 ?_;refine nl ?_;refine bl ?_
 refine lp (γ:=Nat×Nat×List Nat) (fun s=>cG [(5,.one (.t (sI false X))),(6,.one (.t (sI false Y))),(7,.one (.sl 0 0 s.1)),(8,.one (tv (.int .i64 ((s.2.1:Nat):Int)))),(9,.one (tv (.int .i64 ((s.1:Nat):Int))))]) (fun s=>[(⟨3,1,(cE s.2.2).map .t⟩:Ob)].map some) (fun s=>s.2.2.length=s.1∧Lim 65536 s.2.2∧vl 65536 s.2.2+65536^s.1*s.2.1=vl 65536 (X.take s.1)+vl 65536 (Y.take s.1)∧s.2.1≤1∧(s.1≤max X.length Y.length∨s.1=max X.length Y.length+1∧s.2.1=0)) (fun s=>max X.length Y.length+1-s.1) (0,0,[]) ⟨rfl,Lim.nil,rfl,Nat.zero_le _,.inl (Nat.zero_le _)⟩ ((nr (i:=7) 0 3 1 rfl rfl rfl rfl).trans (aJ h0 [0] _ _ (by decide) ⟨rfl,rfl,rfl,rfl,rfl,trivial⟩ ⟨bJ (l:=[]) rfl,rfl⟩)) ?_
 rintro⟨k,cr,os⟩ ⟨hos,hol,hv,hc1,hkm⟩;dsimp only at hos hol hv hc1 hkm⊢;have hn1:=hX.nth (by omega) k
 have hn2:=hY.nth (by omega) k
 refine sq ?_;refine sq ?_;refine rl ?_;(iterate 6 refine o1 ?_);refine WL.cast (t:=20) (u':=.int .i64 ((max X.length Y.length:Nat):Int)) rfl (aL (by omega)) ?_
 refine o1 ?_;refine o1 ?_;refine WL.split (t:=22) rfl (fun h1=>?_) (fun h1=>?_)
 ·refine eO ?_;refine eO ?_;refine o1 ?_;refine nl ?_;refine mF rfl ?_;refine sk ?_;refine sq ?_;refine bl ?_;refine sq ?_;refine rl ?_;refine o1 ?_;refine o1 ?_
  refine ca (nD) nB ⟨a1 rfl,a1 rfl,rfl⟩ (.one (tv (.int .i64 ((nth X (k):Nat):Int)))) ?_;refine o1 ?_;refine o1 ?_
  refine ca (nD) nB ⟨a1 rfl,a1 rfl,rfl⟩ (.one (tv (.int .i64 ((nth Y (k):Nat):Int)))) ?_;(iterate 3 refine o1 ?_)
  refine WL.cast (t:=36) (u':=.int .i64 ((nth X k+nth Y k+cr:Nat):Int)) rfl (aL (by omega)) ?_
  refine o1 ?_;refine nl ?_;refine sq ?_;refine rl ?_;(iterate 3 refine o1 ?_)
  refine WL.cast (t:=39) (u':=.int .i64 (((nth X k+nth Y k+cr)%65536:Nat):Int)) rfl (aL (jF _ 65536)) ?_;refine bs 1 ?_
  refine eJ (j:=2) aA rfl rfl rfl rfl (.sl rfl (by rw[List.length_map,fG,hos];omega)) (.sl rfl rfl rfl) rfl rfl rfl (by omega) (by omega) ?_
  refine o1 ?_;refine nl ?_;refine rl ?_;refine o1 ?_;refine o1 ?_ (hC:=(fX 65536 (by omega) (by simp only[fT];omega)))
  refine WL.cast (t:=43) (u':=.int .i64 (((nth X k+nth Y k+cr)/65536:Nat):Int)) rfl (aL (eM _ 65536)) ?_;refine o1 ?_;refine nl ?_;refine rl ?_;(iterate 3 refine o1 ?_)
  refine nl ?_;have hst:=Gc hos hv
  have hz1:X.length≤k→nth X k=0:=fun h=>dQ (by omega)
  have hz2:Y.length≤k→nth Y k=0:=fun h=>dQ (by omega)
  exact⟨(k+1,(nth X k+nth Y k+cr)/65536,os++[(nth X k+nth Y k+cr)%65536]),by dsimp only;omega,⟨by simp[hos],hol.append (Lim.cons (Nat.mod_lt _ (by omega)) Lim.nil),hst,by dsimp only;omega,by dsimp only;omega⟩,aJ h0 [2] _ _ (by decide) ⟨rfl,rfl,rfl,rfl,rfl,trivial⟩ ⟨kK rfl (fH _ [(nth X k+nth Y k+cr)%65536]) rfl,rfl⟩⟩
 (iterate 3 refine o1 ?_);refine nl ?_;refine bU rfl (fun h2=>?_) (fun h2=>?_)
 ·refine sk ?_;refine sq ?_;refine bl ?_;refine sq ?_;refine rl ?_;refine o1 ?_;refine o1 ?_
  refine ca (nD) nB ⟨a1 rfl,a1 rfl,rfl⟩ (.one (tv (.int .i64 ((nth X (k):Nat):Int)))) ?_;refine o1 ?_;refine o1 ?_
  refine ca (nD) nB ⟨a1 rfl,a1 rfl,rfl⟩ (.one (tv (.int .i64 ((nth Y (k):Nat):Int)))) ?_;(iterate 3 refine o1 ?_)
  refine WL.cast (t:=36) (u':=.int .i64 ((nth X k+nth Y k+cr:Nat):Int)) rfl (aL (by omega)) ?_
  refine o1 ?_;refine nl ?_;refine sq ?_;refine rl ?_;(iterate 3 refine o1 ?_)
  refine WL.cast (t:=39) (u':=.int .i64 (((nth X k+nth Y k+cr)%65536:Nat):Int)) rfl (aL (jF _ 65536)) ?_;refine bs 1 ?_
  refine eJ (j:=2) aA rfl rfl rfl rfl (.sl rfl (by rw[List.length_map,fG,hos];omega)) (.sl rfl rfl rfl) rfl rfl rfl (by omega) (by omega) ?_
  refine o1 ?_;refine nl ?_;refine rl ?_;refine o1 ?_;refine o1 ?_ (hC:=(fX 65536 (by omega) (by simp only[fT];omega)))
  refine WL.cast (t:=43) (u':=.int .i64 (((nth X k+nth Y k+cr)/65536:Nat):Int)) rfl (aL (eM _ 65536)) ?_;refine o1 ?_;refine nl ?_;refine rl ?_;(iterate 3 refine o1 ?_)
  refine nl ?_;have hst:=Gc hos hv
  have hz1:X.length≤k→nth X k=0:=fun h=>dQ (by omega)
  have hz2:Y.length≤k→nth Y k=0:=fun h=>dQ (by omega)
  exact⟨(k+1,(nth X k+nth Y k+cr)/65536,os++[(nth X k+nth Y k+cr)%65536]),by dsimp only;omega,⟨by simp[hos],hol.append (Lim.cons (Nat.mod_lt _ (by omega)) Lim.nil),hst,by dsimp only;omega,by dsimp only;omega⟩,aJ h0 [2] _ _ (by decide) ⟨rfl,rfl,rfl,rfl,rfl,trivial⟩ ⟨kK rfl (fH _ [(nth X k+nth Y k+cr)%65536]) rfl,rfl⟩⟩
 refine ex ?_;refine sq ?_;refine rl ?_;have hc0:cr=0:=by omega
 rw[hc0,Nat.mul_zero,Nat.add_zero,bH 65536 (by omega),bH 65536 (by omega),hvX,hvY]at hv
 refine WL.sub (vV (i:=7) (zs':=os) rfl rfl rfl (by omega) rfl) ?_
 refine o1 ?_;refine fJ 1 (wZ (by omega) (by assumption)) Mm ⟨a1 rfl,rfl⟩ ?_
 refine o1 ?_;refine nl ?_;refine rt ?_
 exact en (.inl rfl) rfl (aP (.one (.sl (trs:=aK (dg 4294967296 (vl 65536 os))) rfl rfl (aV _) (aQ _)))) (by decide) (fun _=>.inl ⟨rfl,eK _⟩) (by rw[hv];rfl)
theorem Ro {xs ys:List Nat}(hx:xs.length≤1099511627776) (hlx:Lim 4294967296 xs) (hy:ys.length≤1099511627776) (hly:Lim 4294967296 ys):aD true Tryz.prog 104 [] [.one (.t (sU false xs)),.one (.t (sU false ys))] (aM (.tup [.one (.t (sU true (dg 4294967296 (vl 4294967296 xs-vl 4294967296 ys)))),.one (tv (.int .i64 (if vl 4294967296 xs<vl 4294967296 ys then 2 else 0)))])):=by
 refine bK Tryz.func104 rfl Tryz.ntmps104 rfl aA rfl fun N w c0 h0=>?_
 refine sq ?_;refine rl ?_;refine o1 ?_;refine o1 ?_;refine nl ?_;refine sq ?_;refine sq ?_;refine rl ?_;refine o1 ?_;refine o1 ?_
 refine ca (Gp hx hlx hy hly) Un ⟨a1 rfl,a1 rfl,rfl⟩ (.one (tv (.int .i64 (((vl 4294967296 xs:Nat):Int)-((vl 4294967296 ys:Nat):Int)).sign))) ?_;refine o1 ?_;refine nl ?_
 refine bU rfl (fun h1=>?_) (fun h1=>?_)
 ·refine sq ?_;refine rl ?_;refine o1 ?_;refine o1 ?_;refine nl ?_;refine rt ?_;have hlt:=FM h1
  exact en (.inl rfl) rfl (jL (.cons (.one (.nil (t:=51) (z:=1))) (.cons (cD _) .nil))) (by decide) (fun _=>⟨.inl ⟨rfl,trivial⟩,trivial,trivial⟩) (by rw[Nat.sub_eq_zero_of_le (Nat.le_of_lt hlt),if_pos hlt];rfl)
 refine sk ?_;refine sq ?_;refine rl ?_;refine o1 ?_;refine ca (iX hx hlx) rR ⟨a1 rfl,rfl⟩ (.one (.t (sI false (dg 65536 (vl 4294967296 xs))))) ?_;refine o1 ?_
 refine ca (iX hy hly) rR ⟨a1 rfl,rfl⟩ (.one (.t (sI false (dg 65536 (vl 4294967296 ys))))) ?_;refine o1 ?_;refine o1 ?_;refine nl ?_;refine sq ?_
 have hge:vl 4294967296 ys≤vl 4294967296 xs:=FL h1
 have hyx:=cI (B:=65536) (by omega) hge
 have hdx:=dL (v:=vl 4294967296 xs) (L:=xs.length) (by rw[dW (by omega) hlx];exact cH _)
 have hdy:=dL (v:=vl 4294967296 ys) (L:=ys.length) (by rw[dW (by omega) hly];exact cH _)
 have hX:=aH (B:=65536) (by omega) (vl 4294967296 xs)
 have hY:=aH (B:=65536) (by omega) (vl 4294967296 ys)
 have hvX:=bO (B:=65536) (by omega) (vl 4294967296 xs)
 have hvY:=bO (B:=65536) (by omega) (vl 4294967296 ys)
 generalize dg 65536 (vl 4294967296 xs)=X at hdx hX hvX hyx⊢;generalize dg 65536 (vl 4294967296 ys)=Y at hdy hY hvY hyx⊢;refine rl ?_;refine o1 ?_;refine nl ?_;refine sq ?_;refine rl ?_
 refine o1 ?_;refine nl ?_;refine sq ?_;refine sq ?_;refine rl ?_;refine o1 ?_;refine nl ?_;refine bl ?_
 refine lp (γ:=Nat×Nat×List Nat) (fun s=>cG [(6,.one (.t (sI false X))),(7,.one (.t (sI false Y))),(8,.one (.sl 0 0 s.1)),(9,.one (tv (.int .i64 ((s.2.1:Nat):Int)))),(10,.one (tv (.int .i64 ((s.1:Nat):Int))))]) (fun s=>[(⟨3,1,(cE s.2.2).map .t⟩:Ob)].map some) (fun s=>s.2.2.length=s.1∧Lim 65536 s.2.2∧vl 65536 s.2.2+vl 65536 (Y.take s.1)=vl 65536 (X.take s.1)+65536^s.1*s.2.1∧s.2.1≤1∧s.1≤X.length) (fun s=>X.length-s.1) (0,0,[]) ⟨rfl,Lim.nil,rfl,Nat.zero_le _,Nat.zero_le _⟩ ((nr (i:=8) 0 3 1 rfl rfl rfl rfl).trans (aJ h0 [0] _ _ (by decide) ⟨rfl,rfl,rfl,rfl,rfl,trivial⟩ ⟨bJ (l:=[]) rfl,rfl⟩)) ?_
 rintro⟨k,br,os⟩ ⟨hos,hol,hv,hc1,hkm⟩;dsimp only at hos hol hv hc1 hkm⊢;have hn1:=hX.nth (by omega) k
 have hn2:=hY.nth (by omega) k
 refine sq ?_;refine sq ?_;refine rl ?_;(iterate 4 refine o1 ?_);refine nl ?_;refine bU rfl (fun h2=>?_) (fun h2=>?_)
 ·refine sk ?_;refine sq ?_;refine bl ?_;refine sq ?_;refine rd [] (fun i=>[10].contains i) mixed ?_
  refine dv 0 ?_;refine dv 1 ?_;refine dv 2 ?_;refine iE 3 ([.v (.int .i64 ((nth X (k):Nat):Int))]) (eG X (k:=k) (by omega)) ?_
  refine dv 4 ?_;refine dv 5 ?_;refine dv 8 ?_;refine aI 6 rfl (nD) nB ⟨a1 rfl,a1 rfl,rfl⟩ (.one (tv (.int .i64 ((nth Y (k):Nat):Int)))) ?_;refine df 7 ?_;refine df 9 ?_
  refine dF 10 (by kernel_rfl) rfl rfl aA rfl (by trivial) ?_ (fun h=>by first | rfl | cases h)
  refine aO ?_;refine sq ?_;refine rl ?_;refine o1 ?_;refine nl ?_;refine sq ?_;refine sq ?_;refine rl ?_;refine o1 ?_;refine o1 ?_;refine nl ?_
  refine bU rfl (fun h3=>?_) (fun h3=>?_)
  ·refine sq ?_;refine rl ?_;(iterate 3 refine o1 ?_);refine nl ?_;refine rl ?_;refine o1 ?_;refine nl ?_;refine rl ?_
   refine WL.cast (t:=11) (u':=.int .i64 (((nth X k+65536-nth Y k-br:Nat)):Int)) rfl (aL (by omega)) ?_
   refine o1 ?_;refine o1 ?_;refine bs 1 ?_
   refine eJ (j:=2) aA rfl rfl rfl rfl (.sl rfl (by rw[List.length_map,fG,hos];omega)) (.sl rfl rfl rfl) rfl rfl rfl (by omega) (by omega) ?_
   refine o1 ?_;refine nl ?_;refine rl ?_;(iterate 3 refine o1 ?_);refine nl ?_;have hst:=Gd (d:=nth X k+65536-nth Y k-br) (br':=1) hos hv (by omega)
   exact⟨(k+1,1,os++[nth X k+65536-nth Y k-br]),by dsimp only;omega,⟨by simp[hos],hol.append (Lim.cons (by omega) Lim.nil),hst,by dsimp only;omega,by dsimp only;omega⟩,aJ h0 [2] _ _ (by decide) ⟨rfl,rfl,rfl,rfl,rfl,trivial⟩ ⟨kK rfl (fH _ [nth X k+65536-nth Y k-br]) rfl,rfl⟩⟩
  refine sk ?_;refine rl ?_;refine WL.cast (t:=11) (u':=.int .i64 (((nth X k-nth Y k-br:Nat)):Int)) rfl (aL (by omega)) ?_
  refine o1 ?_;refine o1 ?_;refine bs 1 ?_
  refine eJ (j:=2) aA rfl rfl rfl rfl (.sl rfl (by rw[List.length_map,fG,hos];omega)) (.sl rfl rfl rfl) rfl rfl rfl (by omega) (by omega) ?_
  refine o1 ?_;refine nl ?_;refine rl ?_;(iterate 3 refine o1 ?_);refine nl ?_;have hst:=Gd (d:=nth X k-nth Y k-br) (br':=0) hos hv (by omega)
  exact⟨(k+1,0,os++[nth X k-nth Y k-br]),by dsimp only;omega,⟨by simp[hos],hol.append (Lim.cons (by omega) Lim.nil),hst,by dsimp only;omega,by dsimp only;omega⟩,aJ h0 [2] _ _ (by decide) ⟨rfl,rfl,rfl,rfl,rfl,trivial⟩ ⟨kK rfl (fH _ [nth X k-nth Y k-br]) rfl,rfl⟩⟩
 refine ex ?_;refine sq ?_;refine rl ?_;have hoo:=dV hol
 rw[hos]at hoo;rw[bH 65536 (l:=X) (by omega),bH 65536 (l:=Y) (by omega),hvX,hvY]at hv
 have hb0:br=0:=by
  rcases Nat.eq_zero_or_pos br with h0 | h0
  ·exact h0
  have h1:br=1:=by omega
  rw[h1,Nat.mul_one,show k=X.length by omega]at hv
  rw[show k=X.length by omega]at hoo
  omega
 rw[hb0,Nat.mul_zero,Nat.add_zero]at hv;have he:vl 65536 os=vl 4294967296 xs-vl 4294967296 ys:=by omega
 refine WL.sub (vV (i:=8) (zs':=os) rfl rfl rfl (by omega) rfl) ?_
 refine o1 ?_;refine fJ 1 (wZ (by omega) (by assumption)) Mm ⟨a1 rfl,rfl⟩ ?_
 refine o1 ?_;refine o1 ?_;refine nl ?_;refine rt ?_
 exact en (.inl rfl) rfl (jL (.cons (.one (.sl (trs:=aK (dg 4294967296 (vl 65536 os))) rfl rfl (aV _) (aQ _))) (.cons (cD _) .nil))) (by decide) (fun _=>⟨.inl ⟨rfl,eK _⟩,trivial,trivial⟩) (by rw[he,if_neg (by omega)];rfl)
theorem wJ {a:Zi}{k:Int}(ha:Zn a k):aD true Tryz.prog 105 [] [gF a] (aM (.one (tv (.bool (cM a.s a.x))))):=by
 refine bK Tryz.func105 rfl Tryz.ntmps105 rfl aA rfl fun N w c0 h0=>?_
 have hal:=ha.2.1
 refine sq ?_;refine rl ?_;refine bx 0 ?_;refine o1 ?_;refine nl ?_;refine sq ?_;refine sq ?_;refine rl ?_;refine o1 ?_;refine ld ?_;refine o1 ?_;refine o1 ?_;refine nl ?_
 refine bU rfl (fun h1=>?_) (fun h1=>?_)
 ·refine sq ?_;refine rl ?_;refine o1 ?_;refine ld ?_;refine WL.splitb (t:=8) rfl (fun h2=>?_) (fun h2=>?_)
  ·refine o1 ?_;refine o1 ?_;refine nl ?_;refine rt ?_;refine en (.inl rfl) rfl (aP (cD _)) (by decide) (fun _=>trivial) (congrArg (fun b=>FV.one (tv (.bool b))) ?_)
   rw[lI (by omega)];simp_all
  refine o1 ?_;refine o1 ?_;refine nl ?_;refine rt ?_;refine en (.inl rfl) rfl (aP (cD _)) (by decide) (fun _=>trivial) (congrArg (fun b=>FV.one (tv (.bool b))) ?_)
  rw[lI (by omega)];simp_all
 refine sk ?_;refine sq ?_;refine rl ?_;refine o1 ?_;refine ld ?_;refine o1 ?_;refine ld ?_;refine o1 ?_;refine o1 ?_
 refine WL.cast (t:=15) (u':=.int .i64 ((a.x.length-1:Nat):Int)) rfl (aL (by omega)) ?_
 refine o1 ?_;refine fQ ([.v (.int .u32 ((nth a.x (a.x.length-1):Nat):Int))]) (mI a.x (k:=a.x.length-1) (by omega)) ?_
 refine o1 ?_;refine o1 ?_;refine nl ?_;refine rt ?_;refine en (.inl rfl) rfl (aP (cD _)) (by decide) (fun _=>trivial) (congrArg (fun b=>FV.one (tv (.bool b))) ?_)
 exact(rV rfl (by omega)).symm
theorem eS {a:Zi}{k:Int}(ha:Zn a k):aD false Tryz.prog 64 [] [gF a] (aM (kF k)):=by
 refine bK Tryz.func64 rfl Tryz.ntmps64 rfl aA rfl fun N w c0 h0=>?_
 refine sq ?_;refine rl ?_;refine bx 0 ?_;refine al 1 ?_;refine nl ?_;refine sq ?_;refine sq ?_;refine rl ?_;refine ld ?_
 refine ca (wJ ha) Lr ⟨aB rfl,rfl⟩ (.one (tv (.bool (cM a.s a.x)))) ?_;refine WL.splitb (t:=4) rfl (fun h1=>?_) (fun h1=>?_)
 ·refine o1 ?_;refine nl ?_;refine gQ rfl ?_;refine sk ?_;refine sq ?_;refine rl ?_;refine ld ?_;refine st ?_;refine nl ?_;refine rt ?_
  exact en (.inl rfl) rfl (aP (.agg (.read _ (l:=[.v (.bool a.s),sU false a.x]) rfl))) (by decide) (fun h=>by cases h) (Vf ha h1)
 refine o1 ?_;refine nl ?_;refine mF rfl ?_;refine sq ?_;refine rl ?_;refine o1 ?_;refine st ?_;refine nl ?_;refine rt ?_
 exact en (.inl rfl) rfl (aP (.agg (.cons (.id rfl) (.cons .nilf .nil)))) (by decide) (fun h=>by cases h) (by rw[ha.wrong h1];exact uP)
theorem iJ {b:Bool}{xs:List Nat}{K:Int}(hx:xs.length≤1099511627776) (hl:Lim 4294967296 xs) (hK:bI b (vl 4294967296 xs)=K):aD true Tryz.prog 72 [] [.one (tv (.bool b)),.one (.t (sU false xs))] (aM (kO K)):=by
 refine bK Tryz.func72 rfl Tryz.ntmps72 rfl aA rfl fun N w c0 h0=>?_
 refine sq ?_;refine rl ?_;refine al 0 ?_;refine nl ?_;refine sq ?_;refine rl ?_;refine o1 ?_;refine fJ 1 (BH hx hl) IS ⟨a1 rfl,rfl⟩ ?_;refine o1 ?_;refine nl ?_;refine sq ?_
 refine rl ?_;refine o1 ?_;refine o1 ?_;refine WL.splitb (t:=9) rfl (fun h1=>?_) (fun h1=>?_)
 ·(iterate 6 refine o1 ?_);refine st ?_;refine nl ?_;refine rt ?_
  exact en (.inl rfl) rfl (aP (.agg (.cons (.id rfl) (.cons (.sl (trs:=aK (dg 4294967296 (vl 4294967296 xs))) rfl rfl (aV _) (aQ _)) .nil)))) (by decide) (fun _=>Af _ _) (hK▸rW (by rw[←yJ rfl,h1,Bool.true_and];exact decide_eq_decide.2 (by omega)) (gV _ _).symm)
 (iterate 3 refine eO ?_);(iterate 3 refine o1 ?_);refine st ?_;refine nl ?_;refine rt ?_
 exact en (.inl rfl) rfl (aP (.agg (.cons (.id rfl) (.cons (.sl (trs:=aK (dg 4294967296 (vl 4294967296 xs))) rfl rfl (aV _) (aQ _)) .nil)))) (by decide) (fun _=>Af _ _) (hK▸rW (by rw[←yJ rfl,h1];rfl) (gV _ _).symm)
theorem mA {n:Int}(h1:-9223372036854775808≤n) (h2:n≤9223372036854775807):aD true Tryz.prog 26 [] [.one (tv (.int .i64 n))] (aM (kO n)):=by
 refine bK Tryz.func26 rfl Tryz.ntmps26 rfl aA rfl fun N w c0 h0=>?_
 obtain⟨hr1,hr2,hq1,hq2,hv1,hv2⟩:=Uy h1 h2
 refine sq ?_;refine rl ?_;refine al 0 ?_;refine nl ?_;refine sq ?_;refine rl ?_;(iterate 3 refine o1 ?_);refine o1 ?_ (hC:=(by exact⟨by omega,by simp only[fT];omega⟩))
 refine o1 ?_;refine o1 ?_;refine nl ?_;refine sq ?_;refine rl ?_;(iterate 6 refine o1 ?_)
 refine WL.cast (t:=14) (u':=.int .i64 (((Int.tmod n 4294967296).natAbs:Nat):Int)) rfl (aL (by omega)) ?_
 refine o1 ?_;refine WL.cast (t:=15) (u':=.int .u32 (((Int.tmod n 4294967296).natAbs:Nat):Int)) rfl (aL (by omega)) ?_
 (iterate 4 refine o1 ?_);refine WL.cast (t:=19) (u':=.int .i64 (((Int.tdiv n 4294967296).natAbs:Nat):Int)) rfl (aL (by omega)) ?_
 refine o1 ?_;refine WL.cast (t:=20) (u':=.int .u32 (((Int.tdiv n 4294967296).natAbs:Nat):Int)) rfl (aL (by omega)) ?_
 refine bs 1 ?_
 refine WL.sub (MY (i:=21) (zs:=[(Int.tmod n 4294967296).natAbs,(Int.tdiv n 4294967296).natAbs]) (zs':=[(Int.tmod n 4294967296).natAbs,(Int.tdiv n 4294967296).natAbs]) rfl rfl rfl rfl rfl) ?_
 refine fJ 2 (iJ (K:=n) (by simp) (Lim.cons (by omega) (Lim.cons (by omega) Lim.nil)) (FO hv1)) cR ⟨a1 rfl,a1 rfl,rfl⟩ ?_
 refine st ?_;refine nl ?_;refine rt ?_
 exact en (.inl rfl) rfl (aP (.agg (.cons (.id rfl) (.cons (.sl (trs:=aK (dg 4294967296 (n).natAbs)) rfl rfl (aV _) (aQ _)) .nil)))) (by decide) (fun _=>dO (n)) rfl
theorem Ds {a b:Zi}{k k':Int}(ha:Zn a k) (hb:Zn b k'):aD true Tryz.prog 19 [] [gF a,gF b] (aM (.one (tv (.int .i64 (k-k').sign)))):=by
 refine bK Tryz.func19 rfl Tryz.ntmps19 rfl aA rfl fun N w c0 h0=>?_
 have hkl:=ha.len
 have hkl':=hb.len
 refine sq ?_;refine rl ?_;refine bx 0 ?_;refine bx 1 ?_;refine o1 ?_;refine nl ?_;refine sq ?_;refine rl ?_;refine ld ?_;refine ca (eS ha) lS ⟨aB rfl,rfl⟩ (kF (k)) ?_;refine st ?_
 refine nl ?_;refine sq ?_;refine rl ?_;refine ld ?_;refine ca (eS hb) lS ⟨aB rfl,rfl⟩ (kF (k')) ?_;refine st ?_;refine nl ?_;refine sq ?_;refine bl ?_;refine sq ?_;refine rl ?_
 refine o1 ?_;refine ld ?_;refine o1 ?_;refine WL.splitb (t:=12) rfl (fun h1=>?_) (fun h1=>?_)
 ·refine o1 ?_;refine ld ?_;refine WL.splitb (t:=14) rfl (fun h2=>?_) (fun h2=>?_)
  ·(iterate 3 refine o1 ?_);refine nl ?_;refine gQ rfl ?_;refine sq ?_;refine rl ?_;refine o1 ?_;refine ld ?_;refine o1 ?_;refine WL.cast (t:=20) rfl (congrArg Value.bool h2) ?_
   refine o1 ?_;refine ld ?_;refine WL.cast (t:=22) rfl (congrArg Value.bool h1) ?_;(iterate 3 refine o1 ?_);refine nl ?_;refine gQ rfl ?_;refine sq ?_;refine rl ?_;refine o1 ?_
   refine ld ?_;refine o1 ?_;refine nl ?_;refine mF (congrArg (fun b=>FV.one (tv (.bool b))) h1) ?_
   refine sq ?_;refine rl ?_;refine o1 ?_;refine ld ?_;refine o1 ?_;refine ld ?_
   refine ca (Gp (by omega) (aH (by omega) _) (by omega) (aH (by omega) _)) Un ⟨a1 rfl,a1 rfl,rfl⟩ (.one (tv (.int .i64 (((vl 4294967296 (dg 4294967296 (k').natAbs):Nat):Int)-((vl 4294967296 (dg 4294967296 (k).natAbs):Nat):Int)).sign))) ?_
   refine o1 ?_;refine nl ?_;refine rt ?_;refine en (.inl rfl) rfl (aP (cD _)) (by decide) (fun _=>trivial) (congrArg (fun z=>FV.one (tv (.int .i64 z))) ?_)
   rw[bC,bC];exact AZ h1 h2
  (iterate 3 refine o1 ?_);refine nl ?_;refine mF rfl ?_;refine sq ?_;refine rl ?_;refine o1 ?_;refine nl ?_;refine rt ?_
  refine en (.inl rfl) rfl (aP (cD _)) (by decide) (fun _=>trivial) (congrArg (fun z=>FV.one (tv (.int .i64 z))) ?_)
  exact AX h1 h2
 (iterate 3 refine eO ?_);refine o1 ?_;refine o1 ?_;refine nl ?_;refine gQ rfl ?_;refine sq ?_;refine rl ?_;refine o1 ?_;refine ld ?_;refine o1 ?_
 refine WL.splitb (t:=20) rfl (fun h3=>?_) (fun h3=>?_)
 ·refine o1 ?_;refine ld ?_;refine WL.cast (t:=22) rfl (congrArg Value.bool h1) ?_;(iterate 3 refine o1 ?_);refine nl ?_;refine mF rfl ?_;refine sq ?_;refine rl ?_;refine o1 ?_
  refine nl ?_;refine rt ?_;refine en (.inl rfl) rfl (aP (cD _)) (by decide) (fun _=>trivial) (congrArg (fun z=>FV.one (tv (.int .i64 z))) ?_)
  exact AY h1 h3
 (iterate 3 refine eO ?_);refine o1 ?_;refine o1 ?_;refine nl ?_;refine gQ rfl ?_;refine sq ?_;refine rl ?_;refine o1 ?_;refine ld ?_;refine o1 ?_;refine nl ?_
 refine gQ (congrArg (fun b=>FV.one (tv (.bool b))) h1) ?_
 refine sk ?_;refine sq ?_;refine rl ?_;refine o1 ?_;refine ld ?_;refine o1 ?_;refine ld ?_
 refine ca (Gp (by omega) (aH (by omega) _) (by omega) (aH (by omega) _)) Un ⟨a1 rfl,a1 rfl,rfl⟩ (.one (tv (.int .i64 (((vl 4294967296 (dg 4294967296 (k).natAbs):Nat):Int)-((vl 4294967296 (dg 4294967296 (k').natAbs):Nat):Int)).sign))) ?_
 refine o1 ?_;refine nl ?_;refine rt ?_;refine en (.inl rfl) rfl (aP (cD _)) (by decide) (fun _=>trivial) (congrArg (fun z=>FV.one (tv (.int .i64 z))) ?_)
 rw[bC,bC];exact BA h1 h3
theorem kL {a:Zi}{k:Int}(ha:Zn a k):aD true Tryz.prog 61 [] [gF a] (aM (.one (tv (.int .i64 k.sign)))):=by
 refine bK Tryz.func61 rfl Tryz.ntmps61 rfl aA rfl fun N w c0 h0=>?_
 have hkl:=ha.len
 refine sq ?_;refine rl ?_;refine bx 0 ?_;refine o1 ?_;refine nl ?_;refine sq ?_;refine rl ?_;refine ld ?_;refine o1 ?_
 refine ca (Ds ha MZ) Lq ⟨aB rfl,mG rfl (.cons .t (.cons .nil .nil)),rfl⟩ (.one (tv (.int .i64 ((k)-(0)).sign))) ?_;refine o1 ?_;refine nl ?_;refine rt ?_
 exact en (.inl rfl) rfl (aP (cD _)) (by decide) (fun _=>trivial) (congrArg (fun z=>FV.one (tv (.int .i64 z))) (by rw[Int.sub_zero]))
theorem tE {a:Zi}{k:Int}(ha:Zn a k):aD true Tryz.prog 63 [] [gF a] (aM (kO (-k))):=by
 refine bK Tryz.func63 rfl Tryz.ntmps63 rfl aA rfl fun N w c0 h0=>?_
 have hkl:=ha.len
 refine sq ?_;refine rl ?_;refine bx 0 ?_;refine al 1 ?_;refine nl ?_;refine sq ?_;refine rd [0,1] (fun i=>[8].contains i) mixed ?_
 refine aX 0 ?_;refine aX 4 ?_;refine aI 1 rfl (eS ha) lS ⟨aB rfl,rfl⟩ (kF (k)) ?_;refine df 2 ?_;refine df 3 ?_;refine aI 5 rfl (eS ha) lS ⟨aB rfl,rfl⟩ (kF (k)) ?_
 refine df 6 ?_;refine iM 2 7 rfl (iJ (K:=-k) (by omega) (aH (by omega) _) (by rw[bC];exact Kd k)) cR ⟨a1 rfl,a1 rfl,rfl⟩ ?_
 refine dst 8 ?_;refine aO ?_;refine rt ?_
 exact en (.inl rfl) rfl (aP (.agg (.cons (.id rfl) (.cons (.sl (trs:=aK (dg 4294967296 (-k).natAbs)) rfl rfl (aV _) (aQ _)) .nil)))) (by decide) (fun _=>dO (-k)) rfl
theorem mO {a b:Zi}{k k':Int}(ha:Zn a k) (hb:Zn b k'):aD true Tryz.prog 62 [] [gF a,gF b] (aM (kO (k+k'))):=by
 refine bK Tryz.func62 rfl Tryz.ntmps62 rfl aA rfl fun N w c0 h0=>?_
 have hkl:=ha.len
 have hkl':=hb.len
 refine sq ?_;refine rl ?_;refine bx 0 ?_;refine bx 1 ?_;refine al 2 ?_;refine nl ?_;refine sq ?_;refine rl ?_;refine ld ?_;refine ca (eS ha) lS ⟨aB rfl,rfl⟩ (kF (k)) ?_
 refine st ?_;refine nl ?_;refine sq ?_;refine rl ?_;refine ld ?_;refine ca (eS hb) lS ⟨aB rfl,rfl⟩ (kF (k')) ?_;refine st ?_;refine nl ?_;refine sq ?_;refine sq ?_;refine rl ?_
 refine o1 ?_;refine ld ?_;refine o1 ?_;refine ld ?_;refine o1 ?_;refine nl ?_;refine vM rfl (fun h1=>?_) (fun h1=>?_)
 ·refine sq ?_;refine rd [0,1,2] (fun i=>[8].contains i) mixed ?_
  refine dv 0 ?_;refine aX 1 ?_;refine dv 2 ?_;refine aX 3 ?_;refine dv 4 ?_;refine aX 5 ?_
  have hn2:=Ae (xs:=(dg 4294967296 (k).natAbs)) (ys:=(dg 4294967296 (k').natAbs)) (aH (by omega) _) (aH (by omega) _)
  refine aI 6 rfl (GB (by omega) (aH (by omega) _) (by omega) (aH (by omega) _)) IR ⟨a1 rfl,a1 rfl,rfl⟩ (.one (.t (sU false (dg 4294967296 (vl 4294967296 (dg 4294967296 (k).natAbs)+vl 4294967296 (dg 4294967296 (k').natAbs)))))) ?_
  refine iM 3 7 rfl (iJ (K:=k+k') (by omega) (aH (by omega) _) (by simp only[bO (B:=4294967296) (by omega)];exact Bs rfl (eq_of_beq h1))) cR ⟨a1 rfl,a1 rfl,rfl⟩ ?_
  refine dst 8 ?_;refine aO ?_;refine rt ?_
  exact en (.inl rfl) rfl (aP (.agg (.cons (.id rfl) (.cons (.sl (trs:=aK (dg 4294967296 (k+k').natAbs)) rfl rfl (aV _) (aQ _)) .nil)))) (by decide) (fun _=>dO (k+k')) rfl
 refine sk ?_;refine sq ?_;refine rl ?_;refine o1 ?_;refine ld ?_;refine o1 ?_;refine ld ?_
 have hn3:=Ke (xs:=(dg 4294967296 (k).natAbs)) (ys:=(dg 4294967296 (k').natAbs)) (aH (by omega) _)
 refine ca (Ro (by omega) (aH (by omega) _) (by omega) (aH (by omega) _)) Wu ⟨a1 rfl,a1 rfl,rfl⟩ (.tup [.one (.t (sU false (dg 4294967296 (vl 4294967296 (dg 4294967296 (k).natAbs)-vl 4294967296 (dg 4294967296 (k').natAbs))))),.one (tv (.int .i64 (if vl 4294967296 (dg 4294967296 (k).natAbs)<vl 4294967296 (dg 4294967296 (k').natAbs)then 2 else 0)))]) ?_
 (iterate 5 refine o1 ?_);refine nl ?_;refine sq ?_;refine sq ?_;refine rl ?_;refine o1 ?_;refine o1 ?_;refine nl ?_;refine bU rfl (fun h4=>?_) (fun h4=>?_)
 ·refine sq ?_;refine rl ?_;refine o1 ?_;refine ld ?_;refine o1 ?_
  refine fJ 3 (iJ (K:=k+k') (by omega) (aH (by omega) _) (by simp only[bO (B:=4294967296) (by omega)];exact Kf rfl (ne_of_beq_false h1) (fun h8=>by rw[bC,bC,if_pos h8]at h4;omega))) cR ⟨a1 rfl,a1 rfl,rfl⟩ ?_
  refine st ?_;refine nl ?_;refine rt ?_
  exact en (.inl rfl) rfl (aP (.agg (.cons (.id rfl) (.cons (.sl (trs:=aK (dg 4294967296 (k+k').natAbs)) rfl rfl (aV _) (aQ _)) .nil)))) (by decide) (fun _=>dO (k+k')) rfl
 refine sk ?_;refine sq ?_;refine rl ?_;refine o1 ?_;refine ld ?_;refine o1 ?_;refine ld ?_
 have hn5:=Ke (xs:=(dg 4294967296 (k').natAbs)) (ys:=(dg 4294967296 (k).natAbs)) (aH (by omega) _)
 refine ca (Ro (by omega) (aH (by omega) _) (by omega) (aH (by omega) _)) Wu ⟨a1 rfl,a1 rfl,rfl⟩ (.tup [.one (.t (sU false (dg 4294967296 (vl 4294967296 (dg 4294967296 (k').natAbs)-vl 4294967296 (dg 4294967296 (k).natAbs))))),.one (tv (.int .i64 (if vl 4294967296 (dg 4294967296 (k').natAbs)<vl 4294967296 (dg 4294967296 (k).natAbs)then 2 else 0)))]) ?_
 (iterate 4 refine o1 ?_);refine nl ?_;refine sq ?_;refine rl ?_;refine o1 ?_;refine ld ?_;refine o1 ?_
 refine fJ 3 (iJ (K:=k+k') (by omega) (aH (by omega) _) (by simp only[bO (B:=4294967296) (by omega)];exact Kg rfl (ne_of_beq_false h1) (Decidable.byContradiction fun h8=>h4 (by rw[bC,bC,if_neg h8])))) cR ⟨a1 rfl,a1 rfl,rfl⟩ ?_
 refine st ?_;refine nl ?_;refine rt ?_
 exact en (.inl rfl) rfl (aP (.agg (.cons (.id rfl) (.cons (.sl (trs:=aK (dg 4294967296 (k+k').natAbs)) rfl rfl (aV _) (aQ _)) .nil)))) (by decide) (fun _=>dO (k+k')) rfl
theorem Ef {a b:Zi}{k k':Int}(ha:Zn a k) (hb:Zn b k'):aD true Tryz.prog 60 [] [gF a,gF b] (aM (kO (k-k'))):=by
 refine bK Tryz.func60 rfl Tryz.ntmps60 rfl aA rfl fun N w c0 h0=>?_
 have hkl:=ha.len
 have hkl':=hb.len
 refine sq ?_;refine rl ?_;refine bx 0 ?_;refine bx 1 ?_;refine al 2 ?_;refine nl ?_;refine sq ?_;refine rd [0,1,2] (fun i=>[4].contains i) mixed ?_
 refine aX 0 ?_;refine aX 1 ?_;have hn1:=iP (k')
 refine aI 2 rfl (tE hb) Dw ⟨aB rfl,rfl⟩ (kF (-k')) ?_;refine iM 3 3 rfl (mO ha (Zn.of (k:=-k') (by omega))) tF ⟨aB rfl,aB rfl,rfl⟩ ?_
 refine dst 4 ?_;refine aO ?_;refine rt ?_
 exact en (.inl rfl) rfl (aP (.agg (.cons (.id rfl) (.cons (.sl (trs:=aK (dg 4294967296 (k+-k').natAbs)) rfl rfl (aV _) (aQ _)) .nil)))) (by decide) (fun _=>dO (k+-k')) rfl
end Go.Proofs.YthmgbcdidlkpoaaGreat
