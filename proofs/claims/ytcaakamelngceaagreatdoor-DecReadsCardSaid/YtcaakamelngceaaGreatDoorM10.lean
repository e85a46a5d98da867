/- Part 10 of a proof: G3 to U1. -/
import Derived.Test.YtcaakamelngceaaGreatDoorM9
import Derived.Test.YtcaakamelngceaaGreatDoorM7
import Derived.Test.YtcaakamelngceaaGreatDoorM4
import Derived.Shelf.Strings.Repeat
import Derived.Shelf.Bits.Mul64
import Derived.Test.YtcaakamelngceaaGreatDoorProg
set_option maxRecDepth 100000
set_option linter.unusedVariables false
set_option linter.unusedSimpArgs false
namespace Go.Proofs.YtcaakamelngceaaGreatDoor
open Go Go.RowKit
theorem kA (xs:List Nat):((aO xs).map AV.t).take (aO xs).length=(aO xs).map .t:=List.take_of_length_le (by simp)
theorem nL {a b:Zi}{k k':Int}(ha:Zg a k) (hb:Zg b k') (hz0:k'≠0):aD true Tryz.prog 158 [] [gF a,gF b] (aL (.tup [kO (k.fdiv k'),kO (k.fmod k'),.one (tv (.int .i64 0))])):=by
 refine bE Tryz.func158 rfl Tryz.ntmps158 rfl aA rfl fun N w c0 h0=>?_
 have hkl:=ha.len
 have hkl':=hb.len
 have hq:(dg 4294967296 (k.natAbs/k'.natAbs)).length≤300000000000:=Nat.le_trans (dV (Nat.div_le_self _ _)) hkl
 have hr0:=Nat.mod_lt k.natAbs (show 0<k'.natAbs by omega)
 have hrl:(dg 4294967296 (k.natAbs%k'.natAbs)).length≤300000000000:=Nat.le_trans (dV (Nat.le_of_lt hr0)) hkl'
 refine sq ?_;refine rl ?_;refine bx 0 ?_;refine bx 1 ?_;refine al 2 ?_;refine al 3 ?_;refine o1 ?_;refine nl ?_
 refine md (γ:=Unit) (fun _=>cK [(4,.one (.pt 0 0)),(5,.one (.pt 1 0)),(6,.one (tv (.int .i64 ((0:Nat):Int)))),(7,.one (.pt 2 0)),(8,.one (.pt 3 0))]) (fun _=>([⟨25,0,[tv (.bool false),tv (.slice none 0 0)]⟩,⟨25,0,[tv (.bool false),tv (.slice none 0 0)]⟩,⟨155,0,[tv (.bool (aI k)),.t (sU false (dg 4294967296 k.natAbs))]⟩,⟨155,0,[tv (.bool (aI k')),.t (sU false (dg 4294967296 k'.natAbs))]⟩]:List Ob).map some) (fun _=>True) ?_ fun _ _=>?_
 ·refine rd [0,1,2,3] (fun i=>[7].contains i) mixed ?_
  refine aX 0 ?_;refine aX 2 ?_;refine WO.three (i:=1) (j:=4) (m:=5) (by kernel_rfl) ?_ ?_ ?_
  ·refine cZ 1 rfl (dC ha) cJ ⟨aB rfl,rfl⟩ (kF (k)) ?_;refine WO.three (i:=3) (j:=4) (m:=5) (by kernel_rfl) ?_ ?_ ?_
   ·refine cZ 3 rfl (dC hb) cJ ⟨aB rfl,rfl⟩ (kF (k')) ?_;refine WO.two (i:=4) (j:=5) (by kernel_rfl) ?_ ?_
    ·refine bR (key:=4) 4 rfl rfl aA rfl ⟨rfl,rfl,rfl,rfl,trivial⟩ ?_;refine fA (key:=5) 5 (by kernel_rfl) rfl rfl aA rfl ⟨rfl,rfl,rfl,rfl,trivial⟩ ?_
     refine aV 6 (by kernel_rfl) rfl rfl aA rfl rfl rfl rfl ⟨rfl,rfl,rfl,rfl,trivial⟩ ?_
     refine dst 7 ?_;refine aS ?_;exact⟨(),trivial,aQ h0 [2,3,4,5] _ _ (by decide) ⟨rfl,rfl,rfl,rfl,rfl,trivial⟩ ⟨oe rfl rfl,oe rfl rfl,oe rfl rfl,oe rfl rfl,rfl⟩⟩
    refine bR (key:=4) 5 rfl rfl aA rfl ⟨rfl,rfl,rfl,rfl,trivial⟩ ?_;refine fA (key:=5) 4 (by kernel_rfl) rfl rfl aA rfl ⟨rfl,rfl,rfl,rfl,trivial⟩ ?_
    refine aV 6 (by kernel_rfl) rfl rfl aA rfl rfl rfl rfl ⟨rfl,rfl,rfl,rfl,trivial⟩ ?_
    refine dst 7 ?_;refine aS ?_;exact⟨(),trivial,aQ h0 [2,3,5,4] _ _ (by decide) ⟨rfl,rfl,rfl,rfl,rfl,trivial⟩ ⟨oe rfl rfl,oe rfl rfl,oe rfl rfl,oe rfl rfl,rfl⟩⟩
   ·refine bR (key:=4) 4 rfl rfl aA rfl ⟨rfl,rfl,rfl,rfl,trivial⟩ ?_;refine WO.two (i:=3) (j:=5) (by kernel_rfl) ?_ ?_
    ·refine cZ 3 rfl (dC hb) cJ ⟨aB rfl,rfl⟩ (kF (k')) ?_;refine fA (key:=5) 5 (by kernel_rfl) rfl rfl aA rfl ⟨rfl,rfl,rfl,rfl,trivial⟩ ?_
     refine aV 6 (by kernel_rfl) rfl rfl aA rfl rfl rfl rfl ⟨rfl,rfl,rfl,rfl,trivial⟩ ?_
     refine dst 7 ?_;refine aS ?_;exact⟨(),trivial,aQ h0 [2,3,4,5] _ _ (by decide) ⟨rfl,rfl,rfl,rfl,rfl,trivial⟩ ⟨oe rfl rfl,oe rfl rfl,oe rfl rfl,oe rfl rfl,rfl⟩⟩
    refine bR (key:=5) 5 rfl rfl aA rfl ⟨rfl,rfl,rfl,rfl,trivial⟩ ?_;refine aJ 3 rfl (dC hb) cJ ⟨aB rfl,rfl⟩ (kF (k')) ?_
    refine aV 6 (by kernel_rfl) rfl rfl aA rfl rfl rfl rfl ⟨rfl,rfl,rfl,rfl,trivial⟩ ?_
    refine dst 7 ?_;refine aS ?_;exact⟨(),trivial,aQ h0 [2,3,4,5] _ _ (by decide) ⟨rfl,rfl,rfl,rfl,rfl,trivial⟩ ⟨oe rfl rfl,oe rfl rfl,oe rfl rfl,oe rfl rfl,rfl⟩⟩
   refine bR (key:=4) 5 rfl rfl aA rfl ⟨rfl,rfl,rfl,rfl,trivial⟩ ?_;refine WO.two (i:=3) (j:=4) (by kernel_rfl) ?_ ?_
   ·refine cZ 3 rfl (dC hb) cJ ⟨aB rfl,rfl⟩ (kF (k')) ?_;refine fA (key:=5) 4 (by kernel_rfl) rfl rfl aA rfl ⟨rfl,rfl,rfl,rfl,trivial⟩ ?_
    refine aV 6 (by kernel_rfl) rfl rfl aA rfl rfl rfl rfl ⟨rfl,rfl,rfl,rfl,trivial⟩ ?_
    refine dst 7 ?_;refine aS ?_;exact⟨(),trivial,aQ h0 [2,3,5,4] _ _ (by decide) ⟨rfl,rfl,rfl,rfl,rfl,trivial⟩ ⟨oe rfl rfl,oe rfl rfl,oe rfl rfl,oe rfl rfl,rfl⟩⟩
   refine bR (key:=5) 4 rfl rfl aA rfl ⟨rfl,rfl,rfl,rfl,trivial⟩ ?_;refine aJ 3 rfl (dC hb) cJ ⟨aB rfl,rfl⟩ (kF (k')) ?_
   refine aV 6 (by kernel_rfl) rfl rfl aA rfl rfl rfl rfl ⟨rfl,rfl,rfl,rfl,trivial⟩ ?_
   refine dst 7 ?_;refine aS ?_;exact⟨(),trivial,aQ h0 [2,3,5,4] _ _ (by decide) ⟨rfl,rfl,rfl,rfl,rfl,trivial⟩ ⟨oe rfl rfl,oe rfl rfl,oe rfl rfl,oe rfl rfl,rfl⟩⟩
  ·refine bR (key:=4) 4 rfl rfl aA rfl ⟨rfl,rfl,rfl,rfl,trivial⟩ ?_;refine WO.two (i:=1) (j:=5) (by kernel_rfl) ?_ ?_
   ·refine cZ 1 rfl (dC ha) cJ ⟨aB rfl,rfl⟩ (kF (k)) ?_;refine WO.two (i:=3) (j:=5) (by kernel_rfl) ?_ ?_
    ·refine cZ 3 rfl (dC hb) cJ ⟨aB rfl,rfl⟩ (kF (k')) ?_;refine fA (key:=5) 5 (by kernel_rfl) rfl rfl aA rfl ⟨rfl,rfl,rfl,rfl,trivial⟩ ?_
     refine aV 6 (by kernel_rfl) rfl rfl aA rfl rfl rfl rfl ⟨rfl,rfl,rfl,rfl,trivial⟩ ?_
     refine dst 7 ?_;refine aS ?_;exact⟨(),trivial,aQ h0 [2,3,4,5] _ _ (by decide) ⟨rfl,rfl,rfl,rfl,rfl,trivial⟩ ⟨oe rfl rfl,oe rfl rfl,oe rfl rfl,oe rfl rfl,rfl⟩⟩
    refine bR (key:=5) 5 rfl rfl aA rfl ⟨rfl,rfl,rfl,rfl,trivial⟩ ?_;refine aJ 3 rfl (dC hb) cJ ⟨aB rfl,rfl⟩ (kF (k')) ?_
    refine aV 6 (by kernel_rfl) rfl rfl aA rfl rfl rfl rfl ⟨rfl,rfl,rfl,rfl,trivial⟩ ?_
    refine dst 7 ?_;refine aS ?_;exact⟨(),trivial,aQ h0 [2,3,4,5] _ _ (by decide) ⟨rfl,rfl,rfl,rfl,rfl,trivial⟩ ⟨oe rfl rfl,oe rfl rfl,oe rfl rfl,oe rfl rfl,rfl⟩⟩
   refine bR (key:=5) 5 rfl rfl aA rfl ⟨rfl,rfl,rfl,rfl,trivial⟩ ?_;refine aJ 1 rfl (dC ha) cJ ⟨aB rfl,rfl⟩ (kF (k)) ?_
   refine aJ 3 rfl (dC hb) cJ ⟨aB rfl,rfl⟩ (kF (k')) ?_;refine aV 6 (by kernel_rfl) rfl rfl aA rfl rfl rfl rfl ⟨rfl,rfl,rfl,rfl,trivial⟩ ?_
   refine dst 7 ?_;refine aS ?_;exact⟨(),trivial,aQ h0 [2,3,4,5] _ _ (by decide) ⟨rfl,rfl,rfl,rfl,rfl,trivial⟩ ⟨oe rfl rfl,oe rfl rfl,oe rfl rfl,oe rfl rfl,rfl⟩⟩
  refine bR (key:=4) 5 rfl rfl aA rfl ⟨rfl,rfl,rfl,rfl,trivial⟩ ?_;refine WO.two (i:=1) (j:=4) (by kernel_rfl) ?_ ?_
  ·refine cZ 1 rfl (dC ha) cJ ⟨aB rfl,rfl⟩ (kF (k)) ?_;refine WO.two (i:=3) (j:=4) (by kernel_rfl) ?_ ?_
   ·refine cZ 3 rfl (dC hb) cJ ⟨aB rfl,rfl⟩ (kF (k')) ?_;refine fA (key:=5) 4 (by kernel_rfl) rfl rfl aA rfl ⟨rfl,rfl,rfl,rfl,trivial⟩ ?_
    refine aV 6 (by kernel_rfl) rfl rfl aA rfl rfl rfl rfl ⟨rfl,rfl,rfl,rfl,trivial⟩ ?_
    refine dst 7 ?_;refine aS ?_;exact⟨(),trivial,aQ h0 [2,3,5,4] _ _ (by decide) ⟨rfl,rfl,rfl,rfl,rfl,trivial⟩ ⟨oe rfl rfl,oe rfl rfl,oe rfl rfl,oe rfl rfl,rfl⟩⟩
   refine bR (key:=5) 4 rfl rfl aA rfl ⟨rfl,rfl,rfl,rfl,trivial⟩ ?_;refine aJ 3 rfl (dC hb) cJ ⟨aB rfl,rfl⟩ (kF (k')) ?_
   refine aV 6 (by kernel_rfl) rfl rfl aA rfl rfl rfl rfl ⟨rfl,rfl,rfl,rfl,trivial⟩ ?_
   refine dst 7 ?_;refine aS ?_;exact⟨(),trivial,aQ h0 [2,3,5,4] _ _ (by decide) ⟨rfl,rfl,rfl,rfl,rfl,trivial⟩ ⟨oe rfl rfl,oe rfl rfl,oe rfl rfl,oe rfl rfl,rfl⟩⟩
  refine bR (key:=5) 4 rfl rfl aA rfl ⟨rfl,rfl,rfl,rfl,trivial⟩ ?_;refine aJ 1 rfl (dC ha) cJ ⟨aB rfl,rfl⟩ (kF (k)) ?_
  refine aJ 3 rfl (dC hb) cJ ⟨aB rfl,rfl⟩ (kF (k')) ?_;refine aV 6 (by kernel_rfl) rfl rfl aA rfl rfl rfl rfl ⟨rfl,rfl,rfl,rfl,trivial⟩ ?_
  refine dst 7 ?_;refine aS ?_;exact⟨(),trivial,aQ h0 [2,3,5,4] _ _ (by decide) ⟨rfl,rfl,rfl,rfl,rfl,trivial⟩ ⟨oe rfl rfl,oe rfl rfl,oe rfl rfl,oe rfl rfl,rfl⟩⟩
 refine sq ?_;refine rl ?_;refine o1 ?_;refine o1 ?_;refine ld ?_;refine o1 ?_;refine o1 ?_;refine ld ?_
 have hD:aD true Tryz.prog 174 [] [.one (.t (sU false (dg 4294967296 k.natAbs))),.one (.t (sU false (dg 4294967296 k'.natAbs)))] (aL (.tup [.one (.t (sU true (dg 4294967296 (k.natAbs/k'.natAbs)))),.one (.t (sU true (dg 4294967296 (k.natAbs%k'.natAbs)))),.one (tv (.int .i64 0))])):=by
  have h9:=Sv (aK (by omega) k.natAbs) (aK (by omega) k'.natAbs) (by omega) (by omega) (by rw[bC];omega)
  rwa[bC,bC]at h9
 refine fX 4 hD IU ⟨a1 rfl,a1 rfl,rfl⟩ ?_;(iterate 7 refine o1 ?_);refine nl ?_;refine sq ?_;refine sq ?_;refine rl ?_;refine o1 ?_;refine o1 ?_;refine nl ?_
 refine bQ rfl (fun h1=>?_) (fun h1=>?_)
 ·exact absurd rfl h1
 refine sk ?_;refine sq ?_;refine sq ?_;refine rl ?_;refine o1 ?_;refine o1 ?_;refine ld ?_;refine o1 ?_;refine o1 ?_;refine ld ?_;refine o1 ?_;refine o1 ?_
 refine WL.splitb (t:=37) rfl (fun h2=>?_) (fun h2=>?_)
 ·(iterate 4 refine o1 ?_);refine nl ?_;refine bQ rfl (fun h3=>?_) (fun h3=>?_)
  ·refine sq ?_;refine rl ?_;refine o1 ?_;refine bs 6 ?_
   have hA:aD true Tryz.prog 165 [] [.one (.t (sU false (dg 4294967296 (k.natAbs/k'.natAbs)))),.one (.t (sU false [1]))] (aL (.one (.t (sU true (dg 4294967296 ((k.natAbs/k'.natAbs)+1)))))):=by
    have h9:=Lj (aK (by omega) (k.natAbs/k'.natAbs)) (Lim.cons (show 1<4294967296 by omega) Lim.nil) (by omega) (by simp)
    rwa[bK (by omega),show vl 4294967296 [1]=1 from rfl]at h9
   refine fX 7 hA tW ⟨nM rfl (.sl rfl rfl (kA _) (aT _)),nM rfl (.sl (trs:=aO [1]) rfl rfl rfl rfl),rfl⟩ ?_;refine o1 ?_;refine nl ?_;refine rl ?_;refine o1 ?_
   refine o1 ?_;refine ld ?_;refine o1 ?_
   have hS:aD true Tryz.prog 175 [] [.one (.t (sU false (dg 4294967296 k'.natAbs))),.one (.t (sU false (dg 4294967296 (k.natAbs%k'.natAbs))))] (aL (.tup [.one (.t (sU true (dg 4294967296 (k'.natAbs-(k.natAbs%k'.natAbs))))),.one (tv (.int .i64 0))])):=by
    have h9:=Lk (aK (by omega) k'.natAbs) (aK (by omega) (k.natAbs%k'.natAbs)) (by omega) (by rw[bC,bK (by omega)];omega)
    rwa[bC,bK (by omega)]at h9
   refine fX 8 hS Ll ⟨a1 rfl,nM rfl (.sl rfl rfl (kA _) (aT _)),rfl⟩ ?_;(iterate 4 refine o1 ?_);refine nl ?_;refine sq ?_
   have hd:k.fdiv k'=bF (aI k != aI k') ((k.natAbs/k'.natAbs)+1)∧k.fmod k'=bF (aI k') (k'.natAbs-(k.natAbs%k'.natAbs)):=by
    have h9:aI k≠aI k':=by simpa using h2
    have h7:k.natAbs%k'.natAbs≠0:=by have h5:=jU (m:=(k.natAbs%k'.natAbs)) rfl;rw[decide_eq_true (by omega)]at h5;have h6:=of_decide_eq_true h5.symm;omega
    have h8:=Yq (a:=k) (b:=k') hz0 h9 h7
    rw[h2];exact h8
   refine rd [1,2,3,6] (fun i=>[15,16].contains i) mixed ?_
   refine dv 0 ?_;refine dv 1 ?_;refine aX 2 ?_;refine dv 3 ?_;refine dv 4 ?_;refine aX 5 ?_;refine dv 6 ?_;refine dv 7 ?_;refine dv 9 ?_;refine dv 10 ?_;refine aX 11 ?_
   refine dv 12 ?_
   refine wP 8 9 [7] rfl (fM (b:=(aI k != aI k')) (m:=((k.natAbs/k'.natAbs)+1)) (K:=(k.fdiv k')) hd.1.symm) jI ⟨cX rfl,rfl⟩ ⟨rfl,rfl,rfl⟩ ⟨rfl,rfl,rfl,rfl,trivial⟩ ?_
   refine wP 13 10 [8] rfl (fM (b:=(aI k')) (m:=(k'.natAbs-(k.natAbs%k'.natAbs))) (K:=(k.fmod k')) hd.2.symm) jI ⟨cX rfl,rfl⟩ ⟨rfl,rfl,rfl⟩ ⟨rfl,rfl,rfl,rfl,trivial⟩ ?_
   refine aV 14 (by kernel_rfl) rfl rfl aA rfl rfl rfl rfl ⟨rfl,rfl,rfl,rfl,trivial⟩ ?_
   refine dst 15 ?_;refine dR 16 (by kernel_rfl) rfl rfl aA rfl (by trivial) ?_ (fun h=>by first | rfl | cases h)
   refine aS ?_;refine rt ?_
   exact en (.inl rfl) rfl (gG (.cons (.agg (.cons (.id rfl) (.cons (.sl (trs:=aO (dg 4294967296 ((k.fdiv k')).natAbs)) rfl rfl (bJ _) (aT _)) .nil))) (.cons (.agg (.cons (.id rfl) (.cons (.sl (trs:=aO (dg 4294967296 ((k.fmod k')).natAbs)) rfl rfl (bJ _) (aT _)) .nil))) (.cons (aN (.int .i64 0)) .nil)))) (by decide) (fun _=>⟨dN (k.fdiv k'),dN (k.fmod k'),trivial,trivial⟩) rfl
  refine sk ?_;refine sq ?_;have hd:k.fdiv k'=bF (aI k != aI k') (k.natAbs/k'.natAbs)∧k.fmod k'=bF (aI k') (k.natAbs%k'.natAbs):=by
   have h9:aI k≠aI k':=by simpa using h2
   have h7:k.natAbs%k'.natAbs=0:=by have h5:=jU (m:=(k.natAbs%k'.natAbs)) rfl;rw[decide_eq_false (by omega)]at h5;have h6:=of_decide_eq_false h5.symm;omega
   have h8:=Yr (a:=k) (b:=k') hz0 h9 h7
   rw[h2];exact h8
  refine rd [1,2,3] (fun i=>[15,16].contains i) mixed ?_
  refine dv 0 ?_;refine dv 1 ?_;refine aX 2 ?_;refine dv 3 ?_;refine dv 4 ?_;refine aX 5 ?_;refine dv 6 ?_;refine dv 7 ?_;refine dv 9 ?_;refine dv 10 ?_;refine aX 11 ?_
  refine dv 12 ?_
  refine wP 8 6 [4] rfl (fM (b:=(aI k != aI k')) (m:=(k.natAbs/k'.natAbs)) (K:=(k.fdiv k')) hd.1.symm) jI ⟨cX rfl,rfl⟩ ⟨rfl,rfl,rfl⟩ ⟨rfl,rfl,rfl,trivial⟩ ?_
  refine wP 13 7 [5] rfl (fM (b:=(aI k')) (m:=(k.natAbs%k'.natAbs)) (K:=(k.fmod k')) hd.2.symm) jI ⟨cX rfl,rfl⟩ ⟨rfl,rfl,rfl⟩ ⟨rfl,rfl,rfl,trivial⟩ ?_
  refine aV 14 (by kernel_rfl) rfl rfl aA rfl rfl rfl rfl ⟨rfl,rfl,rfl,trivial⟩ ?_
  refine dst 15 ?_;refine dR 16 (by kernel_rfl) rfl rfl aA rfl (by trivial) ?_ (fun h=>by first | rfl | cases h)
  refine aS ?_;refine rt ?_
  exact en (.inl rfl) rfl (gG (.cons (.agg (.cons (.id rfl) (.cons (.sl (trs:=aO (dg 4294967296 ((k.fdiv k')).natAbs)) rfl rfl (bJ _) (aT _)) .nil))) (.cons (.agg (.cons (.id rfl) (.cons (.sl (trs:=aO (dg 4294967296 ((k.fmod k')).natAbs)) rfl rfl (bJ _) (aT _)) .nil))) (.cons (aN (.int .i64 0)) .nil)))) (by decide) (fun _=>⟨dN (k.fdiv k'),dN (k.fmod k'),trivial,trivial⟩) rfl
 (iterate 3 refine cL ?_);refine o1 ?_;refine nl ?_;refine fY rfl ?_;refine sk ?_;refine sq ?_
 have hd:k.fdiv k'=bF (aI k != aI k') (k.natAbs/k'.natAbs)∧k.fmod k'=bF (aI k') (k.natAbs%k'.natAbs):=by
  have h9:aI k=aI k':=by simpa using h2
  have h8:=Ys (a:=k) (b:=k') hz0 h9
  rw[h2];exact h8
 refine rd [1,2,3] (fun i=>[15,16].contains i) mixed ?_
 refine dv 0 ?_;refine dv 1 ?_;refine aX 2 ?_;refine dv 3 ?_;refine dv 4 ?_;refine aX 5 ?_;refine dv 6 ?_;refine dv 7 ?_;refine dv 9 ?_;refine dv 10 ?_;refine aX 11 ?_
 refine dv 12 ?_
 refine wP 8 6 [4] rfl (fM (b:=(aI k != aI k')) (m:=(k.natAbs/k'.natAbs)) (K:=(k.fdiv k')) hd.1.symm) jI ⟨cX rfl,rfl⟩ ⟨rfl,rfl,rfl⟩ ⟨rfl,rfl,rfl,trivial⟩ ?_
 refine wP 13 7 [5] rfl (fM (b:=(aI k')) (m:=(k.natAbs%k'.natAbs)) (K:=(k.fmod k')) hd.2.symm) jI ⟨cX rfl,rfl⟩ ⟨rfl,rfl,rfl⟩ ⟨rfl,rfl,rfl,trivial⟩ ?_
 refine aV 14 (by kernel_rfl) rfl rfl aA rfl rfl rfl rfl ⟨rfl,rfl,rfl,trivial⟩ ?_
 refine dst 15 ?_;refine dR 16 (by kernel_rfl) rfl rfl aA rfl (by trivial) ?_ (fun h=>by first | rfl | cases h)
 refine aS ?_;refine rt ?_
 exact en (.inl rfl) rfl (gG (.cons (.agg (.cons (.id rfl) (.cons (.sl (trs:=aO (dg 4294967296 ((k.fdiv k')).natAbs)) rfl rfl (bJ _) (aT _)) .nil))) (.cons (.agg (.cons (.id rfl) (.cons (.sl (trs:=aO (dg 4294967296 ((k.fmod k')).natAbs)) rfl rfl (bJ _) (aT _)) .nil))) (.cons (aN (.int .i64 0)) .nil)))) (by decide) (fun _=>⟨dN (k.fdiv k'),dN (k.fmod k'),trivial,trivial⟩) rfl
theorem yS {α:Type}{f:α→List Tr}{z:Nat}(hf:∀x,(f x).length=z):∀{xs:List α}{k:Nat}{x:α},xs[k]? =some x→((xs.flatMap f).drop (k*z)).take z=f x
 | [],_,_,h=>by simp at h
 | y::xs,0,x,h=>by
  simp at h
  subst h
  rw[Nat.zero_mul,List.drop_zero,List.flatMap_cons,List.take_append_of_le_length (by rw[hf];exact Nat.le_refl _),List.take_of_length_le (by rw[hf];exact Nat.le_refl _)]
 | y::xs,k+1,x,h=>by
  rw[List.getElem?_cons_succ]at h
  have e:(f y++xs.flatMap f).drop z=xs.flatMap f:=by rw[←hf y];simp
  rw[List.flatMap_cons,Nat.succ_mul,Nat.add_comm,←List.drop_drop,e]
  exact yS hf h
theorem nN {α:Type}{f:α→List Tr}{z:Nat}(hf:∀x,(f x).length=z):∀(xs:List α),(xs.flatMap f).length=xs.length*z
 | []=>by simp
 | y::xs=>by rw[List.flatMap_cons,List.length_append,hf,nN hf xs,List.length_cons,Nat.succ_mul,Nat.add_comm]
theorem Sx {α:Type}{f:α→List Tr}{z o m:Nat}(hf:∀x,(f x).length=z){xs:List α}{k:Nat}{x:α}(h:xs[k]? =some x) (hm:o+m≤z):((xs.flatMap f).drop (k*z+o)).take m=((f x).drop o).take m:=by
 have e:=yS hf h
 rw[←List.drop_drop,←e,List.drop_take,List.take_take,Nat.min_eq_left (by omega)]
section
variable {α:Type}{f:α→List Tr}{z:Nat}{xs:List α}{k o:Nat}{x x' y:α}{us:List Tr}
theorem Oj (hf:∀x,(f x).length=z) (h:xs[k]? =some x) (hm:o+us.length≤z) (hu:((f x).drop o).take us.length=us):((xs.flatMap f).drop (k*z+o)).take us.length=us:=by
 rw[Sx hf h hm]
 exact hu
end
def zv (a:Zi):Int:=cT a.s a.x
def ZL (L:Nat) (a:Zi):Prop:=Lim 4294967296 a.x∧a.x.length≤L
theorem ZL.n {L:Nat}{a:Zi}(h:ZL L a) (hL:L≤137438953472):Zn a (zv a):=⟨h.1,Nat.le_trans h.2 hL,rfl⟩
def rS (l:List Nat):Bool:=l.all fun c=>decide (48≤c∧c≤57)
theorem Yt {l:List Nat}(h:rS l=true):∀c∈l,48≤c∧c≤57:=by simpa[rS]using h
theorem DA {l:List Nat}(h:∀c∈l,48≤c∧c≤57):rS l=true:=by simpa[rS]using h
theorem Db:∀c<256,([48,49,50,51,52,53,54,55,56,57]:List UInt8).contains (UInt8.ofNat c)=decide (48≤c∧c≤57):=by decide+kernel
theorem Ii {l:List Nat}(h:Lim 256 l):((⟨(Lib.trimS (aC l).data.toList [48,49,50,51,52,53,54,55,56,57]).toArray⟩:ByteArray).toList==(⟨#[]⟩:ByteArray).toList)=rS l:=by
 rw[ByteArray.toList_eq,ByteArray.toList_eq,Bool.eq_iff_iff,beq_iff_eq]
 show Lib.trimS _ _=[]↔_
 rw[Ok,gM]
 unfold rS
 rw[List.all_eq_true]
 refine⟨fun g c hc=>?_,fun g x hx=>?_⟩
 ·rw[←Db c (h c hc)]
  exact g _ (List.mem_map.2 ⟨c,hc,rfl⟩)
 obtain⟨c,hc,rfl⟩:=List.mem_map.1 hx
 rw[Db c (h c hc)]
 exact g c hc
def kB (l:List Nat):Bool:=decide (l=[])||(!decide (l=[48])&&decide (nth l 0=48))|| !rS l
def rT (l:List Nat):Int:=if kB l then 60 else if 4096<l.length then 3 else 0
def Ij (l:List Nat):Nat:=if rT l=0 then bU l else 0
theorem IV {l:List Nat}(h:decide (l=[])=true):kB l=true:=by simp[kB,h]
theorem IW {l:List Nat}(h:decide (l=[48])=false) (h2:nth l 0=48):kB l=true:=by simp[kB,h,h2]
theorem Lm {l:List Nat}(h:rS l=false):kB l=true:=by simp[kB,h]
theorem Dc {l:List Nat}(h0:decide (l=[])=false) (h:decide (l=[48])=true∨¬nth l 0=48) (h2:rS l=true):kB l=false:=by
 rcases h with h | h <;> simp[kB,h0,h,h2]
theorem Bx {l:List Nat}(h:kB l=true):rT l=60:=by simp[rT,h]
theorem DB {l:List Nat}(h:kB l=false) (h2:4096<l.length):rT l=3:=by simp[rT,h,h2]
theorem Sy {l:List Nat}(h:kB l=false) (h2:¬4096<l.length):rT l=0:=by simp[rT,h,h2]
theorem Ln {l:List Nat}(h:rT l=0):Ij l=bU l:=if_pos h
theorem tX {l:List Nat}(h:¬rT l=0):Ij l=0:=if_neg h
theorem Ol {l:List Nat}(h:kB l=false):∀c∈l,48≤c∧c≤57:=by
 refine Yt ?_
 cases hq:rS l with
 | true=>rfl
 | false=>rw[Lm hq]at h;cases h
theorem Dd (m:List Nat):∀n:Nat,m.foldl (fun n c=>n*10+(c-48)) n=n*10^m.length+bU m:=by
 induction m with
 | nil=>intro n;simp[bU]
 | cons c m ih=>
  intro n
  have e:bU (c::m)=(0*10+(c-48))*10^m.length+bU m:=ih _
  rw[List.foldl_cons,ih,e,List.length_cons,Nat.pow_succ,Nat.zero_mul,Nat.zero_add,Nat.add_mul,Nat.mul_assoc,Nat.mul_comm 10,Nat.add_assoc]
theorem Yu (l m:List Nat):bU (l++m)=bU l*10^m.length+bU m:=by
 show(l++m).foldl _ 0=_
 rw[List.foldl_append,Dd]
 rfl
theorem oJ {l:List Nat}{j f:Nat}(h:j+f≤l.length) (hf:j=0∨f=9):bU (l.take j)*1000000000+bU ((l.drop j).take f)=bU (l.take (j+f)):=by
 rw[List.take_add,Yu,List.length_take,List.length_drop,Nat.min_eq_left (by omega)]
 rcases hf with rfl | rfl
 ·simp[bU]
 rfl
theorem Yv {l:List Nat}(h:∀c∈l,48≤c∧c≤57){j:Nat}(hj:j≤l.length):bU (l.take j)<4294967296^j:=Nat.lt_of_lt_of_le (By h hj) (Nat.pow_le_pow_left (by omega) j)
theorem pL {l:List Nat}(h:∀c∈l,48≤c∧c≤57){j:Nat}(hj:j≤l.length):(dg 4294967296 (bU (l.take j))).length≤j:=bO (by omega) (Yv h hj)
theorem qQ {l:List Nat}(h:∀c∈l,48≤c∧c≤57) (j f:Nat):∀c∈(l.drop j).take f,48≤c∧c≤57:=fun c hc=>h c (List.mem_of_mem_drop (List.mem_of_mem_take hc))
theorem qR {l:List Nat}(h:∀c∈l,48≤c∧c≤57){j f:Nat}(hj:j+f≤l.length) (hf:f≤9):bU ((l.drop j).take f)<1000000000:=
 Nat.lt_of_lt_of_le (By (l:=l.drop j) (k:=f) (fun c hc=>h c (List.mem_of_mem_drop hc)) (by rw[List.length_drop];omega)) (Nat.le_trans (Nat.pow_le_pow_right (by omega) hf) (by decide))
def aE (l:List Nat):List Nat:=if l.take 1=[45]then l.drop 1 else l
theorem wQ {u m:Nat}(h:(dg 4294967296 u).length≤1099511627776) (hm:m<4294967296):aD true Tryz.prog 166 [] [.one (.t (sU false (dg 4294967296 u))),.one (tv (.int .u32 (m:Int)))] (aL (.one (.t (sU true (dg 4294967296 (u*m)))))):=by
 have h1:=wR (aK (by omega) u) h hm
 rwa[bK (by omega)]at h1
theorem wS {u x:Nat}(h:(dg 4294967296 u).length≤1099511627776) (hx:x<4294967296):aD true Tryz.prog 165 [] [.one (.t (sU false (dg 4294967296 u))),.one (.t (sU false [x]))] (aL (.one (.t (sU true (dg 4294967296 (u+x)))))):=by
 have h1:=Lj (aK (by omega) u) (Lim.cons hx Lim.nil) h (by simp)
 rw[bK (by omega)]at h1
 have e:vl 4294967296 [x]=x:=by simp[vl]
 rwa[e]at h1
def fZ (c:Nat):Bool:=decide (48≤c∧c≤57)
def cY (l:List Nat):Bool:=decide (l.take 1=[45])
def gA (l:List Nat):Bool:=decide (l.take 1=[46])
def wh (m:List Nat):List Nat:=m.takeWhile fZ
def cA (m:List Nat):List Nat:=m.dropWhile fZ
def gY (l:List Nat):List Nat:=if l.take 1=[46]then l.drop 1 else l
theorem Vu {l:List Nat}(h:gA l=true):gY l=l.drop 1:=if_pos (of_decide_eq_true h)
theorem IX {l:List Nat}(h:gA l=false):gY l=l:=if_neg (of_decide_eq_false h)
def pl (m:List Nat):List Nat:=if gA (cA m)then(gY (cA m)).takeWhile fZ else []
def rr (m:List Nat):List Nat:=if gA (cA m)then(gY (cA m)).dropWhile fZ else cA m
def uS (l:List Nat):Bool:=l.all fun c=>decide (c=48)
def wT (m:List Nat):Bool:=uS (wh m++pl m)
def gB (m:List Nat):Bool:= !(gA (cA m)&&decide (pl m=[]))&&(decide (rr m=[])&&(!decide (wh m=[])&&(decide (wh m=[48])|| !decide (nth (wh m) 0=48))))
def gN (l:List Nat):Bool:=gB (aE l)&& !(cY l&&wT (aE l))
def dY (l:List Nat) (most:Nat):Int:=if gN l=true∧(pl (aE l)).length≤most then(if 40<(wh (aE l)).length+(pl (aE l)).length then 3 else 0)else 60
def uT (l:List Nat):Rat:=Rat.divInt (bF (cY l) (bU (wh (aE l)++pl (aE l)))) ((10^(pl (aE l)).length:Nat):Int)
def cP (l:List Nat) (most:Nat):Rat:=if dY l most=0 then uT l else 0
theorem De {c:Nat}(h:fZ c=true):48≤c∧c≤57:=of_decide_eq_true h
theorem Om (p:Nat→Bool) (m:List Nat):∀c∈m.takeWhile p,p c=true:=fun c hc=>by
 induction m with
 | nil=>simp at hc
 | cons x m ih=>
  rw[List.takeWhile_cons]at hc
  split at hc
  ·rcases List.mem_cons.1 hc with rfl | hc
   ·assumption
   exact ih hc
  cases hc
theorem yT (m:List Nat):∀c∈wh m,48≤c∧c≤57:=fun c hc=>De (Om fZ m c hc)
theorem yU (m:List Nat):∀c∈pl m,48≤c∧c≤57:=fun c hc=>by
 unfold pl at hc
 split at hc
 ·exact De (Om fZ _ c hc)
 cases hc
theorem Ta (m:List Nat):∀c∈wh m++pl m,48≤c∧c≤57:=fun c hc=>(List.mem_append.1 hc).elim (yT m c) (yU m c)
theorem kZ (m:List Nat):wh m++cA m=m:=List.takeWhile_append_dropWhile
theorem Tb {l:List Nat}(h:gA l=true):l=46::l.drop 1:=by
 have h:=of_decide_eq_true h
 cases l with
 | nil=>simp at h
 | cons x l=>simp at h;simp[h]
theorem sG {m:List Nat}(h:gA (cA m)=true):cA m=46::(pl m++rr m):=by
 have h1:=Tb h
 unfold pl rr
 rw[if_pos h,if_pos h,List.takeWhile_append_dropWhile,Vu h]
 exact h1
theorem Lo {m:List Nat}(h:gA (cA m)=false):rr m=cA m:=by unfold rr;rw[h];rfl
theorem mV {m:List Nat}(h:gA (cA m)=false):pl m=[]:=by unfold pl;rw[h];rfl
theorem lY {m:List Nat}(h:gB m=true):m=wh m++(if gA (cA m)then 46::pl m else [])∧wh m≠[]:=by
 unfold gB at h
 simp only[Bool.and_eq_true,Bool.not_eq_true',decide_eq_true_eq,decide_eq_false_iff_not]at h
 obtain⟨_,h2,h3,_⟩:=h
 refine⟨?_,h3⟩
 conv=>lhs;rw[←kZ m]
 congr 1
 cases hp:gA (cA m)with
 | true=>rw[sG hp,h2,List.append_nil];rfl
 | false=>rw[←Lo hp,h2];rfl
theorem oK (l:List Nat):l=(if cY l then [45]else [])++aE l:=by
 unfold cY aE
 by_cases h:l.take 1=[45]
 ·rw[if_pos h,decide_eq_true h]
  cases l with
  | nil=>simp at h
  | cons x l=>simp at h;simp[h]
 rw[if_neg h,decide_eq_false h];rfl
def b1 (m:List Nat):Bool:=decide ((wh m).length=0)||(decide (1<(wh m).length)&&decide (nth m 0=48))
def b2 (m:List Nat):Bool:=gA (cA m)&&decide ((pl m).length=0)
theorem MH {m:List Nat}(h:wh m≠[]):nth (wh m) 0=nth m 0:=by
 have h2:=kZ m
 cases hq:wh m with
 | nil=>exact absurd hq h
 | cons x w=>rw[hq]at h2;rw[←h2];rfl
theorem Vv (m:List Nat):gB m=(!b1 m&&(!b2 m&&decide (rr m=[]))):=by
 unfold gB b1 b2
 by_cases h0:wh m=[]
 ·simp[h0]
 have e1:decide (wh m=[48])=(decide ((wh m).length=1)&&decide (nth m 0=48)):=by
  rw[←MH h0]
  cases hq:wh m with
  | nil=>exact absurd hq h0
  | cons x w=>
   cases w with
   | nil=>simp[nth]
   | cons y w=>simp
 have e2:(wh m).length≠0:=fun h=>h0 (List.eq_nil_of_length_eq_zero h)
 rw[e1,MH h0]
 have e3:decide ((pl m).length=0)=decide (pl m=[]):=decide_eq_decide.2 List.length_eq_zero_iff
 rw[e3]
 by_cases h1:nth m 0=48 <;> by_cases h2:(wh m).length=1 <;> cases gA (cA m) <;> by_cases h3:pl m=[] <;> by_cases h4:rr m=[] <;> simp[h0,h1,h2,h3,h4,e2] <;> omega
def sD (l:List Nat):Nat:=l.foldl (fun n c=>if c=46 then n else if c=45 then n else n*10+(c-48)) 0
def sP (l:List Nat):Int:=l.foldl (fun p c=>if c=46 then 0 else if c=45 then p else if 0≤p then p+1 else p) (-1)
theorem Df {l:List Nat}(h:∀c∈l,48≤c∧c≤57) (n:Nat):l.foldl (fun n c=>if c=46 then n else if c=45 then n else n*10+(c-48)) n=l.foldl (fun n c=>n*10+(c-48)) n:=by
 induction l generalizing n with
 | nil=>rfl
 | cons c l ih=>
  have hc:=h c (by simp)
  rw[List.foldl_cons,List.foldl_cons,if_neg (by omega),if_neg (by omega)]
  exact ih (fun c hc=>h c (by simp[hc])) _
theorem Dg {l:List Nat}(h:∀c∈l,48≤c∧c≤57) (p:Int):l.foldl (fun p c=>if c=46 then 0 else if c=45 then p else if 0≤p then p+1 else p) p=if 0≤p then p+l.length else p:=by
 induction l generalizing p with
 | nil=>simp
 | cons c l ih=>
  have hc:=h c (by simp)
  rw[List.foldl_cons,if_neg (by omega),if_neg (by omega),ih (fun c hc=>h c (by simp[hc]))]
  by_cases hp:0≤p
  ·rw[if_pos hp,if_pos (by omega),if_pos hp,List.length_cons]
   omega
  rw[if_neg hp,if_neg hp,if_neg hp]
theorem IY {l:List Nat}(h:gB (aE l)=true):sD l=bU (wh (aE l)++pl (aE l)):=by
 have e1:=oK l
 obtain⟨e2,_⟩:=lY h
 have key:∀m w p:List Nat,(∀c∈w,48≤c∧c≤57)→(∀c∈p,48≤c∧c≤57)→∀b:Bool,(m=w++(if b then 46::p else []))→(b=false→p=[])→∀s:Bool,sD ((if s then [45]else [])++m)=bU (w++p):=by
  intro m w p hw hp b hm hb s
  subst hm
  have:sD ((if s then [45]else [])++(w++(if b then 46::p else [])))=sD (w++(if b then 46::p else [])):=by cases s <;> rfl
  rw[this]
  unfold sD bU
  rw[List.foldl_append,Df hw,List.foldl_append]
  cases b with
  | true=>
   show List.foldl _ _ (46::p)=_
   rw[List.foldl_cons,if_pos rfl,Df hp]
  | false=>rw[hb rfl];rfl
 rw[e1]
 have h9:=key (aE l) _ _ (yT _) (yU _) _ e2 (fun h=>mV h) (cY l)
 rw[←e1]
 rw[←e1]at h9
 exact h9
theorem IZ {l:List Nat}(h:gB (aE l)=true):max 0 (sP l)=((pl (aE l)).length:Int):=by
 have e1:=oK l
 obtain⟨e2,_⟩:=lY h
 have key:∀m w p:List Nat,(∀c∈w,48≤c∧c≤57)→(∀c∈p,48≤c∧c≤57)→∀b:Bool,(m=w++(if b then 46::p else []))→(b=false→p=[])→∀s:Bool,max 0 (sP ((if s then [45]else [])++m))=(p.length:Int):=by
  intro m w p hw hp b hm hb s
  subst hm
  have:sP ((if s then [45]else [])++(w++(if b then 46::p else [])))=sP (w++(if b then 46::p else [])):=by cases s <;> rfl
  rw[this]
  unfold sP
  rw[List.foldl_append,Dg hw,if_neg (by omega)]
  cases b with
  | true=>
   show max 0 (List.foldl _ _ (46::p))=_
   rw[List.foldl_cons,if_pos rfl,Dg hp,if_pos (by omega)]
   omega
  | false=>rw[hb rfl];rfl
 have h9:=key (aE l) _ _ (yT _) (yU _) _ e2 (fun h=>mV h) (cY l)
 rwa[←e1]at h9
def iF (c:Nat):Bool:=decide (c=45)||(decide (c=46)|| decide (c=48))
theorem DC {l:List Nat}(h:gB (aE l)=true):(cY l&&l.all iF)=(cY l&&wT (aE l)):=by
 have e1:=oK l
 obtain⟨e2,_⟩:=lY h
 cases hn:cY l with
 | false=>rfl
 | true=>
  rw[hn]at e1
  have hall:∀x:List Nat,(∀c∈x,48≤c∧c≤57)→x.all iF=uS x:=fun x hx=>by
   unfold uS
   rw[Bool.eq_iff_iff,List.all_eq_true,List.all_eq_true]
   refine forall_congr' fun c=>forall_congr' fun hc=>?_
   have:=hx c hc
   unfold iF
   simp only[Bool.or_eq_true,decide_eq_true_eq]
   omega
  rw[Bool.true_and,Bool.true_and,e1]
  have e3:aE (([45]:List Nat)++aE l)=aE l:=rfl
  show(([45]:List Nat)++aE l).all iF=wT (aE l)
  rw[List.all_append]
  have e4:([45]:List Nat).all iF=true:=rfl
  rw[e4,Bool.true_and]
  conv=>lhs;rw[e2]
  unfold wT uS
  rw[List.all_append,List.all_append,hall _ (yT _)]
  unfold uS
  congr 1
  cases hp:gA (cA (aE l))with
  | false=>rw[mV hp];rfl
  | true=>
   show(46::pl (aE l)).all iF=_
   rw[List.all_cons,hall _ (yU _)]
   rfl
theorem Yw {l:List Nat}(hl:Lim 256 l):Lim 256 (aE l):=by
 unfold aE
 split
 ·exact lB hl 1
 exact hl
theorem yV {l:List Nat}:(aE l).length≤l.length:=by
 unfold aE
 split
 ·rw[List.length_drop];omega
 exact Nat.le_refl _
theorem JA (p:Nat→Bool) (l:List Nat):l.take (l.length-(l.dropWhile p).length)=l.takeWhile p:=by
 have h:l.takeWhile p++l.dropWhile p=l:=List.takeWhile_append_dropWhile
 have h2:=congrArg List.length h
 rw[List.length_append]at h2
 have e:l.length-(l.dropWhile p).length=(l.takeWhile p).length:=by omega
 rw[e]
 have h3:=List.take_left (l₁:=l.takeWhile p) (l₂:=l.dropWhile p)
 rwa[h]at h3
theorem DD {B:Nat}{p:Nat→Bool}{l:List Nat}(h:Lim B l):Lim B (l.takeWhile p):=fun x hx=>h x ((List.takeWhile_sublist p).subset hx)
theorem yW {B:Nat}{l:List Nat}(h:Lim B l):Lim B (gY l):=by
 unfold gY
 split
 ·exact lB h 1
 exact h
theorem Yx {l:List Nat}:(gY l).length≤l.length:=by
 unfold gY
 split
 ·rw[List.length_drop];omega
 exact Nat.le_refl _
theorem wU {m:List Nat}:Lim 256 (wh m):=fun c hc=>by have:=yT m c hc;omega
theorem DE {m:List Nat}:Lim 256 (pl m):=fun c hc=>by have:=yU m c hc;omega
theorem wV (m:List Nat):(wh m).length≤m.length:=(List.takeWhile_sublist _).length_le
theorem Yy (m:List Nat):(cA m).length≤m.length:=(List.dropWhile_sublist _).length_le
theorem sH (m:List Nat):(wh m).length+(pl m).length≤m.length:=by
 have h1:=congrArg List.length (kZ m)
 rw[List.length_append]at h1
 cases hp:gA (cA m)with
 | true=>
  have h2:=congrArg List.length (sG hp)
  rw[List.length_cons,List.length_append]at h2
  omega
 | false=>rw[mV hp,List.length_nil];omega
def kT (l:List Nat):List Nat:=if l.dropWhile (· ==48)=[]then [48]else l.dropWhile (· ==48)
theorem Dh {l:List Nat}:bU (l.dropWhile (· ==48))=bU l:=by
 induction l with
 | nil=>rfl
 | cons c l ih=>
  rw[List.dropWhile_cons]
  split
  ·rename_i h
   have h:c=48:=by simpa using h
   subst h
   rw[ih]
   show _=List.foldl _ _ (48::l)
   rw[List.foldl_cons]
   rfl
  rfl
theorem Yz {l:List Nat}(h:Lim 256 l):Lim 256 (kT l):=by
 unfold kT
 split
 ·exact Lim.cons (by omega) Lim.nil
 exact kC h
theorem Ik {l:List Nat}:(kT l).length≤l.length+1:=by
 unfold kT
 split
 ·show 1≤_;omega
 exact Nat.le_trans (List.dropWhile_sublist _).length_le (by omega)
theorem DF {l:List Nat}(h:∀c∈l,48≤c∧c≤57) (hn:l.length≤4000):rT (kT l)=0∧Ij (kT l)=bU l:=by
 have hg:kB (kT l)=false:=by
  unfold kT
  split
  ·rfl
  rename_i h0
  refine Dc (decide_eq_false h0) (.inr fun h1=>?_) (DA fun c hc=>h c ((List.dropWhile_sublist _).subset hc))
  have h2:=List.head?_dropWhile_not (· ==48) l
  cases hq:l.dropWhile (· ==48)with
  | nil=>exact h0 hq
  | cons x w=>
   rw[hq]at h1 h2
   have h3:x=48:=h1
   subst h3
   simp at h2
 have e:=Sy hg (by have:=Ik (l:=l);omega)
 refine⟨e,?_⟩
 rw[Ln e]
 unfold kT
 split
 ·rename_i h0
  rw[←Dh (l:=l),h0];rfl
 exact Dh
theorem Za (n:Bool) (v:Nat):cT n (dg 4294967296 v)=bF n v:=by
 cases n with
 | false=>exact lC v
 | true=>
  by_cases h:v=0
  ·subst h;rw[gL];rfl
  have h2:=pM (-(v:Int))
  have e1:aI (-(v:Int))=true:=decide_eq_true (by omega)
  rw[e1,Int.natAbs_neg,Int.natAbs_natCast]at h2
  rw[h2];rfl
def Qn (a:Fr4) (p:Rat):Prop:=a.ok∧a.q=p
section
variable {a:Fr4}{p q:Rat}{k k':Int}{L M:Nat}
theorem Di (h:Qn a p):Zn ⟨a.s,a.x⟩ (cT a.s a.x):=⟨h.1.1,by have:=h.1.2.2.1;dsimp only;omega,rfl⟩
theorem qS (h:Qn a p):Zn ⟨a.t,a.y⟩ (cT a.t a.y):=⟨h.1.2.1,by have:=h.1.2.2.2;dsimp only;omega,rfl⟩
theorem eB (h:Sz L p) (hL:L≤137438953472:=by omega):Zn (.of p.num) p.num:=.of (Nat.le_trans h.1 hL)
theorem cR (h:Sz L p) (hL:L≤137438953472:=by omega):Zn ⟨false,dg 4294967296 p.den⟩ (p.den:Int):=⟨aK (by omega) _,Nat.le_trans h.2 hL,lC p.den⟩
theorem Qn.sz (h:Qn a p):Sz 68719476736 p:=by
 obtain⟨⟨h1,h2,h3,h4⟩,rfl⟩:=h
 exact DG h1 h2 h3 h4 (by omega)
theorem Qn.of (h:Sz L p) (hL:L≤68719476736:=by omega):Qn (.of p) p:=⟨⟨aK (by omega) _,aK (by omega) _,Nat.le_trans h.1 hL,Nat.le_trans h.2 hL⟩,Fr4.q_of p⟩
theorem Qn.right (h:Qn a p) (hr:cU a.s a.x a.t a.y=true):Fr4.of p=a:=by
 obtain⟨⟨l1,l2,_,_⟩,rfl⟩:=h
 obtain⟨h1,h2,h3,h4⟩:=sJ hr
 have e1:=Il hr
 have e2:=Im hr
 have e3:=tY l1 h1
 have e4:=nA l1 h1
 have e5:=tY l2 h2
 have e6:=nA l2 h2
 rw[←e1]at e3 e4
 rw[←e2]at e5 e6
 rw[tZ]at e5
 rw[Int.natAbs_natCast]at e6
 unfold Fr4.of Fr4.q
 rw[e3,e4,e5,e6]
theorem Qn.wrong (h:Qn a p) (hr:cU a.s a.x a.t a.y=false):p=0:=by
 obtain⟨_,rfl⟩:=h
 exact Ar hr
theorem uA (hn:q.num=k) (hd:(q.den:Int)=k'):FV.agg [tv (.bool (aI k)),.t (sU false (dg 4294967296 k.natAbs)),tv (.bool (aI k')),.t (sU false (dg 4294967296 k'.natAbs))]=qF (.of q):=by
 subst hn hd
 have e:aI (q.den:Int)=false:=by unfold aI;exact decide_eq_false (by omega)
 rw[e]
 rfl
theorem Tc (k k':Int):decide ((k-k').sign=0)=decide (k=k'):=by
 rw[decide_eq_decide,Int.sign_eq_zero_iff_zero]
 omega
theorem yX (h0:k'≠0):(dg 4294967296 (((Int.gcd k k':Nat):Int)).natAbs).length≤(dg 4294967296 k'.natAbs).length:=by
 rw[Int.natAbs_natCast]
 exact dV (Nat.le_of_dvd (by omega) (Int.gcd_dvd_natAbs_right k k'))
theorem lZ {n:Int}(h1:-9223372036854775808≤n) (h2:n≤9223372036854775807):(dg 4294967296 n.natAbs).length≤2:=bO (by omega) (by omega)
theorem Dj {a b:Int}(h0:b≠0):(0<b→(Rat.divInt a b).num=a.fdiv (Int.gcd a b)∧((Rat.divInt a b).den:Int)=b.fdiv (Int.gcd a b))∧(b<0→(Rat.divInt a b).num=(-a).fdiv (Int.gcd (-a) (-b))∧((Rat.divInt a b).den:Int)=(-b).fdiv (Int.gcd (-a) (-b))):=by
 refine⟨fun h=>lD h,fun h=>?_⟩
 rw[←Rat.neg_divInt_neg]
 exact lD (by omega)
theorem wW {a b:Int}(h:b≠0):((Int.gcd a b:Nat):Int)≠0:=by
 have:=Int.gcd_pos_of_ne_zero_right a h
 omega
theorem In (n:Nat):decide ((n:Int)=1)=(n==1):=by
 by_cases h:n=1
 ·subst h;rfl
 rw[beq_eq_false_iff_ne.2 h,decide_eq_false (by omega)]
end
def MS:Fr4:=⟨false,[],false,[]⟩
def jC (xs:List Fr4) (k:Nat):Fr4:=xs.getD k MS
theorem qT {xs:List Fr4}{k:Nat}(h:k<xs.length):xs[k]? =some (jC xs k):=by simp[jC,h]
theorem lE {xs:List Fr4}{k:Nat}(h:k<xs.length):jC xs k∈xs:=List.mem_of_getElem? (qT h)
def sQ (o:Bool) (xs:List Fr4):Tr:=.s o 33 4 xs.length (xs.flatMap (Fr4.tr o))
theorem On (xs:List Fr4){k:Nat}(h:k<xs.length):((xs.flatMap (Fr4.tr false)).drop (k*4)).take ((jC xs k).tr false).length=(jC xs k).tr false:=yS (f:=Fr4.tr false) (fun _=>rfl) (qT h)
section
variable {xs:List Fr4}{k:Nat}
theorem Oo (h:k<xs.length):(xs.take (k+1)).map Fr4.q=(xs.take k).map Fr4.q++[(jC xs k).q]:=by rw[List.take_add_one,qT h];simp
end
section
variable {vs:List (Int×Rat)}{k:Nat}
end
def kD (l:List Rat):Rat:=l.foldl (· + ·) 0
theorem Oq (l:List Rat) (q:Rat):kD (l++[q])=kD l+q:=by simp[kD]
def fl (q:Rat):Int:=q.floor
theorem yY (q:Rat):q.num.fdiv (q.den:Int)=fl q:=by
 unfold fl
 rw[Rat.floor_def,Int.fdiv_eq_ediv_of_nonneg _ (by omega)]
theorem uU (a b:Int) (hb:b≠0):Rat.divInt a b*(b:Rat)=(a:Rat):=by
 rw[Rat.divInt_eq_div,Rat.div_def,Rat.mul_assoc,Rat.inv_mul_cancel _ (by simpa using hb),Rat.mul_one]
theorem Zb {a b c:Rat}(hc:c≠0) (h:a*c=b*c):a=b:=by
 have h2:=congrArg (· *c⁻¹) h
 simpa only[Rat.mul_assoc,Rat.mul_inv_cancel c hc,Rat.mul_one]using h2
theorem Lp (p q:Rat):Rat.divInt (p.num*(q.den:Int)) ((p.den:Int)*q.num)=p/q:=by
 have e:=Rat.num_divInt_den q
 have e2:=Rat.num_divInt_den p
 conv=>rhs;rw[←e,←e2]
 rw[Rat.div_def,Rat.inv_divInt,Rat.divInt_mul_divInt]
def pd (n:Nat):Nat→List Nat
 | 0=>[]
 | d+1=>pd (n/10) d++[48+n%10]
theorem Dk:∀(d n:Nat),(pd n d).length=d
 | 0,_=>rfl
 | d+1,n=>by rw[pd,List.length_append,Dk d];rfl
theorem DH:∀(d n:Nat),∀c∈pd n d,48≤c∧c≤57
 | 0,_=>by intro c hc;cases hc
 | d+1,n=>by
  intro c hc
  rw[pd]at hc
  rcases List.mem_append.1 hc with h | h
  ·exact DH d _ c h
  rw[List.mem_singleton]at h
  omega
theorem Zc {n:Nat}(h:10≤n):tx n=tx (n/10)++[48+n%10]:=by
 unfold tx
 rw[if_neg (by omega),if_neg (by omega),lW (by omega) (by omega)]
 simp[eC]
theorem DI {n:Nat}(h:n<10):tx n=[48+n]:=by
 unfold tx
 split
 ·rename_i h0;subst h0;rfl
 rw[lW (by omega) (by omega),show n/10=0 by omega,gL,show n%10=n by omega];rfl
theorem Ot:∀(d n:Nat),List.replicate (d+1-(tx n).length) 48++tx n=tx (n/10^d)++pd n d
 | 0,n=>by
  have:1≤(tx n).length:=List.length_pos_iff.2 (Lq n)
  rw[show 0+1-(tx n).length=0 by omega,Nat.pow_zero,Nat.div_one,pd,List.append_nil]
  rfl
 | d+1,n=>by
  rw[pd,←List.append_assoc,Nat.pow_succ,Nat.mul_comm,←Nat.div_div_eq_div_mul,←Ot d (n/10)]
  rcases Nat.lt_or_ge n 10 with h | h
  ·rw[DI h,show n/10=0 by omega,DI (n:=0) (by omega),show n%10=n by omega]
   show List.replicate (d+1) 48++_=List.replicate d 48++[48]++_
   rw[List.replicate_succ']
  rw[Zc h,List.length_append,List.append_assoc]
  show List.replicate (d+1+1-((tx (n/10)).length+1)) 48++_=_
  rw[show d+1+1-((tx (n/10)).length+1)=d+1-(tx (n/10)).length by omega]
def wr (n d:Nat):List Nat:=tx (n/10^d)++(if d=0 then []else 46::pd n d)
def pt (z:Int) (d:Nat):List Nat:=if z<0 then 45::wr z.natAbs d else wr z.natAbs d
theorem Zd {l:List Nat}(h:∀c∈l,48≤c∧c≤57):uS l=decide (bU l=0):=by
 induction l with
 | nil=>rfl
 | cons c l ih=>
  have e:uS (c::l)=(decide (c=48)&&uS l):=rfl
  have e2:bU (c::l)=(c-48)*10^l.length+bU l:=by
   show List.foldl _ _ (c::l)=_
   rw[List.foldl_cons,Dd]
   simp
  have hc:=h c (by simp)
  have hp:0<10^l.length:=Nat.pow_pos (by omega)
  rw[e,ih (fun c hc=>h c (by simp[hc])),e2,←Bool.decide_and]
  refine decide_eq_decide.2 ⟨fun h=>by rw[h.1,h.2];simp,fun h=>?_⟩
  have h3:bU l=0:=by omega
  have h4:(c-48)*10^l.length=0:=by omega
  rcases Nat.mul_eq_zero.1 h4 with h5 | h5
  ·exact⟨by omega,h3⟩
  omega
def hal (q:Rat):Int:=if(q.den:Int)<2*q.num.fmod (q.den:Int)∨((q.den:Int)=2*q.num.fmod (q.den:Int)∧q.num.fdiv (q.den:Int)%2≠0)then q.num.fdiv (q.den:Int)+1 else q.num.fdiv (q.den:Int)
theorem DJ {p q:Rat}(h:0<(p-q).num.sign):q<p:=by
 have h1:=Dl.1 (Int.sign_pos_iff.1 h)
 grind
theorem Io {p q:Rat}(h:q<p):0<(p-q).num.sign:=Int.sign_pos_iff.2 (Dl.2 (by grind))
theorem yZ (k:Nat):(dg 4294967296 (10^k)).length≤k+1:=bO (by omega) (Nat.lt_of_le_of_lt (Nat.pow_le_pow_left (show 10≤4294967296 by omega) k) (Nat.pow_lt_pow_right (by omega) (by omega)))
theorem Dm {l:List Nat}(h:∀c∈l,48≤c∧c≤57):(dg 4294967296 (bU l)).length≤l.length:=by
 have h1:=pL h (Nat.le_refl l.length)
 rwa[List.take_length]at h1
def bP (n:Int):Nat:=(max 0 (min n 40)).toNat
def gV (q:Rat) (d:Nat):List Nat:=pt (hal (q*((10^d:Nat):Rat))) d
def DK (lt:Nat→Nat→Bool) (x:Nat):List Nat→List Nat
 | []=>[x]
 | y::l=>if lt x y then y::DK lt x l else x::y::l
def PQ (lt:Nat→Nat→Bool) (l:List Nat):List Nat:=l.foldl (fun a x=>DK lt x a) []
def JB (lt:Nat→Nat→Bool) (l:List Nat):List Nat:=(PQ lt l).reverse
def mA (f:Nat→Rat) (i k:Nat):Bool:=decide (f k<f i)||(decide (f k=f i)&&decide (i<k))
section
variable {f:Nat→Rat}{x y z:Nat}
theorem zA:mA f x y=true↔f y<f x∨(f y=f x∧x<y):=by simp[mA]
theorem Ou:mA f x y=false↔f x≤f y∧(f y=f x→y≤x):=by
 have h:mA f x y=false↔¬mA f x y=true:=by simp
 rw[h,zA]
 constructor
 ·intro h
  exact⟨by grind,fun e=>by rcases Nat.lt_or_ge x y with h9 | h9;exact absurd (Or.inr ⟨e,h9⟩) h;exact h9⟩
 rintro⟨h1,h2⟩ (h3 | ⟨h3,h4⟩)
 ·grind
 have:=h2 h3
 omega
theorem Td (h:mA f x y=true):mA f y x=false:=by
 rw[zA]at h
 rw[Ou]
 rcases h with h | ⟨h,h2⟩
 ·exact⟨by grind,fun e=>by grind⟩
 exact⟨by grind,fun _=>by omega⟩
theorem DL (h:mA f x y=false) (h2:mA f y z=false):mA f x z=false:=by
 rw[Ou]at h h2⊢
 refine⟨by grind,fun e=>?_⟩
 have h3:f y=f x:=by grind
 have h4:f z=f y:=by grind
 have:=h.2 h3
 have:=h2.2 h4
 omega
theorem DM (h:mA f x y=true) (h2:mA f y z=true):mA f x z=true:=by
 cases h3:mA f x z
 ·have h4:=DL (Td h) h3
  rw[h2]at h4
  cases h4
 rfl
end
def Ov (f:Nat→Rat) (n:Nat):List Nat:=JB (mA f) (List.range n)
theorem wX {l:List Nat}{k:Nat}(h:k<l.length):l[k]? =some (nth l k):=by simp[nth,h]
section
variable {f:Nat→Rat}{n i s t:Nat}
def Bst (f:Nat→Rat) (n t i:Nat) (b:Int):Prop:=(b=-1∧∀j,j<i→j∈(Ov f n).take t)∨∃m:Nat,b=(m:Int)∧m<i∧m∉(Ov f n).take t∧∀j,j<i→j∉(Ov f n).take t→j≠m→mA f m j=true
theorem Bst.zero:Bst f n t 0 (-1):=.inl ⟨rfl,fun j hj=>absurd hj (Nat.not_lt_zero j)⟩
variable {b:Int}
theorem Bst.first (h:Bst f n t i b) (hg:i∉(Ov f n).take t) (hb:b<0):Bst f n t (i+1) (i:Int):=by
 rcases h with⟨h1,h2⟩ | ⟨m,h1,h2,h3,h4⟩
 ·refine .inr ⟨i,rfl,by omega,hg,fun j hj hn hm=>?_⟩
  exact absurd (h2 j (by omega)) hn
 omega
theorem Bst.more {m:Nat}(h:Bst f n t i (m:Int)) (hg:i∉(Ov f n).take t) (hb:f m<f i):Bst f n t (i+1) (i:Int):=by
 rcases h with⟨h1,h2⟩ | ⟨m',h1,h2,h3,h4⟩
 ·omega
 have e:m=m':=by omega
 subst e
 have h5:mA f i m=true:=zA.2 (.inl hb)
 refine .inr ⟨i,rfl,by omega,hg,fun j hj hn hm=>?_⟩
 by_cases hj2:j=m
 ·subst hj2
  exact h5
 exact DM h5 (h4 j (by omega) hn hj2)
theorem Bst.lt {m:Nat}(h:Bst f n t i (m:Int)):m<i:=by
 rcases h with⟨h1,h2⟩ | ⟨m',h1,h2,h3,h4⟩ <;> omega
end
section
variable {l:List Rat}{i k t:Nat}
end
section
variable {l:List Rat}{i k:Nat}
end
theorem Vx {l:List Nat}{k:Nat}(h:k<l.length):nth l k∈l:=List.mem_of_getElem? (wX h)
theorem mB {l m:List Nat}{a n:Nat}(h:l.drop a=m):nth m n=nth l (a+n):=by
 subst h
 unfold nth
 rw[List.getD_eq_getElem?_getD,List.getD_eq_getElem?_getD,List.getElem?_drop]
theorem Lr:∀{m:List Nat}{n:Nat},n≤(wh m).length→n<m.length→(fZ (nth m n)=true↔n<(wh m).length)
 | [],_,_,h=>by simp at h
 | x::m,0,_,_=>by
  show fZ x=true↔_
  unfold wh
  rw[List.takeWhile_cons]
  by_cases h:fZ x=true
  ·rw[if_pos h];simp[h]
  rw[if_neg h];simp[h]
 | x::m,n+1,h1,h2=>by
  show fZ (nth m n)=true↔_
  have hx:fZ x=true:=by
   unfold wh at h1
   rw[List.takeWhile_cons]at h1
   by_cases h:fZ x=true
   ·exact h
   rw[if_neg h]at h1;simp at h1
  have e:wh (x::m)=x::wh m:=by unfold wh;rw[List.takeWhile_cons,if_pos hx]
  rw[e,List.length_cons]at h1⊢
  rw[Lr (m:=m) (n:=n) (by omega) (by simpa using h2)]
  omega
theorem MT {l m:List Nat}{a n:Nat}(h:l.drop a=m) (h1:n≤(wh m).length) (h2:a+n<l.length) (h3:48≤nth l (a+n)) (h4:nth l (a+n)≤57):n+1≤(wh m).length:=by
 have hl:m.length=l.length-a:=by rw[←h,List.length_drop]
 have h5:=(Lr h1 (by omega)).1 (by rw[mB h];exact decide_eq_true ⟨h3,h4⟩)
 omega
theorem Te {l m:List Nat}{a n:Nat}(h:l.drop a=m) (h1:n≤(wh m).length) (h2:l.length≤a+n∨¬(48≤nth l (a+n)∧nth l (a+n)≤57)):n=(wh m).length:=by
 have hl:m.length=l.length-a:=by rw[←h,List.length_drop]
 have hw:=wV m
 rcases Nat.lt_or_ge n (wh m).length with h3 | h3
 ·exfalso
  have h4:=(Lr h1 (by omega)).2 h3
  rw[mB h]at h4
  have h5:=De h4
  rcases h2 with h2 | h2
  ·omega
  exact h2 h5
 omega
def fI (l:List Nat):Nat:=if l.take 1=[45]then 1 else 0
theorem qU (l:List Nat):l.drop (fI l)=aE l:=by
 unfold fI aE
 split <;> rfl
theorem qV {l:List Nat}{c:Nat}(h:0<l.length):l.take 1=[c]↔nth l 0=c:=by
 cases l with
 | nil=>simp at h
 | cons x l=>simp[nth]
theorem JC {l:List Nat}(h:0<l.length) (h2:nth l 0=45):fI l=1:=if_pos ((qV h).2 h2)
theorem Vy {l:List Nat}(h:¬(0<l.length∧nth l 0=45)):fI l=0:=if_neg fun h2=>by
 have h3:=congrArg List.length h2
 rw[List.length_take]at h3
 have h4:0<l.length:=by simp at h3;omega
 exact h ⟨h4,(qV h4).1 h2⟩
theorem pN (l:List Nat):fI l+(aE l).length=l.length:=by
 rw[←qU,List.length_drop]
 unfold fI
 split
 ·rename_i h
  have h3:=congrArg List.length h
  rw[List.length_take]at h3
  simp at h3
  omega
 omega
theorem vK (l:List Nat):l.drop (fI l+(wh (aE l)).length)=cA (aE l):=by
 rw[←List.drop_drop,qU]
 conv=>lhs;rw[show aE l=wh (aE l)++cA (aE l) from(kZ _).symm]
 rw[show wh (wh (aE l)++cA (aE l))=wh (aE l) by rw[kZ]]
 exact List.drop_left
theorem Vz {l:List Nat}(h:fI l+(wh (aE l)).length<l.length) (h2:nth l (fI l+(wh (aE l)).length)=46):gA (cA (aE l))=true:=by
 have hd:=vK l
 have hl:=congrArg List.length hd
 rw[List.length_drop]at hl
 refine decide_eq_true ((qV (by omega)).2 ?_)
 rw[mB hd]
 exact h2
theorem Bz {l:List Nat}(h:¬(fI l+(wh (aE l)).length<l.length∧nth l (fI l+(wh (aE l)).length)=46)):gA (cA (aE l))=false:=by
 have hd:=vK l
 have hl:=congrArg List.length hd
 rw[List.length_drop]at hl
 refine decide_eq_false fun h2=>?_
 have h3:=congrArg List.length h2
 rw[List.length_take]at h3
 have h4:0<(cA (aE l)).length:=by simp at h3;omega
 refine h ⟨by omega,?_⟩
 have h5:=(qV h4).1 h2
 rwa[mB hd]at h5
theorem Ip {l:List Nat}(h:gA (cA (aE l))=true):l.drop (fI l+(wh (aE l)).length+1)=gY (cA (aE l)):=by
 rw[←List.drop_drop,vK,Vu h]
theorem Wa {m:List Nat}(h:gA (cA m)=true):wh (gY (cA m))=pl m:=by unfold pl wh;rw[if_pos h]
theorem Wb {l:List Nat}(h:gA (cA (aE l))=true):l.length=fI l+(wh (aE l)).length+1+(pl (aE l)).length+(rr (aE l)).length:=by
 have h1:=pN l
 have h2:=congrArg List.length (kZ (aE l))
 have h3:=congrArg List.length (sG h)
 rw[List.length_append]at h2
 rw[List.length_cons,List.length_append]at h3
 omega
theorem Ca {l:List Nat}(h:gA (cA (aE l))=false):l.length=fI l+(wh (aE l)).length+(rr (aE l)).length:=by
 have h1:=pN l
 have h2:=congrArg List.length (kZ (aE l))
 rw[List.length_append]at h2
 rw[Lo h]
 omega
theorem Iq {m:List Nat}:rr m=[]↔(rr m).length=0:=List.length_eq_zero_iff.symm
def gO (m:List Nat):Bool:=b1 m || b2 m
def rU (l:List Nat):Nat:=bif gO (aE l)then 0 else(wh (aE l)).length
def rV (l:List Nat):Nat:=bif gO (aE l)then 0 else(pl (aE l)).length
def uV (l:List Nat):Bool:=bif gO (aE l)then false else decide (rr (aE l)=[])
theorem zB (l:List Nat):uV l=gB (aE l):=by
 rw[Vv]
 unfold uV gO
 cases b1 (aE l) <;> cases b2 (aE l) <;> rfl
theorem DN {l:List Nat}(h:gB (aE l)=true):gO (aE l)=false:=by
 rw[Vv]at h
 unfold gO
 cases h1:b1 (aE l) <;> cases h2:b2 (aE l) <;> simp_all
theorem Wc {l:List Nat}(h:gB (aE l)=true):rU l=(wh (aE l)).length∧rV l=(pl (aE l)).length:=by
 unfold rU rV
 rw[DN h]
 exact⟨rfl,rfl⟩
theorem Ir {l:List Nat}(h:gB (aE l)=true):0<l.length:=by
 have h1:=(lY h).2
 have h2:=pN l
 have h3:=wV (aE l)
 have h4:=List.length_pos_iff.2 h1
 omega
theorem sK {l:List Nat}(h:0<l.length):decide (nth l 0=45)=cY l:=decide_eq_decide.2 (qV h).symm
theorem Cb {p:Nat→Bool}{l:List Nat}{k:Nat}(h:k<l.length):(l.take (k+1)).all p=((l.take k).all p&&p (nth l k)):=by
 rw[List.take_add_one,wX h]
 simp
theorem Dn {l:List Nat}{k:Nat}(h:k<l.length):sD (l.take (k+1))=(if nth l k=46 then sD (l.take k)else if nth l k=45 then sD (l.take k)else sD (l.take k)*10+(nth l k-48)):=by
 rw[List.take_add_one,wX h]
 simp[sD]
theorem Do {l:List Nat}{k:Nat}(h:k<l.length):sP (l.take (k+1))=(if nth l k=46 then 0 else if nth l k=45 then sP (l.take k)else if 0≤sP (l.take k)then sP (l.take k)+1 else sP (l.take k)):=by
 rw[List.take_add_one,wX h]
 unfold sP
 rw[List.foldl_append]
 rfl
theorem Ow {l:List Nat}(h:gB (aE l)=true):∀c∈l,c=45∨c=46∨(48≤c∧c≤57):=by
 intro c hc
 rw[oK l]at hc
 rcases List.mem_append.1 hc with hc | hc
 ·split at hc
  ·exact .inl (List.mem_singleton.1 hc)
  cases hc
 rw[(lY h).1]at hc
 rcases List.mem_append.1 hc with hc | hc
 ·exact .inr (.inr (yT _ c hc))
 split at hc
 ·rcases List.mem_cons.1 hc with rfl | hc
  ·exact .inr (.inl rfl)
  exact .inr (.inr (yU _ c hc))
 cases hc
theorem JD {l:List Nat}{k:Nat}(hk:k≤l.length) (hb:∀c∈l,c=45∨c=46∨(48≤c∧c≤57)):sD (l.take k)<10^k:=by
 induction k with
 | zero=>simp[sD]
 | succ k ih=>
  have h1:=ih (by omega)
  have h2:=hb _ (Vx (l:=l) (k:=k) (by omega))
  rw[Dn (by omega),Nat.pow_succ]
  split
  ·omega
  split
  ·omega
  omega
theorem JE {l:List Nat}{k:Nat}(hk:k≤l.length):-1≤sP (l.take k)∧sP (l.take k)≤k:=by
 induction k with
 | zero=>exact⟨by simp[sP],by simp[sP]⟩
 | succ k ih=>
  have h1:=ih (by omega)
  rw[Do (by omega)]
  split
  ·omega
  split
  ·omega
  split <;> omega
theorem wY {l:List Nat}(h:gB (aE l)=true):(if cY l then-(((sD l:Nat):Rat)/((10^(pl (aE l)).length:Nat):Rat))else((sD l:Nat):Rat)/((10^(pl (aE l)).length:Nat):Rat))=uT l:=by
 unfold uT
 rw[IY h]
 have hd:((10^(pl (aE l)).length:Nat):Rat)≠0:=by
  have:0<10^(pl (aE l)).length:=Nat.pow_pos (by omega)
  exact_mod_cast (by omega:(10^(pl (aE l)).length:Nat)≠0)
 have hi:(((10^(pl (aE l)).length:Nat):Int))≠0:=by
  have:0<10^(pl (aE l)).length:=Nat.pow_pos (by omega)
  omega
 generalize bU (wh (aE l)++pl (aE l))=V
 have e:∀z:Int,Rat.divInt z ((10^(pl (aE l)).length:Nat):Int)=(z:Rat)/((10^(pl (aE l)).length:Nat):Rat):=fun z=>by
  refine Zb hd ?_
  rw[Rat.div_mul_cancel hd]
  have h2:=uU z _ hi
  rw[Rat.intCast_natCast]at h2
  exact h2
 rw[e]
 cases cY l with
 | true=>
  show-(_/_)=((-(V:Int):Int):Rat)/_
  rw[Rat.intCast_neg,Rat.intCast_natCast,Rat.div_def,Rat.div_def,Rat.neg_mul]
 | false=>
  show _=(((V:Nat):Int):Rat)/_
  rw[Rat.intCast_natCast]
  rfl
end Go.Proofs.YtcaakamelngceaaGreatDoor
namespace Go.Proofs.YtcaakamelngceaaGreatDoor
open Go Go.Shelf
def laysR_ren:Go.Shelf.Ren:=⟨fun | 99=>91 | 105=>42 | 165=>92 | 166=>93 | 169=>95 | 170=>94 | 206=>145 | 212=>90 | 240=>146 | 241=>147 | 263=>143 | 264=>144 | 276=>169 | 277=>170 | n=>n,fun | 0=>0 | 3=>3 | 4=>4 | 5=>5 | 9=>9 | 20=>20 | 37=>113 | 46=>119 | 51=>115 | 53=>152 | 70=>123 | 72=>125 | 75=>128 | 76=>129 | 80=>132 | 109=>120 | 127=>172 | 146=>167 | 148=>170 | 164=>189 | n=>n,fun | n=>n⟩
theorem lF:Go.Proofs.Lays.n105 Tryz.prog laysR_ren:={
 mixed:=by kernel_rfl
 f99:=Tryz.func91.trans (congrArg some (by kernel_rfl))
 f105:=Tryz.func42.trans (congrArg some (by kernel_rfl))
 f165:=Tryz.func92.trans (congrArg some (by kernel_rfl))
 f166:=Tryz.func93.trans (congrArg some (by kernel_rfl))
 f169:=Tryz.func95.trans (congrArg some (by kernel_rfl))
 f170:=Tryz.func94.trans (congrArg some (by kernel_rfl))
 f206:=Tryz.func145.trans (congrArg some (by kernel_rfl))
 f212:=Tryz.func90.trans (congrArg some (by kernel_rfl))
 f240:=Tryz.func146.trans (congrArg some (by kernel_rfl))
 f241:=Tryz.func147.trans (congrArg some (by kernel_rfl))
 f263:=Tryz.func143.trans (congrArg some (by kernel_rfl))
 f264:=Tryz.func144.trans (congrArg some (by kernel_rfl))
 f276:=Tryz.func169.trans (congrArg some (by kernel_rfl))
 f277:=Tryz.func170.trans (congrArg some (by kernel_rfl))
 t0:=Tryz.underlying0
 a0:=Tryz.isAgg0
 z0:=Tryz.sizeOf0
 v0:=Tryz.zeroValue0
 t3:=Tryz.underlying3
 a3:=Tryz.isAgg3
 z3:=Tryz.sizeOf3
 v3:=Tryz.zeroValue3
 t4:=Tryz.underlying4
 a4:=Tryz.isAgg4
 z4:=Tryz.sizeOf4
 v4:=Tryz.zeroValue4
 t5:=Tryz.underlying5
 a5:=Tryz.isAgg5
 z5:=Tryz.sizeOf5
 v5:=Tryz.zeroValue5
 t9:=Tryz.underlying9
 a9:=Tryz.isAgg9
 z9:=Tryz.sizeOf9
 v9:=Tryz.zeroValue9
 t20:=Tryz.underlying20
 a20:=Tryz.isAgg20
 z20:=Tryz.sizeOf20
 v20:=Tryz.zeroValue20
 t37:=Tryz.underlying113
 a37:=Tryz.isAgg113
 z37:=Tryz.sizeOf113
 v37:=Tryz.zeroValue113
 t46:=Tryz.underlying119
 a46:=Tryz.isAgg119
 z46:=Tryz.sizeOf119
 v46:=Tryz.zeroValue119
 t51:=Tryz.underlying115
 a51:=Tryz.isAgg115
 z51:=Tryz.sizeOf115
 v51:=Tryz.zeroValue115
 t53:=Tryz.underlying152
 a53:=Tryz.isAgg152
 z53:=Tryz.sizeOf152
 v53:=Tryz.zeroValue152
 t70:=Tryz.underlying123
 a70:=Tryz.isAgg123
 z70:=Tryz.sizeOf123
 v70:=Tryz.zeroValue123
 t72:=Tryz.underlying125
 a72:=Tryz.isAgg125
 z72:=Tryz.sizeOf125
 v72:=Tryz.zeroValue125
 t75:=Tryz.underlying128
 a75:=Tryz.isAgg128
 z75:=Tryz.sizeOf128
 v75:=Tryz.zeroValue128
 t76:=Tryz.underlying129
 a76:=Tryz.isAgg129
 z76:=Tryz.sizeOf129
 v76:=Tryz.zeroValue129
 t109:=Tryz.underlying120
 a109:=Tryz.isAgg120
 z109:=Tryz.sizeOf120
 v109:=Tryz.zeroValue120
 t127:=Tryz.underlying172
 a127:=Tryz.isAgg172
 z127:=Tryz.sizeOf172
 v127:=Tryz.zeroValue172
 t146:=Tryz.underlying167
 a146:=Tryz.isAgg167
 z146:=Tryz.sizeOf167
 v146:=Tryz.zeroValue167
 t148:=Tryz.underlying170
 a148:=Tryz.isAgg170
 z148:=Tryz.sizeOf170
 v148:=Tryz.zeroValue170
 t164:=Tryz.underlying189
 a164:=Tryz.isAgg189
 z164:=Tryz.sizeOf189
 v164:=Tryz.zeroValue189}
theorem Tf:Go.Proofs.Lays.n212 Tryz.prog laysR_ren:={lF with
}
theorem Ze:Go.Proofs.Builder.Extra Tryz.prog laysR_ren where
 sizeBuilder:=by kernel_rfl
 liesBuilder:=by kernel_rfl
 t5:=lF.t5
 a5:=lF.a5
 z5:=lF.z5
 v5:=lF.v5
 infoByte:=by kernel_rfl
 cellsByte:=by kernel_rfl
 sizeByte:=by kernel_rfl
 neB5:=by decide
end Go.Proofs.YtcaakamelngceaaGreatDoor
namespace Go.Proofs.YtcaakamelngceaaGreatDoor
open Go Go.RowKit
section
variable {f:FuncId}{args:List FV}
theorem Ox {a b:Value}(h:∀(N:Nat→Prop) (w:World) us,cI w N [] args us→(∀b,N b→b<w.heap.size)→Calls Tryz.prog f us.toArray w (fun e w'=>e=.returned (.tuple #[a,b])∧Below w.heap.size w w')):aD true Tryz.prog f [] args (aL (.tup [.one (tv a),.one (tv b)])):=by
 intro N w cs us hL
 obtain⟨rfl,hf⟩:=nP hL
 refine(h _ w us hf (fun b hb=>hb.1)).mono ?_
 rintro e W ⟨rfl,hb⟩
 refine .mk0 (y:=[.w a]++([.w b]++[])) rfl hb (by simp[VT.okL,VT.ok]) (by simp[VT.fpL,VT.fp]) (by simp[VT.fpL,VT.fp]) ⟨[a,b],rfl,?_⟩
 exact⟨a,[b],[.w a],[.w b]++[],rfl,rfl,⟨.w a,rfl,rfl,by simp[CR,tv,OR]⟩,b,[],[.w b],[],rfl,rfl,⟨.w b,rfl,rfl,by simp[CR,tv,OR]⟩,rfl,rfl⟩
end
theorem qW {cs:List UInt8}{p:Nat→Bool}(hp:∀c<256,cs.contains (UInt8.ofNat c)=p c):∀{l:List Nat},Lim 256 l→(l.map UInt8.ofNat).dropWhile (cs.contains ·)=(l.dropWhile p).map UInt8.ofNat
 | [],_=>rfl
 | x::l,h=>by
  rw[List.map_cons,List.dropWhile_cons,List.dropWhile_cons,hp x (h x (by simp))]
  split
  ·exact qW hp (fun c hc=>h c (by simp[hc]))
  rfl
def p0 (c:Nat):Bool:=decide (c=48)
def kU (p:Nat→Bool) (l:List Nat):List Nat:=(l.reverse.dropWhile p).reverse
theorem zC {B:Nat}{p:Nat→Bool}{l:List Nat}(h:Lim B l):Lim B (kU p l):=nB (kC (nB h))
theorem Wd:∀c<256,([48]:List UInt8).contains (UInt8.ofNat c)=p0 c:=by decide+kernel
theorem PR {cs:List UInt8}{p:Nat→Bool}(hp:∀c<256,cs.contains (UInt8.ofNat c)=p c){l:List Nat}(h:Lim 256 l):(⟨(Lib.trimLeftS (aC l).data.toList cs).toArray⟩:ByteArray)=aC (l.dropWhile p):=by
 rw[gM]
 unfold Lib.trimLeftS
 rw[qW hp h]
 rfl
theorem DO {cs:List UInt8}{p:Nat→Bool}(hp:∀c<256,cs.contains (UInt8.ofNat c)=p c){l:List Nat}(h:Lim 256 l):Lib.trimRightS (l.map UInt8.ofNat) cs=(kU p l).map UInt8.ofNat:=by
 unfold Lib.trimRightS kU
 rw[←List.map_reverse,qW hp (nB h),List.map_reverse]
theorem PS {cs:List UInt8}{p:Nat→Bool}(hp:∀c<256,cs.contains (UInt8.ofNat c)=p c){l:List Nat}(h:Lim 256 l):(⟨(Lib.trimRightS (aC l).data.toList cs).toArray⟩:ByteArray)=aC (kU p l):=by
 rw[gM,DO hp h]
 rfl
theorem PT {cs:List UInt8}{p:Nat→Bool}(hp:∀c<256,cs.contains (UInt8.ofNat c)=p c){l:List Nat}(h:Lim 256 l):(⟨(Lib.trimS (aC l).data.toList cs).toArray⟩:ByteArray)=aC ((kU p l).dropWhile p):=by
 rw[gM]
 unfold Lib.trimS
 rw[DO hp h]
 unfold Lib.trimLeftS
 rw[qW hp (zC h)]
 rfl
variable {l:List Nat}
theorem Oy (hl:Lim 256 l):aD true Tryz.prog 89 [] [.one (tv (.string (aC l))),.one (tv (.string ⟨#[48,49,50,51,52,53,54,55,56,57]⟩))] (aL (.one (tv (.string (aC (l.dropWhile fZ)))))):=lG fun N w us hf hN=>by
 obtain⟨u,v,rfl,h1,h2⟩:=lH hf
 obtain rfl:=aP (dP h1)
 obtain rfl:=aP (dP h2)
 have h:=Go.Proofs.Any.strings_TrimLeft_laid Tg (by kernel_rfl) (aC l) ⟨#[48,49,50,51,52,53,54,55,56,57]⟩ w (by decide) (fun j b h=>(by decide:∀b∈([48,49,50,51,52,53,54,55,56,57]:List UInt8),b.toNat<128) b (List.mem_of_getElem? h))
 rwa[PR (cs:=[48,49,50,51,52,53,54,55,56,57]) Db hl]at h
theorem Th (hl:Lim 256 l) (hn:l.length≤9223372036854775807):aD true Tryz.prog 58 [] [.one (tv (.string (aC l))),.one (tv (.string ⟨#[48]⟩))] (aL (.one (tv (.string (aC (kU p0 l)))))):=lG fun N w us hf hN=>by
 obtain⟨u,v,rfl,h1,h2⟩:=lH hf
 obtain rfl:=aP (dP h1)
 obtain rfl:=aP (dP h2)
 have h:=Go.Proofs.Any.strings_TrimRight_laid Ti (by kernel_rfl) (aC l) ⟨#[48]⟩ w (by rw[aG];omega) (by decide) (fun j b h=>(by decide:∀b∈([48]:List UInt8),b.toNat<128) b (List.mem_of_getElem? h))
 rwa[PS (cs:=[48]) Wd hl]at h
theorem Zf (hl:Lim 256 l) (hn:l.length≤9223372036854775807):aD true Tryz.prog 125 [] [.one (tv (.string (aC l))),.one (tv (.string ⟨#[48]⟩))] (aL (.one (tv (.string (aC ((kU p0 l).dropWhile p0)))))):=lG fun N w us hf hN=>by
 obtain⟨u,v,rfl,h1,h2⟩:=lH hf
 obtain rfl:=aP (dP h1)
 obtain rfl:=aP (dP h2)
 have h:=Go.Proofs.Any.strings_Trim_laid qX (by kernel_rfl) (aC l) ⟨#[48]⟩ w (by rw[aG];omega) (by decide) (fun j b h=>(by decide:∀b∈([48]:List UInt8),b.toNat<128) b (List.mem_of_getElem? h))
 rwa[PT (cs:=[48]) Wd hl]at h
theorem Oz {n:Nat}(hn:n≤1000000):aD true Tryz.prog 42 [] [.one (tv (.string ⟨#[48]⟩)),.one (tv (.int .i64 ((n:Nat):Int)))] (aL (.one (tv (.string (aC (List.replicate n 48)))))):=lG fun N w us hf hN=>by
 obtain⟨u,v,rfl,h1,h2⟩:=lH hf
 obtain rfl:=aP (dP h1)
 obtain rfl:=aP (dP h2)
 have h:=Go.Proofs.Any.strings_Repeat lF Ze ⟨#[48]⟩ n w (by omega) (by show 1*n≤_;omega)
 have e:(⟨(Lib.repeatL (⟨#[48]⟩:ByteArray).data.toList n).toArray⟩:ByteArray)=aC (List.replicate n 48):=by
  have:∀n,Lib.repeatL [48] n=(List.replicate n 48).map UInt8.ofNat:=fun n=>by
   induction n with
   | zero=>rfl
   | succ n ih=>rw[Lib.repeatL,ih,List.replicate_succ];rfl
  show(⟨(Lib.repeatL [48] n).toArray⟩:ByteArray)=_
  rw[this]
  rfl
 rwa[e]at h
theorem DP {a b:Nat}(ha:a<18446744073709551616) (hb:b<18446744073709551616):aD true Tryz.prog 90 [] [.one (tv (.int .u64 ((a:Nat):Int))),.one (tv (.int .u64 ((b:Nat):Int)))] (aL (.tup [.one (tv (.int .u64 ((a*b/18446744073709551616:Nat):Int))),.one (tv (.int .u64 ((a*b%18446744073709551616:Nat):Int)))])):=Ox fun N w us hf hN=>by
 obtain⟨u,v,rfl,h1,h2⟩:=lH hf
 obtain rfl:=aP (dP h1)
 obtain rfl:=aP (dP h2)
 exact(Go.Proofs.Any.bits_Mul Tf a b ha hb w).mono fun e w' h=>⟨h.1,by first | exact h.2 | (rw[h.2];exact Below.refl _ _)⟩
theorem Tj (l:List Nat):decide ((kU p0 l).dropWhile p0=[])=uS l:=by
 unfold uS
 rw[Bool.eq_iff_iff,decide_eq_true_eq,List.all_eq_true,sL]
 unfold kU
 constructor
 ·intro h c hc
  cases hq:l.reverse.dropWhile p0 with
  | nil=>exact sL.1 hq c (List.mem_reverse.2 hc)
  | cons y ys=>
   have h1:=h y (by rw[hq];simp)
   have h2:=List.head?_dropWhile_not p0 l.reverse
   rw[hq]at h2
   simp at h2
   rw[h1]at h2
   cases h2
 intro h c hc
 have h1:=(List.dropWhile_sublist p0).subset (List.mem_reverse.1 hc)
 exact h c (List.mem_reverse.1 h1)
theorem JF:CallOk Tryz.prog 140:=.mk Tryz.func140 (by decide) rfl
theorem zD {l R:List Nat}{c:Nat}(hl:Lim 256 l) (hR:l.dropWhile (· ==c)=R):aD true Tryz.prog 140 [] [.one (tv (.string (aC l))),.one (tv (.int .u8 ((c:Nat):Int)))] (aL (.one (tv (.string (aC R))))):=by
 refine bE Tryz.func140 rfl Tryz.ntmps140 rfl aA rfl fun N9 w9 c0 h0=>?_
 refine sq ?_;refine rl ?_;refine o1 ?_;refine nl ?_;refine sq ?_;refine bl ?_
 refine lp (γ:=List Nat) (fun l=>cK [(0,.one (tv (.string (aC l)))),(1,.one (tv (.int .u8 ((c:Nat):Int))))]) (fun _=>([]:List Ob).map some) (fun l=>Lim 256 l∧l.dropWhile (· ==c)=R) (fun l=>l.length) l ⟨hl,hR⟩ (aQ h0 [] _ _ (by decide) ⟨rfl,rfl,trivial⟩ rfl) fun k hk=>?_
 refine sq ?_;refine sq ?_;refine rl ?_;refine o1 ?_;refine o1 ?_
 refine WL.cast (t:=6) (u':=.int .i64 ((k.length:Nat):Int)) rfl (congrArg (fun n:Nat=>Value.int .i64 (n:Int)) (aG _)) ?_
 refine o1 ?_;refine o1 ?_;refine WL.split (t:=8) rfl (fun h1=>?_) (fun h1=>?_)
 ·refine o1 ?_;refine o1 ?_ (hC:=(by rw[aG];show 0<k.length;omega))
  refine WL.cast (t:=10) (u':=.int .u8 (((nth k 0):Nat):Int)) rfl (congrArg (fun n:Nat=>Value.int .u8 (n:Int)) (eI (i:=0) (by omega) (dK (k:=0) hk.1 (by omega)))) ?_
  (iterate 3 refine o1 ?_);refine nl ?_;refine bQ rfl (fun h2=>?_) (fun h2=>?_)
  ·refine sk ?_;refine bl ?_;refine rl ?_;refine o1 ?_;refine o1 ?_ (hC:=(by rw[aG];show 1≤k.length;omega))
   refine WL.cast (t:=15) (u':=.string (aC (k.drop 1))) rfl (congrArg Value.string (hJ _ _)) ?_;refine o1 ?_;refine nl ?_
   exact⟨k.drop 1,by rw[List.length_drop];omega,⟨lB hk.1 1,(Pa (by omega) (by omega)).trans hk.2⟩,aQ h0 [] _ _ (by decide) ⟨rfl,rfl,trivial⟩ rfl⟩
  refine ex ?_;refine sq ?_;refine rl ?_;refine o1 ?_;refine o1 ?_;refine nl ?_;refine rt ?_
  exact en (.inl rfl) rfl (aR (aN _)) (by decide) (fun _=>trivial) (congrArg (fun z=>FV.one (tv (.string z))) (congrArg aC ((Ls (by omega) (by omega)).trans hk.2)))
 (iterate 4 refine cL ?_);refine o1 ?_;refine nl ?_;refine fY rfl ?_;refine ex ?_;refine sq ?_;refine rl ?_;refine o1 ?_;refine o1 ?_;refine nl ?_;refine rt ?_
 exact en (.inl rfl) rfl (aR (aN _)) (by decide) (fun _=>trivial) (congrArg (fun z=>FV.one (tv (.string z))) (congrArg aC ((Lu (by omega)).trans hk.2)))
theorem wZ {l:List Nat}(hl:Lim 256 l):aD true Tryz.prog 89 [] [.one (tv (.string (aC l))),.one (tv (.string ⟨#[48]⟩))] (aL (.one (tv (.string (aC (l.dropWhile (· ==48))))))):=by
 refine bE Tryz.func89 rfl Tryz.ntmps89 rfl aA rfl fun N9 w9 c0 h0=>?_
 refine sq ?_;refine rl ?_;refine o1 ?_;refine nl ?_;refine sq ?_;refine sq ?_;refine rl ?_;refine o1 ?_;refine o1 ?_
 refine WL.cast (t:=8) (u':=.bool (decide (l=[]))) rfl (congrArg Value.bool (gZ hl)) ?_;refine o1 ?_;refine WL.splitb (t:=9) rfl (fun h1=>?_) (fun h1=>?_)
 ·refine cL ?_;refine cL ?_;refine o1 ?_;refine nl ?_;refine gJ rfl ?_;refine sq ?_;refine rl ?_;refine o1 ?_;refine o1 ?_;refine nl ?_;refine rt ?_
  exact en (.inl rfl) rfl (aR (aN _)) (by decide) (fun _=>trivial) (congrArg (fun z=>FV.one (tv (.string z))) (congrArg aC (by rw[of_decide_eq_true h1];rfl)))
 refine o1 ?_;refine o1 ?_;refine WL.cast (t:=11) (u':=.bool false) rfl (congrArg Value.bool (gZ (l:=[48]) (Lim.cons (by omega) Lim.nil))) ?_
 refine o1 ?_;refine nl ?_;refine fY rfl ?_;refine sk ?_;refine sq ?_;refine sq ?_;refine rl ?_;(iterate 3 refine o1 ?_)
 refine WL.cast (t:=16) (u':=.bool true) rfl (congrArg Value.bool rfl) ?_;refine o1 ?_;refine o1 ?_;refine o1 ?_ (hC:=(by decide))
 refine o1 ?_;refine WL.cast (t:=20) (u':=.bool true) rfl (congrArg Value.bool rfl) ?_;refine o1 ?_;refine nl ?_;refine gJ rfl ?_;refine sq ?_;refine rl ?_;refine o1 ?_;refine o1 ?_
 refine o1 ?_ (hC:=(by decide))
 refine WL.cast (t:=24) (u':=.int .u8 ((48:Nat):Int)) rfl rfl ?_
 refine ca (zD (c:=48) hl rfl) JF ⟨a1 rfl,a1 rfl,rfl⟩ (.one (tv (.string (aC (l.dropWhile (· ==48)))))) ?_;refine o1 ?_;refine nl ?_;refine rt ?_
 exact en (.inl rfl) rfl (aR (aN _)) (by decide) (fun _=>trivial) (congrArg (fun z=>FV.one (tv (.string z))) (rfl))
theorem Pb {t n:Nat}{xs:List Nat}(hn:xs.length=n) (hn2:n≤100000000):aD false Tryz.prog 88 [⟨t,1,(dA xs).map .t⟩] [.one (.sl 0 0 n)] (Rt [⟨t,1,(dA xs.reverse).map .t⟩] (.tup [])):=by
 subst hn;refine Dp Tryz.func88 rfl Tryz.ntmps88 rfl aA rfl fun N9 M9 w9 c0 h0=>?_
 refine sq ?_;refine rl ?_;(iterate 5 refine o1 ?_);refine nl ?_;refine bl ?_
 refine lp (γ:=Nat) (fun k=>cK [(0,.one (.sl 0 0 xs.length)),(2,.one (tv (.int .i64 ((k:Nat):Int)))),(3,.one (tv (.int .i64 ((xs.length:Int)-1-(k:Int):Int))))]) (fun k=>[(⟨t,1,(dA (fF xs k)).map .t⟩:Ob)].map some) (fun k=>2*k≤xs.length+1) (fun k=>xs.length-k) 0 (by omega) (Dq h0 [0] _ _ (by decide) rfl ⟨rfl,rfl,nQ (by omega),trivial⟩ ⟨cX (congrArg (fun l=>some (⟨t,1,(dA l).map .t⟩:Ob)) (JG xs)),rfl⟩) fun k hk=>?_
 have hrl:=iV xs k
 refine sq ?_;refine sq ?_;refine rl ?_;(iterate 3 refine o1 ?_);refine nl ?_;refine bQ rfl (fun h1=>?_) (fun h1=>?_)
 ·refine sk ?_;refine sq ?_;refine bl ?_;refine rd [] (fun i=>[15].contains i) mixed ?_
  refine dv 0 ?_;refine dv 1 ?_;refine dv 2 ?_;refine dv 3 ?_;refine WD.cast (t:=17) (u':=.int .i64 (((xs.length-1-k):Nat):Int)) rfl (aH (by omega)) ?_
  refine dv 4 ?_;refine dv 5 ?_;refine WD.cast (t:=19) (u':=.int .i64 (((xs.length-1-k):Nat):Int)) rfl (aH (by omega)) ?_
  refine dv 6 ?_;refine dv 8 ?_;refine dv 9 ?_;refine dv 10 ?_;refine WO.two (i:=7) (j:=11) (by kernel_rfl) ?_ ?_
  ·refine Lw 7 (Cc (fF xs k) (k:=(xs.length-1-k)) (by omega)) ?_
   refine WO.one (by kernel_rfl) (Lw 11 (Cc (fF xs k) (k:=k) (by omega)) ?_)
   refine dv 12 ?_;refine We 13 (sM (fF xs k) (k:=k) (v:=nth (fF xs k) ((xs.length-1-k))) (by omega)) (xA (fF xs k) (by omega)) ?_
   refine dv 14 ?_
   refine Tk 15 (sM ((fF xs k).set (k) (nth (fF xs k) ((xs.length-1-k)))) (k:=(xs.length-1-k)) (v:=nth (fF xs k) (k)) (by simp only[List.length_set];omega)) (xA ((fF xs k).set (k) (nth (fF xs k) ((xs.length-1-k)))) (by simp only[List.length_set];omega)) ?_
   refine aS ?_;refine rl ?_;refine o1 ?_;refine o1 ?_;refine WL.cast (t:=11) (u':=.int .i64 ((k+1:Nat):Int)) rfl (aH (by omega)) ?_
   (iterate 4 refine o1 ?_);refine nl ?_
   exact⟨k+1,by omega,by omega,Dq h0 [0] _ _ (by decide) rfl ⟨rfl,rfl,nQ (by omega),trivial⟩ ⟨cX (congrArg (fun l=>some (⟨t,1,(dA l).map .t⟩:Ob)) (Wf (by omega))),rfl⟩⟩
  refine Lw 11 (Cc (fF xs k) (k:=k) (by omega)) ?_
  refine WO.one (by kernel_rfl) (Lw 7 (Cc (fF xs k) (k:=(xs.length-1-k)) (by omega)) ?_)
  refine dv 12 ?_;refine We 13 (sM (fF xs k) (k:=k) (v:=nth (fF xs k) ((xs.length-1-k))) (by omega)) (xA (fF xs k) (by omega)) ?_
  refine dv 14 ?_
  refine Tk 15 (sM ((fF xs k).set (k) (nth (fF xs k) ((xs.length-1-k)))) (k:=(xs.length-1-k)) (v:=nth (fF xs k) (k)) (by simp only[List.length_set];omega)) (xA ((fF xs k).set (k) (nth (fF xs k) ((xs.length-1-k)))) (by simp only[List.length_set];omega)) ?_
  refine aS ?_;refine rl ?_;refine o1 ?_;refine o1 ?_;refine WL.cast (t:=11) (u':=.int .i64 ((k+1:Nat):Int)) rfl (aH (by omega)) ?_
  (iterate 4 refine o1 ?_);refine nl ?_
  exact⟨k+1,by omega,by omega,Dq h0 [0] _ _ (by decide) rfl ⟨rfl,rfl,nQ (by omega),trivial⟩ ⟨cX (congrArg (fun l=>some (⟨t,1,(dA l).map .t⟩:Ob)) (Wf (by omega))),rfl⟩⟩
 refine ex ?_
 exact kV (lent':=[⟨t,1,(dA xs.reverse).map .t⟩]) (.inr rfl) rfl PU (by decide) (fun _ h=>by cases h) ⟨⟨rfl,rfl⟩,trivial⟩ ⟨congrArg (fun l=>some (⟨t,1,(dA l).map .t⟩:Ob)) (Zh (by omega)),trivial⟩ ⟨mC _,trivial⟩ (fun h=>by cases h) ⟨rfl,rfl⟩
theorem JH {xs:List Nat}{v:Nat}(hx:xs.length≤1000000) (hl:Lim 4294967296 xs) (hv0:vl 4294967296 xs=v):aD true Tryz.prog 41 [] [.one (.t (sU false xs))] (aL (.one (tv (.string (aC (tx v)))))):=by
 refine bE Tryz.func41 rfl Tryz.ntmps41 rfl aA rfl fun N9 w9 c0 h0=>?_
 have hvL:v<4294967296^xs.length:=hv0▸dO hl
 have hvl:=bO (k:=xs.length) (by omega) hvL
 refine sq ?_;refine rl ?_;refine o1 ?_;refine nl ?_;refine sq ?_;refine rl ?_;refine PV 0 ?_;refine nl ?_;refine sq ?_;refine rl ?_;refine o1 ?_;refine nl ?_;refine sq ?_;refine sq ?_
 refine rl ?_;refine o1 ?_;refine ca (Zj hl (by omega) hv0) MU ⟨a1 rfl,rfl⟩ (.one (.t (sU false (dg 4294967296 v)))) ?_
 refine o1 ?_;refine nl ?_;refine bl ?_
 refine lp (γ:=(List Nat×List Nat)×Nat) (fun s=>cK [(0,.one (.t (sU false (dg 4294967296 s.2)))),(3,.one (.pt 0 0)),(4,.one (.sl 1 0 s.1.1.length))]) (fun s=>[(⟨112,1,(dA s.1.2).map .t⟩:Ob),⟨5,1,(dA (eC s.1.1)).map .t⟩].map some) (fun s=>s.1.2.length=9∧Lim 10 s.1.1∧vl 10 s.1.1+10^s.1.1.length*s.2=v∧s.2≤v∧s.1.1.length≤10*xs.length+9) (fun s=>s.2) (([],List.replicate 9 0),v) ⟨rfl,Lim.nil,(by simp[vl]),Nat.le_refl _,Nat.zero_le _⟩ ((nr (i:=4) 1 5 1 rfl rfl rfl rfl).trans (aQ h0 [0,1] _ _ (by decide) ⟨rfl,rfl,rfl,trivial⟩ ⟨cX rfl,cX (l:=[]) rfl,rfl⟩)) ?_
 rintro⟨⟨ds,eU⟩,u⟩ ⟨ho,hd,hv,hu,hdl⟩;dsimp only at ho hd hv hu hdl⊢;have hul:=dV hu
 refine sq ?_;refine sq ?_;refine rl ?_;(iterate 3 refine o1 ?_);refine nl ?_;refine bQ rfl (fun h1=>?_) (fun h1=>?_)
 ·refine sk ?_;refine bl ?_;refine sq ?_;have hup:=xB (B:=4294967296) (u:=u) (by omega)
  refine rl ?_;refine o1 ?_
  refine ca (DQ (u:=u) (d:=1000000000) (by omega) (by omega) (by omega)) MV ⟨a1 rfl,a1 rfl,rfl⟩ (.tup [.one (.t (sU false (dg 4294967296 (u/1000000000)))),.one (tv (.int .u32 ((u%1000000000:Nat):Int))),.one (tv (.int .i64 0))]) ?_
  (iterate 7 refine o1 ?_);refine nl ?_;refine sq ?_;refine sq ?_;refine rl ?_;refine o1 ?_;refine nl ?_;refine bl ?_
  refine lp (γ:=Nat) (fun i=>cK [(3,.one (.pt 0 0)),(4,.one (.sl 1 0 ds.length)),(5,.one (.t (sU false (dg 4294967296 (u/1000000000))))),(6,.one (tv (.int .u32 ((u%1000000000/10^i:Nat):Int)))),(21,.one (tv (.int .i64 ((i:Nat):Int))))]) (fun i=>[(⟨112,1,(dA (eC (fd (i) (u%1000000000))++eU.drop (i))).map .t⟩:Ob),⟨5,1,(dA (eC ds)).map .t⟩].map some) (fun i=>i≤9) (fun i=>9-i) 0 (Nat.zero_le _) (aQ h0 [0,1] _ _ (by decide) ⟨rfl,rfl,rfl,nQ (by rw[Nat.pow_zero,Nat.div_one]),rfl,trivial⟩ ⟨cX rfl,cX rfl,rfl⟩) fun i hi=>?_
  have hlen:(eC (fd (i) (u%1000000000))++eU.drop (i)).length=9:=by rw[List.length_append,iA,mD,List.length_drop];omega
  have hdi:u%1000000000/10^i≤u%1000000000:=Nat.div_le_self _ _
  refine sq ?_;refine rl ?_;refine o1 ?_;refine nl ?_;refine sq ?_;refine bQ rfl (fun h2=>?_) (fun h2=>?_)
  ·refine sk ?_;refine sq ?_;refine bl ?_;refine sq ?_;refine rl ?_;refine o1 ?_;refine o1 ?_;refine nl ?_;refine sq ?_;refine rl ?_;(iterate 3 refine o1 ?_)
   refine WL.cast (t:=26) (u':=.int .u32 (((u%1000000000/10^i%10):Nat):Int)) rfl (aH (fL _ 10)) ?_;refine o1 ?_
   refine WL.cast (t:=27) (u':=.int .u8 (((u%1000000000/10^i%10):Nat):Int)) rfl (aH (by omega)) ?_
   refine o1 ?_;refine WL.cast (t:=28) (u':=.int .u8 (((48+u%1000000000/10^i%10):Nat):Int)) rfl (aH (by omega)) ?_
   refine o1 ?_
   refine Dr (sM (eC (fd (i) (u%1000000000))++eU.drop (i)) (k:=i) (v:=48+u%1000000000/10^i%10) (by omega)) (xA (eC (fd (i) (u%1000000000))++eU.drop (i)) (by omega)) ?_
   refine nl ?_;refine rl ?_;refine o1 ?_;refine o1 ?_ (hC:=(fG 10 (by omega) (JI (Nat.lt_of_le_of_lt hdi (by omega)))))
   refine WL.cast (t:=31) (u':=.int .u32 (((u%1000000000/10^i/10):Nat):Int)) rfl (aH (eD _ 10)) ?_;refine o1 ?_;refine nl ?_;refine rl ?_;refine o1 ?_
   refine WL.cast (t:=32) (u':=.int .i64 ((i+1:Nat):Int)) rfl (aH (by omega)) ?_
   refine o1 ?_;refine nl ?_
   exact⟨i+1,by omega,by omega,aQ h0 [0,1] _ _ (by decide) ⟨rfl,rfl,rfl,nQ (by rw[Nat.pow_succ,Nat.div_div_eq_div_mul]),rfl,trivial⟩ ⟨cX (congrArg (fun l=>some (⟨112,1,(dA l).map .t⟩:Ob)) (DR (by omega) ho)),cX rfl,rfl⟩⟩
  refine ex ?_;have hi9:i=9:=by omega
  subst hi9;have he9:(eC (fd (9) (u%1000000000))++eU.drop (9))=eC (fd 9 (u%1000000000)):=by rw[List.drop_of_length_le (by omega),List.append_nil]
  refine sq ?_;refine rl ?_;refine o1 ?_
  refine JJ (m:=9) (by_:=1) 2 (DstA.sl (k:=1) (n:=ds.length) (e:=5) (z:=1) rfl (by rw[Lx,iA])) (Wg _) (Zk _) (by rw[Lx,hlen]) (by omega) (by omega) ?_
  refine o1 ?_;refine nl ?_;refine rl ?_;refine o1 ?_;refine o1 ?_;refine nl ?_
  exact⟨((ds++fd 9 (u%1000000000),eC (fd 9 (u%1000000000))),u/1000000000),by dsimp only;omega,⟨by dsimp only;rw[iA,mD],hd.append (DS _ _),JK hv,by dsimp only;omega,by dsimp only;rw[List.length_append,mD];have:=Zl hv hup hvL;omega⟩,aQ h0 [0,2] _ _ (by decide) ⟨rfl,rfl,congrArg (fun n=>some (FV.one (.sl 2 0 n))) (show(ds++fd 9 (u%1000000000)).length=ds.length+9 by rw[List.length_append,mD]),trivial⟩ ⟨cX (congrArg (fun l=>some (⟨112,1,(dA l).map .t⟩:Ob)) he9),cX (congrArg (fun l=>some (⟨5,1,l⟩:Ob)) ((DT _ _).trans (congrArg (fun l:List Nat=>(dA l).map AV.t) (show eC ds++(eC (fd (9) (u%1000000000))++eU.drop (9))=eC (ds++fd 9 (u%1000000000)) by rw[he9,Is])))),rfl⟩⟩
 refine ex ?_;refine sq ?_;have hu0:u=0:=(dM (B:=4294967296) (by omega)).1 (List.eq_nil_of_length_eq_zero (by omega))
 subst hu0;rw[Nat.mul_zero,Nat.add_zero]at hv;refine rl ?_;refine o1 ?_
 refine cl 2 [1] (Pb (t:=5) (xs:=eC ds) (n:=ds.length) (iA ds) (by omega)) MW ⟨cX rfl,rfl⟩ ⟨rfl,rfl⟩ (ok:=[some ⟨5,1,(dA (eC ds).reverse).map .t⟩]) ⟨cX rfl,rfl⟩ ?_
 refine nl ?_;refine sq ?_;refine sq ?_;refine rl ?_;refine o1 ?_
 refine PW (xs:=(eC ds).reverse) (DU rfl (by rw[List.length_reverse,iA])) (by rw[List.length_reverse,iA]) ?_
 refine ca (wZ (nB (zE hd))) Tl ⟨a1 rfl,a1 rfl,rfl⟩ (.one (tv (.string (aC ((eC ds).reverse.dropWhile (· ==48)))))) ?_;refine o1 ?_;refine nl ?_;refine sq ?_
 refine rl ?_;refine o1 ?_;refine o1 ?_
 refine WL.cast (t:=43) (u':=.bool (!decide (((eC ds).reverse.dropWhile (· ==48))=[]))) rfl (congrArg Value.bool (congrArg not (gZ (kC (nB (zE hd)))))) ?_;refine nl ?_
 refine jV rfl (fun h3=>?_) (fun h3=>?_)
 ·refine sq ?_;refine rl ?_;refine o1 ?_;refine o1 ?_;refine nl ?_;refine rt ?_
  exact en (.inl rfl) rfl (aR (aN _)) (by decide) (fun _=>trivial) (congrArg (fun z=>FV.one (tv (.string z))) (congrArg aC (Zm hd hv h3)))
 refine sk ?_;refine sq ?_;refine rl ?_;refine o1 ?_;refine nl ?_;refine rt ?_
 exact en (.inl rfl) rfl (aR (aN _)) (by decide) (fun _=>trivial) (congrArg (fun z=>FV.one (tv (.string z))) (congrArg aC (DV hd hv h3)))
theorem Wh:CallOk Tryz.prog 145:=.mk Tryz.func145 (by decide) rfl
theorem Wi:CallOk Tryz.prog 179:=.mk Tryz.func179 (by decide) rfl
theorem As {B:Nat}{l:List Nat}(h:Lim B l) (k:Nat):Lim B (l.take k):=fun x hx=>h x (List.mem_of_mem_take hx)
theorem DW {l:List Nat}(h:Lim 256 l):((aC (l.take 1)).toList==(⟨#[45]⟩:ByteArray).toList)=decide (l.take 1=[45]):=jJ (l':=[45]) (As h 1) (Lim.cons (by omega) Lim.nil)
theorem DX {l:List Nat}(h:¬1≤l.length):false=decide (l.take 1=[45]):=by
 rw[List.eq_nil_of_length_eq_zero (show l.length=0 by omega)];rfl
theorem Hm {l:List Nat}(hl:Lim 256 l):aD true Tryz.prog 145 [] [.one (tv (.string (aC l))),.one (tv (.string ⟨#[45]⟩))] (aL (.one (tv (.bool (decide (l.take 1=[45])))))):=by
 refine bE Tryz.func145 rfl Tryz.ntmps145 rfl aA rfl fun N9 w9 c0 h0=>?_
 refine sq ?_;refine rl ?_;refine o1 ?_;refine nl ?_;refine sq ?_;refine rl ?_;refine o1 ?_;refine o1 ?_
 refine WL.cast (t:=6) (u':=.int .i64 ((l.length:Nat):Int)) rfl (congrArg (fun n:Nat=>Value.int .i64 (n:Int)) (aG _)) ?_
 refine o1 ?_;refine o1 ?_;refine WL.cast (t:=8) (u':=.int .i64 ((1:Nat):Int)) rfl rfl ?_;refine o1 ?_;refine o1 ?_;refine WL.split (t:=10) rfl (fun h1=>?_) (fun h1=>?_)
 ·(iterate 3 refine o1 ?_);refine WL.cast (t:=13) (u':=.int .i64 ((1:Nat):Int)) rfl rfl ?_;refine o1 ?_ (hC:=(by rw[aG];show 1≤l.length;omega))
  refine WL.cast (t:=14) (u':=.string (aC (l.take 1))) rfl (congrArg Value.string ((hG l 0 1).trans rfl)) ?_;refine o1 ?_;refine o1 ?_
  refine WL.cast (t:=16) (u':=.bool (decide (l.take 1=[45]))) rfl (congrArg Value.bool (DW hl)) ?_;refine o1 ?_;refine o1 ?_;refine nl ?_;refine rt ?_;exact mE (.inl rfl) rfl (rfl)
 (iterate 6 refine cL ?_);refine o1 ?_;refine o1 ?_;refine nl ?_;refine rt ?_;exact mE (.inl rfl) rfl (DX (by omega))
theorem Zo {l:List Nat}(h:l.take 1=[45]):1≤l.length:=by
 have:=congrArg List.length h
 rw[List.length_take]at this
 simp at this
 omega
theorem Ho {l:List Nat}(hl:Lim 256 l):aD true Tryz.prog 179 [] [.one (tv (.string (aC l))),.one (tv (.string ⟨#[45]⟩))] (aL (.tup [.one (tv (.string (aC (if l.take 1=[45]then l.drop 1 else l)))),.one (tv (.bool (decide (l.take 1=[45]))))])):=by
 refine bE Tryz.func179 rfl Tryz.ntmps179 rfl aA rfl fun N9 w9 c0 h0=>?_
 refine sq ?_;refine rl ?_;refine o1 ?_;refine o1 ?_;refine nl ?_;refine sq ?_;refine sq ?_;refine rl ?_;refine o1 ?_;refine o1 ?_
 refine ca (Hm hl) Wh ⟨a1 rfl,a1 rfl,rfl⟩ (.one (tv (.bool (decide (l.take 1=[45]))))) ?_;refine WL.splitb (t:=8) rfl (fun h1=>?_) (fun h1=>?_)
 ·refine o1 ?_;refine nl ?_;refine fY rfl ?_;refine sk ?_;refine sq ?_;have h9:=of_decide_eq_true h1
  refine rl ?_;(iterate 3 refine o1 ?_);refine WL.cast (t:=13) (u':=.int .i64 ((1:Nat):Int)) rfl rfl ?_;refine o1 ?_ (hC:=(by rw[aG];show 1≤l.length;exact Zo h9))
  refine WL.cast (t:=14) (u':=.string (aC (l.drop 1))) rfl (congrArg Value.string (hJ _ _)) ?_;refine o1 ?_;refine o1 ?_;refine nl ?_;refine rt ?_
  exact en (.inl rfl) rfl (cV (.cons (aN _) (.cons (aN _) .nil))) (by decide) (fun _=>⟨trivial,trivial,trivial⟩) (by rw[if_pos (of_decide_eq_true h1),h1];rfl)
 refine o1 ?_;refine nl ?_;refine gJ rfl ?_;refine sq ?_;refine rl ?_;(iterate 3 refine o1 ?_);refine nl ?_;refine rt ?_
 exact en (.inl rfl) rfl (cV (.cons (aN _) (.cons (aN _) .nil))) (by decide) (fun _=>⟨trivial,trivial,trivial⟩) (by rw[if_neg (of_decide_eq_false h1),h1];rfl)
theorem Hp {l:List Nat}(hl:Lim 256 l):aD true Tryz.prog 163 [] [.one (tv (.string (aC l))),.one (tv (.string ⟨#[45]⟩))] (aL (.tup [.one (tv (.string (aC (if l.take 1=[45]then l.drop 1 else l)))),.one (tv (.bool (decide (l.take 1=[45]))))])):=by
 refine bE Tryz.func163 rfl Tryz.ntmps163 rfl aA rfl fun N9 w9 c0 h0=>?_
 refine sq ?_;refine rl ?_;refine o1 ?_;refine o1 ?_;refine nl ?_;refine sq ?_;refine rl ?_;refine o1 ?_;refine o1 ?_
 refine ca (Ho hl) Wi ⟨a1 rfl,a1 rfl,rfl⟩ (.tup [.one (tv (.string (aC (if l.take 1=[45]then l.drop 1 else l)))),.one (tv (.bool (decide (l.take 1=[45]))))]) ?_
 (iterate 4 refine o1 ?_);refine nl ?_;refine rt ?_;exact en (.inl rfl) rfl (cV (.cons (aN _) (.cons (aN _) .nil))) (by decide) (fun _=>⟨trivial,trivial,trivial⟩) rfl
theorem Zp {l:List Nat}(h:Lim 256 l):((aC (l.take 1)).toList==(⟨#[46]⟩:ByteArray).toList)=decide (l.take 1=[46]):=jJ (l':=[46]) (As h 1) (Lim.cons (by omega) Lim.nil)
theorem Zq {l:List Nat}(h:¬1≤l.length):false=decide (l.take 1=[46]):=by
 rw[List.eq_nil_of_length_eq_zero (show l.length=0 by omega)];rfl
theorem Wj:CallOk Tryz.prog 128:=.mk Tryz.func128 (by decide) rfl
theorem MX:CallOk Tryz.prog 76:=.mk Tryz.func76 (by decide) rfl
theorem JL:CallOk Tryz.prog 111:=.mk Tryz.func111 (by decide) rfl
def iC (c:Nat) (l:List Nat):Bool:=decide (l.drop (l.length-1)=[c])
def cQ (c:Nat) (l:List Nat):List Nat:=if l.drop (l.length-1)=[c]then l.take (l.length-1)else l
theorem Wk {c:Nat}{l:List Nat}(hc:c<256) (h:Lim 256 l):((aC (l.drop (l.length-1))).toList==(aC [c]).toList)=iC c l:=jJ (lB h _) (Lim.cons hc Lim.nil)
theorem Wl {c:Nat}{l:List Nat}(h:¬1≤l.length):false=iC c l:=by
 unfold iC
 rw[List.eq_nil_of_length_eq_zero (show l.length=0 by omega)]
 rfl
theorem Pc {c:Nat}{l:List Nat}(h:iC c l=true):1≤l.length:=by
 have:=congrArg List.length (of_decide_eq_true h)
 rw[List.length_drop]at this
 simp at this
 omega
theorem sN {c:Nat}{l:List Nat}(h:iC c l=true):l.take (l.length-1)=cQ c l:=(if_pos (of_decide_eq_true h)).symm
theorem Wm {c:Nat}{l:List Nat}(h:iC c l=false):l=cQ c l:=(if_neg (of_decide_eq_false h)).symm
theorem Pd {B c:Nat}{l:List Nat}(h:Lim B l):Lim B (cQ c l):=by
 unfold cQ
 split
 ·exact fun x hx=>h x (List.mem_of_mem_take hx)
 exact h
theorem Ds {c:Nat}{l:List Nat}:(cQ c l).length≤l.length:=by
 unfold cQ
 split
 ·rw[List.length_take];omega
 exact Nat.le_refl _
theorem Dt {l:List Nat}(hl:Lim 256 l):aD true Tryz.prog 145 [] [.one (tv (.string (aC l))),.one (tv (.string ⟨#[46]⟩))] (aL (.one (tv (.bool (decide (l.take 1=[46])))))):=by
 refine bE Tryz.func145 rfl Tryz.ntmps145 rfl aA rfl fun N9 w9 c0 h0=>?_
 refine sq ?_;refine rl ?_;refine o1 ?_;refine nl ?_;refine sq ?_;refine rl ?_;refine o1 ?_;refine o1 ?_
 refine WL.cast (t:=6) (u':=.int .i64 ((l.length:Nat):Int)) rfl (congrArg (fun n:Nat=>Value.int .i64 (n:Int)) (aG _)) ?_
 refine o1 ?_;refine o1 ?_;refine WL.cast (t:=8) (u':=.int .i64 ((1:Nat):Int)) rfl rfl ?_;refine o1 ?_;refine o1 ?_;refine WL.split (t:=10) rfl (fun h1=>?_) (fun h1=>?_)
 ·(iterate 3 refine o1 ?_);refine WL.cast (t:=13) (u':=.int .i64 ((1:Nat):Int)) rfl rfl ?_;refine o1 ?_ (hC:=(by rw[aG];show 1≤l.length;omega))
  refine WL.cast (t:=14) (u':=.string (aC (l.take 1))) rfl (congrArg Value.string ((hG l 0 1).trans rfl)) ?_;refine o1 ?_;refine o1 ?_
  refine WL.cast (t:=16) (u':=.bool (decide (l.take 1=[46]))) rfl (congrArg Value.bool (Zp hl)) ?_;refine o1 ?_;refine o1 ?_;refine nl ?_;refine rt ?_;exact mE (.inl rfl) rfl (rfl)
 (iterate 6 refine cL ?_);refine o1 ?_;refine o1 ?_;refine nl ?_;refine rt ?_;exact mE (.inl rfl) rfl (Zq (by omega))
theorem Tm {l:List Nat}(h:l.take 1=[46]):1≤l.length:=by
 have:=congrArg List.length h
 rw[List.length_take]at this
 simp at this
 omega
theorem Du {l:List Nat}(hl:Lim 256 l):aD true Tryz.prog 179 [] [.one (tv (.string (aC l))),.one (tv (.string ⟨#[46]⟩))] (aL (.tup [.one (tv (.string (aC (if l.take 1=[46]then l.drop 1 else l)))),.one (tv (.bool (decide (l.take 1=[46]))))])):=by
 refine bE Tryz.func179 rfl Tryz.ntmps179 rfl aA rfl fun N9 w9 c0 h0=>?_
 refine sq ?_;refine rl ?_;refine o1 ?_;refine o1 ?_;refine nl ?_;refine sq ?_;refine sq ?_;refine rl ?_;refine o1 ?_;refine o1 ?_
 refine ca (Dt hl) Wh ⟨a1 rfl,a1 rfl,rfl⟩ (.one (tv (.bool (decide (l.take 1=[46]))))) ?_;refine WL.splitb (t:=8) rfl (fun h1=>?_) (fun h1=>?_)
 ·refine o1 ?_;refine nl ?_;refine fY rfl ?_;refine sk ?_;refine sq ?_;have h9:=of_decide_eq_true h1
  refine rl ?_;(iterate 3 refine o1 ?_);refine WL.cast (t:=13) (u':=.int .i64 ((1:Nat):Int)) rfl rfl ?_;refine o1 ?_ (hC:=(by rw[aG];show 1≤l.length;exact Tm h9))
  refine WL.cast (t:=14) (u':=.string (aC (l.drop 1))) rfl (congrArg Value.string (hJ _ _)) ?_;refine o1 ?_;refine o1 ?_;refine nl ?_;refine rt ?_
  exact en (.inl rfl) rfl (cV (.cons (aN _) (.cons (aN _) .nil))) (by decide) (fun _=>⟨trivial,trivial,trivial⟩) (by rw[if_pos (of_decide_eq_true h1),h1];rfl)
 refine o1 ?_;refine nl ?_;refine gJ rfl ?_;refine sq ?_;refine rl ?_;(iterate 3 refine o1 ?_);refine nl ?_;refine rt ?_
 exact en (.inl rfl) rfl (cV (.cons (aN _) (.cons (aN _) .nil))) (by decide) (fun _=>⟨trivial,trivial,trivial⟩) (by rw[if_neg (of_decide_eq_false h1),h1];rfl)
theorem Dv {l:List Nat}(hl:Lim 256 l):aD true Tryz.prog 163 [] [.one (tv (.string (aC l))),.one (tv (.string ⟨#[46]⟩))] (aL (.tup [.one (tv (.string (aC (if l.take 1=[46]then l.drop 1 else l)))),.one (tv (.bool (decide (l.take 1=[46]))))])):=by
 refine bE Tryz.func163 rfl Tryz.ntmps163 rfl aA rfl fun N9 w9 c0 h0=>?_
 refine sq ?_;refine rl ?_;refine o1 ?_;refine o1 ?_;refine nl ?_;refine sq ?_;refine rl ?_;refine o1 ?_;refine o1 ?_
 refine ca (Du hl) Wi ⟨a1 rfl,a1 rfl,rfl⟩ (.tup [.one (tv (.string (aC (if l.take 1=[46]then l.drop 1 else l)))),.one (tv (.bool (decide (l.take 1=[46]))))]) ?_
 (iterate 4 refine o1 ?_);refine nl ?_;refine rt ?_;exact en (.inl rfl) rfl (cV (.cons (aN _) (.cons (aN _) .nil))) (by decide) (fun _=>⟨trivial,trivial,trivial⟩) rfl
theorem Dw {l:List Nat}(hl:Lim 256 l) (hn:l.length≤1000000000):aD true Tryz.prog 128 [] [.one (tv (.string (aC l))),.one (tv (.string ⟨#[37]⟩))] (aL (.one (tv (.bool (iC 37 l))))):=by
 refine bE Tryz.func128 rfl Tryz.ntmps128 rfl aA rfl fun N9 w9 c0 h0=>?_
 refine sq ?_;refine rl ?_;refine o1 ?_;refine nl ?_;refine sq ?_;refine rl ?_;refine o1 ?_;refine o1 ?_
 refine WL.cast (t:=6) (u':=.int .i64 ((l.length:Nat):Int)) rfl (congrArg (fun n:Nat=>Value.int .i64 (n:Int)) (aG _)) ?_
 refine o1 ?_;refine o1 ?_;refine WL.cast (t:=8) (u':=.int .i64 ((1:Nat):Int)) rfl rfl ?_;refine o1 ?_;refine o1 ?_;refine WL.split (t:=10) rfl (fun h1=>?_) (fun h1=>?_)
 ·(iterate 3 refine o1 ?_);refine WL.cast (t:=13) (u':=.int .i64 ((l.length:Nat):Int)) rfl (congrArg (fun n:Nat=>Value.int .i64 (n:Int)) (aG _)) ?_
  refine o1 ?_;refine o1 ?_;refine WL.cast (t:=15) (u':=.int .i64 ((1:Nat):Int)) rfl rfl ?_;refine o1 ?_
  refine WL.cast (t:=16) (u':=.int .i64 ((l.length-1:Nat):Int)) rfl (aH (by omega)) ?_
  refine o1 ?_ (hC:=(by rw[aG];omega))
  refine WL.cast (t:=17) (u':=.string (aC (l.drop (l.length-1)))) rfl (congrArg Value.string (hJ _ _)) ?_;refine o1 ?_;refine o1 ?_
  refine WL.cast (t:=19) (u':=.bool (iC 37 l)) rfl (congrArg Value.bool (Wk (c:=37) (by omega) hl)) ?_
  refine o1 ?_;refine o1 ?_;refine nl ?_;refine rt ?_;exact mE (.inl rfl) rfl (rfl)
 (iterate 9 refine cL ?_);refine o1 ?_;refine o1 ?_;refine nl ?_;refine rt ?_;exact mE (.inl rfl) rfl (Wl (by omega))
theorem Dx {l:List Nat}(hl:Lim 256 l) (hn:l.length≤1000000000):aD true Tryz.prog 76 [] [.one (tv (.string (aC l))),.one (tv (.string ⟨#[37]⟩))] (aL (.tup [.one (tv (.string (aC (cQ 37 l)))),.one (tv (.bool (iC 37 l)))])):=by
 refine bE Tryz.func76 rfl Tryz.ntmps76 rfl aA rfl fun N9 w9 c0 h0=>?_
 refine sq ?_;refine rl ?_;refine o1 ?_;refine o1 ?_;refine nl ?_;refine sq ?_;refine sq ?_;refine rl ?_;refine o1 ?_;refine o1 ?_
 refine ca (Dw hl hn) Wj ⟨a1 rfl,a1 rfl,rfl⟩ (.one (tv (.bool (iC 37 l)))) ?_;refine WL.splitb (t:=8) rfl (fun h1=>?_) (fun h1=>?_)
 ·refine o1 ?_;refine nl ?_;refine fY rfl ?_;refine sk ?_;refine sq ?_;have h9:=Pc h1
  refine rl ?_;(iterate 3 refine o1 ?_);refine WL.cast (t:=13) (u':=.int .i64 ((l.length:Nat):Int)) rfl (congrArg (fun n:Nat=>Value.int .i64 (n:Int)) (aG _)) ?_
  refine o1 ?_;refine o1 ?_;refine WL.cast (t:=15) (u':=.int .i64 ((1:Nat):Int)) rfl rfl ?_;refine o1 ?_
  refine WL.cast (t:=16) (u':=.int .i64 ((l.length-1:Nat):Int)) rfl (aH (by omega)) ?_
  refine o1 ?_ (hC:=(by rw[aG];omega))
  refine WL.cast (t:=17) (u':=.string (aC (l.take (l.length-1)))) rfl (congrArg Value.string ((hG l 0 (l.length-1)).trans rfl)) ?_;refine o1 ?_;refine o1 ?_;refine nl ?_;refine rt ?_
  exact en (.inl rfl) rfl (cV (.cons (aN _) (.cons (aN _) .nil))) (by decide) (fun _=>⟨trivial,trivial,trivial⟩) (by rw[←sN h1,h1];rfl)
 refine o1 ?_;refine nl ?_;refine gJ rfl ?_;refine sq ?_;refine rl ?_;(iterate 3 refine o1 ?_);refine nl ?_;refine rt ?_
 exact en (.inl rfl) rfl (cV (.cons (aN _) (.cons (aN _) .nil))) (by decide) (fun _=>⟨trivial,trivial,trivial⟩) (by rw[←Wm h1,h1];rfl)
theorem Dy {l:List Nat}(hl:Lim 256 l) (hn:l.length≤1000000000):aD true Tryz.prog 32 [] [.one (tv (.string (aC l))),.one (tv (.string ⟨#[37]⟩))] (aL (.tup [.one (tv (.string (aC (cQ 37 l)))),.one (tv (.bool (iC 37 l)))])):=by
 refine bE Tryz.func32 rfl Tryz.ntmps32 rfl aA rfl fun N9 w9 c0 h0=>?_
 refine sq ?_;refine rl ?_;refine o1 ?_;refine o1 ?_;refine nl ?_;refine sq ?_;refine rl ?_;refine o1 ?_;refine o1 ?_
 refine ca (Dx hl hn) MX ⟨a1 rfl,a1 rfl,rfl⟩ (.tup [.one (tv (.string (aC (cQ 37 l)))),.one (tv (.bool (iC 37 l)))]) ?_;(iterate 4 refine o1 ?_);refine nl ?_;refine rt ?_
 exact en (.inl rfl) rfl (cV (.cons (aN _) (.cons (aN _) .nil))) (by decide) (fun _=>⟨trivial,trivial,trivial⟩) rfl
theorem Dz {l:List Nat}(hl:Lim 256 l) (hn:l.length≤1000000000):aD true Tryz.prog 128 [] [.one (tv (.string (aC l))),.one (tv (.string ⟨#[46]⟩))] (aL (.one (tv (.bool (iC 46 l))))):=by
 refine bE Tryz.func128 rfl Tryz.ntmps128 rfl aA rfl fun N9 w9 c0 h0=>?_
 refine sq ?_;refine rl ?_;refine o1 ?_;refine nl ?_;refine sq ?_;refine rl ?_;refine o1 ?_;refine o1 ?_
 refine WL.cast (t:=6) (u':=.int .i64 ((l.length:Nat):Int)) rfl (congrArg (fun n:Nat=>Value.int .i64 (n:Int)) (aG _)) ?_
 refine o1 ?_;refine o1 ?_;refine WL.cast (t:=8) (u':=.int .i64 ((1:Nat):Int)) rfl rfl ?_;refine o1 ?_;refine o1 ?_;refine WL.split (t:=10) rfl (fun h1=>?_) (fun h1=>?_)
 ·(iterate 3 refine o1 ?_);refine WL.cast (t:=13) (u':=.int .i64 ((l.length:Nat):Int)) rfl (congrArg (fun n:Nat=>Value.int .i64 (n:Int)) (aG _)) ?_
  refine o1 ?_;refine o1 ?_;refine WL.cast (t:=15) (u':=.int .i64 ((1:Nat):Int)) rfl rfl ?_;refine o1 ?_
  refine WL.cast (t:=16) (u':=.int .i64 ((l.length-1:Nat):Int)) rfl (aH (by omega)) ?_
  refine o1 ?_ (hC:=(by rw[aG];omega))
  refine WL.cast (t:=17) (u':=.string (aC (l.drop (l.length-1)))) rfl (congrArg Value.string (hJ _ _)) ?_;refine o1 ?_;refine o1 ?_
  refine WL.cast (t:=19) (u':=.bool (iC 46 l)) rfl (congrArg Value.bool (Wk (c:=46) (by omega) hl)) ?_
  refine o1 ?_;refine o1 ?_;refine nl ?_;refine rt ?_;exact mE (.inl rfl) rfl (rfl)
 (iterate 9 refine cL ?_);refine o1 ?_;refine o1 ?_;refine nl ?_;refine rt ?_;exact mE (.inl rfl) rfl (Wl (by omega))
theorem Br {l:List Nat}(hl:Lim 256 l) (hn:l.length≤1000000000):aD true Tryz.prog 111 [] [.one (tv (.string (aC l))),.one (tv (.string ⟨#[46]⟩))] (aL (.one (tv (.string (aC (cQ 46 l)))))):=by
 refine bE Tryz.func111 rfl Tryz.ntmps111 rfl aA rfl fun N9 w9 c0 h0=>?_
 refine sq ?_;refine rl ?_;refine o1 ?_;refine nl ?_;refine sq ?_;refine sq ?_;refine rl ?_;refine o1 ?_;refine o1 ?_
 refine ca (Dz hl hn) Wj ⟨a1 rfl,a1 rfl,rfl⟩ (.one (tv (.bool (iC 46 l)))) ?_;refine nl ?_;refine jV rfl (fun h1=>?_) (fun h1=>?_)
 ·refine sq ?_;have h9:=Pc h1
  refine rl ?_;(iterate 3 refine o1 ?_);refine WL.cast (t:=10) (u':=.int .i64 ((l.length:Nat):Int)) rfl (congrArg (fun n:Nat=>Value.int .i64 (n:Int)) (aG _)) ?_
  refine o1 ?_;refine o1 ?_;refine WL.cast (t:=12) (u':=.int .i64 ((1:Nat):Int)) rfl rfl ?_;refine o1 ?_
  refine WL.cast (t:=13) (u':=.int .i64 ((l.length-1:Nat):Int)) rfl (aH (by omega)) ?_
  refine o1 ?_ (hC:=(by rw[aG];omega))
  refine WL.cast (t:=14) (u':=.string (aC (l.take (l.length-1)))) rfl (congrArg Value.string ((hG l 0 (l.length-1)).trans rfl)) ?_;refine o1 ?_;refine nl ?_;refine rt ?_
  exact en (.inl rfl) rfl (aR (aN _)) (by decide) (fun _=>trivial) (congrArg (fun z=>FV.one (tv (.string z))) (congrArg aC (sN h1)))
 refine sk ?_;refine sq ?_;refine rl ?_;refine o1 ?_;refine o1 ?_;refine nl ?_;refine rt ?_
 exact en (.inl rfl) rfl (aR (aN _)) (by decide) (fun _=>trivial) (congrArg (fun z=>FV.one (tv (.string z))) (congrArg aC (Wm h1)))
theorem Bs {l:List Nat}(hl:Lim 256 l) (hn:l.length≤1000000000):aD true Tryz.prog 57 [] [.one (tv (.string (aC l))),.one (tv (.string ⟨#[46]⟩))] (aL (.one (tv (.string (aC (cQ 46 l)))))):=by
 refine bE Tryz.func57 rfl Tryz.ntmps57 rfl aA rfl fun N9 w9 c0 h0=>?_
 refine sq ?_;refine rl ?_;refine o1 ?_;refine nl ?_;refine sq ?_;refine rl ?_;refine o1 ?_;refine o1 ?_
 refine ca (Br hl hn) JL ⟨a1 rfl,a1 rfl,rfl⟩ (.one (tv (.string (aC (cQ 46 l))))) ?_;refine o1 ?_;refine nl ?_;refine rt ?_
 exact en (.inl rfl) rfl (aR (aN _)) (by decide) (fun _=>trivial) (congrArg (fun z=>FV.one (tv (.string z))) (rfl))
end Go.Proofs.YtcaakamelngceaaGreatDoor
