/- Part 10 of a proof: G3 to U1. -/
import Derived.Test.YtcaakamelngceaaGreatDoorM9
import Derived.Test.YtcaakamelngceaaGreatDoorM7
import Derived.Test.YtcaakamelngceaaGreatDoorM4
import Derived.Shelf.Strings.Repeat
import Derived.Shelf.Bits.Mul64
import Derived.Test.YtcaakamelngceaaGreatDoorProg
set_option maxRecDepth 100000
set_option linter.unusedVariables false
set_option linter.unusedSimpArgs false
namespace Go.Proofs.YtcaakamelngceaaGreatDoor
open Go Go.RowKit
theorem lI (xs:List Nat):((aR xs).map AV.t).take (aR xs).length=(aR xs).map .t:=List.take_of_length_le (by simp)
theorem oZ {a b:Zi}{k k':Int}(ha:Zg a k) (hb:Zg b k') (hz0:k'≠0):aE true Tryz.prog 158 [] [gF a,gF b] (aM (.tup [kO (k.fdiv k'),kO (k.fmod k'),.one (tv (.int .i64 0))])):=by
 refine bD Tryz.func158 rfl Tryz.ntmps158 rfl aA rfl fun N w c0 h0=>?_
 have hkl:=ha.len
 have hkl':=hb.len
 have hq:(dg 4294967296 (k.natAbs/k'.natAbs)).length≤300000000000:=Nat.le_trans (dG (Nat.div_le_self _ _)) hkl
 have hr0:=Nat.mod_lt k.natAbs (show 0<k'.natAbs by omega)
 have hrl:(dg 4294967296 (k.natAbs%k'.natAbs)).length≤300000000000:=Nat.le_trans (dG (Nat.le_of_lt hr0)) hkl'
 refine sq ?_;refine rl ?_;refine bx 0 ?_;refine bx 1 ?_;refine al 2 ?_;refine al 3 ?_;refine o1 ?_;refine nl ?_
 refine md (γ:=Unit) (fun _=>cD [(4,.one (.pt 0 0)),(5,.one (.pt 1 0)),(6,.one (tv (.int .i64 ((0:Nat):Int)))),(7,.one (.pt 2 0)),(8,.one (.pt 3 0))]) (fun _=>([⟨25,0,[tv (.bool false),tv (.slice none 0 0)]⟩,⟨25,0,[tv (.bool false),tv (.slice none 0 0)]⟩,⟨155,0,[tv (.bool (aL k)),.t (sU false (dg 4294967296 k.natAbs))]⟩,⟨155,0,[tv (.bool (aL k')),.t (sU false (dg 4294967296 k'.natAbs))]⟩]:List Ob).map some) (fun _=>True) ?_ fun _ _=>?_
 ·refine rd [0,1,2,3] (fun i=>[7].contains i) mixed ?_
  refine aU 0 ?_;refine aU 2 ?_;refine WO.three (i:=1) (j:=4) (m:=5) (by kernel_rfl) ?_ ?_ ?_
  ·refine cZ 1 rfl (dK ha) cP ⟨aB rfl,rfl⟩ (kF (k)) ?_;refine WO.three (i:=3) (j:=4) (m:=5) (by kernel_rfl) ?_ ?_ ?_
   ·refine cZ 3 rfl (dK hb) cP ⟨aB rfl,rfl⟩ (kF (k')) ?_;refine WO.two (i:=4) (j:=5) (by kernel_rfl) ?_ ?_
    ·refine bV (key:=4) 4 rfl rfl aA rfl ⟨rfl,rfl,rfl,rfl,trivial⟩ ?_;refine eP (key:=5) 5 (by kernel_rfl) rfl rfl aA rfl ⟨rfl,rfl,rfl,rfl,trivial⟩ ?_
     refine aT 6 (by kernel_rfl) rfl rfl aA rfl rfl rfl rfl ⟨rfl,rfl,rfl,rfl,trivial⟩ ?_
     refine dst 7 ?_;refine aS ?_;exact⟨(),trivial,aO h0 [2,3,4,5] _ _ (by decide) ⟨rfl,rfl,rfl,rfl,rfl,trivial⟩ ⟨oe rfl rfl,oe rfl rfl,oe rfl rfl,oe rfl rfl,rfl⟩⟩
    refine bV (key:=4) 5 rfl rfl aA rfl ⟨rfl,rfl,rfl,rfl,trivial⟩ ?_;refine eP (key:=5) 4 (by kernel_rfl) rfl rfl aA rfl ⟨rfl,rfl,rfl,rfl,trivial⟩ ?_
    refine aT 6 (by kernel_rfl) rfl rfl aA rfl rfl rfl rfl ⟨rfl,rfl,rfl,rfl,trivial⟩ ?_
    refine dst 7 ?_;refine aS ?_;exact⟨(),trivial,aO h0 [2,3,5,4] _ _ (by decide) ⟨rfl,rfl,rfl,rfl,rfl,trivial⟩ ⟨oe rfl rfl,oe rfl rfl,oe rfl rfl,oe rfl rfl,rfl⟩⟩
   ·refine bV (key:=4) 4 rfl rfl aA rfl ⟨rfl,rfl,rfl,rfl,trivial⟩ ?_;refine WO.two (i:=3) (j:=5) (by kernel_rfl) ?_ ?_
    ·refine cZ 3 rfl (dK hb) cP ⟨aB rfl,rfl⟩ (kF (k')) ?_;refine eP (key:=5) 5 (by kernel_rfl) rfl rfl aA rfl ⟨rfl,rfl,rfl,rfl,trivial⟩ ?_
     refine aT 6 (by kernel_rfl) rfl rfl aA rfl rfl rfl rfl ⟨rfl,rfl,rfl,rfl,trivial⟩ ?_
     refine dst 7 ?_;refine aS ?_;exact⟨(),trivial,aO h0 [2,3,4,5] _ _ (by decide) ⟨rfl,rfl,rfl,rfl,rfl,trivial⟩ ⟨oe rfl rfl,oe rfl rfl,oe rfl rfl,oe rfl rfl,rfl⟩⟩
    refine bV (key:=5) 5 rfl rfl aA rfl ⟨rfl,rfl,rfl,rfl,trivial⟩ ?_;refine aG 3 rfl (dK hb) cP ⟨aB rfl,rfl⟩ (kF (k')) ?_
    refine aT 6 (by kernel_rfl) rfl rfl aA rfl rfl rfl rfl ⟨rfl,rfl,rfl,rfl,trivial⟩ ?_
    refine dst 7 ?_;refine aS ?_;exact⟨(),trivial,aO h0 [2,3,4,5] _ _ (by decide) ⟨rfl,rfl,rfl,rfl,rfl,trivial⟩ ⟨oe rfl rfl,oe rfl rfl,oe rfl rfl,oe rfl rfl,rfl⟩⟩
   refine bV (key:=4) 5 rfl rfl aA rfl ⟨rfl,rfl,rfl,rfl,trivial⟩ ?_;refine WO.two (i:=3) (j:=4) (by kernel_rfl) ?_ ?_
   ·refine cZ 3 rfl (dK hb) cP ⟨aB rfl,rfl⟩ (kF (k')) ?_;refine eP (key:=5) 4 (by kernel_rfl) rfl rfl aA rfl ⟨rfl,rfl,rfl,rfl,trivial⟩ ?_
    refine aT 6 (by kernel_rfl) rfl rfl aA rfl rfl rfl rfl ⟨rfl,rfl,rfl,rfl,trivial⟩ ?_
    refine dst 7 ?_;refine aS ?_;exact⟨(),trivial,aO h0 [2,3,5,4] _ _ (by decide) ⟨rfl,rfl,rfl,rfl,rfl,trivial⟩ ⟨oe rfl rfl,oe rfl rfl,oe rfl rfl,oe rfl rfl,rfl⟩⟩
   refine bV (key:=5) 4 rfl rfl aA rfl ⟨rfl,rfl,rfl,rfl,trivial⟩ ?_;refine aG 3 rfl (dK hb) cP ⟨aB rfl,rfl⟩ (kF (k')) ?_
   refine aT 6 (by kernel_rfl) rfl rfl aA rfl rfl rfl rfl ⟨rfl,rfl,rfl,rfl,trivial⟩ ?_
   refine dst 7 ?_;refine aS ?_;exact⟨(),trivial,aO h0 [2,3,5,4] _ _ (by decide) ⟨rfl,rfl,rfl,rfl,rfl,trivial⟩ ⟨oe rfl rfl,oe rfl rfl,oe rfl rfl,oe rfl rfl,rfl⟩⟩
  ·refine bV (key:=4) 4 rfl rfl aA rfl ⟨rfl,rfl,rfl,rfl,trivial⟩ ?_;refine WO.two (i:=1) (j:=5) (by kernel_rfl) ?_ ?_
   ·refine cZ 1 rfl (dK ha) cP ⟨aB rfl,rfl⟩ (kF (k)) ?_;refine WO.two (i:=3) (j:=5) (by kernel_rfl) ?_ ?_
    ·refine cZ 3 rfl (dK hb) cP ⟨aB rfl,rfl⟩ (kF (k')) ?_;refine eP (key:=5) 5 (by kernel_rfl) rfl rfl aA rfl ⟨rfl,rfl,rfl,rfl,trivial⟩ ?_
     refine aT 6 (by kernel_rfl) rfl rfl aA rfl rfl rfl rfl ⟨rfl,rfl,rfl,rfl,trivial⟩ ?_
     refine dst 7 ?_;refine aS ?_;exact⟨(),trivial,aO h0 [2,3,4,5] _ _ (by decide) ⟨rfl,rfl,rfl,rfl,rfl,trivial⟩ ⟨oe rfl rfl,oe rfl rfl,oe rfl rfl,oe rfl rfl,rfl⟩⟩
    refine bV (key:=5) 5 rfl rfl aA rfl ⟨rfl,rfl,rfl,rfl,trivial⟩ ?_;refine aG 3 rfl (dK hb) cP ⟨aB rfl,rfl⟩ (kF (k')) ?_
    refine aT 6 (by kernel_rfl) rfl rfl aA rfl rfl rfl rfl ⟨rfl,rfl,rfl,rfl,trivial⟩ ?_
    refine dst 7 ?_;refine aS ?_;exact⟨(),trivial,aO h0 [2,3,4,5] _ _ (by decide) ⟨rfl,rfl,rfl,rfl,rfl,trivial⟩ ⟨oe rfl rfl,oe rfl rfl,oe rfl rfl,oe rfl rfl,rfl⟩⟩
   refine bV (key:=5) 5 rfl rfl aA rfl ⟨rfl,rfl,rfl,rfl,trivial⟩ ?_;refine aG 1 rfl (dK ha) cP ⟨aB rfl,rfl⟩ (kF (k)) ?_
   refine aG 3 rfl (dK hb) cP ⟨aB rfl,rfl⟩ (kF (k')) ?_;refine aT 6 (by kernel_rfl) rfl rfl aA rfl rfl rfl rfl ⟨rfl,rfl,rfl,rfl,trivial⟩ ?_
   refine dst 7 ?_;refine aS ?_;exact⟨(),trivial,aO h0 [2,3,4,5] _ _ (by decide) ⟨rfl,rfl,rfl,rfl,rfl,trivial⟩ ⟨oe rfl rfl,oe rfl rfl,oe rfl rfl,oe rfl rfl,rfl⟩⟩
  refine bV (key:=4) 5 rfl rfl aA rfl ⟨rfl,rfl,rfl,rfl,trivial⟩ ?_;refine WO.two (i:=1) (j:=4) (by kernel_rfl) ?_ ?_
  ·refine cZ 1 rfl (dK ha) cP ⟨aB rfl,rfl⟩ (kF (k)) ?_;refine WO.two (i:=3) (j:=4) (by kernel_rfl) ?_ ?_
   ·refine cZ 3 rfl (dK hb) cP ⟨aB rfl,rfl⟩ (kF (k')) ?_;refine eP (key:=5) 4 (by kernel_rfl) rfl rfl aA rfl ⟨rfl,rfl,rfl,rfl,trivial⟩ ?_
    refine aT 6 (by kernel_rfl) rfl rfl aA rfl rfl rfl rfl ⟨rfl,rfl,rfl,rfl,trivial⟩ ?_
    refine dst 7 ?_;refine aS ?_;exact⟨(),trivial,aO h0 [2,3,5,4] _ _ (by decide) ⟨rfl,rfl,rfl,rfl,rfl,trivial⟩ ⟨oe rfl rfl,oe rfl rfl,oe rfl rfl,oe rfl rfl,rfl⟩⟩
   refine bV (key:=5) 4 rfl rfl aA rfl ⟨rfl,rfl,rfl,rfl,trivial⟩ ?_;refine aG 3 rfl (dK hb) cP ⟨aB rfl,rfl⟩ (kF (k')) ?_
   refine aT 6 (by kernel_rfl) rfl rfl aA rfl rfl rfl rfl ⟨rfl,rfl,rfl,rfl,trivial⟩ ?_
   refine dst 7 ?_;refine aS ?_;exact⟨(),trivial,aO h0 [2,3,5,4] _ _ (by decide) ⟨rfl,rfl,rfl,rfl,rfl,trivial⟩ ⟨oe rfl rfl,oe rfl rfl,oe rfl rfl,oe rfl rfl,rfl⟩⟩
  refine bV (key:=5) 4 rfl rfl aA rfl ⟨rfl,rfl,rfl,rfl,trivial⟩ ?_;refine aG 1 rfl (dK ha) cP ⟨aB rfl,rfl⟩ (kF (k)) ?_
  refine aG 3 rfl (dK hb) cP ⟨aB rfl,rfl⟩ (kF (k')) ?_;refine aT 6 (by kernel_rfl) rfl rfl aA rfl rfl rfl rfl ⟨rfl,rfl,rfl,rfl,trivial⟩ ?_
  refine dst 7 ?_;refine aS ?_;exact⟨(),trivial,aO h0 [2,3,5,4] _ _ (by decide) ⟨rfl,rfl,rfl,rfl,rfl,trivial⟩ ⟨oe rfl rfl,oe rfl rfl,oe rfl rfl,oe rfl rfl,rfl⟩⟩
 refine sq ?_;refine rl ?_;refine o1 ?_;refine o1 ?_;refine ld ?_;refine o1 ?_;refine o1 ?_;refine ld ?_
 have hD:aE true Tryz.prog 174 [] [.one (.t (sU false (dg 4294967296 k.natAbs))),.one (.t (sU false (dg 4294967296 k'.natAbs)))] (aM (.tup [.one (.t (sU true (dg 4294967296 (k.natAbs/k'.natAbs)))),.one (.t (sU true (dg 4294967296 (k.natAbs%k'.natAbs)))),.one (tv (.int .i64 0))])):=by
  have h9:=Ww (aN (by omega) k.natAbs) (aN (by omega) k'.natAbs) (by omega) (by omega) (by rw[bI];omega)
  rwa[bI,bI]at h9
 refine gG 4 hD OI ⟨a1 rfl,a1 rfl,rfl⟩ ?_;(iterate 7 refine o1 ?_);refine nl ?_;refine sq ?_;refine sq ?_;refine rl ?_;refine o1 ?_;refine o1 ?_;refine nl ?_
 refine bN rfl (fun h1=>?_) (fun h1=>?_)
 ·exact absurd rfl h1
 refine sk ?_;refine sq ?_;refine sq ?_;refine rl ?_;refine o1 ?_;refine o1 ?_;refine ld ?_;refine o1 ?_;refine o1 ?_;refine ld ?_;refine o1 ?_;refine o1 ?_
 refine WL.splitb (t:=37) rfl (fun h2=>?_) (fun h2=>?_)
 ·(iterate 4 refine o1 ?_);refine nl ?_;refine bN rfl (fun h3=>?_) (fun h3=>?_)
  ·refine sq ?_;refine rl ?_;refine o1 ?_;refine bs 6 ?_
   have hA:aE true Tryz.prog 165 [] [.one (.t (sU false (dg 4294967296 (k.natAbs/k'.natAbs)))),.one (.t (sU false [1]))] (aM (.one (.t (sU true (dg 4294967296 ((k.natAbs/k'.natAbs)+1)))))):=by
    have h9:=Ou (aN (by omega) (k.natAbs/k'.natAbs)) (Lim.cons (show 1<4294967296 by omega) Lim.nil) (by omega) (by simp)
    rwa[bO (by omega),show vl 4294967296 [1]=1 from rfl]at h9
   refine gG 7 hA vZ ⟨pA rfl (.sl rfl rfl (lI _) (aY _)),pA rfl (.sl (trs:=aR [1]) rfl rfl rfl rfl),rfl⟩ ?_;refine o1 ?_;refine nl ?_;refine rl ?_;refine o1 ?_
   refine o1 ?_;refine ld ?_;refine o1 ?_
   have hS:aE true Tryz.prog 175 [] [.one (.t (sU false (dg 4294967296 k'.natAbs))),.one (.t (sU false (dg 4294967296 (k.natAbs%k'.natAbs))))] (aM (.tup [.one (.t (sU true (dg 4294967296 (k'.natAbs-(k.natAbs%k'.natAbs))))),.one (tv (.int .i64 0))])):=by
    have h9:=Ov (aN (by omega) k'.natAbs) (aN (by omega) (k.natAbs%k'.natAbs)) (by omega) (by rw[bI,bO (by omega)];omega)
    rwa[bI,bO (by omega)]at h9
   refine gG 8 hS Ow ⟨a1 rfl,pA rfl (.sl rfl rfl (lI _) (aY _)),rfl⟩ ?_;(iterate 4 refine o1 ?_);refine nl ?_;refine sq ?_
   have hd:k.fdiv k'=bJ (aL k != aL k') ((k.natAbs/k'.natAbs)+1)∧k.fmod k'=bJ (aL k') (k'.natAbs-(k.natAbs%k'.natAbs)):=by
    have h9:aL k≠aL k':=by simpa using h2
    have h7:k.natAbs%k'.natAbs≠0:=by have h5:=kZ (m:=(k.natAbs%k'.natAbs)) rfl;rw[decide_eq_true (by omega)]at h5;have h6:=of_decide_eq_true h5.symm;omega
    have h8:=DK (a:=k) (b:=k') hz0 h9 h7
    rw[h2];exact h8
   refine rd [1,2,3,6] (fun i=>[15,16].contains i) mixed ?_
   refine dv 0 ?_;refine dv 1 ?_;refine aU 2 ?_;refine dv 3 ?_;refine dv 4 ?_;refine aU 5 ?_;refine dv 6 ?_;refine dv 7 ?_;refine dv 9 ?_;refine dv 10 ?_;refine aU 11 ?_
   refine dv 12 ?_
   refine yV 8 9 [7] rfl (gH (b:=(aL k != aL k')) (m:=((k.natAbs/k'.natAbs)+1)) (K:=(k.fdiv k')) hd.1.symm) kQ ⟨cM rfl,rfl⟩ ⟨rfl,rfl,rfl⟩ ⟨rfl,rfl,rfl,rfl,trivial⟩ ?_
   refine yV 13 10 [8] rfl (gH (b:=(aL k')) (m:=(k'.natAbs-(k.natAbs%k'.natAbs))) (K:=(k.fmod k')) hd.2.symm) kQ ⟨cM rfl,rfl⟩ ⟨rfl,rfl,rfl⟩ ⟨rfl,rfl,rfl,rfl,trivial⟩ ?_
   refine aT 14 (by kernel_rfl) rfl rfl aA rfl rfl rfl rfl ⟨rfl,rfl,rfl,rfl,trivial⟩ ?_
   refine dst 15 ?_;refine cV 16 (by kernel_rfl) rfl rfl aA rfl (by trivial) ?_ (fun h=>by first | rfl | cases h)
   refine aS ?_;refine rt ?_
   exact en (.inl rfl) rfl (gP (.cons (.agg (.cons (.id rfl) (.cons (.sl (trs:=aR (dg 4294967296 ((k.fdiv k')).natAbs)) rfl rfl (bG _) (aY _)) .nil))) (.cons (.agg (.cons (.id rfl) (.cons (.sl (trs:=aR (dg 4294967296 ((k.fmod k')).natAbs)) rfl rfl (bG _) (aY _)) .nil))) (.cons (aP (.int .i64 0)) .nil)))) (by decide) (fun _=>⟨dZ (k.fdiv k'),dZ (k.fmod k'),trivial,trivial⟩) rfl
  refine sk ?_;refine sq ?_;have hd:k.fdiv k'=bJ (aL k != aL k') (k.natAbs/k'.natAbs)∧k.fmod k'=bJ (aL k') (k.natAbs%k'.natAbs):=by
   have h9:aL k≠aL k':=by simpa using h2
   have h7:k.natAbs%k'.natAbs=0:=by have h5:=kZ (m:=(k.natAbs%k'.natAbs)) rfl;rw[decide_eq_false (by omega)]at h5;have h6:=of_decide_eq_false h5.symm;omega
   have h8:=DL (a:=k) (b:=k') hz0 h9 h7
   rw[h2];exact h8
  refine rd [1,2,3] (fun i=>[15,16].contains i) mixed ?_
  refine dv 0 ?_;refine dv 1 ?_;refine aU 2 ?_;refine dv 3 ?_;refine dv 4 ?_;refine aU 5 ?_;refine dv 6 ?_;refine dv 7 ?_;refine dv 9 ?_;refine dv 10 ?_;refine aU 11 ?_
  refine dv 12 ?_
  refine yV 8 6 [4] rfl (gH (b:=(aL k != aL k')) (m:=(k.natAbs/k'.natAbs)) (K:=(k.fdiv k')) hd.1.symm) kQ ⟨cM rfl,rfl⟩ ⟨rfl,rfl,rfl⟩ ⟨rfl,rfl,rfl,trivial⟩ ?_
  refine yV 13 7 [5] rfl (gH (b:=(aL k')) (m:=(k.natAbs%k'.natAbs)) (K:=(k.fmod k')) hd.2.symm) kQ ⟨cM rfl,rfl⟩ ⟨rfl,rfl,rfl⟩ ⟨rfl,rfl,rfl,trivial⟩ ?_
  refine aT 14 (by kernel_rfl) rfl rfl aA rfl rfl rfl rfl ⟨rfl,rfl,rfl,trivial⟩ ?_
  refine dst 15 ?_;refine cV 16 (by kernel_rfl) rfl rfl aA rfl (by trivial) ?_ (fun h=>by first | rfl | cases h)
  refine aS ?_;refine rt ?_
  exact en (.inl rfl) rfl (gP (.cons (.agg (.cons (.id rfl) (.cons (.sl (trs:=aR (dg 4294967296 ((k.fdiv k')).natAbs)) rfl rfl (bG _) (aY _)) .nil))) (.cons (.agg (.cons (.id rfl) (.cons (.sl (trs:=aR (dg 4294967296 ((k.fmod k')).natAbs)) rfl rfl (bG _) (aY _)) .nil))) (.cons (aP (.int .i64 0)) .nil)))) (by decide) (fun _=>⟨dZ (k.fdiv k'),dZ (k.fmod k'),trivial,trivial⟩) rfl
 (iterate 3 refine cG ?_);refine o1 ?_;refine nl ?_;refine fD rfl ?_;refine sk ?_;refine sq ?_
 have hd:k.fdiv k'=bJ (aL k != aL k') (k.natAbs/k'.natAbs)∧k.fmod k'=bJ (aL k') (k.natAbs%k'.natAbs):=by
  have h9:aL k=aL k':=by simpa using h2
  have h8:=DM (a:=k) (b:=k') hz0 h9
  rw[h2];exact h8
 refine rd [1,2,3] (fun i=>[15,16].contains i) mixed ?_
 refine dv 0 ?_;refine dv 1 ?_;refine aU 2 ?_;refine dv 3 ?_;refine dv 4 ?_;refine aU 5 ?_;refine dv 6 ?_;refine dv 7 ?_;refine dv 9 ?_;refine dv 10 ?_;refine aU 11 ?_
 refine dv 12 ?_
 refine yV 8 6 [4] rfl (gH (b:=(aL k != aL k')) (m:=(k.natAbs/k'.natAbs)) (K:=(k.fdiv k')) hd.1.symm) kQ ⟨cM rfl,rfl⟩ ⟨rfl,rfl,rfl⟩ ⟨rfl,rfl,rfl,trivial⟩ ?_
 refine yV 13 7 [5] rfl (gH (b:=(aL k')) (m:=(k.natAbs%k'.natAbs)) (K:=(k.fmod k')) hd.2.symm) kQ ⟨cM rfl,rfl⟩ ⟨rfl,rfl,rfl⟩ ⟨rfl,rfl,rfl,trivial⟩ ?_
 refine aT 14 (by kernel_rfl) rfl rfl aA rfl rfl rfl rfl ⟨rfl,rfl,rfl,trivial⟩ ?_
 refine dst 15 ?_;refine cV 16 (by kernel_rfl) rfl rfl aA rfl (by trivial) ?_ (fun h=>by first | rfl | cases h)
 refine aS ?_;refine rt ?_
 exact en (.inl rfl) rfl (gP (.cons (.agg (.cons (.id rfl) (.cons (.sl (trs:=aR (dg 4294967296 ((k.fdiv k')).natAbs)) rfl rfl (bG _) (aY _)) .nil))) (.cons (.agg (.cons (.id rfl) (.cons (.sl (trs:=aR (dg 4294967296 ((k.fmod k')).natAbs)) rfl rfl (bG _) (aY _)) .nil))) (.cons (aP (.int .i64 0)) .nil)))) (by decide) (fun _=>⟨dZ (k.fdiv k'),dZ (k.fmod k'),trivial,trivial⟩) rfl
theorem Bh {α:Type}{f:α→List Tr}{z:Nat}(hf:∀x,(f x).length=z):∀{xs:List α}{k:Nat}{x:α},xs[k]? =some x→((xs.flatMap f).drop (k*z)).take z=f x
 | [],_,_,h=>by simp at h
 | y::xs,0,x,h=>by
  simp at h
  subst h
  rw[Nat.zero_mul,List.drop_zero,List.flatMap_cons,List.take_append_of_le_length (by rw[hf];exact Nat.le_refl _),List.take_of_length_le (by rw[hf];exact Nat.le_refl _)]
 | y::xs,k+1,x,h=>by
  rw[List.getElem?_cons_succ]at h
  have e:(f y++xs.flatMap f).drop z=xs.flatMap f:=by rw[←hf y];simp
  rw[List.flatMap_cons,Nat.succ_mul,Nat.add_comm,←List.drop_drop,e]
  exact Bh hf h
theorem pB {α:Type}{f:α→List Tr}{z:Nat}(hf:∀x,(f x).length=z):∀(xs:List α),(xs.flatMap f).length=xs.length*z
 | []=>by simp
 | y::xs=>by rw[List.flatMap_cons,List.length_append,hf,pB hf xs,List.length_cons,Nat.succ_mul,Nat.add_comm]
theorem Wx {α:Type}{f:α→List Tr}{z o m:Nat}(hf:∀x,(f x).length=z){xs:List α}{k:Nat}{x:α}(h:xs[k]? =some x) (hm:o+m≤z):((xs.flatMap f).drop (k*z+o)).take m=((f x).drop o).take m:=by
 have e:=Bh hf h
 rw[←List.drop_drop,←e,List.drop_take,List.take_take,Nat.min_eq_left (by omega)]
section
variable {α:Type}{f:α→List Tr}{z:Nat}{xs:List α}{k o:Nat}{x x' y:α}{us:List Tr}
theorem Sd (hf:∀x,(f x).length=z) (h:xs[k]? =some x) (hm:o+us.length≤z) (hu:((f x).drop o).take us.length=us):((xs.flatMap f).drop (k*z+o)).take us.length=us:=by
 rw[Wx hf h hm]
 exact hu
end
def zv (a:Zi):Int:=dD a.s a.x
def ZL (L:Nat) (a:Zi):Prop:=Lim 4294967296 a.x∧a.x.length≤L
theorem ZL.n {L:Nat}{a:Zi}(h:ZL L a) (hL:L≤137438953472):Zn a (zv a):=⟨h.1,Nat.le_trans h.2 hL,rfl⟩
def Se (k:Int):List Nat:=if k<0 then 45::tx k.natAbs else tx k.natAbs
def tV (l:List Nat):Bool:=l.all fun c=>decide (48≤c∧c≤57)
theorem DN {l:List Nat}(h:tV l=true):∀c∈l,48≤c∧c≤57:=by simpa[tV]using h
theorem Sf {l:List Nat}(h:∀c∈l,48≤c∧c≤57):tV l=true:=by simpa[tV]using h
theorem Gb:∀c<256,([48,49,50,51,52,53,54,55,56,57]:List UInt8).contains (UInt8.ofNat c)=decide (48≤c∧c≤57):=by decide+kernel
theorem Lh {l:List Nat}(h:Lim 256 l):((⟨(Lib.trimS (aC l).data.toList [48,49,50,51,52,53,54,55,56,57]).toArray⟩:ByteArray).toList==(⟨#[]⟩:ByteArray).toList)=tV l:=by
 rw[ByteArray.toList_eq,ByteArray.toList_eq,Bool.eq_iff_iff,beq_iff_eq]
 show Lib.trimS _ _=[]↔_
 rw[Sg,iU]
 unfold tV
 rw[List.all_eq_true]
 refine⟨fun g c hc=>?_,fun g x hx=>?_⟩
 ·rw[←Gb c (h c hc)]
  exact g _ (List.mem_map.2 ⟨c,hc,rfl⟩)
 obtain⟨c,hc,rfl⟩:=List.mem_map.1 hx
 rw[Gb c (h c hc)]
 exact g c hc
def kE (l:List Nat):Bool:=decide (l=[])||(!decide (l=[48])&&decide (nth l 0=48))|| !tV l
def tW (l:List Nat):Int:=if kE l then 60 else if 4096<l.length then 3 else 0
def Li (l:List Nat):Nat:=if tW l=0 then bX l else 0
theorem OJ {l:List Nat}(h:decide (l=[])=true):kE l=true:=by simp[kE,h]
theorem OK {l:List Nat}(h:decide (l=[48])=false) (h2:nth l 0=48):kE l=true:=by simp[kE,h,h2]
theorem Ox {l:List Nat}(h:tV l=false):kE l=true:=by simp[kE,h]
theorem yW {l:List Nat}(h0:decide (l=[])=false) (h:decide (l=[48])=true∨¬nth l 0=48) (h2:tV l=true):kE l=false:=by
 rcases h with h | h <;> simp[kE,h0,h,h2]
theorem Es {l:List Nat}(h:kE l=true):tW l=60:=by simp[tW,h]
theorem IG {l:List Nat}(h:kE l=false) (h2:4096<l.length):tW l=3:=by simp[tW,h,h2]
theorem Wy {l:List Nat}(h:kE l=false) (h2:¬4096<l.length):tW l=0:=by simp[tW,h,h2]
theorem Oy {l:List Nat}(h:tW l=0):Li l=bX l:=if_pos h
theorem wA {l:List Nat}(h:¬tW l=0):Li l=0:=if_neg h
theorem Si {l:List Nat}(h:kE l=false):∀c∈l,48≤c∧c≤57:=by
 refine DN ?_
 cases hq:tV l with
 | true=>rfl
 | false=>rw[Ox hq]at h;cases h
theorem Gc (m:List Nat):∀n:Nat,m.foldl (fun n c=>n*10+(c-48)) n=n*10^m.length+bX m:=by
 induction m with
 | nil=>intro n;simp[bX]
 | cons c m ih=>
  intro n
  have e:bX (c::m)=(0*10+(c-48))*10^m.length+bX m:=ih _
  rw[List.foldl_cons,ih,e,List.length_cons,Nat.pow_succ,Nat.zero_mul,Nat.zero_add,Nat.add_mul,Nat.mul_assoc,Nat.mul_comm 10,Nat.add_assoc]
theorem wB (l m:List Nat):bX (l++m)=bX l*10^m.length+bX m:=by
 show(l++m).foldl _ 0=_
 rw[List.foldl_append,Gc]
 rfl
theorem pX {l:List Nat}{j f:Nat}(h:j+f≤l.length) (hf:j=0∨f=9):bX (l.take j)*1000000000+bX ((l.drop j).take f)=bX (l.take (j+f)):=by
 rw[List.take_add,wB,List.length_take,List.length_drop,Nat.min_eq_left (by omega)]
 rcases hf with rfl | rfl
 ·simp[bX]
 rfl
theorem DO {l:List Nat}(h:∀c∈l,48≤c∧c≤57){j:Nat}(hj:j≤l.length):bX (l.take j)<4294967296^j:=Nat.lt_of_lt_of_le (Et h hj) (Nat.pow_le_pow_left (by omega) j)
theorem rA {l:List Nat}(h:∀c∈l,48≤c∧c≤57){j:Nat}(hj:j≤l.length):(dg 4294967296 (bX (l.take j))).length≤j:=bQ (by omega) (DO h hj)
theorem sH {l:List Nat}(h:∀c∈l,48≤c∧c≤57) (j f:Nat):∀c∈(l.drop j).take f,48≤c∧c≤57:=fun c hc=>h c (List.mem_of_mem_drop (List.mem_of_mem_take hc))
theorem sJ {l:List Nat}(h:∀c∈l,48≤c∧c≤57){j f:Nat}(hj:j+f≤l.length) (hf:f≤9):bX ((l.drop j).take f)<1000000000:=
 Nat.lt_of_lt_of_le (Et (l:=l.drop j) (k:=f) (fun c hc=>h c (List.mem_of_mem_drop hc)) (by rw[List.length_drop];omega)) (Nat.le_trans (Nat.pow_le_pow_right (by omega) hf) (by decide))
theorem DP (ds:List Nat):bX (dL ds).reverse=vl 10 ds:=by
 induction ds with
 | nil=>rfl
 | cons d ds ih=>
  have e:(dL (d::ds)).reverse=(dL ds).reverse++[48+d]:=by simp[dL]
  rw[e,wB,ih]
  simp[bX,vl]
  omega
theorem IH (v:Nat):bX (tx v)=v:=by
 unfold tx
 split
 ·rename_i h;subst h;rfl
 rw[DP,bO (by omega)]
theorem yX (v:Nat):∀c∈tx v,48≤c∧c≤57:=by
 unfold tx
 split
 ·intro c hc
  simp at hc
  omega
 intro c hc
 rw[List.mem_reverse]at hc
 obtain⟨d,hd,rfl⟩:=List.mem_map.1 hc
 have:=aN (B:=10) (by omega) v d hd
 omega
theorem DQ {v:Nat}(h:v≠0):nth (tx v) 0≠48:=by
 have e:=Oz (l:=dg 10 v) (v:=v) (aN (by omega) v) (bO (by omega) v)
 rw[if_neg h]at e
 have e2:tx v=(dL (dg 10 v)).reverse:=by unfold tx;rw[if_neg h]
 rw[←e2]at e
 have h2:=oI v
 generalize tx v=L at e h2
 cases L with
 | nil=>exact absurd rfl h2
 | cons x l=>
  intro h3
  have h4:x=48:=h3
  subst h4
  have h5:=(List.dropWhile_sublist (· ==48) (l:=l)).length_le
  rw[List.dropWhile_cons,if_pos (by rfl)]at e
  rw[e,List.length_cons]at h5
  omega
theorem DR (v:Nat):kE (tx v)=false:=by
 by_cases h:v=0
 ·subst h;rfl
 exact yW (decide_eq_false (oI v)) (.inr (DQ h)) (Sf (yX v))
def aI (l:List Nat):List Nat:=if l.take 1=[45]then l.drop 1 else l
theorem Wz {v:Nat}(h:(dg 4294967296 v).length≤1000000):(dg 10 v).length≤10000000:=by
 have h1:=nB (B:=4294967296) (n:=v) (by omega)
 have h2:v<10^(10*(dg 4294967296 v).length):=Nat.lt_of_lt_of_le h1 (by rw[Nat.pow_mul];exact Nat.pow_le_pow_left (by omega) _)
 have:=bQ (B:=10) (by omega) h2
 omega
theorem yY {u m:Nat}(h:(dg 4294967296 u).length≤1099511627776) (hm:m<4294967296):aE true Tryz.prog 166 [] [.one (.t (sU false (dg 4294967296 u))),.one (tv (.int .u32 (m:Int)))] (aM (.one (.t (sU true (dg 4294967296 (u*m)))))):=by
 have h1:=yZ (aN (by omega) u) h hm
 rwa[bO (by omega)]at h1
theorem zA {u x:Nat}(h:(dg 4294967296 u).length≤1099511627776) (hx:x<4294967296):aE true Tryz.prog 165 [] [.one (.t (sU false (dg 4294967296 u))),.one (.t (sU false [x]))] (aM (.one (.t (sU true (dg 4294967296 (u+x)))))):=by
 have h1:=Ou (aN (by omega) u) (Lim.cons hx Lim.nil) h (by simp)
 rw[bO (by omega)]at h1
 have e:vl 4294967296 [x]=x:=by simp[vl]
 rwa[e]at h1
def eW (c:Nat):Bool:=decide (48≤c∧c≤57)
def dH (l:List Nat):Bool:=decide (l.take 1=[45])
def gB (l:List Nat):Bool:=decide (l.take 1=[46])
def wh (m:List Nat):List Nat:=m.takeWhile eW
def cE (m:List Nat):List Nat:=m.dropWhile eW
def iR (l:List Nat):List Nat:=if l.take 1=[46]then l.drop 1 else l
theorem Eu {l:List Nat}(h:gB l=true):iR l=l.drop 1:=if_pos (of_decide_eq_true h)
theorem OL {l:List Nat}(h:gB l=false):iR l=l:=if_neg (of_decide_eq_false h)
def pl (m:List Nat):List Nat:=if gB (cE m)then(iR (cE m)).takeWhile eW else []
def rr (m:List Nat):List Nat:=if gB (cE m)then(iR (cE m)).dropWhile eW else cE m
def wZ (l:List Nat):Bool:=l.all fun c=>decide (c=48)
def uK (m:List Nat):Bool:=wZ (wh m++pl m)
def gI (m:List Nat):Bool:= !(gB (cE m)&&decide (pl m=[]))&&(decide (rr m=[])&&(!decide (wh m=[])&&(decide (wh m=[48])|| !decide (nth (wh m) 0=48))))
def gW (l:List Nat):Bool:=gI (aI l)&& !(dH l&&uK (aI l))
def dJ (l:List Nat) (most:Nat):Int:=if gW l=true∧(pl (aI l)).length≤most then(if 40<(wh (aI l)).length+(pl (aI l)).length then 3 else 0)else 60
def rB (l:List Nat):Rat:=Rat.divInt (bJ (dH l) (bX (wh (aI l)++pl (aI l)))) ((10^(pl (aI l)).length:Nat):Int)
def cC (l:List Nat) (most:Nat):Rat:=if dJ l most=0 then rB l else 0
theorem uL {c:Nat}(h:eW c=true):48≤c∧c≤57:=of_decide_eq_true h
theorem Sj (p:Nat→Bool) (m:List Nat):∀c∈m.takeWhile p,p c=true:=fun c hc=>by
 induction m with
 | nil=>simp at hc
 | cons x m ih=>
  rw[List.takeWhile_cons]at hc
  split at hc
  ·rcases List.mem_cons.1 hc with rfl | hc
   ·assumption
   exact ih hc
  cases hc
theorem Bi (m:List Nat):∀c∈wh m,48≤c∧c≤57:=fun c hc=>uL (Sj eW m c hc)
theorem Bj (m:List Nat):∀c∈pl m,48≤c∧c≤57:=fun c hc=>by
 unfold pl at hc
 split at hc
 ·exact uL (Sj eW _ c hc)
 cases hc
theorem Pa (m:List Nat):∀c∈wh m++pl m,48≤c∧c≤57:=fun c hc=>(List.mem_append.1 hc).elim (Bi m c) (Bj m c)
theorem mI (m:List Nat):wh m++cE m=m:=List.takeWhile_append_dropWhile
theorem Xa {l:List Nat}(h:gB l=true):l=46::l.drop 1:=by
 have h:=of_decide_eq_true h
 cases l with
 | nil=>simp at h
 | cons x l=>simp at h;simp[h]
theorem uM {m:List Nat}(h:gB (cE m)=true):cE m=46::(pl m++rr m):=by
 have h1:=Xa h
 unfold pl rr
 rw[if_pos h,if_pos h,List.takeWhile_append_dropWhile,Eu h]
 exact h1
theorem Ew {m:List Nat}(h:gB (cE m)=false):rr m=cE m:=by unfold rr;rw[h];rfl
theorem nD {m:List Nat}(h:gB (cE m)=false):pl m=[]:=by unfold pl;rw[h];rfl
theorem nL {m:List Nat}(h:gI m=true):m=wh m++(if gB (cE m)then 46::pl m else [])∧wh m≠[]:=by
 unfold gI at h
 simp only[Bool.and_eq_true,Bool.not_eq_true',decide_eq_true_eq,decide_eq_false_iff_not]at h
 obtain⟨_,h2,h3,_⟩:=h
 refine⟨?_,h3⟩
 conv=>lhs;rw[←mI m]
 congr 1
 cases hp:gB (cE m)with
 | true=>rw[uM hp,h2,List.append_nil];rfl
 | false=>rw[←Ew hp,h2];rfl
theorem pY (l:List Nat):l=(if dH l then [45]else [])++aI l:=by
 unfold dH aI
 by_cases h:l.take 1=[45]
 ·rw[if_pos h,decide_eq_true h]
  cases l with
  | nil=>simp at h
  | cons x l=>simp at h;simp[h]
 rw[if_neg h,decide_eq_false h];rfl
def b1 (m:List Nat):Bool:=decide ((wh m).length=0)||(decide (1<(wh m).length)&&decide (nth m 0=48))
def b2 (m:List Nat):Bool:=gB (cE m)&&decide ((pl m).length=0)
theorem SG {m:List Nat}(h:wh m≠[]):nth (wh m) 0=nth m 0:=by
 have h2:=mI m
 cases hq:wh m with
 | nil=>exact absurd hq h
 | cons x w=>rw[hq]at h2;rw[←h2];rfl
theorem AH (m:List Nat):gI m=(!b1 m&&(!b2 m&&decide (rr m=[]))):=by
 unfold gI b1 b2
 by_cases h0:wh m=[]
 ·simp[h0]
 have e1:decide (wh m=[48])=(decide ((wh m).length=1)&&decide (nth m 0=48)):=by
  rw[←SG h0]
  cases hq:wh m with
  | nil=>exact absurd hq h0
  | cons x w=>
   cases w with
   | nil=>simp[nth]
   | cons y w=>simp
 have e2:(wh m).length≠0:=fun h=>h0 (List.eq_nil_of_length_eq_zero h)
 rw[e1,SG h0]
 have e3:decide ((pl m).length=0)=decide (pl m=[]):=decide_eq_decide.2 List.length_eq_zero_iff
 rw[e3]
 by_cases h1:nth m 0=48 <;> by_cases h2:(wh m).length=1 <;> cases gB (cE m) <;> by_cases h3:pl m=[] <;> by_cases h4:rr m=[] <;> simp[h0,h1,h2,h3,h4,e2] <;> omega
def sD (l:List Nat):Nat:=l.foldl (fun n c=>if c=46 then n else if c=45 then n else n*10+(c-48)) 0
def sP (l:List Nat):Int:=l.foldl (fun p c=>if c=46 then 0 else if c=45 then p else if 0≤p then p+1 else p) (-1)
theorem Gd {l:List Nat}(h:∀c∈l,48≤c∧c≤57) (n:Nat):l.foldl (fun n c=>if c=46 then n else if c=45 then n else n*10+(c-48)) n=l.foldl (fun n c=>n*10+(c-48)) n:=by
 induction l generalizing n with
 | nil=>rfl
 | cons c l ih=>
  have hc:=h c (by simp)
  rw[List.foldl_cons,List.foldl_cons,if_neg (by omega),if_neg (by omega)]
  exact ih (fun c hc=>h c (by simp[hc])) _
theorem Ge {l:List Nat}(h:∀c∈l,48≤c∧c≤57) (p:Int):l.foldl (fun p c=>if c=46 then 0 else if c=45 then p else if 0≤p then p+1 else p) p=if 0≤p then p+l.length else p:=by
 induction l generalizing p with
 | nil=>simp
 | cons c l ih=>
  have hc:=h c (by simp)
  rw[List.foldl_cons,if_neg (by omega),if_neg (by omega),ih (fun c hc=>h c (by simp[hc]))]
  by_cases hp:0≤p
  ·rw[if_pos hp,if_pos (by omega),if_pos hp,List.length_cons]
   omega
  rw[if_neg hp,if_neg hp,if_neg hp]
theorem OM {l:List Nat}(h:gI (aI l)=true):sD l=bX (wh (aI l)++pl (aI l)):=by
 have e1:=pY l
 obtain⟨e2,_⟩:=nL h
 have key:∀m w p:List Nat,(∀c∈w,48≤c∧c≤57)→(∀c∈p,48≤c∧c≤57)→∀b:Bool,(m=w++(if b then 46::p else []))→(b=false→p=[])→∀s:Bool,sD ((if s then [45]else [])++m)=bX (w++p):=by
  intro m w p hw hp b hm hb s
  subst hm
  have:sD ((if s then [45]else [])++(w++(if b then 46::p else [])))=sD (w++(if b then 46::p else [])):=by cases s <;> rfl
  rw[this]
  unfold sD bX
  rw[List.foldl_append,Gd hw,List.foldl_append]
  cases b with
  | true=>
   show List.foldl _ _ (46::p)=_
   rw[List.foldl_cons,if_pos rfl,Gd hp]
  | false=>rw[hb rfl];rfl
 rw[e1]
 have h9:=key (aI l) _ _ (Bi _) (Bj _) _ e2 (fun h=>nD h) (dH l)
 rw[←e1]
 rw[←e1]at h9
 exact h9
theorem ON {l:List Nat}(h:gI (aI l)=true):max 0 (sP l)=((pl (aI l)).length:Int):=by
 have e1:=pY l
 obtain⟨e2,_⟩:=nL h
 have key:∀m w p:List Nat,(∀c∈w,48≤c∧c≤57)→(∀c∈p,48≤c∧c≤57)→∀b:Bool,(m=w++(if b then 46::p else []))→(b=false→p=[])→∀s:Bool,max 0 (sP ((if s then [45]else [])++m))=(p.length:Int):=by
  intro m w p hw hp b hm hb s
  subst hm
  have:sP ((if s then [45]else [])++(w++(if b then 46::p else [])))=sP (w++(if b then 46::p else [])):=by cases s <;> rfl
  rw[this]
  unfold sP
  rw[List.foldl_append,Ge hw,if_neg (by omega)]
  cases b with
  | true=>
   show max 0 (List.foldl _ _ (46::p))=_
   rw[List.foldl_cons,if_pos rfl,Ge hp,if_pos (by omega)]
   omega
  | false=>rw[hb rfl];rfl
 have h9:=key (aI l) _ _ (Bi _) (Bj _) _ e2 (fun h=>nD h) (dH l)
 rwa[←e1]at h9
def iZ (c:Nat):Bool:=decide (c=45)||(decide (c=46)|| decide (c=48))
theorem II {l:List Nat}(h:gI (aI l)=true):(dH l&&l.all iZ)=(dH l&&uK (aI l)):=by
 have e1:=pY l
 obtain⟨e2,_⟩:=nL h
 cases hn:dH l with
 | false=>rfl
 | true=>
  rw[hn]at e1
  have hall:∀x:List Nat,(∀c∈x,48≤c∧c≤57)→x.all iZ=wZ x:=fun x hx=>by
   unfold wZ
   rw[Bool.eq_iff_iff,List.all_eq_true,List.all_eq_true]
   refine forall_congr' fun c=>forall_congr' fun hc=>?_
   have:=hx c hc
   unfold iZ
   simp only[Bool.or_eq_true,decide_eq_true_eq]
   omega
  rw[Bool.true_and,Bool.true_and,e1]
  have e3:aI (([45]:List Nat)++aI l)=aI l:=rfl
  show(([45]:List Nat)++aI l).all iZ=uK (aI l)
  rw[List.all_append]
  have e4:([45]:List Nat).all iZ=true:=rfl
  rw[e4,Bool.true_and]
  conv=>lhs;rw[e2]
  unfold uK wZ
  rw[List.all_append,List.all_append,hall _ (Bi _)]
  unfold wZ
  congr 1
  cases hp:gB (cE (aI l))with
  | false=>rw[nD hp];rfl
  | true=>
   show(46::pl (aI l)).all iZ=_
   rw[List.all_cons,hall _ (Bj _)]
   rfl
theorem DS {l:List Nat}(hl:Lim 256 l):Lim 256 (aI l):=by
 unfold aI
 split
 ·exact mJ hl 1
 exact hl
theorem Bk {l:List Nat}:(aI l).length≤l.length:=by
 unfold aI
 split
 ·rw[List.length_drop];omega
 exact Nat.le_refl _
theorem OO (p:Nat→Bool) (l:List Nat):l.take (l.length-(l.dropWhile p).length)=l.takeWhile p:=by
 have h:l.takeWhile p++l.dropWhile p=l:=List.takeWhile_append_dropWhile
 have h2:=congrArg List.length h
 rw[List.length_append]at h2
 have e:l.length-(l.dropWhile p).length=(l.takeWhile p).length:=by omega
 rw[e]
 have h3:=List.take_left (l₁:=l.takeWhile p) (l₂:=l.dropWhile p)
 rwa[h]at h3
theorem IJ {B:Nat}{p:Nat→Bool}{l:List Nat}(h:Lim B l):Lim B (l.takeWhile p):=fun x hx=>h x ((List.takeWhile_sublist p).subset hx)
theorem Bl {B:Nat}{l:List Nat}(h:Lim B l):Lim B (iR l):=by
 unfold iR
 split
 ·exact mJ h 1
 exact h
theorem DT {l:List Nat}:(iR l).length≤l.length:=by
 unfold iR
 split
 ·rw[List.length_drop];omega
 exact Nat.le_refl _
theorem zB {m:List Nat}:Lim 256 (wh m):=fun c hc=>by have:=Bi m c hc;omega
theorem IK {m:List Nat}:Lim 256 (pl m):=fun c hc=>by have:=Bj m c hc;omega
theorem zC (m:List Nat):(wh m).length≤m.length:=(List.takeWhile_sublist _).length_le
theorem DU (m:List Nat):(cE m).length≤m.length:=(List.dropWhile_sublist _).length_le
theorem uN (m:List Nat):(wh m).length+(pl m).length≤m.length:=by
 have h1:=congrArg List.length (mI m)
 rw[List.length_append]at h1
 cases hp:gB (cE m)with
 | true=>
  have h2:=congrArg List.length (uM hp)
  rw[List.length_cons,List.length_append]at h2
  omega
 | false=>rw[nD hp,List.length_nil];omega
def mD (l:List Nat):List Nat:=if l.dropWhile (· ==48)=[]then [48]else l.dropWhile (· ==48)
theorem Gf {l:List Nat}:bX (l.dropWhile (· ==48))=bX l:=by
 induction l with
 | nil=>rfl
 | cons c l ih=>
  rw[List.dropWhile_cons]
  split
  ·rename_i h
   have h:c=48:=by simpa using h
   subst h
   rw[ih]
   show _=List.foldl _ _ (48::l)
   rw[List.foldl_cons]
   rfl
  rfl
theorem DV {l:List Nat}(h:Lim 256 l):Lim 256 (mD l):=by
 unfold mD
 split
 ·exact Lim.cons (by omega) Lim.nil
 exact lJ h
theorem Lj {l:List Nat}:(mD l).length≤l.length+1:=by
 unfold mD
 split
 ·show 1≤_;omega
 exact Nat.le_trans (List.dropWhile_sublist _).length_le (by omega)
theorem IL {l:List Nat}(h:∀c∈l,48≤c∧c≤57) (hn:l.length≤4000):tW (mD l)=0∧Li (mD l)=bX l:=by
 have hg:kE (mD l)=false:=by
  unfold mD
  split
  ·rfl
  rename_i h0
  refine yW (decide_eq_false h0) (.inr fun h1=>?_) (Sf fun c hc=>h c ((List.dropWhile_sublist _).subset hc))
  have h2:=List.head?_dropWhile_not (· ==48) l
  cases hq:l.dropWhile (· ==48)with
  | nil=>exact h0 hq
  | cons x w=>
   rw[hq]at h1 h2
   have h3:x=48:=h1
   subst h3
   simp at h2
 have e:=Wy hg (by have:=Lj (l:=l);omega)
 refine⟨e,?_⟩
 rw[Oy e]
 unfold mD
 split
 ·rename_i h0
  rw[←Gf (l:=l),h0];rfl
 exact Gf
theorem DW (n:Bool) (v:Nat):dD n (dg 4294967296 v)=bJ n v:=by
 cases n with
 | false=>exact mK v
 | true=>
  by_cases h:v=0
  ·subst h;rw[fR];rfl
  have h2:=rC (-(v:Int))
  have e1:aL (-(v:Int))=true:=decide_eq_true (by omega)
  rw[e1,Int.natAbs_neg,Int.natAbs_natCast]at h2
  rw[h2];rfl
def Qn (a:Fr4) (p:Rat):Prop:=a.ok∧a.q=p
section
variable {a:Fr4}{p q:Rat}{k k':Int}{L M:Nat}
theorem Gg (h:Qn a p):Zn ⟨a.s,a.x⟩ (dD a.s a.x):=⟨h.1.1,by have:=h.1.2.2.1;dsimp only;omega,rfl⟩
theorem sK (h:Qn a p):Zn ⟨a.t,a.y⟩ (dD a.t a.y):=⟨h.1.2.1,by have:=h.1.2.2.2;dsimp only;omega,rfl⟩
theorem eA (h:Sz L p) (hL:L≤137438953472:=by omega):Zn (.of p.num) p.num:=.of (Nat.le_trans h.1 hL)
theorem cN (h:Sz L p) (hL:L≤137438953472:=by omega):Zn ⟨false,dg 4294967296 p.den⟩ (p.den:Int):=⟨aN (by omega) _,Nat.le_trans h.2 hL,mK p.den⟩
theorem Qn.sz (h:Qn a p):Sz 68719476736 p:=by
 obtain⟨⟨h1,h2,h3,h4⟩,rfl⟩:=h
 exact IM h1 h2 h3 h4 (by omega)
theorem Qn.of (h:Sz L p) (hL:L≤68719476736:=by omega):Qn (.of p) p:=⟨⟨aN (by omega) _,aN (by omega) _,Nat.le_trans h.1 hL,Nat.le_trans h.2 hL⟩,Fr4.q_of p⟩
theorem Qn.right (h:Qn a p) (hr:dC a.s a.x a.t a.y=true):Fr4.of p=a:=by
 obtain⟨⟨l1,l2,_,_⟩,rfl⟩:=h
 obtain⟨h1,h2,h3,h4⟩:=uO hr
 have e1:=Lk hr
 have e2:=Ll hr
 have e3:=wC l1 h1
 have e4:=oN l1 h1
 have e5:=wC l2 h2
 have e6:=oN l2 h2
 rw[←e1]at e3 e4
 rw[←e2]at e5 e6
 rw[wD]at e5
 rw[Int.natAbs_natCast]at e6
 unfold Fr4.of Fr4.q
 rw[e3,e4,e5,e6]
theorem Qn.wrong (h:Qn a p) (hr:dC a.s a.x a.t a.y=false):p=0:=by
 obtain⟨_,rfl⟩:=h
 exact Di hr
theorem wE (hn:q.num=k) (hd:(q.den:Int)=k'):FV.agg [tv (.bool (aL k)),.t (sU false (dg 4294967296 k.natAbs)),tv (.bool (aL k')),.t (sU false (dg 4294967296 k'.natAbs))]=qF (.of q):=by
 subst hn hd
 have e:aL (q.den:Int)=false:=by unfold aL;exact decide_eq_false (by omega)
 rw[e]
 rfl
theorem Xb (k k':Int):decide ((k-k').sign=0)=decide (k=k'):=by
 rw[decide_eq_decide,Int.sign_eq_zero_iff_zero]
 omega
theorem Bm (h0:k'≠0):(dg 4294967296 (((Int.gcd k k':Nat):Int)).natAbs).length≤(dg 4294967296 k'.natAbs).length:=by
 rw[Int.natAbs_natCast]
 exact dG (Nat.le_of_dvd (by omega) (Int.gcd_dvd_natAbs_right k k'))
theorem nM {n:Int}(h1:-9223372036854775808≤n) (h2:n≤9223372036854775807):(dg 4294967296 n.natAbs).length≤2:=bQ (by omega) (by omega)
theorem Gh {a b:Int}(h0:b≠0):(0<b→(Rat.divInt a b).num=a.fdiv (Int.gcd a b)∧((Rat.divInt a b).den:Int)=b.fdiv (Int.gcd a b))∧(b<0→(Rat.divInt a b).num=(-a).fdiv (Int.gcd (-a) (-b))∧((Rat.divInt a b).den:Int)=(-b).fdiv (Int.gcd (-a) (-b))):=by
 refine⟨fun h=>mL h,fun h=>?_⟩
 rw[←Rat.neg_divInt_neg]
 exact mL (by omega)
theorem zD {a b:Int}(h:b≠0):((Int.gcd a b:Nat):Int)≠0:=by
 have:=Int.gcd_pos_of_ne_zero_right a h
 omega
theorem Lm (n:Nat):decide ((n:Int)=1)=(n==1):=by
 by_cases h:n=1
 ·subst h;rfl
 rw[beq_eq_false_iff_ne.2 h,decide_eq_false (by omega)]
end
def SS:Fr4:=⟨false,[],false,[]⟩
def gQ (xs:List Fr4) (k:Nat):Fr4:=xs.getD k SS
theorem sL {xs:List Fr4}{k:Nat}(h:k<xs.length):xs[k]? =some (gQ xs k):=by simp[gQ,h]
theorem hG {xs:List Fr4}{k:Nat}(h:k<xs.length):gQ xs k∈xs:=List.mem_of_getElem? (sL h)
def sQ (o:Bool) (xs:List Fr4):Tr:=.s o 33 4 xs.length (xs.flatMap (Fr4.tr o))
theorem Gi (xs:List Fr4){k:Nat}(h:k<xs.length):((xs.flatMap (Fr4.tr false)).drop (k*4)).take ((gQ xs k).tr false).length=(gQ xs k).tr false:=Bh (f:=Fr4.tr false) (fun _=>rfl) (sL h)
section
variable {xs:List Fr4}{k:Nat}
theorem zE (h:k<xs.length):(xs.take (k+1)).map Fr4.q=(xs.take k).map Fr4.q++[(gQ xs k).q]:=by rw[List.take_add_one,sL h];simp
end
section
variable {vs:List (Int×Rat)}{k:Nat}
end
def lK (l:List Rat):Rat:=l.foldl (· + ·) 0
theorem Sk (l:List Rat) (q:Rat):lK (l++[q])=lK l+q:=by simp[lK]
def fl (q:Rat):Int:=q.floor
theorem mM (q:Rat):q.num.fdiv (q.den:Int)=fl q:=by
 unfold fl
 rw[Rat.floor_def,Int.fdiv_eq_ediv_of_nonneg _ (by omega)]
theorem AI (q:Rat):q*(q.den:Rat)=(q.num:Rat):=by
 have h:=Rat.num_divInt_den q
 have h2:Rat.divInt q.num (q.den:Int)=(q.num:Rat)/((q.den:Int):Rat):=Rat.divInt_eq_div _ _
 have h3:((q.den:Int):Rat)=(q.den:Rat):=rfl
 have h4:(q.den:Rat)≠0:=by
  have:=q.den_pos
  intro h
  have:q.den=0:=by exact_mod_cast h
  omega
 rw[h2,h3]at h
 have h6:(q.num:Rat)/(q.den:Rat)*(q.den:Rat)=(q.num:Rat):=Rat.div_mul_cancel h4
 rwa[h]at h6
theorem qN (a b:Int) (hb:b≠0):Rat.divInt a b*(b:Rat)=(a:Rat):=by
 rw[Rat.divInt_eq_div,Rat.div_def,Rat.mul_assoc,Rat.inv_mul_cancel _ (by simpa using hb),Rat.mul_one]
theorem wF {a b c:Rat}(hc:c≠0) (h:a*c=b*c):a=b:=by
 have h2:=congrArg (· *c⁻¹) h
 simpa only[Rat.mul_assoc,Rat.mul_inv_cancel c hc,Rat.mul_one]using h2
theorem IN (z:Int):fl (z:Rat)=z:=Rat.floor_intCast z
theorem DX {q:Rat}(h:q.den=1):((q.num:Int):Rat)=q:=by
 have:=AI q
 rw[h]at this
 rw[←this]
 simp
theorem DY {p q:Rat}(h:p≤q):fl p≤fl q:=Rat.floor_monotone h
theorem Pb (p q:Rat):Rat.divInt (p.num*(q.den:Int)) ((p.den:Int)*q.num)=p/q:=by
 have e:=Rat.num_divInt_den q
 have e2:=Rat.num_divInt_den p
 conv=>rhs;rw[←e,←e2]
 rw[Rat.div_def,Rat.inv_divInt,Rat.divInt_mul_divInt]
def pd (n:Nat):Nat→List Nat
 | 0=>[]
 | d+1=>pd (n/10) d++[48+n%10]
theorem lL:∀(d n:Nat),(pd n d).length=d
 | 0,_=>rfl
 | d+1,n=>by rw[pd,List.length_append,lL d];rfl
theorem Pc:∀(d n:Nat),∀c∈pd n d,48≤c∧c≤57
 | 0,_=>by intro c hc;cases hc
 | d+1,n=>by
  intro c hc
  rw[pd]at hc
  rcases List.mem_append.1 hc with h | h
  ·exact Pc d _ c h
  rw[List.mem_singleton]at h
  omega
theorem Sl:∀(d n:Nat),bX (pd n d)=n%10^d
 | 0,n=>by rw[Nat.pow_zero,Nat.mod_one];rfl
 | d+1,n=>by
  rw[pd,wB,Sl d]
  have e:bX [48+n%10]=n%10:=by simp[bX]
  rw[e,Nat.pow_succ,Nat.mul_comm (10^d) 10,Nat.mod_mul]
  show n/10%10^d*10+n%10=_
  omega
theorem Bn {n:Nat}(h:10≤n):tx n=tx (n/10)++[48+n%10]:=by
 unfold tx
 rw[if_neg (by omega),if_neg (by omega),lG (by omega) (by omega)]
 simp[dL]
theorem Gj {n:Nat}(h:n<10):tx n=[48+n]:=by
 unfold tx
 split
 ·rename_i h0;subst h0;rfl
 rw[lG (by omega) (by omega),show n/10=0 by omega,fR,show n%10=n by omega];rfl
theorem Gk:∀(d n:Nat),List.replicate (d+1-(tx n).length) 48++tx n=tx (n/10^d)++pd n d
 | 0,n=>by
  have:1≤(tx n).length:=List.length_pos_iff.2 (oI n)
  rw[show 0+1-(tx n).length=0 by omega,Nat.pow_zero,Nat.div_one,pd,List.append_nil]
  rfl
 | d+1,n=>by
  rw[pd,←List.append_assoc,Nat.pow_succ,Nat.mul_comm,←Nat.div_div_eq_div_mul,←Gk d (n/10)]
  rcases Nat.lt_or_ge n 10 with h | h
  ·rw[Gj h,show n/10=0 by omega,Gj (n:=0) (by omega),show n%10=n by omega]
   show List.replicate (d+1) 48++_=List.replicate d 48++[48]++_
   rw[List.replicate_succ']
  rw[Bn h,List.length_append,List.append_assoc]
  show List.replicate (d+1+1-((tx (n/10)).length+1)) 48++_=_
  rw[show d+1+1-((tx (n/10)).length+1)=d+1-(tx (n/10)).length by omega]
def wr (n d:Nat):List Nat:=tx (n/10^d)++(if d=0 then []else 46::pd n d)
def pt (z:Int) (d:Nat):List Nat:=if z<0 then 45::wr z.natAbs d else wr z.natAbs d
theorem Sm {l m:List Nat}(h:∀c∈l,48≤c∧c≤57) (hm:∀c,m.head?=some c→eW c=false):(l++m).takeWhile eW=l∧(l++m).dropWhile eW=m:=by
 induction l with
 | nil=>
  cases m with
  | nil=>exact⟨rfl,rfl⟩
  | cons c m=>
   have:=hm c rfl
   simp[this]
 | cons x l ih=>
  have hx:eW x=true:=decide_eq_true (h x (by simp))
  have h2:=ih (fun c hc=>h c (by simp[hc]))
  simp[hx,h2.1,h2.2]
theorem sM (n d:Nat):wh (wr n d)=tx (n/10^d)∧pl (wr n d)=pd n d∧rr (wr n d)=[]∧gB (cE (wr n d))= !decide (d=0):=by
 have h1:=Sm (l:=tx (n/10^d)) (m:=if d=0 then []else 46::pd n d) (yX _) (by
  intro c hc
  split at hc
  ·cases hc
  injection hc with hc
  subst hc
  rfl)
 have h2:cE (wr n d)=if d=0 then []else 46::pd n d:=h1.2
 have h3:wh (wr n d)=tx (n/10^d):=h1.1
 refine⟨h3,?_⟩
 by_cases h0:d=0
 ·subst h0
  rw[if_pos rfl]at h2
  have hp:gB (cE (wr n 0))=false:=by rw[h2];rfl
  exact⟨nD hp,(Ew hp).trans h2,hp⟩
 rw[if_neg h0]at h2
 have hp:gB (cE (wr n d))=true:=by rw[h2];rfl
 have h4:=Sm (l:=pd n d) (m:=[]) (Pc d n) (by intro c hc;cases hc)
 rw[List.append_nil]at h4
 refine⟨?_,?_,by rw[hp,decide_eq_false h0];rfl⟩
 ·unfold pl
  rw[if_pos hp,Eu hp,h2]
  exact h4.1
 unfold rr
 rw[if_pos hp,Eu hp,h2]
 exact h4.2
theorem Sn (n d:Nat):bX (wh (wr n d)++pl (wr n d))=n:=by
 obtain⟨h1,h2,_,_⟩:=sM n d
 rw[h1,h2,wB,IH,Sl,lL]
 exact Nat.div_add_mod' n (10^d)
theorem IP (n d:Nat):gI (wr n d)=true:=by
 obtain⟨h1,h2,h3,h4⟩:=sM n d
 have hg:=DR (n/10^d)
 unfold gI
 rw[h1,h2,h3,h4]
 unfold kE at hg
 simp only[Bool.or_eq_false_iff,Bool.and_eq_false_iff,Bool.not_eq_false',decide_eq_true_eq,decide_eq_false_iff_not]at hg
 obtain⟨⟨g1,g2⟩,_⟩:=hg
 have e1:(!decide (d=0)&&decide (pd n d=[]))=false:=by
  by_cases h0:d=0
  ·simp[h0]
  have:pd n d≠[]:=fun h=>h0 (by rw[←lL d n,h];rfl)
  simp[this]
 rw[e1]
 rcases g2 with g2 | g2
 ·simp[g1,g2]
 simp[g1,g2]
theorem Ln {l:List Nat}(h:∀c∈l,48≤c∧c≤57):wZ l=decide (bX l=0):=by
 induction l with
 | nil=>rfl
 | cons c l ih=>
  have e:wZ (c::l)=(decide (c=48)&&wZ l):=rfl
  have e2:bX (c::l)=(c-48)*10^l.length+bX l:=by
   show List.foldl _ _ (c::l)=_
   rw[List.foldl_cons,Gc]
   simp
  have hc:=h c (by simp)
  have hp:0<10^l.length:=Nat.pow_pos (by omega)
  rw[e,ih (fun c hc=>h c (by simp[hc])),e2,←Bool.decide_and]
  refine decide_eq_decide.2 ⟨fun h=>by rw[h.1,h.2];simp,fun h=>?_⟩
  have h3:bX l=0:=by omega
  have h4:(c-48)*10^l.length=0:=by omega
  rcases Nat.mul_eq_zero.1 h4 with h5 | h5
  ·exact⟨by omega,h3⟩
  omega
theorem DZ (n d:Nat):∃c,(wr n d).take 1=[c]∧48≤c∧c≤57:=by
 have h:=yX (n/10^d)
 have h2:=oI (n/10^d)
 unfold wr
 cases hq:tx (n/10^d)with
 | nil=>exact absurd hq h2
 | cons x w=>exact⟨x,rfl,h x (by rw[hq];simp)⟩
theorem xO (z:Int) (d:Nat):dH (pt z d)=decide (z<0)∧aI (pt z d)=wr z.natAbs d:=by
 unfold pt
 by_cases h:z<0
 ·rw[if_pos h,decide_eq_true h]
  exact⟨rfl,rfl⟩
 rw[if_neg h,decide_eq_false h]
 obtain⟨c,h1,h2,h3⟩:=DZ z.natAbs d
 have h4:¬(wr z.natAbs d).take 1=[45]:=by
  rw[h1]
  intro e
  injection e with e
  omega
 exact⟨decide_eq_false h4,if_neg h4⟩
theorem OP (z:Int) (d:Nat):gW (pt z d)=true:=by
 obtain⟨h1,h2⟩:=xO z d
 unfold gW
 rw[h1,h2,IP,Bool.true_and]
 have e:uK (wr z.natAbs d)=decide (z.natAbs=0):=by
  unfold uK
  rw[Ln (Pa _),Sn]
 rw[e,←Bool.decide_and]
 simp
 omega
theorem IQ (z:Int) (d:Nat):rB (pt z d)=Rat.divInt z ((10^d:Nat):Int):=by
 obtain⟨h1,h2⟩:=xO z d
 unfold rB
 rw[h1,h2,Sn,(sM z.natAbs d).2.1,lL]
 congr 1
 unfold bJ
 by_cases h:z<0
 ·rw[decide_eq_true h]
  simp
  omega
 rw[decide_eq_false h]
 simp
 omega
theorem Xc (z:Int) (d most:Nat):dJ (pt z d) most=if d≤most then(if 40<(tx (z.natAbs/10^d)).length+d then 3 else 0)else 60:=by
 obtain⟨h1,h2⟩:=xO z d
 obtain⟨h3,h4,_,_⟩:=sM z.natAbs d
 unfold dJ
 rw[OP,h2,h3,h4,lL]
 simp
def hal (q:Rat):Int:=if(q.den:Int)<2*q.num.fmod (q.den:Int)∨((q.den:Int)=2*q.num.fmod (q.den:Int)∧q.num.fdiv (q.den:Int)%2≠0)then q.num.fdiv (q.den:Int)+1 else q.num.fdiv (q.den:Int)
theorem IR (q:Rat):q.num=(q.den:Int)*q.num.fdiv (q.den:Int)+q.num.fmod (q.den:Int)∧0≤q.num.fmod (q.den:Int)∧q.num.fmod (q.den:Int)<(q.den:Int):=by
 have hd:(0:Int)<(q.den:Int):=by have:=q.den_pos;omega
 exact⟨(Int.mul_fdiv_add_fmod _ _).symm,Int.fmod_nonneg_of_pos _ hd,Int.fmod_lt_of_pos _ hd⟩
theorem Pd {a d f r:Int}(hd:0<d) (h:a=d*f+r) (h0:0≤r) (h1:r<d):a.fdiv d=f∧a.fmod d=r:=by
 have e1:a.fdiv d=f:=by
  rw[Int.fdiv_eq_ediv_of_nonneg _ (Int.le_of_lt hd),h,Int.add_comm,Int.add_mul_ediv_left _ _ (by omega),Int.ediv_eq_zero_of_lt h0 h1,Int.zero_add]
 refine⟨e1,?_⟩
 have h2:=Int.mul_fdiv_add_fmod a d
 rw[e1]at h2
 omega
theorem Lo (q:Rat):hal (-q)=-hal q:=by
 obtain⟨h1,h2,h3⟩:=IR q
 have hd:(0:Int)<(q.den:Int):=by have:=q.den_pos;omega
 unfold hal
 rw[Rat.neg_num,Rat.neg_den]
 generalize q.num.fdiv (q.den:Int)=f at*
 generalize q.num.fmod (q.den:Int)=r at*
 generalize (q.den:Int)=d at*
 by_cases h0:r=0
 ·subst h0
  obtain⟨e1,e2⟩:=Pd (a:=-q.num) (f:=-f) (r:=0) hd (by rw[h1,Int.mul_neg];omega) (by omega) hd
  rw[e1,e2,if_neg (by omega),if_neg (by omega)]
 obtain⟨e1,e2⟩:=Pd (a:=-q.num) (f:=-f-1) (r:=d-r) hd (by rw[h1,Int.mul_sub,Int.mul_neg];omega) (by omega) (by omega)
 rw[e1,e2]
 by_cases h4:d<2*r
 ·rw[if_neg (by omega),if_pos (by omega)];omega
 by_cases h5:d=2*r
 ·by_cases h6:f%2=0
  ·rw[if_pos (by omega),if_neg (by omega)];omega
  rw[if_neg (by omega),if_pos (by omega)];omega
 rw[if_pos (by omega),if_neg (by omega)];omega
theorem Bo (z:Int):hal (z:Rat)=z:=by
 unfold hal
 rw[Rat.num_intCast,Rat.den_intCast]
 obtain⟨e1,e2⟩:=Pd (a:=z) (d:=((1:Nat):Int)) (f:=z) (r:=0) (by omega) (by omega) (by omega) (by omega)
 rw[e1,e2,if_neg (by omega)]
theorem Gl (q:Rat):2*((hal q:Int):Rat)-2*q≤1∧2*q-2*((hal q:Int):Rat)≤1:=by
 obtain⟨h1,h2,h3⟩:=IR q
 have hd:(0:Rat)<(q.den:Rat):=by have:=q.den_pos;exact_mod_cast this
 have hq:q*(q.den:Rat)=(q.num:Rat):=AI q
 have hh:2*((q.den:Int)*hal q)-2*q.num≤(q.den:Int)∧2*q.num-2*((q.den:Int)*hal q)≤(q.den:Int):=by
  unfold hal
  split
  ·rw[Int.mul_add]
   omega
  omega
 generalize hal q=H at*
 have c1:(2*((H:Int):Rat)-2*q)*(q.den:Rat)≤1*(q.den:Rat):=by
  have:=(Rat.intCast_le_intCast).2 hh.1
  push_cast at this
  grind
 have c2:(2*q-2*((H:Int):Rat))*(q.den:Rat)≤1*(q.den:Rat):=by
  have:=(Rat.intCast_le_intCast).2 hh.2
  push_cast at this
  grind
 exact⟨Rat.le_of_mul_le_mul_right c1 hd,Rat.le_of_mul_le_mul_right c2 hd⟩
theorem Lp {p q:Rat}(h:0<(p-q).num.sign):q<p:=by
 have h1:=xP.1 (Int.sign_pos_iff.1 h)
 grind
theorem Gm {p q:Rat}(h:q<p):0<(p-q).num.sign:=Int.sign_pos_iff.2 (xP.2 (by grind))
theorem Bp (k:Nat):(dg 4294967296 (10^k)).length≤k+1:=bQ (by omega) (Nat.lt_of_le_of_lt (Nat.pow_le_pow_left (show 10≤4294967296 by omega) k) (Nat.pow_lt_pow_right (by omega) (by omega)))
theorem Gn {l:List Nat}(h:∀c∈l,48≤c∧c≤57):(dg 4294967296 (bX l)).length≤l.length:=by
 have h1:=rA h (Nat.le_refl l.length)
 rwa[List.take_length]at h1
def aD (n:Int):Nat:=(max 0 (min n 40)).toNat
def aX (q:Rat) (d:Nat):List Nat:=pt (hal (q*((10^d:Nat):Rat))) d
def IS (lt:Nat→Nat→Bool) (x:Nat):List Nat→List Nat
 | []=>[x]
 | y::l=>if lt x y then y::IS lt x l else x::y::l
def VX (lt:Nat→Nat→Bool) (l:List Nat):List Nat:=l.foldl (fun a x=>IS lt x a) []
def OQ (lt:Nat→Nat→Bool) (l:List Nat):List Nat:=(VX lt l).reverse
def nN (f:Nat→Rat) (i k:Nat):Bool:=decide (f k<f i)||(decide (f k=f i)&&decide (i<k))
section
variable {f:Nat→Rat}{x y z:Nat}
theorem Bq:nN f x y=true↔f y<f x∨(f y=f x∧x<y):=by simp[nN]
theorem So:nN f x y=false↔f x≤f y∧(f y=f x→y≤x):=by
 have h:nN f x y=false↔¬nN f x y=true:=by simp
 rw[h,Bq]
 constructor
 ·intro h
  exact⟨by grind,fun e=>by rcases Nat.lt_or_ge x y with h9 | h9;exact absurd (Or.inr ⟨e,h9⟩) h;exact h9⟩
 rintro⟨h1,h2⟩ (h3 | ⟨h3,h4⟩)
 ·grind
 have:=h2 h3
 omega
theorem Xd (h:nN f x y=true):nN f y x=false:=by
 rw[Bq]at h
 rw[So]
 rcases h with h | ⟨h,h2⟩
 ·exact⟨by grind,fun e=>by grind⟩
 exact⟨by grind,fun _=>by omega⟩
theorem IT (h:nN f x y=false) (h2:nN f y z=false):nN f x z=false:=by
 rw[So]at h h2⊢
 refine⟨by grind,fun e=>?_⟩
 have h3:f y=f x:=by grind
 have h4:f z=f y:=by grind
 have:=h.2 h3
 have:=h2.2 h4
 omega
theorem IU (h:nN f x y=true) (h2:nN f y z=true):nN f x z=true:=by
 cases h3:nN f x z
 ·have h4:=IT (Xd h) h3
  rw[h2]at h4
  cases h4
 rfl
end
def Sp (f:Nat→Rat) (n:Nat):List Nat:=OQ (nN f) (List.range n)
theorem uP {l:List Nat}{k:Nat}(h:k<l.length):l[k]? =some (nth l k):=by simp[nth,h]
section
variable {f:Nat→Rat}{n i s t:Nat}
def Bst (f:Nat→Rat) (n t i:Nat) (b:Int):Prop:=(b=-1∧∀j,j<i→j∈(Sp f n).take t)∨∃m:Nat,b=(m:Int)∧m<i∧m∉(Sp f n).take t∧∀j,j<i→j∉(Sp f n).take t→j≠m→nN f m j=true
theorem Bst.zero:Bst f n t 0 (-1):=.inl ⟨rfl,fun j hj=>absurd hj (Nat.not_lt_zero j)⟩
variable {b:Int}
theorem Bst.first (h:Bst f n t i b) (hg:i∉(Sp f n).take t) (hb:b<0):Bst f n t (i+1) (i:Int):=by
 rcases h with⟨h1,h2⟩ | ⟨m,h1,h2,h3,h4⟩
 ·refine .inr ⟨i,rfl,by omega,hg,fun j hj hn hm=>?_⟩
  exact absurd (h2 j (by omega)) hn
 omega
theorem Bst.more {m:Nat}(h:Bst f n t i (m:Int)) (hg:i∉(Sp f n).take t) (hb:f m<f i):Bst f n t (i+1) (i:Int):=by
 rcases h with⟨h1,h2⟩ | ⟨m',h1,h2,h3,h4⟩
 ·omega
 have e:m=m':=by omega
 subst e
 have h5:nN f i m=true:=Bq.2 (.inl hb)
 refine .inr ⟨i,rfl,by omega,hg,fun j hj hn hm=>?_⟩
 by_cases hj2:j=m
 ·subst hj2
  exact h5
 exact IU h5 (h4 j (by omega) hn hj2)
theorem Bst.lt {m:Nat}(h:Bst f n t i (m:Int)):m<i:=by
 rcases h with⟨h1,h2⟩ | ⟨m',h1,h2,h3,h4⟩ <;> omega
end
section
variable {l:List Rat}{i k t:Nat}
end
section
variable {l:List Rat}{i k:Nat}
end
theorem AJ {l:List Nat}{k:Nat}(h:k<l.length):nth l k∈l:=List.mem_of_getElem? (uP h)
theorem nP {l m:List Nat}{a n:Nat}(h:l.drop a=m):nth m n=nth l (a+n):=by
 subst h
 unfold nth
 rw[List.getD_eq_getElem?_getD,List.getD_eq_getElem?_getD,List.getElem?_drop]
theorem Pe:∀{m:List Nat}{n:Nat},n≤(wh m).length→n<m.length→(eW (nth m n)=true↔n<(wh m).length)
 | [],_,_,h=>by simp at h
 | x::m,0,_,_=>by
  show eW x=true↔_
  unfold wh
  rw[List.takeWhile_cons]
  by_cases h:eW x=true
  ·rw[if_pos h];simp[h]
  rw[if_neg h];simp[h]
 | x::m,n+1,h1,h2=>by
  show eW (nth m n)=true↔_
  have hx:eW x=true:=by
   unfold wh at h1
   rw[List.takeWhile_cons]at h1
   by_cases h:eW x=true
   ·exact h
   rw[if_neg h]at h1;simp at h1
  have e:wh (x::m)=x::wh m:=by unfold wh;rw[List.takeWhile_cons,if_pos hx]
  rw[e,List.length_cons]at h1⊢
  rw[Pe (m:=m) (n:=n) (by omega) (by simpa using h2)]
  omega
theorem ST {l m:List Nat}{a n:Nat}(h:l.drop a=m) (h1:n≤(wh m).length) (h2:a+n<l.length) (h3:48≤nth l (a+n)) (h4:nth l (a+n)≤57):n+1≤(wh m).length:=by
 have hl:m.length=l.length-a:=by rw[←h,List.length_drop]
 have h5:=(Pe h1 (by omega)).1 (by rw[nP h];exact decide_eq_true ⟨h3,h4⟩)
 omega
theorem Xe {l m:List Nat}{a n:Nat}(h:l.drop a=m) (h1:n≤(wh m).length) (h2:l.length≤a+n∨¬(48≤nth l (a+n)∧nth l (a+n)≤57)):n=(wh m).length:=by
 have hl:m.length=l.length-a:=by rw[←h,List.length_drop]
 have hw:=zC m
 rcases Nat.lt_or_ge n (wh m).length with h3 | h3
 ·exfalso
  have h4:=(Pe h1 (by omega)).2 h3
  rw[nP h]at h4
  have h5:=uL h4
  rcases h2 with h2 | h2
  ·omega
  exact h2 h5
 omega
def gC (l:List Nat):Nat:=if l.take 1=[45]then 1 else 0
theorem sN (l:List Nat):l.drop (gC l)=aI l:=by
 unfold gC aI
 split <;> rfl
theorem sO {l:List Nat}{c:Nat}(h:0<l.length):l.take 1=[c]↔nth l 0=c:=by
 cases l with
 | nil=>simp at h
 | cons x l=>simp[nth]
theorem OT {l:List Nat}(h:0<l.length) (h2:nth l 0=45):gC l=1:=if_pos ((sO h).2 h2)
theorem AK {l:List Nat}(h:¬(0<l.length∧nth l 0=45)):gC l=0:=if_neg fun h2=>by
 have h3:=congrArg List.length h2
 rw[List.length_take]at h3
 have h4:0<l.length:=by simp at h3;omega
 exact h ⟨h4,(sO h4).1 h2⟩
theorem rD (l:List Nat):gC l+(aI l).length=l.length:=by
 rw[←sN,List.length_drop]
 unfold gC
 split
 ·rename_i h
  have h3:=congrArg List.length h
  rw[List.length_take]at h3
  simp at h3
  omega
 omega
theorem xQ (l:List Nat):l.drop (gC l+(wh (aI l)).length)=cE (aI l):=by
 rw[←List.drop_drop,sN]
 conv=>lhs;rw[show aI l=wh (aI l)++cE (aI l) from(mI _).symm]
 rw[show wh (wh (aI l)++cE (aI l))=wh (aI l) by rw[mI]]
 exact List.drop_left
theorem AM {l:List Nat}(h:gC l+(wh (aI l)).length<l.length) (h2:nth l (gC l+(wh (aI l)).length)=46):gB (cE (aI l))=true:=by
 have hd:=xQ l
 have hl:=congrArg List.length hd
 rw[List.length_drop]at hl
 refine decide_eq_true ((sO (by omega)).2 ?_)
 rw[nP hd]
 exact h2
theorem Ex {l:List Nat}(h:¬(gC l+(wh (aI l)).length<l.length∧nth l (gC l+(wh (aI l)).length)=46)):gB (cE (aI l))=false:=by
 have hd:=xQ l
 have hl:=congrArg List.length hd
 rw[List.length_drop]at hl
 refine decide_eq_false fun h2=>?_
 have h3:=congrArg List.length h2
 rw[List.length_take]at h3
 have h4:0<(cE (aI l)).length:=by simp at h3;omega
 refine h ⟨by omega,?_⟩
 have h5:=(sO h4).1 h2
 rwa[nP hd]at h5
theorem Lq {l:List Nat}(h:gB (cE (aI l))=true):l.drop (gC l+(wh (aI l)).length+1)=iR (cE (aI l)):=by
 rw[←List.drop_drop,xQ,Eu h]
theorem AN {m:List Nat}(h:gB (cE m)=true):wh (iR (cE m))=pl m:=by unfold pl wh;rw[if_pos h]
theorem AO {l:List Nat}(h:gB (cE (aI l))=true):l.length=gC l+(wh (aI l)).length+1+(pl (aI l)).length+(rr (aI l)).length:=by
 have h1:=rD l
 have h2:=congrArg List.length (mI (aI l))
 have h3:=congrArg List.length (uM h)
 rw[List.length_append]at h2
 rw[List.length_cons,List.length_append]at h3
 omega
theorem Ey {l:List Nat}(h:gB (cE (aI l))=false):l.length=gC l+(wh (aI l)).length+(rr (aI l)).length:=by
 have h1:=rD l
 have h2:=congrArg List.length (mI (aI l))
 rw[List.length_append]at h2
 rw[Ew h]
 omega
theorem Lr {m:List Nat}:rr m=[]↔(rr m).length=0:=List.length_eq_zero_iff.symm
def iB (m:List Nat):Bool:=b1 m || b2 m
def tX (l:List Nat):Nat:=bif iB (aI l)then 0 else(wh (aI l)).length
def tY (l:List Nat):Nat:=bif iB (aI l)then 0 else(pl (aI l)).length
def xA (l:List Nat):Bool:=bif iB (aI l)then false else decide (rr (aI l)=[])
theorem Br (l:List Nat):xA l=gI (aI l):=by
 rw[AH]
 unfold xA iB
 cases b1 (aI l) <;> cases b2 (aI l) <;> rfl
theorem IV {l:List Nat}(h:gI (aI l)=true):iB (aI l)=false:=by
 rw[AH]at h
 unfold iB
 cases h1:b1 (aI l) <;> cases h2:b2 (aI l) <;> simp_all
theorem AP {l:List Nat}(h:gI (aI l)=true):tX l=(wh (aI l)).length∧tY l=(pl (aI l)).length:=by
 unfold tX tY
 rw[IV h]
 exact⟨rfl,rfl⟩
theorem Ls {l:List Nat}(h:gI (aI l)=true):0<l.length:=by
 have h1:=(nL h).2
 have h2:=rD l
 have h3:=zC (aI l)
 have h4:=List.length_pos_iff.2 h1
 omega
theorem uQ {l:List Nat}(h:0<l.length):decide (nth l 0=45)=dH l:=decide_eq_decide.2 (sO h).symm
theorem Ez {p:Nat→Bool}{l:List Nat}{k:Nat}(h:k<l.length):(l.take (k+1)).all p=((l.take k).all p&&p (nth l k)):=by
 rw[List.take_add_one,uP h]
 simp
theorem Gp {l:List Nat}{k:Nat}(h:k<l.length):sD (l.take (k+1))=(if nth l k=46 then sD (l.take k)else if nth l k=45 then sD (l.take k)else sD (l.take k)*10+(nth l k-48)):=by
 rw[List.take_add_one,uP h]
 simp[sD]
theorem Gq {l:List Nat}{k:Nat}(h:k<l.length):sP (l.take (k+1))=(if nth l k=46 then 0 else if nth l k=45 then sP (l.take k)else if 0≤sP (l.take k)then sP (l.take k)+1 else sP (l.take k)):=by
 rw[List.take_add_one,uP h]
 unfold sP
 rw[List.foldl_append]
 rfl
theorem Sq {l:List Nat}(h:gI (aI l)=true):∀c∈l,c=45∨c=46∨(48≤c∧c≤57):=by
 intro c hc
 rw[pY l]at hc
 rcases List.mem_append.1 hc with hc | hc
 ·split at hc
  ·exact .inl (List.mem_singleton.1 hc)
  cases hc
 rw[(nL h).1]at hc
 rcases List.mem_append.1 hc with hc | hc
 ·exact .inr (.inr (Bi _ c hc))
 split at hc
 ·rcases List.mem_cons.1 hc with rfl | hc
  ·exact .inr (.inl rfl)
  exact .inr (.inr (Bj _ c hc))
 cases hc
theorem OU {l:List Nat}{k:Nat}(hk:k≤l.length) (hb:∀c∈l,c=45∨c=46∨(48≤c∧c≤57)):sD (l.take k)<10^k:=by
 induction k with
 | zero=>simp[sD]
 | succ k ih=>
  have h1:=ih (by omega)
  have h2:=hb _ (AJ (l:=l) (k:=k) (by omega))
  rw[Gp (by omega),Nat.pow_succ]
  split
  ·omega
  split
  ·omega
  omega
theorem OV {l:List Nat}{k:Nat}(hk:k≤l.length):-1≤sP (l.take k)∧sP (l.take k)≤k:=by
 induction k with
 | zero=>exact⟨by simp[sP],by simp[sP]⟩
 | succ k ih=>
  have h1:=ih (by omega)
  rw[Gq (by omega)]
  split
  ·omega
  split
  ·omega
  split <;> omega
theorem zG {l:List Nat}(h:gI (aI l)=true):(if dH l then-(((sD l:Nat):Rat)/((10^(pl (aI l)).length:Nat):Rat))else((sD l:Nat):Rat)/((10^(pl (aI l)).length:Nat):Rat))=rB l:=by
 unfold rB
 rw[OM h]
 have hd:((10^(pl (aI l)).length:Nat):Rat)≠0:=by
  have:0<10^(pl (aI l)).length:=Nat.pow_pos (by omega)
  exact_mod_cast (by omega:(10^(pl (aI l)).length:Nat)≠0)
 have hi:(((10^(pl (aI l)).length:Nat):Int))≠0:=by
  have:0<10^(pl (aI l)).length:=Nat.pow_pos (by omega)
  omega
 generalize bX (wh (aI l)++pl (aI l))=V
 have e:∀z:Int,Rat.divInt z ((10^(pl (aI l)).length:Nat):Int)=(z:Rat)/((10^(pl (aI l)).length:Nat):Rat):=fun z=>by
  refine wF hd ?_
  rw[Rat.div_mul_cancel hd]
  have h2:=qN z _ hi
  rw[Rat.intCast_natCast]at h2
  exact h2
 rw[e]
 cases dH l with
 | true=>
  show-(_/_)=((-(V:Int):Int):Rat)/_
  rw[Rat.intCast_neg,Rat.intCast_natCast,Rat.div_def,Rat.div_def,Rat.neg_mul]
 | false=>
  show _=(((V:Nat):Int):Rat)/_
  rw[Rat.intCast_natCast]
  rfl
end Go.Proofs.YtcaakamelngceaaGreatDoor
namespace Go.Proofs.YtcaakamelngceaaGreatDoor
open Go Go.Shelf
def laysR_ren:Go.Shelf.Ren:=⟨fun | 99=>91 | 105=>42 | 165=>92 | 166=>93 | 169=>95 | 170=>94 | 206=>145 | 212=>90 | 240=>146 | 241=>147 | 263=>143 | 264=>144 | 276=>169 | 277=>170 | n=>n,fun | 0=>0 | 3=>3 | 4=>4 | 5=>5 | 9=>9 | 20=>20 | 37=>113 | 46=>119 | 51=>115 | 53=>152 | 70=>123 | 72=>125 | 75=>128 | 76=>129 | 80=>132 | 109=>120 | 127=>172 | 146=>167 | 148=>170 | 164=>189 | n=>n,fun | n=>n⟩
theorem mN:Go.Proofs.Lays.n105 Tryz.prog laysR_ren:={
 mixed:=by kernel_rfl
 f99:=Tryz.func91.trans (congrArg some (by kernel_rfl))
 f105:=Tryz.func42.trans (congrArg some (by kernel_rfl))
 f165:=Tryz.func92.trans (congrArg some (by kernel_rfl))
 f166:=Tryz.func93.trans (congrArg some (by kernel_rfl))
 f169:=Tryz.func95.trans (congrArg some (by kernel_rfl))
 f170:=Tryz.func94.trans (congrArg some (by kernel_rfl))
 f206:=Tryz.func145.trans (congrArg some (by kernel_rfl))
 f212:=Tryz.func90.trans (congrArg some (by kernel_rfl))
 f240:=Tryz.func146.trans (congrArg some (by kernel_rfl))
 f241:=Tryz.func147.trans (congrArg some (by kernel_rfl))
 f263:=Tryz.func143.trans (congrArg some (by kernel_rfl))
 f264:=Tryz.func144.trans (congrArg some (by kernel_rfl))
 f276:=Tryz.func169.trans (congrArg some (by kernel_rfl))
 f277:=Tryz.func170.trans (congrArg some (by kernel_rfl))
 t0:=Tryz.underlying0
 a0:=Tryz.isAgg0
 z0:=Tryz.sizeOf0
 v0:=Tryz.zeroValue0
 t3:=Tryz.underlying3
 a3:=Tryz.isAgg3
 z3:=Tryz.sizeOf3
 v3:=Tryz.zeroValue3
 t4:=Tryz.underlying4
 a4:=Tryz.isAgg4
 z4:=Tryz.sizeOf4
 v4:=Tryz.zeroValue4
 t5:=Tryz.underlying5
 a5:=Tryz.isAgg5
 z5:=Tryz.sizeOf5
 v5:=Tryz.zeroValue5
 t9:=Tryz.underlying9
 a9:=Tryz.isAgg9
 z9:=Tryz.sizeOf9
 v9:=Tryz.zeroValue9
 t20:=Tryz.underlying20
 a20:=Tryz.isAgg20
 z20:=Tryz.sizeOf20
 v20:=Tryz.zeroValue20
 t37:=Tryz.underlying113
 a37:=Tryz.isAgg113
 z37:=Tryz.sizeOf113
 v37:=Tryz.zeroValue113
 t46:=Tryz.underlying119
 a46:=Tryz.isAgg119
 z46:=Tryz.sizeOf119
 v46:=Tryz.zeroValue119
 t51:=Tryz.underlying115
 a51:=Tryz.isAgg115
 z51:=Tryz.sizeOf115
 v51:=Tryz.zeroValue115
 t53:=Tryz.underlying152
 a53:=Tryz.isAgg152
 z53:=Tryz.sizeOf152
 v53:=Tryz.zeroValue152
 t70:=Tryz.underlying123
 a70:=Tryz.isAgg123
 z70:=Tryz.sizeOf123
 v70:=Tryz.zeroValue123
 t72:=Tryz.underlying125
 a72:=Tryz.isAgg125
 z72:=Tryz.sizeOf125
 v72:=Tryz.zeroValue125
 t75:=Tryz.underlying128
 a75:=Tryz.isAgg128
 z75:=Tryz.sizeOf128
 v75:=Tryz.zeroValue128
 t76:=Tryz.underlying129
 a76:=Tryz.isAgg129
 z76:=Tryz.sizeOf129
 v76:=Tryz.zeroValue129
 t109:=Tryz.underlying120
 a109:=Tryz.isAgg120
 z109:=Tryz.sizeOf120
 v109:=Tryz.zeroValue120
 t127:=Tryz.underlying172
 a127:=Tryz.isAgg172
 z127:=Tryz.sizeOf172
 v127:=Tryz.zeroValue172
 t146:=Tryz.underlying167
 a146:=Tryz.isAgg167
 z146:=Tryz.sizeOf167
 v146:=Tryz.zeroValue167
 t148:=Tryz.underlying170
 a148:=Tryz.isAgg170
 z148:=Tryz.sizeOf170
 v148:=Tryz.zeroValue170
 t164:=Tryz.underlying189
 a164:=Tryz.isAgg189
 z164:=Tryz.sizeOf189
 v164:=Tryz.zeroValue189}
theorem Xf:Go.Proofs.Lays.n212 Tryz.prog laysR_ren:={mN with
}
theorem EA:Go.Proofs.Builder.Extra Tryz.prog laysR_ren where
 sizeBuilder:=by kernel_rfl
 liesBuilder:=by kernel_rfl
 t5:=mN.t5
 a5:=mN.a5
 z5:=mN.z5
 v5:=mN.v5
 infoByte:=by kernel_rfl
 cellsByte:=by kernel_rfl
 sizeByte:=by kernel_rfl
 neB5:=by decide
end Go.Proofs.YtcaakamelngceaaGreatDoor
namespace Go.Proofs.YtcaakamelngceaaGreatDoor
open Go Go.RowKit
section
variable {f:FuncId}{args:List FV}
theorem Sr {a b:Value}(h:∀(N:Nat→Prop) (w:World) us,cU w N [] args us→(∀b,N b→b<w.heap.size)→Calls Tryz.prog f us.toArray w (fun e w'=>e=.returned (.tuple #[a,b])∧Below w.heap.size w w')):aE true Tryz.prog f [] args (aM (.tup [.one (tv a),.one (tv b)])):=by
 intro N w cs us hL
 obtain⟨rfl,hf⟩:=pC hL
 refine(h _ w us hf (fun b hb=>hb.1)).mono ?_
 rintro e W ⟨rfl,hb⟩
 refine .mk0 (y:=[.w a]++([.w b]++[])) rfl hb (by simp[VT.okL,VT.ok]) (by simp[VT.fpL,VT.fp]) (by simp[VT.fpL,VT.fp]) ⟨[a,b],rfl,?_⟩
 exact⟨a,[b],[.w a],[.w b]++[],rfl,rfl,⟨.w a,rfl,rfl,by simp[CR,tv,OR]⟩,b,[],[.w b],[],rfl,rfl,⟨.w b,rfl,rfl,by simp[CR,tv,OR]⟩,rfl,rfl⟩
end
theorem sR {cs:List UInt8}{p:Nat→Bool}(hp:∀c<256,cs.contains (UInt8.ofNat c)=p c):∀{l:List Nat},Lim 256 l→(l.map UInt8.ofNat).dropWhile (cs.contains ·)=(l.dropWhile p).map UInt8.ofNat
 | [],_=>rfl
 | x::l,h=>by
  rw[List.map_cons,List.dropWhile_cons,List.dropWhile_cons,hp x (h x (by simp))]
  split
  ·exact sR hp (fun c hc=>h c (by simp[hc]))
  rfl
def p0 (c:Nat):Bool:=decide (c=48)
def iS (p:Nat→Bool) (l:List Nat):List Nat:=(l.reverse.dropWhile p).reverse
theorem wG {B:Nat}{p:Nat→Bool}{l:List Nat}(h:Lim B l):Lim B (iS p l):=mO (lJ (mO h))
theorem AQ:∀c<256,([48]:List UInt8).contains (UInt8.ofNat c)=p0 c:=by decide+kernel
theorem VY {cs:List UInt8}{p:Nat→Bool}(hp:∀c<256,cs.contains (UInt8.ofNat c)=p c){l:List Nat}(h:Lim 256 l):(⟨(Lib.trimLeftS (aC l).data.toList cs).toArray⟩:ByteArray)=aC (l.dropWhile p):=by
 rw[iU]
 unfold Lib.trimLeftS
 rw[sR hp h]
 rfl
theorem IW {cs:List UInt8}{p:Nat→Bool}(hp:∀c<256,cs.contains (UInt8.ofNat c)=p c){l:List Nat}(h:Lim 256 l):Lib.trimRightS (l.map UInt8.ofNat) cs=(iS p l).map UInt8.ofNat:=by
 unfold Lib.trimRightS iS
 rw[←List.map_reverse,sR hp (mO h),List.map_reverse]
theorem VZ {cs:List UInt8}{p:Nat→Bool}(hp:∀c<256,cs.contains (UInt8.ofNat c)=p c){l:List Nat}(h:Lim 256 l):(⟨(Lib.trimRightS (aC l).data.toList cs).toArray⟩:ByteArray)=aC (iS p l):=by
 rw[iU,IW hp h]
 rfl
theorem WA {cs:List UInt8}{p:Nat→Bool}(hp:∀c<256,cs.contains (UInt8.ofNat c)=p c){l:List Nat}(h:Lim 256 l):(⟨(Lib.trimS (aC l).data.toList cs).toArray⟩:ByteArray)=aC ((iS p l).dropWhile p):=by
 rw[iU]
 unfold Lib.trimS
 rw[IW hp h]
 unfold Lib.trimLeftS
 rw[sR hp (wG h)]
 rfl
variable {l:List Nat}
theorem Ss (hl:Lim 256 l):aE true Tryz.prog 89 [] [.one (tv (.string (aC l))),.one (tv (.string ⟨#[48,49,50,51,52,53,54,55,56,57]⟩))] (aM (.one (tv (.string (aC (l.dropWhile eW)))))):=mP fun N w us hf hN=>by
 obtain⟨u,v,rfl,h1,h2⟩:=mQ hf
 obtain rfl:=aW (eD h1)
 obtain rfl:=aW (eD h2)
 have h:=Go.Proofs.Any.strings_TrimLeft_laid Xg (by kernel_rfl) (aC l) ⟨#[48,49,50,51,52,53,54,55,56,57]⟩ w (by decide) (fun j b h=>(by decide:∀b∈([48,49,50,51,52,53,54,55,56,57]:List UInt8),b.toNat<128) b (List.mem_of_getElem? h))
 rwa[VY (cs:=[48,49,50,51,52,53,54,55,56,57]) Gb hl]at h
theorem Xh (hl:Lim 256 l) (hn:l.length≤9223372036854775807):aE true Tryz.prog 58 [] [.one (tv (.string (aC l))),.one (tv (.string ⟨#[48]⟩))] (aM (.one (tv (.string (aC (iS p0 l)))))):=mP fun N w us hf hN=>by
 obtain⟨u,v,rfl,h1,h2⟩:=mQ hf
 obtain rfl:=aW (eD h1)
 obtain rfl:=aW (eD h2)
 have h:=Go.Proofs.Any.strings_TrimRight_laid Xi (by kernel_rfl) (aC l) ⟨#[48]⟩ w (by rw[aF];omega) (by decide) (fun j b h=>(by decide:∀b∈([48]:List UInt8),b.toNat<128) b (List.mem_of_getElem? h))
 rwa[VZ (cs:=[48]) AQ hl]at h
theorem EB (hl:Lim 256 l) (hn:l.length≤9223372036854775807):aE true Tryz.prog 125 [] [.one (tv (.string (aC l))),.one (tv (.string ⟨#[48]⟩))] (aM (.one (tv (.string (aC ((iS p0 l).dropWhile p0)))))):=mP fun N w us hf hN=>by
 obtain⟨u,v,rfl,h1,h2⟩:=mQ hf
 obtain rfl:=aW (eD h1)
 obtain rfl:=aW (eD h2)
 have h:=Go.Proofs.Any.strings_Trim_laid sS (by kernel_rfl) (aC l) ⟨#[48]⟩ w (by rw[aF];omega) (by decide) (fun j b h=>(by decide:∀b∈([48]:List UInt8),b.toNat<128) b (List.mem_of_getElem? h))
 rwa[WA (cs:=[48]) AQ hl]at h
theorem St {n:Nat}(hn:n≤1000000):aE true Tryz.prog 42 [] [.one (tv (.string ⟨#[48]⟩)),.one (tv (.int .i64 ((n:Nat):Int)))] (aM (.one (tv (.string (aC (List.replicate n 48)))))):=mP fun N w us hf hN=>by
 obtain⟨u,v,rfl,h1,h2⟩:=mQ hf
 obtain rfl:=aW (eD h1)
 obtain rfl:=aW (eD h2)
 have h:=Go.Proofs.Any.strings_Repeat mN EA ⟨#[48]⟩ n w (by omega) (by show 1*n≤_;omega)
 have e:(⟨(Lib.repeatL (⟨#[48]⟩:ByteArray).data.toList n).toArray⟩:ByteArray)=aC (List.replicate n 48):=by
  have:∀n,Lib.repeatL [48] n=(List.replicate n 48).map UInt8.ofNat:=fun n=>by
   induction n with
   | zero=>rfl
   | succ n ih=>rw[Lib.repeatL,ih,List.replicate_succ];rfl
  show(⟨(Lib.repeatL [48] n).toArray⟩:ByteArray)=_
  rw[this]
  rfl
 rwa[e]at h
theorem IX {a b:Nat}(ha:a<18446744073709551616) (hb:b<18446744073709551616):aE true Tryz.prog 90 [] [.one (tv (.int .u64 ((a:Nat):Int))),.one (tv (.int .u64 ((b:Nat):Int)))] (aM (.tup [.one (tv (.int .u64 ((a*b/18446744073709551616:Nat):Int))),.one (tv (.int .u64 ((a*b%18446744073709551616:Nat):Int)))])):=Sr fun N w us hf hN=>by
 obtain⟨u,v,rfl,h1,h2⟩:=mQ hf
 obtain rfl:=aW (eD h1)
 obtain rfl:=aW (eD h2)
 exact(Go.Proofs.Any.bits_Mul Xf a b ha hb w).mono fun e w' h=>⟨h.1,by first | exact h.2 | (rw[h.2];exact Below.refl _ _)⟩
theorem Xj (l:List Nat):decide ((iS p0 l).dropWhile p0=[])=wZ l:=by
 unfold wZ
 rw[Bool.eq_iff_iff,decide_eq_true_eq,List.all_eq_true,uR]
 unfold iS
 constructor
 ·intro h c hc
  cases hq:l.reverse.dropWhile p0 with
  | nil=>exact uR.1 hq c (List.mem_reverse.2 hc)
  | cons y ys=>
   have h1:=h y (by rw[hq];simp)
   have h2:=List.head?_dropWhile_not p0 l.reverse
   rw[hq]at h2
   simp at h2
   rw[h1]at h2
   cases h2
 intro h c hc
 have h1:=(List.dropWhile_sublist p0).subset (List.mem_reverse.1 hc)
 exact h c (List.mem_reverse.1 h1)
theorem OW:CallOk Tryz.prog 140:=.mk Tryz.func140 (by decide) rfl
theorem Bs {l R:List Nat}{c:Nat}(hl:Lim 256 l) (hR:l.dropWhile (· ==c)=R):aE true Tryz.prog 140 [] [.one (tv (.string (aC l))),.one (tv (.int .u8 ((c:Nat):Int)))] (aM (.one (tv (.string (aC R))))):=by
 refine bD Tryz.func140 rfl Tryz.ntmps140 rfl aA rfl fun N9 w9 c0 h0=>?_
 refine sq ?_;refine rl ?_;refine o1 ?_;refine nl ?_;refine sq ?_;refine bl ?_
 refine lp (γ:=List Nat) (fun l=>cD [(0,.one (tv (.string (aC l)))),(1,.one (tv (.int .u8 ((c:Nat):Int))))]) (fun _=>([]:List Ob).map some) (fun l=>Lim 256 l∧l.dropWhile (· ==c)=R) (fun l=>l.length) l ⟨hl,hR⟩ (aO h0 [] _ _ (by decide) ⟨rfl,rfl,trivial⟩ rfl) fun k hk=>?_
 refine sq ?_;refine sq ?_;refine rl ?_;refine o1 ?_;refine o1 ?_
 refine WL.cast (t:=6) (u':=.int .i64 ((k.length:Nat):Int)) rfl (congrArg (fun n:Nat=>Value.int .i64 (n:Int)) (aF _)) ?_
 refine o1 ?_;refine o1 ?_;refine WL.split (t:=8) rfl (fun h1=>?_) (fun h1=>?_)
 ·refine o1 ?_;refine o1 ?_ (hC:=(by rw[aF];show 0<k.length;omega))
  refine WL.cast (t:=10) (u':=.int .u8 (((nth k 0):Nat):Int)) rfl (congrArg (fun n:Nat=>Value.int .u8 (n:Int)) (eI (i:=0) (by omega) (dT (k:=0) hk.1 (by omega)))) ?_
  (iterate 3 refine o1 ?_);refine nl ?_;refine bN rfl (fun h2=>?_) (fun h2=>?_)
  ·refine sk ?_;refine bl ?_;refine rl ?_;refine o1 ?_;refine o1 ?_ (hC:=(by rw[aF];show 1≤k.length;omega))
   refine WL.cast (t:=15) (u':=.string (aC (k.drop 1))) rfl (congrArg Value.string (iC _ _)) ?_;refine o1 ?_;refine nl ?_
   exact⟨k.drop 1,by rw[List.length_drop];omega,⟨mJ hk.1 1,(Su (by omega) (by omega)).trans hk.2⟩,aO h0 [] _ _ (by decide) ⟨rfl,rfl,trivial⟩ rfl⟩
  refine ex ?_;refine sq ?_;refine rl ?_;refine o1 ?_;refine o1 ?_;refine nl ?_;refine rt ?_
  exact en (.inl rfl) rfl (aV (aP _)) (by decide) (fun _=>trivial) (congrArg (fun z=>FV.one (tv (.string z))) (congrArg aC ((Pf (by omega) (by omega)).trans hk.2)))
 (iterate 4 refine cG ?_);refine o1 ?_;refine nl ?_;refine fD rfl ?_;refine ex ?_;refine sq ?_;refine rl ?_;refine o1 ?_;refine o1 ?_;refine nl ?_;refine rt ?_
 exact en (.inl rfl) rfl (aV (aP _)) (by decide) (fun _=>trivial) (congrArg (fun z=>FV.one (tv (.string z))) (congrArg aC ((Pg (by omega)).trans hk.2)))
theorem zH {l:List Nat}(hl:Lim 256 l):aE true Tryz.prog 89 [] [.one (tv (.string (aC l))),.one (tv (.string ⟨#[48]⟩))] (aM (.one (tv (.string (aC (l.dropWhile (· ==48))))))):=by
 refine bD Tryz.func89 rfl Tryz.ntmps89 rfl aA rfl fun N9 w9 c0 h0=>?_
 refine sq ?_;refine rl ?_;refine o1 ?_;refine nl ?_;refine sq ?_;refine sq ?_;refine rl ?_;refine o1 ?_;refine o1 ?_
 refine WL.cast (t:=8) (u':=.bool (decide (l=[]))) rfl (congrArg Value.bool (iD hl)) ?_;refine o1 ?_;refine WL.splitb (t:=9) rfl (fun h1=>?_) (fun h1=>?_)
 ·refine cG ?_;refine cG ?_;refine o1 ?_;refine nl ?_;refine fV rfl ?_;refine sq ?_;refine rl ?_;refine o1 ?_;refine o1 ?_;refine nl ?_;refine rt ?_
  exact en (.inl rfl) rfl (aV (aP _)) (by decide) (fun _=>trivial) (congrArg (fun z=>FV.one (tv (.string z))) (congrArg aC (by rw[of_decide_eq_true h1];rfl)))
 refine o1 ?_;refine o1 ?_;refine WL.cast (t:=11) (u':=.bool false) rfl (congrArg Value.bool (iD (l:=[48]) (Lim.cons (by omega) Lim.nil))) ?_
 refine o1 ?_;refine nl ?_;refine fD rfl ?_;refine sk ?_;refine sq ?_;refine sq ?_;refine rl ?_;(iterate 3 refine o1 ?_)
 refine WL.cast (t:=16) (u':=.bool true) rfl (congrArg Value.bool rfl) ?_;refine o1 ?_;refine o1 ?_;refine o1 ?_ (hC:=(by decide))
 refine o1 ?_;refine WL.cast (t:=20) (u':=.bool true) rfl (congrArg Value.bool rfl) ?_;refine o1 ?_;refine nl ?_;refine fV rfl ?_;refine sq ?_;refine rl ?_;refine o1 ?_;refine o1 ?_
 refine o1 ?_ (hC:=(by decide))
 refine WL.cast (t:=24) (u':=.int .u8 ((48:Nat):Int)) rfl rfl ?_
 refine ca (Bs (c:=48) hl rfl) OW ⟨a1 rfl,a1 rfl,rfl⟩ (.one (tv (.string (aC (l.dropWhile (· ==48)))))) ?_;refine o1 ?_;refine nl ?_;refine rt ?_
 exact en (.inl rfl) rfl (aV (aP _)) (by decide) (fun _=>trivial) (congrArg (fun z=>FV.one (tv (.string z))) (rfl))
theorem Sv {t n:Nat}{xs:List Nat}(hn:xs.length=n) (hn2:n≤100000000):aE false Tryz.prog 88 [⟨t,1,(dN xs).map .t⟩] [.one (.sl 0 0 n)] (Rt [⟨t,1,(dN xs.reverse).map .t⟩] (.tup [])):=by
 subst hn;refine Gr Tryz.func88 rfl Tryz.ntmps88 rfl aA rfl fun N9 M9 w9 c0 h0=>?_
 refine sq ?_;refine rl ?_;(iterate 5 refine o1 ?_);refine nl ?_;refine bl ?_
 refine lp (γ:=Nat) (fun k=>cD [(0,.one (.sl 0 0 xs.length)),(2,.one (tv (.int .i64 ((k:Nat):Int)))),(3,.one (tv (.int .i64 ((xs.length:Int)-1-(k:Int):Int))))]) (fun k=>[(⟨t,1,(dN (fW xs k)).map .t⟩:Ob)].map some) (fun k=>2*k≤xs.length+1) (fun k=>xs.length-k) 0 (by omega) (Gs h0 [0] _ _ (by decide) rfl ⟨rfl,rfl,kC (by omega),trivial⟩ ⟨cM (congrArg (fun l=>some (⟨t,1,(dN l).map .t⟩:Ob)) (OX xs)),rfl⟩) fun k hk=>?_
 have hrl:=jR xs k
 refine sq ?_;refine sq ?_;refine rl ?_;(iterate 3 refine o1 ?_);refine nl ?_;refine bN rfl (fun h1=>?_) (fun h1=>?_)
 ·refine sk ?_;refine sq ?_;refine bl ?_;refine rd [] (fun i=>[15].contains i) mixed ?_
  refine dv 0 ?_;refine dv 1 ?_;refine dv 2 ?_;refine dv 3 ?_;refine WD.cast (t:=17) (u':=.int .i64 (((xs.length-1-k):Nat):Int)) rfl (aH (by omega)) ?_
  refine dv 4 ?_;refine dv 5 ?_;refine WD.cast (t:=19) (u':=.int .i64 (((xs.length-1-k):Nat):Int)) rfl (aH (by omega)) ?_
  refine dv 6 ?_;refine dv 8 ?_;refine dv 9 ?_;refine dv 10 ?_;refine WO.two (i:=7) (j:=11) (by kernel_rfl) ?_ ?_
  ·refine Ph 7 (Fa (fW xs k) (k:=(xs.length-1-k)) (by omega)) ?_
   refine WO.one (by kernel_rfl) (Ph 11 (Fa (fW xs k) (k:=k) (by omega)) ?_)
   refine dv 12 ?_;refine AS 13 (uS (fW xs k) (k:=k) (v:=nth (fW xs k) ((xs.length-1-k))) (by omega)) (zI (fW xs k) (by omega)) ?_
   refine dv 14 ?_
   refine Xk 15 (uS ((fW xs k).set (k) (nth (fW xs k) ((xs.length-1-k)))) (k:=(xs.length-1-k)) (v:=nth (fW xs k) (k)) (by simp only[List.length_set];omega)) (zI ((fW xs k).set (k) (nth (fW xs k) ((xs.length-1-k)))) (by simp only[List.length_set];omega)) ?_
   refine aS ?_;refine rl ?_;refine o1 ?_;refine o1 ?_;refine WL.cast (t:=11) (u':=.int .i64 ((k+1:Nat):Int)) rfl (aH (by omega)) ?_
   (iterate 4 refine o1 ?_);refine nl ?_
   exact⟨k+1,by omega,by omega,Gs h0 [0] _ _ (by decide) rfl ⟨rfl,rfl,kC (by omega),trivial⟩ ⟨cM (congrArg (fun l=>some (⟨t,1,(dN l).map .t⟩:Ob)) (AT (by omega))),rfl⟩⟩
  refine Ph 11 (Fa (fW xs k) (k:=k) (by omega)) ?_
  refine WO.one (by kernel_rfl) (Ph 7 (Fa (fW xs k) (k:=(xs.length-1-k)) (by omega)) ?_)
  refine dv 12 ?_;refine AS 13 (uS (fW xs k) (k:=k) (v:=nth (fW xs k) ((xs.length-1-k))) (by omega)) (zI (fW xs k) (by omega)) ?_
  refine dv 14 ?_
  refine Xk 15 (uS ((fW xs k).set (k) (nth (fW xs k) ((xs.length-1-k)))) (k:=(xs.length-1-k)) (v:=nth (fW xs k) (k)) (by simp only[List.length_set];omega)) (zI ((fW xs k).set (k) (nth (fW xs k) ((xs.length-1-k)))) (by simp only[List.length_set];omega)) ?_
  refine aS ?_;refine rl ?_;refine o1 ?_;refine o1 ?_;refine WL.cast (t:=11) (u':=.int .i64 ((k+1:Nat):Int)) rfl (aH (by omega)) ?_
  (iterate 4 refine o1 ?_);refine nl ?_
  exact⟨k+1,by omega,by omega,Gs h0 [0] _ _ (by decide) rfl ⟨rfl,rfl,kC (by omega),trivial⟩ ⟨cM (congrArg (fun l=>some (⟨t,1,(dN l).map .t⟩:Ob)) (AT (by omega))),rfl⟩⟩
 refine ex ?_
 exact mE (lent':=[⟨t,1,(dN xs.reverse).map .t⟩]) (.inr rfl) rfl WB (by decide) (fun _ h=>by cases h) ⟨⟨rfl,rfl⟩,trivial⟩ ⟨congrArg (fun l=>some (⟨t,1,(dN l).map .t⟩:Ob)) (EC (by omega)),trivial⟩ ⟨nQ _,trivial⟩ (fun h=>by cases h) ⟨rfl,rfl⟩
theorem OY {xs:List Nat}{v:Nat}(hx:xs.length≤1000000) (hl:Lim 4294967296 xs) (hv0:vl 4294967296 xs=v):aE true Tryz.prog 41 [] [.one (.t (sU false xs))] (aM (.one (tv (.string (aC (tx v)))))):=by
 refine bD Tryz.func41 rfl Tryz.ntmps41 rfl aA rfl fun N9 w9 c0 h0=>?_
 have hvL:v<4294967296^xs.length:=hv0▸eC hl
 have hvl:=bQ (k:=xs.length) (by omega) hvL
 refine sq ?_;refine rl ?_;refine o1 ?_;refine nl ?_;refine sq ?_;refine rl ?_;refine WC 0 ?_;refine nl ?_;refine sq ?_;refine rl ?_;refine o1 ?_;refine nl ?_;refine sq ?_;refine sq ?_
 refine rl ?_;refine o1 ?_;refine ca (ED hl (by omega) hv0) SU ⟨a1 rfl,rfl⟩ (.one (.t (sU false (dg 4294967296 v)))) ?_
 refine o1 ?_;refine nl ?_;refine bl ?_
 refine lp (γ:=(List Nat×List Nat)×Nat) (fun s=>cD [(0,.one (.t (sU false (dg 4294967296 s.2)))),(3,.one (.pt 0 0)),(4,.one (.sl 1 0 s.1.1.length))]) (fun s=>[(⟨112,1,(dN s.1.2).map .t⟩:Ob),⟨5,1,(dN (dL s.1.1)).map .t⟩].map some) (fun s=>s.1.2.length=9∧Lim 10 s.1.1∧vl 10 s.1.1+10^s.1.1.length*s.2=v∧s.2≤v∧s.1.1.length≤10*xs.length+9) (fun s=>s.2) (([],List.replicate 9 0),v) ⟨rfl,Lim.nil,(by simp[vl]),Nat.le_refl _,Nat.zero_le _⟩ ((nr (i:=4) 1 5 1 rfl rfl rfl rfl).trans (aO h0 [0,1] _ _ (by decide) ⟨rfl,rfl,rfl,trivial⟩ ⟨cM rfl,cM (l:=[]) rfl,rfl⟩)) ?_
 rintro⟨⟨ds,eN⟩,u⟩ ⟨ho,hd,hv,hu,hdl⟩;dsimp only at ho hd hv hu hdl⊢;have hul:=dG hu
 refine sq ?_;refine sq ?_;refine rl ?_;(iterate 3 refine o1 ?_);refine nl ?_;refine bN rfl (fun h1=>?_) (fun h1=>?_)
 ·refine sk ?_;refine bl ?_;refine sq ?_;have hup:=sT (B:=4294967296) (u:=u) (by omega)
  refine rl ?_;refine o1 ?_
  refine ca (IY (u:=u) (d:=1000000000) (by omega) (by omega) (by omega)) SV ⟨a1 rfl,a1 rfl,rfl⟩ (.tup [.one (.t (sU false (dg 4294967296 (u/1000000000)))),.one (tv (.int .u32 ((u%1000000000:Nat):Int))),.one (tv (.int .i64 0))]) ?_
  (iterate 7 refine o1 ?_);refine nl ?_;refine sq ?_;refine sq ?_;refine rl ?_;refine o1 ?_;refine nl ?_;refine bl ?_
  refine lp (γ:=Nat) (fun i=>cD [(3,.one (.pt 0 0)),(4,.one (.sl 1 0 ds.length)),(5,.one (.t (sU false (dg 4294967296 (u/1000000000))))),(6,.one (tv (.int .u32 ((u%1000000000/10^i:Nat):Int)))),(21,.one (tv (.int .i64 ((i:Nat):Int))))]) (fun i=>[(⟨112,1,(dN (dL (fd (i) (u%1000000000))++eN.drop (i))).map .t⟩:Ob),⟨5,1,(dN (dL ds)).map .t⟩].map some) (fun i=>i≤9) (fun i=>9-i) 0 (Nat.zero_le _) (aO h0 [0,1] _ _ (by decide) ⟨rfl,rfl,rfl,kC (by rw[Nat.pow_zero,Nat.div_one]),rfl,trivial⟩ ⟨cM rfl,cM rfl,rfl⟩) fun i hi=>?_
  have hlen:(dL (fd (i) (u%1000000000))++eN.drop (i)).length=9:=by rw[List.length_append,gE,nR,List.length_drop];omega
  have hdi:u%1000000000/10^i≤u%1000000000:=Nat.div_le_self _ _
  refine sq ?_;refine rl ?_;refine o1 ?_;refine nl ?_;refine sq ?_;refine bN rfl (fun h2=>?_) (fun h2=>?_)
  ·refine sk ?_;refine sq ?_;refine bl ?_;refine sq ?_;refine rl ?_;refine o1 ?_;refine o1 ?_;refine nl ?_;refine sq ?_;refine rl ?_;(iterate 3 refine o1 ?_)
   refine WL.cast (t:=26) (u':=.int .u32 (((u%1000000000/10^i%10):Nat):Int)) rfl (aH (fF _ 10)) ?_;refine o1 ?_
   refine WL.cast (t:=27) (u':=.int .u8 (((u%1000000000/10^i%10):Nat):Int)) rfl (aH (by omega)) ?_
   refine o1 ?_;refine WL.cast (t:=28) (u':=.int .u8 (((48+u%1000000000/10^i%10):Nat):Int)) rfl (aH (by omega)) ?_
   refine o1 ?_
   refine Dj (uS (dL (fd (i) (u%1000000000))++eN.drop (i)) (k:=i) (v:=48+u%1000000000/10^i%10) (by omega)) (zI (dL (fd (i) (u%1000000000))++eN.drop (i)) (by omega)) ?_
   refine nl ?_;refine rl ?_;refine o1 ?_;refine o1 ?_ (hC:=(fK 10 (by omega) (OZ (Nat.lt_of_le_of_lt hdi (by omega)))))
   refine WL.cast (t:=31) (u':=.int .u32 (((u%1000000000/10^i/10):Nat):Int)) rfl (aH (eK _ 10)) ?_;refine o1 ?_;refine nl ?_;refine rl ?_;refine o1 ?_
   refine WL.cast (t:=32) (u':=.int .i64 ((i+1:Nat):Int)) rfl (aH (by omega)) ?_
   refine o1 ?_;refine nl ?_
   exact⟨i+1,by omega,by omega,aO h0 [0,1] _ _ (by decide) ⟨rfl,rfl,rfl,kC (by rw[Nat.pow_succ,Nat.div_div_eq_div_mul]),rfl,trivial⟩ ⟨cM (congrArg (fun l=>some (⟨112,1,(dN l).map .t⟩:Ob)) (IZ (by omega) ho)),cM rfl,rfl⟩⟩
  refine ex ?_;have hi9:i=9:=by omega
  subst hi9;have he9:(dL (fd (9) (u%1000000000))++eN.drop (9))=dL (fd 9 (u%1000000000)):=by rw[List.drop_of_length_le (by omega),List.append_nil]
  refine sq ?_;refine rl ?_;refine o1 ?_
  refine PA (m:=9) (by_:=1) 2 (DstA.sl (k:=1) (n:=ds.length) (e:=5) (z:=1) rfl (by rw[Pi,gE])) (AU _) (EE _) (by rw[Pi,hlen]) (by omega) (by omega) ?_
  refine o1 ?_;refine nl ?_;refine rl ?_;refine o1 ?_;refine o1 ?_;refine nl ?_
  exact⟨((ds++fd 9 (u%1000000000),dL (fd 9 (u%1000000000))),u/1000000000),by dsimp only;omega,⟨by dsimp only;rw[gE,nR],hd.append (JA _ _),PB hv,by dsimp only;omega,by dsimp only;rw[List.length_append,nR];have:=EF hv hup hvL;omega⟩,aO h0 [0,2] _ _ (by decide) ⟨rfl,rfl,congrArg (fun n=>some (FV.one (.sl 2 0 n))) (show(ds++fd 9 (u%1000000000)).length=ds.length+9 by rw[List.length_append,nR]),trivial⟩ ⟨cM (congrArg (fun l=>some (⟨112,1,(dN l).map .t⟩:Ob)) he9),cM (congrArg (fun l=>some (⟨5,1,l⟩:Ob)) ((JB _ _).trans (congrArg (fun l:List Nat=>(dN l).map AV.t) (show dL ds++(dL (fd (9) (u%1000000000))++eN.drop (9))=dL (ds++fd 9 (u%1000000000)) by rw[he9,Lu])))),rfl⟩⟩
 refine ex ?_;refine sq ?_;have hu0:u=0:=(dR (B:=4294967296) (by omega)).1 (List.eq_nil_of_length_eq_zero (by omega))
 subst hu0;rw[Nat.mul_zero,Nat.add_zero]at hv;refine rl ?_;refine o1 ?_
 refine cl 2 [1] (Sv (t:=5) (xs:=dL ds) (n:=ds.length) (gE ds) (by omega)) SW ⟨cM rfl,rfl⟩ ⟨rfl,rfl⟩ (ok:=[some ⟨5,1,(dN (dL ds).reverse).map .t⟩]) ⟨cM rfl,rfl⟩ ?_
 refine nl ?_;refine sq ?_;refine sq ?_;refine rl ?_;refine o1 ?_
 refine SH (xs:=(dL ds).reverse) (Sx rfl (by rw[List.length_reverse,gE])) (by rw[List.length_reverse,gE]) ?_
 refine ca (zH (mO (wH hd))) Xl ⟨a1 rfl,a1 rfl,rfl⟩ (.one (tv (.string (aC ((dL ds).reverse.dropWhile (· ==48)))))) ?_;refine o1 ?_;refine nl ?_;refine sq ?_
 refine rl ?_;refine o1 ?_;refine o1 ?_
 refine WL.cast (t:=43) (u':=.bool (!decide (((dL ds).reverse.dropWhile (· ==48))=[]))) rfl (congrArg Value.bool (congrArg not (iD (lJ (mO (wH hd)))))) ?_;refine nl ?_
 refine iW rfl (fun h3=>?_) (fun h3=>?_)
 ·refine sq ?_;refine rl ?_;refine o1 ?_;refine o1 ?_;refine nl ?_;refine rt ?_
  exact en (.inl rfl) rfl (aV (aP _)) (by decide) (fun _=>trivial) (congrArg (fun z=>FV.one (tv (.string z))) (congrArg aC (EG hd hv h3)))
 refine sk ?_;refine sq ?_;refine rl ?_;refine o1 ?_;refine nl ?_;refine rt ?_
 exact en (.inl rfl) rfl (aV (aP _)) (by decide) (fun _=>trivial) (congrArg (fun z=>FV.one (tv (.string z))) (congrArg aC (JC hd hv h3)))
theorem AW:CallOk Tryz.prog 145:=.mk Tryz.func145 (by decide) rfl
theorem AX:CallOk Tryz.prog 179:=.mk Tryz.func179 (by decide) rfl
theorem Dk {B:Nat}{l:List Nat}(h:Lim B l) (k:Nat):Lim B (l.take k):=fun x hx=>h x (List.mem_of_mem_take hx)
theorem JD {l:List Nat}(h:Lim 256 l):((aC (l.take 1)).toList==(⟨#[45]⟩:ByteArray).toList)=decide (l.take 1=[45]):=jS (l':=[45]) (Dk h 1) (Lim.cons (by omega) Lim.nil)
theorem JE {l:List Nat}(h:¬1≤l.length):false=decide (l.take 1=[45]):=by
 rw[List.eq_nil_of_length_eq_zero (show l.length=0 by omega)];rfl
theorem Km {l:List Nat}(hl:Lim 256 l):aE true Tryz.prog 145 [] [.one (tv (.string (aC l))),.one (tv (.string ⟨#[45]⟩))] (aM (.one (tv (.bool (decide (l.take 1=[45])))))):=by
 refine bD Tryz.func145 rfl Tryz.ntmps145 rfl aA rfl fun N9 w9 c0 h0=>?_
 refine sq ?_;refine rl ?_;refine o1 ?_;refine nl ?_;refine sq ?_;refine rl ?_;refine o1 ?_;refine o1 ?_
 refine WL.cast (t:=6) (u':=.int .i64 ((l.length:Nat):Int)) rfl (congrArg (fun n:Nat=>Value.int .i64 (n:Int)) (aF _)) ?_
 refine o1 ?_;refine o1 ?_;refine WL.cast (t:=8) (u':=.int .i64 ((1:Nat):Int)) rfl rfl ?_;refine o1 ?_;refine o1 ?_;refine WL.split (t:=10) rfl (fun h1=>?_) (fun h1=>?_)
 ·(iterate 3 refine o1 ?_);refine WL.cast (t:=13) (u':=.int .i64 ((1:Nat):Int)) rfl rfl ?_;refine o1 ?_ (hC:=(by rw[aF];show 1≤l.length;omega))
  refine WL.cast (t:=14) (u':=.string (aC (l.take 1))) rfl (congrArg Value.string ((iE l 0 1).trans rfl)) ?_;refine o1 ?_;refine o1 ?_
  refine WL.cast (t:=16) (u':=.bool (decide (l.take 1=[45]))) rfl (congrArg Value.bool (JD hl)) ?_;refine o1 ?_;refine o1 ?_;refine nl ?_;refine rt ?_;exact gJ (.inl rfl) rfl (rfl)
 (iterate 6 refine cG ?_);refine o1 ?_;refine o1 ?_;refine nl ?_;refine rt ?_;exact gJ (.inl rfl) rfl (JE (by omega))
theorem EH {l:List Nat}(h:l.take 1=[45]):1≤l.length:=by
 have:=congrArg List.length h
 rw[List.length_take]at this
 simp at this
 omega
theorem Kn {l:List Nat}(hl:Lim 256 l):aE true Tryz.prog 179 [] [.one (tv (.string (aC l))),.one (tv (.string ⟨#[45]⟩))] (aM (.tup [.one (tv (.string (aC (if l.take 1=[45]then l.drop 1 else l)))),.one (tv (.bool (decide (l.take 1=[45]))))])):=by
 refine bD Tryz.func179 rfl Tryz.ntmps179 rfl aA rfl fun N9 w9 c0 h0=>?_
 refine sq ?_;refine rl ?_;refine o1 ?_;refine o1 ?_;refine nl ?_;refine sq ?_;refine sq ?_;refine rl ?_;refine o1 ?_;refine o1 ?_
 refine ca (Km hl) AW ⟨a1 rfl,a1 rfl,rfl⟩ (.one (tv (.bool (decide (l.take 1=[45]))))) ?_;refine WL.splitb (t:=8) rfl (fun h1=>?_) (fun h1=>?_)
 ·refine o1 ?_;refine nl ?_;refine fD rfl ?_;refine sk ?_;refine sq ?_;have h9:=of_decide_eq_true h1
  refine rl ?_;(iterate 3 refine o1 ?_);refine WL.cast (t:=13) (u':=.int .i64 ((1:Nat):Int)) rfl rfl ?_;refine o1 ?_ (hC:=(by rw[aF];show 1≤l.length;exact EH h9))
  refine WL.cast (t:=14) (u':=.string (aC (l.drop 1))) rfl (congrArg Value.string (iC _ _)) ?_;refine o1 ?_;refine o1 ?_;refine nl ?_;refine rt ?_
  exact en (.inl rfl) rfl (dE (.cons (aP _) (.cons (aP _) .nil))) (by decide) (fun _=>⟨trivial,trivial,trivial⟩) (by rw[if_pos (of_decide_eq_true h1),h1];rfl)
 refine o1 ?_;refine nl ?_;refine fV rfl ?_;refine sq ?_;refine rl ?_;(iterate 3 refine o1 ?_);refine nl ?_;refine rt ?_
 exact en (.inl rfl) rfl (dE (.cons (aP _) (.cons (aP _) .nil))) (by decide) (fun _=>⟨trivial,trivial,trivial⟩) (by rw[if_neg (of_decide_eq_false h1),h1];rfl)
theorem Ko {l:List Nat}(hl:Lim 256 l):aE true Tryz.prog 163 [] [.one (tv (.string (aC l))),.one (tv (.string ⟨#[45]⟩))] (aM (.tup [.one (tv (.string (aC (if l.take 1=[45]then l.drop 1 else l)))),.one (tv (.bool (decide (l.take 1=[45]))))])):=by
 refine bD Tryz.func163 rfl Tryz.ntmps163 rfl aA rfl fun N9 w9 c0 h0=>?_
 refine sq ?_;refine rl ?_;refine o1 ?_;refine o1 ?_;refine nl ?_;refine sq ?_;refine rl ?_;refine o1 ?_;refine o1 ?_
 refine ca (Kn hl) AX ⟨a1 rfl,a1 rfl,rfl⟩ (.tup [.one (tv (.string (aC (if l.take 1=[45]then l.drop 1 else l)))),.one (tv (.bool (decide (l.take 1=[45]))))]) ?_
 (iterate 4 refine o1 ?_);refine nl ?_;refine rt ?_;exact en (.inl rfl) rfl (dE (.cons (aP _) (.cons (aP _) .nil))) (by decide) (fun _=>⟨trivial,trivial,trivial⟩) rfl
theorem EI {l:List Nat}(h:Lim 256 l):((aC (l.take 1)).toList==(⟨#[46]⟩:ByteArray).toList)=decide (l.take 1=[46]):=jS (l':=[46]) (Dk h 1) (Lim.cons (by omega) Lim.nil)
theorem EJ {l:List Nat}(h:¬1≤l.length):false=decide (l.take 1=[46]):=by
 rw[List.eq_nil_of_length_eq_zero (show l.length=0 by omega)];rfl
theorem AY:CallOk Tryz.prog 128:=.mk Tryz.func128 (by decide) rfl
theorem SX:CallOk Tryz.prog 76:=.mk Tryz.func76 (by decide) rfl
theorem PC:CallOk Tryz.prog 111:=.mk Tryz.func111 (by decide) rfl
def iK (c:Nat) (l:List Nat):Bool:=decide (l.drop (l.length-1)=[c])
def cJ (c:Nat) (l:List Nat):List Nat:=if l.drop (l.length-1)=[c]then l.take (l.length-1)else l
theorem AZ {c:Nat}{l:List Nat}(hc:c<256) (h:Lim 256 l):((aC (l.drop (l.length-1))).toList==(aC [c]).toList)=iK c l:=jS (mJ h _) (Lim.cons hc Lim.nil)
theorem BA {c:Nat}{l:List Nat}(h:¬1≤l.length):false=iK c l:=by
 unfold iK
 rw[List.eq_nil_of_length_eq_zero (show l.length=0 by omega)]
 rfl
theorem Sy {c:Nat}{l:List Nat}(h:iK c l=true):1≤l.length:=by
 have:=congrArg List.length (of_decide_eq_true h)
 rw[List.length_drop]at this
 simp at this
 omega
theorem uT {c:Nat}{l:List Nat}(h:iK c l=true):l.take (l.length-1)=cJ c l:=(if_pos (of_decide_eq_true h)).symm
theorem BB {c:Nat}{l:List Nat}(h:iK c l=false):l=cJ c l:=(if_neg (of_decide_eq_false h)).symm
theorem Gt {B c:Nat}{l:List Nat}(h:Lim B l):Lim B (cJ c l):=by
 unfold cJ
 split
 ·exact fun x hx=>h x (List.mem_of_mem_take hx)
 exact h
theorem zJ {c:Nat}{l:List Nat}:(cJ c l).length≤l.length:=by
 unfold cJ
 split
 ·rw[List.length_take];omega
 exact Nat.le_refl _
theorem Gu {l:List Nat}(hl:Lim 256 l):aE true Tryz.prog 145 [] [.one (tv (.string (aC l))),.one (tv (.string ⟨#[46]⟩))] (aM (.one (tv (.bool (decide (l.take 1=[46])))))):=by
 refine bD Tryz.func145 rfl Tryz.ntmps145 rfl aA rfl fun N9 w9 c0 h0=>?_
 refine sq ?_;refine rl ?_;refine o1 ?_;refine nl ?_;refine sq ?_;refine rl ?_;refine o1 ?_;refine o1 ?_
 refine WL.cast (t:=6) (u':=.int .i64 ((l.length:Nat):Int)) rfl (congrArg (fun n:Nat=>Value.int .i64 (n:Int)) (aF _)) ?_
 refine o1 ?_;refine o1 ?_;refine WL.cast (t:=8) (u':=.int .i64 ((1:Nat):Int)) rfl rfl ?_;refine o1 ?_;refine o1 ?_;refine WL.split (t:=10) rfl (fun h1=>?_) (fun h1=>?_)
 ·(iterate 3 refine o1 ?_);refine WL.cast (t:=13) (u':=.int .i64 ((1:Nat):Int)) rfl rfl ?_;refine o1 ?_ (hC:=(by rw[aF];show 1≤l.length;omega))
  refine WL.cast (t:=14) (u':=.string (aC (l.take 1))) rfl (congrArg Value.string ((iE l 0 1).trans rfl)) ?_;refine o1 ?_;refine o1 ?_
  refine WL.cast (t:=16) (u':=.bool (decide (l.take 1=[46]))) rfl (congrArg Value.bool (EI hl)) ?_;refine o1 ?_;refine o1 ?_;refine nl ?_;refine rt ?_;exact gJ (.inl rfl) rfl (rfl)
 (iterate 6 refine cG ?_);refine o1 ?_;refine o1 ?_;refine nl ?_;refine rt ?_;exact gJ (.inl rfl) rfl (EJ (by omega))
theorem Xm {l:List Nat}(h:l.take 1=[46]):1≤l.length:=by
 have:=congrArg List.length h
 rw[List.length_take]at this
 simp at this
 omega
theorem Gv {l:List Nat}(hl:Lim 256 l):aE true Tryz.prog 179 [] [.one (tv (.string (aC l))),.one (tv (.string ⟨#[46]⟩))] (aM (.tup [.one (tv (.string (aC (if l.take 1=[46]then l.drop 1 else l)))),.one (tv (.bool (decide (l.take 1=[46]))))])):=by
 refine bD Tryz.func179 rfl Tryz.ntmps179 rfl aA rfl fun N9 w9 c0 h0=>?_
 refine sq ?_;refine rl ?_;refine o1 ?_;refine o1 ?_;refine nl ?_;refine sq ?_;refine sq ?_;refine rl ?_;refine o1 ?_;refine o1 ?_
 refine ca (Gu hl) AW ⟨a1 rfl,a1 rfl,rfl⟩ (.one (tv (.bool (decide (l.take 1=[46]))))) ?_;refine WL.splitb (t:=8) rfl (fun h1=>?_) (fun h1=>?_)
 ·refine o1 ?_;refine nl ?_;refine fD rfl ?_;refine sk ?_;refine sq ?_;have h9:=of_decide_eq_true h1
  refine rl ?_;(iterate 3 refine o1 ?_);refine WL.cast (t:=13) (u':=.int .i64 ((1:Nat):Int)) rfl rfl ?_;refine o1 ?_ (hC:=(by rw[aF];show 1≤l.length;exact Xm h9))
  refine WL.cast (t:=14) (u':=.string (aC (l.drop 1))) rfl (congrArg Value.string (iC _ _)) ?_;refine o1 ?_;refine o1 ?_;refine nl ?_;refine rt ?_
  exact en (.inl rfl) rfl (dE (.cons (aP _) (.cons (aP _) .nil))) (by decide) (fun _=>⟨trivial,trivial,trivial⟩) (by rw[if_pos (of_decide_eq_true h1),h1];rfl)
 refine o1 ?_;refine nl ?_;refine fV rfl ?_;refine sq ?_;refine rl ?_;(iterate 3 refine o1 ?_);refine nl ?_;refine rt ?_
 exact en (.inl rfl) rfl (dE (.cons (aP _) (.cons (aP _) .nil))) (by decide) (fun _=>⟨trivial,trivial,trivial⟩) (by rw[if_neg (of_decide_eq_false h1),h1];rfl)
theorem Gw {l:List Nat}(hl:Lim 256 l):aE true Tryz.prog 163 [] [.one (tv (.string (aC l))),.one (tv (.string ⟨#[46]⟩))] (aM (.tup [.one (tv (.string (aC (if l.take 1=[46]then l.drop 1 else l)))),.one (tv (.bool (decide (l.take 1=[46]))))])):=by
 refine bD Tryz.func163 rfl Tryz.ntmps163 rfl aA rfl fun N9 w9 c0 h0=>?_
 refine sq ?_;refine rl ?_;refine o1 ?_;refine o1 ?_;refine nl ?_;refine sq ?_;refine rl ?_;refine o1 ?_;refine o1 ?_
 refine ca (Gv hl) AX ⟨a1 rfl,a1 rfl,rfl⟩ (.tup [.one (tv (.string (aC (if l.take 1=[46]then l.drop 1 else l)))),.one (tv (.bool (decide (l.take 1=[46]))))]) ?_
 (iterate 4 refine o1 ?_);refine nl ?_;refine rt ?_;exact en (.inl rfl) rfl (dE (.cons (aP _) (.cons (aP _) .nil))) (by decide) (fun _=>⟨trivial,trivial,trivial⟩) rfl
theorem Gx {l:List Nat}(hl:Lim 256 l) (hn:l.length≤1000000000):aE true Tryz.prog 128 [] [.one (tv (.string (aC l))),.one (tv (.string ⟨#[37]⟩))] (aM (.one (tv (.bool (iK 37 l))))):=by
 refine bD Tryz.func128 rfl Tryz.ntmps128 rfl aA rfl fun N9 w9 c0 h0=>?_
 refine sq ?_;refine rl ?_;refine o1 ?_;refine nl ?_;refine sq ?_;refine rl ?_;refine o1 ?_;refine o1 ?_
 refine WL.cast (t:=6) (u':=.int .i64 ((l.length:Nat):Int)) rfl (congrArg (fun n:Nat=>Value.int .i64 (n:Int)) (aF _)) ?_
 refine o1 ?_;refine o1 ?_;refine WL.cast (t:=8) (u':=.int .i64 ((1:Nat):Int)) rfl rfl ?_;refine o1 ?_;refine o1 ?_;refine WL.split (t:=10) rfl (fun h1=>?_) (fun h1=>?_)
 ·(iterate 3 refine o1 ?_);refine WL.cast (t:=13) (u':=.int .i64 ((l.length:Nat):Int)) rfl (congrArg (fun n:Nat=>Value.int .i64 (n:Int)) (aF _)) ?_
  refine o1 ?_;refine o1 ?_;refine WL.cast (t:=15) (u':=.int .i64 ((1:Nat):Int)) rfl rfl ?_;refine o1 ?_
  refine WL.cast (t:=16) (u':=.int .i64 ((l.length-1:Nat):Int)) rfl (aH (by omega)) ?_
  refine o1 ?_ (hC:=(by rw[aF];omega))
  refine WL.cast (t:=17) (u':=.string (aC (l.drop (l.length-1)))) rfl (congrArg Value.string (iC _ _)) ?_;refine o1 ?_;refine o1 ?_
  refine WL.cast (t:=19) (u':=.bool (iK 37 l)) rfl (congrArg Value.bool (AZ (c:=37) (by omega) hl)) ?_
  refine o1 ?_;refine o1 ?_;refine nl ?_;refine rt ?_;exact gJ (.inl rfl) rfl (rfl)
 (iterate 9 refine cG ?_);refine o1 ?_;refine o1 ?_;refine nl ?_;refine rt ?_;exact gJ (.inl rfl) rfl (BA (by omega))
theorem Gy {l:List Nat}(hl:Lim 256 l) (hn:l.length≤1000000000):aE true Tryz.prog 76 [] [.one (tv (.string (aC l))),.one (tv (.string ⟨#[37]⟩))] (aM (.tup [.one (tv (.string (aC (cJ 37 l)))),.one (tv (.bool (iK 37 l)))])):=by
 refine bD Tryz.func76 rfl Tryz.ntmps76 rfl aA rfl fun N9 w9 c0 h0=>?_
 refine sq ?_;refine rl ?_;refine o1 ?_;refine o1 ?_;refine nl ?_;refine sq ?_;refine sq ?_;refine rl ?_;refine o1 ?_;refine o1 ?_
 refine ca (Gx hl hn) AY ⟨a1 rfl,a1 rfl,rfl⟩ (.one (tv (.bool (iK 37 l)))) ?_;refine WL.splitb (t:=8) rfl (fun h1=>?_) (fun h1=>?_)
 ·refine o1 ?_;refine nl ?_;refine fD rfl ?_;refine sk ?_;refine sq ?_;have h9:=Sy h1
  refine rl ?_;(iterate 3 refine o1 ?_);refine WL.cast (t:=13) (u':=.int .i64 ((l.length:Nat):Int)) rfl (congrArg (fun n:Nat=>Value.int .i64 (n:Int)) (aF _)) ?_
  refine o1 ?_;refine o1 ?_;refine WL.cast (t:=15) (u':=.int .i64 ((1:Nat):Int)) rfl rfl ?_;refine o1 ?_
  refine WL.cast (t:=16) (u':=.int .i64 ((l.length-1:Nat):Int)) rfl (aH (by omega)) ?_
  refine o1 ?_ (hC:=(by rw[aF];omega))
  refine WL.cast (t:=17) (u':=.string (aC (l.take (l.length-1)))) rfl (congrArg Value.string ((iE l 0 (l.length-1)).trans rfl)) ?_;refine o1 ?_;refine o1 ?_;refine nl ?_;refine rt ?_
  exact en (.inl rfl) rfl (dE (.cons (aP _) (.cons (aP _) .nil))) (by decide) (fun _=>⟨trivial,trivial,trivial⟩) (by rw[←uT h1,h1];rfl)
 refine o1 ?_;refine nl ?_;refine fV rfl ?_;refine sq ?_;refine rl ?_;(iterate 3 refine o1 ?_);refine nl ?_;refine rt ?_
 exact en (.inl rfl) rfl (dE (.cons (aP _) (.cons (aP _) .nil))) (by decide) (fun _=>⟨trivial,trivial,trivial⟩) (by rw[←BB h1,h1];rfl)
theorem Gz {l:List Nat}(hl:Lim 256 l) (hn:l.length≤1000000000):aE true Tryz.prog 32 [] [.one (tv (.string (aC l))),.one (tv (.string ⟨#[37]⟩))] (aM (.tup [.one (tv (.string (aC (cJ 37 l)))),.one (tv (.bool (iK 37 l)))])):=by
 refine bD Tryz.func32 rfl Tryz.ntmps32 rfl aA rfl fun N9 w9 c0 h0=>?_
 refine sq ?_;refine rl ?_;refine o1 ?_;refine o1 ?_;refine nl ?_;refine sq ?_;refine rl ?_;refine o1 ?_;refine o1 ?_
 refine ca (Gy hl hn) SX ⟨a1 rfl,a1 rfl,rfl⟩ (.tup [.one (tv (.string (aC (cJ 37 l)))),.one (tv (.bool (iK 37 l)))]) ?_;(iterate 4 refine o1 ?_);refine nl ?_;refine rt ?_
 exact en (.inl rfl) rfl (dE (.cons (aP _) (.cons (aP _) .nil))) (by decide) (fun _=>⟨trivial,trivial,trivial⟩) rfl
theorem Ha {l:List Nat}(hl:Lim 256 l) (hn:l.length≤1000000000):aE true Tryz.prog 128 [] [.one (tv (.string (aC l))),.one (tv (.string ⟨#[46]⟩))] (aM (.one (tv (.bool (iK 46 l))))):=by
 refine bD Tryz.func128 rfl Tryz.ntmps128 rfl aA rfl fun N9 w9 c0 h0=>?_
 refine sq ?_;refine rl ?_;refine o1 ?_;refine nl ?_;refine sq ?_;refine rl ?_;refine o1 ?_;refine o1 ?_
 refine WL.cast (t:=6) (u':=.int .i64 ((l.length:Nat):Int)) rfl (congrArg (fun n:Nat=>Value.int .i64 (n:Int)) (aF _)) ?_
 refine o1 ?_;refine o1 ?_;refine WL.cast (t:=8) (u':=.int .i64 ((1:Nat):Int)) rfl rfl ?_;refine o1 ?_;refine o1 ?_;refine WL.split (t:=10) rfl (fun h1=>?_) (fun h1=>?_)
 ·(iterate 3 refine o1 ?_);refine WL.cast (t:=13) (u':=.int .i64 ((l.length:Nat):Int)) rfl (congrArg (fun n:Nat=>Value.int .i64 (n:Int)) (aF _)) ?_
  refine o1 ?_;refine o1 ?_;refine WL.cast (t:=15) (u':=.int .i64 ((1:Nat):Int)) rfl rfl ?_;refine o1 ?_
  refine WL.cast (t:=16) (u':=.int .i64 ((l.length-1:Nat):Int)) rfl (aH (by omega)) ?_
  refine o1 ?_ (hC:=(by rw[aF];omega))
  refine WL.cast (t:=17) (u':=.string (aC (l.drop (l.length-1)))) rfl (congrArg Value.string (iC _ _)) ?_;refine o1 ?_;refine o1 ?_
  refine WL.cast (t:=19) (u':=.bool (iK 46 l)) rfl (congrArg Value.bool (AZ (c:=46) (by omega) hl)) ?_
  refine o1 ?_;refine o1 ?_;refine nl ?_;refine rt ?_;exact gJ (.inl rfl) rfl (rfl)
 (iterate 9 refine cG ?_);refine o1 ?_;refine o1 ?_;refine nl ?_;refine rt ?_;exact gJ (.inl rfl) rfl (BA (by omega))
theorem Ek {l:List Nat}(hl:Lim 256 l) (hn:l.length≤1000000000):aE true Tryz.prog 111 [] [.one (tv (.string (aC l))),.one (tv (.string ⟨#[46]⟩))] (aM (.one (tv (.string (aC (cJ 46 l)))))):=by
 refine bD Tryz.func111 rfl Tryz.ntmps111 rfl aA rfl fun N9 w9 c0 h0=>?_
 refine sq ?_;refine rl ?_;refine o1 ?_;refine nl ?_;refine sq ?_;refine sq ?_;refine rl ?_;refine o1 ?_;refine o1 ?_
 refine ca (Ha hl hn) AY ⟨a1 rfl,a1 rfl,rfl⟩ (.one (tv (.bool (iK 46 l)))) ?_;refine nl ?_;refine iW rfl (fun h1=>?_) (fun h1=>?_)
 ·refine sq ?_;have h9:=Sy h1
  refine rl ?_;(iterate 3 refine o1 ?_);refine WL.cast (t:=10) (u':=.int .i64 ((l.length:Nat):Int)) rfl (congrArg (fun n:Nat=>Value.int .i64 (n:Int)) (aF _)) ?_
  refine o1 ?_;refine o1 ?_;refine WL.cast (t:=12) (u':=.int .i64 ((1:Nat):Int)) rfl rfl ?_;refine o1 ?_
  refine WL.cast (t:=13) (u':=.int .i64 ((l.length-1:Nat):Int)) rfl (aH (by omega)) ?_
  refine o1 ?_ (hC:=(by rw[aF];omega))
  refine WL.cast (t:=14) (u':=.string (aC (l.take (l.length-1)))) rfl (congrArg Value.string ((iE l 0 (l.length-1)).trans rfl)) ?_;refine o1 ?_;refine nl ?_;refine rt ?_
  exact en (.inl rfl) rfl (aV (aP _)) (by decide) (fun _=>trivial) (congrArg (fun z=>FV.one (tv (.string z))) (congrArg aC (uT h1)))
 refine sk ?_;refine sq ?_;refine rl ?_;refine o1 ?_;refine o1 ?_;refine nl ?_;refine rt ?_
 exact en (.inl rfl) rfl (aV (aP _)) (by decide) (fun _=>trivial) (congrArg (fun z=>FV.one (tv (.string z))) (congrArg aC (BB h1)))
theorem El {l:List Nat}(hl:Lim 256 l) (hn:l.length≤1000000000):aE true Tryz.prog 57 [] [.one (tv (.string (aC l))),.one (tv (.string ⟨#[46]⟩))] (aM (.one (tv (.string (aC (cJ 46 l)))))):=by
 refine bD Tryz.func57 rfl Tryz.ntmps57 rfl aA rfl fun N9 w9 c0 h0=>?_
 refine sq ?_;refine rl ?_;refine o1 ?_;refine nl ?_;refine sq ?_;refine rl ?_;refine o1 ?_;refine o1 ?_
 refine ca (Ek hl hn) PC ⟨a1 rfl,a1 rfl,rfl⟩ (.one (tv (.string (aC (cJ 46 l))))) ?_;refine o1 ?_;refine nl ?_;refine rt ?_
 exact en (.inl rfl) rfl (aV (aP _)) (by decide) (fun _=>trivial) (congrArg (fun z=>FV.one (tv (.string z))) (rfl))
end Go.Proofs.YtcaakamelngceaaGreatDoor
