/- Part 9 of a proof: G2 to S6. -/
import Derived.Test.YtcaakamelngceaaGreatDoorM8
import Derived.Test.YtcaakamelngceaaGreatDoorM6
import Derived.Test.YtcaakamelngceaaGreatDoorM4
import Derived.Test.YtcaakamelngceaaGreatDoorM7
import Derived.Shelf.Strings.Repeat
import Derived.Shelf.Bits.Mul64
import Derived.Test.YtcaakamelngceaaGreatDoorProg
set_option maxRecDepth 100000
set_option linter.unusedVariables false
set_option linter.unusedSimpArgs false
namespace Go.Proofs.YtcaakamelngceaaGreatDoor
open Go Go.RowKit
theorem Dc {a b:Zi}{k k':Int}(ha:Zg a k) (hb:Zg b k'):aE true Tryz.prog 65 [] [gF a,gF b] (aN (kO (k*k'))):=by
 refine bF Tryz.func65 rfl Tryz.ntmps65 rfl aA rfl fun N w c0 h0=>?_
 have hkl:=ha.len
 have hkl':=hb.len
 refine sq ?_;refine rl ?_;refine bx 0 ?_;refine bx 1 ?_;refine al 2 ?_;refine nl ?_
 refine md (γ:=Unit) (fun _=>cE [(4,.one (.pt 0 0)),(5,.one (.pt 1 0)),(6,.one (.pt 2 0))]) (fun _=>([⟨25,0,[tv (.bool false),tv (.slice none 0 0)]⟩,⟨155,0,[tv (.bool (aL k)),.t (sU false (dg 4294967296 k.natAbs))]⟩,⟨155,0,[tv (.bool (aL k')),.t (sU false (dg 4294967296 k'.natAbs))]⟩]:List Ob).map some) (fun _=>True) ?_ fun _ _=>?_
 ·refine rd [0,1,2] (fun i=>[7].contains i) mixed ?_
  refine aW 0 ?_;refine aW 2 ?_;refine WO.three (i:=1) (j:=4) (m:=5) (by kernel_rfl) ?_ ?_ ?_
  ·refine cU 1 rfl (dL ha) cP ⟨aB rfl,rfl⟩ (kF (k)) ?_;refine WO.three (i:=3) (j:=4) (m:=5) (by kernel_rfl) ?_ ?_ ?_
   ·refine cU 3 rfl (dL hb) cP ⟨aB rfl,rfl⟩ (kF (k')) ?_;refine WO.two (i:=4) (j:=5) (by kernel_rfl) ?_ ?_
    ·refine bS (key:=3) 4 rfl rfl aA rfl ⟨rfl,rfl,rfl,trivial⟩ ?_;refine eH (key:=4) 5 (by kernel_rfl) rfl rfl aA rfl ⟨rfl,rfl,rfl,trivial⟩ ?_
     refine aS 6 (by kernel_rfl) rfl rfl aA rfl rfl rfl rfl ⟨rfl,rfl,rfl,trivial⟩ ?_
     refine dst 7 ?_;refine aU ?_;exact⟨(),trivial,aQ h0 [2,3,4] _ _ (by decide) ⟨rfl,rfl,rfl,trivial⟩ ⟨oe rfl rfl,oe rfl rfl,oe rfl rfl,rfl⟩⟩
    refine bS (key:=3) 5 rfl rfl aA rfl ⟨rfl,rfl,rfl,trivial⟩ ?_;refine eH (key:=4) 4 (by kernel_rfl) rfl rfl aA rfl ⟨rfl,rfl,rfl,trivial⟩ ?_
    refine aS 6 (by kernel_rfl) rfl rfl aA rfl rfl rfl rfl ⟨rfl,rfl,rfl,trivial⟩ ?_
    refine dst 7 ?_;refine aU ?_;exact⟨(),trivial,aQ h0 [2,4,3] _ _ (by decide) ⟨rfl,rfl,rfl,trivial⟩ ⟨oe rfl rfl,oe rfl rfl,oe rfl rfl,rfl⟩⟩
   ·refine bS (key:=3) 4 rfl rfl aA rfl ⟨rfl,rfl,rfl,trivial⟩ ?_;refine WO.two (i:=3) (j:=5) (by kernel_rfl) ?_ ?_
    ·refine cU 3 rfl (dL hb) cP ⟨aB rfl,rfl⟩ (kF (k')) ?_;refine eH (key:=4) 5 (by kernel_rfl) rfl rfl aA rfl ⟨rfl,rfl,rfl,trivial⟩ ?_
     refine aS 6 (by kernel_rfl) rfl rfl aA rfl rfl rfl rfl ⟨rfl,rfl,rfl,trivial⟩ ?_
     refine dst 7 ?_;refine aU ?_;exact⟨(),trivial,aQ h0 [2,3,4] _ _ (by decide) ⟨rfl,rfl,rfl,trivial⟩ ⟨oe rfl rfl,oe rfl rfl,oe rfl rfl,rfl⟩⟩
    refine bS (key:=4) 5 rfl rfl aA rfl ⟨rfl,rfl,rfl,trivial⟩ ?_;refine aJ 3 rfl (dL hb) cP ⟨aB rfl,rfl⟩ (kF (k')) ?_
    refine aS 6 (by kernel_rfl) rfl rfl aA rfl rfl rfl rfl ⟨rfl,rfl,rfl,trivial⟩ ?_
    refine dst 7 ?_;refine aU ?_;exact⟨(),trivial,aQ h0 [2,3,4] _ _ (by decide) ⟨rfl,rfl,rfl,trivial⟩ ⟨oe rfl rfl,oe rfl rfl,oe rfl rfl,rfl⟩⟩
   refine bS (key:=3) 5 rfl rfl aA rfl ⟨rfl,rfl,rfl,trivial⟩ ?_;refine WO.two (i:=3) (j:=4) (by kernel_rfl) ?_ ?_
   ·refine cU 3 rfl (dL hb) cP ⟨aB rfl,rfl⟩ (kF (k')) ?_;refine eH (key:=4) 4 (by kernel_rfl) rfl rfl aA rfl ⟨rfl,rfl,rfl,trivial⟩ ?_
    refine aS 6 (by kernel_rfl) rfl rfl aA rfl rfl rfl rfl ⟨rfl,rfl,rfl,trivial⟩ ?_
    refine dst 7 ?_;refine aU ?_;exact⟨(),trivial,aQ h0 [2,4,3] _ _ (by decide) ⟨rfl,rfl,rfl,trivial⟩ ⟨oe rfl rfl,oe rfl rfl,oe rfl rfl,rfl⟩⟩
   refine bS (key:=4) 4 rfl rfl aA rfl ⟨rfl,rfl,rfl,trivial⟩ ?_;refine aJ 3 rfl (dL hb) cP ⟨aB rfl,rfl⟩ (kF (k')) ?_
   refine aS 6 (by kernel_rfl) rfl rfl aA rfl rfl rfl rfl ⟨rfl,rfl,rfl,trivial⟩ ?_
   refine dst 7 ?_;refine aU ?_;exact⟨(),trivial,aQ h0 [2,4,3] _ _ (by decide) ⟨rfl,rfl,rfl,trivial⟩ ⟨oe rfl rfl,oe rfl rfl,oe rfl rfl,rfl⟩⟩
  ·refine bS (key:=3) 4 rfl rfl aA rfl ⟨rfl,rfl,rfl,trivial⟩ ?_;refine WO.two (i:=1) (j:=5) (by kernel_rfl) ?_ ?_
   ·refine cU 1 rfl (dL ha) cP ⟨aB rfl,rfl⟩ (kF (k)) ?_;refine WO.two (i:=3) (j:=5) (by kernel_rfl) ?_ ?_
    ·refine cU 3 rfl (dL hb) cP ⟨aB rfl,rfl⟩ (kF (k')) ?_;refine eH (key:=4) 5 (by kernel_rfl) rfl rfl aA rfl ⟨rfl,rfl,rfl,trivial⟩ ?_
     refine aS 6 (by kernel_rfl) rfl rfl aA rfl rfl rfl rfl ⟨rfl,rfl,rfl,trivial⟩ ?_
     refine dst 7 ?_;refine aU ?_;exact⟨(),trivial,aQ h0 [2,3,4] _ _ (by decide) ⟨rfl,rfl,rfl,trivial⟩ ⟨oe rfl rfl,oe rfl rfl,oe rfl rfl,rfl⟩⟩
    refine bS (key:=4) 5 rfl rfl aA rfl ⟨rfl,rfl,rfl,trivial⟩ ?_;refine aJ 3 rfl (dL hb) cP ⟨aB rfl,rfl⟩ (kF (k')) ?_
    refine aS 6 (by kernel_rfl) rfl rfl aA rfl rfl rfl rfl ⟨rfl,rfl,rfl,trivial⟩ ?_
    refine dst 7 ?_;refine aU ?_;exact⟨(),trivial,aQ h0 [2,3,4] _ _ (by decide) ⟨rfl,rfl,rfl,trivial⟩ ⟨oe rfl rfl,oe rfl rfl,oe rfl rfl,rfl⟩⟩
   refine bS (key:=4) 5 rfl rfl aA rfl ⟨rfl,rfl,rfl,trivial⟩ ?_;refine aJ 1 rfl (dL ha) cP ⟨aB rfl,rfl⟩ (kF (k)) ?_;refine aJ 3 rfl (dL hb) cP ⟨aB rfl,rfl⟩ (kF (k')) ?_
   refine aS 6 (by kernel_rfl) rfl rfl aA rfl rfl rfl rfl ⟨rfl,rfl,rfl,trivial⟩ ?_
   refine dst 7 ?_;refine aU ?_;exact⟨(),trivial,aQ h0 [2,3,4] _ _ (by decide) ⟨rfl,rfl,rfl,trivial⟩ ⟨oe rfl rfl,oe rfl rfl,oe rfl rfl,rfl⟩⟩
  refine bS (key:=3) 5 rfl rfl aA rfl ⟨rfl,rfl,rfl,trivial⟩ ?_;refine WO.two (i:=1) (j:=4) (by kernel_rfl) ?_ ?_
  ·refine cU 1 rfl (dL ha) cP ⟨aB rfl,rfl⟩ (kF (k)) ?_;refine WO.two (i:=3) (j:=4) (by kernel_rfl) ?_ ?_
   ·refine cU 3 rfl (dL hb) cP ⟨aB rfl,rfl⟩ (kF (k')) ?_;refine eH (key:=4) 4 (by kernel_rfl) rfl rfl aA rfl ⟨rfl,rfl,rfl,trivial⟩ ?_
    refine aS 6 (by kernel_rfl) rfl rfl aA rfl rfl rfl rfl ⟨rfl,rfl,rfl,trivial⟩ ?_
    refine dst 7 ?_;refine aU ?_;exact⟨(),trivial,aQ h0 [2,4,3] _ _ (by decide) ⟨rfl,rfl,rfl,trivial⟩ ⟨oe rfl rfl,oe rfl rfl,oe rfl rfl,rfl⟩⟩
   refine bS (key:=4) 4 rfl rfl aA rfl ⟨rfl,rfl,rfl,trivial⟩ ?_;refine aJ 3 rfl (dL hb) cP ⟨aB rfl,rfl⟩ (kF (k')) ?_
   refine aS 6 (by kernel_rfl) rfl rfl aA rfl rfl rfl rfl ⟨rfl,rfl,rfl,trivial⟩ ?_
   refine dst 7 ?_;refine aU ?_;exact⟨(),trivial,aQ h0 [2,4,3] _ _ (by decide) ⟨rfl,rfl,rfl,trivial⟩ ⟨oe rfl rfl,oe rfl rfl,oe rfl rfl,rfl⟩⟩
  refine bS (key:=4) 4 rfl rfl aA rfl ⟨rfl,rfl,rfl,trivial⟩ ?_;refine aJ 1 rfl (dL ha) cP ⟨aB rfl,rfl⟩ (kF (k)) ?_;refine aJ 3 rfl (dL hb) cP ⟨aB rfl,rfl⟩ (kF (k')) ?_
  refine aS 6 (by kernel_rfl) rfl rfl aA rfl rfl rfl rfl ⟨rfl,rfl,rfl,trivial⟩ ?_
  refine dst 7 ?_;refine aU ?_;exact⟨(),trivial,aQ h0 [2,4,3] _ _ (by decide) ⟨rfl,rfl,rfl,trivial⟩ ⟨oe rfl rfl,oe rfl rfl,oe rfl rfl,rfl⟩⟩
 refine sq ?_;refine rd [0,1,2] (fun i=>[15].contains i) mixed ?_
 refine dv 0 ?_;refine dv 1 ?_;refine aW 2 ?_;refine dv 3 ?_;refine dv 4 ?_;refine aW 5 ?_;refine dv 6 ?_;refine dv 7 ?_;refine dv 8 ?_;refine aW 9 ?_;refine dv 10 ?_;refine dv 11 ?_
 refine aW 12 ?_
 have hA:aE true Tryz.prog 119 [] [.one (.t (sU false (dg 4294967296 k.natAbs))),.one (.t (sU false (dg 4294967296 k'.natAbs)))] (aN (.one (.t (sU true (dg 4294967296 (k.natAbs*k'.natAbs)))))):=by have h9:=Yg (aM (by omega) k.natAbs) (aM (by omega) k'.natAbs) (by omega) (by omega);rwa[bD,bD]at h9
 refine oT 3 13 rfl hA Yh ⟨a1 rfl,a1 rfl,rfl⟩ ?_
 refine yZ 14 4 [3] rfl (gG (b:=(aL k != aL k')) (m:=(k.natAbs*k'.natAbs)) (K:=k*k') (Mc k k')) jV ⟨cV rfl,rfl⟩ ⟨rfl,rfl,rfl⟩ ⟨rfl,rfl,rfl,trivial⟩ ?_
 refine dst 15 ?_;refine aU ?_;refine rt ?_
 exact en (.inl rfl) rfl (aV (.agg (.cons (.id rfl) (.cons (.sl (trs:=aR (dg 4294967296 ((k*k')).natAbs)) rfl rfl (bL _) (aX _)) .nil)))) (by decide) (fun _=>dV ((k*k'))) rfl
theorem Ye {a b:Zi}{k k':Int}(ha:Zg a k) (hb:Zg b k'):aE true Tryz.prog 157 [] [gF a,gF b] (aN (kO (((Int.gcd k k'):Nat):Int))):=by
 refine bF Tryz.func157 rfl Tryz.ntmps157 rfl aA rfl fun N w c0 h0=>?_
 have hkl:=ha.len
 have hkl':=hb.len
 refine sq ?_;refine rl ?_;refine bx 0 ?_;refine bx 1 ?_;refine al 2 ?_;refine nl ?_;refine sq ?_;refine rd [0,1,2] (fun i=>[11].contains i) mixed ?_
 refine aW 0 ?_;refine aW 4 ?_;refine aJ 1 rfl (dL ha) cP ⟨aB rfl,rfl⟩ (kF (k)) ?_;refine df 2 ?_;refine df 3 ?_;refine aJ 5 rfl (dL hb) cP ⟨aB rfl,rfl⟩ (kF (k')) ?_
 refine df 6 ?_;refine df 7 ?_;refine Nk (key:=3) 8 (by kernel_rfl) rfl rfl aA rfl ⟨rfl,rfl,rfl,trivial⟩ ?_
 refine PM (i:=13) (k:=3) (t:=23) (t':=23) (z:=1) (n:=2) (l:=[sU false (dg 4294967296 k.natAbs),sU false (dg 4294967296 k'.natAbs)]) rfl rfl rfl rfl (.one .sl) (by rfl) (by rfl) ?_
 have hA:aE true Tryz.prog 173 [] [.one (.t (.s false 23 1 2 [sU false (dg 4294967296 k.natAbs),sU false (dg 4294967296 k'.natAbs)]))] (aN (.one (.t (sU true (dg 4294967296 (Int.gcd k k')))))):=by
  have h9:=PD (t:=23) (aM (by omega) k.natAbs) (aM (by omega) k'.natAbs) (by omega) (by omega)
  rwa[show oL [dg 4294967296 k.natAbs,dg 4294967296 k'.natAbs]=(Int.gcd k k') by simp only[oL,List.foldl_cons,List.foldl_nil,bD,Nat.gcd_zero_left];rfl]at h9
 refine oT 4 9 rfl hA OJ ⟨a1 rfl,rfl⟩ ?_
 refine yZ 10 5 [4] rfl (gG (b:=false) (m:=(Int.gcd k k')) (K:=(((Int.gcd k k'):Nat):Int)) (by simp[bG])) jV ⟨cV rfl,rfl⟩ ⟨rfl,rfl,rfl⟩ ⟨rfl,rfl,rfl,trivial⟩ ?_
 refine dst 11 ?_;refine aU ?_;refine rt ?_
 exact en (.inl rfl) rfl (aV (.agg (.cons (.id rfl) (.cons (.sl (trs:=aR (dg 4294967296 ((((Int.gcd k k'):Nat):Int)).natAbs)) rfl rfl (bL _) (aX _)) .nil)))) (by decide) (fun _=>dV ((((Int.gcd k k'):Nat):Int))) rfl
theorem kL (xs:List Nat):((aR xs).map AV.t).take (aR xs).length=(aR xs).map .t:=List.take_of_length_le (by simp)
theorem nZ {a b:Zi}{k k':Int}(ha:Zg a k) (hb:Zg b k') (hz0:k'≠0):aE true Tryz.prog 158 [] [gF a,gF b] (aN (.tup [kO (k.fdiv k'),kO (k.fmod k'),.one (tv (.int .i64 0))])):=by
 refine bF Tryz.func158 rfl Tryz.ntmps158 rfl aA rfl fun N w c0 h0=>?_
 have hkl:=ha.len
 have hkl':=hb.len
 have hq:(dg 4294967296 (k.natAbs/k'.natAbs)).length≤300000000000:=Nat.le_trans (dC (Nat.div_le_self _ _)) hkl
 have hr0:=Nat.mod_lt k.natAbs (show 0<k'.natAbs by omega)
 have hrl:(dg 4294967296 (k.natAbs%k'.natAbs)).length≤300000000000:=Nat.le_trans (dC (Nat.le_of_lt hr0)) hkl'
 refine sq ?_;refine rl ?_;refine bx 0 ?_;refine bx 1 ?_;refine al 2 ?_;refine al 3 ?_;refine o1 ?_;refine nl ?_
 refine md (γ:=Unit) (fun _=>cE [(4,.one (.pt 0 0)),(5,.one (.pt 1 0)),(6,.one (tv (.int .i64 ((0:Nat):Int)))),(7,.one (.pt 2 0)),(8,.one (.pt 3 0))]) (fun _=>([⟨25,0,[tv (.bool false),tv (.slice none 0 0)]⟩,⟨25,0,[tv (.bool false),tv (.slice none 0 0)]⟩,⟨155,0,[tv (.bool (aL k)),.t (sU false (dg 4294967296 k.natAbs))]⟩,⟨155,0,[tv (.bool (aL k')),.t (sU false (dg 4294967296 k'.natAbs))]⟩]:List Ob).map some) (fun _=>True) ?_ fun _ _=>?_
 ·refine rd [0,1,2,3] (fun i=>[7].contains i) mixed ?_
  refine aW 0 ?_;refine aW 2 ?_;refine WO.three (i:=1) (j:=4) (m:=5) (by kernel_rfl) ?_ ?_ ?_
  ·refine cU 1 rfl (dL ha) cP ⟨aB rfl,rfl⟩ (kF (k)) ?_;refine WO.three (i:=3) (j:=4) (m:=5) (by kernel_rfl) ?_ ?_ ?_
   ·refine cU 3 rfl (dL hb) cP ⟨aB rfl,rfl⟩ (kF (k')) ?_;refine WO.two (i:=4) (j:=5) (by kernel_rfl) ?_ ?_
    ·refine bS (key:=4) 4 rfl rfl aA rfl ⟨rfl,rfl,rfl,rfl,trivial⟩ ?_;refine eH (key:=5) 5 (by kernel_rfl) rfl rfl aA rfl ⟨rfl,rfl,rfl,rfl,trivial⟩ ?_
     refine aS 6 (by kernel_rfl) rfl rfl aA rfl rfl rfl rfl ⟨rfl,rfl,rfl,rfl,trivial⟩ ?_
     refine dst 7 ?_;refine aU ?_;exact⟨(),trivial,aQ h0 [2,3,4,5] _ _ (by decide) ⟨rfl,rfl,rfl,rfl,rfl,trivial⟩ ⟨oe rfl rfl,oe rfl rfl,oe rfl rfl,oe rfl rfl,rfl⟩⟩
    refine bS (key:=4) 5 rfl rfl aA rfl ⟨rfl,rfl,rfl,rfl,trivial⟩ ?_;refine eH (key:=5) 4 (by kernel_rfl) rfl rfl aA rfl ⟨rfl,rfl,rfl,rfl,trivial⟩ ?_
    refine aS 6 (by kernel_rfl) rfl rfl aA rfl rfl rfl rfl ⟨rfl,rfl,rfl,rfl,trivial⟩ ?_
    refine dst 7 ?_;refine aU ?_;exact⟨(),trivial,aQ h0 [2,3,5,4] _ _ (by decide) ⟨rfl,rfl,rfl,rfl,rfl,trivial⟩ ⟨oe rfl rfl,oe rfl rfl,oe rfl rfl,oe rfl rfl,rfl⟩⟩
   ·refine bS (key:=4) 4 rfl rfl aA rfl ⟨rfl,rfl,rfl,rfl,trivial⟩ ?_;refine WO.two (i:=3) (j:=5) (by kernel_rfl) ?_ ?_
    ·refine cU 3 rfl (dL hb) cP ⟨aB rfl,rfl⟩ (kF (k')) ?_;refine eH (key:=5) 5 (by kernel_rfl) rfl rfl aA rfl ⟨rfl,rfl,rfl,rfl,trivial⟩ ?_
     refine aS 6 (by kernel_rfl) rfl rfl aA rfl rfl rfl rfl ⟨rfl,rfl,rfl,rfl,trivial⟩ ?_
     refine dst 7 ?_;refine aU ?_;exact⟨(),trivial,aQ h0 [2,3,4,5] _ _ (by decide) ⟨rfl,rfl,rfl,rfl,rfl,trivial⟩ ⟨oe rfl rfl,oe rfl rfl,oe rfl rfl,oe rfl rfl,rfl⟩⟩
    refine bS (key:=5) 5 rfl rfl aA rfl ⟨rfl,rfl,rfl,rfl,trivial⟩ ?_;refine aJ 3 rfl (dL hb) cP ⟨aB rfl,rfl⟩ (kF (k')) ?_
    refine aS 6 (by kernel_rfl) rfl rfl aA rfl rfl rfl rfl ⟨rfl,rfl,rfl,rfl,trivial⟩ ?_
    refine dst 7 ?_;refine aU ?_;exact⟨(),trivial,aQ h0 [2,3,4,5] _ _ (by decide) ⟨rfl,rfl,rfl,rfl,rfl,trivial⟩ ⟨oe rfl rfl,oe rfl rfl,oe rfl rfl,oe rfl rfl,rfl⟩⟩
   refine bS (key:=4) 5 rfl rfl aA rfl ⟨rfl,rfl,rfl,rfl,trivial⟩ ?_;refine WO.two (i:=3) (j:=4) (by kernel_rfl) ?_ ?_
   ·refine cU 3 rfl (dL hb) cP ⟨aB rfl,rfl⟩ (kF (k')) ?_;refine eH (key:=5) 4 (by kernel_rfl) rfl rfl aA rfl ⟨rfl,rfl,rfl,rfl,trivial⟩ ?_
    refine aS 6 (by kernel_rfl) rfl rfl aA rfl rfl rfl rfl ⟨rfl,rfl,rfl,rfl,trivial⟩ ?_
    refine dst 7 ?_;refine aU ?_;exact⟨(),trivial,aQ h0 [2,3,5,4] _ _ (by decide) ⟨rfl,rfl,rfl,rfl,rfl,trivial⟩ ⟨oe rfl rfl,oe rfl rfl,oe rfl rfl,oe rfl rfl,rfl⟩⟩
   refine bS (key:=5) 4 rfl rfl aA rfl ⟨rfl,rfl,rfl,rfl,trivial⟩ ?_;refine aJ 3 rfl (dL hb) cP ⟨aB rfl,rfl⟩ (kF (k')) ?_
   refine aS 6 (by kernel_rfl) rfl rfl aA rfl rfl rfl rfl ⟨rfl,rfl,rfl,rfl,trivial⟩ ?_
   refine dst 7 ?_;refine aU ?_;exact⟨(),trivial,aQ h0 [2,3,5,4] _ _ (by decide) ⟨rfl,rfl,rfl,rfl,rfl,trivial⟩ ⟨oe rfl rfl,oe rfl rfl,oe rfl rfl,oe rfl rfl,rfl⟩⟩
  ·refine bS (key:=4) 4 rfl rfl aA rfl ⟨rfl,rfl,rfl,rfl,trivial⟩ ?_;refine WO.two (i:=1) (j:=5) (by kernel_rfl) ?_ ?_
   ·refine cU 1 rfl (dL ha) cP ⟨aB rfl,rfl⟩ (kF (k)) ?_;refine WO.two (i:=3) (j:=5) (by kernel_rfl) ?_ ?_
    ·refine cU 3 rfl (dL hb) cP ⟨aB rfl,rfl⟩ (kF (k')) ?_;refine eH (key:=5) 5 (by kernel_rfl) rfl rfl aA rfl ⟨rfl,rfl,rfl,rfl,trivial⟩ ?_
     refine aS 6 (by kernel_rfl) rfl rfl aA rfl rfl rfl rfl ⟨rfl,rfl,rfl,rfl,trivial⟩ ?_
     refine dst 7 ?_;refine aU ?_;exact⟨(),trivial,aQ h0 [2,3,4,5] _ _ (by decide) ⟨rfl,rfl,rfl,rfl,rfl,trivial⟩ ⟨oe rfl rfl,oe rfl rfl,oe rfl rfl,oe rfl rfl,rfl⟩⟩
    refine bS (key:=5) 5 rfl rfl aA rfl ⟨rfl,rfl,rfl,rfl,trivial⟩ ?_;refine aJ 3 rfl (dL hb) cP ⟨aB rfl,rfl⟩ (kF (k')) ?_
    refine aS 6 (by kernel_rfl) rfl rfl aA rfl rfl rfl rfl ⟨rfl,rfl,rfl,rfl,trivial⟩ ?_
    refine dst 7 ?_;refine aU ?_;exact⟨(),trivial,aQ h0 [2,3,4,5] _ _ (by decide) ⟨rfl,rfl,rfl,rfl,rfl,trivial⟩ ⟨oe rfl rfl,oe rfl rfl,oe rfl rfl,oe rfl rfl,rfl⟩⟩
   refine bS (key:=5) 5 rfl rfl aA rfl ⟨rfl,rfl,rfl,rfl,trivial⟩ ?_;refine aJ 1 rfl (dL ha) cP ⟨aB rfl,rfl⟩ (kF (k)) ?_
   refine aJ 3 rfl (dL hb) cP ⟨aB rfl,rfl⟩ (kF (k')) ?_;refine aS 6 (by kernel_rfl) rfl rfl aA rfl rfl rfl rfl ⟨rfl,rfl,rfl,rfl,trivial⟩ ?_
   refine dst 7 ?_;refine aU ?_;exact⟨(),trivial,aQ h0 [2,3,4,5] _ _ (by decide) ⟨rfl,rfl,rfl,rfl,rfl,trivial⟩ ⟨oe rfl rfl,oe rfl rfl,oe rfl rfl,oe rfl rfl,rfl⟩⟩
  refine bS (key:=4) 5 rfl rfl aA rfl ⟨rfl,rfl,rfl,rfl,trivial⟩ ?_;refine WO.two (i:=1) (j:=4) (by kernel_rfl) ?_ ?_
  ·refine cU 1 rfl (dL ha) cP ⟨aB rfl,rfl⟩ (kF (k)) ?_;refine WO.two (i:=3) (j:=4) (by kernel_rfl) ?_ ?_
   ·refine cU 3 rfl (dL hb) cP ⟨aB rfl,rfl⟩ (kF (k')) ?_;refine eH (key:=5) 4 (by kernel_rfl) rfl rfl aA rfl ⟨rfl,rfl,rfl,rfl,trivial⟩ ?_
    refine aS 6 (by kernel_rfl) rfl rfl aA rfl rfl rfl rfl ⟨rfl,rfl,rfl,rfl,trivial⟩ ?_
    refine dst 7 ?_;refine aU ?_;exact⟨(),trivial,aQ h0 [2,3,5,4] _ _ (by decide) ⟨rfl,rfl,rfl,rfl,rfl,trivial⟩ ⟨oe rfl rfl,oe rfl rfl,oe rfl rfl,oe rfl rfl,rfl⟩⟩
   refine bS (key:=5) 4 rfl rfl aA rfl ⟨rfl,rfl,rfl,rfl,trivial⟩ ?_;refine aJ 3 rfl (dL hb) cP ⟨aB rfl,rfl⟩ (kF (k')) ?_
   refine aS 6 (by kernel_rfl) rfl rfl aA rfl rfl rfl rfl ⟨rfl,rfl,rfl,rfl,trivial⟩ ?_
   refine dst 7 ?_;refine aU ?_;exact⟨(),trivial,aQ h0 [2,3,5,4] _ _ (by decide) ⟨rfl,rfl,rfl,rfl,rfl,trivial⟩ ⟨oe rfl rfl,oe rfl rfl,oe rfl rfl,oe rfl rfl,rfl⟩⟩
  refine bS (key:=5) 4 rfl rfl aA rfl ⟨rfl,rfl,rfl,rfl,trivial⟩ ?_;refine aJ 1 rfl (dL ha) cP ⟨aB rfl,rfl⟩ (kF (k)) ?_
  refine aJ 3 rfl (dL hb) cP ⟨aB rfl,rfl⟩ (kF (k')) ?_;refine aS 6 (by kernel_rfl) rfl rfl aA rfl rfl rfl rfl ⟨rfl,rfl,rfl,rfl,trivial⟩ ?_
  refine dst 7 ?_;refine aU ?_;exact⟨(),trivial,aQ h0 [2,3,5,4] _ _ (by decide) ⟨rfl,rfl,rfl,rfl,rfl,trivial⟩ ⟨oe rfl rfl,oe rfl rfl,oe rfl rfl,oe rfl rfl,rfl⟩⟩
 refine sq ?_;refine rl ?_;refine o1 ?_;refine o1 ?_;refine ld ?_;refine o1 ?_;refine o1 ?_;refine ld ?_
 have hD:aE true Tryz.prog 174 [] [.one (.t (sU false (dg 4294967296 k.natAbs))),.one (.t (sU false (dg 4294967296 k'.natAbs)))] (aN (.tup [.one (.t (sU true (dg 4294967296 (k.natAbs/k'.natAbs)))),.one (.t (sU true (dg 4294967296 (k.natAbs%k'.natAbs)))),.one (tv (.int .i64 0))])):=by
  have h9:=Xq (aM (by omega) k.natAbs) (aM (by omega) k'.natAbs) (by omega) (by omega) (by rw[bD];omega)
  rwa[bD,bD]at h9
 refine gH 4 hD OK ⟨a1 rfl,a1 rfl,rfl⟩ ?_;(iterate 7 refine o1 ?_);refine nl ?_;refine sq ?_;refine sq ?_;refine rl ?_;refine o1 ?_;refine o1 ?_;refine nl ?_
 refine bR rfl (fun h1=>?_) (fun h1=>?_)
 ·exact absurd rfl h1
 refine sk ?_;refine sq ?_;refine sq ?_;refine rl ?_;refine o1 ?_;refine o1 ?_;refine ld ?_;refine o1 ?_;refine o1 ?_;refine ld ?_;refine o1 ?_;refine o1 ?_
 refine WL.splitb (t:=37) rfl (fun h2=>?_) (fun h2=>?_)
 ·(iterate 4 refine o1 ?_);refine nl ?_;refine bR rfl (fun h3=>?_) (fun h3=>?_)
  ·refine sq ?_;refine rl ?_;refine o1 ?_;refine bs 6 ?_
   have hA:aE true Tryz.prog 165 [] [.one (.t (sU false (dg 4294967296 (k.natAbs/k'.natAbs)))),.one (.t (sU false [1]))] (aN (.one (.t (sU true (dg 4294967296 ((k.natAbs/k'.natAbs)+1)))))):=by
    have h9:=Pn (aM (by omega) (k.natAbs/k'.natAbs)) (Lim.cons (show 1<4294967296 by omega) Lim.nil) (by omega) (by simp)
    rwa[bK (by omega),show vl 4294967296 [1]=1 from rfl]at h9
   refine gH 7 hA uV ⟨nY rfl (.sl rfl rfl (kL _) (aX _)),nY rfl (.sl (trs:=aR [1]) rfl rfl rfl rfl),rfl⟩ ?_;refine o1 ?_;refine nl ?_;refine rl ?_;refine o1 ?_
   refine o1 ?_;refine ld ?_;refine o1 ?_
   have hS:aE true Tryz.prog 175 [] [.one (.t (sU false (dg 4294967296 k'.natAbs))),.one (.t (sU false (dg 4294967296 (k.natAbs%k'.natAbs))))] (aN (.tup [.one (.t (sU true (dg 4294967296 (k'.natAbs-(k.natAbs%k'.natAbs))))),.one (tv (.int .i64 0))])):=by
    have h9:=Po (aM (by omega) k'.natAbs) (aM (by omega) (k.natAbs%k'.natAbs)) (by omega) (by rw[bD,bK (by omega)];omega)
    rwa[bD,bK (by omega)]at h9
   refine gH 8 hS Oq ⟨a1 rfl,nY rfl (.sl rfl rfl (kL _) (aX _)),rfl⟩ ?_;(iterate 4 refine o1 ?_);refine nl ?_;refine sq ?_
   have hd:k.fdiv k'=bG (aL k != aL k') ((k.natAbs/k'.natAbs)+1)∧k.fmod k'=bG (aL k') (k'.natAbs-(k.natAbs%k'.natAbs)):=by
    have h9:aL k≠aL k':=by simpa using h2
    have h7:k.natAbs%k'.natAbs≠0:=by have h5:=kE (m:=(k.natAbs%k'.natAbs)) rfl;rw[decide_eq_true (by omega)]at h5;have h6:=of_decide_eq_true h5.symm;omega
    have h8:=DN (a:=k) (b:=k') hz0 h9 h7
    rw[h2];exact h8
   refine rd [1,2,3,6] (fun i=>[15,16].contains i) mixed ?_
   refine dv 0 ?_;refine dv 1 ?_;refine aW 2 ?_;refine dv 3 ?_;refine dv 4 ?_;refine aW 5 ?_;refine dv 6 ?_;refine dv 7 ?_;refine dv 9 ?_;refine dv 10 ?_;refine aW 11 ?_
   refine dv 12 ?_
   refine yZ 8 9 [7] rfl (gG (b:=(aL k != aL k')) (m:=((k.natAbs/k'.natAbs)+1)) (K:=(k.fdiv k')) hd.1.symm) jV ⟨cV rfl,rfl⟩ ⟨rfl,rfl,rfl⟩ ⟨rfl,rfl,rfl,rfl,trivial⟩ ?_
   refine yZ 13 10 [8] rfl (gG (b:=(aL k')) (m:=(k'.natAbs-(k.natAbs%k'.natAbs))) (K:=(k.fmod k')) hd.2.symm) jV ⟨cV rfl,rfl⟩ ⟨rfl,rfl,rfl⟩ ⟨rfl,rfl,rfl,rfl,trivial⟩ ?_
   refine aS 14 (by kernel_rfl) rfl rfl aA rfl rfl rfl rfl ⟨rfl,rfl,rfl,rfl,trivial⟩ ?_
   refine dst 15 ?_;refine cZ 16 (by kernel_rfl) rfl rfl aA rfl (by trivial) ?_ (fun h=>by first | rfl | cases h)
   refine aU ?_;refine rt ?_
   exact en (.inl rfl) rfl (gI (.cons (.agg (.cons (.id rfl) (.cons (.sl (trs:=aR (dg 4294967296 ((k.fdiv k')).natAbs)) rfl rfl (bL _) (aX _)) .nil))) (.cons (.agg (.cons (.id rfl) (.cons (.sl (trs:=aR (dg 4294967296 ((k.fmod k')).natAbs)) rfl rfl (bL _) (aX _)) .nil))) (.cons (aO (.int .i64 0)) .nil)))) (by decide) (fun _=>⟨dV (k.fdiv k'),dV (k.fmod k'),trivial,trivial⟩) rfl
  refine sk ?_;refine sq ?_;have hd:k.fdiv k'=bG (aL k != aL k') (k.natAbs/k'.natAbs)∧k.fmod k'=bG (aL k') (k.natAbs%k'.natAbs):=by
   have h9:aL k≠aL k':=by simpa using h2
   have h7:k.natAbs%k'.natAbs=0:=by have h5:=kE (m:=(k.natAbs%k'.natAbs)) rfl;rw[decide_eq_false (by omega)]at h5;have h6:=of_decide_eq_false h5.symm;omega
   have h8:=DM (a:=k) (b:=k') hz0 h9 h7
   rw[h2];exact h8
  refine rd [1,2,3] (fun i=>[15,16].contains i) mixed ?_
  refine dv 0 ?_;refine dv 1 ?_;refine aW 2 ?_;refine dv 3 ?_;refine dv 4 ?_;refine aW 5 ?_;refine dv 6 ?_;refine dv 7 ?_;refine dv 9 ?_;refine dv 10 ?_;refine aW 11 ?_
  refine dv 12 ?_
  refine yZ 8 6 [4] rfl (gG (b:=(aL k != aL k')) (m:=(k.natAbs/k'.natAbs)) (K:=(k.fdiv k')) hd.1.symm) jV ⟨cV rfl,rfl⟩ ⟨rfl,rfl,rfl⟩ ⟨rfl,rfl,rfl,trivial⟩ ?_
  refine yZ 13 7 [5] rfl (gG (b:=(aL k')) (m:=(k.natAbs%k'.natAbs)) (K:=(k.fmod k')) hd.2.symm) jV ⟨cV rfl,rfl⟩ ⟨rfl,rfl,rfl⟩ ⟨rfl,rfl,rfl,trivial⟩ ?_
  refine aS 14 (by kernel_rfl) rfl rfl aA rfl rfl rfl rfl ⟨rfl,rfl,rfl,trivial⟩ ?_
  refine dst 15 ?_;refine cZ 16 (by kernel_rfl) rfl rfl aA rfl (by trivial) ?_ (fun h=>by first | rfl | cases h)
  refine aU ?_;refine rt ?_
  exact en (.inl rfl) rfl (gI (.cons (.agg (.cons (.id rfl) (.cons (.sl (trs:=aR (dg 4294967296 ((k.fdiv k')).natAbs)) rfl rfl (bL _) (aX _)) .nil))) (.cons (.agg (.cons (.id rfl) (.cons (.sl (trs:=aR (dg 4294967296 ((k.fmod k')).natAbs)) rfl rfl (bL _) (aX _)) .nil))) (.cons (aO (.int .i64 0)) .nil)))) (by decide) (fun _=>⟨dV (k.fdiv k'),dV (k.fmod k'),trivial,trivial⟩) rfl
 (iterate 3 refine cH ?_);refine o1 ?_;refine nl ?_;refine fW rfl ?_;refine sk ?_;refine sq ?_
 have hd:k.fdiv k'=bG (aL k != aL k') (k.natAbs/k'.natAbs)∧k.fmod k'=bG (aL k') (k.natAbs%k'.natAbs):=by
  have h9:aL k=aL k':=by simpa using h2
  have h8:=DL (a:=k) (b:=k') hz0 h9
  rw[h2];exact h8
 refine rd [1,2,3] (fun i=>[15,16].contains i) mixed ?_
 refine dv 0 ?_;refine dv 1 ?_;refine aW 2 ?_;refine dv 3 ?_;refine dv 4 ?_;refine aW 5 ?_;refine dv 6 ?_;refine dv 7 ?_;refine dv 9 ?_;refine dv 10 ?_;refine aW 11 ?_
 refine dv 12 ?_
 refine yZ 8 6 [4] rfl (gG (b:=(aL k != aL k')) (m:=(k.natAbs/k'.natAbs)) (K:=(k.fdiv k')) hd.1.symm) jV ⟨cV rfl,rfl⟩ ⟨rfl,rfl,rfl⟩ ⟨rfl,rfl,rfl,trivial⟩ ?_
 refine yZ 13 7 [5] rfl (gG (b:=(aL k')) (m:=(k.natAbs%k'.natAbs)) (K:=(k.fmod k')) hd.2.symm) jV ⟨cV rfl,rfl⟩ ⟨rfl,rfl,rfl⟩ ⟨rfl,rfl,rfl,trivial⟩ ?_
 refine aS 14 (by kernel_rfl) rfl rfl aA rfl rfl rfl rfl ⟨rfl,rfl,rfl,trivial⟩ ?_
 refine dst 15 ?_;refine cZ 16 (by kernel_rfl) rfl rfl aA rfl (by trivial) ?_ (fun h=>by first | rfl | cases h)
 refine aU ?_;refine rt ?_
 exact en (.inl rfl) rfl (gI (.cons (.agg (.cons (.id rfl) (.cons (.sl (trs:=aR (dg 4294967296 ((k.fdiv k')).natAbs)) rfl rfl (bL _) (aX _)) .nil))) (.cons (.agg (.cons (.id rfl) (.cons (.sl (trs:=aR (dg 4294967296 ((k.fmod k')).natAbs)) rfl rfl (bL _) (aX _)) .nil))) (.cons (aO (.int .i64 0)) .nil)))) (by decide) (fun _=>⟨dV (k.fdiv k'),dV (k.fmod k'),trivial,trivial⟩) rfl
theorem Be {α:Type}{f:α→List Tr}{z:Nat}(hf:∀x,(f x).length=z):∀{xs:List α}{k:Nat}{x:α},xs[k]? =some x→((xs.flatMap f).drop (k*z)).take z=f x
 | [],_,_,h=>by simp at h
 | y::xs,0,x,h=>by
  simp at h
  subst h
  rw[Nat.zero_mul,List.drop_zero,List.flatMap_cons,List.take_append_of_le_length (by rw[hf];exact Nat.le_refl _),List.take_of_length_le (by rw[hf];exact Nat.le_refl _)]
 | y::xs,k+1,x,h=>by
  rw[List.getElem?_cons_succ]at h
  have e:(f y++xs.flatMap f).drop z=xs.flatMap f:=by rw[←hf y];simp
  rw[List.flatMap_cons,Nat.succ_mul,Nat.add_comm,←List.drop_drop,e]
  exact Be hf h
theorem oE {α:Type}{f:α→List Tr}{z:Nat}(hf:∀x,(f x).length=z):∀(xs:List α),(xs.flatMap f).length=xs.length*z
 | []=>by simp
 | y::xs=>by rw[List.flatMap_cons,List.length_append,hf,oE hf xs,List.length_cons,Nat.succ_mul,Nat.add_comm]
theorem Xs {α:Type}{f:α→List Tr}{z o m:Nat}(hf:∀x,(f x).length=z){xs:List α}{k:Nat}{x:α}(h:xs[k]? =some x) (hm:o+m≤z):((xs.flatMap f).drop (k*z+o)).take m=((f x).drop o).take m:=by
 have e:=Be hf h
 rw[←List.drop_drop,←e,List.drop_take,List.take_take,Nat.min_eq_left (by omega)]
section
variable {α:Type}{f:α→List Tr}{z:Nat}{xs:List α}{k o:Nat}{x x' y:α}{us:List Tr}
theorem Qu (hf:∀x,(f x).length=z) (h:xs[k]? =some x) (hm:o+us.length≤z) (hu:((f x).drop o).take us.length=us):((xs.flatMap f).drop (k*z+o)).take us.length=us:=by
 rw[Xs hf h hm]
 exact hu
end
def TS (o:Bool) (a:Zi):List Tr:=[.v (.bool a.s),sU o a.x]
def Rg (k:Int):List Nat:=if k<0 then 45::tx k.natAbs else tx k.natAbs
def sO (l:List Nat):Bool:=l.all fun c=>decide (48≤c∧c≤57)
theorem EJ {l:List Nat}(h:sO l=true):∀c∈l,48≤c∧c≤57:=by simpa[sO]using h
theorem Ua {l:List Nat}(h:∀c∈l,48≤c∧c≤57):sO l=true:=by simpa[sO]using h
theorem Ie:∀c<256,([48,49,50,51,52,53,54,55,56,57]:List UInt8).contains (UInt8.ofNat c)=decide (48≤c∧c≤57):=by decide+kernel
theorem Jm {l:List Nat}(h:Lim 256 l):((⟨(Lib.trimS (aC l).data.toList [48,49,50,51,52,53,54,55,56,57]).toArray⟩:ByteArray).toList==(⟨#[]⟩:ByteArray).toList)=sO l:=by
 rw[ByteArray.toList_eq,ByteArray.toList_eq,Bool.eq_iff_iff,beq_iff_eq]
 show Lib.trimS _ _=[]↔_
 rw[Tt,iJ]
 unfold sO
 rw[List.all_eq_true]
 refine⟨fun g c hc=>?_,fun g x hx=>?_⟩
 ·rw[←Ie c (h c hc)]
  exact g _ (List.mem_map.2 ⟨c,hc,rfl⟩)
 obtain⟨c,hc,rfl⟩:=List.mem_map.1 hx
 rw[Ie c (h c hc)]
 exact g c hc
def jQ (l:List Nat):Bool:=decide (l=[])||(!decide (l=[48])&&decide (nth l 0=48))|| !sO l
def sN (l:List Nat):Int:=if jQ l then 60 else if 4096<l.length then 3 else 0
def Jk (l:List Nat):Nat:=if sN l=0 then bT l else 0
theorem LO {l:List Nat}(h:decide (l=[])=true):jQ l=true:=by simp[jQ,h]
theorem LP {l:List Nat}(h:decide (l=[48])=false) (h2:nth l 0=48):jQ l=true:=by simp[jQ,h,h2]
theorem Mt {l:List Nat}(h:sO l=false):jQ l=true:=by simp[jQ,h]
theorem xN {l:List Nat}(h0:decide (l=[])=false) (h:decide (l=[48])=true∨¬nth l 0=48) (h2:sO l=true):jQ l=false:=by
 rcases h with h | h <;> simp[jQ,h0,h,h2]
theorem Cv {l:List Nat}(h:jQ l=true):sN l=60:=by simp[sN,h]
theorem FQ {l:List Nat}(h:jQ l=false) (h2:4096<l.length):sN l=3:=by simp[sN,h,h2]
theorem Us {l:List Nat}(h:jQ l=false) (h2:¬4096<l.length):sN l=0:=by simp[sN,h,h2]
theorem Mu {l:List Nat}(h:sN l=0):Jk l=bT l:=if_pos h
theorem uU {l:List Nat}(h:¬sN l=0):Jk l=0:=if_neg h
theorem Qe {l:List Nat}(h:jQ l=false):∀c∈l,48≤c∧c≤57:=by
 refine EJ ?_
 cases hq:sO l with
 | true=>rfl
 | false=>rw[Mt hq]at h;cases h
theorem If (m:List Nat):∀n:Nat,m.foldl (fun n c=>n*10+(c-48)) n=n*10^m.length+bT m:=by
 induction m with
 | nil=>intro n;simp[bT]
 | cons c m ih=>
  intro n
  have e:bT (c::m)=(0*10+(c-48))*10^m.length+bT m:=ih _
  rw[List.foldl_cons,ih,e,List.length_cons,Nat.pow_succ,Nat.zero_mul,Nat.zero_add,Nat.add_mul,Nat.mul_assoc,Nat.mul_comm 10,Nat.add_assoc]
theorem vR (l m:List Nat):bT (l++m)=bT l*10^m.length+bT m:=by
 show(l++m).foldl _ 0=_
 rw[List.foldl_append,If]
 rfl
theorem oS {l:List Nat}{j f:Nat}(h:j+f≤l.length) (hf:j=0∨f=9):bT (l.take j)*1000000000+bT ((l.drop j).take f)=bT (l.take (j+f)):=by
 rw[List.take_add,vR,List.length_take,List.length_drop,Nat.min_eq_left (by omega)]
 rcases hf with rfl | rfl
 ·simp[bT]
 rfl
theorem EK {l:List Nat}(h:∀c∈l,48≤c∧c≤57){j:Nat}(hj:j≤l.length):bT (l.take j)<4294967296^j:=Nat.lt_of_lt_of_le (Dq h hj) (Nat.pow_le_pow_left (by omega) j)
theorem pY {l:List Nat}(h:∀c∈l,48≤c∧c≤57){j:Nat}(hj:j≤l.length):(dg 4294967296 (bT (l.take j))).length≤j:=bN (by omega) (EK h hj)
theorem rD {l:List Nat}(h:∀c∈l,48≤c∧c≤57) (j f:Nat):∀c∈(l.drop j).take f,48≤c∧c≤57:=fun c hc=>h c (List.mem_of_mem_drop (List.mem_of_mem_take hc))
theorem rE {l:List Nat}(h:∀c∈l,48≤c∧c≤57){j f:Nat}(hj:j+f≤l.length) (hf:f≤9):bT ((l.drop j).take f)<1000000000:=
 Nat.lt_of_lt_of_le (Dq (l:=l.drop j) (k:=f) (fun c hc=>h c (List.mem_of_mem_drop hc)) (by rw[List.length_drop];omega)) (Nat.le_trans (Nat.pow_le_pow_right (by omega) hf) (by decide))
theorem EL (ds:List Nat):bT (dG ds).reverse=vl 10 ds:=by
 induction ds with
 | nil=>rfl
 | cons d ds ih=>
  have e:(dG (d::ds)).reverse=(dG ds).reverse++[48+d]:=by simp[dG]
  rw[e,vR,ih]
  simp[bT,vl]
  omega
theorem KY (v:Nat):bT (tx v)=v:=by
 unfold tx
 split
 ·rename_i h;subst h;rfl
 rw[EL,bK (by omega)]
theorem Ig (v:Nat):∀c∈tx v,48≤c∧c≤57:=by
 unfold tx
 split
 ·intro c hc
  simp at hc
  omega
 intro c hc
 rw[List.mem_reverse]at hc
 obtain⟨d,hd,rfl⟩:=List.mem_map.1 hc
 have:=aM (B:=10) (by omega) v d hd
 omega
theorem EM {v:Nat}(h:v≠0):nth (tx v) 0≠48:=by
 have e:=Pa (l:=dg 10 v) (v:=v) (aM (by omega) v) (bK (by omega) v)
 rw[if_neg h]at e
 have e2:tx v=(dG (dg 10 v)).reverse:=by unfold tx;rw[if_neg h]
 rw[←e2]at e
 have h2:=pA v
 generalize tx v=L at e h2
 cases L with
 | nil=>exact absurd rfl h2
 | cons x l=>
  intro h3
  have h4:x=48:=h3
  subst h4
  have h5:=(List.dropWhile_sublist (· ==48) (l:=l)).length_le
  rw[List.dropWhile_cons,if_pos (by rfl)]at e
  rw[e,List.length_cons]at h5
  omega
theorem EN (v:Nat):jQ (tx v)=false:=by
 by_cases h:v=0
 ·subst h;rfl
 exact xN (decide_eq_false (pA v)) (.inr (EM h)) (Ua (Ig v))
def aG (l:List Nat):List Nat:=if l.take 1=[45]then l.drop 1 else l
theorem Vq {v:Nat}(h:(dg 4294967296 v).length≤1000000):(dg 10 v).length≤10000000:=by
 have h1:=mB (B:=4294967296) (n:=v) (by omega)
 have h2:v<10^(10*(dg 4294967296 v).length):=Nat.lt_of_lt_of_le h1 (by rw[Nat.pow_mul];exact Nat.pow_le_pow_left (by omega) _)
 have:=bN (B:=10) (by omega) h2
 omega
theorem xP {u m:Nat}(h:(dg 4294967296 u).length≤1099511627776) (hm:m<4294967296):aE true Tryz.prog 166 [] [.one (.t (sU false (dg 4294967296 u))),.one (tv (.int .u32 (m:Int)))] (aN (.one (.t (sU true (dg 4294967296 (u*m)))))):=by
 have h1:=xU (aM (by omega) u) h hm
 rwa[bK (by omega)]at h1
theorem xR {u x:Nat}(h:(dg 4294967296 u).length≤1099511627776) (hx:x<4294967296):aE true Tryz.prog 165 [] [.one (.t (sU false (dg 4294967296 u))),.one (.t (sU false [x]))] (aN (.one (.t (sU true (dg 4294967296 (u+x)))))):=by
 have h1:=Pn (aM (by omega) u) (Lim.cons hx Lim.nil) h (by simp)
 rw[bK (by omega)]at h1
 have e:vl 4294967296 [x]=x:=by simp[vl]
 rwa[e]at h1
def fO (c:Nat):Bool:=decide (48≤c∧c≤57)
def dD (l:List Nat):Bool:=decide (l.take 1=[45])
def fS (l:List Nat):Bool:=decide (l.take 1=[46])
def wh (m:List Nat):List Nat:=m.takeWhile fO
def bX (m:List Nat):List Nat:=m.dropWhile fO
def iG (l:List Nat):List Nat:=if l.take 1=[46]then l.drop 1 else l
theorem Dr {l:List Nat}(h:fS l=true):iG l=l.drop 1:=if_pos (of_decide_eq_true h)
theorem ME {l:List Nat}(h:fS l=false):iG l=l:=if_neg (of_decide_eq_false h)
def pl (m:List Nat):List Nat:=if fS (bX m)then(iG (bX m)).takeWhile fO else []
def rr (m:List Nat):List Nat:=if fS (bX m)then(iG (bX m)).dropWhile fO else bX m
def wC (l:List Nat):Bool:=l.all fun c=>decide (c=48)
def tN (m:List Nat):Bool:=wC (wh m++pl m)
def fY (m:List Nat):Bool:= !(fS (bX m)&&decide (pl m=[]))&&(decide (rr m=[])&&(!decide (wh m=[])&&(decide (wh m=[48])|| !decide (nth (wh m) 0=48))))
def gO (l:List Nat):Bool:=fY (aG l)&& !(dD l&&tN (aG l))
def fB (l:List Nat) (most:Nat):Int:=if gO l=true∧(pl (aG l)).length≤most then(if 40<(wh (aG l)).length+(pl (aG l)).length then 3 else 0)else 60
def sR (l:List Nat):Rat:=Rat.divInt (bG (dD l) (bT (wh (aG l)++pl (aG l)))) ((10^(pl (aG l)).length:Nat):Int)
def dE (l:List Nat) (most:Nat):Rat:=if fB l most=0 then sR l else 0
theorem Ih {c:Nat}(h:fO c=true):48≤c∧c≤57:=of_decide_eq_true h
theorem Ub (p:Nat→Bool) (m:List Nat):∀c∈m.takeWhile p,p c=true:=fun c hc=>by
 induction m with
 | nil=>simp at hc
 | cons x m ih=>
  rw[List.takeWhile_cons]at hc
  split at hc
  ·rcases List.mem_cons.1 hc with rfl | hc
   ·assumption
   exact ih hc
  cases hc
theorem Bf (m:List Nat):∀c∈wh m,48≤c∧c≤57:=fun c hc=>Ih (Ub fO m c hc)
theorem Bg (m:List Nat):∀c∈pl m,48≤c∧c≤57:=fun c hc=>by
 unfold pl at hc
 split at hc
 ·exact Ih (Ub fO _ c hc)
 cases hc
theorem Ng (m:List Nat):∀c∈wh m++pl m,48≤c∧c≤57:=fun c hc=>(List.mem_append.1 hc).elim (Bf m c) (Bg m c)
theorem lZ (m:List Nat):wh m++bX m=m:=List.takeWhile_append_dropWhile
theorem Xt {l:List Nat}(h:fS l=true):l=46::l.drop 1:=by
 have h:=of_decide_eq_true h
 cases l with
 | nil=>simp at h
 | cons x l=>simp at h;simp[h]
theorem uP {m:List Nat}(h:fS (bX m)=true):bX m=46::(pl m++rr m):=by
 have h1:=Xt h
 unfold pl rr
 rw[if_pos h,if_pos h,List.takeWhile_append_dropWhile,Dr h]
 exact h1
theorem Df {m:List Nat}(h:fS (bX m)=false):rr m=bX m:=by unfold rr;rw[h];rfl
theorem mF {m:List Nat}(h:fS (bX m)=false):pl m=[]:=by unfold pl;rw[h];rfl
theorem mX {m:List Nat}(h:fY m=true):m=wh m++(if fS (bX m)then 46::pl m else [])∧wh m≠[]:=by
 unfold fY at h
 simp only[Bool.and_eq_true,Bool.not_eq_true',decide_eq_true_eq,decide_eq_false_iff_not]at h
 obtain⟨_,h2,h3,_⟩:=h
 refine⟨?_,h3⟩
 conv=>lhs;rw[←lZ m]
 congr 1
 cases hp:fS (bX m)with
 | true=>rw[uP hp,h2,List.append_nil];rfl
 | false=>rw[←Df hp,h2];rfl
theorem pG (l:List Nat):l=(if dD l then [45]else [])++aG l:=by
 unfold dD aG
 by_cases h:l.take 1=[45]
 ·rw[if_pos h,decide_eq_true h]
  cases l with
  | nil=>simp at h
  | cons x l=>simp at h;simp[h]
 rw[if_neg h,decide_eq_false h];rfl
def b1 (m:List Nat):Bool:=decide ((wh m).length=0)||(decide (1<(wh m).length)&&decide (nth m 0=48))
def b2 (m:List Nat):Bool:=fS (bX m)&&decide ((pl m).length=0)
theorem PU {m:List Nat}(h:wh m≠[]):nth (wh m) 0=nth m 0:=by
 have h2:=lZ m
 cases hq:wh m with
 | nil=>exact absurd hq h
 | cons x w=>rw[hq]at h2;rw[←h2];rfl
theorem AE (m:List Nat):fY m=(!b1 m&&(!b2 m&&decide (rr m=[]))):=by
 unfold fY b1 b2
 by_cases h0:wh m=[]
 ·simp[h0]
 have e1:decide (wh m=[48])=(decide ((wh m).length=1)&&decide (nth m 0=48)):=by
  rw[←PU h0]
  cases hq:wh m with
  | nil=>exact absurd hq h0
  | cons x w=>
   cases w with
   | nil=>simp[nth]
   | cons y w=>simp
 have e2:(wh m).length≠0:=fun h=>h0 (List.eq_nil_of_length_eq_zero h)
 rw[e1,PU h0]
 have e3:decide ((pl m).length=0)=decide (pl m=[]):=decide_eq_decide.2 List.length_eq_zero_iff
 rw[e3]
 by_cases h1:nth m 0=48 <;> by_cases h2:(wh m).length=1 <;> cases fS (bX m) <;> by_cases h3:pl m=[] <;> by_cases h4:rr m=[] <;> simp[h0,h1,h2,h3,h4,e2] <;> omega
def sD (l:List Nat):Nat:=l.foldl (fun n c=>if c=46 then n else if c=45 then n else n*10+(c-48)) 0
def sP (l:List Nat):Int:=l.foldl (fun p c=>if c=46 then 0 else if c=45 then p else if 0≤p then p+1 else p) (-1)
theorem Ii {l:List Nat}(h:∀c∈l,48≤c∧c≤57) (n:Nat):l.foldl (fun n c=>if c=46 then n else if c=45 then n else n*10+(c-48)) n=l.foldl (fun n c=>n*10+(c-48)) n:=by
 induction l generalizing n with
 | nil=>rfl
 | cons c l ih=>
  have hc:=h c (by simp)
  rw[List.foldl_cons,List.foldl_cons,if_neg (by omega),if_neg (by omega)]
  exact ih (fun c hc=>h c (by simp[hc])) _
theorem Ij {l:List Nat}(h:∀c∈l,48≤c∧c≤57) (p:Int):l.foldl (fun p c=>if c=46 then 0 else if c=45 then p else if 0≤p then p+1 else p) p=if 0≤p then p+l.length else p:=by
 induction l generalizing p with
 | nil=>simp
 | cons c l ih=>
  have hc:=h c (by simp)
  rw[List.foldl_cons,if_neg (by omega),if_neg (by omega),ih (fun c hc=>h c (by simp[hc]))]
  by_cases hp:0≤p
  ·rw[if_pos hp,if_pos (by omega),if_pos hp,List.length_cons]
   omega
  rw[if_neg hp,if_neg hp,if_neg hp]
theorem PF {l:List Nat}(h:fY (aG l)=true):sD l=bT (wh (aG l)++pl (aG l)):=by
 have e1:=pG l
 obtain⟨e2,_⟩:=mX h
 have key:∀m w p:List Nat,(∀c∈w,48≤c∧c≤57)→(∀c∈p,48≤c∧c≤57)→∀b:Bool,(m=w++(if b then 46::p else []))→(b=false→p=[])→∀s:Bool,sD ((if s then [45]else [])++m)=bT (w++p):=by
  intro m w p hw hp b hm hb s
  subst hm
  have:sD ((if s then [45]else [])++(w++(if b then 46::p else [])))=sD (w++(if b then 46::p else [])):=by cases s <;> rfl
  rw[this]
  unfold sD bT
  rw[List.foldl_append,Ii hw,List.foldl_append]
  cases b with
  | true=>
   show List.foldl _ _ (46::p)=_
   rw[List.foldl_cons,if_pos rfl,Ii hp]
  | false=>rw[hb rfl];rfl
 rw[e1]
 have h9:=key (aG l) _ _ (Bf _) (Bg _) _ e2 (fun h=>mF h) (dD l)
 rw[←e1]
 rw[←e1]at h9
 exact h9
theorem MY {l:List Nat}(h:fY (aG l)=true):max 0 (sP l)=((pl (aG l)).length:Int):=by
 have e1:=pG l
 obtain⟨e2,_⟩:=mX h
 have key:∀m w p:List Nat,(∀c∈w,48≤c∧c≤57)→(∀c∈p,48≤c∧c≤57)→∀b:Bool,(m=w++(if b then 46::p else []))→(b=false→p=[])→∀s:Bool,max 0 (sP ((if s then [45]else [])++m))=(p.length:Int):=by
  intro m w p hw hp b hm hb s
  subst hm
  have:sP ((if s then [45]else [])++(w++(if b then 46::p else [])))=sP (w++(if b then 46::p else [])):=by cases s <;> rfl
  rw[this]
  unfold sP
  rw[List.foldl_append,Ij hw,if_neg (by omega)]
  cases b with
  | true=>
   show max 0 (List.foldl _ _ (46::p))=_
   rw[List.foldl_cons,if_pos rfl,Ij hp,if_pos (by omega)]
   omega
  | false=>rw[hb rfl];rfl
 have h9:=key (aG l) _ _ (Bf _) (Bg _) _ e2 (fun h=>mF h) (dD l)
 rwa[←e1]at h9
def iU (c:Nat):Bool:=decide (c=45)||(decide (c=46)|| decide (c=48))
theorem IC {l:List Nat}(h:fY (aG l)=true):(dD l&&l.all iU)=(dD l&&tN (aG l)):=by
 have e1:=pG l
 obtain⟨e2,_⟩:=mX h
 cases hn:dD l with
 | false=>rfl
 | true=>
  rw[hn]at e1
  have hall:∀x:List Nat,(∀c∈x,48≤c∧c≤57)→x.all iU=wC x:=fun x hx=>by
   unfold wC
   rw[Bool.eq_iff_iff,List.all_eq_true,List.all_eq_true]
   refine forall_congr' fun c=>forall_congr' fun hc=>?_
   have:=hx c hc
   unfold iU
   simp only[Bool.or_eq_true,decide_eq_true_eq]
   omega
  rw[Bool.true_and,Bool.true_and,e1]
  have e3:aG (([45]:List Nat)++aG l)=aG l:=rfl
  show(([45]:List Nat)++aG l).all iU=tN (aG l)
  rw[List.all_append]
  have e4:([45]:List Nat).all iU=true:=rfl
  rw[e4,Bool.true_and]
  conv=>lhs;rw[e2]
  unfold tN wC
  rw[List.all_append,List.all_append,hall _ (Bf _)]
  unfold wC
  congr 1
  cases hp:fS (bX (aG l))with
  | false=>rw[mF hp];rfl
  | true=>
   show(46::pl (aG l)).all iU=_
   rw[List.all_cons,hall _ (Bg _)]
   rfl
theorem BH {l:List Nat}(hl:Lim 256 l):Lim 256 (aG l):=by
 unfold aG
 split
 ·exact lK hl 1
 exact hl
theorem zW {l:List Nat}:(aG l).length≤l.length:=by
 unfold aG
 split
 ·rw[List.length_drop];omega
 exact Nat.le_refl _
theorem MD (p:Nat→Bool) (l:List Nat):l.take (l.length-(l.dropWhile p).length)=l.takeWhile p:=by
 have h:l.takeWhile p++l.dropWhile p=l:=List.takeWhile_append_dropWhile
 have h2:=congrArg List.length h
 rw[List.length_append]at h2
 have e:l.length-(l.dropWhile p).length=(l.takeWhile p).length:=by omega
 rw[e]
 have h3:=List.take_left (l₁:=l.takeWhile p) (l₂:=l.dropWhile p)
 rwa[h]at h3
theorem GG {B:Nat}{p:Nat→Bool}{l:List Nat}(h:Lim B l):Lim B (l.takeWhile p):=fun x hx=>h x ((List.takeWhile_sublist p).subset hx)
theorem zV {B:Nat}{l:List Nat}(h:Lim B l):Lim B (iG l):=by
 unfold iG
 split
 ·exact lK h 1
 exact h
theorem BJ {l:List Nat}:(iG l).length≤l.length:=by
 unfold iG
 split
 ·rw[List.length_drop];omega
 exact Nat.le_refl _
theorem xZ {m:List Nat}:Lim 256 (wh m):=fun c hc=>by have:=Bf m c hc;omega
theorem GF {m:List Nat}:Lim 256 (pl m):=fun c hc=>by have:=Bg m c hc;omega
theorem yL (m:List Nat):(wh m).length≤m.length:=(List.takeWhile_sublist _).length_le
theorem BI (m:List Nat):(bX m).length≤m.length:=(List.dropWhile_sublist _).length_le
theorem tM (m:List Nat):(wh m).length+(pl m).length≤m.length:=by
 have h1:=congrArg List.length (lZ m)
 rw[List.length_append]at h1
 cases hp:fS (bX m)with
 | true=>
  have h2:=congrArg List.length (uP hp)
  rw[List.length_cons,List.length_append]at h2
  omega
 | false=>rw[mF hp,List.length_nil];omega
def lH (l:List Nat):List Nat:=if l.dropWhile (· ==48)=[]then [48]else l.dropWhile (· ==48)
theorem Ik {l:List Nat}:bT (l.dropWhile (· ==48))=bT l:=by
 induction l with
 | nil=>rfl
 | cons c l ih=>
  rw[List.dropWhile_cons]
  split
  ·rename_i h
   have h:c=48:=by simpa using h
   subst h
   rw[ih]
   show _=List.foldl _ _ (48::l)
   rw[List.foldl_cons]
   rfl
  rfl
theorem BL {l:List Nat}(h:Lim 256 l):Lim 256 (lH l):=by
 unfold lH
 split
 ·exact Lim.cons (by omega) Lim.nil
 exact kS h
theorem Js {l:List Nat}:(lH l).length≤l.length+1:=by
 unfold lH
 split
 ·show 1≤_;omega
 exact Nat.le_trans (List.dropWhile_sublist _).length_le (by omega)
theorem GJ {l:List Nat}(h:∀c∈l,48≤c∧c≤57) (hn:l.length≤4000):sN (lH l)=0∧Jk (lH l)=bT l:=by
 have hg:jQ (lH l)=false:=by
  unfold lH
  split
  ·rfl
  rename_i h0
  refine xN (decide_eq_false h0) (.inr fun h1=>?_) (Ua fun c hc=>h c ((List.dropWhile_sublist _).subset hc))
  have h2:=List.head?_dropWhile_not (· ==48) l
  cases hq:l.dropWhile (· ==48)with
  | nil=>exact h0 hq
  | cons x w=>
   rw[hq]at h1 h2
   have h3:x=48:=h1
   subst h3
   simp at h2
 have e:=Us hg (by have:=Js (l:=l);omega)
 refine⟨e,?_⟩
 rw[Mu e]
 unfold lH
 split
 ·rename_i h0
  rw[←Ik (l:=l),h0];rfl
 exact Ik
theorem BM (n:Bool) (v:Nat):cY n (dg 4294967296 v)=bG n v:=by
 cases n with
 | false=>exact lL v
 | true=>
  by_cases h:v=0
  ·subst h;rw[fJ];rfl
  have h2:=qX (-(v:Int))
  have e1:aL (-(v:Int))=true:=decide_eq_true (by omega)
  rw[e1,Int.natAbs_neg,Int.natAbs_natCast]at h2
  rw[h2];rfl
def Qn (a:Fr4) (p:Rat):Prop:=a.ok∧a.q=p
section
variable {a:Fr4}{p q:Rat}{k k':Int}{L M:Nat}
theorem Er (h:Qn a p):Zn ⟨a.s,a.x⟩ (cY a.s a.x):=⟨h.1.1,by have:=h.1.2.2.1;dsimp only;omega,rfl⟩
theorem rG (h:Qn a p):Zn ⟨a.t,a.y⟩ (cY a.t a.y):=⟨h.1.2.1,by have:=h.1.2.2.2;dsimp only;omega,rfl⟩
theorem dW (h:Sz L p) (hL:L≤137438953472:=by omega):Zn (.of p.num) p.num:=.of (Nat.le_trans h.1 hL)
theorem cJ (h:Sz L p) (hL:L≤137438953472:=by omega):Zn ⟨false,dg 4294967296 p.den⟩ (p.den:Int):=⟨aM (by omega) _,Nat.le_trans h.2 hL,lL p.den⟩
theorem Qn.sz (h:Qn a p):Sz 68719476736 p:=by
 obtain⟨⟨h1,h2,h3,h4⟩,rfl⟩:=h
 exact KJ h1 h2 h3 h4 (by omega)
theorem Qn.of (h:Sz L p) (hL:L≤68719476736:=by omega):Qn (.of p) p:=⟨⟨aM (by omega) _,aM (by omega) _,Nat.le_trans h.1 hL,Nat.le_trans h.2 hL⟩,Fr4.q_of p⟩
theorem Qn.right (h:Qn a p) (hr:cW a.s a.x a.t a.y=true):Fr4.of p=a:=by
 obtain⟨⟨l1,l2,_,_⟩,rfl⟩:=h
 obtain⟨h1,h2,h3,h4⟩:=uL hr
 have e1:=Md hr
 have e2:=Me hr
 have e3:=vL l1 h1
 have e4:=nT l1 h1
 have e5:=vL l2 h2
 have e6:=nT l2 h2
 rw[←e1]at e3 e4
 rw[←e2]at e5 e6
 rw[uW]at e5
 rw[Int.natAbs_natCast]at e6
 unfold Fr4.of Fr4.q
 rw[e3,e4,e5,e6]
theorem Qn.wrong (h:Qn a p) (hr:cW a.s a.x a.t a.y=false):p=0:=by
 obtain⟨_,rfl⟩:=h
 exact Cj hr
theorem vA (hn:q.num=k) (hd:(q.den:Int)=k'):FV.agg [tv (.bool (aL k)),.t (sU false (dg 4294967296 k.natAbs)),tv (.bool (aL k')),.t (sU false (dg 4294967296 k'.natAbs))]=qF (.of q):=by
 subst hn hd
 have e:aL (q.den:Int)=false:=by unfold aL;exact decide_eq_false (by omega)
 rw[e]
 rfl
theorem Vl (k k':Int):decide ((k-k').sign=0)=decide (k=k'):=by
 rw[decide_eq_decide,Int.sign_eq_zero_iff_zero]
 omega
theorem Aa (h0:k'≠0):(dg 4294967296 (((Int.gcd k k':Nat):Int)).natAbs).length≤(dg 4294967296 k'.natAbs).length:=by
 rw[Int.natAbs_natCast]
 exact dC (Nat.le_of_dvd (by omega) (Int.gcd_dvd_natAbs_right k k'))
theorem mM {n:Int}(h1:-9223372036854775808≤n) (h2:n≤9223372036854775807):(dg 4294967296 n.natAbs).length≤2:=bN (by omega) (by omega)
theorem Fp {a b:Int}(h0:b≠0):(0<b→(Rat.divInt a b).num=a.fdiv (Int.gcd a b)∧((Rat.divInt a b).den:Int)=b.fdiv (Int.gcd a b))∧(b<0→(Rat.divInt a b).num=(-a).fdiv (Int.gcd (-a) (-b))∧((Rat.divInt a b).den:Int)=(-b).fdiv (Int.gcd (-a) (-b))):=by
 refine⟨fun h=>lM h,fun h=>?_⟩
 rw[←Rat.neg_divInt_neg]
 exact lM (by omega)
theorem yG {a b:Int}(h:b≠0):((Int.gcd a b:Nat):Int)≠0:=by
 have:=Int.gcd_pos_of_ne_zero_right a h
 omega
theorem Jz (n:Nat):decide ((n:Int)=1)=(n==1):=by
 by_cases h:n=1
 ·subst h;rfl
 rw[beq_eq_false_iff_ne.2 h,decide_eq_false (by omega)]
end
def SX:Fr4:=⟨false,[],false,[]⟩
def jM (xs:List Fr4) (k:Nat):Fr4:=xs.getD k SX
theorem rJ {xs:List Fr4}{k:Nat}(h:k<xs.length):xs[k]? =some (jM xs k):=by simp[jM,h]
theorem lO {xs:List Fr4}{k:Nat}(h:k<xs.length):jM xs k∈xs:=List.mem_of_getElem? (rJ h)
def sQ (o:Bool) (xs:List Fr4):Tr:=.s o 33 4 xs.length (xs.flatMap (Fr4.tr o))
theorem Qj (xs:List Fr4){k:Nat}(h:k<xs.length):((xs.flatMap (Fr4.tr false)).drop (k*4)).take ((jM xs k).tr false).length=(jM xs k).tr false:=Be (f:=Fr4.tr false) (fun _=>rfl) (rJ h)
section
variable {xs:List Fr4}{k:Nat}
theorem Qk (h:k<xs.length):(xs.take (k+1)).map Fr4.q=(xs.take k).map Fr4.q++[(jM xs k).q]:=by rw[List.take_add_one,rJ h];simp
end
section
variable {vs:List (Int×Rat)}{k:Nat}
end
def kQ (l:List Rat):Rat:=l.foldl (· + ·) 0
theorem Ql (l:List Rat) (q:Rat):kQ (l++[q])=kQ l+q:=by simp[kQ]
def fl (q:Rat):Int:=q.floor
theorem lN (q:Rat):q.num.fdiv (q.den:Int)=fl q:=by
 unfold fl
 rw[Rat.floor_def,Int.fdiv_eq_ediv_of_nonneg _ (by omega)]
theorem AF (q:Rat):q*(q.den:Rat)=(q.num:Rat):=by
 have h:=Rat.num_divInt_den q
 have h2:Rat.divInt q.num (q.den:Int)=(q.num:Rat)/((q.den:Int):Rat):=Rat.divInt_eq_div _ _
 have h3:((q.den:Int):Rat)=(q.den:Rat):=rfl
 have h4:(q.den:Rat)≠0:=by
  have:=q.den_pos
  intro h
  have:q.den=0:=by exact_mod_cast h
  omega
 rw[h2,h3]at h
 have h6:(q.num:Rat)/(q.den:Rat)*(q.den:Rat)=(q.num:Rat):=Rat.div_mul_cancel h4
 rwa[h]at h6
theorem pK (a b:Int) (hb:b≠0):Rat.divInt a b*(b:Rat)=(a:Rat):=by
 rw[Rat.divInt_eq_div,Rat.div_def,Rat.mul_assoc,Rat.inv_mul_cancel _ (by simpa using hb),Rat.mul_one]
theorem Af {a b c:Rat}(hc:c≠0) (h:a*c=b*c):a=b:=by
 have h2:=congrArg (· *c⁻¹) h
 simpa only[Rat.mul_assoc,Rat.mul_inv_cancel c hc,Rat.mul_one]using h2
theorem IE (z:Int):fl (z:Rat)=z:=Rat.floor_intCast z
theorem CE {q:Rat}(h:q.den=1):((q.num:Int):Rat)=q:=by
 have:=AF q
 rw[h]at this
 rw[←this]
 simp
theorem CA {p q:Rat}(h:p≤q):fl p≤fl q:=Rat.floor_monotone h
theorem Nb (p q:Rat):Rat.divInt (p.num*(q.den:Int)) ((p.den:Int)*q.num)=p/q:=by
 have e:=Rat.num_divInt_den q
 have e2:=Rat.num_divInt_den p
 conv=>rhs;rw[←e,←e2]
 rw[Rat.div_def,Rat.inv_divInt,Rat.divInt_mul_divInt]
def pd (n:Nat):Nat→List Nat
 | 0=>[]
 | d+1=>pd (n/10) d++[48+n%10]
theorem mR:∀(d n:Nat),(pd n d).length=d
 | 0,_=>rfl
 | d+1,n=>by rw[pd,List.length_append,mR d];rfl
theorem Vh:∀(d n:Nat),∀c∈pd n d,48≤c∧c≤57
 | 0,_=>by intro c hc;cases hc
 | d+1,n=>by
  intro c hc
  rw[pd]at hc
  rcases List.mem_append.1 hc with h | h
  ·exact Vh d _ c h
  rw[List.mem_singleton]at h
  omega
theorem Uc:∀(d n:Nat),bT (pd n d)=n%10^d
 | 0,n=>by rw[Nat.pow_zero,Nat.mod_one];rfl
 | d+1,n=>by
  rw[pd,vR,Uc d]
  have e:bT [48+n%10]=n%10:=by simp[bT]
  rw[e,Nat.pow_succ,Nat.mul_comm (10^d) 10,Nat.mod_mul]
  show n/10%10^d*10+n%10=_
  omega
theorem Ae {n:Nat}(h:10≤n):tx n=tx (n/10)++[48+n%10]:=by
 unfold tx
 rw[if_neg (by omega),if_neg (by omega),kI (by omega) (by omega)]
 simp[dG]
theorem Fx {n:Nat}(h:n<10):tx n=[48+n]:=by
 unfold tx
 split
 ·rename_i h0;subst h0;rfl
 rw[kI (by omega) (by omega),show n/10=0 by omega,fJ,show n%10=n by omega];rfl
theorem Fm:∀(d n:Nat),List.replicate (d+1-(tx n).length) 48++tx n=tx (n/10^d)++pd n d
 | 0,n=>by
  have:1≤(tx n).length:=List.length_pos_iff.2 (pA n)
  rw[show 0+1-(tx n).length=0 by omega,Nat.pow_zero,Nat.div_one,pd,List.append_nil]
  rfl
 | d+1,n=>by
  rw[pd,←List.append_assoc,Nat.pow_succ,Nat.mul_comm,←Nat.div_div_eq_div_mul,←Fm d (n/10)]
  rcases Nat.lt_or_ge n 10 with h | h
  ·rw[Fx h,show n/10=0 by omega,Fx (n:=0) (by omega),show n%10=n by omega]
   show List.replicate (d+1) 48++_=List.replicate d 48++[48]++_
   rw[List.replicate_succ']
  rw[Ae h,List.length_append,List.append_assoc]
  show List.replicate (d+1+1-((tx (n/10)).length+1)) 48++_=_
  rw[show d+1+1-((tx (n/10)).length+1)=d+1-(tx (n/10)).length by omega]
def wr (n d:Nat):List Nat:=tx (n/10^d)++(if d=0 then []else 46::pd n d)
def pt (z:Int) (d:Nat):List Nat:=if z<0 then 45::wr z.natAbs d else wr z.natAbs d
theorem Ud {l m:List Nat}(h:∀c∈l,48≤c∧c≤57) (hm:∀c,m.head?=some c→fO c=false):(l++m).takeWhile fO=l∧(l++m).dropWhile fO=m:=by
 induction l with
 | nil=>
  cases m with
  | nil=>exact⟨rfl,rfl⟩
  | cons c m=>
   have:=hm c rfl
   simp[this]
 | cons x l ih=>
  have hx:fO x=true:=decide_eq_true (h x (by simp))
  have h2:=ih (fun c hc=>h c (by simp[hc]))
  simp[hx,h2.1,h2.2]
theorem sK (n d:Nat):wh (wr n d)=tx (n/10^d)∧pl (wr n d)=pd n d∧rr (wr n d)=[]∧fS (bX (wr n d))= !decide (d=0):=by
 have h1:=Ud (l:=tx (n/10^d)) (m:=if d=0 then []else 46::pd n d) (Ig _) (by
  intro c hc
  split at hc
  ·cases hc
  injection hc with hc
  subst hc
  rfl)
 have h2:bX (wr n d)=if d=0 then []else 46::pd n d:=h1.2
 have h3:wh (wr n d)=tx (n/10^d):=h1.1
 refine⟨h3,?_⟩
 by_cases h0:d=0
 ·subst h0
  rw[if_pos rfl]at h2
  have hp:fS (bX (wr n 0))=false:=by rw[h2];rfl
  exact⟨mF hp,(Df hp).trans h2,hp⟩
 rw[if_neg h0]at h2
 have hp:fS (bX (wr n d))=true:=by rw[h2];rfl
 have h4:=Ud (l:=pd n d) (m:=[]) (Vh d n) (by intro c hc;cases hc)
 rw[List.append_nil]at h4
 refine⟨?_,?_,by rw[hp,decide_eq_false h0];rfl⟩
 ·unfold pl
  rw[if_pos hp,Dr hp,h2]
  exact h4.1
 unfold rr
 rw[if_pos hp,Dr hp,h2]
 exact h4.2
theorem Ue (n d:Nat):bT (wh (wr n d)++pl (wr n d))=n:=by
 obtain⟨h1,h2,_,_⟩:=sK n d
 rw[h1,h2,vR,KY,Uc,mR]
 exact Nat.div_add_mod' n (10^d)
theorem KZ (n d:Nat):fY (wr n d)=true:=by
 obtain⟨h1,h2,h3,h4⟩:=sK n d
 have hg:=EN (n/10^d)
 unfold fY
 rw[h1,h2,h3,h4]
 unfold jQ at hg
 simp only[Bool.or_eq_false_iff,Bool.and_eq_false_iff,Bool.not_eq_false',decide_eq_true_eq,decide_eq_false_iff_not]at hg
 obtain⟨⟨g1,g2⟩,_⟩:=hg
 have e1:(!decide (d=0)&&decide (pd n d=[]))=false:=by
  by_cases h0:d=0
  ·simp[h0]
  have:pd n d≠[]:=fun h=>h0 (by rw[←mR d n,h];rfl)
  simp[this]
 rw[e1]
 rcases g2 with g2 | g2
 ·simp[g1,g2]
 simp[g1,g2]
theorem Ke {l:List Nat}(h:∀c∈l,48≤c∧c≤57):wC l=decide (bT l=0):=by
 induction l with
 | nil=>rfl
 | cons c l ih=>
  have e:wC (c::l)=(decide (c=48)&&wC l):=rfl
  have e2:bT (c::l)=(c-48)*10^l.length+bT l:=by
   show List.foldl _ _ (c::l)=_
   rw[List.foldl_cons,If]
   simp
  have hc:=h c (by simp)
  have hp:0<10^l.length:=Nat.pow_pos (by omega)
  rw[e,ih (fun c hc=>h c (by simp[hc])),e2,←Bool.decide_and]
  refine decide_eq_decide.2 ⟨fun h=>by rw[h.1,h.2];simp,fun h=>?_⟩
  have h3:bT l=0:=by omega
  have h4:(c-48)*10^l.length=0:=by omega
  rcases Nat.mul_eq_zero.1 h4 with h5 | h5
  ·exact⟨by omega,h3⟩
  omega
theorem EO (n d:Nat):∃c,(wr n d).take 1=[c]∧48≤c∧c≤57:=by
 have h:=Ig (n/10^d)
 have h2:=pA (n/10^d)
 unfold wr
 cases hq:tx (n/10^d)with
 | nil=>exact absurd hq h2
 | cons x w=>exact⟨x,rfl,h x (by rw[hq];simp)⟩
theorem xF (z:Int) (d:Nat):dD (pt z d)=decide (z<0)∧aG (pt z d)=wr z.natAbs d:=by
 unfold pt
 by_cases h:z<0
 ·rw[if_pos h,decide_eq_true h]
  exact⟨rfl,rfl⟩
 rw[if_neg h,decide_eq_false h]
 obtain⟨c,h1,h2,h3⟩:=EO z.natAbs d
 have h4:¬(wr z.natAbs d).take 1=[45]:=by
  rw[h1]
  intro e
  injection e with e
  omega
 exact⟨decide_eq_false h4,if_neg h4⟩
theorem PG (z:Int) (d:Nat):gO (pt z d)=true:=by
 obtain⟨h1,h2⟩:=xF z d
 unfold gO
 rw[h1,h2,KZ,Bool.true_and]
 have e:tN (wr z.natAbs d)=decide (z.natAbs=0):=by
  unfold tN
  rw[Ke (Ng _),Ue]
 rw[e,←Bool.decide_and]
 simp
 omega
theorem RM (z:Int) (d:Nat):sR (pt z d)=Rat.divInt z ((10^d:Nat):Int):=by
 obtain⟨h1,h2⟩:=xF z d
 unfold sR
 rw[h1,h2,Ue,(sK z.natAbs d).2.1,mR]
 congr 1
 unfold bG
 by_cases h:z<0
 ·rw[decide_eq_true h]
  simp
  omega
 rw[decide_eq_false h]
 simp
 omega
theorem RL (z:Int) (d most:Nat):fB (pt z d) most=if d≤most then(if 40<(tx (z.natAbs/10^d)).length+d then 3 else 0)else 60:=by
 obtain⟨h1,h2⟩:=xF z d
 obtain⟨h3,h4,_,_⟩:=sK z.natAbs d
 unfold fB
 rw[PG,h2,h3,h4,mR]
 simp
def hal (q:Rat):Int:=if(q.den:Int)<2*q.num.fmod (q.den:Int)∨((q.den:Int)=2*q.num.fmod (q.den:Int)∧q.num.fdiv (q.den:Int)%2≠0)then q.num.fdiv (q.den:Int)+1 else q.num.fdiv (q.den:Int)
theorem LA (q:Rat):q.num=(q.den:Int)*q.num.fdiv (q.den:Int)+q.num.fmod (q.den:Int)∧0≤q.num.fmod (q.den:Int)∧q.num.fmod (q.den:Int)<(q.den:Int):=by
 have hd:(0:Int)<(q.den:Int):=by have:=q.den_pos;omega
 exact⟨(Int.mul_fdiv_add_fmod _ _).symm,Int.fmod_nonneg_of_pos _ hd,Int.fmod_lt_of_pos _ hd⟩
theorem Pq {a d f r:Int}(hd:0<d) (h:a=d*f+r) (h0:0≤r) (h1:r<d):a.fdiv d=f∧a.fmod d=r:=by
 have e1:a.fdiv d=f:=by
  rw[Int.fdiv_eq_ediv_of_nonneg _ (Int.le_of_lt hd),h,Int.add_comm,Int.add_mul_ediv_left _ _ (by omega),Int.ediv_eq_zero_of_lt h0 h1,Int.zero_add]
 refine⟨e1,?_⟩
 have h2:=Int.mul_fdiv_add_fmod a d
 rw[e1]at h2
 omega
theorem Kf (q:Rat):hal (-q)=-hal q:=by
 obtain⟨h1,h2,h3⟩:=LA q
 have hd:(0:Int)<(q.den:Int):=by have:=q.den_pos;omega
 unfold hal
 rw[Rat.neg_num,Rat.neg_den]
 generalize q.num.fdiv (q.den:Int)=f at*
 generalize q.num.fmod (q.den:Int)=r at*
 generalize (q.den:Int)=d at*
 by_cases h0:r=0
 ·subst h0
  obtain⟨e1,e2⟩:=Pq (a:=-q.num) (f:=-f) (r:=0) hd (by rw[h1,Int.mul_neg];omega) (by omega) hd
  rw[e1,e2,if_neg (by omega),if_neg (by omega)]
 obtain⟨e1,e2⟩:=Pq (a:=-q.num) (f:=-f-1) (r:=d-r) hd (by rw[h1,Int.mul_sub,Int.mul_neg];omega) (by omega) (by omega)
 rw[e1,e2]
 by_cases h4:d<2*r
 ·rw[if_neg (by omega),if_pos (by omega)];omega
 by_cases h5:d=2*r
 ·by_cases h6:f%2=0
  ·rw[if_pos (by omega),if_neg (by omega)];omega
  rw[if_neg (by omega),if_pos (by omega)];omega
 rw[if_pos (by omega),if_neg (by omega)];omega
theorem Ki (z:Int):hal (z:Rat)=z:=by
 unfold hal
 rw[Rat.num_intCast,Rat.den_intCast]
 obtain⟨e1,e2⟩:=Pq (a:=z) (d:=((1:Nat):Int)) (f:=z) (r:=0) (by omega) (by omega) (by omega) (by omega)
 rw[e1,e2,if_neg (by omega)]
theorem Vu (q:Rat):2*((hal q:Int):Rat)-2*q≤1∧2*q-2*((hal q:Int):Rat)≤1:=by
 obtain⟨h1,h2,h3⟩:=LA q
 have hd:(0:Rat)<(q.den:Rat):=by have:=q.den_pos;exact_mod_cast this
 have hq:q*(q.den:Rat)=(q.num:Rat):=AF q
 have hh:2*((q.den:Int)*hal q)-2*q.num≤(q.den:Int)∧2*q.num-2*((q.den:Int)*hal q)≤(q.den:Int):=by
  unfold hal
  split
  ·rw[Int.mul_add]
   omega
  omega
 generalize hal q=H at*
 have c1:(2*((H:Int):Rat)-2*q)*(q.den:Rat)≤1*(q.den:Rat):=by
  have:=(Rat.intCast_le_intCast).2 hh.1
  push_cast at this
  grind
 have c2:(2*q-2*((H:Int):Rat))*(q.den:Rat)≤1*(q.den:Rat):=by
  have:=(Rat.intCast_le_intCast).2 hh.2
  push_cast at this
  grind
 exact⟨Rat.le_of_mul_le_mul_right c1 hd,Rat.le_of_mul_le_mul_right c2 hd⟩
theorem Yn {p q:Rat}(h:0<(p-q).num.sign):q<p:=by
 have h1:=Hq.1 (Int.sign_pos_iff.1 h)
 grind
theorem Fg {p q:Rat}(h:q<p):0<(p-q).num.sign:=Int.sign_pos_iff.2 (Hq.2 (by grind))
theorem zX (k:Nat):(dg 4294967296 (10^k)).length≤k+1:=bN (by omega) (Nat.lt_of_le_of_lt (Nat.pow_le_pow_left (show 10≤4294967296 by omega) k) (Nat.pow_lt_pow_right (by omega) (by omega)))
theorem Fc {l:List Nat}(h:∀c∈l,48≤c∧c≤57):(dg 4294967296 (bT l)).length≤l.length:=by
 have h1:=pY h (Nat.le_refl l.length)
 rwa[List.take_length]at h1
def aD (n:Int):Nat:=(max 0 (min n 40)).toNat
def cD (q:Rat) (d:Nat):List Nat:=pt (hal (q*((10^d:Nat):Rat))) d
section
variable {f:Nat→Rat}{x y z:Nat}
end
theorem zN {l:List Nat}{k:Nat}(h:k<l.length):l[k]? =some (nth l k):=by simp[nth,h]
section
variable {f:Nat→Rat}{n i s t:Nat}
variable {b:Int}
end
section
variable {l:List Rat}{i k t:Nat}
end
section
variable {l:List Rat}{i k:Nat}
end
theorem Yy {l:List Nat}{k:Nat}(h:k<l.length):nth l k∈l:=List.mem_of_getElem? (zN h)
theorem mS {l m:List Nat}{a n:Nat}(h:l.drop a=m):nth m n=nth l (a+n):=by
 subst h
 unfold nth
 rw[List.getD_eq_getElem?_getD,List.getD_eq_getElem?_getD,List.getElem?_drop]
theorem Pr:∀{m:List Nat}{n:Nat},n≤(wh m).length→n<m.length→(fO (nth m n)=true↔n<(wh m).length)
 | [],_,_,h=>by simp at h
 | x::m,0,_,_=>by
  show fO x=true↔_
  unfold wh
  rw[List.takeWhile_cons]
  by_cases h:fO x=true
  ·rw[if_pos h];simp[h]
  rw[if_neg h];simp[h]
 | x::m,n+1,h1,h2=>by
  show fO (nth m n)=true↔_
  have hx:fO x=true:=by
   unfold wh at h1
   rw[List.takeWhile_cons]at h1
   by_cases h:fO x=true
   ·exact h
   rw[if_neg h]at h1;simp at h1
  have e:wh (x::m)=x::wh m:=by unfold wh;rw[List.takeWhile_cons,if_pos hx]
  rw[e,List.length_cons]at h1⊢
  rw[Pr (m:=m) (n:=n) (by omega) (by simpa using h2)]
  omega
theorem RA {l m:List Nat}{a n:Nat}(h:l.drop a=m) (h1:n≤(wh m).length) (h2:a+n<l.length) (h3:48≤nth l (a+n)) (h4:nth l (a+n)≤57):n+1≤(wh m).length:=by
 have hl:m.length=l.length-a:=by rw[←h,List.length_drop]
 have h5:=(Pr h1 (by omega)).1 (by rw[mS h];exact decide_eq_true ⟨h3,h4⟩)
 omega
theorem Vr {l m:List Nat}{a n:Nat}(h:l.drop a=m) (h1:n≤(wh m).length) (h2:l.length≤a+n∨¬(48≤nth l (a+n)∧nth l (a+n)≤57)):n=(wh m).length:=by
 have hl:m.length=l.length-a:=by rw[←h,List.length_drop]
 have hw:=yL m
 rcases Nat.lt_or_ge n (wh m).length with h3 | h3
 ·exfalso
  have h4:=(Pr h1 (by omega)).2 h3
  rw[mS h]at h4
  have h5:=Ih h4
  rcases h2 with h2 | h2
  ·omega
  exact h2 h5
 omega
def fT (l:List Nat):Nat:=if l.take 1=[45]then 1 else 0
theorem rP (l:List Nat):l.drop (fT l)=aG l:=by
 unfold fT aG
 split <;> rfl
theorem rR {l:List Nat}{c:Nat}(h:0<l.length):l.take 1=[c]↔nth l 0=c:=by
 cases l with
 | nil=>simp at h
 | cons x l=>simp[nth]
theorem MT {l:List Nat}(h:0<l.length) (h2:nth l 0=45):fT l=1:=if_pos ((rR h).2 h2)
theorem Yu {l:List Nat}(h:¬(0<l.length∧nth l 0=45)):fT l=0:=if_neg fun h2=>by
 have h3:=congrArg List.length h2
 rw[List.length_take]at h3
 have h4:0<l.length:=by simp at h3;omega
 exact h ⟨h4,(rR h4).1 h2⟩
theorem qK (l:List Nat):fT l+(aG l).length=l.length:=by
 rw[←rP,List.length_drop]
 unfold fT
 split
 ·rename_i h
  have h3:=congrArg List.length h
  rw[List.length_take]at h3
  simp at h3
  omega
 omega
theorem xG (l:List Nat):l.drop (fT l+(wh (aG l)).length)=bX (aG l):=by
 rw[←List.drop_drop,rP]
 conv=>lhs;rw[show aG l=wh (aG l)++bX (aG l) from(lZ _).symm]
 rw[show wh (wh (aG l)++bX (aG l))=wh (aG l) by rw[lZ]]
 exact List.drop_left
theorem Yv {l:List Nat}(h:fT l+(wh (aG l)).length<l.length) (h2:nth l (fT l+(wh (aG l)).length)=46):fS (bX (aG l))=true:=by
 have hd:=xG l
 have hl:=congrArg List.length hd
 rw[List.length_drop]at hl
 refine decide_eq_true ((rR (by omega)).2 ?_)
 rw[mS hd]
 exact h2
theorem Di {l:List Nat}(h:¬(fT l+(wh (aG l)).length<l.length∧nth l (fT l+(wh (aG l)).length)=46)):fS (bX (aG l))=false:=by
 have hd:=xG l
 have hl:=congrArg List.length hd
 rw[List.length_drop]at hl
 refine decide_eq_false fun h2=>?_
 have h3:=congrArg List.length h2
 rw[List.length_take]at h3
 have h4:0<(bX (aG l)).length:=by simp at h3;omega
 refine h ⟨by omega,?_⟩
 have h5:=(rR h4).1 h2
 rwa[mS hd]at h5
theorem Kb {l:List Nat}(h:fS (bX (aG l))=true):l.drop (fT l+(wh (aG l)).length+1)=iG (bX (aG l)):=by
 rw[←List.drop_drop,xG,Dr h]
theorem Yw {m:List Nat}(h:fS (bX m)=true):wh (iG (bX m))=pl m:=by unfold pl wh;rw[if_pos h]
theorem Yx {l:List Nat}(h:fS (bX (aG l))=true):l.length=fT l+(wh (aG l)).length+1+(pl (aG l)).length+(rr (aG l)).length:=by
 have h1:=qK l
 have h2:=congrArg List.length (lZ (aG l))
 have h3:=congrArg List.length (uP h)
 rw[List.length_append]at h2
 rw[List.length_cons,List.length_append]at h3
 omega
theorem Dj {l:List Nat}(h:fS (bX (aG l))=false):l.length=fT l+(wh (aG l)).length+(rr (aG l)).length:=by
 have h1:=qK l
 have h2:=congrArg List.length (lZ (aG l))
 rw[List.length_append]at h2
 rw[Df h]
 omega
theorem Kc {m:List Nat}:rr m=[]↔(rr m).length=0:=List.length_eq_zero_iff.symm
def gZ (m:List Nat):Bool:=b1 m || b2 m
def sS (l:List Nat):Nat:=bif gZ (aG l)then 0 else(wh (aG l)).length
def sT (l:List Nat):Nat:=bif gZ (aG l)then 0 else(pl (aG l)).length
def vU (l:List Nat):Bool:=bif gZ (aG l)then false else decide (rr (aG l)=[])
theorem Ac (l:List Nat):vU l=fY (aG l):=by
 rw[AE]
 unfold vU gZ
 cases b1 (aG l) <;> cases b2 (aG l) <;> rfl
theorem LB {l:List Nat}(h:fY (aG l)=true):gZ (aG l)=false:=by
 rw[AE]at h
 unfold gZ
 cases h1:b1 (aG l) <;> cases h2:b2 (aG l) <;> simp_all
theorem Yz {l:List Nat}(h:fY (aG l)=true):sS l=(wh (aG l)).length∧sT l=(pl (aG l)).length:=by
 unfold sS sT
 rw[LB h]
 exact⟨rfl,rfl⟩
theorem Kd {l:List Nat}(h:fY (aG l)=true):0<l.length:=by
 have h1:=(mX h).2
 have h2:=qK l
 have h3:=yL (aG l)
 have h4:=List.length_pos_iff.2 h1
 omega
theorem tS {l:List Nat}(h:0<l.length):decide (nth l 0=45)=dD l:=decide_eq_decide.2 (rR h).symm
theorem Dk {p:Nat→Bool}{l:List Nat}{k:Nat}(h:k<l.length):(l.take (k+1)).all p=((l.take k).all p&&p (nth l k)):=by
 rw[List.take_add_one,zN h]
 simp
theorem Fs {l:List Nat}{k:Nat}(h:k<l.length):sD (l.take (k+1))=(if nth l k=46 then sD (l.take k)else if nth l k=45 then sD (l.take k)else sD (l.take k)*10+(nth l k-48)):=by
 rw[List.take_add_one,zN h]
 simp[sD]
theorem Ft {l:List Nat}{k:Nat}(h:k<l.length):sP (l.take (k+1))=(if nth l k=46 then 0 else if nth l k=45 then sP (l.take k)else if 0≤sP (l.take k)then sP (l.take k)+1 else sP (l.take k)):=by
 rw[List.take_add_one,zN h]
 unfold sP
 rw[List.foldl_append]
 rfl
theorem Ri {l:List Nat}(h:fY (aG l)=true):∀c∈l,c=45∨c=46∨(48≤c∧c≤57):=by
 intro c hc
 rw[pG l]at hc
 rcases List.mem_append.1 hc with hc | hc
 ·split at hc
  ·exact .inl (List.mem_singleton.1 hc)
  cases hc
 rw[(mX h).1]at hc
 rcases List.mem_append.1 hc with hc | hc
 ·exact .inr (.inr (Bf _ c hc))
 split at hc
 ·rcases List.mem_cons.1 hc with rfl | hc
  ·exact .inr (.inl rfl)
  exact .inr (.inr (Bg _ c hc))
 cases hc
theorem MW {l:List Nat}{k:Nat}(hk:k≤l.length) (hb:∀c∈l,c=45∨c=46∨(48≤c∧c≤57)):sD (l.take k)<10^k:=by
 induction k with
 | zero=>simp[sD]
 | succ k ih=>
  have h1:=ih (by omega)
  have h2:=hb _ (Yy (l:=l) (k:=k) (by omega))
  rw[Fs (by omega),Nat.pow_succ]
  split
  ·omega
  split
  ·omega
  omega
theorem MX {l:List Nat}{k:Nat}(hk:k≤l.length):-1≤sP (l.take k)∧sP (l.take k)≤k:=by
 induction k with
 | zero=>exact⟨by simp[sP],by simp[sP]⟩
 | succ k ih=>
  have h1:=ih (by omega)
  rw[Ft (by omega)]
  split
  ·omega
  split
  ·omega
  split <;> omega
theorem yM {l:List Nat}(h:fY (aG l)=true):(if dD l then-(((sD l:Nat):Rat)/((10^(pl (aG l)).length:Nat):Rat))else((sD l:Nat):Rat)/((10^(pl (aG l)).length:Nat):Rat))=sR l:=by
 unfold sR
 rw[PF h]
 have hd:((10^(pl (aG l)).length:Nat):Rat)≠0:=by
  have:0<10^(pl (aG l)).length:=Nat.pow_pos (by omega)
  exact_mod_cast (by omega:(10^(pl (aG l)).length:Nat)≠0)
 have hi:(((10^(pl (aG l)).length:Nat):Int))≠0:=by
  have:0<10^(pl (aG l)).length:=Nat.pow_pos (by omega)
  omega
 generalize bT (wh (aG l)++pl (aG l))=V
 have e:∀z:Int,Rat.divInt z ((10^(pl (aG l)).length:Nat):Int)=(z:Rat)/((10^(pl (aG l)).length:Nat):Rat):=fun z=>by
  refine Af hd ?_
  rw[Rat.div_mul_cancel hd]
  have h2:=pK z _ hi
  rw[Rat.intCast_natCast]at h2
  exact h2
 rw[e]
 cases dD l with
 | true=>
  show-(_/_)=((-(V:Int):Int):Rat)/_
  rw[Rat.intCast_neg,Rat.intCast_natCast,Rat.div_def,Rat.div_def,Rat.neg_mul]
 | false=>
  show _=(((V:Nat):Int):Rat)/_
  rw[Rat.intCast_natCast]
  rfl
end Go.Proofs.YtcaakamelngceaaGreatDoor
namespace Go.Proofs.YtcaakamelngceaaGreatDoor
open Go Go.Shelf
def laysR_ren:Go.Shelf.Ren:=⟨fun | 99=>91 | 105=>42 | 165=>92 | 166=>93 | 169=>95 | 170=>94 | 206=>145 | 212=>90 | 240=>146 | 241=>147 | 263=>143 | 264=>144 | 276=>169 | 277=>170 | n=>n,fun | 0=>0 | 3=>3 | 4=>4 | 5=>5 | 9=>9 | 20=>20 | 37=>113 | 46=>119 | 51=>115 | 53=>152 | 70=>123 | 72=>125 | 75=>128 | 76=>129 | 80=>132 | 109=>120 | 127=>172 | 146=>167 | 148=>170 | 164=>189 | n=>n,fun | n=>n⟩
theorem mA:Go.Proofs.Lays.n105 Tryz.prog laysR_ren:={
 mixed:=by kernel_rfl
 f99:=Tryz.func91.trans (congrArg some (by kernel_rfl))
 f105:=Tryz.func42.trans (congrArg some (by kernel_rfl))
 f165:=Tryz.func92.trans (congrArg some (by kernel_rfl))
 f166:=Tryz.func93.trans (congrArg some (by kernel_rfl))
 f169:=Tryz.func95.trans (congrArg some (by kernel_rfl))
 f170:=Tryz.func94.trans (congrArg some (by kernel_rfl))
 f206:=Tryz.func145.trans (congrArg some (by kernel_rfl))
 f212:=Tryz.func90.trans (congrArg some (by kernel_rfl))
 f240:=Tryz.func146.trans (congrArg some (by kernel_rfl))
 f241:=Tryz.func147.trans (congrArg some (by kernel_rfl))
 f263:=Tryz.func143.trans (congrArg some (by kernel_rfl))
 f264:=Tryz.func144.trans (congrArg some (by kernel_rfl))
 f276:=Tryz.func169.trans (congrArg some (by kernel_rfl))
 f277:=Tryz.func170.trans (congrArg some (by kernel_rfl))
 t0:=Tryz.underlying0
 a0:=Tryz.isAgg0
 z0:=Tryz.sizeOf0
 v0:=Tryz.zeroValue0
 t3:=Tryz.underlying3
 a3:=Tryz.isAgg3
 z3:=Tryz.sizeOf3
 v3:=Tryz.zeroValue3
 t4:=Tryz.underlying4
 a4:=Tryz.isAgg4
 z4:=Tryz.sizeOf4
 v4:=Tryz.zeroValue4
 t5:=Tryz.underlying5
 a5:=Tryz.isAgg5
 z5:=Tryz.sizeOf5
 v5:=Tryz.zeroValue5
 t9:=Tryz.underlying9
 a9:=Tryz.isAgg9
 z9:=Tryz.sizeOf9
 v9:=Tryz.zeroValue9
 t20:=Tryz.underlying20
 a20:=Tryz.isAgg20
 z20:=Tryz.sizeOf20
 v20:=Tryz.zeroValue20
 t37:=Tryz.underlying113
 a37:=Tryz.isAgg113
 z37:=Tryz.sizeOf113
 v37:=Tryz.zeroValue113
 t46:=Tryz.underlying119
 a46:=Tryz.isAgg119
 z46:=Tryz.sizeOf119
 v46:=Tryz.zeroValue119
 t51:=Tryz.underlying115
 a51:=Tryz.isAgg115
 z51:=Tryz.sizeOf115
 v51:=Tryz.zeroValue115
 t53:=Tryz.underlying152
 a53:=Tryz.isAgg152
 z53:=Tryz.sizeOf152
 v53:=Tryz.zeroValue152
 t70:=Tryz.underlying123
 a70:=Tryz.isAgg123
 z70:=Tryz.sizeOf123
 v70:=Tryz.zeroValue123
 t72:=Tryz.underlying125
 a72:=Tryz.isAgg125
 z72:=Tryz.sizeOf125
 v72:=Tryz.zeroValue125
 t75:=Tryz.underlying128
 a75:=Tryz.isAgg128
 z75:=Tryz.sizeOf128
 v75:=Tryz.zeroValue128
 t76:=Tryz.underlying129
 a76:=Tryz.isAgg129
 z76:=Tryz.sizeOf129
 v76:=Tryz.zeroValue129
 t109:=Tryz.underlying120
 a109:=Tryz.isAgg120
 z109:=Tryz.sizeOf120
 v109:=Tryz.zeroValue120
 t127:=Tryz.underlying172
 a127:=Tryz.isAgg172
 z127:=Tryz.sizeOf172
 v127:=Tryz.zeroValue172
 t146:=Tryz.underlying167
 a146:=Tryz.isAgg167
 z146:=Tryz.sizeOf167
 v146:=Tryz.zeroValue167
 t148:=Tryz.underlying170
 a148:=Tryz.isAgg170
 z148:=Tryz.sizeOf170
 v148:=Tryz.zeroValue170
 t164:=Tryz.underlying189
 a164:=Tryz.isAgg189
 z164:=Tryz.sizeOf189
 v164:=Tryz.zeroValue189}
theorem Xu:Go.Proofs.Lays.n212 Tryz.prog laysR_ren:={mA with
}
theorem EP:Go.Proofs.Builder.Extra Tryz.prog laysR_ren where
 sizeBuilder:=by kernel_rfl
 liesBuilder:=by kernel_rfl
 t5:=mA.t5
 a5:=mA.a5
 z5:=mA.z5
 v5:=mA.v5
 infoByte:=by kernel_rfl
 cellsByte:=by kernel_rfl
 sizeByte:=by kernel_rfl
 neB5:=by decide
end Go.Proofs.YtcaakamelngceaaGreatDoor
namespace Go.Proofs.YtcaakamelngceaaGreatDoor
open Go Go.RowKit
section
variable {f:FuncId}{args:List FV}
theorem Uf {a b:Value}(h:∀(N:Nat→Prop) (w:World) us,cO w N [] args us→(∀b,N b→b<w.heap.size)→Calls Tryz.prog f us.toArray w (fun e w'=>e=.returned (.tuple #[a,b])∧Below w.heap.size w w')):aE true Tryz.prog f [] args (aN (.tup [.one (tv a),.one (tv b)])):=by
 intro N w cs us hL
 obtain⟨rfl,hf⟩:=oB hL
 refine(h _ w us hf (fun b hb=>hb.1)).mono ?_
 rintro e W ⟨rfl,hb⟩
 refine .mk0 (y:=[.w a]++([.w b]++[])) rfl hb (by simp[VT.okL,VT.ok]) (by simp[VT.fpL,VT.fp]) (by simp[VT.fpL,VT.fp]) ⟨[a,b],rfl,?_⟩
 exact⟨a,[b],[.w a],[.w b]++[],rfl,rfl,⟨.w a,rfl,rfl,by simp[CR,tv,OR]⟩,b,[],[.w b],[],rfl,rfl,⟨.w b,rfl,rfl,by simp[CR,tv,OR]⟩,rfl,rfl⟩
end
theorem sL {cs:List UInt8}{p:Nat→Bool}(hp:∀c<256,cs.contains (UInt8.ofNat c)=p c):∀{l:List Nat},Lim 256 l→(l.map UInt8.ofNat).dropWhile (cs.contains ·)=(l.dropWhile p).map UInt8.ofNat
 | [],_=>rfl
 | x::l,h=>by
  rw[List.map_cons,List.dropWhile_cons,List.dropWhile_cons,hp x (h x (by simp))]
  split
  ·exact sL hp (fun c hc=>h c (by simp[hc]))
  rfl
def p0 (c:Nat):Bool:=decide (c=48)
def iN (p:Nat→Bool) (l:List Nat):List Nat:=(l.reverse.dropWhile p).reverse
theorem uX {B:Nat}{p:Nat→Bool}{l:List Nat}(h:Lim B l):Lim B (iN p l):=lR (kS (lR h))
theorem AG:∀c<256,([48]:List UInt8).contains (UInt8.ofNat c)=p0 c:=by decide+kernel
theorem UK {cs:List UInt8}{p:Nat→Bool}(hp:∀c<256,cs.contains (UInt8.ofNat c)=p c){l:List Nat}(h:Lim 256 l):(⟨(Lib.trimLeftS (aC l).data.toList cs).toArray⟩:ByteArray)=aC (l.dropWhile p):=by
 rw[iJ]
 unfold Lib.trimLeftS
 rw[sL hp h]
 rfl
theorem LC {cs:List UInt8}{p:Nat→Bool}(hp:∀c<256,cs.contains (UInt8.ofNat c)=p c){l:List Nat}(h:Lim 256 l):Lib.trimRightS (l.map UInt8.ofNat) cs=(iN p l).map UInt8.ofNat:=by
 unfold Lib.trimRightS iN
 rw[←List.map_reverse,sL hp (lR h),List.map_reverse]
theorem UL {cs:List UInt8}{p:Nat→Bool}(hp:∀c<256,cs.contains (UInt8.ofNat c)=p c){l:List Nat}(h:Lim 256 l):(⟨(Lib.trimRightS (aC l).data.toList cs).toArray⟩:ByteArray)=aC (iN p l):=by
 rw[iJ,LC hp h]
 rfl
theorem UM {cs:List UInt8}{p:Nat→Bool}(hp:∀c<256,cs.contains (UInt8.ofNat c)=p c){l:List Nat}(h:Lim 256 l):(⟨(Lib.trimS (aC l).data.toList cs).toArray⟩:ByteArray)=aC ((iN p l).dropWhile p):=by
 rw[iJ]
 unfold Lib.trimS
 rw[LC hp h]
 unfold Lib.trimLeftS
 rw[sL hp (uX h)]
 rfl
variable {l:List Nat}
theorem Qq (hl:Lim 256 l):aE true Tryz.prog 89 [] [.one (tv (.string (aC l))),.one (tv (.string ⟨#[48,49,50,51,52,53,54,55,56,57]⟩))] (aN (.one (tv (.string (aC (l.dropWhile fO)))))):=lX fun N w us hf hN=>by
 obtain⟨u,v,rfl,h1,h2⟩:=lY hf
 obtain rfl:=aT (dZ h1)
 obtain rfl:=aT (dZ h2)
 have h:=Go.Proofs.Any.strings_TrimLeft_laid Xn (by kernel_rfl) (aC l) ⟨#[48,49,50,51,52,53,54,55,56,57]⟩ w (by decide) (fun j b h=>(by decide:∀b∈([48,49,50,51,52,53,54,55,56,57]:List UInt8),b.toNat<128) b (List.mem_of_getElem? h))
 rwa[UK (cs:=[48,49,50,51,52,53,54,55,56,57]) Ie hl]at h
theorem Vj (hl:Lim 256 l) (hn:l.length≤9223372036854775807):aE true Tryz.prog 58 [] [.one (tv (.string (aC l))),.one (tv (.string ⟨#[48]⟩))] (aN (.one (tv (.string (aC (iN p0 l)))))):=lX fun N w us hf hN=>by
 obtain⟨u,v,rfl,h1,h2⟩:=lY hf
 obtain rfl:=aT (dZ h1)
 obtain rfl:=aT (dZ h2)
 have h:=Go.Proofs.Any.strings_TrimRight_laid Xo (by kernel_rfl) (aC l) ⟨#[48]⟩ w (by rw[aF];omega) (by decide) (fun j b h=>(by decide:∀b∈([48]:List UInt8),b.toNat<128) b (List.mem_of_getElem? h))
 rwa[UL (cs:=[48]) AG hl]at h
theorem BK (hl:Lim 256 l) (hn:l.length≤9223372036854775807):aE true Tryz.prog 125 [] [.one (tv (.string (aC l))),.one (tv (.string ⟨#[48]⟩))] (aN (.one (tv (.string (aC ((iN p0 l).dropWhile p0)))))):=lX fun N w us hf hN=>by
 obtain⟨u,v,rfl,h1,h2⟩:=lY hf
 obtain rfl:=aT (dZ h1)
 obtain rfl:=aT (dZ h2)
 have h:=Go.Proofs.Any.strings_Trim_laid sH (by kernel_rfl) (aC l) ⟨#[48]⟩ w (by rw[aF];omega) (by decide) (fun j b h=>(by decide:∀b∈([48]:List UInt8),b.toNat<128) b (List.mem_of_getElem? h))
 rwa[UM (cs:=[48]) AG hl]at h
theorem Qz {n:Nat}(hn:n≤1000000):aE true Tryz.prog 42 [] [.one (tv (.string ⟨#[48]⟩)),.one (tv (.int .i64 ((n:Nat):Int)))] (aN (.one (tv (.string (aC (List.replicate n 48)))))):=lX fun N w us hf hN=>by
 obtain⟨u,v,rfl,h1,h2⟩:=lY hf
 obtain rfl:=aT (dZ h1)
 obtain rfl:=aT (dZ h2)
 have h:=Go.Proofs.Any.strings_Repeat mA EP ⟨#[48]⟩ n w (by omega) (by show 1*n≤_;omega)
 have e:(⟨(Lib.repeatL (⟨#[48]⟩:ByteArray).data.toList n).toArray⟩:ByteArray)=aC (List.replicate n 48):=by
  have:∀n,Lib.repeatL [48] n=(List.replicate n 48).map UInt8.ofNat:=fun n=>by
   induction n with
   | zero=>rfl
   | succ n ih=>rw[Lib.repeatL,ih,List.replicate_succ];rfl
  show(⟨(Lib.repeatL [48] n).toArray⟩:ByteArray)=_
  rw[this]
  rfl
 rwa[e]at h
theorem GZ {a b:Nat}(ha:a<18446744073709551616) (hb:b<18446744073709551616):aE true Tryz.prog 90 [] [.one (tv (.int .u64 ((a:Nat):Int))),.one (tv (.int .u64 ((b:Nat):Int)))] (aN (.tup [.one (tv (.int .u64 ((a*b/18446744073709551616:Nat):Int))),.one (tv (.int .u64 ((a*b%18446744073709551616:Nat):Int)))])):=Uf fun N w us hf hN=>by
 obtain⟨u,v,rfl,h1,h2⟩:=lY hf
 obtain rfl:=aT (dZ h1)
 obtain rfl:=aT (dZ h2)
 exact(Go.Proofs.Any.bits_Mul Xu a b ha hb w).mono fun e w' h=>⟨h.1,by first | exact h.2 | (rw[h.2];exact Below.refl _ _)⟩
theorem Va (l:List Nat):decide ((iN p0 l).dropWhile p0=[])=wC l:=by
 unfold wC
 rw[Bool.eq_iff_iff,decide_eq_true_eq,List.all_eq_true,uO]
 unfold iN
 constructor
 ·intro h c hc
  cases hq:l.reverse.dropWhile p0 with
  | nil=>exact uO.1 hq c (List.mem_reverse.2 hc)
  | cons y ys=>
   have h1:=h y (by rw[hq];simp)
   have h2:=List.head?_dropWhile_not p0 l.reverse
   rw[hq]at h2
   simp at h2
   rw[h1]at h2
   cases h2
 intro h c hc
 have h1:=(List.dropWhile_sublist p0).subset (List.mem_reverse.1 hc)
 exact h c (List.mem_reverse.1 h1)
theorem PH:CallOk Tryz.prog 140:=.mk Tryz.func140 (by decide) rfl
theorem Bh {l R:List Nat}{c:Nat}(hl:Lim 256 l) (hR:l.dropWhile (· ==c)=R):aE true Tryz.prog 140 [] [.one (tv (.string (aC l))),.one (tv (.int .u8 ((c:Nat):Int)))] (aN (.one (tv (.string (aC R))))):=by
 refine bF Tryz.func140 rfl Tryz.ntmps140 rfl aA rfl fun N9 w9 c0 h0=>?_
 refine sq ?_;refine rl ?_;refine o1 ?_;refine nl ?_;refine sq ?_;refine bl ?_
 refine lp (γ:=List Nat) (fun l=>cE [(0,.one (tv (.string (aC l)))),(1,.one (tv (.int .u8 ((c:Nat):Int))))]) (fun _=>([]:List Ob).map some) (fun l=>Lim 256 l∧l.dropWhile (· ==c)=R) (fun l=>l.length) l ⟨hl,hR⟩ (aQ h0 [] _ _ (by decide) ⟨rfl,rfl,trivial⟩ rfl) fun k hk=>?_
 refine sq ?_;refine sq ?_;refine rl ?_;refine o1 ?_;refine o1 ?_
 refine WL.cast (t:=6) (u':=.int .i64 ((k.length:Nat):Int)) rfl (congrArg (fun n:Nat=>Value.int .i64 (n:Int)) (aF _)) ?_
 refine o1 ?_;refine o1 ?_;refine WL.split (t:=8) rfl (fun h1=>?_) (fun h1=>?_)
 ·refine o1 ?_;refine o1 ?_ (hC:=(by rw[aF];show 0<k.length;omega))
  refine WL.cast (t:=10) (u':=.int .u8 (((nth k 0):Nat):Int)) rfl (congrArg (fun n:Nat=>Value.int .u8 (n:Int)) (eM (i:=0) (by omega) (dR (k:=0) hk.1 (by omega)))) ?_
  (iterate 3 refine o1 ?_);refine nl ?_;refine bR rfl (fun h2=>?_) (fun h2=>?_)
  ·refine sk ?_;refine bl ?_;refine rl ?_;refine o1 ?_;refine o1 ?_ (hC:=(by rw[aF];show 1≤k.length;omega))
   refine WL.cast (t:=15) (u':=.string (aC (k.drop 1))) rfl (congrArg Value.string (gW _ _)) ?_;refine o1 ?_;refine nl ?_
   exact⟨k.drop 1,by rw[List.length_drop];omega,⟨lK hk.1 1,(Sk (by omega) (by omega)).trans hk.2⟩,aQ h0 [] _ _ (by decide) ⟨rfl,rfl,trivial⟩ rfl⟩
  refine ex ?_;refine sq ?_;refine rl ?_;refine o1 ?_;refine o1 ?_;refine nl ?_;refine rt ?_
  exact en (.inl rfl) rfl (aV (aO _)) (by decide) (fun _=>trivial) (congrArg (fun z=>FV.one (tv (.string z))) (congrArg aC ((Oz (by omega) (by omega)).trans hk.2)))
 (iterate 4 refine cH ?_);refine o1 ?_;refine nl ?_;refine fW rfl ?_;refine ex ?_;refine sq ?_;refine rl ?_;refine o1 ?_;refine o1 ?_;refine nl ?_;refine rt ?_
 exact en (.inl rfl) rfl (aV (aO _)) (by decide) (fun _=>trivial) (congrArg (fun z=>FV.one (tv (.string z))) (congrArg aC ((Oy (by omega)).trans hk.2)))
theorem yA {l:List Nat}(hl:Lim 256 l):aE true Tryz.prog 89 [] [.one (tv (.string (aC l))),.one (tv (.string ⟨#[48]⟩))] (aN (.one (tv (.string (aC (l.dropWhile (· ==48))))))):=by
 refine bF Tryz.func89 rfl Tryz.ntmps89 rfl aA rfl fun N9 w9 c0 h0=>?_
 refine sq ?_;refine rl ?_;refine o1 ?_;refine nl ?_;refine sq ?_;refine sq ?_;refine rl ?_;refine o1 ?_;refine o1 ?_
 refine WL.cast (t:=8) (u':=.bool (decide (l=[]))) rfl (congrArg Value.bool (gX hl)) ?_;refine o1 ?_;refine WL.splitb (t:=9) rfl (fun h1=>?_) (fun h1=>?_)
 ·refine cH ?_;refine cH ?_;refine o1 ?_;refine nl ?_;refine fX rfl ?_;refine sq ?_;refine rl ?_;refine o1 ?_;refine o1 ?_;refine nl ?_;refine rt ?_
  exact en (.inl rfl) rfl (aV (aO _)) (by decide) (fun _=>trivial) (congrArg (fun z=>FV.one (tv (.string z))) (congrArg aC (by rw[of_decide_eq_true h1];rfl)))
 refine o1 ?_;refine o1 ?_;refine WL.cast (t:=11) (u':=.bool false) rfl (congrArg Value.bool (gX (l:=[48]) (Lim.cons (by omega) Lim.nil))) ?_
 refine o1 ?_;refine nl ?_;refine fW rfl ?_;refine sk ?_;refine sq ?_;refine sq ?_;refine rl ?_;(iterate 3 refine o1 ?_)
 refine WL.cast (t:=16) (u':=.bool true) rfl (congrArg Value.bool rfl) ?_;refine o1 ?_;refine o1 ?_;refine o1 ?_ (hC:=(by decide))
 refine o1 ?_;refine WL.cast (t:=20) (u':=.bool true) rfl (congrArg Value.bool rfl) ?_;refine o1 ?_;refine nl ?_;refine fX rfl ?_;refine sq ?_;refine rl ?_;refine o1 ?_;refine o1 ?_
 refine o1 ?_ (hC:=(by decide))
 refine WL.cast (t:=24) (u':=.int .u8 ((48:Nat):Int)) rfl rfl ?_
 refine ca (Bh (c:=48) hl rfl) PH ⟨a1 rfl,a1 rfl,rfl⟩ (.one (tv (.string (aC (l.dropWhile (· ==48)))))) ?_;refine o1 ?_;refine nl ?_;refine rt ?_
 exact en (.inl rfl) rfl (aV (aO _)) (by decide) (fun _=>trivial) (congrArg (fun z=>FV.one (tv (.string z))) (rfl))
theorem Ug {t n:Nat}{xs:List Nat}(hn:xs.length=n) (hn2:n≤100000000):aE false Tryz.prog 88 [⟨t,1,(dJ xs).map .t⟩] [.one (.sl 0 0 n)] (Rt [⟨t,1,(dJ xs.reverse).map .t⟩] (.tup [])):=by
 subst hn;refine Ez Tryz.func88 rfl Tryz.ntmps88 rfl aA rfl fun N9 M9 w9 c0 h0=>?_
 refine sq ?_;refine rl ?_;(iterate 5 refine o1 ?_);refine nl ?_;refine bl ?_
 refine lp (γ:=Nat) (fun k=>cE [(0,.one (.sl 0 0 xs.length)),(2,.one (tv (.int .i64 ((k:Nat):Int)))),(3,.one (tv (.int .i64 ((xs.length:Int)-1-(k:Int):Int))))]) (fun k=>[(⟨t,1,(dJ (fQ xs k)).map .t⟩:Ob)].map some) (fun k=>2*k≤xs.length+1) (fun k=>xs.length-k) 0 (by omega) (Fb h0 [0] _ _ (by decide) rfl ⟨rfl,rfl,nE (by omega),trivial⟩ ⟨cV (congrArg (fun l=>some (⟨t,1,(dJ l).map .t⟩:Ob)) (OV xs)),rfl⟩) fun k hk=>?_
 have hrl:=jI xs k
 refine sq ?_;refine sq ?_;refine rl ?_;(iterate 3 refine o1 ?_);refine nl ?_;refine bR rfl (fun h1=>?_) (fun h1=>?_)
 ·refine sk ?_;refine sq ?_;refine bl ?_;refine rd [] (fun i=>[15].contains i) mixed ?_
  refine dv 0 ?_;refine dv 1 ?_;refine dv 2 ?_;refine dv 3 ?_;refine WD.cast (t:=17) (u':=.int .i64 (((xs.length-1-k):Nat):Int)) rfl (aI (by omega)) ?_
  refine dv 4 ?_;refine dv 5 ?_;refine WD.cast (t:=19) (u':=.int .i64 (((xs.length-1-k):Nat):Int)) rfl (aI (by omega)) ?_
  refine dv 6 ?_;refine dv 8 ?_;refine dv 9 ?_;refine dv 10 ?_;refine WO.two (i:=7) (j:=11) (by kernel_rfl) ?_ ?_
  ·refine Ow 7 (Dn (fQ xs k) (k:=(xs.length-1-k)) (by omega)) ?_
   refine WO.one (by kernel_rfl) (Ow 11 (Dn (fQ xs k) (k:=k) (by omega)) ?_)
   refine dv 12 ?_;refine Zu 13 (uH (fQ xs k) (k:=k) (v:=nth (fQ xs k) ((xs.length-1-k))) (by omega)) (zA (fQ xs k) (by omega)) ?_
   refine dv 14 ?_
   refine Wv 15 (uH ((fQ xs k).set (k) (nth (fQ xs k) ((xs.length-1-k)))) (k:=(xs.length-1-k)) (v:=nth (fQ xs k) (k)) (by simp only[List.length_set];omega)) (zA ((fQ xs k).set (k) (nth (fQ xs k) ((xs.length-1-k)))) (by simp only[List.length_set];omega)) ?_
   refine aU ?_;refine rl ?_;refine o1 ?_;refine o1 ?_;refine WL.cast (t:=11) (u':=.int .i64 ((k+1:Nat):Int)) rfl (aI (by omega)) ?_
   (iterate 4 refine o1 ?_);refine nl ?_
   exact⟨k+1,by omega,by omega,Fb h0 [0] _ _ (by decide) rfl ⟨rfl,rfl,nE (by omega),trivial⟩ ⟨cV (congrArg (fun l=>some (⟨t,1,(dJ l).map .t⟩:Ob)) (Zx (by omega))),rfl⟩⟩
  refine Ow 11 (Dn (fQ xs k) (k:=k) (by omega)) ?_
  refine WO.one (by kernel_rfl) (Ow 7 (Dn (fQ xs k) (k:=(xs.length-1-k)) (by omega)) ?_)
  refine dv 12 ?_;refine Zu 13 (uH (fQ xs k) (k:=k) (v:=nth (fQ xs k) ((xs.length-1-k))) (by omega)) (zA (fQ xs k) (by omega)) ?_
  refine dv 14 ?_
  refine Wv 15 (uH ((fQ xs k).set (k) (nth (fQ xs k) ((xs.length-1-k)))) (k:=(xs.length-1-k)) (v:=nth (fQ xs k) (k)) (by simp only[List.length_set];omega)) (zA ((fQ xs k).set (k) (nth (fQ xs k) ((xs.length-1-k)))) (by simp only[List.length_set];omega)) ?_
  refine aU ?_;refine rl ?_;refine o1 ?_;refine o1 ?_;refine WL.cast (t:=11) (u':=.int .i64 ((k+1:Nat):Int)) rfl (aI (by omega)) ?_
  (iterate 4 refine o1 ?_);refine nl ?_
  exact⟨k+1,by omega,by omega,Fb h0 [0] _ _ (by decide) rfl ⟨rfl,rfl,nE (by omega),trivial⟩ ⟨cV (congrArg (fun l=>some (⟨t,1,(dJ l).map .t⟩:Ob)) (Zx (by omega))),rfl⟩⟩
 refine ex ?_
 exact lG (lent':=[⟨t,1,(dJ xs.reverse).map .t⟩]) (.inr rfl) rfl TY (by decide) (fun _ h=>by cases h) ⟨⟨rfl,rfl⟩,trivial⟩ ⟨congrArg (fun l=>some (⟨t,1,(dJ l).map .t⟩:Ob)) (CZ (by omega)),trivial⟩ ⟨mQ _,trivial⟩ (fun h=>by cases h) ⟨rfl,rfl⟩
theorem MO {xs:List Nat}{v:Nat}(hx:xs.length≤1000000) (hl:Lim 4294967296 xs) (hv0:vl 4294967296 xs=v):aE true Tryz.prog 41 [] [.one (.t (sU false xs))] (aN (.one (tv (.string (aC (tx v)))))):=by
 refine bF Tryz.func41 rfl Tryz.ntmps41 rfl aA rfl fun N9 w9 c0 h0=>?_
 have hvL:v<4294967296^xs.length:=hv0▸dY hl
 have hvl:=bN (k:=xs.length) (by omega) hvL
 refine sq ?_;refine rl ?_;refine o1 ?_;refine nl ?_;refine sq ?_;refine rl ?_;refine UF 0 ?_;refine nl ?_;refine sq ?_;refine rl ?_;refine o1 ?_;refine nl ?_;refine sq ?_;refine sq ?_
 refine rl ?_;refine o1 ?_;refine ca (EF hl (by omega) hv0) SS ⟨a1 rfl,rfl⟩ (.one (.t (sU false (dg 4294967296 v)))) ?_
 refine o1 ?_;refine nl ?_;refine bl ?_
 refine lp (γ:=(List Nat×List Nat)×Nat) (fun s=>cE [(0,.one (.t (sU false (dg 4294967296 s.2)))),(3,.one (.pt 0 0)),(4,.one (.sl 1 0 s.1.1.length))]) (fun s=>[(⟨112,1,(dJ s.1.2).map .t⟩:Ob),⟨5,1,(dJ (dG s.1.1)).map .t⟩].map some) (fun s=>s.1.2.length=9∧Lim 10 s.1.1∧vl 10 s.1.1+10^s.1.1.length*s.2=v∧s.2≤v∧s.1.1.length≤10*xs.length+9) (fun s=>s.2) (([],List.replicate 9 0),v) ⟨rfl,Lim.nil,(by simp[vl]),Nat.le_refl _,Nat.zero_le _⟩ ((nr (i:=4) 1 5 1 rfl rfl rfl rfl).trans (aQ h0 [0,1] _ _ (by decide) ⟨rfl,rfl,rfl,trivial⟩ ⟨cV rfl,cV (l:=[]) rfl,rfl⟩)) ?_
 rintro⟨⟨ds,eO⟩,u⟩ ⟨ho,hd,hv,hu,hdl⟩;dsimp only at ho hd hv hu hdl⊢;have hul:=dC hu
 refine sq ?_;refine sq ?_;refine rl ?_;(iterate 3 refine o1 ?_);refine nl ?_;refine bR rfl (fun h1=>?_) (fun h1=>?_)
 ·refine sk ?_;refine bl ?_;refine sq ?_;have hup:=rH (B:=4294967296) (u:=u) (by omega)
  refine rl ?_;refine o1 ?_
  refine ca (KV (u:=u) (d:=1000000000) (by omega) (by omega) (by omega)) ST ⟨a1 rfl,a1 rfl,rfl⟩ (.tup [.one (.t (sU false (dg 4294967296 (u/1000000000)))),.one (tv (.int .u32 ((u%1000000000:Nat):Int))),.one (tv (.int .i64 0))]) ?_
  (iterate 7 refine o1 ?_);refine nl ?_;refine sq ?_;refine sq ?_;refine rl ?_;refine o1 ?_;refine nl ?_;refine bl ?_
  refine lp (γ:=Nat) (fun i=>cE [(3,.one (.pt 0 0)),(4,.one (.sl 1 0 ds.length)),(5,.one (.t (sU false (dg 4294967296 (u/1000000000))))),(6,.one (tv (.int .u32 ((u%1000000000/10^i:Nat):Int)))),(21,.one (tv (.int .i64 ((i:Nat):Int))))]) (fun i=>[(⟨112,1,(dJ (dG (fd (i) (u%1000000000))++eO.drop (i))).map .t⟩:Ob),⟨5,1,(dJ (dG ds)).map .t⟩].map some) (fun i=>i≤9) (fun i=>9-i) 0 (Nat.zero_le _) (aQ h0 [0,1] _ _ (by decide) ⟨rfl,rfl,rfl,nE (by rw[Nat.pow_zero,Nat.div_one]),rfl,trivial⟩ ⟨cV rfl,cV rfl,rfl⟩) fun i hi=>?_
  have hlen:(dG (fd (i) (u%1000000000))++eO.drop (i)).length=9:=by rw[List.length_append,fV,mV,List.length_drop];omega
  have hdi:u%1000000000/10^i≤u%1000000000:=Nat.div_le_self _ _
  refine sq ?_;refine rl ?_;refine o1 ?_;refine nl ?_;refine sq ?_;refine bR rfl (fun h2=>?_) (fun h2=>?_)
  ·refine sk ?_;refine sq ?_;refine bl ?_;refine sq ?_;refine rl ?_;refine o1 ?_;refine o1 ?_;refine nl ?_;refine sq ?_;refine rl ?_;(iterate 3 refine o1 ?_)
   refine WL.cast (t:=26) (u':=.int .u32 (((u%1000000000/10^i%10):Nat):Int)) rfl (aI (fK _ 10)) ?_;refine o1 ?_
   refine WL.cast (t:=27) (u':=.int .u8 (((u%1000000000/10^i%10):Nat):Int)) rfl (aI (by omega)) ?_
   refine o1 ?_;refine WL.cast (t:=28) (u':=.int .u8 (((48+u%1000000000/10^i%10):Nat):Int)) rfl (aI (by omega)) ?_
   refine o1 ?_
   refine Bt (uH (dG (fd (i) (u%1000000000))++eO.drop (i)) (k:=i) (v:=48+u%1000000000/10^i%10) (by omega)) (zA (dG (fd (i) (u%1000000000))++eO.drop (i)) (by omega)) ?_
   refine nl ?_;refine rl ?_;refine o1 ?_;refine o1 ?_ (hC:=(fH 10 (by omega) (OY (Nat.lt_of_le_of_lt hdi (by omega)))))
   refine WL.cast (t:=31) (u':=.int .u32 (((u%1000000000/10^i/10):Nat):Int)) rfl (aI (eD _ 10)) ?_;refine o1 ?_;refine nl ?_;refine rl ?_;refine o1 ?_
   refine WL.cast (t:=32) (u':=.int .i64 ((i+1:Nat):Int)) rfl (aI (by omega)) ?_
   refine o1 ?_;refine nl ?_
   exact⟨i+1,by omega,by omega,aQ h0 [0,1] _ _ (by decide) ⟨rfl,rfl,rfl,nE (by rw[Nat.pow_succ,Nat.div_div_eq_div_mul]),rfl,trivial⟩ ⟨cV (congrArg (fun l=>some (⟨112,1,(dJ l).map .t⟩:Ob)) (JZ (by omega) ho)),cV rfl,rfl⟩⟩
  refine ex ?_;have hi9:i=9:=by omega
  subst hi9;have he9:(dG (fd (9) (u%1000000000))++eO.drop (9))=dG (fd 9 (u%1000000000)):=by rw[List.drop_of_length_le (by omega),List.append_nil]
  refine sq ?_;refine rl ?_;refine o1 ?_
  refine OQ (m:=9) (by_:=1) 2 (DstA.sl (k:=1) (n:=ds.length) (e:=5) (z:=1) rfl (by rw[Ox,fV])) (Zw _) (CX _) (by rw[Ox,hlen]) (by omega) (by omega) ?_
  refine o1 ?_;refine nl ?_;refine rl ?_;refine o1 ?_;refine o1 ?_;refine nl ?_
  exact⟨((ds++fd 9 (u%1000000000),dG (fd 9 (u%1000000000))),u/1000000000),by dsimp only;omega,⟨by dsimp only;rw[fV,mV],hd.append (JY _ _),OX hv,by dsimp only;omega,by dsimp only;rw[List.length_append,mV];have:=DA hv hup hvL;omega⟩,aQ h0 [0,2] _ _ (by decide) ⟨rfl,rfl,congrArg (fun n=>some (FV.one (.sl 2 0 n))) (show(ds++fd 9 (u%1000000000)).length=ds.length+9 by rw[List.length_append,mV]),trivial⟩ ⟨cV (congrArg (fun l=>some (⟨112,1,(dJ l).map .t⟩:Ob)) he9),cV (congrArg (fun l=>some (⟨5,1,l⟩:Ob)) ((JW _ _).trans (congrArg (fun l:List Nat=>(dJ l).map AV.t) (show dG ds++(dG (fd (9) (u%1000000000))++eO.drop (9))=dG (ds++fd 9 (u%1000000000)) by rw[he9,Lu])))),rfl⟩⟩
 refine ex ?_;refine sq ?_;have hu0:u=0:=(dM (B:=4294967296) (by omega)).1 (List.eq_nil_of_length_eq_zero (by omega))
 subst hu0;rw[Nat.mul_zero,Nat.add_zero]at hv;refine rl ?_;refine o1 ?_
 refine cl 2 [1] (Ug (t:=5) (xs:=dG ds) (n:=ds.length) (fV ds) (by omega)) SU ⟨cV rfl,rfl⟩ ⟨rfl,rfl⟩ (ok:=[some ⟨5,1,(dJ (dG ds).reverse).map .t⟩]) ⟨cV rfl,rfl⟩ ?_
 refine nl ?_;refine sq ?_;refine sq ?_;refine rl ?_;refine o1 ?_
 refine PN (xs:=(dG ds).reverse) (Rh rfl (by rw[List.length_reverse,fV])) (by rw[List.length_reverse,fV]) ?_
 refine ca (yA (lR (vB hd))) Uz ⟨a1 rfl,a1 rfl,rfl⟩ (.one (tv (.string (aC ((dG ds).reverse.dropWhile (· ==48)))))) ?_;refine o1 ?_;refine nl ?_;refine sq ?_
 refine rl ?_;refine o1 ?_;refine o1 ?_
 refine WL.cast (t:=43) (u':=.bool (!decide (((dG ds).reverse.dropWhile (· ==48))=[]))) rfl (congrArg Value.bool (congrArg not (gX (kS (lR (vB hd)))))) ?_;refine nl ?_
 refine iL rfl (fun h3=>?_) (fun h3=>?_)
 ·refine sq ?_;refine rl ?_;refine o1 ?_;refine o1 ?_;refine nl ?_;refine rt ?_
  exact en (.inl rfl) rfl (aV (aO _)) (by decide) (fun _=>trivial) (congrArg (fun z=>FV.one (tv (.string z))) (congrArg aC (DB hd hv h3)))
 refine sk ?_;refine sq ?_;refine rl ?_;refine o1 ?_;refine nl ?_;refine rt ?_
 exact en (.inl rfl) rfl (aV (aO _)) (by decide) (fun _=>trivial) (congrArg (fun z=>FV.one (tv (.string z))) (congrArg aC (KA hd hv h3)))
theorem Yc:CallOk Tryz.prog 145:=.mk Tryz.func145 (by decide) rfl
theorem Yd:CallOk Tryz.prog 179:=.mk Tryz.func179 (by decide) rfl
theorem Bn {B:Nat}{l:List Nat}(h:Lim B l) (k:Nat):Lim B (l.take k):=fun x hx=>h x (List.mem_of_mem_take hx)
theorem LD {l:List Nat}(h:Lim 256 l):((aC (l.take 1)).toList==(⟨#[45]⟩:ByteArray).toList)=decide (l.take 1=[45]):=jB (l':=[45]) (Bn h 1) (Lim.cons (by omega) Lim.nil)
theorem LE {l:List Nat}(h:¬1≤l.length):false=decide (l.take 1=[45]):=by
 rw[List.eq_nil_of_length_eq_zero (show l.length=0 by omega)];rfl
theorem Jc {l:List Nat}(hl:Lim 256 l):aE true Tryz.prog 145 [] [.one (tv (.string (aC l))),.one (tv (.string ⟨#[45]⟩))] (aN (.one (tv (.bool (decide (l.take 1=[45])))))):=by
 refine bF Tryz.func145 rfl Tryz.ntmps145 rfl aA rfl fun N9 w9 c0 h0=>?_
 refine sq ?_;refine rl ?_;refine o1 ?_;refine nl ?_;refine sq ?_;refine rl ?_;refine o1 ?_;refine o1 ?_
 refine WL.cast (t:=6) (u':=.int .i64 ((l.length:Nat):Int)) rfl (congrArg (fun n:Nat=>Value.int .i64 (n:Int)) (aF _)) ?_
 refine o1 ?_;refine o1 ?_;refine WL.cast (t:=8) (u':=.int .i64 ((1:Nat):Int)) rfl rfl ?_;refine o1 ?_;refine o1 ?_;refine WL.split (t:=10) rfl (fun h1=>?_) (fun h1=>?_)
 ·(iterate 3 refine o1 ?_);refine WL.cast (t:=13) (u':=.int .i64 ((1:Nat):Int)) rfl rfl ?_;refine o1 ?_ (hC:=(by rw[aF];show 1≤l.length;omega))
  refine WL.cast (t:=14) (u':=.string (aC (l.take 1))) rfl (congrArg Value.string ((gV l 0 1).trans rfl)) ?_;refine o1 ?_;refine o1 ?_
  refine WL.cast (t:=16) (u':=.bool (decide (l.take 1=[45]))) rfl (congrArg Value.bool (LD hl)) ?_;refine o1 ?_;refine o1 ?_;refine nl ?_;refine rt ?_;exact nX (.inl rfl) rfl (rfl)
 (iterate 6 refine cH ?_);refine o1 ?_;refine o1 ?_;refine nl ?_;refine rt ?_;exact nX (.inl rfl) rfl (LE (by omega))
theorem EQ {l:List Nat}(h:l.take 1=[45]):1≤l.length:=by
 have:=congrArg List.length h
 rw[List.length_take]at this
 simp at this
 omega
theorem Jd {l:List Nat}(hl:Lim 256 l):aE true Tryz.prog 179 [] [.one (tv (.string (aC l))),.one (tv (.string ⟨#[45]⟩))] (aN (.tup [.one (tv (.string (aC (if l.take 1=[45]then l.drop 1 else l)))),.one (tv (.bool (decide (l.take 1=[45]))))])):=by
 refine bF Tryz.func179 rfl Tryz.ntmps179 rfl aA rfl fun N9 w9 c0 h0=>?_
 refine sq ?_;refine rl ?_;refine o1 ?_;refine o1 ?_;refine nl ?_;refine sq ?_;refine sq ?_;refine rl ?_;refine o1 ?_;refine o1 ?_
 refine ca (Jc hl) Yc ⟨a1 rfl,a1 rfl,rfl⟩ (.one (tv (.bool (decide (l.take 1=[45]))))) ?_;refine WL.splitb (t:=8) rfl (fun h1=>?_) (fun h1=>?_)
 ·refine o1 ?_;refine nl ?_;refine fW rfl ?_;refine sk ?_;refine sq ?_;have h9:=of_decide_eq_true h1
  refine rl ?_;(iterate 3 refine o1 ?_);refine WL.cast (t:=13) (u':=.int .i64 ((1:Nat):Int)) rfl rfl ?_;refine o1 ?_ (hC:=(by rw[aF];show 1≤l.length;exact EQ h9))
  refine WL.cast (t:=14) (u':=.string (aC (l.drop 1))) rfl (congrArg Value.string (gW _ _)) ?_;refine o1 ?_;refine o1 ?_;refine nl ?_;refine rt ?_
  exact en (.inl rfl) rfl (dB (.cons (aO _) (.cons (aO _) .nil))) (by decide) (fun _=>⟨trivial,trivial,trivial⟩) (by rw[if_pos (of_decide_eq_true h1),h1];rfl)
 refine o1 ?_;refine nl ?_;refine fX rfl ?_;refine sq ?_;refine rl ?_;(iterate 3 refine o1 ?_);refine nl ?_;refine rt ?_
 exact en (.inl rfl) rfl (dB (.cons (aO _) (.cons (aO _) .nil))) (by decide) (fun _=>⟨trivial,trivial,trivial⟩) (by rw[if_neg (of_decide_eq_false h1),h1];rfl)
theorem Io {l:List Nat}(hl:Lim 256 l):aE true Tryz.prog 163 [] [.one (tv (.string (aC l))),.one (tv (.string ⟨#[45]⟩))] (aN (.tup [.one (tv (.string (aC (if l.take 1=[45]then l.drop 1 else l)))),.one (tv (.bool (decide (l.take 1=[45]))))])):=by
 refine bF Tryz.func163 rfl Tryz.ntmps163 rfl aA rfl fun N9 w9 c0 h0=>?_
 refine sq ?_;refine rl ?_;refine o1 ?_;refine o1 ?_;refine nl ?_;refine sq ?_;refine rl ?_;refine o1 ?_;refine o1 ?_
 refine ca (Jd hl) Yd ⟨a1 rfl,a1 rfl,rfl⟩ (.tup [.one (tv (.string (aC (if l.take 1=[45]then l.drop 1 else l)))),.one (tv (.bool (decide (l.take 1=[45]))))]) ?_
 (iterate 4 refine o1 ?_);refine nl ?_;refine rt ?_;exact en (.inl rfl) rfl (dB (.cons (aO _) (.cons (aO _) .nil))) (by decide) (fun _=>⟨trivial,trivial,trivial⟩) rfl
end Go.Proofs.YtcaakamelngceaaGreatDoor
