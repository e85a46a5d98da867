/- Part 9 of a proof: G2 to P1. -/
import Derived.Test.YteggpgndiajdpaaGreatDoorM8
import Derived.Test.YteggpgndiajdpaaGreatDoorM6
import Derived.Test.YteggpgndiajdpaaGreatDoorM7
import Derived.Test.YteggpgndiajdpaaGreatDoorM4
import Derived.Test.YteggpgndiajdpaaGreatDoorM5
set_option maxRecDepth 100000
set_option linter.unusedVariables false
set_option linter.unusedSimpArgs false
namespace Go.Proofs.YteggpgndiajdpaaGreatDoor
open Go Go.RowKit
theorem uQ {a b:Zi}{k k':Int}(ha:Zg a k) (hb:Zg b k'):aL true Tryz.prog 37 [] [gF a,gF b] (aU (kO (k*k'))):=by
 refine cF Tryz.func37 rfl Tryz.ntmps37 rfl aA rfl fun N w c0 h0=>?_
 have hkl:=ha.len
 have hkl':=hb.len
 refine sq ?_;refine rl ?_;refine bx 0 ?_;refine bx 1 ?_;refine al 2 ?_;refine nl ?_
 refine md (γ:=Unit) (fun _=>cJ [(4,.one (.pt 0 0)),(5,.one (.pt 1 0)),(6,.one (.pt 2 0))]) (fun _=>([⟨44,0,[tv (.bool false),tv (.slice none 0 0)]⟩,⟨103,0,[tv (.bool (aC k)),.t (sU false (dg 4294967296 k.natAbs))]⟩,⟨103,0,[tv (.bool (aC k')),.t (sU false (dg 4294967296 k'.natAbs))]⟩]:List Ob).map some) (fun _=>True) ?_ fun _ _=>?_
 ·refine rd [0,1,2] (fun i=>[7].contains i) mixed ?_
  refine aK 0 ?_;refine aK 2 ?_;refine WO.three (i:=1) (j:=4) (m:=5) (by kernel_rfl) ?_ ?_ ?_
  ·refine cP 1 rfl (cB ha) cC ⟨aB rfl,rfl⟩ (kF (k)) ?_;refine WO.three (i:=3) (j:=4) (m:=5) (by kernel_rfl) ?_ ?_ ?_
   ·refine cP 3 rfl (cB hb) cC ⟨aB rfl,rfl⟩ (kF (k')) ?_;refine WO.two (i:=4) (j:=5) (by kernel_rfl) ?_ ?_
    ·refine bD (key:=3) 4 rfl rfl aA rfl ⟨rfl,rfl,rfl,trivial⟩ ?_;refine dA (key:=4) 5 (by kernel_rfl) rfl rfl aA rfl ⟨rfl,rfl,rfl,trivial⟩ ?_
     refine aN 6 (by kernel_rfl) rfl rfl aA rfl rfl rfl rfl ⟨rfl,rfl,rfl,trivial⟩ ?_
     refine dst 7 ?_;refine aP ?_;exact⟨(),trivial,aJ h0 [2,3,4] _ _ (by decide) ⟨rfl,rfl,rfl,trivial⟩ ⟨oe rfl rfl,oe rfl rfl,oe rfl rfl,rfl⟩⟩
    refine bD (key:=3) 5 rfl rfl aA rfl ⟨rfl,rfl,rfl,trivial⟩ ?_;refine dA (key:=4) 4 (by kernel_rfl) rfl rfl aA rfl ⟨rfl,rfl,rfl,trivial⟩ ?_
    refine aN 6 (by kernel_rfl) rfl rfl aA rfl rfl rfl rfl ⟨rfl,rfl,rfl,trivial⟩ ?_
    refine dst 7 ?_;refine aP ?_;exact⟨(),trivial,aJ h0 [2,4,3] _ _ (by decide) ⟨rfl,rfl,rfl,trivial⟩ ⟨oe rfl rfl,oe rfl rfl,oe rfl rfl,rfl⟩⟩
   ·refine bD (key:=3) 4 rfl rfl aA rfl ⟨rfl,rfl,rfl,trivial⟩ ?_;refine WO.two (i:=3) (j:=5) (by kernel_rfl) ?_ ?_
    ·refine cP 3 rfl (cB hb) cC ⟨aB rfl,rfl⟩ (kF (k')) ?_;refine dA (key:=4) 5 (by kernel_rfl) rfl rfl aA rfl ⟨rfl,rfl,rfl,trivial⟩ ?_
     refine aN 6 (by kernel_rfl) rfl rfl aA rfl rfl rfl rfl ⟨rfl,rfl,rfl,trivial⟩ ?_
     refine dst 7 ?_;refine aP ?_;exact⟨(),trivial,aJ h0 [2,3,4] _ _ (by decide) ⟨rfl,rfl,rfl,trivial⟩ ⟨oe rfl rfl,oe rfl rfl,oe rfl rfl,rfl⟩⟩
    refine bD (key:=4) 5 rfl rfl aA rfl ⟨rfl,rfl,rfl,trivial⟩ ?_;refine aD 3 rfl (cB hb) cC ⟨aB rfl,rfl⟩ (kF (k')) ?_
    refine aN 6 (by kernel_rfl) rfl rfl aA rfl rfl rfl rfl ⟨rfl,rfl,rfl,trivial⟩ ?_
    refine dst 7 ?_;refine aP ?_;exact⟨(),trivial,aJ h0 [2,3,4] _ _ (by decide) ⟨rfl,rfl,rfl,trivial⟩ ⟨oe rfl rfl,oe rfl rfl,oe rfl rfl,rfl⟩⟩
   refine bD (key:=3) 5 rfl rfl aA rfl ⟨rfl,rfl,rfl,trivial⟩ ?_;refine WO.two (i:=3) (j:=4) (by kernel_rfl) ?_ ?_
   ·refine cP 3 rfl (cB hb) cC ⟨aB rfl,rfl⟩ (kF (k')) ?_;refine dA (key:=4) 4 (by kernel_rfl) rfl rfl aA rfl ⟨rfl,rfl,rfl,trivial⟩ ?_
    refine aN 6 (by kernel_rfl) rfl rfl aA rfl rfl rfl rfl ⟨rfl,rfl,rfl,trivial⟩ ?_
    refine dst 7 ?_;refine aP ?_;exact⟨(),trivial,aJ h0 [2,4,3] _ _ (by decide) ⟨rfl,rfl,rfl,trivial⟩ ⟨oe rfl rfl,oe rfl rfl,oe rfl rfl,rfl⟩⟩
   refine bD (key:=4) 4 rfl rfl aA rfl ⟨rfl,rfl,rfl,trivial⟩ ?_;refine aD 3 rfl (cB hb) cC ⟨aB rfl,rfl⟩ (kF (k')) ?_
   refine aN 6 (by kernel_rfl) rfl rfl aA rfl rfl rfl rfl ⟨rfl,rfl,rfl,trivial⟩ ?_
   refine dst 7 ?_;refine aP ?_;exact⟨(),trivial,aJ h0 [2,4,3] _ _ (by decide) ⟨rfl,rfl,rfl,trivial⟩ ⟨oe rfl rfl,oe rfl rfl,oe rfl rfl,rfl⟩⟩
  ·refine bD (key:=3) 4 rfl rfl aA rfl ⟨rfl,rfl,rfl,trivial⟩ ?_;refine WO.two (i:=1) (j:=5) (by kernel_rfl) ?_ ?_
   ·refine cP 1 rfl (cB ha) cC ⟨aB rfl,rfl⟩ (kF (k)) ?_;refine WO.two (i:=3) (j:=5) (by kernel_rfl) ?_ ?_
    ·refine cP 3 rfl (cB hb) cC ⟨aB rfl,rfl⟩ (kF (k')) ?_;refine dA (key:=4) 5 (by kernel_rfl) rfl rfl aA rfl ⟨rfl,rfl,rfl,trivial⟩ ?_
     refine aN 6 (by kernel_rfl) rfl rfl aA rfl rfl rfl rfl ⟨rfl,rfl,rfl,trivial⟩ ?_
     refine dst 7 ?_;refine aP ?_;exact⟨(),trivial,aJ h0 [2,3,4] _ _ (by decide) ⟨rfl,rfl,rfl,trivial⟩ ⟨oe rfl rfl,oe rfl rfl,oe rfl rfl,rfl⟩⟩
    refine bD (key:=4) 5 rfl rfl aA rfl ⟨rfl,rfl,rfl,trivial⟩ ?_;refine aD 3 rfl (cB hb) cC ⟨aB rfl,rfl⟩ (kF (k')) ?_
    refine aN 6 (by kernel_rfl) rfl rfl aA rfl rfl rfl rfl ⟨rfl,rfl,rfl,trivial⟩ ?_
    refine dst 7 ?_;refine aP ?_;exact⟨(),trivial,aJ h0 [2,3,4] _ _ (by decide) ⟨rfl,rfl,rfl,trivial⟩ ⟨oe rfl rfl,oe rfl rfl,oe rfl rfl,rfl⟩⟩
   refine bD (key:=4) 5 rfl rfl aA rfl ⟨rfl,rfl,rfl,trivial⟩ ?_;refine aD 1 rfl (cB ha) cC ⟨aB rfl,rfl⟩ (kF (k)) ?_;refine aD 3 rfl (cB hb) cC ⟨aB rfl,rfl⟩ (kF (k')) ?_
   refine aN 6 (by kernel_rfl) rfl rfl aA rfl rfl rfl rfl ⟨rfl,rfl,rfl,trivial⟩ ?_
   refine dst 7 ?_;refine aP ?_;exact⟨(),trivial,aJ h0 [2,3,4] _ _ (by decide) ⟨rfl,rfl,rfl,trivial⟩ ⟨oe rfl rfl,oe rfl rfl,oe rfl rfl,rfl⟩⟩
  refine bD (key:=3) 5 rfl rfl aA rfl ⟨rfl,rfl,rfl,trivial⟩ ?_;refine WO.two (i:=1) (j:=4) (by kernel_rfl) ?_ ?_
  ·refine cP 1 rfl (cB ha) cC ⟨aB rfl,rfl⟩ (kF (k)) ?_;refine WO.two (i:=3) (j:=4) (by kernel_rfl) ?_ ?_
   ·refine cP 3 rfl (cB hb) cC ⟨aB rfl,rfl⟩ (kF (k')) ?_;refine dA (key:=4) 4 (by kernel_rfl) rfl rfl aA rfl ⟨rfl,rfl,rfl,trivial⟩ ?_
    refine aN 6 (by kernel_rfl) rfl rfl aA rfl rfl rfl rfl ⟨rfl,rfl,rfl,trivial⟩ ?_
    refine dst 7 ?_;refine aP ?_;exact⟨(),trivial,aJ h0 [2,4,3] _ _ (by decide) ⟨rfl,rfl,rfl,trivial⟩ ⟨oe rfl rfl,oe rfl rfl,oe rfl rfl,rfl⟩⟩
   refine bD (key:=4) 4 rfl rfl aA rfl ⟨rfl,rfl,rfl,trivial⟩ ?_;refine aD 3 rfl (cB hb) cC ⟨aB rfl,rfl⟩ (kF (k')) ?_
   refine aN 6 (by kernel_rfl) rfl rfl aA rfl rfl rfl rfl ⟨rfl,rfl,rfl,trivial⟩ ?_
   refine dst 7 ?_;refine aP ?_;exact⟨(),trivial,aJ h0 [2,4,3] _ _ (by decide) ⟨rfl,rfl,rfl,trivial⟩ ⟨oe rfl rfl,oe rfl rfl,oe rfl rfl,rfl⟩⟩
  refine bD (key:=4) 4 rfl rfl aA rfl ⟨rfl,rfl,rfl,trivial⟩ ?_;refine aD 1 rfl (cB ha) cC ⟨aB rfl,rfl⟩ (kF (k)) ?_;refine aD 3 rfl (cB hb) cC ⟨aB rfl,rfl⟩ (kF (k')) ?_
  refine aN 6 (by kernel_rfl) rfl rfl aA rfl rfl rfl rfl ⟨rfl,rfl,rfl,trivial⟩ ?_
  refine dst 7 ?_;refine aP ?_;exact⟨(),trivial,aJ h0 [2,4,3] _ _ (by decide) ⟨rfl,rfl,rfl,trivial⟩ ⟨oe rfl rfl,oe rfl rfl,oe rfl rfl,rfl⟩⟩
 refine sq ?_;refine rd [0,1,2] (fun i=>[15].contains i) mixed ?_
 refine dv 0 ?_;refine dv 1 ?_;refine aK 2 ?_;refine dv 3 ?_;refine dv 4 ?_;refine aK 5 ?_;refine dv 6 ?_;refine dv 7 ?_;refine dv 8 ?_;refine aK 9 ?_;refine dv 10 ?_;refine dv 11 ?_
 refine aK 12 ?_
 have hA:aL true Tryz.prog 44 [] [.one (.t (sU false (dg 4294967296 k.natAbs))),.one (.t (sU false (dg 4294967296 k'.natAbs)))] (aU (.one (.t (sU true (dg 4294967296 (k.natAbs*k'.natAbs)))))):=by have h9:=AO (aF (by omega) k.natAbs) (aF (by omega) k'.natAbs) (by omega) (by omega);rwa[bI,bI]at h9
 refine lY 3 13 rfl hA CL ⟨a1 rfl,a1 rfl,rfl⟩ ?_
 refine vI 14 4 [3] rfl (eP (b:=(aC k != aC k')) (m:=(k.natAbs*k'.natAbs)) (K:=k*k') (Ez k k')) kE ⟨cD rfl,rfl⟩ ⟨rfl,rfl,rfl⟩ ⟨rfl,rfl,rfl,trivial⟩ ?_
 refine dst 15 ?_;refine aP ?_;refine rt ?_
 exact en (.inl rfl) rfl (bZ (.agg (.cons (.id rfl) (.cons (.sl (trs:=aM (dg 4294967296 ((k*k')).natAbs)) rfl rfl (bP _) (bK _)) .nil)))) (by decide) (fun _=>cG ((k*k'))) rfl
theorem uR {a b:Zi}{k k':Int}(ha:Zg a k) (hb:Zg b k'):aL true Tryz.prog 41 [] [gF a,gF b] (aU (kO (((Int.gcd k k'):Nat):Int))):=by
 refine cF Tryz.func41 rfl Tryz.ntmps41 rfl aA rfl fun N w c0 h0=>?_
 have hkl:=ha.len
 have hkl':=hb.len
 refine sq ?_;refine rl ?_;refine bx 0 ?_;refine bx 1 ?_;refine al 2 ?_;refine nl ?_;refine sq ?_;refine rd [0,1,2] (fun i=>[11].contains i) mixed ?_
 refine aK 0 ?_;refine aK 4 ?_;refine aD 1 rfl (cB ha) cC ⟨aB rfl,rfl⟩ (kF (k)) ?_;refine df 2 ?_;refine df 3 ?_;refine aD 5 rfl (cB hb) cC ⟨aB rfl,rfl⟩ (kF (k')) ?_
 refine df 6 ?_;refine df 7 ?_;refine qQ (key:=3) 8 (by kernel_rfl) rfl rfl aA rfl ⟨rfl,rfl,rfl,trivial⟩ ?_
 refine DQ (i:=13) (k:=3) (t:=23) (t':=23) (z:=1) (n:=2) (l:=[sU false (dg 4294967296 k.natAbs),sU false (dg 4294967296 k'.natAbs)]) rfl rfl rfl rfl (.one .sl) (by rfl) (by rfl) ?_
 have hA:aL true Tryz.prog 46 [] [.one (.t (.s false 23 1 2 [sU false (dg 4294967296 k.natAbs),sU false (dg 4294967296 k'.natAbs)]))] (aU (.one (.t (sU true (dg 4294967296 (Int.gcd k k')))))):=by
  have h9:=AP (t:=23) (aF (by omega) k.natAbs) (aF (by omega) k'.natAbs) (by omega) (by omega)
  rwa[show nD [dg 4294967296 k.natAbs,dg 4294967296 k'.natAbs]=(Int.gcd k k') by simp only[nD,List.foldl_cons,List.foldl_nil,bI,Nat.gcd_zero_left];rfl]at h9
 refine lY 4 9 rfl hA CM ⟨a1 rfl,rfl⟩ ?_
 refine vI 10 5 [4] rfl (eP (b:=false) (m:=(Int.gcd k k')) (K:=(((Int.gcd k k'):Nat):Int)) (by simp[bH])) kE ⟨cD rfl,rfl⟩ ⟨rfl,rfl,rfl⟩ ⟨rfl,rfl,rfl,trivial⟩ ?_
 refine dst 11 ?_;refine aP ?_;refine rt ?_
 exact en (.inl rfl) rfl (bZ (.agg (.cons (.id rfl) (.cons (.sl (trs:=aM (dg 4294967296 ((((Int.gcd k k'):Nat):Int)).natAbs)) rfl rfl (bP _) (bK _)) .nil)))) (by decide) (fun _=>cG ((((Int.gcd k k'):Nat):Int))) rfl
theorem mV (xs:List Nat):((aM xs).map AV.t).take (aM xs).length=(aM xs).map .t:=List.take_of_length_le (by simp)
theorem tF {a b:Zi}{k k':Int}(ha:Zg a k) (hb:Zg b k') (hz0:k'≠0):aL true Tryz.prog 33 [] [gF a,gF b] (aU (.tup [kO (k.fdiv k'),kO (k.fmod k'),.one (tv (.int .i64 0))])):=by
 refine cF Tryz.func33 rfl Tryz.ntmps33 rfl aA rfl fun N w c0 h0=>?_
 have hkl:=ha.len
 have hkl':=hb.len
 have hq:(dg 4294967296 (k.natAbs/k'.natAbs)).length≤300000000000:=Nat.le_trans (iE (Nat.div_le_self _ _)) hkl
 have hr0:=Nat.mod_lt k.natAbs (show 0<k'.natAbs by omega)
 have hrl:(dg 4294967296 (k.natAbs%k'.natAbs)).length≤300000000000:=Nat.le_trans (iE (Nat.le_of_lt hr0)) hkl'
 refine sq ?_;refine rl ?_;refine bx 0 ?_;refine bx 1 ?_;refine al 2 ?_;refine al 3 ?_;refine o1 ?_;refine nl ?_
 refine md (γ:=Unit) (fun _=>cJ [(4,.one (.pt 0 0)),(5,.one (.pt 1 0)),(6,.one (tv (.int .i64 ((0:Nat):Int)))),(7,.one (.pt 2 0)),(8,.one (.pt 3 0))]) (fun _=>([⟨44,0,[tv (.bool false),tv (.slice none 0 0)]⟩,⟨44,0,[tv (.bool false),tv (.slice none 0 0)]⟩,⟨103,0,[tv (.bool (aC k)),.t (sU false (dg 4294967296 k.natAbs))]⟩,⟨103,0,[tv (.bool (aC k')),.t (sU false (dg 4294967296 k'.natAbs))]⟩]:List Ob).map some) (fun _=>True) ?_ fun _ _=>?_
 ·refine rd [0,1,2,3] (fun i=>[7].contains i) mixed ?_
  refine aK 0 ?_;refine aK 2 ?_;refine WO.three (i:=1) (j:=4) (m:=5) (by kernel_rfl) ?_ ?_ ?_
  ·refine cP 1 rfl (cB ha) cC ⟨aB rfl,rfl⟩ (kF (k)) ?_;refine WO.three (i:=3) (j:=4) (m:=5) (by kernel_rfl) ?_ ?_ ?_
   ·refine cP 3 rfl (cB hb) cC ⟨aB rfl,rfl⟩ (kF (k')) ?_;refine WO.two (i:=4) (j:=5) (by kernel_rfl) ?_ ?_
    ·refine bD (key:=4) 4 rfl rfl aA rfl ⟨rfl,rfl,rfl,rfl,trivial⟩ ?_;refine dA (key:=5) 5 (by kernel_rfl) rfl rfl aA rfl ⟨rfl,rfl,rfl,rfl,trivial⟩ ?_
     refine aN 6 (by kernel_rfl) rfl rfl aA rfl rfl rfl rfl ⟨rfl,rfl,rfl,rfl,trivial⟩ ?_
     refine dst 7 ?_;refine aP ?_;exact⟨(),trivial,aJ h0 [2,3,4,5] _ _ (by decide) ⟨rfl,rfl,rfl,rfl,rfl,trivial⟩ ⟨oe rfl rfl,oe rfl rfl,oe rfl rfl,oe rfl rfl,rfl⟩⟩
    refine bD (key:=4) 5 rfl rfl aA rfl ⟨rfl,rfl,rfl,rfl,trivial⟩ ?_;refine dA (key:=5) 4 (by kernel_rfl) rfl rfl aA rfl ⟨rfl,rfl,rfl,rfl,trivial⟩ ?_
    refine aN 6 (by kernel_rfl) rfl rfl aA rfl rfl rfl rfl ⟨rfl,rfl,rfl,rfl,trivial⟩ ?_
    refine dst 7 ?_;refine aP ?_;exact⟨(),trivial,aJ h0 [2,3,5,4] _ _ (by decide) ⟨rfl,rfl,rfl,rfl,rfl,trivial⟩ ⟨oe rfl rfl,oe rfl rfl,oe rfl rfl,oe rfl rfl,rfl⟩⟩
   ·refine bD (key:=4) 4 rfl rfl aA rfl ⟨rfl,rfl,rfl,rfl,trivial⟩ ?_;refine WO.two (i:=3) (j:=5) (by kernel_rfl) ?_ ?_
    ·refine cP 3 rfl (cB hb) cC ⟨aB rfl,rfl⟩ (kF (k')) ?_;refine dA (key:=5) 5 (by kernel_rfl) rfl rfl aA rfl ⟨rfl,rfl,rfl,rfl,trivial⟩ ?_
     refine aN 6 (by kernel_rfl) rfl rfl aA rfl rfl rfl rfl ⟨rfl,rfl,rfl,rfl,trivial⟩ ?_
     refine dst 7 ?_;refine aP ?_;exact⟨(),trivial,aJ h0 [2,3,4,5] _ _ (by decide) ⟨rfl,rfl,rfl,rfl,rfl,trivial⟩ ⟨oe rfl rfl,oe rfl rfl,oe rfl rfl,oe rfl rfl,rfl⟩⟩
    refine bD (key:=5) 5 rfl rfl aA rfl ⟨rfl,rfl,rfl,rfl,trivial⟩ ?_;refine aD 3 rfl (cB hb) cC ⟨aB rfl,rfl⟩ (kF (k')) ?_
    refine aN 6 (by kernel_rfl) rfl rfl aA rfl rfl rfl rfl ⟨rfl,rfl,rfl,rfl,trivial⟩ ?_
    refine dst 7 ?_;refine aP ?_;exact⟨(),trivial,aJ h0 [2,3,4,5] _ _ (by decide) ⟨rfl,rfl,rfl,rfl,rfl,trivial⟩ ⟨oe rfl rfl,oe rfl rfl,oe rfl rfl,oe rfl rfl,rfl⟩⟩
   refine bD (key:=4) 5 rfl rfl aA rfl ⟨rfl,rfl,rfl,rfl,trivial⟩ ?_;refine WO.two (i:=3) (j:=4) (by kernel_rfl) ?_ ?_
   ·refine cP 3 rfl (cB hb) cC ⟨aB rfl,rfl⟩ (kF (k')) ?_;refine dA (key:=5) 4 (by kernel_rfl) rfl rfl aA rfl ⟨rfl,rfl,rfl,rfl,trivial⟩ ?_
    refine aN 6 (by kernel_rfl) rfl rfl aA rfl rfl rfl rfl ⟨rfl,rfl,rfl,rfl,trivial⟩ ?_
    refine dst 7 ?_;refine aP ?_;exact⟨(),trivial,aJ h0 [2,3,5,4] _ _ (by decide) ⟨rfl,rfl,rfl,rfl,rfl,trivial⟩ ⟨oe rfl rfl,oe rfl rfl,oe rfl rfl,oe rfl rfl,rfl⟩⟩
   refine bD (key:=5) 4 rfl rfl aA rfl ⟨rfl,rfl,rfl,rfl,trivial⟩ ?_;refine aD 3 rfl (cB hb) cC ⟨aB rfl,rfl⟩ (kF (k')) ?_
   refine aN 6 (by kernel_rfl) rfl rfl aA rfl rfl rfl rfl ⟨rfl,rfl,rfl,rfl,trivial⟩ ?_
   refine dst 7 ?_;refine aP ?_;exact⟨(),trivial,aJ h0 [2,3,5,4] _ _ (by decide) ⟨rfl,rfl,rfl,rfl,rfl,trivial⟩ ⟨oe rfl rfl,oe rfl rfl,oe rfl rfl,oe rfl rfl,rfl⟩⟩
  ·refine bD (key:=4) 4 rfl rfl aA rfl ⟨rfl,rfl,rfl,rfl,trivial⟩ ?_;refine WO.two (i:=1) (j:=5) (by kernel_rfl) ?_ ?_
   ·refine cP 1 rfl (cB ha) cC ⟨aB rfl,rfl⟩ (kF (k)) ?_;refine WO.two (i:=3) (j:=5) (by kernel_rfl) ?_ ?_
    ·refine cP 3 rfl (cB hb) cC ⟨aB rfl,rfl⟩ (kF (k')) ?_;refine dA (key:=5) 5 (by kernel_rfl) rfl rfl aA rfl ⟨rfl,rfl,rfl,rfl,trivial⟩ ?_
     refine aN 6 (by kernel_rfl) rfl rfl aA rfl rfl rfl rfl ⟨rfl,rfl,rfl,rfl,trivial⟩ ?_
     refine dst 7 ?_;refine aP ?_;exact⟨(),trivial,aJ h0 [2,3,4,5] _ _ (by decide) ⟨rfl,rfl,rfl,rfl,rfl,trivial⟩ ⟨oe rfl rfl,oe rfl rfl,oe rfl rfl,oe rfl rfl,rfl⟩⟩
    refine bD (key:=5) 5 rfl rfl aA rfl ⟨rfl,rfl,rfl,rfl,trivial⟩ ?_;refine aD 3 rfl (cB hb) cC ⟨aB rfl,rfl⟩ (kF (k')) ?_
    refine aN 6 (by kernel_rfl) rfl rfl aA rfl rfl rfl rfl ⟨rfl,rfl,rfl,rfl,trivial⟩ ?_
    refine dst 7 ?_;refine aP ?_;exact⟨(),trivial,aJ h0 [2,3,4,5] _ _ (by decide) ⟨rfl,rfl,rfl,rfl,rfl,trivial⟩ ⟨oe rfl rfl,oe rfl rfl,oe rfl rfl,oe rfl rfl,rfl⟩⟩
   refine bD (key:=5) 5 rfl rfl aA rfl ⟨rfl,rfl,rfl,rfl,trivial⟩ ?_;refine aD 1 rfl (cB ha) cC ⟨aB rfl,rfl⟩ (kF (k)) ?_
   refine aD 3 rfl (cB hb) cC ⟨aB rfl,rfl⟩ (kF (k')) ?_;refine aN 6 (by kernel_rfl) rfl rfl aA rfl rfl rfl rfl ⟨rfl,rfl,rfl,rfl,trivial⟩ ?_
   refine dst 7 ?_;refine aP ?_;exact⟨(),trivial,aJ h0 [2,3,4,5] _ _ (by decide) ⟨rfl,rfl,rfl,rfl,rfl,trivial⟩ ⟨oe rfl rfl,oe rfl rfl,oe rfl rfl,oe rfl rfl,rfl⟩⟩
  refine bD (key:=4) 5 rfl rfl aA rfl ⟨rfl,rfl,rfl,rfl,trivial⟩ ?_;refine WO.two (i:=1) (j:=4) (by kernel_rfl) ?_ ?_
  ·refine cP 1 rfl (cB ha) cC ⟨aB rfl,rfl⟩ (kF (k)) ?_;refine WO.two (i:=3) (j:=4) (by kernel_rfl) ?_ ?_
   ·refine cP 3 rfl (cB hb) cC ⟨aB rfl,rfl⟩ (kF (k')) ?_;refine dA (key:=5) 4 (by kernel_rfl) rfl rfl aA rfl ⟨rfl,rfl,rfl,rfl,trivial⟩ ?_
    refine aN 6 (by kernel_rfl) rfl rfl aA rfl rfl rfl rfl ⟨rfl,rfl,rfl,rfl,trivial⟩ ?_
    refine dst 7 ?_;refine aP ?_;exact⟨(),trivial,aJ h0 [2,3,5,4] _ _ (by decide) ⟨rfl,rfl,rfl,rfl,rfl,trivial⟩ ⟨oe rfl rfl,oe rfl rfl,oe rfl rfl,oe rfl rfl,rfl⟩⟩
   refine bD (key:=5) 4 rfl rfl aA rfl ⟨rfl,rfl,rfl,rfl,trivial⟩ ?_;refine aD 3 rfl (cB hb) cC ⟨aB rfl,rfl⟩ (kF (k')) ?_
   refine aN 6 (by kernel_rfl) rfl rfl aA rfl rfl rfl rfl ⟨rfl,rfl,rfl,rfl,trivial⟩ ?_
   refine dst 7 ?_;refine aP ?_;exact⟨(),trivial,aJ h0 [2,3,5,4] _ _ (by decide) ⟨rfl,rfl,rfl,rfl,rfl,trivial⟩ ⟨oe rfl rfl,oe rfl rfl,oe rfl rfl,oe rfl rfl,rfl⟩⟩
  refine bD (key:=5) 4 rfl rfl aA rfl ⟨rfl,rfl,rfl,rfl,trivial⟩ ?_;refine aD 1 rfl (cB ha) cC ⟨aB rfl,rfl⟩ (kF (k)) ?_
  refine aD 3 rfl (cB hb) cC ⟨aB rfl,rfl⟩ (kF (k')) ?_;refine aN 6 (by kernel_rfl) rfl rfl aA rfl rfl rfl rfl ⟨rfl,rfl,rfl,rfl,trivial⟩ ?_
  refine dst 7 ?_;refine aP ?_;exact⟨(),trivial,aJ h0 [2,3,5,4] _ _ (by decide) ⟨rfl,rfl,rfl,rfl,rfl,trivial⟩ ⟨oe rfl rfl,oe rfl rfl,oe rfl rfl,oe rfl rfl,rfl⟩⟩
 refine sq ?_;refine rl ?_;refine o1 ?_;refine o1 ?_;refine ld ?_;refine o1 ?_;refine o1 ?_;refine ld ?_
 have hD:aL true Tryz.prog 45 [] [.one (.t (sU false (dg 4294967296 k.natAbs))),.one (.t (sU false (dg 4294967296 k'.natAbs)))] (aU (.tup [.one (.t (sU true (dg 4294967296 (k.natAbs/k'.natAbs)))),.one (.t (sU true (dg 4294967296 (k.natAbs%k'.natAbs)))),.one (tv (.int .i64 0))])):=by
  have h9:=Pa (aF (by omega) k.natAbs) (aF (by omega) k'.natAbs) (by omega) (by omega) (by rw[bI];omega)
  rwa[bI,bI]at h9
 refine hH 4 hD Vd ⟨a1 rfl,a1 rfl,rfl⟩ ?_;(iterate 7 refine o1 ?_);refine nl ?_;refine sq ?_;refine sq ?_;refine rl ?_;refine o1 ?_;refine o1 ?_;refine nl ?_
 refine bU rfl (fun h1=>?_) (fun h1=>?_)
 ·exact absurd rfl h1
 refine sk ?_;refine sq ?_;refine sq ?_;refine rl ?_;refine o1 ?_;refine o1 ?_;refine ld ?_;refine o1 ?_;refine o1 ?_;refine ld ?_;refine o1 ?_;refine o1 ?_
 refine WL.splitb (t:=37) rfl (fun h2=>?_) (fun h2=>?_)
 ·(iterate 4 refine o1 ?_);refine nl ?_;refine bU rfl (fun h3=>?_) (fun h3=>?_)
  ·refine sq ?_;refine rl ?_;refine o1 ?_;refine bs 6 ?_
   have hA:aL true Tryz.prog 50 [] [.one (.t (sU false (dg 4294967296 (k.natAbs/k'.natAbs)))),.one (.t (sU false [1]))] (aU (.one (.t (sU true (dg 4294967296 ((k.natAbs/k'.natAbs)+1)))))):=by
    have h9:=Hr (aF (by omega) (k.natAbs/k'.natAbs)) (Lim.cons (show 1<4294967296 by omega) Lim.nil) (by omega) (by simp)
    rwa[aZ (by omega),show vl 4294967296 [1]=1 from rfl]at h9
   refine hH 7 hA wY ⟨lI rfl (.sl rfl rfl (mV _) (bK _)),lI rfl (.sl (trs:=aM [1]) rfl rfl rfl rfl),rfl⟩ ?_;refine o1 ?_;refine nl ?_;refine rl ?_;refine o1 ?_;refine o1 ?_
   refine ld ?_;refine o1 ?_
   have hS:aL true Tryz.prog 77 [] [.one (.t (sU false (dg 4294967296 k'.natAbs))),.one (.t (sU false (dg 4294967296 (k.natAbs%k'.natAbs))))] (aU (.tup [.one (.t (sU true (dg 4294967296 (k'.natAbs-(k.natAbs%k'.natAbs))))),.one (tv (.int .i64 0))])):=by
    have h9:=Ht (aF (by omega) k'.natAbs) (aF (by omega) (k.natAbs%k'.natAbs)) (by omega) (by rw[bI,aZ (by omega)];omega)
    rwa[bI,aZ (by omega)]at h9
   refine hH 8 hS Nx ⟨a1 rfl,lI rfl (.sl rfl rfl (mV _) (bK _)),rfl⟩ ?_;(iterate 4 refine o1 ?_);refine nl ?_;refine sq ?_
   have hd:k.fdiv k'=bH (aC k != aC k') ((k.natAbs/k'.natAbs)+1)∧k.fmod k'=bH (aC k') (k'.natAbs-(k.natAbs%k'.natAbs)):=by
    have h9:aC k≠aC k':=by simpa using h2
    have h7:k.natAbs%k'.natAbs≠0:=by have h5:=jM (m:=(k.natAbs%k'.natAbs)) rfl;rw[decide_eq_true (by omega)]at h5;have h6:=of_decide_eq_true h5.symm;omega
    have h8:=Sm (a:=k) (b:=k') hz0 h9 h7
    rw[h2];exact h8
   refine rd [1,2,3,6] (fun i=>[15,16].contains i) mixed ?_
   refine dv 0 ?_;refine dv 1 ?_;refine aK 2 ?_;refine dv 3 ?_;refine dv 4 ?_;refine aK 5 ?_;refine dv 6 ?_;refine dv 7 ?_;refine dv 9 ?_;refine dv 10 ?_;refine aK 11 ?_
   refine dv 12 ?_
   refine vI 8 9 [7] rfl (eP (b:=(aC k != aC k')) (m:=((k.natAbs/k'.natAbs)+1)) (K:=(k.fdiv k')) hd.1.symm) kE ⟨cD rfl,rfl⟩ ⟨rfl,rfl,rfl⟩ ⟨rfl,rfl,rfl,rfl,trivial⟩ ?_
   refine vI 13 10 [8] rfl (eP (b:=(aC k')) (m:=(k'.natAbs-(k.natAbs%k'.natAbs))) (K:=(k.fmod k')) hd.2.symm) kE ⟨cD rfl,rfl⟩ ⟨rfl,rfl,rfl⟩ ⟨rfl,rfl,rfl,rfl,trivial⟩ ?_
   refine aN 14 (by kernel_rfl) rfl rfl aA rfl rfl rfl rfl ⟨rfl,rfl,rfl,rfl,trivial⟩ ?_
   refine dst 15 ?_;refine gR 16 (by kernel_rfl) rfl rfl aA rfl (by trivial) ?_ (fun h=>by first | rfl | cases h)
   refine aP ?_;refine rt ?_
   exact en (.inl rfl) rfl (pC (.cons (.agg (.cons (.id rfl) (.cons (.sl (trs:=aM (dg 4294967296 ((k.fdiv k')).natAbs)) rfl rfl (bP _) (bK _)) .nil))) (.cons (.agg (.cons (.id rfl) (.cons (.sl (trs:=aM (dg 4294967296 ((k.fmod k')).natAbs)) rfl rfl (bP _) (bK _)) .nil))) (.cons (bQ (.int .i64 0)) .nil)))) (by decide) (fun _=>⟨cG (k.fdiv k'),cG (k.fmod k'),trivial,trivial⟩) rfl
  refine sk ?_;refine sq ?_;have hd:k.fdiv k'=bH (aC k != aC k') (k.natAbs/k'.natAbs)∧k.fmod k'=bH (aC k') (k.natAbs%k'.natAbs):=by
   have h9:aC k≠aC k':=by simpa using h2
   have h7:k.natAbs%k'.natAbs=0:=by have h5:=jM (m:=(k.natAbs%k'.natAbs)) rfl;rw[decide_eq_false (by omega)]at h5;have h6:=of_decide_eq_false h5.symm;omega
   have h8:=Sl (a:=k) (b:=k') hz0 h9 h7
   rw[h2];exact h8
  refine rd [1,2,3] (fun i=>[15,16].contains i) mixed ?_
  refine dv 0 ?_;refine dv 1 ?_;refine aK 2 ?_;refine dv 3 ?_;refine dv 4 ?_;refine aK 5 ?_;refine dv 6 ?_;refine dv 7 ?_;refine dv 9 ?_;refine dv 10 ?_;refine aK 11 ?_
  refine dv 12 ?_
  refine vI 8 6 [4] rfl (eP (b:=(aC k != aC k')) (m:=(k.natAbs/k'.natAbs)) (K:=(k.fdiv k')) hd.1.symm) kE ⟨cD rfl,rfl⟩ ⟨rfl,rfl,rfl⟩ ⟨rfl,rfl,rfl,trivial⟩ ?_
  refine vI 13 7 [5] rfl (eP (b:=(aC k')) (m:=(k.natAbs%k'.natAbs)) (K:=(k.fmod k')) hd.2.symm) kE ⟨cD rfl,rfl⟩ ⟨rfl,rfl,rfl⟩ ⟨rfl,rfl,rfl,trivial⟩ ?_
  refine aN 14 (by kernel_rfl) rfl rfl aA rfl rfl rfl rfl ⟨rfl,rfl,rfl,trivial⟩ ?_
  refine dst 15 ?_;refine gR 16 (by kernel_rfl) rfl rfl aA rfl (by trivial) ?_ (fun h=>by first | rfl | cases h)
  refine aP ?_;refine rt ?_
  exact en (.inl rfl) rfl (pC (.cons (.agg (.cons (.id rfl) (.cons (.sl (trs:=aM (dg 4294967296 ((k.fdiv k')).natAbs)) rfl rfl (bP _) (bK _)) .nil))) (.cons (.agg (.cons (.id rfl) (.cons (.sl (trs:=aM (dg 4294967296 ((k.fmod k')).natAbs)) rfl rfl (bP _) (bK _)) .nil))) (.cons (bQ (.int .i64 0)) .nil)))) (by decide) (fun _=>⟨cG (k.fdiv k'),cG (k.fmod k'),trivial,trivial⟩) rfl
 (iterate 3 refine cW ?_);refine o1 ?_;refine nl ?_;refine eR rfl ?_;refine sk ?_;refine sq ?_
 have hd:k.fdiv k'=bH (aC k != aC k') (k.natAbs/k'.natAbs)∧k.fmod k'=bH (aC k') (k.natAbs%k'.natAbs):=by
  have h9:aC k=aC k':=by simpa using h2
  have h8:=Sk (a:=k) (b:=k') hz0 h9
  rw[h2];exact h8
 refine rd [1,2,3] (fun i=>[15,16].contains i) mixed ?_
 refine dv 0 ?_;refine dv 1 ?_;refine aK 2 ?_;refine dv 3 ?_;refine dv 4 ?_;refine aK 5 ?_;refine dv 6 ?_;refine dv 7 ?_;refine dv 9 ?_;refine dv 10 ?_;refine aK 11 ?_
 refine dv 12 ?_
 refine vI 8 6 [4] rfl (eP (b:=(aC k != aC k')) (m:=(k.natAbs/k'.natAbs)) (K:=(k.fdiv k')) hd.1.symm) kE ⟨cD rfl,rfl⟩ ⟨rfl,rfl,rfl⟩ ⟨rfl,rfl,rfl,trivial⟩ ?_
 refine vI 13 7 [5] rfl (eP (b:=(aC k')) (m:=(k.natAbs%k'.natAbs)) (K:=(k.fmod k')) hd.2.symm) kE ⟨cD rfl,rfl⟩ ⟨rfl,rfl,rfl⟩ ⟨rfl,rfl,rfl,trivial⟩ ?_
 refine aN 14 (by kernel_rfl) rfl rfl aA rfl rfl rfl rfl ⟨rfl,rfl,rfl,trivial⟩ ?_
 refine dst 15 ?_;refine gR 16 (by kernel_rfl) rfl rfl aA rfl (by trivial) ?_ (fun h=>by first | rfl | cases h)
 refine aP ?_;refine rt ?_
 exact en (.inl rfl) rfl (pC (.cons (.agg (.cons (.id rfl) (.cons (.sl (trs:=aM (dg 4294967296 ((k.fdiv k')).natAbs)) rfl rfl (bP _) (bK _)) .nil))) (.cons (.agg (.cons (.id rfl) (.cons (.sl (trs:=aM (dg 4294967296 ((k.fmod k')).natAbs)) rfl rfl (bP _) (bK _)) .nil))) (.cons (bQ (.int .i64 0)) .nil)))) (by decide) (fun _=>⟨cG (k.fdiv k'),cG (k.fmod k'),trivial,trivial⟩) rfl
theorem Fk {α:Type}{f:α→List Tr}{z:Nat}(hf:∀x,(f x).length=z):∀{xs:List α}{k:Nat}{x:α},xs[k]? =some x→((xs.flatMap f).drop (k*z)).take z=f x
 | [],_,_,h=>by simp at h
 | y::xs,0,x,h=>by
  simp at h
  subst h
  rw[Nat.zero_mul,List.drop_zero,List.flatMap_cons,List.take_append_of_le_length (by rw[hf];exact Nat.le_refl _),List.take_of_length_le (by rw[hf];exact Nat.le_refl _)]
 | y::xs,k+1,x,h=>by
  rw[List.getElem?_cons_succ]at h
  have e:(f y++xs.flatMap f).drop z=xs.flatMap f:=by rw[←hf y];simp
  rw[List.flatMap_cons,Nat.succ_mul,Nat.add_comm,←List.drop_drop,e]
  exact Fk hf h
theorem mR {α:Type}{f:α→List Tr}{z:Nat}(hf:∀x,(f x).length=z):∀(xs:List α),(xs.flatMap f).length=xs.length*z
 | []=>by simp
 | y::xs=>by rw[List.flatMap_cons,List.length_append,hf,mR hf xs,List.length_cons,Nat.succ_mul,Nat.add_comm]
theorem Pc {α:Type}{f:α→List Tr}{z o m:Nat}(hf:∀x,(f x).length=z){xs:List α}{k:Nat}{x:α}(h:xs[k]? =some x) (hm:o+m≤z):((xs.flatMap f).drop (k*z+o)).take m=((f x).drop o).take m:=by
 have e:=Fk hf h
 rw[←List.drop_drop,←e,List.drop_take,List.take_take,Nat.min_eq_left (by omega)]
section
variable {α:Type}{f:α→List Tr}{z:Nat}{xs:List α}{k o:Nat}{x x' y:α}{us:List Tr}
theorem gS (hf:∀x,(f x).length=z) (h:xs[k]? =some x) (hm:o+us.length≤z) (hu:((f x).drop o).take us.length=us):((xs.flatMap f).drop (k*z+o)).take us.length=us:=by
 rw[Pc hf h hm]
 exact hu
end
def dU (o:Bool) (a:Zi):List Tr:=[.v (.bool a.s),sU o a.x]
theorem fY (o:Bool) (a:Zi):(dU o a).length=2:=rfl
def gO (a:Zi):FV:=.agg ((dU true a).map .t)
def sZ (t:Nat) (zs:List Zi):Tr:=.s false t 2 zs.length (zs.flatMap (dU false))
def dE (zs:List Zi) (k:Nat):Zi:=zs.getD k ⟨false,[]⟩
theorem eB {zs:List Zi}{k:Nat}(h:k<zs.length):zs[k]? =some (dE zs k):=by simp[dE,h]
theorem tL {zs:List Zi}{k:Nat}(h:k<zs.length):dE zs k∈zs:=List.mem_of_getElem? (eB h)
def zv (a:Zi):Int:=kK a.s a.x
def ZL (L:Nat) (a:Zi):Prop:=Lim 4294967296 a.x∧a.x.length≤L
theorem ZL.n {L:Nat}{a:Zi}(h:ZL L a) (hL:L≤137438953472):Zn a (zv a):=⟨h.1,Nat.le_trans h.2 hL,rfl⟩
theorem Lu {zs:List Zi}{k:Nat}(h:∀a∈zs,ZL 30 a) (hk:k<zs.length):Zn (dE zs k) (zv (dE zs k)):=(h _ (tL hk)).n (by omega)
def dI:List Zi→Int
 | []=>0
 | a::l=>zv a+dI l
theorem Ce (l m:List Zi):dI (l++m)=dI l+dI m:=by
 induction l with
 | nil=>simp[dI]
 | cons a l ih=>simp only[List.cons_append,dI,ih];omega
theorem Mw (l:List Zi):dI l.reverse=dI l:=by
 induction l with
 | nil=>rfl
 | cons a l ih=>rw[List.reverse_cons,Ce,ih];simp only[dI];omega
theorem Lw {zs:List Zi}{k:Nat}(h:k<zs.length):dI (zs.take k)+zv (dE zs k)=dI (zs.take (k+1)):=by
 rw[List.take_add_one,eB h,Ce]
 simp[dI]
theorem yQ {a:Zi}{L:Nat}(h:ZL L a):(zv a).natAbs<4294967296^L:=by
 have h1:(dg 4294967296 (zv a).natAbs).length≤a.x.length:=xE h.1
 have h2:=iM (B:=4294967296) (n:=(zv a).natAbs) (by omega)
 exact Nat.lt_of_lt_of_le h2 (Nat.pow_le_pow_right (by omega) (Nat.le_trans h1 h.2))
theorem Ti {zs:List Zi}(h:∀a∈zs,ZL 30 a):(dI zs).natAbs≤zs.length*4294967296^30:=by
 induction zs with
 | nil=>simp[dI]
 | cons a l ih=>
  have h1:=ih fun b hb=>h b (List.mem_cons_of_mem _ hb)
  have h2:=yQ (h a (List.mem_cons_self ..))
  have h3:=Int.natAbs_add_le (zv a) (dI l)
  rw[List.length_cons,Nat.add_mul]
  simp only[dI]
  omega
theorem tI {zs:List Zi}{k:Nat}(h:∀a∈zs,ZL 30 a) (hl:zs.length≤10):(dg 4294967296 (dI (zs.take k)).natAbs).length≤31:=by
 have h1:=Ti (zs:=zs.take k) fun a ha=>h a (List.mem_of_mem_take ha)
 refine bC (by omega) (Nat.lt_of_le_of_lt h1 ?_)
 have h2:(zs.take k).length≤10:=by rw[List.length_take];omega
 exact Nat.lt_of_le_of_lt (Nat.mul_le_mul_right _ h2) (by decide)
theorem jH {α:Type}{l:List α}{k:Nat}(h:l.length≤k):l.take k=l:=List.take_of_length_le h
def kN (a b:Zi):Bool:=(a.s==b.s)&&decide (a.x=b.x)
theorem Fy (a:Zi):kN a a=true:=by simp[kN]
theorem Tj {a b:Zi}(h:(!(a.s==b.s))=true):false=kN a b:=by simp[kN,Qb h]
theorem Tk {a b:Zi}(h:¬a.x.length=b.x.length):false=kN a b:=by
 unfold kN
 rw[decide_eq_false fun e=>h (by rw[e]),Bool.and_false]
theorem Tl {a b:Zi}{k:Nat}(h:¬nth a.x k=nth b.x k):false=kN a b:=by
 unfold kN
 rw[decide_eq_false fun e=>h (by rw[e]),Bool.and_false]
theorem Tm {a b:Zi}{k:Nat}(h:(!(a.s==b.s))=false) (hl:a.x.length=b.x.length) (hk:a.x.take k=b.x.take k) (hk2:a.x.length≤k):true=kN a b:=by
 rw[jH hk2,jH (by omega)]at hk
 simp[kN,Ep h,hk]
def fN (k:Int):List Nat:=if k<0 then 45::tx k.natAbs else tx k.natAbs
theorem wJ (k:Int):Lim 256 (fN k):=by
 unfold fN
 split
 ·exact Lim.cons (by omega) (Kb _)
 exact Kb _
def nF (l:List Nat):Bool:=l.all fun c=>decide (48≤c∧c≤57)
theorem Fl {l:List Nat}(h:nF l=true):∀c∈l,48≤c∧c≤57:=by simpa[nF]using h
theorem Iq {l:List Nat}(h:∀c∈l,48≤c∧c≤57):nF l=true:=by simpa[nF]using h
theorem Lx:∀c<256,([48,49,50,51,52,53,54,55,56,57]:List UInt8).contains (UInt8.ofNat c)=decide (48≤c∧c≤57):=by decide+kernel
theorem Fm {l:List Nat}(h:Lim 256 l):((⟨(Lib.trimS (aW l).data.toList [48,49,50,51,52,53,54,55,56,57]).toArray⟩:ByteArray).toList==(⟨#[]⟩:ByteArray).toList)=nF l:=by
 rw[ByteArray.toList_eq,ByteArray.toList_eq,Bool.eq_iff_iff,beq_iff_eq]
 show Lib.trimS _ _=[]↔_
 rw[Ll,kY]
 unfold nF
 rw[List.all_eq_true]
 refine⟨fun g c hc=>?_,fun g x hx=>?_⟩
 ·rw[←Lx c (h c hc)]
  exact g _ (List.mem_map.2 ⟨c,hc,rfl⟩)
 obtain⟨c,hc,rfl⟩:=List.mem_map.1 hx
 rw[Lx c (h c hc)]
 exact g c hc
def gP (l:List Nat):Bool:=decide (l=[])||(!decide (l=[48])&&decide (nth l 0=48))|| !nF l
def iF (l:List Nat):Int:=if gP l then 60 else if 4096<l.length then 3 else 0
def Cf (l:List Nat):Nat:=if iF l=0 then bM l else 0
theorem Qj {l:List Nat}(h:decide (l=[])=true):gP l=true:=by simp[gP,h]
theorem Hw {l:List Nat}(h:decide (l=[48])=false) (h2:nth l 0=48):gP l=true:=by simp[gP,h,h2]
theorem uN {l:List Nat}(h:nF l=false):gP l=true:=by simp[gP,h]
theorem vX {l:List Nat}(h0:decide (l=[])=false) (h:decide (l=[48])=true∨¬nth l 0=48) (h2:nF l=true):gP l=false:=by
 rcases h with h | h <;> simp[gP,h0,h,h2]
theorem nK {l:List Nat}(h:gP l=true):iF l=60:=by simp[iF,h]
theorem Ms {l:List Nat}(h:gP l=false) (h2:4096<l.length):iF l=3:=by simp[iF,h,h2]
theorem tE {l:List Nat}(h:gP l=false) (h2:¬4096<l.length):iF l=0:=by simp[iF,h,h2]
theorem vY {l:List Nat}(h:iF l=0):Cf l=bM l:=if_pos h
theorem sO {l:List Nat}(h:¬iF l=0):Cf l=0:=if_neg h
theorem vZ {l:List Nat}(h:gP l=false):∀c∈l,48≤c∧c≤57:=by
 refine Fl ?_
 cases hq:nF l with
 | true=>rfl
 | false=>rw[uN hq]at h;cases h
theorem Pd (m:List Nat):∀n:Nat,m.foldl (fun n c=>n*10+(c-48)) n=n*10^m.length+bM m:=by
 induction m with
 | nil=>intro n;simp[bM]
 | cons c m ih=>
  intro n
  have e:bM (c::m)=(0*10+(c-48))*10^m.length+bM m:=ih _
  rw[List.foldl_cons,ih,e,List.length_cons,Nat.pow_succ,Nat.zero_mul,Nat.zero_add,Nat.add_mul,Nat.mul_assoc,Nat.mul_comm 10,Nat.add_assoc]
theorem xI (l m:List Nat):bM (l++m)=bM l*10^m.length+bM m:=by
 show(l++m).foldl _ 0=_
 rw[List.foldl_append,Pd]
 rfl
theorem nR {l:List Nat}{j f:Nat}(h:j+f≤l.length) (hf:j=0∨f=9):bM (l.take j)*1000000000+bM ((l.drop j).take f)=bM (l.take (j+f)):=by
 rw[List.take_add,xI,List.length_take,List.length_drop,Nat.min_eq_left (by omega)]
 rcases hf with rfl | rfl
 ·simp[bM]
 rfl
theorem Tn {l:List Nat}(h:∀c∈l,48≤c∧c≤57){j:Nat}(hj:j≤l.length):bM (l.take j)<4294967296^j:=Nat.lt_of_lt_of_le (yX h hj) (Nat.pow_le_pow_left (by omega) j)
theorem kS {l:List Nat}(h:∀c∈l,48≤c∧c≤57){j:Nat}(hj:j≤l.length):(dg 4294967296 (bM (l.take j))).length≤j:=bC (by omega) (Tn h hj)
theorem pZ {l:List Nat}(h:∀c∈l,48≤c∧c≤57) (j f:Nat):∀c∈(l.drop j).take f,48≤c∧c≤57:=fun c hc=>h c (List.mem_of_mem_drop (List.mem_of_mem_take hc))
theorem qA {l:List Nat}(h:∀c∈l,48≤c∧c≤57){j f:Nat}(hj:j+f≤l.length) (hf:f≤9):bM ((l.drop j).take f)<1000000000:=
 Nat.lt_of_lt_of_le (yX (l:=l.drop j) (k:=f) (fun c hc=>h c (List.mem_of_mem_drop hc)) (by rw[List.length_drop];omega)) (Nat.le_trans (Nat.pow_le_pow_right (by omega) hf) (by decide))
theorem yP {l:List Nat}{k:Nat}(h:k<l.length):bM (l.take k)*10+(nth l k-48)=bM (l.take (k+1)):=Oy h
theorem To (ds:List Nat):bM (cX ds).reverse=vl 10 ds:=by
 induction ds with
 | nil=>rfl
 | cons d ds ih=>
  have e:(cX (d::ds)).reverse=(cX ds).reverse++[48+d]:=by simp[cX]
  rw[e,xI,ih]
  simp[bM,vl]
  omega
theorem Yb (v:Nat):bM (tx v)=v:=by
 unfold tx
 split
 ·rename_i h;subst h;rfl
 rw[To,aZ (by omega)]
theorem Ly (v:Nat):∀c∈tx v,48≤c∧c≤57:=by
 unfold tx
 split
 ·intro c hc
  simp at hc
  omega
 intro c hc
 rw[List.mem_reverse]at hc
 obtain⟨d,hd,rfl⟩:=List.mem_map.1 hc
 have:=aF (B:=10) (by omega) v d hd
 omega
theorem Tp {v:Nat}(h:v≠0):nth (tx v) 0≠48:=by
 have e:=Hd (l:=dg 10 v) (v:=v) (aF (by omega) v) (aZ (by omega) v)
 rw[if_neg h]at e
 have e2:tx v=(cX (dg 10 v)).reverse:=by unfold tx;rw[if_neg h]
 rw[←e2]at e
 have h2:=Hf v
 generalize tx v=L at e h2
 cases L with
 | nil=>exact absurd rfl h2
 | cons x l=>
  intro h3
  have h4:x=48:=h3
  subst h4
  have h5:=(List.dropWhile_sublist (· ==48) (l:=l)).length_le
  rw[List.dropWhile_cons,if_pos (by rfl)]at e
  rw[e,List.length_cons]at h5
  omega
theorem Tq (v:Nat):gP (tx v)=false:=by
 by_cases h:v=0
 ·subst h;rfl
 exact vX (decide_eq_false (Hf v)) (.inr (Tp h)) (Iq (Ly v))
def bG (l:List Nat):List Nat:=if l.take 1=[45]then l.drop 1 else l
def fA (l:List Nat):Int:=if iF (bG l)=0 then(if l.take 1=[45]∧bM (bG l)=0 then 2 else 0)else iF (bG l)
def eF (l:List Nat):Int:=if fA l=0 then(if l.take 1=[45]then-((bM (bG l):Nat):Int)else(bM (bG l):Nat))else 0
theorem Yz {k:Int}(h:(fN k).length≤4096):fA (fN k)=0∧eF (fN k)=k:=by
 have hd:=Ly k.natAbs
 have hg:=Tq k.natAbs
 have hv:=Yb k.natAbs
 unfold fN at h⊢
 by_cases h0:k<0
 ·rw[if_pos h0]at h⊢
  have e1:(45::tx k.natAbs).take 1=[45]:=rfl
  have e2:bG (45::tx k.natAbs)=tx k.natAbs:=rfl
  have e3:iF (tx k.natAbs)=0:=tE hg (by simp at h;omega)
  have e4:fA (45::tx k.natAbs)=0:=by
   unfold fA
   rw[e2,if_pos e3,hv,if_neg (by omega)]
  refine⟨e4,?_⟩
  unfold eF
  rw[if_pos e4,if_pos e1,e2,hv]
  omega
 rw[if_neg h0]at h⊢
 have e1:¬(tx k.natAbs).take 1=[45]:=by
  intro e
  have:45∈tx k.natAbs:=List.mem_of_mem_take (i:=1) (by rw[e];simp)
  have:=hd 45 this
  omega
 have e2:bG (tx k.natAbs)=tx k.natAbs:=if_neg e1
 have e3:iF (tx k.natAbs)=0:=tE hg (by omega)
 have e4:fA (tx k.natAbs)=0:=by
  unfold fA
  rw[e2,if_pos e3,if_neg (fun h=>e1 h.1)]
 refine⟨e4,?_⟩
 unfold eF
 rw[if_pos e4,if_neg e1,e2,hv]
 omega
def mQ (l:List Nat):Bool:=decide (l=[])||(decide (nth l 0=48)&&decide (1<l.length))
theorem Ur {l:List Nat}(h:decide (l=[])=true):true=mQ l:=by simp[mQ,h]
theorem Us {l:List Nat}(h0:decide (l=[])=false) (h:nth l 0=48):decide (1<(l.length:Int))=mQ l:=by
 simp only[mQ,h0,Bool.false_or]
 rw[decide_eq_true h,Bool.true_and]
 exact decide_eq_decide.2 (by omega)
theorem Ut {l:List Nat}(h0:decide (l=[])=false) (h:¬nth l 0=48):false=mQ l:=by simp[mQ,h0,h]
theorem Uu {l:List Nat}(h:mQ l=true):gP l=true:=by
 unfold mQ at h
 simp only[Bool.or_eq_true,Bool.and_eq_true,decide_eq_true_eq]at h
 rcases h with h | ⟨h1,h2⟩
 ·exact Qj (decide_eq_true h)
 refine Hw (decide_eq_false fun e=>?_) h1
 rw[e]at h2
 simp at h2
theorem Uw {l:List Nat}(h:mQ l=false) (h2:nF l=true):gP l=false:=by
 unfold mQ at h
 simp only[Bool.or_eq_false_iff,Bool.and_eq_false_iff,decide_eq_false_iff_not]at h
 refine vX (decide_eq_false h.1) ?_ h2
 rcases h.2 with h3 | h3
 ·exact .inr h3
 by_cases h4:nth l 0=48
 ·left
  match l,h.1,h3,h4 with
  | [c],_,_,h4=>have h5:c=48:=h4;subst h5;rfl
  | _::_::_,_,h3,_=>simp at h3
 exact .inr h4
theorem Uv {l:List Nat}{k:Nat}(h:k<l.length) (h2:nth l k<48∨57<nth l k):nF l=false:=by
 cases hq:nF l with
 | false=>rfl
 | true=>have:=Fl hq (nth l k) (by rw[bV h];exact List.getElem_mem h);omega
theorem Yr {l:List Nat}{k:Nat}(h:k<l.length) (h1:∀c∈l.take k,48≤c∧c≤57) (h2:48≤nth l k∧nth l k≤57):∀c∈l.take (k+1),48≤c∧c≤57:=by
 have e:l[k]? =some (nth l k):=by rw[bV h];simp[h]
 intro c hc
 rw[List.take_add_one,e]at hc
 simp at hc
 rcases hc with hc | rfl
 ·exact h1 c hc
 exact h2
theorem zL {l:List Nat}(h:gP l=false):bM l=0↔l=[48]:=by
 refine⟨fun h0=>?_,fun e=>by rw[e];rfl⟩
 have hd:=vZ h
 cases l with
 | nil=>simp[gP]at h
 | cons c m=>
  have e:=xI [c] m
  have e1:bM [c]=c-48:=by simp[bM]
  rw[List.singleton_append,h0,e1]at e
  have hc:=hd c (List.mem_cons_self ..)
  have h3:c-48=0:=by
   rcases Nat.eq_zero_or_pos (c-48)with h4 | h4
   ·exact h4
   have:=Nat.mul_pos h4 (Nat.pow_pos (n:=m.length) (show 0<10 by omega));omega
  have h4:nth (c::m) 0=48:=by show c=48;omega
  cases hq:decide (c::m=[48])with
  | true=>exact of_decide_eq_true hq
  | false=>rw[Hw hq h4]at h;cases h
theorem Mr {l:List Nat}(h:¬0<l.length):false=decide (l.take 1=[45]):=by
 rw[List.eq_nil_of_length_eq_zero (show l.length=0 by omega)];rfl
theorem Rc {l:List Nat}(h:0<l.length):decide (((nth l 0:Nat):Int)=45)=decide (l.take 1=[45]):=by
 cases l with
 | nil=>simp at h
 | cons c m=>
  refine decide_eq_decide.2 ?_
  show((c:Nat):Int)=45↔ [c]=[45]
  simp
  omega
theorem Yq {l:List Nat}(h:decide (l.take 1=[45])=false):aW l=aW (bG l):=by rw[bG,if_neg (of_decide_eq_false h)]
theorem Yp {l:List Nat}(h:decide (l.take 1=[45])=true):aW (l.drop 1)=aW (bG l):=by rw[bG,if_pos (of_decide_eq_true h)]
theorem Mp {v:Nat}(h:(dg 4294967296 v).length≤1000000):(dg 10 v).length≤10000000:=by
 have h1:=iM (B:=4294967296) (n:=v) (by omega)
 have h2:v<10^(10*(dg 4294967296 v).length):=Nat.lt_of_lt_of_le h1 (by rw[Nat.pow_mul];exact Nat.pow_le_pow_left (by omega) _)
 have:=bC (B:=10) (by omega) h2
 omega
theorem Rf (l:List Nat):(dg 4294967296 (eF l).natAbs).length≤l.length:=by
 unfold eF
 by_cases h:fA l=0
 ·rw[if_pos h]
  have h0:iF (bG l)=0:=by
   unfold fA at h
   by_cases h2:iF (bG l)=0
   ·exact h2
   rw[if_neg h2]at h;exact h
  have hg:gP (bG l)=false:=by
   cases hq:gP (bG l)with
   | false=>rfl
   | true=>rw[nK hq]at h0;cases h0
  have h1:=kS (vZ hg) (Nat.le_refl _)
  rw[List.take_of_length_le (Nat.le_refl _)]at h1
  have h2:(bG l).length≤l.length:=by unfold bG;split;(rw[List.length_drop];omega);exact Nat.le_refl _
  have h3:(if l.take 1=[45]then-((bM (bG l):Nat):Int)else(bM (bG l):Nat)).natAbs=bM (bG l):=by split <;> omega
  rw[h3]
  omega
 rw[if_neg h]
 exact Nat.zero_le _
theorem wA {u m:Nat}(h:(dg 4294967296 u).length≤1099511627776) (hm:m<4294967296):aL true Tryz.prog 51 [] [.one (.t (sU false (dg 4294967296 u))),.one (tv (.int .u32 (m:Int)))] (aU (.one (.t (sU true (dg 4294967296 (u*m)))))):=by
 have h1:=Hv (aF (by omega) u) h hm
 rwa[aZ (by omega)]at h1
theorem wB {u x:Nat}(h:(dg 4294967296 u).length≤1099511627776) (hx:x<4294967296):aL true Tryz.prog 50 [] [.one (.t (sU false (dg 4294967296 u))),.one (.t (sU false [x]))] (aU (.one (.t (sU true (dg 4294967296 (u+x)))))):=by
 have h1:=Hr (aF (by omega) u) (Lim.cons hx Lim.nil) h (by simp)
 rw[aZ (by omega)]at h1
 have e:vl 4294967296 [x]=x:=by simp[vl]
 rwa[e]at h1
theorem zJ {X os:List Nat}{k cr m:Nat}(hl:os.length=k) (h:vl 65536 os+65536^k*cr=vl 65536 (X.take k)*m):
  vl 65536 (os++[(nth X k*m+cr)%65536])+65536^(k+1)*((nth X k*m+cr)/65536)=vl 65536 (X.take (k+1))*m:=by
 rw[iA,aT,hl,Nat.pow_succ,Nat.mul_assoc,Nat.add_mul,Nat.mul_assoc]
 have h2:=Nat.mod_add_div (nth X k*m+cr) 65536
 have h3:65536^k*(nth X k*m+cr)=65536^k*((nth X k*m+cr)%65536)+65536^k*(65536*((nth X k*m+cr)/65536)):=by rw[←Nat.mul_add,h2]
 rw[Nat.mul_add]at h3
 omega
theorem Mn {X os:List Nat}{k d rest:Nat}(h0:0<k) (hk:k≤X.length) (h:vl 65536 os*d+rest=vl 65536 (X.drop k)):
  vl 65536 (((65536*rest+nth X (k-1))/d)::os)*d+(65536*rest+nth X (k-1))%d=vl 65536 (X.drop (k-1)):=by
 rw[fM 65536 h0 hk,←h,eE,Nat.add_mul,Nat.mul_add,Nat.mul_assoc]
 have h2:=Nat.div_add_mod (65536*rest+nth X (k-1)) d
 rw[Nat.mul_comm]at h2
 omega
theorem Mo {X os:List Nat}{d rest:Nat}(hd:rest<d) (h:vl 65536 os*d+rest=vl 65536 (X.drop 0)):vl 65536 os=vl 65536 X/d∧rest=vl 65536 X%d:=by
 rw[List.drop_zero,Nat.mul_comm]at h
 refine⟨?_,?_⟩
 ·rw[←h,Nat.mul_add_div (by omega),Nat.div_eq_of_lt hd,Nat.add_zero]
 rw[←h,Nat.mul_add_mod,Nat.mod_eq_of_lt hd]
theorem Ik {rest d x:Nat}(h:rest<d) (hx:x<65536):(65536*rest+x)/d<65536:=by
 rw[Nat.div_lt_iff_lt_mul (by omega)]
 have:65536*(rest+1)≤65536*d:=Nat.mul_le_mul_left _ h
 omega
theorem Qx {k v:Nat}{os:List Nat}(h:0<k):(List.replicate k 0++os).set (k-1) v=List.replicate (k-1) 0++v::os:=by
 obtain⟨j,rfl⟩:∃j,k=j+1:=⟨k-1,by omega⟩
 rw[List.replicate_succ',List.append_assoc,List.set_append_right _ _ (by simp)]
 simp
def gJ (k:Int):Bool:=decide (-9223372036854775808≤k∧k≤9223372036854775807)
theorem Dj {k:Int}(h:gJ k=true):(dg 4294967296 k.natAbs).length≤2:=by
 have:=of_decide_eq_true h
 refine bC (by omega) ?_
 show k.natAbs<18446744073709551616
 omega
theorem Qz {k:Int}(h:2<(dg 4294967296 k.natAbs).length):gJ k=false:=by
 cases hq:gJ k with
 | false=>rfl
 | true=>have:=Dj hq;omega
theorem Ra {X:List Nat}{k:Nat}(hX:Lim 4294967296 X) (hk:k<2):IntKind.u64.wrap ((BitVec.ofInt IntKind.u64.bits ((vl 4294967296 (X.take k):Nat):Int)||| BitVec.ofInt IntKind.u64.bits ((nth X k*4294967296^k:Nat):Int)).toNat:Int)=((vl 4294967296 (X.take (k+1)):Nat):Int):=by
 have h0:=hX.nth (by omega) 0
 have h1:=hX.nth (by omega) 1
 rcases(show k=0∨k=1 by omega)with rfl | rfl
 ·have e:=Ke (a:=nth X 0) (b:=0) h0 (by omega)
  rw[aT]
  simp only[List.take_zero,yY,Nat.pow_zero,Nat.mul_one,Nat.one_mul,Nat.zero_add,Nat.zero_mul,Nat.add_zero]at e⊢
  have e2:IntKind.u64.bits=64:=rfl
  rw[e2]at e⊢
  rw[BitVec.or_comm]
  exact e
 have e:=Ke (a:=nth X 0) (b:=nth X 1) h0 h1
 have e1:vl 4294967296 (X.take 1)=nth X 0:=by
  have:=aT 4294967296 X 0
  simpa[yY]using this
 have e2:=aT 4294967296 X 1
 rw[e1,Nat.pow_one,Nat.mul_comm]at e2
 rw[e1,e2,Nat.pow_one]
 exact e
theorem Yo {x k:Nat}(hx:x<4294967296) (hk:k<2):IntKind.u64.wrap ((x:Int)*2^(min ((32*k:Nat):Int).toNat IntKind.u64.bits))=((x*4294967296^k:Nat):Int):=by
 rcases(show k=0∨k=1 by omega)with rfl | rfl <;> simp[IntKind.wrap,IntKind.bits,IntKind.signed] <;> omega
theorem Up {u:Nat}(h:u≤9223372036854775808):IntKind.i64.wrap (IntKind.u64.wrap (0-(u:Int)))=-(u:Int):=by
 simp[IntKind.wrap,IntKind.bits,IntKind.signed]
 omega
theorem DB {x:Cx}{g:Nat→FV}{ob:List (Option Ob)}{Q:Post}{ops:Array Oper}{rest:List Oper}{d:Nat}{ty:TypeId}{pos:String}{af:Array Edge}{gd:Option (Nat×Bool)}{t t2:Nat}{i1 i2:TI}{a:Operand}{k k':IntKind}{n z:Int}(hz:k'.wrap n=z) (kk:WL x ops rest (aR g d (.one (tv (.int k' z)))) ob Q) (hT:bO x.P ttab:=by exact aA) (hw:aQ ops x.n g gd=some true:=by rfl) (h1:aX ttab t=some i1:=by rfl) (h1k:i1.kd=.it k:=by rfl) (h2:aX ttab t2=some i2:=by rfl) (h2k:i2.kd=.it k':=by rfl) (ha:lk x.n g a=.one (tv (.int k n)):=by rfl):WL x ops (⟨some d,.convert t t2 a,ty,pos,af,gd⟩::rest) g ob Q:=by
 refine fO (Wr:=[]) (R:=fun g' ob'=>g'=aR g d (.one (tv (.int k' z)))∧ob'=ob) (fun cs ts W hR K Q kk=>?_) hw (by rintro _ _ ⟨rfl,rfl⟩;exact kk)
 have e1:=hR.lk a
 rw[ha]at e1
 have e1:=aO e1
 have q1:=(cH hT h1).2.2.2
 have q2:=(cH hT h2).2.2.2
 rw[h1k]at q1
 rw[h2k]at q2
 exact dB (Dd q1 q2 e1 hz) (kk _ _ _ _ _ ⟨rfl,rfl⟩ (hR.put d (v:=.one (tv (.int k' z))) (eI (by simp[tv,AR,FR]))) (.put d _))
theorem Im {x:Int}:x.sign<0↔x<0:=Int.sign_neg_iff
theorem In {x:Int}:0<x.sign↔0<x:=Int.sign_pos_iff
theorem Fw {B:Nat}{l:List Nat}{k:Nat}(hB:0<B) (h:k≤l.length):vl B (l.drop k)≤vl B l:=by
 rw[mL B l k h]
 have:=Nat.le_mul_of_pos_left (vl B (l.drop k)) (Nat.pow_pos (n:=k) hB)
 omega
theorem Di {l:List Nat}(h:decide (l=[])=false):0<l.length:=by
 cases l with
 | nil=>simp at h
 | cons _ _=>simp
theorem Fn {l:List Nat}{j:Nat}(h:(!decide (l.drop j=[]))=true):j<l.length:=by
 rcases Nat.lt_or_ge j l.length with h1 | h1
 ·exact h1
 rw[List.drop_of_length_le h1]at h;simp at h
theorem Fo {l:List Nat}{j:Nat}(h:(!decide (l.drop j=[]))=false):l.length≤j:=by
 rcases Nat.lt_or_ge j l.length with h1 | h1
 ·have h2:=of_decide_eq_true (Ep h)
  have h3:=congrArg List.length h2
  rw[List.length_drop,List.length_nil]at h3
  omega
 exact h1
theorem Ts {l:List Nat}(hl:Lim 256 l) (hn:l.length≤1000000):aL true Tryz.prog 9 [] [.one (tv (.string (aW l)))] (aU (.tup [.one (.t (sU true (dg 4294967296 (Cf l)))),.one (tv (.int .i64 (iF l)))])):=by
 refine cF Tryz.func9 rfl Tryz.ntmps9 rfl aA rfl fun N9 w9 c0 h0=>?_
 refine sq ?_;refine rl ?_;refine o1 ?_;refine o1 ?_;refine nl ?_;refine sq ?_;refine bl ?_;refine sq ?_;refine sq ?_;refine rl ?_;refine o1 ?_;refine o1 ?_
 refine WL.cast (t:=10) (u':=.bool (decide (l=[]))) rfl (congrArg Value.bool (lH hl)) ?_;refine o1 ?_;refine nl ?_;refine jS rfl (fun h1=>?_) (fun h1=>?_)
 ·refine sk ?_;refine iC (congrArg (fun b=>FV.one (tv (.bool b))) h1) ?_
  refine sq ?_;refine rl ?_;refine o1 ?_;refine o1 ?_;refine nl ?_;refine rt ?_;have he:=nK (Qj h1)
  exact en (.inl rfl) rfl (eH (.cons (.one (.nil (t:=22) (z:=1))) (.cons (bQ _) .nil))) (by decide) (fun _=>⟨.inl ⟨rfl,trivial⟩,trivial,trivial⟩) (by rw[he,sO (by rw[he];decide)];rfl)
 refine sq ?_;have hp9:=Di h1
 refine rl ?_;refine o1 ?_;refine o1 ?_
 refine WL.cast (t:=12) (u':=.bool (!decide (l=[48]))) rfl (congrArg Value.bool (congrArg not (uO (l':=[48]) hl (Lim.cons (by omega) Lim.nil)))) ?_
 refine o1 ?_;refine WL.splitb (t:=13) rfl (fun h2=>?_) (fun h2=>?_)
 ·refine o1 ?_;refine o1 ?_ (hC:=(by rw[bL];show 0<l.length;omega))
  refine WL.cast (t:=15) (u':=.int .u8 (((nth l 0):Nat):Int)) rfl (congrArg (fun n:Nat=>Value.int .u8 (n:Int)) (jD (i:=0) (by omega) (jK hl (by omega)))) ?_
  (iterate 3 refine o1 ?_);refine nl ?_;refine bU rfl (fun h3=>?_) (fun h3=>?_)
  ·refine sk ?_;refine bU rfl (fun h4=>?_) (fun h4=>?_)
   ·refine sq ?_;refine rl ?_;refine o1 ?_;refine o1 ?_;refine nl ?_;refine rt ?_;have he:=nK (Hw (Qb h2) (by omega))
    exact en (.inl rfl) rfl (eH (.cons (.one (.nil (t:=22) (z:=1))) (.cons (bQ _) .nil))) (by decide) (fun _=>⟨.inl ⟨rfl,trivial⟩,trivial,trivial⟩) (by rw[he,sO (by rw[he];decide)];rfl)
   omega
  refine rl ?_;refine o1 ?_;refine ca (By hn) Wj ⟨a1 rfl,a1 rfl,rfl⟩ (.one (tv (.string ⟨(Lib.trimS (aW l).data.toList [48,49,50,51,52,53,54,55,56,57]).toArray⟩))) ?_
  refine o1 ?_;refine WL.cast (t:=20) (u':=.bool (!nF l)) rfl (congrArg Value.bool (congrArg not (Fm hl))) ?_;refine o1 ?_;refine nl ?_;refine jS rfl (fun h5=>?_) (fun h5=>?_)
  ·refine sq ?_;refine rl ?_;refine o1 ?_;refine o1 ?_;refine nl ?_;refine rt ?_;have he:=nK (uN (Qb h5))
   exact en (.inl rfl) rfl (eH (.cons (.one (.nil (t:=22) (z:=1))) (.cons (bQ _) .nil))) (by decide) (fun _=>⟨.inl ⟨rfl,trivial⟩,trivial,trivial⟩) (by rw[he,sO (by rw[he];decide)];rfl)
  refine sq ?_;have hg:=vX h1 (.inr (by omega)) (Ep h5)
  have hdg:=vZ hg
  refine rl ?_;refine o1 ?_;refine o1 ?_;refine WL.cast (t:=23) (u':=.int .i64 ((l.length:Nat):Int)) rfl (congrArg (fun n:Nat=>Value.int .i64 (n:Int)) (bL _)) ?_
  refine o1 ?_;refine o1 ?_;refine nl ?_;refine bU rfl (fun h6=>?_) (fun h6=>?_)
  ·refine sq ?_;refine rl ?_;refine o1 ?_;refine o1 ?_;refine nl ?_;refine rt ?_;have he:=Ms hg (by omega)
   exact en (.inl rfl) rfl (eH (.cons (.one (.nil (t:=22) (z:=1))) (.cons (bQ _) .nil))) (by decide) (fun _=>⟨.inl ⟨rfl,trivial⟩,trivial,trivial⟩) (by rw[he,sO (by rw[he];decide)];rfl)
  refine sk ?_;refine sq ?_;refine rl ?_;refine o1 ?_;refine nl ?_;refine sq ?_;refine sq ?_;refine rl ?_;refine o1 ?_;refine o1 ?_
  refine WL.cast (t:=26) (u':=.int .i64 ((l.length:Nat):Int)) rfl (congrArg (fun n:Nat=>Value.int .i64 (n:Int)) (bL _)) ?_
  refine o1 ?_;refine WL.cast (t:=27) (u':=.int .i64 ((l.length%9:Nat):Int)) rfl (aH (eK _ 9)) ?_;refine o1 ?_;refine nl ?_;refine bl ?_
  refine lp (γ:=Nat×Nat) (fun s=>cJ [(0,.one (tv (.string (aW (l.drop s.1))))),(4,.one (.sl 0 0 ((dg 4294967296 (bM (l.take s.1))).length))),(5,.one (tv (.int .i64 ((s.2:Nat):Int))))]) (fun s=>[(⟨22,1,(aM (dg 4294967296 (bM (l.take s.1)))).map .t⟩:Ob)].map some) (fun s=>s.1≤l.length∧(s.1=0∧s.2=l.length%9∨0<s.1∧s.2=9∧(l.length-s.1)%9=0)) (fun s=>l.length-s.1) (0,l.length%9) ⟨Nat.zero_le _,.inl ⟨rfl,rfl⟩⟩ ((nr (i:=4) 0 22 1 rfl rfl rfl rfl).trans (aJ h0 [0] _ _ (by decide) ⟨rfl,rfl,rfl,trivial⟩ ⟨cD (l:=[]) rfl,rfl⟩)) ?_
  rintro⟨j,f⟩ ⟨hj,hf⟩;dsimp only at hj hf⊢;refine sq ?_;refine sq ?_;refine rl ?_;refine o1 ?_;refine o1 ?_
  refine WL.cast (t:=29) (u':=.bool (!decide (l.drop j=[]))) rfl (congrArg Value.bool (congrArg not (lH (pU hl j)))) ?_;refine nl ?_
  refine jS rfl (fun h7=>?_) (fun h7=>?_)
  ·refine sk ?_;refine sq ?_;refine bl ?_;refine sq ?_;refine sq ?_;have hjl:=Fn h7
   refine rl ?_;refine o1 ?_;refine o1 ?_;refine nl ?_;refine bU rfl (fun h8=>?_) (fun h8=>?_)
   ·refine rl ?_;refine o1 ?_;refine nl ?_;refine sq ?_;refine rl ?_;refine o1 ?_;refine o1 ?_;refine o1 ?_ (hC:=(by rw[bL,List.length_drop];show 9≤l.length-j;omega))
    refine WL.cast (t:=35) (u':=.string (aW ((l.drop j).take 9))) rfl (congrArg Value.string ((oT _ 0 _).trans rfl)) ?_
    refine ca (vV (l:=((l.drop j).take 9)) (pZ hdg j 9) (by rw[List.length_take,List.length_drop];omega) (by rw[List.length_take];omega)) Gt ⟨a1 rfl,rfl⟩ (.tup [.one (tv (.int .i64 ((bM ((l.drop j).take 9):Nat):Int))),.one (tv .nilIface)]) ?_
    (iterate 5 refine o1 ?_);refine nl ?_;refine sq ?_;have hpl:=qA hdg (j:=j) (f:=9) (by omega) (by omega)
    have hpc:=nR (l:=l) (j:=j) (f:=9) (by omega) (by omega)
    have hl1:=kS hdg hj
    have hl2:=gV (bM (l.take j)) 1000000000
    have hl3:(dg 4294967296 1000000000).length≤1:=bC (by omega) (by decide)
    refine rl ?_;refine o1 ?_
    refine ca (wA (u:=bM (l.take j)) (m:=1000000000) (by omega) (by omega)) Gu ⟨lI rfl (.sl rfl rfl (mV _) (bK _)),a1 rfl,rfl⟩ (.one (.t (sU false (dg 4294967296 (bM (l.take j)*1000000000))))) ?_
    refine o1 ?_;refine o1 ?_;refine WL.cast (t:=42) (u':=.int .u32 ((bM ((l.drop j).take 9):Nat):Int)) rfl (aH (by omega)) ?_
    refine bs 1 ?_
    refine hH 2 (wB (u:=bM (l.take j)*1000000000) (x:=bM ((l.drop j).take 9)) (by omega) (by omega)) wY ⟨a1 rfl,lI rfl (.sl (trs:=aM [bM ((l.drop j).take 9)]) rfl rfl rfl rfl),rfl⟩ ?_
    refine o1 ?_;refine nl ?_;refine rl ?_;refine o1 ?_;refine o1 ?_;refine o1 ?_ (hC:=(by rw[bL,List.length_drop];show 9≤l.length-j;omega))
    refine WL.cast (t:=47) (u':=.string (aW ((l.drop j).drop 9))) rfl (congrArg Value.string (kR _ _)) ?_;refine o1 ?_;refine nl ?_;refine rl ?_;refine o1 ?_;refine nl ?_
    exact⟨(j+9,9),by dsimp only;omega,⟨by dsimp only;omega,.inr ⟨by dsimp only;omega,rfl,by dsimp only;omega⟩⟩,aJ h0 [2] _ _ (by decide) ⟨(congrArg (fun l:List Nat=>some (FV.one (tv (.string (aW l))))) (by rw[List.drop_drop])),(congrArg (fun z:Nat=>some (FV.one (.sl 2 0 (dg 4294967296 z).length))) hpc.symm),rfl,trivial⟩ ⟨cD (congrArg (fun z:Nat=>some (⟨22,1,(aM (dg 4294967296 z)).map .t⟩:Ob)) hpc),rfl⟩⟩
   refine sk ?_;refine sq ?_;refine rl ?_;refine o1 ?_;refine o1 ?_;refine o1 ?_ (hC:=(by rw[bL,List.length_drop];show f≤l.length-j;omega))
   refine WL.cast (t:=35) (u':=.string (aW ((l.drop j).take f))) rfl (congrArg Value.string ((oT _ 0 _).trans rfl)) ?_
   refine ca (vV (l:=((l.drop j).take f)) (pZ hdg j f) (by rw[List.length_take,List.length_drop];omega) (by rw[List.length_take];omega)) Gt ⟨a1 rfl,rfl⟩ (.tup [.one (tv (.int .i64 ((bM ((l.drop j).take f):Nat):Int))),.one (tv .nilIface)]) ?_
   (iterate 5 refine o1 ?_);refine nl ?_;refine sq ?_;have hpl:=qA hdg (j:=j) (f:=f) (by omega) (by omega)
   have hpc:=nR (l:=l) (j:=j) (f:=f) (by omega) (by omega)
   have hl1:=kS hdg hj
   have hl2:=gV (bM (l.take j)) 1000000000
   have hl3:(dg 4294967296 1000000000).length≤1:=bC (by omega) (by decide)
   refine rl ?_;refine o1 ?_
   refine ca (wA (u:=bM (l.take j)) (m:=1000000000) (by omega) (by omega)) Gu ⟨lI rfl (.sl rfl rfl (mV _) (bK _)),a1 rfl,rfl⟩ (.one (.t (sU false (dg 4294967296 (bM (l.take j)*1000000000))))) ?_
   refine o1 ?_;refine o1 ?_;refine WL.cast (t:=42) (u':=.int .u32 ((bM ((l.drop j).take f):Nat):Int)) rfl (aH (by omega)) ?_
   refine bs 1 ?_
   refine hH 2 (wB (u:=bM (l.take j)*1000000000) (x:=bM ((l.drop j).take f)) (by omega) (by omega)) wY ⟨a1 rfl,lI rfl (.sl (trs:=aM [bM ((l.drop j).take f)]) rfl rfl rfl rfl),rfl⟩ ?_
   refine o1 ?_;refine nl ?_;refine rl ?_;refine o1 ?_;refine o1 ?_;refine o1 ?_ (hC:=(by rw[bL,List.length_drop];show f≤l.length-j;omega))
   refine WL.cast (t:=47) (u':=.string (aW ((l.drop j).drop f))) rfl (congrArg Value.string (kR _ _)) ?_;refine o1 ?_;refine nl ?_;refine rl ?_;refine o1 ?_;refine nl ?_
   exact⟨(j+f,9),by dsimp only;omega,⟨by dsimp only;omega,.inr ⟨by dsimp only;omega,rfl,by dsimp only;omega⟩⟩,aJ h0 [2] _ _ (by decide) ⟨(congrArg (fun l:List Nat=>some (FV.one (tv (.string (aW l))))) (by rw[List.drop_drop])),(congrArg (fun z:Nat=>some (FV.one (.sl 2 0 (dg 4294967296 z).length))) hpc.symm),rfl,trivial⟩ ⟨cD (congrArg (fun z:Nat=>some (⟨22,1,(aM (dg 4294967296 z)).map .t⟩:Ob)) hpc),rfl⟩⟩
  refine ex ?_;refine sq ?_;refine rl ?_;(iterate 3 refine o1 ?_);refine nl ?_;refine rt ?_;have hjl:=Fo h7
  have he:=tE hg (by omega)
  exact en (.inl rfl) rfl (eH (.cons (.one (.sl (trs:=aM (dg 4294967296 (bM (l.take j)))) rfl rfl (bP _) (bK _))) (.cons (bQ _) .nil))) (by decide) (fun _=>⟨.inl ⟨rfl,eX _⟩,trivial,trivial⟩) (by rw[he,vY he,List.take_of_length_le hjl];rfl)
 (iterate 3 refine cW ?_);refine o1 ?_;refine o1 ?_;refine nl ?_;refine eR rfl ?_;refine rl ?_;refine o1 ?_
 refine ca (By hn) Wj ⟨a1 rfl,a1 rfl,rfl⟩ (.one (tv (.string ⟨(Lib.trimS (aW l).data.toList [48,49,50,51,52,53,54,55,56,57]).toArray⟩))) ?_;refine o1 ?_
 refine WL.cast (t:=20) (u':=.bool (!nF l)) rfl (congrArg Value.bool (congrArg not (Fm hl))) ?_;refine o1 ?_;refine nl ?_;refine jS rfl (fun h9=>?_) (fun h9=>?_)
 ·refine sq ?_;refine rl ?_;refine o1 ?_;refine o1 ?_;refine nl ?_;refine rt ?_;have he:=nK (uN (Qb h9))
  exact en (.inl rfl) rfl (eH (.cons (.one (.nil (t:=22) (z:=1))) (.cons (bQ _) .nil))) (by decide) (fun _=>⟨.inl ⟨rfl,trivial⟩,trivial,trivial⟩) (by rw[he,sO (by rw[he];decide)];rfl)
 refine sq ?_;have hg:=vX h1 (.inl (Ep h2)) (Ep h9)
 have hdg:=vZ hg
 refine rl ?_;refine o1 ?_;refine o1 ?_;refine WL.cast (t:=23) (u':=.int .i64 ((l.length:Nat):Int)) rfl (congrArg (fun n:Nat=>Value.int .i64 (n:Int)) (bL _)) ?_
 refine o1 ?_;refine o1 ?_;refine nl ?_;refine bU rfl (fun h10=>?_) (fun h10=>?_)
 ·refine sq ?_;refine rl ?_;refine o1 ?_;refine o1 ?_;refine nl ?_;refine rt ?_;have he:=Ms hg (by omega)
  exact en (.inl rfl) rfl (eH (.cons (.one (.nil (t:=22) (z:=1))) (.cons (bQ _) .nil))) (by decide) (fun _=>⟨.inl ⟨rfl,trivial⟩,trivial,trivial⟩) (by rw[he,sO (by rw[he];decide)];rfl)
 refine sk ?_;refine sq ?_;refine rl ?_;refine o1 ?_;refine nl ?_;refine sq ?_;refine sq ?_;refine rl ?_;refine o1 ?_;refine o1 ?_
 refine WL.cast (t:=26) (u':=.int .i64 ((l.length:Nat):Int)) rfl (congrArg (fun n:Nat=>Value.int .i64 (n:Int)) (bL _)) ?_
 refine o1 ?_;refine WL.cast (t:=27) (u':=.int .i64 ((l.length%9:Nat):Int)) rfl (aH (eK _ 9)) ?_;refine o1 ?_;refine nl ?_;refine bl ?_
 refine lp (γ:=Nat×Nat) (fun s=>cJ [(0,.one (tv (.string (aW (l.drop s.1))))),(4,.one (.sl 0 0 ((dg 4294967296 (bM (l.take s.1))).length))),(5,.one (tv (.int .i64 ((s.2:Nat):Int))))]) (fun s=>[(⟨22,1,(aM (dg 4294967296 (bM (l.take s.1)))).map .t⟩:Ob)].map some) (fun s=>s.1≤l.length∧(s.1=0∧s.2=l.length%9∨0<s.1∧s.2=9∧(l.length-s.1)%9=0)) (fun s=>l.length-s.1) (0,l.length%9) ⟨Nat.zero_le _,.inl ⟨rfl,rfl⟩⟩ ((nr (i:=4) 0 22 1 rfl rfl rfl rfl).trans (aJ h0 [0] _ _ (by decide) ⟨rfl,rfl,rfl,trivial⟩ ⟨cD (l:=[]) rfl,rfl⟩)) ?_
 rintro⟨j,f⟩ ⟨hj,hf⟩;dsimp only at hj hf⊢;refine sq ?_;refine sq ?_;refine rl ?_;refine o1 ?_;refine o1 ?_
 refine WL.cast (t:=29) (u':=.bool (!decide (l.drop j=[]))) rfl (congrArg Value.bool (congrArg not (lH (pU hl j)))) ?_;refine nl ?_
 refine jS rfl (fun h11=>?_) (fun h11=>?_)
 ·refine sk ?_;refine sq ?_;refine bl ?_;refine sq ?_;refine sq ?_;have hjl:=Fn h11
  refine rl ?_;refine o1 ?_;refine o1 ?_;refine nl ?_;refine bU rfl (fun h12=>?_) (fun h12=>?_)
  ·refine rl ?_;refine o1 ?_;refine nl ?_;refine sq ?_;refine rl ?_;refine o1 ?_;refine o1 ?_;refine o1 ?_ (hC:=(by rw[bL,List.length_drop];show 9≤l.length-j;omega))
   refine WL.cast (t:=35) (u':=.string (aW ((l.drop j).take 9))) rfl (congrArg Value.string ((oT _ 0 _).trans rfl)) ?_
   refine ca (vV (l:=((l.drop j).take 9)) (pZ hdg j 9) (by rw[List.length_take,List.length_drop];omega) (by rw[List.length_take];omega)) Gt ⟨a1 rfl,rfl⟩ (.tup [.one (tv (.int .i64 ((bM ((l.drop j).take 9):Nat):Int))),.one (tv .nilIface)]) ?_
   (iterate 5 refine o1 ?_);refine nl ?_;refine sq ?_;have hpl:=qA hdg (j:=j) (f:=9) (by omega) (by omega)
   have hpc:=nR (l:=l) (j:=j) (f:=9) (by omega) (by omega)
   have hl1:=kS hdg hj
   have hl2:=gV (bM (l.take j)) 1000000000
   have hl3:(dg 4294967296 1000000000).length≤1:=bC (by omega) (by decide)
   refine rl ?_;refine o1 ?_
   refine ca (wA (u:=bM (l.take j)) (m:=1000000000) (by omega) (by omega)) Gu ⟨lI rfl (.sl rfl rfl (mV _) (bK _)),a1 rfl,rfl⟩ (.one (.t (sU false (dg 4294967296 (bM (l.take j)*1000000000))))) ?_
   refine o1 ?_;refine o1 ?_;refine WL.cast (t:=42) (u':=.int .u32 ((bM ((l.drop j).take 9):Nat):Int)) rfl (aH (by omega)) ?_
   refine bs 1 ?_
   refine hH 2 (wB (u:=bM (l.take j)*1000000000) (x:=bM ((l.drop j).take 9)) (by omega) (by omega)) wY ⟨a1 rfl,lI rfl (.sl (trs:=aM [bM ((l.drop j).take 9)]) rfl rfl rfl rfl),rfl⟩ ?_
   refine o1 ?_;refine nl ?_;refine rl ?_;refine o1 ?_;refine o1 ?_;refine o1 ?_ (hC:=(by rw[bL,List.length_drop];show 9≤l.length-j;omega))
   refine WL.cast (t:=47) (u':=.string (aW ((l.drop j).drop 9))) rfl (congrArg Value.string (kR _ _)) ?_;refine o1 ?_;refine nl ?_;refine rl ?_;refine o1 ?_;refine nl ?_
   exact⟨(j+9,9),by dsimp only;omega,⟨by dsimp only;omega,.inr ⟨by dsimp only;omega,rfl,by dsimp only;omega⟩⟩,aJ h0 [2] _ _ (by decide) ⟨(congrArg (fun l:List Nat=>some (FV.one (tv (.string (aW l))))) (by rw[List.drop_drop])),(congrArg (fun z:Nat=>some (FV.one (.sl 2 0 (dg 4294967296 z).length))) hpc.symm),rfl,trivial⟩ ⟨cD (congrArg (fun z:Nat=>some (⟨22,1,(aM (dg 4294967296 z)).map .t⟩:Ob)) hpc),rfl⟩⟩
  refine sk ?_;refine sq ?_;refine rl ?_;refine o1 ?_;refine o1 ?_;refine o1 ?_ (hC:=(by rw[bL,List.length_drop];show f≤l.length-j;omega))
  refine WL.cast (t:=35) (u':=.string (aW ((l.drop j).take f))) rfl (congrArg Value.string ((oT _ 0 _).trans rfl)) ?_
  refine ca (vV (l:=((l.drop j).take f)) (pZ hdg j f) (by rw[List.length_take,List.length_drop];omega) (by rw[List.length_take];omega)) Gt ⟨a1 rfl,rfl⟩ (.tup [.one (tv (.int .i64 ((bM ((l.drop j).take f):Nat):Int))),.one (tv .nilIface)]) ?_
  (iterate 5 refine o1 ?_);refine nl ?_;refine sq ?_;have hpl:=qA hdg (j:=j) (f:=f) (by omega) (by omega)
  have hpc:=nR (l:=l) (j:=j) (f:=f) (by omega) (by omega)
  have hl1:=kS hdg hj
  have hl2:=gV (bM (l.take j)) 1000000000
  have hl3:(dg 4294967296 1000000000).length≤1:=bC (by omega) (by decide)
  refine rl ?_;refine o1 ?_
  refine ca (wA (u:=bM (l.take j)) (m:=1000000000) (by omega) (by omega)) Gu ⟨lI rfl (.sl rfl rfl (mV _) (bK _)),a1 rfl,rfl⟩ (.one (.t (sU false (dg 4294967296 (bM (l.take j)*1000000000))))) ?_
  refine o1 ?_;refine o1 ?_;refine WL.cast (t:=42) (u':=.int .u32 ((bM ((l.drop j).take f):Nat):Int)) rfl (aH (by omega)) ?_
  refine bs 1 ?_
  refine hH 2 (wB (u:=bM (l.take j)*1000000000) (x:=bM ((l.drop j).take f)) (by omega) (by omega)) wY ⟨a1 rfl,lI rfl (.sl (trs:=aM [bM ((l.drop j).take f)]) rfl rfl rfl rfl),rfl⟩ ?_
  refine o1 ?_;refine nl ?_;refine rl ?_;refine o1 ?_;refine o1 ?_;refine o1 ?_ (hC:=(by rw[bL,List.length_drop];show f≤l.length-j;omega))
  refine WL.cast (t:=47) (u':=.string (aW ((l.drop j).drop f))) rfl (congrArg Value.string (kR _ _)) ?_;refine o1 ?_;refine nl ?_;refine rl ?_;refine o1 ?_;refine nl ?_
  exact⟨(j+f,9),by dsimp only;omega,⟨by dsimp only;omega,.inr ⟨by dsimp only;omega,rfl,by dsimp only;omega⟩⟩,aJ h0 [2] _ _ (by decide) ⟨(congrArg (fun l:List Nat=>some (FV.one (tv (.string (aW l))))) (by rw[List.drop_drop])),(congrArg (fun z:Nat=>some (FV.one (.sl 2 0 (dg 4294967296 z).length))) hpc.symm),rfl,trivial⟩ ⟨cD (congrArg (fun z:Nat=>some (⟨22,1,(aM (dg 4294967296 z)).map .t⟩:Ob)) hpc),rfl⟩⟩
 refine ex ?_;refine sq ?_;refine rl ?_;(iterate 3 refine o1 ?_);refine nl ?_;refine rt ?_;have hjl:=Fo h11
 have he:=tE hg (by omega)
 exact en (.inl rfl) rfl (eH (.cons (.one (.sl (trs:=aM (dg 4294967296 (bM (l.take j)))) rfl rfl (bP _) (bK _))) (.cons (bQ _) .nil))) (by decide) (fun _=>⟨.inl ⟨rfl,eX _⟩,trivial,trivial⟩) (by rw[he,vY he,List.take_of_length_le hjl];rfl)
theorem CY:CallOk Tryz.prog 98:=.mk Tryz.func98 (by decide) rfl
theorem xJ {l R:List Nat}{c:Nat}(hl:Lim 256 l) (hR:l.dropWhile (· ==c)=R):aL true Tryz.prog 98 [] [.one (tv (.string (aW l))),.one (tv (.int .u8 ((c:Nat):Int)))] (aU (.one (tv (.string (aW R))))):=by
 refine cF Tryz.func98 rfl Tryz.ntmps98 rfl aA rfl fun N9 w9 c0 h0=>?_
 refine sq ?_;refine rl ?_;refine o1 ?_;refine nl ?_;refine sq ?_;refine bl ?_
 refine lp (γ:=List Nat) (fun l=>cJ [(0,.one (tv (.string (aW l)))),(1,.one (tv (.int .u8 ((c:Nat):Int))))]) (fun _=>([]:List Ob).map some) (fun l=>Lim 256 l∧l.dropWhile (· ==c)=R) (fun l=>l.length) l ⟨hl,hR⟩ (aJ h0 [] _ _ (by decide) ⟨rfl,rfl,trivial⟩ rfl) fun k hk=>?_
 refine sq ?_;refine sq ?_;refine rl ?_;refine o1 ?_;refine o1 ?_
 refine WL.cast (t:=6) (u':=.int .i64 ((k.length:Nat):Int)) rfl (congrArg (fun n:Nat=>Value.int .i64 (n:Int)) (bL _)) ?_
 refine o1 ?_;refine o1 ?_;refine WL.split (t:=8) rfl (fun h1=>?_) (fun h1=>?_)
 ·refine o1 ?_;refine o1 ?_ (hC:=(by rw[bL];show 0<k.length;omega))
  refine WL.cast (t:=10) (u':=.int .u8 (((nth k 0):Nat):Int)) rfl (congrArg (fun n:Nat=>Value.int .u8 (n:Int)) (jD (i:=0) (by omega) (jK (k:=0) hk.1 (by omega)))) ?_
  (iterate 3 refine o1 ?_);refine nl ?_;refine bU rfl (fun h2=>?_) (fun h2=>?_)
  ·refine sk ?_;refine bl ?_;refine rl ?_;refine o1 ?_;refine o1 ?_ (hC:=(by rw[bL];show 1≤k.length;omega))
   refine WL.cast (t:=15) (u':=.string (aW (k.drop 1))) rfl (congrArg Value.string (kR _ _)) ?_;refine o1 ?_;refine nl ?_
   exact⟨k.drop 1,by rw[List.length_drop];omega,⟨pU hk.1 1,(Ka (by omega) (by omega)).trans hk.2⟩,aJ h0 [] _ _ (by decide) ⟨rfl,rfl,trivial⟩ rfl⟩
  refine ex ?_;refine sq ?_;refine rl ?_;refine o1 ?_;refine o1 ?_;refine nl ?_;refine rt ?_
  exact en (.inl rfl) rfl (bZ (bQ _)) (by decide) (fun _=>trivial) (congrArg (fun z=>FV.one (tv (.string z))) (congrArg aW ((Hc (by omega) (by omega)).trans hk.2)))
 (iterate 4 refine cW ?_);refine o1 ?_;refine nl ?_;refine eR rfl ?_;refine ex ?_;refine sq ?_;refine rl ?_;refine o1 ?_;refine o1 ?_;refine nl ?_;refine rt ?_
 exact en (.inl rfl) rfl (bZ (bQ _)) (by decide) (fun _=>trivial) (congrArg (fun z=>FV.one (tv (.string z))) (congrArg aW ((Hb (by omega)).trans hk.2)))
theorem Hz {l:List Nat}(hl:Lim 256 l):aL true Tryz.prog 59 [] [.one (tv (.string (aW l))),.one (tv (.string ⟨#[48]⟩))] (aU (.one (tv (.string (aW (l.dropWhile (· ==48))))))):=by
 refine cF Tryz.func59 rfl Tryz.ntmps59 rfl aA rfl fun N9 w9 c0 h0=>?_
 refine sq ?_;refine rl ?_;refine o1 ?_;refine nl ?_;refine sq ?_;refine sq ?_;refine rl ?_;refine o1 ?_;refine o1 ?_
 refine WL.cast (t:=8) (u':=.bool (decide (l=[]))) rfl (congrArg Value.bool (lH hl)) ?_;refine o1 ?_;refine WL.splitb (t:=9) rfl (fun h1=>?_) (fun h1=>?_)
 ·refine cW ?_;refine cW ?_;refine o1 ?_;refine nl ?_;refine iC rfl ?_;refine sq ?_;refine rl ?_;refine o1 ?_;refine o1 ?_;refine nl ?_;refine rt ?_
  exact en (.inl rfl) rfl (bZ (bQ _)) (by decide) (fun _=>trivial) (congrArg (fun z=>FV.one (tv (.string z))) (congrArg aW (by rw[of_decide_eq_true h1];rfl)))
 refine o1 ?_;refine o1 ?_;refine WL.cast (t:=11) (u':=.bool false) rfl (congrArg Value.bool (lH (l:=[48]) (Lim.cons (by omega) Lim.nil))) ?_
 refine o1 ?_;refine nl ?_;refine eR rfl ?_;refine sk ?_;refine sq ?_;refine sq ?_;refine rl ?_;(iterate 3 refine o1 ?_)
 refine WL.cast (t:=16) (u':=.bool true) rfl (congrArg Value.bool rfl) ?_;refine o1 ?_;refine o1 ?_;refine o1 ?_ (hC:=(by decide))
 refine o1 ?_;refine WL.cast (t:=20) (u':=.bool true) rfl (congrArg Value.bool rfl) ?_;refine o1 ?_;refine nl ?_;refine iC rfl ?_;refine sq ?_;refine rl ?_;refine o1 ?_;refine o1 ?_
 refine o1 ?_ (hC:=(by decide))
 refine WL.cast (t:=24) (u':=.int .u8 ((48:Nat):Int)) rfl rfl ?_
 refine ca (xJ (c:=48) hl rfl) CY ⟨a1 rfl,a1 rfl,rfl⟩ (.one (tv (.string (aW (l.dropWhile (· ==48)))))) ?_;refine o1 ?_;refine nl ?_;refine rt ?_
 exact en (.inl rfl) rfl (bZ (bQ _)) (by decide) (fun _=>trivial) (congrArg (fun z=>FV.one (tv (.string z))) (rfl))
theorem Lz {t n:Nat}{xs:List Nat}(hn:xs.length=n) (hn2:n≤100000000):aL false Tryz.prog 58 [⟨t,1,(cY xs).map .t⟩] [.one (.sl 0 0 n)] (Rt [⟨t,1,(cY xs.reverse).map .t⟩] (.tup [])):=by
 subst hn;refine AU Tryz.func58 rfl Tryz.ntmps58 rfl aA rfl fun N9 M9 w9 c0 h0=>?_
 refine sq ?_;refine rl ?_;(iterate 5 refine o1 ?_);refine nl ?_;refine bl ?_
 refine lp (γ:=Nat) (fun k=>cJ [(0,.one (.sl 0 0 xs.length)),(2,.one (tv (.int .i64 ((k:Nat):Int)))),(3,.one (tv (.int .i64 ((xs.length:Int)-1-(k:Int):Int))))]) (fun k=>[(⟨t,1,(cY (fF xs k)).map .t⟩:Ob)].map some) (fun k=>2*k≤xs.length+1) (fun k=>xs.length-k) 0 (by omega) (Iw h0 [0] _ _ (by decide) rfl ⟨rfl,rfl,uJ (by omega),trivial⟩ ⟨cD (congrArg (fun l=>some (⟨t,1,(cY l).map .t⟩:Ob)) (AF xs)),rfl⟩) fun k hk=>?_
 have hrl:=iR xs k
 refine sq ?_;refine sq ?_;refine rl ?_;(iterate 3 refine o1 ?_);refine nl ?_;refine bU rfl (fun h1=>?_) (fun h1=>?_)
 ·refine sk ?_;refine sq ?_;refine bl ?_;refine rd [] (fun i=>[15].contains i) mixed ?_
  refine dv 0 ?_;refine dv 1 ?_;refine dv 2 ?_;refine dv 3 ?_;refine WD.cast (t:=17) (u':=.int .i64 (((xs.length-1-k):Nat):Int)) rfl (aH (by omega)) ?_
  refine dv 4 ?_;refine dv 5 ?_;refine WD.cast (t:=19) (u':=.int .i64 (((xs.length-1-k):Nat):Int)) rfl (aH (by omega)) ?_
  refine dv 6 ?_;refine dv 8 ?_;refine dv 9 ?_;refine dv 10 ?_;refine WO.two (i:=7) (j:=11) (by kernel_rfl) ?_ ?_
  ·refine Gz 7 (yV (fF xs k) (k:=(xs.length-1-k)) (by omega)) ?_
   refine WO.one (by kernel_rfl) (Gz 11 (yV (fF xs k) (k:=k) (by omega)) ?_)
   refine dv 12 ?_;refine Pz 13 (rH (fF xs k) (k:=k) (v:=nth (fF xs k) ((xs.length-1-k))) (by omega)) (vJ (fF xs k) (by omega)) ?_
   refine dv 14 ?_
   refine Ny 15 (rH ((fF xs k).set (k) (nth (fF xs k) ((xs.length-1-k)))) (k:=(xs.length-1-k)) (v:=nth (fF xs k) (k)) (by simp only[List.length_set];omega)) (vJ ((fF xs k).set (k) (nth (fF xs k) ((xs.length-1-k)))) (by simp only[List.length_set];omega)) ?_
   refine aP ?_;refine rl ?_;refine o1 ?_;refine o1 ?_;refine WL.cast (t:=11) (u':=.int .i64 ((k+1:Nat):Int)) rfl (aH (by omega)) ?_
   (iterate 4 refine o1 ?_);refine nl ?_
   exact⟨k+1,by omega,by omega,Iw h0 [0] _ _ (by decide) rfl ⟨rfl,rfl,uJ (by omega),trivial⟩ ⟨cD (congrArg (fun l=>some (⟨t,1,(cY l).map .t⟩:Ob)) (Qc (by omega))),rfl⟩⟩
  refine Gz 11 (yV (fF xs k) (k:=k) (by omega)) ?_
  refine WO.one (by kernel_rfl) (Gz 7 (yV (fF xs k) (k:=(xs.length-1-k)) (by omega)) ?_)
  refine dv 12 ?_;refine Pz 13 (rH (fF xs k) (k:=k) (v:=nth (fF xs k) ((xs.length-1-k))) (by omega)) (vJ (fF xs k) (by omega)) ?_
  refine dv 14 ?_
  refine Ny 15 (rH ((fF xs k).set (k) (nth (fF xs k) ((xs.length-1-k)))) (k:=(xs.length-1-k)) (v:=nth (fF xs k) (k)) (by simp only[List.length_set];omega)) (vJ ((fF xs k).set (k) (nth (fF xs k) ((xs.length-1-k)))) (by simp only[List.length_set];omega)) ?_
  refine aP ?_;refine rl ?_;refine o1 ?_;refine o1 ?_;refine WL.cast (t:=11) (u':=.int .i64 ((k+1:Nat):Int)) rfl (aH (by omega)) ?_
  (iterate 4 refine o1 ?_);refine nl ?_
  exact⟨k+1,by omega,by omega,Iw h0 [0] _ _ (by decide) rfl ⟨rfl,rfl,uJ (by omega),trivial⟩ ⟨cD (congrArg (fun l=>some (⟨t,1,(cY l).map .t⟩:Ob)) (Qc (by omega))),rfl⟩⟩
 refine ex ?_
 exact AW (lent':=[⟨t,1,(cY xs.reverse).map .t⟩]) (.inr rfl) rfl AX (by decide) (fun _ h=>by cases h) ⟨⟨rfl,rfl⟩,trivial⟩ ⟨congrArg (fun l=>some (⟨t,1,(cY l).map .t⟩:Ob)) (Rw (by omega)),trivial⟩ ⟨zP _,trivial⟩ (fun h=>by cases h) ⟨rfl,rfl⟩
theorem Qk {xs:List Nat}{v:Nat}(hx:xs.length≤1000000) (hl:Lim 4294967296 xs) (hv0:vl 4294967296 xs=v):aL true Tryz.prog 14 [] [.one (.t (sU false xs))] (aU (.one (tv (.string (aW (tx v)))))):=by
 refine cF Tryz.func14 rfl Tryz.ntmps14 rfl aA rfl fun N9 w9 c0 h0=>?_
 have hvL:v<4294967296^xs.length:=hv0▸dS hl
 have hvl:=bC (k:=xs.length) (by omega) hvL
 refine sq ?_;refine rl ?_;refine o1 ?_;refine nl ?_;refine sq ?_;refine rl ?_;refine DS 0 ?_;refine nl ?_;refine sq ?_;refine rl ?_;refine o1 ?_;refine nl ?_;refine sq ?_;refine sq ?_
 refine rl ?_;refine o1 ?_;refine ca (Te hl (by omega) hv0) CN ⟨a1 rfl,rfl⟩ (.one (.t (sU false (dg 4294967296 v)))) ?_
 refine o1 ?_;refine nl ?_;refine bl ?_
 refine lp (γ:=(List Nat×List Nat)×Nat) (fun s=>cJ [(0,.one (.t (sU false (dg 4294967296 s.2)))),(3,.one (.pt 0 0)),(4,.one (.sl 1 0 s.1.1.length))]) (fun s=>[(⟨87,1,(cY s.1.2).map .t⟩:Ob),⟨5,1,(cY (cX s.1.1)).map .t⟩].map some) (fun s=>s.1.2.length=9∧Lim 10 s.1.1∧vl 10 s.1.1+10^s.1.1.length*s.2=v∧s.2≤v∧s.1.1.length≤10*xs.length+9) (fun s=>s.2) (([],List.replicate 9 0),v) ⟨rfl,Lim.nil,(by simp[vl]),Nat.le_refl _,Nat.zero_le _⟩ ((nr (i:=4) 1 5 1 rfl rfl rfl rfl).trans (aJ h0 [0,1] _ _ (by decide) ⟨rfl,rfl,rfl,trivial⟩ ⟨cD rfl,cD (l:=[]) rfl,rfl⟩)) ?_
 rintro⟨⟨ds,rG⟩,u⟩ ⟨ho,hd,hv,hu,hdl⟩;dsimp only at ho hd hv hu hdl⊢;have hul:=iE hu
 refine sq ?_;refine sq ?_;refine rl ?_;(iterate 3 refine o1 ?_);refine nl ?_;refine bU rfl (fun h1=>?_) (fun h1=>?_)
 ·refine sk ?_;refine bl ?_;refine sq ?_;have hup:=uL (B:=4294967296) (u:=u) (by omega)
  refine rl ?_;refine o1 ?_
  refine ca (Ya (u:=u) (d:=1000000000) (by omega) (by omega) (by omega)) CO ⟨a1 rfl,a1 rfl,rfl⟩ (.tup [.one (.t (sU false (dg 4294967296 (u/1000000000)))),.one (tv (.int .u32 ((u%1000000000:Nat):Int))),.one (tv (.int .i64 0))]) ?_
  (iterate 7 refine o1 ?_);refine nl ?_;refine sq ?_;refine sq ?_;refine rl ?_;refine o1 ?_;refine nl ?_;refine bl ?_
  refine lp (γ:=Nat) (fun i=>cJ [(3,.one (.pt 0 0)),(4,.one (.sl 1 0 ds.length)),(5,.one (.t (sU false (dg 4294967296 (u/1000000000))))),(6,.one (tv (.int .u32 ((u%1000000000/10^i:Nat):Int)))),(21,.one (tv (.int .i64 ((i:Nat):Int))))]) (fun i=>[(⟨87,1,(cY (cX (fd (i) (u%1000000000))++rG.drop (i))).map .t⟩:Ob),⟨5,1,(cY (cX ds)).map .t⟩].map some) (fun i=>i≤9) (fun i=>9-i) 0 (Nat.zero_le _) (aJ h0 [0,1] _ _ (by decide) ⟨rfl,rfl,rfl,uJ (by rw[Nat.pow_zero,Nat.div_one]),rfl,trivial⟩ ⟨cD rfl,cD rfl,rfl⟩) fun i hi=>?_
  have hlen:(cX (fd (i) (u%1000000000))++rG.drop (i)).length=9:=by rw[List.length_append,eV,lP,List.length_drop];omega
  have hdi:u%1000000000/10^i≤u%1000000000:=Nat.div_le_self _ _
  refine sq ?_;refine rl ?_;refine o1 ?_;refine nl ?_;refine sq ?_;refine bU rfl (fun h2=>?_) (fun h2=>?_)
  ·refine sk ?_;refine sq ?_;refine bl ?_;refine sq ?_;refine rl ?_;refine o1 ?_;refine o1 ?_;refine nl ?_;refine sq ?_;refine rl ?_;(iterate 3 refine o1 ?_)
   refine WL.cast (t:=26) (u':=.int .u32 (((u%1000000000/10^i%10):Nat):Int)) rfl (aH (eK _ 10)) ?_;refine o1 ?_
   refine WL.cast (t:=27) (u':=.int .u8 (((u%1000000000/10^i%10):Nat):Int)) rfl (aH (by omega)) ?_
   refine o1 ?_;refine WL.cast (t:=28) (u':=.int .u8 (((48+u%1000000000/10^i%10):Nat):Int)) rfl (aH (by omega)) ?_
   refine o1 ?_
   refine uI (rH (cX (fd (i) (u%1000000000))++rG.drop (i)) (k:=i) (v:=48+u%1000000000/10^i%10) (by omega)) (vJ (cX (fd (i) (u%1000000000))++rG.drop (i)) (by omega)) ?_
   refine nl ?_;refine rl ?_;refine o1 ?_;refine o1 ?_ (hC:=(eA 10 (by omega) (AI (Nat.lt_of_le_of_lt hdi (by omega)))))
   refine WL.cast (t:=31) (u':=.int .u32 (((u%1000000000/10^i/10):Nat):Int)) rfl (aH (dM _ 10)) ?_;refine o1 ?_;refine nl ?_;refine rl ?_;refine o1 ?_
   refine WL.cast (t:=32) (u':=.int .i64 ((i+1:Nat):Int)) rfl (aH (by omega)) ?_
   refine o1 ?_;refine nl ?_
   exact⟨i+1,by omega,by omega,aJ h0 [0,1] _ _ (by decide) ⟨rfl,rfl,rfl,uJ (by rw[Nat.pow_succ,Nat.div_div_eq_div_mul]),rfl,trivial⟩ ⟨cD (congrArg (fun l=>some (⟨87,1,(cY l).map .t⟩:Ob)) (Xc (by omega) ho)),cD rfl,rfl⟩⟩
  refine ex ?_;have hi9:i=9:=by omega
  subst hi9;have he9:(cX (fd (9) (u%1000000000))++rG.drop (9))=cX (fd 9 (u%1000000000)):=by rw[List.drop_of_length_le (by omega),List.append_nil]
  refine sq ?_;refine rl ?_;refine o1 ?_
  refine AC (m:=9) (by_:=1) 2 (DstA.sl (k:=1) (n:=ds.length) (e:=5) (z:=1) rfl (by rw[Ha,eV])) (Qa _) (Rs _) (by rw[Ha,hlen]) (by omega) (by omega) ?_
  refine o1 ?_;refine nl ?_;refine rl ?_;refine o1 ?_;refine o1 ?_;refine nl ?_
  exact⟨((ds++fd 9 (u%1000000000),cX (fd 9 (u%1000000000))),u/1000000000),by dsimp only;omega,⟨by dsimp only;rw[eV,lP],hd.append (Xb _ _),AH hv,by dsimp only;omega,by dsimp only;rw[List.length_append,lP];have:=Rx hv hup hvL;omega⟩,aJ h0 [0,2] _ _ (by decide) ⟨rfl,rfl,congrArg (fun n=>some (FV.one (.sl 2 0 n))) (show(ds++fd 9 (u%1000000000)).length=ds.length+9 by rw[List.length_append,lP]),trivial⟩ ⟨cD (congrArg (fun l=>some (⟨87,1,(cY l).map .t⟩:Ob)) he9),cD (congrArg (fun l=>some (⟨5,1,l⟩:Ob)) ((Wz _ _).trans (congrArg (fun l:List Nat=>(cY l).map AV.t) (show cX ds++(cX (fd (9) (u%1000000000))++rG.drop (9))=cX (ds++fd 9 (u%1000000000)) by rw[he9,Er])))),rfl⟩⟩
 refine ex ?_;refine sq ?_;have hu0:u=0:=(dH (B:=4294967296) (by omega)).1 (List.eq_nil_of_length_eq_zero (by omega))
 subst hu0;rw[Nat.mul_zero,Nat.add_zero]at hv;refine rl ?_;refine o1 ?_
 refine cl 2 [1] (Lz (t:=5) (xs:=cX ds) (n:=ds.length) (eV ds) (by omega)) CP ⟨cD rfl,rfl⟩ ⟨rfl,rfl⟩ (ok:=[some ⟨5,1,(cY (cX ds).reverse).map .t⟩]) ⟨cD rfl,rfl⟩ ?_
 refine nl ?_;refine sq ?_;refine sq ?_;refine rl ?_;refine o1 ?_
 refine AT (xs:=(cX ds).reverse) (Io rfl (by rw[List.length_reverse,eV])) (by rw[List.length_reverse,eV]) ?_
 refine ca (Hz (rT (rU hd))) CQ ⟨a1 rfl,a1 rfl,rfl⟩ (.one (tv (.string (aW ((cX ds).reverse.dropWhile (· ==48)))))) ?_;refine o1 ?_;refine nl ?_;refine sq ?_
 refine rl ?_;refine o1 ?_;refine o1 ?_
 refine WL.cast (t:=43) (u':=.bool (!decide (((cX ds).reverse.dropWhile (· ==48))=[]))) rfl (congrArg Value.bool (congrArg not (lH (Xd (rT (rU hd)))))) ?_;refine nl ?_
 refine jS rfl (fun h3=>?_) (fun h3=>?_)
 ·refine sq ?_;refine rl ?_;refine o1 ?_;refine o1 ?_;refine nl ?_;refine rt ?_
  exact en (.inl rfl) rfl (bZ (bQ _)) (by decide) (fun _=>trivial) (congrArg (fun z=>FV.one (tv (.string z))) (congrArg aW (Ry hd hv h3)))
 refine sk ?_;refine sq ?_;refine rl ?_;refine o1 ?_;refine nl ?_;refine rt ?_
 exact en (.inl rfl) rfl (bZ (bQ _)) (by decide) (fun _=>trivial) (congrArg (fun z=>FV.one (tv (.string z))) (congrArg aW (Xe hd hv h3)))
theorem AQ:CallOk Tryz.prog 145:=.mk Tryz.func145 (by decide) rfl
theorem AS:CallOk Tryz.prog 118:=.mk Tryz.func118 (by decide) rfl
theorem Ma {B:Nat}{l:List Nat}(h:Lim B l) (k:Nat):Lim B (l.take k):=fun x hx=>h x (List.mem_of_mem_take hx)
theorem Yc {l:List Nat}(h:Lim 256 l):((aW (l.take 1)).toList==(⟨#[45]⟩:ByteArray).toList)=decide (l.take 1=[45]):=uO (l':=[45]) (Ma h 1) (Lim.cons (by omega) Lim.nil)
theorem Yd {l:List Nat}(h:¬1≤l.length):false=decide (l.take 1=[45]):=by
 rw[List.eq_nil_of_length_eq_zero (show l.length=0 by omega)];rfl
theorem Cy {l:List Nat}(hl:Lim 256 l):aL true Tryz.prog 145 [] [.one (tv (.string (aW l))),.one (tv (.string ⟨#[45]⟩))] (aU (.one (tv (.bool (decide (l.take 1=[45])))))):=by
 refine cF Tryz.func145 rfl Tryz.ntmps145 rfl aA rfl fun N9 w9 c0 h0=>?_
 refine sq ?_;refine rl ?_;refine o1 ?_;refine nl ?_;refine sq ?_;refine rl ?_;refine o1 ?_;refine o1 ?_
 refine WL.cast (t:=6) (u':=.int .i64 ((l.length:Nat):Int)) rfl (congrArg (fun n:Nat=>Value.int .i64 (n:Int)) (bL _)) ?_
 refine o1 ?_;refine o1 ?_;refine WL.cast (t:=8) (u':=.int .i64 ((1:Nat):Int)) rfl rfl ?_;refine o1 ?_;refine o1 ?_;refine WL.split (t:=10) rfl (fun h1=>?_) (fun h1=>?_)
 ·(iterate 3 refine o1 ?_);refine WL.cast (t:=13) (u':=.int .i64 ((1:Nat):Int)) rfl rfl ?_;refine o1 ?_ (hC:=(by rw[bL];show 1≤l.length;omega))
  refine WL.cast (t:=14) (u':=.string (aW (l.take 1))) rfl (congrArg Value.string ((oT l 0 1).trans rfl)) ?_;refine o1 ?_;refine o1 ?_
  refine WL.cast (t:=16) (u':=.bool (decide (l.take 1=[45]))) rfl (congrArg Value.bool (Yc hl)) ?_;refine o1 ?_;refine o1 ?_;refine nl ?_;refine rt ?_;exact fS (.inl rfl) rfl (rfl)
 (iterate 6 refine cW ?_);refine o1 ?_;refine o1 ?_;refine nl ?_;refine rt ?_;exact fS (.inl rfl) rfl (Yd (by omega))
theorem Dh {l:List Nat}(h:l.take 1=[45]):1≤l.length:=by
 have:=congrArg List.length h
 rw[List.length_take]at this
 simp at this
 omega
theorem Cz {l:List Nat}(hl:Lim 256 l):aL true Tryz.prog 118 [] [.one (tv (.string (aW l))),.one (tv (.string ⟨#[45]⟩))] (aU (.tup [.one (tv (.string (aW (if l.take 1=[45]then l.drop 1 else l)))),.one (tv (.bool (decide (l.take 1=[45]))))])):=by
 refine cF Tryz.func118 rfl Tryz.ntmps118 rfl aA rfl fun N9 w9 c0 h0=>?_
 refine sq ?_;refine rl ?_;refine o1 ?_;refine o1 ?_;refine nl ?_;refine sq ?_;refine sq ?_;refine rl ?_;refine o1 ?_;refine o1 ?_
 refine ca (Cy hl) AQ ⟨a1 rfl,a1 rfl,rfl⟩ (.one (tv (.bool (decide (l.take 1=[45]))))) ?_;refine WL.splitb (t:=8) rfl (fun h1=>?_) (fun h1=>?_)
 ·refine o1 ?_;refine nl ?_;refine eR rfl ?_;refine sk ?_;refine sq ?_;have h9:=of_decide_eq_true h1
  refine rl ?_;(iterate 3 refine o1 ?_);refine WL.cast (t:=13) (u':=.int .i64 ((1:Nat):Int)) rfl rfl ?_;refine o1 ?_ (hC:=(by rw[bL];show 1≤l.length;exact Dh h9))
  refine WL.cast (t:=14) (u':=.string (aW (l.drop 1))) rfl (congrArg Value.string (kR _ _)) ?_;refine o1 ?_;refine o1 ?_;refine nl ?_;refine rt ?_
  exact en (.inl rfl) rfl (eH (.cons (bQ _) (.cons (bQ _) .nil))) (by decide) (fun _=>⟨trivial,trivial,trivial⟩) (by rw[if_pos (of_decide_eq_true h1),h1];rfl)
 refine o1 ?_;refine nl ?_;refine iC rfl ?_;refine sq ?_;refine rl ?_;(iterate 3 refine o1 ?_);refine nl ?_;refine rt ?_
 exact en (.inl rfl) rfl (eH (.cons (bQ _) (.cons (bQ _) .nil))) (by decide) (fun _=>⟨trivial,trivial,trivial⟩) (by rw[if_neg (of_decide_eq_false h1),h1];rfl)
theorem Da {l:List Nat}(hl:Lim 256 l):aL true Tryz.prog 68 [] [.one (tv (.string (aW l))),.one (tv (.string ⟨#[45]⟩))] (aU (.tup [.one (tv (.string (aW (if l.take 1=[45]then l.drop 1 else l)))),.one (tv (.bool (decide (l.take 1=[45]))))])):=by
 refine cF Tryz.func68 rfl Tryz.ntmps68 rfl aA rfl fun N9 w9 c0 h0=>?_
 refine sq ?_;refine rl ?_;refine o1 ?_;refine o1 ?_;refine nl ?_;refine sq ?_;refine rl ?_;refine o1 ?_;refine o1 ?_
 refine ca (Cz hl) AS ⟨a1 rfl,a1 rfl,rfl⟩ (.tup [.one (tv (.string (aW (if l.take 1=[45]then l.drop 1 else l)))),.one (tv (.bool (decide (l.take 1=[45]))))]) ?_
 (iterate 4 refine o1 ?_);refine nl ?_;refine rt ?_;exact en (.inl rfl) rfl (eH (.cons (bQ _) (.cons (bQ _) .nil))) (by decide) (fun _=>⟨trivial,trivial,trivial⟩) rfl
theorem Mb {k:Int}{f:FuncId}{args:List FV}(h:∀(N:Nat→Prop) (w:World) us,cM w N [] args us→(∀b,N b→b<w.heap.size)→Calls Tryz.prog f us.toArray w (Xn k w)):aL true Tryz.prog f [] args (aU (kO k)):=by
 intro N w cs us hL
 obtain⟨rfl,hf⟩:=mS hL
 refine(h _ w us hf (fun b hb=>hb.1)).mono ?_
 rintro e W ⟨A,n,c,rfl,ho,hb⟩
 obtain⟨y1,a1,a2,a3,a4⟩:=lJ (N:=fun b=>true=false∧(b<W.heap.size∧b∉VT.fpL [])∧(N b∨w.heap.size≤b)) ho
 refine .mk0 (y:=[.w (.bool (aC k)),y1]) rfl hb (by simp only[VT.okL,VT.ok];exact⟨trivial,a3,trivial⟩) ?_ (fun b hb'=>?_) ?_
 ·simp only[VT.fpL,VT.fp,a4,List.nil_append,List.append_nil]
  exact mT A n c
 ·simp only[VT.fpL,VT.fp,a4,List.nil_append,List.append_nil]at hb'
  exact ho.blk b hb'
 refine⟨by simp only[List.map_cons,List.map_nil,a1];rfl,?_⟩
 simp only[List.map_cons,List.map_nil,bB,CR,sU]
 exact⟨by simp[OR],fI (fun _ _=>rfl) (fun b hb=>absurd hb.1 (by simp)) _ _ a2,trivial⟩
theorem cR {n:Int}(h1:-9223372036854775808≤n) (h2:n≤9223372036854775807):aL true Tryz.prog 27 [] [.one (tv (.int .i64 n))] (aU (kO n)):=Mb fun N w us hf hN=>by
 obtain⟨u,rfl,h3⟩:=Hp hf
 obtain rfl:=aO (iO h3)
 exact Xo n w h1 h2
theorem qP {k:Int}(h:aC k=true):k<0:=of_decide_eq_true h
theorem oI {k:Int}(h:aC k=false):¬k<0:=of_decide_eq_false h
theorem Ye {v:Nat}(h:(dg 4294967296 v).length≤1000000):(tx v).length≤10000001:=by
 unfold tx
 split
 ·simp
 rw[List.length_reverse,eV]
 have h1:=iM (B:=4294967296) (n:=v) (by omega)
 have h2:v<10^(10*(dg 4294967296 v).length):=Nat.lt_of_lt_of_le h1 (by rw[Nat.pow_mul];exact Nat.pow_le_pow_left (by omega) _)
 have:=bC (B:=10) (by omega) h2
 omega
theorem pD {a:Zi}{k:Int}(ha:Zn a k) (hs:(dg 4294967296 k.natAbs).length≤1000000):aL true Tryz.prog 29 [] [gF a] (aU (.one (tv (.string (aW (fN k)))))):=by
 refine cF Tryz.func29 rfl Tryz.ntmps29 rfl aA rfl fun N9 w9 c0 h0=>?_
 refine sq ?_;refine rl ?_;refine bx 0 ?_;refine o1 ?_;refine nl ?_;refine sq ?_;refine rl ?_;refine ld ?_;refine ca (cB (ha).g) cC ⟨aB rfl,rfl⟩ (kF (k)) ?_;refine al 1 ?_;refine st ?_
 refine nl ?_;refine sq ?_;refine sq ?_;refine rl ?_;refine o1 ?_;refine o1 ?_;refine ld ?_;refine nl ?_;refine jS rfl (fun h1=>?_) (fun h1=>?_)
 ·refine sq ?_;refine rl ?_;refine o1 ?_;refine o1 ?_;refine ld ?_
  refine ca (Qk (xs:=dg 4294967296 k.natAbs) (v:=k.natAbs) hs (aF (by omega) _) (aZ (by omega) _)) Wi ⟨a1 rfl,rfl⟩ (.one (tv (.string (aW (tx k.natAbs))))) ?_
  refine o1 ?_ (hC:=(by rw[bL];have:=Ye hs;show 1+(tx k.natAbs).length≤_;omega))
  refine WL.cast (t:=13) (u':=.string (aW (45::tx k.natAbs))) rfl (congrArg Value.string (uM [45] _)) ?_;refine o1 ?_;refine nl ?_;refine rt ?_
  exact en (.inl rfl) rfl (bZ (bQ _)) (by decide) (fun _=>trivial) (congrArg (fun z=>FV.one (tv (.string z))) (congrArg aW (by unfold fN;rw[if_pos (qP h1)])))
 refine sk ?_;refine sq ?_;refine rl ?_;refine o1 ?_;refine o1 ?_;refine ld ?_
 refine ca (Qk (xs:=dg 4294967296 k.natAbs) (v:=k.natAbs) hs (aF (by omega) _) (aZ (by omega) _)) Wi ⟨a1 rfl,rfl⟩ (.one (tv (.string (aW (tx k.natAbs))))) ?_
 refine o1 ?_;refine nl ?_;refine rt ?_
 exact en (.inl rfl) rfl (bZ (bQ _)) (by decide) (fun _=>trivial) (congrArg (fun z=>FV.one (tv (.string z))) (congrArg aW (by unfold fN;rw[if_neg (oI h1)])))
theorem Re {a:Zi}{k:Int}(ha:Zn a k) (hs:2<(dg 4294967296 k.natAbs).length):aL true Tryz.prog 24 [] [gF a] (aU (.tup [.one (tv (.int .i64 0)),.one (tv (.bool false))])):=by
 refine cF Tryz.func24 rfl Tryz.ntmps24 rfl aA rfl fun N9 w9 c0 h0=>?_
 refine sq ?_;refine rl ?_;refine bx 0 ?_;refine o1 ?_;refine o1 ?_;refine nl ?_;refine sq ?_;refine rl ?_;refine ld ?_;refine ca (cB (ha).g) cC ⟨aB rfl,rfl⟩ (kF (k)) ?_;refine al 1 ?_
 refine st ?_;refine nl ?_;refine sq ?_;refine sq ?_;refine rl ?_;refine o1 ?_;refine o1 ?_;refine ld ?_;refine o1 ?_;refine o1 ?_;refine nl ?_;refine bU rfl (fun h1=>?_) (fun h1=>?_)
 ·refine sq ?_;refine rl ?_;refine o1 ?_;refine o1 ?_;refine nl ?_;refine rt ?_
  exact en (.inl rfl) rfl (eH (.cons (bQ _) (.cons (bQ _) .nil))) (by decide) (fun _=>⟨trivial,trivial,trivial⟩) rfl
 exact absurd h1 (by omega)
theorem Fz {zs:List Zi}(hz:∀a∈zs,ZL 30 a) (hl:zs.length≤10):aL false Tryz.prog 92 [] [.one (.t (sZ 44 zs))] (aU (kF (dI zs))):=by
 refine cF Tryz.func92 rfl Tryz.ntmps92 rfl aA rfl fun N9 w9 c0 h0=>?_
 refine sq ?_;refine rl ?_;refine al 0 ?_;refine nl ?_;refine sq ?_;refine sq ?_;refine rl ?_;(iterate 3 refine o1 ?_);refine nl ?_;refine bl ?_
 refine WP.sub (Vp (j:=0) (p:=1) (e:=22) (z':=1) rfl rfl rfl) ?_
 refine lp (γ:=Nat) (fun k=>cJ [(2,.one (.pt 0 0)),(5,.one (.t (sZ 44 zs))),(6,.one (tv (.int .i64 ((zs.length:Nat):Int)))),(7,.one (tv (.int .i64 ((k:Nat):Int))))]) (fun k=>[(⟨44,0,[tv (.bool (aC (dI (zs.take (k))))),.t (sU false (dg 4294967296 (dI (zs.take (k))).natAbs))]⟩:Ob)].map some) (fun k=>k≤zs.length∧True) (fun k=>zs.length-k) 0 ⟨Nat.zero_le _,trivial⟩ (aJ h0 [0] _ _ (by decide) ⟨rfl,rfl,rfl,rfl,trivial⟩ ⟨oe rfl rfl,rfl⟩) fun k hk=>?_
 refine sq ?_;refine rl ?_;refine o1 ?_;refine nl ?_;refine sq ?_;refine bU rfl (fun h1=>?_) (fun h1=>?_)
 ·refine sk ?_;refine sq ?_;refine bl ?_;refine sq ?_;refine rl ?_;refine o1 ?_
  refine iT ((dU false) (dE zs (k))) (gS (f:=(dU false)) (z:=2) (o:=0) (fY false) (eB (by omega)) (Nat.le_of_ble_eq_true rfl) rfl) ?_
  refine al 1 ?_;refine st ?_;refine nl ?_;refine rl ?_;refine ld ?_;refine ld ?_
  refine ca (yR ((Zn.of (k:=dI (zs.take (k))) (by have:=tI (k:=k) hz hl;omega))).g ((Lu hz (k:=k) (by omega))).g) kU ⟨aB rfl,aB rfl,rfl⟩ (kF (dI (zs.take (k))+(zv (dE zs (k))))) ?_
  refine st ?_;refine nl ?_;refine rl ?_;refine o1 ?_;refine WL.cast (t:=14) (u':=.int .i64 ((k+1:Nat):Int)) rfl (aH (by omega)) ?_
  refine o1 ?_;refine nl ?_
  exact⟨k+1,by omega,⟨by omega,trivial⟩,aJ h0 [0] _ _ (by decide) ⟨rfl,rfl,rfl,rfl,trivial⟩ ⟨oe rfl (congrArg (fun z:Int=>some (⟨44,0,[tv (.bool (aC z)),.t (sU false (dg 4294967296 z.natAbs))]⟩:Ob)) (Lw (by omega))),rfl⟩⟩
 refine ex ?_;refine sq ?_;refine rl ?_;refine ld ?_;refine st ?_;refine nl ?_;refine rt ?_;have hk9:k=zs.length:=by omega
 exact en (.inl rfl) rfl (bZ (.agg (.cons (.id rfl) (.cons (.id rfl) .nil)))) (by decide) (fun h=>by cases h) (by rw[hk9,jH (Nat.le_refl _)];rfl)
theorem Vc {zs:List Zi}(hz:∀a∈zs,ZL 30 a) (hl:zs.length≤10):aL false Tryz.prog 93 [] [.one (.t (sZ 47 zs))] (aU (kF (dI zs))):=by
 refine cF Tryz.func93 rfl Tryz.ntmps93 rfl aA rfl fun N9 w9 c0 h0=>?_
 refine sq ?_;refine rl ?_;refine al 0 ?_;refine nl ?_;refine sq ?_;refine rl ?_;refine al 1 ?_;refine nl ?_;refine sq ?_;refine sq ?_;refine rl ?_;refine o1 ?_;refine nl ?_;refine bl ?_
 refine WP.sub (Vp (j:=1) (p:=1) (e:=22) (z':=1) rfl rfl rfl) ?_
 refine lp (γ:=Nat) (fun k=>cJ [(0,.one (.t (sZ 47 zs))),(2,.one (.pt 0 0)),(3,.one (.pt 1 0)),(4,.one (tv (.int .i64 ((k:Nat):Int))))]) (fun k=>[(⟨47,0,[tv (.bool false),tv (.slice none 0 0)]⟩:Ob),⟨47,0,[tv (.bool (aC (dI (zs.take (k))))),.t (sU false (dg 4294967296 (dI (zs.take (k))).natAbs))]⟩].map some) (fun k=>k≤zs.length∧True) (fun k=>zs.length-k) 0 ⟨Nat.zero_le _,trivial⟩ (aJ h0 [0,1] _ _ (by decide) ⟨rfl,rfl,rfl,rfl,trivial⟩ ⟨oe rfl rfl,oe rfl rfl,rfl⟩) fun k hk=>?_
 refine sq ?_;refine sq ?_;refine rl ?_;(iterate 4 refine o1 ?_);refine nl ?_;refine bU rfl (fun h1=>?_) (fun h1=>?_)
 ·refine sk ?_;refine sq ?_;refine bl ?_;refine rd [0,1] (fun i=>[6].contains i) mixed ?_
  refine aK 0 ?_;refine dv 1 ?_;refine dv 2 ?_;refine dv 3 ?_
  refine gD 4 ((dU false) (dE zs (k))) (gS (f:=(dU false)) (z:=2) (o:=0) (fY false) (eB (by omega)) (Nat.le_of_ble_eq_true rfl) rfl) ?_
  refine aD 5 rfl (uU ((Zn.of (k:=dI (zs.take (k))) (by have:=tI (k:=k) hz hl;omega))) ((Lu hz (k:=k) (by omega)))) Gb ⟨aB rfl,aB rfl,rfl⟩ (kF (dI (zs.take (k))+(zv (dE zs (k))))) ?_
  refine dst 6 ?_;refine aP ?_;refine rl ?_;refine o1 ?_;refine o1 ?_;refine WL.cast (t:=10) (u':=.int .i64 ((k+1:Nat):Int)) rfl (aH (by omega)) ?_
  refine o1 ?_;refine nl ?_
  exact⟨k+1,by omega,⟨by omega,trivial⟩,aJ h0 [0,1] _ _ (by decide) ⟨rfl,rfl,rfl,rfl,trivial⟩ ⟨oe rfl rfl,oe rfl (congrArg (fun z:Int=>some (⟨47,0,[tv (.bool (aC z)),.t (sU false (dg 4294967296 z.natAbs))]⟩:Ob)) (Lw (by omega))),rfl⟩⟩
 refine ex ?_;refine sq ?_;refine rl ?_;refine ld ?_;refine st ?_;refine nl ?_;refine rt ?_;have hk9:k=zs.length:=by omega
 exact en (.inl rfl) rfl (bZ (.agg (.cons (.id rfl) (.cons (.id rfl) .nil)))) (by decide) (fun h=>by cases h) (by rw[hk9,jH (Nat.le_refl _)];rfl)
theorem eW {a:Zi}(hl:a.x.length≤1000000):aL true Tryz.prog 26 [] [gF a] (aU (gO a)):=by
 refine cF Tryz.func26 rfl Tryz.ntmps26 rfl aA rfl fun N9 w9 c0 h0=>?_
 refine sq ?_;refine rl ?_;refine bx 0 ?_;refine al 1 ?_;refine nl ?_;refine sq ?_;refine rl ?_;refine o1 ?_;refine ld ?_;refine o1 ?_;refine al 2 ?_;refine st ?_;refine nl ?_
 refine sq ?_;refine rl ?_;refine o1 ?_;refine ld ?_;refine o1 ?_;refine ld ?_;refine fR (j:=3) aA rfl rfl rfl rfl .nil .fz (Xq _) (Ok _) rfl (by omega) (by omega) ?_
 refine o1 ?_;refine st ?_;refine nl ?_;refine sq ?_;refine rl ?_;refine ld ?_;refine st ?_;refine nl ?_;refine rt ?_
 exact en (.inl rfl) rfl (bZ (.agg (.cons (.id rfl) (.cons (.sl (trs:=aM a.x) rfl rfl (by rw[Nat.zero_add];exact bP _) (by rw[Nat.zero_add];exact bK _)) .nil)))) (by decide) (fun _=>⟨trivial,.inl ⟨rfl,eX _⟩,trivial⟩) (by rw[Nat.zero_add];rfl)
theorem Uy {a b:Zi}(ha:a.x.length≤1000000) (hb:b.x.length≤1000000):aL true Tryz.prog 28 [] [gF a,gF b] (aU (.one (tv (.bool (kN a b))))):=by
 refine cF Tryz.func28 rfl Tryz.ntmps28 rfl aA rfl fun N9 w9 c0 h0=>?_
 refine sq ?_;refine rl ?_;refine bx 0 ?_;refine bx 1 ?_;refine o1 ?_;refine nl ?_;refine sq ?_;refine sq ?_;refine rl ?_;refine o1 ?_;refine ld ?_;refine o1 ?_;refine ld ?_;refine o1 ?_
 refine WL.cast (t:=10) (u':=.bool (!(a.s==b.s))) rfl (congrArg Value.bool rfl) ?_;refine o1 ?_;refine WL.splitb (t:=11) rfl (fun h1=>?_) (fun h1=>?_)
 ·(iterate 7 refine cW ?_);refine o1 ?_;refine nl ?_;refine iC rfl ?_;refine sq ?_;refine rl ?_;refine o1 ?_;refine nl ?_;refine rt ?_;exact fS (.inl rfl) rfl (Tj h1)
 refine o1 ?_;refine ld ?_;refine o1 ?_;refine o1 ?_;refine ld ?_;(iterate 3 refine o1 ?_);refine nl ?_;refine bU rfl (fun h2=>?_) (fun h2=>?_)
 ·refine sq ?_;refine rl ?_;refine o1 ?_;refine nl ?_;refine rt ?_;exact fS (.inl rfl) rfl (Tk (by omega))
 refine sk ?_;refine sq ?_;refine sq ?_;refine rl ?_;refine o1 ?_;refine nl ?_;refine bl ?_
 refine lp (γ:=Nat) (fun k=>cJ [(2,.one (.pt 0 0)),(3,.one (.pt 1 0)),(5,.one (tv (.int .i64 ((k:Nat):Int))))]) (fun k=>[(⟨44,0,[tv (.bool a.s),.t (sU false a.x)]⟩:Ob),⟨47,0,[tv (.bool b.s),.t (sU false b.x)]⟩].map some) (fun k=>k≤a.x.length∧a.x.take k=b.x.take k) (fun k=>a.x.length-k) 0 ⟨Nat.zero_le _,rfl⟩ (aJ h0 [0,1] _ _ (by decide) ⟨rfl,rfl,rfl,trivial⟩ ⟨oe rfl rfl,oe rfl rfl,rfl⟩) fun k hk=>?_
 refine sq ?_;refine sq ?_;refine rl ?_;refine o1 ?_;refine o1 ?_;refine ld ?_;refine o1 ?_;refine o1 ?_;refine nl ?_;refine bU rfl (fun h3=>?_) (fun h3=>?_)
 ·refine sk ?_;refine sq ?_;refine bl ?_;refine sq ?_;refine rd [0,1] (fun i=>[].contains i) mixed ?_
  refine dv 0 ?_;refine aK 1 ?_;refine dv 2 ?_;refine dv 3 ?_;refine gD 4 ([.v (.int .u32 ((nth a.x (k):Nat):Int))]) (iD a.x (k:=k) (by omega)) ?_
  refine dv 5 ?_;refine aK 6 ?_;refine dv 7 ?_;refine dv 8 ?_;refine gD 9 ([.v (.int .u32 ((nth b.x (k):Nat):Int))]) (iD b.x (k:=k) (by omega)) ?_
  refine dv 10 ?_;refine aP ?_;refine bU rfl (fun h4=>?_) (fun h4=>?_)
  ·refine sq ?_;refine rl ?_;refine o1 ?_;refine nl ?_;refine rt ?_;exact fS (.inl rfl) rfl (Tl (k:=k) (by omega))
  refine sk ?_;refine rl ?_;refine o1 ?_;refine o1 ?_;refine WL.cast (t:=26) (u':=.int .i64 ((k+1:Nat):Int)) rfl (aH (by omega)) ?_
  refine o1 ?_;refine nl ?_
  exact⟨k+1,by omega,⟨by omega,Ol hk.2 (by omega) (by omega) (by omega)⟩,aJ h0 [0,1] _ _ (by decide) ⟨rfl,rfl,rfl,trivial⟩ ⟨oe rfl rfl,oe rfl rfl,rfl⟩⟩
 refine ex ?_;refine sq ?_;refine rl ?_;refine o1 ?_;refine nl ?_;refine rt ?_;exact fS (.inl rfl) rfl (Tm h1 (by omega) hk.2 (by omega))
theorem Yf {l:List Nat}(hl:Lim 256 l):aL true Tryz.prog 68 [] [.one (tv (.string (aW l))),.one (tv (.string ⟨#[45]⟩))] (aU (.tup [.one (tv (.string (aW (bG l)))),.one (tv (.bool (decide (l.take 1=[45]))))])):=Da hl
theorem Df {l:List Nat}(hl:Lim 256 l):Lim 256 (bG l):=by unfold bG;split;exact pU hl 1;exact hl
theorem Dg {l:List Nat}:(bG l).length≤l.length:=by unfold bG;split;(rw[List.length_drop];omega);exact Nat.le_refl _
theorem Dk {l:List Nat}(hl:Lim 256 l) (hn:l.length≤1000000):aL true Tryz.prog 22 [] [.one (tv (.string (aW l)))] (aU (.tup [kO (eF l),.one (tv (.int .i64 (fA l)))])):=by
 refine cF Tryz.func22 rfl Tryz.ntmps22 rfl aA rfl fun N9 w9 c0 h0=>?_
 refine sq ?_;refine rl ?_;refine al 0 ?_;refine o1 ?_;refine nl ?_;refine sq ?_;refine rl ?_;refine o1 ?_
 refine ca (Yf hl) CT ⟨a1 rfl,a1 rfl,rfl⟩ (.tup [.one (tv (.string (aW (bG l)))),.one (tv (.bool (decide (l.take 1=[45]))))]) ?_;(iterate 5 refine o1 ?_);refine nl ?_;refine sq ?_
 refine rl ?_;refine o1 ?_;refine hH 1 (Ts (Df hl) (Nat.le_trans Dg hn)) DP ⟨a1 rfl,rfl⟩ ?_;(iterate 5 refine o1 ?_);refine nl ?_;refine sq ?_;refine bl ?_;refine sq ?_
 refine rl ?_;(iterate 3 refine o1 ?_);refine nl ?_;refine bU rfl (fun h1=>?_) (fun h1=>?_)
 ·refine sq ?_;refine rl ?_;refine o1 ?_;refine o1 ?_;refine st ?_;refine o1 ?_;refine nl ?_;refine rt ?_;have hE:fA l=iF (bG l):=if_neg h1
  have hV:eF l=0:=if_neg (by rw[hE];exact h1)
  exact en (.inl rfl) rfl (eH (.cons (.agg (.cons (.id rfl) (.cons (.nil (t:=22) (z:=1)) .nil))) (.cons (bQ _) .nil))) (by decide) (fun _=>⟨cG 0,trivial,trivial⟩) (by rw[hE,hV];rfl)
 refine sq ?_;refine rl ?_;refine o1 ?_;refine o1 ?_;refine WL.splitb (t:=25) rfl (fun h2=>?_) (fun h2=>?_)
 ·(iterate 5 refine o1 ?_);refine nl ?_;refine bU rfl (fun h3=>?_) (fun h3=>?_)
  ·refine sq ?_;refine rl ?_;refine o1 ?_;refine st ?_;refine o1 ?_;refine nl ?_;refine rt ?_;have he0:iF (bG l)=0:=by omega
   have hv0:=vY he0
   have h70:bM (bG l)=0:=by rw[←hv0];exact(dH (B:=4294967296) (by omega)).1 (List.eq_nil_of_length_eq_zero (by omega))
   have hE:fA l=2:=by rw[fA,if_pos he0,if_pos ⟨of_decide_eq_true h2,h70⟩]
   have hV:eF l=0:=if_neg (by rw[hE];decide)
   exact en (.inl rfl) rfl (eH (.cons (.agg (.cons (.id rfl) (.cons (.nil (t:=22) (z:=1)) .nil))) (.cons (bQ _) .nil))) (by decide) (fun _=>⟨cG 0,trivial,trivial⟩) (by rw[hE,hV];rfl)
  refine sk ?_;refine sq ?_;have he0:iF (bG l)=0:=by omega
  have hv0:=vY he0
  have hE:fA l=0:=by rw[fA,if_pos he0,if_neg];rintro⟨_,h9⟩;rw[←hv0]at h9;rw[h9]at h3;exact h3 rfl
  have hK:bH (decide (l.take 1=[45])) (Cf (bG l))=eF l:=by rw[eF,if_pos hE,if_pos (of_decide_eq_true h2),h2,hv0];rfl
  refine rl ?_;refine o1 ?_;refine o1 ?_;refine cm 2 [1] (eP (b:=(decide (l.take 1=[45]))) (m:=Cf (bG l)) (K:=eF l) hK) kE ⟨cD rfl,rfl⟩ ⟨rfl,rfl,rfl⟩ ?_;refine st ?_
  refine o1 ?_;refine nl ?_;refine rt ?_
  exact en (.inl rfl) rfl (eH (.cons (.agg (.cons (.id rfl) (.cons (.sl (trs:=aM (dg 4294967296 ((eF l)).natAbs)) rfl rfl (bP _) (bK _)) .nil))) (.cons (bQ _) .nil))) (by decide) (fun _=>⟨cG (eF l),trivial,trivial⟩) (by rw[hE];rfl)
 (iterate 3 refine cW ?_);refine o1 ?_;refine o1 ?_;refine nl ?_;refine eR rfl ?_;refine sk ?_;refine sq ?_;have he0:iF (bG l)=0:=by omega
 have hv0:=vY he0
 have hE:fA l=0:=by rw[fA,if_pos he0,if_neg (fun h=>of_decide_eq_false h2 h.1)]
 have hK:bH (decide (l.take 1=[45])) (Cf (bG l))=eF l:=by rw[eF,if_pos hE,if_neg (of_decide_eq_false h2),h2,hv0];rfl
 refine rl ?_;refine o1 ?_;refine o1 ?_;refine cm 2 [1] (eP (b:=(decide (l.take 1=[45]))) (m:=Cf (bG l)) (K:=eF l) hK) kE ⟨cD rfl,rfl⟩ ⟨rfl,rfl,rfl⟩ ?_;refine st ?_
 refine o1 ?_;refine nl ?_;refine rt ?_
 exact en (.inl rfl) rfl (eH (.cons (.agg (.cons (.id rfl) (.cons (.sl (trs:=aM (dg 4294967296 ((eF l)).natAbs)) rfl rfl (bP _) (bK _)) .nil))) (.cons (bQ _) .nil))) (by decide) (fun _=>⟨cG (eF l),trivial,trivial⟩) (by rw[hE];rfl)
end Go.Proofs.YteggpgndiajdpaaGreatDoor
