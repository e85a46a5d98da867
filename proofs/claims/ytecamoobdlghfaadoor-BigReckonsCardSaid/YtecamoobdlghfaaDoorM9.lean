/- Part 9 of a proof: G2 to Rd. -/
import Derived.Test.YtecamoobdlghfaaDoorM8
import Derived.Test.YtecamoobdlghfaaDoorM6
import Derived.Test.YtecamoobdlghfaaDoorM4
import Derived.Test.YtecamoobdlghfaaDoorM7
import Derived.Test.YtecamoobdlghfaaDoorM5
import Derived.ProofKit
import Derived.ChangeOld
import Derived.Deep.Slices
import Derived.Deep.Strs
set_option maxRecDepth 100000
set_option linter.unusedVariables false
set_option linter.unusedSimpArgs false
namespace Go.Proofs.YtecamoobdlghfaaDoor
open Go Go.RowKit
theorem Jb {a b:Zi}{k k':Int}(ha:Zg a k) (hb:Zg b k'):aI true Tryd.prog 10 [] [gF a,gF b] (bF (kO (k*k'))):=by
 refine cF Tryd.func10 rfl Tryd.ntmps10 rfl aA rfl fun N w c0 h0=>?_
 have hkl:=ha.len
 have hkl':=hb.len
 refine sq ?_;refine rl ?_;refine bx 0 ?_;refine bx 1 ?_;refine al 2 ?_;refine nl ?_
 refine md (γ:=Unit) (fun _=>cP [(4,.one (.pt 0 0)),(5,.one (.pt 1 0)),(6,.one (.pt 2 0))]) (fun _=>([⟨24,0,[tv (.bool false),tv (.slice none 0 0)]⟩,⟨63,0,[tv (.bool (aB k)),.t (sU false (dg 4294967296 k.natAbs))]⟩,⟨63,0,[tv (.bool (aB k')),.t (sU false (dg 4294967296 k'.natAbs))]⟩]:List Ob).map some) (fun _=>True) ?_ fun _ _=>?_
 ·refine rd [0,1,2] (fun i=>[7].contains i) mixed ?_
  refine aZ 0 ?_;refine aZ 2 ?_;refine WO.three (i:=1) (j:=4) (m:=5) (by kernel_rfl) ?_ ?_ ?_
  ·refine cE 1 rfl (bM ha) bL ⟨aF rfl,rfl⟩ (kF (k)) ?_;refine WO.three (i:=3) (j:=4) (m:=5) (by kernel_rfl) ?_ ?_ ?_
   ·refine cE 3 rfl (bM hb) bL ⟨aF rfl,rfl⟩ (kF (k')) ?_;refine WO.two (i:=4) (j:=5) (by kernel_rfl) ?_ ?_
    ·refine bB (key:=3) 4 rfl rfl aA rfl ⟨rfl,rfl,rfl,trivial⟩ ?_;refine cU (key:=4) 5 (by kernel_rfl) rfl rfl aA rfl ⟨rfl,rfl,rfl,trivial⟩ ?_
     refine aL 6 (by kernel_rfl) rfl rfl aA rfl rfl rfl rfl ⟨rfl,rfl,rfl,trivial⟩ ?_
     refine dst 7 ?_;refine aU ?_;exact⟨(),trivial,aM h0 [2,3,4] _ _ (by decide) ⟨rfl,rfl,rfl,trivial⟩ ⟨oe rfl rfl,oe rfl rfl,oe rfl rfl,rfl⟩⟩
    refine bB (key:=3) 5 rfl rfl aA rfl ⟨rfl,rfl,rfl,trivial⟩ ?_;refine cU (key:=4) 4 (by kernel_rfl) rfl rfl aA rfl ⟨rfl,rfl,rfl,trivial⟩ ?_
    refine aL 6 (by kernel_rfl) rfl rfl aA rfl rfl rfl rfl ⟨rfl,rfl,rfl,trivial⟩ ?_
    refine dst 7 ?_;refine aU ?_;exact⟨(),trivial,aM h0 [2,4,3] _ _ (by decide) ⟨rfl,rfl,rfl,trivial⟩ ⟨oe rfl rfl,oe rfl rfl,oe rfl rfl,rfl⟩⟩
   ·refine bB (key:=3) 4 rfl rfl aA rfl ⟨rfl,rfl,rfl,trivial⟩ ?_;refine WO.two (i:=3) (j:=5) (by kernel_rfl) ?_ ?_
    ·refine cE 3 rfl (bM hb) bL ⟨aF rfl,rfl⟩ (kF (k')) ?_;refine cU (key:=4) 5 (by kernel_rfl) rfl rfl aA rfl ⟨rfl,rfl,rfl,trivial⟩ ?_
     refine aL 6 (by kernel_rfl) rfl rfl aA rfl rfl rfl rfl ⟨rfl,rfl,rfl,trivial⟩ ?_
     refine dst 7 ?_;refine aU ?_;exact⟨(),trivial,aM h0 [2,3,4] _ _ (by decide) ⟨rfl,rfl,rfl,trivial⟩ ⟨oe rfl rfl,oe rfl rfl,oe rfl rfl,rfl⟩⟩
    refine bB (key:=4) 5 rfl rfl aA rfl ⟨rfl,rfl,rfl,trivial⟩ ?_;refine aK 3 rfl (bM hb) bL ⟨aF rfl,rfl⟩ (kF (k')) ?_
    refine aL 6 (by kernel_rfl) rfl rfl aA rfl rfl rfl rfl ⟨rfl,rfl,rfl,trivial⟩ ?_
    refine dst 7 ?_;refine aU ?_;exact⟨(),trivial,aM h0 [2,3,4] _ _ (by decide) ⟨rfl,rfl,rfl,trivial⟩ ⟨oe rfl rfl,oe rfl rfl,oe rfl rfl,rfl⟩⟩
   refine bB (key:=3) 5 rfl rfl aA rfl ⟨rfl,rfl,rfl,trivial⟩ ?_;refine WO.two (i:=3) (j:=4) (by kernel_rfl) ?_ ?_
   ·refine cE 3 rfl (bM hb) bL ⟨aF rfl,rfl⟩ (kF (k')) ?_;refine cU (key:=4) 4 (by kernel_rfl) rfl rfl aA rfl ⟨rfl,rfl,rfl,trivial⟩ ?_
    refine aL 6 (by kernel_rfl) rfl rfl aA rfl rfl rfl rfl ⟨rfl,rfl,rfl,trivial⟩ ?_
    refine dst 7 ?_;refine aU ?_;exact⟨(),trivial,aM h0 [2,4,3] _ _ (by decide) ⟨rfl,rfl,rfl,trivial⟩ ⟨oe rfl rfl,oe rfl rfl,oe rfl rfl,rfl⟩⟩
   refine bB (key:=4) 4 rfl rfl aA rfl ⟨rfl,rfl,rfl,trivial⟩ ?_;refine aK 3 rfl (bM hb) bL ⟨aF rfl,rfl⟩ (kF (k')) ?_
   refine aL 6 (by kernel_rfl) rfl rfl aA rfl rfl rfl rfl ⟨rfl,rfl,rfl,trivial⟩ ?_
   refine dst 7 ?_;refine aU ?_;exact⟨(),trivial,aM h0 [2,4,3] _ _ (by decide) ⟨rfl,rfl,rfl,trivial⟩ ⟨oe rfl rfl,oe rfl rfl,oe rfl rfl,rfl⟩⟩
  ·refine bB (key:=3) 4 rfl rfl aA rfl ⟨rfl,rfl,rfl,trivial⟩ ?_;refine WO.two (i:=1) (j:=5) (by kernel_rfl) ?_ ?_
   ·refine cE 1 rfl (bM ha) bL ⟨aF rfl,rfl⟩ (kF (k)) ?_;refine WO.two (i:=3) (j:=5) (by kernel_rfl) ?_ ?_
    ·refine cE 3 rfl (bM hb) bL ⟨aF rfl,rfl⟩ (kF (k')) ?_;refine cU (key:=4) 5 (by kernel_rfl) rfl rfl aA rfl ⟨rfl,rfl,rfl,trivial⟩ ?_
     refine aL 6 (by kernel_rfl) rfl rfl aA rfl rfl rfl rfl ⟨rfl,rfl,rfl,trivial⟩ ?_
     refine dst 7 ?_;refine aU ?_;exact⟨(),trivial,aM h0 [2,3,4] _ _ (by decide) ⟨rfl,rfl,rfl,trivial⟩ ⟨oe rfl rfl,oe rfl rfl,oe rfl rfl,rfl⟩⟩
    refine bB (key:=4) 5 rfl rfl aA rfl ⟨rfl,rfl,rfl,trivial⟩ ?_;refine aK 3 rfl (bM hb) bL ⟨aF rfl,rfl⟩ (kF (k')) ?_
    refine aL 6 (by kernel_rfl) rfl rfl aA rfl rfl rfl rfl ⟨rfl,rfl,rfl,trivial⟩ ?_
    refine dst 7 ?_;refine aU ?_;exact⟨(),trivial,aM h0 [2,3,4] _ _ (by decide) ⟨rfl,rfl,rfl,trivial⟩ ⟨oe rfl rfl,oe rfl rfl,oe rfl rfl,rfl⟩⟩
   refine bB (key:=4) 5 rfl rfl aA rfl ⟨rfl,rfl,rfl,trivial⟩ ?_;refine aK 1 rfl (bM ha) bL ⟨aF rfl,rfl⟩ (kF (k)) ?_;refine aK 3 rfl (bM hb) bL ⟨aF rfl,rfl⟩ (kF (k')) ?_
   refine aL 6 (by kernel_rfl) rfl rfl aA rfl rfl rfl rfl ⟨rfl,rfl,rfl,trivial⟩ ?_
   refine dst 7 ?_;refine aU ?_;exact⟨(),trivial,aM h0 [2,3,4] _ _ (by decide) ⟨rfl,rfl,rfl,trivial⟩ ⟨oe rfl rfl,oe rfl rfl,oe rfl rfl,rfl⟩⟩
  refine bB (key:=3) 5 rfl rfl aA rfl ⟨rfl,rfl,rfl,trivial⟩ ?_;refine WO.two (i:=1) (j:=4) (by kernel_rfl) ?_ ?_
  ·refine cE 1 rfl (bM ha) bL ⟨aF rfl,rfl⟩ (kF (k)) ?_;refine WO.two (i:=3) (j:=4) (by kernel_rfl) ?_ ?_
   ·refine cE 3 rfl (bM hb) bL ⟨aF rfl,rfl⟩ (kF (k')) ?_;refine cU (key:=4) 4 (by kernel_rfl) rfl rfl aA rfl ⟨rfl,rfl,rfl,trivial⟩ ?_
    refine aL 6 (by kernel_rfl) rfl rfl aA rfl rfl rfl rfl ⟨rfl,rfl,rfl,trivial⟩ ?_
    refine dst 7 ?_;refine aU ?_;exact⟨(),trivial,aM h0 [2,4,3] _ _ (by decide) ⟨rfl,rfl,rfl,trivial⟩ ⟨oe rfl rfl,oe rfl rfl,oe rfl rfl,rfl⟩⟩
   refine bB (key:=4) 4 rfl rfl aA rfl ⟨rfl,rfl,rfl,trivial⟩ ?_;refine aK 3 rfl (bM hb) bL ⟨aF rfl,rfl⟩ (kF (k')) ?_
   refine aL 6 (by kernel_rfl) rfl rfl aA rfl rfl rfl rfl ⟨rfl,rfl,rfl,trivial⟩ ?_
   refine dst 7 ?_;refine aU ?_;exact⟨(),trivial,aM h0 [2,4,3] _ _ (by decide) ⟨rfl,rfl,rfl,trivial⟩ ⟨oe rfl rfl,oe rfl rfl,oe rfl rfl,rfl⟩⟩
  refine bB (key:=4) 4 rfl rfl aA rfl ⟨rfl,rfl,rfl,trivial⟩ ?_;refine aK 1 rfl (bM ha) bL ⟨aF rfl,rfl⟩ (kF (k)) ?_;refine aK 3 rfl (bM hb) bL ⟨aF rfl,rfl⟩ (kF (k')) ?_
  refine aL 6 (by kernel_rfl) rfl rfl aA rfl rfl rfl rfl ⟨rfl,rfl,rfl,trivial⟩ ?_
  refine dst 7 ?_;refine aU ?_;exact⟨(),trivial,aM h0 [2,4,3] _ _ (by decide) ⟨rfl,rfl,rfl,trivial⟩ ⟨oe rfl rfl,oe rfl rfl,oe rfl rfl,rfl⟩⟩
 refine sq ?_;refine rd [0,1,2] (fun i=>[15].contains i) mixed ?_
 refine dv 0 ?_;refine dv 1 ?_;refine aZ 2 ?_;refine dv 3 ?_;refine dv 4 ?_;refine aZ 5 ?_;refine dv 6 ?_;refine dv 7 ?_;refine dv 8 ?_;refine aZ 9 ?_;refine dv 10 ?_;refine dv 11 ?_
 refine aZ 12 ?_
 have hA:aI true Tryd.prog 45 [] [.one (.t (sU false (dg 4294967296 k.natAbs))),.one (.t (sU false (dg 4294967296 k'.natAbs)))] (bF (.one (.t (sU true (dg 4294967296 (k.natAbs*k'.natAbs)))))):=by have h9:=Sa (aE (by omega) k.natAbs) (aE (by omega) k'.natAbs) (by omega) (by omega);rwa[aV,aV]at h9
 refine jK 3 13 rfl hA Ug ⟨a1 rfl,a1 rfl,rfl⟩ ?_
 refine rD 14 4 [3] rfl (eK (b:=(aB k != aB k')) (m:=(k.natAbs*k'.natAbs)) (K:=k*k') (zE k k')) jE ⟨cC rfl,rfl⟩ ⟨rfl,rfl,rfl⟩ ⟨rfl,rfl,rfl,trivial⟩ ?_
 refine dst 15 ?_;refine aU ?_;refine rt ?_
 exact en (.inl rfl) rfl (bN (.agg (.cons (.id rfl) (.cons (.sl (trs:=aG (dg 4294967296 ((k*k')).natAbs)) rfl rfl (bK _) (bI _)) .nil)))) (by decide) (fun _=>cK ((k*k'))) rfl
theorem Jc {a b:Zi}{k k':Int}(ha:Zg a k) (hb:Zg b k'):aI true Tryd.prog 13 [] [gF a,gF b] (bF (kO (((Int.gcd k k'):Nat):Int))):=by
 refine cF Tryd.func13 rfl Tryd.ntmps13 rfl aA rfl fun N w c0 h0=>?_
 have hkl:=ha.len
 have hkl':=hb.len
 refine sq ?_;refine rl ?_;refine bx 0 ?_;refine bx 1 ?_;refine al 2 ?_;refine nl ?_;refine sq ?_;refine rd [0,1,2] (fun i=>[11].contains i) mixed ?_
 refine aZ 0 ?_;refine aZ 4 ?_;refine aK 1 rfl (bM ha) bL ⟨aF rfl,rfl⟩ (kF (k)) ?_;refine df 2 ?_;refine df 3 ?_;refine aK 5 rfl (bM hb) bL ⟨aF rfl,rfl⟩ (kF (k')) ?_
 refine df 6 ?_;refine df 7 ?_;refine vJ (key:=3) 8 (by kernel_rfl) rfl rfl aA rfl ⟨rfl,rfl,rfl,trivial⟩ ?_
 refine Vm (i:=13) (k:=3) (t:=22) (t':=22) (z:=1) (n:=2) (l:=[sU false (dg 4294967296 k.natAbs),sU false (dg 4294967296 k'.natAbs)]) rfl rfl rfl rfl (.one .sl) (by rfl) (by rfl) ?_
 have hA:aI true Tryd.prog 47 [] [.one (.t (.s false 22 1 2 [sU false (dg 4294967296 k.natAbs),sU false (dg 4294967296 k'.natAbs)]))] (bF (.one (.t (sU true (dg 4294967296 (Int.gcd k k')))))):=by
  have h9:=Sb (t:=22) (aE (by omega) k.natAbs) (aE (by omega) k'.natAbs) (by omega) (by omega)
  rwa[show kK [dg 4294967296 k.natAbs,dg 4294967296 k'.natAbs]=(Int.gcd k k') by simp only[kK,List.foldl_cons,List.foldl_nil,aV,Nat.gcd_zero_left];rfl]at h9
 refine jK 4 9 rfl hA Uh ⟨a1 rfl,rfl⟩ ?_
 refine rD 10 5 [4] rfl (eK (b:=false) (m:=(Int.gcd k k')) (K:=(((Int.gcd k k'):Nat):Int)) (by simp[aX])) jE ⟨cC rfl,rfl⟩ ⟨rfl,rfl,rfl⟩ ⟨rfl,rfl,rfl,trivial⟩ ?_
 refine dst 11 ?_;refine aU ?_;refine rt ?_
 exact en (.inl rfl) rfl (bN (.agg (.cons (.id rfl) (.cons (.sl (trs:=aG (dg 4294967296 ((((Int.gcd k k'):Nat):Int)).natAbs)) rfl rfl (bK _) (bI _)) .nil)))) (by decide) (fun _=>cK ((((Int.gcd k k'):Nat):Int))) rfl
theorem wV (xs:List Nat):((aG xs).map AV.t).take (aG xs).length=(aG xs).map .t:=List.take_of_length_le (by simp)
theorem wW {a b:Zi}{k k':Int}(ha:Zg a k) (hb:Zg b k') (hz0:k'≠0):aI true Tryd.prog 20 [] [gF a,gF b] (bF (.tup [kO (k.fdiv k'),kO (k.fmod k'),.one (tv (.int .i64 0))])):=by
 refine cF Tryd.func20 rfl Tryd.ntmps20 rfl aA rfl fun N w c0 h0=>?_
 have hkl:=ha.len
 have hkl':=hb.len
 have hq:(dg 4294967296 (k.natAbs/k'.natAbs)).length≤300000000000:=Nat.le_trans (jB (Nat.div_le_self _ _)) hkl
 have hr0:=Nat.mod_lt k.natAbs (show 0<k'.natAbs by omega)
 have hrl:(dg 4294967296 (k.natAbs%k'.natAbs)).length≤300000000000:=Nat.le_trans (jB (Nat.le_of_lt hr0)) hkl'
 refine sq ?_;refine rl ?_;refine bx 0 ?_;refine bx 1 ?_;refine al 2 ?_;refine al 3 ?_;refine o1 ?_;refine nl ?_
 refine md (γ:=Unit) (fun _=>cP [(4,.one (.pt 0 0)),(5,.one (.pt 1 0)),(6,.one (tv (.int .i64 ((0:Nat):Int)))),(7,.one (.pt 2 0)),(8,.one (.pt 3 0))]) (fun _=>([⟨24,0,[tv (.bool false),tv (.slice none 0 0)]⟩,⟨24,0,[tv (.bool false),tv (.slice none 0 0)]⟩,⟨63,0,[tv (.bool (aB k)),.t (sU false (dg 4294967296 k.natAbs))]⟩,⟨63,0,[tv (.bool (aB k')),.t (sU false (dg 4294967296 k'.natAbs))]⟩]:List Ob).map some) (fun _=>True) ?_ fun _ _=>?_
 ·refine rd [0,1,2,3] (fun i=>[7].contains i) mixed ?_
  refine aZ 0 ?_;refine aZ 2 ?_;refine WO.three (i:=1) (j:=4) (m:=5) (by kernel_rfl) ?_ ?_ ?_
  ·refine cE 1 rfl (bM ha) bL ⟨aF rfl,rfl⟩ (kF (k)) ?_;refine WO.three (i:=3) (j:=4) (m:=5) (by kernel_rfl) ?_ ?_ ?_
   ·refine cE 3 rfl (bM hb) bL ⟨aF rfl,rfl⟩ (kF (k')) ?_;refine WO.two (i:=4) (j:=5) (by kernel_rfl) ?_ ?_
    ·refine bB (key:=4) 4 rfl rfl aA rfl ⟨rfl,rfl,rfl,rfl,trivial⟩ ?_;refine cU (key:=5) 5 (by kernel_rfl) rfl rfl aA rfl ⟨rfl,rfl,rfl,rfl,trivial⟩ ?_
     refine aL 6 (by kernel_rfl) rfl rfl aA rfl rfl rfl rfl ⟨rfl,rfl,rfl,rfl,trivial⟩ ?_
     refine dst 7 ?_;refine aU ?_;exact⟨(),trivial,aM h0 [2,3,4,5] _ _ (by decide) ⟨rfl,rfl,rfl,rfl,rfl,trivial⟩ ⟨oe rfl rfl,oe rfl rfl,oe rfl rfl,oe rfl rfl,rfl⟩⟩
    refine bB (key:=4) 5 rfl rfl aA rfl ⟨rfl,rfl,rfl,rfl,trivial⟩ ?_;refine cU (key:=5) 4 (by kernel_rfl) rfl rfl aA rfl ⟨rfl,rfl,rfl,rfl,trivial⟩ ?_
    refine aL 6 (by kernel_rfl) rfl rfl aA rfl rfl rfl rfl ⟨rfl,rfl,rfl,rfl,trivial⟩ ?_
    refine dst 7 ?_;refine aU ?_;exact⟨(),trivial,aM h0 [2,3,5,4] _ _ (by decide) ⟨rfl,rfl,rfl,rfl,rfl,trivial⟩ ⟨oe rfl rfl,oe rfl rfl,oe rfl rfl,oe rfl rfl,rfl⟩⟩
   ·refine bB (key:=4) 4 rfl rfl aA rfl ⟨rfl,rfl,rfl,rfl,trivial⟩ ?_;refine WO.two (i:=3) (j:=5) (by kernel_rfl) ?_ ?_
    ·refine cE 3 rfl (bM hb) bL ⟨aF rfl,rfl⟩ (kF (k')) ?_;refine cU (key:=5) 5 (by kernel_rfl) rfl rfl aA rfl ⟨rfl,rfl,rfl,rfl,trivial⟩ ?_
     refine aL 6 (by kernel_rfl) rfl rfl aA rfl rfl rfl rfl ⟨rfl,rfl,rfl,rfl,trivial⟩ ?_
     refine dst 7 ?_;refine aU ?_;exact⟨(),trivial,aM h0 [2,3,4,5] _ _ (by decide) ⟨rfl,rfl,rfl,rfl,rfl,trivial⟩ ⟨oe rfl rfl,oe rfl rfl,oe rfl rfl,oe rfl rfl,rfl⟩⟩
    refine bB (key:=5) 5 rfl rfl aA rfl ⟨rfl,rfl,rfl,rfl,trivial⟩ ?_;refine aK 3 rfl (bM hb) bL ⟨aF rfl,rfl⟩ (kF (k')) ?_
    refine aL 6 (by kernel_rfl) rfl rfl aA rfl rfl rfl rfl ⟨rfl,rfl,rfl,rfl,trivial⟩ ?_
    refine dst 7 ?_;refine aU ?_;exact⟨(),trivial,aM h0 [2,3,4,5] _ _ (by decide) ⟨rfl,rfl,rfl,rfl,rfl,trivial⟩ ⟨oe rfl rfl,oe rfl rfl,oe rfl rfl,oe rfl rfl,rfl⟩⟩
   refine bB (key:=4) 5 rfl rfl aA rfl ⟨rfl,rfl,rfl,rfl,trivial⟩ ?_;refine WO.two (i:=3) (j:=4) (by kernel_rfl) ?_ ?_
   ·refine cE 3 rfl (bM hb) bL ⟨aF rfl,rfl⟩ (kF (k')) ?_;refine cU (key:=5) 4 (by kernel_rfl) rfl rfl aA rfl ⟨rfl,rfl,rfl,rfl,trivial⟩ ?_
    refine aL 6 (by kernel_rfl) rfl rfl aA rfl rfl rfl rfl ⟨rfl,rfl,rfl,rfl,trivial⟩ ?_
    refine dst 7 ?_;refine aU ?_;exact⟨(),trivial,aM h0 [2,3,5,4] _ _ (by decide) ⟨rfl,rfl,rfl,rfl,rfl,trivial⟩ ⟨oe rfl rfl,oe rfl rfl,oe rfl rfl,oe rfl rfl,rfl⟩⟩
   refine bB (key:=5) 4 rfl rfl aA rfl ⟨rfl,rfl,rfl,rfl,trivial⟩ ?_;refine aK 3 rfl (bM hb) bL ⟨aF rfl,rfl⟩ (kF (k')) ?_
   refine aL 6 (by kernel_rfl) rfl rfl aA rfl rfl rfl rfl ⟨rfl,rfl,rfl,rfl,trivial⟩ ?_
   refine dst 7 ?_;refine aU ?_;exact⟨(),trivial,aM h0 [2,3,5,4] _ _ (by decide) ⟨rfl,rfl,rfl,rfl,rfl,trivial⟩ ⟨oe rfl rfl,oe rfl rfl,oe rfl rfl,oe rfl rfl,rfl⟩⟩
  ·refine bB (key:=4) 4 rfl rfl aA rfl ⟨rfl,rfl,rfl,rfl,trivial⟩ ?_;refine WO.two (i:=1) (j:=5) (by kernel_rfl) ?_ ?_
   ·refine cE 1 rfl (bM ha) bL ⟨aF rfl,rfl⟩ (kF (k)) ?_;refine WO.two (i:=3) (j:=5) (by kernel_rfl) ?_ ?_
    ·refine cE 3 rfl (bM hb) bL ⟨aF rfl,rfl⟩ (kF (k')) ?_;refine cU (key:=5) 5 (by kernel_rfl) rfl rfl aA rfl ⟨rfl,rfl,rfl,rfl,trivial⟩ ?_
     refine aL 6 (by kernel_rfl) rfl rfl aA rfl rfl rfl rfl ⟨rfl,rfl,rfl,rfl,trivial⟩ ?_
     refine dst 7 ?_;refine aU ?_;exact⟨(),trivial,aM h0 [2,3,4,5] _ _ (by decide) ⟨rfl,rfl,rfl,rfl,rfl,trivial⟩ ⟨oe rfl rfl,oe rfl rfl,oe rfl rfl,oe rfl rfl,rfl⟩⟩
    refine bB (key:=5) 5 rfl rfl aA rfl ⟨rfl,rfl,rfl,rfl,trivial⟩ ?_;refine aK 3 rfl (bM hb) bL ⟨aF rfl,rfl⟩ (kF (k')) ?_
    refine aL 6 (by kernel_rfl) rfl rfl aA rfl rfl rfl rfl ⟨rfl,rfl,rfl,rfl,trivial⟩ ?_
    refine dst 7 ?_;refine aU ?_;exact⟨(),trivial,aM h0 [2,3,4,5] _ _ (by decide) ⟨rfl,rfl,rfl,rfl,rfl,trivial⟩ ⟨oe rfl rfl,oe rfl rfl,oe rfl rfl,oe rfl rfl,rfl⟩⟩
   refine bB (key:=5) 5 rfl rfl aA rfl ⟨rfl,rfl,rfl,rfl,trivial⟩ ?_;refine aK 1 rfl (bM ha) bL ⟨aF rfl,rfl⟩ (kF (k)) ?_
   refine aK 3 rfl (bM hb) bL ⟨aF rfl,rfl⟩ (kF (k')) ?_;refine aL 6 (by kernel_rfl) rfl rfl aA rfl rfl rfl rfl ⟨rfl,rfl,rfl,rfl,trivial⟩ ?_
   refine dst 7 ?_;refine aU ?_;exact⟨(),trivial,aM h0 [2,3,4,5] _ _ (by decide) ⟨rfl,rfl,rfl,rfl,rfl,trivial⟩ ⟨oe rfl rfl,oe rfl rfl,oe rfl rfl,oe rfl rfl,rfl⟩⟩
  refine bB (key:=4) 5 rfl rfl aA rfl ⟨rfl,rfl,rfl,rfl,trivial⟩ ?_;refine WO.two (i:=1) (j:=4) (by kernel_rfl) ?_ ?_
  ·refine cE 1 rfl (bM ha) bL ⟨aF rfl,rfl⟩ (kF (k)) ?_;refine WO.two (i:=3) (j:=4) (by kernel_rfl) ?_ ?_
   ·refine cE 3 rfl (bM hb) bL ⟨aF rfl,rfl⟩ (kF (k')) ?_;refine cU (key:=5) 4 (by kernel_rfl) rfl rfl aA rfl ⟨rfl,rfl,rfl,rfl,trivial⟩ ?_
    refine aL 6 (by kernel_rfl) rfl rfl aA rfl rfl rfl rfl ⟨rfl,rfl,rfl,rfl,trivial⟩ ?_
    refine dst 7 ?_;refine aU ?_;exact⟨(),trivial,aM h0 [2,3,5,4] _ _ (by decide) ⟨rfl,rfl,rfl,rfl,rfl,trivial⟩ ⟨oe rfl rfl,oe rfl rfl,oe rfl rfl,oe rfl rfl,rfl⟩⟩
   refine bB (key:=5) 4 rfl rfl aA rfl ⟨rfl,rfl,rfl,rfl,trivial⟩ ?_;refine aK 3 rfl (bM hb) bL ⟨aF rfl,rfl⟩ (kF (k')) ?_
   refine aL 6 (by kernel_rfl) rfl rfl aA rfl rfl rfl rfl ⟨rfl,rfl,rfl,rfl,trivial⟩ ?_
   refine dst 7 ?_;refine aU ?_;exact⟨(),trivial,aM h0 [2,3,5,4] _ _ (by decide) ⟨rfl,rfl,rfl,rfl,rfl,trivial⟩ ⟨oe rfl rfl,oe rfl rfl,oe rfl rfl,oe rfl rfl,rfl⟩⟩
  refine bB (key:=5) 4 rfl rfl aA rfl ⟨rfl,rfl,rfl,rfl,trivial⟩ ?_;refine aK 1 rfl (bM ha) bL ⟨aF rfl,rfl⟩ (kF (k)) ?_
  refine aK 3 rfl (bM hb) bL ⟨aF rfl,rfl⟩ (kF (k')) ?_;refine aL 6 (by kernel_rfl) rfl rfl aA rfl rfl rfl rfl ⟨rfl,rfl,rfl,rfl,trivial⟩ ?_
  refine dst 7 ?_;refine aU ?_;exact⟨(),trivial,aM h0 [2,3,5,4] _ _ (by decide) ⟨rfl,rfl,rfl,rfl,rfl,trivial⟩ ⟨oe rfl rfl,oe rfl rfl,oe rfl rfl,oe rfl rfl,rfl⟩⟩
 refine sq ?_;refine rl ?_;refine o1 ?_;refine o1 ?_;refine ld ?_;refine o1 ?_;refine o1 ?_;refine ld ?_
 have hD:aI true Tryd.prog 51 [] [.one (.t (sU false (dg 4294967296 k.natAbs))),.one (.t (sU false (dg 4294967296 k'.natAbs)))] (bF (.tup [.one (.t (sU true (dg 4294967296 (k.natAbs/k'.natAbs)))),.one (.t (sU true (dg 4294967296 (k.natAbs%k'.natAbs)))),.one (tv (.int .i64 0))])):=by
  have h9:=Gz (aE (by omega) k.natAbs) (aE (by omega) k'.natAbs) (by omega) (by omega) (by rw[aV];omega)
  rwa[aV,aV]at h9
 refine jJ 4 hD Oi ⟨a1 rfl,a1 rfl,rfl⟩ ?_;(iterate 7 refine o1 ?_);refine nl ?_;refine sq ?_;refine sq ?_;refine rl ?_;refine o1 ?_;refine o1 ?_;refine nl ?_
 refine cH rfl (fun h1=>?_) (fun h1=>?_)
 ·exact absurd rfl h1
 refine sk ?_;refine sq ?_;refine sq ?_;refine rl ?_;refine o1 ?_;refine o1 ?_;refine ld ?_;refine o1 ?_;refine o1 ?_;refine ld ?_;refine o1 ?_;refine o1 ?_
 refine WL.splitb (t:=37) rfl (fun h2=>?_) (fun h2=>?_)
 ·(iterate 4 refine o1 ?_);refine nl ?_;refine cH rfl (fun h3=>?_) (fun h3=>?_)
  ·refine sq ?_;refine rl ?_;refine o1 ?_;refine bs 6 ?_
   have hA:aI true Tryd.prog 52 [] [.one (.t (sU false (dg 4294967296 (k.natAbs/k'.natAbs)))),.one (.t (sU false [1]))] (bF (.one (.t (sU true (dg 4294967296 ((k.natAbs/k'.natAbs)+1)))))):=by
    have h9:=It (aE (by omega) (k.natAbs/k'.natAbs)) (Lim.cons (show 1<4294967296 by omega) Lim.nil) (by omega) (by simp)
    rwa[bC (by omega),show vl 4294967296 [1]=1 from rfl]at h9
   refine jJ 7 hA Oj ⟨Ie rfl (.sl rfl rfl (wV _) (bI _)),Ie rfl (.sl (trs:=aG [1]) rfl rfl rfl rfl),rfl⟩ ?_;refine o1 ?_;refine nl ?_;refine rl ?_;refine o1 ?_;refine o1 ?_
   refine ld ?_;refine o1 ?_
   have hS:aI true Tryd.prog 53 [] [.one (.t (sU false (dg 4294967296 k'.natAbs))),.one (.t (sU false (dg 4294967296 (k.natAbs%k'.natAbs))))] (bF (.tup [.one (.t (sU true (dg 4294967296 (k'.natAbs-(k.natAbs%k'.natAbs))))),.one (tv (.int .i64 0))])):=by
    have h9:=Bj (aE (by omega) k'.natAbs) (aE (by omega) (k.natAbs%k'.natAbs)) (by omega) (by rw[aV,bC (by omega)];omega)
    rwa[aV,bC (by omega)]at h9
   refine jJ 8 hS Ge ⟨a1 rfl,Ie rfl (.sl rfl rfl (wV _) (bI _)),rfl⟩ ?_;(iterate 4 refine o1 ?_);refine nl ?_;refine sq ?_
   have hd:k.fdiv k'=aX (aB k != aB k') ((k.natAbs/k'.natAbs)+1)∧k.fmod k'=aX (aB k') (k'.natAbs-(k.natAbs%k'.natAbs)):=by
    have h9:aB k≠aB k':=by simpa using h2
    have h7:k.natAbs%k'.natAbs≠0:=by have h5:=gN (m:=(k.natAbs%k'.natAbs)) rfl;rw[decide_eq_true (by omega)]at h5;have h6:=of_decide_eq_true h5.symm;omega
    have h8:=La (a:=k) (b:=k') hz0 h9 h7
    rw[h2];exact h8
   refine rd [1,2,3,6] (fun i=>[15,16].contains i) mixed ?_
   refine dv 0 ?_;refine dv 1 ?_;refine aZ 2 ?_;refine dv 3 ?_;refine dv 4 ?_;refine aZ 5 ?_;refine dv 6 ?_;refine dv 7 ?_;refine dv 9 ?_;refine dv 10 ?_;refine aZ 11 ?_
   refine dv 12 ?_
   refine rD 8 9 [7] rfl (eK (b:=(aB k != aB k')) (m:=((k.natAbs/k'.natAbs)+1)) (K:=(k.fdiv k')) hd.1.symm) jE ⟨cC rfl,rfl⟩ ⟨rfl,rfl,rfl⟩ ⟨rfl,rfl,rfl,rfl,trivial⟩ ?_
   refine rD 13 10 [8] rfl (eK (b:=(aB k')) (m:=(k'.natAbs-(k.natAbs%k'.natAbs))) (K:=(k.fmod k')) hd.2.symm) jE ⟨cC rfl,rfl⟩ ⟨rfl,rfl,rfl⟩ ⟨rfl,rfl,rfl,rfl,trivial⟩ ?_
   refine aL 14 (by kernel_rfl) rfl rfl aA rfl rfl rfl rfl ⟨rfl,rfl,rfl,rfl,trivial⟩ ?_
   refine dst 15 ?_;refine gD 16 (by kernel_rfl) rfl rfl aA rfl (by trivial) ?_ (fun h=>by first | rfl | cases h)
   refine aU ?_;refine rt ?_
   exact en (.inl rfl) rfl (nW (.cons (.agg (.cons (.id rfl) (.cons (.sl (trs:=aG (dg 4294967296 ((k.fdiv k')).natAbs)) rfl rfl (bK _) (bI _)) .nil))) (.cons (.agg (.cons (.id rfl) (.cons (.sl (trs:=aG (dg 4294967296 ((k.fmod k')).natAbs)) rfl rfl (bK _) (bI _)) .nil))) (.cons (cR (.int .i64 0)) .nil)))) (by decide) (fun _=>⟨cK (k.fdiv k'),cK (k.fmod k'),trivial,trivial⟩) rfl
  refine sk ?_;refine sq ?_;have hd:k.fdiv k'=aX (aB k != aB k') (k.natAbs/k'.natAbs)∧k.fmod k'=aX (aB k') (k.natAbs%k'.natAbs):=by
   have h9:aB k≠aB k':=by simpa using h2
   have h7:k.natAbs%k'.natAbs=0:=by have h5:=gN (m:=(k.natAbs%k'.natAbs)) rfl;rw[decide_eq_false (by omega)]at h5;have h6:=of_decide_eq_false h5.symm;omega
   have h8:=Kz (a:=k) (b:=k') hz0 h9 h7
   rw[h2];exact h8
  refine rd [1,2,3] (fun i=>[15,16].contains i) mixed ?_
  refine dv 0 ?_;refine dv 1 ?_;refine aZ 2 ?_;refine dv 3 ?_;refine dv 4 ?_;refine aZ 5 ?_;refine dv 6 ?_;refine dv 7 ?_;refine dv 9 ?_;refine dv 10 ?_;refine aZ 11 ?_
  refine dv 12 ?_
  refine rD 8 6 [4] rfl (eK (b:=(aB k != aB k')) (m:=(k.natAbs/k'.natAbs)) (K:=(k.fdiv k')) hd.1.symm) jE ⟨cC rfl,rfl⟩ ⟨rfl,rfl,rfl⟩ ⟨rfl,rfl,rfl,trivial⟩ ?_
  refine rD 13 7 [5] rfl (eK (b:=(aB k')) (m:=(k.natAbs%k'.natAbs)) (K:=(k.fmod k')) hd.2.symm) jE ⟨cC rfl,rfl⟩ ⟨rfl,rfl,rfl⟩ ⟨rfl,rfl,rfl,trivial⟩ ?_
  refine aL 14 (by kernel_rfl) rfl rfl aA rfl rfl rfl rfl ⟨rfl,rfl,rfl,trivial⟩ ?_
  refine dst 15 ?_;refine gD 16 (by kernel_rfl) rfl rfl aA rfl (by trivial) ?_ (fun h=>by first | rfl | cases h)
  refine aU ?_;refine rt ?_
  exact en (.inl rfl) rfl (nW (.cons (.agg (.cons (.id rfl) (.cons (.sl (trs:=aG (dg 4294967296 ((k.fdiv k')).natAbs)) rfl rfl (bK _) (bI _)) .nil))) (.cons (.agg (.cons (.id rfl) (.cons (.sl (trs:=aG (dg 4294967296 ((k.fmod k')).natAbs)) rfl rfl (bK _) (bI _)) .nil))) (.cons (cR (.int .i64 0)) .nil)))) (by decide) (fun _=>⟨cK (k.fdiv k'),cK (k.fmod k'),trivial,trivial⟩) rfl
 (iterate 3 refine gE ?_);refine o1 ?_;refine nl ?_;refine kE rfl ?_;refine sk ?_;refine sq ?_
 have hd:k.fdiv k'=aX (aB k != aB k') (k.natAbs/k'.natAbs)∧k.fmod k'=aX (aB k') (k.natAbs%k'.natAbs):=by
  have h9:aB k=aB k':=by simpa using h2
  have h8:=Ky (a:=k) (b:=k') hz0 h9
  rw[h2];exact h8
 refine rd [1,2,3] (fun i=>[15,16].contains i) mixed ?_
 refine dv 0 ?_;refine dv 1 ?_;refine aZ 2 ?_;refine dv 3 ?_;refine dv 4 ?_;refine aZ 5 ?_;refine dv 6 ?_;refine dv 7 ?_;refine dv 9 ?_;refine dv 10 ?_;refine aZ 11 ?_
 refine dv 12 ?_
 refine rD 8 6 [4] rfl (eK (b:=(aB k != aB k')) (m:=(k.natAbs/k'.natAbs)) (K:=(k.fdiv k')) hd.1.symm) jE ⟨cC rfl,rfl⟩ ⟨rfl,rfl,rfl⟩ ⟨rfl,rfl,rfl,trivial⟩ ?_
 refine rD 13 7 [5] rfl (eK (b:=(aB k')) (m:=(k.natAbs%k'.natAbs)) (K:=(k.fmod k')) hd.2.symm) jE ⟨cC rfl,rfl⟩ ⟨rfl,rfl,rfl⟩ ⟨rfl,rfl,rfl,trivial⟩ ?_
 refine aL 14 (by kernel_rfl) rfl rfl aA rfl rfl rfl rfl ⟨rfl,rfl,rfl,trivial⟩ ?_
 refine dst 15 ?_;refine gD 16 (by kernel_rfl) rfl rfl aA rfl (by trivial) ?_ (fun h=>by first | rfl | cases h)
 refine aU ?_;refine rt ?_
 exact en (.inl rfl) rfl (nW (.cons (.agg (.cons (.id rfl) (.cons (.sl (trs:=aG (dg 4294967296 ((k.fdiv k')).natAbs)) rfl rfl (bK _) (bI _)) .nil))) (.cons (.agg (.cons (.id rfl) (.cons (.sl (trs:=aG (dg 4294967296 ((k.fmod k')).natAbs)) rfl rfl (bK _) (bI _)) .nil))) (.cons (cR (.int .i64 0)) .nil)))) (by decide) (fun _=>⟨cK (k.fdiv k'),cK (k.fmod k'),trivial,trivial⟩) rfl
theorem wX {α:Type}{f:α→List Tr}{z:Nat}(hf:∀x,(f x).length=z):∀(xs:List α),(xs.flatMap f).length=xs.length*z
 | []=>by simp
 | y::xs=>by rw[List.flatMap_cons,List.length_append,hf,wX hf xs,List.length_cons,Nat.succ_mul,Nat.add_comm]
section
variable {α:Type}{f:α→List Tr}{z:Nat}{xs:List α}{k o:Nat}{x x' y:α}{us:List Tr}
end
def lL (o:Bool) (a:Zi):List Tr:=[.v (.bool a.s),sU o a.x]
theorem Ls (o:Bool) (a:Zi):(lL o a).length=2:=rfl
def gO (a:Zi):FV:=.agg ((lL true a).map .t)
def iE (zs:List Zi) (k:Nat):Zi:=zs.getD k ⟨false,[]⟩
theorem Hl {zs:List Zi}{k:Nat}(h:k<zs.length):zs[k]? =some (iE zs k):=by simp[iE,h]
theorem Hm {zs:List Zi}{k:Nat}(h:k<zs.length):iE zs k∈zs:=List.mem_of_getElem? (Hl h)
def zv (a:Zi):Int:=hJ a.s a.x
def ZL (L:Nat) (a:Zi):Prop:=Lim 4294967296 a.x∧a.x.length≤L
theorem ZL.n {L:Nat}{a:Zi}(h:ZL L a) (hL:L≤137438953472):Zn a (zv a):=⟨h.1,Nat.le_trans h.2 hL,rfl⟩
theorem Jd {a:Zi}{L:Nat}(h:ZL L a):(zv a).natAbs<4294967296^L:=by
 have h1:(dg 4294967296 (zv a).natAbs).length≤a.x.length:=sO h.1
 have h2:=lZ (B:=4294967296) (n:=(zv a).natAbs) (by omega)
 exact Nat.lt_of_lt_of_le h2 (Nat.pow_le_pow_right (by omega) (Nat.le_trans h1 h.2))
theorem wY {α:Type}{l:List α}{k:Nat}(h:l.length≤k):l.take k=l:=List.take_of_length_le h
def iF (a b:Zi):Bool:=(a.s==b.s)&&decide (a.x=b.x)
theorem Bn (a:Zi):iF a a=true:=by simp[iF]
theorem Lu {a b:Zi}(h:(!(a.s==b.s))=true):false=iF a b:=by simp[iF,Vq h]
theorem Lw {a b:Zi}(h:¬a.x.length=b.x.length):false=iF a b:=by
 unfold iF
 rw[decide_eq_false fun e=>h (by rw[e]),Bool.and_false]
theorem Lx {a b:Zi}{k:Nat}(h:¬nth a.x k=nth b.x k):false=iF a b:=by
 unfold iF
 rw[decide_eq_false fun e=>h (by rw[e]),Bool.and_false]
theorem Ly {a b:Zi}{k:Nat}(h:(!(a.s==b.s))=false) (hl:a.x.length=b.x.length) (hk:a.x.take k=b.x.take k) (hk2:a.x.length≤k):true=iF a b:=by
 rw[wY hk2,wY (by omega)]at hk
 simp[iF,St h,hk]
def wZ (k:Int):List Nat:=if k<0 then 45::tx k.natAbs else tx k.natAbs
theorem Es {k:Int}{f:FuncId}{args:List FV}(h:∀(N:Nat→Prop) (w:World) us,bU w N [] args us→(∀b,N b→b<w.heap.size)→Calls Tryd.prog f us.toArray w (Pt k w)):aI true Tryd.prog f [] args (bF (kO k)):=by
 intro N w cs us hL
 obtain⟨rfl,hf⟩:=kL hL
 refine(h _ w us hf (fun b hb=>hb.1)).mono ?_
 rintro e W ⟨A,n,c,rfl,ho,hb⟩
 obtain⟨y1,a1,a2,a3,a4⟩:=iZ (N:=fun b=>true=false∧(b<W.heap.size∧b∉VT.fpL [])∧(N b∨w.heap.size≤b)) ho
 refine .mk0 (y:=[.w (.bool (aB k)),y1]) rfl hb (by simp only[VT.okL,VT.ok];exact⟨trivial,a3,trivial⟩) ?_ (fun b hb'=>?_) ?_
 ·simp only[VT.fpL,VT.fp,a4,List.nil_append,List.append_nil]
  exact kM A n c
 ·simp only[VT.fpL,VT.fp,a4,List.nil_append,List.append_nil]at hb'
  exact ho.blk b hb'
 refine⟨by simp only[List.map_cons,List.map_nil,a1];rfl,?_⟩
 simp only[List.map_cons,List.map_nil,aR,CR,sU]
 exact⟨by simp[OR],eC (fun _ _=>rfl) (fun b hb=>absurd hb.1 (by simp)) _ _ a2,trivial⟩
theorem eX {n:Int}(h1:-9223372036854775808≤n) (h2:n≤9223372036854775807):aI true Tryd.prog 32 [] [.one (tv (.int .i64 n))] (bF (kO n)):=Es fun N w us hf hN=>by
 obtain⟨u,rfl,h3⟩:=Bi hf
 obtain rfl:=aH (jQ h3)
 exact Pu n w h1 h2
theorem Qk {k:Int}(h:aB k=true):k<0:=of_decide_eq_true h
theorem Ql {k:Int}(h:aB k=false):¬k<0:=of_decide_eq_false h
theorem Qm {v:Nat}(h:(dg 4294967296 v).length≤1000000):(tx v).length≤10000001:=by
 unfold tx
 split
 ·simp
 rw[List.length_reverse,fG]
 have h1:=lZ (B:=4294967296) (n:=v) (by omega)
 have h2:v<10^(10*(dg 4294967296 v).length):=Nat.lt_of_lt_of_le h1 (by rw[Nat.pow_mul];exact Nat.pow_le_pow_left (by omega) _)
 have:=cD (B:=10) (by omega) h2
 omega
theorem Sg {a:Zi}{k:Int}(ha:Zn a k) (hs:(dg 4294967296 k.natAbs).length≤1000000):aI true Tryd.prog 34 [] [gF a] (bF (.one (tv (.string (cI (wZ k)))))):=by
 refine cF Tryd.func34 rfl Tryd.ntmps34 rfl aA rfl fun N9 w9 c0 h0=>?_
 refine sq ?_;refine rl ?_;refine bx 0 ?_;refine o1 ?_;refine nl ?_;refine sq ?_;refine rl ?_;refine ld ?_;refine ca (bM (ha).g) bL ⟨aF rfl,rfl⟩ (kF (k)) ?_;refine al 1 ?_;refine st ?_
 refine nl ?_;refine sq ?_;refine sq ?_;refine rl ?_;refine o1 ?_;refine o1 ?_;refine ld ?_;refine nl ?_;refine tC rfl (fun h1=>?_) (fun h1=>?_)
 ·refine sq ?_;refine rl ?_;refine o1 ?_;refine o1 ?_;refine ld ?_
  refine ca (Iy (xs:=dg 4294967296 k.natAbs) (v:=k.natAbs) hs (aE (by omega) _) (bC (by omega) _)) Ok ⟨a1 rfl,rfl⟩ (.one (tv (.string (cI (tx k.natAbs))))) ?_
  refine o1 ?_ (hC:=(by rw[lS];have:=Qm hs;show 1+(tx k.natAbs).length≤_;omega))
  refine WL.cast (t:=13) (u':=.string (cI (45::tx k.natAbs))) rfl (congrArg Value.string (Ox [45] _)) ?_;refine o1 ?_;refine nl ?_;refine rt ?_
  exact en (.inl rfl) rfl (bN (cR _)) (by decide) (fun _=>trivial) (congrArg (fun z=>FV.one (tv (.string z))) (congrArg cI (by unfold wZ;rw[if_pos (Qk h1)])))
 refine sk ?_;refine sq ?_;refine rl ?_;refine o1 ?_;refine o1 ?_;refine ld ?_
 refine ca (Iy (xs:=dg 4294967296 k.natAbs) (v:=k.natAbs) hs (aE (by omega) _) (bC (by omega) _)) Ok ⟨a1 rfl,rfl⟩ (.one (tv (.string (cI (tx k.natAbs))))) ?_
 refine o1 ?_;refine nl ?_;refine rt ?_
 exact en (.inl rfl) rfl (bN (cR _)) (by decide) (fun _=>trivial) (congrArg (fun z=>FV.one (tv (.string z))) (congrArg cI (by unfold wZ;rw[if_neg (Ql h1)])))
theorem Lz {a:Zi}{k:Int}(ha:Zn a k) (hs:2<(dg 4294967296 k.natAbs).length):aI true Tryd.prog 33 [] [gF a] (bF (.tup [.one (tv (.int .i64 0)),.one (tv (.bool false))])):=by
 refine cF Tryd.func33 rfl Tryd.ntmps33 rfl aA rfl fun N9 w9 c0 h0=>?_
 refine sq ?_;refine rl ?_;refine bx 0 ?_;refine o1 ?_;refine o1 ?_;refine nl ?_;refine sq ?_;refine rl ?_;refine ld ?_;refine ca (bM (ha).g) bL ⟨aF rfl,rfl⟩ (kF (k)) ?_;refine al 1 ?_
 refine st ?_;refine nl ?_;refine sq ?_;refine sq ?_;refine rl ?_;refine o1 ?_;refine o1 ?_;refine ld ?_;refine o1 ?_;refine o1 ?_;refine nl ?_;refine cH rfl (fun h1=>?_) (fun h1=>?_)
 ·refine sq ?_;refine rl ?_;refine o1 ?_;refine o1 ?_;refine nl ?_;refine rt ?_
  exact en (.inl rfl) rfl (Ih (.cons (cR _) (.cons (cR _) .nil))) (by decide) (fun _=>⟨trivial,trivial,trivial⟩) rfl
 exact absurd h1 (by omega)
theorem eR {a:Zi}(hl:a.x.length≤1000000):aI true Tryd.prog 6 [] [gF a] (bF (gO a)):=by
 refine cF Tryd.func6 rfl Tryd.ntmps6 rfl aA rfl fun N9 w9 c0 h0=>?_
 refine sq ?_;refine rl ?_;refine bx 0 ?_;refine al 1 ?_;refine nl ?_;refine sq ?_;refine rl ?_;refine o1 ?_;refine ld ?_;refine o1 ?_;refine al 2 ?_;refine st ?_;refine nl ?_
 refine sq ?_;refine rl ?_;refine o1 ?_;refine ld ?_;refine o1 ?_;refine ld ?_;refine fK (j:=3) aA rfl rfl rfl rfl .nil .fz (Pw _) (Gv _) rfl (by omega) (by omega) ?_
 refine o1 ?_;refine st ?_;refine nl ?_;refine sq ?_;refine rl ?_;refine ld ?_;refine st ?_;refine nl ?_;refine rt ?_
 exact en (.inl rfl) rfl (bN (.agg (.cons (.id rfl) (.cons (.sl (trs:=aG a.x) rfl rfl (by rw[Nat.zero_add];exact bK _) (by rw[Nat.zero_add];exact bI _)) .nil)))) (by decide) (fun _=>⟨trivial,.inl ⟨rfl,fP _⟩,trivial⟩) (by rw[Nat.zero_add];rfl)
theorem Qn {a b:Zi}(ha:a.x.length≤1000000) (hb:b.x.length≤1000000):aI true Tryd.prog 21 [] [gF a,gF b] (bF (.one (tv (.bool (iF a b))))):=by
 refine cF Tryd.func21 rfl Tryd.ntmps21 rfl aA rfl fun N9 w9 c0 h0=>?_
 refine sq ?_;refine rl ?_;refine bx 0 ?_;refine bx 1 ?_;refine o1 ?_;refine nl ?_;refine sq ?_;refine sq ?_;refine rl ?_;refine o1 ?_;refine ld ?_;refine o1 ?_;refine ld ?_;refine o1 ?_
 refine WL.cast (t:=10) (u':=.bool (!(a.s==b.s))) rfl (congrArg Value.bool rfl) ?_;refine o1 ?_;refine WL.splitb (t:=11) rfl (fun h1=>?_) (fun h1=>?_)
 ·(iterate 7 refine gE ?_);refine o1 ?_;refine nl ?_;refine nB rfl ?_;refine sq ?_;refine rl ?_;refine o1 ?_;refine nl ?_;refine rt ?_;exact rF (.inl rfl) rfl (Lu h1)
 refine o1 ?_;refine ld ?_;refine o1 ?_;refine o1 ?_;refine ld ?_;(iterate 3 refine o1 ?_);refine nl ?_;refine cH rfl (fun h2=>?_) (fun h2=>?_)
 ·refine sq ?_;refine rl ?_;refine o1 ?_;refine nl ?_;refine rt ?_;exact rF (.inl rfl) rfl (Lw (by omega))
 refine sk ?_;refine sq ?_;refine sq ?_;refine rl ?_;refine o1 ?_;refine nl ?_;refine bl ?_
 refine lp (γ:=Nat) (fun k=>cP [(2,.one (.pt 0 0)),(3,.one (.pt 1 0)),(5,.one (tv (.int .i64 ((k:Nat):Int))))]) (fun k=>[(⟨24,0,[tv (.bool a.s),.t (sU false a.x)]⟩:Ob),⟨26,0,[tv (.bool b.s),.t (sU false b.x)]⟩].map some) (fun k=>k≤a.x.length∧a.x.take k=b.x.take k) (fun k=>a.x.length-k) 0 ⟨Nat.zero_le _,rfl⟩ (aM h0 [0,1] _ _ (by decide) ⟨rfl,rfl,rfl,trivial⟩ ⟨oe rfl rfl,oe rfl rfl,rfl⟩) fun k hk=>?_
 refine sq ?_;refine sq ?_;refine rl ?_;refine o1 ?_;refine o1 ?_;refine ld ?_;refine o1 ?_;refine o1 ?_;refine nl ?_;refine cH rfl (fun h3=>?_) (fun h3=>?_)
 ·refine sk ?_;refine sq ?_;refine bl ?_;refine sq ?_;refine rd [0,1] (fun i=>[].contains i) mixed ?_
  refine dv 0 ?_;refine aZ 1 ?_;refine dv 2 ?_;refine dv 3 ?_;refine jI 4 ([.v (.int .u32 ((nth a.x (k):Nat):Int))]) (iA a.x (k:=k) (by omega)) ?_
  refine dv 5 ?_;refine aZ 6 ?_;refine dv 7 ?_;refine dv 8 ?_;refine jI 9 ([.v (.int .u32 ((nth b.x (k):Nat):Int))]) (iA b.x (k:=k) (by omega)) ?_
  refine dv 10 ?_;refine aU ?_;refine cH rfl (fun h4=>?_) (fun h4=>?_)
  ·refine sq ?_;refine rl ?_;refine o1 ?_;refine nl ?_;refine rt ?_;exact rF (.inl rfl) rfl (Lx (k:=k) (by omega))
  refine sk ?_;refine rl ?_;refine o1 ?_;refine o1 ?_;refine WL.cast (t:=26) (u':=.int .i64 ((k+1:Nat):Int)) rfl (aJ (by omega)) ?_
  refine o1 ?_;refine nl ?_
  exact⟨k+1,by omega,⟨by omega,Gx hk.2 (by omega) (by omega) (by omega)⟩,aM h0 [0,1] _ _ (by decide) ⟨rfl,rfl,rfl,trivial⟩ ⟨oe rfl rfl,oe rfl rfl,rfl⟩⟩
 refine ex ?_;refine sq ?_;refine rl ?_;refine o1 ?_;refine nl ?_;refine rt ?_;exact rF (.inl rfl) rfl (Ly h1 (by omega) hk.2 (by omega))
theorem pH {a:Zi}(ha:a.x.length≤1000000):aI true Tryd.prog 21 [] [gF a,gF a] (bF (.one (tv (.bool true)))):=Bn a▸Qn ha ha
theorem Qo {a:Zi}{k:Int}(ha:Zn a k):aI true Tryd.prog 25 [] [gF a,gF a] (bF (.one (tv (.int .i64 0)))):=by
 have h:=Ja ha.g ha.g (by rw[Int.sub_self];exact Nat.zero_le _)
 rw[Int.sub_self]at h
 exact h
theorem pQ {k:Int}(h:k.natAbs<4294967296^4):(dg 4294967296 k.natAbs).length≤4:=cD (by omega) h
theorem jL {k:Int}(h:k.natAbs<4294967296^4):Zn (.of k) k:=Zn.of (Nat.le_trans (pQ h) (by omega))
theorem Ho {a b q r:Int}(ha:a.natAbs<4294967296^4) (hb:b.natAbs<4294967296^4) (h0:b≠0) (hq:a.fdiv b=q) (hr:a.fmod b=r):aI true Tryd.prog 20 [] [kF a,kF b] (bF (.tup [kO q,kO r,.one (tv (.int .i64 0))])):=by
 subst hq hr
 exact wW (jL ha).g (jL hb).g h0
theorem Si {a b q:Int}(ha:a.natAbs<4294967296^4) (hb:b.natAbs<4294967296^4) (hq:a*b=q):aI true Tryd.prog 10 [] [kF a,kF b] (bF (kO q)):=by
 subst hq
 exact Jb (jL ha).g (jL hb).g
theorem Je {a b q:Int}(ha:a.natAbs<4294967296^4) (hb:b.natAbs<4294967296^4) (hq:((Int.gcd a b:Nat):Int)=q):aI true Tryd.prog 13 [] [kF a,kF b] (bF (kO q)):=by
 subst hq
 exact Jc (jL ha).g (jL hb).g
theorem Qp {n k:Nat}(h:4294967296^k≤n):k<(dg 4294967296 n).length:=by
 have h1:=lZ (B:=4294967296) (n:=n) (by omega)
 exact(Nat.pow_lt_pow_iff_right (a:=4294967296) (by omega)).1 (Nat.lt_of_le_of_lt h h1)
def wd:List Nat:=[6,1,6,1,5,5,9,0,7,3,7,0,4,4,7,6,4,4,8,1]
theorem Sj:dg 10 18446744073709551616=wd:=(oK (l:=wd) (by omega) (fun d hd=>by revert d;decide) (by decide)).symm.trans (by decide)
theorem Sk:wZ (-18446744073709551616)=[45,49,56,52,52,54,55,52,52,48,55,51,55,48,57,53,53,49,54,49,54]:=by
 have e:(-18446744073709551616:Int).natAbs=18446744073709551616:=by decide
 unfold wZ tx
 rw[if_pos (by decide),e,if_neg (by decide),Sj]
 decide
theorem Sl:((cI (wZ (-18446744073709551616))).toList==(⟨#[45,49,56,52,52,54,55,52,52,48,55,51,55,48,57,53,53,49,54,49,54]⟩:ByteArray).toList)=true:=by
 rw[Sk]
 exact(In (l:=[45,49,56,52,52,54,55,52,52,48,55,51,55,48,57,53,53,49,54,49,54]) (l':=[45,49,56,52,52,54,55,52,52,48,55,51,55,48,57,53,53,49,54,49,54]) (fun d hd=>by revert d;decide) (fun d hd=>by revert d;decide)).trans (decide_eq_true rfl)
theorem oI {a:Zi}{k:Int}(ha:a.x.length≤1000000) (hk:Zn a k):aI true Tryd.prog 31 [] [gF a,gF a] (bF (.one (tv (.bool true)))):=by
 refine cF Tryd.func31 rfl Tryd.ntmps31 rfl aA rfl fun N9 w9 c0 h0=>?_
 refine sq ?_;refine rl ?_;refine bx 0 ?_;refine bx 1 ?_;refine o1 ?_;refine nl ?_;refine sq ?_;refine rd [0,1] (fun i=>[10].contains i) mixed ?_
 refine aZ 0 ?_;refine aZ 1 ?_;refine aK 2 rfl (eR ha) iX ⟨aF rfl,rfl⟩ (gF a) ?_;refine aK 3 rfl (pH ha) Ao ⟨aF rfl,aF rfl,rfl⟩ (.one (tv (.bool true))) ?_;refine df 4 ?_
 refine aZ 5 ?_;refine aZ 6 ?_;refine aK 7 rfl (Qo hk) Ny ⟨aF rfl,aF rfl,rfl⟩ (.one (tv (.int .i64 0))) ?_;refine df 8 ?_
 refine WD.cast (t:=13) (u':=.bool true) rfl (congrArg Value.bool rfl) ?_;refine df 9 ?_;refine gD 10 (by kernel_rfl) rfl rfl aA rfl (by trivial) ?_ (fun h=>by first | rfl | cases h)
 refine aU ?_;refine rt ?_;exact rF (.inl rfl) rfl (rfl)
theorem sV:aI true Tryd.prog 5 [] [] (bF (.one (tv (.bool true)))):=by
 refine cF Tryd.func5 rfl Tryd.ntmps5 rfl aA rfl fun N9 w9 c0 h0=>?_
 refine sq ?_;refine rl ?_;refine o1 ?_;refine nl ?_;refine sq ?_;refine rl ?_;refine ca (eX (n:=(-7)) (by omega) (by omega)) eV ⟨a1 rfl,rfl⟩ (kF (-7)) ?_
 refine ca (eX (n:=2) (by omega) (by omega)) eV ⟨a1 rfl,rfl⟩ (kF 2) ?_
 refine ca (Ho (a:=(-7)) (b:=2) (q:=(-4)) (r:=1) (by decide) (by decide) (by decide) (by decide) (by decide)) An ⟨aF rfl,aF rfl,rfl⟩ (.tup [kF (-4),kF 1,.one (tv (.int .i64 0))]) ?_
 (iterate 4 refine o1 ?_);refine al 0 ?_;refine al 1 ?_;refine st ?_;refine st ?_;refine o1 ?_;refine nl ?_;refine sq ?_;refine rl ?_
 refine ca (eX (n:=7) (by omega) (by omega)) eV ⟨a1 rfl,rfl⟩ (kF 7) ?_
 refine ca (eX (n:=(-2)) (by omega) (by omega)) eV ⟨a1 rfl,rfl⟩ (kF (-2)) ?_
 refine ca (Ho (a:=7) (b:=(-2)) (q:=(-4)) (r:=(-1)) (by decide) (by decide) (by decide) (by decide) (by decide)) An ⟨aF rfl,aF rfl,rfl⟩ (.tup [kF (-4),kF (-1),.one (tv (.int .i64 0))]) ?_
 (iterate 4 refine o1 ?_);refine al 2 ?_;refine al 3 ?_;refine st ?_;refine st ?_;refine o1 ?_;refine nl ?_;refine sq ?_;refine rl ?_
 refine ca (eX (n:=(-7)) (by omega) (by omega)) eV ⟨a1 rfl,rfl⟩ (kF (-7)) ?_
 refine ca (eX (n:=(-2)) (by omega) (by omega)) eV ⟨a1 rfl,rfl⟩ (kF (-2)) ?_
 refine ca (Ho (a:=(-7)) (b:=(-2)) (q:=3) (r:=(-1)) (by decide) (by decide) (by decide) (by decide) (by decide)) An ⟨aF rfl,aF rfl,rfl⟩ (.tup [kF 3,kF (-1),.one (tv (.int .i64 0))]) ?_
 (iterate 4 refine o1 ?_);refine al 4 ?_;refine al 5 ?_;refine st ?_;refine st ?_;refine o1 ?_;refine nl ?_;refine sq ?_;refine rl ?_
 refine ca (eX (n:=(-4294967296)) (by omega) (by omega)) eV ⟨a1 rfl,rfl⟩ (kF (-4294967296)) ?_
 refine ca (eX (n:=4294967296) (by omega) (by omega)) eV ⟨a1 rfl,rfl⟩ (kF 4294967296) ?_
 refine ca (Si (a:=(-4294967296)) (b:=4294967296) (q:=(-18446744073709551616)) (by decide) (by decide) (by decide)) Nt ⟨aF rfl,aF rfl,rfl⟩ (kF (-18446744073709551616)) ?_
 refine al 6 ?_;refine st ?_;refine nl ?_;refine sq ?_;refine rl ?_;refine ld ?_
 refine ca (Lz (a:=.of (-18446744073709551616)) (k:=(-18446744073709551616)) (jL (by decide)) (Qp (by decide))) Ud ⟨aF rfl,rfl⟩ (.tup [.one (tv (.int .i64 0)),.one (tv (.bool false))]) ?_
 (iterate 5 refine o1 ?_);refine nl ?_;refine sq ?_;refine rd [0,1,2,3,4,5,6] (fun i=>[67].contains i) mixed ?_
 refine dv 0 ?_;refine dv 1 ?_;refine WD.cast (t:=43) (u':=.bool true) rfl (congrArg Value.bool rfl) ?_;refine dv 2 ?_;refine dv 3 ?_;refine dv 4 ?_
 refine WD.cast (t:=46) (u':=.bool true) rfl (congrArg Value.bool rfl) ?_;refine dv 5 ?_;refine dv 6 ?_;refine dv 7 ?_;refine dv 8 ?_
 refine WD.cast (t:=50) (u':=.bool true) rfl (congrArg Value.bool rfl) ?_;refine dv 9 ?_;refine dv 10 ?_;refine aZ 11 ?_
 refine aK 12 rfl (eX (n:=(-4)) (by omega) (by omega)) eV ⟨a1 rfl,rfl⟩ (kF (-4)) ?_
 refine aK 13 rfl (oI (a:=.of (-4)) (k:=(-4)) (Nat.le_trans (pQ (by decide)) (by omega)) (jL (by decide))) oB ⟨aF rfl,aF rfl,rfl⟩ (.one (tv (.bool true))) ?_
 refine df 14 ?_;refine df 15 ?_;refine aZ 16 ?_;refine aK 17 rfl (eX (n:=1) (by omega) (by omega)) eV ⟨a1 rfl,rfl⟩ (kF 1) ?_
 refine aK 18 rfl (oI (a:=.of 1) (k:=1) (Nat.le_trans (pQ (by decide)) (by omega)) (jL (by decide))) oB ⟨aF rfl,aF rfl,rfl⟩ (.one (tv (.bool true))) ?_
 refine df 19 ?_;refine df 20 ?_;refine aZ 21 ?_;refine aK 22 rfl (eX (n:=(-4)) (by omega) (by omega)) eV ⟨a1 rfl,rfl⟩ (kF (-4)) ?_
 refine aK 23 rfl (oI (a:=.of (-4)) (k:=(-4)) (Nat.le_trans (pQ (by decide)) (by omega)) (jL (by decide))) oB ⟨aF rfl,aF rfl,rfl⟩ (.one (tv (.bool true))) ?_
 refine df 24 ?_;refine df 25 ?_;refine aZ 26 ?_;refine aK 27 rfl (eX (n:=(-1)) (by omega) (by omega)) eV ⟨a1 rfl,rfl⟩ (kF (-1)) ?_
 refine aK 28 rfl (oI (a:=.of (-1)) (k:=(-1)) (Nat.le_trans (pQ (by decide)) (by omega)) (jL (by decide))) oB ⟨aF rfl,aF rfl,rfl⟩ (.one (tv (.bool true))) ?_
 refine df 29 ?_;refine df 30 ?_;refine aZ 31 ?_;refine aK 32 rfl (eX (n:=3) (by omega) (by omega)) eV ⟨a1 rfl,rfl⟩ (kF 3) ?_
 refine aK 33 rfl (oI (a:=.of 3) (k:=3) (Nat.le_trans (pQ (by decide)) (by omega)) (jL (by decide))) oB ⟨aF rfl,aF rfl,rfl⟩ (.one (tv (.bool true))) ?_
 refine df 34 ?_;refine df 35 ?_;refine aZ 36 ?_;refine aK 37 rfl (eX (n:=(-1)) (by omega) (by omega)) eV ⟨a1 rfl,rfl⟩ (kF (-1)) ?_
 refine aK 38 rfl (oI (a:=.of (-1)) (k:=(-1)) (Nat.le_trans (pQ (by decide)) (by omega)) (jL (by decide))) oB ⟨aF rfl,aF rfl,rfl⟩ (.one (tv (.bool true))) ?_
 refine df 39 ?_;refine df 40 ?_;refine aK 41 rfl (eX (n:=(-12)) (by omega) (by omega)) eV ⟨a1 rfl,rfl⟩ (kF (-12)) ?_
 refine aK 42 rfl (eX (n:=18) (by omega) (by omega)) eV ⟨a1 rfl,rfl⟩ (kF 18) ?_
 refine aK 43 rfl (Je (a:=(-12)) (b:=18) (q:=6) (by decide) (by decide) (by decide)) Gc ⟨aF rfl,aF rfl,rfl⟩ (kF 6) ?_
 refine aK 44 rfl (eX (n:=6) (by omega) (by omega)) eV ⟨a1 rfl,rfl⟩ (kF 6) ?_
 refine aK 45 rfl (oI (a:=.of 6) (k:=6) (Nat.le_trans (pQ (by decide)) (by omega)) (jL (by decide))) oB ⟨aF rfl,aF rfl,rfl⟩ (.one (tv (.bool true))) ?_
 refine df 46 ?_;refine df 47 ?_;refine aK 48 rfl (eX (n:=0) (by omega) (by omega)) eV ⟨a1 rfl,rfl⟩ (kF 0) ?_
 refine aK 49 rfl (eX (n:=(-5)) (by omega) (by omega)) eV ⟨a1 rfl,rfl⟩ (kF (-5)) ?_
 refine aK 50 rfl (Je (a:=0) (b:=(-5)) (q:=5) (by decide) (by decide) (by decide)) Gc ⟨aF rfl,aF rfl,rfl⟩ (kF 5) ?_
 refine aK 51 rfl (eX (n:=5) (by omega) (by omega)) eV ⟨a1 rfl,rfl⟩ (kF 5) ?_
 refine aK 52 rfl (oI (a:=.of 5) (k:=5) (Nat.le_trans (pQ (by decide)) (by omega)) (jL (by decide))) oB ⟨aF rfl,aF rfl,rfl⟩ (.one (tv (.bool true))) ?_
 refine df 53 ?_;refine df 54 ?_;refine aZ 55 ?_
 refine aK 56 rfl (Sg (a:=.of (-18446744073709551616)) (k:=(-18446744073709551616)) (jL (by decide)) (Nat.le_trans (pQ (by decide)) (by omega))) Ue ⟨aF rfl,rfl⟩ (.one (tv (.string (cI (wZ (-18446744073709551616)))))) ?_
 refine df 57 ?_;refine WD.cast (t:=99) (u':=.bool true) rfl (congrArg Value.bool Sl) ?_;refine df 58 ?_;refine df 59 ?_;refine dv 60 ?_;refine dv 61 ?_
 refine WD.cast (t:=103) (u':=.bool true) rfl (congrArg Value.bool rfl) ?_;refine df 62 ?_;refine df 63 ?_;refine dv 64 ?_;refine dv 65 ?_;refine df 66 ?_
 refine gD 67 (by kernel_rfl) rfl rfl aA rfl (by trivial) ?_ (fun h=>by first | rfl | cases h)
 refine aU ?_;refine rt ?_;exact rF (.inl rfl) rfl (rfl)
theorem Et {xs ys:List Nat}(hx:Lim 4294967296 xs) (hy:Lim 4294967296 ys) (h:xs.length≤549755813888) (h':ys.length≤549755813888) (h0:vl 4294967296 ys=0):aI true Tryd.prog 51 [] [.one (.t (sU false xs)),.one (.t (sU false ys))] (bF (.tup [.one (.t (sU true [])),.one (.t (sU true [])),.one (tv (.int .i64 20))])):=by
 intro N w cs us hL
 obtain⟨rfl,hf⟩:=kL hL
 obtain⟨u,v,rfl,h1,h2⟩:=qJ hf
 obtain⟨A,c,rfl,u1⟩:=eH h1 hx fun b hb=>hb.1
 obtain⟨B,d,rfl,u2⟩:=eH h2 hy fun b hb=>hb.1
 refine(rK A B _ _ c d xs ys w u1 u2 h h' h0).mono ?_
 rintro e W ⟨A1,n1,c1,A2,n2,c2,rfl,ho,ho2,hap,hb⟩
 obtain⟨y1,a1,a2,a3,a4⟩:=iZ (N:=fun b=>true=false∧(b<W.heap.size∧b∉VT.fpL [])∧(N b∨w.heap.size≤b)) ho
 obtain⟨y2,b1,b2,b3,b4⟩:=iZ (N:=fun b=>true=false∧(b<W.heap.size∧b∉VT.fpL [])∧(N b∨w.heap.size≤b)) ho2
 refine .mk0 (y:=[y1,y2,.w (.int .i64 20)]) rfl hb (by simp only[VT.okL,VT.ok];exact⟨a3,b3,trivial,trivial⟩) ?_ (fun b hb'=>?_) ?_
 ·simp only[VT.fpL,VT.fp,a4,b4,List.append_nil]
  rw[List.nodup_append]
  refine⟨kM ..,kM ..,fun x hx y hy e=>?_⟩
  subst e
  rcases A1 with _ | a
  ·simp[Value.ownBlock]at hx
  rcases A2 with _ | b
  ·simp[Value.ownBlock]at hy
  simp[Value.ownBlock]at hx hy
  exact hap a b rfl rfl (by rw[←hx,←hy])
 ·simp only[VT.fpL,VT.fp,a4,b4,List.append_nil]at hb'
  rcases List.mem_append.1 hb' with hb' | hb'
  ·exact ho.blk b hb'
  exact ho2.blk b hb'
 refine⟨[_,_,_],rfl,?_⟩
 exact⟨_,_,[y1],[y2,.w (.int .i64 20)],rfl,rfl,⟨y1,rfl,a1.symm,eC (fun _ _=>rfl) (fun b hb=>absurd hb.1 (by simp)) _ _ a2⟩,_,_,[y2],[.w (.int .i64 20)],rfl,rfl,⟨y2,rfl,b1.symm,eC (fun _ _=>rfl) (fun b hb=>absurd hb.1 (by simp)) _ _ b2⟩,_,_,[.w (.int .i64 20)],[],rfl,rfl,⟨_,rfl,rfl,by simp[CR,tv,OR]⟩,rfl,rfl⟩
theorem Eu {a b:Zi}{k:Int}(ha:Zg a k) (hb:Zg b 0):aI true Tryd.prog 20 [] [gF a,gF b] (bF (.tup [kO 0,kO 0,.one (tv (.int .i64 20))])):=by
 refine cF Tryd.func20 rfl Tryd.ntmps20 rfl aA rfl fun N9 w9 c0 h0=>?_
 have hkl:=ha.len
 refine sq ?_;refine rl ?_;refine bx 0 ?_;refine bx 1 ?_;refine al 2 ?_;refine al 3 ?_;refine o1 ?_;refine nl ?_
 refine md (γ:=Unit) (fun _=>cP [(4,.one (.pt 0 0)),(5,.one (.pt 1 0)),(7,.one (.pt 2 0)),(8,.one (.pt 3 0))]) (fun _=>([⟨24,0,[tv (.bool false),tv (.slice none 0 0)]⟩,⟨24,0,[tv (.bool false),tv (.slice none 0 0)]⟩,⟨63,0,[tv (.bool (aB (k))),.t (sU false (dg 4294967296 (k).natAbs))]⟩,⟨63,0,[tv (.bool (aB ((0:Int)))),.t (sU false (dg 4294967296 ((0:Int)).natAbs))]⟩]:List Ob).map some) (fun _=>True) ?_ fun _ _=>?_
 ·refine rd [0,1,2,3] (fun i=>[7].contains i) mixed ?_
  refine aZ 0 ?_;refine aZ 2 ?_;refine WO.three (i:=1) (j:=4) (m:=5) (by kernel_rfl) ?_ ?_ ?_
  ·refine cE 1 rfl (bM ha) bL ⟨aF rfl,rfl⟩ (kF (k)) ?_;refine WO.three (i:=3) (j:=4) (m:=5) (by kernel_rfl) ?_ ?_ ?_
   ·refine cE 3 rfl (bM hb) bL ⟨aF rfl,rfl⟩ (kF ((0:Int))) ?_;refine WO.two (i:=4) (j:=5) (by kernel_rfl) ?_ ?_
    ·refine bB (key:=4) 4 rfl rfl aA rfl ⟨rfl,rfl,rfl,rfl,trivial⟩ ?_;refine cU (key:=5) 5 (by kernel_rfl) rfl rfl aA rfl ⟨rfl,rfl,rfl,rfl,trivial⟩ ?_
     refine aL 6 (by kernel_rfl) rfl rfl aA rfl rfl rfl rfl ⟨rfl,rfl,rfl,rfl,trivial⟩ ?_
     refine dst 7 ?_;refine aU ?_;exact⟨(),trivial,aM h0 [2,3,4,5] _ _ (by decide) ⟨rfl,rfl,rfl,rfl,trivial⟩ ⟨oe rfl rfl,oe rfl rfl,oe rfl rfl,oe rfl rfl,rfl⟩⟩
    refine bB (key:=4) 5 rfl rfl aA rfl ⟨rfl,rfl,rfl,rfl,trivial⟩ ?_;refine cU (key:=5) 4 (by kernel_rfl) rfl rfl aA rfl ⟨rfl,rfl,rfl,rfl,trivial⟩ ?_
    refine aL 6 (by kernel_rfl) rfl rfl aA rfl rfl rfl rfl ⟨rfl,rfl,rfl,rfl,trivial⟩ ?_
    refine dst 7 ?_;refine aU ?_;exact⟨(),trivial,aM h0 [2,3,5,4] _ _ (by decide) ⟨rfl,rfl,rfl,rfl,trivial⟩ ⟨oe rfl rfl,oe rfl rfl,oe rfl rfl,oe rfl rfl,rfl⟩⟩
   ·refine bB (key:=4) 4 rfl rfl aA rfl ⟨rfl,rfl,rfl,rfl,trivial⟩ ?_;refine WO.two (i:=3) (j:=5) (by kernel_rfl) ?_ ?_
    ·refine cE 3 rfl (bM hb) bL ⟨aF rfl,rfl⟩ (kF ((0:Int))) ?_;refine cU (key:=5) 5 (by kernel_rfl) rfl rfl aA rfl ⟨rfl,rfl,rfl,rfl,trivial⟩ ?_
     refine aL 6 (by kernel_rfl) rfl rfl aA rfl rfl rfl rfl ⟨rfl,rfl,rfl,rfl,trivial⟩ ?_
     refine dst 7 ?_;refine aU ?_;exact⟨(),trivial,aM h0 [2,3,4,5] _ _ (by decide) ⟨rfl,rfl,rfl,rfl,trivial⟩ ⟨oe rfl rfl,oe rfl rfl,oe rfl rfl,oe rfl rfl,rfl⟩⟩
    refine bB (key:=5) 5 rfl rfl aA rfl ⟨rfl,rfl,rfl,rfl,trivial⟩ ?_;refine aK 3 rfl (bM hb) bL ⟨aF rfl,rfl⟩ (kF ((0:Int))) ?_
    refine aL 6 (by kernel_rfl) rfl rfl aA rfl rfl rfl rfl ⟨rfl,rfl,rfl,rfl,trivial⟩ ?_
    refine dst 7 ?_;refine aU ?_;exact⟨(),trivial,aM h0 [2,3,4,5] _ _ (by decide) ⟨rfl,rfl,rfl,rfl,trivial⟩ ⟨oe rfl rfl,oe rfl rfl,oe rfl rfl,oe rfl rfl,rfl⟩⟩
   refine bB (key:=4) 5 rfl rfl aA rfl ⟨rfl,rfl,rfl,rfl,trivial⟩ ?_;refine WO.two (i:=3) (j:=4) (by kernel_rfl) ?_ ?_
   ·refine cE 3 rfl (bM hb) bL ⟨aF rfl,rfl⟩ (kF ((0:Int))) ?_;refine cU (key:=5) 4 (by kernel_rfl) rfl rfl aA rfl ⟨rfl,rfl,rfl,rfl,trivial⟩ ?_
    refine aL 6 (by kernel_rfl) rfl rfl aA rfl rfl rfl rfl ⟨rfl,rfl,rfl,rfl,trivial⟩ ?_
    refine dst 7 ?_;refine aU ?_;exact⟨(),trivial,aM h0 [2,3,5,4] _ _ (by decide) ⟨rfl,rfl,rfl,rfl,trivial⟩ ⟨oe rfl rfl,oe rfl rfl,oe rfl rfl,oe rfl rfl,rfl⟩⟩
   refine bB (key:=5) 4 rfl rfl aA rfl ⟨rfl,rfl,rfl,rfl,trivial⟩ ?_;refine aK 3 rfl (bM hb) bL ⟨aF rfl,rfl⟩ (kF ((0:Int))) ?_
   refine aL 6 (by kernel_rfl) rfl rfl aA rfl rfl rfl rfl ⟨rfl,rfl,rfl,rfl,trivial⟩ ?_
   refine dst 7 ?_;refine aU ?_;exact⟨(),trivial,aM h0 [2,3,5,4] _ _ (by decide) ⟨rfl,rfl,rfl,rfl,trivial⟩ ⟨oe rfl rfl,oe rfl rfl,oe rfl rfl,oe rfl rfl,rfl⟩⟩
  ·refine bB (key:=4) 4 rfl rfl aA rfl ⟨rfl,rfl,rfl,rfl,trivial⟩ ?_;refine WO.two (i:=1) (j:=5) (by kernel_rfl) ?_ ?_
   ·refine cE 1 rfl (bM ha) bL ⟨aF rfl,rfl⟩ (kF (k)) ?_;refine WO.two (i:=3) (j:=5) (by kernel_rfl) ?_ ?_
    ·refine cE 3 rfl (bM hb) bL ⟨aF rfl,rfl⟩ (kF ((0:Int))) ?_;refine cU (key:=5) 5 (by kernel_rfl) rfl rfl aA rfl ⟨rfl,rfl,rfl,rfl,trivial⟩ ?_
     refine aL 6 (by kernel_rfl) rfl rfl aA rfl rfl rfl rfl ⟨rfl,rfl,rfl,rfl,trivial⟩ ?_
     refine dst 7 ?_;refine aU ?_;exact⟨(),trivial,aM h0 [2,3,4,5] _ _ (by decide) ⟨rfl,rfl,rfl,rfl,trivial⟩ ⟨oe rfl rfl,oe rfl rfl,oe rfl rfl,oe rfl rfl,rfl⟩⟩
    refine bB (key:=5) 5 rfl rfl aA rfl ⟨rfl,rfl,rfl,rfl,trivial⟩ ?_;refine aK 3 rfl (bM hb) bL ⟨aF rfl,rfl⟩ (kF ((0:Int))) ?_
    refine aL 6 (by kernel_rfl) rfl rfl aA rfl rfl rfl rfl ⟨rfl,rfl,rfl,rfl,trivial⟩ ?_
    refine dst 7 ?_;refine aU ?_;exact⟨(),trivial,aM h0 [2,3,4,5] _ _ (by decide) ⟨rfl,rfl,rfl,rfl,trivial⟩ ⟨oe rfl rfl,oe rfl rfl,oe rfl rfl,oe rfl rfl,rfl⟩⟩
   refine bB (key:=5) 5 rfl rfl aA rfl ⟨rfl,rfl,rfl,rfl,trivial⟩ ?_;refine aK 1 rfl (bM ha) bL ⟨aF rfl,rfl⟩ (kF (k)) ?_
   refine aK 3 rfl (bM hb) bL ⟨aF rfl,rfl⟩ (kF ((0:Int))) ?_;refine aL 6 (by kernel_rfl) rfl rfl aA rfl rfl rfl rfl ⟨rfl,rfl,rfl,rfl,trivial⟩ ?_
   refine dst 7 ?_;refine aU ?_;exact⟨(),trivial,aM h0 [2,3,4,5] _ _ (by decide) ⟨rfl,rfl,rfl,rfl,trivial⟩ ⟨oe rfl rfl,oe rfl rfl,oe rfl rfl,oe rfl rfl,rfl⟩⟩
  refine bB (key:=4) 5 rfl rfl aA rfl ⟨rfl,rfl,rfl,rfl,trivial⟩ ?_;refine WO.two (i:=1) (j:=4) (by kernel_rfl) ?_ ?_
  ·refine cE 1 rfl (bM ha) bL ⟨aF rfl,rfl⟩ (kF (k)) ?_;refine WO.two (i:=3) (j:=4) (by kernel_rfl) ?_ ?_
   ·refine cE 3 rfl (bM hb) bL ⟨aF rfl,rfl⟩ (kF ((0:Int))) ?_;refine cU (key:=5) 4 (by kernel_rfl) rfl rfl aA rfl ⟨rfl,rfl,rfl,rfl,trivial⟩ ?_
    refine aL 6 (by kernel_rfl) rfl rfl aA rfl rfl rfl rfl ⟨rfl,rfl,rfl,rfl,trivial⟩ ?_
    refine dst 7 ?_;refine aU ?_;exact⟨(),trivial,aM h0 [2,3,5,4] _ _ (by decide) ⟨rfl,rfl,rfl,rfl,trivial⟩ ⟨oe rfl rfl,oe rfl rfl,oe rfl rfl,oe rfl rfl,rfl⟩⟩
   refine bB (key:=5) 4 rfl rfl aA rfl ⟨rfl,rfl,rfl,rfl,trivial⟩ ?_;refine aK 3 rfl (bM hb) bL ⟨aF rfl,rfl⟩ (kF ((0:Int))) ?_
   refine aL 6 (by kernel_rfl) rfl rfl aA rfl rfl rfl rfl ⟨rfl,rfl,rfl,rfl,trivial⟩ ?_
   refine dst 7 ?_;refine aU ?_;exact⟨(),trivial,aM h0 [2,3,5,4] _ _ (by decide) ⟨rfl,rfl,rfl,rfl,trivial⟩ ⟨oe rfl rfl,oe rfl rfl,oe rfl rfl,oe rfl rfl,rfl⟩⟩
  refine bB (key:=5) 4 rfl rfl aA rfl ⟨rfl,rfl,rfl,rfl,trivial⟩ ?_;refine aK 1 rfl (bM ha) bL ⟨aF rfl,rfl⟩ (kF (k)) ?_
  refine aK 3 rfl (bM hb) bL ⟨aF rfl,rfl⟩ (kF ((0:Int))) ?_;refine aL 6 (by kernel_rfl) rfl rfl aA rfl rfl rfl rfl ⟨rfl,rfl,rfl,rfl,trivial⟩ ?_
  refine dst 7 ?_;refine aU ?_;exact⟨(),trivial,aM h0 [2,3,5,4] _ _ (by decide) ⟨rfl,rfl,rfl,rfl,trivial⟩ ⟨oe rfl rfl,oe rfl rfl,oe rfl rfl,oe rfl rfl,rfl⟩⟩
 refine sq ?_;refine rl ?_;refine o1 ?_;refine o1 ?_;refine ld ?_;refine o1 ?_;refine o1 ?_;refine ld ?_
 refine ca (Et (aE (by omega) k.natAbs) (aE (by omega) (0:Int).natAbs) (by omega) (by decide) rfl) Oi ⟨a1 rfl,a1 rfl,rfl⟩ (.tup [.one (.t (sU false [])),.one (.t (sU false [])),.one (tv (.int .i64 20))]) ?_
 (iterate 7 refine o1 ?_);refine nl ?_;refine sq ?_;refine sq ?_;refine rl ?_;refine o1 ?_;refine o1 ?_;refine WL.cast (t:=27) (u':=.bool true) rfl (congrArg Value.bool rfl) ?_
 refine nl ?_;refine nB rfl ?_;refine sq ?_;refine rl ?_;refine o1 ?_;refine o1 ?_;refine st ?_;refine st ?_;refine o1 ?_;refine nl ?_;refine rt ?_
 exact en (.inl rfl) rfl (nW (.cons (.agg (.cons (.id rfl) (.cons (.nil (t:=70) (z:=1)) .nil))) (.cons (.agg (.cons (.id rfl) (.cons (.nil (t:=70) (z:=1)) .nil))) (.cons (cR _) .nil)))) (by decide) (fun _=>⟨cK 0,cK 0,trivial,trivial⟩) rfl
theorem Ew {a b:Zi}{k k':Int}(ha:Zg a k) (hb:Zg b k'):aI true Tryd.prog 20 [] [gF a,gF b] (bF (.tup [kO (if k'=0 then 0 else k.fdiv k'),kO (if k'=0 then 0 else k.fmod k'),.one (tv (.int .i64 (if k'=0 then 20 else 0)))])):=by
 by_cases h:k'=0
 ·subst h
  exact Eu ha hb
 rw[if_neg h,if_neg h,if_neg h]
 exact wW ha hb h
theorem Qq {a:Zi}{k:Int}(ha:Zn a k):aI true Tryd.prog 18 [] [gF a] (bF (kO (((k.natAbs:Nat):Int)))):=by
 refine cF Tryd.func18 rfl Tryd.ntmps18 rfl aA rfl fun N w c0 h0=>?_
 have hkl:=ha.len
 refine sq ?_;refine rl ?_;refine bx 0 ?_;refine al 1 ?_;refine nl ?_;refine sq ?_;refine rl ?_;refine ld ?_;refine ca (dO ha) iK ⟨aF rfl,rfl⟩ (kF (k)) ?_;refine o1 ?_
 refine jJ 2 (fI (b:=false) (xs:=dg 4294967296 k.natAbs) (K:=((k.natAbs:Nat):Int)) (by omega) (aE (by omega) _) (by rw[aV];rfl)) bY ⟨a1 rfl,a1 rfl,rfl⟩ ?_
 refine st ?_;refine nl ?_;refine rt ?_
 exact en (.inl rfl) rfl (bN (.agg (.cons (.id rfl) (.cons (.sl (trs:=aG (dg 4294967296 (((k.natAbs:Nat):Int)).natAbs)) rfl rfl (bK _) (bI _)) .nil)))) (by decide) (fun _=>cK (((k.natAbs:Nat):Int))) rfl
def gG (xs:List Nat) (k:Nat):List Nat:=List.replicate k 77++xs.drop k
theorem Hp {xs:List Nat}{k:Nat}(h:k≤xs.length):(gG xs k).length=xs.length:=by simp[gG];omega
theorem Hq {xs:List Nat}{k:Nat}(h:k<xs.length):(gG xs k).set k 77=gG xs (k+1):=by
 unfold gG
 rw[List.set_append_right _ _ (by simp),List.length_replicate,Nat.sub_self,List.drop_eq_getElem_cons h,List.set_cons_zero,List.replicate_succ',List.append_assoc]
 rfl
theorem Hr {xs:List Nat}{k:Nat}(h:xs.length≤k) (h':k≤xs.length):gG xs k=List.replicate xs.length 77:=by
 have:k=xs.length:=by omega
 simp[gG,this]
theorem Ma {a:Zi}(hx:a.x.length≤1099511627776):aI false Tryd.prog 22 [⟨70,1,(aG a.x).map .t⟩] [.agg [tv (.bool a.s),.sl 0 0 a.x.length]] (Rt [⟨70,1,(aG (List.replicate a.x.length 77)).map .t⟩] (.tup [])):=by
 refine Sp Tryd.func22 rfl Tryd.ntmps22 rfl aA rfl fun N9 M9 w9 c0 h0=>?_
 refine sq ?_;refine rl ?_;refine bx 1 ?_;refine nl ?_;refine sq ?_;refine rl ?_;refine o1 ?_;refine nl ?_;refine bl ?_
 refine lp (γ:=Nat) (fun i=>cP [(1,.one (.pt 1 0)),(2,.one (tv (.int .i64 ((i:Nat):Int))))]) (fun i=>[(⟨70,1,(aG (gG a.x i)).map .t⟩:Ob),⟨24,0,[tv (.bool a.s),.sl 0 0 a.x.length]⟩].map some) (fun i=>i≤a.x.length) (fun i=>a.x.length-i) 0 (Nat.zero_le _) (Cu h0 [0,1] _ _ (by decide) rfl ⟨rfl,rfl,trivial⟩ ⟨cC rfl,oe rfl rfl,rfl⟩) fun i hi=>?_
 have hli:=Hp (xs:=a.x) (k:=i) hi
 refine sq ?_;refine sq ?_;refine rl ?_;refine o1 ?_;refine o1 ?_;refine ld ?_;refine o1 ?_;refine o1 ?_;refine nl ?_;refine cH rfl (fun h1=>?_) (fun h1=>?_)
 ·refine sk ?_;refine sq ?_;refine bl ?_;refine rl ?_;refine o1 ?_;refine ld ?_;refine o1 ?_;refine o1 ?_
  refine tM (sQ (gG a.x i) (k:=i) (v:=77) (by omega)) (wN (gG a.x i) (by omega)) ?_
  refine nl ?_;refine rl ?_;refine o1 ?_;refine o1 ?_;refine WL.cast (t:=9) (u':=.int .i64 ((i+1:Nat):Int)) rfl (aJ (by omega)) ?_
  refine o1 ?_;refine nl ?_
  exact⟨i+1,by omega,by omega,Cu h0 [0,1] _ _ (by decide) rfl ⟨rfl,rfl,trivial⟩ ⟨cC (congrArg (fun l:List Nat=>some (⟨70,1,(aG l).map .t⟩:Ob)) (Hq (by omega))),oe rfl rfl,rfl⟩⟩
 refine ex ?_
 exact Sq (lent':=[⟨70,1,(aG (List.replicate a.x.length 77)).map .t⟩]) (.inr rfl) rfl (Sr) (by decide) (fun _ h=>by cases h) ⟨⟨rfl,rfl⟩,trivial⟩ ⟨congrArg (fun l:List Nat=>some (⟨70,1,(aG l).map .t⟩:Ob)) (Hr (by omega) hi),trivial⟩ ⟨vH _,trivial⟩ (fun h=>by cases h) ⟨rfl,rfl⟩
def tU (k k':Int):List Zi:=[.of (k+k'),.of (k-k'),.of (k*k'),.of (-k),.of (((k.natAbs:Nat):Int)),.of (((Int.gcd k k':Nat):Int)),.of (((if k'=0 then 0 else k.fdiv k'):Int)),.of (((if k'=0 then 0 else k.fmod k'):Int))]
theorem Jf:∀{zs:List Zi}{i:Nat},i<zs.length→((zs.flatMap (lL true)).map AV.t)[0+i*2+1]? =some (.t (sU true (iE zs i).x))
 | [],_,h=>by simp at h
 | _::_,0,_=>rfl
 | z::zs,i+1,h=>by
  rw[show 0+(i+1)*2+1=(0+i*2+1)+1+1 by omega]
  exact Jf (zs:=zs) (i:=i) (by simpa using h)
theorem xA {y:AV}:∀{zs:List Zi}{i:Nat},i<zs.length→((((zs.flatMap (lL true)).map AV.t).set (0+i*2+1) y).drop (0+i*2)).take 2=[tv (.bool (iE zs i).s),y]
 | [],_,h=>by simp at h
 | _::_,0,_=>rfl
 | z::zs,i+1,h=>by
  rw[show 0+(i+1)*2+1=(0+i*2+1)+1+1 by omega,show 0+(i+1)*2=(0+i*2)+1+1 by omega]
  exact xA (zs:=zs) (i:=i) (by simpa using h)
theorem Ex:∀{zs:List Zi}{i:Nat},i<zs.length→(((zs.flatMap (lL false)).map AV.t).drop (0+i*2)).take 2=(lL false (iE zs i)).map .t
 | [],_,h=>by simp at h
 | _::_,0,_=>rfl
 | z::zs,i+1,h=>by
  rw[show 0+(i+1)*2=(0+i*2)+1+1 by omega]
  exact Ex (zs:=zs) (i:=i) (by simpa using h)
theorem Ey {y:AV}{xs:List Nat}:∀{zs:List Zi}{i:Nat},i<zs.length→(((zs.flatMap (lL true)).map AV.t).set (0+i*2+1) y).set (0+i*2+1) (.t (sU true xs))=(((zs.set i ⟨(iE zs i).s,xs⟩)).flatMap (lL true)).map .t
 | [],_,h=>by simp at h
 | _::_,0,_=>rfl
 | z::zs,i+1,h=>by
  rw[show 0+(i+1)*2+1=(0+i*2+1)+1+1 by omega]
  exact congrArg (fun l=>tv (.bool z.s)::AV.t (sU true z.x)::l) (Ey (zs:=zs) (i:=i) (by simpa using h))
theorem Ht {zs:List Zi}{i j:Nat}{z:Zi}(h:i≠j):iE (zs.set i z) j=iE zs j:=by
 unfold iE
 rw[List.getD_eq_getElem?_getD,List.getD_eq_getElem?_getD,List.getElem?_set_ne h]
theorem Jg {k k' z:Int}(hk:k.natAbs<4294967296^30) (hk':k'.natAbs<4294967296^30) (h:z∈[k+k',k-k',k*k',-k,((k.natAbs:Nat):Int),((Int.gcd k k':Nat):Int),((if k'=0 then 0 else k.fdiv k'):Int),((if k'=0 then 0 else k.fmod k'):Int)]):z.natAbs<4294967296^61:=by
 have e1:(4294967296:Nat)^30*4≤4294967296^61:=by decide
 simp only[List.mem_cons,List.not_mem_nil,or_false]at h
 rcases h with rfl | rfl | rfl | rfl | rfl | rfl | rfl | rfl
 ·omega
 ·omega
 ·rw[Int.natAbs_mul]
  exact Nat.lt_of_lt_of_le (Nat.mul_lt_mul'' hk hk') (by decide)
 ·omega
 ·omega
 ·rw[Int.natAbs_natCast]
  have h1:=Int.gcd_dvd_natAbs_left k k'
  have h2:=Int.gcd_dvd_natAbs_right k k'
  rcases Nat.eq_zero_or_pos k.natAbs with h0 | h0
  ·rcases Nat.eq_zero_or_pos k'.natAbs with h3 | h3
   ·have:Int.gcd k k'=0:=by rw[Int.gcd,h0,h3];rfl
    omega
   have:=Nat.le_of_dvd h3 h2
   omega
  have:=Nat.le_of_dvd h0 h1
  omega
 ·split
  ·decide
  rw[Int.fdiv_eq_ediv]
  have h1:=Int.natAbs_ediv_le_natAbs k k'
  split <;> omega
 split
 ·decide
 rename_i h0
 rw[Int.fmod_eq_emod]
 have h1:=Int.emod_nonneg k h0
 have h2:=Int.emod_lt_of_pos k (show 0<(k'.natAbs:Int) by omega)
 have h3:k%(k'.natAbs:Int)=k%k':=by
  rcases Int.natAbs_eq k' with h4 | h4
  ·rw[←h4]
  conv=>rhs;rw[h4,Int.emod_neg]
 split <;> omega
theorem Qr {k k':Int}{i:Nat}(hk:k.natAbs<4294967296^30) (hk':k'.natAbs<4294967296^30) (h:i<8):(iE (tU k k') i).x.length≤61:=by
 have h1:∀z∈tU k k',z.x.length≤61:=fun z hz=>by
  have h2:tU k k'=([k+k',k-k',k*k',-k,((k.natAbs:Nat):Int),((Int.gcd k k':Nat):Int),((if k'=0 then 0 else k.fdiv k'):Int),((if k'=0 then 0 else k.fmod k'):Int)]:List Int).map .of:=rfl
  rw[h2]at hz
  obtain⟨y,h3,rfl⟩:=List.mem_map.1 hz
  exact cD (by omega) (Jg hk hk' h3)
 exact h1 _ (Hm h)
set_option maxHeartbeats 4000000 in
theorem xB {a b:Zi}(hla:Lim 4294967296 a.x) (hlb:Lim 4294967296 b.x):aI true Tryd.prog 3 [] [gF a,gF b] (bF (.one (tv (.bool true)))):=by
 refine cF Tryd.func3 rfl Tryd.ntmps3 rfl aA rfl fun N9 w9 c0 h0=>?_
 refine sq ?_;refine rl ?_;refine bx 0 ?_;refine bx 1 ?_;refine o1 ?_;refine nl ?_;refine sq ?_;refine sq ?_;refine rl ?_;refine o1 ?_;refine ld ?_;(iterate 3 refine o1 ?_)
 refine WL.split (t:=21) rfl (fun h1=>?_) (fun h1=>?_)
 ·(iterate 4 refine gE ?_);refine o1 ?_;refine nl ?_;refine nB rfl ?_;refine sq ?_;refine rl ?_;refine ca (sV) Ns rfl (.one (tv (.bool true))) ?_;refine o1 ?_;refine nl ?_
  refine rt ?_;exact rF (.inl rfl) rfl (rfl)
 refine o1 ?_;refine ld ?_;(iterate 3 refine o1 ?_);refine nl ?_;refine cH rfl (fun h2=>?_) (fun h2=>?_)
 ·refine sq ?_;refine rl ?_;refine ca (sV) Ns rfl (.one (tv (.bool true))) ?_;refine o1 ?_;refine nl ?_;refine rt ?_;exact rF (.inl rfl) rfl (rfl)
 refine sk ?_;obtain⟨k,hka⟩:∃k,k=zv a:=⟨_,rfl⟩
 obtain⟨k',hkb⟩:∃k,k=zv b:=⟨_,rfl⟩
 have hza:ZL 30 a:=⟨hla,by omega⟩
 have hzb:ZL 30 b:=⟨hlb,by omega⟩
 have ha:Zn a k:=hka▸hza.n (by omega)
 have hb:Zn b k':=hkb▸hzb.n (by omega)
 have hk:k.natAbs<4294967296^30:=hka▸Jd hza
 have hk':k'.natAbs<4294967296^30:=hkb▸Jd hzb
 refine md (γ:=Unit) (fun _=>cP [(2,.one (.pt 0 0)),(3,.one (.pt 1 0)),(5,.one (.pt 2 0)),(6,.one (.pt 3 0))]) (fun _=>([⟨24,0,[tv (.bool a.s),.t (sU false a.x)]⟩,⟨24,0,[tv (.bool b.s),.t (sU false b.x)]⟩,⟨26,0,[tv (.bool a.s),.t (sU false a.x)]⟩,⟨26,0,[tv (.bool b.s),.t (sU false b.x)]⟩]:List Ob).map some) (fun _=>True) ?_ fun _ _=>?_
 ·refine rd [0,1] (fun i=>[7].contains i) mixed ?_
  refine aZ 0 ?_;refine aZ 2 ?_;refine WO.three (i:=1) (j:=4) (m:=5) (by kernel_rfl) ?_ ?_ ?_
  ·refine cE 1 rfl (eR (a:=a) (by omega)) iX ⟨aF rfl,rfl⟩ (gF a) ?_
   refine WO.three (i:=3) (j:=4) (m:=5) (by kernel_rfl) ?_ ?_ ?_
   ·refine cE 3 rfl (eR (a:=b) (by omega)) iX ⟨aF rfl,rfl⟩ (gF b) ?_
    refine WO.two (i:=4) (j:=5) (by kernel_rfl) ?_ ?_
    ·refine bB (key:=2) 4 rfl rfl aA rfl ⟨rfl,rfl,trivial⟩ ?_;refine cU (key:=3) 5 (by kernel_rfl) rfl rfl aA rfl ⟨rfl,rfl,trivial⟩ ?_
     refine aL 6 (by kernel_rfl) rfl rfl aA rfl rfl rfl rfl ⟨rfl,rfl,trivial⟩ ?_
     refine dst 7 ?_;refine aU ?_;exact⟨(),trivial,aM h0 [0,1,2,3] _ _ (by decide) ⟨rfl,rfl,rfl,rfl,trivial⟩ ⟨oe rfl rfl,oe rfl rfl,oe rfl rfl,oe rfl rfl,rfl⟩⟩
    refine bB (key:=2) 5 rfl rfl aA rfl ⟨rfl,rfl,trivial⟩ ?_;refine cU (key:=3) 4 (by kernel_rfl) rfl rfl aA rfl ⟨rfl,rfl,trivial⟩ ?_
    refine aL 6 (by kernel_rfl) rfl rfl aA rfl rfl rfl rfl ⟨rfl,rfl,trivial⟩ ?_
    refine dst 7 ?_;refine aU ?_;exact⟨(),trivial,aM h0 [0,1,3,2] _ _ (by decide) ⟨rfl,rfl,rfl,rfl,trivial⟩ ⟨oe rfl rfl,oe rfl rfl,oe rfl rfl,oe rfl rfl,rfl⟩⟩
   ·refine bB (key:=2) 4 rfl rfl aA rfl ⟨rfl,rfl,trivial⟩ ?_;refine WO.two (i:=3) (j:=5) (by kernel_rfl) ?_ ?_
    ·refine cE 3 rfl (eR (a:=b) (by omega)) iX ⟨aF rfl,rfl⟩ (gF b) ?_
     refine cU (key:=3) 5 (by kernel_rfl) rfl rfl aA rfl ⟨rfl,rfl,trivial⟩ ?_
     refine aL 6 (by kernel_rfl) rfl rfl aA rfl rfl rfl rfl ⟨rfl,rfl,trivial⟩ ?_
     refine dst 7 ?_;refine aU ?_;exact⟨(),trivial,aM h0 [0,1,2,3] _ _ (by decide) ⟨rfl,rfl,rfl,rfl,trivial⟩ ⟨oe rfl rfl,oe rfl rfl,oe rfl rfl,oe rfl rfl,rfl⟩⟩
    refine bB (key:=3) 5 rfl rfl aA rfl ⟨rfl,rfl,trivial⟩ ?_;refine aK 3 rfl (eR (a:=b) (by omega)) iX ⟨aF rfl,rfl⟩ (gF b) ?_
    refine aL 6 (by kernel_rfl) rfl rfl aA rfl rfl rfl rfl ⟨rfl,rfl,trivial⟩ ?_
    refine dst 7 ?_;refine aU ?_;exact⟨(),trivial,aM h0 [0,1,2,3] _ _ (by decide) ⟨rfl,rfl,rfl,rfl,trivial⟩ ⟨oe rfl rfl,oe rfl rfl,oe rfl rfl,oe rfl rfl,rfl⟩⟩
   refine bB (key:=2) 5 rfl rfl aA rfl ⟨rfl,rfl,trivial⟩ ?_;refine WO.two (i:=3) (j:=4) (by kernel_rfl) ?_ ?_
   ·refine cE 3 rfl (eR (a:=b) (by omega)) iX ⟨aF rfl,rfl⟩ (gF b) ?_
    refine cU (key:=3) 4 (by kernel_rfl) rfl rfl aA rfl ⟨rfl,rfl,trivial⟩ ?_
    refine aL 6 (by kernel_rfl) rfl rfl aA rfl rfl rfl rfl ⟨rfl,rfl,trivial⟩ ?_
    refine dst 7 ?_;refine aU ?_;exact⟨(),trivial,aM h0 [0,1,3,2] _ _ (by decide) ⟨rfl,rfl,rfl,rfl,trivial⟩ ⟨oe rfl rfl,oe rfl rfl,oe rfl rfl,oe rfl rfl,rfl⟩⟩
   refine bB (key:=3) 4 rfl rfl aA rfl ⟨rfl,rfl,trivial⟩ ?_;refine aK 3 rfl (eR (a:=b) (by omega)) iX ⟨aF rfl,rfl⟩ (gF b) ?_
   refine aL 6 (by kernel_rfl) rfl rfl aA rfl rfl rfl rfl ⟨rfl,rfl,trivial⟩ ?_
   refine dst 7 ?_;refine aU ?_;exact⟨(),trivial,aM h0 [0,1,3,2] _ _ (by decide) ⟨rfl,rfl,rfl,rfl,trivial⟩ ⟨oe rfl rfl,oe rfl rfl,oe rfl rfl,oe rfl rfl,rfl⟩⟩
  ·refine bB (key:=2) 4 rfl rfl aA rfl ⟨rfl,rfl,trivial⟩ ?_;refine WO.two (i:=1) (j:=5) (by kernel_rfl) ?_ ?_
   ·refine cE 1 rfl (eR (a:=a) (by omega)) iX ⟨aF rfl,rfl⟩ (gF a) ?_
    refine WO.two (i:=3) (j:=5) (by kernel_rfl) ?_ ?_
    ·refine cE 3 rfl (eR (a:=b) (by omega)) iX ⟨aF rfl,rfl⟩ (gF b) ?_
     refine cU (key:=3) 5 (by kernel_rfl) rfl rfl aA rfl ⟨rfl,rfl,trivial⟩ ?_
     refine aL 6 (by kernel_rfl) rfl rfl aA rfl rfl rfl rfl ⟨rfl,rfl,trivial⟩ ?_
     refine dst 7 ?_;refine aU ?_;exact⟨(),trivial,aM h0 [0,1,2,3] _ _ (by decide) ⟨rfl,rfl,rfl,rfl,trivial⟩ ⟨oe rfl rfl,oe rfl rfl,oe rfl rfl,oe rfl rfl,rfl⟩⟩
    refine bB (key:=3) 5 rfl rfl aA rfl ⟨rfl,rfl,trivial⟩ ?_;refine aK 3 rfl (eR (a:=b) (by omega)) iX ⟨aF rfl,rfl⟩ (gF b) ?_
    refine aL 6 (by kernel_rfl) rfl rfl aA rfl rfl rfl rfl ⟨rfl,rfl,trivial⟩ ?_
    refine dst 7 ?_;refine aU ?_;exact⟨(),trivial,aM h0 [0,1,2,3] _ _ (by decide) ⟨rfl,rfl,rfl,rfl,trivial⟩ ⟨oe rfl rfl,oe rfl rfl,oe rfl rfl,oe rfl rfl,rfl⟩⟩
   refine bB (key:=3) 5 rfl rfl aA rfl ⟨rfl,rfl,trivial⟩ ?_;refine aK 1 rfl (eR (a:=a) (by omega)) iX ⟨aF rfl,rfl⟩ (gF a) ?_
   refine aK 3 rfl (eR (a:=b) (by omega)) iX ⟨aF rfl,rfl⟩ (gF b) ?_
   refine aL 6 (by kernel_rfl) rfl rfl aA rfl rfl rfl rfl ⟨rfl,rfl,trivial⟩ ?_
   refine dst 7 ?_;refine aU ?_;exact⟨(),trivial,aM h0 [0,1,2,3] _ _ (by decide) ⟨rfl,rfl,rfl,rfl,trivial⟩ ⟨oe rfl rfl,oe rfl rfl,oe rfl rfl,oe rfl rfl,rfl⟩⟩
  refine bB (key:=2) 5 rfl rfl aA rfl ⟨rfl,rfl,trivial⟩ ?_;refine WO.two (i:=1) (j:=4) (by kernel_rfl) ?_ ?_
  ·refine cE 1 rfl (eR (a:=a) (by omega)) iX ⟨aF rfl,rfl⟩ (gF a) ?_
   refine WO.two (i:=3) (j:=4) (by kernel_rfl) ?_ ?_
   ·refine cE 3 rfl (eR (a:=b) (by omega)) iX ⟨aF rfl,rfl⟩ (gF b) ?_
    refine cU (key:=3) 4 (by kernel_rfl) rfl rfl aA rfl ⟨rfl,rfl,trivial⟩ ?_
    refine aL 6 (by kernel_rfl) rfl rfl aA rfl rfl rfl rfl ⟨rfl,rfl,trivial⟩ ?_
    refine dst 7 ?_;refine aU ?_;exact⟨(),trivial,aM h0 [0,1,3,2] _ _ (by decide) ⟨rfl,rfl,rfl,rfl,trivial⟩ ⟨oe rfl rfl,oe rfl rfl,oe rfl rfl,oe rfl rfl,rfl⟩⟩
   refine bB (key:=3) 4 rfl rfl aA rfl ⟨rfl,rfl,trivial⟩ ?_;refine aK 3 rfl (eR (a:=b) (by omega)) iX ⟨aF rfl,rfl⟩ (gF b) ?_
   refine aL 6 (by kernel_rfl) rfl rfl aA rfl rfl rfl rfl ⟨rfl,rfl,trivial⟩ ?_
   refine dst 7 ?_;refine aU ?_;exact⟨(),trivial,aM h0 [0,1,3,2] _ _ (by decide) ⟨rfl,rfl,rfl,rfl,trivial⟩ ⟨oe rfl rfl,oe rfl rfl,oe rfl rfl,oe rfl rfl,rfl⟩⟩
  refine bB (key:=3) 4 rfl rfl aA rfl ⟨rfl,rfl,trivial⟩ ?_;refine aK 1 rfl (eR (a:=a) (by omega)) iX ⟨aF rfl,rfl⟩ (gF a) ?_
  refine aK 3 rfl (eR (a:=b) (by omega)) iX ⟨aF rfl,rfl⟩ (gF b) ?_
  refine aL 6 (by kernel_rfl) rfl rfl aA rfl rfl rfl rfl ⟨rfl,rfl,trivial⟩ ?_
  refine dst 7 ?_;refine aU ?_;exact⟨(),trivial,aM h0 [0,1,3,2] _ _ (by decide) ⟨rfl,rfl,rfl,rfl,trivial⟩ ⟨oe rfl rfl,oe rfl rfl,oe rfl rfl,oe rfl rfl,rfl⟩⟩
 refine sq ?_;refine rl ?_;refine ld ?_;refine ld ?_
 refine ca (Em ha hb) Vi ⟨aF rfl,aF rfl,rfl⟩ (.tup [kF ((if k'=0 then 0 else k.fdiv k'):Int),kF ((if k'=0 then 0 else k.fmod k'):Int),.one (tv (.int .i64 (if k'=0 then 20 else 0)))]) ?_
 (iterate 4 refine o1 ?_);refine al 4 ?_;refine al 5 ?_;refine st ?_;refine st ?_;refine o1 ?_;refine nl ?_;refine sq ?_;refine sq ?_;refine rl ?_;refine o1 ?_;refine nl ?_
 refine bl ?_
 refine lp (γ:=Nat) (fun t=>cP [(2,.one (.pt 0 0)),(3,.one (.pt 1 0)),(5,.one (.pt 2 0)),(6,.one (.pt 3 0)),(7,.one (.pt 4 0)),(8,.one (.pt 5 0)),(9,.one (tv (.int .i64 (if k'=0 then 20 else 0)))),(10,.one (tv (.int .i64 ((t:Nat):Int))))]) (fun t=>[(⟨24,0,[tv (.bool a.s),.t (sU false a.x)]⟩:Ob),⟨24,0,[tv (.bool b.s),.t (sU false b.x)]⟩,⟨26,0,[tv (.bool a.s),.t (sU false a.x)]⟩,⟨26,0,[tv (.bool b.s),.t (sU false b.x)]⟩,⟨26,0,[tv (.bool (aB (((if k'=0 then 0 else k.fdiv k'):Int)))),.t (sU false (dg 4294967296 (((if k'=0 then 0 else k.fdiv k'):Int)).natAbs))]⟩,⟨26,0,[tv (.bool (aB (((if k'=0 then 0 else k.fmod k'):Int)))),.t (sU false (dg 4294967296 (((if k'=0 then 0 else k.fmod k'):Int)).natAbs))]⟩].map some) (fun t=>t≤2∧True) (fun t=>2-t) 0 ⟨Nat.zero_le _,trivial⟩ (aM h0 [0,1,2,3,4,5] _ _ (by decide) ⟨rfl,rfl,rfl,rfl,rfl,rfl,rfl,rfl,trivial⟩ ⟨oe rfl rfl,oe rfl rfl,oe rfl rfl,oe rfl rfl,oe rfl rfl,oe rfl rfl,rfl⟩) fun t ht=>?_
 refine sq ?_;refine sq ?_;refine rl ?_;refine o1 ?_;refine o1 ?_;refine nl ?_;refine cH rfl (fun h3=>?_) (fun h3=>?_)
 ·refine sk ?_;refine sq ?_;refine bl ?_;refine sq ?_;refine rd [0,1,2,3,4,5] (fun i=>[17].contains i) mixed ?_
  refine aZ 0 ?_;refine aZ 1 ?_;refine aZ 3 ?_;refine aZ 4 ?_;refine aZ 6 ?_;refine aZ 7 ?_;refine aZ 9 ?_;refine aZ 11 ?_;refine aZ 13 ?_;refine aZ 14 ?_
  refine jK 6 2 rfl (Sf ha.g hb.g) Vj ⟨aF rfl,aF rfl,rfl⟩ ?_;refine jK 7 5 rfl (Iz ha.g hb.g) Ss ⟨aF rfl,aF rfl,rfl⟩ ?_
  refine jK 8 8 rfl (Jb ha.g hb.g) Nt ⟨aF rfl,aF rfl,rfl⟩ ?_;refine jK 9 10 rfl (Sd ha.g) Tx ⟨aF rfl,rfl⟩ ?_;refine jK 10 12 rfl (Se ha.g) Ty ⟨aF rfl,rfl⟩ ?_
  refine jK 11 15 rfl (Jc ha.g hb.g) Gc ⟨aF rfl,aF rfl,rfl⟩ ?_;refine vJ (key:=12) 16 (by kernel_rfl) rfl rfl aA rfl ⟨rfl,rfl,rfl,rfl,rfl,rfl,trivial⟩ ?_
  refine gD 17 (by kernel_rfl) rfl rfl aA rfl (by trivial) ?_ (fun h=>by first | rfl | cases h)
  refine aU ?_;refine sq ?_;refine rd [0,1,2,3,4,5,12] (fun i=>[17].contains i) mixed ?_
  refine aZ 0 ?_;refine aZ 1 ?_;refine aZ 3 ?_;refine aZ 4 ?_;refine aZ 6 ?_;refine aZ 7 ?_;refine aZ 9 ?_;refine aZ 11 ?_;refine aZ 13 ?_;refine aZ 14 ?_
  refine aK 2 rfl (wR ha hb) Gd ⟨aF rfl,aF rfl,rfl⟩ (kF (k+k')) ?_;refine aK 5 rfl (Ek ha hb) Nu ⟨aF rfl,aF rfl,rfl⟩ (kF (k-k')) ?_
  refine aK 8 rfl (Qi ha hb) Tz ⟨aF rfl,aF rfl,rfl⟩ (kF (k*k')) ?_;refine aK 10 rfl (Ej ha) Nv ⟨aF rfl,rfl⟩ (kF (-k)) ?_
  refine aK 12 rfl (Qq ha) Ua ⟨aF rfl,rfl⟩ (kF (((k.natAbs:Nat):Int))) ?_;refine aK 15 rfl (Qj ha hb) Ub ⟨aF rfl,aF rfl,rfl⟩ (kF (((Int.gcd k k':Nat):Int))) ?_
  refine vJ (key:=13) 16 (by kernel_rfl) rfl rfl aA rfl ⟨rfl,rfl,rfl,rfl,rfl,rfl,rfl,trivial⟩ ?_
  refine gD 17 (by kernel_rfl) rfl rfl aA rfl (by trivial) ?_ (fun h=>by first | rfl | cases h)
  refine aU ?_;refine sq ?_;refine rl ?_;refine ld ?_;refine ld ?_;refine jJ 14 (Ew ha.g hb.g) An ⟨aF rfl,aF rfl,rfl⟩ ?_;(iterate 4 refine o1 ?_);refine al 16 ?_
  refine al 17 ?_;refine st ?_;refine st ?_;refine o1 ?_;refine nl ?_;refine sq ?_;refine rl ?_;refine o1 ?_;refine ld ?_;refine ld ?_;refine bs 18 ?_
  refine fK (j:=19) (n:=6) (m:=2) aA rfl rfl rfl rfl (.sl rfl rfl) (.sl rfl rfl rfl) rfl rfl rfl (by omega) (by omega) ?_
  refine o1 ?_;refine nl ?_;refine sq ?_;refine rl ?_;refine o1 ?_;refine ld ?_;refine ld ?_;refine bs 20 ?_
  refine fK (j:=21) (n:=6) (m:=2) aA rfl rfl rfl rfl (.sl rfl rfl) (.sl rfl rfl rfl) rfl rfl rfl (by omega) (by omega) ?_
  refine o1 ?_;refine nl ?_;refine sq ?_;refine sq ?_;refine rl ?_;refine o1 ?_;refine nl ?_;refine bl ?_
  refine WP.sub (aM h0 [0,1,2,3,4,5,19,6,7,8,9,10,11,14,15,21] [(2,.one (.pt 0 0)),(3,.one (.pt 1 0)),(5,.one (.pt 2 0)),(6,.one (.pt 3 0)),(7,.one (.pt 4 0)),(8,.one (.pt 5 0)),(9,.one (tv (.int .i64 (if k'=0 then 20 else 0)))),(10,.one (tv (.int .i64 ((t:Nat):Int)))),(11,.one (.sl 6 0 (6+2))),(12,.one (.sl 15 0 (6+2))),(15,.one (tv (.int .i64 (if k'=0 then 20 else 0)))),(16,.one (tv (.int .i64 ((0:Nat):Int))))] [(⟨24,0,[tv (.bool a.s),.t (sU false a.x)]⟩:Ob),⟨24,0,[tv (.bool b.s),.t (sU false b.x)]⟩,⟨26,0,[tv (.bool a.s),.t (sU false a.x)]⟩,⟨26,0,[tv (.bool b.s),.t (sU false b.x)]⟩,⟨26,0,[tv (.bool (aB (((if k'=0 then 0 else k.fdiv k'):Int)))),.t (sU false (dg 4294967296 (((if k'=0 then 0 else k.fdiv k'):Int)).natAbs))]⟩,⟨26,0,[tv (.bool (aB (((if k'=0 then 0 else k.fmod k'):Int)))),.t (sU false (dg 4294967296 (((if k'=0 then 0 else k.fmod k'):Int)).natAbs))]⟩,⟨24,2,[tv (.bool (aB (k+k'))),.sl 7 0 ((dg 4294967296 (k+k').natAbs).length),tv (.bool (aB (k-k'))),.sl 8 0 ((dg 4294967296 (k-k').natAbs).length),tv (.bool (aB (k*k'))),.sl 9 0 ((dg 4294967296 (k*k').natAbs).length),tv (.bool (aB (-k))),.sl 10 0 ((dg 4294967296 (-k).natAbs).length),tv (.bool (aB (((k.natAbs:Nat):Int)))),.sl 11 0 ((dg 4294967296 (((k.natAbs:Nat):Int)).natAbs).length),tv (.bool (aB (((Int.gcd k k':Nat):Int)))),.sl 12 0 ((dg 4294967296 (((Int.gcd k k':Nat):Int)).natAbs).length),tv (.bool (aB (((if k'=0 then 0 else k.fdiv k'):Int)))),.sl 13 0 ((dg 4294967296 (((if k'=0 then 0 else k.fdiv k'):Int)).natAbs).length),tv (.bool (aB (((if k'=0 then 0 else k.fmod k'):Int)))),.sl 14 0 ((dg 4294967296 (((if k'=0 then 0 else k.fmod k'):Int)).natAbs).length)]⟩,⟨70,1,(aG (dg 4294967296 (k+k').natAbs)).map .t⟩,⟨70,1,(aG (dg 4294967296 (k-k').natAbs)).map .t⟩,⟨70,1,(aG (dg 4294967296 (k*k').natAbs)).map .t⟩,⟨70,1,(aG (dg 4294967296 (-k).natAbs)).map .t⟩,⟨70,1,(aG (dg 4294967296 (((k.natAbs:Nat):Int)).natAbs)).map .t⟩,⟨70,1,(aG (dg 4294967296 (((Int.gcd k k':Nat):Int)).natAbs)).map .t⟩,⟨70,1,(aG (dg 4294967296 (((if k'=0 then 0 else k.fdiv k'):Int)).natAbs)).map .t⟩,⟨70,1,(aG (dg 4294967296 (((if k'=0 then 0 else k.fmod k'):Int)).natAbs)).map .t⟩,⟨26,2,[tv (.bool (aB (k+k'))),.t (sU false (dg 4294967296 (k+k').natAbs)),tv (.bool (aB (k-k'))),.t (sU false (dg 4294967296 (k-k').natAbs)),tv (.bool (aB (k*k'))),.t (sU false (dg 4294967296 (k*k').natAbs)),tv (.bool (aB (-k))),.t (sU false (dg 4294967296 (-k).natAbs)),tv (.bool (aB (((k.natAbs:Nat):Int)))),.t (sU false (dg 4294967296 (((k.natAbs:Nat):Int)).natAbs)),tv (.bool (aB (((Int.gcd k k':Nat):Int)))),.t (sU false (dg 4294967296 (((Int.gcd k k':Nat):Int)).natAbs)),tv (.bool (aB (((if k'=0 then 0 else k.fdiv k'):Int)))),.t (sU false (dg 4294967296 (((if k'=0 then 0 else k.fdiv k'):Int)).natAbs)),tv (.bool (aB (((if k'=0 then 0 else k.fmod k'):Int)))),.t (sU false (dg 4294967296 (((if k'=0 then 0 else k.fmod k'):Int)).natAbs))]⟩] (by decide) ⟨rfl,rfl,rfl,rfl,rfl,rfl,rfl,rfl,rfl,rfl,rfl,rfl,trivial⟩ ⟨oe rfl rfl,oe rfl rfl,oe rfl rfl,oe rfl rfl,oe rfl rfl,oe rfl rfl,oe rfl rfl,cC rfl,cC rfl,cC rfl,cC rfl,cC rfl,cC rfl,cC rfl,cC rfl,oe rfl rfl,rfl⟩) ?_
  refine WP.sub (rB (j:=6) (k:=7) (p:=1) (e:=70) (z:=1) (n:=(dg 4294967296 (k+k').natAbs).length) (trs:=aG (dg 4294967296 (k+k').natAbs)) (l':=[tv (.bool (aB (k+k'))),.t (sU true (dg 4294967296 (k+k').natAbs)),tv (.bool (aB (k-k'))),.sl 8 0 ((dg 4294967296 (k-k').natAbs).length),tv (.bool (aB (k*k'))),.sl 9 0 ((dg 4294967296 (k*k').natAbs).length),tv (.bool (aB (-k))),.sl 10 0 ((dg 4294967296 (-k).natAbs).length),tv (.bool (aB (((k.natAbs:Nat):Int)))),.sl 11 0 ((dg 4294967296 (((k.natAbs:Nat):Int)).natAbs).length),tv (.bool (aB (((Int.gcd k k':Nat):Int)))),.sl 12 0 ((dg 4294967296 (((Int.gcd k k':Nat):Int)).natAbs).length),tv (.bool (aB (((if k'=0 then 0 else k.fdiv k'):Int)))),.sl 13 0 ((dg 4294967296 (((if k'=0 then 0 else k.fdiv k'):Int)).natAbs).length),tv (.bool (aB (((if k'=0 then 0 else k.fmod k'):Int)))),.sl 14 0 ((dg 4294967296 (((if k'=0 then 0 else k.fmod k'):Int)).natAbs).length)]) rfl rfl rfl rfl rfl (bK _) (bI _) rfl) ?_
  refine WP.sub (rB (j:=6) (k:=8) (p:=3) (e:=70) (z:=1) (n:=(dg 4294967296 (k-k').natAbs).length) (trs:=aG (dg 4294967296 (k-k').natAbs)) (l':=[tv (.bool (aB (k+k'))),.t (sU true (dg 4294967296 (k+k').natAbs)),tv (.bool (aB (k-k'))),.t (sU true (dg 4294967296 (k-k').natAbs)),tv (.bool (aB (k*k'))),.sl 9 0 ((dg 4294967296 (k*k').natAbs).length),tv (.bool (aB (-k))),.sl 10 0 ((dg 4294967296 (-k).natAbs).length),tv (.bool (aB (((k.natAbs:Nat):Int)))),.sl 11 0 ((dg 4294967296 (((k.natAbs:Nat):Int)).natAbs).length),tv (.bool (aB (((Int.gcd k k':Nat):Int)))),.sl 12 0 ((dg 4294967296 (((Int.gcd k k':Nat):Int)).natAbs).length),tv (.bool (aB (((if k'=0 then 0 else k.fdiv k'):Int)))),.sl 13 0 ((dg 4294967296 (((if k'=0 then 0 else k.fdiv k'):Int)).natAbs).length),tv (.bool (aB (((if k'=0 then 0 else k.fmod k'):Int)))),.sl 14 0 ((dg 4294967296 (((if k'=0 then 0 else k.fmod k'):Int)).natAbs).length)]) rfl rfl rfl rfl rfl (bK _) (bI _) rfl) ?_
  refine WP.sub (aM h0 [0,1,2,3,4,5,6,9,10,11,12,13,14,15] [(2,.one (.pt 0 0)),(3,.one (.pt 1 0)),(5,.one (.pt 2 0)),(6,.one (.pt 3 0)),(7,.one (.pt 4 0)),(8,.one (.pt 5 0)),(9,.one (tv (.int .i64 (if k'=0 then 20 else 0)))),(10,.one (tv (.int .i64 ((t:Nat):Int)))),(11,.one (.sl 6 0 (6+2))),(12,.one (.sl 13 0 (6+2))),(15,.one (tv (.int .i64 (if k'=0 then 20 else 0)))),(16,.one (tv (.int .i64 ((0:Nat):Int))))] [(⟨24,0,[tv (.bool a.s),.t (sU false a.x)]⟩:Ob),⟨24,0,[tv (.bool b.s),.t (sU false b.x)]⟩,⟨26,0,[tv (.bool a.s),.t (sU false a.x)]⟩,⟨26,0,[tv (.bool b.s),.t (sU false b.x)]⟩,⟨26,0,[tv (.bool (aB (((if k'=0 then 0 else k.fdiv k'):Int)))),.t (sU false (dg 4294967296 (((if k'=0 then 0 else k.fdiv k'):Int)).natAbs))]⟩,⟨26,0,[tv (.bool (aB (((if k'=0 then 0 else k.fmod k'):Int)))),.t (sU false (dg 4294967296 (((if k'=0 then 0 else k.fmod k'):Int)).natAbs))]⟩,⟨24,2,[tv (.bool (aB (k+k'))),.t (sU true (dg 4294967296 (k+k').natAbs)),tv (.bool (aB (k-k'))),.t (sU true (dg 4294967296 (k-k').natAbs)),tv (.bool (aB (k*k'))),.sl 7 0 ((dg 4294967296 (k*k').natAbs).length),tv (.bool (aB (-k))),.sl 8 0 ((dg 4294967296 (-k).natAbs).length),tv (.bool (aB (((k.natAbs:Nat):Int)))),.sl 9 0 ((dg 4294967296 (((k.natAbs:Nat):Int)).natAbs).length),tv (.bool (aB (((Int.gcd k k':Nat):Int)))),.sl 10 0 ((dg 4294967296 (((Int.gcd k k':Nat):Int)).natAbs).length),tv (.bool (aB (((if k'=0 then 0 else k.fdiv k'):Int)))),.sl 11 0 ((dg 4294967296 (((if k'=0 then 0 else k.fdiv k'):Int)).natAbs).length),tv (.bool (aB (((if k'=0 then 0 else k.fmod k'):Int)))),.sl 12 0 ((dg 4294967296 (((if k'=0 then 0 else k.fmod k'):Int)).natAbs).length)]⟩,⟨70,1,(aG (dg 4294967296 (k*k').natAbs)).map .t⟩,⟨70,1,(aG (dg 4294967296 (-k).natAbs)).map .t⟩,⟨70,1,(aG (dg 4294967296 (((k.natAbs:Nat):Int)).natAbs)).map .t⟩,⟨70,1,(aG (dg 4294967296 (((Int.gcd k k':Nat):Int)).natAbs)).map .t⟩,⟨70,1,(aG (dg 4294967296 (((if k'=0 then 0 else k.fdiv k'):Int)).natAbs)).map .t⟩,⟨70,1,(aG (dg 4294967296 (((if k'=0 then 0 else k.fmod k'):Int)).natAbs)).map .t⟩,⟨26,2,[tv (.bool (aB (k+k'))),.t (sU false (dg 4294967296 (k+k').natAbs)),tv (.bool (aB (k-k'))),.t (sU false (dg 4294967296 (k-k').natAbs)),tv (.bool (aB (k*k'))),.t (sU false (dg 4294967296 (k*k').natAbs)),tv (.bool (aB (-k))),.t (sU false (dg 4294967296 (-k).natAbs)),tv (.bool (aB (((k.natAbs:Nat):Int)))),.t (sU false (dg 4294967296 (((k.natAbs:Nat):Int)).natAbs)),tv (.bool (aB (((Int.gcd k k':Nat):Int)))),.t (sU false (dg 4294967296 (((Int.gcd k k':Nat):Int)).natAbs)),tv (.bool (aB (((if k'=0 then 0 else k.fdiv k'):Int)))),.t (sU false (dg 4294967296 (((if k'=0 then 0 else k.fdiv k'):Int)).natAbs)),tv (.bool (aB (((if k'=0 then 0 else k.fmod k'):Int)))),.t (sU false (dg 4294967296 (((if k'=0 then 0 else k.fmod k'):Int)).natAbs))]⟩] (by decide) ⟨rfl,rfl,rfl,rfl,rfl,rfl,rfl,rfl,rfl,rfl,rfl,rfl,trivial⟩ ⟨oe rfl rfl,oe rfl rfl,oe rfl rfl,oe rfl rfl,oe rfl rfl,oe rfl rfl,oe rfl rfl,cC rfl,cC rfl,cC rfl,cC rfl,cC rfl,cC rfl,oe rfl rfl,rfl⟩) ?_
  refine WP.sub (rB (j:=6) (k:=7) (p:=5) (e:=70) (z:=1) (n:=(dg 4294967296 (k*k').natAbs).length) (trs:=aG (dg 4294967296 (k*k').natAbs)) (l':=[tv (.bool (aB (k+k'))),.t (sU true (dg 4294967296 (k+k').natAbs)),tv (.bool (aB (k-k'))),.t (sU true (dg 4294967296 (k-k').natAbs)),tv (.bool (aB (k*k'))),.t (sU true (dg 4294967296 (k*k').natAbs)),tv (.bool (aB (-k))),.sl 8 0 ((dg 4294967296 (-k).natAbs).length),tv (.bool (aB (((k.natAbs:Nat):Int)))),.sl 9 0 ((dg 4294967296 (((k.natAbs:Nat):Int)).natAbs).length),tv (.bool (aB (((Int.gcd k k':Nat):Int)))),.sl 10 0 ((dg 4294967296 (((Int.gcd k k':Nat):Int)).natAbs).length),tv (.bool (aB (((if k'=0 then 0 else k.fdiv k'):Int)))),.sl 11 0 ((dg 4294967296 (((if k'=0 then 0 else k.fdiv k'):Int)).natAbs).length),tv (.bool (aB (((if k'=0 then 0 else k.fmod k'):Int)))),.sl 12 0 ((dg 4294967296 (((if k'=0 then 0 else k.fmod k'):Int)).natAbs).length)]) rfl rfl rfl rfl rfl (bK _) (bI _) rfl) ?_
  refine WP.sub (rB (j:=6) (k:=8) (p:=7) (e:=70) (z:=1) (n:=(dg 4294967296 (-k).natAbs).length) (trs:=aG (dg 4294967296 (-k).natAbs)) (l':=[tv (.bool (aB (k+k'))),.t (sU true (dg 4294967296 (k+k').natAbs)),tv (.bool (aB (k-k'))),.t (sU true (dg 4294967296 (k-k').natAbs)),tv (.bool (aB (k*k'))),.t (sU true (dg 4294967296 (k*k').natAbs)),tv (.bool (aB (-k))),.t (sU true (dg 4294967296 (-k).natAbs)),tv (.bool (aB (((k.natAbs:Nat):Int)))),.sl 9 0 ((dg 4294967296 (((k.natAbs:Nat):Int)).natAbs).length),tv (.bool (aB (((Int.gcd k k':Nat):Int)))),.sl 10 0 ((dg 4294967296 (((Int.gcd k k':Nat):Int)).natAbs).length),tv (.bool (aB (((if k'=0 then 0 else k.fdiv k'):Int)))),.sl 11 0 ((dg 4294967296 (((if k'=0 then 0 else k.fdiv k'):Int)).natAbs).length),tv (.bool (aB (((if k'=0 then 0 else k.fmod k'):Int)))),.sl 12 0 ((dg 4294967296 (((if k'=0 then 0 else k.fmod k'):Int)).natAbs).length)]) rfl rfl rfl rfl rfl (bK _) (bI _) rfl) ?_
  refine WP.sub (aM h0 [0,1,2,3,4,5,6,9,10,11,12,13] [(2,.one (.pt 0 0)),(3,.one (.pt 1 0)),(5,.one (.pt 2 0)),(6,.one (.pt 3 0)),(7,.one (.pt 4 0)),(8,.one (.pt 5 0)),(9,.one (tv (.int .i64 (if k'=0 then 20 else 0)))),(10,.one (tv (.int .i64 ((t:Nat):Int)))),(11,.one (.sl 6 0 (6+2))),(12,.one (.sl 11 0 (6+2))),(15,.one (tv (.int .i64 (if k'=0 then 20 else 0)))),(16,.one (tv (.int .i64 ((0:Nat):Int))))] [(⟨24,0,[tv (.bool a.s),.t (sU false a.x)]⟩:Ob),⟨24,0,[tv (.bool b.s),.t (sU false b.x)]⟩,⟨26,0,[tv (.bool a.s),.t (sU false a.x)]⟩,⟨26,0,[tv (.bool b.s),.t (sU false b.x)]⟩,⟨26,0,[tv (.bool (aB (((if k'=0 then 0 else k.fdiv k'):Int)))),.t (sU false (dg 4294967296 (((if k'=0 then 0 else k.fdiv k'):Int)).natAbs))]⟩,⟨26,0,[tv (.bool (aB (((if k'=0 then 0 else k.fmod k'):Int)))),.t (sU false (dg 4294967296 (((if k'=0 then 0 else k.fmod k'):Int)).natAbs))]⟩,⟨24,2,[tv (.bool (aB (k+k'))),.t (sU true (dg 4294967296 (k+k').natAbs)),tv (.bool (aB (k-k'))),.t (sU true (dg 4294967296 (k-k').natAbs)),tv (.bool (aB (k*k'))),.t (sU true (dg 4294967296 (k*k').natAbs)),tv (.bool (aB (-k))),.t (sU true (dg 4294967296 (-k).natAbs)),tv (.bool (aB (((k.natAbs:Nat):Int)))),.sl 7 0 ((dg 4294967296 (((k.natAbs:Nat):Int)).natAbs).length),tv (.bool (aB (((Int.gcd k k':Nat):Int)))),.sl 8 0 ((dg 4294967296 (((Int.gcd k k':Nat):Int)).natAbs).length),tv (.bool (aB (((if k'=0 then 0 else k.fdiv k'):Int)))),.sl 9 0 ((dg 4294967296 (((if k'=0 then 0 else k.fdiv k'):Int)).natAbs).length),tv (.bool (aB (((if k'=0 then 0 else k.fmod k'):Int)))),.sl 10 0 ((dg 4294967296 (((if k'=0 then 0 else k.fmod k'):Int)).natAbs).length)]⟩,⟨70,1,(aG (dg 4294967296 (((k.natAbs:Nat):Int)).natAbs)).map .t⟩,⟨70,1,(aG (dg 4294967296 (((Int.gcd k k':Nat):Int)).natAbs)).map .t⟩,⟨70,1,(aG (dg 4294967296 (((if k'=0 then 0 else k.fdiv k'):Int)).natAbs)).map .t⟩,⟨70,1,(aG (dg 4294967296 (((if k'=0 then 0 else k.fmod k'):Int)).natAbs)).map .t⟩,⟨26,2,[tv (.bool (aB (k+k'))),.t (sU false (dg 4294967296 (k+k').natAbs)),tv (.bool (aB (k-k'))),.t (sU false (dg 4294967296 (k-k').natAbs)),tv (.bool (aB (k*k'))),.t (sU false (dg 4294967296 (k*k').natAbs)),tv (.bool (aB (-k))),.t (sU false (dg 4294967296 (-k).natAbs)),tv (.bool (aB (((k.natAbs:Nat):Int)))),.t (sU false (dg 4294967296 (((k.natAbs:Nat):Int)).natAbs)),tv (.bool (aB (((Int.gcd k k':Nat):Int)))),.t (sU false (dg 4294967296 (((Int.gcd k k':Nat):Int)).natAbs)),tv (.bool (aB (((if k'=0 then 0 else k.fdiv k'):Int)))),.t (sU false (dg 4294967296 (((if k'=0 then 0 else k.fdiv k'):Int)).natAbs)),tv (.bool (aB (((if k'=0 then 0 else k.fmod k'):Int)))),.t (sU false (dg 4294967296 (((if k'=0 then 0 else k.fmod k'):Int)).natAbs))]⟩] (by decide) ⟨rfl,rfl,rfl,rfl,rfl,rfl,rfl,rfl,rfl,rfl,rfl,rfl,trivial⟩ ⟨oe rfl rfl,oe rfl rfl,oe rfl rfl,oe rfl rfl,oe rfl rfl,oe rfl rfl,oe rfl rfl,cC rfl,cC rfl,cC rfl,cC rfl,oe rfl rfl,rfl⟩) ?_
  refine WP.sub (rB (j:=6) (k:=7) (p:=9) (e:=70) (z:=1) (n:=(dg 4294967296 (((k.natAbs:Nat):Int)).natAbs).length) (trs:=aG (dg 4294967296 (((k.natAbs:Nat):Int)).natAbs)) (l':=[tv (.bool (aB (k+k'))),.t (sU true (dg 4294967296 (k+k').natAbs)),tv (.bool (aB (k-k'))),.t (sU true (dg 4294967296 (k-k').natAbs)),tv (.bool (aB (k*k'))),.t (sU true (dg 4294967296 (k*k').natAbs)),tv (.bool (aB (-k))),.t (sU true (dg 4294967296 (-k).natAbs)),tv (.bool (aB (((k.natAbs:Nat):Int)))),.t (sU true (dg 4294967296 (((k.natAbs:Nat):Int)).natAbs)),tv (.bool (aB (((Int.gcd k k':Nat):Int)))),.sl 8 0 ((dg 4294967296 (((Int.gcd k k':Nat):Int)).natAbs).length),tv (.bool (aB (((if k'=0 then 0 else k.fdiv k'):Int)))),.sl 9 0 ((dg 4294967296 (((if k'=0 then 0 else k.fdiv k'):Int)).natAbs).length),tv (.bool (aB (((if k'=0 then 0 else k.fmod k'):Int)))),.sl 10 0 ((dg 4294967296 (((if k'=0 then 0 else k.fmod k'):Int)).natAbs).length)]) rfl rfl rfl rfl rfl (bK _) (bI _) rfl) ?_
  refine WP.sub (rB (j:=6) (k:=8) (p:=11) (e:=70) (z:=1) (n:=(dg 4294967296 (((Int.gcd k k':Nat):Int)).natAbs).length) (trs:=aG (dg 4294967296 (((Int.gcd k k':Nat):Int)).natAbs)) (l':=[tv (.bool (aB (k+k'))),.t (sU true (dg 4294967296 (k+k').natAbs)),tv (.bool (aB (k-k'))),.t (sU true (dg 4294967296 (k-k').natAbs)),tv (.bool (aB (k*k'))),.t (sU true (dg 4294967296 (k*k').natAbs)),tv (.bool (aB (-k))),.t (sU true (dg 4294967296 (-k).natAbs)),tv (.bool (aB (((k.natAbs:Nat):Int)))),.t (sU true (dg 4294967296 (((k.natAbs:Nat):Int)).natAbs)),tv (.bool (aB (((Int.gcd k k':Nat):Int)))),.t (sU true (dg 4294967296 (((Int.gcd k k':Nat):Int)).natAbs)),tv (.bool (aB (((if k'=0 then 0 else k.fdiv k'):Int)))),.sl 9 0 ((dg 4294967296 (((if k'=0 then 0 else k.fdiv k'):Int)).natAbs).length),tv (.bool (aB (((if k'=0 then 0 else k.fmod k'):Int)))),.sl 10 0 ((dg 4294967296 (((if k'=0 then 0 else k.fmod k'):Int)).natAbs).length)]) rfl rfl rfl rfl rfl (bK _) (bI _) rfl) ?_
  refine WP.sub (aM h0 [0,1,2,3,4,5,6,9,10,11] [(2,.one (.pt 0 0)),(3,.one (.pt 1 0)),(5,.one (.pt 2 0)),(6,.one (.pt 3 0)),(7,.one (.pt 4 0)),(8,.one (.pt 5 0)),(9,.one (tv (.int .i64 (if k'=0 then 20 else 0)))),(10,.one (tv (.int .i64 ((t:Nat):Int)))),(11,.one (.sl 6 0 (6+2))),(12,.one (.sl 9 0 (6+2))),(15,.one (tv (.int .i64 (if k'=0 then 20 else 0)))),(16,.one (tv (.int .i64 ((0:Nat):Int))))] [(⟨24,0,[tv (.bool a.s),.t (sU false a.x)]⟩:Ob),⟨24,0,[tv (.bool b.s),.t (sU false b.x)]⟩,⟨26,0,[tv (.bool a.s),.t (sU false a.x)]⟩,⟨26,0,[tv (.bool b.s),.t (sU false b.x)]⟩,⟨26,0,[tv (.bool (aB (((if k'=0 then 0 else k.fdiv k'):Int)))),.t (sU false (dg 4294967296 (((if k'=0 then 0 else k.fdiv k'):Int)).natAbs))]⟩,⟨26,0,[tv (.bool (aB (((if k'=0 then 0 else k.fmod k'):Int)))),.t (sU false (dg 4294967296 (((if k'=0 then 0 else k.fmod k'):Int)).natAbs))]⟩,⟨24,2,[tv (.bool (aB (k+k'))),.t (sU true (dg 4294967296 (k+k').natAbs)),tv (.bool (aB (k-k'))),.t (sU true (dg 4294967296 (k-k').natAbs)),tv (.bool (aB (k*k'))),.t (sU true (dg 4294967296 (k*k').natAbs)),tv (.bool (aB (-k))),.t (sU true (dg 4294967296 (-k).natAbs)),tv (.bool (aB (((k.natAbs:Nat):Int)))),.t (sU true (dg 4294967296 (((k.natAbs:Nat):Int)).natAbs)),tv (.bool (aB (((Int.gcd k k':Nat):Int)))),.t (sU true (dg 4294967296 (((Int.gcd k k':Nat):Int)).natAbs)),tv (.bool (aB (((if k'=0 then 0 else k.fdiv k'):Int)))),.sl 7 0 ((dg 4294967296 (((if k'=0 then 0 else k.fdiv k'):Int)).natAbs).length),tv (.bool (aB (((if k'=0 then 0 else k.fmod k'):Int)))),.sl 8 0 ((dg 4294967296 (((if k'=0 then 0 else k.fmod k'):Int)).natAbs).length)]⟩,⟨70,1,(aG (dg 4294967296 (((if k'=0 then 0 else k.fdiv k'):Int)).natAbs)).map .t⟩,⟨70,1,(aG (dg 4294967296 (((if k'=0 then 0 else k.fmod k'):Int)).natAbs)).map .t⟩,⟨26,2,[tv (.bool (aB (k+k'))),.t (sU false (dg 4294967296 (k+k').natAbs)),tv (.bool (aB (k-k'))),.t (sU false (dg 4294967296 (k-k').natAbs)),tv (.bool (aB (k*k'))),.t (sU false (dg 4294967296 (k*k').natAbs)),tv (.bool (aB (-k))),.t (sU false (dg 4294967296 (-k).natAbs)),tv (.bool (aB (((k.natAbs:Nat):Int)))),.t (sU false (dg 4294967296 (((k.natAbs:Nat):Int)).natAbs)),tv (.bool (aB (((Int.gcd k k':Nat):Int)))),.t (sU false (dg 4294967296 (((Int.gcd k k':Nat):Int)).natAbs)),tv (.bool (aB (((if k'=0 then 0 else k.fdiv k'):Int)))),.t (sU false (dg 4294967296 (((if k'=0 then 0 else k.fdiv k'):Int)).natAbs)),tv (.bool (aB (((if k'=0 then 0 else k.fmod k'):Int)))),.t (sU false (dg 4294967296 (((if k'=0 then 0 else k.fmod k'):Int)).natAbs))]⟩] (by decide) ⟨rfl,rfl,rfl,rfl,rfl,rfl,rfl,rfl,rfl,rfl,rfl,rfl,trivial⟩ ⟨oe rfl rfl,oe rfl rfl,oe rfl rfl,oe rfl rfl,oe rfl rfl,oe rfl rfl,oe rfl rfl,cC rfl,cC rfl,oe rfl rfl,rfl⟩) ?_
  refine WP.sub (rB (j:=6) (k:=7) (p:=13) (e:=70) (z:=1) (n:=(dg 4294967296 (((if k'=0 then 0 else k.fdiv k'):Int)).natAbs).length) (trs:=aG (dg 4294967296 (((if k'=0 then 0 else k.fdiv k'):Int)).natAbs)) (l':=[tv (.bool (aB (k+k'))),.t (sU true (dg 4294967296 (k+k').natAbs)),tv (.bool (aB (k-k'))),.t (sU true (dg 4294967296 (k-k').natAbs)),tv (.bool (aB (k*k'))),.t (sU true (dg 4294967296 (k*k').natAbs)),tv (.bool (aB (-k))),.t (sU true (dg 4294967296 (-k).natAbs)),tv (.bool (aB (((k.natAbs:Nat):Int)))),.t (sU true (dg 4294967296 (((k.natAbs:Nat):Int)).natAbs)),tv (.bool (aB (((Int.gcd k k':Nat):Int)))),.t (sU true (dg 4294967296 (((Int.gcd k k':Nat):Int)).natAbs)),tv (.bool (aB (((if k'=0 then 0 else k.fdiv k'):Int)))),.t (sU true (dg 4294967296 (((if k'=0 then 0 else k.fdiv k'):Int)).natAbs)),tv (.bool (aB (((if k'=0 then 0 else k.fmod k'):Int)))),.sl 8 0 ((dg 4294967296 (((if k'=0 then 0 else k.fmod k'):Int)).natAbs).length)]) rfl rfl rfl rfl rfl (bK _) (bI _) rfl) ?_
  refine WP.sub (rB (j:=6) (k:=8) (p:=15) (e:=70) (z:=1) (n:=(dg 4294967296 (((if k'=0 then 0 else k.fmod k'):Int)).natAbs).length) (trs:=aG (dg 4294967296 (((if k'=0 then 0 else k.fmod k'):Int)).natAbs)) (l':=[tv (.bool (aB (k+k'))),.t (sU true (dg 4294967296 (k+k').natAbs)),tv (.bool (aB (k-k'))),.t (sU true (dg 4294967296 (k-k').natAbs)),tv (.bool (aB (k*k'))),.t (sU true (dg 4294967296 (k*k').natAbs)),tv (.bool (aB (-k))),.t (sU true (dg 4294967296 (-k).natAbs)),tv (.bool (aB (((k.natAbs:Nat):Int)))),.t (sU true (dg 4294967296 (((k.natAbs:Nat):Int)).natAbs)),tv (.bool (aB (((Int.gcd k k':Nat):Int)))),.t (sU true (dg 4294967296 (((Int.gcd k k':Nat):Int)).natAbs)),tv (.bool (aB (((if k'=0 then 0 else k.fdiv k'):Int)))),.t (sU true (dg 4294967296 (((if k'=0 then 0 else k.fdiv k'):Int)).natAbs)),tv (.bool (aB (((if k'=0 then 0 else k.fmod k'):Int)))),.t (sU true (dg 4294967296 (((if k'=0 then 0 else k.fmod k'):Int)).natAbs))]) rfl rfl rfl rfl rfl (bK _) (bI _) rfl) ?_
  refine lp (γ:=Nat×List Zi) (fun s=>cP [(2,.one (.pt 0 0)),(3,.one (.pt 1 0)),(5,.one (.pt 2 0)),(6,.one (.pt 3 0)),(7,.one (.pt 4 0)),(8,.one (.pt 5 0)),(9,.one (tv (.int .i64 (if k'=0 then 20 else 0)))),(10,.one (tv (.int .i64 ((t:Nat):Int)))),(11,.one (.sl 6 0 (6+2))),(12,.one (.sl 7 0 (6+2))),(15,.one (tv (.int .i64 (if k'=0 then 20 else 0)))),(16,.one (tv (.int .i64 ((s.1:Nat):Int))))]) (fun s=>[(⟨24,0,[tv (.bool a.s),.t (sU false a.x)]⟩:Ob),⟨24,0,[tv (.bool b.s),.t (sU false b.x)]⟩,⟨26,0,[tv (.bool a.s),.t (sU false a.x)]⟩,⟨26,0,[tv (.bool b.s),.t (sU false b.x)]⟩,⟨26,0,[tv (.bool (aB (((if k'=0 then 0 else k.fdiv k'):Int)))),.t (sU false (dg 4294967296 (((if k'=0 then 0 else k.fdiv k'):Int)).natAbs))]⟩,⟨26,0,[tv (.bool (aB (((if k'=0 then 0 else k.fmod k'):Int)))),.t (sU false (dg 4294967296 (((if k'=0 then 0 else k.fmod k'):Int)).natAbs))]⟩,⟨24,2,(s.2.flatMap (lL true)).map .t⟩,⟨26,2,((tU k k').flatMap (lL false)).map .t⟩].map some) (fun s=>s.1≤8∧s.2.length=8∧∀j,s.1≤j→iE s.2 j=iE (tU k k') j) (fun s=>8-s.1) (0,(tU k k')) ⟨Nat.zero_le _,rfl,fun _ _=>rfl⟩ (aM h0 [0,1,2,3,4,5,6,9] _ _ (by decide) ⟨rfl,rfl,rfl,rfl,rfl,rfl,rfl,rfl,rfl,rfl,rfl,rfl,trivial⟩ ⟨oe rfl rfl,oe rfl rfl,oe rfl rfl,oe rfl rfl,oe rfl rfl,oe rfl rfl,cC rfl,cC rfl,rfl⟩) ?_
  rintro⟨i,ws⟩ ⟨hi,hwl,hws⟩;dsimp only at hi hwl hws⊢;refine sq ?_;refine sq ?_;refine rl ?_;(iterate 4 refine o1 ?_);refine nl ?_;refine cH rfl (fun h4=>?_) (fun h4=>?_)
  ·refine sk ?_;refine sq ?_;refine bl ?_;refine sq ?_;refine sq ?_;have hi8:i<8:=by omega
   obtain⟨z,hZ⟩:∃z,iE (tU k k') i=z:=⟨_,rfl⟩
   have e9:=(hws i (Nat.le_refl _)).trans hZ
   have hz1:z.x.length≤61:=hZ▸Qr hk hk' hi8
   refine WP.sub (Vk (j:=6) (key:=8) (p:=0+i*2+1) (e:=70) (z:=1) (n:=z.x.length) (trs:=aG z.x) rfl rfl rfl (e9▸Jf (zs:=ws) (i:=i) (by omega)) rfl) ?_
   refine rd [0,1,2,3,4,5,6,7] (fun i=>[].contains i) mixed ?_
   refine dv 0 ?_;refine dv 1 ?_;refine dv 2 ?_;refine Ov 3 (us:=[tv (.bool z.s),.sl 8 0 z.x.length]) (e9▸xA (zs:=ws) (i:=i) (by omega)) ?_
   refine dv 4 ?_;refine dv 5 ?_;refine dv 6 ?_;refine Ov 7 (us:=(lL false z).map .t) (hZ▸Ex (zs:=(tU k k')) (i:=i) hi8) ?_
   refine aK 8 rfl (pH (a:=z) (by omega)) Ao ⟨Nn rfl (.cons .t (.cons (.sl rfl rfl (wV _) (bI _)) .nil)),aF rfl,rfl⟩ (.one (tv (.bool true))) ?_
   refine df 9 ?_;refine aU ?_;refine kE rfl ?_;refine sk ?_;refine rl ?_;(iterate 3 refine o1 ?_)
   refine Vl (us:=[tv (.bool z.s),.sl 8 0 z.x.length]) (e9▸xA (zs:=ws) (i:=i) (by omega)) ?_
   refine cl 9 [8] (Ma (a:=z) (by omega)) Uc ⟨cC rfl,rfl⟩ ⟨rfl,rfl⟩ (ok:=[some ⟨70,1,(aG (List.replicate z.x.length 77)).map .t⟩]) ⟨cC rfl,rfl⟩ ?_
   refine nl ?_
   refine WP.sub (rB (j:=6) (k:=8) (p:=0+i*2+1) (e:=70) (z:=1) (n:=z.x.length) (trs:=aG (List.replicate z.x.length 77)) (l':=((ws.set i ⟨z.s,(List.replicate z.x.length 77)⟩).flatMap (lL true)).map .t) rfl rfl rfl rfl (List.getElem?_set_self (by rw[List.length_map,wX (Ls true),hwl];omega)) (by have:=bK (List.replicate z.x.length 77);rwa[List.length_replicate]at this) (by have:=bI (List.replicate z.x.length 77);rwa[List.length_replicate]at this) (by have h9:=Ey (y:=.sl 8 0 z.x.length) (xs:=(List.replicate z.x.length 77)) (zs:=ws) (i:=i) (by omega);rw[e9,sU,List.length_replicate]at h9;exact h9)) ?_
   refine rl ?_;refine o1 ?_;refine o1 ?_;refine WL.cast (t:=99) (u':=.int .i64 ((i+1:Nat):Int)) rfl (aJ (by omega)) ?_
   refine o1 ?_;refine nl ?_
   exact⟨(i+1,ws.set i ⟨z.s,List.replicate z.x.length 77⟩),by dsimp only;omega,⟨by dsimp only;omega,by dsimp only;rw[List.length_set];exact hwl,fun j hj=>(Ht (by dsimp only at hj;omega)).trans (hws j (by dsimp only at hj;omega))⟩,aM h0 [0,1,2,3,4,5,6,7] _ _ (by decide) ⟨rfl,rfl,rfl,rfl,rfl,rfl,rfl,rfl,rfl,rfl,rfl,rfl,trivial⟩ ⟨oe rfl rfl,oe rfl rfl,oe rfl rfl,oe rfl rfl,oe rfl rfl,oe rfl rfl,cC rfl,cC rfl,rfl⟩⟩
  refine ex ?_;refine sq ?_;refine rl ?_;(iterate 3 refine o1 ?_);refine WL.cast (t:=117) (u':=.bool false) rfl (congrArg Value.bool (decide_eq_false fun h=>h rfl)) ?_
  refine nl ?_;refine kE rfl ?_;refine sk ?_;refine rl ?_;refine o1 ?_;refine o1 ?_;refine WL.cast (t:=42) (u':=.int .i64 ((t+1:Nat):Int)) rfl (aJ (by omega)) ?_
  refine o1 ?_;refine nl ?_
  exact⟨t+1,by omega,⟨by omega,trivial⟩,aM h0 [0,1,2,3,4,5] _ _ (by decide) ⟨rfl,rfl,rfl,rfl,rfl,rfl,rfl,rfl,trivial⟩ ⟨oe rfl rfl,oe rfl rfl,oe rfl rfl,oe rfl rfl,oe rfl rfl,oe rfl rfl,rfl⟩⟩
 refine ex ?_;refine sq ?_;refine rd [0,1,2,3,4,5] (fun i=>[34].contains i) mixed ?_
 refine aZ 0 ?_;refine aZ 2 ?_;refine aK 1 rfl (zQ ha.g) Nw ⟨aF rfl,rfl⟩ (.one (tv (.bool (cA a.s a.x)))) ?_
 refine aK 3 rfl (wQ ha) Nx ⟨aF rfl,rfl⟩ (.one (tv (.bool (cA a.s a.x)))) ?_;refine df 4 ?_
 refine WD.cast (t:=122) (u':=.bool true) rfl (congrArg Value.bool (beq_self_eq_true _)) ?_;refine df 5 ?_;refine aZ 6 ?_;refine aZ 7 ?_;refine aZ 9 ?_;refine aZ 10 ?_
 refine aK 8 rfl (Ja ha.g hb.g (Nat.le_trans (cD (by omega) (Jg (z:=k-k') hk hk' (by simp))) (by omega))) Ny ⟨aF rfl,aF rfl,rfl⟩ (.one (tv (.int .i64 (k-k').sign))) ?_
 refine aK 11 rfl (Ei ha hb) Nz ⟨aF rfl,aF rfl,rfl⟩ (.one (tv (.int .i64 (k-k').sign))) ?_;refine df 12 ?_
 refine WD.cast (t:=130) (u':=.bool true) rfl (congrArg Value.bool (decide_eq_true rfl)) ?_;refine df 13 ?_;refine df 14 ?_;refine aZ 15 ?_;refine aZ 17 ?_
 refine aK 16 rfl (Er ha.g) Oa ⟨aF rfl,rfl⟩ (.one (tv (.int .i64 k.sign))) ?_;refine aK 18 rfl (pG ha) Ap ⟨aF rfl,rfl⟩ (.one (tv (.int .i64 k.sign))) ?_;refine df 19 ?_
 refine WD.cast (t:=137) (u':=.bool true) rfl (congrArg Value.bool (decide_eq_true rfl)) ?_;refine df 20 ?_;refine df 21 ?_;refine aZ 22 ?_;refine aZ 23 ?_
 refine aK 24 rfl (pH (a:=a) (by omega)) Ao ⟨aF rfl,aF rfl,rfl⟩ (.one (tv (.bool true))) ?_
 refine df 25 ?_;refine df 26 ?_;refine aZ 27 ?_;refine aZ 28 ?_;refine aK 29 rfl (pH (a:=b) (by omega)) Ao ⟨aF rfl,aF rfl,rfl⟩ (.one (tv (.bool true))) ?_
 refine df 30 ?_;refine df 31 ?_;refine aK 32 rfl (sV) Ns rfl (.one (tv (.bool true))) ?_;refine df 33 ?_
 refine gD 34 (by kernel_rfl) rfl rfl aA rfl (by trivial) ?_ (fun h=>by first | rfl | cases h)
 refine aU ?_;refine rt ?_;exact rF (.inl rfl) rfl (rfl)
end Go.Proofs.YtecamoobdlghfaaDoor
namespace Go.Proofs.YtecamoobdlghfaaDoor
open Go Go.RowKit Go.ChangeShapes
def Reads (P:Program) (t:TypeId) (z:Nat) (T:List Tr→Prop):Prop:=
 P.cellsOf t=z∧∀(H:Type) (enc:TypeId×Value→H) (w:World) (fuel:Nat) (cs:List Value) (x:DataW H×List MemPlace),DataW.trod enc P w 0 (fun _=>true) true fuel t cs=some x→∃l,T l∧l.length=z∧FRL w (tA w) l cs
theorem zR {W:World}{N:Nat→Prop}:∀{l l':List Tr}{us us':List Value},FRL W N l us→FRL W N l' us'→FRL W N (l++l') (us++us')
 | [],l',us,us',h,h'=>by simp only[FRL]at h;subst h;exact h'
 | x::l,l',u::us,us',h,h'=>by simp only[FRL,List.cons_append]at*;exact⟨h.1,zR h.2 h'⟩
 | _::_,_,[],_,h,_=>by simp only[FRL]at h
theorem zS {W:World}{N:Nat→Prop}:∀{l:List Tr}{us:List Value}{j:Nat}{x:Tr},FRL W N l us→l[j]? =some x→∃u,us[j]? =some u∧FR W N x u
 | [],_,_,_,_,h=>by simp at h
 | y::l,u::us,0,x,h,e=>by
  simp only[FRL]at h
  simp at e
  subst e
  exact⟨u,rfl,h.1⟩
 | y::l,u::us,j+1,x,h,e=>by
  simp only[FRL]at h
  exact zS (j:=j) h.2 (by simpa using e)
 | _::_,[],_,_,h,_=>by simp only[FRL]at h
section
variable {P:Program}{t e:TypeId}{k:IntKind}{z:Nat}{T T':List Tr→Prop}
theorem Reads.mono (h:Reads P t z T) (hi:∀l,T l→T' l):Reads P t z T':=⟨h.1,fun H enc w fuel cs x hx=>let ⟨l,a,b⟩:=h.2 H enc w fuel cs x hx;⟨l,hi l a,b⟩⟩
theorem Jv (ht:P.underlying t=some .bool) (hz:P.cellsOf t=1):Reads P t 1 (fun l=>∃b,l=[.v (.bool b)]):=⟨hz,fun H enc w fuel cs x hx=>by
 obtain⟨b,rfl,_⟩:=DataW.trod_bool ht hx
 exact⟨_,⟨b,rfl⟩,rfl,by simp[FRL,FR]⟩⟩
theorem Qs (ht:P.underlying t=some (.int k)) (hz:P.cellsOf t=1):Reads P t 1 (fun l=>∃n,l=[.v (.int k n)]∧k.min≤n∧n≤k.max):=⟨hz,fun H enc w fuel cs x hx=>by
 obtain⟨n,rfl,_,h⟩:=DataW.trod_int ht hx
 simp only[Lit.wf,Bool.and_eq_true,decide_eq_true_eq]at h
 exact⟨_,⟨n,rfl,h⟩,rfl,by simp[FRL,FR]⟩⟩
inductive Flds (P:Program):Nat→List Field→Nat→(List Tr→Prop)→Prop
 | nil {o:Nat}:Flds P o [] 0 (· =[])
 | cons {o z z':Nat}{f:Field}{fs:List Field}{T T':List Tr→Prop}(ho:f.offset=o) (h:Reads P f.type z T) (h':Flds P (o+z) fs z' T'):Flds P o (f::fs) (z+z') (fun l=>∃a b,l=a++b∧T a∧T' b)
theorem Flds.read {H:Type}{enc:TypeId×Value→H}{w:World}{n o:Nat}{fs:List Field}(h:Flds P o fs z T):∀{cs:List Value},o+z≤cs.length→(∀f∈fs,∃x,DataW.trod enc P w 0 (fun _=>true) true n f.type ((cs.drop f.offset).take (P.cellsOf f.type))=some x)→∃l,T l∧l.length=z∧FRL w (tA w) l ((cs.drop o).take z):=by
 induction h with
 | nil=>exact fun _ _=>⟨[],rfl,rfl,by simp[FRL]⟩
 | @cons o z z' f fs T T' ho hr _ ih=>
  intro cs hl hf
  obtain⟨b,h1,h2,h3⟩:=ih (cs:=cs) (by omega) fun f hm=>hf f (List.mem_cons_of_mem _ hm)
  obtain⟨x,hx⟩:=hf f List.mem_cons_self
  obtain⟨a,g1,g2,g3⟩:=hr.2 H enc w n _ x hx
  rw[ho,hr.1]at g3
  refine⟨a++b,⟨a,b,rfl,g1,h1⟩,by simp[g2,h2],?_⟩
  rw[List.take_add,List.drop_drop]
  exact zR g3 h3
theorem By {fs:List Field}{z':Nat}(ht:P.underlying t=some (.struct fs.toArray)) (hz:P.cellsOf t=z) (h:Flds P 0 fs z' T) (e:z'=z:=by rfl):Reads P t z T:=⟨hz,fun H enc w fuel cs x hx=>by
 subst e
 obtain⟨xs,n,_,rfl,hl,hlen,hf⟩:=DataW.trod_struct ht hx
 rw[hz]at hl
 obtain⟨l,h1,h2,h3⟩:=h.read (H:=H) (enc:=enc) (w:=w) (n:=n) (cs:=cs) (by omega) fun f hm=>by
  obtain⟨i,hi⟩:=List.mem_iff_getElem?.1 hm
  have h1:=hf i f (by simpa using hi)
  have h2:i<xs.length:=by
   have:=(List.getElem?_eq_some_iff.1 hi).1
   simp at hlen
   omega
  rw[List.getElem?_eq_getElem h2]at h1
  exact⟨_,h1⟩
 refine⟨l,h1,h2,?_⟩
 rw[List.drop_zero,List.take_of_length_le (by omega)]at h3
 exact h3⟩
theorem Hu (ht:P.underlying t=some (.slice e)) (hz:P.cellsOf t=1) (hz0:0<z) (h:Reads P e z T):Reads P t 1 (fun l=>∃rows:List (List Tr),(∀r∈rows,T r∧r.length=z)∧l=[.s false e z rows.length rows.flatten]):=⟨hz,fun H enc w fuel cs x hx=>by
 have hlen:∀(rows:List (List Tr)),(∀r∈rows,T r∧r.length=z)→rows.flatten.length=rows.length*z:=by
  intro rows
  induction rows with
  | nil=>intro _;simp
  | cons r rows ih=>
   intro hr
   rw[List.flatten_cons,List.length_append,(hr r List.mem_cons_self).2,ih fun r hm=>hr r (List.mem_cons_of_mem _ hm),List.length_cons,Nat.succ_mul,Nat.add_comm]
 rcases Deep.open_slice ht hx with⟨rfl,_⟩ | ⟨a,len,cap,m,n,D,Pl,rfl,_,hl,hm,hmm,_,hel⟩
 ·refine⟨_,⟨[],fun _ h=>(by cases h),rfl⟩,rfl,?_⟩
  simp only[FRL,FR,and_true]
  exact⟨none,0,rfl,Nat.le_refl _,by omega,by simp,.inl rfl⟩
 have hmc:m=cap:=by simpa using hmm
 rw[h.1]at hel
 have hex:∀i:Nat,∃l:List Tr,i<len→T l∧l.length=z∧∀j y,l[j]? =some y→∃u,w.cell? ((a.add (i*z)).add j)=some u∧FR w (tA w) y u:=fun i=>by
  by_cases hi:i<len
  ·obtain⟨cs',h1,h2⟩:=hel i (by omega)
   obtain⟨l,g1,g2,g3⟩:=h.2 H enc w n cs' _ h2
   obtain⟨_,h3,h4⟩:=World.cells?_some h1
   refine⟨l,fun _=>⟨g1,g2,fun j y hj=>?_⟩⟩
   obtain⟨u,hu,hy⟩:=zS g3 hj
   have hjl:=(List.getElem?_eq_some_iff.1 hj).1
   exact⟨u,by rw[h4 j (by omega),hu],hy⟩
  exact⟨[],fun h=>absurd h hi⟩
 have hF:=fun i=>Classical.choose_spec (hex i)
 have hrow:∀r∈(List.range len).map (fun i=>Classical.choose (hex i)),T r∧r.length=z:=fun r hr=>by
  obtain⟨i,hi,rfl⟩:=List.mem_map.1 hr
  have:=hF i (List.mem_range.1 hi)
  exact⟨this.1,this.2.1⟩
 refine⟨_,⟨_,hrow,rfl⟩,rfl,?_⟩
 have h5:=hlen _ hrow
 simp only[FRL,and_true,FR]
 refine⟨some a,cap,by simp,by simpa using hl,by unfold maxLen at hm;omega,h5,?_⟩
 rcases Nat.eq_zero_or_pos len with h0 | h0
 ·exact .inl (by simp[h0])
 refine .inr ⟨a,rfl,?_,nK fun j y hj=>?_⟩
 ·obtain⟨_,g2,g3⟩:=hF 0 h0
  obtain⟨u,hu,_⟩:=g3 0 _ (List.getElem?_eq_getElem (by omega))
  have:=World.block_lt_of_cell? w ((a.add (0*z)).add 0) hu
  rwa[eA,eA]at this
 have hjl:=(List.getElem?_eq_some_iff.1 hj).1
 rw[h5,List.length_map,List.length_range]at hjl
 have hi:j/z<len:=Nat.div_lt_of_lt_mul (by rw[Nat.mul_comm];exact hjl)
 obtain⟨_,g2,g3⟩:=hF (j/z) hi
 have hz1:=Nat.mod_lt j hz0
 have hget:∀(rows:List (List Tr)),(∀r∈rows,T r∧r.length=z)→∀(i o:Nat) (r:List Tr),rows[i]? =some r→o<z→rows.flatten[i*z+o]? =r[o]? :=by
  intro rows
  induction rows with
  | nil=>intro _ i o r h;simp at h
  | cons r rows ih=>
   intro hr i o r' hi ho
   have hrl:=(hr r List.mem_cons_self).2
   cases i with
   | zero=>
    simp at hi
    subst hi
    rw[Nat.zero_mul,Nat.zero_add,List.flatten_cons,List.getElem?_append_left (by omega)]
   | succ i=>
    rw[List.flatten_cons,List.getElem?_append_right (by rw[Nat.succ_mul];omega),hrl,show(i+1)*z+o-z=i*z+o by rw[Nat.succ_mul];omega]
    exact ih (fun r hm=>hr r (List.mem_cons_of_mem _ hm)) i o r' (by simpa using hi) ho
 have hd:=Nat.div_add_mod j z
 rw[Nat.mul_comm]at hd
 rw[←hd,hget _ hrow (j/z) (j%z) (Classical.choose (hex (j/z))) (by simp[hi]) hz1]at hj
 obtain⟨u,hu,hy⟩:=g3 _ _ hj
 refine⟨u,?_,hy⟩
 rw[Nat.zero_add]
 have e2:(a.add (j/z*z)).add (j%z)=a.add j:=by rw[lI,hd]
 rwa[e2]at hu⟩
theorem zT {α:Type}(f:α→List Tr) (Q:α→Prop):∀{rows:List (List Tr)},(∀r∈rows,∃a,Q a∧r=f a)→∃xs:List α,(∀a∈xs,Q a)∧rows.flatten=xs.flatMap f∧rows.length=xs.length
 | [],_=>⟨[],fun _ h=>(by cases h),rfl,rfl⟩
 | r::rows,h=>by
  obtain⟨a,h1,rfl⟩:=h r List.mem_cons_self
  obtain⟨xs,h2,h3,h4⟩:=zT f Q fun r hm=>h r (List.mem_cons_of_mem _ hm)
  exact⟨a::xs,fun b hb=>(List.mem_cons.1 hb).elim (fun e=>e▸h1) (h2 b),by simp[h3],by simp[h4]⟩
theorem Fi (ht:P.underlying t=some (.slice e)) (he:P.underlying e=some (.int .u32)) (hz:P.cellsOf t=1) (hze:P.cellsOf e=1) (hn:e=70):Reads P t 1 (fun l=>∃xs:List Nat,Lim 4294967296 xs∧l=[sU false xs]):=
 (Hu ht hz (by omega) (Qs he hze)).mono fun l ⟨rows,h1,h2⟩=>by
  obtain⟨xs,h3,h4,h5⟩:=zT (fun n:Nat=>[Tr.v (.int .u32 (n:Int))]) (fun n=>n<4294967296) (rows:=rows) fun r hr=>by
   obtain⟨⟨n,rfl,h1,h2⟩,_⟩:=h1 r hr
   have e1:IntKind.u32.min=0:=rfl
   have e2:IntKind.u32.max=4294967295:=rfl
   rw[e1]at h1
   rw[e2]at h2
   exact⟨n.toNat,by omega,by rw[Int.toNat_of_nonneg h1]⟩
  refine⟨xs,h3,?_⟩
  rw[h2,h4,h5,sU,hn]
  have:∀xs:List Nat,xs.flatMap (fun n:Nat=>[Tr.v (.int .u32 (n:Int))])=aG xs:=by
   intro xs
   induction xs with
   | nil=>rfl
   | cons n xs ih=>rw[List.flatMap_cons,ih];rfl
  rw[this]
theorem Jw (hb:Reads P t z (fun l=>∃a b,l=a++b∧(∃s,a=[.v (.bool s)])∧∃b' c',b=b'++c'∧(∃xs:List Nat,Lim 4294967296 xs∧b'=[sU false xs])∧c'=[])):Reads P t z (fun l=>∃(s:Bool) (xs:List Nat),Lim 4294967296 xs∧l=[.v (.bool s),sU false xs]):=
 hb.mono fun l ⟨a,b,h1,⟨s,h2⟩,b',c',h3,⟨xs,h4,h5⟩,h6⟩=>⟨s,xs,h4,by rw[h1,h2,h3,h5,h6];rfl⟩
end
def LimF (a:Fr4):Prop:=Lim 4294967296 a.x∧Lim 4294967296 a.y
theorem LimF.ok {a:Fr4}(h:LimF a) (h2:a.x.length≤6∧a.y.length≤6):a.ok:=⟨h.1,h.2,by omega,by omega⟩
end Go.Proofs.YtecamoobdlghfaaDoor
