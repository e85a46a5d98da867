/- Part 8 of a proof: G2 to Vd. -/
import Derived.Test.YtbbabfkgdnkehaaGreatM7
import Derived.Test.YtbbabfkgdnkehaaGreatM6
import Derived.Test.YtbbabfkgdnkehaaGreatM5
import Derived.Test.YtbbabfkgdnkehaaGreatM4
set_option maxRecDepth 100000
set_option linter.unusedVariables false
set_option linter.unusedSimpArgs false
namespace Go.Proofs.YtbbabfkgdnkehaaGreat
open Go Go.RowKit
theorem Ge {a b:Zi}{k k':Int}(ha:Zg a k) (hb:Zg b k'):aD true Tryz.prog 48 [] [gF a,gF b] (aP (kO (k*k'))):=by
 refine cC Tryz.func48 rfl Tryz.ntmps48 rfl aA rfl fun N w c0 h0=>?_
 have hkl:=ha.len
 have hkl':=hb.len
 refine sq ?_;refine rl ?_;refine bx 0 ?_;refine bx 1 ?_;refine al 2 ?_;refine nl ?_
 refine md (γ:=Unit) (fun _=>cA [(4,.one (.pt 0 0)),(5,.one (.pt 1 0)),(6,.one (.pt 2 0))]) (fun _=>([⟨46,0,[tv (.bool false),tv (.slice none 0 0)]⟩,⟨147,0,[tv (.bool (aE k)),.t (sU false (dg 4294967296 k.natAbs))]⟩,⟨147,0,[tv (.bool (aE k')),.t (sU false (dg 4294967296 k'.natAbs))]⟩]:List Ob).map some) (fun _=>True) ?_ fun _ _=>?_
 ·refine rd [0,1,2] (fun i=>[7].contains i) mixed ?_
  refine aR 0 ?_;refine aR 2 ?_;refine WO.three (i:=1) (j:=4) (m:=5) (by kernel_rfl) ?_ ?_ ?_
  ·refine fA 1 rfl (dZ ha) dY ⟨aG rfl,rfl⟩ (kF (k)) ?_;refine WO.three (i:=3) (j:=4) (m:=5) (by kernel_rfl) ?_ ?_ ?_
   ·refine fA 3 rfl (dZ hb) dY ⟨aG rfl,rfl⟩ (kF (k')) ?_;refine WO.two (i:=4) (j:=5) (by kernel_rfl) ?_ ?_
    ·refine cP (key:=3) 4 rfl rfl aA rfl ⟨rfl,rfl,rfl,trivial⟩ ?_;refine gN (key:=4) 5 (by kernel_rfl) rfl rfl aA rfl ⟨rfl,rfl,rfl,trivial⟩ ?_
     refine bY 6 (by kernel_rfl) rfl rfl aA rfl rfl rfl rfl ⟨rfl,rfl,rfl,trivial⟩ ?_
     refine dst 7 ?_;refine aS ?_;exact⟨(),trivial,aN h0 [2,3,4] _ _ (by decide) ⟨rfl,rfl,rfl,trivial⟩ ⟨oe rfl rfl,oe rfl rfl,oe rfl rfl,rfl⟩⟩
    refine cP (key:=3) 5 rfl rfl aA rfl ⟨rfl,rfl,rfl,trivial⟩ ?_;refine gN (key:=4) 4 (by kernel_rfl) rfl rfl aA rfl ⟨rfl,rfl,rfl,trivial⟩ ?_
    refine bY 6 (by kernel_rfl) rfl rfl aA rfl rfl rfl rfl ⟨rfl,rfl,rfl,trivial⟩ ?_
    refine dst 7 ?_;refine aS ?_;exact⟨(),trivial,aN h0 [2,4,3] _ _ (by decide) ⟨rfl,rfl,rfl,trivial⟩ ⟨oe rfl rfl,oe rfl rfl,oe rfl rfl,rfl⟩⟩
   ·refine cP (key:=3) 4 rfl rfl aA rfl ⟨rfl,rfl,rfl,trivial⟩ ?_;refine WO.two (i:=3) (j:=5) (by kernel_rfl) ?_ ?_
    ·refine fA 3 rfl (dZ hb) dY ⟨aG rfl,rfl⟩ (kF (k')) ?_;refine gN (key:=4) 5 (by kernel_rfl) rfl rfl aA rfl ⟨rfl,rfl,rfl,trivial⟩ ?_
     refine bY 6 (by kernel_rfl) rfl rfl aA rfl rfl rfl rfl ⟨rfl,rfl,rfl,trivial⟩ ?_
     refine dst 7 ?_;refine aS ?_;exact⟨(),trivial,aN h0 [2,3,4] _ _ (by decide) ⟨rfl,rfl,rfl,trivial⟩ ⟨oe rfl rfl,oe rfl rfl,oe rfl rfl,rfl⟩⟩
    refine cP (key:=4) 5 rfl rfl aA rfl ⟨rfl,rfl,rfl,trivial⟩ ?_;refine bB 3 rfl (dZ hb) dY ⟨aG rfl,rfl⟩ (kF (k')) ?_
    refine bY 6 (by kernel_rfl) rfl rfl aA rfl rfl rfl rfl ⟨rfl,rfl,rfl,trivial⟩ ?_
    refine dst 7 ?_;refine aS ?_;exact⟨(),trivial,aN h0 [2,3,4] _ _ (by decide) ⟨rfl,rfl,rfl,trivial⟩ ⟨oe rfl rfl,oe rfl rfl,oe rfl rfl,rfl⟩⟩
   refine cP (key:=3) 5 rfl rfl aA rfl ⟨rfl,rfl,rfl,trivial⟩ ?_;refine WO.two (i:=3) (j:=4) (by kernel_rfl) ?_ ?_
   ·refine fA 3 rfl (dZ hb) dY ⟨aG rfl,rfl⟩ (kF (k')) ?_;refine gN (key:=4) 4 (by kernel_rfl) rfl rfl aA rfl ⟨rfl,rfl,rfl,trivial⟩ ?_
    refine bY 6 (by kernel_rfl) rfl rfl aA rfl rfl rfl rfl ⟨rfl,rfl,rfl,trivial⟩ ?_
    refine dst 7 ?_;refine aS ?_;exact⟨(),trivial,aN h0 [2,4,3] _ _ (by decide) ⟨rfl,rfl,rfl,trivial⟩ ⟨oe rfl rfl,oe rfl rfl,oe rfl rfl,rfl⟩⟩
   refine cP (key:=4) 4 rfl rfl aA rfl ⟨rfl,rfl,rfl,trivial⟩ ?_;refine bB 3 rfl (dZ hb) dY ⟨aG rfl,rfl⟩ (kF (k')) ?_
   refine bY 6 (by kernel_rfl) rfl rfl aA rfl rfl rfl rfl ⟨rfl,rfl,rfl,trivial⟩ ?_
   refine dst 7 ?_;refine aS ?_;exact⟨(),trivial,aN h0 [2,4,3] _ _ (by decide) ⟨rfl,rfl,rfl,trivial⟩ ⟨oe rfl rfl,oe rfl rfl,oe rfl rfl,rfl⟩⟩
  ·refine cP (key:=3) 4 rfl rfl aA rfl ⟨rfl,rfl,rfl,trivial⟩ ?_;refine WO.two (i:=1) (j:=5) (by kernel_rfl) ?_ ?_
   ·refine fA 1 rfl (dZ ha) dY ⟨aG rfl,rfl⟩ (kF (k)) ?_;refine WO.two (i:=3) (j:=5) (by kernel_rfl) ?_ ?_
    ·refine fA 3 rfl (dZ hb) dY ⟨aG rfl,rfl⟩ (kF (k')) ?_;refine gN (key:=4) 5 (by kernel_rfl) rfl rfl aA rfl ⟨rfl,rfl,rfl,trivial⟩ ?_
     refine bY 6 (by kernel_rfl) rfl rfl aA rfl rfl rfl rfl ⟨rfl,rfl,rfl,trivial⟩ ?_
     refine dst 7 ?_;refine aS ?_;exact⟨(),trivial,aN h0 [2,3,4] _ _ (by decide) ⟨rfl,rfl,rfl,trivial⟩ ⟨oe rfl rfl,oe rfl rfl,oe rfl rfl,rfl⟩⟩
    refine cP (key:=4) 5 rfl rfl aA rfl ⟨rfl,rfl,rfl,trivial⟩ ?_;refine bB 3 rfl (dZ hb) dY ⟨aG rfl,rfl⟩ (kF (k')) ?_
    refine bY 6 (by kernel_rfl) rfl rfl aA rfl rfl rfl rfl ⟨rfl,rfl,rfl,trivial⟩ ?_
    refine dst 7 ?_;refine aS ?_;exact⟨(),trivial,aN h0 [2,3,4] _ _ (by decide) ⟨rfl,rfl,rfl,trivial⟩ ⟨oe rfl rfl,oe rfl rfl,oe rfl rfl,rfl⟩⟩
   refine cP (key:=4) 5 rfl rfl aA rfl ⟨rfl,rfl,rfl,trivial⟩ ?_;refine bB 1 rfl (dZ ha) dY ⟨aG rfl,rfl⟩ (kF (k)) ?_;refine bB 3 rfl (dZ hb) dY ⟨aG rfl,rfl⟩ (kF (k')) ?_
   refine bY 6 (by kernel_rfl) rfl rfl aA rfl rfl rfl rfl ⟨rfl,rfl,rfl,trivial⟩ ?_
   refine dst 7 ?_;refine aS ?_;exact⟨(),trivial,aN h0 [2,3,4] _ _ (by decide) ⟨rfl,rfl,rfl,trivial⟩ ⟨oe rfl rfl,oe rfl rfl,oe rfl rfl,rfl⟩⟩
  refine cP (key:=3) 5 rfl rfl aA rfl ⟨rfl,rfl,rfl,trivial⟩ ?_;refine WO.two (i:=1) (j:=4) (by kernel_rfl) ?_ ?_
  ·refine fA 1 rfl (dZ ha) dY ⟨aG rfl,rfl⟩ (kF (k)) ?_;refine WO.two (i:=3) (j:=4) (by kernel_rfl) ?_ ?_
   ·refine fA 3 rfl (dZ hb) dY ⟨aG rfl,rfl⟩ (kF (k')) ?_;refine gN (key:=4) 4 (by kernel_rfl) rfl rfl aA rfl ⟨rfl,rfl,rfl,trivial⟩ ?_
    refine bY 6 (by kernel_rfl) rfl rfl aA rfl rfl rfl rfl ⟨rfl,rfl,rfl,trivial⟩ ?_
    refine dst 7 ?_;refine aS ?_;exact⟨(),trivial,aN h0 [2,4,3] _ _ (by decide) ⟨rfl,rfl,rfl,trivial⟩ ⟨oe rfl rfl,oe rfl rfl,oe rfl rfl,rfl⟩⟩
   refine cP (key:=4) 4 rfl rfl aA rfl ⟨rfl,rfl,rfl,trivial⟩ ?_;refine bB 3 rfl (dZ hb) dY ⟨aG rfl,rfl⟩ (kF (k')) ?_
   refine bY 6 (by kernel_rfl) rfl rfl aA rfl rfl rfl rfl ⟨rfl,rfl,rfl,trivial⟩ ?_
   refine dst 7 ?_;refine aS ?_;exact⟨(),trivial,aN h0 [2,4,3] _ _ (by decide) ⟨rfl,rfl,rfl,trivial⟩ ⟨oe rfl rfl,oe rfl rfl,oe rfl rfl,rfl⟩⟩
  refine cP (key:=4) 4 rfl rfl aA rfl ⟨rfl,rfl,rfl,trivial⟩ ?_;refine bB 1 rfl (dZ ha) dY ⟨aG rfl,rfl⟩ (kF (k)) ?_;refine bB 3 rfl (dZ hb) dY ⟨aG rfl,rfl⟩ (kF (k')) ?_
  refine bY 6 (by kernel_rfl) rfl rfl aA rfl rfl rfl rfl ⟨rfl,rfl,rfl,trivial⟩ ?_
  refine dst 7 ?_;refine aS ?_;exact⟨(),trivial,aN h0 [2,4,3] _ _ (by decide) ⟨rfl,rfl,rfl,trivial⟩ ⟨oe rfl rfl,oe rfl rfl,oe rfl rfl,rfl⟩⟩
 refine sq ?_;refine rd [0,1,2] (fun i=>[15].contains i) mixed ?_
 refine dv 0 ?_;refine dv 1 ?_;refine aR 2 ?_;refine dv 3 ?_;refine dv 4 ?_;refine aR 5 ?_;refine dv 6 ?_;refine dv 7 ?_;refine dv 8 ?_;refine aR 9 ?_;refine dv 10 ?_;refine dv 11 ?_
 refine aR 12 ?_
 have hA:aD true Tryz.prog 84 [] [.one (.t (sU false (dg 4294967296 k.natAbs))),.one (.t (sU false (dg 4294967296 k'.natAbs)))] (aP (.one (.t (sU true (dg 4294967296 (k.natAbs*k'.natAbs)))))):=by have h9:=RH (aM (by omega) k.natAbs) (aM (by omega) k'.natAbs) (by omega) (by omega);rwa[bI,bI]at h9
 refine lN 3 13 rfl hA UR ⟨a1 rfl,a1 rfl,rfl⟩ ?_
 refine Bt 14 4 [3] rfl (iD (b:=(aE k != aE k')) (m:=(k.natAbs*k'.natAbs)) (K:=k*k') (GW k k')) oL ⟨aI rfl,rfl⟩ ⟨rfl,rfl,rfl⟩ ⟨rfl,rfl,rfl,trivial⟩ ?_
 refine dst 15 ?_;refine aS ?_;refine rt ?_
 exact en (.inl rfl) rfl (aZ (.agg (.cons (.id rfl) (.cons (.sl (trs:=aY (dg 4294967296 ((k*k')).natAbs)) rfl rfl (bV _) (bR _)) .nil)))) (by decide) (fun _=>eS ((k*k'))) rfl
theorem DF {a b:Zi}{k k':Int}(ha:Zg a k) (hb:Zg b k'):aD true Tryz.prog 97 [] [gF a,gF b] (aP (kO (((Int.gcd k k'):Nat):Int))):=by
 refine cC Tryz.func97 rfl Tryz.ntmps97 rfl aA rfl fun N w c0 h0=>?_
 have hkl:=ha.len
 have hkl':=hb.len
 refine sq ?_;refine rl ?_;refine bx 0 ?_;refine bx 1 ?_;refine al 2 ?_;refine nl ?_;refine sq ?_;refine rd [0,1,2] (fun i=>[11].contains i) mixed ?_
 refine aR 0 ?_;refine aR 4 ?_;refine bB 1 rfl (dZ ha) dY ⟨aG rfl,rfl⟩ (kF (k)) ?_;refine df 2 ?_;refine df 3 ?_;refine bB 5 rfl (dZ hb) dY ⟨aG rfl,rfl⟩ (kF (k')) ?_
 refine df 6 ?_;refine df 7 ?_;refine kN (key:=3) 8 (by kernel_rfl) rfl rfl aA rfl ⟨rfl,rfl,rfl,trivial⟩ ?_
 refine yC (i:=13) (k:=3) (t:=44) (t':=44) (z:=1) (n:=2) (l:=[sU false (dg 4294967296 k.natAbs),sU false (dg 4294967296 k'.natAbs)]) rfl rfl rfl rfl (.one .sl) (by rfl) (by rfl) ?_
 have hA:aD true Tryz.prog 123 [] [.one (.t (.s false 44 1 2 [sU false (dg 4294967296 k.natAbs),sU false (dg 4294967296 k'.natAbs)]))] (aP (.one (.t (sU true (dg 4294967296 (Int.gcd k k')))))):=by
  have h9:=RI (t:=44) (aM (by omega) k.natAbs) (aM (by omega) k'.natAbs) (by omega) (by omega)
  rwa[show qL [dg 4294967296 k.natAbs,dg 4294967296 k'.natAbs]=(Int.gcd k k') by simp only[qL,List.foldl_cons,List.foldl_nil,bI,Nat.gcd_zero_left];rfl]at h9
 refine lN 4 9 rfl hA QY ⟨a1 rfl,rfl⟩ ?_
 refine Bt 10 5 [4] rfl (iD (b:=false) (m:=(Int.gcd k k')) (K:=(((Int.gcd k k'):Nat):Int)) (by simp[bO])) oL ⟨aI rfl,rfl⟩ ⟨rfl,rfl,rfl⟩ ⟨rfl,rfl,rfl,trivial⟩ ?_
 refine dst 11 ?_;refine aS ?_;refine rt ?_
 exact en (.inl rfl) rfl (aZ (.agg (.cons (.id rfl) (.cons (.sl (trs:=aY (dg 4294967296 ((((Int.gcd k k'):Nat):Int)).natAbs)) rfl rfl (bV _) (bR _)) .nil)))) (by decide) (fun _=>eS ((((Int.gcd k k'):Nat):Int))) rfl
theorem Vy (xs:List Nat):((aY xs).map AV.t).take (aY xs).length=(aY xs).map .t:=List.take_of_length_le (by simp)
theorem uM {a b:Zi}{k k':Int}(ha:Zg a k) (hb:Zg b k') (hz0:k'≠0):aD true Tryz.prog 120 [] [gF a,gF b] (aP (.tup [kO (k.fdiv k'),kO (k.fmod k'),.one (tv (.int .i64 0))])):=by
 refine cC Tryz.func120 rfl Tryz.ntmps120 rfl aA rfl fun N w c0 h0=>?_
 have hkl:=ha.len
 have hkl':=hb.len
 have hq:(dg 4294967296 (k.natAbs/k'.natAbs)).length≤300000000000:=Nat.le_trans (iL (Nat.div_le_self _ _)) hkl
 have hr0:=Nat.mod_lt k.natAbs (show 0<k'.natAbs by omega)
 have hrl:(dg 4294967296 (k.natAbs%k'.natAbs)).length≤300000000000:=Nat.le_trans (iL (Nat.le_of_lt hr0)) hkl'
 refine sq ?_;refine rl ?_;refine bx 0 ?_;refine bx 1 ?_;refine al 2 ?_;refine al 3 ?_;refine o1 ?_;refine nl ?_
 refine md (γ:=Unit) (fun _=>cA [(4,.one (.pt 0 0)),(5,.one (.pt 1 0)),(6,.one (tv (.int .i64 ((0:Nat):Int)))),(7,.one (.pt 2 0)),(8,.one (.pt 3 0))]) (fun _=>([⟨46,0,[tv (.bool false),tv (.slice none 0 0)]⟩,⟨46,0,[tv (.bool false),tv (.slice none 0 0)]⟩,⟨147,0,[tv (.bool (aE k)),.t (sU false (dg 4294967296 k.natAbs))]⟩,⟨147,0,[tv (.bool (aE k')),.t (sU false (dg 4294967296 k'.natAbs))]⟩]:List Ob).map some) (fun _=>True) ?_ fun _ _=>?_
 ·refine rd [0,1,2,3] (fun i=>[7].contains i) mixed ?_
  refine aR 0 ?_;refine aR 2 ?_;refine WO.three (i:=1) (j:=4) (m:=5) (by kernel_rfl) ?_ ?_ ?_
  ·refine fA 1 rfl (dZ ha) dY ⟨aG rfl,rfl⟩ (kF (k)) ?_;refine WO.three (i:=3) (j:=4) (m:=5) (by kernel_rfl) ?_ ?_ ?_
   ·refine fA 3 rfl (dZ hb) dY ⟨aG rfl,rfl⟩ (kF (k')) ?_;refine WO.two (i:=4) (j:=5) (by kernel_rfl) ?_ ?_
    ·refine cP (key:=4) 4 rfl rfl aA rfl ⟨rfl,rfl,rfl,rfl,trivial⟩ ?_;refine gN (key:=5) 5 (by kernel_rfl) rfl rfl aA rfl ⟨rfl,rfl,rfl,rfl,trivial⟩ ?_
     refine bY 6 (by kernel_rfl) rfl rfl aA rfl rfl rfl rfl ⟨rfl,rfl,rfl,rfl,trivial⟩ ?_
     refine dst 7 ?_;refine aS ?_;exact⟨(),trivial,aN h0 [2,3,4,5] _ _ (by decide) ⟨rfl,rfl,rfl,rfl,rfl,trivial⟩ ⟨oe rfl rfl,oe rfl rfl,oe rfl rfl,oe rfl rfl,rfl⟩⟩
    refine cP (key:=4) 5 rfl rfl aA rfl ⟨rfl,rfl,rfl,rfl,trivial⟩ ?_;refine gN (key:=5) 4 (by kernel_rfl) rfl rfl aA rfl ⟨rfl,rfl,rfl,rfl,trivial⟩ ?_
    refine bY 6 (by kernel_rfl) rfl rfl aA rfl rfl rfl rfl ⟨rfl,rfl,rfl,rfl,trivial⟩ ?_
    refine dst 7 ?_;refine aS ?_;exact⟨(),trivial,aN h0 [2,3,5,4] _ _ (by decide) ⟨rfl,rfl,rfl,rfl,rfl,trivial⟩ ⟨oe rfl rfl,oe rfl rfl,oe rfl rfl,oe rfl rfl,rfl⟩⟩
   ·refine cP (key:=4) 4 rfl rfl aA rfl ⟨rfl,rfl,rfl,rfl,trivial⟩ ?_;refine WO.two (i:=3) (j:=5) (by kernel_rfl) ?_ ?_
    ·refine fA 3 rfl (dZ hb) dY ⟨aG rfl,rfl⟩ (kF (k')) ?_;refine gN (key:=5) 5 (by kernel_rfl) rfl rfl aA rfl ⟨rfl,rfl,rfl,rfl,trivial⟩ ?_
     refine bY 6 (by kernel_rfl) rfl rfl aA rfl rfl rfl rfl ⟨rfl,rfl,rfl,rfl,trivial⟩ ?_
     refine dst 7 ?_;refine aS ?_;exact⟨(),trivial,aN h0 [2,3,4,5] _ _ (by decide) ⟨rfl,rfl,rfl,rfl,rfl,trivial⟩ ⟨oe rfl rfl,oe rfl rfl,oe rfl rfl,oe rfl rfl,rfl⟩⟩
    refine cP (key:=5) 5 rfl rfl aA rfl ⟨rfl,rfl,rfl,rfl,trivial⟩ ?_;refine bB 3 rfl (dZ hb) dY ⟨aG rfl,rfl⟩ (kF (k')) ?_
    refine bY 6 (by kernel_rfl) rfl rfl aA rfl rfl rfl rfl ⟨rfl,rfl,rfl,rfl,trivial⟩ ?_
    refine dst 7 ?_;refine aS ?_;exact⟨(),trivial,aN h0 [2,3,4,5] _ _ (by decide) ⟨rfl,rfl,rfl,rfl,rfl,trivial⟩ ⟨oe rfl rfl,oe rfl rfl,oe rfl rfl,oe rfl rfl,rfl⟩⟩
   refine cP (key:=4) 5 rfl rfl aA rfl ⟨rfl,rfl,rfl,rfl,trivial⟩ ?_;refine WO.two (i:=3) (j:=4) (by kernel_rfl) ?_ ?_
   ·refine fA 3 rfl (dZ hb) dY ⟨aG rfl,rfl⟩ (kF (k')) ?_;refine gN (key:=5) 4 (by kernel_rfl) rfl rfl aA rfl ⟨rfl,rfl,rfl,rfl,trivial⟩ ?_
    refine bY 6 (by kernel_rfl) rfl rfl aA rfl rfl rfl rfl ⟨rfl,rfl,rfl,rfl,trivial⟩ ?_
    refine dst 7 ?_;refine aS ?_;exact⟨(),trivial,aN h0 [2,3,5,4] _ _ (by decide) ⟨rfl,rfl,rfl,rfl,rfl,trivial⟩ ⟨oe rfl rfl,oe rfl rfl,oe rfl rfl,oe rfl rfl,rfl⟩⟩
   refine cP (key:=5) 4 rfl rfl aA rfl ⟨rfl,rfl,rfl,rfl,trivial⟩ ?_;refine bB 3 rfl (dZ hb) dY ⟨aG rfl,rfl⟩ (kF (k')) ?_
   refine bY 6 (by kernel_rfl) rfl rfl aA rfl rfl rfl rfl ⟨rfl,rfl,rfl,rfl,trivial⟩ ?_
   refine dst 7 ?_;refine aS ?_;exact⟨(),trivial,aN h0 [2,3,5,4] _ _ (by decide) ⟨rfl,rfl,rfl,rfl,rfl,trivial⟩ ⟨oe rfl rfl,oe rfl rfl,oe rfl rfl,oe rfl rfl,rfl⟩⟩
  ·refine cP (key:=4) 4 rfl rfl aA rfl ⟨rfl,rfl,rfl,rfl,trivial⟩ ?_;refine WO.two (i:=1) (j:=5) (by kernel_rfl) ?_ ?_
   ·refine fA 1 rfl (dZ ha) dY ⟨aG rfl,rfl⟩ (kF (k)) ?_;refine WO.two (i:=3) (j:=5) (by kernel_rfl) ?_ ?_
    ·refine fA 3 rfl (dZ hb) dY ⟨aG rfl,rfl⟩ (kF (k')) ?_;refine gN (key:=5) 5 (by kernel_rfl) rfl rfl aA rfl ⟨rfl,rfl,rfl,rfl,trivial⟩ ?_
     refine bY 6 (by kernel_rfl) rfl rfl aA rfl rfl rfl rfl ⟨rfl,rfl,rfl,rfl,trivial⟩ ?_
     refine dst 7 ?_;refine aS ?_;exact⟨(),trivial,aN h0 [2,3,4,5] _ _ (by decide) ⟨rfl,rfl,rfl,rfl,rfl,trivial⟩ ⟨oe rfl rfl,oe rfl rfl,oe rfl rfl,oe rfl rfl,rfl⟩⟩
    refine cP (key:=5) 5 rfl rfl aA rfl ⟨rfl,rfl,rfl,rfl,trivial⟩ ?_;refine bB 3 rfl (dZ hb) dY ⟨aG rfl,rfl⟩ (kF (k')) ?_
    refine bY 6 (by kernel_rfl) rfl rfl aA rfl rfl rfl rfl ⟨rfl,rfl,rfl,rfl,trivial⟩ ?_
    refine dst 7 ?_;refine aS ?_;exact⟨(),trivial,aN h0 [2,3,4,5] _ _ (by decide) ⟨rfl,rfl,rfl,rfl,rfl,trivial⟩ ⟨oe rfl rfl,oe rfl rfl,oe rfl rfl,oe rfl rfl,rfl⟩⟩
   refine cP (key:=5) 5 rfl rfl aA rfl ⟨rfl,rfl,rfl,rfl,trivial⟩ ?_;refine bB 1 rfl (dZ ha) dY ⟨aG rfl,rfl⟩ (kF (k)) ?_
   refine bB 3 rfl (dZ hb) dY ⟨aG rfl,rfl⟩ (kF (k')) ?_;refine bY 6 (by kernel_rfl) rfl rfl aA rfl rfl rfl rfl ⟨rfl,rfl,rfl,rfl,trivial⟩ ?_
   refine dst 7 ?_;refine aS ?_;exact⟨(),trivial,aN h0 [2,3,4,5] _ _ (by decide) ⟨rfl,rfl,rfl,rfl,rfl,trivial⟩ ⟨oe rfl rfl,oe rfl rfl,oe rfl rfl,oe rfl rfl,rfl⟩⟩
  refine cP (key:=4) 5 rfl rfl aA rfl ⟨rfl,rfl,rfl,rfl,trivial⟩ ?_;refine WO.two (i:=1) (j:=4) (by kernel_rfl) ?_ ?_
  ·refine fA 1 rfl (dZ ha) dY ⟨aG rfl,rfl⟩ (kF (k)) ?_;refine WO.two (i:=3) (j:=4) (by kernel_rfl) ?_ ?_
   ·refine fA 3 rfl (dZ hb) dY ⟨aG rfl,rfl⟩ (kF (k')) ?_;refine gN (key:=5) 4 (by kernel_rfl) rfl rfl aA rfl ⟨rfl,rfl,rfl,rfl,trivial⟩ ?_
    refine bY 6 (by kernel_rfl) rfl rfl aA rfl rfl rfl rfl ⟨rfl,rfl,rfl,rfl,trivial⟩ ?_
    refine dst 7 ?_;refine aS ?_;exact⟨(),trivial,aN h0 [2,3,5,4] _ _ (by decide) ⟨rfl,rfl,rfl,rfl,rfl,trivial⟩ ⟨oe rfl rfl,oe rfl rfl,oe rfl rfl,oe rfl rfl,rfl⟩⟩
   refine cP (key:=5) 4 rfl rfl aA rfl ⟨rfl,rfl,rfl,rfl,trivial⟩ ?_;refine bB 3 rfl (dZ hb) dY ⟨aG rfl,rfl⟩ (kF (k')) ?_
   refine bY 6 (by kernel_rfl) rfl rfl aA rfl rfl rfl rfl ⟨rfl,rfl,rfl,rfl,trivial⟩ ?_
   refine dst 7 ?_;refine aS ?_;exact⟨(),trivial,aN h0 [2,3,5,4] _ _ (by decide) ⟨rfl,rfl,rfl,rfl,rfl,trivial⟩ ⟨oe rfl rfl,oe rfl rfl,oe rfl rfl,oe rfl rfl,rfl⟩⟩
  refine cP (key:=5) 4 rfl rfl aA rfl ⟨rfl,rfl,rfl,rfl,trivial⟩ ?_;refine bB 1 rfl (dZ ha) dY ⟨aG rfl,rfl⟩ (kF (k)) ?_
  refine bB 3 rfl (dZ hb) dY ⟨aG rfl,rfl⟩ (kF (k')) ?_;refine bY 6 (by kernel_rfl) rfl rfl aA rfl rfl rfl rfl ⟨rfl,rfl,rfl,rfl,trivial⟩ ?_
  refine dst 7 ?_;refine aS ?_;exact⟨(),trivial,aN h0 [2,3,5,4] _ _ (by decide) ⟨rfl,rfl,rfl,rfl,rfl,trivial⟩ ⟨oe rfl rfl,oe rfl rfl,oe rfl rfl,oe rfl rfl,rfl⟩⟩
 refine sq ?_;refine rl ?_;refine o1 ?_;refine o1 ?_;refine ld ?_;refine o1 ?_;refine o1 ?_;refine ld ?_
 have hD:aD true Tryz.prog 142 [] [.one (.t (sU false (dg 4294967296 k.natAbs))),.one (.t (sU false (dg 4294967296 k'.natAbs)))] (aP (.tup [.one (.t (sU true (dg 4294967296 (k.natAbs/k'.natAbs)))),.one (.t (sU true (dg 4294967296 (k.natAbs%k'.natAbs)))),.one (tv (.int .i64 0))])):=by
  have h9:=AY (aM (by omega) k.natAbs) (aM (by omega) k'.natAbs) (by omega) (by omega) (by rw[bI];omega)
  rwa[bI,bI]at h9
 refine iY 4 hD RB ⟨a1 rfl,a1 rfl,rfl⟩ ?_;(iterate 7 refine o1 ?_);refine nl ?_;refine sq ?_;refine sq ?_;refine rl ?_;refine o1 ?_;refine o1 ?_;refine nl ?_
 refine bM rfl (fun h1=>?_) (fun h1=>?_)
 ·exact absurd rfl h1
 refine sk ?_;refine sq ?_;refine sq ?_;refine rl ?_;refine o1 ?_;refine o1 ?_;refine ld ?_;refine o1 ?_;refine o1 ?_;refine ld ?_;refine o1 ?_;refine o1 ?_
 refine WL.splitb (t:=37) rfl (fun h2=>?_) (fun h2=>?_)
 ·(iterate 4 refine o1 ?_);refine nl ?_;refine bM rfl (fun h3=>?_) (fun h3=>?_)
  ·refine sq ?_;refine rl ?_;refine o1 ?_;refine bs 6 ?_
   have hA:aD true Tryz.prog 139 [] [.one (.t (sU false (dg 4294967296 (k.natAbs/k'.natAbs)))),.one (.t (sU false [1]))] (aP (.one (.t (sU true (dg 4294967296 ((k.natAbs/k'.natAbs)+1)))))):=by
    have h9:=DB (aM (by omega) (k.natAbs/k'.natAbs)) (Lim.cons (show 1<4294967296 by omega) Lim.nil) (by omega) (by simp)
    rwa[cE (by omega),show vl 4294967296 [1]=1 from rfl]at h9
   refine iY 7 hA CP ⟨uQ rfl (.sl rfl rfl (Vy _) (bR _)),uQ rfl (.sl (trs:=aY [1]) rfl rfl rfl rfl),rfl⟩ ?_;refine o1 ?_;refine nl ?_;refine rl ?_;refine o1 ?_
   refine o1 ?_;refine ld ?_;refine o1 ?_
   have hS:aD true Tryz.prog 141 [] [.one (.t (sU false (dg 4294967296 k'.natAbs))),.one (.t (sU false (dg 4294967296 (k.natAbs%k'.natAbs))))] (aP (.tup [.one (.t (sU true (dg 4294967296 (k'.natAbs-(k.natAbs%k'.natAbs))))),.one (tv (.int .i64 0))])):=by
    have h9:=Qz (aM (by omega) k'.natAbs) (aM (by omega) (k.natAbs%k'.natAbs)) (by omega) (by rw[bI,cE (by omega)];omega)
    rwa[bI,cE (by omega)]at h9
   refine iY 8 hS Qo ⟨a1 rfl,uQ rfl (.sl rfl rfl (Vy _) (bR _)),rfl⟩ ?_;(iterate 4 refine o1 ?_);refine nl ?_;refine sq ?_
   have hd:k.fdiv k'=bO (aE k != aE k') ((k.natAbs/k'.natAbs)+1)∧k.fmod k'=bO (aE k') (k'.natAbs-(k.natAbs%k'.natAbs)):=by
    have h9:aE k≠aE k':=by simpa using h2
    have h7:k.natAbs%k'.natAbs≠0:=by have h5:=lQ (m:=(k.natAbs%k'.natAbs)) rfl;rw[decide_eq_true (by omega)]at h5;have h6:=of_decide_eq_true h5.symm;omega
    have h8:=GZ (a:=k) (b:=k') hz0 h9 h7
    rw[h2];exact h8
   refine rd [1,2,3,6] (fun i=>[15,16].contains i) mixed ?_
   refine dv 0 ?_;refine dv 1 ?_;refine aR 2 ?_;refine dv 3 ?_;refine dv 4 ?_;refine aR 5 ?_;refine dv 6 ?_;refine dv 7 ?_;refine dv 9 ?_;refine dv 10 ?_;refine aR 11 ?_
   refine dv 12 ?_
   refine Bt 8 9 [7] rfl (iD (b:=(aE k != aE k')) (m:=((k.natAbs/k'.natAbs)+1)) (K:=(k.fdiv k')) hd.1.symm) oL ⟨aI rfl,rfl⟩ ⟨rfl,rfl,rfl⟩ ⟨rfl,rfl,rfl,rfl,trivial⟩ ?_
   refine Bt 13 10 [8] rfl (iD (b:=(aE k')) (m:=(k'.natAbs-(k.natAbs%k'.natAbs))) (K:=(k.fmod k')) hd.2.symm) oL ⟨aI rfl,rfl⟩ ⟨rfl,rfl,rfl⟩ ⟨rfl,rfl,rfl,rfl,trivial⟩ ?_
   refine bY 14 (by kernel_rfl) rfl rfl aA rfl rfl rfl rfl ⟨rfl,rfl,rfl,rfl,trivial⟩ ?_
   refine dst 15 ?_;refine eR 16 (by kernel_rfl) rfl rfl aA rfl (by trivial) ?_ (fun h=>by first | rfl | cases h)
   refine aS ?_;refine rt ?_
   exact en (.inl rfl) rfl (yQ (.cons (.agg (.cons (.id rfl) (.cons (.sl (trs:=aY (dg 4294967296 ((k.fdiv k')).natAbs)) rfl rfl (bV _) (bR _)) .nil))) (.cons (.agg (.cons (.id rfl) (.cons (.sl (trs:=aY (dg 4294967296 ((k.fmod k')).natAbs)) rfl rfl (bV _) (bR _)) .nil))) (.cons (cR (.int .i64 0)) .nil)))) (by decide) (fun _=>⟨eS (k.fdiv k'),eS (k.fmod k'),trivial,trivial⟩) rfl
  refine sk ?_;refine sq ?_;have hd:k.fdiv k'=bO (aE k != aE k') (k.natAbs/k'.natAbs)∧k.fmod k'=bO (aE k') (k.natAbs%k'.natAbs):=by
   have h9:aE k≠aE k':=by simpa using h2
   have h7:k.natAbs%k'.natAbs=0:=by have h5:=lQ (m:=(k.natAbs%k'.natAbs)) rfl;rw[decide_eq_false (by omega)]at h5;have h6:=of_decide_eq_false h5.symm;omega
   have h8:=GY (a:=k) (b:=k') hz0 h9 h7
   rw[h2];exact h8
  refine rd [1,2,3] (fun i=>[15,16].contains i) mixed ?_
  refine dv 0 ?_;refine dv 1 ?_;refine aR 2 ?_;refine dv 3 ?_;refine dv 4 ?_;refine aR 5 ?_;refine dv 6 ?_;refine dv 7 ?_;refine dv 9 ?_;refine dv 10 ?_;refine aR 11 ?_
  refine dv 12 ?_
  refine Bt 8 6 [4] rfl (iD (b:=(aE k != aE k')) (m:=(k.natAbs/k'.natAbs)) (K:=(k.fdiv k')) hd.1.symm) oL ⟨aI rfl,rfl⟩ ⟨rfl,rfl,rfl⟩ ⟨rfl,rfl,rfl,trivial⟩ ?_
  refine Bt 13 7 [5] rfl (iD (b:=(aE k')) (m:=(k.natAbs%k'.natAbs)) (K:=(k.fmod k')) hd.2.symm) oL ⟨aI rfl,rfl⟩ ⟨rfl,rfl,rfl⟩ ⟨rfl,rfl,rfl,trivial⟩ ?_
  refine bY 14 (by kernel_rfl) rfl rfl aA rfl rfl rfl rfl ⟨rfl,rfl,rfl,trivial⟩ ?_
  refine dst 15 ?_;refine eR 16 (by kernel_rfl) rfl rfl aA rfl (by trivial) ?_ (fun h=>by first | rfl | cases h)
  refine aS ?_;refine rt ?_
  exact en (.inl rfl) rfl (yQ (.cons (.agg (.cons (.id rfl) (.cons (.sl (trs:=aY (dg 4294967296 ((k.fdiv k')).natAbs)) rfl rfl (bV _) (bR _)) .nil))) (.cons (.agg (.cons (.id rfl) (.cons (.sl (trs:=aY (dg 4294967296 ((k.fmod k')).natAbs)) rfl rfl (bV _) (bR _)) .nil))) (.cons (cR (.int .i64 0)) .nil)))) (by decide) (fun _=>⟨eS (k.fdiv k'),eS (k.fmod k'),trivial,trivial⟩) rfl
 (iterate 3 refine cM ?_);refine o1 ?_;refine nl ?_;refine eN rfl ?_;refine sk ?_;refine sq ?_
 have hd:k.fdiv k'=bO (aE k != aE k') (k.natAbs/k'.natAbs)∧k.fmod k'=bO (aE k') (k.natAbs%k'.natAbs):=by
  have h9:aE k=aE k':=by simpa using h2
  have h8:=GX (a:=k) (b:=k') hz0 h9
  rw[h2];exact h8
 refine rd [1,2,3] (fun i=>[15,16].contains i) mixed ?_
 refine dv 0 ?_;refine dv 1 ?_;refine aR 2 ?_;refine dv 3 ?_;refine dv 4 ?_;refine aR 5 ?_;refine dv 6 ?_;refine dv 7 ?_;refine dv 9 ?_;refine dv 10 ?_;refine aR 11 ?_
 refine dv 12 ?_
 refine Bt 8 6 [4] rfl (iD (b:=(aE k != aE k')) (m:=(k.natAbs/k'.natAbs)) (K:=(k.fdiv k')) hd.1.symm) oL ⟨aI rfl,rfl⟩ ⟨rfl,rfl,rfl⟩ ⟨rfl,rfl,rfl,trivial⟩ ?_
 refine Bt 13 7 [5] rfl (iD (b:=(aE k')) (m:=(k.natAbs%k'.natAbs)) (K:=(k.fmod k')) hd.2.symm) oL ⟨aI rfl,rfl⟩ ⟨rfl,rfl,rfl⟩ ⟨rfl,rfl,rfl,trivial⟩ ?_
 refine bY 14 (by kernel_rfl) rfl rfl aA rfl rfl rfl rfl ⟨rfl,rfl,rfl,trivial⟩ ?_
 refine dst 15 ?_;refine eR 16 (by kernel_rfl) rfl rfl aA rfl (by trivial) ?_ (fun h=>by first | rfl | cases h)
 refine aS ?_;refine rt ?_
 exact en (.inl rfl) rfl (yQ (.cons (.agg (.cons (.id rfl) (.cons (.sl (trs:=aY (dg 4294967296 ((k.fdiv k')).natAbs)) rfl rfl (bV _) (bR _)) .nil))) (.cons (.agg (.cons (.id rfl) (.cons (.sl (trs:=aY (dg 4294967296 ((k.fmod k')).natAbs)) rfl rfl (bV _) (bR _)) .nil))) (.cons (cR (.int .i64 0)) .nil)))) (by decide) (fun _=>⟨eS (k.fdiv k'),eS (k.fmod k'),trivial,trivial⟩) rfl
theorem sX {p:Rat}{L:Nat}(h:Sz L p) (hL:L≤68719476736:=by omega):Zg (.of p.num) p.num:=.of (Nat.le_trans h.1 (by omega))
theorem kY {p:Rat}{L:Nat}(h:Sz L p) (hL:L≤68719476736:=by omega):Zg ⟨false,dg 4294967296 p.den⟩ (p.den:Int):=⟨aM (by omega) _,Nat.le_trans h.2 (by omega),xV p.den⟩
theorem Gf {q:Rat}{n d:Int}(h1:q.num=n) (h2:(q.den:Int)=d):FV.agg [tv (.bool (aE n)),.t (sU true (dg 4294967296 n.natAbs)),tv (.bool (aE d)),.t (sU true (dg 4294967296 d.natAbs))]=qO q:=by
 subst h1 h2
 rw[xU]
 rfl
theorem Fe {a b:Zi}{k k':Int}(ha:Zg a k) (hb:Zg b k') (hz0:k'≠0):aD true Tryz.prog 88 [] [gF a,gF b] (aP (qO (Rat.divInt k k'))):=by
 refine cC Tryz.func88 rfl Tryz.ntmps88 rfl aA rfl fun N w c0 h0=>?_
 have hkl:=ha.len
 have hkl':=hb.len
 have hgl:(dg 4294967296 ((Int.gcd k k':Nat):Int).natAbs).length≤300000000000:=Nat.le_trans (iL (Nat.le_of_dvd (by omega) (Nat.gcd_dvd_right ..))) hkl'
 have hng:=jX ((Int.gcd k k':Nat):Int)
 have hg0:((Int.gcd k k':Nat):Int)≠0:=fun e=>hz0 (Int.gcd_eq_zero_iff.1 (show Int.gcd k k'=0 by omega)).2
 refine sq ?_;refine rl ?_;refine bx 0 ?_;refine bx 1 ?_;refine al 2 ?_;refine nl ?_;refine sq ?_;refine rl ?_;refine ld ?_;refine ld ?_
 refine ca (DF ha hb) MO ⟨aG rfl,aG rfl,rfl⟩ (kF (((Int.gcd k k':Nat):Int))) ?_;refine al 3 ?_;refine st ?_;refine nl ?_;refine sq ?_;refine sq ?_;refine rl ?_;refine ld ?_
 refine ca (Bu hb) Qk ⟨aG rfl,rfl⟩ (.one (tv (.int .i64 k'.sign))) ?_;refine o1 ?_;refine nl ?_;refine bM rfl (fun h1=>?_) (fun h1=>?_)
 ·refine rl ?_;refine ld ?_;refine ca (DC (Zg.of (k:=((Int.gcd k k':Nat):Int)) hgl)) ML ⟨aG rfl,rfl⟩ (kF (-(((Int.gcd k k':Nat):Int)))) ?_;refine st ?_;refine nl ?_;refine sq ?_
  refine rl ?_;refine ld ?_;refine ld ?_;refine iY 4 (uM ha (Zg.of (k:=(-(((Int.gcd k k':Nat):Int)))) (by omega)) (by omega)) Ga ⟨aG rfl,aG rfl,rfl⟩ ?_
  (iterate 4 refine o1 ?_);refine al 6 ?_;refine al 7 ?_;refine st ?_;refine st ?_;refine o1 ?_;refine nl ?_;refine sq ?_;refine rl ?_;refine ld ?_;refine ld ?_
  refine iY 8 (uM hb (Zg.of (k:=(-(((Int.gcd k k':Nat):Int)))) (by omega)) (by omega)) Ga ⟨aG rfl,aG rfl,rfl⟩ ?_
  (iterate 4 refine o1 ?_);refine al 10 ?_;refine al 11 ?_;refine st ?_;refine st ?_;refine o1 ?_;refine nl ?_;refine sq ?_;refine rl ?_;refine ld ?_;refine ld ?_;refine o1 ?_
  refine st ?_;refine nl ?_;refine rt ?_;have hk9:k'<0:=by
   rcases Int.lt_trichotomy k' 0 with h8 | h8 | h8
   ·exact h8
   ·exact absurd h8 hz0
   rw[Int.sign_eq_one_of_pos h8]at h1;omega
  have h9:=Kc (N:=k) (D:=k') hk9
  exact en (.inl rfl) rfl (aZ (.agg (.cons (.id rfl) (.cons (.sl (trs:=aY (dg 4294967296 (((k).fdiv (-(((Int.gcd k k':Nat):Int))))).natAbs)) rfl rfl (bV _) (bR _)) (.cons (.id rfl) (.cons (.sl (trs:=aY (dg 4294967296 (((k').fdiv (-(((Int.gcd k k':Nat):Int))))).natAbs)) rfl rfl (bV _) (bR _)) (.nil))))))) (by decide) (fun _=>vN (⟨aE ((k).fdiv (-(((Int.gcd k k':Nat):Int)))),dg 4294967296 (((k).fdiv (-(((Int.gcd k k':Nat):Int))))).natAbs,aE ((k').fdiv (-(((Int.gcd k k':Nat):Int)))),dg 4294967296 (((k').fdiv (-(((Int.gcd k k':Nat):Int))))).natAbs⟩:Fr4)) (Gf h9.1 h9.2)
 refine sk ?_;refine sq ?_;refine rl ?_;refine ld ?_;refine ld ?_;refine iY 4 (uM ha (Zg.of (k:=((Int.gcd k k':Nat):Int)) (by omega)) (by omega)) Ga ⟨aG rfl,aG rfl,rfl⟩ ?_
 (iterate 4 refine o1 ?_);refine al 6 ?_;refine al 7 ?_;refine st ?_;refine st ?_;refine o1 ?_;refine nl ?_;refine sq ?_;refine rl ?_;refine ld ?_;refine ld ?_
 refine iY 8 (uM hb (Zg.of (k:=((Int.gcd k k':Nat):Int)) (by omega)) (by omega)) Ga ⟨aG rfl,aG rfl,rfl⟩ ?_
 (iterate 4 refine o1 ?_);refine al 10 ?_;refine al 11 ?_;refine st ?_;refine st ?_;refine o1 ?_;refine nl ?_;refine sq ?_;refine rl ?_;refine ld ?_;refine ld ?_;refine o1 ?_
 refine st ?_;refine nl ?_;refine rt ?_;have hk9:0<k':=by
  rcases Int.lt_trichotomy k' 0 with h8 | h8 | h8
  ·rw[Int.sign_eq_neg_one_of_neg h8]at h1;omega
  ·exact absurd h8 hz0
  exact h8
 have h9:=nK (N:=k) (D:=k') hk9
 exact en (.inl rfl) rfl (aZ (.agg (.cons (.id rfl) (.cons (.sl (trs:=aY (dg 4294967296 (((k).fdiv ((Int.gcd k k':Nat):Int))).natAbs)) rfl rfl (bV _) (bR _)) (.cons (.id rfl) (.cons (.sl (trs:=aY (dg 4294967296 (((k').fdiv ((Int.gcd k k':Nat):Int))).natAbs)) rfl rfl (bV _) (bR _)) (.nil))))))) (by decide) (fun _=>vN (⟨aE ((k).fdiv ((Int.gcd k k':Nat):Int)),dg 4294967296 (((k).fdiv ((Int.gcd k k':Nat):Int))).natAbs,aE ((k').fdiv ((Int.gcd k k':Nat):Int)),dg 4294967296 (((k').fdiv ((Int.gcd k k':Nat):Int))).natAbs⟩:Fr4)) (Gf h9.1 h9.2)
theorem Rc {p q:Rat}(hp:Sz 68719476736 p) (hq:Sz 68719476736 q):aD true Tryz.prog 57 [] [qF (.of p),qF (.of q)] (aP (qO (p+q))):=by
 refine cC Tryz.func57 rfl Tryz.ntmps57 rfl aA rfl fun N w c0 h0=>?_
 have z1:=(sX hp).len;have z2:=(sX hq).len;have z3:=(kY hp).len;have z4:=(kY hq).len
 have y1:(dg 4294967296 p.num.natAbs).length≤68719476736:=hp.1;have y2:(dg 4294967296 q.num.natAbs).length≤68719476736:=hq.1;have y3:(dg 4294967296 p.den).length≤68719476736:=hp.2;have y4:(dg 4294967296 q.den).length≤68719476736:=hq.2;have y5:(dg 4294967296 (p.den:Int).natAbs).length≤68719476736:=hp.2;have y6:(dg 4294967296 (q.den:Int).natAbs).length≤68719476736:=hq.2
 refine sq ?_;refine rl ?_;refine bx 0 ?_;refine bx 1 ?_;refine al 2 ?_;refine nl ?_;refine sq ?_;refine sq ?_;refine rl ?_;refine o1 ?_;refine ld ?_;refine o1 ?_;refine ld ?_
 refine ca (Rb (kY hp) (kY hq) (by have h8:=uH (p.den:Int) (-(q.den:Int));have h7:=jX (q.den:Int);rw[Int.natAbs_natCast]at h7 h8;rw[Int.sub_eq_add_neg];omega)) Xk ⟨aG rfl,aG rfl,rfl⟩ (.one (tv (.int .i64 ((p.den:Int)-(q.den:Int)).sign))) ?_
 refine o1 ?_;refine nl ?_;refine bM rfl (fun h1=>?_) (fun h1=>?_)
 ·refine sq ?_;refine rd [0,1,2] (fun i=>[8].contains i) mixed ?_
  refine dv 0 ?_;refine aR 1 ?_;refine dv 2 ?_;refine aR 3 ?_;refine dv 5 ?_;refine aR 6 ?_;have hn2:=uH (p.num) (q.num)
  refine bB 4 rfl (DD (sX hp) (sX hq)) MN ⟨aG rfl,aG rfl,rfl⟩ (kF (p.num+q.num)) ?_
  refine lN 3 7 rfl (Fe (Zg.of (k:=(p.num+q.num)) (by omega)) (kY hp) (by have h8:=p.den_nz;have h7:=q.den_nz;first | omega | exact Int.mul_ne_zero (by omega) (by omega))) MM ⟨aG rfl,aG rfl,rfl⟩ ?_
  refine dst 8 ?_;refine aS ?_;refine rt ?_
  exact en (.inl rfl) rfl (aZ (.agg (.cons (.id rfl) (.cons (.sl (trs:=aY (dg 4294967296 (Rat.divInt ((p.num+q.num)) ((p.den:Int))).num.natAbs)) rfl rfl (bV _) (bR _)) (.cons (.id rfl) (.cons (.sl (trs:=aY (dg 4294967296 (Rat.divInt ((p.num+q.num)) ((p.den:Int))).den)) rfl rfl (bV _) (bR _)) .nil)))))) (by decide) (fun _=>Bp (Rat.divInt ((p.num+q.num)) ((p.den:Int)))) (by rw[show(Rat.divInt ((p.num+q.num)) ((p.den:Int)))=p+q from AN (by have h8:=Int.sign_eq_zero_iff_zero.1 h1;omega)];rfl)
 refine sk ?_;refine sq ?_;refine rd [0,1,2] (fun i=>[17].contains i) mixed ?_
 refine dv 0 ?_;refine aR 1 ?_;refine dv 2 ?_;refine aR 3 ?_;refine dv 5 ?_;refine aR 6 ?_;refine dv 7 ?_;refine aR 8 ?_;refine dv 11 ?_;refine aR 12 ?_;refine dv 13 ?_
 refine aR 14 ?_;have hn3:=pV (p.num) ((q.den:Int))
 refine bB 4 rfl (Ge (sX hp) (kY hq)) Hc ⟨aG rfl,aG rfl,rfl⟩ (kF (p.num*(q.den:Int))) ?_;have hn4:=pV (q.num) ((p.den:Int))
 refine bB 9 rfl (Ge (sX hq) (kY hp)) Hc ⟨aG rfl,aG rfl,rfl⟩ (kF (q.num*(p.den:Int))) ?_;have hn5:=uH ((p.num*(q.den:Int))) ((q.num*(p.den:Int)))
 refine bB 10 rfl (DD (Zg.of (k:=(p.num*(q.den:Int))) (by omega)) (Zg.of (k:=(q.num*(p.den:Int))) (by omega))) MN ⟨aG rfl,aG rfl,rfl⟩ (kF ((p.num*(q.den:Int))+(q.num*(p.den:Int)))) ?_
 have hn6:=pV ((p.den:Int)) ((q.den:Int))
 refine bB 15 rfl (Ge (kY hp) (kY hq)) Hc ⟨aG rfl,aG rfl,rfl⟩ (kF ((p.den:Int)*(q.den:Int))) ?_
 refine lN 3 16 rfl (Fe (Zg.of (k:=((p.num*(q.den:Int))+(q.num*(p.den:Int)))) (by omega)) (Zg.of (k:=((p.den:Int)*(q.den:Int))) (by omega)) (by have h8:=p.den_nz;have h7:=q.den_nz;first | omega | exact Int.mul_ne_zero (by omega) (by omega))) MM ⟨aG rfl,aG rfl,rfl⟩ ?_
 refine dst 17 ?_;refine aS ?_;refine rt ?_
 exact en (.inl rfl) rfl (aZ (.agg (.cons (.id rfl) (.cons (.sl (trs:=aY (dg 4294967296 (Rat.divInt (((p.num*(q.den:Int))+(q.num*(p.den:Int)))) (((p.den:Int)*(q.den:Int)))).num.natAbs)) rfl rfl (bV _) (bR _)) (.cons (.id rfl) (.cons (.sl (trs:=aY (dg 4294967296 (Rat.divInt (((p.num*(q.den:Int))+(q.num*(p.den:Int)))) (((p.den:Int)*(q.den:Int)))).den)) rfl rfl (bV _) (bR _)) .nil)))))) (by decide) (fun _=>Bp (Rat.divInt (((p.num*(q.den:Int))+(q.num*(p.den:Int)))) (((p.den:Int)*(q.den:Int))))) (by rw[show(Rat.divInt (((p.num*(q.den:Int))+(q.num*(p.den:Int)))) (((p.den:Int)*(q.den:Int))))=p+q from wK p q];rfl)
theorem Vz {k:Int}{f:FuncId}{args:List FV}(h:∀(N:Nat→Prop) (w:World) us,dE w N [] args us→(∀b,N b→b<w.heap.size)→Calls Tryz.prog f us.toArray w (NE k w)):aD true Tryz.prog f [] args (aP (kO k)):=by
 intro N w cs us hL
 obtain⟨rfl,hf⟩:=wM hL
 refine(h _ w us hf (fun b hb=>hb.1)).mono ?_
 rintro e W ⟨A,n,c,rfl,ho,hb⟩
 obtain⟨y1,a1,a2,a3,a4⟩:=wL (N:=fun b=>true=false∧(b<W.heap.size∧b∉VT.fpL [])∧(N b∨w.heap.size≤b)) ho
 refine .mk0 (y:=[.w (.bool (aE k)),y1]) rfl hb (by simp only[VT.okL,VT.ok];exact⟨trivial,a3,trivial⟩) ?_ (fun b hb'=>?_) ?_
 ·simp only[VT.fpL,VT.fp,a4,List.nil_append,List.append_nil]
  exact Br A n c
 ·simp only[VT.fpL,VT.fp,a4,List.nil_append,List.append_nil]at hb'
  exact ho.blk b hb'
 refine⟨by simp only[List.map_cons,List.map_nil,a1];rfl,?_⟩
 simp only[List.map_cons,List.map_nil,bH,CR,sU]
 exact⟨by simp[OR],jN (fun _ _=>rfl) (fun b hb=>absurd hb.1 (by simp)) _ _ a2,trivial⟩
theorem NQ {n:Int}(h1:-9223372036854775808≤n) (h2:n≤9223372036854775807):aD true Tryz.prog 54 [] [.one (tv (.int .i64 n))] (aP (kO n)):=Vz fun N w us hf hN=>by
 obtain⟨u,rfl,h3⟩:=AS hf
 obtain rfl:=aW (sD h3)
 exact NF n w h1 h2
theorem HP {m:Nat}:decide (((m:Int)-1).sign=0)=(m==1):=by
 rw[decide_eq_decide.2 Int.sign_eq_zero_iff_zero]
 rw[Bool.eq_iff_iff,decide_eq_true_eq,beq_iff_eq]
 omega
theorem Km {z:Int}:0<z.sign↔0<z:=by
 rcases Int.lt_trichotomy z 0 with h | h | h
 ·rw[Int.sign_eq_neg_one_of_neg h];omega
 ·subst h;decide
 rw[Int.sign_eq_one_of_pos h];omega
theorem Kn:aD true Tryz.prog 55 [] [] (aP (kO 1)):=by
 refine cC Tryz.func55 rfl Tryz.ntmps55 rfl aA rfl fun N w c0 h0=>?_
 refine sq ?_;refine rl ?_;refine al 0 ?_;refine nl ?_;refine sq ?_;refine rl ?_;refine iY 1 (NQ (n:=1) (by omega) (by omega)) MK ⟨a1 rfl,rfl⟩ ?_
 refine st ?_;refine nl ?_;refine rt ?_
 exact en (.inl rfl) rfl (aZ (.agg (.cons (.id rfl) (.cons (.sl (trs:=aY (dg 4294967296 ((1:Int)).natAbs)) rfl rfl (bV _) (bR _)) .nil)))) (by decide) (fun _=>eS 1) rfl
theorem Ko {a:Fr4}{p:Rat}(ha:Qn a p):aD true Tryz.prog 68 [] [qF a] (aP (.one (tv (.bool (bQ a.s a.x a.t a.y))))):=by
 refine cC Tryz.func68 rfl Tryz.ntmps68 rfl aA rfl fun N w c0 h0=>?_
 refine sq ?_;refine rl ?_;refine bx 0 ?_;refine o1 ?_;refine nl ?_;refine sq ?_;refine rl ?_;refine o1 ?_;refine ld ?_
 refine ca (Dp (a:=⟨a.s,a.x⟩) ((NP ha).g)) AD ⟨aG rfl,rfl⟩ (.one (tv (.bool (dI a.s a.x)))) ?_;refine o1 ?_;refine WL.splitb (t:=6) rfl (fun h1=>?_) (fun h1=>?_)
 ·refine o1 ?_;refine ld ?_;refine ca (Dp (a:=⟨a.t,a.y⟩) ((Qy ha).g)) AD ⟨aG rfl,rfl⟩ (.one (tv (.bool (dI a.t a.y)))) ?_;refine o1 ?_;refine o1 ?_
  refine WL.splitb (t:=11) rfl (fun h2=>?_) (fun h2=>?_)
  ·refine o1 ?_;refine ld ?_;refine ca (Bu (a:=⟨a.t,a.y⟩) ((Qy ha).g)) Qk ⟨aG rfl,rfl⟩ (.one (tv (.int .i64 (fE a.t a.y).sign))) ?_;(iterate 3 refine o1 ?_)
   refine WL.split (t:=17) rfl (fun h3=>?_) (fun h3=>?_)
   ·refine o1 ?_;refine ld ?_;refine o1 ?_;refine ld ?_;have hpos:0<fE a.t a.y:=Km.1 h3
    have hyl:(dg 4294967296 (fE a.t a.y).natAbs).length≤137438953472:=Zn.len (Qy (p:=p) ha)
    have hgl9:(dg 4294967296 ((Int.gcd (fE a.s a.x) (fE a.t a.y):Nat):Int).natAbs).length≤137438953472:=Nat.le_trans (iL (Nat.le_of_dvd (by omega) (Nat.gcd_dvd_right ..))) hyl
    have hgl:(dg 4294967296 ((Int.gcd (fE a.s a.x) (fE a.t a.y):Nat):Int).natAbs).length≤300000000000:=Nat.le_trans hgl9 (by omega)
    refine ca (DF (a:=⟨a.s,a.x⟩) (b:=⟨a.t,a.y⟩) ((NP ha).g) ((Qy ha).g)) MO ⟨aG rfl,aG rfl,rfl⟩ (kF ((Int.gcd (fE a.s a.x) (fE a.t a.y):Nat):Int)) ?_
    refine ca (Kn) AC rfl (kF 1) ?_
    refine ca (Rb (Zg.of (k:=((Int.gcd (fE a.s a.x) (fE a.t a.y):Nat):Int)) hgl) (Zg.of (k:=1) (by decide)) (by have h8:=Kh ((Int.gcd (fE a.s a.x) (fE a.t a.y):Nat):Int) 1;have h7:(dg 4294967296 (1:Int).natAbs).length=1:=rfl;omega)) Xk ⟨aG rfl,aG rfl,rfl⟩ (.one (tv (.int .i64 (((Int.gcd (fE a.s a.x) (fE a.t a.y):Nat):Int)-1).sign))) ?_
    (iterate 3 refine o1 ?_);refine nl ?_;refine rt ?_
    exact en (.inl rfl) rfl (aZ (cR _)) (by decide) (fun _=>trivial) (congrArg (fun b=>FV.one (tv (.bool b))) (by unfold bQ;rw[h1,h2,decide_eq_true hpos,←HP];rfl))
   (iterate 8 refine cM ?_);refine o1 ?_;refine o1 ?_;refine nl ?_;refine rt ?_
   exact en (.inl rfl) rfl (aZ (cR _)) (by decide) (fun _=>trivial) (congrArg (fun b=>FV.one (tv (.bool b))) (by unfold bQ;rw[h1,h2,decide_eq_false (fun h9=>h3 (Km.2 h9))];rfl))
  (iterate 4 refine cM ?_);refine o1 ?_;refine o1 ?_;(iterate 8 refine cM ?_);refine o1 ?_;refine o1 ?_;refine nl ?_;refine rt ?_
  exact en (.inl rfl) rfl (aZ (cR _)) (by decide) (fun _=>trivial) (congrArg (fun b=>FV.one (tv (.bool b))) (by unfold bQ;rw[h1,h2];rfl))
 (iterate 3 refine cM ?_);refine o1 ?_;refine o1 ?_;(iterate 4 refine cM ?_);refine o1 ?_;refine o1 ?_;(iterate 8 refine cM ?_);refine o1 ?_;refine o1 ?_;refine nl ?_;refine rt ?_
 exact en (.inl rfl) rfl (aZ (cR _)) (by decide) (fun _=>trivial) (congrArg (fun b=>FV.one (tv (.bool b))) (by unfold bQ;rw[h1];rfl))
theorem VP:FV.agg [tv (.bool false),.t (sU false []),tv (.bool (aE 1)),.t (sU false (dg 4294967296 (1:Int).natAbs))]=qF (.of 0):=rfl
theorem mW {a:Fr4}{p:Rat}(ha:Qn a p):aD false Tryz.prog 46 [] [qF a] (aP (qF (.of p))):=by
 refine cC Tryz.func46 rfl Tryz.ntmps46 rfl aA rfl fun N w c0 h0=>?_
 refine sq ?_;refine rl ?_;refine bx 0 ?_;refine al 1 ?_;refine nl ?_;refine sq ?_;refine sq ?_;refine rl ?_;refine ld ?_
 refine ca (Ko ha) Xi ⟨aG rfl,rfl⟩ (.one (tv (.bool (bQ a.s a.x a.t a.y)))) ?_;refine WL.splitb (t:=4) rfl (fun h1=>?_) (fun h1=>?_)
 ·refine o1 ?_;refine nl ?_;refine eN rfl ?_;refine sk ?_;refine sq ?_;refine rl ?_;refine ld ?_;refine st ?_;refine nl ?_;refine rt ?_
  exact en (.inl rfl) rfl (aZ (.agg (.cons (.id rfl) (.cons (.id rfl) (.cons (.id rfl) (.cons (.id rfl) .nil)))))) (by decide) (fun h=>by cases h) (by rw[ha.right h1];rfl)
 refine o1 ?_;refine nl ?_;refine gJ rfl ?_;refine sq ?_;refine rl ?_;refine o1 ?_;refine ca (Kn) AC rfl (kF 1) ?_;refine o1 ?_;refine st ?_;refine nl ?_;refine rt ?_
 have hq9:=ha.wrong h1
 subst hq9;exact en (.inl rfl) rfl (aZ (.agg (.cons (.id rfl) (.cons .nilf (.cons (.id rfl) (.cons (.id rfl) .nil)))))) (by decide) (fun h=>by cases h) VP
theorem NR {a b:Fr4}{p q:Rat}(ha:Qn a p) (hb:Qn b q):aD true Tryz.prog 25 [] [qF a,qF b] (aP (qO (p+q))):=by
 refine cC Tryz.func25 rfl Tryz.ntmps25 rfl aA rfl fun N w c0 h0=>?_
 refine sq ?_;refine rl ?_;refine bx 0 ?_;refine bx 1 ?_;refine al 2 ?_;refine nl ?_;refine sq ?_;refine rd [0,1,2] (fun i=>[5].contains i) mixed ?_
 refine aR 0 ?_;refine aR 2 ?_;refine bB 1 rfl (mW ha) lD ⟨aG rfl,rfl⟩ (qF (.of p)) ?_;refine bB 3 rfl (mW hb) lD ⟨aG rfl,rfl⟩ (qF (.of q)) ?_
 refine lN 3 4 rfl (Rc ha.sz hb.sz) Cf ⟨aG rfl,aG rfl,rfl⟩ ?_;refine dst 5 ?_;refine aS ?_;refine rt ?_
 exact en (.inl rfl) rfl (aZ (.agg (.cons (.id rfl) (.cons (.sl (trs:=aY (dg 4294967296 (p+q).num.natAbs)) rfl rfl (bV _) (bR _)) (.cons (.id rfl) (.cons (.sl (trs:=aY (dg 4294967296 (p+q).den)) rfl rfl (bV _) (bR _)) .nil)))))) (by decide) (fun _=>Bp (p+q)) rfl
theorem HR {a:Fr4}{p:Rat}(ha:Qn a p):aD true Tryz.prog 20 [] [qF a] (aP (.one (tv (.int .i64 p.num.sign)))):=by
 refine cC Tryz.func20 rfl Tryz.ntmps20 rfl aA rfl fun N w c0 h0=>?_
 refine sq ?_;refine rl ?_;refine bx 0 ?_;refine o1 ?_;refine nl ?_;refine sq ?_;refine rl ?_;refine ld ?_;refine ca (mW ha) lD ⟨aG rfl,rfl⟩ (qF (.of p)) ?_;refine o1 ?_
 refine ca (Bu (Zg.of (k:=p.num) (Nat.le_trans ha.sz.1 (by omega)))) Qk ⟨aG rfl,rfl⟩ (.one (tv (.int .i64 p.num.sign))) ?_
 refine o1 ?_;refine nl ?_;refine rt ?_;exact en (.inl rfl) rfl (aZ (cR _)) (by decide) (fun _=>trivial) rfl
theorem Wa {a:Fr4}{p:Rat}(ha:Qn a p):aD true Tryz.prog 56 [] [qF a] (aP (qO (-p))):=by
 refine cC Tryz.func56 rfl Tryz.ntmps56 rfl aA rfl fun N w c0 h0=>?_
 refine sq ?_;refine rl ?_;refine bx 0 ?_;refine al 1 ?_;refine nl ?_;refine sq ?_;refine rl ?_;refine ld ?_;refine ca (mW ha) lD ⟨aG rfl,rfl⟩ (qF (.of p)) ?_;refine st ?_
 refine nl ?_;refine sq ?_;refine rd [0,1] (fun i=>[7].contains i) mixed ?_
 refine dv 0 ?_;refine aR 1 ?_;refine dv 3 ?_;refine aR 4 ?_;refine lN 2 2 rfl (DC (Zg.of (k:=p.num) (Nat.le_trans ha.sz.1 (by omega)))) ML ⟨aG rfl,rfl⟩ ?_
 refine lN 3 5 rfl (RK (kY ha.sz)) US ⟨aG rfl,rfl⟩ ?_;refine df 6 ?_;refine dst 7 ?_;refine aS ?_;refine rt ?_;have hda:(((p.den:Int).natAbs:Nat):Int).natAbs=p.den:=rfl
 exact en (.inl rfl) rfl (aZ (.agg (.cons (.id rfl) (.cons (.sl (trs:=aY (dg 4294967296 (-(p.num)).natAbs)) rfl rfl (bV _) (bR _)) (.cons (.id rfl) (.cons (.sl (trs:=aY (dg 4294967296 (((p.den:Int).natAbs:Nat):Int).natAbs)) rfl rfl (bV _) (bR _)) .nil)))))) (by decide) (fun _=>vN (⟨_,dg 4294967296 (-(p.num)).natAbs,_,dg 4294967296 (((p.den:Int).natAbs:Nat):Int).natAbs⟩:Fr4)) (show FV.agg [tv (.bool (aE (-(p.num)))),.t (sU true (dg 4294967296 (-(p.num)).natAbs)),tv (.bool (aE (((p.den:Int).natAbs:Nat):Int))),.t (sU true (dg 4294967296 (((p.den:Int).natAbs:Nat):Int).natAbs))]=qO (-p) from Gf (q:=-p) (by simp) (by simp))
theorem BC {n:Int}(h1:-9223372036854775808≤n) (h2:n≤9223372036854775807):aD true Tryz.prog 23 [] [.one (tv (.int .i64 n))] (aP (qO ((n:Int):Rat))):=by
 refine cC Tryz.func23 rfl Tryz.ntmps23 rfl aA rfl fun N w c0 h0=>?_
 refine sq ?_;refine rl ?_;refine al 0 ?_;refine nl ?_;refine sq ?_;refine rl ?_;refine o1 ?_;refine iY 1 (NQ (n:=n) h1 h2) MK ⟨a1 rfl,rfl⟩ ?_;refine iY 2 (Kn) AC rfl ?_
 refine o1 ?_;refine st ?_;refine nl ?_;refine rt ?_
 exact en (.inl rfl) rfl (aZ (.agg (.cons (.id rfl) (.cons (.sl (trs:=aY (dg 4294967296 n.natAbs)) rfl rfl (bV _) (bR _)) (.cons (.id rfl) (.cons (.sl (trs:=aY (dg 4294967296 (1:Int).natAbs)) rfl rfl (bV _) (bR _)) .nil)))))) (by decide) (fun _=>vN (⟨_,dg 4294967296 n.natAbs,_,dg 4294967296 (1:Int).natAbs⟩:Fr4)) (Gf (q:=((n:Int):Rat)) (n:=n) (d:=1) (by simp) (by simp))
theorem NS {a b:Fr4}{p q:Rat}(ha:Qn a p) (hb:Qn b q):aD true Tryz.prog 50 [] [qF a,qF b] (aP (qO (p-q))):=by
 refine cC Tryz.func50 rfl Tryz.ntmps50 rfl aA rfl fun N w c0 h0=>?_
 refine sq ?_;refine rl ?_;refine bx 0 ?_;refine bx 1 ?_;refine al 2 ?_;refine nl ?_;refine sq ?_;refine rd [0,1,2] (fun i=>[5].contains i) mixed ?_
 refine aR 0 ?_;refine aR 2 ?_;refine bB 1 rfl (mW ha) lD ⟨aG rfl,rfl⟩ (qF (.of p)) ?_;refine bB 3 rfl (Wa hb) KY ⟨aG rfl,rfl⟩ (qF (.of (-q))) ?_
 refine lN 3 4 rfl (Rc ha.sz (An hb.sz)) Cf ⟨aG rfl,aG rfl,rfl⟩ ?_;refine dst 5 ?_;refine aS ?_;refine rt ?_
 exact en (.inl rfl) rfl (aZ (.agg (.cons (.id rfl) (.cons (.sl (trs:=aY (dg 4294967296 (p+-q).num.natAbs)) rfl rfl (bV _) (bR _)) (.cons (.id rfl) (.cons (.sl (trs:=aY (dg 4294967296 (p+-q).den)) rfl rfl (bV _) (bR _)) .nil)))))) (by decide) (fun _=>Bp (p+-q)) (by rw[Rat.sub_eq_add_neg];rfl)
section
variable {f:FuncId}{args:List FV}
end
section
variable {a b:Fr4}{p q:Rat}{x y:Zi}{k k':Int}
theorem Sn (h:Zn x k) (h':Zn y k'):aD true Tryz.prog 48 [] [gF x,gF y] (aP (kO (k*k'))):=Ge h.g h'.g
theorem JL (h:Zn x k) (h':Zn y k'):aD true Tryz.prog 47 [] [gF x,gF y] (aP (.one (tv (.int .i64 (k-k').sign)))):=Rb h.g h'.g (by have:=Kh k k';have:=h.len;have:=h'.len;omega)
theorem Al (h:Qn a p) (h':Qn b q):aD true Tryz.prog 25 [] [qF a,qF b] (aP (qO (p+q))):=NR h h'
theorem Ae (h:Qn a p) (h':Qn b q):aD true Tryz.prog 50 [] [qF a,qF b] (aP (qO (p-q))):=NS h h'
theorem lW (h:Qn a p):aD true Tryz.prog 20 [] [qF a] (aP (.one (tv (.int .i64 p.num.sign)))):=HR h
theorem RM (hp:Sz 68719476736 p) (hq:Sz 68719476736 q):aD true Tryz.prog 57 [] [qF (.of p),qF (.of q)] (aP (qO (p+q))):=Rc hp hq
theorem Gz (ha:a.ok):aD true Tryz.prog 68 [] [qF a] (aP (.one (tv (.bool (bQ a.s a.x a.t a.y))))):=Ko ⟨ha,rfl⟩
theorem fX {z:Int}(h1:-9223372036854775808≤z) (h2:z≤9223372036854775807):aD true Tryz.prog 23 [] [.one (tv (.int .i64 z))] (aP (qO (z:Rat))):=BC h1 h2
theorem Ac (hp:Sz 68719476736 p):aD true Tryz.prog 57 [] [qF (.of p),qF (.of ((0:Int):Rat))] (aP (qO p)):=by
 have:=RM hp ((vR (z:=0) (by omega) (by omega)).mono (by omega))
 rwa[show p+((0:Int):Rat)=p from Rat.add_zero p]at this
theorem JQ (h:Qn a p):aD true Tryz.prog 25 [] [qF a,qF (.of ((0:Int):Rat))] (aP (qO p)):=by
 have:=Al h (Qn.of (p:=((0:Int):Rat)) ((vR (z:=0) (by omega) (by omega)).mono (M:=68719476736) (by omega)))
 rwa[show p+((0:Int):Rat)=p from Rat.add_zero p]at this
theorem Ec (p:Rat) (l:List Rat) (q:Rat):aO p (l++[q])=if q<aO p l then q else aO p l:=by
 unfold aO
 rw[List.foldl_append]
 rfl
end
def Wb (x:Rat):Rat:=dH x [0]
theorem Kq (x:Rat):Wb x=if x<0 then 0 else x:=rfl
theorem NT (x:Rat):0≤Wb x:=by rw[Kq];split <;> grind
theorem NU {x:Rat}(h:0≤x):Wb x=x:=by rw[Kq];split <;> grind
section
variable {x y:Zi}{k k':Int}
theorem PY {a:Fr4}{p:Rat}(h:Qn a p):aD true Tryz.prog 56 [] [qF a] (aP (qO (-p))):=Wa h
theorem Ej (p:Rat) (l:List Rat) (q:Rat):dH p (l++[q])=if dH p l<q then q else dH p l:=by
 unfold dH
 rw[List.foldl_append]
 rfl
theorem den_nz (p q:Rat):(p.den:Int)*(q.den:Int)≠0:=by
 have h1:=p.den_pos
 have h2:=q.den_pos
 exact Int.ne_of_gt (Int.mul_pos (by omega) (by omega))
theorem Kr {L:Nat}{k:Int}(h:sW L k):sW L (-k):=by
 unfold sW
 rw[Int.natAbs_neg]
 exact h
theorem Bv {n:Int}(h1:-9223372036854775808≤n) (h2:n≤9223372036854775807):sW 2 n:=vO h1 h2
theorem tN {n d:Int}(h1:-9223372036854775808≤n) (h2:n≤9223372036854775807) (h3:-9223372036854775808≤d) (h4:d≤9223372036854775807):Sz 2 (Rat.divInt n d):=by
 rcases Int.lt_trichotomy d 0 with hd | hd | hd
 ·rw[←Rat.neg_divInt_neg]
  obtain⟨e1,e2⟩:=rF (a:=-n) (b:=-d) (L:=2) (M:=2) (by omega) (Kr (Bv h1 h2)) (Kr (Bv h3 h4))
  exact⟨e1,e2⟩
 ·subst hd
  rw[Rat.divInt_zero]
  exact⟨Nat.zero_le _,by decide⟩
 obtain⟨e1,e2⟩:=rF (a:=n) (b:=d) (L:=2) (M:=2) hd (Bv h1 h2) (Bv h3 h4)
 exact⟨e1,e2⟩
end
theorem Ap (a b:Rat):aO a [b]=if b<a then b else a:=rfl
theorem pZ (a b:Rat):aO a [b]≤a:=by rw[Ap];split <;> grind
theorem nF (a b:Rat):aO a [b]≤b:=by rw[Ap];split <;> grind
def Mu (D:Nat) (q:Rat):Prop:=∃k:Int,q*(D:Rat)=(k:Rat)
section
variable {D E:Nat}{p q:Rat}
theorem Mu.zero:Mu D 0:=⟨0,by simp⟩
theorem Mu.add (h:Mu D p) (h':Mu D q):Mu D (p+q):=by
 obtain⟨a,ha⟩:=h
 obtain⟨b,hb⟩:=h'
 exact⟨a+b,by rw[Rat.add_mul,ha,hb,Rat.intCast_add]⟩
theorem Mu.neg (h:Mu D p):Mu D (-p):=by
 obtain⟨a,ha⟩:=h
 exact⟨-a,by rw[Rat.neg_mul,ha,Rat.intCast_neg]⟩
theorem Mu.sub (h:Mu D p) (h':Mu D q):Mu D (p-q):=by
 rw[Rat.sub_eq_add_neg]
 exact h.add h'.neg
theorem Mu.up (h:Mu D p):Mu (E*D) p:=by
 obtain⟨a,ha⟩:=h
 refine⟨(E:Int)*a,?_⟩
 rw[Rat.intCast_mul,←ha,Rat.natCast_mul]
 show p*((E:Rat)*(D:Rat))=((E:Int):Rat)*(p*(D:Rat))
 have:((E:Int):Rat)=(E:Rat):=rfl
 grind
theorem Mu.up' (h:Mu D p):Mu (D*E) p:=by
 rw[Nat.mul_comm]
 exact h.up
theorem NW (q:Rat):q*(q.den:Rat)=(q.num:Rat):=by
 have h:=Rat.num_divInt_den q
 have h2:Rat.divInt q.num (q.den:Int)=(q.num:Rat)/((q.den:Int):Rat):=Rat.divInt_eq_div _ _
 have h3:((q.den:Int):Rat)=(q.den:Rat):=rfl
 have h4:(q.den:Rat)≠0:=by
  have:=q.den_pos
  intro h
  have:q.den=0:=by exact_mod_cast h
  omega
 rw[h2,h3]at h
 have h6:(q.num:Rat)/(q.den:Rat)*(q.den:Rat)=(q.num:Rat):=Rat.div_mul_cancel h4
 rwa[h]at h6
theorem Mu.self (p:Rat):Mu p.den p:=⟨p.num,NW p⟩
theorem Mu.min (h:Mu D p) (h':Mu D q):Mu D (aO p [q]):=by
 rw[Ap]
 split
 ·exact h'
 exact h
theorem Mu.sz {L B:Nat}(h:Mu D p) (h0:0≤p) (hB:p≤(B:Rat)) (hD:0<D) (hL:(dg 4294967296 B).length+(dg 4294967296 D).length≤L):Sz L p:=by
 obtain⟨k,hk⟩:=h
 have hD':(0:Rat)<(D:Rat):=by exact_mod_cast hD
 have hp:p=Rat.divInt k D:=by
  have h2:Rat.divInt k (D:Int)=(k:Rat)/((D:Int):Rat):=Rat.divInt_eq_div k D
  rw[h2,←hk,show(((D:Nat):Int):Rat)=(D:Rat) from rfl,Rat.mul_div_cancel (by grind)]
 have h1:(0:Rat)≤(k:Rat):=by rw[←hk];exact Rat.mul_nonneg h0 (by grind)
 have hk0:0≤k:=by exact_mod_cast h1
 have h3:(k:Rat)≤((B:Rat)*(D:Rat)):=by rw[←hk];exact Rat.mul_le_mul_of_nonneg_right hB (by grind)
 have h4:(k:Rat)≤(((B*D:Nat):Int):Rat):=by
  have e:(((B*D:Nat):Int):Rat)=(B:Rat)*(D:Rat):=by
   show((B*D:Nat):Rat)=_
   exact Rat.natCast_mul ..
  rw[e]
  exact h3
 have h5:k≤((B*D:Nat):Int):=by exact_mod_cast h4
 obtain⟨e1,e2⟩:=rF (a:=k) (b:=D) (L:=L) (M:=L) (by omega) (Nat.le_trans (iL (show k.natAbs≤B*D by omega)) (Nat.le_trans (mL B D) hL)) (by unfold sW;rw[Int.natAbs_natCast];omega)
 rw[hp]
 exact⟨e1,e2⟩
end
theorem NX {q:Rat}{B:Nat}(h:q.num.natAbs≤B):q≤(B:Rat):=by
 rcases Rat.le_total (a:=q) (b:=0)with h0 | h0
 ·exact Rat.le_trans h0 (by exact_mod_cast Nat.zero_le B)
 have h1:q*(q.den:Rat)=(q.num:Rat):=NW q
 have h2:(1:Rat)≤(q.den:Rat):=by exact_mod_cast q.den_pos
 have h3:q*1≤q*(q.den:Rat):=Rat.mul_le_mul_of_nonneg_left h2 h0
 have h4:(q.num:Rat)≤(B:Rat):=by
  have:q.num≤(B:Int):=by omega
  exact_mod_cast this
 grind
def BB:Nat:=340282366920938463463374607431768211456
theorem Re {q:Rat}(h:Sz 4 q):q≤(BB:Rat):=by
 refine NX ?_
 have h1:=oS (B:=4294967296) (by omega) (n:=q.num.natAbs)
 have h2:(4294967296:Nat)^(dg 4294967296 q.num.natAbs).length≤4294967296^4:=Nat.pow_le_pow_right (by omega) h.1
 have h3:(4294967296:Nat)^4=BB:=by decide
 omega
theorem NY:(dg 4294967296 BB).length≤5:=cW (by omega) (by decide)
def sR (t:Nat) (us:List (Int×Rat)):Tr:=.s true t 5 us.length (us.flatMap (cF false))
def sO (t:Nat) (us:List (Int×Rat)):Tr:=.s true t 5 us.length (us.flatMap (cF true))
def eF (us:List (Int×Rat)):List AV:=(us.flatMap (cF false)).map .t
def oO (us:List (Int×Rat)):List AV:=(us.flatMap (cF true)).map .t
section
variable {us vs:List (Int×Rat)}{k:Nat}{x:Int×Rat}
theorem kI (us:List (Int×Rat)):(eF us).length=us.length*5:=by rw[eF,List.length_map,bJ]
theorem wZ (us:List (Int×Rat)):(oO us).length=us.length*5:=by rw[oO,List.length_map,bJ]
theorem Hp (us:List (Int×Rat)) (x:Int×Rat):eF us++(cF false x).map .t=eF (us++[x]):=by simp[eF,List.flatMap_append]
theorem BD (us:List (Int×Rat)) (x:Int×Rat):oO us++(cF true x).map .t=oO (us++[x]):=by simp[oO,List.flatMap_append]
theorem Hi (h:k<us.length):((eF us).drop (0+k*5)).take ((cF false (aJ us k)).map AV.t).length=(cF false (aJ us k)).map .t:=by
 rw[eF,←List.map_drop,←List.map_take,Nat.zero_add,List.length_map,rW false h]
theorem BX (h:k<us.length):((eF us).drop (0+k*5+1)).take (((Fr4.of (aJ us k).2).tr false).map AV.t).length=((Fr4.of (aJ us k).2).tr false).map .t:=by
 rw[eF,←List.map_drop,←List.map_take,Nat.zero_add,List.length_map,RF false h]
theorem BY (h:k<us.length):(eF us)[0+k*5]? =some (tv (.int .i64 (aJ us k).1)):=by
 have h1:=congrArg (·[0]?) (Hi h)
 simp only[List.getElem?_take,List.getElem?_drop]at h1
 simpa[cF,tv]using h1
theorem JT (h:k<us.length):0+k*5+5≤(eF us).length:=by rw[kI];omega
theorem EK {q:Rat}(h:k<us.length):0+k*5+1+(((Fr4.of q).tr false).map AV.t).length≤(eF us).length:=by
 rw[kI]
 show 0+k*5+1+4≤_
 omega
theorem Ff (us:List (Int×Rat)) (k:Nat):(us.flatMap (cF false)).take (k*5)=(us.take k).flatMap (cF false):=by
 by_cases h:k≤us.length
 ·conv=>lhs;rw[←List.take_append_drop k us,List.flatMap_append]
  exact List.take_left' (by rw[bJ,List.length_take,Nat.min_eq_left h])
 rw[List.take_of_length_le (by rw[bJ];omega),List.take_of_length_le (by omega)]
theorem Wc (us:List (Int×Rat)) (k:Nat):(us.flatMap (cF false)).drop (k*5)=(us.drop k).flatMap (cF false):=by
 by_cases h:k≤us.length
 ·conv=>lhs;rw[←List.take_append_drop k us,List.flatMap_append]
  exact List.drop_left' (by rw[bJ,List.length_take,Nat.min_eq_left h])
 rw[List.drop_of_length_le (by rw[bJ];omega),List.drop_of_length_le (by omega)]
 rfl
theorem BW (h:k<us.length):dN (eF us) (0+k*5) ((cF false x).map AV.t)=eF (us.set k x):=by
 have e:k*5+((cF false x).map AV.t).length=(k+1)*5:=by show k*5+5=_;omega
 rw[Nat.zero_add]
 unfold dN eF
 rw[e,←List.map_take,←List.map_drop,Ff,Wc,←List.map_append,←List.map_append,List.set_eq_take_append_cons_drop,if_pos h]
 simp[List.flatMap_append]
theorem PJ {q:Rat}(h:k<us.length):dN (eF us) (0+k*5+1) (((Fr4.of q).tr false).map AV.t)=eF (us.set k ((aJ us k).1,q)):=by
 rw[←BW h]
 have h1:(eF us).take (0+k*5+1)=(eF us).take (0+k*5)++[tv (.int .i64 (aJ us k).1)]:=by
  rw[List.take_add_one,BY h]
  rfl
 unfold dN
 rw[h1]
 have e:0+k*5+1+(((Fr4.of q).tr false).map AV.t).length=0+k*5+((cF false ((aJ us k).1,q)).map AV.t).length:=by show 0+k*5+1+4=0+k*5+5;omega
 rw[e]
 simp[cF,tv]
theorem BE (us:List (Int×Rat)) (k:Nat):(eF us).take (k*5)=((us.take k).flatMap (cF false)).map .t:=by rw[eF,←List.map_take,Ff]
theorem cD (l:List Tr) (n:Nat) (h:l.length=n):(l.map AV.t).take n=l.map .t:=List.take_of_length_le (by simp[h])
theorem xB (o:Bool) (us:List (Int×Rat)):rdTL (us.flatMap (cF o))=us.flatMap (cF false):=by
 have app:∀a b:List Tr,rdTL (a++b)=rdTL a++rdTL b:=by
  intro a b
  induction a with
  | nil=>rfl
  | cons x a ih=>simp[rdTL,ih]
 have u32:∀xs:List Nat,rdTL (aY xs)=aY xs:=by
  intro xs
  induction xs with
  | nil=>rfl
  | cons x xs ih=>simpa[aY,rdTL,rX]using ih
 induction us with
 | nil=>rfl
 | cons x us ih=>
  show rdTL (cF o x++us.flatMap (cF o))=cF false x++us.flatMap (cF false)
  rw[app,ih]
  simp[cF,Fr4.tr,rdTL,rX,sU,u32]
theorem Mc (us:List (Int×Rat)):NoFrL (us.flatMap (cF true)):=by
 have app:∀a b:List Tr,NoFrL a→NoFrL b→NoFrL (a++b):=by
  intro a b ha hb
  induction a with
  | nil=>exact hb
  | cons x a ih=>
   simp only[NoFrL]at ha
   simp only[List.cons_append,NoFrL]
   exact⟨ha.1,ih ha.2⟩
 induction us with
 | nil=>simp[NoFrL]
 | cons x us ih=>
  rw[List.flatMap_cons]
  refine app _ _ ?_ ih
  simp only[cF,Fr4.tr,sU,NoFrL,lI]
  exact⟨trivial,trivial,.inl ⟨trivial,eV _⟩,trivial,.inl ⟨trivial,eV _⟩,trivial⟩
theorem EJ (t:Nat) (us:List (Int×Rat)):jK (.one (.t (sO t us))):=.inl ⟨rfl,Mc us⟩
theorem Xl (x:Int×Rat):jK (.agg ((cF true x).map .t)):=by
 simp only[jK,oF,cF,Fr4.tr,sU,List.map_cons,List.map_nil,kB,rE,lI]
 exact⟨trivial,trivial,.inl ⟨trivial,eV _⟩,trivial,.inl ⟨trivial,eV _⟩,trivial⟩
end
section
variable {x:Cx}{g:Nat→FV}{ob:List (Option Ob)}
theorem RN {j k1 k2 e:Nat}{us:List (Int×Rat)}{y:Int}{q:Rat}(hn:Nat.beq k1 k2=false) (h1:Nat.beq j k1=false) (h2:Nat.beq j k2=false) (ho:bS ob j=some ⟨e,5,oO us++[tv (.int .i64 y),tv (.bool (aE q.num)),.sl k1 0 (dg 4294967296 q.num.natAbs).length,tv (.bool false),.sl k2 0 (dg 4294967296 q.den).length]⟩)
  (o1:bS ob k1=some ⟨113,1,(aY (dg 4294967296 q.num.natAbs)).map .t⟩) (o2:bS ob k2=some ⟨113,1,(aY (dg 4294967296 q.den)).map .t⟩):Sub x g ob g ((((ob.set j (some ⟨e,5,oO us++[tv (.int .i64 y),tv (.bool (aE q.num)),.t (sU true (dg 4294967296 q.num.natAbs)),tv (.bool false),.sl k2 0 (dg 4294967296 q.den).length]⟩)).set k1 none).set j (some ⟨e,5,oO (us++[(y,q)])⟩)).set k2 none):=by
 have hk:∀{l:List (Option Ob)}{i m:Nat}{o:Option Ob},Nat.beq i m=false→bS (l.set i o) m=bS l m:=fun{l i m o} h=>by
  unfold bS
  rw[List.getElem?_set_ne (fun e=>by subst e;simp at h)]
 have hjl:=(List.getElem?_eq_some_iff.1 (cS ho)).1
 have hk1l:=(List.getElem?_eq_some_iff.1 (cS o1)).1
 have hb:∀{a b:Nat},Nat.beq a b=false→Nat.beq b a=false:=fun{a b} h=>by
  cases hq:Nat.beq b a
  ·rfl
  rw[Nat.eq_of_beq_eq_true hq]at h
  simp at h
 have hlen:=wZ us
 have s1:=iU (x:=x) (g:=g) (ob:=ob) (j:=j) (k:=k1) (p:=us.length*5+2) (e:=113) (z:=1) (n:=(dg 4294967296 q.num.natAbs).length) (trs:=aY (dg 4294967296 q.num.natAbs)) h1 rfl ho o1 (by rw[List.getElem?_append_right (by omega)];simp[hlen]) (bV _) (bR _)
  (l':=oO us++[tv (.int .i64 y),tv (.bool (aE q.num)),.t (sU true (dg 4294967296 q.num.natAbs)),tv (.bool false),.sl k2 0 (dg 4294967296 q.den).length]) (by rw[List.set_append_right _ _ (by omega),hlen,show us.length*5+2-us.length*5=2 by omega];rfl)
 have s2:=iU (x:=x) (g:=g) (ob:=(ob.set j (some ⟨e,5,oO us++[tv (.int .i64 y),tv (.bool (aE q.num)),.t (sU true (dg 4294967296 q.num.natAbs)),tv (.bool false),.sl k2 0 (dg 4294967296 q.den).length]⟩)).set k1 none) (j:=j) (k:=k2) (p:=us.length*5+4) (e:=113) (z:=1) (n:=(dg 4294967296 q.den).length) (trs:=aY (dg 4294967296 q.den)) (t':=e) (z':=5) h2 rfl
  (by rw[hk (hb h1)];unfold bS;rw[List.getElem?_set_self hjl]) (by rw[hk hn,hk h2];exact o2) (by rw[List.getElem?_append_right (by omega)];simp[hlen]) (bV _) (bR _)
  (l':=oO (us++[(y,q)])) (by rw[List.set_append_right _ _ (by omega),hlen,show us.length*5+4-us.length*5=4 by omega,←BD];rfl)
 exact fun ts W hR=>s2 ts W (s1 ts W hR)
end
def iR (dl:Int×Rat→Bool):List (Int×Rat)→Nat
 | []=>0
 | x::l=>if dl x then 0 else iR dl l+1
def dT (dl:Int×Rat→Bool) (vs:List (Int×Rat)):List (Int×Rat):=vs.filter fun x=> !dl x
def zV:List Value:=[.int .i64 0,.bool false,.slice none 0 0,.bool false,.slice none 0 0]
def lY (vs F:List (Int×Rat)):List Tr:=F.flatMap (cF false)++(gG zV (vs.length-F.length)).map .v
section
variable {dl:Int×Rat→Bool}{vs us:List (Int×Rat)}{i j k:Nat}
theorem Hf:∀(vs:List (Int×Rat)),iR dl vs≤vs.length
 | []=>Nat.le_refl _
 | x::l=>by
  have:=Hf l
  unfold iR
  split <;> simp <;> omega
theorem tI:∀{vs:List (Int×Rat)}{k:Nat},k≤iR dl vs→k<vs.length→(dl (aJ vs k)=true→iR dl vs=k)∧(dl (aJ vs k)=false→k+1≤iR dl vs)
 | [],_,_,h=>by simp at h
 | x::l,0,_,_=>by
  have e:aJ (x::l) 0=x:=rfl
  rw[e]
  unfold iR
  constructor
  ·intro h;simp[h]
  intro h;simp[h]
 | x::l,k+1,h,h2=>by
  have e:aJ (x::l) (k+1)=aJ l k:=by simp[aJ]
  rw[e]
  unfold iR at h⊢
  by_cases hx:dl x=true
  ·simp[hx]at h
  simp only[if_neg hx]at h⊢
  have:=tI (vs:=l) (k:=k) (by omega) (by simpa using h2)
  exact⟨fun h=>by rw[this.1 h],fun h=>by have:=this.2 h;omega⟩
theorem zL:∀{vs:List (Int×Rat)}{k:Nat},k≤iR dl vs→(vs.take k).filter (fun x=> !dl x)=vs.take k
 | vs,0,_=>by simp
 | [],k+1,_=>by simp
 | x::l,k+1,h=>by
  unfold iR at h
  by_cases hx:dl x=true
  ·simp[hx]at h
  simp only[if_neg hx]at h
  have:=zL (vs:=l) (k:=k) (by omega)
  simp[hx,this]
theorem Hj (h:iR dl vs=vs.length):dT dl vs=vs:=by
 have:=zL (dl:=dl) (vs:=vs) (k:=vs.length) (by omega)
 rwa[List.take_of_length_le (Nat.le_refl _)]at this
theorem Hl (h:k<us.length) (x:Int×Rat):aJ (us.set k x) k=x:=by simp[aJ,h]
theorem St (h:iR dl vs<vs.length):vs.take (iR dl vs)=(vs.take (iR dl vs+1)).filter (fun x=> !dl x):=by
 have h1:dl (aJ vs (iR dl vs))=true:=by
  cases hq:dl (aJ vs (iR dl vs))with
  | true=>rfl
  | false=>
   have:=(tI (Nat.le_refl _) h).2 hq
   omega
 rw[kU h,List.filter_append,zL (Nat.le_refl _)]
 simp[h1]
theorem Xn (h:us.take i=(vs.take j).filter (fun x=> !dl x)) (hj:j<vs.length) (hx:dl (aJ vs j)=false) (hi:i<us.length):(us.set i (aJ vs j)).take (i+1)=(vs.take (j+1)).filter (fun x=> !dl x):=by
 rw[kU (by simpa using hi),List.take_set_of_le (Nat.le_refl _),h,Hl hi,kU hj,List.filter_append]
 simp[hx]
theorem Xm (h:us.take i=(vs.take j).filter (fun x=> !dl x)) (hj:j<vs.length) (hx:dl (aJ vs j)=true):us.take i=(vs.take (j+1)).filter (fun x=> !dl x):=by
 rw[h,kU hj,List.filter_append]
 simp[hx]
theorem JU (h:i≠j) (x:Int×Rat):aJ (us.set i x) j=aJ us j:=by simp[aJ,List.getElem?_set_ne h]
theorem Su (hul:us.length=vs.length) (hi:i≤us.length) (h:us.take i=dT dl vs):dN (eF us) (0+i*5) ((gG zV (us.length-i)).map tv)=(lY vs (dT dl vs)).map .t:=by
 have hl:(dT dl vs).length=i:=by rw[←h,List.length_take,Nat.min_eq_left hi]
 unfold dN lY
 rw[Nat.zero_add,BE,h,List.drop_of_length_le (by rw[kI,List.length_map,qH];show us.length*5≤i*5+(us.length-i)*5;omega),List.append_nil,hl,hul]
 simp[tv]
theorem Sv (h:dT dl vs=vs):eF vs=(lY vs (dT dl vs)).map .t:=by
 unfold lY
 rw[h,Nat.sub_self]
 simp[gG,eF]
theorem Pt (vs F:List (Int×Rat)):((lY vs F).map AV.t).take (F.length*5)=(F.flatMap (cF false)).map .t:=by
 unfold lY
 rw[List.map_append]
 exact List.take_left' (by rw[List.length_map,bJ])
theorem vK {fr:Int}(p:Rat) (h:k<vs.length):bC fr (vs.take (k+1)) p=iW fr (bC fr (vs.take k) p) (aJ vs k):=by
 unfold bC
 rw[kU h,List.foldl_append]
 rfl
theorem Xr {α:Type}{a b us:List α}{k:Nat}{x y:α}(h:us=a++x::b) (ha:a.length=k):us.set k y=(a++[y])++b:=by
 subst h
 rw[List.set_append_right _ _ (by omega),ha,Nat.sub_self]
 simp
theorem Ag (h:k<vs.length):vs.drop k=aJ vs k::vs.drop (k+1):=by
 rw[List.drop_eq_getElem_cons h]
 congr 1
 simp[aJ,h]
theorem Xq {a b us:List (Int×Rat)}{k:Nat}{x:Int×Rat}(h:us=a++x::b) (ha:a.length=k):aJ us k=x:=by
 subst h
 unfold aJ
 rw[List.getD_eq_getElem?_getD,List.getElem?_append_right (by omega),ha,Nat.sub_self]
 rfl
end
structure StOk (X:List (Int×Rat)) (n B:Nat):Prop where
 pos:∀x∈X,0<x.2
 len:X.length≤n
 size:gK (X.map Prod.snd)≤B
section
variable {X:List (Int×Rat)}{n B n' B':Nat}
theorem HS (fr:Int) (p:Rat):∀(xs:List (Int×Rat)),gK ((bC fr xs p).1.map Prod.snd)+wt (bC fr xs p).2.2≤gK (xs.map Prod.snd)+wt p+2*xs.length:=by
 intro xs
 have key:∀(xs:List (Int×Rat)) (s:List (Int×Rat)×List (Int×Rat)×Rat),gK ((xs.foldl (iW fr) s).1.map Prod.snd)+wt (xs.foldl (iW fr) s).2.2≤gK (s.1.map Prod.snd)+wt s.2.2+gK (xs.map Prod.snd)+2*xs.length:=by
  intro xs
  induction xs with
  | nil=>intro s;simp[gK]
  | cons x xs ih=>
   intro s
   rw[List.foldl_cons]
   refine Nat.le_trans (ih _) ?_
   have e:gK ((x::xs).map Prod.snd)=wt x.2+gK (xs.map Prod.snd):=by simp[gK]
   rw[e,List.length_cons]
   by_cases hc:fr≤x.1∧0<s.2.2.num.sign
   ·have h1:=pX (s:=s) (y:=x.1) (q:=x.2) hc.1 hc.2
    have h2:=Vr x.2 s.2.2
    rw[show iW fr s x=iW fr s (x.1,x.2) from rfl,h1]
    dsimp only
    rw[List.map_append,tJ]
    simp only[List.map_cons,List.map_nil,gK,List.sum_cons,List.sum_nil]at h2⊢
    omega
   rw[pC hc]
   dsimp only
   rw[List.map_append,tJ]
   simp only[List.map_cons,List.map_nil,gK,List.sum_cons,List.sum_nil]
   omega
 have:=key xs ([],[],p)
 have e:gK (([]:List (Int×Rat)).map Prod.snd)=0:=rfl
 unfold bC
 dsimp only at this
 rw[e]at this
 omega
theorem StOk.zU {fr:Int}{p:Rat}{L:Nat}(h:StOk X n B) (hB:B+wt p+2*n≤L):∀x∈(bC fr X p).1,Sz L x.2:=by
 intro x hx
 refine nZ.2 ?_
 have h1:=HS fr p X
 have h2:wt x.2≤gK ((bC fr X p).1.map Prod.snd):=Me (List.mem_map.2 ⟨x,hx,rfl⟩)
 have h3:wt x.2=vJ x.2+1:=rfl
 have h4:=h.size
 have h5:=h.len
 omega
end
abbrev At:=Int×Int×Fr4
section
variable {xs:List At}{k:Nat}
end
section
variable {ls:List Fr4}{k:Nat}{a:Fr4}
end
section
variable {Z:List (Int×Rat)}{rest r4:List Tr}{k:Nat}{q:Rat}{a:Fr4}
end
inductive Pts (L:Nat):List (Int×Rat)→List (Int×Rat)→List (Int×Rat)→Prop
 | nil {Z:List (Int×Rat)}:Pts L Z [] Z
 | cons {Z us Z':List (Int×Rat)}{u:Int×Rat}{k:Nat}{r:Rat}(hk:Z[k]? =some (u.1,r)) (hr:0<r) (hf:∀j,j<k→¬((aJ Z j).1=u.1∧0<(aJ Z j).2)) (hu:0<u.2) (hle:u.2≤r) (hs:Sz L (r-u.2)) (h:Pts L (Z.set k (u.1,r-u.2)) us Z'):Pts L Z (u::us) Z'
def VA (L:List (Int×Rat)):Prop:=(L.map Prod.fst).Pairwise (· < ·)
def SI (Z:List (Int×Rat)):List (Int×Rat):=Z.filter fun x=>decide (0<x.2)
inductive UseOf:List (Int×Rat)→List (Int×Rat)→List (Int×Rat)→Prop
 | nil:UseOf [] [] []
 | skip {x:Int×Rat}{vs us vs':List (Int×Rat)}(h:UseOf vs us vs'):UseOf (x::vs) us (x::vs')
 | part {y:Int}{q m:Rat}{vs us vs':List (Int×Rat)}(h0:0<m) (h1:m<q) (h:UseOf vs us vs'):UseOf ((y,q)::vs) ((y,m)::us) ((y,q-m)::vs')
 | all {y:Int}{q:Rat}{vs us vs':List (Int×Rat)}(h0:0<q) (h:UseOf vs us vs'):UseOf ((y,q)::vs) ((y,q)::us) vs'
section
variable {Z vs us vs':List (Int×Rat)}{L:Nat}
end
theorem Eh (a:Rat) (l:List Rat):nC (a::l)=a+nC l:=by
 have key:∀(l:List Rat) (a:Rat),l.foldl (· + ·) a=a+l.foldl (· + ·) 0:=by
  intro l
  induction l with
  | nil=>intro a;show a=a+0;grind
  | cons b l ih=>
   intro a
   rw[List.foldl_cons,List.foldl_cons,ih (a+b),ih (0+b)]
   grind
 unfold nC
 rw[List.foldl_cons,key]
 grind
section
variable {fr:Int}{vs:List (Int×Rat)}{r:Rat}{x:Int×Rat}
theorem lR (fr:Int):∀(vs a b:List (Int×Rat)) (r:Rat),vs.foldl (iW fr) (a,b,r)=(a++(bC fr vs r).1,b++(bC fr vs r).2.1,(bC fr vs r).2.2)
 | [],a,b,r=>by simp[bC]
 | x::vs,a,b,r=>by
  unfold bC
  rw[List.foldl_cons,List.foldl_cons]
  by_cases hc:fr≤x.1∧0<r.num.sign
  ·rw[show iW fr (a,b,r) x=_ from pX (s:=(a,b,r)) (y:=x.1) (q:=x.2) hc.1 hc.2,show iW fr ([],[],r) x=_ from pX (s:=([],[],r)) (y:=x.1) (q:=x.2) hc.1 hc.2]
   rw[lR fr vs _ _ _,lR fr vs _ _ _]
   simp
  rw[pC (s:=(a,b,r)) hc,pC (s:=([],[],r)) hc,lR fr vs _ _ _,lR fr vs _ _ _]
  simp
theorem BF (h1:fr≤x.1) (h2:0<r):bC fr (x::vs) r=((x.1,x.2-aO x.2 [r])::(bC fr vs (r-aO x.2 [r])).1,(x.1,aO x.2 [r])::(bC fr vs (r-aO x.2 [r])).2.1,(bC fr vs (r-aO x.2 [r])).2.2):=by
 have:bC fr (x::vs) r=vs.foldl (iW fr) (iW fr ([],[],r) x):=rfl
 rw[this,show iW fr ([],[],r) x=_ from pX (s:=([],[],r)) (y:=x.1) (q:=x.2) h1 ((kJ r).2 h2),lR]
 rfl
theorem Ow (h:¬(fr≤x.1∧0<r)):bC fr (x::vs) r=(x::(bC fr vs r).1,(bC fr vs r).2.1,(bC fr vs r).2.2):=by
 have:bC fr (x::vs) r=vs.foldl (iW fr) (iW fr ([],[],r) x):=rfl
 rw[this,pC (s:=([],[],r)) (by rwa[kJ]),lR]
 rfl
structure UseP (fr:Int) (r:Rat) (vs us vs':List (Int×Rat)) (r':Rat):Prop where
 use:UseOf vs us vs'
 yrs:∀u∈us,fr≤u.1
 sum:r=nC (us.map Prod.snd)+r'
 low:0≤r→0≤r'
 non:r≤0→us=[]
 full:∀z∈vs',fr≤z.1→r'≤0∧∀u∈us,u.1≤z.1
end
section
variable {Z Z' us:List (Int×Rat)}{L k:Nat}{u:Int×Rat}
end
section
variable {α:Type}
def cN (dl:α→Bool):List α→Nat
 | []=>0
 | x::l=>if dl x then 0 else cN dl l+1
theorem vI {dl:α→Bool}:∀(l:List α),cN dl l≤l.length
 | []=>Nat.le_refl _
 | x::l=>by
  have:=vI (dl:=dl) l
  unfold cN
  split <;> simp <;> omega
theorem lC {dl:α→Bool}{d:α}:∀{l:List α}{k:Nat},k≤cN dl l→k<l.length→(dl (l.getD k d)=true→cN dl l=k)∧(dl (l.getD k d)=false→k+1≤cN dl l)
 | [],_,_,h=>by simp at h
 | x::l,0,_,_=>by
  have e:(x::l).getD 0 d=x:=rfl
  rw[e]
  unfold cN
  exact⟨fun h=>by simp[h],fun h=>by simp[h]⟩
 | x::l,k+1,h,h2=>by
  have e:(x::l).getD (k+1) d=l.getD k d:=by simp
  rw[e]
  unfold cN at h⊢
  by_cases hx:dl x=true
  ·simp[hx]at h
  simp only[if_neg hx]at h⊢
  have:=lC (dl:=dl) (d:=d) (l:=l) (k:=k) (by omega) (by simpa using h2)
  exact⟨fun h=>by rw[this.1 h],fun h=>by have:=this.2 h;omega⟩
theorem Ox {dl:α→Bool}:∀(l:List α),l.any dl=decide (cN dl l<l.length)
 | []=>rfl
 | x::l=>by
  unfold cN
  by_cases hx:dl x=true
  ·simp[hx]
  simp only[if_neg hx,List.any_cons,Ox l,List.length_cons]
  simp[hx]
def nU (dl:α→Bool) (l:List α):Int:=if cN dl l=l.length then-1 else(cN dl l:Int)
theorem Lx {dl:α→Bool}(l:List α):decide (0≤nU dl l)=l.any dl:=by
 have h:=vI (dl:=dl) l
 rw[Ox]
 unfold nU
 split
 ·rw[decide_eq_decide];omega
 rw[decide_eq_decide];omega
end
section
variable {α:Type}{key:α→Int}
def Bw (key:α→Int) (x:α):List α→List α
 | []=>[x]
 | y::l=>if key x≤key y then x::y::l else y::Bw key x l
def uW (key:α→Int):List α→List α
 | []=>[]
 | x::l=>Bw key x (uW key l)
def Srd (key:α→Int) (l:List α):Prop:=l.Pairwise fun x y=>key x≤key y
def Kp (key:α→Int) (A B:List α):Prop:=∀y,A.filter (fun x=>decide (key x=y))=B.filter (fun x=>decide (key x=y))
variable {A B C D P Q U V M:List α}{x y:α}
theorem Kp.refl:Kp key A A:=fun _=>rfl
theorem Kp.symm (h:Kp key A B):Kp key B A:=fun y=>(h y).symm
theorem Kp.trans (h:Kp key A B) (h2:Kp key B C):Kp key A C:=fun y=>(h y).trans (h2 y)
theorem Kp.app (h:Kp key A B) (h2:Kp key C D):Kp key (A++C) (B++D):=fun y=>by rw[List.filter_append,List.filter_append,h y,h2 y]
theorem Kp.mem (h:Kp key A B):x∈A↔x∈B:=by
 have h1:=h (key x)
 have e:∀l:List α,x∈l↔x∈l.filter (fun z=>decide (key z=key x)):=fun l=>by simp[List.mem_filter]
 rw[e A,e B,h1]
theorem Kp.comm (h:∀x∈U,∀y∈V,key x≠key y):Kp key (U++V) (V++U):=by
 intro z
 rw[List.filter_append,List.filter_append]
 by_cases h1:U.filter (fun x=>decide (key x=z))=[]
 ·rw[h1,List.nil_append,List.append_nil]
 obtain⟨u,hu⟩:=List.exists_mem_of_ne_nil _ h1
 rw[List.mem_filter]at hu
 have h2:V.filter (fun x=>decide (key x=z))=[]:=by
  rw[List.filter_eq_nil_iff]
  intro v hv h3
  exact h u hu.1 v hv ((of_decide_eq_true hu.2).trans (of_decide_eq_true h3).symm)
 rw[h2,List.nil_append,List.append_nil]
theorem Ks:∀l:List α,Kp key (Bw key x l) (x::l)
 | []=>fun _=>rfl
 | y::l=>by
  unfold Bw
  split
  ·exact .refl
  rename_i h
  have h1:Kp key (y::Bw key x l) (y::x::l):=Kp.app (A:=[y]) (B:=[y]) .refl (Ks l)
  refine h1.trans ?_
  exact Kp.app (A:=[y,x]) (B:=[x,y]) (Kp.comm (U:=[y]) (V:=[x]) fun a ha b hb=>by rw[List.mem_singleton]at ha hb;subst ha;subst hb;omega) .refl
theorem oH:∀l:List α,Kp key (uW key l) l
 | []=>.refl
 | x::l=>(Ks _).trans (Kp.app (A:=[x]) (B:=[x]) .refl (oH l))
theorem Oy:∀{l:List α},Srd key l→Srd key (Bw key x l)
 | [],_=>List.pairwise_singleton _ _
 | y::l,h=>by
  have h1:=List.pairwise_cons.1 h
  unfold Bw
  split
  ·rename_i hx
   refine List.pairwise_cons.2 ⟨fun z hz=>?_,h⟩
   rcases List.mem_cons.1 hz with rfl | hz
   ·exact hx
   exact Int.le_trans hx (h1.1 z hz)
  rename_i hx
  refine List.pairwise_cons.2 ⟨fun z hz=>?_,Oy h1.2⟩
  rcases List.mem_cons.1 ((Ks l).mem.1 hz)with rfl | hz
  ·omega
  exact h1.1 z hz
theorem nL:∀l:List α,Srd key (uW key l)
 | []=>List.Pairwise.nil
 | _::l=>Oy (nL l)
theorem Oz:∀l:List α,(Bw key x l).length=l.length+1
 | []=>rfl
 | y::l=>by
  unfold Bw
  split
  ·rfl
  rw[List.length_cons,Oz l,List.length_cons]
theorem Dq:∀l:List α,(uW key l).length=l.length
 | []=>rfl
 | x::l=>by rw[uW,Oz,Dq l,List.length_cons]
theorem Srd.uniq:∀{A B:List α},Srd key A→Srd key B→Kp key A B→A=B
 | [],[],_,_,_=>rfl
 | [],y::B,_,_,h=>by
  have:=h (key y)
  simp at this
 | x::A,[],_,_,h=>by
  have:=h (key x)
  simp at this
 | x::A,y::B,hA,hB,h=>by
  have h1:=List.pairwise_cons.1 hA
  have h2:=List.pairwise_cons.1 hB
  have hx:x∈y::B:=h.mem.1 (List.mem_cons_self ..)
  have hy:y∈x::A:=h.mem.2 (List.mem_cons_self ..)
  have e1:key y≤key x:=by
   rcases List.mem_cons.1 hx with rfl | h3
   ·omega
   exact h2.1 x h3
  have e2:key x≤key y:=by
   rcases List.mem_cons.1 hy with rfl | h3
   ·omega
   exact h1.1 y h3
  have h3:=h (key x)
  rw[List.filter_cons,if_pos (by simp),List.filter_cons,if_pos (by simp;omega)]at h3
  injection h3 with e3 h3
  subst e3
  rw[Srd.uniq h1.2 h2.2 fun z=>by
   have h4:=h z
   rw[List.filter_cons,List.filter_cons]at h4
   split at h4
   ·injection h4
   exact h4]
theorem qM (h:Srd key A) (hk:Kp key A B):uW key B=A:=Srd.uniq (nL B) h ((oH B).trans hk.symm)
theorem Kt (h:Srd key A):uW key A=A:=qM h .refl
theorem Srd.app (hA:Srd key A) (hB:Srd key B) (h:∀x∈A,∀y∈B,key x≤key y):Srd key (A++B):=List.pairwise_append.2 ⟨hA,hB,h⟩
theorem Srd.l (h:Srd key (A++B)):Srd key A:=(List.pairwise_append.1 h).1
theorem Srd.r (h:Srd key (A++B)):Srd key B:=(List.pairwise_append.1 h).2.1
theorem Srd.le (h:Srd key (A++B)):∀x∈A,∀y∈B,key x≤key y:=(List.pairwise_append.1 h).2.2
theorem Wd (hX:Srd key (A++B)) (hY:Srd key (C++D)) (h1:∀x∈A,∀y∈D,key x≤key y) (h2:∀x∈B,∀y∈C,key y<key x):uW key ((A++B)++(C++D))=uW key (A++C)++uW key (B++D):=by
 refine qM (Srd.app (nL _) (nL _) fun x hx y hy=>?_) ?_
 ·rcases List.mem_append.1 ((oH _).mem.1 hx)with hx | hx <;> rcases List.mem_append.1 ((oH _).mem.1 hy)with hy | hy
  ·exact hX.le x hx y hy
  ·exact h1 x hx y hy
  ·exact Int.le_of_lt (h2 y hy x hx)
  exact hY.le x hx y hy
 refine((oH _).app (oH _)).trans ?_
 have e1:A++C++(B++D)=A++((C++B)++D):=by simp
 have e2:(A++B)++(C++D)=A++((B++C)++D):=by simp
 rw[e1,e2]
 exact Kp.refl.app ((Kp.comm fun x hx y hy=>by have:=h2 y hy x hx;omega).app .refl)
theorem Pp {D:List α}{a b:Nat}(h:a≤b) (hb:b≤D.length):∃P S Q,D=P++(S++Q)∧P.length=a∧S.length=b-a∧Q.length=D.length-b:=by
 refine⟨D.take a,(D.drop a).take (b-a),D.drop b,?_,by rw[List.length_take];omega,by rw[List.length_take,List.length_drop];omega,by rw[List.length_drop]⟩
 have:D.drop b=(D.drop a).drop (b-a):=by rw[List.drop_drop,show a+(b-a)=b by omega]
 rw[this,List.take_append_drop,List.take_append_drop]
theorem tF {D:List α}{a:Nat}(h:a≤D.length):∃P Q,D=P++Q∧P.length=a∧Q.length=D.length-a:=⟨D.take a,D.drop a,(List.take_append_drop a D).symm,by rw[List.length_take];omega,by rw[List.length_drop]⟩
theorem Ku {d:α}:(P++x::Q).getD P.length d=x:=by simp[List.getD_eq_getElem?_getD]
theorem DG:(P++x::Q).set P.length y=P++y::Q:=by simp
theorem NZ {i j:Nat}(hi:P.length=i) (hj:P.length+1+M.length=j):((P++(x::(M++y::Q))).set i y).set j x=P++(y::(M++x::Q)):=by
 subst hi
 subst hj
 rw[DG,List.set_append_right _ _ (by omega),show P.length+1+M.length-P.length=M.length+1 by omega,List.set_cons_succ,DG]
theorem OA {i j:Nat}(hi:P.length=i) (hj:P.length+1+M.length=j):((P++(x::(M++y::Q))).set j x).set i y=P++(y::(M++x::Q)):=by
 rw[List.set_comm _ _ (by omega),NZ hi hj]
theorem Kv {i:Nat}{d:α}(hi:P.length=i):(P++(x::(M++y::Q))).getD i d=x:=by subst hi;exact Ku
theorem Rf {j:Nat}{d:α}(hj:P.length+1+M.length=j):(P++(x::(M++y::Q))).getD j d=y:=by
 subst hj
 have:=Ku (P:=P++(x::M)) (x:=y) (Q:=Q) (d:=d)
 rw[List.length_append,List.length_cons,show P.length+(M.length+1)=P.length+1+M.length by omega]at this
 simpa using this
theorem lJ {i:Nat}{d:α}(h:P.length≤i):(P++Q).getD i d=Q.getD (i-P.length) d:=by simp[List.getD_eq_getElem?_getD,List.getElem?_append_right h]
theorem lS {i:Nat}{d:α}(h:i<P.length):(P++Q).getD i d=P.getD i d:=by simp[List.getD_eq_getElem?_getD,List.getElem?_append_left h]
theorem pS {l:List α}{i:Nat}{d:α}(h:i<l.length):l.getD i d∈l:=by rw[List.getD_eq_getElem?_getD,List.getElem?_eq_getElem h];exact List.getElem_mem h
theorem Srd.get {l:List α}{i j:Nat}{d:α}(h:Srd key l) (hij:i≤j) (hj:j<l.length):key (l.getD i d)≤key (l.getD j d):=by
 rcases Nat.eq_or_lt_of_le hij with rfl | h1
 ·omega
 have:=(List.pairwise_iff_getElem.1 h) i j (by omega) hj h1
 rw[List.getD_eq_getElem?_getD,List.getElem?_eq_getElem (by omega),List.getD_eq_getElem?_getD,List.getElem?_eq_getElem hj]
 exact this
end
section
variable {α:Type}{f:α→List Tr}{z k o:Nat}{xs:List α}{x x':α}{us:List Tr}
theorem BG (h:k<xs.length):xs=xs.take k++xs[k]::xs.drop (k+1):=by
 rw[←List.drop_eq_getElem_cons h,List.take_append_drop]
theorem dK (hf:∀x,(f x).length=z) (h:xs[k]? =some x) (hm:o+us.length≤z) (hx:f x'=(f x).take o++us++(f x).drop (o+us.length)):dN ((xs.flatMap f).map AV.t) (0+k*z+o) (us.map AV.t)=((xs.set k x').flatMap f).map .t:=by
 obtain⟨hk,rfl⟩:=List.getElem?_eq_some_iff.1 h
 rw[←Ix,Nat.zero_add]
 congr 1
 have hA:((xs.take k).flatMap f).length=k*z:=by rw[cL hf,List.length_take,Nat.min_eq_left (by omega)]
 have e:xs.flatMap f=(xs.take k).flatMap f++(f xs[k]++(xs.drop (k+1)).flatMap f):=by
  conv=>lhs;rw[BG hk]
  rw[List.flatMap_append,List.flatMap_cons]
 have hl:=hf xs[k]
 rw[List.set_eq_take_append_cons_drop,if_pos hk,List.flatMap_append,List.flatMap_cons,hx,e]
 generalize (xs.take k).flatMap f=A at*
 generalize (xs.drop (k+1)).flatMap f=C at*
 generalize f xs[k]=X at*
 unfold dN
 rw[List.take_append,List.drop_append,hA,List.take_of_length_le (l:=A) (by omega),List.drop_of_length_le (l:=A) (by omega),show k*z+o-k*z=o by omega,show k*z+o+us.length-k*z=o+us.length by omega,List.take_append,List.drop_append,show o-X.length=0 by omega,show o+us.length-X.length=0 by omega]
 simp
theorem eL (hf:∀x,(f x).length=z) (h:k<xs.length) (hm:o+us.length≤z):0+k*z+o+(us.map AV.t).length≤((xs.flatMap f).map AV.t).length:=by
 rw[List.length_map,List.length_map,cL hf]
 have:=Nat.mul_le_mul (show k+1≤xs.length by omega) (Nat.le_refl z)
 rw[Nat.add_mul]at this
 omega
end
structure Wv where
 y:Int
 e:Int
 q:Rat
def nM:Wv:=⟨0,0,0⟩
def Rh:List Tr:=[.v (.bool false),.v (.slice none 0 0),.v (.bool false),.v (.slice none 0 0)]
def aL (x:Wv):List Tr:=.v (.int .i64 x.y)::.v (.int .i64 x.e)::((Fr4.of x.q).tr false++(Rh++(Rh++Rh)))
theorem aX (x:Wv):(aL x).length=18:=rfl
def aB (l:List Wv) (i:Nat):Wv:=l.getD i nM
section
variable {l D P S Q U V M X Y xs:List Wv}{i j k t n a b s:Nat}{x:Wv}
theorem bN (h:i<l.length):l[i]? =some (aB l i):=by simp[aB,h]
def Xg (a b:Int):Int:=if a<b then-1 else if b<a then 1 else 0
theorem kH {a b:Int}:Xg a b<0↔a<b:=by
 unfold Xg
 by_cases h:a<b
 ·simp[h]
 by_cases h2:b<a
 ·simp[h,h2]
 simp[h,h2]
abbrev dC:List Wv→List Wv:=uW Wv.y
def SwP (P U M V Q:List Wv) (i:Nat) (D:List Wv):Prop:=∃U1 U2 V1 V2,U=U1++U2∧V=V1++V2∧U1.length=i∧V1.length=i∧D=P++((V1++U2)++(M++((U1++V2)++Q)))
theorem SwP.zero:SwP P U M V Q 0 (P++(U++(M++(V++Q)))):=⟨[],U,[],V,rfl,rfl,rfl,rfl,rfl⟩
theorem SwP.len (h:SwP P U M V Q i D):D.length=P.length+U.length+M.length+V.length+Q.length:=by
 obtain⟨U1,U2,V1,V2,rfl,rfl,h1,h2,rfl⟩:=h
 simp only[List.length_append]
 omega
theorem SwP.step (h:SwP P U M V Q i D) (hU:U.length=n) (hV:V.length=n) (hi:i<n) (ha:P.length=a) (hb:a+n+M.length=b):SwP P U M V Q (i+1) ((D.set (a+i) (aB D (b+i))).set (b+i) (aB D (a+i))):=by
 obtain⟨U1,U2,V1,V2,rfl,rfl,h1,h2,rfl⟩:=h
 rw[List.length_append]at hU hV
 cases U2 with
 | nil=>simp at hU;omega
 | cons u U2=>
  cases V2 with
  | nil=>simp at hV;omega
  | cons v V2=>
   rw[List.length_cons]at hU hV
   have e:P++((V1++u::U2)++(M++((U1++v::V2)++Q)))=(P++V1)++(u::((U2++(M++U1))++v::(V2++Q))):=by simp
   have e1:(P++V1).length=a+i:=by rw[List.length_append];omega
   have e2:(P++V1).length+1+(U2++(M++U1)).length=b+i:=by simp only[List.length_append];omega
   refine⟨U1++[u],U2,V1++[v],V2,by simp,by simp,by simp[h1],by simp[h2],?_⟩
   rw[e,aB,aB,Kv e1,Rf e2,NZ e1 e2]
   simp
theorem SwP.fin (h:SwP P U M V Q n D) (hU:U.length=n) (hV:V.length=n):D=P++(V++(M++(U++Q))):=by
 obtain⟨U1,U2,V1,V2,rfl,rfl,h1,h2,rfl⟩:=h
 rw[List.length_append]at hU hV
 have e1:U2=[]:=List.eq_nil_of_length_eq_zero (by omega)
 have e2:V2=[]:=List.eq_nil_of_length_eq_zero (by omega)
 subst e1
 subst e2
 simp
def Ro (m i j:Nat) (D T:List Wv):Prop:=∃P L R Q,D=P++(L++(R++Q))∧P.length+i=m∧L.length=i∧R.length=j∧T=P++(R++(L++Q))
variable {m:Nat}{T:List Wv}
theorem Ro.len (h:Ro m i j D T):m+j≤D.length∧i≤m∧T.length=D.length:=by
 obtain⟨P,L,R,Q,rfl,h1,h2,h3,rfl⟩:=h
 simp only[List.length_append]
 omega
theorem Ro.gt (h:Ro m i j D T) (hij:j<i):∃P U M V Q,D=P++(U++(M++(V++Q)))∧P.length=m-i∧U.length=j∧V.length=j∧m-i+j+M.length=m∧Ro m (i-j) j (P++(V++(M++(U++Q)))) T:=by
 obtain⟨P,L,R,Q,rfl,h1,h2,h3,rfl⟩:=h
 obtain⟨U,M,rfl,h4,h5⟩:=tF (D:=L) (a:=j) (by omega)
 rw[List.length_append]at h2 h5
 exact⟨P,U,M,R,Q,by simp,by omega,h4,h3,by omega,P++R,M,U,Q,by simp,by rw[List.length_append];omega,by omega,h4,by simp⟩
theorem Ro.lt (h:Ro m i j D T) (hij:i<j):∃P U M V Q,D=P++(U++(M++(V++Q)))∧P.length=m-i∧U.length=i∧V.length=i∧m-i+i+M.length=m+j-i∧Ro m i (j-i) (P++(V++(M++(U++Q)))) T:=by
 obtain⟨P,L,R,Q,rfl,h1,h2,h3,rfl⟩:=h
 obtain⟨M,V,rfl,h4,h5⟩:=tF (D:=R) (a:=j-i) (by omega)
 rw[List.length_append]at h3 h5
 exact⟨P,L,M,V,Q,by simp,by omega,h2,by omega,by omega,P,V,M,L++Q,by simp,h1,by omega,by omega,by simp⟩
theorem Ro.eq (h:Ro m i i D T):∃P U V Q,D=P++(U++([]++(V++Q)))∧P.length=m-i∧U.length=i∧V.length=i∧m-i+i+([]:List Wv).length=m∧P++(V++([]++(U++Q)))=T:=by
 obtain⟨P,L,R,Q,rfl,h1,h2,h3,rfl⟩:=h
 exact⟨P,L,R,Q,by simp,by omega,h2,h3,by simp;omega,by simp⟩
def Ins (P S Q D:List Wv) (t j:Nat):Prop:=∃A1 A2,D=P++(A1++(aB S t::(A2++(S.drop (t+1)++Q))))∧A1++A2=dC (S.take t)∧P.length+A1.length=j∧∀z∈A2,(aB S t).y<z.y
theorem Ins.start (ht:t<S.length) (h:D=P++(dC (S.take t)++(S.drop t++Q))):Ins P S Q D t (P.length+t):=by
 refine⟨dC (S.take t),[],?_,by simp,by rw[Dq,List.length_take];omega,fun z hz=>by cases hz⟩
 have e:=bN ht
 rw[List.getElem?_eq_getElem ht]at e
 rw[h,←Option.some.inj e,List.drop_eq_getElem_cons ht]
 rfl
theorem Ins.len (h:Ins P S Q D t j):P.length≤j∧j<D.length:=by
 obtain⟨A1,A2,rfl,h1,h2,h3⟩:=h
 simp only[List.length_append,List.length_cons]
 omega
theorem Ins.at (h:Ins P S Q D t j):aB D j=aB S t:=by
 obtain⟨A1,A2,rfl,h1,h2,h3⟩:=h
 rw[←List.append_assoc]
 have e:(P++A1).length=j:=by rw[List.length_append,h2]
 subst e
 exact Ku
theorem Ins.step (h:Ins P S Q D t j) (hj:P.length<j) (hc:(aB D j).y<(aB D (j-1)).y):Ins P S Q ((D.set j (aB D (j-1))).set (j-1) (aB D j)) t (j-1):=by
 have hat:=h.at
 obtain⟨A1,A2,hD,h1,h2,h3⟩:=h
 rcases List.eq_nil_or_concat A1 with rfl | ⟨B,z,rfl⟩
 ·simp at h2;omega
 rw[List.concat_eq_append]at*
 rw[List.length_append,List.length_singleton]at h2
 have e:P++((B++[z])++(aB S t::(A2++(S.drop (t+1)++Q))))=(P++B)++(z::([]++aB S t::(A2++(S.drop (t+1)++Q)))):=by simp
 have e1:(P++B).length=j-1:=by rw[List.length_append];omega
 have e2:(P++B).length+1+([]:List Wv).length=j:=by simp only[List.length_append,List.length_nil];omega
 rw[hD,e]at hc⊢
 have hz:aB ((P++B)++(z::([]++aB S t::(A2++(S.drop (t+1)++Q))))) (j-1)=z:=Kv e1
 have hy:aB ((P++B)++(z::([]++aB S t::(A2++(S.drop (t+1)++Q))))) j=aB S t:=Rf e2
 rw[hz,hy]at hc⊢
 refine⟨B,z::A2,?_,by rw[←h1];simp,by omega,fun w hw=>?_⟩
 ·rw[OA e1 e2]
  simp
 rcases List.mem_cons.1 hw with rfl | hw
 ·exact hc
 exact h3 w hw
theorem Ins.stop (h:Ins P S Q D t j) (ht:t<S.length) (hs:j≤P.length∨¬(aB D j).y<(aB D (j-1)).y):D=P++(dC (S.take (t+1))++(S.drop (t+1)++Q)):=by
 have hat:=h.at
 obtain⟨A1,A2,hD,h1,h2,h3⟩:=h
 have e:S.take (t+1)=S.take t++[aB S t]:=by rw[List.take_add_one,bN ht];rfl
 have hs9:=nL (key:=Wv.y) (S.take t)
 have h1':A1++A2=uW Wv.y (S.take t):=h1
 rw[←h1']at hs9
 have hle:∀z∈A1,z.y≤(aB S t).y:=by
  intro z hz
  rcases hs with hs | hs
  ·have:A1=[]:=List.eq_nil_of_length_eq_zero (by omega)
   rw[this]at hz
   cases hz
  rcases List.eq_nil_or_concat A1 with rfl | ⟨B,w,rfl⟩
  ·cases hz
  rw[List.concat_eq_append]at*
  have e0:P++((B++[w])++(aB S t::(A2++(S.drop (t+1)++Q))))=(P++B)++(w::([]++aB S t::(A2++(S.drop (t+1)++Q)))):=by simp
  rw[List.length_append,List.length_singleton]at h2
  have e1:(P++B).length=j-1:=by rw[List.length_append];omega
  have hw9:aB D (j-1)=w:=by rw[hD,e0];exact Kv e1
  rw[hat,hw9]at hs
  rcases List.mem_append.1 hz with hz | hz
  ·have:=(hs9.l).le z hz w (List.mem_singleton.2 rfl)
   omega
  rw[List.mem_singleton.1 hz]
  omega
 have hsr:dC (S.take (t+1))=A1++(aB S t::A2):=by
  refine qM ?_ ?_
  ·refine Srd.app hs9.l (List.pairwise_cons.2 ⟨fun z hz=>Int.le_of_lt (h3 z hz),hs9.r⟩) fun x hx y hy=>?_
   rcases List.mem_cons.1 hy with rfl | hy
   ·exact hle x hx
   exact hs9.le x hx y hy
  rw[e]
  have k1:Kp Wv.y (A1++([aB S t]++A2)) (A1++(A2++[aB S t])):=Kp.refl.app (Kp.comm fun x hx y hy=>by have:=h3 y hy;rw[List.mem_singleton]at hx;subst hx;omega)
  refine Kp.trans (B:=A1++(A2++[aB S t])) k1 ?_
  rw[←List.append_assoc,h1']
  exact(oH _).app .refl
 rw[hsr,hD]
 simp
end
section
variable {l D P S Q U V M X Y xs:List Wv}{i j k t n a b c s m p lo hi:Nat}{x:Wv}
theorem gV:(dC l).length=l.length:=Dq l
def B1 (P:List Wv) (x:Wv) (Y Q:List Wv) (k:Nat) (D:List Wv):Prop:=∃Y1 Y2,Y=Y1++Y2∧D=P++(Y1++(x::(Y2++Q)))∧P.length+Y1.length=k
theorem B1.zero:B1 P x Y Q P.length (P++(x::(Y++Q))):=⟨[],Y,rfl,rfl,rfl⟩
theorem B1.len (h:B1 P x Y Q k D):D.length=P.length+1+Y.length+Q.length:=by
 obtain⟨Y1,Y2,rfl,rfl,h⟩:=h
 simp only[List.length_append,List.length_cons]
 omega
theorem B1.step (h:B1 P x Y Q k D) (hk:k<P.length+Y.length):B1 P x Y Q (k+1) ((D.set k (aB D (k+1))).set (k+1) (aB D k)):=by
 obtain⟨Y1,Y2,rfl,rfl,h⟩:=h
 rw[List.length_append]at hk
 cases Y2 with
 | nil=>simp at hk;omega
 | cons y Y2=>
  have e:P++(Y1++(x::(y::Y2++Q)))=(P++Y1)++(x::([]++y::(Y2++Q))):=by simp
  have e1:(P++Y1).length=k:=by rw[List.length_append];omega
  have e2:(P++Y1).length+1+([]:List Wv).length=k+1:=by simp only[List.length_append,List.length_nil];omega
  refine⟨Y1++[y],Y2,by simp,?_,by simp;omega⟩
  rw[e,aB,aB,Kv e1,Rf e2,NZ e1 e2]
  simp
theorem B1.fin (h:B1 P x Y Q k D) (hk:P.length≤k) (hk2:k≤P.length+Y.length) (hY:Srd Wv.y Y) (h1:∀c,c<k-P.length→(aB Y c).y<x.y) (h2:∀c,k-P.length≤c→c<Y.length→x.y≤(aB Y c).y):D=P++(dC (x::Y)++Q):=by
 obtain⟨Y1,Y2,rfl,rfl,h⟩:=h
 have e1:∀z∈Y1,z.y<x.y:=by
  intro z hz
  obtain⟨c,hc,rfl⟩:=List.getElem_of_mem hz
  have:=h1 c (by omega)
  rw[aB,lS hc,List.getD_eq_getElem?_getD,List.getElem?_eq_getElem hc]at this
  exact this
 have e2:∀z∈Y2,x.y≤z.y:=by
  intro z hz
  obtain⟨c,hc,rfl⟩:=List.getElem_of_mem hz
  have:=h2 (Y1.length+c) (by omega) (by rw[List.length_append];omega)
  rw[aB,lJ (by omega),show Y1.length+c-Y1.length=c by omega,List.getD_eq_getElem?_getD,List.getElem?_eq_getElem hc]at this
  exact this
 have e3:dC (x::(Y1++Y2))=Y1++(x::Y2):=by
  refine qM ?_ ?_
  ·refine Srd.app hY.l (List.pairwise_cons.2 ⟨e2,hY.r⟩) fun u hu v hv=>?_
   rcases List.mem_cons.1 hv with rfl | hv
   ·exact Int.le_of_lt (e1 u hu)
   exact hY.le u hu v hv
  have k1:Kp Wv.y ((Y1++[x])++Y2) (([x]++Y1)++Y2):=(Kp.comm fun u hu v hv=>by have:=e1 u hu;rw[List.mem_singleton]at hv;subst hv;omega).app .refl
  simpa using k1
 rw[e3]
 simp
def B2 (P X:List Wv) (x:Wv) (Q:List Wv) (k:Nat) (D:List Wv):Prop:=∃X1 X2,X=X1++X2∧D=P++(X1++(x::(X2++Q)))∧P.length+X1.length=k
theorem B2.zero:B2 P X x Q (P.length+X.length) (P++(X++(x::Q))):=⟨X,[],by simp,rfl,rfl⟩
theorem B2.len (h:B2 P X x Q k D):D.length=P.length+1+X.length+Q.length∧k≤P.length+X.length:=by
 obtain⟨Y1,Y2,rfl,rfl,h⟩:=h
 simp only[List.length_append,List.length_cons]
 omega
theorem B2.step (h:B2 P X x Q k D) (hk:P.length<k):B2 P X x Q (k-1) ((D.set k (aB D (k-1))).set (k-1) (aB D k)):=by
 obtain⟨X1,X2,rfl,rfl,h⟩:=h
 rcases List.eq_nil_or_concat X1 with rfl | ⟨B,z,rfl⟩
 ·simp at h;omega
 rw[List.concat_eq_append]at*
 rw[List.length_append,List.length_singleton]at h
 have e:P++((B++[z])++(x::(X2++Q)))=(P++B)++(z::([]++x::(X2++Q))):=by simp
 have e1:(P++B).length=k-1:=by rw[List.length_append];omega
 have e2:(P++B).length+1+([]:List Wv).length=k:=by simp only[List.length_append,List.length_nil];omega
 refine⟨B,z::X2,by simp,?_,by omega⟩
 rw[e,aB,aB,Kv e1,Rf e2,OA e1 e2]
 simp
theorem B2.fin (h:B2 P X x Q k D) (hX:Srd Wv.y X) (h1:∀c,c<k-P.length→(aB X c).y≤x.y) (h2:∀c,k-P.length≤c→c<X.length→x.y<(aB X c).y):D=P++(dC (X++[x])++Q):=by
 obtain⟨Y1,Y2,rfl,rfl,h⟩:=h
 have e1:∀z∈Y1,z.y≤x.y:=by
  intro z hz
  obtain⟨c,hc,rfl⟩:=List.getElem_of_mem hz
  have:=h1 c (by omega)
  rw[aB,lS hc,List.getD_eq_getElem?_getD,List.getElem?_eq_getElem hc]at this
  exact this
 have e2:∀z∈Y2,x.y<z.y:=by
  intro z hz
  obtain⟨c,hc,rfl⟩:=List.getElem_of_mem hz
  have:=h2 (Y1.length+c) (by omega) (by rw[List.length_append];omega)
  rw[aB,lJ (by omega),show Y1.length+c-Y1.length=c by omega,List.getD_eq_getElem?_getD,List.getElem?_eq_getElem hc]at this
  exact this
 have e3:dC ((Y1++Y2)++[x])=Y1++(x::Y2):=by
  refine qM ?_ ?_
  ·refine Srd.app hX.l (List.pairwise_cons.2 ⟨fun z hz=>Int.le_of_lt (e2 z hz),hX.r⟩) fun u hu v hv=>?_
   rcases List.mem_cons.1 hv with rfl | hv
   ·exact e1 u hu
   exact hX.le u hu v hv
  have k1:Kp Wv.y (Y1++([x]++Y2)) (Y1++(Y2++[x])):=Kp.refl.app (Kp.comm fun u hu v hv=>by have:=e2 v hv;rw[List.mem_singleton]at hu;subst hu;omega)
  simpa using k1
 rw[e3]
 simp
theorem mN (h:i<X.length) (hD:D=P++(X++(Y++Q))):aB D (P.length+i)=aB X i:=by
 subst hD
 rw[aB,lJ (by omega),show P.length+i-P.length=i by omega,lS h,aB]
theorem mO (h:i<Y.length) (hD:D=P++(X++(Y++Q))):aB D (P.length+X.length+i)=aB Y i:=by
 subst hD
 rw[aB,lJ (by omega),lJ (by omega),lS (by omega),aB]
 congr 1
 omega
structure Cut (D:List Wv) (p lo hi s r:Nat):Prop where
 b:lo≤s∧s≤r∧r≤hi
 l:∀c,lo≤c→c<s→(aB D c).y≤(aB D (p-c)).y
 u:∀c,r≤c→c<hi→(aB D (p-c)).y<(aB D c).y
theorem Cut.start (h:lo≤hi):Cut D p lo hi lo hi:=⟨by omega,fun c h1 h2=>by omega,fun c h1 h2=>by omega⟩
section
variable {r:Nat}(hD:D=P++(X++(Y++Q))) (hX:Srd Wv.y X) (hY:Srd Wv.y Y) (h:Cut D p lo hi s r) (ha:P.length≤lo) (hm:hi≤P.length+X.length) (hp1:∀c,lo≤c→c<hi→P.length+X.length≤p-c∧p-c<P.length+X.length+Y.length∧c≤p)
include hD hX hY h ha hm hp1
theorem Cut.up (h1:s≤c) (h2:c<r) (hc:¬(aB D (p-c)).y<(aB D c).y):Cut D p lo hi (c+1) r:=by
 have hb:=h.b
 refine⟨by omega,fun d h3 h4=>?_,h.u⟩
 by_cases hd:d<s
 ·exact h.l d h3 hd
 have e1:=mN (P:=P) (X:=X) (Y:=Y) (Q:=Q) (i:=c-P.length) (by omega) hD
 have e2:=mN (P:=P) (X:=X) (Y:=Y) (Q:=Q) (i:=d-P.length) (by omega) hD
 have q1:=hp1 c (by omega) (by omega)
 have q2:=hp1 d (by omega) (by omega)
 have e3:=mO (P:=P) (X:=X) (Y:=Y) (Q:=Q) (i:=p-c-(P.length+X.length)) (by omega) hD
 have e4:=mO (P:=P) (X:=X) (Y:=Y) (Q:=Q) (i:=p-d-(P.length+X.length)) (by omega) hD
 rw[show P.length+(c-P.length)=c by omega]at e1
 rw[show P.length+(d-P.length)=d by omega]at e2
 rw[show P.length+X.length+(p-c-(P.length+X.length))=p-c by omega]at e3
 rw[show P.length+X.length+(p-d-(P.length+X.length))=p-d by omega]at e4
 rw[e1,e3]at hc
 rw[e2,e4]
 have k1:=hX.get (d:=nM) (i:=d-P.length) (j:=c-P.length) (by omega) (by omega)
 have k2:=hY.get (d:=nM) (i:=p-c-(P.length+X.length)) (j:=p-d-(P.length+X.length)) (by omega) (by omega)
 unfold aB at hc⊢
 omega
theorem Cut.dn (h1:s≤c) (h2:c<r) (hc:(aB D (p-c)).y<(aB D c).y):Cut D p lo hi s c:=by
 have hb:=h.b
 refine⟨by omega,h.l,fun d h3 h4=>?_⟩
 by_cases hd:r≤d
 ·exact h.u d hd h4
 have e1:=mN (P:=P) (X:=X) (Y:=Y) (Q:=Q) (i:=c-P.length) (by omega) hD
 have e2:=mN (P:=P) (X:=X) (Y:=Y) (Q:=Q) (i:=d-P.length) (by omega) hD
 have q1:=hp1 c (by omega) (by omega)
 have q2:=hp1 d (by omega) (by omega)
 have e3:=mO (P:=P) (X:=X) (Y:=Y) (Q:=Q) (i:=p-c-(P.length+X.length)) (by omega) hD
 have e4:=mO (P:=P) (X:=X) (Y:=Y) (Q:=Q) (i:=p-d-(P.length+X.length)) (by omega) hD
 rw[show P.length+(c-P.length)=c by omega]at e1
 rw[show P.length+(d-P.length)=d by omega]at e2
 rw[show P.length+X.length+(p-c-(P.length+X.length))=p-c by omega]at e3
 rw[show P.length+X.length+(p-d-(P.length+X.length))=p-d by omega]at e4
 rw[e1,e3]at hc
 rw[e2,e4]
 have k1:=hX.get (d:=nM) (i:=c-P.length) (j:=d-P.length) (by omega) (by omega)
 have k2:=hY.get (d:=nM) (i:=p-d-(P.length+X.length)) (j:=p-c-(P.length+X.length)) (by omega) (by omega)
 unfold aB at hc⊢
 omega
theorem Cut.fin (hr:r≤s) (hlo:lo=P.length∨p+1-lo=P.length+X.length+Y.length) (hhi:hi=P.length+X.length∨p+1-hi=P.length+X.length) (hs1:P.length+X.length≤p+1-s∧p+1-s≤P.length+X.length+Y.length∧s≤p+1):
  ∃A B C E,X=A++B∧Y=C++E∧P.length+A.length=s∧P.length+X.length+C.length=p+1-s∧dC (X++Y)=dC (A++C)++dC (B++E):=by
 have hb:=h.b
 obtain⟨A,B,hX2,hA,hB⟩:=tF (D:=X) (a:=s-P.length) (by omega)
 obtain⟨C,E,hY2,hC,hE⟩:=tF (D:=Y) (a:=p+1-s-(P.length+X.length)) (by omega)
 refine⟨A,B,C,E,hX2,hY2,by omega,by omega,?_⟩
 have hXl:X.length=A.length+B.length:=by rw[hX2,List.length_append]
 have hYl:Y.length=C.length+E.length:=by rw[hY2,List.length_append]
 have gX:∀i,i<X.length→aB D (P.length+i)=aB X i:=fun i hi=>mN hi hD
 have gY:∀i,i<Y.length→aB D (P.length+X.length+i)=aB Y i:=fun i hi=>mO hi hD
 have hXs:=hX
 have hYs:=hY
 rw[hX2]at hXs
 rw[hY2]at hYs
 have key:=Wd hXs hYs (fun x hx y hy=>?_) (fun x hx y hy=>?_)
 ·rw[hX2,hY2]
  exact key
 ·-- A before E
  obtain⟨i,hi,rfl⟩:=List.getElem_of_mem hx
  obtain⟨j,hj,rfl⟩:=List.getElem_of_mem hy
  have hlt:lo<s:=by omega
  have h9:=h.l (s-1) (by omega) (by omega)
  have q9:=hp1 (s-1) (by omega) (by omega)
  have e1:=gX (s-1-P.length) (by omega)
  have e2:=gY (p-(s-1)-(P.length+X.length)) (by omega)
  rw[show P.length+(s-1-P.length)=s-1 by omega]at e1
  rw[show P.length+X.length+(p-(s-1)-(P.length+X.length))=p-(s-1) by omega]at e2
  rw[e1,e2]at h9
  have k1:=hX.get (d:=nM) (i:=i) (j:=s-1-P.length) (by omega) (by omega)
  have k2:=hY.get (d:=nM) (i:=p-(s-1)-(P.length+X.length)) (j:=C.length+j) (by omega) (by omega)
  have e3:X.getD i nM=A[i]:=by rw[hX2,lS hi,List.getD_eq_getElem?_getD,List.getElem?_eq_getElem hi];rfl
  have e4:Y.getD (C.length+j) nM=E[j]:=by rw[hY2,lJ (by omega),show C.length+j-C.length=j by omega,List.getD_eq_getElem?_getD,List.getElem?_eq_getElem hj];rfl
  rw[e3]at k1
  rw[e4]at k2
  unfold aB at h9
  omega
 obtain⟨i,hi9,rfl⟩:=List.getElem_of_mem hx
 obtain⟨j,hj,rfl⟩:=List.getElem_of_mem hy
 have hlt:s<hi:=by omega
 have h9:=h.u s (by omega) (by omega)
 have q9:=hp1 s (by omega) (by omega)
 have e1:=gX (s-P.length) (by omega)
 have e2:=gY (p-s-(P.length+X.length)) (by omega)
 rw[show P.length+(s-P.length)=s by omega]at e1
 rw[show P.length+X.length+(p-s-(P.length+X.length))=p-s by omega]at e2
 rw[e1,e2]at h9
 have k1:=hX.get (d:=nM) (i:=s-P.length) (j:=A.length+i) (by omega) (by omega)
 have k2:=hY.get (d:=nM) (i:=j) (j:=p-s-(P.length+X.length)) (by omega) (by omega)
 have e3:X.getD (A.length+i) nM=B[i]:=by rw[hX2,lJ (by omega),show A.length+i-A.length=i by omega,List.getD_eq_getElem?_getD,List.getElem?_eq_getElem hi9];rfl
 have e4:Y.getD j nM=C[j]:=by rw[hY2,lS hj,List.getD_eq_getElem?_getD,List.getElem?_eq_getElem hj];rfl
 rw[e3]at k1
 rw[e4]at k2
 unfold aB at h9
 omega
end
theorem Pa (h1:P.length=a) (h2:a+S.length=b) (hk:k+n≤a∨b≤k):((P++(dC S++Q)).drop k).take n=((P++(S++Q)).drop k).take n:=by
 rcases hk with hk | hk
 ·rw[List.drop_append_of_le_length (by omega),List.take_append_of_le_length (by rw[List.length_drop];omega),List.drop_append_of_le_length (by omega),List.take_append_of_le_length (by rw[List.length_drop];omega)]
 have e1:∀Z:List Wv,Z.length=S.length→(P++(Z++Q)).drop k=Q.drop (k-b):=fun Z hZ=>by
  rw[List.drop_append,List.drop_of_length_le (by omega),List.drop_append,List.drop_of_length_le (by omega),List.nil_append,List.nil_append]
  congr 1
  omega
 rw[e1 _ gV,e1 _ rfl]
theorem OB (h1:P.length=a):((P++(S++Q)).drop a).take S.length=S:=by
 subst h1
 simp
theorem OC:Kp Wv.y (P++(dC S++Q)) (P++(S++Q)):=Kp.refl.app ((oH S).app .refl)
end
section
variable {l D P S Q U V M X Y xs A B C E:List Wv}{i j k t n a b c s m p lo hi r:Nat}{x y:Wv}{f:Nat→Prop}
structure Bis (f:Nat→Prop) (lo hi s r:Nat):Prop where
 b:lo≤s∧s≤r∧r≤hi
 l:∀c,lo≤c→c<s→f c
 u:∀c,r≤c→c<hi→¬f c
theorem Bis.start (h:lo≤hi):Bis f lo hi lo hi:=⟨by omega,fun c h1 h2=>by omega,fun c h1 h2=>by omega⟩
theorem Bis.up (h:Bis f lo hi s r) (hf:∀c d,lo≤c→c≤d→d<hi→f d→f c) (h1:s≤c) (h2:c<r) (hc:f c):Bis f lo hi (c+1) r:=by
 have hb:=h.b
 exact⟨by omega,fun d h3 h4=>hf d c h3 (by omega) (by omega) hc,h.u⟩
theorem Bis.dn (h:Bis f lo hi s r) (hf:∀c d,lo≤c→c≤d→d<hi→f d→f c) (h1:s≤c) (h2:c<r) (hc:¬f c):Bis f lo hi s c:=by
 have hb:=h.b
 exact⟨by omega,h.l,fun d h3 h4 hd=>hc (hf c d (by omega) h3 h4 hd)⟩
theorem RX (hD:D=P++(X++(Y++Q))) (hX:Srd Wv.y X) (ha:P.length=a) (hm:a+X.length=m):∀c d,a≤c→c≤d→d<m→(aB D c).y≤(aB D d).y:=by
 intro c d h1 h2 h3
 have e1:=mN (P:=P) (X:=X) (Y:=Y) (Q:=Q) (i:=c-P.length) (by omega) hD
 have e2:=mN (P:=P) (X:=X) (Y:=Y) (Q:=Q) (i:=d-P.length) (by omega) hD
 rw[show P.length+(c-P.length)=c by omega]at e1
 rw[show P.length+(d-P.length)=d by omega]at e2
 rw[e1,e2]
 exact hX.get (by omega) (by omega)
theorem RU (hD:D=P++(X++(Y++Q))) (hY:Srd Wv.y Y) (ha:P.length=a) (hm:a+X.length=m) (hb:m+Y.length=b):∀c d,m≤c→c≤d→d<b→(aB D c).y≤(aB D d).y:=by
 intro c d h1 h2 h3
 have e1:=mO (P:=P) (X:=X) (Y:=Y) (Q:=Q) (i:=c-m) (by omega) hD
 have e2:=mO (P:=P) (X:=X) (Y:=Y) (Q:=Q) (i:=d-m) (by omega) hD
 rw[show P.length+X.length+(c-m)=c by omega]at e1
 rw[show P.length+X.length+(d-m)=d by omega]at e2
 rw[e1,e2]
 exact hY.get (by omega) (by omega)
theorem RW (hx:xs=P++([x]++(Y++Q))) (ha:P.length=a) (hm:m=a+1) (hb:m+Y.length=b) (hY:Srd Wv.y Y) (h:Bis (fun c=>(aB xs c).y<(aB xs a).y) m b i j) (hj:j≤i) (hB:B1 P x Y Q (i-1) D):D=P++(dC (x::Y)++Q):=by
 subst hm
 have hb9:=h.b
 have ex:aB xs a=x:=by
  have:=mN (P:=P) (X:=[x]) (Y:=Y) (Q:=Q) (i:=0) (by simp) hx
  rw[ha]at this
  exact this
 have eY:∀c,c<Y.length→aB xs (a+1+c)=aB Y c:=fun c hc=>by
  have:=mO (P:=P) (X:=[x]) (Y:=Y) (Q:=Q) (i:=c) hc hx
  rw[ha]at this
  exact this
 refine hB.fin (by omega) (by omega) hY (fun c hc=>?_) fun c h1 h2=>?_
 ·have:=h.l (a+1+c) (by omega) (by omega)
  rw[ex,eY c (by omega)]at this
  exact this
 have:=h.u (a+1+c) (by omega) (by omega)
 rw[ex,eY c h2]at this
 omega
theorem RY (hx:xs=P++(X++([x]++Q))) (ha:P.length=a) (hm:a+X.length=m) (hX:Srd Wv.y X) (h:Bis (fun c=>¬(aB xs m).y<(aB xs c).y) a m i j) (hj:j≤i) (hB:B2 P X x Q i D):D=P++(dC (X++[x])++Q):=by
 have hb9:=h.b
 have ex:aB xs m=x:=by
  have:=mO (P:=P) (X:=X) (Y:=[x]) (Q:=Q) (i:=0) (by simp) hx
  rw[ha,hm]at this
  exact this
 have eX:∀c,c<X.length→aB xs (a+c)=aB X c:=fun c hc=>by
  have:=mN (P:=P) (X:=X) (Y:=[x]) (Q:=Q) (i:=c) hc hx
  rw[ha]at this
  exact this
 refine hB.fin hX (fun c hc=>?_) fun c h1 h2=>?_
 ·have:=h.l (a+c) (by omega) (by omega)
  rw[ex,eX c (by omega)]at this
  omega
 have:=h.u (a+c) (by omega) (by omega)
 rw[ex,eX c h2]at this
 omega
theorem JH (hx:xs=P++((A++B)++((C++E)++Q))) (h1:P.length+A.length=s) (h2:s+B.length=m) (h3:m+C.length=n):Ro m (m-s) (n-m) xs (P++(A++(C++(B++(E++Q))))):=⟨P++A,B,C,E++Q,by rw[hx];simp,by rw[List.length_append];omega,by omega,by omega,by simp⟩
theorem JI (hx:xs=P++((A++B)++((C++E)++Q))) (h:B.length=0∨C.length=0):xs=P++(A++(C++(B++(E++Q)))):=by
 rcases h with h | h
 ·rw[List.eq_nil_of_length_eq_zero h]at hx⊢
  rw[hx]
  simp
 rw[List.eq_nil_of_length_eq_zero h]at hx⊢
 rw[hx]
 simp
theorem Sl (hA:Srd Wv.y A) (hC:Srd Wv.y C) (h:A.length=0∨C.length=0):dC (A++C)=A++C:=by
 rcases h with h | h
 ·rw[List.eq_nil_of_length_eq_zero h,List.nil_append]
  exact Kt hC
 rw[List.eq_nil_of_length_eq_zero h,List.append_nil]
 exact Kt hA
theorem Xh:dC (S.take 1)=S.take 1:=by
 cases S with
 | nil=>rfl
 | cons x S=>rfl
def Blk9 (s t:Nat) (D:List Wv):Prop:=∀k,k<t→Srd Wv.y ((D.drop (k*s)).take s)
def All9 (s:Nat) (D:List Wv):Prop:=∀k,Srd Wv.y ((D.drop (k*s)).take s)
theorem Srd.take {l:List Wv}(h:Srd Wv.y l) (n:Nat):Srd Wv.y (l.take n):=List.Pairwise.sublist (List.take_sublist n l) h
theorem Blk9.out (h:Blk9 s t (P++(S++Q))) (hP:P.length=t*s):Blk9 s t (P++(dC S++Q)):=by
 intro k hk
 have h1:(k+1)*s≤t*s:=Nat.mul_le_mul_right s hk
 rw[Nat.succ_mul]at h1
 rw[Pa (a:=t*s) (b:=t*s+S.length) hP rfl (.inl h1)]
 exact h k hk
theorem Blk9.step (h:Blk9 s t (P++(S++Q))) (hP:P.length=t*s) (hS:S.length=s):Blk9 s (t+1) (P++(dC S++Q)):=by
 intro k hk
 rcases Nat.lt_succ_iff_lt_or_eq.1 hk with hk | rfl
 ·exact h.out hP k hk
 have:=OB (P:=P) (S:=dC S) (Q:=Q) (a:=k*s) hP
 rw[gV,hS]at this
 rw[this]
 exact nL _
theorem Blk9.all (h:Blk9 s t (P++(S++[]))) (hP:P.length=t*s) (hS:S.length≤s):All9 s (P++(dC S++[])):=by
 intro k
 rcases Nat.lt_trichotomy k t with hk | rfl | hk
 ·exact h.out hP k hk
 ·rw[List.append_nil,←hP,List.drop_append_of_le_length (Nat.le_refl _),List.drop_length,List.nil_append]
  exact(nL _).take _
 have h1:(t+1)*s≤k*s:=Nat.mul_le_mul_right s hk
 rw[Nat.succ_mul]at h1
 rw[List.drop_of_length_le (by rw[List.append_nil,List.length_append,gV];omega),List.take_nil]
 exact List.Pairwise.nil
structure Mg9 (s t:Nat) (D:List Wv):Prop where
 l:Blk9 (2*s) t D
 u:∀k,2*t≤k→Srd Wv.y ((D.drop (k*s)).take s)
theorem Mg9.start (h:All9 s D):Mg9 s 0 D:=⟨fun k hk=>by omega,fun k _=>h k⟩
theorem uN:2*t*s=t*(2*s):=by rw[Nat.mul_comm 2 t,Nat.mul_assoc]
theorem Mg9.px (h:Mg9 s t (P++(X++(Y++Q)))) (hP:P.length=t*(2*s)) (hX:X.length=s):Srd Wv.y X:=by
 have h1:=h.u (2*t) (Nat.le_refl _)
 rw[uN,←hP,List.drop_append_of_le_length (Nat.le_refl _),List.drop_length,List.nil_append,←hX,List.take_append_of_le_length (Nat.le_refl _),List.take_length]at h1
 exact h1
theorem Mg9.py (h:Mg9 s t (P++(X++(Y++Q)))) (hP:P.length=t*(2*s)) (hX:X.length=s) (hY:Y.length≤s) (hQ:Y.length=s∨Q=[]):Srd Wv.y Y:=by
 have h1:=h.u (2*t+1) (by omega)
 rw[Nat.succ_mul,uN,←hP]at h1
 rw[←List.append_assoc,List.drop_append_of_le_length (by rw[List.length_append];omega),←hX,←List.length_append,List.drop_length,List.nil_append]at h1
 rcases hQ with hQ | rfl
 ·rw[hX,←hQ,List.take_append_of_le_length (Nat.le_refl _),List.take_length]at h1
  exact h1
 rw[List.append_nil,List.take_of_length_le (by omega)]at h1
 exact h1
theorem Mg9.step (h:Mg9 s t (P++(S++Q))) (hP:P.length=t*(2*s)) (hS:S.length=2*s):Mg9 s (t+1) (P++(dC S++Q)):=by
 refine⟨h.l.step hP hS,fun k hk=>?_⟩
 have h1:(2*(t+1))*s≤k*s:=Nat.mul_le_mul_right s hk
 rw[uN,Nat.succ_mul]at h1
 rw[Pa (a:=t*(2*s)) (b:=t*(2*s)+S.length) hP rfl (.inr (by omega))]
 exact h.u k (by omega)
theorem Mg9.all2 (h:Mg9 s t D) (hD:D.length≤t*(2*s)+s):All9 (2*s) D:=by
 intro k
 rcases Nat.lt_or_ge k t with hk | hk
 ·exact h.l k hk
 have h1:t*(2*s)≤k*(2*s):=Nat.mul_le_mul_right _ hk
 have h2:=h.u (2*k) (by omega)
 rw[uN]at h2
 rw[List.take_of_length_le (by rw[List.length_drop];omega)]at h2⊢
 exact h2
theorem All9.fin (h:All9 s D) (hs:D.length≤s) (hk:Kp Wv.y D xs):dC xs=D:=by
 have h1:=h 0
 rw[Nat.zero_mul,List.drop_zero,List.take_of_length_le hs]at h1
 exact qM h1 hk
theorem Pq (h:Kp Wv.y (P++(S++Q)) xs):Kp Wv.y (P++(dC S++Q)) xs:=OC.trans h
end
end Go.Proofs.YtbbabfkgdnkehaaGreat
