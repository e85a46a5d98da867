/- Part 8 of a proof: G2 to Vd. -/
import Derived.Test.YtbbabfkgdnkehaaGreatM7
import Derived.Test.YtbbabfkgdnkehaaGreatM6
import Derived.Test.YtbbabfkgdnkehaaGreatM5
import Derived.Test.YtbbabfkgdnkehaaGreatM4
set_option maxRecDepth 100000
set_option linter.unusedVariables false
set_option linter.unusedSimpArgs false
namespace Go.Proofs.YtbbabfkgdnkehaaGreat
open Go Go.RowKit
theorem Gb {a b:Zi}{k k':Int}(ha:Zg a k) (hb:Zg b k'):aD true Tryz.prog 48 [] [gF a,gF b] (aN (kO (k*k'))):=by
 refine cB Tryz.func48 rfl Tryz.ntmps48 rfl aA rfl fun N w c0 h0=>?_
 have hkl:=ha.len
 have hkl':=hb.len
 refine sq ?_;refine rl ?_;refine bx 0 ?_;refine bx 1 ?_;refine al 2 ?_;refine nl ?_
 refine md (γ:=Unit) (fun _=>cC [(4,.one (.pt 0 0)),(5,.one (.pt 1 0)),(6,.one (.pt 2 0))]) (fun _=>([⟨46,0,[tv (.bool false),tv (.slice none 0 0)]⟩,⟨147,0,[tv (.bool (aH k)),.t (sU false (dg 4294967296 k.natAbs))]⟩,⟨147,0,[tv (.bool (aH k')),.t (sU false (dg 4294967296 k'.natAbs))]⟩]:List Ob).map some) (fun _=>True) ?_ fun _ _=>?_
 ·refine rd [0,1,2] (fun i=>[7].contains i) mixed ?_
  refine aL 0 ?_;refine aL 2 ?_;refine WO.three (i:=1) (j:=4) (m:=5) (by kernel_rfl) ?_ ?_ ?_
  ·refine fA 1 rfl (dY ha) dX ⟨aE rfl,rfl⟩ (kF (k)) ?_;refine WO.three (i:=3) (j:=4) (m:=5) (by kernel_rfl) ?_ ?_ ?_
   ·refine fA 3 rfl (dY hb) dX ⟨aE rfl,rfl⟩ (kF (k')) ?_;refine WO.two (i:=4) (j:=5) (by kernel_rfl) ?_ ?_
    ·refine cP (key:=3) 4 rfl rfl aA rfl ⟨rfl,rfl,rfl,trivial⟩ ?_;refine gL (key:=4) 5 (by kernel_rfl) rfl rfl aA rfl ⟨rfl,rfl,rfl,trivial⟩ ?_
     refine bY 6 (by kernel_rfl) rfl rfl aA rfl rfl rfl rfl ⟨rfl,rfl,rfl,trivial⟩ ?_
     refine dst 7 ?_;refine aQ ?_;exact⟨(),trivial,aP h0 [2,3,4] _ _ (by decide) ⟨rfl,rfl,rfl,trivial⟩ ⟨oe rfl rfl,oe rfl rfl,oe rfl rfl,rfl⟩⟩
    refine cP (key:=3) 5 rfl rfl aA rfl ⟨rfl,rfl,rfl,trivial⟩ ?_;refine gL (key:=4) 4 (by kernel_rfl) rfl rfl aA rfl ⟨rfl,rfl,rfl,trivial⟩ ?_
    refine bY 6 (by kernel_rfl) rfl rfl aA rfl rfl rfl rfl ⟨rfl,rfl,rfl,trivial⟩ ?_
    refine dst 7 ?_;refine aQ ?_;exact⟨(),trivial,aP h0 [2,4,3] _ _ (by decide) ⟨rfl,rfl,rfl,trivial⟩ ⟨oe rfl rfl,oe rfl rfl,oe rfl rfl,rfl⟩⟩
   ·refine cP (key:=3) 4 rfl rfl aA rfl ⟨rfl,rfl,rfl,trivial⟩ ?_;refine WO.two (i:=3) (j:=5) (by kernel_rfl) ?_ ?_
    ·refine fA 3 rfl (dY hb) dX ⟨aE rfl,rfl⟩ (kF (k')) ?_;refine gL (key:=4) 5 (by kernel_rfl) rfl rfl aA rfl ⟨rfl,rfl,rfl,trivial⟩ ?_
     refine bY 6 (by kernel_rfl) rfl rfl aA rfl rfl rfl rfl ⟨rfl,rfl,rfl,trivial⟩ ?_
     refine dst 7 ?_;refine aQ ?_;exact⟨(),trivial,aP h0 [2,3,4] _ _ (by decide) ⟨rfl,rfl,rfl,trivial⟩ ⟨oe rfl rfl,oe rfl rfl,oe rfl rfl,rfl⟩⟩
    refine cP (key:=4) 5 rfl rfl aA rfl ⟨rfl,rfl,rfl,trivial⟩ ?_;refine aR 3 rfl (dY hb) dX ⟨aE rfl,rfl⟩ (kF (k')) ?_
    refine bY 6 (by kernel_rfl) rfl rfl aA rfl rfl rfl rfl ⟨rfl,rfl,rfl,trivial⟩ ?_
    refine dst 7 ?_;refine aQ ?_;exact⟨(),trivial,aP h0 [2,3,4] _ _ (by decide) ⟨rfl,rfl,rfl,trivial⟩ ⟨oe rfl rfl,oe rfl rfl,oe rfl rfl,rfl⟩⟩
   refine cP (key:=3) 5 rfl rfl aA rfl ⟨rfl,rfl,rfl,trivial⟩ ?_;refine WO.two (i:=3) (j:=4) (by kernel_rfl) ?_ ?_
   ·refine fA 3 rfl (dY hb) dX ⟨aE rfl,rfl⟩ (kF (k')) ?_;refine gL (key:=4) 4 (by kernel_rfl) rfl rfl aA rfl ⟨rfl,rfl,rfl,trivial⟩ ?_
    refine bY 6 (by kernel_rfl) rfl rfl aA rfl rfl rfl rfl ⟨rfl,rfl,rfl,trivial⟩ ?_
    refine dst 7 ?_;refine aQ ?_;exact⟨(),trivial,aP h0 [2,4,3] _ _ (by decide) ⟨rfl,rfl,rfl,trivial⟩ ⟨oe rfl rfl,oe rfl rfl,oe rfl rfl,rfl⟩⟩
   refine cP (key:=4) 4 rfl rfl aA rfl ⟨rfl,rfl,rfl,trivial⟩ ?_;refine aR 3 rfl (dY hb) dX ⟨aE rfl,rfl⟩ (kF (k')) ?_
   refine bY 6 (by kernel_rfl) rfl rfl aA rfl rfl rfl rfl ⟨rfl,rfl,rfl,trivial⟩ ?_
   refine dst 7 ?_;refine aQ ?_;exact⟨(),trivial,aP h0 [2,4,3] _ _ (by decide) ⟨rfl,rfl,rfl,trivial⟩ ⟨oe rfl rfl,oe rfl rfl,oe rfl rfl,rfl⟩⟩
  ·refine cP (key:=3) 4 rfl rfl aA rfl ⟨rfl,rfl,rfl,trivial⟩ ?_;refine WO.two (i:=1) (j:=5) (by kernel_rfl) ?_ ?_
   ·refine fA 1 rfl (dY ha) dX ⟨aE rfl,rfl⟩ (kF (k)) ?_;refine WO.two (i:=3) (j:=5) (by kernel_rfl) ?_ ?_
    ·refine fA 3 rfl (dY hb) dX ⟨aE rfl,rfl⟩ (kF (k')) ?_;refine gL (key:=4) 5 (by kernel_rfl) rfl rfl aA rfl ⟨rfl,rfl,rfl,trivial⟩ ?_
     refine bY 6 (by kernel_rfl) rfl rfl aA rfl rfl rfl rfl ⟨rfl,rfl,rfl,trivial⟩ ?_
     refine dst 7 ?_;refine aQ ?_;exact⟨(),trivial,aP h0 [2,3,4] _ _ (by decide) ⟨rfl,rfl,rfl,trivial⟩ ⟨oe rfl rfl,oe rfl rfl,oe rfl rfl,rfl⟩⟩
    refine cP (key:=4) 5 rfl rfl aA rfl ⟨rfl,rfl,rfl,trivial⟩ ?_;refine aR 3 rfl (dY hb) dX ⟨aE rfl,rfl⟩ (kF (k')) ?_
    refine bY 6 (by kernel_rfl) rfl rfl aA rfl rfl rfl rfl ⟨rfl,rfl,rfl,trivial⟩ ?_
    refine dst 7 ?_;refine aQ ?_;exact⟨(),trivial,aP h0 [2,3,4] _ _ (by decide) ⟨rfl,rfl,rfl,trivial⟩ ⟨oe rfl rfl,oe rfl rfl,oe rfl rfl,rfl⟩⟩
   refine cP (key:=4) 5 rfl rfl aA rfl ⟨rfl,rfl,rfl,trivial⟩ ?_;refine aR 1 rfl (dY ha) dX ⟨aE rfl,rfl⟩ (kF (k)) ?_;refine aR 3 rfl (dY hb) dX ⟨aE rfl,rfl⟩ (kF (k')) ?_
   refine bY 6 (by kernel_rfl) rfl rfl aA rfl rfl rfl rfl ⟨rfl,rfl,rfl,trivial⟩ ?_
   refine dst 7 ?_;refine aQ ?_;exact⟨(),trivial,aP h0 [2,3,4] _ _ (by decide) ⟨rfl,rfl,rfl,trivial⟩ ⟨oe rfl rfl,oe rfl rfl,oe rfl rfl,rfl⟩⟩
  refine cP (key:=3) 5 rfl rfl aA rfl ⟨rfl,rfl,rfl,trivial⟩ ?_;refine WO.two (i:=1) (j:=4) (by kernel_rfl) ?_ ?_
  ·refine fA 1 rfl (dY ha) dX ⟨aE rfl,rfl⟩ (kF (k)) ?_;refine WO.two (i:=3) (j:=4) (by kernel_rfl) ?_ ?_
   ·refine fA 3 rfl (dY hb) dX ⟨aE rfl,rfl⟩ (kF (k')) ?_;refine gL (key:=4) 4 (by kernel_rfl) rfl rfl aA rfl ⟨rfl,rfl,rfl,trivial⟩ ?_
    refine bY 6 (by kernel_rfl) rfl rfl aA rfl rfl rfl rfl ⟨rfl,rfl,rfl,trivial⟩ ?_
    refine dst 7 ?_;refine aQ ?_;exact⟨(),trivial,aP h0 [2,4,3] _ _ (by decide) ⟨rfl,rfl,rfl,trivial⟩ ⟨oe rfl rfl,oe rfl rfl,oe rfl rfl,rfl⟩⟩
   refine cP (key:=4) 4 rfl rfl aA rfl ⟨rfl,rfl,rfl,trivial⟩ ?_;refine aR 3 rfl (dY hb) dX ⟨aE rfl,rfl⟩ (kF (k')) ?_
   refine bY 6 (by kernel_rfl) rfl rfl aA rfl rfl rfl rfl ⟨rfl,rfl,rfl,trivial⟩ ?_
   refine dst 7 ?_;refine aQ ?_;exact⟨(),trivial,aP h0 [2,4,3] _ _ (by decide) ⟨rfl,rfl,rfl,trivial⟩ ⟨oe rfl rfl,oe rfl rfl,oe rfl rfl,rfl⟩⟩
  refine cP (key:=4) 4 rfl rfl aA rfl ⟨rfl,rfl,rfl,trivial⟩ ?_;refine aR 1 rfl (dY ha) dX ⟨aE rfl,rfl⟩ (kF (k)) ?_;refine aR 3 rfl (dY hb) dX ⟨aE rfl,rfl⟩ (kF (k')) ?_
  refine bY 6 (by kernel_rfl) rfl rfl aA rfl rfl rfl rfl ⟨rfl,rfl,rfl,trivial⟩ ?_
  refine dst 7 ?_;refine aQ ?_;exact⟨(),trivial,aP h0 [2,4,3] _ _ (by decide) ⟨rfl,rfl,rfl,trivial⟩ ⟨oe rfl rfl,oe rfl rfl,oe rfl rfl,rfl⟩⟩
 refine sq ?_;refine rd [0,1,2] (fun i=>[15].contains i) mixed ?_
 refine dv 0 ?_;refine dv 1 ?_;refine aL 2 ?_;refine dv 3 ?_;refine dv 4 ?_;refine aL 5 ?_;refine dv 6 ?_;refine dv 7 ?_;refine dv 8 ?_;refine aL 9 ?_;refine dv 10 ?_;refine dv 11 ?_
 refine aL 12 ?_
 have hA:aD true Tryz.prog 84 [] [.one (.t (sU false (dg 4294967296 k.natAbs))),.one (.t (sU false (dg 4294967296 k'.natAbs)))] (aN (.one (.t (sU true (dg 4294967296 (k.natAbs*k'.natAbs)))))):=by have h9:=RP (aM (by omega) k.natAbs) (aM (by omega) k'.natAbs) (by omega) (by omega);rwa[bJ,bJ]at h9
 refine lX 3 13 rfl hA UW ⟨a1 rfl,a1 rfl,rfl⟩ ?_
 refine Bp 14 4 [3] rfl (iB (b:=(aH k != aH k')) (m:=(k.natAbs*k'.natAbs)) (K:=k*k') (GX k k')) oO ⟨aI rfl,rfl⟩ ⟨rfl,rfl,rfl⟩ ⟨rfl,rfl,rfl,trivial⟩ ?_
 refine dst 15 ?_;refine aQ ?_;refine rt ?_
 exact en (.inl rfl) rfl (aZ (.agg (.cons (.id rfl) (.cons (.sl (trs:=aX (dg 4294967296 ((k*k')).natAbs)) rfl rfl (bV _) (bR _)) .nil)))) (by decide) (fun _=>eR ((k*k'))) rfl
theorem DH {a b:Zi}{k k':Int}(ha:Zg a k) (hb:Zg b k'):aD true Tryz.prog 97 [] [gF a,gF b] (aN (kO (((Int.gcd k k'):Nat):Int))):=by
 refine cB Tryz.func97 rfl Tryz.ntmps97 rfl aA rfl fun N w c0 h0=>?_
 have hkl:=ha.len
 have hkl':=hb.len
 refine sq ?_;refine rl ?_;refine bx 0 ?_;refine bx 1 ?_;refine al 2 ?_;refine nl ?_;refine sq ?_;refine rd [0,1,2] (fun i=>[11].contains i) mixed ?_
 refine aL 0 ?_;refine aL 4 ?_;refine aR 1 rfl (dY ha) dX ⟨aE rfl,rfl⟩ (kF (k)) ?_;refine df 2 ?_;refine df 3 ?_;refine aR 5 rfl (dY hb) dX ⟨aE rfl,rfl⟩ (kF (k')) ?_
 refine df 6 ?_;refine df 7 ?_;refine kT (key:=3) 8 (by kernel_rfl) rfl rfl aA rfl ⟨rfl,rfl,rfl,trivial⟩ ?_
 refine yE (i:=13) (k:=3) (t:=44) (t':=44) (z:=1) (n:=2) (l:=[sU false (dg 4294967296 k.natAbs),sU false (dg 4294967296 k'.natAbs)]) rfl rfl rfl rfl (.one .sl) (by rfl) (by rfl) ?_
 have hA:aD true Tryz.prog 123 [] [.one (.t (.s false 44 1 2 [sU false (dg 4294967296 k.natAbs),sU false (dg 4294967296 k'.natAbs)]))] (aN (.one (.t (sU true (dg 4294967296 (Int.gcd k k')))))):=by
  have h9:=RQ (t:=44) (aM (by omega) k.natAbs) (aM (by omega) k'.natAbs) (by omega) (by omega)
  rwa[show qL [dg 4294967296 k.natAbs,dg 4294967296 k'.natAbs]=(Int.gcd k k') by simp only[qL,List.foldl_cons,List.foldl_nil,bJ,Nat.gcd_zero_left];rfl]at h9
 refine lX 4 9 rfl hA RF ⟨a1 rfl,rfl⟩ ?_
 refine Bp 10 5 [4] rfl (iB (b:=false) (m:=(Int.gcd k k')) (K:=(((Int.gcd k k'):Nat):Int)) (by simp[bO])) oO ⟨aI rfl,rfl⟩ ⟨rfl,rfl,rfl⟩ ⟨rfl,rfl,rfl,trivial⟩ ?_
 refine dst 11 ?_;refine aQ ?_;refine rt ?_
 exact en (.inl rfl) rfl (aZ (.agg (.cons (.id rfl) (.cons (.sl (trs:=aX (dg 4294967296 ((((Int.gcd k k'):Nat):Int)).natAbs)) rfl rfl (bV _) (bR _)) .nil)))) (by decide) (fun _=>eR ((((Int.gcd k k'):Nat):Int))) rfl
theorem Vx (xs:List Nat):((aX xs).map AV.t).take (aX xs).length=(aX xs).map .t:=List.take_of_length_le (by simp)
theorem uR {a b:Zi}{k k':Int}(ha:Zg a k) (hb:Zg b k') (hz0:k'≠0):aD true Tryz.prog 120 [] [gF a,gF b] (aN (.tup [kO (k.fdiv k'),kO (k.fmod k'),.one (tv (.int .i64 0))])):=by
 refine cB Tryz.func120 rfl Tryz.ntmps120 rfl aA rfl fun N w c0 h0=>?_
 have hkl:=ha.len
 have hkl':=hb.len
 have hq:(dg 4294967296 (k.natAbs/k'.natAbs)).length≤300000000000:=Nat.le_trans (iL (Nat.div_le_self _ _)) hkl
 have hr0:=Nat.mod_lt k.natAbs (show 0<k'.natAbs by omega)
 have hrl:(dg 4294967296 (k.natAbs%k'.natAbs)).length≤300000000000:=Nat.le_trans (iL (Nat.le_of_lt hr0)) hkl'
 refine sq ?_;refine rl ?_;refine bx 0 ?_;refine bx 1 ?_;refine al 2 ?_;refine al 3 ?_;refine o1 ?_;refine nl ?_
 refine md (γ:=Unit) (fun _=>cC [(4,.one (.pt 0 0)),(5,.one (.pt 1 0)),(6,.one (tv (.int .i64 ((0:Nat):Int)))),(7,.one (.pt 2 0)),(8,.one (.pt 3 0))]) (fun _=>([⟨46,0,[tv (.bool false),tv (.slice none 0 0)]⟩,⟨46,0,[tv (.bool false),tv (.slice none 0 0)]⟩,⟨147,0,[tv (.bool (aH k)),.t (sU false (dg 4294967296 k.natAbs))]⟩,⟨147,0,[tv (.bool (aH k')),.t (sU false (dg 4294967296 k'.natAbs))]⟩]:List Ob).map some) (fun _=>True) ?_ fun _ _=>?_
 ·refine rd [0,1,2,3] (fun i=>[7].contains i) mixed ?_
  refine aL 0 ?_;refine aL 2 ?_;refine WO.three (i:=1) (j:=4) (m:=5) (by kernel_rfl) ?_ ?_ ?_
  ·refine fA 1 rfl (dY ha) dX ⟨aE rfl,rfl⟩ (kF (k)) ?_;refine WO.three (i:=3) (j:=4) (m:=5) (by kernel_rfl) ?_ ?_ ?_
   ·refine fA 3 rfl (dY hb) dX ⟨aE rfl,rfl⟩ (kF (k')) ?_;refine WO.two (i:=4) (j:=5) (by kernel_rfl) ?_ ?_
    ·refine cP (key:=4) 4 rfl rfl aA rfl ⟨rfl,rfl,rfl,rfl,trivial⟩ ?_;refine gL (key:=5) 5 (by kernel_rfl) rfl rfl aA rfl ⟨rfl,rfl,rfl,rfl,trivial⟩ ?_
     refine bY 6 (by kernel_rfl) rfl rfl aA rfl rfl rfl rfl ⟨rfl,rfl,rfl,rfl,trivial⟩ ?_
     refine dst 7 ?_;refine aQ ?_;exact⟨(),trivial,aP h0 [2,3,4,5] _ _ (by decide) ⟨rfl,rfl,rfl,rfl,rfl,trivial⟩ ⟨oe rfl rfl,oe rfl rfl,oe rfl rfl,oe rfl rfl,rfl⟩⟩
    refine cP (key:=4) 5 rfl rfl aA rfl ⟨rfl,rfl,rfl,rfl,trivial⟩ ?_;refine gL (key:=5) 4 (by kernel_rfl) rfl rfl aA rfl ⟨rfl,rfl,rfl,rfl,trivial⟩ ?_
    refine bY 6 (by kernel_rfl) rfl rfl aA rfl rfl rfl rfl ⟨rfl,rfl,rfl,rfl,trivial⟩ ?_
    refine dst 7 ?_;refine aQ ?_;exact⟨(),trivial,aP h0 [2,3,5,4] _ _ (by decide) ⟨rfl,rfl,rfl,rfl,rfl,trivial⟩ ⟨oe rfl rfl,oe rfl rfl,oe rfl rfl,oe rfl rfl,rfl⟩⟩
   ·refine cP (key:=4) 4 rfl rfl aA rfl ⟨rfl,rfl,rfl,rfl,trivial⟩ ?_;refine WO.two (i:=3) (j:=5) (by kernel_rfl) ?_ ?_
    ·refine fA 3 rfl (dY hb) dX ⟨aE rfl,rfl⟩ (kF (k')) ?_;refine gL (key:=5) 5 (by kernel_rfl) rfl rfl aA rfl ⟨rfl,rfl,rfl,rfl,trivial⟩ ?_
     refine bY 6 (by kernel_rfl) rfl rfl aA rfl rfl rfl rfl ⟨rfl,rfl,rfl,rfl,trivial⟩ ?_
     refine dst 7 ?_;refine aQ ?_;exact⟨(),trivial,aP h0 [2,3,4,5] _ _ (by decide) ⟨rfl,rfl,rfl,rfl,rfl,trivial⟩ ⟨oe rfl rfl,oe rfl rfl,oe rfl rfl,oe rfl rfl,rfl⟩⟩
    refine cP (key:=5) 5 rfl rfl aA rfl ⟨rfl,rfl,rfl,rfl,trivial⟩ ?_;refine aR 3 rfl (dY hb) dX ⟨aE rfl,rfl⟩ (kF (k')) ?_
    refine bY 6 (by kernel_rfl) rfl rfl aA rfl rfl rfl rfl ⟨rfl,rfl,rfl,rfl,trivial⟩ ?_
    refine dst 7 ?_;refine aQ ?_;exact⟨(),trivial,aP h0 [2,3,4,5] _ _ (by decide) ⟨rfl,rfl,rfl,rfl,rfl,trivial⟩ ⟨oe rfl rfl,oe rfl rfl,oe rfl rfl,oe rfl rfl,rfl⟩⟩
   refine cP (key:=4) 5 rfl rfl aA rfl ⟨rfl,rfl,rfl,rfl,trivial⟩ ?_;refine WO.two (i:=3) (j:=4) (by kernel_rfl) ?_ ?_
   ·refine fA 3 rfl (dY hb) dX ⟨aE rfl,rfl⟩ (kF (k')) ?_;refine gL (key:=5) 4 (by kernel_rfl) rfl rfl aA rfl ⟨rfl,rfl,rfl,rfl,trivial⟩ ?_
    refine bY 6 (by kernel_rfl) rfl rfl aA rfl rfl rfl rfl ⟨rfl,rfl,rfl,rfl,trivial⟩ ?_
    refine dst 7 ?_;refine aQ ?_;exact⟨(),trivial,aP h0 [2,3,5,4] _ _ (by decide) ⟨rfl,rfl,rfl,rfl,rfl,trivial⟩ ⟨oe rfl rfl,oe rfl rfl,oe rfl rfl,oe rfl rfl,rfl⟩⟩
   refine cP (key:=5) 4 rfl rfl aA rfl ⟨rfl,rfl,rfl,rfl,trivial⟩ ?_;refine aR 3 rfl (dY hb) dX ⟨aE rfl,rfl⟩ (kF (k')) ?_
   refine bY 6 (by kernel_rfl) rfl rfl aA rfl rfl rfl rfl ⟨rfl,rfl,rfl,rfl,trivial⟩ ?_
   refine dst 7 ?_;refine aQ ?_;exact⟨(),trivial,aP h0 [2,3,5,4] _ _ (by decide) ⟨rfl,rfl,rfl,rfl,rfl,trivial⟩ ⟨oe rfl rfl,oe rfl rfl,oe rfl rfl,oe rfl rfl,rfl⟩⟩
  ·refine cP (key:=4) 4 rfl rfl aA rfl ⟨rfl,rfl,rfl,rfl,trivial⟩ ?_;refine WO.two (i:=1) (j:=5) (by kernel_rfl) ?_ ?_
   ·refine fA 1 rfl (dY ha) dX ⟨aE rfl,rfl⟩ (kF (k)) ?_;refine WO.two (i:=3) (j:=5) (by kernel_rfl) ?_ ?_
    ·refine fA 3 rfl (dY hb) dX ⟨aE rfl,rfl⟩ (kF (k')) ?_;refine gL (key:=5) 5 (by kernel_rfl) rfl rfl aA rfl ⟨rfl,rfl,rfl,rfl,trivial⟩ ?_
     refine bY 6 (by kernel_rfl) rfl rfl aA rfl rfl rfl rfl ⟨rfl,rfl,rfl,rfl,trivial⟩ ?_
     refine dst 7 ?_;refine aQ ?_;exact⟨(),trivial,aP h0 [2,3,4,5] _ _ (by decide) ⟨rfl,rfl,rfl,rfl,rfl,trivial⟩ ⟨oe rfl rfl,oe rfl rfl,oe rfl rfl,oe rfl rfl,rfl⟩⟩
    refine cP (key:=5) 5 rfl rfl aA rfl ⟨rfl,rfl,rfl,rfl,trivial⟩ ?_;refine aR 3 rfl (dY hb) dX ⟨aE rfl,rfl⟩ (kF (k')) ?_
    refine bY 6 (by kernel_rfl) rfl rfl aA rfl rfl rfl rfl ⟨rfl,rfl,rfl,rfl,trivial⟩ ?_
    refine dst 7 ?_;refine aQ ?_;exact⟨(),trivial,aP h0 [2,3,4,5] _ _ (by decide) ⟨rfl,rfl,rfl,rfl,rfl,trivial⟩ ⟨oe rfl rfl,oe rfl rfl,oe rfl rfl,oe rfl rfl,rfl⟩⟩
   refine cP (key:=5) 5 rfl rfl aA rfl ⟨rfl,rfl,rfl,rfl,trivial⟩ ?_;refine aR 1 rfl (dY ha) dX ⟨aE rfl,rfl⟩ (kF (k)) ?_
   refine aR 3 rfl (dY hb) dX ⟨aE rfl,rfl⟩ (kF (k')) ?_;refine bY 6 (by kernel_rfl) rfl rfl aA rfl rfl rfl rfl ⟨rfl,rfl,rfl,rfl,trivial⟩ ?_
   refine dst 7 ?_;refine aQ ?_;exact⟨(),trivial,aP h0 [2,3,4,5] _ _ (by decide) ⟨rfl,rfl,rfl,rfl,rfl,trivial⟩ ⟨oe rfl rfl,oe rfl rfl,oe rfl rfl,oe rfl rfl,rfl⟩⟩
  refine cP (key:=4) 5 rfl rfl aA rfl ⟨rfl,rfl,rfl,rfl,trivial⟩ ?_;refine WO.two (i:=1) (j:=4) (by kernel_rfl) ?_ ?_
  ·refine fA 1 rfl (dY ha) dX ⟨aE rfl,rfl⟩ (kF (k)) ?_;refine WO.two (i:=3) (j:=4) (by kernel_rfl) ?_ ?_
   ·refine fA 3 rfl (dY hb) dX ⟨aE rfl,rfl⟩ (kF (k')) ?_;refine gL (key:=5) 4 (by kernel_rfl) rfl rfl aA rfl ⟨rfl,rfl,rfl,rfl,trivial⟩ ?_
    refine bY 6 (by kernel_rfl) rfl rfl aA rfl rfl rfl rfl ⟨rfl,rfl,rfl,rfl,trivial⟩ ?_
    refine dst 7 ?_;refine aQ ?_;exact⟨(),trivial,aP h0 [2,3,5,4] _ _ (by decide) ⟨rfl,rfl,rfl,rfl,rfl,trivial⟩ ⟨oe rfl rfl,oe rfl rfl,oe rfl rfl,oe rfl rfl,rfl⟩⟩
   refine cP (key:=5) 4 rfl rfl aA rfl ⟨rfl,rfl,rfl,rfl,trivial⟩ ?_;refine aR 3 rfl (dY hb) dX ⟨aE rfl,rfl⟩ (kF (k')) ?_
   refine bY 6 (by kernel_rfl) rfl rfl aA rfl rfl rfl rfl ⟨rfl,rfl,rfl,rfl,trivial⟩ ?_
   refine dst 7 ?_;refine aQ ?_;exact⟨(),trivial,aP h0 [2,3,5,4] _ _ (by decide) ⟨rfl,rfl,rfl,rfl,rfl,trivial⟩ ⟨oe rfl rfl,oe rfl rfl,oe rfl rfl,oe rfl rfl,rfl⟩⟩
  refine cP (key:=5) 4 rfl rfl aA rfl ⟨rfl,rfl,rfl,rfl,trivial⟩ ?_;refine aR 1 rfl (dY ha) dX ⟨aE rfl,rfl⟩ (kF (k)) ?_
  refine aR 3 rfl (dY hb) dX ⟨aE rfl,rfl⟩ (kF (k')) ?_;refine bY 6 (by kernel_rfl) rfl rfl aA rfl rfl rfl rfl ⟨rfl,rfl,rfl,rfl,trivial⟩ ?_
  refine dst 7 ?_;refine aQ ?_;exact⟨(),trivial,aP h0 [2,3,5,4] _ _ (by decide) ⟨rfl,rfl,rfl,rfl,rfl,trivial⟩ ⟨oe rfl rfl,oe rfl rfl,oe rfl rfl,oe rfl rfl,rfl⟩⟩
 refine sq ?_;refine rl ?_;refine o1 ?_;refine o1 ?_;refine ld ?_;refine o1 ?_;refine o1 ?_;refine ld ?_
 have hD:aD true Tryz.prog 142 [] [.one (.t (sU false (dg 4294967296 k.natAbs))),.one (.t (sU false (dg 4294967296 k'.natAbs)))] (aN (.tup [.one (.t (sU true (dg 4294967296 (k.natAbs/k'.natAbs)))),.one (.t (sU true (dg 4294967296 (k.natAbs%k'.natAbs)))),.one (tv (.int .i64 0))])):=by
  have h9:=AU (aM (by omega) k.natAbs) (aM (by omega) k'.natAbs) (by omega) (by omega) (by rw[bJ];omega)
  rwa[bJ,bJ]at h9
 refine jD 4 hD RI ⟨a1 rfl,a1 rfl,rfl⟩ ?_;(iterate 7 refine o1 ?_);refine nl ?_;refine sq ?_;refine sq ?_;refine rl ?_;refine o1 ?_;refine o1 ?_;refine nl ?_
 refine bN rfl (fun h1=>?_) (fun h1=>?_)
 ·exact absurd rfl h1
 refine sk ?_;refine sq ?_;refine sq ?_;refine rl ?_;refine o1 ?_;refine o1 ?_;refine ld ?_;refine o1 ?_;refine o1 ?_;refine ld ?_;refine o1 ?_;refine o1 ?_
 refine WL.splitb (t:=37) rfl (fun h2=>?_) (fun h2=>?_)
 ·(iterate 4 refine o1 ?_);refine nl ?_;refine bN rfl (fun h3=>?_) (fun h3=>?_)
  ·refine sq ?_;refine rl ?_;refine o1 ?_;refine bs 6 ?_
   have hA:aD true Tryz.prog 139 [] [.one (.t (sU false (dg 4294967296 (k.natAbs/k'.natAbs)))),.one (.t (sU false [1]))] (aN (.one (.t (sU true (dg 4294967296 ((k.natAbs/k'.natAbs)+1)))))):=by
    have h9:=DD (aM (by omega) (k.natAbs/k'.natAbs)) (Lim.cons (show 1<4294967296 by omega) Lim.nil) (by omega) (by simp)
    rwa[cE (by omega),show vl 4294967296 [1]=1 from rfl]at h9
   refine jD 7 hA CS ⟨uV rfl (.sl rfl rfl (Vx _) (bR _)),uV rfl (.sl (trs:=aX [1]) rfl rfl rfl rfl),rfl⟩ ?_;refine o1 ?_;refine nl ?_;refine rl ?_;refine o1 ?_
   refine o1 ?_;refine ld ?_;refine o1 ?_
   have hS:aD true Tryz.prog 141 [] [.one (.t (sU false (dg 4294967296 k'.natAbs))),.one (.t (sU false (dg 4294967296 (k.natAbs%k'.natAbs))))] (aN (.tup [.one (.t (sU true (dg 4294967296 (k'.natAbs-(k.natAbs%k'.natAbs))))),.one (tv (.int .i64 0))])):=by
    have h9:=Rc (aM (by omega) k'.natAbs) (aM (by omega) (k.natAbs%k'.natAbs)) (by omega) (by rw[bJ,cE (by omega)];omega)
    rwa[bJ,cE (by omega)]at h9
   refine jD 8 hS Qr ⟨a1 rfl,uV rfl (.sl rfl rfl (Vx _) (bR _)),rfl⟩ ?_;(iterate 4 refine o1 ?_);refine nl ?_;refine sq ?_
   have hd:k.fdiv k'=bO (aH k != aH k') ((k.natAbs/k'.natAbs)+1)∧k.fmod k'=bO (aH k') (k'.natAbs-(k.natAbs%k'.natAbs)):=by
    have h9:aH k≠aH k':=by simpa using h2
    have h7:k.natAbs%k'.natAbs≠0:=by have h5:=mA (m:=(k.natAbs%k'.natAbs)) rfl;rw[decide_eq_true (by omega)]at h5;have h6:=of_decide_eq_true h5.symm;omega
    have h8:=HC (a:=k) (b:=k') hz0 h9 h7
    rw[h2];exact h8
   refine rd [1,2,3,6] (fun i=>[15,16].contains i) mixed ?_
   refine dv 0 ?_;refine dv 1 ?_;refine aL 2 ?_;refine dv 3 ?_;refine dv 4 ?_;refine aL 5 ?_;refine dv 6 ?_;refine dv 7 ?_;refine dv 9 ?_;refine dv 10 ?_;refine aL 11 ?_
   refine dv 12 ?_
   refine Bp 8 9 [7] rfl (iB (b:=(aH k != aH k')) (m:=((k.natAbs/k'.natAbs)+1)) (K:=(k.fdiv k')) hd.1.symm) oO ⟨aI rfl,rfl⟩ ⟨rfl,rfl,rfl⟩ ⟨rfl,rfl,rfl,rfl,trivial⟩ ?_
   refine Bp 13 10 [8] rfl (iB (b:=(aH k')) (m:=(k'.natAbs-(k.natAbs%k'.natAbs))) (K:=(k.fmod k')) hd.2.symm) oO ⟨aI rfl,rfl⟩ ⟨rfl,rfl,rfl⟩ ⟨rfl,rfl,rfl,rfl,trivial⟩ ?_
   refine bY 14 (by kernel_rfl) rfl rfl aA rfl rfl rfl rfl ⟨rfl,rfl,rfl,rfl,trivial⟩ ?_
   refine dst 15 ?_;refine eZ 16 (by kernel_rfl) rfl rfl aA rfl (by trivial) ?_ (fun h=>by first | rfl | cases h)
   refine aQ ?_;refine rt ?_
   exact en (.inl rfl) rfl (yS (.cons (.agg (.cons (.id rfl) (.cons (.sl (trs:=aX (dg 4294967296 ((k.fdiv k')).natAbs)) rfl rfl (bV _) (bR _)) .nil))) (.cons (.agg (.cons (.id rfl) (.cons (.sl (trs:=aX (dg 4294967296 ((k.fmod k')).natAbs)) rfl rfl (bV _) (bR _)) .nil))) (.cons (cR (.int .i64 0)) .nil)))) (by decide) (fun _=>⟨eR (k.fdiv k'),eR (k.fmod k'),trivial,trivial⟩) rfl
  refine sk ?_;refine sq ?_;have hd:k.fdiv k'=bO (aH k != aH k') (k.natAbs/k'.natAbs)∧k.fmod k'=bO (aH k') (k.natAbs%k'.natAbs):=by
   have h9:aH k≠aH k':=by simpa using h2
   have h7:k.natAbs%k'.natAbs=0:=by have h5:=mA (m:=(k.natAbs%k'.natAbs)) rfl;rw[decide_eq_false (by omega)]at h5;have h6:=of_decide_eq_false h5.symm;omega
   have h8:=GZ (a:=k) (b:=k') hz0 h9 h7
   rw[h2];exact h8
  refine rd [1,2,3] (fun i=>[15,16].contains i) mixed ?_
  refine dv 0 ?_;refine dv 1 ?_;refine aL 2 ?_;refine dv 3 ?_;refine dv 4 ?_;refine aL 5 ?_;refine dv 6 ?_;refine dv 7 ?_;refine dv 9 ?_;refine dv 10 ?_;refine aL 11 ?_
  refine dv 12 ?_
  refine Bp 8 6 [4] rfl (iB (b:=(aH k != aH k')) (m:=(k.natAbs/k'.natAbs)) (K:=(k.fdiv k')) hd.1.symm) oO ⟨aI rfl,rfl⟩ ⟨rfl,rfl,rfl⟩ ⟨rfl,rfl,rfl,trivial⟩ ?_
  refine Bp 13 7 [5] rfl (iB (b:=(aH k')) (m:=(k.natAbs%k'.natAbs)) (K:=(k.fmod k')) hd.2.symm) oO ⟨aI rfl,rfl⟩ ⟨rfl,rfl,rfl⟩ ⟨rfl,rfl,rfl,trivial⟩ ?_
  refine bY 14 (by kernel_rfl) rfl rfl aA rfl rfl rfl rfl ⟨rfl,rfl,rfl,trivial⟩ ?_
  refine dst 15 ?_;refine eZ 16 (by kernel_rfl) rfl rfl aA rfl (by trivial) ?_ (fun h=>by first | rfl | cases h)
  refine aQ ?_;refine rt ?_
  exact en (.inl rfl) rfl (yS (.cons (.agg (.cons (.id rfl) (.cons (.sl (trs:=aX (dg 4294967296 ((k.fdiv k')).natAbs)) rfl rfl (bV _) (bR _)) .nil))) (.cons (.agg (.cons (.id rfl) (.cons (.sl (trs:=aX (dg 4294967296 ((k.fmod k')).natAbs)) rfl rfl (bV _) (bR _)) .nil))) (.cons (cR (.int .i64 0)) .nil)))) (by decide) (fun _=>⟨eR (k.fdiv k'),eR (k.fmod k'),trivial,trivial⟩) rfl
 (iterate 3 refine dS ?_);refine o1 ?_;refine nl ?_;refine fW rfl ?_;refine sk ?_;refine sq ?_
 have hd:k.fdiv k'=bO (aH k != aH k') (k.natAbs/k'.natAbs)∧k.fmod k'=bO (aH k') (k.natAbs%k'.natAbs):=by
  have h9:aH k=aH k':=by simpa using h2
  have h8:=GY (a:=k) (b:=k') hz0 h9
  rw[h2];exact h8
 refine rd [1,2,3] (fun i=>[15,16].contains i) mixed ?_
 refine dv 0 ?_;refine dv 1 ?_;refine aL 2 ?_;refine dv 3 ?_;refine dv 4 ?_;refine aL 5 ?_;refine dv 6 ?_;refine dv 7 ?_;refine dv 9 ?_;refine dv 10 ?_;refine aL 11 ?_
 refine dv 12 ?_
 refine Bp 8 6 [4] rfl (iB (b:=(aH k != aH k')) (m:=(k.natAbs/k'.natAbs)) (K:=(k.fdiv k')) hd.1.symm) oO ⟨aI rfl,rfl⟩ ⟨rfl,rfl,rfl⟩ ⟨rfl,rfl,rfl,trivial⟩ ?_
 refine Bp 13 7 [5] rfl (iB (b:=(aH k')) (m:=(k.natAbs%k'.natAbs)) (K:=(k.fmod k')) hd.2.symm) oO ⟨aI rfl,rfl⟩ ⟨rfl,rfl,rfl⟩ ⟨rfl,rfl,rfl,trivial⟩ ?_
 refine bY 14 (by kernel_rfl) rfl rfl aA rfl rfl rfl rfl ⟨rfl,rfl,rfl,trivial⟩ ?_
 refine dst 15 ?_;refine eZ 16 (by kernel_rfl) rfl rfl aA rfl (by trivial) ?_ (fun h=>by first | rfl | cases h)
 refine aQ ?_;refine rt ?_
 exact en (.inl rfl) rfl (yS (.cons (.agg (.cons (.id rfl) (.cons (.sl (trs:=aX (dg 4294967296 ((k.fdiv k')).natAbs)) rfl rfl (bV _) (bR _)) .nil))) (.cons (.agg (.cons (.id rfl) (.cons (.sl (trs:=aX (dg 4294967296 ((k.fmod k')).natAbs)) rfl rfl (bV _) (bR _)) .nil))) (.cons (cR (.int .i64 0)) .nil)))) (by decide) (fun _=>⟨eR (k.fdiv k'),eR (k.fmod k'),trivial,trivial⟩) rfl
theorem tB {p:Rat}{L:Nat}(h:Sz L p) (hL:L≤68719476736:=by omega):Zg (.of p.num) p.num:=.of (Nat.le_trans h.1 (by omega))
theorem lH {p:Rat}{L:Nat}(h:Sz L p) (hL:L≤68719476736:=by omega):Zg ⟨false,dg 4294967296 p.den⟩ (p.den:Int):=⟨aM (by omega) _,Nat.le_trans h.2 (by omega),xX p.den⟩
theorem Gc {q:Rat}{n d:Int}(h1:q.num=n) (h2:(q.den:Int)=d):FV.agg [tv (.bool (aH n)),.t (sU true (dg 4294967296 n.natAbs)),tv (.bool (aH d)),.t (sU true (dg 4294967296 d.natAbs))]=qO q:=by
 subst h1 h2
 rw[xW]
 rfl
theorem Fa {a b:Zi}{k k':Int}(ha:Zg a k) (hb:Zg b k') (hz0:k'≠0):aD true Tryz.prog 88 [] [gF a,gF b] (aN (qO (Rat.divInt k k'))):=by
 refine cB Tryz.func88 rfl Tryz.ntmps88 rfl aA rfl fun N w c0 h0=>?_
 have hkl:=ha.len
 have hkl':=hb.len
 have hgl:(dg 4294967296 ((Int.gcd k k':Nat):Int).natAbs).length≤300000000000:=Nat.le_trans (iL (Nat.le_of_dvd (by omega) (Nat.gcd_dvd_right ..))) hkl'
 have hng:=kD ((Int.gcd k k':Nat):Int)
 have hg0:((Int.gcd k k':Nat):Int)≠0:=fun e=>hz0 (Int.gcd_eq_zero_iff.1 (show Int.gcd k k'=0 by omega)).2
 refine sq ?_;refine rl ?_;refine bx 0 ?_;refine bx 1 ?_;refine al 2 ?_;refine nl ?_;refine sq ?_;refine rl ?_;refine ld ?_;refine ld ?_
 refine ca (DH ha hb) MT ⟨aE rfl,aE rfl,rfl⟩ (kF (((Int.gcd k k':Nat):Int))) ?_;refine al 3 ?_;refine st ?_;refine nl ?_;refine sq ?_;refine sq ?_;refine rl ?_;refine ld ?_
 refine ca (Bq hb) Qo ⟨aE rfl,rfl⟩ (.one (tv (.int .i64 k'.sign))) ?_;refine o1 ?_;refine nl ?_;refine bN rfl (fun h1=>?_) (fun h1=>?_)
 ·refine rl ?_;refine ld ?_;refine ca (DF (Zg.of (k:=((Int.gcd k k':Nat):Int)) hgl)) MQ ⟨aE rfl,rfl⟩ (kF (-(((Int.gcd k k':Nat):Int)))) ?_;refine st ?_;refine nl ?_;refine sq ?_
  refine rl ?_;refine ld ?_;refine ld ?_;refine jD 4 (uR ha (Zg.of (k:=(-(((Int.gcd k k':Nat):Int)))) (by omega)) (by omega)) Fx ⟨aE rfl,aE rfl,rfl⟩ ?_
  (iterate 4 refine o1 ?_);refine al 6 ?_;refine al 7 ?_;refine st ?_;refine st ?_;refine o1 ?_;refine nl ?_;refine sq ?_;refine rl ?_;refine ld ?_;refine ld ?_
  refine jD 8 (uR hb (Zg.of (k:=(-(((Int.gcd k k':Nat):Int)))) (by omega)) (by omega)) Fx ⟨aE rfl,aE rfl,rfl⟩ ?_
  (iterate 4 refine o1 ?_);refine al 10 ?_;refine al 11 ?_;refine st ?_;refine st ?_;refine o1 ?_;refine nl ?_;refine sq ?_;refine rl ?_;refine ld ?_;refine ld ?_;refine o1 ?_
  refine st ?_;refine nl ?_;refine rt ?_;have hk9:k'<0:=by
   rcases Int.lt_trichotomy k' 0 with h8 | h8 | h8
   ·exact h8
   ·exact absurd h8 hz0
   rw[Int.sign_eq_one_of_pos h8]at h1;omega
  have h9:=Ke (N:=k) (D:=k') hk9
  exact en (.inl rfl) rfl (aZ (.agg (.cons (.id rfl) (.cons (.sl (trs:=aX (dg 4294967296 (((k).fdiv (-(((Int.gcd k k':Nat):Int))))).natAbs)) rfl rfl (bV _) (bR _)) (.cons (.id rfl) (.cons (.sl (trs:=aX (dg 4294967296 (((k').fdiv (-(((Int.gcd k k':Nat):Int))))).natAbs)) rfl rfl (bV _) (bR _)) (.nil))))))) (by decide) (fun _=>vS (⟨aH ((k).fdiv (-(((Int.gcd k k':Nat):Int)))),dg 4294967296 (((k).fdiv (-(((Int.gcd k k':Nat):Int))))).natAbs,aH ((k').fdiv (-(((Int.gcd k k':Nat):Int)))),dg 4294967296 (((k').fdiv (-(((Int.gcd k k':Nat):Int))))).natAbs⟩:Fr4)) (Gc h9.1 h9.2)
 refine sk ?_;refine sq ?_;refine rl ?_;refine ld ?_;refine ld ?_;refine jD 4 (uR ha (Zg.of (k:=((Int.gcd k k':Nat):Int)) (by omega)) (by omega)) Fx ⟨aE rfl,aE rfl,rfl⟩ ?_
 (iterate 4 refine o1 ?_);refine al 6 ?_;refine al 7 ?_;refine st ?_;refine st ?_;refine o1 ?_;refine nl ?_;refine sq ?_;refine rl ?_;refine ld ?_;refine ld ?_
 refine jD 8 (uR hb (Zg.of (k:=((Int.gcd k k':Nat):Int)) (by omega)) (by omega)) Fx ⟨aE rfl,aE rfl,rfl⟩ ?_
 (iterate 4 refine o1 ?_);refine al 10 ?_;refine al 11 ?_;refine st ?_;refine st ?_;refine o1 ?_;refine nl ?_;refine sq ?_;refine rl ?_;refine ld ?_;refine ld ?_;refine o1 ?_
 refine st ?_;refine nl ?_;refine rt ?_;have hk9:0<k':=by
  rcases Int.lt_trichotomy k' 0 with h8 | h8 | h8
  ·rw[Int.sign_eq_neg_one_of_neg h8]at h1;omega
  ·exact absurd h8 hz0
  exact h8
 have h9:=nO (N:=k) (D:=k') hk9
 exact en (.inl rfl) rfl (aZ (.agg (.cons (.id rfl) (.cons (.sl (trs:=aX (dg 4294967296 (((k).fdiv ((Int.gcd k k':Nat):Int))).natAbs)) rfl rfl (bV _) (bR _)) (.cons (.id rfl) (.cons (.sl (trs:=aX (dg 4294967296 (((k').fdiv ((Int.gcd k k':Nat):Int))).natAbs)) rfl rfl (bV _) (bR _)) (.nil))))))) (by decide) (fun _=>vS (⟨aH ((k).fdiv ((Int.gcd k k':Nat):Int)),dg 4294967296 (((k).fdiv ((Int.gcd k k':Nat):Int))).natAbs,aH ((k').fdiv ((Int.gcd k k':Nat):Int)),dg 4294967296 (((k').fdiv ((Int.gcd k k':Nat):Int))).natAbs⟩:Fr4)) (Gc h9.1 h9.2)
theorem Rh {p q:Rat}(hp:Sz 68719476736 p) (hq:Sz 68719476736 q):aD true Tryz.prog 57 [] [qF (.of p),qF (.of q)] (aN (qO (p+q))):=by
 refine cB Tryz.func57 rfl Tryz.ntmps57 rfl aA rfl fun N w c0 h0=>?_
 have z1:=(tB hp).len;have z2:=(tB hq).len;have z3:=(lH hp).len;have z4:=(lH hq).len
 have y1:(dg 4294967296 p.num.natAbs).length≤68719476736:=hp.1;have y2:(dg 4294967296 q.num.natAbs).length≤68719476736:=hq.1;have y3:(dg 4294967296 p.den).length≤68719476736:=hp.2;have y4:(dg 4294967296 q.den).length≤68719476736:=hq.2;have y5:(dg 4294967296 (p.den:Int).natAbs).length≤68719476736:=hp.2;have y6:(dg 4294967296 (q.den:Int).natAbs).length≤68719476736:=hq.2
 refine sq ?_;refine rl ?_;refine bx 0 ?_;refine bx 1 ?_;refine al 2 ?_;refine nl ?_;refine sq ?_;refine sq ?_;refine rl ?_;refine o1 ?_;refine ld ?_;refine o1 ?_;refine ld ?_
 refine ca (Rf (lH hp) (lH hq) (by have h8:=uM (p.den:Int) (-(q.den:Int));have h7:=kD (q.den:Int);rw[Int.natAbs_natCast]at h7 h8;rw[Int.sub_eq_add_neg];omega)) Xj ⟨aE rfl,aE rfl,rfl⟩ (.one (tv (.int .i64 ((p.den:Int)-(q.den:Int)).sign))) ?_
 refine o1 ?_;refine nl ?_;refine bN rfl (fun h1=>?_) (fun h1=>?_)
 ·refine sq ?_;refine rd [0,1,2] (fun i=>[8].contains i) mixed ?_
  refine dv 0 ?_;refine aL 1 ?_;refine dv 2 ?_;refine aL 3 ?_;refine dv 5 ?_;refine aL 6 ?_;have hn2:=uM (p.num) (q.num)
  refine aR 4 rfl (DG (tB hp) (tB hq)) MS ⟨aE rfl,aE rfl,rfl⟩ (kF (p.num+q.num)) ?_
  refine lX 3 7 rfl (Fa (Zg.of (k:=(p.num+q.num)) (by omega)) (lH hp) (by have h8:=p.den_nz;have h7:=q.den_nz;first | omega | exact Int.mul_ne_zero (by omega) (by omega))) MR ⟨aE rfl,aE rfl,rfl⟩ ?_
  refine dst 8 ?_;refine aQ ?_;refine rt ?_
  exact en (.inl rfl) rfl (aZ (.agg (.cons (.id rfl) (.cons (.sl (trs:=aX (dg 4294967296 (Rat.divInt ((p.num+q.num)) ((p.den:Int))).num.natAbs)) rfl rfl (bV _) (bR _)) (.cons (.id rfl) (.cons (.sl (trs:=aX (dg 4294967296 (Rat.divInt ((p.num+q.num)) ((p.den:Int))).den)) rfl rfl (bV _) (bR _)) .nil)))))) (by decide) (fun _=>Bm (Rat.divInt ((p.num+q.num)) ((p.den:Int)))) (by rw[show(Rat.divInt ((p.num+q.num)) ((p.den:Int)))=p+q from AJ (by have h8:=Int.sign_eq_zero_iff_zero.1 h1;omega)];rfl)
 refine sk ?_;refine sq ?_;refine rd [0,1,2] (fun i=>[17].contains i) mixed ?_
 refine dv 0 ?_;refine aL 1 ?_;refine dv 2 ?_;refine aL 3 ?_;refine dv 5 ?_;refine aL 6 ?_;refine dv 7 ?_;refine aL 8 ?_;refine dv 11 ?_;refine aL 12 ?_;refine dv 13 ?_
 refine aL 14 ?_;have hn3:=pV (p.num) ((q.den:Int))
 refine aR 4 rfl (Gb (tB hp) (lH hq)) Ha ⟨aE rfl,aE rfl,rfl⟩ (kF (p.num*(q.den:Int))) ?_;have hn4:=pV (q.num) ((p.den:Int))
 refine aR 9 rfl (Gb (tB hq) (lH hp)) Ha ⟨aE rfl,aE rfl,rfl⟩ (kF (q.num*(p.den:Int))) ?_;have hn5:=uM ((p.num*(q.den:Int))) ((q.num*(p.den:Int)))
 refine aR 10 rfl (DG (Zg.of (k:=(p.num*(q.den:Int))) (by omega)) (Zg.of (k:=(q.num*(p.den:Int))) (by omega))) MS ⟨aE rfl,aE rfl,rfl⟩ (kF ((p.num*(q.den:Int))+(q.num*(p.den:Int)))) ?_
 have hn6:=pV ((p.den:Int)) ((q.den:Int))
 refine aR 15 rfl (Gb (lH hp) (lH hq)) Ha ⟨aE rfl,aE rfl,rfl⟩ (kF ((p.den:Int)*(q.den:Int))) ?_
 refine lX 3 16 rfl (Fa (Zg.of (k:=((p.num*(q.den:Int))+(q.num*(p.den:Int)))) (by omega)) (Zg.of (k:=((p.den:Int)*(q.den:Int))) (by omega)) (by have h8:=p.den_nz;have h7:=q.den_nz;first | omega | exact Int.mul_ne_zero (by omega) (by omega))) MR ⟨aE rfl,aE rfl,rfl⟩ ?_
 refine dst 17 ?_;refine aQ ?_;refine rt ?_
 exact en (.inl rfl) rfl (aZ (.agg (.cons (.id rfl) (.cons (.sl (trs:=aX (dg 4294967296 (Rat.divInt (((p.num*(q.den:Int))+(q.num*(p.den:Int)))) (((p.den:Int)*(q.den:Int)))).num.natAbs)) rfl rfl (bV _) (bR _)) (.cons (.id rfl) (.cons (.sl (trs:=aX (dg 4294967296 (Rat.divInt (((p.num*(q.den:Int))+(q.num*(p.den:Int)))) (((p.den:Int)*(q.den:Int)))).den)) rfl rfl (bV _) (bR _)) .nil)))))) (by decide) (fun _=>Bm (Rat.divInt (((p.num*(q.den:Int))+(q.num*(p.den:Int)))) (((p.den:Int)*(q.den:Int))))) (by rw[show(Rat.divInt (((p.num*(q.den:Int))+(q.num*(p.den:Int)))) (((p.den:Int)*(q.den:Int))))=p+q from wN p q];rfl)
theorem Vy {k:Int}{f:FuncId}{args:List FV}(h:∀(N:Nat→Prop) (w:World) us,dE w N [] args us→(∀b,N b→b<w.heap.size)→Calls Tryz.prog f us.toArray w (NJ k w)):aD true Tryz.prog f [] args (aN (kO k)):=by
 intro N w cs us hL
 obtain⟨rfl,hf⟩:=wP hL
 refine(h _ w us hf (fun b hb=>hb.1)).mono ?_
 rintro e W ⟨A,n,c,rfl,ho,hb⟩
 obtain⟨y1,a1,a2,a3,a4⟩:=wO (N:=fun b=>true=false∧(b<W.heap.size∧b∉VT.fpL [])∧(N b∨w.heap.size≤b)) ho
 refine .mk0 (y:=[.w (.bool (aH k)),y1]) rfl hb (by simp only[VT.okL,VT.ok];exact⟨trivial,a3,trivial⟩) ?_ (fun b hb'=>?_) ?_
 ·simp only[VT.fpL,VT.fp,a4,List.nil_append,List.append_nil]
  exact Bo A n c
 ·simp only[VT.fpL,VT.fp,a4,List.nil_append,List.append_nil]at hb'
  exact ho.blk b hb'
 refine⟨by simp only[List.map_cons,List.map_nil,a1];rfl,?_⟩
 simp only[List.map_cons,List.map_nil,bI,CR,sU]
 exact⟨by simp[OR],jU (fun _ _=>rfl) (fun b hb=>absurd hb.1 (by simp)) _ _ a2,trivial⟩
theorem NW {n:Int}(h1:-9223372036854775808≤n) (h2:n≤9223372036854775807):aD true Tryz.prog 54 [] [.one (tv (.int .i64 n))] (aN (kO n)):=Vy fun N w us hf hN=>by
 obtain⟨u,rfl,h3⟩:=AO hf
 obtain rfl:=aV (sH h3)
 exact NK n w h1 h2
theorem HR {m:Nat}:decide (((m:Int)-1).sign=0)=(m==1):=by
 rw[decide_eq_decide.2 Int.sign_eq_zero_iff_zero]
 rw[Bool.eq_iff_iff,decide_eq_true_eq,beq_iff_eq]
 omega
theorem Ko {z:Int}:0<z.sign↔0<z:=by
 rcases Int.lt_trichotomy z 0 with h | h | h
 ·rw[Int.sign_eq_neg_one_of_neg h];omega
 ·subst h;decide
 rw[Int.sign_eq_one_of_pos h];omega
theorem Kq:aD true Tryz.prog 55 [] [] (aN (kO 1)):=by
 refine cB Tryz.func55 rfl Tryz.ntmps55 rfl aA rfl fun N w c0 h0=>?_
 refine sq ?_;refine rl ?_;refine al 0 ?_;refine nl ?_;refine sq ?_;refine rl ?_;refine jD 1 (NW (n:=1) (by omega) (by omega)) MP ⟨a1 rfl,rfl⟩ ?_
 refine st ?_;refine nl ?_;refine rt ?_
 exact en (.inl rfl) rfl (aZ (.agg (.cons (.id rfl) (.cons (.sl (trs:=aX (dg 4294967296 ((1:Int)).natAbs)) rfl rfl (bV _) (bR _)) .nil)))) (by decide) (fun _=>eR 1) rfl
theorem Kr {a:Fr4}{p:Rat}(ha:Qn a p):aD true Tryz.prog 68 [] [qF a] (aN (.one (tv (.bool (bQ a.s a.x a.t a.y))))):=by
 refine cB Tryz.func68 rfl Tryz.ntmps68 rfl aA rfl fun N w c0 h0=>?_
 refine sq ?_;refine rl ?_;refine bx 0 ?_;refine o1 ?_;refine nl ?_;refine sq ?_;refine rl ?_;refine o1 ?_;refine ld ?_
 refine ca (Dm (a:=⟨a.s,a.x⟩) ((NU ha).g)) AA ⟨aE rfl,rfl⟩ (.one (tv (.bool (dK a.s a.x)))) ?_;refine o1 ?_;refine WL.splitb (t:=6) rfl (fun h1=>?_) (fun h1=>?_)
 ·refine o1 ?_;refine ld ?_;refine ca (Dm (a:=⟨a.t,a.y⟩) ((Rb ha).g)) AA ⟨aE rfl,rfl⟩ (.one (tv (.bool (dK a.t a.y)))) ?_;refine o1 ?_;refine o1 ?_
  refine WL.splitb (t:=11) rfl (fun h2=>?_) (fun h2=>?_)
  ·refine o1 ?_;refine ld ?_;refine ca (Bq (a:=⟨a.t,a.y⟩) ((Rb ha).g)) Qo ⟨aE rfl,rfl⟩ (.one (tv (.int .i64 (fE a.t a.y).sign))) ?_;(iterate 3 refine o1 ?_)
   refine WL.split (t:=17) rfl (fun h3=>?_) (fun h3=>?_)
   ·refine o1 ?_;refine ld ?_;refine o1 ?_;refine ld ?_;have hpos:0<fE a.t a.y:=Ko.1 h3
    have hyl:(dg 4294967296 (fE a.t a.y).natAbs).length≤137438953472:=Zn.len (Rb (p:=p) ha)
    have hgl9:(dg 4294967296 ((Int.gcd (fE a.s a.x) (fE a.t a.y):Nat):Int).natAbs).length≤137438953472:=Nat.le_trans (iL (Nat.le_of_dvd (by omega) (Nat.gcd_dvd_right ..))) hyl
    have hgl:(dg 4294967296 ((Int.gcd (fE a.s a.x) (fE a.t a.y):Nat):Int).natAbs).length≤300000000000:=Nat.le_trans hgl9 (by omega)
    refine ca (DH (a:=⟨a.s,a.x⟩) (b:=⟨a.t,a.y⟩) ((NU ha).g) ((Rb ha).g)) MT ⟨aE rfl,aE rfl,rfl⟩ (kF ((Int.gcd (fE a.s a.x) (fE a.t a.y):Nat):Int)) ?_
    refine ca (Kq) Zz rfl (kF 1) ?_
    refine ca (Rf (Zg.of (k:=((Int.gcd (fE a.s a.x) (fE a.t a.y):Nat):Int)) hgl) (Zg.of (k:=1) (by decide)) (by have h8:=Kj ((Int.gcd (fE a.s a.x) (fE a.t a.y):Nat):Int) 1;have h7:(dg 4294967296 (1:Int).natAbs).length=1:=rfl;omega)) Xj ⟨aE rfl,aE rfl,rfl⟩ (.one (tv (.int .i64 (((Int.gcd (fE a.s a.x) (fE a.t a.y):Nat):Int)-1).sign))) ?_
    (iterate 3 refine o1 ?_);refine nl ?_;refine rt ?_
    exact en (.inl rfl) rfl (aZ (cR _)) (by decide) (fun _=>trivial) (congrArg (fun b=>FV.one (tv (.bool b))) (by unfold bQ;rw[h1,h2,decide_eq_true hpos,←HR];rfl))
   (iterate 8 refine dS ?_);refine o1 ?_;refine o1 ?_;refine nl ?_;refine rt ?_
   exact en (.inl rfl) rfl (aZ (cR _)) (by decide) (fun _=>trivial) (congrArg (fun b=>FV.one (tv (.bool b))) (by unfold bQ;rw[h1,h2,decide_eq_false (fun h9=>h3 (Ko.2 h9))];rfl))
  (iterate 4 refine dS ?_);refine o1 ?_;refine o1 ?_;(iterate 8 refine dS ?_);refine o1 ?_;refine o1 ?_;refine nl ?_;refine rt ?_
  exact en (.inl rfl) rfl (aZ (cR _)) (by decide) (fun _=>trivial) (congrArg (fun b=>FV.one (tv (.bool b))) (by unfold bQ;rw[h1,h2];rfl))
 (iterate 3 refine dS ?_);refine o1 ?_;refine o1 ?_;(iterate 4 refine dS ?_);refine o1 ?_;refine o1 ?_;(iterate 8 refine dS ?_);refine o1 ?_;refine o1 ?_;refine nl ?_;refine rt ?_
 exact en (.inl rfl) rfl (aZ (cR _)) (by decide) (fun _=>trivial) (congrArg (fun b=>FV.one (tv (.bool b))) (by unfold bQ;rw[h1];rfl))
theorem VU:FV.agg [tv (.bool false),.t (sU false []),tv (.bool (aH 1)),.t (sU false (dg 4294967296 (1:Int).natAbs))]=qF (.of 0):=rfl
theorem nE {a:Fr4}{p:Rat}(ha:Qn a p):aD false Tryz.prog 46 [] [qF a] (aN (qF (.of p))):=by
 refine cB Tryz.func46 rfl Tryz.ntmps46 rfl aA rfl fun N w c0 h0=>?_
 refine sq ?_;refine rl ?_;refine bx 0 ?_;refine al 1 ?_;refine nl ?_;refine sq ?_;refine sq ?_;refine rl ?_;refine ld ?_
 refine ca (Kr ha) Xh ⟨aE rfl,rfl⟩ (.one (tv (.bool (bQ a.s a.x a.t a.y)))) ?_;refine WL.splitb (t:=4) rfl (fun h1=>?_) (fun h1=>?_)
 ·refine o1 ?_;refine nl ?_;refine fW rfl ?_;refine sk ?_;refine sq ?_;refine rl ?_;refine ld ?_;refine st ?_;refine nl ?_;refine rt ?_
  exact en (.inl rfl) rfl (aZ (.agg (.cons (.id rfl) (.cons (.id rfl) (.cons (.id rfl) (.cons (.id rfl) .nil)))))) (by decide) (fun h=>by cases h) (by rw[ha.right h1];rfl)
 refine o1 ?_;refine nl ?_;refine iU rfl ?_;refine sq ?_;refine rl ?_;refine o1 ?_;refine ca (Kq) Zz rfl (kF 1) ?_;refine o1 ?_;refine st ?_;refine nl ?_;refine rt ?_
 have hq9:=ha.wrong h1
 subst hq9;exact en (.inl rfl) rfl (aZ (.agg (.cons (.id rfl) (.cons .nilf (.cons (.id rfl) (.cons (.id rfl) .nil)))))) (by decide) (fun h=>by cases h) VU
theorem NX {a b:Fr4}{p q:Rat}(ha:Qn a p) (hb:Qn b q):aD true Tryz.prog 25 [] [qF a,qF b] (aN (qO (p+q))):=by
 refine cB Tryz.func25 rfl Tryz.ntmps25 rfl aA rfl fun N w c0 h0=>?_
 refine sq ?_;refine rl ?_;refine bx 0 ?_;refine bx 1 ?_;refine al 2 ?_;refine nl ?_;refine sq ?_;refine rd [0,1,2] (fun i=>[5].contains i) mixed ?_
 refine aL 0 ?_;refine aL 2 ?_;refine aR 1 rfl (nE ha) kV ⟨aE rfl,rfl⟩ (qF (.of p)) ?_;refine aR 3 rfl (nE hb) kV ⟨aE rfl,rfl⟩ (qF (.of q)) ?_
 refine lX 3 4 rfl (Rh ha.sz hb.sz) yT ⟨aE rfl,aE rfl,rfl⟩ ?_;refine dst 5 ?_;refine aQ ?_;refine rt ?_
 exact en (.inl rfl) rfl (aZ (.agg (.cons (.id rfl) (.cons (.sl (trs:=aX (dg 4294967296 (p+q).num.natAbs)) rfl rfl (bV _) (bR _)) (.cons (.id rfl) (.cons (.sl (trs:=aX (dg 4294967296 (p+q).den)) rfl rfl (bV _) (bR _)) .nil)))))) (by decide) (fun _=>Bm (p+q)) rfl
theorem HS {a:Fr4}{p:Rat}(ha:Qn a p):aD true Tryz.prog 20 [] [qF a] (aN (.one (tv (.int .i64 p.num.sign)))):=by
 refine cB Tryz.func20 rfl Tryz.ntmps20 rfl aA rfl fun N w c0 h0=>?_
 refine sq ?_;refine rl ?_;refine bx 0 ?_;refine o1 ?_;refine nl ?_;refine sq ?_;refine rl ?_;refine ld ?_;refine ca (nE ha) kV ⟨aE rfl,rfl⟩ (qF (.of p)) ?_;refine o1 ?_
 refine ca (Bq (Zg.of (k:=p.num) (Nat.le_trans ha.sz.1 (by omega)))) Qo ⟨aE rfl,rfl⟩ (.one (tv (.int .i64 p.num.sign))) ?_
 refine o1 ?_;refine nl ?_;refine rt ?_;exact en (.inl rfl) rfl (aZ (cR _)) (by decide) (fun _=>trivial) rfl
theorem Vz {a:Fr4}{p:Rat}(ha:Qn a p):aD true Tryz.prog 56 [] [qF a] (aN (qO (-p))):=by
 refine cB Tryz.func56 rfl Tryz.ntmps56 rfl aA rfl fun N w c0 h0=>?_
 refine sq ?_;refine rl ?_;refine bx 0 ?_;refine al 1 ?_;refine nl ?_;refine sq ?_;refine rl ?_;refine ld ?_;refine ca (nE ha) kV ⟨aE rfl,rfl⟩ (qF (.of p)) ?_;refine st ?_
 refine nl ?_;refine sq ?_;refine rd [0,1] (fun i=>[7].contains i) mixed ?_
 refine dv 0 ?_;refine aL 1 ?_;refine dv 3 ?_;refine aL 4 ?_;refine lX 2 2 rfl (DF (Zg.of (k:=p.num) (Nat.le_trans ha.sz.1 (by omega)))) MQ ⟨aE rfl,rfl⟩ ?_
 refine lX 3 5 rfl (RS (lH ha.sz)) UX ⟨aE rfl,rfl⟩ ?_;refine df 6 ?_;refine dst 7 ?_;refine aQ ?_;refine rt ?_;have hda:(((p.den:Int).natAbs:Nat):Int).natAbs=p.den:=rfl
 exact en (.inl rfl) rfl (aZ (.agg (.cons (.id rfl) (.cons (.sl (trs:=aX (dg 4294967296 (-(p.num)).natAbs)) rfl rfl (bV _) (bR _)) (.cons (.id rfl) (.cons (.sl (trs:=aX (dg 4294967296 (((p.den:Int).natAbs:Nat):Int).natAbs)) rfl rfl (bV _) (bR _)) .nil)))))) (by decide) (fun _=>vS (⟨_,dg 4294967296 (-(p.num)).natAbs,_,dg 4294967296 (((p.den:Int).natAbs:Nat):Int).natAbs⟩:Fr4)) (show FV.agg [tv (.bool (aH (-(p.num)))),.t (sU true (dg 4294967296 (-(p.num)).natAbs)),tv (.bool (aH (((p.den:Int).natAbs:Nat):Int))),.t (sU true (dg 4294967296 (((p.den:Int).natAbs:Nat):Int).natAbs))]=qO (-p) from Gc (q:=-p) (by simp) (by simp))
theorem AY {n:Int}(h1:-9223372036854775808≤n) (h2:n≤9223372036854775807):aD true Tryz.prog 23 [] [.one (tv (.int .i64 n))] (aN (qO ((n:Int):Rat))):=by
 refine cB Tryz.func23 rfl Tryz.ntmps23 rfl aA rfl fun N w c0 h0=>?_
 refine sq ?_;refine rl ?_;refine al 0 ?_;refine nl ?_;refine sq ?_;refine rl ?_;refine o1 ?_;refine jD 1 (NW (n:=n) h1 h2) MP ⟨a1 rfl,rfl⟩ ?_;refine jD 2 (Kq) Zz rfl ?_
 refine o1 ?_;refine st ?_;refine nl ?_;refine rt ?_
 exact en (.inl rfl) rfl (aZ (.agg (.cons (.id rfl) (.cons (.sl (trs:=aX (dg 4294967296 n.natAbs)) rfl rfl (bV _) (bR _)) (.cons (.id rfl) (.cons (.sl (trs:=aX (dg 4294967296 (1:Int).natAbs)) rfl rfl (bV _) (bR _)) .nil)))))) (by decide) (fun _=>vS (⟨_,dg 4294967296 n.natAbs,_,dg 4294967296 (1:Int).natAbs⟩:Fr4)) (Gc (q:=((n:Int):Rat)) (n:=n) (d:=1) (by simp) (by simp))
theorem NY {a b:Fr4}{p q:Rat}(ha:Qn a p) (hb:Qn b q):aD true Tryz.prog 50 [] [qF a,qF b] (aN (qO (p-q))):=by
 refine cB Tryz.func50 rfl Tryz.ntmps50 rfl aA rfl fun N w c0 h0=>?_
 refine sq ?_;refine rl ?_;refine bx 0 ?_;refine bx 1 ?_;refine al 2 ?_;refine nl ?_;refine sq ?_;refine rd [0,1,2] (fun i=>[5].contains i) mixed ?_
 refine aL 0 ?_;refine aL 2 ?_;refine aR 1 rfl (nE ha) kV ⟨aE rfl,rfl⟩ (qF (.of p)) ?_;refine aR 3 rfl (Vz hb) Ym ⟨aE rfl,rfl⟩ (qF (.of (-q))) ?_
 refine lX 3 4 rfl (Rh ha.sz (vU hb.sz)) yT ⟨aE rfl,aE rfl,rfl⟩ ?_;refine dst 5 ?_;refine aQ ?_;refine rt ?_
 exact en (.inl rfl) rfl (aZ (.agg (.cons (.id rfl) (.cons (.sl (trs:=aX (dg 4294967296 (p+-q).num.natAbs)) rfl rfl (bV _) (bR _)) (.cons (.id rfl) (.cons (.sl (trs:=aX (dg 4294967296 (p+-q).den)) rfl rfl (bV _) (bR _)) .nil)))))) (by decide) (fun _=>Bm (p+-q)) (by rw[Rat.sub_eq_add_neg];rfl)
section
variable {f:FuncId}{args:List FV}
end
section
variable {a b:Fr4}{p q:Rat}{x y:Zi}{k k':Int}
theorem Sq (h:Zn x k) (h':Zn y k'):aD true Tryz.prog 48 [] [gF x,gF y] (aN (kO (k*k'))):=Gb h.g h'.g
theorem JM (h:Zn x k) (h':Zn y k'):aD true Tryz.prog 47 [] [gF x,gF y] (aN (.one (tv (.int .i64 (k-k').sign)))):=Rf h.g h'.g (by have:=Kj k k';have:=h.len;have:=h'.len;omega)
theorem xH (h:Qn a p) (h':Qn b q):aD true Tryz.prog 25 [] [qF a,qF b] (aN (qO (p+q))):=NX h h'
theorem Fq (h:Qn a p) (h':Qn b q):aD true Tryz.prog 50 [] [qF a,qF b] (aN (qO (p-q))):=NY h h'
theorem iN (h:Qn a p):aD true Tryz.prog 20 [] [qF a] (aN (.one (tv (.int .i64 p.num.sign)))):=HS h
theorem CG (hp:Sz 68719476736 p) (hq:Sz 68719476736 q):aD true Tryz.prog 57 [] [qF (.of p),qF (.of q)] (aN (qO (p+q))):=Rh hp hq
theorem Gx (ha:a.ok):aD true Tryz.prog 68 [] [qF a] (aN (.one (tv (.bool (bQ a.s a.x a.t a.y))))):=Kr ⟨ha,rfl⟩
theorem fF {z:Int}(h1:-9223372036854775808≤z) (h2:z≤9223372036854775807):aD true Tryz.prog 23 [] [.one (tv (.int .i64 z))] (aN (qO (z:Rat))):=AY h1 h2
theorem Ae (hp:Sz 68719476736 p):aD true Tryz.prog 57 [] [qF (.of p),qF (.of ((0:Int):Rat))] (aN (qO p)):=by
 have:=CG hp ((sE (z:=0) (by omega) (by omega)).mono (by omega))
 rwa[show p+((0:Int):Rat)=p from Rat.add_zero p]at this
theorem JR (h:Qn a p):aD true Tryz.prog 25 [] [qF a,qF (.of ((0:Int):Rat))] (aN (qO p)):=by
 have:=xH h (Qn.of (p:=((0:Int):Rat)) ((sE (z:=0) (by omega) (by omega)).mono (M:=68719476736) (by omega)))
 rwa[show p+((0:Int):Rat)=p from Rat.add_zero p]at this
theorem Dz (p:Rat) (l:List Rat) (q:Rat):aO p (l++[q])=if q<aO p l then q else aO p l:=by
 unfold aO
 rw[List.foldl_append]
 rfl
end
def Wa (x:Rat):Rat:=fH x [0]
theorem Ks (x:Rat):Wa x=if x<0 then 0 else x:=rfl
theorem NZ (x:Rat):0≤Wa x:=by rw[Ks];split <;> grind
theorem OA {x:Rat}(h:0≤x):Wa x=x:=by rw[Ks];split <;> grind
section
variable {x y:Zi}{k k':Int}
theorem CC {a:Fr4}{p:Rat}(h:Qn a p):aD true Tryz.prog 56 [] [qF a] (aN (qO (-p))):=Vz h
theorem Ee (p:Rat) (l:List Rat) (q:Rat):fH p (l++[q])=if fH p l<q then q else fH p l:=by
 unfold fH
 rw[List.foldl_append]
 rfl
theorem den_nz (p q:Rat):(p.den:Int)*(q.den:Int)≠0:=by
 have h1:=p.den_pos
 have h2:=q.den_pos
 exact Int.ne_of_gt (Int.mul_pos (by omega) (by omega))
theorem Kt {L:Nat}{k:Int}(h:tA L k):tA L (-k):=by
 unfold tA
 rw[Int.natAbs_neg]
 exact h
theorem Br {n:Int}(h1:-9223372036854775808≤n) (h2:n≤9223372036854775807):tA 2 n:=vT h1 h2
theorem tS {n d:Int}(h1:-9223372036854775808≤n) (h2:n≤9223372036854775807) (h3:-9223372036854775808≤d) (h4:d≤9223372036854775807):Sz 2 (Rat.divInt n d):=by
 rcases Int.lt_trichotomy d 0 with hd | hd | hd
 ·rw[←Rat.neg_divInt_neg]
  obtain⟨e1,e2⟩:=rE (a:=-n) (b:=-d) (L:=2) (M:=2) (by omega) (Kt (Br h1 h2)) (Kt (Br h3 h4))
  exact⟨e1,e2⟩
 ·subst hd
  rw[Rat.divInt_zero]
  exact⟨Nat.zero_le _,by decide⟩
 obtain⟨e1,e2⟩:=rE (a:=n) (b:=d) (L:=2) (M:=2) hd (Br h1 h2) (Br h3 h4)
 exact⟨e1,e2⟩
end
theorem Gd (a b:Rat):aO a [b]=if b<a then b else a:=rfl
theorem pZ (a b:Rat):aO a [b]≤a:=by rw[Gd];split <;> grind
theorem yY (a b:Rat):aO a [b]≤b:=by rw[Gd];split <;> grind
def Mu (D:Nat) (q:Rat):Prop:=∃k:Int,q*(D:Rat)=(k:Rat)
section
variable {D E:Nat}{p q:Rat}
theorem Mu.zero:Mu D 0:=⟨0,by simp⟩
theorem Mu.add (h:Mu D p) (h':Mu D q):Mu D (p+q):=by
 obtain⟨a,ha⟩:=h
 obtain⟨b,hb⟩:=h'
 exact⟨a+b,by rw[Rat.add_mul,ha,hb,Rat.intCast_add]⟩
theorem Mu.neg (h:Mu D p):Mu D (-p):=by
 obtain⟨a,ha⟩:=h
 exact⟨-a,by rw[Rat.neg_mul,ha,Rat.intCast_neg]⟩
theorem Mu.sub (h:Mu D p) (h':Mu D q):Mu D (p-q):=by
 rw[Rat.sub_eq_add_neg]
 exact h.add h'.neg
theorem Mu.up (h:Mu D p):Mu (E*D) p:=by
 obtain⟨a,ha⟩:=h
 refine⟨(E:Int)*a,?_⟩
 rw[Rat.intCast_mul,←ha,Rat.natCast_mul]
 show p*((E:Rat)*(D:Rat))=((E:Int):Rat)*(p*(D:Rat))
 have:((E:Int):Rat)=(E:Rat):=rfl
 grind
theorem Mu.up' (h:Mu D p):Mu (D*E) p:=by
 rw[Nat.mul_comm]
 exact h.up
theorem OB (q:Rat):q*(q.den:Rat)=(q.num:Rat):=by
 have h:=Rat.num_divInt_den q
 have h2:Rat.divInt q.num (q.den:Int)=(q.num:Rat)/((q.den:Int):Rat):=Rat.divInt_eq_div _ _
 have h3:((q.den:Int):Rat)=(q.den:Rat):=rfl
 have h4:(q.den:Rat)≠0:=by
  have:=q.den_pos
  intro h
  have:q.den=0:=by exact_mod_cast h
  omega
 rw[h2,h3]at h
 have h6:(q.num:Rat)/(q.den:Rat)*(q.den:Rat)=(q.num:Rat):=Rat.div_mul_cancel h4
 rwa[h]at h6
theorem Mu.self (p:Rat):Mu p.den p:=⟨p.num,OB p⟩
theorem Mu.min (h:Mu D p) (h':Mu D q):Mu D (aO p [q]):=by
 rw[Gd]
 split
 ·exact h'
 exact h
theorem Mu.sz {L B:Nat}(h:Mu D p) (h0:0≤p) (hB:p≤(B:Rat)) (hD:0<D) (hL:(dg 4294967296 B).length+(dg 4294967296 D).length≤L):Sz L p:=by
 obtain⟨k,hk⟩:=h
 have hD':(0:Rat)<(D:Rat):=by exact_mod_cast hD
 have hp:p=Rat.divInt k D:=by
  have h2:Rat.divInt k (D:Int)=(k:Rat)/((D:Int):Rat):=Rat.divInt_eq_div k D
  rw[h2,←hk,show(((D:Nat):Int):Rat)=(D:Rat) from rfl,Rat.mul_div_cancel (by grind)]
 have h1:(0:Rat)≤(k:Rat):=by rw[←hk];exact Rat.mul_nonneg h0 (by grind)
 have hk0:0≤k:=by exact_mod_cast h1
 have h3:(k:Rat)≤((B:Rat)*(D:Rat)):=by rw[←hk];exact Rat.mul_le_mul_of_nonneg_right hB (by grind)
 have h4:(k:Rat)≤(((B*D:Nat):Int):Rat):=by
  have e:(((B*D:Nat):Int):Rat)=(B:Rat)*(D:Rat):=by
   show((B*D:Nat):Rat)=_
   exact Rat.natCast_mul ..
  rw[e]
  exact h3
 have h5:k≤((B*D:Nat):Int):=by exact_mod_cast h4
 obtain⟨e1,e2⟩:=rE (a:=k) (b:=D) (L:=L) (M:=L) (by omega) (Nat.le_trans (iL (show k.natAbs≤B*D by omega)) (Nat.le_trans (mU B D) hL)) (by unfold tA;rw[Int.natAbs_natCast];omega)
 rw[hp]
 exact⟨e1,e2⟩
end
theorem OC {q:Rat}{B:Nat}(h:q.num.natAbs≤B):q≤(B:Rat):=by
 rcases Rat.le_total (a:=q) (b:=0)with h0 | h0
 ·exact Rat.le_trans h0 (by exact_mod_cast Nat.zero_le B)
 have h1:q*(q.den:Rat)=(q.num:Rat):=OB q
 have h2:(1:Rat)≤(q.den:Rat):=by exact_mod_cast q.den_pos
 have h3:q*1≤q*(q.den:Rat):=Rat.mul_le_mul_of_nonneg_left h2 h0
 have h4:(q.num:Rat)≤(B:Rat):=by
  have:q.num≤(B:Int):=by omega
  exact_mod_cast this
 grind
def BB:Nat:=340282366920938463463374607431768211456
theorem Ri {q:Rat}(h:Sz 4 q):q≤(BB:Rat):=by
 refine OC ?_
 have h1:=oV (B:=4294967296) (by omega) (n:=q.num.natAbs)
 have h2:(4294967296:Nat)^(dg 4294967296 q.num.natAbs).length≤4294967296^4:=Nat.pow_le_pow_right (by omega) h.1
 have h3:(4294967296:Nat)^4=BB:=by decide
 omega
theorem OD:(dg 4294967296 BB).length≤5:=cV (by omega) (by decide)
def sR (t:Nat) (us:List (Int×Rat)):Tr:=.s true t 5 us.length (us.flatMap (cF false))
def sO (t:Nat) (us:List (Int×Rat)):Tr:=.s true t 5 us.length (us.flatMap (cF true))
def eF (us:List (Int×Rat)):List AV:=(us.flatMap (cF false)).map .t
def oS (us:List (Int×Rat)):List AV:=(us.flatMap (cF true)).map .t
section
variable {us vs:List (Int×Rat)}{k:Nat}{x:Int×Rat}
theorem kP (us:List (Int×Rat)):(eF us).length=us.length*5:=by rw[eF,List.length_map,bK]
theorem xD (us:List (Int×Rat)):(oS us).length=us.length*5:=by rw[oS,List.length_map,bK]
theorem Hk (us:List (Int×Rat)) (x:Int×Rat):eF us++(cF false x).map .t=eF (us++[x]):=by simp[eF,List.flatMap_append]
theorem AZ (us:List (Int×Rat)) (x:Int×Rat):oS us++(cF true x).map .t=oS (us++[x]):=by simp[oS,List.flatMap_append]
theorem Hf (h:k<us.length):((eF us).drop (0+k*5)).take ((cF false (aJ us k)).map AV.t).length=(cF false (aJ us k)).map .t:=by
 rw[eF,←List.map_drop,←List.map_take,Nat.zero_add,List.length_map,rW false h]
theorem BV (h:k<us.length):((eF us).drop (0+k*5+1)).take (((Fr4.of (aJ us k).2).tr false).map AV.t).length=((Fr4.of (aJ us k).2).tr false).map .t:=by
 rw[eF,←List.map_drop,←List.map_take,Nat.zero_add,List.length_map,RM false h]
theorem BW (h:k<us.length):(eF us)[0+k*5]? =some (tv (.int .i64 (aJ us k).1)):=by
 have h1:=congrArg (·[0]?) (Hf h)
 simp only[List.getElem?_take,List.getElem?_drop]at h1
 simpa[cF,tv]using h1
theorem JU (h:k<us.length):0+k*5+5≤(eF us).length:=by rw[kP];omega
theorem EM {q:Rat}(h:k<us.length):0+k*5+1+(((Fr4.of q).tr false).map AV.t).length≤(eF us).length:=by
 rw[kP]
 show 0+k*5+1+4≤_
 omega
theorem Fb (us:List (Int×Rat)) (k:Nat):(us.flatMap (cF false)).take (k*5)=(us.take k).flatMap (cF false):=by
 by_cases h:k≤us.length
 ·conv=>lhs;rw[←List.take_append_drop k us,List.flatMap_append]
  exact List.take_left' (by rw[bK,List.length_take,Nat.min_eq_left h])
 rw[List.take_of_length_le (by rw[bK];omega),List.take_of_length_le (by omega)]
theorem Wb (us:List (Int×Rat)) (k:Nat):(us.flatMap (cF false)).drop (k*5)=(us.drop k).flatMap (cF false):=by
 by_cases h:k≤us.length
 ·conv=>lhs;rw[←List.take_append_drop k us,List.flatMap_append]
  exact List.drop_left' (by rw[bK,List.length_take,Nat.min_eq_left h])
 rw[List.drop_of_length_le (by rw[bK];omega),List.drop_of_length_le (by omega)]
 rfl
theorem BU (h:k<us.length):dO (eF us) (0+k*5) ((cF false x).map AV.t)=eF (us.set k x):=by
 have e:k*5+((cF false x).map AV.t).length=(k+1)*5:=by show k*5+5=_;omega
 rw[Nat.zero_add]
 unfold dO eF
 rw[e,←List.map_take,←List.map_drop,Fb,Wb,←List.map_append,←List.map_append,List.set_eq_take_append_cons_drop,if_pos h]
 simp[List.flatMap_append]
theorem PO {q:Rat}(h:k<us.length):dO (eF us) (0+k*5+1) (((Fr4.of q).tr false).map AV.t)=eF (us.set k ((aJ us k).1,q)):=by
 rw[←BU h]
 have h1:(eF us).take (0+k*5+1)=(eF us).take (0+k*5)++[tv (.int .i64 (aJ us k).1)]:=by
  rw[List.take_add_one,BW h]
  rfl
 unfold dO
 rw[h1]
 have e:0+k*5+1+(((Fr4.of q).tr false).map AV.t).length=0+k*5+((cF false ((aJ us k).1,q)).map AV.t).length:=by show 0+k*5+1+4=0+k*5+5;omega
 rw[e]
 simp[cF,tv]
theorem BA (us:List (Int×Rat)) (k:Nat):(eF us).take (k*5)=((us.take k).flatMap (cF false)).map .t:=by rw[eF,←List.map_take,Fb]
theorem cD (l:List Tr) (n:Nat) (h:l.length=n):(l.map AV.t).take n=l.map .t:=List.take_of_length_le (by simp[h])
theorem xF (o:Bool) (us:List (Int×Rat)):rdTL (us.flatMap (cF o))=us.flatMap (cF false):=by
 have app:∀a b:List Tr,rdTL (a++b)=rdTL a++rdTL b:=by
  intro a b
  induction a with
  | nil=>rfl
  | cons x a ih=>simp[rdTL,ih]
 have u32:∀xs:List Nat,rdTL (aX xs)=aX xs:=by
  intro xs
  induction xs with
  | nil=>rfl
  | cons x xs ih=>simpa[aX,rdTL,rY]using ih
 induction us with
 | nil=>rfl
 | cons x us ih=>
  show rdTL (cF o x++us.flatMap (cF o))=cF false x++us.flatMap (cF false)
  rw[app,ih]
  simp[cF,Fr4.tr,rdTL,rY,sU,u32]
theorem Mf (us:List (Int×Rat)):NoFrL (us.flatMap (cF true)):=by
 have app:∀a b:List Tr,NoFrL a→NoFrL b→NoFrL (a++b):=by
  intro a b ha hb
  induction a with
  | nil=>exact hb
  | cons x a ih=>
   simp only[NoFrL]at ha
   simp only[List.cons_append,NoFrL]
   exact⟨ha.1,ih ha.2⟩
 induction us with
 | nil=>simp[NoFrL]
 | cons x us ih=>
  rw[List.flatMap_cons]
  refine app _ _ ?_ ih
  simp only[cF,Fr4.tr,sU,NoFrL,lS]
  exact⟨trivial,trivial,.inl ⟨trivial,eU _⟩,trivial,.inl ⟨trivial,eU _⟩,trivial⟩
theorem EL (t:Nat) (us:List (Int×Rat)):jP (.one (.t (sO t us))):=.inl ⟨rfl,Mf us⟩
theorem Xk (x:Int×Rat):jP (.agg ((cF true x).map .t)):=by
 simp only[jP,oJ,cF,Fr4.tr,sU,List.map_cons,List.map_nil,kI,rD,lS]
 exact⟨trivial,trivial,.inl ⟨trivial,eU _⟩,trivial,.inl ⟨trivial,eU _⟩,trivial⟩
end
section
variable {x:Cx}{g:Nat→FV}{ob:List (Option Ob)}
theorem RW {j k1 k2 e:Nat}{us:List (Int×Rat)}{y:Int}{q:Rat}(hn:Nat.beq k1 k2=false) (h1:Nat.beq j k1=false) (h2:Nat.beq j k2=false) (ho:bS ob j=some ⟨e,5,oS us++[tv (.int .i64 y),tv (.bool (aH q.num)),.sl k1 0 (dg 4294967296 q.num.natAbs).length,tv (.bool false),.sl k2 0 (dg 4294967296 q.den).length]⟩)
  (o1:bS ob k1=some ⟨113,1,(aX (dg 4294967296 q.num.natAbs)).map .t⟩) (o2:bS ob k2=some ⟨113,1,(aX (dg 4294967296 q.den)).map .t⟩):Sub x g ob g ((((ob.set j (some ⟨e,5,oS us++[tv (.int .i64 y),tv (.bool (aH q.num)),.t (sU true (dg 4294967296 q.num.natAbs)),tv (.bool false),.sl k2 0 (dg 4294967296 q.den).length]⟩)).set k1 none).set j (some ⟨e,5,oS (us++[(y,q)])⟩)).set k2 none):=by
 have hk:∀{l:List (Option Ob)}{i m:Nat}{o:Option Ob},Nat.beq i m=false→bS (l.set i o) m=bS l m:=fun{l i m o} h=>by
  unfold bS
  rw[List.getElem?_set_ne (fun e=>by subst e;simp at h)]
 have hjl:=(List.getElem?_eq_some_iff.1 (cS ho)).1
 have hk1l:=(List.getElem?_eq_some_iff.1 (cS o1)).1
 have hb:∀{a b:Nat},Nat.beq a b=false→Nat.beq b a=false:=fun{a b} h=>by
  cases hq:Nat.beq b a
  ·rfl
  rw[Nat.eq_of_beq_eq_true hq]at h
  simp at h
 have hlen:=xD us
 have s1:=iZ (x:=x) (g:=g) (ob:=ob) (j:=j) (k:=k1) (p:=us.length*5+2) (e:=113) (z:=1) (n:=(dg 4294967296 q.num.natAbs).length) (trs:=aX (dg 4294967296 q.num.natAbs)) h1 rfl ho o1 (by rw[List.getElem?_append_right (by omega)];simp[hlen]) (bV _) (bR _)
  (l':=oS us++[tv (.int .i64 y),tv (.bool (aH q.num)),.t (sU true (dg 4294967296 q.num.natAbs)),tv (.bool false),.sl k2 0 (dg 4294967296 q.den).length]) (by rw[List.set_append_right _ _ (by omega),hlen,show us.length*5+2-us.length*5=2 by omega];rfl)
 have s2:=iZ (x:=x) (g:=g) (ob:=(ob.set j (some ⟨e,5,oS us++[tv (.int .i64 y),tv (.bool (aH q.num)),.t (sU true (dg 4294967296 q.num.natAbs)),tv (.bool false),.sl k2 0 (dg 4294967296 q.den).length]⟩)).set k1 none) (j:=j) (k:=k2) (p:=us.length*5+4) (e:=113) (z:=1) (n:=(dg 4294967296 q.den).length) (trs:=aX (dg 4294967296 q.den)) (t':=e) (z':=5) h2 rfl
  (by rw[hk (hb h1)];unfold bS;rw[List.getElem?_set_self hjl]) (by rw[hk hn,hk h2];exact o2) (by rw[List.getElem?_append_right (by omega)];simp[hlen]) (bV _) (bR _)
  (l':=oS (us++[(y,q)])) (by rw[List.set_append_right _ _ (by omega),hlen,show us.length*5+4-us.length*5=4 by omega,←AZ];rfl)
 exact fun ts W hR=>s2 ts W (s1 ts W hR)
end
def iT (dl:Int×Rat→Bool):List (Int×Rat)→Nat
 | []=>0
 | x::l=>if dl x then 0 else iT dl l+1
def dR (dl:Int×Rat→Bool) (vs:List (Int×Rat)):List (Int×Rat):=vs.filter fun x=> !dl x
def zV:List Value:=[.int .i64 0,.bool false,.slice none 0 0,.bool false,.slice none 0 0]
def mI (vs F:List (Int×Rat)):List Tr:=F.flatMap (cF false)++(gE zV (vs.length-F.length)).map .v
section
variable {dl:Int×Rat→Bool}{vs us:List (Int×Rat)}{i j k:Nat}
theorem Hb:∀(vs:List (Int×Rat)),iT dl vs≤vs.length
 | []=>Nat.le_refl _
 | x::l=>by
  have:=Hb l
  unfold iT
  split <;> simp <;> omega
theorem tK:∀{vs:List (Int×Rat)}{k:Nat},k≤iT dl vs→k<vs.length→(dl (aJ vs k)=true→iT dl vs=k)∧(dl (aJ vs k)=false→k+1≤iT dl vs)
 | [],_,_,h=>by simp at h
 | x::l,0,_,_=>by
  have e:aJ (x::l) 0=x:=rfl
  rw[e]
  unfold iT
  constructor
  ·intro h;simp[h]
  intro h;simp[h]
 | x::l,k+1,h,h2=>by
  have e:aJ (x::l) (k+1)=aJ l k:=by simp[aJ]
  rw[e]
  unfold iT at h⊢
  by_cases hx:dl x=true
  ·simp[hx]at h
  simp only[if_neg hx]at h⊢
  have:=tK (vs:=l) (k:=k) (by omega) (by simpa using h2)
  exact⟨fun h=>by rw[this.1 h],fun h=>by have:=this.2 h;omega⟩
theorem zN:∀{vs:List (Int×Rat)}{k:Nat},k≤iT dl vs→(vs.take k).filter (fun x=> !dl x)=vs.take k
 | vs,0,_=>by simp
 | [],k+1,_=>by simp
 | x::l,k+1,h=>by
  unfold iT at h
  by_cases hx:dl x=true
  ·simp[hx]at h
  simp only[if_neg hx]at h
  have:=zN (vs:=l) (k:=k) (by omega)
  simp[hx,this]
theorem Hg (h:iT dl vs=vs.length):dR dl vs=vs:=by
 have:=zN (dl:=dl) (vs:=vs) (k:=vs.length) (by omega)
 rwa[List.take_of_length_le (Nat.le_refl _)]at this
theorem Hh (h:k<us.length) (x:Int×Rat):aJ (us.set k x) k=x:=by simp[aJ,h]
theorem Sx (h:iT dl vs<vs.length):vs.take (iT dl vs)=(vs.take (iT dl vs+1)).filter (fun x=> !dl x):=by
 have h1:dl (aJ vs (iT dl vs))=true:=by
  cases hq:dl (aJ vs (iT dl vs))with
  | true=>rfl
  | false=>
   have:=(tK (Nat.le_refl _) h).2 hq
   omega
 rw[lD h,List.filter_append,zN (Nat.le_refl _)]
 simp[h1]
theorem Xm (h:us.take i=(vs.take j).filter (fun x=> !dl x)) (hj:j<vs.length) (hx:dl (aJ vs j)=false) (hi:i<us.length):(us.set i (aJ vs j)).take (i+1)=(vs.take (j+1)).filter (fun x=> !dl x):=by
 rw[lD (by simpa using hi),List.take_set_of_le (Nat.le_refl _),h,Hh hi,lD hj,List.filter_append]
 simp[hx]
theorem Xl (h:us.take i=(vs.take j).filter (fun x=> !dl x)) (hj:j<vs.length) (hx:dl (aJ vs j)=true):us.take i=(vs.take (j+1)).filter (fun x=> !dl x):=by
 rw[h,lD hj,List.filter_append]
 simp[hx]
theorem JV (h:i≠j) (x:Int×Rat):aJ (us.set i x) j=aJ us j:=by simp[aJ,List.getElem?_set_ne h]
theorem Sy (hul:us.length=vs.length) (hi:i≤us.length) (h:us.take i=dR dl vs):dO (eF us) (0+i*5) ((gE zV (us.length-i)).map tv)=(mI vs (dR dl vs)).map .t:=by
 have hl:(dR dl vs).length=i:=by rw[←h,List.length_take,Nat.min_eq_left hi]
 unfold dO mI
 rw[Nat.zero_add,BA,h,List.drop_of_length_le (by rw[kP,List.length_map,qH];show us.length*5≤i*5+(us.length-i)*5;omega),List.append_nil,hl,hul]
 simp[tv]
theorem Ta (h:dR dl vs=vs):eF vs=(mI vs (dR dl vs)).map .t:=by
 unfold mI
 rw[h,Nat.sub_self]
 simp[gE,eF]
theorem Pv (vs F:List (Int×Rat)):((mI vs F).map AV.t).take (F.length*5)=(F.flatMap (cF false)).map .t:=by
 unfold mI
 rw[List.map_append]
 exact List.take_left' (by rw[List.length_map,bK])
theorem vP {fr:Int}(p:Rat) (h:k<vs.length):bB fr (vs.take (k+1)) p=jB fr (bB fr (vs.take k) p) (aJ vs k):=by
 unfold bB
 rw[lD h,List.foldl_append]
 rfl
theorem Xq {α:Type}{a b us:List α}{k:Nat}{x y:α}(h:us=a++x::b) (ha:a.length=k):us.set k y=(a++[y])++b:=by
 subst h
 rw[List.set_append_right _ _ (by omega),ha,Nat.sub_self]
 simp
theorem Ag (h:k<vs.length):vs.drop k=aJ vs k::vs.drop (k+1):=by
 rw[List.drop_eq_getElem_cons h]
 congr 1
 simp[aJ,h]
theorem Xp {a b us:List (Int×Rat)}{k:Nat}{x:Int×Rat}(h:us=a++x::b) (ha:a.length=k):aJ us k=x:=by
 subst h
 unfold aJ
 rw[List.getD_eq_getElem?_getD,List.getElem?_append_right (by omega),ha,Nat.sub_self]
 rfl
end
structure StOk (X:List (Int×Rat)) (n B:Nat):Prop where
 pos:∀x∈X,0<x.2
 len:X.length≤n
 size:gI (X.map Prod.snd)≤B
section
variable {X:List (Int×Rat)}{n B n' B':Nat}
theorem HU (fr:Int) (p:Rat):∀(xs:List (Int×Rat)),gI ((bB fr xs p).1.map Prod.snd)+wt (bB fr xs p).2.2≤gI (xs.map Prod.snd)+wt p+2*xs.length:=by
 intro xs
 have key:∀(xs:List (Int×Rat)) (s:List (Int×Rat)×List (Int×Rat)×Rat),gI ((xs.foldl (jB fr) s).1.map Prod.snd)+wt (xs.foldl (jB fr) s).2.2≤gI (s.1.map Prod.snd)+wt s.2.2+gI (xs.map Prod.snd)+2*xs.length:=by
  intro xs
  induction xs with
  | nil=>intro s;simp[gI]
  | cons x xs ih=>
   intro s
   rw[List.foldl_cons]
   refine Nat.le_trans (ih _) ?_
   have e:gI ((x::xs).map Prod.snd)=wt x.2+gI (xs.map Prod.snd):=by simp[gI]
   rw[e,List.length_cons]
   by_cases hc:fr≤x.1∧0<s.2.2.num.sign
   ·have h1:=pW (s:=s) (y:=x.1) (q:=x.2) hc.1 hc.2
    have h2:=Vq x.2 s.2.2
    rw[show jB fr s x=jB fr s (x.1,x.2) from rfl,h1]
    dsimp only
    rw[List.map_append,tL]
    simp only[List.map_cons,List.map_nil,gI,List.sum_cons,List.sum_nil]at h2⊢
    omega
   rw[pD hc]
   dsimp only
   rw[List.map_append,tL]
   simp only[List.map_cons,List.map_nil,gI,List.sum_cons,List.sum_nil]
   omega
 have:=key xs ([],[],p)
 have e:gI (([]:List (Int×Rat)).map Prod.snd)=0:=rfl
 unfold bB
 dsimp only at this
 rw[e]at this
 omega
theorem StOk.zU {fr:Int}{p:Rat}{L:Nat}(h:StOk X n B) (hB:B+wt p+2*n≤L):∀x∈(bB fr X p).1,Sz L x.2:=by
 intro x hx
 refine oD.2 ?_
 have h1:=HU fr p X
 have h2:wt x.2≤gI ((bB fr X p).1.map Prod.snd):=Mh (List.mem_map.2 ⟨x,hx,rfl⟩)
 have h3:wt x.2=vO x.2+1:=rfl
 have h4:=h.size
 have h5:=h.len
 omega
end
abbrev At:=Int×Int×Fr4
section
variable {xs:List At}{k:Nat}
end
section
variable {ls:List Fr4}{k:Nat}{a:Fr4}
end
section
variable {Z:List (Int×Rat)}{rest r4:List Tr}{k:Nat}{q:Rat}{a:Fr4}
end
inductive Pts (L:Nat):List (Int×Rat)→List (Int×Rat)→List (Int×Rat)→Prop
 | nil {Z:List (Int×Rat)}:Pts L Z [] Z
 | cons {Z us Z':List (Int×Rat)}{u:Int×Rat}{k:Nat}{r:Rat}(hk:Z[k]? =some (u.1,r)) (hr:0<r) (hf:∀j,j<k→¬((aJ Z j).1=u.1∧0<(aJ Z j).2)) (hu:0<u.2) (hle:u.2≤r) (hs:Sz L (r-u.2)) (h:Pts L (Z.set k (u.1,r-u.2)) us Z'):Pts L Z (u::us) Z'
def VE (L:List (Int×Rat)):Prop:=(L.map Prod.fst).Pairwise (· < ·)
def SP (Z:List (Int×Rat)):List (Int×Rat):=Z.filter fun x=>decide (0<x.2)
inductive UseOf:List (Int×Rat)→List (Int×Rat)→List (Int×Rat)→Prop
 | nil:UseOf [] [] []
 | skip {x:Int×Rat}{vs us vs':List (Int×Rat)}(h:UseOf vs us vs'):UseOf (x::vs) us (x::vs')
 | part {y:Int}{q m:Rat}{vs us vs':List (Int×Rat)}(h0:0<m) (h1:m<q) (h:UseOf vs us vs'):UseOf ((y,q)::vs) ((y,m)::us) ((y,q-m)::vs')
 | all {y:Int}{q:Rat}{vs us vs':List (Int×Rat)}(h0:0<q) (h:UseOf vs us vs'):UseOf ((y,q)::vs) ((y,q)::us) vs'
section
variable {Z vs us vs':List (Int×Rat)}{L:Nat}
end
theorem gG (a:Rat) (l:List Rat):eG (a::l)=a+eG l:=by
 have key:∀(l:List Rat) (a:Rat),l.foldl (· + ·) a=a+l.foldl (· + ·) 0:=by
  intro l
  induction l with
  | nil=>intro a;show a=a+0;grind
  | cons b l ih=>
   intro a
   rw[List.foldl_cons,List.foldl_cons,ih (a+b),ih (0+b)]
   grind
 unfold eG
 rw[List.foldl_cons,key]
 grind
section
variable {fr:Int}{vs:List (Int×Rat)}{r:Rat}{x:Int×Rat}
theorem mB (fr:Int):∀(vs a b:List (Int×Rat)) (r:Rat),vs.foldl (jB fr) (a,b,r)=(a++(bB fr vs r).1,b++(bB fr vs r).2.1,(bB fr vs r).2.2)
 | [],a,b,r=>by simp[bB]
 | x::vs,a,b,r=>by
  unfold bB
  rw[List.foldl_cons,List.foldl_cons]
  by_cases hc:fr≤x.1∧0<r.num.sign
  ·rw[show jB fr (a,b,r) x=_ from pW (s:=(a,b,r)) (y:=x.1) (q:=x.2) hc.1 hc.2,show jB fr ([],[],r) x=_ from pW (s:=([],[],r)) (y:=x.1) (q:=x.2) hc.1 hc.2]
   rw[mB fr vs _ _ _,mB fr vs _ _ _]
   simp
  rw[pD (s:=(a,b,r)) hc,pD (s:=([],[],r)) hc,mB fr vs _ _ _,mB fr vs _ _ _]
  simp
theorem BC (h1:fr≤x.1) (h2:0<r):bB fr (x::vs) r=((x.1,x.2-aO x.2 [r])::(bB fr vs (r-aO x.2 [r])).1,(x.1,aO x.2 [r])::(bB fr vs (r-aO x.2 [r])).2.1,(bB fr vs (r-aO x.2 [r])).2.2):=by
 have:bB fr (x::vs) r=vs.foldl (jB fr) (jB fr ([],[],r) x):=rfl
 rw[this,show jB fr ([],[],r) x=_ from pW (s:=([],[],r)) (y:=x.1) (q:=x.2) h1 ((iF r).2 h2),mB]
 rfl
theorem Oy (h:¬(fr≤x.1∧0<r)):bB fr (x::vs) r=(x::(bB fr vs r).1,(bB fr vs r).2.1,(bB fr vs r).2.2):=by
 have:bB fr (x::vs) r=vs.foldl (jB fr) (jB fr ([],[],r) x):=rfl
 rw[this,pD (s:=([],[],r)) (by rwa[iF]),mB]
 rfl
structure UseP (fr:Int) (r:Rat) (vs us vs':List (Int×Rat)) (r':Rat):Prop where
 use:UseOf vs us vs'
 yrs:∀u∈us,fr≤u.1
 sum:r=eG (us.map Prod.snd)+r'
 low:0≤r→0≤r'
 non:r≤0→us=[]
 full:∀z∈vs',fr≤z.1→r'≤0∧∀u∈us,u.1≤z.1
end
section
variable {Z Z' us:List (Int×Rat)}{L k:Nat}{u:Int×Rat}
end
section
variable {α:Type}
def cO (dl:α→Bool):List α→Nat
 | []=>0
 | x::l=>if dl x then 0 else cO dl l+1
theorem vM {dl:α→Bool}:∀(l:List α),cO dl l≤l.length
 | []=>Nat.le_refl _
 | x::l=>by
  have:=vM (dl:=dl) l
  unfold cO
  split <;> simp <;> omega
theorem lK {dl:α→Bool}{d:α}:∀{l:List α}{k:Nat},k≤cO dl l→k<l.length→(dl (l.getD k d)=true→cO dl l=k)∧(dl (l.getD k d)=false→k+1≤cO dl l)
 | [],_,_,h=>by simp at h
 | x::l,0,_,_=>by
  have e:(x::l).getD 0 d=x:=rfl
  rw[e]
  unfold cO
  exact⟨fun h=>by simp[h],fun h=>by simp[h]⟩
 | x::l,k+1,h,h2=>by
  have e:(x::l).getD (k+1) d=l.getD k d:=by simp
  rw[e]
  unfold cO at h⊢
  by_cases hx:dl x=true
  ·simp[hx]at h
  simp only[if_neg hx]at h⊢
  have:=lK (dl:=dl) (d:=d) (l:=l) (k:=k) (by omega) (by simpa using h2)
  exact⟨fun h=>by rw[this.1 h],fun h=>by have:=this.2 h;omega⟩
theorem Oz {dl:α→Bool}:∀(l:List α),l.any dl=decide (cO dl l<l.length)
 | []=>rfl
 | x::l=>by
  unfold cO
  by_cases hx:dl x=true
  ·simp[hx]
  simp only[if_neg hx,List.any_cons,Oz l,List.length_cons]
  simp[hx]
def nX (dl:α→Bool) (l:List α):Int:=if cO dl l=l.length then-1 else(cO dl l:Int)
theorem Ma {dl:α→Bool}(l:List α):decide (0≤nX dl l)=l.any dl:=by
 have h:=vM (dl:=dl) l
 rw[Oz]
 unfold nX
 split
 ·rw[decide_eq_decide];omega
 rw[decide_eq_decide];omega
end
section
variable {α:Type}{key:α→Int}
def Bt (key:α→Int) (x:α):List α→List α
 | []=>[x]
 | y::l=>if key x≤key y then x::y::l else y::Bt key x l
def vB (key:α→Int):List α→List α
 | []=>[]
 | x::l=>Bt key x (vB key l)
def Srd (key:α→Int) (l:List α):Prop:=l.Pairwise fun x y=>key x≤key y
def Kp (key:α→Int) (A B:List α):Prop:=∀y,A.filter (fun x=>decide (key x=y))=B.filter (fun x=>decide (key x=y))
variable {A B C D P Q U V M:List α}{x y:α}
theorem Kp.refl:Kp key A A:=fun _=>rfl
theorem Kp.symm (h:Kp key A B):Kp key B A:=fun y=>(h y).symm
theorem Kp.trans (h:Kp key A B) (h2:Kp key B C):Kp key A C:=fun y=>(h y).trans (h2 y)
theorem Kp.app (h:Kp key A B) (h2:Kp key C D):Kp key (A++C) (B++D):=fun y=>by rw[List.filter_append,List.filter_append,h y,h2 y]
theorem Kp.mem (h:Kp key A B):x∈A↔x∈B:=by
 have h1:=h (key x)
 have e:∀l:List α,x∈l↔x∈l.filter (fun z=>decide (key z=key x)):=fun l=>by simp[List.mem_filter]
 rw[e A,e B,h1]
theorem Kp.comm (h:∀x∈U,∀y∈V,key x≠key y):Kp key (U++V) (V++U):=by
 intro z
 rw[List.filter_append,List.filter_append]
 by_cases h1:U.filter (fun x=>decide (key x=z))=[]
 ·rw[h1,List.nil_append,List.append_nil]
 obtain⟨u,hu⟩:=List.exists_mem_of_ne_nil _ h1
 rw[List.mem_filter]at hu
 have h2:V.filter (fun x=>decide (key x=z))=[]:=by
  rw[List.filter_eq_nil_iff]
  intro v hv h3
  exact h u hu.1 v hv ((of_decide_eq_true hu.2).trans (of_decide_eq_true h3).symm)
 rw[h2,List.nil_append,List.append_nil]
theorem Ku:∀l:List α,Kp key (Bt key x l) (x::l)
 | []=>fun _=>rfl
 | y::l=>by
  unfold Bt
  split
  ·exact .refl
  rename_i h
  have h1:Kp key (y::Bt key x l) (y::x::l):=Kp.app (A:=[y]) (B:=[y]) .refl (Ku l)
  refine h1.trans ?_
  exact Kp.app (A:=[y,x]) (B:=[x,y]) (Kp.comm (U:=[y]) (V:=[x]) fun a ha b hb=>by rw[List.mem_singleton]at ha hb;subst ha;subst hb;omega) .refl
theorem oL:∀l:List α,Kp key (vB key l) l
 | []=>.refl
 | x::l=>(Ku _).trans (Kp.app (A:=[x]) (B:=[x]) .refl (oL l))
theorem Pa:∀{l:List α},Srd key l→Srd key (Bt key x l)
 | [],_=>List.pairwise_singleton _ _
 | y::l,h=>by
  have h1:=List.pairwise_cons.1 h
  unfold Bt
  split
  ·rename_i hx
   refine List.pairwise_cons.2 ⟨fun z hz=>?_,h⟩
   rcases List.mem_cons.1 hz with rfl | hz
   ·exact hx
   exact Int.le_trans hx (h1.1 z hz)
  rename_i hx
  refine List.pairwise_cons.2 ⟨fun z hz=>?_,Pa h1.2⟩
  rcases List.mem_cons.1 ((Ku l).mem.1 hz)with rfl | hz
  ·omega
  exact h1.1 z hz
theorem nP:∀l:List α,Srd key (vB key l)
 | []=>List.Pairwise.nil
 | _::l=>Pa (nP l)
theorem Pb:∀l:List α,(Bt key x l).length=l.length+1
 | []=>rfl
 | y::l=>by
  unfold Bt
  split
  ·rfl
  rw[List.length_cons,Pb l,List.length_cons]
theorem Dn:∀l:List α,(vB key l).length=l.length
 | []=>rfl
 | x::l=>by rw[vB,Pb,Dn l,List.length_cons]
theorem Srd.uniq:∀{A B:List α},Srd key A→Srd key B→Kp key A B→A=B
 | [],[],_,_,_=>rfl
 | [],y::B,_,_,h=>by
  have:=h (key y)
  simp at this
 | x::A,[],_,_,h=>by
  have:=h (key x)
  simp at this
 | x::A,y::B,hA,hB,h=>by
  have h1:=List.pairwise_cons.1 hA
  have h2:=List.pairwise_cons.1 hB
  have hx:x∈y::B:=h.mem.1 (List.mem_cons_self ..)
  have hy:y∈x::A:=h.mem.2 (List.mem_cons_self ..)
  have e1:key y≤key x:=by
   rcases List.mem_cons.1 hx with rfl | h3
   ·omega
   exact h2.1 x h3
  have e2:key x≤key y:=by
   rcases List.mem_cons.1 hy with rfl | h3
   ·omega
   exact h1.1 y h3
  have h3:=h (key x)
  rw[List.filter_cons,if_pos (by simp),List.filter_cons,if_pos (by simp;omega)]at h3
  injection h3 with e3 h3
  subst e3
  rw[Srd.uniq h1.2 h2.2 fun z=>by
   have h4:=h z
   rw[List.filter_cons,List.filter_cons]at h4
   split at h4
   ·injection h4
   exact h4]
theorem qM (h:Srd key A) (hk:Kp key A B):vB key B=A:=Srd.uniq (nP B) h ((oL B).trans hk.symm)
theorem Kv (h:Srd key A):vB key A=A:=qM h .refl
theorem Srd.app (hA:Srd key A) (hB:Srd key B) (h:∀x∈A,∀y∈B,key x≤key y):Srd key (A++B):=List.pairwise_append.2 ⟨hA,hB,h⟩
theorem Srd.l (h:Srd key (A++B)):Srd key A:=(List.pairwise_append.1 h).1
theorem Srd.r (h:Srd key (A++B)):Srd key B:=(List.pairwise_append.1 h).2.1
theorem Srd.le (h:Srd key (A++B)):∀x∈A,∀y∈B,key x≤key y:=(List.pairwise_append.1 h).2.2
theorem Wc (hX:Srd key (A++B)) (hY:Srd key (C++D)) (h1:∀x∈A,∀y∈D,key x≤key y) (h2:∀x∈B,∀y∈C,key y<key x):vB key ((A++B)++(C++D))=vB key (A++C)++vB key (B++D):=by
 refine qM (Srd.app (nP _) (nP _) fun x hx y hy=>?_) ?_
 ·rcases List.mem_append.1 ((oL _).mem.1 hx)with hx | hx <;> rcases List.mem_append.1 ((oL _).mem.1 hy)with hy | hy
  ·exact hX.le x hx y hy
  ·exact h1 x hx y hy
  ·exact Int.le_of_lt (h2 y hy x hx)
  exact hY.le x hx y hy
 refine((oL _).app (oL _)).trans ?_
 have e1:A++C++(B++D)=A++((C++B)++D):=by simp
 have e2:(A++B)++(C++D)=A++((B++C)++D):=by simp
 rw[e1,e2]
 exact Kp.refl.app ((Kp.comm fun x hx y hy=>by have:=h2 y hy x hx;omega).app .refl)
theorem Ps {D:List α}{a b:Nat}(h:a≤b) (hb:b≤D.length):∃P S Q,D=P++(S++Q)∧P.length=a∧S.length=b-a∧Q.length=D.length-b:=by
 refine⟨D.take a,(D.drop a).take (b-a),D.drop b,?_,by rw[List.length_take];omega,by rw[List.length_take,List.length_drop];omega,by rw[List.length_drop]⟩
 have:D.drop b=(D.drop a).drop (b-a):=by rw[List.drop_drop,show a+(b-a)=b by omega]
 rw[this,List.take_append_drop,List.take_append_drop]
theorem tJ {D:List α}{a:Nat}(h:a≤D.length):∃P Q,D=P++Q∧P.length=a∧Q.length=D.length-a:=⟨D.take a,D.drop a,(List.take_append_drop a D).symm,by rw[List.length_take];omega,by rw[List.length_drop]⟩
theorem Kw {d:α}:(P++x::Q).getD P.length d=x:=by simp[List.getD_eq_getElem?_getD]
theorem DI:(P++x::Q).set P.length y=P++y::Q:=by simp
theorem OE {i j:Nat}(hi:P.length=i) (hj:P.length+1+M.length=j):((P++(x::(M++y::Q))).set i y).set j x=P++(y::(M++x::Q)):=by
 subst hi
 subst hj
 rw[DI,List.set_append_right _ _ (by omega),show P.length+1+M.length-P.length=M.length+1 by omega,List.set_cons_succ,DI]
theorem OF {i j:Nat}(hi:P.length=i) (hj:P.length+1+M.length=j):((P++(x::(M++y::Q))).set j x).set i y=P++(y::(M++x::Q)):=by
 rw[List.set_comm _ _ (by omega),OE hi hj]
theorem Kx {i:Nat}{d:α}(hi:P.length=i):(P++(x::(M++y::Q))).getD i d=x:=by subst hi;exact Kw
theorem Rj {j:Nat}{d:α}(hj:P.length+1+M.length=j):(P++(x::(M++y::Q))).getD j d=y:=by
 subst hj
 have:=Kw (P:=P++(x::M)) (x:=y) (Q:=Q) (d:=d)
 rw[List.length_append,List.length_cons,show P.length+(M.length+1)=P.length+1+M.length by omega]at this
 simpa using this
theorem lT {i:Nat}{d:α}(h:P.length≤i):(P++Q).getD i d=Q.getD (i-P.length) d:=by simp[List.getD_eq_getElem?_getD,List.getElem?_append_right h]
theorem mC {i:Nat}{d:α}(h:i<P.length):(P++Q).getD i d=P.getD i d:=by simp[List.getD_eq_getElem?_getD,List.getElem?_append_left h]
theorem pS {l:List α}{i:Nat}{d:α}(h:i<l.length):l.getD i d∈l:=by rw[List.getD_eq_getElem?_getD,List.getElem?_eq_getElem h];exact List.getElem_mem h
theorem Srd.get {l:List α}{i j:Nat}{d:α}(h:Srd key l) (hij:i≤j) (hj:j<l.length):key (l.getD i d)≤key (l.getD j d):=by
 rcases Nat.eq_or_lt_of_le hij with rfl | h1
 ·omega
 have:=(List.pairwise_iff_getElem.1 h) i j (by omega) hj h1
 rw[List.getD_eq_getElem?_getD,List.getElem?_eq_getElem (by omega),List.getD_eq_getElem?_getD,List.getElem?_eq_getElem hj]
 exact this
end
section
variable {α:Type}{f:α→List Tr}{z k o:Nat}{xs:List α}{x x':α}{us:List Tr}
theorem BD (h:k<xs.length):xs=xs.take k++xs[k]::xs.drop (k+1):=by
 rw[←List.drop_eq_getElem_cons h,List.take_append_drop]
theorem dM (hf:∀x,(f x).length=z) (h:xs[k]? =some x) (hm:o+us.length≤z) (hx:f x'=(f x).take o++us++(f x).drop (o+us.length)):dO ((xs.flatMap f).map AV.t) (0+k*z+o) (us.map AV.t)=((xs.set k x').flatMap f).map .t:=by
 obtain⟨hk,rfl⟩:=List.getElem?_eq_some_iff.1 h
 rw[←Iz,Nat.zero_add]
 congr 1
 have hA:((xs.take k).flatMap f).length=k*z:=by rw[cM hf,List.length_take,Nat.min_eq_left (by omega)]
 have e:xs.flatMap f=(xs.take k).flatMap f++(f xs[k]++(xs.drop (k+1)).flatMap f):=by
  conv=>lhs;rw[BD hk]
  rw[List.flatMap_append,List.flatMap_cons]
 have hl:=hf xs[k]
 rw[List.set_eq_take_append_cons_drop,if_pos hk,List.flatMap_append,List.flatMap_cons,hx,e]
 generalize (xs.take k).flatMap f=A at*
 generalize (xs.drop (k+1)).flatMap f=C at*
 generalize f xs[k]=X at*
 unfold dO
 rw[List.take_append,List.drop_append,hA,List.take_of_length_le (l:=A) (by omega),List.drop_of_length_le (l:=A) (by omega),show k*z+o-k*z=o by omega,show k*z+o+us.length-k*z=o+us.length by omega,List.take_append,List.drop_append,show o-X.length=0 by omega,show o+us.length-X.length=0 by omega]
 simp
theorem eM (hf:∀x,(f x).length=z) (h:k<xs.length) (hm:o+us.length≤z):0+k*z+o+(us.map AV.t).length≤((xs.flatMap f).map AV.t).length:=by
 rw[List.length_map,List.length_map,cM hf]
 have:=Nat.mul_le_mul (show k+1≤xs.length by omega) (Nat.le_refl z)
 rw[Nat.add_mul]at this
 omega
end
structure Wv where
 y:Int
 e:Int
 q:Rat
def nQ:Wv:=⟨0,0,0⟩
def Rk:List Tr:=[.v (.bool false),.v (.slice none 0 0),.v (.bool false),.v (.slice none 0 0)]
def aK (x:Wv):List Tr:=.v (.int .i64 x.y)::.v (.int .i64 x.e)::((Fr4.of x.q).tr false++(Rk++(Rk++Rk)))
theorem aW (x:Wv):(aK x).length=18:=rfl
def aB (l:List Wv) (i:Nat):Wv:=l.getD i nQ
section
variable {l D P S Q U V M X Y xs:List Wv}{i j k t n a b s:Nat}{x:Wv}
theorem bM (h:i<l.length):l[i]? =some (aB l i):=by simp[aB,h]
def Xf (a b:Int):Int:=if a<b then-1 else if b<a then 1 else 0
theorem kN {a b:Int}:Xf a b<0↔a<b:=by
 unfold Xf
 by_cases h:a<b
 ·simp[h]
 by_cases h2:b<a
 ·simp[h,h2]
 simp[h,h2]
abbrev dC:List Wv→List Wv:=vB Wv.y
def SwP (P U M V Q:List Wv) (i:Nat) (D:List Wv):Prop:=∃U1 U2 V1 V2,U=U1++U2∧V=V1++V2∧U1.length=i∧V1.length=i∧D=P++((V1++U2)++(M++((U1++V2)++Q)))
theorem SwP.zero:SwP P U M V Q 0 (P++(U++(M++(V++Q)))):=⟨[],U,[],V,rfl,rfl,rfl,rfl,rfl⟩
theorem SwP.len (h:SwP P U M V Q i D):D.length=P.length+U.length+M.length+V.length+Q.length:=by
 obtain⟨U1,U2,V1,V2,rfl,rfl,h1,h2,rfl⟩:=h
 simp only[List.length_append]
 omega
theorem SwP.step (h:SwP P U M V Q i D) (hU:U.length=n) (hV:V.length=n) (hi:i<n) (ha:P.length=a) (hb:a+n+M.length=b):SwP P U M V Q (i+1) ((D.set (a+i) (aB D (b+i))).set (b+i) (aB D (a+i))):=by
 obtain⟨U1,U2,V1,V2,rfl,rfl,h1,h2,rfl⟩:=h
 rw[List.length_append]at hU hV
 cases U2 with
 | nil=>simp at hU;omega
 | cons u U2=>
  cases V2 with
  | nil=>simp at hV;omega
  | cons v V2=>
   rw[List.length_cons]at hU hV
   have e:P++((V1++u::U2)++(M++((U1++v::V2)++Q)))=(P++V1)++(u::((U2++(M++U1))++v::(V2++Q))):=by simp
   have e1:(P++V1).length=a+i:=by rw[List.length_append];omega
   have e2:(P++V1).length+1+(U2++(M++U1)).length=b+i:=by simp only[List.length_append];omega
   refine⟨U1++[u],U2,V1++[v],V2,by simp,by simp,by simp[h1],by simp[h2],?_⟩
   rw[e,aB,aB,Kx e1,Rj e2,OE e1 e2]
   simp
theorem SwP.fin (h:SwP P U M V Q n D) (hU:U.length=n) (hV:V.length=n):D=P++(V++(M++(U++Q))):=by
 obtain⟨U1,U2,V1,V2,rfl,rfl,h1,h2,rfl⟩:=h
 rw[List.length_append]at hU hV
 have e1:U2=[]:=List.eq_nil_of_length_eq_zero (by omega)
 have e2:V2=[]:=List.eq_nil_of_length_eq_zero (by omega)
 subst e1
 subst e2
 simp
def Ro (m i j:Nat) (D T:List Wv):Prop:=∃P L R Q,D=P++(L++(R++Q))∧P.length+i=m∧L.length=i∧R.length=j∧T=P++(R++(L++Q))
variable {m:Nat}{T:List Wv}
theorem Ro.len (h:Ro m i j D T):m+j≤D.length∧i≤m∧T.length=D.length:=by
 obtain⟨P,L,R,Q,rfl,h1,h2,h3,rfl⟩:=h
 simp only[List.length_append]
 omega
theorem Ro.gt (h:Ro m i j D T) (hij:j<i):∃P U M V Q,D=P++(U++(M++(V++Q)))∧P.length=m-i∧U.length=j∧V.length=j∧m-i+j+M.length=m∧Ro m (i-j) j (P++(V++(M++(U++Q)))) T:=by
 obtain⟨P,L,R,Q,rfl,h1,h2,h3,rfl⟩:=h
 obtain⟨U,M,rfl,h4,h5⟩:=tJ (D:=L) (a:=j) (by omega)
 rw[List.length_append]at h2 h5
 exact⟨P,U,M,R,Q,by simp,by omega,h4,h3,by omega,P++R,M,U,Q,by simp,by rw[List.length_append];omega,by omega,h4,by simp⟩
theorem Ro.lt (h:Ro m i j D T) (hij:i<j):∃P U M V Q,D=P++(U++(M++(V++Q)))∧P.length=m-i∧U.length=i∧V.length=i∧m-i+i+M.length=m+j-i∧Ro m i (j-i) (P++(V++(M++(U++Q)))) T:=by
 obtain⟨P,L,R,Q,rfl,h1,h2,h3,rfl⟩:=h
 obtain⟨M,V,rfl,h4,h5⟩:=tJ (D:=R) (a:=j-i) (by omega)
 rw[List.length_append]at h3 h5
 exact⟨P,L,M,V,Q,by simp,by omega,h2,by omega,by omega,P,V,M,L++Q,by simp,h1,by omega,by omega,by simp⟩
theorem Ro.eq (h:Ro m i i D T):∃P U V Q,D=P++(U++([]++(V++Q)))∧P.length=m-i∧U.length=i∧V.length=i∧m-i+i+([]:List Wv).length=m∧P++(V++([]++(U++Q)))=T:=by
 obtain⟨P,L,R,Q,rfl,h1,h2,h3,rfl⟩:=h
 exact⟨P,L,R,Q,by simp,by omega,h2,h3,by simp;omega,by simp⟩
def Ins (P S Q D:List Wv) (t j:Nat):Prop:=∃A1 A2,D=P++(A1++(aB S t::(A2++(S.drop (t+1)++Q))))∧A1++A2=dC (S.take t)∧P.length+A1.length=j∧∀z∈A2,(aB S t).y<z.y
theorem Ins.start (ht:t<S.length) (h:D=P++(dC (S.take t)++(S.drop t++Q))):Ins P S Q D t (P.length+t):=by
 refine⟨dC (S.take t),[],?_,by simp,by rw[Dn,List.length_take];omega,fun z hz=>by cases hz⟩
 have e:=bM ht
 rw[List.getElem?_eq_getElem ht]at e
 rw[h,←Option.some.inj e,List.drop_eq_getElem_cons ht]
 rfl
theorem Ins.len (h:Ins P S Q D t j):P.length≤j∧j<D.length:=by
 obtain⟨A1,A2,rfl,h1,h2,h3⟩:=h
 simp only[List.length_append,List.length_cons]
 omega
theorem Ins.at (h:Ins P S Q D t j):aB D j=aB S t:=by
 obtain⟨A1,A2,rfl,h1,h2,h3⟩:=h
 rw[←List.append_assoc]
 have e:(P++A1).length=j:=by rw[List.length_append,h2]
 subst e
 exact Kw
theorem Ins.step (h:Ins P S Q D t j) (hj:P.length<j) (hc:(aB D j).y<(aB D (j-1)).y):Ins P S Q ((D.set j (aB D (j-1))).set (j-1) (aB D j)) t (j-1):=by
 have hat:=h.at
 obtain⟨A1,A2,hD,h1,h2,h3⟩:=h
 rcases List.eq_nil_or_concat A1 with rfl | ⟨B,z,rfl⟩
 ·simp at h2;omega
 rw[List.concat_eq_append]at*
 rw[List.length_append,List.length_singleton]at h2
 have e:P++((B++[z])++(aB S t::(A2++(S.drop (t+1)++Q))))=(P++B)++(z::([]++aB S t::(A2++(S.drop (t+1)++Q)))):=by simp
 have e1:(P++B).length=j-1:=by rw[List.length_append];omega
 have e2:(P++B).length+1+([]:List Wv).length=j:=by simp only[List.length_append,List.length_nil];omega
 rw[hD,e]at hc⊢
 have hz:aB ((P++B)++(z::([]++aB S t::(A2++(S.drop (t+1)++Q))))) (j-1)=z:=Kx e1
 have hy:aB ((P++B)++(z::([]++aB S t::(A2++(S.drop (t+1)++Q))))) j=aB S t:=Rj e2
 rw[hz,hy]at hc⊢
 refine⟨B,z::A2,?_,by rw[←h1];simp,by omega,fun w hw=>?_⟩
 ·rw[OF e1 e2]
  simp
 rcases List.mem_cons.1 hw with rfl | hw
 ·exact hc
 exact h3 w hw
theorem Ins.stop (h:Ins P S Q D t j) (ht:t<S.length) (hs:j≤P.length∨¬(aB D j).y<(aB D (j-1)).y):D=P++(dC (S.take (t+1))++(S.drop (t+1)++Q)):=by
 have hat:=h.at
 obtain⟨A1,A2,hD,h1,h2,h3⟩:=h
 have e:S.take (t+1)=S.take t++[aB S t]:=by rw[List.take_add_one,bM ht];rfl
 have hs9:=nP (key:=Wv.y) (S.take t)
 have h1':A1++A2=vB Wv.y (S.take t):=h1
 rw[←h1']at hs9
 have hle:∀z∈A1,z.y≤(aB S t).y:=by
  intro z hz
  rcases hs with hs | hs
  ·have:A1=[]:=List.eq_nil_of_length_eq_zero (by omega)
   rw[this]at hz
   cases hz
  rcases List.eq_nil_or_concat A1 with rfl | ⟨B,w,rfl⟩
  ·cases hz
  rw[List.concat_eq_append]at*
  have e0:P++((B++[w])++(aB S t::(A2++(S.drop (t+1)++Q))))=(P++B)++(w::([]++aB S t::(A2++(S.drop (t+1)++Q)))):=by simp
  rw[List.length_append,List.length_singleton]at h2
  have e1:(P++B).length=j-1:=by rw[List.length_append];omega
  have hw9:aB D (j-1)=w:=by rw[hD,e0];exact Kx e1
  rw[hat,hw9]at hs
  rcases List.mem_append.1 hz with hz | hz
  ·have:=(hs9.l).le z hz w (List.mem_singleton.2 rfl)
   omega
  rw[List.mem_singleton.1 hz]
  omega
 have hsr:dC (S.take (t+1))=A1++(aB S t::A2):=by
  refine qM ?_ ?_
  ·refine Srd.app hs9.l (List.pairwise_cons.2 ⟨fun z hz=>Int.le_of_lt (h3 z hz),hs9.r⟩) fun x hx y hy=>?_
   rcases List.mem_cons.1 hy with rfl | hy
   ·exact hle x hx
   exact hs9.le x hx y hy
  rw[e]
  have k1:Kp Wv.y (A1++([aB S t]++A2)) (A1++(A2++[aB S t])):=Kp.refl.app (Kp.comm fun x hx y hy=>by have:=h3 y hy;rw[List.mem_singleton]at hx;subst hx;omega)
  refine Kp.trans (B:=A1++(A2++[aB S t])) k1 ?_
  rw[←List.append_assoc,h1']
  exact(oL _).app .refl
 rw[hsr,hD]
 simp
end
section
variable {l D P S Q U V M X Y xs:List Wv}{i j k t n a b c s m p lo hi:Nat}{x:Wv}
theorem gU:(dC l).length=l.length:=Dn l
def B1 (P:List Wv) (x:Wv) (Y Q:List Wv) (k:Nat) (D:List Wv):Prop:=∃Y1 Y2,Y=Y1++Y2∧D=P++(Y1++(x::(Y2++Q)))∧P.length+Y1.length=k
theorem B1.zero:B1 P x Y Q P.length (P++(x::(Y++Q))):=⟨[],Y,rfl,rfl,rfl⟩
theorem B1.len (h:B1 P x Y Q k D):D.length=P.length+1+Y.length+Q.length:=by
 obtain⟨Y1,Y2,rfl,rfl,h⟩:=h
 simp only[List.length_append,List.length_cons]
 omega
theorem B1.step (h:B1 P x Y Q k D) (hk:k<P.length+Y.length):B1 P x Y Q (k+1) ((D.set k (aB D (k+1))).set (k+1) (aB D k)):=by
 obtain⟨Y1,Y2,rfl,rfl,h⟩:=h
 rw[List.length_append]at hk
 cases Y2 with
 | nil=>simp at hk;omega
 | cons y Y2=>
  have e:P++(Y1++(x::(y::Y2++Q)))=(P++Y1)++(x::([]++y::(Y2++Q))):=by simp
  have e1:(P++Y1).length=k:=by rw[List.length_append];omega
  have e2:(P++Y1).length+1+([]:List Wv).length=k+1:=by simp only[List.length_append,List.length_nil];omega
  refine⟨Y1++[y],Y2,by simp,?_,by simp;omega⟩
  rw[e,aB,aB,Kx e1,Rj e2,OE e1 e2]
  simp
theorem B1.fin (h:B1 P x Y Q k D) (hk:P.length≤k) (hk2:k≤P.length+Y.length) (hY:Srd Wv.y Y) (h1:∀c,c<k-P.length→(aB Y c).y<x.y) (h2:∀c,k-P.length≤c→c<Y.length→x.y≤(aB Y c).y):D=P++(dC (x::Y)++Q):=by
 obtain⟨Y1,Y2,rfl,rfl,h⟩:=h
 have e1:∀z∈Y1,z.y<x.y:=by
  intro z hz
  obtain⟨c,hc,rfl⟩:=List.getElem_of_mem hz
  have:=h1 c (by omega)
  rw[aB,mC hc,List.getD_eq_getElem?_getD,List.getElem?_eq_getElem hc]at this
  exact this
 have e2:∀z∈Y2,x.y≤z.y:=by
  intro z hz
  obtain⟨c,hc,rfl⟩:=List.getElem_of_mem hz
  have:=h2 (Y1.length+c) (by omega) (by rw[List.length_append];omega)
  rw[aB,lT (by omega),show Y1.length+c-Y1.length=c by omega,List.getD_eq_getElem?_getD,List.getElem?_eq_getElem hc]at this
  exact this
 have e3:dC (x::(Y1++Y2))=Y1++(x::Y2):=by
  refine qM ?_ ?_
  ·refine Srd.app hY.l (List.pairwise_cons.2 ⟨e2,hY.r⟩) fun u hu v hv=>?_
   rcases List.mem_cons.1 hv with rfl | hv
   ·exact Int.le_of_lt (e1 u hu)
   exact hY.le u hu v hv
  have k1:Kp Wv.y ((Y1++[x])++Y2) (([x]++Y1)++Y2):=(Kp.comm fun u hu v hv=>by have:=e1 u hu;rw[List.mem_singleton]at hv;subst hv;omega).app .refl
  simpa using k1
 rw[e3]
 simp
def B2 (P X:List Wv) (x:Wv) (Q:List Wv) (k:Nat) (D:List Wv):Prop:=∃X1 X2,X=X1++X2∧D=P++(X1++(x::(X2++Q)))∧P.length+X1.length=k
theorem B2.zero:B2 P X x Q (P.length+X.length) (P++(X++(x::Q))):=⟨X,[],by simp,rfl,rfl⟩
theorem B2.len (h:B2 P X x Q k D):D.length=P.length+1+X.length+Q.length∧k≤P.length+X.length:=by
 obtain⟨Y1,Y2,rfl,rfl,h⟩:=h
 simp only[List.length_append,List.length_cons]
 omega
theorem B2.step (h:B2 P X x Q k D) (hk:P.length<k):B2 P X x Q (k-1) ((D.set k (aB D (k-1))).set (k-1) (aB D k)):=by
 obtain⟨X1,X2,rfl,rfl,h⟩:=h
 rcases List.eq_nil_or_concat X1 with rfl | ⟨B,z,rfl⟩
 ·simp at h;omega
 rw[List.concat_eq_append]at*
 rw[List.length_append,List.length_singleton]at h
 have e:P++((B++[z])++(x::(X2++Q)))=(P++B)++(z::([]++x::(X2++Q))):=by simp
 have e1:(P++B).length=k-1:=by rw[List.length_append];omega
 have e2:(P++B).length+1+([]:List Wv).length=k:=by simp only[List.length_append,List.length_nil];omega
 refine⟨B,z::X2,by simp,?_,by omega⟩
 rw[e,aB,aB,Kx e1,Rj e2,OF e1 e2]
 simp
theorem B2.fin (h:B2 P X x Q k D) (hX:Srd Wv.y X) (h1:∀c,c<k-P.length→(aB X c).y≤x.y) (h2:∀c,k-P.length≤c→c<X.length→x.y<(aB X c).y):D=P++(dC (X++[x])++Q):=by
 obtain⟨Y1,Y2,rfl,rfl,h⟩:=h
 have e1:∀z∈Y1,z.y≤x.y:=by
  intro z hz
  obtain⟨c,hc,rfl⟩:=List.getElem_of_mem hz
  have:=h1 c (by omega)
  rw[aB,mC hc,List.getD_eq_getElem?_getD,List.getElem?_eq_getElem hc]at this
  exact this
 have e2:∀z∈Y2,x.y<z.y:=by
  intro z hz
  obtain⟨c,hc,rfl⟩:=List.getElem_of_mem hz
  have:=h2 (Y1.length+c) (by omega) (by rw[List.length_append];omega)
  rw[aB,lT (by omega),show Y1.length+c-Y1.length=c by omega,List.getD_eq_getElem?_getD,List.getElem?_eq_getElem hc]at this
  exact this
 have e3:dC ((Y1++Y2)++[x])=Y1++(x::Y2):=by
  refine qM ?_ ?_
  ·refine Srd.app hX.l (List.pairwise_cons.2 ⟨fun z hz=>Int.le_of_lt (e2 z hz),hX.r⟩) fun u hu v hv=>?_
   rcases List.mem_cons.1 hv with rfl | hv
   ·exact e1 u hu
   exact hX.le u hu v hv
  have k1:Kp Wv.y (Y1++([x]++Y2)) (Y1++(Y2++[x])):=Kp.refl.app (Kp.comm fun u hu v hv=>by have:=e2 v hv;rw[List.mem_singleton]at hu;subst hu;omega)
  simpa using k1
 rw[e3]
 simp
theorem mW (h:i<X.length) (hD:D=P++(X++(Y++Q))):aB D (P.length+i)=aB X i:=by
 subst hD
 rw[aB,lT (by omega),show P.length+i-P.length=i by omega,mC h,aB]
theorem mX (h:i<Y.length) (hD:D=P++(X++(Y++Q))):aB D (P.length+X.length+i)=aB Y i:=by
 subst hD
 rw[aB,lT (by omega),lT (by omega),mC (by omega),aB]
 congr 1
 omega
structure Cut (D:List Wv) (p lo hi s r:Nat):Prop where
 b:lo≤s∧s≤r∧r≤hi
 l:∀c,lo≤c→c<s→(aB D c).y≤(aB D (p-c)).y
 u:∀c,r≤c→c<hi→(aB D (p-c)).y<(aB D c).y
theorem Cut.start (h:lo≤hi):Cut D p lo hi lo hi:=⟨by omega,fun c h1 h2=>by omega,fun c h1 h2=>by omega⟩
section
variable {r:Nat}(hD:D=P++(X++(Y++Q))) (hX:Srd Wv.y X) (hY:Srd Wv.y Y) (h:Cut D p lo hi s r) (ha:P.length≤lo) (hm:hi≤P.length+X.length) (hp1:∀c,lo≤c→c<hi→P.length+X.length≤p-c∧p-c<P.length+X.length+Y.length∧c≤p)
include hD hX hY h ha hm hp1
theorem Cut.up (h1:s≤c) (h2:c<r) (hc:¬(aB D (p-c)).y<(aB D c).y):Cut D p lo hi (c+1) r:=by
 have hb:=h.b
 refine⟨by omega,fun d h3 h4=>?_,h.u⟩
 by_cases hd:d<s
 ·exact h.l d h3 hd
 have e1:=mW (P:=P) (X:=X) (Y:=Y) (Q:=Q) (i:=c-P.length) (by omega) hD
 have e2:=mW (P:=P) (X:=X) (Y:=Y) (Q:=Q) (i:=d-P.length) (by omega) hD
 have q1:=hp1 c (by omega) (by omega)
 have q2:=hp1 d (by omega) (by omega)
 have e3:=mX (P:=P) (X:=X) (Y:=Y) (Q:=Q) (i:=p-c-(P.length+X.length)) (by omega) hD
 have e4:=mX (P:=P) (X:=X) (Y:=Y) (Q:=Q) (i:=p-d-(P.length+X.length)) (by omega) hD
 rw[show P.length+(c-P.length)=c by omega]at e1
 rw[show P.length+(d-P.length)=d by omega]at e2
 rw[show P.length+X.length+(p-c-(P.length+X.length))=p-c by omega]at e3
 rw[show P.length+X.length+(p-d-(P.length+X.length))=p-d by omega]at e4
 rw[e1,e3]at hc
 rw[e2,e4]
 have k1:=hX.get (d:=nQ) (i:=d-P.length) (j:=c-P.length) (by omega) (by omega)
 have k2:=hY.get (d:=nQ) (i:=p-c-(P.length+X.length)) (j:=p-d-(P.length+X.length)) (by omega) (by omega)
 unfold aB at hc⊢
 omega
theorem Cut.dn (h1:s≤c) (h2:c<r) (hc:(aB D (p-c)).y<(aB D c).y):Cut D p lo hi s c:=by
 have hb:=h.b
 refine⟨by omega,h.l,fun d h3 h4=>?_⟩
 by_cases hd:r≤d
 ·exact h.u d hd h4
 have e1:=mW (P:=P) (X:=X) (Y:=Y) (Q:=Q) (i:=c-P.length) (by omega) hD
 have e2:=mW (P:=P) (X:=X) (Y:=Y) (Q:=Q) (i:=d-P.length) (by omega) hD
 have q1:=hp1 c (by omega) (by omega)
 have q2:=hp1 d (by omega) (by omega)
 have e3:=mX (P:=P) (X:=X) (Y:=Y) (Q:=Q) (i:=p-c-(P.length+X.length)) (by omega) hD
 have e4:=mX (P:=P) (X:=X) (Y:=Y) (Q:=Q) (i:=p-d-(P.length+X.length)) (by omega) hD
 rw[show P.length+(c-P.length)=c by omega]at e1
 rw[show P.length+(d-P.length)=d by omega]at e2
 rw[show P.length+X.length+(p-c-(P.length+X.length))=p-c by omega]at e3
 rw[show P.length+X.length+(p-d-(P.length+X.length))=p-d by omega]at e4
 rw[e1,e3]at hc
 rw[e2,e4]
 have k1:=hX.get (d:=nQ) (i:=c-P.length) (j:=d-P.length) (by omega) (by omega)
 have k2:=hY.get (d:=nQ) (i:=p-d-(P.length+X.length)) (j:=p-c-(P.length+X.length)) (by omega) (by omega)
 unfold aB at hc⊢
 omega
theorem Cut.fin (hr:r≤s) (hlo:lo=P.length∨p+1-lo=P.length+X.length+Y.length) (hhi:hi=P.length+X.length∨p+1-hi=P.length+X.length) (hs1:P.length+X.length≤p+1-s∧p+1-s≤P.length+X.length+Y.length∧s≤p+1):
  ∃A B C E,X=A++B∧Y=C++E∧P.length+A.length=s∧P.length+X.length+C.length=p+1-s∧dC (X++Y)=dC (A++C)++dC (B++E):=by
 have hb:=h.b
 obtain⟨A,B,hX2,hA,hB⟩:=tJ (D:=X) (a:=s-P.length) (by omega)
 obtain⟨C,E,hY2,hC,hE⟩:=tJ (D:=Y) (a:=p+1-s-(P.length+X.length)) (by omega)
 refine⟨A,B,C,E,hX2,hY2,by omega,by omega,?_⟩
 have hXl:X.length=A.length+B.length:=by rw[hX2,List.length_append]
 have hYl:Y.length=C.length+E.length:=by rw[hY2,List.length_append]
 have gX:∀i,i<X.length→aB D (P.length+i)=aB X i:=fun i hi=>mW hi hD
 have gY:∀i,i<Y.length→aB D (P.length+X.length+i)=aB Y i:=fun i hi=>mX hi hD
 have hXs:=hX
 have hYs:=hY
 rw[hX2]at hXs
 rw[hY2]at hYs
 have key:=Wc hXs hYs (fun x hx y hy=>?_) (fun x hx y hy=>?_)
 ·rw[hX2,hY2]
  exact key
 ·-- A before E
  obtain⟨i,hi,rfl⟩:=List.getElem_of_mem hx
  obtain⟨j,hj,rfl⟩:=List.getElem_of_mem hy
  have hlt:lo<s:=by omega
  have h9:=h.l (s-1) (by omega) (by omega)
  have q9:=hp1 (s-1) (by omega) (by omega)
  have e1:=gX (s-1-P.length) (by omega)
  have e2:=gY (p-(s-1)-(P.length+X.length)) (by omega)
  rw[show P.length+(s-1-P.length)=s-1 by omega]at e1
  rw[show P.length+X.length+(p-(s-1)-(P.length+X.length))=p-(s-1) by omega]at e2
  rw[e1,e2]at h9
  have k1:=hX.get (d:=nQ) (i:=i) (j:=s-1-P.length) (by omega) (by omega)
  have k2:=hY.get (d:=nQ) (i:=p-(s-1)-(P.length+X.length)) (j:=C.length+j) (by omega) (by omega)
  have e3:X.getD i nQ=A[i]:=by rw[hX2,mC hi,List.getD_eq_getElem?_getD,List.getElem?_eq_getElem hi];rfl
  have e4:Y.getD (C.length+j) nQ=E[j]:=by rw[hY2,lT (by omega),show C.length+j-C.length=j by omega,List.getD_eq_getElem?_getD,List.getElem?_eq_getElem hj];rfl
  rw[e3]at k1
  rw[e4]at k2
  unfold aB at h9
  omega
 obtain⟨i,hi9,rfl⟩:=List.getElem_of_mem hx
 obtain⟨j,hj,rfl⟩:=List.getElem_of_mem hy
 have hlt:s<hi:=by omega
 have h9:=h.u s (by omega) (by omega)
 have q9:=hp1 s (by omega) (by omega)
 have e1:=gX (s-P.length) (by omega)
 have e2:=gY (p-s-(P.length+X.length)) (by omega)
 rw[show P.length+(s-P.length)=s by omega]at e1
 rw[show P.length+X.length+(p-s-(P.length+X.length))=p-s by omega]at e2
 rw[e1,e2]at h9
 have k1:=hX.get (d:=nQ) (i:=s-P.length) (j:=A.length+i) (by omega) (by omega)
 have k2:=hY.get (d:=nQ) (i:=j) (j:=p-s-(P.length+X.length)) (by omega) (by omega)
 have e3:X.getD (A.length+i) nQ=B[i]:=by rw[hX2,lT (by omega),show A.length+i-A.length=i by omega,List.getD_eq_getElem?_getD,List.getElem?_eq_getElem hi9];rfl
 have e4:Y.getD j nQ=C[j]:=by rw[hY2,mC hj,List.getD_eq_getElem?_getD,List.getElem?_eq_getElem hj];rfl
 rw[e3]at k1
 rw[e4]at k2
 unfold aB at h9
 omega
end
theorem Pc (h1:P.length=a) (h2:a+S.length=b) (hk:k+n≤a∨b≤k):((P++(dC S++Q)).drop k).take n=((P++(S++Q)).drop k).take n:=by
 rcases hk with hk | hk
 ·rw[List.drop_append_of_le_length (by omega),List.take_append_of_le_length (by rw[List.length_drop];omega),List.drop_append_of_le_length (by omega),List.take_append_of_le_length (by rw[List.length_drop];omega)]
 have e1:∀Z:List Wv,Z.length=S.length→(P++(Z++Q)).drop k=Q.drop (k-b):=fun Z hZ=>by
  rw[List.drop_append,List.drop_of_length_le (by omega),List.drop_append,List.drop_of_length_le (by omega),List.nil_append,List.nil_append]
  congr 1
  omega
 rw[e1 _ gU,e1 _ rfl]
theorem OG (h1:P.length=a):((P++(S++Q)).drop a).take S.length=S:=by
 subst h1
 simp
theorem OH:Kp Wv.y (P++(dC S++Q)) (P++(S++Q)):=Kp.refl.app ((oL S).app .refl)
end
section
variable {l D P S Q U V M X Y xs A B C E:List Wv}{i j k t n a b c s m p lo hi r:Nat}{x y:Wv}{f:Nat→Prop}
structure Bis (f:Nat→Prop) (lo hi s r:Nat):Prop where
 b:lo≤s∧s≤r∧r≤hi
 l:∀c,lo≤c→c<s→f c
 u:∀c,r≤c→c<hi→¬f c
theorem Bis.start (h:lo≤hi):Bis f lo hi lo hi:=⟨by omega,fun c h1 h2=>by omega,fun c h1 h2=>by omega⟩
theorem Bis.up (h:Bis f lo hi s r) (hf:∀c d,lo≤c→c≤d→d<hi→f d→f c) (h1:s≤c) (h2:c<r) (hc:f c):Bis f lo hi (c+1) r:=by
 have hb:=h.b
 exact⟨by omega,fun d h3 h4=>hf d c h3 (by omega) (by omega) hc,h.u⟩
theorem Bis.dn (h:Bis f lo hi s r) (hf:∀c d,lo≤c→c≤d→d<hi→f d→f c) (h1:s≤c) (h2:c<r) (hc:¬f c):Bis f lo hi s c:=by
 have hb:=h.b
 exact⟨by omega,h.l,fun d h3 h4 hd=>hc (hf c d (by omega) h3 h4 hd)⟩
theorem SE (hD:D=P++(X++(Y++Q))) (hX:Srd Wv.y X) (ha:P.length=a) (hm:a+X.length=m):∀c d,a≤c→c≤d→d<m→(aB D c).y≤(aB D d).y:=by
 intro c d h1 h2 h3
 have e1:=mW (P:=P) (X:=X) (Y:=Y) (Q:=Q) (i:=c-P.length) (by omega) hD
 have e2:=mW (P:=P) (X:=X) (Y:=Y) (Q:=Q) (i:=d-P.length) (by omega) hD
 rw[show P.length+(c-P.length)=c by omega]at e1
 rw[show P.length+(d-P.length)=d by omega]at e2
 rw[e1,e2]
 exact hX.get (by omega) (by omega)
theorem SC (hD:D=P++(X++(Y++Q))) (hY:Srd Wv.y Y) (ha:P.length=a) (hm:a+X.length=m) (hb:m+Y.length=b):∀c d,m≤c→c≤d→d<b→(aB D c).y≤(aB D d).y:=by
 intro c d h1 h2 h3
 have e1:=mX (P:=P) (X:=X) (Y:=Y) (Q:=Q) (i:=c-m) (by omega) hD
 have e2:=mX (P:=P) (X:=X) (Y:=Y) (Q:=Q) (i:=d-m) (by omega) hD
 rw[show P.length+X.length+(c-m)=c by omega]at e1
 rw[show P.length+X.length+(d-m)=d by omega]at e2
 rw[e1,e2]
 exact hY.get (by omega) (by omega)
theorem SD (hx:xs=P++([x]++(Y++Q))) (ha:P.length=a) (hm:m=a+1) (hb:m+Y.length=b) (hY:Srd Wv.y Y) (h:Bis (fun c=>(aB xs c).y<(aB xs a).y) m b i j) (hj:j≤i) (hB:B1 P x Y Q (i-1) D):D=P++(dC (x::Y)++Q):=by
 subst hm
 have hb9:=h.b
 have ex:aB xs a=x:=by
  have:=mW (P:=P) (X:=[x]) (Y:=Y) (Q:=Q) (i:=0) (by simp) hx
  rw[ha]at this
  exact this
 have eY:∀c,c<Y.length→aB xs (a+1+c)=aB Y c:=fun c hc=>by
  have:=mX (P:=P) (X:=[x]) (Y:=Y) (Q:=Q) (i:=c) hc hx
  rw[ha]at this
  exact this
 refine hB.fin (by omega) (by omega) hY (fun c hc=>?_) fun c h1 h2=>?_
 ·have:=h.l (a+1+c) (by omega) (by omega)
  rw[ex,eY c (by omega)]at this
  exact this
 have:=h.u (a+1+c) (by omega) (by omega)
 rw[ex,eY c h2]at this
 omega
theorem SF (hx:xs=P++(X++([x]++Q))) (ha:P.length=a) (hm:a+X.length=m) (hX:Srd Wv.y X) (h:Bis (fun c=>¬(aB xs m).y<(aB xs c).y) a m i j) (hj:j≤i) (hB:B2 P X x Q i D):D=P++(dC (X++[x])++Q):=by
 have hb9:=h.b
 have ex:aB xs m=x:=by
  have:=mX (P:=P) (X:=X) (Y:=[x]) (Q:=Q) (i:=0) (by simp) hx
  rw[ha,hm]at this
  exact this
 have eX:∀c,c<X.length→aB xs (a+c)=aB X c:=fun c hc=>by
  have:=mW (P:=P) (X:=X) (Y:=[x]) (Q:=Q) (i:=c) hc hx
  rw[ha]at this
  exact this
 refine hB.fin hX (fun c hc=>?_) fun c h1 h2=>?_
 ·have:=h.l (a+c) (by omega) (by omega)
  rw[ex,eX c (by omega)]at this
  omega
 have:=h.u (a+c) (by omega) (by omega)
 rw[ex,eX c h2]at this
 omega
theorem JI (hx:xs=P++((A++B)++((C++E)++Q))) (h1:P.length+A.length=s) (h2:s+B.length=m) (h3:m+C.length=n):Ro m (m-s) (n-m) xs (P++(A++(C++(B++(E++Q))))):=⟨P++A,B,C,E++Q,by rw[hx];simp,by rw[List.length_append];omega,by omega,by omega,by simp⟩
theorem JJ (hx:xs=P++((A++B)++((C++E)++Q))) (h:B.length=0∨C.length=0):xs=P++(A++(C++(B++(E++Q)))):=by
 rcases h with h | h
 ·rw[List.eq_nil_of_length_eq_zero h]at hx⊢
  rw[hx]
  simp
 rw[List.eq_nil_of_length_eq_zero h]at hx⊢
 rw[hx]
 simp
theorem So (hA:Srd Wv.y A) (hC:Srd Wv.y C) (h:A.length=0∨C.length=0):dC (A++C)=A++C:=by
 rcases h with h | h
 ·rw[List.eq_nil_of_length_eq_zero h,List.nil_append]
  exact Kv hC
 rw[List.eq_nil_of_length_eq_zero h,List.append_nil]
 exact Kv hA
theorem Xg:dC (S.take 1)=S.take 1:=by
 cases S with
 | nil=>rfl
 | cons x S=>rfl
def Blk9 (s t:Nat) (D:List Wv):Prop:=∀k,k<t→Srd Wv.y ((D.drop (k*s)).take s)
def All9 (s:Nat) (D:List Wv):Prop:=∀k,Srd Wv.y ((D.drop (k*s)).take s)
theorem Srd.take {l:List Wv}(h:Srd Wv.y l) (n:Nat):Srd Wv.y (l.take n):=List.Pairwise.sublist (List.take_sublist n l) h
theorem Blk9.out (h:Blk9 s t (P++(S++Q))) (hP:P.length=t*s):Blk9 s t (P++(dC S++Q)):=by
 intro k hk
 have h1:(k+1)*s≤t*s:=Nat.mul_le_mul_right s hk
 rw[Nat.succ_mul]at h1
 rw[Pc (a:=t*s) (b:=t*s+S.length) hP rfl (.inl h1)]
 exact h k hk
theorem Blk9.step (h:Blk9 s t (P++(S++Q))) (hP:P.length=t*s) (hS:S.length=s):Blk9 s (t+1) (P++(dC S++Q)):=by
 intro k hk
 rcases Nat.lt_succ_iff_lt_or_eq.1 hk with hk | rfl
 ·exact h.out hP k hk
 have:=OG (P:=P) (S:=dC S) (Q:=Q) (a:=k*s) hP
 rw[gU,hS]at this
 rw[this]
 exact nP _
theorem Blk9.all (h:Blk9 s t (P++(S++[]))) (hP:P.length=t*s) (hS:S.length≤s):All9 s (P++(dC S++[])):=by
 intro k
 rcases Nat.lt_trichotomy k t with hk | rfl | hk
 ·exact h.out hP k hk
 ·rw[List.append_nil,←hP,List.drop_append_of_le_length (Nat.le_refl _),List.drop_length,List.nil_append]
  exact(nP _).take _
 have h1:(t+1)*s≤k*s:=Nat.mul_le_mul_right s hk
 rw[Nat.succ_mul]at h1
 rw[List.drop_of_length_le (by rw[List.append_nil,List.length_append,gU];omega),List.take_nil]
 exact List.Pairwise.nil
structure Mg9 (s t:Nat) (D:List Wv):Prop where
 l:Blk9 (2*s) t D
 u:∀k,2*t≤k→Srd Wv.y ((D.drop (k*s)).take s)
theorem Mg9.start (h:All9 s D):Mg9 s 0 D:=⟨fun k hk=>by omega,fun k _=>h k⟩
theorem uS:2*t*s=t*(2*s):=by rw[Nat.mul_comm 2 t,Nat.mul_assoc]
theorem Mg9.px (h:Mg9 s t (P++(X++(Y++Q)))) (hP:P.length=t*(2*s)) (hX:X.length=s):Srd Wv.y X:=by
 have h1:=h.u (2*t) (Nat.le_refl _)
 rw[uS,←hP,List.drop_append_of_le_length (Nat.le_refl _),List.drop_length,List.nil_append,←hX,List.take_append_of_le_length (Nat.le_refl _),List.take_length]at h1
 exact h1
theorem Mg9.py (h:Mg9 s t (P++(X++(Y++Q)))) (hP:P.length=t*(2*s)) (hX:X.length=s) (hY:Y.length≤s) (hQ:Y.length=s∨Q=[]):Srd Wv.y Y:=by
 have h1:=h.u (2*t+1) (by omega)
 rw[Nat.succ_mul,uS,←hP]at h1
 rw[←List.append_assoc,List.drop_append_of_le_length (by rw[List.length_append];omega),←hX,←List.length_append,List.drop_length,List.nil_append]at h1
 rcases hQ with hQ | rfl
 ·rw[hX,←hQ,List.take_append_of_le_length (Nat.le_refl _),List.take_length]at h1
  exact h1
 rw[List.append_nil,List.take_of_length_le (by omega)]at h1
 exact h1
theorem Mg9.step (h:Mg9 s t (P++(S++Q))) (hP:P.length=t*(2*s)) (hS:S.length=2*s):Mg9 s (t+1) (P++(dC S++Q)):=by
 refine⟨h.l.step hP hS,fun k hk=>?_⟩
 have h1:(2*(t+1))*s≤k*s:=Nat.mul_le_mul_right s hk
 rw[uS,Nat.succ_mul]at h1
 rw[Pc (a:=t*(2*s)) (b:=t*(2*s)+S.length) hP rfl (.inr (by omega))]
 exact h.u k (by omega)
theorem Mg9.all2 (h:Mg9 s t D) (hD:D.length≤t*(2*s)+s):All9 (2*s) D:=by
 intro k
 rcases Nat.lt_or_ge k t with hk | hk
 ·exact h.l k hk
 have h1:t*(2*s)≤k*(2*s):=Nat.mul_le_mul_right _ hk
 have h2:=h.u (2*k) (by omega)
 rw[uS]at h2
 rw[List.take_of_length_le (by rw[List.length_drop];omega)]at h2⊢
 exact h2
theorem All9.fin (h:All9 s D) (hs:D.length≤s) (hk:Kp Wv.y D xs):dC xs=D:=by
 have h1:=h 0
 rw[Nat.zero_mul,List.drop_zero,List.take_of_length_le hs]at h1
 exact qM h1 hk
theorem Pt (h:Kp Wv.y (P++(S++Q)) xs):Kp Wv.y (P++(dC S++Q)) xs:=OH.trans h
end
end Go.Proofs.YtbbabfkgdnkehaaGreat
