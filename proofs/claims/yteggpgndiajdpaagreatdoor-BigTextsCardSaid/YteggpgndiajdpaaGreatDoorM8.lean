/- Part 8 of a proof: G3 to S9. -/
import Derived.Test.YteggpgndiajdpaaGreatDoorM7
import Derived.Test.YteggpgndiajdpaaGreatDoorM6
import Derived.Test.YteggpgndiajdpaaGreatDoorM4
import Derived.Test.YteggpgndiajdpaaGreatDoorM5
set_option maxRecDepth 100000
set_option linter.unusedVariables false
set_option linter.unusedSimpArgs false
namespace Go.Proofs.YteggpgndiajdpaaGreatDoor
open Go Go.RowKit
theorem lT (xs:List Nat):((aS xs).map AV.t).take (aS xs).length=(aS xs).map .t:=List.take_of_length_le (by simp)
theorem Gz {a b:Zi}{k k':Int}(ha:Zg a k) (hb:Zg b k') (hz0:k'≠0):aE true Tryz.prog 33 [] [gF a,gF b] (bC (.tup [kO (k.fdiv k'),kO (k.fmod k'),.one (tv (.int .i64 0))])):=by
 refine cL Tryz.func33 rfl Tryz.ntmps33 rfl aB rfl fun N w c0 h0=>?_
 have hkl:=ha.len
 have hkl':=hb.len
 have hq:(dg 4294967296 (k.natAbs/k'.natAbs)).length≤300000000000:=Nat.le_trans (kN (Nat.div_le_self _ _)) hkl
 have hr0:=Nat.mod_lt k.natAbs (show 0<k'.natAbs by omega)
 have hrl:(dg 4294967296 (k.natAbs%k'.natAbs)).length≤300000000000:=Nat.le_trans (kN (Nat.le_of_lt hr0)) hkl'
 refine sq ?_;refine rl ?_;refine bx 0 ?_;refine bx 1 ?_;refine al 2 ?_;refine al 3 ?_;refine o1 ?_;refine nl ?_
 refine md (γ:=Unit) (fun _=>cK [(4,.one (.pt 0 0)),(5,.one (.pt 1 0)),(6,.one (tv (.int .i64 ((0:Nat):Int)))),(7,.one (.pt 2 0)),(8,.one (.pt 3 0))]) (fun _=>([⟨44,0,[tv (.bool false),tv (.slice none 0 0)]⟩,⟨44,0,[tv (.bool false),tv (.slice none 0 0)]⟩,⟨103,0,[tv (.bool (aT k)),.t (sU false (dg 4294967296 k.natAbs))]⟩,⟨103,0,[tv (.bool (aT k')),.t (sU false (dg 4294967296 k'.natAbs))]⟩]:List Ob).map some) (fun _=>True) ?_ fun _ _=>?_
 ·refine rd [0,1,2,3] (fun i=>[7].contains i) mixed ?_
  refine cT 0 ?_;refine cT 2 ?_;refine WO.three (i:=1) (j:=4) (m:=5) (by kernel_rfl) ?_ ?_ ?_
  ·refine hG 1 rfl (cC ha) cB ⟨aV rfl,rfl⟩ (kF (k)) ?_;refine WO.three (i:=3) (j:=4) (m:=5) (by kernel_rfl) ?_ ?_ ?_
   ·refine hG 3 rfl (cC hb) cB ⟨aV rfl,rfl⟩ (kF (k')) ?_;refine WO.two (i:=4) (j:=5) (by kernel_rfl) ?_ ?_
    ·refine dS (key:=4) 4 rfl rfl aB rfl ⟨rfl,rfl,rfl,rfl,trivial⟩ ?_;refine jA (key:=5) 5 (by kernel_rfl) rfl rfl aB rfl ⟨rfl,rfl,rfl,rfl,trivial⟩ ?_
     refine cO 6 (by kernel_rfl) rfl rfl aB rfl rfl rfl rfl ⟨rfl,rfl,rfl,rfl,trivial⟩ ?_
     refine dst 7 ?_;refine cR ?_;exact⟨(),trivial,bH h0 [2,3,4,5] _ _ (by decide) ⟨rfl,rfl,rfl,rfl,rfl,trivial⟩ ⟨oe rfl rfl,oe rfl rfl,oe rfl rfl,oe rfl rfl,rfl⟩⟩
    refine dS (key:=4) 5 rfl rfl aB rfl ⟨rfl,rfl,rfl,rfl,trivial⟩ ?_;refine jA (key:=5) 4 (by kernel_rfl) rfl rfl aB rfl ⟨rfl,rfl,rfl,rfl,trivial⟩ ?_
    refine cO 6 (by kernel_rfl) rfl rfl aB rfl rfl rfl rfl ⟨rfl,rfl,rfl,rfl,trivial⟩ ?_
    refine dst 7 ?_;refine cR ?_;exact⟨(),trivial,bH h0 [2,3,5,4] _ _ (by decide) ⟨rfl,rfl,rfl,rfl,rfl,trivial⟩ ⟨oe rfl rfl,oe rfl rfl,oe rfl rfl,oe rfl rfl,rfl⟩⟩
   ·refine dS (key:=4) 4 rfl rfl aB rfl ⟨rfl,rfl,rfl,rfl,trivial⟩ ?_;refine WO.two (i:=3) (j:=5) (by kernel_rfl) ?_ ?_
    ·refine hG 3 rfl (cC hb) cB ⟨aV rfl,rfl⟩ (kF (k')) ?_;refine jA (key:=5) 5 (by kernel_rfl) rfl rfl aB rfl ⟨rfl,rfl,rfl,rfl,trivial⟩ ?_
     refine cO 6 (by kernel_rfl) rfl rfl aB rfl rfl rfl rfl ⟨rfl,rfl,rfl,rfl,trivial⟩ ?_
     refine dst 7 ?_;refine cR ?_;exact⟨(),trivial,bH h0 [2,3,4,5] _ _ (by decide) ⟨rfl,rfl,rfl,rfl,rfl,trivial⟩ ⟨oe rfl rfl,oe rfl rfl,oe rfl rfl,oe rfl rfl,rfl⟩⟩
    refine dS (key:=5) 5 rfl rfl aB rfl ⟨rfl,rfl,rfl,rfl,trivial⟩ ?_;refine bS 3 rfl (cC hb) cB ⟨aV rfl,rfl⟩ (kF (k')) ?_
    refine cO 6 (by kernel_rfl) rfl rfl aB rfl rfl rfl rfl ⟨rfl,rfl,rfl,rfl,trivial⟩ ?_
    refine dst 7 ?_;refine cR ?_;exact⟨(),trivial,bH h0 [2,3,4,5] _ _ (by decide) ⟨rfl,rfl,rfl,rfl,rfl,trivial⟩ ⟨oe rfl rfl,oe rfl rfl,oe rfl rfl,oe rfl rfl,rfl⟩⟩
   refine dS (key:=4) 5 rfl rfl aB rfl ⟨rfl,rfl,rfl,rfl,trivial⟩ ?_;refine WO.two (i:=3) (j:=4) (by kernel_rfl) ?_ ?_
   ·refine hG 3 rfl (cC hb) cB ⟨aV rfl,rfl⟩ (kF (k')) ?_;refine jA (key:=5) 4 (by kernel_rfl) rfl rfl aB rfl ⟨rfl,rfl,rfl,rfl,trivial⟩ ?_
    refine cO 6 (by kernel_rfl) rfl rfl aB rfl rfl rfl rfl ⟨rfl,rfl,rfl,rfl,trivial⟩ ?_
    refine dst 7 ?_;refine cR ?_;exact⟨(),trivial,bH h0 [2,3,5,4] _ _ (by decide) ⟨rfl,rfl,rfl,rfl,rfl,trivial⟩ ⟨oe rfl rfl,oe rfl rfl,oe rfl rfl,oe rfl rfl,rfl⟩⟩
   refine dS (key:=5) 4 rfl rfl aB rfl ⟨rfl,rfl,rfl,rfl,trivial⟩ ?_;refine bS 3 rfl (cC hb) cB ⟨aV rfl,rfl⟩ (kF (k')) ?_
   refine cO 6 (by kernel_rfl) rfl rfl aB rfl rfl rfl rfl ⟨rfl,rfl,rfl,rfl,trivial⟩ ?_
   refine dst 7 ?_;refine cR ?_;exact⟨(),trivial,bH h0 [2,3,5,4] _ _ (by decide) ⟨rfl,rfl,rfl,rfl,rfl,trivial⟩ ⟨oe rfl rfl,oe rfl rfl,oe rfl rfl,oe rfl rfl,rfl⟩⟩
  ·refine dS (key:=4) 4 rfl rfl aB rfl ⟨rfl,rfl,rfl,rfl,trivial⟩ ?_;refine WO.two (i:=1) (j:=5) (by kernel_rfl) ?_ ?_
   ·refine hG 1 rfl (cC ha) cB ⟨aV rfl,rfl⟩ (kF (k)) ?_;refine WO.two (i:=3) (j:=5) (by kernel_rfl) ?_ ?_
    ·refine hG 3 rfl (cC hb) cB ⟨aV rfl,rfl⟩ (kF (k')) ?_;refine jA (key:=5) 5 (by kernel_rfl) rfl rfl aB rfl ⟨rfl,rfl,rfl,rfl,trivial⟩ ?_
     refine cO 6 (by kernel_rfl) rfl rfl aB rfl rfl rfl rfl ⟨rfl,rfl,rfl,rfl,trivial⟩ ?_
     refine dst 7 ?_;refine cR ?_;exact⟨(),trivial,bH h0 [2,3,4,5] _ _ (by decide) ⟨rfl,rfl,rfl,rfl,rfl,trivial⟩ ⟨oe rfl rfl,oe rfl rfl,oe rfl rfl,oe rfl rfl,rfl⟩⟩
    refine dS (key:=5) 5 rfl rfl aB rfl ⟨rfl,rfl,rfl,rfl,trivial⟩ ?_;refine bS 3 rfl (cC hb) cB ⟨aV rfl,rfl⟩ (kF (k')) ?_
    refine cO 6 (by kernel_rfl) rfl rfl aB rfl rfl rfl rfl ⟨rfl,rfl,rfl,rfl,trivial⟩ ?_
    refine dst 7 ?_;refine cR ?_;exact⟨(),trivial,bH h0 [2,3,4,5] _ _ (by decide) ⟨rfl,rfl,rfl,rfl,rfl,trivial⟩ ⟨oe rfl rfl,oe rfl rfl,oe rfl rfl,oe rfl rfl,rfl⟩⟩
   refine dS (key:=5) 5 rfl rfl aB rfl ⟨rfl,rfl,rfl,rfl,trivial⟩ ?_;refine bS 1 rfl (cC ha) cB ⟨aV rfl,rfl⟩ (kF (k)) ?_
   refine bS 3 rfl (cC hb) cB ⟨aV rfl,rfl⟩ (kF (k')) ?_;refine cO 6 (by kernel_rfl) rfl rfl aB rfl rfl rfl rfl ⟨rfl,rfl,rfl,rfl,trivial⟩ ?_
   refine dst 7 ?_;refine cR ?_;exact⟨(),trivial,bH h0 [2,3,4,5] _ _ (by decide) ⟨rfl,rfl,rfl,rfl,rfl,trivial⟩ ⟨oe rfl rfl,oe rfl rfl,oe rfl rfl,oe rfl rfl,rfl⟩⟩
  refine dS (key:=4) 5 rfl rfl aB rfl ⟨rfl,rfl,rfl,rfl,trivial⟩ ?_;refine WO.two (i:=1) (j:=4) (by kernel_rfl) ?_ ?_
  ·refine hG 1 rfl (cC ha) cB ⟨aV rfl,rfl⟩ (kF (k)) ?_;refine WO.two (i:=3) (j:=4) (by kernel_rfl) ?_ ?_
   ·refine hG 3 rfl (cC hb) cB ⟨aV rfl,rfl⟩ (kF (k')) ?_;refine jA (key:=5) 4 (by kernel_rfl) rfl rfl aB rfl ⟨rfl,rfl,rfl,rfl,trivial⟩ ?_
    refine cO 6 (by kernel_rfl) rfl rfl aB rfl rfl rfl rfl ⟨rfl,rfl,rfl,rfl,trivial⟩ ?_
    refine dst 7 ?_;refine cR ?_;exact⟨(),trivial,bH h0 [2,3,5,4] _ _ (by decide) ⟨rfl,rfl,rfl,rfl,rfl,trivial⟩ ⟨oe rfl rfl,oe rfl rfl,oe rfl rfl,oe rfl rfl,rfl⟩⟩
   refine dS (key:=5) 4 rfl rfl aB rfl ⟨rfl,rfl,rfl,rfl,trivial⟩ ?_;refine bS 3 rfl (cC hb) cB ⟨aV rfl,rfl⟩ (kF (k')) ?_
   refine cO 6 (by kernel_rfl) rfl rfl aB rfl rfl rfl rfl ⟨rfl,rfl,rfl,rfl,trivial⟩ ?_
   refine dst 7 ?_;refine cR ?_;exact⟨(),trivial,bH h0 [2,3,5,4] _ _ (by decide) ⟨rfl,rfl,rfl,rfl,rfl,trivial⟩ ⟨oe rfl rfl,oe rfl rfl,oe rfl rfl,oe rfl rfl,rfl⟩⟩
  refine dS (key:=5) 4 rfl rfl aB rfl ⟨rfl,rfl,rfl,rfl,trivial⟩ ?_;refine bS 1 rfl (cC ha) cB ⟨aV rfl,rfl⟩ (kF (k)) ?_
  refine bS 3 rfl (cC hb) cB ⟨aV rfl,rfl⟩ (kF (k')) ?_;refine cO 6 (by kernel_rfl) rfl rfl aB rfl rfl rfl rfl ⟨rfl,rfl,rfl,rfl,trivial⟩ ?_
  refine dst 7 ?_;refine cR ?_;exact⟨(),trivial,bH h0 [2,3,5,4] _ _ (by decide) ⟨rfl,rfl,rfl,rfl,rfl,trivial⟩ ⟨oe rfl rfl,oe rfl rfl,oe rfl rfl,oe rfl rfl,rfl⟩⟩
 refine sq ?_;refine rl ?_;refine o1 ?_;refine o1 ?_;refine ld ?_;refine o1 ?_;refine o1 ?_;refine ld ?_
 have hD:aE true Tryz.prog 45 [] [.one (.t (sU false (dg 4294967296 k.natAbs))),.one (.t (sU false (dg 4294967296 k'.natAbs)))] (bC (.tup [.one (.t (sU true (dg 4294967296 (k.natAbs/k'.natAbs)))),.one (.t (sU true (dg 4294967296 (k.natAbs%k'.natAbs)))),.one (tv (.int .i64 0))])):=by
  have h9:=Gw (aQ (by omega) k.natAbs) (aQ (by omega) k'.natAbs) (by omega) (by omega) (by rw[bB];omega)
  rwa[bB,bB]at h9
 refine hH 4 hD Ut ⟨a1 rfl,a1 rfl,rfl⟩ ?_;(iterate 7 refine o1 ?_);refine nl ?_;refine sq ?_;refine sq ?_;refine rl ?_;refine o1 ?_;refine o1 ?_;refine nl ?_
 refine cE rfl (fun h1=>?_) (fun h1=>?_)
 ·exact absurd rfl h1
 refine sk ?_;refine sq ?_;refine sq ?_;refine rl ?_;refine o1 ?_;refine o1 ?_;refine ld ?_;refine o1 ?_;refine o1 ?_;refine ld ?_;refine o1 ?_;refine o1 ?_
 refine WL.splitb (t:=37) rfl (fun h2=>?_) (fun h2=>?_)
 ·(iterate 4 refine o1 ?_);refine nl ?_;refine cE rfl (fun h3=>?_) (fun h3=>?_)
  ·refine sq ?_;refine rl ?_;refine o1 ?_;refine bs 6 ?_
   have hA:aE true Tryz.prog 50 [] [.one (.t (sU false (dg 4294967296 (k.natAbs/k'.natAbs)))),.one (.t (sU false [1]))] (bC (.one (.t (sU true (dg 4294967296 ((k.natAbs/k'.natAbs)+1)))))):=by
    have h9:=Be (aQ (by omega) (k.natAbs/k'.natAbs)) (Lim.cons (show 1<4294967296 by omega) Lim.nil) (by omega) (by simp)
    rwa[bM (by omega),show vl 4294967296 [1]=1 from rfl]at h9
   refine hH 7 hA sJ ⟨jF rfl (.sl rfl rfl (lT _) (bO _)),jF rfl (.sl (trs:=aS [1]) rfl rfl rfl rfl),rfl⟩ ?_;refine o1 ?_;refine nl ?_;refine rl ?_;refine o1 ?_;refine o1 ?_
   refine ld ?_;refine o1 ?_
   have hS:aE true Tryz.prog 77 [] [.one (.t (sU false (dg 4294967296 k'.natAbs))),.one (.t (sU false (dg 4294967296 (k.natAbs%k'.natAbs))))] (bC (.tup [.one (.t (sU true (dg 4294967296 (k'.natAbs-(k.natAbs%k'.natAbs))))),.one (tv (.int .i64 0))])):=by
    have h9:=Bf (aQ (by omega) k'.natAbs) (aQ (by omega) (k.natAbs%k'.natAbs)) (by omega) (by rw[bB,bM (by omega)];omega)
    rwa[bB,bM (by omega)]at h9
   refine hH 8 hS Ga ⟨a1 rfl,jF rfl (.sl rfl rfl (lT _) (bO _)),rfl⟩ ?_;(iterate 4 refine o1 ?_);refine nl ?_;refine sq ?_
   have hd:k.fdiv k'=cG (aT k != aT k') ((k.natAbs/k'.natAbs)+1)∧k.fmod k'=cG (aT k') (k'.natAbs-(k.natAbs%k'.natAbs)):=by
    have h9:aT k≠aT k':=by simpa using h2
    have h7:k.natAbs%k'.natAbs≠0:=by have h5:=gE (m:=(k.natAbs%k'.natAbs)) rfl;rw[decide_eq_true (by omega)]at h5;have h6:=of_decide_eq_true h5.symm;omega
    have h8:=Kj (a:=k) (b:=k') hz0 h9 h7
    rw[h2];exact h8
   refine rd [1,2,3,6] (fun i=>[15,16].contains i) mixed ?_
   refine dv 0 ?_;refine dv 1 ?_;refine cT 2 ?_;refine dv 3 ?_;refine dv 4 ?_;refine cT 5 ?_;refine dv 6 ?_;refine dv 7 ?_;refine dv 9 ?_;refine dv 10 ?_;refine cT 11 ?_
   refine dv 12 ?_
   refine qS 8 9 [7] rfl (dI (b:=(aT k != aT k')) (m:=((k.natAbs/k'.natAbs)+1)) (K:=(k.fdiv k')) hd.1.symm) gP ⟨cY rfl,rfl⟩ ⟨rfl,rfl,rfl⟩ ⟨rfl,rfl,rfl,rfl,trivial⟩ ?_
   refine qS 13 10 [8] rfl (dI (b:=(aT k')) (m:=(k'.natAbs-(k.natAbs%k'.natAbs))) (K:=(k.fmod k')) hd.2.symm) gP ⟨cY rfl,rfl⟩ ⟨rfl,rfl,rfl⟩ ⟨rfl,rfl,rfl,rfl,trivial⟩ ?_
   refine cO 14 (by kernel_rfl) rfl rfl aB rfl rfl rfl rfl ⟨rfl,rfl,rfl,rfl,trivial⟩ ?_
   refine dst 15 ?_;refine nY 16 (by kernel_rfl) rfl rfl aB rfl (by trivial) ?_ (fun h=>by first | rfl | cases h)
   refine cR ?_;refine rt ?_
   exact en (.inl rfl) rfl (Ae (.cons (.agg (.cons (.id rfl) (.cons (.sl (trs:=aS (dg 4294967296 ((k.fdiv k')).natAbs)) rfl rfl (bY _) (bO _)) .nil))) (.cons (.agg (.cons (.id rfl) (.cons (.sl (trs:=aS (dg 4294967296 ((k.fmod k')).natAbs)) rfl rfl (bY _) (bO _)) .nil))) (.cons (bD (.int .i64 0)) .nil)))) (by decide) (fun _=>⟨cI (k.fdiv k'),cI (k.fmod k'),trivial,trivial⟩) rfl
  refine sk ?_;refine sq ?_;have hd:k.fdiv k'=cG (aT k != aT k') (k.natAbs/k'.natAbs)∧k.fmod k'=cG (aT k') (k.natAbs%k'.natAbs):=by
   have h9:aT k≠aT k':=by simpa using h2
   have h7:k.natAbs%k'.natAbs=0:=by have h5:=gE (m:=(k.natAbs%k'.natAbs)) rfl;rw[decide_eq_false (by omega)]at h5;have h6:=of_decide_eq_false h5.symm;omega
   have h8:=Ki (a:=k) (b:=k') hz0 h9 h7
   rw[h2];exact h8
  refine rd [1,2,3] (fun i=>[15,16].contains i) mixed ?_
  refine dv 0 ?_;refine dv 1 ?_;refine cT 2 ?_;refine dv 3 ?_;refine dv 4 ?_;refine cT 5 ?_;refine dv 6 ?_;refine dv 7 ?_;refine dv 9 ?_;refine dv 10 ?_;refine cT 11 ?_
  refine dv 12 ?_
  refine qS 8 6 [4] rfl (dI (b:=(aT k != aT k')) (m:=(k.natAbs/k'.natAbs)) (K:=(k.fdiv k')) hd.1.symm) gP ⟨cY rfl,rfl⟩ ⟨rfl,rfl,rfl⟩ ⟨rfl,rfl,rfl,trivial⟩ ?_
  refine qS 13 7 [5] rfl (dI (b:=(aT k')) (m:=(k.natAbs%k'.natAbs)) (K:=(k.fmod k')) hd.2.symm) gP ⟨cY rfl,rfl⟩ ⟨rfl,rfl,rfl⟩ ⟨rfl,rfl,rfl,trivial⟩ ?_
  refine cO 14 (by kernel_rfl) rfl rfl aB rfl rfl rfl rfl ⟨rfl,rfl,rfl,trivial⟩ ?_
  refine dst 15 ?_;refine nY 16 (by kernel_rfl) rfl rfl aB rfl (by trivial) ?_ (fun h=>by first | rfl | cases h)
  refine cR ?_;refine rt ?_
  exact en (.inl rfl) rfl (Ae (.cons (.agg (.cons (.id rfl) (.cons (.sl (trs:=aS (dg 4294967296 ((k.fdiv k')).natAbs)) rfl rfl (bY _) (bO _)) .nil))) (.cons (.agg (.cons (.id rfl) (.cons (.sl (trs:=aS (dg 4294967296 ((k.fmod k')).natAbs)) rfl rfl (bY _) (bO _)) .nil))) (.cons (bD (.int .i64 0)) .nil)))) (by decide) (fun _=>⟨cI (k.fdiv k'),cI (k.fmod k'),trivial,trivial⟩) rfl
 (iterate 3 refine dL ?_);refine o1 ?_;refine nl ?_;refine gZ rfl ?_;refine sk ?_;refine sq ?_
 have hd:k.fdiv k'=cG (aT k != aT k') (k.natAbs/k'.natAbs)∧k.fmod k'=cG (aT k') (k.natAbs%k'.natAbs):=by
  have h9:aT k=aT k':=by simpa using h2
  have h8:=Kh (a:=k) (b:=k') hz0 h9
  rw[h2];exact h8
 refine rd [1,2,3] (fun i=>[15,16].contains i) mixed ?_
 refine dv 0 ?_;refine dv 1 ?_;refine cT 2 ?_;refine dv 3 ?_;refine dv 4 ?_;refine cT 5 ?_;refine dv 6 ?_;refine dv 7 ?_;refine dv 9 ?_;refine dv 10 ?_;refine cT 11 ?_
 refine dv 12 ?_
 refine qS 8 6 [4] rfl (dI (b:=(aT k != aT k')) (m:=(k.natAbs/k'.natAbs)) (K:=(k.fdiv k')) hd.1.symm) gP ⟨cY rfl,rfl⟩ ⟨rfl,rfl,rfl⟩ ⟨rfl,rfl,rfl,trivial⟩ ?_
 refine qS 13 7 [5] rfl (dI (b:=(aT k')) (m:=(k.natAbs%k'.natAbs)) (K:=(k.fmod k')) hd.2.symm) gP ⟨cY rfl,rfl⟩ ⟨rfl,rfl,rfl⟩ ⟨rfl,rfl,rfl,trivial⟩ ?_
 refine cO 14 (by kernel_rfl) rfl rfl aB rfl rfl rfl rfl ⟨rfl,rfl,rfl,trivial⟩ ?_
 refine dst 15 ?_;refine nY 16 (by kernel_rfl) rfl rfl aB rfl (by trivial) ?_ (fun h=>by first | rfl | cases h)
 refine cR ?_;refine rt ?_
 exact en (.inl rfl) rfl (Ae (.cons (.agg (.cons (.id rfl) (.cons (.sl (trs:=aS (dg 4294967296 ((k.fdiv k')).natAbs)) rfl rfl (bY _) (bO _)) .nil))) (.cons (.agg (.cons (.id rfl) (.cons (.sl (trs:=aS (dg 4294967296 ((k.fmod k')).natAbs)) rfl rfl (bY _) (bO _)) .nil))) (.cons (bD (.int .i64 0)) .nil)))) (by decide) (fun _=>⟨cI (k.fdiv k'),cI (k.fmod k'),trivial,trivial⟩) rfl
section
variable {α:Type}{f:α→List Tr}{z:Nat}{xs:List α}{k o:Nat}{x x' y:α}{us:List Tr}
end
def Tg (o:Bool) (a:Zi):List Tr:=[.v (.bool a.s),sU o a.x]
def gO (a:Zi):FV:=.agg ((Tg true a).map .t)
def zv (a:Zi):Int:=gU a.s a.x
def ZL (L:Nat) (a:Zi):Prop:=Lim 4294967296 a.x∧a.x.length≤L
theorem ZL.n {L:Nat}{a:Zi}(h:ZL L a) (hL:L≤137438953472):Zn a (zv a):=⟨h.1,Nat.le_trans h.2 hL,rfl⟩
theorem Sn {a:Zi}{L:Nat}(h:ZL L a):(zv a).natAbs<4294967296^L:=by
 have h1:(dg 4294967296 (zv a).natAbs).length≤a.x.length:=sP h.1
 have h2:=iK (B:=4294967296) (n:=(zv a).natAbs) (by omega)
 exact Nat.lt_of_lt_of_le h2 (Nat.pow_le_pow_right (by omega) (Nat.le_trans h1 h.2))
theorem wL {α:Type}{l:List α}{k:Nat}(h:l.length≤k):l.take k=l:=List.take_of_length_le h
def gX (a b:Zi):Bool:=(a.s==b.s)&&decide (a.x=b.x)
theorem Bj (a:Zi):gX a a=true:=by simp[gX]
theorem Lc {a b:Zi}(h:(!(a.s==b.s))=true):false=gX a b:=by simp[gX,Ij h]
theorem Ld {a b:Zi}(h:¬a.x.length=b.x.length):false=gX a b:=by
 unfold gX
 rw[decide_eq_false fun e=>h (by rw[e]),Bool.and_false]
theorem Le {a b:Zi}{k:Nat}(h:¬nth a.x k=nth b.x k):false=gX a b:=by
 unfold gX
 rw[decide_eq_false fun e=>h (by rw[e]),Bool.and_false]
theorem Lg {a b:Zi}{k:Nat}(h:(!(a.s==b.s))=false) (hl:a.x.length=b.x.length) (hk:a.x.take k=b.x.take k) (hk2:a.x.length≤k):true=gX a b:=by
 rw[wL hk2,wL (by omega)]at hk
 simp[gX,yM h,hk]
def nB (k:Int):List Nat:=if k<0 then 45::tx k.natAbs else tx k.natAbs
def kB (l:List Nat):Bool:=l.all fun c=>decide (48≤c∧c≤57)
theorem yZ {l:List Nat}(h:kB l=true):∀c∈l,48≤c∧c≤57:=by simpa[kB]using h
theorem Po {l:List Nat}(h:∀c∈l,48≤c∧c≤57):kB l=true:=by simpa[kB]using h
theorem Eg:∀c<256,([48,49,50,51,52,53,54,55,56,57]:List UInt8).contains (UInt8.ofNat c)=decide (48≤c∧c≤57):=by decide+kernel
theorem zA {l:List Nat}(h:Lim 256 l):((⟨(Lib.trimS (aL l).data.toList [48,49,50,51,52,53,54,55,56,57]).toArray⟩:ByteArray).toList==(⟨#[]⟩:ByteArray).toList)=kB l:=by
 rw[ByteArray.toList_eq,ByteArray.toList_eq,Bool.eq_iff_iff,beq_iff_eq]
 show Lib.trimS _ _=[]↔_
 rw[Ea,gA]
 unfold kB
 rw[List.all_eq_true]
 refine⟨fun g c hc=>?_,fun g x hx=>?_⟩
 ·rw[←Eg c (h c hc)]
  exact g _ (List.mem_map.2 ⟨c,hc,rfl⟩)
 obtain⟨c,hc,rfl⟩:=List.mem_map.1 hx
 rw[Eg c (h c hc)]
 exact g c hc
def eW (l:List Nat):Bool:=decide (l=[])||(!decide (l=[48])&&decide (nth l 0=48))|| !kB l
def fR (l:List Nat):Int:=if eW l then 60 else if 4096<l.length then 3 else 0
def wM (l:List Nat):Nat:=if fR l=0 then aW l else 0
theorem Is {l:List Nat}(h:decide (l=[])=true):eW l=true:=by simp[eW,h]
theorem Bk {l:List Nat}(h:decide (l=[48])=false) (h2:nth l 0=48):eW l=true:=by simp[eW,h,h2]
theorem rK {l:List Nat}(h:kB l=false):eW l=true:=by simp[eW,h]
theorem wN {l:List Nat}(h0:decide (l=[])=false) (h:decide (l=[48])=true∨¬nth l 0=48) (h2:kB l=true):eW l=false:=by
 rcases h with h | h <;> simp[eW,h0,h,h2]
theorem kP {l:List Nat}(h:eW l=true):fR l=60:=by simp[fR,h]
theorem Ha {l:List Nat}(h:eW l=false) (h2:4096<l.length):fR l=3:=by simp[fR,h,h2]
theorem wO {l:List Nat}(h:eW l=false) (h2:¬4096<l.length):fR l=0:=by simp[fR,h,h2]
theorem rL {l:List Nat}(h:fR l=0):wM l=aW l:=if_pos h
theorem pA {l:List Nat}(h:¬fR l=0):wM l=0:=if_neg h
theorem rM {l:List Nat}(h:eW l=false):∀c∈l,48≤c∧c≤57:=by
 refine yZ ?_
 cases hq:kB l with
 | true=>rfl
 | false=>rw[rK hq]at h;cases h
theorem Hb (m:List Nat):∀n:Nat,m.foldl (fun n c=>n*10+(c-48)) n=n*10^m.length+aW m:=by
 induction m with
 | nil=>intro n;simp[aW]
 | cons c m ih=>
  intro n
  have e:aW (c::m)=(0*10+(c-48))*10^m.length+aW m:=ih _
  rw[List.foldl_cons,ih,e,List.length_cons,Nat.pow_succ,Nat.zero_mul,Nat.zero_add,Nat.add_mul,Nat.mul_assoc,Nat.mul_comm 10,Nat.add_assoc]
theorem zB (l m:List Nat):aW (l++m)=aW l*10^m.length+aW m:=by
 show(l++m).foldl _ 0=_
 rw[List.foldl_append,Hb]
 rfl
theorem kQ {l:List Nat}{j f:Nat}(h:j+f≤l.length) (hf:j=0∨f=9):aW (l.take j)*1000000000+aW ((l.drop j).take f)=aW (l.take (j+f)):=by
 rw[List.take_add,zB,List.length_take,List.length_drop,Nat.min_eq_left (by omega)]
 rcases hf with rfl | rfl
 ·simp[aW]
 rfl
theorem Lh {l:List Nat}(h:∀c∈l,48≤c∧c≤57){j:Nat}(hj:j≤l.length):aW (l.take j)<4294967296^j:=Nat.lt_of_lt_of_le (uF h hj) (Nat.pow_le_pow_left (by omega) j)
theorem iJ {l:List Nat}(h:∀c∈l,48≤c∧c≤57){j:Nat}(hj:j≤l.length):(dg 4294967296 (aW (l.take j))).length≤j:=bF (by omega) (Lh h hj)
theorem mT {l:List Nat}(h:∀c∈l,48≤c∧c≤57) (j f:Nat):∀c∈(l.drop j).take f,48≤c∧c≤57:=fun c hc=>h c (List.mem_of_mem_drop (List.mem_of_mem_take hc))
theorem mU {l:List Nat}(h:∀c∈l,48≤c∧c≤57){j f:Nat}(hj:j+f≤l.length) (hf:f≤9):aW ((l.drop j).take f)<1000000000:=
 Nat.lt_of_lt_of_le (uF (l:=l.drop j) (k:=f) (fun c hc=>h c (List.mem_of_mem_drop hc)) (by rw[List.length_drop];omega)) (Nat.le_trans (Nat.pow_le_pow_right (by omega) hf) (by decide))
theorem uG {l:List Nat}{k:Nat}(h:k<l.length):aW (l.take k)*10+(nth l k-48)=aW (l.take (k+1)):=Gu h
def aO (l:List Nat):List Nat:=if l.take 1=[45]then l.drop 1 else l
def eP (l:List Nat):Int:=if fR (aO l)=0 then(if l.take 1=[45]∧aW (aO l)=0 then 2 else 0)else fR (aO l)
def dM (l:List Nat):Int:=if eP l=0 then(if l.take 1=[45]then-((aW (aO l):Nat):Int)else(aW (aO l):Nat))else 0
def kC (l:List Nat):Bool:=decide (l=[])||(decide (nth l 0=48)&&decide (1<l.length))
theorem Pp {l:List Nat}(h:decide (l=[])=true):true=kC l:=by simp[kC,h]
theorem Pq {l:List Nat}(h0:decide (l=[])=false) (h:nth l 0=48):decide (1<(l.length:Int))=kC l:=by
 simp only[kC,h0,Bool.false_or]
 rw[decide_eq_true h,Bool.true_and]
 exact decide_eq_decide.2 (by omega)
theorem Pr {l:List Nat}(h0:decide (l=[])=false) (h:¬nth l 0=48):false=kC l:=by simp[kC,h0,h]
theorem Ps {l:List Nat}(h:kC l=true):eW l=true:=by
 unfold kC at h
 simp only[Bool.or_eq_true,Bool.and_eq_true,decide_eq_true_eq]at h
 rcases h with h | ⟨h1,h2⟩
 ·exact Is (decide_eq_true h)
 refine Bk (decide_eq_false fun e=>?_) h1
 rw[e]at h2
 simp at h2
theorem Pt {l:List Nat}(h:kC l=false) (h2:kB l=true):eW l=false:=by
 unfold kC at h
 simp only[Bool.or_eq_false_iff,Bool.and_eq_false_iff,decide_eq_false_iff_not]at h
 refine wN (decide_eq_false h.1) ?_ h2
 rcases h.2 with h3 | h3
 ·exact .inr h3
 by_cases h4:nth l 0=48
 ·left
  match l,h.1,h3,h4 with
  | [c],_,_,h4=>have h5:c=48:=h4;subst h5;rfl
  | _::_::_,_,h3,_=>simp at h3
 exact .inr h4
theorem Pu {l:List Nat}{k:Nat}(h:k<l.length) (h2:nth l k<48∨57<nth l k):kB l=false:=by
 cases hq:kB l with
 | false=>rfl
 | true=>have:=yZ hq (nth l k) (by rw[bG h];exact List.getElem_mem h);omega
theorem So {l:List Nat}{k:Nat}(h:k<l.length) (h1:∀c∈l.take k,48≤c∧c≤57) (h2:48≤nth l k∧nth l k≤57):∀c∈l.take (k+1),48≤c∧c≤57:=by
 have e:l[k]? =some (nth l k):=by rw[bG h];simp[h]
 intro c hc
 rw[List.take_add_one,e]at hc
 simp at hc
 rcases hc with hc | rfl
 ·exact h1 c hc
 exact h2
theorem wP {l:List Nat}(h:eW l=false):aW l=0↔l=[48]:=by
 refine⟨fun h0=>?_,fun e=>by rw[e];rfl⟩
 have hd:=rM h
 cases l with
 | nil=>simp[eW]at h
 | cons c m=>
  have e:=zB [c] m
  have e1:aW [c]=c-48:=by simp[aW]
  rw[List.singleton_append,h0,e1]at e
  have hc:=hd c (List.mem_cons_self ..)
  have h3:c-48=0:=by
   rcases Nat.eq_zero_or_pos (c-48)with h4 | h4
   ·exact h4
   have:=Nat.mul_pos h4 (Nat.pow_pos (n:=m.length) (show 0<10 by omega));omega
  have h4:nth (c::m) 0=48:=by show c=48;omega
  cases hq:decide (c::m=[48])with
  | true=>exact of_decide_eq_true hq
  | false=>rw[Bk hq h4]at h;cases h
theorem Hc {l:List Nat}(h:¬0<l.length):false=decide (l.take 1=[45]):=by
 rw[List.eq_nil_of_length_eq_zero (show l.length=0 by omega)];rfl
theorem Li {l:List Nat}(h:0<l.length):decide (((nth l 0:Nat):Int)=45)=decide (l.take 1=[45]):=by
 cases l with
 | nil=>simp at h
 | cons c m=>
  refine decide_eq_decide.2 ?_
  show((c:Nat):Int)=45↔ [c]=[45]
  simp
  omega
theorem Sp {l:List Nat}(h:decide (l.take 1=[45])=false):aL l=aL (aO l):=by rw[aO,if_neg (of_decide_eq_false h)]
theorem Sq {l:List Nat}(h:decide (l.take 1=[45])=true):aL (l.drop 1)=aL (aO l):=by rw[aO,if_pos (of_decide_eq_true h)]
theorem Hd {v:Nat}(h:(dg 4294967296 v).length≤1000000):(dg 10 v).length≤10000000:=by
 have h1:=iK (B:=4294967296) (n:=v) (by omega)
 have h2:v<10^(10*(dg 4294967296 v).length):=Nat.lt_of_lt_of_le h1 (by rw[Nat.pow_mul];exact Nat.pow_le_pow_left (by omega) _)
 have:=bF (B:=10) (by omega) h2
 omega
theorem Lj (l:List Nat):(dg 4294967296 (dM l).natAbs).length≤l.length:=by
 unfold dM
 by_cases h:eP l=0
 ·rw[if_pos h]
  have h0:fR (aO l)=0:=by
   unfold eP at h
   by_cases h2:fR (aO l)=0
   ·exact h2
   rw[if_neg h2]at h;exact h
  have hg:eW (aO l)=false:=by
   cases hq:eW (aO l)with
   | false=>rfl
   | true=>rw[kP hq]at h0;cases h0
  have h1:=iJ (rM hg) (Nat.le_refl _)
  rw[List.take_of_length_le (Nat.le_refl _)]at h1
  have h2:(aO l).length≤l.length:=by unfold aO;split;(rw[List.length_drop];omega);exact Nat.le_refl _
  have h3:(if l.take 1=[45]then-((aW (aO l):Nat):Int)else(aW (aO l):Nat)).natAbs=aW (aO l):=by split <;> omega
  rw[h3]
  omega
 rw[if_neg h]
 exact Nat.zero_le _
theorem rN {u m:Nat}(h:(dg 4294967296 u).length≤1099511627776) (hm:m<4294967296):aE true Tryz.prog 51 [] [.one (.t (sU false (dg 4294967296 u))),.one (tv (.int .u32 (m:Int)))] (bC (.one (.t (sU true (dg 4294967296 (u*m)))))):=by
 have h1:=Bh (aQ (by omega) u) h hm
 rwa[bM (by omega)]at h1
theorem rO {u x:Nat}(h:(dg 4294967296 u).length≤1099511627776) (hx:x<4294967296):aE true Tryz.prog 50 [] [.one (.t (sU false (dg 4294967296 u))),.one (.t (sU false [x]))] (bC (.one (.t (sU true (dg 4294967296 (u+x)))))):=by
 have h1:=Be (aQ (by omega) u) (Lim.cons hx Lim.nil) h (by simp)
 rw[bM (by omega)]at h1
 have e:vl 4294967296 [x]=x:=by simp[vl]
 rwa[e]at h1
theorem wQ {X os:List Nat}{k cr m:Nat}(hl:os.length=k) (h:vl 65536 os+65536^k*cr=vl 65536 (X.take k)*m):
  vl 65536 (os++[(nth X k*m+cr)%65536])+65536^(k+1)*((nth X k*m+cr)/65536)=vl 65536 (X.take (k+1))*m:=by
 rw[fZ,aP,hl,Nat.pow_succ,Nat.mul_assoc,Nat.add_mul,Nat.mul_assoc]
 have h2:=Nat.mod_add_div (nth X k*m+cr) 65536
 have h3:65536^k*(nth X k*m+cr)=65536^k*((nth X k*m+cr)%65536)+65536^k*(65536*((nth X k*m+cr)/65536)):=by rw[←Nat.mul_add,h2]
 rw[Nat.mul_add]at h3
 omega
theorem Hf {X os:List Nat}{k d rest:Nat}(h0:0<k) (hk:k≤X.length) (h:vl 65536 os*d+rest=vl 65536 (X.drop k)):
  vl 65536 (((65536*rest+nth X (k-1))/d)::os)*d+(65536*rest+nth X (k-1))%d=vl 65536 (X.drop (k-1)):=by
 rw[eA 65536 h0 hk,←h,eF,Nat.add_mul,Nat.mul_add,Nat.mul_assoc]
 have h2:=Nat.div_add_mod (65536*rest+nth X (k-1)) d
 rw[Nat.mul_comm]at h2
 omega
theorem Hg {X os:List Nat}{d rest:Nat}(hd:rest<d) (h:vl 65536 os*d+rest=vl 65536 (X.drop 0)):vl 65536 os=vl 65536 X/d∧rest=vl 65536 X%d:=by
 rw[List.drop_zero,Nat.mul_comm]at h
 refine⟨?_,?_⟩
 ·rw[←h,Nat.mul_add_div (by omega),Nat.div_eq_of_lt hd,Nat.add_zero]
 rw[←h,Nat.mul_add_mod,Nat.mod_eq_of_lt hd]
theorem Eh {rest d x:Nat}(h:rest<d) (hx:x<65536):(65536*rest+x)/d<65536:=by
 rw[Nat.div_lt_iff_lt_mul (by omega)]
 have:65536*(rest+1)≤65536*d:=Nat.mul_le_mul_left _ h
 omega
theorem Lk {k v:Nat}{os:List Nat}(h:0<k):(List.replicate k 0++os).set (k-1) v=List.replicate (k-1) 0++v::os:=by
 obtain⟨j,rfl⟩:∃j,k=j+1:=⟨k-1,by omega⟩
 rw[List.replicate_succ',List.append_assoc,List.set_append_right _ _ (by simp)]
 simp
def eR (k:Int):Bool:=decide (-9223372036854775808≤k∧k≤9223372036854775807)
theorem zC {k:Int}(h:eR k=true):(dg 4294967296 k.natAbs).length≤2:=by
 have:=of_decide_eq_true h
 refine bF (by omega) ?_
 show k.natAbs<18446744073709551616
 omega
theorem Ll {k:Int}(h:2<(dg 4294967296 k.natAbs).length):eR k=false:=by
 cases hq:eR k with
 | false=>rfl
 | true=>have:=zC hq;omega
theorem Lm {X:List Nat}{k:Nat}(hX:Lim 4294967296 X) (hk:k<2):IntKind.u64.wrap ((BitVec.ofInt IntKind.u64.bits ((vl 4294967296 (X.take k):Nat):Int)||| BitVec.ofInt IntKind.u64.bits ((nth X k*4294967296^k:Nat):Int)).toNat:Int)=((vl 4294967296 (X.take (k+1)):Nat):Int):=by
 have h0:=hX.nth (by omega) 0
 have h1:=hX.nth (by omega) 1
 rcases(show k=0∨k=1 by omega)with rfl | rfl
 ·have e:=Da (a:=nth X 0) (b:=0) h0 (by omega)
  rw[aP]
  simp only[List.take_zero,uH,Nat.pow_zero,Nat.mul_one,Nat.one_mul,Nat.zero_add,Nat.zero_mul,Nat.add_zero]at e⊢
  have e2:IntKind.u64.bits=64:=rfl
  rw[e2]at e⊢
  rw[BitVec.or_comm]
  exact e
 have e:=Da (a:=nth X 0) (b:=nth X 1) h0 h1
 have e1:vl 4294967296 (X.take 1)=nth X 0:=by
  have:=aP 4294967296 X 0
  simpa[uH]using this
 have e2:=aP 4294967296 X 1
 rw[e1,Nat.pow_one,Nat.mul_comm]at e2
 rw[e1,e2,Nat.pow_one]
 exact e
theorem Sr {x k:Nat}(hx:x<4294967296) (hk:k<2):IntKind.u64.wrap ((x:Int)*2^(min ((32*k:Nat):Int).toNat IntKind.u64.bits))=((x*4294967296^k:Nat):Int):=by
 rcases(show k=0∨k=1 by omega)with rfl | rfl <;> simp[IntKind.wrap,IntKind.bits,IntKind.signed] <;> omega
theorem Pv {u:Nat}(h:u≤9223372036854775808):IntKind.i64.wrap (IntKind.u64.wrap (0-(u:Int)))=-(u:Int):=by
 simp[IntKind.wrap,IntKind.bits,IntKind.signed]
 omega
theorem Wf {x:Cx}{g:Nat→FV}{ob:List (Option Ob)}{Q:Post}{ops:Array Oper}{rest:List Oper}{d:Nat}{ty:TypeId}{pos:String}{af:Array Edge}{gd:Option (Nat×Bool)}{t t2:Nat}{i1 i2:TI}{a:Operand}{k k':IntKind}{n z:Int}(hz:k'.wrap n=z) (kk:WL x ops rest (aG g d (.one (tv (.int k' z)))) ob Q) (hT:aZ x.P ttab:=by exact aB) (hw:aH ops x.n g gd=some true:=by rfl) (h1:aJ ttab t=some i1:=by rfl) (h1k:i1.kd=.it k:=by rfl) (h2:aJ ttab t2=some i2:=by rfl) (h2k:i2.kd=.it k':=by rfl) (ha:lk x.n g a=.one (tv (.int k n)):=by rfl):WL x ops (⟨some d,.convert t t2 a,ty,pos,af,gd⟩::rest) g ob Q:=by
 refine dY (Wr:=[]) (R:=fun g' ob'=>g'=aG g d (.one (tv (.int k' z)))∧ob'=ob) (fun cs ts W hR K Q kk=>?_) hw (by rintro _ _ ⟨rfl,rfl⟩;exact kk)
 have e1:=hR.lk a
 rw[ha]at e1
 have e1:=aD e1
 have q1:=(bJ hT h1).2.2.2
 have q2:=(bJ hT h2).2.2.2
 rw[h1k]at q1
 rw[h2k]at q2
 exact cD (xK q1 q2 e1 hz) (kk _ _ _ _ _ ⟨rfl,rfl⟩ (hR.put d (v:=.one (tv (.int k' z))) (dP (by simp[tv,AR,FR]))) (.put d _))
theorem Ei {x:Int}:x.sign<0↔x<0:=Int.sign_neg_iff
theorem Ej {x:Int}:0<x.sign↔0<x:=Int.sign_pos_iff
theorem Bl {B:Nat}{l:List Nat}{k:Nat}(hB:0<B) (h:k≤l.length):vl B (l.drop k)≤vl B l:=by
 rw[jM B l k h]
 have:=Nat.le_mul_of_pos_left (vl B (l.drop k)) (Nat.pow_pos (n:=k) hB)
 omega
theorem Vg:CallOk Tryz.prog 98:=.mk Tryz.func98 (by decide) rfl
theorem sT {l R:List Nat}{c:Nat}(hl:Lim 256 l) (hR:l.dropWhile (· ==c)=R):aE true Tryz.prog 98 [] [.one (tv (.string (aL l))),.one (tv (.int .u8 ((c:Nat):Int)))] (bC (.one (tv (.string (aL R))))):=by
 refine cL Tryz.func98 rfl Tryz.ntmps98 rfl aB rfl fun N9 w9 c0 h0=>?_
 refine sq ?_;refine rl ?_;refine o1 ?_;refine nl ?_;refine sq ?_;refine bl ?_
 refine lp (γ:=List Nat) (fun l=>cK [(0,.one (tv (.string (aL l)))),(1,.one (tv (.int .u8 ((c:Nat):Int))))]) (fun _=>([]:List Ob).map some) (fun l=>Lim 256 l∧l.dropWhile (· ==c)=R) (fun l=>l.length) l ⟨hl,hR⟩ (bH h0 [] _ _ (by decide) ⟨rfl,rfl,trivial⟩ rfl) fun k hk=>?_
 refine sq ?_;refine sq ?_;refine rl ?_;refine o1 ?_;refine o1 ?_
 refine WL.cast (t:=6) (u':=.int .i64 ((k.length:Nat):Int)) rfl (congrArg (fun n:Nat=>Value.int .i64 (n:Int)) (aR _)) ?_
 refine o1 ?_;refine o1 ?_;refine WL.split (t:=8) rfl (fun h1=>?_) (fun h1=>?_)
 ·refine o1 ?_;refine o1 ?_ (hC:=(by rw[aR];show 0<k.length;omega))
  refine WL.cast (t:=10) (u':=.int .u8 (((nth k 0):Nat):Int)) rfl (congrArg (fun n:Nat=>Value.int .u8 (n:Int)) (fT (i:=0) (by omega) (gB (k:=0) hk.1 (by omega)))) ?_
  (iterate 3 refine o1 ?_);refine nl ?_;refine cE rfl (fun h2=>?_) (fun h2=>?_)
  ·refine sk ?_;refine bl ?_;refine rl ?_;refine o1 ?_;refine o1 ?_ (hC:=(by rw[aR];show 1≤k.length;omega))
   refine WL.cast (t:=15) (u':=.string (aL (k.drop 1))) rfl (congrArg Value.string (iG _ _)) ?_;refine o1 ?_;refine nl ?_
   exact⟨k.drop 1,by rw[List.length_drop];omega,⟨mP hk.1 1,(Cv (by omega) (by omega)).trans hk.2⟩,bH h0 [] _ _ (by decide) ⟨rfl,rfl,trivial⟩ rfl⟩
  refine ex ?_;refine sq ?_;refine rl ?_;refine o1 ?_;refine o1 ?_;refine nl ?_;refine rt ?_
  exact en (.inl rfl) rfl (bV (bD _)) (by decide) (fun _=>trivial) (congrArg (fun z=>FV.one (tv (.string z))) (congrArg aL ((At (by omega) (by omega)).trans hk.2)))
 (iterate 4 refine dL ?_);refine o1 ?_;refine nl ?_;refine gZ rfl ?_;refine ex ?_;refine sq ?_;refine rl ?_;refine o1 ?_;refine o1 ?_;refine nl ?_;refine rt ?_
 exact en (.inl rfl) rfl (bV (bD _)) (by decide) (fun _=>trivial) (congrArg (fun z=>FV.one (tv (.string z))) (congrArg aL ((As (by omega)).trans hk.2)))
theorem Bm {l:List Nat}(hl:Lim 256 l):aE true Tryz.prog 59 [] [.one (tv (.string (aL l))),.one (tv (.string ⟨#[48]⟩))] (bC (.one (tv (.string (aL (l.dropWhile (· ==48))))))):=by
 refine cL Tryz.func59 rfl Tryz.ntmps59 rfl aB rfl fun N9 w9 c0 h0=>?_
 refine sq ?_;refine rl ?_;refine o1 ?_;refine nl ?_;refine sq ?_;refine sq ?_;refine rl ?_;refine o1 ?_;refine o1 ?_
 refine WL.cast (t:=8) (u':=.bool (decide (l=[]))) rfl (congrArg Value.bool (iW hl)) ?_;refine o1 ?_;refine WL.splitb (t:=9) rfl (fun h1=>?_) (fun h1=>?_)
 ·refine dL ?_;refine dL ?_;refine o1 ?_;refine nl ?_;refine jS rfl ?_;refine sq ?_;refine rl ?_;refine o1 ?_;refine o1 ?_;refine nl ?_;refine rt ?_
  exact en (.inl rfl) rfl (bV (bD _)) (by decide) (fun _=>trivial) (congrArg (fun z=>FV.one (tv (.string z))) (congrArg aL (by rw[of_decide_eq_true h1];rfl)))
 refine o1 ?_;refine o1 ?_;refine WL.cast (t:=11) (u':=.bool false) rfl (congrArg Value.bool (iW (l:=[48]) (Lim.cons (by omega) Lim.nil))) ?_
 refine o1 ?_;refine nl ?_;refine gZ rfl ?_;refine sk ?_;refine sq ?_;refine sq ?_;refine rl ?_;(iterate 3 refine o1 ?_)
 refine WL.cast (t:=16) (u':=.bool true) rfl (congrArg Value.bool rfl) ?_;refine o1 ?_;refine o1 ?_;refine o1 ?_ (hC:=(by decide))
 refine o1 ?_;refine WL.cast (t:=20) (u':=.bool true) rfl (congrArg Value.bool rfl) ?_;refine o1 ?_;refine nl ?_;refine jS rfl ?_;refine sq ?_;refine rl ?_;refine o1 ?_;refine o1 ?_
 refine o1 ?_ (hC:=(by decide))
 refine WL.cast (t:=24) (u':=.int .u8 ((48:Nat):Int)) rfl rfl ?_
 refine ca (sT (c:=48) hl rfl) Vg ⟨a1 rfl,a1 rfl,rfl⟩ (.one (tv (.string (aL (l.dropWhile (· ==48)))))) ?_;refine o1 ?_;refine nl ?_;refine rt ?_
 exact en (.inl rfl) rfl (bV (bD _)) (by decide) (fun _=>trivial) (congrArg (fun z=>FV.one (tv (.string z))) (rfl))
theorem Ek {t n:Nat}{xs:List Nat}(hn:xs.length=n) (hn2:n≤100000000):aE false Tryz.prog 58 [⟨t,1,(bZ xs).map .t⟩] [.one (.sl 0 0 n)] (Rt [⟨t,1,(bZ xs.reverse).map .t⟩] (.tup [])):=by
 subst hn;refine Vo Tryz.func58 rfl Tryz.ntmps58 rfl aB rfl fun N9 M9 w9 c0 h0=>?_
 refine sq ?_;refine rl ?_;(iterate 5 refine o1 ?_);refine nl ?_;refine bl ?_
 refine lp (γ:=Nat) (fun k=>cK [(0,.one (.sl 0 0 xs.length)),(2,.one (tv (.int .i64 ((k:Nat):Int)))),(3,.one (tv (.int .i64 ((xs.length:Int)-1-(k:Int):Int))))]) (fun k=>[(⟨t,1,(bZ (dR xs k)).map .t⟩:Ob)].map some) (fun k=>2*k≤xs.length+1) (fun k=>xs.length-k) 0 (by omega) (Nx h0 [0] _ _ (by decide) rfl ⟨rfl,rfl,qW (by omega),trivial⟩ ⟨cY (congrArg (fun l=>some (⟨t,1,(bZ l).map .t⟩:Ob)) (Ru xs)),rfl⟩) fun k hk=>?_
 have hrl:=fK xs k
 refine sq ?_;refine sq ?_;refine rl ?_;(iterate 3 refine o1 ?_);refine nl ?_;refine cE rfl (fun h1=>?_) (fun h1=>?_)
 ·refine sk ?_;refine sq ?_;refine bl ?_;refine rd [] (fun i=>[15].contains i) mixed ?_
  refine dv 0 ?_;refine dv 1 ?_;refine dv 2 ?_;refine dv 3 ?_;refine WD.cast (t:=17) (u':=.int .i64 (((xs.length-1-k):Nat):Int)) rfl (aI (by omega)) ?_
  refine dv 4 ?_;refine dv 5 ?_;refine WD.cast (t:=19) (u':=.int .i64 (((xs.length-1-k):Nat):Int)) rfl (aI (by omega)) ?_
  refine dv 6 ?_;refine dv 8 ?_;refine dv 9 ?_;refine dv 10 ?_;refine WO.two (i:=7) (j:=11) (by kernel_rfl) ?_ ?_
  ·refine Aq 7 (uD (dR xs k) (k:=(xs.length-1-k)) (by omega)) ?_
   refine WO.one (by kernel_rfl) (Aq 11 (uD (dR xs k) (k:=k) (by omega)) ?_)
   refine dv 12 ?_;refine Ih 13 (oD (dR xs k) (k:=k) (v:=nth (dR xs k) ((xs.length-1-k))) (by omega)) (qV (dR xs k) (by omega)) ?_
   refine dv 14 ?_
   refine Nr 15 (oD ((dR xs k).set (k) (nth (dR xs k) ((xs.length-1-k)))) (k:=(xs.length-1-k)) (v:=nth (dR xs k) (k)) (by simp only[List.length_set];omega)) (qV ((dR xs k).set (k) (nth (dR xs k) ((xs.length-1-k)))) (by simp only[List.length_set];omega)) ?_
   refine cR ?_;refine rl ?_;refine o1 ?_;refine o1 ?_;refine WL.cast (t:=11) (u':=.int .i64 ((k+1:Nat):Int)) rfl (aI (by omega)) ?_
   (iterate 4 refine o1 ?_);refine nl ?_
   exact⟨k+1,by omega,by omega,Nx h0 [0] _ _ (by decide) rfl ⟨rfl,rfl,qW (by omega),trivial⟩ ⟨cY (congrArg (fun l=>some (⟨t,1,(bZ l).map .t⟩:Ob)) (Ik (by omega))),rfl⟩⟩
  refine Aq 11 (uD (dR xs k) (k:=k) (by omega)) ?_
  refine WO.one (by kernel_rfl) (Aq 7 (uD (dR xs k) (k:=(xs.length-1-k)) (by omega)) ?_)
  refine dv 12 ?_;refine Ih 13 (oD (dR xs k) (k:=k) (v:=nth (dR xs k) ((xs.length-1-k))) (by omega)) (qV (dR xs k) (by omega)) ?_
  refine dv 14 ?_
  refine Nr 15 (oD ((dR xs k).set (k) (nth (dR xs k) ((xs.length-1-k)))) (k:=(xs.length-1-k)) (v:=nth (dR xs k) (k)) (by simp only[List.length_set];omega)) (qV ((dR xs k).set (k) (nth (dR xs k) ((xs.length-1-k)))) (by simp only[List.length_set];omega)) ?_
  refine cR ?_;refine rl ?_;refine o1 ?_;refine o1 ?_;refine WL.cast (t:=11) (u':=.int .i64 ((k+1:Nat):Int)) rfl (aI (by omega)) ?_
  (iterate 4 refine o1 ?_);refine nl ?_
  exact⟨k+1,by omega,by omega,Nx h0 [0] _ _ (by decide) rfl ⟨rfl,rfl,qW (by omega),trivial⟩ ⟨cY (congrArg (fun l=>some (⟨t,1,(bZ l).map .t⟩:Ob)) (Ik (by omega))),rfl⟩⟩
 refine ex ?_
 exact Vp (lent':=[⟨t,1,(bZ xs.reverse).map .t⟩]) (.inr rfl) rfl Vq (by decide) (fun _ h=>by cases h) ⟨⟨rfl,rfl⟩,trivial⟩ ⟨congrArg (fun l=>some (⟨t,1,(bZ l).map .t⟩:Ob)) (Jt (by omega)),trivial⟩ ⟨Cl _,trivial⟩ (fun h=>by cases h) ⟨rfl,rfl⟩
theorem It {xs:List Nat}{v:Nat}(hx:xs.length≤1000000) (hl:Lim 4294967296 xs) (hv0:vl 4294967296 xs=v):aE true Tryz.prog 14 [] [.one (.t (sU false xs))] (bC (.one (tv (.string (aL (tx v)))))):=by
 refine cL Tryz.func14 rfl Tryz.ntmps14 rfl aB rfl fun N9 w9 c0 h0=>?_
 have hvL:v<4294967296^xs.length:=hv0▸eC hl
 have hvl:=bF (k:=xs.length) (by omega) hvL
 refine sq ?_;refine rl ?_;refine o1 ?_;refine nl ?_;refine sq ?_;refine rl ?_;refine Wa 0 ?_;refine nl ?_;refine sq ?_;refine rl ?_;refine o1 ?_;refine nl ?_;refine sq ?_;refine sq ?_
 refine rl ?_;refine o1 ?_;refine ca (Kz hl (by omega) hv0) Uv ⟨a1 rfl,rfl⟩ (.one (.t (sU false (dg 4294967296 v)))) ?_
 refine o1 ?_;refine nl ?_;refine bl ?_
 refine lp (γ:=(List Nat×List Nat)×Nat) (fun s=>cK [(0,.one (.t (sU false (dg 4294967296 s.2)))),(3,.one (.pt 0 0)),(4,.one (.sl 1 0 s.1.1.length))]) (fun s=>[(⟨87,1,(bZ s.1.2).map .t⟩:Ob),⟨5,1,(bZ (cH s.1.1)).map .t⟩].map some) (fun s=>s.1.2.length=9∧Lim 10 s.1.1∧vl 10 s.1.1+10^s.1.1.length*s.2=v∧s.2≤v∧s.1.1.length≤10*xs.length+9) (fun s=>s.2) (([],List.replicate 9 0),v) ⟨rfl,Lim.nil,(by simp[vl]),Nat.le_refl _,Nat.zero_le _⟩ ((nr (i:=4) 1 5 1 rfl rfl rfl rfl).trans (bH h0 [0,1] _ _ (by decide) ⟨rfl,rfl,rfl,trivial⟩ ⟨cY rfl,cY (l:=[]) rfl,rfl⟩)) ?_
 rintro⟨⟨ds,oC⟩,u⟩ ⟨ho,hd,hv,hu,hdl⟩;dsimp only at ho hd hv hu hdl⊢;have hul:=kN hu
 refine sq ?_;refine sq ?_;refine rl ?_;(iterate 3 refine o1 ?_);refine nl ?_;refine cE rfl (fun h1=>?_) (fun h1=>?_)
 ·refine sk ?_;refine bl ?_;refine sq ?_;have hup:=qX (B:=4294967296) (u:=u) (by omega)
  refine rl ?_;refine o1 ?_
  refine ca (Pi (u:=u) (d:=1000000000) (by omega) (by omega) (by omega)) Uw ⟨a1 rfl,a1 rfl,rfl⟩ (.tup [.one (.t (sU false (dg 4294967296 (u/1000000000)))),.one (tv (.int .u32 ((u%1000000000:Nat):Int))),.one (tv (.int .i64 0))]) ?_
  (iterate 7 refine o1 ?_);refine nl ?_;refine sq ?_;refine sq ?_;refine rl ?_;refine o1 ?_;refine nl ?_;refine bl ?_
  refine lp (γ:=Nat) (fun i=>cK [(3,.one (.pt 0 0)),(4,.one (.sl 1 0 ds.length)),(5,.one (.t (sU false (dg 4294967296 (u/1000000000))))),(6,.one (tv (.int .u32 ((u%1000000000/10^i:Nat):Int)))),(21,.one (tv (.int .i64 ((i:Nat):Int))))]) (fun i=>[(⟨87,1,(bZ (cH (fd (i) (u%1000000000))++oC.drop (i))).map .t⟩:Ob),⟨5,1,(bZ (cH ds)).map .t⟩].map some) (fun i=>i≤9) (fun i=>9-i) 0 (Nat.zero_le _) (bH h0 [0,1] _ _ (by decide) ⟨rfl,rfl,rfl,qW (by rw[Nat.pow_zero,Nat.div_one]),rfl,trivial⟩ ⟨cY rfl,cY rfl,rfl⟩) fun i hi=>?_
  have hlen:(cH (fd (i) (u%1000000000))++oC.drop (i)).length=9:=by rw[List.length_append,dX,iX,List.length_drop];omega
  have hdi:u%1000000000/10^i≤u%1000000000:=Nat.div_le_self _ _
  refine sq ?_;refine rl ?_;refine o1 ?_;refine nl ?_;refine sq ?_;refine cE rfl (fun h2=>?_) (fun h2=>?_)
  ·refine sk ?_;refine sq ?_;refine bl ?_;refine sq ?_;refine rl ?_;refine o1 ?_;refine o1 ?_;refine nl ?_;refine sq ?_;refine rl ?_;(iterate 3 refine o1 ?_)
   refine WL.cast (t:=26) (u':=.int .u32 (((u%1000000000/10^i%10):Nat):Int)) rfl (aI (fN _ 10)) ?_;refine o1 ?_
   refine WL.cast (t:=27) (u':=.int .u8 (((u%1000000000/10^i%10):Nat):Int)) rfl (aI (by omega)) ?_
   refine o1 ?_;refine WL.cast (t:=28) (u':=.int .u8 (((48+u%1000000000/10^i%10):Nat):Int)) rfl (aI (by omega)) ?_
   refine o1 ?_
   refine Td (oD (cH (fd (i) (u%1000000000))++oC.drop (i)) (k:=i) (v:=48+u%1000000000/10^i%10) (by omega)) (qV (cH (fd (i) (u%1000000000))++oC.drop (i)) (by omega)) ?_
   refine nl ?_;refine rl ?_;refine o1 ?_;refine o1 ?_ (hC:=(kA 10 (by omega) (Rz (Nat.lt_of_le_of_lt hdi (by omega)))))
   refine WL.cast (t:=31) (u':=.int .u32 (((u%1000000000/10^i/10):Nat):Int)) rfl (aI (gG _ 10)) ?_;refine o1 ?_;refine nl ?_;refine rl ?_;refine o1 ?_
   refine WL.cast (t:=32) (u':=.int .i64 ((i+1:Nat):Int)) rfl (aI (by omega)) ?_
   refine o1 ?_;refine nl ?_
   exact⟨i+1,by omega,by omega,bH h0 [0,1] _ _ (by decide) ⟨rfl,rfl,rfl,qW (by rw[Nat.pow_succ,Nat.div_div_eq_div_mul]),rfl,trivial⟩ ⟨cY (congrArg (fun l=>some (⟨87,1,(bZ l).map .t⟩:Ob)) (Oi (by omega) ho)),cY rfl,rfl⟩⟩
  refine ex ?_;have hi9:i=9:=by omega
  subst hi9;have he9:(cH (fd (9) (u%1000000000))++oC.drop (9))=cH (fd 9 (u%1000000000)):=by rw[List.drop_of_length_le (by omega),List.append_nil]
  refine sq ?_;refine rl ?_;refine o1 ?_
  refine Rq (m:=9) (by_:=1) 2 (DstA.sl (k:=1) (n:=ds.length) (e:=5) (z:=1) rfl (by rw[Ar,dX])) (Ii _) (Jr _) (by rw[Ar,hlen]) (by omega) (by omega) ?_
  refine o1 ?_;refine nl ?_;refine rl ?_;refine o1 ?_;refine o1 ?_;refine nl ?_
  exact⟨((ds++fd 9 (u%1000000000),cH (fd 9 (u%1000000000))),u/1000000000),by dsimp only;omega,⟨by dsimp only;rw[dX,iX],hd.append (Oh _ _),Ry hv,by dsimp only;omega,by dsimp only;rw[List.length_append,iX];have:=Ju hv hup hvL;omega⟩,bH h0 [0,2] _ _ (by decide) ⟨rfl,rfl,congrArg (fun n=>some (FV.one (.sl 2 0 n))) (show(ds++fd 9 (u%1000000000)).length=ds.length+9 by rw[List.length_append,iX]),trivial⟩ ⟨cY (congrArg (fun l=>some (⟨87,1,(bZ l).map .t⟩:Ob)) he9),cY (congrArg (fun l=>some (⟨5,1,l⟩:Ob)) ((Of _ _).trans (congrArg (fun l:List Nat=>(bZ l).map AV.t) (show cH ds++(cH (fd (9) (u%1000000000))++oC.drop (9))=cH (ds++fd 9 (u%1000000000)) by rw[he9,yN])))),rfl⟩⟩
 refine ex ?_;refine sq ?_;have hu0:u=0:=(cQ (B:=4294967296) (by omega)).1 (List.eq_nil_of_length_eq_zero (by omega))
 subst hu0;rw[Nat.mul_zero,Nat.add_zero]at hv;refine rl ?_;refine o1 ?_
 refine cl 2 [1] (Ek (t:=5) (xs:=cH ds) (n:=ds.length) (dX ds) (by omega)) Ux ⟨cY rfl,rfl⟩ ⟨rfl,rfl⟩ (ok:=[some ⟨5,1,(bZ (cH ds).reverse).map .t⟩]) ⟨cY rfl,rfl⟩ ?_
 refine nl ?_;refine sq ?_;refine sq ?_;refine rl ?_;refine o1 ?_
 refine Te (xs:=(cH ds).reverse) (Cy rfl (by rw[List.length_reverse,dX])) (by rw[List.length_reverse,dX]) ?_
 refine ca (Bm (sL (sM hd))) Uy ⟨a1 rfl,a1 rfl,rfl⟩ (.one (tv (.string (aL ((cH ds).reverse.dropWhile (· ==48)))))) ?_;refine o1 ?_;refine nl ?_;refine sq ?_
 refine rl ?_;refine o1 ?_;refine o1 ?_
 refine WL.cast (t:=43) (u':=.bool (!decide (((cH ds).reverse.dropWhile (· ==48))=[]))) rfl (congrArg Value.bool (congrArg not (iW (Oj (sL (sM hd)))))) ?_;refine nl ?_
 refine gY rfl (fun h3=>?_) (fun h3=>?_)
 ·refine sq ?_;refine rl ?_;refine o1 ?_;refine o1 ?_;refine nl ?_;refine rt ?_
  exact en (.inl rfl) rfl (bV (bD _)) (by decide) (fun _=>trivial) (congrArg (fun z=>FV.one (tv (.string z))) (congrArg aL (Jv hd hv h3)))
 refine sk ?_;refine sq ?_;refine rl ?_;refine o1 ?_;refine nl ?_;refine rt ?_
 exact en (.inl rfl) rfl (bV (bD _)) (by decide) (fun _=>trivial) (congrArg (fun z=>FV.one (tv (.string z))) (congrArg aL (Ok hd hv h3)))
theorem Ss:CallOk Tryz.prog 145:=.mk Tryz.func145 (by decide) rfl
theorem St:CallOk Tryz.prog 118:=.mk Tryz.func118 (by decide) rfl
theorem El {B:Nat}{l:List Nat}(h:Lim B l) (k:Nat):Lim B (l.take k):=fun x hx=>h x (List.mem_of_mem_take hx)
theorem Pw {l:List Nat}(h:Lim 256 l):((aL (l.take 1)).toList==(⟨#[45]⟩:ByteArray).toList)=decide (l.take 1=[45]):=qU (l':=[45]) (El h 1) (Lim.cons (by omega) Lim.nil)
theorem Px {l:List Nat}(h:¬1≤l.length):false=decide (l.take 1=[45]):=by
 rw[List.eq_nil_of_length_eq_zero (show l.length=0 by omega)];rfl
theorem xD {l:List Nat}(hl:Lim 256 l):aE true Tryz.prog 145 [] [.one (tv (.string (aL l))),.one (tv (.string ⟨#[45]⟩))] (bC (.one (tv (.bool (decide (l.take 1=[45])))))):=by
 refine cL Tryz.func145 rfl Tryz.ntmps145 rfl aB rfl fun N9 w9 c0 h0=>?_
 refine sq ?_;refine rl ?_;refine o1 ?_;refine nl ?_;refine sq ?_;refine rl ?_;refine o1 ?_;refine o1 ?_
 refine WL.cast (t:=6) (u':=.int .i64 ((l.length:Nat):Int)) rfl (congrArg (fun n:Nat=>Value.int .i64 (n:Int)) (aR _)) ?_
 refine o1 ?_;refine o1 ?_;refine WL.cast (t:=8) (u':=.int .i64 ((1:Nat):Int)) rfl rfl ?_;refine o1 ?_;refine o1 ?_;refine WL.split (t:=10) rfl (fun h1=>?_) (fun h1=>?_)
 ·(iterate 3 refine o1 ?_);refine WL.cast (t:=13) (u':=.int .i64 ((1:Nat):Int)) rfl rfl ?_;refine o1 ?_ (hC:=(by rw[aR];show 1≤l.length;omega))
  refine WL.cast (t:=14) (u':=.string (aL (l.take 1))) rfl (congrArg Value.string ((lJ l 0 1).trans rfl)) ?_;refine o1 ?_;refine o1 ?_
  refine WL.cast (t:=16) (u':=.bool (decide (l.take 1=[45]))) rfl (congrArg Value.bool (Pw hl)) ?_;refine o1 ?_;refine o1 ?_;refine nl ?_;refine rt ?_;exact oE (.inl rfl) rfl (rfl)
 (iterate 6 refine dL ?_);refine o1 ?_;refine o1 ?_;refine nl ?_;refine rt ?_;exact oE (.inl rfl) rfl (Px (by omega))
theorem zD {l:List Nat}(h:l.take 1=[45]):1≤l.length:=by
 have:=congrArg List.length h
 rw[List.length_take]at this
 simp at this
 omega
theorem xE {l:List Nat}(hl:Lim 256 l):aE true Tryz.prog 118 [] [.one (tv (.string (aL l))),.one (tv (.string ⟨#[45]⟩))] (bC (.tup [.one (tv (.string (aL (if l.take 1=[45]then l.drop 1 else l)))),.one (tv (.bool (decide (l.take 1=[45]))))])):=by
 refine cL Tryz.func118 rfl Tryz.ntmps118 rfl aB rfl fun N9 w9 c0 h0=>?_
 refine sq ?_;refine rl ?_;refine o1 ?_;refine o1 ?_;refine nl ?_;refine sq ?_;refine sq ?_;refine rl ?_;refine o1 ?_;refine o1 ?_
 refine ca (xD hl) Ss ⟨a1 rfl,a1 rfl,rfl⟩ (.one (tv (.bool (decide (l.take 1=[45]))))) ?_;refine WL.splitb (t:=8) rfl (fun h1=>?_) (fun h1=>?_)
 ·refine o1 ?_;refine nl ?_;refine gZ rfl ?_;refine sk ?_;refine sq ?_;have h9:=of_decide_eq_true h1
  refine rl ?_;(iterate 3 refine o1 ?_);refine WL.cast (t:=13) (u':=.int .i64 ((1:Nat):Int)) rfl rfl ?_;refine o1 ?_ (hC:=(by rw[aR];show 1≤l.length;exact zD h9))
  refine WL.cast (t:=14) (u':=.string (aL (l.drop 1))) rfl (congrArg Value.string (iG _ _)) ?_;refine o1 ?_;refine o1 ?_;refine nl ?_;refine rt ?_
  exact en (.inl rfl) rfl (dN (.cons (bD _) (.cons (bD _) .nil))) (by decide) (fun _=>⟨trivial,trivial,trivial⟩) (by rw[if_pos (of_decide_eq_true h1),h1];rfl)
 refine o1 ?_;refine nl ?_;refine jS rfl ?_;refine sq ?_;refine rl ?_;(iterate 3 refine o1 ?_);refine nl ?_;refine rt ?_
 exact en (.inl rfl) rfl (dN (.cons (bD _) (.cons (bD _) .nil))) (by decide) (fun _=>⟨trivial,trivial,trivial⟩) (by rw[if_neg (of_decide_eq_false h1),h1];rfl)
theorem xF {l:List Nat}(hl:Lim 256 l):aE true Tryz.prog 68 [] [.one (tv (.string (aL l))),.one (tv (.string ⟨#[45]⟩))] (bC (.tup [.one (tv (.string (aL (if l.take 1=[45]then l.drop 1 else l)))),.one (tv (.bool (decide (l.take 1=[45]))))])):=by
 refine cL Tryz.func68 rfl Tryz.ntmps68 rfl aB rfl fun N9 w9 c0 h0=>?_
 refine sq ?_;refine rl ?_;refine o1 ?_;refine o1 ?_;refine nl ?_;refine sq ?_;refine rl ?_;refine o1 ?_;refine o1 ?_
 refine ca (xE hl) St ⟨a1 rfl,a1 rfl,rfl⟩ (.tup [.one (tv (.string (aL (if l.take 1=[45]then l.drop 1 else l)))),.one (tv (.bool (decide (l.take 1=[45]))))]) ?_
 (iterate 4 refine o1 ?_);refine nl ?_;refine rt ?_;exact en (.inl rfl) rfl (dN (.cons (bD _) (.cons (bD _) .nil))) (by decide) (fun _=>⟨trivial,trivial,trivial⟩) rfl
theorem Em {k:Int}{f:FuncId}{args:List FV}(h:∀(N:Nat→Prop) (w:World) us,bP w N [] args us→(∀b,N b→b<w.heap.size)→Calls Tryz.prog f us.toArray w (Ow k w)):aE true Tryz.prog f [] args (bC (kO k)):=by
 intro N w cs us hL
 obtain⟨rfl,hf⟩:=lQ hL
 refine(h _ w us hf (fun b hb=>hb.1)).mono ?_
 rintro e W ⟨A,n,c,rfl,ho,hb⟩
 obtain⟨y1,a1,a2,a3,a4⟩:=lP (N:=fun b=>true=false∧(b<W.heap.size∧b∉VT.fpL [])∧(N b∨w.heap.size≤b)) ho
 refine .mk0 (y:=[.w (.bool (aT k)),y1]) rfl hb (by simp only[VT.okL,VT.ok];exact⟨trivial,a3,trivial⟩) ?_ (fun b hb'=>?_) ?_
 ·simp only[VT.fpL,VT.fp,a4,List.nil_append,List.append_nil]
  exact oH A n c
 ·simp only[VT.fpL,VT.fp,a4,List.nil_append,List.append_nil]at hb'
  exact ho.blk b hb'
 refine⟨by simp only[List.map_cons,List.map_nil,a1];rfl,?_⟩
 simp only[List.map_cons,List.map_nil,aN,CR,sU]
 exact⟨by simp[OR],eY (fun _ _=>rfl) (fun b hb=>absurd hb.1 (by simp)) _ _ a2,trivial⟩
theorem eE {n:Int}(h1:-9223372036854775808≤n) (h2:n≤9223372036854775807):aE true Tryz.prog 27 [] [.one (tv (.int .i64 n))] (bC (kO n)):=Em fun N w us hf hN=>by
 obtain⟨u,rfl,h3⟩:=Gn hf
 obtain rfl:=aD (fH h3)
 exact Ox n w h1 h2
theorem oI {k:Int}(h:aT k=true):k<0:=of_decide_eq_true h
theorem lU {k:Int}(h:aT k=false):¬k<0:=of_decide_eq_false h
theorem Py {v:Nat}(h:(dg 4294967296 v).length≤1000000):(tx v).length≤10000001:=by
 unfold tx
 split
 ·simp
 rw[List.length_reverse,dX]
 have h1:=iK (B:=4294967296) (n:=v) (by omega)
 have h2:v<10^(10*(dg 4294967296 v).length):=Nat.lt_of_lt_of_le h1 (by rw[Nat.pow_mul];exact Nat.pow_le_pow_left (by omega) _)
 have:=bF (B:=10) (by omega) h2
 omega
theorem Iu {a:Zi}{k:Int}(ha:Zn a k) (hs:(dg 4294967296 k.natAbs).length≤1000000):aE true Tryz.prog 29 [] [gF a] (bC (.one (tv (.string (aL (nB k)))))):=by
 refine cL Tryz.func29 rfl Tryz.ntmps29 rfl aB rfl fun N9 w9 c0 h0=>?_
 refine sq ?_;refine rl ?_;refine bx 0 ?_;refine o1 ?_;refine nl ?_;refine sq ?_;refine rl ?_;refine ld ?_;refine ca (cC (ha).g) cB ⟨aV rfl,rfl⟩ (kF (k)) ?_;refine al 1 ?_;refine st ?_
 refine nl ?_;refine sq ?_;refine sq ?_;refine rl ?_;refine o1 ?_;refine o1 ?_;refine ld ?_;refine nl ?_;refine gY rfl (fun h1=>?_) (fun h1=>?_)
 ·refine sq ?_;refine rl ?_;refine o1 ?_;refine o1 ?_;refine ld ?_
  refine ca (It (xs:=dg 4294967296 k.natAbs) (v:=k.natAbs) hs (aQ (by omega) _) (bM (by omega) _)) Nl ⟨a1 rfl,rfl⟩ (.one (tv (.string (aL (tx k.natAbs))))) ?_
  refine o1 ?_ (hC:=(by rw[aR];have:=Py hs;show 1+(tx k.natAbs).length≤_;omega))
  refine WL.cast (t:=13) (u':=.string (aL (45::tx k.natAbs))) rfl (congrArg Value.string (vU [45] _)) ?_;refine o1 ?_;refine nl ?_;refine rt ?_
  exact en (.inl rfl) rfl (bV (bD _)) (by decide) (fun _=>trivial) (congrArg (fun z=>FV.one (tv (.string z))) (congrArg aL (by unfold nB;rw[if_pos (oI h1)])))
 refine sk ?_;refine sq ?_;refine rl ?_;refine o1 ?_;refine o1 ?_;refine ld ?_
 refine ca (It (xs:=dg 4294967296 k.natAbs) (v:=k.natAbs) hs (aQ (by omega) _) (bM (by omega) _)) Nl ⟨a1 rfl,rfl⟩ (.one (tv (.string (aL (tx k.natAbs))))) ?_
 refine o1 ?_;refine nl ?_;refine rt ?_
 exact en (.inl rfl) rfl (bV (bD _)) (by decide) (fun _=>trivial) (congrArg (fun z=>FV.one (tv (.string z))) (congrArg aL (by unfold nB;rw[if_neg (lU h1)])))
theorem Ln {a:Zi}{k:Int}(ha:Zn a k) (hs:2<(dg 4294967296 k.natAbs).length):aE true Tryz.prog 24 [] [gF a] (bC (.tup [.one (tv (.int .i64 0)),.one (tv (.bool false))])):=by
 refine cL Tryz.func24 rfl Tryz.ntmps24 rfl aB rfl fun N9 w9 c0 h0=>?_
 refine sq ?_;refine rl ?_;refine bx 0 ?_;refine o1 ?_;refine o1 ?_;refine nl ?_;refine sq ?_;refine rl ?_;refine ld ?_;refine ca (cC (ha).g) cB ⟨aV rfl,rfl⟩ (kF (k)) ?_;refine al 1 ?_
 refine st ?_;refine nl ?_;refine sq ?_;refine sq ?_;refine rl ?_;refine o1 ?_;refine o1 ?_;refine ld ?_;refine o1 ?_;refine o1 ?_;refine nl ?_;refine cE rfl (fun h1=>?_) (fun h1=>?_)
 ·refine sq ?_;refine rl ?_;refine o1 ?_;refine o1 ?_;refine nl ?_;refine rt ?_
  exact en (.inl rfl) rfl (dN (.cons (bD _) (.cons (bD _) .nil))) (by decide) (fun _=>⟨trivial,trivial,trivial⟩) rfl
 exact absurd h1 (by omega)
theorem Bn {a:Zi}(hl:a.x.length≤1000000):aE true Tryz.prog 26 [] [gF a] (bC (gO a)):=by
 refine cL Tryz.func26 rfl Tryz.ntmps26 rfl aB rfl fun N9 w9 c0 h0=>?_
 refine sq ?_;refine rl ?_;refine bx 0 ?_;refine al 1 ?_;refine nl ?_;refine sq ?_;refine rl ?_;refine o1 ?_;refine ld ?_;refine o1 ?_;refine al 2 ?_;refine st ?_;refine nl ?_
 refine sq ?_;refine rl ?_;refine o1 ?_;refine ld ?_;refine o1 ?_;refine ld ?_;refine mJ (j:=3) aB rfl rfl rfl rfl .nil .fz (Oz _) (Gm _) rfl (by omega) (by omega) ?_
 refine o1 ?_;refine st ?_;refine nl ?_;refine sq ?_;refine rl ?_;refine ld ?_;refine st ?_;refine nl ?_;refine rt ?_
 exact en (.inl rfl) rfl (bV (.agg (.cons (.id rfl) (.cons (.sl (trs:=aS a.x) rfl rfl (by rw[Nat.zero_add];exact bY _) (by rw[Nat.zero_add];exact bO _)) .nil)))) (by decide) (fun _=>⟨trivial,.inl ⟨rfl,eM _⟩,trivial⟩) (by rw[Nat.zero_add];rfl)
theorem Pz {a b:Zi}(ha:a.x.length≤1000000) (hb:b.x.length≤1000000):aE true Tryz.prog 28 [] [gF a,gF b] (bC (.one (tv (.bool (gX a b))))):=by
 refine cL Tryz.func28 rfl Tryz.ntmps28 rfl aB rfl fun N9 w9 c0 h0=>?_
 refine sq ?_;refine rl ?_;refine bx 0 ?_;refine bx 1 ?_;refine o1 ?_;refine nl ?_;refine sq ?_;refine sq ?_;refine rl ?_;refine o1 ?_;refine ld ?_;refine o1 ?_;refine ld ?_;refine o1 ?_
 refine WL.cast (t:=10) (u':=.bool (!(a.s==b.s))) rfl (congrArg Value.bool rfl) ?_;refine o1 ?_;refine WL.splitb (t:=11) rfl (fun h1=>?_) (fun h1=>?_)
 ·(iterate 7 refine dL ?_);refine o1 ?_;refine nl ?_;refine jS rfl ?_;refine sq ?_;refine rl ?_;refine o1 ?_;refine nl ?_;refine rt ?_;exact oE (.inl rfl) rfl (Lc h1)
 refine o1 ?_;refine ld ?_;refine o1 ?_;refine o1 ?_;refine ld ?_;(iterate 3 refine o1 ?_);refine nl ?_;refine cE rfl (fun h2=>?_) (fun h2=>?_)
 ·refine sq ?_;refine rl ?_;refine o1 ?_;refine nl ?_;refine rt ?_;exact oE (.inl rfl) rfl (Ld (by omega))
 refine sk ?_;refine sq ?_;refine sq ?_;refine rl ?_;refine o1 ?_;refine nl ?_;refine bl ?_
 refine lp (γ:=Nat) (fun k=>cK [(2,.one (.pt 0 0)),(3,.one (.pt 1 0)),(5,.one (tv (.int .i64 ((k:Nat):Int))))]) (fun k=>[(⟨44,0,[tv (.bool a.s),.t (sU false a.x)]⟩:Ob),⟨47,0,[tv (.bool b.s),.t (sU false b.x)]⟩].map some) (fun k=>k≤a.x.length∧a.x.take k=b.x.take k) (fun k=>a.x.length-k) 0 ⟨Nat.zero_le _,rfl⟩ (bH h0 [0,1] _ _ (by decide) ⟨rfl,rfl,rfl,trivial⟩ ⟨oe rfl rfl,oe rfl rfl,rfl⟩) fun k hk=>?_
 refine sq ?_;refine sq ?_;refine rl ?_;refine o1 ?_;refine o1 ?_;refine ld ?_;refine o1 ?_;refine o1 ?_;refine nl ?_;refine cE rfl (fun h3=>?_) (fun h3=>?_)
 ·refine sk ?_;refine sq ?_;refine bl ?_;refine sq ?_;refine rd [0,1] (fun i=>[].contains i) mixed ?_
  refine dv 0 ?_;refine cT 1 ?_;refine dv 2 ?_;refine dv 3 ?_;refine Ic 4 ([.v (.int .u32 ((nth a.x (k):Nat):Int))]) (gV a.x (k:=k) (by omega)) ?_
  refine dv 5 ?_;refine cT 6 ?_;refine dv 7 ?_;refine dv 8 ?_;refine Ic 9 ([.v (.int .u32 ((nth b.x (k):Nat):Int))]) (gV b.x (k:=k) (by omega)) ?_
  refine dv 10 ?_;refine cR ?_;refine cE rfl (fun h4=>?_) (fun h4=>?_)
  ·refine sq ?_;refine rl ?_;refine o1 ?_;refine nl ?_;refine rt ?_;exact oE (.inl rfl) rfl (Le (k:=k) (by omega))
  refine sk ?_;refine rl ?_;refine o1 ?_;refine o1 ?_;refine WL.cast (t:=26) (u':=.int .i64 ((k+1:Nat):Int)) rfl (aI (by omega)) ?_
  refine o1 ?_;refine nl ?_
  exact⟨k+1,by omega,⟨by omega,Gp hk.2 (by omega) (by omega) (by omega)⟩,bH h0 [0,1] _ _ (by decide) ⟨rfl,rfl,rfl,trivial⟩ ⟨oe rfl rfl,oe rfl rfl,rfl⟩⟩
 refine ex ?_;refine sq ?_;refine rl ?_;refine o1 ?_;refine nl ?_;refine rt ?_;exact oE (.inl rfl) rfl (Lg h1 (by omega) hk.2 (by omega))
theorem zE {l:List Nat}(h:decide (l=[])=false):0<l.length:=by
 cases l with
 | nil=>simp at h
 | cons _ _=>simp
theorem zG {l:List Nat}{j:Nat}(h:(!decide (l.drop j=[]))=true):j<l.length:=by
 rcases Nat.lt_or_ge j l.length with h1 | h1
 ·exact h1
 rw[List.drop_of_length_le h1]at h;simp at h
theorem zH {l:List Nat}{j:Nat}(h:(!decide (l.drop j=[]))=false):l.length≤j:=by
 rcases Nat.lt_or_ge j l.length with h1 | h1
 ·have h2:=of_decide_eq_true (yM h)
  have h3:=congrArg List.length h2
  rw[List.length_drop,List.length_nil]at h3
  omega
 exact h1
theorem Qa {l:List Nat}(hl:Lim 256 l):aE true Tryz.prog 68 [] [.one (tv (.string (aL l))),.one (tv (.string ⟨#[45]⟩))] (bC (.tup [.one (tv (.string (aL (aO l)))),.one (tv (.bool (decide (l.take 1=[45]))))])):=xF hl
theorem zI {l:List Nat}(hl:Lim 256 l):Lim 256 (aO l):=by unfold aO;split;exact mP hl 1;exact hl
theorem zJ {l:List Nat}:(aO l).length≤l.length:=by unfold aO;split;(rw[List.length_drop];omega);exact Nat.le_refl _
theorem Lo {l:List Nat}(hl:Lim 256 l) (hn:l.length≤1000000):aE true Tryz.prog 9 [] [.one (tv (.string (aL l)))] (bC (.tup [.one (.t (sU true (dg 4294967296 (wM l)))),.one (tv (.int .i64 (fR l)))])):=by
 refine cL Tryz.func9 rfl Tryz.ntmps9 rfl aB rfl fun N9 w9 c0 h0=>?_
 refine sq ?_;refine rl ?_;refine o1 ?_;refine o1 ?_;refine nl ?_;refine sq ?_;refine bl ?_;refine sq ?_;refine sq ?_;refine rl ?_;refine o1 ?_;refine o1 ?_
 refine WL.cast (t:=10) (u':=.bool (decide (l=[]))) rfl (congrArg Value.bool (iW hl)) ?_;refine o1 ?_;refine nl ?_;refine gY rfl (fun h1=>?_) (fun h1=>?_)
 ·refine sk ?_;refine jS (congrArg (fun b=>FV.one (tv (.bool b))) h1) ?_
  refine sq ?_;refine rl ?_;refine o1 ?_;refine o1 ?_;refine nl ?_;refine rt ?_;have he:=kP (Is h1)
  exact en (.inl rfl) rfl (dN (.cons (.one (.nil (t:=22) (z:=1))) (.cons (bD _) .nil))) (by decide) (fun _=>⟨.inl ⟨rfl,trivial⟩,trivial,trivial⟩) (by rw[he,pA (by rw[he];decide)];rfl)
 refine sq ?_;have hp9:=zE h1
 refine rl ?_;refine o1 ?_;refine o1 ?_
 refine WL.cast (t:=12) (u':=.bool (!decide (l=[48]))) rfl (congrArg Value.bool (congrArg not (qU (l':=[48]) hl (Lim.cons (by omega) Lim.nil)))) ?_
 refine o1 ?_;refine WL.splitb (t:=13) rfl (fun h2=>?_) (fun h2=>?_)
 ·refine o1 ?_;refine o1 ?_ (hC:=(by rw[aR];show 0<l.length;omega))
  refine WL.cast (t:=15) (u':=.int .u8 (((nth l 0):Nat):Int)) rfl (congrArg (fun n:Nat=>Value.int .u8 (n:Int)) (fT (i:=0) (by omega) (gB hl (by omega)))) ?_
  (iterate 3 refine o1 ?_);refine nl ?_;refine cE rfl (fun h3=>?_) (fun h3=>?_)
  ·refine sk ?_;refine cE rfl (fun h4=>?_) (fun h4=>?_)
   ·refine sq ?_;refine rl ?_;refine o1 ?_;refine o1 ?_;refine nl ?_;refine rt ?_;have he:=kP (Bk (Ij h2) (by omega))
    exact en (.inl rfl) rfl (dN (.cons (.one (.nil (t:=22) (z:=1))) (.cons (bD _) .nil))) (by decide) (fun _=>⟨.inl ⟨rfl,trivial⟩,trivial,trivial⟩) (by rw[he,pA (by rw[he];decide)];rfl)
   omega
  refine rl ?_;refine o1 ?_;refine ca (wJ hn) No ⟨a1 rfl,a1 rfl,rfl⟩ (.one (tv (.string ⟨(Lib.trimS (aL l).data.toList [48,49,50,51,52,53,54,55,56,57]).toArray⟩))) ?_
  refine o1 ?_;refine WL.cast (t:=20) (u':=.bool (!kB l)) rfl (congrArg Value.bool (congrArg not (zA hl))) ?_;refine o1 ?_;refine nl ?_;refine gY rfl (fun h5=>?_) (fun h5=>?_)
  ·refine sq ?_;refine rl ?_;refine o1 ?_;refine o1 ?_;refine nl ?_;refine rt ?_;have he:=kP (rK (Ij h5))
   exact en (.inl rfl) rfl (dN (.cons (.one (.nil (t:=22) (z:=1))) (.cons (bD _) .nil))) (by decide) (fun _=>⟨.inl ⟨rfl,trivial⟩,trivial,trivial⟩) (by rw[he,pA (by rw[he];decide)];rfl)
  refine sq ?_;have hg:=wN h1 (.inr (by omega)) (yM h5)
  have hdg:=rM hg
  refine rl ?_;refine o1 ?_;refine o1 ?_;refine WL.cast (t:=23) (u':=.int .i64 ((l.length:Nat):Int)) rfl (congrArg (fun n:Nat=>Value.int .i64 (n:Int)) (aR _)) ?_
  refine o1 ?_;refine o1 ?_;refine nl ?_;refine cE rfl (fun h6=>?_) (fun h6=>?_)
  ·refine sq ?_;refine rl ?_;refine o1 ?_;refine o1 ?_;refine nl ?_;refine rt ?_;have he:=Ha hg (by omega)
   exact en (.inl rfl) rfl (dN (.cons (.one (.nil (t:=22) (z:=1))) (.cons (bD _) .nil))) (by decide) (fun _=>⟨.inl ⟨rfl,trivial⟩,trivial,trivial⟩) (by rw[he,pA (by rw[he];decide)];rfl)
  refine sk ?_;refine sq ?_;refine rl ?_;refine o1 ?_;refine nl ?_;refine sq ?_;refine sq ?_;refine rl ?_;refine o1 ?_;refine o1 ?_
  refine WL.cast (t:=26) (u':=.int .i64 ((l.length:Nat):Int)) rfl (congrArg (fun n:Nat=>Value.int .i64 (n:Int)) (aR _)) ?_
  refine o1 ?_;refine WL.cast (t:=27) (u':=.int .i64 ((l.length%9:Nat):Int)) rfl (aI (fN _ 9)) ?_;refine o1 ?_;refine nl ?_;refine bl ?_
  refine lp (γ:=Nat×Nat) (fun s=>cK [(0,.one (tv (.string (aL (l.drop s.1))))),(4,.one (.sl 0 0 ((dg 4294967296 (aW (l.take s.1))).length))),(5,.one (tv (.int .i64 ((s.2:Nat):Int))))]) (fun s=>[(⟨22,1,(aS (dg 4294967296 (aW (l.take s.1)))).map .t⟩:Ob)].map some) (fun s=>s.1≤l.length∧(s.1=0∧s.2=l.length%9∨0<s.1∧s.2=9∧(l.length-s.1)%9=0)) (fun s=>l.length-s.1) (0,l.length%9) ⟨Nat.zero_le _,.inl ⟨rfl,rfl⟩⟩ ((nr (i:=4) 0 22 1 rfl rfl rfl rfl).trans (bH h0 [0] _ _ (by decide) ⟨rfl,rfl,rfl,trivial⟩ ⟨cY (l:=[]) rfl,rfl⟩)) ?_
  rintro⟨j,f⟩ ⟨hj,hf⟩;dsimp only at hj hf⊢;refine sq ?_;refine sq ?_;refine rl ?_;refine o1 ?_;refine o1 ?_
  refine WL.cast (t:=29) (u':=.bool (!decide (l.drop j=[]))) rfl (congrArg Value.bool (congrArg not (iW (mP hl j)))) ?_;refine nl ?_
  refine gY rfl (fun h7=>?_) (fun h7=>?_)
  ·refine sk ?_;refine sq ?_;refine bl ?_;refine sq ?_;refine sq ?_;have hjl:=zG h7
   refine rl ?_;refine o1 ?_;refine o1 ?_;refine nl ?_;refine cE rfl (fun h8=>?_) (fun h8=>?_)
   ·refine rl ?_;refine o1 ?_;refine nl ?_;refine sq ?_;refine rl ?_;refine o1 ?_;refine o1 ?_;refine o1 ?_ (hC:=(by rw[aR,List.length_drop];show 9≤l.length-j;omega))
    refine WL.cast (t:=35) (u':=.string (aL ((l.drop j).take 9))) rfl (congrArg Value.string ((lJ _ 0 _).trans rfl)) ?_
    refine ca (rJ (l:=((l.drop j).take 9)) (mT hdg j 9) (by rw[List.length_take,List.length_drop];omega) (by rw[List.length_take];omega)) Ah ⟨a1 rfl,rfl⟩ (.tup [.one (tv (.int .i64 ((aW ((l.drop j).take 9):Nat):Int))),.one (tv .nilIface)]) ?_
    (iterate 5 refine o1 ?_);refine nl ?_;refine sq ?_;have hpl:=mU hdg (j:=j) (f:=9) (by omega) (by omega)
    have hpc:=kQ (l:=l) (j:=j) (f:=9) (by omega) (by omega)
    have hl1:=iJ hdg hj
    have hl2:=fM (aW (l.take j)) 1000000000
    have hl3:(dg 4294967296 1000000000).length≤1:=bF (by omega) (by decide)
    refine rl ?_;refine o1 ?_
    refine ca (rN (u:=aW (l.take j)) (m:=1000000000) (by omega) (by omega)) Aj ⟨jF rfl (.sl rfl rfl (lT _) (bO _)),a1 rfl,rfl⟩ (.one (.t (sU false (dg 4294967296 (aW (l.take j)*1000000000))))) ?_
    refine o1 ?_;refine o1 ?_;refine WL.cast (t:=42) (u':=.int .u32 ((aW ((l.drop j).take 9):Nat):Int)) rfl (aI (by omega)) ?_
    refine bs 1 ?_
    refine hH 2 (rO (u:=aW (l.take j)*1000000000) (x:=aW ((l.drop j).take 9)) (by omega) (by omega)) sJ ⟨a1 rfl,jF rfl (.sl (trs:=aS [aW ((l.drop j).take 9)]) rfl rfl rfl rfl),rfl⟩ ?_
    refine o1 ?_;refine nl ?_;refine rl ?_;refine o1 ?_;refine o1 ?_;refine o1 ?_ (hC:=(by rw[aR,List.length_drop];show 9≤l.length-j;omega))
    refine WL.cast (t:=47) (u':=.string (aL ((l.drop j).drop 9))) rfl (congrArg Value.string (iG _ _)) ?_;refine o1 ?_;refine nl ?_;refine rl ?_;refine o1 ?_;refine nl ?_
    exact⟨(j+9,9),by dsimp only;omega,⟨by dsimp only;omega,.inr ⟨by dsimp only;omega,rfl,by dsimp only;omega⟩⟩,bH h0 [2] _ _ (by decide) ⟨(congrArg (fun l:List Nat=>some (FV.one (tv (.string (aL l))))) (by rw[List.drop_drop])),(congrArg (fun z:Nat=>some (FV.one (.sl 2 0 (dg 4294967296 z).length))) hpc.symm),rfl,trivial⟩ ⟨cY (congrArg (fun z:Nat=>some (⟨22,1,(aS (dg 4294967296 z)).map .t⟩:Ob)) hpc),rfl⟩⟩
   refine sk ?_;refine sq ?_;refine rl ?_;refine o1 ?_;refine o1 ?_;refine o1 ?_ (hC:=(by rw[aR,List.length_drop];show f≤l.length-j;omega))
   refine WL.cast (t:=35) (u':=.string (aL ((l.drop j).take f))) rfl (congrArg Value.string ((lJ _ 0 _).trans rfl)) ?_
   refine ca (rJ (l:=((l.drop j).take f)) (mT hdg j f) (by rw[List.length_take,List.length_drop];omega) (by rw[List.length_take];omega)) Ah ⟨a1 rfl,rfl⟩ (.tup [.one (tv (.int .i64 ((aW ((l.drop j).take f):Nat):Int))),.one (tv .nilIface)]) ?_
   (iterate 5 refine o1 ?_);refine nl ?_;refine sq ?_;have hpl:=mU hdg (j:=j) (f:=f) (by omega) (by omega)
   have hpc:=kQ (l:=l) (j:=j) (f:=f) (by omega) (by omega)
   have hl1:=iJ hdg hj
   have hl2:=fM (aW (l.take j)) 1000000000
   have hl3:(dg 4294967296 1000000000).length≤1:=bF (by omega) (by decide)
   refine rl ?_;refine o1 ?_
   refine ca (rN (u:=aW (l.take j)) (m:=1000000000) (by omega) (by omega)) Aj ⟨jF rfl (.sl rfl rfl (lT _) (bO _)),a1 rfl,rfl⟩ (.one (.t (sU false (dg 4294967296 (aW (l.take j)*1000000000))))) ?_
   refine o1 ?_;refine o1 ?_;refine WL.cast (t:=42) (u':=.int .u32 ((aW ((l.drop j).take f):Nat):Int)) rfl (aI (by omega)) ?_
   refine bs 1 ?_
   refine hH 2 (rO (u:=aW (l.take j)*1000000000) (x:=aW ((l.drop j).take f)) (by omega) (by omega)) sJ ⟨a1 rfl,jF rfl (.sl (trs:=aS [aW ((l.drop j).take f)]) rfl rfl rfl rfl),rfl⟩ ?_
   refine o1 ?_;refine nl ?_;refine rl ?_;refine o1 ?_;refine o1 ?_;refine o1 ?_ (hC:=(by rw[aR,List.length_drop];show f≤l.length-j;omega))
   refine WL.cast (t:=47) (u':=.string (aL ((l.drop j).drop f))) rfl (congrArg Value.string (iG _ _)) ?_;refine o1 ?_;refine nl ?_;refine rl ?_;refine o1 ?_;refine nl ?_
   exact⟨(j+f,9),by dsimp only;omega,⟨by dsimp only;omega,.inr ⟨by dsimp only;omega,rfl,by dsimp only;omega⟩⟩,bH h0 [2] _ _ (by decide) ⟨(congrArg (fun l:List Nat=>some (FV.one (tv (.string (aL l))))) (by rw[List.drop_drop])),(congrArg (fun z:Nat=>some (FV.one (.sl 2 0 (dg 4294967296 z).length))) hpc.symm),rfl,trivial⟩ ⟨cY (congrArg (fun z:Nat=>some (⟨22,1,(aS (dg 4294967296 z)).map .t⟩:Ob)) hpc),rfl⟩⟩
  refine ex ?_;refine sq ?_;refine rl ?_;(iterate 3 refine o1 ?_);refine nl ?_;refine rt ?_;have hjl:=zH h7
  have he:=wO hg (by omega)
  exact en (.inl rfl) rfl (dN (.cons (.one (.sl (trs:=aS (dg 4294967296 (aW (l.take j)))) rfl rfl (bY _) (bO _))) (.cons (bD _) .nil))) (by decide) (fun _=>⟨.inl ⟨rfl,eM _⟩,trivial,trivial⟩) (by rw[he,rL he,List.take_of_length_le hjl];rfl)
 (iterate 3 refine dL ?_);refine o1 ?_;refine o1 ?_;refine nl ?_;refine gZ rfl ?_;refine rl ?_;refine o1 ?_
 refine ca (wJ hn) No ⟨a1 rfl,a1 rfl,rfl⟩ (.one (tv (.string ⟨(Lib.trimS (aL l).data.toList [48,49,50,51,52,53,54,55,56,57]).toArray⟩))) ?_;refine o1 ?_
 refine WL.cast (t:=20) (u':=.bool (!kB l)) rfl (congrArg Value.bool (congrArg not (zA hl))) ?_;refine o1 ?_;refine nl ?_;refine gY rfl (fun h9=>?_) (fun h9=>?_)
 ·refine sq ?_;refine rl ?_;refine o1 ?_;refine o1 ?_;refine nl ?_;refine rt ?_;have he:=kP (rK (Ij h9))
  exact en (.inl rfl) rfl (dN (.cons (.one (.nil (t:=22) (z:=1))) (.cons (bD _) .nil))) (by decide) (fun _=>⟨.inl ⟨rfl,trivial⟩,trivial,trivial⟩) (by rw[he,pA (by rw[he];decide)];rfl)
 refine sq ?_;have hg:=wN h1 (.inl (yM h2)) (yM h9)
 have hdg:=rM hg
 refine rl ?_;refine o1 ?_;refine o1 ?_;refine WL.cast (t:=23) (u':=.int .i64 ((l.length:Nat):Int)) rfl (congrArg (fun n:Nat=>Value.int .i64 (n:Int)) (aR _)) ?_
 refine o1 ?_;refine o1 ?_;refine nl ?_;refine cE rfl (fun h10=>?_) (fun h10=>?_)
 ·refine sq ?_;refine rl ?_;refine o1 ?_;refine o1 ?_;refine nl ?_;refine rt ?_;have he:=Ha hg (by omega)
  exact en (.inl rfl) rfl (dN (.cons (.one (.nil (t:=22) (z:=1))) (.cons (bD _) .nil))) (by decide) (fun _=>⟨.inl ⟨rfl,trivial⟩,trivial,trivial⟩) (by rw[he,pA (by rw[he];decide)];rfl)
 refine sk ?_;refine sq ?_;refine rl ?_;refine o1 ?_;refine nl ?_;refine sq ?_;refine sq ?_;refine rl ?_;refine o1 ?_;refine o1 ?_
 refine WL.cast (t:=26) (u':=.int .i64 ((l.length:Nat):Int)) rfl (congrArg (fun n:Nat=>Value.int .i64 (n:Int)) (aR _)) ?_
 refine o1 ?_;refine WL.cast (t:=27) (u':=.int .i64 ((l.length%9:Nat):Int)) rfl (aI (fN _ 9)) ?_;refine o1 ?_;refine nl ?_;refine bl ?_
 refine lp (γ:=Nat×Nat) (fun s=>cK [(0,.one (tv (.string (aL (l.drop s.1))))),(4,.one (.sl 0 0 ((dg 4294967296 (aW (l.take s.1))).length))),(5,.one (tv (.int .i64 ((s.2:Nat):Int))))]) (fun s=>[(⟨22,1,(aS (dg 4294967296 (aW (l.take s.1)))).map .t⟩:Ob)].map some) (fun s=>s.1≤l.length∧(s.1=0∧s.2=l.length%9∨0<s.1∧s.2=9∧(l.length-s.1)%9=0)) (fun s=>l.length-s.1) (0,l.length%9) ⟨Nat.zero_le _,.inl ⟨rfl,rfl⟩⟩ ((nr (i:=4) 0 22 1 rfl rfl rfl rfl).trans (bH h0 [0] _ _ (by decide) ⟨rfl,rfl,rfl,trivial⟩ ⟨cY (l:=[]) rfl,rfl⟩)) ?_
 rintro⟨j,f⟩ ⟨hj,hf⟩;dsimp only at hj hf⊢;refine sq ?_;refine sq ?_;refine rl ?_;refine o1 ?_;refine o1 ?_
 refine WL.cast (t:=29) (u':=.bool (!decide (l.drop j=[]))) rfl (congrArg Value.bool (congrArg not (iW (mP hl j)))) ?_;refine nl ?_
 refine gY rfl (fun h11=>?_) (fun h11=>?_)
 ·refine sk ?_;refine sq ?_;refine bl ?_;refine sq ?_;refine sq ?_;have hjl:=zG h11
  refine rl ?_;refine o1 ?_;refine o1 ?_;refine nl ?_;refine cE rfl (fun h12=>?_) (fun h12=>?_)
  ·refine rl ?_;refine o1 ?_;refine nl ?_;refine sq ?_;refine rl ?_;refine o1 ?_;refine o1 ?_;refine o1 ?_ (hC:=(by rw[aR,List.length_drop];show 9≤l.length-j;omega))
   refine WL.cast (t:=35) (u':=.string (aL ((l.drop j).take 9))) rfl (congrArg Value.string ((lJ _ 0 _).trans rfl)) ?_
   refine ca (rJ (l:=((l.drop j).take 9)) (mT hdg j 9) (by rw[List.length_take,List.length_drop];omega) (by rw[List.length_take];omega)) Ah ⟨a1 rfl,rfl⟩ (.tup [.one (tv (.int .i64 ((aW ((l.drop j).take 9):Nat):Int))),.one (tv .nilIface)]) ?_
   (iterate 5 refine o1 ?_);refine nl ?_;refine sq ?_;have hpl:=mU hdg (j:=j) (f:=9) (by omega) (by omega)
   have hpc:=kQ (l:=l) (j:=j) (f:=9) (by omega) (by omega)
   have hl1:=iJ hdg hj
   have hl2:=fM (aW (l.take j)) 1000000000
   have hl3:(dg 4294967296 1000000000).length≤1:=bF (by omega) (by decide)
   refine rl ?_;refine o1 ?_
   refine ca (rN (u:=aW (l.take j)) (m:=1000000000) (by omega) (by omega)) Aj ⟨jF rfl (.sl rfl rfl (lT _) (bO _)),a1 rfl,rfl⟩ (.one (.t (sU false (dg 4294967296 (aW (l.take j)*1000000000))))) ?_
   refine o1 ?_;refine o1 ?_;refine WL.cast (t:=42) (u':=.int .u32 ((aW ((l.drop j).take 9):Nat):Int)) rfl (aI (by omega)) ?_
   refine bs 1 ?_
   refine hH 2 (rO (u:=aW (l.take j)*1000000000) (x:=aW ((l.drop j).take 9)) (by omega) (by omega)) sJ ⟨a1 rfl,jF rfl (.sl (trs:=aS [aW ((l.drop j).take 9)]) rfl rfl rfl rfl),rfl⟩ ?_
   refine o1 ?_;refine nl ?_;refine rl ?_;refine o1 ?_;refine o1 ?_;refine o1 ?_ (hC:=(by rw[aR,List.length_drop];show 9≤l.length-j;omega))
   refine WL.cast (t:=47) (u':=.string (aL ((l.drop j).drop 9))) rfl (congrArg Value.string (iG _ _)) ?_;refine o1 ?_;refine nl ?_;refine rl ?_;refine o1 ?_;refine nl ?_
   exact⟨(j+9,9),by dsimp only;omega,⟨by dsimp only;omega,.inr ⟨by dsimp only;omega,rfl,by dsimp only;omega⟩⟩,bH h0 [2] _ _ (by decide) ⟨(congrArg (fun l:List Nat=>some (FV.one (tv (.string (aL l))))) (by rw[List.drop_drop])),(congrArg (fun z:Nat=>some (FV.one (.sl 2 0 (dg 4294967296 z).length))) hpc.symm),rfl,trivial⟩ ⟨cY (congrArg (fun z:Nat=>some (⟨22,1,(aS (dg 4294967296 z)).map .t⟩:Ob)) hpc),rfl⟩⟩
  refine sk ?_;refine sq ?_;refine rl ?_;refine o1 ?_;refine o1 ?_;refine o1 ?_ (hC:=(by rw[aR,List.length_drop];show f≤l.length-j;omega))
  refine WL.cast (t:=35) (u':=.string (aL ((l.drop j).take f))) rfl (congrArg Value.string ((lJ _ 0 _).trans rfl)) ?_
  refine ca (rJ (l:=((l.drop j).take f)) (mT hdg j f) (by rw[List.length_take,List.length_drop];omega) (by rw[List.length_take];omega)) Ah ⟨a1 rfl,rfl⟩ (.tup [.one (tv (.int .i64 ((aW ((l.drop j).take f):Nat):Int))),.one (tv .nilIface)]) ?_
  (iterate 5 refine o1 ?_);refine nl ?_;refine sq ?_;have hpl:=mU hdg (j:=j) (f:=f) (by omega) (by omega)
  have hpc:=kQ (l:=l) (j:=j) (f:=f) (by omega) (by omega)
  have hl1:=iJ hdg hj
  have hl2:=fM (aW (l.take j)) 1000000000
  have hl3:(dg 4294967296 1000000000).length≤1:=bF (by omega) (by decide)
  refine rl ?_;refine o1 ?_
  refine ca (rN (u:=aW (l.take j)) (m:=1000000000) (by omega) (by omega)) Aj ⟨jF rfl (.sl rfl rfl (lT _) (bO _)),a1 rfl,rfl⟩ (.one (.t (sU false (dg 4294967296 (aW (l.take j)*1000000000))))) ?_
  refine o1 ?_;refine o1 ?_;refine WL.cast (t:=42) (u':=.int .u32 ((aW ((l.drop j).take f):Nat):Int)) rfl (aI (by omega)) ?_
  refine bs 1 ?_
  refine hH 2 (rO (u:=aW (l.take j)*1000000000) (x:=aW ((l.drop j).take f)) (by omega) (by omega)) sJ ⟨a1 rfl,jF rfl (.sl (trs:=aS [aW ((l.drop j).take f)]) rfl rfl rfl rfl),rfl⟩ ?_
  refine o1 ?_;refine nl ?_;refine rl ?_;refine o1 ?_;refine o1 ?_;refine o1 ?_ (hC:=(by rw[aR,List.length_drop];show f≤l.length-j;omega))
  refine WL.cast (t:=47) (u':=.string (aL ((l.drop j).drop f))) rfl (congrArg Value.string (iG _ _)) ?_;refine o1 ?_;refine nl ?_;refine rl ?_;refine o1 ?_;refine nl ?_
  exact⟨(j+f,9),by dsimp only;omega,⟨by dsimp only;omega,.inr ⟨by dsimp only;omega,rfl,by dsimp only;omega⟩⟩,bH h0 [2] _ _ (by decide) ⟨(congrArg (fun l:List Nat=>some (FV.one (tv (.string (aL l))))) (by rw[List.drop_drop])),(congrArg (fun z:Nat=>some (FV.one (.sl 2 0 (dg 4294967296 z).length))) hpc.symm),rfl,trivial⟩ ⟨cY (congrArg (fun z:Nat=>some (⟨22,1,(aS (dg 4294967296 z)).map .t⟩:Ob)) hpc),rfl⟩⟩
 refine ex ?_;refine sq ?_;refine rl ?_;(iterate 3 refine o1 ?_);refine nl ?_;refine rt ?_;have hjl:=zH h11
 have he:=wO hg (by omega)
 exact en (.inl rfl) rfl (dN (.cons (.one (.sl (trs:=aS (dg 4294967296 (aW (l.take j)))) rfl rfl (bY _) (bO _))) (.cons (bD _) .nil))) (by decide) (fun _=>⟨.inl ⟨rfl,eM _⟩,trivial,trivial⟩) (by rw[he,rL he,List.take_of_length_le hjl];rfl)
theorem Lp {l:List Nat}(hl:Lim 256 l) (hn:l.length≤1000000):aE true Tryz.prog 22 [] [.one (tv (.string (aL l)))] (bC (.tup [kO (dM l),.one (tv (.int .i64 (eP l)))])):=by
 refine cL Tryz.func22 rfl Tryz.ntmps22 rfl aB rfl fun N9 w9 c0 h0=>?_
 refine sq ?_;refine rl ?_;refine al 0 ?_;refine o1 ?_;refine nl ?_;refine sq ?_;refine rl ?_;refine o1 ?_
 refine ca (Qa hl) Va ⟨a1 rfl,a1 rfl,rfl⟩ (.tup [.one (tv (.string (aL (aO l)))),.one (tv (.bool (decide (l.take 1=[45]))))]) ?_;(iterate 5 refine o1 ?_);refine nl ?_;refine sq ?_
 refine rl ?_;refine o1 ?_;refine hH 1 (Lo (zI hl) (Nat.le_trans zJ hn)) Vx ⟨a1 rfl,rfl⟩ ?_;(iterate 5 refine o1 ?_);refine nl ?_;refine sq ?_;refine bl ?_;refine sq ?_
 refine rl ?_;(iterate 3 refine o1 ?_);refine nl ?_;refine cE rfl (fun h1=>?_) (fun h1=>?_)
 ·refine sq ?_;refine rl ?_;refine o1 ?_;refine o1 ?_;refine st ?_;refine o1 ?_;refine nl ?_;refine rt ?_;have hE:eP l=fR (aO l):=if_neg h1
  have hV:dM l=0:=if_neg (by rw[hE];exact h1)
  exact en (.inl rfl) rfl (dN (.cons (.agg (.cons (.id rfl) (.cons (.nil (t:=22) (z:=1)) .nil))) (.cons (bD _) .nil))) (by decide) (fun _=>⟨cI 0,trivial,trivial⟩) (by rw[hE,hV];rfl)
 refine sq ?_;refine rl ?_;refine o1 ?_;refine o1 ?_;refine WL.splitb (t:=25) rfl (fun h2=>?_) (fun h2=>?_)
 ·(iterate 5 refine o1 ?_);refine nl ?_;refine cE rfl (fun h3=>?_) (fun h3=>?_)
  ·refine sq ?_;refine rl ?_;refine o1 ?_;refine st ?_;refine o1 ?_;refine nl ?_;refine rt ?_;have he0:fR (aO l)=0:=by omega
   have hv0:=rL he0
   have h70:aW (aO l)=0:=by rw[←hv0];exact(cQ (B:=4294967296) (by omega)).1 (List.eq_nil_of_length_eq_zero (by omega))
   have hE:eP l=2:=by rw[eP,if_pos he0,if_pos ⟨of_decide_eq_true h2,h70⟩]
   have hV:dM l=0:=if_neg (by rw[hE];decide)
   exact en (.inl rfl) rfl (dN (.cons (.agg (.cons (.id rfl) (.cons (.nil (t:=22) (z:=1)) .nil))) (.cons (bD _) .nil))) (by decide) (fun _=>⟨cI 0,trivial,trivial⟩) (by rw[hE,hV];rfl)
  refine sk ?_;refine sq ?_;have he0:fR (aO l)=0:=by omega
  have hv0:=rL he0
  have hE:eP l=0:=by rw[eP,if_pos he0,if_neg];rintro⟨_,h9⟩;rw[←hv0]at h9;rw[h9]at h3;exact h3 rfl
  have hK:cG (decide (l.take 1=[45])) (wM (aO l))=dM l:=by rw[dM,if_pos hE,if_pos (of_decide_eq_true h2),h2,hv0];rfl
  refine rl ?_;refine o1 ?_;refine o1 ?_;refine cm 2 [1] (dI (b:=(decide (l.take 1=[45]))) (m:=wM (aO l)) (K:=dM l) hK) gP ⟨cY rfl,rfl⟩ ⟨rfl,rfl,rfl⟩ ?_;refine st ?_
  refine o1 ?_;refine nl ?_;refine rt ?_
  exact en (.inl rfl) rfl (dN (.cons (.agg (.cons (.id rfl) (.cons (.sl (trs:=aS (dg 4294967296 ((dM l)).natAbs)) rfl rfl (bY _) (bO _)) .nil))) (.cons (bD _) .nil))) (by decide) (fun _=>⟨cI (dM l),trivial,trivial⟩) (by rw[hE];rfl)
 (iterate 3 refine dL ?_);refine o1 ?_;refine o1 ?_;refine nl ?_;refine gZ rfl ?_;refine sk ?_;refine sq ?_;have he0:fR (aO l)=0:=by omega
 have hv0:=rL he0
 have hE:eP l=0:=by rw[eP,if_pos he0,if_neg (fun h=>of_decide_eq_false h2 h.1)]
 have hK:cG (decide (l.take 1=[45])) (wM (aO l))=dM l:=by rw[dM,if_pos hE,if_neg (of_decide_eq_false h2),h2,hv0];rfl
 refine rl ?_;refine o1 ?_;refine o1 ?_;refine cm 2 [1] (dI (b:=(decide (l.take 1=[45]))) (m:=wM (aO l)) (K:=dM l) hK) gP ⟨cY rfl,rfl⟩ ⟨rfl,rfl,rfl⟩ ?_;refine st ?_
 refine o1 ?_;refine nl ?_;refine rt ?_
 exact en (.inl rfl) rfl (dN (.cons (.agg (.cons (.id rfl) (.cons (.sl (trs:=aS (dg 4294967296 ((dM l)).natAbs)) rfl rfl (bY _) (bO _)) .nil))) (.cons (bD _) .nil))) (by decide) (fun _=>⟨cI (dM l),trivial,trivial⟩) (by rw[hE];rfl)
theorem xG {xs:List Nat}{m:Nat}(hx:xs.length≤1099511627776) (hlx:Lim 4294967296 xs) (hm:m<4294967296):aE true Tryz.prog 71 [] [.one (.t (sU false xs)),.one (tv (.int .u32 ((m:Nat):Int)))] (bC (.one (.t (sU true (dg 4294967296 (vl 4294967296 xs*m)))))):=by
 refine cL Tryz.func71 rfl Tryz.ntmps71 rfl aB rfl fun N9 w9 c0 h0=>?_
 refine sq ?_;refine rl ?_;refine o1 ?_;refine nl ?_;refine sq ?_;refine rl ?_;refine o1 ?_
 refine ca (fF hx hlx) mK ⟨a1 rfl,rfl⟩ (.one (.t (sI false (dg 65536 (vl 4294967296 xs))))) ?_;refine o1 ?_;refine nl ?_;refine sq ?_
 have hdx:=eN (v:=vl 4294967296 xs) (L:=xs.length) (by rw[cM (by omega) hlx];exact bK _)
 have hX:=aQ (B:=65536) (by omega) (vl 4294967296 xs)
 have hvX:=bM (B:=65536) (by omega) (vl 4294967296 xs)
 generalize dg 65536 (vl 4294967296 xs)=X at hdx hX hvX⊢;refine rl ?_;refine o1 ?_;refine nl ?_;refine sq ?_;refine rl ?_;refine o1 ?_;refine nl ?_;refine sq ?_;refine sq ?_;refine rl ?_
 refine o1 ?_;refine nl ?_;refine bl ?_
 refine lp (γ:=Nat×Nat×List Nat) (fun s=>cK [(1,.one (tv (.int .u32 ((m:Nat):Int)))),(5,.one (.t (sI false X))),(6,.one (.sl 0 0 (s.1))),(7,.one (tv (.int .i64 ((s.2.1:Nat):Int)))),(8,.one (tv (.int .i64 ((s.1:Nat):Int))))]) (fun s=>[(⟨3,1,(cX s.2.2).map .t⟩:Ob)].map some) (fun s=>s.2.2.length=s.1∧Lim 65536 s.2.2∧vl 65536 s.2.2+65536^s.1*s.2.1=vl 65536 (X.take s.1)*m∧s.2.1≤4294967295∧(s.1≤X.length∨s.1=X.length+1∧s.2.1<65536∨s.1=X.length+2∧s.2.1=0)) (fun s=>(X.length-s.1)*4294967296+s.2.1) (0,0,[]) ⟨rfl,Lim.nil,(by simp[vl]),Nat.zero_le _,.inl (Nat.zero_le _)⟩ ((nr (i:=6) 0 3 1 rfl rfl rfl rfl).trans (bH h0 [0] _ _ (by decide) ⟨rfl,rfl,rfl,rfl,rfl,trivial⟩ ⟨cY (l:=[]) rfl,rfl⟩)) ?_
 rintro⟨k,cr,os⟩ ⟨hos,hol,hv,hc,hkm⟩;dsimp only at hos hol hv hc hkm⊢;have hn:=hX.nth (by omega) k
 have hmul:=Nat.mul_le_mul (Nat.le_of_lt_succ hn) (Nat.le_of_lt_succ hm)
 refine sq ?_;refine sq ?_;refine rl ?_;(iterate 5 refine o1 ?_);refine WL.split (t:=16) rfl (fun h1=>?_) (fun h1=>?_)
 ·refine dL ?_;refine dL ?_;refine o1 ?_;refine nl ?_;refine jS rfl ?_;refine sk ?_;refine sq ?_;refine bl ?_;refine sq ?_;refine rl ?_;refine o1 ?_;refine o1 ?_
  refine ca (iP) iO ⟨a1 rfl,a1 rfl,rfl⟩ (.one (tv (.int .i64 ((nth X (k):Nat):Int)))) ?_;refine o1 ?_;refine o1 ?_
  refine WL.cast (t:=26) (u':=.int .i64 ((m:Nat):Int)) rfl (aI (by omega)) ?_
  refine o1 ?_;refine WL.cast (t:=27) (u':=.int .i64 (((nth X (k))*m:Nat):Int)) rfl (aI (Int.natCast_mul _ _).symm) ?_;refine o1 ?_;refine o1 ?_
  refine WL.cast (t:=29) (u':=.int .i64 (((nth X (k))*m+cr:Nat):Int)) rfl (aI (by omega)) ?_
  refine o1 ?_;refine nl ?_;refine sq ?_;refine rl ?_;(iterate 3 refine o1 ?_)
  refine WL.cast (t:=32) (u':=.int .i64 ((((nth X (k))*m+cr)%65536:Nat):Int)) rfl (aI (fN _ 65536)) ?_;refine bs 1 ?_
  refine mJ (j:=2) aB rfl rfl rfl rfl (.sl rfl (by rw[List.length_map,iI,hos];omega)) (.sl rfl rfl rfl) rfl rfl rfl (by omega) (by omega) ?_
  refine o1 ?_;refine nl ?_;refine rl ?_;refine o1 ?_;refine o1 ?_ (hC:=(kA 65536 (by omega) (by simp only[fA];omega)))
  refine WL.cast (t:=36) (u':=.int .i64 ((((nth X (k))*m+cr)/65536:Nat):Int)) rfl (aI (gG _ 65536)) ?_;refine o1 ?_;refine nl ?_;refine rl ?_;refine o1 ?_;refine o1 ?_
  refine WL.cast (t:=21) (u':=.int .i64 ((k+1:Nat):Int)) rfl (aI (by omega)) ?_
  refine o1 ?_;refine nl ?_;have hst:=wQ hos hv
  have hz1:X.length≤k→nth X k*m=0:=fun h=>by rw[dE (by omega)];exact Nat.zero_mul _
  exact⟨(k+1,(nth X k*m+cr)/65536,os++[(nth X k*m+cr)%65536]),by dsimp only;omega,⟨by simp[hos],hol.append (Lim.cons (Nat.mod_lt _ (by omega)) Lim.nil),hst,by dsimp only;omega,by dsimp only;omega⟩,bH h0 [2] _ _ (by decide) ⟨rfl,rfl,rfl,rfl,rfl,trivial⟩ ⟨Dy rfl (jZ _ [(nth X k*m+cr)%65536]) rfl,rfl⟩⟩
 (iterate 3 refine o1 ?_);refine nl ?_;refine cE rfl (fun h2=>?_) (fun h2=>?_)
 ·refine sk ?_;refine sq ?_;refine bl ?_;refine sq ?_;refine rl ?_;refine o1 ?_;refine o1 ?_
  refine ca (iP) iO ⟨a1 rfl,a1 rfl,rfl⟩ (.one (tv (.int .i64 ((nth X (k):Nat):Int)))) ?_;refine o1 ?_;refine o1 ?_
  refine WL.cast (t:=26) (u':=.int .i64 ((m:Nat):Int)) rfl (aI (by omega)) ?_
  refine o1 ?_;refine WL.cast (t:=27) (u':=.int .i64 (((nth X (k))*m:Nat):Int)) rfl (aI (Int.natCast_mul _ _).symm) ?_;refine o1 ?_;refine o1 ?_
  refine WL.cast (t:=29) (u':=.int .i64 (((nth X (k))*m+cr:Nat):Int)) rfl (aI (by omega)) ?_
  refine o1 ?_;refine nl ?_;refine sq ?_;refine rl ?_;(iterate 3 refine o1 ?_)
  refine WL.cast (t:=32) (u':=.int .i64 ((((nth X (k))*m+cr)%65536:Nat):Int)) rfl (aI (fN _ 65536)) ?_;refine bs 1 ?_
  refine mJ (j:=2) aB rfl rfl rfl rfl (.sl rfl (by rw[List.length_map,iI,hos];omega)) (.sl rfl rfl rfl) rfl rfl rfl (by omega) (by omega) ?_
  refine o1 ?_;refine nl ?_;refine rl ?_;refine o1 ?_;refine o1 ?_ (hC:=(kA 65536 (by omega) (by simp only[fA];omega)))
  refine WL.cast (t:=36) (u':=.int .i64 ((((nth X (k))*m+cr)/65536:Nat):Int)) rfl (aI (gG _ 65536)) ?_;refine o1 ?_;refine nl ?_;refine rl ?_;refine o1 ?_;refine o1 ?_
  refine WL.cast (t:=21) (u':=.int .i64 ((k+1:Nat):Int)) rfl (aI (by omega)) ?_
  refine o1 ?_;refine nl ?_;have hst:=wQ hos hv
  have hz1:X.length≤k→nth X k*m=0:=fun h=>by rw[dE (by omega)];exact Nat.zero_mul _
  exact⟨(k+1,(nth X k*m+cr)/65536,os++[(nth X k*m+cr)%65536]),by dsimp only;omega,⟨by simp[hos],hol.append (Lim.cons (Nat.mod_lt _ (by omega)) Lim.nil),hst,by dsimp only;omega,by dsimp only;omega⟩,bH h0 [2] _ _ (by decide) ⟨rfl,rfl,rfl,rfl,rfl,trivial⟩ ⟨Dy rfl (jZ _ [(nth X k*m+cr)%65536]) rfl,rfl⟩⟩
 refine ex ?_;refine sq ?_;refine rl ?_;have hc0:cr=0:=by omega
 rw[hc0,Nat.mul_zero,Nat.add_zero,aY 65536 (by omega),hvX]at hv
 refine WL.sub (Ir (i:=6) (zs':=os) rfl rfl rfl (by omega) rfl) ?_
 refine o1 ?_;refine hH 1 (mR (by omega) (by assumption)) uC ⟨a1 rfl,rfl⟩ ?_
 refine o1 ?_;refine nl ?_;refine rt ?_
 exact en (.inl rfl) rfl (bV (.one (.sl (trs:=aS (dg 4294967296 (vl 65536 os))) rfl rfl (bY _) (bO _)))) (by decide) (fun _=>.inl ⟨rfl,eM _⟩) (by rw[hv];rfl)
theorem xH {xs:List Nat}{d:Nat}(hx:xs.length≤1099511627776) (hlx:Lim 4294967296 xs) (hd0:0<d) (hd:d<4294967296):aE true Tryz.prog 76 [] [.one (.t (sU false xs)),.one (tv (.int .u32 ((d:Nat):Int)))] (bC (.tup [.one (.t (sU true (dg 4294967296 (vl 4294967296 xs/d)))),.one (tv (.int .u32 ((vl 4294967296 xs%d:Nat):Int))),.one (tv (.int .i64 0))])):=by
 refine cL Tryz.func76 rfl Tryz.ntmps76 rfl aB rfl fun N9 w9 c0 h0=>?_
 refine sq ?_;refine rl ?_;(iterate 3 refine o1 ?_);refine nl ?_;refine sq ?_;refine sq ?_;refine rl ?_;refine o1 ?_;refine o1 ?_;refine nl ?_;refine cE rfl (fun h1=>?_) (fun h1=>?_)
 ·omega
 refine sk ?_;refine sq ?_;refine rl ?_;refine o1 ?_;refine ca (fF hx hlx) mK ⟨a1 rfl,rfl⟩ (.one (.t (sI false (dg 65536 (vl 4294967296 xs))))) ?_;refine o1 ?_;refine nl ?_
 refine sq ?_;have hdx:=eN (v:=vl 4294967296 xs) (L:=xs.length) (by rw[cM (by omega) hlx];exact bK _)
 have hX:=aQ (B:=65536) (by omega) (vl 4294967296 xs)
 have hvX:=bM (B:=65536) (by omega) (vl 4294967296 xs)
 generalize dg 65536 (vl 4294967296 xs)=X at hdx hX hvX⊢;refine rl ?_;refine o1 ?_;refine o1 ?_;refine mk (m:=X.length) 0 (by omega) (Gs _) ?_
 refine o1 ?_;refine nl ?_;refine sq ?_;refine rl ?_;refine o1 ?_;refine nl ?_;refine sq ?_;refine sq ?_;refine rl ?_;(iterate 4 refine o1 ?_);refine nl ?_;refine bl ?_
 refine lp (γ:=Nat×Nat×List Nat) (fun s=>cK [(1,.one (tv (.int .u32 ((d:Nat):Int)))),(7,.one (.t (sI false X))),(8,.one (.sl 0 0 (X.length))),(9,.one (tv (.int .i64 ((s.2.1:Nat):Int)))),(10,.one (tv (.int .i64 (((s.1:Nat):Int)-1))))]) (fun s=>[(⟨3,1,(cX (List.replicate s.1 0++s.2.2)).map .t⟩:Ob)].map some) (fun s=>s.1≤X.length∧Lim 65536 s.2.2∧s.2.2.length+s.1=X.length∧s.2.1<d∧vl 65536 s.2.2*d+s.2.1=vl 65536 (X.drop s.1)) (fun s=>s.1) (X.length,0,[]) ⟨Nat.le_refl _,Lim.nil,Nat.zero_add _,hd0,(by rw[List.drop_length];simp[vl])⟩ (bH h0 [0] _ _ (by decide) ⟨rfl,rfl,rfl,rfl,rfl,trivial⟩ ⟨cY (congrArg (fun l:List Nat=>some (⟨3,1,(cX l).map .t⟩:Ob)) ((List.append_nil _).symm)),rfl⟩) ?_
 rintro⟨k,rest,os⟩ ⟨hk,hol,hos,hr,hv⟩;dsimp only at hk hol hos hr hv⊢;have hn:=hX.nth (by omega) (k-1)
 have hlen:(List.replicate k 0++os).length=X.length:=by rw[List.length_append,List.length_replicate];omega
 refine sq ?_;refine sq ?_;refine rl ?_;refine o1 ?_;refine o1 ?_;refine nl ?_;refine cE rfl (fun h2=>?_) (fun h2=>?_)
 ·refine sk ?_;refine sq ?_;refine bl ?_;refine sq ?_;refine rl ?_;refine o1 ?_;refine o1 ?_;refine WL.cast (t:=27) (u':=.int .i64 ((65536*rest:Nat):Int)) rfl (aI (by omega)) ?_
  refine o1 ?_;refine o1 ?_;refine WL.cast (t:=29) (u':=.int .i64 ((k-1:Nat):Int)) rfl (aI (by omega)) ?_
  refine o1 ?_;refine mY ([.v (.int .i64 ((nth X (k-1):Nat):Int))]) (lS X (k:=k-1) (by omega)) ?_
  refine o1 ?_;refine WL.cast (t:=32) (u':=.int .i64 ((65536*rest+(nth X (k-1)):Nat):Int)) rfl (aI (by omega)) ?_
  refine o1 ?_;refine nl ?_;refine sq ?_;refine rl ?_;refine o1 ?_;refine o1 ?_;refine WL.cast (t:=34) (u':=.int .i64 ((k-1:Nat):Int)) rfl (aI (by omega)) ?_
  (iterate 3 refine o1 ?_);refine WL.cast (t:=37) (u':=.int .i64 ((d:Nat):Int)) rfl (aI (by omega)) ?_
  refine o1 ?_ (hC:=(kA d (by omega) (by simp only[fA];omega)))
  refine WL.cast (t:=38) (u':=.int .i64 (((65536*rest+(nth X (k-1)))/d:Nat):Int)) rfl (aI (gG _ d)) ?_;refine o1 ?_
  refine Td (Kv (List.replicate k 0++os) (k:=k-1) (v:=(65536*rest+(nth X (k-1)))/d) (by omega)) (Pg (List.replicate k 0++os) (by omega)) ?_
  refine nl ?_;refine rl ?_;(iterate 3 refine o1 ?_);refine WL.cast (t:=42) (u':=.int .i64 ((d:Nat):Int)) rfl (aI (by omega)) ?_
  refine o1 ?_ (hC:=(by omega))
  refine WL.cast (t:=43) (u':=.int .i64 (((65536*rest+(nth X (k-1)))%d:Nat):Int)) rfl (aI (fN _ d)) ?_;refine o1 ?_;refine nl ?_;refine rl ?_;(iterate 3 refine o1 ?_)
  refine nl ?_
  exact⟨(k-1,(65536*rest+nth X (k-1))%d,(65536*rest+nth X (k-1))/d::os),by dsimp only;omega,⟨by dsimp only;omega,Lim.cons (Eh hr hn) hol,by dsimp only;rw[List.length_cons];omega,Nat.mod_lt _ (by omega),Hf (by omega) hk hv⟩,bH h0 [0] _ _ (by decide) ⟨rfl,rfl,rfl,rfl,qW (by omega),trivial⟩ ⟨cY (congrArg (fun l:List Nat=>some (⟨3,1,(cX l).map .t⟩:Ob)) (Lk (by omega))),rfl⟩⟩
 refine ex ?_;refine sq ?_;refine rl ?_;have hk0:k=0:=by omega
 subst hk0;obtain⟨e1,e2⟩:=Hg hr hv
 rw[hvX]at e1 e2;refine WL.sub (Ir (i:=8) (zs':=os) rfl rfl rfl (by simp;omega) rfl) ?_
 refine o1 ?_;refine hH 1 (mR (by omega) (by assumption)) uC ⟨a1 rfl,rfl⟩ ?_
 refine o1 ?_;refine o1 ?_;refine WL.cast (t:=47) (u':=.int .u32 ((rest:Nat):Int)) rfl (aI (by omega)) ?_
 (iterate 3 refine o1 ?_);refine nl ?_;refine rt ?_
 exact en (.inl rfl) rfl (Ae (.cons (.one (.sl (trs:=aS (dg 4294967296 (vl 65536 os))) rfl rfl (bY _) (bO _))) (.cons (bD _) (.cons (bD _) .nil)))) (by decide) (fun _=>⟨.inl ⟨rfl,eM _⟩,trivial,trivial,trivial⟩) (by rw[e1,←e2];rfl)
end Go.Proofs.YteggpgndiajdpaaGreatDoor
