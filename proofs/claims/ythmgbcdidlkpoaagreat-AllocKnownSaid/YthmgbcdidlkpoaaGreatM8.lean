/- Part 8 of a proof: G3 to A2. -/
import Derived.Test.YthmgbcdidlkpoaaGreatM7
import Derived.Test.YthmgbcdidlkpoaaGreatM6
import Derived.Test.YthmgbcdidlkpoaaGreatM5
import Derived.Laws.BytesArg
set_option maxRecDepth 100000
set_option linter.unusedVariables false
set_option linter.unusedSimpArgs false
namespace Go.Proofs.YthmgbcdidlkpoaaGreat
open Go Go.RowKit
theorem Ui (xs:List Nat):((aP xs).map AV.t).take (aP xs).length=(aP xs).map .t:=List.take_of_length_le (by simp)
theorem oY {a b:Zi}{k k':Int}(ha:Zg a k) (hb:Zg b k') (hz0:k'≠0):aD true Tryz.prog 120 [] [gF a,gF b] (aO (.tup [kO (k.fdiv k'),kO (k.fmod k'),.one (tv (.int .i64 0))])):=by
 refine bP Tryz.func120 rfl Tryz.ntmps120 rfl aA rfl fun N w c0 h0=>?_
 have hkl:=ha.len
 have hkl':=hb.len
 have hq:(dg 4294967296 (k.natAbs/k'.natAbs)).length≤300000000000:=Nat.le_trans (gL (Nat.div_le_self _ _)) hkl
 have hr0:=Nat.mod_lt k.natAbs (show 0<k'.natAbs by omega)
 have hrl:(dg 4294967296 (k.natAbs%k'.natAbs)).length≤300000000000:=Nat.le_trans (gL (Nat.le_of_lt hr0)) hkl'
 refine sq ?_;refine rl ?_;refine bx 0 ?_;refine bx 1 ?_;refine al 2 ?_;refine al 3 ?_;refine o1 ?_;refine nl ?_
 refine md (γ:=Unit) (fun _=>cG [(4,.one (.pt 0 0)),(5,.one (.pt 1 0)),(6,.one (tv (.int .i64 ((0:Nat):Int)))),(7,.one (.pt 2 0)),(8,.one (.pt 3 0))]) (fun _=>([⟨24,0,[tv (.bool false),tv (.slice none 0 0)]⟩,⟨24,0,[tv (.bool false),tv (.slice none 0 0)]⟩,⟨105,0,[tv (.bool (aG k)),.t (sU false (dg 4294967296 k.natAbs))]⟩,⟨105,0,[tv (.bool (aG k')),.t (sU false (dg 4294967296 k'.natAbs))]⟩]:List Ob).map some) (fun _=>True) ?_ fun _ _=>?_
 ·refine rd [0,1,2,3] (fun i=>[7].contains i) mixed ?_
  refine aX 0 ?_;refine aX 2 ?_;refine WO.three (i:=1) (j:=4) (m:=5) (by kernel_rfl) ?_ ?_ ?_
  ·refine cY 1 rfl (dJ ha) dK ⟨aB rfl,rfl⟩ (kF (k)) ?_;refine WO.three (i:=3) (j:=4) (m:=5) (by kernel_rfl) ?_ ?_ ?_
   ·refine cY 3 rfl (dJ hb) dK ⟨aB rfl,rfl⟩ (kF (k')) ?_;refine WO.two (i:=4) (j:=5) (by kernel_rfl) ?_ ?_
    ·refine bX (key:=4) 4 rfl rfl aA rfl ⟨rfl,rfl,rfl,rfl,trivial⟩ ?_;refine eQ (key:=5) 5 (by kernel_rfl) rfl rfl aA rfl ⟨rfl,rfl,rfl,rfl,trivial⟩ ?_
     refine aZ 6 (by kernel_rfl) rfl rfl aA rfl rfl rfl rfl ⟨rfl,rfl,rfl,rfl,trivial⟩ ?_
     refine dst 7 ?_;refine aR ?_;exact⟨(),trivial,aH h0 [2,3,4,5] _ _ (by decide) ⟨rfl,rfl,rfl,rfl,rfl,trivial⟩ ⟨oe rfl rfl,oe rfl rfl,oe rfl rfl,oe rfl rfl,rfl⟩⟩
    refine bX (key:=4) 5 rfl rfl aA rfl ⟨rfl,rfl,rfl,rfl,trivial⟩ ?_;refine eQ (key:=5) 4 (by kernel_rfl) rfl rfl aA rfl ⟨rfl,rfl,rfl,rfl,trivial⟩ ?_
    refine aZ 6 (by kernel_rfl) rfl rfl aA rfl rfl rfl rfl ⟨rfl,rfl,rfl,rfl,trivial⟩ ?_
    refine dst 7 ?_;refine aR ?_;exact⟨(),trivial,aH h0 [2,3,5,4] _ _ (by decide) ⟨rfl,rfl,rfl,rfl,rfl,trivial⟩ ⟨oe rfl rfl,oe rfl rfl,oe rfl rfl,oe rfl rfl,rfl⟩⟩
   ·refine bX (key:=4) 4 rfl rfl aA rfl ⟨rfl,rfl,rfl,rfl,trivial⟩ ?_;refine WO.two (i:=3) (j:=5) (by kernel_rfl) ?_ ?_
    ·refine cY 3 rfl (dJ hb) dK ⟨aB rfl,rfl⟩ (kF (k')) ?_;refine eQ (key:=5) 5 (by kernel_rfl) rfl rfl aA rfl ⟨rfl,rfl,rfl,rfl,trivial⟩ ?_
     refine aZ 6 (by kernel_rfl) rfl rfl aA rfl rfl rfl rfl ⟨rfl,rfl,rfl,rfl,trivial⟩ ?_
     refine dst 7 ?_;refine aR ?_;exact⟨(),trivial,aH h0 [2,3,4,5] _ _ (by decide) ⟨rfl,rfl,rfl,rfl,rfl,trivial⟩ ⟨oe rfl rfl,oe rfl rfl,oe rfl rfl,oe rfl rfl,rfl⟩⟩
    refine bX (key:=5) 5 rfl rfl aA rfl ⟨rfl,rfl,rfl,rfl,trivial⟩ ?_;refine aK 3 rfl (dJ hb) dK ⟨aB rfl,rfl⟩ (kF (k')) ?_
    refine aZ 6 (by kernel_rfl) rfl rfl aA rfl rfl rfl rfl ⟨rfl,rfl,rfl,rfl,trivial⟩ ?_
    refine dst 7 ?_;refine aR ?_;exact⟨(),trivial,aH h0 [2,3,4,5] _ _ (by decide) ⟨rfl,rfl,rfl,rfl,rfl,trivial⟩ ⟨oe rfl rfl,oe rfl rfl,oe rfl rfl,oe rfl rfl,rfl⟩⟩
   refine bX (key:=4) 5 rfl rfl aA rfl ⟨rfl,rfl,rfl,rfl,trivial⟩ ?_;refine WO.two (i:=3) (j:=4) (by kernel_rfl) ?_ ?_
   ·refine cY 3 rfl (dJ hb) dK ⟨aB rfl,rfl⟩ (kF (k')) ?_;refine eQ (key:=5) 4 (by kernel_rfl) rfl rfl aA rfl ⟨rfl,rfl,rfl,rfl,trivial⟩ ?_
    refine aZ 6 (by kernel_rfl) rfl rfl aA rfl rfl rfl rfl ⟨rfl,rfl,rfl,rfl,trivial⟩ ?_
    refine dst 7 ?_;refine aR ?_;exact⟨(),trivial,aH h0 [2,3,5,4] _ _ (by decide) ⟨rfl,rfl,rfl,rfl,rfl,trivial⟩ ⟨oe rfl rfl,oe rfl rfl,oe rfl rfl,oe rfl rfl,rfl⟩⟩
   refine bX (key:=5) 4 rfl rfl aA rfl ⟨rfl,rfl,rfl,rfl,trivial⟩ ?_;refine aK 3 rfl (dJ hb) dK ⟨aB rfl,rfl⟩ (kF (k')) ?_
   refine aZ 6 (by kernel_rfl) rfl rfl aA rfl rfl rfl rfl ⟨rfl,rfl,rfl,rfl,trivial⟩ ?_
   refine dst 7 ?_;refine aR ?_;exact⟨(),trivial,aH h0 [2,3,5,4] _ _ (by decide) ⟨rfl,rfl,rfl,rfl,rfl,trivial⟩ ⟨oe rfl rfl,oe rfl rfl,oe rfl rfl,oe rfl rfl,rfl⟩⟩
  ·refine bX (key:=4) 4 rfl rfl aA rfl ⟨rfl,rfl,rfl,rfl,trivial⟩ ?_;refine WO.two (i:=1) (j:=5) (by kernel_rfl) ?_ ?_
   ·refine cY 1 rfl (dJ ha) dK ⟨aB rfl,rfl⟩ (kF (k)) ?_;refine WO.two (i:=3) (j:=5) (by kernel_rfl) ?_ ?_
    ·refine cY 3 rfl (dJ hb) dK ⟨aB rfl,rfl⟩ (kF (k')) ?_;refine eQ (key:=5) 5 (by kernel_rfl) rfl rfl aA rfl ⟨rfl,rfl,rfl,rfl,trivial⟩ ?_
     refine aZ 6 (by kernel_rfl) rfl rfl aA rfl rfl rfl rfl ⟨rfl,rfl,rfl,rfl,trivial⟩ ?_
     refine dst 7 ?_;refine aR ?_;exact⟨(),trivial,aH h0 [2,3,4,5] _ _ (by decide) ⟨rfl,rfl,rfl,rfl,rfl,trivial⟩ ⟨oe rfl rfl,oe rfl rfl,oe rfl rfl,oe rfl rfl,rfl⟩⟩
    refine bX (key:=5) 5 rfl rfl aA rfl ⟨rfl,rfl,rfl,rfl,trivial⟩ ?_;refine aK 3 rfl (dJ hb) dK ⟨aB rfl,rfl⟩ (kF (k')) ?_
    refine aZ 6 (by kernel_rfl) rfl rfl aA rfl rfl rfl rfl ⟨rfl,rfl,rfl,rfl,trivial⟩ ?_
    refine dst 7 ?_;refine aR ?_;exact⟨(),trivial,aH h0 [2,3,4,5] _ _ (by decide) ⟨rfl,rfl,rfl,rfl,rfl,trivial⟩ ⟨oe rfl rfl,oe rfl rfl,oe rfl rfl,oe rfl rfl,rfl⟩⟩
   refine bX (key:=5) 5 rfl rfl aA rfl ⟨rfl,rfl,rfl,rfl,trivial⟩ ?_;refine aK 1 rfl (dJ ha) dK ⟨aB rfl,rfl⟩ (kF (k)) ?_
   refine aK 3 rfl (dJ hb) dK ⟨aB rfl,rfl⟩ (kF (k')) ?_;refine aZ 6 (by kernel_rfl) rfl rfl aA rfl rfl rfl rfl ⟨rfl,rfl,rfl,rfl,trivial⟩ ?_
   refine dst 7 ?_;refine aR ?_;exact⟨(),trivial,aH h0 [2,3,4,5] _ _ (by decide) ⟨rfl,rfl,rfl,rfl,rfl,trivial⟩ ⟨oe rfl rfl,oe rfl rfl,oe rfl rfl,oe rfl rfl,rfl⟩⟩
  refine bX (key:=4) 5 rfl rfl aA rfl ⟨rfl,rfl,rfl,rfl,trivial⟩ ?_;refine WO.two (i:=1) (j:=4) (by kernel_rfl) ?_ ?_
  ·refine cY 1 rfl (dJ ha) dK ⟨aB rfl,rfl⟩ (kF (k)) ?_;refine WO.two (i:=3) (j:=4) (by kernel_rfl) ?_ ?_
   ·refine cY 3 rfl (dJ hb) dK ⟨aB rfl,rfl⟩ (kF (k')) ?_;refine eQ (key:=5) 4 (by kernel_rfl) rfl rfl aA rfl ⟨rfl,rfl,rfl,rfl,trivial⟩ ?_
    refine aZ 6 (by kernel_rfl) rfl rfl aA rfl rfl rfl rfl ⟨rfl,rfl,rfl,rfl,trivial⟩ ?_
    refine dst 7 ?_;refine aR ?_;exact⟨(),trivial,aH h0 [2,3,5,4] _ _ (by decide) ⟨rfl,rfl,rfl,rfl,rfl,trivial⟩ ⟨oe rfl rfl,oe rfl rfl,oe rfl rfl,oe rfl rfl,rfl⟩⟩
   refine bX (key:=5) 4 rfl rfl aA rfl ⟨rfl,rfl,rfl,rfl,trivial⟩ ?_;refine aK 3 rfl (dJ hb) dK ⟨aB rfl,rfl⟩ (kF (k')) ?_
   refine aZ 6 (by kernel_rfl) rfl rfl aA rfl rfl rfl rfl ⟨rfl,rfl,rfl,rfl,trivial⟩ ?_
   refine dst 7 ?_;refine aR ?_;exact⟨(),trivial,aH h0 [2,3,5,4] _ _ (by decide) ⟨rfl,rfl,rfl,rfl,rfl,trivial⟩ ⟨oe rfl rfl,oe rfl rfl,oe rfl rfl,oe rfl rfl,rfl⟩⟩
  refine bX (key:=5) 4 rfl rfl aA rfl ⟨rfl,rfl,rfl,rfl,trivial⟩ ?_;refine aK 1 rfl (dJ ha) dK ⟨aB rfl,rfl⟩ (kF (k)) ?_
  refine aK 3 rfl (dJ hb) dK ⟨aB rfl,rfl⟩ (kF (k')) ?_;refine aZ 6 (by kernel_rfl) rfl rfl aA rfl rfl rfl rfl ⟨rfl,rfl,rfl,rfl,trivial⟩ ?_
  refine dst 7 ?_;refine aR ?_;exact⟨(),trivial,aH h0 [2,3,5,4] _ _ (by decide) ⟨rfl,rfl,rfl,rfl,rfl,trivial⟩ ⟨oe rfl rfl,oe rfl rfl,oe rfl rfl,oe rfl rfl,rfl⟩⟩
 refine sq ?_;refine rl ?_;refine o1 ?_;refine o1 ?_;refine ld ?_;refine o1 ?_;refine o1 ?_;refine ld ?_
 have hD:aD true Tryz.prog 136 [] [.one (.t (sU false (dg 4294967296 k.natAbs))),.one (.t (sU false (dg 4294967296 k'.natAbs)))] (aO (.tup [.one (.t (sU true (dg 4294967296 (k.natAbs/k'.natAbs)))),.one (.t (sU true (dg 4294967296 (k.natAbs%k'.natAbs)))),.one (tv (.int .i64 0))])):=by
  have h9:=Yj (aL (by omega) k.natAbs) (aL (by omega) k'.natAbs) (by omega) (by omega) (by rw[bL];omega)
  rwa[bL,bL]at h9
 refine fS 4 hD LU ⟨a1 rfl,a1 rfl,rfl⟩ ?_;(iterate 7 refine o1 ?_);refine nl ?_;refine sq ?_;refine sq ?_;refine rl ?_;refine o1 ?_;refine o1 ?_;refine nl ?_
 refine bO rfl (fun h1=>?_) (fun h1=>?_)
 ·exact absurd rfl h1
 refine sk ?_;refine sq ?_;refine sq ?_;refine rl ?_;refine o1 ?_;refine o1 ?_;refine ld ?_;refine o1 ?_;refine o1 ?_;refine ld ?_;refine o1 ?_;refine o1 ?_
 refine WL.splitb (t:=37) rfl (fun h2=>?_) (fun h2=>?_)
 ·(iterate 4 refine o1 ?_);refine nl ?_;refine bO rfl (fun h3=>?_) (fun h3=>?_)
  ·refine sq ?_;refine rl ?_;refine o1 ?_;refine bs 6 ?_
   have hA:aD true Tryz.prog 129 [] [.one (.t (sU false (dg 4294967296 (k.natAbs/k'.natAbs)))),.one (.t (sU false [1]))] (aO (.one (.t (sU true (dg 4294967296 ((k.natAbs/k'.natAbs)+1)))))):=by
    have h9:=AT (aL (by omega) (k.natAbs/k'.natAbs)) (Lim.cons (show 1<4294967296 by omega) Lim.nil) (by omega) (by simp)
    rwa[cC (by omega),show vl 4294967296 [1]=1 from rfl]at h9
   refine fS 7 hA AF ⟨rG rfl (.sl rfl rfl (Ui _) (bB _)),rG rfl (.sl (trs:=aP [1]) rfl rfl rfl rfl),rfl⟩ ?_;refine o1 ?_;refine nl ?_;refine rl ?_;refine o1 ?_
   refine o1 ?_;refine ld ?_;refine o1 ?_
   have hS:aD true Tryz.prog 131 [] [.one (.t (sU false (dg 4294967296 k'.natAbs))),.one (.t (sU false (dg 4294967296 (k.natAbs%k'.natAbs))))] (aO (.tup [.one (.t (sU true (dg 4294967296 (k'.natAbs-(k.natAbs%k'.natAbs))))),.one (tv (.int .i64 0))])):=by
    have h9:=Qd (aL (by omega) k'.natAbs) (aL (by omega) (k.natAbs%k'.natAbs)) (by omega) (by rw[bL,cC (by omega)];omega)
    rwa[bL,cC (by omega)]at h9
   refine fS 8 hS Po ⟨a1 rfl,rG rfl (.sl rfl rfl (Ui _) (bB _)),rfl⟩ ?_;(iterate 4 refine o1 ?_);refine nl ?_;refine sq ?_
   have hd:k.fdiv k'=bS (aG k != aG k') ((k.natAbs/k'.natAbs)+1)∧k.fmod k'=bS (aG k') (k'.natAbs-(k.natAbs%k'.natAbs)):=by
    have h9:aG k≠aG k':=by simpa using h2
    have h7:k.natAbs%k'.natAbs≠0:=by have h5:=lQ (m:=(k.natAbs%k'.natAbs)) rfl;rw[decide_eq_true (by omega)]at h5;have h6:=of_decide_eq_true h5.symm;omega
    have h8:=DK (a:=k) (b:=k') hz0 h9 h7
    rw[h2];exact h8
   refine rd [1,2,3,6] (fun i=>[15,16].contains i) mixed ?_
   refine dv 0 ?_;refine dv 1 ?_;refine aX 2 ?_;refine dv 3 ?_;refine dv 4 ?_;refine aX 5 ?_;refine dv 6 ?_;refine dv 7 ?_;refine dv 9 ?_;refine dv 10 ?_;refine aX 11 ?_
   refine dv 12 ?_
   refine Am 8 9 [7] rfl (gV (b:=(aG k != aG k')) (m:=((k.natAbs/k'.natAbs)+1)) (K:=(k.fdiv k')) hd.1.symm) nU ⟨bI rfl,rfl⟩ ⟨rfl,rfl,rfl⟩ ⟨rfl,rfl,rfl,rfl,trivial⟩ ?_
   refine Am 13 10 [8] rfl (gV (b:=(aG k')) (m:=(k'.natAbs-(k.natAbs%k'.natAbs))) (K:=(k.fmod k')) hd.2.symm) nU ⟨bI rfl,rfl⟩ ⟨rfl,rfl,rfl⟩ ⟨rfl,rfl,rfl,rfl,trivial⟩ ?_
   refine aZ 14 (by kernel_rfl) rfl rfl aA rfl rfl rfl rfl ⟨rfl,rfl,rfl,rfl,trivial⟩ ?_
   refine dst 15 ?_;refine dH 16 (by kernel_rfl) rfl rfl aA rfl (by trivial) ?_ (fun h=>by first | rfl | cases h)
   refine aR ?_;refine rt ?_
   exact en (.inl rfl) rfl (oZ (.cons (.agg (.cons (.id rfl) (.cons (.sl (trs:=aP (dg 4294967296 ((k.fdiv k')).natAbs)) rfl rfl (bE _) (bB _)) .nil))) (.cons (.agg (.cons (.id rfl) (.cons (.sl (trs:=aP (dg 4294967296 ((k.fmod k')).natAbs)) rfl rfl (bE _) (bB _)) .nil))) (.cons (cF (.int .i64 0)) .nil)))) (by decide) (fun _=>⟨dW (k.fdiv k'),dW (k.fmod k'),trivial,trivial⟩) rfl
  refine sk ?_;refine sq ?_;have hd:k.fdiv k'=bS (aG k != aG k') (k.natAbs/k'.natAbs)∧k.fmod k'=bS (aG k') (k.natAbs%k'.natAbs):=by
   have h9:aG k≠aG k':=by simpa using h2
   have h7:k.natAbs%k'.natAbs=0:=by have h5:=lQ (m:=(k.natAbs%k'.natAbs)) rfl;rw[decide_eq_false (by omega)]at h5;have h6:=of_decide_eq_false h5.symm;omega
   have h8:=DJ (a:=k) (b:=k') hz0 h9 h7
   rw[h2];exact h8
  refine rd [1,2,3] (fun i=>[15,16].contains i) mixed ?_
  refine dv 0 ?_;refine dv 1 ?_;refine aX 2 ?_;refine dv 3 ?_;refine dv 4 ?_;refine aX 5 ?_;refine dv 6 ?_;refine dv 7 ?_;refine dv 9 ?_;refine dv 10 ?_;refine aX 11 ?_
  refine dv 12 ?_
  refine Am 8 6 [4] rfl (gV (b:=(aG k != aG k')) (m:=(k.natAbs/k'.natAbs)) (K:=(k.fdiv k')) hd.1.symm) nU ⟨bI rfl,rfl⟩ ⟨rfl,rfl,rfl⟩ ⟨rfl,rfl,rfl,trivial⟩ ?_
  refine Am 13 7 [5] rfl (gV (b:=(aG k')) (m:=(k.natAbs%k'.natAbs)) (K:=(k.fmod k')) hd.2.symm) nU ⟨bI rfl,rfl⟩ ⟨rfl,rfl,rfl⟩ ⟨rfl,rfl,rfl,trivial⟩ ?_
  refine aZ 14 (by kernel_rfl) rfl rfl aA rfl rfl rfl rfl ⟨rfl,rfl,rfl,trivial⟩ ?_
  refine dst 15 ?_;refine dH 16 (by kernel_rfl) rfl rfl aA rfl (by trivial) ?_ (fun h=>by first | rfl | cases h)
  refine aR ?_;refine rt ?_
  exact en (.inl rfl) rfl (oZ (.cons (.agg (.cons (.id rfl) (.cons (.sl (trs:=aP (dg 4294967296 ((k.fdiv k')).natAbs)) rfl rfl (bE _) (bB _)) .nil))) (.cons (.agg (.cons (.id rfl) (.cons (.sl (trs:=aP (dg 4294967296 ((k.fmod k')).natAbs)) rfl rfl (bE _) (bB _)) .nil))) (.cons (cF (.int .i64 0)) .nil)))) (by decide) (fun _=>⟨dW (k.fdiv k'),dW (k.fmod k'),trivial,trivial⟩) rfl
 (iterate 3 refine eC ?_);refine o1 ?_;refine nl ?_;refine eZ rfl ?_;refine sk ?_;refine sq ?_
 have hd:k.fdiv k'=bS (aG k != aG k') (k.natAbs/k'.natAbs)∧k.fmod k'=bS (aG k') (k.natAbs%k'.natAbs):=by
  have h9:aG k=aG k':=by simpa using h2
  have h8:=DI (a:=k) (b:=k') hz0 h9
  rw[h2];exact h8
 refine rd [1,2,3] (fun i=>[15,16].contains i) mixed ?_
 refine dv 0 ?_;refine dv 1 ?_;refine aX 2 ?_;refine dv 3 ?_;refine dv 4 ?_;refine aX 5 ?_;refine dv 6 ?_;refine dv 7 ?_;refine dv 9 ?_;refine dv 10 ?_;refine aX 11 ?_
 refine dv 12 ?_
 refine Am 8 6 [4] rfl (gV (b:=(aG k != aG k')) (m:=(k.natAbs/k'.natAbs)) (K:=(k.fdiv k')) hd.1.symm) nU ⟨bI rfl,rfl⟩ ⟨rfl,rfl,rfl⟩ ⟨rfl,rfl,rfl,trivial⟩ ?_
 refine Am 13 7 [5] rfl (gV (b:=(aG k')) (m:=(k.natAbs%k'.natAbs)) (K:=(k.fmod k')) hd.2.symm) nU ⟨bI rfl,rfl⟩ ⟨rfl,rfl,rfl⟩ ⟨rfl,rfl,rfl,trivial⟩ ?_
 refine aZ 14 (by kernel_rfl) rfl rfl aA rfl rfl rfl rfl ⟨rfl,rfl,rfl,trivial⟩ ?_
 refine dst 15 ?_;refine dH 16 (by kernel_rfl) rfl rfl aA rfl (by trivial) ?_ (fun h=>by first | rfl | cases h)
 refine aR ?_;refine rt ?_
 exact en (.inl rfl) rfl (oZ (.cons (.agg (.cons (.id rfl) (.cons (.sl (trs:=aP (dg 4294967296 ((k.fdiv k')).natAbs)) rfl rfl (bE _) (bB _)) .nil))) (.cons (.agg (.cons (.id rfl) (.cons (.sl (trs:=aP (dg 4294967296 ((k.fmod k')).natAbs)) rfl rfl (bE _) (bB _)) .nil))) (.cons (cF (.int .i64 0)) .nil)))) (by decide) (fun _=>⟨dW (k.fdiv k'),dW (k.fmod k'),trivial,trivial⟩) rfl
theorem sB {p:Rat}{L:Nat}(h:Sz L p) (hL:L≤68719476736:=by omega):Zg (.of p.num) p.num:=.of (Nat.le_trans h.1 (by omega))
theorem kT {p:Rat}{L:Nat}(h:Sz L p) (hL:L≤68719476736:=by omega):Zg ⟨false,dg 4294967296 p.den⟩ (p.den:Int):=⟨aL (by omega) _,Nat.le_trans h.2 (by omega),rC p.den⟩
theorem Et {q:Rat}{n d:Int}(h1:q.num=n) (h2:(q.den:Int)=d):FV.agg [tv (.bool (aG n)),.t (sU true (dg 4294967296 n.natAbs)),tv (.bool (aG d)),.t (sU true (dg 4294967296 d.natAbs))]=qO q:=by
 subst h1 h2
 rw[wZ]
 rfl
theorem vS {a b:Zi}{k k':Int}(ha:Zg a k) (hb:Zg b k') (hz0:k'≠0):aD true Tryz.prog 86 [] [gF a,gF b] (aO (qO (Rat.divInt k k'))):=by
 refine bP Tryz.func86 rfl Tryz.ntmps86 rfl aA rfl fun N w c0 h0=>?_
 have hkl:=ha.len
 have hkl':=hb.len
 have hgl:(dg 4294967296 ((Int.gcd k k':Nat):Int).natAbs).length≤300000000000:=Nat.le_trans (gL (Nat.le_of_dvd (by omega) (Nat.gcd_dvd_right ..))) hkl'
 have hng:=jL ((Int.gcd k k':Nat):Int)
 have hg0:((Int.gcd k k':Nat):Int)≠0:=fun e=>hz0 (Int.gcd_eq_zero_iff.1 (show Int.gcd k k'=0 by omega)).2
 refine sq ?_;refine rl ?_;refine bx 0 ?_;refine bx 1 ?_;refine al 2 ?_;refine nl ?_;refine sq ?_;refine rl ?_;refine ld ?_;refine ld ?_
 refine ca (AU ha hb) AD ⟨aB rfl,aB rfl,rfl⟩ (kF (((Int.gcd k k':Nat):Int))) ?_;refine al 3 ?_;refine st ?_;refine nl ?_;refine sq ?_;refine sq ?_;refine rl ?_;refine ld ?_
 refine ca (nJ hb) uH ⟨aB rfl,rfl⟩ (.one (tv (.int .i64 k'.sign))) ?_;refine o1 ?_;refine nl ?_;refine bO rfl (fun h1=>?_) (fun h1=>?_)
 ·refine rl ?_;refine ld ?_;refine ca (On (Zg.of (k:=((Int.gcd k k':Nat):Int)) hgl)) Vv ⟨aB rfl,rfl⟩ (kF (-(((Int.gcd k k':Nat):Int)))) ?_;refine st ?_;refine nl ?_;refine sq ?_
  refine rl ?_;refine ld ?_;refine ld ?_;refine fS 4 (oY ha (Zg.of (k:=(-(((Int.gcd k k':Nat):Int)))) (by omega)) (by omega)) zG ⟨aB rfl,aB rfl,rfl⟩ ?_
  (iterate 4 refine o1 ?_);refine al 6 ?_;refine al 7 ?_;refine st ?_;refine st ?_;refine o1 ?_;refine nl ?_;refine sq ?_;refine rl ?_;refine ld ?_;refine ld ?_
  refine fS 8 (oY hb (Zg.of (k:=(-(((Int.gcd k k':Nat):Int)))) (by omega)) (by omega)) zG ⟨aB rfl,aB rfl,rfl⟩ ?_
  (iterate 4 refine o1 ?_);refine al 10 ?_;refine al 11 ?_;refine st ?_;refine st ?_;refine o1 ?_;refine nl ?_;refine sq ?_;refine rl ?_;refine ld ?_;refine ld ?_;refine o1 ?_
  refine st ?_;refine nl ?_;refine rt ?_;have hk9:k'<0:=by
   rcases Int.lt_trichotomy k' 0 with h8 | h8 | h8
   ·exact h8
   ·exact absurd h8 hz0
   rw[Int.sign_eq_one_of_pos h8]at h1;omega
  have h9:=Iy (N:=k) (D:=k') hk9
  exact en (.inl rfl) rfl (aW (.agg (.cons (.id rfl) (.cons (.sl (trs:=aP (dg 4294967296 (((k).fdiv (-(((Int.gcd k k':Nat):Int))))).natAbs)) rfl rfl (bE _) (bB _)) (.cons (.id rfl) (.cons (.sl (trs:=aP (dg 4294967296 (((k').fdiv (-(((Int.gcd k k':Nat):Int))))).natAbs)) rfl rfl (bE _) (bB _)) (.nil))))))) (by decide) (fun _=>rL (⟨aG ((k).fdiv (-(((Int.gcd k k':Nat):Int)))),dg 4294967296 (((k).fdiv (-(((Int.gcd k k':Nat):Int))))).natAbs,aG ((k').fdiv (-(((Int.gcd k k':Nat):Int)))),dg 4294967296 (((k').fdiv (-(((Int.gcd k k':Nat):Int))))).natAbs⟩:Fr4)) (Et h9.1 h9.2)
 refine sk ?_;refine sq ?_;refine rl ?_;refine ld ?_;refine ld ?_;refine fS 4 (oY ha (Zg.of (k:=((Int.gcd k k':Nat):Int)) (by omega)) (by omega)) zG ⟨aB rfl,aB rfl,rfl⟩ ?_
 (iterate 4 refine o1 ?_);refine al 6 ?_;refine al 7 ?_;refine st ?_;refine st ?_;refine o1 ?_;refine nl ?_;refine sq ?_;refine rl ?_;refine ld ?_;refine ld ?_
 refine fS 8 (oY hb (Zg.of (k:=((Int.gcd k k':Nat):Int)) (by omega)) (by omega)) zG ⟨aB rfl,aB rfl,rfl⟩ ?_
 (iterate 4 refine o1 ?_);refine al 10 ?_;refine al 11 ?_;refine st ?_;refine st ?_;refine o1 ?_;refine nl ?_;refine sq ?_;refine rl ?_;refine ld ?_;refine ld ?_;refine o1 ?_
 refine st ?_;refine nl ?_;refine rt ?_;have hk9:0<k':=by
  rcases Int.lt_trichotomy k' 0 with h8 | h8 | h8
  ·rw[Int.sign_eq_neg_one_of_neg h8]at h1;omega
  ·exact absurd h8 hz0
  exact h8
 have h9:=mX (N:=k) (D:=k') hk9
 exact en (.inl rfl) rfl (aW (.agg (.cons (.id rfl) (.cons (.sl (trs:=aP (dg 4294967296 (((k).fdiv ((Int.gcd k k':Nat):Int))).natAbs)) rfl rfl (bE _) (bB _)) (.cons (.id rfl) (.cons (.sl (trs:=aP (dg 4294967296 (((k').fdiv ((Int.gcd k k':Nat):Int))).natAbs)) rfl rfl (bE _) (bB _)) (.nil))))))) (by decide) (fun _=>rL (⟨aG ((k).fdiv ((Int.gcd k k':Nat):Int)),dg 4294967296 (((k).fdiv ((Int.gcd k k':Nat):Int))).natAbs,aG ((k').fdiv ((Int.gcd k k':Nat):Int)),dg 4294967296 (((k').fdiv ((Int.gcd k k':Nat):Int))).natAbs⟩:Fr4)) (Et h9.1 h9.2)
theorem MF {p q:Rat}(hp:Sz 68719476736 p) (hq:Sz 68719476736 q):aD true Tryz.prog 82 [] [qF (.of p),qF (.of q)] (aO (qO (p+q))):=by
 refine bP Tryz.func82 rfl Tryz.ntmps82 rfl aA rfl fun N w c0 h0=>?_
 have z1:=(sB hp).len;have z2:=(sB hq).len;have z3:=(kT hp).len;have z4:=(kT hq).len
 have y1:(dg 4294967296 p.num.natAbs).length≤68719476736:=hp.1;have y2:(dg 4294967296 q.num.natAbs).length≤68719476736:=hq.1;have y3:(dg 4294967296 p.den).length≤68719476736:=hp.2;have y4:(dg 4294967296 q.den).length≤68719476736:=hq.2;have y5:(dg 4294967296 (p.den:Int).natAbs).length≤68719476736:=hp.2;have y6:(dg 4294967296 (q.den:Int).natAbs).length≤68719476736:=hq.2
 refine sq ?_;refine rl ?_;refine bx 0 ?_;refine bx 1 ?_;refine al 2 ?_;refine nl ?_;refine sq ?_;refine sq ?_;refine rl ?_;refine o1 ?_;refine ld ?_;refine o1 ?_;refine ld ?_
 refine ca (Qf (kT hp) (kT hq) (by have h8:=iD (p.den:Int) (-(q.den:Int));have h7:=jL (q.den:Int);rw[Int.natAbs_natCast]at h7 h8;rw[Int.sub_eq_add_neg];omega)) xZ ⟨aB rfl,aB rfl,rfl⟩ (.one (tv (.int .i64 ((p.den:Int)-(q.den:Int)).sign))) ?_
 refine o1 ?_;refine nl ?_;refine bO rfl (fun h1=>?_) (fun h1=>?_)
 ·refine sq ?_;refine rd [0,1,2] (fun i=>[8].contains i) mixed ?_
  refine dv 0 ?_;refine aX 1 ?_;refine dv 2 ?_;refine aX 3 ?_;refine dv 5 ?_;refine aX 6 ?_;have hn2:=iD (p.num) (q.num)
  refine aK 4 rfl (El (sB hp) (sB hq)) Ol ⟨aB rfl,aB rfl,rfl⟩ (kF (p.num+q.num)) ?_
  refine jJ 3 7 rfl (vS (Zg.of (k:=(p.num+q.num)) (by omega)) (kT hp) (by have h8:=p.den_nz;have h7:=q.den_nz;first | omega | exact Int.mul_ne_zero (by omega) (by omega))) Oc ⟨aB rfl,aB rfl,rfl⟩ ?_
  refine dst 8 ?_;refine aR ?_;refine rt ?_
  exact en (.inl rfl) rfl (aW (.agg (.cons (.id rfl) (.cons (.sl (trs:=aP (dg 4294967296 (Rat.divInt ((p.num+q.num)) ((p.den:Int))).num.natAbs)) rfl rfl (bE _) (bB _)) (.cons (.id rfl) (.cons (.sl (trs:=aP (dg 4294967296 (Rat.divInt ((p.num+q.num)) ((p.den:Int))).den)) rfl rfl (bE _) (bB _)) .nil)))))) (by decide) (fun _=>uG (Rat.divInt ((p.num+q.num)) ((p.den:Int)))) (by rw[show(Rat.divInt ((p.num+q.num)) ((p.den:Int)))=p+q from Xv (by have h8:=Int.sign_eq_zero_iff_zero.1 h1;omega)];rfl)
 refine sk ?_;refine sq ?_;refine rd [0,1,2] (fun i=>[17].contains i) mixed ?_
 refine dv 0 ?_;refine aX 1 ?_;refine dv 2 ?_;refine aX 3 ?_;refine dv 5 ?_;refine aX 6 ?_;refine dv 7 ?_;refine aX 8 ?_;refine dv 11 ?_;refine aX 12 ?_;refine dv 13 ?_
 refine aX 14 ?_;have hn3:=cT (p.num) ((q.den:Int))
 refine aK 4 rfl (Es (sB hp) (kT hq)) sM ⟨aB rfl,aB rfl,rfl⟩ (kF (p.num*(q.den:Int))) ?_;have hn4:=cT (q.num) ((p.den:Int))
 refine aK 9 rfl (Es (sB hq) (kT hp)) sM ⟨aB rfl,aB rfl,rfl⟩ (kF (q.num*(p.den:Int))) ?_;have hn5:=iD ((p.num*(q.den:Int))) ((q.num*(p.den:Int)))
 refine aK 10 rfl (El (Zg.of (k:=(p.num*(q.den:Int))) (by omega)) (Zg.of (k:=(q.num*(p.den:Int))) (by omega))) Ol ⟨aB rfl,aB rfl,rfl⟩ (kF ((p.num*(q.den:Int))+(q.num*(p.den:Int)))) ?_
 have hn6:=cT ((p.den:Int)) ((q.den:Int))
 refine aK 15 rfl (Es (kT hp) (kT hq)) sM ⟨aB rfl,aB rfl,rfl⟩ (kF ((p.den:Int)*(q.den:Int))) ?_
 refine jJ 3 16 rfl (vS (Zg.of (k:=((p.num*(q.den:Int))+(q.num*(p.den:Int)))) (by omega)) (Zg.of (k:=((p.den:Int)*(q.den:Int))) (by omega)) (by have h8:=p.den_nz;have h7:=q.den_nz;first | omega | exact Int.mul_ne_zero (by omega) (by omega))) Oc ⟨aB rfl,aB rfl,rfl⟩ ?_
 refine dst 17 ?_;refine aR ?_;refine rt ?_
 exact en (.inl rfl) rfl (aW (.agg (.cons (.id rfl) (.cons (.sl (trs:=aP (dg 4294967296 (Rat.divInt (((p.num*(q.den:Int))+(q.num*(p.den:Int)))) (((p.den:Int)*(q.den:Int)))).num.natAbs)) rfl rfl (bE _) (bB _)) (.cons (.id rfl) (.cons (.sl (trs:=aP (dg 4294967296 (Rat.divInt (((p.num*(q.den:Int))+(q.num*(p.den:Int)))) (((p.den:Int)*(q.den:Int)))).den)) rfl rfl (bE _) (bB _)) .nil)))))) (by decide) (fun _=>uG (Rat.divInt (((p.num*(q.den:Int))+(q.num*(p.den:Int)))) (((p.den:Int)*(q.den:Int))))) (by rw[show(Rat.divInt (((p.num*(q.den:Int))+(q.num*(p.den:Int)))) (((p.den:Int)*(q.den:Int))))=p+q from pY p q];rfl)
theorem Uj {k:Int}{f:FuncId}{args:List FV}(h:∀(N:Nat→Prop) (w:World) us,dA w N [] args us→(∀b,N b→b<w.heap.size)→Calls Tryz.prog f us.toArray w (IU k w)):aD true Tryz.prog f [] args (aO (kO k)):=by
 intro N w cs us hL
 obtain⟨rfl,hf⟩:=vP hL
 refine(h _ w us hf (fun b hb=>hb.1)).mono ?_
 rintro e W ⟨A,n,c,rfl,ho,hb⟩
 obtain⟨y1,a1,a2,a3,a4⟩:=vO (N:=fun b=>true=false∧(b<W.heap.size∧b∉VT.fpL [])∧(N b∨w.heap.size≤b)) ho
 refine .mk0 (y:=[.w (.bool (aG k)),y1]) rfl hb (by simp only[VT.okL,VT.ok];exact⟨trivial,a3,trivial⟩) ?_ (fun b hb'=>?_) ?_
 ·simp only[VT.fpL,VT.fp,a4,List.nil_append,List.append_nil]
  exact Al A n c
 ·simp only[VT.fpL,VT.fp,a4,List.nil_append,List.append_nil]at hb'
  exact ho.blk b hb'
 refine⟨by simp only[List.map_cons,List.map_nil,a1];rfl,?_⟩
 simp only[List.map_cons,List.map_nil,bN,CR,sU]
 exact⟨by simp[OR],jD (fun _ _=>rfl) (fun b hb=>absurd hb.1 (by simp)) _ _ a2,trivial⟩
theorem gI {n:Int}(h1:-9223372036854775808≤n) (h2:n≤9223372036854775807):aD true Tryz.prog 36 [] [.one (tv (.int .i64 n))] (aO (kO n)):=Uj fun N w us hf hN=>by
 obtain⟨u,rfl,h3⟩:=Xx hf
 obtain rfl:=bD (rP h3)
 exact IV n w h1 h2
theorem DZ {m:Nat}:decide (((m:Int)-1).sign=0)=(m==1):=by
 rw[decide_eq_decide.2 Int.sign_eq_zero_iff_zero]
 rw[Bool.eq_iff_iff,decide_eq_true_eq,beq_iff_eq]
 omega
theorem Ji {z:Int}:0<z.sign↔0<z:=by
 rcases Int.lt_trichotomy z 0 with h | h | h
 ·rw[Int.sign_eq_neg_one_of_neg h];omega
 ·subst h;decide
 rw[Int.sign_eq_one_of_pos h];omega
theorem An:aD true Tryz.prog 84 [] [] (aO (kO 1)):=by
 refine bP Tryz.func84 rfl Tryz.ntmps84 rfl aA rfl fun N w c0 h0=>?_
 refine sq ?_;refine rl ?_;refine al 0 ?_;refine nl ?_;refine sq ?_;refine rl ?_;refine fS 1 (gI (n:=1) (by omega) (by omega)) gJ ⟨a1 rfl,rfl⟩ ?_
 refine st ?_;refine nl ?_;refine rt ?_
 exact en (.inl rfl) rfl (aW (.agg (.cons (.id rfl) (.cons (.sl (trs:=aP (dg 4294967296 ((1:Int)).natAbs)) rfl rfl (bE _) (bB _)) .nil)))) (by decide) (fun _=>dW 1) rfl
theorem Jj {a:Fr4}{p:Rat}(ha:Qn a p):aD true Tryz.prog 89 [] [qF a] (aO (.one (tv (.bool (dD a.s a.x a.t a.y))))):=by
 refine bP Tryz.func89 rfl Tryz.ntmps89 rfl aA rfl fun N w c0 h0=>?_
 refine sq ?_;refine rl ?_;refine bx 0 ?_;refine o1 ?_;refine nl ?_;refine sq ?_;refine rl ?_;refine o1 ?_;refine ld ?_
 refine ca (rM (a:=⟨a.s,a.x⟩) ((Gl ha).g)) Hd ⟨aB rfl,rfl⟩ (.one (tv (.bool (cQ a.s a.x)))) ?_;refine o1 ?_;refine WL.splitb (t:=6) rfl (fun h1=>?_) (fun h1=>?_)
 ·refine o1 ?_;refine ld ?_;refine ca (rM (a:=⟨a.t,a.y⟩) ((sN ha).g)) Hd ⟨aB rfl,rfl⟩ (.one (tv (.bool (cQ a.t a.y)))) ?_;refine o1 ?_;refine o1 ?_
  refine WL.splitb (t:=11) rfl (fun h2=>?_) (fun h2=>?_)
  ·refine o1 ?_;refine ld ?_;refine ca (nJ (a:=⟨a.t,a.y⟩) ((sN ha).g)) uH ⟨aB rfl,rfl⟩ (.one (tv (.int .i64 (dF a.t a.y).sign))) ?_;(iterate 3 refine o1 ?_)
   refine WL.split (t:=17) rfl (fun h3=>?_) (fun h3=>?_)
   ·refine o1 ?_;refine ld ?_;refine o1 ?_;refine ld ?_;have hpos:0<dF a.t a.y:=Ji.1 h3
    have hyl:(dg 4294967296 (dF a.t a.y).natAbs).length≤137438953472:=Zn.len (sN (p:=p) ha)
    have hgl9:(dg 4294967296 ((Int.gcd (dF a.s a.x) (dF a.t a.y):Nat):Int).natAbs).length≤137438953472:=Nat.le_trans (gL (Nat.le_of_dvd (by omega) (Nat.gcd_dvd_right ..))) hyl
    have hgl:(dg 4294967296 ((Int.gcd (dF a.s a.x) (dF a.t a.y):Nat):Int).natAbs).length≤300000000000:=Nat.le_trans hgl9 (by omega)
    refine ca (AU (a:=⟨a.s,a.x⟩) (b:=⟨a.t,a.y⟩) ((Gl ha).g) ((sN ha).g)) AD ⟨aB rfl,aB rfl,rfl⟩ (kF ((Int.gcd (dF a.s a.x) (dF a.t a.y):Nat):Int)) ?_
    refine ca (An) Oe rfl (kF 1) ?_
    refine ca (Qf (Zg.of (k:=((Int.gcd (dF a.s a.x) (dF a.t a.y):Nat):Int)) hgl) (Zg.of (k:=1) (by decide)) (by have h8:=xX ((Int.gcd (dF a.s a.x) (dF a.t a.y):Nat):Int) 1;have h7:(dg 4294967296 (1:Int).natAbs).length=1:=rfl;omega)) xZ ⟨aB rfl,aB rfl,rfl⟩ (.one (tv (.int .i64 (((Int.gcd (dF a.s a.x) (dF a.t a.y):Nat):Int)-1).sign))) ?_
    (iterate 3 refine o1 ?_);refine nl ?_;refine rt ?_
    exact en (.inl rfl) rfl (aW (cF _)) (by decide) (fun _=>trivial) (congrArg (fun b=>FV.one (tv (.bool b))) (by unfold dD;rw[h1,h2,decide_eq_true hpos,←DZ];rfl))
   (iterate 8 refine eC ?_);refine o1 ?_;refine o1 ?_;refine nl ?_;refine rt ?_
   exact en (.inl rfl) rfl (aW (cF _)) (by decide) (fun _=>trivial) (congrArg (fun b=>FV.one (tv (.bool b))) (by unfold dD;rw[h1,h2,decide_eq_false (fun h9=>h3 (Ji.2 h9))];rfl))
  (iterate 4 refine eC ?_);refine o1 ?_;refine o1 ?_;(iterate 8 refine eC ?_);refine o1 ?_;refine o1 ?_;refine nl ?_;refine rt ?_
  exact en (.inl rfl) rfl (aW (cF _)) (by decide) (fun _=>trivial) (congrArg (fun b=>FV.one (tv (.bool b))) (by unfold dD;rw[h1,h2];rfl))
 (iterate 3 refine eC ?_);refine o1 ?_;refine o1 ?_;(iterate 4 refine eC ?_);refine o1 ?_;refine o1 ?_;(iterate 8 refine eC ?_);refine o1 ?_;refine o1 ?_;refine nl ?_;refine rt ?_
 exact en (.inl rfl) rfl (aW (cF _)) (by decide) (fun _=>trivial) (congrArg (fun b=>FV.one (tv (.bool b))) (by unfold dD;rw[h1];rfl))
theorem MJ:FV.agg [tv (.bool false),.t (sU false []),tv (.bool (aG 1)),.t (sU false (dg 4294967296 (1:Int).natAbs))]=qF (.of 0):=rfl
theorem xY {a:Fr4}{p:Rat}(ha:Qn a p):aD false Tryz.prog 74 [] [qF a] (aO (qF (.of p))):=by
 refine bP Tryz.func74 rfl Tryz.ntmps74 rfl aA rfl fun N w c0 h0=>?_
 refine sq ?_;refine rl ?_;refine bx 0 ?_;refine al 1 ?_;refine nl ?_;refine sq ?_;refine sq ?_;refine rl ?_;refine ld ?_
 refine ca (Jj ha) Ve ⟨aB rfl,rfl⟩ (.one (tv (.bool (dD a.s a.x a.t a.y)))) ?_;refine WL.splitb (t:=4) rfl (fun h1=>?_) (fun h1=>?_)
 ·refine o1 ?_;refine nl ?_;refine eZ rfl ?_;refine sk ?_;refine sq ?_;refine rl ?_;refine ld ?_;refine st ?_;refine nl ?_;refine rt ?_
  exact en (.inl rfl) rfl (aW (.agg (.cons (.id rfl) (.cons (.id rfl) (.cons (.id rfl) (.cons (.id rfl) .nil)))))) (by decide) (fun h=>by cases h) (by rw[ha.right h1];rfl)
 refine o1 ?_;refine nl ?_;refine kM rfl ?_;refine sq ?_;refine rl ?_;refine o1 ?_;refine ca (An) Oe rfl (kF 1) ?_;refine o1 ?_;refine st ?_;refine nl ?_;refine rt ?_
 have hq9:=ha.wrong h1
 subst hq9;exact en (.inl rfl) rfl (aW (.agg (.cons (.id rfl) (.cons .nilf (.cons (.id rfl) (.cons (.id rfl) .nil)))))) (by decide) (fun h=>by cases h) MJ
theorem EA {a:Fr4}{p:Rat}(ha:Qn a p):aD true Tryz.prog 34 [] [qF a] (aO (.one (tv (.int .i64 p.num.sign)))):=by
 refine bP Tryz.func34 rfl Tryz.ntmps34 rfl aA rfl fun N w c0 h0=>?_
 refine sq ?_;refine rl ?_;refine bx 0 ?_;refine o1 ?_;refine nl ?_;refine sq ?_;refine rl ?_;refine ld ?_;refine ca (xY ha) gH ⟨aB rfl,rfl⟩ (qF (.of p)) ?_;refine o1 ?_
 refine ca (nJ (Zg.of (k:=p.num) (Nat.le_trans ha.sz.1 (by omega)))) uH ⟨aB rfl,rfl⟩ (.one (tv (.int .i64 p.num.sign))) ?_
 refine o1 ?_;refine nl ?_;refine rt ?_;exact en (.inl rfl) rfl (aW (cF _)) (by decide) (fun _=>trivial) rfl
theorem JE {a:Fr4}{p:Rat}(ha:Qn a p):aD true Tryz.prog 90 [] [qF a] (aO (qO (-p))):=by
 refine bP Tryz.func90 rfl Tryz.ntmps90 rfl aA rfl fun N w c0 h0=>?_
 refine sq ?_;refine rl ?_;refine bx 0 ?_;refine al 1 ?_;refine nl ?_;refine sq ?_;refine rl ?_;refine ld ?_;refine ca (xY ha) gH ⟨aB rfl,rfl⟩ (qF (.of p)) ?_;refine st ?_
 refine nl ?_;refine sq ?_;refine rd [0,1] (fun i=>[7].contains i) mixed ?_
 refine dv 0 ?_;refine aX 1 ?_;refine dv 3 ?_;refine aX 4 ?_;refine jJ 2 2 rfl (On (Zg.of (k:=p.num) (Nat.le_trans ha.sz.1 (by omega)))) Vv ⟨aB rfl,rfl⟩ ?_
 refine jJ 3 5 rfl (ME (kT ha.sz)) LP ⟨aB rfl,rfl⟩ ?_;refine df 6 ?_;refine dst 7 ?_;refine aR ?_;refine rt ?_;have hda:(((p.den:Int).natAbs:Nat):Int).natAbs=p.den:=rfl
 exact en (.inl rfl) rfl (aW (.agg (.cons (.id rfl) (.cons (.sl (trs:=aP (dg 4294967296 (-(p.num)).natAbs)) rfl rfl (bE _) (bB _)) (.cons (.id rfl) (.cons (.sl (trs:=aP (dg 4294967296 (((p.den:Int).natAbs:Nat):Int).natAbs)) rfl rfl (bE _) (bB _)) .nil)))))) (by decide) (fun _=>rL (⟨_,dg 4294967296 (-(p.num)).natAbs,_,dg 4294967296 (((p.den:Int).natAbs:Nat):Int).natAbs⟩:Fr4)) (show FV.agg [tv (.bool (aG (-(p.num)))),.t (sU true (dg 4294967296 (-(p.num)).natAbs)),tv (.bool (aG (((p.den:Int).natAbs:Nat):Int))),.t (sU true (dg 4294967296 (((p.den:Int).natAbs:Nat):Int).natAbs))]=qO (-p) from Et (q:=-p) (by simp) (by simp))
theorem Ym {n:Int}(h1:-9223372036854775808≤n) (h2:n≤9223372036854775807):aD true Tryz.prog 45 [] [.one (tv (.int .i64 n))] (aO (qO ((n:Int):Rat))):=by
 refine bP Tryz.func45 rfl Tryz.ntmps45 rfl aA rfl fun N w c0 h0=>?_
 refine sq ?_;refine rl ?_;refine al 0 ?_;refine nl ?_;refine sq ?_;refine rl ?_;refine o1 ?_;refine fS 1 (gI (n:=n) h1 h2) gJ ⟨a1 rfl,rfl⟩ ?_;refine fS 2 (An) Oe rfl ?_
 refine o1 ?_;refine st ?_;refine nl ?_;refine rt ?_
 exact en (.inl rfl) rfl (aW (.agg (.cons (.id rfl) (.cons (.sl (trs:=aP (dg 4294967296 n.natAbs)) rfl rfl (bE _) (bB _)) (.cons (.id rfl) (.cons (.sl (trs:=aP (dg 4294967296 (1:Int).natAbs)) rfl rfl (bE _) (bB _)) .nil)))))) (by decide) (fun _=>rL (⟨_,dg 4294967296 n.natAbs,_,dg 4294967296 (1:Int).natAbs⟩:Fr4)) (Et (q:=((n:Int):Rat)) (n:=n) (d:=1) (by simp) (by simp))
theorem uJ (k:Int):jI (kO k):=by
 simp only[jI,kO,nP,List.map_cons,List.map_nil,jO,qD,sU,mA]
 exact⟨trivial,.inl ⟨trivial,fC _⟩,trivial⟩
section
variable {f:FuncId}{args:List FV}
end
section
variable {a b:Fr4}{p q:Rat}{x y:Zi}{k k':Int}
theorem KD:aD true Tryz.prog 84 [] [] (aO (kO 1)):=An
theorem qZ (h:Zn x k) (h':Zn y k'):aD true Tryz.prog 85 [] [gF x,gF y] (aO (kO (k*k'))):=Es h.g h'.g
theorem uF (h:Zn x k) (h':Zn y k'):aD true Tryz.prog 23 [] [gF x,gF y] (aO (.one (tv (.int .i64 (k-k').sign)))):=Qf h.g h'.g (by have:=xX k k';have:=h.len;have:=h'.len;omega)
theorem rE (h:Qn a p):aD true Tryz.prog 34 [] [qF a] (aO (.one (tv (.int .i64 p.num.sign)))):=EA h
theorem Og (hp:Sz 68719476736 p) (hq:Sz 68719476736 q):aD true Tryz.prog 82 [] [qF (.of p),qF (.of q)] (aO (qO (p+q))):=MF hp hq
theorem Fs (ha:a.ok):aD true Tryz.prog 89 [] [qF a] (aO (.one (tv (.bool (dD a.s a.x a.t a.y))))):=Jj ⟨ha,rfl⟩
theorem mO {z:Int}(h1:-9223372036854775808≤z) (h2:z≤9223372036854775807):aD true Tryz.prog 45 [] [.one (tv (.int .i64 z))] (aO (qO (z:Rat))):=Ym h1 h2
theorem Qx (hp:Sz 68719476736 p):aD true Tryz.prog 82 [] [qF (.of p),qF (.of ((0:Int):Rat))] (aO (qO p)):=by
 have:=Og hp ((kL (z:=0) (by omega) (by omega)).mono (by omega))
 rwa[show p+((0:Int):Rat)=p from Rat.add_zero p]at this
end
def bC (x:Rat):Rat:=gA x [0]
theorem uD (x:Rat):bC x=if x<0 then 0 else x:=rfl
theorem Qs (x:Rat):0≤bC x:=by rw[uD];split <;> grind
theorem zD {x:Rat}(h:0≤x):bC x=x:=by rw[uD];split <;> grind
section
variable {x y:Zi}{k k':Int}
theorem Df (h:Zn x k) (h':Zn y k') (h0:k'≠0):aD true Tryz.prog 86 [] [gF x,gF y] (aO (qO (Rat.divInt k k'))):=vS h.g h'.g h0
theorem KM {a:Fr4}{p:Rat}(h:Qn a p):aD true Tryz.prog 90 [] [qF a] (aO (qO (-p))):=JE h
theorem Zc (p q:Rat):Rat.divInt (p.num*q.num) ((p.den:Int)*(q.den:Int))=p*q:=by
 rw[←Rat.divInt_mul_divInt,Rat.num_divInt_den,Rat.num_divInt_den]
theorem nL {L M:Nat}{p q:Rat}(hp:Sz L p) (hq:Sz M q):Sz (L+M) (p*q):=by
 rw[←Zc p q]
 have h5:=jQ (Int.mul_pos (show(0:Int)<p.den by have:=p.den_pos;omega) (show(0:Int)<q.den by have:=q.den_pos;omega)) (kB hp.1 hq.1) (kB (mF hp) (mF hq))
 exact⟨h5.1,h5.2⟩
theorem Dg (p:Rat) (l:List Rat) (q:Rat):gA p (l++[q])=if gA p l<q then q else gA p l:=by
 unfold gA
 rw[List.foldl_append]
 rfl
theorem Bi {L:Nat}{p:Rat}(h:Sz L p) (hL:2≤L):Sz L (bC p):=by
 rw[uD]
 split
 ·exact(kL (z:=0) (by omega) (by omega)).mono (by omega)
 exact h
theorem den_nz (p q:Rat):(p.den:Int)*(q.den:Int)≠0:=by
 have h1:=p.den_pos
 have h2:=q.den_pos
 exact Int.ne_of_gt (Int.mul_pos (by omega) (by omega))
theorem Jk {L:Nat}{k:Int}(h:jH L k):jH L (-k):=by
 unfold jH
 rw[Int.natAbs_neg]
 exact h
theorem Ao {n:Int}(h1:-9223372036854775808≤n) (h2:n≤9223372036854775807):jH 2 n:=lW h1 h2
theorem KV {n d:Int}(h1:-9223372036854775808≤n) (h2:n≤9223372036854775807) (h3:-9223372036854775808≤d) (h4:d≤9223372036854775807):Sz 2 (Rat.divInt n d):=by
 rcases Int.lt_trichotomy d 0 with hd | hd | hd
 ·rw[←Rat.neg_divInt_neg]
  obtain⟨e1,e2⟩:=jQ (a:=-n) (b:=-d) (L:=2) (M:=2) (by omega) (Jk (Ao h1 h2)) (Jk (Ao h3 h4))
  exact⟨e1,e2⟩
 ·subst hd
  rw[Rat.divInt_zero]
  exact⟨Nat.zero_le _,by decide⟩
 obtain⟨e1,e2⟩:=jQ (a:=n) (b:=d) (L:=2) (M:=2) hd (Ao h1 h2) (Ao h3 h4)
 exact⟨e1,e2⟩
end
def fl (q:Rat):Int:=q.floor
def fc (q:Rat):Rat:=q-((fl q:Int):Rat)
theorem rB (q:Rat):q.num.fdiv (q.den:Int)=fl q:=by
 unfold fl
 rw[Rat.floor_def,Int.fdiv_eq_ediv_of_nonneg _ (by omega)]
theorem qH (q:Rat):0≤fc q:=by
 have:=Rat.floor_le q
 unfold fc fl
 grind
theorem Eu (q:Rat):fc q<1:=by
 have:=Rat.lt_floor_add_one q
 unfold fc fl
 rw[Rat.intCast_add]at this
 have h1:((1:Int):Rat)=1:=rfl
 grind
theorem AW (q:Rat):q*(q.den:Rat)=(q.num:Rat):=by
 have h:=Rat.num_divInt_den q
 have h2:Rat.divInt q.num (q.den:Int)=(q.num:Rat)/((q.den:Int):Rat):=Rat.divInt_eq_div _ _
 have h3:((q.den:Int):Rat)=(q.den:Rat):=rfl
 have h4:(q.den:Rat)≠0:=by
  have:=q.den_pos
  intro h
  have:q.den=0:=by exact_mod_cast h
  omega
 rw[h2,h3]at h
 have h6:(q.num:Rat)/(q.den:Rat)*(q.den:Rat)=(q.num:Rat):=Rat.div_mul_cancel h4
 rwa[h]at h6
theorem qK (a b:Int) (hb:b≠0):Rat.divInt a b*(b:Rat)=(a:Rat):=by
 rw[Rat.divInt_eq_div,Rat.div_def,Rat.mul_assoc,Rat.inv_mul_cancel _ (by simpa using hb),Rat.mul_one]
theorem EB {a b c:Rat}(hc:c≠0) (h:a*c=b*c):a=b:=by
 have h2:=congrArg (· *c⁻¹) h
 simpa only[Rat.mul_assoc,Rat.mul_inv_cancel c hc,Rat.mul_one]using h2
theorem Ra (q:Rat):Rat.divInt (q.num.fmod (q.den:Int)) (q.den:Int)=fc q:=by
 have hd:(q.den:Int)≠0:=by have:=q.den_nz;omega
 have hd2:(((q.den:Nat):Int):Rat)≠0:=by simpa using hd
 refine EB hd2 ?_
 rw[qK _ _ hd]
 have h1:q.num.fmod (q.den:Int)=q.num-(q.den:Int)*fl q:=by
  have:=Int.fmod_add_mul_fdiv q.num (q.den:Int)
  rw[rB]at this
  omega
 rw[h1,Rat.intCast_sub,Rat.intCast_mul,←AW q,fc]
 have h2:(((q.den:Nat):Int):Rat)=(q.den:Rat):=rfl
 rw[h2]
 grind
theorem uS (z:Int):fl (z:Rat)=z:=Rat.floor_intCast z
theorem JF (z:Int):fc (z:Rat)=0:=by rw[fc,uS];grind
theorem Cs {q:Rat}(h:q.den=1):((q.num:Int):Rat)=q:=by
 have:=AW q
 rw[h]at this
 rw[←this]
 simp
theorem Lo {q:Rat}:fc q=0↔q.den=1:=by
 constructor
 ·intro h
  have h2:q=((fl q:Int):Rat):=by unfold fc at h;grind
  rw[h2]
  exact Rat.den_intCast _
 intro h
 rw[←Cs h]
 exact JF _
theorem Fm {q:Rat}(h:q.den=1):fl q=q.num:=by
 have:=uS q.num
 rwa[Cs h]at this
theorem EC {p q:Rat}(h:p≤q):fl p≤fl q:=Rat.floor_monotone h
theorem Of (p q:Rat):Rat.divInt (p.num*(q.den:Int)) ((p.den:Int)*q.num)=p/q:=by
 have e:=Rat.num_divInt_den q
 have e2:=Rat.num_divInt_den p
 conv=>rhs;rw[←e,←e2]
 rw[Rat.div_def,Rat.inv_divInt,Rat.divInt_mul_divInt]
theorem dZ (a:Rat) (l:List Rat):aC (a::l)=a+aC l:=by
 have h:∀(l:List Rat) (x:Rat),l.foldl (· + ·) x=x+l.foldl (· + ·) 0:=by
  intro l
  induction l with
  | nil=>intro x;show x=x+0;grind
  | cons b l ih=>intro x;rw[List.foldl_cons,List.foldl_cons,ih (x+b),ih (0+b)];grind
 show(a::l).foldl (· + ·) 0=_
 rw[List.foldl_cons,h]
 show _=a+l.foldl (· + ·) 0
 grind
theorem rJ:aC []=0:=rfl
theorem ED {l l':List Rat}(h:l.Perm l'):aC l=aC l':=by
 induction h with
 | nil=>rfl
 | cons x _ ih=>rw[dZ,dZ,ih]
 | swap x y l=>simp only[dZ];grind
 | trans _ _ ih ih2=>rw[ih,ih2]
theorem nG {l:List Rat}(h:∀x∈l,0≤x):0≤aC l:=by
 induction l with
 | nil=>exact Rat.le_refl
 | cons a l ih=>
  have h1:=ih fun x hx=>h x (List.mem_cons_of_mem _ hx)
  have h2:=h a (List.mem_cons_self ..)
  rw[dZ]
  grind
theorem FG (l:List Rat):aC (l.map fun x=>-x)=-aC l:=by
 induction l with
 | nil=>simp[rJ]
 | cons a l ih=>rw[List.map_cons,dZ,dZ,ih];grind
def eD (l:List Int):Int:=l.foldr (· + ·) 0
theorem iQ (a:Int) (l:List Int):eD (a::l)=a+eD l:=rfl
theorem xW (l m:List Int):eD (l++m)=eD l+eD m:=by
 induction l with
 | nil=>simp[eD]
 | cons a l ih=>rw[List.cons_append,iQ,iQ,ih];omega
theorem Wu (l:List Int):eD (l.map fun x=>-x)=-eD l:=by
 induction l with
 | nil=>rfl
 | cons a l ih=>rw[List.map_cons,iQ,iQ,ih];omega
theorem Yn (l:List Rat):aC l=((eD (l.map fl):Int):Rat)+aC (l.map fc):=by
 induction l with
 | nil=>
  show(0:Rat)=((0:Int):Rat)+0
  have:((0:Int):Rat)=0:=rfl
  grind
 | cons a l ih=>
  rw[List.map_cons,List.map_cons,dZ,dZ,iQ,ih,Rat.intCast_add]
  unfold fc
  grind
def eO (l:List Rat):Int:=(aC l).num-eD (l.map fl)
theorem Ct {l:List Rat}(h:(aC l).den=1):((eO l:Int):Rat)=aC (l.map fc):=by
 have h1:=Yn l
 have h2:=Cs h
 unfold eO
 rw[Rat.intCast_sub,h2]
 grind
theorem iV {l:List Rat}(h:(aC l).den=1):0≤eO l:=by
 have h1:=Ct h
 have h2:=nG (l:=l.map fc) fun x hx=>by
  obtain⟨y,_,rfl⟩:=List.mem_map.1 hx
  exact qH y
 rw[←h1]at h2
 have h3:((0:Int):Rat)≤((eO l:Int):Rat):=h2
 exact Rat.intCast_le_intCast.1 h3
theorem Uk:∀{l:List Rat},l≠[]→aC (l.map fc)<(l.length:Rat)
 | [],h=>absurd rfl h
 | [a],_=>by
  have:=Eu a
  rw[List.map_cons,List.map_nil,dZ,rJ]
  show fc a+0<((1:Nat):Rat)
  have h1:((1:Nat):Rat)=1:=rfl
  rw[h1]
  grind
 | a::b::l,_=>by
  have h1:=Uk (l:=b::l) (by simp)
  have h2:=Eu a
  rw[List.map_cons,dZ,List.length_cons]
  rw[Rat.natCast_add]
  have h3:((1:Nat):Rat)=1:=rfl
  grind
theorem nI {l:List Rat}(h:(aC l).den=1):eO l≤(l.length:Int):=by
 have h1:=Ct h
 by_cases hl:l=[]
 ·subst hl
  exact Int.le_of_eq rfl
 have h2:=Uk hl
 rw[←h1]at h2
 have h3:((eO l:Int):Rat)<(((l.length:Nat):Int):Rat):=h2
 have:=Rat.intCast_lt_intCast.1 h3
 omega
def iE (lt:Nat→Nat→Bool) (x:Nat):List Nat→List Nat
 | []=>[x]
 | y::l=>if lt x y then y::iE lt x l else x::y::l
def kN (lt:Nat→Nat→Bool) (l:List Nat):List Nat:=l.foldl (fun a x=>iE lt x a) []
def iW (lt:Nat→Nat→Bool) (l:List Nat):List Nat:=(kN lt l).reverse
theorem vT (lt:Nat→Nat→Bool) (x:Nat):∀l:List Nat,(iE lt x l).Perm (x::l)
 | []=>.refl _
 | y::l=>by
  unfold iE
  split
  ·exact((vT lt x l).cons y).trans (.swap x y l)
  exact .refl _
theorem Vi (lt:Nat→Nat→Bool) (l:List Nat) (x:Nat):kN lt (l++[x])=iE lt x (kN lt l):=by simp[kN]
theorem Fu (lt:Nat→Nat→Bool) (l:List Nat):(kN lt l).Perm l:=by
 have h:∀(l a:List Nat),(l.foldl (fun a x=>iE lt x a) a).Perm (a++l):=by
  intro l
  induction l with
  | nil=>intro a;simp
  | cons x l ih=>
   intro a
   rw[List.foldl_cons]
   refine(ih _).trans (((vT lt x a).append_right l).trans ?_)
   rw[List.cons_append]
   exact List.perm_middle.symm
 exact(h l []).trans (by simp)
theorem Qg (lt:Nat→Nat→Bool) (l:List Nat):(iW lt l).Perm l:=(List.reverse_perm _).trans (Fu lt l)
def fQ (f:Nat→Rat) (i k:Nat):Bool:=decide (f k<f i)||(decide (f k=f i)&&decide (i<k))
section
variable {f:Nat→Rat}{x y z:Nat}
theorem mY:fQ f x y=true↔f y<f x∨(f y=f x∧x<y):=by simp[fQ]
theorem Jl:fQ f x y=false↔f x≤f y∧(f y=f x→y≤x):=by
 have h:fQ f x y=false↔¬fQ f x y=true:=by simp
 rw[h,mY]
 constructor
 ·intro h
  exact⟨by grind,fun e=>by rcases Nat.lt_or_ge x y with h9 | h9;exact absurd (Or.inr ⟨e,h9⟩) h;exact h9⟩
 rintro⟨h1,h2⟩ (h3 | ⟨h3,h4⟩)
 ·grind
 have:=h2 h3
 omega
theorem tP (h:fQ f x y=true):fQ f y x=false:=by
 rw[mY]at h
 rw[Jl]
 rcases h with h | ⟨h,h2⟩
 ·exact⟨by grind,fun e=>by grind⟩
 exact⟨by grind,fun _=>by omega⟩
theorem Ul (h:fQ f x y=false) (h2:fQ f y z=false):fQ f x z=false:=by
 rw[Jl]at h h2⊢
 refine⟨by grind,fun e=>?_⟩
 have h3:f y=f x:=by grind
 have h4:f z=f y:=by grind
 have:=h.2 h3
 have:=h2.2 h4
 omega
theorem EE (h:fQ f x y=false) (hn:x≠y):fQ f y x=true:=by
 rw[Jl]at h
 rw[mY]
 by_cases e:f y=f x
 ·have:=h.2 e
  exact .inr ⟨e.symm,by omega⟩
 exact .inl (by grind)
theorem JG (h:fQ f x y=true) (h2:fQ f y z=true):fQ f x z=true:=by
 cases h3:fQ f x z
 ·have h4:=Ul (tP h) h3
  rw[h2]at h4
  cases h4
 rfl
end
theorem Np (f:Nat→Rat) (x:Nat):∀l:List Nat,l.Pairwise (fun a b=>fQ f a b=false)→(iE (fQ f) x l).Pairwise (fun a b=>fQ f a b=false)
 | [],_=>List.pairwise_singleton _ _
 | y::l,h=>by
  have h1:=List.pairwise_cons.1 h
  unfold iE
  split
  ·rename_i hx
   refine List.pairwise_cons.2 ⟨fun z hz=>?_,Np f x l h1.2⟩
   rcases List.mem_cons.1 ((vT _ x l).mem_iff.1 hz)with rfl | hz
   ·exact tP hx
   exact h1.1 z hz
  rename_i hx
  have hx:fQ f x y=false:=by simpa using hx
  refine List.pairwise_cons.2 ⟨fun z hz=>?_,h⟩
  rcases List.mem_cons.1 hz with rfl | hz
  ·exact hx
  exact Ul hx (h1.1 z hz)
theorem JH (f:Nat→Rat) (l:List Nat):(kN (fQ f) l).Pairwise (fun a b=>fQ f a b=false):=by
 have h:∀(l a:List Nat),a.Pairwise (fun a b=>fQ f a b=false)→(l.foldl (fun a x=>iE (fQ f) x a) a).Pairwise (fun a b=>fQ f a b=false):=by
  intro l
  induction l with
  | nil=>intro a h;exact h
  | cons x l ih=>intro a h;exact ih _ (Np f x a h)
 exact h l [] List.Pairwise.nil
def fA (f:Nat→Rat) (n:Nat):List Nat:=iW (fQ f) (List.range n)
theorem zH {l:List Nat}{k:Nat}(h:k<l.length):l[k]? =some (nth l k):=by simp[nth,h]
section
variable {f:Nat→Rat}{n i s t:Nat}
theorem tQ:(fA f n).Perm (List.range n):=Qg _ _
theorem hF:(fA f n).length=n:=by rw[tQ.length_eq,List.length_range]
theorem Um:(fA f n).Nodup:=tQ.nodup_iff.2 List.nodup_range
theorem Nq:i∈fA f n↔i<n:=by rw[tQ.mem_iff,List.mem_range]
theorem kC (h:t<n):(fA f n)[t]? =some (nth (fA f n) t):=zH (by rw[hF];exact h)
theorem oV (h:t<n):nth (fA f n) t<n:=Nq.1 (List.mem_of_getElem? (kC h))
theorem Cu (h:s<n) (h2:t<n) (e:nth (fA f n) s=nth (fA f n) t):s=t:=by
 have h3:(fA f n)[s]? =(fA f n)[t]? :=by rw[kC h,kC h2,e]
 exact(List.getElem?_inj (by rw[hF];exact h) Um).1 h3
theorem JI:(fA f n).Pairwise (fun a b=>fQ f b a=false):=List.pairwise_reverse.2 (JH f _)
theorem Cv (h:s<t) (ht:t<n):fQ f (nth (fA f n) s) (nth (fA f n) t)=true:=by
 have h1:=(List.pairwise_iff_getElem.1 (JI (f:=f) (n:=n))) s t (by rw[hF];omega) (by rw[hF];omega) h
 have e1:(fA f n)[s]'(by rw[hF];omega)=nth (fA f n) s:=by
  have:=kC (f:=f) (n:=n) (t:=s) (by omega)
  rw[List.getElem?_eq_getElem (by rw[hF];omega)]at this
  exact Option.some.inj this
 have e2:(fA f n)[t]'(by rw[hF];omega)=nth (fA f n) t:=by
  have:=kC (f:=f) (n:=n) (t:=t) (by omega)
  rw[List.getElem?_eq_getElem (by rw[hF];omega)]at this
  exact Option.some.inj this
 rw[e1,e2]at h1
 exact EE h1 fun e=>by have:=Cu (f:=f) (n:=n) ht (by omega) e;omega
theorem Un (h:i<n):∃t,t<n∧nth (fA f n) t=i:=by
 obtain⟨t,ht⟩:=List.mem_iff_getElem?.1 (Nq.2 h:i∈fA f n)
 have h1:=(List.getElem?_eq_some_iff.1 ht).1
 rw[hF]at h1
 refine⟨t,h1,?_⟩
 rw[kC h1]at ht
 exact Option.some.inj ht
theorem lG (ht:t≤n):i∈(fA f n).take t↔∃s,s<t∧nth (fA f n) s=i:=by
 constructor
 ·intro h
  obtain⟨s,hs⟩:=List.mem_iff_getElem?.1 h
  rw[List.getElem?_take]at hs
  split at hs
  ·rename_i h2
   rw[kC (by omega)]at hs
   exact⟨s,h2,Option.some.inj hs⟩
  cases hs
 rintro⟨s,h1,rfl⟩
 refine List.mem_iff_getElem?.2 ⟨s,?_⟩
 rw[List.getElem?_take,if_pos h1,kC (by omega)]
theorem Cw (ht:t<n):nth (fA f n) t∉(fA f n).take t:=by
 rw[lG (by omega)]
 rintro⟨s,h1,h2⟩
 have:=Cu (f:=f) (n:=n) (by omega) ht h2
 omega
theorem Ks (ht:t<n):i∈(fA f n).take (t+1)↔i∈(fA f n).take t∨i=nth (fA f n) t:=by
 rw[lG (by omega),lG (by omega)]
 constructor
 ·rintro⟨s,h1,h2⟩
  rcases Nat.lt_succ_iff_lt_or_eq.1 h1 with h3 | rfl
  ·exact .inl ⟨s,h3,h2⟩
  exact .inr h2.symm
 rintro(⟨s,h1,h2⟩ | rfl)
 ·exact⟨s,by omega,h2⟩
 exact⟨t,by omega,rfl⟩
def Bst (f:Nat→Rat) (n t i:Nat) (b:Int):Prop:=(b=-1∧∀j,j<i→j∈(fA f n).take t)∨∃m:Nat,b=(m:Int)∧m<i∧m∉(fA f n).take t∧∀j,j<i→j∉(fA f n).take t→j≠m→fQ f m j=true
theorem Bst.zero:Bst f n t 0 (-1):=.inl ⟨rfl,fun j hj=>absurd hj (Nat.not_lt_zero j)⟩
variable {b:Int}
theorem Bst.given (h:Bst f n t i b) (hg:i∈(fA f n).take t):Bst f n t (i+1) b:=by
 rcases h with⟨h1,h2⟩ | ⟨m,h1,h2,h3,h4⟩
 ·refine .inl ⟨h1,fun j hj=>?_⟩
  rcases Nat.lt_succ_iff_lt_or_eq.1 hj with h9 | rfl
  ·exact h2 j h9
  exact hg
 refine .inr ⟨m,h1,by omega,h3,fun j hj hn hm=>?_⟩
 rcases Nat.lt_succ_iff_lt_or_eq.1 hj with h9 | rfl
 ·exact h4 j h9 hn hm
 exact absurd hg hn
theorem Bst.first (h:Bst f n t i b) (hg:i∉(fA f n).take t) (hb:b<0):Bst f n t (i+1) (i:Int):=by
 rcases h with⟨h1,h2⟩ | ⟨m,h1,h2,h3,h4⟩
 ·refine .inr ⟨i,rfl,by omega,hg,fun j hj hn hm=>?_⟩
  exact absurd (h2 j (by omega)) hn
 omega
theorem Bst.more {m:Nat}(h:Bst f n t i (m:Int)) (hg:i∉(fA f n).take t) (hb:f m<f i):Bst f n t (i+1) (i:Int):=by
 rcases h with⟨h1,h2⟩ | ⟨m',h1,h2,h3,h4⟩
 ·omega
 have e:m=m':=by omega
 subst e
 have h5:fQ f i m=true:=mY.2 (.inl hb)
 refine .inr ⟨i,rfl,by omega,hg,fun j hj hn hm=>?_⟩
 by_cases hj2:j=m
 ·subst hj2
  exact h5
 exact JG h5 (h4 j (by omega) hn hj2)
theorem Bst.stay {m:Nat}(h:Bst f n t i (m:Int)) (hb:¬f m<f i):Bst f n t (i+1) (m:Int):=by
 rcases h with⟨h1,h2⟩ | ⟨m',h1,h2,h3,h4⟩
 ·omega
 have e:m=m':=by omega
 subst e
 refine .inr ⟨m,rfl,by omega,h3,fun j hj hn hm=>?_⟩
 rcases Nat.lt_succ_iff_lt_or_eq.1 hj with h9 | rfl
 ·exact h4 j h9 hn hm
 refine mY.2 ?_
 by_cases e:f j=f m
 ·exact .inr ⟨e,h2⟩
 exact .inl (by grind)
theorem Bst.lt {m:Nat}(h:Bst f n t i (m:Int)):m<i:=by
 rcases h with⟨h1,h2⟩ | ⟨m',h1,h2,h3,h4⟩ <;> omega
theorem Bst.last (h:Bst f n t n b) (ht:t<n):b=(nth (fA f n) t:Int):=by
 rcases h with⟨h1,h2⟩ | ⟨m,h1,h2,h3,h4⟩
 ·exact absurd (h2 _ (oV ht)) (Cw ht)
 obtain⟨s,hs,rfl⟩:=Un (f:=f) h2
 rcases Nat.lt_trichotomy s t with h5 | rfl | h5
 ·exact absurd ((lG (by omega)).2 ⟨s,h5,rfl⟩) h3
 ·exact h1
 have h6:=h4 _ (oV ht) (Cw ht) fun e=>by have:=Cu (f:=f) (n:=n) ht hs e;omega
 have h7:=tP (Cv (f:=f) h5 hs)
 rw[h6]at h7
 cases h7
end
def aF (l:List Rat) (k:Nat):Rat:=l.getD k 0
theorem iU {l:List Rat}{k:Nat}(h:k<l.length):l[k]? =some (aF l k):=by simp[aF,h]
theorem dM {l:List Rat}{k:Nat}(h:k<l.length):aF l k∈l:=List.mem_of_getElem? (iU h)
theorem sK {l:List Rat}{g:Rat→Rat}{k:Nat}(h:k<l.length):aF (l.map g) k=g (aF l k):=by simp[aF,h]
def aV (l:List Int) (k:Nat):Int:=l.getD k 0
theorem kY {l:List Int}{k:Nat}(h:k<l.length):l[k]? =some (aV l k):=by simp[aV,h]
theorem iF {l:List Int}{k:Nat}(h:k<l.length):aV l k∈l:=List.mem_of_getElem? (kY h)
def fG (l:List Rat) (i:Nat):Rat:=fc (aF l i)
def cA (l:List Rat):List Nat:=fA (fG l) l.length
def dY (l:List Rat) (t:Nat):List Int:=(List.range l.length).map fun i=>fl (aF l i)+if i∈(cA l).take t then 1 else 0
section
variable {l:List Rat}{i k t:Nat}
theorem iL:(dY l t).length=l.length:=by simp[dY]
theorem lJ (h:i<l.length):aV (dY l t) i=fl (aF l i)+if i∈(cA l).take t then 1 else 0:=by simp[dY,aV,h]
theorem Uo (l:List Rat) (g:Rat→Int):(List.range l.length).map (fun i=>g (aF l i))=l.map g:=by
 apply List.ext_getElem?
 intro i
 by_cases h:i<l.length
 ·simp[h,aF]
 simp[h]
theorem Qh (l:List Rat) (g:Rat→Rat):(List.range l.length).map (fun i=>g (aF l i))=l.map g:=by
 apply List.ext_getElem?
 intro i
 by_cases h:i<l.length
 ·simp[h,aF]
 simp[h]
theorem yE:dY l 0=l.map fl:=by
 rw[←Uo]
 unfold dY
 refine List.map_congr_left fun i _=>?_
 rw[List.take_zero,if_neg (List.not_mem_nil)]
 omega
theorem yF (h:t<l.length):(dY l t).set (nth (cA l) t) (aV (dY l t) (nth (cA l) t)+1)=dY l (t+1):=by
 apply List.ext_getElem?
 intro i
 have hlt:nth (cA l) t<l.length:=oV (f:=fG l) h
 rw[List.getElem?_set,iL]
 by_cases hi:i<l.length
 ·rw[kY (l:=dY l (t+1)) (by rw[iL];exact hi),lJ hi]
  have h1:i∈(cA l).take (t+1)↔i∈(cA l).take t∨i=nth (cA l) t:=Ks (f:=fG l) (i:=i) h
  by_cases e:nth (cA l) t=i
  ·rw[if_pos e,if_pos (by omega)]
   subst e
   rw[lJ hlt,if_pos (h1.2 (.inr rfl)),if_neg (show nth (cA l) t∉(cA l).take t from Cw h)]
   congr 1
   omega
  rw[if_neg e,kY (by rw[iL];exact hi),lJ hi]
  by_cases h2:i∈(cA l).take t
  ·rw[if_pos h2,if_pos (h1.2 (.inl h2))]
  rw[if_neg h2,if_neg]
  intro h3
  rcases h1.1 h3 with h4 | h4
  ·exact h2 h4
  exact e h4.symm
 rw[if_neg (fun e=>by omega),List.getElem?_eq_none (by rw[iL];omega),List.getElem?_eq_none (by rw[iL];omega)]
theorem Yo {z:List Int}{i:Nat}(h:i<z.length):eD (z.set i (aV z i+1))=eD z+1:=by
 have h1:z=z.take i++aV z i::z.drop (i+1):=by
  have:=kY h
  rw[List.getElem?_eq_getElem h]at this
  have e:=Option.some.inj this
  rw[←e,List.getElem_cons_drop,List.take_append_drop]
 have h2:z.set i (aV z i+1)=z.take i++(aV z i+1)::z.drop (i+1):=by rw[List.set_eq_take_append_cons_drop,if_pos h]
 have h3:=congrArg eD h1
 rw[h2,xW,iQ]
 rw[xW,iQ]at h3
 omega
theorem Nr:∀t,t≤l.length→eD (dY l t)=eD (l.map fl)+t
 | 0,_=>by rw[yE];omega
 | t+1,h=>by
  rw[←yF (by omega),Yo (by rw[iL];exact oV (by omega)),Nr t (by omega)]
  omega
theorem EF:aC ((cA l).map (fG l))=aC (l.map fc):=by
 rw[←Qh l fc]
 exact ED (tQ.map _)
theorem JJ (l m:List Rat):aC (l++m)=aC l+aC m:=by
 induction l with
 | nil=>rw[List.nil_append,rJ];grind
 | cons a l ih=>rw[List.cons_append,dZ,dZ,ih];grind
theorem JK {l:List Rat}(h:∀x∈l,x≤1):aC l≤(l.length:Rat):=by
 induction l with
 | nil=>rw[rJ];exact Rat.le_refl
 | cons a l ih=>
  have h1:=ih fun x hx=>h x (List.mem_cons_of_mem _ hx)
  have h2:=h a (List.mem_cons_self ..)
  rw[dZ,List.length_cons,Rat.natCast_add]
  have h3:((1:Nat):Rat)=1:=rfl
  grind
theorem Ls {l:List Rat}(h:∀x∈l,x=0):aC l=0:=by
 induction l with
 | nil=>rfl
 | cons a l ih=>
  rw[dZ,ih fun x hx=>h x (List.mem_cons_of_mem _ hx),h a (List.mem_cons_self ..)]
  grind
theorem EG {L:Nat}(hL:(L:Rat)=aC (l.map fc)) (hn:L≤l.length) (h:i∈(cA l).take L):0<fG l i:=by
 obtain⟨t,h1,rfl⟩:=(lG hn).1 h
 rcases Decidable.em (0<fG l (nth (fA (fG l) l.length) t))with h2 | h2
 ·exact h2
 exfalso
 have h3:fG l (nth (fA (fG l) l.length) t)=0:=by
  have:0≤fG l (nth (fA (fG l) l.length) t):=qH _
  grind
 have h4:∀x∈((cA l).drop t).map (fG l),x=0:=by
  intro x hx
  obtain⟨j,hj,rfl⟩:=List.mem_map.1 hx
  obtain⟨s,hs⟩:=List.mem_iff_getElem?.1 hj
  rw[List.getElem?_drop]at hs
  have hlt:t+s<l.length:=by
   have:=(List.getElem?_eq_some_iff.1 hs).1
   unfold cA at this
   rw[hF]at this
   exact this
  have e:=(kC (f:=fG l) hlt).symm.trans hs
  have e:=Option.some.inj e
  subst e
  have h5:0≤fG l (nth (fA (fG l) l.length) (t+s)):=qH _
  by_cases hs0:s=0
  ·subst hs0
   exact h3
  have h6:=mY.1 (Cv (f:=fG l) (s:=t) (t:=t+s) (by omega) hlt)
  grind
 have h5:aC ((cA l).map (fG l))≤(t:Rat):=by
  conv=>lhs;rw[←List.take_append_drop t (cA l),List.map_append,JJ,Ls h4]
  have h6:=JK (l:=((cA l).take t).map (fG l)) fun x hx=>by
   obtain⟨j,_,rfl⟩:=List.mem_map.1 hx
   have:=Eu (aF l j)
   unfold fG
   grind
  have h7:(((cA l).take t).map (fG l)).length=t:=by
   unfold cA
   rw[List.length_map,List.length_take,hF]
   omega
  rw[h7]at h6
  grind
 rw[EF,←hL]at h5
 have:L≤t:=Rat.natCast_le_natCast.1 h5
 omega
theorem Yp {L:Nat}(hn:L≤l.length) (hi:i<l.length) (hk:k<l.length) (h:aF l k<aF l i):aV (dY l L) k≤aV (dY l L) i:=by
 rw[lJ hi,lJ hk]
 have h1:=EC (show aF l k≤aF l i by grind)
 by_cases e:fl (aF l k)=fl (aF l i)
 ·have h2:fG l k<fG l i:=by
   unfold fG fc
   rw[e]
   grind
  have h3:fQ (fG l) i k=true:=mY.2 (.inl h2)
  by_cases h4:k∈(cA l).take L
  ·obtain⟨s,h5,h6⟩:=(lG hn).1 h4
   obtain⟨r,h7,h8⟩:=Un (f:=fG l) hi
   have h9:i∈(cA l).take L:=by
    refine(lG hn).2 ⟨r,?_,h8⟩
    rcases Nat.lt_or_ge s r with h9 | h9
    ·have h10:=tP (Cv (f:=fG l) h9 h7)
     rw[h6,h8,h3]at h10
     cases h10
    omega
   rw[if_pos h4,if_pos h9]
   omega
  rw[if_neg h4]
  split <;> omega
 split <;> split <;> omega
end
def eB (l:List Rat):List Int:=dY l (eO l).toNat
def aU (l:List Rat):List Int:=
 if(aC l).den=1 then
  if aC l<0 then(if(l.map fun x=>-x).any (fun x=>decide (x<0))then []else(eB (l.map fun x=>-x)).map fun x=>-x)
  else if l.any (fun x=>decide (x<0))then []else eB l
 else []
section
variable {l:List Rat}{i k:Nat}
theorem oI:(eB l).length=l.length:=iL
theorem CN (h:(aC l).den=1):eD (eB l)=(aC l).num:=by
 have h1:=iV h
 have h2:=nI h
 unfold eB
 rw[Nr _ (by omega)]
 unfold eO at*
 omega
theorem JL (h:(aC l).den=1) (hi:i<l.length):aV (eB l) i=fl (aF l i)∨(aV (eB l) i=fl (aF l i)+1∧0<fc (aF l i)):=by
 have h1:=iV h
 have h2:=nI h
 unfold eB
 rw[lJ hi]
 split
 ·rename_i h3
  refine .inr ⟨rfl,EG (l:=l) ?_ (by omega) h3⟩
  rw[←Ct h]
  have e:(((eO l).toNat:Nat):Int)=eO l:=by omega
  conv=>rhs;rw[←e]
  rfl
 exact .inl (by omega)
theorem Wt (h:(aC l).den=1) (hi:i<l.length):aF l i-((aV (eB l) i:Int):Rat)<1∧-(aF l i-((aV (eB l) i:Int):Rat))<1∧(aF l i=0→aV (eB l) i=0):=by
 have h0:=qH (aF l i)
 have h1:=Eu (aF l i)
 have e1:((1:Int):Rat)=1:=rfl
 rcases JL h hi with h2 | ⟨h2,h3⟩
 ·rw[h2]
  unfold fc at h0 h1
  refine⟨h1,by grind,fun e=>?_⟩
  rw[e]
  exact uS 0
 rw[h2,Rat.intCast_add,e1]
 unfold fc at h0 h1 h3
 refine⟨by grind,by grind,fun e=>?_⟩
 rw[e]at h3
 have e2:fl 0=0:=uS 0
 rw[e2]at h3
 have e3:((0:Int):Rat)=0:=rfl
 rw[e3]at h3
 grind
theorem Wv (h:(aC l).den=1) (hi:i<l.length) (hk:k<l.length) (hlt:aF l k<aF l i):aV (eB l) k≤aV (eB l) i:=Yp (by have:=nI h;omega) hi hk hlt
end
section
variable {l l':List Nat}{i j:Nat}
end
section
variable {x:Cx}{g:Nat→FV}{ob ob':List (Option Ob)}{cs:List Co}{ts:Array Value}{W:World}{T:List (Nat×TI)}{Q:Post}{ops:Array Oper}{rest:List Oper}{d:Nat}{ty:TypeId}{pos:String}{af:Array Edge}{gd:Option (Nat×Bool)}
theorem Oj {late:Nat→Bool}{K fr:List Nat}{fuel:Nat}{listed:Array Bool}{t ky o t' z':Nat}{ti:TI}{a:Operand}{l:List AV}{v:AV}(i:Nat) (hx:l[o]? =some v) (k:WD x ops Q late K (d::fr) true fuel (listed.setIfInBounds i true) (bG g d (.one v)) ob) (hT:cE x.P ttab:=by exact aA) (hi:ops[i]? =some ⟨some d,.load t a,ty,pos,af,gd⟩:=by rfl) (hw:bH ops x.n g gd=some true:=by rfl) (hti:bV ttab t=some ti:=by rfl) (hlk:lk x.n g a=.one (.pt ky o):=by rfl) (ho:bZ ob ky=some ⟨t',z',l⟩:=by rfl) (ha:ti.agg=false:=by rfl) (hr:nX v=true:=by rfl):WO x ops Q late K fr true fuel listed i g ob:=
 If (v:=.one v) i hi rfl hw (Pc hT hti (by rw[hlk];exact Ii ho hx ha hr)) (by rintro _ _ ⟨rfl,rfl⟩;exact⟨rfl,fun _ _=>rfl⟩) (by rintro _ _ ⟨rfl,rfl⟩;exact k)
end
theorem lL {fresh:Bool}{x:Cx}{T:List (Nat×TI)}{rv:List ResultVar}{e:Exit}{g:Nat→FV}{ob:List (Option Ob)}{b b':Bool}(he:e=.ret∨e=.normal) (res:qQ T x.n g ob rv=some [.one (tv (.bool b))]) (hb:b=b'):tE x T rv fresh [] (aO (.one (tv (.bool b')))) e g ob:=en he res (aW (cF _)) (by decide) (fun _=>trivial) (by rw[hb];rfl)
theorem KW {f:Nat→Bool}{k:Nat}{b:Bool}(h:∀j,j<k→f j=b) (h2:f k=b):∀j,j<k+1→f j=b:=fun j hj=>by
 rcases Nat.lt_succ_iff_lt_or_eq.1 hj with h9 | h9
 ·exact h j h9
 rw[h9];exact h2
theorem f0 {f:Nat→Bool}{b:Bool}:∀j,j<0→f j=b:=fun j hj=>absurd hj (Nat.not_lt_zero j)
theorem Zj {k:IntKind}{a b:Int}(h:a=b):some (FV.one (tv (.int k a)))=some (FV.one (tv (.int k b))):=by rw[h]
section
variable {x:Cx}{g g':Nat→FV}{ob ob':List (Option Ob)}{cs cs':List Co}{ts ts':Array Value}{W W' W1:World}{Q:Post}{ops:Array Oper}{late:Nat→Bool}{K fr fr':List Nat}{on:Bool}{fuel:Nat}{listed listed':Array Bool}
end
section
variable {x:Cx}{g:Nat→FV}{ob ob':List (Option Ob)}{Q:Post}{ops:Array Oper}{rest:List Oper}{d:Nat}{op:Op}{ty:TypeId}{pos:String}{af:Array Edge}{gd:Option (Nat×Bool)}{C:Prop}{v:FV}{T:List (Nat×TI)}
theorem OV {fresh:Bool}{f:FuncId}{lent lent':List Lt}{al:List FV}{fst caps:List Tr}{r:FV}{os:List Ob}{cf:Operand}{aa:Array Operand}{ats:Array TypeId}(key:Nat) (K:List Nat) (args:List FV) (hc:lk x.n g cf=.one (.t (.f f fst caps))) (hS:aD fresh x.P f lent al (Rt lent' r)) (hf:CallOk x.P f) (hK:fW ob K K lent) (ha:pI x.n g K aa.toList args){ok:List (Option Ob)}(hbk:eV K lent' ok) (k:WL x ops rest (bG g d v) (bU ob K ok++os.map some) Q) (hw:bH ops x.n g gd=some true:=by rfl) (hk:dU ob key=true:=by rfl) (hnd:K.Nodup:=by decide) (hb:lO key r=some (v,os):=by rfl) (he:dI fst++args++dI caps=al:=by rfl):
  WL x ops (⟨some d,.call ⟨.value cf,aa,ats⟩,ty,pos,af,gd⟩::rest) g ob Q:=by
 subst he
 refine gX (tK hS hf (Pq hc) hK hnd ha hk (by rintro _ _ ⟨rfl,rfl⟩ _;exact⟨by rw[hb];rfl,ok,hbk⟩)) hw ?_
 rintro _ _ ⟨l,r',v',os',ok',⟨rfl,rfl⟩,_,h,h9,rfl,rfl⟩
 obtain rfl:=vK hbk h9
 rw[hb]at h
 injection h with h
 injection h with h1 h2
 subst h1 h2
 exact k
theorem KF {late:Nat→Bool}{K fr:List Nat}{fuel:Nat}{listed:Array Bool}{t key o:Nat}{ti:TI}{a b:Operand}(i:Nat) (hi:ops[i]? =some ⟨none,.store t a b,ty,pos,af,gd⟩) (hw:bH ops x.n g gd=some true) (hT:cE x.P T) (hti:bV T t=some ti) (h:vA ti ob (lk x.n g b) (lk x.n g a)=some ob') (hlk:lk x.n g a=.one (.pt key o)) (hK:K.contains key=false) (hke:oD ob ob' K)
  (k:WD x ops Q late K fr true fuel (listed.setIfInBounds i true) g ob'):WO x ops Q late K fr true fuel listed i g ob:=by
 obtain⟨ky,hs,o2,hlk2⟩:=Eo (ty:=ty) (pos:=pos) (af:=af) (gd:=gd) hT hti h
 rw[hlk]at hlk2
 injection hlk2 with e
 injection e with e1 e2
 subst e1
 refine Zu i hi hw hs true (fun _=>⟨rfl,fun k hk hm=>?_⟩) (fun _=>rfl) (fun _ g' ob' hR=>?_) fun g' ob' hR=>?_
 ·rw[List.mem_singleton]at hm
  subst hm
  have:K.contains k=true:=by simpa using hk
  rw[hK]at this
  cases this
 ·obtain⟨rfl,rfl⟩:=hR
  exact⟨fun _ _=>rfl,iP hke⟩
 obtain⟨rfl,rfl⟩:=hR
 exact k
end
theorem Ns {n:Nat}(h:0<n):1≤(dg 4294967296 n).length:=by rw[tY (by omega) (by omega)];simp
theorem Ed {L:Nat}{k:Int}(h:jH L k):jH L (-k):=by unfold jH at*;rwa[Int.natAbs_neg]
theorem yA (p:Rat):(dg 4294967296 (p.num.fmod (p.den:Int)).natAbs).length≤(dg 4294967296 p.den).length:=by
 refine gL ?_
 have h1:=Int.fmod_nonneg_of_pos p.num (show(0:Int)<p.den by have:=p.den_pos;omega)
 have h2:=Int.fmod_lt_of_pos p.num (show(0:Int)<p.den by have:=p.den_pos;omega)
 omega
theorem nF (p:Rat):(dg 4294967296 (fl p).natAbs).length≤(dg 4294967296 p.num.natAbs).length:=by
 refine gL ?_
 rw[←rB,Int.fdiv_eq_ediv_of_nonneg _ (by omega)]
 exact Int.natAbs_ediv_le_natAbs _ _
theorem GL {L M:Nat}{p q:Rat}(hp:Sz L p) (hq:Sz M q):Sz (L+M+1) (p/q):=by
 rw[←Of p q]
 have hd:(0:Int)<p.den:=by have:=p.den_pos;omega
 have hd2:(0:Int)<q.den:=by have:=q.den_pos;omega
 by_cases h0:q.num=0
 ·rw[h0,Int.mul_zero,Rat.divInt_zero]
  exact(kL (z:=0) (by omega) (by omega)).mono (by
   have:=Ns q.den_pos
   have:=hq.2
   have:=Ns p.den_pos
   have:=hp.2
   omega)
 by_cases h1:0<q.num
 ·have h5:=jQ (Int.mul_pos hd h1) (kB hp.1 (mF hq)) (kB (mF hp) hq.1)
  exact⟨Nat.le_trans h5.1 (by omega),Nat.le_trans h5.2 (by omega)⟩
 have e:Rat.divInt (p.num*(q.den:Int)) ((p.den:Int)*q.num)=Rat.divInt (-(p.num*(q.den:Int))) (-((p.den:Int)*q.num)):=(Rat.neg_divInt_neg _ _).symm
 rw[e]
 have h6:0< -((p.den:Int)*q.num):=by
  have:=Int.mul_pos hd (show 0< -q.num by omega)
  rw[Int.mul_neg]at this
  exact this
 have h5:=jQ h6 (Ed (kB hp.1 (mF hq))) (Ed (kB (mF hp) hq.1))
 exact⟨Nat.le_trans h5.1 (by omega),Nat.le_trans h5.2 (by omega)⟩
theorem sR {L:Nat}{p:Rat}(h:Sz L p):Sz (L+1) (fc p):=by
 rw[←Ra]
 have h5:=jQ (L:=L) (M:=L) (show(0:Int)<p.den by have:=p.den_pos;omega) (show jH L (p.num.fmod (p.den:Int)) from Nat.le_trans (yA p) h.2) (mF h)
 exact⟨Nat.le_trans h5.1 (by omega),Nat.le_trans h5.2 (by omega)⟩
theorem Fp {p q:Rat}:((p.den:Int)*q.num=0)↔q=0:=by
 have h1:=p.den_pos
 constructor
 ·intro h
  rcases Int.mul_eq_zero.1 h with h2 | h2
  ·omega
  exact Rat.num_eq_zero.1 h2
 rintro rfl
 simp
def dS (l:List Rat):List Fr4:=l.map Fr4.of
theorem sP (l:List Rat):(dS l).map Fr4.q=l:=by
 unfold dS
 rw[List.map_map]
 exact(List.map_congr_left fun x _=>Fr4.q_of x).trans (List.map_id l)
theorem gZ (l:List Rat):(dS l).length=l.length:=by simp[dS]
theorem BN {l:List Rat}{k:Nat}(h:k<l.length):aN (dS l) k=Fr4.of (aF l k):=by simp[aN,dS,aF,h]
def fd (n v:Nat):List Nat:=(List.range n).map fun i=>v/10^i%10
section
variable {xs:List Nat}
end
theorem Up {xs:List Nat}(hx:xs.length≤4398046511104):aD false Tryz.prog 128 [] [.one (.t (sI false xs))] (aO (.one (.t (sI false (trim xs))))):=by
 refine bP Tryz.func128 rfl Tryz.ntmps128 rfl aA rfl fun N w c0 h0=>?_
 refine sq ?_;refine rl ?_;refine o1 ?_;refine nl ?_;refine sq ?_;refine bl ?_
 refine lp (γ:=List Nat) (fun zs=>cG [(0,.one (.t (sI false zs)))]) (fun _=>([]:List Ob).map some) (fun zs=>trim zs=trim xs∧zs.length≤xs.length) (fun zs=>zs.length) xs ⟨rfl,Nat.le_refl _⟩ (aH h0 [] _ _ (by decide) ⟨rfl,trivial⟩ rfl) fun zs hz=>?_
 refine sq ?_;refine sq ?_;refine rl ?_;(iterate 4 refine o1 ?_);refine WL.split (t:=6) rfl (fun h1=>?_) (fun h1=>?_)
 ·(iterate 4 refine o1 ?_);refine WL.cast (t:=10) (u':=.int .i64 ((zs.length-1:Nat):Int)) rfl (aJ (by omega)) ?_
  refine o1 ?_;refine fB ([.v (.int .i64 ((nth zs (zs.length-1):Nat):Int))]) (eX zs (k:=zs.length-1) (by omega)) ?_
  refine o1 ?_;refine o1 ?_;refine nl ?_;refine bO rfl (fun h2=>?_) (fun h2=>?_)
  ·refine sk ?_;refine bl ?_;refine rl ?_;(iterate 4 refine o1 ?_);refine WL.cast (t:=18) (u':=.int .i64 ((zs.length-1:Nat):Int)) rfl (aJ (by omega)) ?_
   refine o1 ?_;refine o1 ?_;refine nl ?_
   exact⟨zs.take (zs.length-1),by rw[List.length_take];omega,⟨(by rw[tZ (xs:=zs) (k:=zs.length) (by omega) (Nat.le_refl _) (by omega),List.take_length];exact hz.1),by rw[List.length_take];omega⟩,aH h0 [] _ _ (by decide) ⟨congrArg some (Ty (by omega)).symm,trivial⟩ rfl⟩
  refine ex ?_;refine sq ?_;refine rl ?_;refine o1 ?_;refine o1 ?_;refine nl ?_;refine rt ?_;refine en (.inl rfl) rfl (aW (.one (.id rfl))) (by decide) (fun h=>by cases h) ?_
  have hx:trim xs=zs:=by
   rw[←hz.1];have h9:=pP (xs:=zs) (k:=zs.length) (by omega) (Nat.le_refl _) (by omega)
   rwa[List.take_length]at h9
  rw[hx];rfl
 (iterate 7 refine eC ?_);refine o1 ?_;refine nl ?_;refine eZ rfl ?_;refine ex ?_;refine sq ?_;refine rl ?_;refine o1 ?_;refine o1 ?_;refine nl ?_;refine rt ?_
 refine en (.inl rfl) rfl (aW (.one (.id rfl))) (by decide) (fun h=>by cases h) ?_
 have hx:trim xs=zs:=by
  have h9:zs=[]:=List.eq_nil_of_length_eq_zero (by omega)
  rw[←hz.1,h9];rfl
 rw[hx];rfl
theorem jT {xs:List Nat}(hx:xs.length≤1099511627776) (hl:Lim 4294967296 xs):aD false Tryz.prog 106 [] [.one (.t (sU false xs))] (aO (.one (.t (sI false (dg 65536 (vl 4294967296 xs)))))):=by
 refine bP Tryz.func106 rfl Tryz.ntmps106 rfl aA rfl fun N w c0 h0=>?_
 refine sq ?_;refine rl ?_;refine o1 ?_;refine nl ?_;refine sq ?_;refine rl ?_;refine o1 ?_;refine nl ?_;refine sq ?_;refine sq ?_;refine rl ?_;refine o1 ?_;refine nl ?_;refine bl ?_
 refine lp (γ:=Nat) (fun k=>cG [(0,.one (.t (sU false xs))),(3,.one (.sl 0 0 (2*k))),(4,.one (tv (.int .i64 ((k:Nat):Int))))]) (fun k=>[(⟨3,1,(cK (hv (xs.take k))).map .t⟩:Ob)].map some) (fun k=>k≤xs.length) (fun k=>xs.length-k) 0 (Nat.zero_le _) ((nr (i:=3) 0 3 1 rfl rfl rfl rfl).trans (aH h0 [0] _ _ (by decide) ⟨rfl,rfl,rfl,trivial⟩ ⟨bI (l:=[]) rfl,rfl⟩)) fun k hk=>?_
 have hn:=hl.nth (by omega) k
 refine sq ?_;refine sq ?_;refine rl ?_;(iterate 4 refine o1 ?_);refine nl ?_;refine bO rfl (fun h1=>?_) (fun h1=>?_)
 ·refine sk ?_;refine sq ?_;refine bl ?_;refine rd [] (fun i=>[15].contains i) mixed ?_
  refine dv 0 ?_;refine dv 1 ?_;refine dv 2 ?_;refine dv 3 ?_;refine eF 4 ([.v (.int .u32 ((nth xs (k):Nat):Int))]) (kQ xs (k:=k) (by omega)) ?_
  refine dv 5 ?_;refine WD.cast (t:=16) (u':=.int .u32 ((nth xs k%65536:Nat):Int)) rfl (aJ (fZ _ 65536)) ?_;refine dv 6 ?_;refine dv 7 ?_;refine dv 8 ?_;refine dv 9 ?_
  refine eF 10 ([.v (.int .u32 ((nth xs (k):Nat):Int))]) (kQ xs (k:=k) (by omega)) ?_
  refine dv 11 ?_ (hC:=(fV 65536 (by omega) (by simp only[gE];omega)))
  refine WD.cast (t:=22) (u':=.int .u32 ((nth xs k/65536:Nat):Int)) rfl (aJ (eN _ 65536)) ?_;refine dv 12 ?_;refine sO (key:=1) 13 (by kernel_rfl) rfl rfl aA rfl trivial ?_
  refine Zy (j:=2) 14 rfl aA rfl rfl rfl (.sl rfl (by rw[List.length_map,gB,pN,List.length_take];omega)) (.sl rfl rfl rfl) rfl rfl (by omega) (by omega) rfl rfl (by kernel_rfl) rfl ?_
  refine dH 15 (by kernel_rfl) rfl rfl aA rfl (by trivial) ?_ (fun h=>by first | rfl | cases h)
  refine aR ?_;refine rl ?_;(iterate 3 refine o1 ?_);refine nl ?_
  exact⟨k+1,by omega,by omega,aH h0 [2] _ _ (by decide) ⟨rfl,rfl,rfl,trivial⟩ ⟨lM rfl (gC _ [nth xs k%65536,nth xs k/65536]) (Nd (by omega)).symm,rfl⟩⟩
 refine ex ?_;refine sq ?_;refine rl ?_;refine WL.sub (xL (i:=3) (zs':=hv xs) rfl rfl rfl (by rw[pN,List.length_take];omega) (by rw[List.take_of_length_le (by omega)])) ?_
 refine o1 ?_;refine ca (Up (by rw[pN];omega)) AE ⟨a1 rfl,rfl⟩ (.one (.t (sI false (trim (hv xs))))) ?_
 refine o1 ?_;refine nl ?_;refine rt ?_;exact en (.inl rfl) rfl (aW (.one (.id rfl))) (by decide) (fun h=>by cases h) (by rw[AP hl];rfl)
theorem yV {xs:List Nat}(hx:xs.length≤4398046511104) (hl:Lim 65536 xs):aD true Tryz.prog 127 [] [.one (.t (sI false xs))] (aO (.one (.t (sU true (dg 4294967296 (vl 65536 xs)))))):=by
 refine bP Tryz.func127 rfl Tryz.ntmps127 rfl aA rfl fun N w c0 h0=>?_
 refine sq ?_;refine rl ?_;refine o1 ?_;refine nl ?_;refine sq ?_;refine rl ?_;refine o1 ?_;refine nl ?_;refine sq ?_;refine rl ?_;refine o1 ?_
 refine ca (Up hx) AE ⟨a1 rfl,rfl⟩ (.one (.t (sI false (trim xs)))) ?_;refine o1 ?_;refine nl ?_;refine sq ?_;refine sq ?_;have htl:=cN xs
 have hlt:=hl.trim
 generalize hY:trim xs=ys at htl hlt;refine rl ?_;refine o1 ?_;refine nl ?_;refine bl ?_
 refine lp (γ:=Nat) (fun k=>cG [(0,.one (.t (sI false ys))),(3,.one (.sl 0 0 k)),(4,.one (tv (.int .i64 ((2*k:Nat):Int))))]) (fun k=>[(⟨51,1,(aP (lb (ys.take (2*k)))).map .t⟩:Ob)].map some) (fun k=>2*k≤ys.length+1) (fun k=>ys.length+1-2*k) 0 (Nat.zero_le _) ((nr (i:=3) 0 51 1 rfl rfl rfl rfl).trans (aH h0 [0] _ _ (by decide) ⟨rfl,rfl,rfl,trivial⟩ ⟨bI (l:=[]) rfl,rfl⟩)) fun k hk=>?_
 have hn:=hlt.nth (by omega) (2*k)
 have hn2:=hlt.nth (by omega) (2*k+1)
 refine sq ?_;refine sq ?_;refine rl ?_;(iterate 4 refine o1 ?_);refine nl ?_;refine bO rfl (fun h1=>?_) (fun h1=>?_)
 ·refine sk ?_;refine sq ?_;refine bl ?_;refine sq ?_;refine rl ?_;refine o1 ?_;refine nl ?_;refine sq ?_;refine sq ?_;refine rl ?_;refine o1 ?_;refine o1 ?_
  refine WL.cast (t:=15) (u':=.int .i64 ((2*k+1:Nat):Int)) rfl (aJ (by omega)) ?_
  (iterate 3 refine o1 ?_);refine nl ?_;refine bO rfl (fun h2=>?_) (fun h2=>?_)
  ·refine rl ?_;(iterate 3 refine o1 ?_);refine WL.cast (t:=21) (u':=.int .i64 ((2*k+1:Nat):Int)) rfl (aJ (by omega)) ?_
   refine o1 ?_;refine fB ([.v (.int .i64 ((nth ys (2*k+1):Nat):Int))]) (eX ys (k:=2*k+1) (by omega)) ?_
   refine o1 ?_;refine nl ?_;refine rl ?_;(iterate 4 refine o1 ?_);refine fB ([.v (.int .i64 ((nth ys (2*k):Nat):Int))]) (eX ys (k:=2*k) (by omega)) ?_
   (iterate 5 refine o1 ?_);refine WL.cast (t:=33) (u':=.int .u32 ((nth ys (2*k)+65536*nth ys (2*k+1):Nat):Int)) rfl (aJ (by omega)) ?_
   refine bs 1 ?_;refine dV (j:=2) aA rfl rfl rfl rfl (.sl rfl (by rw[List.length_map,gS,iC,List.length_take];omega)) (.sl rfl rfl rfl) rfl rfl rfl (by omega) (by omega) ?_
   refine o1 ?_;refine nl ?_;refine rl ?_;(iterate 3 refine o1 ?_);refine nl ?_
   exact⟨k+1,by omega,by omega,aH h0 [2] _ _ (by decide) ⟨rfl,rfl,rfl,trivial⟩ ⟨Tz rfl (Jc _ [nth ys (2*k)+65536*nth ys (2*k+1)]) (xB (by omega)).symm,rfl⟩⟩
  have hz:=dX (l:=ys) (k:=2*k+1) (by omega)
  refine sk ?_;refine rl ?_;(iterate 4 refine o1 ?_);refine fB ([.v (.int .i64 ((nth ys (2*k):Nat):Int))]) (eX ys (k:=2*k) (by omega)) ?_
  (iterate 5 refine o1 ?_);refine WL.cast (t:=33) (u':=.int .u32 ((nth ys (2*k)+65536*nth ys (2*k+1):Nat):Int)) rfl (aJ (by omega)) ?_
  refine bs 1 ?_;refine dV (j:=2) aA rfl rfl rfl rfl (.sl rfl (by rw[List.length_map,gS,iC,List.length_take];omega)) (.sl rfl rfl rfl) rfl rfl rfl (by omega) (by omega) ?_
  refine o1 ?_;refine nl ?_;refine rl ?_;(iterate 3 refine o1 ?_);refine nl ?_
  exact⟨k+1,by omega,by omega,aH h0 [2] _ _ (by decide) ⟨rfl,rfl,rfl,trivial⟩ ⟨Tz rfl (Jc _ [nth ys (2*k)+65536*nth ys (2*k+1)]) (xB (by omega)).symm,rfl⟩⟩
 refine ex ?_;refine sq ?_;refine rl ?_;refine o1 ?_;refine o1 ?_;refine nl ?_;refine rt ?_
 exact en (.inl rfl) rfl (aW (.one (.sl (trs:=aP (lb ys)) rfl rfl (by rw[List.take_of_length_le (l:=ys) (by omega),List.take_of_length_le (by simp[gS,iC];omega)]) (by rw[gS,iC];omega)))) (by decide) (fun _=>.inl ⟨rfl,fC _⟩) (by rw[←xA,eJ (by omega) hl,hY];unfold sU;rw[show k=(lb ys).length by rw[iC];omega];rfl)
theorem oG {xs:List Nat}{k:Nat}:aD true Tryz.prog 107 [] [.one (.t (sI false xs)),.one (tv (.int .i64 ((k:Nat):Int)))] (aO (.one (tv (.int .i64 ((nth xs k:Nat):Int))))):=by
 refine bP Tryz.func107 rfl Tryz.ntmps107 rfl aA rfl fun N w c0 h0=>?_
 refine sq ?_;refine rl ?_;refine o1 ?_;refine nl ?_;refine sq ?_;refine sq ?_;refine rl ?_;(iterate 4 refine o1 ?_);refine nl ?_;refine bO rfl (fun h1=>?_) (fun h1=>?_)
 ·refine sq ?_;refine rl ?_;(iterate 3 refine o1 ?_);refine fB ([.v (.int .i64 ((nth xs (k):Nat):Int))]) (eX xs (k:=k) (by omega)) ?_
  refine o1 ?_;refine nl ?_;refine rt ?_;refine en (.inl rfl) rfl (aW (cF _)) (by decide) (fun _=>trivial) ?_
  rfl
 refine sk ?_;refine sq ?_;refine rl ?_;refine o1 ?_;refine nl ?_;refine rt ?_;refine en (.inl rfl) rfl (aW (cF _)) (by decide) (fun _=>trivial) ?_
 rw[dX (by omega)];rfl
theorem EH {xs:List Nat}(hx:xs.length≤1099511627776) (hlx:Lim 4294967296 xs):aD true Tryz.prog 112 [] [.one (.t (sU false xs))] (aO (.one (.t (sU true (dg 4294967296 (vl 4294967296 xs)))))):=by
 refine bP Tryz.func112 rfl Tryz.ntmps112 rfl aA rfl fun N w c0 h0=>?_
 have hd:=dT (v:=vl 4294967296 xs) (L:=xs.length) (by rw[eJ (by omega) hlx];exact cN _)
 have hl9:=aL (B:=65536) (by omega) (vl 4294967296 xs)
 refine sq ?_;refine rl ?_;refine o1 ?_;refine nl ?_;refine sq ?_;refine rl ?_;refine o1 ?_
 refine ca (jT hx hlx) tH ⟨a1 rfl,rfl⟩ (.one (.t (sI false (dg 65536 (vl 4294967296 xs))))) ?_;refine fS 0 (yV (by omega) (by assumption)) Pn ⟨a1 rfl,rfl⟩ ?_
 refine o1 ?_;refine nl ?_;refine rt ?_
 exact en (.inl rfl) rfl (aW (.one (.sl (trs:=aP (dg 4294967296 (vl 65536 (dg 65536 (vl 4294967296 xs))))) rfl rfl (bE _) (bB _)))) (by decide) (fun _=>.inl ⟨rfl,fC _⟩) (by rw[cC (by omega)];rfl)
theorem Jm {xs ys:List Nat}(hx:xs.length≤1099511627776) (hlx:Lim 4294967296 xs) (hy:ys.length≤1099511627776) (hly:Lim 4294967296 ys):aD true Tryz.prog 65 [] [.one (.t (sU false xs)),.one (.t (sU false ys))] (aO (.one (tv (.int .i64 (((vl 4294967296 xs:Nat):Int)-((vl 4294967296 ys:Nat):Int)).sign)))):=by
 refine bP Tryz.func65 rfl Tryz.ntmps65 rfl aA rfl fun N w c0 h0=>?_
 refine sq ?_;refine rl ?_;refine o1 ?_;refine nl ?_;refine sq ?_;refine rl ?_;refine o1 ?_
 refine ca (jT hx hlx) tH ⟨a1 rfl,rfl⟩ (.one (.t (sI false (dg 65536 (vl 4294967296 xs))))) ?_;refine o1 ?_
 refine ca (jT hy hly) tH ⟨a1 rfl,rfl⟩ (.one (.t (sI false (dg 65536 (vl 4294967296 ys))))) ?_;refine o1 ?_;refine o1 ?_;refine nl ?_;refine sq ?_;refine sq ?_
 have hdx:=dT (v:=vl 4294967296 xs) (L:=xs.length) (by rw[eJ (by omega) hlx];exact cN _)
 have hdy:=dT (v:=vl 4294967296 ys) (L:=ys.length) (by rw[eJ (by omega) hly];exact cN _)
 have hX:=aL (B:=65536) (by omega) (vl 4294967296 xs)
 have hY:=aL (B:=65536) (by omega) (vl 4294967296 ys)
 have hvX:=cC (B:=65536) (by omega) (vl 4294967296 xs)
 have hvY:=cC (B:=65536) (by omega) (vl 4294967296 ys)
 generalize dg 65536 (vl 4294967296 xs)=X at hdx hX hvX⊢;generalize dg 65536 (vl 4294967296 ys)=Y at hdy hY hvY⊢;refine rl ?_;(iterate 5 refine o1 ?_)
 refine WL.cast (t:=16) (u':=.int .i64 ((max X.length Y.length:Nat):Int)) rfl (aJ (by omega)) ?_
 refine o1 ?_;refine o1 ?_;refine nl ?_;refine bl ?_
 refine lp (γ:=Nat) (fun k=>cG [(5,.one (.t (sI false X))),(6,.one (.t (sI false Y))),(7,.one (tv (.int .i64 ((k:Nat)-1))))]) (fun k=>([]:List Ob).map some) (fun k=>(∀j,k≤j→nth X j=nth Y j)∧k≤max X.length Y.length) (fun k=>k) (max X.length Y.length) ⟨fun j hj=>by rw[dX (by omega),dX (by omega)],Nat.le_refl _⟩ (aH h0 [] _ _ (by decide) ⟨rfl,rfl,rfl,trivial⟩ rfl) fun k hk=>?_
 refine sq ?_;refine sq ?_;refine rl ?_;refine o1 ?_;refine o1 ?_;refine nl ?_;refine bO rfl (fun h1=>?_) (fun h1=>?_)
 ·refine sk ?_;refine sq ?_;refine bl ?_;refine sq ?_;refine sq ?_;refine rl ?_;refine o1 ?_;refine o1 ?_
  refine WL.cast (t:=23) (u':=.int .i64 ((k-1:Nat):Int)) rfl (aJ (by omega)) ?_
  refine ca (oG) oE ⟨a1 rfl,a1 rfl,rfl⟩ (.one (tv (.int .i64 ((nth X (k-1):Nat):Int)))) ?_;refine o1 ?_;refine o1 ?_
  refine WL.cast (t:=26) (u':=.int .i64 ((k-1:Nat):Int)) rfl (aJ (by omega)) ?_
  refine ca (oG) oE ⟨a1 rfl,a1 rfl,rfl⟩ (.one (tv (.int .i64 ((nth Y (k-1):Nat):Int)))) ?_;refine o1 ?_;refine nl ?_;refine bO rfl (fun h2=>?_) (fun h2=>?_)
  ·refine sq ?_;refine rl ?_;refine o1 ?_;refine nl ?_;refine rt ?_;refine en (.inl rfl) rfl (aW (cF _)) (by decide) (fun _=>trivial) (congrArg (fun z=>FV.one (tv (.int .i64 z))) ?_)
   have he:=Er (X:=X) (Y:=Y) (k:=k-1) hX (fun j hj=>hk.1 j (by omega)) (by omega)
   rw[hvX,hvY]at he;rw[Int.sign_eq_neg_one_of_neg (by omega)]
  refine sk ?_;refine sq ?_;refine rl ?_;refine o1 ?_;refine o1 ?_;refine WL.cast (t:=30) (u':=.int .i64 ((k-1:Nat):Int)) rfl (aJ (by omega)) ?_
  refine ca (oG) oE ⟨a1 rfl,a1 rfl,rfl⟩ (.one (tv (.int .i64 ((nth X (k-1):Nat):Int)))) ?_;refine o1 ?_;refine o1 ?_
  refine WL.cast (t:=33) (u':=.int .i64 ((k-1:Nat):Int)) rfl (aJ (by omega)) ?_
  refine ca (oG) oE ⟨a1 rfl,a1 rfl,rfl⟩ (.one (tv (.int .i64 ((nth Y (k-1):Nat):Int)))) ?_;refine o1 ?_;refine nl ?_;refine bO rfl (fun h3=>?_) (fun h3=>?_)
  ·refine sq ?_;refine rl ?_;refine o1 ?_;refine nl ?_;refine rt ?_;refine en (.inl rfl) rfl (aW (cF _)) (by decide) (fun _=>trivial) (congrArg (fun z=>FV.one (tv (.int .i64 z))) ?_)
   have he:=Er (X:=Y) (Y:=X) (k:=k-1) hY (fun j hj=>(hk.1 j (by omega)).symm) (by omega)
   rw[hvX,hvY]at he;rw[Int.sign_eq_one_of_pos (by omega)]
  refine sk ?_;refine rl ?_;(iterate 3 refine o1 ?_);refine nl ?_
  exact⟨k-1,by omega,⟨fun j hj=>(Nat.eq_or_lt_of_le hj).elim (fun h9=>by rw[←h9];omega) (fun h9=>hk.1 j (by omega)),by omega⟩,aH h0 [] _ _ (by decide) ⟨rfl,rfl,congrArg (fun z=>some (FV.one (tv (.int .i64 z)))) (by omega),trivial⟩ rfl⟩
 refine ex ?_;refine sq ?_;refine rl ?_;refine o1 ?_;refine nl ?_;refine rt ?_
 refine en (.inl rfl) rfl (aW (cF _)) (by decide) (fun _=>trivial) (congrArg (fun z=>FV.one (tv (.int .i64 z))) ?_)
 have he:=Tw (fun j=>hk.1 j (by omega))
 rw[hvX,hvY]at he;rw[he,Int.sub_self];rfl
theorem JM {xs ys:List Nat}(hx:xs.length≤1099511627776) (hlx:Lim 4294967296 xs) (hy:ys.length≤1099511627776) (hly:Lim 4294967296 ys):aD true Tryz.prog 103 [] [.one (.t (sU false xs)),.one (.t (sU false ys))] (aO (.one (.t (sU true (dg 4294967296 (vl 4294967296 xs+vl 4294967296 ys)))))):=by
 refine bP Tryz.func103 rfl Tryz.ntmps103 rfl aA rfl fun N w c0 h0=>?_
 refine sq ?_;refine rl ?_;refine o1 ?_;refine nl ?_;refine sq ?_;refine rl ?_;refine o1 ?_
 refine ca (jT hx hlx) tH ⟨a1 rfl,rfl⟩ (.one (.t (sI false (dg 65536 (vl 4294967296 xs))))) ?_;refine o1 ?_
 refine ca (jT hy hly) tH ⟨a1 rfl,rfl⟩ (.one (.t (sI false (dg 65536 (vl 4294967296 ys))))) ?_;refine o1 ?_;refine o1 ?_;refine nl ?_;refine sq ?_
 have hdx:=dT (v:=vl 4294967296 xs) (L:=xs.length) (by rw[eJ (by omega) hlx];exact cN _)
 have hdy:=dT (v:=vl 4294967296 ys) (L:=ys.length) (by rw[eJ (by omega) hly];exact cN _)
 have hX:=aL (B:=65536) (by omega) (vl 4294967296 xs)
 have hY:=aL (B:=65536) (by omega) (vl 4294967296 ys)
 have hvX:=cC (B:=65536) (by omega) (vl 4294967296 xs)
 have hvY:=cC (B:=65536) (by omega) (vl 4294967296 ys)
 generalize dg 65536 (vl 4294967296 xs)=X at hdx hX hvX⊢;generalize dg 65536 (vl 4294967296 ys)=Y at hdy hY hvY⊢;refine rl ?_;refine o1 ?_;refine nl ?_;refine sq ?_;refine rl ?_
 refine o1 ?_;refine nl ?_;refine sq ?_;refine sq ?_;refine rl ?_;refine o1 ?_;refine nl ?_;refine bl ?_
 refine lp (γ:=Nat×Nat×List Nat) (fun s=>cG [(5,.one (.t (sI false X))),(6,.one (.t (sI false Y))),(7,.one (.sl 0 0 s.1)),(8,.one (tv (.int .i64 ((s.2.1:Nat):Int)))),(9,.one (tv (.int .i64 ((s.1:Nat):Int))))]) (fun s=>[(⟨3,1,(cK s.2.2).map .t⟩:Ob)].map some) (fun s=>s.2.2.length=s.1∧Lim 65536 s.2.2∧vl 65536 s.2.2+65536^s.1*s.2.1=vl 65536 (X.take s.1)+vl 65536 (Y.take s.1)∧s.2.1≤1∧(s.1≤max X.length Y.length∨s.1=max X.length Y.length+1∧s.2.1=0)) (fun s=>max X.length Y.length+1-s.1) (0,0,[]) ⟨rfl,Lim.nil,rfl,Nat.zero_le _,.inl (Nat.zero_le _)⟩ ((nr (i:=7) 0 3 1 rfl rfl rfl rfl).trans (aH h0 [0] _ _ (by decide) ⟨rfl,rfl,rfl,rfl,rfl,trivial⟩ ⟨bI (l:=[]) rfl,rfl⟩)) ?_
 rintro⟨k,cr,os⟩ ⟨hos,hol,hv,hc1,hkm⟩;dsimp only at hos hol hv hc1 hkm⊢;have hn1:=hX.nth (by omega) k
 have hn2:=hY.nth (by omega) k
 refine sq ?_;refine sq ?_;refine rl ?_;(iterate 6 refine o1 ?_);refine WL.cast (t:=20) (u':=.int .i64 ((max X.length Y.length:Nat):Int)) rfl (aJ (by omega)) ?_
 refine o1 ?_;refine o1 ?_;refine WL.split (t:=22) rfl (fun h1=>?_) (fun h1=>?_)
 ·refine eC ?_;refine eC ?_;refine o1 ?_;refine nl ?_;refine kM rfl ?_;refine sk ?_;refine sq ?_;refine bl ?_;refine sq ?_;refine rl ?_;refine o1 ?_;refine o1 ?_
  refine ca (oG) oE ⟨a1 rfl,a1 rfl,rfl⟩ (.one (tv (.int .i64 ((nth X (k):Nat):Int)))) ?_;refine o1 ?_;refine o1 ?_
  refine ca (oG) oE ⟨a1 rfl,a1 rfl,rfl⟩ (.one (tv (.int .i64 ((nth Y (k):Nat):Int)))) ?_;(iterate 3 refine o1 ?_)
  refine WL.cast (t:=36) (u':=.int .i64 ((nth X k+nth Y k+cr:Nat):Int)) rfl (aJ (by omega)) ?_
  refine o1 ?_;refine nl ?_;refine sq ?_;refine rl ?_;(iterate 3 refine o1 ?_)
  refine WL.cast (t:=39) (u':=.int .i64 (((nth X k+nth Y k+cr)%65536:Nat):Int)) rfl (aJ (fZ _ 65536)) ?_;refine bs 1 ?_
  refine dV (j:=2) aA rfl rfl rfl rfl (.sl rfl (by rw[List.length_map,gB,hos];omega)) (.sl rfl rfl rfl) rfl rfl rfl (by omega) (by omega) ?_
  refine o1 ?_;refine nl ?_;refine rl ?_;refine o1 ?_;refine o1 ?_ (hC:=(fV 65536 (by omega) (by simp only[gE];omega)))
  refine WL.cast (t:=43) (u':=.int .i64 (((nth X k+nth Y k+cr)/65536:Nat):Int)) rfl (aJ (eN _ 65536)) ?_;refine o1 ?_;refine nl ?_;refine rl ?_;(iterate 3 refine o1 ?_)
  refine nl ?_;have hst:=Ja hos hv
  have hz1:X.length≤k→nth X k=0:=fun h=>dX (by omega)
  have hz2:Y.length≤k→nth Y k=0:=fun h=>dX (by omega)
  exact⟨(k+1,(nth X k+nth Y k+cr)/65536,os++[(nth X k+nth Y k+cr)%65536]),by dsimp only;omega,⟨by simp[hos],hol.append (Lim.cons (Nat.mod_lt _ (by omega)) Lim.nil),hst,by dsimp only;omega,by dsimp only;omega⟩,aH h0 [2] _ _ (by decide) ⟨rfl,rfl,rfl,rfl,rfl,trivial⟩ ⟨lM rfl (gC _ [(nth X k+nth Y k+cr)%65536]) rfl,rfl⟩⟩
 (iterate 3 refine o1 ?_);refine nl ?_;refine bO rfl (fun h2=>?_) (fun h2=>?_)
 ·refine sk ?_;refine sq ?_;refine bl ?_;refine sq ?_;refine rl ?_;refine o1 ?_;refine o1 ?_
  refine ca (oG) oE ⟨a1 rfl,a1 rfl,rfl⟩ (.one (tv (.int .i64 ((nth X (k):Nat):Int)))) ?_;refine o1 ?_;refine o1 ?_
  refine ca (oG) oE ⟨a1 rfl,a1 rfl,rfl⟩ (.one (tv (.int .i64 ((nth Y (k):Nat):Int)))) ?_;(iterate 3 refine o1 ?_)
  refine WL.cast (t:=36) (u':=.int .i64 ((nth X k+nth Y k+cr:Nat):Int)) rfl (aJ (by omega)) ?_
  refine o1 ?_;refine nl ?_;refine sq ?_;refine rl ?_;(iterate 3 refine o1 ?_)
  refine WL.cast (t:=39) (u':=.int .i64 (((nth X k+nth Y k+cr)%65536:Nat):Int)) rfl (aJ (fZ _ 65536)) ?_;refine bs 1 ?_
  refine dV (j:=2) aA rfl rfl rfl rfl (.sl rfl (by rw[List.length_map,gB,hos];omega)) (.sl rfl rfl rfl) rfl rfl rfl (by omega) (by omega) ?_
  refine o1 ?_;refine nl ?_;refine rl ?_;refine o1 ?_;refine o1 ?_ (hC:=(fV 65536 (by omega) (by simp only[gE];omega)))
  refine WL.cast (t:=43) (u':=.int .i64 (((nth X k+nth Y k+cr)/65536:Nat):Int)) rfl (aJ (eN _ 65536)) ?_;refine o1 ?_;refine nl ?_;refine rl ?_;(iterate 3 refine o1 ?_)
  refine nl ?_;have hst:=Ja hos hv
  have hz1:X.length≤k→nth X k=0:=fun h=>dX (by omega)
  have hz2:Y.length≤k→nth Y k=0:=fun h=>dX (by omega)
  exact⟨(k+1,(nth X k+nth Y k+cr)/65536,os++[(nth X k+nth Y k+cr)%65536]),by dsimp only;omega,⟨by simp[hos],hol.append (Lim.cons (Nat.mod_lt _ (by omega)) Lim.nil),hst,by dsimp only;omega,by dsimp only;omega⟩,aH h0 [2] _ _ (by decide) ⟨rfl,rfl,rfl,rfl,rfl,trivial⟩ ⟨lM rfl (gC _ [(nth X k+nth Y k+cr)%65536]) rfl,rfl⟩⟩
 refine ex ?_;refine sq ?_;refine rl ?_;have hc0:cr=0:=by omega
 rw[hc0,Nat.mul_zero,Nat.add_zero,bR 65536 (by omega),bR 65536 (by omega),hvX,hvY]at hv
 refine WL.sub (xL (i:=7) (zs':=os) rfl rfl rfl (by omega) rfl) ?_
 refine o1 ?_;refine fS 1 (yV (by omega) (by assumption)) Pn ⟨a1 rfl,rfl⟩ ?_
 refine o1 ?_;refine nl ?_;refine rt ?_
 exact en (.inl rfl) rfl (aW (.one (.sl (trs:=aP (dg 4294967296 (vl 65536 os))) rfl rfl (bE _) (bB _)))) (by decide) (fun _=>.inl ⟨rfl,fC _⟩) (by rw[hv];rfl)
theorem Uq {xs ys:List Nat}(hx:xs.length≤1099511627776) (hlx:Lim 4294967296 xs) (hy:ys.length≤1099511627776) (hly:Lim 4294967296 ys):aD true Tryz.prog 104 [] [.one (.t (sU false xs)),.one (.t (sU false ys))] (aO (.tup [.one (.t (sU true (dg 4294967296 (vl 4294967296 xs-vl 4294967296 ys)))),.one (tv (.int .i64 (if vl 4294967296 xs<vl 4294967296 ys then 2 else 0)))])):=by
 refine bP Tryz.func104 rfl Tryz.ntmps104 rfl aA rfl fun N w c0 h0=>?_
 refine sq ?_;refine rl ?_;refine o1 ?_;refine o1 ?_;refine nl ?_;refine sq ?_;refine sq ?_;refine rl ?_;refine o1 ?_;refine o1 ?_
 refine ca (Jm hx hlx hy hly) Xo ⟨a1 rfl,a1 rfl,rfl⟩ (.one (tv (.int .i64 (((vl 4294967296 xs:Nat):Int)-((vl 4294967296 ys:Nat):Int)).sign))) ?_;refine o1 ?_;refine nl ?_
 refine bO rfl (fun h1=>?_) (fun h1=>?_)
 ·refine sq ?_;refine rl ?_;refine o1 ?_;refine o1 ?_;refine nl ?_;refine rt ?_;have hlt:=IZ h1
  exact en (.inl rfl) rfl (iJ (.cons (.one (.nil (t:=51) (z:=1))) (.cons (cF _) .nil))) (by decide) (fun _=>⟨.inl ⟨rfl,trivial⟩,trivial,trivial⟩) (by rw[Nat.sub_eq_zero_of_le (Nat.le_of_lt hlt),if_pos hlt];rfl)
 refine sk ?_;refine sq ?_;refine rl ?_;refine o1 ?_;refine ca (jT hx hlx) tH ⟨a1 rfl,rfl⟩ (.one (.t (sI false (dg 65536 (vl 4294967296 xs))))) ?_;refine o1 ?_
 refine ca (jT hy hly) tH ⟨a1 rfl,rfl⟩ (.one (.t (sI false (dg 65536 (vl 4294967296 ys))))) ?_;refine o1 ?_;refine o1 ?_;refine nl ?_;refine sq ?_
 have hge:vl 4294967296 ys≤vl 4294967296 xs:=IY h1
 have hyx:=cO (B:=65536) (by omega) hge
 have hdx:=dT (v:=vl 4294967296 xs) (L:=xs.length) (by rw[eJ (by omega) hlx];exact cN _)
 have hdy:=dT (v:=vl 4294967296 ys) (L:=ys.length) (by rw[eJ (by omega) hly];exact cN _)
 have hX:=aL (B:=65536) (by omega) (vl 4294967296 xs)
 have hY:=aL (B:=65536) (by omega) (vl 4294967296 ys)
 have hvX:=cC (B:=65536) (by omega) (vl 4294967296 xs)
 have hvY:=cC (B:=65536) (by omega) (vl 4294967296 ys)
 generalize dg 65536 (vl 4294967296 xs)=X at hdx hX hvX hyx⊢;generalize dg 65536 (vl 4294967296 ys)=Y at hdy hY hvY hyx⊢;refine rl ?_;refine o1 ?_;refine nl ?_;refine sq ?_;refine rl ?_
 refine o1 ?_;refine nl ?_;refine sq ?_;refine sq ?_;refine rl ?_;refine o1 ?_;refine nl ?_;refine bl ?_
 refine lp (γ:=Nat×Nat×List Nat) (fun s=>cG [(6,.one (.t (sI false X))),(7,.one (.t (sI false Y))),(8,.one (.sl 0 0 s.1)),(9,.one (tv (.int .i64 ((s.2.1:Nat):Int)))),(10,.one (tv (.int .i64 ((s.1:Nat):Int))))]) (fun s=>[(⟨3,1,(cK s.2.2).map .t⟩:Ob)].map some) (fun s=>s.2.2.length=s.1∧Lim 65536 s.2.2∧vl 65536 s.2.2+vl 65536 (Y.take s.1)=vl 65536 (X.take s.1)+65536^s.1*s.2.1∧s.2.1≤1∧s.1≤X.length) (fun s=>X.length-s.1) (0,0,[]) ⟨rfl,Lim.nil,rfl,Nat.zero_le _,Nat.zero_le _⟩ ((nr (i:=8) 0 3 1 rfl rfl rfl rfl).trans (aH h0 [0] _ _ (by decide) ⟨rfl,rfl,rfl,rfl,rfl,trivial⟩ ⟨bI (l:=[]) rfl,rfl⟩)) ?_
 rintro⟨k,br,os⟩ ⟨hos,hol,hv,hc1,hkm⟩;dsimp only at hos hol hv hc1 hkm⊢;have hn1:=hX.nth (by omega) k
 have hn2:=hY.nth (by omega) k
 refine sq ?_;refine sq ?_;refine rl ?_;(iterate 4 refine o1 ?_);refine nl ?_;refine bO rfl (fun h2=>?_) (fun h2=>?_)
 ·refine sk ?_;refine sq ?_;refine bl ?_;refine sq ?_;refine rd [] (fun i=>[10].contains i) mixed ?_
  refine dv 0 ?_;refine dv 1 ?_;refine dv 2 ?_;refine eF 3 ([.v (.int .i64 ((nth X (k):Nat):Int))]) (eX X (k:=k) (by omega)) ?_
  refine dv 4 ?_;refine dv 5 ?_;refine dv 8 ?_;refine aK 6 rfl (oG) oE ⟨a1 rfl,a1 rfl,rfl⟩ (.one (tv (.int .i64 ((nth Y (k):Nat):Int)))) ?_;refine df 7 ?_;refine df 9 ?_
  refine dH 10 (by kernel_rfl) rfl rfl aA rfl (by trivial) ?_ (fun h=>by first | rfl | cases h)
  refine aR ?_;refine sq ?_;refine rl ?_;refine o1 ?_;refine nl ?_;refine sq ?_;refine sq ?_;refine rl ?_;refine o1 ?_;refine o1 ?_;refine nl ?_
  refine bO rfl (fun h3=>?_) (fun h3=>?_)
  ·refine sq ?_;refine rl ?_;(iterate 3 refine o1 ?_);refine nl ?_;refine rl ?_;refine o1 ?_;refine nl ?_;refine rl ?_
   refine WL.cast (t:=11) (u':=.int .i64 (((nth X k+65536-nth Y k-br:Nat)):Int)) rfl (aJ (by omega)) ?_
   refine o1 ?_;refine o1 ?_;refine bs 1 ?_
   refine dV (j:=2) aA rfl rfl rfl rfl (.sl rfl (by rw[List.length_map,gB,hos];omega)) (.sl rfl rfl rfl) rfl rfl rfl (by omega) (by omega) ?_
   refine o1 ?_;refine nl ?_;refine rl ?_;(iterate 3 refine o1 ?_);refine nl ?_;have hst:=Jb (d:=nth X k+65536-nth Y k-br) (br':=1) hos hv (by omega)
   exact⟨(k+1,1,os++[nth X k+65536-nth Y k-br]),by dsimp only;omega,⟨by simp[hos],hol.append (Lim.cons (by omega) Lim.nil),hst,by dsimp only;omega,by dsimp only;omega⟩,aH h0 [2] _ _ (by decide) ⟨rfl,rfl,rfl,rfl,rfl,trivial⟩ ⟨lM rfl (gC _ [nth X k+65536-nth Y k-br]) rfl,rfl⟩⟩
  refine sk ?_;refine rl ?_;refine WL.cast (t:=11) (u':=.int .i64 (((nth X k-nth Y k-br:Nat)):Int)) rfl (aJ (by omega)) ?_
  refine o1 ?_;refine o1 ?_;refine bs 1 ?_
  refine dV (j:=2) aA rfl rfl rfl rfl (.sl rfl (by rw[List.length_map,gB,hos];omega)) (.sl rfl rfl rfl) rfl rfl rfl (by omega) (by omega) ?_
  refine o1 ?_;refine nl ?_;refine rl ?_;(iterate 3 refine o1 ?_);refine nl ?_;have hst:=Jb (d:=nth X k-nth Y k-br) (br':=0) hos hv (by omega)
  exact⟨(k+1,0,os++[nth X k-nth Y k-br]),by dsimp only;omega,⟨by simp[hos],hol.append (Lim.cons (by omega) Lim.nil),hst,by dsimp only;omega,by dsimp only;omega⟩,aH h0 [2] _ _ (by decide) ⟨rfl,rfl,rfl,rfl,rfl,trivial⟩ ⟨lM rfl (gC _ [nth X k-nth Y k-br]) rfl,rfl⟩⟩
 refine ex ?_;refine sq ?_;refine rl ?_;have hoo:=eI hol
 rw[hos]at hoo;rw[bR 65536 (l:=X) (by omega),bR 65536 (l:=Y) (by omega),hvX,hvY]at hv
 have hb0:br=0:=by
  rcases Nat.eq_zero_or_pos br with h0 | h0
  ·exact h0
  have h1:br=1:=by omega
  rw[h1,Nat.mul_one,show k=X.length by omega]at hv
  rw[show k=X.length by omega]at hoo
  omega
 rw[hb0,Nat.mul_zero,Nat.add_zero]at hv;have he:vl 65536 os=vl 4294967296 xs-vl 4294967296 ys:=by omega
 refine WL.sub (xL (i:=8) (zs':=os) rfl rfl rfl (by omega) rfl) ?_
 refine o1 ?_;refine fS 1 (yV (by omega) (by assumption)) Pn ⟨a1 rfl,rfl⟩ ?_
 refine o1 ?_;refine o1 ?_;refine nl ?_;refine rt ?_
 exact en (.inl rfl) rfl (iJ (.cons (.one (.sl (trs:=aP (dg 4294967296 (vl 65536 os))) rfl rfl (bE _) (bB _))) (.cons (cF _) .nil))) (by decide) (fun _=>⟨.inl ⟨rfl,fC _⟩,trivial,trivial⟩) (by rw[he,if_neg (by omega)];rfl)
end Go.Proofs.YthmgbcdidlkpoaaGreat
