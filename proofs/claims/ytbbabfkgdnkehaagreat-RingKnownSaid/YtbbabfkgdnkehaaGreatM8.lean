/- Part 8 of a proof: G2 to Tb. -/
import Derived.Test.YtbbabfkgdnkehaaGreatM7
import Derived.Test.YtbbabfkgdnkehaaGreatM6
import Derived.Test.YtbbabfkgdnkehaaGreatM5
import Derived.Laws.BytesArg
import Derived.Test.YtbbabfkgdnkehaaGreatM4
set_option maxRecDepth 100000
set_option linter.unusedVariables false
set_option linter.unusedSimpArgs false
namespace Go.Proofs.YtbbabfkgdnkehaaGreat
open Go Go.RowKit
theorem Ml {a b:Zi}{k k':Int}(ha:Zg a k) (hb:Zg b k'):aE true Tryz.prog 48 [] [gF a,gF b] (aT (kO (k*k'))):=by
 refine bV Tryz.func48 rfl Tryz.ntmps48 rfl aF rfl fun N w c0 h0=>?_
 have hkl:=ha.len
 have hkl':=hb.len
 refine sq (rl (bx 0 ?_));refine bx 1 ?_;refine al 2 ?_;refine nl ?_
 refine md (γ:=Unit) (fun _=>bP [(4,pN 0),(5,pN 1),(6,pN 2)]) (fun _=>([⟨46,0,[tv (.bool false),tv (.slice none 0 0)]⟩,⟨147,0,[tv (.bool (aL k)),.t (sU false (dg 4294967296 k.natAbs))]⟩,⟨147,0,[tv (.bool (aL k')),.t (sU false (dg 4294967296 k'.natAbs))]⟩]:List Ob).map some) (fun _=>True) ?_ fun _ _=>?_
 ·refine cI [0,1,2] [7] ?_
  refine aK 0 ?_;refine aK 2 ?_;refine Ky 1 4 5 ?_ ?_ ?_
  ·refine fB 1 rfl (fA ha) eZ ⟨aC rfl,rfl⟩ (kF (k)) ?_;refine Ky 3 4 5 ?_ ?_ ?_
   ·refine fB 3 rfl (fA hb) eZ ⟨aC rfl,rfl⟩ (kF (k')) ?_;refine eR 4 5 ?_ ?_
    ·refine cQ 3 4 ?_;refine fZ 4 5 ?_
     refine dC 6 ?_
     refine dst 7 ?_;refine aW ?_;exact⟨(),trivial,aP h0 [2,3,4] ⟨oe rfl rfl,oe rfl rfl,oe rfl rfl,rfl⟩⟩
    refine cQ 3 5 ?_;refine fZ 4 4 ?_
    refine dC 6 ?_
    refine dst 7 ?_;refine aW ?_;exact⟨(),trivial,aP h0 [2,4,3] ⟨oe rfl rfl,oe rfl rfl,oe rfl rfl,rfl⟩⟩
   ·refine cQ 3 4 ?_;refine eR 3 5 ?_ ?_
    ·refine fB 3 rfl (fA hb) eZ ⟨aC rfl,rfl⟩ (kF (k')) ?_;refine fZ 4 5 ?_
     refine dC 6 ?_
     refine dst 7 ?_;refine aW ?_;exact⟨(),trivial,aP h0 [2,3,4] ⟨oe rfl rfl,oe rfl rfl,oe rfl rfl,rfl⟩⟩
    refine cQ 4 5 ?_;refine aS 3 rfl (fA hb) eZ ⟨aC rfl,rfl⟩ (kF (k')) ?_
    refine dC 6 ?_
    refine dst 7 ?_;refine aW ?_;exact⟨(),trivial,aP h0 [2,3,4] ⟨oe rfl rfl,oe rfl rfl,oe rfl rfl,rfl⟩⟩
   refine cQ 3 5 ?_;refine eR 3 4 ?_ ?_
   ·refine fB 3 rfl (fA hb) eZ ⟨aC rfl,rfl⟩ (kF (k')) ?_;refine fZ 4 4 ?_
    refine dC 6 ?_
    refine dst 7 ?_;refine aW ?_;exact⟨(),trivial,aP h0 [2,4,3] ⟨oe rfl rfl,oe rfl rfl,oe rfl rfl,rfl⟩⟩
   refine cQ 4 4 ?_;refine aS 3 rfl (fA hb) eZ ⟨aC rfl,rfl⟩ (kF (k')) ?_
   refine dC 6 ?_
   refine dst 7 ?_;refine aW ?_;exact⟨(),trivial,aP h0 [2,4,3] ⟨oe rfl rfl,oe rfl rfl,oe rfl rfl,rfl⟩⟩
  ·refine cQ 3 4 ?_;refine eR 1 5 ?_ ?_
   ·refine fB 1 rfl (fA ha) eZ ⟨aC rfl,rfl⟩ (kF (k)) ?_;refine eR 3 5 ?_ ?_
    ·refine fB 3 rfl (fA hb) eZ ⟨aC rfl,rfl⟩ (kF (k')) ?_;refine fZ 4 5 ?_
     refine dC 6 ?_
     refine dst 7 ?_;refine aW ?_;exact⟨(),trivial,aP h0 [2,3,4] ⟨oe rfl rfl,oe rfl rfl,oe rfl rfl,rfl⟩⟩
    refine cQ 4 5 ?_;refine aS 3 rfl (fA hb) eZ ⟨aC rfl,rfl⟩ (kF (k')) ?_
    refine dC 6 ?_
    refine dst 7 ?_;refine aW ?_;exact⟨(),trivial,aP h0 [2,3,4] ⟨oe rfl rfl,oe rfl rfl,oe rfl rfl,rfl⟩⟩
   refine cQ 4 5 ?_;refine aS 1 rfl (fA ha) eZ ⟨aC rfl,rfl⟩ (kF (k)) ?_;refine aS 3 rfl (fA hb) eZ ⟨aC rfl,rfl⟩ (kF (k')) ?_
   refine dC 6 ?_
   refine dst 7 ?_;refine aW ?_;exact⟨(),trivial,aP h0 [2,3,4] ⟨oe rfl rfl,oe rfl rfl,oe rfl rfl,rfl⟩⟩
  refine cQ 3 5 ?_;refine eR 1 4 ?_ ?_
  ·refine fB 1 rfl (fA ha) eZ ⟨aC rfl,rfl⟩ (kF (k)) ?_;refine eR 3 4 ?_ ?_
   ·refine fB 3 rfl (fA hb) eZ ⟨aC rfl,rfl⟩ (kF (k')) ?_;refine fZ 4 4 ?_
    refine dC 6 ?_
    refine dst 7 ?_;refine aW ?_;exact⟨(),trivial,aP h0 [2,4,3] ⟨oe rfl rfl,oe rfl rfl,oe rfl rfl,rfl⟩⟩
   refine cQ 4 4 ?_;refine aS 3 rfl (fA hb) eZ ⟨aC rfl,rfl⟩ (kF (k')) ?_
   refine dC 6 ?_
   refine dst 7 ?_;refine aW ?_;exact⟨(),trivial,aP h0 [2,4,3] ⟨oe rfl rfl,oe rfl rfl,oe rfl rfl,rfl⟩⟩
  refine cQ 4 4 ?_;refine aS 1 rfl (fA ha) eZ ⟨aC rfl,rfl⟩ (kF (k)) ?_;refine aS 3 rfl (fA hb) eZ ⟨aC rfl,rfl⟩ (kF (k')) ?_
  refine dC 6 ?_
  refine dst 7 ?_;refine aW ?_;exact⟨(),trivial,aP h0 [2,4,3] ⟨oe rfl rfl,oe rfl rfl,oe rfl rfl,rfl⟩⟩
 refine sq ?_;refine cI [0,1,2] [15] ?_
 refine dv 0 ?_;refine dv 1 ?_;refine aK 2 ?_;refine dv 3 ?_;refine dv 4 ?_;refine aK 5 ?_;refine dv 6 ?_;refine dv 7 ?_;refine dv 8 ?_;refine aK 9 ?_;refine dv 10 ?_;refine dv 11 ?_
 refine aK 12 ?_
 have hA:aE true Tryz.prog 84 [] [.one (.t (sU false (dg 4294967296 k.natAbs))),.one (.t (sU false (dg 4294967296 k'.natAbs)))] (aT (.one (.t (sU true (dg 4294967296 (k.natAbs*k'.natAbs)))))):=by have h9:=YO (aU (by omega) k.natAbs) (aU (by omega) k'.natAbs) (by omega) (by omega);rwa[bX,bX]at h9
 refine kS 3 13 rfl hA aAX ⟨a1 rfl,a1 rfl,rfl⟩ ?_
 refine Gi 14 4 [3] rfl (jR (b:=(aL k != aL k')) (m:=(k.natAbs*k'.natAbs)) (K:=k*k') (Vo k k')) rJ ⟨aB rfl,rfl⟩ ⟨rfl,rfl,rfl⟩ ⟨rfl,rfl,rfl,trivial⟩ ?_
 refine dst 15 ?_;refine aW ?_;refine rt ?_
 exact en (.inl rfl) rfl (bD (.agg (.cons (.id rfl) (.cons (.sl (trs:=aJ (dg 4294967296 ((k*k')).natAbs)) rfl rfl (bS _) (aV _)) .nil)))) (by decide) (fun _=>fW ((k*k'))) rfl
theorem LI {a b:Zi}{k k':Int}(ha:Zg a k) (hb:Zg b k'):aE true Tryz.prog 97 [] [gF a,gF b] (aT (kO (((Int.gcd k k'):Nat):Int))):=by
 refine bV Tryz.func97 rfl Tryz.ntmps97 rfl aF rfl fun N w c0 h0=>?_
 have hkl:=ha.len
 have hkl':=hb.len
 refine sq (rl (bx 0 ?_));refine bx 1 ?_;refine al 2 ?_;refine nl (sq ?_);refine cI [0,1,2] [11] ?_
 refine aK 0 ?_;refine aK 4 ?_;refine aS 1 rfl (fA ha) eZ ⟨aC rfl,rfl⟩ (kF (k)) ?_;refine df 2 ?_;refine df 3 ?_;refine aS 5 rfl (fA hb) eZ ⟨aC rfl,rfl⟩ (kF (k')) ?_
 refine df 6 ?_;refine df 7 ?_;refine iG (key:=3) 8 (by kernel_rfl) rfl rfl aF rfl ⟨rfl,rfl,rfl,trivial⟩ ?_
 refine qU (i:=13) (k:=3) (t:=44) (t':=44) (z:=1) (n:=2) (l:=[sU false (dg 4294967296 k.natAbs),sU false (dg 4294967296 k'.natAbs)]) rfl rfl rfl rfl (.one .sl) (by rfl) (by rfl) ?_
 have hA:aE true Tryz.prog 123 [] [.one (.t (.s false 44 1 2 [sU false (dg 4294967296 k.natAbs),sU false (dg 4294967296 k'.natAbs)]))] (aT (.one (.t (sU true (dg 4294967296 (Int.gcd k k')))))):=by
  have h9:=YP (t:=44) (aU (by omega) k.natAbs) (aU (by omega) k'.natAbs) (by omega) (by omega)
  rwa[show tK [dg 4294967296 k.natAbs,dg 4294967296 k'.natAbs]=(Int.gcd k k') by simp only[tK,List.foldl_cons,List.foldl_nil,bX,Nat.gcd_zero_left];rfl]at h9
 refine kS 4 9 rfl hA YB ⟨a1 rfl,rfl⟩ ?_
 refine Gi 10 5 [4] rfl (jR (b:=false) (m:=(Int.gcd k k')) (K:=(((Int.gcd k k'):Nat):Int)) (by simp[cG])) rJ ⟨aB rfl,rfl⟩ ⟨rfl,rfl,rfl⟩ ⟨rfl,rfl,rfl,trivial⟩ ?_
 refine dst 11 ?_;refine aW ?_;refine rt ?_
 exact en (.inl rfl) rfl (bD (.agg (.cons (.id rfl) (.cons (.sl (trs:=aJ (dg 4294967296 ((((Int.gcd k k'):Nat):Int)).natAbs)) rfl rfl (bS _) (aV _)) .nil)))) (by decide) (fun _=>fW ((((Int.gcd k k'):Nat):Int))) rfl
theorem DA (xs:List Nat):((aJ xs).map AV.t).take (aJ xs).length=(aJ xs).map .t:=fF (by simp)
theorem yE {a b:Zi}{k k':Int}(ha:Zg a k) (hb:Zg b k') (hz0:k'≠0):aE true Tryz.prog 120 [] [gF a,gF b] (aT (.tup [kO (k.fdiv k'),kO (k.fmod k'),.one (tv (.int .i64 0))])):=by
 refine bV Tryz.func120 rfl Tryz.ntmps120 rfl aF rfl fun N w c0 h0=>?_
 have hkl:=ha.len
 have hkl':=hb.len
 have hq:(dg 4294967296 (k.natAbs/k'.natAbs)).length≤300000000000:=Nat.le_trans (kG (Nat.div_le_self _ _)) hkl
 have hr0:=Nat.mod_lt k.natAbs (show 0<k'.natAbs by omega)
 have hrl:(dg 4294967296 (k.natAbs%k'.natAbs)).length≤300000000000:=Nat.le_trans (kG (Nat.le_of_lt hr0)) hkl'
 refine sq (rl (bx 0 ?_));refine bx 1 ?_;refine al 2 ?_;refine al 3 ?_;refine o1 ?_;refine nl ?_
 refine md (γ:=Unit) (fun _=>bP [(4,pN 0),(5,pN 1),(6,iN 0),(7,pN 2),(8,pN 3)]) (fun _=>([⟨46,0,[tv (.bool false),tv (.slice none 0 0)]⟩,⟨46,0,[tv (.bool false),tv (.slice none 0 0)]⟩,⟨147,0,[tv (.bool (aL k)),.t (sU false (dg 4294967296 k.natAbs))]⟩,⟨147,0,[tv (.bool (aL k')),.t (sU false (dg 4294967296 k'.natAbs))]⟩]:List Ob).map some) (fun _=>True) ?_ fun _ _=>?_
 ·refine cI [0,1,2,3] [7] ?_
  refine aK 0 ?_;refine aK 2 ?_;refine Ky 1 4 5 ?_ ?_ ?_
  ·refine fB 1 rfl (fA ha) eZ ⟨aC rfl,rfl⟩ (kF (k)) ?_;refine Ky 3 4 5 ?_ ?_ ?_
   ·refine fB 3 rfl (fA hb) eZ ⟨aC rfl,rfl⟩ (kF (k')) ?_;refine eR 4 5 ?_ ?_
    ·refine cQ 4 4 ?_;refine fZ 5 5 ?_
     refine dC 6 ?_
     refine dst 7 ?_;refine aW ?_;exact⟨(),trivial,aP h0 [2,3,4,5] ⟨oe rfl rfl,oe rfl rfl,oe rfl rfl,oe rfl rfl,rfl⟩⟩
    refine cQ 4 5 ?_;refine fZ 5 4 ?_
    refine dC 6 ?_
    refine dst 7 ?_;refine aW ?_;exact⟨(),trivial,aP h0 [2,3,5,4] ⟨oe rfl rfl,oe rfl rfl,oe rfl rfl,oe rfl rfl,rfl⟩⟩
   ·refine cQ 4 4 ?_;refine eR 3 5 ?_ ?_
    ·refine fB 3 rfl (fA hb) eZ ⟨aC rfl,rfl⟩ (kF (k')) ?_;refine fZ 5 5 ?_
     refine dC 6 ?_
     refine dst 7 ?_;refine aW ?_;exact⟨(),trivial,aP h0 [2,3,4,5] ⟨oe rfl rfl,oe rfl rfl,oe rfl rfl,oe rfl rfl,rfl⟩⟩
    refine cQ 5 5 ?_;refine aS 3 rfl (fA hb) eZ ⟨aC rfl,rfl⟩ (kF (k')) ?_
    refine dC 6 ?_
    refine dst 7 ?_;refine aW ?_;exact⟨(),trivial,aP h0 [2,3,4,5] ⟨oe rfl rfl,oe rfl rfl,oe rfl rfl,oe rfl rfl,rfl⟩⟩
   refine cQ 4 5 ?_;refine eR 3 4 ?_ ?_
   ·refine fB 3 rfl (fA hb) eZ ⟨aC rfl,rfl⟩ (kF (k')) ?_;refine fZ 5 4 ?_
    refine dC 6 ?_
    refine dst 7 ?_;refine aW ?_;exact⟨(),trivial,aP h0 [2,3,5,4] ⟨oe rfl rfl,oe rfl rfl,oe rfl rfl,oe rfl rfl,rfl⟩⟩
   refine cQ 5 4 ?_;refine aS 3 rfl (fA hb) eZ ⟨aC rfl,rfl⟩ (kF (k')) ?_
   refine dC 6 ?_
   refine dst 7 ?_;refine aW ?_;exact⟨(),trivial,aP h0 [2,3,5,4] ⟨oe rfl rfl,oe rfl rfl,oe rfl rfl,oe rfl rfl,rfl⟩⟩
  ·refine cQ 4 4 ?_;refine eR 1 5 ?_ ?_
   ·refine fB 1 rfl (fA ha) eZ ⟨aC rfl,rfl⟩ (kF (k)) ?_;refine eR 3 5 ?_ ?_
    ·refine fB 3 rfl (fA hb) eZ ⟨aC rfl,rfl⟩ (kF (k')) ?_;refine fZ 5 5 ?_
     refine dC 6 ?_
     refine dst 7 ?_;refine aW ?_;exact⟨(),trivial,aP h0 [2,3,4,5] ⟨oe rfl rfl,oe rfl rfl,oe rfl rfl,oe rfl rfl,rfl⟩⟩
    refine cQ 5 5 ?_;refine aS 3 rfl (fA hb) eZ ⟨aC rfl,rfl⟩ (kF (k')) ?_
    refine dC 6 ?_
    refine dst 7 ?_;refine aW ?_;exact⟨(),trivial,aP h0 [2,3,4,5] ⟨oe rfl rfl,oe rfl rfl,oe rfl rfl,oe rfl rfl,rfl⟩⟩
   refine cQ 5 5 ?_;refine aS 1 rfl (fA ha) eZ ⟨aC rfl,rfl⟩ (kF (k)) ?_
   refine aS 3 rfl (fA hb) eZ ⟨aC rfl,rfl⟩ (kF (k')) ?_;refine dC 6 ?_
   refine dst 7 ?_;refine aW ?_;exact⟨(),trivial,aP h0 [2,3,4,5] ⟨oe rfl rfl,oe rfl rfl,oe rfl rfl,oe rfl rfl,rfl⟩⟩
  refine cQ 4 5 ?_;refine eR 1 4 ?_ ?_
  ·refine fB 1 rfl (fA ha) eZ ⟨aC rfl,rfl⟩ (kF (k)) ?_;refine eR 3 4 ?_ ?_
   ·refine fB 3 rfl (fA hb) eZ ⟨aC rfl,rfl⟩ (kF (k')) ?_;refine fZ 5 4 ?_
    refine dC 6 ?_
    refine dst 7 ?_;refine aW ?_;exact⟨(),trivial,aP h0 [2,3,5,4] ⟨oe rfl rfl,oe rfl rfl,oe rfl rfl,oe rfl rfl,rfl⟩⟩
   refine cQ 5 4 ?_;refine aS 3 rfl (fA hb) eZ ⟨aC rfl,rfl⟩ (kF (k')) ?_
   refine dC 6 ?_
   refine dst 7 ?_;refine aW ?_;exact⟨(),trivial,aP h0 [2,3,5,4] ⟨oe rfl rfl,oe rfl rfl,oe rfl rfl,oe rfl rfl,rfl⟩⟩
  refine cQ 5 4 ?_;refine aS 1 rfl (fA ha) eZ ⟨aC rfl,rfl⟩ (kF (k)) ?_
  refine aS 3 rfl (fA hb) eZ ⟨aC rfl,rfl⟩ (kF (k')) ?_;refine dC 6 ?_
  refine dst 7 ?_;refine aW ?_;exact⟨(),trivial,aP h0 [2,3,5,4] ⟨oe rfl rfl,oe rfl rfl,oe rfl rfl,oe rfl rfl,rfl⟩⟩
 refine sq (rl (o1 ?_));refine o1 ?_;refine ld ?_;refine o1 ?_;refine o1 ?_;refine ld ?_
 have hD:aE true Tryz.prog 142 [] [.one (.t (sU false (dg 4294967296 k.natAbs))),.one (.t (sU false (dg 4294967296 k'.natAbs)))] (aT (.tup [.one (.t (sU true (dg 4294967296 (k.natAbs/k'.natAbs)))),.one (.t (sU true (dg 4294967296 (k.natAbs%k'.natAbs)))),.one (tv (.int .i64 0))])):=by
  have h9:=IY (aU (by omega) k.natAbs) (aU (by omega) k'.natAbs) (by omega) (by omega) (by rw[bX];omega)
  rwa[bX,bX]at h9
 refine iS 4 hD YF ⟨a1 rfl,a1 rfl,rfl⟩ ?_;(iterate 7 refine o1 ?_);refine nl (sq (sq (rl (o1 ?_))));refine o1 ?_;refine nl ?_
 refine bF rfl (fun h1=>?_) (fun h1=>?_)
 ·exact absurd rfl h1
 refine sk (sq (sq (rl (o1 ?_))));refine o1 ?_;refine ld ?_;refine o1 ?_;refine o1 ?_;refine ld ?_;refine o1 ?_;refine o1 ?_
 refine WL.splitb (t:=37) rfl (fun h2=>?_) (fun h2=>?_)
 ·(iterate 4 refine o1 ?_);refine nl ?_;refine bF rfl (fun h3=>?_) (fun h3=>?_)
  ·refine sq (rl (o1 ?_));refine bs 6 ?_
   have hA:aE true Tryz.prog 139 [] [.one (.t (sU false (dg 4294967296 (k.natAbs/k'.natAbs)))),.one (.t (sU false [1]))] (aT (.one (.t (sU true (dg 4294967296 ((k.natAbs/k'.natAbs)+1)))))):=by
    have h9:=LF (aU (by omega) (k.natAbs/k'.natAbs)) (Lim.cons (show 1<4294967296 by omega) Lim.nil) (by omega) (by simp)
    rwa[cV (by omega),show vl 4294967296 [1]=1 from rfl]at h9
   refine iS 7 hA KT ⟨sS rfl (.sl rfl rfl (DA _) (aV _)),sS rfl (.sl (trs:=aJ [1]) rfl rfl rfl rfl),rfl⟩ ?_;refine o1 ?_;refine nl (rl (o1 ?_))
   refine o1 ?_;refine ld ?_;refine o1 ?_
   have hS:aE true Tryz.prog 141 [] [.one (.t (sU false (dg 4294967296 k'.natAbs))),.one (.t (sU false (dg 4294967296 (k.natAbs%k'.natAbs))))] (aT (.tup [.one (.t (sU true (dg 4294967296 (k'.natAbs-(k.natAbs%k'.natAbs))))),.one (tv (.int .i64 0))])):=by
    have h9:=Yj (aU (by omega) k'.natAbs) (aU (by omega) (k.natAbs%k'.natAbs)) (by omega) (by rw[bX,cV (by omega)];omega)
    rwa[bX,cV (by omega)]at h9
   refine iS 8 hS Xx ⟨a1 rfl,sS rfl (.sl rfl rfl (DA _) (aV _)),rfl⟩ ?_;(iterate 4 refine o1 ?_);refine nl (sq ?_)
   have hd:k.fdiv k'=cG (aL k != aL k') ((k.natAbs/k'.natAbs)+1)∧k.fmod k'=cG (aL k') (k'.natAbs-(k.natAbs%k'.natAbs)):=by
    have h9:aL k≠aL k':=by simpa using h2
    have h7:k.natAbs%k'.natAbs≠0:=by have h5:=oL (m:=(k.natAbs%k'.natAbs)) rfl;rw[decide_eq_true (by omega)]at h5;have h6:=of_decide_eq_true h5.symm;omega
    have h8:=OM (a:=k) (b:=k') hz0 h9 h7
    rw[h2];exact h8
   refine cI [1,2,3,6] [15,16] ?_
   refine dv 0 ?_;refine dv 1 ?_;refine aK 2 ?_;refine dv 3 ?_;refine dv 4 ?_;refine aK 5 ?_;refine dv 6 ?_;refine dv 7 ?_;refine dv 9 ?_;refine dv 10 ?_;refine aK 11 ?_
   refine dv 12 ?_
   refine Gi 8 9 [7] rfl (jR (b:=(aL k != aL k')) (m:=((k.natAbs/k'.natAbs)+1)) (K:=(k.fdiv k')) hd.1.symm) rJ ⟨aB rfl,rfl⟩ ⟨rfl,rfl,rfl⟩ ⟨rfl,rfl,rfl,rfl,trivial⟩ ?_
   refine Gi 13 10 [8] rfl (jR (b:=(aL k')) (m:=(k'.natAbs-(k.natAbs%k'.natAbs))) (K:=(k.fmod k')) hd.2.symm) rJ ⟨aB rfl,rfl⟩ ⟨rfl,rfl,rfl⟩ ⟨rfl,rfl,rfl,rfl,trivial⟩ ?_
   refine dC 14 ?_
   refine dst 15 ?_;refine dI 16 ?_
   refine aW ?_;refine rt ?_
   exact en (.inl rfl) rfl (Dz (.cons (.agg (.cons (.id rfl) (.cons (.sl (trs:=aJ (dg 4294967296 ((k.fdiv k')).natAbs)) rfl rfl (bS _) (aV _)) .nil))) (.cons (.agg (.cons (.id rfl) (.cons (.sl (trs:=aJ (dg 4294967296 ((k.fmod k')).natAbs)) rfl rfl (bS _) (aV _)) .nil))) (.cons (cX (.int .i64 0)) .nil)))) (by decide) (fun _=>⟨fW (k.fdiv k'),fW (k.fmod k'),trivial,trivial⟩) rfl
  refine sk (sq ?_);have hd:k.fdiv k'=cG (aL k != aL k') (k.natAbs/k'.natAbs)∧k.fmod k'=cG (aL k') (k.natAbs%k'.natAbs):=by
   have h9:aL k≠aL k':=by simpa using h2
   have h7:k.natAbs%k'.natAbs=0:=by have h5:=oL (m:=(k.natAbs%k'.natAbs)) rfl;rw[decide_eq_false (by omega)]at h5;have h6:=of_decide_eq_false h5.symm;omega
   have h8:=OL (a:=k) (b:=k') hz0 h9 h7
   rw[h2];exact h8
  refine cI [1,2,3] [15,16] ?_
  refine dv 0 ?_;refine dv 1 ?_;refine aK 2 ?_;refine dv 3 ?_;refine dv 4 ?_;refine aK 5 ?_;refine dv 6 ?_;refine dv 7 ?_;refine dv 9 ?_;refine dv 10 ?_;refine aK 11 ?_
  refine dv 12 ?_
  refine Gi 8 6 [4] rfl (jR (b:=(aL k != aL k')) (m:=(k.natAbs/k'.natAbs)) (K:=(k.fdiv k')) hd.1.symm) rJ ⟨aB rfl,rfl⟩ ⟨rfl,rfl,rfl⟩ ⟨rfl,rfl,rfl,trivial⟩ ?_
  refine Gi 13 7 [5] rfl (jR (b:=(aL k')) (m:=(k.natAbs%k'.natAbs)) (K:=(k.fmod k')) hd.2.symm) rJ ⟨aB rfl,rfl⟩ ⟨rfl,rfl,rfl⟩ ⟨rfl,rfl,rfl,trivial⟩ ?_
  refine dC 14 ?_
  refine dst 15 ?_;refine dI 16 ?_
  refine aW ?_;refine rt ?_
  exact en (.inl rfl) rfl (Dz (.cons (.agg (.cons (.id rfl) (.cons (.sl (trs:=aJ (dg 4294967296 ((k.fdiv k')).natAbs)) rfl rfl (bS _) (aV _)) .nil))) (.cons (.agg (.cons (.id rfl) (.cons (.sl (trs:=aJ (dg 4294967296 ((k.fmod k')).natAbs)) rfl rfl (bS _) (aV _)) .nil))) (.cons (cX (.int .i64 0)) .nil)))) (by decide) (fun _=>⟨fW (k.fdiv k'),fW (k.fmod k'),trivial,trivial⟩) rfl
 (iterate 3 refine cY ?_);refine o1 ?_;refine nl (dW rfl (sk (sq ?_)))
 have hd:k.fdiv k'=cG (aL k != aL k') (k.natAbs/k'.natAbs)∧k.fmod k'=cG (aL k') (k.natAbs%k'.natAbs):=by
  have h9:aL k=aL k':=by simpa using h2
  have h8:=OK (a:=k) (b:=k') hz0 h9
  rw[h2];exact h8
 refine cI [1,2,3] [15,16] ?_
 refine dv 0 ?_;refine dv 1 ?_;refine aK 2 ?_;refine dv 3 ?_;refine dv 4 ?_;refine aK 5 ?_;refine dv 6 ?_;refine dv 7 ?_;refine dv 9 ?_;refine dv 10 ?_;refine aK 11 ?_
 refine dv 12 ?_
 refine Gi 8 6 [4] rfl (jR (b:=(aL k != aL k')) (m:=(k.natAbs/k'.natAbs)) (K:=(k.fdiv k')) hd.1.symm) rJ ⟨aB rfl,rfl⟩ ⟨rfl,rfl,rfl⟩ ⟨rfl,rfl,rfl,trivial⟩ ?_
 refine Gi 13 7 [5] rfl (jR (b:=(aL k')) (m:=(k.natAbs%k'.natAbs)) (K:=(k.fmod k')) hd.2.symm) rJ ⟨aB rfl,rfl⟩ ⟨rfl,rfl,rfl⟩ ⟨rfl,rfl,rfl,trivial⟩ ?_
 refine dC 14 ?_
 refine dst 15 ?_;refine dI 16 ?_
 refine aW ?_;refine rt ?_
 exact en (.inl rfl) rfl (Dz (.cons (.agg (.cons (.id rfl) (.cons (.sl (trs:=aJ (dg 4294967296 ((k.fdiv k')).natAbs)) rfl rfl (bS _) (aV _)) .nil))) (.cons (.agg (.cons (.id rfl) (.cons (.sl (trs:=aJ (dg 4294967296 ((k.fmod k')).natAbs)) rfl rfl (bS _) (aV _)) .nil))) (.cons (cX (.int .i64 0)) .nil)))) (by decide) (fun _=>⟨fW (k.fdiv k'),fW (k.fmod k'),trivial,trivial⟩) rfl
theorem wM {p:Rat}{L:Nat}(h:Sz L p) (hL:L≤68719476736:=by omega):Zg (.of p.num) p.num:=.of (Nat.le_trans h.1 (by omega))
theorem nH {p:Rat}{L:Nat}(h:Sz L p) (hL:L≤68719476736:=by omega):Zg ⟨false,dg 4294967296 p.den⟩ (p.den:Int):=⟨aU (by omega) _,Nat.le_trans h.2 (by omega),Ca p.den⟩
theorem Mm {q:Rat}{n d:Int}(h1:q.num=n) (h2:(q.den:Int)=d):FV.agg [tv (.bool (aL n)),.t (sU true (dg 4294967296 n.natAbs)),tv (.bool (aL d)),.t (sU true (dg 4294967296 d.natAbs))]=qO q:=by
 subst h1 h2
 rw[Bz]
 rfl
theorem Li {a b:Zi}{k k':Int}(ha:Zg a k) (hb:Zg b k') (hz0:k'≠0):aE true Tryz.prog 88 [] [gF a,gF b] (aT (qO (Rat.divInt k k'))):=by
 refine bV Tryz.func88 rfl Tryz.ntmps88 rfl aF rfl fun N w c0 h0=>?_
 have hkl:=ha.len
 have hkl':=hb.len
 have hgl:(dg 4294967296 ((Int.gcd k k':Nat):Int).natAbs).length≤300000000000:=Nat.le_trans (kG (Nat.le_of_dvd (by omega) (Nat.gcd_dvd_right ..))) hkl'
 have hng:=mC ((Int.gcd k k':Nat):Int)
 have hg0:((Int.gcd k k':Nat):Int)≠0:=fun e=>hz0 (Int.gcd_eq_zero_iff.1 (show Int.gcd k k'=0 by omega)).2
 refine sq (rl (bx 0 ?_));refine bx 1 ?_;refine al 2 ?_;refine nl (sq (rl (ld ?_)));refine ld ?_
 refine ca (LI ha hb) UB ⟨aC rfl,aC rfl,rfl⟩ (kF (((Int.gcd k k':Nat):Int))) ?_;refine al 3 ?_;refine st ?_;refine nl (sq (sq (rl (ld ?_))))
 refine ca (Gj hb) Xu ⟨aC rfl,rfl⟩ (.one (tv (.int .i64 k'.sign))) ?_;refine o1 ?_;refine nl ?_;refine bF rfl (fun h1=>?_) (fun h1=>?_)
 ·refine rl (ld ?_);refine ca (LG (Zg.of (k:=((Int.gcd k k':Nat):Int)) hgl)) TY ⟨aC rfl,rfl⟩ (kF (-(((Int.gcd k k':Nat):Int)))) ?_;refine st ?_;refine nl (sq ?_)
  refine rl (ld ?_);refine ld ?_;refine iS 4 (yE ha (Zg.of (k:=(-(((Int.gcd k k':Nat):Int)))) (by omega)) (by omega)) Mh ⟨aC rfl,aC rfl,rfl⟩ ?_
  (iterate 4 refine o1 ?_);refine al 6 ?_;refine al 7 ?_;refine st ?_;refine st ?_;refine o1 ?_;refine nl (sq (rl (ld ?_)));refine ld ?_
  refine iS 8 (yE hb (Zg.of (k:=(-(((Int.gcd k k':Nat):Int)))) (by omega)) (by omega)) Mh ⟨aC rfl,aC rfl,rfl⟩ ?_
  (iterate 4 refine o1 ?_);refine al 10 ?_;refine al 11 ?_;refine st ?_;refine st ?_;refine o1 ?_;refine nl (sq (rl (ld ?_)));refine ld ?_;refine o1 ?_
  refine st ?_;refine nl (rt ?_);have hk9:k'<0:=by
   rcases Int.lt_trichotomy k' 0 with h8 | h8 | h8
   ·exact h8
   ·exact absurd h8 hz0
   rw[Int.sign_eq_one_of_pos h8]at h1;omega
  have h9:=Qu (N:=k) (D:=k') hk9
  exact en (.inl rfl) rfl (bD (.agg (.cons (.id rfl) (.cons (.sl (trs:=aJ (dg 4294967296 (((k).fdiv (-(((Int.gcd k k':Nat):Int))))).natAbs)) rfl rfl (bS _) (aV _)) (.cons (.id rfl) (.cons (.sl (trs:=aJ (dg 4294967296 (((k').fdiv (-(((Int.gcd k k':Nat):Int))))).natAbs)) rfl rfl (bS _) (aV _)) (.nil))))))) (by decide) (fun _=>vJ (⟨aL ((k).fdiv (-(((Int.gcd k k':Nat):Int)))),dg 4294967296 (((k).fdiv (-(((Int.gcd k k':Nat):Int))))).natAbs,aL ((k').fdiv (-(((Int.gcd k k':Nat):Int)))),dg 4294967296 (((k').fdiv (-(((Int.gcd k k':Nat):Int))))).natAbs⟩:Fr4)) (Mm h9.1 h9.2)
 refine sk (sq (rl (ld ?_)));refine ld ?_;refine iS 4 (yE ha (Zg.of (k:=((Int.gcd k k':Nat):Int)) (by omega)) (by omega)) Mh ⟨aC rfl,aC rfl,rfl⟩ ?_
 (iterate 4 refine o1 ?_);refine al 6 ?_;refine al 7 ?_;refine st ?_;refine st ?_;refine o1 ?_;refine nl (sq (rl (ld ?_)));refine ld ?_
 refine iS 8 (yE hb (Zg.of (k:=((Int.gcd k k':Nat):Int)) (by omega)) (by omega)) Mh ⟨aC rfl,aC rfl,rfl⟩ ?_
 (iterate 4 refine o1 ?_);refine al 10 ?_;refine al 11 ?_;refine st ?_;refine st ?_;refine o1 ?_;refine nl (sq (rl (ld ?_)));refine ld ?_;refine o1 ?_
 refine st ?_;refine nl (rt ?_);have hk9:0<k':=by
  rcases Int.lt_trichotomy k' 0 with h8 | h8 | h8
  ·rw[Int.sign_eq_neg_one_of_neg h8]at h1;omega
  ·exact absurd h8 hz0
  exact h8
 have h9:=qJ (N:=k) (D:=k') hk9
 exact en (.inl rfl) rfl (bD (.agg (.cons (.id rfl) (.cons (.sl (trs:=aJ (dg 4294967296 (((k).fdiv ((Int.gcd k k':Nat):Int))).natAbs)) rfl rfl (bS _) (aV _)) (.cons (.id rfl) (.cons (.sl (trs:=aJ (dg 4294967296 (((k').fdiv ((Int.gcd k k':Nat):Int))).natAbs)) rfl rfl (bS _) (aV _)) (.nil))))))) (by decide) (fun _=>vJ (⟨aL ((k).fdiv ((Int.gcd k k':Nat):Int)),dg 4294967296 (((k).fdiv ((Int.gcd k k':Nat):Int))).natAbs,aL ((k').fdiv ((Int.gcd k k':Nat):Int)),dg 4294967296 (((k').fdiv ((Int.gcd k k':Nat):Int))).natAbs⟩:Fr4)) (Mm h9.1 h9.2)
theorem Ym {p q:Rat}(hp:Sz 68719476736 p) (hq:Sz 68719476736 q):aE true Tryz.prog 57 [] [qF (.of p),qF (.of q)] (aT (qO (p+q))):=by
 refine bV Tryz.func57 rfl Tryz.ntmps57 rfl aF rfl fun N w c0 h0=>?_
 have z1:=(wM hp).len;have z2:=(wM hq).len;have z3:=(nH hp).len;have z4:=(nH hq).len
 have y1:(dg 4294967296 p.num.natAbs).length≤68719476736:=hp.1;have y2:(dg 4294967296 q.num.natAbs).length≤68719476736:=hq.1;have y3:(dg 4294967296 p.den).length≤68719476736:=hp.2;have y4:(dg 4294967296 q.den).length≤68719476736:=hq.2;have y5:(dg 4294967296 (p.den:Int).natAbs).length≤68719476736:=hp.2;have y6:(dg 4294967296 (q.den:Int).natAbs).length≤68719476736:=hq.2
 refine sq (rl (bx 0 ?_));refine bx 1 ?_;refine al 2 ?_;refine nl (sq (sq (rl (o1 ?_))));refine ld ?_;refine o1 ?_;refine ld ?_
 refine ca (Yl (nH hp) (nH hq) (by have h8:=mD (p.den:Int) (-(q.den:Int));have h7:=mC (q.den:Int);rw[Int.natAbs_natCast]at h7 h8;rw[Int.sub_eq_add_neg];omega)) EX ⟨aC rfl,aC rfl,rfl⟩ (.one (tv (.int .i64 ((p.den:Int)-(q.den:Int)).sign))) ?_
 refine o1 ?_;refine nl ?_;refine bF rfl (fun h1=>?_) (fun h1=>?_)
 ·refine sq ?_;refine cI [0,1,2] [8] ?_
  refine dv 0 ?_;refine aK 1 ?_;refine dv 2 ?_;refine aK 3 ?_;refine dv 5 ?_;refine aK 6 ?_;have hn2:=mD (p.num) (q.num)
  refine aS 4 rfl (LH (wM hp) (wM hq)) UA ⟨aC rfl,aC rfl,rfl⟩ (kF (p.num+q.num)) ?_
  refine kS 3 7 rfl (Li (Zg.of (k:=(p.num+q.num)) (by omega)) (nH hp) (by have h8:=p.den_nz;have h7:=q.den_nz;first | omega | exact Int.mul_ne_zero (by omega) (by omega))) TZ ⟨aC rfl,aC rfl,rfl⟩ ?_
  refine dst 8 ?_;refine aW ?_;refine rt ?_
  exact en (.inl rfl) rfl (bD (.agg (.cons (.id rfl) (.cons (.sl (trs:=aJ (dg 4294967296 (Rat.divInt ((p.num+q.num)) ((p.den:Int))).num.natAbs)) rfl rfl (bS _) (aV _)) (.cons (.id rfl) (.cons (.sl (trs:=aJ (dg 4294967296 (Rat.divInt ((p.num+q.num)) ((p.den:Int))).den)) rfl rfl (bS _) (aV _)) .nil)))))) (by decide) (fun _=>tA (Rat.divInt ((p.num+q.num)) ((p.den:Int)))) (by rw[show(Rat.divInt ((p.num+q.num)) ((p.den:Int)))=p+q from IH (by have h8:=Int.sign_eq_zero_iff_zero.1 h1;omega)];rfl)
 refine sk (sq ?_);refine cI [0,1,2] [17] ?_
 refine dv 0 ?_;refine aK 1 ?_;refine dv 2 ?_;refine aK 3 ?_;refine dv 5 ?_;refine aK 6 ?_;refine dv 7 ?_;refine aK 8 ?_;refine dv 11 ?_;refine aK 12 ?_;refine dv 13 ?_
 refine aK 14 ?_;have hn3:=gJ (p.num) ((q.den:Int))
 refine aS 4 rfl (Ml (wM hp) (nH hq)) Nx ⟨aC rfl,aC rfl,rfl⟩ (kF (p.num*(q.den:Int))) ?_;have hn4:=gJ (q.num) ((p.den:Int))
 refine aS 9 rfl (Ml (wM hq) (nH hp)) Nx ⟨aC rfl,aC rfl,rfl⟩ (kF (q.num*(p.den:Int))) ?_;have hn5:=mD ((p.num*(q.den:Int))) ((q.num*(p.den:Int)))
 refine aS 10 rfl (LH (Zg.of (k:=(p.num*(q.den:Int))) (by omega)) (Zg.of (k:=(q.num*(p.den:Int))) (by omega))) UA ⟨aC rfl,aC rfl,rfl⟩ (kF ((p.num*(q.den:Int))+(q.num*(p.den:Int)))) ?_
 have hn6:=gJ ((p.den:Int)) ((q.den:Int))
 refine aS 15 rfl (Ml (nH hp) (nH hq)) Nx ⟨aC rfl,aC rfl,rfl⟩ (kF ((p.den:Int)*(q.den:Int))) ?_
 refine kS 3 16 rfl (Li (Zg.of (k:=((p.num*(q.den:Int))+(q.num*(p.den:Int)))) (by omega)) (Zg.of (k:=((p.den:Int)*(q.den:Int))) (by omega)) (by have h8:=p.den_nz;have h7:=q.den_nz;first | omega | exact Int.mul_ne_zero (by omega) (by omega))) TZ ⟨aC rfl,aC rfl,rfl⟩ ?_
 refine dst 17 ?_;refine aW ?_;refine rt ?_
 exact en (.inl rfl) rfl (bD (.agg (.cons (.id rfl) (.cons (.sl (trs:=aJ (dg 4294967296 (Rat.divInt (((p.num*(q.den:Int))+(q.num*(p.den:Int)))) (((p.den:Int)*(q.den:Int)))).num.natAbs)) rfl rfl (bS _) (aV _)) (.cons (.id rfl) (.cons (.sl (trs:=aJ (dg 4294967296 (Rat.divInt (((p.num*(q.den:Int))+(q.num*(p.den:Int)))) (((p.den:Int)*(q.den:Int)))).den)) rfl rfl (bS _) (aV _)) .nil)))))) (by decide) (fun _=>tA (Rat.divInt (((p.num*(q.den:Int))+(q.num*(p.den:Int)))) (((p.den:Int)*(q.den:Int))))) (by rw[show(Rat.divInt (((p.num*(q.den:Int))+(q.num*(p.den:Int)))) (((p.den:Int)*(q.den:Int))))=p+q from tX p q];rfl)
theorem DB {k:Int}{f:FuncId}{args:List FV}(h:∀(N:Nat→Prop) (w:World) us,eG w N [] args us→(∀b,N b→b<w.heap.size)→Calls Tryz.prog f us.toArray w (UQ k w)):aE true Tryz.prog f [] args (aT (kO k)):=by
 intro N w cs us hL
 obtain⟨rfl,hf⟩:=Ac hL
 refine(h _ w us hf (fun b hb=>hb.1)).mono ?_
 rintro e W ⟨A,n,c,rfl,ho,hb⟩
 obtain⟨y1,a1,a2,a3,a4⟩:=Ab (N:=fun b=>true=false∧(b<W.heap.size∧b∉VT.fpL [])∧(N b∨w.heap.size≤b)) ho
 refine .mk0 (y:=[.w (.bool (aL k)),y1]) rfl hb (by simp only[VT.okL,VT.ok];exact⟨trivial,a3,trivial⟩) ?_ (fun b hb'=>?_) ?_
 ·simp only[VT.fpL,VT.fp,a4,List.nil_append,List.append_nil]
  exact Gh A n c
 ·simp only[VT.fpL,VT.fp,a4,List.nil_append,List.append_nil]at hb'
  exact ho.blk b hb'
 refine⟨by simp only[List.map_cons,List.map_nil,a1];rfl,?_⟩
 simp only[List.map_cons,List.map_nil,bU,CR,sU]
 exact⟨by simp[OR],lL (fun _ _=>rfl) (fun b hb=>absurd hb.1 (by simp)) _ _ a2,trivial⟩
theorem VC {n:Int}(h1:-9223372036854775808≤n) (h2:n≤9223372036854775807):aE true Tryz.prog 54 [] [.one (tv (.int .i64 n))] (aT (kO n)):=DB fun N w us hf hN=>by
 obtain⟨u,rfl,h3⟩:=IL hf
 obtain rfl:=bK (vY h3)
 exact UR n w h1 h2
theorem PD {m:Nat}:decide (((m:Int)-1).sign=0)=(m==1):=by
 rw[decide_eq_decide.2 Int.sign_eq_zero_iff_zero]
 rw[Bool.eq_iff_iff,decide_eq_true_eq,beq_iff_eq]
 omega
theorem Rj {z:Int}:0<z.sign↔0<z:=by
 rcases Int.lt_trichotomy z 0 with h | h | h
 ·rw[Int.sign_eq_neg_one_of_neg h];omega
 ·subst h;decide
 rw[Int.sign_eq_one_of_pos h];omega
theorem Rk:aE true Tryz.prog 55 [] [] (aT (kO 1)):=by
 refine bV Tryz.func55 rfl Tryz.ntmps55 rfl aF rfl fun N w c0 h0=>?_
 refine sq (rl (al 0 ?_));refine nl (sq (rl (iS 1 (VC (n:=1) (by omega) (by omega)) TX ⟨a1 rfl,rfl⟩ ?_)))
 refine st ?_;refine nl (rt ?_)
 exact en (.inl rfl) rfl (bD (.agg (.cons (.id rfl) (.cons (.sl (trs:=aJ (dg 4294967296 ((1:Int)).natAbs)) rfl rfl (bS _) (aV _)) .nil)))) (by decide) (fun _=>fW 1) rfl
theorem Rm {a:Fr4}{p:Rat}(ha:Qn a p):aE true Tryz.prog 68 [] [qF a] (aT (.one (tv (.bool (bY a.s a.x a.t a.y))))):=by
 refine bV Tryz.func68 rfl Tryz.ntmps68 rfl aF rfl fun N w c0 h0=>?_
 refine sq (rl (bx 0 ?_));refine o1 ?_;refine nl (sq (rl (o1 ?_)));refine ld ?_
 refine ca (Jm (a:=⟨a.s,a.x⟩) ((Oi ha).g)) HW ⟨aC rfl,rfl⟩ (.one (tv (.bool (eC a.s a.x)))) ?_;refine o1 ?_;refine WL.splitb (t:=6) rfl (fun h1=>?_) (fun h1=>?_)
 ·refine o1 ?_;refine ld ?_;refine ca (Jm (a:=⟨a.t,a.y⟩) ((zD ha).g)) HW ⟨aC rfl,rfl⟩ (.one (tv (.bool (eC a.t a.y)))) ?_;refine o1 ?_;refine o1 ?_
  refine WL.splitb (t:=11) rfl (fun h2=>?_) (fun h2=>?_)
  ·refine o1 ?_;refine ld ?_;refine ca (Gj (a:=⟨a.t,a.y⟩) ((zD ha).g)) Xu ⟨aC rfl,rfl⟩ (.one (tv (.int .i64 (fG a.t a.y).sign))) ?_;(iterate 3 refine o1 ?_)
   refine WL.split (t:=17) rfl (fun h3=>?_) (fun h3=>?_)
   ·refine o1 ?_;refine ld ?_;refine o1 ?_;refine ld ?_;have hpos:0<fG a.t a.y:=Rj.1 h3
    have hyl:(dg 4294967296 (fG a.t a.y).natAbs).length≤137438953472:=Zn.len (zD (p:=p) ha)
    have hgl9:(dg 4294967296 ((Int.gcd (fG a.s a.x) (fG a.t a.y):Nat):Int).natAbs).length≤137438953472:=Nat.le_trans (kG (Nat.le_of_dvd (by omega) (Nat.gcd_dvd_right ..))) hyl
    have hgl:(dg 4294967296 ((Int.gcd (fG a.s a.x) (fG a.t a.y):Nat):Int).natAbs).length≤300000000000:=Nat.le_trans hgl9 (by omega)
    refine ca (LI (a:=⟨a.s,a.x⟩) (b:=⟨a.t,a.y⟩) ((Oi ha).g) ((zD ha).g)) UB ⟨aC rfl,aC rfl,rfl⟩ (kF ((Int.gcd (fG a.s a.x) (fG a.t a.y):Nat):Int)) ?_
    refine ca (Rk) HV rfl (kF 1) ?_
    refine ca (Yl (Zg.of (k:=((Int.gcd (fG a.s a.x) (fG a.t a.y):Nat):Int)) hgl) (Zg.of (k:=1) (by decide)) (by have h8:=Qz ((Int.gcd (fG a.s a.x) (fG a.t a.y):Nat):Int) 1;have h7:(dg 4294967296 (1:Int).natAbs).length=1:=rfl;omega)) EX ⟨aC rfl,aC rfl,rfl⟩ (.one (tv (.int .i64 (((Int.gcd (fG a.s a.x) (fG a.t a.y):Nat):Int)-1).sign))) ?_
    (iterate 3 refine o1 ?_);refine nl (rt ?_)
    exact en (.inl rfl) rfl (bD (cX _)) (by decide) (fun _=>trivial) (congrArg (fun b=>FV.one (tv (.bool b))) (by unfold bY;rw[h1,h2,decide_eq_true hpos,←PD];rfl))
   (iterate 8 refine cY ?_);refine o1 ?_;refine o1 ?_;refine nl (rt ?_)
   exact en (.inl rfl) rfl (bD (cX _)) (by decide) (fun _=>trivial) (congrArg (fun b=>FV.one (tv (.bool b))) (by unfold bY;rw[h1,h2,decide_eq_false (fun h9=>h3 (Rj.2 h9))];rfl))
  (iterate 4 refine cY ?_);refine o1 ?_;refine o1 ?_;(iterate 8 refine cY ?_);refine o1 ?_;refine o1 ?_;refine nl (rt ?_)
  exact en (.inl rfl) rfl (bD (cX _)) (by decide) (fun _=>trivial) (congrArg (fun b=>FV.one (tv (.bool b))) (by unfold bY;rw[h1,h2];rfl))
 (iterate 3 refine cY ?_);refine o1 ?_;refine o1 ?_;(iterate 4 refine cY ?_);refine o1 ?_;refine o1 ?_;(iterate 8 refine cY ?_);refine o1 ?_;refine o1 ?_;refine nl (rt ?_)
 exact en (.inl rfl) rfl (bD (cX _)) (by decide) (fun _=>trivial) (congrArg (fun b=>FV.one (tv (.bool b))) (by unfold bY;rw[h1];rfl))
theorem r0G:FV.agg [tv (.bool false),.t (sU false []),tv (.bool (aL 1)),.t (sU false (dg 4294967296 (1:Int).natAbs))]=qF (.of 0):=rfl
theorem pV {a:Fr4}{p:Rat}(ha:Qn a p):aE false Tryz.prog 46 [] [qF a] (aT (qF (.of p))):=by
 refine bV Tryz.func46 rfl Tryz.ntmps46 rfl aF rfl fun N w c0 h0=>?_
 refine sq (rl (bx 0 ?_));refine al 1 ?_;refine nl (sq (sq (rl (ld ?_))))
 refine ca (Rm ha) EW ⟨aC rfl,rfl⟩ (.one (tv (.bool (bY a.s a.x a.t a.y)))) ?_;refine WL.splitb (t:=4) rfl (fun h1=>?_) (fun h1=>?_)
 ·refine o1 ?_;refine nl (dW rfl (sk (sq (rl (ld ?_)))));refine st ?_;refine nl (rt ?_)
  exact en (.inl rfl) rfl (bD (.agg (.cons (.id rfl) (.cons (.id rfl) (.cons (.id rfl) (.cons (.id rfl) .nil)))))) (by decide) (fun h=>by cases h) (by rw[ha.right h1];rfl)
 refine o1 ?_;refine nl (iC rfl (sq (rl (o1 ?_))));refine ca (Rk) HV rfl (kF 1) ?_;refine o1 ?_;refine st ?_;refine nl (rt ?_)
 have hq9:=ha.wrong h1
 subst hq9;exact en (.inl rfl) rfl (bD (.agg (.cons (.id rfl) (.cons .nilf (.cons (.id rfl) (.cons (.id rfl) .nil)))))) (by decide) (fun h=>by cases h) r0G
theorem VD {a b:Fr4}{p q:Rat}(ha:Qn a p) (hb:Qn b q):aE true Tryz.prog 25 [] [qF a,qF b] (aT (qO (p+q))):=by
 refine bV Tryz.func25 rfl Tryz.ntmps25 rfl aF rfl fun N w c0 h0=>?_
 refine sq (rl (bx 0 ?_));refine bx 1 ?_;refine al 2 ?_;refine nl (sq ?_);refine cI [0,1,2] [5] ?_
 refine aK 0 ?_;refine aK 2 ?_;refine aS 1 rfl (pV ha) lO ⟨aC rfl,rfl⟩ (qF (.of p)) ?_;refine aS 3 rfl (pV hb) lO ⟨aC rfl,rfl⟩ (qF (.of q)) ?_
 refine kS 3 4 rfl (Ym ha.sz hb.sz) wW ⟨aC rfl,aC rfl,rfl⟩ ?_;refine dst 5 ?_;refine aW ?_;refine rt ?_
 exact en (.inl rfl) rfl (bD (.agg (.cons (.id rfl) (.cons (.sl (trs:=aJ (dg 4294967296 (p+q).num.natAbs)) rfl rfl (bS _) (aV _)) (.cons (.id rfl) (.cons (.sl (trs:=aJ (dg 4294967296 (p+q).den)) rfl rfl (bS _) (aV _)) .nil)))))) (by decide) (fun _=>tA (p+q)) rfl
theorem PE {a:Fr4}{p:Rat}(ha:Qn a p):aE true Tryz.prog 20 [] [qF a] (aT (.one (tv (.int .i64 p.num.sign)))):=by
 refine bV Tryz.func20 rfl Tryz.ntmps20 rfl aF rfl fun N w c0 h0=>?_
 refine sq (rl (bx 0 ?_));refine o1 ?_;refine nl (sq (rl (ld ?_)));refine ca (pV ha) lO ⟨aC rfl,rfl⟩ (qF (.of p)) ?_;refine o1 ?_
 refine ca (Gj (Zg.of (k:=p.num) (Nat.le_trans ha.sz.1 (by omega)))) Xu ⟨aC rfl,rfl⟩ (.one (tv (.int .i64 p.num.sign))) ?_
 refine o1 ?_;refine nl (rt ?_);exact en (.inl rfl) rfl (bD (cX _)) (by decide) (fun _=>trivial) rfl
theorem DC {a:Fr4}{p:Rat}(ha:Qn a p):aE true Tryz.prog 56 [] [qF a] (aT (qO (-p))):=by
 refine bV Tryz.func56 rfl Tryz.ntmps56 rfl aF rfl fun N w c0 h0=>?_
 refine sq (rl (bx 0 ?_));refine al 1 ?_;refine nl (sq (rl (ld ?_)));refine ca (pV ha) lO ⟨aC rfl,rfl⟩ (qF (.of p)) ?_;refine st ?_
 refine nl (sq ?_);refine cI [0,1] [7] ?_
 refine dv 0 ?_;refine aK 1 ?_;refine dv 3 ?_;refine aK 4 ?_;refine kS 2 2 rfl (LG (Zg.of (k:=p.num) (Nat.le_trans ha.sz.1 (by omega)))) TY ⟨aC rfl,rfl⟩ ?_
 refine kS 3 5 rfl (YR (nH ha.sz)) aAY ⟨aC rfl,rfl⟩ ?_;refine df 6 ?_;refine dst 7 ?_;refine aW ?_;refine rt ?_;have hda:(((p.den:Int).natAbs:Nat):Int).natAbs=p.den:=rfl
 exact en (.inl rfl) rfl (bD (.agg (.cons (.id rfl) (.cons (.sl (trs:=aJ (dg 4294967296 (-(p.num)).natAbs)) rfl rfl (bS _) (aV _)) (.cons (.id rfl) (.cons (.sl (trs:=aJ (dg 4294967296 (((p.den:Int).natAbs:Nat):Int).natAbs)) rfl rfl (bS _) (aV _)) .nil)))))) (by decide) (fun _=>vJ (⟨_,dg 4294967296 (-(p.num)).natAbs,_,dg 4294967296 (((p.den:Int).natAbs:Nat):Int).natAbs⟩:Fr4)) (show FV.agg [tv (.bool (aL (-(p.num)))),.t (sU true (dg 4294967296 (-(p.num)).natAbs)),tv (.bool (aL (((p.den:Int).natAbs:Nat):Int))),.t (sU true (dg 4294967296 (((p.den:Int).natAbs:Nat):Int).natAbs))]=qO (-p) from Mm (q:=-p) (by simp) (by simp))
theorem JB {n:Int}(h1:-9223372036854775808≤n) (h2:n≤9223372036854775807):aE true Tryz.prog 23 [] [.one (tv (.int .i64 n))] (aT (qO ((n:Int):Rat))):=by
 refine bV Tryz.func23 rfl Tryz.ntmps23 rfl aF rfl fun N w c0 h0=>?_
 refine sq (rl (al 0 ?_));refine nl (sq (rl (o1 ?_)));refine iS 1 (VC (n:=n) h1 h2) TX ⟨a1 rfl,rfl⟩ ?_;refine iS 2 (Rk) HV rfl ?_
 refine o1 ?_;refine st ?_;refine nl (rt ?_)
 exact en (.inl rfl) rfl (bD (.agg (.cons (.id rfl) (.cons (.sl (trs:=aJ (dg 4294967296 n.natAbs)) rfl rfl (bS _) (aV _)) (.cons (.id rfl) (.cons (.sl (trs:=aJ (dg 4294967296 (1:Int).natAbs)) rfl rfl (bS _) (aV _)) .nil)))))) (by decide) (fun _=>vJ (⟨_,dg 4294967296 n.natAbs,_,dg 4294967296 (1:Int).natAbs⟩:Fr4)) (Mm (q:=((n:Int):Rat)) (n:=n) (d:=1) (by simp) (by simp))
theorem VE {a b:Fr4}{p q:Rat}(ha:Qn a p) (hb:Qn b q):aE true Tryz.prog 50 [] [qF a,qF b] (aT (qO (p-q))):=by
 refine bV Tryz.func50 rfl Tryz.ntmps50 rfl aF rfl fun N w c0 h0=>?_
 refine sq (rl (bx 0 ?_));refine bx 1 ?_;refine al 2 ?_;refine nl (sq ?_);refine cI [0,1,2] [5] ?_
 refine aK 0 ?_;refine aK 2 ?_;refine aS 1 rfl (pV ha) lO ⟨aC rfl,rfl⟩ (qF (.of p)) ?_;refine aS 3 rfl (DC hb) GL ⟨aC rfl,rfl⟩ (qF (.of (-q))) ?_
 refine kS 3 4 rfl (Ym ha.sz (sY hb.sz)) wW ⟨aC rfl,aC rfl,rfl⟩ ?_;refine dst 5 ?_;refine aW ?_;refine rt ?_
 exact en (.inl rfl) rfl (bD (.agg (.cons (.id rfl) (.cons (.sl (trs:=aJ (dg 4294967296 (p+-q).num.natAbs)) rfl rfl (bS _) (aV _)) (.cons (.id rfl) (.cons (.sl (trs:=aJ (dg 4294967296 (p+-q).den)) rfl rfl (bS _) (aV _)) .nil)))))) (by decide) (fun _=>tA (p+-q)) (by rw[Rat.sub_eq_add_neg];rfl)
section
variable {f:FuncId}{args:List FV}
end
section
variable {a b:Fr4}{p q:Rat}{x y:Zi}{k k':Int}
theorem Zq (h:Zn x k) (h':Zn y k'):aE true Tryz.prog 48 [] [gF x,gF y] (aT (kO (k*k'))):=Ml h.g h'.g
theorem QZ (h:Zn x k) (h':Zn y k'):aE true Tryz.prog 47 [] [gF x,gF y] (aT (.one (tv (.int .i64 (k-k').sign)))):=Yl h.g h'.g (by have:=Qz k k';have:=h.len;have:=h'.len;omega)
theorem xB (h:Qn a p) (h':Qn b q):aE true Tryz.prog 25 [] [qF a,qF b] (aT (qO (p+q))):=VD h h'
theorem wY (h:Qn a p) (h':Qn b q):aE true Tryz.prog 50 [] [qF a,qF b] (aT (qO (p-q))):=VE h h'
theorem iZ (h:Qn a p):aE true Tryz.prog 20 [] [qF a] (aT (.one (tv (.int .i64 p.num.sign)))):=PE h
theorem KG (hp:Sz 68719476736 p) (hq:Sz 68719476736 q):aE true Tryz.prog 57 [] [qF (.of p),qF (.of q)] (aT (qO (p+q))):=Ym hp hq
theorem Nv (ha:a.ok):aE true Tryz.prog 68 [] [qF a] (aT (.one (tv (.bool (bY a.s a.x a.t a.y))))):=Rm ⟨ha,rfl⟩
theorem eW {z:Int}(h1:-9223372036854775808≤z) (h2:z≤9223372036854775807):aE true Tryz.prog 23 [] [.one (tv (.int .i64 z))] (aT (qO (z:Rat))):=JB h1 h2
theorem vF (hp:Sz 68719476736 p):aE true Tryz.prog 57 [] [qF (.of p),qF (.of ((0:Int):Rat))] (aT (qO p)):=by
 have:=KG hp ((vC (z:=0) (by omega) (by omega)).mono (by omega))
 rwa[show p+((0:Int):Rat)=p from Rat.add_zero p]at this
theorem RB (h:Qn a p):aE true Tryz.prog 25 [] [qF a,qF (.of ((0:Int):Rat))] (aT (qO p)):=by
 have:=xB h (Qn.of (p:=((0:Int):Rat)) ((vC (z:=0) (by omega) (by omega)).mono (M:=68719476736) (by omega)))
 rwa[show p+((0:Int):Rat)=p from Rat.add_zero p]at this
theorem tT (p:Rat) (l:List Rat) (q:Rat):aO p (l++[q])=if q<aO p l then q else aO p l:=by
 unfold aO
 rw[List.foldl_append]
 rfl
end
def DD (x:Rat):Rat:=dY x [0]
theorem Rn (x:Rat):DD x=if x<0 then 0 else x:=rfl
theorem VF (x:Rat):0≤DD x:=by rw[Rn];split <;> grind
theorem VG {x:Rat}(h:0≤x):DD x=x:=by rw[Rn];split <;> grind
section
variable {x y:Zi}{k k':Int}
theorem KE {a:Fr4}{p:Rat}(h:Qn a p):aE true Tryz.prog 56 [] [qF a] (aT (qO (-p))):=DC h
theorem Kh (p:Rat) (l:List Rat) (q:Rat):dY p (l++[q])=if dY p l<q then q else dY p l:=by
 unfold dY
 rw[List.foldl_append]
 rfl
theorem den_nz (p q:Rat):(p.den:Int)*(q.den:Int)≠0:=by
 have h1:=p.den_pos
 have h2:=q.den_pos
 exact Int.ne_of_gt (Int.mul_pos (by omega) (by omega))
theorem Ro {L:Nat}{k:Int}(h:wK L k):wK L (-k):=by
 unfold wK
 rw[Int.natAbs_neg]
 exact h
theorem Gk {n:Int}(h1:-9223372036854775808≤n) (h2:n≤9223372036854775807):wK 2 n:=vK h1 h2
theorem xG {n d:Int}(h1:-9223372036854775808≤n) (h2:n≤9223372036854775807) (h3:-9223372036854775808≤d) (h4:d≤9223372036854775807):Sz 2 (Rat.divInt n d):=by
 rcases Int.lt_trichotomy d 0 with hd | hd | hd
 ·rw[←Rat.neg_divInt_neg]
  obtain⟨e1,e2⟩:=uI (a:=-n) (b:=-d) (L:=2) (M:=2) (by omega) (Ro (Gk h1 h2)) (Ro (Gk h3 h4))
  exact⟨e1,e2⟩
 ·subst hd
  rw[Rat.divInt_zero]
  exact⟨Nat.zero_le _,by decide⟩
 obtain⟨e1,e2⟩:=uI (a:=n) (b:=d) (L:=2) (M:=2) hd (Gk h1 h2) (Gk h3 h4)
 exact⟨e1,e2⟩
end
def fl (q:Rat):Int:=q.floor
section
variable {f:Nat→Rat}{x y z:Nat}
end
section
variable {f:Nat→Rat}{n i s t:Nat}
variable {b:Int}
end
section
variable {l:List Rat}{i k t:Nat}
end
section
variable {l:List Rat}{i k:Nat}
end
section
variable {l l':List Nat}{i j:Nat}
end
section
variable {x:Cx}{g:Nat→FV}{ob ob':List (Option Ob)}{cs:List Co}{ts:Array Value}{W:World}{T:List (Nat×TI)}{Q:Post}{ops:Array Oper}{rest:List Oper}{d:Nat}{ty:TypeId}{pos:String}{af:Array Edge}{gd:Option (Nat×Bool)}
end
theorem gO {fresh:Bool}{x:Cx}{T:List (Nat×TI)}{rv:List ResultVar}{e:Exit}{g:Nat→FV}{ob:List (Option Ob)}{b b':Bool}(he:e=.ret∨e=.normal) (res:uS T x.n g ob rv=some [.one (tv (.bool b))]) (hb:b=b'):rH x T rv fresh [] (aT (.one (tv (.bool b')))) e g ob:=en he res (bD (cX _)) (by decide) (fun _=>trivial) (by rw[hb];rfl)
theorem uA {b b':Bool}(h:b=b'):some (FV.one (tv (.bool b)))=some (FV.one (tv (.bool b'))):=by rw[h]
theorem Mc {f:Nat→Bool}{k:Nat}{b:Bool}(h:∀j,j<k→f j=b) (h2:f k=b):∀j,j<k+1→f j=b:=fun j hj=>by
 rcases Nat.lt_succ_iff_lt_or_eq.1 hj with h9 | h9
 ·exact h j h9
 rw[h9];exact h2
theorem f0 {f:Nat→Bool}{b:Bool}:∀j,j<0→f j=b:=fun j hj=>absurd hj (Nat.not_lt_zero j)
theorem oG {k:IntKind}{a b:Int}(h:a=b):some (FV.one (tv (.int k a)))=some (FV.one (tv (.int k b))):=by rw[h]
section
variable {x:Cx}{g g':Nat→FV}{ob ob':List (Option Ob)}{cs cs':List Co}{ts ts':Array Value}{W W' W1:World}{Q:Post}{ops:Array Oper}{late:Nat→Bool}{K fr fr':List Nat}{on:Bool}{fuel:Nat}{listed listed':Array Bool}
end
section
variable {x:Cx}{g:Nat→FV}{ob ob':List (Option Ob)}{Q:Post}{ops:Array Oper}{rest:List Oper}{d:Nat}{op:Op}{ty:TypeId}{pos:String}{af:Array Edge}{gd:Option (Nat×Bool)}{C:Prop}{v:FV}{T:List (Nat×TI)}
end
section
variable {x:Cx}{g g':Nat→FV}{ob ob':List (Option Ob)}{Q:Post}{ops:Array Oper}{rest:List Oper}{d:Nat}{op:Op}{ty:TypeId}{pos:String}{af:Array Edge}{gd:Option (Nat×Bool)}
theorem Rp {fresh:Bool}{f:FuncId}{args:List FV}{lent lent':List Lt}{K:List Nat}{aa:Array Operand}{ats:Array TypeId}{i o k:Nat}{ok:List (Option Ob)}(hS:aE fresh x.P f lent args (Rt lent' (.one (.pt i o)))) (hf:CallOk x.P f) (hK:eQ ob K K lent) (hnd:K.Nodup) (ha:kM x.n g K aa.toList args) (hi:K[i]? =some k) (hbk:eH K lent' ok):
  OS x ⟨some d,.call ⟨.value (.func f),aa,ats⟩,ty,pos,af,gd⟩ g ob K (fun g' ob'=>g'=bH g d (.one (.pt k o))∧ob'=cE ob K ok):=by
 intro cs ts W hR K' Q kk
 obtain⟨us0,us,e0,hfst,hcap⟩:=tZ (x:=x) (g:=g) f ob cs ts W hR
 have e:dE []++args++dE []=args:=by simp[dE]
 unfold Oper.wp
 rw[kV hf e0]
 refine(xZ (fst:=[]) (caps:=[]) (by rw[e];exact hS) hK hnd ha hfst hcap hR).mono fun e W' hE=>?_
 obtain⟨v,lent',r,ys,cl,N2,rfl,hr,hl1,hl2,hro,hok,hndy,fin⟩:=hE
 obtain⟨rfl,rfl⟩:=hr
 obtain⟨hN,hfin⟩:=fin ok hbk [] [] rfl (fun b=>by simp[aQ]) (by simp[aQ])
 obtain⟨m1,m2⟩:=hfin (fun i o h=>by simp at h)
 have hkl:k<cs.length:=by
  obtain⟨a,l',_,_,h2⟩:=lG hK hi
  have:=(List.getElem?_eq_some_iff.1 h2).1
  rw[←hR.len]
  exact this
 simp only[List.map_nil,List.append_nil]at m1 m2
 refine kk _ _ _ _ _ ⟨rfl,rfl⟩ (m1.put d ?_) ((m2 (some d)).then_put v)
 obtain⟨z,rfl,rfl,hz⟩:=hro
 cases z with
 | s b c t z n l=>simp only[CR]at hz
 | p b t l=>simp only[CR]at hz
 | w u=>
  simp only[CR,AR]at hz
  simp only[bO,cD,AR,VT.val]
  rw[Bv hnd hl2 hi hkl]
  exact hz
theorem clp {fresh:Bool}{f:FuncId}{args:List FV}{lent lent':List Lt}{aa:Array Operand}{ats:Array TypeId}{i o ky:Nat}(K:List Nat) (hS:aE fresh x.P f lent args (Rt lent' (.one (.pt i o)))) (hf:CallOk x.P f) (hK:eQ ob K K lent) (ha:kM x.n g K aa.toList args){ok:List (Option Ob)}(hbk:eH K lent' ok) (k:WL x ops rest (bH g d (.one (.pt ky o))) (cE ob K ok) Q) (hi:K[i]? =some ky:=by rfl) (hw:bI ops x.n g gd=some true:=by rfl) (hnd:K.Nodup:=by decide):
  WL x ops (⟨some d,.call ⟨.value (.func f),aa,ats⟩,ty,pos,af,gd⟩::rest) g ob Q:=
 jT (Rp hS hf hK hnd ha hi hbk) hw (by rintro _ _ ⟨rfl,rfl⟩;exact k)
theorem aBa {late:Nat→Bool}{K fr:List Nat}{fuel:Nat}{listed:Array Bool}{fresh:Bool}{f:FuncId}{args:List FV}{lent lent':List Lt}{aa:Array Operand}{ats:Array TypeId}{j o ky:Nat}(i:Nat) (Kl:List Nat) (hi:ops[i]? =some ⟨some d,.call ⟨.value (.func f),aa,ats⟩,ty,pos,af,gd⟩) (hS:aE fresh x.P f lent args (Rt lent' (.one (.pt j o)))) (hf:CallOk x.P f) (hK:eQ ob Kl Kl lent) (ha:kM x.n g Kl aa.toList args){ok:List (Option Ob)}(hbk:eH Kl lent' ok) (hke:jA ob (cE ob Kl ok) K) (k:WD x ops Q late K (d::fr) true fuel (listed.setIfInBounds i true) (bH g d (.one (.pt ky o))) (cE ob Kl ok)) (hj:Kl[j]? =some ky:=by rfl) (hw:bI ops x.n g gd=some true:=by rfl) (hnd:Kl.Nodup:=by decide) (hdis:∀k∈K,k∉Kl:=by decide):
  WO x ops Q late K fr true fuel listed i g ob:=by
 refine El i hi rfl hw (Rp hS hf hK hnd ha hj hbk) hdis ?_ ?_
 ·rintro _ _ ⟨rfl,rfl⟩
  exact⟨⟨_,rfl⟩,gN hke⟩
 rintro _ _ ⟨rfl,rfl⟩
 exact k
theorem SZ {late:Nat→Bool}{K fr:List Nat}{fuel:Nat}{listed:Array Bool}{fresh:Bool}{f:FuncId}{args:List FV}{lent lent':List Lt}{aa:Array Operand}{ats:Array TypeId}{j o ky:Nat}(i:Nat) (Kl:List Nat) (hi:ops[i]? =some ⟨some d,.call ⟨.value (.func f),aa,ats⟩,ty,pos,af,gd⟩) (hS:aE fresh x.P f lent args (Rt lent' (.one (.pt j o)))) (hf:CallOk x.P f) (hK:eQ ob Kl Kl lent) (ha:kM x.n g Kl aa.toList args){ok:List (Option Ob)}(hbk:eH Kl lent' ok) (hke:jA ob (cE ob Kl ok) K) (k:WD x ops Q late K (d::fr) true fuel (listed.setIfInBounds i true) (bH g d (.one (.pt ky o))) (cE ob Kl ok)) (hr:Region.ready .any ops listed=[i]:=by kernel_rfl) (hj:Kl[j]? =some ky:=by rfl) (hw:bI ops x.n g gd=some true:=by rfl) (hnd:Kl.Nodup:=by decide) (hdis:∀k∈K,k∉Kl:=by decide):
  WD x ops Q late K fr true (fuel+1) listed g ob:=WO.one hr (aBa i Kl hi hS hf hK ha hbk hke k hj hw hnd hdis)
end
theorem Er (a b:Rat):aO a [b]=if b<a then b else a:=rfl
theorem pS (a b:Rat):aO a [b]≤a:=by rw[Er];split <;> grind
theorem pU (a b:Rat):aO a [b]≤b:=by rw[Er];split <;> grind
def Mu (D:Nat) (q:Rat):Prop:=∃k:Int,q*(D:Rat)=(k:Rat)
section
variable {D E:Nat}{p q:Rat}
theorem Mu.zero:Mu D 0:=⟨0,by simp⟩
theorem Mu.add (h:Mu D p) (h':Mu D q):Mu D (p+q):=by
 obtain⟨a,ha⟩:=h
 obtain⟨b,hb⟩:=h'
 exact⟨a+b,by rw[Rat.add_mul,ha,hb,Rat.intCast_add]⟩
theorem Mu.neg (h:Mu D p):Mu D (-p):=by
 obtain⟨a,ha⟩:=h
 exact⟨-a,by rw[Rat.neg_mul,ha,Rat.intCast_neg]⟩
theorem Mu.sub (h:Mu D p) (h':Mu D q):Mu D (p-q):=by
 rw[Rat.sub_eq_add_neg]
 exact h.add h'.neg
theorem Mu.up (h:Mu D p):Mu (E*D) p:=by
 obtain⟨a,ha⟩:=h
 refine⟨(E:Int)*a,?_⟩
 rw[Rat.intCast_mul,←ha,Rat.natCast_mul]
 show p*((E:Rat)*(D:Rat))=((E:Int):Rat)*(p*(D:Rat))
 have:((E:Int):Rat)=(E:Rat):=rfl
 grind
theorem Mu.up' (h:Mu D p):Mu (D*E) p:=by
 rw[Nat.mul_comm]
 exact h.up
theorem VH (q:Rat):q*(q.den:Rat)=(q.num:Rat):=by
 have h:=Rat.num_divInt_den q
 have h2:Rat.divInt q.num (q.den:Int)=(q.num:Rat)/((q.den:Int):Rat):=Rat.divInt_eq_div _ _
 have h3:((q.den:Int):Rat)=(q.den:Rat):=rfl
 have h4:(q.den:Rat)≠0:=by
  have:=q.den_pos
  intro h
  have:q.den=0:=by exact_mod_cast h
  omega
 rw[h2,h3]at h
 have h6:(q.num:Rat)/(q.den:Rat)*(q.den:Rat)=(q.num:Rat):=Rat.div_mul_cancel h4
 rwa[h]at h6
theorem Mu.self (p:Rat):Mu p.den p:=⟨p.num,VH p⟩
theorem Mu.min (h:Mu D p) (h':Mu D q):Mu D (aO p [q]):=by
 rw[Er]
 split
 ·exact h'
 exact h
theorem Mu.sz {L B:Nat}(h:Mu D p) (h0:0≤p) (hB:p≤(B:Rat)) (hD:0<D) (hL:(dg 4294967296 B).length+(dg 4294967296 D).length≤L):Sz L p:=by
 obtain⟨k,hk⟩:=h
 have hD':(0:Rat)<(D:Rat):=by exact_mod_cast hD
 have hp:p=Rat.divInt k D:=by
  have h2:Rat.divInt k (D:Int)=(k:Rat)/((D:Int):Rat):=Rat.divInt_eq_div k D
  rw[h2,←hk,show(((D:Nat):Int):Rat)=(D:Rat) from rfl,Rat.mul_div_cancel (by grind)]
 have h1:(0:Rat)≤(k:Rat):=by rw[←hk];exact Rat.mul_nonneg h0 (by grind)
 have hk0:0≤k:=by exact_mod_cast h1
 have h3:(k:Rat)≤((B:Rat)*(D:Rat)):=by rw[←hk];exact Rat.mul_le_mul_of_nonneg_right hB (by grind)
 have h4:(k:Rat)≤(((B*D:Nat):Int):Rat):=by
  have e:(((B*D:Nat):Int):Rat)=(B:Rat)*(D:Rat):=by
   show((B*D:Nat):Rat)=_
   exact Rat.natCast_mul ..
  rw[e]
  exact h3
 have h5:k≤((B*D:Nat):Int):=by exact_mod_cast h4
 obtain⟨e1,e2⟩:=uI (a:=k) (b:=D) (L:=L) (M:=L) (by omega) (Nat.le_trans (kG (show k.natAbs≤B*D by omega)) (Nat.le_trans (pH B D) hL)) (by unfold wK;rw[Int.natAbs_natCast];omega)
 rw[hp]
 exact⟨e1,e2⟩
end
theorem VI {q:Rat}{B:Nat}(h:q.num.natAbs≤B):q≤(B:Rat):=by
 rcases Rat.le_total (a:=q) (b:=0)with h0 | h0
 ·exact Rat.le_trans h0 (by exact_mod_cast Nat.zero_le B)
 have h1:q*(q.den:Rat)=(q.num:Rat):=VH q
 have h2:(1:Rat)≤(q.den:Rat):=by exact_mod_cast q.den_pos
 have h3:q*1≤q*(q.den:Rat):=Rat.mul_le_mul_of_nonneg_left h2 h0
 have h4:(q.num:Rat)≤(B:Rat):=by
  have:q.num≤(B:Int):=by omega
  exact_mod_cast this
 grind
def BB:Nat:=340282366920938463463374607431768211456
theorem Yn {q:Rat}(h:Sz 4 q):q≤(BB:Rat):=by
 refine VI ?_
 have h1:=rP (B:=4294967296) (by omega) (n:=q.num.natAbs)
 have h2:(4294967296:Nat)^(dg 4294967296 q.num.natAbs).length≤4294967296^4:=Nat.pow_le_pow_right (by omega) h.1
 have h3:(4294967296:Nat)^4=BB:=by decide
 omega
theorem VJ:(dg 4294967296 BB).length≤5:=dR (by omega) (by decide)
def sR (t:Nat) (us:List (Int×Rat)):Tr:=.s true t 5 us.length (us.flatMap (cZ false))
def sO (t:Nat) (us:List (Int×Rat)):Tr:=.s true t 5 us.length (us.flatMap (cZ true))
def eL (us:List (Int×Rat)):List AV:=(us.flatMap (cZ false)).map .t
def qT (us:List (Int×Rat)):List AV:=(us.flatMap (cZ true)).map .t
section
variable {us vs:List (Int×Rat)}{k:Nat}{x:Int×Rat}
theorem mP (us:List (Int×Rat)):(eL us).length=us.length*5:=by rw[eL,dB,bL]
theorem vI (us:List (Int×Rat)):(qT us).length=us.length*5:=by rw[qT,dB,bL]
theorem Og (us:List (Int×Rat)) (x:Int×Rat):eL us++(cZ false x).map .t=eL (us++[x]):=by simp[eL,List.flatMap_append]
theorem JC (us:List (Int×Rat)) (x:Int×Rat):qT us++(cZ true x).map .t=qT (us++[x]):=by simp[qT,List.flatMap_append]
theorem Eu (h:k<us.length):((eL us).drop (0+k*5)).take ((cZ false (aH us k)).map AV.t).length=(cZ false (aH us k)).map .t:=by
 rw[eL,←List.map_drop,←List.map_take,Nat.zero_add,dB,vH false h]
theorem Ly (h:k<us.length):((eL us).drop (0+k*5+1)).take (((Fr4.of (aH us k).2).tr false).map AV.t).length=((Fr4.of (aH us k).2).tr false).map .t:=by
 rw[eL,←List.map_drop,←List.map_take,Nat.zero_add,dB,YM false h]
theorem Ww (h:k<us.length):(eL us)[0+k*5]? =some (tv (.int .i64 (aH us k).1)):=by
 have h1:=congrArg (·[0]?) (Eu h)
 simp only[List.getElem?_take,List.getElem?_drop]at h1
 simpa[cZ,tv]using h1
theorem RE (h:k<us.length):0+k*5+5≤(eL us).length:=by rw[mP];omega
theorem Tu {q:Rat}(h:k<us.length):0+k*5+1+(((Fr4.of q).tr false).map AV.t).length≤(eL us).length:=by
 rw[mP]
 show 0+k*5+1+4≤_
 omega
theorem Lj (us:List (Int×Rat)) (k:Nat):(us.flatMap (cZ false)).take (k*5)=(us.take k).flatMap (cZ false):=by
 by_cases h:k≤us.length
 ·conv=>lhs;rw[←List.take_append_drop k us,List.flatMap_append]
  exact List.take_left' (by rw[bL,eJ,Nat.min_eq_left h])
 rw[fF (by rw[bL];omega),fF (by omega)]
theorem DF (us:List (Int×Rat)) (k:Nat):(us.flatMap (cZ false)).drop (k*5)=(us.drop k).flatMap (cZ false):=by
 by_cases h:k≤us.length
 ·conv=>lhs;rw[←List.take_append_drop k us,List.flatMap_append]
  exact List.drop_left' (by rw[bL,eJ,Nat.min_eq_left h])
 rw[List.drop_of_length_le (by rw[bL];omega),List.drop_of_length_le (by omega)]
 rfl
theorem JV (h:k<us.length):eT (eL us) (0+k*5) ((cZ false x).map AV.t)=eL (us.set k x):=by
 have e:k*5+((cZ false x).map AV.t).length=(k+1)*5:=by show k*5+5=_;omega
 rw[Nat.zero_add]
 unfold eT eL
 rw[e,←List.map_take,←List.map_drop,Lj,DF,←List.map_append,←List.map_append,List.set_eq_take_append_cons_drop,if_pos h]
 simp[List.flatMap_append]
theorem JW {q:Rat}(h:k<us.length):eT (eL us) (0+k*5+1) (((Fr4.of q).tr false).map AV.t)=eL (us.set k ((aH us k).1,q)):=by
 rw[←JV h]
 have h1:(eL us).take (0+k*5+1)=(eL us).take (0+k*5)++[tv (.int .i64 (aH us k).1)]:=by
  rw[List.take_add_one,Ww h]
  rfl
 unfold eT
 rw[h1]
 have e:0+k*5+1+(((Fr4.of q).tr false).map AV.t).length=0+k*5+((cZ false ((aH us k).1,q)).map AV.t).length:=by show 0+k*5+1+4=0+k*5+5;omega
 rw[e]
 simp[cZ,tv]
theorem JD (us:List (Int×Rat)) (k:Nat):(eL us).take (k*5)=((us.take k).flatMap (cZ false)).map .t:=by rw[eL,←List.map_take,Lj]
theorem aN (l:List Tr) (n:Nat) (h:l.length=n):(l.map AV.t).take n=l.map .t:=fF (by simp[h])
theorem Av (o:Bool) (us:List (Int×Rat)):rdTL (us.flatMap (cZ o))=us.flatMap (cZ false):=by
 have app:∀a b:List Tr,rdTL (a++b)=rdTL a++rdTL b:=by
  intro a b
  induction a with
  | nil=>rfl
  | cons x a ih=>simp[rdTL,ih]
 have u32:∀xs:List Nat,rdTL (aJ xs)=aJ xs:=by
  intro xs
  induction xs with
  | nil=>rfl
  | cons x xs ih=>simpa[aJ,rdTL,oF]using ih
 induction us with
 | nil=>rfl
 | cons x us ih=>
  show rdTL (cZ o x++us.flatMap (cZ o))=cZ false x++us.flatMap (cZ false)
  rw[app,ih]
  simp[cZ,Fr4.tr,rdTL,oF,sU,u32]
theorem Ts (us:List (Int×Rat)):NoFrL (us.flatMap (cZ true)):=by
 have app:∀a b:List Tr,NoFrL a→NoFrL b→NoFrL (a++b):=by
  intro a b ha hb
  induction a with
  | nil=>exact hb
  | cons x a ih=>
   simp only[NoFrL]at ha
   simp only[List.cons_append,NoFrL]
   exact⟨ha.1,ih ha.2⟩
 induction us with
 | nil=>simp[NoFrL]
 | cons x us ih=>
  rw[List.flatMap_cons]
  refine app _ _ ?_ ih
  simp only[cZ,Fr4.tr,sU,NoFrL,nZ]
  exact⟨trivial,trivial,.inl ⟨trivial,gA _⟩,trivial,.inl ⟨trivial,gA _⟩,trivial⟩
theorem MJ (t:Nat) (us:List (Int×Rat)):lD (.one (.t (sO t us))):=.inl ⟨rfl,Ts us⟩
theorem EZ (x:Int×Rat):lD (.agg ((cZ true x).map .t)):=by
 simp only[lD,rD,cZ,Fr4.tr,sU,List.map_cons,List.map_nil,mJ,uH,nZ]
 exact⟨trivial,trivial,.inl ⟨trivial,gA _⟩,trivial,.inl ⟨trivial,gA _⟩,trivial⟩
end
section
variable {x:Cx}{g:Nat→FV}{ob:List (Option Ob)}
theorem RC {j k1 k2 e:Nat}{us:List (Int×Rat)}{y:Int}{q:Rat}(hn:Nat.beq k1 k2=false) (h1:Nat.beq j k1=false) (h2:Nat.beq j k2=false) (ho:cT ob j=some ⟨e,5,qT us++[tv (.int .i64 y),tv (.bool (aL q.num)),.sl k1 0 (dg 4294967296 q.num.natAbs).length,tv (.bool false),.sl k2 0 (dg 4294967296 q.den).length]⟩)
  (o1:cT ob k1=some ⟨113,1,(aJ (dg 4294967296 q.num.natAbs)).map .t⟩) (o2:cT ob k2=some ⟨113,1,(aJ (dg 4294967296 q.den)).map .t⟩):Sub x g ob g ((((ob.set j (some ⟨e,5,qT us++[tv (.int .i64 y),tv (.bool (aL q.num)),.t (sU true (dg 4294967296 q.num.natAbs)),tv (.bool false),.sl k2 0 (dg 4294967296 q.den).length]⟩)).set k1 none).set j (some ⟨e,5,qT (us++[(y,q)])⟩)).set k2 none):=by
 have hk:∀{l:List (Option Ob)}{i m:Nat}{o:Option Ob},Nat.beq i m=false→cT (l.set i o) m=cT l m:=fun{l i m o} h=>by
  unfold cT
  rw[List.getElem?_set_ne (fun e=>by subst e;simp at h)]
 have hjl:=(List.getElem?_eq_some_iff.1 (dM ho)).1
 have hk1l:=(List.getElem?_eq_some_iff.1 (dM o1)).1
 have hb:∀{a b:Nat},Nat.beq a b=false→Nat.beq b a=false:=fun{a b} h=>by
  cases hq:Nat.beq b a
  ·rfl
  rw[Nat.eq_of_beq_eq_true hq]at h
  simp at h
 have hlen:=vI us
 have s1:=iJ (x:=x) (g:=g) (ob:=ob) (j:=j) (k:=k1) (p:=us.length*5+2) (e:=113) (z:=1) (n:=(dg 4294967296 q.num.natAbs).length) (trs:=aJ (dg 4294967296 q.num.natAbs)) h1 rfl ho o1 (by rw[List.getElem?_append_right (by omega)];simp[hlen]) (bS _) (aV _)
  (l':=qT us++[tv (.int .i64 y),tv (.bool (aL q.num)),.t (sU true (dg 4294967296 q.num.natAbs)),tv (.bool false),.sl k2 0 (dg 4294967296 q.den).length]) (by rw[List.set_append_right _ _ (by omega),hlen,show us.length*5+2-us.length*5=2 by omega];rfl)
 have s2:=iJ (x:=x) (g:=g) (ob:=(ob.set j (some ⟨e,5,qT us++[tv (.int .i64 y),tv (.bool (aL q.num)),.t (sU true (dg 4294967296 q.num.natAbs)),tv (.bool false),.sl k2 0 (dg 4294967296 q.den).length]⟩)).set k1 none) (j:=j) (k:=k2) (p:=us.length*5+4) (e:=113) (z:=1) (n:=(dg 4294967296 q.den).length) (trs:=aJ (dg 4294967296 q.den)) (t':=e) (z':=5) h2 rfl
  (by rw[hk (hb h1)];unfold cT;rw[List.getElem?_set_self hjl]) (by rw[hk hn,hk h2];exact o2) (by rw[List.getElem?_append_right (by omega)];simp[hlen]) (bS _) (aV _)
  (l':=qT (us++[(y,q)])) (by rw[List.set_append_right _ _ (by omega),hlen,show us.length*5+4-us.length*5=4 by omega,←JC];rfl)
 exact fun ts W hR=>s2 ts W (s1 ts W hR)
end
def kN (dl:Int×Rat→Bool):List (Int×Rat)→Nat
 | []=>0
 | x::l=>if dl x then 0 else kN dl l+1
def eS (dl:Int×Rat→Bool) (vs:List (Int×Rat)):List (Int×Rat):=vs.filter fun x=> !dl x
def zV:List Value:=[.int .i64 0,.bool false,.slice none 0 0,.bool false,.slice none 0 0]
def oT (vs F:List (Int×Rat)):List Tr:=F.flatMap (cZ false)++(iQ zV (vs.length-F.length)).map .v
section
variable {dl:Int×Rat→Bool}{vs us:List (Int×Rat)}{i j k:Nat}
theorem Ny:∀(vs:List (Int×Rat)),kN dl vs≤vs.length
 | []=>bC _
 | x::l=>by
  have:=Ny l
  unfold kN
  split <;> simp <;> omega
theorem wX:∀{vs:List (Int×Rat)}{k:Nat},k≤kN dl vs→k<vs.length→(dl (aH vs k)=true→kN dl vs=k)∧(dl (aH vs k)=false→k+1≤kN dl vs)
 | [],_,_,h=>by simp at h
 | x::l,0,_,_=>by
  have e:aH (x::l) 0=x:=rfl
  rw[e]
  unfold kN
  constructor
  ·intro h;simp[h]
  intro h;simp[h]
 | x::l,k+1,h,h2=>by
  have e:aH (x::l) (k+1)=aH l k:=by simp[aH]
  rw[e]
  unfold kN at h⊢
  by_cases hx:dl x=true
  ·simp[hx]at h
  simp only[if_neg hx]at h⊢
  have:=wX (vs:=l) (k:=k) (by omega) (by simpa using h2)
  exact⟨fun h=>by rw[this.1 h],fun h=>by have:=this.2 h;omega⟩
theorem Ec:∀{vs:List (Int×Rat)}{k:Nat},k≤kN dl vs→(vs.take k).filter (fun x=> !dl x)=vs.take k
 | vs,0,_=>by simp
 | [],k+1,_=>by simp
 | x::l,k+1,h=>by
  unfold kN at h
  by_cases hx:dl x=true
  ·simp[hx]at h
  simp only[if_neg hx]at h
  have:=Ec (vs:=l) (k:=k) (by omega)
  simp[hx,this]
theorem Od (h:kN dl vs=vs.length):eS dl vs=vs:=by
 have:=Ec (dl:=dl) (vs:=vs) (k:=vs.length) (by omega)
 rwa[fF (bC _)]at this
theorem Dl (h:k<us.length) (x:Int×Rat):aH (us.set k x) k=x:=by simp[aH,h]
theorem Zx (h:kN dl vs<vs.length):vs.take (kN dl vs)=(vs.take (kN dl vs+1)).filter (fun x=> !dl x):=by
 have h1:dl (aH vs (kN dl vs))=true:=by
  cases hq:dl (aH vs (kN dl vs))with
  | true=>rfl
  | false=>
   have:=(wX (bC _) h).2 hq
   omega
 rw[lY h,List.filter_append,Ec (bC _)]
 simp[h1]
theorem FB (h:us.take i=(vs.take j).filter (fun x=> !dl x)) (hj:j<vs.length) (hx:dl (aH vs j)=false) (hi:i<us.length):(us.set i (aH vs j)).take (i+1)=(vs.take (j+1)).filter (fun x=> !dl x):=by
 rw[lY (by simpa using hi),List.take_set_of_le (bC _),h,Dl hi,lY hj,List.filter_append]
 simp[hx]
theorem FA (h:us.take i=(vs.take j).filter (fun x=> !dl x)) (hj:j<vs.length) (hx:dl (aH vs j)=true):us.take i=(vs.take (j+1)).filter (fun x=> !dl x):=by
 rw[h,lY hj,List.filter_append]
 simp[hx]
theorem RF (h:i≠j) (x:Int×Rat):aH (us.set i x) j=aH us j:=by simp[aH,List.getElem?_set_ne h]
theorem Zy (hul:us.length=vs.length) (hi:i≤us.length) (h:us.take i=eS dl vs):eT (eL us) (0+i*5) ((iQ zV (us.length-i)).map tv)=(oT vs (eS dl vs)).map .t:=by
 have hl:(eS dl vs).length=i:=by rw[←h,eJ,Nat.min_eq_left hi]
 unfold eT oT
 rw[Nat.zero_add,JD,h,List.drop_of_length_le (by rw[mP,dB,tG];show us.length*5≤i*5+(us.length-i)*5;omega),List.append_nil,hl,hul]
 simp[tv]
theorem Zz (h:eS dl vs=vs):eL vs=(oT vs (eS dl vs)).map .t:=by
 unfold oT
 rw[h,Nat.sub_self]
 simp[iQ,eL]
theorem Wu (vs F:List (Int×Rat)):((oT vs F).map AV.t).take (F.length*5)=(F.flatMap (cZ false)).map .t:=by
 unfold oT
 rw[List.map_append]
 exact List.take_left' (by rw[dB,bL])
theorem oI {fr:Int}(p:Rat) (h:k<vs.length):aX fr (vs.take (k+1)) p=kU fr (aX fr (vs.take k) p) (aH vs k):=by
 unfold aX
 rw[lY h,List.foldl_append]
 rfl
theorem Pb {α:Type}{a b us:List α}{k:Nat}{x y:α}(h:us=a++x::b) (ha:a.length=k):us.set k y=(a++[y])++b:=by
 subst h
 rw[List.set_append_right _ _ (by omega),ha,Nat.sub_self]
 simp
theorem qX (h:k<vs.length):vs.drop k=aH vs k::vs.drop (k+1):=by
 rw[List.drop_eq_getElem_cons h]
 congr 1
 simp[aH,h]
theorem Pa {a b us:List (Int×Rat)}{k:Nat}{x:Int×Rat}(h:us=a++x::b) (ha:a.length=k):aH us k=x:=by
 subst h
 unfold aH
 rw[List.getD_eq_getElem?_getD,List.getElem?_append_right (by omega),ha,Nat.sub_self]
 rfl
end
structure StOk (X:List (Int×Rat)) (n B:Nat):Prop where
 pos:∀x∈X,0<x.2
 len:X.length≤n
 size:gS (X.map Prod.snd)≤B
section
variable {X:List (Int×Rat)}{n B n' B':Nat}
theorem PF (fr:Int) (p:Rat):∀(xs:List (Int×Rat)),gS ((aX fr xs p).1.map Prod.snd)+wt (aX fr xs p).2.2≤gS (xs.map Prod.snd)+wt p+2*xs.length:=by
 intro xs
 have key:∀(xs:List (Int×Rat)) (s:List (Int×Rat)×List (Int×Rat)×Rat),gS ((xs.foldl (kU fr) s).1.map Prod.snd)+wt (xs.foldl (kU fr) s).2.2≤gS (s.1.map Prod.snd)+wt s.2.2+gS (xs.map Prod.snd)+2*xs.length:=by
  intro xs
  induction xs with
  | nil=>intro s;simp[gS]
  | cons x xs ih=>
   intro s
   rw[List.foldl_cons]
   refine Nat.le_trans (ih _) ?_
   have e:gS ((x::xs).map Prod.snd)=wt x.2+gS (xs.map Prod.snd):=by simp[gS]
   rw[e,List.length_cons]
   by_cases hc:fr≤x.1∧0<s.2.2.num.sign
   ·have h1:=qD (s:=s) (y:=x.1) (q:=x.2) hc.1 hc.2
    have h2:=CV x.2 s.2.2
    rw[show kU fr s x=kU fr s (x.1,x.2) from rfl,h1]
    dsimp only
    rw[List.map_append,rU]
    simp only[List.map_cons,List.map_nil,gS,List.sum_cons,List.sum_nil]at h2⊢
    omega
   rw[oJ hc]
   dsimp only
   rw[List.map_append,rU]
   simp only[List.map_cons,List.map_nil,gS,List.sum_cons,List.sum_nil]
   omega
 have:=key xs ([],[],p)
 have e:gS (([]:List (Int×Rat)).map Prod.snd)=0:=rfl
 unfold aX
 dsimp only at this
 rw[e]at this
 omega
theorem StOk.zU {fr:Int}{p:Rat}{L:Nat}(h:StOk X n B) (hB:B+wt p+2*n≤L):∀x∈(aX fr X p).1,Sz L x.2:=by
 intro x hx
 refine nB.2 ?_
 have h1:=PF fr p X
 have h2:wt x.2≤gS ((aX fr X p).1.map Prod.snd):=Hu (List.mem_map.2 ⟨x,hx,rfl⟩)
 have h3:wt x.2=vR x.2+1:=rfl
 have h4:=h.size
 have h5:=h.len
 omega
end
abbrev At:=Int×Int×Fr4
section
variable {xs:List At}{k:Nat}
end
theorem Uc {i n:Int}(h1:0<n):-n<i.tmod n∧i.tmod n<n:=by
 have h2:=Int.tmod_lt_of_pos i h1
 have h3:=Int.tmod_lt_of_pos (-i) h1
 rw[Int.neg_tmod]at h3
 omega
section
variable {ls:List Fr4}{k:Nat}{a:Fr4}
end
section
variable {Z:List (Int×Rat)}{rest r4:List Tr}{k:Nat}{q:Rat}{a:Fr4}
end
inductive Pts (L:Nat):List (Int×Rat)→List (Int×Rat)→List (Int×Rat)→Prop
 | nil {Z:List (Int×Rat)}:Pts L Z [] Z
 | cons {Z us Z':List (Int×Rat)}{u:Int×Rat}{k:Nat}{r:Rat}(hk:Z[k]? =some (u.1,r)) (hr:0<r) (hf:∀j,j<k→¬((aH Z j).1=u.1∧0<(aH Z j).2)) (hu:0<u.2) (hle:u.2≤r) (hs:Sz L (r-u.2)) (h:Pts L (Z.set k (u.1,r-u.2)) us Z'):Pts L Z (u::us) Z'
def Asc (L:List (Int×Rat)):Prop:=(L.map Prod.fst).Pairwise (· < ·)
def ZF (Z:List (Int×Rat)):List (Int×Rat):=Z.filter fun x=>decide (0<x.2)
inductive UseOf:List (Int×Rat)→List (Int×Rat)→List (Int×Rat)→Prop
 | nil:UseOf [] [] []
 | skip {x:Int×Rat}{vs us vs':List (Int×Rat)}(h:UseOf vs us vs'):UseOf (x::vs) us (x::vs')
 | part {y:Int}{q m:Rat}{vs us vs':List (Int×Rat)}(h0:0<m) (h1:m<q) (h:UseOf vs us vs'):UseOf ((y,q)::vs) ((y,m)::us) ((y,q-m)::vs')
 | all {y:Int}{q:Rat}{vs us vs':List (Int×Rat)}(h0:0<q) (h:UseOf vs us vs'):UseOf ((y,q)::vs) ((y,q)::us) vs'
section
variable {Z vs us vs':List (Int×Rat)}{L:Nat}
end
theorem iO (a:Rat) (l:List Rat):fD (a::l)=a+fD l:=by
 have key:∀(l:List Rat) (a:Rat),l.foldl (· + ·) a=a+l.foldl (· + ·) 0:=by
  intro l
  induction l with
  | nil=>intro a;show a=a+0;grind
  | cons b l ih=>
   intro a
   rw[List.foldl_cons,List.foldl_cons,ih (a+b),ih (0+b)]
   grind
 unfold fD
 rw[List.foldl_cons,key]
 grind
section
variable {fr:Int}{vs:List (Int×Rat)}{r:Rat}{x:Int×Rat}
theorem oM (fr:Int):∀(vs a b:List (Int×Rat)) (r:Rat),vs.foldl (kU fr) (a,b,r)=(a++(aX fr vs r).1,b++(aX fr vs r).2.1,(aX fr vs r).2.2)
 | [],a,b,r=>by simp[aX]
 | x::vs,a,b,r=>by
  unfold aX
  rw[List.foldl_cons,List.foldl_cons]
  by_cases hc:fr≤x.1∧0<r.num.sign
  ·rw[show kU fr (a,b,r) x=_ from qD (s:=(a,b,r)) (y:=x.1) (q:=x.2) hc.1 hc.2,show kU fr ([],[],r) x=_ from qD (s:=([],[],r)) (y:=x.1) (q:=x.2) hc.1 hc.2]
   rw[oM fr vs _ _ _,oM fr vs _ _ _]
   simp
  rw[oJ (s:=(a,b,r)) hc,oJ (s:=([],[],r)) hc,oM fr vs _ _ _,oM fr vs _ _ _]
  simp
theorem JE (h1:fr≤x.1) (h2:0<r):aX fr (x::vs) r=((x.1,x.2-aO x.2 [r])::(aX fr vs (r-aO x.2 [r])).1,(x.1,aO x.2 [r])::(aX fr vs (r-aO x.2 [r])).2.1,(aX fr vs (r-aO x.2 [r])).2.2):=by
 have:aX fr (x::vs) r=vs.foldl (kU fr) (kU fr ([],[],r) x):=rfl
 rw[this,show kU fr ([],[],r) x=_ from qD (s:=([],[],r)) (y:=x.1) (q:=x.2) h1 ((iT r).2 h2),oM]
 rfl
theorem Wg (h:¬(fr≤x.1∧0<r)):aX fr (x::vs) r=(x::(aX fr vs r).1,(aX fr vs r).2.1,(aX fr vs r).2.2):=by
 have:aX fr (x::vs) r=vs.foldl (kU fr) (kU fr ([],[],r) x):=rfl
 rw[this,oJ (s:=([],[],r)) (by rwa[iT]),oM]
 rfl
structure UseP (fr:Int) (r:Rat) (vs us vs':List (Int×Rat)) (r':Rat):Prop where
 use:UseOf vs us vs'
 yrs:∀u∈us,fr≤u.1
 sum:r=fD (us.map Prod.snd)+r'
 low:0≤r→0≤r'
 non:r≤0→us=[]
 full:∀z∈vs',fr≤z.1→r'≤0∧∀u∈us,u.1≤z.1
end
section
variable {Z Z' us:List (Int×Rat)}{L k:Nat}{u:Int×Rat}
end
section
variable {α:Type}
def dH (dl:α→Bool):List α→Nat
 | []=>0
 | x::l=>if dl x then 0 else dH dl l+1
theorem yY {dl:α→Bool}:∀(l:List α),dH dl l≤l.length
 | []=>bC _
 | x::l=>by
  have:=yY (dl:=dl) l
  unfold dH
  split <;> simp <;> omega
theorem nQ {dl:α→Bool}{d:α}:∀{l:List α}{k:Nat},k≤dH dl l→k<l.length→(dl (l.getD k d)=true→dH dl l=k)∧(dl (l.getD k d)=false→k+1≤dH dl l)
 | [],_,_,h=>by simp at h
 | x::l,0,_,_=>by
  have e:(x::l).getD 0 d=x:=rfl
  rw[e]
  unfold dH
  exact⟨fun h=>by simp[h],fun h=>by simp[h]⟩
 | x::l,k+1,h,h2=>by
  have e:(x::l).getD (k+1) d=l.getD k d:=by simp
  rw[e]
  unfold dH at h⊢
  by_cases hx:dl x=true
  ·simp[hx]at h
  simp only[if_neg hx]at h⊢
  have:=nQ (dl:=dl) (d:=d) (l:=l) (k:=k) (by omega) (by simpa using h2)
  exact⟨fun h=>by rw[this.1 h],fun h=>by have:=this.2 h;omega⟩
theorem Wh {dl:α→Bool}:∀(l:List α),l.any dl=decide (dH dl l<l.length)
 | []=>rfl
 | x::l=>by
  unfold dH
  by_cases hx:dl x=true
  ·simp[hx]
  simp only[if_neg hx,List.any_cons,Wh l,List.length_cons]
  simp[hx]
def qQ (dl:α→Bool) (l:List α):Int:=if dH dl l=l.length then-1 else(dH dl l:Int)
theorem Tm {dl:α→Bool}(l:List α):decide (0≤qQ dl l)=l.any dl:=by
 have h:=yY (dl:=dl) l
 rw[Wh]
 unfold qQ
 split
 ·rw[decide_eq_decide];omega
 rw[decide_eq_decide];omega
end
section
variable {α:Type}{key:α→Int}
def Gl (key:α→Int) (x:α):List α→List α
 | []=>[x]
 | y::l=>if key x≤key y then x::y::l else y::Gl key x l
def Lk (key:α→Int):List α→List α
 | []=>[]
 | x::l=>Gl key x (Lk key l)
def Srd (key:α→Int) (l:List α):Prop:=l.Pairwise fun x y=>key x≤key y
def Kp (key:α→Int) (A B:List α):Prop:=∀y,A.filter (fun x=>decide (key x=y))=B.filter (fun x=>decide (key x=y))
variable {A B C D P Q U V M:List α}{x y:α}
theorem Kp.refl:Kp key A A:=fun _=>rfl
theorem Kp.symm (h:Kp key A B):Kp key B A:=fun y=>(h y).symm
theorem Kp.trans (h:Kp key A B) (h2:Kp key B C):Kp key A C:=fun y=>(h y).trans (h2 y)
theorem Kp.app (h:Kp key A B) (h2:Kp key C D):Kp key (A++C) (B++D):=fun y=>by rw[List.filter_append,List.filter_append,h y,h2 y]
theorem Kp.mem (h:Kp key A B):x∈A↔x∈B:=by
 have h1:=h (key x)
 have e:∀l:List α,x∈l↔x∈l.filter (fun z=>decide (key z=key x)):=fun l=>by simp[List.mem_filter]
 rw[e A,e B,h1]
theorem Kp.comm (h:∀x∈U,∀y∈V,key x≠key y):Kp key (U++V) (V++U):=by
 intro z
 rw[List.filter_append,List.filter_append]
 by_cases h1:U.filter (fun x=>decide (key x=z))=[]
 ·rw[h1,List.nil_append,List.append_nil]
 obtain⟨u,hu⟩:=List.exists_mem_of_ne_nil _ h1
 rw[List.mem_filter]at hu
 have h2:V.filter (fun x=>decide (key x=z))=[]:=by
  rw[List.filter_eq_nil_iff]
  intro v hv h3
  exact h u hu.1 v hv ((of_decide_eq_true hu.2).trans (of_decide_eq_true h3).symm)
 rw[h2,List.nil_append,List.append_nil]
theorem Rq:∀l:List α,Kp key (Gl key x l) (x::l)
 | []=>fun _=>rfl
 | y::l=>by
  unfold Gl
  split
  ·exact .refl
  rename_i h
  have h1:Kp key (y::Gl key x l) (y::x::l):=Kp.app (A:=[y]) (B:=[y]) .refl (Rq l)
  refine h1.trans ?_
  exact Kp.app (A:=[y,x]) (B:=[x,y]) (Kp.comm (U:=[y]) (V:=[x]) fun a ha b hb=>by rw[List.mem_singleton]at ha hb;subst ha;subst hb;omega) .refl
theorem Rr:∀l:List α,Kp key (Lk key l) l
 | []=>.refl
 | x::l=>(Rq _).trans (Kp.app (A:=[x]) (B:=[x]) .refl (Rr l))
theorem Wi:∀{l:List α},Srd key l→Srd key (Gl key x l)
 | [],_=>List.pairwise_singleton _ _
 | y::l,h=>by
  have h1:=List.pairwise_cons.1 h
  unfold Gl
  split
  ·rename_i hx
   refine List.pairwise_cons.2 ⟨fun z hz=>?_,h⟩
   rcases List.mem_cons.1 hz with rfl | hz
   ·exact hx
   exact Int.le_trans hx (h1.1 z hz)
  rename_i hx
  refine List.pairwise_cons.2 ⟨fun z hz=>?_,Wi h1.2⟩
  rcases List.mem_cons.1 ((Rq l).mem.1 hz)with rfl | hz
  ·omega
  exact h1.1 z hz
theorem Jn:∀l:List α,Srd key (Lk key l)
 | []=>List.Pairwise.nil
 | _::l=>Wi (Jn l)
theorem Wj:∀l:List α,(Gl key x l).length=l.length+1
 | []=>rfl
 | y::l=>by
  unfold Gl
  split
  ·rfl
  rw[List.length_cons,Wj l,List.length_cons]
theorem Jo:∀l:List α,(Lk key l).length=l.length
 | []=>rfl
 | x::l=>by rw[Lk,Wj,Jo l,List.length_cons]
theorem Srd.uniq:∀{A B:List α},Srd key A→Srd key B→Kp key A B→A=B
 | [],[],_,_,_=>rfl
 | [],y::B,_,_,h=>by
  have:=h (key y)
  simp at this
 | x::A,[],_,_,h=>by
  have:=h (key x)
  simp at this
 | x::A,y::B,hA,hB,h=>by
  have h1:=List.pairwise_cons.1 hA
  have h2:=List.pairwise_cons.1 hB
  have hx:x∈y::B:=h.mem.1 (List.mem_cons_self ..)
  have hy:y∈x::A:=h.mem.2 (List.mem_cons_self ..)
  have e1:key y≤key x:=by
   rcases List.mem_cons.1 hx with rfl | h3
   ·omega
   exact h2.1 x h3
  have e2:key x≤key y:=by
   rcases List.mem_cons.1 hy with rfl | h3
   ·omega
   exact h1.1 y h3
  have h3:=h (key x)
  rw[List.filter_cons,if_pos (by simp),List.filter_cons,if_pos (by simp;omega)]at h3
  injection h3 with e3 h3
  subst e3
  rw[Srd.uniq h1.2 h2.2 fun z=>by
   have h4:=h z
   rw[List.filter_cons,List.filter_cons]at h4
   split at h4
   ·injection h4
   exact h4]
theorem DG (h:Srd key A) (hk:Kp key A B):Lk key B=A:=Srd.uniq (Jn B) h ((Rr B).trans hk.symm)
theorem Srd.app (hA:Srd key A) (hB:Srd key B) (h:∀x∈A,∀y∈B,key x≤key y):Srd key (A++B):=List.pairwise_append.2 ⟨hA,hB,h⟩
theorem Srd.l (h:Srd key (A++B)):Srd key A:=(List.pairwise_append.1 h).1
theorem Srd.r (h:Srd key (A++B)):Srd key B:=(List.pairwise_append.1 h).2.1
theorem Srd.le (h:Srd key (A++B)):∀x∈A,∀y∈B,key x≤key y:=(List.pairwise_append.1 h).2.2
theorem Rs {d:α}:(P++x::Q).getD P.length d=x:=by simp[List.getD_eq_getElem?_getD]
theorem LJ:(P++x::Q).set P.length y=P++y::Q:=by simp
theorem swp {i j:Nat}(hi:P.length=i) (hj:P.length+1+M.length=j):((P++(x::(M++y::Q))).set i y).set j x=P++(y::(M++x::Q)):=by
 subst hi
 subst hj
 rw[LJ,List.set_append_right _ _ (by omega),show P.length+1+M.length-P.length=M.length+1 by omega,List.set_cons_succ,LJ]
theorem aBb {i j:Nat}(hi:P.length=i) (hj:P.length+1+M.length=j):((P++(x::(M++y::Q))).set j x).set i y=P++(y::(M++x::Q)):=by
 rw[List.set_comm _ _ (by omega),swp hi hj]
theorem VK {i:Nat}{d:α}(hi:P.length=i):(P++(x::(M++y::Q))).getD i d=x:=by subst hi;exact Rs
theorem aBc {j:Nat}{d:α}(hj:P.length+1+M.length=j):(P++(x::(M++y::Q))).getD j d=y:=by
 subst hj
 have:=Rs (P:=P++(x::M)) (x:=y) (Q:=Q) (d:=d)
 rw[fE,List.length_cons,show P.length+(M.length+1)=P.length+1+M.length by omega]at this
 simpa using this
theorem nO {l:List α}{i:Nat}{d:α}(h:i<l.length):l.getD i d∈l:=by rw[List.getD_eq_getElem?_getD,gG h];exact List.getElem_mem h
end
section
variable {α:Type}{f:α→List Tr}{z k o:Nat}{xs:List α}{x x':α}{us:List Tr}
theorem JF (h:k<xs.length):xs=xs.take k++xs[k]::xs.drop (k+1):=by
 rw[←List.drop_eq_getElem_cons h,List.take_append_drop]
theorem gZ (hf:∀x,(f x).length=z) (h:xs[k]? =some x) (hm:o+us.length≤z) (hx:f x'=(f x).take o++us++(f x).drop (o+us.length)):eT ((xs.flatMap f).map AV.t) (0+k*z+o) (us.map AV.t)=((xs.set k x').flatMap f).map .t:=by
 obtain⟨hk,rfl⟩:=List.getElem?_eq_some_iff.1 h
 rw[←Pn,Nat.zero_add]
 congr 1
 have hA:((xs.take k).flatMap f).length=k*z:=by rw[bE hf,eJ,Nat.min_eq_left (by omega)]
 have e:xs.flatMap f=(xs.take k).flatMap f++(f xs[k]++(xs.drop (k+1)).flatMap f):=by
  conv=>lhs;rw[JF hk]
  rw[List.flatMap_append,List.flatMap_cons]
 have hl:=hf xs[k]
 rw[List.set_eq_take_append_cons_drop,if_pos hk,List.flatMap_append,List.flatMap_cons,hx,e]
 generalize (xs.take k).flatMap f=A at*
 generalize (xs.drop (k+1)).flatMap f=C at*
 generalize f xs[k]=X at*
 unfold eT
 rw[List.take_append,List.drop_append,hA,fF (l:=A) (by omega),List.drop_of_length_le (l:=A) (by omega),show k*z+o-k*z=o by omega,show k*z+o+us.length-k*z=o+us.length by omega,List.take_append,List.drop_append,show o-X.length=0 by omega,show o+us.length-X.length=0 by omega]
 simp
theorem jW (hf:∀x,(f x).length=z) (h:k<xs.length) (hm:o+us.length≤z):0+k*z+o+(us.map AV.t).length≤((xs.flatMap f).map AV.t).length:=by
 rw[dB,dB,bE hf]
 have:=Nat.mul_le_mul (show k+1≤xs.length by omega) (bC z)
 rw[Nat.add_mul]at this
 omega
end
structure Wv where
 y:Int
 e:Int
 q:Rat
def aBd:Wv:=⟨0,0,0⟩
def Yo:List Tr:=[.v (.bool false),.v (.slice none 0 0),.v (.bool false),.v (.slice none 0 0)]
def eF (x:Wv):List Tr:=.v (.int .i64 x.y)::.v (.int .i64 x.e)::((Fr4.of x.q).tr false++(Yo++(Yo++Yo)))
theorem gE (x:Wv):(eF x).length=18:=rfl
def cS (l:List Wv) (i:Nat):Wv:=l.getD i aBd
section
variable {l D P S Q U V M X Y xs:List Wv}{i j k t n a b s:Nat}{x:Wv}
theorem iF (h:i<l.length):l[i]? =some (cS l i):=by simp[cS,h]
def EU (a b:Int):Int:=if a<b then-1 else if b<a then 1 else 0
theorem Hb {a b:Int}:EU a b<0↔a<b:=by
 unfold EU
 by_cases h:a<b
 ·simp[h]
 by_cases h2:b<a
 ·simp[h,h2]
 simp[h,h2]
abbrev mA:List Wv→List Wv:=Lk Wv.y
variable {m:Nat}{T:List Wv}
def Ins (P S Q D:List Wv) (t j:Nat):Prop:=∃A1 A2,D=P++(A1++(cS S t::(A2++(S.drop (t+1)++Q))))∧A1++A2=mA (S.take t)∧P.length+A1.length=j∧∀z∈A2,(cS S t).y<z.y
theorem Ins.start (ht:t<S.length) (h:D=P++(mA (S.take t)++(S.drop t++Q))):Ins P S Q D t (P.length+t):=by
 refine⟨mA (S.take t),[],?_,by simp,by rw[Jo,eJ];omega,fun z hz=>by cases hz⟩
 have e:=iF ht
 rw[gG ht]at e
 rw[h,←Option.some.inj e,List.drop_eq_getElem_cons ht]
 rfl
theorem Ins.len (h:Ins P S Q D t j):P.length≤j∧j<D.length:=by
 obtain⟨A1,A2,rfl,h1,h2,h3⟩:=h
 simp only[fE,List.length_cons]
 omega
theorem Ins.at (h:Ins P S Q D t j):cS D j=cS S t:=by
 obtain⟨A1,A2,rfl,h1,h2,h3⟩:=h
 rw[←List.append_assoc]
 have e:(P++A1).length=j:=by rw[fE,h2]
 subst e
 exact Rs
theorem Ins.step (h:Ins P S Q D t j) (hj:P.length<j) (hc:(cS D j).y<(cS D (j-1)).y):Ins P S Q ((D.set j (cS D (j-1))).set (j-1) (cS D j)) t (j-1):=by
 have hat:=h.at
 obtain⟨A1,A2,hD,h1,h2,h3⟩:=h
 rcases List.eq_nil_or_concat A1 with rfl | ⟨B,z,rfl⟩
 ·simp at h2;omega
 rw[List.concat_eq_append]at*
 rw[fE,List.length_singleton]at h2
 have e:P++((B++[z])++(cS S t::(A2++(S.drop (t+1)++Q))))=(P++B)++(z::([]++cS S t::(A2++(S.drop (t+1)++Q)))):=by simp
 have e1:(P++B).length=j-1:=by rw[fE];omega
 have e2:(P++B).length+1+([]:List Wv).length=j:=by simp only[fE,List.length_nil];omega
 rw[hD,e]at hc⊢
 have hz:cS ((P++B)++(z::([]++cS S t::(A2++(S.drop (t+1)++Q))))) (j-1)=z:=VK e1
 have hy:cS ((P++B)++(z::([]++cS S t::(A2++(S.drop (t+1)++Q))))) j=cS S t:=aBc e2
 rw[hz,hy]at hc⊢
 refine⟨B,z::A2,?_,by rw[←h1];simp,by omega,fun w hw=>?_⟩
 ·rw[aBb e1 e2]
  simp
 rcases List.mem_cons.1 hw with rfl | hw
 ·exact hc
 exact h3 w hw
theorem Ins.stop (h:Ins P S Q D t j) (ht:t<S.length) (hs:j≤P.length∨¬(cS D j).y<(cS D (j-1)).y):D=P++(mA (S.take (t+1))++(S.drop (t+1)++Q)):=by
 have hat:=h.at
 obtain⟨A1,A2,hD,h1,h2,h3⟩:=h
 have e:S.take (t+1)=S.take t++[cS S t]:=by rw[List.take_add_one,iF ht];rfl
 have hs9:=Jn (key:=Wv.y) (S.take t)
 have h1':A1++A2=Lk Wv.y (S.take t):=h1
 rw[←h1']at hs9
 have hle:∀z∈A1,z.y≤(cS S t).y:=by
  intro z hz
  rcases hs with hs | hs
  ·have:A1=[]:=List.eq_nil_of_length_eq_zero (by omega)
   rw[this]at hz
   cases hz
  rcases List.eq_nil_or_concat A1 with rfl | ⟨B,w,rfl⟩
  ·cases hz
  rw[List.concat_eq_append]at*
  have e0:P++((B++[w])++(cS S t::(A2++(S.drop (t+1)++Q))))=(P++B)++(w::([]++cS S t::(A2++(S.drop (t+1)++Q)))):=by simp
  rw[fE,List.length_singleton]at h2
  have e1:(P++B).length=j-1:=by rw[fE];omega
  have hw9:cS D (j-1)=w:=by rw[hD,e0];exact VK e1
  rw[hat,hw9]at hs
  rcases List.mem_append.1 hz with hz | hz
  ·have:=(hs9.l).le z hz w (List.mem_singleton.2 rfl)
   omega
  rw[List.mem_singleton.1 hz]
  omega
 have hsr:mA (S.take (t+1))=A1++(cS S t::A2):=by
  refine DG ?_ ?_
  ·refine Srd.app hs9.l (List.pairwise_cons.2 ⟨fun z hz=>Int.le_of_lt (h3 z hz),hs9.r⟩) fun x hx y hy=>?_
   rcases List.mem_cons.1 hy with rfl | hy
   ·exact hle x hx
   exact hs9.le x hx y hy
  rw[e]
  have k1:Kp Wv.y (A1++([cS S t]++A2)) (A1++(A2++[cS S t])):=Kp.refl.app (Kp.comm fun x hx y hy=>by have:=h3 y hy;rw[List.mem_singleton]at hx;subst hx;omega)
  refine Kp.trans (B:=A1++(A2++[cS S t])) k1 ?_
  rw[←List.append_assoc,h1']
  exact(Rr _).app .refl
 rw[hsr,hD]
 simp
end
section
variable {l D P S Q U V M X Y xs:List Wv}{i j k t n a b c s m p lo hi:Nat}{x:Wv}
theorem Hz:(mA l).length=l.length:=Jo l
structure Cut (D:List Wv) (p lo hi s r:Nat):Prop where
 b:lo≤s∧s≤r∧r≤hi
 l:∀c,lo≤c→c<s→(cS D c).y≤(cS D (p-c)).y
 u:∀c,r≤c→c<hi→(cS D (p-c)).y<(cS D c).y
section
variable {r:Nat}(hD:D=P++(X++(Y++Q))) (hX:Srd Wv.y X) (hY:Srd Wv.y Y) (h:Cut D p lo hi s r) (ha:P.length≤lo) (hm:hi≤P.length+X.length) (hp1:∀c,lo≤c→c<hi→P.length+X.length≤p-c∧p-c<P.length+X.length+Y.length∧c≤p)
include hD hX hY h ha hm hp1
end
end
section
variable {l D P S Q U V M X Y xs A B C E:List Wv}{i j k t n a b c s m p lo hi r:Nat}{x y:Wv}{f:Nat→Prop}
structure Bis (f:Nat→Prop) (lo hi s r:Nat):Prop where
 b:lo≤s∧s≤r∧r≤hi
 l:∀c,lo≤c→c<s→f c
 u:∀c,r≤c→c<hi→¬f c
theorem EV:mA (S.take 1)=S.take 1:=by
 cases S with
 | nil=>rfl
 | cons x S=>rfl
def aBe (s t:Nat) (D:List Wv):Prop:=∀k,k<t→Srd Wv.y ((D.drop (k*s)).take s)
theorem Srd.take {l:List Wv}(h:Srd Wv.y l) (n:Nat):Srd Wv.y (l.take n):=List.Pairwise.sublist (List.take_sublist n l) h
structure Mg9 (s t:Nat) (D:List Wv):Prop where
 l:aBe (2*s) t D
 u:∀k,2*t≤k→Srd Wv.y ((D.drop (k*s)).take s)
end
structure Ur where
 v:Int
 e:Int
 y:Int
 n:Rat
def iY (U:List Ur) (p:Ur→Bool):Rat:=fD ((U.filter p).map Ur.n)
theorem qA {U:List Ur}{u:Ur}{p:Ur→Bool}:iY (U++[u]) p=if p u then iY U p+u.n else iY U p:=by
 unfold iY
 rw[List.filter_append,List.map_append]
 split
 ·rename_i h
  rw[List.filter_cons_of_pos h]
  exact Kk _ _
 rename_i h
 rw[List.filter_cons_of_neg h]
 simp
def cU (U:List Ur) (y e:Int):Rat:=iY U fun u=>decide (u.v=y)&&decide (u.e=e)
def dZ (U:List Ur) (y:Int):Rat:=iY U fun u=>decide (u.y=y)
def dT (U:List Ur) (y e:Int):Rat:=iY U fun u=>decide (u.y=y)&&decide (u.e=e)
structure Rg where
 f:Nat
 E:Nat
 mem:Nat→Nat→Bool
 base:Nat→Nat→Rat
 lim:Nat→Rat
namespace Rg
def isV (R:Rg) (y e:Nat):Bool:= !R.mem y e&&decide (R.base y e<0)
def los (R:Rg) (y e:Nat):Rat:=bif R.isV y e then-(R.base y e)else 0
def left (R:Rg) (U:List Ur) (y e:Nat):Rat:=R.los y e-cU U y e
def room (R:Rg) (U:List Ur) (e t:Nat):Rat:=aO (R.base t e-dT U t e) [R.lim t-dZ U t]
def us (U:List Ur) (y e:Int) (t:Nat) (n:Rat):List Ur:=if 0<n then U++[⟨y,e,t,n⟩]else U
def use (R:Rg) (U:List Ur) (y e t:Nat):List Ur:=us U y e t (aO (R.left U y e) [R.room U e t])
def vl (R:Rg):Nat→List (Nat×Nat)
 | 0=>[]
 | y+1=>R.vl y++((List.range R.E).filter (R.isV y)).map fun e=>(y,e)
def may (R:Rg) (t:Nat) (p:Nat×Nat):Bool:=decide (t≤p.1+R.f)&&R.mem t p.2
def step (R:Rg) (U:List Ur) (t:Nat):List Ur:=((R.vl t).filter (R.may t)).foldl (fun U p=>R.use U p.1 p.2 t) U
def run (R:Rg):Nat→List Ur
 | 0=>[]
 | t+1=>R.step (R.run t) t
def DE (R:Rg) (y:Nat):Nat→Nat
 | 0=>1
 | e+1=>R.DE y e*(R.base y e).den
def DY (R:Rg):Nat→Nat
 | 0=>1
 | y+1=>R.DY y*((R.lim y).den*R.DE y R.E)
structure Ok (R:Rg) (N:Nat):Prop where
 base:∀y e,y<N→e<R.E→Sz 4 (R.base y e)
 lim:∀y,y<N→Sz 4 (R.lim y)
 l0:∀y,y<N→0≤R.lim y
 n:N≤10
 e:R.E≤6
 f:R.f≤40
structure Iv (R:Rg) (N:Nat) (U:List Ur):Prop where
 v:∀y e,y<N→e<R.E→(0≤R.left U y e∧R.left U y e≤R.los y e)∧Mu (R.DY N) (R.left U y e)
 b:∀t e,t<N→e<R.E→(0≤dT U t e∧dT U t e≤DD (R.base t e))∧Mu (R.DY N) (dT U t e)
 y:∀t,t<N→(0≤dZ U t∧dZ U t≤R.lim t)∧Mu (R.DY N) (dZ U t)
end Rg
section
variable {R:Rg}{U:List Ur}{N y y' e e' t t' k n:Nat}{m:Rat}{I J:List Nat}
open Rg
theorem Cf {y e y' e':Int}:cU (U++[⟨y,e,(t:Int),m⟩]) y' e'=if y=y'∧e=e' then cU U y' e'+m else cU U y' e':=by
 unfold cU
 rw[qA]
 simp only[Bool.and_eq_true,decide_eq_true_eq]
theorem Gu {y e:Int}{t':Int}:dZ (U++[⟨y,e,(t:Int),m⟩]) t'=if(t:Int)=t' then dZ U t'+m else dZ U t':=by
 unfold dZ
 rw[qA]
 simp only[decide_eq_true_eq]
theorem sB {y e:Int}{t' e':Int}:dT (U++[⟨y,e,(t:Int),m⟩]) t' e'=if(t:Int)=t'∧e=e' then dT U t' e'+m else dT U t' e':=by
 unfold dT
 rw[qA]
 simp only[Bool.and_eq_true,decide_eq_true_eq]
theorem nJ {y e:Int}(h:¬0<m):us U y e t m=U:=if_neg h
theorem kP {y e:Int}(h:0<m):us U y e t m=U++[⟨y,e,t,m⟩]:=if_pos h
theorem Ha (h:0≤m):R.left (us U y e t m) y e=R.left U y e-m:=by
 by_cases hp:0<m
 ·rw[kP hp]
  unfold Rg.left
  rw[Cf,if_pos ⟨rfl,rfl⟩]
  grind
 rw[nJ hp]
 grind
theorem oP (h:¬(y=y'∧e=e')):R.left (us U y e t m) y' e'=R.left U y' e':=by
 by_cases hp:0<m
 ·rw[kP hp]
  unfold Rg.left
  rw[Cf,if_neg (by omega)]
 rw[nJ hp]
theorem Ag (h:¬(y=y'∧e=e')):R.left (R.use U y e t) y' e'=R.left U y' e':=oP h
theorem DH:0≤R.los y e:=by
 unfold Rg.los Rg.isV
 cases R.mem y e
 ·by_cases h:R.base y e<0
  ·simp[h]
   grind
  simp[h]
 simp
theorem Ej (h:R.isV y e=false):R.los y e=0:=by unfold Rg.los;rw[h];rfl
theorem sD (h:R.isV y e=true):R.los y e=-(R.base y e)∧0<R.los y e:=by
 have e1:R.los y e=-(R.base y e):=by unfold Rg.los;rw[h];rfl
 refine⟨e1,?_⟩
 rw[e1]
 unfold Rg.isV at h
 simp at h
 grind
theorem fK {p:Nat×Nat}:∀{t:Nat},p∈R.vl t↔p.1<t∧p.2<R.E∧R.isV p.1 p.2=true
 | 0=>by simp[Rg.vl]
 | t+1=>by
  unfold Rg.vl
  rw[List.mem_append,fK (t:=t)]
  constructor
  ·rintro(h | h)
   ·exact⟨by omega,h.2⟩
   obtain⟨e,he,rfl⟩:=List.mem_map.1 h
   rw[List.mem_filter,List.mem_range]at he
   exact⟨by dsimp only;omega,he⟩
  rintro⟨h1,h2,h3⟩
  by_cases h:p.1<t
  ·exact .inl ⟨h,h2,h3⟩
  refine .inr (List.mem_map.2 ⟨p.2,?_,?_⟩)
  ·rw[List.mem_filter,List.mem_range]
   have:p.1=t:=by omega
   rw[←this]
   exact⟨h2,h3⟩
  exact Prod.ext (by dsimp only;omega) rfl
def plt (p q:Nat×Nat):Prop:=p.1<q.1∨(p.1=q.1∧p.2<q.2)
theorem Es:∀t:Nat,(R.vl t).Pairwise plt
 | 0=>List.Pairwise.nil
 | t+1=>by
  unfold Rg.vl
  refine List.pairwise_append.2 ⟨Es t,?_,fun p hp q hq=>?_⟩
  ·rw[List.pairwise_map]
   exact(List.pairwise_lt_range.filter _).imp fun h=>.inr ⟨rfl,h⟩
  obtain⟨e,he,rfl⟩:=List.mem_map.1 hq
  exact .inl (fK.1 hp).1
theorem gV (t:Nat):(R.vl t).Nodup:=(Es t).imp fun h e=>by subst e;unfold plt at h;omega
theorem lJ (h:R.E≤6):∀t:Nat,(R.vl t).length≤6*t
 | 0=>bC _
 | t+1=>by
  have h1:=lJ h t
  have h2:=List.length_filter_le (R.isV t) (List.range R.E)
  unfold Rg.vl
  rw[fE,dB]
  rw[List.length_range]at h2
  omega
theorem DI:∀e,0<R.DE y e
 | 0=>Nat.one_pos
 | e+1=>Nat.mul_pos (DI e) (R.base y e).den_pos
theorem DJ:∀t,0<R.DY t
 | 0=>Nat.one_pos
 | t+1=>Nat.mul_pos (DJ t) (Nat.mul_pos (R.lim t).den_pos (DI _))
theorem LK:∀{k:Nat},e<k→Mu (R.DE y k) (R.base y e)
 | k+1,h=>by
  rcases Nat.lt_succ_iff_lt_or_eq.1 h with h | rfl
  ·exact(LK h).up'
  exact(Mu.self _).up
theorem Jp:∀{N:Nat},y<N→e<R.E→Mu (R.DY N) (R.base y e)
 | N+1,h,he=>by
  rcases Nat.lt_succ_iff_lt_or_eq.1 h with h | rfl
  ·exact(Jp h he).up'
  exact((LK he).up).up
theorem Wk:∀{N:Nat},y<N→Mu (R.DY N) (R.lim y)
 | N+1,h=>by
  rcases Nat.lt_succ_iff_lt_or_eq.1 h with h | rfl
  ·exact(Wk h).up'
  exact((Mu.self _).up').up
theorem Jq (h:y<N) (he:e<R.E):Mu (R.DY N) (R.los y e):=by
 unfold Rg.los
 cases R.isV y e
 ·exact Mu.zero
 exact(Jp h he).neg
theorem VL (h:∀e,e<k→Sz 4 (R.base y e)):(dg 4294967296 (R.DE y k)).length≤1+4*k:=by
 induction k with
 | zero=>exact dR (by omega) (by simp[Rg.DE])
 | succ k ih=>
  have h1:=ih fun e he=>h e (by omega)
  have h2:=(h k (by omega)).2
  have h4:=pH (R.DE y k) (R.base y k).den
  unfold Rg.DE
  omega
theorem DK (hE:R.E≤6):∀{N:Nat},(∀y e,y<N→e<R.E→Sz 4 (R.base y e))→(∀y,y<N→Sz 4 (R.lim y))→(dg 4294967296 (R.DY N)).length≤1+29*N
 | 0,_,_=>dR (by omega) (by simp[Rg.DY])
 | N+1,h,h'=>by
  have h1:=DK hE (N:=N) (fun y e hy he=>h y e (by omega) he) fun y hy=>h' y (by omega)
  have h2:=(h' N (by omega)).2
  have h3:=VL (R:=R) (y:=N) (k:=R.E) fun e he=>h N e (by omega) he
  have h4:=pH (R.DY N) ((R.lim N).den*R.DE N R.E)
  have h5:=pH (R.lim N).den (R.DE N R.E)
  show(dg 4294967296 (R.DY N*((R.lim N).den*R.DE N R.E))).length≤_
  omega
theorem Rg.Ok.sz (h:R.Ok N){q:Rat}(h0:0≤q) (hB:q≤(BB:Rat)) (hm:Mu (R.DY N) q):Sz 300 q:=hm.sz h0 hB (DJ N) (by have:=DK h.e h.base h.lim;have:=h.n;have:=VJ;omega)
theorem DL:(0:Rat)≤(BB:Rat):=by exact_mod_cast Nat.zero_le BB
theorem Rg.Ok.los_le (h:R.Ok N) (hy:y<N) (he:e<R.E):R.los y e≤(BB:Rat):=by
 have h1:-(R.base y e)≤(BB:Rat):=Yn (sY (h.base y e hy he))
 have:=DL
 unfold Rg.los
 cases R.isV y e
 ·exact this
 exact h1
theorem Rg.Ok.abv_le (h:R.Ok N) (hy:y<N) (he:e<R.E):DD (R.base y e)≤(BB:Rat):=by
 have h1:=Yn (h.base y e hy he)
 have:=DL
 rw[Rn]
 split <;> grind
theorem Rg.Ok.sz_los (h:R.Ok N) (hy:y<N) (he:e<R.E):Sz 300 (R.los y e):=h.sz DH (h.los_le hy he) (Jq hy he)
theorem Rg.Iv.sz_left (hI:R.Iv N U) (h:R.Ok N) (hy:y<N) (he:e<R.E):Sz 300 (R.left U y e):=h.sz (hI.v y e hy he).1.1 (Rat.le_trans (hI.v y e hy he).1.2 (h.los_le hy he)) (hI.v y e hy he).2
theorem Rg.Iv.sz_eIn (hI:R.Iv N U) (h:R.Ok N) (ht:t<N) (he:e<R.E):Sz 300 (dT U t e):=h.sz (hI.b t e ht he).1.1 (Rat.le_trans (hI.b t e ht he).1.2 (h.abv_le ht he)) (hI.b t e ht he).2
theorem Rg.Iv.sz_yIn (hI:R.Iv N U) (h:R.Ok N) (ht:t<N):Sz 300 (dZ U t):=h.sz (hI.y t ht).1.1 (Rat.le_trans (hI.y t ht).1.2 (Yn (h.lim t ht))) (hI.y t ht).2
theorem Eo:cU U y e=R.los y e-R.left U y e:=by unfold Rg.left;grind
theorem Rg.Iv.sz_vOf (hI:R.Iv N U) (h:R.Ok N) (hy:y<N) (he:e<R.E):Sz 300 (cU U y e):=by
 obtain⟨⟨h1,h2⟩,h3⟩:=hI.v y e hy he
 have h4:=h.los_le hy he
 rw[Eo (R:=R)]
 exact h.sz (by grind) (by grind) ((Jq hy he).sub h3)
theorem Rg.Iv.nil (h:R.Ok N):R.Iv N []:=by
 refine⟨fun y e hy he=>?_,fun t e ht he=>?_,fun t ht=>?_⟩
 ·have e1:R.left [] y e=R.los y e:=by
   unfold Rg.left
   show R.los y e-0=_
   grind
  rw[e1]
  exact⟨⟨DH,Rat.le_refl⟩,Jq hy he⟩
 ·exact⟨⟨Rat.le_refl,VF _⟩,.zero⟩
 exact⟨⟨Rat.le_refl,h.l0 t ht⟩,.zero⟩
theorem wT:R.room U e t≤R.base t e-dT U t e:=pS _ _
theorem Nt:R.room U e t≤R.lim t-dZ U t:=pU _ _
theorem Rg.Iv.us (hI:R.Iv N U) (hy:y<N) (he:e<R.E) (ht:t<N) (h1:m≤R.left U y e) (h2:m≤R.room U e t) (hm:Mu (R.DY N) m):R.Iv N (us U y e t m):=by
 by_cases h0:0<m
 ·have h3:=Rat.le_trans h2 wT
  have h4:=Rat.le_trans h2 Nt
  refine⟨fun y' e' hy' he'=>?_,fun t' e' ht' he'=>?_,fun t' ht'=>?_⟩
  ·obtain⟨⟨k1,k2⟩,k3⟩:=hI.v y' e' hy' he'
   by_cases hq:y=y'∧e=e'
   ·obtain⟨rfl,rfl⟩:=hq
    rw[Ha (by grind)]
    exact⟨⟨by grind,by grind⟩,k3.sub hm⟩
   rw[oP hq]
   exact⟨⟨k1,k2⟩,k3⟩
  ·obtain⟨⟨k1,k2⟩,k3⟩:=hI.b t' e' ht' he'
   rw[kP h0,sB]
   split
   ·rename_i hq
    have e1:t=t':=by omega
    have e2:e=e':=by omega
    subst e1
    subst e2
    refine⟨⟨by grind,?_⟩,k3.add hm⟩
    rw[VG (by grind)]
    grind
   exact⟨⟨k1,k2⟩,k3⟩
  obtain⟨⟨k1,k2⟩,k3⟩:=hI.y t' ht'
  rw[kP h0,Gu]
  split
  ·rename_i hq
   have e1:t=t':=by omega
   subst e1
   exact⟨⟨by grind,by grind⟩,k3.add hm⟩
  exact⟨⟨k1,k2⟩,k3⟩
 rw[nJ h0]
 exact hI
theorem No (hI:R.Iv N U) (he:e<R.E) (ht:t<N):Mu (R.DY N) (R.room U e t):=((Jp ht he).sub (hI.b t e ht he).2).min ((Wk ht).sub (hI.y t ht).2)
theorem Rg.Iv.use (hI:R.Iv N U) (hy:y<N) (he:e<R.E) (ht:t<N):R.Iv N (R.use U y e t):=hI.us hy he ht (pS _ _) (pU _ _) ((hI.v y e hy he).2.min (No hI he ht))
theorem Rg.Iv.fold (ht:t<N):∀(L:List (Nat×Nat)){U:List Ur},R.Iv N U→(∀p∈L,p.1<N∧p.2<R.E)→R.Iv N (L.foldl (fun U p=>R.use U p.1 p.2 t) U)
 | [],_,h,_=>h
 | p::L,U,h,hL=>by
  have h1:=hL p (List.mem_cons_self ..)
  exact Rg.Iv.fold ht L (h.use h1.1 h1.2 ht) fun q hq=>hL q (List.mem_cons_of_mem _ hq)
theorem Rg.Iv.step (hI:R.Iv N U) (ht:t<N):R.Iv N (R.step U t):=hI.fold ht _ fun p hp=>by
 have:=fK.1 (List.mem_filter.1 hp).1
 exact⟨by omega,this.2.1⟩
theorem Rg.Ok.run (h:R.Ok N):∀{k:Nat},k≤N→R.Iv N (R.run k)
 | 0,_=>.nil h
 | k+1,hk=>(Rg.Ok.run h (k:=k) (by omega)).step (by omega)
end
def Rg.wl (R:Rg) (U:List Ur) (e:Nat) (I:List Nat):List (Int×Rat):=I.filterMap fun y=>if 0<R.left U y e then some ((y:Int),R.left U y e)else none
def Rg.I (R:Rg) (t:Nat):List Nat:=List.range' (t-R.f) (t-(t-R.f))
def Rg.J (R:Rg) (t:Nat):List Nat:=(R.I t++[t]).filter fun(i:Nat)=> !(!decide ((i:Int)<(t:Int)-(R.f:Int)+1))
section
variable {R:Rg}{U U':List Ur}{N y y' e e' t t' k n:Nat}{m:Rat}{I J:List Nat}
open Rg
theorem lI {i:Nat}:i∈R.I k↔i<k∧k≤i+R.f:=by
 unfold Rg.I
 rw[List.mem_range'_1]
 omega
theorem Wq:(R.I k).Pairwise (· < ·):=List.pairwise_lt_range' ..
theorem vO:(R.I k).length≤k:=by
 unfold Rg.I
 rw[List.length_range']
 omega
theorem kQ (h:0<R.left U y e):R.wl U e (y::I)=((y:Int),R.left U y e)::R.wl U e I:=by
 unfold Rg.wl
 rw[List.filterMap_cons,if_pos h]
theorem nC (h:¬0<R.left U y e):R.wl U e (y::I)=R.wl U e I:=by
 unfold Rg.wl
 rw[List.filterMap_cons,if_neg h]
theorem Cz:∀{I:List Nat},(∀i∈I,R.left U i e=R.left U' i e)→R.wl U e I=R.wl U' e I
 | [],_=>rfl
 | i::I,h=>by
  have e1:=h i (List.mem_cons_self ..)
  have ih:=Cz (I:=I) fun j hj=>h j (List.mem_cons_of_mem _ hj)
  by_cases hp:0<R.left U i e
  ·rw[kQ hp,kQ (by rw[←e1];exact hp),e1,ih]
  rw[nC hp,nC (by rw[←e1];exact hp),ih]
theorem LZ:R.wl U e (I++J)=R.wl U e I++R.wl U e J:=by simp[Rg.wl]
theorem jV {x:Int×Rat}:x∈R.wl U e I↔∃i∈I,x=((i:Int),R.left U i e)∧0<R.left U i e:=by
 unfold Rg.wl
 rw[List.mem_filterMap]
 constructor
 ·rintro⟨i,hi,h⟩
  split at h
  ·rename_i hp
   injection h with h
   exact⟨i,hi,h.symm,hp⟩
  cases h
 rintro⟨i,hi,rfl,hp⟩
 exact⟨i,hi,if_pos hp⟩
theorem vN:(R.wl U e I).length≤I.length:=List.length_filterMap_le ..
theorem Gm {p:Int→Bool}:(R.wl U e I).filter (fun x=>p x.1)=R.wl U e (I.filter fun(i:Nat)=>p (i:Int)):=by
 induction I with
 | nil=>rfl
 | cons i I ih=>
  by_cases hp:0<R.left U i e
  ·rw[kQ hp]
   cases hq:p (i:Int)with
   | true=>rw[List.filter_cons_of_pos (by exact hq),List.filter_cons_of_pos (by exact hq),kQ hp,ih]
   | false=>rw[List.filter_cons_of_neg (by simp[hq]),List.filter_cons_of_neg (by simp[hq]),ih]
  rw[nC hp,ih]
  cases hq:p (i:Int)with
  | true=>rw[List.filter_cons_of_pos (by exact hq),nC hp]
  | false=>rw[List.filter_cons_of_neg (by simp[hq])]
theorem PG:R.I (k+1)=(R.I k++[k]).filter fun(i:Nat)=> !decide ((i:Int)<(k:Int)-(R.f:Int)+1):=by
 have e1:R.I k++[k]=List.range' (k-R.f) (k+1-(k-R.f)):=by
  unfold Rg.I
  rw[show k+1-(k-R.f)=(k-(k-R.f))+1 by omega,List.range'_concat,show k-R.f+1*(k-(k-R.f))=k by omega]
 rw[e1]
 unfold Rg.I
 by_cases h:k<R.f
 ·rw[show k+1-R.f=0 by omega,show k-R.f=0 by omega]
  symm
  rw[List.filter_eq_self]
  intro i hi
  simp
  omega
 rw[show k+1-(k-R.f)=R.f+1 by omega,List.range'_succ,List.filter_cons_of_neg (by simp;omega),show k+1-(k+1-R.f)=R.f by omega,show k-R.f+1=k+1-R.f by omega]
 symm
 rw[List.filter_eq_self]
 intro i hi
 have:=List.mem_range'_1.1 hi
 simp
 omega
theorem SX:eS (fun x:Int×Rat=>decide (x.1<(t:Int)-(R.f:Int)+1)) (R.wl U e (R.I t++[t]))=R.wl U e (R.I (t+1)):=by
 unfold eS
 rw[Gm (p:=fun z=> !decide (z<(t:Int)-(R.f:Int)+1)),PG]
theorem SY:eS (fun x:Int×Rat=> !decide (x.1<(t:Int)-(R.f:Int)+1)) (R.wl U e (R.I t++[t]))=R.wl U e (R.J t):=by
 unfold eS
 rw[Gm (p:=fun z=> !(!decide (z<(t:Int)-(R.f:Int)+1)))]
 rfl
theorem Nd {i:Nat}:i∈R.J t↔i+R.f=t:=by
 unfold Rg.J
 rw[List.mem_filter,List.mem_append,lI,List.mem_singleton]
 simp only[Bool.not_not,decide_eq_true_eq]
 omega
theorem Ll {fr:Int}:∀l:List (Int×Rat),aX fr l 0=(l,[],0)
 | []=>rfl
 | x::l=>by
  rw[Wg (fun h=>by exact absurd h.2 (by grind)),Ll l]
theorem Sy (hm:0<m) (hle:m≤R.left U y e):∀{I:List Nat},(∀i∈I,0≤R.left U i e)→I.Pairwise (· < ·)→y∈I→(aX (y:Int) (R.wl U e I) m).1.filter (fun x=> !oO x.1 x.2)=R.wl (us U y e t m) e I
 | [],_,_,h=>by cases h
 | i::I,h0,hp,h=>by
  have hp1:=List.pairwise_cons.1 hp
  have fl:∀L:List (Int×Rat),(∀x∈L,0<x.2)→L.filter (fun x=> !oO x.1 x.2)=L:=fun L hL=>by
   rw[List.filter_eq_self]
   intro x hx
   simp only[oO,Bool.not_eq_true',decide_eq_false_iff_not]
   have:=(iT _).2 (hL x hx)
   omega
  by_cases hi:i=y
  ·subst hi
   have hpos:0<R.left U i e:=by grind
   rw[kQ hpos,JE (x:=((i:Int),R.left U i e)) (Int.le_refl _) hm]
   have hq:aO (R.left U i e) [m]=m:=by rw[Er];split <;> grind
   dsimp only
   rw[hq,show m-m=(0:Rat) by grind,Ll]
   dsimp only
   have hrest:R.wl (us U i e t m) e I=R.wl U e I:=Cz fun j hj=>oP (by have:=hp1.1 j hj;omega)
   have hfl:=fl (R.wl U e I) fun x hx=>by
    obtain⟨j,_,rfl,h9⟩:=jV.1 hx
    exact h9
   have hl:=Ha (R:=R) (U:=U) (y:=i) (e:=e) (t:=t) (m:=m) (by grind)
   by_cases hz:0<R.left U i e-m
   ·rw[List.filter_cons_of_pos (by simp only[oO,Bool.not_eq_true',decide_eq_false_iff_not];have:=(iT _).2 hz;omega),hfl,kQ (by rw[hl];exact hz),hl,hrest]
   have hz0:R.left U i e-m=0:=by grind
   rw[List.filter_cons_of_neg (by rw[hz0];simp[oO]),hfl,nC (by rw[hl];exact hz),hrest]
  have hyI:y∈I:=by
   rcases List.mem_cons.1 h with h | h
   ·exact absurd h.symm hi
   exact h
  have hlt:=hp1.1 y hyI
  have ih:=Sy (I:=I) hm hle (fun j hj=>h0 j (List.mem_cons_of_mem _ hj)) hp1.2 hyI
  have hsame:=oP (R:=R) (U:=U) (t:=t) (m:=m) (y:=y) (e:=e) (y':=i) (e':=e) (by omega)
  by_cases hpos:0<R.left U i e
  ·rw[kQ hpos,Wg (x:=((i:Int),R.left U i e)) (fun h9=>by have:=h9.1;dsimp only at this;omega)]
   dsimp only
   rw[List.filter_cons_of_pos (by simp only[oO,Bool.not_eq_true',decide_eq_false_iff_not];have:=(iT _).2 hpos;omega),ih,kQ (by rw[hsame];exact hpos),hsame]
  rw[nC hpos,ih,nC (by rw[hsame];exact hpos)]
def Rg.wv (R:Rg) (U:List Ur) (p:Nat×Nat):Wv:=⟨p.1,p.2,R.left U p.1 p.2⟩
def Rg.wt0 (R:Rg) (U:List Ur) (t k:Nat):List Wv:=(List.range k).flatMap fun e=>bif R.mem t e then(R.wl U e (R.I t)).map fun x=>(⟨x.1,e,x.2⟩:Wv)else []
def Rg.wt (R:Rg) (U:List Ur) (t:Nat):List (Nat×Nat):=(R.vl t).filter fun p=>R.may t p&&decide (0<R.left U p.1 p.2)
theorem PH {x:Wv}:x∈R.wt0 U t k↔∃y e:Nat,e<k∧R.mem t e=true∧y∈R.I t∧0<R.left U y e∧x=⟨y,e,R.left U y e⟩:=by
 unfold Rg.wt0
 rw[List.mem_flatMap]
 constructor
 ·rintro⟨e,he,hx⟩
  rw[List.mem_range]at he
  cases hm:R.mem t e
  ·rw[hm]at hx
   cases hx
  rw[hm]at hx
  obtain⟨z,hz,rfl⟩:=List.mem_map.1 hx
  obtain⟨y,hy,rfl,hp⟩:=jV.1 hz
  exact⟨y,e,he,hm,hy,hp,rfl⟩
 rintro⟨y,e,he,hm,hy,hp,rfl⟩
 refine⟨e,List.mem_range.2 he,?_⟩
 rw[hm]
 exact List.mem_map.2 ⟨((y:Int),R.left U y e),jV.2 ⟨y,hy,rfl,hp⟩,rfl⟩
theorem DM {α:Type}{f:α→Int}:∀{A B:List α},A.Pairwise (fun x y=>f x<f y)→B.Pairwise (fun x y=>f x<f y)→(∀x,x∈A↔x∈B)→A=B
 | [],[],_,_,_=>rfl
 | [],y::B,_,_,h=>absurd ((h y).2 (List.mem_cons_self ..)) (by simp)
 | x::A,[],_,_,h=>absurd ((h x).1 (List.mem_cons_self ..)) (by simp)
 | x::A,y::B,hA,hB,h=>by
  have h1:=List.pairwise_cons.1 hA
  have h2:=List.pairwise_cons.1 hB
  have e1:x=y:=by
   rcases List.mem_cons.1 ((h x).1 (List.mem_cons_self ..))with h3 | h3
   ·exact h3
   rcases List.mem_cons.1 ((h y).2 (List.mem_cons_self ..))with h4 | h4
   ·exact h4.symm
   have:=h1.1 y h4
   have:=h2.1 x h3
   omega
  subst e1
  congr 1
  refine DM h1.2 h2.2 fun z=>?_
  constructor
  ·intro hz
   rcases List.mem_cons.1 ((h z).1 (List.mem_cons_of_mem _ hz))with rfl | h3
   ·exact absurd (h1.1 z hz) (by omega)
   exact h3
  intro hz
  rcases List.mem_cons.1 ((h z).2 (List.mem_cons_of_mem _ hz))with rfl | h3
  ·exact absurd (h2.1 z hz) (by omega)
  exact h3
theorem Tf (hI:I.Pairwise (· < ·)):(R.wl U e I).Pairwise fun x y=>x.1<y.1:=by
 induction I with
 | nil=>exact List.Pairwise.nil
 | cons i I ih=>
  have h1:=List.pairwise_cons.1 hI
  by_cases hp:0<R.left U i e
  ·rw[kQ hp]
   refine List.pairwise_cons.2 ⟨fun x hx=>?_,ih h1.2⟩
   obtain⟨j,hj,rfl,_⟩:=jV.1 hx
   have:=h1.1 j hj
   dsimp only
   omega
  rw[nC hp]
  exact ih h1.2
theorem PI:(R.wt0 U t k).Pairwise fun x y=>x.e<y.e∨(x.e=y.e∧x.y<y.y):=by
 unfold Rg.wt0
 refine List.pairwise_flatMap.2 ⟨fun e _=>?_,List.pairwise_lt_range.imp fun{a b} h x hx y hy=>?_⟩
 ·cases R.mem t e
  ·exact List.Pairwise.nil
  show((R.wl U e (R.I t)).map fun x=>(⟨x.1,e,x.2⟩:Wv)).Pairwise _
  rw[List.pairwise_map]
  exact(Tf Wq).imp fun h=>.inr ⟨rfl,h⟩
 have hx1:x.e=(a:Int):=by
  cases h9:R.mem t a <;> rw[h9]at hx
  ·cases hx
  obtain⟨z,_,rfl⟩:=List.mem_map.1 hx
  rfl
 have hy1:y.e=(b:Int):=by
  cases h9:R.mem t b <;> rw[h9]at hy
  ·cases hy
  obtain⟨z,_,rfl⟩:=List.mem_map.1 hy
  rfl
 omega
theorem DN:((R.wt U t).map (R.wv U)).Pairwise fun x y=>x.y<y.y∨(x.y=y.y∧x.e<y.e):=by
 rw[List.pairwise_map]
 refine List.Pairwise.imp (fun{p q} h=>?_) ((Es t).filter _)
 unfold plt at h
 unfold Rg.wv
 dsimp only
 omega
theorem SW (hI:R.Iv N U) (ht:t≤N):mA (R.wt0 U t R.E)=(R.wt U t).map (R.wv U):=by
 refine DG (DN.imp fun h=>by omega) fun z=>?_
 refine DM (f:=Wv.e) ?_ ?_ fun x=>?_
 ·refine List.Pairwise.imp_of_mem (fun{a b} ha hb h=>?_) (DN.filter _)
  have h1:=of_decide_eq_true (List.mem_filter.1 ha).2
  have h2:=of_decide_eq_true (List.mem_filter.1 hb).2
  omega
 ·refine List.Pairwise.imp_of_mem (fun{a b} ha hb h=>?_) (PI.filter _)
  have h1:=of_decide_eq_true (List.mem_filter.1 ha).2
  have h2:=of_decide_eq_true (List.mem_filter.1 hb).2
  omega
 rw[List.mem_filter,List.mem_filter,PH,List.mem_map]
 constructor
 ·rintro⟨⟨p,hp,rfl⟩,hz⟩
  refine⟨⟨p.1,p.2,?_⟩,hz⟩
  unfold Rg.wt at hp
  rw[List.mem_filter,fK]at hp
  obtain⟨⟨h1,h2,h3⟩,h4⟩:=hp
  unfold Rg.may at h4
  simp only[Bool.and_eq_true,decide_eq_true_eq]at h4
  exact⟨h2,h4.1.2,lI.2 ⟨h1,h4.1.1⟩,h4.2,rfl⟩
 rintro⟨⟨y,e,h1,h2,h3,h4,rfl⟩,hz⟩
 refine⟨⟨(y,e),?_,rfl⟩,hz⟩
 have h5:=lI.1 h3
 have h6:=(hI.v y e (by omega) h1).1.2
 have h7:R.isV y e=true:=by
  cases h8:R.isV y e
  ·rw[Ej h8]at h6
   grind
  rfl
 unfold Rg.wt
 rw[List.mem_filter,fK]
 refine⟨⟨h5.1,h1,h7⟩,?_⟩
 unfold Rg.may
 simp only[Bool.and_eq_true,decide_eq_true_eq]
 exact⟨⟨h5.2,h2⟩,h4⟩
theorem JG (h:R.left U y e≤0):R.use U y e t=U:=nJ (by have:=pS (R.left U y e) (R.room U e t);grind)
theorem MS (hI:R.Iv N U) (ht:t<N):R.step U t=(R.wt U t).foldl (fun U p=>R.use U p.1 p.2 t) U:=by
 have gen:∀(L:List (Nat×Nat)) (V:List Ur),L.Nodup→(∀p∈L,R.left V p.1 p.2=R.left U p.1 p.2)→(L.filter (R.may t)).foldl (fun U p=>R.use U p.1 p.2 t) V=(L.filter fun p=>R.may t p&&decide (0<R.left U p.1 p.2)).foldl (fun U p=>R.use U p.1 p.2 t) V:=by
  intro L
  induction L with
  | nil=>intro V _ _;rfl
  | cons p L ih=>
   intro V hn hV
   obtain⟨hp,hn⟩:=List.nodup_cons.1 hn
   have hVp:=hV p (List.mem_cons_self ..)
   cases hm:R.may t p
   ·rw[List.filter_cons_of_neg (by simp[hm]),List.filter_cons_of_neg (by simp[hm])]
    exact ih V hn fun q hq=>hV q (List.mem_cons_of_mem _ hq)
   rw[List.filter_cons_of_pos hm]
   by_cases h0:0<R.left U p.1 p.2
   ·rw[List.filter_cons_of_pos (by simp[hm,h0]),List.foldl_cons,List.foldl_cons]
    refine ih _ hn fun q hq=>?_
    rw[Ag (fun h9=>hp (by rw[show p=q from Prod.ext h9.1 h9.2];exact hq))]
    exact hV q (List.mem_cons_of_mem _ hq)
   rw[List.filter_cons_of_neg (by simp[hm,h0]),List.foldl_cons,JG (by rw[hVp];grind)]
   exact ih V hn fun q hq=>hV q (List.mem_cons_of_mem _ hq)
 exact gen _ U (gV t) fun _ _=>rfl
theorem rR {p:Nat×Nat}:∀(L:List (Nat×Nat)) (V:List Ur),p∉L→R.left (L.foldl (fun U p=>R.use U p.1 p.2 t) V) p.1 p.2=R.left V p.1 p.2
 | [],_,_=>rfl
 | q::L,V,h=>by
  rw[List.foldl_cons,rR L _ fun h9=>h (List.mem_cons_of_mem _ h9)]
  exact Ag fun h9=>h (by rw[show p=q from(Prod.ext h9.1 h9.2).symm];exact List.mem_cons_self ..)
end
def fd (n v:Nat):List Nat:=(List.range n).map fun i=>v/10^i%10
section
variable {xs:List Nat}
end
end Go.Proofs.YtbbabfkgdnkehaaGreat
