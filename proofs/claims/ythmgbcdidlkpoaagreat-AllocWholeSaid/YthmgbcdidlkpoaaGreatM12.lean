/- Part 12 of a proof: A1 to Rib6. -/
import Derived.Test.YthmgbcdidlkpoaaGreatM6
import Derived.Test.YthmgbcdidlkpoaaGreatM11
import Derived.Test.YthmgbcdidlkpoaaGreatM5
import Derived.Test.YthmgbcdidlkpoaaGreatM9
import Derived.WalkKit
import Derived.ProofKit
import Derived.OpenShut
import Derived.ChangeOld
import Derived.Below
import Derived.Carry
import Derived.Test.YthmgbcdidlkpoaaGreatM7
set_option maxRecDepth 100000
set_option linter.unusedVariables false
set_option linter.unusedSimpArgs false
namespace Go.Proofs.YthmgbcdidlkpoaaGreat
open Go Go.RowKit
theorem uQ {xs:List Nat}(hx:xs.length≤1099511627776):aD true Tryz.prog 68 [] [.one (.t (sU false xs))] (aM (.one (.t (sU true xs)))):=by
 refine bK Tryz.func68 rfl Tryz.ntmps68 rfl aA rfl fun N w c0 h0=>?_
 refine sq ?_;refine rl ?_;refine o1 ?_;refine nl ?_;refine sq ?_;refine rl ?_;refine o1 ?_;refine nl ?_;refine sq ?_;refine rl ?_;refine o1 ?_;refine o1 ?_
 refine eJ (j:=0) aA rfl rfl rfl rfl .nil .fz (Pa _) (Eh _) rfl (by omega) (by omega) ?_
 refine o1 ?_;refine nl ?_;refine rt ?_
 exact en (.inl rfl) rfl (aP (.one (.sl rfl rfl (by rw[Nat.zero_add,Nat.mul_one,List.nil_append,List.take_of_length_le (by simp[fU])]) (by simp[fU])))) (by decide) (fun _=>.inl ⟨rfl,eK xs⟩) (by simp[aM,sU])
theorem Tq {a:Fr4}(ha:a.len 1099511627776):aD true Tryz.prog 24 [] [qF a] (aM (rO a)):=by
 refine bK Tryz.func24 rfl Tryz.ntmps24 rfl aA rfl fun N w c0 h0=>?_
 refine sq ?_;refine rl ?_;refine bx 0 ?_;refine al 1 ?_;refine nl ?_;refine sq ?_;refine rd [0,1] (fun i=>[17].contains i) mixed ?_
 refine dv 0 ?_;refine dv 1 ?_;refine aX 2 ?_;refine dv 3 ?_;refine dv 4 ?_;refine aX 5 ?_;refine dv 8 ?_;refine dv 9 ?_;refine aX 10 ?_;refine dv 11 ?_;refine dv 12 ?_;refine aX 13 ?_
 refine iM 2 6 rfl (uQ ha.1) Lu ⟨a1 rfl,rfl⟩ ?_;refine df 7 ?_;refine iM 3 14 rfl (uQ ha.2) Lu ⟨a1 rfl,rfl⟩ ?_;refine df 15 ?_;refine df 16 ?_;refine dst 17 ?_;refine aO ?_
 refine rt ?_
 exact en (.inl rfl) rfl (aP (.agg (.cons (.id rfl) (.cons (.sl (trs:=aK a.x) rfl rfl (aV _) (aQ _)) (.cons (.id rfl) (.cons (.sl (trs:=aK a.y) rfl rfl (aV _) (aQ _)) .nil)))))) (by decide) (fun _=>qA a) rfl
theorem Zj {a:Fr4}(ha:a.len 1099511627776):aD true Tryz.prog 76 [] [qF a] (aM (rO a)):=by
 refine bK Tryz.func76 rfl Tryz.ntmps76 rfl aA rfl fun N w c0 h0=>?_
 refine sq ?_;refine rl ?_;refine bx 0 ?_;refine al 1 ?_;refine nl ?_;refine sq ?_;refine rd [0,1] (fun i=>[17].contains i) mixed ?_
 refine dv 0 ?_;refine dv 1 ?_;refine aX 2 ?_;refine dv 3 ?_;refine dv 4 ?_;refine aX 5 ?_;refine dv 8 ?_;refine dv 9 ?_;refine aX 10 ?_;refine dv 11 ?_;refine dv 12 ?_;refine aX 13 ?_
 refine iM 2 6 rfl (uQ ha.1) Lu ⟨a1 rfl,rfl⟩ ?_;refine df 7 ?_;refine iM 3 14 rfl (uQ ha.2) Lu ⟨a1 rfl,rfl⟩ ?_;refine df 15 ?_;refine df 16 ?_;refine dst 17 ?_;refine aO ?_
 refine rt ?_
 exact en (.inl rfl) rfl (aP (.agg (.cons (.id rfl) (.cons (.sl (trs:=aK a.x) rfl rfl (aV _) (aQ _)) (.cons (.id rfl) (.cons (.sl (trs:=aK a.y) rfl rfl (aV _) (aQ _)) .nil)))))) (by decide) (fun _=>qA a) rfl
theorem Ei {n d:Int}(h1:-9223372036854775808≤n) (h2:n≤9223372036854775807) (h3:-9223372036854775808≤d) (h4:d≤9223372036854775807):aD true Tryz.prog 35 [] [.one (tv (.int .i64 n)),.one (tv (.int .i64 d))] (aM (qO (Rat.divInt n d))):=by
 refine bK Tryz.func35 rfl Tryz.ntmps35 rfl aA rfl fun N w c0 h0=>?_
 have hs:=IA h1 h2 h3 h4
 have hl:(Fr4.of (Rat.divInt n d)).len 1099511627776:=⟨Nat.le_trans hs.1 (by omega),Nat.le_trans hs.2 (by omega)⟩
 refine sq ?_;refine rl ?_;refine al 0 ?_;refine nl ?_;refine sq ?_;refine rl ?_;refine o1 ?_;refine o1 ?_
 refine ca (HR h1 h2 h3 h4) KR ⟨a1 rfl,a1 rfl,rfl⟩ (.tup [qF (.of (Rat.divInt n d)),.one (tv (.int .i64 (if d=0 then 20 else 0)))]) ?_;(iterate 3 refine o1 ?_);refine al 1 ?_;refine st ?_
 refine o1 ?_;refine nl ?_;refine sq ?_;refine rl ?_;refine ld ?_;refine fJ 2 (Zj (a:=.of (Rat.divInt n d)) hl) KS ⟨aB rfl,rfl⟩ ?_;refine st ?_;refine nl ?_;refine rt ?_
 exact en (.inl rfl) rfl (aP (.agg (.cons (.id rfl) (.cons (.sl (trs:=aK (dg 4294967296 (Rat.divInt n d).num.natAbs)) rfl rfl (aV _) (aQ _)) (.cons (.id rfl) (.cons (.sl (trs:=aK (dg 4294967296 (Rat.divInt n d).den)) rfl rfl (aV _) (aQ _)) .nil)))))) (by decide) (fun _=>sM _) rfl
theorem DW {a:Zi}{xs:List Fr4}:aD true Tryz.prog 7 [] [gF a,.one (.t (sQ false xs))] (aM (.one (tv (.bool (tC a xs))))):=by
 refine bK Tryz.func7 rfl Tryz.ntmps7 rfl aA rfl fun N9 w9 c0 h0=>?_
 refine WP.sln (i:=1) rfl fun hlen=>?_
 refine sq ?_;refine rl ?_;refine bx 0 ?_;refine o1 ?_;refine nl ?_;refine sq ?_;refine sq ?_;refine rl ?_;refine o1 ?_;refine nl ?_;refine bl ?_
 refine lp (γ:=Nat) (fun s=>cG [(1,.one (.t (sQ false xs))),(2,.one (.pt 0 0)),(5,.one (tv (.int .i64 ((s:Nat):Int))))]) (fun s=>[(⟨24,0,[tv (.bool a.s),.t (sU false a.x)]⟩:Ob)].map some) (fun s=>s≤xs.length∧∀j,j<s→gU (bD xs j)=true) (fun s=>xs.length-s) 0 ⟨Nat.zero_le _,fun j hj=>absurd hj (Nat.not_lt_zero j)⟩ (aJ h0 [0] _ _ (by decide) ⟨rfl,rfl,rfl,trivial⟩ ⟨oe rfl rfl,rfl⟩) ?_
 rintro k9 ⟨hk9,hA⟩;refine sq ?_;refine sq ?_;refine rl ?_;(iterate 4 refine o1 ?_);refine nl ?_;refine bU rfl (fun h1=>?_) (fun h1=>?_)
 ·refine sk ?_;refine sq ?_;refine bl ?_;refine sq ?_;refine rl ?_;(iterate 5 refine o1 ?_)
  refine fQ ([sU false (bD xs (k9)).x]) (gH (f:=(Fr4.tr false)) (z:=4) (o:=1) (fun _=>rfl) (fE (by omega)) (Nat.le_of_ble_eq_true rfl) rfl) ?_
  (iterate 3 refine o1 ?_);refine WL.split (t:=20) rfl (fun h2=>?_) (fun h2=>?_)
  ·(iterate 8 refine eO ?_);refine o1 ?_;refine nl ?_;refine mF rfl ?_;refine sq ?_;refine rl ?_;refine o1 ?_;refine nl ?_;refine rt ?_
   have hs9:gU (bD xs k9)=false:=by simp only[gU,Bool.and_eq_false_iff,decide_eq_false_iff_not];left;omega
   exact pT (.inl rfl) rfl (Im (a:=a) (by omega) hs9)
  (iterate 5 refine o1 ?_);refine fQ ([sU false (bD xs (k9)).y]) (gH (f:=(Fr4.tr false)) (z:=4) (o:=3) (fun _=>rfl) (fE (by omega)) (Nat.le_of_ble_eq_true rfl) rfl) ?_
  (iterate 3 refine o1 ?_);refine nl ?_;refine bU rfl (fun h3=>?_) (fun h3=>?_)
  ·refine sq ?_;refine rl ?_;refine o1 ?_;refine nl ?_;refine rt ?_
   have hs9:gU (bD xs k9)=false:=by simp only[gU,Bool.and_eq_false_iff,decide_eq_false_iff_not];right;omega
   exact pT (.inl rfl) rfl (Im (a:=a) (by omega) hs9)
  refine sk ?_;refine rl ?_;refine o1 ?_;refine o1 ?_;refine WL.cast (t:=11) (u':=.int .i64 ((k9+1:Nat):Int)) rfl (aL (by omega)) ?_
  refine o1 ?_;refine nl ?_;have hs9:gU (bD xs k9)=true:=by simp only[gU,Bool.and_eq_true,decide_eq_true_eq];exact⟨by omega,by omega⟩
  exact⟨k9+1,by omega,⟨by omega,IB (f:=fun j=>gU (bD xs j)) hA hs9⟩,aJ h0 [0] _ _ (by decide) ⟨rfl,rfl,rfl,trivial⟩ ⟨oe rfl rfl,rfl⟩⟩
 refine ex ?_;refine sq ?_;refine rl ?_;refine o1 ?_;refine ld ?_;(iterate 3 refine o1 ?_);refine WL.split (t:=34) rfl (fun h4=>?_) (fun h4=>?_)
 ·(iterate 5 refine o1 ?_);refine nl ?_;refine rt ?_;have hy9:=Dr (a:=a) (k:=k9) hA (by omega)
  exact pT (.inl rfl) rfl (by rw[←hy9,decide_eq_true (show a.x.length≤6 by omega),Bool.true_and];exact decide_eq_decide.2 (by omega))
 (iterate 3 refine eO ?_);refine o1 ?_;refine o1 ?_;refine nl ?_;refine rt ?_;have hy9:=Dr (a:=a) (k:=k9) hA (by omega)
 exact pT (.inl rfl) rfl (by rw[←hy9,decide_eq_false (show¬a.x.length≤6 by omega),Bool.false_and])
theorem Lw {a:Zi}(hl:a.x.length≤1000000):aD true Tryz.prog 11 [] [gF a] (aM (gO a)):=by
 refine bK Tryz.func11 rfl Tryz.ntmps11 rfl aA rfl fun N9 w9 c0 h0=>?_
 refine sq ?_;refine rl ?_;refine bx 0 ?_;refine al 1 ?_;refine nl ?_;refine sq ?_;refine rl ?_;refine o1 ?_;refine ld ?_;refine o1 ?_;refine al 2 ?_;refine st ?_;refine nl ?_
 refine sq ?_;refine rl ?_;refine o1 ?_;refine ld ?_;refine o1 ?_;refine ld ?_;refine eJ (j:=3) aA rfl rfl rfl rfl .nil .fz (Pa _) (Eh _) rfl (by omega) (by omega) ?_
 refine o1 ?_;refine st ?_;refine nl ?_;refine sq ?_;refine rl ?_;refine ld ?_;refine st ?_;refine nl ?_;refine rt ?_
 exact en (.inl rfl) rfl (aP (.agg (.cons (.id rfl) (.cons (.sl (trs:=aK a.x) rfl rfl (by rw[Nat.zero_add];exact aV _) (by rw[Nat.zero_add];exact aQ _)) .nil)))) (by decide) (fun _=>⟨trivial,.inl ⟨rfl,eK _⟩,trivial⟩) (by rw[Nat.zero_add];rfl)
theorem DX {xs:List Fr4}(hs:∀x∈xs,x.len 1099511627776) (hl:xs.length≤12):aD false Tryz.prog 9 [] [.one (.t (sQ false xs))] (aM (.one (.t (sQ false xs)))):=by
 refine bK Tryz.func9 rfl Tryz.ntmps9 rfl aA rfl fun N9 w9 c0 h0=>?_
 refine sq ?_;refine rl ?_;refine o1 ?_;refine nl ?_;refine sq ?_;refine rl ?_;refine o1 ?_;refine nl ?_;refine sq ?_;refine sq ?_;refine rl ?_;refine o1 ?_;refine nl ?_;refine bl ?_
 refine lp (γ:=Nat) (fun s=>cG [(0,.one (.t (sQ false xs))),(3,.one (.sl 0 0 (s))),(4,.one (tv (.int .i64 ((s:Nat):Int))))]) (fun s=>[(⟨50,4,((xs.take s).flatMap (Fr4.tr false)).map .t⟩:Ob)].map some) (fun s=>s≤xs.length) (fun s=>xs.length-s) 0 (Nat.zero_le _) ((nr (i:=3) 0 50 4 rfl rfl rfl rfl).trans (aJ h0 [0] _ _ (by decide) ⟨rfl,rfl,rfl,trivial⟩ ⟨bJ rfl,rfl⟩)) ?_
 rintro k9 hk9;refine sq ?_;refine sq ?_;refine rl ?_;(iterate 4 refine o1 ?_);refine nl ?_;refine bU rfl (fun h1=>?_) (fun h1=>?_)
 ·refine sk ?_;refine sq ?_;refine bl ?_;refine rl ?_;(iterate 4 refine o1 ?_)
  refine fQ ((Fr4.tr false) (bD xs (k9))) (gH (f:=(Fr4.tr false)) (z:=4) (o:=0) (fun _=>rfl) (fE (by omega)) (Nat.le_of_ble_eq_true rfl) rfl) ?_
  refine ca (Tq (a:=(bD xs (k9))) (hs _ (cL (by omega)))) KT ⟨aB rfl,rfl⟩ (qF (bD xs (k9))) ?_
  refine bs 1 ?_
  refine eJ (j:=2) aA rfl rfl rfl rfl (.sl rfl (by rw[List.length_map,bV (f:=Fr4.tr false) (z:=4) (fun _=>rfl),List.length_take,Nat.min_eq_left (by omega)])) (.sl rfl rfl rfl) rfl rfl rfl (by omega) (by omega) ?_
  refine o1 ?_;refine nl ?_;refine rl ?_;refine o1 ?_;refine o1 ?_;refine WL.cast (t:=10) (u':=.int .i64 ((k9+1:Nat):Int)) rfl (aL (by omega)) ?_
  refine o1 ?_;refine nl ?_
  have hst:((xs.take k9).flatMap (Fr4.tr false)).map AV.t++((bD xs (k9)).tr false).map .t=((xs.take (k9+1)).flatMap (Fr4.tr false)).map .t:=by rw[iO,List.take_add_one,fE (by omega)];rfl
  exact⟨k9+1,by omega,by omega,aJ h0 [2] _ _ (by decide) ⟨rfl,rfl,rfl,trivial⟩ ⟨bJ (congrArg (fun l=>some (⟨50,4,l⟩:Ob)) hst),rfl⟩⟩
 refine ex ?_;refine sq ?_;have hk0:k9=xs.length:=by omega
 have htk:xs.take k9=xs:=List.take_of_length_le (by omega)
 refine WP.sub (fz (i:=3) (k:=0) (t:=50) (z:=4) (n:=k9) (l:=(xs.take k9).flatMap (Fr4.tr false)) rfl rfl rfl (by rw[bV (f:=Fr4.tr false) (z:=4) (fun _=>rfl),htk,hk0])) ?_
 refine rl ?_;refine o1 ?_;refine o1 ?_;refine nl ?_;refine rt ?_;exact en (.inl rfl) rfl (aP (.one (.id rfl))) (by decide) (fun h=>by cases h) (by rw[htk,hk0];rfl)
theorem Ts {k:Int}(h:(dg 4294967296 k.natAbs).length≤1000000):aD true Tryz.prog 22 [] [kF k] (aM (.one (tv (.bool true)))):=by
 have h1:=uR (a:=.of k) (k:=k) (Zg.of (Nat.le_trans h (by omega)))
 rw[show cM (Zi.of k).s (Zi.of k).x=true from oN k]at h1
 exact h1
theorem Pb {a:Zi}{k:Int}(ha:Zn a k):aD true Tryz.prog 19 [] [gF a,gF a] (aM (.one (tv (.int .i64 0)))):=by
 have h:=Ds ha ha
 rw[Int.sub_self]at h
 exact h
theorem Zk {l:List Int}(hs:∀k∈l,(dg 4294967296 k.natAbs).length≤1000000):aD true Tryz.prog 15 [] [.one (.t (sZ 24 (aT l))),.one (.t (sZ 34 (aT l)))] (aM (.one (tv (.bool true)))):=by
 refine bK Tryz.func15 rfl Tryz.ntmps15 rfl aA rfl fun N9 w9 c0 h0=>?_
 refine WP.sln (i:=0) rfl fun hlen=>?_
 refine sq ?_;refine rl ?_;refine o1 ?_;refine nl ?_;refine sq ?_;refine sq ?_;refine rl ?_;(iterate 5 refine o1 ?_);refine nl ?_;refine bU rfl (fun h1=>?_) (fun h1=>?_)
 ·exact absurd rfl h1
 refine sk ?_;refine sq ?_;refine sq ?_;refine rl ?_;refine o1 ?_;refine nl ?_;refine bl ?_
 refine lp (γ:=Nat) (fun s=>cG [(0,.one (.t (sZ 24 (aT l)))),(1,.one (.t (sZ 34 (aT l)))),(5,.one (tv (.int .i64 ((s:Nat):Int))))]) (fun s=>([]:List Ob).map some) (fun s=>s≤(aT l).length) (fun s=>(aT l).length-s) 0 (Nat.zero_le _) (aJ h0 [] _ _ (by decide) ⟨rfl,rfl,rfl,trivial⟩ rfl) ?_
 rintro k9 hk9;refine sq ?_;refine sq ?_;refine rl ?_;(iterate 4 refine o1 ?_);refine nl ?_;refine bU rfl (fun h2=>?_) (fun h2=>?_)
 ·refine sk ?_;refine sq ?_;refine bl ?_;refine sq ?_;refine rd [] (fun i=>[].contains i) mixed ?_
  refine dv 0 ?_;refine dv 1 ?_;refine dv 2 ?_;refine iE 3 ((bS false (.of (bY l (k9))))) (Cc (l:=l) (k:=k9) (by rw[cU]at*;omega)) ?_
  refine aI 4 rfl (Ts (k:=(bY l (k9))) (hs _ (lQ (by rw[cU]at*;omega)))) Lx ⟨aB rfl,rfl⟩ (.one (tv (.bool true))) ?_
  refine df 5 ?_;refine df 6 ?_;refine dv 7 ?_;refine dv 8 ?_;refine dv 9 ?_;refine iE 10 ((bS false (.of (bY l (k9))))) (Cc (l:=l) (k:=k9) (by rw[cU]at*;omega)) ?_
  refine dv 12 ?_;refine dv 13 ?_;refine dv 14 ?_;refine iE 15 ((bS false (.of (bY l (k9))))) (Cc (l:=l) (k:=k9) (by rw[cU]at*;omega)) ?_
  refine aI 11 rfl (Lw (a:=.of (bY l (k9))) (Nat.le_trans (hs _ (lQ (by rw[cU]at*;omega))) (by omega))) Tt ⟨aB rfl,rfl⟩ (kF (bY l (k9))) ?_
  refine aI 16 rfl (Pb (Zn.of (k:=(bY l (k9))) (Nat.le_trans (hs _ (lQ (by rw[cU]at*;omega))) (by omega)))) Lq ⟨aB rfl,aB rfl,rfl⟩ (.one (tv (.int .i64 0))) ?_
  refine df 17 ?_;refine df 18 ?_;refine aO ?_;refine bU rfl (fun h3=>?_) (fun h3=>?_)
  ·exact absurd rfl h3
  refine sk ?_;refine rl ?_;refine o1 ?_;refine o1 ?_;refine WL.cast (t:=16) (u':=.int .i64 ((k9+1:Nat):Int)) rfl (aL (by omega)) ?_
  refine o1 ?_;refine nl ?_;exact⟨k9+1,by omega,by omega,aJ h0 [] _ _ (by decide) ⟨rfl,rfl,rfl,trivial⟩ rfl⟩
 refine ex ?_;refine sq ?_;refine rl ?_;refine o1 ?_;refine nl ?_;refine rt ?_;exact pT (.inl rfl) rfl (rfl)
theorem Tu {k:Int}(h:jY k=true):aD true Tryz.prog 79 [] [kF k] (aM (.tup [.one (tv (.int .i64 k)),.one (tv (.bool true))])):=by
 have h2:-9223372036854775808≤k∧k≤9223372036854775807:=of_decide_eq_true h
 have h1:=Dg (Zn.of (k:=k) (Nat.le_trans (nT h2.1 h2.2) (by omega)))
 rw[h,if_pos rfl]at h1
 exact h1
theorem xS {l:List Int}(hs:∀k∈l,jY k=true):aD true Tryz.prog 37 [] [.one (.t (sZ 24 (aT l))),.one (.t (.s false 2 1 l.length (iT l)))] (aM (.one (tv (.bool true)))):=by
 refine bK Tryz.func37 rfl Tryz.ntmps37 rfl aA rfl fun N9 w9 c0 h0=>?_
 refine WP.sln (i:=0) rfl fun hlen=>?_
 have hzl:(aT l).length=l.length:=cU l
 refine sq ?_;refine rl ?_;refine o1 ?_;refine nl ?_;refine sq ?_;refine sq ?_;refine rl ?_;(iterate 5 refine o1 ?_);refine nl ?_;refine bU rfl (fun h1=>?_) (fun h1=>?_)
 ·exact absurd (by rw[hzl]) h1
 refine sk ?_;refine sq ?_;refine sq ?_;refine rl ?_;refine o1 ?_;refine nl ?_;refine bl ?_
 refine lp (γ:=Nat) (fun s=>cG [(0,.one (.t (sZ 24 (aT l)))),(1,.one (.t (.s false 2 1 l.length (iT l)))),(5,.one (tv (.int .i64 ((s:Nat):Int))))]) (fun s=>([]:List Ob).map some) (fun s=>s≤(aT l).length) (fun s=>(aT l).length-s) 0 (Nat.zero_le _) (aJ h0 [] _ _ (by decide) ⟨rfl,rfl,rfl,trivial⟩ rfl) ?_
 rintro k9 hk9;refine sq ?_;refine sq ?_;refine rl ?_;(iterate 4 refine o1 ?_);refine nl ?_;refine bU rfl (fun h2=>?_) (fun h2=>?_)
 ·refine sk ?_;refine sq ?_;refine bl ?_;refine sq ?_;refine rl ?_;(iterate 3 refine o1 ?_)
  refine fQ ((bS false (.of (bY l (k9))))) (Cc (l:=l) (k:=k9) (by rw[cU]at*;omega)) ?_
  refine ca (Tu (k:=(bY l (k9))) (hs _ (lQ (by rw[cU]at*;omega)))) DF ⟨aB rfl,rfl⟩ (.tup [.one (tv (.int .i64 (bY l (k9)))),.one (tv (.bool true))]) ?_
  (iterate 5 refine o1 ?_);refine nl ?_;refine sq ?_;refine rl ?_;(iterate 7 refine o1 ?_);refine fQ ([.v (.int .i64 (bY l (k9)))]) (HM (l:=l) (k:=k9) (by omega)) ?_
  refine o1 ?_;refine o1 ?_;refine nl ?_;refine bU rfl (fun h3=>?_) (fun h3=>?_)
  ·exact absurd rfl h3
  refine sk ?_;refine rl ?_;refine o1 ?_;refine o1 ?_;refine WL.cast (t:=18) (u':=.int .i64 ((k9+1:Nat):Int)) rfl (aL (by omega)) ?_
  refine o1 ?_;refine nl ?_;exact⟨k9+1,by omega,by omega,aJ h0 [] _ _ (by decide) ⟨rfl,rfl,rfl,trivial⟩ rfl⟩
 refine ex ?_;refine sq ?_;refine rl ?_;refine o1 ?_;refine nl ?_;refine rt ?_;exact pT (.inl rfl) rfl (rfl)
theorem iZ {k b:Int}{ws:List Rat}{l:List Int}(hk:k.natAbs<4294967296^6) (h:cK (iD (k:Rat) b ws)=l) (hE:xN b ws.length=0) (hs:∀q∈ws,q.num.natAbs<4294967296^7∧q.den<4294967296^7) (hl:ws.length≤12):aD false Tryz.prog 13 [] [kF k,.one (tv (.int .i64 b)),.one (.t (sQ false (dZ ws)))] (aM (.tup [.one (.t (.s true 24 2 l.length ((aT l).flatMap (bS true)))),.one (tv (.int .i64 0))])):=by
 have hz:∀q∈ws,Sz 7 q:=fun q hq=>⟨bX (by omega) (hs q hq).1,bX (by omega) (hs q hq).2⟩
 have hsz:jO 6 k:=bX (by omega) hk
 have h1:=Lp (a:=.of k) (k:=k) (b:=b) (xs:=dZ ws) (Zn.of (Nat.le_trans hsz (by omega))) hsz (sV hz (by omega)) (xL hz) (by rw[gT];exact hl)
 rw[xM,gT,hE,h]at h1
 unfold xO at h1
 rw[cU]at h1
 exact h1
theorem Ej:aD true Tryz.prog 8 [] [] (aM (.one (tv (.bool true)))):=by
 refine bK Tryz.func8 rfl Tryz.ntmps8 rfl aA rfl fun N9 w9 c0 h0=>?_
 refine sq ?_;refine rl ?_;refine o1 ?_;refine nl ?_;refine sq ?_;refine rl ?_
 refine ca (Ei (n:=1) (d:=1) (by omega) (by omega) (by omega) (by omega)) Ek ⟨a1 rfl,a1 rfl,rfl⟩ (qF (.of (Rat.divInt 1 1))) ?_
 refine ca (Ei (n:=2) (d:=1) (by omega) (by omega) (by omega) (by omega)) Ek ⟨a1 rfl,a1 rfl,rfl⟩ (qF (.of (Rat.divInt 2 1))) ?_
 refine ca (Ei (n:=4) (d:=1) (by omega) (by omega) (by omega) (by omega)) Ek ⟨a1 rfl,a1 rfl,rfl⟩ (qF (.of (Rat.divInt 4 1))) ?_
 refine al 0 ?_;refine al 1 ?_;refine al 2 ?_;(iterate 3 refine st ?_);refine nl ?_
 refine md (γ:=Unit) (fun _=>cG [(1,.one (.pt 0 0)),(2,.one (.pt 1 0)),(3,.one (.pt 2 0)),(4,.one (.t (.s false 24 2 ([34,33,33]:List Int).length ((aT [34,33,33]).flatMap (bS true))))),(5,.one (tv (.int .i64 ((0:Nat):Int))))]) (fun _=>([⟨48,0,((Fr4.of (Rat.divInt 1 1)).tr false).map .t⟩,⟨48,0,((Fr4.of (Rat.divInt 2 1)).tr false).map .t⟩,⟨48,0,((Fr4.of (Rat.divInt 4 1)).tr false).map .t⟩]:List Ob).map some) (fun _=>True) ?_ fun _ _=>?_
 ·refine rd [0,1,2] (fun i=>[10].contains i) mixed ?_
  refine aX 1 ?_;refine aX 2 ?_;refine aX 3 ?_;refine WO.two (i:=0) (j:=4) (by kernel_rfl) ?_ ?_
  ·refine cS 0 rfl (jG (n:=100) (by omega) (by omega)) jH ⟨a1 rfl,rfl⟩ (kF 100) ?_
   refine sS (key:=3) 4 (by kernel_rfl) rfl rfl aA rfl ⟨rfl,rfl,rfl,trivial⟩ ?_
   refine vN (i:=22) (k:=3) (t:=48) (t':=50) (z:=4) (n:=3) (l:=(dZ [(Rat.divInt 1 1),(Rat.divInt 1 1),(Rat.divInt 1 1)]).flatMap (Fr4.tr false)) rfl rfl rfl rfl (.one .sl) (by rfl) (by rfl) ?_
   refine aI 5 rfl (iZ (k:=100) (b:=0) (ws:=[(Rat.divInt 1 1),(Rat.divInt 1 1),(Rat.divInt 1 1)]) (l:=[34,33,33]) (by decide) (by decide+kernel) (by decide+kernel) (by decide+kernel) (by decide)) rF ⟨aB rfl,a1 rfl,a1 rfl,rfl⟩ (.tup [.one (.t (.s false 24 2 ([34,33,33]:List Int).length ((aT [34,33,33]).flatMap (bS true)))),.one (tv (.int .i64 0))]) ?_
   refine df 6 ?_;refine df 7 ?_;refine df 8 ?_;refine dF 9 (by kernel_rfl) rfl rfl aA rfl (by trivial) ?_ (fun h=>by first | rfl | cases h)
   refine dF 10 (by kernel_rfl) rfl rfl aA rfl (by trivial) ?_ (fun h=>by first | rfl | cases h)
   refine aO ?_;exact⟨(),trivial,aJ h0 [0,1,2] _ _ (by decide) ⟨rfl,rfl,rfl,rfl,rfl,trivial⟩ ⟨oe rfl rfl,oe rfl rfl,oe rfl rfl,rfl⟩⟩
  refine Ly (key:=3) 4 rfl rfl ⟨rfl,rfl,rfl,trivial⟩ ?_
  refine vN (i:=22) (k:=3) (t:=48) (t':=50) (z:=4) (n:=3) (l:=(dZ [(Rat.divInt 1 1),(Rat.divInt 1 1),(Rat.divInt 1 1)]).flatMap (Fr4.tr false)) rfl rfl rfl rfl (.one .sl) (by rfl) (by rfl) ?_
  refine aI 0 rfl (jG (n:=100) (by omega) (by omega)) jH ⟨a1 rfl,rfl⟩ (kF 100) ?_
  refine aI 5 rfl (iZ (k:=100) (b:=0) (ws:=[(Rat.divInt 1 1),(Rat.divInt 1 1),(Rat.divInt 1 1)]) (l:=[34,33,33]) (by decide) (by decide+kernel) (by decide+kernel) (by decide+kernel) (by decide)) rF ⟨aB rfl,a1 rfl,a1 rfl,rfl⟩ (.tup [.one (.t (.s false 24 2 ([34,33,33]:List Int).length ((aT [34,33,33]).flatMap (bS true)))),.one (tv (.int .i64 0))]) ?_
  refine df 6 ?_;refine df 7 ?_;refine df 8 ?_;refine dF 9 (by kernel_rfl) rfl rfl aA rfl (by trivial) ?_ (fun h=>by first | rfl | cases h)
  refine dF 10 (by kernel_rfl) rfl rfl aA rfl (by trivial) ?_ (fun h=>by first | rfl | cases h)
  refine aO ?_;exact⟨(),trivial,aJ h0 [0,1,2] _ _ (by decide) ⟨rfl,rfl,rfl,rfl,rfl,trivial⟩ ⟨oe rfl rfl,oe rfl rfl,oe rfl rfl,rfl⟩⟩
 refine md (γ:=Unit) (fun _=>cG [(1,.one (.pt 0 0)),(2,.one (.pt 1 0)),(3,.one (.pt 2 0)),(4,.one (.t (.s false 24 2 ([34,33,33]:List Int).length ((aT [34,33,33]).flatMap (bS true))))),(5,.one (tv (.int .i64 ((0:Nat):Int)))),(6,.one (.t (.s false 24 2 ([1,1,0]:List Int).length ((aT [1,1,0]).flatMap (bS true)))))]) (fun _=>([⟨48,0,((Fr4.of (Rat.divInt 1 1)).tr false).map .t⟩,⟨48,0,((Fr4.of (Rat.divInt 2 1)).tr false).map .t⟩,⟨48,0,((Fr4.of (Rat.divInt 4 1)).tr false).map .t⟩]:List Ob).map some) (fun _=>True) ?_ fun _ _=>?_
 ·refine rd [0,1,2] (fun i=>[10].contains i) mixed ?_
  refine aX 1 ?_;refine aX 2 ?_;refine aX 3 ?_;refine WO.two (i:=0) (j:=4) (by kernel_rfl) ?_ ?_
  ·refine cS 0 rfl (jG (n:=2) (by omega) (by omega)) jH ⟨a1 rfl,rfl⟩ (kF 2) ?_
   refine sS (key:=3) 4 (by kernel_rfl) rfl rfl aA rfl ⟨rfl,rfl,rfl,trivial⟩ ?_
   refine vN (i:=31) (k:=3) (t:=48) (t':=50) (z:=4) (n:=3) (l:=(dZ [(Rat.divInt 1 1),(Rat.divInt 1 1),(Rat.divInt 1 1)]).flatMap (Fr4.tr false)) rfl rfl rfl rfl (.one .sl) (by rfl) (by rfl) ?_
   refine aI 5 rfl (iZ (k:=2) (b:=0) (ws:=[(Rat.divInt 1 1),(Rat.divInt 1 1),(Rat.divInt 1 1)]) (l:=[1,1,0]) (by decide) (by decide+kernel) (by decide+kernel) (by decide+kernel) (by decide)) rF ⟨aB rfl,a1 rfl,a1 rfl,rfl⟩ (.tup [.one (.t (.s false 24 2 ([1,1,0]:List Int).length ((aT [1,1,0]).flatMap (bS true)))),.one (tv (.int .i64 0))]) ?_
   refine df 6 ?_;refine df 7 ?_;refine df 8 ?_;refine dF 9 (by kernel_rfl) rfl rfl aA rfl (by trivial) ?_ (fun h=>by first | rfl | cases h)
   refine dF 10 (by kernel_rfl) rfl rfl aA rfl (by trivial) ?_ (fun h=>by first | rfl | cases h)
   refine aO ?_;exact⟨(),trivial,aJ h0 [0,1,2] _ _ (by decide) ⟨rfl,rfl,rfl,rfl,rfl,rfl,trivial⟩ ⟨oe rfl rfl,oe rfl rfl,oe rfl rfl,rfl⟩⟩
  refine Ly (key:=3) 4 rfl rfl ⟨rfl,rfl,rfl,trivial⟩ ?_
  refine vN (i:=31) (k:=3) (t:=48) (t':=50) (z:=4) (n:=3) (l:=(dZ [(Rat.divInt 1 1),(Rat.divInt 1 1),(Rat.divInt 1 1)]).flatMap (Fr4.tr false)) rfl rfl rfl rfl (.one .sl) (by rfl) (by rfl) ?_
  refine aI 0 rfl (jG (n:=2) (by omega) (by omega)) jH ⟨a1 rfl,rfl⟩ (kF 2) ?_
  refine aI 5 rfl (iZ (k:=2) (b:=0) (ws:=[(Rat.divInt 1 1),(Rat.divInt 1 1),(Rat.divInt 1 1)]) (l:=[1,1,0]) (by decide) (by decide+kernel) (by decide+kernel) (by decide+kernel) (by decide)) rF ⟨aB rfl,a1 rfl,a1 rfl,rfl⟩ (.tup [.one (.t (.s false 24 2 ([1,1,0]:List Int).length ((aT [1,1,0]).flatMap (bS true)))),.one (tv (.int .i64 0))]) ?_
  refine df 6 ?_;refine df 7 ?_;refine df 8 ?_;refine dF 9 (by kernel_rfl) rfl rfl aA rfl (by trivial) ?_ (fun h=>by first | rfl | cases h)
  refine dF 10 (by kernel_rfl) rfl rfl aA rfl (by trivial) ?_ (fun h=>by first | rfl | cases h)
  refine aO ?_;exact⟨(),trivial,aJ h0 [0,1,2] _ _ (by decide) ⟨rfl,rfl,rfl,rfl,rfl,rfl,trivial⟩ ⟨oe rfl rfl,oe rfl rfl,oe rfl rfl,rfl⟩⟩
 refine md (γ:=Unit) (fun _=>cG [(1,.one (.pt 0 0)),(2,.one (.pt 1 0)),(3,.one (.pt 2 0)),(4,.one (.t (.s false 24 2 ([34,33,33]:List Int).length ((aT [34,33,33]).flatMap (bS true))))),(5,.one (tv (.int .i64 ((0:Nat):Int)))),(6,.one (.t (.s false 24 2 ([1,1,0]:List Int).length ((aT [1,1,0]).flatMap (bS true))))),(8,.one (.t (.s false 24 2 ([-34,-33,-33]:List Int).length ((aT [-34,-33,-33]).flatMap (bS true)))))]) (fun _=>([⟨48,0,((Fr4.of (Rat.divInt 1 1)).tr false).map .t⟩,⟨48,0,((Fr4.of (Rat.divInt 2 1)).tr false).map .t⟩,⟨48,0,((Fr4.of (Rat.divInt 4 1)).tr false).map .t⟩]:List Ob).map some) (fun _=>True) ?_ fun _ _=>?_
 ·refine rd [0,1,2] (fun i=>[10].contains i) mixed ?_
  refine aX 1 ?_;refine aX 2 ?_;refine aX 3 ?_;refine WO.two (i:=0) (j:=4) (by kernel_rfl) ?_ ?_
  ·refine cS 0 rfl (jG (n:=(-100)) (by omega) (by omega)) jH ⟨a1 rfl,rfl⟩ (kF (-100)) ?_
   refine sS (key:=3) 4 (by kernel_rfl) rfl rfl aA rfl ⟨rfl,rfl,rfl,trivial⟩ ?_
   refine vN (i:=40) (k:=3) (t:=48) (t':=50) (z:=4) (n:=3) (l:=(dZ [(Rat.divInt 1 1),(Rat.divInt 1 1),(Rat.divInt 1 1)]).flatMap (Fr4.tr false)) rfl rfl rfl rfl (.one .sl) (by rfl) (by rfl) ?_
   refine aI 5 rfl (iZ (k:=(-100)) (b:=0) (ws:=[(Rat.divInt 1 1),(Rat.divInt 1 1),(Rat.divInt 1 1)]) (l:=[-34,-33,-33]) (by decide) (by decide+kernel) (by decide+kernel) (by decide+kernel) (by decide)) rF ⟨aB rfl,a1 rfl,a1 rfl,rfl⟩ (.tup [.one (.t (.s false 24 2 ([-34,-33,-33]:List Int).length ((aT [-34,-33,-33]).flatMap (bS true)))),.one (tv (.int .i64 0))]) ?_
   refine df 6 ?_;refine df 7 ?_;refine df 8 ?_;refine dF 9 (by kernel_rfl) rfl rfl aA rfl (by trivial) ?_ (fun h=>by first | rfl | cases h)
   refine dF 10 (by kernel_rfl) rfl rfl aA rfl (by trivial) ?_ (fun h=>by first | rfl | cases h)
   refine aO ?_;exact⟨(),trivial,aJ h0 [0,1,2] _ _ (by decide) ⟨rfl,rfl,rfl,rfl,rfl,rfl,rfl,trivial⟩ ⟨oe rfl rfl,oe rfl rfl,oe rfl rfl,rfl⟩⟩
  refine Ly (key:=3) 4 rfl rfl ⟨rfl,rfl,rfl,trivial⟩ ?_
  refine vN (i:=40) (k:=3) (t:=48) (t':=50) (z:=4) (n:=3) (l:=(dZ [(Rat.divInt 1 1),(Rat.divInt 1 1),(Rat.divInt 1 1)]).flatMap (Fr4.tr false)) rfl rfl rfl rfl (.one .sl) (by rfl) (by rfl) ?_
  refine aI 0 rfl (jG (n:=(-100)) (by omega) (by omega)) jH ⟨a1 rfl,rfl⟩ (kF (-100)) ?_
  refine aI 5 rfl (iZ (k:=(-100)) (b:=0) (ws:=[(Rat.divInt 1 1),(Rat.divInt 1 1),(Rat.divInt 1 1)]) (l:=[-34,-33,-33]) (by decide) (by decide+kernel) (by decide+kernel) (by decide+kernel) (by decide)) rF ⟨aB rfl,a1 rfl,a1 rfl,rfl⟩ (.tup [.one (.t (.s false 24 2 ([-34,-33,-33]:List Int).length ((aT [-34,-33,-33]).flatMap (bS true)))),.one (tv (.int .i64 0))]) ?_
  refine df 6 ?_;refine df 7 ?_;refine df 8 ?_;refine dF 9 (by kernel_rfl) rfl rfl aA rfl (by trivial) ?_ (fun h=>by first | rfl | cases h)
  refine dF 10 (by kernel_rfl) rfl rfl aA rfl (by trivial) ?_ (fun h=>by first | rfl | cases h)
  refine aO ?_;exact⟨(),trivial,aJ h0 [0,1,2] _ _ (by decide) ⟨rfl,rfl,rfl,rfl,rfl,rfl,rfl,trivial⟩ ⟨oe rfl rfl,oe rfl rfl,oe rfl rfl,rfl⟩⟩
 refine sq ?_;refine rl ?_;refine ca (jG (n:=5) (by omega) (by omega)) jH ⟨a1 rfl,rfl⟩ (kF 5) ?_
 refine ca (Ei (n:=0) (d:=1) (by omega) (by omega) (by omega) (by omega)) Ek ⟨a1 rfl,a1 rfl,rfl⟩ (qF (.of (Rat.divInt 0 1))) ?_
 refine ca (Ei (n:=(-3)) (d:=1) (by omega) (by omega) (by omega) (by omega)) Ek ⟨a1 rfl,a1 rfl,rfl⟩ (qF (.of (Rat.divInt (-3) 1))) ?_
 refine bs 3 ?_;refine WL.sub (DG (i:=48) (k:=3) (t:=48) (z:=4) (n:=2) (l:=(dZ [(Rat.divInt 0 1),(Rat.divInt (-3) 1)]).flatMap (Fr4.tr false)) 50 rfl rfl rfl rfl (.one .sl)) ?_
 refine ca (iZ (k:=5) (b:=1) (ws:=[(Rat.divInt 0 1),(Rat.divInt (-3) 1)]) (l:=[0,5]) (by decide) (by decide+kernel) (by decide+kernel) (by decide+kernel) (by decide)) rF ⟨aB rfl,a1 rfl,a1 rfl,rfl⟩ (.tup [.one (.t (.s false 24 2 ([0,5]:List Int).length ((aT [0,5]).flatMap (bS true)))),.one (tv (.int .i64 0))]) ?_
 (iterate 5 refine o1 ?_);refine nl ?_
 refine md (γ:=Unit) (fun _=>cG [(4,.one (.t (.s false 24 2 ([34,33,33]:List Int).length ((aT [34,33,33]).flatMap (bS true))))),(5,.one (tv (.int .i64 ((0:Nat):Int)))),(6,.one (.t (.s false 24 2 ([1,1,0]:List Int).length ((aT [1,1,0]).flatMap (bS true))))),(8,.one (.t (.s false 24 2 ([-34,-33,-33]:List Int).length ((aT [-34,-33,-33]).flatMap (bS true))))),(10,.one (.t (.s false 24 2 ([0,5]:List Int).length ((aT [0,5]).flatMap (bS true))))),(12,.one (.t (.s false 24 2 ([1,3,6]:List Int).length ((aT [1,3,6]).flatMap (bS true)))))]) (fun _=>([]:List Ob).map some) (fun _=>True) ?_ fun _ _=>?_
 ·refine rd [0,1,2] (fun i=>[10].contains i) mixed ?_
  refine aX 1 ?_;refine aX 2 ?_;refine aX 3 ?_;refine WO.two (i:=0) (j:=4) (by kernel_rfl) ?_ ?_
  ·refine cS 0 rfl (jG (n:=10) (by omega) (by omega)) jH ⟨a1 rfl,rfl⟩ (kF 10) ?_
   refine sS (key:=4) 4 (by kernel_rfl) rfl rfl aA rfl ⟨rfl,rfl,rfl,trivial⟩ ?_
   refine vN (i:=57) (k:=4) (t:=48) (t':=50) (z:=4) (n:=3) (l:=(dZ [(Rat.divInt 1 1),(Rat.divInt 2 1),(Rat.divInt 4 1)]).flatMap (Fr4.tr false)) rfl rfl rfl rfl (.one .sl) (by rfl) (by rfl) ?_
   refine aI 5 rfl (iZ (k:=10) (b:=0) (ws:=[(Rat.divInt 1 1),(Rat.divInt 2 1),(Rat.divInt 4 1)]) (l:=[1,3,6]) (by decide) (by decide+kernel) (by decide+kernel) (by decide+kernel) (by decide)) rF ⟨aB rfl,a1 rfl,a1 rfl,rfl⟩ (.tup [.one (.t (.s false 24 2 ([1,3,6]:List Int).length ((aT [1,3,6]).flatMap (bS true)))),.one (tv (.int .i64 0))]) ?_
   refine df 6 ?_;refine df 7 ?_;refine df 8 ?_;refine dF 9 (by kernel_rfl) rfl rfl aA rfl (by trivial) ?_ (fun h=>by first | rfl | cases h)
   refine dF 10 (by kernel_rfl) rfl rfl aA rfl (by trivial) ?_ (fun h=>by first | rfl | cases h)
   refine aO ?_;exact⟨(),trivial,aJ h0 [] _ _ (by decide) ⟨rfl,rfl,rfl,rfl,rfl,rfl,trivial⟩ rfl⟩
  refine Ly (key:=4) 4 rfl rfl ⟨rfl,rfl,rfl,trivial⟩ ?_
  refine vN (i:=57) (k:=4) (t:=48) (t':=50) (z:=4) (n:=3) (l:=(dZ [(Rat.divInt 1 1),(Rat.divInt 2 1),(Rat.divInt 4 1)]).flatMap (Fr4.tr false)) rfl rfl rfl rfl (.one .sl) (by rfl) (by rfl) ?_
  refine aI 0 rfl (jG (n:=10) (by omega) (by omega)) jH ⟨a1 rfl,rfl⟩ (kF 10) ?_
  refine aI 5 rfl (iZ (k:=10) (b:=0) (ws:=[(Rat.divInt 1 1),(Rat.divInt 2 1),(Rat.divInt 4 1)]) (l:=[1,3,6]) (by decide) (by decide+kernel) (by decide+kernel) (by decide+kernel) (by decide)) rF ⟨aB rfl,a1 rfl,a1 rfl,rfl⟩ (.tup [.one (.t (.s false 24 2 ([1,3,6]:List Int).length ((aT [1,3,6]).flatMap (bS true)))),.one (tv (.int .i64 0))]) ?_
  refine df 6 ?_;refine df 7 ?_;refine df 8 ?_;refine dF 9 (by kernel_rfl) rfl rfl aA rfl (by trivial) ?_ (fun h=>by first | rfl | cases h)
  refine dF 10 (by kernel_rfl) rfl rfl aA rfl (by trivial) ?_ (fun h=>by first | rfl | cases h)
  refine aO ?_;exact⟨(),trivial,aJ h0 [] _ _ (by decide) ⟨rfl,rfl,rfl,rfl,rfl,rfl,trivial⟩ rfl⟩
 refine sq ?_;refine WP.sub (Il (i:=4) (t':=24) rfl rfl (rD (aT [34,33,33]))) ?_;refine WP.sub (Il (i:=6) (t':=24) rfl rfl (rD (aT [1,1,0]))) ?_
 refine WP.sub (Il (i:=8) (t':=24) rfl rfl (rD (aT [-34,-33,-33]))) ?_;refine WP.sub (Il (i:=10) (t':=24) rfl rfl (rD (aT [0,5]))) ?_
 refine WP.sub (Il (i:=12) (t':=24) rfl rfl (rD (aT [1,3,6]))) ?_;refine rl ?_;(iterate 3 refine o1 ?_);refine WL.split (t:=63) rfl (fun h1=>?_) (fun h1=>?_)
 ·refine o1 ?_;refine bs 0 ?_;refine WL.sub (fz (i:=65) (k:=0) (t:=2) (z:=1) (n:=3) (l:=iT [34,33,33]) rfl rfl rfl rfl) ?_
  refine ca (xS (l:=[34,33,33]) (by decide)) El ⟨a1 rfl,a1 rfl,rfl⟩ (.one (tv (.bool true))) ?_
  (iterate 3 refine o1 ?_);refine bs 1 ?_;refine WL.sub (fz (i:=70) (k:=1) (t:=2) (z:=1) (n:=3) (l:=iT [1,1,0]) rfl rfl rfl rfl) ?_
  refine ca (xS (l:=[1,1,0]) (by decide)) El ⟨a1 rfl,a1 rfl,rfl⟩ (.one (tv (.bool true))) ?_
  (iterate 3 refine o1 ?_);refine bs 2 ?_;refine WL.sub (fz (i:=75) (k:=2) (t:=2) (z:=1) (n:=3) (l:=iT [(-34),(-33),(-33)]) rfl rfl rfl rfl) ?_
  refine ca (xS (l:=[-34,-33,-33]) (by decide)) El ⟨a1 rfl,a1 rfl,rfl⟩ (.one (tv (.bool true))) ?_
  (iterate 3 refine o1 ?_);refine bs 3 ?_;refine WL.sub (fz (i:=80) (k:=3) (t:=2) (z:=1) (n:=2) (l:=iT [0,5]) rfl rfl rfl rfl) ?_
  refine ca (xS (l:=[0,5]) (by decide)) El ⟨a1 rfl,a1 rfl,rfl⟩ (.one (tv (.bool true))) ?_
  (iterate 3 refine o1 ?_);refine bs 4 ?_;refine WL.sub (fz (i:=85) (k:=4) (t:=2) (z:=1) (n:=3) (l:=iT [1,3,6]) rfl rfl rfl rfl) ?_
  refine ca (xS (l:=[1,3,6]) (by decide)) El ⟨a1 rfl,a1 rfl,rfl⟩ (.one (tv (.bool true))) ?_
  refine o1 ?_;refine o1 ?_;refine nl ?_;refine rt ?_;exact pT (.inl rfl) rfl (rfl)
 exact absurd rfl h1
theorem Zl {L k:Nat}{zs:List Zi}(h:∀a∈zs,ZL L a) (hL:L≤1000000) (hk:k<zs.length):Zn (gS zs k) (zv (gS zs k)):=(h _ (De hk)).n (by omega)
theorem DY {zs:List Zi}{L:Nat}(hz:∀a∈zs,ZL L a) (hL:L≤1000000) (hl:zs.length≤1000000):aD false Tryz.prog 21 [] [.one (.t (sZ 34 zs))] (aM (kF (cQ zs))):=by
 refine bK Tryz.func21 rfl Tryz.ntmps21 rfl aA rfl fun N9 w9 c0 h0=>?_
 refine sq ?_;refine rl ?_;refine al 0 ?_;refine nl ?_;refine sq ?_;refine rl ?_;refine al 1 ?_;refine nl ?_;refine sq ?_;refine sq ?_;refine rl ?_;refine o1 ?_;refine nl ?_;refine bl ?_
 refine WP.sub (MK (j:=1) (p:=1) (e:=51) (z':=1) rfl rfl rfl) ?_
 refine lp (γ:=Nat) (fun k=>cG [(0,.one (.t (sZ 34 zs))),(2,.one (.pt 0 0)),(3,.one (.pt 1 0)),(4,.one (tv (.int .i64 ((k:Nat):Int))))]) (fun k=>[(⟨34,0,[tv (.bool false),tv (.slice none 0 0)]⟩:Ob),⟨34,0,[tv (.bool (aF (cQ (zs.take (k))))),.t (sU false (dg 4294967296 (cQ (zs.take (k))).natAbs))]⟩].map some) (fun k=>k≤zs.length∧True) (fun k=>zs.length-k) 0 ⟨Nat.zero_le _,trivial⟩ (aJ h0 [0,1] _ _ (by decide) ⟨rfl,rfl,rfl,rfl,trivial⟩ ⟨oe rfl rfl,oe rfl rfl,rfl⟩) fun k hk=>?_
 refine sq ?_;refine sq ?_;refine rl ?_;(iterate 4 refine o1 ?_);refine nl ?_;refine bU rfl (fun h1=>?_) (fun h1=>?_)
 ·refine sk ?_;refine sq ?_;refine bl ?_;refine rd [0,1] (fun i=>[6].contains i) mixed ?_
  refine aX 0 ?_;refine dv 1 ?_;refine dv 2 ?_;refine dv 3 ?_
  refine iE 4 ((bS false) (gS zs (k))) (gH (f:=(bS false)) (z:=2) (o:=0) (dJ false) (jZ (by omega)) (Nat.le_of_ble_eq_true rfl) rfl) ?_
  refine aI 5 rfl (mO ((Zn.of (k:=cQ (zs.take (k))) (by have:=mH (k:=k) hz hl;omega))) ((Zl hz hL (k:=k) (by omega)))) tF ⟨aB rfl,aB rfl,rfl⟩ (kF (cQ (zs.take (k))+(zv (gS zs (k))))) ?_
  refine dst 6 ?_;refine aO ?_;refine rl ?_;refine o1 ?_;refine o1 ?_;refine WL.cast (t:=10) (u':=.int .i64 ((k+1:Nat):Int)) rfl (aL (by omega)) ?_
  refine o1 ?_;refine nl ?_
  exact⟨k+1,by omega,⟨by omega,trivial⟩,aJ h0 [0,1] _ _ (by decide) ⟨rfl,rfl,rfl,rfl,trivial⟩ ⟨oe rfl rfl,oe rfl (congrArg (fun z:Int=>some (⟨34,0,[tv (.bool (aF z)),.t (sU false (dg 4294967296 z.natAbs))]⟩:Ob)) (Oe (by omega))),rfl⟩⟩
 refine ex ?_;refine sq ?_;refine rl ?_;refine ld ?_;refine st ?_;refine nl ?_;refine rt ?_;have hk9:k=zs.length:=by omega
 exact en (.inl rfl) rfl (aP (.agg (.cons (.id rfl) (.cons (.id rfl) .nil)))) (by decide) (fun h=>by cases h) (by rw[hk9,Df (Nat.le_refl _)];rfl)
def eZ (x:Fr4):Zi:=⟨x.s,x.x⟩
theorem Pc {xs:List Fr4}{k:Nat}(h:k<xs.length):(xs.map eZ).take (k+1)=(xs.map eZ).take k++[eZ (bD xs k)]:=by
 rw[List.take_add_one,List.getElem?_map,fE h]
 rfl
theorem Ck {xs:List Fr4}(hx0:∀x∈xs,LimF x):aD true Tryz.prog 4 [] [.one (.t (sQ false xs))] (aM (.one (tv (.bool true)))):=by
 refine bK Tryz.func4 rfl Tryz.ntmps4 rfl aA rfl fun N9 w9 c0 h0=>?_
 refine sq ?_;refine rl ?_;refine o1 ?_;refine nl ?_;refine sq ?_;refine sq ?_;refine rl ?_;refine o1 ?_;refine o1 ?_
 refine ca (DW (a:=⟨false,[]⟩) (xs:=xs)) ML ⟨mG rfl (.cons .t (.cons .nil .nil)),a1 rfl,rfl⟩ (.one (tv (.bool (tC ⟨false,[]⟩ xs)))) ?_
 refine WL.splitb (t:=9) rfl (fun h1=>?_) (fun h1=>?_)
 ·refine o1 ?_;refine nl ?_;refine gQ rfl ?_;refine sk ?_;refine sq ?_;obtain⟨hs6,_,hl12⟩:=Td h1
  have hO:=fun x (h:x∈xs)=>Te (hx0 x h) (hs6 x h)
  have hx:∀x∈xs,x.ok:=fun x h=>(hO x h).1
  have hz:∀x∈xs,Sz 1000 x.q:=fun x h=>(hO x h).2.1.mono (by omega)
  have hzq:∀q∈(xs.map Fr4.q),Sz 1000 q:=fun q hq=>(by obtain⟨x,h9,rfl⟩:=List.mem_map.1 hq;exact hz x h9)
  have hws:∀k∈(cK (xs.map Fr4.q)),(dg 4294967296 k.natAbs).length≤1000000:=fun k hk=>Nat.le_trans (Ih hzq k hk) (by omega)
  have hnl:(xs.map eZ).length=xs.length:=List.length_map ..
  have hzl:∀z∈(xs.map eZ),ZL 6 z:=fun z hz=>(by obtain⟨x,h9,rfl⟩:=List.mem_map.1 hz;exact⟨(hx0 x h9).1,(hs6 x h9).1⟩)
  have hsl:(dg 4294967296 (cQ (xs.map eZ)).natAbs).length≤7:=by have h9:=mH (k:=(xs.map eZ).length) hzl (by rw[hnl];omega);rwa[List.take_length]at h9
  refine rl ?_;refine o1 ?_;refine nl ?_;refine sq ?_;refine rl ?_;refine o1 ?_;refine nl ?_;refine sq ?_;refine sq ?_;refine rl ?_;refine o1 ?_;refine nl ?_;refine bl ?_
  refine lp (γ:=Nat) (fun s=>cG [(0,.one (.t (sQ false xs))),(3,.one (.sl 0 0 (s))),(4,.one (.sl 1 0 (s))),(5,.one (tv (.int .i64 ((s:Nat):Int))))]) (fun s=>[(⟨24,2,(((xs.map eZ).take s).flatMap (bS false)).map .t⟩:Ob),⟨34,2,(((xs.map eZ).take s).flatMap (bS false)).map .t⟩].map some) (fun s=>s≤xs.length) (fun s=>xs.length-s) 0 (Nat.zero_le _) (((nr (i:=3) 0 24 2 rfl rfl rfl rfl).trans (nr (i:=4) 1 34 2 rfl rfl rfl rfl)).trans (aJ h0 [0,1] _ _ (by decide) ⟨rfl,rfl,rfl,rfl,trivial⟩ ⟨bJ rfl,bJ rfl,rfl⟩)) ?_
  rintro k9 hk9;refine sq ?_;refine sq ?_;refine rl ?_;(iterate 4 refine o1 ?_);refine nl ?_;refine bU rfl (fun h2=>?_) (fun h2=>?_)
  ·refine sk ?_;refine sq ?_;refine bl ?_;refine sq ?_;refine rl ?_;(iterate 5 refine o1 ?_)
   refine fQ ([.v (.bool (bD xs (k9)).s)]++[sU false (bD xs (k9)).x]) (gH (f:=(Fr4.tr false)) (z:=4) (o:=0) (fun _=>rfl) (fE (by omega)) (Nat.le_of_ble_eq_true rfl) rfl) ?_
   refine bs 2 ?_
   refine eJ (j:=3) aA rfl rfl rfl rfl (.sl rfl (by rw[List.length_map,bV (dJ false),List.length_take,hnl,Nat.min_eq_left (by omega)])) (.sl rfl rfl rfl) rfl rfl rfl (by omega) (by omega) ?_
   refine o1 ?_;refine nl ?_;refine rl ?_;(iterate 5 refine o1 ?_)
   refine fQ ([.v (.bool (bD xs (k9)).s)]++[sU false (bD xs (k9)).x]) (gH (f:=(Fr4.tr false)) (z:=4) (o:=0) (fun _=>rfl) (fE (by omega)) (Nat.le_of_ble_eq_true rfl) rfl) ?_
   refine ca (Lw (a:=⟨(bD xs (k9)).s,(bD xs (k9)).x⟩) (show((bD xs (k9))).x.length≤1000000 from Nat.le_trans (hs6 _ (cL (xs:=xs) (k:=k9) (by omega))).1 (by omega))) Tt ⟨aB rfl,rfl⟩ (gF ⟨(bD xs (k9)).s,(bD xs (k9)).x⟩) ?_
   refine bs 4 ?_
   refine eJ (j:=5) aA rfl rfl rfl rfl (.sl rfl (by rw[List.length_map,bV (dJ false),List.length_take,hnl,Nat.min_eq_left (by omega)])) (.sl rfl rfl rfl) rfl rfl rfl (by omega) (by omega) ?_
   refine o1 ?_;refine nl ?_;refine rl ?_;refine o1 ?_;refine o1 ?_;refine WL.cast (t:=17) (u':=.int .i64 ((k9+1:Nat):Int)) rfl (aL (by omega)) ?_
   refine o1 ?_;refine nl ?_
   have hst:(((xs.map eZ).take k9).flatMap (bS false)).map .t++(bS false (eZ (bD xs (k9)))).map AV.t=(((xs.map eZ).take (k9+1)).flatMap (bS false)).map .t:=by rw[iO,Pc (by omega)]
   exact⟨k9+1,by omega,by omega,aJ h0 [3,5] _ _ (by decide) ⟨rfl,rfl,rfl,rfl,trivial⟩ ⟨bJ (congrArg (fun l=>some (⟨24,2,l⟩:Ob)) hst),bJ (congrArg (fun l=>some (⟨34,2,l⟩:Ob)) hst),rfl⟩⟩
  refine ex ?_;refine sq ?_;have hk0:k9=(xs.map eZ).length:=by rw[hnl];omega
  have htk:(xs.map eZ).take k9=(xs.map eZ):=List.take_of_length_le (by omega)
  refine WP.sub (fz (i:=3) (k:=0) (t:=24) (z:=2) (n:=k9) (l:=((xs.map eZ).take k9).flatMap (bS false)) rfl rfl rfl (by rw[bV (dJ false),htk,hk0])) ?_
  refine WP.sub (Tm (i:=3) (v:=.one (.t (.s false 24 2 k9 (((xs.map eZ).take k9).flatMap (bS false))))) (v':=.one (.t (sZ 24 (xs.map eZ)))) rfl rfl (by rw[htk,hk0];rfl)) ?_
  refine WP.sub (fz (i:=4) (k:=1) (t:=34) (z:=2) (n:=k9) (l:=((xs.map eZ).take k9).flatMap (bS false)) rfl rfl rfl (by rw[bV (dJ false),htk,hk0])) ?_
  refine WP.sub (Tm (i:=4) (v:=.one (.t (.s false 34 2 k9 (((xs.map eZ).take k9).flatMap (bS false))))) (v':=.one (.t (sZ 34 (xs.map eZ)))) rfl rfl (by rw[htk,hk0];rfl)) ?_
  refine rl ?_;refine o1 ?_;refine o1 ?_;refine al 2 ?_;refine st ?_;refine nl ?_;refine sq ?_;refine rl ?_;refine ld ?_
  refine ca (If hx hz hl12) Sv ⟨mG rfl (.cons .t .nil),rfl⟩ (.one (.t (.s false 24 2 (aT (cK (xs.map Fr4.q))).length ((aT (cK (xs.map Fr4.q))).flatMap (bS true))))) ?_
  refine WL.sub (Il (i:=38) (t':=24) rfl rfl (rD (aT (cK (xs.map Fr4.q))))) ?_;refine o1 ?_
  refine ca (DX (fun x h=>(hO x h).2.2) hl12) MM ⟨a1 rfl,rfl⟩ (.one (.t (sQ false xs))) ?_
  refine ca (Ox hx hz hl12) KU ⟨a1 rfl,rfl⟩ (.one (.t (sZ 34 (aT (cK (xs.map Fr4.q)))))) ?_
  refine ca (Zk (l:=(cK (xs.map Fr4.q))) hws) KV ⟨a1 rfl,a1 rfl,rfl⟩ (.one (tv (.bool true))) ?_;refine o1 ?_;refine o1 ?_
  refine ca (HK (L:=6) hzl (by omega) (by rw[hnl];omega)) KW ⟨a1 rfl,rfl⟩ (kF (cQ (xs.map eZ))) ?_
  refine ca (Lw (a:=.of (cQ (xs.map eZ))) (Nat.le_trans hsl (by omega))) Tt ⟨aB rfl,rfl⟩ (kF (cQ (xs.map eZ))) ?_
  refine o1 ?_;refine ca (DY (L:=6) hzl (by omega) (by rw[hnl];omega)) KX ⟨a1 rfl,rfl⟩ (kF (cQ (xs.map eZ))) ?_
  refine ca (Pb (Zn.of (k:=cQ (xs.map eZ)) (Nat.le_trans hsl (by omega)))) Lq ⟨aB rfl,aB rfl,rfl⟩ (.one (tv (.int .i64 0))) ?_
  (iterate 3 refine o1 ?_);refine WL.split (t:=52) rfl (fun h3=>?_) (fun h3=>?_)
  ·refine ca (Ej) JR rfl (.one (tv (.bool true))) ?_;refine o1 ?_;refine o1 ?_;refine nl ?_;refine rt ?_;exact pT (.inl rfl) rfl (rfl)
  exact absurd rfl h3
 refine o1 ?_;refine nl ?_;refine mF rfl ?_;refine sq ?_;refine rl ?_;refine ca (Ej) JR rfl (.one (tv (.bool true))) ?_;refine o1 ?_;refine nl ?_;refine rt ?_
 exact pT (.inl rfl) rfl (rfl)
end Go.Proofs.YthmgbcdidlkpoaaGreat
namespace Go.Proofs.YthmgbcdidlkpoaaGreat
open Go Go.ChangeShapes Go.WideShapes Go.ChangeAt Go.RowKit
theorem DZ:Tryz.prog.cellsOf 24=2:=by kernel_rfl
theorem Zm:Tryz.prog.cellsOf 4=1:=by kernel_rfl
theorem EA:Tryz.prog.cellsOf 51=1:=by kernel_rfl
theorem Tv:Tryz.prog.cellsOf 22=1:=by kernel_rfl
theorem Pd:Reads Tryz.prog 24 2 (fun l=>∃a:Zi,Lim 4294967296 a.x∧l=bS false a):=by
 have h1:=Zb Tryz.underlying4 Zm
 have h2:=Tb Tryz.underlying22 Tryz.underlying51 Tv EA rfl
 have h3:=Bb Tryz.underlying24 DZ (.cons rfl h1 (.cons rfl h2 .nil))
 exact(Zc h3).mono fun l ⟨s,xs,h4,h5⟩=>⟨⟨s,xs⟩,h4,h5⟩
theorem BN {W:World}{y:Tr}{u:Value}(hu:u.cells.toList=[u]) (h:FRL W (Am W) [y] u.cells.toList):bM W (Am W) [] (.one (.t y)) u:=by
 rw[hu]at h
 simp only[FRL,and_true]at h
 simpa only[bM,AR]using h
theorem EB:Tryz.prog.cellsOf 48=4:=by kernel_rfl
theorem Zo:Tryz.prog.cellsOf 25=1:=by kernel_rfl
theorem EC:Reads Tryz.prog 48 4 (fun l=>∃a:Fr4,LimF a∧l=a.tr false):=
 (Bb Tryz.underlying48 EB (.cons rfl Pd (.cons rfl Pd .nil))).mono fun l ⟨a,b,h1,⟨z,h2,h3⟩,b',c',h4,⟨y,h5,h6⟩,h7⟩=>⟨⟨z.s,z.x,y.s,y.x⟩,⟨h2,h5⟩,by rw[h1,h3,h4,h6,h7];rfl⟩
theorem Xr:Reads Tryz.prog 25 1 (fun l=>∃xs:List Fr4,(∀x∈xs,LimF x)∧l=[sQ false xs]):=by
 have h:=Dp Tryz.underlying25 Zo (by omega) EC
 refine⟨h.1,fun H enc w fuel cs x hx=>?_⟩
 obtain⟨l,⟨rows,h1,rfl⟩,h3,h4⟩:=h.2 H enc w fuel cs x hx
 obtain⟨xs,e1,e2,e3⟩:=zE (Fr4.tr false) (fun a:Fr4=>LimF a) (rows:=rows) fun r hr=>(h1 r hr).1
 refine⟨_,⟨xs,e1,rfl⟩,rfl,?_⟩
 rw[e2,e3]at h4
 cases cs with
 | nil=>simp only[FRL]at h4
 | cons v cs=>
  simp only[sQ,FRL,FR]at h4⊢
  exact h4
end Go.Proofs.YthmgbcdidlkpoaaGreat
