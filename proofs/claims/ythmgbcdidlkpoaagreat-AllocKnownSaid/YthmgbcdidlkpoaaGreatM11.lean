/- Part 11 of a proof: Q4 to A5. -/
import Derived.Test.YthmgbcdidlkpoaaGreatM10
import Derived.Test.YthmgbcdidlkpoaaGreatM9
import Derived.Test.YthmgbcdidlkpoaaGreatM5
import Derived.Test.YthmgbcdidlkpoaaGreatM6
import Derived.ProofKit
import Derived.ChangeOld
import Derived.Deep.Slices
import Derived.Deep.Strs
import Derived.Test.YthmgbcdidlkpoaaGreatM7
set_option maxRecDepth 100000
set_option linter.unusedVariables false
set_option linter.unusedSimpArgs false
namespace Go.Proofs.YthmgbcdidlkpoaaGreat
open Go Go.RowKit
theorem FX {xs:List Fr4}{B:Nat}(hB:2+xs.length*(B+1)≤68719476736) (hx:∀x∈xs,x.ok) (hz:∀x∈xs,Sz B x.q) (hl:xs.length≤1073741823):aD true Tryz.prog 43 [] [.one (.t (sQ false xs))] (aO (qO (aC (xs.map Fr4.q)))):=by
 refine bP Tryz.func43 rfl Tryz.ntmps43 rfl aA rfl fun N9 w9 c0 h0=>?_
 have h00:((0:Int):Rat)=aC ((xs.take 0).map Fr4.q):=by simp[aC]
 refine sq ?_;refine rl ?_;refine al 0 ?_;refine nl ?_;refine sq ?_;refine rl ?_;refine fS 1 (mO (z:=0) (by omega) (by omega)) Bb ⟨a1 rfl,rfl⟩ ?_
 refine al 3 ?_;refine st ?_;refine nl ?_;refine sq ?_;refine sq ?_;refine rl ?_;(iterate 3 refine o1 ?_);refine nl ?_;refine bl ?_
 refine lp (γ:=Nat) (fun k=>cG [(2,.one (.pt 0 0)),(3,.one (.pt 1 0)),(7,.one (.t (sQ false xs))),(8,.one (tv (.int .i64 ((xs.length:Nat):Int)))),(9,.one (tv (.int .i64 ((k:Nat):Int))))]) (fun k=>[(⟨48,0,[tv (.bool false),tv (.slice none 0 0),tv (.bool false),tv (.slice none 0 0)]⟩:Ob),⟨48,0,[tv (.bool (aG (aC ((xs.take (k)).map Fr4.q)).num)),.sl 2 0 (dg 4294967296 (aC ((xs.take (k)).map Fr4.q)).num.natAbs).length,tv (.bool false),.sl 3 0 (dg 4294967296 (aC ((xs.take (k)).map Fr4.q)).den).length]⟩,⟨51,1,(aP (dg 4294967296 (aC ((xs.take (k)).map Fr4.q)).num.natAbs)).map .t⟩,⟨51,1,(aP (dg 4294967296 (aC ((xs.take (k)).map Fr4.q)).den)).map .t⟩].map some) (fun k=>k≤xs.length∧Sz (2+k*(B+1)) (aC ((xs.take (k)).map Fr4.q))) (fun k=>xs.length-k) 0 ⟨Nat.zero_le _,by simpa[aC]using kL (z:=0) (by omega) (by omega)⟩ (aH h0 [0,3,1,2] _ _ (by decide) ⟨rfl,rfl,rfl,rfl,rfl,trivial⟩ ⟨oe rfl rfl,oe rfl (congrArg (fun q:Rat=>some (⟨48,0,[tv (.bool (aG q.num)),.sl 1 0 (dg 4294967296 q.num.natAbs).length,tv (.bool false),.sl 2 0 (dg 4294967296 q.den).length]⟩:Ob)) h00),bI (congrArg (fun q:Rat=>some (⟨51,1,(aP (dg 4294967296 q.num.natAbs)).map .t⟩:Ob)) h00),bI (congrArg (fun q:Rat=>some (⟨51,1,(aP (dg 4294967296 q.den)).map .t⟩:Ob)) h00),rfl⟩) fun k hk=>?_
 have hmul:k*(B+1)≤xs.length*(B+1):=Nat.mul_le_mul hk.1 (Nat.le_refl _)
 refine sq ?_;refine rl ?_;refine o1 ?_;refine nl ?_;refine sq ?_;refine bO rfl (fun h1=>?_) (fun h1=>?_)
 ·refine sk ?_;refine sq ?_;refine bl ?_;refine sq ?_;refine rl ?_;refine o1 ?_;refine fB ((aN xs (k)).tr false) (eE xs (k:=k) (by omega)) ?_
  refine al 4 ?_;refine st ?_;refine nl ?_;have hmul2:(k+1)*(B+1)≤xs.length*(B+1):=Nat.mul_le_mul (by omega) (Nat.le_refl _)
  have hmul3:(k+1)*(B+1)=k*(B+1)+(B+1):=Nat.succ_mul k (B+1)
  refine rd [0,1,4] (fun i=>[4].contains i) mixed ?_
  refine aX 0 ?_;refine aX 1 ?_;refine aK 2 rfl (dR ⟨hx _ (aT (by omega)),rfl⟩) gH ⟨aB rfl,rfl⟩ (qF (.of (aN xs (k)).q)) ?_
  refine jJ 5 3 rfl (Og (p:=(aC ((xs.take (k)).map Fr4.q))) (q:=(aN xs (k)).q) (hk.2.mono (by omega)) ((hz _ (aT (by omega))).mono (by omega))) Od ⟨mI rfl (.cons .t (.cons (.sl rfl rfl (Kx _) (bB _)) (.cons .t (.cons (.sl rfl rfl (Kx _) (bB _)) .nil)))),aB rfl,rfl⟩ ?_
  refine dst 4 ?_;refine aR ?_;refine rl ?_;refine o1 ?_;refine WL.cast (t:=17) (u':=.int .i64 ((k+1:Nat):Int)) rfl (aJ (by omega)) ?_
  refine o1 ?_;refine nl ?_;have hst:(aC ((xs.take (k+1)).map Fr4.q))=(aC ((xs.take (k)).map Fr4.q))+(aN xs (k)).q:=by rw[oX (by omega)];exact pT _ _
  exact⟨k+1,by omega,⟨by omega,by rw[hst];exact(uI hk.2 (hz _ (aT (by omega)))).mono (by omega)⟩,aH h0 [0,1,5,6] _ _ (by decide) ⟨rfl,rfl,rfl,rfl,rfl,trivial⟩ ⟨oe rfl rfl,oe rfl (congrArg (fun q:Rat=>some (⟨48,0,[tv (.bool (aG q.num)),.sl 5 0 (dg 4294967296 q.num.natAbs).length,tv (.bool false),.sl 6 0 (dg 4294967296 q.den).length]⟩:Ob)) hst.symm),bI (congrArg (fun q:Rat=>some (⟨51,1,(aP (dg 4294967296 q.num.natAbs)).map .t⟩:Ob)) hst.symm),bI (congrArg (fun q:Rat=>some (⟨51,1,(aP (dg 4294967296 q.den)).map .t⟩:Ob)) hst.symm),rfl⟩⟩
 refine ex ?_;refine sq ?_;refine rl ?_;refine ld ?_;refine st ?_;refine nl ?_;refine rt ?_;have hkk:xs.take k=xs:=List.take_of_length_le (by omega)
 exact en (.inl rfl) rfl (aW (.agg (.cons (.id rfl) (.cons (.sl (trs:=aP (dg 4294967296 (aC ((xs.take (k)).map Fr4.q)).num.natAbs)) rfl rfl (bE _) (bB _)) (.cons (.id rfl) (.cons (.sl (trs:=aP (dg 4294967296 (aC ((xs.take (k)).map Fr4.q)).den)) rfl rfl (bE _) (bB _)) .nil)))))) (by decide) (fun _=>by rw[hkk];exact uG _) (by rw[hkk];rfl)
theorem wA {l:List Rat}{n:Nat}(hn:l.length=n):sQ false (dS l)=.s false 50 4 n (l.flatMap cD):=by
 unfold sQ
 rw[gZ,hn,CA]
theorem uL {l:List Rat}{n B:Nat}(hn:l.length=n) (hB:2+l.length*(B+1)≤68719476736) (hz:∀q∈l,Sz B q) (hB2:B≤68719476736) (hl:l.length≤1073741823):aD true Tryz.prog 43 [] [.one (.t (.s false 50 4 n (l.flatMap cD)))] (aO (qO (aC l))):=by
 have h:=FX (xs:=dS l) (B:=B) (by rw[gZ];exact hB) (pA hz hB2) (rF hz) (by rw[gZ];exact hl)
 rwa[sP,wA hn]at h
theorem uM (l:List Rat):((l.flatMap cD).map AV.t).take (l.flatMap cD).length=(l.flatMap cD).map .t:=List.take_of_length_le (by simp)
theorem Lg (l:List Rat):((l.flatMap cD).map AV.t).take (l.length*4)=(l.flatMap cD).map .t:=List.take_of_length_le (by rw[List.length_map,bQ cS];omega)
theorem FY {k n m:Nat}(h:n=m):some (FV.one (.sl k 0 m))=some (FV.one (.sl k 0 n)):=by rw[h]
theorem OY {x:Cx}{g:Nat→FV}{ob:List (Option Ob)}{i:Nat}{q q':Rat}(hi:Nat.blt i x.n=true) (hg:g i=qF (.of q)) (h:q=q'):Sub x g ob (bG g i (qF (.of q'))) ob:=by
 subst h
 have e:bG g i (qF (.of q))=g:=by
  funext j
  unfold bG
  cases h9:Nat.beq j i
  ·rfl
  rw[Nat.eq_of_beq_eq_true h9]
  exact hg.symm
 rw[e]
 exact Sub.refl
theorem Vp {a:Zi}{k b:Int}{xs:List Fr4}(ha:Zn a k) (hk:jH 6 k) (hx:∀x∈xs,x.ok) (hz:∀x∈xs,Sz 7 x.q) (hl:xs.length≤12):aD false Tryz.prog 14 [] [gF a,.one (tv (.int .i64 b)),.one (.t (sQ false xs))] (aO (.tup [.agg [.t (.s true 48 4 (aM (k:Rat) b (xs.map Fr4.q)).length ((aM (k:Rat) b (xs.map Fr4.q)).flatMap cD))],.one (tv (.int .i64 (jK b xs.length)))])):=by
 refine Fq Tryz.func14 rfl Tryz.ntmps14 rfl aA rfl fun N9 w9 c0 h0=>?_
 have hwl:(xs.map Fr4.q).length=xs.length:=by simp
 have habl:((xs.map Fr4.q).map bC).length=xs.length:=by simp
 have hzab:∀q∈((xs.map Fr4.q).map bC),Sz 7 q:=fun q hq=>by
  rw[Bh]at hq;obtain⟨x,hx9,rfl⟩:=List.mem_map.1 hq
  exact Bi (hz x hx9) (by omega)
 have hsz9:Sz 98 (aC ((xs.map Fr4.q).map bC)):=(pX hzab).mono (by rw[habl];omega)
 have hTz:Sz 7 (k:Rat):=wB (Nat.le_trans hk (by omega)) (by omega)
 refine sq ?_;refine rl ?_;refine bx 0 ?_;refine al 1 ?_;refine o1 ?_;refine nl ?_;refine sq ?_;refine sq ?_;refine rl ?_;(iterate 3 refine o1 ?_)
 refine WL.split (t:=18) rfl (fun h1=>?_) (fun h1=>?_)
 ·(iterate 4 refine eC ?_);refine o1 ?_;refine nl ?_;refine kM rfl ?_;refine sq ?_;refine rl ?_;refine o1 ?_;refine st ?_;refine o1 ?_;refine nl ?_;refine rt ?_
  refine xD (Qy (j:=1) (key:=2) (e:=48) (z:=4) rfl rfl rfl (.sl .nil)) ?_;have hb9:b<0∨(xs.length:Int)≤b:=by omega
  exact iK <| en (.inl rfl) rfl (iJ (.cons (.agg (.cons (.sl (trs:=[]) rfl rfl rfl rfl) .nil)) (.cons (cF _) .nil))) (by decide) (fun h=>by cases h) (by rw[mP (by rw[hwl];exact hb9),wC hb9];rfl)
 (iterate 5 refine o1 ?_);refine nl ?_;refine bO rfl (fun h2=>?_) (fun h2=>?_)
 ·refine sq ?_;refine rl ?_;refine o1 ?_;refine st ?_;refine o1 ?_;refine nl ?_;refine rt ?_;refine xD (Qy (j:=1) (key:=2) (e:=48) (z:=4) rfl rfl rfl (.sl .nil)) ?_
  have hb9:b<0∨(xs.length:Int)≤b:=by omega
  exact iK <| en (.inl rfl) rfl (iJ (.cons (.agg (.cons (.sl (trs:=[]) rfl rfl rfl rfl) .nil)) (.cons (cF _) .nil))) (by decide) (fun h=>by cases h) (by rw[mP (by rw[hwl];exact hb9),wC hb9];rfl)
 refine sk ?_;refine sq ?_;obtain⟨m,hm⟩:∃m:Nat,b=(m:Int):=⟨b.toNat,by omega⟩
 subst hm;have hmn:m<xs.length:=by omega
 refine rl ?_;refine o1 ?_;refine nl ?_;refine sq ?_;refine sq ?_;refine rl ?_;(iterate 3 refine o1 ?_);refine nl ?_;refine bl ?_
 refine lp (γ:=Nat) (fun k0=>cG [(1,.one (tv (.int .i64 ((m:Nat):Int)))),(3,.one (.pt 0 0)),(6,.one (.pt 1 0)),(25,.one (.t (sQ false xs))),(26,.one (tv (.int .i64 ((xs.length:Nat):Int)))),(8,.one (.sl 2 0 (k0))),(27,.one (tv (.int .i64 ((k0:Nat):Int))))]) (fun k0=>[(⟨24,0,[tv (.bool a.s),.t (sU false a.x)]⟩:Ob),⟨42,0,[tv (.slice none 0 0)]⟩,⟨48,4,((((xs.map Fr4.q).map bC).take k0).flatMap cD).map .t⟩].map some) (fun k0=>k0≤xs.length) (fun k0=>xs.length-k0) 0 (Nat.zero_le _) ((nr (i:=8) 2 48 4 rfl rfl rfl rfl).trans (aH h0 [0,1,2] _ _ (by decide) ⟨rfl,rfl,rfl,rfl,rfl,rfl,rfl,trivial⟩ ⟨oe rfl rfl,oe rfl rfl,bI rfl,rfl⟩)) fun k0 hk0=>?_
 refine sq ?_;refine rl ?_;refine o1 ?_;refine nl ?_;refine sq ?_;refine bO rfl (fun h3=>?_) (fun h3=>?_)
 ·refine sk ?_;refine sq ?_;refine bl ?_;refine sq ?_;refine rl ?_;refine o1 ?_;refine fB ((aN xs (k0)).tr false) (eE xs (k:=k0) (by omega)) ?_
  refine al 3 ?_;refine st ?_;refine nl ?_;refine rl ?_;refine o1 ?_;refine ld ?_
  refine ca (Vl ⟨hx _ (aT (by omega)),rfl⟩) MW ⟨aB rfl,rfl⟩ (qF (.of (bC (aN xs (k0)).q))) ?_
  refine bs 4 ?_
  refine dV (j:=5) aA rfl rfl rfl rfl (.sl rfl (by rw[List.length_map,bQ cS,List.length_take,habl,Nat.min_eq_left (by omega)])) (.sl rfl rfl rfl) rfl rfl rfl (by omega) (by omega) ?_
  refine o1 ?_;refine nl ?_;refine rl ?_;refine o1 ?_;refine WL.cast (t:=36) (u':=.int .i64 ((k0+1:Nat):Int)) rfl (aJ (by omega)) ?_
  refine o1 ?_;refine nl ?_
  have hst:((((xs.map Fr4.q).map bC).take k0).flatMap cD).map AV.t++(cD (bC (aN xs (k0)).q)).map .t=((((xs.map Fr4.q).map bC).take (k0+1)).flatMap cD).map .t:=by rw[eU,fF (by rw[habl];omega),CB (by omega)]
  exact⟨k0+1,by omega,by omega,aH h0 [0,1,5] _ _ (by decide) ⟨rfl,rfl,rfl,rfl,rfl,rfl,rfl,trivial⟩ ⟨oe rfl rfl,oe rfl rfl,bI (congrArg (fun l=>some (⟨48,4,l⟩:Ob)) hst),rfl⟩⟩
 refine ex ?_
 refine md (γ:=Unit) (fun _=>cG [(1,.one (tv (.int .i64 ((m:Nat):Int)))),(6,.one (.pt 0 0)),(8,.one (.sl 1 0 (xs.length))),(11,.one (.pt 2 0)),(12,.one (.pt 3 0))]) (fun _=>([⟨42,0,[tv (.slice none 0 0)]⟩,⟨48,4,(((xs.map Fr4.q).map bC).flatMap cD).map .t⟩,⟨48,0,((Fr4.of (aC ((xs.map Fr4.q).map bC))).tr false).map .t⟩,⟨48,0,((Fr4.of (k:Rat)).tr false).map .t⟩]:List Ob).map some) (fun _=>True) ?_ fun _ _=>?_
 ·have hk9:k0=xs.length:=by omega
  have htk:((xs.map Fr4.q).map bC).take k0=((xs.map Fr4.q).map bC):=List.take_of_length_le (by rw[habl];omega)
  refine WP.sub (aH h0 [0,1,2] [(1,.one (tv (.int .i64 ((m:Nat):Int)))),(3,.one (.pt 0 0)),(6,.one (.pt 1 0)),(8,.one (.sl 2 0 (xs.length)))] [(⟨24,0,[tv (.bool a.s),.t (sU false a.x)]⟩:Ob),(⟨42,0,[tv (.slice none 0 0)]⟩:Ob),⟨48,4,(((xs.map Fr4.q).map bC).flatMap cD).map .t⟩] (by decide) ⟨rfl,rfl,rfl,FY hk9,trivial⟩ ⟨oe rfl rfl,oe rfl rfl,bI (congrArg (fun l:List Rat=>some (⟨48,4,(l.flatMap cD).map .t⟩:Ob)) htk),rfl⟩) ?_
  refine rd [0,1] (fun i=>[7].contains i) mixed ?_
  refine dv 0 ?_;refine aX 2 ?_;refine WO.three (i:=1) (j:=4) (m:=5) (by kernel_rfl) ?_ ?_ ?_
  ·refine cY 1 rfl (uL (l:=((xs.map Fr4.q).map bC)) (n:=xs.length) (B:=7) (by simp) (by rw[habl];omega) hzab (by omega) (by rw[habl];omega)) yD ⟨rG rfl (.sl rfl rfl (uM _) (by rw[bQ cS,habl])),rfl⟩ (qF (.of (aC ((xs.map Fr4.q).map bC)))) ?_
   refine WO.three (i:=3) (j:=4) (m:=5) (by kernel_rfl) ?_ ?_ ?_
   ·refine cY 3 rfl (gQ ha) pB ⟨aB rfl,rfl⟩ (qF (.of (k:Rat))) ?_;refine WO.two (i:=4) (j:=5) (by kernel_rfl) ?_ ?_
    ·refine bX (key:=3) 4 rfl rfl aA rfl ⟨rfl,rfl,trivial⟩ ?_;refine eQ (key:=4) 5 (by kernel_rfl) rfl rfl aA rfl ⟨rfl,rfl,trivial⟩ ?_
     refine aZ 6 (by kernel_rfl) rfl rfl aA rfl rfl rfl rfl ⟨rfl,rfl,trivial⟩ ?_
     refine dst 7 ?_;refine aR ?_;exact⟨(),trivial,aH h0 [1,2,3,4] _ _ (by decide) ⟨rfl,rfl,rfl,rfl,rfl,trivial⟩ ⟨oe rfl rfl,bI rfl,oe rfl rfl,oe rfl rfl,rfl⟩⟩
    refine bX (key:=3) 5 rfl rfl aA rfl ⟨rfl,rfl,trivial⟩ ?_;refine eQ (key:=4) 4 (by kernel_rfl) rfl rfl aA rfl ⟨rfl,rfl,trivial⟩ ?_
    refine aZ 6 (by kernel_rfl) rfl rfl aA rfl rfl rfl rfl ⟨rfl,rfl,trivial⟩ ?_
    refine dst 7 ?_;refine aR ?_;exact⟨(),trivial,aH h0 [1,2,4,3] _ _ (by decide) ⟨rfl,rfl,rfl,rfl,rfl,trivial⟩ ⟨oe rfl rfl,bI rfl,oe rfl rfl,oe rfl rfl,rfl⟩⟩
   ·refine bX (key:=3) 4 rfl rfl aA rfl ⟨rfl,rfl,trivial⟩ ?_;refine WO.two (i:=3) (j:=5) (by kernel_rfl) ?_ ?_
    ·refine cY 3 rfl (gQ ha) pB ⟨aB rfl,rfl⟩ (qF (.of (k:Rat))) ?_;refine eQ (key:=4) 5 (by kernel_rfl) rfl rfl aA rfl ⟨rfl,rfl,trivial⟩ ?_
     refine aZ 6 (by kernel_rfl) rfl rfl aA rfl rfl rfl rfl ⟨rfl,rfl,trivial⟩ ?_
     refine dst 7 ?_;refine aR ?_;exact⟨(),trivial,aH h0 [1,2,3,4] _ _ (by decide) ⟨rfl,rfl,rfl,rfl,rfl,trivial⟩ ⟨oe rfl rfl,bI rfl,oe rfl rfl,oe rfl rfl,rfl⟩⟩
    refine bX (key:=4) 5 rfl rfl aA rfl ⟨rfl,rfl,trivial⟩ ?_;refine aK 3 rfl (gQ ha) pB ⟨aB rfl,rfl⟩ (qF (.of (k:Rat))) ?_
    refine aZ 6 (by kernel_rfl) rfl rfl aA rfl rfl rfl rfl ⟨rfl,rfl,trivial⟩ ?_
    refine dst 7 ?_;refine aR ?_;exact⟨(),trivial,aH h0 [1,2,3,4] _ _ (by decide) ⟨rfl,rfl,rfl,rfl,rfl,trivial⟩ ⟨oe rfl rfl,bI rfl,oe rfl rfl,oe rfl rfl,rfl⟩⟩
   refine bX (key:=3) 5 rfl rfl aA rfl ⟨rfl,rfl,trivial⟩ ?_;refine WO.two (i:=3) (j:=4) (by kernel_rfl) ?_ ?_
   ·refine cY 3 rfl (gQ ha) pB ⟨aB rfl,rfl⟩ (qF (.of (k:Rat))) ?_;refine eQ (key:=4) 4 (by kernel_rfl) rfl rfl aA rfl ⟨rfl,rfl,trivial⟩ ?_
    refine aZ 6 (by kernel_rfl) rfl rfl aA rfl rfl rfl rfl ⟨rfl,rfl,trivial⟩ ?_
    refine dst 7 ?_;refine aR ?_;exact⟨(),trivial,aH h0 [1,2,4,3] _ _ (by decide) ⟨rfl,rfl,rfl,rfl,rfl,trivial⟩ ⟨oe rfl rfl,bI rfl,oe rfl rfl,oe rfl rfl,rfl⟩⟩
   refine bX (key:=4) 4 rfl rfl aA rfl ⟨rfl,rfl,trivial⟩ ?_;refine aK 3 rfl (gQ ha) pB ⟨aB rfl,rfl⟩ (qF (.of (k:Rat))) ?_
   refine aZ 6 (by kernel_rfl) rfl rfl aA rfl rfl rfl rfl ⟨rfl,rfl,trivial⟩ ?_
   refine dst 7 ?_;refine aR ?_;exact⟨(),trivial,aH h0 [1,2,4,3] _ _ (by decide) ⟨rfl,rfl,rfl,rfl,rfl,trivial⟩ ⟨oe rfl rfl,bI rfl,oe rfl rfl,oe rfl rfl,rfl⟩⟩
  ·refine bX (key:=3) 4 rfl rfl aA rfl ⟨rfl,rfl,trivial⟩ ?_;refine WO.two (i:=1) (j:=5) (by kernel_rfl) ?_ ?_
   ·refine cY 1 rfl (uL (l:=((xs.map Fr4.q).map bC)) (n:=xs.length) (B:=7) (by simp) (by rw[habl];omega) hzab (by omega) (by rw[habl];omega)) yD ⟨rG rfl (.sl rfl rfl (uM _) (by rw[bQ cS,habl])),rfl⟩ (qF (.of (aC ((xs.map Fr4.q).map bC)))) ?_
    refine WO.two (i:=3) (j:=5) (by kernel_rfl) ?_ ?_
    ·refine cY 3 rfl (gQ ha) pB ⟨aB rfl,rfl⟩ (qF (.of (k:Rat))) ?_;refine eQ (key:=4) 5 (by kernel_rfl) rfl rfl aA rfl ⟨rfl,rfl,trivial⟩ ?_
     refine aZ 6 (by kernel_rfl) rfl rfl aA rfl rfl rfl rfl ⟨rfl,rfl,trivial⟩ ?_
     refine dst 7 ?_;refine aR ?_;exact⟨(),trivial,aH h0 [1,2,3,4] _ _ (by decide) ⟨rfl,rfl,rfl,rfl,rfl,trivial⟩ ⟨oe rfl rfl,bI rfl,oe rfl rfl,oe rfl rfl,rfl⟩⟩
    refine bX (key:=4) 5 rfl rfl aA rfl ⟨rfl,rfl,trivial⟩ ?_;refine aK 3 rfl (gQ ha) pB ⟨aB rfl,rfl⟩ (qF (.of (k:Rat))) ?_
    refine aZ 6 (by kernel_rfl) rfl rfl aA rfl rfl rfl rfl ⟨rfl,rfl,trivial⟩ ?_
    refine dst 7 ?_;refine aR ?_;exact⟨(),trivial,aH h0 [1,2,3,4] _ _ (by decide) ⟨rfl,rfl,rfl,rfl,rfl,trivial⟩ ⟨oe rfl rfl,bI rfl,oe rfl rfl,oe rfl rfl,rfl⟩⟩
   refine bX (key:=4) 5 rfl rfl aA rfl ⟨rfl,rfl,trivial⟩ ?_
   refine aK 1 rfl (uL (l:=((xs.map Fr4.q).map bC)) (n:=xs.length) (B:=7) (by simp) (by rw[habl];omega) hzab (by omega) (by rw[habl];omega)) yD ⟨rG rfl (.sl rfl rfl (uM _) (by rw[bQ cS,habl])),rfl⟩ (qF (.of (aC ((xs.map Fr4.q).map bC)))) ?_
   refine aK 3 rfl (gQ ha) pB ⟨aB rfl,rfl⟩ (qF (.of (k:Rat))) ?_;refine aZ 6 (by kernel_rfl) rfl rfl aA rfl rfl rfl rfl ⟨rfl,rfl,trivial⟩ ?_
   refine dst 7 ?_;refine aR ?_;exact⟨(),trivial,aH h0 [1,2,3,4] _ _ (by decide) ⟨rfl,rfl,rfl,rfl,rfl,trivial⟩ ⟨oe rfl rfl,bI rfl,oe rfl rfl,oe rfl rfl,rfl⟩⟩
  refine bX (key:=3) 5 rfl rfl aA rfl ⟨rfl,rfl,trivial⟩ ?_;refine WO.two (i:=1) (j:=4) (by kernel_rfl) ?_ ?_
  ·refine cY 1 rfl (uL (l:=((xs.map Fr4.q).map bC)) (n:=xs.length) (B:=7) (by simp) (by rw[habl];omega) hzab (by omega) (by rw[habl];omega)) yD ⟨rG rfl (.sl rfl rfl (uM _) (by rw[bQ cS,habl])),rfl⟩ (qF (.of (aC ((xs.map Fr4.q).map bC)))) ?_
   refine WO.two (i:=3) (j:=4) (by kernel_rfl) ?_ ?_
   ·refine cY 3 rfl (gQ ha) pB ⟨aB rfl,rfl⟩ (qF (.of (k:Rat))) ?_;refine eQ (key:=4) 4 (by kernel_rfl) rfl rfl aA rfl ⟨rfl,rfl,trivial⟩ ?_
    refine aZ 6 (by kernel_rfl) rfl rfl aA rfl rfl rfl rfl ⟨rfl,rfl,trivial⟩ ?_
    refine dst 7 ?_;refine aR ?_;exact⟨(),trivial,aH h0 [1,2,4,3] _ _ (by decide) ⟨rfl,rfl,rfl,rfl,rfl,trivial⟩ ⟨oe rfl rfl,bI rfl,oe rfl rfl,oe rfl rfl,rfl⟩⟩
   refine bX (key:=4) 4 rfl rfl aA rfl ⟨rfl,rfl,trivial⟩ ?_;refine aK 3 rfl (gQ ha) pB ⟨aB rfl,rfl⟩ (qF (.of (k:Rat))) ?_
   refine aZ 6 (by kernel_rfl) rfl rfl aA rfl rfl rfl rfl ⟨rfl,rfl,trivial⟩ ?_
   refine dst 7 ?_;refine aR ?_;exact⟨(),trivial,aH h0 [1,2,4,3] _ _ (by decide) ⟨rfl,rfl,rfl,rfl,rfl,trivial⟩ ⟨oe rfl rfl,bI rfl,oe rfl rfl,oe rfl rfl,rfl⟩⟩
  refine bX (key:=4) 4 rfl rfl aA rfl ⟨rfl,rfl,trivial⟩ ?_
  refine aK 1 rfl (uL (l:=((xs.map Fr4.q).map bC)) (n:=xs.length) (B:=7) (by simp) (by rw[habl];omega) hzab (by omega) (by rw[habl];omega)) yD ⟨rG rfl (.sl rfl rfl (uM _) (by rw[bQ cS,habl])),rfl⟩ (qF (.of (aC ((xs.map Fr4.q).map bC)))) ?_
  refine aK 3 rfl (gQ ha) pB ⟨aB rfl,rfl⟩ (qF (.of (k:Rat))) ?_;refine aZ 6 (by kernel_rfl) rfl rfl aA rfl rfl rfl rfl ⟨rfl,rfl,trivial⟩ ?_
  refine dst 7 ?_;refine aR ?_;exact⟨(),trivial,aH h0 [1,2,4,3] _ _ (by decide) ⟨rfl,rfl,rfl,rfl,rfl,trivial⟩ ⟨oe rfl rfl,bI rfl,oe rfl rfl,oe rfl rfl,rfl⟩⟩
 refine sq ?_;refine sq ?_;refine rl ?_;refine ld ?_
 refine ca (rE (Qn.of (p:=(aC ((xs.map Fr4.q).map bC))) hsz9)) Bf ⟨aB rfl,rfl⟩ (.one (tv (.int .i64 (aC ((xs.map Fr4.q).map bC)).num.sign))) ?_;refine o1 ?_;refine nl ?_
 refine bO rfl (fun h4=>?_) (fun h4=>?_)
 ·refine sq ?_;refine sq ?_;have hS0:(aC ((xs.map Fr4.q).map bC))=0:=Rat.num_eq_zero.1 (Int.sign_eq_zero_iff_zero.1 h4)
  refine rl ?_;(iterate 3 refine o1 ?_);refine nl ?_;refine bl ?_
  refine lp (γ:=Nat) (fun j=>cG [(1,.one (tv (.int .i64 ((m:Nat):Int)))),(6,.one (.pt 0 0)),(8,.one (.sl 1 0 (xs.length))),(12,.one (.pt 2 0)),(45,.one (tv (.int .i64 ((xs.length:Nat):Int)))),(46,.one (tv (.int .i64 ((j:Nat):Int))))]) (fun j=>[(⟨42,0,[tv (.slice none 0 0)]⟩:Ob),⟨48,4,((nK ((xs.map Fr4.q).map bC) (j)).flatMap cD).map .t⟩,⟨48,0,((Fr4.of (k:Rat)).tr false).map .t⟩].map some) (fun j=>j≤xs.length) (fun j=>xs.length-j) 0 (Nat.zero_le _) (aH h0 [0,1,3] _ _ (by decide) ⟨rfl,rfl,rfl,rfl,rfl,rfl,trivial⟩ ⟨oe rfl rfl,bI rfl,oe rfl rfl,rfl⟩) fun j hj=>?_
  refine sq ?_;refine rl ?_;refine o1 ?_;refine nl ?_;refine sq ?_;refine bO rfl (fun h5=>?_) (fun h5=>?_)
  ·refine sk ?_;refine sq ?_;refine bl ?_;refine sq ?_;refine rl ?_;refine o1 ?_;refine o1 ?_;refine nl ?_;refine rl ?_;refine o1 ?_;refine o1 ?_
   refine ca (mO (z:=0) (by omega) (by omega)) Bb ⟨a1 rfl,rfl⟩ (qF (.of ((0:Int):Rat))) ?_
   refine o1 ?_
   refine rH (pW (xs:=(nK ((xs.map Fr4.q).map bC) (j))) (k:=j) (x:=(aF (nK ((xs.map Fr4.q).map bC) (j)) (j))) (f:=cD) (z:=4) (o:=0) (x':=(((0:Int):Rat):Rat)) (us:=cD ((0:Int):Rat)) cS (iU (by rw[rI (by rw[habl];omega),habl];omega)) (Nat.le_of_ble_eq_true rfl) rfl) (Bj (xs:=(nK ((xs.map Fr4.q).map bC) (j))) (k:=j) (f:=cD) (z:=4) (o:=0) (us:=cD ((0:Int):Rat)) cS (by rw[rI (by rw[habl];omega),habl];omega) (Nat.le_of_ble_eq_true rfl)) ?_
   refine nl ?_;refine rl ?_;refine o1 ?_;refine WL.cast (t:=53) (u':=.int .i64 ((j+1:Nat):Int)) rfl (aJ (by omega)) ?_
   refine o1 ?_;refine nl ?_;have hst:(nK ((xs.map Fr4.q).map bC) (j)).set j 0=(nK ((xs.map Fr4.q).map bC) (j+1)):=KN (by rw[habl];omega)
   exact⟨j+1,by omega,by omega,aH h0 [0,1,2] _ _ (by decide) ⟨rfl,rfl,rfl,rfl,rfl,rfl,trivial⟩ ⟨oe rfl rfl,bI (congrArg (fun l:List Rat=>some (⟨48,4,(l.flatMap cD).map .t⟩:Ob)) hst),oe rfl rfl,rfl⟩⟩
  refine ex ?_;refine sq ?_;refine rl ?_;refine o1 ?_;refine o1 ?_;refine ld ?_;refine o1 ?_
  refine rH (pW (xs:=(nK ((xs.map Fr4.q).map bC) (j))) (k:=m) (x:=(aF (nK ((xs.map Fr4.q).map bC) (j)) (m))) (f:=cD) (z:=4) (o:=0) (x':=((k:Rat):Rat)) (us:=cD (k:Rat)) cS (iU (by rw[rI (by rw[habl];omega),habl];omega)) (Nat.le_of_ble_eq_true rfl) rfl) (Bj (xs:=(nK ((xs.map Fr4.q).map bC) (j))) (k:=m) (f:=cD) (z:=4) (o:=0) (us:=cD (k:Rat)) cS (by rw[rI (by rw[habl];omega),habl];omega) (Nat.le_of_ble_eq_true rfl)) ?_
  refine nl ?_;refine sq ?_;refine rl ?_;refine o1 ?_;refine o1 ?_;refine st ?_;refine o1 ?_;refine nl ?_;refine rt ?_
  have hrow:((nK ((xs.map Fr4.q).map bC) (j)).set (m) ((k:Rat):Rat))=aM (k:Rat) (m:Int) (xs.map Fr4.q):=by rw[xV (by rw[hwl];exact hmn) hS0,CC (by rw[habl];omega),show j=(xs.map Fr4.q).length by rw[hwl];omega]
  have hel:(aM (k:Rat) (m:Int) (xs.map Fr4.q)).length=xs.length:=by rw[←hrow,List.length_set,rI (by rw[habl];omega),habl]
  exact iK <| en (.inl rfl) rfl (iJ (.cons (.agg (.cons (.sl (trs:=(aM (k:Rat) (m:Int) (xs.map Fr4.q)).flatMap cD) rfl rfl (by rw[hrow,←hel];exact Lg _) (by rw[bQ cS,hel])) .nil)) (.cons (cF _) .nil))) (by decide) (fun h=>by cases h) (by rw[Gc hmn,hel];rfl)
 refine sk ?_;refine sq ?_;refine sq ?_;have hS0:(aC ((xs.map Fr4.q).map bC))≠0:=fun h9=>h4 (by rw[h9];rfl)
 refine rl ?_;(iterate 3 refine o1 ?_);refine nl ?_;refine bl ?_
 refine lp (γ:=Nat) (fun i=>cG [(6,.one (.pt 0 0)),(8,.one (.sl 1 0 (xs.length))),(11,.one (.pt 2 0)),(12,.one (.pt 3 0)),(60,.one (.sl 1 0 (xs.length))),(61,.one (tv (.int .i64 ((xs.length:Nat):Int)))),(62,.one (tv (.int .i64 ((i:Nat):Int))))]) (fun i=>[(⟨42,0,[tv (.slice none 0 0)]⟩:Ob),⟨48,4,((mJ (fun w=>(k:Rat)*w/(aC ((xs.map Fr4.q).map bC))) ((xs.map Fr4.q).map bC) (i)).flatMap cD).map .t⟩,⟨48,0,((Fr4.of (aC ((xs.map Fr4.q).map bC))).tr false).map .t⟩,⟨48,0,((Fr4.of (k:Rat)).tr false).map .t⟩].map some) (fun i=>i≤xs.length) (fun i=>xs.length-i) 0 (Nat.zero_le _) (aH h0 [0,1,2,3] _ _ (by decide) ⟨rfl,rfl,rfl,rfl,rfl,rfl,rfl,trivial⟩ ⟨oe rfl rfl,bI rfl,oe rfl rfl,oe rfl rfl,rfl⟩) fun i hi=>?_
 refine sq ?_;refine rl ?_;refine o1 ?_;refine nl ?_;refine sq ?_;refine bO rfl (fun h6=>?_) (fun h6=>?_)
 ·refine sk ?_;refine sq ?_;refine bl ?_;refine sq ?_;refine rl ?_;refine o1 ?_;refine o1 ?_
  refine FZ (De (f:=cD) (z:=4) (o:=0) (us:=cD (aF (mJ (fun w=>(k:Rat)*w/(aC ((xs.map Fr4.q).map bC))) ((xs.map Fr4.q).map bC) (i)) (i))) cS (iU (by rw[wD,habl];omega)) (Nat.le_of_ble_eq_true rfl) rfl) ?_
  refine WL.sub (OY (i:=66) (q:=aF (mJ (fun w=>(k:Rat)*w/(aC ((xs.map Fr4.q).map bC))) ((xs.map Fr4.q).map bC) (i)) (i)) (q':=aF ((xs.map Fr4.q).map bC) (i)) rfl rfl (CD (by rw[habl];omega))) ?_
  refine al 4 ?_;refine o1 ?_;refine st ?_;refine nl ?_;refine rd [0,2,3,4] (fun i=>[].contains i) mixed ?_
  refine dv 0 ?_;refine dv 1 ?_;refine aX 2 ?_;refine aX 3 ?_;refine aX 5 ?_
  refine aK 4 rfl (JX (Qn.of (p:=(k:Rat)) hTz) (Qn.of (p:=(aF ((xs.map Fr4.q).map bC) (i))) (hzab _ (dM (by rw[habl];omega))))) MX ⟨aB rfl,aB rfl,rfl⟩ (qF (.of ((k:Rat)*(aF ((xs.map Fr4.q).map bC) (i))))) ?_
  refine aK 6 rfl (KE (Qn.of (p:=((k:Rat)*(aF ((xs.map Fr4.q).map bC) (i)))) (nL hTz (hzab _ (dM (by rw[habl];omega))))) (Qn.of (p:=(aC ((xs.map Fr4.q).map bC))) hsz9)) MY ⟨aB rfl,aB rfl,rfl⟩ (.tup [qF (.of (((k:Rat)*(aF ((xs.map Fr4.q).map bC) (i)))/(aC ((xs.map Fr4.q).map bC)))),.one (tv (.int .i64 (if(aC ((xs.map Fr4.q).map bC))=0 then 20 else 0)))]) ?_
  refine df 7 ?_;refine df 8 ?_;refine df 9 ?_;refine dv 10 ?_
  refine Ok 11 (pW (xs:=(mJ (fun w=>(k:Rat)*w/(aC ((xs.map Fr4.q).map bC))) ((xs.map Fr4.q).map bC) (i))) (k:=i) (x:=(aF (mJ (fun w=>(k:Rat)*w/(aC ((xs.map Fr4.q).map bC))) ((xs.map Fr4.q).map bC) (i)) (i))) (f:=cD) (z:=4) (o:=0) (x':=((((k:Rat)*(aF ((xs.map Fr4.q).map bC) (i)))/(aC ((xs.map Fr4.q).map bC))):Rat)) (us:=cD (((k:Rat)*(aF ((xs.map Fr4.q).map bC) (i)))/(aC ((xs.map Fr4.q).map bC)))) cS (iU (by rw[wD,habl];omega)) (Nat.le_of_ble_eq_true rfl) rfl) (Bj (xs:=(mJ (fun w=>(k:Rat)*w/(aC ((xs.map Fr4.q).map bC))) ((xs.map Fr4.q).map bC) (i))) (k:=i) (f:=cD) (z:=4) (o:=0) (us:=cD (((k:Rat)*(aF ((xs.map Fr4.q).map bC) (i)))/(aC ((xs.map Fr4.q).map bC)))) cS (by rw[wD,habl];omega) (Nat.le_of_ble_eq_true rfl)) ?_
  refine aR ?_;refine rl ?_;refine o1 ?_;refine WL.cast (t:=78) (u':=.int .i64 ((i+1:Nat):Int)) rfl (aJ (by omega)) ?_
  refine o1 ?_;refine nl ?_
  have hst:(mJ (fun w=>(k:Rat)*w/(aC ((xs.map Fr4.q).map bC))) ((xs.map Fr4.q).map bC) (i)).set i ((k:Rat)*aF ((xs.map Fr4.q).map bC) i/(aC ((xs.map Fr4.q).map bC)))=(mJ (fun w=>(k:Rat)*w/(aC ((xs.map Fr4.q).map bC))) ((xs.map Fr4.q).map bC) (i+1)):=KO (f:=(fun w=>(k:Rat)*w/(aC ((xs.map Fr4.q).map bC)))) (by rw[habl];omega)
  exact⟨i+1,by omega,by omega,aH h0 [0,1,2,3] _ _ (by decide) ⟨rfl,rfl,rfl,rfl,rfl,rfl,rfl,trivial⟩ ⟨oe rfl rfl,bI (congrArg (fun l:List Rat=>some (⟨48,4,(l.flatMap cD).map .t⟩:Ob)) hst),oe rfl rfl,oe rfl rfl,rfl⟩⟩
 refine ex ?_;refine sq ?_;refine rl ?_;refine o1 ?_;refine o1 ?_;refine st ?_;refine o1 ?_;refine nl ?_;refine rt ?_
 have hrow:(mJ (fun w=>(k:Rat)*w/(aC ((xs.map Fr4.q).map bC))) ((xs.map Fr4.q).map bC) (i))=aM (k:Rat) (m:Int) (xs.map Fr4.q):=by rw[Aw (by rw[hwl];exact hmn) hS0,CE (by rw[habl];omega),List.map_map];rfl
 have hel:(aM (k:Rat) (m:Int) (xs.map Fr4.q)).length=xs.length:=by rw[←hrow,wD,habl]
 exact iK <| en (.inl rfl) rfl (iJ (.cons (.agg (.cons (.sl (trs:=(aM (k:Rat) (m:Int) (xs.map Fr4.q)).flatMap cD) rfl rfl (by rw[hrow,←hel];exact Lg _) (by rw[bQ cS,hel])) .nil)) (.cons (cF _) .nil))) (by decide) (fun h=>by cases h) (by rw[Gc hmn,hel];rfl)
theorem Rk {xs:List Fr4}{k:Nat}(h:k<xs.length):aF (xs.map Fr4.q) k=(aN xs k).q:=cU h
theorem Rl {xs:List Fr4}{i k:Nat}(hi:i<xs.length) (hk:k<xs.length):Be (fG (xs.map Fr4.q)) i k=if(fc (aN xs k).q-fc (aN xs i).q).num.sign≠0 then(fc (aN xs k).q-fc (aN xs i).q).num.sign else if i<k then-1 else if k<i then 1 else 0:=by
 unfold Be fG
 rw[Rk hi,Rk hk]
theorem KP {xs:List Fr4}{i k:Nat}(hx:∀x∈xs,x.ok) (hz:∀x∈xs,Sz 1000 x.q) (hl:xs.length≤12) (hi:i<xs.length) (hk:k<xs.length):aD true Tryz.prog 95 [] [.one (tv (.int .i64 ((i:Nat):Int))),.one (tv (.int .i64 ((k:Nat):Int))),.one (.t (.p false 42 [sQ false xs]))] (aO (.one (tv (.int .i64 (Be (fG (xs.map Fr4.q)) i k))))):=by
 refine bP Tryz.func95 rfl Tryz.ntmps95 rfl aA rfl fun N9 w9 c0 h0=>?_
 refine WP.sub (OZ (i:=2) rfl rfl) ?_;refine sq ?_;refine rl ?_;refine o1 ?_;refine nl ?_;refine sq ?_;refine sq ?_;refine rd [] (fun i=>[13].contains i) mixed ?_
 refine dv 0 ?_;refine eF 1 ([sQ false xs]) rfl ?_;refine dv 2 ?_;refine dv 3 ?_;refine eF 4 ((aN xs (k)).tr false) (eE xs (k:=k) (by omega)) ?_
 refine dv 6 ?_;refine eF 7 ([sQ false xs]) rfl ?_;refine dv 8 ?_;refine dv 9 ?_;refine eF 10 ((aN xs (i)).tr false) (eE xs (k:=i) (by omega)) ?_
 refine aK 5 rfl (Qz ⟨hx _ (aT (by omega)),rfl⟩) GA ⟨aB rfl,rfl⟩ (qF (.of (fc (aN xs (k)).q))) ?_
 refine aK 11 rfl (Qz ⟨hx _ (aT (by omega)),rfl⟩) GA ⟨aB rfl,rfl⟩ (qF (.of (fc (aN xs (i)).q))) ?_
 refine aK 12 rfl (Zb (Qn.of (p:=(fc (aN xs (k)).q)) (sR (hz _ (aT (by omega))))) (Qn.of (p:=(fc (aN xs (i)).q)) (sR (hz _ (aT (by omega)))))) FM ⟨aB rfl,aB rfl,rfl⟩ (.one (tv (.int .i64 ((fc (aN xs (k)).q)-(fc (aN xs (i)).q)).num.sign))) ?_
 refine dH 13 (by kernel_rfl) rfl rfl aA rfl (by trivial) ?_ (fun h=>by first | rfl | cases h)
 refine aR ?_;refine sq ?_;refine rl ?_;refine o1 ?_;refine o1 ?_;refine nl ?_;refine bO rfl (fun h1=>?_) (fun h1=>?_)
 ·refine sq ?_;refine rl ?_;refine o1 ?_;refine o1 ?_;refine nl ?_;refine rt ?_;have e1:=Rl (xs:=xs) hi hk
  exact en (.inl rfl) rfl (aW (cF _)) (by decide) (fun _=>trivial) (congrArg (fun z=>FV.one (tv (.int .i64 z))) (by rw[e1,if_pos h1]))
 refine sk ?_;refine sq ?_;refine rl ?_;refine o1 ?_;refine o1 ?_
 refine ca (Rg (x:=(i:Int)) (y:=(k:Int))) MZ ⟨a1 rfl,a1 rfl,rfl⟩ (.one (tv (.int .i64 (if(i:Int)<k then-1 else if(k:Int)<i then 1 else 0)))) ?_;refine o1 ?_
 refine nl ?_;refine rt ?_;have e1:=Rl (xs:=xs) hi hk
 exact en (.inl rfl) rfl (aW (cF _)) (by decide) (fun _=>trivial) (congrArg (fun z=>FV.one (tv (.int .i64 z))) (by rw[e1,if_neg h1];simp only[Int.ofNat_lt]))
theorem GB {zs:List Zi}{n L:Nat}(hn:zs.length=n) (hz:∀a∈zs,ZL L a) (hL:L≤1000000) (hl:zs.length≤1000000):aD true Tryz.prog 66 [] [.one (.t (.s false 24 2 n (zs.flatMap (cB false))))] (aO (kO (cR zs))):=by
 subst hn
 exact Ri hz hL hl
theorem CF {xs:List Nat}{m n:Nat}{cf:Nat→Nat→Int}{lt:Nat→Nat→Bool}{fd:FuncId}{fst caps:List Tr}(hn:xs.length=n) (hok:CallOk Tryz.prog fd) (hd:∀x y,x<m→y<m→aD true Tryz.prog fd [] (dI fst++[.one (tv (.int .i64 ((x:Nat):Int))),.one (tv (.int .i64 ((y:Nat):Int)))]++dI caps) (aO (.one (tv (.int .i64 (cf x y)))))) (hlt:∀x y,decide (cf x y<0)=lt x y) (hm:∀z∈xs,z<m) (hl:n<20):aD false Tryz.prog 94 [⟨3,1,(cK xs).map .t⟩] [.one (.sl 0 0 n),.one (.t (.f fd fst caps))] (Rt [⟨3,1,(cK (iW lt xs)).map .t⟩] (.tup [])):=by
 subst hn
 exact FT hok hd hlt hm hl
theorem Rm (ws:List Zi):(eK ws).take (ws.flatMap (cB true)).length=(ws.flatMap (cB true)).map .t:=List.take_of_length_le (by simp[eK])
theorem Rn {xs:List Fr4}{k:Nat}(h:k<xs.length):aV ((xs.map Fr4.q).map fl) k=fl (aN xs k).q:=by simp[aV,aN,h]
theorem GC {l:List Rat}(h:∀q∈l,Sz 1000 q):∀a∈aQ (l.map fl),ZL 1001 a:=fun a ha=>by
 obtain⟨k,hk,rfl⟩:=List.mem_map.1 ha
 obtain⟨q,hq,rfl⟩:=List.mem_map.1 hk
 exact⟨aL (by omega) _,Nat.le_trans (Nat.le_trans (nF q) (h q hq).1) (by omega)⟩
theorem CG (l:List Rat):cR (aQ (l.map fl))=eD (l.map fl):=Ba _
theorem CH {l:List Rat}{tot:Int}(hn:(aQ (l.map fl)).length≤12) (hz:∀a∈aQ (l.map fl),ZL 1001 a) (_:(aC l).den=1) (hs:∀q∈l,Sz 1000 q) (hl:l.length≤12) (ht:tot=(aC l).num):(dg 4294967296 tot.natAbs).length≤300000000000∧(dg 4294967296 (cR (aQ (l.map fl))).natAbs).length≤300000000000:=by
 have h1:=nH (k:=(aQ (l.map fl)).length) hz (by omega)
 rw[List.take_length]at h1
 have h2:=(pX hs).1
 have h3:l.length*(1000+1)≤12*1001:=Nat.mul_le_mul hl (Nat.le_refl _)
 rw[ht]
 exact⟨by omega,by omega⟩
theorem Ro {l:List Rat}{tot:Int}(ht:tot=(aC l).num):tot-cR (aQ (l.map fl))=eO l:=by rw[CG,ht];rfl
theorem CI {l:List Rat}{tot:Int}(_:(aQ (l.map fl)).length≤12) (_:∀a∈aQ (l.map fl),ZL 1001 a) (hd:(aC l).den=1) (_:∀q∈l,Sz 1000 q) (hl:l.length≤12) (ht:tot=(aC l).num):(dg 4294967296 (tot-cR (aQ (l.map fl))).natAbs).length≤137438953472:=by
 rw[Ro ht]
 have h1:=iV hd
 have h2:=nI hd
 have h3:(dg 4294967296 (eO l).natAbs).length≤1:=cH (by omega) (show(eO l).natAbs<4294967296^1 by omega)
 omega
theorem KQ {l:List Rat}{tot:Int}(_:(aQ (l.map fl)).length≤12) (hd:(aC l).den=1) (ht:tot=(aC l).num) (hl:l.length≤12):(if lB (tot-cR (aQ (l.map fl)))then tot-cR (aQ (l.map fl))else 0)=(((eO l).toNat:Nat):Int):=by
 rw[Ro ht]
 have h1:=iV hd
 have h2:=nI hd
 have h3:lB (eO l)=true:=decide_eq_true (by omega)
 rw[if_pos h3]
 omega
theorem GD {l:List Rat}{t i n:Nat}(hs:∀q∈l,Sz 1000 q) (hi:i<n) (hn:l.length=n):(dg 4294967296 (aV (dY l t) i).natAbs).length≤300000000000:=by
 subst hn
 rw[lJ hi]
 have h1:=nF (aF l i)
 have h2:=(hs _ (dM hi)).1
 have h4:(dg 4294967296 (fl (aF l i)+if i∈(cA l).take t then 1 else 0).natAbs).length≤1002:=by
  have h5:=iD (fl (aF l i)) (if i∈(cA l).take t then 1 else 0)
  have h6:(dg 4294967296 (if i∈(cA l).take t then(1:Int)else 0).natAbs).length≤1:=by split <;> decide
  omega
 omega
theorem Di {xs:List Fr4}{tot:Int}(hx:∀x∈xs,x.ok) (hz:∀x∈xs,Sz 1000 x.q) (hz9:∀q∈(xs.map Fr4.q),Sz 1000 q) (hl:xs.length≤12) (hl9:(xs.map Fr4.q).length≤12) (hden:(aC (xs.map Fr4.q)).den=1) (htot:tot=(aC (xs.map Fr4.q)).num):aD false Tryz.prog 53 [] [.agg [.t (sQ false xs)],kF tot] (aO (.one (.t (zI 24 (aQ (eB (xs.map Fr4.q))))))):=by
 refine bP Tryz.func53 rfl Tryz.ntmps53 rfl aA rfl fun N9 w9 c0 h0=>?_
 have hll:(xs.map Fr4.q).length=xs.length:=List.length_map ..
 have hfl9:(aQ ((xs.map Fr4.q).map fl)).length=xs.length:=by simp[aQ]
 have hlf0:=iV hden
 have hlf1:=nI hden
 have hzf:∀a∈aQ ((xs.map Fr4.q).map fl),ZL 1001 a:=GC fun q hq=>(by obtain⟨x,hx9,rfl⟩:=List.mem_map.1 hq;exact hz x hx9)
 have hT:=CH (by rw[hfl9];omega) hzf hden hz9 hl9 htot
 have hT2:=CI (by rw[hfl9];omega) hzf hden hz9 hl9 htot
 refine sq ?_;refine rl ?_;refine bx 0 ?_;refine bx 1 ?_;refine o1 ?_;refine nl ?_;refine sq ?_;refine rl ?_;refine o1 ?_;refine nl ?_;refine sq ?_;refine rl ?_;refine o1 ?_;refine nl ?_
 refine sq ?_;refine sq ?_;refine rl ?_;refine o1 ?_;refine ld ?_;refine o1 ?_;refine o1 ?_;refine nl ?_;refine bl ?_
 refine lp (γ:=Nat) (fun k=>cG [(2,.one (.pt 0 0)),(3,.one (.pt 1 0)),(14,.one (.t (sQ false xs))),(15,.one (tv (.int .i64 ((xs.length:Nat):Int)))),(5,.one (.sl 2 0 (k))),(6,.one (.sl 3 0 (k))),(16,.one (tv (.int .i64 ((k:Nat):Int))))]) (fun k=>[(⟨42,0,[.t (sQ false xs)]⟩:Ob),⟨24,0,[tv (.bool (aG (tot))),.t (sU false (dg 4294967296 (tot).natAbs))]⟩,⟨24,2,eK (aQ (((xs.map Fr4.q).map fl).take k))⟩,⟨3,1,(cK (List.range k)).map .t⟩].map some) (fun k=>k≤xs.length) (fun k=>xs.length-k) 0 (Nat.zero_le _) (((nr (i:=5) 2 24 2 rfl rfl rfl rfl).trans (nr (i:=6) 3 3 1 rfl rfl rfl rfl)).trans (aH h0 [0,1,2,3] _ _ (by decide) ⟨rfl,rfl,rfl,rfl,rfl,rfl,rfl,trivial⟩ ⟨oe rfl rfl,oe rfl rfl,bI rfl,bI rfl,rfl⟩)) fun k hk=>?_
 refine sq ?_;refine rl ?_;refine o1 ?_;refine nl ?_;refine sq ?_;refine bO rfl (fun h1=>?_) (fun h1=>?_)
 ·refine sk ?_;refine sq ?_;refine bl ?_;refine sq ?_;refine rl ?_;refine o1 ?_;refine o1 ?_;refine fB ((aN xs (k)).tr false) (eE xs (k:=k) (by omega)) ?_
  refine al 4 ?_;refine o1 ?_;refine st ?_;refine nl ?_;refine rl ?_;refine o1 ?_;refine ld ?_;refine fS 5 (Bc ⟨hx _ (aT (by omega)),rfl⟩) Vq ⟨aB rfl,rfl⟩ ?_
  refine bs 6 ?_
  refine dV (j:=7) (n:=k) (m:=1) aA rfl rfl rfl rfl (.sl rfl (by rw[jE,cM,List.length_take,List.length_map,hll,Nat.min_eq_left (by omega)])) (.sl rfl rfl rfl) rfl rfl rfl (by omega) (by omega) ?_
  refine WL.sub (PA (j:=7) (k1:=5) (e:=24) (ws:=aQ (((xs.map Fr4.q).map fl).take k)) (z:=.of (fl (aN xs (k)).q)) rfl rfl rfl) ?_;refine o1 ?_;refine o1 ?_;refine bs 8 ?_
  refine dV (j:=9) (n:=k) (m:=1) aA rfl rfl rfl rfl (.sl rfl (by rw[List.length_map,gB,List.length_range,Nat.mul_one])) (.sl rfl rfl rfl) rfl rfl rfl (by omega) (by omega) ?_
  refine o1 ?_;refine o1 ?_;refine nl ?_;refine rl ?_;refine o1 ?_;refine WL.cast (t:=30) (u':=.int .i64 ((k+1:Nat):Int)) rfl (aJ (by omega)) ?_
  refine o1 ?_;refine nl ?_
  have hst:aQ (((xs.map Fr4.q).map fl).take k)++[Zi.of (fl (aN xs (k)).q)]=aQ (((xs.map Fr4.q).map fl).take (k+1)):=by rw[Gd,pS (by rw[List.length_map,hll];omega),Rn (by omega)]
  exact⟨k+1,by omega,by omega,aH h0 [0,1,7,9] _ _ (by decide) ⟨rfl,rfl,rfl,rfl,rfl,rfl,rfl,trivial⟩ ⟨oe rfl rfl,oe rfl rfl,bI (congrArg (fun l=>some (⟨24,2,eK l⟩:Ob)) hst),lM rfl (gC (List.range k) [k]) List.range_succ.symm,rfl⟩⟩
 refine ex ?_;refine sq ?_;have hk9:k=xs.length:=by omega
 have hfk:((xs.map Fr4.q).map fl).take k=((xs.map Fr4.q).map fl):=List.take_of_length_le (by rw[List.length_map,hll];omega)
 refine WP.sub (PB (i:=2) (k:=0) (t:=42) (l:=[sQ false xs]) rfl rfl rfl (.one .sl)) ?_;refine rl ?_;refine o1 ?_;refine o1 ?_
 refine cl 4 [3] (CF (xs:=List.range k) (n:=k) (m:=xs.length) (cf:=Be (fG (xs.map Fr4.q))) (lt:=fQ (fG (xs.map Fr4.q))) (fst:=[]) (caps:=[.p false 42 [sQ false xs]]) List.length_range NA (fun x y h1 h2=>KP hx hz hl h1 h2) (BU _) (fun z h=>by have:=List.mem_range.1 h;omega) (by omega)) NB ⟨bI rfl,rfl⟩ ⟨rfl,rfl,rfl⟩ (ok:=[some ⟨3,1,(cK (iW (fQ (fG (xs.map Fr4.q))) (List.range k))).map .t⟩]) ⟨bI rfl,rfl⟩ ?_
 refine nl ?_;refine sq ?_;have hordl:(cA (xs.map Fr4.q)).length=xs.length:=by unfold cA;rw[hF,hll]
 have hord:iW (fQ (fG (xs.map Fr4.q))) (List.range k)=(cA (xs.map Fr4.q)):=by unfold cA fA;rw[hll,hk9]
 refine WP.sub (aH h0 [1,2,3] [(3,.one (.pt 0 0)),(5,.one (.sl 1 0 (xs.length))),(6,.one (.sl 2 0 (xs.length)))] [(⟨24,0,[tv (.bool (aG (tot))),.t (sU false (dg 4294967296 (tot).natAbs))]⟩:Ob),⟨24,2,eK (aQ ((xs.map Fr4.q).map fl))⟩,⟨3,1,(cK (cA (xs.map Fr4.q))).map .t⟩] (by decide) ⟨rfl,FY hk9,FY hk9,trivial⟩ ⟨oe rfl rfl,bI (congrArg (fun l=>some (⟨24,2,eK (aQ l)⟩:Ob)) hfk),bI (congrArg (fun l:List Nat=>some (⟨3,1,(cK l).map .t⟩:Ob)) hord),rfl⟩) ?_
 refine rd [0] (fun i=>[9].contains i) mixed ?_
 refine aX 0 ?_;refine dv 1 ?_
 refine aK 2 rfl (GB (zs:=aQ ((xs.map Fr4.q).map fl)) (n:=xs.length) (L:=1001) (by simp[aQ]) hzf (by omega) (by rw[hfl9];omega)) GF ⟨rG rfl (.sr rfl rfl (Rm _) (by rw[bQ (dQ true),hfl9]) (oB _)),rfl⟩ (kF (cR (aQ ((xs.map Fr4.q).map fl)))) ?_
 refine aK 3 rfl (Zl (Zg.of (k:=tot) hT.1) (Zg.of (k:=(cR (aQ ((xs.map Fr4.q).map fl)))) hT.2)) GG ⟨aB rfl,aB rfl,rfl⟩ (kF (tot-(cR (aQ ((xs.map Fr4.q).map fl))))) ?_
 refine aK 4 rfl (Ga (Zn.of (k:=(tot-(cR (aQ ((xs.map Fr4.q).map fl))))) hT2)) GH ⟨aB rfl,rfl⟩ (.tup [.one (tv (.int .i64 (if lB (tot-(cR (aQ ((xs.map Fr4.q).map fl))))then(tot-(cR (aQ ((xs.map Fr4.q).map fl))))else 0))),.one (tv (.bool (lB (tot-(cR (aQ ((xs.map Fr4.q).map fl)))))))]) ?_
 refine df 5 ?_;refine df 6 ?_;refine WD.cast (t:=40) (u':=.int .i64 (((eO (xs.map Fr4.q)).toNat:Nat):Int)) rfl (aJ (KQ (by rw[hfl9];omega) hden htot hl9)) ?_
 refine df 7 ?_;refine dH 8 (by kernel_rfl) rfl rfl aA rfl (by trivial) ?_ (fun h=>by first | rfl | cases h)
 refine dH 9 (by kernel_rfl) rfl rfl aA rfl (by trivial) ?_ (fun h=>by first | rfl | cases h)
 refine aR ?_;refine sq ?_;refine sq ?_;refine rl ?_;(iterate 5 refine o1 ?_);refine nl ?_;refine bl ?_
 have hinc0:aQ ((xs.map Fr4.q).map fl)=aQ (dY (xs.map Fr4.q) (0)):=by rw[yE]
 refine lp (γ:=Nat) (fun t=>cG [(5,.one (.sl 0 0 (xs.length))),(44,.one (.sl 1 0 ((eO (xs.map Fr4.q)).toNat))),(45,.one (tv (.int .i64 (((eO (xs.map Fr4.q)).toNat:Nat):Int)))),(46,.one (tv (.int .i64 ((t:Nat):Int))))]) (fun t=>[(⟨24,2,eK (aQ (dY (xs.map Fr4.q) (t)))⟩:Ob),⟨3,1,(cK (cA (xs.map Fr4.q))).map .t⟩].map some) (fun t=>t≤(eO (xs.map Fr4.q)).toNat) (fun t=>(eO (xs.map Fr4.q)).toNat-t) 0 (Nat.zero_le _) (aH h0 [1,2] _ _ (by decide) ⟨rfl,rfl,rfl,rfl,trivial⟩ ⟨bI (congrArg (fun l=>some (⟨24,2,eK l⟩:Ob)) hinc0),bI rfl,rfl⟩) fun t ht=>?_
 refine sq ?_;refine rl ?_;refine o1 ?_;refine nl ?_;refine sq ?_;refine bO rfl (fun h2=>?_) (fun h2=>?_)
 ·refine sk ?_;refine sq ?_;refine bl ?_;refine sq ?_;refine rl ?_;refine o1 ?_;refine Lh (kP (cA (xs.map Fr4.q)) (k:=t) (by omega)) ?_
  refine o1 ?_;refine nl ?_
  have hlt9:(nth (cA (xs.map Fr4.q)) (t))<xs.length:=by have h9:(nth (cA (xs.map Fr4.q)) (t))<(xs.map Fr4.q).length:=oV (f:=fG (xs.map Fr4.q)) (n:=(xs.map Fr4.q).length) (t:=t) (by rw[hll];omega);rwa[hll]at h9
  have hw9:(nth (cA (xs.map Fr4.q)) (t))<(aQ (dY (xs.map Fr4.q) (t))).length:=by rw[cM,iL,hll];exact hlt9
  have hz9k:fI (aQ (dY (xs.map Fr4.q) (t))) (nth (cA (xs.map Fr4.q)) (t))=.of (aV (dY (xs.map Fr4.q) (t)) (nth (cA (xs.map Fr4.q)) (t))):=oK (by rw[iL,hll];exact hlt9)
  have hK0:=GD (t:=t) hz9 hlt9 (by rw[hll])
  refine WP.sub (GI (j:=0) (key:=2) (e:=24) (ws:=(aQ (dY (xs.map Fr4.q) (t)))) (i:=(nth (cA (xs.map Fr4.q)) (t))) (z:=.of (aV (dY (xs.map Fr4.q) (t)) (nth (cA (xs.map Fr4.q)) (t)))) rfl rfl hw9 hz9k) ?_
  refine rd [0] (fun i=>[9].contains i) mixed ?_
  refine dv 0 ?_;refine dv 1 ?_;refine dv 2 ?_;refine dv 3 ?_;refine dv 4 ?_
  refine Om 5 (us:=[tv (.bool (aG (aV (dY (xs.map Fr4.q) (t)) (nth (cA (xs.map Fr4.q)) (t))))),.sl 2 0 (dg 4294967296 ((aV (dY (xs.map Fr4.q) (t)) (nth (cA (xs.map Fr4.q)) (t)))).natAbs).length]) (Rp (z:=.of (aV (dY (xs.map Fr4.q) (t)) (nth (cA (xs.map Fr4.q)) (t)))) hw9 hz9k) ?_
  refine aK 6 rfl (gI (n:=1) (by omega) (by omega)) gJ ⟨a1 rfl,rfl⟩ (kF 1) ?_
  refine jJ 3 7 rfl (El (Zg.of (k:=(aV (dY (xs.map Fr4.q) (t)) (nth (cA (xs.map Fr4.q)) (t)))) hK0) (Zg.of (k:=1) (by decide))) Ol ⟨mI rfl (.cons .t (.cons (.sl rfl rfl (Kx _) (bB _)) .nil)),aB rfl,rfl⟩ ?_
  refine dv 8 ?_;refine Fx 9 (Bk hw9) (Rq hw9) ?_;refine aR ?_
  refine WP.sub (MK (j:=0) (k1:=3) (e:=24) (ws:=(aQ (dY (xs.map Fr4.q) (t)))) (i:=(nth (cA (xs.map Fr4.q)) (t))) (z:=.of ((aV (dY (xs.map Fr4.q) (t)) (nth (cA (xs.map Fr4.q)) (t)))+1)) rfl hw9 rfl rfl) ?_
  refine rl ?_;refine o1 ?_;refine WL.cast (t:=59) (u':=.int .i64 ((t+1:Nat):Int)) rfl (aJ (by omega)) ?_
  refine o1 ?_;refine nl ?_
  have hst:(aQ (dY (xs.map Fr4.q) (t))).set (nth (cA (xs.map Fr4.q)) (t)) (.of ((aV (dY (xs.map Fr4.q) (t)) (nth (cA (xs.map Fr4.q)) (t)))+1))=aQ (dY (xs.map Fr4.q) (t+1)):=by rw[wE,yF (by rw[hll];omega)]
  exact⟨t+1,by omega,by omega,aH h0 [0,1] _ _ (by decide) ⟨rfl,rfl,rfl,rfl,trivial⟩ ⟨bI (congrArg (fun l=>some (⟨24,2,eK l⟩:Ob)) hst),bI rfl,rfl⟩⟩
 refine ex ?_;refine sq ?_;refine rl ?_;refine o1 ?_;refine o1 ?_;refine nl ?_;refine rt ?_
 have ht9:aQ (dY (xs.map Fr4.q) (t))=aQ (eB (xs.map Fr4.q)):=by rw[eB,show t=(eO (xs.map Fr4.q)).toNat by omega]
 have hl5:(aQ (eB (xs.map Fr4.q))).length=xs.length:=by rw[cM,oI,hll]
 exact en (.inl rfl) rfl (aW (.one (.sl (trs:=(aQ (eB (xs.map Fr4.q))).flatMap (cB true)) rfl rfl (by rw[ht9,←hl5];exact pC _) (by rw[bQ (dQ true),hl5])))) (by decide) (fun h=>by cases h) (by unfold zI;rw[hl5];rfl)
theorem Rr {xs:List Fr4}(hx:∀x∈xs,x.ok) (hl:xs.length≤1073741823):aD true Tryz.prog 49 [] [.one (.t (sQ false xs))] (aO (.one (tv (.bool (!(xs.any nA)))))):=by
 refine bP Tryz.func49 rfl Tryz.ntmps49 rfl aA rfl fun N9 w9 c0 h0=>?_
 refine sq ?_;refine rl ?_;refine o1 ?_;refine nl ?_;refine sq ?_;refine rl ?_;refine o1 ?_
 refine ca (Re (dl:=nA) (fst:=[]) (caps:=[]) NC (fun x h=>Oh ⟨hx x h,rfl⟩) hl) FW ⟨a1 rfl,a1 rfl,rfl⟩ (.one (tv (.bool (xs.any nA)))) ?_
 refine o1 ?_;refine o1 ?_;refine nl ?_;refine rt ?_;exact lL (.inl rfl) rfl (rfl)
theorem zJ {p:Rat}(hp:Sz 68719476736 p):aD true Tryz.prog 49 [] [.one (.t (sQ false [Fr4.of p]))] (aO (.one (tv (.bool (decide (p.den=1)))))):=by
 have h:=Rr (xs:=[Fr4.of p]) (fun x hx=>by rw[List.mem_singleton]at hx;subst hx;exact(Qn.of hp).1) (by simp)
 have e:(!([Fr4.of p].any nA))=decide (p.den=1):=by
  rw[List.any_cons,List.any_nil,Bool.or_false,Vg p (Dj p),Bool.not_not]
 rwa[e]at h
theorem Vr {l:List Rat}{n:Nat}(hn:l.length=n) (hz:∀q∈l,Sz 1000 q) (hl:l.length≤1073741823):aD true Tryz.prog 51 [] [.agg [.t (.s false 50 4 n (l.flatMap cD))]] (aO (.one (tv (.bool (l.any fun x=>decide (x<0)))))):=by
 have h:=Bg (xs:=dS l) (pA hz (by omega)) (by rw[gZ];exact hl)
 rwa[BJ,wA hn]at h
theorem Rs {xs:List Fr4}(hx:∀x∈xs,x.ok) (hz:∀x∈xs,Sz 1000 x.q) (hl:xs.length≤12) (hpos:¬(aC (xs.map Fr4.q))<0):aD false Tryz.prog 17 [] [.agg [.t (sQ false xs)]] (aO (.one (.t (zI 24 (aQ (aU (xs.map Fr4.q))))))):=by
 refine Fq Tryz.func17 rfl Tryz.ntmps17 rfl aA rfl fun N9 w9 c0 h0=>?_
 have hll:(xs.map Fr4.q).length≤12:=by rw[List.length_map];exact hl
 have hzl:∀q∈(xs.map Fr4.q),Sz 1000 q:=fun q hq=>(by obtain⟨x,h9,rfl⟩:=List.mem_map.1 hq;exact hz x h9)
 have hzn:∀q∈(cV (xs.map Fr4.q)),Sz 1000 q:=fun q hq=>(by obtain⟨p,h9,rfl⟩:=List.mem_map.1 hq;exact kI (hzl p h9))
 have hsz:Sz 20000 (aC (xs.map Fr4.q)):=(pX hzl).mono (by have:=Nat.mul_le_mul hll (Nat.le_refl 1001);omega)
 refine sq ?_;refine rl ?_;refine bx 0 ?_;refine o1 ?_;refine nl ?_;refine sq ?_;refine rl ?_;refine o1 ?_;refine ld ?_
 refine ca (Zd (B:=1000) (by omega) hx hz (by omega)) yD ⟨a1 rfl,rfl⟩ (qF (.of (aC (xs.map Fr4.q)))) ?_
 refine al 1 ?_;refine st ?_;refine nl ?_;refine sq ?_;refine bl ?_;refine sq ?_;refine rl ?_;refine ld ?_;refine bs 2 ?_
 refine WL.sub (Ru (i:=12) (k:=2) (t:=48) (z:=4) (n:=1) (l:=[Fr4.of (aC (xs.map Fr4.q))].flatMap (Fr4.tr false)) 50 rfl rfl rfl rfl (.one .sl)) ?_
 refine ca (zJ (p:=(aC (xs.map Fr4.q))) (hsz.mono (by omega))) GJ ⟨a1 rfl,rfl⟩ (.one (tv (.bool (decide ((aC (xs.map Fr4.q)).den=1))))) ?_
 refine WL.splitb (t:=13) rfl (fun h1=>?_) (fun h1=>?_)
 ·refine o1 ?_;refine o1 ?_;refine nl ?_;refine eZ rfl ?_;refine sq ?_;have hden:(aC (xs.map Fr4.q)).den=1:=of_decide_eq_true h1
  refine rl ?_;refine ld ?_;refine ca (rE (Qn.of (p:=(aC (xs.map Fr4.q))) hsz)) Bf ⟨aB rfl,rfl⟩ (.one (tv (.int .i64 (aC (xs.map Fr4.q)).num.sign))) ?_;refine o1 ?_;refine o1 ?_
  refine nl ?_;refine bO rfl (fun h2=>?_) (fun h2=>?_)
  ·exact absurd (lC.1 h2) hpos
  refine sq ?_;have hS0:¬(aC (xs.map Fr4.q))<0:=fun h=>h2 (lC.2 h)
  refine rl ?_;refine ld ?_;refine ca (Bg hx (by omega)) Vs ⟨mI rfl (.cons .t .nil),rfl⟩ (.one (tv (.bool (xs.any fun x=>decide (x.q<0))))) ?_
  refine o1 ?_;refine nl ?_;refine xE rfl (fun h3=>?_) (fun h3=>?_)
  ·refine sq ?_;refine rl ?_;refine o1 ?_;refine nl ?_;refine rt ?_;have hres:aU (xs.map Fr4.q)=[]:=xT hden hS0 (by rw[List.any_map];exact h3)
   refine xD (nr (i:=2) 3 24 2 rfl rfl rfl rfl) ?_;exact iK <| en (.inl rfl) rfl (aW (.one (.sl (trs:=[]) rfl rfl rfl rfl))) (by decide) (fun h=>by cases h) (by rw[hres];rfl)
  refine sk ?_;refine sq ?_;have h40:=h3
  refine rd [0,1] (fun i=>[4].contains i) mixed ?_
  refine aX 0 ?_;refine aX 1 ?_;refine aK 2 rfl (Bc (Qn.of (p:=(aC (xs.map Fr4.q))) hsz)) Vq ⟨aB rfl,rfl⟩ (kF (fl (aC (xs.map Fr4.q)))) ?_
  refine jJ 3 3 rfl (Di (tot:=fl (aC (xs.map Fr4.q))) hx hz hzl hl hll hden (Fm hden)) GK ⟨mI rfl (.cons .t .nil),aB rfl,rfl⟩ ?_
  refine dH 4 (by kernel_rfl) rfl rfl aA rfl (by trivial) ?_ (fun h=>by first | rfl | cases h)
  refine aR ?_;refine rt ?_;have hres:aU (xs.map Fr4.q)=eB (xs.map Fr4.q):=sJ hden hS0 (by rw[List.any_map];exact h40)
  exact iK <| en (.inl rfl) rfl (aW (.one (.sl (trs:=(aQ (eB (xs.map Fr4.q))).flatMap (cB true)) rfl rfl (pC _) (bQ (dQ true) _)))) (by decide) (fun h=>by cases h) (by rw[hres];rfl)
 refine o1 ?_;refine o1 ?_;refine nl ?_;refine kM rfl ?_;refine sq ?_;have hfr:(aC (xs.map Fr4.q)).den≠1:=of_decide_eq_false h1
 refine rl ?_;refine o1 ?_;refine nl ?_;refine rt ?_;have hres:aU (xs.map Fr4.q)=[]:=xS hfr
 refine xD (nr (i:=2) 3 24 2 rfl rfl rfl rfl) ?_;exact iK <| en (.inl rfl) rfl (aW (.one (.sl (trs:=[]) rfl rfl rfl rfl))) (by decide) (fun h=>by cases h) (by rw[hres];rfl)
theorem Vt {l:List Rat}{n:Nat}(hn:l.length=n) (hz:∀q∈l,Sz 1000 q) (hl:l.length≤12) (hpos:¬aC l<0):aD false Tryz.prog 17 [] [.agg [.t (.s false 50 4 n (l.flatMap cD))]] (aO (.one (.t (zI 24 (aQ (aU l)))))):=by
 have h:=Rs (xs:=dS l) (pA hz (by omega)) (rF hz) (by rw[gZ];exact hl) (by rw[sP];exact hpos)
 rwa[sP,wA hn]at h
theorem Li {xs:List Fr4}(hx:∀x∈xs,x.ok) (hz:∀x∈xs,Sz 1000 x.q) (hl:xs.length≤12):aD false Tryz.prog 17 [] [.agg [.t (sQ false xs)]] (aO (.one (.t (zI 24 (aQ (aU (xs.map Fr4.q))))))):=by
 refine Fq Tryz.func17 rfl Tryz.ntmps17 rfl aA rfl fun N9 w9 c0 h0=>?_
 have hll:(xs.map Fr4.q).length≤12:=by rw[List.length_map];exact hl
 have hzl:∀q∈(xs.map Fr4.q),Sz 1000 q:=fun q hq=>(by obtain⟨x,h9,rfl⟩:=List.mem_map.1 hq;exact hz x h9)
 have hzn:∀q∈(cV (xs.map Fr4.q)),Sz 1000 q:=fun q hq=>(by obtain⟨p,h9,rfl⟩:=List.mem_map.1 hq;exact kI (hzl p h9))
 have hsz:Sz 20000 (aC (xs.map Fr4.q)):=(pX hzl).mono (by have:=Nat.mul_le_mul hll (Nat.le_refl 1001);omega)
 refine sq ?_;refine rl ?_;refine bx 0 ?_;refine o1 ?_;refine nl ?_;refine sq ?_;refine rl ?_;refine o1 ?_;refine ld ?_
 refine ca (Zd (B:=1000) (by omega) hx hz (by omega)) yD ⟨a1 rfl,rfl⟩ (qF (.of (aC (xs.map Fr4.q)))) ?_
 refine al 1 ?_;refine st ?_;refine nl ?_;refine sq ?_;refine bl ?_;refine sq ?_;refine rl ?_;refine ld ?_;refine bs 2 ?_
 refine WL.sub (Ru (i:=12) (k:=2) (t:=48) (z:=4) (n:=1) (l:=[Fr4.of (aC (xs.map Fr4.q))].flatMap (Fr4.tr false)) 50 rfl rfl rfl rfl (.one .sl)) ?_
 refine ca (zJ (p:=(aC (xs.map Fr4.q))) (hsz.mono (by omega))) GJ ⟨a1 rfl,rfl⟩ (.one (tv (.bool (decide ((aC (xs.map Fr4.q)).den=1))))) ?_
 refine WL.splitb (t:=13) rfl (fun h1=>?_) (fun h1=>?_)
 ·refine o1 ?_;refine o1 ?_;refine nl ?_;refine eZ rfl ?_;refine sq ?_;have hden:(aC (xs.map Fr4.q)).den=1:=of_decide_eq_true h1
  refine rl ?_;refine ld ?_;refine ca (rE (Qn.of (p:=(aC (xs.map Fr4.q))) hsz)) Bf ⟨aB rfl,rfl⟩ (.one (tv (.int .i64 (aC (xs.map Fr4.q)).num.sign))) ?_;refine o1 ?_;refine o1 ?_
  refine nl ?_;refine bO rfl (fun h2=>?_) (fun h2=>?_)
  ·refine sq ?_;have hS0:(aC (xs.map Fr4.q))<0:=lC.1 h2
   refine rl ?_;refine ld ?_
   refine ca (Vn hx (by omega)) ND ⟨mI rfl (.cons .t .nil),rfl⟩ (.agg [.t (.s false 48 4 (xs.map fun x=>-x.q).length ((xs.map fun x=>-x.q).flatMap cD))]) ?_
   refine WL.sub (MI (i:=20) (t':=50) rfl rfl) ?_;have e20:(xs.map fun x=>-x.q)=(cV (xs.map Fr4.q)):=by unfold cV;rw[List.map_map];rfl
   rw[e20];refine al 3 ?_;refine st ?_;refine nl ?_;refine sq ?_;refine sq ?_;refine rl ?_;refine ld ?_
   refine ca (Vr (l:=(cV (xs.map Fr4.q))) (n:=(cV (xs.map Fr4.q)).length) rfl hzn (by rw[kW,List.length_map];omega)) Vs ⟨mI rfl (.cons .t .nil),rfl⟩ (.one (tv (.bool ((cV (xs.map Fr4.q)).any fun x=>decide (x<0))))) ?_
   refine nl ?_;refine xE rfl (fun h3=>?_) (fun h3=>?_)
   ·refine sq ?_;refine rl ?_;refine o1 ?_;refine nl ?_;refine rt ?_;have hres:aU (xs.map Fr4.q)=[]:=Fg hden hS0 h3
    refine xD (nr (i:=2) 4 24 2 rfl rfl rfl rfl) ?_;exact iK <| en (.inl rfl) rfl (aW (.one (.sl (trs:=[]) rfl rfl rfl rfl))) (by decide) (fun h=>by cases h) (by rw[hres];rfl)
   refine sk ?_;refine sq ?_;have h22:=h3
   refine rl ?_;refine ld ?_
   refine fS 4 (Vt (l:=(cV (xs.map Fr4.q))) (n:=(cV (xs.map Fr4.q)).length) rfl hzn (by rw[kW,List.length_map];omega) (Fh hS0)) Vu ⟨mI rfl (.cons .t .nil),rfl⟩ ?_
   refine o1 ?_;refine nl ?_;refine sq ?_;refine sq ?_;refine rl ?_;(iterate 3 refine o1 ?_);refine nl ?_;refine bl ?_
   refine lp (γ:=Nat) (fun t=>cG [(5,.one (.sl 0 0 ((aQ (aU (cV (xs.map Fr4.q)))).length))),(26,.one (tv (.int .i64 (((aQ (aU (cV (xs.map Fr4.q)))).length:Nat):Int)))),(27,.one (tv (.int .i64 ((t:Nat):Int))))]) (fun t=>[(⟨24,2,eK (aQ (iI (fun x=>-x) (aU (cV (xs.map Fr4.q))) (t)))⟩:Ob)].map some) (fun t=>t≤(aQ (aU (cV (xs.map Fr4.q)))).length) (fun t=>(aQ (aU (cV (xs.map Fr4.q)))).length-t) 0 (Nat.zero_le _) (aH h0 [4] _ _ (by decide) ⟨rfl,rfl,rfl,trivial⟩ ⟨bI rfl,rfl⟩) fun t ht=>?_
   refine sq ?_;refine rl ?_;refine o1 ?_;refine nl ?_;refine sq ?_;refine bO rfl (fun h4=>?_) (fun h4=>?_)
   ·refine sk ?_;refine sq ?_;refine bl ?_;refine sq ?_;refine rl ?_;refine o1 ?_;refine o1 ?_;refine nl ?_
    have hw12:(aU (cV (xs.map Fr4.q))).length≤12:=Nat.le_trans xU (by rw[kW];exact hll)
    have hw7:(aQ (aU (cV (xs.map Fr4.q)))).length=(aU (cV (xs.map Fr4.q))).length:=cM _
    have hw8:t<(aU (cV (xs.map Fr4.q))).length:=by omega
    have hw9:t<(aQ (iI (fun x=>-x) (aU (cV (xs.map Fr4.q))) (t))).length:=by rw[cM,mN];exact hw8
    have hz9k:fI (aQ (iI (fun x=>-x) (aU (cV (xs.map Fr4.q))) (t))) t=.of (aV (aU (cV (xs.map Fr4.q))) t):=(oK (by rw[mN];exact hw8)).trans (by rw[Ki hw8])
    have hK0:=Nat.le_trans (vY hzn _ (iF hw8)) (show 1000+2≤300000000000 by omega)
    refine WP.sub (GI (j:=0) (key:=1) (e:=24) (ws:=(aQ (iI (fun x=>-x) (aU (cV (xs.map Fr4.q))) (t)))) (i:=t) (z:=.of (aV (aU (cV (xs.map Fr4.q))) t)) rfl rfl hw9 hz9k) ?_
    refine rl ?_;(iterate 5 refine o1 ?_)
    refine FZ (us:=[tv (.bool (aG (aV (aU (cV (xs.map Fr4.q))) t))),.sl 1 0 (dg 4294967296 ((aV (aU (cV (xs.map Fr4.q))) t)).natAbs).length]) (Rp (z:=.of (aV (aU (cV (xs.map Fr4.q))) t)) hw9 hz9k) ?_
    refine fS 2 (On (Zg.of (k:=(aV (aU (cV (xs.map Fr4.q))) t)) hK0)) Vv ⟨mI rfl (.cons .t (.cons (.sl rfl rfl (Kx _) (bB _)) .nil)),rfl⟩ ?_;refine o1 ?_
    refine rH (Bk hw9) (Rq hw9) ?_;refine nl ?_
    refine WP.sub (MK (j:=0) (k1:=2) (e:=24) (ws:=(aQ (iI (fun x=>-x) (aU (cV (xs.map Fr4.q))) (t)))) (i:=t) (z:=.of (-((aV (aU (cV (xs.map Fr4.q))) t)))) rfl hw9 rfl rfl) ?_
    refine rl ?_;refine o1 ?_;refine WL.cast (t:=38) (u':=.int .i64 ((t+1:Nat):Int)) rfl (aJ (by omega)) ?_
    refine o1 ?_;refine nl ?_
    have hst:(aQ (iI (fun x=>-x) (aU (cV (xs.map Fr4.q))) (t))).set t (.of (-((aV (aU (cV (xs.map Fr4.q))) t))))=aQ (iI (fun x=>-x) (aU (cV (xs.map Fr4.q))) (t+1)):=by rw[wE,←Yy hw8]
    exact⟨t+1,by omega,by omega,aH h0 [0] _ _ (by decide) ⟨rfl,rfl,rfl,trivial⟩ ⟨bI (congrArg (fun l=>some (⟨24,2,eK l⟩:Ob)) hst),rfl⟩⟩
   refine ex ?_;refine sq ?_;refine rl ?_;refine o1 ?_;refine o1 ?_;refine nl ?_;refine rt ?_
   have hres:(iI (fun x=>-x) (aU (cV (xs.map Fr4.q))) (t))=aU (xs.map Fr4.q):=by rw[Kj (by rw[←cM];omega),Nz hden hS0 h22]
   have hl5:(aQ (aU (cV (xs.map Fr4.q)))).length=(aQ (aU (xs.map Fr4.q))).length:=by rw[←hres,cM,cM,mN]
   exact iK <| en (.inl rfl) rfl (aW (.one (.sl (trs:=(aQ (aU (xs.map Fr4.q))).flatMap (cB true)) rfl rfl (by rw[hres,hl5];exact pC _) (by rw[bQ (dQ true),hl5])))) (by decide) (fun h=>by cases h) (by unfold zI;rw[hl5];rfl)
  refine sq ?_;have hS0:¬(aC (xs.map Fr4.q))<0:=fun h=>h2 (lC.2 h)
  refine rl ?_;refine ld ?_;refine ca (Bg hx (by omega)) Vs ⟨mI rfl (.cons .t .nil),rfl⟩ (.one (tv (.bool (xs.any fun x=>decide (x.q<0))))) ?_
  refine o1 ?_;refine nl ?_;refine xE rfl (fun h5=>?_) (fun h5=>?_)
  ·refine sq ?_;refine rl ?_;refine o1 ?_;refine nl ?_;refine rt ?_;have hres:aU (xs.map Fr4.q)=[]:=xT hden hS0 (by rw[List.any_map];exact h5)
   refine xD (nr (i:=2) 3 24 2 rfl rfl rfl rfl) ?_;exact iK <| en (.inl rfl) rfl (aW (.one (.sl (trs:=[]) rfl rfl rfl rfl))) (by decide) (fun h=>by cases h) (by rw[hres];rfl)
  refine sk ?_;refine sq ?_;have h40:=h5
  refine rd [0,1] (fun i=>[4].contains i) mixed ?_
  refine aX 0 ?_;refine aX 1 ?_;refine aK 2 rfl (Bc (Qn.of (p:=(aC (xs.map Fr4.q))) hsz)) Vq ⟨aB rfl,rfl⟩ (kF (fl (aC (xs.map Fr4.q)))) ?_
  refine jJ 3 3 rfl (Di (tot:=fl (aC (xs.map Fr4.q))) hx hz hzl hl hll hden (Fm hden)) GK ⟨mI rfl (.cons .t .nil),aB rfl,rfl⟩ ?_
  refine dH 4 (by kernel_rfl) rfl rfl aA rfl (by trivial) ?_ (fun h=>by first | rfl | cases h)
  refine aR ?_;refine rt ?_;have hres:aU (xs.map Fr4.q)=eB (xs.map Fr4.q):=sJ hden hS0 (by rw[List.any_map];exact h40)
  exact iK <| en (.inl rfl) rfl (aW (.one (.sl (trs:=(aQ (eB (xs.map Fr4.q))).flatMap (cB true)) rfl rfl (pC _) (bQ (dQ true) _)))) (by decide) (fun h=>by cases h) (by rw[hres];rfl)
 refine o1 ?_;refine o1 ?_;refine nl ?_;refine kM rfl ?_;refine sq ?_;have hfr:(aC (xs.map Fr4.q)).den≠1:=of_decide_eq_false h1
 refine rl ?_;refine o1 ?_;refine nl ?_;refine rt ?_;have hres:aU (xs.map Fr4.q)=[]:=xS hfr
 refine xD (nr (i:=2) 3 24 2 rfl rfl rfl rfl) ?_;exact iK <| en (.inl rfl) rfl (aW (.one (.sl (trs:=[]) rfl rfl rfl rfl))) (by decide) (fun h=>by cases h) (by rw[hres];rfl)
theorem Vx {l:List Rat}{n:Nat}(hn:l.length=n) (hz:∀q∈l,Sz 1000 q) (hl:l.length≤12):aD false Tryz.prog 17 [] [.agg [.t (.s false 50 4 n (l.flatMap cD))]] (aO (.one (.t (zI 24 (aQ (aU l)))))):=by
 have h:=Li (xs:=dS l) (pA hz (by omega)) (rF hz) (by rw[gZ];exact hl)
 rwa[sP,wA hn]at h
theorem Ge {b:Int}{n:Nat}(h:jK b n≠0):b<0∨(n:Int)≤b:=by
 unfold jK at h
 split at h
 ·assumption
 exact absurd rfl h
theorem Bl:aU []=[]:=by
 have h:(aC []).den=1:=rfl
 rw[sJ h (by rw[rJ];decide) rfl]
 rfl
theorem wF {T:Rat}{b:Int}{xs:List Fr4}(hl:xs.length≤12):(aM T b (xs.map Fr4.q)).length≤12:=by
 unfold aM
 split
 ·simp
 split <;> simp <;> omega
theorem zK {k b:Int}{xs:List Fr4}(hk:jH 6 k) (hz:∀x∈xs,Sz 7 x.q) (hl:xs.length≤12):∀q∈aM (k:Rat) b (xs.map Fr4.q),Sz 1000 q:=fun q hq=>by
 have hT:Sz 7 (k:Rat):=wB (Nat.le_trans hk (by omega)) (by omega)
 have hab:∀q∈(xs.map Fr4.q).map bC,Sz 7 q:=fun q hq=>by
  rw[Bh]at hq
  obtain⟨x,hx9,rfl⟩:=List.mem_map.1 hq
  exact Bi (hz x hx9) (by omega)
 have hS:Sz 98 (aC ((xs.map Fr4.q).map bC)):=(pX hab).mono (by
  have h9:((xs.map Fr4.q).map bC).length=xs.length:=by simp
  rw[h9]
  omega)
 unfold aM at hq
 split at hq
 ·cases hq
 split at hq
 ·rcases List.mem_or_eq_of_mem_set hq with h | rfl
  ·rw[List.eq_of_mem_replicate h]
   exact(kL (z:=0) (by omega) (by omega)).mono (by omega)
  exact hT.mono (by omega)
 obtain⟨w,hw,rfl⟩:=List.mem_map.1 hq
 exact(GL (nL hT (hab _ (List.mem_map.2 ⟨w,hw,rfl⟩))) hS).mono (by omega)
theorem sS {a:Zi}{k b:Int}{xs:List Fr4}(ha:Zn a k) (hk:jH 6 k) (hx:∀x∈xs,x.ok) (hz:∀x∈xs,Sz 7 x.q) (hl:xs.length≤12):aD false Tryz.prog 13 [] [gF a,.one (tv (.int .i64 b)),.one (.t (sQ false xs))] (aO (.tup [.one (.t (zI 24 (aQ (aU (aM (k:Rat) b (xs.map Fr4.q)))))),.one (tv (.int .i64 (jK b xs.length)))])):=by
 refine Fq Tryz.func13 rfl Tryz.ntmps13 rfl aA rfl fun N9 w9 c0 h0=>?_
 refine sq ?_;refine rl ?_;refine bx 0 ?_;refine o1 ?_;refine o1 ?_;refine nl ?_;refine sq ?_;refine rl ?_;refine ld ?_;refine o1 ?_;refine o1 ?_
 refine ca (Vp ha hk hx hz hl) Vy ⟨aB rfl,a1 rfl,a1 rfl,rfl⟩ (.tup [.agg [.t (.s false 48 4 (aM (k:Rat) b (xs.map Fr4.q)).length ((aM (k:Rat) b (xs.map Fr4.q)).flatMap cD))],.one (tv (.int .i64 (jK b xs.length)))]) ?_
 refine o1 ?_;refine o1 ?_;refine WL.sub (MI (i:=15) (t':=50) rfl rfl) ?_;refine o1 ?_;refine al 1 ?_;refine st ?_;refine o1 ?_;refine nl ?_;refine sq ?_;refine sq ?_;refine rl ?_
 refine o1 ?_;refine o1 ?_;refine nl ?_;refine bO rfl (fun h1=>?_) (fun h1=>?_)
 ·refine sq ?_;refine rl ?_;(iterate 3 refine o1 ?_);refine nl ?_;refine rt ?_;have hb9:=Ge h1
  have hX:(aM (k:Rat) b (xs.map Fr4.q))=[]:=mP (by rw[List.length_map];exact hb9)
  refine xD (nr (i:=6) 2 24 2 rfl rfl rfl rfl) ?_
  exact iK <| en (.inl rfl) rfl (iJ (.cons (.one (.sl (trs:=[]) rfl rfl rfl rfl)) (.cons (cF _) .nil))) (by decide) (fun h=>by cases h) (by rw[hX,Bl];rfl)
 refine sk ?_;refine sq ?_;refine rl ?_;refine ld ?_
 refine fS 2 (Vx (l:=(aM (k:Rat) b (xs.map Fr4.q))) (n:=(aM (k:Rat) b (xs.map Fr4.q)).length) rfl (zK hk hz hl) (wF hl)) Vu ⟨mI rfl (.cons .t .nil),rfl⟩ ?_
 refine o1 ?_;refine o1 ?_;refine nl ?_;refine rt ?_;have hE0:(jK b xs.length)=0:=Decidable.byContradiction h1
 exact iK <| en (.inl rfl) rfl (iJ (.cons (.one (.sl (trs:=(aQ (aU (aM (k:Rat) b (xs.map Fr4.q)))).flatMap (cB true)) rfl rfl (pC _) (bQ (dQ true) _))) (.cons (cF _) .nil))) (by decide) (fun h=>by cases h) (by rw[hE0];rfl)
theorem Zm {zs:List Zi}{L:Nat}(hz:∀a∈zs,ZL L a) (hL:L≤1000000) (hl:zs.length≤1000000):aD true Tryz.prog 20 [] [.one (.t (sZ 24 zs))] (aO (kO (cR zs))):=by
 refine bP Tryz.func20 rfl Tryz.ntmps20 rfl aA rfl fun N9 w9 c0 h0=>?_
 refine sq ?_;refine rl ?_;refine al 0 ?_;refine nl ?_;refine sq ?_;refine rl ?_;refine o1 ?_;refine fS 1 (Ri hz hL hl) GF ⟨a1 rfl,rfl⟩ ?_;refine st ?_;refine nl ?_;refine rt ?_
 exact en (.inl rfl) rfl (aW (.agg (.cons (.id rfl) (.cons (.sl (trs:=aP (dg 4294967296 ((cR zs)).natAbs)) rfl rfl (bE _) (bB _)) .nil)))) (by decide) (fun _=>uJ _) rfl
end Go.Proofs.YthmgbcdidlkpoaaGreat
namespace Go.Proofs.YthmgbcdidlkpoaaGreat
open Go Go.RowKit Go.ChangeShapes
def Reads (P:Program) (t:TypeId) (z:Nat) (T:List Tr→Prop):Prop:=
 P.cellsOf t=z∧∀(H:Type) (enc:TypeId×Value→H) (w:World) (fuel:Nat) (cs:List Value) (x:DataW H×List MemPlace),DataW.trod enc P w 0 (fun _=>true) true fuel t cs=some x→∃l,T l∧l.length=z∧FRL w (Zo w) l cs
theorem Lj {W:World}{N:Nat→Prop}:∀{l l':List Tr}{us us':List Value},FRL W N l us→FRL W N l' us'→FRL W N (l++l') (us++us')
 | [],l',us,us',h,h'=>by simp only[FRL]at h;subst h;exact h'
 | x::l,l',u::us,us',h,h'=>by simp only[FRL,List.cons_append]at*;exact⟨h.1,Lj h.2 h'⟩
 | _::_,_,[],_,h,_=>by simp only[FRL]at h
section
variable {P:Program}{t e:TypeId}{k:IntKind}{z:Nat}{T T':List Tr→Prop}
theorem Reads.mono (h:Reads P t z T) (hi:∀l,T l→T' l):Reads P t z T':=⟨h.1,fun H enc w fuel cs x hx=>let ⟨l,a,b⟩:=h.2 H enc w fuel cs x hx;⟨l,hi l a,b⟩⟩
inductive Flds (P:Program):Nat→List Field→Nat→(List Tr→Prop)→Prop
 | nil {o:Nat}:Flds P o [] 0 (· =[])
 | cons {o z z':Nat}{f:Field}{fs:List Field}{T T':List Tr→Prop}(ho:f.offset=o) (h:Reads P f.type z T) (h':Flds P (o+z) fs z' T'):Flds P o (f::fs) (z+z') (fun l=>∃a b,l=a++b∧T a∧T' b)
theorem Flds.read {H:Type}{enc:TypeId×Value→H}{w:World}{n o:Nat}{fs:List Field}(h:Flds P o fs z T):∀{cs:List Value},o+z≤cs.length→(∀f∈fs,∃x,DataW.trod enc P w 0 (fun _=>true) true n f.type ((cs.drop f.offset).take (P.cellsOf f.type))=some x)→∃l,T l∧l.length=z∧FRL w (Zo w) l ((cs.drop o).take z):=by
 induction h with
 | nil=>exact fun _ _=>⟨[],rfl,rfl,by simp[FRL]⟩
 | @cons o z z' f fs T T' ho hr _ ih=>
  intro cs hl hf
  obtain⟨b,h1,h2,h3⟩:=ih (cs:=cs) (by omega) fun f hm=>hf f (List.mem_cons_of_mem _ hm)
  obtain⟨x,hx⟩:=hf f List.mem_cons_self
  obtain⟨a,g1,g2,g3⟩:=hr.2 H enc w n _ x hx
  rw[ho,hr.1]at g3
  refine⟨a++b,⟨a,b,rfl,g1,h1⟩,by simp[g2,h2],?_⟩
  rw[List.take_add,List.drop_drop]
  exact Lj g3 h3
end
def LimF (a:Fr4):Prop:=Lim 4294967296 a.x∧Lim 4294967296 a.y
theorem LimF.ok {a:Fr4}(h:LimF a) (h2:a.x.length≤6∧a.y.length≤6):a.ok:=⟨h.1,h.2,by omega,by omega⟩
end Go.Proofs.YthmgbcdidlkpoaaGreat
namespace Go.Proofs.YthmgbcdidlkpoaaGreat
open Go Go.RowKit
section
variable {x:Cx}{g:Nat→FV}{ob:List (Option Ob)}{Q:Post}
theorem WP.sln {c:Code}{i t z n:Nat}{o:Bool}{l:List Tr}(hlk:lk x.n g (.tmp i)=.one (.t (.s o t z n l))) (k:n≤9223372036854775807→WP x c g ob Q):WP x c g ob Q:=fun ts W hR=>by
 obtain⟨cs,hR'⟩:=hR
 have h1:=hR'.lk (.tmp i)
 rw[hlk]at h1
 simp only[bM,bY,AR,FR]at h1
 obtain⟨A,c9,_,h2,h3,_⟩:=h1
 exact k (by omega) ts W ⟨cs,hR'⟩
theorem Gf {i t t' z n:Nat}{o:Bool}{l l':List Tr}(hi:Nat.blt i x.n=true) (h:g i=.one (.t (.s o t z n l))) (hr:rdTL l=l'):Sub x g ob (bG g i (.one (.t (.s false t' z n l')))) ob:=zC hi fun W N cs u hu=>by
 subst hr
 rw[h]at hu
 simp only[bM,bY,AR]at hu⊢
 have h2:=Gg _ _ hu
 simp only[uN,FR]at h2⊢
 exact h2
end
def iM (x:Fr4):Bool:=decide (x.x.length≤6)&&decide (x.y.length≤6)
def qL (a:Zi) (xs:List Fr4):Bool:=xs.all iM&&(decide (a.x.length≤6)&&decide (xs.length≤12))
section
variable {a:Zi}{xs:List Fr4}{k:Nat}
theorem Lk (h:k<xs.length) (h2:iM (aN xs k)=false):false=qL a xs:=by
 have:xs.all iM=false:=List.all_eq_false.2 ⟨_,aT h,by rw[h2];simp⟩
 unfold qL
 rw[this]
 rfl
theorem Vz {p:Fr4→Bool}(h:∀j,j<k→p (aN xs j)=true) (hk:xs.length≤k):xs.all p=true:=List.all_eq_true.2 fun x hx=>by
 obtain⟨j,hj⟩:=List.mem_iff_getElem?.1 hx
 have hl:=(List.getElem?_eq_some_iff.1 hj).1
 rw[dN hl]at hj
 rw[←Option.some.inj hj]
 exact h j (by omega)
theorem Gh (h:∀j,j<k→iM (aN xs j)=true) (hk:xs.length≤k):(decide (a.x.length≤6)&&decide (xs.length≤12))=qL a xs:=by
 unfold qL
 rw[Vz h hk]
 rfl
theorem sT (h:qL a xs=true):(∀x∈xs,x.x.length≤6∧x.y.length≤6)∧a.x.length≤6∧xs.length≤12:=by
 unfold qL at h
 simp only[Bool.and_eq_true,decide_eq_true_eq,List.all_eq_true]at h
 refine⟨fun x hx=>?_,h.2⟩
 have h1:=h.1 x hx
 simp only[iM,Bool.and_eq_true,decide_eq_true_eq]at h1
 exact h1
theorem yG {x:Fr4}(h:LimF x) (h2:x.x.length≤6∧x.y.length≤6):x.ok∧Sz 7 x.q∧x.len 1099511627776:=⟨h.ok h2,(Rw (L:=6) (na:=x.s) (nb:=x.t) h.1 h.2 h2.1 h2.2 (by omega)).mono (by omega),⟨by omega,by omega⟩⟩
theorem Rx {a:Zi}(h:Lim 4294967296 a.x) (h2:a.x.length≤6):jH 6 (zv a):=Nat.le_trans (oL h) h2
theorem Oo {a:Zi}(h:Lim 4294967296 a.x) (h2:a.x.length≤6):Zn a (zv a):=⟨h,by omega,rfl⟩
end
theorem oC {l:List Int}{k:Nat}(h:k<l.length):(((aQ l).flatMap (cB false)).drop (k*2)).take (cB false (.of (aV l k))).length=cB false (.of (aV l k)):=by
 have h1:=rK (f:=cB false) (z:=2) (dQ false) (kZ (zs:=aQ l) (k:=k) (by rw[cM];exact h))
 rw[oK h]at h1
 exact h1
theorem Oq {l:List Rat}{k:Nat}(h:k<l.length):((l.flatMap cD).drop (k*4)).take (cD (aF l k)).length=cD (aF l k):=rK (f:=cD) (z:=4) cS (iU h)
def iT (l:List Int):List Tr:=l.map fun z=>.v (.int .i64 z)
theorem KR {l:List Int}{k:Nat}(h:k<l.length):((iT l).drop (k*1)).take [Tr.v (.int .i64 (aV l k))].length=[Tr.v (.int .i64 (aV l k))]:=by
 have h1:=kY h
 rw[List.getElem?_eq_getElem h]at h1
 have h2:(iT l).drop (k*1)=.v (.int .i64 (aV l k))::(iT l).drop (k+1):=by
  rw[Nat.mul_one,List.drop_eq_getElem_cons (by simpa[iT]using h)]
  congr 1
  simp only[iT,List.getElem_map]
  rw[Option.some.inj h1]
 rw[h2]
 rfl
def Ll:List Tr:=[.v (.bool false),.v (.slice none 0 0),.v (.bool false),.v (.slice none 0 0)]
section
variable {trs:List Tr}{l:List Rat}{i n:Nat}
def Sp4 (trs:List Tr) (l:List Rat) (i:Nat):Prop:=trs.length=l.length*4∧∀j,i≤j→j<l.length→(trs.drop (j*4)).take 4=cD (aF l j)
theorem Sp4.start (l:List Rat):Sp4 (l.flatMap cD) l 0:=⟨bQ cS l,fun j _ h=>Oq h⟩
theorem Sp4.rd (h:Sp4 trs l i) (hi:i<l.length):((trs.map AV.t).drop (0+i*4)).take 4=(cD (aF l i)).map .t:=by
 rw[←List.map_drop,←List.map_take,Nat.zero_add,h.2 i (Nat.le_refl _) hi]
theorem Sp4.put (_:Sp4 trs l i) (_:i<l.length):cX (trs.map AV.t) (0+i*4) (Ll.map .t)=(cX trs (0+i*4) Ll).map .t:=(yH AV.t trs _ _).symm
theorem Sp4.le (h:Sp4 trs l i) (hi:i<l.length):0+i*4+(Ll.map AV.t).length≤(trs.map AV.t).length:=by
 have hl:=h.1
 rw[List.length_map,List.length_map]
 show 0+i*4+4≤_
 omega
theorem Sp4.next (h:Sp4 trs l i) (hi:i<l.length):Sp4 (cX trs (0+i*4) Ll) l (i+1):=by
 have hl:=h.1
 refine⟨?_,fun j h1 h2=>?_⟩
 ·unfold cX
  rw[List.length_append,List.length_append,List.length_take,List.length_drop]
  show min (0+i*4) trs.length+4+(trs.length-(0+i*4+4))=_
  omega
 rw[←h.2 j (by omega) h2]
 congr 1
 unfold cX
 rw[List.drop_append,List.drop_of_length_le (by rw[List.length_append,List.length_take];show min (0+i*4) trs.length+4≤_;omega),List.nil_append,List.drop_drop]
 congr 1
 rw[List.length_append,List.length_take]
 show 0+i*4+4+(j*4-(min (0+i*4) trs.length+4))=j*4
 omega
end
section
variable {x:Cx}{g:Nat→FV}{ob:List (Option Ob)}{ws:List Zi}{z:Zi}{i j k1 e key:Nat}{y a b:AV}
theorem Gi:∀{zs:List Zi}{i:Nat},i<zs.length→(fI zs i).s=z.s→(eK zs).set (0+i*2+1) (.t (sU true z.x))=eK (zs.set i z)
 | [],_,h,_=>by simp at h
 | z'::zs,0,_,hs=>by
  have hs:z'.s=z.s:=hs
  show [AV.t (.v (.bool z'.s)),.t (sU true z.x)]++eK zs=[AV.t (.v (.bool z.s)),.t (sU true z.x)]++eK zs
  rw[hs]
 | z'::zs,i+1,h,hs=>by
  have ih:=Gi (zs:=zs) (i:=i) (by simpa using h) hs
  rw[show 0+(i+1)*2+1=(0+i*2+1)+1+1 by omega]
  show _=_::_::eK (zs.set i z)
  rw[←ih]
  rfl
theorem NE (hn:Nat.beq j k1=false) (hi:i<ws.length) (hs:(fI ws i).s=z.s) (ho:bZ ob j=some ⟨e,2,(eK ws).set (0+i*2+1) (.sl k1 0 z.x.length)⟩) (o1:bZ ob k1=some ⟨51,1,(aP z.x).map .t⟩):Sub x g ob g ((ob.set j (some ⟨e,2,eK (ws.set i z)⟩)).set k1 none):=
 GM (p:=0+i*2+1) (e:=51) (z:=1) (n:=z.x.length) (trs:=aP z.x) hn rfl ho o1 (List.getElem?_set_self (by rw[jE];omega)) (bE _) (bB _) (by rw[List.set_set];exact Gi hi hs)
theorem Lm (h:i<ws.length):((eK ws).set (0+i*2+1) y)[0+i*2+1]? =some y:=List.getElem?_set_self (by rw[jE];omega)
theorem Ry {z:Zi}{j:Nat}(h:i≠j):fI (ws.set i z) j=fI ws j:=by
 unfold fI
 rw[List.getD_eq_getElem?_getD,List.getElem?_set_ne h,List.getD_eq_getElem?_getD]
end
theorem CJ {a b:Zi}{k k':Int}(ha:Zn a k) (hb:Zn b k'):aD true Tryz.prog 126 [] [gF a,gF b] (aO (.one (tv (.bool (decide (k=k')))))):=by
 refine bP Tryz.func126 rfl Tryz.ntmps126 rfl aA rfl fun N w c0 h0=>?_
 refine sq ?_;refine rl ?_;refine bx 0 ?_;refine bx 1 ?_;refine o1 ?_;refine nl ?_;refine sq ?_;refine rl ?_;refine ld ?_;refine ld ?_
 refine ca (Gj ha hb) Ot ⟨aB rfl,aB rfl,rfl⟩ (.one (tv (.int .i64 ((k)-(k')).sign))) ?_;refine o1 ?_;refine o1 ?_;refine nl ?_;refine rt ?_
 exact en (.inl rfl) rfl (aW (cF _)) (by decide) (fun _=>trivial) (congrArg (fun z=>FV.one (tv (.bool z))) (Wa _ _))
theorem Gk {a:Fr4}{p:Rat}(ha:Qn a p):aD true Tryz.prog 102 [] [qF a] (aO (.one (tv (.bool (dD a.s a.x a.t a.y))))):=by
 refine bP Tryz.func102 rfl Tryz.ntmps102 rfl aA rfl fun N w c0 h0=>?_
 have hzl:=(Gl ha).len
 have hzd:=(sN ha).len
 refine sq ?_;refine rl ?_;refine bx 0 ?_;refine o1 ?_;refine nl ?_;refine sq ?_;refine rl ?_;refine o1 ?_;refine ld ?_
 refine ca (yI (Gl ha)) Ou ⟨aB rfl,rfl⟩ (.one (tv (.bool (cQ a.s a.x)))) ?_;refine o1 ?_;refine WL.splitb (t:=6) rfl (fun h1=>?_) (fun h1=>?_)
 ·refine o1 ?_;refine ld ?_;refine ca (yI (sN ha)) Ou ⟨aB rfl,rfl⟩ (.one (tv (.bool (cQ a.t a.y)))) ?_;refine o1 ?_;refine o1 ?_
  refine WL.splitb (t:=11) rfl (fun h2=>?_) (fun h2=>?_)
  ·refine o1 ?_;refine ld ?_;refine ca (lN (sN ha)) uO ⟨aB rfl,rfl⟩ (.one (tv (.int .i64 ((dF a.t a.y)).sign))) ?_;(iterate 3 refine o1 ?_)
   refine WL.split (t:=17) rfl (fun h3=>?_) (fun h3=>?_)
   ·refine o1 ?_;refine ld ?_;refine o1 ?_;refine ld ?_;have s3:0<dF a.t a.y:=Int.sign_pos_iff.1 h3
    have hn4:=Bm (k:=(dF a.s a.x)) (k':=(dF a.t a.y)) (by omega)
    refine ca (Gm (Gl ha) (sN ha)) Wb ⟨aB rfl,aB rfl,rfl⟩ (kF (((Int.gcd (dF a.s a.x) (dF a.t a.y):Nat):Int))) ?_;have hn5:=lW (n:=(1:Int)) (by omega) (by omega)
    refine ca (jW (n:=(1:Int)) (by omega) (by omega)) mQ ⟨a1 rfl,rfl⟩ (kF ((1:Int))) ?_
    refine ca (CJ (Zn.of (k:=((Int.gcd (dF a.s a.x) (dF a.t a.y):Nat):Int)) (by omega)) (Zn.of (k:=(1:Int)) (by omega))) KS ⟨aB rfl,aB rfl,rfl⟩ (.one (tv (.bool (decide ((((Int.gcd (dF a.s a.x) (dF a.t a.y):Nat):Int))=((1:Int))))))) ?_
    refine o1 ?_;refine o1 ?_;refine nl ?_;refine rt ?_
    exact en (.inl rfl) rfl (aW (cF _)) (by decide) (fun _=>trivial) (congrArg (fun z=>FV.one (tv (.bool z))) (by simp[dD,h1,h2,s3,Ln]))
   (iterate 7 refine eC ?_);refine o1 ?_;refine o1 ?_;refine nl ?_;refine rt ?_;have s3:¬(0<dF a.t a.y):=fun h=>h3 (Int.sign_pos_iff.2 h)
   exact en (.inl rfl) rfl (aW (cF _)) (by decide) (fun _=>trivial) (congrArg (fun z=>FV.one (tv (.bool z))) (by simp[dD,h1,h2,s3,Ln]))
  (iterate 4 refine eC ?_);refine o1 ?_;refine o1 ?_;(iterate 7 refine eC ?_);refine o1 ?_;refine o1 ?_;refine nl ?_;refine rt ?_
  exact en (.inl rfl) rfl (aW (cF _)) (by decide) (fun _=>trivial) (congrArg (fun z=>FV.one (tv (.bool z))) (by simp[dD,h1,h2]))
 (iterate 3 refine eC ?_);refine o1 ?_;refine o1 ?_;(iterate 4 refine eC ?_);refine o1 ?_;refine o1 ?_;(iterate 7 refine eC ?_);refine o1 ?_;refine o1 ?_;refine nl ?_;refine rt ?_
 exact en (.inl rfl) rfl (aW (cF _)) (by decide) (fun _=>trivial) (congrArg (fun z=>FV.one (tv (.bool z))) (by simp[dD,h1]))
theorem Bn:aD false Tryz.prog 69 [] [] (aO (qF (.of 0))):=by
 refine bP Tryz.func69 rfl Tryz.ntmps69 rfl aA rfl fun N w c0 h0=>?_
 refine sq ?_;refine rl ?_;refine al 0 ?_;refine nl ?_;refine sq ?_;refine rl ?_;have hn1:=lW (n:=(0:Int)) (by omega) (by omega)
 refine ca (jW (n:=(0:Int)) (by omega) (by omega)) mQ ⟨a1 rfl,rfl⟩ (kF ((0:Int))) ?_
 have hn2:=lW (n:=(1:Int)) (by omega) (by omega)
 refine ca (jW (n:=(1:Int)) (by omega) (by omega)) mQ ⟨a1 rfl,rfl⟩ (kF ((1:Int))) ?_
 refine o1 ?_;refine st ?_;refine nl ?_;refine rt ?_
 exact en (.inl rfl) rfl (aW (.agg (.cons (.id rfl) (.cons (.id rfl) (.cons (.id rfl) (.cons (.id rfl) .nil)))))) (by decide) (fun h=>by cases h) (wG (q:=0) rfl rfl)
theorem yJ {n:Int}(h1:-9223372036854775808≤n) (h2:n≤9223372036854775807):aD false Tryz.prog 31 [] [.one (tv (.int .i64 n))] (aO (qF (.of (n:Rat)))):=by
 refine bP Tryz.func31 rfl Tryz.ntmps31 rfl aA rfl fun N w c0 h0=>?_
 refine sq ?_;refine rl ?_;refine al 0 ?_;refine nl ?_;refine sq ?_;refine rl ?_;refine o1 ?_;have hn1:=lW (n:=n) (by omega) (by omega)
 refine ca (jW (n:=n) (by omega) (by omega)) mQ ⟨a1 rfl,rfl⟩ (kF (n)) ?_
 have hn2:=lW (n:=(1:Int)) (by omega) (by omega)
 refine ca (jW (n:=(1:Int)) (by omega) (by omega)) mQ ⟨a1 rfl,rfl⟩ (kF ((1:Int))) ?_
 refine o1 ?_;refine st ?_;refine nl ?_;refine rt ?_
 exact en (.inl rfl) rfl (aW (.agg (.cons (.id rfl) (.cons (.id rfl) (.cons (.id rfl) (.cons (.id rfl) .nil)))))) (by decide) (fun h=>by cases h) (wG (q:=(n:Rat)) (Rat.num_intCast n) (by rw[Rat.den_intCast];rfl))
theorem gR {a:Fr4}{p:Rat}(ha:Qn a p):aD false Tryz.prog 57 [] [qF a] (aO (qF (.of p))):=by
 refine bP Tryz.func57 rfl Tryz.ntmps57 rfl aA rfl fun N w c0 h0=>?_
 refine sq ?_;refine rl ?_;refine bx 0 ?_;refine al 1 ?_;refine nl ?_;refine sq ?_;refine sq ?_;refine rl ?_;refine ld ?_
 refine ca (Gk ha) Zp ⟨aB rfl,rfl⟩ (.one (tv (.bool (dD a.s a.x a.t a.y)))) ?_;refine WL.splitb (t:=4) rfl (fun h1=>?_) (fun h1=>?_)
 ·refine o1 ?_;refine nl ?_;refine eZ rfl ?_;refine sk ?_;refine sq ?_;refine rl ?_;refine ld ?_;refine st ?_;refine nl ?_;refine rt ?_
  exact en (.inl rfl) rfl (aW (.agg (.cons (.id rfl) (.cons (.id rfl) (.cons (.id rfl) (.cons (.id rfl) .nil)))))) (by decide) (fun h=>by cases h) (by rw[ha.right h1];rfl)
 refine o1 ?_;refine nl ?_;refine kM rfl ?_;refine sq ?_;refine rl ?_;refine ca (Bn) Wc rfl (qF (.of 0)) ?_;refine st ?_;refine nl ?_;refine rt ?_
 exact en (.inl rfl) rfl (aW (.agg (.cons (.id rfl) (.cons (.id rfl) (.cons (.id rfl) (.cons (.id rfl) .nil)))))) (by decide) (fun h=>by cases h) (by rw[ha.wrong h1];rfl)
theorem nM {a b:Zi}{k k':Int}(ha:Zn a k) (hb:Zn b k') (h0:k'≠0):aD false Tryz.prog 71 [] [gF a,gF b] (aO (.tup [kF (k.fdiv k'),kF (k.fmod k'),.one (tv (.int .i64 0))])):=by
 have h:=Rz ha hb
 rwa[if_neg h0,if_neg h0,if_neg h0]at h
theorem gG {a b:Zi}{k k':Int}(ha:Zn a k) (hb:Zn b k'):aD false Tryz.prog 25 [] [gF a,gF b] (aO (.tup [qF (.of (Rat.divInt k k')),.one (tv (.int .i64 (if k'=0 then 20 else 0)))])):=by
 refine bP Tryz.func25 rfl Tryz.ntmps25 rfl aA rfl fun N w c0 h0=>?_
 have hkl:=ha.len
 have hkl':=hb.len
 refine sq ?_;refine rl ?_;refine bx 0 ?_;refine bx 1 ?_;refine al 2 ?_;refine o1 ?_;refine nl ?_;refine sq ?_;refine sq ?_;refine rl ?_;refine ld ?_
 refine ca (lN hb) uO ⟨aB rfl,rfl⟩ (.one (tv (.int .i64 (k').sign))) ?_;refine o1 ?_;refine nl ?_;refine bO rfl (fun h1=>?_) (fun h1=>?_)
 ·refine sq ?_;refine rl ?_;refine ca (Bn) Wc rfl (qF (.of 0)) ?_;refine st ?_;refine o1 ?_;refine nl ?_;refine rt ?_;have hk0:k'=0:=Int.sign_eq_zero_iff_zero.1 h1
  have hd0:Rat.divInt k k'=0:=by rw[hk0];simp
  exact en (.inl rfl) rfl (iJ (.cons (.agg (.cons (.id rfl) (.cons (.id rfl) (.cons (.id rfl) (.cons (.id rfl) .nil))))) (.cons (cF _) .nil))) (by decide) (fun h=>by cases h) (by rw[if_pos hk0,hd0];rfl)
 refine sk ?_;refine sq ?_;refine sq ?_;have hk0:k'≠0:=fun h9=>h1 (by rw[h9];rfl)
 refine rl ?_;refine ld ?_;refine ca (lN hb) uO ⟨aB rfl,rfl⟩ (.one (tv (.int .i64 (k').sign))) ?_;refine o1 ?_;refine nl ?_;refine bO rfl (fun h2=>?_) (fun h2=>?_)
 ·refine sq ?_;refine rl ?_;refine ld ?_;have hn3:=jL (k)
  refine ca (uP ha) Gn ⟨aB rfl,rfl⟩ (kF (-k)) ?_;refine st ?_;refine nl ?_;refine rl ?_;refine ld ?_;have hn4:=jL (k')
  refine ca (uP hb) Gn ⟨aB rfl,rfl⟩ (kF (-k')) ?_;refine st ?_;refine nl ?_;refine sq ?_;have hkn:k'<0:=Int.sign_neg_iff.1 h2
  refine rl ?_;refine ld ?_;refine ld ?_;have hn5:=Bm (k:=-k) (k':=-k') (by omega)
  refine ca (Gm (Zn.of (k:=-k) (by omega)) (Zn.of (k:=-k') (by omega))) Wb ⟨aB rfl,aB rfl,rfl⟩ (kF (((Int.gcd (-k) (-k'):Nat):Int))) ?_
  refine al 3 ?_;refine st ?_;refine nl ?_;refine sq ?_;refine rl ?_;refine ld ?_;refine ld ?_
  refine ca (nM (Zn.of (k:=-k) (by omega)) (Zn.of (k:=((Int.gcd (-k) (-k'):Nat):Int)) (by omega)) (zL (by omega))) Gp ⟨aB rfl,aB rfl,rfl⟩ (.tup [kF ((-k).fdiv ((Int.gcd (-k) (-k'):Nat):Int)),kF ((-k).fmod ((Int.gcd (-k) (-k'):Nat):Int)),.one (tv (.int .i64 0))]) ?_
  (iterate 4 refine o1 ?_);refine al 4 ?_;refine al 5 ?_;refine st ?_;refine st ?_;refine o1 ?_;refine nl ?_;refine sq ?_;refine rl ?_;refine ld ?_;refine ld ?_
  refine ca (nM (Zn.of (k:=-k') (by omega)) (Zn.of (k:=((Int.gcd (-k) (-k'):Nat):Int)) (by omega)) (zL (by omega))) Gp ⟨aB rfl,aB rfl,rfl⟩ (.tup [kF ((-k').fdiv ((Int.gcd (-k) (-k'):Nat):Int)),kF ((-k').fmod ((Int.gcd (-k) (-k'):Nat):Int)),.one (tv (.int .i64 0))]) ?_
  (iterate 4 refine o1 ?_);refine al 6 ?_;refine al 7 ?_;refine st ?_;refine st ?_;refine o1 ?_;refine nl ?_;refine sq ?_;refine rl ?_;refine ld ?_;refine ld ?_;refine o1 ?_
  refine st ?_;refine o1 ?_;refine nl ?_;refine rt ?_;obtain⟨hp9,hn9⟩:=Gq (a:=k) hk0
  obtain⟨e1,e2⟩:=hn9 hkn
  exact en (.inl rfl) rfl (iJ (.cons (.agg (.cons (.id rfl) (.cons (.id rfl) (.cons (.id rfl) (.cons (.id rfl) .nil))))) (.cons (cF _) .nil))) (by decide) (fun h=>by cases h) (by rw[if_neg hk0];exact congrArg (fun f=>FV.tup [f,.one (tv (.int .i64 0))]) (wG e1 e2))
 refine sk ?_;refine sq ?_;have hkp:0<k':=by have h9:=mt Int.sign_neg_iff.2 h2;omega
 refine rl ?_;refine ld ?_;refine ld ?_;have hn6:=Bm (k:=k) (k':=k') (by omega)
 refine ca (Gm ha hb) Wb ⟨aB rfl,aB rfl,rfl⟩ (kF (((Int.gcd k k':Nat):Int))) ?_;refine al 3 ?_;refine st ?_;refine nl ?_;refine sq ?_;refine rl ?_;refine ld ?_;refine ld ?_
 refine ca (nM ha (Zn.of (k:=((Int.gcd k k':Nat):Int)) (by omega)) (zL (by omega))) Gp ⟨aB rfl,aB rfl,rfl⟩ (.tup [kF ((k).fdiv ((Int.gcd k k':Nat):Int)),kF ((k).fmod ((Int.gcd k k':Nat):Int)),.one (tv (.int .i64 0))]) ?_
 (iterate 4 refine o1 ?_);refine al 4 ?_;refine al 5 ?_;refine st ?_;refine st ?_;refine o1 ?_;refine nl ?_;refine sq ?_;refine rl ?_;refine ld ?_;refine ld ?_
 refine ca (nM hb (Zn.of (k:=((Int.gcd k k':Nat):Int)) (by omega)) (zL (by omega))) Gp ⟨aB rfl,aB rfl,rfl⟩ (.tup [kF ((k').fdiv ((Int.gcd k k':Nat):Int)),kF ((k').fmod ((Int.gcd k k':Nat):Int)),.one (tv (.int .i64 0))]) ?_
 (iterate 4 refine o1 ?_);refine al 6 ?_;refine al 7 ?_;refine st ?_;refine st ?_;refine o1 ?_;refine nl ?_;refine sq ?_;refine rl ?_;refine ld ?_;refine ld ?_;refine o1 ?_
 refine st ?_;refine o1 ?_;refine nl ?_;refine rt ?_;obtain⟨hp9,hn9⟩:=Gq (a:=k) hk0
 obtain⟨e1,e2⟩:=hp9 hkp
 exact en (.inl rfl) rfl (iJ (.cons (.agg (.cons (.id rfl) (.cons (.id rfl) (.cons (.id rfl) (.cons (.id rfl) .nil))))) (.cons (cF _) .nil))) (by decide) (fun h=>by cases h) (by rw[if_neg hk0];exact congrArg (fun f=>FV.tup [f,.one (tv (.int .i64 0))]) (wG e1 e2))
theorem KT {n d:Int}(h1:-9223372036854775808≤n) (h2:n≤9223372036854775807) (h3:-9223372036854775808≤d) (h4:d≤9223372036854775807):aD false Tryz.prog 75 [] [.one (tv (.int .i64 n)),.one (tv (.int .i64 d))] (aO (.tup [qF (.of (Rat.divInt n d)),.one (tv (.int .i64 (if d=0 then 20 else 0)))])):=by
 refine bP Tryz.func75 rfl Tryz.ntmps75 rfl aA rfl fun N w c0 h0=>?_
 refine sq ?_;refine rl ?_;refine al 0 ?_;refine o1 ?_;refine nl ?_;refine sq ?_;refine rl ?_;refine o1 ?_;have hn1:=lW (n:=n) (by omega) (by omega)
 refine ca (jW (n:=n) (by omega) (by omega)) mQ ⟨a1 rfl,rfl⟩ (kF (n)) ?_
 refine o1 ?_;have hn2:=lW (n:=d) (by omega) (by omega)
 refine ca (jW (n:=d) (by omega) (by omega)) mQ ⟨a1 rfl,rfl⟩ (kF (d)) ?_
 refine ca (gG (Zn.of (k:=n) (by omega)) (Zn.of (k:=d) (by omega))) kD ⟨aB rfl,aB rfl,rfl⟩ (.tup [qF (.of (Rat.divInt (n) (d))),.one (tv (.int .i64 (if(d)=0 then 20 else 0)))]) ?_
 refine o1 ?_;refine o1 ?_;refine st ?_;refine o1 ?_;refine nl ?_;refine rt ?_
 exact en (.inl rfl) rfl (iJ (.cons (.agg (.cons (.id rfl) (.cons (.id rfl) (.cons (.id rfl) (.cons (.id rfl) .nil))))) (.cons (cF _) .nil))) (by decide) (fun h=>by cases h) rfl
theorem Gr {a:Fr4}{p:Rat}(ha:Qn a p):aD false Tryz.prog 30 [] [qF a] (aO (qF (.of (-p)))):=by
 refine bP Tryz.func30 rfl Tryz.ntmps30 rfl aA rfl fun N w c0 h0=>?_
 refine sq ?_;refine rl ?_;refine bx 0 ?_;refine al 1 ?_;refine nl ?_;refine sq ?_;refine rl ?_;refine ld ?_;refine ca (gR ha) pD ⟨aB rfl,rfl⟩ (qF (.of p)) ?_;refine st ?_
 refine nl ?_;refine sq ?_;refine rd [0,1] (fun i=>[6].contains i) mixed ?_
 refine dv 0 ?_;refine aX 1 ?_;refine dv 3 ?_;refine aX 4 ?_;refine aK 2 rfl (uP (eP ha.sz)) Gn ⟨aB rfl,rfl⟩ (kF (-p.num)) ?_;refine df 5 ?_;refine dst 6 ?_;refine aR ?_
 refine rt ?_
 exact en (.inl rfl) rfl (aW (.agg (.cons (.id rfl) (.cons (.id rfl) (.cons (.id rfl) (.cons (.id rfl) .nil)))))) (by decide) (fun h=>by cases h) (by unfold qF Fr4.of;rw[Rat.neg_num,Rat.neg_den];rfl)
theorem Gs {a b:Fr4}{p q:Rat}(ha:Qn a p) (hb:Qn b q) (hs:Sz 17179869184 p) (hs':Sz 17179869184 q):aD false Tryz.prog 39 [] [qF a,qF b] (aO (qF (.of (p+q)))):=by
 refine bP Tryz.func39 rfl Tryz.ntmps39 rfl aA rfl fun N w c0 h0=>?_
 have hs1:=hs.1
 have hs2:(dg 4294967296 ((p.den:Int)).natAbs).length≤17179869184:=hs.2
 have hs3:=hs'.1
 have hs4:(dg 4294967296 ((q.den:Int)).natAbs).length≤17179869184:=hs'.2
 refine sq ?_;refine rl ?_;refine bx 0 ?_;refine bx 1 ?_;refine al 2 ?_;refine nl ?_;refine sq ?_;refine rl ?_;refine ld ?_;refine ca (gR ha) pD ⟨aB rfl,rfl⟩ (qF (.of p)) ?_
 refine st ?_;refine nl ?_;refine sq ?_;refine rl ?_;refine ld ?_;refine ca (gR hb) pD ⟨aB rfl,rfl⟩ (qF (.of q)) ?_;refine st ?_;refine nl ?_
 refine md (γ:=Unit) (fun _=>cG [(4,.one (.pt 0 0)),(5,.one (.pt 1 0))]) (fun _=>([⟨50,0,[tv (.bool false),tv (.slice none 0 0),tv (.bool false),tv (.slice none 0 0)]⟩,⟨50,0,((Fr4.of (Rat.divInt (p.num*(q.den:Int)+q.num*(p.den:Int)) ((p.den:Int)*(q.den:Int)))).tr false).map .t⟩]:List Ob).map some) (fun _=>True) ?_ fun _ _=>?_
 ·refine rd [0,1,2] (fun i=>[22].contains i) mixed ?_
  refine dv 0 ?_;refine aX 1 ?_;refine dv 2 ?_;refine aX 3 ?_;refine dv 5 ?_;refine aX 6 ?_;refine dv 7 ?_;refine aX 8 ?_;refine dv 11 ?_;refine aX 12 ?_;refine dv 13 ?_
  refine aX 14 ?_;refine WO.two (i:=4) (j:=20) (by kernel_rfl) ?_ ?_
  ·have hn1:=cT (p.num) ((q.den:Int))
   refine cY 4 rfl (fT (eP hs) (dB hs')) jM ⟨aB rfl,aB rfl,rfl⟩ (kF (p.num*(q.den:Int))) ?_;refine WO.two (i:=9) (j:=20) (by kernel_rfl) ?_ ?_
   ·have hn2:=cT (q.num) ((p.den:Int))
    refine cY 9 rfl (fT (eP hs') (dB hs)) jM ⟨aB rfl,aB rfl,rfl⟩ (kF (q.num*(p.den:Int))) ?_;refine WO.two (i:=10) (j:=20) (by kernel_rfl) ?_ ?_
    ·have hn3:=iD (p.num*(q.den:Int)) (q.num*(p.den:Int))
     refine cY 10 rfl (nN (Zn.of (k:=p.num*(q.den:Int)) (by omega)) (Zn.of (k:=q.num*(p.den:Int)) (by omega))) uQ ⟨aB rfl,aB rfl,rfl⟩ (kF (p.num*(q.den:Int)+q.num*(p.den:Int))) ?_
     refine WO.two (i:=15) (j:=20) (by kernel_rfl) ?_ ?_
     ·have hn4:=cT ((p.den:Int)) ((q.den:Int))
      refine cY 15 rfl (fT (dB hs) (dB hs')) jM ⟨aB rfl,aB rfl,rfl⟩ (kF ((p.den:Int)*(q.den:Int))) ?_;refine WO.two (i:=16) (j:=20) (by kernel_rfl) ?_ ?_
      ·refine cY 16 rfl (gG (Zn.of (k:=p.num*(q.den:Int)+q.num*(p.den:Int)) (by omega)) (Zn.of (k:=(p.den:Int)*(q.den:Int)) (by omega))) kD ⟨aB rfl,aB rfl,rfl⟩ (.tup [qF (.of (Rat.divInt (p.num*(q.den:Int)+q.num*(p.den:Int)) ((p.den:Int)*(q.den:Int)))),.one (tv (.int .i64 (if((p.den:Int)*(q.den:Int))=0 then 20 else 0)))]) ?_
       refine df 17 ?_;refine df 18 ?_;refine df 19 ?_;refine eQ (key:=3) 20 (by kernel_rfl) rfl rfl aA rfl ⟨rfl,rfl,rfl,trivial⟩ ?_
       refine aZ 21 (by kernel_rfl) rfl rfl aA rfl rfl rfl rfl ⟨rfl,rfl,rfl,trivial⟩ ?_
       refine dH 22 (by kernel_rfl) rfl rfl aA rfl (by trivial) ?_ (fun h=>by first | rfl | cases h)
       refine aR ?_;exact⟨(),trivial,aH h0 [2,3] _ _ (by decide) ⟨rfl,rfl,trivial⟩ ⟨oe rfl rfl,oe rfl rfl,rfl⟩⟩
      refine bX (key:=3) 20 rfl rfl aA rfl ⟨rfl,rfl,rfl,trivial⟩ ?_
      refine aK 16 rfl (gG (Zn.of (k:=p.num*(q.den:Int)+q.num*(p.den:Int)) (by omega)) (Zn.of (k:=(p.den:Int)*(q.den:Int)) (by omega))) kD ⟨aB rfl,aB rfl,rfl⟩ (.tup [qF (.of (Rat.divInt (p.num*(q.den:Int)+q.num*(p.den:Int)) ((p.den:Int)*(q.den:Int)))),.one (tv (.int .i64 (if((p.den:Int)*(q.den:Int))=0 then 20 else 0)))]) ?_
      refine df 17 ?_;refine df 18 ?_;refine df 19 ?_;refine aZ 21 (by kernel_rfl) rfl rfl aA rfl rfl rfl rfl ⟨rfl,rfl,rfl,trivial⟩ ?_
      refine dH 22 (by kernel_rfl) rfl rfl aA rfl (by trivial) ?_ (fun h=>by first | rfl | cases h)
      refine aR ?_;exact⟨(),trivial,aH h0 [2,3] _ _ (by decide) ⟨rfl,rfl,trivial⟩ ⟨oe rfl rfl,oe rfl rfl,rfl⟩⟩
     refine bX (key:=3) 20 rfl rfl aA rfl ⟨rfl,rfl,rfl,trivial⟩ ?_;have hn5:=cT ((p.den:Int)) ((q.den:Int))
     refine aK 15 rfl (fT (dB hs) (dB hs')) jM ⟨aB rfl,aB rfl,rfl⟩ (kF ((p.den:Int)*(q.den:Int))) ?_
     refine aK 16 rfl (gG (Zn.of (k:=p.num*(q.den:Int)+q.num*(p.den:Int)) (by omega)) (Zn.of (k:=(p.den:Int)*(q.den:Int)) (by omega))) kD ⟨aB rfl,aB rfl,rfl⟩ (.tup [qF (.of (Rat.divInt (p.num*(q.den:Int)+q.num*(p.den:Int)) ((p.den:Int)*(q.den:Int)))),.one (tv (.int .i64 (if((p.den:Int)*(q.den:Int))=0 then 20 else 0)))]) ?_
     refine df 17 ?_;refine df 18 ?_;refine df 19 ?_;refine aZ 21 (by kernel_rfl) rfl rfl aA rfl rfl rfl rfl ⟨rfl,rfl,rfl,trivial⟩ ?_
     refine dH 22 (by kernel_rfl) rfl rfl aA rfl (by trivial) ?_ (fun h=>by first | rfl | cases h)
     refine aR ?_;exact⟨(),trivial,aH h0 [2,3] _ _ (by decide) ⟨rfl,rfl,trivial⟩ ⟨oe rfl rfl,oe rfl rfl,rfl⟩⟩
    refine bX (key:=3) 20 rfl rfl aA rfl ⟨rfl,rfl,rfl,trivial⟩ ?_;have hn6:=iD (p.num*(q.den:Int)) (q.num*(p.den:Int))
    refine aK 10 rfl (nN (Zn.of (k:=p.num*(q.den:Int)) (by omega)) (Zn.of (k:=q.num*(p.den:Int)) (by omega))) uQ ⟨aB rfl,aB rfl,rfl⟩ (kF (p.num*(q.den:Int)+q.num*(p.den:Int))) ?_
    have hn7:=cT ((p.den:Int)) ((q.den:Int))
    refine aK 15 rfl (fT (dB hs) (dB hs')) jM ⟨aB rfl,aB rfl,rfl⟩ (kF ((p.den:Int)*(q.den:Int))) ?_
    refine aK 16 rfl (gG (Zn.of (k:=p.num*(q.den:Int)+q.num*(p.den:Int)) (by omega)) (Zn.of (k:=(p.den:Int)*(q.den:Int)) (by omega))) kD ⟨aB rfl,aB rfl,rfl⟩ (.tup [qF (.of (Rat.divInt (p.num*(q.den:Int)+q.num*(p.den:Int)) ((p.den:Int)*(q.den:Int)))),.one (tv (.int .i64 (if((p.den:Int)*(q.den:Int))=0 then 20 else 0)))]) ?_
    refine df 17 ?_;refine df 18 ?_;refine df 19 ?_;refine aZ 21 (by kernel_rfl) rfl rfl aA rfl rfl rfl rfl ⟨rfl,rfl,rfl,trivial⟩ ?_
    refine dH 22 (by kernel_rfl) rfl rfl aA rfl (by trivial) ?_ (fun h=>by first | rfl | cases h)
    refine aR ?_;exact⟨(),trivial,aH h0 [2,3] _ _ (by decide) ⟨rfl,rfl,trivial⟩ ⟨oe rfl rfl,oe rfl rfl,rfl⟩⟩
   refine bX (key:=3) 20 rfl rfl aA rfl ⟨rfl,rfl,rfl,trivial⟩ ?_;have hn8:=cT (q.num) ((p.den:Int))
   refine aK 9 rfl (fT (eP hs') (dB hs)) jM ⟨aB rfl,aB rfl,rfl⟩ (kF (q.num*(p.den:Int))) ?_;have hn9:=iD (p.num*(q.den:Int)) (q.num*(p.den:Int))
   refine aK 10 rfl (nN (Zn.of (k:=p.num*(q.den:Int)) (by omega)) (Zn.of (k:=q.num*(p.den:Int)) (by omega))) uQ ⟨aB rfl,aB rfl,rfl⟩ (kF (p.num*(q.den:Int)+q.num*(p.den:Int))) ?_
   have hn10:=cT ((p.den:Int)) ((q.den:Int))
   refine aK 15 rfl (fT (dB hs) (dB hs')) jM ⟨aB rfl,aB rfl,rfl⟩ (kF ((p.den:Int)*(q.den:Int))) ?_
   refine aK 16 rfl (gG (Zn.of (k:=p.num*(q.den:Int)+q.num*(p.den:Int)) (by omega)) (Zn.of (k:=(p.den:Int)*(q.den:Int)) (by omega))) kD ⟨aB rfl,aB rfl,rfl⟩ (.tup [qF (.of (Rat.divInt (p.num*(q.den:Int)+q.num*(p.den:Int)) ((p.den:Int)*(q.den:Int)))),.one (tv (.int .i64 (if((p.den:Int)*(q.den:Int))=0 then 20 else 0)))]) ?_
   refine df 17 ?_;refine df 18 ?_;refine df 19 ?_;refine aZ 21 (by kernel_rfl) rfl rfl aA rfl rfl rfl rfl ⟨rfl,rfl,rfl,trivial⟩ ?_
   refine dH 22 (by kernel_rfl) rfl rfl aA rfl (by trivial) ?_ (fun h=>by first | rfl | cases h)
   refine aR ?_;exact⟨(),trivial,aH h0 [2,3] _ _ (by decide) ⟨rfl,rfl,trivial⟩ ⟨oe rfl rfl,oe rfl rfl,rfl⟩⟩
  refine bX (key:=3) 20 rfl rfl aA rfl ⟨rfl,rfl,rfl,trivial⟩ ?_;have hn11:=cT (p.num) ((q.den:Int))
  refine aK 4 rfl (fT (eP hs) (dB hs')) jM ⟨aB rfl,aB rfl,rfl⟩ (kF (p.num*(q.den:Int))) ?_;have hn12:=cT (q.num) ((p.den:Int))
  refine aK 9 rfl (fT (eP hs') (dB hs)) jM ⟨aB rfl,aB rfl,rfl⟩ (kF (q.num*(p.den:Int))) ?_;have hn13:=iD (p.num*(q.den:Int)) (q.num*(p.den:Int))
  refine aK 10 rfl (nN (Zn.of (k:=p.num*(q.den:Int)) (by omega)) (Zn.of (k:=q.num*(p.den:Int)) (by omega))) uQ ⟨aB rfl,aB rfl,rfl⟩ (kF (p.num*(q.den:Int)+q.num*(p.den:Int))) ?_
  have hn14:=cT ((p.den:Int)) ((q.den:Int))
  refine aK 15 rfl (fT (dB hs) (dB hs')) jM ⟨aB rfl,aB rfl,rfl⟩ (kF ((p.den:Int)*(q.den:Int))) ?_
  refine aK 16 rfl (gG (Zn.of (k:=p.num*(q.den:Int)+q.num*(p.den:Int)) (by omega)) (Zn.of (k:=(p.den:Int)*(q.den:Int)) (by omega))) kD ⟨aB rfl,aB rfl,rfl⟩ (.tup [qF (.of (Rat.divInt (p.num*(q.den:Int)+q.num*(p.den:Int)) ((p.den:Int)*(q.den:Int)))),.one (tv (.int .i64 (if((p.den:Int)*(q.den:Int))=0 then 20 else 0)))]) ?_
  refine df 17 ?_;refine df 18 ?_;refine df 19 ?_;refine aZ 21 (by kernel_rfl) rfl rfl aA rfl rfl rfl rfl ⟨rfl,rfl,rfl,trivial⟩ ?_
  refine dH 22 (by kernel_rfl) rfl rfl aA rfl (by trivial) ?_ (fun h=>by first | rfl | cases h)
  refine aR ?_;exact⟨(),trivial,aH h0 [2,3] _ _ (by decide) ⟨rfl,rfl,trivial⟩ ⟨oe rfl rfl,oe rfl rfl,rfl⟩⟩
 refine sq ?_;refine rl ?_;refine ld ?_;refine st ?_;refine nl ?_;refine rt ?_
 exact en (.inl rfl) rfl (aW (.agg (.cons (.id rfl) (.cons (.id rfl) (.cons (.id rfl) (.cons (.id rfl) .nil)))))) (by decide) (fun h=>by cases h) (by rw[←pY];rfl)
theorem Gt {a b:Fr4}{p q:Rat}(ha:Qn a p) (hb:Qn b q) (hs:Sz 17179869184 p) (hs':Sz 17179869184 q):aD false Tryz.prog 41 [] [qF a,qF b] (aO (qF (.of (p*q)))):=by
 refine bP Tryz.func41 rfl Tryz.ntmps41 rfl aA rfl fun N w c0 h0=>?_
 have hs1:=hs.1
 have hs2:(dg 4294967296 ((p.den:Int)).natAbs).length≤17179869184:=hs.2
 have hs3:=hs'.1
 have hs4:(dg 4294967296 ((q.den:Int)).natAbs).length≤17179869184:=hs'.2
 refine sq ?_;refine rl ?_;refine bx 0 ?_;refine bx 1 ?_;refine al 2 ?_;refine nl ?_;refine sq ?_;refine rl ?_;refine ld ?_;refine ca (gR ha) pD ⟨aB rfl,rfl⟩ (qF (.of p)) ?_
 refine st ?_;refine nl ?_;refine sq ?_;refine rl ?_;refine ld ?_;refine ca (gR hb) pD ⟨aB rfl,rfl⟩ (qF (.of q)) ?_;refine st ?_;refine nl ?_
 refine md (γ:=Unit) (fun _=>cG [(4,.one (.pt 0 0)),(5,.one (.pt 1 0))]) (fun _=>([⟨50,0,[tv (.bool false),tv (.slice none 0 0),tv (.bool false),tv (.slice none 0 0)]⟩,⟨50,0,((Fr4.of (Rat.divInt (p.num*q.num) ((p.den:Int)*(q.den:Int)))).tr false).map .t⟩]:List Ob).map some) (fun _=>True) ?_ fun _ _=>?_
 ·refine rd [0,1,2] (fun i=>[16].contains i) mixed ?_
  refine dv 0 ?_;refine aX 1 ?_;refine dv 2 ?_;refine aX 3 ?_;refine dv 5 ?_;refine aX 6 ?_;refine dv 7 ?_;refine aX 8 ?_;refine WO.two (i:=4) (j:=14) (by kernel_rfl) ?_ ?_
  ·have hn1:=cT (p.num) (q.num)
   refine cY 4 rfl (fT (eP hs) (eP hs')) jM ⟨aB rfl,aB rfl,rfl⟩ (kF (p.num*q.num)) ?_;refine WO.two (i:=9) (j:=14) (by kernel_rfl) ?_ ?_
   ·have hn2:=cT ((p.den:Int)) ((q.den:Int))
    refine cY 9 rfl (fT (dB hs) (dB hs')) jM ⟨aB rfl,aB rfl,rfl⟩ (kF ((p.den:Int)*(q.den:Int))) ?_;refine WO.two (i:=10) (j:=14) (by kernel_rfl) ?_ ?_
    ·refine cY 10 rfl (gG (Zn.of (k:=p.num*q.num) (by omega)) (Zn.of (k:=(p.den:Int)*(q.den:Int)) (by omega))) kD ⟨aB rfl,aB rfl,rfl⟩ (.tup [qF (.of (Rat.divInt (p.num*q.num) ((p.den:Int)*(q.den:Int)))),.one (tv (.int .i64 (if((p.den:Int)*(q.den:Int))=0 then 20 else 0)))]) ?_
     refine df 11 ?_;refine df 12 ?_;refine df 13 ?_;refine eQ (key:=3) 14 (by kernel_rfl) rfl rfl aA rfl ⟨rfl,rfl,rfl,trivial⟩ ?_
     refine aZ 15 (by kernel_rfl) rfl rfl aA rfl rfl rfl rfl ⟨rfl,rfl,rfl,trivial⟩ ?_
     refine dH 16 (by kernel_rfl) rfl rfl aA rfl (by trivial) ?_ (fun h=>by first | rfl | cases h)
     refine aR ?_;exact⟨(),trivial,aH h0 [2,3] _ _ (by decide) ⟨rfl,rfl,trivial⟩ ⟨oe rfl rfl,oe rfl rfl,rfl⟩⟩
    refine bX (key:=3) 14 rfl rfl aA rfl ⟨rfl,rfl,rfl,trivial⟩ ?_
    refine aK 10 rfl (gG (Zn.of (k:=p.num*q.num) (by omega)) (Zn.of (k:=(p.den:Int)*(q.den:Int)) (by omega))) kD ⟨aB rfl,aB rfl,rfl⟩ (.tup [qF (.of (Rat.divInt (p.num*q.num) ((p.den:Int)*(q.den:Int)))),.one (tv (.int .i64 (if((p.den:Int)*(q.den:Int))=0 then 20 else 0)))]) ?_
    refine df 11 ?_;refine df 12 ?_;refine df 13 ?_;refine aZ 15 (by kernel_rfl) rfl rfl aA rfl rfl rfl rfl ⟨rfl,rfl,rfl,trivial⟩ ?_
    refine dH 16 (by kernel_rfl) rfl rfl aA rfl (by trivial) ?_ (fun h=>by first | rfl | cases h)
    refine aR ?_;exact⟨(),trivial,aH h0 [2,3] _ _ (by decide) ⟨rfl,rfl,trivial⟩ ⟨oe rfl rfl,oe rfl rfl,rfl⟩⟩
   refine bX (key:=3) 14 rfl rfl aA rfl ⟨rfl,rfl,rfl,trivial⟩ ?_;have hn3:=cT ((p.den:Int)) ((q.den:Int))
   refine aK 9 rfl (fT (dB hs) (dB hs')) jM ⟨aB rfl,aB rfl,rfl⟩ (kF ((p.den:Int)*(q.den:Int))) ?_
   refine aK 10 rfl (gG (Zn.of (k:=p.num*q.num) (by omega)) (Zn.of (k:=(p.den:Int)*(q.den:Int)) (by omega))) kD ⟨aB rfl,aB rfl,rfl⟩ (.tup [qF (.of (Rat.divInt (p.num*q.num) ((p.den:Int)*(q.den:Int)))),.one (tv (.int .i64 (if((p.den:Int)*(q.den:Int))=0 then 20 else 0)))]) ?_
   refine df 11 ?_;refine df 12 ?_;refine df 13 ?_;refine aZ 15 (by kernel_rfl) rfl rfl aA rfl rfl rfl rfl ⟨rfl,rfl,rfl,trivial⟩ ?_
   refine dH 16 (by kernel_rfl) rfl rfl aA rfl (by trivial) ?_ (fun h=>by first | rfl | cases h)
   refine aR ?_;exact⟨(),trivial,aH h0 [2,3] _ _ (by decide) ⟨rfl,rfl,trivial⟩ ⟨oe rfl rfl,oe rfl rfl,rfl⟩⟩
  refine bX (key:=3) 14 rfl rfl aA rfl ⟨rfl,rfl,rfl,trivial⟩ ?_;have hn4:=cT (p.num) (q.num)
  refine aK 4 rfl (fT (eP hs) (eP hs')) jM ⟨aB rfl,aB rfl,rfl⟩ (kF (p.num*q.num)) ?_;have hn5:=cT ((p.den:Int)) ((q.den:Int))
  refine aK 9 rfl (fT (dB hs) (dB hs')) jM ⟨aB rfl,aB rfl,rfl⟩ (kF ((p.den:Int)*(q.den:Int))) ?_
  refine aK 10 rfl (gG (Zn.of (k:=p.num*q.num) (by omega)) (Zn.of (k:=(p.den:Int)*(q.den:Int)) (by omega))) kD ⟨aB rfl,aB rfl,rfl⟩ (.tup [qF (.of (Rat.divInt (p.num*q.num) ((p.den:Int)*(q.den:Int)))),.one (tv (.int .i64 (if((p.den:Int)*(q.den:Int))=0 then 20 else 0)))]) ?_
  refine df 11 ?_;refine df 12 ?_;refine df 13 ?_;refine aZ 15 (by kernel_rfl) rfl rfl aA rfl rfl rfl rfl ⟨rfl,rfl,rfl,trivial⟩ ?_
  refine dH 16 (by kernel_rfl) rfl rfl aA rfl (by trivial) ?_ (fun h=>by first | rfl | cases h)
  refine aR ?_;exact⟨(),trivial,aH h0 [2,3] _ _ (by decide) ⟨rfl,rfl,trivial⟩ ⟨oe rfl rfl,oe rfl rfl,rfl⟩⟩
 refine sq ?_;refine rl ?_;refine ld ?_;refine st ?_;refine nl ?_;refine rt ?_
 exact en (.inl rfl) rfl (aW (.agg (.cons (.id rfl) (.cons (.id rfl) (.cons (.id rfl) (.cons (.id rfl) .nil)))))) (by decide) (fun h=>by cases h) (congrArg (fun q=>qF (.of q)) (by rw[←Rat.divInt_mul_divInt,Rat.num_divInt_den,Rat.num_divInt_den]))
theorem Gu {a b:Fr4}{p q:Rat}(ha:Qn a p) (hb:Qn b q) (hs:Sz 17179869184 p) (hs':Sz 17179869184 q):aD false Tryz.prog 27 [] [qF a,qF b] (aO (qF (.of (p-q)))):=by
 refine bP Tryz.func27 rfl Tryz.ntmps27 rfl aA rfl fun N w c0 h0=>?_
 refine sq ?_;refine rl ?_;refine bx 0 ?_;refine bx 1 ?_;refine al 2 ?_;refine nl ?_;refine sq ?_;refine rd [0,1,2] (fun i=>[4].contains i) mixed ?_
 refine aX 0 ?_;refine aX 1 ?_;refine aK 2 rfl (Gr hb) Wd ⟨aB rfl,rfl⟩ (qF (.of (-q))) ?_
 refine aK 3 rfl (Gs ha (Qn.of (p:=(-q)) (kI hs')) hs (kI hs')) We ⟨aB rfl,aB rfl,rfl⟩ (qF (.of (p+(-q)))) ?_;refine dst 4 ?_;refine aR ?_;refine rt ?_
 exact en (.inl rfl) rfl (aW (.agg (.cons (.id rfl) (.cons (.id rfl) (.cons (.id rfl) (.cons (.id rfl) .nil)))))) (by decide) (fun h=>by cases h) (by rw[Rat.sub_eq_add_neg];rfl)
theorem hG {a:Fr4}{p:Rat}(ha:Qn a p):aD true Tryz.prog 32 [] [qF a] (aO (.one (tv (.int .i64 p.num.sign)))):=by
 refine bP Tryz.func32 rfl Tryz.ntmps32 rfl aA rfl fun N w c0 h0=>?_
 refine sq ?_;refine rl ?_;refine bx 0 ?_;refine o1 ?_;refine nl ?_;refine sq ?_;refine rl ?_;refine ld ?_;refine ca (gR ha) pD ⟨aB rfl,rfl⟩ (qF (.of p)) ?_;refine o1 ?_
 refine ca (lN (eP ha.sz)) uO ⟨aB rfl,rfl⟩ (.one (tv (.int .i64 (p.num).sign))) ?_;refine o1 ?_;refine nl ?_;refine rt ?_
 exact en (.inl rfl) rfl (aW (cF _)) (by decide) (fun _=>trivial) rfl
theorem uR {a b:Fr4}{p q:Rat}(ha:Qn a p) (hb:Qn b q) (hs:Sz 17179869184 p) (hs':Sz 17179869184 q):aD true Tryz.prog 28 [] [qF a,qF b] (aO (.one (tv (.int .i64 (p-q).num.sign)))):=by
 refine bP Tryz.func28 rfl Tryz.ntmps28 rfl aA rfl fun N w c0 h0=>?_
 refine sq ?_;refine rl ?_;refine bx 0 ?_;refine bx 1 ?_;refine o1 ?_;refine nl ?_;refine sq ?_;refine rl ?_;refine ld ?_;refine ld ?_
 refine ca (Gu ha hb hs hs') Wf ⟨aB rfl,aB rfl,rfl⟩ (qF (.of (p-q))) ?_
 refine ca (hG (Qn.of (p:=(p-q)) (Sa hs hs'))) nS ⟨aB rfl,rfl⟩ (.one (tv (.int .i64 (p-q).num.sign))) ?_;refine o1 ?_;refine nl ?_;refine rt ?_
 exact en (.inl rfl) rfl (aW (cF _)) (by decide) (fun _=>trivial) rfl
end Go.Proofs.YthmgbcdidlkpoaaGreat
