/- Part 15 of a proof: E6 to Rim. -/
import Derived.Test.YthoemjjmkgmnjaaGreatM14
import Derived.Test.YthoemjjmkgmnjaaGreatM5
import Derived.Test.YthoemjjmkgmnjaaGreatM8
import Derived.ProofKit
import Derived.ChangeOld
import Derived.Deep.Slices
import Derived.Deep.Strs
import Derived.WalkKit
import Derived.OpenShut
import Derived.Below
import Derived.Carry
import Derived.Test.YthoemjjmkgmnjaaGreatM11
set_option maxRecDepth 100000
set_option linter.unusedVariables false
set_option linter.unusedSimpArgs false
namespace Go.Proofs.YthoemjjmkgmnjaaGreat
open Go Go.RowKit
set_option maxHeartbeats 4000000 in
theorem La {c:Fr4}{bk fw:Int}{ys:List (Fr4×Fr4)}(hc:Bf c) (hy:∀y∈ys,Bf y.1∧Bf y.2):aE true Tryz.prog 4 [] [.agg ((c.tr false++[.v (.int .i64 bk),.v (.int .i64 fw)]:List Tr).map .t),.one (.t (jB ys))] (aQ (.one (tv (.bool true)))):=by
 refine bO Tryz.func4 rfl Tryz.ntmps4 rfl aA rfl fun N w c0 h0=>?_
 refine sq ?_;refine rl ?_;refine bx 0 ?_;refine o1 ?_;refine nl ?_;refine sq ?_;refine sq ?_;refine rl ?_;refine ld ?_;refine o1 ?_
 refine ca (OW (c:=c) (bk:=bk) (fw:=fw) (ys:=ys)) UQ ⟨aB rfl,a1 rfl,rfl⟩ (.one (tv (.bool (wN c ys)))) ?_;refine WL.splitb (t:=17) rfl (fun h1=>?_) (fun h1=>?_)
 ·refine o1 ?_;refine nl ?_;refine iE rfl ?_;refine sk ?_;refine sq ?_;have hsm:=FC h1 hc hy
  have h50:=hsm.l
  have hlU:=Yy (bk:=bk) (fw:=fw) hsm;have hlR:=Yz (c:=c) (bk:=bk) (fw:=fw) (ys:=ys);have hoU:=FD (bk:=bk) (fw:=fw) hsm;have hoR:=FE (bk:=bk) (fw:=fw) hsm
  have hylen:∀y∈ys,y.1.len 1099511627776∧y.2.len 1099511627776:=fun y hy=>⟨xC (hsm.y y hy).1.2,xC (hsm.y y hy).2.2⟩
  refine rl ?_;refine o1 ?_;refine ca (Ss hylen (by omega)) SM ⟨a1 rfl,rfl⟩ (.one (.t (gA ys))) ?_
  refine o1 ?_;refine nl ?_;refine sq ?_;refine rl ?_;refine ld ?_
  refine ca (PA (c:=c) (bk:=bk) (fw:=fw) (xC hsm.c.2)) SN ⟨aB rfl,rfl⟩ (.agg ((c.tr false++[.v (.int .i64 bk),.v (.int .i64 fw)]:List Tr).map .t)) ?_;refine o1 ?_
  refine ca (OU (c:=c) (bk:=bk) (fw:=fw) hsm) SO ⟨aB rfl,a1 rfl,rfl⟩ (.tup [.agg [.t (mW false (cC c bk fw ys)),.t (lQ false (bZ c bk fw ys))],.one (tv (.int .i64 (cW c bk fw ys)))]) ?_
  (iterate 3 refine o1 ?_);refine al 1 ?_;refine st ?_;refine o1 ?_;refine nl ?_;refine sq ?_;refine sq ?_;refine rl ?_;refine o1 ?_;refine nl ?_;refine bl ?_
  refine lp (γ:=Nat) (fun t=>cG [(1,.one (.t (jB ys))),(2,.one (.pt 0 0)),(5,.one (.t (gA ys))),(6,.one (.pt 1 0)),(7,.one (tv (.int .i64 (cW c bk fw ys)))),(8,.one (tv (.int .i64 ((t:Nat):Int))))]) (fun _=>[(⟨28,0,(c.tr false++[.v (.int .i64 bk),.v (.int .i64 fw)]:List Tr).map .t⟩:Ob),⟨42,0,[.t (mW false (cC c bk fw ys)),.t (lQ false (bZ c bk fw ys))]⟩].map some) (fun t=>t≤2) (fun t=>2-t) 0 (Nat.zero_le _) (aP h0 [0,1] _ _ (by decide) ⟨rfl,rfl,rfl,rfl,rfl,rfl,trivial⟩ ⟨oe rfl rfl,oe rfl rfl,rfl⟩) fun t ht=>?_
  refine sq ?_;refine sq ?_;refine rl ?_;refine o1 ?_;refine o1 ?_;refine nl ?_;refine bQ rfl (fun h2=>?_) (fun h2=>?_)
  ·refine sk ?_;refine sq ?_;refine bl ?_;refine sq ?_;refine rl ?_;refine ld ?_;refine o1 ?_;refine gQ 2 (Vf (bk:=bk) (fw:=fw) hsm) jJ ⟨aB rfl,a1 rfl,rfl⟩ ?_
   (iterate 3 refine o1 ?_);refine al 4 ?_;refine st ?_;refine o1 ?_;refine nl ?_;refine sq ?_;refine sq ?_;refine rl ?_;(iterate 4 refine o1 ?_)
   refine WL.split (t:=42) rfl (fun h3=>?_) (fun h3=>?_)
   ·exact absurd rfl h3
   refine ld ?_;refine ld ?_
   refine ca (SK hoR hoU (by omega) (by omega)) SP ⟨Dh rfl (.cons (.sr rfl rfl (bB _ _ rfl) (dE true _) (zA true _)) (.cons (.sr rfl rfl (bB _ _ rfl) (eF true _) (zB true _)) .nil)),aB rfl,rfl⟩ (.one (tv (.bool true))) ?_
   refine o1 ?_;refine o1 ?_;refine nl ?_;refine iE rfl ?_;refine sk ?_;refine sq ?_;refine sq ?_;refine rl ?_;refine o1 ?_;refine nl ?_;refine bl ?_
   refine lp (γ:=Nat) (fun j=>cG [(1,.one (.t (jB ys))),(2,.one (.pt 0 0)),(5,.one (.t (gA ys))),(6,.one (.pt 1 0)),(7,.one (tv (.int .i64 (cW c bk fw ys)))),(8,.one (tv (.int .i64 ((t:Nat):Int)))),(9,.one (.pt 2 0)),(11,.one (tv (.int .i64 (((j:Nat):Int)-1))))]) (fun _=>[(⟨28,0,(c.tr false++[.v (.int .i64 bk),.v (.int .i64 fw)]:List Tr).map .t⟩:Ob),⟨42,0,[.t (mW false (cC c bk fw ys)),.t (lQ false (bZ c bk fw ys))]⟩,⟨35,0,[.sl 3 0 (cC c bk fw ys).length,.sl 4 0 (bZ c bk fw ys).length]⟩,⟨66,24,((cC c bk fw ys).flatMap (bV true)).map .t⟩,⟨46,14,((bZ c bk fw ys).flatMap (cF true)).map .t⟩].map some) (fun j=>j≤ys.length+2) (fun j=>ys.length+2-j) 0 (Nat.zero_le _) (aP h0 [0,1,4,2,3] _ _ (by decide) ⟨rfl,rfl,rfl,rfl,rfl,rfl,rfl,rfl,trivial⟩ ⟨oe rfl rfl,oe rfl rfl,oe rfl rfl,aD rfl,aD rfl,rfl⟩) fun j hj=>?_
   refine sq ?_;refine sq ?_;refine rl ?_;(iterate 4 refine o1 ?_);refine nl ?_;refine bQ rfl (fun h4=>?_) (fun h4=>?_)
   ·refine sk ?_;refine sq ?_;refine bl ?_;refine sq ?_
    have hszV:Sz 8000000 (dT (bZ c bk fw ys) (((j:Nat):Int)-1)):=by have h9:=mY (y:=(((j:Nat):Int)-1)) (k:=(bZ c bk fw ys).length) hoU (by omega);rwa[List.take_length]at h9
    have hszY:Sz 8000000 (bI (bZ c bk fw ys) (((j:Nat):Int)-1)):=by have h9:=yS (y:=(((j:Nat):Int)-1)) (k:=(bZ c bk fw ys).length) hoU (by omega);rwa[List.take_length]at h9
    refine rd [0,1,2,3,4] (fun i=>[].contains i) mixed ?_
    refine aM 0 ?_;refine dv 1 ?_;refine aM 3 ?_;refine dv 4 ?_
    refine aF 2 rfl (SG (rs:=(cC c bk fw ys)) (us:=(bZ c bk fw ys)) (y:=(((j:Nat):Int)-1)) hoU (by omega)) SQ ⟨Dh rfl (.cons (.sr rfl rfl (bB _ _ rfl) (dE true _) (zA true _)) (.cons (.sr rfl rfl (bB _ _ rfl) (eF true _) (zB true _)) .nil)),a1 rfl,rfl⟩ (qF (.of (dT (bZ c bk fw ys) (((j:Nat):Int)-1)))) ?_
    refine aF 5 rfl (Kr (rs:=(cC c bk fw ys)) (us:=(bZ c bk fw ys)) (y:=(((j:Nat):Int)-1)) hoU (by omega)) Zp ⟨aB rfl,a1 rfl,rfl⟩ (qF (.of (dT (bZ c bk fw ys) (((j:Nat):Int)-1)))) ?_
    refine aF 6 rfl (eX (a:=.of (dT (bZ c bk fw ys) (((j:Nat):Int)-1))) (gT (by assumption))) lT ⟨aB rfl,aB rfl,rfl⟩ (.one (tv (.bool true))) ?_
    refine df 7 ?_;refine df 8 ?_;refine aM 9 ?_;refine dv 10 ?_;refine aM 12 ?_;refine dv 13 ?_
    refine aF 11 rfl (SI (rs:=(cC c bk fw ys)) (us:=(bZ c bk fw ys)) (y:=(((j:Nat):Int)-1)) hoU (by omega)) SR ⟨Dh rfl (.cons (.sr rfl rfl (bB _ _ rfl) (dE true _) (zA true _)) (.cons (.sr rfl rfl (bB _ _ rfl) (eF true _) (zB true _)) .nil)),a1 rfl,rfl⟩ (qF (.of (bI (bZ c bk fw ys) (((j:Nat):Int)-1)))) ?_
    refine aF 14 rfl (Vu (rs:=(cC c bk fw ys)) (us:=(bZ c bk fw ys)) (y:=(((j:Nat):Int)-1)) hoU (by omega)) qT ⟨aB rfl,a1 rfl,rfl⟩ (qF (.of (bI (bZ c bk fw ys) (((j:Nat):Int)-1)))) ?_
    refine aF 15 rfl (eX (a:=.of (bI (bZ c bk fw ys) (((j:Nat):Int)-1))) (gT (by assumption))) lT ⟨aB rfl,aB rfl,rfl⟩ (.one (tv (.bool true))) ?_
    refine df 16 ?_;refine df 17 ?_;refine aH ?_;refine iE rfl ?_;refine sk ?_;refine rl ?_;refine o1 ?_;refine o1 ?_
    refine WL.cast (t:=53) (u':=.int .i64 ((((j+1):Nat):Int)-1)) rfl (aO (by omega)) ?_
    refine o1 ?_;refine nl ?_
    exact⟨j+1,by omega,by omega,aP h0 [0,1,2,3,4] _ _ (by decide) ⟨rfl,rfl,rfl,rfl,rfl,rfl,rfl,rfl,trivial⟩ ⟨oe rfl rfl,oe rfl rfl,oe rfl rfl,aD rfl,aD rfl,rfl⟩⟩
   refine ex ?_;refine sq ?_;refine sq ?_;refine rl ?_;refine o1 ?_;refine nl ?_;refine bl ?_
   refine lp (γ:=Nat) (fun i=>cG [(1,.one (.t (jB ys))),(2,.one (.pt 0 0)),(5,.one (.t (gA ys))),(6,.one (.pt 1 0)),(7,.one (tv (.int .i64 (cW c bk fw ys)))),(8,.one (tv (.int .i64 ((t:Nat):Int)))),(9,.one (.pt 2 0)),(12,.one (tv (.int .i64 ((i:Nat):Int))))]) (fun i=>[(⟨28,0,(c.tr false++[.v (.int .i64 bk),.v (.int .i64 fw)]:List Tr).map .t⟩:Ob),⟨42,0,[.t (mW false (cC c bk fw ys)),.t (lQ false (bZ c bk fw ys))]⟩,⟨35,0,[.sl 3 0 (cC c bk fw ys).length,.sl 4 0 (bZ c bk fw ys).length]⟩,⟨66,24,((cC c bk fw ys).flatMap (bV true)).map .t⟩,⟨46,14,u0 (bZ c bk fw ys) i⟩].map some) (fun i=>i≤(bZ c bk fw ys).length) (fun i=>(bZ c bk fw ys).length-i) 0 (Nat.zero_le _) (aP h0 [0,1,2,3,4] _ _ (by decide) ⟨rfl,rfl,rfl,rfl,rfl,rfl,rfl,rfl,trivial⟩ ⟨oe rfl rfl,oe rfl rfl,oe rfl rfl,aD rfl,oe (l:=u0 (bZ c bk fw ys) 0) (l':=u0 (bZ c bk fw ys) 0) qV (congrArg (fun l:List AV=>some (⟨46,14,l⟩:Ob)) FY.symm),rfl⟩) fun i hi=>?_
   refine sq ?_;refine sq ?_;refine rl ?_;refine o1 ?_;refine o1 ?_;refine ld ?_;refine o1 ?_;refine o1 ?_;refine nl ?_;refine bQ rfl (fun h5=>?_) (fun h5=>?_)
   ·refine sk ?_;refine sq ?_;refine bl ?_;refine sq ?_;have hi9:i<(bZ c bk fw ys).length:=by omega
    obtain⟨s1,s2,s3⟩:=hoU _ (jG (us:=(bZ c bk fw ys)) (k:=i) hi9)
    refine WP.sub (Bq (j:=4) (k1:=5) (k2:=6) (o:=0+i*14+2) (a:=(Fr4.of (aW (bZ c bk fw ys) i).n)) rfl rfl rfl (Zu hi9)) ?_;refine rl ?_;refine o1 ?_;refine ld ?_
    (iterate 3 refine o1 ?_);refine Jc (us:=jM (Fr4.of (aW (bZ c bk fw ys) i).n) 5 6) (gV (Zu hi9)) ?_
    refine cl 7 [5,6] (yZ (a:=(Fr4.of (aW (bZ c bk fw ys) i).n)) (gT s1).1 (gT s1).2) Su ⟨aD rfl,aD rfl,rfl⟩ ⟨rfl,rfl⟩ (ok:=[some ⟨109,1,(aJ (iT (Fr4.of (aW (bZ c bk fw ys) i).n)).x).map .t⟩,some ⟨109,1,(aJ (iT (Fr4.of (aW (bZ c bk fw ys) i).n)).y).map .t⟩]) ⟨aD rfl,aD rfl,rfl⟩ ?_
    refine nl ?_;refine sq ?_
    refine WP.sub (Br (j:=4) (k1:=5) (k2:=6) (o:=0+i*14+2) (a:=(Fr4.of (aW (bZ c bk fw ys) i).n)) (xs:=(iT (Fr4.of (aW (bZ c bk fw ys) i).n)).x) (ys:=(iT (Fr4.of (aW (bZ c bk fw ys) i).n)).y) rfl rfl rfl rfl (gV (Zu hi9)) rfl rfl List.length_replicate List.length_replicate (RZ hi9)) ?_
    refine WP.sub (aP h0 [0,1,2,3,4] [(1,.one (.t (jB ys))),(2,.one (.pt 0 0)),(5,.one (.t (gA ys))),(6,.one (.pt 1 0)),(7,.one (tv (.int .i64 (cW c bk fw ys)))),(8,.one (tv (.int .i64 ((t:Nat):Int)))),(9,.one (.pt 2 0)),(12,.one (tv (.int .i64 ((i:Nat):Int))))] [(⟨28,0,(c.tr false++[.v (.int .i64 bk),.v (.int .i64 fw)]:List Tr).map .t⟩:Ob),⟨42,0,[.t (mW false (cC c bk fw ys)),.t (lQ false (bZ c bk fw ys))]⟩,⟨35,0,[.sl 3 0 (cC c bk fw ys).length,.sl 4 0 (bZ c bk fw ys).length]⟩,⟨66,24,((cC c bk fw ys).flatMap (bV true)).map .t⟩,⟨46,14,u1 (bZ c bk fw ys) i⟩] (by decide) ⟨rfl,rfl,rfl,rfl,rfl,rfl,rfl,rfl,trivial⟩ ⟨oe rfl rfl,oe rfl rfl,oe rfl rfl,aD rfl,oe KS rfl,rfl⟩) ?_
    refine WP.sub (Bq (j:=4) (k1:=5) (k2:=6) (o:=0+i*14+10) (a:=(Fr4.of (aW (bZ c bk fw ys) i).q)) rfl rfl rfl (Zw hi9)) ?_;refine rl ?_;refine o1 ?_;refine ld ?_
    (iterate 3 refine o1 ?_);refine Jc (us:=jM (Fr4.of (aW (bZ c bk fw ys) i).q) 5 6) (gV (Zw hi9)) ?_
    refine cl 7 [5,6] (yZ (a:=(Fr4.of (aW (bZ c bk fw ys) i).q)) (gT s3).1 (gT s3).2) Su ⟨aD rfl,aD rfl,rfl⟩ ⟨rfl,rfl⟩ (ok:=[some ⟨109,1,(aJ (iT (Fr4.of (aW (bZ c bk fw ys) i).q)).x).map .t⟩,some ⟨109,1,(aJ (iT (Fr4.of (aW (bZ c bk fw ys) i).q)).y).map .t⟩]) ⟨aD rfl,aD rfl,rfl⟩ ?_
    refine nl ?_;refine sq ?_
    refine WP.sub (Br (j:=4) (k1:=5) (k2:=6) (o:=0+i*14+10) (a:=(Fr4.of (aW (bZ c bk fw ys) i).q)) (xs:=(iT (Fr4.of (aW (bZ c bk fw ys) i).q)).x) (ys:=(iT (Fr4.of (aW (bZ c bk fw ys) i).q)).y) rfl rfl rfl rfl (gV (Zw hi9)) rfl rfl List.length_replicate List.length_replicate (SA hi9)) ?_
    refine WP.sub (aP h0 [0,1,2,3,4] [(1,.one (.t (jB ys))),(2,.one (.pt 0 0)),(5,.one (.t (gA ys))),(6,.one (.pt 1 0)),(7,.one (tv (.int .i64 (cW c bk fw ys)))),(8,.one (tv (.int .i64 ((t:Nat):Int)))),(9,.one (.pt 2 0)),(12,.one (tv (.int .i64 ((i:Nat):Int))))] [(⟨28,0,(c.tr false++[.v (.int .i64 bk),.v (.int .i64 fw)]:List Tr).map .t⟩:Ob),⟨42,0,[.t (mW false (cC c bk fw ys)),.t (lQ false (bZ c bk fw ys))]⟩,⟨35,0,[.sl 3 0 (cC c bk fw ys).length,.sl 4 0 (bZ c bk fw ys).length]⟩,⟨66,24,((cC c bk fw ys).flatMap (bV true)).map .t⟩,⟨46,14,u0 (bZ c bk fw ys) (i+1)⟩] (by decide) ⟨rfl,rfl,rfl,rfl,rfl,rfl,rfl,rfl,trivial⟩ ⟨oe rfl rfl,oe rfl rfl,oe rfl rfl,aD rfl,oe qV rfl,rfl⟩) ?_
    refine WP.sub (Bq (j:=4) (k1:=5) (k2:=6) (o:=0+i*14+6) (a:=(Fr4.of (aW (bZ c bk fw ys) i).p)) rfl rfl rfl (So hi9)) ?_
    refine rd [0,1,2,4,5,6] (fun i=>[].contains i) mixed ?_
    refine dv 0 ?_;refine aM 1 ?_;refine dv 2 ?_;refine dv 3 ?_;refine dv 4 ?_;refine lS 5 (us:=jM (Fr4.of (aW (bZ c bk fw ys) i).p) 5 6) (gV (So hi9)) ?_;refine dv 6 ?_
    refine aM 7 ?_;refine dv 8 ?_;refine dv 9 ?_;refine dv 10 ?_
    refine dG 11 ((Fr4.of (aW (bZ c bk fw ys) (i)).p).tr false) (aX (f:=(cF false)) (z:=14) (o:=6) (dQ false) (dC (by omega)) (Nat.le_of_ble_eq_true rfl) rfl) ?_
    refine aF 12 rfl (eX (a:=(.of (aW (bZ c bk fw ys) i).p)) (by first | exact gT s1 | exact gT s2 | exact gT s3 | exact gT s4)) lT ⟨Dh rfl (.cons .t (.cons (.sl rfl rfl (bB _ _ rfl) (aU _)) (.cons .t (.cons (.sl rfl rfl (bB _ _ rfl) (aU _)) .nil)))),aB rfl,rfl⟩ (.one (tv (.bool true))) ?_
    refine df 13 ?_;refine aH ?_;refine iE rfl ?_;refine sk ?_
    refine WP.sub (Br (j:=4) (k1:=5) (k2:=6) (o:=0+i*14+6) (a:=(Fr4.of (aW (bZ c bk fw ys) i).p)) (xs:=(Fr4.of (aW (bZ c bk fw ys) i).p).x) (ys:=(Fr4.of (aW (bZ c bk fw ys) i).p).y) rfl rfl rfl rfl (gV (So hi9)) rfl rfl rfl rfl (Bs (So hi9))) ?_
    refine rl ?_;refine o1 ?_;refine o1 ?_;refine WL.cast (t:=78) (u':=.int .i64 ((i+1:Nat):Int)) rfl (aO (by omega)) ?_
    refine o1 ?_;refine nl ?_
    exact⟨i+1,by omega,by omega,aP h0 [0,1,2,3,4] _ _ (by decide) ⟨rfl,rfl,rfl,rfl,rfl,rfl,rfl,rfl,trivial⟩ ⟨oe rfl rfl,oe rfl rfl,oe rfl rfl,aD rfl,oe qV rfl,rfl⟩⟩
   refine ex ?_;refine sq ?_;refine rl ?_;refine o1 ?_;refine nl ?_;refine bl ?_
   refine lp (γ:=Nat) (fun i=>cG [(1,.one (.t (jB ys))),(2,.one (.pt 0 0)),(5,.one (.t (gA ys))),(6,.one (.pt 1 0)),(7,.one (tv (.int .i64 (cW c bk fw ys)))),(8,.one (tv (.int .i64 ((t:Nat):Int)))),(9,.one (.pt 2 0)),(13,.one (tv (.int .i64 ((i:Nat):Int))))]) (fun i=>[(⟨28,0,(c.tr false++[.v (.int .i64 bk),.v (.int .i64 fw)]:List Tr).map .t⟩:Ob),⟨42,0,[.t (mW false (cC c bk fw ys)),.t (lQ false (bZ c bk fw ys))]⟩,⟨35,0,[.sl 3 0 (cC c bk fw ys).length,.sl 4 0 (bZ c bk fw ys).length]⟩,⟨66,24,r0 (cC c bk fw ys) i⟩,⟨46,14,u0 (bZ c bk fw ys) (bZ c bk fw ys).length⟩].map some) (fun i=>i≤(cC c bk fw ys).length) (fun i=>(cC c bk fw ys).length-i) 0 (Nat.zero_le _) (aP h0 [0,1,2,3,4] _ _ (by decide) ⟨rfl,rfl,rfl,rfl,rfl,rfl,rfl,rfl,trivial⟩ ⟨oe rfl rfl,oe rfl rfl,oe rfl rfl,oe (l:=r0 (cC c bk fw ys) 0) (l':=r0 (cC c bk fw ys) 0) Ky (congrArg (fun l:List AV=>some (⟨66,24,l⟩:Ob)) FZ.symm),oe qV (congrArg (fun k=>some (⟨46,14,u0 (bZ c bk fw ys) k⟩:Ob)) (show i=(bZ c bk fw ys).length by omega)),rfl⟩) fun i hi=>?_
   refine sq ?_;refine sq ?_;refine rl ?_;refine o1 ?_;refine o1 ?_;refine ld ?_;refine o1 ?_;refine o1 ?_;refine nl ?_;refine bQ rfl (fun h6=>?_) (fun h6=>?_)
   ·refine sk ?_;refine sq ?_;refine bl ?_;refine sq ?_;have hi9:i<(cC c bk fw ys).length:=by omega
    obtain⟨s1,s2,s3,s4,s5,s6⟩:=hoR _ (Ju (rs:=(cC c bk fw ys)) (k:=i) hi9)
    refine WP.sub (Bq (j:=3) (k1:=5) (k2:=6) (o:=0+i*24) (a:=(Fr4.of (aC (cC c bk fw ys) i).l)) rfl rfl rfl (Zx hi9)) ?_;refine rl ?_;refine o1 ?_;refine ld ?_
    (iterate 3 refine o1 ?_);refine Jc (us:=jM (Fr4.of (aC (cC c bk fw ys) i).l) 5 6) (gV (Zx hi9)) ?_
    refine cl 7 [5,6] (yZ (a:=(Fr4.of (aC (cC c bk fw ys) i).l)) (gT s1).1 (gT s1).2) Su ⟨aD rfl,aD rfl,rfl⟩ ⟨rfl,rfl⟩ (ok:=[some ⟨109,1,(aJ (iT (Fr4.of (aC (cC c bk fw ys) i).l)).x).map .t⟩,some ⟨109,1,(aJ (iT (Fr4.of (aC (cC c bk fw ys) i).l)).y).map .t⟩]) ⟨aD rfl,aD rfl,rfl⟩ ?_
    refine nl ?_;refine sq ?_
    refine WP.sub (Br (j:=3) (k1:=5) (k2:=6) (o:=0+i*24) (a:=(Fr4.of (aC (cC c bk fw ys) i).l)) (xs:=(iT (Fr4.of (aC (cC c bk fw ys) i).l)).x) (ys:=(iT (Fr4.of (aC (cC c bk fw ys) i).l)).y) rfl rfl rfl rfl (gV (Zx hi9)) rfl rfl List.length_replicate List.length_replicate (SC hi9)) ?_
    refine WP.sub (aP h0 [0,1,2,3,4] [(1,.one (.t (jB ys))),(2,.one (.pt 0 0)),(5,.one (.t (gA ys))),(6,.one (.pt 1 0)),(7,.one (tv (.int .i64 (cW c bk fw ys)))),(8,.one (tv (.int .i64 ((t:Nat):Int)))),(9,.one (.pt 2 0)),(13,.one (tv (.int .i64 ((i:Nat):Int))))] [(⟨28,0,(c.tr false++[.v (.int .i64 bk),.v (.int .i64 fw)]:List Tr).map .t⟩:Ob),⟨42,0,[.t (mW false (cC c bk fw ys)),.t (lQ false (bZ c bk fw ys))]⟩,⟨35,0,[.sl 3 0 (cC c bk fw ys).length,.sl 4 0 (bZ c bk fw ys).length]⟩,⟨66,24,r1 (cC c bk fw ys) i⟩,⟨46,14,u0 (bZ c bk fw ys) (bZ c bk fw ys).length⟩] (by decide) ⟨rfl,rfl,rfl,rfl,rfl,rfl,rfl,rfl,trivial⟩ ⟨oe rfl rfl,oe rfl rfl,oe rfl rfl,oe KT rfl,oe qV rfl,rfl⟩) ?_
    refine WP.sub (Bq (j:=3) (k1:=5) (k2:=6) (o:=0+i*24+8) (a:=(Fr4.of (aC (cC c bk fw ys) i).u)) rfl rfl rfl (Zy hi9)) ?_;refine rl ?_;refine o1 ?_;refine ld ?_
    (iterate 3 refine o1 ?_);refine Jc (us:=jM (Fr4.of (aC (cC c bk fw ys) i).u) 5 6) (gV (Zy hi9)) ?_
    refine cl 7 [5,6] (yZ (a:=(Fr4.of (aC (cC c bk fw ys) i).u)) (gT s3).1 (gT s3).2) Su ⟨aD rfl,aD rfl,rfl⟩ ⟨rfl,rfl⟩ (ok:=[some ⟨109,1,(aJ (iT (Fr4.of (aC (cC c bk fw ys) i).u)).x).map .t⟩,some ⟨109,1,(aJ (iT (Fr4.of (aC (cC c bk fw ys) i).u)).y).map .t⟩]) ⟨aD rfl,aD rfl,rfl⟩ ?_
    refine nl ?_;refine sq ?_
    refine WP.sub (Br (j:=3) (k1:=5) (k2:=6) (o:=0+i*24+8) (a:=(Fr4.of (aC (cC c bk fw ys) i).u)) (xs:=(iT (Fr4.of (aC (cC c bk fw ys) i).u)).x) (ys:=(iT (Fr4.of (aC (cC c bk fw ys) i).u)).y) rfl rfl rfl rfl (gV (Zy hi9)) rfl rfl List.length_replicate List.length_replicate (SD hi9)) ?_
    refine WP.sub (aP h0 [0,1,2,3,4] [(1,.one (.t (jB ys))),(2,.one (.pt 0 0)),(5,.one (.t (gA ys))),(6,.one (.pt 1 0)),(7,.one (tv (.int .i64 (cW c bk fw ys)))),(8,.one (tv (.int .i64 ((t:Nat):Int)))),(9,.one (.pt 2 0)),(13,.one (tv (.int .i64 ((i:Nat):Int))))] [(⟨28,0,(c.tr false++[.v (.int .i64 bk),.v (.int .i64 fw)]:List Tr).map .t⟩:Ob),⟨42,0,[.t (mW false (cC c bk fw ys)),.t (lQ false (bZ c bk fw ys))]⟩,⟨35,0,[.sl 3 0 (cC c bk fw ys).length,.sl 4 0 (bZ c bk fw ys).length]⟩,⟨66,24,r0 (cC c bk fw ys) (i+1)⟩,⟨46,14,u0 (bZ c bk fw ys) (bZ c bk fw ys).length⟩] (by decide) ⟨rfl,rfl,rfl,rfl,rfl,rfl,rfl,rfl,trivial⟩ ⟨oe rfl rfl,oe rfl rfl,oe rfl rfl,oe Ky rfl,oe qV rfl,rfl⟩) ?_
    refine WP.sub (Bq (j:=3) (k1:=5) (k2:=6) (o:=0+i*24+12) (a:=(Fr4.of (aC (cC c bk fw ys) i).t)) rfl rfl rfl (Sp hi9)) ?_
    refine WP.sub (Bq (j:=3) (k1:=7) (k2:=8) (o:=0+i*24+4) (a:=(Fr4.of (aC (cC c bk fw ys) i).m)) rfl rfl rfl (Ig hi9)) ?_
    refine rd [0,1,2,3,5,6,7,8] (fun i=>[].contains i) mixed ?_
    refine dv 0 ?_;refine aM 1 ?_;refine dv 2 ?_;refine dv 3 ?_;refine dv 4 ?_;refine lS 5 (us:=jM (Fr4.of (aC (cC c bk fw ys) i).t) 5 6) (OV hi9 rfl) ?_;refine dv 6 ?_
    refine aM 7 ?_;refine dv 8 ?_;refine dv 9 ?_;refine dv 10 ?_
    refine dG 11 ((Fr4.of (aC (cC c bk fw ys) (i)).t).tr false) (aX (f:=(bV false)) (z:=24) (o:=12) (dM false) (eT (by omega)) (Nat.le_of_ble_eq_true rfl) rfl) ?_
    refine aF 12 rfl (eX (a:=(.of (aC (cC c bk fw ys) i).t)) (by first | exact gT s1 | exact gT s2 | exact gT s3 | exact gT s4)) lT ⟨Dh rfl (.cons .t (.cons (.sl rfl rfl (bB _ _ rfl) (aU _)) (.cons .t (.cons (.sl rfl rfl (bB _ _ rfl) (aU _)) .nil)))),aB rfl,rfl⟩ (.one (tv (.bool true))) ?_
    refine df 13 ?_;refine df 14 ?_;refine dv 15 ?_;refine aM 16 ?_;refine dv 17 ?_;refine dv 18 ?_;refine dv 19 ?_
    refine lS 20 (us:=jM (Fr4.of (aC (cC c bk fw ys) i).m) 7 8) (gV (Ig hi9)) ?_;refine dv 21 ?_;refine aM 22 ?_;refine dv 23 ?_;refine dv 24 ?_;refine dv 25 ?_
    refine dG 26 ((Fr4.of (aC (cC c bk fw ys) (i)).m).tr false) (aX (f:=(bV false)) (z:=24) (o:=4) (dM false) (eT (by omega)) (Nat.le_of_ble_eq_true rfl) rfl) ?_
    refine aF 27 rfl (eX (a:=(.of (aC (cC c bk fw ys) i).m)) (by first | exact gT s1 | exact gT s2 | exact gT s3 | exact gT s4)) lT ⟨Dh rfl (.cons .t (.cons (.sl rfl rfl (bB _ _ rfl) (aU _)) (.cons .t (.cons (.sl rfl rfl (bB _ _ rfl) (aU _)) .nil)))),aB rfl,rfl⟩ (.one (tv (.bool true))) ?_
    refine df 28 ?_;refine df 29 ?_;refine aH ?_;refine iE rfl ?_;refine sk ?_
    refine WP.sub (Br (j:=3) (k1:=7) (k2:=8) (o:=0+i*24+4) (a:=(Fr4.of (aC (cC c bk fw ys) i).m)) (xs:=(Fr4.of (aC (cC c bk fw ys) i).m).x) (ys:=(Fr4.of (aC (cC c bk fw ys) i).m).y) rfl rfl rfl rfl (gV (Ig hi9)) rfl rfl rfl rfl (Bs (Ig hi9))) ?_
    refine WP.sub (Br (j:=3) (k1:=5) (k2:=6) (o:=0+i*24+12) (a:=(Fr4.of (aC (cC c bk fw ys) i).t)) (xs:=(Fr4.of (aC (cC c bk fw ys) i).t).x) (ys:=(Fr4.of (aC (cC c bk fw ys) i).t).y) rfl rfl rfl rfl (gV (Sp hi9)) rfl rfl rfl rfl (Bs (Sp hi9))) ?_
    refine rl ?_;refine o1 ?_;refine o1 ?_;refine WL.cast (t:=113) (u':=.int .i64 ((i+1:Nat):Int)) rfl (aO (by omega)) ?_
    refine o1 ?_;refine nl ?_
    exact⟨i+1,by omega,by omega,aP h0 [0,1,2,3,4] _ _ (by decide) ⟨rfl,rfl,rfl,rfl,rfl,rfl,rfl,rfl,trivial⟩ ⟨oe rfl rfl,oe rfl rfl,oe rfl rfl,oe Ky rfl,oe qV rfl,rfl⟩⟩
   refine ex ?_;refine rl ?_;refine o1 ?_;refine o1 ?_;refine WL.cast (t:=32) (u':=.int .i64 ((t+1:Nat):Int)) rfl (aO (by omega)) ?_
   refine o1 ?_;refine nl ?_;exact⟨t+1,by omega,by omega,aP h0 [0,1] _ _ (by decide) ⟨rfl,rfl,rfl,rfl,rfl,rfl,trivial⟩ ⟨oe rfl rfl,oe rfl rfl,rfl⟩⟩
  refine ex ?_;refine sq ?_;refine sq ?_;refine rl ?_;refine o1 ?_;refine nl ?_;refine bl ?_
  refine lp (γ:=Nat) (fun i=>cG [(1,.one (.t (jB ys))),(5,.one (.t (gA ys))),(14,.one (tv (.int .i64 ((i:Nat):Int))))]) (fun _=>([]:List Ob).map some) (fun i=>i≤ys.length) (fun i=>ys.length-i) 0 (Nat.zero_le _) (aP h0 [] _ _ (by decide) ⟨rfl,rfl,rfl,trivial⟩ rfl) fun i hi=>?_
  refine sq ?_;refine sq ?_;refine rl ?_;(iterate 4 refine o1 ?_);refine nl ?_;refine bQ rfl (fun h7=>?_) (fun h7=>?_)
  ·refine sk ?_;refine sq ?_;refine bl ?_;refine sq ?_;refine rd [] (fun i=>[].contains i) mixed ?_
   refine dv 0 ?_;refine dv 1 ?_;refine dv 2 ?_;refine dv 3 ?_
   refine dG 4 ((bR ys (i)).1.tr false) (aX (f:=cA) (z:=8) (o:=0) dB (dW (by omega)) (Nat.le_of_ble_eq_true rfl) rfl) ?_
   refine dv 5 ?_;refine dv 6 ?_;refine dv 7 ?_;refine dv 8 ?_
   refine dG 9 ((bR ys (i)).1.tr false) (aX (f:=cA) (z:=8) (o:=0) dB (dW (by omega)) (Nat.le_of_ble_eq_true rfl) rfl) ?_
   refine aF 10 rfl (eX (a:=(bR ys (i)).1) (hylen _ (fZ (by omega))).1) lT ⟨aB rfl,aB rfl,rfl⟩ (.one (tv (.bool true))) ?_
   refine df 11 ?_;refine df 12 ?_;refine dv 13 ?_;refine dv 14 ?_;refine dv 15 ?_;refine dv 16 ?_
   refine dG 17 ((bR ys (i)).2.tr false) (aX (f:=cA) (z:=8) (o:=4) dB (dW (by omega)) (Nat.le_of_ble_eq_true rfl) rfl) ?_
   refine dv 18 ?_;refine dv 19 ?_;refine dv 20 ?_;refine dv 21 ?_
   refine dG 22 ((bR ys (i)).2.tr false) (aX (f:=cA) (z:=8) (o:=4) dB (dW (by omega)) (Nat.le_of_ble_eq_true rfl) rfl) ?_
   refine aF 23 rfl (eX (a:=(bR ys (i)).2) (hylen _ (fZ (by omega))).2) lT ⟨aB rfl,aB rfl,rfl⟩ (.one (tv (.bool true))) ?_
   refine df 24 ?_;refine df 25 ?_;refine aH ?_;refine iE rfl ?_;refine sk ?_;refine rl ?_;refine o1 ?_;refine o1 ?_
   refine WL.cast (t:=163) (u':=.int .i64 ((i+1:Nat):Int)) rfl (aO (by omega)) ?_
   refine o1 ?_;refine nl ?_;exact⟨i+1,by omega,by omega,aP h0 [] _ _ (by decide) ⟨rfl,rfl,rfl,trivial⟩ rfl⟩
  refine ex ?_;refine sq ?_;refine rl ?_;refine ca (Pp) RH rfl (.one (tv (.bool true))) ?_;refine o1 ?_;refine nl ?_;refine rt ?_
  exact en (.inl rfl) rfl (aN (bH _)) (by decide) (fun _=>trivial) rfl
 refine o1 ?_;refine nl ?_;refine iF rfl ?_;refine sq ?_;refine rl ?_;refine ca (Pp) RH rfl (.one (tv (.bool true))) ?_;refine o1 ?_;refine nl ?_;refine rt ?_
 exact en (.inl rfl) rfl (aN (bH _)) (by decide) (fun _=>trivial) rfl
end Go.Proofs.YthoemjjmkgmnjaaGreat
namespace Go.Proofs.YthoemjjmkgmnjaaGreat
open Go Go.RowKit Go.ChangeShapes
def Reads (P:Program) (t:TypeId) (z:Nat) (T:List Tr→Prop):Prop:=
 P.cellsOf t=z∧∀(H:Type) (enc:TypeId×Value→H) (w:World) (fuel:Nat) (cs:List Value) (x:DataW H×List MemPlace),DataW.trod enc P w 0 (fun _=>true) true fuel t cs=some x→∃l,T l∧l.length=z∧FRL w (Ak w) l cs
theorem Pr {W:World}{N:Nat→Prop}:∀{l l':List Tr}{us us':List Value},FRL W N l us→FRL W N l' us'→FRL W N (l++l') (us++us')
 | [],l',us,us',h,h'=>by simp only[FRL]at h;subst h;exact h'
 | x::l,l',u::us,us',h,h'=>by simp only[FRL,List.cons_append]at*;exact⟨h.1,Pr h.2 h'⟩
 | _::_,_,[],_,h,_=>by simp only[FRL]at h
theorem Ps {W:World}{N:Nat→Prop}:∀{l:List Tr}{us:List Value}{j:Nat}{x:Tr},FRL W N l us→l[j]? =some x→∃u,us[j]? =some u∧FR W N x u
 | [],_,_,_,_,h=>by simp at h
 | y::l,u::us,0,x,h,e=>by
  simp only[FRL]at h
  simp at e
  subst e
  exact⟨u,rfl,h.1⟩
 | y::l,u::us,j+1,x,h,e=>by
  simp only[FRL]at h
  exact Ps (j:=j) h.2 (by simpa using e)
 | _::_,[],_,_,h,_=>by simp only[FRL]at h
section
variable {P:Program}{t e:TypeId}{k:IntKind}{z:Nat}{T T':List Tr→Prop}
theorem Reads.mono (h:Reads P t z T) (hi:∀l,T l→T' l):Reads P t z T':=⟨h.1,fun H enc w fuel cs x hx=>let ⟨l,a,b⟩:=h.2 H enc w fuel cs x hx;⟨l,hi l a,b⟩⟩
theorem GC (ht:P.underlying t=some .bool) (hz:P.cellsOf t=1):Reads P t 1 (fun l=>∃b,l=[.v (.bool b)]):=⟨hz,fun H enc w fuel cs x hx=>by
 obtain⟨b,rfl,_⟩:=DataW.trod_bool ht hx
 exact⟨_,⟨b,rfl⟩,rfl,by simp[FRL,FR]⟩⟩
theorem Lb (ht:P.underlying t=some (.int k)) (hz:P.cellsOf t=1):Reads P t 1 (fun l=>∃n,l=[.v (.int k n)]∧k.min≤n∧n≤k.max):=⟨hz,fun H enc w fuel cs x hx=>by
 obtain⟨n,rfl,_,h⟩:=DataW.trod_int ht hx
 simp only[Lit.wf,Bool.and_eq_true,decide_eq_true_eq]at h
 exact⟨_,⟨n,rfl,h⟩,rfl,by simp[FRL,FR]⟩⟩
inductive Flds (P:Program):Nat→List Field→Nat→(List Tr→Prop)→Prop
 | nil {o:Nat}:Flds P o [] 0 (· =[])
 | cons {o z z':Nat}{f:Field}{fs:List Field}{T T':List Tr→Prop}(ho:f.offset=o) (h:Reads P f.type z T) (h':Flds P (o+z) fs z' T'):Flds P o (f::fs) (z+z') (fun l=>∃a b,l=a++b∧T a∧T' b)
theorem Flds.read {H:Type}{enc:TypeId×Value→H}{w:World}{n o:Nat}{fs:List Field}(h:Flds P o fs z T):∀{cs:List Value},o+z≤cs.length→(∀f∈fs,∃x,DataW.trod enc P w 0 (fun _=>true) true n f.type ((cs.drop f.offset).take (P.cellsOf f.type))=some x)→∃l,T l∧l.length=z∧FRL w (Ak w) l ((cs.drop o).take z):=by
 induction h with
 | nil=>exact fun _ _=>⟨[],rfl,rfl,by simp[FRL]⟩
 | @cons o z z' f fs T T' ho hr _ ih=>
  intro cs hl hf
  obtain⟨b,h1,h2,h3⟩:=ih (cs:=cs) (by omega) fun f hm=>hf f (List.mem_cons_of_mem _ hm)
  obtain⟨x,hx⟩:=hf f List.mem_cons_self
  obtain⟨a,g1,g2,g3⟩:=hr.2 H enc w n _ x hx
  rw[ho,hr.1]at g3
  refine⟨a++b,⟨a,b,rfl,g1,h1⟩,by simp[g2,h2],?_⟩
  rw[List.take_add,List.drop_drop]
  exact Pr g3 h3
theorem rZ {fs:List Field}{z':Nat}(ht:P.underlying t=some (.struct fs.toArray)) (hz:P.cellsOf t=z) (h:Flds P 0 fs z' T) (e:z'=z:=by rfl):Reads P t z T:=⟨hz,fun H enc w fuel cs x hx=>by
 subst e
 obtain⟨xs,n,_,rfl,hl,hlen,hf⟩:=DataW.trod_struct ht hx
 rw[hz]at hl
 obtain⟨l,h1,h2,h3⟩:=h.read (H:=H) (enc:=enc) (w:=w) (n:=n) (cs:=cs) (by omega) fun f hm=>by
  obtain⟨i,hi⟩:=List.mem_iff_getElem?.1 hm
  have h1:=hf i f (by simpa using hi)
  have h2:i<xs.length:=by
   have:=(List.getElem?_eq_some_iff.1 hi).1
   simp at hlen
   omega
  rw[List.getElem?_eq_getElem h2]at h1
  exact⟨_,h1⟩
 refine⟨l,h1,h2,?_⟩
 rw[List.drop_zero,List.take_of_length_le (by omega)]at h3
 exact h3⟩
theorem Lc (ht:P.underlying t=some (.slice e)) (hz:P.cellsOf t=1) (hz0:0<z) (h:Reads P e z T):Reads P t 1 (fun l=>∃rows:List (List Tr),(∀r∈rows,T r∧r.length=z)∧l=[.s false e z rows.length rows.flatten]):=⟨hz,fun H enc w fuel cs x hx=>by
 have hlen:∀(rows:List (List Tr)),(∀r∈rows,T r∧r.length=z)→rows.flatten.length=rows.length*z:=by
  intro rows
  induction rows with
  | nil=>intro _;simp
  | cons r rows ih=>
   intro hr
   rw[List.flatten_cons,List.length_append,(hr r List.mem_cons_self).2,ih fun r hm=>hr r (List.mem_cons_of_mem _ hm),List.length_cons,Nat.succ_mul,Nat.add_comm]
 rcases Deep.open_slice ht hx with⟨rfl,_⟩ | ⟨a,len,cap,m,n,D,Pl,rfl,_,hl,hm,hmm,_,hel⟩
 ·refine⟨_,⟨[],fun _ h=>(by cases h),rfl⟩,rfl,?_⟩
  simp only[FRL,FR,and_true]
  exact⟨none,0,rfl,Nat.le_refl _,by omega,by simp,.inl rfl⟩
 have hmc:m=cap:=by simpa using hmm
 rw[h.1]at hel
 have hex:∀i:Nat,∃l:List Tr,i<len→T l∧l.length=z∧∀j y,l[j]? =some y→∃u,w.cell? ((a.add (i*z)).add j)=some u∧FR w (Ak w) y u:=fun i=>by
  by_cases hi:i<len
  ·obtain⟨cs',h1,h2⟩:=hel i (by omega)
   obtain⟨l,g1,g2,g3⟩:=h.2 H enc w n cs' _ h2
   obtain⟨_,h3,h4⟩:=World.cells?_some h1
   refine⟨l,fun _=>⟨g1,g2,fun j y hj=>?_⟩⟩
   obtain⟨u,hu,hy⟩:=Ps g3 hj
   have hjl:=(List.getElem?_eq_some_iff.1 hj).1
   exact⟨u,by rw[h4 j (by omega),hu],hy⟩
  exact⟨[],fun h=>absurd h hi⟩
 have hF:=fun i=>Classical.choose_spec (hex i)
 have hrow:∀r∈(List.range len).map (fun i=>Classical.choose (hex i)),T r∧r.length=z:=fun r hr=>by
  obtain⟨i,hi,rfl⟩:=List.mem_map.1 hr
  have:=hF i (List.mem_range.1 hi)
  exact⟨this.1,this.2.1⟩
 refine⟨_,⟨_,hrow,rfl⟩,rfl,?_⟩
 have h5:=hlen _ hrow
 simp only[FRL,and_true,FR]
 refine⟨some a,cap,by simp,by simpa using hl,by unfold maxLen at hm;omega,h5,?_⟩
 rcases Nat.eq_zero_or_pos len with h0 | h0
 ·exact .inl (by simp[h0])
 refine .inr ⟨a,rfl,?_,xH fun j y hj=>?_⟩
 ·obtain⟨_,g2,g3⟩:=hF 0 h0
  obtain⟨u,hu,_⟩:=g3 0 _ (List.getElem?_eq_getElem (by omega))
  have:=World.block_lt_of_cell? w ((a.add (0*z)).add 0) hu
  rwa[iY,iY]at this
 have hjl:=(List.getElem?_eq_some_iff.1 hj).1
 rw[h5,List.length_map,List.length_range]at hjl
 have hi:j/z<len:=Nat.div_lt_of_lt_mul (by rw[Nat.mul_comm];exact hjl)
 obtain⟨_,g2,g3⟩:=hF (j/z) hi
 have hz1:=Nat.mod_lt j hz0
 have hget:∀(rows:List (List Tr)),(∀r∈rows,T r∧r.length=z)→∀(i o:Nat) (r:List Tr),rows[i]? =some r→o<z→rows.flatten[i*z+o]? =r[o]? :=by
  intro rows
  induction rows with
  | nil=>intro _ i o r h;simp at h
  | cons r rows ih=>
   intro hr i o r' hi ho
   have hrl:=(hr r List.mem_cons_self).2
   cases i with
   | zero=>
    simp at hi
    subst hi
    rw[Nat.zero_mul,Nat.zero_add,List.flatten_cons,List.getElem?_append_left (by omega)]
   | succ i=>
    rw[List.flatten_cons,List.getElem?_append_right (by rw[Nat.succ_mul];omega),hrl,show(i+1)*z+o-z=i*z+o by rw[Nat.succ_mul];omega]
    exact ih (fun r hm=>hr r (List.mem_cons_of_mem _ hm)) i o r' (by simpa using hi) ho
 have hd:=Nat.div_add_mod j z
 rw[Nat.mul_comm]at hd
 rw[←hd,hget _ hrow (j/z) (j%z) (Classical.choose (hex (j/z))) (by simp[hi]) hz1]at hj
 obtain⟨u,hu,hy⟩:=g3 _ _ hj
 refine⟨u,?_,hy⟩
 rw[Nat.zero_add]
 have e2:(a.add (j/z*z)).add (j%z)=a.add j:=by rw[yC,hd]
 rwa[e2]at hu⟩
theorem Fh {α:Type}(f:α→List Tr) (Q:α→Prop):∀{rows:List (List Tr)},(∀r∈rows,∃a,Q a∧r=f a)→∃xs:List α,(∀a∈xs,Q a)∧rows.flatten=xs.flatMap f∧rows.length=xs.length
 | [],_=>⟨[],fun _ h=>(by cases h),rfl,rfl⟩
 | r::rows,h=>by
  obtain⟨a,h1,rfl⟩:=h r List.mem_cons_self
  obtain⟨xs,h2,h3,h4⟩:=Fh f Q fun r hm=>h r (List.mem_cons_of_mem _ hm)
  exact⟨a::xs,fun b hb=>(List.mem_cons.1 hb).elim (fun e=>e▸h1) (h2 b),by simp[h3],by simp[h4]⟩
theorem AE (ht:P.underlying t=some (.slice e)) (he:P.underlying e=some (.int .u32)) (hz:P.cellsOf t=1) (hze:P.cellsOf e=1) (hn:e=109):Reads P t 1 (fun l=>∃xs:List Nat,Lim 4294967296 xs∧l=[sU false xs]):=
 (Lc ht hz (by omega) (Lb he hze)).mono fun l ⟨rows,h1,h2⟩=>by
  obtain⟨xs,h3,h4,h5⟩:=Fh (fun n:Nat=>[Tr.v (.int .u32 (n:Int))]) (fun n=>n<4294967296) (rows:=rows) fun r hr=>by
   obtain⟨⟨n,rfl,h1,h2⟩,_⟩:=h1 r hr
   have e1:IntKind.u32.min=0:=rfl
   have e2:IntKind.u32.max=4294967295:=rfl
   rw[e1]at h1
   rw[e2]at h2
   exact⟨n.toNat,by omega,by rw[Int.toNat_of_nonneg h1]⟩
  refine⟨xs,h3,?_⟩
  rw[h2,h4,h5,sU,hn]
  have:∀xs:List Nat,xs.flatMap (fun n:Nat=>[Tr.v (.int .u32 (n:Int))])=aJ xs:=by
   intro xs
   induction xs with
   | nil=>rfl
   | cons n xs ih=>rw[List.flatMap_cons,ih];rfl
  rw[this]
theorem GD (hb:Reads P t z (fun l=>∃a b,l=a++b∧(∃s,a=[.v (.bool s)])∧∃b' c',b=b'++c'∧(∃xs:List Nat,Lim 4294967296 xs∧b'=[sU false xs])∧c'=[])):Reads P t z (fun l=>∃(s:Bool) (xs:List Nat),Lim 4294967296 xs∧l=[.v (.bool s),sU false xs]):=
 hb.mono fun l ⟨a,b,h1,⟨s,h2⟩,b',c',h3,⟨xs,h4,h5⟩,h6⟩=>⟨s,xs,h4,by rw[h1,h2,h3,h5,h6];rfl⟩
end
def LimF (a:Fr4):Prop:=Lim 4294967296 a.x∧Lim 4294967296 a.y
end Go.Proofs.YthoemjjmkgmnjaaGreat
namespace Go.Proofs.YthoemjjmkgmnjaaGreat
open Go Go.ChangeShapes Go.WideShapes Go.ChangeAt Go.RowKit
theorem LF:Tryz.prog.cellsOf 24=2:=by kernel_rfl
theorem GF:Tryz.prog.cellsOf 4=1:=by kernel_rfl
theorem Wb:Tryz.prog.cellsOf 3=1:=by kernel_rfl
theorem LG:Tryz.prog.cellsOf 109=1:=by kernel_rfl
theorem AF:Tryz.prog.cellsOf 22=1:=by kernel_rfl
theorem LH:Tryz.prog.cellsOf 26=4:=by kernel_rfl
theorem Wc:Reads Tryz.prog 24 2 (fun l=>∃(s:Bool) (xs:List Nat),Lim 4294967296 xs∧l=[.v (.bool s),sU false xs]):=by
 have h1:=GC Tryz.underlying4 GF
 have h2:=AE Tryz.underlying22 Tryz.underlying109 AF LG rfl
 have h3:=rZ Tryz.underlying24 LF (.cons rfl h1 (.cons rfl h2 .nil))
 exact GD h3
theorem Ld:Reads Tryz.prog 26 4 (fun l=>∃a:Fr4,LimF a∧l=a.tr false):=
 (rZ Tryz.underlying26 LH (.cons rfl Wc (.cons rfl Wc .nil))).mono fun l ⟨a,b,h1,⟨s,xs,h2,h3⟩,b',c',h4,⟨t,ys,h5,h6⟩,h7⟩=>⟨⟨s,xs,t,ys⟩,⟨h2,h5⟩,by rw[h1,h3,h4,h6,h7];rfl⟩
theorem Pt {W:World}{N:Nat→Prop}:∀{l:List Tr}{us:List Value},FRL W N l us→ARL W N [] (l.map .t) us
 | [],us,h=>by simpa[FRL,ARL]using h
 | x::l,u::us,h=>by
  simp only[FRL]at h
  simp only[List.map_cons,ARL,AR]
  exact⟨h.1,Pt h.2⟩
 | _::_,[],h=>by simp only[FRL]at h
theorem LI {W:World}{l:List Tr}{cs:Array Value}(h:FRL W (Ak W) l (Value.agg cs).cells.toList):cB W (Ak W) [] (.agg (l.map .t)) (.agg cs):=⟨cs.toList,by simp,Pt (by simpa[Value.cells]using h)⟩
theorem LJ {W:World}{y:Tr}{u:Value}(hu:u.cells.toList=[u]) (h:FRL W (Ak W) [y] u.cells.toList):cB W (Ak W) [] (.one (.t y)) u:=by
 rw[hu]at h
 simp only[FRL,and_true]at h
 simpa only[cB,AR]using h
theorem LimF.sh {a:Fr4}(h:LimF a):Bf a:=fun h2=>by
 simp only[dO,Bool.and_eq_true,decide_eq_true_eq]at h2
 exact⟨h.1,h.2,by omega,by omega⟩
theorem PC:Tryz.prog.cellsOf 70=8:=by kernel_rfl
theorem AG:Tryz.prog.cellsOf 28=6:=by kernel_rfl
theorem LK:Tryz.prog.cellsOf 29=1:=by kernel_rfl
theorem PD:Reads Tryz.prog 70 8 (fun l=>∃y:Fr4×Fr4,(LimF y.1∧LimF y.2)∧l=cA y):=
 (rZ Tryz.underlying70 PC (.cons rfl Ld (.cons rfl Ld .nil))).mono
  fun l ⟨a,b,h1,⟨p,h2,h3⟩,b',c',h4,⟨q,h5,h6⟩,h7⟩=>⟨(p,q),⟨h2,h5⟩,by rw[h1,h3,h4,h6,h7];rfl⟩
theorem LL:Reads Tryz.prog 29 1 (fun l=>∃xs:List (Fr4×Fr4),(∀x∈xs,LimF x.1∧LimF x.2)∧l=[jB xs]):=
 (Lc Tryz.underlying29 LK (by omega) PD).mono fun l ⟨rows,h1,h2⟩=>by
  obtain⟨xs,h3,h4,h5⟩:=Fh cA (fun y:Fr4×Fr4=>LimF y.1∧LimF y.2) (rows:=rows) fun r hr=>(h1 r hr).1
  exact⟨xs,h3,by rw[h2,h4,h5];rfl⟩
theorem AH:Reads Tryz.prog 28 6 (fun l=>∃(c:Fr4) (bk fw:Int),LimF c∧l=c.tr false++[.v (.int .i64 bk),.v (.int .i64 fw)]):=
 (rZ Tryz.underlying28 AG (.cons rfl Ld (.cons rfl (Lb Tryz.underlying3 Wb) (.cons rfl (Lb Tryz.underlying3 Wb) .nil)))).mono
  fun l ⟨a,b,h1,⟨c,h2,h3⟩,b',c',h4,⟨m,h5,_⟩,d,e,h6,⟨n,h7,_⟩,h8⟩=>⟨c,m,n,h2,by rw[h1,h3,h4,h5,h6,h7,h8];rfl⟩
end Go.Proofs.YthoemjjmkgmnjaaGreat
