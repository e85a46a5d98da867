/- Part 13 of a proof: A6 to Rib7. -/
import Derived.Test.YtbbabfkgdnkehaaGreatM12
import Derived.Test.YtbbabfkgdnkehaaGreatM7
import Derived.Test.YtbbabfkgdnkehaaGreatM5
import Derived.Test.YtbbabfkgdnkehaaGreatM11
import Derived.Test.YtbbabfkgdnkehaaGreatM8
import Derived.ProofKit
import Derived.ChangeOld
import Derived.Deep.Slices
import Derived.Deep.Strs
import Derived.Test.YtbbabfkgdnkehaaGreatM10
import Derived.WalkKit
import Derived.OpenShut
import Derived.Below
import Derived.Carry
set_option maxRecDepth 100000
set_option linter.unusedVariables false
set_option linter.unusedSimpArgs false
namespace Go.Proofs.YtbbabfkgdnkehaaGreat
open Go Go.RowKit
theorem QN {xs:List Fr4}(hne:0<xs.length) (hx:∀x∈xs,x.ok∧Sz 17179869184 x.q) (hl:xs.length≤1099511627776):aG false Tryz.prog 63 [] [.one (.t (sQ false xs))] (aU (qF (.of (kZ (xs.map Fr4.q))))):=by
 refine cC Tryz.func63 rfl Tryz.ntmps63 rfl aB rfl fun N w c0 h0=>?_
 refine sq (rl (al 0 ?_));refine nl (sq (rl (o1 ?_)));refine o1 ?_;refine eE ((cZ xs (0)).tr false) (iE xs (k:=0) (by omega)) ?_
 refine ca (pI ⟨(hx _ (fK (by omega))).1,rfl⟩) Gh ⟨aD rfl,rfl⟩ (qF (.of (cZ xs (0)).q)) ?_
 refine al 1 ?_;refine st ?_;refine nl (sq (sq (rl (o1 ?_))));refine nl (bl ?_)
 refine lp (γ:=Nat) (fun k=>bS [(0,.one (.t (sQ false xs))),(2,.one (.pt 0 0)),(3,.one (.pt 1 0)),(4,.one (tv (.int .i64 ((k:Nat):Int))))]) (fun k=>[(⟨52,0,[tv (.bool false),tv (.slice none 0 0),tv (.bool false),tv (.slice none 0 0)]⟩:Ob),⟨52,0,((Fr4.of (kZ ((xs.take k).map Fr4.q))).tr false).map .t⟩].map some) (fun k=>1≤k∧k≤xs.length∧Sz 17179869184 (kZ ((xs.take k).map Fr4.q))) (fun k=>xs.length-k) 1 ⟨bC _,hne,by rw[In hne];exact(hx _ (fK hne)).2⟩ (aW h0 [0,1] ⟨oe rfl rfl,aC (congrArg (fun q=>some (⟨52,0,((Fr4.of q).tr false).map .t⟩:Ob)) (In hne).symm),rfl⟩) fun k hk=>?_
 refine sq (sq (rl ?_));(iterate 4 refine o1 ?_);refine nl ?_;refine bL rfl (fun h1=>?_) (fun h1=>?_)
 ·refine sk (sq (bl (sq ?_)));refine rd [0,1] (fun i=>[].contains i) mixed ?_
  refine dv 0 ?_;refine dv 1 ?_;refine dv 2 ?_;refine fM 3 ((cZ xs (k)).tr false) (iE xs (k:=k) (by omega)) ?_
  refine aO 4 ?_
  refine aX 5 rfl (PX ⟨(hx _ (fK (by omega))).1,rfl⟩ (Qn.of (p:=(kZ ((xs.take k).map Fr4.q))) hk.2.2) (hx _ (fK (by omega))).2 hk.2.2) XS ⟨aD rfl,aD rfl,rfl⟩ (.one (tv (.int .i64 ((cZ xs (k)).q-(kZ ((xs.take k).map Fr4.q))).num.sign))) ?_
  refine df 6 ?_;refine aV ?_;refine bL rfl (fun h2=>?_) (fun h2=>?_)
  ·refine rl ?_;(iterate 3 refine o1 ?_);refine eE ((cZ xs (k)).tr false) (iE xs (k:=k) (by omega)) ?_
   refine ca (pI ⟨(hx _ (fK (by omega))).1,rfl⟩) Gh ⟨aD rfl,rfl⟩ (qF (.of (cZ xs (k)).q)) ?_
   refine st ?_;refine nl (rl (o1 ?_));refine o1 ?_;refine aZ 14 (k+1) ?_
   refine o1 ?_;refine nl ?_;have hst:(kZ ((xs.take (k+1)).map Fr4.q))=(cZ xs k).q:=(Ei hk.1 (by omega)).trans (if_pos ((Yv _ _).1 h2))
   exact⟨k+1,by omega,⟨by omega,by omega,by rw[hst];exact(hx _ (fK (by omega))).2⟩,aW h0 [0,1] ⟨oe rfl rfl,aC (congrArg (fun q=>some (⟨52,0,((Fr4.of q).tr false).map .t⟩:Ob)) hst.symm),rfl⟩⟩
  refine sk (rl (o1 ?_));refine o1 ?_;refine aZ 14 (k+1) ?_
  refine o1 ?_;refine nl ?_;have hst:(kZ ((xs.take (k+1)).map Fr4.q))=(kZ ((xs.take k).map Fr4.q)):=(Ei hk.1 (by omega)).trans (if_neg fun h8=>h2 ((Yv _ _).2 h8))
  exact⟨k+1,by omega,⟨by omega,by omega,by rw[hst];exact hk.2.2⟩,aW h0 [0,1] ⟨oe rfl rfl,aC (congrArg (fun q=>some (⟨52,0,((Fr4.of q).tr false).map .t⟩:Ob)) hst.symm),rfl⟩⟩
 refine ex (sq (rl (ld ?_)));refine st ?_;refine nl (rt ?_)
 exact en (.inl rfl) rfl (bD (.agg (.cons (.id rfl) (.cons (.id rfl) (.cons (.id rfl) (.cons (.id rfl) .nil)))))) (by decide) (fun h=>by cases h) (by rw[fF (by omega)];rfl)
section
variable {x:Cx}{g:Nat→FV}{ob:List (Option Ob)}{Q:Post}
theorem WP.sln {c:Code}{i t z n:Nat}{o:Bool}{l:List Tr}(hlk:lk x.n g (.tmp i)=.one (.t (.s o t z n l))) (k:n≤9223372036854775807→WP x c g ob Q):WP x c g ob Q:=fun ts W hR=>by
 obtain⟨cs,hR'⟩:=hR
 have h1:=hR'.lk (.tmp i)
 rw[hlk]at h1
 simp only[bO,bZ,AR,FR]at h1
 obtain⟨A,c9,_,h2,h3,_⟩:=h1
 exact k (by omega) ts W ⟨cs,hR'⟩
end
def wN (y:Yr) (E:Nat):Bool:=decide ((y.m.length:Int)=(E:Int))&&(decide ((y.b.length:Int)=(E:Int))&&(qV y.l&&decide (0≤y.l.q.num.sign)))
def mV (fw:Int) (ys:List Yr) (k:Nat):Bool:=(decide (0≤fw)&&decide (fw≤40))&&(ys.take k).all fun y=>gV y (aK ys 0).m.length
def wO (fw:Int) (ys:List Yr) (k j:Nat):Bool:=(mV fw ys k&&wN (aK ys k) (aK ys 0).m.length)&&((aK ys k).b.take j).all qV
theorem Io {fw:Int}{ys:List Yr}:mV fw ys 0=(decide (0≤fw)&&decide (fw≤40)):=by simp[mV]
theorem qA {fw:Int}{ys:List Yr}{k:Nat}:wO fw ys k 0=(mV fw ys k&&wN (aK ys k) (aK ys 0).m.length):=by simp[wO]
theorem Ip {fw:Int}{ys:List Yr}{k j:Nat}(h:j<(aK ys k).b.length):wO fw ys k (j+1)=(wO fw ys k j&&qV (cZ (aK ys k).b j)):=by
 have h1:(aK ys k).b.take (j+1)=(aK ys k).b.take j++[cZ (aK ys k).b j]:=by
  rw[List.take_add_one,dC h]
  simp[cZ,h]
 unfold wO
 rw[h1,List.all_append,List.all_cons,List.all_nil,Bool.and_true,Bool.and_assoc,Bool.and_assoc,Bool.and_assoc]
theorem Vc {y:Yr}{E:Nat}:(wN y E&&y.b.all qV)=gV y E:=by
 unfold wN gV
 rw[show(!(y.b.any fun a=> !qV a))=y.b.all qV by rw[List.any_eq_not_all_not];simp]
 cases decide ((y.m.length:Int)=(E:Int)) <;> cases decide ((y.b.length:Int)=(E:Int)) <;> cases qV y.l <;> cases decide (0≤y.l.q.num.sign) <;> cases y.b.all qV <;> rfl
theorem EM {fw:Int}{ys:List Yr}{k j:Nat}(hk:k<ys.length) (hj:(aK ys k).b.length≤j):wO fw ys k j=mV fw ys (k+1):=by
 have h1:ys.take (k+1)=ys.take k++[aK ys k]:=by
  rw[List.take_add_one,cY hk]
  rfl
 unfold wO mV
 rw[fF hj,h1,List.all_append,List.all_cons,List.all_nil,Bool.and_true,←Vc,Bool.and_assoc,Bool.and_assoc,Bool.and_assoc]
theorem Mw {fw:Int}{ys:List Yr}:(!mV fw ys ys.length)=(decide (fw<0)||(decide (40<fw)|| ys.any fun y=> !gV y (aK ys 0).m.length)):=by
 unfold mV
 rw[List.take_length,show(decide (fw<0))= !decide (0≤fw) by rw[←decide_not];exact decide_eq_decide.2 (by omega),show(decide (40<fw))= !decide (fw≤40) by rw[←decide_not];exact decide_eq_decide.2 (by omega),List.any_eq_not_all_not]
 cases decide (0≤fw) <;> cases decide (fw≤40) <;> simp
theorem Ej {v:Vn}(hl:Sz 1000 v.l) (hu:Sz 1000 v.u) (hx:Sz 1000 v.x):aG false Tryz.prog 34 [] [.agg ((cF false v).map .t)] (aU (qF (.of (v.l-(v.u+v.x))))):=by
 refine cC Tryz.func34 rfl Tryz.ntmps34 rfl aB rfl fun N9 w9 c0 h0=>?_
 refine sq (rl (bx 0 ?_));refine al 1 ?_;refine nl (sq ?_);refine rd [0,1] (fun i=>[8].contains i) mixed ?_
 refine dv 0 ?_;refine aO 1 ?_;refine dv 2 ?_;refine aO 3 ?_;refine dv 4 ?_;refine aO 5 ?_
 refine aX 6 rfl (uU (Qn.of (L:=1000) hu) (Qn.of (L:=1000) hx) (hu.mono (by omega)) (hx.mono (by omega))) Gi ⟨aD rfl,aD rfl,rfl⟩ (qF (.of (v.u+v.x))) ?_
 refine aX 7 rfl (oG (Qn.of (L:=1000) hl) (Qn.of (L:=2001) (yO hu hx)) (hl.mono (by omega)) ((yO hu hx).mono (by omega))) wJ ⟨aD rfl,aD rfl,rfl⟩ (qF (.of (v.l-(v.u+v.x)))) ?_
 refine dst 8 ?_;refine aV ?_;refine rt ?_;exact en (.inl rfl) rfl (bD (.agg (.cons (.id rfl) (.cons (.id rfl) (.cons (.id rfl) (.cons (.id rfl) .nil)))))) (by decide) (fun h=>by cases h) (rfl)
theorem Rz {fw:Int}{ys:List Yr}(hb:∀y∈ys,(∀a∈y.b,a.ok)∧y.l.ok∧y.b.length≤1073741823):aG true Tryz.prog 32 [] [.one (tv (.int .i64 fw)),.one (.t (sB false ys))] (aU (.one (tv (.bool (mV fw ys ys.length))))):=by
 refine cC Tryz.func32 rfl Tryz.ntmps32 rfl aB rfl fun N9 w9 c0 h0=>?_
 refine WP.sln (i:=1) rfl fun hlen=>?_
 refine sq (rl (o1 ?_));refine nl ?_
 refine md (γ:=Unit) (fun _=>bS [(1,.one (.t (sB false ys))),(5,.one (tv (.bool (mV fw ys 0))))]) (fun _=>([]:List Ob).map some) (fun _=>True) ?_ fun _ _=>?_
 ·refine rl ?_;(iterate 3 refine o1 ?_);refine WL.split (t:=10) rfl (fun h1=>?_) (fun h1=>?_)
  ·(iterate 4 refine o1 ?_);refine nl ?_
   exact⟨(),trivial,kM h0 [] _ _ (by decide) ⟨rfl,nH (by rw[Io];simp only[decide_eq_true h1,Bool.not_true,Bool.not_false,Bool.or_true,Bool.true_or,Bool.false_or,Bool.or_false,Bool.false_eq_true,if_true,if_false,ite_true,ite_false,Bool.and_true,Bool.true_and,Bool.false_and,Bool.and_false,Bool.not_not] <;> first | rfl | (simp;done) | grind),trivial⟩ rfl⟩
  refine dL ?_;refine dL ?_;refine o1 ?_;refine o1 ?_;refine nl ?_
  exact⟨(),trivial,kM h0 [] _ _ (by decide) ⟨rfl,nH (by rw[Io];simp only[decide_eq_false h1,Bool.not_true,Bool.not_false,Bool.or_true,Bool.true_or,Bool.false_or,Bool.or_false,Bool.false_eq_true,if_true,if_false,ite_true,ite_false,Bool.and_true,Bool.true_and,Bool.false_and,Bool.and_false,Bool.not_not] <;> first | rfl | (simp;done) | grind),trivial⟩ rfl⟩
 refine sq (sq (rl (o1 ?_)));refine nl (bl ?_)
 refine lp (γ:=Nat) (fun s=>bS [(1,.one (.t (sB false ys))),(5,.one (tv (.bool (mV fw ys s)))),(6,.one (tv (.int .i64 ((s:Nat):Int))))]) (fun s=>([]:List Ob).map some) (fun s=>s≤ys.length) (fun s=>ys.length-s) 0 (Nat.zero_le _) (aW h0 [] rfl) ?_
 rintro k hk;refine sq (sq (rl ?_));(iterate 4 refine o1 ?_);refine nl ?_;refine bL rfl (fun h2=>?_) (fun h2=>?_)
 ·refine sk (sq (bl ?_))
  refine md (γ:=Unit) (fun _=>bS [(1,.one (.t (sB false ys))),(6,.one (tv (.int .i64 ((k:Nat):Int)))),(5,.one (tv (.bool (wO fw ys k 0))))]) (fun _=>([]:List Ob).map some) (fun _=>True) ?_ fun _ _=>?_
  ·refine rd [] (fun i=>[46].contains i) mixed ?_
   refine dv 0 ?_;refine dv 1 ?_;refine WD.splitb (t:=21) rfl (fun h3=>?_) (fun h3=>?_)
   ·refine dv 2 ?_;refine dv 3 ?_;refine dv 4 ?_;refine dv 5 ?_
    refine fM 6 ([gU (aK ys (k)).m]) (bH (f:=eG) (z:=6) (o:=0) dS (cY (by omega)) (bN rfl) rfl) ?_
    refine dv 7 ?_;refine dv 8 ?_;refine dv 9 ?_;refine dv 10 ?_
    refine fM 11 ([gU (aK ys (0)).m]) (bH (f:=eG) (z:=6) (o:=0) dS (cY (by omega)) (bN rfl) rfl) ?_
    refine dv 12 ?_;refine dv 13 ?_;refine dv 14 ?_;refine dv 15 ?_;refine WD.split (t:=35) rfl rfl (fun h4=>?_) (fun h4=>?_)
    ·refine dv 16 ?_;refine dv 17 ?_;refine dv 18 ?_;refine dv 19 ?_
     refine fM 20 ([sQ false (aK ys (k)).b]) (bH (f:=eG) (z:=6) (o:=1) dS (cY (by omega)) (bN rfl) rfl) ?_
     refine dv 21 ?_;refine dv 22 ?_;refine dv 23 ?_;refine dv 24 ?_
     refine fM 25 ([gU (aK ys (0)).m]) (bH (f:=eG) (z:=6) (o:=0) dS (cY (by omega)) (bN rfl) rfl) ?_
     refine dv 26 ?_;refine dv 27 ?_;refine dv 28 ?_;refine dv 29 ?_;refine WD.split (t:=49) rfl rfl (fun h5=>?_) (fun h5=>?_)
     ·refine dv 30 ?_;refine dv 31 ?_;refine dv 32 ?_;refine dv 33 ?_
      refine fM 34 ((aK ys (k)).l.tr false) (bH (f:=eG) (z:=6) (o:=2) dS (cY (by omega)) (bN rfl) rfl) ?_
      refine aX 35 rfl (Cp (a:=(aK ys (k)).l) (p:=(aK ys (k)).l.q) ⟨(hb _ (fR (by omega))).2.1,rfl⟩) EA ⟨aD rfl,rfl⟩ (.one (tv (.bool (qV (aK ys (k)).l)))) ?_
      refine df 36 ?_;refine df 37 ?_;refine WD.splitb (t:=57) rfl (fun h6=>?_) (fun h6=>?_)
      ·refine dv 38 ?_;refine dv 39 ?_;refine dv 40 ?_;refine dv 41 ?_
       refine fM 42 ((aK ys (k)).l.tr false) (bH (f:=eG) (z:=6) (o:=2) dS (cY (by omega)) (bN rfl) rfl) ?_
       refine aX 43 rfl (Ao (a:=(aK ys (k)).l) (p:=(aK ys (k)).l.q) ⟨(hb _ (fR (by omega))).2.1,rfl⟩) Uz ⟨aD rfl,rfl⟩ (.one (tv (.int .i64 (aK ys (k)).l.q.num.sign))) ?_
       refine df 44 ?_;refine df 45 ?_;refine eQ 46 (by kernel_rfl) rfl rfl aB rfl (by trivial) ?_ (fun h=>by first | rfl | cases h)
       refine aV ?_
       exact⟨(),trivial,kM h0 [] _ _ (by decide) ⟨rfl,rfl,nH (by rw[qA];unfold wN;simp only[decide_eq_true h2,h3,decide_eq_true h4,decide_eq_true h5,h6,ge_iff_le,Bool.not_true,Bool.not_false,Bool.or_true,Bool.true_or,Bool.false_or,Bool.or_false,Bool.false_eq_true,if_true,if_false,ite_true,ite_false,Bool.and_true,Bool.true_and,Bool.false_and,Bool.and_false,Bool.not_not] <;> first | rfl | (simp;done) | grind),trivial⟩ rfl⟩
      refine cN 38 ?_;refine cN 39 ?_;refine cN 40 ?_;refine cN 41 ?_;refine cN 42 ?_;refine cN 43 ?_;refine cN 44 ?_;refine df 45 ?_
      refine eQ 46 (by kernel_rfl) rfl rfl aB rfl (by trivial) ?_ (fun h=>by first | rfl | cases h)
      refine aV ?_
      exact⟨(),trivial,kM h0 [] _ _ (by decide) ⟨rfl,rfl,nH (by rw[qA];unfold wN;simp only[decide_eq_true h2,h3,decide_eq_true h4,decide_eq_true h5,h6,ge_iff_le,Bool.not_true,Bool.not_false,Bool.or_true,Bool.true_or,Bool.false_or,Bool.or_false,Bool.false_eq_true,if_true,if_false,ite_true,ite_false,Bool.and_true,Bool.true_and,Bool.false_and,Bool.and_false,Bool.not_not] <;> first | rfl | (simp;done) | grind),trivial⟩ rfl⟩
     refine cN 30 ?_;refine cN 31 ?_;refine cN 32 ?_;refine cN 33 ?_;refine cN 34 ?_;refine cN 35 ?_;refine dv 36 ?_;refine dv 37 ?_;refine cN 38 ?_;refine cN 39 ?_
     refine cN 40 ?_;refine cN 41 ?_;refine cN 42 ?_;refine cN 43 ?_;refine cN 44 ?_;refine dv 45 ?_
     refine eQ 46 (by kernel_rfl) rfl rfl aB rfl (by trivial) ?_ (fun h=>by first | rfl | cases h)
     refine aV ?_
     exact⟨(),trivial,kM h0 [] _ _ (by decide) ⟨rfl,rfl,nH (by rw[qA];unfold wN;simp only[decide_eq_true h2,h3,decide_eq_true h4,decide_eq_false h5,ge_iff_le,Bool.not_true,Bool.not_false,Bool.or_true,Bool.true_or,Bool.false_or,Bool.or_false,Bool.false_eq_true,if_true,if_false,ite_true,ite_false,Bool.and_true,Bool.true_and,Bool.false_and,Bool.and_false,Bool.not_not] <;> first | rfl | (simp;done) | grind),trivial⟩ rfl⟩
    refine cN 16 ?_;refine cN 17 ?_;refine cN 18 ?_;refine cN 19 ?_;refine cN 20 ?_;refine cN 21 ?_;refine cN 22 ?_;refine cN 23 ?_;refine cN 24 ?_;refine cN 25 ?_
    refine cN 26 ?_;refine cN 27 ?_;refine dv 28 ?_;refine dv 29 ?_;refine cN 30 ?_;refine cN 31 ?_;refine cN 32 ?_;refine cN 33 ?_;refine cN 34 ?_;refine cN 35 ?_
    refine dv 36 ?_;refine dv 37 ?_;refine cN 38 ?_;refine cN 39 ?_;refine cN 40 ?_;refine cN 41 ?_;refine cN 42 ?_;refine cN 43 ?_;refine cN 44 ?_;refine dv 45 ?_
    refine eQ 46 (by kernel_rfl) rfl rfl aB rfl (by trivial) ?_ (fun h=>by first | rfl | cases h)
    refine aV ?_
    exact⟨(),trivial,kM h0 [] _ _ (by decide) ⟨rfl,rfl,nH (by rw[qA];unfold wN;simp only[decide_eq_true h2,h3,decide_eq_false h4,ge_iff_le,Bool.not_true,Bool.not_false,Bool.or_true,Bool.true_or,Bool.false_or,Bool.or_false,Bool.false_eq_true,if_true,if_false,ite_true,ite_false,Bool.and_true,Bool.true_and,Bool.false_and,Bool.and_false,Bool.not_not] <;> first | rfl | (simp;done) | grind),trivial⟩ rfl⟩
   refine cN 2 ?_;refine cN 3 ?_;refine cN 4 ?_;refine cN 5 ?_;refine cN 6 ?_;refine cN 7 ?_;refine cN 8 ?_;refine cN 9 ?_;refine cN 10 ?_;refine cN 11 ?_;refine cN 12 ?_
   refine cN 13 ?_;refine dv 14 ?_;refine dv 15 ?_;refine cN 16 ?_;refine cN 17 ?_;refine cN 18 ?_;refine cN 19 ?_;refine cN 20 ?_;refine cN 21 ?_;refine cN 22 ?_
   refine cN 23 ?_;refine cN 24 ?_;refine cN 25 ?_;refine cN 26 ?_;refine cN 27 ?_;refine dv 28 ?_;refine dv 29 ?_;refine cN 30 ?_;refine cN 31 ?_;refine cN 32 ?_
   refine cN 33 ?_;refine cN 34 ?_;refine cN 35 ?_;refine dv 36 ?_;refine dv 37 ?_;refine cN 38 ?_;refine cN 39 ?_;refine cN 40 ?_;refine cN 41 ?_;refine cN 42 ?_
   refine cN 43 ?_;refine cN 44 ?_;refine dv 45 ?_;refine eQ 46 (by kernel_rfl) rfl rfl aB rfl (by trivial) ?_ (fun h=>by first | rfl | cases h)
   refine aV ?_
   exact⟨(),trivial,kM h0 [] _ _ (by decide) ⟨rfl,rfl,nH (by rw[qA];unfold wN;simp only[decide_eq_true h2,h3,ge_iff_le,Bool.not_true,Bool.not_false,Bool.or_true,Bool.true_or,Bool.false_or,Bool.or_false,Bool.false_eq_true,if_true,if_false,ite_true,ite_false,Bool.and_true,Bool.true_and,Bool.false_and,Bool.and_false,Bool.not_not] <;> first | rfl | (simp;done) | grind),trivial⟩ rfl⟩
  refine sq ?_;have hbl:=(hb _ (fR (l:=ys) (i:=k) (by omega))).2.2
  refine rl (o1 ?_);refine nl (bl ?_)
  refine lp (γ:=Nat) (fun s=>bS [(1,.one (.t (sB false ys))),(5,.one (tv (.bool (wO fw ys k s)))),(6,.one (tv (.int .i64 ((k:Nat):Int)))),(7,.one (tv (.int .i64 ((s:Nat):Int))))]) (fun s=>([]:List Ob).map some) (fun s=>s≤(aK ys (k)).b.length) (fun s=>(aK ys (k)).b.length-s) 0 (Nat.zero_le _) (aW h0 [] rfl) ?_
  rintro j hj;refine sq (sq (rl ?_));(iterate 5 refine o1 ?_)
  refine eE ([sQ false (aK ys (k)).b]) (bH (f:=eG) (z:=6) (o:=1) dS (cY (by omega)) (bN rfl) rfl) ?_
  refine o1 ?_;refine o1 ?_;refine nl ?_;refine bL rfl (fun h7=>?_) (fun h7=>?_)
  ·refine sk (sq (bl (rl (o1 ?_))));refine o1 ?_;refine WL.splitb (t:=77) rfl (fun h8=>?_) (fun h8=>?_)
   ·(iterate 4 refine o1 ?_);refine eE ([sQ false (aK ys (k)).b]) (bH (f:=eG) (z:=6) (o:=1) dS (cY (by omega)) (bN rfl) rfl) ?_
    refine o1 ?_;refine o1 ?_;refine eE ((cZ (aK ys (k)).b (j)).tr false) (iE (aK ys (k)).b (k:=j) (by omega)) ?_
    refine ca (Cp (a:=(cZ (aK ys (k)).b (j))) (p:=(cZ (aK ys (k)).b (j)).q) ⟨((hb _ (fR (by omega))).1 _ (fK (by omega))),rfl⟩) EA ⟨aD rfl,rfl⟩ (.one (tv (.bool (qV (cZ (aK ys (k)).b (j)))))) ?_
    refine o1 ?_;refine o1 ?_;refine nl (rl (o1 ?_));refine o1 ?_;refine aZ 75 (j+1) ?_
    refine o1 ?_;refine nl ?_
    exact⟨j+1,by omega,by omega,kM h0 [] _ _ (by decide) ⟨rfl,nH (by rw[Ip (by omega)];simp only[decide_eq_true h7,h8,Bool.not_true,Bool.not_false,Bool.or_true,Bool.true_or,Bool.false_or,Bool.or_false,Bool.false_eq_true,if_true,if_false,ite_true,ite_false,Bool.and_true,Bool.true_and,Bool.false_and,Bool.and_false,Bool.not_not] <;> first | rfl | (simp;done) | grind),rfl,qU (by omega),trivial⟩ rfl⟩
   (iterate 9 refine dL ?_);refine o1 ?_;refine o1 ?_;refine nl (rl (o1 ?_));refine o1 ?_
   refine aZ 75 (j+1) ?_
   refine o1 ?_;refine nl ?_
   exact⟨j+1,by omega,by omega,kM h0 [] _ _ (by decide) ⟨rfl,nH (by rw[Ip (by omega)];simp only[decide_eq_true h7,h8,Bool.not_true,Bool.not_false,Bool.or_true,Bool.true_or,Bool.false_or,Bool.or_false,Bool.false_eq_true,if_true,if_false,ite_true,ite_false,Bool.and_true,Bool.true_and,Bool.false_and,Bool.and_false,Bool.not_not] <;> first | rfl | (simp;done) | grind),rfl,qU (by omega),trivial⟩ rfl⟩
  refine ex (rl (o1 ?_));refine o1 ?_;refine aZ 19 (k+1) ?_
  refine o1 ?_;refine nl ?_;exact⟨k+1,by omega,by omega,kM h0 [] _ _ (by decide) ⟨rfl,nH (EM (j:=j) (by omega) (by omega)).symm,qU (by omega),trivial⟩ rfl⟩
 refine ex (sq (rl (o1 ?_)));refine o1 ?_;refine nl (rt ?_);exact jQ (.inl rfl) rfl (by rw[show k=ys.length by omega])
theorem uY {a b c:Rat}(ha:Sz 17179869184 a) (hb:Sz 17179869184 b) (hc:Sz 17179869184 c):aG false Tryz.prog 63 [] [.one (.t (sQ false [Fr4.of a,Fr4.of b,Fr4.of c]))] (aU (qF (.of (aJ a [b,c])))):=by
 have h:=QN (xs:=[Fr4.of a,Fr4.of b,Fr4.of c]) (by simp) (by
  intro x hx
  simp only[Dh,List.not_mem_nil,or_false]at hx
  rcases hx with rfl | rfl | rfl
  ·exact⟨(Qn.of (ha.mono (M:=68719476736) (by omega))).1,by rw[Fr4.q_of];exact ha⟩
  ·exact⟨(Qn.of (hb.mono (M:=68719476736) (by omega))).1,by rw[Fr4.q_of];exact hb⟩
  exact⟨(Qn.of (hc.mono (M:=68719476736) (by omega))).1,by rw[Fr4.q_of];exact hc⟩) (by simp)
 have e:kZ ([Fr4.of a,Fr4.of b,Fr4.of c].map Fr4.q)=aJ a [b,c]:=by
  show aJ (Fr4.of a).q [(Fr4.of b).q,(Fr4.of c).q]=_
  rw[Fr4.q_of,Fr4.q_of,Fr4.q_of]
 rwa[e]at h
set_option maxHeartbeats 4000000 in
theorem EN {R:Rg}{N t:Nat}(hOk:R.Ok N) (ht:t<N):rB false Tryz.prog 33 [] [⟨106,5,((R.rls (R.run t) t).flatMap rlt).map .t⟩,⟨87,18,((R.vns (R.run t) (R.ex (R.run t) t) (fun _ _=>(0:Rat)) (R.vl t)).flatMap (cF false)).map .t⟩,⟨109,7,((R.run t).flatMap (eM false)).map .t⟩] [.agg [.sl 0 0 t,.sl 1 0 (R.vl t).length,.sl 2 0 (R.run t).length],.one (tv (.int .i64 ((R.f:Nat):Int))),.one (tv (.int .i64 ((t:Nat):Int))),.agg ((R.yrq t).map .t)] (aU (.agg [.t (kW true (R.rls (R.run (t+1)) (t+1))),.t (kU true (R.vns (R.run (t+1)) (R.ex (R.run (t+1)) (t+1)) (fun _ _=>(0:Rat)) (R.vl (t+1)))),.t (kV true (R.run (t+1)))])):=by
 refine PA (lent:=[]) Tryz.func33 rfl Tryz.ntmps33 rfl aB rfl fun N9 M9 w9 c0 h0=>?_
 have hE:=hOk.e;have hN:=hOk.n;have hF:=hOk.f
 have hms:(R.ms t).length=R.E:=Lj
 have hbl:((R.bs t).map Fr4.of).length=R.E:=by rw[dF];exact nW
 have hvl:=lK (R:=R) hE t
 have hvl1:=lK (R:=R) hE (t+1)
 have hrl:=sA (R:=R) hOk (k:=t) (by omega)
 have hrl1:=sA (R:=R) hOk (k:=t+1) (by omega)
 refine sq (rl (bx 3 ?_));refine bx 4 ?_;refine al 5 ?_;refine nl (sq (rl (ca (An) Uy rfl (qF (.of (0:Rat))) ?_)));refine al 6 ?_
 refine st ?_;refine nl (sq (rl (ld ?_)));refine o1 ?_;refine al 7 ?_;refine st ?_;refine nl (sq (sq (rl (o1 ?_))));refine nl ?_
 refine bl (WP.sub (yR (j:=7) (key:=8) (e:=52) (z:=4) rfl rfl rfl (.id (.id (.id (.id (.sl .nil)))))) ?_)
 refine lp (γ:=Nat) (fun s=>bS [(1,.one (tv (.int .i64 ((R.f:Nat):Int)))),(2,.one (tv (.int .i64 ((t:Nat):Int)))),(4,.one (.pt 3 0)),(7,.one (.pt 4 0)),(8,.one (.pt 5 0)),(9,.one (.pt 6 0)),(10,.one (.pt 7 0)),(11,.one (tv (.int .i64 ((s:Nat):Int))))]) (fun s=>[(⟨106,5,((R.rls (R.run t) t).flatMap rlt).map .t⟩:Ob),⟨87,18,((R.vns (R.run t) (R.ex (R.run t) t) (fun _ _=>(0:Rat)) (R.vl t)).flatMap (cF false)).map .t⟩,⟨109,7,((R.run t).flatMap (eM false)).map .t⟩,⟨31,0,[.sl 0 0 t,.sl 1 0 (R.vl t).length,.sl 2 0 (R.run t).length]⟩,⟨83,0,(R.yrq t).map .t⟩,⟨31,0,[tv (.slice none 0 0),tv (.slice none 0 0),tv (.slice none 0 0)]⟩,⟨52,0,((Fr4.of (0:Rat)).tr false).map .t⟩,⟨106,0,((Fr4.of (0:Rat)).tr false).map .t++([.sl 8 0 s]:List AV)⟩,⟨52,4,(((List.range s).map (fun _=>(0:Rat))).flatMap qt).map .t⟩].map some) (fun s=>s≤R.E) (fun s=>R.E-s) 0 (Nat.zero_le _) (aW h0 [0,1,2,3,4,5,6,7,8] ⟨aC rfl,aC rfl,aC rfl,oe rfl rfl,aC rfl,oe rfl rfl,aC rfl,oe rfl rfl,aC rfl,rfl⟩) ?_
 rintro k hk;refine sq (sq (rl (o1 ?_)));refine o1 ?_;refine ld ?_;refine o1 ?_;refine o1 ?_;refine nl ?_;refine bL rfl (fun h1=>?_) (fun h1=>?_)
 ·refine sk (sq (bl (rl (o1 ?_))));refine ld ?_;refine ld ?_;refine bs 9 ?_
  refine iN (j:=10) (n:=k) (l:=(((List.range k).map (fun _=>(0:Rat))).flatMap qt).map .t) aB rfl rfl rfl rfl (.sl rfl (by rw[dF,bE mG,dF,List.length_range])) (.sl rfl rfl rfl) rfl rfl rfl (by omega) (by omega) ?_
  refine o1 ?_;refine st ?_;refine nl (rl (o1 ?_));refine o1 ?_;refine aZ 27 (k+1) ?_
  refine o1 ?_;refine nl ?_
  exact⟨k+1,by omega,by omega,aW h0 [0,1,2,3,4,5,6,7,10] ⟨aC rfl,aC rfl,aC rfl,oe rfl rfl,aC rfl,oe rfl rfl,aC rfl,oe rfl rfl,aC (congrArg (fun l:List AV=>some (⟨52,4,l⟩:Ob)) ((Rw ((List.range k).map (fun _=>(0:Rat))) (0:Rat)).trans (by rw[List.range_succ,List.map_append];rfl))),rfl⟩⟩
 refine ex (sq (sq (rl (o1 ?_))));refine nl (bl ?_);have hkE:k=R.E:=by omega
 have hzy:(0:Rat)=(cV (R.fw t 0) t):=(Qu (bC _)).symm
 have hzb:((List.range k).map (fun _=>(0:Rat)))=(R.by9 (R.fw t 0) t):=by rw[hkE];exact Yq fun e _=>Qv (bC _)
 refine lp (γ:=Nat) (fun s=>bS [(1,.one (tv (.int .i64 ((R.f:Nat):Int)))),(2,.one (tv (.int .i64 ((t:Nat):Int)))),(4,.one (.pt 3 0)),(7,.one (.pt 4 0)),(8,.one (.pt 5 0)),(9,.one (.pt 6 0)),(10,.one (.pt 7 0)),(12,.one (tv (.int .i64 ((s:Nat):Int))))]) (fun s=>[(⟨106,5,((R.rls (R.run t) t).flatMap rlt).map .t⟩:Ob),⟨87,18,((R.vns (R.fw t s) (R.ex (R.run t) t) (fun _ _=>(0:Rat)) (R.vl t)).flatMap (cF false)).map .t⟩,⟨109,7,((R.fw t s).flatMap (eM false)).map .t⟩,⟨31,0,[.sl 0 0 t,.sl 1 0 (R.vl t).length,.sl 2 0 (R.fw t s).length]⟩,⟨83,0,(R.yrq t).map .t⟩,⟨31,0,[tv (.slice none 0 0),tv (.slice none 0 0),tv (.slice none 0 0)]⟩,⟨52,0,((Fr4.of (0:Rat)).tr false).map .t⟩,⟨106,0,((Fr4.of (cV (R.fw t s) t)).tr false).map .t++([.sl 8 0 (R.by9 (R.fw t s) t).length]:List AV)⟩,⟨52,4,((R.by9 (R.fw t s) t).flatMap qt).map .t⟩].map some) (fun s=>s≤(R.vl t).length) (fun s=>(R.vl t).length-s) 0 (Nat.zero_le _) (aW h0 [0,1,2,3,4,5,6,7,8] ⟨aC rfl,aC rfl,aC rfl,oe rfl rfl,aC rfl,oe rfl rfl,aC rfl,oe rfl (by have h9:(some ⟨106,0,((Fr4.of (0:Rat)).tr false).map .t++([.sl 8 0 k]:List AV)⟩:Option Ob)=some ⟨106,0,((Fr4.of (cV (R.fw t 0) t)).tr false).map .t++([.sl 8 0 (R.by9 (R.fw t 0) t).length]:List AV)⟩:=(by rw[←hzy,←hzb,dF,List.length_range]);exact h9),aC (by have h9:(some ⟨52,4,(((List.range k).map (fun _=>(0:Rat))).flatMap qt).map .t⟩:Option Ob)=some ⟨52,4,((R.by9 (R.fw t 0) t).flatMap qt).map .t⟩:=(by rw[hzb]);exact h9),rfl⟩) ?_
 rintro i hi;refine sq (sq (rl (o1 ?_)));refine o1 ?_;refine ld ?_;refine o1 ?_;refine o1 ?_;refine nl ?_;refine bL rfl (fun h2=>?_) (fun h2=>?_)
 ·refine sk (sq (bl (sq ?_)));have hi9:i<(R.vl t).length:=by omega
  obtain⟨hp1,hp2,hp3⟩:=gK.1 (Cr (l:=(R.vl t)) hi9)
  have hIv:R.Iv N (R.fw t i):=VF hOk ht
  have hfl:=LO (R:=R) (i:=i) hOk ht
  have hvl9:(R.vns (R.fw t i) (R.ex (R.run t) t) (fun _ _=>(0:Rat)) (R.vl t)).length=(R.vl t).length:=dP
  have hge:(R.vns (R.fw t i) (R.ex (R.run t) t) (fun _ _=>(0:Rat)) (R.vl t))[i]? =some (⟨(aA (R.vl t) i).1,(aA (R.vl t) i).2,(R.los (aA (R.vl t) i).1 (aA (R.vl t) i).2),(cS (R.fw t i) (aA (R.vl t) i).1 (aA (R.vl t) i).2),((R.ex (R.run t) t) (aA (R.vl t) i).1 (aA (R.vl t) i).2),(0:Rat)⟩:Vn):=by
   unfold Rg.vns;rw[List.getElem?_map,mU hi9];rfl
  have hb9:(R.by9 (R.fw t i) t).length=R.E:=uK
  have hsl:Sz 300 (R.los (aA (R.vl t) i).1 (aA (R.vl t) i).2):=hOk.sz_los (by omega) hp2
  have hsu:Sz 300 (cS (R.fw t i) (aA (R.vl t) i).1 (aA (R.vl t) i).2):=hIv.sz_vOf hOk (by omega) hp2
  have hsx:Sz 300 ((R.ex (R.run t) t) (aA (R.vl t) i).1 (aA (R.vl t) i).2):=Jw hOk (hOk.run (by omega)) (by omega) hp2
  have hse:Sz 300 (dQ (R.fw t i) t (aA (R.vl t) i).2):=hIv.sz_eIn hOk ht hp2
  have hsy:Sz 300 (cV (R.fw t i) t):=hIv.sz_yIn hOk ht
  have hsb:=hOk.base t (aA (R.vl t) i).2 ht hp2
  have hsm:=hOk.lim t ht
  have hslf:Sz 2100 ((R.los (aA (R.vl t) i).1 (aA (R.vl t) i).2)-((cS (R.fw t i) (aA (R.vl t) i).1 (aA (R.vl t) i).2)+((R.ex (R.run t) t) (aA (R.vl t) i).1 (aA (R.vl t) i).2))):=(jZ hsl (yO hsu hsx)).mono (by omega)
  have hm1:Sz 17179869184 ((R.los (aA (R.vl t) i).1 (aA (R.vl t) i).2)-((cS (R.fw t i) (aA (R.vl t) i).1 (aA (R.vl t) i).2)+((R.ex (R.run t) t) (aA (R.vl t) i).1 (aA (R.vl t) i).2))):=hslf.mono (by omega)
  have hm2:Sz 17179869184 (R.base t (aA (R.vl t) i).2-(dQ (R.fw t i) t (aA (R.vl t) i).2)):=(jZ hsb hse).mono (by omega)
  have hm3:Sz 17179869184 (R.lim t-(cV (R.fw t i) t)):=(jZ hsm hsy).mono (by omega)
  have hsn:Sz 2100 (aJ ((R.los (aA (R.vl t) i).1 (aA (R.vl t) i).2)-((cS (R.fw t i) (aA (R.vl t) i).1 (aA (R.vl t) i).2)+((R.ex (R.run t) t) (aA (R.vl t) i).1 (aA (R.vl t) i).2))) [(R.base t (aA (R.vl t) i).2-(dQ (R.fw t i) t (aA (R.vl t) i).2)),(R.lim t-(cV (R.fw t i) t))]):=pH hslf (by
   intro q hq;rcases List.mem_cons.1 hq with rfl | hq
   ·exact(jZ hsb hse).mono (by omega)
   rw[List.mem_singleton]at hq
   subst hq;exact(jZ hsm hsy).mono (by omega))
  have hmm:nU (R.ms t) (aA (R.vl t) i).2=R.mem t (aA (R.vl t) i).2:=rX hp2
  refine rl (o1 ?_);refine ld ?_;refine o1 ?_;refine o1 ?_
  refine Mi (cJ (f:=(cF false)) (z:=18) (o:=0) (us:=(cF false) ⟨(aA (R.vl t) i).1,(aA (R.vl t) i).2,(R.los (aA (R.vl t) i).1 (aA (R.vl t) i).2),(cS (R.fw t i) (aA (R.vl t) i).1 (aA (R.vl t) i).2),((R.ex (R.run t) t) (aA (R.vl t) i).1 (aA (R.vl t) i).2),(0:Rat)⟩) (cQ false) (hge) (bN rfl) rfl) ?_
  refine al 9 ?_;refine st ?_;refine nl (sq (sq (rl (o1 ?_))));refine ld ?_;refine o1 ?_;refine ld ?_;refine o1 ?_
  refine eE ([.v (.bool (nU (R.ms t) ((aA (R.vl t) i).2)))]) (Jz (R.ms t) (k:=(aA (R.vl t) i).2) (by omega)) ?_
  refine WL.splitb (t:=51) rfl (fun h3=>?_) (fun h3=>?_)
  ·refine o1 ?_;refine nl (gD rfl (sk ?_))
   refine md (γ:=Unit) (fun _=>bS [(1,.one (tv (.int .i64 ((R.f:Nat):Int)))),(2,.one (tv (.int .i64 ((t:Nat):Int)))),(4,.one (.pt 0 0)),(7,.one (.pt 4 0)),(8,.one (.pt 5 0)),(9,.one (.pt 6 0)),(10,.one (.pt 7 0)),(12,.one (tv (.int .i64 ((i:Nat):Int)))),(13,.one (.pt 9 0)),(14,.one (.pt 10 0))]) (fun _=>([⟨31,0,[.sl 1 0 (t),.sl 2 0 ((R.vl t).length),.sl 3 0 ((R.fw t i).length)]⟩,⟨106,5,((R.rls (R.run t) t).flatMap rlt).map .t⟩,⟨87,18,((R.vns (R.fw t i) (R.ex (R.run t) t) (fun _ _=>(0:Rat)) (R.vl t)).flatMap (cF false)).map .t⟩,⟨109,7,((R.fw t i).flatMap (eM false)).map .t⟩,⟨83,0,[.t (gU (R.ms t)),.t (sQ false ((R.bs t).map Fr4.of)),tv (.bool (aM (R.lim t).num)),.t (sU false (dg 4294967296 (R.lim t).num.natAbs)),tv (.bool false),.t (sU false (dg 4294967296 (R.lim t).den))]⟩,⟨31,0,[tv (.slice none 0 0),tv (.slice none 0 0),tv (.slice none 0 0)]⟩,⟨52,0,((Fr4.of (0:Rat)).tr false).map .t⟩,⟨106,0,[tv (.bool (aM (cV (R.fw t i) t).num)),.t (sU false (dg 4294967296 (cV (R.fw t i) t).num.natAbs)),tv (.bool false),.t (sU false (dg 4294967296 (cV (R.fw t i) t).den)),.sl 8 0 ((R.by9 (R.fw t i) t).length)]⟩,⟨52,4,((R.by9 (R.fw t i) t).flatMap qt).map .t⟩,⟨87,0,[tv (.int .i64 (((aA (R.vl t) i).1:Nat):Int)),tv (.int .i64 (((aA (R.vl t) i).2:Nat):Int)),tv (.bool (aM (R.los (aA (R.vl t) i).1 (aA (R.vl t) i).2).num)),.t (sU false (dg 4294967296 (R.los (aA (R.vl t) i).1 (aA (R.vl t) i).2).num.natAbs)),tv (.bool false),.t (sU false (dg 4294967296 (R.los (aA (R.vl t) i).1 (aA (R.vl t) i).2).den)),tv (.bool (aM (cS (R.fw t i) (aA (R.vl t) i).1 (aA (R.vl t) i).2).num)),.t (sU false (dg 4294967296 (cS (R.fw t i) (aA (R.vl t) i).1 (aA (R.vl t) i).2).num.natAbs)),tv (.bool false),.t (sU false (dg 4294967296 (cS (R.fw t i) (aA (R.vl t) i).1 (aA (R.vl t) i).2).den)),tv (.bool (aM ((R.ex (R.run t) t) (aA (R.vl t) i).1 (aA (R.vl t) i).2).num)),.t (sU false (dg 4294967296 ((R.ex (R.run t) t) (aA (R.vl t) i).1 (aA (R.vl t) i).2).num.natAbs)),tv (.bool false),.t (sU false (dg 4294967296 ((R.ex (R.run t) t) (aA (R.vl t) i).1 (aA (R.vl t) i).2).den)),tv (.bool (aM (0:Rat).num)),.t (sU false (dg 4294967296 (0:Rat).num.natAbs)),tv (.bool false),.t (sU false (dg 4294967296 (0:Rat).den))]⟩,⟨52,0,((Fr4.of (aJ ((R.los (aA (R.vl t) i).1 (aA (R.vl t) i).2)-((cS (R.fw t i) (aA (R.vl t) i).1 (aA (R.vl t) i).2)+((R.ex (R.run t) t) (aA (R.vl t) i).1 (aA (R.vl t) i).2))) [(R.base t (aA (R.vl t) i).2-(dQ (R.fw t i) t (aA (R.vl t) i).2)),(R.lim t-(cV (R.fw t i) t))])).tr false).map .t⟩]:List Ob).map some) (fun _=>True) ?_ fun _ _=>?_
   ·refine rd [3,4,5,6,7,8,9] (fun i=>[23].contains i) mixed ?_
    refine aO 0 ?_;refine dv 2 ?_;refine aO 3 ?_;refine dv 4 ?_;refine aO 5 ?_;refine dv 6 ?_
    refine fM 7 ((Fr4.of (R.base t (aA (R.vl t) i).2)).tr false) ((by rw[←nV hp2,←pB (by rw[nW];exact hp2)];exact iE ((R.bs t).map Fr4.of) (k:=(aA (R.vl t) i).2) (by omega))) ?_
    refine dv 8 ?_;refine aO 9 ?_;refine dv 10 ?_;refine aO 11 ?_;refine dv 12 ?_
    refine lH 13 (cJ (f:=qt) (z:=4) (o:=0) (us:=qt (dQ (R.fw t i) t (aA (R.vl t) i).2)) mG ((Mv hp2)) (bN rfl) rfl) ?_
    refine dv 15 ?_;refine aO 16 ?_;refine dv 17 ?_;refine aO 18 ?_;refine WO.two (i:=1) (j:=22) (by kernel_rfl) ?_ ?_
    ·refine fG 1 rfl (Ej (v:=(⟨(aA (R.vl t) i).1,(aA (R.vl t) i).2,(R.los (aA (R.vl t) i).1 (aA (R.vl t) i).2),(cS (R.fw t i) (aA (R.vl t) i).1 (aA (R.vl t) i).2),((R.ex (R.run t) t) (aA (R.vl t) i).1 (aA (R.vl t) i).2),(0:Rat)⟩:Vn)) (by exact hsl.mono (by omega)) (by exact hsu.mono (by omega)) (by exact hsx.mono (by omega))) Vd ⟨aD rfl,rfl⟩ (qF (.of ((R.los (aA (R.vl t) i).1 (aA (R.vl t) i).2)-((cS (R.fw t i) (aA (R.vl t) i).1 (aA (R.vl t) i).2)+((R.ex (R.run t) t) (aA (R.vl t) i).1 (aA (R.vl t) i).2))))) ?_
     refine WO.two (i:=14) (j:=22) (by kernel_rfl) ?_ ?_
     ·refine fG 14 rfl (oG (Qn.of (L:=4) hsb) (Qn.of (L:=300) hse) (hsb.mono (by omega)) (hse.mono (by omega))) wJ ⟨aD rfl,aD rfl,rfl⟩ (qF (.of ((R.base t (aA (R.vl t) i).2)-(dQ (R.fw t i) t (aA (R.vl t) i).2)))) ?_
      refine WO.two (i:=19) (j:=22) (by kernel_rfl) ?_ ?_
      ·refine fG 19 rfl (oG (Qn.of (L:=4) hsm) (Qn.of (L:=300) hsy) (hsm.mono (by omega)) (hsy.mono (by omega))) wJ ⟨aD rfl,aD rfl,rfl⟩ (qF (.of ((R.lim t)-(cV (R.fw t i) t)))) ?_
       refine WO.two (i:=20) (j:=22) (by kernel_rfl) ?_ ?_
       ·refine Uv (key:=10) 20 rfl rfl ⟨rfl,rfl,rfl,rfl,rfl,rfl,rfl,trivial⟩ ?_
        refine uR (i:=73) (k:=10) (t:=52) (t':=52) (z:=4) (n:=3) (l:=([Fr4.of ((R.los (aA (R.vl t) i).1 (aA (R.vl t) i).2)-((cS (R.fw t i) (aA (R.vl t) i).1 (aA (R.vl t) i).2)+((R.ex (R.run t) t) (aA (R.vl t) i).1 (aA (R.vl t) i).2))),Fr4.of ((R.base t (aA (R.vl t) i).2-(dQ (R.fw t i) t (aA (R.vl t) i).2))),Fr4.of ((R.lim t-(cV (R.fw t i) t)))]).flatMap (Fr4.tr false)) rfl rfl rfl rfl (.one .sl) (by rfl) (by rfl) ?_
        refine WO.two (i:=21) (j:=22) (by kernel_rfl) ?_ ?_
        ·refine fG 21 rfl (uY hm1 hm2 hm3) Gn ⟨a1 rfl,rfl⟩ (qF (.of (aJ ((R.los (aA (R.vl t) i).1 (aA (R.vl t) i).2)-((cS (R.fw t i) (aA (R.vl t) i).1 (aA (R.vl t) i).2)+((R.ex (R.run t) t) (aA (R.vl t) i).1 (aA (R.vl t) i).2))) [(R.base t (aA (R.vl t) i).2-(dQ (R.fw t i) t (aA (R.vl t) i).2)),(R.lim t-(cV (R.fw t i) t))]))) ?_
         refine fU (key:=11) 22 (by kernel_rfl) rfl rfl aB rfl ⟨rfl,rfl,rfl,rfl,rfl,rfl,rfl,trivial⟩ ?_
         refine dst 23 ?_;refine aV ?_
         exact⟨(),trivial,aW h0 [3,0,1,2,4,5,6,7,8,9,11] ⟨oe rfl rfl,aC rfl,aC rfl,aC rfl,oe rfl rfl,oe rfl rfl,oe rfl rfl,oe rfl rfl,aC rfl,oe rfl rfl,oe rfl rfl,rfl⟩⟩
        refine cG (key:=11) 22 rfl rfl aB rfl ⟨rfl,rfl,rfl,rfl,rfl,rfl,rfl,trivial⟩ ?_
        refine aX 21 rfl (uY hm1 hm2 hm3) Gn ⟨a1 rfl,rfl⟩ (qF (.of (aJ ((R.los (aA (R.vl t) i).1 (aA (R.vl t) i).2)-((cS (R.fw t i) (aA (R.vl t) i).1 (aA (R.vl t) i).2)+((R.ex (R.run t) t) (aA (R.vl t) i).1 (aA (R.vl t) i).2))) [(R.base t (aA (R.vl t) i).2-(dQ (R.fw t i) t (aA (R.vl t) i).2)),(R.lim t-(cV (R.fw t i) t))]))) ?_
        refine dst 23 ?_;refine aV ?_
        exact⟨(),trivial,aW h0 [3,0,1,2,4,5,6,7,8,9,11] ⟨oe rfl rfl,aC rfl,aC rfl,aC rfl,oe rfl rfl,oe rfl rfl,oe rfl rfl,oe rfl rfl,aC rfl,oe rfl rfl,oe rfl rfl,rfl⟩⟩
       refine cG (key:=10) 22 rfl rfl aB rfl ⟨rfl,rfl,rfl,rfl,rfl,rfl,rfl,trivial⟩ ?_
       refine iU (key:=11) 20 (by kernel_rfl) rfl rfl aB rfl ⟨rfl,rfl,rfl,rfl,rfl,rfl,rfl,trivial⟩ ?_
       refine uR (i:=73) (k:=11) (t:=52) (t':=52) (z:=4) (n:=3) (l:=([Fr4.of ((R.los (aA (R.vl t) i).1 (aA (R.vl t) i).2)-((cS (R.fw t i) (aA (R.vl t) i).1 (aA (R.vl t) i).2)+((R.ex (R.run t) t) (aA (R.vl t) i).1 (aA (R.vl t) i).2))),Fr4.of ((R.base t (aA (R.vl t) i).2-(dQ (R.fw t i) t (aA (R.vl t) i).2))),Fr4.of ((R.lim t-(cV (R.fw t i) t)))]).flatMap (Fr4.tr false)) rfl rfl rfl rfl (.one .sl) (by rfl) (by rfl) ?_
       refine aX 21 rfl (uY hm1 hm2 hm3) Gn ⟨a1 rfl,rfl⟩ (qF (.of (aJ ((R.los (aA (R.vl t) i).1 (aA (R.vl t) i).2)-((cS (R.fw t i) (aA (R.vl t) i).1 (aA (R.vl t) i).2)+((R.ex (R.run t) t) (aA (R.vl t) i).1 (aA (R.vl t) i).2))) [(R.base t (aA (R.vl t) i).2-(dQ (R.fw t i) t (aA (R.vl t) i).2)),(R.lim t-(cV (R.fw t i) t))]))) ?_
       refine dst 23 ?_;refine aV ?_
       exact⟨(),trivial,aW h0 [3,0,1,2,4,5,6,7,8,9,10] ⟨oe rfl rfl,aC rfl,aC rfl,aC rfl,oe rfl rfl,oe rfl rfl,oe rfl rfl,oe rfl rfl,aC rfl,oe rfl rfl,oe rfl rfl,rfl⟩⟩
      refine cG (key:=10) 22 rfl rfl aB rfl ⟨rfl,rfl,rfl,rfl,rfl,rfl,rfl,trivial⟩ ?_
      refine aX 19 rfl (oG (Qn.of (L:=4) hsm) (Qn.of (L:=300) hsy) (hsm.mono (by omega)) (hsy.mono (by omega))) wJ ⟨aD rfl,aD rfl,rfl⟩ (qF (.of ((R.lim t)-(cV (R.fw t i) t)))) ?_
      refine iU (key:=11) 20 (by kernel_rfl) rfl rfl aB rfl ⟨rfl,rfl,rfl,rfl,rfl,rfl,rfl,trivial⟩ ?_
      refine uR (i:=73) (k:=11) (t:=52) (t':=52) (z:=4) (n:=3) (l:=([Fr4.of ((R.los (aA (R.vl t) i).1 (aA (R.vl t) i).2)-((cS (R.fw t i) (aA (R.vl t) i).1 (aA (R.vl t) i).2)+((R.ex (R.run t) t) (aA (R.vl t) i).1 (aA (R.vl t) i).2))),Fr4.of ((R.base t (aA (R.vl t) i).2-(dQ (R.fw t i) t (aA (R.vl t) i).2))),Fr4.of ((R.lim t-(cV (R.fw t i) t)))]).flatMap (Fr4.tr false)) rfl rfl rfl rfl (.one .sl) (by rfl) (by rfl) ?_
      refine aX 21 rfl (uY hm1 hm2 hm3) Gn ⟨a1 rfl,rfl⟩ (qF (.of (aJ ((R.los (aA (R.vl t) i).1 (aA (R.vl t) i).2)-((cS (R.fw t i) (aA (R.vl t) i).1 (aA (R.vl t) i).2)+((R.ex (R.run t) t) (aA (R.vl t) i).1 (aA (R.vl t) i).2))) [(R.base t (aA (R.vl t) i).2-(dQ (R.fw t i) t (aA (R.vl t) i).2)),(R.lim t-(cV (R.fw t i) t))]))) ?_
      refine dst 23 ?_;refine aV ?_
      exact⟨(),trivial,aW h0 [3,0,1,2,4,5,6,7,8,9,10] ⟨oe rfl rfl,aC rfl,aC rfl,aC rfl,oe rfl rfl,oe rfl rfl,oe rfl rfl,oe rfl rfl,aC rfl,oe rfl rfl,oe rfl rfl,rfl⟩⟩
     refine cG (key:=10) 22 rfl rfl aB rfl ⟨rfl,rfl,rfl,rfl,rfl,rfl,rfl,trivial⟩ ?_
     refine aX 14 rfl (oG (Qn.of (L:=4) hsb) (Qn.of (L:=300) hse) (hsb.mono (by omega)) (hse.mono (by omega))) wJ ⟨aD rfl,aD rfl,rfl⟩ (qF (.of ((R.base t (aA (R.vl t) i).2)-(dQ (R.fw t i) t (aA (R.vl t) i).2)))) ?_
     refine aX 19 rfl (oG (Qn.of (L:=4) hsm) (Qn.of (L:=300) hsy) (hsm.mono (by omega)) (hsy.mono (by omega))) wJ ⟨aD rfl,aD rfl,rfl⟩ (qF (.of ((R.lim t)-(cV (R.fw t i) t)))) ?_
     refine iU (key:=11) 20 (by kernel_rfl) rfl rfl aB rfl ⟨rfl,rfl,rfl,rfl,rfl,rfl,rfl,trivial⟩ ?_
     refine uR (i:=73) (k:=11) (t:=52) (t':=52) (z:=4) (n:=3) (l:=([Fr4.of ((R.los (aA (R.vl t) i).1 (aA (R.vl t) i).2)-((cS (R.fw t i) (aA (R.vl t) i).1 (aA (R.vl t) i).2)+((R.ex (R.run t) t) (aA (R.vl t) i).1 (aA (R.vl t) i).2))),Fr4.of ((R.base t (aA (R.vl t) i).2-(dQ (R.fw t i) t (aA (R.vl t) i).2))),Fr4.of ((R.lim t-(cV (R.fw t i) t)))]).flatMap (Fr4.tr false)) rfl rfl rfl rfl (.one .sl) (by rfl) (by rfl) ?_
     refine aX 21 rfl (uY hm1 hm2 hm3) Gn ⟨a1 rfl,rfl⟩ (qF (.of (aJ ((R.los (aA (R.vl t) i).1 (aA (R.vl t) i).2)-((cS (R.fw t i) (aA (R.vl t) i).1 (aA (R.vl t) i).2)+((R.ex (R.run t) t) (aA (R.vl t) i).1 (aA (R.vl t) i).2))) [(R.base t (aA (R.vl t) i).2-(dQ (R.fw t i) t (aA (R.vl t) i).2)),(R.lim t-(cV (R.fw t i) t))]))) ?_
     refine dst 23 ?_;refine aV ?_
     exact⟨(),trivial,aW h0 [3,0,1,2,4,5,6,7,8,9,10] ⟨oe rfl rfl,aC rfl,aC rfl,aC rfl,oe rfl rfl,oe rfl rfl,oe rfl rfl,oe rfl rfl,aC rfl,oe rfl rfl,oe rfl rfl,rfl⟩⟩
    refine cG (key:=10) 22 rfl rfl aB rfl ⟨rfl,rfl,rfl,rfl,rfl,rfl,rfl,trivial⟩ ?_
    refine aX 1 rfl (Ej (v:=(⟨(aA (R.vl t) i).1,(aA (R.vl t) i).2,(R.los (aA (R.vl t) i).1 (aA (R.vl t) i).2),(cS (R.fw t i) (aA (R.vl t) i).1 (aA (R.vl t) i).2),((R.ex (R.run t) t) (aA (R.vl t) i).1 (aA (R.vl t) i).2),(0:Rat)⟩:Vn)) (by exact hsl.mono (by omega)) (by exact hsu.mono (by omega)) (by exact hsx.mono (by omega))) Vd ⟨aD rfl,rfl⟩ (qF (.of ((R.los (aA (R.vl t) i).1 (aA (R.vl t) i).2)-((cS (R.fw t i) (aA (R.vl t) i).1 (aA (R.vl t) i).2)+((R.ex (R.run t) t) (aA (R.vl t) i).1 (aA (R.vl t) i).2))))) ?_
    refine aX 14 rfl (oG (Qn.of (L:=4) hsb) (Qn.of (L:=300) hse) (hsb.mono (by omega)) (hse.mono (by omega))) wJ ⟨aD rfl,aD rfl,rfl⟩ (qF (.of ((R.base t (aA (R.vl t) i).2)-(dQ (R.fw t i) t (aA (R.vl t) i).2)))) ?_
    refine aX 19 rfl (oG (Qn.of (L:=4) hsm) (Qn.of (L:=300) hsy) (hsm.mono (by omega)) (hsy.mono (by omega))) wJ ⟨aD rfl,aD rfl,rfl⟩ (qF (.of ((R.lim t)-(cV (R.fw t i) t)))) ?_
    refine iU (key:=11) 20 (by kernel_rfl) rfl rfl aB rfl ⟨rfl,rfl,rfl,rfl,rfl,rfl,rfl,trivial⟩ ?_
    refine uR (i:=73) (k:=11) (t:=52) (t':=52) (z:=4) (n:=3) (l:=([Fr4.of ((R.los (aA (R.vl t) i).1 (aA (R.vl t) i).2)-((cS (R.fw t i) (aA (R.vl t) i).1 (aA (R.vl t) i).2)+((R.ex (R.run t) t) (aA (R.vl t) i).1 (aA (R.vl t) i).2))),Fr4.of ((R.base t (aA (R.vl t) i).2-(dQ (R.fw t i) t (aA (R.vl t) i).2))),Fr4.of ((R.lim t-(cV (R.fw t i) t)))]).flatMap (Fr4.tr false)) rfl rfl rfl rfl (.one .sl) (by rfl) (by rfl) ?_
    refine aX 21 rfl (uY hm1 hm2 hm3) Gn ⟨a1 rfl,rfl⟩ (qF (.of (aJ ((R.los (aA (R.vl t) i).1 (aA (R.vl t) i).2)-((cS (R.fw t i) (aA (R.vl t) i).1 (aA (R.vl t) i).2)+((R.ex (R.run t) t) (aA (R.vl t) i).1 (aA (R.vl t) i).2))) [(R.base t (aA (R.vl t) i).2-(dQ (R.fw t i) t (aA (R.vl t) i).2)),(R.lim t-(cV (R.fw t i) t))]))) ?_
    refine dst 23 ?_;refine aV ?_
    exact⟨(),trivial,aW h0 [3,0,1,2,4,5,6,7,8,9,10] ⟨oe rfl rfl,aC rfl,aC rfl,aC rfl,oe rfl rfl,oe rfl rfl,oe rfl rfl,oe rfl rfl,aC rfl,oe rfl rfl,oe rfl rfl,rfl⟩⟩
   refine sq (sq (rl (ld ?_)))
   refine ca (Ao (Qn.of (p:=(aJ ((R.los (aA (R.vl t) i).1 (aA (R.vl t) i).2)-((cS (R.fw t i) (aA (R.vl t) i).1 (aA (R.vl t) i).2)+((R.ex (R.run t) t) (aA (R.vl t) i).1 (aA (R.vl t) i).2))) [(R.base t (aA (R.vl t) i).2-(dQ (R.fw t i) t (aA (R.vl t) i).2)),(R.lim t-(cV (R.fw t i) t))])) (L:=2100) hsn)) Uz ⟨aD rfl,rfl⟩ (.one (tv (.int .i64 (aJ ((R.los (aA (R.vl t) i).1 (aA (R.vl t) i).2)-((cS (R.fw t i) (aA (R.vl t) i).1 (aA (R.vl t) i).2)+((R.ex (R.run t) t) (aA (R.vl t) i).1 (aA (R.vl t) i).2))) [(R.base t (aA (R.vl t) i).2-(dQ (R.fw t i) t (aA (R.vl t) i).2)),(R.lim t-(cV (R.fw t i) t))]).num.sign))) ?_
   refine o1 ?_;refine nl ?_;refine bL rfl (fun h4=>?_) (fun h4=>?_)
   ·refine ex ?_
    have hfw:(R.fw t (i+1))=(R.fw t i):=VH hi9 fun h9=>absurd ((kA (aJ ((R.los (aA (R.vl t) i).1 (aA (R.vl t) i).2)-((cS (R.fw t i) (aA (R.vl t) i).1 (aA (R.vl t) i).2)+((R.ex (R.run t) t) (aA (R.vl t) i).1 (aA (R.vl t) i).2))) [(R.base t (aA (R.vl t) i).2-(dQ (R.fw t i) t (aA (R.vl t) i).2)),(R.lim t-(cV (R.fw t i) t))])).2 h9) (by omega)
    refine rl (o1 ?_);refine o1 ?_;refine aZ 40 (i+1) ?_
    refine o1 ?_;refine nl ?_
    exact⟨i+1,by omega,by omega,aW h0 [1,2,3,0,4,5,6,7,8] ⟨aC rfl,aC (by have h9:(some ⟨87,18,((R.vns (R.fw t i) (R.ex (R.run t) t) (fun _ _=>(0:Rat)) (R.vl t)).flatMap (cF false)).map .t⟩:Option Ob)=some ⟨87,18,((R.vns (R.fw t (i+1)) (R.ex (R.run t) t) (fun _ _=>(0:Rat)) (R.vl t)).flatMap (cF false)).map .t⟩:=(by rw[hfw]);exact h9),aC (by have h9:(some ⟨109,7,((R.fw t i).flatMap (eM false)).map .t⟩:Option Ob)=some ⟨109,7,((R.fw t (i+1)).flatMap (eM false)).map .t⟩:=(by rw[hfw]);exact h9),oe rfl (by have h9:(some ⟨31,0,[.sl 1 0 t,.sl 2 0 (R.vl t).length,.sl 3 0 (R.fw t i).length]⟩:Option Ob)=some ⟨31,0,[.sl 1 0 t,.sl 2 0 (R.vl t).length,.sl 3 0 (R.fw t (i+1)).length]⟩:=(by rw[hfw]);exact h9),aC rfl,oe rfl rfl,aC rfl,oe rfl (by have h9:(some ⟨106,0,((Fr4.of (cV (R.fw t i) t)).tr false).map .t++([.sl 8 0 (R.by9 (R.fw t i) t).length]:List AV)⟩:Option Ob)=some ⟨106,0,((Fr4.of (cV (R.fw t (i+1)) t)).tr false).map .t++([.sl 8 0 (R.by9 (R.fw t (i+1)) t).length]:List AV)⟩:=(by rw[hfw]);exact h9),aC (by have h9:(some ⟨52,4,((R.by9 (R.fw t i) t).flatMap qt).map .t⟩:Option Ob)=some ⟨52,4,((R.by9 (R.fw t (i+1)) t).flatMap qt).map .t⟩:=(by rw[hfw]);exact h9),rfl⟩⟩
   refine sk (sq (rl (o1 ?_)));refine ld ?_;refine ld ?_
   refine ca (uU (Qn.of (L:=300) hsu) (Qn.of (L:=2100) hsn) (hsu.mono (by omega)) (hsn.mono (by omega))) Gi ⟨aD rfl,aD rfl,rfl⟩ (qF (.of ((cS (R.fw t i) (aA (R.vl t) i).1 (aA (R.vl t) i).2)+(aJ ((R.los (aA (R.vl t) i).1 (aA (R.vl t) i).2)-((cS (R.fw t i) (aA (R.vl t) i).1 (aA (R.vl t) i).2)+((R.ex (R.run t) t) (aA (R.vl t) i).1 (aA (R.vl t) i).2))) [(R.base t (aA (R.vl t) i).2-(dQ (R.fw t i) t (aA (R.vl t) i).2)),(R.lim t-(cV (R.fw t i) t))])))) ?_
   refine o1 ?_;refine st ?_;refine nl (sq (rl (o1 ?_)));refine ld ?_;refine o1 ?_;refine ld ?_;refine o1 ?_
   refine uI (dN (xs:=(R.vns (R.fw t i) (R.ex (R.run t) t) (fun _ _=>(0:Rat)) (R.vl t))) (k:=i) (x:=(⟨(aA (R.vl t) i).1,(aA (R.vl t) i).2,(R.los (aA (R.vl t) i).1 (aA (R.vl t) i).2),(cS (R.fw t i) (aA (R.vl t) i).1 (aA (R.vl t) i).2),((R.ex (R.run t) t) (aA (R.vl t) i).1 (aA (R.vl t) i).2),(0:Rat)⟩:Vn)) (f:=(cF false)) (z:=18) (o:=0) (x':=(⟨(aA (R.vl t) i).1,(aA (R.vl t) i).2,(R.los (aA (R.vl t) i).1 (aA (R.vl t) i).2),((cS (R.fw t i) (aA (R.vl t) i).1 (aA (R.vl t) i).2)+(aJ ((R.los (aA (R.vl t) i).1 (aA (R.vl t) i).2)-((cS (R.fw t i) (aA (R.vl t) i).1 (aA (R.vl t) i).2)+((R.ex (R.run t) t) (aA (R.vl t) i).1 (aA (R.vl t) i).2))) [(R.base t (aA (R.vl t) i).2-(dQ (R.fw t i) t (aA (R.vl t) i).2)),(R.lim t-(cV (R.fw t i) t))])),((R.ex (R.run t) t) (aA (R.vl t) i).1 (aA (R.vl t) i).2),(0:Rat)⟩:Vn)) (us:=(cF false) ⟨(aA (R.vl t) i).1,(aA (R.vl t) i).2,(R.los (aA (R.vl t) i).1 (aA (R.vl t) i).2),((cS (R.fw t i) (aA (R.vl t) i).1 (aA (R.vl t) i).2)+(aJ ((R.los (aA (R.vl t) i).1 (aA (R.vl t) i).2)-((cS (R.fw t i) (aA (R.vl t) i).1 (aA (R.vl t) i).2)+((R.ex (R.run t) t) (aA (R.vl t) i).1 (aA (R.vl t) i).2))) [(R.base t (aA (R.vl t) i).2-(dQ (R.fw t i) t (aA (R.vl t) i).2)),(R.lim t-(cV (R.fw t i) t))])),((R.ex (R.run t) t) (aA (R.vl t) i).1 (aA (R.vl t) i).2),(0:Rat)⟩) (cQ false) (hge) (bN rfl) rfl) (eP (xs:=(R.vns (R.fw t i) (R.ex (R.run t) t) (fun _ _=>(0:Rat)) (R.vl t))) (k:=i) (f:=(cF false)) (z:=18) (o:=0) (us:=(cF false) ⟨(aA (R.vl t) i).1,(aA (R.vl t) i).2,(R.los (aA (R.vl t) i).1 (aA (R.vl t) i).2),((cS (R.fw t i) (aA (R.vl t) i).1 (aA (R.vl t) i).2)+(aJ ((R.los (aA (R.vl t) i).1 (aA (R.vl t) i).2)-((cS (R.fw t i) (aA (R.vl t) i).1 (aA (R.vl t) i).2)+((R.ex (R.run t) t) (aA (R.vl t) i).1 (aA (R.vl t) i).2))) [(R.base t (aA (R.vl t) i).2-(dQ (R.fw t i) t (aA (R.vl t) i).2)),(R.lim t-(cV (R.fw t i) t))])),((R.ex (R.run t) t) (aA (R.vl t) i).1 (aA (R.vl t) i).2),(0:Rat)⟩) (cQ false) (by omega) (bN rfl)) ?_
   refine nl (sq ?_);refine rd [0,4,5,6,7,8,9,10] (fun i=>[13].contains i) mixed ?_
   refine dv 0 ?_;refine aO 1 ?_;refine dv 2 ?_;refine aO 3 ?_;refine dv 4 ?_;refine aO 5 ?_;refine dv 6 ?_;refine aO 7 ?_;refine dv 8 ?_
   refine lH 9 (cJ (f:=qt) (z:=4) (o:=0) (us:=qt (dQ (R.fw t i) t (aA (R.vl t) i).2)) mG ((Mv hp2)) (bN rfl) rfl) ?_
   refine aO 10 ?_
   refine aX 11 rfl (uU (Qn.of (L:=300) hse) (Qn.of (L:=2100) hsn) (hse.mono (by omega)) (hsn.mono (by omega))) Gi ⟨aD rfl,aD rfl,rfl⟩ (qF (.of ((dQ (R.fw t i) t (aA (R.vl t) i).2)+(aJ ((R.los (aA (R.vl t) i).1 (aA (R.vl t) i).2)-((cS (R.fw t i) (aA (R.vl t) i).1 (aA (R.vl t) i).2)+((R.ex (R.run t) t) (aA (R.vl t) i).1 (aA (R.vl t) i).2))) [(R.base t (aA (R.vl t) i).2-(dQ (R.fw t i) t (aA (R.vl t) i).2)),(R.lim t-(cV (R.fw t i) t))])))) ?_
   refine dv 12 ?_
   refine lX 13 (dN (xs:=(R.by9 (R.fw t i) t)) (k:=(aA (R.vl t) i).2) (x:=((dQ (R.fw t i) t (aA (R.vl t) i).2):Rat)) (f:=qt) (z:=4) (o:=0) (x':=(((dQ (R.fw t i) t (aA (R.vl t) i).2)+(aJ ((R.los (aA (R.vl t) i).1 (aA (R.vl t) i).2)-((cS (R.fw t i) (aA (R.vl t) i).1 (aA (R.vl t) i).2)+((R.ex (R.run t) t) (aA (R.vl t) i).1 (aA (R.vl t) i).2))) [(R.base t (aA (R.vl t) i).2-(dQ (R.fw t i) t (aA (R.vl t) i).2)),(R.lim t-(cV (R.fw t i) t))])):Rat)) (us:=qt ((dQ (R.fw t i) t (aA (R.vl t) i).2)+(aJ ((R.los (aA (R.vl t) i).1 (aA (R.vl t) i).2)-((cS (R.fw t i) (aA (R.vl t) i).1 (aA (R.vl t) i).2)+((R.ex (R.run t) t) (aA (R.vl t) i).1 (aA (R.vl t) i).2))) [(R.base t (aA (R.vl t) i).2-(dQ (R.fw t i) t (aA (R.vl t) i).2)),(R.lim t-(cV (R.fw t i) t))]))) mG ((Mv hp2)) (bN rfl) rfl) (eP (xs:=(R.by9 (R.fw t i) t)) (k:=(aA (R.vl t) i).2) (f:=qt) (z:=4) (o:=0) (us:=qt ((dQ (R.fw t i) t (aA (R.vl t) i).2)+(aJ ((R.los (aA (R.vl t) i).1 (aA (R.vl t) i).2)-((cS (R.fw t i) (aA (R.vl t) i).1 (aA (R.vl t) i).2)+((R.ex (R.run t) t) (aA (R.vl t) i).1 (aA (R.vl t) i).2))) [(R.base t (aA (R.vl t) i).2-(dQ (R.fw t i) t (aA (R.vl t) i).2)),(R.lim t-(cV (R.fw t i) t))]))) mG (by omega) (bN rfl)) ?_
   refine aV ?_;refine sq (rl (o1 ?_));refine ld ?_;refine ld ?_
   refine ca (uU (Qn.of (L:=300) hsy) (Qn.of (L:=2100) hsn) (hsy.mono (by omega)) (hsn.mono (by omega))) Gi ⟨aD rfl,aD rfl,rfl⟩ (qF (.of ((cV (R.fw t i) t)+(aJ ((R.los (aA (R.vl t) i).1 (aA (R.vl t) i).2)-((cS (R.fw t i) (aA (R.vl t) i).1 (aA (R.vl t) i).2)+((R.ex (R.run t) t) (aA (R.vl t) i).1 (aA (R.vl t) i).2))) [(R.base t (aA (R.vl t) i).2-(dQ (R.fw t i) t (aA (R.vl t) i).2)),(R.lim t-(cV (R.fw t i) t))])))) ?_
   refine o1 ?_;refine st ?_;refine nl (rl (o1 ?_));refine ld ?_;refine o1 ?_;refine ld ?_;refine o1 ?_;refine ld ?_;refine o1 ?_;refine ld ?_;refine o1 ?_
   refine bs 11 ?_
   refine iN (j:=12) (n:=(R.fw t i).length) (l:=((R.fw t i).flatMap (eM false)).map .t) aB rfl rfl rfl rfl (.sl rfl (by rw[dF,bE (eF false)])) (.sl rfl rfl rfl) rfl rfl rfl (by omega) (by omega) ?_
   refine o1 ?_;refine st ?_;refine nl ?_
   have hpos:0<R.n3 (R.fw t i) t (aA (R.vl t) i):=(kA (aJ ((R.los (aA (R.vl t) i).1 (aA (R.vl t) i).2)-((cS (R.fw t i) (aA (R.vl t) i).1 (aA (R.vl t) i).2)+((R.ex (R.run t) t) (aA (R.vl t) i).1 (aA (R.vl t) i).2))) [(R.base t (aA (R.vl t) i).2-(dQ (R.fw t i) t (aA (R.vl t) i).2)),(R.lim t-(cV (R.fw t i) t))])).1 (by omega)
   obtain⟨hmy,hfw⟩:=QH hi9 (hmm.symm.trans h3) hpos
   have hpos2:0<(aJ ((R.los (aA (R.vl t) i).1 (aA (R.vl t) i).2)-((cS (R.fw t i) (aA (R.vl t) i).1 (aA (R.vl t) i).2)+((R.ex (R.run t) t) (aA (R.vl t) i).1 (aA (R.vl t) i).2))) [(R.base t (aA (R.vl t) i).2-(dQ (R.fw t i) t (aA (R.vl t) i).2)),(R.lim t-(cV (R.fw t i) t))]):=hpos
   have hus:(R.fw t (i+1))=Rg.us (R.fw t i) (aA (R.vl t) i).1 (aA (R.vl t) i).2 t (aJ ((R.los (aA (R.vl t) i).1 (aA (R.vl t) i).2)-((cS (R.fw t i) (aA (R.vl t) i).1 (aA (R.vl t) i).2)+((R.ex (R.run t) t) (aA (R.vl t) i).1 (aA (R.vl t) i).2))) [(R.base t (aA (R.vl t) i).2-(dQ (R.fw t i) t (aA (R.vl t) i).2)),(R.lim t-(cV (R.fw t i) t))]):=hfw.trans (lF hpos).symm
   have hfy:(cV (R.fw t i) t)+(aJ ((R.los (aA (R.vl t) i).1 (aA (R.vl t) i).2)-((cS (R.fw t i) (aA (R.vl t) i).1 (aA (R.vl t) i).2)+((R.ex (R.run t) t) (aA (R.vl t) i).1 (aA (R.vl t) i).2))) [(R.base t (aA (R.vl t) i).2-(dQ (R.fw t i) t (aA (R.vl t) i).2)),(R.lim t-(cV (R.fw t i) t))])=cV (R.fw t (i+1)) t:=by rw[hus,Xm hpos2]
   have hby2:(R.by9 (R.fw t i) t).set (aA (R.vl t) i).2 ((dQ (R.fw t i) t (aA (R.vl t) i).2)+(aJ ((R.los (aA (R.vl t) i).1 (aA (R.vl t) i).2)-((cS (R.fw t i) (aA (R.vl t) i).1 (aA (R.vl t) i).2)+((R.ex (R.run t) t) (aA (R.vl t) i).1 (aA (R.vl t) i).2))) [(R.base t (aA (R.vl t) i).2-(dQ (R.fw t i) t (aA (R.vl t) i).2)),(R.lim t-(cV (R.fw t i) t))]))=(R.by9 (R.fw t (i+1)) t):=by rw[hus];exact Xo hp2 hpos2
   have hset:(R.vns (R.fw t i) (R.ex (R.run t) t) (fun _ _=>(0:Rat)) (R.vl t)).set i (⟨(aA (R.vl t) i).1,(aA (R.vl t) i).2,(R.los (aA (R.vl t) i).1 (aA (R.vl t) i).2),((cS (R.fw t i) (aA (R.vl t) i).1 (aA (R.vl t) i).2)+(aJ ((R.los (aA (R.vl t) i).1 (aA (R.vl t) i).2)-((cS (R.fw t i) (aA (R.vl t) i).1 (aA (R.vl t) i).2)+((R.ex (R.run t) t) (aA (R.vl t) i).1 (aA (R.vl t) i).2))) [(R.base t (aA (R.vl t) i).2-(dQ (R.fw t i) t (aA (R.vl t) i).2)),(R.lim t-(cV (R.fw t i) t))])),((R.ex (R.run t) t) (aA (R.vl t) i).1 (aA (R.vl t) i).2),(0:Rat)⟩:Vn)=(R.vns (R.fw t (i+1)) (R.ex (R.run t) t) (fun _ _=>(0:Rat)) (R.vl t)):=by
    have h1:=Cs (R:=R) (U:=(R.fw t i)) (U':=(R.fw t (i+1))) (x:=(R.ex (R.run t) t)) (x':=(R.ex (R.run t) t)) (c:=(fun _ _=>(0:Rat))) (c':=(fun _ _=>(0:Rat))) (hG t) hi9 fun q _ hq=>by
     unfold Rg.vn;rw[hus,yK fun h9=>hq (Prod.ext (by omega) (by omega))]
    rw[←h1];unfold Rg.vn;rw[hus,Xl hpos2]
   refine rl (o1 ?_);refine o1 ?_;refine aZ 40 (i+1) ?_
   refine o1 ?_;refine nl ?_
   exact⟨i+1,by omega,by omega,aW h0 [1,2,12,0,4,5,6,7,8] ⟨aC rfl,aC (congrArg (fun l:List Vn=>some (⟨87,18,(l.flatMap (cF false)).map .t⟩:Ob)) hset),aC (congrArg (fun l:List AV=>some (⟨109,7,l⟩:Ob)) ((LC (R.fw t i) ⟨(aA (R.vl t) i).1,(aA (R.vl t) i).2,(t:Nat),(aJ ((R.los (aA (R.vl t) i).1 (aA (R.vl t) i).2)-((cS (R.fw t i) (aA (R.vl t) i).1 (aA (R.vl t) i).2)+((R.ex (R.run t) t) (aA (R.vl t) i).1 (aA (R.vl t) i).2))) [(R.base t (aA (R.vl t) i).2-(dQ (R.fw t i) t (aA (R.vl t) i).2)),(R.lim t-(cV (R.fw t i) t))])⟩).trans (by rw[hfw];rfl))),oe rfl (by have h9:(some ⟨31,0,[.sl 1 0 t,.sl 2 0 (R.vl t).length,.sl 12 0 ((R.fw t i).length+1)]⟩:Option Ob)=some ⟨31,0,[.sl 1 0 t,.sl 2 0 (R.vl t).length,.sl 12 0 (R.fw t (i+1)).length]⟩:=(by rw[hfw,cO];rfl);exact h9),aC rfl,oe rfl rfl,aC rfl,oe rfl (by have h9:(some ⟨106,0,((Fr4.of ((cV (R.fw t i) t)+(aJ ((R.los (aA (R.vl t) i).1 (aA (R.vl t) i).2)-((cS (R.fw t i) (aA (R.vl t) i).1 (aA (R.vl t) i).2)+((R.ex (R.run t) t) (aA (R.vl t) i).1 (aA (R.vl t) i).2))) [(R.base t (aA (R.vl t) i).2-(dQ (R.fw t i) t (aA (R.vl t) i).2)),(R.lim t-(cV (R.fw t i) t))]))).tr false).map .t++([.sl 8 0 (R.by9 (R.fw t i) t).length]:List AV)⟩:Option Ob)=some ⟨106,0,((Fr4.of (cV (R.fw t (i+1)) t)).tr false).map .t++([.sl 8 0 (R.by9 (R.fw t (i+1)) t).length]:List AV)⟩:=(by rw[hfy,uK,uK]);exact h9),aC (congrArg (fun l:List Rat=>some (⟨52,4,(l.flatMap qt).map .t⟩:Ob)) hby2),rfl⟩⟩
  refine o1 ?_;refine nl (jM rfl (ex ?_));have hfw:(R.fw t (i+1))=(R.fw t i):=Yt hi9 (hmm.symm.trans h3)
  refine rl (o1 ?_);refine o1 ?_;refine aZ 40 (i+1) ?_
  refine o1 ?_;refine nl ?_
  exact⟨i+1,by omega,by omega,aW h0 [0,1,2,3,4,5,6,7,8] ⟨aC rfl,aC (by have h9:(some ⟨87,18,((R.vns (R.fw t i) (R.ex (R.run t) t) (fun _ _=>(0:Rat)) (R.vl t)).flatMap (cF false)).map .t⟩:Option Ob)=some ⟨87,18,((R.vns (R.fw t (i+1)) (R.ex (R.run t) t) (fun _ _=>(0:Rat)) (R.vl t)).flatMap (cF false)).map .t⟩:=(by rw[hfw]);exact h9),aC (by have h9:(some ⟨109,7,((R.fw t i).flatMap (eM false)).map .t⟩:Option Ob)=some ⟨109,7,((R.fw t (i+1)).flatMap (eM false)).map .t⟩:=(by rw[hfw]);exact h9),oe rfl (by have h9:(some ⟨31,0,[.sl 0 0 t,.sl 1 0 (R.vl t).length,.sl 2 0 (R.fw t i).length]⟩:Option Ob)=some ⟨31,0,[.sl 0 0 t,.sl 1 0 (R.vl t).length,.sl 2 0 (R.fw t (i+1)).length]⟩:=(by rw[hfw]);exact h9),aC rfl,oe rfl rfl,aC rfl,oe rfl (by have h9:(some ⟨106,0,((Fr4.of (cV (R.fw t i) t)).tr false).map .t++([.sl 8 0 (R.by9 (R.fw t i) t).length]:List AV)⟩:Option Ob)=some ⟨106,0,((Fr4.of (cV (R.fw t (i+1)) t)).tr false).map .t++([.sl 8 0 (R.by9 (R.fw t (i+1)) t).length]:List AV)⟩:=(by rw[hfw]);exact h9),aC (by have h9:(some ⟨52,4,((R.by9 (R.fw t i) t).flatMap qt).map .t⟩:Option Ob)=some ⟨52,4,((R.by9 (R.fw t (i+1)) t).flatMap qt).map .t⟩:=(by rw[hfw]);exact h9),rfl⟩⟩
 refine ex (sq ?_);have hie:i=(R.vl t).length:=by omega
 have hue:(R.fw t i)=(R.run (t+1)):=by rw[hie];exact QE
 have hrr:(R.rls (R.run t) t).length=t:=pC
 refine rl (o1 ?_);refine ld ?_;refine ld ?_
 refine WL.sub (Yw (i:=120) (k:=8) (t:=52) (z:=4) (n:=(R.by9 (R.fw t i) t).length) (l:=((R.by9 (R.fw t i) t).map Fr4.of).flatMap (Fr4.tr false)) rfl rfl (congrArg (fun l:List Tr=>some (⟨52,4,l.map .t⟩:Ob)) (Yp (R.by9 (R.fw t i) t))) (by rw[bE (f:=Fr4.tr false) (z:=4) (fun _=>rfl),dF]) (.agg (.cons .id (.cons .id (.cons .id (.cons .id (.cons .sl .nil))))))) ?_
 refine bs 9 ?_
 refine iN (j:=10) (n:=t) (l:=((R.rls (R.run t) t).flatMap rlt).map .t) aB rfl rfl rfl rfl (.sl rfl (by rw[dF,bE gZ,hrr])) (.sl rfl rfl rfl) rfl rfl rfl (by omega) (by omega) ?_
 refine o1 ?_;refine st ?_;refine nl (sq (sq (rl (o1 ?_))));refine nl (bl ?_)
 have hrow:((R.rls (R.run t) t).flatMap rlt).map AV.t++(rlt (R.rl (R.fw t i) t)).map .t=((R.rls (R.run (t+1)) (t+1)).flatMap rlt).map .t:=by rw[Rx,hue,LN]
 have hrow2:(rlt (R.rl (R.fw t i) t)).map AV.t=((Fr4.of (cV (R.fw t i) t)).tr false).map .t++[.t (.s false 52 4 (R.by9 (R.fw t i) t).length (((R.by9 (R.fw t i) t).map Fr4.of).flatMap (Fr4.tr false)))]:=by
  have h9:sQ false ((R.by9 (R.fw t i) t).map Fr4.of)=.s false 52 4 (R.by9 (R.fw t i) t).length (((R.by9 (R.fw t i) t).map Fr4.of).flatMap (Fr4.tr false)):=by rw[sQ,dF]
  rw[←h9];rfl
 rw[hrow2]at hrow
 refine lp (γ:=Nat) (fun s=>bS [(1,.one (tv (.int .i64 ((R.f:Nat):Int)))),(2,.one (tv (.int .i64 ((t:Nat):Int)))),(4,.one (.pt 3 0)),(7,.one (.pt 4 0)),(8,.one (.pt 5 0)),(9,.one (.pt 6 0)),(15,.one (tv (.int .i64 ((s:Nat):Int))))]) (fun s=>[(⟨106,5,((R.rls (R.run (t+1)) (t+1)).flatMap rlt).map .t⟩:Ob),⟨87,18,((R.vns (R.run (t+1)) (R.ex (R.run t) t) (fun _ _=>(0:Rat)) (R.vlk t s)).flatMap (cF false)).map .t⟩,⟨109,7,((R.run (t+1)).flatMap (eM false)).map .t⟩,⟨31,0,[.sl 0 0 (t+1),.sl 1 0 (R.vns (R.run (t+1)) (R.ex (R.run t) t) (fun _ _=>(0:Rat)) (R.vlk t s)).length,.sl 2 0 (R.run (t+1)).length]⟩,⟨83,0,(R.yrq t).map .t⟩,⟨31,0,[tv (.slice none 0 0),tv (.slice none 0 0),tv (.slice none 0 0)]⟩,⟨52,0,((Fr4.of (0:Rat)).tr false).map .t⟩].map some) (fun s=>s≤R.E) (fun s=>R.E-s) 0 (Nat.zero_le _) (aW h0 [10,1,2,3,4,5,6] ⟨aC (congrArg (fun l:List AV=>some (⟨106,5,l⟩:Ob)) hrow),aC (by have h9:(some ⟨87,18,((R.vns (R.fw t i) (R.ex (R.run t) t) (fun _ _=>(0:Rat)) (R.vl t)).flatMap (cF false)).map .t⟩:Option Ob)=some ⟨87,18,((R.vns (R.run (t+1)) (R.ex (R.run t) t) (fun _ _=>(0:Rat)) (R.vlk t 0)).flatMap (cF false)).map .t⟩:=(by rw[hue,Ci]);exact h9),aC (by have h9:(some ⟨109,7,((R.fw t i).flatMap (eM false)).map .t⟩:Option Ob)=some ⟨109,7,((R.run (t+1)).flatMap (eM false)).map .t⟩:=(by rw[hue]);exact h9),oe rfl (by have h9:(some ⟨31,0,[.sl 10 0 (t+1),.sl 1 0 (R.vl t).length,.sl 2 0 (R.fw t i).length]⟩:Option Ob)=some ⟨31,0,[.sl 10 0 (t+1),.sl 1 0 (R.vns (R.run (t+1)) (R.ex (R.run t) t) (fun _ _=>(0:Rat)) (R.vlk t 0)).length,.sl 2 0 (R.run (t+1)).length]⟩:=(by rw[hue,Ci,dP]);exact h9),aC rfl,oe rfl rfl,aC rfl,rfl⟩) ?_
 rintro e he;refine sq (sq (rl (o1 ?_)));refine o1 ?_;refine ld ?_;refine o1 ?_;refine o1 ?_;refine nl ?_;refine bL rfl (fun h5=>?_) (fun h5=>?_)
 ·refine sk (sq (bl ?_))
  refine md (γ:=Unit) (fun _=>bS [(1,.one (tv (.int .i64 ((R.f:Nat):Int)))),(2,.one (tv (.int .i64 ((t:Nat):Int)))),(4,.one (.pt 0 0)),(7,.one (.pt 4 0)),(8,.one (.pt 5 0)),(9,.one (.pt 6 0)),(15,.one (tv (.int .i64 ((e:Nat):Int)))),(145,.one (tv (.bool (R.isV t e))))]) (fun _=>([⟨31,0,[.sl 1 0 ((t+1)),.sl 2 0 ((R.vns (R.run (t+1)) (R.ex (R.run t) t) (fun _ _=>(0:Rat)) (R.vlk t e)).length),.sl 3 0 ((R.run (t+1)).length)]⟩,⟨106,5,((R.rls (R.run (t+1)) (t+1)).flatMap rlt).map .t⟩,⟨87,18,((R.vns (R.run (t+1)) (R.ex (R.run t) t) (fun _ _=>(0:Rat)) (R.vlk t e)).flatMap (cF false)).map .t⟩,⟨109,7,((R.run (t+1)).flatMap (eM false)).map .t⟩,⟨83,0,[.t (gU (R.ms t)),.t (sQ false ((R.bs t).map Fr4.of)),tv (.bool (aM (R.lim t).num)),.t (sU false (dg 4294967296 (R.lim t).num.natAbs)),tv (.bool false),.t (sU false (dg 4294967296 (R.lim t).den))]⟩,⟨31,0,[tv (.slice none 0 0),tv (.slice none 0 0),tv (.slice none 0 0)]⟩,⟨52,0,((Fr4.of (0:Rat)).tr false).map .t⟩]:List Ob).map some) (fun _=>True) ?_ fun _ _=>?_
  ·have he9:e<R.E:=by omega
   have hsb:=hOk.base t e ht he9
   have hvk:=Gl (R:=R) hE (t:=t) (e:=e) he
   have hvk9:(R.vns (R.run (t+1)) (R.ex (R.run t) t) (fun _ _=>(0:Rat)) (R.vlk t e)).length=(R.vlk t e).length:=dP
   refine rl (o1 ?_);refine ld ?_;refine o1 ?_;refine o1 ?_;refine eE ([.v (.bool (nU (R.ms t) (e)))]) (Jz (R.ms t) (k:=e) (by omega)) ?_
   refine WL.splitb (t:=135) rfl (fun h6=>?_) (fun h6=>?_)
   ·refine o1 ?_;refine o1 ?_;(iterate 7 refine dL ?_);refine o1 ?_;refine nl ?_
    exact⟨(),trivial,kM h0 [3,0,1,2,4,5,6] _ _ (by decide) ⟨rfl,rfl,rfl,rfl,rfl,rfl,rfl,nH (by unfold Rg.isV;rw[←rX he9];simp only[decide_eq_true h5,h6,Bool.not_true,Bool.not_false,Bool.or_true,Bool.true_or,Bool.false_or,Bool.or_false,Bool.false_eq_true,if_true,if_false,ite_true,ite_false,Bool.and_true,Bool.true_and,Bool.false_and,Bool.and_false,Bool.not_not] <;> first | rfl | (simp;done) | (rw[decide_eq_decide];exact(rZ _).symm)),trivial⟩ ⟨oe rfl rfl,aC rfl,aC rfl,aC rfl,oe rfl rfl,oe rfl rfl,oe rfl rfl,rfl⟩⟩
   (iterate 3 refine o1 ?_);refine ld ?_;refine o1 ?_;refine o1 ?_
   refine eE ((Fr4.of (R.base t e)).tr false) ((by rw[←nV he9,←pB (by rw[nW];exact he9)];exact iE ((R.bs t).map Fr4.of) (k:=e) (by omega))) ?_
   refine ca (Ao (Qn.of (p:=(R.base t e)) (L:=4) hsb)) Uz ⟨aD rfl,rfl⟩ (.one (tv (.int .i64 (R.base t e).num.sign))) ?_;refine o1 ?_;refine o1 ?_;refine nl ?_
   exact⟨(),trivial,kM h0 [3,0,1,2,4,5,6] _ _ (by decide) ⟨rfl,rfl,rfl,rfl,rfl,rfl,rfl,nH (by unfold Rg.isV;rw[←rX he9];simp only[decide_eq_true h5,h6,Bool.not_true,Bool.not_false,Bool.or_true,Bool.true_or,Bool.false_or,Bool.or_false,Bool.false_eq_true,if_true,if_false,ite_true,ite_false,Bool.and_true,Bool.true_and,Bool.false_and,Bool.and_false,Bool.not_not] <;> first | rfl | (simp;done) | (rw[decide_eq_decide];exact(rZ _).symm)),trivial⟩ ⟨oe rfl rfl,aC rfl,aC rfl,aC rfl,oe rfl rfl,oe rfl rfl,oe rfl rfl,rfl⟩⟩
  refine nC rfl (fun h7=>?_) (fun h7=>?_)
  ·have he9:e<R.E:=by omega
   have hsb:=hOk.base t e ht he9
   have hvk:=Gl (R:=R) hE (t:=t) (e:=e) he
   have hvk9:(R.vns (R.run (t+1)) (R.ex (R.run t) t) (fun _ _=>(0:Rat)) (R.vlk t e)).length=(R.vlk t e).length:=dP
   have hv:R.isV t e=true:=h7
   refine rd [0,4,5,6] (fun i=>[17].contains i) mixed ?_
   refine dv 0 ?_;refine aO 1 ?_;refine dv 2 ?_;refine dv 3 ?_;refine dv 4 ?_;refine aO 5 ?_;refine dv 6 ?_;refine dv 7 ?_
   refine fM 8 ((Fr4.of (R.base t e)).tr false) ((by rw[←nV he9,←pB (by rw[nW];exact he9)];exact iE ((R.bs t).map Fr4.of) (k:=e) (by omega))) ?_
   refine aO 10 ?_;refine aO 11 ?_;refine aO 12 ?_;refine aX 9 rfl (Yl (Qn.of (p:=(R.base t e)) (L:=4) hsb)) PW ⟨aD rfl,rfl⟩ (qF (.of (-(R.base t e)))) ?_;refine df 13 ?_
   refine iU (key:=7) 14 (by kernel_rfl) rfl rfl aB rfl ⟨rfl,rfl,rfl,rfl,trivial⟩ ?_
   refine kP (j:=8) (n:=(R.vns (R.run (t+1)) (R.ex (R.run t) t) (fun _ _=>(0:Rat)) (R.vlk t e)).length) (l:=((R.vns (R.run (t+1)) (R.ex (R.run t) t) (fun _ _=>(0:Rat)) (R.vlk t e)).flatMap (cF false)).map .t) 15 rfl aB rfl rfl rfl (.sl rfl (by rw[dF,bE (cQ false)])) (.sl rfl rfl rfl) rfl rfl (by omega) (by omega) rfl ⟨rfl,rfl,rfl,rfl,trivial⟩ rfl (by kernel_rfl) rfl ?_
   refine dv 16 ?_;refine dst 17 ?_;refine aV ?_;refine rl (o1 ?_);refine o1 ?_;refine aZ 130 (e+1) ?_
   refine o1 ?_;refine nl ?_
   have hfin:(R.vns (R.run (t+1)) (R.ex (R.run t) t) (fun _ _=>(0:Rat)) (R.vlk t e))++[⟨((t:Nat):Int),((e:Nat):Int),-(R.base t e),(0:Rat),(0:Rat),(0:Rat)⟩]=(R.vns (R.run (t+1)) (R.ex (R.run t) t) (fun _ _=>(0:Rat)) (R.vlk t (e+1))):=by
    rw[Qx hv,←Mt];unfold Rg.vn;rw[Fz (bC _),Xq (bC _),(uZ hv).1]
   exact⟨e+1,by omega,by omega,aW h0 [1,8,3,0,4,5,6] ⟨aC rfl,aC (congrArg (fun l:List AV=>some (⟨87,18,l⟩:Ob)) ((LJ (R.vns (R.run (t+1)) (R.ex (R.run t) t) (fun _ _=>(0:Rat)) (R.vlk t e)) ⟨((t:Nat):Int),((e:Nat):Int),-(R.base t e),(0:Rat),(0:Rat),(0:Rat)⟩).trans (by rw[hfin]))),aC rfl,oe rfl (by have h9:(some ⟨31,0,[.sl 1 0 (t+1),.sl 8 0 ((R.vns (R.run (t+1)) (R.ex (R.run t) t) (fun _ _=>(0:Rat)) (R.vlk t e)).length+1),.sl 3 0 (R.run (t+1)).length]⟩:Option Ob)=some ⟨31,0,[.sl 1 0 (t+1),.sl 8 0 (R.vns (R.run (t+1)) (R.ex (R.run t) t) (fun _ _=>(0:Rat)) (R.vlk t (e+1))).length,.sl 3 0 (R.run (t+1)).length]⟩:=(by rw[←hfin,cO];rfl);exact h9),aC rfl,oe rfl rfl,aC rfl,rfl⟩⟩
  refine sk (rl (o1 ?_));refine o1 ?_;refine aZ 130 (e+1) ?_
  refine o1 ?_;refine nl ?_;have hv1:R.vlk t (e+1)=R.vlk t e:=Xr h7
  exact⟨e+1,by omega,by omega,aW h0 [1,2,3,0,4,5,6] ⟨aC rfl,aC (by have h9:(some ⟨87,18,((R.vns (R.run (t+1)) (R.ex (R.run t) t) (fun _ _=>(0:Rat)) (R.vlk t e)).flatMap (cF false)).map .t⟩:Option Ob)=some ⟨87,18,((R.vns (R.run (t+1)) (R.ex (R.run t) t) (fun _ _=>(0:Rat)) (R.vlk t (e+1))).flatMap (cF false)).map .t⟩:=(by rw[hv1]);exact h9),aC rfl,oe rfl (by have h9:(some ⟨31,0,[.sl 1 0 (t+1),.sl 2 0 (R.vns (R.run (t+1)) (R.ex (R.run t) t) (fun _ _=>(0:Rat)) (R.vlk t e)).length,.sl 3 0 (R.run (t+1)).length]⟩:Option Ob)=some ⟨31,0,[.sl 1 0 (t+1),.sl 2 0 (R.vns (R.run (t+1)) (R.ex (R.run t) t) (fun _ _=>(0:Rat)) (R.vlk t (e+1))).length,.sl 3 0 (R.run (t+1)).length]⟩:=(by rw[hv1]);exact h9),aC rfl,oe rfl rfl,aC rfl,rfl⟩⟩
 refine ex (sq (sq (rl (o1 ?_))));refine nl (bl ?_);have hee:e=R.E:=by omega
 subst hee
 have hx0:(R.vns (R.run (t+1)) (R.ex (R.run t) t) (fun _ _=>(0:Rat)) (R.vlk t R.E))=(R.vns (R.run (t+1)) (R.xk t 0) (fun _ _=>(0:Rat)) (R.vl (t+1))):=by rw[Qw,LK];exact congrArg (fun x=>R.vns (R.run (t+1)) x (fun _ _=>(0:Rat)) (R.vl (t+1))) Lm.symm
 refine lp (γ:=Nat) (fun s=>bS [(1,.one (tv (.int .i64 ((R.f:Nat):Int)))),(2,.one (tv (.int .i64 ((t:Nat):Int)))),(4,.one (.pt 3 0)),(8,.one (.pt 4 0)),(16,.one (tv (.int .i64 ((s:Nat):Int))))]) (fun s=>[(⟨106,5,((R.rls (R.run (t+1)) (t+1)).flatMap rlt).map .t⟩:Ob),⟨87,18,((R.vns (R.run (t+1)) (R.xk t s) (fun _ _=>(0:Rat)) (R.vl (t+1))).flatMap (cF false)).map .t⟩,⟨109,7,((R.run (t+1)).flatMap (eM false)).map .t⟩,⟨31,0,[.sl 0 0 (t+1),.sl 1 0 (R.vl (t+1)).length,.sl 2 0 (R.run (t+1)).length]⟩,⟨31,0,[tv (.slice none 0 0),tv (.slice none 0 0),tv (.slice none 0 0)]⟩].map some) (fun s=>s≤(R.vl (t+1)).length) (fun s=>(R.vl (t+1)).length-s) 0 (Nat.zero_le _) (aW h0 [0,1,2,3,5] ⟨aC rfl,aC (by have h9:(some ⟨87,18,((R.vns (R.run (t+1)) (R.ex (R.run t) t) (fun _ _=>(0:Rat)) (R.vlk t R.E)).flatMap (cF false)).map .t⟩:Option Ob)=some ⟨87,18,((R.vns (R.run (t+1)) (R.xk t 0) (fun _ _=>(0:Rat)) (R.vl (t+1))).flatMap (cF false)).map .t⟩:=(by rw[hx0]);exact h9),aC rfl,oe rfl (by have h9:(some ⟨31,0,[.sl 0 0 (t+1),.sl 1 0 (R.vns (R.run (t+1)) (R.ex (R.run t) t) (fun _ _=>(0:Rat)) (R.vlk t R.E)).length,.sl 2 0 (R.run (t+1)).length]⟩:Option Ob)=some ⟨31,0,[.sl 0 0 (t+1),.sl 1 0 (R.vl (t+1)).length,.sl 2 0 (R.run (t+1)).length]⟩:=(by rw[hx0,dP]);exact h9),oe rfl rfl,rfl⟩) ?_
 rintro j hj;refine sq (sq (rl (o1 ?_)));refine o1 ?_;refine ld ?_;refine o1 ?_;refine o1 ?_;refine nl ?_;refine bL rfl (fun h8=>?_) (fun h8=>?_)
 ·refine sk (sq (bl (sq ?_)));have hj9:j<(R.vl (t+1)).length:=by omega
  obtain⟨hq1,hq2,hq3⟩:=gK.1 (Cr (l:=(R.vl (t+1))) hj9)
  have hIv:R.Iv N (R.run (t+1)):=hOk.run (by omega)
  have hvl9:(R.vns (R.run (t+1)) (R.xk t j) (fun _ _=>(0:Rat)) (R.vl (t+1))).length=(R.vl (t+1)).length:=dP
  have hge:(R.vns (R.run (t+1)) (R.xk t j) (fun _ _=>(0:Rat)) (R.vl (t+1)))[j]? =some (⟨(aA (R.vl (t+1)) j).1,(aA (R.vl (t+1)) j).2,(R.los (aA (R.vl (t+1)) j).1 (aA (R.vl (t+1)) j).2),(cS (R.run (t+1)) (aA (R.vl (t+1)) j).1 (aA (R.vl (t+1)) j).2),(R.xk t j (aA (R.vl (t+1)) j).1 (aA (R.vl (t+1)) j).2),(0:Rat)⟩:Vn):=by
   unfold Rg.vns;rw[List.getElem?_map,mU hj9];rfl
  have hsl:Sz 300 (R.los (aA (R.vl (t+1)) j).1 (aA (R.vl (t+1)) j).2):=hOk.sz_los (by omega) hq2
  have hsu:Sz 300 (cS (R.run (t+1)) (aA (R.vl (t+1)) j).1 (aA (R.vl (t+1)) j).2):=hIv.sz_vOf hOk (by omega) hq2
  have hsx:Sz 300 (R.xk t j (aA (R.vl (t+1)) j).1 (aA (R.vl (t+1)) j).2):=by rw[Vb hj9];exact Jw hOk hIv (by omega) hq2
  refine rl (o1 ?_);refine ld ?_;refine o1 ?_;refine o1 ?_
  refine Mi (cJ (f:=(cF false)) (z:=18) (o:=0) (us:=(cF false) ⟨(aA (R.vl (t+1)) j).1,(aA (R.vl (t+1)) j).2,(R.los (aA (R.vl (t+1)) j).1 (aA (R.vl (t+1)) j).2),(cS (R.run (t+1)) (aA (R.vl (t+1)) j).1 (aA (R.vl (t+1)) j).2),(R.xk t j (aA (R.vl (t+1)) j).1 (aA (R.vl (t+1)) j).2),(0:Rat)⟩) (cQ false) (hge) (bN rfl) rfl) ?_
  refine al 5 ?_;refine st ?_;refine nl (sq (rl (o1 ?_)));refine ld ?_;(iterate 4 refine o1 ?_);refine nl ?_;refine bL rfl (fun h9=>?_) (fun h9=>?_)
  ·refine sq ?_;have hyes:(aA (R.vl (t+1)) j).1+R.f=t:=by
    have h9:(((aA (R.vl (t+1)) j).1:Nat):Int)=((t:Nat):Int)-((R.f:Nat):Int):=h9
    omega
   refine rl (ld ?_)
   refine ca (Ej (v:=(⟨(aA (R.vl (t+1)) j).1,(aA (R.vl (t+1)) j).2,(R.los (aA (R.vl (t+1)) j).1 (aA (R.vl (t+1)) j).2),(cS (R.run (t+1)) (aA (R.vl (t+1)) j).1 (aA (R.vl (t+1)) j).2),(R.xk t j (aA (R.vl (t+1)) j).1 (aA (R.vl (t+1)) j).2),(0:Rat)⟩:Vn)) (by exact hsl.mono (by omega)) (by exact hsu.mono (by omega)) (by exact hsx.mono (by omega))) Vd ⟨aD rfl,rfl⟩ (qF (.of ((R.los (aA (R.vl (t+1)) j).1 (aA (R.vl (t+1)) j).2)-((cS (R.run (t+1)) (aA (R.vl (t+1)) j).1 (aA (R.vl (t+1)) j).2)+(R.xk t j (aA (R.vl (t+1)) j).1 (aA (R.vl (t+1)) j).2))))) ?_
   refine o1 ?_;refine st ?_;refine nl (rl (o1 ?_));refine ld ?_;refine o1 ?_;refine ld ?_;refine o1 ?_
   refine uI (dN (xs:=(R.vns (R.run (t+1)) (R.xk t j) (fun _ _=>(0:Rat)) (R.vl (t+1)))) (k:=j) (x:=(⟨(aA (R.vl (t+1)) j).1,(aA (R.vl (t+1)) j).2,(R.los (aA (R.vl (t+1)) j).1 (aA (R.vl (t+1)) j).2),(cS (R.run (t+1)) (aA (R.vl (t+1)) j).1 (aA (R.vl (t+1)) j).2),(R.xk t j (aA (R.vl (t+1)) j).1 (aA (R.vl (t+1)) j).2),(0:Rat)⟩:Vn)) (f:=(cF false)) (z:=18) (o:=0) (x':=(⟨(aA (R.vl (t+1)) j).1,(aA (R.vl (t+1)) j).2,(R.los (aA (R.vl (t+1)) j).1 (aA (R.vl (t+1)) j).2),(cS (R.run (t+1)) (aA (R.vl (t+1)) j).1 (aA (R.vl (t+1)) j).2),((R.los (aA (R.vl (t+1)) j).1 (aA (R.vl (t+1)) j).2)-((cS (R.run (t+1)) (aA (R.vl (t+1)) j).1 (aA (R.vl (t+1)) j).2)+(R.xk t j (aA (R.vl (t+1)) j).1 (aA (R.vl (t+1)) j).2))),(0:Rat)⟩:Vn)) (us:=(cF false) ⟨(aA (R.vl (t+1)) j).1,(aA (R.vl (t+1)) j).2,(R.los (aA (R.vl (t+1)) j).1 (aA (R.vl (t+1)) j).2),(cS (R.run (t+1)) (aA (R.vl (t+1)) j).1 (aA (R.vl (t+1)) j).2),((R.los (aA (R.vl (t+1)) j).1 (aA (R.vl (t+1)) j).2)-((cS (R.run (t+1)) (aA (R.vl (t+1)) j).1 (aA (R.vl (t+1)) j).2)+(R.xk t j (aA (R.vl (t+1)) j).1 (aA (R.vl (t+1)) j).2))),(0:Rat)⟩) (cQ false) (hge) (bN rfl) rfl) (eP (xs:=(R.vns (R.run (t+1)) (R.xk t j) (fun _ _=>(0:Rat)) (R.vl (t+1)))) (k:=j) (f:=(cF false)) (z:=18) (o:=0) (us:=(cF false) ⟨(aA (R.vl (t+1)) j).1,(aA (R.vl (t+1)) j).2,(R.los (aA (R.vl (t+1)) j).1 (aA (R.vl (t+1)) j).2),(cS (R.run (t+1)) (aA (R.vl (t+1)) j).1 (aA (R.vl (t+1)) j).2),((R.los (aA (R.vl (t+1)) j).1 (aA (R.vl (t+1)) j).2)-((cS (R.run (t+1)) (aA (R.vl (t+1)) j).1 (aA (R.vl (t+1)) j).2)+(R.xk t j (aA (R.vl (t+1)) j).1 (aA (R.vl (t+1)) j).2))),(0:Rat)⟩) (cQ false) (by omega) (bN rfl)) ?_
   refine nl (rl (o1 ?_));refine o1 ?_;refine aZ 169 (j+1) ?_
   refine o1 ?_;refine nl ?_
   exact⟨j+1,by omega,by omega,aW h0 [0,1,2,3,4] ⟨aC rfl,aC (congrArg (fun l:List Vn=>some (⟨87,18,(l.flatMap (cF false)).map .t⟩:Ob)) (QJ hj9 hyes)),aC rfl,oe rfl rfl,oe rfl rfl,rfl⟩⟩
  refine sk (rl (o1 ?_));refine o1 ?_;refine aZ 169 (j+1) ?_
  refine o1 ?_;refine nl ?_
  exact⟨j+1,by omega,by omega,aW h0 [0,1,2,3,4] ⟨aC rfl,aC (congrArg (fun l:List Vn=>some (⟨87,18,(l.flatMap (cF false)).map .t⟩:Ob)) (VI hj9 (by have h9:¬((((aA (R.vl (t+1)) j).1:Nat):Int)=((t:Nat):Int)-((R.f:Nat):Int)):=h9;omega)).symm),aC rfl,oe rfl rfl,oe rfl rfl,rfl⟩⟩
 refine ex (sq (rl (ld ?_)));refine st ?_;refine nl (rt ?_);have hje:j=(R.vl (t+1)).length:=by omega
 have hve:(R.vns (R.run (t+1)) (R.xk t j) (fun _ _=>(0:Rat)) (R.vl (t+1)))=(R.vns (R.run (t+1)) (R.ex (R.run (t+1)) (t+1)) (fun _ _=>(0:Rat)) (R.vl (t+1))):=by
  rw[hje];refine List.map_congr_left fun q hq=>?_
  unfold Rg.vn;rw[QI hq]
 have hR1:(R.rls (R.run (t+1)) (t+1)).length=t+1:=pC
 have hV1:(R.vns (R.run (t+1)) (R.ex (R.run (t+1)) (t+1)) (fun _ _=>(0:Rat)) (R.vl (t+1))).length=(R.vl (t+1)).length:=dP
 have hV2:(R.vns (R.run (t+1)) (R.xk t j) (fun _ _=>(0:Rat)) (R.vl (t+1))).length=(R.vl (t+1)).length:=dP
 exact wK <| en (.inl rfl) rfl (bD (.agg (.cons (.sl (trs:=(R.rls (R.run (t+1)) (t+1)).flatMap rlt) rfl rfl (aN _ _ (by rw[bE gZ,hR1])) (by rw[bE gZ,hR1])) (.cons (.sl (trs:=(R.vns (R.run (t+1)) (R.xk t j) (fun _ _=>(0:Rat)) (R.vl (t+1))).flatMap (cF false)) rfl rfl (aN _ _ (by rw[bE (cQ false),hV2])) (by rw[bE (cQ false),hV2])) (.cons (.sl (trs:=(R.run (t+1)).flatMap (eM false)) rfl rfl (aN _ _ (by rw[bE (eF false)])) (by rw[bE (eF false)])) .nil))))) (by decide) (fun h=>by cases h) (by rw[hve,kW,kU,kV,hR1,hV1];rfl)
theorem Yx {a:Fr4}(ha:a.ok) (h:qV a=true):a=Fr4.of a.q:=(Qn.right (⟨ha,rfl⟩:Qn a a.q) h).symm
theorem EO {fw:Int}{ys:List Yr}(hb:∀y∈ys,(∀a∈y.b,a.ok)∧y.l.ok) (h:eZ fw ys=0):0≤fw∧fw≤40∧ys.length≤40∧∀y∈ys,y.m.length=(aK ys 0).m.length∧y.b.length=(aK ys 0).m.length∧(∀a∈y.b,a=Fr4.of a.q)∧y.l=Fr4.of y.l.q∧0≤y.l.q:=by
 unfold eZ at h
 split at h
 ·cases h
 rename_i h1
 split at h
 ·cases h
 rename_i h2
 simp only[Bool.or_eq_true,decide_eq_true_eq,not_or]at h1
 refine⟨by omega,by omega,by omega,fun y hy=>?_⟩
 have h3:=h1.2.2
 rw[Bool.not_eq_true,List.any_eq_false]at h3
 have h4:=h3 y hy
 simp only[Bool.not_eq_true,Bool.not_eq_false']at h4
 unfold gV at h4
 simp only[Bool.and_eq_true,decide_eq_true_eq,Bool.not_eq_true']at h4
 obtain⟨a1,a2,a3,a4,a5⟩:=h4
 rw[List.any_eq_false]at a3
 exact⟨by omega,by omega,fun a ha=>Yx ((hb y hy).1 a ha) (by simpa using a3 a ha),Yx (hb y hy).2 a4,by
  rcases Rat.le_total (a:=0) (b:=y.l.q)with h5 | h5
  ·exact h5
  rcases Rat.le_iff_lt_or_eq.1 h5 with h6 | h6
  ·have:=(rZ y.l.q).2 h6
   omega
  rw[h6];exact Rat.le_refl⟩
def pJ (k:Nat):List (List (Int×Rat)×Int×Bool):=List.replicate k ([],0,false)
theorem wP {k:Nat}:(pJ k).length=k:=List.length_replicate ..
theorem vA {k:Nat}:(((pJ k).map eO).map AV.t).length=k:=by rw[dF,dF,wP]
theorem QO {k:Nat}{a:AV}:(((pJ k).map eO).map AV.t++[a])[k]? =some a:=by
 rw[List.getElem?_append_right (by rw[vA];exact bC k),vA,Nat.sub_self]
 rfl
theorem LQ {k:Nat}{a:AV}:(((pJ k).map eO).map AV.t++[a]).set k (.t (eO ([],0,false)))=((pJ (k+1)).map eO).map .t:=by
 rw[List.set_append_right _ _ (by rw[vA];exact bC k),vA,Nat.sub_self]
 unfold pJ
 rw[List.replicate_succ']
 simp
theorem EP {R:Rg}:eC (R.own (R.run 0) (R.I 0) 0)=.s true 96 1 R.E ((pJ R.E).map eO):=by
 have h:R.own (R.run 0) (R.I 0) 0=pJ R.E:=by
  have h1:R.own (R.run 0) (R.I 0) 0=(List.range R.E).map fun _=>(([]:List (Int×Rat)),(0:Int),false):=by
   have h0:R.I 0=[]:=by unfold Rg.I;rw[Nat.zero_sub];rfl
   rw[h0]
   rfl
  rw[h1,List.map_const',List.length_range]
  rfl
 rw[h,eC,wP]
theorem Ve {fw:Int}{ys:List Yr}(hb:∀y∈ys,(∀a∈y.b,a.ok)∧y.l.ok∧y.b.length≤1073741823) (hno:eZ fw ys≠0):aG false Tryz.prog 11 [] [.one (tv (.int .i64 fw)),.one (.t (sB false ys))] (aU (.tup [.agg [.t (kW true []),.t (kU true []),.t (kV true [])],.one (tv (.int .i64 (eZ fw ys)))])):=by
 refine cC Tryz.func11 rfl Tryz.ntmps11 rfl aB rfl fun N9 w9 c0 h0=>?_
 refine WP.sln (i:=1) rfl fun hlen=>?_
 have hmr:=Mw (fw:=fw) (ys:=ys)
 refine sq (rl (al 0 ?_));refine o1 ?_;refine nl (sq (rl (al 1 ?_)));refine nl (sq (sq (rl (o1 ?_))));refine o1 ?_
 refine ca (Rz (fw:=fw) hb) QP ⟨a1 rfl,a1 rfl,rfl⟩ (.one (tv (.bool (mV fw ys ys.length)))) ?_;refine o1 ?_;refine nl ?_;refine nC rfl (fun h1=>?_) (fun h1=>?_)
 ·refine sq (rl (ld ?_));refine st ?_;refine o1 ?_;refine nl (rt ?_)
  exact en (.inl rfl) rfl (rW (.cons (.agg (.cons (.nil (t:=106) (z:=5)) (.cons (.nil (t:=87) (z:=18)) (.cons (.nil (t:=109) (z:=7)) .nil)))) (.cons (cU _) .nil))) (by decide) (fun h=>by cases h) (congrArg (fun z:Int=>FV.tup [.agg [.t (kW true []),.t (kU true []),.t (kV true [])],.one (tv (.int .i64 z))]) (by unfold eZ;rw[←hmr];simp only[h1,Bool.not_true,Bool.not_false,Bool.or_true,Bool.true_or,Bool.false_or,Bool.or_false,Bool.false_eq_true,if_true,if_false,ite_true,ite_false,Bool.and_true,Bool.true_and,Bool.false_and,Bool.and_false,Bool.not_not] <;> first | rfl | (simp;done) | (simp;omega)))
 refine sk (sq (sq (rl ?_)));(iterate 3 refine o1 ?_);refine nl ?_;refine bL rfl (fun h2=>?_) (fun h2=>?_)
 ·refine sq (rl (ld ?_));refine st ?_;refine o1 ?_;refine nl (rt ?_)
  exact en (.inl rfl) rfl (rW (.cons (.agg (.cons (.nil (t:=106) (z:=5)) (.cons (.nil (t:=87) (z:=18)) (.cons (.nil (t:=109) (z:=7)) .nil)))) (.cons (cU _) .nil))) (by decide) (fun h=>by cases h) (congrArg (fun z:Int=>FV.tup [.agg [.t (kW true []),.t (kU true []),.t (kV true [])],.one (tv (.int .i64 z))]) (by unfold eZ;rw[←hmr];simp only[h1,decide_eq_true h2,Bool.not_true,Bool.not_false,Bool.or_true,Bool.true_or,Bool.false_or,Bool.or_false,Bool.false_eq_true,if_true,if_false,ite_true,ite_false,Bool.and_true,Bool.true_and,Bool.false_and,Bool.and_false,Bool.not_not] <;> first | rfl | (simp;done) | (simp;omega)))
 refine sk (sq (sq (rl (o1 ?_))));refine nl ?_
 exact absurd (show eZ fw ys=0 by unfold eZ;rw[←hmr];simp only[h1,decide_eq_false h2,Bool.not_true,Bool.not_false,Bool.or_true,Bool.true_or,Bool.false_or,Bool.or_false,Bool.false_eq_true,if_true,if_false,ite_true,ite_false,Bool.and_true,Bool.true_and,Bool.false_and,Bool.and_false,Bool.not_not] <;> first | rfl | (simp;done) | (simp;omega)) hno
set_option maxHeartbeats 4000000 in
theorem LR {R:Rg}{ys:List Yr}(hb:∀y∈ys,(∀a∈y.b,a.ok)∧y.l.ok∧y.b.length≤1073741823) (hno:eZ ((R.f:Nat):Int) ys=0) (hOk:R.Ok ys.length) (hyq:∀t,t<ys.length→eG (aK ys t)=R.yrq t):aG false Tryz.prog 11 [] [.one (tv (.int .i64 ((R.f:Nat):Int))),.one (.t (sB false ys))] (aU (.tup [.agg [.t (kW true (R.rls (R.run ys.length) ys.length)),.t (kU true (R.vnE ys.length)),.t (kV true (R.run ys.length))],.one (tv (.int .i64 0))])):=by
 refine QQ Tryz.func11 rfl Tryz.ntmps11 rfl aB rfl fun N9 w9 c0 h0=>?_
 have hE:=hOk.e;have hN:=hOk.n;have hF:=hOk.f
 have hmr:=Mw (fw:=((R.f:Nat):Int)) (ys:=ys)
 have hmg:mV ((R.f:Nat):Int) ys ys.length=true:=by
  unfold eZ at hno;rw[←hmr]at hno;cases h9:mV ((R.f:Nat):Int) ys ys.length
  ·rw[h9]at hno
   simp at hno
  rfl
 refine sq (rl (al 0 ?_));refine o1 ?_;refine nl (sq (rl (al 1 ?_)));refine nl (sq (sq (rl (o1 ?_))));refine o1 ?_
 refine ca (Rz (fw:=((R.f:Nat):Int)) hb) QP ⟨a1 rfl,a1 rfl,rfl⟩ (.one (tv (.bool (mV ((R.f:Nat):Int) ys ys.length)))) ?_;refine o1 ?_;refine nl ?_
 refine nC rfl (fun h1=>?_) (fun h1=>?_)
 ·exact absurd h1 (by rw[hmg];simp)
 refine sk (sq (sq (rl ?_)));(iterate 3 refine o1 ?_);refine nl ?_;refine bL rfl (fun h2=>?_) (fun h2=>?_)
 ·exact absurd h2 (by omega)
 refine sk (sq (sq (rl (o1 ?_))));refine nl (bl ?_)
 refine WP.sub (((yR (j:=1) (key:=2) (e:=106) (z:=5) rfl rfl rfl (.sl (.id (.id .nil)))).trans (yR (j:=1) (key:=3) (e:=87) (z:=18) rfl rfl rfl (.id (.sl (.id .nil))))).trans (yR (j:=1) (key:=4) (e:=109) (z:=7) rfl rfl rfl (.id (.id (.sl .nil))))) ?_
 refine lp (γ:=Nat) (fun s=>bS [(0,.one (tv (.int .i64 ((R.f:Nat):Int)))),(1,.one (.t (sB false ys))),(4,.one (.pt 0 0)),(6,.one (.pt 1 0)),(7,.one (tv (.int .i64 ((s:Nat):Int))))]) (fun s=>[(⟨31,0,[tv (.slice none 0 0),tv (.slice none 0 0),tv (.slice none 0 0)]⟩:Ob),⟨31,0,[.sl 2 0 s,.sl 3 0 (R.vl s).length,.sl 4 0 (R.run s).length]⟩,⟨106,5,((R.rls (R.run s) s).flatMap rlt).map .t⟩,⟨87,18,((R.vns (R.run s) (R.ex (R.run s) s) (fun _ _=>(0:Rat)) (R.vl s)).flatMap (cF false)).map .t⟩,⟨109,7,((R.run s).flatMap (eM false)).map .t⟩].map some) (fun s=>s≤ys.length) (fun s=>ys.length-s) 0 (Nat.zero_le _) (aW h0 [0,1,2,3,4] ⟨oe rfl rfl,oe rfl rfl,aC rfl,aC rfl,aC rfl,rfl⟩) ?_
 rintro t ht;refine sq (sq (rl ?_));(iterate 4 refine o1 ?_);refine nl ?_;refine bL rfl (fun h3=>?_) (fun h3=>?_)
 ·refine sk (sq (bl ?_));refine rd [0,1] (fun i=>[8].contains i) mixed ?_
  refine aO 0 ?_;refine dv 1 ?_;refine dv 2 ?_;refine dv 3 ?_;refine dv 4 ?_;refine dv 5 ?_
  refine fM 6 (R.yrq t) ((by rw[←hyq t (by omega)];exact bH (f:=eG) (z:=6) (o:=0) dS (cY (by omega)) (bN rfl) rfl)) ?_
  refine XQ 7 5 [2,3,4] rfl (EN (t:=t) hOk (by omega)) XT ⟨aC rfl,aC rfl,aC rfl,rfl⟩ ⟨rfl,rfl,rfl,rfl,rfl⟩ ⟨rfl,rfl,trivial⟩ ?_
  refine dst 8 ?_;refine aV ?_;refine rl (o1 ?_);refine o1 ?_;refine aZ 24 (t+1) ?_
  refine o1 ?_;refine nl ?_
  exact⟨t+1,by omega,by omega,aW h0 [0,1,5,6,7] ⟨oe rfl rfl,oe rfl (by have h9:(some ⟨31,0,[.sl 5 0 (R.rls (R.run (t+1)) (t+1)).length,.sl 6 0 (R.vns (R.run (t+1)) (R.ex (R.run (t+1)) (t+1)) (fun _ _=>(0:Rat)) (R.vl (t+1))).length,.sl 7 0 (R.run (t+1)).length]⟩:Option Ob)=some ⟨31,0,[.sl 5 0 (t+1),.sl 6 0 (R.vl (t+1)).length,.sl 7 0 (R.run (t+1)).length]⟩:=(by rw[pC,dP]);exact h9),aC rfl,aC rfl,aC rfl,rfl⟩⟩
 refine ex (sq (sq (rl (o1 ?_))));refine nl (bl ?_);have htn:t=ys.length:=by omega
 have hv0:R.vns (R.run t) (R.ex (R.run t) t) (fun _ _=>(0:Rat)) (R.vl t)=(R.vns (R.run ys.length) (R.ex (R.run ys.length) ys.length) (R.ck ys.length 0) (R.vl ys.length)):=by rw[htn,LL]
 refine lp (γ:=Nat) (fun s=>bS [(4,.one (.pt 0 0)),(6,.one (.pt 1 0)),(8,.one (tv (.int .i64 ((s:Nat):Int))))]) (fun s=>[(⟨31,0,[tv (.slice none 0 0),tv (.slice none 0 0),tv (.slice none 0 0)]⟩:Ob),⟨31,0,[.sl 2 0 ys.length,.sl 3 0 (R.vl ys.length).length,.sl 4 0 (R.run ys.length).length]⟩,⟨106,5,((R.rls (R.run ys.length) ys.length).flatMap rlt).map .t⟩,⟨87,18,((R.vns (R.run ys.length) (R.ex (R.run ys.length) ys.length) (R.ck ys.length s) (R.vl ys.length)).flatMap (cF false)).map .t⟩,⟨109,7,((R.run ys.length).flatMap (eM false)).map .t⟩].map some) (fun s=>s≤(R.vl ys.length).length) (fun s=>(R.vl ys.length).length-s) 0 (Nat.zero_le _) (aW h0 [0,1,2,3,4] ⟨oe rfl rfl,oe rfl (by have h9:(some ⟨31,0,[.sl 2 0 t,.sl 3 0 (R.vl t).length,.sl 4 0 (R.run t).length]⟩:Option Ob)=some ⟨31,0,[.sl 2 0 ys.length,.sl 3 0 (R.vl ys.length).length,.sl 4 0 (R.run ys.length).length]⟩:=(by rw[htn]);exact h9),aC (by have h9:(some ⟨106,5,((R.rls (R.run t) t).flatMap rlt).map .t⟩:Option Ob)=some ⟨106,5,((R.rls (R.run ys.length) ys.length).flatMap rlt).map .t⟩:=(by rw[htn]);exact h9),aC (by have h9:(some ⟨87,18,((R.vns (R.run t) (R.ex (R.run t) t) (fun _ _=>(0:Rat)) (R.vl t)).flatMap (cF false)).map .t⟩:Option Ob)=some ⟨87,18,((R.vns (R.run ys.length) (R.ex (R.run ys.length) ys.length) (R.ck ys.length 0) (R.vl ys.length)).flatMap (cF false)).map .t⟩:=(by rw[hv0]);exact h9),aC (by have h9:(some ⟨109,7,((R.run t).flatMap (eM false)).map .t⟩:Option Ob)=some ⟨109,7,((R.run ys.length).flatMap (eM false)).map .t⟩:=(by rw[htn]);exact h9),rfl⟩) ?_
 rintro j hj;refine sq (sq (rl (o1 ?_)));refine o1 ?_;refine ld ?_;refine o1 ?_;refine o1 ?_;refine nl ?_;refine bL rfl (fun h4=>?_) (fun h4=>?_)
 ·refine sk (sq (bl (sq ?_)));have hj9:j<(R.vl ys.length).length:=by omega
  obtain⟨hq1,hq2,hq3⟩:=gK.1 (Cr (l:=(R.vl ys.length)) hj9)
  have hIv:R.Iv ys.length (R.run ys.length):=hOk.run (bC _)
  have hvl8:=lK (R:=R) hE ys.length
  have hvl9:(R.vns (R.run ys.length) (R.ex (R.run ys.length) ys.length) (R.ck ys.length j) (R.vl ys.length)).length=(R.vl ys.length).length:=dP
  have hge:(R.vns (R.run ys.length) (R.ex (R.run ys.length) ys.length) (R.ck ys.length j) (R.vl ys.length))[j]? =some (⟨(aA (R.vl ys.length) j).1,(aA (R.vl ys.length) j).2,(R.los (aA (R.vl ys.length) j).1 (aA (R.vl ys.length) j).2),(cS (R.run ys.length) (aA (R.vl ys.length) j).1 (aA (R.vl ys.length) j).2),((R.ex (R.run ys.length) ys.length) (aA (R.vl ys.length) j).1 (aA (R.vl ys.length) j).2),(R.ck ys.length j (aA (R.vl ys.length) j).1 (aA (R.vl ys.length) j).2)⟩:Vn):=by
   unfold Rg.vns;rw[List.getElem?_map,mU hj9];rfl
  have hsl:Sz 300 (R.los (aA (R.vl ys.length) j).1 (aA (R.vl ys.length) j).2):=hOk.sz_los (by omega) hq2
  have hsu:Sz 300 (cS (R.run ys.length) (aA (R.vl ys.length) j).1 (aA (R.vl ys.length) j).2):=hIv.sz_vOf hOk (by omega) hq2
  have hsx:Sz 300 ((R.ex (R.run ys.length) ys.length) (aA (R.vl ys.length) j).1 (aA (R.vl ys.length) j).2):=Jw hOk hIv (by omega) hq2
  refine rl (o1 ?_);refine ld ?_;refine o1 ?_;refine o1 ?_
  refine Mi (cJ (f:=(cF false)) (z:=18) (o:=0) (us:=(cF false) ⟨(aA (R.vl ys.length) j).1,(aA (R.vl ys.length) j).2,(R.los (aA (R.vl ys.length) j).1 (aA (R.vl ys.length) j).2),(cS (R.run ys.length) (aA (R.vl ys.length) j).1 (aA (R.vl ys.length) j).2),((R.ex (R.run ys.length) ys.length) (aA (R.vl ys.length) j).1 (aA (R.vl ys.length) j).2),(R.ck ys.length j (aA (R.vl ys.length) j).1 (aA (R.vl ys.length) j).2)⟩) (cQ false) (hge) (bN rfl) rfl) ?_
  refine al 5 ?_;refine st ?_;refine nl (sq (rl (ld ?_)))
  refine ca (Ej (v:=(⟨(aA (R.vl ys.length) j).1,(aA (R.vl ys.length) j).2,(R.los (aA (R.vl ys.length) j).1 (aA (R.vl ys.length) j).2),(cS (R.run ys.length) (aA (R.vl ys.length) j).1 (aA (R.vl ys.length) j).2),((R.ex (R.run ys.length) ys.length) (aA (R.vl ys.length) j).1 (aA (R.vl ys.length) j).2),(R.ck ys.length j (aA (R.vl ys.length) j).1 (aA (R.vl ys.length) j).2)⟩:Vn)) (by exact hsl.mono (by omega)) (by exact hsu.mono (by omega)) (by exact hsx.mono (by omega))) Vd ⟨aD rfl,rfl⟩ (qF (.of ((R.los (aA (R.vl ys.length) j).1 (aA (R.vl ys.length) j).2)-((cS (R.run ys.length) (aA (R.vl ys.length) j).1 (aA (R.vl ys.length) j).2)+((R.ex (R.run ys.length) ys.length) (aA (R.vl ys.length) j).1 (aA (R.vl ys.length) j).2))))) ?_
  refine o1 ?_;refine st ?_;refine nl (rl (o1 ?_));refine ld ?_;refine o1 ?_;refine ld ?_;refine o1 ?_
  refine uI (dN (xs:=(R.vns (R.run ys.length) (R.ex (R.run ys.length) ys.length) (R.ck ys.length j) (R.vl ys.length))) (k:=j) (x:=(⟨(aA (R.vl ys.length) j).1,(aA (R.vl ys.length) j).2,(R.los (aA (R.vl ys.length) j).1 (aA (R.vl ys.length) j).2),(cS (R.run ys.length) (aA (R.vl ys.length) j).1 (aA (R.vl ys.length) j).2),((R.ex (R.run ys.length) ys.length) (aA (R.vl ys.length) j).1 (aA (R.vl ys.length) j).2),(R.ck ys.length j (aA (R.vl ys.length) j).1 (aA (R.vl ys.length) j).2)⟩:Vn)) (f:=(cF false)) (z:=18) (o:=0) (x':=(⟨(aA (R.vl ys.length) j).1,(aA (R.vl ys.length) j).2,(R.los (aA (R.vl ys.length) j).1 (aA (R.vl ys.length) j).2),(cS (R.run ys.length) (aA (R.vl ys.length) j).1 (aA (R.vl ys.length) j).2),((R.ex (R.run ys.length) ys.length) (aA (R.vl ys.length) j).1 (aA (R.vl ys.length) j).2),((R.los (aA (R.vl ys.length) j).1 (aA (R.vl ys.length) j).2)-((cS (R.run ys.length) (aA (R.vl ys.length) j).1 (aA (R.vl ys.length) j).2)+((R.ex (R.run ys.length) ys.length) (aA (R.vl ys.length) j).1 (aA (R.vl ys.length) j).2)))⟩:Vn)) (us:=(cF false) ⟨(aA (R.vl ys.length) j).1,(aA (R.vl ys.length) j).2,(R.los (aA (R.vl ys.length) j).1 (aA (R.vl ys.length) j).2),(cS (R.run ys.length) (aA (R.vl ys.length) j).1 (aA (R.vl ys.length) j).2),((R.ex (R.run ys.length) ys.length) (aA (R.vl ys.length) j).1 (aA (R.vl ys.length) j).2),((R.los (aA (R.vl ys.length) j).1 (aA (R.vl ys.length) j).2)-((cS (R.run ys.length) (aA (R.vl ys.length) j).1 (aA (R.vl ys.length) j).2)+((R.ex (R.run ys.length) ys.length) (aA (R.vl ys.length) j).1 (aA (R.vl ys.length) j).2)))⟩) (cQ false) (hge) (bN rfl) rfl) (eP (xs:=(R.vns (R.run ys.length) (R.ex (R.run ys.length) ys.length) (R.ck ys.length j) (R.vl ys.length))) (k:=j) (f:=(cF false)) (z:=18) (o:=0) (us:=(cF false) ⟨(aA (R.vl ys.length) j).1,(aA (R.vl ys.length) j).2,(R.los (aA (R.vl ys.length) j).1 (aA (R.vl ys.length) j).2),(cS (R.run ys.length) (aA (R.vl ys.length) j).1 (aA (R.vl ys.length) j).2),((R.ex (R.run ys.length) ys.length) (aA (R.vl ys.length) j).1 (aA (R.vl ys.length) j).2),((R.los (aA (R.vl ys.length) j).1 (aA (R.vl ys.length) j).2)-((cS (R.run ys.length) (aA (R.vl ys.length) j).1 (aA (R.vl ys.length) j).2)+((R.ex (R.run ys.length) ys.length) (aA (R.vl ys.length) j).1 (aA (R.vl ys.length) j).2)))⟩) (cQ false) (by omega) (bN rfl)) ?_
  refine nl (rl (o1 ?_));refine o1 ?_;refine aZ 39 (j+1) ?_
  refine o1 ?_;refine nl ?_
  exact⟨j+1,by omega,by omega,aW h0 [0,1,2,3,4] ⟨oe rfl rfl,oe rfl rfl,aC rfl,aC (congrArg (fun l:List Vn=>some (⟨87,18,(l.flatMap (cF false)).map .t⟩:Ob)) (LM hj9)),aC rfl,rfl⟩⟩
 refine ex (sq (rl (ld ?_)));refine st ?_;refine o1 ?_;refine nl (rt ?_);have hje:j=(R.vl ys.length).length:=by omega
 have hve:(R.vns (R.run ys.length) (R.ex (R.run ys.length) ys.length) (R.ck ys.length j) (R.vl ys.length))=(R.vnE ys.length):=by
  rw[hje];exact QK
 have hR1:(R.rls (R.run ys.length) ys.length).length=ys.length:=pC
 have hV1:(R.vnE ys.length).length=(R.vl ys.length).length:=dP
 have hV2:(R.vns (R.run ys.length) (R.ex (R.run ys.length) ys.length) (R.ck ys.length j) (R.vl ys.length)).length=(R.vl ys.length).length:=dP
 exact wK <| en (.inl rfl) rfl (rW (.cons (.agg (.cons (.sl (trs:=(R.rls (R.run ys.length) ys.length).flatMap rlt) rfl rfl (aN _ _ (by rw[bE gZ,hR1])) (by rw[bE gZ,hR1])) (.cons (.sl (trs:=(R.vns (R.run ys.length) (R.ex (R.run ys.length) ys.length) (R.ck ys.length j) (R.vl ys.length)).flatMap (cF false)) rfl rfl (aN _ _ (by rw[bE (cQ false),hV2])) (by rw[bE (cQ false),hV2])) (.cons (.sl (trs:=(R.run ys.length).flatMap (eM false)) rfl rfl (aN _ _ (by rw[bE (eF false)])) (by rw[bE (eF false)])) .nil)))) (.cons (cU _) .nil))) (by decide) (fun h=>by cases h) (by rw[hve,kW,kU,kV,hR1,hV1];rfl)
theorem QR {us:List Ur}{ent:Int}{rw9:List Rl}{vs:List Vn}(hz:∀k,Sz 17179869184 (fO (us.take k) ent)) (hu:∀u∈us,Sz 17179869184 u.n) (hl:us.length≤1073741823):aG false Tryz.prog 16 [] [.agg [.t (kW false rw9),.t (kU false vs),.t (kV false us)],.one (tv (.int .i64 ent))] (aU (qF (.of (fO us ent)))):=by
 refine cC Tryz.func16 rfl Tryz.ntmps16 rfl aB rfl fun N9 w9 c0 h0=>?_
 have h00:(0:Rat)=(fO (us.take 0) ent):=by simp[fO,lW,mR]
 refine sq (rl (bx 0 ?_));refine al 1 ?_;refine nl (sq (rl (ca (An) Uy rfl (qF (.of (0:Rat))) ?_)));refine al 2 ?_;refine st ?_;refine nl ?_
 refine sq (sq (rl (o1 ?_)));refine nl (bl ?_)
 refine lp (γ:=Nat) (fun s=>bS [(1,.one (tv (.int .i64 ent))),(2,.one (.pt 0 0)),(4,.one (.pt 1 0)),(5,.one (.pt 2 0)),(6,.one (tv (.int .i64 ((s:Nat):Int))))]) (fun s=>[(⟨31,0,[.t (kW false rw9),.t (kU false vs),.t (kV false us)]⟩:Ob),⟨52,0,[tv (.bool false),tv (.slice none 0 0),tv (.bool false),tv (.slice none 0 0)]⟩,⟨52,0,((Fr4.of (fO (us.take s) ent)).tr false).map .t⟩].map some) (fun s=>s≤us.length) (fun s=>us.length-s) 0 (Nat.zero_le _) (aW h0 [0,1,2] ⟨oe rfl rfl,oe rfl rfl,aC (congrArg (fun q:Rat=>some (⟨52,0,((Fr4.of q).tr false).map .t⟩:Ob)) h00),rfl⟩) ?_
 rintro k hk;refine sq (sq (rl (o1 ?_)));refine o1 ?_;refine ld ?_;refine o1 ?_;refine o1 ?_;refine nl ?_;refine bL rfl (fun h1=>?_) (fun h1=>?_)
 ·refine sk (sq (bl (sq (rl (o1 ?_)))));refine ld ?_;(iterate 3 refine o1 ?_)
  refine eE ([.v (.int .i64 (fC us (k)).e)]) (bH (f:=(eM false)) (z:=7) (o:=1) (eF false) (gA (by omega)) (bN rfl) rfl) ?_
  refine o1 ?_;refine o1 ?_;refine nl ?_;refine bL rfl (fun h2=>?_) (fun h2=>?_)
  ·refine rd [0,1,2] (fun i=>[8].contains i) mixed ?_
   refine aO 0 ?_;refine dv 1 ?_;refine aO 2 ?_;refine dv 3 ?_;refine dv 4 ?_;refine dv 5 ?_
   refine fM 6 ((Fr4.of (fC us (k)).n).tr false) (bH (f:=(eM false)) (z:=7) (o:=3) (eF false) (gA (by omega)) (bN rfl) rfl) ?_
   refine aX 7 rfl (uU (Qn.of (L:=17179869184) (hz k)) (Qn.of (L:=17179869184) (hu _ (iC (l:=us) (i:=k) (by omega)))) (hz k) (hu _ (iC (l:=us) (i:=k) (by omega)))) Gi ⟨aD rfl,aD rfl,rfl⟩ (qF (.of ((fO (us.take k) ent)+(fC us (k)).n))) ?_
   refine dst 8 ?_;refine aV ?_;refine rl (o1 ?_);refine o1 ?_;refine aZ 14 (k+1) ?_
   refine o1 ?_;refine nl ?_;have hst:((fO (us.take k) ent)+(fC us (k)).n)=(fO (us.take (k+1)) ent):=by rw[Aq (by omega),if_pos h2]
   exact⟨k+1,by omega,by omega,aW h0 [0,1,2] ⟨oe rfl rfl,oe rfl rfl,aC (congrArg (fun q:Rat=>some (⟨52,0,((Fr4.of q).tr false).map .t⟩:Ob)) hst),rfl⟩⟩
  refine sk (rl (o1 ?_));refine o1 ?_;refine aZ 14 (k+1) ?_
  refine o1 ?_;refine nl ?_;have hst:(fO (us.take k) ent)=(fO (us.take (k+1)) ent):=by rw[Aq (by omega),if_neg h2]
  exact⟨k+1,by omega,by omega,aW h0 [0,1,2] ⟨oe rfl rfl,oe rfl rfl,aC (congrArg (fun q:Rat=>some (⟨52,0,((Fr4.of q).tr false).map .t⟩:Ob)) hst),rfl⟩⟩
 refine ex (sq (rl (ld ?_)));refine st ?_;refine nl (rt ?_)
 exact en (.inl rfl) rfl (bD (.agg (.cons (.id rfl) (.cons (.id rfl) (.cons (.id rfl) (.cons (.id rfl) .nil)))))) (by decide) (fun h=>by cases h) (by rw[fF (by omega)];rfl)
section
variable {z p n i:Nat}{trs:List Tr}
def Spg (z p n:Nat) (trs:List Tr):Prop:=trs.length=n*z∧∀i,i<n→∃xs,xs.length≤1099511627776∧trs[i*z+p]? =some (sU true xs)
theorem Spg.step (h:Spg z p n trs) (hp:p<z) (hi:i<n) (zs:List Nat) (hz:zs.length≤1099511627776):Spg z p n (trs.set (i*z+p) (sU true zs)):=by
 have hlt:i*z+p<n*z:=by
  have h1:=Nat.mul_le_mul_right z (Nat.succ_le_of_lt hi)
  rw[Nat.succ_mul]at h1
  omega
 refine⟨by rw[List.length_set];exact h.1,fun j hj=>?_⟩
 by_cases e:j=i
 ·subst e
  exact⟨zs,hz,List.getElem?_set_self (by rw[h.1];exact hlt)⟩
 rw[List.getElem?_set_ne (fun e9=>e (Nat.eq_of_mul_eq_mul_right (show 0<z by omega) (show j*z=i*z by omega)))]
 exact h.2 j hj
theorem yW {α β:Type}{f:α→List β}{z:Nat}(hl:∀x,(f x).length=z):∀{l:List α}{i o:Nat}{x:α},l[i]? =some x→o<z→(l.flatMap f)[i*z+o]? =(f x)[o]?
 | [],i,o,x,h,_=>by simp at h
 | y::l,0,o,x,h,ho=>by
  simp at h
  subst h
  rw[List.flatMap_cons,Nat.zero_mul,Nat.zero_add,List.getElem?_append_left (by rw[hl];exact ho)]
 | y::l,i+1,o,x,h,ho=>by
  rw[List.getElem?_cons_succ]at h
  rw[List.flatMap_cons,List.getElem?_append_right (by rw[hl,Nat.succ_mul];omega),hl,show(i+1)*z+o-z=i*z+o by rw[Nat.succ_mul];omega]
  exact yW hl h ho
theorem Spg.ur {us:List Ur}(h:∀u∈us,Sz 68719476736 u.n):Spg 7 4 us.length (us.flatMap (eM true)):=⟨bE (eF true) us,fun i hi=>⟨_,Nat.le_trans (h _ (iC hi)).1 (by omega),(yW (eF true) (gA hi) (by omega)).trans rfl⟩⟩
theorem Spg.vn {vs:List Vn}(h:∀v∈vs,Sz 68719476736 v.l):Spg 18 3 vs.length (vs.flatMap (cF true)):=⟨bE (cQ true) vs,fun i hi=>⟨_,Nat.le_trans (h _ (tD hi)).1 (by omega),(yW (cQ true) (lE hi) (by omega)).trans rfl⟩⟩
theorem wQ {τ:List Nat}{k k2:Nat}(h:τ[k]? =some k2) (l:List Tr) (p o n:Nat):renL τ ((l.map AV.t).set p (.sl k o n))=some ((l.map AV.t).set p (.sl k2 o n)):=by
 induction l generalizing p with
 | nil=>simp[renL]
 | cons x l ih=>
  cases p with
  | zero=>simp[renL,gO,h,Ju]
  | succ p=>simp[renL,gO,ih p]
theorem Yy:∀xs:List Bool,gQ ((bT xs).map AV.t)=true
 | []=>rfl
 | x::xs=>by
  have ih:=Yy xs
  unfold bT at ih⊢
  simp only[List.map_cons,gQ,Bool.and_eq_true]
  exact⟨rfl,ih⟩
theorem Mx:∀xs:List Bool,fE ((bT xs).map AV.t)=true
 | []=>rfl
 | x::xs=>by
  have ih:=Mx xs
  unfold bT at ih⊢
  simp only[List.map_cons,fE,Bool.and_eq_true]
  exact⟨rfl,ih⟩
theorem QS {l:List Fr4}{j:Nat}(h:j<l.length):l.take (j+1)=l.take j++[cZ l j]:=by
 rw[List.take_add_one,dC h]
 simp[cZ,h]
theorem QT {l:List Yr}{j:Nat}(h:j<l.length):l.take (j+1)=l.take j++[aK l j]:=by rw[List.take_add_one,cY h];rfl
theorem EQ (xs:List Fr4) (x:Fr4):(xs.flatMap (Fr4.tr false)).map AV.t++(x.tr false).map .t=((xs++[x]).flatMap (Fr4.tr false)).map .t:=by simp[List.flatMap_append]
theorem ER (xs:List Yr) (x:Yr):(xs.flatMap eG).map AV.t++(eG x).map .t=((xs++[x]).flatMap eG).map .t:=by simp[List.flatMap_append]
end
end Go.Proofs.YtbbabfkgdnkehaaGreat
namespace Go.Proofs.YtbbabfkgdnkehaaGreat
open Go Go.RowKit Go.ChangeShapes
def Reads (P:Program) (t:TypeId) (z:Nat) (T:List Tr→Prop):Prop:=
 P.cellsOf t=z∧∀(H:Type) (enc:TypeId×Value→H) (w:World) (fuel:Nat) (cs:List Value) (x:DataW H×List MemPlace),DataW.trod enc P w 0 (fun _=>true) true fuel t cs=some x→∃l,T l∧l.length=z∧FRL w (Iq w) l cs
theorem Sa {W:World}{N:Nat→Prop}:∀{l l':List Tr}{us us':List Value},FRL W N l us→FRL W N l' us'→FRL W N (l++l') (us++us')
 | [],l',us,us',h,h'=>by simp only[FRL]at h;subst h;exact h'
 | x::l,l',u::us,us',h,h'=>by simp only[FRL,List.cons_append]at*;exact⟨h.1,Sa h.2 h'⟩
 | _::_,_,[],_,h,_=>by simp only[FRL]at h
theorem Sb {W:World}{N:Nat→Prop}:∀{l:List Tr}{us:List Value}{j:Nat}{x:Tr},FRL W N l us→l[j]? =some x→∃u,us[j]? =some u∧FR W N x u
 | [],_,_,_,_,h=>by simp at h
 | y::l,u::us,0,x,h,e=>by
  simp only[FRL]at h
  simp at e
  subst e
  exact⟨u,rfl,h.1⟩
 | y::l,u::us,j+1,x,h,e=>by
  simp only[FRL]at h
  exact Sb (j:=j) h.2 (by simpa using e)
 | _::_,[],_,_,h,_=>by simp only[FRL]at h
section
variable {P:Program}{t e:TypeId}{k:IntKind}{z:Nat}{T T':List Tr→Prop}
theorem Reads.mono (h:Reads P t z T) (hi:∀l,T l→T' l):Reads P t z T':=⟨h.1,fun H enc w fuel cs x hx=>let ⟨l,a,b⟩:=h.2 H enc w fuel cs x hx;⟨l,hi l a,b⟩⟩
theorem Sc (ht:P.underlying t=some .bool) (hz:P.cellsOf t=1):Reads P t 1 (fun l=>∃b,l=[.v (.bool b)]):=⟨hz,fun H enc w fuel cs x hx=>by
 obtain⟨b,rfl,_⟩:=DataW.trod_bool ht hx
 exact⟨_,⟨b,rfl⟩,rfl,by simp[FRL,FR]⟩⟩
theorem Yz (ht:P.underlying t=some (.int k)) (hz:P.cellsOf t=1):Reads P t 1 (fun l=>∃n,l=[.v (.int k n)]∧k.min≤n∧n≤k.max):=⟨hz,fun H enc w fuel cs x hx=>by
 obtain⟨n,rfl,_,h⟩:=DataW.trod_int ht hx
 simp only[Lit.wf,Bool.and_eq_true,decide_eq_true_eq]at h
 exact⟨_,⟨n,rfl,h⟩,rfl,by simp[FRL,FR]⟩⟩
inductive Flds (P:Program):Nat→List Field→Nat→(List Tr→Prop)→Prop
 | nil {o:Nat}:Flds P o [] 0 (· =[])
 | cons {o z z':Nat}{f:Field}{fs:List Field}{T T':List Tr→Prop}(ho:f.offset=o) (h:Reads P f.type z T) (h':Flds P (o+z) fs z' T'):Flds P o (f::fs) (z+z') (fun l=>∃a b,l=a++b∧T a∧T' b)
theorem Flds.read {H:Type}{enc:TypeId×Value→H}{w:World}{n o:Nat}{fs:List Field}(h:Flds P o fs z T):∀{cs:List Value},o+z≤cs.length→(∀f∈fs,∃x,DataW.trod enc P w 0 (fun _=>true) true n f.type ((cs.drop f.offset).take (P.cellsOf f.type))=some x)→∃l,T l∧l.length=z∧FRL w (Iq w) l ((cs.drop o).take z):=by
 induction h with
 | nil=>exact fun _ _=>⟨[],rfl,rfl,by simp[FRL]⟩
 | @cons o z z' f fs T T' ho hr _ ih=>
  intro cs hl hf
  obtain⟨b,h1,h2,h3⟩:=ih (cs:=cs) (by omega) fun f hm=>hf f (List.mem_cons_of_mem _ hm)
  obtain⟨x,hx⟩:=hf f List.mem_cons_self
  obtain⟨a,g1,g2,g3⟩:=hr.2 H enc w n _ x hx
  rw[ho,hr.1]at g3
  refine⟨a++b,⟨a,b,rfl,g1,h1⟩,by simp[g2,h2],?_⟩
  rw[List.take_add,List.drop_drop]
  exact Sa g3 h3
theorem yX {fs:List Field}{z':Nat}(ht:P.underlying t=some (.struct fs.toArray)) (hz:P.cellsOf t=z) (h:Flds P 0 fs z' T) (e:z'=z:=by rfl):Reads P t z T:=⟨hz,fun H enc w fuel cs x hx=>by
 subst e
 obtain⟨xs,n,_,rfl,hl,hlen,hf⟩:=DataW.trod_struct ht hx
 rw[hz]at hl
 obtain⟨l,h1,h2,h3⟩:=h.read (H:=H) (enc:=enc) (w:=w) (n:=n) (cs:=cs) (by omega) fun f hm=>by
  obtain⟨i,hi⟩:=List.mem_iff_getElem?.1 hm
  have h1:=hf i f (by simpa using hi)
  have h2:i<xs.length:=by
   have:=(List.getElem?_eq_some_iff.1 hi).1
   simp at hlen
   omega
  rw[dC h2]at h1
  exact⟨_,h1⟩
 refine⟨l,h1,h2,?_⟩
 rw[List.drop_zero,fF (by omega)]at h3
 exact h3⟩
theorem wR (ht:P.underlying t=some (.slice e)) (hz:P.cellsOf t=1) (hz0:0<z) (h:Reads P e z T):Reads P t 1 (fun l=>∃rows:List (List Tr),(∀r∈rows,T r∧r.length=z)∧l=[.s false e z rows.length rows.flatten]):=⟨hz,fun H enc w fuel cs x hx=>by
 have hlen:∀(rows:List (List Tr)),(∀r∈rows,T r∧r.length=z)→rows.flatten.length=rows.length*z:=by
  intro rows
  induction rows with
  | nil=>intro _;simp
  | cons r rows ih=>
   intro hr
   rw[List.flatten_cons,cO,(hr r List.mem_cons_self).2,ih fun r hm=>hr r (List.mem_cons_of_mem _ hm),List.length_cons,Nat.succ_mul,Nat.add_comm]
 rcases Deep.open_slice ht hx with⟨rfl,_⟩ | ⟨a,len,cap,m,n,D,Pl,rfl,_,hl,hm,hmm,_,hel⟩
 ·refine⟨_,⟨[],fun _ h=>(by cases h),rfl⟩,rfl,?_⟩
  simp only[FRL,FR,and_true]
  exact⟨none,0,rfl,bC _,by omega,by simp,.inl rfl⟩
 have hmc:m=cap:=by simpa using hmm
 rw[h.1]at hel
 have hex:∀i:Nat,∃l:List Tr,i<len→T l∧l.length=z∧∀j y,l[j]? =some y→∃u,w.cell? ((a.add (i*z)).add j)=some u∧FR w (Iq w) y u:=fun i=>by
  by_cases hi:i<len
  ·obtain⟨cs',h1,h2⟩:=hel i (by omega)
   obtain⟨l,g1,g2,g3⟩:=h.2 H enc w n cs' _ h2
   obtain⟨_,h3,h4⟩:=World.cells?_some h1
   refine⟨l,fun _=>⟨g1,g2,fun j y hj=>?_⟩⟩
   obtain⟨u,hu,hy⟩:=Sb g3 hj
   have hjl:=(List.getElem?_eq_some_iff.1 hj).1
   exact⟨u,by rw[h4 j (by omega),hu],hy⟩
  exact⟨[],fun h=>absurd h hi⟩
 have hF:=fun i=>Classical.choose_spec (hex i)
 have hrow:∀r∈(List.range len).map (fun i=>Classical.choose (hex i)),T r∧r.length=z:=fun r hr=>by
  obtain⟨i,hi,rfl⟩:=List.mem_map.1 hr
  have:=hF i (List.mem_range.1 hi)
  exact⟨this.1,this.2.1⟩
 refine⟨_,⟨_,hrow,rfl⟩,rfl,?_⟩
 have h5:=hlen _ hrow
 simp only[FRL,and_true,FR]
 refine⟨some a,cap,by simp,by simpa using hl,by unfold maxLen at hm;omega,h5,?_⟩
 rcases Nat.eq_zero_or_pos len with h0 | h0
 ·exact .inl (by simp[h0])
 refine .inr ⟨a,rfl,?_,vB fun j y hj=>?_⟩
 ·obtain⟨_,g2,g3⟩:=hF 0 h0
  obtain⟨u,hu,_⟩:=g3 0 _ (dC (by omega))
  have:=World.block_lt_of_cell? w ((a.add (0*z)).add 0) hu
  rwa[kC,kC]at this
 have hjl:=(List.getElem?_eq_some_iff.1 hj).1
 rw[h5,dF,List.length_range]at hjl
 have hi:j/z<len:=Nat.div_lt_of_lt_mul (by rw[Nat.mul_comm];exact hjl)
 obtain⟨_,g2,g3⟩:=hF (j/z) hi
 have hz1:=Nat.mod_lt j hz0
 have hget:∀(rows:List (List Tr)),(∀r∈rows,T r∧r.length=z)→∀(i o:Nat) (r:List Tr),rows[i]? =some r→o<z→rows.flatten[i*z+o]? =r[o]? :=by
  intro rows
  induction rows with
  | nil=>intro _ i o r h;simp at h
  | cons r rows ih=>
   intro hr i o r' hi ho
   have hrl:=(hr r List.mem_cons_self).2
   cases i with
   | zero=>
    simp at hi
    subst hi
    rw[Nat.zero_mul,Nat.zero_add,List.flatten_cons,List.getElem?_append_left (by omega)]
   | succ i=>
    rw[List.flatten_cons,List.getElem?_append_right (by rw[Nat.succ_mul];omega),hrl,show(i+1)*z+o-z=i*z+o by rw[Nat.succ_mul];omega]
    exact ih (fun r hm=>hr r (List.mem_cons_of_mem _ hm)) i o r' (by simpa using hi) ho
 have hd:=Nat.div_add_mod j z
 rw[Nat.mul_comm]at hd
 rw[←hd,hget _ hrow (j/z) (j%z) (Classical.choose (hex (j/z))) (by simp[hi]) hz1]at hj
 obtain⟨u,hu,hy⟩:=g3 _ _ hj
 refine⟨u,?_,hy⟩
 rw[Nat.zero_add]
 have e2:(a.add (j/z*z)).add (j%z)=a.add j:=by rw[zP,hd]
 rwa[e2]at hu⟩
theorem vC {α:Type}(f:α→List Tr) (Q:α→Prop):∀{rows:List (List Tr)},(∀r∈rows,∃a,Q a∧r=f a)→∃xs:List α,(∀a∈xs,Q a)∧rows.flatten=xs.flatMap f∧rows.length=xs.length
 | [],_=>⟨[],fun _ h=>(by cases h),rfl,rfl⟩
 | r::rows,h=>by
  obtain⟨a,h1,rfl⟩:=h r List.mem_cons_self
  obtain⟨xs,h2,h3,h4⟩:=vC f Q fun r hm=>h r (List.mem_cons_of_mem _ hm)
  exact⟨a::xs,fun b hb=>(List.mem_cons.1 hb).elim (fun e=>e▸h1) (h2 b),by simp[h3],by simp[h4]⟩
theorem ES (ht:P.underlying t=some (.slice e)) (he:P.underlying e=some (.int .u32)) (hz:P.cellsOf t=1) (hze:P.cellsOf e=1) (hn:e=113):Reads P t 1 (fun l=>∃xs:List Nat,Lim 4294967296 xs∧l=[sU false xs]):=
 (wR ht hz (by omega) (Yz he hze)).mono fun l ⟨rows,h1,h2⟩=>by
  obtain⟨xs,h3,h4,h5⟩:=vC (fun n:Nat=>[Tr.v (.int .u32 (n:Int))]) (fun n=>n<4294967296) (rows:=rows) fun r hr=>by
   obtain⟨⟨n,rfl,h1,h2⟩,_⟩:=h1 r hr
   have e1:IntKind.u32.min=0:=rfl
   have e2:IntKind.u32.max=4294967295:=rfl
   rw[e1]at h1
   rw[e2]at h2
   exact⟨n.toNat,by omega,by rw[Int.toNat_of_nonneg h1]⟩
  refine⟨xs,h3,?_⟩
  rw[h2,h4,h5,sU,hn]
  have:∀xs:List Nat,xs.flatMap (fun n:Nat=>[Tr.v (.int .u32 (n:Int))])=aI xs:=by
   intro xs
   induction xs with
   | nil=>rfl
   | cons n xs ih=>rw[List.flatMap_cons,ih];rfl
  rw[this]
theorem LS (hb:Reads P t z (fun l=>∃a b,l=a++b∧(∃s,a=[.v (.bool s)])∧∃b' c',b=b'++c'∧(∃xs:List Nat,Lim 4294967296 xs∧b'=[sU false xs])∧c'=[])):Reads P t z (fun l=>∃(s:Bool) (xs:List Nat),Lim 4294967296 xs∧l=[.v (.bool s),sU false xs]):=
 hb.mono fun l ⟨a,b,h1,⟨s,h2⟩,b',c',h3,⟨xs,h4,h5⟩,h6⟩=>⟨s,xs,h4,by rw[h1,h2,h3,h5,h6];rfl⟩
end
def LimF (a:Fr4):Prop:=Lim 4294967296 a.x∧Lim 4294967296 a.y
theorem LimF.ok {a:Fr4}(h:LimF a) (h2:a.x.length≤6∧a.y.length≤6):a.ok:=⟨h.1,h.2,by omega,by omega⟩
end Go.Proofs.YtbbabfkgdnkehaaGreat
namespace Go.Proofs.YtbbabfkgdnkehaaGreat
open Go Go.ChangeShapes Go.WideShapes Go.ChangeAt Go.RowKit
theorem QU:Tryz.prog.cellsOf 46=2:=by kernel_rfl
theorem Sd:Tryz.prog.cellsOf 4=1:=by kernel_rfl
theorem QV:Tryz.prog.cellsOf 113=1:=by kernel_rfl
theorem ET:Tryz.prog.cellsOf 44=1:=by kernel_rfl
theorem Za:Reads Tryz.prog 46 2 (fun l=>∃a:Zi,Lim 4294967296 a.x∧l=ztr false a):=by
 have h1:=Sc Tryz.underlying4 Sd
 have h2:=ES Tryz.underlying44 Tryz.underlying113 ET QV rfl
 have h3:=yX Tryz.underlying46 QU (.cons rfl h1 (.cons rfl h2 .nil))
 exact(LS h3).mono fun l ⟨s,xs,h4,h5⟩=>⟨⟨s,xs⟩,h4,h5⟩
theorem My {W:World}{y:Tr}{u:Value}(hu:u.cells.toList=[u]) (h:FRL W (Iq W) [y] u.cells.toList):bZ W (Iq W) [] (.one (.t y)) u:=by
 rw[hu]at h
 simp only[FRL,and_true]at h
 simpa only[bZ,AR]using h
theorem QW:Tryz.prog.cellsOf 48=4:=by kernel_rfl
theorem LT:Tryz.prog.cellsOf 60=1:=by kernel_rfl
theorem Zb:Reads Tryz.prog 48 4 (fun l=>∃a:Fr4,LimF a∧l=a.tr false):=
 (yX Tryz.underlying48 QW (.cons rfl Za (.cons rfl Za .nil))).mono fun l ⟨a,b,h1,⟨z,h2,h3⟩,b',c',h4,⟨y,h5,h6⟩,h7⟩=>⟨⟨z.s,z.x,y.s,y.x⟩,⟨h2,h5⟩,by rw[h1,h3,h4,h6,h7];rfl⟩
theorem LU:Reads Tryz.prog 60 1 (fun l=>∃xs:List Fr4,(∀x∈xs,LimF x)∧l=[sQ false xs]):=by
 have h:=wR Tryz.underlying60 LT (by omega) Zb
 refine⟨h.1,fun H enc w fuel cs x hx=>?_⟩
 obtain⟨l,⟨rows,h1,rfl⟩,h3,h4⟩:=h.2 H enc w fuel cs x hx
 obtain⟨xs,e1,e2,e3⟩:=vC (Fr4.tr false) (fun a:Fr4=>LimF a) (rows:=rows) fun r hr=>(h1 r hr).1
 refine⟨_,⟨xs,e1,rfl⟩,rfl,?_⟩
 rw[e2,e3]at h4
 cases cs with
 | nil=>simp only[FRL]at h4
 | cons v cs=>
  simp only[sQ,FRL,FR]at h4⊢
  exact h4
theorem LV:Tryz.prog.cellsOf 3=1:=by kernel_rfl
theorem Se:Reads Tryz.prog 3 1 (fun l=>∃n:Int,(-9223372036854775808≤n∧n≤9223372036854775807)∧l=[.v (.int .i64 n)]):=
 (Yz Tryz.underlying3 LV).mono fun l ⟨n,h1,h2,h3⟩=>⟨n,⟨h2,h3⟩,h1⟩
theorem LW (xs:List Bool):xs.flatMap (fun b:Bool=>[Tr.v (.bool b)])=bT xs:=by
 unfold bT
 induction xs with
 | nil=>rfl
 | cons b xs ih=>rw[List.flatMap_cons,ih];rfl
theorem Zc:Tryz.prog.cellsOf 65=1:=by kernel_rfl
theorem EU:Tryz.prog.cellsOf 67=6:=by kernel_rfl
theorem Zd:Tryz.prog.cellsOf 22=1:=by kernel_rfl
theorem Ze:Reads Tryz.prog 65 1 (fun l=>∃xs:List Bool,True∧l=[gU xs]):=
 (wR Tryz.underlying65 Zc (by omega) (Sc Tryz.underlying4 Sd)).mono fun l ⟨rows,h1,h2⟩=>by
  obtain⟨xs,h3,h4,h5⟩:=vC (fun b:Bool=>[.v (.bool b)]) (fun _=>True) (rows:=rows) fun r hr=>(h1 r hr).1.imp fun b hb=>⟨trivial,hb⟩
  refine⟨xs,trivial,?_⟩
  rw[h2,h4,h5,LW]
  rfl
def sC (y:Yr):Prop:=(∀a∈y.b,LimF a)∧LimF y.l
theorem EV:Reads Tryz.prog 67 6 (fun l=>∃y:Yr,sC y∧l=eG y):=
 (yX Tryz.underlying67 EU (.cons rfl Ze (.cons rfl LU (.cons rfl Zb .nil)))).mono
  fun l ⟨a1,b1,e1,⟨m,_,r1⟩,a2,b2,e2,⟨b,q2,r2⟩,a3,b3,e3,⟨c,q3,r3⟩,e4⟩=>⟨⟨m,b,c⟩,⟨q2,q3⟩,by rw[e1,r1,e2,r2,e3,r3,e4];rfl⟩
theorem Zf:Reads Tryz.prog 22 1 (fun l=>∃xs:List Yr,(∀x∈xs,sC x)∧l=[kY xs]):=
 (wR Tryz.underlying22 Zd (by omega) EV).mono fun l ⟨rows,h1,h2⟩=>by
  obtain⟨xs,h3,h4,h5⟩:=vC eG sC (rows:=rows) fun r hr=>(h1 r hr).1
  exact⟨xs,h3,by rw[h2,h4,h5];rfl⟩
end Go.Proofs.YtbbabfkgdnkehaaGreat
