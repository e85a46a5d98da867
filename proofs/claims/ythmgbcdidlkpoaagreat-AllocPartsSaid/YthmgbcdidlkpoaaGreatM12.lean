/- Part 12 of a proof: R2 to Rib6. -/
import Derived.Test.YthmgbcdidlkpoaaGreatM11
import Derived.Test.YthmgbcdidlkpoaaGreatM10
import Derived.Test.YthmgbcdidlkpoaaGreatM6
import Derived.Test.YthmgbcdidlkpoaaGreatM5
import Derived.Test.YthmgbcdidlkpoaaGreatM9
import Derived.WalkKit
import Derived.ProofKit
import Derived.OpenShut
import Derived.ChangeOld
import Derived.Below
import Derived.Carry
import Derived.Test.YthmgbcdidlkpoaaGreatM7
set_option maxRecDepth 100000
set_option linter.unusedVariables false
set_option linter.unusedSimpArgs false
namespace Go.Proofs.YthmgbcdidlkpoaaGreat
open Go Go.RowKit
theorem Qf {a:Zi}{k b:Int}{xs:List Fr4}(ha:Zn a k) (hk:iV 6 k) (hx:∀x∈xs,x.ok) (hz:∀x∈xs,Sz 7 x.q) (hl:xs.length≤12):aD false Tryz.prog 12 [] [gF a,.one (tv (.int .i64 b)),.one (.t (sQ false xs))] (aM (.tup [.one (.t (.s false 50 4 (bU (k:Rat) b (xs.map Fr4.q)).length ((bU (k:Rat) b (xs.map Fr4.q)).flatMap cA))),.one (tv (.int .i64 (lF b xs.length)))])):=by
 refine bL Tryz.func12 rfl Tryz.ntmps12 rfl aA rfl fun N9 w9 c0 h0=>?_
 have hwl:(xs.map Fr4.q).length=xs.length:=by simp
 have habl:((xs.map Fr4.q).map aX).length=xs.length:=by simp
 have hzab:∀q∈((xs.map Fr4.q).map aX),Sz 7 q:=fun q hq=>by
  rw[zP]at hq;obtain⟨x,hx9,rfl⟩:=List.mem_map.1 hq
  exact zQ (hz x hx9) (by omega)
 have hTz:Sz 7 (k:Rat):=zR (Nat.le_trans hk (by omega)) (by omega)
 have hgz9:∀i,Sz 98 (aC (((xs.map Fr4.q).map aX).take (i))):=fun i=>(oU fun q hq=>hzab q (List.mem_of_mem_take hq)).mono (by rw[List.length_take,habl];omega)
 have h00:((0:Int):Rat)=(aC (((xs.map Fr4.q).map aX).take (0))):=by simp[aC]
 refine sq ?_;refine rl ?_;refine bx 0 ?_;refine o1 ?_;refine o1 ?_;refine nl ?_;refine sq ?_;refine sq ?_;refine rl ?_;(iterate 3 refine o1 ?_)
 refine WL.split (t:=16) rfl (fun h1=>?_) (fun h1=>?_)
 ·(iterate 4 refine dU ?_);refine o1 ?_;refine nl ?_;refine lT rfl ?_;refine sq ?_;refine rl ?_;refine o1 ?_;refine o1 ?_;refine nl ?_;refine rt ?_
  have hb9:b<0∨(xs.length:Int)≤b:=by omega
  exact en (.inl rfl) rfl (hG (.cons (.one .nilf) (.cons (bZ _) .nil))) (by decide) (fun h=>by cases h) (by rw[nK (by rw[hwl];exact hb9),uV hb9];rfl)
 (iterate 5 refine o1 ?_);refine nl ?_;refine bN rfl (fun h2=>?_) (fun h2=>?_)
 ·refine sq ?_;refine rl ?_;refine o1 ?_;refine o1 ?_;refine nl ?_;refine rt ?_;have hb9:b<0∨(xs.length:Int)≤b:=by omega
  exact en (.inl rfl) rfl (hG (.cons (.one .nilf) (.cons (bZ _) .nil))) (by decide) (fun h=>by cases h) (by rw[nK (by rw[hwl];exact hb9),uV hb9];rfl)
 refine sk ?_;refine sq ?_;obtain⟨m,hm⟩:∃m:Nat,b=(m:Int):=⟨b.toNat,by omega⟩
 subst hm;have hmn:m<xs.length:=by omega
 refine rl ?_;refine ld ?_;refine ca (Fb ha) EX ⟨aB rfl,rfl⟩ (qF (.of (k:Rat))) ?_;refine al 1 ?_;refine st ?_;refine nl ?_;refine sq ?_;refine rl ?_
 refine ca (Et (n:=0) (by omega) (by omega)) EZ ⟨a1 rfl,rfl⟩ (qF (.of ((0:Int):Rat))) ?_
 refine al 2 ?_;refine st ?_;refine nl ?_;refine sq ?_;refine sq ?_;refine rl ?_;refine o1 ?_;refine nl ?_;refine bl ?_
 refine lp (γ:=Nat) (fun s=>cG [(1,.one (tv (.int .i64 ((m:Nat):Int)))),(2,.one (.t (sQ false xs))),(8,.one (.pt 0 0)),(9,.one (.pt 1 0)),(10,.one (tv (.int .i64 ((s:Nat):Int))))]) (fun s=>[(⟨50,0,((Fr4.of (k:Rat)).tr false).map .t⟩:Ob),⟨50,0,((Fr4.of (aC (((xs.map Fr4.q).map aX).take (s)))).tr false).map .t⟩].map some) (fun s=>s≤xs.length) (fun s=>xs.length-s) 0 (Nat.zero_le _) (aH h0 [1,2] _ _ (by decide) ⟨rfl,rfl,rfl,rfl,rfl,trivial⟩ ⟨oe rfl rfl,bI (congrArg (fun q=>some (⟨50,0,((Fr4.of q).tr false).map .t⟩:Ob)) h00),rfl⟩) ?_
 rintro i9 hi9;have hgz:=hgz9 i9
 refine sq ?_;refine sq ?_;refine rl ?_;(iterate 4 refine o1 ?_);refine nl ?_;refine bN rfl (fun h3=>?_) (fun h3=>?_)
 ·refine sk ?_;refine sq ?_;refine bl ?_;refine sq ?_;refine rl ?_;(iterate 3 refine o1 ?_);refine fQ ((aS xs (i9)).tr false) (eO xs (k:=i9) (by omega)) ?_
  refine ca (iR ⟨hx _ (bJ (by omega)),rfl⟩) pL ⟨aB rfl,rfl⟩ (.one (tv (.int .i64 (aS xs (i9)).q.num.sign))) ?_
  refine o1 ?_;refine nl ?_;refine bN rfl (fun h4=>?_) (fun h4=>?_)
  ·refine rd [0,1] (fun i=>[6].contains i) mixed ?_
   refine aV 0 ?_;refine dv 1 ?_;refine dv 2 ?_;refine dv 3 ?_;refine fR 4 ((aS xs (i9)).tr false) (eO xs (k:=i9) (by omega)) ?_
   refine aI 5 rfl (Ey (Qn.of (p:=(aC (((xs.map Fr4.q).map aX).take (i9)))) (hgz.mono (M:=17179869184) (by omega))) ⟨hx _ (bJ (by omega)),rfl⟩ (hgz.mono (M:=17179869184) (by omega)) ((hz _ (bJ (by omega))).mono (M:=17179869184) (by omega))) Uj ⟨aB rfl,aB rfl,rfl⟩ (qF (.of ((aC (((xs.map Fr4.q).map aX).take (i9)))+(aS xs (i9)).q))) ?_
   refine dst 6 ?_;refine aO ?_;refine rl ?_;refine o1 ?_;refine o1 ?_;refine WL.cast (t:=30) (u':=.int .i64 ((i9+1:Nat):Int)) rfl (aK (by omega)) ?_
   refine o1 ?_;refine nl ?_;have hp9:0<(aS xs (i9)).q:=gC.1 (Int.sign_pos_iff.1 h4)
   have hst:(aC (((xs.map Fr4.q).map aX).take (i9)))+(aS xs (i9)).q=(aC (((xs.map Fr4.q).map aX).take (i9+1))):=by rw[Fd (by omega),dK (f:=Fr4.q) (by omega),Fe (by grind)]
   exact⟨i9+1,by omega,by omega,aH h0 [0,1] _ _ (by decide) ⟨rfl,rfl,rfl,rfl,rfl,trivial⟩ ⟨oe rfl rfl,bI (congrArg (fun q=>some (⟨50,0,((Fr4.of q).tr false).map .t⟩:Ob)) hst),rfl⟩⟩
  refine sk ?_;refine rl ?_;refine o1 ?_;refine o1 ?_;refine WL.cast (t:=30) (u':=.int .i64 ((i9+1:Nat):Int)) rfl (aK (by omega)) ?_
  refine o1 ?_;refine nl ?_;have hp9:¬0<(aS xs (i9)).q:=fun hq9=>h4 (Int.sign_pos_iff.2 (gC.2 hq9))
  have hst:(aC (((xs.map Fr4.q).map aX).take (i9)))=(aC (((xs.map Fr4.q).map aX).take (i9+1))):=by rw[Fd (by omega),dK (f:=Fr4.q) (by omega),AN hp9];exact(Rat.add_zero _).symm
  exact⟨i9+1,by omega,by omega,aH h0 [0,1] _ _ (by decide) ⟨rfl,rfl,rfl,rfl,rfl,trivial⟩ ⟨oe rfl rfl,bI (congrArg (fun q=>some (⟨50,0,((Fr4.of q).tr false).map .t⟩:Ob)) hst),rfl⟩⟩
 refine ex ?_;refine sq ?_;have hgs:Sz 98 (aC (((xs.map Fr4.q).map aX).take (i9))):=hgz9 i9
 have hsm:(aC (((xs.map Fr4.q).map aX).take (i9)))=(aC ((xs.map Fr4.q).map aX)):=by rw[List.take_of_length_le (by rw[habl];omega)]
 refine rl ?_;refine o1 ?_;refine nl ?_;refine sq ?_;refine sq ?_;refine rl ?_;refine o1 ?_;refine nl ?_;refine bl ?_
 have hexl:(bU (k:Rat) (m:Int) (xs.map Fr4.q)).length=xs.length:=by rw[Ul (by rw[hwl];exact hmn),hwl]
 refine lp (γ:=Nat) (fun s=>cG [(1,.one (tv (.int .i64 ((m:Nat):Int)))),(2,.one (.t (sQ false xs))),(8,.one (.pt 0 0)),(9,.one (.pt 1 0)),(11,.one (.sl 2 0 (s))),(12,.one (tv (.int .i64 ((s:Nat):Int))))]) (fun s=>[(⟨50,0,((Fr4.of (k:Rat)).tr false).map .t⟩:Ob),⟨50,0,((Fr4.of (aC (((xs.map Fr4.q).map aX).take (i9)))).tr false).map .t⟩,⟨50,4,(((bU (k:Rat) (m:Int) (xs.map Fr4.q)).take s).flatMap cA).map .t⟩].map some) (fun s=>s≤xs.length) (fun s=>xs.length-s) 0 (Nat.zero_le _) ((nr (i:=11) 2 50 4 rfl rfl rfl rfl).trans (aH h0 [0,1,2] _ _ (by decide) ⟨rfl,rfl,rfl,rfl,rfl,rfl,trivial⟩ ⟨oe rfl rfl,oe rfl rfl,bI rfl,rfl⟩)) ?_
 rintro j9 hj9;refine sq ?_;refine sq ?_;refine rl ?_;(iterate 4 refine o1 ?_);refine nl ?_;refine bN rfl (fun h5=>?_) (fun h5=>?_)
 ·refine sk ?_;refine sq ?_;refine bl ?_;refine sq ?_;refine rl ?_;refine ca (Et (n:=0) (by omega) (by omega)) EZ ⟨a1 rfl,rfl⟩ (qF (.of ((0:Int):Rat))) ?_
  refine al 3 ?_;refine st ?_;refine nl ?_;refine sq ?_;refine sq ?_;refine rl ?_;refine ld ?_
  refine ca (iR (Qn.of (p:=(aC (((xs.map Fr4.q).map aX).take (i9)))) hgs)) pL ⟨aB rfl,rfl⟩ (.one (tv (.int .i64 (aC (((xs.map Fr4.q).map aX).take (i9))).num.sign))) ?_
  refine o1 ?_;refine o1 ?_;refine WL.split (t:=53) rfl (fun h6=>?_) (fun h6=>?_)
  ·(iterate 4 refine o1 ?_);refine nl ?_;refine bN rfl (fun h7=>?_) (fun h7=>?_)
   ·refine rl ?_;refine ld ?_;refine st ?_;refine nl ?_;refine sq ?_;refine sq ?_;refine rl ?_;(iterate 3 refine o1 ?_)
    refine fQ ((aS xs (j9)).tr false) (eO xs (k:=j9) (by omega)) ?_
    refine ca (iR ⟨hx _ (bJ (by omega)),rfl⟩) pL ⟨aB rfl,rfl⟩ (.one (tv (.int .i64 (aS xs (j9)).q.num.sign))) ?_
    refine o1 ?_;refine nl ?_;refine bN rfl (fun h8=>?_) (fun h8=>?_)
    ·refine rd [0,1] (fun i=>[].contains i) mixed ?_
     refine aV 0 ?_;refine dv 1 ?_;refine dv 2 ?_;refine dv 3 ?_;refine fR 4 ((aS xs (j9)).tr false) (eO xs (k:=j9) (by omega)) ?_
     refine aV 6 ?_
     refine aI 5 rfl (Ez (Qn.of (p:=(k:Rat)) hTz) ⟨hx _ (bJ (by omega)),rfl⟩ (hTz.mono (M:=17179869184) (by omega)) ((hz _ (bJ (by omega))).mono (M:=17179869184) (by omega))) Um ⟨aB rfl,aB rfl,rfl⟩ (qF (.of ((k:Rat)*(aS xs (j9)).q))) ?_
     refine aI 7 rfl (Mx (Qn.of (p:=((k:Rat)*(aS xs (j9)).q)) (mR hTz (hz _ (bJ (by omega))))) (Qn.of (p:=(aC (((xs.map Fr4.q).map aX).take (i9)))) hgs) ((mR hTz (hz _ (bJ (by omega)))).mono (M:=17179869184) (by omega)) (hgs.mono (M:=17179869184) (by omega))) Un ⟨aB rfl,aB rfl,rfl⟩ (.tup [qF (.of (((k:Rat)*(aS xs (j9)).q)/(aC (((xs.map Fr4.q).map aX).take (i9))))),.one (tv (.int .i64 (if(aC (((xs.map Fr4.q).map aX).take (i9)))=0 then 20 else 0)))]) ?_
     refine df 8 ?_;refine df 9 ?_;refine df 10 ?_;refine aR 11 (by kernel_rfl) rfl rfl aA rfl rfl rfl rfl ⟨rfl,rfl,trivial⟩ ?_
     refine aO ?_;refine rl ?_;refine o1 ?_;refine ld ?_;refine bs 4 ?_
     refine dV (j:=5) aA rfl rfl rfl rfl (.sl rfl (by rw[List.length_map,bO cN,List.length_take,hexl,Nat.min_eq_left (by omega)])) (.sl rfl rfl rfl) rfl rfl rfl (by omega) (by omega) ?_
     refine o1 ?_;refine nl ?_;refine rl ?_;refine o1 ?_;refine o1 ?_;refine WL.cast (t:=48) (u':=.int .i64 ((j9+1:Nat):Int)) rfl (aK (by omega)) ?_
     refine o1 ?_;refine nl ?_;have hp9:0<aP (xs.map Fr4.q) j9:=by rw[dK (f:=Fr4.q) (by omega)];exact gC.1 (Int.sign_pos_iff.1 h8)
     have hS9:(aC ((xs.map Fr4.q).map aX))=0:=by rw[←hsm];exact Rat.num_eq_zero.1 (Int.sign_eq_zero_iff_zero.1 h6)
     have hv9:((k:Rat)*(aS xs (j9)).q/(aC (((xs.map Fr4.q).map aX).take (i9))))=aP (bU (k:Rat) (m:Int) (xs.map Fr4.q)) j9:=by rw[qL (by rw[hwl];exact hmn) (by rw[hwl];omega)];rw[if_pos hp9,←dK (f:=Fr4.q) (by omega),hsm]
     have hst:(((bU (k:Rat) (m:Int) (xs.map Fr4.q)).take j9).flatMap cA).map AV.t++(cA ((k:Rat)*(aS xs (j9)).q/(aC (((xs.map Fr4.q).map aX).take (i9))))).map .t=(((bU (k:Rat) (m:Int) (xs.map Fr4.q)).take (j9+1)).flatMap cA).map .t:=by rw[eV,eU (by rw[hexl];omega),←hv9]
     exact⟨j9+1,by omega,by omega,aH h0 [0,1,5] _ _ (by decide) ⟨rfl,rfl,rfl,rfl,rfl,rfl,trivial⟩ ⟨oe rfl rfl,oe rfl rfl,bI (congrArg (fun l=>some (⟨50,4,l⟩:Ob)) hst),rfl⟩⟩
    refine sk ?_;refine rl ?_;refine o1 ?_;refine ld ?_;refine bs 4 ?_
    refine dV (j:=5) aA rfl rfl rfl rfl (.sl rfl (by rw[List.length_map,bO cN,List.length_take,hexl,Nat.min_eq_left (by omega)])) (.sl rfl rfl rfl) rfl rfl rfl (by omega) (by omega) ?_
    refine o1 ?_;refine nl ?_;refine rl ?_;refine o1 ?_;refine o1 ?_;refine WL.cast (t:=48) (u':=.int .i64 ((j9+1:Nat):Int)) rfl (aK (by omega)) ?_
    refine o1 ?_;refine nl ?_;have hp9:¬0<aP (xs.map Fr4.q) j9:=by rw[dK (f:=Fr4.q) (by omega)];exact fun hq9=>h8 (Int.sign_pos_iff.2 (gC.2 hq9))
    have hS9:(aC ((xs.map Fr4.q).map aX))=0:=by rw[←hsm];exact Rat.num_eq_zero.1 (Int.sign_eq_zero_iff_zero.1 h6)
    have hv9:(k:Rat)=aP (bU (k:Rat) (m:Int) (xs.map Fr4.q)) j9:=by rw[qL (by rw[hwl];exact hmn) (by rw[hwl];omega)];rw[if_neg hp9,if_pos ⟨hS9,by omega⟩]
    have hst:(((bU (k:Rat) (m:Int) (xs.map Fr4.q)).take j9).flatMap cA).map AV.t++(cA (k:Rat)).map .t=(((bU (k:Rat) (m:Int) (xs.map Fr4.q)).take (j9+1)).flatMap cA).map .t:=by rw[eV,eU (by rw[hexl];omega),←hv9]
    exact⟨j9+1,by omega,by omega,aH h0 [0,1,5] _ _ (by decide) ⟨rfl,rfl,rfl,rfl,rfl,rfl,trivial⟩ ⟨oe rfl rfl,oe rfl rfl,bI (congrArg (fun l=>some (⟨50,4,l⟩:Ob)) hst),rfl⟩⟩
   refine sk ?_;refine sq ?_;refine sq ?_;refine rl ?_;(iterate 3 refine o1 ?_);refine fQ ((aS xs (j9)).tr false) (eO xs (k:=j9) (by omega)) ?_
   refine ca (iR ⟨hx _ (bJ (by omega)),rfl⟩) pL ⟨aB rfl,rfl⟩ (.one (tv (.int .i64 (aS xs (j9)).q.num.sign))) ?_
   refine o1 ?_;refine nl ?_;refine bN rfl (fun h9=>?_) (fun h9=>?_)
   ·refine rd [0,1] (fun i=>[].contains i) mixed ?_
    refine aV 0 ?_;refine dv 1 ?_;refine dv 2 ?_;refine dv 3 ?_;refine fR 4 ((aS xs (j9)).tr false) (eO xs (k:=j9) (by omega)) ?_
    refine aV 6 ?_
    refine aI 5 rfl (Ez (Qn.of (p:=(k:Rat)) hTz) ⟨hx _ (bJ (by omega)),rfl⟩ (hTz.mono (M:=17179869184) (by omega)) ((hz _ (bJ (by omega))).mono (M:=17179869184) (by omega))) Um ⟨aB rfl,aB rfl,rfl⟩ (qF (.of ((k:Rat)*(aS xs (j9)).q))) ?_
    refine aI 7 rfl (Mx (Qn.of (p:=((k:Rat)*(aS xs (j9)).q)) (mR hTz (hz _ (bJ (by omega))))) (Qn.of (p:=(aC (((xs.map Fr4.q).map aX).take (i9)))) hgs) ((mR hTz (hz _ (bJ (by omega)))).mono (M:=17179869184) (by omega)) (hgs.mono (M:=17179869184) (by omega))) Un ⟨aB rfl,aB rfl,rfl⟩ (.tup [qF (.of (((k:Rat)*(aS xs (j9)).q)/(aC (((xs.map Fr4.q).map aX).take (i9))))),.one (tv (.int .i64 (if(aC (((xs.map Fr4.q).map aX).take (i9)))=0 then 20 else 0)))]) ?_
    refine df 8 ?_;refine df 9 ?_;refine df 10 ?_;refine aR 11 (by kernel_rfl) rfl rfl aA rfl rfl rfl rfl ⟨rfl,rfl,trivial⟩ ?_
    refine aO ?_;refine rl ?_;refine o1 ?_;refine ld ?_;refine bs 4 ?_
    refine dV (j:=5) aA rfl rfl rfl rfl (.sl rfl (by rw[List.length_map,bO cN,List.length_take,hexl,Nat.min_eq_left (by omega)])) (.sl rfl rfl rfl) rfl rfl rfl (by omega) (by omega) ?_
    refine o1 ?_;refine nl ?_;refine rl ?_;refine o1 ?_;refine o1 ?_;refine WL.cast (t:=48) (u':=.int .i64 ((j9+1:Nat):Int)) rfl (aK (by omega)) ?_
    refine o1 ?_;refine nl ?_;have hp9:0<aP (xs.map Fr4.q) j9:=by rw[dK (f:=Fr4.q) (by omega)];exact gC.1 (Int.sign_pos_iff.1 h9)
    have hS9:(aC ((xs.map Fr4.q).map aX))=0:=by rw[←hsm];exact Rat.num_eq_zero.1 (Int.sign_eq_zero_iff_zero.1 h6)
    have hv9:((k:Rat)*(aS xs (j9)).q/(aC (((xs.map Fr4.q).map aX).take (i9))))=aP (bU (k:Rat) (m:Int) (xs.map Fr4.q)) j9:=by rw[qL (by rw[hwl];exact hmn) (by rw[hwl];omega)];rw[if_pos hp9,←dK (f:=Fr4.q) (by omega),hsm]
    have hst:(((bU (k:Rat) (m:Int) (xs.map Fr4.q)).take j9).flatMap cA).map AV.t++(cA ((k:Rat)*(aS xs (j9)).q/(aC (((xs.map Fr4.q).map aX).take (i9))))).map .t=(((bU (k:Rat) (m:Int) (xs.map Fr4.q)).take (j9+1)).flatMap cA).map .t:=by rw[eV,eU (by rw[hexl];omega),←hv9]
    exact⟨j9+1,by omega,by omega,aH h0 [0,1,5] _ _ (by decide) ⟨rfl,rfl,rfl,rfl,rfl,rfl,trivial⟩ ⟨oe rfl rfl,oe rfl rfl,bI (congrArg (fun l=>some (⟨50,4,l⟩:Ob)) hst),rfl⟩⟩
   refine sk ?_;refine rl ?_;refine o1 ?_;refine ld ?_;refine bs 4 ?_
   refine dV (j:=5) aA rfl rfl rfl rfl (.sl rfl (by rw[List.length_map,bO cN,List.length_take,hexl,Nat.min_eq_left (by omega)])) (.sl rfl rfl rfl) rfl rfl rfl (by omega) (by omega) ?_
   refine o1 ?_;refine nl ?_;refine rl ?_;refine o1 ?_;refine o1 ?_;refine WL.cast (t:=48) (u':=.int .i64 ((j9+1:Nat):Int)) rfl (aK (by omega)) ?_
   refine o1 ?_;refine nl ?_;have hp9:¬0<aP (xs.map Fr4.q) j9:=by rw[dK (f:=Fr4.q) (by omega)];exact fun hq9=>h9 (Int.sign_pos_iff.2 (gC.2 hq9))
   have hS9:(aC ((xs.map Fr4.q).map aX))=0:=by rw[←hsm];exact Rat.num_eq_zero.1 (Int.sign_eq_zero_iff_zero.1 h6)
   have hv9:((0:Int):Rat)=aP (bU (k:Rat) (m:Int) (xs.map Fr4.q)) j9:=by rw[qL (by rw[hwl];exact hmn) (by rw[hwl];omega)];rw[if_neg hp9,if_neg (fun hq9=>absurd hq9.2 (by omega))];rfl
   have hst:(((bU (k:Rat) (m:Int) (xs.map Fr4.q)).take j9).flatMap cA).map AV.t++(cA ((0:Int):Rat)).map .t=(((bU (k:Rat) (m:Int) (xs.map Fr4.q)).take (j9+1)).flatMap cA).map .t:=by rw[eV,eU (by rw[hexl];omega),←hv9]
   exact⟨j9+1,by omega,by omega,aH h0 [0,1,5] _ _ (by decide) ⟨rfl,rfl,rfl,rfl,rfl,rfl,trivial⟩ ⟨oe rfl rfl,oe rfl rfl,bI (congrArg (fun l=>some (⟨50,4,l⟩:Ob)) hst),rfl⟩⟩
  (iterate 3 refine dU ?_);refine o1 ?_;refine nl ?_;refine gJ rfl ?_;refine sk ?_;refine sq ?_;refine sq ?_;refine rl ?_;(iterate 3 refine o1 ?_)
  refine fQ ((aS xs (j9)).tr false) (eO xs (k:=j9) (by omega)) ?_
  refine ca (iR ⟨hx _ (bJ (by omega)),rfl⟩) pL ⟨aB rfl,rfl⟩ (.one (tv (.int .i64 (aS xs (j9)).q.num.sign))) ?_
  refine o1 ?_;refine nl ?_;refine bN rfl (fun h10=>?_) (fun h10=>?_)
  ·refine rd [0,1] (fun i=>[].contains i) mixed ?_
   refine aV 0 ?_;refine dv 1 ?_;refine dv 2 ?_;refine dv 3 ?_;refine fR 4 ((aS xs (j9)).tr false) (eO xs (k:=j9) (by omega)) ?_
   refine aV 6 ?_
   refine aI 5 rfl (Ez (Qn.of (p:=(k:Rat)) hTz) ⟨hx _ (bJ (by omega)),rfl⟩ (hTz.mono (M:=17179869184) (by omega)) ((hz _ (bJ (by omega))).mono (M:=17179869184) (by omega))) Um ⟨aB rfl,aB rfl,rfl⟩ (qF (.of ((k:Rat)*(aS xs (j9)).q))) ?_
   refine aI 7 rfl (Mx (Qn.of (p:=((k:Rat)*(aS xs (j9)).q)) (mR hTz (hz _ (bJ (by omega))))) (Qn.of (p:=(aC (((xs.map Fr4.q).map aX).take (i9)))) hgs) ((mR hTz (hz _ (bJ (by omega)))).mono (M:=17179869184) (by omega)) (hgs.mono (M:=17179869184) (by omega))) Un ⟨aB rfl,aB rfl,rfl⟩ (.tup [qF (.of (((k:Rat)*(aS xs (j9)).q)/(aC (((xs.map Fr4.q).map aX).take (i9))))),.one (tv (.int .i64 (if(aC (((xs.map Fr4.q).map aX).take (i9)))=0 then 20 else 0)))]) ?_
   refine df 8 ?_;refine df 9 ?_;refine df 10 ?_;refine aR 11 (by kernel_rfl) rfl rfl aA rfl rfl rfl rfl ⟨rfl,rfl,trivial⟩ ?_
   refine aO ?_;refine rl ?_;refine o1 ?_;refine ld ?_;refine bs 4 ?_
   refine dV (j:=5) aA rfl rfl rfl rfl (.sl rfl (by rw[List.length_map,bO cN,List.length_take,hexl,Nat.min_eq_left (by omega)])) (.sl rfl rfl rfl) rfl rfl rfl (by omega) (by omega) ?_
   refine o1 ?_;refine nl ?_;refine rl ?_;refine o1 ?_;refine o1 ?_;refine WL.cast (t:=48) (u':=.int .i64 ((j9+1:Nat):Int)) rfl (aK (by omega)) ?_
   refine o1 ?_;refine nl ?_;have hp9:0<aP (xs.map Fr4.q) j9:=by rw[dK (f:=Fr4.q) (by omega)];exact gC.1 (Int.sign_pos_iff.1 h10)
   have hS9:¬(aC ((xs.map Fr4.q).map aX))=0:=fun hq9=>h6 (by rw[hsm,hq9];rfl)
   have hv9:((k:Rat)*(aS xs (j9)).q/(aC (((xs.map Fr4.q).map aX).take (i9))))=aP (bU (k:Rat) (m:Int) (xs.map Fr4.q)) j9:=by rw[qL (by rw[hwl];exact hmn) (by rw[hwl];omega)];rw[if_pos hp9,←dK (f:=Fr4.q) (by omega),hsm]
   have hst:(((bU (k:Rat) (m:Int) (xs.map Fr4.q)).take j9).flatMap cA).map AV.t++(cA ((k:Rat)*(aS xs (j9)).q/(aC (((xs.map Fr4.q).map aX).take (i9))))).map .t=(((bU (k:Rat) (m:Int) (xs.map Fr4.q)).take (j9+1)).flatMap cA).map .t:=by rw[eV,eU (by rw[hexl];omega),←hv9]
   exact⟨j9+1,by omega,by omega,aH h0 [0,1,5] _ _ (by decide) ⟨rfl,rfl,rfl,rfl,rfl,rfl,trivial⟩ ⟨oe rfl rfl,oe rfl rfl,bI (congrArg (fun l=>some (⟨50,4,l⟩:Ob)) hst),rfl⟩⟩
  refine sk ?_;refine rl ?_;refine o1 ?_;refine ld ?_;refine bs 4 ?_
  refine dV (j:=5) aA rfl rfl rfl rfl (.sl rfl (by rw[List.length_map,bO cN,List.length_take,hexl,Nat.min_eq_left (by omega)])) (.sl rfl rfl rfl) rfl rfl rfl (by omega) (by omega) ?_
  refine o1 ?_;refine nl ?_;refine rl ?_;refine o1 ?_;refine o1 ?_;refine WL.cast (t:=48) (u':=.int .i64 ((j9+1:Nat):Int)) rfl (aK (by omega)) ?_
  refine o1 ?_;refine nl ?_;have hp9:¬0<aP (xs.map Fr4.q) j9:=by rw[dK (f:=Fr4.q) (by omega)];exact fun hq9=>h10 (Int.sign_pos_iff.2 (gC.2 hq9))
  have hS9:¬(aC ((xs.map Fr4.q).map aX))=0:=fun hq9=>h6 (by rw[hsm,hq9];rfl)
  have hv9:((0:Int):Rat)=aP (bU (k:Rat) (m:Int) (xs.map Fr4.q)) j9:=by rw[qL (by rw[hwl];exact hmn) (by rw[hwl];omega)];rw[if_neg hp9,if_neg (fun hq9=>hS9 hq9.1)];rfl
  have hst:(((bU (k:Rat) (m:Int) (xs.map Fr4.q)).take j9).flatMap cA).map AV.t++(cA ((0:Int):Rat)).map .t=(((bU (k:Rat) (m:Int) (xs.map Fr4.q)).take (j9+1)).flatMap cA).map .t:=by rw[eV,eU (by rw[hexl];omega),←hv9]
  exact⟨j9+1,by omega,by omega,aH h0 [0,1,5] _ _ (by decide) ⟨rfl,rfl,rfl,rfl,rfl,rfl,trivial⟩ ⟨oe rfl rfl,oe rfl rfl,bI (congrArg (fun l=>some (⟨50,4,l⟩:Ob)) hst),rfl⟩⟩
 refine ex ?_;refine sq ?_
 refine WP.sub (fz (i:=11) (k:=2) (t:=50) (z:=4) (n:=j9) (l:=((bU (k:Rat) (m:Int) (xs.map Fr4.q)).take j9).flatMap cA) rfl rfl rfl (by rw[bO cN,List.length_take,hexl];omega)) ?_
 refine rl ?_;(iterate 3 refine o1 ?_);refine nl ?_;refine rt ?_;have hj0:j9=(bU (k:Rat) (m:Int) (xs.map Fr4.q)).length:=by rw[hexl];omega
 have htk:(bU (k:Rat) (m:Int) (xs.map Fr4.q)).take j9=(bU (k:Rat) (m:Int) (xs.map Fr4.q)):=List.take_of_length_le (by omega)
 exact en (.inl rfl) rfl (hG (.cons (.one (.id rfl)) (.cons (bZ _) .nil))) (by decide) (fun h=>by cases h) (by rw[Ea hmn,htk,←hj0];rfl)
theorem FA {a:Zi}{k:Int}(ha:Zn a k):aD true Tryz.prog 58 [] [gF a] (aM (kO (((k.natAbs:Nat):Int)))):=by
 refine bL Tryz.func58 rfl Tryz.ntmps58 rfl aA rfl fun N w c0 h0=>?_
 have hkl:=ha.len
 refine sq ?_;refine rl ?_;refine bx 0 ?_;refine al 1 ?_;refine nl ?_;refine sq ?_;refine rl ?_;refine ld ?_;refine ca (fA ha) mC ⟨aB rfl,rfl⟩ (kF (k)) ?_;refine o1 ?_
 refine fK 2 (iS (b:=false) (xs:=dg 4294967296 k.natAbs) (K:=((k.natAbs:Nat):Int)) (by omega) (aJ (by omega) _) (by rw[bE];rfl)) cY ⟨a1 rfl,a1 rfl,rfl⟩ ?_
 refine st ?_;refine nl ?_;refine rt ?_
 exact en (.inl rfl) rfl (aT (.agg (.cons (.id rfl) (.cons (.sl (trs:=aL (dg 4294967296 (((k.natAbs:Nat):Int)).natAbs)) rfl rfl (aY _) (aU _)) .nil)))) (by decide) (fun _=>dO (((k.natAbs:Nat):Int))) rfl
theorem tM {xs:List Fr4}{k:Nat}(h:k<xs.length):(aS xs k).q∈xs.map Fr4.q:=List.mem_map.2 ⟨_,bJ h,rfl⟩
theorem Uo {l:List Rat}{t:Nat}(ht:(t:Int)≤eN l) (h:¬0<(eN l-(t:Int)).sign):t=(eN l).toNat:=by
 have h1:¬0<eN l-(t:Int):=fun h9=>h (Int.sign_pos_iff.2 h9)
 omega
theorem Qg {xs:List Fr4}(hx:∀x∈xs,x.ok) (hz:∀x∈xs,Sz 1000 x.q) (hl:xs.length≤12):aD false Tryz.prog 18 [] [.one (.t (sQ false xs))] (aM (.one (.t (sZ 34 (aQ (cD (xs.map Fr4.q))))))):=by
 refine bL Tryz.func18 rfl Tryz.ntmps18 rfl aA rfl fun N9 w9 c0 h0=>?_
 have hll:(xs.map Fr4.q).length=xs.length:=List.length_map ..
 have hll2:(xs.map Fr4.q).length≤12:=by omega
 have hzl:∀q∈(xs.map Fr4.q),Sz 1000 q:=fun q hq=>(by obtain⟨x,h9,rfl⟩:=List.mem_map.1 hq;exact hz x h9)
 have hsz:Sz 13000 (aC (xs.map Fr4.q)):=LB hzl hll2
 have hEl:(aN (xs.map Fr4.q)).length=xs.length:=by rw[Jr,hll]
 have hEl12:(aN (xs.map Fr4.q)).length≤12:=by omega
 have hEz:=Zl hzl
 have hofl:(eD (aN (xs.map Fr4.q))).length=xs.length:=by rw[gN,hEl]
 have hfc0:Sz 68719476736 (fc (aC (xs.map Fr4.q))):=(rK hsz).mono (by omega)
 have hfs:(dg 4294967296 (fl (aC (xs.map Fr4.q))).natAbs).length≤20000:=Nat.le_trans (mO _) (Nat.le_trans hsz.1 (by omega))
 refine sq ?_;refine rl ?_;refine o1 ?_;refine nl ?_;refine sq ?_;refine rl ?_;refine o1 ?_
 refine ca (EY (B:=1000) (by omega) hx hz (by omega)) LR ⟨a1 rfl,rfl⟩ (qF (.of (aC (xs.map Fr4.q)))) ?_
 refine al 0 ?_;refine st ?_;refine nl ?_;refine sq ?_;refine rl ?_;refine ld ?_
 refine ca (iR (Qn.of (p:=(aC (xs.map Fr4.q))) ((hsz).mono (M:=68719476736) (by omega)))) pL ⟨aB rfl,rfl⟩ (.one (tv (.int .i64 ((aC (xs.map Fr4.q))).num.sign))) ?_
 refine o1 ?_;refine nl ?_;refine sq ?_;refine sq ?_;refine rl ?_;refine ld ?_
 refine ca (Fc (Qn.of (p:=(aC (xs.map Fr4.q))) (hsz.mono (M:=68719476736) (by omega))) ((hsz.mono (by omega)))) Up ⟨aB rfl,rfl⟩ (qF (.of (fc (aC (xs.map Fr4.q))))) ?_
 refine ca (iR (Qn.of (p:=(fc (aC (xs.map Fr4.q)))) hfc0)) pL ⟨aB rfl,rfl⟩ (.one (tv (.int .i64 ((fc (aC (xs.map Fr4.q)))).num.sign))) ?_;refine o1 ?_;refine nl ?_
 refine bN rfl (fun h1=>?_) (fun h1=>?_)
 ·refine sq ?_;refine rl ?_;refine o1 ?_;refine nl ?_;refine rt ?_;have hfr:(aC (xs.map Fr4.q)).den≠1:=fun hq9=>h1 (by rw[Js.2 hq9];rfl)
  exact en (.inl rfl) rfl (aT (.one .nilf)) (by decide) (fun h=>by cases h) (by rw[wU hfr];rfl)
 refine sk ?_;refine sq ?_;have hden:(aC (xs.map Fr4.q)).den=1:=Js.1 (Rat.num_eq_zero.1 (Int.sign_eq_zero_iff_zero.1 (Decidable.byContradiction h1)))
 have hEd:=AO hden
 refine rl ?_;refine o1 ?_;refine nl ?_;refine sq ?_;refine sq ?_;refine rl ?_;refine o1 ?_;refine nl ?_;refine bl ?_
 refine lp (γ:=Nat) (fun s=>cG [(0,.one (.t (sQ false xs))),(3,.one (.pt 0 0)),(4,.one (tv (.int .i64 ((aC (xs.map Fr4.q))).num.sign))),(5,.one (.sl 1 0 (s))),(6,.one (tv (.int .i64 ((s:Nat):Int))))]) (fun s=>[(⟨50,0,((Fr4.of (aC (xs.map Fr4.q))).tr false).map .t⟩:Ob),⟨50,4,(((aN (xs.map Fr4.q)).take s).flatMap cA).map .t⟩].map some) (fun s=>s≤xs.length∧∀j,j<s→¬aP (aN (xs.map Fr4.q)) j<0) (fun s=>xs.length-s) 0 ⟨Nat.zero_le _,fun j hj=>absurd hj (Nat.not_lt_zero j)⟩ ((nr (i:=5) 1 50 4 rfl rfl rfl rfl).trans (aH h0 [0,1] _ _ (by decide) ⟨rfl,rfl,rfl,rfl,rfl,trivial⟩ ⟨oe rfl rfl,bI rfl,rfl⟩)) ?_
 rintro k9 ⟨hk9,hA⟩;refine sq ?_;refine sq ?_;refine rl ?_;(iterate 4 refine o1 ?_);refine nl ?_;refine bN rfl (fun h2=>?_) (fun h2=>?_)
 ·refine sk ?_;refine sq ?_;refine bl ?_;refine sq ?_;refine rl ?_;(iterate 3 refine o1 ?_);refine fQ ((aS xs (k9)).tr false) (eO xs (k:=k9) (by omega)) ?_
  refine ca (iI ⟨hx _ (bJ (by omega)),rfl⟩) rN ⟨aB rfl,rfl⟩ (qF (.of (aS xs (k9)).q)) ?_
  refine al 2 ?_;refine st ?_;refine nl ?_;refine sq ?_;refine sq ?_;refine rl ?_;refine o1 ?_;refine o1 ?_;refine nl ?_;refine bN rfl (fun h3=>?_) (fun h3=>?_)
  ·refine rl ?_;refine ld ?_
   refine ca (Qd (Qn.of (p:=(aS xs (k9)).q) ((hzl _ (tM (by omega))).mono (M:=68719476736) (by omega)))) ET ⟨aB rfl,rfl⟩ (qF (.of (-((aS xs (k9)).q)))) ?_
   refine st ?_;refine nl ?_;refine sq ?_;refine sq ?_;refine rl ?_;refine ld ?_
   refine ca (iR (Qn.of (p:=(-((aS xs (k9)).q))) ((mP (hzl _ (tM (by omega)))).mono (M:=68719476736) (by omega)))) pL ⟨aB rfl,rfl⟩ (.one (tv (.int .i64 ((-((aS xs (k9)).q))).num.sign))) ?_
   refine o1 ?_;refine nl ?_;refine bN rfl (fun h4=>?_) (fun h4=>?_)
   ·refine sq ?_;refine rl ?_;refine o1 ?_;refine nl ?_;refine rt ?_;have hS9:(aC (xs.map Fr4.q))<0:=gP.1 (Int.sign_neg_iff.1 h3)
    have hv9:(-((aS xs (k9)).q))=aP (aN (xs.map Fr4.q)) k9:=by rw[Ff hS9 (by rw[hll];omega),dK (f:=Fr4.q) (by omega)]
    have hbad:cD (xs.map Fr4.q)=[]:=Jt hden (k:=k9) (by rw[hll];omega) (by rw[←hv9];exact gP.1 (Int.sign_neg_iff.1 h4))
    exact en (.inl rfl) rfl (aT (.one .nilf)) (by decide) (fun h=>by cases h) (by rw[hbad];rfl)
   refine sk ?_;refine rl ?_;refine o1 ?_;refine ld ?_;refine bs 3 ?_
   refine dV (j:=4) aA rfl rfl rfl rfl (.sl rfl (by rw[List.length_map,bO cN,List.length_take,hEl,Nat.min_eq_left (by omega)])) (.sl rfl rfl rfl) rfl rfl rfl (by omega) (by omega) ?_
   refine o1 ?_;refine nl ?_;refine rl ?_;refine o1 ?_;refine o1 ?_;refine WL.cast (t:=28) (u':=.int .i64 ((k9+1:Nat):Int)) rfl (aK (by omega)) ?_
   refine o1 ?_;refine nl ?_;have hS9:(aC (xs.map Fr4.q))<0:=gP.1 (Int.sign_neg_iff.1 h3)
   have hv9:(-((aS xs (k9)).q))=aP (aN (xs.map Fr4.q)) k9:=by rw[Ff hS9 (by rw[hll];omega),dK (f:=Fr4.q) (by omega)]
   have hst:(((aN (xs.map Fr4.q)).take k9).flatMap cA).map AV.t++(cA (-((aS xs (k9)).q))).map .t=(((aN (xs.map Fr4.q)).take (k9+1)).flatMap cA).map .t:=by rw[eV,eU (by rw[hEl];omega),←hv9]
   have hA9:∀j,j<k9+1→¬aP (aN (xs.map Fr4.q)) j<0:=fun j hj=>by
    rcases Nat.lt_succ_iff_lt_or_eq.1 hj with h9 | h9
    ·exact hA j h9
    subst h9
    rw[←hv9];exact fun hq9=>h4 (Int.sign_neg_iff.2 (gP.2 hq9))
   exact⟨k9+1,by omega,⟨by omega,hA9⟩,aH h0 [0,4] _ _ (by decide) ⟨rfl,rfl,rfl,rfl,rfl,trivial⟩ ⟨oe rfl rfl,bI (congrArg (fun l=>some (⟨50,4,l⟩:Ob)) hst),rfl⟩⟩
  refine sk ?_;refine sq ?_;refine sq ?_;refine rl ?_;refine ld ?_
  refine ca (iR (Qn.of (p:=(aS xs (k9)).q) ((hzl _ (tM (by omega))).mono (M:=68719476736) (by omega)))) pL ⟨aB rfl,rfl⟩ (.one (tv (.int .i64 ((aS xs (k9)).q).num.sign))) ?_
  refine o1 ?_;refine nl ?_;refine bN rfl (fun h5=>?_) (fun h5=>?_)
  ·refine sq ?_;refine rl ?_;refine o1 ?_;refine nl ?_;refine rt ?_;have hS9:¬(aC (xs.map Fr4.q))<0:=fun hq9=>h3 (Int.sign_neg_iff.2 (gP.2 hq9))
   have hv9:((aS xs (k9)).q)=aP (aN (xs.map Fr4.q)) k9:=by rw[Fg hS9,dK (f:=Fr4.q) (by omega)]
   have hbad:cD (xs.map Fr4.q)=[]:=Jt hden (k:=k9) (by rw[hll];omega) (by rw[←hv9];exact gP.1 (Int.sign_neg_iff.1 h5))
   exact en (.inl rfl) rfl (aT (.one .nilf)) (by decide) (fun h=>by cases h) (by rw[hbad];rfl)
  refine sk ?_;refine rl ?_;refine o1 ?_;refine ld ?_;refine bs 3 ?_
  refine dV (j:=4) aA rfl rfl rfl rfl (.sl rfl (by rw[List.length_map,bO cN,List.length_take,hEl,Nat.min_eq_left (by omega)])) (.sl rfl rfl rfl) rfl rfl rfl (by omega) (by omega) ?_
  refine o1 ?_;refine nl ?_;refine rl ?_;refine o1 ?_;refine o1 ?_;refine WL.cast (t:=28) (u':=.int .i64 ((k9+1:Nat):Int)) rfl (aK (by omega)) ?_
  refine o1 ?_;refine nl ?_;have hS9:¬(aC (xs.map Fr4.q))<0:=fun hq9=>h3 (Int.sign_neg_iff.2 (gP.2 hq9))
  have hv9:((aS xs (k9)).q)=aP (aN (xs.map Fr4.q)) k9:=by rw[Fg hS9,dK (f:=Fr4.q) (by omega)]
  have hst:(((aN (xs.map Fr4.q)).take k9).flatMap cA).map AV.t++(cA ((aS xs (k9)).q)).map .t=(((aN (xs.map Fr4.q)).take (k9+1)).flatMap cA).map .t:=by rw[eV,eU (by rw[hEl];omega),←hv9]
  have hA9:∀j,j<k9+1→¬aP (aN (xs.map Fr4.q)) j<0:=fun j hj=>by
   rcases Nat.lt_succ_iff_lt_or_eq.1 hj with h9 | h9
   ·exact hA j h9
   subst h9
   rw[←hv9];exact fun hq9=>h5 (Int.sign_neg_iff.2 (gP.2 hq9))
  exact⟨k9+1,by omega,⟨by omega,hA9⟩,aH h0 [0,4] _ _ (by decide) ⟨rfl,rfl,rfl,rfl,rfl,trivial⟩ ⟨oe rfl rfl,bI (congrArg (fun l=>some (⟨50,4,l⟩:Ob)) hst),rfl⟩⟩
 refine ex ?_;refine sq ?_;have hk0:k9=(aN (xs.map Fr4.q)).length:=by omega
 have htk:(aN (xs.map Fr4.q)).take k9=(aN (xs.map Fr4.q)):=List.take_of_length_le (by omega)
 have hAA:∀j,j<(xs.map Fr4.q).length→¬aP (aN (xs.map Fr4.q)) j<0:=fun j hj=>hA j (by omega)
 refine WP.sub (fz (i:=5) (k:=1) (t:=50) (z:=4) (n:=k9) (l:=((aN (xs.map Fr4.q)).take k9).flatMap cA) rfl rfl rfl (by rw[bO cN,htk,hk0])) ?_
 refine WP.sub (LA (i:=5) (v:=.one (.t (.s false 50 4 k9 (((aN (xs.map Fr4.q)).take k9).flatMap cA)))) (v':=.one (.t (sQ false (eD (aN (xs.map Fr4.q)))))) rfl rfl (by rw[htk,uT (n:=k9) hk0.symm])) ?_
 refine rl ?_;refine o1 ?_;refine nl ?_;refine sq ?_;refine rl ?_;refine o1 ?_;refine o1 ?_;refine NO (m:=(eD (aN (xs.map Fr4.q))).length) 2 (by omega) (FB _) ?_
 refine o1 ?_;refine nl ?_;refine sq ?_;refine rl ?_;refine ld ?_
 refine ca (zY (Qn.of (p:=(aC (xs.map Fr4.q))) (hsz.mono (M:=68719476736) (by omega)))) Uk ⟨aB rfl,rfl⟩ (kF (fl (aC (xs.map Fr4.q)))) ?_
 refine ca (FA (Zn.of (k:=fl (aC (xs.map Fr4.q))) (Nat.le_trans hfs (by omega)))) LS ⟨aB rfl,rfl⟩ (kF (((fl (aC (xs.map Fr4.q))).natAbs:Nat):Int)) ?_
 refine al 3 ?_;refine st ?_;refine nl ?_;refine sq ?_;refine sq ?_;refine rl ?_;refine o1 ?_;refine nl ?_;refine bl ?_
 have hl0:(((fl (aC (xs.map Fr4.q))).natAbs:Nat):Int)=((((fl (aC (xs.map Fr4.q))).natAbs:Nat):Int)-fM (((aN (xs.map Fr4.q)).map fl).take (0))):=by rw[List.take_zero];exact(Int.sub_zero _).symm
 refine lp (γ:=Nat) (fun s=>cG [(4,.one (tv (.int .i64 ((aC (xs.map Fr4.q))).num.sign))),(5,.one (.t (sQ false (eD (aN (xs.map Fr4.q)))))),(9,.one (.sl 0 0 ((eD (aN (xs.map Fr4.q))).length))),(10,.one (.pt 1 0)),(8,.one (.sl 2 0 (s))),(11,.one (tv (.int .i64 ((s:Nat):Int))))]) (fun s=>[(⟨4,1,(bT (List.replicate (eD (aN (xs.map Fr4.q))).length false)).map .t⟩:Ob),⟨34,0,[tv (.bool (aF (((((fl (aC (xs.map Fr4.q))).natAbs:Nat):Int)-fM (((aN (xs.map Fr4.q)).map fl).take (s)))))),.t (sU false (dg 4294967296 ((((fl (aC (xs.map Fr4.q))).natAbs:Nat):Int)-fM (((aN (xs.map Fr4.q)).map fl).take (s))).natAbs))]⟩,⟨34,2,((aQ (((aN (xs.map Fr4.q)).map fl).take s)).flatMap (cH false)).map .t⟩].map some) (fun s=>s≤xs.length) (fun s=>xs.length-s) 0 (Nat.zero_le _) ((nr (i:=8) 4 34 2 rfl rfl rfl rfl).trans (aH h0 [2,3,4] _ _ (by decide) ⟨rfl,rfl,rfl,rfl,rfl,rfl,trivial⟩ ⟨bI rfl,oe rfl (congrArg (fun z:Int=>some (⟨34,0,[tv (.bool (aF z)),.t (sU false (dg 4294967296 z.natAbs))]⟩:Ob)) hl0),bI rfl,rfl⟩)) ?_
 rintro i9 hi9;have hLl:=Tg (i:=i9) (K:=(((fl (aC (xs.map Fr4.q))).natAbs:Nat):Int)) (by rw[Int.natAbs_natCast];exact hfs) hEz hEl12
 refine sq ?_;refine sq ?_;refine rl ?_;(iterate 4 refine o1 ?_);refine nl ?_;refine bN rfl (fun h6=>?_) (fun h6=>?_)
 ·refine sk ?_;refine sq ?_;refine bl ?_;refine sq ?_;refine rl ?_;(iterate 4 refine o1 ?_)
  refine fQ ((Fr4.of (aP (aN (xs.map Fr4.q)) (i9))).tr false) (Mh (l:=(aN (xs.map Fr4.q))) (k:=i9) (by omega)) ?_
  refine ca (zY (Qn.of (p:=(aP (aN (xs.map Fr4.q)) (i9))) ((hEz _ (dT (by omega))).mono (M:=68719476736) (by omega)))) Uk ⟨aB rfl,rfl⟩ (kF (fl (aP (aN (xs.map Fr4.q)) (i9)))) ?_
  refine bs 3 ?_
  refine dV (j:=4) aA rfl rfl rfl rfl (.sl rfl (by rw[List.length_map,bO (eI false),cX,List.length_take,List.length_map,hEl,Nat.min_eq_left (by omega)])) (.sl rfl rfl rfl) rfl rfl rfl (by omega) (by omega) ?_
  refine o1 ?_;refine nl ?_;have hfi:(dg 4294967296 (fl (aP (aN (xs.map Fr4.q)) (i9))).natAbs).length≤1000:=Nat.le_trans (mO _) (hEz _ (dT (by omega))).1
  refine rd [1,3,4] (fun i=>[6].contains i) mixed ?_
  refine aV 0 ?_;refine dv 1 ?_;refine dv 2 ?_;refine dv 3 ?_
  refine Mu 4 (us:=(cH false (.of (fl (aP (aN (xs.map Fr4.q)) (i9))))).map .t) (DM (ws:=aQ (((aN (xs.map Fr4.q)).map fl).take i9)) (z:=.of (fl (aP (aN (xs.map Fr4.q)) (i9)))) (i:=i9) (by rw[cX,List.length_take,List.length_map,hEl];omega)) ?_
  refine aI 5 rfl (Fh (Zn.of (k:=((((fl (aC (xs.map Fr4.q))).natAbs:Nat):Int)-fM (((aN (xs.map Fr4.q)).map fl).take (i9)))) (Nat.le_trans hLl (by omega))) (Zn.of (k:=(fl (aP (aN (xs.map Fr4.q)) (i9)))) (Nat.le_trans hfi (by omega)))) Uq ⟨aB rfl,aB rfl,rfl⟩ (kF (((((fl (aC (xs.map Fr4.q))).natAbs:Nat):Int)-fM (((aN (xs.map Fr4.q)).map fl).take (i9)))-(fl (aP (aN (xs.map Fr4.q)) (i9))))) ?_
  refine dst 6 ?_;refine aO ?_;refine rl ?_;refine o1 ?_;refine o1 ?_;refine WL.cast (t:=56) (u':=.int .i64 ((i9+1:Nat):Int)) rfl (aK (by omega)) ?_
  refine o1 ?_;refine nl ?_
  have hst:((aQ (((aN (xs.map Fr4.q)).map fl).take i9)).flatMap (cH false)).map .t++(cH false (.of (fl (aP (aN (xs.map Fr4.q)) (i9))))).map AV.t=((aQ (((aN (xs.map Fr4.q)).map fl).take (i9+1))).flatMap (cH false)).map .t:=by rw[eV,Eb,←Iu (by rw[hEl];omega),←oW (by rw[List.length_map,hEl];omega)]
  have hst2:((((fl (aC (xs.map Fr4.q))).natAbs:Nat):Int)-fM (((aN (xs.map Fr4.q)).map fl).take (i9)))-fl (aP (aN (xs.map Fr4.q)) (i9))=((((fl (aC (xs.map Fr4.q))).natAbs:Nat):Int)-fM (((aN (xs.map Fr4.q)).map fl).take (i9+1))):=by rw[Qh (by rw[List.length_map,hEl];omega),Iu (by rw[hEl];omega)];omega
  exact⟨i9+1,by omega,by omega,aH h0 [0,1,4] _ _ (by decide) ⟨rfl,rfl,rfl,rfl,rfl,rfl,trivial⟩ ⟨bI rfl,oe rfl (congrArg (fun z:Int=>some (⟨34,0,[tv (.bool (aF z)),.t (sU false (dg 4294967296 z.natAbs))]⟩:Ob)) hst2),bI (congrArg (fun l=>some (⟨34,2,l⟩:Ob)) hst),rfl⟩⟩
 refine ex ?_;refine sq ?_;refine bl ?_;have hi0:i9=(aN (xs.map Fr4.q)).length:=by omega
 have hl1:((((fl (aC (xs.map Fr4.q))).natAbs:Nat):Int)-fM (((aN (xs.map Fr4.q)).map fl).take (i9)))=(eN (aN (xs.map Fr4.q))-((0:Nat):Int)):=by rw[List.take_of_length_le (by rw[List.length_map];omega),Ur hden];omega
 have hz1:aQ (((aN (xs.map Fr4.q)).map fl).take i9)=aQ (dW (aN (xs.map Fr4.q)) (0)):=by rw[Ec,List.take_of_length_le (by rw[List.length_map];omega)]
 have hg1:List.replicate (eD (aN (xs.map Fr4.q))).length false=jX (aN (xs.map Fr4.q)) 0:=by rw[JF,gN]
 have hlf0:=lC hEd
 have hlf1:=sX hEd
 refine lp (γ:=Nat) (fun s=>cG [(4,.one (tv (.int .i64 ((aC (xs.map Fr4.q))).num.sign))),(5,.one (.t (sQ false (eD (aN (xs.map Fr4.q)))))),(8,.one (.sl 0 0 (i9))),(9,.one (.sl 1 0 ((eD (aN (xs.map Fr4.q))).length))),(10,.one (.pt 2 0))]) (fun s=>[(⟨34,2,((aQ (dW (aN (xs.map Fr4.q)) (s))).flatMap (cH false)).map .t⟩:Ob),⟨4,1,(bT (jX (aN (xs.map Fr4.q)) s)).map .t⟩,⟨34,0,[tv (.bool (aF ((eN (aN (xs.map Fr4.q))-((s:Nat):Int))))),.t (sU false (dg 4294967296 (eN (aN (xs.map Fr4.q))-((s:Nat):Int)).natAbs))]⟩].map some) (fun s=>((s:Nat):Int)≤eN (aN (xs.map Fr4.q))) (fun s=>(eN (aN (xs.map Fr4.q))).toNat-s) 0 (hlf0) (aH h0 [2,0,1] _ _ (by decide) ⟨rfl,rfl,rfl,rfl,rfl,trivial⟩ ⟨bI (congrArg (fun l:List Zi=>some (⟨34,2,(l.flatMap (cH false)).map .t⟩:Ob)) hz1),bI (congrArg (fun l:List Bool=>some (⟨4,1,(bT l).map .t⟩:Ob)) hg1),oe rfl (congrArg (fun z:Int=>some (⟨34,0,[tv (.bool (aF z)),.t (sU false (dg 4294967296 z.natAbs))]⟩:Ob)) hl1),rfl⟩) ?_
 rintro t9 ht9;refine sq ?_;refine sq ?_;refine rl ?_;refine ld ?_
 refine ca (kU (Zn.of (k:=(eN (aN (xs.map Fr4.q))-((t9:Nat):Int))) (Nat.le_trans (Dn hEd hEl12 ht9) (by omega)))) tK ⟨aB rfl,rfl⟩ (.one (tv (.int .i64 (eN (aN (xs.map Fr4.q))-((t9:Nat):Int)).sign))) ?_
 refine o1 ?_;refine nl ?_;refine bN rfl (fun h7=>?_) (fun h7=>?_)
 ·refine sk ?_;refine bl ?_;refine sq ?_;have htl:=Int.sign_pos_iff.1 h7
  have htn:t9<(aN (xs.map Fr4.q)).length:=by omega
  refine rl ?_;refine o1 ?_;refine nl ?_;refine sq ?_;refine sq ?_;refine rl ?_;refine o1 ?_;refine nl ?_;refine bl ?_
  refine lp (γ:=Nat×Int) (fun s=>cG [(4,.one (tv (.int .i64 ((aC (xs.map Fr4.q))).num.sign))),(5,.one (.t (sQ false (eD (aN (xs.map Fr4.q)))))),(8,.one (.sl 0 0 (i9))),(9,.one (.sl 1 0 ((eD (aN (xs.map Fr4.q))).length))),(10,.one (.pt 2 0)),(13,.one (tv (.int .i64 ((s.1:Nat):Int)))),(12,.one (tv (.int .i64 s.2)))]) (fun s=>[(⟨34,2,((aQ (dW (aN (xs.map Fr4.q)) (t9))).flatMap (cH false)).map .t⟩:Ob),⟨4,1,(bT (jX (aN (xs.map Fr4.q)) t9)).map .t⟩,⟨34,0,[tv (.bool (aF ((eN (aN (xs.map Fr4.q))-((t9:Nat):Int))))),.t (sU false (dg 4294967296 (eN (aN (xs.map Fr4.q))-((t9:Nat):Int)).natAbs))]⟩].map some) (fun s=>s.1≤xs.length∧Bst (oB (aN (xs.map Fr4.q))) (aN (xs.map Fr4.q)).length t9 s.1 s.2) (fun s=>xs.length-s.1) (0,(-1)) ⟨Nat.zero_le _,Bst.zero⟩ (aH h0 [0,1,2] _ _ (by decide) ⟨rfl,rfl,rfl,rfl,rfl,rfl,rfl,trivial⟩ ⟨bI rfl,bI rfl,oe rfl rfl,rfl⟩) ?_
  rintro⟨i8,b9⟩ ⟨hi8,hD⟩;dsimp only at hi8 hD⊢;refine sq ?_;refine sq ?_;refine rl ?_;(iterate 4 refine o1 ?_);refine nl ?_;refine bN rfl (fun h8=>?_) (fun h8=>?_)
  ·refine sk ?_;refine sq ?_;refine bl ?_;refine sq ?_;refine rd [1,2] (fun i=>[].contains i) mixed ?_
   refine dv 0 ?_;refine dv 1 ?_;refine dv 2 ?_;refine Mp 3 (LT (jX (aN (xs.map Fr4.q)) t9) (k:=i8) (by rw[nN];omega)) ?_
   refine dv 4 ?_;refine dv 5 ?_;refine WD.splitb (t:=85) rfl (fun h9=>?_) (fun h9=>?_)
   ·refine dv 6 ?_;refine dv 7 ?_;refine dv 8 ?_;refine WD.split (t:=88) rfl rfl (fun h10=>?_) (fun h10=>?_)
    ·refine dN 9 ?_;refine dN 10 ?_;refine dN 11 ?_;refine dN 12 ?_;refine dN 14 ?_;refine dN 15 ?_;refine dN 16 ?_;refine dN 17 ?_;refine dN 13 ?_;refine dN 18 ?_
     refine dN 19 ?_;refine dN 20 ?_;refine dv 21 ?_;refine dv 22 ?_;refine aO ?_;refine lT rfl ?_;refine rl ?_;refine o1 ?_;refine o1 ?_;refine nl ?_;refine rl ?_
     refine o1 ?_;refine o1 ?_;refine WL.cast (t:=79) (u':=.int .i64 ((i8+1:Nat):Int)) rfl (aK (by omega)) ?_
     refine o1 ?_;refine nl ?_
     exact⟨(i8+1,(i8:Int)),by dsimp only;omega,⟨by dsimp only;omega,hD.first (Is (show i8<(aN (xs.map Fr4.q)).length by omega) h9) h10⟩,aH h0 [0,1,2] _ _ (by decide) ⟨rfl,rfl,rfl,rfl,rfl,rfl,rfl,trivial⟩ ⟨bI rfl,bI rfl,oe rfl rfl,rfl⟩⟩
    obtain⟨m9,hbm⟩:∃m:Nat,b9=(m:Int):=⟨b9.toNat,by omega⟩
    subst hbm;have hmi:=hD.lt
    refine dv 9 ?_;refine dv 10 ?_;refine dv 11 ?_;refine fR 12 ((Fr4.of (aP (aN (xs.map Fr4.q)) (i8))).tr false) (Mh (l:=(aN (xs.map Fr4.q))) (k:=i8) (by omega)) ?_
    refine dv 14 ?_;refine dv 15 ?_;refine dv 16 ?_;refine fR 17 ((Fr4.of (aP (aN (xs.map Fr4.q)) (m9))).tr false) (Mh (l:=(aN (xs.map Fr4.q))) (k:=m9) (by omega)) ?_
    refine aI 13 rfl (Fc (Qn.of (p:=(aP (aN (xs.map Fr4.q)) (i8))) ((hEz _ (dT (by omega))).mono (M:=68719476736) (by omega))) ((hEz _ (dT (by omega))).mono (by omega))) Up ⟨aB rfl,rfl⟩ (qF (.of (fc (aP (aN (xs.map Fr4.q)) (i8))))) ?_
    refine aI 18 rfl (Fc (Qn.of (p:=(aP (aN (xs.map Fr4.q)) (m9))) ((hEz _ (dT (by omega))).mono (M:=68719476736) (by omega))) ((hEz _ (dT (by omega))).mono (by omega))) Up ⟨aB rfl,rfl⟩ (qF (.of (fc (aP (aN (xs.map Fr4.q)) (m9))))) ?_
    refine aI 19 rfl (EU (Qn.of (p:=(fc (aP (aN (xs.map Fr4.q)) (i8)))) ((rK (hEz _ (dT (by omega)))).mono (M:=68719476736) (by omega))) (Qn.of (p:=(fc (aP (aN (xs.map Fr4.q)) (m9)))) ((rK (hEz _ (dT (by omega)))).mono (M:=68719476736) (by omega))) ((rK (hEz _ (dT (by omega)))).mono (by omega)) ((rK (hEz _ (dT (by omega)))).mono (by omega))) LU ⟨aB rfl,aB rfl,rfl⟩ (.one (tv (.int .i64 ((fc (aP (aN (xs.map Fr4.q)) (i8)))-(fc (aP (aN (xs.map Fr4.q)) (m9)))).num.sign))) ?_
    refine df 20 ?_;refine df 21 ?_;refine df 22 ?_;refine aO ?_;refine bN rfl (fun h11=>?_) (fun h11=>?_)
    ·refine rl ?_;refine o1 ?_;refine o1 ?_;refine nl ?_;refine rl ?_;refine o1 ?_;refine o1 ?_
     refine WL.cast (t:=79) (u':=.int .i64 ((i8+1:Nat):Int)) rfl (aK (by omega)) ?_
     refine o1 ?_;refine nl ?_
     exact⟨(i8+1,(i8:Int)),by dsimp only;omega,⟨by dsimp only;omega,hD.more (m:=m9) (Is (show i8<(aN (xs.map Fr4.q)).length by omega) h9) (by have h9:0<fc (aP (aN (xs.map Fr4.q)) i8)-fc (aP (aN (xs.map Fr4.q)) m9):=gC.1 (Int.sign_pos_iff.1 h11);show fc (aP (aN (xs.map Fr4.q)) m9)<fc (aP (aN (xs.map Fr4.q)) i8);grind)⟩,aH h0 [0,1,2] _ _ (by decide) ⟨rfl,rfl,rfl,rfl,rfl,rfl,rfl,trivial⟩ ⟨bI rfl,bI rfl,oe rfl rfl,rfl⟩⟩
    refine sk ?_;refine rl ?_;refine o1 ?_;refine o1 ?_;refine WL.cast (t:=79) (u':=.int .i64 ((i8+1:Nat):Int)) rfl (aK (by omega)) ?_
    refine o1 ?_;refine nl ?_
    exact⟨(i8+1,(m9:Int)),by dsimp only;omega,⟨by dsimp only;omega,hD.stay (fun hq9=>h11 (Int.sign_pos_iff.2 (gC.2 (by have h8:fc (aP (aN (xs.map Fr4.q)) m9)<fc (aP (aN (xs.map Fr4.q)) i8):=hq9;show 0<fc (aP (aN (xs.map Fr4.q)) i8)-fc (aP (aN (xs.map Fr4.q)) m9);grind))))⟩,aH h0 [0,1,2] _ _ (by decide) ⟨rfl,rfl,rfl,rfl,rfl,rfl,rfl,trivial⟩ ⟨bI rfl,bI rfl,oe rfl rfl,rfl⟩⟩
   refine dN 6 ?_;refine dN 7 ?_;refine dN 8 ?_;refine dN 9 ?_;refine dN 10 ?_;refine dN 11 ?_;refine dN 12 ?_;refine dN 14 ?_;refine dN 15 ?_;refine dN 16 ?_
   refine dN 17 ?_;refine dN 13 ?_;refine dN 18 ?_;refine dN 19 ?_;refine dN 20 ?_;refine dN 21 ?_;refine dv 22 ?_;refine aO ?_;refine gJ rfl ?_;refine sk ?_;refine rl ?_
   refine o1 ?_;refine o1 ?_;refine WL.cast (t:=79) (u':=.int .i64 ((i8+1:Nat):Int)) rfl (aK (by omega)) ?_
   refine o1 ?_;refine nl ?_
   exact⟨(i8+1,b9),by dsimp only;omega,⟨by dsimp only;omega,hD.given (Zj (show i8<(aN (xs.map Fr4.q)).length by omega) h9)⟩,aH h0 [0,1,2] _ _ (by decide) ⟨rfl,rfl,rfl,rfl,rfl,rfl,rfl,trivial⟩ ⟨bI rfl,bI rfl,oe rfl rfl,rfl⟩⟩
  refine ex ?_;refine sq ?_;have hi7:i8=(aN (xs.map Fr4.q)).length:=by omega
  rw[hi7]at hD;have hb9:b9=(((nth (cE (aN (xs.map Fr4.q))) (t9)):Nat):Int):=hD.last htn
  subst hb9;have hlt9:(nth (cE (aN (xs.map Fr4.q))) (t9))<(aN (xs.map Fr4.q)).length:=qI (f:=oB (aN (xs.map Fr4.q))) htn
  have hlt8:(nth (cE (aN (xs.map Fr4.q))) (t9))<(eD (aN (xs.map Fr4.q))).length:=by omega
  have hw9:(nth (cE (aN (xs.map Fr4.q))) (t9))<(aQ (dW (aN (xs.map Fr4.q)) (t9))).length:=by rw[cX,iQ];exact hlt9
  have hz9k:fS (aQ (dW (aN (xs.map Fr4.q)) (t9))) (nth (cE (aN (xs.map Fr4.q))) (t9))=.of (cC (dW (aN (xs.map Fr4.q)) (t9)) (nth (cE (aN (xs.map Fr4.q))) (t9))):=nL (by rw[iQ];exact hlt9)
  have hK0:=Ju (t:=t9) hEz hlt9
  refine rl ?_;(iterate 3 refine o1 ?_)
  refine qE (JG (jX (aN (xs.map Fr4.q)) t9) (k:=(nth (cE (aN (xs.map Fr4.q))) (t9))) (v:=true) (by rw[nN];omega)) (LV (jX (aN (xs.map Fr4.q)) t9) (by rw[nN];omega)) ?_
  refine nl ?_;refine sq ?_;refine rd [0,2] (fun i=>[9].contains i) mixed ?_
  refine dv 0 ?_;refine dv 1 ?_;refine dv 2 ?_;refine dv 3 ?_;refine dv 4 ?_
  refine Mu 5 (us:=(cH false (.of (cC (dW (aN (xs.map Fr4.q)) (t9)) (nth (cE (aN (xs.map Fr4.q))) (t9))))).map .t) (Xa (z:=.of (cC (dW (aN (xs.map Fr4.q)) (t9)) (nth (cE (aN (xs.map Fr4.q))) (t9)))) hw9 hz9k) ?_
  refine aI 6 rfl (kG (n:=1) (by omega) (by omega)) mX ⟨a1 rfl,rfl⟩ (kF 1) ?_
  refine aI 7 rfl (oD (Zn.of (k:=(cC (dW (aN (xs.map Fr4.q)) (t9)) (nth (cE (aN (xs.map Fr4.q))) (t9)))) (Nat.le_trans hK0 (by omega))) (Zn.of (k:=1) (by decide))) wX ⟨aB rfl,aB rfl,rfl⟩ (kF ((cC (dW (aN (xs.map Fr4.q)) (t9)) (nth (cE (aN (xs.map Fr4.q))) (t9)))+1)) ?_
  refine dv 8 ?_;refine Dw 9 (us:=(cH false (.of ((cC (dW (aN (xs.map Fr4.q)) (t9)) (nth (cE (aN (xs.map Fr4.q))) (t9)))+1))).map .t) (Oz hw9) (Xb hw9) ?_;refine aO ?_
  refine rd [2] (fun i=>[2,3].contains i) mixed ?_
  refine aV 0 ?_;refine aI 1 rfl (kG (n:=1) (by omega) (by omega)) mX ⟨a1 rfl,rfl⟩ (kF 1) ?_
  refine aI 2 rfl (Fh (Zn.of (k:=(eN (aN (xs.map Fr4.q))-((t9:Nat):Int))) (Nat.le_trans (Dn hEd hEl12 ht9) (by omega))) (Zn.of (k:=1) (by decide))) Uq ⟨aB rfl,aB rfl,rfl⟩ (kF ((eN (aN (xs.map Fr4.q))-((t9:Nat):Int))-1)) ?_
  refine dst 3 ?_;refine aO ?_
  have hst:(aQ (dW (aN (xs.map Fr4.q)) (t9))).set (nth (cE (aN (xs.map Fr4.q))) (t9)) (.of ((cC (dW (aN (xs.map Fr4.q)) (t9)) (nth (cE (aN (xs.map Fr4.q))) (t9)))+1))=aQ (dW (aN (xs.map Fr4.q)) (t9+1)):=by rw[uX,Ed (by omega)]
  have hst2:(eN (aN (xs.map Fr4.q))-((t9:Nat):Int))-1=(eN (aN (xs.map Fr4.q))-((t9+1:Nat):Int)):=by omega
  have hst3:=JH (l:=(aN (xs.map Fr4.q))) (t:=t9) (by omega)
  exact⟨t9+1,by omega,by omega,aH h0 [0,1,2] _ _ (by decide) ⟨rfl,rfl,rfl,rfl,rfl,trivial⟩ ⟨bI (congrArg (fun l:List Zi=>some (⟨34,2,(l.flatMap (cH false)).map .t⟩:Ob)) hst),bI (congrArg (fun l:List Bool=>some (⟨4,1,(bT l).map .t⟩:Ob)) hst3),oe rfl (congrArg (fun z:Int=>some (⟨34,0,[tv (.bool (aF z)),.t (sU false (dg 4294967296 z.natAbs))]⟩:Ob)) hst2),rfl⟩⟩
 refine ex ?_;refine sq ?_;refine sq ?_;refine rl ?_;refine o1 ?_;refine nl ?_;refine bl ?_
 have ht0:aQ (dW (aN (xs.map Fr4.q)) (t9))=aQ (gZ (fun x:Int=>-x) (fD (aN (xs.map Fr4.q))) (0)):=by rw[JI,fD,show t9=(eN (aN (xs.map Fr4.q))).toNat from Uo ht9 h7]
 have hlg:(fD (aN (xs.map Fr4.q))).length=xs.length:=by rw[qJ,hEl]
 refine lp (γ:=Nat) (fun s=>cG [(4,.one (tv (.int .i64 ((aC (xs.map Fr4.q))).num.sign))),(8,.one (.sl 0 0 (i9))),(14,.one (tv (.int .i64 ((s:Nat):Int))))]) (fun s=>[(⟨34,2,((aQ (gZ (fun x:Int=>-x) (fD (aN (xs.map Fr4.q))) (s))).flatMap (cH false)).map .t⟩:Ob)].map some) (fun s=>s≤xs.length∧(s=0∨(aC (xs.map Fr4.q))<0)) (fun s=>xs.length-s) 0 ⟨Nat.zero_le _,.inl rfl⟩ (aH h0 [0] _ _ (by decide) ⟨rfl,rfl,rfl,trivial⟩ ⟨bI (congrArg (fun l:List Zi=>some (⟨34,2,(l.flatMap (cH false)).map .t⟩:Ob)) ht0),rfl⟩) ?_
 rintro e9 ⟨he9,hE⟩;refine sq ?_;refine sq ?_;refine rl ?_;(iterate 5 refine o1 ?_);refine WL.split (t:=123) rfl (fun h12=>?_) (fun h12=>?_)
 ·(iterate 3 refine o1 ?_);refine nl ?_;refine bN rfl (fun h13=>?_) (fun h13=>?_)
  ·refine sk ?_;refine sq ?_;refine bl ?_;have hw8:e9<(fD (aN (xs.map Fr4.q))).length:=by omega
   have hw9:e9<(aQ (gZ (fun x:Int=>-x) (fD (aN (xs.map Fr4.q))) (e9))).length:=by rw[cX,mA];exact hw8
   have hz9k:fS (aQ (gZ (fun x:Int=>-x) (fD (aN (xs.map Fr4.q))) (e9))) e9=.of (cC (fD (aN (xs.map Fr4.q))) (e9)):=(nL (by rw[mA];exact hw8)).trans (by rw[Jh hw8])
   have hKE:=zZ hEz _ (kL hw8)
   refine rl ?_;(iterate 5 refine o1 ?_)
   refine ED (us:=(cH false (.of (cC (fD (aN (xs.map Fr4.q))) (e9)))).map .t) (Xa (z:=.of (cC (fD (aN (xs.map Fr4.q))) (e9))) hw9 hz9k) ?_
   refine ca (tL (Zn.of (k:=(cC (fD (aN (xs.map Fr4.q))) (e9))) (Nat.le_trans hKE (by omega)))) Eu ⟨aB rfl,rfl⟩ (kF (-(cC (fD (aN (xs.map Fr4.q))) (e9)))) ?_
   refine o1 ?_;refine qE (us:=(cH false (.of (-(cC (fD (aN (xs.map Fr4.q))) (e9))))).map .t) (Oz hw9) (Xb hw9) ?_;refine nl ?_;refine rl ?_;refine o1 ?_;refine o1 ?_
   refine WL.cast (t:=128) (u':=.int .i64 ((e9+1:Nat):Int)) rfl (aK (by omega)) ?_
   refine o1 ?_;refine nl ?_
   have hst:(aQ (gZ (fun x:Int=>-x) (fD (aN (xs.map Fr4.q))) (e9))).set e9 (.of (-(cC (fD (aN (xs.map Fr4.q))) (e9))))=aQ (gZ (fun x:Int=>-x) (fD (aN (xs.map Fr4.q))) (e9+1)):=by rw[uX,←Xk (f:=(fun x:Int=>-x)) hw8]
   exact⟨e9+1,by omega,⟨by omega,.inr (kK.1 h13)⟩,aH h0 [0] _ _ (by decide) ⟨rfl,rfl,rfl,trivial⟩ ⟨bI (congrArg (fun l:List Zi=>some (⟨34,2,(l.flatMap (cH false)).map .t⟩:Ob)) hst),rfl⟩⟩
  refine ex ?_;refine sq ?_;have hres:(gZ (fun x:Int=>-x) (fD (aN (xs.map Fr4.q))) (e9))=cD (xs.map Fr4.q):=by
   rw[Jv hden hAA];by_cases hS:(aC (xs.map Fr4.q))<0
   ·rw[if_pos hS]
    exact absurd (kK.2 hS) h13
   rw[if_neg hS]
   have e0:e9=0:=hE.resolve_right hS
   rw[e0];rfl
  have hln:(aQ (cD (xs.map Fr4.q))).length=i9:=by rw[cX,←hres,mA];omega
  refine WP.sub (fz (i:=8) (k:=0) (t:=34) (z:=2) (n:=i9) (l:=(aQ (gZ (fun x:Int=>-x) (fD (aN (xs.map Fr4.q))) (e9))).flatMap (cH false)) rfl rfl rfl (by rw[bO (eI false),hres,hln])) ?_
  refine rl ?_;refine o1 ?_;refine o1 ?_;refine nl ?_;refine rt ?_
  exact en (.inl rfl) rfl (aT (.one (.id rfl))) (by decide) (fun h=>by cases h) (by rw[hres];unfold sZ;rw[hln];rfl)
 refine dU ?_;refine dU ?_;refine o1 ?_;refine nl ?_;refine gJ rfl ?_;refine ex ?_;refine sq ?_
 have hres:(gZ (fun x:Int=>-x) (fD (aN (xs.map Fr4.q))) (e9))=cD (xs.map Fr4.q):=by
  rw[Jv hden hAA];by_cases hS:(aC (xs.map Fr4.q))<0
  ·rw[if_pos hS]
   exact Jj (by omega)
  rw[if_neg hS]
  have e0:e9=0:=hE.resolve_right hS
  rw[e0];rfl
 have hln:(aQ (cD (xs.map Fr4.q))).length=i9:=by rw[cX,←hres,mA];omega
 refine WP.sub (fz (i:=8) (k:=0) (t:=34) (z:=2) (n:=i9) (l:=(aQ (gZ (fun x:Int=>-x) (fD (aN (xs.map Fr4.q))) (e9))).flatMap (cH false)) rfl rfl rfl (by rw[bO (eI false),hres,hln])) ?_
 refine rl ?_;refine o1 ?_;refine o1 ?_;refine nl ?_;refine rt ?_
 exact en (.inl rfl) rfl (aT (.one (.id rfl))) (by decide) (fun h=>by cases h) (by rw[hres];unfold sZ;rw[hln];rfl)
theorem My {l:List Rat}{n:Nat}(hn:l.length=n) (hz:∀q∈l,Sz 1000 q) (hl:l.length≤12):aD false Tryz.prog 18 [] [.one (.t (.s false 50 4 n (l.flatMap cA)))] (aM (.one (.t (sZ 34 (aQ (cD l)))))):=by
 have h:=Qg (xs:=eD l) (qD hz (by omega)) (tE hz) (by rw[gN];exact hl)
 rwa[uU,uT hn]at h
theorem Fi {a:Zi}{k b:Int}{xs:List Fr4}(ha:Zn a k) (hk:iV 6 k) (hx:∀x∈xs,x.ok) (hz:∀x∈xs,Sz 7 x.q) (hl:xs.length≤12):aD false Tryz.prog 10 [] [gF a,.one (tv (.int .i64 b)),.one (.t (sQ false xs))] (aM (.tup [.one (.t (sZ 34 (aQ (cD (bU (k:Rat) b (xs.map Fr4.q)))))),.one (tv (.int .i64 (lF b xs.length)))])):=by
 refine bL Tryz.func10 rfl Tryz.ntmps10 rfl aA rfl fun N9 w9 c0 h0=>?_
 refine sq ?_;refine rl ?_;refine bx 0 ?_;refine o1 ?_;refine o1 ?_;refine nl ?_;refine sq ?_;refine rl ?_;refine ld ?_;refine o1 ?_;refine o1 ?_
 refine ca (Qf ha hk hx hz hl) FC ⟨aB rfl,a1 rfl,a1 rfl,rfl⟩ (.tup [.one (.t (.s false 50 4 (bU (k:Rat) b (xs.map Fr4.q)).length ((bU (k:Rat) b (xs.map Fr4.q)).flatMap cA))),.one (tv (.int .i64 (lF b xs.length)))]) ?_
 (iterate 5 refine o1 ?_);refine nl ?_;refine sq ?_;refine sq ?_;refine rl ?_;refine o1 ?_;refine o1 ?_;refine nl ?_;refine bN rfl (fun h1=>?_) (fun h1=>?_)
 ·refine sq ?_;refine rl ?_;(iterate 3 refine o1 ?_);refine nl ?_;refine rt ?_;have hb9:=Px h1
  have hX:(bU (k:Rat) b (xs.map Fr4.q))=[]:=nK (by rw[List.length_map];exact hb9)
  exact en (.inl rfl) rfl (hG (.cons (.one .nilf) (.cons (bZ _) .nil))) (by decide) (fun h=>by cases h) (by rw[hX,Jk];rfl)
 refine sk ?_;refine sq ?_;refine rl ?_;refine o1 ?_
 refine ca (My (l:=(bU (k:Rat) b (xs.map Fr4.q))) (n:=(bU (k:Rat) b (xs.map Fr4.q)).length) rfl (Ej hk hz hl) (zU hl)) LW ⟨a1 rfl,rfl⟩ (.one (.t (sZ 34 (aQ (cD (bU (k:Rat) b (xs.map Fr4.q))))))) ?_
 refine o1 ?_;refine o1 ?_;refine nl ?_;refine rt ?_;have hE0:(lF b xs.length)=0:=Decidable.byContradiction h1
 exact en (.inl rfl) rfl (hG (.cons (.one (.id rfl)) (.cons (bZ _) .nil))) (by decide) (fun h=>by cases h) (by rw[hE0];rfl)
theorem vB {xs:List Nat}(hx:xs.length≤1099511627776):aD true Tryz.prog 68 [] [.one (.t (sU false xs))] (aM (.one (.t (sU true xs)))):=by
 refine bL Tryz.func68 rfl Tryz.ntmps68 rfl aA rfl fun N w c0 h0=>?_
 refine sq ?_;refine rl ?_;refine o1 ?_;refine nl ?_;refine sq ?_;refine rl ?_;refine o1 ?_;refine nl ?_;refine sq ?_;refine rl ?_;refine o1 ?_;refine o1 ?_
 refine dV (j:=0) aA rfl rfl rfl rfl .nil .fz (Qi _) (Fj _) rfl (by omega) (by omega) ?_
 refine o1 ?_;refine nl ?_;refine rt ?_
 exact en (.inl rfl) rfl (aT (.one (.sl rfl rfl (by rw[Nat.zero_add,Nat.mul_one,List.nil_append,List.take_of_length_le (by simp[gD])]) (by simp[gD])))) (by decide) (fun _=>.inl ⟨rfl,eP xs⟩) (by simp[aM,sU])
theorem Xo {xs ys:List Nat}(hx:xs.length≤1099511627776) (hy:ys.length≤1099511627776):aD true Tryz.prog 48 [] [.one (.t (sU false xs)),.one (.t (sU false ys))] (aM (.one (tv (.bool (decide (xs=ys)))))):=by
 refine bL Tryz.func48 rfl Tryz.ntmps48 rfl aA rfl fun N w c0 h0=>?_
 refine sq ?_;refine rl ?_;refine o1 ?_;refine nl ?_;refine sq ?_;refine sq ?_;refine rl ?_;(iterate 5 refine o1 ?_);refine nl ?_;refine bN rfl (fun h1=>?_) (fun h1=>?_)
 ·refine sq ?_;refine rl ?_;refine o1 ?_;refine nl ?_;refine rt ?_;refine en (.inl rfl) rfl (aT (bZ _)) (by decide) (fun _=>trivial) (congrArg (fun b=>FV.one (tv (.bool b))) ?_)
  exact(decide_eq_false (fun h=>h1 (by rw[h]))).symm
 refine sk ?_;refine sq ?_;refine sq ?_;refine rl ?_;refine o1 ?_;refine nl ?_;refine bl ?_
 refine lp (γ:=Nat) (fun k=>cG [(0,.one (.t (sU false xs))),(1,.one (.t (sU false ys))),(5,.one (tv (.int .i64 ((k:Nat):Int))))]) (fun k=>[].map some) (fun k=>k≤xs.length∧xs.take k=ys.take k) (fun k=>xs.length-k) 0 (⟨Nat.zero_le _,rfl⟩) (aH h0 [] _ _ (by decide) ⟨rfl,rfl,rfl,trivial⟩ rfl) fun k hk=>?_
 refine sq ?_;refine sq ?_;refine rl ?_;(iterate 4 refine o1 ?_);refine nl ?_;refine bN rfl (fun h2=>?_) (fun h2=>?_)
 ·refine sk ?_;refine sq ?_;refine bl ?_;refine sq ?_;refine rd [] (fun i=>[].contains i) mixed ?_
  refine dv 0 ?_;refine dv 1 ?_;refine dv 2 ?_;refine fR 3 ([.v (.int .u32 ((nth xs (k):Nat):Int))]) (kA xs (k:=k) (by omega)) ?_
  refine dv 4 ?_;refine dv 5 ?_;refine dv 6 ?_;refine fR 7 ([.v (.int .u32 ((nth ys (k):Nat):Int))]) (kA ys (k:=k) (by omega)) ?_
  refine dv 8 ?_;refine aO ?_;refine bN rfl (fun h3=>?_) (fun h3=>?_)
  ·refine sq ?_;refine rl ?_;refine o1 ?_;refine nl ?_;refine rt ?_;refine en (.inl rfl) rfl (aT (bZ _)) (by decide) (fun _=>trivial) (congrArg (fun b=>FV.one (tv (.bool b))) ?_)
   exact(decide_eq_false (fun h=>h3 (by rw[h]))).symm
  refine sk ?_;refine rl ?_;(iterate 3 refine o1 ?_);refine nl ?_
  exact⟨k+1,by omega,⟨by omega,Us hk.2 (by omega) (by omega) (by omega)⟩,aH h0 [] _ _ (by decide) ⟨rfl,rfl,rfl,trivial⟩ rfl⟩
 refine ex ?_;refine sq ?_;refine rl ?_;refine o1 ?_;refine nl ?_;refine rt ?_
 refine en (.inl rfl) rfl (aT (bZ _)) (by decide) (fun _=>trivial) (congrArg (fun b=>FV.one (tv (.bool b))) ?_)
 exact(decide_eq_true (by rw[←List.take_of_length_le (i:=k) (l:=xs) (by omega),hk.2,List.take_of_length_le (by omega)])).symm
theorem Ut {a:Fr4}(ha:a.len 1099511627776):aD true Tryz.prog 24 [] [qF a] (aM (rO a)):=by
 refine bL Tryz.func24 rfl Tryz.ntmps24 rfl aA rfl fun N w c0 h0=>?_
 refine sq ?_;refine rl ?_;refine bx 0 ?_;refine al 1 ?_;refine nl ?_;refine sq ?_;refine rd [0,1] (fun i=>[17].contains i) mixed ?_
 refine dv 0 ?_;refine dv 1 ?_;refine aV 2 ?_;refine dv 3 ?_;refine dv 4 ?_;refine aV 5 ?_;refine dv 8 ?_;refine dv 9 ?_;refine aV 10 ?_;refine dv 11 ?_;refine dv 12 ?_;refine aV 13 ?_
 refine iX 2 6 rfl (vB ha.1) Mz ⟨a1 rfl,rfl⟩ ?_;refine df 7 ?_;refine iX 3 14 rfl (vB ha.2) Mz ⟨a1 rfl,rfl⟩ ?_;refine df 15 ?_;refine df 16 ?_;refine dst 17 ?_;refine aO ?_
 refine rt ?_
 exact en (.inl rfl) rfl (aT (.agg (.cons (.id rfl) (.cons (.sl (trs:=aL a.x) rfl rfl (aY _) (aU _)) (.cons (.id rfl) (.cons (.sl (trs:=aL a.y) rfl rfl (aY _) (aU _)) .nil)))))) (by decide) (fun _=>qM a) rfl
theorem AP {a:Fr4}(ha:a.len 1099511627776):aD true Tryz.prog 76 [] [qF a] (aM (rO a)):=by
 refine bL Tryz.func76 rfl Tryz.ntmps76 rfl aA rfl fun N w c0 h0=>?_
 refine sq ?_;refine rl ?_;refine bx 0 ?_;refine al 1 ?_;refine nl ?_;refine sq ?_;refine rd [0,1] (fun i=>[17].contains i) mixed ?_
 refine dv 0 ?_;refine dv 1 ?_;refine aV 2 ?_;refine dv 3 ?_;refine dv 4 ?_;refine aV 5 ?_;refine dv 8 ?_;refine dv 9 ?_;refine aV 10 ?_;refine dv 11 ?_;refine dv 12 ?_;refine aV 13 ?_
 refine iX 2 6 rfl (vB ha.1) Mz ⟨a1 rfl,rfl⟩ ?_;refine df 7 ?_;refine iX 3 14 rfl (vB ha.2) Mz ⟨a1 rfl,rfl⟩ ?_;refine df 15 ?_;refine df 16 ?_;refine dst 17 ?_;refine aO ?_
 refine rt ?_
 exact en (.inl rfl) rfl (aT (.agg (.cons (.id rfl) (.cons (.sl (trs:=aL a.x) rfl rfl (aY _) (aU _)) (.cons (.id rfl) (.cons (.sl (trs:=aL a.y) rfl rfl (aY _) (aU _)) .nil)))))) (by decide) (fun _=>qM a) rfl
theorem AQ {a b:Fr4}(ha:a.len 1099511627776) (hb:b.len 1099511627776):aD true Tryz.prog 16 [] [qF a,qF b] (aM (.one (tv (.bool (decide (a=b)))))):=by
 refine bL Tryz.func16 rfl Tryz.ntmps16 rfl aA rfl fun N w c0 h0=>?_
 refine sq ?_;refine rl ?_;refine bx 0 ?_;refine bx 1 ?_;refine o1 ?_;refine nl ?_;refine sq ?_;refine rl ?_;refine o1 ?_;refine o1 ?_;refine ld ?_;refine o1 ?_;refine o1 ?_;refine ld ?_
 refine o1 ?_;refine o1 ?_;refine WL.splitb (t:=12) rfl (fun h1=>?_) (fun h1=>?_)
 ·refine o1 ?_;refine o1 ?_;refine ld ?_;refine o1 ?_;refine o1 ?_;refine ld ?_;(iterate 3 refine o1 ?_);refine WL.splitb (t:=21) rfl (fun h2=>?_) (fun h2=>?_)
  ·refine o1 ?_;refine o1 ?_;refine ld ?_;refine o1 ?_;refine o1 ?_;refine ld ?_;refine ca (Xo ha.1 hb.1) FD ⟨a1 rfl,a1 rfl,rfl⟩ (.one (tv (.bool (decide (a.x=b.x))))) ?_
   refine o1 ?_;refine o1 ?_;refine WL.split (t:=30) rfl (fun h3=>?_) (fun h3=>?_)
   ·refine o1 ?_;refine o1 ?_;refine ld ?_;refine o1 ?_;refine o1 ?_;refine ld ?_;refine ca (Xo ha.2 hb.2) FD ⟨a1 rfl,a1 rfl,rfl⟩ (.one (tv (.bool (decide (a.y=b.y))))) ?_
    refine o1 ?_;refine o1 ?_;refine nl ?_;refine rt ?_;exact en (.inl rfl) rfl (aT (bZ _)) (by decide) (fun _=>trivial) (congrArg (fun b=>FV.one (tv (.bool b))) (by simp_all [tN]))
   (iterate 7 refine dU ?_);refine o1 ?_;refine o1 ?_;refine nl ?_;refine rt ?_
   exact en (.inl rfl) rfl (aT (bZ _)) (by decide) (fun _=>trivial) (congrArg (fun b=>FV.one (tv (.bool b))) (by simp_all [tN]))
  (iterate 7 refine dU ?_);refine o1 ?_;refine o1 ?_;(iterate 7 refine dU ?_);refine o1 ?_;refine o1 ?_;refine nl ?_;refine rt ?_
  exact en (.inl rfl) rfl (aT (bZ _)) (by decide) (fun _=>trivial) (congrArg (fun b=>FV.one (tv (.bool b))) (by simp_all [tN]))
 (iterate 7 refine dU ?_);refine o1 ?_;refine o1 ?_;(iterate 7 refine dU ?_);refine o1 ?_;refine o1 ?_;(iterate 7 refine dU ?_);refine o1 ?_;refine o1 ?_;refine nl ?_;refine rt ?_
 exact en (.inl rfl) rfl (aT (bZ _)) (by decide) (fun _=>trivial) (congrArg (fun b=>FV.one (tv (.bool b))) (by simp_all [tN]))
theorem Fk {n d:Int}(h1:-9223372036854775808≤n) (h2:n≤9223372036854775807) (h3:-9223372036854775808≤d) (h4:d≤9223372036854775807):aD true Tryz.prog 35 [] [.one (tv (.int .i64 n)),.one (tv (.int .i64 d))] (aM (qO (Rat.divInt n d))):=by
 refine bL Tryz.func35 rfl Tryz.ntmps35 rfl aA rfl fun N w c0 h0=>?_
 have hs:=JJ h1 h2 h3 h4
 have hl:(Fr4.of (Rat.divInt n d)).len 1099511627776:=⟨Nat.le_trans hs.1 (by omega),Nat.le_trans hs.2 (by omega)⟩
 refine sq ?_;refine rl ?_;refine al 0 ?_;refine nl ?_;refine sq ?_;refine rl ?_;refine o1 ?_;refine o1 ?_
 refine ca (JD h1 h2 h3 h4) LX ⟨a1 rfl,a1 rfl,rfl⟩ (.tup [qF (.of (Rat.divInt n d)),.one (tv (.int .i64 (if d=0 then 20 else 0)))]) ?_;(iterate 3 refine o1 ?_);refine al 1 ?_;refine st ?_
 refine o1 ?_;refine nl ?_;refine sq ?_;refine rl ?_;refine ld ?_;refine fK 2 (AP (a:=.of (Rat.divInt n d)) hl) LY ⟨aB rfl,rfl⟩ ?_;refine st ?_;refine nl ?_;refine rt ?_
 exact en (.inl rfl) rfl (aT (.agg (.cons (.id rfl) (.cons (.sl (trs:=aL (dg 4294967296 (Rat.divInt n d).num.natAbs)) rfl rfl (aY _) (aU _)) (.cons (.id rfl) (.cons (.sl (trs:=aL (dg 4294967296 (Rat.divInt n d).den)) rfl rfl (aY _) (aU _)) .nil)))))) (by decide) (fun _=>sY _) rfl
theorem FE {a:Zi}{xs:List Fr4}:aD true Tryz.prog 7 [] [gF a,.one (.t (sQ false xs))] (aM (.one (tv (.bool (tJ a xs))))):=by
 refine bL Tryz.func7 rfl Tryz.ntmps7 rfl aA rfl fun N9 w9 c0 h0=>?_
 refine WP.sln (i:=1) rfl fun hlen=>?_
 refine sq ?_;refine rl ?_;refine bx 0 ?_;refine o1 ?_;refine nl ?_;refine sq ?_;refine sq ?_;refine rl ?_;refine o1 ?_;refine nl ?_;refine bl ?_
 refine lp (γ:=Nat) (fun s=>cG [(1,.one (.t (sQ false xs))),(2,.one (.pt 0 0)),(5,.one (tv (.int .i64 ((s:Nat):Int))))]) (fun s=>[(⟨24,0,[tv (.bool a.s),.t (sU false a.x)]⟩:Ob)].map some) (fun s=>s≤xs.length∧∀j,j<s→hJ (aS xs j)=true) (fun s=>xs.length-s) 0 ⟨Nat.zero_le _,fun j hj=>absurd hj (Nat.not_lt_zero j)⟩ (aH h0 [0] _ _ (by decide) ⟨rfl,rfl,rfl,trivial⟩ ⟨oe rfl rfl,rfl⟩) ?_
 rintro k9 ⟨hk9,hA⟩;refine sq ?_;refine sq ?_;refine rl ?_;(iterate 4 refine o1 ?_);refine nl ?_;refine bN rfl (fun h1=>?_) (fun h1=>?_)
 ·refine sk ?_;refine sq ?_;refine bl ?_;refine sq ?_;refine rl ?_;(iterate 5 refine o1 ?_)
  refine fQ ([sU false (aS xs (k9)).x]) (iC (f:=(Fr4.tr false)) (z:=4) (o:=1) (fun _=>rfl) (fY (by omega)) (Nat.le_of_ble_eq_true rfl) rfl) ?_
  (iterate 3 refine o1 ?_);refine WL.split (t:=20) rfl (fun h2=>?_) (fun h2=>?_)
  ·(iterate 8 refine dU ?_);refine o1 ?_;refine nl ?_;refine lT rfl ?_;refine sq ?_;refine rl ?_;refine o1 ?_;refine nl ?_;refine rt ?_
   have hs9:hJ (aS xs k9)=false:=by simp only[hJ,Bool.and_eq_false_iff,decide_eq_false_iff_not];left;omega
   exact qC (.inl rfl) rfl (Jn (a:=a) (by omega) hs9)
  (iterate 5 refine o1 ?_);refine fQ ([sU false (aS xs (k9)).y]) (iC (f:=(Fr4.tr false)) (z:=4) (o:=3) (fun _=>rfl) (fY (by omega)) (Nat.le_of_ble_eq_true rfl) rfl) ?_
  (iterate 3 refine o1 ?_);refine nl ?_;refine bN rfl (fun h3=>?_) (fun h3=>?_)
  ·refine sq ?_;refine rl ?_;refine o1 ?_;refine nl ?_;refine rt ?_
   have hs9:hJ (aS xs k9)=false:=by simp only[hJ,Bool.and_eq_false_iff,decide_eq_false_iff_not];right;omega
   exact qC (.inl rfl) rfl (Jn (a:=a) (by omega) hs9)
  refine sk ?_;refine rl ?_;refine o1 ?_;refine o1 ?_;refine WL.cast (t:=11) (u':=.int .i64 ((k9+1:Nat):Int)) rfl (aK (by omega)) ?_
  refine o1 ?_;refine nl ?_;have hs9:hJ (aS xs k9)=true:=by simp only[hJ,Bool.and_eq_true,decide_eq_true_eq];exact⟨by omega,by omega⟩
  exact⟨k9+1,by omega,⟨by omega,JK (f:=fun j=>hJ (aS xs j)) hA hs9⟩,aH h0 [0] _ _ (by decide) ⟨rfl,rfl,rfl,trivial⟩ ⟨oe rfl rfl,rfl⟩⟩
 refine ex ?_;refine sq ?_;refine rl ?_;refine o1 ?_;refine ld ?_;(iterate 3 refine o1 ?_);refine WL.split (t:=34) rfl (fun h4=>?_) (fun h4=>?_)
 ·(iterate 5 refine o1 ?_);refine nl ?_;refine rt ?_;have hy9:=Em (a:=a) (k:=k9) hA (by omega)
  exact qC (.inl rfl) rfl (by rw[←hy9,decide_eq_true (show a.x.length≤6 by omega),Bool.true_and];exact decide_eq_decide.2 (by omega))
 (iterate 3 refine dU ?_);refine o1 ?_;refine o1 ?_;refine nl ?_;refine rt ?_;have hy9:=Em (a:=a) (k:=k9) hA (by omega)
 exact qC (.inl rfl) rfl (by rw[←hy9,decide_eq_false (show¬a.x.length≤6 by omega),Bool.false_and])
theorem Na {a:Zi}(hl:a.x.length≤1000000):aD true Tryz.prog 11 [] [gF a] (aM (gO a)):=by
 refine bL Tryz.func11 rfl Tryz.ntmps11 rfl aA rfl fun N9 w9 c0 h0=>?_
 refine sq ?_;refine rl ?_;refine bx 0 ?_;refine al 1 ?_;refine nl ?_;refine sq ?_;refine rl ?_;refine o1 ?_;refine ld ?_;refine o1 ?_;refine al 2 ?_;refine st ?_;refine nl ?_
 refine sq ?_;refine rl ?_;refine o1 ?_;refine ld ?_;refine o1 ?_;refine ld ?_;refine dV (j:=3) aA rfl rfl rfl rfl .nil .fz (Qi _) (Fj _) rfl (by omega) (by omega) ?_
 refine o1 ?_;refine st ?_;refine nl ?_;refine sq ?_;refine rl ?_;refine ld ?_;refine st ?_;refine nl ?_;refine rt ?_
 exact en (.inl rfl) rfl (aT (.agg (.cons (.id rfl) (.cons (.sl (trs:=aL a.x) rfl rfl (by rw[Nat.zero_add];exact aY _) (by rw[Nat.zero_add];exact aU _)) .nil)))) (by decide) (fun _=>⟨trivial,.inl ⟨rfl,eP _⟩,trivial⟩) (by rw[Nat.zero_add];rfl)
theorem FF {xs:List Fr4}(hs:∀x∈xs,x.len 1099511627776) (hl:xs.length≤12):aD false Tryz.prog 9 [] [.one (.t (sQ false xs))] (aM (.one (.t (sQ false xs)))):=by
 refine bL Tryz.func9 rfl Tryz.ntmps9 rfl aA rfl fun N9 w9 c0 h0=>?_
 refine sq ?_;refine rl ?_;refine o1 ?_;refine nl ?_;refine sq ?_;refine rl ?_;refine o1 ?_;refine nl ?_;refine sq ?_;refine sq ?_;refine rl ?_;refine o1 ?_;refine nl ?_;refine bl ?_
 refine lp (γ:=Nat) (fun s=>cG [(0,.one (.t (sQ false xs))),(3,.one (.sl 0 0 (s))),(4,.one (tv (.int .i64 ((s:Nat):Int))))]) (fun s=>[(⟨50,4,((xs.take s).flatMap (Fr4.tr false)).map .t⟩:Ob)].map some) (fun s=>s≤xs.length) (fun s=>xs.length-s) 0 (Nat.zero_le _) ((nr (i:=3) 0 50 4 rfl rfl rfl rfl).trans (aH h0 [0] _ _ (by decide) ⟨rfl,rfl,rfl,trivial⟩ ⟨bI rfl,rfl⟩)) ?_
 rintro k9 hk9;refine sq ?_;refine sq ?_;refine rl ?_;(iterate 4 refine o1 ?_);refine nl ?_;refine bN rfl (fun h1=>?_) (fun h1=>?_)
 ·refine sk ?_;refine sq ?_;refine bl ?_;refine rl ?_;(iterate 4 refine o1 ?_)
  refine fQ ((Fr4.tr false) (aS xs (k9))) (iC (f:=(Fr4.tr false)) (z:=4) (o:=0) (fun _=>rfl) (fY (by omega)) (Nat.le_of_ble_eq_true rfl) rfl) ?_
  refine ca (Ut (a:=(aS xs (k9))) (hs _ (bJ (by omega)))) LZ ⟨aB rfl,rfl⟩ (qF (aS xs (k9))) ?_
  refine bs 1 ?_
  refine dV (j:=2) aA rfl rfl rfl rfl (.sl rfl (by rw[List.length_map,bO (f:=Fr4.tr false) (z:=4) (fun _=>rfl),List.length_take,Nat.min_eq_left (by omega)])) (.sl rfl rfl rfl) rfl rfl rfl (by omega) (by omega) ?_
  refine o1 ?_;refine nl ?_;refine rl ?_;refine o1 ?_;refine o1 ?_;refine WL.cast (t:=10) (u':=.int .i64 ((k9+1:Nat):Int)) rfl (aK (by omega)) ?_
  refine o1 ?_;refine nl ?_
  have hst:((xs.take k9).flatMap (Fr4.tr false)).map AV.t++((aS xs (k9)).tr false).map .t=((xs.take (k9+1)).flatMap (Fr4.tr false)).map .t:=by rw[eV,List.take_add_one,fY (by omega)];rfl
  exact⟨k9+1,by omega,by omega,aH h0 [2] _ _ (by decide) ⟨rfl,rfl,rfl,trivial⟩ ⟨bI (congrArg (fun l=>some (⟨50,4,l⟩:Ob)) hst),rfl⟩⟩
 refine ex ?_;refine sq ?_;have hk0:k9=xs.length:=by omega
 have htk:xs.take k9=xs:=List.take_of_length_le (by omega)
 refine WP.sub (fz (i:=3) (k:=0) (t:=50) (z:=4) (n:=k9) (l:=(xs.take k9).flatMap (Fr4.tr false)) rfl rfl rfl (by rw[bO (f:=Fr4.tr false) (z:=4) (fun _=>rfl),htk,hk0])) ?_
 refine rl ?_;refine o1 ?_;refine o1 ?_;refine nl ?_;refine rt ?_;exact en (.inl rfl) rfl (aT (.one (.id rfl))) (by decide) (fun h=>by cases h) (by rw[htk,hk0];rfl)
theorem Uu {k:Int}(h:(dg 4294967296 k.natAbs).length≤1000000):aD true Tryz.prog 22 [] [kF k] (aM (.one (tv (.bool true)))):=by
 have h1:=vC (a:=.of k) (k:=k) (Zg.of (Nat.le_trans h (by omega)))
 rw[show cQ (Zi.of k).s (Zi.of k).x=true from oY k]at h1
 exact h1
theorem FG {a:Zi}{k:Int}(ha:Zn a k):aD true Tryz.prog 19 [] [gF a,gF a] (aM (.one (tv (.int .i64 0)))):=by
 have h:=Eo ha ha
 rw[Int.sub_self]at h
 exact h
theorem Fl {a b:Fr4}(h:a=b) (hb:b.len 1099511627776):aD true Tryz.prog 16 [] [qF a,qF b] (aM (.one (tv (.bool true)))):=by
 subst h
 have h1:=AQ hb hb
 rwa[decide_eq_true rfl]at h1
theorem AS {l:List Int}(hs:∀k∈l,(dg 4294967296 k.natAbs).length≤1000000):aD true Tryz.prog 15 [] [.one (.t (sZ 24 (aQ l))),.one (.t (sZ 34 (aQ l)))] (aM (.one (tv (.bool true)))):=by
 refine bL Tryz.func15 rfl Tryz.ntmps15 rfl aA rfl fun N9 w9 c0 h0=>?_
 refine WP.sln (i:=0) rfl fun hlen=>?_
 refine sq ?_;refine rl ?_;refine o1 ?_;refine nl ?_;refine sq ?_;refine sq ?_;refine rl ?_;(iterate 5 refine o1 ?_);refine nl ?_;refine bN rfl (fun h1=>?_) (fun h1=>?_)
 ·exact absurd rfl h1
 refine sk ?_;refine sq ?_;refine sq ?_;refine rl ?_;refine o1 ?_;refine nl ?_;refine bl ?_
 refine lp (γ:=Nat) (fun s=>cG [(0,.one (.t (sZ 24 (aQ l)))),(1,.one (.t (sZ 34 (aQ l)))),(5,.one (tv (.int .i64 ((s:Nat):Int))))]) (fun s=>([]:List Ob).map some) (fun s=>s≤(aQ l).length) (fun s=>(aQ l).length-s) 0 (Nat.zero_le _) (aH h0 [] _ _ (by decide) ⟨rfl,rfl,rfl,trivial⟩ rfl) ?_
 rintro k9 hk9;refine sq ?_;refine sq ?_;refine rl ?_;(iterate 4 refine o1 ?_);refine nl ?_;refine bN rfl (fun h2=>?_) (fun h2=>?_)
 ·refine sk ?_;refine sq ?_;refine bl ?_;refine sq ?_;refine rd [] (fun i=>[].contains i) mixed ?_
  refine dv 0 ?_;refine dv 1 ?_;refine dv 2 ?_;refine fR 3 ((cH false (.of (cC l (k9))))) (Ct (l:=l) (k:=k9) (by rw[cX]at*;omega)) ?_
  refine aI 4 rfl (Uu (k:=(cC l (k9))) (hs _ (kL (by rw[cX]at*;omega)))) Nb ⟨aB rfl,rfl⟩ (.one (tv (.bool true))) ?_
  refine df 5 ?_;refine df 6 ?_;refine dv 7 ?_;refine dv 8 ?_;refine dv 9 ?_;refine fR 10 ((cH false (.of (cC l (k9))))) (Ct (l:=l) (k:=k9) (by rw[cX]at*;omega)) ?_
  refine dv 12 ?_;refine dv 13 ?_;refine dv 14 ?_;refine fR 15 ((cH false (.of (cC l (k9))))) (Ct (l:=l) (k:=k9) (by rw[cX]at*;omega)) ?_
  refine aI 11 rfl (Na (a:=.of (cC l (k9))) (Nat.le_trans (hs _ (kL (by rw[cX]at*;omega))) (by omega))) Uv ⟨aB rfl,rfl⟩ (kF (cC l (k9))) ?_
  refine aI 16 rfl (FG (Zn.of (k:=(cC l (k9))) (Nat.le_trans (hs _ (kL (by rw[cX]at*;omega))) (by omega)))) Uf ⟨aB rfl,aB rfl,rfl⟩ (.one (tv (.int .i64 0))) ?_
  refine df 17 ?_;refine df 18 ?_;refine aO ?_;refine bN rfl (fun h3=>?_) (fun h3=>?_)
  ·exact absurd rfl h3
  refine sk ?_;refine rl ?_;refine o1 ?_;refine o1 ?_;refine WL.cast (t:=16) (u':=.int .i64 ((k9+1:Nat):Int)) rfl (aK (by omega)) ?_
  refine o1 ?_;refine nl ?_;exact⟨k9+1,by omega,by omega,aH h0 [] _ _ (by decide) ⟨rfl,rfl,rfl,trivial⟩ rfl⟩
 refine ex ?_;refine sq ?_;refine rl ?_;refine o1 ?_;refine nl ?_;refine rt ?_;exact qC (.inl rfl) rfl (rfl)
theorem Uw {k:Int}(h:kJ k=true):aD true Tryz.prog 79 [] [kF k] (aM (.tup [.one (tv (.int .i64 k)),.one (tv (.bool true))])):=by
 have h2:-9223372036854775808≤k∧k≤9223372036854775807:=of_decide_eq_true h
 have h1:=Dx (Zn.of (k:=k) (Nat.le_trans (lG h2.1 h2.2) (by omega)))
 rw[h,if_pos rfl]at h1
 exact h1
theorem yD {l:List Int}(hs:∀k∈l,kJ k=true):aD true Tryz.prog 37 [] [.one (.t (sZ 24 (aQ l))),.one (.t (.s false 2 1 l.length (iT l)))] (aM (.one (tv (.bool true)))):=by
 refine bL Tryz.func37 rfl Tryz.ntmps37 rfl aA rfl fun N9 w9 c0 h0=>?_
 refine WP.sln (i:=0) rfl fun hlen=>?_
 have hzl:(aQ l).length=l.length:=cX l
 refine sq ?_;refine rl ?_;refine o1 ?_;refine nl ?_;refine sq ?_;refine sq ?_;refine rl ?_;(iterate 5 refine o1 ?_);refine nl ?_;refine bN rfl (fun h1=>?_) (fun h1=>?_)
 ·exact absurd (by rw[hzl]) h1
 refine sk ?_;refine sq ?_;refine sq ?_;refine rl ?_;refine o1 ?_;refine nl ?_;refine bl ?_
 refine lp (γ:=Nat) (fun s=>cG [(0,.one (.t (sZ 24 (aQ l)))),(1,.one (.t (.s false 2 1 l.length (iT l)))),(5,.one (tv (.int .i64 ((s:Nat):Int))))]) (fun s=>([]:List Ob).map some) (fun s=>s≤(aQ l).length) (fun s=>(aQ l).length-s) 0 (Nat.zero_le _) (aH h0 [] _ _ (by decide) ⟨rfl,rfl,rfl,trivial⟩ rfl) ?_
 rintro k9 hk9;refine sq ?_;refine sq ?_;refine rl ?_;(iterate 4 refine o1 ?_);refine nl ?_;refine bN rfl (fun h2=>?_) (fun h2=>?_)
 ·refine sk ?_;refine sq ?_;refine bl ?_;refine sq ?_;refine rl ?_;(iterate 3 refine o1 ?_)
  refine fQ ((cH false (.of (cC l (k9))))) (Ct (l:=l) (k:=k9) (by rw[cX]at*;omega)) ?_
  refine ca (Uw (k:=(cC l (k9))) (hs _ (kL (by rw[cX]at*;omega)))) EJ ⟨aB rfl,rfl⟩ (.tup [.one (tv (.int .i64 (cC l (k9)))),.one (tv (.bool true))]) ?_
  (iterate 5 refine o1 ?_);refine nl ?_;refine sq ?_;refine rl ?_;(iterate 7 refine o1 ?_);refine fQ ([.v (.int .i64 (cC l (k9)))]) (JB (l:=l) (k:=k9) (by omega)) ?_
  refine o1 ?_;refine o1 ?_;refine nl ?_;refine bN rfl (fun h3=>?_) (fun h3=>?_)
  ·exact absurd rfl h3
  refine sk ?_;refine rl ?_;refine o1 ?_;refine o1 ?_;refine WL.cast (t:=18) (u':=.int .i64 ((k9+1:Nat):Int)) rfl (aK (by omega)) ?_
  refine o1 ?_;refine nl ?_;exact⟨k9+1,by omega,by omega,aH h0 [] _ _ (by decide) ⟨rfl,rfl,rfl,trivial⟩ rfl⟩
 refine ex ?_;refine sq ?_;refine rl ?_;refine o1 ?_;refine nl ?_;refine rt ?_;exact qC (.inl rfl) rfl (rfl)
theorem jK {k b:Int}{ws:List Rat}{l:List Int}(hk:k.natAbs<4294967296^6) (h:cD (bU (k:Rat) b ws)=l) (hE:lF b ws.length=0) (hs:∀q∈ws,q.num.natAbs<4294967296^7∧q.den<4294967296^7) (hl:ws.length≤12):aD false Tryz.prog 13 [] [kF k,.one (tv (.int .i64 b)),.one (.t (sQ false (eD ws)))] (aM (.tup [.one (.t (.s true 24 2 l.length ((aQ l).flatMap (cH true)))),.one (tv (.int .i64 0))])):=by
 have hz:∀q∈ws,Sz 7 q:=fun q hq=>⟨cB (by omega) (hs q hq).1,cB (by omega) (hs q hq).2⟩
 have hsz:iV 6 k:=cB (by omega) hk
 have h1:=yB (a:=.of k) (k:=k) (b:=b) (xs:=eD ws) (Zn.of (Nat.le_trans hsz (by omega))) hsz (qD hz (by omega)) (tE hz) (by rw[gN];exact hl)
 rw[uU,gN,hE,h]at h1
 unfold xZ at h1
 rw[cX]at h1
 exact h1
theorem Fm:aD true Tryz.prog 8 [] [] (aM (.one (tv (.bool true)))):=by
 refine bL Tryz.func8 rfl Tryz.ntmps8 rfl aA rfl fun N9 w9 c0 h0=>?_
 refine sq ?_;refine rl ?_;refine o1 ?_;refine nl ?_;refine sq ?_;refine rl ?_
 refine ca (Fk (n:=1) (d:=1) (by omega) (by omega) (by omega) (by omega)) Fn ⟨a1 rfl,a1 rfl,rfl⟩ (qF (.of (Rat.divInt 1 1))) ?_
 refine ca (Fk (n:=2) (d:=1) (by omega) (by omega) (by omega) (by omega)) Fn ⟨a1 rfl,a1 rfl,rfl⟩ (qF (.of (Rat.divInt 2 1))) ?_
 refine ca (Fk (n:=4) (d:=1) (by omega) (by omega) (by omega) (by omega)) Fn ⟨a1 rfl,a1 rfl,rfl⟩ (qF (.of (Rat.divInt 4 1))) ?_
 refine al 0 ?_;refine al 1 ?_;refine al 2 ?_;(iterate 3 refine st ?_);refine nl ?_
 refine md (γ:=Unit) (fun _=>cG [(1,.one (.pt 0 0)),(2,.one (.pt 1 0)),(3,.one (.pt 2 0)),(4,.one (.t (.s false 24 2 ([34,33,33]:List Int).length ((aQ [34,33,33]).flatMap (cH true))))),(5,.one (tv (.int .i64 ((0:Nat):Int))))]) (fun _=>([⟨48,0,((Fr4.of (Rat.divInt 1 1)).tr false).map .t⟩,⟨48,0,((Fr4.of (Rat.divInt 2 1)).tr false).map .t⟩,⟨48,0,((Fr4.of (Rat.divInt 4 1)).tr false).map .t⟩]:List Ob).map some) (fun _=>True) ?_ fun _ _=>?_
 ·refine rd [0,1,2] (fun i=>[10].contains i) mixed ?_
  refine aV 1 ?_;refine aV 2 ?_;refine aV 3 ?_;refine WO.two (i:=0) (j:=4) (by kernel_rfl) ?_ ?_
  ·refine cU 0 rfl (jS (n:=100) (by omega) (by omega)) jT ⟨a1 rfl,rfl⟩ (kF 100) ?_
   refine tC (key:=3) 4 (by kernel_rfl) rfl rfl aA rfl ⟨rfl,rfl,rfl,trivial⟩ ?_
   refine vZ (i:=22) (k:=3) (t:=48) (t':=50) (z:=4) (n:=3) (l:=(eD [(Rat.divInt 1 1),(Rat.divInt 1 1),(Rat.divInt 1 1)]).flatMap (Fr4.tr false)) rfl rfl rfl rfl (.one .sl) (by rfl) (by rfl) ?_
   refine aI 5 rfl (jK (k:=100) (b:=0) (ws:=[(Rat.divInt 1 1),(Rat.divInt 1 1),(Rat.divInt 1 1)]) (l:=[34,33,33]) (by decide) (by decide+kernel) (by decide+kernel) (by decide+kernel) (by decide)) pM ⟨aB rfl,a1 rfl,a1 rfl,rfl⟩ (.tup [.one (.t (.s false 24 2 ([34,33,33]:List Int).length ((aQ [34,33,33]).flatMap (cH true)))),.one (tv (.int .i64 0))]) ?_
   refine df 6 ?_;refine df 7 ?_;refine df 8 ?_;refine dE 9 (by kernel_rfl) rfl rfl aA rfl (by trivial) ?_ (fun h=>by first | rfl | cases h)
   refine dE 10 (by kernel_rfl) rfl rfl aA rfl (by trivial) ?_ (fun h=>by first | rfl | cases h)
   refine aO ?_;exact⟨(),trivial,aH h0 [0,1,2] _ _ (by decide) ⟨rfl,rfl,rfl,rfl,rfl,trivial⟩ ⟨oe rfl rfl,oe rfl rfl,oe rfl rfl,rfl⟩⟩
  refine Nc (key:=3) 4 rfl rfl ⟨rfl,rfl,rfl,trivial⟩ ?_
  refine vZ (i:=22) (k:=3) (t:=48) (t':=50) (z:=4) (n:=3) (l:=(eD [(Rat.divInt 1 1),(Rat.divInt 1 1),(Rat.divInt 1 1)]).flatMap (Fr4.tr false)) rfl rfl rfl rfl (.one .sl) (by rfl) (by rfl) ?_
  refine aI 0 rfl (jS (n:=100) (by omega) (by omega)) jT ⟨a1 rfl,rfl⟩ (kF 100) ?_
  refine aI 5 rfl (jK (k:=100) (b:=0) (ws:=[(Rat.divInt 1 1),(Rat.divInt 1 1),(Rat.divInt 1 1)]) (l:=[34,33,33]) (by decide) (by decide+kernel) (by decide+kernel) (by decide+kernel) (by decide)) pM ⟨aB rfl,a1 rfl,a1 rfl,rfl⟩ (.tup [.one (.t (.s false 24 2 ([34,33,33]:List Int).length ((aQ [34,33,33]).flatMap (cH true)))),.one (tv (.int .i64 0))]) ?_
  refine df 6 ?_;refine df 7 ?_;refine df 8 ?_;refine dE 9 (by kernel_rfl) rfl rfl aA rfl (by trivial) ?_ (fun h=>by first | rfl | cases h)
  refine dE 10 (by kernel_rfl) rfl rfl aA rfl (by trivial) ?_ (fun h=>by first | rfl | cases h)
  refine aO ?_;exact⟨(),trivial,aH h0 [0,1,2] _ _ (by decide) ⟨rfl,rfl,rfl,rfl,rfl,trivial⟩ ⟨oe rfl rfl,oe rfl rfl,oe rfl rfl,rfl⟩⟩
 refine md (γ:=Unit) (fun _=>cG [(1,.one (.pt 0 0)),(2,.one (.pt 1 0)),(3,.one (.pt 2 0)),(4,.one (.t (.s false 24 2 ([34,33,33]:List Int).length ((aQ [34,33,33]).flatMap (cH true))))),(5,.one (tv (.int .i64 ((0:Nat):Int)))),(6,.one (.t (.s false 24 2 ([1,1,0]:List Int).length ((aQ [1,1,0]).flatMap (cH true)))))]) (fun _=>([⟨48,0,((Fr4.of (Rat.divInt 1 1)).tr false).map .t⟩,⟨48,0,((Fr4.of (Rat.divInt 2 1)).tr false).map .t⟩,⟨48,0,((Fr4.of (Rat.divInt 4 1)).tr false).map .t⟩]:List Ob).map some) (fun _=>True) ?_ fun _ _=>?_
 ·refine rd [0,1,2] (fun i=>[10].contains i) mixed ?_
  refine aV 1 ?_;refine aV 2 ?_;refine aV 3 ?_;refine WO.two (i:=0) (j:=4) (by kernel_rfl) ?_ ?_
  ·refine cU 0 rfl (jS (n:=2) (by omega) (by omega)) jT ⟨a1 rfl,rfl⟩ (kF 2) ?_
   refine tC (key:=3) 4 (by kernel_rfl) rfl rfl aA rfl ⟨rfl,rfl,rfl,trivial⟩ ?_
   refine vZ (i:=31) (k:=3) (t:=48) (t':=50) (z:=4) (n:=3) (l:=(eD [(Rat.divInt 1 1),(Rat.divInt 1 1),(Rat.divInt 1 1)]).flatMap (Fr4.tr false)) rfl rfl rfl rfl (.one .sl) (by rfl) (by rfl) ?_
   refine aI 5 rfl (jK (k:=2) (b:=0) (ws:=[(Rat.divInt 1 1),(Rat.divInt 1 1),(Rat.divInt 1 1)]) (l:=[1,1,0]) (by decide) (by decide+kernel) (by decide+kernel) (by decide+kernel) (by decide)) pM ⟨aB rfl,a1 rfl,a1 rfl,rfl⟩ (.tup [.one (.t (.s false 24 2 ([1,1,0]:List Int).length ((aQ [1,1,0]).flatMap (cH true)))),.one (tv (.int .i64 0))]) ?_
   refine df 6 ?_;refine df 7 ?_;refine df 8 ?_;refine dE 9 (by kernel_rfl) rfl rfl aA rfl (by trivial) ?_ (fun h=>by first | rfl | cases h)
   refine dE 10 (by kernel_rfl) rfl rfl aA rfl (by trivial) ?_ (fun h=>by first | rfl | cases h)
   refine aO ?_;exact⟨(),trivial,aH h0 [0,1,2] _ _ (by decide) ⟨rfl,rfl,rfl,rfl,rfl,rfl,trivial⟩ ⟨oe rfl rfl,oe rfl rfl,oe rfl rfl,rfl⟩⟩
  refine Nc (key:=3) 4 rfl rfl ⟨rfl,rfl,rfl,trivial⟩ ?_
  refine vZ (i:=31) (k:=3) (t:=48) (t':=50) (z:=4) (n:=3) (l:=(eD [(Rat.divInt 1 1),(Rat.divInt 1 1),(Rat.divInt 1 1)]).flatMap (Fr4.tr false)) rfl rfl rfl rfl (.one .sl) (by rfl) (by rfl) ?_
  refine aI 0 rfl (jS (n:=2) (by omega) (by omega)) jT ⟨a1 rfl,rfl⟩ (kF 2) ?_
  refine aI 5 rfl (jK (k:=2) (b:=0) (ws:=[(Rat.divInt 1 1),(Rat.divInt 1 1),(Rat.divInt 1 1)]) (l:=[1,1,0]) (by decide) (by decide+kernel) (by decide+kernel) (by decide+kernel) (by decide)) pM ⟨aB rfl,a1 rfl,a1 rfl,rfl⟩ (.tup [.one (.t (.s false 24 2 ([1,1,0]:List Int).length ((aQ [1,1,0]).flatMap (cH true)))),.one (tv (.int .i64 0))]) ?_
  refine df 6 ?_;refine df 7 ?_;refine df 8 ?_;refine dE 9 (by kernel_rfl) rfl rfl aA rfl (by trivial) ?_ (fun h=>by first | rfl | cases h)
  refine dE 10 (by kernel_rfl) rfl rfl aA rfl (by trivial) ?_ (fun h=>by first | rfl | cases h)
  refine aO ?_;exact⟨(),trivial,aH h0 [0,1,2] _ _ (by decide) ⟨rfl,rfl,rfl,rfl,rfl,rfl,trivial⟩ ⟨oe rfl rfl,oe rfl rfl,oe rfl rfl,rfl⟩⟩
 refine md (γ:=Unit) (fun _=>cG [(1,.one (.pt 0 0)),(2,.one (.pt 1 0)),(3,.one (.pt 2 0)),(4,.one (.t (.s false 24 2 ([34,33,33]:List Int).length ((aQ [34,33,33]).flatMap (cH true))))),(5,.one (tv (.int .i64 ((0:Nat):Int)))),(6,.one (.t (.s false 24 2 ([1,1,0]:List Int).length ((aQ [1,1,0]).flatMap (cH true))))),(8,.one (.t (.s false 24 2 ([-34,-33,-33]:List Int).length ((aQ [-34,-33,-33]).flatMap (cH true)))))]) (fun _=>([⟨48,0,((Fr4.of (Rat.divInt 1 1)).tr false).map .t⟩,⟨48,0,((Fr4.of (Rat.divInt 2 1)).tr false).map .t⟩,⟨48,0,((Fr4.of (Rat.divInt 4 1)).tr false).map .t⟩]:List Ob).map some) (fun _=>True) ?_ fun _ _=>?_
 ·refine rd [0,1,2] (fun i=>[10].contains i) mixed ?_
  refine aV 1 ?_;refine aV 2 ?_;refine aV 3 ?_;refine WO.two (i:=0) (j:=4) (by kernel_rfl) ?_ ?_
  ·refine cU 0 rfl (jS (n:=(-100)) (by omega) (by omega)) jT ⟨a1 rfl,rfl⟩ (kF (-100)) ?_
   refine tC (key:=3) 4 (by kernel_rfl) rfl rfl aA rfl ⟨rfl,rfl,rfl,trivial⟩ ?_
   refine vZ (i:=40) (k:=3) (t:=48) (t':=50) (z:=4) (n:=3) (l:=(eD [(Rat.divInt 1 1),(Rat.divInt 1 1),(Rat.divInt 1 1)]).flatMap (Fr4.tr false)) rfl rfl rfl rfl (.one .sl) (by rfl) (by rfl) ?_
   refine aI 5 rfl (jK (k:=(-100)) (b:=0) (ws:=[(Rat.divInt 1 1),(Rat.divInt 1 1),(Rat.divInt 1 1)]) (l:=[-34,-33,-33]) (by decide) (by decide+kernel) (by decide+kernel) (by decide+kernel) (by decide)) pM ⟨aB rfl,a1 rfl,a1 rfl,rfl⟩ (.tup [.one (.t (.s false 24 2 ([-34,-33,-33]:List Int).length ((aQ [-34,-33,-33]).flatMap (cH true)))),.one (tv (.int .i64 0))]) ?_
   refine df 6 ?_;refine df 7 ?_;refine df 8 ?_;refine dE 9 (by kernel_rfl) rfl rfl aA rfl (by trivial) ?_ (fun h=>by first | rfl | cases h)
   refine dE 10 (by kernel_rfl) rfl rfl aA rfl (by trivial) ?_ (fun h=>by first | rfl | cases h)
   refine aO ?_;exact⟨(),trivial,aH h0 [0,1,2] _ _ (by decide) ⟨rfl,rfl,rfl,rfl,rfl,rfl,rfl,trivial⟩ ⟨oe rfl rfl,oe rfl rfl,oe rfl rfl,rfl⟩⟩
  refine Nc (key:=3) 4 rfl rfl ⟨rfl,rfl,rfl,trivial⟩ ?_
  refine vZ (i:=40) (k:=3) (t:=48) (t':=50) (z:=4) (n:=3) (l:=(eD [(Rat.divInt 1 1),(Rat.divInt 1 1),(Rat.divInt 1 1)]).flatMap (Fr4.tr false)) rfl rfl rfl rfl (.one .sl) (by rfl) (by rfl) ?_
  refine aI 0 rfl (jS (n:=(-100)) (by omega) (by omega)) jT ⟨a1 rfl,rfl⟩ (kF (-100)) ?_
  refine aI 5 rfl (jK (k:=(-100)) (b:=0) (ws:=[(Rat.divInt 1 1),(Rat.divInt 1 1),(Rat.divInt 1 1)]) (l:=[-34,-33,-33]) (by decide) (by decide+kernel) (by decide+kernel) (by decide+kernel) (by decide)) pM ⟨aB rfl,a1 rfl,a1 rfl,rfl⟩ (.tup [.one (.t (.s false 24 2 ([-34,-33,-33]:List Int).length ((aQ [-34,-33,-33]).flatMap (cH true)))),.one (tv (.int .i64 0))]) ?_
  refine df 6 ?_;refine df 7 ?_;refine df 8 ?_;refine dE 9 (by kernel_rfl) rfl rfl aA rfl (by trivial) ?_ (fun h=>by first | rfl | cases h)
  refine dE 10 (by kernel_rfl) rfl rfl aA rfl (by trivial) ?_ (fun h=>by first | rfl | cases h)
  refine aO ?_;exact⟨(),trivial,aH h0 [0,1,2] _ _ (by decide) ⟨rfl,rfl,rfl,rfl,rfl,rfl,rfl,trivial⟩ ⟨oe rfl rfl,oe rfl rfl,oe rfl rfl,rfl⟩⟩
 refine sq ?_;refine rl ?_;refine ca (jS (n:=5) (by omega) (by omega)) jT ⟨a1 rfl,rfl⟩ (kF 5) ?_
 refine ca (Fk (n:=0) (d:=1) (by omega) (by omega) (by omega) (by omega)) Fn ⟨a1 rfl,a1 rfl,rfl⟩ (qF (.of (Rat.divInt 0 1))) ?_
 refine ca (Fk (n:=(-3)) (d:=1) (by omega) (by omega) (by omega) (by omega)) Fn ⟨a1 rfl,a1 rfl,rfl⟩ (qF (.of (Rat.divInt (-3) 1))) ?_
 refine bs 3 ?_;refine WL.sub (EL (i:=48) (k:=3) (t:=48) (z:=4) (n:=2) (l:=(eD [(Rat.divInt 0 1),(Rat.divInt (-3) 1)]).flatMap (Fr4.tr false)) 50 rfl rfl rfl rfl (.one .sl)) ?_
 refine ca (jK (k:=5) (b:=1) (ws:=[(Rat.divInt 0 1),(Rat.divInt (-3) 1)]) (l:=[0,5]) (by decide) (by decide+kernel) (by decide+kernel) (by decide+kernel) (by decide)) pM ⟨aB rfl,a1 rfl,a1 rfl,rfl⟩ (.tup [.one (.t (.s false 24 2 ([0,5]:List Int).length ((aQ [0,5]).flatMap (cH true)))),.one (tv (.int .i64 0))]) ?_
 (iterate 5 refine o1 ?_);refine nl ?_
 refine md (γ:=Unit) (fun _=>cG [(4,.one (.t (.s false 24 2 ([34,33,33]:List Int).length ((aQ [34,33,33]).flatMap (cH true))))),(5,.one (tv (.int .i64 ((0:Nat):Int)))),(6,.one (.t (.s false 24 2 ([1,1,0]:List Int).length ((aQ [1,1,0]).flatMap (cH true))))),(8,.one (.t (.s false 24 2 ([-34,-33,-33]:List Int).length ((aQ [-34,-33,-33]).flatMap (cH true))))),(10,.one (.t (.s false 24 2 ([0,5]:List Int).length ((aQ [0,5]).flatMap (cH true))))),(12,.one (.t (.s false 24 2 ([1,3,6]:List Int).length ((aQ [1,3,6]).flatMap (cH true)))))]) (fun _=>([]:List Ob).map some) (fun _=>True) ?_ fun _ _=>?_
 ·refine rd [0,1,2] (fun i=>[10].contains i) mixed ?_
  refine aV 1 ?_;refine aV 2 ?_;refine aV 3 ?_;refine WO.two (i:=0) (j:=4) (by kernel_rfl) ?_ ?_
  ·refine cU 0 rfl (jS (n:=10) (by omega) (by omega)) jT ⟨a1 rfl,rfl⟩ (kF 10) ?_
   refine tC (key:=4) 4 (by kernel_rfl) rfl rfl aA rfl ⟨rfl,rfl,rfl,trivial⟩ ?_
   refine vZ (i:=57) (k:=4) (t:=48) (t':=50) (z:=4) (n:=3) (l:=(eD [(Rat.divInt 1 1),(Rat.divInt 2 1),(Rat.divInt 4 1)]).flatMap (Fr4.tr false)) rfl rfl rfl rfl (.one .sl) (by rfl) (by rfl) ?_
   refine aI 5 rfl (jK (k:=10) (b:=0) (ws:=[(Rat.divInt 1 1),(Rat.divInt 2 1),(Rat.divInt 4 1)]) (l:=[1,3,6]) (by decide) (by decide+kernel) (by decide+kernel) (by decide+kernel) (by decide)) pM ⟨aB rfl,a1 rfl,a1 rfl,rfl⟩ (.tup [.one (.t (.s false 24 2 ([1,3,6]:List Int).length ((aQ [1,3,6]).flatMap (cH true)))),.one (tv (.int .i64 0))]) ?_
   refine df 6 ?_;refine df 7 ?_;refine df 8 ?_;refine dE 9 (by kernel_rfl) rfl rfl aA rfl (by trivial) ?_ (fun h=>by first | rfl | cases h)
   refine dE 10 (by kernel_rfl) rfl rfl aA rfl (by trivial) ?_ (fun h=>by first | rfl | cases h)
   refine aO ?_;exact⟨(),trivial,aH h0 [] _ _ (by decide) ⟨rfl,rfl,rfl,rfl,rfl,rfl,trivial⟩ rfl⟩
  refine Nc (key:=4) 4 rfl rfl ⟨rfl,rfl,rfl,trivial⟩ ?_
  refine vZ (i:=57) (k:=4) (t:=48) (t':=50) (z:=4) (n:=3) (l:=(eD [(Rat.divInt 1 1),(Rat.divInt 2 1),(Rat.divInt 4 1)]).flatMap (Fr4.tr false)) rfl rfl rfl rfl (.one .sl) (by rfl) (by rfl) ?_
  refine aI 0 rfl (jS (n:=10) (by omega) (by omega)) jT ⟨a1 rfl,rfl⟩ (kF 10) ?_
  refine aI 5 rfl (jK (k:=10) (b:=0) (ws:=[(Rat.divInt 1 1),(Rat.divInt 2 1),(Rat.divInt 4 1)]) (l:=[1,3,6]) (by decide) (by decide+kernel) (by decide+kernel) (by decide+kernel) (by decide)) pM ⟨aB rfl,a1 rfl,a1 rfl,rfl⟩ (.tup [.one (.t (.s false 24 2 ([1,3,6]:List Int).length ((aQ [1,3,6]).flatMap (cH true)))),.one (tv (.int .i64 0))]) ?_
  refine df 6 ?_;refine df 7 ?_;refine df 8 ?_;refine dE 9 (by kernel_rfl) rfl rfl aA rfl (by trivial) ?_ (fun h=>by first | rfl | cases h)
  refine dE 10 (by kernel_rfl) rfl rfl aA rfl (by trivial) ?_ (fun h=>by first | rfl | cases h)
  refine aO ?_;exact⟨(),trivial,aH h0 [] _ _ (by decide) ⟨rfl,rfl,rfl,rfl,rfl,rfl,trivial⟩ rfl⟩
 refine sq ?_;refine WP.sub (Pz (i:=4) (t':=24) rfl rfl (rL (aQ [34,33,33]))) ?_;refine WP.sub (Pz (i:=6) (t':=24) rfl rfl (rL (aQ [1,1,0]))) ?_
 refine WP.sub (Pz (i:=8) (t':=24) rfl rfl (rL (aQ [-34,-33,-33]))) ?_;refine WP.sub (Pz (i:=10) (t':=24) rfl rfl (rL (aQ [0,5]))) ?_
 refine WP.sub (Pz (i:=12) (t':=24) rfl rfl (rL (aQ [1,3,6]))) ?_;refine rl ?_;(iterate 3 refine o1 ?_);refine WL.split (t:=63) rfl (fun h1=>?_) (fun h1=>?_)
 ·refine o1 ?_;refine bs 0 ?_;refine WL.sub (fz (i:=65) (k:=0) (t:=2) (z:=1) (n:=3) (l:=iT [34,33,33]) rfl rfl rfl rfl) ?_
  refine ca (yD (l:=[34,33,33]) (by decide)) Fo ⟨a1 rfl,a1 rfl,rfl⟩ (.one (tv (.bool true))) ?_
  (iterate 3 refine o1 ?_);refine bs 1 ?_;refine WL.sub (fz (i:=70) (k:=1) (t:=2) (z:=1) (n:=3) (l:=iT [1,1,0]) rfl rfl rfl rfl) ?_
  refine ca (yD (l:=[1,1,0]) (by decide)) Fo ⟨a1 rfl,a1 rfl,rfl⟩ (.one (tv (.bool true))) ?_
  (iterate 3 refine o1 ?_);refine bs 2 ?_;refine WL.sub (fz (i:=75) (k:=2) (t:=2) (z:=1) (n:=3) (l:=iT [(-34),(-33),(-33)]) rfl rfl rfl rfl) ?_
  refine ca (yD (l:=[-34,-33,-33]) (by decide)) Fo ⟨a1 rfl,a1 rfl,rfl⟩ (.one (tv (.bool true))) ?_
  (iterate 3 refine o1 ?_);refine bs 3 ?_;refine WL.sub (fz (i:=80) (k:=3) (t:=2) (z:=1) (n:=2) (l:=iT [0,5]) rfl rfl rfl rfl) ?_
  refine ca (yD (l:=[0,5]) (by decide)) Fo ⟨a1 rfl,a1 rfl,rfl⟩ (.one (tv (.bool true))) ?_
  (iterate 3 refine o1 ?_);refine bs 4 ?_;refine WL.sub (fz (i:=85) (k:=4) (t:=2) (z:=1) (n:=3) (l:=iT [1,3,6]) rfl rfl rfl rfl) ?_
  refine ca (yD (l:=[1,3,6]) (by decide)) Fo ⟨a1 rfl,a1 rfl,rfl⟩ (.one (tv (.bool true))) ?_
  refine o1 ?_;refine o1 ?_;refine nl ?_;refine rt ?_;exact qC (.inl rfl) rfl (rfl)
 exact absurd rfl h1
theorem Jw {τ:List Nat}{k k2:Nat}{l:List Tr}{p n:Nat}(h:τ[k]? =some k2):renL τ ((l.map AV.t).set p (.sl k 0 n))=some ((l.map AV.t).set p (.sl k2 0 n)):=by
 induction l generalizing p with
 | nil=>simp[renL]
 | cons x l ih=>
  cases p with
  | zero=>simp[renL,eX,h,Xp]
  | succ p=>
   simp only[List.map_cons,List.set_cons_succ,renL,ih,eX]
theorem Dd {a:Zi}{b:Int}{xs:List Fr4}(ha0:Lim 4294967296 a.x) (hx0:∀x∈xs,LimF x):aD true Tryz.prog 3 [] [gF a,.one (tv (.int .i64 b)),.one (.t (sQ false xs))] (aM (.one (tv (.bool true)))):=by
 refine bL Tryz.func3 rfl Tryz.ntmps3 rfl aA rfl fun N9 w9 c0 h0=>?_
 refine sq ?_;refine rl ?_;refine bx 0 ?_;refine o1 ?_;refine nl ?_;refine sq ?_;refine sq ?_;refine rl ?_;refine ld ?_;refine o1 ?_
 refine ca (FE (a:=a) (xs:=xs)) NP ⟨aB rfl,a1 rfl,rfl⟩ (.one (tv (.bool (tJ a xs)))) ?_;refine WL.splitb (t:=23) rfl (fun h1=>?_) (fun h1=>?_)
 ·refine o1 ?_;refine nl ?_;refine gJ rfl ?_;refine sk ?_;refine sq ?_;obtain⟨hs6,ha6,hl12⟩:=Ud h1
  have hO:=fun x (h:x∈xs)=>Ue (hx0 x h) (hs6 x h)
  have hx:∀x∈xs,x.ok:=fun x h=>(hO x h).1
  have hz:∀x∈xs,Sz 7 x.q:=fun x h=>(hO x h).2.1
  have hzn:=JA ha0 ha6
  have hsz:=ER ha0 ha6
  have hXz:=Ej (k:=zv a) (b:=b) hsz hz hl12
  have hXn:(bU ((zv a:Int):Rat) b (xs.map Fr4.q)).length≤12:=zU hl12
  have hWn:(cD (bU ((zv a:Int):Rat) b (xs.map Fr4.q))).length≤12:=Nat.le_trans Eh hXn
  have hws:∀k∈(cD (bU ((zv a:Int):Rat) b (xs.map Fr4.q))),(dg 4294967296 k.natAbs).length≤1000000:=fun k hk=>Nat.le_trans (Ji hXz k hk) (by omega)
  have hzl:(aQ (cD (bU ((zv a:Int):Rat) b (xs.map Fr4.q)))).length=(cD (bU ((zv a:Int):Rat) b (xs.map Fr4.q))).length:=cX _
  have hXl:∀q∈(bU ((zv a:Int):Rat) b (xs.map Fr4.q)),(Fr4.of q).len 1099511627776:=fun q hq=>⟨Nat.le_trans (hXz q hq).1 (by omega),Nat.le_trans (hXz q hq).2 (by omega)⟩
  refine rl ?_;refine o1 ?_;refine ca (FF (fun x h=>(hO x h).2.2) hl12) NQ ⟨a1 rfl,rfl⟩ (.one (.t (sQ false xs))) ?_
  refine o1 ?_;refine nl ?_;refine sq ?_;refine rl ?_;refine ld ?_;refine ca (Na (a:=a) (by omega)) Uv ⟨aB rfl,rfl⟩ (gF a) ?_
  refine o1 ?_;refine o1 ?_
  refine ca (Fi hzn hsz hx hz hl12) MA ⟨aB rfl,a1 rfl,a1 rfl,rfl⟩ (.tup [.one (.t (sZ 34 (aQ (cD (bU ((zv a:Int):Rat) b (xs.map Fr4.q)))))),.one (tv (.int .i64 (lF b xs.length)))]) ?_
  (iterate 5 refine o1 ?_);refine nl ?_;refine sq ?_;refine rl ?_;refine ld ?_;refine ca (Na (a:=a) (by omega)) Uv ⟨aB rfl,rfl⟩ (gF a) ?_
  refine o1 ?_;refine o1 ?_
  refine ca (Qf hzn hsz hx hz hl12) FC ⟨aB rfl,a1 rfl,a1 rfl,rfl⟩ (.tup [.one (.t (.s false 50 4 (bU ((zv a:Int):Rat) b (xs.map Fr4.q)).length ((bU ((zv a:Int):Rat) b (xs.map Fr4.q)).flatMap cA))),.one (tv (.int .i64 (lF b xs.length)))]) ?_
  (iterate 5 refine o1 ?_);refine nl ?_;refine sq ?_;refine sq ?_;refine rl ?_;refine o1 ?_;refine nl ?_;refine bl ?_
  refine lp (γ:=Nat) (fun s=>cG [(1,.one (tv (.int .i64 b))),(2,.one (.t (sQ false xs))),(3,.one (.pt 0 0)),(7,.one (.t (sQ false xs))),(8,.one (.t (sZ 34 (aQ (cD (bU ((zv a:Int):Rat) b (xs.map Fr4.q))))))),(9,.one (tv (.int .i64 (lF b xs.length)))),(10,.one (.t (.s false 50 4 (bU ((zv a:Int):Rat) b (xs.map Fr4.q)).length ((bU ((zv a:Int):Rat) b (xs.map Fr4.q)).flatMap cA)))),(12,.one (tv (.int .i64 ((s:Nat):Int))))]) (fun s=>[(⟨24,0,[tv (.bool a.s),.t (sU false a.x)]⟩:Ob)].map some) (fun s=>s≤2) (fun s=>2-s) 0 (Nat.zero_le _) (aH h0 [0] _ _ (by decide) ⟨rfl,rfl,rfl,rfl,rfl,rfl,rfl,rfl,trivial⟩ ⟨oe rfl rfl,rfl⟩) ?_
  rintro t9 ht9;refine sq ?_;refine sq ?_;refine rl ?_;refine o1 ?_;refine o1 ?_;refine nl ?_;refine bN rfl (fun h2=>?_) (fun h2=>?_)
  ·refine sk ?_;refine sq ?_;refine bl ?_;refine sq ?_;refine rl ?_;refine ld ?_;refine o1 ?_;refine o1 ?_;refine fK 1 (yB hzn hsz hx hz hl12) pM ⟨aB rfl,a1 rfl,a1 rfl,rfl⟩ ?_
   (iterate 5 refine o1 ?_);refine nl ?_;refine sq ?_;refine rl ?_;refine ld ?_;refine o1 ?_;refine o1 ?_;refine fK 2 (EC hzn hsz hx hz hl12) EQ ⟨aB rfl,a1 rfl,a1 rfl,rfl⟩ ?_
   (iterate 3 refine o1 ?_);refine al 3 ?_;refine st ?_;refine o1 ?_;refine nl ?_;refine sq ?_;refine sq ?_;refine rl ?_;(iterate 4 refine o1 ?_)
   refine WL.split (t:=65) rfl (fun h3=>?_) (fun h3=>?_)
   ·exact absurd rfl h3
   (iterate 5 refine o1 ?_);refine WL.split (t:=70) rfl (fun h4=>?_) (fun h4=>?_)
   ·exact absurd rfl h4
   refine o1 ?_;refine o1 ?_
   refine ca (AS (l:=(cD (bU ((zv a:Int):Rat) b (xs.map Fr4.q)))) hws) MB ⟨tG rfl (.sr rfl rfl (Pq _) (bO (eI true) _) (rL _)),a1 rfl,rfl⟩ (.one (tv (.bool true))) ?_
   (iterate 4 refine o1 ?_);refine ld ?_;(iterate 5 refine o1 ?_);refine nl ?_;refine bN rfl (fun h5=>?_) (fun h5=>?_)
   ·exact absurd rfl h5
   refine sk ?_;refine sq ?_;refine sq ?_;refine rl ?_;refine o1 ?_;refine nl ?_;refine bl ?_
   refine lp (γ:=Nat×List Tr) (fun s=>cG [(1,.one (tv (.int .i64 b))),(2,.one (.t (sQ false xs))),(3,.one (.pt 0 0)),(7,.one (.t (sQ false xs))),(8,.one (.t (sZ 34 (aQ (cD (bU ((zv a:Int):Rat) b (xs.map Fr4.q))))))),(9,.one (tv (.int .i64 (lF b xs.length)))),(10,.one (.t (.s false 50 4 (bU ((zv a:Int):Rat) b (xs.map Fr4.q)).length ((bU ((zv a:Int):Rat) b (xs.map Fr4.q)).flatMap cA)))),(12,.one (tv (.int .i64 ((t9:Nat):Int)))),(13,.one (.sl 1 0 ((aQ (cD (bU ((zv a:Int):Rat) b (xs.map Fr4.q)))).length))),(15,.one (.pt 2 0)),(17,.one (tv (.int .i64 ((s.1:Nat):Int))))]) (fun s=>[(⟨24,0,[tv (.bool a.s),.t (sU false a.x)]⟩:Ob),⟨24,2,eA (aQ (cD (bU ((zv a:Int):Rat) b (xs.map Fr4.q))))⟩,⟨42,0,[.sl 3 0 ((bU ((zv a:Int):Rat) b (xs.map Fr4.q)).length)]⟩,⟨48,4,s.2.map .t⟩].map some) (fun s=>s.1≤(bU ((zv a:Int):Rat) b (xs.map Fr4.q)).length∧Sp4 s.2 (bU ((zv a:Int):Rat) b (xs.map Fr4.q)) s.1) (fun s=>(bU ((zv a:Int):Rat) b (xs.map Fr4.q)).length-s.1) (0,(bU ((zv a:Int):Rat) b (xs.map Fr4.q)).flatMap cA) ⟨Nat.zero_le _,Sp4.start _⟩ (aH h0 [0,1,3,2] _ _ (by decide) ⟨rfl,rfl,rfl,rfl,rfl,rfl,rfl,rfl,rfl,rfl,rfl,trivial⟩ ⟨oe rfl rfl,bI rfl,oe rfl rfl,bI rfl,rfl⟩) ?_
   rintro⟨i8,trs⟩ ⟨hi8,hS4⟩;dsimp only at hi8 hS4⊢;refine sq ?_;refine sq ?_;refine rl ?_;(iterate 4 refine o1 ?_);refine nl ?_;refine bN rfl (fun h6=>?_) (fun h6=>?_)
   ·refine sk ?_;refine sq ?_;refine bl ?_;refine sq ?_;refine sq ?_;refine rd [0,2,3] (fun i=>[].contains i) mixed ?_
    refine dv 0 ?_;refine aV 1 ?_;refine dv 2 ?_;refine dv 3 ?_;refine Mu 4 (us:=(cA (aP (bU ((zv a:Int):Rat) b (xs.map Fr4.q)) i8)).map .t) (hS4.rd (by omega)) ?_
    refine dv 5 ?_;refine dv 6 ?_;refine dv 7 ?_
    refine fR 8 ((cA (aP (bU ((zv a:Int):Rat) b (xs.map Fr4.q)) (i8)))) (Xm (l:=(bU ((zv a:Int):Rat) b (xs.map Fr4.q))) (k:=i8) (by omega)) ?_
    refine aI 9 rfl (Fl (a:=.of (aP (bU ((zv a:Int):Rat) b (xs.map Fr4.q)) i8)) (b:=.of (aP (bU ((zv a:Int):Rat) b (xs.map Fr4.q)) i8)) rfl (hXl _ (dT (by omega)))) FH ⟨aB rfl,aB rfl,rfl⟩ (.one (tv (.bool true))) ?_
    refine df 10 ?_;refine aO ?_;refine gJ rfl ?_;refine sk ?_;refine rl ?_;refine o1 ?_;refine ld ?_;(iterate 3 refine o1 ?_)
    refine qE (us:=Jo.map .t) (hS4.put (by omega)) (hS4.le (by omega)) ?_
    refine nl ?_;refine rl ?_;refine o1 ?_;refine o1 ?_;refine WL.cast (t:=89) (u':=.int .i64 ((i8+1:Nat):Int)) rfl (aK (by omega)) ?_
    refine o1 ?_;refine nl ?_
    exact⟨(i8+1,cS trs (0+i8*4) Jo),by dsimp only;omega,⟨by dsimp only;omega,hS4.next (by omega)⟩,aH h0 [0,1,2,3] _ _ (by decide) ⟨rfl,rfl,rfl,rfl,rfl,rfl,rfl,rfl,rfl,rfl,rfl,trivial⟩ ⟨oe rfl rfl,bI rfl,oe rfl rfl,bI rfl,rfl⟩⟩
   refine ex ?_;refine sq ?_;refine rl ?_;refine o1 ?_;refine nl ?_;refine bl ?_
   refine lp (γ:=Nat×List Zi) (fun s=>cG [(1,.one (tv (.int .i64 b))),(2,.one (.t (sQ false xs))),(3,.one (.pt 0 0)),(7,.one (.t (sQ false xs))),(8,.one (.t (sZ 34 (aQ (cD (bU ((zv a:Int):Rat) b (xs.map Fr4.q))))))),(9,.one (tv (.int .i64 (lF b xs.length)))),(10,.one (.t (.s false 50 4 (bU ((zv a:Int):Rat) b (xs.map Fr4.q)).length ((bU ((zv a:Int):Rat) b (xs.map Fr4.q)).flatMap cA)))),(12,.one (tv (.int .i64 ((t9:Nat):Int)))),(13,.one (.sl 1 0 ((aQ (cD (bU ((zv a:Int):Rat) b (xs.map Fr4.q)))).length))),(18,.one (tv (.int .i64 ((s.1:Nat):Int))))]) (fun s=>[(⟨24,0,[tv (.bool a.s),.t (sU false a.x)]⟩:Ob),⟨24,2,eA s.2⟩].map some) (fun s=>s.1≤(aQ (cD (bU ((zv a:Int):Rat) b (xs.map Fr4.q)))).length∧s.2.length=(aQ (cD (bU ((zv a:Int):Rat) b (xs.map Fr4.q)))).length∧∀j,s.1≤j→fS s.2 j=fS (aQ (cD (bU ((zv a:Int):Rat) b (xs.map Fr4.q)))) j) (fun s=>(aQ (cD (bU ((zv a:Int):Rat) b (xs.map Fr4.q)))).length-s.1) (0,(aQ (cD (bU ((zv a:Int):Rat) b (xs.map Fr4.q))))) ⟨Nat.zero_le _,rfl,fun _ _=>rfl⟩ (aH h0 [0,1] _ _ (by decide) ⟨rfl,rfl,rfl,rfl,rfl,rfl,rfl,rfl,rfl,rfl,trivial⟩ ⟨oe rfl rfl,bI rfl,rfl⟩) ?_
   rintro⟨i7,ws⟩ ⟨hi7,hwl,hwj⟩;dsimp only at hi7 hwl hwj⊢;refine sq ?_;refine sq ?_;refine rl ?_;(iterate 4 refine o1 ?_);refine nl ?_
   refine bN rfl (fun h7=>?_) (fun h7=>?_)
   ·refine sk ?_;refine sq ?_;refine bl ?_;refine sq ?_;obtain⟨z,hZ⟩:∃z,fS ws i7=z:=⟨_,rfl⟩
    have hi6:i7<ws.length:=by omega
    have hzx:z.x.length≤1000000:=by rw[←hZ,hwj i7 (Nat.le_refl _),nL (by omega)];exact hws _ (kL (by omega))
    refine WP.sub (EK (j:=1) (key:=2) (e:=24) (ws:=ws) (i:=i7) (z:=z) rfl rfl hi6 hZ) ?_;refine rl ?_;refine o1 ?_;refine nl ?_;refine bl ?_
    refine lp (γ:=Nat×List Nat) (fun s=>cG [(1,.one (tv (.int .i64 b))),(2,.one (.t (sQ false xs))),(3,.one (.pt 0 0)),(7,.one (.t (sQ false xs))),(8,.one (.t (sZ 34 (aQ (cD (bU ((zv a:Int):Rat) b (xs.map Fr4.q))))))),(9,.one (tv (.int .i64 (lF b xs.length)))),(10,.one (.t (.s false 50 4 (bU ((zv a:Int):Rat) b (xs.map Fr4.q)).length ((bU ((zv a:Int):Rat) b (xs.map Fr4.q)).flatMap cA)))),(12,.one (tv (.int .i64 ((t9:Nat):Int)))),(13,.one (.sl 1 0 ((aQ (cD (bU ((zv a:Int):Rat) b (xs.map Fr4.q)))).length))),(18,.one (tv (.int .i64 ((i7:Nat):Int)))),(19,.one (tv (.int .i64 ((s.1:Nat):Int))))]) (fun s=>[(⟨24,0,[tv (.bool a.s),.t (sU false a.x)]⟩:Ob),⟨24,2,(eA ws).set (0+i7*2+1) (.sl 2 0 z.x.length)⟩,⟨51,1,(aL s.2).map .t⟩].map some) (fun s=>s.1≤z.x.length∧s.2.length=z.x.length) (fun s=>z.x.length-s.1) (0,z.x) ⟨Nat.zero_le _,rfl⟩ (aH h0 [0,1,2] _ _ (by decide) ⟨rfl,rfl,rfl,rfl,rfl,rfl,rfl,rfl,rfl,rfl,rfl,trivial⟩ ⟨oe rfl rfl,oe (Jw (by rfl)) rfl,bI rfl,rfl⟩) ?_
    rintro⟨k6,ys⟩ ⟨hk6,hyl⟩;dsimp only at hk6 hyl⊢;refine sq ?_;refine sq ?_;refine rl ?_;(iterate 5 refine o1 ?_);refine Jg (Jp hi6) ?_;refine o1 ?_;refine o1 ?_
    refine nl ?_;refine bN rfl (fun h8=>?_) (fun h8=>?_)
    ·refine sk ?_;refine sq ?_;refine bl ?_;refine rl ?_;(iterate 4 refine o1 ?_);refine Jg (Jp hi6) ?_;refine o1 ?_;refine o1 ?_
     refine qE (Aa ys (k:=k6) (v:=77) (by omega)) (Fp ys (by omega)) ?_
     refine nl ?_;refine rl ?_;refine o1 ?_;refine o1 ?_;refine WL.cast (t:=121) (u':=.int .i64 ((k6+1:Nat):Int)) rfl (aK (by omega)) ?_
     refine o1 ?_;refine nl ?_
     exact⟨(k6+1,ys.set k6 77),by dsimp only;omega,⟨by dsimp only;omega,by dsimp only;rw[List.length_set];exact hyl⟩,aH h0 [0,1,2] _ _ (by decide) ⟨rfl,rfl,rfl,rfl,rfl,rfl,rfl,rfl,rfl,rfl,rfl,trivial⟩ ⟨oe rfl rfl,oe (Jw (by rfl)) rfl,bI rfl,rfl⟩⟩
    refine ex ?_;refine WP.sub (LQ (j:=1) (k1:=2) (e:=24) (ws:=ws) (i:=i7) (z:=⟨z.s,ys⟩) rfl hi6 (by rw[hZ]) (by rw[hyl];rfl) rfl) ?_
    refine rl ?_;refine o1 ?_;refine o1 ?_;refine WL.cast (t:=111) (u':=.int .i64 ((i7+1:Nat):Int)) rfl (aK (by omega)) ?_
    refine o1 ?_;refine nl ?_
    exact⟨(i7+1,ws.set i7 ⟨z.s,ys⟩),by dsimp only;omega,⟨by dsimp only;omega,by dsimp only;rw[List.length_set];exact hwl,fun j hj=>(Qb (by dsimp only at hj;omega)).trans (hwj j (by dsimp only at hj;omega))⟩,aH h0 [0,1] _ _ (by decide) ⟨rfl,rfl,rfl,rfl,rfl,rfl,rfl,rfl,rfl,rfl,trivial⟩ ⟨oe rfl rfl,bI rfl,rfl⟩⟩
   refine ex ?_;refine rl ?_;refine o1 ?_;refine o1 ?_;refine WL.cast (t:=47) (u':=.int .i64 ((t9+1:Nat):Int)) rfl (aK (by omega)) ?_
   refine o1 ?_;refine nl ?_;exact⟨t9+1,by omega,by omega,aH h0 [0] _ _ (by decide) ⟨rfl,rfl,rfl,rfl,rfl,rfl,rfl,rfl,trivial⟩ ⟨oe rfl rfl,rfl⟩⟩
  refine ex ?_;refine sq ?_;refine sq ?_;refine rl ?_;refine o1 ?_;refine nl ?_;refine bl ?_
  refine lp (γ:=Nat) (fun s=>cG [(2,.one (.t (sQ false xs))),(7,.one (.t (sQ false xs))),(20,.one (tv (.int .i64 ((s:Nat):Int))))]) (fun s=>([]:List Ob).map some) (fun s=>s≤xs.length) (fun s=>xs.length-s) 0 (Nat.zero_le _) (aH h0 [] _ _ (by decide) ⟨rfl,rfl,rfl,trivial⟩ rfl) ?_
  rintro k5 hk5;refine sq ?_;refine sq ?_;refine rl ?_;(iterate 4 refine o1 ?_);refine nl ?_;refine bN rfl (fun h9=>?_) (fun h9=>?_)
  ·refine sk ?_;refine sq ?_;refine bl ?_;refine sq ?_;refine rd [] (fun i=>[].contains i) mixed ?_
   refine dv 0 ?_;refine dv 1 ?_;refine dv 2 ?_
   refine fR 3 ((Fr4.tr false) (aS xs (k5))) (iC (f:=(Fr4.tr false)) (z:=4) (o:=0) (fun _=>rfl) (fY (by omega)) (Nat.le_of_ble_eq_true rfl) rfl) ?_
   refine dv 4 ?_;refine dv 5 ?_;refine dv 6 ?_
   refine fR 7 ((Fr4.tr false) (aS xs (k5))) (iC (f:=(Fr4.tr false)) (z:=4) (o:=0) (fun _=>rfl) (fY (by omega)) (Nat.le_of_ble_eq_true rfl) rfl) ?_
   refine aI 8 rfl (Fl (a:=aS xs (k5)) (b:=aS xs (k5)) rfl (hO _ (bJ (by omega))).2.2) FH ⟨aB rfl,aB rfl,rfl⟩ (.one (tv (.bool true))) ?_
   refine df 9 ?_;refine aO ?_;refine gJ rfl ?_;refine sk ?_;refine rl ?_;refine o1 ?_;refine o1 ?_
   refine WL.cast (t:=134) (u':=.int .i64 ((k5+1:Nat):Int)) rfl (aK (by omega)) ?_
   refine o1 ?_;refine nl ?_;exact⟨k5+1,by omega,by omega,aH h0 [] _ _ (by decide) ⟨rfl,rfl,rfl,trivial⟩ rfl⟩
  refine ex ?_;refine sq ?_;refine rl ?_;refine ca (Fm) KX rfl (.one (tv (.bool true))) ?_;refine o1 ?_;refine nl ?_;refine rt ?_;exact qC (.inl rfl) rfl (rfl)
 refine o1 ?_;refine nl ?_;refine lT rfl ?_;refine sq ?_;refine rl ?_;refine ca (Fm) KX rfl (.one (tv (.bool true))) ?_;refine o1 ?_;refine nl ?_;refine rt ?_
 exact qC (.inl rfl) rfl (rfl)
end Go.Proofs.YthmgbcdidlkpoaaGreat
namespace Go.Proofs.YthmgbcdidlkpoaaGreat
open Go Go.ChangeShapes Go.WideShapes Go.ChangeAt Go.RowKit
theorem FI:Tryz.prog.cellsOf 24=2:=by kernel_rfl
theorem AT:Tryz.prog.cellsOf 4=1:=by kernel_rfl
theorem FJ:Tryz.prog.cellsOf 51=1:=by kernel_rfl
theorem Ux:Tryz.prog.cellsOf 22=1:=by kernel_rfl
theorem Dc:Reads Tryz.prog 24 2 (fun l=>∃a:Zi,Lim 4294967296 a.x∧l=cH false a):=by
 have h1:=AJ Tryz.underlying4 AT
 have h2:=Ub Tryz.underlying22 Tryz.underlying51 Ux FJ rfl
 have h3:=Bq Tryz.underlying24 FI (.cons rfl h1 (.cons rfl h2 .nil))
 exact(AK h3).mono fun l ⟨s,xs,h4,h5⟩=>⟨⟨s,xs⟩,h4,h5⟩
theorem Jx {W:World}{N:Nat→Prop}:∀{l:List Tr}{us:List Value},FRL W N l us→ARL W N [] (l.map .t) us
 | [],us,h=>by simpa[FRL,ARL]using h
 | x::l,u::us,h=>by
  simp only[FRL]at h
  simp only[List.map_cons,ARL,AR]
  exact⟨h.1,Jx h.2⟩
 | _::_,[],h=>by simp only[FRL]at h
theorem CP {W:World}{l:List Tr}{cs:Array Value}(h:FRL W (vW W) l (Value.agg cs).cells.toList):bQ W (vW W) [] (.agg (l.map .t)) (.agg cs):=⟨cs.toList,by simp,Jx (by simpa[Value.cells]using h)⟩
theorem Om {W:World}{y:Tr}{u:Value}(hu:u.cells.toList=[u]) (h:FRL W (vW W) [y] u.cells.toList):bQ W (vW W) [] (.one (.t y)) u:=by
 rw[hu]at h
 simp only[FRL,and_true]at h
 simpa only[bQ,AR]using h
theorem FK:Tryz.prog.cellsOf 48=4:=by kernel_rfl
theorem AU:Tryz.prog.cellsOf 25=1:=by kernel_rfl
theorem FL:Reads Tryz.prog 48 4 (fun l=>∃a:Fr4,LimF a∧l=a.tr false):=
 (Bq Tryz.underlying48 FK (.cons rfl Dc (.cons rfl Dc .nil))).mono fun l ⟨a,b,h1,⟨z,h2,h3⟩,b',c',h4,⟨y,h5,h6⟩,h7⟩=>⟨⟨z.s,z.x,y.s,y.x⟩,⟨h2,h5⟩,by rw[h1,h3,h4,h6,h7];rfl⟩
theorem Yt:Reads Tryz.prog 25 1 (fun l=>∃xs:List Fr4,(∀x∈xs,LimF x)∧l=[sQ false xs]):=by
 have h:=Ek Tryz.underlying25 AU (by omega) FL
 refine⟨h.1,fun H enc w fuel cs x hx=>?_⟩
 obtain⟨l,⟨rows,h1,rfl⟩,h3,h4⟩:=h.2 H enc w fuel cs x hx
 obtain⟨xs,e1,e2,e3⟩:=zV (Fr4.tr false) (fun a:Fr4=>LimF a) (rows:=rows) fun r hr=>(h1 r hr).1
 refine⟨_,⟨xs,e1,rfl⟩,rfl,?_⟩
 rw[e2,e3]at h4
 cases cs with
 | nil=>simp only[FRL]at h4
 | cons v cs=>
  simp only[sQ,FRL,FR]at h4⊢
  exact h4
theorem AW:Tryz.prog.cellsOf 3=1:=by kernel_rfl
theorem Ys:Reads Tryz.prog 3 1 (fun l=>∃n:Int,(-9223372036854775808≤n∧n≤9223372036854775807)∧l=[.v (.int .i64 n)]):=
 (Py Tryz.underlying3 AW).mono fun l ⟨n,h1,h2,h3⟩=>⟨n,⟨h2,h3⟩,h1⟩
end Go.Proofs.YthmgbcdidlkpoaaGreat
