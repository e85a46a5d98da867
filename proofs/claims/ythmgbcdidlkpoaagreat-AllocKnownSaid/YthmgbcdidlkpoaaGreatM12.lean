/- Part 12 of a proof: R1 to K1. -/
import Derived.Test.YthmgbcdidlkpoaaGreatM11
import Derived.Test.YthmgbcdidlkpoaaGreatM9
import Derived.Test.YthmgbcdidlkpoaaGreatM10
import Derived.Test.YthmgbcdidlkpoaaGreatM6
set_option maxRecDepth 100000
set_option linter.unusedVariables false
set_option linter.unusedSimpArgs false
namespace Go.Proofs.YthmgbcdidlkpoaaGreat
open Go Go.RowKit
theorem Bo {a:Fr4}{p:Rat}(ha:Qn a p):aD false Tryz.prog 59 [] [qF a] (aO (kF (fl p))):=by
 refine bP Tryz.func59 rfl Tryz.ntmps59 rfl aA rfl fun N9 w9 c0 h0=>?_
 refine sq ?_;refine rl ?_;refine bx 0 ?_;refine al 1 ?_;refine nl ?_;refine sq ?_;refine sq ?_;refine rl ?_;refine ld ?_
 refine ca (Gk ha) Zp ⟨aB rfl,rfl⟩ (.one (tv (.bool (dD a.s a.x a.t a.y)))) ?_;refine WL.splitb (t:=7) rfl (fun h1=>?_) (fun h1=>?_)
 ·refine o1 ?_;refine nl ?_;refine eZ rfl ?_;refine sk ?_;refine sq ?_;obtain rfl:=(ha.right h1).symm
  have hd0:(p.den:Int)≠0:=by have:=p.den_pos;omega
  refine rl ?_;refine o1 ?_;refine ld ?_;refine o1 ?_;refine ld ?_
  refine ca (nM (eP ha.sz) (dB ha.sz) hd0) Gp ⟨aB rfl,aB rfl,rfl⟩ (.tup [kF (p.num.fdiv (p.den:Int)),kF (p.num.fmod (p.den:Int)),.one (tv (.int .i64 0))]) ?_
  (iterate 4 refine o1 ?_);refine al 2 ?_;refine al 3 ?_;refine st ?_;refine st ?_;refine o1 ?_;refine nl ?_;refine sq ?_;refine rl ?_;refine ld ?_;refine st ?_;refine nl ?_;refine rt ?_
  exact en (.inl rfl) rfl (aW (.agg (.cons (.id rfl) (.cons (.id rfl) .nil)))) (by decide) (fun h=>by cases h) (congrArg kF (rB p))
 refine o1 ?_;refine nl ?_;refine kM rfl ?_;refine sq ?_;refine rl ?_;refine o1 ?_;refine st ?_;refine nl ?_;refine rt ?_;have hq9:=ha.wrong h1
 subst hq9;exact en (.inl rfl) rfl (aW (.agg (.cons (.id rfl) (.cons .nilf .nil)))) (by decide) (fun h=>by cases h) (by rw[show fl 0=0 from uS 0];exact wH)
theorem sV (k:Int):Rat.divInt k 1=(k:Rat):=by
 have h:=qK k 1 (by omega)
 rwa[show((1:Int):Rat)=1 from rfl,Rat.mul_one]at h
theorem Gv {a:Zi}{k:Int}(ha:Zn a k):aD false Tryz.prog 38 [] [gF a] (aO (qF (.of (k:Rat)))):=by
 refine bP Tryz.func38 rfl Tryz.ntmps38 rfl aA rfl fun N9 w9 c0 h0=>?_
 refine sq ?_;refine rl ?_;refine bx 0 ?_;refine al 1 ?_;refine nl ?_;refine sq ?_;refine rd [0,1] (fun i=>[8].contains i) mixed ?_
 refine aX 0 ?_;refine WO.two (i:=1) (j:=6) (by kernel_rfl) ?_ ?_
 ·refine cY 1 rfl (jW (n:=1) (by omega) (by omega)) mQ ⟨a1 rfl,rfl⟩ (kF 1) ?_
  refine WO.two (i:=2) (j:=6) (by kernel_rfl) ?_ ?_
  ·refine cY 2 rfl (gG ha (Zn.of (k:=1) (by decide))) kD ⟨aB rfl,aB rfl,rfl⟩ (.tup [qF (.of (Rat.divInt k 1)),.one (tv (.int .i64 (if(1:Int)=0 then 20 else 0)))]) ?_
   refine df 3 ?_;refine df 4 ?_;refine df 5 ?_;refine eQ (key:=2) 6 (by kernel_rfl) rfl rfl aA rfl ⟨rfl,rfl,trivial⟩ ?_
   refine aZ 7 (by kernel_rfl) rfl rfl aA rfl rfl rfl rfl ⟨rfl,rfl,trivial⟩ ?_
   refine dH 8 (by kernel_rfl) rfl rfl aA rfl (by trivial) ?_ (fun h=>by first | rfl | cases h)
   refine aR ?_;refine sq ?_;refine rl ?_;refine ld ?_;refine st ?_;refine nl ?_;refine rt ?_
   exact en (.inl rfl) rfl (aW (.agg (.cons (.id rfl) (.cons (.id rfl) (.cons (.id rfl) (.cons (.id rfl) .nil)))))) (by decide) (fun h=>by cases h) (congrArg (fun q=>qF (.of q)) (sV k))
  refine bX (key:=2) 6 rfl rfl aA rfl ⟨rfl,rfl,trivial⟩ ?_
  refine aK 2 rfl (gG ha (Zn.of (k:=1) (by decide))) kD ⟨aB rfl,aB rfl,rfl⟩ (.tup [qF (.of (Rat.divInt k 1)),.one (tv (.int .i64 (if(1:Int)=0 then 20 else 0)))]) ?_
  refine df 3 ?_;refine df 4 ?_;refine df 5 ?_;refine aZ 7 (by kernel_rfl) rfl rfl aA rfl rfl rfl rfl ⟨rfl,rfl,trivial⟩ ?_
  refine dH 8 (by kernel_rfl) rfl rfl aA rfl (by trivial) ?_ (fun h=>by first | rfl | cases h)
  refine aR ?_;refine sq ?_;refine rl ?_;refine ld ?_;refine st ?_;refine nl ?_;refine rt ?_
  exact en (.inl rfl) rfl (aW (.agg (.cons (.id rfl) (.cons (.id rfl) (.cons (.id rfl) (.cons (.id rfl) .nil)))))) (by decide) (fun h=>by cases h) (congrArg (fun q=>qF (.of q)) (sV k))
 refine bX (key:=2) 6 rfl rfl aA rfl ⟨rfl,rfl,trivial⟩ ?_;refine aK 1 rfl (jW (n:=1) (by omega) (by omega)) mQ ⟨a1 rfl,rfl⟩ (kF 1) ?_
 refine aK 2 rfl (gG ha (Zn.of (k:=1) (by decide))) kD ⟨aB rfl,aB rfl,rfl⟩ (.tup [qF (.of (Rat.divInt k 1)),.one (tv (.int .i64 (if(1:Int)=0 then 20 else 0)))]) ?_
 refine df 3 ?_;refine df 4 ?_;refine df 5 ?_;refine aZ 7 (by kernel_rfl) rfl rfl aA rfl rfl rfl rfl ⟨rfl,rfl,trivial⟩ ?_
 refine dH 8 (by kernel_rfl) rfl rfl aA rfl (by trivial) ?_ (fun h=>by first | rfl | cases h)
 refine aR ?_;refine sq ?_;refine rl ?_;refine ld ?_;refine st ?_;refine nl ?_;refine rt ?_
 exact en (.inl rfl) rfl (aW (.agg (.cons (.id rfl) (.cons (.id rfl) (.cons (.id rfl) (.cons (.id rfl) .nil)))))) (by decide) (fun h=>by cases h) (congrArg (fun q=>qF (.of q)) (sV k))
theorem KU {L:Nat}{p:Rat}(h:Sz L p) (hL:1≤L):Sz L ((fl p:Int):Rat):=by
 refine⟨by rw[Rat.num_intCast];exact Nat.le_trans (nF p) h.1,?_⟩
 rw[Rat.den_intCast]
 exact hL
theorem Gw {a:Fr4}{p:Rat}(ha:Qn a p) (hs:Sz 17179869184 p):aD false Tryz.prog 56 [] [qF a] (aO (qF (.of (fc p)))):=by
 refine bP Tryz.func56 rfl Tryz.ntmps56 rfl aA rfl fun N9 w9 c0 h0=>?_
 have hfl:=Nat.le_trans (nF p) (Nat.le_trans hs.1 (show 17179869184≤137438953472 by omega))
 have hfz:Sz 17179869184 ((fl p:Int):Rat):=KU hs (by omega)
 refine sq ?_;refine rl ?_;refine bx 0 ?_;refine al 1 ?_;refine nl ?_;refine sq ?_;refine rd [0,1] (fun i=>[5].contains i) mixed ?_
 refine aX 0 ?_;refine aX 1 ?_;refine aK 2 rfl (Bo ha) Wg ⟨aB rfl,rfl⟩ (kF (fl p)) ?_
 refine aK 3 rfl (Gv (Zn.of (k:=fl p) hfl)) GN ⟨aB rfl,rfl⟩ (qF (.of ((fl p:Int):Rat))) ?_
 refine aK 4 rfl (Gu ha (Qn.of hfz) hs (hfz.mono (by omega))) Wf ⟨aB rfl,aB rfl,rfl⟩ (qF (.of (p-((fl p:Int):Rat)))) ?_
 refine dst 5 ?_;refine aR ?_;refine rt ?_;exact en (.inl rfl) rfl (aW (.agg (.cons (.id rfl) (.cons (.id rfl) (.cons (.id rfl) (.cons (.id rfl) .nil)))))) (by decide) (fun h=>by cases h) (rfl)
theorem Ov {a b:Fr4}{p q:Rat}(ha:Qn a p) (hb:Qn b q) (hs:Sz 17179869184 p) (hs':Sz 17179869184 q):aD false Tryz.prog 40 [] [qF a,qF b] (aO (.tup [qF (.of (p/q)),.one (tv (.int .i64 (if q=0 then 20 else 0)))])):=by
 refine bP Tryz.func40 rfl Tryz.ntmps40 rfl aA rfl fun N9 w9 c0 h0=>?_
 have hs1:=hs.1
 have hs2:(dg 4294967296 ((p.den:Int)).natAbs).length≤17179869184:=hs.2
 have hs3:=hs'.1
 have hs4:(dg 4294967296 ((q.den:Int)).natAbs).length≤17179869184:=hs'.2
 refine sq ?_;refine rl ?_;refine bx 0 ?_;refine bx 1 ?_;refine al 2 ?_;refine o1 ?_;refine nl ?_;refine sq ?_;refine rl ?_;refine ld ?_
 refine ca (gR ha) pD ⟨aB rfl,rfl⟩ (qF (.of p)) ?_;refine st ?_;refine nl ?_;refine sq ?_;refine rl ?_;refine ld ?_;refine ca (gR hb) pD ⟨aB rfl,rfl⟩ (qF (.of q)) ?_
 refine st ?_;refine nl ?_;refine sq ?_;refine rd [0,1,2] (fun i=>[13,14].contains i) mixed ?_
 refine dv 0 ?_;refine aX 1 ?_;refine dv 2 ?_;refine aX 3 ?_;refine dv 5 ?_;refine aX 6 ?_;refine dv 7 ?_;refine aX 8 ?_;have hn1:=cT (p.num) ((q.den:Int))
 refine aK 4 rfl (fT (eP hs) (dB hs')) jM ⟨aB rfl,aB rfl,rfl⟩ (kF (p.num*(q.den:Int))) ?_;have hn2:=cT ((p.den:Int)) (q.num)
 refine aK 9 rfl (fT (dB hs) (eP hs')) jM ⟨aB rfl,aB rfl,rfl⟩ (kF ((p.den:Int)*q.num)) ?_
 refine aK 10 rfl (gG (Zn.of (k:=(p.num*(q.den:Int))) (by omega)) (Zn.of (k:=((p.den:Int)*q.num)) (by omega))) kD ⟨aB rfl,aB rfl,rfl⟩ (.tup [qF (.of (Rat.divInt ((p.num*(q.den:Int))) (((p.den:Int)*q.num)))),.one (tv (.int .i64 (if(((p.den:Int)*q.num))=0 then 20 else 0)))]) ?_
 refine df 11 ?_;refine df 12 ?_;refine dst 13 ?_;refine dH 14 (by kernel_rfl) rfl rfl aA rfl (by trivial) ?_ (fun h=>by first | rfl | cases h)
 refine aR ?_;refine rt ?_
 exact en (.inl rfl) rfl (iJ (.cons (.agg (.cons (.id rfl) (.cons (.id rfl) (.cons (.id rfl) (.cons (.id rfl) .nil))))) (.cons (cF _) .nil))) (by decide) (fun h=>by cases h) (by have e9:(if((p.den:Int)*q.num)=0 then(20:Int)else 0)=if q=0 then 20 else 0:=(by simp only[Fp]);rw[e9,Of];rfl)
theorem GO {xs:List Fr4}{B:Nat}(hB:2+xs.length*(B+1)≤17179869184) (hx:∀x∈xs,x.ok) (hz:∀x∈xs,Sz B x.q) (hl:xs.length≤1073741823):aD false Tryz.prog 55 [] [.one (.t (sQ false xs))] (aO (qF (.of (aC (xs.map Fr4.q))))):=by
 refine bP Tryz.func55 rfl Tryz.ntmps55 rfl aA rfl fun N9 w9 c0 h0=>?_
 have h00:(0:Rat)=aC ((xs.take 0).map Fr4.q):=by simp[aC]
 refine sq ?_;refine rl ?_;refine al 0 ?_;refine nl ?_;refine sq ?_;refine rl ?_;refine ca (Bn) Wc rfl (qF (.of 0)) ?_;refine al 1 ?_;refine st ?_;refine nl ?_;refine sq ?_
 refine sq ?_;refine rl ?_;refine o1 ?_;refine nl ?_;refine bl ?_
 refine lp (γ:=Nat) (fun k=>cG [(0,.one (.t (sQ false xs))),(2,.one (.pt 0 0)),(3,.one (.pt 1 0)),(4,.one (tv (.int .i64 ((k:Nat):Int))))]) (fun k=>[(⟨50,0,[tv (.bool false),tv (.slice none 0 0),tv (.bool false),tv (.slice none 0 0)]⟩:Ob),⟨50,0,((Fr4.of (aC ((xs.take (k)).map Fr4.q))).tr false).map .t⟩].map some) (fun k=>k≤xs.length∧Sz (2+k*(B+1)) (aC ((xs.take (k)).map Fr4.q))) (fun k=>xs.length-k) 0 ⟨Nat.zero_le _,by simpa[aC]using kL (z:=0) (by omega) (by omega)⟩ (aH h0 [0,1] _ _ (by decide) ⟨rfl,rfl,rfl,rfl,trivial⟩ ⟨oe rfl rfl,bI (congrArg (fun q=>some (⟨50,0,((Fr4.of q).tr false).map .t⟩:Ob)) h00),rfl⟩) fun k hk=>?_
 have hmul:k*(B+1)≤xs.length*(B+1):=Nat.mul_le_mul hk.1 (Nat.le_refl _)
 refine sq ?_;refine sq ?_;refine rl ?_;(iterate 4 refine o1 ?_);refine nl ?_;refine bO rfl (fun h1=>?_) (fun h1=>?_)
 ·refine sk ?_;refine sq ?_;refine bl ?_;have hmul2:(k+1)*(B+1)≤xs.length*(B+1):=Nat.mul_le_mul (by omega) (Nat.le_refl _)
  have hmul3:(k+1)*(B+1)=k*(B+1)+(B+1):=Nat.succ_mul k (B+1)
  refine rd [0,1] (fun i=>[6].contains i) mixed ?_
  refine aX 0 ?_;refine dv 1 ?_;refine dv 2 ?_;refine dv 3 ?_;refine eF 4 ((aN xs (k)).tr false) (eE xs (k:=k) (by omega)) ?_
  refine aK 5 rfl (Gs (Qn.of (p:=(aC ((xs.take (k)).map Fr4.q))) (hk.2.mono (M:=17179869184) (by omega))) ⟨hx _ (aT (by omega)),rfl⟩ (hk.2.mono (M:=17179869184) (by omega)) ((hz _ (aT (by omega))).mono (M:=17179869184) (by omega))) We ⟨aB rfl,aB rfl,rfl⟩ (qF (.of ((aC ((xs.take (k)).map Fr4.q))+(aN xs (k)).q))) ?_
  refine dst 6 ?_;refine aR ?_;refine rl ?_;refine o1 ?_;refine o1 ?_;refine WL.cast (t:=11) (u':=.int .i64 ((k+1:Nat):Int)) rfl (aJ (by omega)) ?_
  refine o1 ?_;refine nl ?_;have hst:(aC ((xs.take (k+1)).map Fr4.q))=(aC ((xs.take (k)).map Fr4.q))+(aN xs (k)).q:=by rw[oX (by omega)];exact pT _ _
  exact⟨k+1,by omega,⟨by omega,by rw[hst];exact(uI hk.2 (hz _ (aT (by omega)))).mono (by omega)⟩,aH h0 [0,1] _ _ (by decide) ⟨rfl,rfl,rfl,rfl,trivial⟩ ⟨oe rfl rfl,bI (congrArg (fun q=>some (⟨50,0,((Fr4.of q).tr false).map .t⟩:Ob)) hst.symm),rfl⟩⟩
 refine ex ?_;refine sq ?_;refine rl ?_;refine ld ?_;refine st ?_;refine nl ?_;refine rt ?_
 exact en (.inl rfl) rfl (aW (.agg (.cons (.id rfl) (.cons (.id rfl) (.cons (.id rfl) (.cons (.id rfl) .nil)))))) (by decide) (fun h=>by cases h) (by rw[List.take_of_length_le (by omega)];rfl)
theorem Sb {a:Zi}{k b:Int}{xs:List Fr4}(ha:Zn a k) (hk:jH 6 k) (hx:∀x∈xs,x.ok) (hz:∀x∈xs,Sz 7 x.q) (hl:xs.length≤12):aD false Tryz.prog 12 [] [gF a,.one (tv (.int .i64 b)),.one (.t (sQ false xs))] (aO (.tup [.one (.t (.s false 50 4 (aM (k:Rat) b (xs.map Fr4.q)).length ((aM (k:Rat) b (xs.map Fr4.q)).flatMap cD))),.one (tv (.int .i64 (jK b xs.length)))])):=by
 refine bP Tryz.func12 rfl Tryz.ntmps12 rfl aA rfl fun N9 w9 c0 h0=>?_
 have hwl:(xs.map Fr4.q).length=xs.length:=by simp
 have habl:((xs.map Fr4.q).map bC).length=xs.length:=by simp
 have hzab:∀q∈((xs.map Fr4.q).map bC),Sz 7 q:=fun q hq=>by
  rw[Bh]at hq;obtain⟨x,hx9,rfl⟩:=List.mem_map.1 hq
  exact Bi (hz x hx9) (by omega)
 have hTz:Sz 7 (k:Rat):=wB (Nat.le_trans hk (by omega)) (by omega)
 have hgz9:∀i,Sz 98 (aC (((xs.map Fr4.q).map bC).take (i))):=fun i=>(pX fun q hq=>hzab q (List.mem_of_mem_take hq)).mono (by rw[List.length_take,habl];omega)
 have h00:((0:Int):Rat)=(aC (((xs.map Fr4.q).map bC).take (0))):=by simp[aC]
 refine sq ?_;refine rl ?_;refine bx 0 ?_;refine o1 ?_;refine o1 ?_;refine nl ?_;refine sq ?_;refine sq ?_;refine rl ?_;(iterate 3 refine o1 ?_)
 refine WL.split (t:=16) rfl (fun h1=>?_) (fun h1=>?_)
 ·(iterate 4 refine eC ?_);refine o1 ?_;refine nl ?_;refine kM rfl ?_;refine sq ?_;refine rl ?_;refine o1 ?_;refine o1 ?_;refine nl ?_;refine rt ?_
  have hb9:b<0∨(xs.length:Int)≤b:=by omega
  exact en (.inl rfl) rfl (iJ (.cons (.one .nilf) (.cons (cF _) .nil))) (by decide) (fun h=>by cases h) (by rw[mP (by rw[hwl];exact hb9),wC hb9];rfl)
 (iterate 5 refine o1 ?_);refine nl ?_;refine bO rfl (fun h2=>?_) (fun h2=>?_)
 ·refine sq ?_;refine rl ?_;refine o1 ?_;refine o1 ?_;refine nl ?_;refine rt ?_;have hb9:b<0∨(xs.length:Int)≤b:=by omega
  exact en (.inl rfl) rfl (iJ (.cons (.one .nilf) (.cons (cF _) .nil))) (by decide) (fun h=>by cases h) (by rw[mP (by rw[hwl];exact hb9),wC hb9];rfl)
 refine sk ?_;refine sq ?_;obtain⟨m,hm⟩:∃m:Nat,b=(m:Int):=⟨b.toNat,by omega⟩
 subst hm;have hmn:m<xs.length:=by omega
 refine rl ?_;refine ld ?_;refine ca (Gv ha) GN ⟨aB rfl,rfl⟩ (qF (.of (k:Rat))) ?_;refine al 1 ?_;refine st ?_;refine nl ?_;refine sq ?_;refine rl ?_
 refine ca (yJ (n:=0) (by omega) (by omega)) Wh ⟨a1 rfl,rfl⟩ (qF (.of ((0:Int):Rat))) ?_
 refine al 2 ?_;refine st ?_;refine nl ?_;refine sq ?_;refine sq ?_;refine rl ?_;refine o1 ?_;refine nl ?_;refine bl ?_
 refine lp (γ:=Nat) (fun s=>cG [(1,.one (tv (.int .i64 ((m:Nat):Int)))),(2,.one (.t (sQ false xs))),(8,.one (.pt 0 0)),(9,.one (.pt 1 0)),(10,.one (tv (.int .i64 ((s:Nat):Int))))]) (fun s=>[(⟨50,0,((Fr4.of (k:Rat)).tr false).map .t⟩:Ob),⟨50,0,((Fr4.of (aC (((xs.map Fr4.q).map bC).take (s)))).tr false).map .t⟩].map some) (fun s=>s≤xs.length) (fun s=>xs.length-s) 0 (Nat.zero_le _) (aH h0 [1,2] _ _ (by decide) ⟨rfl,rfl,rfl,rfl,rfl,trivial⟩ ⟨oe rfl rfl,bI (congrArg (fun q=>some (⟨50,0,((Fr4.of q).tr false).map .t⟩:Ob)) h00),rfl⟩) ?_
 rintro i9 hi9;have hgz:=hgz9 i9
 refine sq ?_;refine sq ?_;refine rl ?_;(iterate 4 refine o1 ?_);refine nl ?_;refine bO rfl (fun h3=>?_) (fun h3=>?_)
 ·refine sk ?_;refine sq ?_;refine bl ?_;refine sq ?_;refine rl ?_;(iterate 3 refine o1 ?_);refine fB ((aN xs (i9)).tr false) (eE xs (k:=i9) (by omega)) ?_
  refine ca (hG ⟨hx _ (aT (by omega)),rfl⟩) nS ⟨aB rfl,rfl⟩ (.one (tv (.int .i64 (aN xs (i9)).q.num.sign))) ?_
  refine o1 ?_;refine nl ?_;refine bO rfl (fun h4=>?_) (fun h4=>?_)
  ·refine rd [0,1] (fun i=>[6].contains i) mixed ?_
   refine aX 0 ?_;refine dv 1 ?_;refine dv 2 ?_;refine dv 3 ?_;refine eF 4 ((aN xs (i9)).tr false) (eE xs (k:=i9) (by omega)) ?_
   refine aK 5 rfl (Gs (Qn.of (p:=(aC (((xs.map Fr4.q).map bC).take (i9)))) (hgz.mono (M:=17179869184) (by omega))) ⟨hx _ (aT (by omega)),rfl⟩ (hgz.mono (M:=17179869184) (by omega)) ((hz _ (aT (by omega))).mono (M:=17179869184) (by omega))) We ⟨aB rfl,aB rfl,rfl⟩ (qF (.of ((aC (((xs.map Fr4.q).map bC).take (i9)))+(aN xs (i9)).q))) ?_
   refine dst 6 ?_;refine aR ?_;refine rl ?_;refine o1 ?_;refine o1 ?_;refine WL.cast (t:=30) (u':=.int .i64 ((i9+1:Nat):Int)) rfl (aJ (by omega)) ?_
   refine o1 ?_;refine nl ?_;have hp9:0<(aN xs (i9)).q:=eR.1 (Int.sign_pos_iff.1 h4)
   have hst:(aC (((xs.map Fr4.q).map bC).take (i9)))+(aN xs (i9)).q=(aC (((xs.map Fr4.q).map bC).take (i9+1))):=by rw[Fi (by omega),cU (f:=Fr4.q) (by omega),zD (by grind)]
   exact⟨i9+1,by omega,by omega,aH h0 [0,1] _ _ (by decide) ⟨rfl,rfl,rfl,rfl,rfl,trivial⟩ ⟨oe rfl rfl,bI (congrArg (fun q=>some (⟨50,0,((Fr4.of q).tr false).map .t⟩:Ob)) hst),rfl⟩⟩
  refine sk ?_;refine rl ?_;refine o1 ?_;refine o1 ?_;refine WL.cast (t:=30) (u':=.int .i64 ((i9+1:Nat):Int)) rfl (aJ (by omega)) ?_
  refine o1 ?_;refine nl ?_;have hp9:¬0<(aN xs (i9)).q:=fun hq9=>h4 (Int.sign_pos_iff.2 (eR.2 hq9))
  have hst:(aC (((xs.map Fr4.q).map bC).take (i9)))=(aC (((xs.map Fr4.q).map bC).take (i9+1))):=by rw[Fi (by omega),cU (f:=Fr4.q) (by omega),BK hp9];exact(Rat.add_zero _).symm
  exact⟨i9+1,by omega,by omega,aH h0 [0,1] _ _ (by decide) ⟨rfl,rfl,rfl,rfl,rfl,trivial⟩ ⟨oe rfl rfl,bI (congrArg (fun q=>some (⟨50,0,((Fr4.of q).tr false).map .t⟩:Ob)) hst),rfl⟩⟩
 refine ex ?_;refine sq ?_;have hgs:Sz 98 (aC (((xs.map Fr4.q).map bC).take (i9))):=hgz9 i9
 have hsm:(aC (((xs.map Fr4.q).map bC).take (i9)))=(aC ((xs.map Fr4.q).map bC)):=by rw[List.take_of_length_le (by rw[habl];omega)]
 refine rl ?_;refine o1 ?_;refine nl ?_;refine sq ?_;refine sq ?_;refine rl ?_;refine o1 ?_;refine nl ?_;refine bl ?_
 have hexl:(aM (k:Rat) (m:Int) (xs.map Fr4.q)).length=xs.length:=by rw[sL (by rw[hwl];exact hmn),hwl]
 refine lp (γ:=Nat) (fun s=>cG [(1,.one (tv (.int .i64 ((m:Nat):Int)))),(2,.one (.t (sQ false xs))),(8,.one (.pt 0 0)),(9,.one (.pt 1 0)),(11,.one (.sl 2 0 (s))),(12,.one (tv (.int .i64 ((s:Nat):Int))))]) (fun s=>[(⟨50,0,((Fr4.of (k:Rat)).tr false).map .t⟩:Ob),⟨50,0,((Fr4.of (aC (((xs.map Fr4.q).map bC).take (i9)))).tr false).map .t⟩,⟨50,4,(((aM (k:Rat) (m:Int) (xs.map Fr4.q)).take s).flatMap cD).map .t⟩].map some) (fun s=>s≤xs.length) (fun s=>xs.length-s) 0 (Nat.zero_le _) ((nr (i:=11) 2 50 4 rfl rfl rfl rfl).trans (aH h0 [0,1,2] _ _ (by decide) ⟨rfl,rfl,rfl,rfl,rfl,rfl,trivial⟩ ⟨oe rfl rfl,oe rfl rfl,bI rfl,rfl⟩)) ?_
 rintro j9 hj9;refine sq ?_;refine sq ?_;refine rl ?_;(iterate 4 refine o1 ?_);refine nl ?_;refine bO rfl (fun h5=>?_) (fun h5=>?_)
 ·refine sk ?_;refine sq ?_;refine bl ?_;refine sq ?_;refine rl ?_;refine ca (yJ (n:=0) (by omega) (by omega)) Wh ⟨a1 rfl,rfl⟩ (qF (.of ((0:Int):Rat))) ?_
  refine al 3 ?_;refine st ?_;refine nl ?_;refine sq ?_;refine sq ?_;refine rl ?_;refine ld ?_
  refine ca (hG (Qn.of (p:=(aC (((xs.map Fr4.q).map bC).take (i9)))) hgs)) nS ⟨aB rfl,rfl⟩ (.one (tv (.int .i64 (aC (((xs.map Fr4.q).map bC).take (i9))).num.sign))) ?_
  refine o1 ?_;refine o1 ?_;refine WL.split (t:=53) rfl (fun h6=>?_) (fun h6=>?_)
  ·(iterate 4 refine o1 ?_);refine nl ?_;refine bO rfl (fun h7=>?_) (fun h7=>?_)
   ·refine rl ?_;refine ld ?_;refine st ?_;refine nl ?_;refine sq ?_;refine sq ?_;refine rl ?_;(iterate 3 refine o1 ?_)
    refine fB ((aN xs (j9)).tr false) (eE xs (k:=j9) (by omega)) ?_
    refine ca (hG ⟨hx _ (aT (by omega)),rfl⟩) nS ⟨aB rfl,rfl⟩ (.one (tv (.int .i64 (aN xs (j9)).q.num.sign))) ?_
    refine o1 ?_;refine nl ?_;refine bO rfl (fun h8=>?_) (fun h8=>?_)
    ·refine rd [0,1] (fun i=>[].contains i) mixed ?_
     refine aX 0 ?_;refine dv 1 ?_;refine dv 2 ?_;refine dv 3 ?_;refine eF 4 ((aN xs (j9)).tr false) (eE xs (k:=j9) (by omega)) ?_
     refine aX 6 ?_
     refine aK 5 rfl (Gt (Qn.of (p:=(k:Rat)) hTz) ⟨hx _ (aT (by omega)),rfl⟩ (hTz.mono (M:=17179869184) (by omega)) ((hz _ (aT (by omega))).mono (M:=17179869184) (by omega))) Wi ⟨aB rfl,aB rfl,rfl⟩ (qF (.of ((k:Rat)*(aN xs (j9)).q))) ?_
     refine aK 7 rfl (Ov (Qn.of (p:=((k:Rat)*(aN xs (j9)).q)) (nL hTz (hz _ (aT (by omega))))) (Qn.of (p:=(aC (((xs.map Fr4.q).map bC).take (i9)))) hgs) ((nL hTz (hz _ (aT (by omega)))).mono (M:=17179869184) (by omega)) (hgs.mono (M:=17179869184) (by omega))) Wj ⟨aB rfl,aB rfl,rfl⟩ (.tup [qF (.of (((k:Rat)*(aN xs (j9)).q)/(aC (((xs.map Fr4.q).map bC).take (i9))))),.one (tv (.int .i64 (if(aC (((xs.map Fr4.q).map bC).take (i9)))=0 then 20 else 0)))]) ?_
     refine df 8 ?_;refine df 9 ?_;refine df 10 ?_;refine aZ 11 (by kernel_rfl) rfl rfl aA rfl rfl rfl rfl ⟨rfl,rfl,trivial⟩ ?_
     refine aR ?_;refine rl ?_;refine o1 ?_;refine ld ?_;refine bs 4 ?_
     refine dV (j:=5) aA rfl rfl rfl rfl (.sl rfl (by rw[List.length_map,bQ cS,List.length_take,hexl,Nat.min_eq_left (by omega)])) (.sl rfl rfl rfl) rfl rfl rfl (by omega) (by omega) ?_
     refine o1 ?_;refine nl ?_;refine rl ?_;refine o1 ?_;refine o1 ?_;refine WL.cast (t:=48) (u':=.int .i64 ((j9+1:Nat):Int)) rfl (aJ (by omega)) ?_
     refine o1 ?_;refine nl ?_;have hp9:0<aF (xs.map Fr4.q) j9:=by rw[cU (f:=Fr4.q) (by omega)];exact eR.1 (Int.sign_pos_iff.1 h8)
     have hS9:(aC ((xs.map Fr4.q).map bC))=0:=by rw[←hsm];exact Rat.num_eq_zero.1 (Int.sign_eq_zero_iff_zero.1 h6)
     have hv9:((k:Rat)*(aN xs (j9)).q/(aC (((xs.map Fr4.q).map bC).take (i9))))=aF (aM (k:Rat) (m:Int) (xs.map Fr4.q)) j9:=by rw[lT (by rw[hwl];exact hmn) (by rw[hwl];omega)];rw[if_pos hp9,←cU (f:=Fr4.q) (by omega),hsm]
     have hst:(((aM (k:Rat) (m:Int) (xs.map Fr4.q)).take j9).flatMap cD).map AV.t++(cD ((k:Rat)*(aN xs (j9)).q/(aC (((xs.map Fr4.q).map bC).take (i9))))).map .t=(((aM (k:Rat) (m:Int) (xs.map Fr4.q)).take (j9+1)).flatMap cD).map .t:=by rw[eU,fF (by rw[hexl];omega),←hv9]
     exact⟨j9+1,by omega,by omega,aH h0 [0,1,5] _ _ (by decide) ⟨rfl,rfl,rfl,rfl,rfl,rfl,trivial⟩ ⟨oe rfl rfl,oe rfl rfl,bI (congrArg (fun l=>some (⟨50,4,l⟩:Ob)) hst),rfl⟩⟩
    refine sk ?_;refine rl ?_;refine o1 ?_;refine ld ?_;refine bs 4 ?_
    refine dV (j:=5) aA rfl rfl rfl rfl (.sl rfl (by rw[List.length_map,bQ cS,List.length_take,hexl,Nat.min_eq_left (by omega)])) (.sl rfl rfl rfl) rfl rfl rfl (by omega) (by omega) ?_
    refine o1 ?_;refine nl ?_;refine rl ?_;refine o1 ?_;refine o1 ?_;refine WL.cast (t:=48) (u':=.int .i64 ((j9+1:Nat):Int)) rfl (aJ (by omega)) ?_
    refine o1 ?_;refine nl ?_;have hp9:¬0<aF (xs.map Fr4.q) j9:=by rw[cU (f:=Fr4.q) (by omega)];exact fun hq9=>h8 (Int.sign_pos_iff.2 (eR.2 hq9))
    have hS9:(aC ((xs.map Fr4.q).map bC))=0:=by rw[←hsm];exact Rat.num_eq_zero.1 (Int.sign_eq_zero_iff_zero.1 h6)
    have hv9:(k:Rat)=aF (aM (k:Rat) (m:Int) (xs.map Fr4.q)) j9:=by rw[lT (by rw[hwl];exact hmn) (by rw[hwl];omega)];rw[if_neg hp9,if_pos ⟨hS9,by omega⟩]
    have hst:(((aM (k:Rat) (m:Int) (xs.map Fr4.q)).take j9).flatMap cD).map AV.t++(cD (k:Rat)).map .t=(((aM (k:Rat) (m:Int) (xs.map Fr4.q)).take (j9+1)).flatMap cD).map .t:=by rw[eU,fF (by rw[hexl];omega),←hv9]
    exact⟨j9+1,by omega,by omega,aH h0 [0,1,5] _ _ (by decide) ⟨rfl,rfl,rfl,rfl,rfl,rfl,trivial⟩ ⟨oe rfl rfl,oe rfl rfl,bI (congrArg (fun l=>some (⟨50,4,l⟩:Ob)) hst),rfl⟩⟩
   refine sk ?_;refine sq ?_;refine sq ?_;refine rl ?_;(iterate 3 refine o1 ?_);refine fB ((aN xs (j9)).tr false) (eE xs (k:=j9) (by omega)) ?_
   refine ca (hG ⟨hx _ (aT (by omega)),rfl⟩) nS ⟨aB rfl,rfl⟩ (.one (tv (.int .i64 (aN xs (j9)).q.num.sign))) ?_
   refine o1 ?_;refine nl ?_;refine bO rfl (fun h9=>?_) (fun h9=>?_)
   ·refine rd [0,1] (fun i=>[].contains i) mixed ?_
    refine aX 0 ?_;refine dv 1 ?_;refine dv 2 ?_;refine dv 3 ?_;refine eF 4 ((aN xs (j9)).tr false) (eE xs (k:=j9) (by omega)) ?_
    refine aX 6 ?_
    refine aK 5 rfl (Gt (Qn.of (p:=(k:Rat)) hTz) ⟨hx _ (aT (by omega)),rfl⟩ (hTz.mono (M:=17179869184) (by omega)) ((hz _ (aT (by omega))).mono (M:=17179869184) (by omega))) Wi ⟨aB rfl,aB rfl,rfl⟩ (qF (.of ((k:Rat)*(aN xs (j9)).q))) ?_
    refine aK 7 rfl (Ov (Qn.of (p:=((k:Rat)*(aN xs (j9)).q)) (nL hTz (hz _ (aT (by omega))))) (Qn.of (p:=(aC (((xs.map Fr4.q).map bC).take (i9)))) hgs) ((nL hTz (hz _ (aT (by omega)))).mono (M:=17179869184) (by omega)) (hgs.mono (M:=17179869184) (by omega))) Wj ⟨aB rfl,aB rfl,rfl⟩ (.tup [qF (.of (((k:Rat)*(aN xs (j9)).q)/(aC (((xs.map Fr4.q).map bC).take (i9))))),.one (tv (.int .i64 (if(aC (((xs.map Fr4.q).map bC).take (i9)))=0 then 20 else 0)))]) ?_
    refine df 8 ?_;refine df 9 ?_;refine df 10 ?_;refine aZ 11 (by kernel_rfl) rfl rfl aA rfl rfl rfl rfl ⟨rfl,rfl,trivial⟩ ?_
    refine aR ?_;refine rl ?_;refine o1 ?_;refine ld ?_;refine bs 4 ?_
    refine dV (j:=5) aA rfl rfl rfl rfl (.sl rfl (by rw[List.length_map,bQ cS,List.length_take,hexl,Nat.min_eq_left (by omega)])) (.sl rfl rfl rfl) rfl rfl rfl (by omega) (by omega) ?_
    refine o1 ?_;refine nl ?_;refine rl ?_;refine o1 ?_;refine o1 ?_;refine WL.cast (t:=48) (u':=.int .i64 ((j9+1:Nat):Int)) rfl (aJ (by omega)) ?_
    refine o1 ?_;refine nl ?_;have hp9:0<aF (xs.map Fr4.q) j9:=by rw[cU (f:=Fr4.q) (by omega)];exact eR.1 (Int.sign_pos_iff.1 h9)
    have hS9:(aC ((xs.map Fr4.q).map bC))=0:=by rw[←hsm];exact Rat.num_eq_zero.1 (Int.sign_eq_zero_iff_zero.1 h6)
    have hv9:((k:Rat)*(aN xs (j9)).q/(aC (((xs.map Fr4.q).map bC).take (i9))))=aF (aM (k:Rat) (m:Int) (xs.map Fr4.q)) j9:=by rw[lT (by rw[hwl];exact hmn) (by rw[hwl];omega)];rw[if_pos hp9,←cU (f:=Fr4.q) (by omega),hsm]
    have hst:(((aM (k:Rat) (m:Int) (xs.map Fr4.q)).take j9).flatMap cD).map AV.t++(cD ((k:Rat)*(aN xs (j9)).q/(aC (((xs.map Fr4.q).map bC).take (i9))))).map .t=(((aM (k:Rat) (m:Int) (xs.map Fr4.q)).take (j9+1)).flatMap cD).map .t:=by rw[eU,fF (by rw[hexl];omega),←hv9]
    exact⟨j9+1,by omega,by omega,aH h0 [0,1,5] _ _ (by decide) ⟨rfl,rfl,rfl,rfl,rfl,rfl,trivial⟩ ⟨oe rfl rfl,oe rfl rfl,bI (congrArg (fun l=>some (⟨50,4,l⟩:Ob)) hst),rfl⟩⟩
   refine sk ?_;refine rl ?_;refine o1 ?_;refine ld ?_;refine bs 4 ?_
   refine dV (j:=5) aA rfl rfl rfl rfl (.sl rfl (by rw[List.length_map,bQ cS,List.length_take,hexl,Nat.min_eq_left (by omega)])) (.sl rfl rfl rfl) rfl rfl rfl (by omega) (by omega) ?_
   refine o1 ?_;refine nl ?_;refine rl ?_;refine o1 ?_;refine o1 ?_;refine WL.cast (t:=48) (u':=.int .i64 ((j9+1:Nat):Int)) rfl (aJ (by omega)) ?_
   refine o1 ?_;refine nl ?_;have hp9:¬0<aF (xs.map Fr4.q) j9:=by rw[cU (f:=Fr4.q) (by omega)];exact fun hq9=>h9 (Int.sign_pos_iff.2 (eR.2 hq9))
   have hS9:(aC ((xs.map Fr4.q).map bC))=0:=by rw[←hsm];exact Rat.num_eq_zero.1 (Int.sign_eq_zero_iff_zero.1 h6)
   have hv9:((0:Int):Rat)=aF (aM (k:Rat) (m:Int) (xs.map Fr4.q)) j9:=by rw[lT (by rw[hwl];exact hmn) (by rw[hwl];omega)];rw[if_neg hp9,if_neg (fun hq9=>absurd hq9.2 (by omega))];rfl
   have hst:(((aM (k:Rat) (m:Int) (xs.map Fr4.q)).take j9).flatMap cD).map AV.t++(cD ((0:Int):Rat)).map .t=(((aM (k:Rat) (m:Int) (xs.map Fr4.q)).take (j9+1)).flatMap cD).map .t:=by rw[eU,fF (by rw[hexl];omega),←hv9]
   exact⟨j9+1,by omega,by omega,aH h0 [0,1,5] _ _ (by decide) ⟨rfl,rfl,rfl,rfl,rfl,rfl,trivial⟩ ⟨oe rfl rfl,oe rfl rfl,bI (congrArg (fun l=>some (⟨50,4,l⟩:Ob)) hst),rfl⟩⟩
  (iterate 3 refine eC ?_);refine o1 ?_;refine nl ?_;refine eZ rfl ?_;refine sk ?_;refine sq ?_;refine sq ?_;refine rl ?_;(iterate 3 refine o1 ?_)
  refine fB ((aN xs (j9)).tr false) (eE xs (k:=j9) (by omega)) ?_
  refine ca (hG ⟨hx _ (aT (by omega)),rfl⟩) nS ⟨aB rfl,rfl⟩ (.one (tv (.int .i64 (aN xs (j9)).q.num.sign))) ?_
  refine o1 ?_;refine nl ?_;refine bO rfl (fun h10=>?_) (fun h10=>?_)
  ·refine rd [0,1] (fun i=>[].contains i) mixed ?_
   refine aX 0 ?_;refine dv 1 ?_;refine dv 2 ?_;refine dv 3 ?_;refine eF 4 ((aN xs (j9)).tr false) (eE xs (k:=j9) (by omega)) ?_
   refine aX 6 ?_
   refine aK 5 rfl (Gt (Qn.of (p:=(k:Rat)) hTz) ⟨hx _ (aT (by omega)),rfl⟩ (hTz.mono (M:=17179869184) (by omega)) ((hz _ (aT (by omega))).mono (M:=17179869184) (by omega))) Wi ⟨aB rfl,aB rfl,rfl⟩ (qF (.of ((k:Rat)*(aN xs (j9)).q))) ?_
   refine aK 7 rfl (Ov (Qn.of (p:=((k:Rat)*(aN xs (j9)).q)) (nL hTz (hz _ (aT (by omega))))) (Qn.of (p:=(aC (((xs.map Fr4.q).map bC).take (i9)))) hgs) ((nL hTz (hz _ (aT (by omega)))).mono (M:=17179869184) (by omega)) (hgs.mono (M:=17179869184) (by omega))) Wj ⟨aB rfl,aB rfl,rfl⟩ (.tup [qF (.of (((k:Rat)*(aN xs (j9)).q)/(aC (((xs.map Fr4.q).map bC).take (i9))))),.one (tv (.int .i64 (if(aC (((xs.map Fr4.q).map bC).take (i9)))=0 then 20 else 0)))]) ?_
   refine df 8 ?_;refine df 9 ?_;refine df 10 ?_;refine aZ 11 (by kernel_rfl) rfl rfl aA rfl rfl rfl rfl ⟨rfl,rfl,trivial⟩ ?_
   refine aR ?_;refine rl ?_;refine o1 ?_;refine ld ?_;refine bs 4 ?_
   refine dV (j:=5) aA rfl rfl rfl rfl (.sl rfl (by rw[List.length_map,bQ cS,List.length_take,hexl,Nat.min_eq_left (by omega)])) (.sl rfl rfl rfl) rfl rfl rfl (by omega) (by omega) ?_
   refine o1 ?_;refine nl ?_;refine rl ?_;refine o1 ?_;refine o1 ?_;refine WL.cast (t:=48) (u':=.int .i64 ((j9+1:Nat):Int)) rfl (aJ (by omega)) ?_
   refine o1 ?_;refine nl ?_;have hp9:0<aF (xs.map Fr4.q) j9:=by rw[cU (f:=Fr4.q) (by omega)];exact eR.1 (Int.sign_pos_iff.1 h10)
   have hS9:¬(aC ((xs.map Fr4.q).map bC))=0:=fun hq9=>h6 (by rw[hsm,hq9];rfl)
   have hv9:((k:Rat)*(aN xs (j9)).q/(aC (((xs.map Fr4.q).map bC).take (i9))))=aF (aM (k:Rat) (m:Int) (xs.map Fr4.q)) j9:=by rw[lT (by rw[hwl];exact hmn) (by rw[hwl];omega)];rw[if_pos hp9,←cU (f:=Fr4.q) (by omega),hsm]
   have hst:(((aM (k:Rat) (m:Int) (xs.map Fr4.q)).take j9).flatMap cD).map AV.t++(cD ((k:Rat)*(aN xs (j9)).q/(aC (((xs.map Fr4.q).map bC).take (i9))))).map .t=(((aM (k:Rat) (m:Int) (xs.map Fr4.q)).take (j9+1)).flatMap cD).map .t:=by rw[eU,fF (by rw[hexl];omega),←hv9]
   exact⟨j9+1,by omega,by omega,aH h0 [0,1,5] _ _ (by decide) ⟨rfl,rfl,rfl,rfl,rfl,rfl,trivial⟩ ⟨oe rfl rfl,oe rfl rfl,bI (congrArg (fun l=>some (⟨50,4,l⟩:Ob)) hst),rfl⟩⟩
  refine sk ?_;refine rl ?_;refine o1 ?_;refine ld ?_;refine bs 4 ?_
  refine dV (j:=5) aA rfl rfl rfl rfl (.sl rfl (by rw[List.length_map,bQ cS,List.length_take,hexl,Nat.min_eq_left (by omega)])) (.sl rfl rfl rfl) rfl rfl rfl (by omega) (by omega) ?_
  refine o1 ?_;refine nl ?_;refine rl ?_;refine o1 ?_;refine o1 ?_;refine WL.cast (t:=48) (u':=.int .i64 ((j9+1:Nat):Int)) rfl (aJ (by omega)) ?_
  refine o1 ?_;refine nl ?_;have hp9:¬0<aF (xs.map Fr4.q) j9:=by rw[cU (f:=Fr4.q) (by omega)];exact fun hq9=>h10 (Int.sign_pos_iff.2 (eR.2 hq9))
  have hS9:¬(aC ((xs.map Fr4.q).map bC))=0:=fun hq9=>h6 (by rw[hsm,hq9];rfl)
  have hv9:((0:Int):Rat)=aF (aM (k:Rat) (m:Int) (xs.map Fr4.q)) j9:=by rw[lT (by rw[hwl];exact hmn) (by rw[hwl];omega)];rw[if_neg hp9,if_neg (fun hq9=>hS9 hq9.1)];rfl
  have hst:(((aM (k:Rat) (m:Int) (xs.map Fr4.q)).take j9).flatMap cD).map AV.t++(cD ((0:Int):Rat)).map .t=(((aM (k:Rat) (m:Int) (xs.map Fr4.q)).take (j9+1)).flatMap cD).map .t:=by rw[eU,fF (by rw[hexl];omega),←hv9]
  exact⟨j9+1,by omega,by omega,aH h0 [0,1,5] _ _ (by decide) ⟨rfl,rfl,rfl,rfl,rfl,rfl,trivial⟩ ⟨oe rfl rfl,oe rfl rfl,bI (congrArg (fun l=>some (⟨50,4,l⟩:Ob)) hst),rfl⟩⟩
 refine ex ?_;refine sq ?_
 refine WP.sub (fz (i:=11) (k:=2) (t:=50) (z:=4) (n:=j9) (l:=((aM (k:Rat) (m:Int) (xs.map Fr4.q)).take j9).flatMap cD) rfl rfl rfl (by rw[bQ cS,List.length_take,hexl];omega)) ?_
 refine rl ?_;(iterate 3 refine o1 ?_);refine nl ?_;refine rt ?_;have hj0:j9=(aM (k:Rat) (m:Int) (xs.map Fr4.q)).length:=by rw[hexl];omega
 have htk:(aM (k:Rat) (m:Int) (xs.map Fr4.q)).take j9=(aM (k:Rat) (m:Int) (xs.map Fr4.q)):=List.take_of_length_le (by omega)
 exact en (.inl rfl) rfl (iJ (.cons (.one (.id rfl)) (.cons (cF _) .nil))) (by decide) (fun h=>by cases h) (by rw[Gc hmn,htk,←hj0];rfl)
theorem GP {a:Zi}{k:Int}(ha:Zn a k):aD true Tryz.prog 58 [] [gF a] (aO (kO (((k.natAbs:Nat):Int)))):=by
 refine bP Tryz.func58 rfl Tryz.ntmps58 rfl aA rfl fun N w c0 h0=>?_
 have hkl:=ha.len
 refine sq ?_;refine rl ?_;refine bx 0 ?_;refine al 1 ?_;refine nl ?_;refine sq ?_;refine rl ?_;refine ld ?_;refine ca (fN ha) mR ⟨aB rfl,rfl⟩ (kF (k)) ?_;refine o1 ?_
 refine fS 2 (jF (b:=false) (xs:=dg 4294967296 k.natAbs) (K:=((k.natAbs:Nat):Int)) (by omega) (aL (by omega) _) (by rw[bL];rfl)) dC ⟨a1 rfl,a1 rfl,rfl⟩ ?_
 refine st ?_;refine nl ?_;refine rt ?_
 exact en (.inl rfl) rfl (aW (.agg (.cons (.id rfl) (.cons (.sl (trs:=aP (dg 4294967296 (((k.natAbs:Nat):Int)).natAbs)) rfl rfl (bE _) (bB _)) .nil)))) (by decide) (fun _=>dW (((k.natAbs:Nat):Int))) rfl
theorem uT {xs:List Fr4}{k:Nat}(h:k<xs.length):(aN xs k).q∈xs.map Fr4.q:=List.mem_map.2 ⟨_,aT h,rfl⟩
theorem Wk {l:List Rat}{t:Nat}(ht:(t:Int)≤eO l) (h:¬0<(eO l-(t:Int)).sign):t=(eO l).toNat:=by
 have h1:¬0<eO l-(t:Int):=fun h9=>h (Int.sign_pos_iff.2 h9)
 omega
theorem Dk {xs:List Fr4}(hx:∀x∈xs,x.ok) (hz:∀x∈xs,Sz 1000 x.q) (hl:xs.length≤12):aD false Tryz.prog 18 [] [.one (.t (sQ false xs))] (aO (.one (.t (sZ 34 (aQ (aU (xs.map Fr4.q))))))):=by
 refine bP Tryz.func18 rfl Tryz.ntmps18 rfl aA rfl fun N9 w9 c0 h0=>?_
 have hll:(xs.map Fr4.q).length=xs.length:=List.length_map ..
 have hll2:(xs.map Fr4.q).length≤12:=by omega
 have hzl:∀q∈(xs.map Fr4.q),Sz 1000 q:=fun q hq=>(by obtain⟨x,h9,rfl⟩:=List.mem_map.1 hq;exact hz x h9)
 have hsz:Sz 13000 (aC (xs.map Fr4.q)):=MQ hzl hll2
 have hEl:(aS (xs.map Fr4.q)).length=xs.length:=by rw[Km,hll]
 have hEl12:(aS (xs.map Fr4.q)).length≤12:=by omega
 have hEz:=BQ hzl
 have hofl:(dS (aS (xs.map Fr4.q))).length=xs.length:=by rw[gZ,hEl]
 have hfc0:Sz 68719476736 (fc (aC (xs.map Fr4.q))):=(sR hsz).mono (by omega)
 have hfs:(dg 4294967296 (fl (aC (xs.map Fr4.q))).natAbs).length≤20000:=Nat.le_trans (nF _) (Nat.le_trans hsz.1 (by omega))
 refine sq ?_;refine rl ?_;refine o1 ?_;refine nl ?_;refine sq ?_;refine rl ?_;refine o1 ?_
 refine ca (GO (B:=1000) (by omega) hx hz (by omega)) NF ⟨a1 rfl,rfl⟩ (qF (.of (aC (xs.map Fr4.q)))) ?_
 refine al 0 ?_;refine st ?_;refine nl ?_;refine sq ?_;refine rl ?_;refine ld ?_
 refine ca (hG (Qn.of (p:=(aC (xs.map Fr4.q))) ((hsz).mono (M:=68719476736) (by omega)))) nS ⟨aB rfl,rfl⟩ (.one (tv (.int .i64 ((aC (xs.map Fr4.q))).num.sign))) ?_
 refine o1 ?_;refine nl ?_;refine sq ?_;refine sq ?_;refine rl ?_;refine ld ?_
 refine ca (Gw (Qn.of (p:=(aC (xs.map Fr4.q))) (hsz.mono (M:=68719476736) (by omega))) ((hsz.mono (by omega)))) Wl ⟨aB rfl,rfl⟩ (qF (.of (fc (aC (xs.map Fr4.q))))) ?_
 refine ca (hG (Qn.of (p:=(fc (aC (xs.map Fr4.q)))) hfc0)) nS ⟨aB rfl,rfl⟩ (.one (tv (.int .i64 ((fc (aC (xs.map Fr4.q)))).num.sign))) ?_;refine o1 ?_;refine nl ?_
 refine bO rfl (fun h1=>?_) (fun h1=>?_)
 ·refine sq ?_;refine rl ?_;refine o1 ?_;refine nl ?_;refine rt ?_;have hfr:(aC (xs.map Fr4.q)).den≠1:=fun hq9=>h1 (by rw[Lo.2 hq9];rfl)
  exact en (.inl rfl) rfl (aW (.one .nilf)) (by decide) (fun h=>by cases h) (by rw[xS hfr];rfl)
 refine sk ?_;refine sq ?_;have hden:(aC (xs.map Fr4.q)).den=1:=Lo.1 (Rat.num_eq_zero.1 (Int.sign_eq_zero_iff_zero.1 (Decidable.byContradiction h1)))
 have hEd:=BL hden
 refine rl ?_;refine o1 ?_;refine nl ?_;refine sq ?_;refine sq ?_;refine rl ?_;refine o1 ?_;refine nl ?_;refine bl ?_
 refine lp (γ:=Nat) (fun s=>cG [(0,.one (.t (sQ false xs))),(3,.one (.pt 0 0)),(4,.one (tv (.int .i64 ((aC (xs.map Fr4.q))).num.sign))),(5,.one (.sl 1 0 (s))),(6,.one (tv (.int .i64 ((s:Nat):Int))))]) (fun s=>[(⟨50,0,((Fr4.of (aC (xs.map Fr4.q))).tr false).map .t⟩:Ob),⟨50,4,(((aS (xs.map Fr4.q)).take s).flatMap cD).map .t⟩].map some) (fun s=>s≤xs.length∧∀j,j<s→¬aF (aS (xs.map Fr4.q)) j<0) (fun s=>xs.length-s) 0 ⟨Nat.zero_le _,fun j hj=>absurd hj (Nat.not_lt_zero j)⟩ ((nr (i:=5) 1 50 4 rfl rfl rfl rfl).trans (aH h0 [0,1] _ _ (by decide) ⟨rfl,rfl,rfl,rfl,rfl,trivial⟩ ⟨oe rfl rfl,bI rfl,rfl⟩)) ?_
 rintro k9 ⟨hk9,hA⟩;refine sq ?_;refine sq ?_;refine rl ?_;(iterate 4 refine o1 ?_);refine nl ?_;refine bO rfl (fun h2=>?_) (fun h2=>?_)
 ·refine sk ?_;refine sq ?_;refine bl ?_;refine sq ?_;refine rl ?_;(iterate 3 refine o1 ?_);refine fB ((aN xs (k9)).tr false) (eE xs (k:=k9) (by omega)) ?_
  refine ca (gR ⟨hx _ (aT (by omega)),rfl⟩) pD ⟨aB rfl,rfl⟩ (qF (.of (aN xs (k9)).q)) ?_
  refine al 2 ?_;refine st ?_;refine nl ?_;refine sq ?_;refine sq ?_;refine rl ?_;refine o1 ?_;refine o1 ?_;refine nl ?_;refine bO rfl (fun h3=>?_) (fun h3=>?_)
  ·refine rl ?_;refine ld ?_
   refine ca (Gr (Qn.of (p:=(aN xs (k9)).q) ((hzl _ (uT (by omega))).mono (M:=68719476736) (by omega)))) Wd ⟨aB rfl,rfl⟩ (qF (.of (-((aN xs (k9)).q)))) ?_
   refine st ?_;refine nl ?_;refine sq ?_;refine sq ?_;refine rl ?_;refine ld ?_
   refine ca (hG (Qn.of (p:=(-((aN xs (k9)).q))) ((kI (hzl _ (uT (by omega)))).mono (M:=68719476736) (by omega)))) nS ⟨aB rfl,rfl⟩ (.one (tv (.int .i64 ((-((aN xs (k9)).q))).num.sign))) ?_
   refine o1 ?_;refine nl ?_;refine bO rfl (fun h4=>?_) (fun h4=>?_)
   ·refine sq ?_;refine rl ?_;refine o1 ?_;refine nl ?_;refine rt ?_;have hS9:(aC (xs.map Fr4.q))<0:=gN.1 (Int.sign_neg_iff.1 h3)
    have hv9:(-((aN xs (k9)).q))=aF (aS (xs.map Fr4.q)) k9:=by rw[Fj hS9 (by rw[hll];omega),cU (f:=Fr4.q) (by omega)]
    have hbad:aU (xs.map Fr4.q)=[]:=Kn hden (k:=k9) (by rw[hll];omega) (by rw[←hv9];exact gN.1 (Int.sign_neg_iff.1 h4))
    exact en (.inl rfl) rfl (aW (.one .nilf)) (by decide) (fun h=>by cases h) (by rw[hbad];rfl)
   refine sk ?_;refine rl ?_;refine o1 ?_;refine ld ?_;refine bs 3 ?_
   refine dV (j:=4) aA rfl rfl rfl rfl (.sl rfl (by rw[List.length_map,bQ cS,List.length_take,hEl,Nat.min_eq_left (by omega)])) (.sl rfl rfl rfl) rfl rfl rfl (by omega) (by omega) ?_
   refine o1 ?_;refine nl ?_;refine rl ?_;refine o1 ?_;refine o1 ?_;refine WL.cast (t:=28) (u':=.int .i64 ((k9+1:Nat):Int)) rfl (aJ (by omega)) ?_
   refine o1 ?_;refine nl ?_;have hS9:(aC (xs.map Fr4.q))<0:=gN.1 (Int.sign_neg_iff.1 h3)
   have hv9:(-((aN xs (k9)).q))=aF (aS (xs.map Fr4.q)) k9:=by rw[Fj hS9 (by rw[hll];omega),cU (f:=Fr4.q) (by omega)]
   have hst:(((aS (xs.map Fr4.q)).take k9).flatMap cD).map AV.t++(cD (-((aN xs (k9)).q))).map .t=(((aS (xs.map Fr4.q)).take (k9+1)).flatMap cD).map .t:=by rw[eU,fF (by rw[hEl];omega),←hv9]
   have hA9:∀j,j<k9+1→¬aF (aS (xs.map Fr4.q)) j<0:=fun j hj=>by
    rcases Nat.lt_succ_iff_lt_or_eq.1 hj with h9 | h9
    ·exact hA j h9
    subst h9
    rw[←hv9];exact fun hq9=>h4 (Int.sign_neg_iff.2 (gN.2 hq9))
   exact⟨k9+1,by omega,⟨by omega,hA9⟩,aH h0 [0,4] _ _ (by decide) ⟨rfl,rfl,rfl,rfl,rfl,trivial⟩ ⟨oe rfl rfl,bI (congrArg (fun l=>some (⟨50,4,l⟩:Ob)) hst),rfl⟩⟩
  refine sk ?_;refine sq ?_;refine sq ?_;refine rl ?_;refine ld ?_
  refine ca (hG (Qn.of (p:=(aN xs (k9)).q) ((hzl _ (uT (by omega))).mono (M:=68719476736) (by omega)))) nS ⟨aB rfl,rfl⟩ (.one (tv (.int .i64 ((aN xs (k9)).q).num.sign))) ?_
  refine o1 ?_;refine nl ?_;refine bO rfl (fun h5=>?_) (fun h5=>?_)
  ·refine sq ?_;refine rl ?_;refine o1 ?_;refine nl ?_;refine rt ?_;have hS9:¬(aC (xs.map Fr4.q))<0:=fun hq9=>h3 (Int.sign_neg_iff.2 (gN.2 hq9))
   have hv9:((aN xs (k9)).q)=aF (aS (xs.map Fr4.q)) k9:=by rw[Fk hS9,cU (f:=Fr4.q) (by omega)]
   have hbad:aU (xs.map Fr4.q)=[]:=Kn hden (k:=k9) (by rw[hll];omega) (by rw[←hv9];exact gN.1 (Int.sign_neg_iff.1 h5))
   exact en (.inl rfl) rfl (aW (.one .nilf)) (by decide) (fun h=>by cases h) (by rw[hbad];rfl)
  refine sk ?_;refine rl ?_;refine o1 ?_;refine ld ?_;refine bs 3 ?_
  refine dV (j:=4) aA rfl rfl rfl rfl (.sl rfl (by rw[List.length_map,bQ cS,List.length_take,hEl,Nat.min_eq_left (by omega)])) (.sl rfl rfl rfl) rfl rfl rfl (by omega) (by omega) ?_
  refine o1 ?_;refine nl ?_;refine rl ?_;refine o1 ?_;refine o1 ?_;refine WL.cast (t:=28) (u':=.int .i64 ((k9+1:Nat):Int)) rfl (aJ (by omega)) ?_
  refine o1 ?_;refine nl ?_;have hS9:¬(aC (xs.map Fr4.q))<0:=fun hq9=>h3 (Int.sign_neg_iff.2 (gN.2 hq9))
  have hv9:((aN xs (k9)).q)=aF (aS (xs.map Fr4.q)) k9:=by rw[Fk hS9,cU (f:=Fr4.q) (by omega)]
  have hst:(((aS (xs.map Fr4.q)).take k9).flatMap cD).map AV.t++(cD ((aN xs (k9)).q)).map .t=(((aS (xs.map Fr4.q)).take (k9+1)).flatMap cD).map .t:=by rw[eU,fF (by rw[hEl];omega),←hv9]
  have hA9:∀j,j<k9+1→¬aF (aS (xs.map Fr4.q)) j<0:=fun j hj=>by
   rcases Nat.lt_succ_iff_lt_or_eq.1 hj with h9 | h9
   ·exact hA j h9
   subst h9
   rw[←hv9];exact fun hq9=>h5 (Int.sign_neg_iff.2 (gN.2 hq9))
  exact⟨k9+1,by omega,⟨by omega,hA9⟩,aH h0 [0,4] _ _ (by decide) ⟨rfl,rfl,rfl,rfl,rfl,trivial⟩ ⟨oe rfl rfl,bI (congrArg (fun l=>some (⟨50,4,l⟩:Ob)) hst),rfl⟩⟩
 refine ex ?_;refine sq ?_;have hk0:k9=(aS (xs.map Fr4.q)).length:=by omega
 have htk:(aS (xs.map Fr4.q)).take k9=(aS (xs.map Fr4.q)):=List.take_of_length_le (by omega)
 have hAA:∀j,j<(xs.map Fr4.q).length→¬aF (aS (xs.map Fr4.q)) j<0:=fun j hj=>hA j (by omega)
 refine WP.sub (fz (i:=5) (k:=1) (t:=50) (z:=4) (n:=k9) (l:=((aS (xs.map Fr4.q)).take k9).flatMap cD) rfl rfl rfl (by rw[bQ cS,htk,hk0])) ?_
 refine WP.sub (Vc (i:=5) (v:=.one (.t (.s false 50 4 k9 (((aS (xs.map Fr4.q)).take k9).flatMap cD)))) (v':=.one (.t (sQ false (dS (aS (xs.map Fr4.q)))))) rfl rfl (by rw[htk,wA (n:=k9) hk0.symm])) ?_
 refine rl ?_;refine o1 ?_;refine nl ?_;refine sq ?_;refine rl ?_;refine o1 ?_;refine o1 ?_;refine OU (m:=(dS (aS (xs.map Fr4.q))).length) 2 (by omega) (FI _) ?_
 refine o1 ?_;refine nl ?_;refine sq ?_;refine rl ?_;refine ld ?_
 refine ca (Bo (Qn.of (p:=(aC (xs.map Fr4.q))) (hsz.mono (M:=68719476736) (by omega)))) Wg ⟨aB rfl,rfl⟩ (kF (fl (aC (xs.map Fr4.q)))) ?_
 refine ca (GP (Zn.of (k:=fl (aC (xs.map Fr4.q))) (Nat.le_trans hfs (by omega)))) NG ⟨aB rfl,rfl⟩ (kF (((fl (aC (xs.map Fr4.q))).natAbs:Nat):Int)) ?_
 refine al 3 ?_;refine st ?_;refine nl ?_;refine sq ?_;refine sq ?_;refine rl ?_;refine o1 ?_;refine nl ?_;refine bl ?_
 have hl0:(((fl (aC (xs.map Fr4.q))).natAbs:Nat):Int)=((((fl (aC (xs.map Fr4.q))).natAbs:Nat):Int)-eD (((aS (xs.map Fr4.q)).map fl).take (0))):=by rw[List.take_zero];exact(Int.sub_zero _).symm
 refine lp (γ:=Nat) (fun s=>cG [(4,.one (tv (.int .i64 ((aC (xs.map Fr4.q))).num.sign))),(5,.one (.t (sQ false (dS (aS (xs.map Fr4.q)))))),(9,.one (.sl 0 0 ((dS (aS (xs.map Fr4.q))).length))),(10,.one (.pt 1 0)),(8,.one (.sl 2 0 (s))),(11,.one (tv (.int .i64 ((s:Nat):Int))))]) (fun s=>[(⟨4,1,(bT (List.replicate (dS (aS (xs.map Fr4.q))).length false)).map .t⟩:Ob),⟨34,0,[tv (.bool (aG (((((fl (aC (xs.map Fr4.q))).natAbs:Nat):Int)-eD (((aS (xs.map Fr4.q)).map fl).take (s)))))),.t (sU false (dg 4294967296 ((((fl (aC (xs.map Fr4.q))).natAbs:Nat):Int)-eD (((aS (xs.map Fr4.q)).map fl).take (s))).natAbs))]⟩,⟨34,2,((aQ (((aS (xs.map Fr4.q)).map fl).take s)).flatMap (cB false)).map .t⟩].map some) (fun s=>s≤xs.length) (fun s=>xs.length-s) 0 (Nat.zero_le _) ((nr (i:=8) 4 34 2 rfl rfl rfl rfl).trans (aH h0 [2,3,4] _ _ (by decide) ⟨rfl,rfl,rfl,rfl,rfl,rfl,trivial⟩ ⟨bI rfl,oe rfl (congrArg (fun z:Int=>some (⟨34,0,[tv (.bool (aG z)),.t (sU false (dg 4294967296 z.natAbs))]⟩:Ob)) hl0),bI rfl,rfl⟩)) ?_
 rintro i9 hi9;have hLl:=Vd (i:=i9) (K:=(((fl (aC (xs.map Fr4.q))).natAbs:Nat):Int)) (by rw[Int.natAbs_natCast];exact hfs) hEz hEl12
 refine sq ?_;refine sq ?_;refine rl ?_;(iterate 4 refine o1 ?_);refine nl ?_;refine bO rfl (fun h6=>?_) (fun h6=>?_)
 ·refine sk ?_;refine sq ?_;refine bl ?_;refine sq ?_;refine rl ?_;(iterate 4 refine o1 ?_)
  refine fB ((Fr4.of (aF (aS (xs.map Fr4.q)) (i9))).tr false) (Oa (l:=(aS (xs.map Fr4.q))) (k:=i9) (by omega)) ?_
  refine ca (Bo (Qn.of (p:=(aF (aS (xs.map Fr4.q)) (i9))) ((hEz _ (dM (by omega))).mono (M:=68719476736) (by omega)))) Wg ⟨aB rfl,rfl⟩ (kF (fl (aF (aS (xs.map Fr4.q)) (i9)))) ?_
  refine bs 3 ?_
  refine dV (j:=4) aA rfl rfl rfl rfl (.sl rfl (by rw[List.length_map,bQ (dQ false),cM,List.length_take,List.length_map,hEl,Nat.min_eq_left (by omega)])) (.sl rfl rfl rfl) rfl rfl rfl (by omega) (by omega) ?_
  refine o1 ?_;refine nl ?_;have hfi:(dg 4294967296 (fl (aF (aS (xs.map Fr4.q)) (i9))).natAbs).length≤1000:=Nat.le_trans (nF _) (hEz _ (dM (by omega))).1
  refine rd [1,3,4] (fun i=>[6].contains i) mixed ?_
  refine aX 0 ?_;refine dv 1 ?_;refine dv 2 ?_;refine dv 3 ?_
  refine Om 4 (us:=(cB false (.of (fl (aF (aS (xs.map Fr4.q)) (i9))))).map .t) (FK (ws:=aQ (((aS (xs.map Fr4.q)).map fl).take i9)) (z:=.of (fl (aF (aS (xs.map Fr4.q)) (i9)))) (i:=i9) (by rw[cM,List.length_take,List.length_map,hEl];omega)) ?_
  refine aK 5 rfl (Gx (Zn.of (k:=((((fl (aC (xs.map Fr4.q))).natAbs:Nat):Int)-eD (((aS (xs.map Fr4.q)).map fl).take (i9)))) (Nat.le_trans hLl (by omega))) (Zn.of (k:=(fl (aF (aS (xs.map Fr4.q)) (i9)))) (Nat.le_trans hfi (by omega)))) Wm ⟨aB rfl,aB rfl,rfl⟩ (kF (((((fl (aC (xs.map Fr4.q))).natAbs:Nat):Int)-eD (((aS (xs.map Fr4.q)).map fl).take (i9)))-(fl (aF (aS (xs.map Fr4.q)) (i9))))) ?_
  refine dst 6 ?_;refine aR ?_;refine rl ?_;refine o1 ?_;refine o1 ?_;refine WL.cast (t:=56) (u':=.int .i64 ((i9+1:Nat):Int)) rfl (aJ (by omega)) ?_
  refine o1 ?_;refine nl ?_
  have hst:((aQ (((aS (xs.map Fr4.q)).map fl).take i9)).flatMap (cB false)).map .t++(cB false (.of (fl (aF (aS (xs.map Fr4.q)) (i9))))).map AV.t=((aQ (((aS (xs.map Fr4.q)).map fl).take (i9+1))).flatMap (cB false)).map .t:=by rw[eU,Gd,←Ku (by rw[hEl];omega),←pS (by rw[List.length_map,hEl];omega)]
  have hst2:((((fl (aC (xs.map Fr4.q))).natAbs:Nat):Int)-eD (((aS (xs.map Fr4.q)).map fl).take (i9)))-fl (aF (aS (xs.map Fr4.q)) (i9))=((((fl (aC (xs.map Fr4.q))).natAbs:Nat):Int)-eD (((aS (xs.map Fr4.q)).map fl).take (i9+1))):=by rw[Qu (by rw[List.length_map,hEl];omega),Ku (by rw[hEl];omega)];omega
  exact⟨i9+1,by omega,by omega,aH h0 [0,1,4] _ _ (by decide) ⟨rfl,rfl,rfl,rfl,rfl,rfl,trivial⟩ ⟨bI rfl,oe rfl (congrArg (fun z:Int=>some (⟨34,0,[tv (.bool (aG z)),.t (sU false (dg 4294967296 z.natAbs))]⟩:Ob)) hst2),bI (congrArg (fun l=>some (⟨34,2,l⟩:Ob)) hst),rfl⟩⟩
 refine ex ?_;refine sq ?_;refine bl ?_;have hi0:i9=(aS (xs.map Fr4.q)).length:=by omega
 have hl1:((((fl (aC (xs.map Fr4.q))).natAbs:Nat):Int)-eD (((aS (xs.map Fr4.q)).map fl).take (i9)))=(eO (aS (xs.map Fr4.q))-((0:Nat):Int)):=by rw[List.take_of_length_le (by rw[List.length_map];omega),Vb hden];omega
 have hz1:aQ (((aS (xs.map Fr4.q)).map fl).take i9)=aQ (dY (aS (xs.map Fr4.q)) (0)):=by rw[yE,List.take_of_length_le (by rw[List.length_map];omega)]
 have hg1:List.replicate (dS (aS (xs.map Fr4.q))).length false=kJ (aS (xs.map Fr4.q)) 0:=by rw[JU,gZ]
 have hlf0:=iV hEd
 have hlf1:=nI hEd
 refine lp (γ:=Nat) (fun s=>cG [(4,.one (tv (.int .i64 ((aC (xs.map Fr4.q))).num.sign))),(5,.one (.t (sQ false (dS (aS (xs.map Fr4.q)))))),(8,.one (.sl 0 0 (i9))),(9,.one (.sl 1 0 ((dS (aS (xs.map Fr4.q))).length))),(10,.one (.pt 2 0))]) (fun s=>[(⟨34,2,((aQ (dY (aS (xs.map Fr4.q)) (s))).flatMap (cB false)).map .t⟩:Ob),⟨4,1,(bT (kJ (aS (xs.map Fr4.q)) s)).map .t⟩,⟨34,0,[tv (.bool (aG ((eO (aS (xs.map Fr4.q))-((s:Nat):Int))))),.t (sU false (dg 4294967296 (eO (aS (xs.map Fr4.q))-((s:Nat):Int)).natAbs))]⟩].map some) (fun s=>((s:Nat):Int)≤eO (aS (xs.map Fr4.q))) (fun s=>(eO (aS (xs.map Fr4.q))).toNat-s) 0 (hlf0) (aH h0 [2,0,1] _ _ (by decide) ⟨rfl,rfl,rfl,rfl,rfl,trivial⟩ ⟨bI (congrArg (fun l:List Zi=>some (⟨34,2,(l.flatMap (cB false)).map .t⟩:Ob)) hz1),bI (congrArg (fun l:List Bool=>some (⟨4,1,(bT l).map .t⟩:Ob)) hg1),oe rfl (congrArg (fun z:Int=>some (⟨34,0,[tv (.bool (aG z)),.t (sU false (dg 4294967296 z.natAbs))]⟩:Ob)) hl1),rfl⟩) ?_
 rintro t9 ht9;refine sq ?_;refine sq ?_;refine rl ?_;refine ld ?_
 refine ca (lN (Zn.of (k:=(eO (aS (xs.map Fr4.q))-((t9:Nat):Int))) (Nat.le_trans (Fn hEd hEl12 ht9) (by omega)))) uO ⟨aB rfl,rfl⟩ (.one (tv (.int .i64 (eO (aS (xs.map Fr4.q))-((t9:Nat):Int)).sign))) ?_
 refine o1 ?_;refine nl ?_;refine bO rfl (fun h7=>?_) (fun h7=>?_)
 ·refine sk ?_;refine bl ?_;refine sq ?_;have htl:=Int.sign_pos_iff.1 h7
  have htn:t9<(aS (xs.map Fr4.q)).length:=by omega
  refine rl ?_;refine o1 ?_;refine nl ?_;refine sq ?_;refine sq ?_;refine rl ?_;refine o1 ?_;refine nl ?_;refine bl ?_
  refine lp (γ:=Nat×Int) (fun s=>cG [(4,.one (tv (.int .i64 ((aC (xs.map Fr4.q))).num.sign))),(5,.one (.t (sQ false (dS (aS (xs.map Fr4.q)))))),(8,.one (.sl 0 0 (i9))),(9,.one (.sl 1 0 ((dS (aS (xs.map Fr4.q))).length))),(10,.one (.pt 2 0)),(13,.one (tv (.int .i64 ((s.1:Nat):Int)))),(12,.one (tv (.int .i64 s.2)))]) (fun s=>[(⟨34,2,((aQ (dY (aS (xs.map Fr4.q)) (t9))).flatMap (cB false)).map .t⟩:Ob),⟨4,1,(bT (kJ (aS (xs.map Fr4.q)) t9)).map .t⟩,⟨34,0,[tv (.bool (aG ((eO (aS (xs.map Fr4.q))-((t9:Nat):Int))))),.t (sU false (dg 4294967296 (eO (aS (xs.map Fr4.q))-((t9:Nat):Int)).natAbs))]⟩].map some) (fun s=>s.1≤xs.length∧Bst (fG (aS (xs.map Fr4.q))) (aS (xs.map Fr4.q)).length t9 s.1 s.2) (fun s=>xs.length-s.1) (0,(-1)) ⟨Nat.zero_le _,Bst.zero⟩ (aH h0 [0,1,2] _ _ (by decide) ⟨rfl,rfl,rfl,rfl,rfl,rfl,rfl,trivial⟩ ⟨bI rfl,bI rfl,oe rfl rfl,rfl⟩) ?_
  rintro⟨i8,b9⟩ ⟨hi8,hD⟩;dsimp only at hi8 hD⊢;refine sq ?_;refine sq ?_;refine rl ?_;(iterate 4 refine o1 ?_);refine nl ?_;refine bO rfl (fun h8=>?_) (fun h8=>?_)
  ·refine sk ?_;refine sq ?_;refine bl ?_;refine sq ?_;refine rd [1,2] (fun i=>[].contains i) mixed ?_
   refine dv 0 ?_;refine dv 1 ?_;refine dv 2 ?_;refine Oi 3 (MO (kJ (aS (xs.map Fr4.q)) t9) (k:=i8) (by rw[oJ];omega)) ?_
   refine dv 4 ?_;refine dv 5 ?_;refine WD.splitb (t:=85) rfl (fun h9=>?_) (fun h9=>?_)
   ·refine dv 6 ?_;refine dv 7 ?_;refine dv 8 ?_;refine WD.split (t:=88) rfl rfl (fun h10=>?_) (fun h10=>?_)
    ·refine aY 9 ?_;refine aY 10 ?_;refine aY 11 ?_;refine aY 12 ?_;refine aY 14 ?_;refine aY 15 ?_;refine aY 16 ?_;refine aY 17 ?_;refine aY 13 ?_;refine aY 18 ?_
     refine aY 19 ?_;refine aY 20 ?_;refine dv 21 ?_;refine dv 22 ?_;refine aR ?_;refine kM rfl ?_;refine rl ?_;refine o1 ?_;refine o1 ?_;refine nl ?_;refine rl ?_
     refine o1 ?_;refine o1 ?_;refine WL.cast (t:=79) (u':=.int .i64 ((i8+1:Nat):Int)) rfl (aJ (by omega)) ?_
     refine o1 ?_;refine nl ?_
     exact⟨(i8+1,(i8:Int)),by dsimp only;omega,⟨by dsimp only;omega,hD.first (Kt (show i8<(aS (xs.map Fr4.q)).length by omega) h9) h10⟩,aH h0 [0,1,2] _ _ (by decide) ⟨rfl,rfl,rfl,rfl,rfl,rfl,rfl,trivial⟩ ⟨bI rfl,bI rfl,oe rfl rfl,rfl⟩⟩
    obtain⟨m9,hbm⟩:∃m:Nat,b9=(m:Int):=⟨b9.toNat,by omega⟩
    subst hbm;have hmi:=hD.lt
    refine dv 9 ?_;refine dv 10 ?_;refine dv 11 ?_;refine eF 12 ((Fr4.of (aF (aS (xs.map Fr4.q)) (i8))).tr false) (Oa (l:=(aS (xs.map Fr4.q))) (k:=i8) (by omega)) ?_
    refine dv 14 ?_;refine dv 15 ?_;refine dv 16 ?_;refine eF 17 ((Fr4.of (aF (aS (xs.map Fr4.q)) (m9))).tr false) (Oa (l:=(aS (xs.map Fr4.q))) (k:=m9) (by omega)) ?_
    refine aK 13 rfl (Gw (Qn.of (p:=(aF (aS (xs.map Fr4.q)) (i8))) ((hEz _ (dM (by omega))).mono (M:=68719476736) (by omega))) ((hEz _ (dM (by omega))).mono (by omega))) Wl ⟨aB rfl,rfl⟩ (qF (.of (fc (aF (aS (xs.map Fr4.q)) (i8))))) ?_
    refine aK 18 rfl (Gw (Qn.of (p:=(aF (aS (xs.map Fr4.q)) (m9))) ((hEz _ (dM (by omega))).mono (M:=68719476736) (by omega))) ((hEz _ (dM (by omega))).mono (by omega))) Wl ⟨aB rfl,rfl⟩ (qF (.of (fc (aF (aS (xs.map Fr4.q)) (m9))))) ?_
    refine aK 19 rfl (uR (Qn.of (p:=(fc (aF (aS (xs.map Fr4.q)) (i8)))) ((sR (hEz _ (dM (by omega)))).mono (M:=68719476736) (by omega))) (Qn.of (p:=(fc (aF (aS (xs.map Fr4.q)) (m9)))) ((sR (hEz _ (dM (by omega)))).mono (M:=68719476736) (by omega))) ((sR (hEz _ (dM (by omega)))).mono (by omega)) ((sR (hEz _ (dM (by omega)))).mono (by omega))) Gy ⟨aB rfl,aB rfl,rfl⟩ (.one (tv (.int .i64 ((fc (aF (aS (xs.map Fr4.q)) (i8)))-(fc (aF (aS (xs.map Fr4.q)) (m9)))).num.sign))) ?_
    refine df 20 ?_;refine df 21 ?_;refine df 22 ?_;refine aR ?_;refine bO rfl (fun h11=>?_) (fun h11=>?_)
    ·refine rl ?_;refine o1 ?_;refine o1 ?_;refine nl ?_;refine rl ?_;refine o1 ?_;refine o1 ?_
     refine WL.cast (t:=79) (u':=.int .i64 ((i8+1:Nat):Int)) rfl (aJ (by omega)) ?_
     refine o1 ?_;refine nl ?_
     exact⟨(i8+1,(i8:Int)),by dsimp only;omega,⟨by dsimp only;omega,hD.more (m:=m9) (Kt (show i8<(aS (xs.map Fr4.q)).length by omega) h9) (by have h9:0<fc (aF (aS (xs.map Fr4.q)) i8)-fc (aF (aS (xs.map Fr4.q)) m9):=eR.1 (Int.sign_pos_iff.1 h11);show fc (aF (aS (xs.map Fr4.q)) m9)<fc (aF (aS (xs.map Fr4.q)) i8);grind)⟩,aH h0 [0,1,2] _ _ (by decide) ⟨rfl,rfl,rfl,rfl,rfl,rfl,rfl,trivial⟩ ⟨bI rfl,bI rfl,oe rfl rfl,rfl⟩⟩
    refine sk ?_;refine rl ?_;refine o1 ?_;refine o1 ?_;refine WL.cast (t:=79) (u':=.int .i64 ((i8+1:Nat):Int)) rfl (aJ (by omega)) ?_
    refine o1 ?_;refine nl ?_
    exact⟨(i8+1,(m9:Int)),by dsimp only;omega,⟨by dsimp only;omega,hD.stay (fun hq9=>h11 (Int.sign_pos_iff.2 (eR.2 (by have h8:fc (aF (aS (xs.map Fr4.q)) m9)<fc (aF (aS (xs.map Fr4.q)) i8):=hq9;show 0<fc (aF (aS (xs.map Fr4.q)) i8)-fc (aF (aS (xs.map Fr4.q)) m9);grind))))⟩,aH h0 [0,1,2] _ _ (by decide) ⟨rfl,rfl,rfl,rfl,rfl,rfl,rfl,trivial⟩ ⟨bI rfl,bI rfl,oe rfl rfl,rfl⟩⟩
   refine aY 6 ?_;refine aY 7 ?_;refine aY 8 ?_;refine aY 9 ?_;refine aY 10 ?_;refine aY 11 ?_;refine aY 12 ?_;refine aY 14 ?_;refine aY 15 ?_;refine aY 16 ?_
   refine aY 17 ?_;refine aY 13 ?_;refine aY 18 ?_;refine aY 19 ?_;refine aY 20 ?_;refine aY 21 ?_;refine dv 22 ?_;refine aR ?_;refine eZ rfl ?_;refine sk ?_;refine rl ?_
   refine o1 ?_;refine o1 ?_;refine WL.cast (t:=79) (u':=.int .i64 ((i8+1:Nat):Int)) rfl (aJ (by omega)) ?_
   refine o1 ?_;refine nl ?_
   exact⟨(i8+1,b9),by dsimp only;omega,⟨by dsimp only;omega,hD.given (BO (show i8<(aS (xs.map Fr4.q)).length by omega) h9)⟩,aH h0 [0,1,2] _ _ (by decide) ⟨rfl,rfl,rfl,rfl,rfl,rfl,rfl,trivial⟩ ⟨bI rfl,bI rfl,oe rfl rfl,rfl⟩⟩
  refine ex ?_;refine sq ?_;have hi7:i8=(aS (xs.map Fr4.q)).length:=by omega
  rw[hi7]at hD;have hb9:b9=(((nth (cA (aS (xs.map Fr4.q))) (t9)):Nat):Int):=hD.last htn
  subst hb9;have hlt9:(nth (cA (aS (xs.map Fr4.q))) (t9))<(aS (xs.map Fr4.q)).length:=oV (f:=fG (aS (xs.map Fr4.q))) htn
  have hlt8:(nth (cA (aS (xs.map Fr4.q))) (t9))<(dS (aS (xs.map Fr4.q))).length:=by omega
  have hw9:(nth (cA (aS (xs.map Fr4.q))) (t9))<(aQ (dY (aS (xs.map Fr4.q)) (t9))).length:=by rw[cM,iL];exact hlt9
  have hz9k:fI (aQ (dY (aS (xs.map Fr4.q)) (t9))) (nth (cA (aS (xs.map Fr4.q))) (t9))=.of (aV (dY (aS (xs.map Fr4.q)) (t9)) (nth (cA (aS (xs.map Fr4.q))) (t9))):=oK (by rw[iL];exact hlt9)
  have hK0:=Kk (t:=t9) hEz hlt9
  refine rl ?_;(iterate 3 refine o1 ?_)
  refine rH (JW (kJ (aS (xs.map Fr4.q)) t9) (k:=(nth (cA (aS (xs.map Fr4.q))) (t9))) (v:=true) (by rw[oJ];omega)) (MP (kJ (aS (xs.map Fr4.q)) t9) (by rw[oJ];omega)) ?_
  refine nl ?_;refine sq ?_;refine rd [0,2] (fun i=>[9].contains i) mixed ?_
  refine dv 0 ?_;refine dv 1 ?_;refine dv 2 ?_;refine dv 3 ?_;refine dv 4 ?_
  refine Om 5 (us:=(cB false (.of (aV (dY (aS (xs.map Fr4.q)) (t9)) (nth (cA (aS (xs.map Fr4.q))) (t9))))).map .t) (Yz (z:=.of (aV (dY (aS (xs.map Fr4.q)) (t9)) (nth (cA (aS (xs.map Fr4.q))) (t9)))) hw9 hz9k) ?_
  refine aK 6 rfl (jW (n:=1) (by omega) (by omega)) mQ ⟨a1 rfl,rfl⟩ (kF 1) ?_
  refine aK 7 rfl (nN (Zn.of (k:=(aV (dY (aS (xs.map Fr4.q)) (t9)) (nth (cA (aS (xs.map Fr4.q))) (t9)))) (Nat.le_trans hK0 (by omega))) (Zn.of (k:=1) (by decide))) uQ ⟨aB rfl,aB rfl,rfl⟩ (kF ((aV (dY (aS (xs.map Fr4.q)) (t9)) (nth (cA (aS (xs.map Fr4.q))) (t9)))+1)) ?_
  refine dv 8 ?_;refine Fx 9 (us:=(cB false (.of ((aV (dY (aS (xs.map Fr4.q)) (t9)) (nth (cA (aS (xs.map Fr4.q))) (t9)))+1))).map .t) (Qv hw9) (Za hw9) ?_;refine aR ?_
  refine rd [2] (fun i=>[2,3].contains i) mixed ?_
  refine aX 0 ?_;refine aK 1 rfl (jW (n:=1) (by omega) (by omega)) mQ ⟨a1 rfl,rfl⟩ (kF 1) ?_
  refine aK 2 rfl (Gx (Zn.of (k:=(eO (aS (xs.map Fr4.q))-((t9:Nat):Int))) (Nat.le_trans (Fn hEd hEl12 ht9) (by omega))) (Zn.of (k:=1) (by decide))) Wm ⟨aB rfl,aB rfl,rfl⟩ (kF ((eO (aS (xs.map Fr4.q))-((t9:Nat):Int))-1)) ?_
  refine dst 3 ?_;refine aR ?_
  have hst:(aQ (dY (aS (xs.map Fr4.q)) (t9))).set (nth (cA (aS (xs.map Fr4.q))) (t9)) (.of ((aV (dY (aS (xs.map Fr4.q)) (t9)) (nth (cA (aS (xs.map Fr4.q))) (t9)))+1))=aQ (dY (aS (xs.map Fr4.q)) (t9+1)):=by rw[wE,yF (by omega)]
  have hst2:(eO (aS (xs.map Fr4.q))-((t9:Nat):Int))-1=(eO (aS (xs.map Fr4.q))-((t9+1:Nat):Int)):=by omega
  have hst3:=JV (l:=(aS (xs.map Fr4.q))) (t:=t9) (by omega)
  exact⟨t9+1,by omega,by omega,aH h0 [0,1,2] _ _ (by decide) ⟨rfl,rfl,rfl,rfl,rfl,trivial⟩ ⟨bI (congrArg (fun l:List Zi=>some (⟨34,2,(l.flatMap (cB false)).map .t⟩:Ob)) hst),bI (congrArg (fun l:List Bool=>some (⟨4,1,(bT l).map .t⟩:Ob)) hst3),oe rfl (congrArg (fun z:Int=>some (⟨34,0,[tv (.bool (aG z)),.t (sU false (dg 4294967296 z.natAbs))]⟩:Ob)) hst2),rfl⟩⟩
 refine ex ?_;refine sq ?_;refine sq ?_;refine rl ?_;refine o1 ?_;refine nl ?_;refine bl ?_
 have ht0:aQ (dY (aS (xs.map Fr4.q)) (t9))=aQ (iI (fun x:Int=>-x) (eB (aS (xs.map Fr4.q))) (0)):=by rw[JT,eB,show t9=(eO (aS (xs.map Fr4.q))).toNat from Wk ht9 h7]
 have hlg:(eB (aS (xs.map Fr4.q))).length=xs.length:=by rw[oI,hEl]
 refine lp (γ:=Nat) (fun s=>cG [(4,.one (tv (.int .i64 ((aC (xs.map Fr4.q))).num.sign))),(8,.one (.sl 0 0 (i9))),(14,.one (tv (.int .i64 ((s:Nat):Int))))]) (fun s=>[(⟨34,2,((aQ (iI (fun x:Int=>-x) (eB (aS (xs.map Fr4.q))) (s))).flatMap (cB false)).map .t⟩:Ob)].map some) (fun s=>s≤xs.length∧(s=0∨(aC (xs.map Fr4.q))<0)) (fun s=>xs.length-s) 0 ⟨Nat.zero_le _,.inl rfl⟩ (aH h0 [0] _ _ (by decide) ⟨rfl,rfl,rfl,trivial⟩ ⟨bI (congrArg (fun l:List Zi=>some (⟨34,2,(l.flatMap (cB false)).map .t⟩:Ob)) ht0),rfl⟩) ?_
 rintro e9 ⟨he9,hE⟩;refine sq ?_;refine sq ?_;refine rl ?_;(iterate 5 refine o1 ?_);refine WL.split (t:=123) rfl (fun h12=>?_) (fun h12=>?_)
 ·(iterate 3 refine o1 ?_);refine nl ?_;refine bO rfl (fun h13=>?_) (fun h13=>?_)
  ·refine sk ?_;refine sq ?_;refine bl ?_;have hw8:e9<(eB (aS (xs.map Fr4.q))).length:=by omega
   have hw9:e9<(aQ (iI (fun x:Int=>-x) (eB (aS (xs.map Fr4.q))) (e9))).length:=by rw[cM,mN];exact hw8
   have hz9k:fI (aQ (iI (fun x:Int=>-x) (eB (aS (xs.map Fr4.q))) (e9))) e9=.of (aV (eB (aS (xs.map Fr4.q))) (e9)):=(oK (by rw[mN];exact hw8)).trans (by rw[Ki hw8])
   have hKE:=Au hEz _ (iF hw8)
   refine rl ?_;(iterate 5 refine o1 ?_)
   refine FZ (us:=(cB false (.of (aV (eB (aS (xs.map Fr4.q))) (e9)))).map .t) (Yz (z:=.of (aV (eB (aS (xs.map Fr4.q))) (e9))) hw9 hz9k) ?_
   refine ca (uP (Zn.of (k:=(aV (eB (aS (xs.map Fr4.q))) (e9))) (Nat.le_trans hKE (by omega)))) Gn ⟨aB rfl,rfl⟩ (kF (-(aV (eB (aS (xs.map Fr4.q))) (e9)))) ?_
   refine o1 ?_;refine rH (us:=(cB false (.of (-(aV (eB (aS (xs.map Fr4.q))) (e9))))).map .t) (Qv hw9) (Za hw9) ?_;refine nl ?_;refine rl ?_;refine o1 ?_;refine o1 ?_
   refine WL.cast (t:=128) (u':=.int .i64 ((e9+1:Nat):Int)) rfl (aJ (by omega)) ?_
   refine o1 ?_;refine nl ?_
   have hst:(aQ (iI (fun x:Int=>-x) (eB (aS (xs.map Fr4.q))) (e9))).set e9 (.of (-(aV (eB (aS (xs.map Fr4.q))) (e9))))=aQ (iI (fun x:Int=>-x) (eB (aS (xs.map Fr4.q))) (e9+1)):=by rw[wE,←Yy (f:=(fun x:Int=>-x)) hw8]
   exact⟨e9+1,by omega,⟨by omega,.inr (lC.1 h13)⟩,aH h0 [0] _ _ (by decide) ⟨rfl,rfl,rfl,trivial⟩ ⟨bI (congrArg (fun l:List Zi=>some (⟨34,2,(l.flatMap (cB false)).map .t⟩:Ob)) hst),rfl⟩⟩
  refine ex ?_;refine sq ?_;have hres:(iI (fun x:Int=>-x) (eB (aS (xs.map Fr4.q))) (e9))=aU (xs.map Fr4.q):=by
   rw[Kq hden hAA];by_cases hS:(aC (xs.map Fr4.q))<0
   ·rw[if_pos hS]
    exact absurd (lC.2 hS) h13
   rw[if_neg hS]
   have e0:e9=0:=hE.resolve_right hS
   rw[e0];rfl
  have hln:(aQ (aU (xs.map Fr4.q))).length=i9:=by rw[cM,←hres,mN];omega
  refine WP.sub (fz (i:=8) (k:=0) (t:=34) (z:=2) (n:=i9) (l:=(aQ (iI (fun x:Int=>-x) (eB (aS (xs.map Fr4.q))) (e9))).flatMap (cB false)) rfl rfl rfl (by rw[bQ (dQ false),hres,hln])) ?_
  refine rl ?_;refine o1 ?_;refine o1 ?_;refine nl ?_;refine rt ?_
  exact en (.inl rfl) rfl (aW (.one (.id rfl))) (by decide) (fun h=>by cases h) (by rw[hres];unfold sZ;rw[hln];rfl)
 refine eC ?_;refine eC ?_;refine o1 ?_;refine nl ?_;refine eZ rfl ?_;refine ex ?_;refine sq ?_
 have hres:(iI (fun x:Int=>-x) (eB (aS (xs.map Fr4.q))) (e9))=aU (xs.map Fr4.q):=by
  rw[Kq hden hAA];by_cases hS:(aC (xs.map Fr4.q))<0
  ·rw[if_pos hS]
   exact Kj (by omega)
  rw[if_neg hS]
  have e0:e9=0:=hE.resolve_right hS
  rw[e0];rfl
 have hln:(aQ (aU (xs.map Fr4.q))).length=i9:=by rw[cM,←hres,mN];omega
 refine WP.sub (fz (i:=8) (k:=0) (t:=34) (z:=2) (n:=i9) (l:=(aQ (iI (fun x:Int=>-x) (eB (aS (xs.map Fr4.q))) (e9))).flatMap (cB false)) rfl rfl rfl (by rw[bQ (dQ false),hres,hln])) ?_
 refine rl ?_;refine o1 ?_;refine o1 ?_;refine nl ?_;refine rt ?_
 exact en (.inl rfl) rfl (aW (.one (.id rfl))) (by decide) (fun h=>by cases h) (by rw[hres];unfold sZ;rw[hln];rfl)
theorem Ow {l:List Rat}{n:Nat}(hn:l.length=n) (hz:∀q∈l,Sz 1000 q) (hl:l.length≤12):aD false Tryz.prog 18 [] [.one (.t (.s false 50 4 n (l.flatMap cD)))] (aO (.one (.t (sZ 34 (aQ (aU l)))))):=by
 have h:=Dk (xs:=dS l) (pA hz (by omega)) (rF hz) (by rw[gZ];exact hl)
 rwa[sP,wA hn]at h
theorem Gz {a:Zi}{k b:Int}{xs:List Fr4}(ha:Zn a k) (hk:jH 6 k) (hx:∀x∈xs,x.ok) (hz:∀x∈xs,Sz 7 x.q) (hl:xs.length≤12):aD false Tryz.prog 10 [] [gF a,.one (tv (.int .i64 b)),.one (.t (sQ false xs))] (aO (.tup [.one (.t (sZ 34 (aQ (aU (aM (k:Rat) b (xs.map Fr4.q)))))),.one (tv (.int .i64 (jK b xs.length)))])):=by
 refine bP Tryz.func10 rfl Tryz.ntmps10 rfl aA rfl fun N9 w9 c0 h0=>?_
 refine sq ?_;refine rl ?_;refine bx 0 ?_;refine o1 ?_;refine o1 ?_;refine nl ?_;refine sq ?_;refine rl ?_;refine ld ?_;refine o1 ?_;refine o1 ?_
 refine ca (Sb ha hk hx hz hl) GQ ⟨aB rfl,a1 rfl,a1 rfl,rfl⟩ (.tup [.one (.t (.s false 50 4 (aM (k:Rat) b (xs.map Fr4.q)).length ((aM (k:Rat) b (xs.map Fr4.q)).flatMap cD))),.one (tv (.int .i64 (jK b xs.length)))]) ?_
 (iterate 5 refine o1 ?_);refine nl ?_;refine sq ?_;refine sq ?_;refine rl ?_;refine o1 ?_;refine o1 ?_;refine nl ?_;refine bO rfl (fun h1=>?_) (fun h1=>?_)
 ·refine sq ?_;refine rl ?_;(iterate 3 refine o1 ?_);refine nl ?_;refine rt ?_;have hb9:=Ge h1
  have hX:(aM (k:Rat) b (xs.map Fr4.q))=[]:=mP (by rw[List.length_map];exact hb9)
  exact en (.inl rfl) rfl (iJ (.cons (.one .nilf) (.cons (cF _) .nil))) (by decide) (fun h=>by cases h) (by rw[hX,Bl];rfl)
 refine sk ?_;refine sq ?_;refine rl ?_;refine o1 ?_
 refine ca (Ow (l:=(aM (k:Rat) b (xs.map Fr4.q))) (n:=(aM (k:Rat) b (xs.map Fr4.q)).length) rfl (zK hk hz hl) (wF hl)) GR ⟨a1 rfl,rfl⟩ (.one (.t (sZ 34 (aQ (aU (aM (k:Rat) b (xs.map Fr4.q))))))) ?_
 refine o1 ?_;refine o1 ?_;refine nl ?_;refine rt ?_;have hE0:(jK b xs.length)=0:=Decidable.byContradiction h1
 exact en (.inl rfl) rfl (iJ (.cons (.one (.id rfl)) (.cons (cF _) .nil))) (by decide) (fun h=>by cases h) (by rw[hE0];rfl)
theorem wI {xs:List Nat}(hx:xs.length≤1099511627776):aD true Tryz.prog 68 [] [.one (.t (sU false xs))] (aO (.one (.t (sU true xs)))):=by
 refine bP Tryz.func68 rfl Tryz.ntmps68 rfl aA rfl fun N w c0 h0=>?_
 refine sq ?_;refine rl ?_;refine o1 ?_;refine nl ?_;refine sq ?_;refine rl ?_;refine o1 ?_;refine nl ?_;refine sq ?_;refine rl ?_;refine o1 ?_;refine o1 ?_
 refine dV (j:=0) aA rfl rfl rfl rfl .nil .fz (Sc _) (Ha _) rfl (by omega) (by omega) ?_
 refine o1 ?_;refine nl ?_;refine rt ?_
 exact en (.inl rfl) rfl (aW (.one (.sl rfl rfl (by rw[Nat.zero_add,Nat.mul_one,List.nil_append,List.take_of_length_le (by simp[gS])]) (by simp[gS])))) (by decide) (fun _=>.inl ⟨rfl,fC xs⟩) (by simp[aO,sU])
theorem Zq {xs ys:List Nat}(hx:xs.length≤1099511627776) (hy:ys.length≤1099511627776):aD true Tryz.prog 48 [] [.one (.t (sU false xs)),.one (.t (sU false ys))] (aO (.one (tv (.bool (decide (xs=ys)))))):=by
 refine bP Tryz.func48 rfl Tryz.ntmps48 rfl aA rfl fun N w c0 h0=>?_
 refine sq ?_;refine rl ?_;refine o1 ?_;refine nl ?_;refine sq ?_;refine sq ?_;refine rl ?_;(iterate 5 refine o1 ?_);refine nl ?_;refine bO rfl (fun h1=>?_) (fun h1=>?_)
 ·refine sq ?_;refine rl ?_;refine o1 ?_;refine nl ?_;refine rt ?_;refine en (.inl rfl) rfl (aW (cF _)) (by decide) (fun _=>trivial) (congrArg (fun b=>FV.one (tv (.bool b))) ?_)
  exact(decide_eq_false (fun h=>h1 (by rw[h]))).symm
 refine sk ?_;refine sq ?_;refine sq ?_;refine rl ?_;refine o1 ?_;refine nl ?_;refine bl ?_
 refine lp (γ:=Nat) (fun k=>cG [(0,.one (.t (sU false xs))),(1,.one (.t (sU false ys))),(5,.one (tv (.int .i64 ((k:Nat):Int))))]) (fun k=>[].map some) (fun k=>k≤xs.length∧xs.take k=ys.take k) (fun k=>xs.length-k) 0 (⟨Nat.zero_le _,rfl⟩) (aH h0 [] _ _ (by decide) ⟨rfl,rfl,rfl,trivial⟩ rfl) fun k hk=>?_
 refine sq ?_;refine sq ?_;refine rl ?_;(iterate 4 refine o1 ?_);refine nl ?_;refine bO rfl (fun h2=>?_) (fun h2=>?_)
 ·refine sk ?_;refine sq ?_;refine bl ?_;refine sq ?_;refine rd [] (fun i=>[].contains i) mixed ?_
  refine dv 0 ?_;refine dv 1 ?_;refine dv 2 ?_;refine eF 3 ([.v (.int .u32 ((nth xs (k):Nat):Int))]) (kQ xs (k:=k) (by omega)) ?_
  refine dv 4 ?_;refine dv 5 ?_;refine dv 6 ?_;refine eF 7 ([.v (.int .u32 ((nth ys (k):Nat):Int))]) (kQ ys (k:=k) (by omega)) ?_
  refine dv 8 ?_;refine aR ?_;refine bO rfl (fun h3=>?_) (fun h3=>?_)
  ·refine sq ?_;refine rl ?_;refine o1 ?_;refine nl ?_;refine rt ?_;refine en (.inl rfl) rfl (aW (cF _)) (by decide) (fun _=>trivial) (congrArg (fun b=>FV.one (tv (.bool b))) ?_)
   exact(decide_eq_false (fun h=>h3 (by rw[h]))).symm
  refine sk ?_;refine rl ?_;(iterate 3 refine o1 ?_);refine nl ?_
  exact⟨k+1,by omega,⟨by omega,Wn hk.2 (by omega) (by omega) (by omega)⟩,aH h0 [] _ _ (by decide) ⟨rfl,rfl,rfl,trivial⟩ rfl⟩
 refine ex ?_;refine sq ?_;refine rl ?_;refine o1 ?_;refine nl ?_;refine rt ?_
 refine en (.inl rfl) rfl (aW (cF _)) (by decide) (fun _=>trivial) (congrArg (fun b=>FV.one (tv (.bool b))) ?_)
 exact(decide_eq_true (by rw[←List.take_of_length_le (i:=k) (l:=xs) (by omega),hk.2,List.take_of_length_le (by omega)])).symm
theorem mS {a:Fr4}(ha:a.len 1099511627776):aD true Tryz.prog 24 [] [qF a] (aO (rO a)):=by
 refine bP Tryz.func24 rfl Tryz.ntmps24 rfl aA rfl fun N w c0 h0=>?_
 refine sq ?_;refine rl ?_;refine bx 0 ?_;refine al 1 ?_;refine nl ?_;refine sq ?_;refine rd [0,1] (fun i=>[17].contains i) mixed ?_
 refine dv 0 ?_;refine dv 1 ?_;refine aX 2 ?_;refine dv 3 ?_;refine dv 4 ?_;refine aX 5 ?_;refine dv 8 ?_;refine dv 9 ?_;refine aX 10 ?_;refine dv 11 ?_;refine dv 12 ?_;refine aX 13 ?_
 refine jJ 2 6 rfl (wI ha.1) Ox ⟨a1 rfl,rfl⟩ ?_;refine df 7 ?_;refine jJ 3 14 rfl (wI ha.2) Ox ⟨a1 rfl,rfl⟩ ?_;refine df 15 ?_;refine df 16 ?_;refine dst 17 ?_;refine aR ?_
 refine rt ?_
 exact en (.inl rfl) rfl (aW (.agg (.cons (.id rfl) (.cons (.sl (trs:=aP a.x) rfl rfl (bE _) (bB _)) (.cons (.id rfl) (.cons (.sl (trs:=aP a.y) rfl rfl (bE _) (bB _)) .nil)))))) (by decide) (fun _=>rL a) rfl
theorem CK {a:Fr4}(ha:a.len 1099511627776):aD true Tryz.prog 76 [] [qF a] (aO (rO a)):=by
 refine bP Tryz.func76 rfl Tryz.ntmps76 rfl aA rfl fun N w c0 h0=>?_
 refine sq ?_;refine rl ?_;refine bx 0 ?_;refine al 1 ?_;refine nl ?_;refine sq ?_;refine rd [0,1] (fun i=>[17].contains i) mixed ?_
 refine dv 0 ?_;refine dv 1 ?_;refine aX 2 ?_;refine dv 3 ?_;refine dv 4 ?_;refine aX 5 ?_;refine dv 8 ?_;refine dv 9 ?_;refine aX 10 ?_;refine dv 11 ?_;refine dv 12 ?_;refine aX 13 ?_
 refine jJ 2 6 rfl (wI ha.1) Ox ⟨a1 rfl,rfl⟩ ?_;refine df 7 ?_;refine jJ 3 14 rfl (wI ha.2) Ox ⟨a1 rfl,rfl⟩ ?_;refine df 15 ?_;refine df 16 ?_;refine dst 17 ?_;refine aR ?_
 refine rt ?_
 exact en (.inl rfl) rfl (aW (.agg (.cons (.id rfl) (.cons (.sl (trs:=aP a.x) rfl rfl (bE _) (bB _)) (.cons (.id rfl) (.cons (.sl (trs:=aP a.y) rfl rfl (bE _) (bB _)) .nil)))))) (by decide) (fun _=>rL a) rfl
theorem CL {a b:Fr4}(ha:a.len 1099511627776) (hb:b.len 1099511627776):aD true Tryz.prog 16 [] [qF a,qF b] (aO (.one (tv (.bool (decide (a=b)))))):=by
 refine bP Tryz.func16 rfl Tryz.ntmps16 rfl aA rfl fun N w c0 h0=>?_
 refine sq ?_;refine rl ?_;refine bx 0 ?_;refine bx 1 ?_;refine o1 ?_;refine nl ?_;refine sq ?_;refine rl ?_;refine o1 ?_;refine o1 ?_;refine ld ?_;refine o1 ?_;refine o1 ?_;refine ld ?_
 refine o1 ?_;refine o1 ?_;refine WL.splitb (t:=12) rfl (fun h1=>?_) (fun h1=>?_)
 ·refine o1 ?_;refine o1 ?_;refine ld ?_;refine o1 ?_;refine o1 ?_;refine ld ?_;(iterate 3 refine o1 ?_);refine WL.splitb (t:=21) rfl (fun h2=>?_) (fun h2=>?_)
  ·refine o1 ?_;refine o1 ?_;refine ld ?_;refine o1 ?_;refine o1 ?_;refine ld ?_;refine ca (Zq ha.1 hb.1) GS ⟨a1 rfl,a1 rfl,rfl⟩ (.one (tv (.bool (decide (a.x=b.x))))) ?_
   refine o1 ?_;refine o1 ?_;refine WL.split (t:=30) rfl (fun h3=>?_) (fun h3=>?_)
   ·refine o1 ?_;refine o1 ?_;refine ld ?_;refine o1 ?_;refine o1 ?_;refine ld ?_;refine ca (Zq ha.2 hb.2) GS ⟨a1 rfl,a1 rfl,rfl⟩ (.one (tv (.bool (decide (a.y=b.y))))) ?_
    refine o1 ?_;refine o1 ?_;refine nl ?_;refine rt ?_;exact en (.inl rfl) rfl (aW (cF _)) (by decide) (fun _=>trivial) (congrArg (fun b=>FV.one (tv (.bool b))) (by simp_all [uU]))
   (iterate 7 refine eC ?_);refine o1 ?_;refine o1 ?_;refine nl ?_;refine rt ?_
   exact en (.inl rfl) rfl (aW (cF _)) (by decide) (fun _=>trivial) (congrArg (fun b=>FV.one (tv (.bool b))) (by simp_all [uU]))
  (iterate 7 refine eC ?_);refine o1 ?_;refine o1 ?_;(iterate 7 refine eC ?_);refine o1 ?_;refine o1 ?_;refine nl ?_;refine rt ?_
  exact en (.inl rfl) rfl (aW (cF _)) (by decide) (fun _=>trivial) (congrArg (fun b=>FV.one (tv (.bool b))) (by simp_all [uU]))
 (iterate 7 refine eC ?_);refine o1 ?_;refine o1 ?_;(iterate 7 refine eC ?_);refine o1 ?_;refine o1 ?_;(iterate 7 refine eC ?_);refine o1 ?_;refine o1 ?_;refine nl ?_;refine rt ?_
 exact en (.inl rfl) rfl (aW (cF _)) (by decide) (fun _=>trivial) (congrArg (fun b=>FV.one (tv (.bool b))) (by simp_all [uU]))
theorem qM {n d:Int}(h1:-9223372036854775808≤n) (h2:n≤9223372036854775807) (h3:-9223372036854775808≤d) (h4:d≤9223372036854775807):aD true Tryz.prog 35 [] [.one (tv (.int .i64 n)),.one (tv (.int .i64 d))] (aO (qO (Rat.divInt n d))):=by
 refine bP Tryz.func35 rfl Tryz.ntmps35 rfl aA rfl fun N w c0 h0=>?_
 have hs:=KV h1 h2 h3 h4
 have hl:(Fr4.of (Rat.divInt n d)).len 1099511627776:=⟨Nat.le_trans hs.1 (by omega),Nat.le_trans hs.2 (by omega)⟩
 refine sq ?_;refine rl ?_;refine al 0 ?_;refine nl ?_;refine sq ?_;refine rl ?_;refine o1 ?_;refine o1 ?_
 refine ca (KT h1 h2 h3 h4) NH ⟨a1 rfl,a1 rfl,rfl⟩ (.tup [qF (.of (Rat.divInt n d)),.one (tv (.int .i64 (if d=0 then 20 else 0)))]) ?_;(iterate 3 refine o1 ?_);refine al 1 ?_;refine st ?_
 refine o1 ?_;refine nl ?_;refine sq ?_;refine rl ?_;refine ld ?_;refine fS 2 (CK (a:=.of (Rat.divInt n d)) hl) NI ⟨aB rfl,rfl⟩ ?_;refine st ?_;refine nl ?_;refine rt ?_
 exact en (.inl rfl) rfl (aW (.agg (.cons (.id rfl) (.cons (.sl (trs:=aP (dg 4294967296 (Rat.divInt n d).num.natAbs)) rfl rfl (bE _) (bB _)) (.cons (.id rfl) (.cons (.sl (trs:=aP (dg 4294967296 (Rat.divInt n d).den)) rfl rfl (bE _) (bB _)) .nil)))))) (by decide) (fun _=>uG _) rfl
theorem Hb {a:Zi}{xs:List Fr4}:aD true Tryz.prog 7 [] [gF a,.one (.t (sQ false xs))] (aO (.one (tv (.bool (qL a xs))))):=by
 refine bP Tryz.func7 rfl Tryz.ntmps7 rfl aA rfl fun N9 w9 c0 h0=>?_
 refine WP.sln (i:=1) rfl fun hlen=>?_
 refine sq ?_;refine rl ?_;refine bx 0 ?_;refine o1 ?_;refine nl ?_;refine sq ?_;refine sq ?_;refine rl ?_;refine o1 ?_;refine nl ?_;refine bl ?_
 refine lp (γ:=Nat) (fun s=>cG [(1,.one (.t (sQ false xs))),(2,.one (.pt 0 0)),(5,.one (tv (.int .i64 ((s:Nat):Int))))]) (fun s=>[(⟨24,0,[tv (.bool a.s),.t (sU false a.x)]⟩:Ob)].map some) (fun s=>s≤xs.length∧∀j,j<s→iM (aN xs j)=true) (fun s=>xs.length-s) 0 ⟨Nat.zero_le _,fun j hj=>absurd hj (Nat.not_lt_zero j)⟩ (aH h0 [0] _ _ (by decide) ⟨rfl,rfl,rfl,trivial⟩ ⟨oe rfl rfl,rfl⟩) ?_
 rintro k9 ⟨hk9,hA⟩;refine sq ?_;refine sq ?_;refine rl ?_;(iterate 4 refine o1 ?_);refine nl ?_;refine bO rfl (fun h1=>?_) (fun h1=>?_)
 ·refine sk ?_;refine sq ?_;refine bl ?_;refine sq ?_;refine rl ?_;(iterate 5 refine o1 ?_)
  refine fB ([sU false (aN xs (k9)).x]) (dP (f:=(Fr4.tr false)) (z:=4) (o:=1) (fun _=>rfl) (dN (by omega)) (Nat.le_of_ble_eq_true rfl) rfl) ?_
  (iterate 3 refine o1 ?_);refine WL.split (t:=20) rfl (fun h2=>?_) (fun h2=>?_)
  ·(iterate 8 refine eC ?_);refine o1 ?_;refine nl ?_;refine kM rfl ?_;refine sq ?_;refine rl ?_;refine o1 ?_;refine nl ?_;refine rt ?_
   have hs9:iM (aN xs k9)=false:=by simp only[iM,Bool.and_eq_false_iff,decide_eq_false_iff_not];left;omega
   exact lL (.inl rfl) rfl (Lk (a:=a) (by omega) hs9)
  (iterate 5 refine o1 ?_);refine fB ([sU false (aN xs (k9)).y]) (dP (f:=(Fr4.tr false)) (z:=4) (o:=3) (fun _=>rfl) (dN (by omega)) (Nat.le_of_ble_eq_true rfl) rfl) ?_
  (iterate 3 refine o1 ?_);refine nl ?_;refine bO rfl (fun h3=>?_) (fun h3=>?_)
  ·refine sq ?_;refine rl ?_;refine o1 ?_;refine nl ?_;refine rt ?_
   have hs9:iM (aN xs k9)=false:=by simp only[iM,Bool.and_eq_false_iff,decide_eq_false_iff_not];right;omega
   exact lL (.inl rfl) rfl (Lk (a:=a) (by omega) hs9)
  refine sk ?_;refine rl ?_;refine o1 ?_;refine o1 ?_;refine WL.cast (t:=11) (u':=.int .i64 ((k9+1:Nat):Int)) rfl (aJ (by omega)) ?_
  refine o1 ?_;refine nl ?_;have hs9:iM (aN xs k9)=true:=by simp only[iM,Bool.and_eq_true,decide_eq_true_eq];exact⟨by omega,by omega⟩
  exact⟨k9+1,by omega,⟨by omega,KW (f:=fun j=>iM (aN xs j)) hA hs9⟩,aH h0 [0] _ _ (by decide) ⟨rfl,rfl,rfl,trivial⟩ ⟨oe rfl rfl,rfl⟩⟩
 refine ex ?_;refine sq ?_;refine rl ?_;refine o1 ?_;refine ld ?_;(iterate 3 refine o1 ?_);refine WL.split (t:=34) rfl (fun h4=>?_) (fun h4=>?_)
 ·(iterate 5 refine o1 ?_);refine nl ?_;refine rt ?_;have hy9:=Gh (a:=a) (k:=k9) hA (by omega)
  exact lL (.inl rfl) rfl (by rw[←hy9,decide_eq_true (show a.x.length≤6 by omega),Bool.true_and];exact decide_eq_decide.2 (by omega))
 (iterate 3 refine eC ?_);refine o1 ?_;refine o1 ?_;refine nl ?_;refine rt ?_;have hy9:=Gh (a:=a) (k:=k9) hA (by omega)
 exact lL (.inl rfl) rfl (by rw[←hy9,decide_eq_false (show¬a.x.length≤6 by omega),Bool.false_and])
theorem wJ {a:Zi}(hl:a.x.length≤1000000):aD true Tryz.prog 11 [] [gF a] (aO (gO a)):=by
 refine bP Tryz.func11 rfl Tryz.ntmps11 rfl aA rfl fun N9 w9 c0 h0=>?_
 refine sq ?_;refine rl ?_;refine bx 0 ?_;refine al 1 ?_;refine nl ?_;refine sq ?_;refine rl ?_;refine o1 ?_;refine ld ?_;refine o1 ?_;refine al 2 ?_;refine st ?_;refine nl ?_
 refine sq ?_;refine rl ?_;refine o1 ?_;refine ld ?_;refine o1 ?_;refine ld ?_;refine dV (j:=3) aA rfl rfl rfl rfl .nil .fz (Sc _) (Ha _) rfl (by omega) (by omega) ?_
 refine o1 ?_;refine st ?_;refine nl ?_;refine sq ?_;refine rl ?_;refine ld ?_;refine st ?_;refine nl ?_;refine rt ?_
 exact en (.inl rfl) rfl (aW (.agg (.cons (.id rfl) (.cons (.sl (trs:=aP a.x) rfl rfl (by rw[Nat.zero_add];exact bE _) (by rw[Nat.zero_add];exact bB _)) .nil)))) (by decide) (fun _=>⟨trivial,.inl ⟨rfl,fC _⟩,trivial⟩) (by rw[Nat.zero_add];rfl)
theorem Sd {xs:List Fr4}(hs:∀x∈xs,x.len 1099511627776) (hl:xs.length≤12):aD false Tryz.prog 9 [] [.one (.t (sQ false xs))] (aO (.one (.t (sQ false xs)))):=by
 refine bP Tryz.func9 rfl Tryz.ntmps9 rfl aA rfl fun N9 w9 c0 h0=>?_
 refine sq ?_;refine rl ?_;refine o1 ?_;refine nl ?_;refine sq ?_;refine rl ?_;refine o1 ?_;refine nl ?_;refine sq ?_;refine sq ?_;refine rl ?_;refine o1 ?_;refine nl ?_;refine bl ?_
 refine lp (γ:=Nat) (fun s=>cG [(0,.one (.t (sQ false xs))),(3,.one (.sl 0 0 (s))),(4,.one (tv (.int .i64 ((s:Nat):Int))))]) (fun s=>[(⟨50,4,((xs.take s).flatMap (Fr4.tr false)).map .t⟩:Ob)].map some) (fun s=>s≤xs.length) (fun s=>xs.length-s) 0 (Nat.zero_le _) ((nr (i:=3) 0 50 4 rfl rfl rfl rfl).trans (aH h0 [0] _ _ (by decide) ⟨rfl,rfl,rfl,trivial⟩ ⟨bI rfl,rfl⟩)) ?_
 rintro k9 hk9;refine sq ?_;refine sq ?_;refine rl ?_;(iterate 4 refine o1 ?_);refine nl ?_;refine bO rfl (fun h1=>?_) (fun h1=>?_)
 ·refine sk ?_;refine sq ?_;refine bl ?_;refine rl ?_;(iterate 4 refine o1 ?_)
  refine fB ((Fr4.tr false) (aN xs (k9))) (dP (f:=(Fr4.tr false)) (z:=4) (o:=0) (fun _=>rfl) (dN (by omega)) (Nat.le_of_ble_eq_true rfl) rfl) ?_
  refine ca (mS (a:=(aN xs (k9))) (hs _ (aT (by omega)))) Bp ⟨aB rfl,rfl⟩ (qF (aN xs (k9))) ?_
  refine bs 1 ?_
  refine dV (j:=2) aA rfl rfl rfl rfl (.sl rfl (by rw[List.length_map,bQ (f:=Fr4.tr false) (z:=4) (fun _=>rfl),List.length_take,Nat.min_eq_left (by omega)])) (.sl rfl rfl rfl) rfl rfl rfl (by omega) (by omega) ?_
  refine o1 ?_;refine nl ?_;refine rl ?_;refine o1 ?_;refine o1 ?_;refine WL.cast (t:=10) (u':=.int .i64 ((k9+1:Nat):Int)) rfl (aJ (by omega)) ?_
  refine o1 ?_;refine nl ?_
  have hst:((xs.take k9).flatMap (Fr4.tr false)).map AV.t++((aN xs (k9)).tr false).map .t=((xs.take (k9+1)).flatMap (Fr4.tr false)).map .t:=by rw[eU,List.take_add_one,dN (by omega)];rfl
  exact⟨k9+1,by omega,by omega,aH h0 [2] _ _ (by decide) ⟨rfl,rfl,rfl,trivial⟩ ⟨bI (congrArg (fun l=>some (⟨50,4,l⟩:Ob)) hst),rfl⟩⟩
 refine ex ?_;refine sq ?_;have hk0:k9=xs.length:=by omega
 have htk:xs.take k9=xs:=List.take_of_length_le (by omega)
 refine WP.sub (fz (i:=3) (k:=0) (t:=50) (z:=4) (n:=k9) (l:=(xs.take k9).flatMap (Fr4.tr false)) rfl rfl rfl (by rw[bQ (f:=Fr4.tr false) (z:=4) (fun _=>rfl),htk,hk0])) ?_
 refine rl ?_;refine o1 ?_;refine o1 ?_;refine nl ?_;refine rt ?_;exact en (.inl rfl) rfl (aW (.one (.id rfl))) (by decide) (fun h=>by cases h) (by rw[htk,hk0];rfl)
theorem Wo {k:Int}(h:(dg 4294967296 k.natAbs).length≤1000000):aD true Tryz.prog 22 [] [kF k] (aO (.one (tv (.bool true)))):=by
 have h1:=rM (a:=.of k) (k:=k) (Zg.of (Nat.le_trans h (by omega)))
 rw[show cQ (Zi.of k).s (Zi.of k).x=true from pZ k]at h1
 exact h1
theorem Se {a:Zi}{k:Int}(ha:Zn a k):aD true Tryz.prog 19 [] [gF a,gF a] (aO (.one (tv (.int .i64 0)))):=by
 have h:=Gj ha ha
 rw[Int.sub_self]at h
 exact h
theorem Hc {a b:Fr4}(h:a=b) (hb:b.len 1099511627776):aD true Tryz.prog 16 [] [qF a,qF b] (aO (.one (tv (.bool true)))):=by
 subst h
 have h1:=CL hb hb
 rwa[decide_eq_true rfl]at h1
theorem Lp {l:List Int}(hs:∀k∈l,(dg 4294967296 k.natAbs).length≤1000000):aD true Tryz.prog 15 [] [.one (.t (sZ 24 (aQ l))),.one (.t (sZ 34 (aQ l)))] (aO (.one (tv (.bool true)))):=by
 refine bP Tryz.func15 rfl Tryz.ntmps15 rfl aA rfl fun N9 w9 c0 h0=>?_
 refine WP.sln (i:=0) rfl fun hlen=>?_
 refine sq ?_;refine rl ?_;refine o1 ?_;refine nl ?_;refine sq ?_;refine sq ?_;refine rl ?_;(iterate 5 refine o1 ?_);refine nl ?_;refine bO rfl (fun h1=>?_) (fun h1=>?_)
 ·exact absurd rfl h1
 refine sk ?_;refine sq ?_;refine sq ?_;refine rl ?_;refine o1 ?_;refine nl ?_;refine bl ?_
 refine lp (γ:=Nat) (fun s=>cG [(0,.one (.t (sZ 24 (aQ l)))),(1,.one (.t (sZ 34 (aQ l)))),(5,.one (tv (.int .i64 ((s:Nat):Int))))]) (fun s=>([]:List Ob).map some) (fun s=>s≤(aQ l).length) (fun s=>(aQ l).length-s) 0 (Nat.zero_le _) (aH h0 [] _ _ (by decide) ⟨rfl,rfl,rfl,trivial⟩ rfl) ?_
 rintro k9 hk9;refine sq ?_;refine sq ?_;refine rl ?_;(iterate 4 refine o1 ?_);refine nl ?_;refine bO rfl (fun h2=>?_) (fun h2=>?_)
 ·refine sk ?_;refine sq ?_;refine bl ?_;refine sq ?_;refine rd [] (fun i=>[].contains i) mixed ?_
  refine dv 0 ?_;refine dv 1 ?_;refine dv 2 ?_;refine eF 3 ((cB false (.of (aV l (k9))))) (oC (l:=l) (k:=k9) (by rw[cM]at*;omega)) ?_
  refine aK 4 rfl (Wo (k:=(aV l (k9))) (hs _ (iF (by rw[cM]at*;omega)))) Hd ⟨aB rfl,rfl⟩ (.one (tv (.bool true))) ?_
  refine df 5 ?_;refine df 6 ?_;refine dv 7 ?_;refine dv 8 ?_;refine dv 9 ?_;refine eF 10 ((cB false (.of (aV l (k9))))) (oC (l:=l) (k:=k9) (by rw[cM]at*;omega)) ?_
  refine dv 12 ?_;refine dv 13 ?_;refine dv 14 ?_;refine eF 15 ((cB false (.of (aV l (k9))))) (oC (l:=l) (k:=k9) (by rw[cM]at*;omega)) ?_
  refine aK 11 rfl (wJ (a:=.of (aV l (k9))) (Nat.le_trans (hs _ (iF (by rw[cM]at*;omega))) (by omega))) Bq ⟨aB rfl,rfl⟩ (kF (aV l (k9))) ?_
  refine aK 16 rfl (Se (Zn.of (k:=(aV l (k9))) (Nat.le_trans (hs _ (iF (by rw[cM]at*;omega))) (by omega)))) Ot ⟨aB rfl,aB rfl,rfl⟩ (.one (tv (.int .i64 0))) ?_
  refine df 17 ?_;refine df 18 ?_;refine aR ?_;refine bO rfl (fun h3=>?_) (fun h3=>?_)
  ·exact absurd rfl h3
  refine sk ?_;refine rl ?_;refine o1 ?_;refine o1 ?_;refine WL.cast (t:=16) (u':=.int .i64 ((k9+1:Nat):Int)) rfl (aJ (by omega)) ?_
  refine o1 ?_;refine nl ?_;exact⟨k9+1,by omega,by omega,aH h0 [] _ _ (by decide) ⟨rfl,rfl,rfl,trivial⟩ rfl⟩
 refine ex ?_;refine sq ?_;refine rl ?_;refine o1 ?_;refine nl ?_;refine rt ?_;exact lL (.inl rfl) rfl (rfl)
theorem Wp {k:Int}(h:lB k=true):aD true Tryz.prog 79 [] [kF k] (aO (.tup [.one (tv (.int .i64 k)),.one (tv (.bool true))])):=by
 have h2:-9223372036854775808≤k∧k≤9223372036854775807:=of_decide_eq_true h
 have h1:=Ga (Zn.of (k:=k) (Nat.le_trans (lW h2.1 h2.2) (by omega)))
 rw[h,if_pos rfl]at h1
 exact h1
theorem zM {l:List Int}(hs:∀k∈l,lB k=true):aD true Tryz.prog 37 [] [.one (.t (sZ 24 (aQ l))),.one (.t (.s false 2 1 l.length (iT l)))] (aO (.one (tv (.bool true)))):=by
 refine bP Tryz.func37 rfl Tryz.ntmps37 rfl aA rfl fun N9 w9 c0 h0=>?_
 refine WP.sln (i:=0) rfl fun hlen=>?_
 have hzl:(aQ l).length=l.length:=cM l
 refine sq ?_;refine rl ?_;refine o1 ?_;refine nl ?_;refine sq ?_;refine sq ?_;refine rl ?_;(iterate 5 refine o1 ?_);refine nl ?_;refine bO rfl (fun h1=>?_) (fun h1=>?_)
 ·exact absurd (by rw[hzl]) h1
 refine sk ?_;refine sq ?_;refine sq ?_;refine rl ?_;refine o1 ?_;refine nl ?_;refine bl ?_
 refine lp (γ:=Nat) (fun s=>cG [(0,.one (.t (sZ 24 (aQ l)))),(1,.one (.t (.s false 2 1 l.length (iT l)))),(5,.one (tv (.int .i64 ((s:Nat):Int))))]) (fun s=>([]:List Ob).map some) (fun s=>s≤(aQ l).length) (fun s=>(aQ l).length-s) 0 (Nat.zero_le _) (aH h0 [] _ _ (by decide) ⟨rfl,rfl,rfl,trivial⟩ rfl) ?_
 rintro k9 hk9;refine sq ?_;refine sq ?_;refine rl ?_;(iterate 4 refine o1 ?_);refine nl ?_;refine bO rfl (fun h2=>?_) (fun h2=>?_)
 ·refine sk ?_;refine sq ?_;refine bl ?_;refine sq ?_;refine rl ?_;(iterate 3 refine o1 ?_)
  refine fB ((cB false (.of (aV l (k9))))) (oC (l:=l) (k:=k9) (by rw[cM]at*;omega)) ?_
  refine ca (Wp (k:=(aV l (k9))) (hs _ (iF (by rw[cM]at*;omega)))) GH ⟨aB rfl,rfl⟩ (.tup [.one (tv (.int .i64 (aV l (k9)))),.one (tv (.bool true))]) ?_
  (iterate 5 refine o1 ?_);refine nl ?_;refine sq ?_;refine rl ?_;(iterate 7 refine o1 ?_);refine fB ([.v (.int .i64 (aV l (k9)))]) (KR (l:=l) (k:=k9) (by omega)) ?_
  refine o1 ?_;refine o1 ?_;refine nl ?_;refine bO rfl (fun h3=>?_) (fun h3=>?_)
  ·exact absurd rfl h3
  refine sk ?_;refine rl ?_;refine o1 ?_;refine o1 ?_;refine WL.cast (t:=18) (u':=.int .i64 ((k9+1:Nat):Int)) rfl (aJ (by omega)) ?_
  refine o1 ?_;refine nl ?_;exact⟨k9+1,by omega,by omega,aH h0 [] _ _ (by decide) ⟨rfl,rfl,rfl,trivial⟩ rfl⟩
 refine ex ?_;refine sq ?_;refine rl ?_;refine o1 ?_;refine nl ?_;refine rt ?_;exact lL (.inl rfl) rfl (rfl)
theorem jX {k b:Int}{ws:List Rat}{l:List Int}(hk:k.natAbs<4294967296^6) (h:aU (aM (k:Rat) b ws)=l) (hE:jK b ws.length=0) (hs:∀q∈ws,q.num.natAbs<4294967296^7∧q.den<4294967296^7) (hl:ws.length≤12):aD false Tryz.prog 13 [] [kF k,.one (tv (.int .i64 b)),.one (.t (sQ false (dS ws)))] (aO (.tup [.one (.t (.s true 24 2 l.length ((aQ l).flatMap (cB true)))),.one (tv (.int .i64 0))])):=by
 have hz:∀q∈ws,Sz 7 q:=fun q hq=>⟨cH (by omega) (hs q hq).1,cH (by omega) (hs q hq).2⟩
 have hsz:jH 6 k:=cH (by omega) hk
 have h1:=sS (a:=.of k) (k:=k) (b:=b) (xs:=dS ws) (Zn.of (Nat.le_trans hsz (by omega))) hsz (pA hz (by omega)) (rF hz) (by rw[gZ];exact hl)
 rw[sP,gZ,hE,h]at h1
 unfold zI at h1
 rw[cM]at h1
 exact h1
theorem iX:aD true Tryz.prog 8 [] [] (aO (.one (tv (.bool true)))):=by
 refine bP Tryz.func8 rfl Tryz.ntmps8 rfl aA rfl fun N9 w9 c0 h0=>?_
 refine sq ?_;refine rl ?_;refine o1 ?_;refine nl ?_;refine sq ?_;refine rl ?_
 refine ca (qM (n:=1) (d:=1) (by omega) (by omega) (by omega) (by omega)) qN ⟨a1 rfl,a1 rfl,rfl⟩ (qF (.of (Rat.divInt 1 1))) ?_
 refine ca (qM (n:=2) (d:=1) (by omega) (by omega) (by omega) (by omega)) qN ⟨a1 rfl,a1 rfl,rfl⟩ (qF (.of (Rat.divInt 2 1))) ?_
 refine ca (qM (n:=4) (d:=1) (by omega) (by omega) (by omega) (by omega)) qN ⟨a1 rfl,a1 rfl,rfl⟩ (qF (.of (Rat.divInt 4 1))) ?_
 refine al 0 ?_;refine al 1 ?_;refine al 2 ?_;(iterate 3 refine st ?_);refine nl ?_
 refine md (γ:=Unit) (fun _=>cG [(1,.one (.pt 0 0)),(2,.one (.pt 1 0)),(3,.one (.pt 2 0)),(4,.one (.t (.s false 24 2 ([34,33,33]:List Int).length ((aQ [34,33,33]).flatMap (cB true))))),(5,.one (tv (.int .i64 ((0:Nat):Int))))]) (fun _=>([⟨48,0,((Fr4.of (Rat.divInt 1 1)).tr false).map .t⟩,⟨48,0,((Fr4.of (Rat.divInt 2 1)).tr false).map .t⟩,⟨48,0,((Fr4.of (Rat.divInt 4 1)).tr false).map .t⟩]:List Ob).map some) (fun _=>True) ?_ fun _ _=>?_
 ·refine rd [0,1,2] (fun i=>[10].contains i) mixed ?_
  refine aX 1 ?_;refine aX 2 ?_;refine aX 3 ?_;refine WO.two (i:=0) (j:=4) (by kernel_rfl) ?_ ?_
  ·refine cY 0 rfl (gI (n:=100) (by omega) (by omega)) gJ ⟨a1 rfl,rfl⟩ (kF 100) ?_
   refine sO (key:=3) 4 (by kernel_rfl) rfl rfl aA rfl ⟨rfl,rfl,rfl,trivial⟩ ?_
   refine uK (i:=22) (k:=3) (t:=48) (t':=50) (z:=4) (n:=3) (l:=(dS [(Rat.divInt 1 1),(Rat.divInt 1 1),(Rat.divInt 1 1)]).flatMap (Fr4.tr false)) rfl rfl rfl rfl (.one .sl) (by rfl) (by rfl) ?_
   refine aK 5 rfl (jX (k:=100) (b:=0) (ws:=[(Rat.divInt 1 1),(Rat.divInt 1 1),(Rat.divInt 1 1)]) (l:=[34,33,33]) (by decide) (by decide+kernel) (by decide+kernel) (by decide+kernel) (by decide)) pE ⟨aB rfl,a1 rfl,a1 rfl,rfl⟩ (.tup [.one (.t (.s false 24 2 ([34,33,33]:List Int).length ((aQ [34,33,33]).flatMap (cB true)))),.one (tv (.int .i64 0))]) ?_
   refine df 6 ?_;refine df 7 ?_;refine df 8 ?_;refine dH 9 (by kernel_rfl) rfl rfl aA rfl (by trivial) ?_ (fun h=>by first | rfl | cases h)
   refine dH 10 (by kernel_rfl) rfl rfl aA rfl (by trivial) ?_ (fun h=>by first | rfl | cases h)
   refine aR ?_;exact⟨(),trivial,aH h0 [0,1,2] _ _ (by decide) ⟨rfl,rfl,rfl,rfl,rfl,trivial⟩ ⟨oe rfl rfl,oe rfl rfl,oe rfl rfl,rfl⟩⟩
  refine Oy (key:=3) 4 rfl rfl ⟨rfl,rfl,rfl,trivial⟩ ?_
  refine uK (i:=22) (k:=3) (t:=48) (t':=50) (z:=4) (n:=3) (l:=(dS [(Rat.divInt 1 1),(Rat.divInt 1 1),(Rat.divInt 1 1)]).flatMap (Fr4.tr false)) rfl rfl rfl rfl (.one .sl) (by rfl) (by rfl) ?_
  refine aK 0 rfl (gI (n:=100) (by omega) (by omega)) gJ ⟨a1 rfl,rfl⟩ (kF 100) ?_
  refine aK 5 rfl (jX (k:=100) (b:=0) (ws:=[(Rat.divInt 1 1),(Rat.divInt 1 1),(Rat.divInt 1 1)]) (l:=[34,33,33]) (by decide) (by decide+kernel) (by decide+kernel) (by decide+kernel) (by decide)) pE ⟨aB rfl,a1 rfl,a1 rfl,rfl⟩ (.tup [.one (.t (.s false 24 2 ([34,33,33]:List Int).length ((aQ [34,33,33]).flatMap (cB true)))),.one (tv (.int .i64 0))]) ?_
  refine df 6 ?_;refine df 7 ?_;refine df 8 ?_;refine dH 9 (by kernel_rfl) rfl rfl aA rfl (by trivial) ?_ (fun h=>by first | rfl | cases h)
  refine dH 10 (by kernel_rfl) rfl rfl aA rfl (by trivial) ?_ (fun h=>by first | rfl | cases h)
  refine aR ?_;exact⟨(),trivial,aH h0 [0,1,2] _ _ (by decide) ⟨rfl,rfl,rfl,rfl,rfl,trivial⟩ ⟨oe rfl rfl,oe rfl rfl,oe rfl rfl,rfl⟩⟩
 refine md (γ:=Unit) (fun _=>cG [(1,.one (.pt 0 0)),(2,.one (.pt 1 0)),(3,.one (.pt 2 0)),(4,.one (.t (.s false 24 2 ([34,33,33]:List Int).length ((aQ [34,33,33]).flatMap (cB true))))),(5,.one (tv (.int .i64 ((0:Nat):Int)))),(6,.one (.t (.s false 24 2 ([1,1,0]:List Int).length ((aQ [1,1,0]).flatMap (cB true)))))]) (fun _=>([⟨48,0,((Fr4.of (Rat.divInt 1 1)).tr false).map .t⟩,⟨48,0,((Fr4.of (Rat.divInt 2 1)).tr false).map .t⟩,⟨48,0,((Fr4.of (Rat.divInt 4 1)).tr false).map .t⟩]:List Ob).map some) (fun _=>True) ?_ fun _ _=>?_
 ·refine rd [0,1,2] (fun i=>[10].contains i) mixed ?_
  refine aX 1 ?_;refine aX 2 ?_;refine aX 3 ?_;refine WO.two (i:=0) (j:=4) (by kernel_rfl) ?_ ?_
  ·refine cY 0 rfl (gI (n:=2) (by omega) (by omega)) gJ ⟨a1 rfl,rfl⟩ (kF 2) ?_
   refine sO (key:=3) 4 (by kernel_rfl) rfl rfl aA rfl ⟨rfl,rfl,rfl,trivial⟩ ?_
   refine uK (i:=31) (k:=3) (t:=48) (t':=50) (z:=4) (n:=3) (l:=(dS [(Rat.divInt 1 1),(Rat.divInt 1 1),(Rat.divInt 1 1)]).flatMap (Fr4.tr false)) rfl rfl rfl rfl (.one .sl) (by rfl) (by rfl) ?_
   refine aK 5 rfl (jX (k:=2) (b:=0) (ws:=[(Rat.divInt 1 1),(Rat.divInt 1 1),(Rat.divInt 1 1)]) (l:=[1,1,0]) (by decide) (by decide+kernel) (by decide+kernel) (by decide+kernel) (by decide)) pE ⟨aB rfl,a1 rfl,a1 rfl,rfl⟩ (.tup [.one (.t (.s false 24 2 ([1,1,0]:List Int).length ((aQ [1,1,0]).flatMap (cB true)))),.one (tv (.int .i64 0))]) ?_
   refine df 6 ?_;refine df 7 ?_;refine df 8 ?_;refine dH 9 (by kernel_rfl) rfl rfl aA rfl (by trivial) ?_ (fun h=>by first | rfl | cases h)
   refine dH 10 (by kernel_rfl) rfl rfl aA rfl (by trivial) ?_ (fun h=>by first | rfl | cases h)
   refine aR ?_;exact⟨(),trivial,aH h0 [0,1,2] _ _ (by decide) ⟨rfl,rfl,rfl,rfl,rfl,rfl,trivial⟩ ⟨oe rfl rfl,oe rfl rfl,oe rfl rfl,rfl⟩⟩
  refine Oy (key:=3) 4 rfl rfl ⟨rfl,rfl,rfl,trivial⟩ ?_
  refine uK (i:=31) (k:=3) (t:=48) (t':=50) (z:=4) (n:=3) (l:=(dS [(Rat.divInt 1 1),(Rat.divInt 1 1),(Rat.divInt 1 1)]).flatMap (Fr4.tr false)) rfl rfl rfl rfl (.one .sl) (by rfl) (by rfl) ?_
  refine aK 0 rfl (gI (n:=2) (by omega) (by omega)) gJ ⟨a1 rfl,rfl⟩ (kF 2) ?_
  refine aK 5 rfl (jX (k:=2) (b:=0) (ws:=[(Rat.divInt 1 1),(Rat.divInt 1 1),(Rat.divInt 1 1)]) (l:=[1,1,0]) (by decide) (by decide+kernel) (by decide+kernel) (by decide+kernel) (by decide)) pE ⟨aB rfl,a1 rfl,a1 rfl,rfl⟩ (.tup [.one (.t (.s false 24 2 ([1,1,0]:List Int).length ((aQ [1,1,0]).flatMap (cB true)))),.one (tv (.int .i64 0))]) ?_
  refine df 6 ?_;refine df 7 ?_;refine df 8 ?_;refine dH 9 (by kernel_rfl) rfl rfl aA rfl (by trivial) ?_ (fun h=>by first | rfl | cases h)
  refine dH 10 (by kernel_rfl) rfl rfl aA rfl (by trivial) ?_ (fun h=>by first | rfl | cases h)
  refine aR ?_;exact⟨(),trivial,aH h0 [0,1,2] _ _ (by decide) ⟨rfl,rfl,rfl,rfl,rfl,rfl,trivial⟩ ⟨oe rfl rfl,oe rfl rfl,oe rfl rfl,rfl⟩⟩
 refine md (γ:=Unit) (fun _=>cG [(1,.one (.pt 0 0)),(2,.one (.pt 1 0)),(3,.one (.pt 2 0)),(4,.one (.t (.s false 24 2 ([34,33,33]:List Int).length ((aQ [34,33,33]).flatMap (cB true))))),(5,.one (tv (.int .i64 ((0:Nat):Int)))),(6,.one (.t (.s false 24 2 ([1,1,0]:List Int).length ((aQ [1,1,0]).flatMap (cB true))))),(8,.one (.t (.s false 24 2 ([-34,-33,-33]:List Int).length ((aQ [-34,-33,-33]).flatMap (cB true)))))]) (fun _=>([⟨48,0,((Fr4.of (Rat.divInt 1 1)).tr false).map .t⟩,⟨48,0,((Fr4.of (Rat.divInt 2 1)).tr false).map .t⟩,⟨48,0,((Fr4.of (Rat.divInt 4 1)).tr false).map .t⟩]:List Ob).map some) (fun _=>True) ?_ fun _ _=>?_
 ·refine rd [0,1,2] (fun i=>[10].contains i) mixed ?_
  refine aX 1 ?_;refine aX 2 ?_;refine aX 3 ?_;refine WO.two (i:=0) (j:=4) (by kernel_rfl) ?_ ?_
  ·refine cY 0 rfl (gI (n:=(-100)) (by omega) (by omega)) gJ ⟨a1 rfl,rfl⟩ (kF (-100)) ?_
   refine sO (key:=3) 4 (by kernel_rfl) rfl rfl aA rfl ⟨rfl,rfl,rfl,trivial⟩ ?_
   refine uK (i:=40) (k:=3) (t:=48) (t':=50) (z:=4) (n:=3) (l:=(dS [(Rat.divInt 1 1),(Rat.divInt 1 1),(Rat.divInt 1 1)]).flatMap (Fr4.tr false)) rfl rfl rfl rfl (.one .sl) (by rfl) (by rfl) ?_
   refine aK 5 rfl (jX (k:=(-100)) (b:=0) (ws:=[(Rat.divInt 1 1),(Rat.divInt 1 1),(Rat.divInt 1 1)]) (l:=[-34,-33,-33]) (by decide) (by decide+kernel) (by decide+kernel) (by decide+kernel) (by decide)) pE ⟨aB rfl,a1 rfl,a1 rfl,rfl⟩ (.tup [.one (.t (.s false 24 2 ([-34,-33,-33]:List Int).length ((aQ [-34,-33,-33]).flatMap (cB true)))),.one (tv (.int .i64 0))]) ?_
   refine df 6 ?_;refine df 7 ?_;refine df 8 ?_;refine dH 9 (by kernel_rfl) rfl rfl aA rfl (by trivial) ?_ (fun h=>by first | rfl | cases h)
   refine dH 10 (by kernel_rfl) rfl rfl aA rfl (by trivial) ?_ (fun h=>by first | rfl | cases h)
   refine aR ?_;exact⟨(),trivial,aH h0 [0,1,2] _ _ (by decide) ⟨rfl,rfl,rfl,rfl,rfl,rfl,rfl,trivial⟩ ⟨oe rfl rfl,oe rfl rfl,oe rfl rfl,rfl⟩⟩
  refine Oy (key:=3) 4 rfl rfl ⟨rfl,rfl,rfl,trivial⟩ ?_
  refine uK (i:=40) (k:=3) (t:=48) (t':=50) (z:=4) (n:=3) (l:=(dS [(Rat.divInt 1 1),(Rat.divInt 1 1),(Rat.divInt 1 1)]).flatMap (Fr4.tr false)) rfl rfl rfl rfl (.one .sl) (by rfl) (by rfl) ?_
  refine aK 0 rfl (gI (n:=(-100)) (by omega) (by omega)) gJ ⟨a1 rfl,rfl⟩ (kF (-100)) ?_
  refine aK 5 rfl (jX (k:=(-100)) (b:=0) (ws:=[(Rat.divInt 1 1),(Rat.divInt 1 1),(Rat.divInt 1 1)]) (l:=[-34,-33,-33]) (by decide) (by decide+kernel) (by decide+kernel) (by decide+kernel) (by decide)) pE ⟨aB rfl,a1 rfl,a1 rfl,rfl⟩ (.tup [.one (.t (.s false 24 2 ([-34,-33,-33]:List Int).length ((aQ [-34,-33,-33]).flatMap (cB true)))),.one (tv (.int .i64 0))]) ?_
  refine df 6 ?_;refine df 7 ?_;refine df 8 ?_;refine dH 9 (by kernel_rfl) rfl rfl aA rfl (by trivial) ?_ (fun h=>by first | rfl | cases h)
  refine dH 10 (by kernel_rfl) rfl rfl aA rfl (by trivial) ?_ (fun h=>by first | rfl | cases h)
  refine aR ?_;exact⟨(),trivial,aH h0 [0,1,2] _ _ (by decide) ⟨rfl,rfl,rfl,rfl,rfl,rfl,rfl,trivial⟩ ⟨oe rfl rfl,oe rfl rfl,oe rfl rfl,rfl⟩⟩
 refine sq ?_;refine rl ?_;refine ca (gI (n:=5) (by omega) (by omega)) gJ ⟨a1 rfl,rfl⟩ (kF 5) ?_
 refine ca (qM (n:=0) (d:=1) (by omega) (by omega) (by omega) (by omega)) qN ⟨a1 rfl,a1 rfl,rfl⟩ (qF (.of (Rat.divInt 0 1))) ?_
 refine ca (qM (n:=(-3)) (d:=1) (by omega) (by omega) (by omega) (by omega)) qN ⟨a1 rfl,a1 rfl,rfl⟩ (qF (.of (Rat.divInt (-3) 1))) ?_
 refine bs 3 ?_;refine WL.sub (Ru (i:=48) (k:=3) (t:=48) (z:=4) (n:=2) (l:=(dS [(Rat.divInt 0 1),(Rat.divInt (-3) 1)]).flatMap (Fr4.tr false)) 50 rfl rfl rfl rfl (.one .sl)) ?_
 refine ca (jX (k:=5) (b:=1) (ws:=[(Rat.divInt 0 1),(Rat.divInt (-3) 1)]) (l:=[0,5]) (by decide) (by decide+kernel) (by decide+kernel) (by decide+kernel) (by decide)) pE ⟨aB rfl,a1 rfl,a1 rfl,rfl⟩ (.tup [.one (.t (.s false 24 2 ([0,5]:List Int).length ((aQ [0,5]).flatMap (cB true)))),.one (tv (.int .i64 0))]) ?_
 (iterate 5 refine o1 ?_);refine nl ?_
 refine md (γ:=Unit) (fun _=>cG [(4,.one (.t (.s false 24 2 ([34,33,33]:List Int).length ((aQ [34,33,33]).flatMap (cB true))))),(5,.one (tv (.int .i64 ((0:Nat):Int)))),(6,.one (.t (.s false 24 2 ([1,1,0]:List Int).length ((aQ [1,1,0]).flatMap (cB true))))),(8,.one (.t (.s false 24 2 ([-34,-33,-33]:List Int).length ((aQ [-34,-33,-33]).flatMap (cB true))))),(10,.one (.t (.s false 24 2 ([0,5]:List Int).length ((aQ [0,5]).flatMap (cB true))))),(12,.one (.t (.s false 24 2 ([1,3,6]:List Int).length ((aQ [1,3,6]).flatMap (cB true)))))]) (fun _=>([]:List Ob).map some) (fun _=>True) ?_ fun _ _=>?_
 ·refine rd [0,1,2] (fun i=>[10].contains i) mixed ?_
  refine aX 1 ?_;refine aX 2 ?_;refine aX 3 ?_;refine WO.two (i:=0) (j:=4) (by kernel_rfl) ?_ ?_
  ·refine cY 0 rfl (gI (n:=10) (by omega) (by omega)) gJ ⟨a1 rfl,rfl⟩ (kF 10) ?_
   refine sO (key:=4) 4 (by kernel_rfl) rfl rfl aA rfl ⟨rfl,rfl,rfl,trivial⟩ ?_
   refine uK (i:=57) (k:=4) (t:=48) (t':=50) (z:=4) (n:=3) (l:=(dS [(Rat.divInt 1 1),(Rat.divInt 2 1),(Rat.divInt 4 1)]).flatMap (Fr4.tr false)) rfl rfl rfl rfl (.one .sl) (by rfl) (by rfl) ?_
   refine aK 5 rfl (jX (k:=10) (b:=0) (ws:=[(Rat.divInt 1 1),(Rat.divInt 2 1),(Rat.divInt 4 1)]) (l:=[1,3,6]) (by decide) (by decide+kernel) (by decide+kernel) (by decide+kernel) (by decide)) pE ⟨aB rfl,a1 rfl,a1 rfl,rfl⟩ (.tup [.one (.t (.s false 24 2 ([1,3,6]:List Int).length ((aQ [1,3,6]).flatMap (cB true)))),.one (tv (.int .i64 0))]) ?_
   refine df 6 ?_;refine df 7 ?_;refine df 8 ?_;refine dH 9 (by kernel_rfl) rfl rfl aA rfl (by trivial) ?_ (fun h=>by first | rfl | cases h)
   refine dH 10 (by kernel_rfl) rfl rfl aA rfl (by trivial) ?_ (fun h=>by first | rfl | cases h)
   refine aR ?_;exact⟨(),trivial,aH h0 [] _ _ (by decide) ⟨rfl,rfl,rfl,rfl,rfl,rfl,trivial⟩ rfl⟩
  refine Oy (key:=4) 4 rfl rfl ⟨rfl,rfl,rfl,trivial⟩ ?_
  refine uK (i:=57) (k:=4) (t:=48) (t':=50) (z:=4) (n:=3) (l:=(dS [(Rat.divInt 1 1),(Rat.divInt 2 1),(Rat.divInt 4 1)]).flatMap (Fr4.tr false)) rfl rfl rfl rfl (.one .sl) (by rfl) (by rfl) ?_
  refine aK 0 rfl (gI (n:=10) (by omega) (by omega)) gJ ⟨a1 rfl,rfl⟩ (kF 10) ?_
  refine aK 5 rfl (jX (k:=10) (b:=0) (ws:=[(Rat.divInt 1 1),(Rat.divInt 2 1),(Rat.divInt 4 1)]) (l:=[1,3,6]) (by decide) (by decide+kernel) (by decide+kernel) (by decide+kernel) (by decide)) pE ⟨aB rfl,a1 rfl,a1 rfl,rfl⟩ (.tup [.one (.t (.s false 24 2 ([1,3,6]:List Int).length ((aQ [1,3,6]).flatMap (cB true)))),.one (tv (.int .i64 0))]) ?_
  refine df 6 ?_;refine df 7 ?_;refine df 8 ?_;refine dH 9 (by kernel_rfl) rfl rfl aA rfl (by trivial) ?_ (fun h=>by first | rfl | cases h)
  refine dH 10 (by kernel_rfl) rfl rfl aA rfl (by trivial) ?_ (fun h=>by first | rfl | cases h)
  refine aR ?_;exact⟨(),trivial,aH h0 [] _ _ (by decide) ⟨rfl,rfl,rfl,rfl,rfl,rfl,trivial⟩ rfl⟩
 refine sq ?_;refine WP.sub (Gf (i:=4) (t':=24) rfl rfl (oB (aQ [34,33,33]))) ?_;refine WP.sub (Gf (i:=6) (t':=24) rfl rfl (oB (aQ [1,1,0]))) ?_
 refine WP.sub (Gf (i:=8) (t':=24) rfl rfl (oB (aQ [-34,-33,-33]))) ?_;refine WP.sub (Gf (i:=10) (t':=24) rfl rfl (oB (aQ [0,5]))) ?_
 refine WP.sub (Gf (i:=12) (t':=24) rfl rfl (oB (aQ [1,3,6]))) ?_;refine rl ?_;(iterate 3 refine o1 ?_);refine WL.split (t:=63) rfl (fun h1=>?_) (fun h1=>?_)
 ·refine o1 ?_;refine bs 0 ?_;refine WL.sub (fz (i:=65) (k:=0) (t:=2) (z:=1) (n:=3) (l:=iT [34,33,33]) rfl rfl rfl rfl) ?_
  refine ca (zM (l:=[34,33,33]) (by decide)) Hf ⟨a1 rfl,a1 rfl,rfl⟩ (.one (tv (.bool true))) ?_
  (iterate 3 refine o1 ?_);refine bs 1 ?_;refine WL.sub (fz (i:=70) (k:=1) (t:=2) (z:=1) (n:=3) (l:=iT [1,1,0]) rfl rfl rfl rfl) ?_
  refine ca (zM (l:=[1,1,0]) (by decide)) Hf ⟨a1 rfl,a1 rfl,rfl⟩ (.one (tv (.bool true))) ?_
  (iterate 3 refine o1 ?_);refine bs 2 ?_;refine WL.sub (fz (i:=75) (k:=2) (t:=2) (z:=1) (n:=3) (l:=iT [(-34),(-33),(-33)]) rfl rfl rfl rfl) ?_
  refine ca (zM (l:=[-34,-33,-33]) (by decide)) Hf ⟨a1 rfl,a1 rfl,rfl⟩ (.one (tv (.bool true))) ?_
  (iterate 3 refine o1 ?_);refine bs 3 ?_;refine WL.sub (fz (i:=80) (k:=3) (t:=2) (z:=1) (n:=2) (l:=iT [0,5]) rfl rfl rfl rfl) ?_
  refine ca (zM (l:=[0,5]) (by decide)) Hf ⟨a1 rfl,a1 rfl,rfl⟩ (.one (tv (.bool true))) ?_
  (iterate 3 refine o1 ?_);refine bs 4 ?_;refine WL.sub (fz (i:=85) (k:=4) (t:=2) (z:=1) (n:=3) (l:=iT [1,3,6]) rfl rfl rfl rfl) ?_
  refine ca (zM (l:=[1,3,6]) (by decide)) Hf ⟨a1 rfl,a1 rfl,rfl⟩ (.one (tv (.bool true))) ?_
  refine o1 ?_;refine o1 ?_;refine nl ?_;refine rt ?_;exact lL (.inl rfl) rfl (rfl)
 exact absurd rfl h1
end Go.Proofs.YthmgbcdidlkpoaaGreat
