/- Part 10 of a proof: C1 to Q4. -/
import Derived.Test.YthmgbcdidlkpoaaGreatM8
import Derived.Test.YthmgbcdidlkpoaaGreatM9
import Derived.Test.YthmgbcdidlkpoaaGreatM7
import Derived.Lib.ConvBytes
import Derived.Lib.SmallJoins
import Derived.Stop.IfaceNil
set_option maxRecDepth 100000
set_option linter.unusedVariables false
set_option linter.unusedSimpArgs false
namespace Go.Proofs.YthmgbcdidlkpoaaGreat
open Go Go.RowKit
theorem GB {a b:Fr4}{p q:Rat}(ha:Qn a p) (hb:Qn b q):aC true Tryz.prog 47 [] [qF a,qF b] (aM (qO (p*q))):=by
 refine bR Tryz.func47 rfl Tryz.ntmps47 rfl aA rfl fun N w c0 h0=>?_
 have hs:=ha.sz;have hs':=hb.sz
 have hs1:=hs.1;have hs2:=hs.2;have hs3:=hs'.1;have hs4:=hs'.2
 have hs5:(dg 4294967296 ((p.den:Int)).natAbs).length≤68719476736:=hs2
 have hs6:(dg 4294967296 ((q.den:Int)).natAbs).length≤68719476736:=hs4
 refine sq ?_;refine rl ?_;refine bx 0 ?_;refine bx 1 ?_;refine al 2 ?_;refine nl ?_
 refine md (γ:=Unit) (fun _=>cH [(2,.one (.pt 0 0)),(3,.one (.pt 1 0)),(4,.one (.pt 2 0))]) (fun _=>([⟨48,0,((Fr4.of p).tr false).map .t⟩,⟨48,0,((Fr4.of q).tr false).map .t⟩,⟨48,0,[tv (.bool false),tv (.slice none 0 0),tv (.bool false),tv (.slice none 0 0)]⟩]:List Ob).map some) (fun _=>True) ?_ fun _ _=>?_
 ·refine rd [0,1,2] (fun i=>[0,1,2,3,4,5].contains i) mixed ?_
  refine WO.two (i:=0) (j:=2) (by kernel_rfl) ?_ ?_
  ·refine jZ 0 ?_;refine WO.two (i:=1) (j:=2) (by kernel_rfl) ?_ ?_
   ·refine cQ 1 rfl (dE ha) fE ⟨aB rfl,rfl⟩ (qF (.of p)) ?_;refine WO.one (by kernel_rfl) (jZ 2 ?_)
    refine aI 3 rfl (dE hb) fE ⟨aB rfl,rfl⟩ (qF (.of q)) ?_;refine dst 4 ?_;refine dst 5 ?_;refine aN ?_
    exact⟨(),trivial,aL h0 [0,1,2] _ _ (by decide) ⟨rfl,rfl,rfl,trivial⟩ ⟨oe rfl rfl,oe rfl rfl,oe rfl rfl,rfl⟩⟩
   refine jZ 2 ?_;refine aI 1 rfl (dE ha) fE ⟨aB rfl,rfl⟩ (qF (.of p)) ?_;refine aI 3 rfl (dE hb) fE ⟨aB rfl,rfl⟩ (qF (.of q)) ?_;refine dst 4 ?_;refine dst 5 ?_
   refine aN ?_;exact⟨(),trivial,aL h0 [0,1,2] _ _ (by decide) ⟨rfl,rfl,rfl,trivial⟩ ⟨oe rfl rfl,oe rfl rfl,oe rfl rfl,rfl⟩⟩
  refine jZ 2 ?_;refine WO.one (by kernel_rfl) (jZ 0 ?_)
  refine aI 1 rfl (dE ha) fE ⟨aB rfl,rfl⟩ (qF (.of p)) ?_;refine aI 3 rfl (dE hb) fE ⟨aB rfl,rfl⟩ (qF (.of q)) ?_;refine dst 4 ?_;refine dst 5 ?_;refine aN ?_
  exact⟨(),trivial,aL h0 [0,1,2] _ _ (by decide) ⟨rfl,rfl,rfl,trivial⟩ ⟨oe rfl rfl,oe rfl rfl,oe rfl rfl,rfl⟩⟩
 refine sq ?_;refine rd [0,1,2] (fun i=>[11].contains i) mixed ?_
 refine dv 0 ?_;refine aU 1 ?_;refine dv 2 ?_;refine aU 3 ?_;refine dv 5 ?_;refine aU 6 ?_;refine dv 7 ?_;refine aU 8 ?_;have hn1:=dF (p.num) (q.num)
 refine aI 4 rfl (pE (gA hs) (gA hs')) qP ⟨aB rfl,aB rfl,rfl⟩ (kF ((p.num*q.num))) ?_;have hn2:=dF ((p.den:Int)) ((q.den:Int))
 refine aI 9 rfl (pE (dM hs) (dM hs')) qP ⟨aB rfl,aB rfl,rfl⟩ (kF (((p.den:Int)*(q.den:Int)))) ?_
 refine iF 3 10 rfl (Ap (Zn.of (k:=(p.num*q.num)) (by omega)) (Zn.of (k:=((p.den:Int)*(q.den:Int))) (by omega)) (den_nz p q)) Kz ⟨aB rfl,aB rfl,rfl⟩ ?_
 refine dst 11 ?_;refine aN ?_;refine rt ?_
 exact en (.inl rfl) rfl (aT (.agg (.cons (.id rfl) (.cons (.sl (trs:=aJ (dg 4294967296 (Rat.divInt (p.num*q.num) ((p.den:Int)*(q.den:Int))).num.natAbs)) rfl rfl (aW _) (aP _)) (.cons (.id rfl) (.cons (.sl (trs:=aJ (dg 4294967296 (Rat.divInt (p.num*q.num) ((p.den:Int)*(q.den:Int))).den)) rfl rfl (aW _) (aP _)) .nil)))))) (by decide) (fun _=>sD _) (congrArg qO (Vq p q))
theorem CB {a b:Fr4}{p q:Rat}(ha:Qn a p) (hb:Qn b q):aC true Tryz.prog 117 [] [qF a,qF b] (aM (.one (tv (.bool (decide (p<q)))))):=by
 refine bR Tryz.func117 rfl Tryz.ntmps117 rfl aA rfl fun N w c0 h0=>?_
 refine sq ?_;refine rl ?_;refine bx 0 ?_;refine bx 1 ?_;refine o1 ?_;refine nl ?_;refine sq ?_;refine rl ?_;refine ld ?_;refine o1 ?_;refine ld ?_
 refine ca (Vr hb ha) CC ⟨aB rfl,aB rfl,rfl⟩ (.one (tv (.int .i64 (q-p).num.sign))) ?_;refine o1 ?_;refine o1 ?_;refine nl ?_;refine rt ?_
 exact en (.inl rfl) rfl (aT (cA _)) (by decide) (fun _=>trivial) (congrArg (fun z=>FV.one (tv (.bool z))) (Hk p q))
theorem CD {a:Fr4}:aC false Tryz.prog 116 [] [qF a] (aM (.one (.t (.f 117 [.a (a.tr false)] [])))):=by
 refine bR Tryz.func116 rfl Tryz.ntmps116 rfl aA rfl fun N w c0 h0=>?_
 refine sq ?_;refine rl ?_;refine bx 0 ?_;refine o1 ?_;refine nl ?_;refine sq ?_;refine rl ?_;refine ld ?_;refine o1 ?_;refine o1 ?_;refine nl ?_;refine rt ?_
 exact en (.inl rfl) rfl (aT (.one (.id rfl))) (by decide) (fun h=>by cases h) rfl
theorem Xv {a:Fr4}{p:Rat}{xs:List Fr4}(ha:Qn a p) (hx:∀x∈xs,x.ok) (hl:xs.length≤1099511627776):aC false Tryz.prog 115 [] [qF a,.one (.t (sQ false xs)),.one (.t (.f 116 [] []))] (aM (qF (.of (eW p (xs.map Fr4.q))))):=by
 refine bR Tryz.func115 rfl Tryz.ntmps115 rfl aA rfl fun N w c0 h0=>?_
 have hz:∀x∈xs,Sz 68719476736 x.q:=fun x h=>(show Qn x x.q from⟨hx x h,rfl⟩).sz
 refine sq ?_;refine rl ?_;refine bx 0 ?_;refine al 1 ?_;refine nl ?_;refine sq ?_;refine rl ?_;refine ld ?_;refine ca (dE ha) fE ⟨aB rfl,rfl⟩ (qF (.of p)) ?_
 refine ca (lH (z:=0) (by omega) (by omega)) yN ⟨a1 rfl,rfl⟩ (qF (.of ((0:Int):Rat))) ?_
 refine ca (Nm ha.sz) La ⟨aB rfl,aB rfl,rfl⟩ (qF (.of p)) ?_;refine al 2 ?_;refine st ?_;refine nl ?_;refine sq ?_;refine sq ?_;refine rl ?_;(iterate 3 refine o1 ?_);refine nl ?_
 refine bl ?_
 refine lp (γ:=Nat) (fun k=>cH [(2,.one (.t (.f 116 [] []))),(6,.one (.pt 0 0)),(7,.one (.pt 1 0)),(14,.one (.t (sQ false xs))),(15,.one (tv (.int .i64 ((xs.length:Nat):Int)))),(16,.one (tv (.int .i64 ((k:Nat):Int))))]) (fun k=>[(⟨48,0,[tv (.bool false),tv (.slice none 0 0),tv (.bool false),tv (.slice none 0 0)]⟩:Ob),⟨48,0,((Fr4.of (eW p ((xs.take k).map Fr4.q))).tr false).map .t⟩].map some) (fun k=>k≤xs.length∧Sz 68719476736 (eW p ((xs.take k).map Fr4.q))) (fun k=>xs.length-k) 0 ⟨Nat.zero_le _,ha.sz⟩ (aL h0 [1,2] _ _ (by decide) ⟨rfl,rfl,rfl,rfl,rfl,rfl,trivial⟩ ⟨oe rfl rfl,cB rfl,rfl⟩) fun k hk=>?_
 refine sq ?_;refine rl ?_;refine o1 ?_;refine nl ?_;refine sq ?_;refine bX rfl (fun h1=>?_) (fun h1=>?_)
 ·refine sk ?_;refine sq ?_;refine bl ?_;refine sq ?_;refine rl ?_;refine o1 ?_;refine fS ((bJ xs (k)).tr false) (iG xs (k:=k) (by omega)) ?_
  refine al 2 ?_;refine st ?_;refine nl ?_;refine sq ?_;refine rd [0,1,2] (fun i=>[].contains i) mixed ?_
  refine dv 0 ?_;refine aU 1 ?_;refine dv 2 ?_;refine aU 4 ?_
  refine CE 3 3 [.agg [tv (.bool (aF (eW p ((xs.take k).map Fr4.q)).num)),.t (sU false (dg 4294967296 (eW p ((xs.take k).map Fr4.q)).num.natAbs)),tv (.bool false),.t (sU false (dg 4294967296 (eW p ((xs.take k).map Fr4.q)).den))]] rfl rfl (CD (a:=.of (eW p ((xs.take k).map Fr4.q)))) GC ⟨rfl,rfl⟩ ?_
  refine CE 5 3 [qF (bJ xs (k))] rfl rfl (CB (a:=.of (eW p ((xs.take k).map Fr4.q))) (b:=(bJ xs (k))) (Qn.of (p:=(eW p ((xs.take k).map Fr4.q))) hk.2) ⟨hx _ (bP (by omega)),rfl⟩) GD ⟨rfl,rfl⟩ ?_
  refine aN ?_;refine bX rfl (fun h2=>?_) (fun h2=>?_)
  ·refine rl ?_;refine ld ?_;refine ca (dE ⟨hx _ (bP (by omega)),rfl⟩) fE ⟨aB rfl,rfl⟩ (qF (.of (bJ xs (k)).q)) ?_
   refine ca (lH (z:=0) (by omega) (by omega)) yN ⟨a1 rfl,rfl⟩ (qF (.of ((0:Int):Rat))) ?_
   refine ca (Nm (hz _ (bP (by omega)))) La ⟨aB rfl,aB rfl,rfl⟩ (qF (.of (bJ xs (k)).q)) ?_
   refine st ?_;refine nl ?_;refine rl ?_;refine o1 ?_;refine WL.cast (t:=30) (u':=.int .i64 ((k+1:Nat):Int)) rfl (aK (by omega)) ?_
   refine o1 ?_;refine nl ?_;have hst:(eW p ((xs.take (k+1)).map Fr4.q))=(bJ xs k).q:=by rw[pF (by omega),Aq];exact if_pos h2
   exact⟨k+1,by omega,⟨by omega,by rw[hst];exact hz _ (bP (by omega))⟩,aL h0 [0,1] _ _ (by decide) ⟨rfl,rfl,rfl,rfl,rfl,rfl,trivial⟩ ⟨oe rfl rfl,cB (congrArg (fun q=>some (⟨48,0,((Fr4.of q).tr false).map .t⟩:Ob)) hst.symm),rfl⟩⟩
  refine sk ?_;refine rl ?_;refine o1 ?_;refine WL.cast (t:=30) (u':=.int .i64 ((k+1:Nat):Int)) rfl (aK (by omega)) ?_
  refine o1 ?_;refine nl ?_;have hst:(eW p ((xs.take (k+1)).map Fr4.q))=(eW p ((xs.take k).map Fr4.q)):=by rw[pF (by omega),Aq];exact if_neg h2
  exact⟨k+1,by omega,⟨by omega,by rw[hst];exact hk.2⟩,aL h0 [0,1] _ _ (by decide) ⟨rfl,rfl,rfl,rfl,rfl,rfl,trivial⟩ ⟨oe rfl rfl,cB (congrArg (fun q=>some (⟨48,0,((Fr4.of q).tr false).map .t⟩:Ob)) hst.symm),rfl⟩⟩
 refine ex ?_;refine sq ?_;refine rl ?_;refine ld ?_;refine st ?_;refine nl ?_;refine rt ?_
 exact en (.inl rfl) rfl (aT (.agg (.cons (.id rfl) (.cons (.id rfl) (.cons (.id rfl) (.cons (.id rfl) .nil)))))) (by decide) (fun h=>by cases h) (by rw[List.take_of_length_le (by omega)];rfl)
theorem GF {a:Fr4}{p:Rat}{xs:List Fr4}(ha:Qn a p) (hx:∀x∈xs,x.ok) (hl:xs.length≤1099511627776):aC false Tryz.prog 81 [] [qF a,.one (.t (sQ false xs))] (aM (qF (.of (eW p (xs.map Fr4.q))))):=by
 refine bR Tryz.func81 rfl Tryz.ntmps81 rfl aA rfl fun N w c0 h0=>?_
 refine sq ?_;refine rl ?_;refine bx 0 ?_;refine al 1 ?_;refine nl ?_;refine sq ?_;refine rl ?_;refine ld ?_;refine o1 ?_
 refine ca (Xv ha hx hl) GG ⟨aB rfl,a1 rfl,a1 rfl,rfl⟩ (qF (.of (eW p (xs.map Fr4.q)))) ?_;refine st ?_;refine nl ?_;refine rt ?_
 exact en (.inl rfl) rfl (aT (.agg (.cons (.id rfl) (.cons (.id rfl) (.cons (.id rfl) (.cons (.id rfl) .nil)))))) (by decide) (fun h=>by cases h) (rfl)
theorem GH:(Fr4.of ((0:Int):Rat)).ok:=(Qn.of (p:=((0:Int):Rat)) ((kK (z:=0) (by omega) (by omega)).mono (M:=68719476736) (by omega))).1
theorem CF {a:Fr4}{p:Rat}(ha:Qn a p):aC false Tryz.prog 81 [] [qF a,.one (.t (sQ false [Fr4.of ((0:Int):Rat)]))] (aM (qF (.of (bN p)))):=by
 have h:=GF (a:=a) (xs:=[Fr4.of ((0:Int):Rat)]) ha (fun x hx=>by rw[List.mem_singleton]at hx;rw[hx];exact GH) (by simp)
 have e:[Fr4.of ((0:Int):Rat)].map Fr4.q=[0]:=by rw[List.map_cons,Fr4.q_of];rfl
 rwa[e]at h
theorem wU {a b:Zi}{k k':Int}(ha:Zn a k) (hb:Zn b k'):aC false Tryz.prog 83 [] [gF a,gF b] (aM (.tup [qF (.of (Rat.divInt k k')),.one (tv (.int .i64 (if k'=0 then 20 else 0)))])):=by
 refine bR Tryz.func83 rfl Tryz.ntmps83 rfl aA rfl fun N9 w9 c0 h0=>?_
 refine sq ?_;refine rl ?_;refine bx 0 ?_;refine bx 1 ?_;refine al 2 ?_;refine o1 ?_;refine nl ?_;refine sq ?_;refine sq ?_;refine rl ?_;refine ld ?_
 refine ca (lY (hb).g) sE ⟨aB rfl,rfl⟩ (.one (tv (.int .i64 (k').sign))) ?_;refine o1 ?_;refine nl ?_;refine bX rfl (fun h1=>?_) (fun h1=>?_)
 ·refine sq ?_;refine rl ?_;refine o1 ?_;refine ca (GI) Lb rfl (kF 1) ?_;refine o1 ?_;refine st ?_;refine o1 ?_;refine nl ?_;refine rt ?_
  have hk0:k'=0:=Int.sign_eq_zero_iff_zero.1 h1
  have hd0:Rat.divInt k k'=0:=by rw[hk0];simp
  exact en (.inl rfl) rfl (jJ (.cons (.agg (.cons (.id rfl) (.cons .nilf (.cons (.id rfl) (.cons (.id rfl) .nil))))) (.cons (cA _) .nil))) (by decide) (fun h=>by cases h) (by rw[if_pos hk0,hd0];exact congrArg (fun f=>FV.tup [f,.one (tv (.int .i64 20))]) JE)
 refine sk ?_;refine sq ?_;have hk0:k'≠0:=fun h9=>h1 (by rw[h9];rfl)
 refine rl ?_;refine ld ?_;refine ld ?_;refine ca (Ap ha hb hk0) Kz ⟨aB rfl,aB rfl,rfl⟩ (qF (.of (Rat.divInt k k'))) ?_;refine st ?_;refine o1 ?_;refine nl ?_;refine rt ?_
 exact en (.inl rfl) rfl (jJ (.cons (.agg (.cons (.id rfl) (.cons (.id rfl) (.cons (.id rfl) (.cons (.id rfl) .nil))))) (.cons (cA _) .nil))) (by decide) (fun h=>by cases h) (by rw[if_neg hk0];rfl)
theorem GJ {a b:Fr4}{p q:Rat}(ha:Qn a p) (hb:Qn b q):aC false Tryz.prog 46 [] [qF a,qF b] (aM (.tup [qF (.of (p/q)),.one (tv (.int .i64 (if q=0 then 20 else 0)))])):=by
 refine bR Tryz.func46 rfl Tryz.ntmps46 rfl aA rfl fun N w c0 h0=>?_
 have hs:=ha.sz;have hs':=hb.sz
 have hs1:=hs.1;have hs2:=hs.2;have hs3:=hs'.1;have hs4:=hs'.2
 have hs5:(dg 4294967296 ((p.den:Int)).natAbs).length≤68719476736:=hs2
 have hs6:(dg 4294967296 ((q.den:Int)).natAbs).length≤68719476736:=hs4
 refine sq ?_;refine rl ?_;refine bx 0 ?_;refine bx 1 ?_;refine al 2 ?_;refine o1 ?_;refine nl ?_
 refine md (γ:=Unit) (fun _=>cH [(2,.one (.pt 0 0)),(3,.one (.pt 1 0)),(4,.one (.pt 2 0)),(5,.one (tv (.int .i64 ((0:Nat):Int))))]) (fun _=>([⟨48,0,((Fr4.of p).tr false).map .t⟩,⟨48,0,((Fr4.of q).tr false).map .t⟩,⟨48,0,[tv (.bool false),tv (.slice none 0 0),tv (.bool false),tv (.slice none 0 0)]⟩]:List Ob).map some) (fun _=>True) ?_ fun _ _=>?_
 ·refine rd [0,1,2] (fun i=>[0,1,2,3,4,5].contains i) mixed ?_
  refine WO.two (i:=0) (j:=2) (by kernel_rfl) ?_ ?_
  ·refine jZ 0 ?_;refine WO.two (i:=1) (j:=2) (by kernel_rfl) ?_ ?_
   ·refine cQ 1 rfl (dE ha) fE ⟨aB rfl,rfl⟩ (qF (.of p)) ?_;refine WO.one (by kernel_rfl) (jZ 2 ?_)
    refine aI 3 rfl (dE hb) fE ⟨aB rfl,rfl⟩ (qF (.of q)) ?_;refine dst 4 ?_;refine dst 5 ?_;refine aN ?_
    exact⟨(),trivial,aL h0 [0,1,2] _ _ (by decide) ⟨rfl,rfl,rfl,rfl,trivial⟩ ⟨oe rfl rfl,oe rfl rfl,oe rfl rfl,rfl⟩⟩
   refine jZ 2 ?_;refine aI 1 rfl (dE ha) fE ⟨aB rfl,rfl⟩ (qF (.of p)) ?_;refine aI 3 rfl (dE hb) fE ⟨aB rfl,rfl⟩ (qF (.of q)) ?_;refine dst 4 ?_;refine dst 5 ?_
   refine aN ?_;exact⟨(),trivial,aL h0 [0,1,2] _ _ (by decide) ⟨rfl,rfl,rfl,rfl,trivial⟩ ⟨oe rfl rfl,oe rfl rfl,oe rfl rfl,rfl⟩⟩
  refine jZ 2 ?_;refine WO.one (by kernel_rfl) (jZ 0 ?_)
  refine aI 1 rfl (dE ha) fE ⟨aB rfl,rfl⟩ (qF (.of p)) ?_;refine aI 3 rfl (dE hb) fE ⟨aB rfl,rfl⟩ (qF (.of q)) ?_;refine dst 4 ?_;refine dst 5 ?_;refine aN ?_
  exact⟨(),trivial,aL h0 [0,1,2] _ _ (by decide) ⟨rfl,rfl,rfl,rfl,trivial⟩ ⟨oe rfl rfl,oe rfl rfl,oe rfl rfl,rfl⟩⟩
 refine sq ?_;refine rd [0,1,2] (fun i=>[13,14].contains i) mixed ?_
 refine dv 0 ?_;refine aU 1 ?_;refine dv 2 ?_;refine aU 3 ?_;refine dv 5 ?_;refine aU 6 ?_;refine dv 7 ?_;refine aU 8 ?_;have hn1:=dF (p.num) ((q.den:Int))
 refine aI 4 rfl (pE (gA hs) (dM hs')) qP ⟨aB rfl,aB rfl,rfl⟩ (kF ((p.num*(q.den:Int)))) ?_;have hn2:=dF ((p.den:Int)) (q.num)
 refine aI 9 rfl (pE (dM hs) (gA hs')) qP ⟨aB rfl,aB rfl,rfl⟩ (kF (((p.den:Int)*q.num))) ?_
 refine aI 10 rfl (wU (Zn.of (k:=(p.num*(q.den:Int))) (by omega)) (Zn.of (k:=((p.den:Int)*q.num)) (by omega))) Cy ⟨aB rfl,aB rfl,rfl⟩ (.tup [qF (.of (Rat.divInt ((p.num*(q.den:Int))) (((p.den:Int)*q.num)))),.one (tv (.int .i64 (if(((p.den:Int)*q.num))=0 then 20 else 0)))]) ?_
 refine df 11 ?_;refine df 12 ?_;refine dst 13 ?_;refine dI 14 (by kernel_rfl) rfl rfl aA rfl (by trivial) ?_ (fun h=>by first | rfl | cases h)
 refine aN ?_;refine rt ?_
 exact en (.inl rfl) rfl (jJ (.cons (.agg (.cons (.id rfl) (.cons (.id rfl) (.cons (.id rfl) (.cons (.id rfl) .nil))))) (.cons (cA _) .nil))) (by decide) (fun h=>by cases h) (by have e9:(if((p.den:Int)*q.num)=0 then(20:Int)else 0)=if q=0 then 20 else 0:=(by simp only[Rw]);rw[e9,Vs];rfl)
theorem Vt {xs:List Fr4}{B:Nat}(hB:2+xs.length*(B+1)≤68719476736) (hx:∀x∈xs,x.ok) (hz:∀x∈xs,Sz B x.q) (hl:xs.length≤1073741823):aC false Tryz.prog 43 [] [.one (.t (sQ false xs))] (aM (qF (.of (aE (xs.map Fr4.q))))):=by
 refine bR Tryz.func43 rfl Tryz.ntmps43 rfl aA rfl fun N9 w9 c0 h0=>?_
 have h00:((0:Int):Rat)=aE ((xs.take 0).map Fr4.q):=by simp[aE]
 refine sq ?_;refine rl ?_;refine al 0 ?_;refine nl ?_;refine sq ?_;refine rl ?_;refine ca (lH (z:=0) (by omega) (by omega)) yN ⟨a1 rfl,rfl⟩ (qF (.of ((0:Int):Rat))) ?_
 refine al 1 ?_;refine st ?_;refine nl ?_;refine sq ?_;refine sq ?_;refine rl ?_;(iterate 3 refine o1 ?_);refine nl ?_;refine bl ?_
 refine lp (γ:=Nat) (fun k=>cH [(2,.one (.pt 0 0)),(3,.one (.pt 1 0)),(7,.one (.t (sQ false xs))),(8,.one (tv (.int .i64 ((xs.length:Nat):Int)))),(9,.one (tv (.int .i64 ((k:Nat):Int))))]) (fun k=>[(⟨48,0,[tv (.bool false),tv (.slice none 0 0),tv (.bool false),tv (.slice none 0 0)]⟩:Ob),⟨48,0,((Fr4.of (aE ((xs.take (k)).map Fr4.q))).tr false).map .t⟩].map some) (fun k=>k≤xs.length∧Sz (2+k*(B+1)) (aE ((xs.take (k)).map Fr4.q))) (fun k=>xs.length-k) 0 ⟨Nat.zero_le _,by simpa[aE]using kK (z:=0) (by omega) (by omega)⟩ (aL h0 [0,1] _ _ (by decide) ⟨rfl,rfl,rfl,rfl,rfl,trivial⟩ ⟨oe rfl rfl,cB (congrArg (fun q=>some (⟨48,0,((Fr4.of q).tr false).map .t⟩:Ob)) h00),rfl⟩) fun k hk=>?_
 have hmul:k*(B+1)≤xs.length*(B+1):=Nat.mul_le_mul hk.1 (Nat.le_refl _)
 refine sq ?_;refine rl ?_;refine o1 ?_;refine nl ?_;refine sq ?_;refine bX rfl (fun h1=>?_) (fun h1=>?_)
 ·refine sk ?_;refine sq ?_;refine bl ?_;refine sq ?_;refine rl ?_;refine o1 ?_;refine fS ((bJ xs (k)).tr false) (iG xs (k:=k) (by omega)) ?_
  refine al 2 ?_;refine st ?_;refine nl ?_;have hmul2:(k+1)*(B+1)≤xs.length*(B+1):=Nat.mul_le_mul (by omega) (Nat.le_refl _)
  have hmul3:(k+1)*(B+1)=k*(B+1)+(B+1):=Nat.succ_mul k (B+1)
  refine rd [0,1,2] (fun i=>[4].contains i) mixed ?_
  refine aU 0 ?_;refine aU 1 ?_;refine aI 2 rfl (dE ⟨hx _ (bP (by omega)),rfl⟩) fE ⟨aB rfl,rfl⟩ (qF (.of (bJ xs (k)).q)) ?_
  refine aI 3 rfl (Lc (hk.2.mono (by omega)) ((hz _ (bP (by omega))).mono (by omega))) La ⟨aB rfl,aB rfl,rfl⟩ (qF (.of ((aE ((xs.take (k)).map Fr4.q))+(bJ xs (k)).q))) ?_
  refine dst 4 ?_;refine aN ?_;refine rl ?_;refine o1 ?_;refine WL.cast (t:=17) (u':=.int .i64 ((k+1:Nat):Int)) rfl (aK (by omega)) ?_
  refine o1 ?_;refine nl ?_;have hst:(aE ((xs.take (k+1)).map Fr4.q))=(aE ((xs.take (k)).map Fr4.q))+(bJ xs (k)).q:=by rw[pF (by omega)];exact Ar _ _
  exact⟨k+1,by omega,⟨by omega,by rw[hst];exact(wV hk.2 (hz _ (bP (by omega)))).mono (by omega)⟩,aL h0 [0,1] _ _ (by decide) ⟨rfl,rfl,rfl,rfl,rfl,trivial⟩ ⟨oe rfl rfl,cB (congrArg (fun q=>some (⟨48,0,((Fr4.of q).tr false).map .t⟩:Ob)) hst.symm),rfl⟩⟩
 refine ex ?_;refine sq ?_;refine rl ?_;refine ld ?_;refine st ?_;refine nl ?_;refine rt ?_
 exact en (.inl rfl) rfl (aT (.agg (.cons (.id rfl) (.cons (.id rfl) (.cons (.id rfl) (.cons (.id rfl) .nil)))))) (by decide) (fun h=>by cases h) (by rw[List.take_of_length_le (by omega)];rfl)
theorem Hl {a:Fr4}{p:Rat}(ha:Qn a p):aC false Tryz.prog 124 [] [qF a] (aM (.tup [kO (p.num.fdiv (p.den:Int)),kO (p.num.fmod (p.den:Int)),.agg [tv (.bool false),.t (sU false (dg 4294967296 p.den))]])):=by
 refine Cz Tryz.func124 rfl Tryz.ntmps124 rfl aA rfl fun N9 w9 c0 h0=>?_
 refine sq ?_;refine rl ?_;refine bx 0 ?_;refine al 1 ?_;refine al 2 ?_;refine al 3 ?_;refine nl ?_;refine sq ?_;refine sq ?_;refine rl ?_;refine ld ?_
 refine ca (Da ha.1) Rx ⟨aB rfl,rfl⟩ (.one (tv (.bool (cT a.s a.x a.t a.y)))) ?_;refine WL.splitb (t:=6) rfl (fun h1=>?_) (fun h1=>?_)
 ·refine o1 ?_;refine nl ?_;refine fK rfl ?_;refine sk ?_;refine sq ?_;obtain rfl:=(ha.right h1).symm
  have hd0:(p.den:Int)≠0:=by have:=p.den_pos;omega
  refine rl ?_;refine o1 ?_;refine ld ?_;refine o1 ?_;refine ld ?_;refine fG 4 (nI (gA ha.sz).g (dM ha.sz).g hd0) wW ⟨aB rfl,aB rfl,rfl⟩ ?_;(iterate 4 refine o1 ?_)
  refine st ?_;refine st ?_;refine nl ?_;refine sq ?_;refine rd [0,3] (fun i=>[6].contains i) mixed ?_
  refine dv 2 ?_;refine aU 3 ?_;refine WO.two (i:=0) (j:=1) (by kernel_rfl) ?_ ?_
  ·refine jZ 0 ?_;refine WO.two (i:=1) (j:=4) (by kernel_rfl) ?_ ?_
   ·refine jZ 1 ?_;refine aR 4 (by kernel_rfl) rfl rfl aA rfl rfl rfl rfl ⟨rfl,rfl,trivial⟩ ?_
    refine aR 5 (by kernel_rfl) rfl rfl aA rfl rfl rfl rfl ⟨rfl,rfl,trivial⟩ ?_
    refine dst 6 ?_;refine aN ?_;refine rt ?_
    exact gN <| en (.inl rfl) rfl (nJ (.cons (.agg (.cons (.id rfl) (.cons (.sl (trs:=aJ (dg 4294967296 ((p.num.fdiv (p.den:Int))).natAbs)) rfl rfl (aW _) (aP _)) .nil))) (.cons (.agg (.cons (.id rfl) (.cons (.sl (trs:=aJ (dg 4294967296 ((p.num.fmod (p.den:Int))).natAbs)) rfl rfl (aW _) (aP _)) .nil))) (.cons (.agg (.cons (.id rfl) (.cons (.id rfl) .nil))) .nil)))) (by simp) (fun h=>by cases h) rfl
   refine GK 4 rfl rfl aA rfl rfl rfl rfl ⟨rfl,rfl,trivial⟩ ?_;refine WO.one (by kernel_rfl) (jZ 1 ?_)
   refine aR 5 (by kernel_rfl) rfl rfl aA rfl rfl rfl rfl ⟨rfl,rfl,trivial⟩ ?_
   refine dst 6 ?_;refine aN ?_;refine rt ?_
   exact gN <| en (.inl rfl) rfl (nJ (.cons (.agg (.cons (.id rfl) (.cons (.sl (trs:=aJ (dg 4294967296 ((p.num.fdiv (p.den:Int))).natAbs)) rfl rfl (aW _) (aP _)) .nil))) (.cons (.agg (.cons (.id rfl) (.cons (.sl (trs:=aJ (dg 4294967296 ((p.num.fmod (p.den:Int))).natAbs)) rfl rfl (aW _) (aP _)) .nil))) (.cons (.agg (.cons (.id rfl) (.cons (.id rfl) .nil))) .nil)))) (by simp) (fun h=>by cases h) rfl
  refine jZ 1 ?_;refine WO.one (by kernel_rfl) (jZ 0 ?_)
  refine aR 4 (by kernel_rfl) rfl rfl aA rfl rfl rfl rfl ⟨rfl,rfl,trivial⟩ ?_
  refine aR 5 (by kernel_rfl) rfl rfl aA rfl rfl rfl rfl ⟨rfl,rfl,trivial⟩ ?_
  refine dst 6 ?_;refine aN ?_;refine rt ?_
  exact gN <| en (.inl rfl) rfl (nJ (.cons (.agg (.cons (.id rfl) (.cons (.sl (trs:=aJ (dg 4294967296 ((p.num.fdiv (p.den:Int))).natAbs)) rfl rfl (aW _) (aP _)) .nil))) (.cons (.agg (.cons (.id rfl) (.cons (.sl (trs:=aJ (dg 4294967296 ((p.num.fmod (p.den:Int))).natAbs)) rfl rfl (aW _) (aP _)) .nil))) (.cons (.agg (.cons (.id rfl) (.cons (.id rfl) .nil))) .nil)))) (by simp) (fun h=>by cases h) rfl
 refine o1 ?_;refine nl ?_;refine mP rfl ?_;refine sq ?_;refine rl ?_;refine o1 ?_;refine o1 ?_;refine ca (jE (n:=1) (by omega) (by omega)) jF ⟨a1 rfl,rfl⟩ (kF 1) ?_
 (iterate 3 refine st ?_);refine nl ?_;refine rt ?_;have hq9:=ha.wrong h1
 subst hq9;refine vD (Nn (j:=1) (key:=4) (e:=51) (z:=1) rfl rfl rfl (.id (.sl .nil))) ?_;refine vD (Nn (j:=2) (key:=5) (e:=51) (z:=1) rfl rfl rfl (.id (.sl .nil))) ?_
 exact gN <| en (.inl rfl) rfl (nJ (.cons (.agg (.cons (.id rfl) (.cons (.sl (trs:=aJ []) rfl rfl rfl rfl) .nil))) (.cons (.agg (.cons (.id rfl) (.cons (.sl (trs:=aJ []) rfl rfl rfl rfl) .nil))) (.cons (.agg (.cons (.id rfl) (.cons (.id rfl) .nil))) .nil)))) (by simp) (fun h=>by cases h) rfl
theorem Ry {k k':Int}{p:Rat}:aC false Tryz.prog 101 [⟨51,1,(aJ (dg 4294967296 (k).natAbs)).map .t⟩,⟨51,1,(aJ (dg 4294967296 (k').natAbs)).map .t⟩] [.agg [tv (.bool (aF (k))),.sl 0 0 (dg 4294967296 (k).natAbs).length],.agg [tv (.bool (aF (k'))),.sl 1 0 (dg 4294967296 (k').natAbs).length],.agg [tv (.bool false),.t (sU false (dg 4294967296 p.den))]] (Rt [⟨51,1,(aJ (dg 4294967296 (k).natAbs)).map .t⟩,⟨51,1,(aJ (dg 4294967296 (k').natAbs)).map .t⟩] (.one (tv (.bool false)))):=by
 refine Vu Tryz.func101 rfl Tryz.ntmps101 rfl aA rfl fun N9 M9 w9 c0 h0=>?_
 refine sq ?_;refine rl ?_;refine bx 2 ?_;refine bx 3 ?_;refine bx 4 ?_;refine o1 ?_;refine nl ?_;refine sq ?_;refine rl ?_;refine o1 ?_;refine nl ?_;refine rt ?_
 exact Vv (lent':=[⟨51,1,(aJ (dg 4294967296 (k).natAbs)).map .t⟩,⟨51,1,(aJ (dg 4294967296 (k').natAbs)).map .t⟩]) (.inl rfl) rfl (aT (cA _)) (by decide) (fun _ h=>by cases h) ⟨⟨rfl,rfl⟩,⟨rfl,rfl⟩,trivial⟩ ⟨rfl,rfl,trivial⟩ ⟨pG _,pG _,trivial⟩ (fun h=>by cases h) ⟨rfl,rfl⟩
theorem Hm (xs:List Nat):((aJ xs).map AV.t).take (aJ xs).length=(aJ xs).map .t:=List.take_of_length_le (by simp)
theorem JM {a:Fr4}{p:Rat}(ha:Qn a p):aC true Tryz.prog 100 [] [qF a,.one (.t (.f 101 [] []))] (aM (kO (fl p))):=by
 refine bR Tryz.func100 rfl Tryz.ntmps100 rfl aA rfl fun N9 w9 c0 h0=>?_
 refine sq ?_;refine rl ?_;refine bx 0 ?_;refine al 1 ?_;refine nl ?_;refine sq ?_;refine rl ?_;refine ld ?_;refine fG 2 (Hl ha) Vx ⟨aB rfl,rfl⟩ ?_;(iterate 4 refine o1 ?_)
 refine al 4 ?_;refine al 5 ?_;refine al 6 ?_;(iterate 3 refine st ?_);refine nl ?_;refine sq ?_;refine sq ?_;refine rl ?_;refine ld ?_
 refine ca (lY (Zg.of (k:=(p.num.fmod (p.den:Int))) (Nat.le_trans (vT p) (Nat.le_trans ha.sz.2 (by omega))))) sE ⟨nK rfl (.cons .t (.cons (.sl rfl rfl (Hm _) (aP _)) .nil)),rfl⟩ (.one (tv (.int .i64 ((p.num.fmod (p.den:Int))).sign))) ?_
 refine o1 ?_;refine o1 ?_;refine WL.split (t:=17) rfl (fun h1=>?_) (fun h1=>?_)
 ·refine o1 ?_;(iterate 3 refine ld ?_)
  refine LM 7 [2,3] [.agg [tv (.bool (aF ((p.num.fdiv (p.den:Int))))),.sl 0 0 (dg 4294967296 ((p.num.fdiv (p.den:Int))).natAbs).length],.agg [tv (.bool (aF ((p.num.fmod (p.den:Int))))),.sl 1 0 (dg 4294967296 ((p.num.fmod (p.den:Int))).natAbs).length],.agg [tv (.bool false),.t (sU false (dg 4294967296 p.den))]] rfl (Ry (k:=(p.num.fdiv (p.den:Int))) (k':=(p.num.fmod (p.den:Int))) (p:=p)) GL ⟨cB rfl,cB rfl,rfl⟩ ⟨rfl,rfl,rfl,rfl⟩ (ok:=[some ⟨51,1,(aJ (dg 4294967296 ((p.num.fdiv (p.den:Int))).natAbs)).map .t⟩,some ⟨51,1,(aJ (dg 4294967296 ((p.num.fmod (p.den:Int))).natAbs)).map .t⟩]) ⟨cB rfl,cB rfl,rfl⟩ ?_
  refine o1 ?_;refine nl ?_;refine fK rfl ?_;refine sk ?_;refine sq ?_;refine rl ?_;refine ld ?_;refine st ?_;refine nl ?_;refine rt ?_
  exact en (.inl rfl) rfl (aT (.agg (.cons (.id rfl) (.cons (.sl (trs:=aJ (dg 4294967296 ((p.num.fdiv (p.den:Int))).natAbs)) rfl rfl (aW _) (aP _)) .nil)))) (by decide) (fun _=>sF _) (congrArg kO (tZ p))
 (iterate 5 refine eL ?_);refine o1 ?_;refine nl ?_;refine fK rfl ?_;refine sk ?_;refine sq ?_;refine rl ?_;refine ld ?_;refine st ?_;refine nl ?_;refine rt ?_
 exact en (.inl rfl) rfl (aT (.agg (.cons (.id rfl) (.cons (.sl (trs:=aJ (dg 4294967296 ((p.num.fdiv (p.den:Int))).natAbs)) rfl rfl (aW _) (aP _)) .nil)))) (by decide) (fun _=>sF _) (congrArg kO (tZ p))
theorem yO {a:Fr4}{p:Rat}(ha:Qn a p):aC true Tryz.prog 54 [] [qF a] (aM (kO (fl p))):=by
 refine bR Tryz.func54 rfl Tryz.ntmps54 rfl aA rfl fun N9 w9 c0 h0=>?_
 refine sq ?_;refine rl ?_;refine bx 0 ?_;refine al 1 ?_;refine nl ?_;refine sq ?_;refine rl ?_;refine ld ?_;refine fG 2 (JM ha) GM ⟨aB rfl,a1 rfl,rfl⟩ ?_
 refine st ?_;refine nl ?_;refine rt ?_
 exact en (.inl rfl) rfl (aT (.agg (.cons (.id rfl) (.cons (.sl (trs:=aJ (dg 4294967296 (fl p).natAbs)) rfl rfl (aW _) (aP _)) .nil)))) (by decide) (fun _=>sF _) rfl
theorem No {a:Fr4}{p:Rat}(ha:Qn a p):aC false Tryz.prog 97 [] [qF a] (aM (qF (.of (fc p)))):=by
 refine bR Tryz.func97 rfl Tryz.ntmps97 rfl aA rfl fun N9 w9 c0 h0=>?_
 refine sq ?_;refine rl ?_;refine bx 0 ?_;refine al 1 ?_;refine nl ?_;refine sq ?_;refine rl ?_;refine ld ?_
 refine ca (Hl ha) Vx ⟨aB rfl,rfl⟩ (.tup [kF (p.num.fdiv (p.den:Int)),kF (p.num.fmod (p.den:Int)),.agg [tv (.bool false),.t (sU false (dg 4294967296 p.den))]]) ?_
 (iterate 4 refine o1 ?_);refine al 2 ?_;refine al 3 ?_;refine al 4 ?_;(iterate 3 refine st ?_);refine nl ?_;refine sq ?_;refine rl ?_;refine ld ?_;refine ld ?_
 refine ca (wU (Zn.of (k:=(p.num.fmod (p.den:Int))) (Nat.le_trans (vT p) (Nat.le_trans ha.sz.2 (by omega)))) (dM ha.sz)) Cy ⟨aB rfl,aB rfl,rfl⟩ (.tup [qF (.of (Rat.divInt (p.num.fmod (p.den:Int)) (p.den:Int))),.one (tv (.int .i64 (if(p.den:Int)=0 then 20 else 0)))]) ?_
 (iterate 3 refine o1 ?_);refine al 5 ?_;refine st ?_;refine o1 ?_;refine nl ?_;refine sq ?_;refine rl ?_;refine ld ?_;refine st ?_;refine nl ?_;refine rt ?_
 exact en (.inl rfl) rfl (aT (.agg (.cons (.id rfl) (.cons (.id rfl) (.cons (.id rfl) (.cons (.id rfl) .nil)))))) (by decide) (fun h=>by cases h) (congrArg (fun q=>qF (.of q)) (Np p))
theorem yP (k:Int):Rat.divInt k 1=(k:Rat):=by
 have h:=oS k 1 (by omega)
 rwa[show((1:Int):Rat)=1 from rfl,Rat.mul_one]at h
theorem fL {a:Zi}{k:Int}(ha:Zn a k):aC false Tryz.prog 44 [] [gF a] (aM (qF (.of (k:Rat)))):=by
 refine bR Tryz.func44 rfl Tryz.ntmps44 rfl aA rfl fun N9 w9 c0 h0=>?_
 refine sq ?_;refine rl ?_;refine bx 0 ?_;refine al 1 ?_;refine nl ?_;refine sq ?_;refine rd [0,1] (fun i=>[8].contains i) mixed ?_
 refine aU 0 ?_;refine WO.two (i:=1) (j:=6) (by kernel_rfl) ?_ ?_
 ·refine cQ 1 rfl (jE (n:=1) (by omega) (by omega)) jF ⟨a1 rfl,rfl⟩ (kF 1) ?_
  refine WO.two (i:=2) (j:=6) (by kernel_rfl) ?_ ?_
  ·refine cQ 2 rfl (wU ha (Zn.of (k:=1) (by decide))) Cy ⟨aB rfl,aB rfl,rfl⟩ (.tup [qF (.of (Rat.divInt k 1)),.one (tv (.int .i64 (if(1:Int)=0 then 20 else 0)))]) ?_
   refine df 3 ?_;refine df 4 ?_;refine df 5 ?_;refine eA (key:=2) 6 (by kernel_rfl) rfl rfl aA rfl ⟨rfl,rfl,trivial⟩ ?_
   refine aR 7 (by kernel_rfl) rfl rfl aA rfl rfl rfl rfl ⟨rfl,rfl,trivial⟩ ?_
   refine dI 8 (by kernel_rfl) rfl rfl aA rfl (by trivial) ?_ (fun h=>by first | rfl | cases h)
   refine aN ?_;refine sq ?_;refine rl ?_;refine ld ?_;refine st ?_;refine nl ?_;refine rt ?_
   exact en (.inl rfl) rfl (aT (.agg (.cons (.id rfl) (.cons (.id rfl) (.cons (.id rfl) (.cons (.id rfl) .nil)))))) (by decide) (fun h=>by cases h) (congrArg (fun q=>qF (.of q)) (yP k))
  refine bU (key:=2) 6 rfl rfl aA rfl ⟨rfl,rfl,trivial⟩ ?_
  refine aI 2 rfl (wU ha (Zn.of (k:=1) (by decide))) Cy ⟨aB rfl,aB rfl,rfl⟩ (.tup [qF (.of (Rat.divInt k 1)),.one (tv (.int .i64 (if(1:Int)=0 then 20 else 0)))]) ?_
  refine df 3 ?_;refine df 4 ?_;refine df 5 ?_;refine aR 7 (by kernel_rfl) rfl rfl aA rfl rfl rfl rfl ⟨rfl,rfl,trivial⟩ ?_
  refine dI 8 (by kernel_rfl) rfl rfl aA rfl (by trivial) ?_ (fun h=>by first | rfl | cases h)
  refine aN ?_;refine sq ?_;refine rl ?_;refine ld ?_;refine st ?_;refine nl ?_;refine rt ?_
  exact en (.inl rfl) rfl (aT (.agg (.cons (.id rfl) (.cons (.id rfl) (.cons (.id rfl) (.cons (.id rfl) .nil)))))) (by decide) (fun h=>by cases h) (congrArg (fun q=>qF (.of q)) (yP k))
 refine bU (key:=2) 6 rfl rfl aA rfl ⟨rfl,rfl,trivial⟩ ?_;refine aI 1 rfl (jE (n:=1) (by omega) (by omega)) jF ⟨a1 rfl,rfl⟩ (kF 1) ?_
 refine aI 2 rfl (wU ha (Zn.of (k:=1) (by decide))) Cy ⟨aB rfl,aB rfl,rfl⟩ (.tup [qF (.of (Rat.divInt k 1)),.one (tv (.int .i64 (if(1:Int)=0 then 20 else 0)))]) ?_
 refine df 3 ?_;refine df 4 ?_;refine df 5 ?_;refine aR 7 (by kernel_rfl) rfl rfl aA rfl rfl rfl rfl ⟨rfl,rfl,trivial⟩ ?_
 refine dI 8 (by kernel_rfl) rfl rfl aA rfl (by trivial) ?_ (fun h=>by first | rfl | cases h)
 refine aN ?_;refine sq ?_;refine rl ?_;refine ld ?_;refine st ?_;refine nl ?_;refine rt ?_
 exact en (.inl rfl) rfl (aT (.agg (.cons (.id rfl) (.cons (.id rfl) (.cons (.id rfl) (.cons (.id rfl) .nil)))))) (by decide) (fun h=>by cases h) (congrArg (fun q=>qF (.of q)) (yP k))
def lT (a:Fr4):Bool:= !cT a.s a.x a.t a.y || decide (cS a.t a.y≠1)
theorem JN {a:Fr4}{p:Rat}(_:Qn a p) (h:cT a.s a.x a.t a.y=true):decide ((cS a.t a.y-1).sign≠0)=lT a:=by
 unfold lT
 rw[h]
 have e:((cS a.t a.y-1).sign=0)↔cS a.t a.y=1:=by rw[Int.sign_eq_zero_iff_zero];omega
 simp[e]
theorem Rz (p:Rat) (h:cT (Fr4.of p).s (Fr4.of p).x (Fr4.of p).t (Fr4.of p).y=true):lT (.of p)= !decide (p.den=1):=by
 unfold lT
 rw[h]
 have e:cS (Fr4.of p).t (Fr4.of p).y=(p.den:Int):=pH p.den
 rw[e]
 have e2:((p.den:Int)≠1)↔¬p.den=1:=by omega
 simp[e2]
theorem Ld {a:Fr4}{p:Rat}(ha:Qn a p):aC true Tryz.prog 88 [] [qF a] (aM (.one (tv (.bool (lT a))))):=by
 refine bR Tryz.func88 rfl Tryz.ntmps88 rfl aA rfl fun N9 w9 c0 h0=>?_
 refine sq ?_;refine rl ?_;refine bx 0 ?_;refine o1 ?_;refine nl ?_;refine sq ?_;refine rd [0] (fun i=>[10].contains i) mixed ?_
 refine aU 0 ?_;refine aI 1 rfl (Da ha.1) Rx ⟨aB rfl,rfl⟩ (.one (tv (.bool (cT a.s a.x a.t a.y)))) ?_;refine WD.splitb (t:=4) rfl (fun h1=>?_) (fun h1=>?_)
 ·refine df 2 ?_;refine df 3 ?_;refine dv 4 ?_;refine aU 5 ?_;refine aI 6 rfl (jE (n:=1) (by omega) (by omega)) jF ⟨a1 rfl,rfl⟩ (kF 1) ?_
  refine aI 7 rfl (sG (qQ ha) (Zn.of (k:=1) (by decide))) vU ⟨aB rfl,aB rfl,rfl⟩ (.one (tv (.int .i64 (cS a.t a.y-1).sign))) ?_
  refine df 8 ?_;refine df 9 ?_;refine dI 10 (by kernel_rfl) rfl rfl aA rfl (by trivial) ?_ (fun h=>by first | rfl | cases h)
  refine aN ?_;refine rt ?_;have hr9:=ha.right h1
  exact en (.inl rfl) rfl (aT (cA _)) (by decide) (fun _=>trivial) (congrArg (fun z=>FV.one (tv (.bool z))) (JN ha h1))
 refine df 2 ?_;refine df 3 ?_;refine bB 4 ?_;refine bB 5 ?_;refine bB 6 ?_;refine bB 7 ?_;refine bB 8 ?_;refine df 9 ?_
 refine dI 10 (by kernel_rfl) rfl rfl aA rfl (by trivial) ?_ (fun h=>by first | rfl | cases h)
 refine aN ?_;refine rt ?_;exact en (.inl rfl) rfl (aT (cA _)) (by decide) (fun _=>trivial) (congrArg (fun z=>FV.one (tv (.bool z))) (by unfold lT;rw[h1];rfl))
section
variable {α:Type}
def pI (dl:α→Bool):List α→Nat
 | []=>0
 | x::l=>if dl x then 0 else pI dl l+1
theorem Db {dl:α→Bool}:∀(l:List α),pI dl l≤l.length
 | []=>Nat.le_refl _
 | x::l=>by
  have:=Db (dl:=dl) l
  unfold pI
  split <;> simp <;> omega
theorem vV {dl:α→Bool}{d:α}:∀{l:List α}{k:Nat},k≤pI dl l→k<l.length→(dl (l.getD k d)=true→pI dl l=k)∧(dl (l.getD k d)=false→k+1≤pI dl l)
 | [],_,_,h=>by simp at h
 | x::l,0,_,_=>by
  have e:(x::l).getD 0 d=x:=rfl
  rw[e]
  unfold pI
  exact⟨fun h=>by simp[h],fun h=>by simp[h]⟩
 | x::l,k+1,h,h2=>by
  have e:(x::l).getD (k+1) d=l.getD k d:=by simp
  rw[e]
  unfold pI at h⊢
  by_cases hx:dl x=true
  ·simp[hx]at h
  simp only[if_neg hx]at h⊢
  have:=vV (dl:=dl) (d:=d) (l:=l) (k:=k) (by omega) (by simpa using h2)
  exact⟨fun h=>by rw[this.1 h],fun h=>by have:=this.2 h;omega⟩
theorem Ho {dl:α→Bool}:∀(l:List α),l.any dl=decide (pI dl l<l.length)
 | []=>rfl
 | x::l=>by
  unfold pI
  by_cases hx:dl x=true
  ·simp[hx]
  simp only[if_neg hx,List.any_cons,Ho l,List.length_cons]
  simp[hx]
def Hp (dl:α→Bool) (l:List α):Int:=if pI dl l=l.length then-1 else(pI dl l:Int)
theorem Xw {dl:α→Bool}(l:List α):decide (0≤Hp dl l)=l.any dl:=by
 have h:=Db (dl:=dl) l
 rw[Ho]
 unfold Hp
 split
 ·rw[decide_eq_decide];omega
 rw[decide_eq_decide];omega
end
section
variable {lt:Nat→Nat→Bool}{A B C D:List Nat}{x y j:Nat}
def Rw9 (D A:List Nat) (x:Nat) (B C:List Nat):Prop:=D=A.reverse++x::(B++C)
theorem Rw9.at (h:Rw9 D A x B C):nth D A.length=x:=by
 subst h
 simp[nth,List.getD_eq_getElem?_getD]
theorem Rw9.len (h:Rw9 D A x B C):A.length<D.length:=by
 subst h
 simp
theorem Rw9.ahead (h:Rw9 D (y::A) x B C):nth D A.length=y:=by
 subst h
 simp[nth,List.getD_eq_getElem?_getD]
theorem Rw9.swap (h:Rw9 D (y::A) x B C):Rw9 ((D.set (A.length+1) y).set A.length x) A x (y::B) C:=by
 unfold Rw9 at h⊢
 subst h
 rw[List.reverse_cons,List.append_assoc]
 rw[List.set_append_right _ _ (by simp),List.length_reverse]
 rw[show A.length+1-A.length=1 by omega]
 rw[List.set_append_right _ _ (by simp),List.length_reverse]
 simp
theorem Sa {xs:List Nat}{i:Nat}(h:i<xs.length):jK lt (xs.take (i+1))=gI lt (nth xs i) (jK lt (xs.take i)):=by
 rw[List.take_add_one,wX h]
 exact Sb lt _ _
theorem Xx (l:List Nat):(jK lt l).length=l.length:=(Dc lt l).length_eq
theorem Nq (h:lt x y=true):(gI lt x (y::A)).reverse++B=(gI lt x A).reverse++(y::B):=by
 rw[gI,if_pos h]
 simp
theorem Nr (h:∀y A',A=y::A'→lt x y=false):gI lt x A=x::A:=by
 cases A with
 | nil=>rfl
 | cons y A'=>rw[gI,if_neg (by rw[h y A' rfl];simp)]
end
def yQ (f:Nat→Rat) (i k:Nat):Int:=if(f k-f i).num.sign≠0 then(f k-f i).num.sign else if i<k then-1 else if k<i then 1 else 0
theorem Xy (f:Nat→Rat) (i k:Nat):decide (yQ f i k<0)=fT f i k:=by
 have h1:=rU (f k) (f i)
 unfold yQ fT
 rw[h1]
 by_cases h2:f k<f i
 ·simp[h2]
 by_cases h3:f k=f i
 ·rw[if_neg h2,if_pos h3]
  by_cases h4:i<k
  ·simp[h3,h4]
  by_cases h5:k<i
  ·simp[h3,h4,h5]
  simp[h3,h4,h5]
 rw[if_neg h2,if_neg h3]
 simp[h2,h3]
theorem CG {xs:List Fr4}{dl:Fr4→Bool}{fd:FuncId}{fst caps:List Tr}(hok:CallOk Tryz.prog fd) (hd:∀x∈xs,aC true Tryz.prog fd [] (cX fst++[.agg ((Fr4.tr false x).map .t)]++cX caps) (aM (.one (tv (.bool (dl x)))))) (hl:xs.length≤1073741823):aC true Tryz.prog 121 [] [.one (.t (sQ false xs)),.one (.t (.f fd fst caps))] (aM (.one (tv (.int .i64 (Hp dl xs))))):=by
 refine bR Tryz.func121 rfl Tryz.ntmps121 rfl aA rfl fun N w c0 h0=>?_
 refine sq ?_;refine rl ?_;refine o1 ?_;refine nl ?_;refine sq ?_;refine sq ?_;refine rl ?_;(iterate 3 refine o1 ?_);refine nl ?_;refine bl ?_
 refine lp (γ:=Nat) (fun k=>cH [(0,.one (.t (sQ false xs))),(1,.one (.t (.f fd fst caps))),(7,.one (tv (.int .i64 ((xs.length:Nat):Int)))),(8,.one (tv (.int .i64 ((k:Nat):Int))))]) (fun k=>[].map some) (fun k=>k≤xs.length∧k≤pI dl xs) (fun k=>xs.length-k) 0 (⟨Nat.zero_le _,Nat.zero_le _⟩) (aL h0 [] _ _ (by decide) ⟨rfl,rfl,rfl,rfl,trivial⟩ rfl) fun k hk=>?_
 refine sq ?_;refine rl ?_;refine o1 ?_;refine nl ?_;refine sq ?_;refine bX rfl (fun h1=>?_) (fun h1=>?_)
 ·refine sk ?_;refine sq ?_;refine bl ?_;refine sq ?_;refine rl ?_;refine o1 ?_;refine o1 ?_;refine nl ?_;refine sq ?_;refine rl ?_;(iterate 4 refine o1 ?_)
  refine fS ((Fr4.tr false) (bJ xs (k))) (eR (f:=(Fr4.tr false)) (z:=4) (o:=0) (fun _=>rfl) (eN (by omega)) (Nat.le_of_ble_eq_true rfl) rfl) ?_
  refine ce 0 [.agg ((Fr4.tr false (bJ xs (k))).map .t)] rfl (hd (bJ xs (k)) (bP (by omega))) hok ⟨rfl,rfl⟩ ?_
  refine nl ?_;refine vE rfl (fun h2=>?_) (fun h2=>?_)
  ·refine sq ?_;refine rl ?_;refine o1 ?_;refine o1 ?_;refine nl ?_;refine rt ?_;have hx9:=(vV hk.2 (by omega)).1 h2
   exact en (.inl rfl) rfl (aT (cA _)) (by decide) (fun _=>trivial) (congrArg (fun z=>FV.one (tv (.int .i64 z))) (by unfold Hp;rw[hx9,if_neg (by omega)]))
  refine sk ?_;refine rl ?_;refine o1 ?_;refine WL.cast (t:=18) (u':=.int .i64 ((k+1:Nat):Int)) rfl (aK (by omega)) ?_
  refine o1 ?_;refine nl ?_;exact⟨k+1,by omega,⟨by omega,(vV hk.2 (by omega)).2 h2⟩,aL h0 [] _ _ (by decide) ⟨rfl,rfl,rfl,rfl,trivial⟩ rfl⟩
 refine ex ?_;refine sq ?_;refine rl ?_;refine o1 ?_;refine nl ?_;refine rt ?_;have hx9:=Db (dl:=dl) xs
 exact en (.inl rfl) rfl (aT (cA _)) (by decide) (fun _=>trivial) (congrArg (fun z=>FV.one (tv (.int .i64 z))) (by unfold Hp;rw[if_pos (by omega)]))
theorem Ns {xs:List Fr4}{dl:Fr4→Bool}{fd:FuncId}{fst caps:List Tr}(hok:CallOk Tryz.prog fd) (hd:∀x∈xs,aC true Tryz.prog fd [] (cX fst++[.agg ((Fr4.tr false x).map .t)]++cX caps) (aM (.one (tv (.bool (dl x)))))) (hl:xs.length≤1073741823):aC true Tryz.prog 87 [] [.one (.t (sQ false xs)),.one (.t (.f fd fst caps))] (aM (.one (tv (.bool (xs.any dl))))):=by
 refine bR Tryz.func87 rfl Tryz.ntmps87 rfl aA rfl fun N w c0 h0=>?_
 refine sq ?_;refine rl ?_;refine o1 ?_;refine nl ?_;refine sq ?_;refine rl ?_;refine o1 ?_;refine o1 ?_
 refine ca (CG hok hd hl) GN ⟨a1 rfl,a1 rfl,rfl⟩ (.one (tv (.int .i64 (Hp dl xs)))) ?_;refine o1 ?_;refine o1 ?_;refine nl ?_;refine rt ?_
 exact en (.inl rfl) rfl (aT (cA _)) (by decide) (fun _=>trivial) (congrArg (fun z=>FV.one (tv (.bool z))) (Xw xs))
theorem vW {l:List Nat}{k:Nat}(h:k<l.length):nth l k∈l:=List.mem_of_getElem? (wX h)
theorem Dd {l:List Nat}{i j x y z:Nat}(h:z∈(l.set i x).set j y):z∈l∨z=x∨z=y:=by
 rcases List.mem_or_eq_of_mem_set h with h | h
 ·rcases List.mem_or_eq_of_mem_set h with h | h
  ·exact .inl h
  exact .inr (.inl h)
 exact .inr (.inr h)
section
variable {lt:Nat→Nat→Bool}{A B C D:List Nat}{x y i:Nat}{xs:List Nat}
theorem Rw9.hd (h:Rw9 D A x B C) (hp:0<A.length):nth D (A.length-1)=A.headD 0:=by
 cases A with
 | nil=>simp at hp
 | cons y A=>exact h.ahead
theorem Rw9.swap9 (h:Rw9 D A x B C) (hp:0<A.length):Rw9 ((D.set (A.length) (nth D (A.length-1))).set (A.length-1) (nth D (A.length))) A.tail x (A.headD 0::B) C:=by
 have h1:=h.hd hp
 have h2:=h.at
 rw[h1,h2]
 cases A with
 | nil=>simp at hp
 | cons y A=>exact h.swap
theorem Hq (hp:0<A.length) (h:lt x (A.headD 0)=true):(gI lt x A.tail).reverse++(A.headD 0::B)=(gI lt x A).reverse++B:=by
 cases A with
 | nil=>simp at hp
 | cons y A=>exact(Nq h).symm
theorem Xz (xs:List Nat):xs=(jK lt (xs.take 1)).reverse++xs.drop 1:=by
 cases xs with
 | nil=>rfl
 | cons x l=>rfl
theorem Nt (hi:i<xs.length) (h:D=(jK lt (xs.take i)).reverse++xs.drop i):Rw9 D (jK lt (xs.take i)) (nth xs i) [] (xs.drop (i+1)):=by
 unfold Rw9
 rw[h,List.nil_append]
 have e:=wX hi
 rw[List.getElem?_eq_getElem hi]at e
 rw[←Option.some.inj e,List.getElem_cons_drop]
theorem De (hi:i<xs.length) (h:Rw9 D A (nth xs i) B (xs.drop (i+1))) (hQ:(gI lt (nth xs i) A).reverse++B=(gI lt (nth xs i) (jK lt (xs.take i))).reverse) (hs:∀y A',A=y::A'→lt (nth xs i) y=false):D=(jK lt (xs.take (i+1))).reverse++xs.drop (i+1):=by
 rw[Sa hi,←hQ,Nr hs]
 unfold Rw9 at h
 rw[h]
 simp
end
theorem Sc {xs:List Nat}{m:Nat}{cf:Nat→Nat→Int}{lt:Nat→Nat→Bool}{fd:FuncId}{fst caps:List Tr}(hok:CallOk Tryz.prog fd) (hd:∀x y,x<m→y<m→aC true Tryz.prog fd [] (cX fst++[.one (tv (.int .i64 ((x:Nat):Int))),.one (tv (.int .i64 ((y:Nat):Int)))]++cX caps) (aM (.one (tv (.int .i64 (cf x y)))))) (hlt:∀x y,decide (cf x y<0)=lt x y) (hm:∀z∈xs,z<m) (hl:xs.length≤1073741823):aC false Tryz.prog 137 [⟨3,1,(cC xs).map .t⟩] [.one (.sl 0 0 xs.length),.one (tv (.int .i64 ((0:Nat):Int))),.one (tv (.int .i64 ((xs.length:Nat):Int))),.one (.t (.f fd fst caps))] (Rt [⟨3,1,(cC (gX lt xs)).map .t⟩] (.tup [])):=by
 refine Vu Tryz.func137 rfl Tryz.ntmps137 rfl aA rfl fun N9 M9 w9 c0 h0=>?_
 refine sq ?_;refine rl ?_;refine o1 ?_;refine o1 ?_;refine WL.cast (t:=11) (u':=.int .i64 ((0+1:Nat):Int)) rfl (aK (by omega)) ?_
 refine o1 ?_;refine nl ?_;refine bl ?_
 refine lp (γ:=Nat×List Nat) (fun s=>cH [(0,.one (.sl 0 0 (xs.length))),(1,.one (tv (.int .i64 ((0:Nat):Int)))),(2,.one (tv (.int .i64 ((xs.length:Nat):Int)))),(3,.one (.t (.f fd fst caps))),(8,.one (tv (.int .i64 ((s.1:Nat):Int))))]) (fun s=>[(⟨3,1,(cC s.2).map .t⟩:Ob)].map some) (fun s=>1≤s.1∧s.2=(jK lt (xs.take s.1)).reverse++xs.drop s.1∧s.2.length=xs.length∧∀z∈s.2,z<m) (fun s=>xs.length-s.1) (1,xs) ⟨Nat.le_refl _,Xz xs,rfl,hm⟩ (As h0 [0] _ _ (by decide) rfl ⟨rfl,rfl,rfl,rfl,rfl,trivial⟩ ⟨cB rfl,rfl⟩) ?_
 rintro⟨i,D0⟩ ⟨hi,hE,hDl0,hDm0⟩;dsimp only at hi hE hDl0 hDm0⊢;refine sq ?_;refine sq ?_;refine rl ?_;(iterate 3 refine o1 ?_);refine nl ?_;refine bX rfl (fun h1=>?_) (fun h1=>?_)
 ·refine sk ?_;refine sq ?_;refine bl ?_;refine sq ?_;have hR0:Rw9 D0 (jK lt (xs.take i)) (nth xs i) [] (xs.drop (i+1)):=Nt (by omega) hE
  have hlen0:(jK lt (xs.take i)).length=i:=by rw[Xx,List.length_take];omega
  refine rl ?_;refine o1 ?_;refine o1 ?_;refine nl ?_;refine bl ?_;have hnx:nth xs i<m:=hm _ (vW (by omega))
  refine lp (γ:=List Nat×List Nat×List Nat) (fun s=>cH [(0,.one (.sl 0 0 (xs.length))),(1,.one (tv (.int .i64 ((0:Nat):Int)))),(2,.one (tv (.int .i64 ((xs.length:Nat):Int)))),(3,.one (.t (.f fd fst caps))),(8,.one (tv (.int .i64 ((i:Nat):Int)))),(9,.one (tv (.int .i64 ((s.1.length:Nat):Int))))]) (fun s=>[(⟨3,1,(cC s.2.2).map .t⟩:Ob)].map some) (fun s=>Rw9 s.2.2 s.1 (nth xs i) s.2.1 (xs.drop (i+1))∧(gI lt (nth xs i) s.1).reverse++s.2.1=(gI lt (nth xs i) (jK lt (xs.take i))).reverse∧s.2.2.length=xs.length∧∀z∈s.2.2,z<m) (fun s=>s.1.length) ((jK lt (xs.take i)),[],D0) ⟨hR0,by simp,hDl0,hDm0⟩ (As h0 [0] _ _ (by decide) rfl ⟨rfl,rfl,rfl,rfl,rfl,CH (by dsimp only;rw[hlen0]),trivial⟩ ⟨cB rfl,rfl⟩) ?_
  rintro⟨A,B,D⟩ ⟨hR,hQ,hDl,hD2⟩;dsimp only at hR hQ hDl hD2⊢;have hAl:=hR.len
  refine sq ?_;refine sq ?_;refine rd [0] (fun i=>[].contains i) mixed ?_
  refine dv 0 ?_;refine dv 1 ?_;refine dv 2 ?_;refine dv 3 ?_;refine WD.split (t:=21) rfl rfl (fun h2=>?_) (fun h2=>?_)
  ·refine dv 4 ?_;refine dv 5 ?_;refine dv 6 ?_;refine dv 7 ?_;refine Sd 8 (jL D (k:=A.length) (by omega)) ?_
   refine dv 9 ?_;refine dv 10 ?_;refine dv 11 ?_;refine WD.cast (t:=29) (u':=.int .i64 ((A.length-1:Nat):Int)) rfl (aK (by omega)) ?_
   refine dv 12 ?_;refine Sd 13 (jL D (k:=A.length-1) (by omega)) ?_
   refine CE 14 1 [.one (tv (.int .i64 ((nth D (A.length):Nat):Int))),.one (tv (.int .i64 ((nth D (A.length-1):Nat):Int)))] rfl rfl (hd (nth D (A.length)) (nth D (A.length-1)) (hD2 _ (vW (by omega))) (hD2 _ (vW (by omega)))) hok ⟨rfl,rfl,rfl⟩ ?_
   refine df 15 ?_;refine df 16 ?_;refine aN ?_;refine bX rfl (fun h3=>?_) (fun h3=>?_)
   ·refine sk ?_;refine sq ?_;refine bl ?_;refine rd [] (fun i=>[17].contains i) mixed ?_
    refine dv 0 ?_;refine dv 1 ?_;refine dv 2 ?_;refine dv 3 ?_;refine dv 4 ?_;refine WD.cast (t:=41) (u':=.int .i64 ((A.length-1:Nat):Int)) rfl (aK (by omega)) ?_
    refine dv 5 ?_;refine dv 6 ?_;refine dv 7 ?_;refine WD.cast (t:=44) (u':=.int .i64 ((A.length-1:Nat):Int)) rfl (aK (by omega)) ?_
    refine dv 8 ?_;refine dv 10 ?_;refine dv 11 ?_;refine dv 12 ?_;refine WO.two (i:=9) (j:=13) (by kernel_rfl) ?_ ?_
    ·refine Le 9 (jL D (k:=A.length-1) (by omega)) ?_
     refine WO.one (by kernel_rfl) (Le 13 (jL D (k:=A.length) (by omega)) ?_)
     refine dv 14 ?_;refine Lg 15 (iR D (k:=A.length) (v:=nth D (A.length-1)) (by omega)) (kL D (by omega)) ?_
     refine dv 16 ?_
     refine Lh 17 (iR (D.set (A.length) (nth D (A.length-1))) (k:=A.length-1) (v:=nth D (A.length)) (by simp only[List.length_set];omega)) (kL (D.set (A.length) (nth D (A.length-1))) (by simp only[List.length_set];omega)) ?_
     refine aN ?_;refine rl ?_;refine o1 ?_;refine o1 ?_;refine WL.cast (t:=36) (u':=.int .i64 ((A.length-1:Nat):Int)) rfl (aK (by omega)) ?_
     refine o1 ?_;refine nl ?_;have hlt9:lt (nth xs i) (A.headD 0)=true:=by rw[←hlt,←hR.at,←hR.hd (by omega)];exact decide_eq_true h3
     exact⟨(A.tail,A.headD 0::B,(D.set (A.length) (nth D (A.length-1))).set (A.length-1) (nth D (A.length))),by dsimp only;rw[List.length_tail];omega,⟨hR.swap9 (by omega),(Hq (by omega) hlt9).trans hQ,by rw[List.length_set,List.length_set];exact hDl,fun z hz=>by rcases Dd hz with h9 | rfl | rfl;exact hD2 _ h9;exact hD2 _ (vW (by omega));exact hD2 _ (vW (by omega))⟩,As h0 [0] _ _ (by decide) rfl ⟨rfl,rfl,rfl,rfl,rfl,CH (by rw[List.length_tail]),trivial⟩ ⟨cB rfl,rfl⟩⟩
    refine Le 13 (jL D (k:=A.length) (by omega)) ?_
    refine WO.one (by kernel_rfl) (Le 9 (jL D (k:=A.length-1) (by omega)) ?_)
    refine dv 14 ?_;refine Lg 15 (iR D (k:=A.length) (v:=nth D (A.length-1)) (by omega)) (kL D (by omega)) ?_
    refine dv 16 ?_
    refine Lh 17 (iR (D.set (A.length) (nth D (A.length-1))) (k:=A.length-1) (v:=nth D (A.length)) (by simp only[List.length_set];omega)) (kL (D.set (A.length) (nth D (A.length-1))) (by simp only[List.length_set];omega)) ?_
    refine aN ?_;refine rl ?_;refine o1 ?_;refine o1 ?_;refine WL.cast (t:=36) (u':=.int .i64 ((A.length-1:Nat):Int)) rfl (aK (by omega)) ?_
    refine o1 ?_;refine nl ?_;have hlt9:lt (nth xs i) (A.headD 0)=true:=by rw[←hlt,←hR.at,←hR.hd (by omega)];exact decide_eq_true h3
    exact⟨(A.tail,A.headD 0::B,(D.set (A.length) (nth D (A.length-1))).set (A.length-1) (nth D (A.length))),by dsimp only;rw[List.length_tail];omega,⟨hR.swap9 (by omega),(Hq (by omega) hlt9).trans hQ,by rw[List.length_set,List.length_set];exact hDl,fun z hz=>by rcases Dd hz with h9 | rfl | rfl;exact hD2 _ h9;exact hD2 _ (vW (by omega));exact hD2 _ (vW (by omega))⟩,As h0 [0] _ _ (by decide) rfl ⟨rfl,rfl,rfl,rfl,rfl,CH (by rw[List.length_tail]),trivial⟩ ⟨cB rfl,rfl⟩⟩
   refine ex ?_;have hfin:D=(jK lt (xs.take (i+1))).reverse++xs.drop (i+1):=by
    refine De (by omega) hR hQ ?_
    intro y A9 e9;subst e9;have hy9:=hR.hd (by simp)
    have hx9:=hR.at
    rw[←hlt];exact decide_eq_false (fun h9=>h3 (by rw[hx9,hy9];exact h9))
   refine rl ?_;refine o1 ?_;refine o1 ?_;refine WL.cast (t:=16) (u':=.int .i64 ((i+1:Nat):Int)) rfl (aK (by omega)) ?_
   refine o1 ?_;refine nl ?_;exact⟨(i+1,D),by dsimp only;omega,⟨by omega,hfin,hDl,hD2⟩,As h0 [0] _ _ (by decide) rfl ⟨rfl,rfl,rfl,rfl,rfl,trivial⟩ ⟨cB rfl,rfl⟩⟩
  refine bB 4 ?_;refine bB 5 ?_;refine bB 6 ?_;refine bB 7 ?_;refine bB 8 ?_;refine bB 9 ?_;refine bB 10 ?_;refine bB 11 ?_;refine bB 12 ?_;refine bB 13 ?_;refine bB 14 ?_
  refine bB 15 ?_;refine dv 16 ?_;refine aN ?_;refine fK rfl ?_;refine ex ?_;have hfin:D=(jK lt (xs.take (i+1))).reverse++xs.drop (i+1):=by
   refine De (by omega) hR hQ ?_
   intro y A9 e9;subst e9;have hy9:=hR.hd (by simp)
   have hx9:=hR.at
   exact absurd (show((0:Nat):Int)<(((y::A9).length:Nat):Int) by rw[List.length_cons];omega) h2
  refine rl ?_;refine o1 ?_;refine o1 ?_;refine WL.cast (t:=16) (u':=.int .i64 ((i+1:Nat):Int)) rfl (aK (by omega)) ?_
  refine o1 ?_;refine nl ?_;exact⟨(i+1,D),by dsimp only;omega,⟨by omega,hfin,hDl,hD2⟩,As h0 [0] _ _ (by decide) rfl ⟨rfl,rfl,rfl,rfl,rfl,trivial⟩ ⟨cB rfl,rfl⟩⟩
 refine ex ?_;have hend:D0=gX lt xs:=by rw[hE,List.take_of_length_le (by omega),List.drop_of_length_le (by omega),List.append_nil];rfl
 exact Vv (lent':=[⟨3,1,(cC (gX lt xs)).map .t⟩]) (.inr rfl) rfl CI (by decide) (fun _ h=>by cases h) ⟨⟨rfl,rfl⟩,trivial⟩ ⟨congrArg (fun l=>some (⟨3,1,(cC l).map .t⟩:Ob)) hend,trivial⟩ ⟨pG _,trivial⟩ (fun h=>by cases h) ⟨rfl,rfl⟩
theorem Se {xs:List Nat}{m:Nat}{cf:Nat→Nat→Int}{lt:Nat→Nat→Bool}{fd:FuncId}{fst caps:List Tr}(hok:CallOk Tryz.prog fd) (hd:∀x y,x<m→y<m→aC true Tryz.prog fd [] (cX fst++[.one (tv (.int .i64 ((x:Nat):Int))),.one (tv (.int .i64 ((y:Nat):Int)))]++cX caps) (aM (.one (tv (.int .i64 (cf x y)))))) (hlt:∀x y,decide (cf x y<0)=lt x y) (hm:∀z∈xs,z<m) (hl:xs.length<20):aC false Tryz.prog 123 [⟨3,1,(cC xs).map .t⟩] [.one (.sl 0 0 xs.length),.one (tv (.int .i64 ((xs.length:Nat):Int))),.one (.t (.f fd fst caps))] (Rt [⟨3,1,(cC (gX lt xs)).map .t⟩] (.tup [])):=by
 refine Vu Tryz.func123 rfl Tryz.ntmps123 rfl aA rfl fun N9 M9 w9 c0 h0=>?_
 refine sq ?_;refine rl ?_;refine o1 ?_;refine nl ?_;refine sq ?_;refine rl ?_;(iterate 3 refine o1 ?_);refine nl ?_;refine sq ?_;refine bl ?_
 refine lp (γ:=Unit) (fun _=>cH [(0,.one (.sl 0 0 (xs.length))),(1,.one (tv (.int .i64 ((xs.length:Nat):Int)))),(2,.one (.t (.f fd fst caps))),(6,.one (tv (.int .i64 ((20:Nat):Int)))),(7,.one (tv (.int .i64 ((0:Nat):Int)))),(8,.one (tv (.int .i64 ((20:Nat):Int))))]) (fun _=>[(⟨3,1,(cC xs).map .t⟩:Ob)].map some) (fun _=>True) (fun _=>0) () trivial (As h0 [0] _ _ (by decide) rfl ⟨rfl,rfl,rfl,rfl,rfl,rfl,trivial⟩ ⟨cB rfl,rfl⟩) fun _ _=>?_
 refine sq ?_;refine sq ?_;refine rl ?_;(iterate 3 refine o1 ?_);refine nl ?_;refine bX rfl (fun h1=>?_) (fun h1=>?_)
 ·exact absurd h1 (by omega)
 refine ex ?_;refine sq ?_;refine rl ?_;(iterate 4 refine o1 ?_)
 refine cl 1 [0] (Sc hok hd hlt hm (by omega)) GO ⟨cB rfl,rfl⟩ ⟨rfl,rfl,rfl,rfl,rfl⟩ (ok:=[some ⟨3,1,(cC (gX lt xs)).map .t⟩]) ⟨cB rfl,rfl⟩ ?_
 refine nl ?_;refine bl ?_
 refine lp (γ:=Unit) (fun _=>cH [(0,.one (.sl 0 0 (xs.length))),(1,.one (tv (.int .i64 ((xs.length:Nat):Int)))),(2,.one (.t (.f fd fst caps))),(6,.one (tv (.int .i64 ((20:Nat):Int))))]) (fun _=>[(⟨3,1,(cC (gX lt xs)).map .t⟩:Ob)].map some) (fun _=>True) (fun _=>0) () trivial (As h0 [0] _ _ (by decide) rfl ⟨rfl,rfl,rfl,rfl,trivial⟩ ⟨cB rfl,rfl⟩) fun _ _=>?_
 refine sq ?_;refine sq ?_;refine rl ?_;(iterate 3 refine o1 ?_);refine nl ?_;refine bX rfl (fun h2=>?_) (fun h2=>?_)
 ·exact absurd h2 (by omega)
 refine ex ?_
 exact Vv (lent':=[⟨3,1,(cC (gX lt xs)).map .t⟩]) (.inr rfl) rfl CI (by decide) (fun _ h=>by cases h) ⟨⟨rfl,rfl⟩,trivial⟩ ⟨rfl,trivial⟩ ⟨pG _,trivial⟩ (fun h=>by cases h) ⟨rfl,rfl⟩
theorem CJ {xs:List Nat}{m:Nat}{cf:Nat→Nat→Int}{lt:Nat→Nat→Bool}{fd:FuncId}{fst caps:List Tr}(hok:CallOk Tryz.prog fd) (hd:∀x y,x<m→y<m→aC true Tryz.prog fd [] (cX fst++[.one (tv (.int .i64 ((x:Nat):Int))),.one (tv (.int .i64 ((y:Nat):Int)))]++cX caps) (aM (.one (tv (.int .i64 (cf x y)))))) (hlt:∀x y,decide (cf x y<0)=lt x y) (hm:∀z∈xs,z<m) (hl:xs.length<20):aC false Tryz.prog 94 [⟨3,1,(cC xs).map .t⟩] [.one (.sl 0 0 xs.length),.one (.t (.f fd fst caps))] (Rt [⟨3,1,(cC (gX lt xs)).map .t⟩] (.tup [])):=by
 refine Vu Tryz.func94 rfl Tryz.ntmps94 rfl aA rfl fun N9 M9 w9 c0 h0=>?_
 refine rl ?_;(iterate 4 refine o1 ?_);refine cl 1 [0] (Se hok hd hlt hm hl) GP ⟨cB rfl,rfl⟩ ⟨rfl,rfl,rfl,rfl⟩ (ok:=[some ⟨3,1,(cC (gX lt xs)).map .t⟩]) ⟨cB rfl,rfl⟩ ?_
 refine nl ?_
 exact Vv (lent':=[⟨3,1,(cC (gX lt xs)).map .t⟩]) (.inr rfl) rfl CI (by decide) (fun _ h=>by cases h) ⟨⟨rfl,rfl⟩,trivial⟩ ⟨rfl,trivial⟩ ⟨pG _,trivial⟩ (fun h=>by cases h) ⟨rfl,rfl⟩
theorem Hr {x:Int}:aC true Tryz.prog 125 [] [.one (tv (.int .i64 x))] (aM (.one (tv (.bool false)))):=by
 refine bR Tryz.func125 rfl Tryz.ntmps125 rfl aA rfl fun N9 w9 c0 h0=>?_
 refine sq ?_;refine rl ?_;refine o1 ?_;refine nl ?_;refine sq ?_;refine rl ?_;(iterate 3 refine o1 ?_)
 refine WL.cast (t:=5) (u':=.bool false) rfl (congrArg Value.bool (decide_eq_false fun h=>h rfl)) ?_
 refine o1 ?_;refine nl ?_;refine rt ?_;exact oF (.inl rfl) rfl (rfl)
theorem Nu {x y:Int}:aC true Tryz.prog 98 [] [.one (tv (.int .i64 x)),.one (tv (.int .i64 y))] (aM (.one (tv (.int .i64 (if x<y then-1 else if y<x then 1 else 0))))):=by
 refine bR Tryz.func98 rfl Tryz.ntmps98 rfl aA rfl fun N9 w9 c0 h0=>?_
 refine sq ?_;refine rl ?_;refine o1 ?_;refine nl ?_;refine sq ?_;refine rl ?_;refine o1 ?_;refine ca (Hr) Vy ⟨a1 rfl,rfl⟩ (.one (tv (.bool false))) ?_;refine o1 ?_;refine nl ?_
 refine sq ?_;refine rl ?_;refine o1 ?_;refine ca (Hr) Vy ⟨a1 rfl,rfl⟩ (.one (tv (.bool false))) ?_;refine o1 ?_;refine nl ?_;refine sq ?_;refine sq ?_;refine rl ?_;refine o1 ?_
 refine nl ?_;refine fK rfl ?_;refine sk ?_;refine sq ?_;refine sq ?_;refine rl ?_;refine o1 ?_;refine nl ?_;refine fK rfl ?_;refine sk ?_;refine sq ?_;refine sq ?_;refine rl ?_
 (iterate 3 refine o1 ?_);refine nl ?_;refine bX rfl (fun h1=>?_) (fun h1=>?_)
 ·refine sq ?_;refine rl ?_;refine o1 ?_;refine nl ?_;refine rt ?_
  exact en (.inl rfl) rfl (aT (cA _)) (by decide) (fun _=>trivial) (congrArg (fun z=>FV.one (tv (.int .i64 z))) (by rw[if_pos h1]))
 refine sk ?_;refine sq ?_;refine sq ?_;refine rl ?_;(iterate 3 refine o1 ?_);refine nl ?_;refine bX rfl (fun h2=>?_) (fun h2=>?_)
 ·refine sq ?_;refine rl ?_;refine o1 ?_;refine nl ?_;refine rt ?_
  exact en (.inl rfl) rfl (aT (cA _)) (by decide) (fun _=>trivial) (congrArg (fun z=>FV.one (tv (.int .i64 z))) (by rw[if_neg h1];rw[if_pos h2]))
 refine sk ?_;refine sq ?_;refine rl ?_;refine o1 ?_;refine nl ?_;refine rt ?_
 exact en (.inl rfl) rfl (aT (cA _)) (by decide) (fun _=>trivial) (congrArg (fun z=>FV.one (tv (.int .i64 z))) (by rw[if_neg h1];rw[if_neg h2]))
section
variable {x:Cx}{g:Nat→FV}{ob ob':List (Option Ob)}{cs:List Co}{ts:Array Value}{W:World}{T:List (Nat×TI)}{Q:Post}{ops:Array Oper}{rest:List Oper}{d:Nat}{ty:TypeId}{pos:String}{af:Array Edge}{gd:Option (Nat×Bool)}
theorem Ya {P:Program}{ρ:Operand→Value}{dd:Option Nat}{t:TypeId}{y:Operand}{k:IntKind}{n:Int}(hy:ρ y=.int k n):(execOp ρ ⟨dd,.unOp .neg t y,ty,pos,af,gd⟩).run P W=.ok (.value (.int k (k.wrap (0-n)))) W:=by
 simp[execOp,hy,Op.unary,Op.intArith]
theorem LN {t:Nat}{a:Operand}{k:IntKind}{n:Int}(kk:WL x ops rest (aZ g d (.one (tv (.int k (k.wrap (0-n)))))) ob Q) (hw:bC ops x.n g gd=some true:=by rfl) (ha:lk x.n g a=.one (tv (.int k n)):=by rfl):WL x ops (⟨some d,.unOp .neg t a,ty,pos,af,gd⟩::rest) g ob Q:=by
 refine gJ (Wr:=[]) (R:=fun g' ob'=>g'=aZ g d (.one (tv (.int k (k.wrap (0-n)))))∧ob'=ob) (fun cs ts W hR K Q kk=>?_) hw (by rintro _ _ ⟨rfl,rfl⟩;exact kk)
 have e1:=hR.lk a
 rw[ha]at e1
 have e1:=aQ e1
 exact eH (Ya e1) (kk _ _ _ _ _ ⟨rfl,rfl⟩ (hR.put d (v:=.one (tv (.int k (k.wrap (0-n))))) (gB (by simp[tv,AR,FR]))) (.put d _))
theorem Nv {a b:Nat}(ha:a<4294967296) (hb:b<4294967296):IntKind.u64.wrap ((BitVec.ofInt IntKind.u64.bits (a:Int)||| BitVec.ofInt IntKind.u64.bits ((b*4294967296:Nat):Int)).toNat:Int)=((a+b*4294967296:Nat):Int):=by
 have h1:b*4294967296 ||| a=b*4294967296+a:=by
  have:=Nat.shiftLeft_add_eq_or_of_lt (i:=32) (by simpa using ha) b
  rw[Nat.shiftLeft_eq]at this
  simpa using this.symm
 have e:IntKind.u64.bits=64:=rfl
 rw[e]
 have h2:(BitVec.ofInt 64 (a:Int)||| BitVec.ofInt 64 ((b*4294967296:Nat):Int)).toNat=a+b*4294967296:=by
  rw[BitVec.toNat_or,BitVec.ofInt_natCast,BitVec.ofInt_natCast,BitVec.toNat_ofNat,BitVec.toNat_ofNat,Nat.mod_eq_of_lt (by omega),Nat.mod_eq_of_lt (by omega),Nat.or_comm,h1,Nat.add_comm]
 rw[h2]
 simp[IntKind.wrap,IntKind.signed,IntKind.bits]
 omega
end
def jT (k:Int):Bool:=decide (-9223372036854775808≤k∧k≤9223372036854775807)
theorem Yb {k:Int}(h:jT k=true):(dg 4294967296 k.natAbs).length≤2:=by
 have:=of_decide_eq_true h
 refine bY (by omega) ?_
 show k.natAbs<18446744073709551616
 omega
theorem Yc {k:Int}(h:2<(dg 4294967296 k.natAbs).length):jT k=false:=by
 cases hq:jT k with
 | false=>rfl
 | true=>have:=Yb hq;omega
theorem Yd {X:List Nat}{k:Nat}(hX:Lim 4294967296 X) (hk:k<2):IntKind.u64.wrap ((BitVec.ofInt IntKind.u64.bits ((vl 4294967296 (X.take k):Nat):Int)||| BitVec.ofInt IntKind.u64.bits ((nth X k*4294967296^k:Nat):Int)).toNat:Int)=((vl 4294967296 (X.take (k+1)):Nat):Int):=by
 have h0:=hX.nth (by omega) 0
 have h1:=hX.nth (by omega) 1
 rcases(show k=0∨k=1 by omega)with rfl | rfl
 ·have e:=Nv (a:=nth X 0) (b:=0) h0 (by omega)
  rw[bD]
  simp only[List.take_zero,Cn,Nat.pow_zero,Nat.mul_one,Nat.one_mul,Nat.zero_add,Nat.zero_mul,Nat.add_zero]at e⊢
  have e2:IntKind.u64.bits=64:=rfl
  rw[e2]at e⊢
  rw[BitVec.or_comm]
  exact e
 have e:=Nv (a:=nth X 0) (b:=nth X 1) h0 h1
 have e1:vl 4294967296 (X.take 1)=nth X 0:=by
  have:=bD 4294967296 X 0
  simpa[Cn]using this
 have e2:=bD 4294967296 X 1
 rw[e1,Nat.pow_one,Nat.mul_comm]at e2
 rw[e1,e2,Nat.pow_one]
 exact e
theorem GQ {x k:Nat}(hx:x<4294967296) (hk:k<2):IntKind.u64.wrap ((x:Int)*2^(min ((32*k:Nat):Int).toNat IntKind.u64.bits))=((x*4294967296^k:Nat):Int):=by
 rcases(show k=0∨k=1 by omega)with rfl | rfl <;> simp[IntKind.wrap,IntKind.bits,IntKind.signed] <;> omega
theorem CK {u:Nat}(h:u≤9223372036854775808):IntKind.i64.wrap (IntKind.u64.wrap (0-(u:Int)))=-(u:Int):=by
 simp[IntKind.wrap,IntKind.bits,IntKind.signed]
 omega
theorem LO {x:Cx}{g:Nat→FV}{ob:List (Option Ob)}{Q:Post}{ops:Array Oper}{rest:List Oper}{d:Nat}{ty:TypeId}{pos:String}{af:Array Edge}{gd:Option (Nat×Bool)}{t t2:Nat}{i1 i2:TI}{a:Operand}{k k':IntKind}{n z:Int}(hz:k'.wrap n=z) (kk:WL x ops rest (aZ g d (.one (tv (.int k' z)))) ob Q) (hT:bV x.P ttab:=by exact aA) (hw:bC ops x.n g gd=some true:=by rfl) (h1:bQ ttab t=some i1:=by rfl) (h1k:i1.kd=.it k:=by rfl) (h2:bQ ttab t2=some i2:=by rfl) (h2k:i2.kd=.it k':=by rfl) (ha:lk x.n g a=.one (tv (.int k n)):=by rfl):WL x ops (⟨some d,.convert t t2 a,ty,pos,af,gd⟩::rest) g ob Q:=by
 refine gJ (Wr:=[]) (R:=fun g' ob'=>g'=aZ g d (.one (tv (.int k' z)))∧ob'=ob) (fun cs ts W hR K Q kk=>?_) hw (by rintro _ _ ⟨rfl,rfl⟩;exact kk)
 have e1:=hR.lk a
 rw[ha]at e1
 have e1:=aQ e1
 have q1:=(cW hT h1).2.2.2
 have q2:=(cW hT h2).2.2.2
 rw[h1k]at q1
 rw[h2k]at q2
 exact eH (Hi q1 q2 e1 hz) (kk _ _ _ _ _ ⟨rfl,rfl⟩ (hR.put d (v:=.one (tv (.int k' z))) (gB (by simp[tv,AR,FR]))) (.put d _))
theorem Nw {zs:List Zi}{L:Nat}(hz:∀a∈zs,ZL L a) (hL:L≤1000000) (hl:zs.length≤1000000):aC true Tryz.prog 66 [] [.one (.t (sZ 24 zs))] (aM (kO (cU zs))):=by
 refine bR Tryz.func66 rfl Tryz.ntmps66 rfl aA rfl fun N9 w9 c0 h0=>?_
 refine sq ?_;refine rl ?_;refine al 0 ?_;refine nl ?_;refine sq ?_;refine sq ?_;refine rl ?_;(iterate 3 refine o1 ?_);refine nl ?_;refine bl ?_
 refine WP.sub (Nn (j:=0) (key:=1) (e:=51) (z:=1) rfl rfl rfl (.id (.sl .nil))) ?_
 refine lp (γ:=Nat) (fun k=>cH [(2,.one (.pt 0 0)),(5,.one (.t (sZ 24 zs))),(6,.one (tv (.int .i64 ((zs.length:Nat):Int)))),(7,.one (tv (.int .i64 ((k:Nat):Int))))]) (fun k=>[(⟨24,0,[tv (.bool (aF (cU (zs.take (k))))),.sl 1 0 (dg 4294967296 (cU (zs.take (k))).natAbs).length]⟩:Ob),⟨51,1,(aJ (dg 4294967296 (cU (zs.take (k))).natAbs)).map .t⟩].map some) (fun k=>k≤zs.length∧True) (fun k=>zs.length-k) 0 ⟨Nat.zero_le _,trivial⟩ (aL h0 [0,1] _ _ (by decide) ⟨rfl,rfl,rfl,rfl,trivial⟩ ⟨oe rfl rfl,cB rfl,rfl⟩) fun k hk=>?_
 refine sq ?_;refine rl ?_;refine o1 ?_;refine nl ?_;refine sq ?_;refine bX rfl (fun h1=>?_) (fun h1=>?_)
 ·refine sk ?_;refine sq ?_;refine bl ?_;refine sq ?_;refine rl ?_;refine o1 ?_
  refine fS ((dD false) (lI zs (k))) (eR (f:=(dD false)) (z:=2) (o:=0) (iS false) (qR (by omega)) (Nat.le_of_ble_eq_true rfl) rfl) ?_
  refine al 2 ?_;refine st ?_;refine nl ?_;refine rl ?_;refine ld ?_;refine ld ?_
  refine fG 3 (Cb (Zg.of (k:=(cU (zs.take (k)))) (Nat.le_trans (At hz hl) (by omega))) ((hz _ (Sf (by omega))).n (by omega)).g) Li ⟨nK rfl (.cons .t (.cons (.sl rfl rfl (Hm _) (aP _)) .nil)),aB rfl,rfl⟩ ?_
  refine st ?_;refine nl ?_;refine rl ?_;refine o1 ?_;refine WL.cast (t:=14) (u':=.int .i64 ((k+1:Nat):Int)) rfl (aK (by omega)) ?_
  refine o1 ?_;refine nl ?_;have hst:=CL (zs:=zs) (k:=k) (by omega)
  exact⟨k+1,by omega,⟨by omega,trivial⟩,aL h0 [0,3] _ _ (by decide) ⟨rfl,rfl,rfl,rfl,trivial⟩ ⟨oe rfl (congrArg (fun z:Int=>some (⟨24,0,[tv (.bool (aF z)),.sl 3 0 (dg 4294967296 z.natAbs).length]⟩:Ob)) hst),cB (congrArg (fun z:Int=>some (⟨51,1,(aJ (dg 4294967296 z.natAbs)).map .t⟩:Ob)) hst),rfl⟩⟩
 refine ex ?_;refine sq ?_;refine rl ?_;refine ld ?_;refine st ?_;refine nl ?_;refine rt ?_;have hk9:k=zs.length:=by omega
 exact en (.inl rfl) rfl (aT (.agg (.cons (.id rfl) (.cons (.sl (trs:=aJ (dg 4294967296 ((cU (zs.take (k)))).natAbs)) rfl rfl (aW _) (aP _)) .nil)))) (by decide) (fun _=>sF _) (by rw[hk9,Sg (Nat.le_refl _)];rfl)
theorem Ht {k:Int}(h:aF k=true):k<0:=of_decide_eq_true h
theorem Hu {k:Int}(h:aF k=false):¬k<0:=of_decide_eq_false h
theorem Df {a:Zi}{k:Int}(ha:Zn a k):aC true Tryz.prog 79 [] [gF a] (aM (.tup [.one (tv (.int .i64 (if jT k then k else 0))),.one (tv (.bool (jT k)))])):=by
 refine bR Tryz.func79 rfl Tryz.ntmps79 rfl aA rfl fun N9 w9 c0 h0=>?_
 refine sq ?_;refine rl ?_;refine bx 0 ?_;refine o1 ?_;refine o1 ?_;refine nl ?_;refine sq ?_;refine rl ?_;refine ld ?_;refine ca (cY (ha).g) cZ ⟨aB rfl,rfl⟩ (kF (k)) ?_;refine al 1 ?_
 refine st ?_;refine nl ?_;refine sq ?_;refine sq ?_;refine rl ?_;refine o1 ?_;refine o1 ?_;refine ld ?_;refine o1 ?_;refine o1 ?_;refine nl ?_;refine bX rfl (fun h1=>?_) (fun h1=>?_)
 ·refine sq ?_;refine rl ?_;refine o1 ?_;refine o1 ?_;refine nl ?_;refine rt ?_;have hin:=Yc (k:=k) (by omega)
  exact en (.inl rfl) rfl (jJ (.cons (cA _) (.cons (cA _) .nil))) (by decide) (fun _=>⟨trivial,trivial,trivial⟩) (by rw[hin];rfl)
 refine sk ?_;refine sq ?_;refine rl ?_;refine o1 ?_;refine nl ?_;refine sq ?_;refine sq ?_;refine rl ?_;refine o1 ?_;refine o1 ?_;refine ld ?_;refine o1 ?_;refine o1 ?_;refine nl ?_
 refine bl ?_;have hX:Lim 4294967296 (dg 4294967296 (k).natAbs):=aH (by omega) _
 refine lp (γ:=Nat) (fun s=>cH [(4,.one (.pt 0 0)),(17,.one (.t (sU false (dg 4294967296 (k).natAbs)))),(18,.one (tv (.int .i64 (((dg 4294967296 (k).natAbs).length:Nat):Int)))),(5,.one (tv (.int .u64 (((vl 4294967296 ((dg 4294967296 (k).natAbs).take s)):Nat):Int)))),(19,.one (tv (.int .i64 ((s:Nat):Int))))]) (fun s=>[(⟨105,0,[tv (.bool (aF (k))),.t (sU false (dg 4294967296 (k).natAbs))]⟩:Ob)].map some) (fun s=>s≤(dg 4294967296 (k).natAbs).length) (fun s=>(dg 4294967296 (k).natAbs).length-s) 0 (Nat.zero_le _) (aL h0 [1] _ _ (by decide) ⟨rfl,rfl,rfl,rfl,rfl,trivial⟩ ⟨oe rfl rfl,rfl⟩) ?_
 rintro i hi;refine sq ?_;refine rl ?_;refine o1 ?_;refine nl ?_;refine sq ?_;refine bX rfl (fun h2=>?_) (fun h2=>?_)
 ·refine sk ?_;refine sq ?_;refine bl ?_;refine sq ?_;refine rl ?_;refine o1 ?_;refine o1 ?_
  refine fS ([.v (.int .u32 ((nth (dg 4294967296 (k).natAbs) (i):Nat):Int))]) (lZ (dg 4294967296 (k).natAbs) (k:=i) (by omega)) ?_
  refine o1 ?_;refine o1 ?_;refine nl ?_;have hxi:=hX.nth (by omega) i
  refine rl ?_;(iterate 3 refine o1 ?_);refine WL.cast (t:=26) (u':=.int .u64 ((nth (dg 4294967296 (k).natAbs) (i):Nat):Int)) rfl (aK (by omega)) ?_
  refine o1 ?_;refine o1 ?_;refine WL.cast (t:=28) (u':=.int .i64 ((32*i:Nat):Int)) rfl (aK (by omega)) ?_
  refine o1 ?_;refine WL.cast (t:=29) (u':=.int .u64 (((nth (dg 4294967296 (k).natAbs) (i)*4294967296^i):Nat):Int)) rfl (aK (GQ (by omega) (by omega))) ?_
  refine o1 ?_;refine WL.cast (t:=30) (u':=.int .u64 (((vl 4294967296 ((dg 4294967296 (k).natAbs).take (i+1))):Nat):Int)) rfl (aK (Yd hX (by omega))) ?_
  refine o1 ?_;refine nl ?_;refine rl ?_;refine o1 ?_;refine WL.cast (t:=31) (u':=.int .i64 ((i+1:Nat):Int)) rfl (aK (by omega)) ?_
  refine o1 ?_;refine nl ?_;exact⟨i+1,by omega,by omega,aL h0 [0] _ _ (by decide) ⟨rfl,rfl,rfl,rfl,rfl,trivial⟩ ⟨oe rfl rfl,rfl⟩⟩
 refine ex ?_;refine sq ?_;refine bl ?_;refine sq ?_;have hu:vl 4294967296 ((dg 4294967296 (k).natAbs).take i)=k.natAbs:=by rw[bK _ (by omega),bS (by omega)]
 refine rl ?_;refine o1 ?_;refine o1 ?_;refine ld ?_;refine o1 ?_;refine WL.splitb (t:=36) rfl (fun h3=>?_) (fun h3=>?_)
 ·(iterate 4 refine o1 ?_);refine nl ?_;refine bX rfl (fun h4=>?_) (fun h4=>?_)
  ·refine sq ?_;refine rl ?_;refine o1 ?_;refine LN ?_;refine LO (CK (u:=(vl 4294967296 ((dg 4294967296 (k).natAbs).take i))) (by omega)) ?_
   refine o1 ?_;refine o1 ?_;refine nl ?_;refine rt ?_;have hsg:=Ht h3
   have hin:jT k=true:=decide_eq_true (by omega)
   exact en (.inl rfl) rfl (jJ (.cons (cA _) (.cons (cA _) .nil))) (by decide) (fun _=>⟨trivial,trivial,trivial⟩) (by rw[hin];exact congrArg (fun z:Int=>FV.tup [.one (tv (.int .i64 z)),.one (tv (.bool true))]) ((show-(((vl 4294967296 ((dg 4294967296 (k).natAbs).take i)):Nat):Int)=k by omega).trans (if_pos rfl).symm))
  refine sq ?_;refine rl ?_;refine o1 ?_;refine o1 ?_;refine ld ?_;refine WL.cast (t:=46) rfl (congrArg Value.bool h3) ?_;refine o1 ?_;refine o1 ?_;refine eL ?_;refine eL ?_
  refine o1 ?_;refine o1 ?_;refine nl ?_;refine fK rfl ?_;refine sk ?_;refine sq ?_;refine rl ?_;refine o1 ?_;refine o1 ?_;refine nl ?_;refine rt ?_;have hsg:=Ht h3
  have hin:jT k=false:=decide_eq_false (by omega)
  exact en (.inl rfl) rfl (jJ (.cons (cA _) (.cons (cA _) .nil))) (by decide) (fun _=>⟨trivial,trivial,trivial⟩) (by rw[hin];rfl)
 refine eL ?_;refine eL ?_;refine o1 ?_;refine o1 ?_;refine nl ?_;refine fK rfl ?_;refine sq ?_;refine rl ?_;refine o1 ?_;refine o1 ?_;refine ld ?_
 refine WL.cast (t:=46) rfl (congrArg Value.bool h3) ?_;(iterate 6 refine o1 ?_);refine nl ?_;refine bX rfl (fun h5=>?_) (fun h5=>?_)
 ·refine sq ?_;refine rl ?_;refine o1 ?_;refine o1 ?_ (hC:=(by simp only[fM];omega))
  refine WL.cast (t:=53) (u':=.int .i64 (((vl 4294967296 ((dg 4294967296 (k).natAbs).take i)):Nat):Int)) rfl (aK (by omega)) ?_
  refine o1 ?_;refine o1 ?_;refine nl ?_;refine rt ?_;have hsg:=Hu h3
  have hin:jT k=true:=decide_eq_true (by omega)
  exact en (.inl rfl) rfl (jJ (.cons (cA _) (.cons (cA _) .nil))) (by decide) (fun _=>⟨trivial,trivial,trivial⟩) (by rw[hin];exact congrArg (fun z:Int=>FV.tup [.one (tv (.int .i64 z)),.one (tv (.bool true))]) ((show(((vl 4294967296 ((dg 4294967296 (k).natAbs).take i)):Nat):Int)=k by omega).trans (if_pos rfl).symm))
 refine sk ?_;refine sq ?_;refine rl ?_;refine o1 ?_;refine o1 ?_;refine nl ?_;refine rt ?_;have hsg:=Hu h3
 have hin:jT k=false:=decide_eq_false (by omega)
 exact en (.inl rfl) rfl (jJ (.cons (cA _) (.cons (cA _) .nil))) (by decide) (fun _=>⟨trivial,trivial,trivial⟩) (by rw[hin];rfl)
theorem Si {a:Fr4}{p:Rat}(ha:Qn a p):aC false Tryz.prog 42 [] [qF a] (aM (qF (.of (bN p)))):=by
 refine bR Tryz.func42 rfl Tryz.ntmps42 rfl aA rfl fun N w c0 h0=>?_
 refine sq ?_;refine rl ?_;refine bx 0 ?_;refine al 1 ?_;refine nl ?_;refine sq ?_;refine rd [0,1] (fun i=>[3,4].contains i) mixed ?_
 refine aU 0 ?_;refine aI 1 rfl (lH (z:=0) (by omega) (by omega)) yN ⟨a1 rfl,rfl⟩ (qF (.of ((0:Int):Rat))) ?_
 refine qS (key:=2) 2 (by kernel_rfl) rfl rfl aA rfl ⟨rfl,rfl,trivial⟩ ?_
 refine sH (i:=5) (k:=2) (t:=48) (t':=50) (z:=4) (n:=1) (l:=[Fr4.of ((0:Int):Rat)].flatMap (Fr4.tr false)) rfl rfl rfl rfl (.one .sl) (by rfl) (by rfl) ?_
 refine aI 3 rfl (CF ha) JO ⟨aB rfl,a1 rfl,rfl⟩ (qF (.of (bN p))) ?_;refine dst 4 ?_;refine aN ?_;refine rt ?_
 exact en (.inl rfl) rfl (aT (.agg (.cons (.id rfl) (.cons (.id rfl) (.cons (.id rfl) (.cons (.id rfl) .nil)))))) (by decide) (fun h=>by cases h) (rfl)
theorem nL {p:Rat}:p.num.sign<0↔p<0:=by rw[←yR];exact Int.sign_neg_iff
theorem Sj {a:Fr4}{p:Rat}(ha:Qn a p):aC true Tryz.prog 91 [] [qF a] (aM (.one (tv (.bool (decide (p<0)))))):=by
 refine bR Tryz.func91 rfl Tryz.ntmps91 rfl aA rfl fun N9 w9 c0 h0=>?_
 refine sq ?_;refine rl ?_;refine bx 0 ?_;refine o1 ?_;refine nl ?_;refine sq ?_;refine rl ?_;refine ld ?_;refine ca (pJ ha) yS ⟨aB rfl,rfl⟩ (.one (tv (.int .i64 p.num.sign))) ?_
 refine o1 ?_;refine o1 ?_;refine nl ?_;refine rt ?_;exact oF (.inl rfl) rfl (decide_eq_decide.2 nL)
theorem yT {xs:List Fr4}(hx:∀x∈xs,x.ok) (hl:xs.length≤1073741823):aC true Tryz.prog 51 [] [.agg [.t (sQ false xs)]] (aM (.one (tv (.bool (xs.any fun x=>decide (x.q<0)))))):=by
 refine bR Tryz.func51 rfl Tryz.ntmps51 rfl aA rfl fun N9 w9 c0 h0=>?_
 refine sq ?_;refine rl ?_;refine bx 0 ?_;refine o1 ?_;refine nl ?_;refine sq ?_;refine rl ?_;refine o1 ?_;refine ld ?_
 refine ca (Ns (dl:=fun x=>decide (x.q<0)) (fst:=[]) (caps:=[]) JP (fun x h=>Sj ⟨hx x h,rfl⟩) hl) CM ⟨a1 rfl,a1 rfl,rfl⟩ (.one (tv (.bool (xs.any fun x=>decide (x.q<0))))) ?_
 refine o1 ?_;refine nl ?_;refine rt ?_;exact oF (.inl rfl) rfl (rfl)
theorem gS {f:Fr4→Rat}{xs:List Fr4}{k:Nat}(h:k<xs.length):aO (xs.map f) k=f (bJ xs k):=by simp[aO,bJ,h]
theorem Sk {xs:List Fr4}(hx:∀x∈xs,x.ok) (hl:xs.length≤1073741822):aC false Tryz.prog 50 [] [.agg [.t (sQ false xs)]] (aM (.agg [.t (.s true 48 4 ((xs.map fun x=>-x.q)).length (((xs.map fun x=>-x.q)).flatMap dB))])):=by
 refine bR Tryz.func50 rfl Tryz.ntmps50 rfl aA rfl fun N9 w9 c0 h0=>?_
 refine sq ?_;refine rl ?_;refine bx 0 ?_;refine al 1 ?_;refine nl ?_;refine sq ?_;refine rl ?_;refine o1 ?_;refine nl ?_;refine sq ?_;refine sq ?_;refine rl ?_;refine o1 ?_;refine ld ?_
 refine o1 ?_;refine o1 ?_;refine nl ?_;refine bl ?_
 refine lp (γ:=Nat) (fun k=>cH [(2,.one (.pt 0 0)),(7,.one (.t (sQ false xs))),(8,.one (tv (.int .i64 ((xs.length:Nat):Int)))),(3,.one (.sl 1 0 (k))),(9,.one (tv (.int .i64 ((k:Nat):Int))))]) (fun k=>[(⟨42,0,[tv (.slice none 0 0)]⟩:Ob),⟨48,4,Dg ((xs.map fun x=>-x.q).take k)⟩].map some) (fun k=>k≤xs.length) (fun k=>xs.length-k) 0 (Nat.zero_le _) ((nr (i:=3) 2 48 4 rfl rfl rfl rfl).trans (aL h0 [1,2] _ _ (by decide) ⟨rfl,rfl,rfl,rfl,rfl,trivial⟩ ⟨oe rfl rfl,cB rfl,rfl⟩)) fun k hk=>?_
 refine sq ?_;refine rl ?_;refine o1 ?_;refine nl ?_;refine sq ?_;refine bX rfl (fun h1=>?_) (fun h1=>?_)
 ·refine sk ?_;refine sq ?_;refine bl ?_;refine sq ?_;refine rl ?_;refine o1 ?_;refine fS ((bJ xs (k)).tr false) (iG xs (k:=k) (by omega)) ?_
  refine al 2 ?_;refine st ?_;refine nl ?_;refine rl ?_;refine o1 ?_;refine ld ?_;refine ca (GR ⟨hx _ (bP (by omega)),rfl⟩) JQ ⟨aB rfl,rfl⟩ (qF (.of (-((bJ xs (k)).q)))) ?_
  refine bs 3 ?_
  refine gC (j:=4) aA rfl rfl rfl rfl (.sl rfl (by rw[Hv,List.length_take,List.length_map,Nat.min_eq_left (by omega)])) (.sl rfl rfl rfl) rfl rfl rfl (by omega) (by omega) ?_
  refine o1 ?_;refine nl ?_;refine rl ?_;refine o1 ?_;refine WL.cast (t:=18) (u':=.int .i64 ((k+1:Nat):Int)) rfl (aK (by omega)) ?_
  refine o1 ?_;refine nl ?_
  have hst:Dg ((xs.map fun x=>-x.q).take k)++(dB (-(bJ xs k).q)).map .t=Dg ((xs.map fun x=>-x.q).take (k+1)):=by rw[Sl,sJ (by rw[List.length_map];omega),gS (by omega)]
  exact⟨k+1,by omega,by omega,aL h0 [0,4] _ _ (by decide) ⟨rfl,rfl,rfl,rfl,rfl,trivial⟩ ⟨oe rfl rfl,cB (congrArg (fun l=>some (⟨48,4,l⟩:Ob)) hst),rfl⟩⟩
 refine ex ?_;refine sq ?_;refine rl ?_;refine o1 ?_;refine o1 ?_;refine st ?_;refine nl ?_;refine rt ?_;have hk9:k=((xs.map fun x=>-x.q)).length:=by rw[List.length_map];omega
 exact en (.inl rfl) rfl (aT (.agg (.cons (.sl (trs:=((xs.map fun x=>-x.q)).flatMap dB) rfl rfl (by rw[List.take_of_length_le (l:=(xs.map fun x=>-x.q)) (by omega),hk9,←Hv];exact List.take_of_length_le (Nat.le_refl _)) (by rw[cV dO,hk9])) .nil))) (by decide) (fun h=>by cases h) (by rw[hk9];rfl)
theorem CN {xs:List Fr4}{B:Nat}(hB:2+xs.length*(B+1)≤68719476736) (hx:∀x∈xs,x.ok) (hz:∀x∈xs,Sz B x.q) (hl:xs.length≤1073741823):aC true Tryz.prog 43 [] [.one (.t (sQ false xs))] (aM (qO (aE (xs.map Fr4.q)))):=by
 refine bR Tryz.func43 rfl Tryz.ntmps43 rfl aA rfl fun N9 w9 c0 h0=>?_
 have h00:((0:Int):Rat)=aE ((xs.take 0).map Fr4.q):=by simp[aE]
 refine sq ?_;refine rl ?_;refine al 0 ?_;refine nl ?_;refine sq ?_;refine rl ?_;refine fG 1 (lH (z:=0) (by omega) (by omega)) yN ⟨a1 rfl,rfl⟩ ?_
 refine al 3 ?_;refine st ?_;refine nl ?_;refine sq ?_;refine sq ?_;refine rl ?_;(iterate 3 refine o1 ?_);refine nl ?_;refine bl ?_
 refine lp (γ:=Nat) (fun k=>cH [(2,.one (.pt 0 0)),(3,.one (.pt 1 0)),(7,.one (.t (sQ false xs))),(8,.one (tv (.int .i64 ((xs.length:Nat):Int)))),(9,.one (tv (.int .i64 ((k:Nat):Int))))]) (fun k=>[(⟨48,0,[tv (.bool false),tv (.slice none 0 0),tv (.bool false),tv (.slice none 0 0)]⟩:Ob),⟨48,0,[tv (.bool (aF (aE ((xs.take (k)).map Fr4.q)).num)),.sl 2 0 (dg 4294967296 (aE ((xs.take (k)).map Fr4.q)).num.natAbs).length,tv (.bool false),.sl 3 0 (dg 4294967296 (aE ((xs.take (k)).map Fr4.q)).den).length]⟩,⟨51,1,(aJ (dg 4294967296 (aE ((xs.take (k)).map Fr4.q)).num.natAbs)).map .t⟩,⟨51,1,(aJ (dg 4294967296 (aE ((xs.take (k)).map Fr4.q)).den)).map .t⟩].map some) (fun k=>k≤xs.length∧Sz (2+k*(B+1)) (aE ((xs.take (k)).map Fr4.q))) (fun k=>xs.length-k) 0 ⟨Nat.zero_le _,by simpa[aE]using kK (z:=0) (by omega) (by omega)⟩ (aL h0 [0,3,1,2] _ _ (by decide) ⟨rfl,rfl,rfl,rfl,rfl,trivial⟩ ⟨oe rfl rfl,oe rfl (congrArg (fun q:Rat=>some (⟨48,0,[tv (.bool (aF q.num)),.sl 1 0 (dg 4294967296 q.num.natAbs).length,tv (.bool false),.sl 2 0 (dg 4294967296 q.den).length]⟩:Ob)) h00),cB (congrArg (fun q:Rat=>some (⟨51,1,(aJ (dg 4294967296 q.num.natAbs)).map .t⟩:Ob)) h00),cB (congrArg (fun q:Rat=>some (⟨51,1,(aJ (dg 4294967296 q.den)).map .t⟩:Ob)) h00),rfl⟩) fun k hk=>?_
 have hmul:k*(B+1)≤xs.length*(B+1):=Nat.mul_le_mul hk.1 (Nat.le_refl _)
 refine sq ?_;refine rl ?_;refine o1 ?_;refine nl ?_;refine sq ?_;refine bX rfl (fun h1=>?_) (fun h1=>?_)
 ·refine sk ?_;refine sq ?_;refine bl ?_;refine sq ?_;refine rl ?_;refine o1 ?_;refine fS ((bJ xs (k)).tr false) (iG xs (k:=k) (by omega)) ?_
  refine al 4 ?_;refine st ?_;refine nl ?_;have hmul2:(k+1)*(B+1)≤xs.length*(B+1):=Nat.mul_le_mul (by omega) (Nat.le_refl _)
  have hmul3:(k+1)*(B+1)=k*(B+1)+(B+1):=Nat.succ_mul k (B+1)
  refine rd [0,1,4] (fun i=>[4].contains i) mixed ?_
  refine aU 0 ?_;refine aU 1 ?_;refine aI 2 rfl (dE ⟨hx _ (bP (by omega)),rfl⟩) fE ⟨aB rfl,rfl⟩ (qF (.of (bJ xs (k)).q)) ?_
  refine iF 5 3 rfl (Lc (p:=(aE ((xs.take (k)).map Fr4.q))) (q:=(bJ xs (k)).q) (hk.2.mono (by omega)) ((hz _ (bP (by omega))).mono (by omega))) La ⟨nK rfl (.cons .t (.cons (.sl rfl rfl (Hm _) (aP _)) (.cons .t (.cons (.sl rfl rfl (Hm _) (aP _)) .nil)))),aB rfl,rfl⟩ ?_
  refine dst 4 ?_;refine aN ?_;refine rl ?_;refine o1 ?_;refine WL.cast (t:=17) (u':=.int .i64 ((k+1:Nat):Int)) rfl (aK (by omega)) ?_
  refine o1 ?_;refine nl ?_;have hst:(aE ((xs.take (k+1)).map Fr4.q))=(aE ((xs.take (k)).map Fr4.q))+(bJ xs (k)).q:=by rw[pF (by omega)];exact Ar _ _
  exact⟨k+1,by omega,⟨by omega,by rw[hst];exact(wV hk.2 (hz _ (bP (by omega)))).mono (by omega)⟩,aL h0 [0,1,5,6] _ _ (by decide) ⟨rfl,rfl,rfl,rfl,rfl,trivial⟩ ⟨oe rfl rfl,oe rfl (congrArg (fun q:Rat=>some (⟨48,0,[tv (.bool (aF q.num)),.sl 5 0 (dg 4294967296 q.num.natAbs).length,tv (.bool false),.sl 6 0 (dg 4294967296 q.den).length]⟩:Ob)) hst.symm),cB (congrArg (fun q:Rat=>some (⟨51,1,(aJ (dg 4294967296 q.num.natAbs)).map .t⟩:Ob)) hst.symm),cB (congrArg (fun q:Rat=>some (⟨51,1,(aJ (dg 4294967296 q.den)).map .t⟩:Ob)) hst.symm),rfl⟩⟩
 refine ex ?_;refine sq ?_;refine rl ?_;refine ld ?_;refine st ?_;refine nl ?_;refine rt ?_;have hkk:xs.take k=xs:=List.take_of_length_le (by omega)
 exact en (.inl rfl) rfl (aT (.agg (.cons (.id rfl) (.cons (.sl (trs:=aJ (dg 4294967296 (aE ((xs.take (k)).map Fr4.q)).num.natAbs)) rfl rfl (aW _) (aP _)) (.cons (.id rfl) (.cons (.sl (trs:=aJ (dg 4294967296 (aE ((xs.take (k)).map Fr4.q)).den)) rfl rfl (aW _) (aP _)) .nil)))))) (by decide) (fun _=>by rw[hkk];exact sD _) (by rw[hkk];rfl)
theorem Cc {l:List Rat}{n:Nat}(hn:l.length=n):sQ false (gD l)=.s false 50 4 n (l.flatMap dB):=by
 unfold sQ
 rw[kA,hn,Ye]
theorem sK {l:List Rat}{n B:Nat}(hn:l.length=n) (hB:2+l.length*(B+1)≤68719476736) (hz:∀q∈l,Sz B q) (hB2:B≤68719476736) (hl:l.length≤1073741823):aC true Tryz.prog 43 [] [.one (.t (.s false 50 4 n (l.flatMap dB)))] (aM (qO (aE l))):=by
 have h:=CN (xs:=gD l) (B:=B) (by rw[kA];exact hB) (pK hz hB2) (sL hz) (by rw[kA];exact hl)
 rwa[uA,Cc hn]at h
theorem sM (l:List Rat):((l.flatMap dB).map AV.t).take (l.flatMap dB).length=(l.flatMap dB).map .t:=List.take_of_length_le (by simp)
theorem Hw (l:List Rat):((l.flatMap dB).map AV.t).take (l.length*4)=(l.flatMap dB).map .t:=List.take_of_length_le (by rw[List.length_map,cV dO];omega)
theorem CO {k n m:Nat}(h:n=m):some (FV.one (.sl k 0 m))=some (FV.one (.sl k 0 n)):=by rw[h]
theorem LP {x:Cx}{g:Nat→FV}{ob:List (Option Ob)}{i:Nat}{q q':Rat}(hi:Nat.blt i x.n=true) (hg:g i=qF (.of q)) (h:q=q'):Sub x g ob (aZ g i (qF (.of q'))) ob:=by
 subst h
 have e:aZ g i (qF (.of q))=g:=by
  funext j
  unfold aZ
  cases h9:Nat.beq j i
  ·rfl
  rw[Nat.eq_of_beq_eq_true h9]
  exact hg.symm
 rw[e]
 exact Sub.refl
theorem CP {a:Zi}{k b:Int}{xs:List Fr4}(ha:Zn a k) (hk:jD 6 k) (hx:∀x∈xs,x.ok) (hz:∀x∈xs,Sz 7 x.q) (hl:xs.length≤12):aC false Tryz.prog 14 [] [gF a,.one (tv (.int .i64 b)),.one (.t (sQ false xs))] (aM (.tup [.agg [.t (.s true 48 4 (aS (k:Rat) b (xs.map Fr4.q)).length ((aS (k:Rat) b (xs.map Fr4.q)).flatMap dB))],.one (tv (.int .i64 (pL b xs.length)))])):=by
 refine Cz Tryz.func14 rfl Tryz.ntmps14 rfl aA rfl fun N9 w9 c0 h0=>?_
 have hwl:(xs.map Fr4.q).length=xs.length:=by simp
 have habl:((xs.map Fr4.q).map bN).length=xs.length:=by simp
 have hzab:∀q∈((xs.map Fr4.q).map bN),Sz 7 q:=fun q hq=>by
  rw[Hz]at hq;obtain⟨x,hx9,rfl⟩:=List.mem_map.1 hq
  exact Ia (hz x hx9) (by omega)
 have hsz9:Sz 98 (aE ((xs.map Fr4.q).map bN)):=(uC hzab).mono (by rw[habl];omega)
 have hTz:Sz 7 (k:Rat):=yU (Nat.le_trans hk (by omega)) (by omega)
 refine sq ?_;refine rl ?_;refine bx 0 ?_;refine al 1 ?_;refine o1 ?_;refine nl ?_;refine sq ?_;refine sq ?_;refine rl ?_;(iterate 3 refine o1 ?_)
 refine WL.split (t:=18) rfl (fun h1=>?_) (fun h1=>?_)
 ·(iterate 4 refine eL ?_);refine o1 ?_;refine nl ?_;refine mP rfl ?_;refine sq ?_;refine rl ?_;refine o1 ?_;refine st ?_;refine o1 ?_;refine nl ?_;refine rt ?_
  refine vD (Nn (j:=1) (key:=2) (e:=48) (z:=4) rfl rfl rfl (.sl .nil)) ?_;have hb9:b<0∨(xs.length:Int)≤b:=by omega
  exact gN <| en (.inl rfl) rfl (jJ (.cons (.agg (.cons (.sl (trs:=[]) rfl rfl rfl rfl) .nil)) (.cons (cA _) .nil))) (by decide) (fun h=>by cases h) (by rw[uD (by rw[hwl];exact hb9),Ib hb9];rfl)
 (iterate 5 refine o1 ?_);refine nl ?_;refine bX rfl (fun h2=>?_) (fun h2=>?_)
 ·refine sq ?_;refine rl ?_;refine o1 ?_;refine st ?_;refine o1 ?_;refine nl ?_;refine rt ?_;refine vD (Nn (j:=1) (key:=2) (e:=48) (z:=4) rfl rfl rfl (.sl .nil)) ?_
  have hb9:b<0∨(xs.length:Int)≤b:=by omega
  exact gN <| en (.inl rfl) rfl (jJ (.cons (.agg (.cons (.sl (trs:=[]) rfl rfl rfl rfl) .nil)) (.cons (cA _) .nil))) (by decide) (fun h=>by cases h) (by rw[uD (by rw[hwl];exact hb9),Ib hb9];rfl)
 refine sk ?_;refine sq ?_;obtain⟨m,hm⟩:∃m:Nat,b=(m:Int):=⟨b.toNat,by omega⟩
 subst hm;have hmn:m<xs.length:=by omega
 refine rl ?_;refine o1 ?_;refine nl ?_;refine sq ?_;refine sq ?_;refine rl ?_;(iterate 3 refine o1 ?_);refine nl ?_;refine bl ?_
 refine lp (γ:=Nat) (fun k0=>cH [(1,.one (tv (.int .i64 ((m:Nat):Int)))),(3,.one (.pt 0 0)),(6,.one (.pt 1 0)),(25,.one (.t (sQ false xs))),(26,.one (tv (.int .i64 ((xs.length:Nat):Int)))),(8,.one (.sl 2 0 (k0))),(27,.one (tv (.int .i64 ((k0:Nat):Int))))]) (fun k0=>[(⟨24,0,[tv (.bool a.s),.t (sU false a.x)]⟩:Ob),⟨42,0,[tv (.slice none 0 0)]⟩,⟨48,4,((((xs.map Fr4.q).map bN).take k0).flatMap dB).map .t⟩].map some) (fun k0=>k0≤xs.length) (fun k0=>xs.length-k0) 0 (Nat.zero_le _) ((nr (i:=8) 2 48 4 rfl rfl rfl rfl).trans (aL h0 [0,1,2] _ _ (by decide) ⟨rfl,rfl,rfl,rfl,rfl,rfl,rfl,trivial⟩ ⟨oe rfl rfl,oe rfl rfl,cB rfl,rfl⟩)) fun k0 hk0=>?_
 refine sq ?_;refine rl ?_;refine o1 ?_;refine nl ?_;refine sq ?_;refine bX rfl (fun h3=>?_) (fun h3=>?_)
 ·refine sk ?_;refine sq ?_;refine bl ?_;refine sq ?_;refine rl ?_;refine o1 ?_;refine fS ((bJ xs (k0)).tr false) (iG xs (k:=k0) (by omega)) ?_
  refine al 3 ?_;refine st ?_;refine nl ?_;refine rl ?_;refine o1 ?_;refine ld ?_
  refine ca (Si ⟨hx _ (bP (by omega)),rfl⟩) JR ⟨aB rfl,rfl⟩ (qF (.of (bN (bJ xs (k0)).q))) ?_
  refine bs 4 ?_
  refine gC (j:=5) aA rfl rfl rfl rfl (.sl rfl (by rw[List.length_map,cV dO,List.length_take,habl,Nat.min_eq_left (by omega)])) (.sl rfl rfl rfl) rfl rfl rfl (by omega) (by omega) ?_
  refine o1 ?_;refine nl ?_;refine rl ?_;refine o1 ?_;refine WL.cast (t:=36) (u':=.int .i64 ((k0+1:Nat):Int)) rfl (aK (by omega)) ?_
  refine o1 ?_;refine nl ?_
  have hst:((((xs.map Fr4.q).map bN).take k0).flatMap dB).map AV.t++(dB (bN (bJ xs (k0)).q)).map .t=((((xs.map Fr4.q).map bN).take (k0+1)).flatMap dB).map .t:=by rw[Au,sJ (by rw[habl];omega),Yf (by omega)]
  exact⟨k0+1,by omega,by omega,aL h0 [0,1,5] _ _ (by decide) ⟨rfl,rfl,rfl,rfl,rfl,rfl,rfl,trivial⟩ ⟨oe rfl rfl,oe rfl rfl,cB (congrArg (fun l=>some (⟨48,4,l⟩:Ob)) hst),rfl⟩⟩
 refine ex ?_
 refine md (γ:=Unit) (fun _=>cH [(1,.one (tv (.int .i64 ((m:Nat):Int)))),(6,.one (.pt 0 0)),(8,.one (.sl 1 0 (xs.length))),(11,.one (.pt 2 0)),(12,.one (.pt 3 0))]) (fun _=>([⟨42,0,[tv (.slice none 0 0)]⟩,⟨48,4,(((xs.map Fr4.q).map bN).flatMap dB).map .t⟩,⟨48,0,((Fr4.of (aE ((xs.map Fr4.q).map bN))).tr false).map .t⟩,⟨48,0,((Fr4.of (k:Rat)).tr false).map .t⟩]:List Ob).map some) (fun _=>True) ?_ fun _ _=>?_
 ·have hk9:k0=xs.length:=by omega
  have htk:((xs.map Fr4.q).map bN).take k0=((xs.map Fr4.q).map bN):=List.take_of_length_le (by rw[habl];omega)
  refine WP.sub (aL h0 [0,1,2] [(1,.one (tv (.int .i64 ((m:Nat):Int)))),(3,.one (.pt 0 0)),(6,.one (.pt 1 0)),(8,.one (.sl 2 0 (xs.length)))] [(⟨24,0,[tv (.bool a.s),.t (sU false a.x)]⟩:Ob),(⟨42,0,[tv (.slice none 0 0)]⟩:Ob),⟨48,4,(((xs.map Fr4.q).map bN).flatMap dB).map .t⟩] (by decide) ⟨rfl,rfl,rfl,CO hk9,trivial⟩ ⟨oe rfl rfl,oe rfl rfl,cB (congrArg (fun l:List Rat=>some (⟨48,4,(l.flatMap dB).map .t⟩:Ob)) htk),rfl⟩) ?_
  refine rd [0,1] (fun i=>[7].contains i) mixed ?_
  refine dv 0 ?_;refine aU 2 ?_;refine WO.three (i:=1) (j:=4) (m:=5) (by kernel_rfl) ?_ ?_ ?_
  ·refine cQ 1 rfl (sK (l:=((xs.map Fr4.q).map bN)) (n:=xs.length) (B:=7) (by simp) (by rw[habl];omega) hzab (by omega) (by rw[habl];omega)) vX ⟨vF rfl (.sl rfl rfl (sM _) (by rw[cV dO,habl])),rfl⟩ (qF (.of (aE ((xs.map Fr4.q).map bN)))) ?_
   refine WO.three (i:=3) (j:=4) (m:=5) (by kernel_rfl) ?_ ?_ ?_
   ·refine cQ 3 rfl (fL ha) nM ⟨aB rfl,rfl⟩ (qF (.of (k:Rat))) ?_;refine WO.two (i:=4) (j:=5) (by kernel_rfl) ?_ ?_
    ·refine bU (key:=3) 4 rfl rfl aA rfl ⟨rfl,rfl,trivial⟩ ?_;refine eA (key:=4) 5 (by kernel_rfl) rfl rfl aA rfl ⟨rfl,rfl,trivial⟩ ?_
     refine aR 6 (by kernel_rfl) rfl rfl aA rfl rfl rfl rfl ⟨rfl,rfl,trivial⟩ ?_
     refine dst 7 ?_;refine aN ?_;exact⟨(),trivial,aL h0 [1,2,3,4] _ _ (by decide) ⟨rfl,rfl,rfl,rfl,rfl,trivial⟩ ⟨oe rfl rfl,cB rfl,oe rfl rfl,oe rfl rfl,rfl⟩⟩
    refine bU (key:=3) 5 rfl rfl aA rfl ⟨rfl,rfl,trivial⟩ ?_;refine eA (key:=4) 4 (by kernel_rfl) rfl rfl aA rfl ⟨rfl,rfl,trivial⟩ ?_
    refine aR 6 (by kernel_rfl) rfl rfl aA rfl rfl rfl rfl ⟨rfl,rfl,trivial⟩ ?_
    refine dst 7 ?_;refine aN ?_;exact⟨(),trivial,aL h0 [1,2,4,3] _ _ (by decide) ⟨rfl,rfl,rfl,rfl,rfl,trivial⟩ ⟨oe rfl rfl,cB rfl,oe rfl rfl,oe rfl rfl,rfl⟩⟩
   ·refine bU (key:=3) 4 rfl rfl aA rfl ⟨rfl,rfl,trivial⟩ ?_;refine WO.two (i:=3) (j:=5) (by kernel_rfl) ?_ ?_
    ·refine cQ 3 rfl (fL ha) nM ⟨aB rfl,rfl⟩ (qF (.of (k:Rat))) ?_;refine eA (key:=4) 5 (by kernel_rfl) rfl rfl aA rfl ⟨rfl,rfl,trivial⟩ ?_
     refine aR 6 (by kernel_rfl) rfl rfl aA rfl rfl rfl rfl ⟨rfl,rfl,trivial⟩ ?_
     refine dst 7 ?_;refine aN ?_;exact⟨(),trivial,aL h0 [1,2,3,4] _ _ (by decide) ⟨rfl,rfl,rfl,rfl,rfl,trivial⟩ ⟨oe rfl rfl,cB rfl,oe rfl rfl,oe rfl rfl,rfl⟩⟩
    refine bU (key:=4) 5 rfl rfl aA rfl ⟨rfl,rfl,trivial⟩ ?_;refine aI 3 rfl (fL ha) nM ⟨aB rfl,rfl⟩ (qF (.of (k:Rat))) ?_
    refine aR 6 (by kernel_rfl) rfl rfl aA rfl rfl rfl rfl ⟨rfl,rfl,trivial⟩ ?_
    refine dst 7 ?_;refine aN ?_;exact⟨(),trivial,aL h0 [1,2,3,4] _ _ (by decide) ⟨rfl,rfl,rfl,rfl,rfl,trivial⟩ ⟨oe rfl rfl,cB rfl,oe rfl rfl,oe rfl rfl,rfl⟩⟩
   refine bU (key:=3) 5 rfl rfl aA rfl ⟨rfl,rfl,trivial⟩ ?_;refine WO.two (i:=3) (j:=4) (by kernel_rfl) ?_ ?_
   ·refine cQ 3 rfl (fL ha) nM ⟨aB rfl,rfl⟩ (qF (.of (k:Rat))) ?_;refine eA (key:=4) 4 (by kernel_rfl) rfl rfl aA rfl ⟨rfl,rfl,trivial⟩ ?_
    refine aR 6 (by kernel_rfl) rfl rfl aA rfl rfl rfl rfl ⟨rfl,rfl,trivial⟩ ?_
    refine dst 7 ?_;refine aN ?_;exact⟨(),trivial,aL h0 [1,2,4,3] _ _ (by decide) ⟨rfl,rfl,rfl,rfl,rfl,trivial⟩ ⟨oe rfl rfl,cB rfl,oe rfl rfl,oe rfl rfl,rfl⟩⟩
   refine bU (key:=4) 4 rfl rfl aA rfl ⟨rfl,rfl,trivial⟩ ?_;refine aI 3 rfl (fL ha) nM ⟨aB rfl,rfl⟩ (qF (.of (k:Rat))) ?_
   refine aR 6 (by kernel_rfl) rfl rfl aA rfl rfl rfl rfl ⟨rfl,rfl,trivial⟩ ?_
   refine dst 7 ?_;refine aN ?_;exact⟨(),trivial,aL h0 [1,2,4,3] _ _ (by decide) ⟨rfl,rfl,rfl,rfl,rfl,trivial⟩ ⟨oe rfl rfl,cB rfl,oe rfl rfl,oe rfl rfl,rfl⟩⟩
  ·refine bU (key:=3) 4 rfl rfl aA rfl ⟨rfl,rfl,trivial⟩ ?_;refine WO.two (i:=1) (j:=5) (by kernel_rfl) ?_ ?_
   ·refine cQ 1 rfl (sK (l:=((xs.map Fr4.q).map bN)) (n:=xs.length) (B:=7) (by simp) (by rw[habl];omega) hzab (by omega) (by rw[habl];omega)) vX ⟨vF rfl (.sl rfl rfl (sM _) (by rw[cV dO,habl])),rfl⟩ (qF (.of (aE ((xs.map Fr4.q).map bN)))) ?_
    refine WO.two (i:=3) (j:=5) (by kernel_rfl) ?_ ?_
    ·refine cQ 3 rfl (fL ha) nM ⟨aB rfl,rfl⟩ (qF (.of (k:Rat))) ?_;refine eA (key:=4) 5 (by kernel_rfl) rfl rfl aA rfl ⟨rfl,rfl,trivial⟩ ?_
     refine aR 6 (by kernel_rfl) rfl rfl aA rfl rfl rfl rfl ⟨rfl,rfl,trivial⟩ ?_
     refine dst 7 ?_;refine aN ?_;exact⟨(),trivial,aL h0 [1,2,3,4] _ _ (by decide) ⟨rfl,rfl,rfl,rfl,rfl,trivial⟩ ⟨oe rfl rfl,cB rfl,oe rfl rfl,oe rfl rfl,rfl⟩⟩
    refine bU (key:=4) 5 rfl rfl aA rfl ⟨rfl,rfl,trivial⟩ ?_;refine aI 3 rfl (fL ha) nM ⟨aB rfl,rfl⟩ (qF (.of (k:Rat))) ?_
    refine aR 6 (by kernel_rfl) rfl rfl aA rfl rfl rfl rfl ⟨rfl,rfl,trivial⟩ ?_
    refine dst 7 ?_;refine aN ?_;exact⟨(),trivial,aL h0 [1,2,3,4] _ _ (by decide) ⟨rfl,rfl,rfl,rfl,rfl,trivial⟩ ⟨oe rfl rfl,cB rfl,oe rfl rfl,oe rfl rfl,rfl⟩⟩
   refine bU (key:=4) 5 rfl rfl aA rfl ⟨rfl,rfl,trivial⟩ ?_
   refine aI 1 rfl (sK (l:=((xs.map Fr4.q).map bN)) (n:=xs.length) (B:=7) (by simp) (by rw[habl];omega) hzab (by omega) (by rw[habl];omega)) vX ⟨vF rfl (.sl rfl rfl (sM _) (by rw[cV dO,habl])),rfl⟩ (qF (.of (aE ((xs.map Fr4.q).map bN)))) ?_
   refine aI 3 rfl (fL ha) nM ⟨aB rfl,rfl⟩ (qF (.of (k:Rat))) ?_;refine aR 6 (by kernel_rfl) rfl rfl aA rfl rfl rfl rfl ⟨rfl,rfl,trivial⟩ ?_
   refine dst 7 ?_;refine aN ?_;exact⟨(),trivial,aL h0 [1,2,3,4] _ _ (by decide) ⟨rfl,rfl,rfl,rfl,rfl,trivial⟩ ⟨oe rfl rfl,cB rfl,oe rfl rfl,oe rfl rfl,rfl⟩⟩
  refine bU (key:=3) 5 rfl rfl aA rfl ⟨rfl,rfl,trivial⟩ ?_;refine WO.two (i:=1) (j:=4) (by kernel_rfl) ?_ ?_
  ·refine cQ 1 rfl (sK (l:=((xs.map Fr4.q).map bN)) (n:=xs.length) (B:=7) (by simp) (by rw[habl];omega) hzab (by omega) (by rw[habl];omega)) vX ⟨vF rfl (.sl rfl rfl (sM _) (by rw[cV dO,habl])),rfl⟩ (qF (.of (aE ((xs.map Fr4.q).map bN)))) ?_
   refine WO.two (i:=3) (j:=4) (by kernel_rfl) ?_ ?_
   ·refine cQ 3 rfl (fL ha) nM ⟨aB rfl,rfl⟩ (qF (.of (k:Rat))) ?_;refine eA (key:=4) 4 (by kernel_rfl) rfl rfl aA rfl ⟨rfl,rfl,trivial⟩ ?_
    refine aR 6 (by kernel_rfl) rfl rfl aA rfl rfl rfl rfl ⟨rfl,rfl,trivial⟩ ?_
    refine dst 7 ?_;refine aN ?_;exact⟨(),trivial,aL h0 [1,2,4,3] _ _ (by decide) ⟨rfl,rfl,rfl,rfl,rfl,trivial⟩ ⟨oe rfl rfl,cB rfl,oe rfl rfl,oe rfl rfl,rfl⟩⟩
   refine bU (key:=4) 4 rfl rfl aA rfl ⟨rfl,rfl,trivial⟩ ?_;refine aI 3 rfl (fL ha) nM ⟨aB rfl,rfl⟩ (qF (.of (k:Rat))) ?_
   refine aR 6 (by kernel_rfl) rfl rfl aA rfl rfl rfl rfl ⟨rfl,rfl,trivial⟩ ?_
   refine dst 7 ?_;refine aN ?_;exact⟨(),trivial,aL h0 [1,2,4,3] _ _ (by decide) ⟨rfl,rfl,rfl,rfl,rfl,trivial⟩ ⟨oe rfl rfl,cB rfl,oe rfl rfl,oe rfl rfl,rfl⟩⟩
  refine bU (key:=4) 4 rfl rfl aA rfl ⟨rfl,rfl,trivial⟩ ?_
  refine aI 1 rfl (sK (l:=((xs.map Fr4.q).map bN)) (n:=xs.length) (B:=7) (by simp) (by rw[habl];omega) hzab (by omega) (by rw[habl];omega)) vX ⟨vF rfl (.sl rfl rfl (sM _) (by rw[cV dO,habl])),rfl⟩ (qF (.of (aE ((xs.map Fr4.q).map bN)))) ?_
  refine aI 3 rfl (fL ha) nM ⟨aB rfl,rfl⟩ (qF (.of (k:Rat))) ?_;refine aR 6 (by kernel_rfl) rfl rfl aA rfl rfl rfl rfl ⟨rfl,rfl,trivial⟩ ?_
  refine dst 7 ?_;refine aN ?_;exact⟨(),trivial,aL h0 [1,2,4,3] _ _ (by decide) ⟨rfl,rfl,rfl,rfl,rfl,trivial⟩ ⟨oe rfl rfl,cB rfl,oe rfl rfl,oe rfl rfl,rfl⟩⟩
 refine sq ?_;refine sq ?_;refine rl ?_;refine ld ?_
 refine ca (pJ (Qn.of (p:=(aE ((xs.map Fr4.q).map bN))) hsz9)) yS ⟨aB rfl,rfl⟩ (.one (tv (.int .i64 (aE ((xs.map Fr4.q).map bN)).num.sign))) ?_;refine o1 ?_;refine nl ?_
 refine bX rfl (fun h4=>?_) (fun h4=>?_)
 ·refine sq ?_;refine sq ?_;have hS0:(aE ((xs.map Fr4.q).map bN))=0:=Rat.num_eq_zero.1 (Int.sign_eq_zero_iff_zero.1 h4)
  refine rl ?_;(iterate 3 refine o1 ?_);refine nl ?_;refine bl ?_
  refine lp (γ:=Nat) (fun j=>cH [(1,.one (tv (.int .i64 ((m:Nat):Int)))),(6,.one (.pt 0 0)),(8,.one (.sl 1 0 (xs.length))),(12,.one (.pt 2 0)),(45,.one (tv (.int .i64 ((xs.length:Nat):Int)))),(46,.one (tv (.int .i64 ((j:Nat):Int))))]) (fun j=>[(⟨42,0,[tv (.slice none 0 0)]⟩:Ob),⟨48,4,((mA ((xs.map Fr4.q).map bN) (j)).flatMap dB).map .t⟩,⟨48,0,((Fr4.of (k:Rat)).tr false).map .t⟩].map some) (fun j=>j≤xs.length) (fun j=>xs.length-j) 0 (Nat.zero_le _) (aL h0 [0,1,3] _ _ (by decide) ⟨rfl,rfl,rfl,rfl,rfl,rfl,trivial⟩ ⟨oe rfl rfl,cB rfl,oe rfl rfl,rfl⟩) fun j hj=>?_
  refine sq ?_;refine rl ?_;refine o1 ?_;refine nl ?_;refine sq ?_;refine bX rfl (fun h5=>?_) (fun h5=>?_)
  ·refine sk ?_;refine sq ?_;refine bl ?_;refine sq ?_;refine rl ?_;refine o1 ?_;refine o1 ?_;refine nl ?_;refine rl ?_;refine o1 ?_;refine o1 ?_
   refine ca (lH (z:=0) (by omega) (by omega)) yN ⟨a1 rfl,rfl⟩ (qF (.of ((0:Int):Rat))) ?_
   refine o1 ?_
   refine wY (sN (xs:=(mA ((xs.map Fr4.q).map bN) (j))) (k:=j) (x:=(aO (mA ((xs.map Fr4.q).map bN) (j)) (j))) (f:=dB) (z:=4) (o:=0) (x':=(((0:Int):Rat):Rat)) (us:=dB ((0:Int):Rat)) dO (gY (by rw[pM (by rw[habl];omega),habl];omega)) (Nat.le_of_ble_eq_true rfl) rfl) (yV (xs:=(mA ((xs.map Fr4.q).map bN) (j))) (k:=j) (f:=dB) (z:=4) (o:=0) (us:=dB ((0:Int):Rat)) dO (by rw[pM (by rw[habl];omega),habl];omega) (Nat.le_of_ble_eq_true rfl)) ?_
   refine nl ?_;refine rl ?_;refine o1 ?_;refine WL.cast (t:=53) (u':=.int .i64 ((j+1:Nat):Int)) rfl (aK (by omega)) ?_
   refine o1 ?_;refine nl ?_;have hst:(mA ((xs.map Fr4.q).map bN) (j)).set j 0=(mA ((xs.map Fr4.q).map bN) (j+1)):=GS (by rw[habl];omega)
   exact⟨j+1,by omega,by omega,aL h0 [0,1,2] _ _ (by decide) ⟨rfl,rfl,rfl,rfl,rfl,rfl,trivial⟩ ⟨oe rfl rfl,cB (congrArg (fun l:List Rat=>some (⟨48,4,(l.flatMap dB).map .t⟩:Ob)) hst),oe rfl rfl,rfl⟩⟩
  refine ex ?_;refine sq ?_;refine rl ?_;refine o1 ?_;refine o1 ?_;refine ld ?_;refine o1 ?_
  refine wY (sN (xs:=(mA ((xs.map Fr4.q).map bN) (j))) (k:=m) (x:=(aO (mA ((xs.map Fr4.q).map bN) (j)) (m))) (f:=dB) (z:=4) (o:=0) (x':=((k:Rat):Rat)) (us:=dB (k:Rat)) dO (gY (by rw[pM (by rw[habl];omega),habl];omega)) (Nat.le_of_ble_eq_true rfl) rfl) (yV (xs:=(mA ((xs.map Fr4.q).map bN) (j))) (k:=m) (f:=dB) (z:=4) (o:=0) (us:=dB (k:Rat)) dO (by rw[pM (by rw[habl];omega),habl];omega) (Nat.le_of_ble_eq_true rfl)) ?_
  refine nl ?_;refine sq ?_;refine rl ?_;refine o1 ?_;refine o1 ?_;refine st ?_;refine o1 ?_;refine nl ?_;refine rt ?_
  have hrow:((mA ((xs.map Fr4.q).map bN) (j)).set (m) ((k:Rat):Rat))=aS (k:Rat) (m:Int) (xs.map Fr4.q):=by rw[vY (by rw[hwl];exact hmn) hS0,Yg (by rw[habl];omega),show j=(xs.map Fr4.q).length by rw[hwl];omega]
  have hel:(aS (k:Rat) (m:Int) (xs.map Fr4.q)).length=xs.length:=by rw[←hrow,List.length_set,pM (by rw[habl];omega),habl]
  exact gN <| en (.inl rfl) rfl (jJ (.cons (.agg (.cons (.sl (trs:=(aS (k:Rat) (m:Int) (xs.map Fr4.q)).flatMap dB) rfl rfl (by rw[hrow,←hel];exact Hw _) (by rw[cV dO,hel])) .nil)) (.cons (cA _) .nil))) (by decide) (fun h=>by cases h) (by rw[Nx hmn,hel];rfl)
 refine sk ?_;refine sq ?_;refine sq ?_;have hS0:(aE ((xs.map Fr4.q).map bN))≠0:=fun h9=>h4 (by rw[h9];rfl)
 refine rl ?_;(iterate 3 refine o1 ?_);refine nl ?_;refine bl ?_
 refine lp (γ:=Nat) (fun i=>cH [(6,.one (.pt 0 0)),(8,.one (.sl 1 0 (xs.length))),(11,.one (.pt 2 0)),(12,.one (.pt 3 0)),(60,.one (.sl 1 0 (xs.length))),(61,.one (tv (.int .i64 ((xs.length:Nat):Int)))),(62,.one (tv (.int .i64 ((i:Nat):Int))))]) (fun i=>[(⟨42,0,[tv (.slice none 0 0)]⟩:Ob),⟨48,4,((lD (fun w=>(k:Rat)*w/(aE ((xs.map Fr4.q).map bN))) ((xs.map Fr4.q).map bN) (i)).flatMap dB).map .t⟩,⟨48,0,((Fr4.of (aE ((xs.map Fr4.q).map bN))).tr false).map .t⟩,⟨48,0,((Fr4.of (k:Rat)).tr false).map .t⟩].map some) (fun i=>i≤xs.length) (fun i=>xs.length-i) 0 (Nat.zero_le _) (aL h0 [0,1,2,3] _ _ (by decide) ⟨rfl,rfl,rfl,rfl,rfl,rfl,rfl,trivial⟩ ⟨oe rfl rfl,cB rfl,oe rfl rfl,oe rfl rfl,rfl⟩) fun i hi=>?_
 refine sq ?_;refine rl ?_;refine o1 ?_;refine nl ?_;refine sq ?_;refine bX rfl (fun h6=>?_) (fun h6=>?_)
 ·refine sk ?_;refine sq ?_;refine bl ?_;refine sq ?_;refine rl ?_;refine o1 ?_;refine o1 ?_
  refine JF (Ny (f:=dB) (z:=4) (o:=0) (us:=dB (aO (lD (fun w=>(k:Rat)*w/(aE ((xs.map Fr4.q).map bN))) ((xs.map Fr4.q).map bN) (i)) (i))) dO (gY (by rw[uE,habl];omega)) (Nat.le_of_ble_eq_true rfl) rfl) ?_
  refine WL.sub (LP (i:=66) (q:=aO (lD (fun w=>(k:Rat)*w/(aE ((xs.map Fr4.q).map bN))) ((xs.map Fr4.q).map bN) (i)) (i)) (q':=aO ((xs.map Fr4.q).map bN) (i)) rfl rfl (Yh (by rw[habl];omega))) ?_
  refine al 4 ?_;refine o1 ?_;refine st ?_;refine nl ?_;refine rd [0,2,3,4] (fun i=>[].contains i) mixed ?_
  refine dv 0 ?_;refine dv 1 ?_;refine aU 2 ?_;refine aU 3 ?_;refine aU 5 ?_
  refine aI 4 rfl (GB (Qn.of (p:=(k:Rat)) hTz) (Qn.of (p:=(aO ((xs.map Fr4.q).map bN) (i))) (hzab _ (iH (by rw[habl];omega))))) JS ⟨aB rfl,aB rfl,rfl⟩ (qF (.of ((k:Rat)*(aO ((xs.map Fr4.q).map bN) (i))))) ?_
  refine aI 6 rfl (GJ (Qn.of (p:=((k:Rat)*(aO ((xs.map Fr4.q).map bN) (i)))) (Nz hTz (hzab _ (iH (by rw[habl];omega))))) (Qn.of (p:=(aE ((xs.map Fr4.q).map bN))) hsz9)) JT ⟨aB rfl,aB rfl,rfl⟩ (.tup [qF (.of (((k:Rat)*(aO ((xs.map Fr4.q).map bN) (i)))/(aE ((xs.map Fr4.q).map bN)))),.one (tv (.int .i64 (if(aE ((xs.map Fr4.q).map bN))=0 then 20 else 0)))]) ?_
  refine df 7 ?_;refine df 8 ?_;refine df 9 ?_;refine dv 10 ?_
  refine Lg 11 (sN (xs:=(lD (fun w=>(k:Rat)*w/(aE ((xs.map Fr4.q).map bN))) ((xs.map Fr4.q).map bN) (i))) (k:=i) (x:=(aO (lD (fun w=>(k:Rat)*w/(aE ((xs.map Fr4.q).map bN))) ((xs.map Fr4.q).map bN) (i)) (i))) (f:=dB) (z:=4) (o:=0) (x':=((((k:Rat)*(aO ((xs.map Fr4.q).map bN) (i)))/(aE ((xs.map Fr4.q).map bN))):Rat)) (us:=dB (((k:Rat)*(aO ((xs.map Fr4.q).map bN) (i)))/(aE ((xs.map Fr4.q).map bN)))) dO (gY (by rw[uE,habl];omega)) (Nat.le_of_ble_eq_true rfl) rfl) (yV (xs:=(lD (fun w=>(k:Rat)*w/(aE ((xs.map Fr4.q).map bN))) ((xs.map Fr4.q).map bN) (i))) (k:=i) (f:=dB) (z:=4) (o:=0) (us:=dB (((k:Rat)*(aO ((xs.map Fr4.q).map bN) (i)))/(aE ((xs.map Fr4.q).map bN)))) dO (by rw[uE,habl];omega) (Nat.le_of_ble_eq_true rfl)) ?_
  refine aN ?_;refine rl ?_;refine o1 ?_;refine WL.cast (t:=78) (u':=.int .i64 ((i+1:Nat):Int)) rfl (aK (by omega)) ?_
  refine o1 ?_;refine nl ?_
  have hst:(lD (fun w=>(k:Rat)*w/(aE ((xs.map Fr4.q).map bN))) ((xs.map Fr4.q).map bN) (i)).set i ((k:Rat)*aO ((xs.map Fr4.q).map bN) i/(aE ((xs.map Fr4.q).map bN)))=(lD (fun w=>(k:Rat)*w/(aE ((xs.map Fr4.q).map bN))) ((xs.map Fr4.q).map bN) (i+1)):=GU (f:=(fun w=>(k:Rat)*w/(aE ((xs.map Fr4.q).map bN)))) (by rw[habl];omega)
  exact⟨i+1,by omega,by omega,aL h0 [0,1,2,3] _ _ (by decide) ⟨rfl,rfl,rfl,rfl,rfl,rfl,rfl,trivial⟩ ⟨oe rfl rfl,cB (congrArg (fun l:List Rat=>some (⟨48,4,(l.flatMap dB).map .t⟩:Ob)) hst),oe rfl rfl,oe rfl rfl,rfl⟩⟩
 refine ex ?_;refine sq ?_;refine rl ?_;refine o1 ?_;refine o1 ?_;refine st ?_;refine o1 ?_;refine nl ?_;refine rt ?_
 have hrow:(lD (fun w=>(k:Rat)*w/(aE ((xs.map Fr4.q).map bN))) ((xs.map Fr4.q).map bN) (i))=aS (k:Rat) (m:Int) (xs.map Fr4.q):=by rw[yW (by rw[hwl];exact hmn) hS0,Yi (by rw[habl];omega),List.map_map];rfl
 have hel:(aS (k:Rat) (m:Int) (xs.map Fr4.q)).length=xs.length:=by rw[←hrow,uE,habl]
 exact gN <| en (.inl rfl) rfl (jJ (.cons (.agg (.cons (.sl (trs:=(aS (k:Rat) (m:Int) (xs.map Fr4.q)).flatMap dB) rfl rfl (by rw[hrow,←hel];exact Hw _) (by rw[cV dO,hel])) .nil)) (.cons (cA _) .nil))) (by decide) (fun h=>by cases h) (by rw[Nx hmn,hel];rfl)
end Go.Proofs.YthmgbcdidlkpoaaGreat
