/- Part 9 of a proof: C1 to Ph. -/
import Derived.Test.YtcaakamelngceaaGreatDoorM8
import Derived.Test.YtcaakamelngceaaGreatDoorM7
import Derived.Test.YtcaakamelngceaaGreatDoorM5
import Derived.Test.YtcaakamelngceaaGreatDoorM4
set_option maxRecDepth 100000
set_option linter.unusedVariables false
set_option linter.unusedSimpArgs false
namespace Go.Proofs.YtcaakamelngceaaGreatDoor
open Go Go.RowKit
theorem yT {a b:Fr4}{p q:Rat}(ha:Qn a p) (hb:Qn b q):aE true Tryz.prog 56 [] [qF a,qF b] (aI (qO (p*q))):=by
 refine bQ Tryz.func56 rfl Tryz.ntmps56 rfl aB rfl fun N w c0 h0=>?_
 have hs:=ha.sz;have hs':=hb.sz
 have hs1:=hs.1;have hs2:=hs.2;have hs3:=hs'.1;have hs4:=hs'.2
 have hs5:(dg 4294967296 ((p.den:Int)).natAbs).length≤68719476736:=hs2
 have hs6:(dg 4294967296 ((q.den:Int)).natAbs).length≤68719476736:=hs4
 refine sq ?_;refine rl ?_;refine bx 0 ?_;refine bx 1 ?_;refine al 2 ?_;refine nl ?_
 refine md (γ:=Unit) (fun _=>dD [(2,.one (.pt 0 0)),(3,.one (.pt 1 0)),(4,.one (.pt 2 0))]) (fun _=>([⟨27,0,((Fr4.of p).tr false).map .t⟩,⟨27,0,((Fr4.of q).tr false).map .t⟩,⟨27,0,[tv (.bool false),tv (.slice none 0 0),tv (.bool false),tv (.slice none 0 0)]⟩]:List Ob).map some) (fun _=>True) ?_ fun _ _=>?_
 ·refine rd [0,1,2] (fun i=>[0,1,2,3,4,5].contains i) mixed ?_
  refine WO.two (i:=0) (j:=2) (by kernel_rfl) ?_ ?_
  ·refine eC 0 ?_;refine WO.two (i:=1) (j:=2) (by kernel_rfl) ?_ ?_
   ·refine iA 1 rfl (cT ha) eF ⟨aD rfl,rfl⟩ (qF (.of p)) ?_;refine WO.one (by kernel_rfl) (eC 2 ?_)
    refine aN 3 rfl (cT hb) eF ⟨aD rfl,rfl⟩ (qF (.of q)) ?_;refine dst 4 ?_;refine dst 5 ?_;refine bJ ?_
    exact⟨(),trivial,bS h0 [0,1,2] _ _ (by decide) ⟨rfl,rfl,rfl,trivial⟩ ⟨oe rfl rfl,oe rfl rfl,oe rfl rfl,rfl⟩⟩
   refine eC 2 ?_;refine aN 1 rfl (cT ha) eF ⟨aD rfl,rfl⟩ (qF (.of p)) ?_;refine aN 3 rfl (cT hb) eF ⟨aD rfl,rfl⟩ (qF (.of q)) ?_;refine dst 4 ?_;refine dst 5 ?_
   refine bJ ?_;exact⟨(),trivial,bS h0 [0,1,2] _ _ (by decide) ⟨rfl,rfl,rfl,trivial⟩ ⟨oe rfl rfl,oe rfl rfl,oe rfl rfl,rfl⟩⟩
  refine eC 2 ?_;refine WO.one (by kernel_rfl) (eC 0 ?_)
  refine aN 1 rfl (cT ha) eF ⟨aD rfl,rfl⟩ (qF (.of p)) ?_;refine aN 3 rfl (cT hb) eF ⟨aD rfl,rfl⟩ (qF (.of q)) ?_;refine dst 4 ?_;refine dst 5 ?_;refine bJ ?_
  exact⟨(),trivial,bS h0 [0,1,2] _ _ (by decide) ⟨rfl,rfl,rfl,trivial⟩ ⟨oe rfl rfl,oe rfl rfl,oe rfl rfl,rfl⟩⟩
 refine sq ?_;refine rd [0,1,2] (fun i=>[11].contains i) mixed ?_
 refine dv 0 ?_;refine bD 1 ?_;refine dv 2 ?_;refine bD 3 ?_;refine dv 5 ?_;refine bD 6 ?_;refine dv 7 ?_;refine bD 8 ?_;have hn1:=fR (p.num) (q.num)
 refine aN 4 rfl (oK (mJ hs) (mJ hs')) pD ⟨aD rfl,aD rfl,rfl⟩ (kF ((p.num*q.num))) ?_;have hn2:=fR ((p.den:Int)) ((q.den:Int))
 refine aN 9 rfl (oK (kS hs) (kS hs')) pD ⟨aD rfl,aD rfl,rfl⟩ (kF (((p.den:Int)*(q.den:Int)))) ?_
 refine mU 3 10 rfl (yG (Zn.of (k:=(p.num*q.num)) (by omega)) (Zn.of (k:=((p.den:Int)*(q.den:Int))) (by omega)) (den_nz p q)) yZ ⟨aD rfl,aD rfl,rfl⟩ ?_
 refine dst 11 ?_;refine bJ ?_;refine rt ?_
 exact en (.inl rfl) rfl (bI (.agg (.cons (.id rfl) (.cons (.sl (trs:=aJ (dg 4294967296 (Rat.divInt (p.num*q.num) ((p.den:Int)*(q.den:Int))).num.natAbs)) rfl rfl (bE _) (aQ _)) (.cons (.id rfl) (.cons (.sl (trs:=aJ (dg 4294967296 (Rat.divInt (p.num*q.num) ((p.den:Int)*(q.den:Int))).den)) rfl rfl (bE _) (aQ _)) .nil)))))) (by decide) (fun _=>rD _) (congrArg qO (Sg p q))
theorem BF {a b:Fr4}{p q:Rat}(ha:Qn a p) (hb:Qn b q):aE true Tryz.prog 69 [] [qF a,qF b] (aI (.one (tv (.bool (decide (p<q)))))):=by
 refine bQ Tryz.func69 rfl Tryz.ntmps69 rfl aB rfl fun N w c0 h0=>?_
 refine sq ?_;refine rl ?_;refine bx 0 ?_;refine bx 1 ?_;refine o1 ?_;refine nl ?_;refine sq ?_;refine rl ?_;refine ld ?_;refine o1 ?_;refine ld ?_
 refine ca (iU hb ha) iV ⟨aD rfl,aD rfl,rfl⟩ (.one (tv (.int .i64 (q-p).num.sign))) ?_;refine o1 ?_;refine o1 ?_;refine nl ?_;refine rt ?_
 exact en (.inl rfl) rfl (bI (aZ _)) (by decide) (fun _=>trivial) (congrArg (fun z=>FV.one (tv (.bool z))) (Up p q))
theorem BG {a:Fr4}:aE false Tryz.prog 68 [] [qF a] (aI (.one (.t (.f 69 [.a (a.tr false)] [])))):=by
 refine bQ Tryz.func68 rfl Tryz.ntmps68 rfl aB rfl fun N w c0 h0=>?_
 refine sq ?_;refine rl ?_;refine bx 0 ?_;refine o1 ?_;refine nl ?_;refine sq ?_;refine rl ?_;refine ld ?_;refine o1 ?_;refine o1 ?_;refine nl ?_;refine rt ?_
 exact en (.inl rfl) rfl (bI (.one (.id rfl))) (by decide) (fun h=>by cases h) rfl
theorem Vv {a:Fr4}{p:Rat}{xs:List Fr4}(ha:Qn a p) (hx:∀x∈xs,x.ok) (hl:xs.length≤1099511627776):aE false Tryz.prog 67 [] [qF a,.one (.t (sQ false xs)),.one (.t (.f 68 [] []))] (aI (qF (.of (dA p (xs.map Fr4.q))))):=by
 refine bQ Tryz.func67 rfl Tryz.ntmps67 rfl aB rfl fun N w c0 h0=>?_
 have hz:∀x∈xs,Sz 68719476736 x.q:=fun x h=>(show Qn x x.q from⟨hx x h,rfl⟩).sz
 refine sq ?_;refine rl ?_;refine bx 0 ?_;refine al 1 ?_;refine nl ?_;refine sq ?_;refine rl ?_;refine ld ?_;refine ca (cT ha) eF ⟨aD rfl,rfl⟩ (qF (.of p)) ?_
 refine ca (cC (z:=0) (by omega) (by omega)) eM ⟨a1 rfl,rfl⟩ (qF (.of ((0:Int):Rat))) ?_
 refine ca (Nc ha.sz) Bn ⟨aD rfl,aD rfl,rfl⟩ (qF (.of p)) ?_;refine al 2 ?_;refine st ?_;refine nl ?_;refine sq ?_;refine sq ?_;refine rl ?_;(iterate 3 refine o1 ?_);refine nl ?_
 refine bl ?_
 refine lp (γ:=Nat) (fun k=>dD [(2,.one (.t (.f 68 [] []))),(6,.one (.pt 0 0)),(7,.one (.pt 1 0)),(14,.one (.t (sQ false xs))),(15,.one (tv (.int .i64 ((xs.length:Nat):Int)))),(16,.one (tv (.int .i64 ((k:Nat):Int))))]) (fun k=>[(⟨27,0,[tv (.bool false),tv (.slice none 0 0),tv (.bool false),tv (.slice none 0 0)]⟩:Ob),⟨27,0,((Fr4.of (dA p ((xs.take k).map Fr4.q))).tr false).map .t⟩].map some) (fun k=>k≤xs.length∧Sz 68719476736 (dA p ((xs.take k).map Fr4.q))) (fun k=>xs.length-k) 0 ⟨Nat.zero_le _,ha.sz⟩ (bS h0 [1,2] _ _ (by decide) ⟨rfl,rfl,rfl,rfl,rfl,rfl,trivial⟩ ⟨oe rfl rfl,cR rfl,rfl⟩) fun k hk=>?_
 refine sq ?_;refine rl ?_;refine o1 ?_;refine nl ?_;refine sq ?_;refine cY rfl (fun h1=>?_) (fun h1=>?_)
 ·refine sk ?_;refine sq ?_;refine bl ?_;refine sq ?_;refine rl ?_;refine o1 ?_;refine xP ((eY xs (k)).tr false) (zX xs (k:=k) (by omega)) ?_
  refine al 2 ?_;refine st ?_;refine nl ?_;refine sq ?_;refine rd [0,1,2] (fun i=>[].contains i) mixed ?_
  refine dv 0 ?_;refine bD 1 ?_;refine dv 2 ?_;refine bD 4 ?_
  refine FP 3 3 [.agg [tv (.bool (aW (dA p ((xs.take k).map Fr4.q)).num)),.t (sU false (dg 4294967296 (dA p ((xs.take k).map Fr4.q)).num.natAbs)),tv (.bool false),.t (sU false (dg 4294967296 (dA p ((xs.take k).map Fr4.q)).den))]] rfl rfl (BG (a:=.of (dA p ((xs.take k).map Fr4.q)))) ID ⟨rfl,rfl⟩ ?_
  refine FP 5 3 [qF (eY xs (k))] rfl rfl (BF (a:=.of (dA p ((xs.take k).map Fr4.q))) (b:=(eY xs (k))) (Qn.of (p:=(dA p ((xs.take k).map Fr4.q))) hk.2) ⟨hx _ (fF (by omega)),rfl⟩) IE ⟨rfl,rfl⟩ ?_
  refine bJ ?_;refine cY rfl (fun h2=>?_) (fun h2=>?_)
  ·refine rl ?_;refine ld ?_;refine ca (cT ⟨hx _ (fF (by omega)),rfl⟩) eF ⟨aD rfl,rfl⟩ (qF (.of (eY xs (k)).q)) ?_
   refine ca (cC (z:=0) (by omega) (by omega)) eM ⟨a1 rfl,rfl⟩ (qF (.of ((0:Int):Rat))) ?_
   refine ca (Nc (hz _ (fF (by omega)))) Bn ⟨aD rfl,aD rfl,rfl⟩ (qF (.of (eY xs (k)).q)) ?_
   refine st ?_;refine nl ?_;refine rl ?_;refine o1 ?_;refine WL.cast (t:=30) (u':=.int .i64 ((k+1:Nat):Int)) rfl (bO (by omega)) ?_
   refine o1 ?_;refine nl ?_;have hst:(dA p ((xs.take (k+1)).map Fr4.q))=(eY xs k).q:=by rw[tW (by omega),yH];exact if_pos h2
   exact⟨k+1,by omega,⟨by omega,by rw[hst];exact hz _ (fF (by omega))⟩,bS h0 [0,1] _ _ (by decide) ⟨rfl,rfl,rfl,rfl,rfl,rfl,trivial⟩ ⟨oe rfl rfl,cR (congrArg (fun q=>some (⟨27,0,((Fr4.of q).tr false).map .t⟩:Ob)) hst.symm),rfl⟩⟩
  refine sk ?_;refine rl ?_;refine o1 ?_;refine WL.cast (t:=30) (u':=.int .i64 ((k+1:Nat):Int)) rfl (bO (by omega)) ?_
  refine o1 ?_;refine nl ?_;have hst:(dA p ((xs.take (k+1)).map Fr4.q))=(dA p ((xs.take k).map Fr4.q)):=by rw[tW (by omega),yH];exact if_neg h2
  exact⟨k+1,by omega,⟨by omega,by rw[hst];exact hk.2⟩,bS h0 [0,1] _ _ (by decide) ⟨rfl,rfl,rfl,rfl,rfl,rfl,trivial⟩ ⟨oe rfl rfl,cR (congrArg (fun q=>some (⟨27,0,((Fr4.of q).tr false).map .t⟩:Ob)) hst.symm),rfl⟩⟩
 refine ex ?_;refine sq ?_;refine rl ?_;refine ld ?_;refine st ?_;refine nl ?_;refine rt ?_
 exact en (.inl rfl) rfl (bI (.agg (.cons (.id rfl) (.cons (.id rfl) (.cons (.id rfl) (.cons (.id rfl) .nil)))))) (by decide) (fun h=>by cases h) (by rw[List.take_of_length_le (by omega)];rfl)
theorem CQ {a:Fr4}{p:Rat}{xs:List Fr4}(ha:Qn a p) (hx:∀x∈xs,x.ok) (hl:xs.length≤1099511627776):aE false Tryz.prog 25 [] [qF a,.one (.t (sQ false xs))] (aI (qF (.of (dA p (xs.map Fr4.q))))):=by
 refine bQ Tryz.func25 rfl Tryz.ntmps25 rfl aB rfl fun N w c0 h0=>?_
 refine sq ?_;refine rl ?_;refine bx 0 ?_;refine al 1 ?_;refine nl ?_;refine sq ?_;refine rl ?_;refine ld ?_;refine o1 ?_
 refine ca (Vv ha hx hl) IC ⟨aD rfl,a1 rfl,a1 rfl,rfl⟩ (qF (.of (dA p (xs.map Fr4.q)))) ?_;refine st ?_;refine nl ?_;refine rt ?_
 exact en (.inl rfl) rfl (bI (.agg (.cons (.id rfl) (.cons (.id rfl) (.cons (.id rfl) (.cons (.id rfl) .nil)))))) (by decide) (fun h=>by cases h) (rfl)
theorem Hf {a b:Zi}{k k':Int}(ha:Zn a k) (hb:Zn b k'):aE false Tryz.prog 64 [] [gF a,gF b] (aI (.tup [qF (.of (Rat.divInt k k')),.one (tv (.int .i64 (if k'=0 then 20 else 0)))])):=by
 refine bQ Tryz.func64 rfl Tryz.ntmps64 rfl aB rfl fun N9 w9 c0 h0=>?_
 refine sq ?_;refine rl ?_;refine bx 0 ?_;refine bx 1 ?_;refine al 2 ?_;refine o1 ?_;refine nl ?_;refine sq ?_;refine sq ?_;refine rl ?_;refine ld ?_
 refine ca (oG (hb).g) wT ⟨aD rfl,rfl⟩ (.one (tv (.int .i64 (k').sign))) ?_;refine o1 ?_;refine nl ?_;refine cY rfl (fun h1=>?_) (fun h1=>?_)
 ·refine sq ?_;refine rl ?_;refine o1 ?_;refine ca (FE) Hw rfl (kF 1) ?_;refine o1 ?_;refine st ?_;refine o1 ?_;refine nl ?_;refine rt ?_
  have hk0:k'=0:=Int.sign_eq_zero_iff_zero.1 h1
  have hd0:Rat.divInt k k'=0:=by rw[hk0];simp
  exact en (.inl rfl) rfl (dP (.cons (.agg (.cons (.id rfl) (.cons .nilf (.cons (.id rfl) (.cons (.id rfl) .nil))))) (.cons (aZ _) .nil))) (by decide) (fun h=>by cases h) (by rw[if_pos hk0,hd0];exact congrArg (fun f=>FV.tup [f,.one (tv (.int .i64 20))]) FS)
 refine sk ?_;refine sq ?_;have hk0:k'≠0:=fun h9=>h1 (by rw[h9];rfl)
 refine rl ?_;refine ld ?_;refine ld ?_;refine ca (yG ha hb hk0) yZ ⟨aD rfl,aD rfl,rfl⟩ (qF (.of (Rat.divInt k k'))) ?_;refine st ?_;refine o1 ?_;refine nl ?_;refine rt ?_
 exact en (.inl rfl) rfl (dP (.cons (.agg (.cons (.id rfl) (.cons (.id rfl) (.cons (.id rfl) (.cons (.id rfl) .nil))))) (.cons (aZ _) .nil))) (by decide) (fun h=>by cases h) (by rw[if_neg hk0];rfl)
theorem yV {a b:Fr4}{p q:Rat}(ha:Qn a p) (hb:Qn b q):aE false Tryz.prog 23 [] [qF a,qF b] (aI (.tup [qF (.of (p/q)),.one (tv (.int .i64 (if q=0 then 20 else 0)))])):=by
 refine bQ Tryz.func23 rfl Tryz.ntmps23 rfl aB rfl fun N w c0 h0=>?_
 have hs:=ha.sz;have hs':=hb.sz
 have hs1:=hs.1;have hs2:=hs.2;have hs3:=hs'.1;have hs4:=hs'.2
 have hs5:(dg 4294967296 ((p.den:Int)).natAbs).length≤68719476736:=hs2
 have hs6:(dg 4294967296 ((q.den:Int)).natAbs).length≤68719476736:=hs4
 refine sq ?_;refine rl ?_;refine bx 0 ?_;refine bx 1 ?_;refine al 2 ?_;refine o1 ?_;refine nl ?_
 refine md (γ:=Unit) (fun _=>dD [(2,.one (.pt 0 0)),(3,.one (.pt 1 0)),(4,.one (.pt 2 0)),(5,.one (tv (.int .i64 ((0:Nat):Int))))]) (fun _=>([⟨27,0,((Fr4.of p).tr false).map .t⟩,⟨27,0,((Fr4.of q).tr false).map .t⟩,⟨27,0,[tv (.bool false),tv (.slice none 0 0),tv (.bool false),tv (.slice none 0 0)]⟩]:List Ob).map some) (fun _=>True) ?_ fun _ _=>?_
 ·refine rd [0,1,2] (fun i=>[0,1,2,3,4,5].contains i) mixed ?_
  refine WO.two (i:=0) (j:=2) (by kernel_rfl) ?_ ?_
  ·refine eC 0 ?_;refine WO.two (i:=1) (j:=2) (by kernel_rfl) ?_ ?_
   ·refine iA 1 rfl (cT ha) eF ⟨aD rfl,rfl⟩ (qF (.of p)) ?_;refine WO.one (by kernel_rfl) (eC 2 ?_)
    refine aN 3 rfl (cT hb) eF ⟨aD rfl,rfl⟩ (qF (.of q)) ?_;refine dst 4 ?_;refine dst 5 ?_;refine bJ ?_
    exact⟨(),trivial,bS h0 [0,1,2] _ _ (by decide) ⟨rfl,rfl,rfl,rfl,trivial⟩ ⟨oe rfl rfl,oe rfl rfl,oe rfl rfl,rfl⟩⟩
   refine eC 2 ?_;refine aN 1 rfl (cT ha) eF ⟨aD rfl,rfl⟩ (qF (.of p)) ?_;refine aN 3 rfl (cT hb) eF ⟨aD rfl,rfl⟩ (qF (.of q)) ?_;refine dst 4 ?_;refine dst 5 ?_
   refine bJ ?_;exact⟨(),trivial,bS h0 [0,1,2] _ _ (by decide) ⟨rfl,rfl,rfl,rfl,trivial⟩ ⟨oe rfl rfl,oe rfl rfl,oe rfl rfl,rfl⟩⟩
  refine eC 2 ?_;refine WO.one (by kernel_rfl) (eC 0 ?_)
  refine aN 1 rfl (cT ha) eF ⟨aD rfl,rfl⟩ (qF (.of p)) ?_;refine aN 3 rfl (cT hb) eF ⟨aD rfl,rfl⟩ (qF (.of q)) ?_;refine dst 4 ?_;refine dst 5 ?_;refine bJ ?_
  exact⟨(),trivial,bS h0 [0,1,2] _ _ (by decide) ⟨rfl,rfl,rfl,rfl,trivial⟩ ⟨oe rfl rfl,oe rfl rfl,oe rfl rfl,rfl⟩⟩
 refine sq ?_;refine rd [0,1,2] (fun i=>[13,14].contains i) mixed ?_
 refine dv 0 ?_;refine bD 1 ?_;refine dv 2 ?_;refine bD 3 ?_;refine dv 5 ?_;refine bD 6 ?_;refine dv 7 ?_;refine bD 8 ?_;have hn1:=fR (p.num) ((q.den:Int))
 refine aN 4 rfl (oK (mJ hs) (kS hs')) pD ⟨aD rfl,aD rfl,rfl⟩ (kF ((p.num*(q.den:Int)))) ?_;have hn2:=fR ((p.den:Int)) (q.num)
 refine aN 9 rfl (oK (kS hs) (mJ hs')) pD ⟨aD rfl,aD rfl,rfl⟩ (kF (((p.den:Int)*q.num))) ?_
 refine aN 10 rfl (Hf (Zn.of (k:=(p.num*(q.den:Int))) (by omega)) (Zn.of (k:=((p.den:Int)*q.num)) (by omega))) Oa ⟨aD rfl,aD rfl,rfl⟩ (.tup [qF (.of (Rat.divInt ((p.num*(q.den:Int))) (((p.den:Int)*q.num)))),.one (tv (.int .i64 (if(((p.den:Int)*q.num))=0 then 20 else 0)))]) ?_
 refine df 11 ?_;refine df 12 ?_;refine dst 13 ?_;refine gA 14 (by kernel_rfl) rfl rfl aB rfl (by trivial) ?_ (fun h=>by first | rfl | cases h)
 refine bJ ?_;refine rt ?_
 exact en (.inl rfl) rfl (dP (.cons (.agg (.cons (.id rfl) (.cons (.id rfl) (.cons (.id rfl) (.cons (.id rfl) .nil))))) (.cons (aZ _) .nil))) (by decide) (fun h=>by cases h) (by have e9:(if((p.den:Int)*q.num)=0 then(20:Int)else 0)=if q=0 then 20 else 0:=(by simp only[Qc]);rw[e9,Rx];rfl)
theorem CL {xs:List Fr4}{B:Nat}(hB:2+xs.length*(B+1)≤68719476736) (hx:∀x∈xs,x.ok) (hz:∀x∈xs,Sz B x.q) (hl:xs.length≤1073741823):aE false Tryz.prog 54 [] [.one (.t (sQ false xs))] (aI (qF (.of (iS (xs.map Fr4.q))))):=by
 refine bQ Tryz.func54 rfl Tryz.ntmps54 rfl aB rfl fun N9 w9 c0 h0=>?_
 have h00:((0:Int):Rat)=iS ((xs.take 0).map Fr4.q):=by simp[iS]
 refine sq ?_;refine rl ?_;refine al 0 ?_;refine nl ?_;refine sq ?_;refine rl ?_;refine ca (cC (z:=0) (by omega) (by omega)) eM ⟨a1 rfl,rfl⟩ (qF (.of ((0:Int):Rat))) ?_
 refine al 1 ?_;refine st ?_;refine nl ?_;refine sq ?_;refine sq ?_;refine rl ?_;(iterate 3 refine o1 ?_);refine nl ?_;refine bl ?_
 refine lp (γ:=Nat) (fun k=>dD [(2,.one (.pt 0 0)),(3,.one (.pt 1 0)),(7,.one (.t (sQ false xs))),(8,.one (tv (.int .i64 ((xs.length:Nat):Int)))),(9,.one (tv (.int .i64 ((k:Nat):Int))))]) (fun k=>[(⟨27,0,[tv (.bool false),tv (.slice none 0 0),tv (.bool false),tv (.slice none 0 0)]⟩:Ob),⟨27,0,((Fr4.of (iS ((xs.take (k)).map Fr4.q))).tr false).map .t⟩].map some) (fun k=>k≤xs.length∧Sz (2+k*(B+1)) (iS ((xs.take (k)).map Fr4.q))) (fun k=>xs.length-k) 0 ⟨Nat.zero_le _,by simpa[iS]using cV (z:=0) (by omega) (by omega)⟩ (bS h0 [0,1] _ _ (by decide) ⟨rfl,rfl,rfl,rfl,rfl,trivial⟩ ⟨oe rfl rfl,cR (congrArg (fun q=>some (⟨27,0,((Fr4.of q).tr false).map .t⟩:Ob)) h00),rfl⟩) fun k hk=>?_
 have hmul:k*(B+1)≤xs.length*(B+1):=Nat.mul_le_mul hk.1 (Nat.le_refl _)
 refine sq ?_;refine rl ?_;refine o1 ?_;refine nl ?_;refine sq ?_;refine cY rfl (fun h1=>?_) (fun h1=>?_)
 ·refine sk ?_;refine sq ?_;refine bl ?_;refine sq ?_;refine rl ?_;refine o1 ?_;refine xP ((eY xs (k)).tr false) (zX xs (k:=k) (by omega)) ?_
  refine al 2 ?_;refine st ?_;refine nl ?_;have hmul2:(k+1)*(B+1)≤xs.length*(B+1):=Nat.mul_le_mul (by omega) (Nat.le_refl _)
  have hmul3:(k+1)*(B+1)=k*(B+1)+(B+1):=Nat.succ_mul k (B+1)
  refine rd [0,1,2] (fun i=>[4].contains i) mixed ?_
  refine bD 0 ?_;refine bD 1 ?_;refine aN 2 rfl (cT ⟨hx _ (fF (by omega)),rfl⟩) eF ⟨aD rfl,rfl⟩ (qF (.of (eY xs (k)).q)) ?_
  refine aN 3 rfl (Sf (hk.2.mono (by omega)) ((hz _ (fF (by omega))).mono (by omega))) Bn ⟨aD rfl,aD rfl,rfl⟩ (qF (.of ((iS ((xs.take (k)).map Fr4.q))+(eY xs (k)).q))) ?_
  refine dst 4 ?_;refine bJ ?_;refine rl ?_;refine o1 ?_;refine WL.cast (t:=17) (u':=.int .i64 ((k+1:Nat):Int)) rfl (bO (by omega)) ?_
  refine o1 ?_;refine nl ?_;have hst:(iS ((xs.take (k+1)).map Fr4.q))=(iS ((xs.take (k)).map Fr4.q))+(eY xs (k)).q:=by rw[tW (by omega)];exact Mp _ _
  exact⟨k+1,by omega,⟨by omega,by rw[hst];exact(An hk.2 (hz _ (fF (by omega)))).mono (by omega)⟩,bS h0 [0,1] _ _ (by decide) ⟨rfl,rfl,rfl,rfl,rfl,trivial⟩ ⟨oe rfl rfl,cR (congrArg (fun q=>some (⟨27,0,((Fr4.of q).tr false).map .t⟩:Ob)) hst.symm),rfl⟩⟩
 refine ex ?_;refine sq ?_;refine rl ?_;refine ld ?_;refine st ?_;refine nl ?_;refine rt ?_
 exact en (.inl rfl) rfl (bI (.agg (.cons (.id rfl) (.cons (.id rfl) (.cons (.id rfl) (.cons (.id rfl) .nil)))))) (by decide) (fun h=>by cases h) (by rw[List.take_of_length_le (by omega)];rfl)
theorem Vx {a:Fr4}{p:Rat}(ha:Qn a p):aE false Tryz.prog 167 [] [qF a] (aI (.tup [kO (p.num.fdiv (p.den:Int)),kO (p.num.fmod (p.den:Int)),.agg [tv (.bool false),.t (sU false (dg 4294967296 p.den))]])):=by
 refine IL Tryz.func167 rfl Tryz.ntmps167 rfl aB rfl fun N9 w9 c0 h0=>?_
 refine sq ?_;refine rl ?_;refine bx 0 ?_;refine al 1 ?_;refine al 2 ?_;refine al 3 ?_;refine nl ?_;refine sq ?_;refine sq ?_;refine rl ?_;refine ld ?_
 refine ca (Dc ha.1) Hz ⟨aD rfl,rfl⟩ (.one (tv (.bool (cW a.s a.x a.t a.y)))) ?_;refine WL.splitb (t:=6) rfl (fun h1=>?_) (fun h1=>?_)
 ·refine o1 ?_;refine nl ?_;refine kH rfl ?_;refine sk ?_;refine sq ?_;obtain rfl:=(ha.right h1).symm
  have hd0:(p.den:Int)≠0:=by have:=p.den_pos;omega
  refine rl ?_;refine o1 ?_;refine ld ?_;refine o1 ?_;refine ld ?_;refine gW 4 (mH (mJ ha.sz).g (kS ha.sz).g hd0) uO ⟨aD rfl,aD rfl,rfl⟩ ?_;(iterate 4 refine o1 ?_)
  refine st ?_;refine st ?_;refine nl ?_;refine sq ?_;refine rd [0,3] (fun i=>[6].contains i) mixed ?_
  refine dv 2 ?_;refine bD 3 ?_;refine WO.two (i:=0) (j:=1) (by kernel_rfl) ?_ ?_
  ·refine eC 0 ?_;refine WO.two (i:=1) (j:=4) (by kernel_rfl) ?_ ?_
   ·refine eC 1 ?_;refine cF 4 (by kernel_rfl) rfl rfl aB rfl rfl rfl rfl ⟨rfl,rfl,trivial⟩ ?_
    refine cF 5 (by kernel_rfl) rfl rfl aB rfl rfl rfl rfl ⟨rfl,rfl,trivial⟩ ?_
    refine dst 6 ?_;refine bJ ?_;refine rt ?_
    exact wV <| en (.inl rfl) rfl (tH (.cons (.agg (.cons (.id rfl) (.cons (.sl (trs:=aJ (dg 4294967296 ((p.num.fdiv (p.den:Int))).natAbs)) rfl rfl (bE _) (aQ _)) .nil))) (.cons (.agg (.cons (.id rfl) (.cons (.sl (trs:=aJ (dg 4294967296 ((p.num.fmod (p.den:Int))).natAbs)) rfl rfl (bE _) (aQ _)) .nil))) (.cons (.agg (.cons (.id rfl) (.cons (.id rfl) .nil))) .nil)))) (by simp) (fun h=>by cases h) rfl
   refine FF 4 rfl rfl aB rfl rfl rfl rfl ⟨rfl,rfl,trivial⟩ ?_;refine WO.one (by kernel_rfl) (eC 1 ?_)
   refine cF 5 (by kernel_rfl) rfl rfl aB rfl rfl rfl rfl ⟨rfl,rfl,trivial⟩ ?_
   refine dst 6 ?_;refine bJ ?_;refine rt ?_
   exact wV <| en (.inl rfl) rfl (tH (.cons (.agg (.cons (.id rfl) (.cons (.sl (trs:=aJ (dg 4294967296 ((p.num.fdiv (p.den:Int))).natAbs)) rfl rfl (bE _) (aQ _)) .nil))) (.cons (.agg (.cons (.id rfl) (.cons (.sl (trs:=aJ (dg 4294967296 ((p.num.fmod (p.den:Int))).natAbs)) rfl rfl (bE _) (aQ _)) .nil))) (.cons (.agg (.cons (.id rfl) (.cons (.id rfl) .nil))) .nil)))) (by simp) (fun h=>by cases h) rfl
  refine eC 1 ?_;refine WO.one (by kernel_rfl) (eC 0 ?_)
  refine cF 4 (by kernel_rfl) rfl rfl aB rfl rfl rfl rfl ⟨rfl,rfl,trivial⟩ ?_
  refine cF 5 (by kernel_rfl) rfl rfl aB rfl rfl rfl rfl ⟨rfl,rfl,trivial⟩ ?_
  refine dst 6 ?_;refine bJ ?_;refine rt ?_
  exact wV <| en (.inl rfl) rfl (tH (.cons (.agg (.cons (.id rfl) (.cons (.sl (trs:=aJ (dg 4294967296 ((p.num.fdiv (p.den:Int))).natAbs)) rfl rfl (bE _) (aQ _)) .nil))) (.cons (.agg (.cons (.id rfl) (.cons (.sl (trs:=aJ (dg 4294967296 ((p.num.fmod (p.den:Int))).natAbs)) rfl rfl (bE _) (aQ _)) .nil))) (.cons (.agg (.cons (.id rfl) (.cons (.id rfl) .nil))) .nil)))) (by simp) (fun h=>by cases h) rfl
 refine o1 ?_;refine nl ?_;refine jH rfl ?_;refine sq ?_;refine rl ?_;refine o1 ?_;refine o1 ?_;refine ca (sX (n:=1) (by omega) (by omega)) sY ⟨a1 rfl,rfl⟩ (kF 1) ?_
 (iterate 3 refine st ?_);refine nl ?_;refine rt ?_;have hq9:=ha.wrong h1
 subst hq9;refine FQ (FO (j:=1) (key:=4) (e:=115) (z:=1) rfl rfl rfl (.id (.sl .nil))) ?_;refine FQ (FO (j:=2) (key:=5) (e:=115) (z:=1) rfl rfl rfl (.id (.sl .nil))) ?_
 exact wV <| en (.inl rfl) rfl (tH (.cons (.agg (.cons (.id rfl) (.cons (.sl (trs:=aJ []) rfl rfl rfl rfl) .nil))) (.cons (.agg (.cons (.id rfl) (.cons (.sl (trs:=aJ []) rfl rfl rfl rfl) .nil))) (.cons (.agg (.cons (.id rfl) (.cons (.id rfl) .nil))) .nil)))) (by simp) (fun h=>by cases h) rfl
def jY (a:Fr4):Bool:= !cW a.s a.x a.t a.y || decide (cX a.t a.y≠1)
theorem IQ {a:Fr4}{p:Rat}(_:Qn a p) (h:cW a.s a.x a.t a.y=true):decide ((cX a.t a.y-1).sign≠0)=jY a:=by
 unfold jY
 rw[h]
 have e:((cX a.t a.y-1).sign=0)↔cX a.t a.y=1:=by rw[Int.sign_eq_zero_iff_zero];omega
 simp[e]
theorem Nv (p:Rat) (h:cW (Fr4.of p).s (Fr4.of p).x (Fr4.of p).t (Fr4.of p).y=true):jY (.of p)= !decide (p.den=1):=by
 unfold jY
 rw[h]
 have e:cX (Fr4.of p).t (Fr4.of p).y=(p.den:Int):=jS p.den
 rw[e]
 have e2:((p.den:Int)≠1)↔¬p.den=1:=by omega
 simp[e2]
theorem Ha {a:Fr4}{p:Rat}(ha:Qn a p):aE true Tryz.prog 108 [] [qF a] (aI (.one (tv (.bool (jY a))))):=by
 refine bQ Tryz.func108 rfl Tryz.ntmps108 rfl aB rfl fun N9 w9 c0 h0=>?_
 refine sq ?_;refine rl ?_;refine bx 0 ?_;refine o1 ?_;refine nl ?_;refine sq ?_;refine rd [0] (fun i=>[10].contains i) mixed ?_
 refine bD 0 ?_;refine aN 1 rfl (Dc ha.1) Hz ⟨aD rfl,rfl⟩ (.one (tv (.bool (cW a.s a.x a.t a.y)))) ?_;refine WD.splitb (t:=4) rfl (fun h1=>?_) (fun h1=>?_)
 ·refine df 2 ?_;refine df 3 ?_;refine dv 4 ?_;refine bD 5 ?_;refine aN 6 rfl (sX (n:=1) (by omega) (by omega)) sY ⟨a1 rfl,rfl⟩ (kF 1) ?_
  refine aN 7 rfl (Nb (Cp ha) (Zn.of (k:=1) (by decide))) Bm ⟨aD rfl,aD rfl,rfl⟩ (.one (tv (.int .i64 (cX a.t a.y-1).sign))) ?_
  refine df 8 ?_;refine df 9 ?_;refine gA 10 (by kernel_rfl) rfl rfl aB rfl (by trivial) ?_ (fun h=>by first | rfl | cases h)
  refine bJ ?_;refine rt ?_;have hr9:=ha.right h1
  exact en (.inl rfl) rfl (bI (aZ _)) (by decide) (fun _=>trivial) (congrArg (fun z=>FV.one (tv (.bool z))) (IQ ha h1))
 refine df 2 ?_;refine df 3 ?_;refine bF 4 ?_;refine bF 5 ?_;refine bF 6 ?_;refine bF 7 ?_;refine bF 8 ?_;refine df 9 ?_
 refine gA 10 (by kernel_rfl) rfl rfl aB rfl (by trivial) ?_ (fun h=>by first | rfl | cases h)
 refine bJ ?_;refine rt ?_;exact en (.inl rfl) rfl (bI (aZ _)) (by decide) (fun _=>trivial) (congrArg (fun z=>FV.one (tv (.bool z))) (by unfold jY;rw[h1];rfl))
theorem Nd:CallOk Tryz.prog 123:=.mk Tryz.func123 (by decide) rfl
theorem Nf:CallOk Tryz.prog 124:=.mk Tryz.func124 (by decide) rfl
theorem FG:CallOk Tryz.prog 74:=.mk Tryz.func74 (by decide) rfl
theorem FH:CallOk Tryz.prog 75:=.mk Tryz.func75 (by decide) rfl
theorem BH {l v p:List Nat}{n:Bool}(hl:Lim 256 l):aE false Tryz.prog 123 [⟨103,0,[tv (.string (aA l)),tv (.bool n),tv (.string (aA v)),tv (.string (aA p))]⟩] [.one (.pt 0 0),.one (tv (.string ⟨#[45]⟩))] (Rt [⟨103,0,[tv (.string (aA (if l.take 1=[45]then l.drop 1 else l))),tv (.bool n),tv (.string (aA v)),tv (.string (aA p))]⟩] (.one (tv (.bool (decide (l.take 1=[45])))))):=by
 refine Bj Tryz.func123 rfl Tryz.ntmps123 rfl aB rfl fun N9 M9 w9 c0 h0=>?_
 refine sq ?_;refine rl ?_;refine o1 ?_;refine nl ?_;refine sq ?_;refine rl ?_;(iterate 3 refine o1 ?_);refine ld ?_;refine o1 ?_
 refine ca (Dz hl) Rf ⟨a1 rfl,a1 rfl,rfl⟩ (.tup [.one (tv (.string (aA (if l.take 1=[45]then l.drop 1 else l)))),.one (tv (.bool (decide (l.take 1=[45]))))]) ?_
 (iterate 5 refine o1 ?_);refine nl ?_;refine sq ?_;refine rl ?_;(iterate 4 refine o1 ?_);refine st ?_;refine nl ?_;refine sq ?_;refine rl ?_;refine o1 ?_;refine o1 ?_;refine nl ?_
 refine rt ?_
 exact jI (lent':=[⟨103,0,[tv (.string (aA (if l.take 1=[45]then l.drop 1 else l))),tv (.bool n),tv (.string (aA v)),tv (.string (aA p))]⟩]) (.inl rfl) rfl (bI (aZ _)) (by decide) (fun _ h=>by cases h) ⟨⟨rfl,rfl⟩,trivial⟩ ⟨rfl,trivial⟩ ⟨rfl,trivial⟩ (fun h=>by cases h) ⟨rfl,rfl⟩
theorem Vy {l v p:List Nat}{n:Bool}(hl:Lim 256 l):aE false Tryz.prog 123 [⟨103,0,[tv (.string (aA l)),tv (.bool n),tv (.string (aA v)),tv (.string (aA p))]⟩] [.one (.pt 0 0),.one (tv (.string ⟨#[46]⟩))] (Rt [⟨103,0,[tv (.string (aA (if l.take 1=[46]then l.drop 1 else l))),tv (.bool n),tv (.string (aA v)),tv (.string (aA p))]⟩] (.one (tv (.bool (decide (l.take 1=[46])))))):=by
 refine Bj Tryz.func123 rfl Tryz.ntmps123 rfl aB rfl fun N9 M9 w9 c0 h0=>?_
 refine sq ?_;refine rl ?_;refine o1 ?_;refine nl ?_;refine sq ?_;refine rl ?_;(iterate 3 refine o1 ?_);refine ld ?_;refine o1 ?_
 refine ca (Ct hl) Rf ⟨a1 rfl,a1 rfl,rfl⟩ (.tup [.one (tv (.string (aA (if l.take 1=[46]then l.drop 1 else l)))),.one (tv (.bool (decide (l.take 1=[46]))))]) ?_
 (iterate 5 refine o1 ?_);refine nl ?_;refine sq ?_;refine rl ?_;(iterate 4 refine o1 ?_);refine st ?_;refine nl ?_;refine sq ?_;refine rl ?_;refine o1 ?_;refine o1 ?_;refine nl ?_
 refine rt ?_
 exact jI (lent':=[⟨103,0,[tv (.string (aA (if l.take 1=[46]then l.drop 1 else l))),tv (.bool n),tv (.string (aA v)),tv (.string (aA p))]⟩]) (.inl rfl) rfl (bI (aZ _)) (by decide) (fun _ h=>by cases h) ⟨⟨rfl,rfl⟩,trivial⟩ ⟨rfl,trivial⟩ ⟨rfl,trivial⟩ (fun h=>by cases h) ⟨rfl,rfl⟩
theorem Df {l v p:List Nat}{n:Bool}(hl:Lim 256 l) (hn:l.length≤1000000):aE false Tryz.prog 124 [⟨103,0,[tv (.string (aA l)),tv (.bool n),tv (.string (aA v)),tv (.string (aA p))]⟩] [.one (.pt 0 0)] (Rt [⟨103,0,[tv (.string (aA (l.dropWhile eJ))),tv (.bool n),tv (.string (aA v)),tv (.string (aA p))]⟩] (.one (tv (.string (aA (l.takeWhile eJ)))))):=by
 refine Bj Tryz.func124 rfl Tryz.ntmps124 rfl aB rfl fun N9 M9 w9 c0 h0=>?_
 have hdl:(l.dropWhile eJ).length≤l.length:=(List.dropWhile_sublist _).length_le
 refine sq ?_;refine rl ?_;refine o1 ?_;refine nl ?_;refine sq ?_;refine rl ?_;(iterate 3 refine o1 ?_);refine ld ?_
 refine ca (Mu hl) Pc ⟨a1 rfl,a1 rfl,rfl⟩ (.one (tv (.string (aA (l.dropWhile eJ))))) ?_;refine o1 ?_;refine nl ?_;refine sq ?_;refine rd [0] (fun i=>[13].contains i) mixed ?_
 refine dv 0 ?_;refine dv 1 ?_;refine dv 2 ?_;refine bD 3 ?_;refine dv 4 ?_;refine dv 5 ?_;refine dv 6 ?_;refine bD 7 ?_;refine dv 8 ?_
 refine WD.cast (t:=18) (u':=.int .i64 ((l.length:Nat):Int)) rfl (congrArg (fun n:Nat=>Value.int .i64 (n:Int)) (aH _)) ?_
 refine dv 9 ?_;refine dv 10 ?_;refine WD.cast (t:=20) (u':=.int .i64 (((l.dropWhile eJ).length:Nat):Int)) rfl (congrArg (fun n:Nat=>Value.int .i64 (n:Int)) (aH _)) ?_
 refine dv 11 ?_;refine WD.cast (t:=21) (u':=.int .i64 ((l.length-((l.dropWhile eJ).length):Nat):Int)) rfl (bO (by omega)) ?_
 refine dv 12 ?_ (hC:=(by rw[aH];omega))
 refine WD.cast (t:=22) (u':=.string (aA (l.takeWhile eJ))) rfl (congrArg Value.string ((gB _ 0 _).trans (congrArg aA (EV eJ l)))) ?_
 refine gA 13 (by kernel_rfl) rfl rfl aB rfl (by trivial) ?_ (fun h=>by first | rfl | cases h)
 refine bJ ?_;refine sq ?_;refine rl ?_;(iterate 4 refine o1 ?_);refine st ?_;refine nl ?_;refine sq ?_;refine rl ?_;refine o1 ?_;refine o1 ?_;refine nl ?_;refine rt ?_
 exact jI (lent':=[⟨103,0,[tv (.string (aA (l.dropWhile eJ))),tv (.bool n),tv (.string (aA v)),tv (.string (aA p))]⟩]) (.inl rfl) rfl (bI (aZ _)) (by decide) (fun _ h=>by cases h) ⟨⟨rfl,rfl⟩,trivial⟩ ⟨rfl,trivial⟩ ⟨rfl,trivial⟩ (fun h=>by cases h) ⟨rfl,rfl⟩
theorem BI {a b c d:List Nat}{t:Nat}{n:Bool}{w:List Nat}(h1:a=b) (h2:c=d):some (⟨t,0,[tv (.string (aA a)),tv (.bool n),tv (.string (aA w)),tv (.string (aA c))]⟩:Ob)=some (⟨t,0,[tv (.string (aA b)),tv (.bool n),tv (.string (aA w)),tv (.string (aA d))]⟩:Ob):=by rw[h1,h2]
theorem tO {m:List Nat}(h:gX (cQ m)=true):(kR (cQ m)).dropWhile eJ=rr m∧(kR (cQ m)).takeWhile eJ=pl m:=by
 unfold rr pl
 rw[if_pos h,if_pos h]
 exact⟨rfl,rfl⟩
theorem BJ {m:List Nat}(h:gX (cQ m)=false):kR (cQ m)=rr m∧[]=pl m:=by
 rw[Ru h,Je h,EU h]
 exact⟨rfl,rfl⟩
theorem IR {m:List Nat}(h:gX (cQ m)=false):(gX (cQ m)&&decide (pl m=[]))=false:=by rw[h];rfl
theorem IS {m:List Nat}(h:gX (cQ m)=true) (h2:decide ((kR (cQ m)).takeWhile eJ=[])=false):(gX (cQ m)&&decide (pl m=[]))=false:=by
 rw[(tO h).2]at h2
 rw[h2,Bool.and_false]
theorem BK {l:List Nat}{c:List Nat}(_:c=rr (aV l)) (h:gX (cQ (aV l))=true) (h2:decide ((kR (cQ (aV l))).takeWhile eJ=[])=true):jF l=false:=by
 rw[(tO h).2]at h2
 unfold jF oI
 rw[h,h2]
 rfl
theorem BL {m:List Nat}(h:Lim 256 m):Lim 256 (rr m):=by
 unfold rr
 split
 ·exact iY (xF (iY h))
 exact iY h
theorem BM {l:List Nat}(hl:Lim 256 l) (hn:l.length≤1000000):aE false Tryz.prog 74 [⟨103,0,[tv (.string (aA l)),tv (.bool false),tv (.string (aA [])),tv (.string (aA []))]⟩] [.one (.pt 0 0)] (Rt [⟨103,0,[tv (.string (aA (rr (aV l)))),tv (.bool (fK l)),tv (.string (aA (wh (aV l)))),tv (.string (aA (pl (aV l))))]⟩] (.one (tv (.bool (jF l))))):=by
 refine Bj Tryz.func74 rfl Tryz.ntmps74 rfl aB rfl fun N9 M9 w9 c0 h0=>?_
 have hWn:(wh (aV l)++pl (aV l)).length≤1000000:=by rw[List.length_append];have:=Cm (aV l);have:=xE (l:=l);omega
 have hL:=Vf hl
 have hnL:=Nat.le_trans (xE (l:=l)) hn
 have hR:Lim 256 (cQ (aV l)):=iY hL
 have hnR:=Nat.le_trans (Vh (aV l)) hnL
 have hwl:=Cm (aV l)
 have hWP:Lim 256 (wh (aV l)++pl (aV l)):=vK.append AU
 refine sq ?_;refine rl ?_;refine o1 ?_;refine nl ?_;refine sq ?_;refine rl ?_;(iterate 4 refine o1 ?_)
 refine cl 1 [0] (BH (l:=l) (n:=false) (v:=[]) (p:=[]) hl) Nd ⟨oe rfl rfl,rfl⟩ ⟨rfl,rfl,rfl⟩ (ok:=[some ⟨103,0,[tv (.string (aA (aV l))),tv (.bool false),tv (.string (aA [])),tv (.string (aA []))]⟩]) ⟨oe rfl rfl,rfl⟩ ?_
 refine o1 ?_;refine o1 ?_;refine st ?_;refine nl ?_;refine sq ?_;refine rl ?_;(iterate 4 refine o1 ?_)
 refine cl 1 [0] (Df (l:=(aV l)) (n:=(fK l)) (v:=[]) (p:=[]) hL hnL) Nf ⟨oe rfl rfl,rfl⟩ ⟨rfl,rfl⟩ (ok:=[some ⟨103,0,[tv (.string (aA (cQ (aV l)))),tv (.bool (fK l)),tv (.string (aA [])),tv (.string (aA []))]⟩]) ⟨oe rfl rfl,rfl⟩ ?_
 refine o1 ?_;refine o1 ?_;refine st ?_;refine nl ?_
 refine md (γ:=Unit) (fun _=>dD [(0,.one (.pt 0 0))]) (fun _=>([⟨103,0,[tv (.string (aA (rr (aV l)))),tv (.bool (fK l)),tv (.string (aA (wh (aV l)))),tv (.string (aA (pl (aV l))))]⟩]:List Ob).map some) (fun _=>(gX (cQ (aV l))&&decide ((pl (aV l))=[]))=false) ?_ fun _ hfk=>?_
 ·refine sq ?_;refine rl ?_;(iterate 3 refine o1 ?_)
  refine cl 1 [0] (Vy (l:=(cQ (aV l))) (n:=(fK l)) (v:=(wh (aV l))) (p:=[]) hR) Nd ⟨oe rfl rfl,rfl⟩ ⟨rfl,rfl,rfl⟩ (ok:=[some ⟨103,0,[tv (.string (aA (kR (cQ (aV l))))),tv (.bool (fK l)),tv (.string (aA (wh (aV l)))),tv (.string (aA []))]⟩]) ⟨oe rfl rfl,rfl⟩ ?_
  refine nl ?_;refine jG rfl (fun h1=>?_) (fun h1=>?_)
  ·refine sq ?_;refine rl ?_;(iterate 4 refine o1 ?_)
   refine cl 1 [0] (Df (l:=(kR (cQ (aV l)))) (n:=(fK l)) (v:=(wh (aV l))) (p:=[]) (xF hR) (Nat.le_trans Vg hnR)) Nf ⟨oe rfl rfl,rfl⟩ ⟨rfl,rfl⟩ (ok:=[some ⟨103,0,[tv (.string (aA ((kR (cQ (aV l))).dropWhile eJ))),tv (.bool (fK l)),tv (.string (aA (wh (aV l)))),tv (.string (aA []))]⟩]) ⟨oe rfl rfl,rfl⟩ ?_
   refine o1 ?_;refine o1 ?_;refine st ?_;refine nl ?_;refine sq ?_;refine rl ?_;(iterate 3 refine o1 ?_);refine ld ?_;refine o1 ?_
   refine WL.cast (t:=33) (u':=.bool (decide ((kR (cQ (aV l))).takeWhile eJ=[]))) rfl (congrArg Value.bool (gJ (AT (xF hR)))) ?_;refine nl ?_
   refine jG rfl (fun h2=>?_) (fun h2=>?_)
   ·refine sq ?_;refine rl ?_;refine o1 ?_;refine nl ?_;refine rt ?_;have hok:jF l=false:=BK (tO h1).1 h1 h2
    exact jI (lent':=[⟨103,0,[tv (.string (aA (rr (aV l)))),tv (.bool (fK l)),tv (.string (aA (wh (aV l)))),tv (.string (aA (pl (aV l))))]⟩]) (.inl rfl) rfl (bI (aZ _)) (by decide) (fun _ h=>by cases h) ⟨⟨rfl,rfl⟩,trivial⟩ ⟨BI (tO h1).1 (tO h1).2,trivial⟩ ⟨rfl,trivial⟩ (fun h=>by cases h) ⟨rfl,by rw[hok]⟩
   refine sk ?_;exact⟨(),IS h1 h2,Bt h0 [0] _ _ (by decide) rfl ⟨rfl,trivial⟩ ⟨oe rfl (BI (tO h1).1 (tO h1).2),rfl⟩⟩
  refine sk ?_;exact⟨(),IR h1,Bt h0 [0] _ _ (by decide) rfl ⟨rfl,trivial⟩ ⟨oe rfl (BI (BJ h1).1 (BJ h1).2),rfl⟩⟩
 refine sq ?_;refine rd [0] (fun i=>[11].contains i) mixed ?_
 refine dv 0 ?_;refine dv 1 ?_;refine dv 2 ?_;refine bD 3 ?_;refine dv 4 ?_;refine dv 5 ?_;refine dv 6 ?_;refine bD 7 ?_;refine dv 8 ?_ (hC:=(by rw[aH,aH];omega))
 refine WD.cast (t:=42) (u':=.string (aA (wh (aV l)++(pl (aV l))))) rfl (congrArg Value.string (lT _ _)) ?_
 refine aN 9 rfl (Vn hWP (by omega)) Ia ⟨a1 rfl,a1 rfl,rfl⟩ (.one (tv (.string (aA ((fS p0 (wh (aV l)++(pl (aV l)))).dropWhile p0))))) ?_
 refine df 10 ?_;refine WD.cast (t:=44) (u':=.bool (Rs (aV l))) rfl (congrArg Value.bool ((gJ (iY (rP hWP))).trans (Py _))) ?_
 refine gA 11 (by kernel_rfl) rfl rfl aB rfl (by trivial) ?_ (fun h=>by first | rfl | cases h)
 refine bJ ?_;refine sq ?_;refine rl ?_;(iterate 4 refine o1 ?_);refine ld ?_;refine o1 ?_
 refine WL.cast (t:=50) (u':=.bool (decide ((rr (aV l))=[]))) rfl (congrArg Value.bool (gJ (BL hL))) ?_;refine o1 ?_;refine WL.splitb (t:=51) rfl (fun h3=>?_) (fun h3=>?_)
 ·(iterate 3 refine o1 ?_);refine ld ?_;refine o1 ?_;refine WL.cast (t:=56) (u':=.bool (!decide ((wh (aV l))=[]))) rfl (congrArg Value.bool (congrArg not (gJ vK))) ?_;refine o1 ?_
  refine o1 ?_;refine WL.splitb (t:=58) rfl (fun h4=>?_) (fun h4=>?_)
  ·(iterate 3 refine o1 ?_);refine ld ?_;refine o1 ?_
   refine WL.cast (t:=63) (u':=.bool (decide ((wh (aV l))=[48]))) rfl (congrArg Value.bool (gO (l':=[48]) vK (Lim.cons (by omega) Lim.nil))) ?_
   refine o1 ?_;refine WL.splitb (t:=64) rfl (fun h5=>?_) (fun h5=>?_)
   ·(iterate 6 refine dE ?_);(iterate 6 refine o1 ?_);refine ld ?_;refine o1 ?_;refine WL.splitb (t:=78) rfl (fun h6=>?_) (fun h6=>?_)
    ·refine o1 ?_;refine o1 ?_;refine WL.splitb (t:=80) rfl (fun h7=>?_) (fun h7=>?_)
     ·(iterate 3 refine o1 ?_);refine nl ?_;refine rt ?_
      exact jI (lent':=[⟨103,0,[tv (.string (aA (rr (aV l)))),tv (.bool (fK l)),tv (.string (aA (wh (aV l)))),tv (.string (aA (pl (aV l))))]⟩]) (.inl rfl) rfl (bI (aZ _)) (by decide) (fun _ h=>by cases h) ⟨⟨rfl,rfl⟩,trivial⟩ ⟨rfl,trivial⟩ ⟨rfl,trivial⟩ (fun h=>by cases h) ⟨rfl,congrArg (fun b=>FV.one (tv (.bool b))) (by unfold jF oI;simp only[hfk,h3,h4,h5,h6,h7] <;> first | rfl | (simp;done) | (simp;omega) | (simp;exact fun h=>absurd (by omega) h))⟩
     (iterate 3 refine o1 ?_);refine nl ?_;refine rt ?_
     exact jI (lent':=[⟨103,0,[tv (.string (aA (rr (aV l)))),tv (.bool (fK l)),tv (.string (aA (wh (aV l)))),tv (.string (aA (pl (aV l))))]⟩]) (.inl rfl) rfl (bI (aZ _)) (by decide) (fun _ h=>by cases h) ⟨⟨rfl,rfl⟩,trivial⟩ ⟨rfl,trivial⟩ ⟨rfl,trivial⟩ (fun h=>by cases h) ⟨rfl,congrArg (fun b=>FV.one (tv (.bool b))) (by unfold jF oI;simp only[hfk,h3,h4,h5,h6,h7] <;> first | rfl | (simp;done) | (simp;omega) | (simp;exact fun h=>absurd (by omega) h))⟩
    refine dE ?_;(iterate 4 refine o1 ?_);refine nl ?_;refine rt ?_
    exact jI (lent':=[⟨103,0,[tv (.string (aA (rr (aV l)))),tv (.bool (fK l)),tv (.string (aA (wh (aV l)))),tv (.string (aA (pl (aV l))))]⟩]) (.inl rfl) rfl (bI (aZ _)) (by decide) (fun _ h=>by cases h) ⟨⟨rfl,rfl⟩,trivial⟩ ⟨rfl,trivial⟩ ⟨rfl,trivial⟩ (fun h=>by cases h) ⟨rfl,congrArg (fun b=>FV.one (tv (.bool b))) (by unfold jF oI;simp only[hfk,h3,h4,h5,h6] <;> first | rfl | (simp;done) | (simp;omega) | (simp;exact fun h=>absurd (by omega) h))⟩
   (iterate 3 refine o1 ?_);refine ld ?_;refine o1 ?_ (hC:=(by rw[aH];exact sG (Fu h4)))
   refine WL.cast (t:=69) (u':=.int .u8 (((nth (wh (aV l)) 0):Nat):Int)) rfl (congrArg (fun n:Nat=>Value.int .u8 (n:Int)) (lD (i:=0) (sG (Fu h4)) (nP vK (sG (Fu h4))))) ?_
   (iterate 4 refine o1 ?_);refine WL.split (t:=73) rfl (fun h8=>?_) (fun h8=>?_)
   ·(iterate 3 refine o1 ?_);refine ld ?_;refine o1 ?_;refine WL.splitb (t:=78) rfl (fun h9=>?_) (fun h9=>?_)
    ·refine o1 ?_;refine o1 ?_;refine WL.splitb (t:=80) rfl (fun h10=>?_) (fun h10=>?_)
     ·(iterate 3 refine o1 ?_);refine nl ?_;refine rt ?_
      exact jI (lent':=[⟨103,0,[tv (.string (aA (rr (aV l)))),tv (.bool (fK l)),tv (.string (aA (wh (aV l)))),tv (.string (aA (pl (aV l))))]⟩]) (.inl rfl) rfl (bI (aZ _)) (by decide) (fun _ h=>by cases h) ⟨⟨rfl,rfl⟩,trivial⟩ ⟨rfl,trivial⟩ ⟨rfl,trivial⟩ (fun h=>by cases h) ⟨rfl,congrArg (fun b=>FV.one (tv (.bool b))) (by unfold jF oI;simp only[hfk,h3,h4,h5,decide_eq_true h8,h9,h10] <;> first | rfl | (simp;done) | (simp;omega) | (simp;exact fun h=>absurd (by omega) h))⟩
     (iterate 3 refine o1 ?_);refine nl ?_;refine rt ?_
     exact jI (lent':=[⟨103,0,[tv (.string (aA (rr (aV l)))),tv (.bool (fK l)),tv (.string (aA (wh (aV l)))),tv (.string (aA (pl (aV l))))]⟩]) (.inl rfl) rfl (bI (aZ _)) (by decide) (fun _ h=>by cases h) ⟨⟨rfl,rfl⟩,trivial⟩ ⟨rfl,trivial⟩ ⟨rfl,trivial⟩ (fun h=>by cases h) ⟨rfl,congrArg (fun b=>FV.one (tv (.bool b))) (by unfold jF oI;simp only[hfk,h3,h4,h5,decide_eq_true h8,h9,h10] <;> first | rfl | (simp;done) | (simp;omega) | (simp;exact fun h=>absurd (by omega) h))⟩
    refine dE ?_;(iterate 4 refine o1 ?_);refine nl ?_;refine rt ?_
    exact jI (lent':=[⟨103,0,[tv (.string (aA (rr (aV l)))),tv (.bool (fK l)),tv (.string (aA (wh (aV l)))),tv (.string (aA (pl (aV l))))]⟩]) (.inl rfl) rfl (bI (aZ _)) (by decide) (fun _ h=>by cases h) ⟨⟨rfl,rfl⟩,trivial⟩ ⟨rfl,trivial⟩ ⟨rfl,trivial⟩ (fun h=>by cases h) ⟨rfl,congrArg (fun b=>FV.one (tv (.bool b))) (by unfold jF oI;simp only[hfk,h3,h4,h5,decide_eq_true h8,h9] <;> first | rfl | (simp;done) | (simp;omega) | (simp;exact fun h=>absurd (by omega) h))⟩
   (iterate 8 refine dE ?_);refine o1 ?_;refine o1 ?_;refine nl ?_;refine rt ?_
   exact jI (lent':=[⟨103,0,[tv (.string (aA (rr (aV l)))),tv (.bool (fK l)),tv (.string (aA (wh (aV l)))),tv (.string (aA (pl (aV l))))]⟩]) (.inl rfl) rfl (bI (aZ _)) (by decide) (fun _ h=>by cases h) ⟨⟨rfl,rfl⟩,trivial⟩ ⟨rfl,trivial⟩ ⟨rfl,trivial⟩ (fun h=>by cases h) ⟨rfl,congrArg (fun b=>FV.one (tv (.bool b))) (by unfold jF oI;simp only[hfk,h3,h4,h5,decide_eq_false h8] <;> first | rfl | (simp;done) | (simp;omega) | (simp;exact fun h=>absurd (by omega) h))⟩
  (iterate 13 refine dE ?_);refine o1 ?_;refine o1 ?_;(iterate 8 refine dE ?_);refine o1 ?_;refine o1 ?_;refine nl ?_;refine rt ?_
  exact jI (lent':=[⟨103,0,[tv (.string (aA (rr (aV l)))),tv (.bool (fK l)),tv (.string (aA (wh (aV l)))),tv (.string (aA (pl (aV l))))]⟩]) (.inl rfl) rfl (bI (aZ _)) (by decide) (fun _ h=>by cases h) ⟨⟨rfl,rfl⟩,trivial⟩ ⟨rfl,trivial⟩ ⟨rfl,trivial⟩ (fun h=>by cases h) ⟨rfl,congrArg (fun b=>FV.one (tv (.bool b))) (by unfold jF oI;simp only[hfk,h3,h4] <;> first | rfl | (simp;done) | (simp;omega) | (simp;exact fun h=>absurd (by omega) h))⟩
 (iterate 5 refine dE ?_);refine o1 ?_;refine o1 ?_;(iterate 13 refine dE ?_);refine o1 ?_;refine o1 ?_;(iterate 8 refine dE ?_);refine o1 ?_;refine o1 ?_;refine nl ?_;refine rt ?_
 exact jI (lent':=[⟨103,0,[tv (.string (aA (rr (aV l)))),tv (.bool (fK l)),tv (.string (aA (wh (aV l)))),tv (.string (aA (pl (aV l))))]⟩]) (.inl rfl) rfl (bI (aZ _)) (by decide) (fun _ h=>by cases h) ⟨⟨rfl,rfl⟩,trivial⟩ ⟨rfl,trivial⟩ ⟨rfl,trivial⟩ (fun h=>by cases h) ⟨rfl,congrArg (fun b=>FV.one (tv (.bool b))) (by unfold jF oI;simp only[hfk,h3] <;> first | rfl | (simp;done) | (simp;omega) | (simp;exact fun h=>absurd (by omega) h))⟩
theorem BN {x k:Nat}(h:k≤4096):vN x (k:Int)=x^k:=by
 have e:rH (k:Int)=0:=by
  unfold rH
  rw[if_neg (by omega),if_neg (by omega)]
 unfold vN
 rw[if_pos e,Int.toNat_natCast]
theorem BO {l v p:List Nat}{n:Bool}(hd:∀c∈v++p,48≤c∧c≤57) (hn:(v++p).length≤1000):aE false Tryz.prog 75 [⟨103,0,[tv (.string (aA l)),tv (.bool n),tv (.string (aA v)),tv (.string (aA p))]⟩] [.one (.pt 0 0)] (Rt [⟨103,0,[tv (.string (aA l)),tv (.bool n),tv (.string (aA v)),tv (.string (aA p))]⟩] (qF (.of (Rat.divInt (cP n (bK (v++p))) (((10^p.length):Nat):Int))))):=by
 refine Bj Tryz.func75 rfl Tryz.ntmps75 rfl aB rfl fun N9 M9 w9 c0 h0=>?_
 have hV:Lim 256 (v++p):=fun c hc=>by have:=hd c hc;omega
 have hlv:v.length+p.length=(v++p).length:=(List.length_append).symm
 have hst:=AW hd (by omega)
 have hpw:vN 10 (p.length:Int)=10^p.length:=BN (by omega)
 refine sq ?_;refine rl ?_;refine al 1 ?_;refine nl ?_;refine sq ?_;refine rd [0,1] (fun i=>[10].contains i) mixed ?_
 refine dv 0 ?_;refine dv 1 ?_;refine dv 2 ?_;refine bD 3 ?_;refine dv 4 ?_;refine dv 5 ?_;refine dv 6 ?_;refine bD 7 ?_;refine dv 8 ?_ (hC:=(by rw[aH,aH];omega))
 refine WD.cast (t:=18) (u':=.string (aA (v++p))) rfl (congrArg Value.string (lT _ _)) ?_
 refine aN 9 rfl (vL hV) Pc ⟨a1 rfl,a1 rfl,rfl⟩ (.one (tv (.string (aA ((v++p).dropWhile (· ==48)))))) ?_
 refine gA 10 (by kernel_rfl) rfl rfl aB rfl (by trivial) ?_ (fun h=>by first | rfl | cases h)
 refine bJ ?_
 refine md (γ:=Unit) (fun _=>dD [(0,.one (.pt 0 0)),(2,.one (.pt 1 0)),(3,.one (tv (.string (aA (jJ (v++p))))))]) (fun _=>([⟨103,0,[tv (.string (aA l)),tv (.bool n),tv (.string (aA v)),tv (.string (aA p))]⟩,⟨27,0,[tv (.bool false),tv (.slice none 0 0),tv (.bool false),tv (.slice none 0 0)]⟩]:List Ob).map some) (fun _=>True) ?_ fun _ _=>?_
 ·refine sq ?_;refine rl ?_;refine o1 ?_;refine o1 ?_;refine WL.cast (t:=21) (u':=.bool (decide (((v++p).dropWhile (· ==48))=[]))) rfl (congrArg Value.bool (gJ (iY hV))) ?_
  refine nl ?_;refine jG rfl (fun h1=>?_) (fun h1=>?_)
  ·refine rl ?_;refine o1 ?_;refine nl ?_
   exact⟨(),trivial,Bt h0 [0,1] _ _ (by decide) rfl ⟨rfl,rfl,(congrArg (fun b=>some (FV.one (tv (.string (aA b))))) (show(jJ (v++p))=[48] by unfold jJ;rw[if_pos (of_decide_eq_true h1)])),trivial⟩ ⟨oe rfl rfl,oe rfl rfl,rfl⟩⟩
  refine sk ?_
  exact⟨(),trivial,Bt h0 [0,1] _ _ (by decide) rfl ⟨rfl,rfl,(congrArg (fun b=>some (FV.one (tv (.string (aA b))))) (show(jJ (v++p))=((v++p).dropWhile (· ==48)) by unfold jJ;rw[if_neg (of_decide_eq_false h1)])),trivial⟩ ⟨oe rfl rfl,oe rfl rfl,rfl⟩⟩
 refine sq ?_;refine rl ?_;refine o1 ?_
 refine ca (Vr (l:=(jJ (v++p))) (Vi hV) (Nat.le_trans Gl (by omega))) DQ ⟨a1 rfl,rfl⟩ (.tup [.one (.t (sU false (dg 4294967296 (Gj (jJ (v++p)))))),.one (tv (.int .i64 (pZ (jJ (v++p)))))]) ?_
 (iterate 5 refine o1 ?_);refine nl ?_;refine sq ?_;refine rl ?_;(iterate 3 refine o1 ?_);refine ld ?_;refine o1 ?_
 refine WL.cast (t:=32) (u':=.int .i64 ((p.length:Nat):Int)) rfl (congrArg (fun n:Nat=>Value.int .i64 (n:Int)) (aH _)) ?_
 refine ca (FD (x:=10) (n:=(p.length:Int)) (by omega)) DR ⟨a1 rfl,a1 rfl,rfl⟩ (.tup [.one (.t (sU false (dg 4294967296 (vN 10 (p.length:Int))))),.one (tv (.int .i64 (rH (p.length:Int))))]) ?_
 (iterate 5 refine o1 ?_);refine nl ?_;refine sq ?_;refine rl ?_;(iterate 3 refine o1 ?_);refine ld ?_;(iterate 4 refine o1 ?_)
 refine ca (Hf (a:=⟨n,(dg 4294967296 (Gj (jJ (v++p))))⟩) (b:=⟨false,(dg 4294967296 (vN 10 (p.length:Int)))⟩) (k:=cP n (bK (v++p))) (k':=(((10^p.length):Nat):Int)) ⟨bC (by omega) _,by dsimp only;rw[hst.2];exact Nat.le_trans (Cq hd) (by omega),by dsimp only;rw[hst.2];exact Vj n _⟩ ⟨bC (by omega) _,by dsimp only;rw[hpw];exact Nat.le_trans (vW _) (by omega),by dsimp only;rw[hpw];exact jS _⟩) Oa ⟨aD rfl,aD rfl,rfl⟩ (.tup [qF (.of (Rat.divInt (cP n (bK (v++p))) (((10^p.length):Nat):Int))),.one (tv (.int .i64 (if(((10^p.length):Nat):Int)=0 then 20 else 0)))]) ?_
 (iterate 3 refine o1 ?_);refine al 2 ?_;refine st ?_;refine o1 ?_;refine nl ?_;refine sq ?_;refine rl ?_;refine ld ?_;refine st ?_;refine nl ?_;refine rt ?_
 exact jI (lent':=[⟨103,0,[tv (.string (aA l)),tv (.bool n),tv (.string (aA v)),tv (.string (aA p))]⟩]) (.inl rfl) rfl (bI (.agg (.cons (.id rfl) (.cons (.id rfl) (.cons (.id rfl) (.cons (.id rfl) .nil)))))) (by decide) (fun _ h=>by cases h) ⟨⟨rfl,rfl⟩,trivial⟩ ⟨rfl,trivial⟩ ⟨rfl,trivial⟩ (fun h=>by cases h) ⟨rfl,rfl⟩
theorem Si {l:List Nat}{m:Nat}(h:jF l=false∨m<(pl (aV l)).length):dU l m=60:=by
 unfold dU
 rw[if_neg]
 rintro⟨h1,h2⟩
 rcases h with h | h
 ·rw[h]at h1;cases h1
 omega
theorem IT {l:List Nat}{m:Nat}(h:jF l=true) (h2:(pl (aV l)).length≤m) (h3:40<(wh (aV l)).length+(pl (aV l)).length):dU l m=3:=by
 unfold dU
 rw[if_pos ⟨h,h2⟩,if_pos h3]
theorem IU {l:List Nat}{m:Nat}(h:jF l=true) (h2:(pl (aV l)).length≤m) (h3:¬40<(wh (aV l)).length+(pl (aV l)).length):dU l m=0:=by
 unfold dU
 rw[if_pos ⟨h,h2⟩,if_neg h3]
theorem xH {l:List Nat}{m:Nat}(hl:Lim 256 l) (hn:l.length≤1000000):aE false Tryz.prog 31 [] [.one (tv (.string (aA l))),.one (tv (.int .i64 ((m:Nat):Int)))] (aI (.tup [qF (.of (cL l m)),.one (tv (.int .i64 (dU l m)))])):=by
 refine bQ Tryz.func31 rfl Tryz.ntmps31 rfl aB rfl fun N9 w9 c0 h0=>?_
 have hwl:=Cm (aV l)
 have hnL:=Nat.le_trans (xE (l:=l)) hn
 refine sq ?_;refine rl ?_;refine al 0 ?_;refine o1 ?_;refine nl ?_;refine sq ?_;refine rl ?_;(iterate 3 refine o1 ?_);refine bx 1 ?_;refine o1 ?_;refine nl ?_;refine sq ?_;refine bl ?_
 refine sq ?_;refine rl ?_;refine o1 ?_
 refine cl 2 [1] (BM hl hn) FG ⟨oe rfl rfl,rfl⟩ ⟨rfl,rfl⟩ (ok:=[some ⟨103,0,[tv (.string (aA (rr (aV l)))),tv (.bool (fK l)),tv (.string (aA (wh (aV l)))),tv (.string (aA (pl (aV l))))]⟩]) ⟨oe rfl rfl,rfl⟩ ?_
 refine WL.splitb (t:=13) rfl (fun h1=>?_) (fun h1=>?_)
 ·(iterate 5 refine o1 ?_);refine ld ?_;refine o1 ?_
  refine WL.cast (t:=20) (u':=.int .i64 (((pl (aV l)).length:Nat):Int)) rfl (congrArg (fun n:Nat=>Value.int .i64 (n:Int)) (aH _)) ?_
  (iterate 4 refine o1 ?_);refine nl ?_;refine cY rfl (fun h2=>?_) (fun h2=>?_)
  ·refine sq ?_;refine rl ?_;refine ca (cC (z:=0) (by omega) (by omega)) eM ⟨a1 rfl,rfl⟩ (qF (.of ((0:Int):Rat))) ?_
   refine st ?_;refine o1 ?_;refine nl ?_;refine rt ?_;have he:dU l m=60:=Si (.inr (by omega))
   have hq:cL l m=((0:Int):Rat):=(if_neg (by rw[he];decide))
   exact en (.inl rfl) rfl (dP (.cons (.agg (.cons (.id rfl) (.cons (.id rfl) (.cons (.id rfl) (.cons (.id rfl) .nil))))) (.cons (aZ _) .nil))) (by decide) (fun h=>by cases h) (by rw[he,hq];rfl)
  refine sq ?_;refine rd [0,1] (fun i=>[].contains i) mixed ?_
  refine dv 0 ?_;refine dv 1 ?_;refine dv 2 ?_;refine bD 3 ?_;refine dv 4 ?_
  refine WD.cast (t:=30) (u':=.int .i64 (((wh (aV l)).length:Nat):Int)) rfl (congrArg (fun n:Nat=>Value.int .i64 (n:Int)) (aH _)) ?_
  refine dv 5 ?_;refine dv 6 ?_;refine dv 7 ?_;refine bD 8 ?_;refine dv 9 ?_
  refine WD.cast (t:=35) (u':=.int .i64 (((pl (aV l)).length:Nat):Int)) rfl (congrArg (fun n:Nat=>Value.int .i64 (n:Int)) (aH _)) ?_
  refine dv 10 ?_;refine WD.cast (t:=36) (u':=.int .i64 (((wh (aV l)).length+((pl (aV l)).length):Nat):Int)) rfl (bO (by omega)) ?_
  refine dv 11 ?_;refine gA 12 (by kernel_rfl) rfl rfl aB rfl (by trivial) ?_ (fun h=>by first | rfl | cases h)
  refine bJ ?_;refine cY rfl (fun h3=>?_) (fun h3=>?_)
  ·refine sq ?_;refine rl ?_;refine ca (cC (z:=0) (by omega) (by omega)) eM ⟨a1 rfl,rfl⟩ (qF (.of ((0:Int):Rat))) ?_
   refine st ?_;refine o1 ?_;refine nl ?_;refine rt ?_;have he:dU l m=3:=IT h1 (by omega) (by omega)
   have hq:cL l m=((0:Int):Rat):=(if_neg (by rw[he];decide))
   exact en (.inl rfl) rfl (dP (.cons (.agg (.cons (.id rfl) (.cons (.id rfl) (.cons (.id rfl) (.cons (.id rfl) .nil))))) (.cons (aZ _) .nil))) (by decide) (fun h=>by cases h) (by rw[he,hq];rfl)
  refine sk ?_;refine sq ?_;refine rl ?_;refine o1 ?_
  refine cl 2 [1] (BO (l:=(rr (aV l))) (n:=(fK l)) (v:=(wh (aV l))) (p:=(pl (aV l))) (Pv _) (by rw[List.length_append];omega)) FH ⟨oe rfl rfl,rfl⟩ ⟨rfl,rfl⟩ (ok:=[some ⟨103,0,[tv (.string (aA (rr (aV l)))),tv (.bool (fK l)),tv (.string (aA (wh (aV l)))),tv (.string (aA (pl (aV l))))]⟩]) ⟨oe rfl rfl,rfl⟩ ?_
  refine st ?_;refine o1 ?_;refine nl ?_;refine rt ?_;have he:dU l m=0:=IU h1 (by omega) (by omega)
  have hq:cL l m=Em l:=if_pos he
  exact en (.inl rfl) rfl (dP (.cons (.agg (.cons (.id rfl) (.cons (.id rfl) (.cons (.id rfl) (.cons (.id rfl) .nil))))) (.cons (aZ _) .nil))) (by decide) (fun h=>by cases h) (by rw[he,hq];rfl)
 refine o1 ?_;refine o1 ?_;(iterate 7 refine dE ?_);refine o1 ?_;refine o1 ?_;refine nl ?_;refine jH rfl ?_;refine sq ?_;refine rl ?_
 refine ca (cC (z:=0) (by omega) (by omega)) eM ⟨a1 rfl,rfl⟩ (qF (.of ((0:Int):Rat))) ?_
 refine st ?_;refine o1 ?_;refine nl ?_;refine rt ?_;have he:dU l m=60:=Si (.inl h1)
 have hq:cL l m=((0:Int):Rat):=(if_neg (by rw[he];decide))
 exact en (.inl rfl) rfl (dP (.cons (.agg (.cons (.id rfl) (.cons (.id rfl) (.cons (.id rfl) (.cons (.id rfl) .nil))))) (.cons (aZ _) .nil))) (by decide) (fun h=>by cases h) (by rw[he,hq];rfl)
theorem rR {l:List Nat}(hl:Lim 256 l) (hn:l.length≤1000000):aE false Tryz.prog 8 [] [.one (tv (.string (aA l)))] (aI (.tup [qF (.of (cL l l.length)),.one (tv (.int .i64 (dU l l.length)))])):=by
 refine bQ Tryz.func8 rfl Tryz.ntmps8 rfl aB rfl fun N9 w9 c0 h0=>?_
 refine sq ?_;refine rl ?_;refine al 0 ?_;refine o1 ?_;refine nl ?_;refine sq ?_;refine rl ?_;(iterate 3 refine o1 ?_)
 refine WL.cast (t:=6) (u':=.int .i64 ((l.length:Nat):Int)) rfl (congrArg (fun n:Nat=>Value.int .i64 (n:Int)) (aH _)) ?_
 refine ca (xH (l:=l) (m:=l.length) hl hn) Pb ⟨a1 rfl,a1 rfl,rfl⟩ (.tup [qF (.of (cL l l.length)),.one (tv (.int .i64 (dU l l.length)))]) ?_;refine o1 ?_;refine o1 ?_;refine st ?_
 refine o1 ?_;refine nl ?_;refine rt ?_
 exact en (.inl rfl) rfl (dP (.cons (.agg (.cons (.id rfl) (.cons (.id rfl) (.cons (.id rfl) (.cons (.id rfl) .nil))))) (.cons (aZ _) .nil))) (by decide) (fun h=>by cases h) rfl
theorem Ah {l:List Nat}(hl:Lim 256 l) (hn:l.length≤1000000):aE false Tryz.prog 9 [] [.one (tv (.string (aA l)))] (aI (.tup [qF (.of (cL l 2)),.one (tv (.int .i64 (dU l 2)))])):=by
 refine bQ Tryz.func9 rfl Tryz.ntmps9 rfl aB rfl fun N9 w9 c0 h0=>?_
 refine sq ?_;refine rl ?_;refine al 0 ?_;refine o1 ?_;refine nl ?_;refine sq ?_;refine rl ?_;refine o1 ?_
 refine ca (xH (l:=l) (m:=2) hl hn) Pb ⟨a1 rfl,a1 rfl,rfl⟩ (.tup [qF (.of (cL l 2)),.one (tv (.int .i64 (dU l 2)))]) ?_;refine o1 ?_;refine o1 ?_;refine st ?_;refine o1 ?_
 refine nl ?_;refine rt ?_
 exact en (.inl rfl) rfl (dP (.cons (.agg (.cons (.id rfl) (.cons (.id rfl) (.cons (.id rfl) (.cons (.id rfl) .nil))))) (.cons (aZ _) .nil))) (by decide) (fun h=>by cases h) rfl
def eB (l:List Nat):Int:=if hH 37 l=true∧dU (cK 37 l) 4=0∧0≤(cL (cK 37 l) 4)∧(cL (cK 37 l) 4)≤((100:Int):Rat)then 0 else 60
def aP (l:List Nat):Rat:=if eB l=0 then(cL (cK 37 l) 4)/((100:Int):Rat)else 0
theorem zL {l:List Nat}(h:hH 37 l=false∨dU (cK 37 l) 4≠0∨(cL (cK 37 l) 4)<0∨((100:Int):Rat)<(cL (cK 37 l) 4)):eB l=60:=by
 unfold eB
 rw[if_neg]
 rintro⟨h1,h2,h3,h4⟩
 rcases h with h | h | h | h
 ·rw[h]at h1;cases h1
 ·exact h h2
 ·exact Rat.not_lt.2 h3 h
 exact Rat.not_lt.2 h4 h
theorem BP {l:List Nat}(h1:hH 37 l=true) (h2:dU (cK 37 l) 4=0) (h3:¬(cL (cK 37 l) 4)<0) (h4:¬((100:Int):Rat)<(cL (cK 37 l) 4)):eB l=0:=if_pos ⟨h1,h2,Rat.not_lt.1 h3,Rat.not_lt.1 h4⟩
theorem BQ {l:List Nat}(h:(wh (aV l)).length+(pl (aV l)).length≤40):Sz 41 (Em l):=by
 have h1:=Cq (Pv (aV l))
 rw[List.length_append]at h1
 have h2:=vW (pl (aV l)).length
 have h3:0<10^(pl (aV l)).length:=Nat.pow_pos (by omega)
 have h5:=gL (a:=cP (fK l) (bK (wh (aV l)++pl (aV l)))) (b:=((10^(pl (aV l)).length:Nat):Int)) (L:=41) (M:=41) (by omega) (by unfold kQ;cases fK l <;> simp only[cP,if_true,if_false,Bool.false_eq_true,Int.natAbs_neg,Int.natAbs_natCast] <;> omega) (by unfold kQ;rw[Int.natAbs_natCast];omega)
 exact⟨h5.1,h5.2⟩
theorem nM (l:List Nat) (m:Nat):Sz 41 (cL l m):=by
 unfold cL
 split
 ·rename_i h
  refine BQ ?_
  unfold dU at h
  split at h
  ·split at h
   ·cases h
   omega
  cases h
 exact(cV (z:=0) (by omega) (by omega)).mono (by omega)
theorem fW {l:List Nat}(hl:Lim 256 l) (hn:l.length≤1000000):aE false Tryz.prog 10 [] [.one (tv (.string (aA l)))] (aI (.tup [qF (.of (aP l)),.one (tv (.int .i64 (eB l)))])):=by
 refine bQ Tryz.func10 rfl Tryz.ntmps10 rfl aB rfl fun N9 w9 c0 h0=>?_
 have hX:Sz 68719476736 (cL (cK 37 l) 4):=(nM _ 4).mono (by omega)
 refine sq ?_;refine rl ?_;refine al 0 ?_;refine o1 ?_;refine nl ?_;refine sq ?_;refine rl ?_;refine o1 ?_
 refine ca (Cw hl (by omega)) IB ⟨a1 rfl,a1 rfl,rfl⟩ (.tup [.one (tv (.string (aA (cK 37 l)))),.one (tv (.bool (hH 37 l)))]) ?_
 (iterate 5 refine o1 ?_);refine nl ?_;refine sq ?_;refine rl ?_;refine o1 ?_
 refine ca (xH (l:=(cK 37 l)) (m:=4) (Kd hl) (Nat.le_trans Ac hn)) Pb ⟨a1 rfl,a1 rfl,rfl⟩ (.tup [qF (.of (cL (cK 37 l) 4)),.one (tv (.int .i64 (dU (cK 37 l) 4)))]) ?_
 (iterate 3 refine o1 ?_);refine al 1 ?_;refine st ?_;refine o1 ?_;refine nl ?_;refine sq ?_;refine sq ?_;refine rd [0,1] (fun i=>[].contains i) mixed ?_
 refine dv 0 ?_;refine WD.splitb (t:=18) rfl (fun h1=>?_) (fun h1=>?_)
 ·refine dv 1 ?_;refine dv 2 ?_;refine dv 3 ?_;refine dv 4 ?_;refine dv 5 ?_;refine dv 6 ?_;refine WD.split (t:=24) rfl rfl (fun h2=>?_) (fun h2=>?_)
  ·refine bF 7 ?_;refine bF 8 ?_;refine bF 9 ?_;refine dv 10 ?_;refine dv 11 ?_;refine bF 12 ?_;refine bF 13 ?_;refine bF 14 ?_;refine bF 15 ?_;refine dv 16 ?_;refine bJ ?_
   refine jH rfl ?_;refine sq ?_;refine rl ?_;refine ca (cC (z:=0) (by omega) (by omega)) eM ⟨a1 rfl,rfl⟩ (qF (.of ((0:Int):Rat))) ?_
   refine st ?_;refine o1 ?_;refine nl ?_;refine rt ?_;have he:eB l=60:=zL (.inr (.inl (by omega)))
   have hq:aP l=((0:Int):Rat):=if_neg (by rw[he];decide)
   exact en (.inl rfl) rfl (dP (.cons (.agg (.cons (.id rfl) (.cons (.id rfl) (.cons (.id rfl) (.cons (.id rfl) .nil))))) (.cons (aZ _) .nil))) (by decide) (fun h=>by cases h) (by rw[he,hq];rfl)
  refine bD 7 ?_;refine aN 8 rfl (qE (Qn.of (p:=(cL (cK 37 l) 4)) hX)) Ab ⟨aD rfl,rfl⟩ (.one (tv (.int .i64 (cL (cK 37 l) 4).num.sign))) ?_;refine df 9 ?_;refine df 10 ?_
  refine df 11 ?_;refine WD.split (t:=29) rfl rfl (fun h3=>?_) (fun h3=>?_)
  ·refine bF 12 ?_;refine bF 13 ?_;refine bF 14 ?_;refine bF 15 ?_;refine df 16 ?_;refine bJ ?_;refine jH rfl ?_;refine sq ?_;refine rl ?_
   refine ca (cC (z:=0) (by omega) (by omega)) eM ⟨a1 rfl,rfl⟩ (qF (.of ((0:Int):Rat))) ?_
   refine st ?_;refine o1 ?_;refine nl ?_;refine rt ?_;have he:eB l=60:=zL (.inr (.inr (.inl (lH.1 (Int.sign_neg_iff.1 h3)))))
   have hq:aP l=((0:Int):Rat):=if_neg (by rw[he];decide)
   exact en (.inl rfl) rfl (dP (.cons (.agg (.cons (.id rfl) (.cons (.id rfl) (.cons (.id rfl) (.cons (.id rfl) .nil))))) (.cons (aZ _) .nil))) (by decide) (fun h=>by cases h) (by rw[he,hq];rfl)
  refine bD 12 ?_;refine aN 13 rfl (cC (z:=100) (by omega) (by omega)) eM ⟨a1 rfl,rfl⟩ (qF (.of ((100:Int):Rat))) ?_
  refine aN 14 rfl (iU (Qn.of (p:=(cL (cK 37 l) 4)) hX) (Qn.of (p:=((100:Int):Rat)) (cV (by omega) (by omega)))) iV ⟨aD rfl,aD rfl,rfl⟩ (.one (tv (.int .i64 ((cL (cK 37 l) 4)-((100:Int):Rat)).num.sign))) ?_
  refine df 15 ?_;refine df 16 ?_;refine bJ ?_;refine cY rfl (fun h4=>?_) (fun h4=>?_)
  ·refine sq ?_;refine rl ?_;refine ca (cC (z:=0) (by omega) (by omega)) eM ⟨a1 rfl,rfl⟩ (qF (.of ((0:Int):Rat))) ?_
   refine st ?_;refine o1 ?_;refine nl ?_;refine rt ?_;have he:eB l=60:=zL (.inr (.inr (.inr (Qm h4))))
   have hq:aP l=((0:Int):Rat):=if_neg (by rw[he];decide)
   exact en (.inl rfl) rfl (dP (.cons (.agg (.cons (.id rfl) (.cons (.id rfl) (.cons (.id rfl) (.cons (.id rfl) .nil))))) (.cons (aZ _) .nil))) (by decide) (fun h=>by cases h) (by rw[he,hq];rfl)
  refine sk ?_;refine sq ?_;refine rd [0] (fun i=>[].contains i) mixed ?_
  refine WO.two (i:=0) (j:=1) (by kernel_rfl) ?_ ?_
  ·refine eC 0 ?_;refine aN 1 rfl (cC (z:=100) (by omega) (by omega)) eM ⟨a1 rfl,rfl⟩ (qF (.of ((100:Int):Rat))) ?_
   refine aN 2 rfl (yV (Qn.of (p:=(cL (cK 37 l) 4)) hX) (Qn.of (p:=((100:Int):Rat)) (cV (by omega) (by omega)))) Hg ⟨aD rfl,aD rfl,rfl⟩ (.tup [qF (.of ((cL (cK 37 l) 4)/((100:Int):Rat))),.one (tv (.int .i64 (if((100:Int):Rat)=0 then 20 else 0)))]) ?_
   refine df 3 ?_;refine df 4 ?_;refine df 5 ?_;refine cF 6 (by kernel_rfl) rfl rfl aB rfl rfl rfl rfl ⟨rfl,trivial⟩ ?_
   refine bJ ?_;refine sq ?_;refine rl ?_;refine ld ?_;refine st ?_;refine o1 ?_;refine nl ?_;refine rt ?_
   have he:eB l=0:=BP h1 (by omega) (fun h9=>h3 (Int.sign_neg_iff.2 (lH.2 h9))) (fun h9=>h4 (Xm h9))
   have hq:aP l=(cL (cK 37 l) 4)/((100:Int):Rat):=if_pos he
   exact en (.inl rfl) rfl (dP (.cons (.agg (.cons (.id rfl) (.cons (.id rfl) (.cons (.id rfl) (.cons (.id rfl) .nil))))) (.cons (aZ _) .nil))) (by decide) (fun h=>by cases h) (by rw[he,hq];rfl)
  refine iA 1 rfl (cC (z:=100) (by omega) (by omega)) eM ⟨a1 rfl,rfl⟩ (qF (.of ((100:Int):Rat))) ?_
  refine WO.one (by kernel_rfl) (eC 0 ?_)
  refine aN 2 rfl (yV (Qn.of (p:=(cL (cK 37 l) 4)) hX) (Qn.of (p:=((100:Int):Rat)) (cV (by omega) (by omega)))) Hg ⟨aD rfl,aD rfl,rfl⟩ (.tup [qF (.of ((cL (cK 37 l) 4)/((100:Int):Rat))),.one (tv (.int .i64 (if((100:Int):Rat)=0 then 20 else 0)))]) ?_
  refine df 3 ?_;refine df 4 ?_;refine df 5 ?_;refine cF 6 (by kernel_rfl) rfl rfl aB rfl rfl rfl rfl ⟨rfl,trivial⟩ ?_
  refine bJ ?_;refine sq ?_;refine rl ?_;refine ld ?_;refine st ?_;refine o1 ?_;refine nl ?_;refine rt ?_
  have he:eB l=0:=BP h1 (by omega) (fun h9=>h3 (Int.sign_neg_iff.2 (lH.2 h9))) (fun h9=>h4 (Xm h9))
  have hq:aP l=(cL (cK 37 l) 4)/((100:Int):Rat):=if_pos he
  exact en (.inl rfl) rfl (dP (.cons (.agg (.cons (.id rfl) (.cons (.id rfl) (.cons (.id rfl) (.cons (.id rfl) .nil))))) (.cons (aZ _) .nil))) (by decide) (fun h=>by cases h) (by rw[he,hq];rfl)
 refine dv 1 ?_;refine dv 2 ?_;refine bF 3 ?_;refine bF 4 ?_;refine dv 5 ?_;refine dv 6 ?_;refine bF 7 ?_;refine bF 8 ?_;refine bF 9 ?_;refine dv 10 ?_;refine dv 11 ?_
 refine bF 12 ?_;refine bF 13 ?_;refine bF 14 ?_;refine bF 15 ?_;refine dv 16 ?_;refine bJ ?_;refine jH rfl ?_;refine sq ?_;refine rl ?_
 refine ca (cC (z:=0) (by omega) (by omega)) eM ⟨a1 rfl,rfl⟩ (qF (.of ((0:Int):Rat))) ?_
 refine st ?_;refine o1 ?_;refine nl ?_;refine rt ?_;have he:eB l=60:=zL (.inl h1)
 have hq:aP l=((0:Int):Rat):=if_neg (by rw[he];decide)
 exact en (.inl rfl) rfl (dP (.cons (.agg (.cons (.id rfl) (.cons (.id rfl) (.cons (.id rfl) (.cons (.id rfl) .nil))))) (.cons (aZ _) .nil))) (by decide) (fun h=>by cases h) (by rw[he,hq];rfl)
theorem yJ {P:Program}{w w':World}{t t2 ty e:TypeId}{ii:TypeInfo}{z bb o n cp m c q:Nat}{A:Option Addr}{cells:List Value}(hm:Nat.min m n=q) (hu:P.underlying t=some (.slice e)) (hi:P.info? e=some ii) (hsz:ii.size=z)
  (hl:(Builtin.firstCells z q (.slice A m c)).run P w=.ok cells.toArray w) (hst:(storeCells ⟨bb,o,none⟩ cells).run P w=.ok () w'):
  (Builtin.copy_ #[t,t2] ty #[.slice (some ⟨bb,o,none⟩) n cp,.slice A m c]).run P w=.ok (.int .i64 (q:Int)) w':=by
 simp[Builtin.copy_,run_underlying hu,Builtin.lenOf,sizeOf,typeInfo,hi,hsz,hm,hl,hst]
 rfl
theorem Ng {P:Program}{w:World}{t t2 ty e:TypeId}{ii:TypeInfo}{z m c q:Nat}{A:Option Addr}{cells:Array Value}(hm:Nat.min m 0=q) (hu:P.underlying t=some (.slice e)) (hi:P.info? e=some ii) (hsz:ii.size=z)
  (hl:(Builtin.firstCells z q (.slice A m c)).run P w=.ok cells w):
  (Builtin.copy_ #[t,t2] ty #[.slice none 0 0,.slice A m c]).run P w=.ok (.int .i64 (q:Int)) w:=by
 obtain rfl:q=0:=hm.symm.trans (Nat.min_zero m)
 simp[Builtin.copy_,run_underlying hu,Builtin.lenOf,sizeOf,typeInfo,hi,hsz]
 rw[hl]
 rfl
theorem Qd {P:Program}{w:World}{B z m c nn:Nat}{A:Option Addr}{us:List Value}(h:Rd w B z A m c us) (hn:nn≤m):(Builtin.firstCells z nn (.slice A m c)).run P w=.ok (us.take (nn*z)).toArray w:=by
 have hl:(us.take (nn*z)).length=nn*z:=by rw[List.length_take,h.len];exact Nat.min_eq_left (Nat.mul_le_mul_right z hn)
 cases A with
 | none=>
  have h0:m=0:=by
   rcases Nat.eq_zero_or_pos m with h0 | h0
   ·exact h0
   obtain⟨ad,e,_⟩:=h.cell h0
   cases e
  have:nn=0:=by omega
  subst this
  simp[Builtin.firstCells]
 | some ad=>
  have key:=run_loadCells_list (P:=P) w ad (us.take (nn*z)) ?_
  ·rw[hl]at key
   exact key
  intro j v hj
  have hm:0<m:=by
   rcases Nat.eq_zero_or_pos m with h0 | h0
   ·subst h0
    have h1:=h.len
    have h2:us=[]:=List.eq_nil_of_length_eq_zero (by simpa using h1)
    rw[h2]at hj
    simp at hj
   exact h0
  obtain⟨ad',e,_,h3⟩:=h.cell hm
  injection e with e
  subst e
  rw[List.getElem?_take]at hj
  split at hj
  ·exact h3 j v hj
  cases hj
theorem Dg:∀{l:List AV}(k:Nat),eD l=true→eD (l.take k)=true
 | [],k,_=>by rw[List.take_nil];rfl
 | _::_,0,_=>rfl
 | a::l,k+1,h=>by
  simp only[eD,Bool.and_eq_true]at h
  simp only[List.take_succ_cons,eD,Bool.and_eq_true]
  exact⟨h.1,Dg k h.2⟩
theorem vQ:∀{l:List AV}(k:Nat),cH l=true→cH (l.take k)=true
 | [],k,_=>by rw[List.take_nil];rfl
 | _::_,0,_=>rfl
 | a::l,k+1,h=>by
  simp only[cH,Bool.and_eq_true]at h
  simp only[List.take_succ_cons,cH,Bool.and_eq_true]
  exact⟨h.1,vQ k h.2⟩
section
variable {x:Cx}{g:Nat→FV}{ob:List (Option Ob)}{T:List (Nat×TI)}{d:Nat}{ty:TypeId}{pos:String}{af:Array Edge}{gd:Option (Nat×Bool)}{Q:Post}{ops:Array Oper}{rest:List Oper}
theorem Gt (hT:bG x.P T){t t2 e z by_ n m k o nn:Nat}{zz:Value}{ti:Bool}{ts0:Nat}{z0:List Value}{a b:Operand}{bv:AV}{bo:Ob}{l' news:List AV}(ht:aS T t=some ⟨ti,ts0,z0,.sl e z by_ zz⟩) (ha:lk x.n g a=.one (.sl k o n)) (ho:bN ob k=some bo)
  (hb:lk x.n g b=.one bv) (hs:SrcA ob z bv m news) (hrd:eD news=true) (hlo:cH news=true) (hnn:min m n=nn) (hle:o+nn*z≤bo.l.length) (hput:cE bo.l o (news.take (nn*z))=l'):
  OS x ⟨some d,.call ⟨.builtin .copy, #[a,b], #[t,t2]⟩,ty,pos,af,gd⟩ g ob [k] (fun g' ob2=>g'=aM g d (.one (tv (.int .i64 (nn:Int))))∧ob2=ob.set k (some ⟨bo.t,bo.z,l'⟩)):=by
 subst hput hnn
 obtain⟨ii,hu,hi,hsz⟩:=(bR hT ht).2.2.2.1
 intro cs ts W hR K Q kk
 have hk:=cD ho
 have hp:=hR.lk a
 rw[ha]at hp
 simp only[aR,bB,AR]at hp
 have hbv:=hR.lk b
 rw[hb]at hbv
 obtain⟨A,c,us,e2,hrd',har⟩:=hs.ok hrd hR hbv
 have hone:=kK har hlo
 have hul:us.length=news.length:=dT har
 have hfst:=Qd (P:=x.P) hrd' (Nat.min_le_left m n)
 have hfin:∀cs' W',(Builtin.copy_ #[t,t2] ty #[Act.eval ⟨ts,[]⟩ a,.slice A m c]).run x.P W=.ok (.int .i64 ((min m n:Nat):Int)) W'→RelC x g (ob.set k (some ⟨bo.t,bo.z,cE bo.l o (news.take (min m n*z))⟩)) cs' ts W'→
   (∀d,Aft [k] d ob cs ts W (ob.set k (some ⟨bo.t,bo.z,cE bo.l o (news.take (min m n*z))⟩)) cs' ts W')→Oper.wp x.P ⟨some d,.call ⟨.builtin .copy, #[a,b], #[t,t2]⟩,ty,pos,af,gd⟩ ⟨ts,[]⟩ W K Q:=by
  intro cs' W' hrun m1 m2
  have hrun':(execOp (Act.eval ⟨ts,[]⟩) ⟨some d,.call ⟨.builtin .copy, #[a,b], #[t,t2]⟩,ty,pos,af,gd⟩).run x.P W=.ok (.value (.int .i64 ((min m n:Nat):Int))) W':=by
   simp only[execOp,resolve,invoke,builtin,Sem.run_bind,Sem.run_pure,Result.andThen_ok,List.map_toArray,List.map_cons,List.map_nil,e2,hrun]
  refine cO hrun' ?_
  obtain⟨q1,q2,q3,q4,q5,q6⟩:=m2 (some d)
  exact kk _ _ _ _ _ ⟨rfl,rfl⟩ (m1.put d (dV (by simp only[tv,AR,FR]))) ⟨q1,q2,q3,q4,q5,fun i hi=>Array.getElem?_setIfInBounds_ne (fun e=>hi (by rw[e]))⟩
 cases hbb:(co cs k).b with
 | none=>
  rw[hbb]at hp
  obtain⟨_,h1,h2,h3⟩:=hp
  subst h1 h2
  have e0:cE bo.l 0 (news.take (min m 0*z))=bo.l:=by simp[cE]
  have e1:(⟨bo.t,bo.z,cE bo.l 0 (news.take (min m 0*z))⟩:Ob)=bo:=by rw[e0]
  have e3:ob.set k (some bo)=ob:=by
   apply List.ext_getElem?
   intro j
   rw[List.getElem?_set]
   split
   ·rename_i h
    subst h
    rw[hk]
    simp
    exact(List.getElem?_eq_some_iff.1 hk).1
   rfl
  refine hfin cs W ?_ (by rw[e1,e3];exact hR) (fun d=>by rw[e1,e3];exact⟨.refl,fun _ _ _=>rfl,Nat.le_refl _,fun _ _ _=>rfl,fun _ h=>.inl h,fun _ _=>rfl⟩)
  rw[h3]
  exact Ng rfl hu hi hsz hfst
 | some bb=>
  rw[hbb]at hp
  obtain⟨_,o',cp,h1,_,_,h2,_⟩:=hp
  have hA':ARL W (x.fr W ob cs) cs (news.take (min m n*z)) (us.take (min m n*z)):=lV _ har
  have hlt:(news.take (min m n*z)).length=min m n*z:=by
   rw[List.length_take,←hul,hrd'.len]
   exact Nat.min_eq_left (Nat.mul_le_mul_right z (Nat.min_le_left m n))
  obtain⟨W',c',hst,m1,m2⟩:=hR.over hk hbb hA' (Dg _ hrd) (vQ _ hlo) (by rw[hlt];exact hle)
  rcases Nat.eq_zero_or_pos (min m n)with h0 | h0
  ·-- nothing is written
   have hW:W'=W:=by
    rw[h0,Nat.zero_mul,List.take_zero]at hst
    simp[storeCells]at hst
    exact hst.symm
   subst hW
   refine hfin _ _ ?_ m1 m2
   rw[h1]
   refine yJ rfl hu hi hsz hfst ?_
   rw[h0,Nat.zero_mul,List.take_zero]
   simp[storeCells]
  obtain rfl:=h2 (.inl (by omega))
  refine hfin _ _ ?_ m1 m2
  rw[h1]
  exact yJ rfl hu hi hsz hfst hst
theorem BR {t e by_ k m:Nat}{zz:Value}{ti:Bool}{ts0:Nat}{z0:List Value}{k1 k2:IntKind}{a b:Operand}(hT:bG x.P T) (ht:aS T t=some ⟨ti,ts0,z0,.sl e 4 by_ zz⟩) (ha:lk x.n g a=.one (tv (.int k1 (m:Int)))) (hb:lk x.n g b=.one (tv (.int k2 (m:Int)))) (hby:by_≤128) (hm:m≤1000000) (hk:dF ob k=true):
  OS x ⟨some d,.makeSlice t a b,ty,pos,af,gd⟩ g ob [] (fun g' ob2=>g'=aM g d (.one (.sl k 0 m))∧∃us:List Value,us.length=m*4∧ob2=ob++[some ⟨e,4,us.map tv⟩]):=by
 obtain⟨_,hel⟩:=(bR hT ht).2.2.2
 obtain⟨hu,i,hi,hz,hsize,hby',hzs,hsz⟩:=hel
 subst hby'
 have hk:=Nat.eq_of_beq_eq_true hk
 subst hk
 intro cs ts W hR K Q' kk'
 have e1:=hR.lk a
 rw[ha]at e1
 have e1:=aG e1
 have e2:=hR.lk b
 rw[hb]at e2
 have e2:=aG e2
 have hmul:i.bytes*m≤128*1000000:=Nat.mul_le_mul hby hm
 obtain⟨w',hrun,h1,h2⟩:=run_make_full (P:=x.P) W 0 t e i zz 4 hu hi hz hsize k1 k2 m (by omega) (by unfold maxLen;omega) (Nat.zero_le _)
 have hrun':(execOp (Act.eval ⟨ts,[]⟩) ⟨some d,.makeSlice t a b,ty,pos,af,gd⟩).run x.P W=.ok (.value (.slice (some ⟨W.heap.size,0,none⟩) m m)) w':=by
  simp[execOp,e1,e2,hrun]
 have hul:(madeCells zz.cells (m*4)).toList.length=m*4:=by simp[madeCells]
 generalize (madeCells zz.cells (m*4)).toList=us at h1 hul
 have hbl:Below W.heap.size W w':=(Below.refl _ _).grown h2 (Nat.le_refl _) (fun k hk=>by cases hk)
 rcases h1.2 with⟨hh,_⟩ | ⟨g1,cap,cur,hv,_,hg,hnc,hcm,hcs,htake⟩
 ·injection hh with h3;cases h3
 injection hv with q1 q2 q3
 injection q1 with q1
 injection q1 with q1
 subst q1 q3
 have hlt:W.heap.size<w'.heap.size:=(Array.getElem?_eq_some_iff.1 hg).1
 have hcur:cur.toList=us:=by
  have h9:cur.toList.length=m*4:=by simpa using hcs
  rw[←htake,List.take_of_length_le (by omega)]
 have hS:∀b∈(aF (some ⟨e,4,us.map tv⟩) ⟨some W.heap.size,m,us.map .w⟩).S,W.heap.size≤b∧b<w'.heap.size:=by
  intro b hb
  simp[aF,gQ]at hb
  subst hb
  exact⟨Nat.le_refl _,hlt⟩
 have hown:∀b∈bP (ob++[some ⟨e,4,us.map tv⟩]) (cs++[⟨some W.heap.size,m,us.map .w⟩]),b∈bP ob cs∨W.heap.size≤b:=by
  intro b hb
  unfold bP aC at hb
  rw[List.zipWith_append hR.len,List.flatMap_append,List.mem_append]at hb
  rcases hb with hb | hb
  ·exact .inl hb
  exact .inr (hS b (by simpa using hb)).1
 have m1:RelC x g (ob++[some ⟨e,4,us.map tv⟩]) (cs++[⟨some W.heap.size,m,us.map .w⟩]) ts w':=by
  refine hR.push hbl _ _ ?_ hS (by simp[aF,gQ]) ?_ (fun e=>by cases e)
  ·simp only[aF,mR]
   refine⟨⟨[],?_,by simp[hul]⟩,mQ _,hcm⟩
   rw[List.append_nil,hg,←hcur]
  exact lY (iB _) (nS _)
 refine cO hrun' (kk' _ _ _ _ _ ⟨rfl,us,hul,rfl⟩ (m1.put d ?_) ((Aft.mk .app (fun k _ hk=>kJ hk) hbl.size (fun b hlt _=>hbl.block b hlt) hown (fun _ _=>rfl):Aft [] (some d) ob cs ts W _ _ ts w').then_put _))
 refine dV ?_
 simp only[AR]
 rw[hR.len,eH]
 exact⟨by simp[hR.len],0,m,rfl,Nat.le_refl _,hcm,fun _=>rfl,fun _=>rfl⟩
theorem KK {t e by_ m:Nat}{zz:Value}{ti:Bool}{ts0:Nat}{z0:List Value}{k1 k2:IntKind}{a b:Operand}(key:Nat) (hm:m≤1000000) (k:∀us:List Value,us.length=m*4→WL x ops rest (aM g d (.one (.sl key 0 m))) (ob++[some ⟨e,4,us.map tv⟩]) Q) (hT:bG x.P ttab:=by exact aB) (hw:aO ops x.n g gd=some true:=by rfl)
  (ht:aS ttab t=some ⟨ti,ts0,z0,.sl e 4 by_ zz⟩:=by rfl) (ha:lk x.n g a=.one (tv (.int k1 (m:Int))):=by rfl) (hb:lk x.n g b=.one (tv (.int k2 (m:Int))):=by rfl) (hby:by_≤128:=by decide) (hk:dF ob key=true:=by rfl):WL x ops (⟨some d,.makeSlice t a b,ty,pos,af,gd⟩::rest) g ob Q:=by
 exact eO (BR hT ht ha hb hby hm hk) hw (by rintro _ _ ⟨rfl,us,hus,rfl⟩;exact k us hus)
theorem KL {t t2 e z by_ n m k o nn:Nat}{zz:Value}{ti:Bool}{ts0:Nat}{z0:List Value}{a b:Operand}{bv:AV}{bo:Ob}{l' news:List AV}(hs:SrcA ob z bv m news) (hrd:eD news=true) (hlo:cH news=true) (hnn:min m n=nn) (hle:o+nn*z≤bo.l.length) (hput:cE bo.l o (news.take (nn*z))=l')
  (kk:WL x ops rest (aM g d (.one (tv (.int .i64 (nn:Int))))) (ob.set k (some ⟨bo.t,bo.z,l'⟩)) Q) (hT:bG x.P ttab:=by exact aB) (hw:aO ops x.n g gd=some true:=by rfl) (ht:aS ttab t=some ⟨ti,ts0,z0,.sl e z by_ zz⟩:=by rfl) (ha:lk x.n g a=.one (.sl k o n):=by rfl) (ho:bN ob k=some bo:=by rfl)
  (hb:lk x.n g b=.one bv:=by rfl):WL x ops (⟨some d,.call ⟨.builtin .copy, #[a,b], #[t,t2]⟩,ty,pos,af,gd⟩::rest) g ob Q:=
 eO (Gt hT ht ha ho hb hs hrd hlo hnn hle hput) hw (by rintro _ _ ⟨rfl,rfl⟩;exact kk)
theorem IV {late:Nat→Bool}{fr:List Nat}{fuel:Nat}{listed:Array Bool}{t t2 e z by_ n m k o nn:Nat}{zz:Value}{ti:Bool}{ts0:Nat}{z0:List Value}{a b:Operand}{bv:AV}{bo:Ob}{l' news:List AV}(i:Nat) (hs:SrcA ob z bv m news) (hrd:eD news=true) (hlo:cH news=true) (hnn:min m n=nn) (hle:o+nn*z≤bo.l.length) (hput:cE bo.l o (news.take (nn*z))=l')
  (kk:WD x ops Q late [] (d::fr) true fuel (listed.setIfInBounds i true) (aM g d (.one (tv (.int .i64 (nn:Int))))) (ob.set k (some ⟨bo.t,bo.z,l'⟩))) (hT:bG x.P ttab:=by exact aB) (hr:Region.ready .any ops listed=[i]:=by kernel_rfl) (hi:ops[i]? =some ⟨some d,.call ⟨.builtin .copy, #[a,b], #[t,t2]⟩,ty,pos,af,gd⟩:=by rfl) (hw:aO ops x.n g gd=some true:=by rfl)
  (ht:aS ttab t=some ⟨ti,ts0,z0,.sl e z by_ zz⟩:=by rfl) (ha:lk x.n g a=.one (.sl k o n):=by rfl) (ho:bN ob k=some bo:=by rfl) (hb:lk x.n g b=.one bv:=by rfl):WD x ops Q late [] fr true (fuel+1) listed g ob:=
 Ig i hr hi rfl hw (Gt hT ht ha ho hb hs hrd hlo hnn hle hput) (fun k h=>by cases h) (by rintro _ _ ⟨rfl,rfl⟩;exact⟨⟨_,rfl⟩,fun _ h=>by cases h⟩) (by rintro _ _ ⟨rfl,rfl⟩;exact kk)
end
section
variable {α:Type}{f:α→List Tr}{z k o:Nat}{xs:List α}{x x':α}{us:List Tr}
end
section
variable {x:Cx}{g:Nat→FV}{ob:List (Option Ob)}{ws:List Zi}{z:Zi}{i j k1 e key:Nat}{y a b:AV}
end
def eA (q:Rat):List Tr:=(Fr4.of q).tr false
theorem lO (q:Rat):(eA q).length=4:=rfl
theorem Tc (l:List Rat):l.flatMap eA=(iR l).flatMap (Fr4.tr false):=by
 unfold iR
 rw[List.flatMap_map]
 rfl
theorem Ju {L:Nat}{l:List Rat}(h:∀q∈l,Sz L q) (hL:L≤68719476736):∀x∈iR l,x.ok:=fun x hx=>by
 obtain⟨q,hq,rfl⟩:=List.mem_map.1 hx
 exact(Qn.of (h q hq) hL).1
theorem Xe {L:Nat}{l:List Rat}(h:∀q∈l,Sz L q):∀x∈iR l,Sz L x.q:=fun x hx=>by
 obtain⟨q,hq,rfl⟩:=List.mem_map.1 hx
 rw[Fr4.q_of]
 exact h q hq
section
variable {x:Cx}{g:Nat→FV}{ob:List (Option Ob)}
theorem FK {i k t z n:Nat}{l:List Tr}{fv fv':FV}(t':Nat) (hi:Nat.blt i x.n=true) (hg:g i=fv) (ho:bN ob k=some ⟨t,z,l.map .t⟩) (hz:l.length=n*z) (hf:FzF (.sl k 0 n) (.s false t' z n l) fv fv'):Sub x g ob (aM g i fv') (ob.set k none):=Fc hi hg ho hf (Au t' ho hz)
end
theorem BS {k:Int}:aE true Tryz.prog 137 [] [kF k] (aI (.one (tv (.bool (decide (k%2=0)))))):=by
 refine bQ Tryz.func137 rfl Tryz.ntmps137 rfl aB rfl fun N9 w9 c0 h0=>?_
 refine sq ?_;refine rl ?_;refine bx 0 ?_;refine o1 ?_;refine nl ?_;refine sq ?_;refine rl ?_;refine o1 ?_;refine ld ?_;(iterate 3 refine o1 ?_)
 refine WL.split (t:=7) rfl (fun h1=>?_) (fun h1=>?_)
 ·(iterate 6 refine dE ?_);refine o1 ?_;refine o1 ?_;refine nl ?_;refine rt ?_;have hk0:k.natAbs=0:=(dJ (B:=4294967296) (by omega)).1 (List.eq_nil_of_length_eq_zero (by omega))
  exact gV (.inl rfl) rfl ((decide_eq_true (show k%2=0 by omega)).symm)
 have hk0:k.natAbs≠0:=Nat.pos_iff_ne_zero.1 (uU (B:=4294967296) (u:=k.natAbs) (by omega))
 have hdp:=kD (B:=4294967296) (n:=k.natAbs) (by omega) hk0
 have hn0:nth (dg 4294967296 k.natAbs) 0=k.natAbs%4294967296:=by rw[hdp];rfl
 refine o1 ?_;refine ld ?_;refine o1 ?_;refine xP ([.v (.int .u32 ((nth (dg 4294967296 (k).natAbs) (0):Nat):Int))]) (Ch (dg 4294967296 (k).natAbs) (k:=0) (by omega)) ?_
 refine o1 ?_;refine WL.cast (t:=12) (u':=.int .u32 (((nth (dg 4294967296 (k).natAbs) (0))%2:Nat):Int)) rfl (bO (nN _ 2)) ?_;(iterate 3 refine o1 ?_);refine nl ?_;refine rt ?_
 exact gV (.inl rfl) rfl (decide_eq_decide.2 (show _↔k%2=0 by rw[hn0];omega))
theorem Nh (xs:List Nat):((aJ xs).map AV.t).take (aJ xs).length=(aJ xs).map .t:=List.take_of_length_le (by simp)
def rI (f r d:Int):Bool:=decide (d<2*r)||(decide (d=2*r)&& !decide (f%2=0))
theorem IW {f r d:Int}(h:0<(r+r-d).sign):true=rI f r d:=by
 have:=Int.sign_pos_iff.1 h
 unfold rI
 rw[decide_eq_true (show d<2*r by omega)]
 rfl
theorem IX {f r d:Int}(h:¬0<(r+r-d).sign) (h2:¬(r+r-d).sign=0):false=rI f r d:=by
 have h3:¬0<r+r-d:=fun h9=>h (Int.sign_pos_iff.2 h9)
 have h4:¬r+r-d=0:=fun h9=>h2 (Int.sign_eq_zero_iff_zero.2 h9)
 unfold rI
 rw[decide_eq_false (show¬d<2*r by omega),decide_eq_false (show¬d=2*r by omega)]
 rfl
theorem IY {f r d:Int}(h:¬0<(r+r-d).sign) (h2:(r+r-d).sign=0):(!decide (f%2=0))=rI f r d:=by
 have h4:=Int.sign_eq_zero_iff_zero.1 h2
 unfold rI
 rw[decide_eq_false (show¬d<2*r by omega),decide_eq_true (show d=2*r by omega)]
 rfl
theorem BT {q:Rat}(h:rI (q.num.fdiv (q.den:Int)) (q.num.fmod (q.den:Int)) (q.den:Int)=true):hal q=q.num.fdiv (q.den:Int)+1:=by
 unfold hal
 rw[if_pos]
 unfold rI at h
 simp only[Bool.or_eq_true,Bool.and_eq_true,Bool.not_eq_true',decide_eq_true_eq,decide_eq_false_iff_not]at h
 exact h
theorem BU {q:Rat}(h:rI (q.num.fdiv (q.den:Int)) (q.num.fmod (q.den:Int)) (q.den:Int)=false):hal q=q.num.fdiv (q.den:Int):=by
 unfold hal
 rw[if_neg]
 intro h2
 unfold rI at h
 simp only[Bool.or_eq_false_iff,Bool.and_eq_false_iff,Bool.not_eq_false',decide_eq_true_eq,decide_eq_false_iff_not]at h
 rcases h2 with h2 | ⟨h2,h3⟩
 ·exact h.1 h2
 rcases h.2 with h4 | h4
 ·exact h4 h2
 exact h3 h4
theorem Qe {q:Rat}(h:q.num.fmod (q.den:Int)=0):hal q=q.num.fdiv (q.den:Int):=by
 have hd:(0:Int)<(q.den:Int):=by have:=q.den_pos;omega
 unfold hal
 rw[h,if_neg (by omega)]
theorem Vz {k k':Int}{p:Rat}(hs:Sz 68719476736 p) (hk2:(dg 4294967296 (k').natAbs).length≤68719476736):aE false Tryz.prog 136 [⟨115,1,(aJ (dg 4294967296 (k).natAbs)).map .t⟩,⟨115,1,(aJ (dg 4294967296 (k').natAbs)).map .t⟩] [.agg [tv (.bool (aW (k))),.sl 0 0 (dg 4294967296 (k).natAbs).length],.agg [tv (.bool (aW (k'))),.sl 1 0 (dg 4294967296 (k').natAbs).length],.agg [tv (.bool false),.t (sU false (dg 4294967296 p.den))]] (Rt [⟨115,1,(aJ (dg 4294967296 (k).natAbs)).map .t⟩,⟨115,1,(aJ (dg 4294967296 (k').natAbs)).map .t⟩] (.one (tv (.bool (rI k k' (p.den:Int)))))):=by
 refine Bj Tryz.func136 rfl Tryz.ntmps136 rfl aB rfl fun N9 M9 w9 c0 h0=>?_
 have hka:(dg 4294967296 (k'+k').natAbs).length≤137438953473:=by have:=iH k' k';omega
 have hs2:=hs.2
 have hkd:(dg 4294967296 (k'+k'-(p.den:Int)).natAbs).length≤300000000000:=by
  have h1:=tM (k'+k') (p.den:Int)
  rw[Int.natAbs_natCast]at h1;omega
 refine sq ?_;refine rl ?_;refine bx 2 ?_;refine bx 3 ?_;refine bx 4 ?_;refine o1 ?_;refine nl ?_;refine sq ?_;refine rd [2,3,4] (fun i=>[5].contains i) mixed ?_
 refine bD 0 ?_;refine bD 1 ?_;refine bD 3 ?_
 refine aN 2 rfl (zG (Zg.of (k:=k') (Nat.le_trans hk2 (by omega))) (Zg.of (k:=k') (Nat.le_trans hk2 (by omega)))) zA ⟨Fn rfl (.cons .t (.cons (.sl rfl rfl (Nh _) (aQ _)) .nil)),Fn rfl (.cons .t (.cons (.sl rfl rfl (Nh _) (aQ _)) .nil)),rfl⟩ (kF (k'+k')) ?_
 refine aN 4 rfl (zH (Zg.of (k:=(k'+k')) (Nat.le_trans hka (by omega))) (kS hs).g hkd) Bm ⟨aD rfl,aD rfl,rfl⟩ (.one (tv (.int .i64 ((k'+k')-(p.den:Int)).sign))) ?_
 refine gA 5 (by kernel_rfl) rfl rfl aB rfl (by trivial) ?_ (fun h=>by first | rfl | cases h)
 refine bJ ?_;refine sq ?_;refine rl ?_;(iterate 3 refine o1 ?_);refine WL.split (t:=15) rfl (fun h1=>?_) (fun h1=>?_)
 ·(iterate 7 refine dE ?_);refine o1 ?_;refine o1 ?_;refine nl ?_;refine rt ?_
  exact jI (lent':=[⟨115,1,(aJ (dg 4294967296 (k).natAbs)).map .t⟩,⟨115,1,(aJ (dg 4294967296 (k').natAbs)).map .t⟩]) (.inl rfl) rfl (bI (aZ _)) (by decide) (fun _ h=>by cases h) ⟨⟨rfl,rfl⟩,⟨rfl,rfl⟩,trivial⟩ ⟨rfl,rfl,trivial⟩ ⟨kM _,kM _,trivial⟩ (fun h=>by cases h) ⟨rfl,congrArg (fun b=>FV.one (tv (.bool b))) (IW h1)⟩
 (iterate 3 refine o1 ?_);refine WL.split (t:=18) rfl (fun h2=>?_) (fun h2=>?_)
 ·refine ld ?_;refine ca (BS (k:=k)) DU ⟨Fn rfl (.cons .t (.cons (.sl rfl rfl (Nh _) (aQ _)) .nil)),rfl⟩ (.one (tv (.bool (decide (k%2=0))))) ?_;(iterate 4 refine o1 ?_)
  refine nl ?_;refine rt ?_
  exact jI (lent':=[⟨115,1,(aJ (dg 4294967296 (k).natAbs)).map .t⟩,⟨115,1,(aJ (dg 4294967296 (k').natAbs)).map .t⟩]) (.inl rfl) rfl (bI (aZ _)) (by decide) (fun _ h=>by cases h) ⟨⟨rfl,rfl⟩,⟨rfl,rfl⟩,trivial⟩ ⟨rfl,rfl,trivial⟩ ⟨kM _,kM _,trivial⟩ (fun h=>by cases h) ⟨rfl,congrArg (fun b=>FV.one (tv (.bool b))) (IY h1 h2)⟩
 (iterate 3 refine dE ?_);(iterate 3 refine o1 ?_);refine nl ?_;refine rt ?_
 exact jI (lent':=[⟨115,1,(aJ (dg 4294967296 (k).natAbs)).map .t⟩,⟨115,1,(aJ (dg 4294967296 (k').natAbs)).map .t⟩]) (.inl rfl) rfl (bI (aZ _)) (by decide) (fun _ h=>by cases h) ⟨⟨rfl,rfl⟩,⟨rfl,rfl⟩,trivial⟩ ⟨rfl,rfl,trivial⟩ ⟨kM _,kM _,trivial⟩ (fun h=>by cases h) ⟨rfl,congrArg (fun b=>FV.one (tv (.bool b))) (IX h1 h2)⟩
theorem FI {a:Fr4}{p:Rat}(ha:Qn a p):aE true Tryz.prog 135 [] [qF a,.one (.t (.f 136 [] []))] (aI (kO (hal p))):=by
 refine bQ Tryz.func135 rfl Tryz.ntmps135 rfl aB rfl fun N9 w9 c0 h0=>?_
 have hfl:(dg 4294967296 ((p.num.fdiv (p.den:Int))).natAbs).length≤68719476736:=by rw[nL];exact Nat.le_trans (zZ p) ha.sz.1
 refine sq ?_;refine rl ?_;refine bx 0 ?_;refine al 1 ?_;refine nl ?_;refine sq ?_;refine rl ?_;refine ld ?_;refine gW 2 (Vx ha) DW ⟨aD rfl,rfl⟩ ?_;(iterate 4 refine o1 ?_)
 refine al 4 ?_;refine al 5 ?_;refine al 6 ?_;(iterate 3 refine st ?_);refine nl ?_;refine sq ?_;refine sq ?_;refine rl ?_;refine ld ?_
 refine ca (oG (Zg.of (k:=(p.num.fmod (p.den:Int))) (Nat.le_trans (De p) (Nat.le_trans ha.sz.2 (by omega))))) wT ⟨Fn rfl (.cons .t (.cons (.sl rfl rfl (Nh _) (aQ _)) .nil)),rfl⟩ (.one (tv (.int .i64 ((p.num.fmod (p.den:Int))).sign))) ?_
 refine o1 ?_;refine o1 ?_;refine WL.split (t:=17) rfl (fun h1=>?_) (fun h1=>?_)
 ·refine o1 ?_;(iterate 3 refine ld ?_)
  refine KJ 7 [2,3] [.agg [tv (.bool (aW ((p.num.fdiv (p.den:Int))))),.sl 0 0 (dg 4294967296 ((p.num.fdiv (p.den:Int))).natAbs).length],.agg [tv (.bool (aW ((p.num.fmod (p.den:Int))))),.sl 1 0 (dg 4294967296 ((p.num.fmod (p.den:Int))).natAbs).length],.agg [tv (.bool false),.t (sU false (dg 4294967296 p.den))]] rfl (Vz (k:=(p.num.fdiv (p.den:Int))) (k':=(p.num.fmod (p.den:Int))) (p:=p) ha.sz (Nat.le_trans (De p) (Nat.le_trans ha.sz.2 (by omega)))) DT ⟨cR rfl,cR rfl,rfl⟩ ⟨rfl,rfl,rfl,rfl⟩ (ok:=[some ⟨115,1,(aJ (dg 4294967296 ((p.num.fdiv (p.den:Int))).natAbs)).map .t⟩,some ⟨115,1,(aJ (dg 4294967296 ((p.num.fmod (p.den:Int))).natAbs)).map .t⟩]) ⟨cR rfl,cR rfl,rfl⟩ ?_
  refine o1 ?_;refine nl ?_;refine jG rfl (fun h2=>?_) (fun h2=>?_)
  ·refine sq ?_;refine rd [0,1,4,5,6] (fun i=>[2,3].contains i) mixed ?_
   refine bD 0 ?_;refine aN 1 rfl (sX (n:=1) (by omega) (by omega)) sY ⟨a1 rfl,rfl⟩ (kF 1) ?_
   refine mU 7 2 rfl (zG (Zg.of (k:=(p.num.fdiv (p.den:Int))) (Nat.le_trans hfl (by omega))) (Zg.of (k:=1) (by decide))) zA ⟨Fn rfl (.cons .t (.cons (.sl rfl rfl (Nh _) (aQ _)) .nil)),aD rfl,rfl⟩ ?_
   refine dst 3 ?_;refine bJ ?_;refine rt ?_
   exact en (.inl rfl) rfl (bI (.agg (.cons (.id rfl) (.cons (.sl (trs:=aJ (dg 4294967296 ((p.num.fdiv (p.den:Int))+1).natAbs)) rfl rfl (bE _) (aQ _)) .nil)))) (by decide) (fun _=>vO _) (congrArg kO (BT h2).symm)
  refine sk ?_;refine sq ?_;refine rl ?_;refine ld ?_;refine st ?_;refine nl ?_;refine rt ?_
  exact en (.inl rfl) rfl (bI (.agg (.cons (.id rfl) (.cons (.sl (trs:=aJ (dg 4294967296 ((p.num.fdiv (p.den:Int))).natAbs)) rfl rfl (bE _) (aQ _)) .nil)))) (by decide) (fun _=>vO _) (congrArg kO (BU h2).symm)
 (iterate 5 refine dE ?_);refine o1 ?_;refine nl ?_;refine kH rfl ?_;refine sk ?_;refine sq ?_;refine rl ?_;refine ld ?_;refine st ?_;refine nl ?_;refine rt ?_
 exact en (.inl rfl) rfl (bI (.agg (.cons (.id rfl) (.cons (.sl (trs:=aJ (dg 4294967296 ((p.num.fdiv (p.den:Int))).natAbs)) rfl rfl (bE _) (aQ _)) .nil)))) (by decide) (fun _=>vO _) (congrArg kO (Qe (Int.sign_eq_zero_iff_zero.1 (Decidable.byContradiction h1))).symm)
theorem Xf {a:Fr4}{p:Rat}(ha:Qn a p):aE true Tryz.prog 84 [] [qF a] (aI (kO (hal p))):=by
 refine bQ Tryz.func84 rfl Tryz.ntmps84 rfl aB rfl fun N9 w9 c0 h0=>?_
 refine sq ?_;refine rl ?_;refine bx 0 ?_;refine al 1 ?_;refine nl ?_;refine sq ?_;refine rl ?_;refine ld ?_;refine gW 2 (FI ha) DS ⟨aD rfl,a1 rfl,rfl⟩ ?_
 refine st ?_;refine nl ?_;refine rt ?_
 exact en (.inl rfl) rfl (bI (.agg (.cons (.id rfl) (.cons (.sl (trs:=aJ (dg 4294967296 (hal p).natAbs)) rfl rfl (bE _) (aQ _)) .nil)))) (by decide) (fun _=>vO _) rfl
theorem rz {A:List Tr}{us:List Value}{k:Nat}:(A++(us.map Tr.v).drop k).map AV.t=A.map .t++(us.map tv).drop k:=by
 rw[List.map_append,List.map_drop,List.map_map]
 rfl
theorem pR (q:Rat) (n:Nat):(((List.replicate n q).flatMap eA).map AV.t).length=n*4:=by
 rw[List.length_map,mI lO,List.length_replicate]
theorem BV (q:Rat) (n:Nat):(((List.replicate n q).flatMap eA).map AV.t).length=n*4:=pR q n
theorem IZ (q:Rat) (us:List Value) (c:Nat):cE (us.map tv) 0 (((eA q).map AV.t).take (min 1 c*4))=((List.replicate (min 1 c) q).flatMap eA++(us.map Tr.v).drop ((min 1 c)*4)).map AV.t:=by
 rw[rz]
 rcases Nat.eq_zero_or_pos c with h | h
 ·subst h
  simp[cE]
 rw[Nat.min_eq_left h]
 have e:((eA q).map AV.t).take (1*4)=(eA q).map AV.t:=List.take_of_length_le (by rw[List.length_map,lO];omega)
 rw[e]
 unfold cE
 simp[lO]
theorem Sj (q:Rat) (us:List Value) (n:Nat):((((List.replicate n q).flatMap eA++(us.map Tr.v).drop (n*4)).map AV.t).drop 0).take (n*4)=((List.replicate n q).flatMap eA).map AV.t:=by
 rw[rz]
 rw[List.drop_zero,List.take_append_of_le_length (by rw[pR];omega),List.take_of_length_le (by rw[pR];omega)]
theorem FJ (q:Rat) (us:List Value) (n c:Nat) (h:us.length=c*4) (hn:n≤c):0+n*4+min n (c-n)*4≤(((List.replicate n q).flatMap eA++(us.map Tr.v).drop (n*4)).map AV.t).length:=by
 rw[rz]
 rw[List.length_append,pR,List.length_drop,List.length_map,h]
 omega
theorem JA (q:Rat) (us:List Value) (n c:Nat) (h:us.length=c*4) (hn:n≤c):cE (((List.replicate n q).flatMap eA++(us.map Tr.v).drop (n*4)).map AV.t) (0+n*4) ((((List.replicate n q).flatMap eA).map AV.t).take (min n (c-n)*4))=((List.replicate (n+min n (c-n)) q).flatMap eA++(us.map Tr.v).drop ((n+min n (c-n))*4)).map AV.t:=by
 rw[rz,rz]
 have e:(((List.replicate n q).flatMap eA).map AV.t).take (min n (c-n)*4)=((List.replicate (min n (c-n)) q).flatMap eA).map AV.t:=by
  rw[←List.map_take]
  congr 1
  have h1:List.replicate n q=List.replicate (min n (c-n)) q++List.replicate (n-min n (c-n)) q:=by
   rw[List.replicate_append_replicate]
   congr 1
   omega
  rw[h1,List.flatMap_append,List.take_append_of_le_length (by rw[mI lO,List.length_replicate];omega),List.take_of_length_le (by rw[mI lO,List.length_replicate];omega)]
 rw[e]
 unfold cE
 rw[Nat.zero_add,List.take_append_of_le_length (by rw[pR];omega),List.take_of_length_le (by rw[pR];omega),pR]
 rw[List.drop_append,pR,List.drop_of_length_le (by rw[pR];omega),List.nil_append,List.drop_drop,←List.map_append,←List.flatMap_append,List.replicate_append_replicate]
 congr 2
 omega
theorem BW (q:Rat) (us:List Value) (n c:Nat) (hn:n=c):((((List.replicate n q).flatMap eA++(us.map Tr.v).drop (n*4)).map AV.t).drop 0).take (c*4)=((List.replicate c q).flatMap eA).map .t:=by
 subst hn
 exact Sj q us n
theorem Wa (q:Rat) (c:Nat):((List.replicate c q).flatMap eA).length=c*4:=by
 rw[mI lO,List.length_replicate]
theorem Wb {l m:List AV}(h:eD l=true) (h2:eD m=true):eD (l++m)=true:=by
 induction l with
 | nil=>exact h2
 | cons a l ih=>
  rw[List.cons_append]
  simp only[eD,Bool.and_eq_true]at h⊢
  exact⟨h.1,ih h.2⟩
theorem Sk (q:Rat):∀n:Nat,eD (((List.replicate n q).flatMap eA).map AV.t)=true
 | 0=>rfl
 | n+1=>by
  rw[List.replicate_succ,List.flatMap_cons,List.map_append]
  exact Wb rfl (Sk q n)
theorem Qf {l m:List AV}(h:cH l=true) (h2:cH m=true):cH (l++m)=true:=by
 induction l with
 | nil=>exact h2
 | cons a l ih=>
  rw[List.cons_append]
  simp only[cH,Bool.and_eq_true]at h⊢
  exact⟨h.1,ih h.2⟩
theorem Ni (q:Rat):∀n:Nat,cH (((List.replicate n q).flatMap eA).map AV.t)=true
 | 0=>rfl
 | n+1=>by
  rw[List.replicate_succ,List.flatMap_cons,List.map_append]
  exact Qf rfl (Ni q n)
theorem Nu {q:Rat}{c:Nat}(hc:c≤1000):aE false Tryz.prog 83 [] [.one (.t (sQ false (iR [q]))),.one (tv (.int .i64 ((c:Nat):Int)))] (aI (.one (.t (.s true 27 4 c ((List.replicate (c) q).flatMap eA))))):=by
 refine bQ Tryz.func83 rfl Tryz.ntmps83 rfl aB rfl fun N9 w9 c0 h0=>?_
 refine sq ?_;refine rl ?_;refine o1 ?_;refine nl ?_;refine sq ?_;refine sq ?_;refine rl ?_;refine o1 ?_;refine o1 ?_;refine nl ?_;refine cY rfl (fun h1=>?_) (fun h1=>?_)
 ·exact absurd h1 (by omega)
 refine sk ?_;refine sq ?_;refine rl ?_;refine o1 ?_;refine o1 ?_;refine WL.cast (t:=14) (u':=.int .i64 ((1:Nat):Int)) rfl rfl ?_;refine o1 ?_
 refine WL.cast (t:=15) (u':=.int .u64 ((1:Nat):Int)) rfl (bO (by omega)) ?_
 refine o1 ?_;refine o1 ?_;refine WL.cast (t:=17) (u':=.int .u64 ((c:Nat):Int)) rfl (bO (by omega)) ?_
 refine ca (BA (a:=1) (b:=c) (by omega) (by omega)) IJ ⟨a1 rfl,a1 rfl,rfl⟩ (.tup [.one (tv (.int .u64 ((1*c/18446744073709551616:Nat):Int))),.one (tv (.int .u64 ((1*c%18446744073709551616:Nat):Int)))]) ?_
 (iterate 5 refine o1 ?_);refine nl ?_;refine sq ?_;refine sq ?_;refine rl ?_;(iterate 3 refine o1 ?_);refine WL.split (t:=23) rfl (fun h2=>?_) (fun h2=>?_)
 ·exact absurd h2 (by omega)
 (iterate 3 refine o1 ?_);refine nl ?_;refine cY rfl (fun h3=>?_) (fun h3=>?_)
 ·exact absurd h3 (by omega)
 refine sk ?_;refine sq ?_;refine rl ?_;refine o1 ?_;refine o1 ?_;refine WL.cast (t:=29) (u':=.int .i64 ((c:Nat):Int)) rfl (bO (by omega)) ?_
 refine KK (m:=c) 0 (by omega) fun us hus=>?_
 refine o1 ?_;refine nl ?_;refine sq ?_;refine rl ?_;refine o1 ?_;refine o1 ?_
 refine KL (k:=0) (o:=0) (z:=4) (bo:=⟨27,4,us.map tv⟩) (nn:=min 1 c) (l':=(((List.replicate (min 1 c) q).flatMap eA++(us.map Tr.v).drop ((min 1 c)*4)).map AV.t)) (SrcA.fz (m:=1) (l:=eA q)) (by rfl) (by rfl) rfl (by rw[List.length_map,hus];omega) (IZ q us c) ?_
 refine o1 ?_;refine nl ?_;refine sq ?_;refine bl ?_
 refine lp (γ:=Nat) (fun n=>dD [(7,.one (.sl 0 0 c)),(8,.one (tv (.int .i64 ((n:Nat):Int))))]) (fun n=>[(⟨27,4,(((List.replicate (n) q).flatMap eA++(us.map Tr.v).drop ((n)*4)).map AV.t)⟩:Ob)].map some) (fun n=>n≤c∧(0<n∨c=0)) (fun n=>c-n) (min 1 c) ⟨by omega,by omega⟩ (bS h0 [0] _ _ (by decide) ⟨rfl,rfl,trivial⟩ ⟨cR rfl,rfl⟩) fun n hn=>?_
 refine sq ?_;refine sq ?_;refine rl ?_;(iterate 4 refine o1 ?_);refine nl ?_;refine cY rfl (fun h4=>?_) (fun h4=>?_)
 ·refine sk ?_;refine bl ?_;refine rd [] (fun i=>[9].contains i) mixed ?_
  refine dv 0 ?_;refine dv 1 ?_;refine dv 2 ?_;refine dv 3 ?_;refine dv 4 ?_;refine dv 5 ?_;refine dv 6 ?_
  refine IV 7 (o:=0+n*4) (z:=4) (bo:=⟨27,4,(((List.replicate (n) q).flatMap eA++(us.map Tr.v).drop ((n)*4)).map AV.t)⟩) (nn:=min n (c-n)) (l':=(((List.replicate (n+min n (c-n)) q).flatMap eA++(us.map Tr.v).drop ((n+min n (c-n))*4)).map AV.t)) (SrcA.sl (k:=0) (o:=0) (m:=n) (news:=(((List.replicate (n) q).flatMap eA).map AV.t)) rfl (Sj q us n) (BV q n)) (Sk q n) (Ni q n) rfl (FJ q us n c hus (by omega)) (JA q us n c hus (by omega)) ?_
  refine df 8 ?_;refine WD.cast (t:=46) (u':=.int .i64 ((n+min n (c-n):Nat):Int)) rfl (bO (by omega)) ?_
  refine gA 9 (by kernel_rfl) rfl rfl aB rfl (by trivial) ?_ (fun h=>by first | rfl | cases h)
  refine bJ ?_;exact⟨n+min n (c-n),by omega,⟨by omega,by omega⟩,bS h0 [0] _ _ (by decide) ⟨rfl,rfl,trivial⟩ ⟨cR rfl,rfl⟩⟩
 refine ex ?_;refine sq ?_;refine rl ?_;refine o1 ?_;refine o1 ?_;refine nl ?_;refine rt ?_;have hn9:n=c:=by omega
 exact en (.inl rfl) rfl (bI (.one (.sl (trs:=(List.replicate (c) q).flatMap eA) rfl rfl (BW q us n c hn9) (Wa q c)))) (by decide) (fun h=>by cases h) (by rfl)
section
variable {α:Type}
def oL (dl:α→Bool):List α→Nat
 | []=>0
 | x::l=>if dl x then 0 else oL dl l+1
theorem Dh {dl:α→Bool}:∀(l:List α),oL dl l≤l.length
 | []=>Nat.le_refl _
 | x::l=>by
  have:=Dh (dl:=dl) l
  unfold oL
  split <;> simp <;> omega
theorem tP {dl:α→Bool}{d:α}:∀{l:List α}{k:Nat},k≤oL dl l→k<l.length→(dl (l.getD k d)=true→oL dl l=k)∧(dl (l.getD k d)=false→k+1≤oL dl l)
 | [],_,_,h=>by simp at h
 | x::l,0,_,_=>by
  have e:(x::l).getD 0 d=x:=rfl
  rw[e]
  unfold oL
  exact⟨fun h=>by simp[h],fun h=>by simp[h]⟩
 | x::l,k+1,h,h2=>by
  have e:(x::l).getD (k+1) d=l.getD k d:=by simp
  rw[e]
  unfold oL at h⊢
  by_cases hx:dl x=true
  ·simp[hx]at h
  simp only[if_neg hx]at h⊢
  have:=tP (dl:=dl) (d:=d) (l:=l) (k:=k) (by omega) (by simpa using h2)
  exact⟨fun h=>by rw[this.1 h],fun h=>by have:=this.2 h;omega⟩
theorem Gu {dl:α→Bool}:∀(l:List α),l.any dl=decide (oL dl l<l.length)
 | []=>rfl
 | x::l=>by
  unfold oL
  by_cases hx:dl x=true
  ·simp[hx]
  simp only[if_neg hx,List.any_cons,Gu l,List.length_cons]
  simp[hx]
def Gv (dl:α→Bool) (l:List α):Int:=if oL dl l=l.length then-1 else(oL dl l:Int)
theorem Wc {dl:α→Bool}(l:List α):decide (0≤Gv dl l)=l.any dl:=by
 have h:=Dh (dl:=dl) l
 rw[Gu]
 unfold Gv
 split
 ·rw[decide_eq_decide];omega
 rw[decide_eq_decide];omega
end
section
variable {lt:Nat→Nat→Bool}{A B C D:List Nat}{x y j:Nat}
end
theorem BX {xs:List Fr4}{dl:Fr4→Bool}{fd:FuncId}{fst caps:List Tr}(hok:CallOk Tryz.prog fd) (hd:∀x∈xs,aE true Tryz.prog fd [] (dC fst++[.agg ((Fr4.tr false x).map .t)]++dC caps) (aI (.one (tv (.bool (dl x)))))) (hl:xs.length≤1073741823):aE true Tryz.prog 155 [] [.one (.t (sQ false xs)),.one (.t (.f fd fst caps))] (aI (.one (tv (.int .i64 (Gv dl xs))))):=by
 refine bQ Tryz.func155 rfl Tryz.ntmps155 rfl aB rfl fun N w c0 h0=>?_
 refine sq ?_;refine rl ?_;refine o1 ?_;refine nl ?_;refine sq ?_;refine sq ?_;refine rl ?_;(iterate 3 refine o1 ?_);refine nl ?_;refine bl ?_
 refine lp (γ:=Nat) (fun k=>dD [(0,.one (.t (sQ false xs))),(1,.one (.t (.f fd fst caps))),(7,.one (tv (.int .i64 ((xs.length:Nat):Int)))),(8,.one (tv (.int .i64 ((k:Nat):Int))))]) (fun k=>[].map some) (fun k=>k≤xs.length∧k≤oL dl xs) (fun k=>xs.length-k) 0 (⟨Nat.zero_le _,Nat.zero_le _⟩) (bS h0 [] _ _ (by decide) ⟨rfl,rfl,rfl,rfl,trivial⟩ rfl) fun k hk=>?_
 refine sq ?_;refine rl ?_;refine o1 ?_;refine nl ?_;refine sq ?_;refine cY rfl (fun h1=>?_) (fun h1=>?_)
 ·refine sk ?_;refine sq ?_;refine bl ?_;refine sq ?_;refine rl ?_;refine o1 ?_;refine o1 ?_;refine nl ?_;refine sq ?_;refine rl ?_;(iterate 4 refine o1 ?_)
  refine xP ((Fr4.tr false) (eY xs (k))) (Mk (f:=(Fr4.tr false)) (z:=4) (o:=0) (fun _=>rfl) (pO (by omega)) (Nat.le_of_ble_eq_true rfl) rfl) ?_
  refine ce 0 [.agg ((Fr4.tr false (eY xs (k))).map .t)] rfl (hd (eY xs (k)) (fF (by omega))) hok ⟨rfl,rfl⟩ ?_
  refine nl ?_;refine jG rfl (fun h2=>?_) (fun h2=>?_)
  ·refine sq ?_;refine rl ?_;refine o1 ?_;refine o1 ?_;refine nl ?_;refine rt ?_;have hx9:=(tP hk.2 (by omega)).1 h2
   exact en (.inl rfl) rfl (bI (aZ _)) (by decide) (fun _=>trivial) (congrArg (fun z=>FV.one (tv (.int .i64 z))) (by unfold Gv;rw[hx9,if_neg (by omega)]))
  refine sk ?_;refine rl ?_;refine o1 ?_;refine WL.cast (t:=18) (u':=.int .i64 ((k+1:Nat):Int)) rfl (bO (by omega)) ?_
  refine o1 ?_;refine nl ?_;exact⟨k+1,by omega,⟨by omega,(tP hk.2 (by omega)).2 h2⟩,bS h0 [] _ _ (by decide) ⟨rfl,rfl,rfl,rfl,trivial⟩ rfl⟩
 refine ex ?_;refine sq ?_;refine rl ?_;refine o1 ?_;refine nl ?_;refine rt ?_;have hx9:=Dh (dl:=dl) xs
 exact en (.inl rfl) rfl (bI (aZ _)) (by decide) (fun _=>trivial) (congrArg (fun z=>FV.one (tv (.int .i64 z))) (by unfold Gv;rw[if_pos (by omega)]))
theorem Xi {xs:List Fr4}{dl:Fr4→Bool}{fd:FuncId}{fst caps:List Tr}(hok:CallOk Tryz.prog fd) (hd:∀x∈xs,aE true Tryz.prog fd [] (dC fst++[.agg ((Fr4.tr false x).map .t)]++dC caps) (aI (.one (tv (.bool (dl x)))))) (hl:xs.length≤1073741823):aE true Tryz.prog 107 [] [.one (.t (sQ false xs)),.one (.t (.f fd fst caps))] (aI (.one (tv (.bool (xs.any dl))))):=by
 refine bQ Tryz.func107 rfl Tryz.ntmps107 rfl aB rfl fun N w c0 h0=>?_
 refine sq ?_;refine rl ?_;refine o1 ?_;refine nl ?_;refine sq ?_;refine rl ?_;refine o1 ?_;refine o1 ?_
 refine ca (BX hok hd hl) DV ⟨a1 rfl,a1 rfl,rfl⟩ (.one (tv (.int .i64 (Gv dl xs)))) ?_;refine o1 ?_;refine o1 ?_;refine nl ?_;refine rt ?_
 exact en (.inl rfl) rfl (bI (aZ _)) (by decide) (fun _=>trivial) (congrArg (fun z=>FV.one (tv (.bool z))) (Wc xs))
section
variable {x:Cx}{g:Nat→FV}{ob:List (Option Ob)}{Q:Post}
theorem JB {i t t' z n:Nat}{o:Bool}{l l':List Tr}(hi:Nat.blt i x.n=true) (h:g i=.one (.t (.s o t z n l))) (hr:rdTL l=l'):Sub x g ob (aM g i (.one (.t (.s false t' z n l')))) ob:=Zf hi fun W N cs u hu=>by
 subst hr
 rw[h]at hu
 simp only[aR,bB,AR]at hu⊢
 have h2:=Bf _ _ hu
 simp only[sI,FR]at h2⊢
 exact h2
end
section
variable {l:List Rat}{f:Rat→Rat}{k:Nat}
end
section
variable {l:List Rat}{k:Nat}{f:Int→Int}{z:List Int}
end
section
variable {x:Cx}{g:Nat→FV}{ob:List (Option Ob)}
end
section
variable {l:List Rat}{k i t:Nat}
end
section
variable {x:Cx}{g:Nat→FV}{ob ob':List (Option Ob)}{Q:Post}{ops:Array Oper}{rest:List Oper}{d:Nat}{ty:TypeId}{pos:String}{af:Array Edge}{gd:Option (Nat×Bool)}{T:List (Nat×TI)}
end
section
variable {x:Cx}{g:Nat→FV}{ob:List (Option Ob)}{ws:List Zi}{z:Zi}{l:List Rat}{i k n t:Nat}
end
section
variable {l:List Rat}{i t:Nat}
end
end Go.Proofs.YtcaakamelngceaaGreatDoor
