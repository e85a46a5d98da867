/- Part 11 of a proof: Q5 to R1. -/
import Derived.Test.YthmgbcdidlkpoaaGreatM10
import Derived.Test.YthmgbcdidlkpoaaGreatM9
import Derived.Test.YthmgbcdidlkpoaaGreatM5
import Derived.Test.YthmgbcdidlkpoaaGreatM6
import Derived.ProofKit
import Derived.ChangeOld
import Derived.Deep.Slices
import Derived.Deep.Strs
import Derived.Test.YthmgbcdidlkpoaaGreatM7
set_option maxRecDepth 100000
set_option linter.unusedVariables false
set_option linter.unusedSimpArgs false
namespace Go.Proofs.YthmgbcdidlkpoaaGreat
open Go Go.RowKit
theorem Po {xs:List Fr4}{k:Nat}(h:k<xs.length):aP (xs.map Fr4.q) k=(aS xs k).q:=dK h
theorem Pp {xs:List Fr4}{i k:Nat}(hi:i<xs.length) (hk:k<xs.length):zN (oB (xs.map Fr4.q)) i k=if(fc (aS xs k).q-fc (aS xs i).q).num.sign≠0 then(fc (aS xs k).q-fc (aS xs i).q).num.sign else if i<k then-1 else if k<i then 1 else 0:=by
 unfold zN oB
 rw[Po hi,Po hk]
theorem IY {xs:List Fr4}{i k:Nat}(hx:∀x∈xs,x.ok) (hz:∀x∈xs,Sz 1000 x.q) (hl:xs.length≤12) (hi:i<xs.length) (hk:k<xs.length):aD true Tryz.prog 95 [] [.one (tv (.int .i64 ((i:Nat):Int))),.one (tv (.int .i64 ((k:Nat):Int))),.one (.t (.p false 42 [sQ false xs]))] (aM (.one (tv (.int .i64 (zN (oB (xs.map Fr4.q)) i k))))):=by
 refine bL Tryz.func95 rfl Tryz.ntmps95 rfl aA rfl fun N9 w9 c0 h0=>?_
 refine WP.sub (NK (i:=2) rfl rfl) ?_;refine sq ?_;refine rl ?_;refine o1 ?_;refine nl ?_;refine sq ?_;refine sq ?_;refine rd [] (fun i=>[13].contains i) mixed ?_
 refine dv 0 ?_;refine fR 1 ([sQ false xs]) rfl ?_;refine dv 2 ?_;refine dv 3 ?_;refine fR 4 ((aS xs (k)).tr false) (eO xs (k:=k) (by omega)) ?_
 refine dv 6 ?_;refine fR 7 ([sQ false xs]) rfl ?_;refine dv 8 ?_;refine dv 9 ?_;refine fR 10 ((aS xs (i)).tr false) (eO xs (k:=i) (by omega)) ?_
 refine aI 5 rfl (Pe ⟨hx _ (bJ (by omega)),rfl⟩) EE ⟨aB rfl,rfl⟩ (qF (.of (fc (aS xs (k)).q))) ?_
 refine aI 11 rfl (Pe ⟨hx _ (bJ (by omega)),rfl⟩) EE ⟨aB rfl,rfl⟩ (qF (.of (fc (aS xs (i)).q))) ?_
 refine aI 12 rfl (Xc (Qn.of (p:=(fc (aS xs (k)).q)) (rK (hz _ (bJ (by omega))))) (Qn.of (p:=(fc (aS xs (i)).q)) (rK (hz _ (bJ (by omega)))))) DO ⟨aB rfl,aB rfl,rfl⟩ (.one (tv (.int .i64 ((fc (aS xs (k)).q)-(fc (aS xs (i)).q)).num.sign))) ?_
 refine dE 13 (by kernel_rfl) rfl rfl aA rfl (by trivial) ?_ (fun h=>by first | rfl | cases h)
 refine aO ?_;refine sq ?_;refine rl ?_;refine o1 ?_;refine o1 ?_;refine nl ?_;refine bN rfl (fun h1=>?_) (fun h1=>?_)
 ·refine sq ?_;refine rl ?_;refine o1 ?_;refine o1 ?_;refine nl ?_;refine rt ?_;have e1:=Pp (xs:=xs) hi hk
  exact en (.inl rfl) rfl (aT (bZ _)) (by decide) (fun _=>trivial) (congrArg (fun z=>FV.one (tv (.int .i64 z))) (by rw[e1,if_pos h1]))
 refine sk ?_;refine sq ?_;refine rl ?_;refine o1 ?_;refine o1 ?_
 refine ca (Pm (x:=(i:Int)) (y:=(k:Int))) LK ⟨a1 rfl,a1 rfl,rfl⟩ (.one (tv (.int .i64 (if(i:Int)<k then-1 else if(k:Int)<i then 1 else 0)))) ?_;refine o1 ?_
 refine nl ?_;refine rt ?_;have e1:=Pp (xs:=xs) hi hk
 exact en (.inl rfl) rfl (aT (bZ _)) (by decide) (fun _=>trivial) (congrArg (fun z=>FV.one (tv (.int .i64 z))) (by rw[e1,if_neg h1];simp only[Int.ofNat_lt]))
theorem EF {zs:List Zi}{n L:Nat}(hn:zs.length=n) (hz:∀a∈zs,ZL L a) (hL:L≤1000000) (hl:zs.length≤1000000):aD true Tryz.prog 66 [] [.one (.t (.s false 24 2 n (zs.flatMap (cH false))))] (aM (kO (dQ zs))):=by
 subst hn
 exact DX hz hL hl
theorem AD {xs:List Nat}{m n:Nat}{cf:Nat→Nat→Int}{lt:Nat→Nat→Bool}{fd:FuncId}{fst caps:List Tr}(hn:xs.length=n) (hok:CallOk Tryz.prog fd) (hd:∀x y,x<m→y<m→aD true Tryz.prog fd [] (dF fst++[.one (tv (.int .i64 ((x:Nat):Int))),.one (tv (.int .i64 ((y:Nat):Int)))]++dF caps) (aM (.one (tv (.int .i64 (cf x y)))))) (hlt:∀x y,decide (cf x y<0)=lt x y) (hm:∀z∈xs,z<m) (hl:n<20):aD false Tryz.prog 94 [⟨3,1,(cI xs).map .t⟩] [.one (.sl 0 0 n),.one (.t (.f fd fst caps))] (Rt [⟨3,1,(cI (iH lt xs)).map .t⟩] (.tup [])):=by
 subst hn
 exact DV hok hd hlt hm hl
theorem Pq (ws:List Zi):(eA ws).take (ws.flatMap (cH true)).length=(ws.flatMap (cH true)).map .t:=List.take_of_length_le (by simp[eA])
theorem Pr {xs:List Fr4}{k:Nat}(h:k<xs.length):cC ((xs.map Fr4.q).map fl) k=fl (aS xs k).q:=by simp[cC,aS,h]
theorem EG {l:List Rat}(h:∀q∈l,Sz 1000 q):∀a∈aQ (l.map fl),ZL 1001 a:=fun a ha=>by
 obtain⟨k,hk,rfl⟩:=List.mem_map.1 ha
 obtain⟨q,hq,rfl⟩:=List.mem_map.1 hk
 exact⟨aJ (by omega) _,Nat.le_trans (Nat.le_trans (mO q) (h q hq).1) (by omega)⟩
theorem AE (l:List Rat):dQ (aQ (l.map fl))=fM (l.map fl):=It _
theorem AF {l:List Rat}{tot:Int}(hn:(aQ (l.map fl)).length≤12) (hz:∀a∈aQ (l.map fl),ZL 1001 a) (_:(aC l).den=1) (hs:∀q∈l,Sz 1000 q) (hl:l.length≤12) (ht:tot=(aC l).num):(dg 4294967296 tot.natAbs).length≤300000000000∧(dg 4294967296 (dQ (aQ (l.map fl))).natAbs).length≤300000000000:=by
 have h1:=sW (k:=(aQ (l.map fl)).length) hz (by omega)
 rw[List.take_length]at h1
 have h2:=(oU hs).1
 have h3:l.length*(1000+1)≤12*1001:=Nat.mul_le_mul hl (Nat.le_refl _)
 rw[ht]
 exact⟨by omega,by omega⟩
theorem Ps {l:List Rat}{tot:Int}(ht:tot=(aC l).num):tot-dQ (aQ (l.map fl))=eN l:=by rw[AE,ht];rfl
theorem AG {l:List Rat}{tot:Int}(_:(aQ (l.map fl)).length≤12) (_:∀a∈aQ (l.map fl),ZL 1001 a) (hd:(aC l).den=1) (_:∀q∈l,Sz 1000 q) (hl:l.length≤12) (ht:tot=(aC l).num):(dg 4294967296 (tot-dQ (aQ (l.map fl))).natAbs).length≤137438953472:=by
 rw[Ps ht]
 have h1:=lC hd
 have h2:=sX hd
 have h3:(dg 4294967296 (eN l).natAbs).length≤1:=cB (by omega) (show(eN l).natAbs<4294967296^1 by omega)
 omega
theorem IZ {l:List Rat}{tot:Int}(_:(aQ (l.map fl)).length≤12) (hd:(aC l).den=1) (ht:tot=(aC l).num) (hl:l.length≤12):(if kJ (tot-dQ (aQ (l.map fl)))then tot-dQ (aQ (l.map fl))else 0)=(((eN l).toNat:Nat):Int):=by
 rw[Ps ht]
 have h1:=lC hd
 have h2:=sX hd
 have h3:kJ (eN l)=true:=decide_eq_true (by omega)
 rw[if_pos h3]
 omega
theorem EH {l:List Rat}{t i n:Nat}(hs:∀q∈l,Sz 1000 q) (hi:i<n) (hn:l.length=n):(dg 4294967296 (cC (dW l t) i).natAbs).length≤300000000000:=by
 subst hn
 rw[qH hi]
 have h1:=mO (aP l i)
 have h2:=(hs _ (dT hi)).1
 have h4:(dg 4294967296 (fl (aP l i)+if i∈(cE l).take t then 1 else 0).natAbs).length≤1002:=by
  have h5:=gW (fl (aP l i)) (if i∈(cE l).take t then 1 else 0)
  have h6:(dg 4294967296 (if i∈(cE l).take t then(1:Int)else 0).natAbs).length≤1:=by split <;> decide
  omega
 omega
theorem Bo {xs:List Fr4}{tot:Int}(hx:∀x∈xs,x.ok) (hz:∀x∈xs,Sz 1000 x.q) (hz9:∀q∈(xs.map Fr4.q),Sz 1000 q) (hl:xs.length≤12) (hl9:(xs.map Fr4.q).length≤12) (hden:(aC (xs.map Fr4.q)).den=1) (htot:tot=(aC (xs.map Fr4.q)).num):aD false Tryz.prog 53 [] [.agg [.t (sQ false xs)],kF tot] (aM (.one (.t (xZ 24 (aQ (fD (xs.map Fr4.q))))))):=by
 refine bL Tryz.func53 rfl Tryz.ntmps53 rfl aA rfl fun N9 w9 c0 h0=>?_
 have hll:(xs.map Fr4.q).length=xs.length:=List.length_map ..
 have hfl9:(aQ ((xs.map Fr4.q).map fl)).length=xs.length:=by simp[aQ]
 have hlf0:=lC hden
 have hlf1:=sX hden
 have hzf:∀a∈aQ ((xs.map Fr4.q).map fl),ZL 1001 a:=EG fun q hq=>(by obtain⟨x,hx9,rfl⟩:=List.mem_map.1 hq;exact hz x hx9)
 have hT:=AF (by rw[hfl9];omega) hzf hden hz9 hl9 htot
 have hT2:=AG (by rw[hfl9];omega) hzf hden hz9 hl9 htot
 refine sq ?_;refine rl ?_;refine bx 0 ?_;refine bx 1 ?_;refine o1 ?_;refine nl ?_;refine sq ?_;refine rl ?_;refine o1 ?_;refine nl ?_;refine sq ?_;refine rl ?_;refine o1 ?_;refine nl ?_
 refine sq ?_;refine sq ?_;refine rl ?_;refine o1 ?_;refine ld ?_;refine o1 ?_;refine o1 ?_;refine nl ?_;refine bl ?_
 refine lp (γ:=Nat) (fun k=>cG [(2,.one (.pt 0 0)),(3,.one (.pt 1 0)),(14,.one (.t (sQ false xs))),(15,.one (tv (.int .i64 ((xs.length:Nat):Int)))),(5,.one (.sl 2 0 (k))),(6,.one (.sl 3 0 (k))),(16,.one (tv (.int .i64 ((k:Nat):Int))))]) (fun k=>[(⟨42,0,[.t (sQ false xs)]⟩:Ob),⟨24,0,[tv (.bool (aF (tot))),.t (sU false (dg 4294967296 (tot).natAbs))]⟩,⟨24,2,eA (aQ (((xs.map Fr4.q).map fl).take k))⟩,⟨3,1,(cI (List.range k)).map .t⟩].map some) (fun k=>k≤xs.length) (fun k=>xs.length-k) 0 (Nat.zero_le _) (((nr (i:=5) 2 24 2 rfl rfl rfl rfl).trans (nr (i:=6) 3 3 1 rfl rfl rfl rfl)).trans (aH h0 [0,1,2,3] _ _ (by decide) ⟨rfl,rfl,rfl,rfl,rfl,rfl,rfl,trivial⟩ ⟨oe rfl rfl,oe rfl rfl,bI rfl,bI rfl,rfl⟩)) fun k hk=>?_
 refine sq ?_;refine rl ?_;refine o1 ?_;refine nl ?_;refine sq ?_;refine bN rfl (fun h1=>?_) (fun h1=>?_)
 ·refine sk ?_;refine sq ?_;refine bl ?_;refine sq ?_;refine rl ?_;refine o1 ?_;refine o1 ?_;refine fQ ((aS xs (k)).tr false) (eO xs (k:=k) (by omega)) ?_
  refine al 4 ?_;refine o1 ?_;refine st ?_;refine nl ?_;refine rl ?_;refine o1 ?_;refine ld ?_;refine fK 5 (zL ⟨hx _ (bJ (by omega)),rfl⟩) Tv ⟨aB rfl,rfl⟩ ?_
  refine bs 6 ?_
  refine dV (j:=7) (n:=k) (m:=1) aA rfl rfl rfl rfl (.sl rfl (by rw[iO,cX,List.length_take,List.length_map,hll,Nat.min_eq_left (by omega)])) (.sl rfl rfl rfl) rfl rfl rfl (by omega) (by omega) ?_
  refine WL.sub (NL (j:=7) (k1:=5) (e:=24) (ws:=aQ (((xs.map Fr4.q).map fl).take k)) (z:=.of (fl (aS xs (k)).q)) rfl rfl rfl) ?_;refine o1 ?_;refine o1 ?_;refine bs 8 ?_
  refine dV (j:=9) (n:=k) (m:=1) aA rfl rfl rfl rfl (.sl rfl (by rw[List.length_map,fN,List.length_range,Nat.mul_one])) (.sl rfl rfl rfl) rfl rfl rfl (by omega) (by omega) ?_
  refine o1 ?_;refine o1 ?_;refine nl ?_;refine rl ?_;refine o1 ?_;refine WL.cast (t:=30) (u':=.int .i64 ((k+1:Nat):Int)) rfl (aK (by omega)) ?_
  refine o1 ?_;refine nl ?_
  have hst:aQ (((xs.map Fr4.q).map fl).take k)++[Zi.of (fl (aS xs (k)).q)]=aQ (((xs.map Fr4.q).map fl).take (k+1)):=by rw[Eb,oW (by rw[List.length_map,hll];omega),Pr (by omega)]
  exact⟨k+1,by omega,by omega,aH h0 [0,1,7,9] _ _ (by decide) ⟨rfl,rfl,rfl,rfl,rfl,rfl,rfl,trivial⟩ ⟨oe rfl rfl,oe rfl rfl,bI (congrArg (fun l=>some (⟨24,2,eA l⟩:Ob)) hst),kT rfl (fO (List.range k) [k]) List.range_succ.symm,rfl⟩⟩
 refine ex ?_;refine sq ?_;have hk9:k=xs.length:=by omega
 have hfk:((xs.map Fr4.q).map fl).take k=((xs.map Fr4.q).map fl):=List.take_of_length_le (by rw[List.length_map,hll];omega)
 refine WP.sub (NM (i:=2) (k:=0) (t:=42) (l:=[sQ false xs]) rfl rfl rfl (.one .sl)) ?_;refine rl ?_;refine o1 ?_;refine o1 ?_
 refine cl 4 [3] (AD (xs:=List.range k) (n:=k) (m:=xs.length) (cf:=zN (oB (xs.map Fr4.q))) (lt:=fG (oB (xs.map Fr4.q))) (fst:=[]) (caps:=[.p false 42 [sQ false xs]]) List.length_range LL (fun x y h1 h2=>IY hx hz hl h1 h2) (Zr _) (fun z h=>by have:=List.mem_range.1 h;omega) (by omega)) LM ⟨bI rfl,rfl⟩ ⟨rfl,rfl,rfl⟩ (ok:=[some ⟨3,1,(cI (iH (fG (oB (xs.map Fr4.q))) (List.range k))).map .t⟩]) ⟨bI rfl,rfl⟩ ?_
 refine nl ?_;refine sq ?_;have hordl:(cE (xs.map Fr4.q)).length=xs.length:=by unfold cE;rw[iP,hll]
 have hord:iH (fG (oB (xs.map Fr4.q))) (List.range k)=(cE (xs.map Fr4.q)):=by unfold cE fE;rw[hll,hk9]
 refine WP.sub (aH h0 [1,2,3] [(3,.one (.pt 0 0)),(5,.one (.sl 1 0 (xs.length))),(6,.one (.sl 2 0 (xs.length)))] [(⟨24,0,[tv (.bool (aF (tot))),.t (sU false (dg 4294967296 (tot).natAbs))]⟩:Ob),⟨24,2,eA (aQ ((xs.map Fr4.q).map fl))⟩,⟨3,1,(cI (cE (xs.map Fr4.q))).map .t⟩] (by decide) ⟨rfl,EB hk9,EB hk9,trivial⟩ ⟨oe rfl rfl,bI (congrArg (fun l=>some (⟨24,2,eA (aQ l)⟩:Ob)) hfk),bI (congrArg (fun l:List Nat=>some (⟨3,1,(cI l).map .t⟩:Ob)) hord),rfl⟩) ?_
 refine rd [0] (fun i=>[9].contains i) mixed ?_
 refine aV 0 ?_;refine dv 1 ?_
 refine aI 2 rfl (EF (zs:=aQ ((xs.map Fr4.q).map fl)) (n:=xs.length) (L:=1001) (by simp[aQ]) hzf (by omega) (by rw[hfl9];omega)) LN ⟨tG rfl (.sr rfl rfl (Pq _) (by rw[bO (eI true),hfl9]) (rL _)),rfl⟩ (kF (dQ (aQ ((xs.map Fr4.q).map fl)))) ?_
 refine aI 3 rfl (Xj (Zg.of (k:=tot) hT.1) (Zg.of (k:=(dQ (aQ ((xs.map Fr4.q).map fl)))) hT.2)) EI ⟨aB rfl,aB rfl,rfl⟩ (kF (tot-(dQ (aQ ((xs.map Fr4.q).map fl))))) ?_
 refine aI 4 rfl (Dx (Zn.of (k:=(tot-(dQ (aQ ((xs.map Fr4.q).map fl))))) hT2)) EJ ⟨aB rfl,rfl⟩ (.tup [.one (tv (.int .i64 (if kJ (tot-(dQ (aQ ((xs.map Fr4.q).map fl))))then(tot-(dQ (aQ ((xs.map Fr4.q).map fl))))else 0))),.one (tv (.bool (kJ (tot-(dQ (aQ ((xs.map Fr4.q).map fl)))))))]) ?_
 refine df 5 ?_;refine df 6 ?_;refine WD.cast (t:=40) (u':=.int .i64 (((eN (xs.map Fr4.q)).toNat:Nat):Int)) rfl (aK (IZ (by rw[hfl9];omega) hden htot hl9)) ?_
 refine df 7 ?_;refine dE 8 (by kernel_rfl) rfl rfl aA rfl (by trivial) ?_ (fun h=>by first | rfl | cases h)
 refine dE 9 (by kernel_rfl) rfl rfl aA rfl (by trivial) ?_ (fun h=>by first | rfl | cases h)
 refine aO ?_;refine sq ?_;refine sq ?_;refine rl ?_;(iterate 5 refine o1 ?_);refine nl ?_;refine bl ?_
 have hinc0:aQ ((xs.map Fr4.q).map fl)=aQ (dW (xs.map Fr4.q) (0)):=by rw[Ec]
 refine lp (γ:=Nat) (fun t=>cG [(5,.one (.sl 0 0 (xs.length))),(44,.one (.sl 1 0 ((eN (xs.map Fr4.q)).toNat))),(45,.one (tv (.int .i64 (((eN (xs.map Fr4.q)).toNat:Nat):Int)))),(46,.one (tv (.int .i64 ((t:Nat):Int))))]) (fun t=>[(⟨24,2,eA (aQ (dW (xs.map Fr4.q) (t)))⟩:Ob),⟨3,1,(cI (cE (xs.map Fr4.q))).map .t⟩].map some) (fun t=>t≤(eN (xs.map Fr4.q)).toNat) (fun t=>(eN (xs.map Fr4.q)).toNat-t) 0 (Nat.zero_le _) (aH h0 [1,2] _ _ (by decide) ⟨rfl,rfl,rfl,rfl,trivial⟩ ⟨bI (congrArg (fun l=>some (⟨24,2,eA l⟩:Ob)) hinc0),bI rfl,rfl⟩) fun t ht=>?_
 refine sq ?_;refine rl ?_;refine o1 ?_;refine nl ?_;refine sq ?_;refine bN rfl (fun h2=>?_) (fun h2=>?_)
 ·refine sk ?_;refine sq ?_;refine bl ?_;refine sq ?_;refine rl ?_;refine o1 ?_;refine Jg (jZ (cE (xs.map Fr4.q)) (k:=t) (by omega)) ?_
  refine o1 ?_;refine nl ?_
  have hlt9:(nth (cE (xs.map Fr4.q)) (t))<xs.length:=by have h9:(nth (cE (xs.map Fr4.q)) (t))<(xs.map Fr4.q).length:=qI (f:=oB (xs.map Fr4.q)) (n:=(xs.map Fr4.q).length) (t:=t) (by rw[hll];omega);rwa[hll]at h9
  have hw9:(nth (cE (xs.map Fr4.q)) (t))<(aQ (dW (xs.map Fr4.q) (t))).length:=by rw[cX,iQ,hll];exact hlt9
  have hz9k:fS (aQ (dW (xs.map Fr4.q) (t))) (nth (cE (xs.map Fr4.q)) (t))=.of (cC (dW (xs.map Fr4.q) (t)) (nth (cE (xs.map Fr4.q)) (t))):=nL (by rw[iQ,hll];exact hlt9)
  have hK0:=EH (t:=t) hz9 hlt9 (by rw[hll])
  refine WP.sub (EK (j:=0) (key:=2) (e:=24) (ws:=(aQ (dW (xs.map Fr4.q) (t)))) (i:=(nth (cE (xs.map Fr4.q)) (t))) (z:=.of (cC (dW (xs.map Fr4.q) (t)) (nth (cE (xs.map Fr4.q)) (t)))) rfl rfl hw9 hz9k) ?_
  refine rd [0] (fun i=>[9].contains i) mixed ?_
  refine dv 0 ?_;refine dv 1 ?_;refine dv 2 ?_;refine dv 3 ?_;refine dv 4 ?_
  refine Mu 5 (us:=[tv (.bool (aF (cC (dW (xs.map Fr4.q) (t)) (nth (cE (xs.map Fr4.q)) (t))))),.sl 2 0 (dg 4294967296 ((cC (dW (xs.map Fr4.q) (t)) (nth (cE (xs.map Fr4.q)) (t)))).natAbs).length]) (Pt (z:=.of (cC (dW (xs.map Fr4.q) (t)) (nth (cE (xs.map Fr4.q)) (t)))) hw9 hz9k) ?_
  refine aI 6 rfl (jS (n:=1) (by omega) (by omega)) jT ⟨a1 rfl,rfl⟩ (kF 1) ?_
  refine iX 3 7 rfl (Cs (Zg.of (k:=(cC (dW (xs.map Fr4.q) (t)) (nth (cE (xs.map Fr4.q)) (t)))) hK0) (Zg.of (k:=1) (by decide))) Ms ⟨nY rfl (.cons .t (.cons (.sl rfl rfl (Iw _) (aU _)) .nil)),aB rfl,rfl⟩ ?_
  refine dv 8 ?_;refine Dw 9 (zT hw9) (Pu hw9) ?_;refine aO ?_
  refine WP.sub (KV (j:=0) (k1:=3) (e:=24) (ws:=(aQ (dW (xs.map Fr4.q) (t)))) (i:=(nth (cE (xs.map Fr4.q)) (t))) (z:=.of ((cC (dW (xs.map Fr4.q) (t)) (nth (cE (xs.map Fr4.q)) (t)))+1)) rfl hw9 rfl rfl) ?_
  refine rl ?_;refine o1 ?_;refine WL.cast (t:=59) (u':=.int .i64 ((t+1:Nat):Int)) rfl (aK (by omega)) ?_
  refine o1 ?_;refine nl ?_
  have hst:(aQ (dW (xs.map Fr4.q) (t))).set (nth (cE (xs.map Fr4.q)) (t)) (.of ((cC (dW (xs.map Fr4.q) (t)) (nth (cE (xs.map Fr4.q)) (t)))+1))=aQ (dW (xs.map Fr4.q) (t+1)):=by rw[uX,Ed (by rw[hll];omega)]
  exact⟨t+1,by omega,by omega,aH h0 [0,1] _ _ (by decide) ⟨rfl,rfl,rfl,rfl,trivial⟩ ⟨bI (congrArg (fun l=>some (⟨24,2,eA l⟩:Ob)) hst),bI rfl,rfl⟩⟩
 refine ex ?_;refine sq ?_;refine rl ?_;refine o1 ?_;refine o1 ?_;refine nl ?_;refine rt ?_
 have ht9:aQ (dW (xs.map Fr4.q) (t))=aQ (fD (xs.map Fr4.q)):=by rw[fD,show t=(eN (xs.map Fr4.q)).toNat by omega]
 have hl5:(aQ (fD (xs.map Fr4.q))).length=xs.length:=by rw[cX,qJ,hll]
 exact en (.inl rfl) rfl (aT (.one (.sl (trs:=(aQ (fD (xs.map Fr4.q))).flatMap (cH true)) rfl rfl (by rw[ht9,←hl5];exact oC _) (by rw[bO (eI true),hl5])))) (by decide) (fun h=>by cases h) (by unfold xZ;rw[hl5];rfl)
theorem Pv {xs:List Fr4}(hx:∀x∈xs,x.ok) (hl:xs.length≤1073741823):aD true Tryz.prog 49 [] [.one (.t (sQ false xs))] (aM (.one (tv (.bool (!(xs.any mJ)))))):=by
 refine bL Tryz.func49 rfl Tryz.ntmps49 rfl aA rfl fun N9 w9 c0 h0=>?_
 refine sq ?_;refine rl ?_;refine o1 ?_;refine nl ?_;refine sq ?_;refine rl ?_;refine o1 ?_
 refine ca (Pi (dl:=mJ) (fst:=[]) (caps:=[]) LO (fun x h=>Mo ⟨hx x h,rfl⟩) hl) DZ ⟨a1 rfl,a1 rfl,rfl⟩ (.one (tv (.bool (xs.any mJ)))) ?_
 refine o1 ?_;refine o1 ?_;refine nl ?_;refine rt ?_;exact qC (.inl rfl) rfl (rfl)
theorem yA {p:Rat}(hp:Sz 68719476736 p):aD true Tryz.prog 49 [] [.one (.t (sQ false [Fr4.of p]))] (aM (.one (tv (.bool (decide (p.den=1)))))):=by
 have h:=Pv (xs:=[Fr4.of p]) (fun x hx=>by rw[List.mem_singleton]at hx;subst hx;exact(Qn.of hp).1) (by simp)
 have e:(!([Fr4.of p].any mJ))=decide (p.den=1):=by
  rw[List.any_cons,List.any_nil,Bool.or_false,Tj p (Bp p),Bool.not_not]
 rwa[e]at h
theorem Tw {l:List Rat}{n:Nat}(hn:l.length=n) (hz:∀q∈l,Sz 1000 q) (hl:l.length≤1073741823):aD true Tryz.prog 51 [] [.agg [.t (.s false 50 4 n (l.flatMap cA))]] (aM (.one (tv (.bool (l.any fun x=>decide (x<0)))))):=by
 have h:=zO (xs:=eD l) (qD hz (by omega)) (by rw[gN];exact hl)
 rwa[AH,uT hn]at h
theorem Pw {xs:List Fr4}(hx:∀x∈xs,x.ok) (hz:∀x∈xs,Sz 1000 x.q) (hl:xs.length≤12) (hpos:¬(aC (xs.map Fr4.q))<0):aD false Tryz.prog 17 [] [.agg [.t (sQ false xs)]] (aM (.one (.t (xZ 24 (aQ (cD (xs.map Fr4.q))))))):=by
 refine Dq Tryz.func17 rfl Tryz.ntmps17 rfl aA rfl fun N9 w9 c0 h0=>?_
 have hll:(xs.map Fr4.q).length≤12:=by rw[List.length_map];exact hl
 have hzl:∀q∈(xs.map Fr4.q),Sz 1000 q:=fun q hq=>(by obtain⟨x,h9,rfl⟩:=List.mem_map.1 hq;exact hz x h9)
 have hzn:∀q∈(cZ (xs.map Fr4.q)),Sz 1000 q:=fun q hq=>(by obtain⟨p,h9,rfl⟩:=List.mem_map.1 hq;exact mP (hzl p h9))
 have hsz:Sz 20000 (aC (xs.map Fr4.q)):=(oU hzl).mono (by have:=Nat.mul_le_mul hll (Nat.le_refl 1001);omega)
 refine sq ?_;refine rl ?_;refine bx 0 ?_;refine o1 ?_;refine nl ?_;refine sq ?_;refine rl ?_;refine o1 ?_;refine ld ?_
 refine ca (Xe (B:=1000) (by omega) hx hz (by omega)) wS ⟨a1 rfl,rfl⟩ (qF (.of (aC (xs.map Fr4.q)))) ?_
 refine al 1 ?_;refine st ?_;refine nl ?_;refine sq ?_;refine bl ?_;refine sq ?_;refine rl ?_;refine ld ?_;refine bs 2 ?_
 refine WL.sub (EL (i:=12) (k:=2) (t:=48) (z:=4) (n:=1) (l:=[Fr4.of (aC (xs.map Fr4.q))].flatMap (Fr4.tr false)) 50 rfl rfl rfl rfl (.one .sl)) ?_
 refine ca (yA (p:=(aC (xs.map Fr4.q))) (hsz.mono (by omega))) EM ⟨a1 rfl,rfl⟩ (.one (tv (.bool (decide ((aC (xs.map Fr4.q)).den=1))))) ?_
 refine WL.splitb (t:=13) rfl (fun h1=>?_) (fun h1=>?_)
 ·refine o1 ?_;refine o1 ?_;refine nl ?_;refine gJ rfl ?_;refine sq ?_;have hden:(aC (xs.map Fr4.q)).den=1:=of_decide_eq_true h1
  refine rl ?_;refine ld ?_;refine ca (xY (Qn.of (p:=(aC (xs.map Fr4.q))) hsz)) Mt ⟨aB rfl,rfl⟩ (.one (tv (.int .i64 (aC (xs.map Fr4.q)).num.sign))) ?_;refine o1 ?_;refine o1 ?_
  refine nl ?_;refine bN rfl (fun h2=>?_) (fun h2=>?_)
  ·exact absurd (kK.1 h2) hpos
  refine sq ?_;have hS0:¬(aC (xs.map Fr4.q))<0:=fun h=>h2 (kK.2 h)
  refine rl ?_;refine ld ?_;refine ca (zO hx (by omega)) Tx ⟨nY rfl (.cons .t .nil),rfl⟩ (.one (tv (.bool (xs.any fun x=>decide (x.q<0))))) ?_
  refine o1 ?_;refine nl ?_;refine vY rfl (fun h3=>?_) (fun h3=>?_)
  ·refine sq ?_;refine rl ?_;refine o1 ?_;refine nl ?_;refine rt ?_;have hres:cD (xs.map Fr4.q)=[]:=wT hden hS0 (by rw[List.any_map];exact h3)
   refine vX (nr (i:=2) 3 24 2 rfl rfl rfl rfl) ?_;exact hH <| en (.inl rfl) rfl (aT (.one (.sl (trs:=[]) rfl rfl rfl rfl))) (by decide) (fun h=>by cases h) (by rw[hres];rfl)
  refine sk ?_;refine sq ?_;have h40:=h3
  refine rd [0,1] (fun i=>[4].contains i) mixed ?_
  refine aV 0 ?_;refine aV 1 ?_;refine aI 2 rfl (zL (Qn.of (p:=(aC (xs.map Fr4.q))) hsz)) Tv ⟨aB rfl,rfl⟩ (kF (fl (aC (xs.map Fr4.q)))) ?_
  refine iX 3 3 rfl (Bo (tot:=fl (aC (xs.map Fr4.q))) hx hz hzl hl hll hden (Ee hden)) EN ⟨nY rfl (.cons .t .nil),aB rfl,rfl⟩ ?_
  refine dE 4 (by kernel_rfl) rfl rfl aA rfl (by trivial) ?_ (fun h=>by first | rfl | cases h)
  refine aO ?_;refine rt ?_;have hres:cD (xs.map Fr4.q)=fD (xs.map Fr4.q):=uY hden hS0 (by rw[List.any_map];exact h40)
  exact hH <| en (.inl rfl) rfl (aT (.one (.sl (trs:=(aQ (fD (xs.map Fr4.q))).flatMap (cH true)) rfl rfl (oC _) (bO (eI true) _)))) (by decide) (fun h=>by cases h) (by rw[hres];rfl)
 refine o1 ?_;refine o1 ?_;refine nl ?_;refine lT rfl ?_;refine sq ?_;have hfr:(aC (xs.map Fr4.q)).den≠1:=of_decide_eq_false h1
 refine rl ?_;refine o1 ?_;refine nl ?_;refine rt ?_;have hres:cD (xs.map Fr4.q)=[]:=wU hfr
 refine vX (nr (i:=2) 3 24 2 rfl rfl rfl rfl) ?_;exact hH <| en (.inl rfl) rfl (aT (.one (.sl (trs:=[]) rfl rfl rfl rfl))) (by decide) (fun h=>by cases h) (by rw[hres];rfl)
theorem Ty {l:List Rat}{n:Nat}(hn:l.length=n) (hz:∀q∈l,Sz 1000 q) (hl:l.length≤12) (hpos:¬aC l<0):aD false Tryz.prog 17 [] [.agg [.t (.s false 50 4 n (l.flatMap cA))]] (aM (.one (.t (xZ 24 (aQ (cD l)))))):=by
 have h:=Pw (xs:=eD l) (qD hz (by omega)) (tE hz) (by rw[gN];exact hl) (by rw[uU];exact hpos)
 rwa[uU,uT hn]at h
theorem AI {xs:List Fr4}(hx:∀x∈xs,x.ok) (hz:∀x∈xs,Sz 1000 x.q) (hl:xs.length≤12):aD false Tryz.prog 17 [] [.agg [.t (sQ false xs)]] (aM (.one (.t (xZ 24 (aQ (cD (xs.map Fr4.q))))))):=by
 refine Dq Tryz.func17 rfl Tryz.ntmps17 rfl aA rfl fun N9 w9 c0 h0=>?_
 have hll:(xs.map Fr4.q).length≤12:=by rw[List.length_map];exact hl
 have hzl:∀q∈(xs.map Fr4.q),Sz 1000 q:=fun q hq=>(by obtain⟨x,h9,rfl⟩:=List.mem_map.1 hq;exact hz x h9)
 have hzn:∀q∈(cZ (xs.map Fr4.q)),Sz 1000 q:=fun q hq=>(by obtain⟨p,h9,rfl⟩:=List.mem_map.1 hq;exact mP (hzl p h9))
 have hsz:Sz 20000 (aC (xs.map Fr4.q)):=(oU hzl).mono (by have:=Nat.mul_le_mul hll (Nat.le_refl 1001);omega)
 refine sq ?_;refine rl ?_;refine bx 0 ?_;refine o1 ?_;refine nl ?_;refine sq ?_;refine rl ?_;refine o1 ?_;refine ld ?_
 refine ca (Xe (B:=1000) (by omega) hx hz (by omega)) wS ⟨a1 rfl,rfl⟩ (qF (.of (aC (xs.map Fr4.q)))) ?_
 refine al 1 ?_;refine st ?_;refine nl ?_;refine sq ?_;refine bl ?_;refine sq ?_;refine rl ?_;refine ld ?_;refine bs 2 ?_
 refine WL.sub (EL (i:=12) (k:=2) (t:=48) (z:=4) (n:=1) (l:=[Fr4.of (aC (xs.map Fr4.q))].flatMap (Fr4.tr false)) 50 rfl rfl rfl rfl (.one .sl)) ?_
 refine ca (yA (p:=(aC (xs.map Fr4.q))) (hsz.mono (by omega))) EM ⟨a1 rfl,rfl⟩ (.one (tv (.bool (decide ((aC (xs.map Fr4.q)).den=1))))) ?_
 refine WL.splitb (t:=13) rfl (fun h1=>?_) (fun h1=>?_)
 ·refine o1 ?_;refine o1 ?_;refine nl ?_;refine gJ rfl ?_;refine sq ?_;have hden:(aC (xs.map Fr4.q)).den=1:=of_decide_eq_true h1
  refine rl ?_;refine ld ?_;refine ca (xY (Qn.of (p:=(aC (xs.map Fr4.q))) hsz)) Mt ⟨aB rfl,rfl⟩ (.one (tv (.int .i64 (aC (xs.map Fr4.q)).num.sign))) ?_;refine o1 ?_;refine o1 ?_
  refine nl ?_;refine bN rfl (fun h2=>?_) (fun h2=>?_)
  ·refine sq ?_;have hS0:(aC (xs.map Fr4.q))<0:=kK.1 h2
   refine rl ?_;refine ld ?_
   refine ca (Tt hx (by omega)) LP ⟨nY rfl (.cons .t .nil),rfl⟩ (.agg [.t (.s false 48 4 (xs.map fun x=>-x.q).length ((xs.map fun x=>-x.q).flatMap cA))]) ?_
   refine WL.sub (KW (i:=20) (t':=50) rfl rfl) ?_;have e20:(xs.map fun x=>-x.q)=(cZ (xs.map Fr4.q)):=by unfold cZ;rw[List.map_map];rfl
   rw[e20];refine al 3 ?_;refine st ?_;refine nl ?_;refine sq ?_;refine sq ?_;refine rl ?_;refine ld ?_
   refine ca (Tw (l:=(cZ (xs.map Fr4.q))) (n:=(cZ (xs.map Fr4.q)).length) rfl hzn (by rw[rM,List.length_map];omega)) Tx ⟨nY rfl (.cons .t .nil),rfl⟩ (.one (tv (.bool ((cZ (xs.map Fr4.q)).any fun x=>decide (x<0))))) ?_
   refine nl ?_;refine vY rfl (fun h3=>?_) (fun h3=>?_)
   ·refine sq ?_;refine rl ?_;refine o1 ?_;refine nl ?_;refine rt ?_;have hres:cD (xs.map Fr4.q)=[]:=Ef hden hS0 h3
    refine vX (nr (i:=2) 4 24 2 rfl rfl rfl rfl) ?_;exact hH <| en (.inl rfl) rfl (aT (.one (.sl (trs:=[]) rfl rfl rfl rfl))) (by decide) (fun h=>by cases h) (by rw[hres];rfl)
   refine sk ?_;refine sq ?_;have h22:=h3
   refine rl ?_;refine ld ?_
   refine fK 4 (Ty (l:=(cZ (xs.map Fr4.q))) (n:=(cZ (xs.map Fr4.q)).length) rfl hzn (by rw[rM,List.length_map];omega) (Eg hS0)) EO ⟨nY rfl (.cons .t .nil),rfl⟩ ?_
   refine o1 ?_;refine nl ?_;refine sq ?_;refine sq ?_;refine rl ?_;(iterate 3 refine o1 ?_);refine nl ?_;refine bl ?_
   refine lp (γ:=Nat) (fun t=>cG [(5,.one (.sl 0 0 ((aQ (cD (cZ (xs.map Fr4.q)))).length))),(26,.one (tv (.int .i64 (((aQ (cD (cZ (xs.map Fr4.q)))).length:Nat):Int)))),(27,.one (tv (.int .i64 ((t:Nat):Int))))]) (fun t=>[(⟨24,2,eA (aQ (gZ (fun x=>-x) (cD (cZ (xs.map Fr4.q))) (t)))⟩:Ob)].map some) (fun t=>t≤(aQ (cD (cZ (xs.map Fr4.q)))).length) (fun t=>(aQ (cD (cZ (xs.map Fr4.q)))).length-t) 0 (Nat.zero_le _) (aH h0 [4] _ _ (by decide) ⟨rfl,rfl,rfl,trivial⟩ ⟨bI rfl,rfl⟩) fun t ht=>?_
   refine sq ?_;refine rl ?_;refine o1 ?_;refine nl ?_;refine sq ?_;refine bN rfl (fun h4=>?_) (fun h4=>?_)
   ·refine sk ?_;refine sq ?_;refine bl ?_;refine sq ?_;refine rl ?_;refine o1 ?_;refine o1 ?_;refine nl ?_
    have hw12:(cD (cZ (xs.map Fr4.q))).length≤12:=Nat.le_trans Eh (by rw[rM];exact hll)
    have hw7:(aQ (cD (cZ (xs.map Fr4.q)))).length=(cD (cZ (xs.map Fr4.q))).length:=cX _
    have hw8:t<(cD (cZ (xs.map Fr4.q))).length:=by omega
    have hw9:t<(aQ (gZ (fun x=>-x) (cD (cZ (xs.map Fr4.q))) (t))).length:=by rw[cX,mA];exact hw8
    have hz9k:fS (aQ (gZ (fun x=>-x) (cD (cZ (xs.map Fr4.q))) (t))) t=.of (cC (cD (cZ (xs.map Fr4.q))) t):=(nL (by rw[mA];exact hw8)).trans (by rw[Jh hw8])
    have hK0:=Nat.le_trans (Ji hzn _ (kL hw8)) (show 1000+2≤300000000000 by omega)
    refine WP.sub (EK (j:=0) (key:=1) (e:=24) (ws:=(aQ (gZ (fun x=>-x) (cD (cZ (xs.map Fr4.q))) (t)))) (i:=t) (z:=.of (cC (cD (cZ (xs.map Fr4.q))) t)) rfl rfl hw9 hz9k) ?_
    refine rl ?_;(iterate 5 refine o1 ?_)
    refine ED (us:=[tv (.bool (aF (cC (cD (cZ (xs.map Fr4.q))) t))),.sl 1 0 (dg 4294967296 ((cC (cD (cZ (xs.map Fr4.q))) t)).natAbs).length]) (Pt (z:=.of (cC (cD (cZ (xs.map Fr4.q))) t)) hw9 hz9k) ?_
    refine fK 2 (Mv (Zg.of (k:=(cC (cD (cZ (xs.map Fr4.q))) t)) hK0)) Tz ⟨nY rfl (.cons .t (.cons (.sl rfl rfl (Iw _) (aU _)) .nil)),rfl⟩ ?_;refine o1 ?_
    refine qE (zT hw9) (Pu hw9) ?_;refine nl ?_
    refine WP.sub (KV (j:=0) (k1:=2) (e:=24) (ws:=(aQ (gZ (fun x=>-x) (cD (cZ (xs.map Fr4.q))) (t)))) (i:=t) (z:=.of (-((cC (cD (cZ (xs.map Fr4.q))) t)))) rfl hw9 rfl rfl) ?_
    refine rl ?_;refine o1 ?_;refine WL.cast (t:=38) (u':=.int .i64 ((t+1:Nat):Int)) rfl (aK (by omega)) ?_
    refine o1 ?_;refine nl ?_
    have hst:(aQ (gZ (fun x=>-x) (cD (cZ (xs.map Fr4.q))) (t))).set t (.of (-((cC (cD (cZ (xs.map Fr4.q))) t))))=aQ (gZ (fun x=>-x) (cD (cZ (xs.map Fr4.q))) (t+1)):=by rw[uX,←Xk hw8]
    exact⟨t+1,by omega,by omega,aH h0 [0] _ _ (by decide) ⟨rfl,rfl,rfl,trivial⟩ ⟨bI (congrArg (fun l=>some (⟨24,2,eA l⟩:Ob)) hst),rfl⟩⟩
   refine ex ?_;refine sq ?_;refine rl ?_;refine o1 ?_;refine o1 ?_;refine nl ?_;refine rt ?_
   have hres:(gZ (fun x=>-x) (cD (cZ (xs.map Fr4.q))) (t))=cD (xs.map Fr4.q):=by rw[Jj (by rw[←cX];omega),Xl hden hS0 h22]
   have hl5:(aQ (cD (cZ (xs.map Fr4.q)))).length=(aQ (cD (xs.map Fr4.q))).length:=by rw[←hres,cX,cX,mA]
   exact hH <| en (.inl rfl) rfl (aT (.one (.sl (trs:=(aQ (cD (xs.map Fr4.q))).flatMap (cH true)) rfl rfl (by rw[hres,hl5];exact oC _) (by rw[bO (eI true),hl5])))) (by decide) (fun h=>by cases h) (by unfold xZ;rw[hl5];rfl)
  refine sq ?_;have hS0:¬(aC (xs.map Fr4.q))<0:=fun h=>h2 (kK.2 h)
  refine rl ?_;refine ld ?_;refine ca (zO hx (by omega)) Tx ⟨nY rfl (.cons .t .nil),rfl⟩ (.one (tv (.bool (xs.any fun x=>decide (x.q<0))))) ?_
  refine o1 ?_;refine nl ?_;refine vY rfl (fun h5=>?_) (fun h5=>?_)
  ·refine sq ?_;refine rl ?_;refine o1 ?_;refine nl ?_;refine rt ?_;have hres:cD (xs.map Fr4.q)=[]:=wT hden hS0 (by rw[List.any_map];exact h5)
   refine vX (nr (i:=2) 3 24 2 rfl rfl rfl rfl) ?_;exact hH <| en (.inl rfl) rfl (aT (.one (.sl (trs:=[]) rfl rfl rfl rfl))) (by decide) (fun h=>by cases h) (by rw[hres];rfl)
  refine sk ?_;refine sq ?_;have h40:=h5
  refine rd [0,1] (fun i=>[4].contains i) mixed ?_
  refine aV 0 ?_;refine aV 1 ?_;refine aI 2 rfl (zL (Qn.of (p:=(aC (xs.map Fr4.q))) hsz)) Tv ⟨aB rfl,rfl⟩ (kF (fl (aC (xs.map Fr4.q)))) ?_
  refine iX 3 3 rfl (Bo (tot:=fl (aC (xs.map Fr4.q))) hx hz hzl hl hll hden (Ee hden)) EN ⟨nY rfl (.cons .t .nil),aB rfl,rfl⟩ ?_
  refine dE 4 (by kernel_rfl) rfl rfl aA rfl (by trivial) ?_ (fun h=>by first | rfl | cases h)
  refine aO ?_;refine rt ?_;have hres:cD (xs.map Fr4.q)=fD (xs.map Fr4.q):=uY hden hS0 (by rw[List.any_map];exact h40)
  exact hH <| en (.inl rfl) rfl (aT (.one (.sl (trs:=(aQ (fD (xs.map Fr4.q))).flatMap (cH true)) rfl rfl (oC _) (bO (eI true) _)))) (by decide) (fun h=>by cases h) (by rw[hres];rfl)
 refine o1 ?_;refine o1 ?_;refine nl ?_;refine lT rfl ?_;refine sq ?_;have hfr:(aC (xs.map Fr4.q)).den≠1:=of_decide_eq_false h1
 refine rl ?_;refine o1 ?_;refine nl ?_;refine rt ?_;have hres:cD (xs.map Fr4.q)=[]:=wU hfr
 refine vX (nr (i:=2) 3 24 2 rfl rfl rfl rfl) ?_;exact hH <| en (.inl rfl) rfl (aT (.one (.sl (trs:=[]) rfl rfl rfl rfl))) (by decide) (fun h=>by cases h) (by rw[hres];rfl)
theorem Ua {l:List Rat}{n:Nat}(hn:l.length=n) (hz:∀q∈l,Sz 1000 q) (hl:l.length≤12):aD false Tryz.prog 17 [] [.agg [.t (.s false 50 4 n (l.flatMap cA))]] (aM (.one (.t (xZ 24 (aQ (cD l)))))):=by
 have h:=AI (xs:=eD l) (qD hz (by omega)) (tE hz) (by rw[gN];exact hl)
 rwa[uU,uT hn]at h
theorem Px {b:Int}{n:Nat}(h:lF b n≠0):b<0∨(n:Int)≤b:=by
 unfold lF at h
 split at h
 ·assumption
 exact absurd rfl h
theorem Jk:cD []=[]:=by
 have h:(aC []).den=1:=rfl
 rw[uY h (by rw[Ei];decide) rfl]
 rfl
theorem zU {T:Rat}{b:Int}{xs:List Fr4}(hl:xs.length≤12):(bU T b (xs.map Fr4.q)).length≤12:=by
 unfold bU
 split
 ·simp
 split <;> simp <;> omega
theorem Ej {k b:Int}{xs:List Fr4}(hk:iV 6 k) (hz:∀x∈xs,Sz 7 x.q) (hl:xs.length≤12):∀q∈bU (k:Rat) b (xs.map Fr4.q),Sz 1000 q:=fun q hq=>by
 have hT:Sz 7 (k:Rat):=zR (Nat.le_trans hk (by omega)) (by omega)
 have hab:∀q∈(xs.map Fr4.q).map aX,Sz 7 q:=fun q hq=>by
  rw[zP]at hq
  obtain⟨x,hx9,rfl⟩:=List.mem_map.1 hq
  exact zQ (hz x hx9) (by omega)
 have hS:Sz 98 (aC ((xs.map Fr4.q).map aX)):=(oU hab).mono (by
  have h9:((xs.map Fr4.q).map aX).length=xs.length:=by simp
  rw[h9]
  omega)
 unfold bU at hq
 split at hq
 ·cases hq
 split at hq
 ·rcases List.mem_or_eq_of_mem_set hq with h | rfl
  ·rw[List.eq_of_mem_replicate h]
   exact(lD (z:=0) (by omega) (by omega)).mono (by omega)
  exact hT.mono (by omega)
 obtain⟨w,hw,rfl⟩:=List.mem_map.1 hq
 exact(EP (mR hT (hab _ (List.mem_map.2 ⟨w,hw,rfl⟩))) hS).mono (by omega)
theorem yB {a:Zi}{k b:Int}{xs:List Fr4}(ha:Zn a k) (hk:iV 6 k) (hx:∀x∈xs,x.ok) (hz:∀x∈xs,Sz 7 x.q) (hl:xs.length≤12):aD false Tryz.prog 13 [] [gF a,.one (tv (.int .i64 b)),.one (.t (sQ false xs))] (aM (.tup [.one (.t (xZ 24 (aQ (cD (bU (k:Rat) b (xs.map Fr4.q)))))),.one (tv (.int .i64 (lF b xs.length)))])):=by
 refine Dq Tryz.func13 rfl Tryz.ntmps13 rfl aA rfl fun N9 w9 c0 h0=>?_
 refine sq ?_;refine rl ?_;refine bx 0 ?_;refine o1 ?_;refine o1 ?_;refine nl ?_;refine sq ?_;refine rl ?_;refine ld ?_;refine o1 ?_;refine o1 ?_
 refine ca (EC ha hk hx hz hl) EQ ⟨aB rfl,a1 rfl,a1 rfl,rfl⟩ (.tup [.agg [.t (.s false 48 4 (bU (k:Rat) b (xs.map Fr4.q)).length ((bU (k:Rat) b (xs.map Fr4.q)).flatMap cA))],.one (tv (.int .i64 (lF b xs.length)))]) ?_
 refine o1 ?_;refine o1 ?_;refine WL.sub (KW (i:=15) (t':=50) rfl rfl) ?_;refine o1 ?_;refine al 1 ?_;refine st ?_;refine o1 ?_;refine nl ?_;refine sq ?_;refine sq ?_;refine rl ?_
 refine o1 ?_;refine o1 ?_;refine nl ?_;refine bN rfl (fun h1=>?_) (fun h1=>?_)
 ·refine sq ?_;refine rl ?_;(iterate 3 refine o1 ?_);refine nl ?_;refine rt ?_;have hb9:=Px h1
  have hX:(bU (k:Rat) b (xs.map Fr4.q))=[]:=nK (by rw[List.length_map];exact hb9)
  refine vX (nr (i:=6) 2 24 2 rfl rfl rfl rfl) ?_
  exact hH <| en (.inl rfl) rfl (hG (.cons (.one (.sl (trs:=[]) rfl rfl rfl rfl)) (.cons (bZ _) .nil))) (by decide) (fun h=>by cases h) (by rw[hX,Jk];rfl)
 refine sk ?_;refine sq ?_;refine rl ?_;refine ld ?_
 refine fK 2 (Ua (l:=(bU (k:Rat) b (xs.map Fr4.q))) (n:=(bU (k:Rat) b (xs.map Fr4.q)).length) rfl (Ej hk hz hl) (zU hl)) EO ⟨nY rfl (.cons .t .nil),rfl⟩ ?_
 refine o1 ?_;refine o1 ?_;refine nl ?_;refine rt ?_;have hE0:(lF b xs.length)=0:=Decidable.byContradiction h1
 exact hH <| en (.inl rfl) rfl (hG (.cons (.one (.sl (trs:=(aQ (cD (bU (k:Rat) b (xs.map Fr4.q)))).flatMap (cH true)) rfl rfl (oC _) (bO (eI true) _))) (.cons (bZ _) .nil))) (by decide) (fun h=>by cases h) (by rw[hE0];rfl)
end Go.Proofs.YthmgbcdidlkpoaaGreat
namespace Go.Proofs.YthmgbcdidlkpoaaGreat
open Go Go.RowKit Go.ChangeShapes
def Reads (P:Program) (t:TypeId) (z:Nat) (T:List Tr→Prop):Prop:=
 P.cellsOf t=z∧∀(H:Type) (enc:TypeId×Value→H) (w:World) (fuel:Nat) (cs:List Value) (x:DataW H×List MemPlace),DataW.trod enc P w 0 (fun _=>true) true fuel t cs=some x→∃l,T l∧l.length=z∧FRL w (vW w) l cs
theorem Jl {W:World}{N:Nat→Prop}:∀{l l':List Tr}{us us':List Value},FRL W N l us→FRL W N l' us'→FRL W N (l++l') (us++us')
 | [],l',us,us',h,h'=>by simp only[FRL]at h;subst h;exact h'
 | x::l,l',u::us,us',h,h'=>by simp only[FRL,List.cons_append]at*;exact⟨h.1,Jl h.2 h'⟩
 | _::_,_,[],_,h,_=>by simp only[FRL]at h
theorem Jm {W:World}{N:Nat→Prop}:∀{l:List Tr}{us:List Value}{j:Nat}{x:Tr},FRL W N l us→l[j]? =some x→∃u,us[j]? =some u∧FR W N x u
 | [],_,_,_,_,h=>by simp at h
 | y::l,u::us,0,x,h,e=>by
  simp only[FRL]at h
  simp at e
  subst e
  exact⟨u,rfl,h.1⟩
 | y::l,u::us,j+1,x,h,e=>by
  simp only[FRL]at h
  exact Jm (j:=j) h.2 (by simpa using e)
 | _::_,[],_,_,h,_=>by simp only[FRL]at h
section
variable {P:Program}{t e:TypeId}{k:IntKind}{z:Nat}{T T':List Tr→Prop}
theorem Reads.mono (h:Reads P t z T) (hi:∀l,T l→T' l):Reads P t z T':=⟨h.1,fun H enc w fuel cs x hx=>let ⟨l,a,b⟩:=h.2 H enc w fuel cs x hx;⟨l,hi l a,b⟩⟩
theorem AJ (ht:P.underlying t=some .bool) (hz:P.cellsOf t=1):Reads P t 1 (fun l=>∃b,l=[.v (.bool b)]):=⟨hz,fun H enc w fuel cs x hx=>by
 obtain⟨b,rfl,_⟩:=DataW.trod_bool ht hx
 exact⟨_,⟨b,rfl⟩,rfl,by simp[FRL,FR]⟩⟩
theorem Py (ht:P.underlying t=some (.int k)) (hz:P.cellsOf t=1):Reads P t 1 (fun l=>∃n,l=[.v (.int k n)]∧k.min≤n∧n≤k.max):=⟨hz,fun H enc w fuel cs x hx=>by
 obtain⟨n,rfl,_,h⟩:=DataW.trod_int ht hx
 simp only[Lit.wf,Bool.and_eq_true,decide_eq_true_eq]at h
 exact⟨_,⟨n,rfl,h⟩,rfl,by simp[FRL,FR]⟩⟩
inductive Flds (P:Program):Nat→List Field→Nat→(List Tr→Prop)→Prop
 | nil {o:Nat}:Flds P o [] 0 (· =[])
 | cons {o z z':Nat}{f:Field}{fs:List Field}{T T':List Tr→Prop}(ho:f.offset=o) (h:Reads P f.type z T) (h':Flds P (o+z) fs z' T'):Flds P o (f::fs) (z+z') (fun l=>∃a b,l=a++b∧T a∧T' b)
theorem Flds.read {H:Type}{enc:TypeId×Value→H}{w:World}{n o:Nat}{fs:List Field}(h:Flds P o fs z T):∀{cs:List Value},o+z≤cs.length→(∀f∈fs,∃x,DataW.trod enc P w 0 (fun _=>true) true n f.type ((cs.drop f.offset).take (P.cellsOf f.type))=some x)→∃l,T l∧l.length=z∧FRL w (vW w) l ((cs.drop o).take z):=by
 induction h with
 | nil=>exact fun _ _=>⟨[],rfl,rfl,by simp[FRL]⟩
 | @cons o z z' f fs T T' ho hr _ ih=>
  intro cs hl hf
  obtain⟨b,h1,h2,h3⟩:=ih (cs:=cs) (by omega) fun f hm=>hf f (List.mem_cons_of_mem _ hm)
  obtain⟨x,hx⟩:=hf f List.mem_cons_self
  obtain⟨a,g1,g2,g3⟩:=hr.2 H enc w n _ x hx
  rw[ho,hr.1]at g3
  refine⟨a++b,⟨a,b,rfl,g1,h1⟩,by simp[g2,h2],?_⟩
  rw[List.take_add,List.drop_drop]
  exact Jl g3 h3
theorem Bq {fs:List Field}{z':Nat}(ht:P.underlying t=some (.struct fs.toArray)) (hz:P.cellsOf t=z) (h:Flds P 0 fs z' T) (e:z'=z:=by rfl):Reads P t z T:=⟨hz,fun H enc w fuel cs x hx=>by
 subst e
 obtain⟨xs,n,_,rfl,hl,hlen,hf⟩:=DataW.trod_struct ht hx
 rw[hz]at hl
 obtain⟨l,h1,h2,h3⟩:=h.read (H:=H) (enc:=enc) (w:=w) (n:=n) (cs:=cs) (by omega) fun f hm=>by
  obtain⟨i,hi⟩:=List.mem_iff_getElem?.1 hm
  have h1:=hf i f (by simpa using hi)
  have h2:i<xs.length:=by
   have:=(List.getElem?_eq_some_iff.1 hi).1
   simp at hlen
   omega
  rw[List.getElem?_eq_getElem h2]at h1
  exact⟨_,h1⟩
 refine⟨l,h1,h2,?_⟩
 rw[List.drop_zero,List.take_of_length_le (by omega)]at h3
 exact h3⟩
theorem Ek (ht:P.underlying t=some (.slice e)) (hz:P.cellsOf t=1) (hz0:0<z) (h:Reads P e z T):Reads P t 1 (fun l=>∃rows:List (List Tr),(∀r∈rows,T r∧r.length=z)∧l=[.s false e z rows.length rows.flatten]):=⟨hz,fun H enc w fuel cs x hx=>by
 have hlen:∀(rows:List (List Tr)),(∀r∈rows,T r∧r.length=z)→rows.flatten.length=rows.length*z:=by
  intro rows
  induction rows with
  | nil=>intro _;simp
  | cons r rows ih=>
   intro hr
   rw[List.flatten_cons,List.length_append,(hr r List.mem_cons_self).2,ih fun r hm=>hr r (List.mem_cons_of_mem _ hm),List.length_cons,Nat.succ_mul,Nat.add_comm]
 rcases Deep.open_slice ht hx with⟨rfl,_⟩ | ⟨a,len,cap,m,n,D,Pl,rfl,_,hl,hm,hmm,_,hel⟩
 ·refine⟨_,⟨[],fun _ h=>(by cases h),rfl⟩,rfl,?_⟩
  simp only[FRL,FR,and_true]
  exact⟨none,0,rfl,Nat.le_refl _,by omega,by simp,.inl rfl⟩
 have hmc:m=cap:=by simpa using hmm
 rw[h.1]at hel
 have hex:∀i:Nat,∃l:List Tr,i<len→T l∧l.length=z∧∀j y,l[j]? =some y→∃u,w.cell? ((a.add (i*z)).add j)=some u∧FR w (vW w) y u:=fun i=>by
  by_cases hi:i<len
  ·obtain⟨cs',h1,h2⟩:=hel i (by omega)
   obtain⟨l,g1,g2,g3⟩:=h.2 H enc w n cs' _ h2
   obtain⟨_,h3,h4⟩:=World.cells?_some h1
   refine⟨l,fun _=>⟨g1,g2,fun j y hj=>?_⟩⟩
   obtain⟨u,hu,hy⟩:=Jm g3 hj
   have hjl:=(List.getElem?_eq_some_iff.1 hj).1
   exact⟨u,by rw[h4 j (by omega),hu],hy⟩
  exact⟨[],fun h=>absurd h hi⟩
 have hF:=fun i=>Classical.choose_spec (hex i)
 have hrow:∀r∈(List.range len).map (fun i=>Classical.choose (hex i)),T r∧r.length=z:=fun r hr=>by
  obtain⟨i,hi,rfl⟩:=List.mem_map.1 hr
  have:=hF i (List.mem_range.1 hi)
  exact⟨this.1,this.2.1⟩
 refine⟨_,⟨_,hrow,rfl⟩,rfl,?_⟩
 have h5:=hlen _ hrow
 simp only[FRL,and_true,FR]
 refine⟨some a,cap,by simp,by simpa using hl,by unfold maxLen at hm;omega,h5,?_⟩
 rcases Nat.eq_zero_or_pos len with h0 | h0
 ·exact .inl (by simp[h0])
 refine .inr ⟨a,rfl,?_,tH fun j y hj=>?_⟩
 ·obtain⟨_,g2,g3⟩:=hF 0 h0
  obtain⟨u,hu,_⟩:=g3 0 _ (List.getElem?_eq_getElem (by omega))
  have:=World.block_lt_of_cell? w ((a.add (0*z)).add 0) hu
  rwa[iB,iB]at this
 have hjl:=(List.getElem?_eq_some_iff.1 hj).1
 rw[h5,List.length_map,List.length_range]at hjl
 have hi:j/z<len:=Nat.div_lt_of_lt_mul (by rw[Nat.mul_comm];exact hjl)
 obtain⟨_,g2,g3⟩:=hF (j/z) hi
 have hz1:=Nat.mod_lt j hz0
 have hget:∀(rows:List (List Tr)),(∀r∈rows,T r∧r.length=z)→∀(i o:Nat) (r:List Tr),rows[i]? =some r→o<z→rows.flatten[i*z+o]? =r[o]? :=by
  intro rows
  induction rows with
  | nil=>intro _ i o r h;simp at h
  | cons r rows ih=>
   intro hr i o r' hi ho
   have hrl:=(hr r List.mem_cons_self).2
   cases i with
   | zero=>
    simp at hi
    subst hi
    rw[Nat.zero_mul,Nat.zero_add,List.flatten_cons,List.getElem?_append_left (by omega)]
   | succ i=>
    rw[List.flatten_cons,List.getElem?_append_right (by rw[Nat.succ_mul];omega),hrl,show(i+1)*z+o-z=i*z+o by rw[Nat.succ_mul];omega]
    exact ih (fun r hm=>hr r (List.mem_cons_of_mem _ hm)) i o r' (by simpa using hi) ho
 have hd:=Nat.div_add_mod j z
 rw[Nat.mul_comm]at hd
 rw[←hd,hget _ hrow (j/z) (j%z) (Classical.choose (hex (j/z))) (by simp[hi]) hz1]at hj
 obtain⟨u,hu,hy⟩:=g3 _ _ hj
 refine⟨u,?_,hy⟩
 rw[Nat.zero_add]
 have e2:(a.add (j/z*z)).add (j%z)=a.add j:=by rw[uO,hd]
 rwa[e2]at hu⟩
theorem zV {α:Type}(f:α→List Tr) (Q:α→Prop):∀{rows:List (List Tr)},(∀r∈rows,∃a,Q a∧r=f a)→∃xs:List α,(∀a∈xs,Q a)∧rows.flatten=xs.flatMap f∧rows.length=xs.length
 | [],_=>⟨[],fun _ h=>(by cases h),rfl,rfl⟩
 | r::rows,h=>by
  obtain⟨a,h1,rfl⟩:=h r List.mem_cons_self
  obtain⟨xs,h2,h3,h4⟩:=zV f Q fun r hm=>h r (List.mem_cons_of_mem _ hm)
  exact⟨a::xs,fun b hb=>(List.mem_cons.1 hb).elim (fun e=>e▸h1) (h2 b),by simp[h3],by simp[h4]⟩
theorem Ub (ht:P.underlying t=some (.slice e)) (he:P.underlying e=some (.int .u32)) (hz:P.cellsOf t=1) (hze:P.cellsOf e=1) (hn:e=51):Reads P t 1 (fun l=>∃xs:List Nat,Lim 4294967296 xs∧l=[sU false xs]):=
 (Ek ht hz (by omega) (Py he hze)).mono fun l ⟨rows,h1,h2⟩=>by
  obtain⟨xs,h3,h4,h5⟩:=zV (fun n:Nat=>[Tr.v (.int .u32 (n:Int))]) (fun n=>n<4294967296) (rows:=rows) fun r hr=>by
   obtain⟨⟨n,rfl,h1,h2⟩,_⟩:=h1 r hr
   have e1:IntKind.u32.min=0:=rfl
   have e2:IntKind.u32.max=4294967295:=rfl
   rw[e1]at h1
   rw[e2]at h2
   exact⟨n.toNat,by omega,by rw[Int.toNat_of_nonneg h1]⟩
  refine⟨xs,h3,?_⟩
  rw[h2,h4,h5,sU,hn]
  have:∀xs:List Nat,xs.flatMap (fun n:Nat=>[Tr.v (.int .u32 (n:Int))])=aL xs:=by
   intro xs
   induction xs with
   | nil=>rfl
   | cons n xs ih=>rw[List.flatMap_cons,ih];rfl
  rw[this]
theorem AK (hb:Reads P t z (fun l=>∃a b,l=a++b∧(∃s,a=[.v (.bool s)])∧∃b' c',b=b'++c'∧(∃xs:List Nat,Lim 4294967296 xs∧b'=[sU false xs])∧c'=[])):Reads P t z (fun l=>∃(s:Bool) (xs:List Nat),Lim 4294967296 xs∧l=[.v (.bool s),sU false xs]):=
 hb.mono fun l ⟨a,b,h1,⟨s,h2⟩,b',c',h3,⟨xs,h4,h5⟩,h6⟩=>⟨s,xs,h4,by rw[h1,h2,h3,h5,h6];rfl⟩
end
def LimF (a:Fr4):Prop:=Lim 4294967296 a.x∧Lim 4294967296 a.y
theorem LimF.ok {a:Fr4}(h:LimF a) (h2:a.x.length≤6∧a.y.length≤6):a.ok:=⟨h.1,h.2,by omega,by omega⟩
end Go.Proofs.YthmgbcdidlkpoaaGreat
namespace Go.Proofs.YthmgbcdidlkpoaaGreat
open Go Go.RowKit
section
variable {x:Cx}{g:Nat→FV}{ob:List (Option Ob)}{Q:Post}
theorem WP.sln {c:Code}{i t z n:Nat}{o:Bool}{l:List Tr}(hlk:lk x.n g (.tmp i)=.one (.t (.s o t z n l))) (k:n≤9223372036854775807→WP x c g ob Q):WP x c g ob Q:=fun ts W hR=>by
 obtain⟨cs,hR'⟩:=hR
 have h1:=hR'.lk (.tmp i)
 rw[hlk]at h1
 simp only[bG,bQ,AR,FR]at h1
 obtain⟨A,c9,_,h2,h3,_⟩:=h1
 exact k (by omega) ts W ⟨cs,hR'⟩
theorem Pz {i t t' z n:Nat}{o:Bool}{l l':List Tr}(hi:Nat.blt i x.n=true) (h:g i=.one (.t (.s o t z n l))) (hr:rdTL l=l'):Sub x g ob (aZ g i (.one (.t (.s false t' z n l')))) ob:=xT hi fun W N cs u hu=>by
 subst hr
 rw[h]at hu
 simp only[bG,bQ,AR]at hu⊢
 have h2:=El _ _ hu
 simp only[tI,FR]at h2⊢
 exact h2
end
def hJ (x:Fr4):Bool:=decide (x.x.length≤6)&&decide (x.y.length≤6)
def tJ (a:Zi) (xs:List Fr4):Bool:=xs.all hJ&&(decide (a.x.length≤6)&&decide (xs.length≤12))
section
variable {a:Zi}{xs:List Fr4}{k:Nat}
theorem Jn (h:k<xs.length) (h2:hJ (aS xs k)=false):false=tJ a xs:=by
 have:xs.all hJ=false:=List.all_eq_false.2 ⟨_,bJ h,by rw[h2];simp⟩
 unfold tJ
 rw[this]
 rfl
theorem Uc {p:Fr4→Bool}(h:∀j,j<k→p (aS xs j)=true) (hk:xs.length≤k):xs.all p=true:=List.all_eq_true.2 fun x hx=>by
 obtain⟨j,hj⟩:=List.mem_iff_getElem?.1 hx
 have hl:=(List.getElem?_eq_some_iff.1 hj).1
 rw[fY hl]at hj
 rw[←Option.some.inj hj]
 exact h j (by omega)
theorem Em (h:∀j,j<k→hJ (aS xs j)=true) (hk:xs.length≤k):(decide (a.x.length≤6)&&decide (xs.length≤12))=tJ a xs:=by
 unfold tJ
 rw[Uc h hk]
 rfl
theorem Ud (h:tJ a xs=true):(∀x∈xs,x.x.length≤6∧x.y.length≤6)∧a.x.length≤6∧xs.length≤12:=by
 unfold tJ at h
 simp only[Bool.and_eq_true,decide_eq_true_eq,List.all_eq_true]at h
 refine⟨fun x hx=>?_,h.2⟩
 have h1:=h.1 x hx
 simp only[hJ,Bool.and_eq_true,decide_eq_true_eq]at h1
 exact h1
theorem Ue {x:Fr4}(h:LimF x) (h2:x.x.length≤6∧x.y.length≤6):x.ok∧Sz 7 x.q∧x.len 1099511627776:=⟨h.ok h2,(Qa (L:=6) (na:=x.s) (nb:=x.t) h.1 h.2 h2.1 h2.2 (by omega)).mono (by omega),⟨by omega,by omega⟩⟩
theorem ER {a:Zi}(h:Lim 4294967296 a.x) (h2:a.x.length≤6):iV 6 (zv a):=Nat.le_trans (nM h) h2
theorem JA {a:Zi}(h:Lim 4294967296 a.x) (h2:a.x.length≤6):Zn a (zv a):=⟨h,by omega,rfl⟩
end
theorem Ct {l:List Int}{k:Nat}(h:k<l.length):(((aQ l).flatMap (cH false)).drop (k*2)).take (cH false (.of (cC l k))).length=cH false (.of (cC l k)):=by
 have h1:=qK (f:=cH false) (z:=2) (eI false) (lY (zs:=aQ l) (k:=k) (by rw[cX];exact h))
 rw[nL h]at h1
 exact h1
theorem Xm {l:List Rat}{k:Nat}(h:k<l.length):((l.flatMap cA).drop (k*4)).take (cA (aP l k)).length=cA (aP l k):=qK (f:=cA) (z:=4) cN (iY h)
def iT (l:List Int):List Tr:=l.map fun z=>.v (.int .i64 z)
theorem JB {l:List Int}{k:Nat}(h:k<l.length):((iT l).drop (k*1)).take [Tr.v (.int .i64 (cC l k))].length=[Tr.v (.int .i64 (cC l k))]:=by
 have h1:=mB h
 rw[List.getElem?_eq_getElem h]at h1
 have h2:(iT l).drop (k*1)=.v (.int .i64 (cC l k))::(iT l).drop (k+1):=by
  rw[Nat.mul_one,List.drop_eq_getElem_cons (by simpa[iT]using h)]
  congr 1
  simp only[iT,List.getElem_map]
  rw[Option.some.inj h1]
 rw[h2]
 rfl
def Jo:List Tr:=[.v (.bool false),.v (.slice none 0 0),.v (.bool false),.v (.slice none 0 0)]
section
variable {trs:List Tr}{l:List Rat}{i n:Nat}
def Sp4 (trs:List Tr) (l:List Rat) (i:Nat):Prop:=trs.length=l.length*4∧∀j,i≤j→j<l.length→(trs.drop (j*4)).take 4=cA (aP l j)
theorem Sp4.start (l:List Rat):Sp4 (l.flatMap cA) l 0:=⟨bO cN l,fun j _ h=>Xm h⟩
theorem Sp4.rd (h:Sp4 trs l i) (hi:i<l.length):((trs.map AV.t).drop (0+i*4)).take 4=(cA (aP l i)).map .t:=by
 rw[←List.map_drop,←List.map_take,Nat.zero_add,h.2 i (Nat.le_refl _) hi]
theorem Sp4.put (_:Sp4 trs l i) (_:i<l.length):cS (trs.map AV.t) (0+i*4) (Jo.map .t)=(cS trs (0+i*4) Jo).map .t:=(wV AV.t trs _ _).symm
theorem Sp4.le (h:Sp4 trs l i) (hi:i<l.length):0+i*4+(Jo.map AV.t).length≤(trs.map AV.t).length:=by
 have hl:=h.1
 rw[List.length_map,List.length_map]
 show 0+i*4+4≤_
 omega
theorem Sp4.next (h:Sp4 trs l i) (hi:i<l.length):Sp4 (cS trs (0+i*4) Jo) l (i+1):=by
 have hl:=h.1
 refine⟨?_,fun j h1 h2=>?_⟩
 ·unfold cS
  rw[List.length_append,List.length_append,List.length_take,List.length_drop]
  show min (0+i*4) trs.length+4+(trs.length-(0+i*4+4))=_
  omega
 rw[←h.2 j (by omega) h2]
 congr 1
 unfold cS
 rw[List.drop_append,List.drop_of_length_le (by rw[List.length_append,List.length_take];show min (0+i*4) trs.length+4≤_;omega),List.nil_append,List.drop_drop]
 congr 1
 rw[List.length_append,List.length_take]
 show 0+i*4+4+(j*4-(min (0+i*4) trs.length+4))=j*4
 omega
end
section
variable {x:Cx}{g:Nat→FV}{ob:List (Option Ob)}{ws:List Zi}{z:Zi}{i j k1 e key:Nat}{y a b:AV}
theorem En:∀{zs:List Zi}{i:Nat},i<zs.length→(fS zs i).s=z.s→(eA zs).set (0+i*2+1) (.t (sU true z.x))=eA (zs.set i z)
 | [],_,h,_=>by simp at h
 | z'::zs,0,_,hs=>by
  have hs:z'.s=z.s:=hs
  show [AV.t (.v (.bool z'.s)),.t (sU true z.x)]++eA zs=[AV.t (.v (.bool z.s)),.t (sU true z.x)]++eA zs
  rw[hs]
 | z'::zs,i+1,h,hs=>by
  have ih:=En (zs:=zs) (i:=i) (by simpa using h) hs
  rw[show 0+(i+1)*2+1=(0+i*2+1)+1+1 by omega]
  show _=_::_::eA (zs.set i z)
  rw[←ih]
  rfl
theorem LQ (hn:Nat.beq j k1=false) (hi:i<ws.length) (hs:(fS ws i).s=z.s) (ho:bV ob j=some ⟨e,2,(eA ws).set (0+i*2+1) (.sl k1 0 z.x.length)⟩) (o1:bV ob k1=some ⟨51,1,(aL z.x).map .t⟩):Sub x g ob g ((ob.set j (some ⟨e,2,eA (ws.set i z)⟩)).set k1 none):=
 ES (p:=0+i*2+1) (e:=51) (z:=1) (n:=z.x.length) (trs:=aL z.x) hn rfl ho o1 (List.getElem?_set_self (by rw[iO];omega)) (aY _) (aU _) (by rw[List.set_set];exact En hi hs)
theorem Jp (h:i<ws.length):((eA ws).set (0+i*2+1) y)[0+i*2+1]? =some y:=List.getElem?_set_self (by rw[iO];omega)
theorem Qb {z:Zi}{j:Nat}(h:i≠j):fS (ws.set i z) j=fS ws j:=by
 unfold fS
 rw[List.getD_eq_getElem?_getD,List.getElem?_set_ne h,List.getD_eq_getElem?_getD]
end
theorem AM {a b:Zi}{k k':Int}(ha:Zn a k) (hb:Zn b k'):aD true Tryz.prog 126 [] [gF a,gF b] (aM (.one (tv (.bool (decide (k=k')))))):=by
 refine bL Tryz.func126 rfl Tryz.ntmps126 rfl aA rfl fun N w c0 h0=>?_
 refine sq ?_;refine rl ?_;refine bx 0 ?_;refine bx 1 ?_;refine o1 ?_;refine nl ?_;refine sq ?_;refine rl ?_;refine ld ?_;refine ld ?_
 refine ca (Eo ha hb) Uf ⟨aB rfl,aB rfl,rfl⟩ (.one (tv (.int .i64 ((k)-(k')).sign))) ?_;refine o1 ?_;refine o1 ?_;refine nl ?_;refine rt ?_
 exact en (.inl rfl) rfl (aT (bZ _)) (by decide) (fun _=>trivial) (congrArg (fun z=>FV.one (tv (.bool z))) (Ug _ _))
theorem Ep {a:Fr4}{p:Rat}(ha:Qn a p):aD true Tryz.prog 102 [] [qF a] (aM (.one (tv (.bool (dA a.s a.x a.t a.y))))):=by
 refine bL Tryz.func102 rfl Tryz.ntmps102 rfl aA rfl fun N w c0 h0=>?_
 have hzl:=(Er ha).len
 have hzd:=(rJ ha).len
 refine sq ?_;refine rl ?_;refine bx 0 ?_;refine o1 ?_;refine nl ?_;refine sq ?_;refine rl ?_;refine o1 ?_;refine ld ?_
 refine ca (wW (Er ha)) Mw ⟨aB rfl,rfl⟩ (.one (tv (.bool (cQ a.s a.x)))) ?_;refine o1 ?_;refine WL.splitb (t:=6) rfl (fun h1=>?_) (fun h1=>?_)
 ·refine o1 ?_;refine ld ?_;refine ca (wW (rJ ha)) Mw ⟨aB rfl,rfl⟩ (.one (tv (.bool (cQ a.t a.y)))) ?_;refine o1 ?_;refine o1 ?_
  refine WL.splitb (t:=11) rfl (fun h2=>?_) (fun h2=>?_)
  ·refine o1 ?_;refine ld ?_;refine ca (kU (rJ ha)) tK ⟨aB rfl,rfl⟩ (.one (tv (.int .i64 ((dC a.t a.y)).sign))) ?_;(iterate 3 refine o1 ?_)
   refine WL.split (t:=17) rfl (fun h3=>?_) (fun h3=>?_)
   ·refine o1 ?_;refine ld ?_;refine o1 ?_;refine ld ?_;have s3:0<dC a.t a.y:=Int.sign_pos_iff.1 h3
    have hn4:=zW (k:=(dC a.s a.x)) (k':=(dC a.t a.y)) (by omega)
    refine ca (Es (Er ha) (rJ ha)) Uh ⟨aB rfl,aB rfl,rfl⟩ (kF (((Int.gcd (dC a.s a.x) (dC a.t a.y):Nat):Int))) ?_;have hn5:=lG (n:=(1:Int)) (by omega) (by omega)
    refine ca (kG (n:=(1:Int)) (by omega) (by omega)) mX ⟨a1 rfl,rfl⟩ (kF ((1:Int))) ?_
    refine ca (AM (Zn.of (k:=((Int.gcd (dC a.s a.x) (dC a.t a.y):Nat):Int)) (by omega)) (Zn.of (k:=(1:Int)) (by omega))) JC ⟨aB rfl,aB rfl,rfl⟩ (.one (tv (.bool (decide ((((Int.gcd (dC a.s a.x) (dC a.t a.y):Nat):Int))=((1:Int))))))) ?_
    refine o1 ?_;refine o1 ?_;refine nl ?_;refine rt ?_
    exact en (.inl rfl) rfl (aT (bZ _)) (by decide) (fun _=>trivial) (congrArg (fun z=>FV.one (tv (.bool z))) (by simp[dA,h1,h2,s3,Jq]))
   (iterate 7 refine dU ?_);refine o1 ?_;refine o1 ?_;refine nl ?_;refine rt ?_;have s3:¬(0<dC a.t a.y):=fun h=>h3 (Int.sign_pos_iff.2 h)
   exact en (.inl rfl) rfl (aT (bZ _)) (by decide) (fun _=>trivial) (congrArg (fun z=>FV.one (tv (.bool z))) (by simp[dA,h1,h2,s3,Jq]))
  (iterate 4 refine dU ?_);refine o1 ?_;refine o1 ?_;(iterate 7 refine dU ?_);refine o1 ?_;refine o1 ?_;refine nl ?_;refine rt ?_
  exact en (.inl rfl) rfl (aT (bZ _)) (by decide) (fun _=>trivial) (congrArg (fun z=>FV.one (tv (.bool z))) (by simp[dA,h1,h2]))
 (iterate 3 refine dU ?_);refine o1 ?_;refine o1 ?_;(iterate 4 refine dU ?_);refine o1 ?_;refine o1 ?_;(iterate 7 refine dU ?_);refine o1 ?_;refine o1 ?_;refine nl ?_;refine rt ?_
 exact en (.inl rfl) rfl (aT (bZ _)) (by decide) (fun _=>trivial) (congrArg (fun z=>FV.one (tv (.bool z))) (by simp[dA,h1]))
theorem zX:aD false Tryz.prog 69 [] [] (aM (qF (.of 0))):=by
 refine bL Tryz.func69 rfl Tryz.ntmps69 rfl aA rfl fun N w c0 h0=>?_
 refine sq ?_;refine rl ?_;refine al 0 ?_;refine nl ?_;refine sq ?_;refine rl ?_;have hn1:=lG (n:=(0:Int)) (by omega) (by omega)
 refine ca (kG (n:=(0:Int)) (by omega) (by omega)) mX ⟨a1 rfl,rfl⟩ (kF ((0:Int))) ?_
 have hn2:=lG (n:=(1:Int)) (by omega) (by omega)
 refine ca (kG (n:=(1:Int)) (by omega) (by omega)) mX ⟨a1 rfl,rfl⟩ (kF ((1:Int))) ?_
 refine o1 ?_;refine st ?_;refine nl ?_;refine rt ?_
 exact en (.inl rfl) rfl (aT (.agg (.cons (.id rfl) (.cons (.id rfl) (.cons (.id rfl) (.cons (.id rfl) .nil)))))) (by decide) (fun h=>by cases h) (uZ (q:=0) rfl rfl)
theorem Et {n:Int}(h1:-9223372036854775808≤n) (h2:n≤9223372036854775807):aD false Tryz.prog 31 [] [.one (tv (.int .i64 n))] (aM (qF (.of (n:Rat)))):=by
 refine bL Tryz.func31 rfl Tryz.ntmps31 rfl aA rfl fun N w c0 h0=>?_
 refine sq ?_;refine rl ?_;refine al 0 ?_;refine nl ?_;refine sq ?_;refine rl ?_;refine o1 ?_;have hn1:=lG (n:=n) (by omega) (by omega)
 refine ca (kG (n:=n) (by omega) (by omega)) mX ⟨a1 rfl,rfl⟩ (kF (n)) ?_
 have hn2:=lG (n:=(1:Int)) (by omega) (by omega)
 refine ca (kG (n:=(1:Int)) (by omega) (by omega)) mX ⟨a1 rfl,rfl⟩ (kF ((1:Int))) ?_
 refine o1 ?_;refine st ?_;refine nl ?_;refine rt ?_
 exact en (.inl rfl) rfl (aT (.agg (.cons (.id rfl) (.cons (.id rfl) (.cons (.id rfl) (.cons (.id rfl) .nil)))))) (by decide) (fun h=>by cases h) (uZ (q:=(n:Rat)) (Rat.num_intCast n) (by rw[Rat.den_intCast];rfl))
theorem iI {a:Fr4}{p:Rat}(ha:Qn a p):aD false Tryz.prog 57 [] [qF a] (aM (qF (.of p))):=by
 refine bL Tryz.func57 rfl Tryz.ntmps57 rfl aA rfl fun N w c0 h0=>?_
 refine sq ?_;refine rl ?_;refine bx 0 ?_;refine al 1 ?_;refine nl ?_;refine sq ?_;refine sq ?_;refine rl ?_;refine ld ?_
 refine ca (Ep ha) Xn ⟨aB rfl,rfl⟩ (.one (tv (.bool (dA a.s a.x a.t a.y)))) ?_;refine WL.splitb (t:=4) rfl (fun h1=>?_) (fun h1=>?_)
 ·refine o1 ?_;refine nl ?_;refine gJ rfl ?_;refine sk ?_;refine sq ?_;refine rl ?_;refine ld ?_;refine st ?_;refine nl ?_;refine rt ?_
  exact en (.inl rfl) rfl (aT (.agg (.cons (.id rfl) (.cons (.id rfl) (.cons (.id rfl) (.cons (.id rfl) .nil)))))) (by decide) (fun h=>by cases h) (by rw[ha.right h1];rfl)
 refine o1 ?_;refine nl ?_;refine lT rfl ?_;refine sq ?_;refine rl ?_;refine ca (zX) Ui rfl (qF (.of 0)) ?_;refine st ?_;refine nl ?_;refine rt ?_
 exact en (.inl rfl) rfl (aT (.agg (.cons (.id rfl) (.cons (.id rfl) (.cons (.id rfl) (.cons (.id rfl) .nil)))))) (by decide) (fun h=>by cases h) (by rw[ha.wrong h1];rfl)
theorem mS {a b:Zi}{k k':Int}(ha:Zn a k) (hb:Zn b k') (h0:k'≠0):aD false Tryz.prog 71 [] [gF a,gF b] (aM (.tup [kF (k.fdiv k'),kF (k.fmod k'),.one (tv (.int .i64 0))])):=by
 have h:=Qc ha hb
 rwa[if_neg h0,if_neg h0,if_neg h0]at h
theorem gB {a b:Zi}{k k':Int}(ha:Zn a k) (hb:Zn b k'):aD false Tryz.prog 25 [] [gF a,gF b] (aM (.tup [qF (.of (Rat.divInt k k')),.one (tv (.int .i64 (if k'=0 then 20 else 0)))])):=by
 refine bL Tryz.func25 rfl Tryz.ntmps25 rfl aA rfl fun N w c0 h0=>?_
 have hkl:=ha.len
 have hkl':=hb.len
 refine sq ?_;refine rl ?_;refine bx 0 ?_;refine bx 1 ?_;refine al 2 ?_;refine o1 ?_;refine nl ?_;refine sq ?_;refine sq ?_;refine rl ?_;refine ld ?_
 refine ca (kU hb) tK ⟨aB rfl,rfl⟩ (.one (tv (.int .i64 (k').sign))) ?_;refine o1 ?_;refine nl ?_;refine bN rfl (fun h1=>?_) (fun h1=>?_)
 ·refine sq ?_;refine rl ?_;refine ca (zX) Ui rfl (qF (.of 0)) ?_;refine st ?_;refine o1 ?_;refine nl ?_;refine rt ?_;have hk0:k'=0:=Int.sign_eq_zero_iff_zero.1 h1
  have hd0:Rat.divInt k k'=0:=by rw[hk0];simp
  exact en (.inl rfl) rfl (hG (.cons (.agg (.cons (.id rfl) (.cons (.id rfl) (.cons (.id rfl) (.cons (.id rfl) .nil))))) (.cons (bZ _) .nil))) (by decide) (fun h=>by cases h) (by rw[if_pos hk0,hd0];rfl)
 refine sk ?_;refine sq ?_;refine sq ?_;have hk0:k'≠0:=fun h9=>h1 (by rw[h9];rfl)
 refine rl ?_;refine ld ?_;refine ca (kU hb) tK ⟨aB rfl,rfl⟩ (.one (tv (.int .i64 (k').sign))) ?_;refine o1 ?_;refine nl ?_;refine bN rfl (fun h2=>?_) (fun h2=>?_)
 ·refine sq ?_;refine rl ?_;refine ld ?_;have hn3:=iZ (k)
  refine ca (tL ha) Eu ⟨aB rfl,rfl⟩ (kF (-k)) ?_;refine st ?_;refine nl ?_;refine rl ?_;refine ld ?_;have hn4:=iZ (k')
  refine ca (tL hb) Eu ⟨aB rfl,rfl⟩ (kF (-k')) ?_;refine st ?_;refine nl ?_;refine sq ?_;have hkn:k'<0:=Int.sign_neg_iff.1 h2
  refine rl ?_;refine ld ?_;refine ld ?_;have hn5:=zW (k:=-k) (k':=-k') (by omega)
  refine ca (Es (Zn.of (k:=-k) (by omega)) (Zn.of (k:=-k') (by omega))) Uh ⟨aB rfl,aB rfl,rfl⟩ (kF (((Int.gcd (-k) (-k'):Nat):Int))) ?_
  refine al 3 ?_;refine st ?_;refine nl ?_;refine sq ?_;refine rl ?_;refine ld ?_;refine ld ?_
  refine ca (mS (Zn.of (k:=-k) (by omega)) (Zn.of (k:=((Int.gcd (-k) (-k'):Nat):Int)) (by omega)) (yC (by omega))) Ew ⟨aB rfl,aB rfl,rfl⟩ (.tup [kF ((-k).fdiv ((Int.gcd (-k) (-k'):Nat):Int)),kF ((-k).fmod ((Int.gcd (-k) (-k'):Nat):Int)),.one (tv (.int .i64 0))]) ?_
  (iterate 4 refine o1 ?_);refine al 4 ?_;refine al 5 ?_;refine st ?_;refine st ?_;refine o1 ?_;refine nl ?_;refine sq ?_;refine rl ?_;refine ld ?_;refine ld ?_
  refine ca (mS (Zn.of (k:=-k') (by omega)) (Zn.of (k:=((Int.gcd (-k) (-k'):Nat):Int)) (by omega)) (yC (by omega))) Ew ⟨aB rfl,aB rfl,rfl⟩ (.tup [kF ((-k').fdiv ((Int.gcd (-k) (-k'):Nat):Int)),kF ((-k').fmod ((Int.gcd (-k) (-k'):Nat):Int)),.one (tv (.int .i64 0))]) ?_
  (iterate 4 refine o1 ?_);refine al 6 ?_;refine al 7 ?_;refine st ?_;refine st ?_;refine o1 ?_;refine nl ?_;refine sq ?_;refine rl ?_;refine ld ?_;refine ld ?_;refine o1 ?_
  refine st ?_;refine o1 ?_;refine nl ?_;refine rt ?_;obtain⟨hp9,hn9⟩:=Ex (a:=k) hk0
  obtain⟨e1,e2⟩:=hn9 hkn
  exact en (.inl rfl) rfl (hG (.cons (.agg (.cons (.id rfl) (.cons (.id rfl) (.cons (.id rfl) (.cons (.id rfl) .nil))))) (.cons (bZ _) .nil))) (by decide) (fun h=>by cases h) (by rw[if_neg hk0];exact congrArg (fun f=>FV.tup [f,.one (tv (.int .i64 0))]) (uZ e1 e2))
 refine sk ?_;refine sq ?_;have hkp:0<k':=by have h9:=mt Int.sign_neg_iff.2 h2;omega
 refine rl ?_;refine ld ?_;refine ld ?_;have hn6:=zW (k:=k) (k':=k') (by omega)
 refine ca (Es ha hb) Uh ⟨aB rfl,aB rfl,rfl⟩ (kF (((Int.gcd k k':Nat):Int))) ?_;refine al 3 ?_;refine st ?_;refine nl ?_;refine sq ?_;refine rl ?_;refine ld ?_;refine ld ?_
 refine ca (mS ha (Zn.of (k:=((Int.gcd k k':Nat):Int)) (by omega)) (yC (by omega))) Ew ⟨aB rfl,aB rfl,rfl⟩ (.tup [kF ((k).fdiv ((Int.gcd k k':Nat):Int)),kF ((k).fmod ((Int.gcd k k':Nat):Int)),.one (tv (.int .i64 0))]) ?_
 (iterate 4 refine o1 ?_);refine al 4 ?_;refine al 5 ?_;refine st ?_;refine st ?_;refine o1 ?_;refine nl ?_;refine sq ?_;refine rl ?_;refine ld ?_;refine ld ?_
 refine ca (mS hb (Zn.of (k:=((Int.gcd k k':Nat):Int)) (by omega)) (yC (by omega))) Ew ⟨aB rfl,aB rfl,rfl⟩ (.tup [kF ((k').fdiv ((Int.gcd k k':Nat):Int)),kF ((k').fmod ((Int.gcd k k':Nat):Int)),.one (tv (.int .i64 0))]) ?_
 (iterate 4 refine o1 ?_);refine al 6 ?_;refine al 7 ?_;refine st ?_;refine st ?_;refine o1 ?_;refine nl ?_;refine sq ?_;refine rl ?_;refine ld ?_;refine ld ?_;refine o1 ?_
 refine st ?_;refine o1 ?_;refine nl ?_;refine rt ?_;obtain⟨hp9,hn9⟩:=Ex (a:=k) hk0
 obtain⟨e1,e2⟩:=hp9 hkp
 exact en (.inl rfl) rfl (hG (.cons (.agg (.cons (.id rfl) (.cons (.id rfl) (.cons (.id rfl) (.cons (.id rfl) .nil))))) (.cons (bZ _) .nil))) (by decide) (fun h=>by cases h) (by rw[if_neg hk0];exact congrArg (fun f=>FV.tup [f,.one (tv (.int .i64 0))]) (uZ e1 e2))
theorem JD {n d:Int}(h1:-9223372036854775808≤n) (h2:n≤9223372036854775807) (h3:-9223372036854775808≤d) (h4:d≤9223372036854775807):aD false Tryz.prog 75 [] [.one (tv (.int .i64 n)),.one (tv (.int .i64 d))] (aM (.tup [qF (.of (Rat.divInt n d)),.one (tv (.int .i64 (if d=0 then 20 else 0)))])):=by
 refine bL Tryz.func75 rfl Tryz.ntmps75 rfl aA rfl fun N w c0 h0=>?_
 refine sq ?_;refine rl ?_;refine al 0 ?_;refine o1 ?_;refine nl ?_;refine sq ?_;refine rl ?_;refine o1 ?_;have hn1:=lG (n:=n) (by omega) (by omega)
 refine ca (kG (n:=n) (by omega) (by omega)) mX ⟨a1 rfl,rfl⟩ (kF (n)) ?_
 refine o1 ?_;have hn2:=lG (n:=d) (by omega) (by omega)
 refine ca (kG (n:=d) (by omega) (by omega)) mX ⟨a1 rfl,rfl⟩ (kF (d)) ?_
 refine ca (gB (Zn.of (k:=n) (by omega)) (Zn.of (k:=d) (by omega))) kM ⟨aB rfl,aB rfl,rfl⟩ (.tup [qF (.of (Rat.divInt (n) (d))),.one (tv (.int .i64 (if(d)=0 then 20 else 0)))]) ?_
 refine o1 ?_;refine o1 ?_;refine st ?_;refine o1 ?_;refine nl ?_;refine rt ?_
 exact en (.inl rfl) rfl (hG (.cons (.agg (.cons (.id rfl) (.cons (.id rfl) (.cons (.id rfl) (.cons (.id rfl) .nil))))) (.cons (bZ _) .nil))) (by decide) (fun h=>by cases h) rfl
theorem Qd {a:Fr4}{p:Rat}(ha:Qn a p):aD false Tryz.prog 30 [] [qF a] (aM (qF (.of (-p)))):=by
 refine bL Tryz.func30 rfl Tryz.ntmps30 rfl aA rfl fun N w c0 h0=>?_
 refine sq ?_;refine rl ?_;refine bx 0 ?_;refine al 1 ?_;refine nl ?_;refine sq ?_;refine rl ?_;refine ld ?_;refine ca (iI ha) rN ⟨aB rfl,rfl⟩ (qF (.of p)) ?_;refine st ?_
 refine nl ?_;refine sq ?_;refine rd [0,1] (fun i=>[6].contains i) mixed ?_
 refine dv 0 ?_;refine aV 1 ?_;refine dv 3 ?_;refine aV 4 ?_;refine aI 2 rfl (tL (eE ha.sz)) Eu ⟨aB rfl,rfl⟩ (kF (-p.num)) ?_;refine df 5 ?_;refine dst 6 ?_;refine aO ?_
 refine rt ?_
 exact en (.inl rfl) rfl (aT (.agg (.cons (.id rfl) (.cons (.id rfl) (.cons (.id rfl) (.cons (.id rfl) .nil)))))) (by decide) (fun h=>by cases h) (by unfold qF Fr4.of;rw[Rat.neg_num,Rat.neg_den];rfl)
theorem Ey {a b:Fr4}{p q:Rat}(ha:Qn a p) (hb:Qn b q) (hs:Sz 17179869184 p) (hs':Sz 17179869184 q):aD false Tryz.prog 39 [] [qF a,qF b] (aM (qF (.of (p+q)))):=by
 refine bL Tryz.func39 rfl Tryz.ntmps39 rfl aA rfl fun N w c0 h0=>?_
 have hs1:=hs.1
 have hs2:(dg 4294967296 ((p.den:Int)).natAbs).length≤17179869184:=hs.2
 have hs3:=hs'.1
 have hs4:(dg 4294967296 ((q.den:Int)).natAbs).length≤17179869184:=hs'.2
 refine sq ?_;refine rl ?_;refine bx 0 ?_;refine bx 1 ?_;refine al 2 ?_;refine nl ?_;refine sq ?_;refine rl ?_;refine ld ?_;refine ca (iI ha) rN ⟨aB rfl,rfl⟩ (qF (.of p)) ?_
 refine st ?_;refine nl ?_;refine sq ?_;refine rl ?_;refine ld ?_;refine ca (iI hb) rN ⟨aB rfl,rfl⟩ (qF (.of q)) ?_;refine st ?_;refine nl ?_
 refine md (γ:=Unit) (fun _=>cG [(4,.one (.pt 0 0)),(5,.one (.pt 1 0))]) (fun _=>([⟨50,0,[tv (.bool false),tv (.slice none 0 0),tv (.bool false),tv (.slice none 0 0)]⟩,⟨50,0,((Fr4.of (Rat.divInt (p.num*(q.den:Int)+q.num*(p.den:Int)) ((p.den:Int)*(q.den:Int)))).tr false).map .t⟩]:List Ob).map some) (fun _=>True) ?_ fun _ _=>?_
 ·refine rd [0,1,2] (fun i=>[22].contains i) mixed ?_
  refine dv 0 ?_;refine aV 1 ?_;refine dv 2 ?_;refine aV 3 ?_;refine dv 5 ?_;refine aV 6 ?_;refine dv 7 ?_;refine aV 8 ?_;refine dv 11 ?_;refine aV 12 ?_;refine dv 13 ?_
  refine aV 14 ?_;refine WO.two (i:=4) (j:=20) (by kernel_rfl) ?_ ?_
  ·have hn1:=cP (p.num) ((q.den:Int))
   refine cU 4 rfl (fH (eE hs) (cW hs')) jA ⟨aB rfl,aB rfl,rfl⟩ (kF (p.num*(q.den:Int))) ?_;refine WO.two (i:=9) (j:=20) (by kernel_rfl) ?_ ?_
   ·have hn2:=cP (q.num) ((p.den:Int))
    refine cU 9 rfl (fH (eE hs') (cW hs)) jA ⟨aB rfl,aB rfl,rfl⟩ (kF (q.num*(p.den:Int))) ?_;refine WO.two (i:=10) (j:=20) (by kernel_rfl) ?_ ?_
    ·have hn3:=gW (p.num*(q.den:Int)) (q.num*(p.den:Int))
     refine cU 10 rfl (oD (Zn.of (k:=p.num*(q.den:Int)) (by omega)) (Zn.of (k:=q.num*(p.den:Int)) (by omega))) wX ⟨aB rfl,aB rfl,rfl⟩ (kF (p.num*(q.den:Int)+q.num*(p.den:Int))) ?_
     refine WO.two (i:=15) (j:=20) (by kernel_rfl) ?_ ?_
     ·have hn4:=cP ((p.den:Int)) ((q.den:Int))
      refine cU 15 rfl (fH (cW hs) (cW hs')) jA ⟨aB rfl,aB rfl,rfl⟩ (kF ((p.den:Int)*(q.den:Int))) ?_;refine WO.two (i:=16) (j:=20) (by kernel_rfl) ?_ ?_
      ·refine cU 16 rfl (gB (Zn.of (k:=p.num*(q.den:Int)+q.num*(p.den:Int)) (by omega)) (Zn.of (k:=(p.den:Int)*(q.den:Int)) (by omega))) kM ⟨aB rfl,aB rfl,rfl⟩ (.tup [qF (.of (Rat.divInt (p.num*(q.den:Int)+q.num*(p.den:Int)) ((p.den:Int)*(q.den:Int)))),.one (tv (.int .i64 (if((p.den:Int)*(q.den:Int))=0 then 20 else 0)))]) ?_
       refine df 17 ?_;refine df 18 ?_;refine df 19 ?_;refine eF (key:=3) 20 (by kernel_rfl) rfl rfl aA rfl ⟨rfl,rfl,rfl,trivial⟩ ?_
       refine aR 21 (by kernel_rfl) rfl rfl aA rfl rfl rfl rfl ⟨rfl,rfl,rfl,trivial⟩ ?_
       refine dE 22 (by kernel_rfl) rfl rfl aA rfl (by trivial) ?_ (fun h=>by first | rfl | cases h)
       refine aO ?_;exact⟨(),trivial,aH h0 [2,3] _ _ (by decide) ⟨rfl,rfl,trivial⟩ ⟨oe rfl rfl,oe rfl rfl,rfl⟩⟩
      refine bS (key:=3) 20 rfl rfl aA rfl ⟨rfl,rfl,rfl,trivial⟩ ?_
      refine aI 16 rfl (gB (Zn.of (k:=p.num*(q.den:Int)+q.num*(p.den:Int)) (by omega)) (Zn.of (k:=(p.den:Int)*(q.den:Int)) (by omega))) kM ⟨aB rfl,aB rfl,rfl⟩ (.tup [qF (.of (Rat.divInt (p.num*(q.den:Int)+q.num*(p.den:Int)) ((p.den:Int)*(q.den:Int)))),.one (tv (.int .i64 (if((p.den:Int)*(q.den:Int))=0 then 20 else 0)))]) ?_
      refine df 17 ?_;refine df 18 ?_;refine df 19 ?_;refine aR 21 (by kernel_rfl) rfl rfl aA rfl rfl rfl rfl ⟨rfl,rfl,rfl,trivial⟩ ?_
      refine dE 22 (by kernel_rfl) rfl rfl aA rfl (by trivial) ?_ (fun h=>by first | rfl | cases h)
      refine aO ?_;exact⟨(),trivial,aH h0 [2,3] _ _ (by decide) ⟨rfl,rfl,trivial⟩ ⟨oe rfl rfl,oe rfl rfl,rfl⟩⟩
     refine bS (key:=3) 20 rfl rfl aA rfl ⟨rfl,rfl,rfl,trivial⟩ ?_;have hn5:=cP ((p.den:Int)) ((q.den:Int))
     refine aI 15 rfl (fH (cW hs) (cW hs')) jA ⟨aB rfl,aB rfl,rfl⟩ (kF ((p.den:Int)*(q.den:Int))) ?_
     refine aI 16 rfl (gB (Zn.of (k:=p.num*(q.den:Int)+q.num*(p.den:Int)) (by omega)) (Zn.of (k:=(p.den:Int)*(q.den:Int)) (by omega))) kM ⟨aB rfl,aB rfl,rfl⟩ (.tup [qF (.of (Rat.divInt (p.num*(q.den:Int)+q.num*(p.den:Int)) ((p.den:Int)*(q.den:Int)))),.one (tv (.int .i64 (if((p.den:Int)*(q.den:Int))=0 then 20 else 0)))]) ?_
     refine df 17 ?_;refine df 18 ?_;refine df 19 ?_;refine aR 21 (by kernel_rfl) rfl rfl aA rfl rfl rfl rfl ⟨rfl,rfl,rfl,trivial⟩ ?_
     refine dE 22 (by kernel_rfl) rfl rfl aA rfl (by trivial) ?_ (fun h=>by first | rfl | cases h)
     refine aO ?_;exact⟨(),trivial,aH h0 [2,3] _ _ (by decide) ⟨rfl,rfl,trivial⟩ ⟨oe rfl rfl,oe rfl rfl,rfl⟩⟩
    refine bS (key:=3) 20 rfl rfl aA rfl ⟨rfl,rfl,rfl,trivial⟩ ?_;have hn6:=gW (p.num*(q.den:Int)) (q.num*(p.den:Int))
    refine aI 10 rfl (oD (Zn.of (k:=p.num*(q.den:Int)) (by omega)) (Zn.of (k:=q.num*(p.den:Int)) (by omega))) wX ⟨aB rfl,aB rfl,rfl⟩ (kF (p.num*(q.den:Int)+q.num*(p.den:Int))) ?_
    have hn7:=cP ((p.den:Int)) ((q.den:Int))
    refine aI 15 rfl (fH (cW hs) (cW hs')) jA ⟨aB rfl,aB rfl,rfl⟩ (kF ((p.den:Int)*(q.den:Int))) ?_
    refine aI 16 rfl (gB (Zn.of (k:=p.num*(q.den:Int)+q.num*(p.den:Int)) (by omega)) (Zn.of (k:=(p.den:Int)*(q.den:Int)) (by omega))) kM ⟨aB rfl,aB rfl,rfl⟩ (.tup [qF (.of (Rat.divInt (p.num*(q.den:Int)+q.num*(p.den:Int)) ((p.den:Int)*(q.den:Int)))),.one (tv (.int .i64 (if((p.den:Int)*(q.den:Int))=0 then 20 else 0)))]) ?_
    refine df 17 ?_;refine df 18 ?_;refine df 19 ?_;refine aR 21 (by kernel_rfl) rfl rfl aA rfl rfl rfl rfl ⟨rfl,rfl,rfl,trivial⟩ ?_
    refine dE 22 (by kernel_rfl) rfl rfl aA rfl (by trivial) ?_ (fun h=>by first | rfl | cases h)
    refine aO ?_;exact⟨(),trivial,aH h0 [2,3] _ _ (by decide) ⟨rfl,rfl,trivial⟩ ⟨oe rfl rfl,oe rfl rfl,rfl⟩⟩
   refine bS (key:=3) 20 rfl rfl aA rfl ⟨rfl,rfl,rfl,trivial⟩ ?_;have hn8:=cP (q.num) ((p.den:Int))
   refine aI 9 rfl (fH (eE hs') (cW hs)) jA ⟨aB rfl,aB rfl,rfl⟩ (kF (q.num*(p.den:Int))) ?_;have hn9:=gW (p.num*(q.den:Int)) (q.num*(p.den:Int))
   refine aI 10 rfl (oD (Zn.of (k:=p.num*(q.den:Int)) (by omega)) (Zn.of (k:=q.num*(p.den:Int)) (by omega))) wX ⟨aB rfl,aB rfl,rfl⟩ (kF (p.num*(q.den:Int)+q.num*(p.den:Int))) ?_
   have hn10:=cP ((p.den:Int)) ((q.den:Int))
   refine aI 15 rfl (fH (cW hs) (cW hs')) jA ⟨aB rfl,aB rfl,rfl⟩ (kF ((p.den:Int)*(q.den:Int))) ?_
   refine aI 16 rfl (gB (Zn.of (k:=p.num*(q.den:Int)+q.num*(p.den:Int)) (by omega)) (Zn.of (k:=(p.den:Int)*(q.den:Int)) (by omega))) kM ⟨aB rfl,aB rfl,rfl⟩ (.tup [qF (.of (Rat.divInt (p.num*(q.den:Int)+q.num*(p.den:Int)) ((p.den:Int)*(q.den:Int)))),.one (tv (.int .i64 (if((p.den:Int)*(q.den:Int))=0 then 20 else 0)))]) ?_
   refine df 17 ?_;refine df 18 ?_;refine df 19 ?_;refine aR 21 (by kernel_rfl) rfl rfl aA rfl rfl rfl rfl ⟨rfl,rfl,rfl,trivial⟩ ?_
   refine dE 22 (by kernel_rfl) rfl rfl aA rfl (by trivial) ?_ (fun h=>by first | rfl | cases h)
   refine aO ?_;exact⟨(),trivial,aH h0 [2,3] _ _ (by decide) ⟨rfl,rfl,trivial⟩ ⟨oe rfl rfl,oe rfl rfl,rfl⟩⟩
  refine bS (key:=3) 20 rfl rfl aA rfl ⟨rfl,rfl,rfl,trivial⟩ ?_;have hn11:=cP (p.num) ((q.den:Int))
  refine aI 4 rfl (fH (eE hs) (cW hs')) jA ⟨aB rfl,aB rfl,rfl⟩ (kF (p.num*(q.den:Int))) ?_;have hn12:=cP (q.num) ((p.den:Int))
  refine aI 9 rfl (fH (eE hs') (cW hs)) jA ⟨aB rfl,aB rfl,rfl⟩ (kF (q.num*(p.den:Int))) ?_;have hn13:=gW (p.num*(q.den:Int)) (q.num*(p.den:Int))
  refine aI 10 rfl (oD (Zn.of (k:=p.num*(q.den:Int)) (by omega)) (Zn.of (k:=q.num*(p.den:Int)) (by omega))) wX ⟨aB rfl,aB rfl,rfl⟩ (kF (p.num*(q.den:Int)+q.num*(p.den:Int))) ?_
  have hn14:=cP ((p.den:Int)) ((q.den:Int))
  refine aI 15 rfl (fH (cW hs) (cW hs')) jA ⟨aB rfl,aB rfl,rfl⟩ (kF ((p.den:Int)*(q.den:Int))) ?_
  refine aI 16 rfl (gB (Zn.of (k:=p.num*(q.den:Int)+q.num*(p.den:Int)) (by omega)) (Zn.of (k:=(p.den:Int)*(q.den:Int)) (by omega))) kM ⟨aB rfl,aB rfl,rfl⟩ (.tup [qF (.of (Rat.divInt (p.num*(q.den:Int)+q.num*(p.den:Int)) ((p.den:Int)*(q.den:Int)))),.one (tv (.int .i64 (if((p.den:Int)*(q.den:Int))=0 then 20 else 0)))]) ?_
  refine df 17 ?_;refine df 18 ?_;refine df 19 ?_;refine aR 21 (by kernel_rfl) rfl rfl aA rfl rfl rfl rfl ⟨rfl,rfl,rfl,trivial⟩ ?_
  refine dE 22 (by kernel_rfl) rfl rfl aA rfl (by trivial) ?_ (fun h=>by first | rfl | cases h)
  refine aO ?_;exact⟨(),trivial,aH h0 [2,3] _ _ (by decide) ⟨rfl,rfl,trivial⟩ ⟨oe rfl rfl,oe rfl rfl,rfl⟩⟩
 refine sq ?_;refine rl ?_;refine ld ?_;refine st ?_;refine nl ?_;refine rt ?_
 exact en (.inl rfl) rfl (aT (.agg (.cons (.id rfl) (.cons (.id rfl) (.cons (.id rfl) (.cons (.id rfl) .nil)))))) (by decide) (fun h=>by cases h) (by rw[←oX];rfl)
theorem Ez {a b:Fr4}{p q:Rat}(ha:Qn a p) (hb:Qn b q) (hs:Sz 17179869184 p) (hs':Sz 17179869184 q):aD false Tryz.prog 41 [] [qF a,qF b] (aM (qF (.of (p*q)))):=by
 refine bL Tryz.func41 rfl Tryz.ntmps41 rfl aA rfl fun N w c0 h0=>?_
 have hs1:=hs.1
 have hs2:(dg 4294967296 ((p.den:Int)).natAbs).length≤17179869184:=hs.2
 have hs3:=hs'.1
 have hs4:(dg 4294967296 ((q.den:Int)).natAbs).length≤17179869184:=hs'.2
 refine sq ?_;refine rl ?_;refine bx 0 ?_;refine bx 1 ?_;refine al 2 ?_;refine nl ?_;refine sq ?_;refine rl ?_;refine ld ?_;refine ca (iI ha) rN ⟨aB rfl,rfl⟩ (qF (.of p)) ?_
 refine st ?_;refine nl ?_;refine sq ?_;refine rl ?_;refine ld ?_;refine ca (iI hb) rN ⟨aB rfl,rfl⟩ (qF (.of q)) ?_;refine st ?_;refine nl ?_
 refine md (γ:=Unit) (fun _=>cG [(4,.one (.pt 0 0)),(5,.one (.pt 1 0))]) (fun _=>([⟨50,0,[tv (.bool false),tv (.slice none 0 0),tv (.bool false),tv (.slice none 0 0)]⟩,⟨50,0,((Fr4.of (Rat.divInt (p.num*q.num) ((p.den:Int)*(q.den:Int)))).tr false).map .t⟩]:List Ob).map some) (fun _=>True) ?_ fun _ _=>?_
 ·refine rd [0,1,2] (fun i=>[16].contains i) mixed ?_
  refine dv 0 ?_;refine aV 1 ?_;refine dv 2 ?_;refine aV 3 ?_;refine dv 5 ?_;refine aV 6 ?_;refine dv 7 ?_;refine aV 8 ?_;refine WO.two (i:=4) (j:=14) (by kernel_rfl) ?_ ?_
  ·have hn1:=cP (p.num) (q.num)
   refine cU 4 rfl (fH (eE hs) (eE hs')) jA ⟨aB rfl,aB rfl,rfl⟩ (kF (p.num*q.num)) ?_;refine WO.two (i:=9) (j:=14) (by kernel_rfl) ?_ ?_
   ·have hn2:=cP ((p.den:Int)) ((q.den:Int))
    refine cU 9 rfl (fH (cW hs) (cW hs')) jA ⟨aB rfl,aB rfl,rfl⟩ (kF ((p.den:Int)*(q.den:Int))) ?_;refine WO.two (i:=10) (j:=14) (by kernel_rfl) ?_ ?_
    ·refine cU 10 rfl (gB (Zn.of (k:=p.num*q.num) (by omega)) (Zn.of (k:=(p.den:Int)*(q.den:Int)) (by omega))) kM ⟨aB rfl,aB rfl,rfl⟩ (.tup [qF (.of (Rat.divInt (p.num*q.num) ((p.den:Int)*(q.den:Int)))),.one (tv (.int .i64 (if((p.den:Int)*(q.den:Int))=0 then 20 else 0)))]) ?_
     refine df 11 ?_;refine df 12 ?_;refine df 13 ?_;refine eF (key:=3) 14 (by kernel_rfl) rfl rfl aA rfl ⟨rfl,rfl,rfl,trivial⟩ ?_
     refine aR 15 (by kernel_rfl) rfl rfl aA rfl rfl rfl rfl ⟨rfl,rfl,rfl,trivial⟩ ?_
     refine dE 16 (by kernel_rfl) rfl rfl aA rfl (by trivial) ?_ (fun h=>by first | rfl | cases h)
     refine aO ?_;exact⟨(),trivial,aH h0 [2,3] _ _ (by decide) ⟨rfl,rfl,trivial⟩ ⟨oe rfl rfl,oe rfl rfl,rfl⟩⟩
    refine bS (key:=3) 14 rfl rfl aA rfl ⟨rfl,rfl,rfl,trivial⟩ ?_
    refine aI 10 rfl (gB (Zn.of (k:=p.num*q.num) (by omega)) (Zn.of (k:=(p.den:Int)*(q.den:Int)) (by omega))) kM ⟨aB rfl,aB rfl,rfl⟩ (.tup [qF (.of (Rat.divInt (p.num*q.num) ((p.den:Int)*(q.den:Int)))),.one (tv (.int .i64 (if((p.den:Int)*(q.den:Int))=0 then 20 else 0)))]) ?_
    refine df 11 ?_;refine df 12 ?_;refine df 13 ?_;refine aR 15 (by kernel_rfl) rfl rfl aA rfl rfl rfl rfl ⟨rfl,rfl,rfl,trivial⟩ ?_
    refine dE 16 (by kernel_rfl) rfl rfl aA rfl (by trivial) ?_ (fun h=>by first | rfl | cases h)
    refine aO ?_;exact⟨(),trivial,aH h0 [2,3] _ _ (by decide) ⟨rfl,rfl,trivial⟩ ⟨oe rfl rfl,oe rfl rfl,rfl⟩⟩
   refine bS (key:=3) 14 rfl rfl aA rfl ⟨rfl,rfl,rfl,trivial⟩ ?_;have hn3:=cP ((p.den:Int)) ((q.den:Int))
   refine aI 9 rfl (fH (cW hs) (cW hs')) jA ⟨aB rfl,aB rfl,rfl⟩ (kF ((p.den:Int)*(q.den:Int))) ?_
   refine aI 10 rfl (gB (Zn.of (k:=p.num*q.num) (by omega)) (Zn.of (k:=(p.den:Int)*(q.den:Int)) (by omega))) kM ⟨aB rfl,aB rfl,rfl⟩ (.tup [qF (.of (Rat.divInt (p.num*q.num) ((p.den:Int)*(q.den:Int)))),.one (tv (.int .i64 (if((p.den:Int)*(q.den:Int))=0 then 20 else 0)))]) ?_
   refine df 11 ?_;refine df 12 ?_;refine df 13 ?_;refine aR 15 (by kernel_rfl) rfl rfl aA rfl rfl rfl rfl ⟨rfl,rfl,rfl,trivial⟩ ?_
   refine dE 16 (by kernel_rfl) rfl rfl aA rfl (by trivial) ?_ (fun h=>by first | rfl | cases h)
   refine aO ?_;exact⟨(),trivial,aH h0 [2,3] _ _ (by decide) ⟨rfl,rfl,trivial⟩ ⟨oe rfl rfl,oe rfl rfl,rfl⟩⟩
  refine bS (key:=3) 14 rfl rfl aA rfl ⟨rfl,rfl,rfl,trivial⟩ ?_;have hn4:=cP (p.num) (q.num)
  refine aI 4 rfl (fH (eE hs) (eE hs')) jA ⟨aB rfl,aB rfl,rfl⟩ (kF (p.num*q.num)) ?_;have hn5:=cP ((p.den:Int)) ((q.den:Int))
  refine aI 9 rfl (fH (cW hs) (cW hs')) jA ⟨aB rfl,aB rfl,rfl⟩ (kF ((p.den:Int)*(q.den:Int))) ?_
  refine aI 10 rfl (gB (Zn.of (k:=p.num*q.num) (by omega)) (Zn.of (k:=(p.den:Int)*(q.den:Int)) (by omega))) kM ⟨aB rfl,aB rfl,rfl⟩ (.tup [qF (.of (Rat.divInt (p.num*q.num) ((p.den:Int)*(q.den:Int)))),.one (tv (.int .i64 (if((p.den:Int)*(q.den:Int))=0 then 20 else 0)))]) ?_
  refine df 11 ?_;refine df 12 ?_;refine df 13 ?_;refine aR 15 (by kernel_rfl) rfl rfl aA rfl rfl rfl rfl ⟨rfl,rfl,rfl,trivial⟩ ?_
  refine dE 16 (by kernel_rfl) rfl rfl aA rfl (by trivial) ?_ (fun h=>by first | rfl | cases h)
  refine aO ?_;exact⟨(),trivial,aH h0 [2,3] _ _ (by decide) ⟨rfl,rfl,trivial⟩ ⟨oe rfl rfl,oe rfl rfl,rfl⟩⟩
 refine sq ?_;refine rl ?_;refine ld ?_;refine st ?_;refine nl ?_;refine rt ?_
 exact en (.inl rfl) rfl (aT (.agg (.cons (.id rfl) (.cons (.id rfl) (.cons (.id rfl) (.cons (.id rfl) .nil)))))) (by decide) (fun h=>by cases h) (congrArg (fun q=>qF (.of q)) (by rw[←Rat.divInt_mul_divInt,Rat.num_divInt_den,Rat.num_divInt_den]))
theorem Qe {a b:Fr4}{p q:Rat}(ha:Qn a p) (hb:Qn b q) (hs:Sz 17179869184 p) (hs':Sz 17179869184 q):aD false Tryz.prog 27 [] [qF a,qF b] (aM (qF (.of (p-q)))):=by
 refine bL Tryz.func27 rfl Tryz.ntmps27 rfl aA rfl fun N w c0 h0=>?_
 refine sq ?_;refine rl ?_;refine bx 0 ?_;refine bx 1 ?_;refine al 2 ?_;refine nl ?_;refine sq ?_;refine rd [0,1,2] (fun i=>[4].contains i) mixed ?_
 refine aV 0 ?_;refine aV 1 ?_;refine aI 2 rfl (Qd hb) ET ⟨aB rfl,rfl⟩ (qF (.of (-q))) ?_
 refine aI 3 rfl (Ey ha (Qn.of (p:=(-q)) (mP hs')) hs (mP hs')) Uj ⟨aB rfl,aB rfl,rfl⟩ (qF (.of (p+(-q)))) ?_;refine dst 4 ?_;refine aO ?_;refine rt ?_
 exact en (.inl rfl) rfl (aT (.agg (.cons (.id rfl) (.cons (.id rfl) (.cons (.id rfl) (.cons (.id rfl) .nil)))))) (by decide) (fun h=>by cases h) (by rw[Rat.sub_eq_add_neg];rfl)
theorem iR {a:Fr4}{p:Rat}(ha:Qn a p):aD true Tryz.prog 32 [] [qF a] (aM (.one (tv (.int .i64 p.num.sign)))):=by
 refine bL Tryz.func32 rfl Tryz.ntmps32 rfl aA rfl fun N w c0 h0=>?_
 refine sq ?_;refine rl ?_;refine bx 0 ?_;refine o1 ?_;refine nl ?_;refine sq ?_;refine rl ?_;refine ld ?_;refine ca (iI ha) rN ⟨aB rfl,rfl⟩ (qF (.of p)) ?_;refine o1 ?_
 refine ca (kU (eE ha.sz)) tK ⟨aB rfl,rfl⟩ (.one (tv (.int .i64 (p.num).sign))) ?_;refine o1 ?_;refine nl ?_;refine rt ?_
 exact en (.inl rfl) rfl (aT (bZ _)) (by decide) (fun _=>trivial) rfl
theorem EU {a b:Fr4}{p q:Rat}(ha:Qn a p) (hb:Qn b q) (hs:Sz 17179869184 p) (hs':Sz 17179869184 q):aD true Tryz.prog 28 [] [qF a,qF b] (aM (.one (tv (.int .i64 (p-q).num.sign)))):=by
 refine bL Tryz.func28 rfl Tryz.ntmps28 rfl aA rfl fun N w c0 h0=>?_
 refine sq ?_;refine rl ?_;refine bx 0 ?_;refine bx 1 ?_;refine o1 ?_;refine nl ?_;refine sq ?_;refine rl ?_;refine ld ?_;refine ld ?_
 refine ca (Qe ha hb hs hs') EV ⟨aB rfl,aB rfl,rfl⟩ (qF (.of (p-q))) ?_
 refine ca (iR (Qn.of (p:=(p-q)) (EW hs hs'))) pL ⟨aB rfl,rfl⟩ (.one (tv (.int .i64 (p-q).num.sign))) ?_;refine o1 ?_;refine nl ?_;refine rt ?_
 exact en (.inl rfl) rfl (aT (bZ _)) (by decide) (fun _=>trivial) rfl
theorem zY {a:Fr4}{p:Rat}(ha:Qn a p):aD false Tryz.prog 59 [] [qF a] (aM (kF (fl p))):=by
 refine bL Tryz.func59 rfl Tryz.ntmps59 rfl aA rfl fun N9 w9 c0 h0=>?_
 refine sq ?_;refine rl ?_;refine bx 0 ?_;refine al 1 ?_;refine nl ?_;refine sq ?_;refine sq ?_;refine rl ?_;refine ld ?_
 refine ca (Ep ha) Xn ⟨aB rfl,rfl⟩ (.one (tv (.bool (dA a.s a.x a.t a.y)))) ?_;refine WL.splitb (t:=7) rfl (fun h1=>?_) (fun h1=>?_)
 ·refine o1 ?_;refine nl ?_;refine gJ rfl ?_;refine sk ?_;refine sq ?_;obtain rfl:=(ha.right h1).symm
  have hd0:(p.den:Int)≠0:=by have:=p.den_pos;omega
  refine rl ?_;refine o1 ?_;refine ld ?_;refine o1 ?_;refine ld ?_
  refine ca (mS (eE ha.sz) (cW ha.sz) hd0) Ew ⟨aB rfl,aB rfl,rfl⟩ (.tup [kF (p.num.fdiv (p.den:Int)),kF (p.num.fmod (p.den:Int)),.one (tv (.int .i64 0))]) ?_
  (iterate 4 refine o1 ?_);refine al 2 ?_;refine al 3 ?_;refine st ?_;refine st ?_;refine o1 ?_;refine nl ?_;refine sq ?_;refine rl ?_;refine ld ?_;refine st ?_;refine nl ?_;refine rt ?_
  exact en (.inl rfl) rfl (aT (.agg (.cons (.id rfl) (.cons (.id rfl) .nil)))) (by decide) (fun h=>by cases h) (congrArg kF (pZ p))
 refine o1 ?_;refine nl ?_;refine lT rfl ?_;refine sq ?_;refine rl ?_;refine o1 ?_;refine st ?_;refine nl ?_;refine rt ?_;have hq9:=ha.wrong h1
 subst hq9;exact en (.inl rfl) rfl (aT (.agg (.cons (.id rfl) (.cons .nilf .nil)))) (by decide) (fun h=>by cases h) (by rw[show fl 0=0 from Fa 0];exact vA)
theorem wY (k:Int):Rat.divInt k 1=(k:Rat):=by
 have h:=pK k 1 (by omega)
 rwa[show((1:Int):Rat)=1 from rfl,Rat.mul_one]at h
theorem Fb {a:Zi}{k:Int}(ha:Zn a k):aD false Tryz.prog 38 [] [gF a] (aM (qF (.of (k:Rat)))):=by
 refine bL Tryz.func38 rfl Tryz.ntmps38 rfl aA rfl fun N9 w9 c0 h0=>?_
 refine sq ?_;refine rl ?_;refine bx 0 ?_;refine al 1 ?_;refine nl ?_;refine sq ?_;refine rd [0,1] (fun i=>[8].contains i) mixed ?_
 refine aV 0 ?_;refine WO.two (i:=1) (j:=6) (by kernel_rfl) ?_ ?_
 ·refine cU 1 rfl (kG (n:=1) (by omega) (by omega)) mX ⟨a1 rfl,rfl⟩ (kF 1) ?_
  refine WO.two (i:=2) (j:=6) (by kernel_rfl) ?_ ?_
  ·refine cU 2 rfl (gB ha (Zn.of (k:=1) (by decide))) kM ⟨aB rfl,aB rfl,rfl⟩ (.tup [qF (.of (Rat.divInt k 1)),.one (tv (.int .i64 (if(1:Int)=0 then 20 else 0)))]) ?_
   refine df 3 ?_;refine df 4 ?_;refine df 5 ?_;refine eF (key:=2) 6 (by kernel_rfl) rfl rfl aA rfl ⟨rfl,rfl,trivial⟩ ?_
   refine aR 7 (by kernel_rfl) rfl rfl aA rfl rfl rfl rfl ⟨rfl,rfl,trivial⟩ ?_
   refine dE 8 (by kernel_rfl) rfl rfl aA rfl (by trivial) ?_ (fun h=>by first | rfl | cases h)
   refine aO ?_;refine sq ?_;refine rl ?_;refine ld ?_;refine st ?_;refine nl ?_;refine rt ?_
   exact en (.inl rfl) rfl (aT (.agg (.cons (.id rfl) (.cons (.id rfl) (.cons (.id rfl) (.cons (.id rfl) .nil)))))) (by decide) (fun h=>by cases h) (congrArg (fun q=>qF (.of q)) (wY k))
  refine bS (key:=2) 6 rfl rfl aA rfl ⟨rfl,rfl,trivial⟩ ?_
  refine aI 2 rfl (gB ha (Zn.of (k:=1) (by decide))) kM ⟨aB rfl,aB rfl,rfl⟩ (.tup [qF (.of (Rat.divInt k 1)),.one (tv (.int .i64 (if(1:Int)=0 then 20 else 0)))]) ?_
  refine df 3 ?_;refine df 4 ?_;refine df 5 ?_;refine aR 7 (by kernel_rfl) rfl rfl aA rfl rfl rfl rfl ⟨rfl,rfl,trivial⟩ ?_
  refine dE 8 (by kernel_rfl) rfl rfl aA rfl (by trivial) ?_ (fun h=>by first | rfl | cases h)
  refine aO ?_;refine sq ?_;refine rl ?_;refine ld ?_;refine st ?_;refine nl ?_;refine rt ?_
  exact en (.inl rfl) rfl (aT (.agg (.cons (.id rfl) (.cons (.id rfl) (.cons (.id rfl) (.cons (.id rfl) .nil)))))) (by decide) (fun h=>by cases h) (congrArg (fun q=>qF (.of q)) (wY k))
 refine bS (key:=2) 6 rfl rfl aA rfl ⟨rfl,rfl,trivial⟩ ?_;refine aI 1 rfl (kG (n:=1) (by omega) (by omega)) mX ⟨a1 rfl,rfl⟩ (kF 1) ?_
 refine aI 2 rfl (gB ha (Zn.of (k:=1) (by decide))) kM ⟨aB rfl,aB rfl,rfl⟩ (.tup [qF (.of (Rat.divInt k 1)),.one (tv (.int .i64 (if(1:Int)=0 then 20 else 0)))]) ?_
 refine df 3 ?_;refine df 4 ?_;refine df 5 ?_;refine aR 7 (by kernel_rfl) rfl rfl aA rfl rfl rfl rfl ⟨rfl,rfl,trivial⟩ ?_
 refine dE 8 (by kernel_rfl) rfl rfl aA rfl (by trivial) ?_ (fun h=>by first | rfl | cases h)
 refine aO ?_;refine sq ?_;refine rl ?_;refine ld ?_;refine st ?_;refine nl ?_;refine rt ?_
 exact en (.inl rfl) rfl (aT (.agg (.cons (.id rfl) (.cons (.id rfl) (.cons (.id rfl) (.cons (.id rfl) .nil)))))) (by decide) (fun h=>by cases h) (congrArg (fun q=>qF (.of q)) (wY k))
theorem JE {L:Nat}{p:Rat}(h:Sz L p) (hL:1≤L):Sz L ((fl p:Int):Rat):=by
 refine⟨by rw[Rat.num_intCast];exact Nat.le_trans (mO p) h.1,?_⟩
 rw[Rat.den_intCast]
 exact hL
theorem Fc {a:Fr4}{p:Rat}(ha:Qn a p) (hs:Sz 17179869184 p):aD false Tryz.prog 56 [] [qF a] (aM (qF (.of (fc p)))):=by
 refine bL Tryz.func56 rfl Tryz.ntmps56 rfl aA rfl fun N9 w9 c0 h0=>?_
 have hfl:=Nat.le_trans (mO p) (Nat.le_trans hs.1 (show 17179869184≤137438953472 by omega))
 have hfz:Sz 17179869184 ((fl p:Int):Rat):=JE hs (by omega)
 refine sq ?_;refine rl ?_;refine bx 0 ?_;refine al 1 ?_;refine nl ?_;refine sq ?_;refine rd [0,1] (fun i=>[5].contains i) mixed ?_
 refine aV 0 ?_;refine aV 1 ?_;refine aI 2 rfl (zY ha) Uk ⟨aB rfl,rfl⟩ (kF (fl p)) ?_
 refine aI 3 rfl (Fb (Zn.of (k:=fl p) hfl)) EX ⟨aB rfl,rfl⟩ (qF (.of ((fl p:Int):Rat))) ?_
 refine aI 4 rfl (Qe ha (Qn.of hfz) hs (hfz.mono (by omega))) EV ⟨aB rfl,aB rfl,rfl⟩ (qF (.of (p-((fl p:Int):Rat)))) ?_
 refine dst 5 ?_;refine aO ?_;refine rt ?_;exact en (.inl rfl) rfl (aT (.agg (.cons (.id rfl) (.cons (.id rfl) (.cons (.id rfl) (.cons (.id rfl) .nil)))))) (by decide) (fun h=>by cases h) (rfl)
theorem Mx {a b:Fr4}{p q:Rat}(ha:Qn a p) (hb:Qn b q) (hs:Sz 17179869184 p) (hs':Sz 17179869184 q):aD false Tryz.prog 40 [] [qF a,qF b] (aM (.tup [qF (.of (p/q)),.one (tv (.int .i64 (if q=0 then 20 else 0)))])):=by
 refine bL Tryz.func40 rfl Tryz.ntmps40 rfl aA rfl fun N9 w9 c0 h0=>?_
 have hs1:=hs.1
 have hs2:(dg 4294967296 ((p.den:Int)).natAbs).length≤17179869184:=hs.2
 have hs3:=hs'.1
 have hs4:(dg 4294967296 ((q.den:Int)).natAbs).length≤17179869184:=hs'.2
 refine sq ?_;refine rl ?_;refine bx 0 ?_;refine bx 1 ?_;refine al 2 ?_;refine o1 ?_;refine nl ?_;refine sq ?_;refine rl ?_;refine ld ?_
 refine ca (iI ha) rN ⟨aB rfl,rfl⟩ (qF (.of p)) ?_;refine st ?_;refine nl ?_;refine sq ?_;refine rl ?_;refine ld ?_;refine ca (iI hb) rN ⟨aB rfl,rfl⟩ (qF (.of q)) ?_
 refine st ?_;refine nl ?_;refine sq ?_;refine rd [0,1,2] (fun i=>[13,14].contains i) mixed ?_
 refine dv 0 ?_;refine aV 1 ?_;refine dv 2 ?_;refine aV 3 ?_;refine dv 5 ?_;refine aV 6 ?_;refine dv 7 ?_;refine aV 8 ?_;have hn1:=cP (p.num) ((q.den:Int))
 refine aI 4 rfl (fH (eE hs) (cW hs')) jA ⟨aB rfl,aB rfl,rfl⟩ (kF (p.num*(q.den:Int))) ?_;have hn2:=cP ((p.den:Int)) (q.num)
 refine aI 9 rfl (fH (cW hs) (eE hs')) jA ⟨aB rfl,aB rfl,rfl⟩ (kF ((p.den:Int)*q.num)) ?_
 refine aI 10 rfl (gB (Zn.of (k:=(p.num*(q.den:Int))) (by omega)) (Zn.of (k:=((p.den:Int)*q.num)) (by omega))) kM ⟨aB rfl,aB rfl,rfl⟩ (.tup [qF (.of (Rat.divInt ((p.num*(q.den:Int))) (((p.den:Int)*q.num)))),.one (tv (.int .i64 (if(((p.den:Int)*q.num))=0 then 20 else 0)))]) ?_
 refine df 11 ?_;refine df 12 ?_;refine dst 13 ?_;refine dE 14 (by kernel_rfl) rfl rfl aA rfl (by trivial) ?_ (fun h=>by first | rfl | cases h)
 refine aO ?_;refine rt ?_
 exact en (.inl rfl) rfl (hG (.cons (.agg (.cons (.id rfl) (.cons (.id rfl) (.cons (.id rfl) (.cons (.id rfl) .nil))))) (.cons (bZ _) .nil))) (by decide) (fun h=>by cases h) (by have e9:(if((p.den:Int)*q.num)=0 then(20:Int)else 0)=if q=0 then 20 else 0:=(by simp only[Dp]);rw[e9,Mm];rfl)
theorem EY {xs:List Fr4}{B:Nat}(hB:2+xs.length*(B+1)≤17179869184) (hx:∀x∈xs,x.ok) (hz:∀x∈xs,Sz B x.q) (hl:xs.length≤1073741823):aD false Tryz.prog 55 [] [.one (.t (sQ false xs))] (aM (qF (.of (aC (xs.map Fr4.q))))):=by
 refine bL Tryz.func55 rfl Tryz.ntmps55 rfl aA rfl fun N9 w9 c0 h0=>?_
 have h00:(0:Rat)=aC ((xs.take 0).map Fr4.q):=by simp[aC]
 refine sq ?_;refine rl ?_;refine al 0 ?_;refine nl ?_;refine sq ?_;refine rl ?_;refine ca (zX) Ui rfl (qF (.of 0)) ?_;refine al 1 ?_;refine st ?_;refine nl ?_;refine sq ?_
 refine sq ?_;refine rl ?_;refine o1 ?_;refine nl ?_;refine bl ?_
 refine lp (γ:=Nat) (fun k=>cG [(0,.one (.t (sQ false xs))),(2,.one (.pt 0 0)),(3,.one (.pt 1 0)),(4,.one (tv (.int .i64 ((k:Nat):Int))))]) (fun k=>[(⟨50,0,[tv (.bool false),tv (.slice none 0 0),tv (.bool false),tv (.slice none 0 0)]⟩:Ob),⟨50,0,((Fr4.of (aC ((xs.take (k)).map Fr4.q))).tr false).map .t⟩].map some) (fun k=>k≤xs.length∧Sz (2+k*(B+1)) (aC ((xs.take (k)).map Fr4.q))) (fun k=>xs.length-k) 0 ⟨Nat.zero_le _,by simpa[aC]using lD (z:=0) (by omega) (by omega)⟩ (aH h0 [0,1] _ _ (by decide) ⟨rfl,rfl,rfl,rfl,trivial⟩ ⟨oe rfl rfl,bI (congrArg (fun q=>some (⟨50,0,((Fr4.of q).tr false).map .t⟩:Ob)) h00),rfl⟩) fun k hk=>?_
 have hmul:k*(B+1)≤xs.length*(B+1):=Nat.mul_le_mul hk.1 (Nat.le_refl _)
 refine sq ?_;refine sq ?_;refine rl ?_;(iterate 4 refine o1 ?_);refine nl ?_;refine bN rfl (fun h1=>?_) (fun h1=>?_)
 ·refine sk ?_;refine sq ?_;refine bl ?_;have hmul2:(k+1)*(B+1)≤xs.length*(B+1):=Nat.mul_le_mul (by omega) (Nat.le_refl _)
  have hmul3:(k+1)*(B+1)=k*(B+1)+(B+1):=Nat.succ_mul k (B+1)
  refine rd [0,1] (fun i=>[6].contains i) mixed ?_
  refine aV 0 ?_;refine dv 1 ?_;refine dv 2 ?_;refine dv 3 ?_;refine fR 4 ((aS xs (k)).tr false) (eO xs (k:=k) (by omega)) ?_
  refine aI 5 rfl (Ey (Qn.of (p:=(aC ((xs.take (k)).map Fr4.q))) (hk.2.mono (M:=17179869184) (by omega))) ⟨hx _ (bJ (by omega)),rfl⟩ (hk.2.mono (M:=17179869184) (by omega)) ((hz _ (bJ (by omega))).mono (M:=17179869184) (by omega))) Uj ⟨aB rfl,aB rfl,rfl⟩ (qF (.of ((aC ((xs.take (k)).map Fr4.q))+(aS xs (k)).q))) ?_
  refine dst 6 ?_;refine aO ?_;refine rl ?_;refine o1 ?_;refine o1 ?_;refine WL.cast (t:=11) (u':=.int .i64 ((k+1:Nat):Int)) rfl (aK (by omega)) ?_
  refine o1 ?_;refine nl ?_;have hst:(aC ((xs.take (k+1)).map Fr4.q))=(aC ((xs.take (k)).map Fr4.q))+(aS xs (k)).q:=by rw[tA (by omega)];exact oV _ _
  exact⟨k+1,by omega,⟨by omega,by rw[hst];exact(tB hk.2 (hz _ (bJ (by omega)))).mono (by omega)⟩,aH h0 [0,1] _ _ (by decide) ⟨rfl,rfl,rfl,rfl,trivial⟩ ⟨oe rfl rfl,bI (congrArg (fun q=>some (⟨50,0,((Fr4.of q).tr false).map .t⟩:Ob)) hst.symm),rfl⟩⟩
 refine ex ?_;refine sq ?_;refine rl ?_;refine ld ?_;refine st ?_;refine nl ?_;refine rt ?_
 exact en (.inl rfl) rfl (aT (.agg (.cons (.id rfl) (.cons (.id rfl) (.cons (.id rfl) (.cons (.id rfl) .nil)))))) (by decide) (fun h=>by cases h) (by rw[List.take_of_length_le (by omega)];rfl)
end Go.Proofs.YthmgbcdidlkpoaaGreat
