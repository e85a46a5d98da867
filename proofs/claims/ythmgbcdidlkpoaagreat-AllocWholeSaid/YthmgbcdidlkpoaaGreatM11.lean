/- Part 11 of a proof: Q5 to R2. -/
import Derived.Test.YthmgbcdidlkpoaaGreatM10
import Derived.Test.YthmgbcdidlkpoaaGreatM9
import Derived.Test.YthmgbcdidlkpoaaGreatM5
import Derived.Test.YthmgbcdidlkpoaaGreatM6
import Derived.ProofKit
import Derived.ChangeOld
import Derived.Deep.Slices
import Derived.Deep.Strs
import Derived.Test.YthmgbcdidlkpoaaGreatM7
set_option maxRecDepth 100000
set_option linter.unusedVariables false
set_option linter.unusedSimpArgs false
namespace Go.Proofs.YthmgbcdidlkpoaaGreat
open Go Go.RowKit
theorem Oh {xs:List Fr4}{k:Nat}(h:k<xs.length):bG (xs.map Fr4.q) k=(bD xs k).q:=kI h
theorem Oi {xs:List Fr4}{i k:Nat}(hi:i<xs.length) (hk:k<xs.length):yZ (nR (xs.map Fr4.q)) i k=if(fc (bD xs k).q-fc (bD xs i).q).num.sign≠0 then(fc (bD xs k).q-fc (bD xs i).q).num.sign else if i<k then-1 else if k<i then 1 else 0:=by
 unfold yZ nR
 rw[Oh hi,Oh hk]
theorem HI {xs:List Fr4}{i k:Nat}(hx:∀x∈xs,x.ok) (hz:∀x∈xs,Sz 1000 x.q) (hl:xs.length≤12) (hi:i<xs.length) (hk:k<xs.length):aD true Tryz.prog 95 [] [.one (tv (.int .i64 ((i:Nat):Int))),.one (tv (.int .i64 ((k:Nat):Int))),.one (.t (.p false 42 [sQ false xs]))] (aM (.one (tv (.int .i64 (yZ (nR (xs.map Fr4.q)) i k))))):=by
 refine bK Tryz.func95 rfl Tryz.ntmps95 rfl aA rfl fun N9 w9 c0 h0=>?_
 refine WP.sub (MG (i:=2) rfl rfl) ?_;refine sq ?_;refine rl ?_;refine o1 ?_;refine nl ?_;refine sq ?_;refine sq ?_;refine rd [] (fun i=>[13].contains i) mixed ?_
 refine dv 0 ?_;refine iE 1 ([sQ false xs]) rfl ?_;refine dv 2 ?_;refine dv 3 ?_;refine iE 4 ((bD xs (k)).tr false) (iN xs (k:=k) (by omega)) ?_
 refine dv 6 ?_;refine iE 7 ([sQ false xs]) rfl ?_;refine dv 8 ?_;refine dv 9 ?_;refine iE 10 ((bD xs (i)).tr false) (iN xs (k:=i) (by omega)) ?_
 refine aI 5 rfl (Nu ⟨hx _ (cL (by omega)),rfl⟩) CY ⟨aB rfl,rfl⟩ (qF (.of (fc (bD xs (k)).q))) ?_
 refine aI 11 rfl (Nu ⟨hx _ (cL (by omega)),rfl⟩) CY ⟨aB rfl,rfl⟩ (qF (.of (fc (bD xs (i)).q))) ?_
 refine aI 12 rfl (Vy (Qn.of (p:=(fc (bD xs (k)).q)) (rC (hz _ (cL (by omega))))) (Qn.of (p:=(fc (bD xs (i)).q)) (rC (hz _ (cL (by omega)))))) CK ⟨aB rfl,aB rfl,rfl⟩ (.one (tv (.int .i64 ((fc (bD xs (k)).q)-(fc (bD xs (i)).q)).num.sign))) ?_
 refine dF 13 (by kernel_rfl) rfl rfl aA rfl (by trivial) ?_ (fun h=>by first | rfl | cases h)
 refine aO ?_;refine sq ?_;refine rl ?_;refine o1 ?_;refine o1 ?_;refine nl ?_;refine bU rfl (fun h1=>?_) (fun h1=>?_)
 ·refine sq ?_;refine rl ?_;refine o1 ?_;refine o1 ?_;refine nl ?_;refine rt ?_;have e1:=Oi (xs:=xs) hi hk
  exact en (.inl rfl) rfl (aP (cD _)) (by decide) (fun _=>trivial) (congrArg (fun z=>FV.one (tv (.int .i64 z))) (by rw[e1,if_pos h1]))
 refine sk ?_;refine sq ?_;refine rl ?_;refine o1 ?_;refine o1 ?_
 refine ca (Oa (x:=(i:Int)) (y:=(k:Int))) KE ⟨a1 rfl,a1 rfl,rfl⟩ (.one (tv (.int .i64 (if(i:Int)<k then-1 else if(k:Int)<i then 1 else 0)))) ?_;refine o1 ?_
 refine nl ?_;refine rt ?_;have e1:=Oi (xs:=xs) hi hk
 exact en (.inl rfl) rfl (aP (cD _)) (by decide) (fun _=>trivial) (congrArg (fun z=>FV.one (tv (.int .i64 z))) (by rw[e1,if_neg h1];simp only[Int.ofNat_lt]))
theorem CZ {zs:List Zi}{n L:Nat}(hn:zs.length=n) (hz:∀a∈zs,ZL L a) (hL:L≤1000000) (hl:zs.length≤1000000):aD true Tryz.prog 66 [] [.one (.t (.s false 24 2 n (zs.flatMap (bS false))))] (aM (kO (cQ zs))):=by
 subst hn
 exact Od hz hL hl
theorem Yu {xs:List Nat}{m n:Nat}{cf:Nat→Nat→Int}{lt:Nat→Nat→Bool}{fd:FuncId}{fst caps:List Tr}(hn:xs.length=n) (hok:CallOk Tryz.prog fd) (hd:∀x y,x<m→y<m→aD true Tryz.prog fd [] (dA fst++[.one (tv (.int .i64 ((x:Nat):Int))),.one (tv (.int .i64 ((y:Nat):Int)))]++dA caps) (aM (.one (tv (.int .i64 (cf x y)))))) (hlt:∀x y,decide (cf x y<0)=lt x y) (hm:∀z∈xs,z<m) (hl:n<20):aD false Tryz.prog 94 [⟨3,1,(cE xs).map .t⟩] [.one (.sl 0 0 n),.one (.t (.f fd fst caps))] (Rt [⟨3,1,(cE (hH lt xs)).map .t⟩] (.tup [])):=by
 subst hn
 exact CS hok hd hlt hm hl
theorem DA (ws:List Zi):(fK ws).take (ws.flatMap (bS true)).length=(ws.flatMap (bS true)).map .t:=List.take_of_length_le (by simp[fK])
theorem Oj {xs:List Fr4}{k:Nat}(h:k<xs.length):bY ((xs.map Fr4.q).map fl) k=fl (bD xs k).q:=by simp[bY,bD,h]
theorem DB {l:List Rat}(h:∀q∈l,Sz 1000 q):∀a∈aT (l.map fl),ZL 1001 a:=fun a ha=>by
 obtain⟨k,hk,rfl⟩:=List.mem_map.1 ha
 obtain⟨q,hq,rfl⟩:=List.mem_map.1 hk
 exact⟨aH (by omega) _,Nat.le_trans (Nat.le_trans (mL q) (h q hq).1) (by omega)⟩
theorem Yv (l:List Rat):cQ (aT (l.map fl))=fF (l.map fl):=Ie _
theorem Yw {l:List Rat}{tot:Int}(hn:(aT (l.map fl)).length≤12) (hz:∀a∈aT (l.map fl),ZL 1001 a) (_:(aC l).den=1) (hs:∀q∈l,Sz 1000 q) (hl:l.length≤12) (ht:tot=(aC l).num):(dg 4294967296 tot.natAbs).length≤300000000000∧(dg 4294967296 (cQ (aT (l.map fl))).natAbs).length≤300000000000:=by
 have h1:=mH (k:=(aT (l.map fl)).length) hz (by omega)
 rw[List.take_length]at h1
 have h2:=(rB hs).1
 have h3:l.length*(1000+1)≤12*1001:=Nat.mul_le_mul hl (Nat.le_refl _)
 rw[ht]
 exact⟨by omega,by omega⟩
theorem Ok {l:List Rat}{tot:Int}(ht:tot=(aC l).num):tot-cQ (aT (l.map fl))=eI l:=by rw[Yv,ht];rfl
theorem Yx {l:List Rat}{tot:Int}(_:(aT (l.map fl)).length≤12) (_:∀a∈aT (l.map fl),ZL 1001 a) (hd:(aC l).den=1) (_:∀q∈l,Sz 1000 q) (hl:l.length≤12) (ht:tot=(aC l).num):(dg 4294967296 (tot-cQ (aT (l.map fl))).natAbs).length≤137438953472:=by
 rw[Ok ht]
 have h1:=kW hd
 have h2:=sY hd
 have h3:(dg 4294967296 (eI l).natAbs).length≤1:=bX (by omega) (show(eI l).natAbs<4294967296^1 by omega)
 omega
theorem HJ {l:List Rat}{tot:Int}(_:(aT (l.map fl)).length≤12) (hd:(aC l).den=1) (ht:tot=(aC l).num) (hl:l.length≤12):(if jY (tot-cQ (aT (l.map fl)))then tot-cQ (aT (l.map fl))else 0)=(((eI l).toNat:Nat):Int):=by
 rw[Ok ht]
 have h1:=kW hd
 have h2:=sY hd
 have h3:jY (eI l)=true:=decide_eq_true (by omega)
 rw[if_pos h3]
 omega
theorem DC {l:List Rat}{t i n:Nat}(hs:∀q∈l,Sz 1000 q) (hi:i<n) (hn:l.length=n):(dg 4294967296 (bY (dS l t) i).natAbs).length≤300000000000:=by
 subst hn
 rw[pV hi]
 have h1:=mL (bG l i)
 have h2:=(hs _ (eB hi)).1
 have h4:(dg 4294967296 (fl (bG l i)+if i∈(cA l).take t then 1 else 0).natAbs).length≤1002:=by
  have h5:=gL (fl (bG l i)) (if i∈(cA l).take t then 1 else 0)
  have h6:(dg 4294967296 (if i∈(cA l).take t then(1:Int)else 0).natAbs).length≤1:=by split <;> decide
  omega
 omega
theorem Az {xs:List Fr4}{tot:Int}(hx:∀x∈xs,x.ok) (hz:∀x∈xs,Sz 1000 x.q) (hz9:∀q∈(xs.map Fr4.q),Sz 1000 q) (hl:xs.length≤12) (hl9:(xs.map Fr4.q).length≤12) (hden:(aC (xs.map Fr4.q)).den=1) (htot:tot=(aC (xs.map Fr4.q)).num):aD false Tryz.prog 53 [] [.agg [.t (sQ false xs)],kF tot] (aM (.one (.t (xO 24 (aT (eV (xs.map Fr4.q))))))):=by
 refine bK Tryz.func53 rfl Tryz.ntmps53 rfl aA rfl fun N9 w9 c0 h0=>?_
 have hll:(xs.map Fr4.q).length=xs.length:=List.length_map ..
 have hfl9:(aT ((xs.map Fr4.q).map fl)).length=xs.length:=by simp[aT]
 have hlf0:=kW hden
 have hlf1:=sY hden
 have hzf:∀a∈aT ((xs.map Fr4.q).map fl),ZL 1001 a:=DB fun q hq=>(by obtain⟨x,hx9,rfl⟩:=List.mem_map.1 hq;exact hz x hx9)
 have hT:=Yw (by rw[hfl9];omega) hzf hden hz9 hl9 htot
 have hT2:=Yx (by rw[hfl9];omega) hzf hden hz9 hl9 htot
 refine sq ?_;refine rl ?_;refine bx 0 ?_;refine bx 1 ?_;refine o1 ?_;refine nl ?_;refine sq ?_;refine rl ?_;refine o1 ?_;refine nl ?_;refine sq ?_;refine rl ?_;refine o1 ?_;refine nl ?_
 refine sq ?_;refine sq ?_;refine rl ?_;refine o1 ?_;refine ld ?_;refine o1 ?_;refine o1 ?_;refine nl ?_;refine bl ?_
 refine lp (γ:=Nat) (fun k=>cG [(2,.one (.pt 0 0)),(3,.one (.pt 1 0)),(14,.one (.t (sQ false xs))),(15,.one (tv (.int .i64 ((xs.length:Nat):Int)))),(5,.one (.sl 2 0 (k))),(6,.one (.sl 3 0 (k))),(16,.one (tv (.int .i64 ((k:Nat):Int))))]) (fun k=>[(⟨42,0,[.t (sQ false xs)]⟩:Ob),⟨24,0,[tv (.bool (aF (tot))),.t (sU false (dg 4294967296 (tot).natAbs))]⟩,⟨24,2,fK (aT (((xs.map Fr4.q).map fl).take k))⟩,⟨3,1,(cE (List.range k)).map .t⟩].map some) (fun k=>k≤xs.length) (fun k=>xs.length-k) 0 (Nat.zero_le _) (((nr (i:=5) 2 24 2 rfl rfl rfl rfl).trans (nr (i:=6) 3 3 1 rfl rfl rfl rfl)).trans (aJ h0 [0,1,2,3] _ _ (by decide) ⟨rfl,rfl,rfl,rfl,rfl,rfl,rfl,trivial⟩ ⟨oe rfl rfl,oe rfl rfl,bJ rfl,bJ rfl,rfl⟩)) fun k hk=>?_
 refine sq ?_;refine rl ?_;refine o1 ?_;refine nl ?_;refine sq ?_;refine bU rfl (fun h1=>?_) (fun h1=>?_)
 ·refine sk ?_;refine sq ?_;refine bl ?_;refine sq ?_;refine rl ?_;refine o1 ?_;refine o1 ?_;refine fQ ((bD xs (k)).tr false) (iN xs (k:=k) (by omega)) ?_
  refine al 4 ?_;refine o1 ?_;refine st ?_;refine nl ?_;refine rl ?_;refine o1 ?_;refine ld ?_;refine fJ 5 (yX ⟨hx _ (cL (by omega)),rfl⟩) Sq ⟨aB rfl,rfl⟩ ?_
  refine bs 6 ?_
  refine eJ (j:=7) (n:=k) (m:=1) aA rfl rfl rfl rfl (.sl rfl (by rw[kJ,cU,List.length_take,List.length_map,hll,Nat.min_eq_left (by omega)])) (.sl rfl rfl rfl) rfl rfl rfl (by omega) (by omega) ?_
  refine WL.sub (MH (j:=7) (k1:=5) (e:=24) (ws:=aT (((xs.map Fr4.q).map fl).take k)) (z:=.of (fl (bD xs (k)).q)) rfl rfl rfl) ?_;refine o1 ?_;refine o1 ?_;refine bs 8 ?_
  refine eJ (j:=9) (n:=k) (m:=1) aA rfl rfl rfl rfl (.sl rfl (by rw[List.length_map,fG,List.length_range,Nat.mul_one])) (.sl rfl rfl rfl) rfl rfl rfl (by omega) (by omega) ?_
  refine o1 ?_;refine o1 ?_;refine nl ?_;refine rl ?_;refine o1 ?_;refine WL.cast (t:=30) (u':=.int .i64 ((k+1:Nat):Int)) rfl (aL (by omega)) ?_
  refine o1 ?_;refine nl ?_
  have hst:aT (((xs.map Fr4.q).map fl).take k)++[Zi.of (fl (bD xs (k)).q)]=aT (((xs.map Fr4.q).map fl).take (k+1)):=by rw[Di,oL (by rw[List.length_map,hll];omega),Oj (by omega)]
  exact⟨k+1,by omega,by omega,aJ h0 [0,1,7,9] _ _ (by decide) ⟨rfl,rfl,rfl,rfl,rfl,rfl,rfl,trivial⟩ ⟨oe rfl rfl,oe rfl rfl,bJ (congrArg (fun l=>some (⟨24,2,fK l⟩:Ob)) hst),kK rfl (fH (List.range k) [k]) List.range_succ.symm,rfl⟩⟩
 refine ex ?_;refine sq ?_;have hk9:k=xs.length:=by omega
 have hfk:((xs.map Fr4.q).map fl).take k=((xs.map Fr4.q).map fl):=List.take_of_length_le (by rw[List.length_map,hll];omega)
 refine WP.sub (MI (i:=2) (k:=0) (t:=42) (l:=[sQ false xs]) rfl rfl rfl (.one .sl)) ?_;refine rl ?_;refine o1 ?_;refine o1 ?_
 refine cl 4 [3] (Yu (xs:=List.range k) (n:=k) (m:=xs.length) (cf:=yZ (nR (xs.map Fr4.q))) (lt:=eY (nR (xs.map Fr4.q))) (fst:=[]) (caps:=[.p false 42 [sQ false xs]]) List.length_range KF (fun x y h1 h2=>HI hx hz hl h1 h2) (Yi _) (fun z h=>by have:=List.mem_range.1 h;omega) (by omega)) KG ⟨bJ rfl,rfl⟩ ⟨rfl,rfl,rfl⟩ (ok:=[some ⟨3,1,(cE (hH (eY (nR (xs.map Fr4.q))) (List.range k))).map .t⟩]) ⟨bJ rfl,rfl⟩ ?_
 refine nl ?_;refine sq ?_;have hordl:(cA (xs.map Fr4.q)).length=xs.length:=by unfold cA;rw[iH,hll]
 have hord:hH (eY (nR (xs.map Fr4.q))) (List.range k)=(cA (xs.map Fr4.q)):=by unfold cA eW;rw[hll,hk9]
 refine WP.sub (aJ h0 [1,2,3] [(3,.one (.pt 0 0)),(5,.one (.sl 1 0 (xs.length))),(6,.one (.sl 2 0 (xs.length)))] [(⟨24,0,[tv (.bool (aF (tot))),.t (sU false (dg 4294967296 (tot).natAbs))]⟩:Ob),⟨24,2,fK (aT ((xs.map Fr4.q).map fl))⟩,⟨3,1,(cE (cA (xs.map Fr4.q))).map .t⟩] (by decide) ⟨rfl,CW hk9,CW hk9,trivial⟩ ⟨oe rfl rfl,bJ (congrArg (fun l=>some (⟨24,2,fK (aT l)⟩:Ob)) hfk),bJ (congrArg (fun l:List Nat=>some (⟨3,1,(cE l).map .t⟩:Ob)) hord),rfl⟩) ?_
 refine rd [0] (fun i=>[9].contains i) mixed ?_
 refine aX 0 ?_;refine dv 1 ?_
 refine aI 2 rfl (CZ (zs:=aT ((xs.map Fr4.q).map fl)) (n:=xs.length) (L:=1001) (by simp[aT]) hzf (by omega) (by rw[hfl9];omega)) DD ⟨vO rfl (.sr rfl rfl (DA _) (by rw[bV (dJ true),hfl9]) (rD _)),rfl⟩ (kF (cQ (aT ((xs.map Fr4.q).map fl)))) ?_
 refine aI 3 rfl (Wg (Zg.of (k:=tot) hT.1) (Zg.of (k:=(cQ (aT ((xs.map Fr4.q).map fl)))) hT.2)) DE ⟨aB rfl,aB rfl,rfl⟩ (kF (tot-(cQ (aT ((xs.map Fr4.q).map fl))))) ?_
 refine aI 4 rfl (Dg (Zn.of (k:=(tot-(cQ (aT ((xs.map Fr4.q).map fl))))) hT2)) DF ⟨aB rfl,rfl⟩ (.tup [.one (tv (.int .i64 (if jY (tot-(cQ (aT ((xs.map Fr4.q).map fl))))then(tot-(cQ (aT ((xs.map Fr4.q).map fl))))else 0))),.one (tv (.bool (jY (tot-(cQ (aT ((xs.map Fr4.q).map fl)))))))]) ?_
 refine df 5 ?_;refine df 6 ?_;refine WD.cast (t:=40) (u':=.int .i64 (((eI (xs.map Fr4.q)).toNat:Nat):Int)) rfl (aL (HJ (by rw[hfl9];omega) hden htot hl9)) ?_
 refine df 7 ?_;refine dF 8 (by kernel_rfl) rfl rfl aA rfl (by trivial) ?_ (fun h=>by first | rfl | cases h)
 refine dF 9 (by kernel_rfl) rfl rfl aA rfl (by trivial) ?_ (fun h=>by first | rfl | cases h)
 refine aO ?_;refine sq ?_;refine sq ?_;refine rl ?_;(iterate 5 refine o1 ?_);refine nl ?_;refine bl ?_
 have hinc0:aT ((xs.map Fr4.q).map fl)=aT (dS (xs.map Fr4.q) (0)):=by rw[Dj]
 refine lp (γ:=Nat) (fun t=>cG [(5,.one (.sl 0 0 (xs.length))),(44,.one (.sl 1 0 ((eI (xs.map Fr4.q)).toNat))),(45,.one (tv (.int .i64 (((eI (xs.map Fr4.q)).toNat:Nat):Int)))),(46,.one (tv (.int .i64 ((t:Nat):Int))))]) (fun t=>[(⟨24,2,fK (aT (dS (xs.map Fr4.q) (t)))⟩:Ob),⟨3,1,(cE (cA (xs.map Fr4.q))).map .t⟩].map some) (fun t=>t≤(eI (xs.map Fr4.q)).toNat) (fun t=>(eI (xs.map Fr4.q)).toNat-t) 0 (Nat.zero_le _) (aJ h0 [1,2] _ _ (by decide) ⟨rfl,rfl,rfl,rfl,trivial⟩ ⟨bJ (congrArg (fun l=>some (⟨24,2,fK l⟩:Ob)) hinc0),bJ rfl,rfl⟩) fun t ht=>?_
 refine sq ?_;refine rl ?_;refine o1 ?_;refine nl ?_;refine sq ?_;refine bU rfl (fun h2=>?_) (fun h2=>?_)
 ·refine sk ?_;refine sq ?_;refine bl ?_;refine sq ?_;refine rl ?_;refine o1 ?_;refine Wh (jN (cA (xs.map Fr4.q)) (k:=t) (by omega)) ?_
  refine o1 ?_;refine nl ?_
  have hlt9:(nth (cA (xs.map Fr4.q)) (t))<xs.length:=by have h9:(nth (cA (xs.map Fr4.q)) (t))<(xs.map Fr4.q).length:=pW (f:=nR (xs.map Fr4.q)) (n:=(xs.map Fr4.q).length) (t:=t) (by rw[hll];omega);rwa[hll]at h9
  have hw9:(nth (cA (xs.map Fr4.q)) (t))<(aT (dS (xs.map Fr4.q) (t))).length:=by rw[cU,iI,hll];exact hlt9
  have hz9k:gS (aT (dS (xs.map Fr4.q) (t))) (nth (cA (xs.map Fr4.q)) (t))=.of (bY (dS (xs.map Fr4.q) (t)) (nth (cA (xs.map Fr4.q)) (t))):=pX (by rw[iI,hll];exact hlt9)
  have hK0:=DC (t:=t) hz9 hlt9 (by rw[hll])
  refine WP.sub (JO (j:=0) (key:=2) (e:=24) (ws:=(aT (dS (xs.map Fr4.q) (t)))) (i:=(nth (cA (xs.map Fr4.q)) (t))) (z:=.of (bY (dS (xs.map Fr4.q) (t)) (nth (cA (xs.map Fr4.q)) (t)))) rfl rfl hw9 hz9k) ?_
  refine rd [0] (fun i=>[9].contains i) mixed ?_
  refine dv 0 ?_;refine dv 1 ?_;refine dv 2 ?_;refine dv 3 ?_;refine dv 4 ?_
  refine Sr 5 (us:=[tv (.bool (aF (bY (dS (xs.map Fr4.q) (t)) (nth (cA (xs.map Fr4.q)) (t))))),.sl 2 0 (dg 4294967296 ((bY (dS (xs.map Fr4.q) (t)) (nth (cA (xs.map Fr4.q)) (t)))).natAbs).length]) (Ol (z:=.of (bY (dS (xs.map Fr4.q) (t)) (nth (cA (xs.map Fr4.q)) (t)))) hw9 hz9k) ?_
  refine aI 6 rfl (jG (n:=1) (by omega) (by omega)) jH ⟨a1 rfl,rfl⟩ (kF 1) ?_
  refine iM 3 7 rfl (Cb (Zg.of (k:=(bY (dS (xs.map Fr4.q) (t)) (nth (cA (xs.map Fr4.q)) (t)))) hK0) (Zg.of (k:=1) (by decide))) Lm ⟨mG rfl (.cons .t (.cons (.sl rfl rfl (Ho _) (aQ _)) .nil)),aB rfl,rfl⟩ ?_
  refine dv 8 ?_;refine Dd 9 (zD hw9) (Om hw9) ?_;refine aO ?_
  refine WP.sub (JP (j:=0) (k1:=3) (e:=24) (ws:=(aT (dS (xs.map Fr4.q) (t)))) (i:=(nth (cA (xs.map Fr4.q)) (t))) (z:=.of ((bY (dS (xs.map Fr4.q) (t)) (nth (cA (xs.map Fr4.q)) (t)))+1)) rfl hw9 rfl rfl) ?_
  refine rl ?_;refine o1 ?_;refine WL.cast (t:=59) (u':=.int .i64 ((t+1:Nat):Int)) rfl (aL (by omega)) ?_
  refine o1 ?_;refine nl ?_
  have hst:(aT (dS (xs.map Fr4.q) (t))).set (nth (cA (xs.map Fr4.q)) (t)) (.of ((bY (dS (xs.map Fr4.q) (t)) (nth (cA (xs.map Fr4.q)) (t)))+1))=aT (dS (xs.map Fr4.q) (t+1)):=by rw[uM,Dk (by rw[hll];omega)]
  exact⟨t+1,by omega,by omega,aJ h0 [0,1] _ _ (by decide) ⟨rfl,rfl,rfl,rfl,trivial⟩ ⟨bJ (congrArg (fun l=>some (⟨24,2,fK l⟩:Ob)) hst),bJ rfl,rfl⟩⟩
 refine ex ?_;refine sq ?_;refine rl ?_;refine o1 ?_;refine o1 ?_;refine nl ?_;refine rt ?_
 have ht9:aT (dS (xs.map Fr4.q) (t))=aT (eV (xs.map Fr4.q)):=by rw[eV,show t=(eI (xs.map Fr4.q)).toNat by omega]
 have hl5:(aT (eV (xs.map Fr4.q))).length=xs.length:=by rw[cU,pY,hll]
 exact en (.inl rfl) rfl (aP (.one (.sl (trs:=(aT (eV (xs.map Fr4.q))).flatMap (bS true)) rfl rfl (by rw[ht9,←hl5];exact nS _) (by rw[bV (dJ true),hl5])))) (by decide) (fun h=>by cases h) (by unfold xO;rw[hl5];rfl)
theorem On {xs:List Fr4}(hx:∀x∈xs,x.ok) (hl:xs.length≤1073741823):aD true Tryz.prog 49 [] [.one (.t (sQ false xs))] (aM (.one (tv (.bool (!(xs.any lZ)))))):=by
 refine bK Tryz.func49 rfl Tryz.ntmps49 rfl aA rfl fun N9 w9 c0 h0=>?_
 refine sq ?_;refine rl ?_;refine o1 ?_;refine nl ?_;refine sq ?_;refine rl ?_;refine o1 ?_
 refine ca (Ny (dl:=lZ) (fst:=[]) (caps:=[]) KH (fun x h=>Li ⟨hx x h,rfl⟩) hl) CU ⟨a1 rfl,a1 rfl,rfl⟩ (.one (tv (.bool (xs.any lZ)))) ?_
 refine o1 ?_;refine o1 ?_;refine nl ?_;refine rt ?_;exact pT (.inl rfl) rfl (rfl)
theorem xP {p:Rat}(hp:Sz 68719476736 p):aD true Tryz.prog 49 [] [.one (.t (sQ false [Fr4.of p]))] (aM (.one (tv (.bool (decide (p.den=1)))))):=by
 have h:=On (xs:=[Fr4.of p]) (fun x hx=>by rw[List.mem_singleton]at hx;subst hx;exact(Qn.of hp).1) (by simp)
 have e:(!([Fr4.of p].any lZ))=decide (p.den=1):=by
  rw[List.any_cons,List.any_nil,Bool.or_false,Sf p (Ba p),Bool.not_not]
 rwa[e]at h
theorem Ss {l:List Rat}{n:Nat}(hn:l.length=n) (hz:∀q∈l,Sz 1000 q) (hl:l.length≤1073741823):aD true Tryz.prog 51 [] [.agg [.t (.s false 50 4 n (l.flatMap dD))]] (aM (.one (tv (.bool (l.any fun x=>decide (x<0)))))):=by
 have h:=zA (xs:=dZ l) (sV hz (by omega)) (by rw[gT];exact hl)
 rwa[Yy,xK hn]at h
theorem Oo {xs:List Fr4}(hx:∀x∈xs,x.ok) (hz:∀x∈xs,Sz 1000 x.q) (hl:xs.length≤12) (hpos:¬(aC (xs.map Fr4.q))<0):aD false Tryz.prog 17 [] [.agg [.t (sQ false xs)]] (aM (.one (.t (xO 24 (aT (cK (xs.map Fr4.q))))))):=by
 refine Cw Tryz.func17 rfl Tryz.ntmps17 rfl aA rfl fun N9 w9 c0 h0=>?_
 have hll:(xs.map Fr4.q).length≤12:=by rw[List.length_map];exact hl
 have hzl:∀q∈(xs.map Fr4.q),Sz 1000 q:=fun q hq=>(by obtain⟨x,h9,rfl⟩:=List.mem_map.1 hq;exact hz x h9)
 have hzn:∀q∈(cT (xs.map Fr4.q)),Sz 1000 q:=fun q hq=>(by obtain⟨p,h9,rfl⟩:=List.mem_map.1 hq;exact mM (hzl p h9))
 have hsz:Sz 20000 (aC (xs.map Fr4.q)):=(rB hzl).mono (by have:=Nat.mul_le_mul hll (Nat.le_refl 1001);omega)
 refine sq ?_;refine rl ?_;refine bx 0 ?_;refine o1 ?_;refine nl ?_;refine sq ?_;refine rl ?_;refine o1 ?_;refine ld ?_
 refine ca (Wb (B:=1000) (by omega) hx hz (by omega)) wG ⟨a1 rfl,rfl⟩ (qF (.of (aC (xs.map Fr4.q)))) ?_
 refine al 1 ?_;refine st ?_;refine nl ?_;refine sq ?_;refine bl ?_;refine sq ?_;refine rl ?_;refine ld ?_;refine bs 2 ?_
 refine WL.sub (DG (i:=12) (k:=2) (t:=48) (z:=4) (n:=1) (l:=[Fr4.of (aC (xs.map Fr4.q))].flatMap (Fr4.tr false)) 50 rfl rfl rfl rfl (.one .sl)) ?_
 refine ca (xP (p:=(aC (xs.map Fr4.q))) (hsz.mono (by omega))) DH ⟨a1 rfl,rfl⟩ (.one (tv (.bool (decide ((aC (xs.map Fr4.q)).den=1))))) ?_
 refine WL.splitb (t:=13) rfl (fun h1=>?_) (fun h1=>?_)
 ·refine o1 ?_;refine o1 ?_;refine nl ?_;refine gQ rfl ?_;refine sq ?_;have hden:(aC (xs.map Fr4.q)).den=1:=of_decide_eq_true h1
  refine rl ?_;refine ld ?_;refine ca (xJ (Qn.of (p:=(aC (xs.map Fr4.q))) hsz)) Ln ⟨aB rfl,rfl⟩ (.one (tv (.int .i64 (aC (xs.map Fr4.q)).num.sign))) ?_;refine o1 ?_;refine o1 ?_
  refine nl ?_;refine bU rfl (fun h2=>?_) (fun h2=>?_)
  ·exact absurd (kA.1 h2) hpos
  refine sq ?_;have hS0:¬(aC (xs.map Fr4.q))<0:=fun h=>h2 (kA.2 h)
  refine rl ?_;refine ld ?_;refine ca (zA hx (by omega)) St ⟨mG rfl (.cons .t .nil),rfl⟩ (.one (tv (.bool (xs.any fun x=>decide (x.q<0))))) ?_
  refine o1 ?_;refine nl ?_;refine vM rfl (fun h3=>?_) (fun h3=>?_)
  ·refine sq ?_;refine rl ?_;refine o1 ?_;refine nl ?_;refine rt ?_;have hres:cK (xs.map Fr4.q)=[]:=wH hden hS0 (by rw[List.any_map];exact h3)
   refine vL (nr (i:=2) 3 24 2 rfl rfl rfl rfl) ?_;exact gR <| en (.inl rfl) rfl (aP (.one (.sl (trs:=[]) rfl rfl rfl rfl))) (by decide) (fun h=>by cases h) (by rw[hres];rfl)
  refine sk ?_;refine sq ?_;have h40:=h3
  refine rd [0,1] (fun i=>[4].contains i) mixed ?_
  refine aX 0 ?_;refine aX 1 ?_;refine aI 2 rfl (yX (Qn.of (p:=(aC (xs.map Fr4.q))) hsz)) Sq ⟨aB rfl,rfl⟩ (kF (fl (aC (xs.map Fr4.q)))) ?_
  refine iM 3 3 rfl (Az (tot:=fl (aC (xs.map Fr4.q))) hx hz hzl hl hll hden (Dl hden)) DI ⟨mG rfl (.cons .t .nil),aB rfl,rfl⟩ ?_
  refine dF 4 (by kernel_rfl) rfl rfl aA rfl (by trivial) ?_ (fun h=>by first | rfl | cases h)
  refine aO ?_;refine rt ?_;have hres:cK (xs.map Fr4.q)=eV (xs.map Fr4.q):=uN hden hS0 (by rw[List.any_map];exact h40)
  exact gR <| en (.inl rfl) rfl (aP (.one (.sl (trs:=(aT (eV (xs.map Fr4.q))).flatMap (bS true)) rfl rfl (nS _) (bV (dJ true) _)))) (by decide) (fun h=>by cases h) (by rw[hres];rfl)
 refine o1 ?_;refine o1 ?_;refine nl ?_;refine mF rfl ?_;refine sq ?_;have hfr:(aC (xs.map Fr4.q)).den≠1:=of_decide_eq_false h1
 refine rl ?_;refine o1 ?_;refine nl ?_;refine rt ?_;have hres:cK (xs.map Fr4.q)=[]:=wI hfr
 refine vL (nr (i:=2) 3 24 2 rfl rfl rfl rfl) ?_;exact gR <| en (.inl rfl) rfl (aP (.one (.sl (trs:=[]) rfl rfl rfl rfl))) (by decide) (fun h=>by cases h) (by rw[hres];rfl)
theorem Su {l:List Rat}{n:Nat}(hn:l.length=n) (hz:∀q∈l,Sz 1000 q) (hl:l.length≤12) (hpos:¬aC l<0):aD false Tryz.prog 17 [] [.agg [.t (.s false 50 4 n (l.flatMap dD))]] (aM (.one (.t (xO 24 (aT (cK l)))))):=by
 have h:=Oo (xs:=dZ l) (sV hz (by omega)) (xL hz) (by rw[gT];exact hl) (by rw[xM];exact hpos)
 rwa[xM,xK hn]at h
theorem If {xs:List Fr4}(hx:∀x∈xs,x.ok) (hz:∀x∈xs,Sz 1000 x.q) (hl:xs.length≤12):aD false Tryz.prog 17 [] [.agg [.t (sQ false xs)]] (aM (.one (.t (xO 24 (aT (cK (xs.map Fr4.q))))))):=by
 refine Cw Tryz.func17 rfl Tryz.ntmps17 rfl aA rfl fun N9 w9 c0 h0=>?_
 have hll:(xs.map Fr4.q).length≤12:=by rw[List.length_map];exact hl
 have hzl:∀q∈(xs.map Fr4.q),Sz 1000 q:=fun q hq=>(by obtain⟨x,h9,rfl⟩:=List.mem_map.1 hq;exact hz x h9)
 have hzn:∀q∈(cT (xs.map Fr4.q)),Sz 1000 q:=fun q hq=>(by obtain⟨p,h9,rfl⟩:=List.mem_map.1 hq;exact mM (hzl p h9))
 have hsz:Sz 20000 (aC (xs.map Fr4.q)):=(rB hzl).mono (by have:=Nat.mul_le_mul hll (Nat.le_refl 1001);omega)
 refine sq ?_;refine rl ?_;refine bx 0 ?_;refine o1 ?_;refine nl ?_;refine sq ?_;refine rl ?_;refine o1 ?_;refine ld ?_
 refine ca (Wb (B:=1000) (by omega) hx hz (by omega)) wG ⟨a1 rfl,rfl⟩ (qF (.of (aC (xs.map Fr4.q)))) ?_
 refine al 1 ?_;refine st ?_;refine nl ?_;refine sq ?_;refine bl ?_;refine sq ?_;refine rl ?_;refine ld ?_;refine bs 2 ?_
 refine WL.sub (DG (i:=12) (k:=2) (t:=48) (z:=4) (n:=1) (l:=[Fr4.of (aC (xs.map Fr4.q))].flatMap (Fr4.tr false)) 50 rfl rfl rfl rfl (.one .sl)) ?_
 refine ca (xP (p:=(aC (xs.map Fr4.q))) (hsz.mono (by omega))) DH ⟨a1 rfl,rfl⟩ (.one (tv (.bool (decide ((aC (xs.map Fr4.q)).den=1))))) ?_
 refine WL.splitb (t:=13) rfl (fun h1=>?_) (fun h1=>?_)
 ·refine o1 ?_;refine o1 ?_;refine nl ?_;refine gQ rfl ?_;refine sq ?_;have hden:(aC (xs.map Fr4.q)).den=1:=of_decide_eq_true h1
  refine rl ?_;refine ld ?_;refine ca (xJ (Qn.of (p:=(aC (xs.map Fr4.q))) hsz)) Ln ⟨aB rfl,rfl⟩ (.one (tv (.int .i64 (aC (xs.map Fr4.q)).num.sign))) ?_;refine o1 ?_;refine o1 ?_
  refine nl ?_;refine bU rfl (fun h2=>?_) (fun h2=>?_)
  ·refine sq ?_;have hS0:(aC (xs.map Fr4.q))<0:=kA.1 h2
   refine rl ?_;refine ld ?_
   refine ca (Sn hx (by omega)) KI ⟨mG rfl (.cons .t .nil),rfl⟩ (.agg [.t (.s false 48 4 (xs.map fun x=>-x.q).length ((xs.map fun x=>-x.q).flatMap dD))]) ?_
   refine WL.sub (JQ (i:=20) (t':=50) rfl rfl) ?_;have e20:(xs.map fun x=>-x.q)=(cT (xs.map Fr4.q)):=by unfold cT;rw[List.map_map];rfl
   rw[e20];refine al 3 ?_;refine st ?_;refine nl ?_;refine sq ?_;refine sq ?_;refine rl ?_;refine ld ?_
   refine ca (Ss (l:=(cT (xs.map Fr4.q))) (n:=(cT (xs.map Fr4.q)).length) rfl hzn (by rw[rE,List.length_map];omega)) St ⟨mG rfl (.cons .t .nil),rfl⟩ (.one (tv (.bool ((cT (xs.map Fr4.q)).any fun x=>decide (x<0))))) ?_
   refine nl ?_;refine vM rfl (fun h3=>?_) (fun h3=>?_)
   ·refine sq ?_;refine rl ?_;refine o1 ?_;refine nl ?_;refine rt ?_;have hres:cK (xs.map Fr4.q)=[]:=Dm hden hS0 h3
    refine vL (nr (i:=2) 4 24 2 rfl rfl rfl rfl) ?_;exact gR <| en (.inl rfl) rfl (aP (.one (.sl (trs:=[]) rfl rfl rfl rfl))) (by decide) (fun h=>by cases h) (by rw[hres];rfl)
   refine sk ?_;refine sq ?_;have h22:=h3
   refine rl ?_;refine ld ?_
   refine fJ 4 (Su (l:=(cT (xs.map Fr4.q))) (n:=(cT (xs.map Fr4.q)).length) rfl hzn (by rw[rE,List.length_map];omega) (Dn hS0)) Sv ⟨mG rfl (.cons .t .nil),rfl⟩ ?_
   refine o1 ?_;refine nl ?_;refine sq ?_;refine sq ?_;refine rl ?_;(iterate 3 refine o1 ?_);refine nl ?_;refine bl ?_
   refine lp (γ:=Nat) (fun t=>cG [(5,.one (.sl 0 0 ((aT (cK (cT (xs.map Fr4.q)))).length))),(26,.one (tv (.int .i64 (((aT (cK (cT (xs.map Fr4.q)))).length:Nat):Int)))),(27,.one (tv (.int .i64 ((t:Nat):Int))))]) (fun t=>[(⟨24,2,fK (aT (gP (fun x=>-x) (cK (cT (xs.map Fr4.q))) (t)))⟩:Ob)].map some) (fun t=>t≤(aT (cK (cT (xs.map Fr4.q)))).length) (fun t=>(aT (cK (cT (xs.map Fr4.q)))).length-t) 0 (Nat.zero_le _) (aJ h0 [4] _ _ (by decide) ⟨rfl,rfl,rfl,trivial⟩ ⟨bJ rfl,rfl⟩) fun t ht=>?_
   refine sq ?_;refine rl ?_;refine o1 ?_;refine nl ?_;refine sq ?_;refine bU rfl (fun h4=>?_) (fun h4=>?_)
   ·refine sk ?_;refine sq ?_;refine bl ?_;refine sq ?_;refine rl ?_;refine o1 ?_;refine o1 ?_;refine nl ?_
    have hw12:(cK (cT (xs.map Fr4.q))).length≤12:=Nat.le_trans Sx (by rw[rE];exact hll)
    have hw7:(aT (cK (cT (xs.map Fr4.q)))).length=(cK (cT (xs.map Fr4.q))).length:=cU _
    have hw8:t<(cK (cT (xs.map Fr4.q))).length:=by omega
    have hw9:t<(aT (gP (fun x=>-x) (cK (cT (xs.map Fr4.q))) (t))).length:=by rw[cU,lP];exact hw8
    have hz9k:gS (aT (gP (fun x=>-x) (cK (cT (xs.map Fr4.q))) (t))) t=.of (bY (cK (cT (xs.map Fr4.q))) t):=(pX (by rw[lP];exact hw8)).trans (by rw[Ig hw8])
    have hK0:=Nat.le_trans (Ih hzn _ (lQ hw8)) (show 1000+2≤300000000000 by omega)
    refine WP.sub (JO (j:=0) (key:=1) (e:=24) (ws:=(aT (gP (fun x=>-x) (cK (cT (xs.map Fr4.q))) (t)))) (i:=t) (z:=.of (bY (cK (cT (xs.map Fr4.q))) t)) rfl rfl hw9 hz9k) ?_
    refine rl ?_;(iterate 5 refine o1 ?_)
    refine CX (us:=[tv (.bool (aF (bY (cK (cT (xs.map Fr4.q))) t))),.sl 1 0 (dg 4294967296 ((bY (cK (cT (xs.map Fr4.q))) t)).natAbs).length]) (Ol (z:=.of (bY (cK (cT (xs.map Fr4.q))) t)) hw9 hz9k) ?_
    refine fJ 2 (Lo (Zg.of (k:=(bY (cK (cT (xs.map Fr4.q))) t)) hK0)) Sy ⟨mG rfl (.cons .t (.cons (.sl rfl rfl (Ho _) (aQ _)) .nil)),rfl⟩ ?_;refine o1 ?_
    refine sX (zD hw9) (Om hw9) ?_;refine nl ?_
    refine WP.sub (JP (j:=0) (k1:=2) (e:=24) (ws:=(aT (gP (fun x=>-x) (cK (cT (xs.map Fr4.q))) (t)))) (i:=t) (z:=.of (-((bY (cK (cT (xs.map Fr4.q))) t)))) rfl hw9 rfl rfl) ?_
    refine rl ?_;refine o1 ?_;refine WL.cast (t:=38) (u':=.int .i64 ((t+1:Nat):Int)) rfl (aL (by omega)) ?_
    refine o1 ?_;refine nl ?_
    have hst:(aT (gP (fun x=>-x) (cK (cT (xs.map Fr4.q))) (t))).set t (.of (-((bY (cK (cT (xs.map Fr4.q))) t))))=aT (gP (fun x=>-x) (cK (cT (xs.map Fr4.q))) (t+1)):=by rw[uM,←Wi hw8]
    exact⟨t+1,by omega,by omega,aJ h0 [0] _ _ (by decide) ⟨rfl,rfl,rfl,trivial⟩ ⟨bJ (congrArg (fun l=>some (⟨24,2,fK l⟩:Ob)) hst),rfl⟩⟩
   refine ex ?_;refine sq ?_;refine rl ?_;refine o1 ?_;refine o1 ?_;refine nl ?_;refine rt ?_
   have hres:(gP (fun x=>-x) (cK (cT (xs.map Fr4.q))) (t))=cK (xs.map Fr4.q):=by rw[Ii (by rw[←cU];omega),Wj hden hS0 h22]
   have hl5:(aT (cK (cT (xs.map Fr4.q)))).length=(aT (cK (xs.map Fr4.q))).length:=by rw[←hres,cU,cU,lP]
   exact gR <| en (.inl rfl) rfl (aP (.one (.sl (trs:=(aT (cK (xs.map Fr4.q))).flatMap (bS true)) rfl rfl (by rw[hres,hl5];exact nS _) (by rw[bV (dJ true),hl5])))) (by decide) (fun h=>by cases h) (by unfold xO;rw[hl5];rfl)
  refine sq ?_;have hS0:¬(aC (xs.map Fr4.q))<0:=fun h=>h2 (kA.2 h)
  refine rl ?_;refine ld ?_;refine ca (zA hx (by omega)) St ⟨mG rfl (.cons .t .nil),rfl⟩ (.one (tv (.bool (xs.any fun x=>decide (x.q<0))))) ?_
  refine o1 ?_;refine nl ?_;refine vM rfl (fun h5=>?_) (fun h5=>?_)
  ·refine sq ?_;refine rl ?_;refine o1 ?_;refine nl ?_;refine rt ?_;have hres:cK (xs.map Fr4.q)=[]:=wH hden hS0 (by rw[List.any_map];exact h5)
   refine vL (nr (i:=2) 3 24 2 rfl rfl rfl rfl) ?_;exact gR <| en (.inl rfl) rfl (aP (.one (.sl (trs:=[]) rfl rfl rfl rfl))) (by decide) (fun h=>by cases h) (by rw[hres];rfl)
  refine sk ?_;refine sq ?_;have h40:=h5
  refine rd [0,1] (fun i=>[4].contains i) mixed ?_
  refine aX 0 ?_;refine aX 1 ?_;refine aI 2 rfl (yX (Qn.of (p:=(aC (xs.map Fr4.q))) hsz)) Sq ⟨aB rfl,rfl⟩ (kF (fl (aC (xs.map Fr4.q)))) ?_
  refine iM 3 3 rfl (Az (tot:=fl (aC (xs.map Fr4.q))) hx hz hzl hl hll hden (Dl hden)) DI ⟨mG rfl (.cons .t .nil),aB rfl,rfl⟩ ?_
  refine dF 4 (by kernel_rfl) rfl rfl aA rfl (by trivial) ?_ (fun h=>by first | rfl | cases h)
  refine aO ?_;refine rt ?_;have hres:cK (xs.map Fr4.q)=eV (xs.map Fr4.q):=uN hden hS0 (by rw[List.any_map];exact h40)
  exact gR <| en (.inl rfl) rfl (aP (.one (.sl (trs:=(aT (eV (xs.map Fr4.q))).flatMap (bS true)) rfl rfl (nS _) (bV (dJ true) _)))) (by decide) (fun h=>by cases h) (by rw[hres];rfl)
 refine o1 ?_;refine o1 ?_;refine nl ?_;refine mF rfl ?_;refine sq ?_;have hfr:(aC (xs.map Fr4.q)).den≠1:=of_decide_eq_false h1
 refine rl ?_;refine o1 ?_;refine nl ?_;refine rt ?_;have hres:cK (xs.map Fr4.q)=[]:=wI hfr
 refine vL (nr (i:=2) 3 24 2 rfl rfl rfl rfl) ?_;exact gR <| en (.inl rfl) rfl (aP (.one (.sl (trs:=[]) rfl rfl rfl rfl))) (by decide) (fun h=>by cases h) (by rw[hres];rfl)
theorem Ta {l:List Rat}{n:Nat}(hn:l.length=n) (hz:∀q∈l,Sz 1000 q) (hl:l.length≤12):aD false Tryz.prog 17 [] [.agg [.t (.s false 50 4 n (l.flatMap dD))]] (aM (.one (.t (xO 24 (aT (cK l)))))):=by
 have h:=If (xs:=dZ l) (sV hz (by omega)) (xL hz) (by rw[gT];exact hl)
 rwa[xM,xK hn]at h
theorem DJ {b:Int}{n:Nat}(h:xN b n≠0):b<0∨(n:Int)≤b:=by
 unfold xN at h
 split at h
 ·assumption
 exact absurd rfl h
theorem Yz:cK []=[]:=by
 have h:(aC []).den=1:=rfl
 rw[uN h (by rw[Do];decide) rfl]
 rfl
theorem Za {T:Rat}{b:Int}{xs:List Fr4}(hl:xs.length≤12):(iD T b (xs.map Fr4.q)).length≤12:=by
 unfold iD
 split
 ·simp
 split <;> simp <;> omega
theorem DK {k b:Int}{xs:List Fr4}(hk:jO 6 k) (hz:∀x∈xs,Sz 7 x.q) (hl:xs.length≤12):∀q∈iD (k:Rat) b (xs.map Fr4.q),Sz 1000 q:=fun q hq=>by
 have hT:Sz 7 (k:Rat):=Ic (Nat.le_trans hk (by omega)) (by omega)
 have hab:∀q∈(xs.map Fr4.q).map bZ,Sz 7 q:=fun q hq=>by
  rw[Ia]at hq
  obtain⟨x,hx9,rfl⟩:=List.mem_map.1 hq
  exact Ib (hz x hx9) (by omega)
 have hS:Sz 98 (aC ((xs.map Fr4.q).map bZ)):=(rB hab).mono (by
  have h9:((xs.map Fr4.q).map bZ).length=xs.length:=by simp
  rw[h9]
  omega)
 unfold iD at hq
 split at hq
 ·cases hq
 split at hq
 ·rcases List.mem_or_eq_of_mem_set hq with h | rfl
  ·rw[List.eq_of_mem_replicate h]
   exact(kU (z:=0) (by omega) (by omega)).mono (by omega)
  exact hT.mono (by omega)
 obtain⟨w,hw,rfl⟩:=List.mem_map.1 hq
 exact(DL (Og hT (hab _ (List.mem_map.2 ⟨w,hw,rfl⟩))) hS).mono (by omega)
theorem Lp {a:Zi}{k b:Int}{xs:List Fr4}(ha:Zn a k) (hk:jO 6 k) (hx:∀x∈xs,x.ok) (hz:∀x∈xs,Sz 7 x.q) (hl:xs.length≤12):aD false Tryz.prog 13 [] [gF a,.one (tv (.int .i64 b)),.one (.t (sQ false xs))] (aM (.tup [.one (.t (xO 24 (aT (cK (iD (k:Rat) b (xs.map Fr4.q)))))),.one (tv (.int .i64 (xN b xs.length)))])):=by
 refine Cw Tryz.func13 rfl Tryz.ntmps13 rfl aA rfl fun N9 w9 c0 h0=>?_
 refine sq ?_;refine rl ?_;refine bx 0 ?_;refine o1 ?_;refine o1 ?_;refine nl ?_;refine sq ?_;refine rl ?_;refine ld ?_;refine o1 ?_;refine o1 ?_
 refine ca (KA ha hk hx hz hl) KJ ⟨aB rfl,a1 rfl,a1 rfl,rfl⟩ (.tup [.agg [.t (.s false 48 4 (iD (k:Rat) b (xs.map Fr4.q)).length ((iD (k:Rat) b (xs.map Fr4.q)).flatMap dD))],.one (tv (.int .i64 (xN b xs.length)))]) ?_
 refine o1 ?_;refine o1 ?_;refine WL.sub (JQ (i:=15) (t':=50) rfl rfl) ?_;refine o1 ?_;refine al 1 ?_;refine st ?_;refine o1 ?_;refine nl ?_;refine sq ?_;refine sq ?_;refine rl ?_
 refine o1 ?_;refine o1 ?_;refine nl ?_;refine bU rfl (fun h1=>?_) (fun h1=>?_)
 ·refine sq ?_;refine rl ?_;(iterate 3 refine o1 ?_);refine nl ?_;refine rt ?_;have hb9:=DJ h1
  have hX:(iD (k:Rat) b (xs.map Fr4.q))=[]:=zB (by rw[List.length_map];exact hb9)
  refine vL (nr (i:=6) 2 24 2 rfl rfl rfl rfl) ?_
  exact gR <| en (.inl rfl) rfl (jL (.cons (.one (.sl (trs:=[]) rfl rfl rfl rfl)) (.cons (cD _) .nil))) (by decide) (fun h=>by cases h) (by rw[hX,Yz];rfl)
 refine sk ?_;refine sq ?_;refine rl ?_;refine ld ?_
 refine fJ 2 (Ta (l:=(iD (k:Rat) b (xs.map Fr4.q))) (n:=(iD (k:Rat) b (xs.map Fr4.q)).length) rfl (DK hk hz hl) (Za hl)) Sv ⟨mG rfl (.cons .t .nil),rfl⟩ ?_
 refine o1 ?_;refine o1 ?_;refine nl ?_;refine rt ?_;have hE0:(xN b xs.length)=0:=Decidable.byContradiction h1
 exact gR <| en (.inl rfl) rfl (jL (.cons (.one (.sl (trs:=(aT (cK (iD (k:Rat) b (xs.map Fr4.q)))).flatMap (bS true)) rfl rfl (nS _) (bV (dJ true) _))) (.cons (cD _) .nil))) (by decide) (fun h=>by cases h) (by rw[hE0];rfl)
theorem HK {zs:List Zi}{L:Nat}(hz:∀a∈zs,ZL L a) (hL:L≤1000000) (hl:zs.length≤1000000):aD true Tryz.prog 20 [] [.one (.t (sZ 24 zs))] (aM (kO (cQ zs))):=by
 refine bK Tryz.func20 rfl Tryz.ntmps20 rfl aA rfl fun N9 w9 c0 h0=>?_
 refine sq ?_;refine rl ?_;refine al 0 ?_;refine nl ?_;refine sq ?_;refine rl ?_;refine o1 ?_;refine fJ 1 (Od hz hL hl) DD ⟨a1 rfl,rfl⟩ ?_;refine st ?_;refine nl ?_;refine rt ?_
 exact en (.inl rfl) rfl (aP (.agg (.cons (.id rfl) (.cons (.sl (trs:=aK (dg 4294967296 ((cQ zs)).natAbs)) rfl rfl (aV _) (aQ _)) .nil)))) (by decide) (fun _=>sR _) rfl
end Go.Proofs.YthmgbcdidlkpoaaGreat
namespace Go.Proofs.YthmgbcdidlkpoaaGreat
open Go Go.RowKit Go.ChangeShapes
def Reads (P:Program) (t:TypeId) (z:Nat) (T:List Tr→Prop):Prop:=
 P.cellsOf t=z∧∀(H:Type) (enc:TypeId×Value→H) (w:World) (fuel:Nat) (cs:List Value) (x:DataW H×List MemPlace),DataW.trod enc P w 0 (fun _=>true) true fuel t cs=some x→∃l,T l∧l.length=z∧FRL w (Am w) l cs
theorem Ij {W:World}{N:Nat→Prop}:∀{l l':List Tr}{us us':List Value},FRL W N l us→FRL W N l' us'→FRL W N (l++l') (us++us')
 | [],l',us,us',h,h'=>by simp only[FRL]at h;subst h;exact h'
 | x::l,l',u::us,us',h,h'=>by simp only[FRL,List.cons_append]at*;exact⟨h.1,Ij h.2 h'⟩
 | _::_,_,[],_,h,_=>by simp only[FRL]at h
theorem Ik {W:World}{N:Nat→Prop}:∀{l:List Tr}{us:List Value}{j:Nat}{x:Tr},FRL W N l us→l[j]? =some x→∃u,us[j]? =some u∧FR W N x u
 | [],_,_,_,_,h=>by simp at h
 | y::l,u::us,0,x,h,e=>by
  simp only[FRL]at h
  simp at e
  subst e
  exact⟨u,rfl,h.1⟩
 | y::l,u::us,j+1,x,h,e=>by
  simp only[FRL]at h
  exact Ik (j:=j) h.2 (by simpa using e)
 | _::_,[],_,_,h,_=>by simp only[FRL]at h
section
variable {P:Program}{t e:TypeId}{k:IntKind}{z:Nat}{T T':List Tr→Prop}
theorem Reads.mono (h:Reads P t z T) (hi:∀l,T l→T' l):Reads P t z T':=⟨h.1,fun H enc w fuel cs x hx=>let ⟨l,a,b⟩:=h.2 H enc w fuel cs x hx;⟨l,hi l a,b⟩⟩
theorem Zb (ht:P.underlying t=some .bool) (hz:P.cellsOf t=1):Reads P t 1 (fun l=>∃b,l=[.v (.bool b)]):=⟨hz,fun H enc w fuel cs x hx=>by
 obtain⟨b,rfl,_⟩:=DataW.trod_bool ht hx
 exact⟨_,⟨b,rfl⟩,rfl,by simp[FRL,FR]⟩⟩
theorem DM (ht:P.underlying t=some (.int k)) (hz:P.cellsOf t=1):Reads P t 1 (fun l=>∃n,l=[.v (.int k n)]∧k.min≤n∧n≤k.max):=⟨hz,fun H enc w fuel cs x hx=>by
 obtain⟨n,rfl,_,h⟩:=DataW.trod_int ht hx
 simp only[Lit.wf,Bool.and_eq_true,decide_eq_true_eq]at h
 exact⟨_,⟨n,rfl,h⟩,rfl,by simp[FRL,FR]⟩⟩
inductive Flds (P:Program):Nat→List Field→Nat→(List Tr→Prop)→Prop
 | nil {o:Nat}:Flds P o [] 0 (· =[])
 | cons {o z z':Nat}{f:Field}{fs:List Field}{T T':List Tr→Prop}(ho:f.offset=o) (h:Reads P f.type z T) (h':Flds P (o+z) fs z' T'):Flds P o (f::fs) (z+z') (fun l=>∃a b,l=a++b∧T a∧T' b)
theorem Flds.read {H:Type}{enc:TypeId×Value→H}{w:World}{n o:Nat}{fs:List Field}(h:Flds P o fs z T):∀{cs:List Value},o+z≤cs.length→(∀f∈fs,∃x,DataW.trod enc P w 0 (fun _=>true) true n f.type ((cs.drop f.offset).take (P.cellsOf f.type))=some x)→∃l,T l∧l.length=z∧FRL w (Am w) l ((cs.drop o).take z):=by
 induction h with
 | nil=>exact fun _ _=>⟨[],rfl,rfl,by simp[FRL]⟩
 | @cons o z z' f fs T T' ho hr _ ih=>
  intro cs hl hf
  obtain⟨b,h1,h2,h3⟩:=ih (cs:=cs) (by omega) fun f hm=>hf f (List.mem_cons_of_mem _ hm)
  obtain⟨x,hx⟩:=hf f List.mem_cons_self
  obtain⟨a,g1,g2,g3⟩:=hr.2 H enc w n _ x hx
  rw[ho,hr.1]at g3
  refine⟨a++b,⟨a,b,rfl,g1,h1⟩,by simp[g2,h2],?_⟩
  rw[List.take_add,List.drop_drop]
  exact Ij g3 h3
theorem Bb {fs:List Field}{z':Nat}(ht:P.underlying t=some (.struct fs.toArray)) (hz:P.cellsOf t=z) (h:Flds P 0 fs z' T) (e:z'=z:=by rfl):Reads P t z T:=⟨hz,fun H enc w fuel cs x hx=>by
 subst e
 obtain⟨xs,n,_,rfl,hl,hlen,hf⟩:=DataW.trod_struct ht hx
 rw[hz]at hl
 obtain⟨l,h1,h2,h3⟩:=h.read (H:=H) (enc:=enc) (w:=w) (n:=n) (cs:=cs) (by omega) fun f hm=>by
  obtain⟨i,hi⟩:=List.mem_iff_getElem?.1 hm
  have h1:=hf i f (by simpa using hi)
  have h2:i<xs.length:=by
   have:=(List.getElem?_eq_some_iff.1 hi).1
   simp at hlen
   omega
  rw[List.getElem?_eq_getElem h2]at h1
  exact⟨_,h1⟩
 refine⟨l,h1,h2,?_⟩
 rw[List.drop_zero,List.take_of_length_le (by omega)]at h3
 exact h3⟩
theorem Dp (ht:P.underlying t=some (.slice e)) (hz:P.cellsOf t=1) (hz0:0<z) (h:Reads P e z T):Reads P t 1 (fun l=>∃rows:List (List Tr),(∀r∈rows,T r∧r.length=z)∧l=[.s false e z rows.length rows.flatten]):=⟨hz,fun H enc w fuel cs x hx=>by
 have hlen:∀(rows:List (List Tr)),(∀r∈rows,T r∧r.length=z)→rows.flatten.length=rows.length*z:=by
  intro rows
  induction rows with
  | nil=>intro _;simp
  | cons r rows ih=>
   intro hr
   rw[List.flatten_cons,List.length_append,(hr r List.mem_cons_self).2,ih fun r hm=>hr r (List.mem_cons_of_mem _ hm),List.length_cons,Nat.succ_mul,Nat.add_comm]
 rcases Deep.open_slice ht hx with⟨rfl,_⟩ | ⟨a,len,cap,m,n,D,Pl,rfl,_,hl,hm,hmm,_,hel⟩
 ·refine⟨_,⟨[],fun _ h=>(by cases h),rfl⟩,rfl,?_⟩
  simp only[FRL,FR,and_true]
  exact⟨none,0,rfl,Nat.le_refl _,by omega,by simp,.inl rfl⟩
 have hmc:m=cap:=by simpa using hmm
 rw[h.1]at hel
 have hex:∀i:Nat,∃l:List Tr,i<len→T l∧l.length=z∧∀j y,l[j]? =some y→∃u,w.cell? ((a.add (i*z)).add j)=some u∧FR w (Am w) y u:=fun i=>by
  by_cases hi:i<len
  ·obtain⟨cs',h1,h2⟩:=hel i (by omega)
   obtain⟨l,g1,g2,g3⟩:=h.2 H enc w n cs' _ h2
   obtain⟨_,h3,h4⟩:=World.cells?_some h1
   refine⟨l,fun _=>⟨g1,g2,fun j y hj=>?_⟩⟩
   obtain⟨u,hu,hy⟩:=Ik g3 hj
   have hjl:=(List.getElem?_eq_some_iff.1 hj).1
   exact⟨u,by rw[h4 j (by omega),hu],hy⟩
  exact⟨[],fun h=>absurd h hi⟩
 have hF:=fun i=>Classical.choose_spec (hex i)
 have hrow:∀r∈(List.range len).map (fun i=>Classical.choose (hex i)),T r∧r.length=z:=fun r hr=>by
  obtain⟨i,hi,rfl⟩:=List.mem_map.1 hr
  have:=hF i (List.mem_range.1 hi)
  exact⟨this.1,this.2.1⟩
 refine⟨_,⟨_,hrow,rfl⟩,rfl,?_⟩
 have h5:=hlen _ hrow
 simp only[FRL,and_true,FR]
 refine⟨some a,cap,by simp,by simpa using hl,by unfold maxLen at hm;omega,h5,?_⟩
 rcases Nat.eq_zero_or_pos len with h0 | h0
 ·exact .inl (by simp[h0])
 refine .inr ⟨a,rfl,?_,tA fun j y hj=>?_⟩
 ·obtain⟨_,g2,g3⟩:=hF 0 h0
  obtain⟨u,hu,_⟩:=g3 0 _ (List.getElem?_eq_getElem (by omega))
  have:=World.block_lt_of_cell? w ((a.add (0*z)).add 0) hu
  rwa[gW,gW]at this
 have hjl:=(List.getElem?_eq_some_iff.1 hj).1
 rw[h5,List.length_map,List.length_range]at hjl
 have hi:j/z<len:=Nat.div_lt_of_lt_mul (by rw[Nat.mul_comm];exact hjl)
 obtain⟨_,g2,g3⟩:=hF (j/z) hi
 have hz1:=Nat.mod_lt j hz0
 have hget:∀(rows:List (List Tr)),(∀r∈rows,T r∧r.length=z)→∀(i o:Nat) (r:List Tr),rows[i]? =some r→o<z→rows.flatten[i*z+o]? =r[o]? :=by
  intro rows
  induction rows with
  | nil=>intro _ i o r h;simp at h
  | cons r rows ih=>
   intro hr i o r' hi ho
   have hrl:=(hr r List.mem_cons_self).2
   cases i with
   | zero=>
    simp at hi
    subst hi
    rw[Nat.zero_mul,Nat.zero_add,List.flatten_cons,List.getElem?_append_left (by omega)]
   | succ i=>
    rw[List.flatten_cons,List.getElem?_append_right (by rw[Nat.succ_mul];omega),hrl,show(i+1)*z+o-z=i*z+o by rw[Nat.succ_mul];omega]
    exact ih (fun r hm=>hr r (List.mem_cons_of_mem _ hm)) i o r' (by simpa using hi) ho
 have hd:=Nat.div_add_mod j z
 rw[Nat.mul_comm]at hd
 rw[←hd,hget _ hrow (j/z) (j%z) (Classical.choose (hex (j/z))) (by simp[hi]) hz1]at hj
 obtain⟨u,hu,hy⟩:=g3 _ _ hj
 refine⟨u,?_,hy⟩
 rw[Nat.zero_add]
 have e2:(a.add (j/z*z)).add (j%z)=a.add j:=by rw[uG,hd]
 rwa[e2]at hu⟩
theorem zE {α:Type}(f:α→List Tr) (Q:α→Prop):∀{rows:List (List Tr)},(∀r∈rows,∃a,Q a∧r=f a)→∃xs:List α,(∀a∈xs,Q a)∧rows.flatten=xs.flatMap f∧rows.length=xs.length
 | [],_=>⟨[],fun _ h=>(by cases h),rfl,rfl⟩
 | r::rows,h=>by
  obtain⟨a,h1,rfl⟩:=h r List.mem_cons_self
  obtain⟨xs,h2,h3,h4⟩:=zE f Q fun r hm=>h r (List.mem_cons_of_mem _ hm)
  exact⟨a::xs,fun b hb=>(List.mem_cons.1 hb).elim (fun e=>e▸h1) (h2 b),by simp[h3],by simp[h4]⟩
theorem Tb (ht:P.underlying t=some (.slice e)) (he:P.underlying e=some (.int .u32)) (hz:P.cellsOf t=1) (hze:P.cellsOf e=1) (hn:e=51):Reads P t 1 (fun l=>∃xs:List Nat,Lim 4294967296 xs∧l=[sU false xs]):=
 (Dp ht hz (by omega) (DM he hze)).mono fun l ⟨rows,h1,h2⟩=>by
  obtain⟨xs,h3,h4,h5⟩:=zE (fun n:Nat=>[Tr.v (.int .u32 (n:Int))]) (fun n=>n<4294967296) (rows:=rows) fun r hr=>by
   obtain⟨⟨n,rfl,h1,h2⟩,_⟩:=h1 r hr
   have e1:IntKind.u32.min=0:=rfl
   have e2:IntKind.u32.max=4294967295:=rfl
   rw[e1]at h1
   rw[e2]at h2
   exact⟨n.toNat,by omega,by rw[Int.toNat_of_nonneg h1]⟩
  refine⟨xs,h3,?_⟩
  rw[h2,h4,h5,sU,hn]
  have:∀xs:List Nat,xs.flatMap (fun n:Nat=>[Tr.v (.int .u32 (n:Int))])=aK xs:=by
   intro xs
   induction xs with
   | nil=>rfl
   | cons n xs ih=>rw[List.flatMap_cons,ih];rfl
  rw[this]
theorem Zc (hb:Reads P t z (fun l=>∃a b,l=a++b∧(∃s,a=[.v (.bool s)])∧∃b' c',b=b'++c'∧(∃xs:List Nat,Lim 4294967296 xs∧b'=[sU false xs])∧c'=[])):Reads P t z (fun l=>∃(s:Bool) (xs:List Nat),Lim 4294967296 xs∧l=[.v (.bool s),sU false xs]):=
 hb.mono fun l ⟨a,b,h1,⟨s,h2⟩,b',c',h3,⟨xs,h4,h5⟩,h6⟩=>⟨s,xs,h4,by rw[h1,h2,h3,h5,h6];rfl⟩
end
def LimF (a:Fr4):Prop:=Lim 4294967296 a.x∧Lim 4294967296 a.y
theorem LimF.ok {a:Fr4}(h:LimF a) (h2:a.x.length≤6∧a.y.length≤6):a.ok:=⟨h.1,h.2,by omega,by omega⟩
end Go.Proofs.YthmgbcdidlkpoaaGreat
namespace Go.Proofs.YthmgbcdidlkpoaaGreat
open Go Go.RowKit
section
variable {x:Cx}{g:Nat→FV}{ob:List (Option Ob)}{Q:Post}
theorem WP.sln {c:Code}{i t z n:Nat}{o:Bool}{l:List Tr}(hlk:lk x.n g (.tmp i)=.one (.t (.s o t z n l))) (k:n≤9223372036854775807→WP x c g ob Q):WP x c g ob Q:=fun ts W hR=>by
 obtain⟨cs,hR'⟩:=hR
 have h1:=hR'.lk (.tmp i)
 rw[hlk]at h1
 simp only[bE,bM,AR,FR]at h1
 obtain⟨A,c9,_,h2,h3,_⟩:=h1
 exact k (by omega) ts W ⟨cs,hR'⟩
theorem Il {i t t' z n:Nat}{o:Bool}{l l':List Tr}(hi:Nat.blt i x.n=true) (h:g i=.one (.t (.s o t z n l))) (hr:rdTL l=l'):Sub x g ob (aW g i (.one (.t (.s false t' z n l')))) ob:=xQ hi fun W N cs u hu=>by
 subst hr
 rw[h]at hu
 simp only[bE,bM,AR]at hu⊢
 have h2:=Dq _ _ hu
 simp only[tB,FR]at h2⊢
 exact h2
end
def gU (x:Fr4):Bool:=decide (x.x.length≤6)&&decide (x.y.length≤6)
def tC (a:Zi) (xs:List Fr4):Bool:=xs.all gU&&(decide (a.x.length≤6)&&decide (xs.length≤12))
section
variable {a:Zi}{xs:List Fr4}{k:Nat}
theorem Im (h:k<xs.length) (h2:gU (bD xs k)=false):false=tC a xs:=by
 have:xs.all gU=false:=List.all_eq_false.2 ⟨_,cL h,by rw[h2];simp⟩
 unfold tC
 rw[this]
 rfl
theorem Tc {p:Fr4→Bool}(h:∀j,j<k→p (bD xs j)=true) (hk:xs.length≤k):xs.all p=true:=List.all_eq_true.2 fun x hx=>by
 obtain⟨j,hj⟩:=List.mem_iff_getElem?.1 hx
 have hl:=(List.getElem?_eq_some_iff.1 hj).1
 rw[fE hl]at hj
 rw[←Option.some.inj hj]
 exact h j (by omega)
theorem Dr (h:∀j,j<k→gU (bD xs j)=true) (hk:xs.length≤k):(decide (a.x.length≤6)&&decide (xs.length≤12))=tC a xs:=by
 unfold tC
 rw[Tc h hk]
 rfl
theorem Td (h:tC a xs=true):(∀x∈xs,x.x.length≤6∧x.y.length≤6)∧a.x.length≤6∧xs.length≤12:=by
 unfold tC at h
 simp only[Bool.and_eq_true,decide_eq_true_eq,List.all_eq_true]at h
 refine⟨fun x hx=>?_,h.2⟩
 have h1:=h.1 x hx
 simp only[gU,Bool.and_eq_true,decide_eq_true_eq]at h1
 exact h1
theorem Te {x:Fr4}(h:LimF x) (h2:x.x.length≤6∧x.y.length≤6):x.ok∧Sz 7 x.q∧x.len 1099511627776:=⟨h.ok h2,(Oq (L:=6) (na:=x.s) (nb:=x.t) h.1 h.2 h2.1 h2.2 (by omega)).mono (by omega),⟨by omega,by omega⟩⟩
end
theorem Cc {l:List Int}{k:Nat}(h:k<l.length):(((aT l).flatMap (bS false)).drop (k*2)).take (bS false (.of (bY l k))).length=bS false (.of (bY l k)):=by
 have h1:=uO (f:=bS false) (z:=2) (dJ false) (jZ (zs:=aT l) (k:=k) (by rw[cU];exact h))
 rw[pX h]at h1
 exact h1
def iT (l:List Int):List Tr:=l.map fun z=>.v (.int .i64 z)
theorem HM {l:List Int}{k:Nat}(h:k<l.length):((iT l).drop (k*1)).take [Tr.v (.int .i64 (bY l k))].length=[Tr.v (.int .i64 (bY l k))]:=by
 have h1:=lR h
 rw[List.getElem?_eq_getElem h]at h1
 have h2:(iT l).drop (k*1)=.v (.int .i64 (bY l k))::(iT l).drop (k+1):=by
  rw[Nat.mul_one,List.drop_eq_getElem_cons (by simpa[iT]using h)]
  congr 1
  simp only[iT,List.getElem_map]
  rw[Option.some.inj h1]
 rw[h2]
 rfl
section
variable {trs:List Tr}{l:List Rat}{i n:Nat}
end
section
variable {x:Cx}{g:Nat→FV}{ob:List (Option Ob)}{ws:List Zi}{z:Zi}{i j k1 e key:Nat}{y a b:AV}
end
theorem Zd {a b:Zi}{k k':Int}(ha:Zn a k) (hb:Zn b k'):aD true Tryz.prog 126 [] [gF a,gF b] (aM (.one (tv (.bool (decide (k=k')))))):=by
 refine bK Tryz.func126 rfl Tryz.ntmps126 rfl aA rfl fun N w c0 h0=>?_
 refine sq ?_;refine rl ?_;refine bx 0 ?_;refine bx 1 ?_;refine o1 ?_;refine nl ?_;refine sq ?_;refine rl ?_;refine ld ?_;refine ld ?_
 refine ca (Ds ha hb) Lq ⟨aB rfl,aB rfl,rfl⟩ (.one (tv (.int .i64 ((k)-(k')).sign))) ?_;refine o1 ?_;refine o1 ?_;refine nl ?_;refine rt ?_
 exact en (.inl rfl) rfl (aP (cD _)) (by decide) (fun _=>trivial) (congrArg (fun z=>FV.one (tv (.bool z))) (Tf _ _))
theorem Dt {a:Fr4}{p:Rat}(ha:Qn a p):aD true Tryz.prog 102 [] [qF a] (aM (.one (tv (.bool (cV a.s a.x a.t a.y))))):=by
 refine bK Tryz.func102 rfl Tryz.ntmps102 rfl aA rfl fun N w c0 h0=>?_
 have hzl:=(Du ha).len
 have hzd:=(rA ha).len
 refine sq ?_;refine rl ?_;refine bx 0 ?_;refine o1 ?_;refine nl ?_;refine sq ?_;refine rl ?_;refine o1 ?_;refine ld ?_
 refine ca (wJ (Du ha)) Lr ⟨aB rfl,rfl⟩ (.one (tv (.bool (cM a.s a.x)))) ?_;refine o1 ?_;refine WL.splitb (t:=6) rfl (fun h1=>?_) (fun h1=>?_)
 ·refine o1 ?_;refine ld ?_;refine ca (wJ (rA ha)) Lr ⟨aB rfl,rfl⟩ (.one (tv (.bool (cM a.t a.y)))) ?_;refine o1 ?_;refine o1 ?_
  refine WL.splitb (t:=11) rfl (fun h2=>?_) (fun h2=>?_)
  ·refine o1 ?_;refine ld ?_;refine ca (kL (rA ha)) tD ⟨aB rfl,rfl⟩ (.one (tv (.int .i64 ((cY a.t a.y)).sign))) ?_;(iterate 3 refine o1 ?_)
   refine WL.split (t:=17) rfl (fun h3=>?_) (fun h3=>?_)
   ·refine o1 ?_;refine ld ?_;refine o1 ?_;refine ld ?_;have s3:0<cY a.t a.y:=Int.sign_pos_iff.1 h3
    have hn4:=zG (k:=(cY a.s a.x)) (k':=(cY a.t a.y)) (by omega)
    refine ca (Dv (Du ha) (rA ha)) Tg ⟨aB rfl,aB rfl,rfl⟩ (kF (((Int.gcd (cY a.s a.x) (cY a.t a.y):Nat):Int))) ?_;have hn5:=nT (n:=(1:Int)) (by omega) (by omega)
    refine ca (mA (n:=(1:Int)) (by omega) (by omega)) pB ⟨a1 rfl,rfl⟩ (kF ((1:Int))) ?_
    refine ca (Zd (Zn.of (k:=((Int.gcd (cY a.s a.x) (cY a.t a.y):Nat):Int)) (by omega)) (Zn.of (k:=(1:Int)) (by omega))) HP ⟨aB rfl,aB rfl,rfl⟩ (.one (tv (.bool (decide ((((Int.gcd (cY a.s a.x) (cY a.t a.y):Nat):Int))=((1:Int))))))) ?_
    refine o1 ?_;refine o1 ?_;refine nl ?_;refine rt ?_
    exact en (.inl rfl) rfl (aP (cD _)) (by decide) (fun _=>trivial) (congrArg (fun z=>FV.one (tv (.bool z))) (by simp[cV,h1,h2,s3,In]))
   (iterate 7 refine eO ?_);refine o1 ?_;refine o1 ?_;refine nl ?_;refine rt ?_;have s3:¬(0<cY a.t a.y):=fun h=>h3 (Int.sign_pos_iff.2 h)
   exact en (.inl rfl) rfl (aP (cD _)) (by decide) (fun _=>trivial) (congrArg (fun z=>FV.one (tv (.bool z))) (by simp[cV,h1,h2,s3,In]))
  (iterate 4 refine eO ?_);refine o1 ?_;refine o1 ?_;(iterate 7 refine eO ?_);refine o1 ?_;refine o1 ?_;refine nl ?_;refine rt ?_
  exact en (.inl rfl) rfl (aP (cD _)) (by decide) (fun _=>trivial) (congrArg (fun z=>FV.one (tv (.bool z))) (by simp[cV,h1,h2]))
 (iterate 3 refine eO ?_);refine o1 ?_;refine o1 ?_;(iterate 4 refine eO ?_);refine o1 ?_;refine o1 ?_;(iterate 7 refine eO ?_);refine o1 ?_;refine o1 ?_;refine nl ?_;refine rt ?_
 exact en (.inl rfl) rfl (aP (cD _)) (by decide) (fun _=>trivial) (congrArg (fun z=>FV.one (tv (.bool z))) (by simp[cV,h1]))
theorem zH:aD false Tryz.prog 69 [] [] (aM (qF (.of 0))):=by
 refine bK Tryz.func69 rfl Tryz.ntmps69 rfl aA rfl fun N w c0 h0=>?_
 refine sq ?_;refine rl ?_;refine al 0 ?_;refine nl ?_;refine sq ?_;refine rl ?_;have hn1:=nT (n:=(0:Int)) (by omega) (by omega)
 refine ca (mA (n:=(0:Int)) (by omega) (by omega)) pB ⟨a1 rfl,rfl⟩ (kF ((0:Int))) ?_
 have hn2:=nT (n:=(1:Int)) (by omega) (by omega)
 refine ca (mA (n:=(1:Int)) (by omega) (by omega)) pB ⟨a1 rfl,rfl⟩ (kF ((1:Int))) ?_
 refine o1 ?_;refine st ?_;refine nl ?_;refine rt ?_
 exact en (.inl rfl) rfl (aP (.agg (.cons (.id rfl) (.cons (.id rfl) (.cons (.id rfl) (.cons (.id rfl) .nil)))))) (by decide) (fun h=>by cases h) (zI (q:=0) rfl rfl)
theorem nU {a:Fr4}{p:Rat}(ha:Qn a p):aD false Tryz.prog 57 [] [qF a] (aM (qF (.of p))):=by
 refine bK Tryz.func57 rfl Tryz.ntmps57 rfl aA rfl fun N w c0 h0=>?_
 refine sq ?_;refine rl ?_;refine bx 0 ?_;refine al 1 ?_;refine nl ?_;refine sq ?_;refine sq ?_;refine rl ?_;refine ld ?_
 refine ca (Dt ha) Wk ⟨aB rfl,rfl⟩ (.one (tv (.bool (cV a.s a.x a.t a.y)))) ?_;refine WL.splitb (t:=4) rfl (fun h1=>?_) (fun h1=>?_)
 ·refine o1 ?_;refine nl ?_;refine gQ rfl ?_;refine sk ?_;refine sq ?_;refine rl ?_;refine ld ?_;refine st ?_;refine nl ?_;refine rt ?_
  exact en (.inl rfl) rfl (aP (.agg (.cons (.id rfl) (.cons (.id rfl) (.cons (.id rfl) (.cons (.id rfl) .nil)))))) (by decide) (fun h=>by cases h) (by rw[ha.right h1];rfl)
 refine o1 ?_;refine nl ?_;refine mF rfl ?_;refine sq ?_;refine rl ?_;refine ca (zH) Th rfl (qF (.of 0)) ?_;refine st ?_;refine nl ?_;refine rt ?_
 exact en (.inl rfl) rfl (aP (.agg (.cons (.id rfl) (.cons (.id rfl) (.cons (.id rfl) (.cons (.id rfl) .nil)))))) (by decide) (fun h=>by cases h) (by rw[ha.wrong h1];rfl)
theorem mN {a b:Zi}{k k':Int}(ha:Zn a k) (hb:Zn b k') (h0:k'≠0):aD false Tryz.prog 71 [] [gF a,gF b] (aM (.tup [kF (k.fdiv k'),kF (k.fmod k'),.one (tv (.int .i64 0))])):=by
 have h:=Ot ha hb
 rwa[if_neg h0,if_neg h0,if_neg h0]at h
theorem jP {a b:Zi}{k k':Int}(ha:Zn a k) (hb:Zn b k'):aD false Tryz.prog 25 [] [gF a,gF b] (aM (.tup [qF (.of (Rat.divInt k k')),.one (tv (.int .i64 (if k'=0 then 20 else 0)))])):=by
 refine bK Tryz.func25 rfl Tryz.ntmps25 rfl aA rfl fun N w c0 h0=>?_
 have hkl:=ha.len
 have hkl':=hb.len
 refine sq ?_;refine rl ?_;refine bx 0 ?_;refine bx 1 ?_;refine al 2 ?_;refine o1 ?_;refine nl ?_;refine sq ?_;refine sq ?_;refine rl ?_;refine ld ?_
 refine ca (kL hb) tD ⟨aB rfl,rfl⟩ (.one (tv (.int .i64 (k').sign))) ?_;refine o1 ?_;refine nl ?_;refine bU rfl (fun h1=>?_) (fun h1=>?_)
 ·refine sq ?_;refine rl ?_;refine ca (zH) Th rfl (qF (.of 0)) ?_;refine st ?_;refine o1 ?_;refine nl ?_;refine rt ?_;have hk0:k'=0:=Int.sign_eq_zero_iff_zero.1 h1
  have hd0:Rat.divInt k k'=0:=by rw[hk0];simp
  exact en (.inl rfl) rfl (jL (.cons (.agg (.cons (.id rfl) (.cons (.id rfl) (.cons (.id rfl) (.cons (.id rfl) .nil))))) (.cons (cD _) .nil))) (by decide) (fun h=>by cases h) (by rw[if_pos hk0,hd0];rfl)
 refine sk ?_;refine sq ?_;refine sq ?_;have hk0:k'≠0:=fun h9=>h1 (by rw[h9];rfl)
 refine rl ?_;refine ld ?_;refine ca (kL hb) tD ⟨aB rfl,rfl⟩ (.one (tv (.int .i64 (k').sign))) ?_;refine o1 ?_;refine nl ?_;refine bU rfl (fun h2=>?_) (fun h2=>?_)
 ·refine sq ?_;refine rl ?_;refine ld ?_;have hn3:=iP (k)
  refine ca (tE ha) Dw ⟨aB rfl,rfl⟩ (kF (-k)) ?_;refine st ?_;refine nl ?_;refine rl ?_;refine ld ?_;have hn4:=iP (k')
  refine ca (tE hb) Dw ⟨aB rfl,rfl⟩ (kF (-k')) ?_;refine st ?_;refine nl ?_;refine sq ?_;have hkn:k'<0:=Int.sign_neg_iff.1 h2
  refine rl ?_;refine ld ?_;refine ld ?_;have hn5:=zG (k:=-k) (k':=-k') (by omega)
  refine ca (Dv (Zn.of (k:=-k) (by omega)) (Zn.of (k:=-k') (by omega))) Tg ⟨aB rfl,aB rfl,rfl⟩ (kF (((Int.gcd (-k) (-k'):Nat):Int))) ?_
  refine al 3 ?_;refine st ?_;refine nl ?_;refine sq ?_;refine rl ?_;refine ld ?_;refine ld ?_
  refine ca (mN (Zn.of (k:=-k) (by omega)) (Zn.of (k:=((Int.gcd (-k) (-k'):Nat):Int)) (by omega)) (xR (by omega))) Dx ⟨aB rfl,aB rfl,rfl⟩ (.tup [kF ((-k).fdiv ((Int.gcd (-k) (-k'):Nat):Int)),kF ((-k).fmod ((Int.gcd (-k) (-k'):Nat):Int)),.one (tv (.int .i64 0))]) ?_
  (iterate 4 refine o1 ?_);refine al 4 ?_;refine al 5 ?_;refine st ?_;refine st ?_;refine o1 ?_;refine nl ?_;refine sq ?_;refine rl ?_;refine ld ?_;refine ld ?_
  refine ca (mN (Zn.of (k:=-k') (by omega)) (Zn.of (k:=((Int.gcd (-k) (-k'):Nat):Int)) (by omega)) (xR (by omega))) Dx ⟨aB rfl,aB rfl,rfl⟩ (.tup [kF ((-k').fdiv ((Int.gcd (-k) (-k'):Nat):Int)),kF ((-k').fmod ((Int.gcd (-k) (-k'):Nat):Int)),.one (tv (.int .i64 0))]) ?_
  (iterate 4 refine o1 ?_);refine al 6 ?_;refine al 7 ?_;refine st ?_;refine st ?_;refine o1 ?_;refine nl ?_;refine sq ?_;refine rl ?_;refine ld ?_;refine ld ?_;refine o1 ?_
  refine st ?_;refine o1 ?_;refine nl ?_;refine rt ?_;obtain⟨hp9,hn9⟩:=Dy (a:=k) hk0
  obtain⟨e1,e2⟩:=hn9 hkn
  exact en (.inl rfl) rfl (jL (.cons (.agg (.cons (.id rfl) (.cons (.id rfl) (.cons (.id rfl) (.cons (.id rfl) .nil))))) (.cons (cD _) .nil))) (by decide) (fun h=>by cases h) (by rw[if_neg hk0];exact congrArg (fun f=>FV.tup [f,.one (tv (.int .i64 0))]) (zI e1 e2))
 refine sk ?_;refine sq ?_;have hkp:0<k':=by have h9:=mt Int.sign_neg_iff.2 h2;omega
 refine rl ?_;refine ld ?_;refine ld ?_;have hn6:=zG (k:=k) (k':=k') (by omega)
 refine ca (Dv ha hb) Tg ⟨aB rfl,aB rfl,rfl⟩ (kF (((Int.gcd k k':Nat):Int))) ?_;refine al 3 ?_;refine st ?_;refine nl ?_;refine sq ?_;refine rl ?_;refine ld ?_;refine ld ?_
 refine ca (mN ha (Zn.of (k:=((Int.gcd k k':Nat):Int)) (by omega)) (xR (by omega))) Dx ⟨aB rfl,aB rfl,rfl⟩ (.tup [kF ((k).fdiv ((Int.gcd k k':Nat):Int)),kF ((k).fmod ((Int.gcd k k':Nat):Int)),.one (tv (.int .i64 0))]) ?_
 (iterate 4 refine o1 ?_);refine al 4 ?_;refine al 5 ?_;refine st ?_;refine st ?_;refine o1 ?_;refine nl ?_;refine sq ?_;refine rl ?_;refine ld ?_;refine ld ?_
 refine ca (mN hb (Zn.of (k:=((Int.gcd k k':Nat):Int)) (by omega)) (xR (by omega))) Dx ⟨aB rfl,aB rfl,rfl⟩ (.tup [kF ((k').fdiv ((Int.gcd k k':Nat):Int)),kF ((k').fmod ((Int.gcd k k':Nat):Int)),.one (tv (.int .i64 0))]) ?_
 (iterate 4 refine o1 ?_);refine al 6 ?_;refine al 7 ?_;refine st ?_;refine st ?_;refine o1 ?_;refine nl ?_;refine sq ?_;refine rl ?_;refine ld ?_;refine ld ?_;refine o1 ?_
 refine st ?_;refine o1 ?_;refine nl ?_;refine rt ?_;obtain⟨hp9,hn9⟩:=Dy (a:=k) hk0
 obtain⟨e1,e2⟩:=hp9 hkp
 exact en (.inl rfl) rfl (jL (.cons (.agg (.cons (.id rfl) (.cons (.id rfl) (.cons (.id rfl) (.cons (.id rfl) .nil))))) (.cons (cD _) .nil))) (by decide) (fun h=>by cases h) (by rw[if_neg hk0];exact congrArg (fun f=>FV.tup [f,.one (tv (.int .i64 0))]) (zI e1 e2))
theorem HR {n d:Int}(h1:-9223372036854775808≤n) (h2:n≤9223372036854775807) (h3:-9223372036854775808≤d) (h4:d≤9223372036854775807):aD false Tryz.prog 75 [] [.one (tv (.int .i64 n)),.one (tv (.int .i64 d))] (aM (.tup [qF (.of (Rat.divInt n d)),.one (tv (.int .i64 (if d=0 then 20 else 0)))])):=by
 refine bK Tryz.func75 rfl Tryz.ntmps75 rfl aA rfl fun N w c0 h0=>?_
 refine sq ?_;refine rl ?_;refine al 0 ?_;refine o1 ?_;refine nl ?_;refine sq ?_;refine rl ?_;refine o1 ?_;have hn1:=nT (n:=n) (by omega) (by omega)
 refine ca (mA (n:=n) (by omega) (by omega)) pB ⟨a1 rfl,rfl⟩ (kF (n)) ?_
 refine o1 ?_;have hn2:=nT (n:=d) (by omega) (by omega)
 refine ca (mA (n:=d) (by omega) (by omega)) pB ⟨a1 rfl,rfl⟩ (kF (d)) ?_
 refine ca (jP (Zn.of (k:=n) (by omega)) (Zn.of (k:=d) (by omega))) pC ⟨aB rfl,aB rfl,rfl⟩ (.tup [qF (.of (Rat.divInt (n) (d))),.one (tv (.int .i64 (if(d)=0 then 20 else 0)))]) ?_
 refine o1 ?_;refine o1 ?_;refine st ?_;refine o1 ?_;refine nl ?_;refine rt ?_
 exact en (.inl rfl) rfl (jL (.cons (.agg (.cons (.id rfl) (.cons (.id rfl) (.cons (.id rfl) (.cons (.id rfl) .nil))))) (.cons (cD _) .nil))) (by decide) (fun h=>by cases h) rfl
theorem Ou {a:Fr4}{p:Rat}(ha:Qn a p):aD false Tryz.prog 30 [] [qF a] (aM (qF (.of (-p)))):=by
 refine bK Tryz.func30 rfl Tryz.ntmps30 rfl aA rfl fun N w c0 h0=>?_
 refine sq ?_;refine rl ?_;refine bx 0 ?_;refine al 1 ?_;refine nl ?_;refine sq ?_;refine rl ?_;refine ld ?_;refine ca (nU ha) Dz ⟨aB rfl,rfl⟩ (qF (.of p)) ?_;refine st ?_
 refine nl ?_;refine sq ?_;refine rd [0,1] (fun i=>[6].contains i) mixed ?_
 refine dv 0 ?_;refine aX 1 ?_;refine dv 3 ?_;refine aX 4 ?_;refine aI 2 rfl (tE (fP ha.sz)) Dw ⟨aB rfl,rfl⟩ (kF (-p.num)) ?_;refine df 5 ?_;refine dst 6 ?_;refine aO ?_
 refine rt ?_
 exact en (.inl rfl) rfl (aP (.agg (.cons (.id rfl) (.cons (.id rfl) (.cons (.id rfl) (.cons (.id rfl) .nil)))))) (by decide) (fun h=>by cases h) (by unfold qF Fr4.of;rw[Rat.neg_num,Rat.neg_den];rfl)
theorem Ov {a b:Fr4}{p q:Rat}(ha:Qn a p) (hb:Qn b q) (hs:Sz 17179869184 p) (hs':Sz 17179869184 q):aD false Tryz.prog 39 [] [qF a,qF b] (aM (qF (.of (p+q)))):=by
 refine bK Tryz.func39 rfl Tryz.ntmps39 rfl aA rfl fun N w c0 h0=>?_
 have hs1:=hs.1
 have hs2:(dg 4294967296 ((p.den:Int)).natAbs).length≤17179869184:=hs.2
 have hs3:=hs'.1
 have hs4:(dg 4294967296 ((q.den:Int)).natAbs).length≤17179869184:=hs'.2
 refine sq ?_;refine rl ?_;refine bx 0 ?_;refine bx 1 ?_;refine al 2 ?_;refine nl ?_;refine sq ?_;refine rl ?_;refine ld ?_;refine ca (nU ha) Dz ⟨aB rfl,rfl⟩ (qF (.of p)) ?_
 refine st ?_;refine nl ?_;refine sq ?_;refine rl ?_;refine ld ?_;refine ca (nU hb) Dz ⟨aB rfl,rfl⟩ (qF (.of q)) ?_;refine st ?_;refine nl ?_
 refine md (γ:=Unit) (fun _=>cG [(4,.one (.pt 0 0)),(5,.one (.pt 1 0))]) (fun _=>([⟨50,0,[tv (.bool false),tv (.slice none 0 0),tv (.bool false),tv (.slice none 0 0)]⟩,⟨50,0,((Fr4.of (Rat.divInt (p.num*(q.den:Int)+q.num*(p.den:Int)) ((p.den:Int)*(q.den:Int)))).tr false).map .t⟩]:List Ob).map some) (fun _=>True) ?_ fun _ _=>?_
 ·refine rd [0,1,2] (fun i=>[22].contains i) mixed ?_
  refine dv 0 ?_;refine aX 1 ?_;refine dv 2 ?_;refine aX 3 ?_;refine dv 5 ?_;refine aX 6 ?_;refine dv 7 ?_;refine aX 8 ?_;refine dv 11 ?_;refine aX 12 ?_;refine dv 13 ?_
  refine aX 14 ?_;refine WO.two (i:=4) (j:=20) (by kernel_rfl) ?_ ?_
  ·have hn1:=dH (p.num) ((q.den:Int))
   refine cS 4 rfl (jQ (fP hs) (dN hs')) pD ⟨aB rfl,aB rfl,rfl⟩ (kF (p.num*(q.den:Int))) ?_;refine WO.two (i:=9) (j:=20) (by kernel_rfl) ?_ ?_
   ·have hn2:=dH (q.num) ((p.den:Int))
    refine cS 9 rfl (jQ (fP hs') (dN hs)) pD ⟨aB rfl,aB rfl,rfl⟩ (kF (q.num*(p.den:Int))) ?_;refine WO.two (i:=10) (j:=20) (by kernel_rfl) ?_ ?_
    ·have hn3:=gL (p.num*(q.den:Int)) (q.num*(p.den:Int))
     refine cS 10 rfl (mO (Zn.of (k:=p.num*(q.den:Int)) (by omega)) (Zn.of (k:=q.num*(p.den:Int)) (by omega))) tF ⟨aB rfl,aB rfl,rfl⟩ (kF (p.num*(q.den:Int)+q.num*(p.den:Int))) ?_
     refine WO.two (i:=15) (j:=20) (by kernel_rfl) ?_ ?_
     ·have hn4:=dH ((p.den:Int)) ((q.den:Int))
      refine cS 15 rfl (jQ (dN hs) (dN hs')) pD ⟨aB rfl,aB rfl,rfl⟩ (kF ((p.den:Int)*(q.den:Int))) ?_;refine WO.two (i:=16) (j:=20) (by kernel_rfl) ?_ ?_
      ·refine cS 16 rfl (jP (Zn.of (k:=p.num*(q.den:Int)+q.num*(p.den:Int)) (by omega)) (Zn.of (k:=(p.den:Int)*(q.den:Int)) (by omega))) pC ⟨aB rfl,aB rfl,rfl⟩ (.tup [qF (.of (Rat.divInt (p.num*(q.den:Int)+q.num*(p.den:Int)) ((p.den:Int)*(q.den:Int)))),.one (tv (.int .i64 (if((p.den:Int)*(q.den:Int))=0 then 20 else 0)))]) ?_
       refine df 17 ?_;refine df 18 ?_;refine df 19 ?_;refine eA (key:=3) 20 (by kernel_rfl) rfl rfl aA rfl ⟨rfl,rfl,rfl,trivial⟩ ?_
       refine aR 21 (by kernel_rfl) rfl rfl aA rfl rfl rfl rfl ⟨rfl,rfl,rfl,trivial⟩ ?_
       refine dF 22 (by kernel_rfl) rfl rfl aA rfl (by trivial) ?_ (fun h=>by first | rfl | cases h)
       refine aO ?_;exact⟨(),trivial,aJ h0 [2,3] _ _ (by decide) ⟨rfl,rfl,trivial⟩ ⟨oe rfl rfl,oe rfl rfl,rfl⟩⟩
      refine bP (key:=3) 20 rfl rfl aA rfl ⟨rfl,rfl,rfl,trivial⟩ ?_
      refine aI 16 rfl (jP (Zn.of (k:=p.num*(q.den:Int)+q.num*(p.den:Int)) (by omega)) (Zn.of (k:=(p.den:Int)*(q.den:Int)) (by omega))) pC ⟨aB rfl,aB rfl,rfl⟩ (.tup [qF (.of (Rat.divInt (p.num*(q.den:Int)+q.num*(p.den:Int)) ((p.den:Int)*(q.den:Int)))),.one (tv (.int .i64 (if((p.den:Int)*(q.den:Int))=0 then 20 else 0)))]) ?_
      refine df 17 ?_;refine df 18 ?_;refine df 19 ?_;refine aR 21 (by kernel_rfl) rfl rfl aA rfl rfl rfl rfl ⟨rfl,rfl,rfl,trivial⟩ ?_
      refine dF 22 (by kernel_rfl) rfl rfl aA rfl (by trivial) ?_ (fun h=>by first | rfl | cases h)
      refine aO ?_;exact⟨(),trivial,aJ h0 [2,3] _ _ (by decide) ⟨rfl,rfl,trivial⟩ ⟨oe rfl rfl,oe rfl rfl,rfl⟩⟩
     refine bP (key:=3) 20 rfl rfl aA rfl ⟨rfl,rfl,rfl,trivial⟩ ?_;have hn5:=dH ((p.den:Int)) ((q.den:Int))
     refine aI 15 rfl (jQ (dN hs) (dN hs')) pD ⟨aB rfl,aB rfl,rfl⟩ (kF ((p.den:Int)*(q.den:Int))) ?_
     refine aI 16 rfl (jP (Zn.of (k:=p.num*(q.den:Int)+q.num*(p.den:Int)) (by omega)) (Zn.of (k:=(p.den:Int)*(q.den:Int)) (by omega))) pC ⟨aB rfl,aB rfl,rfl⟩ (.tup [qF (.of (Rat.divInt (p.num*(q.den:Int)+q.num*(p.den:Int)) ((p.den:Int)*(q.den:Int)))),.one (tv (.int .i64 (if((p.den:Int)*(q.den:Int))=0 then 20 else 0)))]) ?_
     refine df 17 ?_;refine df 18 ?_;refine df 19 ?_;refine aR 21 (by kernel_rfl) rfl rfl aA rfl rfl rfl rfl ⟨rfl,rfl,rfl,trivial⟩ ?_
     refine dF 22 (by kernel_rfl) rfl rfl aA rfl (by trivial) ?_ (fun h=>by first | rfl | cases h)
     refine aO ?_;exact⟨(),trivial,aJ h0 [2,3] _ _ (by decide) ⟨rfl,rfl,trivial⟩ ⟨oe rfl rfl,oe rfl rfl,rfl⟩⟩
    refine bP (key:=3) 20 rfl rfl aA rfl ⟨rfl,rfl,rfl,trivial⟩ ?_;have hn6:=gL (p.num*(q.den:Int)) (q.num*(p.den:Int))
    refine aI 10 rfl (mO (Zn.of (k:=p.num*(q.den:Int)) (by omega)) (Zn.of (k:=q.num*(p.den:Int)) (by omega))) tF ⟨aB rfl,aB rfl,rfl⟩ (kF (p.num*(q.den:Int)+q.num*(p.den:Int))) ?_
    have hn7:=dH ((p.den:Int)) ((q.den:Int))
    refine aI 15 rfl (jQ (dN hs) (dN hs')) pD ⟨aB rfl,aB rfl,rfl⟩ (kF ((p.den:Int)*(q.den:Int))) ?_
    refine aI 16 rfl (jP (Zn.of (k:=p.num*(q.den:Int)+q.num*(p.den:Int)) (by omega)) (Zn.of (k:=(p.den:Int)*(q.den:Int)) (by omega))) pC ⟨aB rfl,aB rfl,rfl⟩ (.tup [qF (.of (Rat.divInt (p.num*(q.den:Int)+q.num*(p.den:Int)) ((p.den:Int)*(q.den:Int)))),.one (tv (.int .i64 (if((p.den:Int)*(q.den:Int))=0 then 20 else 0)))]) ?_
    refine df 17 ?_;refine df 18 ?_;refine df 19 ?_;refine aR 21 (by kernel_rfl) rfl rfl aA rfl rfl rfl rfl ⟨rfl,rfl,rfl,trivial⟩ ?_
    refine dF 22 (by kernel_rfl) rfl rfl aA rfl (by trivial) ?_ (fun h=>by first | rfl | cases h)
    refine aO ?_;exact⟨(),trivial,aJ h0 [2,3] _ _ (by decide) ⟨rfl,rfl,trivial⟩ ⟨oe rfl rfl,oe rfl rfl,rfl⟩⟩
   refine bP (key:=3) 20 rfl rfl aA rfl ⟨rfl,rfl,rfl,trivial⟩ ?_;have hn8:=dH (q.num) ((p.den:Int))
   refine aI 9 rfl (jQ (fP hs') (dN hs)) pD ⟨aB rfl,aB rfl,rfl⟩ (kF (q.num*(p.den:Int))) ?_;have hn9:=gL (p.num*(q.den:Int)) (q.num*(p.den:Int))
   refine aI 10 rfl (mO (Zn.of (k:=p.num*(q.den:Int)) (by omega)) (Zn.of (k:=q.num*(p.den:Int)) (by omega))) tF ⟨aB rfl,aB rfl,rfl⟩ (kF (p.num*(q.den:Int)+q.num*(p.den:Int))) ?_
   have hn10:=dH ((p.den:Int)) ((q.den:Int))
   refine aI 15 rfl (jQ (dN hs) (dN hs')) pD ⟨aB rfl,aB rfl,rfl⟩ (kF ((p.den:Int)*(q.den:Int))) ?_
   refine aI 16 rfl (jP (Zn.of (k:=p.num*(q.den:Int)+q.num*(p.den:Int)) (by omega)) (Zn.of (k:=(p.den:Int)*(q.den:Int)) (by omega))) pC ⟨aB rfl,aB rfl,rfl⟩ (.tup [qF (.of (Rat.divInt (p.num*(q.den:Int)+q.num*(p.den:Int)) ((p.den:Int)*(q.den:Int)))),.one (tv (.int .i64 (if((p.den:Int)*(q.den:Int))=0 then 20 else 0)))]) ?_
   refine df 17 ?_;refine df 18 ?_;refine df 19 ?_;refine aR 21 (by kernel_rfl) rfl rfl aA rfl rfl rfl rfl ⟨rfl,rfl,rfl,trivial⟩ ?_
   refine dF 22 (by kernel_rfl) rfl rfl aA rfl (by trivial) ?_ (fun h=>by first | rfl | cases h)
   refine aO ?_;exact⟨(),trivial,aJ h0 [2,3] _ _ (by decide) ⟨rfl,rfl,trivial⟩ ⟨oe rfl rfl,oe rfl rfl,rfl⟩⟩
  refine bP (key:=3) 20 rfl rfl aA rfl ⟨rfl,rfl,rfl,trivial⟩ ?_;have hn11:=dH (p.num) ((q.den:Int))
  refine aI 4 rfl (jQ (fP hs) (dN hs')) pD ⟨aB rfl,aB rfl,rfl⟩ (kF (p.num*(q.den:Int))) ?_;have hn12:=dH (q.num) ((p.den:Int))
  refine aI 9 rfl (jQ (fP hs') (dN hs)) pD ⟨aB rfl,aB rfl,rfl⟩ (kF (q.num*(p.den:Int))) ?_;have hn13:=gL (p.num*(q.den:Int)) (q.num*(p.den:Int))
  refine aI 10 rfl (mO (Zn.of (k:=p.num*(q.den:Int)) (by omega)) (Zn.of (k:=q.num*(p.den:Int)) (by omega))) tF ⟨aB rfl,aB rfl,rfl⟩ (kF (p.num*(q.den:Int)+q.num*(p.den:Int))) ?_
  have hn14:=dH ((p.den:Int)) ((q.den:Int))
  refine aI 15 rfl (jQ (dN hs) (dN hs')) pD ⟨aB rfl,aB rfl,rfl⟩ (kF ((p.den:Int)*(q.den:Int))) ?_
  refine aI 16 rfl (jP (Zn.of (k:=p.num*(q.den:Int)+q.num*(p.den:Int)) (by omega)) (Zn.of (k:=(p.den:Int)*(q.den:Int)) (by omega))) pC ⟨aB rfl,aB rfl,rfl⟩ (.tup [qF (.of (Rat.divInt (p.num*(q.den:Int)+q.num*(p.den:Int)) ((p.den:Int)*(q.den:Int)))),.one (tv (.int .i64 (if((p.den:Int)*(q.den:Int))=0 then 20 else 0)))]) ?_
  refine df 17 ?_;refine df 18 ?_;refine df 19 ?_;refine aR 21 (by kernel_rfl) rfl rfl aA rfl rfl rfl rfl ⟨rfl,rfl,rfl,trivial⟩ ?_
  refine dF 22 (by kernel_rfl) rfl rfl aA rfl (by trivial) ?_ (fun h=>by first | rfl | cases h)
  refine aO ?_;exact⟨(),trivial,aJ h0 [2,3] _ _ (by decide) ⟨rfl,rfl,trivial⟩ ⟨oe rfl rfl,oe rfl rfl,rfl⟩⟩
 refine sq ?_;refine rl ?_;refine ld ?_;refine st ?_;refine nl ?_;refine rt ?_
 exact en (.inl rfl) rfl (aP (.agg (.cons (.id rfl) (.cons (.id rfl) (.cons (.id rfl) (.cons (.id rfl) .nil)))))) (by decide) (fun h=>by cases h) (by rw[←oM];rfl)
theorem Ow {a b:Fr4}{p q:Rat}(ha:Qn a p) (hb:Qn b q) (hs:Sz 17179869184 p) (hs':Sz 17179869184 q):aD false Tryz.prog 27 [] [qF a,qF b] (aM (qF (.of (p-q)))):=by
 refine bK Tryz.func27 rfl Tryz.ntmps27 rfl aA rfl fun N w c0 h0=>?_
 refine sq ?_;refine rl ?_;refine bx 0 ?_;refine bx 1 ?_;refine al 2 ?_;refine nl ?_;refine sq ?_;refine rd [0,1,2] (fun i=>[4].contains i) mixed ?_
 refine aX 0 ?_;refine aX 1 ?_;refine aI 2 rfl (Ou hb) DN ⟨aB rfl,rfl⟩ (qF (.of (-q))) ?_
 refine aI 3 rfl (Ov ha (Qn.of (p:=(-q)) (mM hs')) hs (mM hs')) DO ⟨aB rfl,aB rfl,rfl⟩ (qF (.of (p+(-q)))) ?_;refine dst 4 ?_;refine aO ?_;refine rt ?_
 exact en (.inl rfl) rfl (aP (.agg (.cons (.id rfl) (.cons (.id rfl) (.cons (.id rfl) (.cons (.id rfl) .nil)))))) (by decide) (fun h=>by cases h) (by rw[Rat.sub_eq_add_neg];rfl)
theorem pZ {a:Fr4}{p:Rat}(ha:Qn a p):aD true Tryz.prog 32 [] [qF a] (aM (.one (tv (.int .i64 p.num.sign)))):=by
 refine bK Tryz.func32 rfl Tryz.ntmps32 rfl aA rfl fun N w c0 h0=>?_
 refine sq ?_;refine rl ?_;refine bx 0 ?_;refine o1 ?_;refine nl ?_;refine sq ?_;refine rl ?_;refine ld ?_;refine ca (nU ha) Dz ⟨aB rfl,rfl⟩ (qF (.of p)) ?_;refine o1 ?_
 refine ca (kL (fP ha.sz)) tD ⟨aB rfl,rfl⟩ (.one (tv (.int .i64 (p.num).sign))) ?_;refine o1 ?_;refine nl ?_;refine rt ?_
 exact en (.inl rfl) rfl (aP (cD _)) (by decide) (fun _=>trivial) rfl
theorem DP {a b:Fr4}{p q:Rat}(ha:Qn a p) (hb:Qn b q) (hs:Sz 17179869184 p) (hs':Sz 17179869184 q):aD true Tryz.prog 28 [] [qF a,qF b] (aM (.one (tv (.int .i64 (p-q).num.sign)))):=by
 refine bK Tryz.func28 rfl Tryz.ntmps28 rfl aA rfl fun N w c0 h0=>?_
 refine sq ?_;refine rl ?_;refine bx 0 ?_;refine bx 1 ?_;refine o1 ?_;refine nl ?_;refine sq ?_;refine rl ?_;refine ld ?_;refine ld ?_
 refine ca (Ow ha hb hs hs') DQ ⟨aB rfl,aB rfl,rfl⟩ (qF (.of (p-q))) ?_
 refine ca (pZ (Qn.of (p:=(p-q)) (DR hs hs'))) Ea ⟨aB rfl,rfl⟩ (.one (tv (.int .i64 (p-q).num.sign))) ?_;refine o1 ?_;refine nl ?_;refine rt ?_
 exact en (.inl rfl) rfl (aP (cD _)) (by decide) (fun _=>trivial) rfl
theorem zJ {a:Fr4}{p:Rat}(ha:Qn a p):aD false Tryz.prog 59 [] [qF a] (aM (kF (fl p))):=by
 refine bK Tryz.func59 rfl Tryz.ntmps59 rfl aA rfl fun N9 w9 c0 h0=>?_
 refine sq ?_;refine rl ?_;refine bx 0 ?_;refine al 1 ?_;refine nl ?_;refine sq ?_;refine sq ?_;refine rl ?_;refine ld ?_
 refine ca (Dt ha) Wk ⟨aB rfl,rfl⟩ (.one (tv (.bool (cV a.s a.x a.t a.y)))) ?_;refine WL.splitb (t:=7) rfl (fun h1=>?_) (fun h1=>?_)
 ·refine o1 ?_;refine nl ?_;refine gQ rfl ?_;refine sk ?_;refine sq ?_;obtain rfl:=(ha.right h1).symm
  have hd0:(p.den:Int)≠0:=by have:=p.den_pos;omega
  refine rl ?_;refine o1 ?_;refine ld ?_;refine o1 ?_;refine ld ?_
  refine ca (mN (fP ha.sz) (dN ha.sz) hd0) Dx ⟨aB rfl,aB rfl,rfl⟩ (.tup [kF (p.num.fdiv (p.den:Int)),kF (p.num.fmod (p.den:Int)),.one (tv (.int .i64 0))]) ?_
  (iterate 4 refine o1 ?_);refine al 2 ?_;refine al 3 ?_;refine st ?_;refine st ?_;refine o1 ?_;refine nl ?_;refine sq ?_;refine rl ?_;refine ld ?_;refine st ?_;refine nl ?_;refine rt ?_
  exact en (.inl rfl) rfl (aP (.agg (.cons (.id rfl) (.cons (.id rfl) .nil)))) (by decide) (fun h=>by cases h) (congrArg kF (pQ p))
 refine o1 ?_;refine nl ?_;refine mF rfl ?_;refine sq ?_;refine rl ?_;refine o1 ?_;refine st ?_;refine nl ?_;refine rt ?_;have hq9:=ha.wrong h1
 subst hq9;exact en (.inl rfl) rfl (aP (.agg (.cons (.id rfl) (.cons .nilf .nil)))) (by decide) (fun h=>by cases h) (by rw[show fl 0=0 from Eb 0];exact uP)
theorem wK (k:Int):Rat.divInt k 1=(k:Rat):=by
 have h:=pA k 1 (by omega)
 rwa[show((1:Int):Rat)=1 from rfl,Rat.mul_one]at h
theorem Ti {a:Zi}{k:Int}(ha:Zn a k):aD false Tryz.prog 38 [] [gF a] (aM (qF (.of (k:Rat)))):=by
 refine bK Tryz.func38 rfl Tryz.ntmps38 rfl aA rfl fun N9 w9 c0 h0=>?_
 refine sq ?_;refine rl ?_;refine bx 0 ?_;refine al 1 ?_;refine nl ?_;refine sq ?_;refine rd [0,1] (fun i=>[8].contains i) mixed ?_
 refine aX 0 ?_;refine WO.two (i:=1) (j:=6) (by kernel_rfl) ?_ ?_
 ·refine cS 1 rfl (mA (n:=1) (by omega) (by omega)) pB ⟨a1 rfl,rfl⟩ (kF 1) ?_
  refine WO.two (i:=2) (j:=6) (by kernel_rfl) ?_ ?_
  ·refine cS 2 rfl (jP ha (Zn.of (k:=1) (by decide))) pC ⟨aB rfl,aB rfl,rfl⟩ (.tup [qF (.of (Rat.divInt k 1)),.one (tv (.int .i64 (if(1:Int)=0 then 20 else 0)))]) ?_
   refine df 3 ?_;refine df 4 ?_;refine df 5 ?_;refine eA (key:=2) 6 (by kernel_rfl) rfl rfl aA rfl ⟨rfl,rfl,trivial⟩ ?_
   refine aR 7 (by kernel_rfl) rfl rfl aA rfl rfl rfl rfl ⟨rfl,rfl,trivial⟩ ?_
   refine dF 8 (by kernel_rfl) rfl rfl aA rfl (by trivial) ?_ (fun h=>by first | rfl | cases h)
   refine aO ?_;refine sq ?_;refine rl ?_;refine ld ?_;refine st ?_;refine nl ?_;refine rt ?_
   exact en (.inl rfl) rfl (aP (.agg (.cons (.id rfl) (.cons (.id rfl) (.cons (.id rfl) (.cons (.id rfl) .nil)))))) (by decide) (fun h=>by cases h) (congrArg (fun q=>qF (.of q)) (wK k))
  refine bP (key:=2) 6 rfl rfl aA rfl ⟨rfl,rfl,trivial⟩ ?_
  refine aI 2 rfl (jP ha (Zn.of (k:=1) (by decide))) pC ⟨aB rfl,aB rfl,rfl⟩ (.tup [qF (.of (Rat.divInt k 1)),.one (tv (.int .i64 (if(1:Int)=0 then 20 else 0)))]) ?_
  refine df 3 ?_;refine df 4 ?_;refine df 5 ?_;refine aR 7 (by kernel_rfl) rfl rfl aA rfl rfl rfl rfl ⟨rfl,rfl,trivial⟩ ?_
  refine dF 8 (by kernel_rfl) rfl rfl aA rfl (by trivial) ?_ (fun h=>by first | rfl | cases h)
  refine aO ?_;refine sq ?_;refine rl ?_;refine ld ?_;refine st ?_;refine nl ?_;refine rt ?_
  exact en (.inl rfl) rfl (aP (.agg (.cons (.id rfl) (.cons (.id rfl) (.cons (.id rfl) (.cons (.id rfl) .nil)))))) (by decide) (fun h=>by cases h) (congrArg (fun q=>qF (.of q)) (wK k))
 refine bP (key:=2) 6 rfl rfl aA rfl ⟨rfl,rfl,trivial⟩ ?_;refine aI 1 rfl (mA (n:=1) (by omega) (by omega)) pB ⟨a1 rfl,rfl⟩ (kF 1) ?_
 refine aI 2 rfl (jP ha (Zn.of (k:=1) (by decide))) pC ⟨aB rfl,aB rfl,rfl⟩ (.tup [qF (.of (Rat.divInt k 1)),.one (tv (.int .i64 (if(1:Int)=0 then 20 else 0)))]) ?_
 refine df 3 ?_;refine df 4 ?_;refine df 5 ?_;refine aR 7 (by kernel_rfl) rfl rfl aA rfl rfl rfl rfl ⟨rfl,rfl,trivial⟩ ?_
 refine dF 8 (by kernel_rfl) rfl rfl aA rfl (by trivial) ?_ (fun h=>by first | rfl | cases h)
 refine aO ?_;refine sq ?_;refine rl ?_;refine ld ?_;refine st ?_;refine nl ?_;refine rt ?_
 exact en (.inl rfl) rfl (aP (.agg (.cons (.id rfl) (.cons (.id rfl) (.cons (.id rfl) (.cons (.id rfl) .nil)))))) (by decide) (fun h=>by cases h) (congrArg (fun q=>qF (.of q)) (wK k))
theorem HS {L:Nat}{p:Rat}(h:Sz L p) (hL:1≤L):Sz L ((fl p:Int):Rat):=by
 refine⟨by rw[Rat.num_intCast];exact Nat.le_trans (mL p) h.1,?_⟩
 rw[Rat.den_intCast]
 exact hL
theorem Ec {a:Fr4}{p:Rat}(ha:Qn a p) (hs:Sz 17179869184 p):aD false Tryz.prog 56 [] [qF a] (aM (qF (.of (fc p)))):=by
 refine bK Tryz.func56 rfl Tryz.ntmps56 rfl aA rfl fun N9 w9 c0 h0=>?_
 have hfl:=Nat.le_trans (mL p) (Nat.le_trans hs.1 (show 17179869184≤137438953472 by omega))
 have hfz:Sz 17179869184 ((fl p:Int):Rat):=HS hs (by omega)
 refine sq ?_;refine rl ?_;refine bx 0 ?_;refine al 1 ?_;refine nl ?_;refine sq ?_;refine rd [0,1] (fun i=>[5].contains i) mixed ?_
 refine aX 0 ?_;refine aX 1 ?_;refine aI 2 rfl (zJ ha) Tj ⟨aB rfl,rfl⟩ (kF (fl p)) ?_
 refine aI 3 rfl (Ti (Zn.of (k:=fl p) hfl)) KK ⟨aB rfl,rfl⟩ (qF (.of ((fl p:Int):Rat))) ?_
 refine aI 4 rfl (Ow ha (Qn.of hfz) hs (hfz.mono (by omega))) DQ ⟨aB rfl,aB rfl,rfl⟩ (qF (.of (p-((fl p:Int):Rat)))) ?_
 refine dst 5 ?_;refine aO ?_;refine rt ?_;exact en (.inl rfl) rfl (aP (.agg (.cons (.id rfl) (.cons (.id rfl) (.cons (.id rfl) (.cons (.id rfl) .nil)))))) (by decide) (fun h=>by cases h) (rfl)
theorem DS {xs:List Fr4}{B:Nat}(hB:2+xs.length*(B+1)≤17179869184) (hx:∀x∈xs,x.ok) (hz:∀x∈xs,Sz B x.q) (hl:xs.length≤1073741823):aD false Tryz.prog 55 [] [.one (.t (sQ false xs))] (aM (qF (.of (aC (xs.map Fr4.q))))):=by
 refine bK Tryz.func55 rfl Tryz.ntmps55 rfl aA rfl fun N9 w9 c0 h0=>?_
 have h00:(0:Rat)=aC ((xs.take 0).map Fr4.q):=by simp[aC]
 refine sq ?_;refine rl ?_;refine al 0 ?_;refine nl ?_;refine sq ?_;refine rl ?_;refine ca (zH) Th rfl (qF (.of 0)) ?_;refine al 1 ?_;refine st ?_;refine nl ?_;refine sq ?_
 refine sq ?_;refine rl ?_;refine o1 ?_;refine nl ?_;refine bl ?_
 refine lp (γ:=Nat) (fun k=>cG [(0,.one (.t (sQ false xs))),(2,.one (.pt 0 0)),(3,.one (.pt 1 0)),(4,.one (tv (.int .i64 ((k:Nat):Int))))]) (fun k=>[(⟨50,0,[tv (.bool false),tv (.slice none 0 0),tv (.bool false),tv (.slice none 0 0)]⟩:Ob),⟨50,0,((Fr4.of (aC ((xs.take (k)).map Fr4.q))).tr false).map .t⟩].map some) (fun k=>k≤xs.length∧Sz (2+k*(B+1)) (aC ((xs.take (k)).map Fr4.q))) (fun k=>xs.length-k) 0 ⟨Nat.zero_le _,by simpa[aC]using kU (z:=0) (by omega) (by omega)⟩ (aJ h0 [0,1] _ _ (by decide) ⟨rfl,rfl,rfl,rfl,trivial⟩ ⟨oe rfl rfl,bJ (congrArg (fun q=>some (⟨50,0,((Fr4.of q).tr false).map .t⟩:Ob)) h00),rfl⟩) fun k hk=>?_
 have hmul:k*(B+1)≤xs.length*(B+1):=Nat.mul_le_mul hk.1 (Nat.le_refl _)
 refine sq ?_;refine sq ?_;refine rl ?_;(iterate 4 refine o1 ?_);refine nl ?_;refine bU rfl (fun h1=>?_) (fun h1=>?_)
 ·refine sk ?_;refine sq ?_;refine bl ?_;have hmul2:(k+1)*(B+1)≤xs.length*(B+1):=Nat.mul_le_mul (by omega) (Nat.le_refl _)
  have hmul3:(k+1)*(B+1)=k*(B+1)+(B+1):=Nat.succ_mul k (B+1)
  refine rd [0,1] (fun i=>[6].contains i) mixed ?_
  refine aX 0 ?_;refine dv 1 ?_;refine dv 2 ?_;refine dv 3 ?_;refine iE 4 ((bD xs (k)).tr false) (iN xs (k:=k) (by omega)) ?_
  refine aI 5 rfl (Ov (Qn.of (p:=(aC ((xs.take (k)).map Fr4.q))) (hk.2.mono (M:=17179869184) (by omega))) ⟨hx _ (cL (by omega)),rfl⟩ (hk.2.mono (M:=17179869184) (by omega)) ((hz _ (cL (by omega))).mono (M:=17179869184) (by omega))) DO ⟨aB rfl,aB rfl,rfl⟩ (qF (.of ((aC ((xs.take (k)).map Fr4.q))+(bD xs (k)).q))) ?_
  refine dst 6 ?_;refine aO ?_;refine rl ?_;refine o1 ?_;refine o1 ?_;refine WL.cast (t:=11) (u':=.int .i64 ((k+1:Nat):Int)) rfl (aL (by omega)) ?_
  refine o1 ?_;refine nl ?_;have hst:(aC ((xs.take (k+1)).map Fr4.q))=(aC ((xs.take (k)).map Fr4.q))+(bD xs (k)).q:=by rw[sN (by omega)];exact sO _ _
  exact⟨k+1,by omega,⟨by omega,by rw[hst];exact(sP hk.2 (hz _ (cL (by omega)))).mono (by omega)⟩,aJ h0 [0,1] _ _ (by decide) ⟨rfl,rfl,rfl,rfl,trivial⟩ ⟨oe rfl rfl,bJ (congrArg (fun q=>some (⟨50,0,((Fr4.of q).tr false).map .t⟩:Ob)) hst.symm),rfl⟩⟩
 refine ex ?_;refine sq ?_;refine rl ?_;refine ld ?_;refine st ?_;refine nl ?_;refine rt ?_
 exact en (.inl rfl) rfl (aP (.agg (.cons (.id rfl) (.cons (.id rfl) (.cons (.id rfl) (.cons (.id rfl) .nil)))))) (by decide) (fun h=>by cases h) (by rw[List.take_of_length_le (by omega)];rfl)
theorem DT {a:Zi}{k:Int}(ha:Zn a k):aD true Tryz.prog 58 [] [gF a] (aM (kO (((k.natAbs:Nat):Int)))):=by
 refine bK Tryz.func58 rfl Tryz.ntmps58 rfl aA rfl fun N w c0 h0=>?_
 have hkl:=ha.len
 refine sq ?_;refine rl ?_;refine bx 0 ?_;refine al 1 ?_;refine nl ?_;refine sq ?_;refine rl ?_;refine ld ?_;refine ca (eS ha) lS ⟨aB rfl,rfl⟩ (kF (k)) ?_;refine o1 ?_
 refine fJ 2 (iJ (b:=false) (xs:=dg 4294967296 k.natAbs) (K:=((k.natAbs:Nat):Int)) (by omega) (aH (by omega) _) (by rw[bC];rfl)) cR ⟨a1 rfl,a1 rfl,rfl⟩ ?_
 refine st ?_;refine nl ?_;refine rt ?_
 exact en (.inl rfl) rfl (aP (.agg (.cons (.id rfl) (.cons (.sl (trs:=aK (dg 4294967296 (((k.natAbs:Nat):Int)).natAbs)) rfl rfl (aV _) (aQ _)) .nil)))) (by decide) (fun _=>dO (((k.natAbs:Nat):Int))) rfl
theorem tG {xs:List Fr4}{k:Nat}(h:k<xs.length):(bD xs k).q∈xs.map Fr4.q:=List.mem_map.2 ⟨_,cL h,rfl⟩
theorem Tk {l:List Rat}{t:Nat}(ht:(t:Int)≤eI l) (h:¬0<(eI l-(t:Int)).sign):t=(eI l).toNat:=by
 have h1:¬0<eI l-(t:Int):=fun h9=>h (Int.sign_pos_iff.2 h9)
 omega
theorem Ox {xs:List Fr4}(hx:∀x∈xs,x.ok) (hz:∀x∈xs,Sz 1000 x.q) (hl:xs.length≤12):aD false Tryz.prog 18 [] [.one (.t (sQ false xs))] (aM (.one (.t (sZ 34 (aT (cK (xs.map Fr4.q))))))):=by
 refine bK Tryz.func18 rfl Tryz.ntmps18 rfl aA rfl fun N9 w9 c0 h0=>?_
 have hll:(xs.map Fr4.q).length=xs.length:=List.length_map ..
 have hll2:(xs.map Fr4.q).length≤12:=by omega
 have hzl:∀q∈(xs.map Fr4.q),Sz 1000 q:=fun q hq=>(by obtain⟨x,h9,rfl⟩:=List.mem_map.1 hq;exact hz x h9)
 have hsz:Sz 13000 (aC (xs.map Fr4.q)):=KL hzl hll2
 have hEl:(aN (xs.map Fr4.q)).length=xs.length:=by rw[Io,hll]
 have hEl12:(aN (xs.map Fr4.q)).length≤12:=by omega
 have hEz:=Ze hzl
 have hofl:(dZ (aN (xs.map Fr4.q))).length=xs.length:=by rw[gT,hEl]
 have hfc0:Sz 68719476736 (fc (aC (xs.map Fr4.q))):=(rC hsz).mono (by omega)
 have hfs:(dg 4294967296 (fl (aC (xs.map Fr4.q))).natAbs).length≤20000:=Nat.le_trans (mL _) (Nat.le_trans hsz.1 (by omega))
 refine sq ?_;refine rl ?_;refine o1 ?_;refine nl ?_;refine sq ?_;refine rl ?_;refine o1 ?_
 refine ca (DS (B:=1000) (by omega) hx hz (by omega)) KM ⟨a1 rfl,rfl⟩ (qF (.of (aC (xs.map Fr4.q)))) ?_
 refine al 0 ?_;refine st ?_;refine nl ?_;refine sq ?_;refine rl ?_;refine ld ?_
 refine ca (pZ (Qn.of (p:=(aC (xs.map Fr4.q))) ((hsz).mono (M:=68719476736) (by omega)))) Ea ⟨aB rfl,rfl⟩ (.one (tv (.int .i64 ((aC (xs.map Fr4.q))).num.sign))) ?_
 refine o1 ?_;refine nl ?_;refine sq ?_;refine sq ?_;refine rl ?_;refine ld ?_
 refine ca (Ec (Qn.of (p:=(aC (xs.map Fr4.q))) (hsz.mono (M:=68719476736) (by omega))) ((hsz.mono (by omega)))) Tl ⟨aB rfl,rfl⟩ (qF (.of (fc (aC (xs.map Fr4.q))))) ?_
 refine ca (pZ (Qn.of (p:=(fc (aC (xs.map Fr4.q)))) hfc0)) Ea ⟨aB rfl,rfl⟩ (.one (tv (.int .i64 ((fc (aC (xs.map Fr4.q)))).num.sign))) ?_;refine o1 ?_;refine nl ?_
 refine bU rfl (fun h1=>?_) (fun h1=>?_)
 ·refine sq ?_;refine rl ?_;refine o1 ?_;refine nl ?_;refine rt ?_;have hfr:(aC (xs.map Fr4.q)).den≠1:=fun hq9=>h1 (by rw[Ip.2 hq9];rfl)
  exact en (.inl rfl) rfl (aP (.one .nilf)) (by decide) (fun h=>by cases h) (by rw[wI hfr];rfl)
 refine sk ?_;refine sq ?_;have hden:(aC (xs.map Fr4.q)).den=1:=Ip.1 (Rat.num_eq_zero.1 (Int.sign_eq_zero_iff_zero.1 (Decidable.byContradiction h1)))
 have hEd:=Zf hden
 refine rl ?_;refine o1 ?_;refine nl ?_;refine sq ?_;refine sq ?_;refine rl ?_;refine o1 ?_;refine nl ?_;refine bl ?_
 refine lp (γ:=Nat) (fun s=>cG [(0,.one (.t (sQ false xs))),(3,.one (.pt 0 0)),(4,.one (tv (.int .i64 ((aC (xs.map Fr4.q))).num.sign))),(5,.one (.sl 1 0 (s))),(6,.one (tv (.int .i64 ((s:Nat):Int))))]) (fun s=>[(⟨50,0,((Fr4.of (aC (xs.map Fr4.q))).tr false).map .t⟩:Ob),⟨50,4,(((aN (xs.map Fr4.q)).take s).flatMap dD).map .t⟩].map some) (fun s=>s≤xs.length∧∀j,j<s→¬bG (aN (xs.map Fr4.q)) j<0) (fun s=>xs.length-s) 0 ⟨Nat.zero_le _,fun j hj=>absurd hj (Nat.not_lt_zero j)⟩ ((nr (i:=5) 1 50 4 rfl rfl rfl rfl).trans (aJ h0 [0,1] _ _ (by decide) ⟨rfl,rfl,rfl,rfl,rfl,trivial⟩ ⟨oe rfl rfl,bJ rfl,rfl⟩)) ?_
 rintro k9 ⟨hk9,hA⟩;refine sq ?_;refine sq ?_;refine rl ?_;(iterate 4 refine o1 ?_);refine nl ?_;refine bU rfl (fun h2=>?_) (fun h2=>?_)
 ·refine sk ?_;refine sq ?_;refine bl ?_;refine sq ?_;refine rl ?_;(iterate 3 refine o1 ?_);refine fQ ((bD xs (k9)).tr false) (iN xs (k:=k9) (by omega)) ?_
  refine ca (nU ⟨hx _ (cL (by omega)),rfl⟩) Dz ⟨aB rfl,rfl⟩ (qF (.of (bD xs (k9)).q)) ?_
  refine al 2 ?_;refine st ?_;refine nl ?_;refine sq ?_;refine sq ?_;refine rl ?_;refine o1 ?_;refine o1 ?_;refine nl ?_;refine bU rfl (fun h3=>?_) (fun h3=>?_)
  ·refine rl ?_;refine ld ?_
   refine ca (Ou (Qn.of (p:=(bD xs (k9)).q) ((hzl _ (tG (by omega))).mono (M:=68719476736) (by omega)))) DN ⟨aB rfl,rfl⟩ (qF (.of (-((bD xs (k9)).q)))) ?_
   refine st ?_;refine nl ?_;refine sq ?_;refine sq ?_;refine rl ?_;refine ld ?_
   refine ca (pZ (Qn.of (p:=(-((bD xs (k9)).q))) ((mM (hzl _ (tG (by omega)))).mono (M:=68719476736) (by omega)))) Ea ⟨aB rfl,rfl⟩ (.one (tv (.int .i64 ((-((bD xs (k9)).q))).num.sign))) ?_
   refine o1 ?_;refine nl ?_;refine bU rfl (fun h4=>?_) (fun h4=>?_)
   ·refine sq ?_;refine rl ?_;refine o1 ?_;refine nl ?_;refine rt ?_;have hS9:(aC (xs.map Fr4.q))<0:=gC.1 (Int.sign_neg_iff.1 h3)
    have hv9:(-((bD xs (k9)).q))=bG (aN (xs.map Fr4.q)) k9:=by rw[Ed hS9 (by rw[hll];omega),kI (f:=Fr4.q) (by omega)]
    have hbad:cK (xs.map Fr4.q)=[]:=Iq hden (k:=k9) (by rw[hll];omega) (by rw[←hv9];exact gC.1 (Int.sign_neg_iff.1 h4))
    exact en (.inl rfl) rfl (aP (.one .nilf)) (by decide) (fun h=>by cases h) (by rw[hbad];rfl)
   refine sk ?_;refine rl ?_;refine o1 ?_;refine ld ?_;refine bs 3 ?_
   refine eJ (j:=4) aA rfl rfl rfl rfl (.sl rfl (by rw[List.length_map,bV dK,List.length_take,hEl,Nat.min_eq_left (by omega)])) (.sl rfl rfl rfl) rfl rfl rfl (by omega) (by omega) ?_
   refine o1 ?_;refine nl ?_;refine rl ?_;refine o1 ?_;refine o1 ?_;refine WL.cast (t:=28) (u':=.int .i64 ((k9+1:Nat):Int)) rfl (aL (by omega)) ?_
   refine o1 ?_;refine nl ?_;have hS9:(aC (xs.map Fr4.q))<0:=gC.1 (Int.sign_neg_iff.1 h3)
   have hv9:(-((bD xs (k9)).q))=bG (aN (xs.map Fr4.q)) k9:=by rw[Ed hS9 (by rw[hll];omega),kI (f:=Fr4.q) (by omega)]
   have hst:(((aN (xs.map Fr4.q)).take k9).flatMap dD).map AV.t++(dD (-((bD xs (k9)).q))).map .t=(((aN (xs.map Fr4.q)).take (k9+1)).flatMap dD).map .t:=by rw[iO,mJ (by rw[hEl];omega),←hv9]
   have hA9:∀j,j<k9+1→¬bG (aN (xs.map Fr4.q)) j<0:=fun j hj=>by
    rcases Nat.lt_succ_iff_lt_or_eq.1 hj with h9 | h9
    ·exact hA j h9
    subst h9
    rw[←hv9];exact fun hq9=>h4 (Int.sign_neg_iff.2 (gC.2 hq9))
   exact⟨k9+1,by omega,⟨by omega,hA9⟩,aJ h0 [0,4] _ _ (by decide) ⟨rfl,rfl,rfl,rfl,rfl,trivial⟩ ⟨oe rfl rfl,bJ (congrArg (fun l=>some (⟨50,4,l⟩:Ob)) hst),rfl⟩⟩
  refine sk ?_;refine sq ?_;refine sq ?_;refine rl ?_;refine ld ?_
  refine ca (pZ (Qn.of (p:=(bD xs (k9)).q) ((hzl _ (tG (by omega))).mono (M:=68719476736) (by omega)))) Ea ⟨aB rfl,rfl⟩ (.one (tv (.int .i64 ((bD xs (k9)).q).num.sign))) ?_
  refine o1 ?_;refine nl ?_;refine bU rfl (fun h5=>?_) (fun h5=>?_)
  ·refine sq ?_;refine rl ?_;refine o1 ?_;refine nl ?_;refine rt ?_;have hS9:¬(aC (xs.map Fr4.q))<0:=fun hq9=>h3 (Int.sign_neg_iff.2 (gC.2 hq9))
   have hv9:((bD xs (k9)).q)=bG (aN (xs.map Fr4.q)) k9:=by rw[Ee hS9,kI (f:=Fr4.q) (by omega)]
   have hbad:cK (xs.map Fr4.q)=[]:=Iq hden (k:=k9) (by rw[hll];omega) (by rw[←hv9];exact gC.1 (Int.sign_neg_iff.1 h5))
   exact en (.inl rfl) rfl (aP (.one .nilf)) (by decide) (fun h=>by cases h) (by rw[hbad];rfl)
  refine sk ?_;refine rl ?_;refine o1 ?_;refine ld ?_;refine bs 3 ?_
  refine eJ (j:=4) aA rfl rfl rfl rfl (.sl rfl (by rw[List.length_map,bV dK,List.length_take,hEl,Nat.min_eq_left (by omega)])) (.sl rfl rfl rfl) rfl rfl rfl (by omega) (by omega) ?_
  refine o1 ?_;refine nl ?_;refine rl ?_;refine o1 ?_;refine o1 ?_;refine WL.cast (t:=28) (u':=.int .i64 ((k9+1:Nat):Int)) rfl (aL (by omega)) ?_
  refine o1 ?_;refine nl ?_;have hS9:¬(aC (xs.map Fr4.q))<0:=fun hq9=>h3 (Int.sign_neg_iff.2 (gC.2 hq9))
  have hv9:((bD xs (k9)).q)=bG (aN (xs.map Fr4.q)) k9:=by rw[Ee hS9,kI (f:=Fr4.q) (by omega)]
  have hst:(((aN (xs.map Fr4.q)).take k9).flatMap dD).map AV.t++(dD ((bD xs (k9)).q)).map .t=(((aN (xs.map Fr4.q)).take (k9+1)).flatMap dD).map .t:=by rw[iO,mJ (by rw[hEl];omega),←hv9]
  have hA9:∀j,j<k9+1→¬bG (aN (xs.map Fr4.q)) j<0:=fun j hj=>by
   rcases Nat.lt_succ_iff_lt_or_eq.1 hj with h9 | h9
   ·exact hA j h9
   subst h9
   rw[←hv9];exact fun hq9=>h5 (Int.sign_neg_iff.2 (gC.2 hq9))
  exact⟨k9+1,by omega,⟨by omega,hA9⟩,aJ h0 [0,4] _ _ (by decide) ⟨rfl,rfl,rfl,rfl,rfl,trivial⟩ ⟨oe rfl rfl,bJ (congrArg (fun l=>some (⟨50,4,l⟩:Ob)) hst),rfl⟩⟩
 refine ex ?_;refine sq ?_;have hk0:k9=(aN (xs.map Fr4.q)).length:=by omega
 have htk:(aN (xs.map Fr4.q)).take k9=(aN (xs.map Fr4.q)):=List.take_of_length_le (by omega)
 have hAA:∀j,j<(xs.map Fr4.q).length→¬bG (aN (xs.map Fr4.q)) j<0:=fun j hj=>hA j (by omega)
 refine WP.sub (fz (i:=5) (k:=1) (t:=50) (z:=4) (n:=k9) (l:=((aN (xs.map Fr4.q)).take k9).flatMap dD) rfl rfl rfl (by rw[bV dK,htk,hk0])) ?_
 refine WP.sub (Tm (i:=5) (v:=.one (.t (.s false 50 4 k9 (((aN (xs.map Fr4.q)).take k9).flatMap dD)))) (v':=.one (.t (sQ false (dZ (aN (xs.map Fr4.q)))))) rfl rfl (by rw[htk,xK (n:=k9) hk0.symm])) ?_
 refine rl ?_;refine o1 ?_;refine nl ?_;refine sq ?_;refine rl ?_;refine o1 ?_;refine o1 ?_;refine MJ (m:=(dZ (aN (xs.map Fr4.q))).length) 2 (by omega) (DU _) ?_
 refine o1 ?_;refine nl ?_;refine sq ?_;refine rl ?_;refine ld ?_
 refine ca (zJ (Qn.of (p:=(aC (xs.map Fr4.q))) (hsz.mono (M:=68719476736) (by omega)))) Tj ⟨aB rfl,rfl⟩ (kF (fl (aC (xs.map Fr4.q)))) ?_
 refine ca (DT (Zn.of (k:=fl (aC (xs.map Fr4.q))) (Nat.le_trans hfs (by omega)))) KN ⟨aB rfl,rfl⟩ (kF (((fl (aC (xs.map Fr4.q))).natAbs:Nat):Int)) ?_
 refine al 3 ?_;refine st ?_;refine nl ?_;refine sq ?_;refine sq ?_;refine rl ?_;refine o1 ?_;refine nl ?_;refine bl ?_
 have hl0:(((fl (aC (xs.map Fr4.q))).natAbs:Nat):Int)=((((fl (aC (xs.map Fr4.q))).natAbs:Nat):Int)-fF (((aN (xs.map Fr4.q)).map fl).take (0))):=by rw[List.take_zero];exact(Int.sub_zero _).symm
 refine lp (γ:=Nat) (fun s=>cG [(4,.one (tv (.int .i64 ((aC (xs.map Fr4.q))).num.sign))),(5,.one (.t (sQ false (dZ (aN (xs.map Fr4.q)))))),(9,.one (.sl 0 0 ((dZ (aN (xs.map Fr4.q))).length))),(10,.one (.pt 1 0)),(8,.one (.sl 2 0 (s))),(11,.one (tv (.int .i64 ((s:Nat):Int))))]) (fun s=>[(⟨4,1,(bT (List.replicate (dZ (aN (xs.map Fr4.q))).length false)).map .t⟩:Ob),⟨34,0,[tv (.bool (aF (((((fl (aC (xs.map Fr4.q))).natAbs:Nat):Int)-fF (((aN (xs.map Fr4.q)).map fl).take (s)))))),.t (sU false (dg 4294967296 ((((fl (aC (xs.map Fr4.q))).natAbs:Nat):Int)-fF (((aN (xs.map Fr4.q)).map fl).take (s))).natAbs))]⟩,⟨34,2,((aT (((aN (xs.map Fr4.q)).map fl).take s)).flatMap (bS false)).map .t⟩].map some) (fun s=>s≤xs.length) (fun s=>xs.length-s) 0 (Nat.zero_le _) ((nr (i:=8) 4 34 2 rfl rfl rfl rfl).trans (aJ h0 [2,3,4] _ _ (by decide) ⟨rfl,rfl,rfl,rfl,rfl,rfl,trivial⟩ ⟨bJ rfl,oe rfl (congrArg (fun z:Int=>some (⟨34,0,[tv (.bool (aF z)),.t (sU false (dg 4294967296 z.natAbs))]⟩:Ob)) hl0),bJ rfl,rfl⟩)) ?_
 rintro i9 hi9;have hLl:=Tn (i:=i9) (K:=(((fl (aC (xs.map Fr4.q))).natAbs:Nat):Int)) (by rw[Int.natAbs_natCast];exact hfs) hEz hEl12
 refine sq ?_;refine sq ?_;refine rl ?_;(iterate 4 refine o1 ?_);refine nl ?_;refine bU rfl (fun h6=>?_) (fun h6=>?_)
 ·refine sk ?_;refine sq ?_;refine bl ?_;refine sq ?_;refine rl ?_;(iterate 4 refine o1 ?_)
  refine fQ ((Fr4.of (bG (aN (xs.map Fr4.q)) (i9))).tr false) (Ls (l:=(aN (xs.map Fr4.q))) (k:=i9) (by omega)) ?_
  refine ca (zJ (Qn.of (p:=(bG (aN (xs.map Fr4.q)) (i9))) ((hEz _ (eB (by omega))).mono (M:=68719476736) (by omega)))) Tj ⟨aB rfl,rfl⟩ (kF (fl (bG (aN (xs.map Fr4.q)) (i9)))) ?_
  refine bs 3 ?_
  refine eJ (j:=4) aA rfl rfl rfl rfl (.sl rfl (by rw[List.length_map,bV (dJ false),cU,List.length_take,List.length_map,hEl,Nat.min_eq_left (by omega)])) (.sl rfl rfl rfl) rfl rfl rfl (by omega) (by omega) ?_
  refine o1 ?_;refine nl ?_;have hfi:(dg 4294967296 (fl (bG (aN (xs.map Fr4.q)) (i9))).natAbs).length≤1000:=Nat.le_trans (mL _) (hEz _ (eB (by omega))).1
  refine rd [1,3,4] (fun i=>[6].contains i) mixed ?_
  refine aX 0 ?_;refine dv 1 ?_;refine dv 2 ?_;refine dv 3 ?_
  refine Sr 4 (us:=(bS false (.of (fl (bG (aN (xs.map Fr4.q)) (i9))))).map .t) (DV (ws:=aT (((aN (xs.map Fr4.q)).map fl).take i9)) (z:=.of (fl (bG (aN (xs.map Fr4.q)) (i9)))) (i:=i9) (by rw[cU,List.length_take,List.length_map,hEl];omega)) ?_
  refine aI 5 rfl (Ef (Zn.of (k:=((((fl (aC (xs.map Fr4.q))).natAbs:Nat):Int)-fF (((aN (xs.map Fr4.q)).map fl).take (i9)))) (Nat.le_trans hLl (by omega))) (Zn.of (k:=(fl (bG (aN (xs.map Fr4.q)) (i9)))) (Nat.le_trans hfi (by omega)))) To ⟨aB rfl,aB rfl,rfl⟩ (kF (((((fl (aC (xs.map Fr4.q))).natAbs:Nat):Int)-fF (((aN (xs.map Fr4.q)).map fl).take (i9)))-(fl (bG (aN (xs.map Fr4.q)) (i9))))) ?_
  refine dst 6 ?_;refine aO ?_;refine rl ?_;refine o1 ?_;refine o1 ?_;refine WL.cast (t:=56) (u':=.int .i64 ((i9+1:Nat):Int)) rfl (aL (by omega)) ?_
  refine o1 ?_;refine nl ?_
  have hst:((aT (((aN (xs.map Fr4.q)).map fl).take i9)).flatMap (bS false)).map .t++(bS false (.of (fl (bG (aN (xs.map Fr4.q)) (i9))))).map AV.t=((aT (((aN (xs.map Fr4.q)).map fl).take (i9+1))).flatMap (bS false)).map .t:=by rw[iO,Di,←Ir (by rw[hEl];omega),←oL (by rw[List.length_map,hEl];omega)]
  have hst2:((((fl (aC (xs.map Fr4.q))).natAbs:Nat):Int)-fF (((aN (xs.map Fr4.q)).map fl).take (i9)))-fl (bG (aN (xs.map Fr4.q)) (i9))=((((fl (aC (xs.map Fr4.q))).natAbs:Nat):Int)-fF (((aN (xs.map Fr4.q)).map fl).take (i9+1))):=by rw[Oy (by rw[List.length_map,hEl];omega),Ir (by rw[hEl];omega)];omega
  exact⟨i9+1,by omega,by omega,aJ h0 [0,1,4] _ _ (by decide) ⟨rfl,rfl,rfl,rfl,rfl,rfl,trivial⟩ ⟨bJ rfl,oe rfl (congrArg (fun z:Int=>some (⟨34,0,[tv (.bool (aF z)),.t (sU false (dg 4294967296 z.natAbs))]⟩:Ob)) hst2),bJ (congrArg (fun l=>some (⟨34,2,l⟩:Ob)) hst),rfl⟩⟩
 refine ex ?_;refine sq ?_;refine bl ?_;have hi0:i9=(aN (xs.map Fr4.q)).length:=by omega
 have hl1:((((fl (aC (xs.map Fr4.q))).natAbs:Nat):Int)-fF (((aN (xs.map Fr4.q)).map fl).take (i9)))=(eI (aN (xs.map Fr4.q))-((0:Nat):Int)):=by rw[List.take_of_length_le (by rw[List.length_map];omega),Tp hden];omega
 have hz1:aT (((aN (xs.map Fr4.q)).map fl).take i9)=aT (dS (aN (xs.map Fr4.q)) (0)):=by rw[Dj,List.take_of_length_le (by rw[List.length_map];omega)]
 have hg1:List.replicate (dZ (aN (xs.map Fr4.q))).length false=jR (aN (xs.map Fr4.q)) 0:=by rw[HU,gT]
 have hlf0:=kW hEd
 have hlf1:=sY hEd
 refine lp (γ:=Nat) (fun s=>cG [(4,.one (tv (.int .i64 ((aC (xs.map Fr4.q))).num.sign))),(5,.one (.t (sQ false (dZ (aN (xs.map Fr4.q)))))),(8,.one (.sl 0 0 (i9))),(9,.one (.sl 1 0 ((dZ (aN (xs.map Fr4.q))).length))),(10,.one (.pt 2 0))]) (fun s=>[(⟨34,2,((aT (dS (aN (xs.map Fr4.q)) (s))).flatMap (bS false)).map .t⟩:Ob),⟨4,1,(bT (jR (aN (xs.map Fr4.q)) s)).map .t⟩,⟨34,0,[tv (.bool (aF ((eI (aN (xs.map Fr4.q))-((s:Nat):Int))))),.t (sU false (dg 4294967296 (eI (aN (xs.map Fr4.q))-((s:Nat):Int)).natAbs))]⟩].map some) (fun s=>((s:Nat):Int)≤eI (aN (xs.map Fr4.q))) (fun s=>(eI (aN (xs.map Fr4.q))).toNat-s) 0 (hlf0) (aJ h0 [2,0,1] _ _ (by decide) ⟨rfl,rfl,rfl,rfl,rfl,trivial⟩ ⟨bJ (congrArg (fun l:List Zi=>some (⟨34,2,(l.flatMap (bS false)).map .t⟩:Ob)) hz1),bJ (congrArg (fun l:List Bool=>some (⟨4,1,(bT l).map .t⟩:Ob)) hg1),oe rfl (congrArg (fun z:Int=>some (⟨34,0,[tv (.bool (aF z)),.t (sU false (dg 4294967296 z.natAbs))]⟩:Ob)) hl1),rfl⟩) ?_
 rintro t9 ht9;refine sq ?_;refine sq ?_;refine rl ?_;refine ld ?_
 refine ca (kL (Zn.of (k:=(eI (aN (xs.map Fr4.q))-((t9:Nat):Int))) (Nat.le_trans (Eg hEd hEl12 ht9) (by omega)))) tD ⟨aB rfl,rfl⟩ (.one (tv (.int .i64 (eI (aN (xs.map Fr4.q))-((t9:Nat):Int)).sign))) ?_
 refine o1 ?_;refine nl ?_;refine bU rfl (fun h7=>?_) (fun h7=>?_)
 ·refine sk ?_;refine bl ?_;refine sq ?_;have htl:=Int.sign_pos_iff.1 h7
  have htn:t9<(aN (xs.map Fr4.q)).length:=by omega
  refine rl ?_;refine o1 ?_;refine nl ?_;refine sq ?_;refine sq ?_;refine rl ?_;refine o1 ?_;refine nl ?_;refine bl ?_
  refine lp (γ:=Nat×Int) (fun s=>cG [(4,.one (tv (.int .i64 ((aC (xs.map Fr4.q))).num.sign))),(5,.one (.t (sQ false (dZ (aN (xs.map Fr4.q)))))),(8,.one (.sl 0 0 (i9))),(9,.one (.sl 1 0 ((dZ (aN (xs.map Fr4.q))).length))),(10,.one (.pt 2 0)),(13,.one (tv (.int .i64 ((s.1:Nat):Int)))),(12,.one (tv (.int .i64 s.2)))]) (fun s=>[(⟨34,2,((aT (dS (aN (xs.map Fr4.q)) (t9))).flatMap (bS false)).map .t⟩:Ob),⟨4,1,(bT (jR (aN (xs.map Fr4.q)) t9)).map .t⟩,⟨34,0,[tv (.bool (aF ((eI (aN (xs.map Fr4.q))-((t9:Nat):Int))))),.t (sU false (dg 4294967296 (eI (aN (xs.map Fr4.q))-((t9:Nat):Int)).natAbs))]⟩].map some) (fun s=>s.1≤xs.length∧Bst (nR (aN (xs.map Fr4.q))) (aN (xs.map Fr4.q)).length t9 s.1 s.2) (fun s=>xs.length-s.1) (0,(-1)) ⟨Nat.zero_le _,Bst.zero⟩ (aJ h0 [0,1,2] _ _ (by decide) ⟨rfl,rfl,rfl,rfl,rfl,rfl,rfl,trivial⟩ ⟨bJ rfl,bJ rfl,oe rfl rfl,rfl⟩) ?_
  rintro⟨i8,b9⟩ ⟨hi8,hD⟩;dsimp only at hi8 hD⊢;refine sq ?_;refine sq ?_;refine rl ?_;(iterate 4 refine o1 ?_);refine nl ?_;refine bU rfl (fun h8=>?_) (fun h8=>?_)
  ·refine sk ?_;refine sq ?_;refine bl ?_;refine sq ?_;refine rd [1,2] (fun i=>[].contains i) mixed ?_
   refine dv 0 ?_;refine dv 1 ?_;refine dv 2 ?_;refine Lj 3 (KO (jR (aN (xs.map Fr4.q)) t9) (k:=i8) (by rw[nF];omega)) ?_
   refine dv 4 ?_;refine dv 5 ?_;refine WD.splitb (t:=85) rfl (fun h9=>?_) (fun h9=>?_)
   ·refine dv 6 ?_;refine dv 7 ?_;refine dv 8 ?_;refine WD.split (t:=88) rfl rfl (fun h10=>?_) (fun h10=>?_)
    ·refine dM 9 ?_;refine dM 10 ?_;refine dM 11 ?_;refine dM 12 ?_;refine dM 14 ?_;refine dM 15 ?_;refine dM 16 ?_;refine dM 17 ?_;refine dM 13 ?_;refine dM 18 ?_
     refine dM 19 ?_;refine dM 20 ?_;refine dv 21 ?_;refine dv 22 ?_;refine aO ?_;refine mF rfl ?_;refine rl ?_;refine o1 ?_;refine o1 ?_;refine nl ?_;refine rl ?_
     refine o1 ?_;refine o1 ?_;refine WL.cast (t:=79) (u':=.int .i64 ((i8+1:Nat):Int)) rfl (aL (by omega)) ?_
     refine o1 ?_;refine nl ?_
     exact⟨(i8+1,(i8:Int)),by dsimp only;omega,⟨by dsimp only;omega,hD.first (Is (show i8<(aN (xs.map Fr4.q)).length by omega) h9) h10⟩,aJ h0 [0,1,2] _ _ (by decide) ⟨rfl,rfl,rfl,rfl,rfl,rfl,rfl,trivial⟩ ⟨bJ rfl,bJ rfl,oe rfl rfl,rfl⟩⟩
    obtain⟨m9,hbm⟩:∃m:Nat,b9=(m:Int):=⟨b9.toNat,by omega⟩
    subst hbm;have hmi:=hD.lt
    refine dv 9 ?_;refine dv 10 ?_;refine dv 11 ?_;refine iE 12 ((Fr4.of (bG (aN (xs.map Fr4.q)) (i8))).tr false) (Ls (l:=(aN (xs.map Fr4.q))) (k:=i8) (by omega)) ?_
    refine dv 14 ?_;refine dv 15 ?_;refine dv 16 ?_;refine iE 17 ((Fr4.of (bG (aN (xs.map Fr4.q)) (m9))).tr false) (Ls (l:=(aN (xs.map Fr4.q))) (k:=m9) (by omega)) ?_
    refine aI 13 rfl (Ec (Qn.of (p:=(bG (aN (xs.map Fr4.q)) (i8))) ((hEz _ (eB (by omega))).mono (M:=68719476736) (by omega))) ((hEz _ (eB (by omega))).mono (by omega))) Tl ⟨aB rfl,rfl⟩ (qF (.of (fc (bG (aN (xs.map Fr4.q)) (i8))))) ?_
    refine aI 18 rfl (Ec (Qn.of (p:=(bG (aN (xs.map Fr4.q)) (m9))) ((hEz _ (eB (by omega))).mono (M:=68719476736) (by omega))) ((hEz _ (eB (by omega))).mono (by omega))) Tl ⟨aB rfl,rfl⟩ (qF (.of (fc (bG (aN (xs.map Fr4.q)) (m9))))) ?_
    refine aI 19 rfl (DP (Qn.of (p:=(fc (bG (aN (xs.map Fr4.q)) (i8)))) ((rC (hEz _ (eB (by omega)))).mono (M:=68719476736) (by omega))) (Qn.of (p:=(fc (bG (aN (xs.map Fr4.q)) (m9)))) ((rC (hEz _ (eB (by omega)))).mono (M:=68719476736) (by omega))) ((rC (hEz _ (eB (by omega)))).mono (by omega)) ((rC (hEz _ (eB (by omega)))).mono (by omega))) KP ⟨aB rfl,aB rfl,rfl⟩ (.one (tv (.int .i64 ((fc (bG (aN (xs.map Fr4.q)) (i8)))-(fc (bG (aN (xs.map Fr4.q)) (m9)))).num.sign))) ?_
    refine df 20 ?_;refine df 21 ?_;refine df 22 ?_;refine aO ?_;refine bU rfl (fun h11=>?_) (fun h11=>?_)
    ·refine rl ?_;refine o1 ?_;refine o1 ?_;refine nl ?_;refine rl ?_;refine o1 ?_;refine o1 ?_
     refine WL.cast (t:=79) (u':=.int .i64 ((i8+1:Nat):Int)) rfl (aL (by omega)) ?_
     refine o1 ?_;refine nl ?_
     exact⟨(i8+1,(i8:Int)),by dsimp only;omega,⟨by dsimp only;omega,hD.more (m:=m9) (Is (show i8<(aN (xs.map Fr4.q)).length by omega) h9) (by have h9:0<fc (bG (aN (xs.map Fr4.q)) i8)-fc (bG (aN (xs.map Fr4.q)) m9):=wL.1 (Int.sign_pos_iff.1 h11);show fc (bG (aN (xs.map Fr4.q)) m9)<fc (bG (aN (xs.map Fr4.q)) i8);grind)⟩,aJ h0 [0,1,2] _ _ (by decide) ⟨rfl,rfl,rfl,rfl,rfl,rfl,rfl,trivial⟩ ⟨bJ rfl,bJ rfl,oe rfl rfl,rfl⟩⟩
    refine sk ?_;refine rl ?_;refine o1 ?_;refine o1 ?_;refine WL.cast (t:=79) (u':=.int .i64 ((i8+1:Nat):Int)) rfl (aL (by omega)) ?_
    refine o1 ?_;refine nl ?_
    exact⟨(i8+1,(m9:Int)),by dsimp only;omega,⟨by dsimp only;omega,hD.stay (fun hq9=>h11 (Int.sign_pos_iff.2 (wL.2 (by have h8:fc (bG (aN (xs.map Fr4.q)) m9)<fc (bG (aN (xs.map Fr4.q)) i8):=hq9;show 0<fc (bG (aN (xs.map Fr4.q)) i8)-fc (bG (aN (xs.map Fr4.q)) m9);grind))))⟩,aJ h0 [0,1,2] _ _ (by decide) ⟨rfl,rfl,rfl,rfl,rfl,rfl,rfl,trivial⟩ ⟨bJ rfl,bJ rfl,oe rfl rfl,rfl⟩⟩
   refine dM 6 ?_;refine dM 7 ?_;refine dM 8 ?_;refine dM 9 ?_;refine dM 10 ?_;refine dM 11 ?_;refine dM 12 ?_;refine dM 14 ?_;refine dM 15 ?_;refine dM 16 ?_
   refine dM 17 ?_;refine dM 13 ?_;refine dM 18 ?_;refine dM 19 ?_;refine dM 20 ?_;refine dM 21 ?_;refine dv 22 ?_;refine aO ?_;refine gQ rfl ?_;refine sk ?_;refine rl ?_
   refine o1 ?_;refine o1 ?_;refine WL.cast (t:=79) (u':=.int .i64 ((i8+1:Nat):Int)) rfl (aL (by omega)) ?_
   refine o1 ?_;refine nl ?_
   exact⟨(i8+1,b9),by dsimp only;omega,⟨by dsimp only;omega,hD.given (Zh (show i8<(aN (xs.map Fr4.q)).length by omega) h9)⟩,aJ h0 [0,1,2] _ _ (by decide) ⟨rfl,rfl,rfl,rfl,rfl,rfl,rfl,trivial⟩ ⟨bJ rfl,bJ rfl,oe rfl rfl,rfl⟩⟩
  refine ex ?_;refine sq ?_;have hi7:i8=(aN (xs.map Fr4.q)).length:=by omega
  rw[hi7]at hD;have hb9:b9=(((nth (cA (aN (xs.map Fr4.q))) (t9)):Nat):Int):=hD.last htn
  subst hb9;have hlt9:(nth (cA (aN (xs.map Fr4.q))) (t9))<(aN (xs.map Fr4.q)).length:=pW (f:=nR (aN (xs.map Fr4.q))) htn
  have hlt8:(nth (cA (aN (xs.map Fr4.q))) (t9))<(dZ (aN (xs.map Fr4.q))).length:=by omega
  have hw9:(nth (cA (aN (xs.map Fr4.q))) (t9))<(aT (dS (aN (xs.map Fr4.q)) (t9))).length:=by rw[cU,iI];exact hlt9
  have hz9k:gS (aT (dS (aN (xs.map Fr4.q)) (t9))) (nth (cA (aN (xs.map Fr4.q))) (t9))=.of (bY (dS (aN (xs.map Fr4.q)) (t9)) (nth (cA (aN (xs.map Fr4.q))) (t9))):=pX (by rw[iI];exact hlt9)
  have hK0:=It (t:=t9) hEz hlt9
  refine rl ?_;(iterate 3 refine o1 ?_)
  refine sX (HV (jR (aN (xs.map Fr4.q)) t9) (k:=(nth (cA (aN (xs.map Fr4.q))) (t9))) (v:=true) (by rw[nF];omega)) (KQ (jR (aN (xs.map Fr4.q)) t9) (by rw[nF];omega)) ?_
  refine nl ?_;refine sq ?_;refine rd [0,2] (fun i=>[9].contains i) mixed ?_
  refine dv 0 ?_;refine dv 1 ?_;refine dv 2 ?_;refine dv 3 ?_;refine dv 4 ?_
  refine Sr 5 (us:=(bS false (.of (bY (dS (aN (xs.map Fr4.q)) (t9)) (nth (cA (aN (xs.map Fr4.q))) (t9))))).map .t) (Wl (z:=.of (bY (dS (aN (xs.map Fr4.q)) (t9)) (nth (cA (aN (xs.map Fr4.q))) (t9)))) hw9 hz9k) ?_
  refine aI 6 rfl (mA (n:=1) (by omega) (by omega)) pB ⟨a1 rfl,rfl⟩ (kF 1) ?_
  refine aI 7 rfl (mO (Zn.of (k:=(bY (dS (aN (xs.map Fr4.q)) (t9)) (nth (cA (aN (xs.map Fr4.q))) (t9)))) (Nat.le_trans hK0 (by omega))) (Zn.of (k:=1) (by decide))) tF ⟨aB rfl,aB rfl,rfl⟩ (kF ((bY (dS (aN (xs.map Fr4.q)) (t9)) (nth (cA (aN (xs.map Fr4.q))) (t9)))+1)) ?_
  refine dv 8 ?_;refine Dd 9 (us:=(bS false (.of ((bY (dS (aN (xs.map Fr4.q)) (t9)) (nth (cA (aN (xs.map Fr4.q))) (t9)))+1))).map .t) (Oz hw9) (Wm hw9) ?_;refine aO ?_
  refine rd [2] (fun i=>[2,3].contains i) mixed ?_
  refine aX 0 ?_;refine aI 1 rfl (mA (n:=1) (by omega) (by omega)) pB ⟨a1 rfl,rfl⟩ (kF 1) ?_
  refine aI 2 rfl (Ef (Zn.of (k:=(eI (aN (xs.map Fr4.q))-((t9:Nat):Int))) (Nat.le_trans (Eg hEd hEl12 ht9) (by omega))) (Zn.of (k:=1) (by decide))) To ⟨aB rfl,aB rfl,rfl⟩ (kF ((eI (aN (xs.map Fr4.q))-((t9:Nat):Int))-1)) ?_
  refine dst 3 ?_;refine aO ?_
  have hst:(aT (dS (aN (xs.map Fr4.q)) (t9))).set (nth (cA (aN (xs.map Fr4.q))) (t9)) (.of ((bY (dS (aN (xs.map Fr4.q)) (t9)) (nth (cA (aN (xs.map Fr4.q))) (t9)))+1))=aT (dS (aN (xs.map Fr4.q)) (t9+1)):=by rw[uM,Dk (by omega)]
  have hst2:(eI (aN (xs.map Fr4.q))-((t9:Nat):Int))-1=(eI (aN (xs.map Fr4.q))-((t9+1:Nat):Int)):=by omega
  have hst3:=HW (l:=(aN (xs.map Fr4.q))) (t:=t9) (by omega)
  exact⟨t9+1,by omega,by omega,aJ h0 [0,1,2] _ _ (by decide) ⟨rfl,rfl,rfl,rfl,rfl,trivial⟩ ⟨bJ (congrArg (fun l:List Zi=>some (⟨34,2,(l.flatMap (bS false)).map .t⟩:Ob)) hst),bJ (congrArg (fun l:List Bool=>some (⟨4,1,(bT l).map .t⟩:Ob)) hst3),oe rfl (congrArg (fun z:Int=>some (⟨34,0,[tv (.bool (aF z)),.t (sU false (dg 4294967296 z.natAbs))]⟩:Ob)) hst2),rfl⟩⟩
 refine ex ?_;refine sq ?_;refine sq ?_;refine rl ?_;refine o1 ?_;refine nl ?_;refine bl ?_
 have ht0:aT (dS (aN (xs.map Fr4.q)) (t9))=aT (gP (fun x:Int=>-x) (eV (aN (xs.map Fr4.q))) (0)):=by rw[HZ,eV,show t9=(eI (aN (xs.map Fr4.q))).toNat from Tk ht9 h7]
 have hlg:(eV (aN (xs.map Fr4.q))).length=xs.length:=by rw[pY,hEl]
 refine lp (γ:=Nat) (fun s=>cG [(4,.one (tv (.int .i64 ((aC (xs.map Fr4.q))).num.sign))),(8,.one (.sl 0 0 (i9))),(14,.one (tv (.int .i64 ((s:Nat):Int))))]) (fun s=>[(⟨34,2,((aT (gP (fun x:Int=>-x) (eV (aN (xs.map Fr4.q))) (s))).flatMap (bS false)).map .t⟩:Ob)].map some) (fun s=>s≤xs.length∧(s=0∨(aC (xs.map Fr4.q))<0)) (fun s=>xs.length-s) 0 ⟨Nat.zero_le _,.inl rfl⟩ (aJ h0 [0] _ _ (by decide) ⟨rfl,rfl,rfl,trivial⟩ ⟨bJ (congrArg (fun l:List Zi=>some (⟨34,2,(l.flatMap (bS false)).map .t⟩:Ob)) ht0),rfl⟩) ?_
 rintro e9 ⟨he9,hE⟩;refine sq ?_;refine sq ?_;refine rl ?_;(iterate 5 refine o1 ?_);refine WL.split (t:=123) rfl (fun h12=>?_) (fun h12=>?_)
 ·(iterate 3 refine o1 ?_);refine nl ?_;refine bU rfl (fun h13=>?_) (fun h13=>?_)
  ·refine sk ?_;refine sq ?_;refine bl ?_;have hw8:e9<(eV (aN (xs.map Fr4.q))).length:=by omega
   have hw9:e9<(aT (gP (fun x:Int=>-x) (eV (aN (xs.map Fr4.q))) (e9))).length:=by rw[cU,lP];exact hw8
   have hz9k:gS (aT (gP (fun x:Int=>-x) (eV (aN (xs.map Fr4.q))) (e9))) e9=.of (bY (eV (aN (xs.map Fr4.q))) (e9)):=(pX (by rw[lP];exact hw8)).trans (by rw[Ig hw8])
   have hKE:=zK hEz _ (lQ hw8)
   refine rl ?_;(iterate 5 refine o1 ?_)
   refine CX (us:=(bS false (.of (bY (eV (aN (xs.map Fr4.q))) (e9)))).map .t) (Wl (z:=.of (bY (eV (aN (xs.map Fr4.q))) (e9))) hw9 hz9k) ?_
   refine ca (tE (Zn.of (k:=(bY (eV (aN (xs.map Fr4.q))) (e9))) (Nat.le_trans hKE (by omega)))) Dw ⟨aB rfl,rfl⟩ (kF (-(bY (eV (aN (xs.map Fr4.q))) (e9)))) ?_
   refine o1 ?_;refine sX (us:=(bS false (.of (-(bY (eV (aN (xs.map Fr4.q))) (e9))))).map .t) (Oz hw9) (Wm hw9) ?_;refine nl ?_;refine rl ?_;refine o1 ?_;refine o1 ?_
   refine WL.cast (t:=128) (u':=.int .i64 ((e9+1:Nat):Int)) rfl (aL (by omega)) ?_
   refine o1 ?_;refine nl ?_
   have hst:(aT (gP (fun x:Int=>-x) (eV (aN (xs.map Fr4.q))) (e9))).set e9 (.of (-(bY (eV (aN (xs.map Fr4.q))) (e9))))=aT (gP (fun x:Int=>-x) (eV (aN (xs.map Fr4.q))) (e9+1)):=by rw[uM,←Wi (f:=(fun x:Int=>-x)) hw8]
   exact⟨e9+1,by omega,⟨by omega,.inr (kA.1 h13)⟩,aJ h0 [0] _ _ (by decide) ⟨rfl,rfl,rfl,trivial⟩ ⟨bJ (congrArg (fun l:List Zi=>some (⟨34,2,(l.flatMap (bS false)).map .t⟩:Ob)) hst),rfl⟩⟩
  refine ex ?_;refine sq ?_;have hres:(gP (fun x:Int=>-x) (eV (aN (xs.map Fr4.q))) (e9))=cK (xs.map Fr4.q):=by
   rw[Iu hden hAA];by_cases hS:(aC (xs.map Fr4.q))<0
   ·rw[if_pos hS]
    exact absurd (kA.2 hS) h13
   rw[if_neg hS]
   have e0:e9=0:=hE.resolve_right hS
   rw[e0];rfl
  have hln:(aT (cK (xs.map Fr4.q))).length=i9:=by rw[cU,←hres,lP];omega
  refine WP.sub (fz (i:=8) (k:=0) (t:=34) (z:=2) (n:=i9) (l:=(aT (gP (fun x:Int=>-x) (eV (aN (xs.map Fr4.q))) (e9))).flatMap (bS false)) rfl rfl rfl (by rw[bV (dJ false),hres,hln])) ?_
  refine rl ?_;refine o1 ?_;refine o1 ?_;refine nl ?_;refine rt ?_
  exact en (.inl rfl) rfl (aP (.one (.id rfl))) (by decide) (fun h=>by cases h) (by rw[hres];unfold sZ;rw[hln];rfl)
 refine eO ?_;refine eO ?_;refine o1 ?_;refine nl ?_;refine gQ rfl ?_;refine ex ?_;refine sq ?_
 have hres:(gP (fun x:Int=>-x) (eV (aN (xs.map Fr4.q))) (e9))=cK (xs.map Fr4.q):=by
  rw[Iu hden hAA];by_cases hS:(aC (xs.map Fr4.q))<0
  ·rw[if_pos hS]
   exact Ii (by omega)
  rw[if_neg hS]
  have e0:e9=0:=hE.resolve_right hS
  rw[e0];rfl
 have hln:(aT (cK (xs.map Fr4.q))).length=i9:=by rw[cU,←hres,lP];omega
 refine WP.sub (fz (i:=8) (k:=0) (t:=34) (z:=2) (n:=i9) (l:=(aT (gP (fun x:Int=>-x) (eV (aN (xs.map Fr4.q))) (e9))).flatMap (bS false)) rfl rfl rfl (by rw[bV (dJ false),hres,hln])) ?_
 refine rl ?_;refine o1 ?_;refine o1 ?_;refine nl ?_;refine rt ?_
 exact en (.inl rfl) rfl (aP (.one (.id rfl))) (by decide) (fun h=>by cases h) (by rw[hres];unfold sZ;rw[hln];rfl)
end Go.Proofs.YthmgbcdidlkpoaaGreat
