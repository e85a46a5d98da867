/- Part 11 of a proof: Q5 to A6. -/
import Derived.Test.YthmgbcdidlkpoaaGreatM10
import Derived.Test.YthmgbcdidlkpoaaGreatM9
import Derived.Test.YthmgbcdidlkpoaaGreatM5
import Derived.Test.YthmgbcdidlkpoaaGreatM6
import Derived.ProofKit
import Derived.ChangeOld
import Derived.Deep.Slices
import Derived.Deep.Strs
import Derived.Test.YthmgbcdidlkpoaaGreatM7
set_option maxRecDepth 100000
set_option linter.unusedVariables false
set_option linter.unusedSimpArgs false
namespace Go.Proofs.YthmgbcdidlkpoaaGreat
open Go Go.RowKit
theorem Oa {xs:List Fr4}{k:Nat}(h:k<xs.length):aO (xs.map Fr4.q) k=(bJ xs k).q:=gS h
theorem Oc {xs:List Fr4}{i k:Nat}(hi:i<xs.length) (hk:k<xs.length):yQ (eV (xs.map Fr4.q)) i k=if(fc (bJ xs k).q-fc (bJ xs i).q).num.sign≠0 then(fc (bJ xs k).q-fc (bJ xs i).q).num.sign else if i<k then-1 else if k<i then 1 else 0:=by
 unfold yQ eV
 rw[Oa hi,Oa hk]
theorem GV {xs:List Fr4}{i k:Nat}(hx:∀x∈xs,x.ok) (hz:∀x∈xs,Sz 1000 x.q) (hl:xs.length≤12) (hi:i<xs.length) (hk:k<xs.length):aC true Tryz.prog 95 [] [.one (tv (.int .i64 ((i:Nat):Int))),.one (tv (.int .i64 ((k:Nat):Int))),.one (.t (.p false 42 [sQ false xs]))] (aM (.one (tv (.int .i64 (yQ (eV (xs.map Fr4.q)) i k))))):=by
 refine bR Tryz.func95 rfl Tryz.ntmps95 rfl aA rfl fun N9 w9 c0 h0=>?_
 refine WP.sub (LQ (i:=2) rfl rfl) ?_;refine sq ?_;refine rl ?_;refine o1 ?_;refine nl ?_;refine sq ?_;refine sq ?_;refine rd [] (fun i=>[13].contains i) mixed ?_
 refine dv 0 ?_;refine gE 1 ([sQ false xs]) rfl ?_;refine dv 2 ?_;refine dv 3 ?_;refine gE 4 ((bJ xs (k)).tr false) (iG xs (k:=k) (by omega)) ?_
 refine dv 6 ?_;refine gE 7 ([sQ false xs]) rfl ?_;refine dv 8 ?_;refine dv 9 ?_;refine gE 10 ((bJ xs (i)).tr false) (iG xs (k:=i) (by omega)) ?_
 refine aI 5 rfl (No ⟨hx _ (bP (by omega)),rfl⟩) CQ ⟨aB rfl,rfl⟩ (qF (.of (fc (bJ xs (k)).q))) ?_
 refine aI 11 rfl (No ⟨hx _ (bP (by omega)),rfl⟩) CQ ⟨aB rfl,rfl⟩ (qF (.of (fc (bJ xs (i)).q))) ?_
 refine aI 12 rfl (Vr (Qn.of (p:=(fc (bJ xs (k)).q)) (Vz (hz _ (bP (by omega))))) (Qn.of (p:=(fc (bJ xs (i)).q)) (Vz (hz _ (bP (by omega)))))) CC ⟨aB rfl,aB rfl,rfl⟩ (.one (tv (.int .i64 ((fc (bJ xs (k)).q)-(fc (bJ xs (i)).q)).num.sign))) ?_
 refine dI 13 (by kernel_rfl) rfl rfl aA rfl (by trivial) ?_ (fun h=>by first | rfl | cases h)
 refine aN ?_;refine sq ?_;refine rl ?_;refine o1 ?_;refine o1 ?_;refine nl ?_;refine bX rfl (fun h1=>?_) (fun h1=>?_)
 ·refine sq ?_;refine rl ?_;refine o1 ?_;refine o1 ?_;refine nl ?_;refine rt ?_;have e1:=Oc (xs:=xs) hi hk
  exact en (.inl rfl) rfl (aT (cA _)) (by decide) (fun _=>trivial) (congrArg (fun z=>FV.one (tv (.int .i64 z))) (by rw[e1,if_pos h1]))
 refine sk ?_;refine sq ?_;refine rl ?_;refine o1 ?_;refine o1 ?_
 refine ca (Nu (x:=(i:Int)) (y:=(k:Int))) JU ⟨a1 rfl,a1 rfl,rfl⟩ (.one (tv (.int .i64 (if(i:Int)<k then-1 else if(k:Int)<i then 1 else 0)))) ?_;refine o1 ?_
 refine nl ?_;refine rt ?_;have e1:=Oc (xs:=xs) hi hk
 exact en (.inl rfl) rfl (aT (cA _)) (by decide) (fun _=>trivial) (congrArg (fun z=>FV.one (tv (.int .i64 z))) (by rw[e1,if_neg h1];simp only[Int.ofNat_lt]))
theorem CS {zs:List Zi}{n L:Nat}(hn:zs.length=n) (hz:∀a∈zs,ZL L a) (hL:L≤1000000) (hl:zs.length≤1000000):aC true Tryz.prog 66 [] [.one (.t (.s false 24 2 n (zs.flatMap (dD false))))] (aM (kO (cU zs))):=by
 subst hn
 exact Nw hz hL hl
theorem Yj {xs:List Nat}{m n:Nat}{cf:Nat→Nat→Int}{lt:Nat→Nat→Bool}{fd:FuncId}{fst caps:List Tr}(hn:xs.length=n) (hok:CallOk Tryz.prog fd) (hd:∀x y,x<m→y<m→aC true Tryz.prog fd [] (cX fst++[.one (tv (.int .i64 ((x:Nat):Int))),.one (tv (.int .i64 ((y:Nat):Int)))]++cX caps) (aM (.one (tv (.int .i64 (cf x y)))))) (hlt:∀x y,decide (cf x y<0)=lt x y) (hm:∀z∈xs,z<m) (hl:n<20):aC false Tryz.prog 94 [⟨3,1,(cC xs).map .t⟩] [.one (.sl 0 0 n),.one (.t (.f fd fst caps))] (Rt [⟨3,1,(cC (gX lt xs)).map .t⟩] (.tup [])):=by
 subst hn
 exact CJ hok hd hlt hm hl
theorem CT (ws:List Zi):(fB ws).take (ws.flatMap (dD true)).length=(ws.flatMap (dD true)).map .t:=List.take_of_length_le (by simp[fB])
theorem Od {xs:List Fr4}{k:Nat}(h:k<xs.length):aV ((xs.map Fr4.q).map fl) k=fl (bJ xs k).q:=by simp[aV,bJ,h]
theorem CU {l:List Rat}(h:∀q∈l,Sz 1000 q):∀a∈aX (l.map fl),ZL 1001 a:=fun a ha=>by
 obtain⟨k,hk,rfl⟩:=List.mem_map.1 ha
 obtain⟨q,hq,rfl⟩:=List.mem_map.1 hk
 exact⟨aH (by omega) _,Nat.le_trans (Nat.le_trans (Dh q) (h q hq).1) (by omega)⟩
theorem Yk (l:List Rat):cU (aX (l.map fl))=gZ (l.map fl):=Ic _
theorem Yl {l:List Rat}{tot:Int}(hn:(aX (l.map fl)).length≤12) (hz:∀a∈aX (l.map fl),ZL 1001 a) (_:(aE l).den=1) (hs:∀q∈l,Sz 1000 q) (hl:l.length≤12) (ht:tot=(aE l).num):(dg 4294967296 tot.natAbs).length≤300000000000∧(dg 4294967296 (cU (aX (l.map fl))).natAbs).length≤300000000000:=by
 have h1:=At (k:=(aX (l.map fl)).length) hz (by omega)
 rw[List.take_length]at h1
 have h2:=(uC hs).1
 have h3:l.length*(1000+1)≤12*1001:=Nat.mul_le_mul hl (Nat.le_refl _)
 rw[ht]
 exact⟨by omega,by omega⟩
theorem Oe {l:List Rat}{tot:Int}(ht:tot=(aE l).num):tot-cU (aX (l.map fl))=jM l:=by rw[Yk,ht];rfl
theorem Ym {l:List Rat}{tot:Int}(_:(aX (l.map fl)).length≤12) (_:∀a∈aX (l.map fl),ZL 1001 a) (hd:(aE l).den=1) (_:∀q∈l,Sz 1000 q) (hl:l.length≤12) (ht:tot=(aE l).num):(dg 4294967296 (tot-cU (aX (l.map fl))).natAbs).length≤137438953472:=by
 rw[Oe ht]
 have h1:=kM hd
 have h2:=pN hd
 have h3:(dg 4294967296 (jM l).natAbs).length≤1:=bY (by omega) (show(jM l).natAbs<4294967296^1 by omega)
 omega
theorem GW {l:List Rat}{tot:Int}(_:(aX (l.map fl)).length≤12) (hd:(aE l).den=1) (ht:tot=(aE l).num) (hl:l.length≤12):(if jT (tot-cU (aX (l.map fl)))then tot-cU (aX (l.map fl))else 0)=(((jM l).toNat:Nat):Int):=by
 rw[Oe ht]
 have h1:=kM hd
 have h2:=pN hd
 have h3:jT (jM l)=true:=decide_eq_true (by omega)
 rw[if_pos h3]
 omega
theorem CV {l:List Rat}{t i n:Nat}(hs:∀q∈l,Sz 1000 q) (hi:i<n) (hn:l.length=n):(dg 4294967296 (aV (fC l t) i).natAbs).length≤300000000000:=by
 subst hn
 rw[kB hi]
 have h1:=Dh (aO l i)
 have h2:=(hs _ (iH hi)).1
 have h4:(dg 4294967296 (fl (aO l i)+if i∈(cM l).take t then 1 else 0).natAbs).length≤1002:=by
  have h5:=gK (fl (aO l i)) (if i∈(cM l).take t then 1 else 0)
  have h6:(dg 4294967296 (if i∈(cM l).take t then(1:Int)else 0).natAbs).length≤1:=by split <;> decide
  omega
 omega
theorem Av {xs:List Fr4}{tot:Int}(hx:∀x∈xs,x.ok) (hz:∀x∈xs,Sz 1000 x.q) (hz9:∀q∈(xs.map Fr4.q),Sz 1000 q) (hl:xs.length≤12) (hl9:(xs.map Fr4.q).length≤12) (hden:(aE (xs.map Fr4.q)).den=1) (htot:tot=(aE (xs.map Fr4.q)).num):aC false Tryz.prog 53 [] [.agg [.t (sQ false xs)],kF tot] (aM (.one (.t (wZ 24 (aX (iB (xs.map Fr4.q))))))):=by
 refine bR Tryz.func53 rfl Tryz.ntmps53 rfl aA rfl fun N9 w9 c0 h0=>?_
 have hll:(xs.map Fr4.q).length=xs.length:=List.length_map ..
 have hfl9:(aX ((xs.map Fr4.q).map fl)).length=xs.length:=by simp[aX]
 have hlf0:=kM hden
 have hlf1:=pN hden
 have hzf:∀a∈aX ((xs.map Fr4.q).map fl),ZL 1001 a:=CU fun q hq=>(by obtain⟨x,hx9,rfl⟩:=List.mem_map.1 hq;exact hz x hx9)
 have hT:=Yl (by rw[hfl9];omega) hzf hden hz9 hl9 htot
 have hT2:=Ym (by rw[hfl9];omega) hzf hden hz9 hl9 htot
 refine sq ?_;refine rl ?_;refine bx 0 ?_;refine bx 1 ?_;refine o1 ?_;refine nl ?_;refine sq ?_;refine rl ?_;refine o1 ?_;refine nl ?_;refine sq ?_;refine rl ?_;refine o1 ?_;refine nl ?_
 refine sq ?_;refine sq ?_;refine rl ?_;refine o1 ?_;refine ld ?_;refine o1 ?_;refine o1 ?_;refine nl ?_;refine bl ?_
 refine lp (γ:=Nat) (fun k=>cH [(2,.one (.pt 0 0)),(3,.one (.pt 1 0)),(14,.one (.t (sQ false xs))),(15,.one (tv (.int .i64 ((xs.length:Nat):Int)))),(5,.one (.sl 2 0 (k))),(6,.one (.sl 3 0 (k))),(16,.one (tv (.int .i64 ((k:Nat):Int))))]) (fun k=>[(⟨42,0,[.t (sQ false xs)]⟩:Ob),⟨24,0,[tv (.bool (aF (tot))),.t (sU false (dg 4294967296 (tot).natAbs))]⟩,⟨24,2,fB (aX (((xs.map Fr4.q).map fl).take k))⟩,⟨3,1,(cC (List.range k)).map .t⟩].map some) (fun k=>k≤xs.length) (fun k=>xs.length-k) 0 (Nat.zero_le _) (((nr (i:=5) 2 24 2 rfl rfl rfl rfl).trans (nr (i:=6) 3 3 1 rfl rfl rfl rfl)).trans (aL h0 [0,1,2,3] _ _ (by decide) ⟨rfl,rfl,rfl,rfl,rfl,rfl,rfl,trivial⟩ ⟨oe rfl rfl,oe rfl rfl,cB rfl,cB rfl,rfl⟩)) fun k hk=>?_
 refine sq ?_;refine rl ?_;refine o1 ?_;refine nl ?_;refine sq ?_;refine bX rfl (fun h1=>?_) (fun h1=>?_)
 ·refine sk ?_;refine sq ?_;refine bl ?_;refine sq ?_;refine rl ?_;refine o1 ?_;refine o1 ?_;refine fS ((bJ xs (k)).tr false) (iG xs (k:=k) (by omega)) ?_
  refine al 4 ?_;refine o1 ?_;refine st ?_;refine nl ?_;refine rl ?_;refine o1 ?_;refine ld ?_;refine fG 5 (yO ⟨hx _ (bP (by omega)),rfl⟩) Sm ⟨aB rfl,rfl⟩ ?_
  refine bs 6 ?_
  refine gC (j:=7) (n:=k) (m:=1) aA rfl rfl rfl rfl (.sl rfl (by rw[kC,dP,List.length_take,List.length_map,hll,Nat.min_eq_left (by omega)])) (.sl rfl rfl rfl) rfl rfl rfl (by omega) (by omega) ?_
  refine WL.sub (LR (j:=7) (k1:=5) (e:=24) (ws:=aX (((xs.map Fr4.q).map fl).take k)) (z:=.of (fl (bJ xs (k)).q)) rfl rfl rfl) ?_;refine o1 ?_;refine o1 ?_;refine bs 8 ?_
  refine gC (j:=9) (n:=k) (m:=1) aA rfl rfl rfl rfl (.sl rfl (by rw[List.length_map,eX,List.length_range,Nat.mul_one])) (.sl rfl rfl rfl) rfl rfl rfl (by omega) (by omega) ?_
  refine o1 ?_;refine o1 ?_;refine nl ?_;refine rl ?_;refine o1 ?_;refine WL.cast (t:=30) (u':=.int .i64 ((k+1:Nat):Int)) rfl (aK (by omega)) ?_
  refine o1 ?_;refine nl ?_
  have hst:aX (((xs.map Fr4.q).map fl).take k)++[Zi.of (fl (bJ xs (k)).q)]=aX (((xs.map Fr4.q).map fl).take (k+1)):=by rw[Sn,Aw (by rw[List.length_map,hll];omega),Od (by omega)]
  exact⟨k+1,by omega,by omega,aL h0 [0,1,7,9] _ _ (by decide) ⟨rfl,rfl,rfl,rfl,rfl,rfl,rfl,trivial⟩ ⟨oe rfl rfl,oe rfl rfl,cB (congrArg (fun l=>some (⟨24,2,fB l⟩:Ob)) hst),kD rfl (eY (List.range k) [k]) List.range_succ.symm,rfl⟩⟩
 refine ex ?_;refine sq ?_;have hk9:k=xs.length:=by omega
 have hfk:((xs.map Fr4.q).map fl).take k=((xs.map Fr4.q).map fl):=List.take_of_length_le (by rw[List.length_map,hll];omega)
 refine WP.sub (LS (i:=2) (k:=0) (t:=42) (l:=[sQ false xs]) rfl rfl rfl (.one .sl)) ?_;refine rl ?_;refine o1 ?_;refine o1 ?_
 refine cl 4 [3] (Yj (xs:=List.range k) (n:=k) (m:=xs.length) (cf:=yQ (eV (xs.map Fr4.q))) (lt:=fT (eV (xs.map Fr4.q))) (fst:=[]) (caps:=[.p false 42 [sQ false xs]]) List.length_range JV (fun x y h1 h2=>GV hx hz hl h1 h2) (Xy _) (fun z h=>by have:=List.mem_range.1 h;omega) (by omega)) JW ⟨cB rfl,rfl⟩ ⟨rfl,rfl,rfl⟩ (ok:=[some ⟨3,1,(cC (gX (fT (eV (xs.map Fr4.q))) (List.range k))).map .t⟩]) ⟨cB rfl,rfl⟩ ?_
 refine nl ?_;refine sq ?_;have hordl:(cM (xs.map Fr4.q)).length=xs.length:=by unfold cM;rw[fW,hll]
 have hord:gX (fT (eV (xs.map Fr4.q))) (List.range k)=(cM (xs.map Fr4.q)):=by unfold cM fD;rw[hll,hk9]
 refine WP.sub (aL h0 [1,2,3] [(3,.one (.pt 0 0)),(5,.one (.sl 1 0 (xs.length))),(6,.one (.sl 2 0 (xs.length)))] [(⟨24,0,[tv (.bool (aF (tot))),.t (sU false (dg 4294967296 (tot).natAbs))]⟩:Ob),⟨24,2,fB (aX ((xs.map Fr4.q).map fl))⟩,⟨3,1,(cC (cM (xs.map Fr4.q))).map .t⟩] (by decide) ⟨rfl,CO hk9,CO hk9,trivial⟩ ⟨oe rfl rfl,cB (congrArg (fun l=>some (⟨24,2,fB (aX l)⟩:Ob)) hfk),cB (congrArg (fun l:List Nat=>some (⟨3,1,(cC l).map .t⟩:Ob)) hord),rfl⟩) ?_
 refine rd [0] (fun i=>[9].contains i) mixed ?_
 refine aU 0 ?_;refine dv 1 ?_
 refine aI 2 rfl (CS (zs:=aX ((xs.map Fr4.q).map fl)) (n:=xs.length) (L:=1001) (by simp[aX]) hzf (by omega) (by rw[hfl9];omega)) CW ⟨vF rfl (.sr rfl rfl (CT _) (by rw[cV (iS true),hfl9]) (qT _)),rfl⟩ (kF (cU (aX ((xs.map Fr4.q).map fl)))) ?_
 refine aI 3 rfl (Wa (Zg.of (k:=tot) hT.1) (Zg.of (k:=(cU (aX ((xs.map Fr4.q).map fl)))) hT.2)) CX ⟨aB rfl,aB rfl,rfl⟩ (kF (tot-(cU (aX ((xs.map Fr4.q).map fl))))) ?_
 refine aI 4 rfl (Df (Zn.of (k:=(tot-(cU (aX ((xs.map Fr4.q).map fl))))) hT2)) CY ⟨aB rfl,rfl⟩ (.tup [.one (tv (.int .i64 (if jT (tot-(cU (aX ((xs.map Fr4.q).map fl))))then(tot-(cU (aX ((xs.map Fr4.q).map fl))))else 0))),.one (tv (.bool (jT (tot-(cU (aX ((xs.map Fr4.q).map fl)))))))]) ?_
 refine df 5 ?_;refine df 6 ?_;refine WD.cast (t:=40) (u':=.int .i64 (((jM (xs.map Fr4.q)).toNat:Nat):Int)) rfl (aK (GW (by rw[hfl9];omega) hden htot hl9)) ?_
 refine df 7 ?_;refine dI 8 (by kernel_rfl) rfl rfl aA rfl (by trivial) ?_ (fun h=>by first | rfl | cases h)
 refine dI 9 (by kernel_rfl) rfl rfl aA rfl (by trivial) ?_ (fun h=>by first | rfl | cases h)
 refine aN ?_;refine sq ?_;refine sq ?_;refine rl ?_;(iterate 5 refine o1 ?_);refine nl ?_;refine bl ?_
 have hinc0:aX ((xs.map Fr4.q).map fl)=aX (fC (xs.map Fr4.q) (0)):=by rw[Di]
 refine lp (γ:=Nat) (fun t=>cH [(5,.one (.sl 0 0 (xs.length))),(44,.one (.sl 1 0 ((jM (xs.map Fr4.q)).toNat))),(45,.one (tv (.int .i64 (((jM (xs.map Fr4.q)).toNat:Nat):Int)))),(46,.one (tv (.int .i64 ((t:Nat):Int))))]) (fun t=>[(⟨24,2,fB (aX (fC (xs.map Fr4.q) (t)))⟩:Ob),⟨3,1,(cC (cM (xs.map Fr4.q))).map .t⟩].map some) (fun t=>t≤(jM (xs.map Fr4.q)).toNat) (fun t=>(jM (xs.map Fr4.q)).toNat-t) 0 (Nat.zero_le _) (aL h0 [1,2] _ _ (by decide) ⟨rfl,rfl,rfl,rfl,trivial⟩ ⟨cB (congrArg (fun l=>some (⟨24,2,fB l⟩:Ob)) hinc0),cB rfl,rfl⟩) fun t ht=>?_
 refine sq ?_;refine rl ?_;refine o1 ?_;refine nl ?_;refine sq ?_;refine bX rfl (fun h2=>?_) (fun h2=>?_)
 ·refine sk ?_;refine sq ?_;refine bl ?_;refine sq ?_;refine rl ?_;refine o1 ?_;refine Wb (jL (cM (xs.map Fr4.q)) (k:=t) (by omega)) ?_
  refine o1 ?_;refine nl ?_
  have hlt9:(nth (cM (xs.map Fr4.q)) (t))<xs.length:=by have h9:(nth (cM (xs.map Fr4.q)) (t))<(xs.map Fr4.q).length:=Dj (f:=eV (xs.map Fr4.q)) (n:=(xs.map Fr4.q).length) (t:=t) (by rw[hll];omega);rwa[hll]at h9
  have hw9:(nth (cM (xs.map Fr4.q)) (t))<(aX (fC (xs.map Fr4.q) (t))).length:=by rw[dP,iU,hll];exact hlt9
  have hz9k:lI (aX (fC (xs.map Fr4.q) (t))) (nth (cM (xs.map Fr4.q)) (t))=.of (aV (fC (xs.map Fr4.q) (t)) (nth (cM (xs.map Fr4.q)) (t))):=yX (by rw[iU,hll];exact hlt9)
  have hK0:=CV (t:=t) hz9 hlt9 (by rw[hll])
  refine WP.sub (JG (j:=0) (key:=2) (e:=24) (ws:=(aX (fC (xs.map Fr4.q) (t)))) (i:=(nth (cM (xs.map Fr4.q)) (t))) (z:=.of (aV (fC (xs.map Fr4.q) (t)) (nth (cM (xs.map Fr4.q)) (t)))) rfl rfl hw9 hz9k) ?_
  refine rd [0] (fun i=>[9].contains i) mixed ?_
  refine dv 0 ?_;refine dv 1 ?_;refine dv 2 ?_;refine dv 3 ?_;refine dv 4 ?_
  refine JX 5 (us:=[tv (.bool (aF (aV (fC (xs.map Fr4.q) (t)) (nth (cM (xs.map Fr4.q)) (t))))),.sl 2 0 (dg 4294967296 ((aV (fC (xs.map Fr4.q) (t)) (nth (cM (xs.map Fr4.q)) (t)))).natAbs).length]) (Of (z:=.of (aV (fC (xs.map Fr4.q) (t)) (nth (cM (xs.map Fr4.q)) (t)))) hw9 hz9k) ?_
  refine aI 6 rfl (jE (n:=1) (by omega) (by omega)) jF ⟨a1 rfl,rfl⟩ (kF 1) ?_
  refine iF 3 7 rfl (Cb (Zg.of (k:=(aV (fC (xs.map Fr4.q) (t)) (nth (cM (xs.map Fr4.q)) (t)))) hK0) (Zg.of (k:=1) (by decide))) Li ⟨nK rfl (.cons .t (.cons (.sl rfl rfl (Hm _) (aP _)) .nil)),aB rfl,rfl⟩ ?_
  refine dv 8 ?_;refine Lh 9 (yY hw9) (Og hw9) ?_;refine aN ?_
  refine WP.sub (JH (j:=0) (k1:=3) (e:=24) (ws:=(aX (fC (xs.map Fr4.q) (t)))) (i:=(nth (cM (xs.map Fr4.q)) (t))) (z:=.of ((aV (fC (xs.map Fr4.q) (t)) (nth (cM (xs.map Fr4.q)) (t)))+1)) rfl hw9 rfl rfl) ?_
  refine rl ?_;refine o1 ?_;refine WL.cast (t:=59) (u':=.int .i64 ((t+1:Nat):Int)) rfl (aK (by omega)) ?_
  refine o1 ?_;refine nl ?_
  have hst:(aX (fC (xs.map Fr4.q) (t))).set (nth (cM (xs.map Fr4.q)) (t)) (.of ((aV (fC (xs.map Fr4.q) (t)) (nth (cM (xs.map Fr4.q)) (t)))+1))=aX (fC (xs.map Fr4.q) (t+1)):=by rw[Id,Dk (by rw[hll];omega)]
  exact⟨t+1,by omega,by omega,aL h0 [0,1] _ _ (by decide) ⟨rfl,rfl,rfl,rfl,trivial⟩ ⟨cB (congrArg (fun l=>some (⟨24,2,fB l⟩:Ob)) hst),cB rfl,rfl⟩⟩
 refine ex ?_;refine sq ?_;refine rl ?_;refine o1 ?_;refine o1 ?_;refine nl ?_;refine rt ?_
 have ht9:aX (fC (xs.map Fr4.q) (t))=aX (iB (xs.map Fr4.q)):=by rw[iB,show t=(jM (xs.map Fr4.q)).toNat by omega]
 have hl5:(aX (iB (xs.map Fr4.q))).length=xs.length:=by rw[dP,pO,hll]
 exact en (.inl rfl) rfl (aT (.one (.sl (trs:=(aX (iB (xs.map Fr4.q))).flatMap (dD true)) rfl rfl (by rw[ht9,←hl5];exact nN _) (by rw[cV (iS true),hl5])))) (by decide) (fun h=>by cases h) (by unfold wZ;rw[hl5];rfl)
theorem Oh {xs:List Fr4}(hx:∀x∈xs,x.ok) (hl:xs.length≤1073741823):aC true Tryz.prog 49 [] [.one (.t (sQ false xs))] (aM (.one (tv (.bool (!(xs.any lT)))))):=by
 refine bR Tryz.func49 rfl Tryz.ntmps49 rfl aA rfl fun N9 w9 c0 h0=>?_
 refine sq ?_;refine rl ?_;refine o1 ?_;refine nl ?_;refine sq ?_;refine rl ?_;refine o1 ?_
 refine ca (Ns (dl:=lT) (fst:=[]) (caps:=[]) JY (fun x h=>Ld ⟨hx x h,rfl⟩) hl) CM ⟨a1 rfl,a1 rfl,rfl⟩ (.one (tv (.bool (xs.any lT)))) ?_
 refine o1 ?_;refine o1 ?_;refine nl ?_;refine rt ?_;exact oF (.inl rfl) rfl (rfl)
theorem xA {p:Rat}(hp:Sz 68719476736 p):aC true Tryz.prog 49 [] [.one (.t (sQ false [Fr4.of p]))] (aM (.one (tv (.bool (decide (p.den=1)))))):=by
 have h:=Oh (xs:=[Fr4.of p]) (fun x hx=>by rw[List.mem_singleton]at hx;subst hx;exact(Qn.of hp).1) (by simp)
 have e:(!([Fr4.of p].any lT))=decide (p.den=1):=by
  rw[List.any_cons,List.any_nil,Bool.or_false,Rz p (Az p),Bool.not_not]
 rwa[e]at h
theorem So {l:List Rat}{n:Nat}(hn:l.length=n) (hz:∀q∈l,Sz 1000 q) (hl:l.length≤1073741823):aC true Tryz.prog 51 [] [.agg [.t (.s false 50 4 n (l.flatMap dB))]] (aM (.one (tv (.bool (l.any fun x=>decide (x<0)))))):=by
 have h:=yT (xs:=gD l) (pK hz (by omega)) (by rw[kA];exact hl)
 rwa[Yn,Cc hn]at h
theorem Oi {xs:List Fr4}(hx:∀x∈xs,x.ok) (hz:∀x∈xs,Sz 1000 x.q) (hl:xs.length≤12) (hpos:¬(aE (xs.map Fr4.q))<0):aC false Tryz.prog 17 [] [.agg [.t (sQ false xs)]] (aM (.one (.t (wZ 24 (aX (aY (xs.map Fr4.q))))))):=by
 refine Cz Tryz.func17 rfl Tryz.ntmps17 rfl aA rfl fun N9 w9 c0 h0=>?_
 have hll:(xs.map Fr4.q).length≤12:=by rw[List.length_map];exact hl
 have hzl:∀q∈(xs.map Fr4.q),Sz 1000 q:=fun q hq=>(by obtain⟨x,h9,rfl⟩:=List.mem_map.1 hq;exact hz x h9)
 have hzn:∀q∈(cO (xs.map Fr4.q)),Sz 1000 q:=fun q hq=>(by obtain⟨p,h9,rfl⟩:=List.mem_map.1 hq;exact mB (hzl p h9))
 have hsz:Sz 20000 (aE (xs.map Fr4.q)):=(uC hzl).mono (by have:=Nat.mul_le_mul hll (Nat.le_refl 1001);omega)
 refine sq ?_;refine rl ?_;refine bx 0 ?_;refine o1 ?_;refine nl ?_;refine sq ?_;refine rl ?_;refine o1 ?_;refine ld ?_
 refine ca (Vt (B:=1000) (by omega) hx hz (by omega)) vX ⟨a1 rfl,rfl⟩ (qF (.of (aE (xs.map Fr4.q)))) ?_
 refine al 1 ?_;refine st ?_;refine nl ?_;refine sq ?_;refine bl ?_;refine sq ?_;refine rl ?_;refine ld ?_;refine bs 2 ?_
 refine WL.sub (CZ (i:=12) (k:=2) (t:=48) (z:=4) (n:=1) (l:=[Fr4.of (aE (xs.map Fr4.q))].flatMap (Fr4.tr false)) 50 rfl rfl rfl rfl (.one .sl)) ?_
 refine ca (xA (p:=(aE (xs.map Fr4.q))) (hsz.mono (by omega))) DA ⟨a1 rfl,rfl⟩ (.one (tv (.bool (decide ((aE (xs.map Fr4.q)).den=1))))) ?_
 refine WL.splitb (t:=13) rfl (fun h1=>?_) (fun h1=>?_)
 ·refine o1 ?_;refine o1 ?_;refine nl ?_;refine fK rfl ?_;refine sq ?_;have hden:(aE (xs.map Fr4.q)).den=1:=of_decide_eq_true h1
  refine rl ?_;refine ld ?_;refine ca (pJ (Qn.of (p:=(aE (xs.map Fr4.q))) hsz)) yS ⟨aB rfl,rfl⟩ (.one (tv (.int .i64 (aE (xs.map Fr4.q)).num.sign))) ?_;refine o1 ?_;refine o1 ?_
  refine nl ?_;refine bX rfl (fun h2=>?_) (fun h2=>?_)
  ·exact absurd (nL.1 h2) hpos
  refine sq ?_;have hS0:¬(aE (xs.map Fr4.q))<0:=fun h=>h2 (nL.2 h)
  refine rl ?_;refine ld ?_;refine ca (yT hx (by omega)) Sp ⟨nK rfl (.cons .t .nil),rfl⟩ (.one (tv (.bool (xs.any fun x=>decide (x.q<0))))) ?_
  refine o1 ?_;refine nl ?_;refine vE rfl (fun h3=>?_) (fun h3=>?_)
  ·refine sq ?_;refine rl ?_;refine o1 ?_;refine nl ?_;refine rt ?_;have hres:aY (xs.map Fr4.q)=[]:=Dl hden hS0 (by rw[List.any_map];exact h3)
   refine vD (nr (i:=2) 3 24 2 rfl rfl rfl rfl) ?_;exact gN <| en (.inl rfl) rfl (aT (.one (.sl (trs:=[]) rfl rfl rfl rfl))) (by decide) (fun h=>by cases h) (by rw[hres];rfl)
  refine sk ?_;refine sq ?_;have h40:=h3
  refine rd [0,1] (fun i=>[4].contains i) mixed ?_
  refine aU 0 ?_;refine aU 1 ?_;refine aI 2 rfl (yO (Qn.of (p:=(aE (xs.map Fr4.q))) hsz)) Sm ⟨aB rfl,rfl⟩ (kF (fl (aE (xs.map Fr4.q)))) ?_
  refine iF 3 3 rfl (Av (tot:=fl (aE (xs.map Fr4.q))) hx hz hzl hl hll hden (Oj hden)) DB ⟨nK rfl (.cons .t .nil),aB rfl,rfl⟩ ?_
  refine dI 4 (by kernel_rfl) rfl rfl aA rfl (by trivial) ?_ (fun h=>by first | rfl | cases h)
  refine aN ?_;refine rt ?_;have hres:aY (xs.map Fr4.q)=iB (xs.map Fr4.q):=xB hden hS0 (by rw[List.any_map];exact h40)
  exact gN <| en (.inl rfl) rfl (aT (.one (.sl (trs:=(aX (iB (xs.map Fr4.q))).flatMap (dD true)) rfl rfl (nN _) (cV (iS true) _)))) (by decide) (fun h=>by cases h) (by rw[hres];rfl)
 refine o1 ?_;refine o1 ?_;refine nl ?_;refine mP rfl ?_;refine sq ?_;have hfr:(aE (xs.map Fr4.q)).den≠1:=of_decide_eq_false h1
 refine rl ?_;refine o1 ?_;refine nl ?_;refine rt ?_;have hres:aY (xs.map Fr4.q)=[]:=Dm hfr
 refine vD (nr (i:=2) 3 24 2 rfl rfl rfl rfl) ?_;exact gN <| en (.inl rfl) rfl (aT (.one (.sl (trs:=[]) rfl rfl rfl rfl))) (by decide) (fun h=>by cases h) (by rw[hres];rfl)
theorem Sq {l:List Rat}{n:Nat}(hn:l.length=n) (hz:∀q∈l,Sz 1000 q) (hl:l.length≤12) (hpos:¬aE l<0):aC false Tryz.prog 17 [] [.agg [.t (.s false 50 4 n (l.flatMap dB))]] (aM (.one (.t (wZ 24 (aX (aY l)))))):=by
 have h:=Oi (xs:=gD l) (pK hz (by omega)) (sL hz) (by rw[kA];exact hl) (by rw[uA];exact hpos)
 rwa[uA,Cc hn]at h
theorem Yo {xs:List Fr4}(hx:∀x∈xs,x.ok) (hz:∀x∈xs,Sz 1000 x.q) (hl:xs.length≤12):aC false Tryz.prog 17 [] [.agg [.t (sQ false xs)]] (aM (.one (.t (wZ 24 (aX (aY (xs.map Fr4.q))))))):=by
 refine Cz Tryz.func17 rfl Tryz.ntmps17 rfl aA rfl fun N9 w9 c0 h0=>?_
 have hll:(xs.map Fr4.q).length≤12:=by rw[List.length_map];exact hl
 have hzl:∀q∈(xs.map Fr4.q),Sz 1000 q:=fun q hq=>(by obtain⟨x,h9,rfl⟩:=List.mem_map.1 hq;exact hz x h9)
 have hzn:∀q∈(cO (xs.map Fr4.q)),Sz 1000 q:=fun q hq=>(by obtain⟨p,h9,rfl⟩:=List.mem_map.1 hq;exact mB (hzl p h9))
 have hsz:Sz 20000 (aE (xs.map Fr4.q)):=(uC hzl).mono (by have:=Nat.mul_le_mul hll (Nat.le_refl 1001);omega)
 refine sq ?_;refine rl ?_;refine bx 0 ?_;refine o1 ?_;refine nl ?_;refine sq ?_;refine rl ?_;refine o1 ?_;refine ld ?_
 refine ca (Vt (B:=1000) (by omega) hx hz (by omega)) vX ⟨a1 rfl,rfl⟩ (qF (.of (aE (xs.map Fr4.q)))) ?_
 refine al 1 ?_;refine st ?_;refine nl ?_;refine sq ?_;refine bl ?_;refine sq ?_;refine rl ?_;refine ld ?_;refine bs 2 ?_
 refine WL.sub (CZ (i:=12) (k:=2) (t:=48) (z:=4) (n:=1) (l:=[Fr4.of (aE (xs.map Fr4.q))].flatMap (Fr4.tr false)) 50 rfl rfl rfl rfl (.one .sl)) ?_
 refine ca (xA (p:=(aE (xs.map Fr4.q))) (hsz.mono (by omega))) DA ⟨a1 rfl,rfl⟩ (.one (tv (.bool (decide ((aE (xs.map Fr4.q)).den=1))))) ?_
 refine WL.splitb (t:=13) rfl (fun h1=>?_) (fun h1=>?_)
 ·refine o1 ?_;refine o1 ?_;refine nl ?_;refine fK rfl ?_;refine sq ?_;have hden:(aE (xs.map Fr4.q)).den=1:=of_decide_eq_true h1
  refine rl ?_;refine ld ?_;refine ca (pJ (Qn.of (p:=(aE (xs.map Fr4.q))) hsz)) yS ⟨aB rfl,rfl⟩ (.one (tv (.int .i64 (aE (xs.map Fr4.q)).num.sign))) ?_;refine o1 ?_;refine o1 ?_
  refine nl ?_;refine bX rfl (fun h2=>?_) (fun h2=>?_)
  ·refine sq ?_;have hS0:(aE (xs.map Fr4.q))<0:=nL.1 h2
   refine rl ?_;refine ld ?_
   refine ca (Sk hx (by omega)) JZ ⟨nK rfl (.cons .t .nil),rfl⟩ (.agg [.t (.s false 48 4 (xs.map fun x=>-x.q).length ((xs.map fun x=>-x.q).flatMap dB))]) ?_
   refine WL.sub (JI (i:=20) (t':=50) rfl rfl) ?_;have e20:(xs.map fun x=>-x.q)=(cO (xs.map Fr4.q)):=by unfold cO;rw[List.map_map];rfl
   rw[e20];refine al 3 ?_;refine st ?_;refine nl ?_;refine sq ?_;refine sq ?_;refine rl ?_;refine ld ?_
   refine ca (So (l:=(cO (xs.map Fr4.q))) (n:=(cO (xs.map Fr4.q)).length) rfl hzn (by rw[lJ,List.length_map];omega)) Sp ⟨nK rfl (.cons .t .nil),rfl⟩ (.one (tv (.bool ((cO (xs.map Fr4.q)).any fun x=>decide (x<0))))) ?_
   refine nl ?_;refine vE rfl (fun h3=>?_) (fun h3=>?_)
   ·refine sq ?_;refine rl ?_;refine o1 ?_;refine nl ?_;refine rt ?_;have hres:aY (xs.map Fr4.q)=[]:=Sr hden hS0 h3
    refine vD (nr (i:=2) 4 24 2 rfl rfl rfl rfl) ?_;exact gN <| en (.inl rfl) rfl (aT (.one (.sl (trs:=[]) rfl rfl rfl rfl))) (by decide) (fun h=>by cases h) (by rw[hres];rfl)
   refine sk ?_;refine sq ?_;have h22:=h3
   refine rl ?_;refine ld ?_
   refine fG 4 (Sq (l:=(cO (xs.map Fr4.q))) (n:=(cO (xs.map Fr4.q)).length) rfl hzn (by rw[lJ,List.length_map];omega) (Ss hS0)) DC ⟨nK rfl (.cons .t .nil),rfl⟩ ?_
   refine o1 ?_;refine nl ?_;refine sq ?_;refine sq ?_;refine rl ?_;(iterate 3 refine o1 ?_);refine nl ?_;refine bl ?_
   refine lp (γ:=Nat) (fun t=>cH [(5,.one (.sl 0 0 ((aX (aY (cO (xs.map Fr4.q)))).length))),(26,.one (tv (.int .i64 (((aX (aY (cO (xs.map Fr4.q)))).length:Nat):Int)))),(27,.one (tv (.int .i64 ((t:Nat):Int))))]) (fun t=>[(⟨24,2,fB (aX (mC (fun x=>-x) (aY (cO (xs.map Fr4.q))) (t)))⟩:Ob)].map some) (fun t=>t≤(aX (aY (cO (xs.map Fr4.q)))).length) (fun t=>(aX (aY (cO (xs.map Fr4.q)))).length-t) 0 (Nat.zero_le _) (aL h0 [4] _ _ (by decide) ⟨rfl,rfl,rfl,trivial⟩ ⟨cB rfl,rfl⟩) fun t ht=>?_
   refine sq ?_;refine rl ?_;refine o1 ?_;refine nl ?_;refine sq ?_;refine bX rfl (fun h4=>?_) (fun h4=>?_)
   ·refine sk ?_;refine sq ?_;refine bl ?_;refine sq ?_;refine rl ?_;refine o1 ?_;refine o1 ?_;refine nl ?_
    have hw12:(aY (cO (xs.map Fr4.q))).length≤12:=Nat.le_trans Dn (by rw[lJ];exact hll)
    have hw7:(aX (aY (cO (xs.map Fr4.q)))).length=(aY (cO (xs.map Fr4.q))).length:=dP _
    have hw8:t<(aY (cO (xs.map Fr4.q))).length:=by omega
    have hw9:t<(aX (mC (fun x=>-x) (aY (cO (xs.map Fr4.q))) (t))).length:=by rw[dP,yZ];exact hw8
    have hz9k:lI (aX (mC (fun x=>-x) (aY (cO (xs.map Fr4.q))) (t))) t=.of (aV (aY (cO (xs.map Fr4.q))) t):=(yX (by rw[yZ];exact hw8)).trans (by rw[Yp hw8])
    have hK0:=Nat.le_trans (Ie hzn _ (nO hw8)) (show 1000+2≤300000000000 by omega)
    refine WP.sub (JG (j:=0) (key:=1) (e:=24) (ws:=(aX (mC (fun x=>-x) (aY (cO (xs.map Fr4.q))) (t)))) (i:=t) (z:=.of (aV (aY (cO (xs.map Fr4.q))) t)) rfl rfl hw9 hz9k) ?_
    refine rl ?_;(iterate 5 refine o1 ?_)
    refine JF (us:=[tv (.bool (aF (aV (aY (cO (xs.map Fr4.q))) t))),.sl 1 0 (dg 4294967296 ((aV (aY (cO (xs.map Fr4.q))) t)).natAbs).length]) (Of (z:=.of (aV (aY (cO (xs.map Fr4.q))) t)) hw9 hz9k) ?_
    refine fG 2 (Lj (Zg.of (k:=(aV (aY (cO (xs.map Fr4.q))) t)) hK0)) St ⟨nK rfl (.cons .t (.cons (.sl rfl rfl (Hm _) (aP _)) .nil)),rfl⟩ ?_;refine o1 ?_
    refine wY (yY hw9) (Og hw9) ?_;refine nl ?_
    refine WP.sub (JH (j:=0) (k1:=2) (e:=24) (ws:=(aX (mC (fun x=>-x) (aY (cO (xs.map Fr4.q))) (t)))) (i:=t) (z:=.of (-((aV (aY (cO (xs.map Fr4.q))) t)))) rfl hw9 rfl rfl) ?_
    refine rl ?_;refine o1 ?_;refine WL.cast (t:=38) (u':=.int .i64 ((t+1:Nat):Int)) rfl (aK (by omega)) ?_
    refine o1 ?_;refine nl ?_
    have hst:(aX (mC (fun x=>-x) (aY (cO (xs.map Fr4.q))) (t))).set t (.of (-((aV (aY (cO (xs.map Fr4.q))) t))))=aX (mC (fun x=>-x) (aY (cO (xs.map Fr4.q))) (t+1)):=by rw[Id,←GX hw8]
    exact⟨t+1,by omega,by omega,aL h0 [0] _ _ (by decide) ⟨rfl,rfl,rfl,trivial⟩ ⟨cB (congrArg (fun l=>some (⟨24,2,fB l⟩:Ob)) hst),rfl⟩⟩
   refine ex ?_;refine sq ?_;refine rl ?_;refine o1 ?_;refine o1 ?_;refine nl ?_;refine rt ?_
   have hres:(mC (fun x=>-x) (aY (cO (xs.map Fr4.q))) (t))=aY (xs.map Fr4.q):=by rw[Yq (by rw[←dP];omega),Wc hden hS0 h22]
   have hl5:(aX (aY (cO (xs.map Fr4.q)))).length=(aX (aY (xs.map Fr4.q))).length:=by rw[←hres,dP,dP,yZ]
   exact gN <| en (.inl rfl) rfl (aT (.one (.sl (trs:=(aX (aY (xs.map Fr4.q))).flatMap (dD true)) rfl rfl (by rw[hres,hl5];exact nN _) (by rw[cV (iS true),hl5])))) (by decide) (fun h=>by cases h) (by unfold wZ;rw[hl5];rfl)
  refine sq ?_;have hS0:¬(aE (xs.map Fr4.q))<0:=fun h=>h2 (nL.2 h)
  refine rl ?_;refine ld ?_;refine ca (yT hx (by omega)) Sp ⟨nK rfl (.cons .t .nil),rfl⟩ (.one (tv (.bool (xs.any fun x=>decide (x.q<0))))) ?_
  refine o1 ?_;refine nl ?_;refine vE rfl (fun h5=>?_) (fun h5=>?_)
  ·refine sq ?_;refine rl ?_;refine o1 ?_;refine nl ?_;refine rt ?_;have hres:aY (xs.map Fr4.q)=[]:=Dl hden hS0 (by rw[List.any_map];exact h5)
   refine vD (nr (i:=2) 3 24 2 rfl rfl rfl rfl) ?_;exact gN <| en (.inl rfl) rfl (aT (.one (.sl (trs:=[]) rfl rfl rfl rfl))) (by decide) (fun h=>by cases h) (by rw[hres];rfl)
  refine sk ?_;refine sq ?_;have h40:=h5
  refine rd [0,1] (fun i=>[4].contains i) mixed ?_
  refine aU 0 ?_;refine aU 1 ?_;refine aI 2 rfl (yO (Qn.of (p:=(aE (xs.map Fr4.q))) hsz)) Sm ⟨aB rfl,rfl⟩ (kF (fl (aE (xs.map Fr4.q)))) ?_
  refine iF 3 3 rfl (Av (tot:=fl (aE (xs.map Fr4.q))) hx hz hzl hl hll hden (Oj hden)) DB ⟨nK rfl (.cons .t .nil),aB rfl,rfl⟩ ?_
  refine dI 4 (by kernel_rfl) rfl rfl aA rfl (by trivial) ?_ (fun h=>by first | rfl | cases h)
  refine aN ?_;refine rt ?_;have hres:aY (xs.map Fr4.q)=iB (xs.map Fr4.q):=xB hden hS0 (by rw[List.any_map];exact h40)
  exact gN <| en (.inl rfl) rfl (aT (.one (.sl (trs:=(aX (iB (xs.map Fr4.q))).flatMap (dD true)) rfl rfl (nN _) (cV (iS true) _)))) (by decide) (fun h=>by cases h) (by rw[hres];rfl)
 refine o1 ?_;refine o1 ?_;refine nl ?_;refine mP rfl ?_;refine sq ?_;have hfr:(aE (xs.map Fr4.q)).den≠1:=of_decide_eq_false h1
 refine rl ?_;refine o1 ?_;refine nl ?_;refine rt ?_;have hres:aY (xs.map Fr4.q)=[]:=Dm hfr
 refine vD (nr (i:=2) 3 24 2 rfl rfl rfl rfl) ?_;exact gN <| en (.inl rfl) rfl (aT (.one (.sl (trs:=[]) rfl rfl rfl rfl))) (by decide) (fun h=>by cases h) (by rw[hres];rfl)
theorem Su {l:List Rat}{n:Nat}(hn:l.length=n) (hz:∀q∈l,Sz 1000 q) (hl:l.length≤12):aC false Tryz.prog 17 [] [.agg [.t (.s false 50 4 n (l.flatMap dB))]] (aM (.one (.t (wZ 24 (aX (aY l)))))):=by
 have h:=Yo (xs:=gD l) (pK hz (by omega)) (sL hz) (by rw[kA];exact hl)
 rwa[uA,Cc hn]at h
theorem Ok {b:Int}{n:Nat}(h:pL b n≠0):b<0∨(n:Int)≤b:=by
 unfold pL at h
 split at h
 ·assumption
 exact absurd rfl h
theorem If:aY []=[]:=by
 have h:(aE []).den=1:=rfl
 rw[xB h (by rw[pP];decide) rfl]
 rfl
theorem Ig {T:Rat}{b:Int}{xs:List Fr4}(hl:xs.length≤12):(aS T b (xs.map Fr4.q)).length≤12:=by
 unfold aS
 split
 ·simp
 split <;> simp <;> omega
theorem Ol {k b:Int}{xs:List Fr4}(hk:jD 6 k) (hz:∀x∈xs,Sz 7 x.q) (hl:xs.length≤12):∀q∈aS (k:Rat) b (xs.map Fr4.q),Sz 1000 q:=fun q hq=>by
 have hT:Sz 7 (k:Rat):=yU (Nat.le_trans hk (by omega)) (by omega)
 have hab:∀q∈(xs.map Fr4.q).map bN,Sz 7 q:=fun q hq=>by
  rw[Hz]at hq
  obtain⟨x,hx9,rfl⟩:=List.mem_map.1 hq
  exact Ia (hz x hx9) (by omega)
 have hS:Sz 98 (aE ((xs.map Fr4.q).map bN)):=(uC hab).mono (by
  have h9:((xs.map Fr4.q).map bN).length=xs.length:=by simp
  rw[h9]
  omega)
 unfold aS at hq
 split at hq
 ·cases hq
 split at hq
 ·rcases List.mem_or_eq_of_mem_set hq with h | rfl
  ·rw[List.eq_of_mem_replicate h]
   exact(kK (z:=0) (by omega) (by omega)).mono (by omega)
  exact hT.mono (by omega)
 obtain⟨w,hw,rfl⟩:=List.mem_map.1 hq
 exact(DD (Nz hT (hab _ (List.mem_map.2 ⟨w,hw,rfl⟩))) hS).mono (by omega)
theorem xC {a:Zi}{k b:Int}{xs:List Fr4}(ha:Zn a k) (hk:jD 6 k) (hx:∀x∈xs,x.ok) (hz:∀x∈xs,Sz 7 x.q) (hl:xs.length≤12):aC false Tryz.prog 13 [] [gF a,.one (tv (.int .i64 b)),.one (.t (sQ false xs))] (aM (.tup [.one (.t (wZ 24 (aX (aY (aS (k:Rat) b (xs.map Fr4.q)))))),.one (tv (.int .i64 (pL b xs.length)))])):=by
 refine Cz Tryz.func13 rfl Tryz.ntmps13 rfl aA rfl fun N9 w9 c0 h0=>?_
 refine sq ?_;refine rl ?_;refine bx 0 ?_;refine o1 ?_;refine o1 ?_;refine nl ?_;refine sq ?_;refine rl ?_;refine ld ?_;refine o1 ?_;refine o1 ?_
 refine ca (CP ha hk hx hz hl) DE ⟨aB rfl,a1 rfl,a1 rfl,rfl⟩ (.tup [.agg [.t (.s false 48 4 (aS (k:Rat) b (xs.map Fr4.q)).length ((aS (k:Rat) b (xs.map Fr4.q)).flatMap dB))],.one (tv (.int .i64 (pL b xs.length)))]) ?_
 refine o1 ?_;refine o1 ?_;refine WL.sub (JI (i:=15) (t':=50) rfl rfl) ?_;refine o1 ?_;refine al 1 ?_;refine st ?_;refine o1 ?_;refine nl ?_;refine sq ?_;refine sq ?_;refine rl ?_
 refine o1 ?_;refine o1 ?_;refine nl ?_;refine bX rfl (fun h1=>?_) (fun h1=>?_)
 ·refine sq ?_;refine rl ?_;(iterate 3 refine o1 ?_);refine nl ?_;refine rt ?_;have hb9:=Ok h1
  have hX:(aS (k:Rat) b (xs.map Fr4.q))=[]:=uD (by rw[List.length_map];exact hb9)
  refine vD (nr (i:=6) 2 24 2 rfl rfl rfl rfl) ?_
  exact gN <| en (.inl rfl) rfl (jJ (.cons (.one (.sl (trs:=[]) rfl rfl rfl rfl)) (.cons (cA _) .nil))) (by decide) (fun h=>by cases h) (by rw[hX,If];rfl)
 refine sk ?_;refine sq ?_;refine rl ?_;refine ld ?_
 refine fG 2 (Su (l:=(aS (k:Rat) b (xs.map Fr4.q))) (n:=(aS (k:Rat) b (xs.map Fr4.q)).length) rfl (Ol hk hz hl) (Ig hl)) DC ⟨nK rfl (.cons .t .nil),rfl⟩ ?_
 refine o1 ?_;refine o1 ?_;refine nl ?_;refine rt ?_;have hE0:(pL b xs.length)=0:=Decidable.byContradiction h1
 exact gN <| en (.inl rfl) rfl (jJ (.cons (.one (.sl (trs:=(aX (aY (aS (k:Rat) b (xs.map Fr4.q)))).flatMap (dD true)) rfl rfl (nN _) (cV (iS true) _))) (.cons (cA _) .nil))) (by decide) (fun h=>by cases h) (by rw[hE0];rfl)
theorem GY {zs:List Zi}{L:Nat}(hz:∀a∈zs,ZL L a) (hL:L≤1000000) (hl:zs.length≤1000000):aC true Tryz.prog 20 [] [.one (.t (sZ 24 zs))] (aM (kO (cU zs))):=by
 refine bR Tryz.func20 rfl Tryz.ntmps20 rfl aA rfl fun N9 w9 c0 h0=>?_
 refine sq ?_;refine rl ?_;refine al 0 ?_;refine nl ?_;refine sq ?_;refine rl ?_;refine o1 ?_;refine fG 1 (Nw hz hL hl) CW ⟨a1 rfl,rfl⟩ ?_;refine st ?_;refine nl ?_;refine rt ?_
 exact en (.inl rfl) rfl (aT (.agg (.cons (.id rfl) (.cons (.sl (trs:=aJ (dg 4294967296 ((cU zs)).natAbs)) rfl rfl (aW _) (aP _)) .nil)))) (by decide) (fun _=>sF _) rfl
end Go.Proofs.YthmgbcdidlkpoaaGreat
namespace Go.Proofs.YthmgbcdidlkpoaaGreat
open Go Go.RowKit Go.ChangeShapes
def Reads (P:Program) (t:TypeId) (z:Nat) (T:List Tr→Prop):Prop:=
 P.cellsOf t=z∧∀(H:Type) (enc:TypeId×Value→H) (w:World) (fuel:Nat) (cs:List Value) (x:DataW H×List MemPlace),DataW.trod enc P w 0 (fun _=>true) true fuel t cs=some x→∃l,T l∧l.length=z∧FRL w (vC w) l cs
theorem Ih {W:World}{N:Nat→Prop}:∀{l l':List Tr}{us us':List Value},FRL W N l us→FRL W N l' us'→FRL W N (l++l') (us++us')
 | [],l',us,us',h,h'=>by simp only[FRL]at h;subst h;exact h'
 | x::l,l',u::us,us',h,h'=>by simp only[FRL,List.cons_append]at*;exact⟨h.1,Ih h.2 h'⟩
 | _::_,_,[],_,h,_=>by simp only[FRL]at h
theorem Ii {W:World}{N:Nat→Prop}:∀{l:List Tr}{us:List Value}{j:Nat}{x:Tr},FRL W N l us→l[j]? =some x→∃u,us[j]? =some u∧FR W N x u
 | [],_,_,_,_,h=>by simp at h
 | y::l,u::us,0,x,h,e=>by
  simp only[FRL]at h
  simp at e
  subst e
  exact⟨u,rfl,h.1⟩
 | y::l,u::us,j+1,x,h,e=>by
  simp only[FRL]at h
  exact Ii (j:=j) h.2 (by simpa using e)
 | _::_,[],_,_,h,_=>by simp only[FRL]at h
section
variable {P:Program}{t e:TypeId}{k:IntKind}{z:Nat}{T T':List Tr→Prop}
theorem Reads.mono (h:Reads P t z T) (hi:∀l,T l→T' l):Reads P t z T':=⟨h.1,fun H enc w fuel cs x hx=>let ⟨l,a,b⟩:=h.2 H enc w fuel cs x hx;⟨l,hi l a,b⟩⟩
theorem Yr (ht:P.underlying t=some .bool) (hz:P.cellsOf t=1):Reads P t 1 (fun l=>∃b,l=[.v (.bool b)]):=⟨hz,fun H enc w fuel cs x hx=>by
 obtain⟨b,rfl,_⟩:=DataW.trod_bool ht hx
 exact⟨_,⟨b,rfl⟩,rfl,by simp[FRL,FR]⟩⟩
theorem Om (ht:P.underlying t=some (.int k)) (hz:P.cellsOf t=1):Reads P t 1 (fun l=>∃n,l=[.v (.int k n)]∧k.min≤n∧n≤k.max):=⟨hz,fun H enc w fuel cs x hx=>by
 obtain⟨n,rfl,_,h⟩:=DataW.trod_int ht hx
 simp only[Lit.wf,Bool.and_eq_true,decide_eq_true_eq]at h
 exact⟨_,⟨n,rfl,h⟩,rfl,by simp[FRL,FR]⟩⟩
inductive Flds (P:Program):Nat→List Field→Nat→(List Tr→Prop)→Prop
 | nil {o:Nat}:Flds P o [] 0 (· =[])
 | cons {o z z':Nat}{f:Field}{fs:List Field}{T T':List Tr→Prop}(ho:f.offset=o) (h:Reads P f.type z T) (h':Flds P (o+z) fs z' T'):Flds P o (f::fs) (z+z') (fun l=>∃a b,l=a++b∧T a∧T' b)
theorem Flds.read {H:Type}{enc:TypeId×Value→H}{w:World}{n o:Nat}{fs:List Field}(h:Flds P o fs z T):∀{cs:List Value},o+z≤cs.length→(∀f∈fs,∃x,DataW.trod enc P w 0 (fun _=>true) true n f.type ((cs.drop f.offset).take (P.cellsOf f.type))=some x)→∃l,T l∧l.length=z∧FRL w (vC w) l ((cs.drop o).take z):=by
 induction h with
 | nil=>exact fun _ _=>⟨[],rfl,rfl,by simp[FRL]⟩
 | @cons o z z' f fs T T' ho hr _ ih=>
  intro cs hl hf
  obtain⟨b,h1,h2,h3⟩:=ih (cs:=cs) (by omega) fun f hm=>hf f (List.mem_cons_of_mem _ hm)
  obtain⟨x,hx⟩:=hf f List.mem_cons_self
  obtain⟨a,g1,g2,g3⟩:=hr.2 H enc w n _ x hx
  rw[ho,hr.1]at g3
  refine⟨a++b,⟨a,b,rfl,g1,h1⟩,by simp[g2,h2],?_⟩
  rw[List.take_add,List.drop_drop]
  exact Ih g3 h3
theorem Ba {fs:List Field}{z':Nat}(ht:P.underlying t=some (.struct fs.toArray)) (hz:P.cellsOf t=z) (h:Flds P 0 fs z' T) (e:z'=z:=by rfl):Reads P t z T:=⟨hz,fun H enc w fuel cs x hx=>by
 subst e
 obtain⟨xs,n,_,rfl,hl,hlen,hf⟩:=DataW.trod_struct ht hx
 rw[hz]at hl
 obtain⟨l,h1,h2,h3⟩:=h.read (H:=H) (enc:=enc) (w:=w) (n:=n) (cs:=cs) (by omega) fun f hm=>by
  obtain⟨i,hi⟩:=List.mem_iff_getElem?.1 hm
  have h1:=hf i f (by simpa using hi)
  have h2:i<xs.length:=by
   have:=(List.getElem?_eq_some_iff.1 hi).1
   simp at hlen
   omega
  rw[List.getElem?_eq_getElem h2]at h1
  exact⟨_,h1⟩
 refine⟨l,h1,h2,?_⟩
 rw[List.drop_zero,List.take_of_length_le (by omega)]at h3
 exact h3⟩
theorem Do (ht:P.underlying t=some (.slice e)) (hz:P.cellsOf t=1) (hz0:0<z) (h:Reads P e z T):Reads P t 1 (fun l=>∃rows:List (List Tr),(∀r∈rows,T r∧r.length=z)∧l=[.s false e z rows.length rows.flatten]):=⟨hz,fun H enc w fuel cs x hx=>by
 have hlen:∀(rows:List (List Tr)),(∀r∈rows,T r∧r.length=z)→rows.flatten.length=rows.length*z:=by
  intro rows
  induction rows with
  | nil=>intro _;simp
  | cons r rows ih=>
   intro hr
   rw[List.flatten_cons,List.length_append,(hr r List.mem_cons_self).2,ih fun r hm=>hr r (List.mem_cons_of_mem _ hm),List.length_cons,Nat.succ_mul,Nat.add_comm]
 rcases Deep.open_slice ht hx with⟨rfl,_⟩ | ⟨a,len,cap,m,n,D,Pl,rfl,_,hl,hm,hmm,_,hel⟩
 ·refine⟨_,⟨[],fun _ h=>(by cases h),rfl⟩,rfl,?_⟩
  simp only[FRL,FR,and_true]
  exact⟨none,0,rfl,Nat.le_refl _,by omega,by simp,.inl rfl⟩
 have hmc:m=cap:=by simpa using hmm
 rw[h.1]at hel
 have hex:∀i:Nat,∃l:List Tr,i<len→T l∧l.length=z∧∀j y,l[j]? =some y→∃u,w.cell? ((a.add (i*z)).add j)=some u∧FR w (vC w) y u:=fun i=>by
  by_cases hi:i<len
  ·obtain⟨cs',h1,h2⟩:=hel i (by omega)
   obtain⟨l,g1,g2,g3⟩:=h.2 H enc w n cs' _ h2
   obtain⟨_,h3,h4⟩:=World.cells?_some h1
   refine⟨l,fun _=>⟨g1,g2,fun j y hj=>?_⟩⟩
   obtain⟨u,hu,hy⟩:=Ii g3 hj
   have hjl:=(List.getElem?_eq_some_iff.1 hj).1
   exact⟨u,by rw[h4 j (by omega),hu],hy⟩
  exact⟨[],fun h=>absurd h hi⟩
 have hF:=fun i=>Classical.choose_spec (hex i)
 have hrow:∀r∈(List.range len).map (fun i=>Classical.choose (hex i)),T r∧r.length=z:=fun r hr=>by
  obtain⟨i,hi,rfl⟩:=List.mem_map.1 hr
  have:=hF i (List.mem_range.1 hi)
  exact⟨this.1,this.2.1⟩
 refine⟨_,⟨_,hrow,rfl⟩,rfl,?_⟩
 have h5:=hlen _ hrow
 simp only[FRL,and_true,FR]
 refine⟨some a,cap,by simp,by simpa using hl,by unfold maxLen at hm;omega,h5,?_⟩
 rcases Nat.eq_zero_or_pos len with h0 | h0
 ·exact .inl (by simp[h0])
 refine .inr ⟨a,rfl,?_,sO fun j y hj=>?_⟩
 ·obtain⟨_,g2,g3⟩:=hF 0 h0
  obtain⟨u,hu,_⟩:=g3 0 _ (List.getElem?_eq_getElem (by omega))
  have:=World.block_lt_of_cell? w ((a.add (0*z)).add 0) hu
  rwa[gR,gR]at this
 have hjl:=(List.getElem?_eq_some_iff.1 hj).1
 rw[h5,List.length_map,List.length_range]at hjl
 have hi:j/z<len:=Nat.div_lt_of_lt_mul (by rw[Nat.mul_comm];exact hjl)
 obtain⟨_,g2,g3⟩:=hF (j/z) hi
 have hz1:=Nat.mod_lt j hz0
 have hget:∀(rows:List (List Tr)),(∀r∈rows,T r∧r.length=z)→∀(i o:Nat) (r:List Tr),rows[i]? =some r→o<z→rows.flatten[i*z+o]? =r[o]? :=by
  intro rows
  induction rows with
  | nil=>intro _ i o r h;simp at h
  | cons r rows ih=>
   intro hr i o r' hi ho
   have hrl:=(hr r List.mem_cons_self).2
   cases i with
   | zero=>
    simp at hi
    subst hi
    rw[Nat.zero_mul,Nat.zero_add,List.flatten_cons,List.getElem?_append_left (by omega)]
   | succ i=>
    rw[List.flatten_cons,List.getElem?_append_right (by rw[Nat.succ_mul];omega),hrl,show(i+1)*z+o-z=i*z+o by rw[Nat.succ_mul];omega]
    exact ih (fun r hm=>hr r (List.mem_cons_of_mem _ hm)) i o r' (by simpa using hi) ho
 have hd:=Nat.div_add_mod j z
 rw[Nat.mul_comm]at hd
 rw[←hd,hget _ hrow (j/z) (j%z) (Classical.choose (hex (j/z))) (by simp[hi]) hz1]at hj
 obtain⟨u,hu,hy⟩:=g3 _ _ hj
 refine⟨u,?_,hy⟩
 rw[Nat.zero_add]
 have e2:(a.add (j/z*z)).add (j%z)=a.add j:=by rw[tU,hd]
 rwa[e2]at hu⟩
theorem zA {α:Type}(f:α→List Tr) (Q:α→Prop):∀{rows:List (List Tr)},(∀r∈rows,∃a,Q a∧r=f a)→∃xs:List α,(∀a∈xs,Q a)∧rows.flatten=xs.flatMap f∧rows.length=xs.length
 | [],_=>⟨[],fun _ h=>(by cases h),rfl,rfl⟩
 | r::rows,h=>by
  obtain⟨a,h1,rfl⟩:=h r List.mem_cons_self
  obtain⟨xs,h2,h3,h4⟩:=zA f Q fun r hm=>h r (List.mem_cons_of_mem _ hm)
  exact⟨a::xs,fun b hb=>(List.mem_cons.1 hb).elim (fun e=>e▸h1) (h2 b),by simp[h3],by simp[h4]⟩
theorem Sv (ht:P.underlying t=some (.slice e)) (he:P.underlying e=some (.int .u32)) (hz:P.cellsOf t=1) (hze:P.cellsOf e=1) (hn:e=51):Reads P t 1 (fun l=>∃xs:List Nat,Lim 4294967296 xs∧l=[sU false xs]):=
 (Do ht hz (by omega) (Om he hze)).mono fun l ⟨rows,h1,h2⟩=>by
  obtain⟨xs,h3,h4,h5⟩:=zA (fun n:Nat=>[Tr.v (.int .u32 (n:Int))]) (fun n=>n<4294967296) (rows:=rows) fun r hr=>by
   obtain⟨⟨n,rfl,h1,h2⟩,_⟩:=h1 r hr
   have e1:IntKind.u32.min=0:=rfl
   have e2:IntKind.u32.max=4294967295:=rfl
   rw[e1]at h1
   rw[e2]at h2
   exact⟨n.toNat,by omega,by rw[Int.toNat_of_nonneg h1]⟩
  refine⟨xs,h3,?_⟩
  rw[h2,h4,h5,sU,hn]
  have:∀xs:List Nat,xs.flatMap (fun n:Nat=>[Tr.v (.int .u32 (n:Int))])=aJ xs:=by
   intro xs
   induction xs with
   | nil=>rfl
   | cons n xs ih=>rw[List.flatMap_cons,ih];rfl
  rw[this]
theorem Ys (hb:Reads P t z (fun l=>∃a b,l=a++b∧(∃s,a=[.v (.bool s)])∧∃b' c',b=b'++c'∧(∃xs:List Nat,Lim 4294967296 xs∧b'=[sU false xs])∧c'=[])):Reads P t z (fun l=>∃(s:Bool) (xs:List Nat),Lim 4294967296 xs∧l=[.v (.bool s),sU false xs]):=
 hb.mono fun l ⟨a,b,h1,⟨s,h2⟩,b',c',h3,⟨xs,h4,h5⟩,h6⟩=>⟨s,xs,h4,by rw[h1,h2,h3,h5,h6];rfl⟩
end
def LimF (a:Fr4):Prop:=Lim 4294967296 a.x∧Lim 4294967296 a.y
theorem LimF.ok {a:Fr4}(h:LimF a) (h2:a.x.length≤6∧a.y.length≤6):a.ok:=⟨h.1,h.2,by omega,by omega⟩
end Go.Proofs.YthmgbcdidlkpoaaGreat
namespace Go.Proofs.YthmgbcdidlkpoaaGreat
open Go Go.RowKit
section
variable {x:Cx}{g:Nat→FV}{ob:List (Option Ob)}{Q:Post}
theorem WP.sln {c:Code}{i t z n:Nat}{o:Bool}{l:List Tr}(hlk:lk x.n g (.tmp i)=.one (.t (.s o t z n l))) (k:n≤9223372036854775807→WP x c g ob Q):WP x c g ob Q:=fun ts W hR=>by
 obtain⟨cs,hR'⟩:=hR
 have h1:=hR'.lk (.tmp i)
 rw[hlk]at h1
 simp only[bG,bO,AR,FR]at h1
 obtain⟨A,c9,_,h2,h3,_⟩:=h1
 exact k (by omega) ts W ⟨cs,hR'⟩
theorem Ij {i t t' z n:Nat}{o:Bool}{l l':List Tr}(hi:Nat.blt i x.n=true) (h:g i=.one (.t (.s o t z n l))) (hr:rdTL l=l'):Sub x g ob (aZ g i (.one (.t (.s false t' z n l')))) ob:=Dp hi fun W N cs u hu=>by
 subst hr
 rw[h]at hu
 simp only[bG,bO,AR]at hu⊢
 have h2:=Dq _ _ hu
 simp only[sP,FR]at h2⊢
 exact h2
end
def gP (x:Fr4):Bool:=decide (x.x.length≤6)&&decide (x.y.length≤6)
def sR (a:Zi) (xs:List Fr4):Bool:=xs.all gP&&(decide (a.x.length≤6)&&decide (xs.length≤12))
section
variable {a:Zi}{xs:List Fr4}{k:Nat}
theorem Ik (h:k<xs.length) (h2:gP (bJ xs k)=false):false=sR a xs:=by
 have:xs.all gP=false:=List.all_eq_false.2 ⟨_,bP h,by rw[h2];simp⟩
 unfold sR
 rw[this]
 rfl
theorem Sx {p:Fr4→Bool}(h:∀j,j<k→p (bJ xs j)=true) (hk:xs.length≤k):xs.all p=true:=List.all_eq_true.2 fun x hx=>by
 obtain⟨j,hj⟩:=List.mem_iff_getElem?.1 hx
 have hl:=(List.getElem?_eq_some_iff.1 hj).1
 rw[eN hl]at hj
 rw[←Option.some.inj hj]
 exact h j (by omega)
theorem Dr (h:∀j,j<k→gP (bJ xs j)=true) (hk:xs.length≤k):(decide (a.x.length≤6)&&decide (xs.length≤12))=sR a xs:=by
 unfold sR
 rw[Sx h hk]
 rfl
theorem Ds (h:sR a xs=true):(∀x∈xs,x.x.length≤6∧x.y.length≤6)∧a.x.length≤6∧xs.length≤12:=by
 unfold sR at h
 simp only[Bool.and_eq_true,decide_eq_true_eq,List.all_eq_true]at h
 refine⟨fun x hx=>?_,h.2⟩
 have h1:=h.1 x hx
 simp only[gP,Bool.and_eq_true,decide_eq_true_eq]at h1
 exact h1
theorem Sy {x:Fr4}(h:LimF x) (h2:x.x.length≤6∧x.y.length≤6):x.ok∧Sz 7 x.q∧x.len 1099511627776:=⟨h.ok h2,(On (L:=6) (na:=x.s) (nb:=x.t) h.1 h.2 h2.1 h2.2 (by omega)).mono (by omega),⟨by omega,by omega⟩⟩
theorem DF {a:Zi}(h:Lim 4294967296 a.x) (h2:a.x.length≤6):jD 6 (zv a):=Nat.le_trans (mZ h) h2
theorem Wd {a:Zi}(h:Lim 4294967296 a.x) (h2:a.x.length≤6):Zn a (zv a):=⟨h,by omega,rfl⟩
end
theorem uF {l:List Int}{k:Nat}(h:k<l.length):(((aX l).flatMap (dD false)).drop (k*2)).take (dD false (.of (aV l k))).length=dD false (.of (aV l k)):=by
 have h1:=pQ (f:=dD false) (z:=2) (iS false) (qR (zs:=aX l) (k:=k) (by rw[dP];exact h))
 rw[yX h]at h1
 exact h1
theorem GZ {l:List Rat}{k:Nat}(h:k<l.length):((l.flatMap dB).drop (k*4)).take (dB (aO l k)).length=dB (aO l k):=pQ (f:=dB) (z:=4) dO (gY h)
def iT (l:List Int):List Tr:=l.map fun z=>.v (.int .i64 z)
theorem HC {l:List Int}{k:Nat}(h:k<l.length):((iT l).drop (k*1)).take [Tr.v (.int .i64 (aV l k))].length=[Tr.v (.int .i64 (aV l k))]:=by
 have h1:=jU h
 rw[List.getElem?_eq_getElem h]at h1
 have h2:(iT l).drop (k*1)=.v (.int .i64 (aV l k))::(iT l).drop (k+1):=by
  rw[Nat.mul_one,List.drop_eq_getElem_cons (by simpa[iT]using h)]
  congr 1
  simp only[iT,List.getElem_map]
  rw[Option.some.inj h1]
 rw[h2]
 rfl
section
variable {trs:List Tr}{l:List Rat}{i n:Nat}
end
section
variable {x:Cx}{g:Nat→FV}{ob:List (Option Ob)}{ws:List Zi}{z:Zi}{i j k1 e key:Nat}{y a b:AV}
end
theorem Yt {a b:Zi}{k k':Int}(ha:Zn a k) (hb:Zn b k'):aC true Tryz.prog 126 [] [gF a,gF b] (aM (.one (tv (.bool (decide (k=k')))))):=by
 refine bR Tryz.func126 rfl Tryz.ntmps126 rfl aA rfl fun N w c0 h0=>?_
 refine sq ?_;refine rl ?_;refine bx 0 ?_;refine bx 1 ?_;refine o1 ?_;refine nl ?_;refine sq ?_;refine rl ?_;refine ld ?_;refine ld ?_
 refine ca (Oo ha hb) DG ⟨aB rfl,aB rfl,rfl⟩ (.one (tv (.int .i64 ((k)-(k')).sign))) ?_;refine o1 ?_;refine o1 ?_;refine nl ?_;refine rt ?_
 exact en (.inl rfl) rfl (aT (cA _)) (by decide) (fun _=>trivial) (congrArg (fun z=>FV.one (tv (.bool z))) (Ta _ _))
theorem Tb {a:Fr4}{p:Rat}(ha:Qn a p):aC true Tryz.prog 102 [] [qF a] (aM (.one (tv (.bool (cT a.s a.x a.t a.y))))):=by
 refine bR Tryz.func102 rfl Tryz.ntmps102 rfl aA rfl fun N w c0 h0=>?_
 have hzl:=(Dt ha).len
 have hzd:=(qQ ha).len
 refine sq ?_;refine rl ?_;refine bx 0 ?_;refine o1 ?_;refine nl ?_;refine sq ?_;refine rl ?_;refine o1 ?_;refine ld ?_
 refine ca (vZ (Dt ha)) Lk ⟨aB rfl,rfl⟩ (.one (tv (.bool (cJ a.s a.x)))) ?_;refine o1 ?_;refine WL.splitb (t:=6) rfl (fun h1=>?_) (fun h1=>?_)
 ·refine o1 ?_;refine ld ?_;refine ca (vZ (qQ ha)) Lk ⟨aB rfl,rfl⟩ (.one (tv (.bool (cJ a.t a.y)))) ?_;refine o1 ?_;refine o1 ?_
  refine WL.splitb (t:=11) rfl (fun h2=>?_) (fun h2=>?_)
  ·refine o1 ?_;refine ld ?_;refine ca (lK (qQ ha)) wA ⟨aB rfl,rfl⟩ (.one (tv (.int .i64 ((cS a.t a.y)).sign))) ?_;(iterate 3 refine o1 ?_)
   refine WL.split (t:=17) rfl (fun h3=>?_) (fun h3=>?_)
   ·refine o1 ?_;refine ld ?_;refine o1 ?_;refine ld ?_;have s3:0<cS a.t a.y:=Int.sign_pos_iff.1 h3
    have hn4:=zB (k:=(cS a.s a.x)) (k':=(cS a.t a.y)) (by omega)
    refine ca (Du (Dt ha) (qQ ha)) Tc ⟨aB rfl,aB rfl,rfl⟩ (kF (((Int.gcd (cS a.s a.x) (cS a.t a.y):Nat):Int))) ?_;have hn5:=kN (n:=(1:Int)) (by omega) (by omega)
    refine ca (mT (n:=(1:Int)) (by omega) (by omega)) qU ⟨a1 rfl,rfl⟩ (kF ((1:Int))) ?_
    refine ca (Yt (Zn.of (k:=((Int.gcd (cS a.s a.x) (cS a.t a.y):Nat):Int)) (by omega)) (Zn.of (k:=(1:Int)) (by omega))) HD ⟨aB rfl,aB rfl,rfl⟩ (.one (tv (.bool (decide ((((Int.gcd (cS a.s a.x) (cS a.t a.y):Nat):Int))=((1:Int))))))) ?_
    refine o1 ?_;refine o1 ?_;refine nl ?_;refine rt ?_
    exact en (.inl rfl) rfl (aT (cA _)) (by decide) (fun _=>trivial) (congrArg (fun z=>FV.one (tv (.bool z))) (by simp[cT,h1,h2,s3,Il]))
   (iterate 7 refine eL ?_);refine o1 ?_;refine o1 ?_;refine nl ?_;refine rt ?_;have s3:¬(0<cS a.t a.y):=fun h=>h3 (Int.sign_pos_iff.2 h)
   exact en (.inl rfl) rfl (aT (cA _)) (by decide) (fun _=>trivial) (congrArg (fun z=>FV.one (tv (.bool z))) (by simp[cT,h1,h2,s3,Il]))
  (iterate 4 refine eL ?_);refine o1 ?_;refine o1 ?_;(iterate 7 refine eL ?_);refine o1 ?_;refine o1 ?_;refine nl ?_;refine rt ?_
  exact en (.inl rfl) rfl (aT (cA _)) (by decide) (fun _=>trivial) (congrArg (fun z=>FV.one (tv (.bool z))) (by simp[cT,h1,h2]))
 (iterate 3 refine eL ?_);refine o1 ?_;refine o1 ?_;(iterate 4 refine eL ?_);refine o1 ?_;refine o1 ?_;(iterate 7 refine eL ?_);refine o1 ?_;refine o1 ?_;refine nl ?_;refine rt ?_
 exact en (.inl rfl) rfl (aT (cA _)) (by decide) (fun _=>trivial) (congrArg (fun z=>FV.one (tv (.bool z))) (by simp[cT,h1]))
theorem Im:aC false Tryz.prog 69 [] [] (aM (qF (.of 0))):=by
 refine bR Tryz.func69 rfl Tryz.ntmps69 rfl aA rfl fun N w c0 h0=>?_
 refine sq ?_;refine rl ?_;refine al 0 ?_;refine nl ?_;refine sq ?_;refine rl ?_;have hn1:=kN (n:=(0:Int)) (by omega) (by omega)
 refine ca (mT (n:=(0:Int)) (by omega) (by omega)) qU ⟨a1 rfl,rfl⟩ (kF ((0:Int))) ?_
 have hn2:=kN (n:=(1:Int)) (by omega) (by omega)
 refine ca (mT (n:=(1:Int)) (by omega) (by omega)) qU ⟨a1 rfl,rfl⟩ (kF ((1:Int))) ?_
 refine o1 ?_;refine st ?_;refine nl ?_;refine rt ?_
 exact en (.inl rfl) rfl (aT (.agg (.cons (.id rfl) (.cons (.id rfl) (.cons (.id rfl) (.cons (.id rfl) .nil)))))) (by decide) (fun h=>by cases h) (uG (q:=0) rfl rfl)
theorem Td {n:Int}(h1:-9223372036854775808≤n) (h2:n≤9223372036854775807):aC false Tryz.prog 31 [] [.one (tv (.int .i64 n))] (aM (qF (.of (n:Rat)))):=by
 refine bR Tryz.func31 rfl Tryz.ntmps31 rfl aA rfl fun N w c0 h0=>?_
 refine sq ?_;refine rl ?_;refine al 0 ?_;refine nl ?_;refine sq ?_;refine rl ?_;refine o1 ?_;have hn1:=kN (n:=n) (by omega) (by omega)
 refine ca (mT (n:=n) (by omega) (by omega)) qU ⟨a1 rfl,rfl⟩ (kF (n)) ?_
 have hn2:=kN (n:=(1:Int)) (by omega) (by omega)
 refine ca (mT (n:=(1:Int)) (by omega) (by omega)) qU ⟨a1 rfl,rfl⟩ (kF ((1:Int))) ?_
 refine o1 ?_;refine st ?_;refine nl ?_;refine rt ?_
 exact en (.inl rfl) rfl (aT (.agg (.cons (.id rfl) (.cons (.id rfl) (.cons (.id rfl) (.cons (.id rfl) .nil)))))) (by decide) (fun h=>by cases h) (uG (q:=(n:Rat)) (Rat.num_intCast n) (by rw[Rat.den_intCast];rfl))
theorem lL {a:Fr4}{p:Rat}(ha:Qn a p):aC false Tryz.prog 57 [] [qF a] (aM (qF (.of p))):=by
 refine bR Tryz.func57 rfl Tryz.ntmps57 rfl aA rfl fun N w c0 h0=>?_
 refine sq ?_;refine rl ?_;refine bx 0 ?_;refine al 1 ?_;refine nl ?_;refine sq ?_;refine sq ?_;refine rl ?_;refine ld ?_
 refine ca (Tb ha) HE ⟨aB rfl,rfl⟩ (.one (tv (.bool (cT a.s a.x a.t a.y)))) ?_;refine WL.splitb (t:=4) rfl (fun h1=>?_) (fun h1=>?_)
 ·refine o1 ?_;refine nl ?_;refine fK rfl ?_;refine sk ?_;refine sq ?_;refine rl ?_;refine ld ?_;refine st ?_;refine nl ?_;refine rt ?_
  exact en (.inl rfl) rfl (aT (.agg (.cons (.id rfl) (.cons (.id rfl) (.cons (.id rfl) (.cons (.id rfl) .nil)))))) (by decide) (fun h=>by cases h) (by rw[ha.right h1];rfl)
 refine o1 ?_;refine nl ?_;refine mP rfl ?_;refine sq ?_;refine rl ?_;refine ca (Im) DH rfl (qF (.of 0)) ?_;refine st ?_;refine nl ?_;refine rt ?_
 exact en (.inl rfl) rfl (aT (.agg (.cons (.id rfl) (.cons (.id rfl) (.cons (.id rfl) (.cons (.id rfl) .nil)))))) (by decide) (fun h=>by cases h) (by rw[ha.wrong h1];rfl)
theorem oG {a b:Zi}{k k':Int}(ha:Zn a k) (hb:Zn b k') (h0:k'≠0):aC false Tryz.prog 71 [] [gF a,gF b] (aM (.tup [kF (k.fdiv k'),kF (k.fmod k'),.one (tv (.int .i64 0))])):=by
 have h:=Oq ha hb
 rwa[if_neg h0,if_neg h0,if_neg h0]at h
theorem mD {a b:Zi}{k k':Int}(ha:Zn a k) (hb:Zn b k'):aC false Tryz.prog 25 [] [gF a,gF b] (aM (.tup [qF (.of (Rat.divInt k k')),.one (tv (.int .i64 (if k'=0 then 20 else 0)))])):=by
 refine bR Tryz.func25 rfl Tryz.ntmps25 rfl aA rfl fun N w c0 h0=>?_
 have hkl:=ha.len
 have hkl':=hb.len
 refine sq ?_;refine rl ?_;refine bx 0 ?_;refine bx 1 ?_;refine al 2 ?_;refine o1 ?_;refine nl ?_;refine sq ?_;refine sq ?_;refine rl ?_;refine ld ?_
 refine ca (lK hb) wA ⟨aB rfl,rfl⟩ (.one (tv (.int .i64 (k').sign))) ?_;refine o1 ?_;refine nl ?_;refine bX rfl (fun h1=>?_) (fun h1=>?_)
 ·refine sq ?_;refine rl ?_;refine ca (Im) DH rfl (qF (.of 0)) ?_;refine st ?_;refine o1 ?_;refine nl ?_;refine rt ?_;have hk0:k'=0:=Int.sign_eq_zero_iff_zero.1 h1
  have hd0:Rat.divInt k k'=0:=by rw[hk0];simp
  exact en (.inl rfl) rfl (jJ (.cons (.agg (.cons (.id rfl) (.cons (.id rfl) (.cons (.id rfl) (.cons (.id rfl) .nil))))) (.cons (cA _) .nil))) (by decide) (fun h=>by cases h) (by rw[if_pos hk0,hd0];rfl)
 refine sk ?_;refine sq ?_;refine sq ?_;have hk0:k'≠0:=fun h9=>h1 (by rw[h9];rfl)
 refine rl ?_;refine ld ?_;refine ca (lK hb) wA ⟨aB rfl,rfl⟩ (.one (tv (.int .i64 (k').sign))) ?_;refine o1 ?_;refine nl ?_;refine bX rfl (fun h2=>?_) (fun h2=>?_)
 ·refine sq ?_;refine rl ?_;refine ld ?_;have hn3:=iI (k)
  refine ca (xD ha) Ll ⟨aB rfl,rfl⟩ (kF (-k)) ?_;refine st ?_;refine nl ?_;refine rl ?_;refine ld ?_;have hn4:=iI (k')
  refine ca (xD hb) Ll ⟨aB rfl,rfl⟩ (kF (-k')) ?_;refine st ?_;refine nl ?_;refine sq ?_;have hkn:k'<0:=Int.sign_neg_iff.1 h2
  refine rl ?_;refine ld ?_;refine ld ?_;have hn5:=zB (k:=-k) (k':=-k') (by omega)
  refine ca (Du (Zn.of (k:=-k) (by omega)) (Zn.of (k:=-k') (by omega))) Tc ⟨aB rfl,aB rfl,rfl⟩ (kF (((Int.gcd (-k) (-k'):Nat):Int))) ?_
  refine al 3 ?_;refine st ?_;refine nl ?_;refine sq ?_;refine rl ?_;refine ld ?_;refine ld ?_
  refine ca (oG (Zn.of (k:=-k) (by omega)) (Zn.of (k:=((Int.gcd (-k) (-k'):Nat):Int)) (by omega)) (xE (by omega))) Lm ⟨aB rfl,aB rfl,rfl⟩ (.tup [kF ((-k).fdiv ((Int.gcd (-k) (-k'):Nat):Int)),kF ((-k).fmod ((Int.gcd (-k) (-k'):Nat):Int)),.one (tv (.int .i64 0))]) ?_
  (iterate 4 refine o1 ?_);refine al 4 ?_;refine al 5 ?_;refine st ?_;refine st ?_;refine o1 ?_;refine nl ?_;refine sq ?_;refine rl ?_;refine ld ?_;refine ld ?_
  refine ca (oG (Zn.of (k:=-k') (by omega)) (Zn.of (k:=((Int.gcd (-k) (-k'):Nat):Int)) (by omega)) (xE (by omega))) Lm ⟨aB rfl,aB rfl,rfl⟩ (.tup [kF ((-k').fdiv ((Int.gcd (-k) (-k'):Nat):Int)),kF ((-k').fmod ((Int.gcd (-k) (-k'):Nat):Int)),.one (tv (.int .i64 0))]) ?_
  (iterate 4 refine o1 ?_);refine al 6 ?_;refine al 7 ?_;refine st ?_;refine st ?_;refine o1 ?_;refine nl ?_;refine sq ?_;refine rl ?_;refine ld ?_;refine ld ?_;refine o1 ?_
  refine st ?_;refine o1 ?_;refine nl ?_;refine rt ?_;obtain⟨hp9,hn9⟩:=Dv (a:=k) hk0
  obtain⟨e1,e2⟩:=hn9 hkn
  exact en (.inl rfl) rfl (jJ (.cons (.agg (.cons (.id rfl) (.cons (.id rfl) (.cons (.id rfl) (.cons (.id rfl) .nil))))) (.cons (cA _) .nil))) (by decide) (fun h=>by cases h) (by rw[if_neg hk0];exact congrArg (fun f=>FV.tup [f,.one (tv (.int .i64 0))]) (uG e1 e2))
 refine sk ?_;refine sq ?_;have hkp:0<k':=by have h9:=mt Int.sign_neg_iff.2 h2;omega
 refine rl ?_;refine ld ?_;refine ld ?_;have hn6:=zB (k:=k) (k':=k') (by omega)
 refine ca (Du ha hb) Tc ⟨aB rfl,aB rfl,rfl⟩ (kF (((Int.gcd k k':Nat):Int))) ?_;refine al 3 ?_;refine st ?_;refine nl ?_;refine sq ?_;refine rl ?_;refine ld ?_;refine ld ?_
 refine ca (oG ha (Zn.of (k:=((Int.gcd k k':Nat):Int)) (by omega)) (xE (by omega))) Lm ⟨aB rfl,aB rfl,rfl⟩ (.tup [kF ((k).fdiv ((Int.gcd k k':Nat):Int)),kF ((k).fmod ((Int.gcd k k':Nat):Int)),.one (tv (.int .i64 0))]) ?_
 (iterate 4 refine o1 ?_);refine al 4 ?_;refine al 5 ?_;refine st ?_;refine st ?_;refine o1 ?_;refine nl ?_;refine sq ?_;refine rl ?_;refine ld ?_;refine ld ?_
 refine ca (oG hb (Zn.of (k:=((Int.gcd k k':Nat):Int)) (by omega)) (xE (by omega))) Lm ⟨aB rfl,aB rfl,rfl⟩ (.tup [kF ((k').fdiv ((Int.gcd k k':Nat):Int)),kF ((k').fmod ((Int.gcd k k':Nat):Int)),.one (tv (.int .i64 0))]) ?_
 (iterate 4 refine o1 ?_);refine al 6 ?_;refine al 7 ?_;refine st ?_;refine st ?_;refine o1 ?_;refine nl ?_;refine sq ?_;refine rl ?_;refine ld ?_;refine ld ?_;refine o1 ?_
 refine st ?_;refine o1 ?_;refine nl ?_;refine rt ?_;obtain⟨hp9,hn9⟩:=Dv (a:=k) hk0
 obtain⟨e1,e2⟩:=hp9 hkp
 exact en (.inl rfl) rfl (jJ (.cons (.agg (.cons (.id rfl) (.cons (.id rfl) (.cons (.id rfl) (.cons (.id rfl) .nil))))) (.cons (cA _) .nil))) (by decide) (fun h=>by cases h) (by rw[if_neg hk0];exact congrArg (fun f=>FV.tup [f,.one (tv (.int .i64 0))]) (uG e1 e2))
theorem HF {n d:Int}(h1:-9223372036854775808≤n) (h2:n≤9223372036854775807) (h3:-9223372036854775808≤d) (h4:d≤9223372036854775807):aC false Tryz.prog 75 [] [.one (tv (.int .i64 n)),.one (tv (.int .i64 d))] (aM (.tup [qF (.of (Rat.divInt n d)),.one (tv (.int .i64 (if d=0 then 20 else 0)))])):=by
 refine bR Tryz.func75 rfl Tryz.ntmps75 rfl aA rfl fun N w c0 h0=>?_
 refine sq ?_;refine rl ?_;refine al 0 ?_;refine o1 ?_;refine nl ?_;refine sq ?_;refine rl ?_;refine o1 ?_;have hn1:=kN (n:=n) (by omega) (by omega)
 refine ca (mT (n:=n) (by omega) (by omega)) qU ⟨a1 rfl,rfl⟩ (kF (n)) ?_
 refine o1 ?_;have hn2:=kN (n:=d) (by omega) (by omega)
 refine ca (mT (n:=d) (by omega) (by omega)) qU ⟨a1 rfl,rfl⟩ (kF (d)) ?_
 refine ca (mD (Zn.of (k:=n) (by omega)) (Zn.of (k:=d) (by omega))) sS ⟨aB rfl,aB rfl,rfl⟩ (.tup [qF (.of (Rat.divInt (n) (d))),.one (tv (.int .i64 (if(d)=0 then 20 else 0)))]) ?_
 refine o1 ?_;refine o1 ?_;refine st ?_;refine o1 ?_;refine nl ?_;refine rt ?_
 exact en (.inl rfl) rfl (jJ (.cons (.agg (.cons (.id rfl) (.cons (.id rfl) (.cons (.id rfl) (.cons (.id rfl) .nil))))) (.cons (cA _) .nil))) (by decide) (fun h=>by cases h) rfl
theorem Ot {a:Fr4}{p:Rat}(ha:Qn a p):aC false Tryz.prog 30 [] [qF a] (aM (qF (.of (-p)))):=by
 refine bR Tryz.func30 rfl Tryz.ntmps30 rfl aA rfl fun N w c0 h0=>?_
 refine sq ?_;refine rl ?_;refine bx 0 ?_;refine al 1 ?_;refine nl ?_;refine sq ?_;refine rl ?_;refine ld ?_;refine ca (lL ha) zC ⟨aB rfl,rfl⟩ (qF (.of p)) ?_;refine st ?_
 refine nl ?_;refine sq ?_;refine rd [0,1] (fun i=>[6].contains i) mixed ?_
 refine dv 0 ?_;refine aU 1 ?_;refine dv 3 ?_;refine aU 4 ?_;refine aI 2 rfl (xD (gA ha.sz)) Ll ⟨aB rfl,rfl⟩ (kF (-p.num)) ?_;refine df 5 ?_;refine dst 6 ?_;refine aN ?_
 refine rt ?_
 exact en (.inl rfl) rfl (aT (.agg (.cons (.id rfl) (.cons (.id rfl) (.cons (.id rfl) (.cons (.id rfl) .nil)))))) (by decide) (fun h=>by cases h) (by unfold qF Fr4.of;rw[Rat.neg_num,Rat.neg_den];rfl)
theorem DI {a b:Fr4}{p q:Rat}(ha:Qn a p) (hb:Qn b q) (hs:Sz 17179869184 p) (hs':Sz 17179869184 q):aC false Tryz.prog 39 [] [qF a,qF b] (aM (qF (.of (p+q)))):=by
 refine bR Tryz.func39 rfl Tryz.ntmps39 rfl aA rfl fun N w c0 h0=>?_
 have hs1:=hs.1
 have hs2:(dg 4294967296 ((p.den:Int)).natAbs).length≤17179869184:=hs.2
 have hs3:=hs'.1
 have hs4:(dg 4294967296 ((q.den:Int)).natAbs).length≤17179869184:=hs'.2
 refine sq ?_;refine rl ?_;refine bx 0 ?_;refine bx 1 ?_;refine al 2 ?_;refine nl ?_;refine sq ?_;refine rl ?_;refine ld ?_;refine ca (lL ha) zC ⟨aB rfl,rfl⟩ (qF (.of p)) ?_
 refine st ?_;refine nl ?_;refine sq ?_;refine rl ?_;refine ld ?_;refine ca (lL hb) zC ⟨aB rfl,rfl⟩ (qF (.of q)) ?_;refine st ?_;refine nl ?_
 refine md (γ:=Unit) (fun _=>cH [(4,.one (.pt 0 0)),(5,.one (.pt 1 0))]) (fun _=>([⟨50,0,[tv (.bool false),tv (.slice none 0 0),tv (.bool false),tv (.slice none 0 0)]⟩,⟨50,0,((Fr4.of (Rat.divInt (p.num*(q.den:Int)+q.num*(p.den:Int)) ((p.den:Int)*(q.den:Int)))).tr false).map .t⟩]:List Ob).map some) (fun _=>True) ?_ fun _ _=>?_
 ·refine rd [0,1,2] (fun i=>[22].contains i) mixed ?_
  refine dv 0 ?_;refine aU 1 ?_;refine dv 2 ?_;refine aU 3 ?_;refine dv 5 ?_;refine aU 6 ?_;refine dv 7 ?_;refine aU 8 ?_;refine dv 11 ?_;refine aU 12 ?_;refine dv 13 ?_
  refine aU 14 ?_;refine WO.two (i:=4) (j:=20) (by kernel_rfl) ?_ ?_
  ·have hn1:=dF (p.num) ((q.den:Int))
   refine cQ 4 rfl (jN (gA hs) (dM hs')) oT ⟨aB rfl,aB rfl,rfl⟩ (kF (p.num*(q.den:Int))) ?_;refine WO.two (i:=9) (j:=20) (by kernel_rfl) ?_ ?_
   ·have hn2:=dF (q.num) ((p.den:Int))
    refine cQ 9 rfl (jN (gA hs') (dM hs)) oT ⟨aB rfl,aB rfl,rfl⟩ (kF (q.num*(p.den:Int))) ?_;refine WO.two (i:=10) (j:=20) (by kernel_rfl) ?_ ?_
    ·have hn3:=gK (p.num*(q.den:Int)) (q.num*(p.den:Int))
     refine cQ 10 rfl (pR (Zn.of (k:=p.num*(q.den:Int)) (by omega)) (Zn.of (k:=q.num*(p.den:Int)) (by omega))) zD ⟨aB rfl,aB rfl,rfl⟩ (kF (p.num*(q.den:Int)+q.num*(p.den:Int))) ?_
     refine WO.two (i:=15) (j:=20) (by kernel_rfl) ?_ ?_
     ·have hn4:=dF ((p.den:Int)) ((q.den:Int))
      refine cQ 15 rfl (jN (dM hs) (dM hs')) oT ⟨aB rfl,aB rfl,rfl⟩ (kF ((p.den:Int)*(q.den:Int))) ?_;refine WO.two (i:=16) (j:=20) (by kernel_rfl) ?_ ?_
      ·refine cQ 16 rfl (mD (Zn.of (k:=p.num*(q.den:Int)+q.num*(p.den:Int)) (by omega)) (Zn.of (k:=(p.den:Int)*(q.den:Int)) (by omega))) sS ⟨aB rfl,aB rfl,rfl⟩ (.tup [qF (.of (Rat.divInt (p.num*(q.den:Int)+q.num*(p.den:Int)) ((p.den:Int)*(q.den:Int)))),.one (tv (.int .i64 (if((p.den:Int)*(q.den:Int))=0 then 20 else 0)))]) ?_
       refine df 17 ?_;refine df 18 ?_;refine df 19 ?_;refine eA (key:=3) 20 (by kernel_rfl) rfl rfl aA rfl ⟨rfl,rfl,rfl,trivial⟩ ?_
       refine aR 21 (by kernel_rfl) rfl rfl aA rfl rfl rfl rfl ⟨rfl,rfl,rfl,trivial⟩ ?_
       refine dI 22 (by kernel_rfl) rfl rfl aA rfl (by trivial) ?_ (fun h=>by first | rfl | cases h)
       refine aN ?_;exact⟨(),trivial,aL h0 [2,3] _ _ (by decide) ⟨rfl,rfl,trivial⟩ ⟨oe rfl rfl,oe rfl rfl,rfl⟩⟩
      refine bU (key:=3) 20 rfl rfl aA rfl ⟨rfl,rfl,rfl,trivial⟩ ?_
      refine aI 16 rfl (mD (Zn.of (k:=p.num*(q.den:Int)+q.num*(p.den:Int)) (by omega)) (Zn.of (k:=(p.den:Int)*(q.den:Int)) (by omega))) sS ⟨aB rfl,aB rfl,rfl⟩ (.tup [qF (.of (Rat.divInt (p.num*(q.den:Int)+q.num*(p.den:Int)) ((p.den:Int)*(q.den:Int)))),.one (tv (.int .i64 (if((p.den:Int)*(q.den:Int))=0 then 20 else 0)))]) ?_
      refine df 17 ?_;refine df 18 ?_;refine df 19 ?_;refine aR 21 (by kernel_rfl) rfl rfl aA rfl rfl rfl rfl ⟨rfl,rfl,rfl,trivial⟩ ?_
      refine dI 22 (by kernel_rfl) rfl rfl aA rfl (by trivial) ?_ (fun h=>by first | rfl | cases h)
      refine aN ?_;exact⟨(),trivial,aL h0 [2,3] _ _ (by decide) ⟨rfl,rfl,trivial⟩ ⟨oe rfl rfl,oe rfl rfl,rfl⟩⟩
     refine bU (key:=3) 20 rfl rfl aA rfl ⟨rfl,rfl,rfl,trivial⟩ ?_;have hn5:=dF ((p.den:Int)) ((q.den:Int))
     refine aI 15 rfl (jN (dM hs) (dM hs')) oT ⟨aB rfl,aB rfl,rfl⟩ (kF ((p.den:Int)*(q.den:Int))) ?_
     refine aI 16 rfl (mD (Zn.of (k:=p.num*(q.den:Int)+q.num*(p.den:Int)) (by omega)) (Zn.of (k:=(p.den:Int)*(q.den:Int)) (by omega))) sS ⟨aB rfl,aB rfl,rfl⟩ (.tup [qF (.of (Rat.divInt (p.num*(q.den:Int)+q.num*(p.den:Int)) ((p.den:Int)*(q.den:Int)))),.one (tv (.int .i64 (if((p.den:Int)*(q.den:Int))=0 then 20 else 0)))]) ?_
     refine df 17 ?_;refine df 18 ?_;refine df 19 ?_;refine aR 21 (by kernel_rfl) rfl rfl aA rfl rfl rfl rfl ⟨rfl,rfl,rfl,trivial⟩ ?_
     refine dI 22 (by kernel_rfl) rfl rfl aA rfl (by trivial) ?_ (fun h=>by first | rfl | cases h)
     refine aN ?_;exact⟨(),trivial,aL h0 [2,3] _ _ (by decide) ⟨rfl,rfl,trivial⟩ ⟨oe rfl rfl,oe rfl rfl,rfl⟩⟩
    refine bU (key:=3) 20 rfl rfl aA rfl ⟨rfl,rfl,rfl,trivial⟩ ?_;have hn6:=gK (p.num*(q.den:Int)) (q.num*(p.den:Int))
    refine aI 10 rfl (pR (Zn.of (k:=p.num*(q.den:Int)) (by omega)) (Zn.of (k:=q.num*(p.den:Int)) (by omega))) zD ⟨aB rfl,aB rfl,rfl⟩ (kF (p.num*(q.den:Int)+q.num*(p.den:Int))) ?_
    have hn7:=dF ((p.den:Int)) ((q.den:Int))
    refine aI 15 rfl (jN (dM hs) (dM hs')) oT ⟨aB rfl,aB rfl,rfl⟩ (kF ((p.den:Int)*(q.den:Int))) ?_
    refine aI 16 rfl (mD (Zn.of (k:=p.num*(q.den:Int)+q.num*(p.den:Int)) (by omega)) (Zn.of (k:=(p.den:Int)*(q.den:Int)) (by omega))) sS ⟨aB rfl,aB rfl,rfl⟩ (.tup [qF (.of (Rat.divInt (p.num*(q.den:Int)+q.num*(p.den:Int)) ((p.den:Int)*(q.den:Int)))),.one (tv (.int .i64 (if((p.den:Int)*(q.den:Int))=0 then 20 else 0)))]) ?_
    refine df 17 ?_;refine df 18 ?_;refine df 19 ?_;refine aR 21 (by kernel_rfl) rfl rfl aA rfl rfl rfl rfl ⟨rfl,rfl,rfl,trivial⟩ ?_
    refine dI 22 (by kernel_rfl) rfl rfl aA rfl (by trivial) ?_ (fun h=>by first | rfl | cases h)
    refine aN ?_;exact⟨(),trivial,aL h0 [2,3] _ _ (by decide) ⟨rfl,rfl,trivial⟩ ⟨oe rfl rfl,oe rfl rfl,rfl⟩⟩
   refine bU (key:=3) 20 rfl rfl aA rfl ⟨rfl,rfl,rfl,trivial⟩ ?_;have hn8:=dF (q.num) ((p.den:Int))
   refine aI 9 rfl (jN (gA hs') (dM hs)) oT ⟨aB rfl,aB rfl,rfl⟩ (kF (q.num*(p.den:Int))) ?_;have hn9:=gK (p.num*(q.den:Int)) (q.num*(p.den:Int))
   refine aI 10 rfl (pR (Zn.of (k:=p.num*(q.den:Int)) (by omega)) (Zn.of (k:=q.num*(p.den:Int)) (by omega))) zD ⟨aB rfl,aB rfl,rfl⟩ (kF (p.num*(q.den:Int)+q.num*(p.den:Int))) ?_
   have hn10:=dF ((p.den:Int)) ((q.den:Int))
   refine aI 15 rfl (jN (dM hs) (dM hs')) oT ⟨aB rfl,aB rfl,rfl⟩ (kF ((p.den:Int)*(q.den:Int))) ?_
   refine aI 16 rfl (mD (Zn.of (k:=p.num*(q.den:Int)+q.num*(p.den:Int)) (by omega)) (Zn.of (k:=(p.den:Int)*(q.den:Int)) (by omega))) sS ⟨aB rfl,aB rfl,rfl⟩ (.tup [qF (.of (Rat.divInt (p.num*(q.den:Int)+q.num*(p.den:Int)) ((p.den:Int)*(q.den:Int)))),.one (tv (.int .i64 (if((p.den:Int)*(q.den:Int))=0 then 20 else 0)))]) ?_
   refine df 17 ?_;refine df 18 ?_;refine df 19 ?_;refine aR 21 (by kernel_rfl) rfl rfl aA rfl rfl rfl rfl ⟨rfl,rfl,rfl,trivial⟩ ?_
   refine dI 22 (by kernel_rfl) rfl rfl aA rfl (by trivial) ?_ (fun h=>by first | rfl | cases h)
   refine aN ?_;exact⟨(),trivial,aL h0 [2,3] _ _ (by decide) ⟨rfl,rfl,trivial⟩ ⟨oe rfl rfl,oe rfl rfl,rfl⟩⟩
  refine bU (key:=3) 20 rfl rfl aA rfl ⟨rfl,rfl,rfl,trivial⟩ ?_;have hn11:=dF (p.num) ((q.den:Int))
  refine aI 4 rfl (jN (gA hs) (dM hs')) oT ⟨aB rfl,aB rfl,rfl⟩ (kF (p.num*(q.den:Int))) ?_;have hn12:=dF (q.num) ((p.den:Int))
  refine aI 9 rfl (jN (gA hs') (dM hs)) oT ⟨aB rfl,aB rfl,rfl⟩ (kF (q.num*(p.den:Int))) ?_;have hn13:=gK (p.num*(q.den:Int)) (q.num*(p.den:Int))
  refine aI 10 rfl (pR (Zn.of (k:=p.num*(q.den:Int)) (by omega)) (Zn.of (k:=q.num*(p.den:Int)) (by omega))) zD ⟨aB rfl,aB rfl,rfl⟩ (kF (p.num*(q.den:Int)+q.num*(p.den:Int))) ?_
  have hn14:=dF ((p.den:Int)) ((q.den:Int))
  refine aI 15 rfl (jN (dM hs) (dM hs')) oT ⟨aB rfl,aB rfl,rfl⟩ (kF ((p.den:Int)*(q.den:Int))) ?_
  refine aI 16 rfl (mD (Zn.of (k:=p.num*(q.den:Int)+q.num*(p.den:Int)) (by omega)) (Zn.of (k:=(p.den:Int)*(q.den:Int)) (by omega))) sS ⟨aB rfl,aB rfl,rfl⟩ (.tup [qF (.of (Rat.divInt (p.num*(q.den:Int)+q.num*(p.den:Int)) ((p.den:Int)*(q.den:Int)))),.one (tv (.int .i64 (if((p.den:Int)*(q.den:Int))=0 then 20 else 0)))]) ?_
  refine df 17 ?_;refine df 18 ?_;refine df 19 ?_;refine aR 21 (by kernel_rfl) rfl rfl aA rfl rfl rfl rfl ⟨rfl,rfl,rfl,trivial⟩ ?_
  refine dI 22 (by kernel_rfl) rfl rfl aA rfl (by trivial) ?_ (fun h=>by first | rfl | cases h)
  refine aN ?_;exact⟨(),trivial,aL h0 [2,3] _ _ (by decide) ⟨rfl,rfl,trivial⟩ ⟨oe rfl rfl,oe rfl rfl,rfl⟩⟩
 refine sq ?_;refine rl ?_;refine ld ?_;refine st ?_;refine nl ?_;refine rt ?_
 exact en (.inl rfl) rfl (aT (.agg (.cons (.id rfl) (.cons (.id rfl) (.cons (.id rfl) (.cons (.id rfl) .nil)))))) (by decide) (fun h=>by cases h) (by rw[←oH];rfl)
theorem Ou {a b:Fr4}{p q:Rat}(ha:Qn a p) (hb:Qn b q) (hs:Sz 17179869184 p) (hs':Sz 17179869184 q):aC false Tryz.prog 27 [] [qF a,qF b] (aM (qF (.of (p-q)))):=by
 refine bR Tryz.func27 rfl Tryz.ntmps27 rfl aA rfl fun N w c0 h0=>?_
 refine sq ?_;refine rl ?_;refine bx 0 ?_;refine bx 1 ?_;refine al 2 ?_;refine nl ?_;refine sq ?_;refine rd [0,1,2] (fun i=>[4].contains i) mixed ?_
 refine aU 0 ?_;refine aU 1 ?_;refine aI 2 rfl (Ot hb) DJ ⟨aB rfl,rfl⟩ (qF (.of (-q))) ?_
 refine aI 3 rfl (DI ha (Qn.of (p:=(-q)) (mB hs')) hs (mB hs')) KA ⟨aB rfl,aB rfl,rfl⟩ (qF (.of (p+(-q)))) ?_;refine dst 4 ?_;refine aN ?_;refine rt ?_
 exact en (.inl rfl) rfl (aT (.agg (.cons (.id rfl) (.cons (.id rfl) (.cons (.id rfl) (.cons (.id rfl) .nil)))))) (by decide) (fun h=>by cases h) (by rw[Rat.sub_eq_add_neg];rfl)
theorem zE {a:Fr4}{p:Rat}(ha:Qn a p):aC true Tryz.prog 32 [] [qF a] (aM (.one (tv (.int .i64 p.num.sign)))):=by
 refine bR Tryz.func32 rfl Tryz.ntmps32 rfl aA rfl fun N w c0 h0=>?_
 refine sq ?_;refine rl ?_;refine bx 0 ?_;refine o1 ?_;refine nl ?_;refine sq ?_;refine rl ?_;refine ld ?_;refine ca (lL ha) zC ⟨aB rfl,rfl⟩ (qF (.of p)) ?_;refine o1 ?_
 refine ca (lK (gA ha.sz)) wA ⟨aB rfl,rfl⟩ (.one (tv (.int .i64 (p.num).sign))) ?_;refine o1 ?_;refine nl ?_;refine rt ?_
 exact en (.inl rfl) rfl (aT (cA _)) (by decide) (fun _=>trivial) rfl
theorem xF {a b:Fr4}{p q:Rat}(ha:Qn a p) (hb:Qn b q) (hs:Sz 17179869184 p) (hs':Sz 17179869184 q):aC true Tryz.prog 28 [] [qF a,qF b] (aM (.one (tv (.int .i64 (p-q).num.sign)))):=by
 refine bR Tryz.func28 rfl Tryz.ntmps28 rfl aA rfl fun N w c0 h0=>?_
 refine sq ?_;refine rl ?_;refine bx 0 ?_;refine bx 1 ?_;refine o1 ?_;refine nl ?_;refine sq ?_;refine rl ?_;refine ld ?_;refine ld ?_
 refine ca (Ou ha hb hs hs') DK ⟨aB rfl,aB rfl,rfl⟩ (qF (.of (p-q))) ?_
 refine ca (zE (Qn.of (p:=(p-q)) (Ov hs hs'))) Te ⟨aB rfl,rfl⟩ (.one (tv (.int .i64 (p-q).num.sign))) ?_;refine o1 ?_;refine nl ?_;refine rt ?_
 exact en (.inl rfl) rfl (aT (cA _)) (by decide) (fun _=>trivial) rfl
theorem Tf (k:Int):Rat.divInt k 1=(k:Rat):=by
 have h:=oS k 1 (by omega)
 rwa[show((1:Int):Rat)=1 from rfl,Rat.mul_one]at h
theorem uH {xs:List Nat}(hx:xs.length≤1099511627776):aC true Tryz.prog 68 [] [.one (.t (sU false xs))] (aM (.one (.t (sU true xs)))):=by
 refine bR Tryz.func68 rfl Tryz.ntmps68 rfl aA rfl fun N w c0 h0=>?_
 refine sq ?_;refine rl ?_;refine o1 ?_;refine nl ?_;refine sq ?_;refine rl ?_;refine o1 ?_;refine nl ?_;refine sq ?_;refine rl ?_;refine o1 ?_;refine o1 ?_
 refine gC (j:=0) aA rfl rfl rfl rfl .nil .fz (Ow _) (Dw _) rfl (by omega) (by omega) ?_
 refine o1 ?_;refine nl ?_;refine rt ?_
 exact en (.inl rfl) rfl (aT (.one (.sl rfl rfl (by rw[Nat.zero_add,Nat.mul_one,List.nil_append,List.take_of_length_le (by simp[fN])]) (by simp[fN])))) (by decide) (fun _=>.inl ⟨rfl,eC xs⟩) (by simp[aM,sU])
theorem nP {a:Fr4}(ha:a.len 1099511627776):aC true Tryz.prog 24 [] [qF a] (aM (rO a)):=by
 refine bR Tryz.func24 rfl Tryz.ntmps24 rfl aA rfl fun N w c0 h0=>?_
 refine sq ?_;refine rl ?_;refine bx 0 ?_;refine al 1 ?_;refine nl ?_;refine sq ?_;refine rd [0,1] (fun i=>[17].contains i) mixed ?_
 refine dv 0 ?_;refine dv 1 ?_;refine aU 2 ?_;refine dv 3 ?_;refine dv 4 ?_;refine aU 5 ?_;refine dv 8 ?_;refine dv 9 ?_;refine aU 10 ?_;refine dv 11 ?_;refine dv 12 ?_;refine aU 13 ?_
 refine iF 2 6 rfl (uH ha.1) Ln ⟨a1 rfl,rfl⟩ ?_;refine df 7 ?_;refine iF 3 14 rfl (uH ha.2) Ln ⟨a1 rfl,rfl⟩ ?_;refine df 15 ?_;refine df 16 ?_;refine dst 17 ?_;refine aN ?_
 refine rt ?_
 exact en (.inl rfl) rfl (aT (.agg (.cons (.id rfl) (.cons (.sl (trs:=aJ a.x) rfl rfl (aW _) (aP _)) (.cons (.id rfl) (.cons (.sl (trs:=aJ a.y) rfl rfl (aW _) (aP _)) .nil)))))) (by decide) (fun _=>pS a) rfl
theorem Yu {a:Fr4}(ha:a.len 1099511627776):aC true Tryz.prog 76 [] [qF a] (aM (rO a)):=by
 refine bR Tryz.func76 rfl Tryz.ntmps76 rfl aA rfl fun N w c0 h0=>?_
 refine sq ?_;refine rl ?_;refine bx 0 ?_;refine al 1 ?_;refine nl ?_;refine sq ?_;refine rd [0,1] (fun i=>[17].contains i) mixed ?_
 refine dv 0 ?_;refine dv 1 ?_;refine aU 2 ?_;refine dv 3 ?_;refine dv 4 ?_;refine aU 5 ?_;refine dv 8 ?_;refine dv 9 ?_;refine aU 10 ?_;refine dv 11 ?_;refine dv 12 ?_;refine aU 13 ?_
 refine iF 2 6 rfl (uH ha.1) Ln ⟨a1 rfl,rfl⟩ ?_;refine df 7 ?_;refine iF 3 14 rfl (uH ha.2) Ln ⟨a1 rfl,rfl⟩ ?_;refine df 15 ?_;refine df 16 ?_;refine dst 17 ?_;refine aN ?_
 refine rt ?_
 exact en (.inl rfl) rfl (aT (.agg (.cons (.id rfl) (.cons (.sl (trs:=aJ a.x) rfl rfl (aW _) (aP _)) (.cons (.id rfl) (.cons (.sl (trs:=aJ a.y) rfl rfl (aW _) (aP _)) .nil)))))) (by decide) (fun _=>pS a) rfl
theorem Dx {n d:Int}(h1:-9223372036854775808≤n) (h2:n≤9223372036854775807) (h3:-9223372036854775808≤d) (h4:d≤9223372036854775807):aC true Tryz.prog 35 [] [.one (tv (.int .i64 n)),.one (tv (.int .i64 d))] (aM (qO (Rat.divInt n d))):=by
 refine bR Tryz.func35 rfl Tryz.ntmps35 rfl aA rfl fun N w c0 h0=>?_
 have hs:=HH h1 h2 h3 h4
 have hl:(Fr4.of (Rat.divInt n d)).len 1099511627776:=⟨Nat.le_trans hs.1 (by omega),Nat.le_trans hs.2 (by omega)⟩
 refine sq ?_;refine rl ?_;refine al 0 ?_;refine nl ?_;refine sq ?_;refine rl ?_;refine o1 ?_;refine o1 ?_
 refine ca (HF h1 h2 h3 h4) KB ⟨a1 rfl,a1 rfl,rfl⟩ (.tup [qF (.of (Rat.divInt n d)),.one (tv (.int .i64 (if d=0 then 20 else 0)))]) ?_;(iterate 3 refine o1 ?_);refine al 1 ?_;refine st ?_
 refine o1 ?_;refine nl ?_;refine sq ?_;refine rl ?_;refine ld ?_;refine fG 2 (Yu (a:=.of (Rat.divInt n d)) hl) KC ⟨aB rfl,rfl⟩ ?_;refine st ?_;refine nl ?_;refine rt ?_
 exact en (.inl rfl) rfl (aT (.agg (.cons (.id rfl) (.cons (.sl (trs:=aJ (dg 4294967296 (Rat.divInt n d).num.natAbs)) rfl rfl (aW _) (aP _)) (.cons (.id rfl) (.cons (.sl (trs:=aJ (dg 4294967296 (Rat.divInt n d).den)) rfl rfl (aW _) (aP _)) .nil)))))) (by decide) (fun _=>sD _) rfl
theorem DL {a:Zi}{xs:List Fr4}:aC true Tryz.prog 7 [] [gF a,.one (.t (sQ false xs))] (aM (.one (tv (.bool (sR a xs))))):=by
 refine bR Tryz.func7 rfl Tryz.ntmps7 rfl aA rfl fun N9 w9 c0 h0=>?_
 refine WP.sln (i:=1) rfl fun hlen=>?_
 refine sq ?_;refine rl ?_;refine bx 0 ?_;refine o1 ?_;refine nl ?_;refine sq ?_;refine sq ?_;refine rl ?_;refine o1 ?_;refine nl ?_;refine bl ?_
 refine lp (γ:=Nat) (fun s=>cH [(1,.one (.t (sQ false xs))),(2,.one (.pt 0 0)),(5,.one (tv (.int .i64 ((s:Nat):Int))))]) (fun s=>[(⟨24,0,[tv (.bool a.s),.t (sU false a.x)]⟩:Ob)].map some) (fun s=>s≤xs.length∧∀j,j<s→gP (bJ xs j)=true) (fun s=>xs.length-s) 0 ⟨Nat.zero_le _,fun j hj=>absurd hj (Nat.not_lt_zero j)⟩ (aL h0 [0] _ _ (by decide) ⟨rfl,rfl,rfl,trivial⟩ ⟨oe rfl rfl,rfl⟩) ?_
 rintro k9 ⟨hk9,hA⟩;refine sq ?_;refine sq ?_;refine rl ?_;(iterate 4 refine o1 ?_);refine nl ?_;refine bX rfl (fun h1=>?_) (fun h1=>?_)
 ·refine sk ?_;refine sq ?_;refine bl ?_;refine sq ?_;refine rl ?_;(iterate 5 refine o1 ?_)
  refine fS ([sU false (bJ xs (k9)).x]) (eR (f:=(Fr4.tr false)) (z:=4) (o:=1) (fun _=>rfl) (eN (by omega)) (Nat.le_of_ble_eq_true rfl) rfl) ?_
  (iterate 3 refine o1 ?_);refine WL.split (t:=20) rfl (fun h2=>?_) (fun h2=>?_)
  ·(iterate 8 refine eL ?_);refine o1 ?_;refine nl ?_;refine mP rfl ?_;refine sq ?_;refine rl ?_;refine o1 ?_;refine nl ?_;refine rt ?_
   have hs9:gP (bJ xs k9)=false:=by simp only[gP,Bool.and_eq_false_iff,decide_eq_false_iff_not];left;omega
   exact oF (.inl rfl) rfl (Ik (a:=a) (by omega) hs9)
  (iterate 5 refine o1 ?_);refine fS ([sU false (bJ xs (k9)).y]) (eR (f:=(Fr4.tr false)) (z:=4) (o:=3) (fun _=>rfl) (eN (by omega)) (Nat.le_of_ble_eq_true rfl) rfl) ?_
  (iterate 3 refine o1 ?_);refine nl ?_;refine bX rfl (fun h3=>?_) (fun h3=>?_)
  ·refine sq ?_;refine rl ?_;refine o1 ?_;refine nl ?_;refine rt ?_
   have hs9:gP (bJ xs k9)=false:=by simp only[gP,Bool.and_eq_false_iff,decide_eq_false_iff_not];right;omega
   exact oF (.inl rfl) rfl (Ik (a:=a) (by omega) hs9)
  refine sk ?_;refine rl ?_;refine o1 ?_;refine o1 ?_;refine WL.cast (t:=11) (u':=.int .i64 ((k9+1:Nat):Int)) rfl (aK (by omega)) ?_
  refine o1 ?_;refine nl ?_;have hs9:gP (bJ xs k9)=true:=by simp only[gP,Bool.and_eq_true,decide_eq_true_eq];exact⟨by omega,by omega⟩
  exact⟨k9+1,by omega,⟨by omega,HI (f:=fun j=>gP (bJ xs j)) hA hs9⟩,aL h0 [0] _ _ (by decide) ⟨rfl,rfl,rfl,trivial⟩ ⟨oe rfl rfl,rfl⟩⟩
 refine ex ?_;refine sq ?_;refine rl ?_;refine o1 ?_;refine ld ?_;(iterate 3 refine o1 ?_);refine WL.split (t:=34) rfl (fun h4=>?_) (fun h4=>?_)
 ·(iterate 5 refine o1 ?_);refine nl ?_;refine rt ?_;have hy9:=Dr (a:=a) (k:=k9) hA (by omega)
  exact oF (.inl rfl) rfl (by rw[←hy9,decide_eq_true (show a.x.length≤6 by omega),Bool.true_and];exact decide_eq_decide.2 (by omega))
 (iterate 3 refine eL ?_);refine o1 ?_;refine o1 ?_;refine nl ?_;refine rt ?_;have hy9:=Dr (a:=a) (k:=k9) hA (by omega)
 exact oF (.inl rfl) rfl (by rw[←hy9,decide_eq_false (show¬a.x.length≤6 by omega),Bool.false_and])
theorem HJ {a:Zi}(hl:a.x.length≤1000000):aC true Tryz.prog 11 [] [gF a] (aM (gO a)):=by
 refine bR Tryz.func11 rfl Tryz.ntmps11 rfl aA rfl fun N9 w9 c0 h0=>?_
 refine sq ?_;refine rl ?_;refine bx 0 ?_;refine al 1 ?_;refine nl ?_;refine sq ?_;refine rl ?_;refine o1 ?_;refine ld ?_;refine o1 ?_;refine al 2 ?_;refine st ?_;refine nl ?_
 refine sq ?_;refine rl ?_;refine o1 ?_;refine ld ?_;refine o1 ?_;refine ld ?_;refine gC (j:=3) aA rfl rfl rfl rfl .nil .fz (Ow _) (Dw _) rfl (by omega) (by omega) ?_
 refine o1 ?_;refine st ?_;refine nl ?_;refine sq ?_;refine rl ?_;refine ld ?_;refine st ?_;refine nl ?_;refine rt ?_
 exact en (.inl rfl) rfl (aT (.agg (.cons (.id rfl) (.cons (.sl (trs:=aJ a.x) rfl rfl (by rw[Nat.zero_add];exact aW _) (by rw[Nat.zero_add];exact aP _)) .nil)))) (by decide) (fun _=>⟨trivial,.inl ⟨rfl,eC _⟩,trivial⟩) (by rw[Nat.zero_add];rfl)
theorem Tg {k:Int}(h:jT k=true):aC true Tryz.prog 79 [] [kF k] (aM (.tup [.one (tv (.int .i64 k)),.one (tv (.bool true))])):=by
 have h2:-9223372036854775808≤k∧k≤9223372036854775807:=of_decide_eq_true h
 have h1:=Df (Zn.of (k:=k) (Nat.le_trans (kN h2.1 h2.2) (by omega)))
 rw[h,if_pos rfl]at h1
 exact h1
theorem xG {l:List Int}(hs:∀k∈l,jT k=true):aC true Tryz.prog 37 [] [.one (.t (sZ 24 (aX l))),.one (.t (.s false 2 1 l.length (iT l)))] (aM (.one (tv (.bool true)))):=by
 refine bR Tryz.func37 rfl Tryz.ntmps37 rfl aA rfl fun N9 w9 c0 h0=>?_
 refine WP.sln (i:=0) rfl fun hlen=>?_
 have hzl:(aX l).length=l.length:=dP l
 refine sq ?_;refine rl ?_;refine o1 ?_;refine nl ?_;refine sq ?_;refine sq ?_;refine rl ?_;(iterate 5 refine o1 ?_);refine nl ?_;refine bX rfl (fun h1=>?_) (fun h1=>?_)
 ·exact absurd (by rw[hzl]) h1
 refine sk ?_;refine sq ?_;refine sq ?_;refine rl ?_;refine o1 ?_;refine nl ?_;refine bl ?_
 refine lp (γ:=Nat) (fun s=>cH [(0,.one (.t (sZ 24 (aX l)))),(1,.one (.t (.s false 2 1 l.length (iT l)))),(5,.one (tv (.int .i64 ((s:Nat):Int))))]) (fun s=>([]:List Ob).map some) (fun s=>s≤(aX l).length) (fun s=>(aX l).length-s) 0 (Nat.zero_le _) (aL h0 [] _ _ (by decide) ⟨rfl,rfl,rfl,trivial⟩ rfl) ?_
 rintro k9 hk9;refine sq ?_;refine sq ?_;refine rl ?_;(iterate 4 refine o1 ?_);refine nl ?_;refine bX rfl (fun h2=>?_) (fun h2=>?_)
 ·refine sk ?_;refine sq ?_;refine bl ?_;refine sq ?_;refine rl ?_;(iterate 3 refine o1 ?_)
  refine fS ((dD false (.of (aV l (k9))))) (uF (l:=l) (k:=k9) (by rw[dP]at*;omega)) ?_
  refine ca (Tg (k:=(aV l (k9))) (hs _ (nO (by rw[dP]at*;omega)))) CY ⟨aB rfl,rfl⟩ (.tup [.one (tv (.int .i64 (aV l (k9)))),.one (tv (.bool true))]) ?_
  (iterate 5 refine o1 ?_);refine nl ?_;refine sq ?_;refine rl ?_;(iterate 7 refine o1 ?_);refine fS ([.v (.int .i64 (aV l (k9)))]) (HC (l:=l) (k:=k9) (by omega)) ?_
  refine o1 ?_;refine o1 ?_;refine nl ?_;refine bX rfl (fun h3=>?_) (fun h3=>?_)
  ·exact absurd rfl h3
  refine sk ?_;refine rl ?_;refine o1 ?_;refine o1 ?_;refine WL.cast (t:=18) (u':=.int .i64 ((k9+1:Nat):Int)) rfl (aK (by omega)) ?_
  refine o1 ?_;refine nl ?_;exact⟨k9+1,by omega,by omega,aL h0 [] _ _ (by decide) ⟨rfl,rfl,rfl,trivial⟩ rfl⟩
 refine ex ?_;refine sq ?_;refine rl ?_;refine o1 ?_;refine nl ?_;refine rt ?_;exact oF (.inl rfl) rfl (rfl)
theorem iV {k b:Int}{ws:List Rat}{l:List Int}(hk:k.natAbs<4294967296^6) (h:aY (aS (k:Rat) b ws)=l) (hE:pL b ws.length=0) (hs:∀q∈ws,q.num.natAbs<4294967296^7∧q.den<4294967296^7) (hl:ws.length≤12):aC false Tryz.prog 13 [] [kF k,.one (tv (.int .i64 b)),.one (.t (sQ false (gD ws)))] (aM (.tup [.one (.t (.s true 24 2 l.length ((aX l).flatMap (dD true)))),.one (tv (.int .i64 0))])):=by
 have hz:∀q∈ws,Sz 7 q:=fun q hq=>⟨bY (by omega) (hs q hq).1,bY (by omega) (hs q hq).2⟩
 have hsz:jD 6 k:=bY (by omega) hk
 have h1:=xC (a:=.of k) (k:=k) (b:=b) (xs:=gD ws) (Zn.of (Nat.le_trans hsz (by omega))) hsz (pK hz (by omega)) (sL hz) (by rw[kA];exact hl)
 rw[uA,kA,hE,h]at h1
 unfold wZ at h1
 rw[dP]at h1
 exact h1
theorem qV:aC true Tryz.prog 8 [] [] (aM (.one (tv (.bool true)))):=by
 refine bR Tryz.func8 rfl Tryz.ntmps8 rfl aA rfl fun N9 w9 c0 h0=>?_
 refine sq ?_;refine rl ?_;refine o1 ?_;refine nl ?_;refine sq ?_;refine rl ?_
 refine ca (Dx (n:=1) (d:=1) (by omega) (by omega) (by omega) (by omega)) Dy ⟨a1 rfl,a1 rfl,rfl⟩ (qF (.of (Rat.divInt 1 1))) ?_
 refine ca (Dx (n:=2) (d:=1) (by omega) (by omega) (by omega) (by omega)) Dy ⟨a1 rfl,a1 rfl,rfl⟩ (qF (.of (Rat.divInt 2 1))) ?_
 refine ca (Dx (n:=4) (d:=1) (by omega) (by omega) (by omega) (by omega)) Dy ⟨a1 rfl,a1 rfl,rfl⟩ (qF (.of (Rat.divInt 4 1))) ?_
 refine al 0 ?_;refine al 1 ?_;refine al 2 ?_;(iterate 3 refine st ?_);refine nl ?_
 refine md (γ:=Unit) (fun _=>cH [(1,.one (.pt 0 0)),(2,.one (.pt 1 0)),(3,.one (.pt 2 0)),(4,.one (.t (.s false 24 2 ([34,33,33]:List Int).length ((aX [34,33,33]).flatMap (dD true))))),(5,.one (tv (.int .i64 ((0:Nat):Int))))]) (fun _=>([⟨48,0,((Fr4.of (Rat.divInt 1 1)).tr false).map .t⟩,⟨48,0,((Fr4.of (Rat.divInt 2 1)).tr false).map .t⟩,⟨48,0,((Fr4.of (Rat.divInt 4 1)).tr false).map .t⟩]:List Ob).map some) (fun _=>True) ?_ fun _ _=>?_
 ·refine rd [0,1,2] (fun i=>[10].contains i) mixed ?_
  refine aU 1 ?_;refine aU 2 ?_;refine aU 3 ?_;refine WO.two (i:=0) (j:=4) (by kernel_rfl) ?_ ?_
  ·refine cQ 0 rfl (jE (n:=100) (by omega) (by omega)) jF ⟨a1 rfl,rfl⟩ (kF 100) ?_
   refine qS (key:=3) 4 (by kernel_rfl) rfl rfl aA rfl ⟨rfl,rfl,rfl,trivial⟩ ?_
   refine sH (i:=22) (k:=3) (t:=48) (t':=50) (z:=4) (n:=3) (l:=(gD [(Rat.divInt 1 1),(Rat.divInt 1 1),(Rat.divInt 1 1)]).flatMap (Fr4.tr false)) rfl rfl rfl rfl (.one .sl) (by rfl) (by rfl) ?_
   refine aI 5 rfl (iV (k:=100) (b:=0) (ws:=[(Rat.divInt 1 1),(Rat.divInt 1 1),(Rat.divInt 1 1)]) (l:=[34,33,33]) (by decide) (by decide+kernel) (by decide+kernel) (by decide+kernel) (by decide)) oU ⟨aB rfl,a1 rfl,a1 rfl,rfl⟩ (.tup [.one (.t (.s false 24 2 ([34,33,33]:List Int).length ((aX [34,33,33]).flatMap (dD true)))),.one (tv (.int .i64 0))]) ?_
   refine df 6 ?_;refine df 7 ?_;refine df 8 ?_;refine dI 9 (by kernel_rfl) rfl rfl aA rfl (by trivial) ?_ (fun h=>by first | rfl | cases h)
   refine dI 10 (by kernel_rfl) rfl rfl aA rfl (by trivial) ?_ (fun h=>by first | rfl | cases h)
   refine aN ?_;exact⟨(),trivial,aL h0 [0,1,2] _ _ (by decide) ⟨rfl,rfl,rfl,rfl,rfl,trivial⟩ ⟨oe rfl rfl,oe rfl rfl,oe rfl rfl,rfl⟩⟩
  refine Lo (key:=3) 4 rfl rfl ⟨rfl,rfl,rfl,trivial⟩ ?_
  refine sH (i:=22) (k:=3) (t:=48) (t':=50) (z:=4) (n:=3) (l:=(gD [(Rat.divInt 1 1),(Rat.divInt 1 1),(Rat.divInt 1 1)]).flatMap (Fr4.tr false)) rfl rfl rfl rfl (.one .sl) (by rfl) (by rfl) ?_
  refine aI 0 rfl (jE (n:=100) (by omega) (by omega)) jF ⟨a1 rfl,rfl⟩ (kF 100) ?_
  refine aI 5 rfl (iV (k:=100) (b:=0) (ws:=[(Rat.divInt 1 1),(Rat.divInt 1 1),(Rat.divInt 1 1)]) (l:=[34,33,33]) (by decide) (by decide+kernel) (by decide+kernel) (by decide+kernel) (by decide)) oU ⟨aB rfl,a1 rfl,a1 rfl,rfl⟩ (.tup [.one (.t (.s false 24 2 ([34,33,33]:List Int).length ((aX [34,33,33]).flatMap (dD true)))),.one (tv (.int .i64 0))]) ?_
  refine df 6 ?_;refine df 7 ?_;refine df 8 ?_;refine dI 9 (by kernel_rfl) rfl rfl aA rfl (by trivial) ?_ (fun h=>by first | rfl | cases h)
  refine dI 10 (by kernel_rfl) rfl rfl aA rfl (by trivial) ?_ (fun h=>by first | rfl | cases h)
  refine aN ?_;exact⟨(),trivial,aL h0 [0,1,2] _ _ (by decide) ⟨rfl,rfl,rfl,rfl,rfl,trivial⟩ ⟨oe rfl rfl,oe rfl rfl,oe rfl rfl,rfl⟩⟩
 refine md (γ:=Unit) (fun _=>cH [(1,.one (.pt 0 0)),(2,.one (.pt 1 0)),(3,.one (.pt 2 0)),(4,.one (.t (.s false 24 2 ([34,33,33]:List Int).length ((aX [34,33,33]).flatMap (dD true))))),(5,.one (tv (.int .i64 ((0:Nat):Int)))),(6,.one (.t (.s false 24 2 ([1,1,0]:List Int).length ((aX [1,1,0]).flatMap (dD true)))))]) (fun _=>([⟨48,0,((Fr4.of (Rat.divInt 1 1)).tr false).map .t⟩,⟨48,0,((Fr4.of (Rat.divInt 2 1)).tr false).map .t⟩,⟨48,0,((Fr4.of (Rat.divInt 4 1)).tr false).map .t⟩]:List Ob).map some) (fun _=>True) ?_ fun _ _=>?_
 ·refine rd [0,1,2] (fun i=>[10].contains i) mixed ?_
  refine aU 1 ?_;refine aU 2 ?_;refine aU 3 ?_;refine WO.two (i:=0) (j:=4) (by kernel_rfl) ?_ ?_
  ·refine cQ 0 rfl (jE (n:=2) (by omega) (by omega)) jF ⟨a1 rfl,rfl⟩ (kF 2) ?_
   refine qS (key:=3) 4 (by kernel_rfl) rfl rfl aA rfl ⟨rfl,rfl,rfl,trivial⟩ ?_
   refine sH (i:=31) (k:=3) (t:=48) (t':=50) (z:=4) (n:=3) (l:=(gD [(Rat.divInt 1 1),(Rat.divInt 1 1),(Rat.divInt 1 1)]).flatMap (Fr4.tr false)) rfl rfl rfl rfl (.one .sl) (by rfl) (by rfl) ?_
   refine aI 5 rfl (iV (k:=2) (b:=0) (ws:=[(Rat.divInt 1 1),(Rat.divInt 1 1),(Rat.divInt 1 1)]) (l:=[1,1,0]) (by decide) (by decide+kernel) (by decide+kernel) (by decide+kernel) (by decide)) oU ⟨aB rfl,a1 rfl,a1 rfl,rfl⟩ (.tup [.one (.t (.s false 24 2 ([1,1,0]:List Int).length ((aX [1,1,0]).flatMap (dD true)))),.one (tv (.int .i64 0))]) ?_
   refine df 6 ?_;refine df 7 ?_;refine df 8 ?_;refine dI 9 (by kernel_rfl) rfl rfl aA rfl (by trivial) ?_ (fun h=>by first | rfl | cases h)
   refine dI 10 (by kernel_rfl) rfl rfl aA rfl (by trivial) ?_ (fun h=>by first | rfl | cases h)
   refine aN ?_;exact⟨(),trivial,aL h0 [0,1,2] _ _ (by decide) ⟨rfl,rfl,rfl,rfl,rfl,rfl,trivial⟩ ⟨oe rfl rfl,oe rfl rfl,oe rfl rfl,rfl⟩⟩
  refine Lo (key:=3) 4 rfl rfl ⟨rfl,rfl,rfl,trivial⟩ ?_
  refine sH (i:=31) (k:=3) (t:=48) (t':=50) (z:=4) (n:=3) (l:=(gD [(Rat.divInt 1 1),(Rat.divInt 1 1),(Rat.divInt 1 1)]).flatMap (Fr4.tr false)) rfl rfl rfl rfl (.one .sl) (by rfl) (by rfl) ?_
  refine aI 0 rfl (jE (n:=2) (by omega) (by omega)) jF ⟨a1 rfl,rfl⟩ (kF 2) ?_
  refine aI 5 rfl (iV (k:=2) (b:=0) (ws:=[(Rat.divInt 1 1),(Rat.divInt 1 1),(Rat.divInt 1 1)]) (l:=[1,1,0]) (by decide) (by decide+kernel) (by decide+kernel) (by decide+kernel) (by decide)) oU ⟨aB rfl,a1 rfl,a1 rfl,rfl⟩ (.tup [.one (.t (.s false 24 2 ([1,1,0]:List Int).length ((aX [1,1,0]).flatMap (dD true)))),.one (tv (.int .i64 0))]) ?_
  refine df 6 ?_;refine df 7 ?_;refine df 8 ?_;refine dI 9 (by kernel_rfl) rfl rfl aA rfl (by trivial) ?_ (fun h=>by first | rfl | cases h)
  refine dI 10 (by kernel_rfl) rfl rfl aA rfl (by trivial) ?_ (fun h=>by first | rfl | cases h)
  refine aN ?_;exact⟨(),trivial,aL h0 [0,1,2] _ _ (by decide) ⟨rfl,rfl,rfl,rfl,rfl,rfl,trivial⟩ ⟨oe rfl rfl,oe rfl rfl,oe rfl rfl,rfl⟩⟩
 refine md (γ:=Unit) (fun _=>cH [(1,.one (.pt 0 0)),(2,.one (.pt 1 0)),(3,.one (.pt 2 0)),(4,.one (.t (.s false 24 2 ([34,33,33]:List Int).length ((aX [34,33,33]).flatMap (dD true))))),(5,.one (tv (.int .i64 ((0:Nat):Int)))),(6,.one (.t (.s false 24 2 ([1,1,0]:List Int).length ((aX [1,1,0]).flatMap (dD true))))),(8,.one (.t (.s false 24 2 ([-34,-33,-33]:List Int).length ((aX [-34,-33,-33]).flatMap (dD true)))))]) (fun _=>([⟨48,0,((Fr4.of (Rat.divInt 1 1)).tr false).map .t⟩,⟨48,0,((Fr4.of (Rat.divInt 2 1)).tr false).map .t⟩,⟨48,0,((Fr4.of (Rat.divInt 4 1)).tr false).map .t⟩]:List Ob).map some) (fun _=>True) ?_ fun _ _=>?_
 ·refine rd [0,1,2] (fun i=>[10].contains i) mixed ?_
  refine aU 1 ?_;refine aU 2 ?_;refine aU 3 ?_;refine WO.two (i:=0) (j:=4) (by kernel_rfl) ?_ ?_
  ·refine cQ 0 rfl (jE (n:=(-100)) (by omega) (by omega)) jF ⟨a1 rfl,rfl⟩ (kF (-100)) ?_
   refine qS (key:=3) 4 (by kernel_rfl) rfl rfl aA rfl ⟨rfl,rfl,rfl,trivial⟩ ?_
   refine sH (i:=40) (k:=3) (t:=48) (t':=50) (z:=4) (n:=3) (l:=(gD [(Rat.divInt 1 1),(Rat.divInt 1 1),(Rat.divInt 1 1)]).flatMap (Fr4.tr false)) rfl rfl rfl rfl (.one .sl) (by rfl) (by rfl) ?_
   refine aI 5 rfl (iV (k:=(-100)) (b:=0) (ws:=[(Rat.divInt 1 1),(Rat.divInt 1 1),(Rat.divInt 1 1)]) (l:=[-34,-33,-33]) (by decide) (by decide+kernel) (by decide+kernel) (by decide+kernel) (by decide)) oU ⟨aB rfl,a1 rfl,a1 rfl,rfl⟩ (.tup [.one (.t (.s false 24 2 ([-34,-33,-33]:List Int).length ((aX [-34,-33,-33]).flatMap (dD true)))),.one (tv (.int .i64 0))]) ?_
   refine df 6 ?_;refine df 7 ?_;refine df 8 ?_;refine dI 9 (by kernel_rfl) rfl rfl aA rfl (by trivial) ?_ (fun h=>by first | rfl | cases h)
   refine dI 10 (by kernel_rfl) rfl rfl aA rfl (by trivial) ?_ (fun h=>by first | rfl | cases h)
   refine aN ?_;exact⟨(),trivial,aL h0 [0,1,2] _ _ (by decide) ⟨rfl,rfl,rfl,rfl,rfl,rfl,rfl,trivial⟩ ⟨oe rfl rfl,oe rfl rfl,oe rfl rfl,rfl⟩⟩
  refine Lo (key:=3) 4 rfl rfl ⟨rfl,rfl,rfl,trivial⟩ ?_
  refine sH (i:=40) (k:=3) (t:=48) (t':=50) (z:=4) (n:=3) (l:=(gD [(Rat.divInt 1 1),(Rat.divInt 1 1),(Rat.divInt 1 1)]).flatMap (Fr4.tr false)) rfl rfl rfl rfl (.one .sl) (by rfl) (by rfl) ?_
  refine aI 0 rfl (jE (n:=(-100)) (by omega) (by omega)) jF ⟨a1 rfl,rfl⟩ (kF (-100)) ?_
  refine aI 5 rfl (iV (k:=(-100)) (b:=0) (ws:=[(Rat.divInt 1 1),(Rat.divInt 1 1),(Rat.divInt 1 1)]) (l:=[-34,-33,-33]) (by decide) (by decide+kernel) (by decide+kernel) (by decide+kernel) (by decide)) oU ⟨aB rfl,a1 rfl,a1 rfl,rfl⟩ (.tup [.one (.t (.s false 24 2 ([-34,-33,-33]:List Int).length ((aX [-34,-33,-33]).flatMap (dD true)))),.one (tv (.int .i64 0))]) ?_
  refine df 6 ?_;refine df 7 ?_;refine df 8 ?_;refine dI 9 (by kernel_rfl) rfl rfl aA rfl (by trivial) ?_ (fun h=>by first | rfl | cases h)
  refine dI 10 (by kernel_rfl) rfl rfl aA rfl (by trivial) ?_ (fun h=>by first | rfl | cases h)
  refine aN ?_;exact⟨(),trivial,aL h0 [0,1,2] _ _ (by decide) ⟨rfl,rfl,rfl,rfl,rfl,rfl,rfl,trivial⟩ ⟨oe rfl rfl,oe rfl rfl,oe rfl rfl,rfl⟩⟩
 refine sq ?_;refine rl ?_;refine ca (jE (n:=5) (by omega) (by omega)) jF ⟨a1 rfl,rfl⟩ (kF 5) ?_
 refine ca (Dx (n:=0) (d:=1) (by omega) (by omega) (by omega) (by omega)) Dy ⟨a1 rfl,a1 rfl,rfl⟩ (qF (.of (Rat.divInt 0 1))) ?_
 refine ca (Dx (n:=(-3)) (d:=1) (by omega) (by omega) (by omega) (by omega)) Dy ⟨a1 rfl,a1 rfl,rfl⟩ (qF (.of (Rat.divInt (-3) 1))) ?_
 refine bs 3 ?_;refine WL.sub (CZ (i:=48) (k:=3) (t:=48) (z:=4) (n:=2) (l:=(gD [(Rat.divInt 0 1),(Rat.divInt (-3) 1)]).flatMap (Fr4.tr false)) 50 rfl rfl rfl rfl (.one .sl)) ?_
 refine ca (iV (k:=5) (b:=1) (ws:=[(Rat.divInt 0 1),(Rat.divInt (-3) 1)]) (l:=[0,5]) (by decide) (by decide+kernel) (by decide+kernel) (by decide+kernel) (by decide)) oU ⟨aB rfl,a1 rfl,a1 rfl,rfl⟩ (.tup [.one (.t (.s false 24 2 ([0,5]:List Int).length ((aX [0,5]).flatMap (dD true)))),.one (tv (.int .i64 0))]) ?_
 (iterate 5 refine o1 ?_);refine nl ?_
 refine md (γ:=Unit) (fun _=>cH [(4,.one (.t (.s false 24 2 ([34,33,33]:List Int).length ((aX [34,33,33]).flatMap (dD true))))),(5,.one (tv (.int .i64 ((0:Nat):Int)))),(6,.one (.t (.s false 24 2 ([1,1,0]:List Int).length ((aX [1,1,0]).flatMap (dD true))))),(8,.one (.t (.s false 24 2 ([-34,-33,-33]:List Int).length ((aX [-34,-33,-33]).flatMap (dD true))))),(10,.one (.t (.s false 24 2 ([0,5]:List Int).length ((aX [0,5]).flatMap (dD true))))),(12,.one (.t (.s false 24 2 ([1,3,6]:List Int).length ((aX [1,3,6]).flatMap (dD true)))))]) (fun _=>([]:List Ob).map some) (fun _=>True) ?_ fun _ _=>?_
 ·refine rd [0,1,2] (fun i=>[10].contains i) mixed ?_
  refine aU 1 ?_;refine aU 2 ?_;refine aU 3 ?_;refine WO.two (i:=0) (j:=4) (by kernel_rfl) ?_ ?_
  ·refine cQ 0 rfl (jE (n:=10) (by omega) (by omega)) jF ⟨a1 rfl,rfl⟩ (kF 10) ?_
   refine qS (key:=4) 4 (by kernel_rfl) rfl rfl aA rfl ⟨rfl,rfl,rfl,trivial⟩ ?_
   refine sH (i:=57) (k:=4) (t:=48) (t':=50) (z:=4) (n:=3) (l:=(gD [(Rat.divInt 1 1),(Rat.divInt 2 1),(Rat.divInt 4 1)]).flatMap (Fr4.tr false)) rfl rfl rfl rfl (.one .sl) (by rfl) (by rfl) ?_
   refine aI 5 rfl (iV (k:=10) (b:=0) (ws:=[(Rat.divInt 1 1),(Rat.divInt 2 1),(Rat.divInt 4 1)]) (l:=[1,3,6]) (by decide) (by decide+kernel) (by decide+kernel) (by decide+kernel) (by decide)) oU ⟨aB rfl,a1 rfl,a1 rfl,rfl⟩ (.tup [.one (.t (.s false 24 2 ([1,3,6]:List Int).length ((aX [1,3,6]).flatMap (dD true)))),.one (tv (.int .i64 0))]) ?_
   refine df 6 ?_;refine df 7 ?_;refine df 8 ?_;refine dI 9 (by kernel_rfl) rfl rfl aA rfl (by trivial) ?_ (fun h=>by first | rfl | cases h)
   refine dI 10 (by kernel_rfl) rfl rfl aA rfl (by trivial) ?_ (fun h=>by first | rfl | cases h)
   refine aN ?_;exact⟨(),trivial,aL h0 [] _ _ (by decide) ⟨rfl,rfl,rfl,rfl,rfl,rfl,trivial⟩ rfl⟩
  refine Lo (key:=4) 4 rfl rfl ⟨rfl,rfl,rfl,trivial⟩ ?_
  refine sH (i:=57) (k:=4) (t:=48) (t':=50) (z:=4) (n:=3) (l:=(gD [(Rat.divInt 1 1),(Rat.divInt 2 1),(Rat.divInt 4 1)]).flatMap (Fr4.tr false)) rfl rfl rfl rfl (.one .sl) (by rfl) (by rfl) ?_
  refine aI 0 rfl (jE (n:=10) (by omega) (by omega)) jF ⟨a1 rfl,rfl⟩ (kF 10) ?_
  refine aI 5 rfl (iV (k:=10) (b:=0) (ws:=[(Rat.divInt 1 1),(Rat.divInt 2 1),(Rat.divInt 4 1)]) (l:=[1,3,6]) (by decide) (by decide+kernel) (by decide+kernel) (by decide+kernel) (by decide)) oU ⟨aB rfl,a1 rfl,a1 rfl,rfl⟩ (.tup [.one (.t (.s false 24 2 ([1,3,6]:List Int).length ((aX [1,3,6]).flatMap (dD true)))),.one (tv (.int .i64 0))]) ?_
  refine df 6 ?_;refine df 7 ?_;refine df 8 ?_;refine dI 9 (by kernel_rfl) rfl rfl aA rfl (by trivial) ?_ (fun h=>by first | rfl | cases h)
  refine dI 10 (by kernel_rfl) rfl rfl aA rfl (by trivial) ?_ (fun h=>by first | rfl | cases h)
  refine aN ?_;exact⟨(),trivial,aL h0 [] _ _ (by decide) ⟨rfl,rfl,rfl,rfl,rfl,rfl,trivial⟩ rfl⟩
 refine sq ?_;refine WP.sub (Ij (i:=4) (t':=24) rfl rfl (qT (aX [34,33,33]))) ?_;refine WP.sub (Ij (i:=6) (t':=24) rfl rfl (qT (aX [1,1,0]))) ?_
 refine WP.sub (Ij (i:=8) (t':=24) rfl rfl (qT (aX [-34,-33,-33]))) ?_;refine WP.sub (Ij (i:=10) (t':=24) rfl rfl (qT (aX [0,5]))) ?_
 refine WP.sub (Ij (i:=12) (t':=24) rfl rfl (qT (aX [1,3,6]))) ?_;refine rl ?_;(iterate 3 refine o1 ?_);refine WL.split (t:=63) rfl (fun h1=>?_) (fun h1=>?_)
 ·refine o1 ?_;refine bs 0 ?_;refine WL.sub (fz (i:=65) (k:=0) (t:=2) (z:=1) (n:=3) (l:=iT [34,33,33]) rfl rfl rfl rfl) ?_
  refine ca (xG (l:=[34,33,33]) (by decide)) Dz ⟨a1 rfl,a1 rfl,rfl⟩ (.one (tv (.bool true))) ?_
  (iterate 3 refine o1 ?_);refine bs 1 ?_;refine WL.sub (fz (i:=70) (k:=1) (t:=2) (z:=1) (n:=3) (l:=iT [1,1,0]) rfl rfl rfl rfl) ?_
  refine ca (xG (l:=[1,1,0]) (by decide)) Dz ⟨a1 rfl,a1 rfl,rfl⟩ (.one (tv (.bool true))) ?_
  (iterate 3 refine o1 ?_);refine bs 2 ?_;refine WL.sub (fz (i:=75) (k:=2) (t:=2) (z:=1) (n:=3) (l:=iT [(-34),(-33),(-33)]) rfl rfl rfl rfl) ?_
  refine ca (xG (l:=[-34,-33,-33]) (by decide)) Dz ⟨a1 rfl,a1 rfl,rfl⟩ (.one (tv (.bool true))) ?_
  (iterate 3 refine o1 ?_);refine bs 3 ?_;refine WL.sub (fz (i:=80) (k:=3) (t:=2) (z:=1) (n:=2) (l:=iT [0,5]) rfl rfl rfl rfl) ?_
  refine ca (xG (l:=[0,5]) (by decide)) Dz ⟨a1 rfl,a1 rfl,rfl⟩ (.one (tv (.bool true))) ?_
  (iterate 3 refine o1 ?_);refine bs 4 ?_;refine WL.sub (fz (i:=85) (k:=4) (t:=2) (z:=1) (n:=3) (l:=iT [1,3,6]) rfl rfl rfl rfl) ?_
  refine ca (xG (l:=[1,3,6]) (by decide)) Dz ⟨a1 rfl,a1 rfl,rfl⟩ (.one (tv (.bool true))) ?_
  refine o1 ?_;refine o1 ?_;refine nl ?_;refine rt ?_;exact oF (.inl rfl) rfl (rfl)
 exact absurd rfl h1
theorem In (T:Rat):∀(n m:Nat),m<n→aE ((List.replicate n (0:Rat)).set m T)=T
 | 0,_,h=>absurd h (Nat.not_lt_zero _)
 | n+1,0,_=>by
  rw[List.replicate_succ,List.set_cons_zero,dK,Io fun x hx=>List.eq_of_mem_replicate hx]
  exact Rat.add_zero T
 | n+1,m+1,h=>by
  rw[List.replicate_succ,List.set_cons_succ,dK,In T n m (by omega)]
  exact Rat.zero_add T
theorem Th (T S:Rat) (f:Rat→Rat) (ws:List Rat):aE (ws.map fun w=>T*f w/S)=T*aE (ws.map f)/S:=by
 induction ws with
 | nil=>
  rw[List.map_nil,List.map_nil,pP,Rat.mul_zero,Rat.div_def,Rat.zero_mul]
 | cons a l ih=>
  rw[List.map_cons,List.map_cons,dK,dK,ih]
  simp only[Rat.div_def]
  rw[Rat.mul_add,Rat.add_mul]
section
variable {T:Rat}{m i k:Nat}{ws:List Rat}
theorem sT {ws:List Rat}:∀x∈ws.map bN,0≤x:=fun x hx=>by
 obtain⟨y,_,rfl⟩:=List.mem_map.1 hx
 exact Ox y
theorem zG (hm:m<ws.length):aE (aS T (m:Int) ws)=T:=by
 by_cases h0:aE (ws.map bN)=0
 ·rw[vY hm h0]
  exact In T _ _ hm
 rw[yW hm h0,Th,Rat.div_def,Rat.mul_assoc,Rat.mul_inv_cancel _ h0,Rat.mul_one]
theorem uI (hm:m<ws.length) (hi:i<ws.length):∃c:Rat,0≤c∧aO (aS T (m:Int) ws) i=T*c:=by
 rw[Ea hm hi]
 by_cases h1:0<aO ws i
 ·have hS:=mE (sT (ws:=ws))
  refine⟨aO ws i*(aE (ws.map bN))⁻¹,Rat.mul_nonneg (by grind) ?_,by rw[if_pos h1,Rat.div_def,Rat.mul_assoc]⟩
  by_cases h0:aE (ws.map bN)=0
  ·rw[h0,Rat.inv_zero]
   exact Rat.le_refl
  have:=Rat.inv_pos.2 (show 0<aE (ws.map bN) by grind)
  grind
 rw[if_neg h1]
 split
 ·exact⟨1,by decide,(Rat.mul_one T).symm⟩
 exact⟨0,Rat.le_refl,(Rat.mul_zero T).symm⟩
theorem DM (hm:m<ws.length) (hi:i<ws.length) (hk:k<ws.length) (hT:0<T) (h:aO ws k<aO ws i) (h0:0<aO ws i):aO (aS T (m:Int) ws) k<aO (aS T (m:Int) ws) i:=by
 have hS:=mE (sT (ws:=ws))
 have hS0:0<aE (ws.map bN):=by
  rcases Decidable.em (aE (ws.map bN)=0)with h1 | h1
  ·have h3:=zH sT h1 _ (List.mem_map.2 ⟨_,iH hi,rfl⟩)
   rw[Eb (by grind)]at h3
   grind
  grind
 have hv:=Rat.inv_pos.2 hS0
 have hn:¬(aE (ws.map bN)=0∧k=m):=fun h9=>by have:=h9.1;grind
 have hTi:0<T*aO ws i/aE (ws.map bN):=by rw[Rat.div_def];exact Rat.mul_pos (Rat.mul_pos hT h0) hv
 rw[Ea hm hi,Ea hm hk,if_pos h0]
 by_cases h1:0<aO ws k
 ·rw[if_pos h1,Rat.div_def,Rat.div_def]
  exact Rat.mul_lt_mul_of_pos_right (Rat.mul_lt_mul_of_pos_left h hT) hv
 rw[if_neg h1,if_neg hn]
 exact hTi
end
theorem Ti {z:List Int}{i:Nat}(h:i<z.length):aV (z.map fun x=>-x) i=-aV z i:=by simp[aV,h]
theorem Ec {l:List Rat}{i:Nat}(h:i<l.length):aO (cO l) i=-aO l i:=Ed (g:=fun x=>-x) h
structure Exa (l:List Rat) (w:List Int):Prop where
 len:w.length=l.length
 sum:gZ w=(aE l).num
 near:∀i,i<l.length→aO l i-((aV w i:Int):Rat)<1∧-(aO l i-((aV w i:Int):Rat))<1∧(aO l i=0→aV w i=0)
theorem zI {l:List Rat}(hd:(aE l).den=1) (h:∀i,i<l.length→0≤aO l i):Exa l (aY l)∧aY l=iB l:=by
 have h0:¬aE l<0:=by
  have:=mE (l:=l) fun x hx=>by
   obtain⟨j,hj⟩:=List.mem_iff_getElem?.1 hx
   have hl:=(List.getElem?_eq_some_iff.1 hj).1
   rw[gY hl]at hj
   rw[←Option.some.inj hj]
   exact h j hl
  grind
 have h1:=xB hd h0 (Oy fun j hj=>decide_eq_false (by have:=h j hj;grind))
 rw[h1]
 exact⟨⟨pO,Yv hd,fun i hi=>Tj hd hi⟩,rfl⟩
theorem Yw {l:List Rat}(hd:(aE l).den=1) (h0:aE l<0) (h:∀i,i<l.length→aO l i≤0):Exa l (aY l):=by
 have hn:∀i,i<(cO l).length→0≤aO (cO l) i:=fun i hi=>by
  rw[lJ]at hi
  rw[Ec hi]
  have:=h i hi
  grind
 have hd2:(aE (cO l)).den=1:=by rw[nQ,Rat.neg_den];exact hd
 obtain⟨e,e2⟩:=zI hd2 hn
 rw[Wc hd h0 (Oy fun j hj=>decide_eq_false (by have:=hn j hj;grind))]
 refine⟨by rw[List.length_map,e.len,lJ],?_,fun i hi=>?_⟩
 ·rw[Tk,e.sum,nQ,Rat.neg_num]
  omega
 have hi2:i<(cO l).length:=by rw[lJ];exact hi
 have h3:=e.near i hi2
 rw[Ec hi]at h3
 rw[Ti (by rw[e.len];exact hi2),Rat.intCast_neg]
 exact⟨by grind,by grind,fun h4=>by rw[h3.2.2 (by grind)];rfl⟩
section
variable {t:Int}{m i k:Nat}{ws:List Rat}
theorem Oz (hm:m<ws.length):Exa (aS (t:Rat) (m:Int) ws) (aY (aS (t:Rat) (m:Int) ws)):=by
 have hs:=zG (T:=(t:Rat)) hm
 have hd:(aE (aS (t:Rat) (m:Int) ws)).den=1:=by rw[hs,Rat.den_intCast]
 have hl:=wB (T:=(t:Rat)) hm
 by_cases h0:(t:Rat)<0
 ·refine Yw hd (by rw[hs];exact h0) fun i hi=>?_
  obtain⟨c,hc,e⟩:=uI (T:=(t:Rat)) hm (by rwa[hl]at hi)
  rw[e]
  have h1:=Rat.mul_nonneg (show(0:Rat)≤-(t:Rat) by grind) hc
  rw[Rat.neg_mul]at h1
  grind
 refine(zI hd fun i hi=>?_).1
 obtain⟨c,hc,e⟩:=uI (T:=(t:Rat)) hm (by rwa[hl]at hi)
 rw[e]
 exact Rat.mul_nonneg (by grind) hc
theorem Ee (hm:m<ws.length) (hi:i<ws.length) (hk:k<ws.length) (ht:0≤t) (h:aO ws k<aO ws i) (h0:0<aO ws i):aV (aY (aS (t:Rat) (m:Int) ws)) k≤aV (aY (aS (t:Rat) (m:Int) ws)) i:=by
 have hl:=wB (T:=(t:Rat)) hm
 have e:=Oz (t:=t) hm
 have ht2:(0:Rat)≤(t:Rat):=Rat.intCast_le_intCast.2 ht
 have hd:(aE (aS (t:Rat) (m:Int) ws)).den=1:=by rw[zG hm,Rat.den_intCast]
 by_cases hT:(t:Rat)=0
 ·have hz:∀j,j<ws.length→aV (aY (aS (t:Rat) (m:Int) ws)) j=0:=fun j hj=>by
   obtain⟨c,hc,e2⟩:=uI (T:=(t:Rat)) hm hj
   exact(e.near j (by rw[hl];exact hj)).2.2 (by rw[e2,hT,Rat.zero_mul])
  rw[hz k hk,hz i hi]
  exact Int.le_refl _
 have h3:=zI hd fun j hj=>by
  obtain⟨c,hc,e2⟩:=uI (T:=(t:Rat)) hm (by rwa[hl]at hj)
  rw[e2]
  exact Rat.mul_nonneg ht2 hc
 rw[h3.2]
 exact Tl hd (by rw[hl];exact hi) (by rw[hl];exact hk) (DM hm hi hk (by grind) h h0)
end
theorem DN {xs:List Fr4}(hne:0<xs.length) (hx:∀x∈xs,x.ok∧Sz 17179869184 x.q) (hl:xs.length≤1099511627776):aC false Tryz.prog 29 [] [.one (.t (sQ false xs))] (aM (qF (.of (eK (xs.map Fr4.q))))):=by
 refine bR Tryz.func29 rfl Tryz.ntmps29 rfl aA rfl fun N w c0 h0=>?_
 refine sq ?_;refine rl ?_;refine al 0 ?_;refine nl ?_;refine sq ?_;refine rl ?_;refine o1 ?_;refine o1 ?_;refine fS ((bJ xs (0)).tr false) (iG xs (k:=0) (by omega)) ?_
 refine ca (lL ⟨(hx _ (bP (by omega))).1,rfl⟩) zC ⟨aB rfl,rfl⟩ (qF (.of (bJ xs (0)).q)) ?_
 refine al 1 ?_;refine st ?_;refine nl ?_;refine sq ?_;refine sq ?_;refine rl ?_;refine o1 ?_;refine nl ?_;refine bl ?_
 refine lp (γ:=Nat) (fun k=>cH [(0,.one (.t (sQ false xs))),(2,.one (.pt 0 0)),(3,.one (.pt 1 0)),(4,.one (tv (.int .i64 ((k:Nat):Int))))]) (fun k=>[(⟨50,0,[tv (.bool false),tv (.slice none 0 0),tv (.bool false),tv (.slice none 0 0)]⟩:Ob),⟨50,0,((Fr4.of (eK ((xs.take k).map Fr4.q))).tr false).map .t⟩].map some) (fun k=>1≤k∧k≤xs.length∧Sz 17179869184 (eK ((xs.take k).map Fr4.q))) (fun k=>xs.length-k) 1 ⟨Nat.le_refl _,hne,by rw[Bb hne];exact(hx _ (bP hne)).2⟩ (aL h0 [0,1] _ _ (by decide) ⟨rfl,rfl,rfl,rfl,trivial⟩ ⟨oe rfl rfl,cB (congrArg (fun q=>some (⟨50,0,((Fr4.of q).tr false).map .t⟩:Ob)) (Bb hne).symm),rfl⟩) fun k hk=>?_
 refine sq ?_;refine sq ?_;refine rl ?_;(iterate 4 refine o1 ?_);refine nl ?_;refine bX rfl (fun h1=>?_) (fun h1=>?_)
 ·refine sk ?_;refine sq ?_;refine bl ?_;refine sq ?_;refine rd [0,1] (fun i=>[].contains i) mixed ?_
  refine dv 0 ?_;refine dv 1 ?_;refine dv 2 ?_;refine gE 3 ((bJ xs (k)).tr false) (iG xs (k:=k) (by omega)) ?_
  refine aU 4 ?_
  refine aI 5 rfl (xF ⟨(hx _ (bP (by omega))).1,rfl⟩ (Qn.of (p:=(eK ((xs.take k).map Fr4.q))) hk.2.2) (hx _ (bP (by omega))).2 hk.2.2) Lp ⟨aB rfl,aB rfl,rfl⟩ (.one (tv (.int .i64 ((bJ xs (k)).q-(eK ((xs.take k).map Fr4.q))).num.sign))) ?_
  refine df 6 ?_;refine aN ?_;refine bX rfl (fun h2=>?_) (fun h2=>?_)
  ·refine rl ?_;(iterate 3 refine o1 ?_);refine fS ((bJ xs (k)).tr false) (iG xs (k:=k) (by omega)) ?_
   refine ca (lL ⟨(hx _ (bP (by omega))).1,rfl⟩) zC ⟨aB rfl,rfl⟩ (qF (.of (bJ xs (k)).q)) ?_
   refine st ?_;refine nl ?_;refine rl ?_;refine o1 ?_;refine o1 ?_;refine WL.cast (t:=14) (u':=.int .i64 ((k+1:Nat):Int)) rfl (aK (by omega)) ?_
   refine o1 ?_;refine nl ?_;have hst:(eK ((xs.take (k+1)).map Fr4.q))=(bJ xs k).q:=(xH hk.1 (by omega)).trans (if_pos ((Pa _ _).1 h2))
   exact⟨k+1,by omega,⟨by omega,by omega,by rw[hst];exact(hx _ (bP (by omega))).2⟩,aL h0 [0,1] _ _ (by decide) ⟨rfl,rfl,rfl,rfl,trivial⟩ ⟨oe rfl rfl,cB (congrArg (fun q=>some (⟨50,0,((Fr4.of q).tr false).map .t⟩:Ob)) hst.symm),rfl⟩⟩
  refine sk ?_;refine rl ?_;refine o1 ?_;refine o1 ?_;refine WL.cast (t:=14) (u':=.int .i64 ((k+1:Nat):Int)) rfl (aK (by omega)) ?_
  refine o1 ?_;refine nl ?_;have hst:(eK ((xs.take (k+1)).map Fr4.q))=(eK ((xs.take k).map Fr4.q)):=(xH hk.1 (by omega)).trans (if_neg fun h8=>h2 ((Pa _ _).2 h8))
  exact⟨k+1,by omega,⟨by omega,by omega,by rw[hst];exact hk.2.2⟩,aL h0 [0,1] _ _ (by decide) ⟨rfl,rfl,rfl,rfl,trivial⟩ ⟨oe rfl rfl,cB (congrArg (fun q=>some (⟨50,0,((Fr4.of q).tr false).map .t⟩:Ob)) hst.symm),rfl⟩⟩
 refine ex ?_;refine sq ?_;refine rl ?_;refine ld ?_;refine st ?_;refine nl ?_;refine rt ?_
 exact en (.inl rfl) rfl (aT (.agg (.cons (.id rfl) (.cons (.id rfl) (.cons (.id rfl) (.cons (.id rfl) .nil)))))) (by decide) (fun h=>by cases h) (by rw[List.take_of_length_le (by omega)];rfl)
end Go.Proofs.YthmgbcdidlkpoaaGreat
