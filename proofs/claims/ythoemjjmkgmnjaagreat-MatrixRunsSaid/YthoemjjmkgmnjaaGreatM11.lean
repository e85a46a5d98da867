/- Part 11 of a proof: C8 to A3. -/
import Derived.Test.YthoemjjmkgmnjaaGreatM10
import Derived.Test.YthoemjjmkgmnjaaGreatM7
set_option maxRecDepth 100000
set_option linter.unusedVariables false
set_option linter.unusedSimpArgs false
namespace Go.Proofs.YthoemjjmkgmnjaaGreat
open Go Go.RowKit
theorem JT {M:Mx}{N y:Nat}(hOk:M.Ok N) (hy:y<N):aE false Tryz.prog 37 [lY M N (M.rows (M.run y) (M.ex y) (fun _=>0) y) (M.run y) (dU (wl M (M.run y) (M.I y)) (M.lp y).1 (M.lp y).2)] [.one (.pt 0 0),.one (tv (.int .i64 ((y:Nat):Int)))] (Rt [lY M N (M.rows (M.run (y+1)) (M.ex (y+1)) (fun _=>0) (y+1)) (M.run (y+1)) (dU (wl M (M.run (y+1)) (M.I (y+1))) (M.lp (y+1)).1 (M.lp (y+1)).2)] (.tup [])):=by
 have hNs:=hOk.n
 have hI:=hOk.run (k:=y) (by omega)
 have hI2:=hOk.run (k:=y+1) (by omega)
 have h:=EX (M:=M) (N:=N) (y:=y) (U:=M.run y) (e:=M.ex y) (c:=fun _=>0) (last:=(M.lp y).1) (put:=(M.lp y).2) hOk hI hy (by have:=pZ hOk.b hOk.w y;omega) (FA (Nat.le_refl _)) (Ou (Nat.le_refl _)) (if_neg (by omega)) rfl (CN y)
 have e1:M.step (M.run y) y=M.run (y+1):=rfl
 have e2:(if M.inc y<0 then(y:Int)else(M.lp y).1)=(M.lp (y+1)).1:=by show _=(if M.inc y<0 then((y:Int),true)else M.lp y).1;split <;> rfl
 have e3:(if M.inc y<0 then true else(M.lp y).2)=(M.lp (y+1)).2:=by show _=(if M.inc y<0 then((y:Int),true)else M.lp y).2;split <;> rfl
 have e4:M.rows (M.run (y+1)) (eI (wl M (M.run (y+1)) (M.J y)) (M.ex y)) (fun _=>0) (y+1)=M.rows (M.run (y+1)) (M.ex (y+1)) (fun _=>0) (y+1):=Gq (fun i hi=>FB hI2 hy hi) fun _ _=>rfl
 rw[e1,e2,e3,e4]at h
 exact h
theorem Yw {c:Fr4}{bk fw:Int}{ys:List (Fr4×Fr4)}(hc:c.ok) (hy:∀y∈ys,y.1.ok∧y.2.ok) (hs:∀y∈ys,Sz 68719476736 (c.q*abv y.1.q)) (hl:ys.length≤1073741823) (hno:cW c bk fw ys≠0):aE false Tryz.prog 10 [] [.agg ((c.tr false++[.v (.int .i64 bk),.v (.int .i64 fw)]:List Tr).map .t),.one (.t (jB ys))] (aQ (.tup [.agg [.t (cV true true []),.t (cJ true true [])],.one (tv (.int .i64 (cW c bk fw ys)))])):=by
 refine bO Tryz.func10 rfl Tryz.ntmps10 rfl aA rfl fun N w c0 h0=>?_
 refine sq ?_;refine rl ?_;refine bx 0 ?_;refine al 1 ?_;refine o1 ?_;refine nl ?_;refine sq ?_;refine sq ?_;refine rl ?_;refine ld ?_;refine o1 ?_
 refine ca (CO hc hy hs hl) JU ⟨aB rfl,a1 rfl,rfl⟩ (.one (tv (.int .i64 (cW c bk fw ys)))) ?_;refine o1 ?_;refine nl ?_;refine sq ?_;refine rl ?_;refine o1 ?_;refine o1 ?_
 refine nl ?_;refine bQ rfl (fun h1=>?_) (fun h1=>?_)
 ·refine sq ?_;refine rl ?_;refine o1 ?_;refine o1 ?_;refine st ?_;refine o1 ?_;refine nl ?_;refine rt ?_
  exact en (.inl rfl) rfl (wM (.cons (.agg (.cons (.nil (t:=66) (z:=24)) (.cons (.nil (t:=46) (z:=14)) .nil))) (.cons (bH _) .nil))) (by decide) (fun h=>by cases h) rfl
 exact absurd hno h1
theorem OI {M:Mx}{N:Nat}(hOk:M.Ok N) (hok:cW (.of M.cap) (M.b:Int) (M.w:Int) (yrs M N)=0):aE false Tryz.prog 10 [] [.agg (((Fr4.of M.cap).tr false++[.v (.int .i64 ((M.b:Nat):Int)),.v (.int .i64 ((M.w:Nat):Int))]:List Tr).map .t),.one (.t (jB (yrs M N)))] (aQ (.tup [.agg [.t (cV true true (M.rows (M.run N) (M.ex N) (M.cl N) N)),.t (cJ true true (M.run N))],.one (tv (.int .i64 0))])):=by
 refine JV Tryz.func10 rfl Tryz.ntmps10 rfl aA rfl fun N9 w9 c0 h0=>?_
 have hbs:=hOk.b;have hws:=hOk.w;have hNs:=hOk.n
 have hyl:(yrs M N).length=N:=jQ M N
 have hyok:∀y∈yrs M N,y.1.ok∧y.2.ok:=fun y hy=>by
  unfold yrs at hy;obtain⟨i,hi,rfl⟩:=List.mem_map.1 hy
  have hi:=List.mem_range.1 hi
  exact⟨(Qn.of ((hOk.inc i hi).mono (M:=68719476736) (by omega))).1,(Qn.of ((hOk.ring i hi).mono (M:=68719476736) (by omega))).1⟩
 have hysz:∀y∈yrs M N,Sz 68719476736 ((Fr4.of M.cap).q*abv y.1.q):=fun y hy=>by
  unfold yrs at hy;obtain⟨i,hi,rfl⟩:=List.mem_map.1 hy
  have hi:=List.mem_range.1 hi
  rw[Fr4.q_of,Fr4.q_of];exact(Js hOk.cap (gS (hOk.inc i hi) (by omega))).mono (by omega)
 have hIN:=hOk.run (Nat.le_refl N)
 have hrl:=pZ hOk.b hOk.w N
 have hI0:M.I 0=[]:=List.eq_nil_of_length_eq_zero (by unfold Mx.I;rw[List.length_range'];omega)
 refine sq ?_;refine rl ?_;refine bx 0 ?_;refine al 1 ?_;refine o1 ?_;refine nl ?_;refine sq ?_;refine sq ?_;refine rl ?_;refine ld ?_;refine o1 ?_
 refine ca (CO (c:=.of M.cap) (bk:=(M.b:Int)) (fw:=(M.w:Int)) (ys:=yrs M N) (Qn.of (hOk.cap.mono (M:=68719476736) (by omega))).1 hyok hysz (by omega)) JU ⟨aB rfl,a1 rfl,rfl⟩ (.one (tv (.int .i64 (cW (.of M.cap) (M.b:Int) (M.w:Int) (yrs M N))))) ?_
 refine o1 ?_;refine nl ?_;refine sq ?_;refine rl ?_;refine o1 ?_;refine o1 ?_;refine nl ?_;refine bQ rfl (fun h1=>?_) (fun h1=>?_)
 ·exact absurd hok h1
 refine sk ?_;refine sq ?_;refine rd [0,1] (fun i=>[5].contains i) mixed ?_
 refine aM 0 ?_;refine dv 1 ?_;refine jW 2 2 rfl (OJ) RQ rfl ?_;refine df 3 ?_;refine RR (key:=3) 4 (by kernel_rfl) rfl rfl rfl ⟨rfl,rfl,trivial⟩ ?_
 refine cT 5 (by kernel_rfl) rfl rfl aA rfl (by trivial) ?_ (fun h=>by first | rfl | cases h)
 refine aH ?_;refine sq ?_;refine sq ?_
 refine WP.sub ((Va (j:=3) (key:=4) (e:=66) (z:=24) rfl rfl rfl (.sl (.id (.id (.id (.id (.id (.id (.id (.id (.id .nil))))))))))).trans (iG (j:=3) (k:=4) (p:=0) (e:=66) (z:=24) (n:=0) (trs:=[]) rfl rfl rfl rfl rfl rfl rfl rfl)) ?_
 refine WP.sub ((Va (j:=3) (key:=5) (e:=46) (z:=14) rfl rfl rfl (.id (.sl (.id (.id (.id (.id (.id (.id (.id (.id .nil))))))))))).trans (iG (j:=3) (k:=5) (p:=1) (e:=46) (z:=14) (n:=0) (trs:=[]) rfl rfl rfl rfl rfl rfl rfl rfl)) ?_
 refine WP.sub (Jm (j:=3) (k:=2) (p:=9) (e:=136) (trs:=[sR 97 [],.v (.int .i64 0),.v (.bool false)]) rfl rfl rfl rfl rfl) ?_
 refine WP.sub (aP h0 [3,1] [(1,.one (.t (jB (yrs M N)))),(4,.one (.pt 1 0)),(5,.one (tv (.int .i64 0))),(7,.one (.pt 0 0))] [⟨92,0,cZ M N (.t (cV true false (M.rows (M.run 0) (M.ex 0) (fun _=>0) 0))) (.t (cJ true false (M.run 0))) (.t (dU (wl M (M.run 0) (M.I 0)) (M.lp 0).1 (M.lp 0).2))⟩,⟨35,0,[tv (.slice none 0 0),tv (.slice none 0 0)]⟩] (by decide) ⟨rfl,rfl,rfl,rfl,trivial⟩ ⟨oe rfl (by rw[hI0];rfl),oe rfl rfl,rfl⟩) ?_
 refine rl ?_;refine o1 ?_;refine o1 ?_;refine WL.cast (t:=24) (u':=.int .i64 ((N:Nat):Int)) rfl (aO (by rw[hyl])) ?_
 refine o1 ?_;refine nl ?_;refine bl ?_
 refine lp (γ:=Nat) (fun y=>cG [(4,.one (.pt 1 0)),(5,.one (tv (.int .i64 0))),(7,.one (.pt 0 0)),(24,.one (tv (.int .i64 ((N:Nat):Int)))),(25,.one (tv (.int .i64 ((y:Nat):Int))))]) (fun y=>[(⟨92,0,cZ M N (.t (cV true false (M.rows (M.run y) (M.ex y) (fun _=>0) y))) (.t (cJ true false (M.run y))) (.t (dU (wl M (M.run y) (M.I y)) (M.lp y).1 (M.lp y).2))⟩:Ob),⟨35,0,[tv (.slice none 0 0),tv (.slice none 0 0)]⟩].map some) (fun y=>y≤N) (fun y=>N-y) 0 (Nat.zero_le _) (aP h0 [0,1] _ _ (by decide) ⟨rfl,rfl,rfl,rfl,rfl,trivial⟩ ⟨oe rfl rfl,oe rfl rfl,rfl⟩) fun y hy=>?_
 refine sq ?_;refine rl ?_;refine o1 ?_;refine nl ?_;refine sq ?_;refine bQ rfl (fun h2=>?_) (fun h2=>?_)
 ·refine sk ?_;refine sq ?_;refine bl ?_;refine sq ?_;refine rl ?_;refine o1 ?_;refine o1 ?_;refine nl ?_;refine rl ?_;refine o1 ?_;refine o1 ?_
  refine cl 2 [0] (JT (M:=M) (N:=N) (y:=y) hOk (by omega)) RS ⟨oe rfl rfl,rfl⟩ ⟨rfl,rfl,rfl⟩ (ok:=[some ⟨92,0,cZ M N (.t (cV true false (M.rows (M.run (y+1)) (M.ex (y+1)) (fun _=>0) (y+1)))) (.t (cJ true false (M.run (y+1)))) (.t (dU (wl M (M.run (y+1)) (M.I (y+1))) (M.lp (y+1)).1 (M.lp (y+1)).2))⟩]) ⟨oe rfl rfl,rfl⟩ ?_
  refine nl ?_;refine rl ?_;refine o1 ?_;refine WL.cast (t:=31) (u':=.int .i64 ((y+1:Nat):Int)) rfl (aO (by omega)) ?_
  refine o1 ?_;refine nl ?_;exact⟨y+1,by omega,by omega,aP h0 [0,1] _ _ (by decide) ⟨rfl,rfl,rfl,rfl,rfl,trivial⟩ ⟨oe rfl rfl,oe rfl rfl,rfl⟩⟩
 refine ex ?_;refine sq ?_;refine sq ?_;have hyN:y=N:=by omega
 rw[hyN]
 have hzI:∀x∈(wl M (M.run N) (M.I N)),Sz 68719476736 x.2:=fun x hx=>by obtain⟨i,hi,rfl,_⟩:=wL hx;exact(hIN.sz_left hOk (by have:=rP.1 hi;omega)).mono (by omega)
 have hEl:(wl M (M.run N) (M.I N)).length≤40:=Nat.le_trans Db (Da hOk.w)
 refine WP.sub (Sa (j:=0) (key:=2) (p:=9) (e:=136) (trs:=[sR 97 (wl M (M.run N) (M.I N)),.v (.int .i64 ((M.lp N).1)),.v (.bool (M.lp N).2)]) (l':=cZ M N (.t (cV true false (M.rows (M.run N) (M.ex N) (fun _=>0) N))) (.t (cJ true false (M.run N))) (.pt 2 0)) rfl rfl rfl rfl) ?_
 refine rl ?_;(iterate 3 refine o1 ?_);refine ld ?_
 refine gQ 3 (JW (vs:=(wl M (M.run N) (M.I N))) (rest:=[.v (.int .i64 (M.lp N).1),.v (.bool (M.lp N).2)]) hzI (by omega)) RT ⟨Ct rfl (.pe (trs:=[sR 97 (wl M (M.run N) (M.I N)),.v (.int .i64 (M.lp N).1),.v (.bool (M.lp N).2)]) rfl rfl rfl (by simp only[rdTL,gR,sR,sV,Cy])),rfl⟩ ?_
 refine o1 ?_;refine o1 ?_;refine nl ?_;refine bl ?_
 refine WP.sub (JL (i:=36) (k:=3) (n:=(wl M (M.run N) (M.I N)).length) 97 rfl rfl rfl (bM true _) (Cy true _) (.one .sl)) ?_
 refine WP.sub (Jm (j:=0) (k:=2) (p:=9) (e:=136) (trs:=[sR 97 (wl M (M.run N) (M.I N)),.v (.int .i64 ((M.lp N).1)),.v (.bool (M.lp N).2)]) (l':=cZ M N (.t (cV true false (M.rows (M.run N) (M.ex N) (fun _=>0) N))) (.t (cJ true false (M.run N))) (.t (dU (wl M (M.run N) (M.I N)) ((M.lp N).1) (M.lp N).2))) rfl rfl rfl rfl rfl) ?_
 refine WP.sub (qK (j:=0) (key:=4) (p:=0) (e:=66) (z:=24) (n:=(M.rows (M.run N) (M.ex N) (fun _=>0) N).length) (trs:=(M.rows (M.run N) (M.ex N) (fun _=>0) N).flatMap (bV false)) (l':=cZ M N (.sl 4 0 (M.rows (M.run N) (M.ex N) (fun _=>0) N).length) (.t (cJ true false (M.run N))) (.t (dU (wl M (M.run N) (M.I N)) (M.lp N).1 (M.lp N).2))) rfl rfl rfl rfl rfl) ?_
 refine lp (γ:=Nat) (fun k=>cG [(4,.one (.pt 2 0)),(5,.one (tv (.int .i64 0))),(7,.one (.pt 0 0)),(36,.one (.t (sV 97 false (wl M (M.run N) (M.I N))))),(37,.one (tv (.int .i64 (((wl M (M.run N) (M.I N)).length:Nat):Int)))),(38,.one (tv (.int .i64 ((k:Nat):Int))))]) (fun k=>[(⟨92,0,cZ M N (.sl 1 0 N) (.t (cJ true false (M.run N))) (.t (dU (wl M (M.run N) (M.I N)) (M.lp N).1 (M.lp N).2))⟩:Ob),⟨66,24,fH (M.rows (M.run N) (M.ex N) (eI ((wl M (M.run N) (M.I N)).take k) (fun _=>0)) N)⟩,⟨35,0,[tv (.slice none 0 0),tv (.slice none 0 0)]⟩].map some) (fun k=>k≤(wl M (M.run N) (M.I N)).length) (fun k=>(wl M (M.run N) (M.I N)).length-k) 0 (Nat.zero_le _) (aP h0 [0,4,1] _ _ (by decide) ⟨rfl,rfl,rfl,rfl,rfl,rfl,trivial⟩ ⟨oe rfl (congrArg (fun n=>some (⟨92,0,cZ M N (.sl 4 0 n) (.t (cJ true false (M.run N))) (.t (dU (wl M (M.run N) (M.I N)) (M.lp N).1 (M.lp N).2))⟩:Ob)) cM),aD rfl,oe rfl rfl,rfl⟩) fun k hk=>?_
 refine sq ?_;refine rl ?_;refine o1 ?_;refine nl ?_;refine sq ?_;refine bQ rfl (fun h3=>?_) (fun h3=>?_)
 ·refine sk ?_;refine sq ?_;refine bl ?_;refine sq ?_;obtain⟨i,hi,hx,hpos⟩:=wL (mN (vs:=(wl M (M.run N) (M.I N))) (k:=k) (by omega))
  have hiI:=rP.1 hi
  have hx1:(aS (wl M (M.run N) (M.I N)) k).1=(i:Int):=by rw[hx]
  have hrk:(M.rows (M.run N) (M.ex N) (eI ((wl M (M.run N) (M.I N)).take k) (fun _=>0)) N).length=N:=cM
  have hst:(M.rows (M.run N) (M.ex N) (eI ((wl M (M.run N) (M.I N)).take k) (fun _=>0)) N).set i (⟨M.los i,M.lim i,bI (M.run N) i,M.tax (M.run N) i,M.ex N i,(aS (wl M (M.run N) (M.I N)) k).2⟩:Rw)=(M.rows (M.run N) (M.ex N) (eI ((wl M (M.run N) (M.I N)).take (k+1)) (fun _=>0)) N):=Yx (by omega) (fun j hj hne=>by rw[kH (by omega),rQ (pQ (Dc yJ) (by omega)),if_neg (by rw[hx1];omega)]) (by rw[kH (by omega),rQ (pQ (Dc yJ) (by omega)),if_pos hx1])
  refine rl ?_;refine o1 ?_;refine gJ (cK false (aS (wl M (M.run N) (M.I N)) (k))) (sY false (by omega)) ?_
  refine al 3 ?_;refine st ?_;refine nl ?_;refine rd [0,2,3] (fun i=>[].contains i) mixed ?_
  refine dv 0 ?_;refine dv 1 ?_;refine dv 2 ?_;refine dv 3 ?_;refine aM 4 ?_;refine dv 5 ?_;refine aM 6 ?_;refine WD.cast (t:=48) (u':=.int .i64 ((i:Nat):Int)) rfl (aO hx1) ?_
  refine dv 7 ?_;refine aM 8 ?_;refine dv 9 ?_;refine dv 10 ?_
  refine yL 11 (kU (xs:=(M.rows (M.run N) (M.ex N) (eI ((wl M (M.run N) (M.I N)).take k) (fun _=>0)) N)) (k:=i) (x:=(⟨(M.los i),(M.lim i),(bI (M.run N) i),(M.tax (M.run N) i),(M.ex N i),((eI ((wl M (M.run N) (M.I N)).take k) (fun _=>0)) i)⟩:Rw)) (f:=(bV false)) (z:=24) (o:=20) (x':=(⟨(M.los i),(M.lim i),(bI (M.run N) i),(M.tax (M.run N) i),(M.ex N i),(aS (wl M (M.run N) (M.I N)) (k)).2⟩:Rw)) (us:=(Fr4.of (aS (wl M (M.run N) (M.I N)) (k)).2).tr false) (dM false) (uP (by omega)) (Nat.le_of_ble_eq_true rfl) rfl) (pY (xs:=(M.rows (M.run N) (M.ex N) (eI ((wl M (M.run N) (M.I N)).take k) (fun _=>0)) N)) (k:=i) (f:=(bV false)) (z:=24) (o:=20) (us:=(Fr4.of (aS (wl M (M.run N) (M.I N)) (k)).2).tr false) (dM false) (by omega) (Nat.le_of_ble_eq_true rfl)) ?_
  refine aH ?_;refine rl ?_;refine o1 ?_;refine WL.cast (t:=53) (u':=.int .i64 ((k+1:Nat):Int)) rfl (aO (by omega)) ?_
  refine o1 ?_;refine nl ?_
  exact⟨k+1,by omega,by omega,aP h0 [0,1,2] _ _ (by decide) ⟨rfl,rfl,rfl,rfl,rfl,rfl,trivial⟩ ⟨oe rfl rfl,aD (congrArg (fun l:List Rw=>some (⟨66,24,(l.flatMap (bV false)).map .t⟩:Ob)) hst),oe rfl rfl,rfl⟩⟩
 refine ex ?_;refine sq ?_
 have hfin:(M.rows (M.run N) (M.ex N) (eI ((wl M (M.run N) (M.I N)).take k) (fun _=>0)) N)=(M.rows (M.run N) (M.ex N) (M.cl N) N):=Gq (fun _ _=>rfl) fun i hi=>by rw[List.take_of_length_le (by omega)];exact JX hIN hi
 refine WP.sub (qK (j:=0) (key:=3) (p:=1) (e:=46) (z:=14) (n:=(M.run N).length) (trs:=(M.run N).flatMap (cF false)) (l':=cZ M N (.sl 1 0 N) (.sl 3 0 (M.run N).length) (.t (dU (wl M (M.run N) (M.I N)) (M.lp N).1 (M.lp N).2))) rfl rfl rfl rfl rfl) ?_
 refine WP.sub (aP h0 [0,1,3,2] [(4,.one (.pt 3 0)),(5,.one (tv (.int .i64 0))),(7,.one (.pt 0 0))] [⟨92,0,cZ M N (.sl 1 0 (M.rows (M.run N) (M.ex N) (M.cl N) N).length) (.sl 2 0 (M.run N).length) (.t (dU (wl M (M.run N) (M.I N)) (M.lp N).1 (M.lp N).2))⟩,⟨66,24,((M.rows (M.run N) (M.ex N) (M.cl N) N).flatMap (bV false)).map .t⟩,⟨46,14,((M.run N).flatMap (cF false)).map .t⟩,⟨35,0,[tv (.slice none 0 0),tv (.slice none 0 0)]⟩] (by decide) ⟨rfl,rfl,rfl,trivial⟩ ⟨oe rfl (congrArg (fun n=>some (⟨92,0,cZ M N (.sl 1 0 n) (.sl 3 0 (M.run N).length) (.t (dU (wl M (M.run N) (M.I N)) (M.lp N).1 (M.lp N).2))⟩:Ob)) cM.symm),aD (congrArg (fun l:List Rw=>some (⟨66,24,(l.flatMap (bV false)).map .t⟩:Ob)) hfin),aD rfl,oe rfl rfl,rfl⟩) ?_
 have hsr:∀i,i<(M.rows (M.run N) (M.ex N) (M.cl N) N).length→∀k,Sz 68719476736 (rq k ((M.rows (M.run N) (M.ex N) (M.cl N) N).getD i default)):=fun i hi k=>by
  rw[cM]at hi;have e9:(M.rows (M.run N) (M.ex N) (M.cl N) N).getD i default=M.row (M.run N) (M.ex N) (M.cl N) i:=by rw[List.getD_eq_getElem?_getD,uP hi];rfl
  have h9:=Vb hOk hIN hi (CP hOk (Nat.le_refl N) hi) (CQ hOk hi)
  rw[e9];unfold rq;split
  ·exact h9.1.mono (by omega)
  ·exact h9.2.1.mono (by omega)
  ·exact h9.2.2.1.mono (by omega)
  ·exact h9.2.2.2.1.mono (by omega)
  ·exact h9.2.2.2.2.1.mono (by omega)
  exact h9.2.2.2.2.2.mono (by omega)
 have hsu:∀i,i<(M.run N).length→∀k,Sz 68719476736 (uq k ((M.run N).getD i default)):=fun i hi k=>by
  have e9:(M.run N).getD i default=(M.run N)[i]:=by rw[List.getD_eq_getElem?_getD,List.getElem?_eq_getElem hi];rfl
  have h9:=UsOk.run hOk (Nat.le_refl N) _ (List.getElem_mem hi)
  rw[e9];unfold uq;split
  ·exact h9.1.mono (by omega)
  ·exact h9.2.1.mono (by omega)
  exact h9.2.2.mono (by omega)
 refine rl ?_;(iterate 3 refine o1 ?_);refine ld ?_
 refine RU [1,2] (OH (rs:=(M.rows (M.run N) (M.ex N) (M.cl N) N)) (us:=(M.run N)) hsr hsu (by rw[cM];omega) (by omega)) RW ⟨aD rfl,aD rfl,rfl⟩ ⟨rfl,rfl⟩ (.sl rfl (.sl rfl .nil)) (ok:=[some ⟨66,24,((M.rows (M.run N) (M.ex N) (M.cl N) N).flatMap (bV true)).map .t⟩,some ⟨46,14,((M.run N).flatMap (cF true)).map .t⟩]) ⟨aD rfl,aD rfl,rfl⟩ ?_
 refine st ?_;refine o1 ?_;refine nl ?_;refine rt ?_
 exact gX (en (.inl rfl) rfl (wM (.cons (.agg (.cons (.sl (trs:=(M.rows (M.run N) (M.ex N) (M.cl N) N).flatMap (bV true)) rfl rfl (bB _ _ (dE true _)) (dE true _)) (.cons (.sl (trs:=(M.run N).flatMap (cF true)) rfl rfl (bB _ _ (eF true _)) (eF true _)) .nil))) (.cons (bH _) .nil))) (by decide) (fun h=>by cases h) rfl)
def dO (a:Fr4):Bool:=decide ((a.x.length:Int)≤4)&&decide ((a.y.length:Int)≤4)
def wN (c:Fr4) (ys:List (Fr4×Fr4)):Bool:=((ys.take 50).all fun y=>dO y.1&&dO y.2)&&(dO c&&(decide ((ys.length:Int)≤12)||(decide ((40:Int)<ys.length)&&decide ((ys.length:Int)<50))))
def Bf (a:Fr4):Prop:=dO a=true→a.ok
def pK (c:Fr4) (bk fw:Int) (ys:List (Fr4×Fr4)):Mx:=⟨fun y=>(bR ys y).1.q,fun y=>(bR ys y).2.q,c.q,bk.toNat,fw.toNat⟩
theorem Jt {a:Fr4}(ha:a.ok) (h:dO a=true):Sz 4 a.q:=by
 obtain⟨l1,l2,_,_⟩:=ha
 simp only[dO,Bool.and_eq_true,decide_eq_true_eq]at h
 exact Vc (na:=a.s) (nb:=a.t) l1 l2 (by omega) (by omega) (by omega)
theorem Ov {c:Fr4}{ys:List (Fr4×Fr4)}{k:Nat}(h:k<ys.length) (h2:k<50) (h3:(dO (bR ys k).1&&dO (bR ys k).2)=false):false=wN c ys:=by
 unfold wN
 have:((ys.take 50).all fun y=>dO y.1&&dO y.2)=false:=by
  rw[List.all_eq_false]
  exact⟨_,List.mem_of_getElem? (i:=k) (by rw[List.getElem?_take,if_pos h2,dW h]),by simp only[h3];simp⟩
 rw[this]
 rfl
theorem kV {c:Fr4}{ys:List (Fr4×Fr4)}{k:Nat}(h:∀j,j<k→(dO (bR ys j).1&&dO (bR ys j).2)=true) (hk:k≤ys.length) (h2:¬(k<ys.length∧k<50)):(dO c&&(decide ((ys.length:Int)≤12)||(decide ((40:Int)<ys.length)&&decide ((ys.length:Int)<50))))=wN c ys:=by
 unfold wN
 have:((ys.take 50).all fun y=>dO y.1&&dO y.2)=true:=by
  rw[List.all_eq_true]
  intro x hx
  obtain⟨j,hj⟩:=List.mem_iff_getElem?.1 hx
  rw[List.getElem?_take]at hj
  split at hj
  ·have hjl:=(List.getElem?_eq_some_iff.1 hj).1
   rw[dW hjl]at hj
   injection hj with hj
   rw[←hj]
   exact h j (by omega)
  cases hj
 rw[this,Bool.true_and]
structure Sm (c:Fr4) (ys:List (Fr4×Fr4)):Prop where
 c:c.ok∧dO c=true
 y:∀y∈ys,(y.1.ok∧dO y.1=true)∧y.2.ok∧dO y.2=true
 l:ys.length<50
theorem FC {c:Fr4}{ys:List (Fr4×Fr4)}(h:wN c ys=true) (hc:Bf c) (hy:∀y∈ys,Bf y.1∧Bf y.2):Sm c ys:=by
 unfold wN at h
 simp only[Bool.and_eq_true,Bool.or_eq_true,decide_eq_true_eq]at h
 obtain⟨h1,h2,h3⟩:=h
 have hl:ys.length<50:=by omega
 rw[List.take_of_length_le (by omega),List.all_eq_true]at h1
 refine⟨⟨hc h2,h2⟩,fun y hm=>?_,hl⟩
 have:=h1 y hm
 simp only[Bool.and_eq_true]at this
 exact⟨⟨(hy y hm).1 this.1,this.1⟩,(hy y hm).2 this.2,this.2⟩
section
variable {c:Fr4}{bk fw:Int}{ys zs:List (Fr4×Fr4)}
theorem Sm.cz (h:Sm c ys):Sz 4 c.q:=Jt h.c.1 h.c.2
theorem Sm.sz (h:Sm c ys):∀y∈ys,Sz 68719476736 (c.q*abv y.1.q):=fun y hy=>(Js h.cz (gS (Jt (h.y y hy).1.1 (h.y y hy).1.2) (by omega))).mono (by omega)
theorem Vd {q:Rat}(h:¬q.num.sign<0):0≤q:=by
 rcases Rat.le_total (a:=0) (b:=q)with h1 | h1
 ·exact h1
 rcases Rat.le_iff_lt_or_eq.1 h1 with h2 | h2
 ·exact absurd ((mV q).2 h2) h
 rw[h2];exact Rat.le_refl
theorem Ow {p q:Rat}(h:¬0<(p-q).num.sign):p≤q:=by
 rcases Rat.le_total (a:=p) (b:=q)with h1 | h1
 ·exact h1
 rcases Rat.le_iff_lt_or_eq.1 h1 with h2 | h2
 ·exact absurd ((Ve p q).2 h2) h
 rw[h2];exact Rat.le_refl
theorem JY (h:cW c bk fw ys=0):fJ c bk fw=false∧(∀y∈ys,fV c y=false)∧ys.length≤40:=by
 unfold cW at h
 split at h
 ·cases h
 rename_i h1
 split at h
 ·cases h
 rename_i h2
 simp only[Bool.or_eq_true,not_or,Bool.not_eq_true]at h1
 simp only[decide_eq_true_eq]at h2
 exact⟨h1.1,fun y hy=>by
  have:=h1.2
  rw[List.any_eq_false]at this
  simpa using this y hy,by omega⟩
theorem JZ (h1:fJ c bk fw=false) (h2:∀y∈ys,fV c y=false) (h3:ys.length≤40):cW c bk fw ys=0:=by
 unfold cW
 have:ys.any (fV c)=false:=by
  rw[List.any_eq_false]
  intro y hy
  rw[h2 y hy]
  simp
 rw[h1,this,if_neg (by simp),if_neg (by simp;omega)]
theorem Dd (hs:Sm c ys) (h:cW c bk fw ys=0):(pK c bk fw ys).Ok ys.length∧c=Fr4.of (pK c bk fw ys).cap∧bk=((pK c bk fw ys).b:Int)∧fw=((pK c bk fw ys).w:Int)∧ys=yrs (pK c bk fw ys) ys.length:=by
 obtain⟨h1,h2,h3⟩:=JY h
 unfold fJ at h1
 simp only[Bool.or_eq_false_iff,Bool.not_eq_false',decide_eq_false_iff_not]at h1
 obtain⟨r1,r2,r3,r4,r5,r6,r7⟩:=h1
 have hy:∀i,i<ys.length→bR ys i∈ys:=fun i hi=>fZ hi
 have hb:∀i,i<ys.length→(bC (bR ys i).1.s (bR ys i).1.x (bR ys i).1.t (bR ys i).1.y=true)∧(bC (bR ys i).2.s (bR ys i).2.x (bR ys i).2.t (bR ys i).2.y=true)∧0≤(bR ys i).2.q∧(bR ys i).2.q≤c.q*abv (bR ys i).1.q:=fun i hi=>by
  have:=h2 _ (hy i hi)
  unfold fV at this
  simp only[Bool.or_eq_false_iff,Bool.not_eq_false',decide_eq_false_iff_not]at this
  obtain⟨b1,b2,b3,b4⟩:=this
  exact⟨b1,b2,Vd b3,Ow b4⟩
 refine⟨⟨fun i hi=>Jt (hs.y _ (hy i hi)).1.1 (hs.y _ (hy i hi)).1.2,fun i hi=>Jt (hs.y _ (hy i hi)).2.1 (hs.y _ (hy i hi)).2.2,hs.cz,Vd r2,Ow r3,fun i hi=>(hb i hi).2.2.1,fun i hi=>(hb i hi).2.2.2,h3,?_,?_⟩,(Qn.right (⟨hs.c.1,rfl⟩:Qn c c.q) r1).symm,?_,?_,?_⟩
 ·show fw.toNat≤40
  omega
 ·show bk.toNat≤3
  omega
 ·show bk=((bk.toNat:Nat):Int)
  omega
 ·show fw=((fw.toNat:Nat):Int)
  omega
 apply List.ext_getElem?
 intro i
 by_cases hi:i<ys.length
 ·rw[dW hi,fM hi]
  have e1:=Qn.right (⟨(hs.y _ (hy i hi)).1.1,rfl⟩:Qn (bR ys i).1 (bR ys i).1.q) (hb i hi).1
  have e2:=Qn.right (⟨(hs.y _ (hy i hi)).2.1,rfl⟩:Qn (bR ys i).2 (bR ys i).2.q) (hb i hi).2.1
  show some (bR ys i)=some (Fr4.of (bR ys i).1.q,Fr4.of (bR ys i).2.q)
  rw[e1,e2]
 rw[List.getElem?_eq_none (by omega),List.getElem?_eq_none (by rw[jQ];omega)]
def cC (c:Fr4) (bk fw:Int) (ys:List (Fr4×Fr4)):List Rw:=if cW c bk fw ys=0 then(pK c bk fw ys).rows ((pK c bk fw ys).run ys.length) ((pK c bk fw ys).ex ys.length) ((pK c bk fw ys).cl ys.length) ys.length else []
def bZ (c:Fr4) (bk fw:Int) (ys:List (Fr4×Fr4)):List Us:=if cW c bk fw ys=0 then(pK c bk fw ys).run ys.length else []
theorem Yy (hs:Sm c ys):(bZ c bk fw ys).length≤1600:=by
 unfold bZ
 split
 ·rename_i h
  obtain⟨h1,_⟩:=Dd hs h
  have:=pZ h1.b h1.w ys.length
  have:=h1.n
  omega
 simp
theorem Yz:(cC c bk fw ys).length≤ys.length:=by
 unfold cC
 split
 ·rw[cM];exact Nat.le_refl _
 simp
theorem FD (hs:Sm c ys):UsOk (bZ c bk fw ys):=by
 unfold bZ
 split
 ·rename_i h
  obtain⟨h1,_⟩:=Dd hs h
  exact UsOk.run h1 (Nat.le_refl _)
 exact fun u hu=>by cases hu
def KA (rs:List Rw):Prop:=∀r∈rs,Sz 330 r.l∧Sz 330 r.m∧Sz 330 r.u∧Sz 330 r.t∧Sz 330 r.e∧Sz 330 r.c
theorem FE (hs:Sm c ys):KA (cC c bk fw ys):=by
 unfold cC
 split
 ·rename_i h
  obtain⟨h1,_⟩:=Dd hs h
  intro r hr
  unfold Mx.rows at hr
  obtain⟨i,hi,rfl⟩:=List.mem_map.1 hr
  have hi:=List.mem_range.1 hi
  exact Vb h1 (h1.run (Nat.le_refl _)) hi (CP h1 (Nat.le_refl _) hi) (CQ h1 hi)
 exact fun r hr=>by cases hr
end
theorem Vf {c:Fr4}{bk fw:Int}{ys:List (Fr4×Fr4)}(hs:Sm c ys):aE false Tryz.prog 10 [] [.agg ((c.tr false++[.v (.int .i64 bk),.v (.int .i64 fw)]:List Tr).map .t),.one (.t (jB ys))] (aQ (.tup [.agg [.t (cV true true (cC c bk fw ys)),.t (cJ true true (bZ c bk fw ys))],.one (tv (.int .i64 (cW c bk fw ys)))])):=by
 by_cases h:cW c bk fw ys=0
 ·obtain⟨h1,e1,e2,e3,e4⟩:=Dd hs h
  have h9:=OI h1 (by rw[←e1,←e2,←e3,←e4];exact h)
  rw[←e1,←e2,←e3,←e4]at h9
  unfold cC bZ
  rw[if_pos h,if_pos h,h]
  exact h9
 unfold cC bZ
 rw[if_neg h,if_neg h]
 exact Yw hs.c.1 (fun y hy=>⟨(hs.y y hy).1.1,(hs.y y hy).2.1⟩) hs.sz (by have:=hs.l;omega) h
theorem gT {q:Rat}{L:Nat}(h:Sz L q) (hL:L≤68719476736:=by omega):(Fr4.of q).len 1099511627776:=⟨Nat.le_trans h.1 (by omega),Nat.le_trans h.2 (by omega)⟩
def mW (o:Bool) (rs:List Rw):Tr:=.s o 68 24 rs.length (rs.flatMap (bV false))
def lQ (o:Bool) (us:List Us):Tr:=.s o 51 14 us.length (us.flatMap (cF false))
theorem yM {a b:Us}:a=b↔a.v=b.v∧a.y=b.y∧Fr4.of a.n=Fr4.of b.n∧Fr4.of a.p=Fr4.of b.p∧Fr4.of a.q=Fr4.of b.q:=by
 constructor
 ·rintro rfl;exact⟨rfl,rfl,rfl,rfl,rfl⟩
 rintro⟨h1,h2,h3,h4,h5⟩
 cases a
 cases b
 simp only[De]at h1 h2 h3 h4 h5
 simp[h1,h2,h3,h4,h5]
theorem KB {a b:Us}:a=b↔a.v=b.v∧a.y=b.y∧a.n=b.n∧a.p=b.p∧a.q=b.q:=by
 rw[yM,De,De,De]
instance:DecidableEq Us:=fun _ _=>decidable_of_iff _ KB.symm
theorem wO {us:List Us}{k:Nat}(h:k<us.length):us.take (k+1)=us.take k++[aW us k]:=by
 have e:aW us k=us[k]:=by
  have:=dC h
  rw[List.getElem?_eq_getElem h]at this
  injection this with this
  exact this.symm
 rw[e,List.take_append_getElem]
theorem Ju {rs:List Rw}{k:Nat}(h:k<rs.length):aC rs k∈rs:=List.mem_of_getElem? (eT h)
def gL (l:List (Rat×Rat)):List (Fr4×Fr4):=l.map fun p=>(Fr4.of p.1,Fr4.of p.2)
def Df (c:Rat) (b w:Nat) (l:List (Rat×Rat)):Mx:=⟨fun y=>(l.getD y (0,0)).1,fun y=>(l.getD y (0,0)).2,c,b,w⟩
def Jv (c:Rat) (b w:Nat) (l:List (Rat×Rat)):Bool:=decide (0≤c)&&decide (c≤1)&&decide (b≤3)&&decide (w≤40)&&decide (l.length≤40)&&l.all fun p=>decide (0≤p.2)&&decide (p.2≤c*abv p.1)
theorem Vg:Bg.q=0:=by
 unfold Fr4.q Bg
 exact wP rfl
theorem KC (c:Rat) (b w:Nat) (l:List (Rat×Rat)):pK (Fr4.of c) (b:Int) (w:Int) (gL l)=Df c b w l:=by
 have h:∀y,bR (gL l) y=if y<l.length then(Fr4.of (l.getD y (0,0)).1,Fr4.of (l.getD y (0,0)).2)else(Bg,Bg):=fun y=>by
  unfold bR gL
  by_cases hy:y<l.length
  ·rw[if_pos hy,List.getD_eq_getElem?_getD,List.getD_eq_getElem?_getD,List.getElem?_map,List.getElem?_eq_getElem hy]
   rfl
  rw[if_neg hy,List.getD_eq_getElem?_getD,List.getElem?_map,List.getElem?_eq_none (by omega)]
  rfl
 unfold pK Df
 rw[Fr4.q_of]
 congr 1
 ·funext y
  rw[h]
  split
  ·exact Fr4.q_of _
  rename_i hy
  rw[List.getD_eq_getElem?_getD,List.getElem?_eq_none (by omega)]
  exact Vg
 funext y
 rw[h]
 split
 ·exact Fr4.q_of _
 rename_i hy
 rw[List.getD_eq_getElem?_getD,List.getElem?_eq_none (by omega)]
 exact Vg
theorem Sb {c:Rat}{b w:Nat}{l:List (Rat×Rat)}(h:Jv c b w l=true):cW (Fr4.of c) (b:Int) (w:Int) (gL l)=0:=by
 unfold Jv at h
 simp only[Bool.and_eq_true,decide_eq_true_eq,List.all_eq_true]at h
 obtain⟨⟨⟨⟨⟨h1,h2⟩,h3⟩,h4⟩,h5⟩,h6⟩:=h
 have nn:∀{q:Rat},0≤q→¬q.num.sign<0:=fun{q} hq h9=>by
  have:=(mV q).1 h9
  grind
 have ns:∀{p q:Rat},p≤q→¬0<(p-q).num.sign:=fun{p q} hq h9=>by
  have:=(Ve p q).1 h9
  grind
 have rt:∀q:Rat,bC (Fr4.of q).s (Fr4.of q).x (Fr4.of q).t (Fr4.of q).y=true:=fun q=>wQ q
 refine JZ ?_ (fun y hy=>?_) (by unfold gL;rw[List.length_map];exact h5)
 ·unfold fJ
  rw[rt,Fr4.q_of,decide_eq_false (nn h1),decide_eq_false (ns (q:=((1:Int):Rat)) h2),decide_eq_false (by omega),decide_eq_false (by omega),decide_eq_false (by omega),decide_eq_false (by omega)]
  rfl
 unfold gL at hy
 obtain⟨p,hp,rfl⟩:=List.mem_map.1 hy
 obtain⟨g1,g2⟩:=h6 p hp
 unfold fV
 dsimp only
 rw[rt,rt,Fr4.q_of,Fr4.q_of,Fr4.q_of,decide_eq_false (nn g1),decide_eq_false (ns g2)]
 rfl
theorem KD {c:Rat}{b w:Nat}{l:List (Rat×Rat)}(h:Jv c b w l=true):bZ (Fr4.of c) (b:Int) (w:Int) (gL l)=(Df c b w l).run l.length:=by
 unfold bZ
 rw[if_pos (Sb h),KC]
 unfold gL
 rw[List.length_map]
theorem Vh {c:Rat}{b w:Nat}{l:List (Rat×Rat)}(h:Jv c b w l=true):cC (Fr4.of c) (b:Int) (w:Int) (gL l)=(Df c b w l).rows ((Df c b w l).run l.length) ((Df c b w l).ex l.length) ((Df c b w l).cl l.length) l.length:=by
 unfold cC
 rw[if_pos (Sb h),KC]
 unfold gL
 rw[List.length_map]
theorem KE {c:Rat}{l:List (Rat×Rat)}(hc:Sz 4 c) (h:∀p∈l,Sz 4 p.1∧Sz 4 p.2) (hl:l.length<50):Sm (Fr4.of c) (gL l):=by
 have key:∀{q:Rat},Sz 4 q→(Fr4.of q).ok∧dO (Fr4.of q)=true:=fun{q} hq=>by
  refine⟨(Qn.of hq).1,?_⟩
  have h1:=hq.1
  have h2:=hq.2
  unfold dO Fr4.of
  simp only[Bool.and_eq_true,decide_eq_true_eq]
  omega
 refine⟨key hc,fun y hy=>?_,by unfold gL;rw[List.length_map];exact hl⟩
 unfold gL at hy
 obtain⟨p,hp,rfl⟩:=List.mem_map.1 hy
 exact⟨key (h p hp).1,key (h p hp).2⟩
theorem Vi {xs:List Nat}(hx:xs.length≤4398046511104):aE false Tryz.prog 181 [] [.one (.t (sI false xs))] (aQ (.one (.t (sI false (trim xs))))):=by
 refine bO Tryz.func181 rfl Tryz.ntmps181 rfl aA rfl fun N w c0 h0=>?_
 refine sq ?_;refine rl ?_;refine o1 ?_;refine nl ?_;refine sq ?_;refine bl ?_
 refine lp (γ:=List Nat) (fun zs=>cG [(0,.one (.t (sI false zs)))]) (fun _=>([]:List Ob).map some) (fun zs=>trim zs=trim xs∧zs.length≤xs.length) (fun zs=>zs.length) xs ⟨rfl,Nat.le_refl _⟩ (aP h0 [] _ _ (by decide) ⟨rfl,trivial⟩ rfl) fun zs hz=>?_
 refine sq ?_;refine sq ?_;refine rl ?_;(iterate 4 refine o1 ?_);refine WL.split (t:=6) rfl (fun h1=>?_) (fun h1=>?_)
 ·(iterate 4 refine o1 ?_);refine WL.cast (t:=10) (u':=.int .i64 ((zs.length-1:Nat):Int)) rfl (aO (by omega)) ?_
  refine o1 ?_;refine gJ ([.v (.int .i64 ((nth zs (zs.length-1):Nat):Int))]) (fN zs (k:=zs.length-1) (by omega)) ?_
  refine o1 ?_;refine o1 ?_;refine nl ?_;refine bQ rfl (fun h2=>?_) (fun h2=>?_)
  ·refine sk ?_;refine bl ?_;refine rl ?_;(iterate 4 refine o1 ?_);refine WL.cast (t:=18) (u':=.int .i64 ((zs.length-1:Nat):Int)) rfl (aO (by omega)) ?_
   refine o1 ?_;refine o1 ?_;refine nl ?_
   exact⟨zs.take (zs.length-1),by rw[List.length_take];omega,⟨(by rw[wB (xs:=zs) (k:=zs.length) (by omega) (Nat.le_refl _) (by omega),List.take_length];exact hz.1),by rw[List.length_take];omega⟩,aP h0 [] _ _ (by decide) ⟨congrArg some (Vj (by omega)).symm,trivial⟩ rfl⟩
  refine ex ?_;refine sq ?_;refine rl ?_;refine o1 ?_;refine o1 ?_;refine nl ?_;refine rt ?_;refine en (.inl rfl) rfl (aN (.one (.id rfl))) (by decide) (fun h=>by cases h) ?_
  have hx:trim xs=zs:=by
   rw[←hz.1];have h9:=rL (xs:=zs) (k:=zs.length) (by omega) (Nat.le_refl _) (by omega)
   rwa[List.take_length]at h9
  rw[hx];rfl
 (iterate 7 refine dV ?_);refine o1 ?_;refine nl ?_;refine iE rfl ?_;refine ex ?_;refine sq ?_;refine rl ?_;refine o1 ?_;refine o1 ?_;refine nl ?_;refine rt ?_
 refine en (.inl rfl) rfl (aN (.one (.id rfl))) (by decide) (fun h=>by cases h) ?_
 have hx:trim xs=zs:=by
  have h9:zs=[]:=List.eq_nil_of_length_eq_zero (by omega)
  rw[←hz.1,h9];rfl
 rw[hx];rfl
theorem kW {xs:List Nat}(hx:xs.length≤1099511627776) (hl:Lim 4294967296 xs):aE false Tryz.prog 169 [] [.one (.t (sU false xs))] (aQ (.one (.t (sI false (dg 65536 (vl 4294967296 xs)))))):=by
 refine bO Tryz.func169 rfl Tryz.ntmps169 rfl aA rfl fun N w c0 h0=>?_
 refine sq ?_;refine rl ?_;refine o1 ?_;refine nl ?_;refine sq ?_;refine rl ?_;refine o1 ?_;refine nl ?_;refine sq ?_;refine sq ?_;refine rl ?_;refine o1 ?_;refine nl ?_;refine bl ?_
 refine lp (γ:=Nat) (fun k=>cG [(0,.one (.t (sU false xs))),(3,.one (.sl 0 0 (2*k))),(4,.one (tv (.int .i64 ((k:Nat):Int))))]) (fun k=>[(⟨3,1,(eL (hv (xs.take k))).map .t⟩:Ob)].map some) (fun k=>k≤xs.length) (fun k=>xs.length-k) 0 (Nat.zero_le _) ((nr (i:=3) 0 3 1 rfl rfl rfl rfl).trans (aP h0 [0] _ _ (by decide) ⟨rfl,rfl,rfl,trivial⟩ ⟨aD (l:=[]) rfl,rfl⟩)) fun k hk=>?_
 have hn:=hl.nth (by omega) k
 refine sq ?_;refine sq ?_;refine rl ?_;(iterate 4 refine o1 ?_);refine nl ?_;refine bQ rfl (fun h1=>?_) (fun h1=>?_)
 ·refine sk ?_;refine sq ?_;refine bl ?_;refine rd [] (fun i=>[15].contains i) mixed ?_
  refine dv 0 ?_;refine dv 1 ?_;refine dv 2 ?_;refine dv 3 ?_;refine dG 4 ([.v (.int .u32 ((nth xs (k):Nat):Int))]) (nJ xs (k:=k) (by omega)) ?_
  refine dv 5 ?_;refine WD.cast (t:=16) (u':=.int .u32 ((nth xs k%65536:Nat):Int)) rfl (aO (lK _ 65536)) ?_;refine dv 6 ?_;refine dv 7 ?_;refine dv 8 ?_;refine dv 9 ?_
  refine dG 10 ([.v (.int .u32 ((nth xs (k):Nat):Int))]) (nJ xs (k:=k) (by omega)) ?_
  refine dv 11 ?_ (hC:=(iH 65536 (by omega) (by simp only[iS];omega)))
  refine WD.cast (t:=22) (u':=.int .u32 ((nth xs k/65536:Nat):Int)) rfl (aO (fS _ 65536)) ?_;refine dv 12 ?_;refine fI (key:=1) 13 (by kernel_rfl) rfl rfl aA rfl trivial ?_
  refine CS (j:=2) 14 rfl aA rfl rfl rfl (.sl rfl (by rw[List.length_map,iI,qQ,List.length_take];omega)) (.sl rfl rfl rfl) rfl rfl (by omega) (by omega) rfl rfl (by kernel_rfl) rfl ?_
  refine cT 15 (by kernel_rfl) rfl rfl aA rfl (by trivial) ?_ (fun h=>by first | rfl | cases h)
  refine aH ?_;refine rl ?_;(iterate 3 refine o1 ?_);refine nl ?_
  exact⟨k+1,by omega,by omega,aP h0 [2] _ _ (by decide) ⟨rfl,rfl,rfl,trivial⟩ ⟨nK rfl (iJ _ [nth xs k%65536,nth xs k/65536]) (Ox (by omega)).symm,rfl⟩⟩
 refine ex ?_;refine sq ?_;refine rl ?_;refine WL.sub (Ah (i:=3) (zs':=hv xs) rfl rfl rfl (by rw[qQ,List.length_take];omega) (by rw[List.take_of_length_le (by omega)])) ?_
 refine o1 ?_;refine ca (Vi (by rw[qQ];omega)) CT ⟨a1 rfl,rfl⟩ (.one (.t (sI false (trim (hv xs))))) ?_
 refine o1 ?_;refine nl ?_;refine rt ?_;exact en (.inl rfl) rfl (aN (.one (.id rfl))) (by decide) (fun h=>by cases h) (by rw[CU hl];rfl)
theorem Bh {xs:List Nat}(hx:xs.length≤4398046511104) (hl:Lim 65536 xs):aE true Tryz.prog 171 [] [.one (.t (sI false xs))] (aQ (.one (.t (sU true (dg 4294967296 (vl 65536 xs)))))):=by
 refine bO Tryz.func171 rfl Tryz.ntmps171 rfl aA rfl fun N w c0 h0=>?_
 refine sq ?_;refine rl ?_;refine o1 ?_;refine nl ?_;refine sq ?_;refine rl ?_;refine o1 ?_;refine nl ?_;refine sq ?_;refine rl ?_;refine o1 ?_
 refine ca (Vi hx) CT ⟨a1 rfl,rfl⟩ (.one (.t (sI false (trim xs)))) ?_;refine o1 ?_;refine nl ?_;refine sq ?_;refine sq ?_;have htl:=cU xs
 have hlt:=hl.trim
 generalize hY:trim xs=ys at htl hlt;refine rl ?_;refine o1 ?_;refine nl ?_;refine bl ?_
 refine lp (γ:=Nat) (fun k=>cG [(0,.one (.t (sI false ys))),(3,.one (.sl 0 0 k)),(4,.one (tv (.int .i64 ((2*k:Nat):Int))))]) (fun k=>[(⟨109,1,(aJ (lb (ys.take (2*k)))).map .t⟩:Ob)].map some) (fun k=>2*k≤ys.length+1) (fun k=>ys.length+1-2*k) 0 (Nat.zero_le _) ((nr (i:=3) 0 109 1 rfl rfl rfl rfl).trans (aP h0 [0] _ _ (by decide) ⟨rfl,rfl,rfl,trivial⟩ ⟨aD (l:=[]) rfl,rfl⟩)) fun k hk=>?_
 have hn:=hlt.nth (by omega) (2*k)
 have hn2:=hlt.nth (by omega) (2*k+1)
 refine sq ?_;refine sq ?_;refine rl ?_;(iterate 4 refine o1 ?_);refine nl ?_;refine bQ rfl (fun h1=>?_) (fun h1=>?_)
 ·refine sk ?_;refine sq ?_;refine bl ?_;refine sq ?_;refine rl ?_;refine o1 ?_;refine nl ?_;refine sq ?_;refine sq ?_;refine rl ?_;refine o1 ?_;refine o1 ?_
  refine WL.cast (t:=15) (u':=.int .i64 ((2*k+1:Nat):Int)) rfl (aO (by omega)) ?_
  (iterate 3 refine o1 ?_);refine nl ?_;refine bQ rfl (fun h2=>?_) (fun h2=>?_)
  ·refine rl ?_;(iterate 3 refine o1 ?_);refine WL.cast (t:=21) (u':=.int .i64 ((2*k+1:Nat):Int)) rfl (aO (by omega)) ?_
   refine o1 ?_;refine gJ ([.v (.int .i64 ((nth ys (2*k+1):Nat):Int))]) (fN ys (k:=2*k+1) (by omega)) ?_
   refine o1 ?_;refine nl ?_;refine rl ?_;(iterate 4 refine o1 ?_);refine gJ ([.v (.int .i64 ((nth ys (2*k):Nat):Int))]) (fN ys (k:=2*k) (by omega)) ?_
   (iterate 5 refine o1 ?_);refine WL.cast (t:=33) (u':=.int .u32 ((nth ys (2*k)+65536*nth ys (2*k+1):Nat):Int)) rfl (aO (by omega)) ?_
   refine bs 1 ?_;refine jN (j:=2) aA rfl rfl rfl rfl (.sl rfl (by rw[List.length_map,iK,jC,List.length_take];omega)) (.sl rfl rfl rfl) rfl rfl rfl (by omega) (by omega) ?_
   refine o1 ?_;refine nl ?_;refine rl ?_;(iterate 3 refine o1 ?_);refine nl ?_
   exact⟨k+1,by omega,by omega,aP h0 [2] _ _ (by decide) ⟨rfl,rfl,rfl,trivial⟩ ⟨Vk rfl (Jw _ [nth ys (2*k)+65536*nth ys (2*k+1)]) (yN (by omega)).symm,rfl⟩⟩
  have hz:=eQ (l:=ys) (k:=2*k+1) (by omega)
  refine sk ?_;refine rl ?_;(iterate 4 refine o1 ?_);refine gJ ([.v (.int .i64 ((nth ys (2*k):Nat):Int))]) (fN ys (k:=2*k) (by omega)) ?_
  (iterate 5 refine o1 ?_);refine WL.cast (t:=33) (u':=.int .u32 ((nth ys (2*k)+65536*nth ys (2*k+1):Nat):Int)) rfl (aO (by omega)) ?_
  refine bs 1 ?_;refine jN (j:=2) aA rfl rfl rfl rfl (.sl rfl (by rw[List.length_map,iK,jC,List.length_take];omega)) (.sl rfl rfl rfl) rfl rfl rfl (by omega) (by omega) ?_
  refine o1 ?_;refine nl ?_;refine rl ?_;(iterate 3 refine o1 ?_);refine nl ?_
  exact⟨k+1,by omega,by omega,aP h0 [2] _ _ (by decide) ⟨rfl,rfl,rfl,trivial⟩ ⟨Vk rfl (Jw _ [nth ys (2*k)+65536*nth ys (2*k+1)]) (yN (by omega)).symm,rfl⟩⟩
 refine ex ?_;refine sq ?_;refine rl ?_;refine o1 ?_;refine o1 ?_;refine nl ?_;refine rt ?_
 exact en (.inl rfl) rfl (aN (.one (.sl (trs:=aJ (lb ys)) rfl rfl (by rw[List.take_of_length_le (l:=ys) (by omega),List.take_of_length_le (by simp[iK,jC];omega)]) (by rw[iK,jC];omega)))) (by decide) (fun _=>.inl ⟨rfl,fB _⟩) (by rw[←yO,fF (by omega) hl,hY];unfold sU;rw[show k=(lb ys).length by rw[jC];omega];rfl)
theorem pR {xs:List Nat}{k:Nat}:aE true Tryz.prog 170 [] [.one (.t (sI false xs)),.one (tv (.int .i64 ((k:Nat):Int)))] (aQ (.one (tv (.int .i64 ((nth xs k:Nat):Int))))):=by
 refine bO Tryz.func170 rfl Tryz.ntmps170 rfl aA rfl fun N w c0 h0=>?_
 refine sq ?_;refine rl ?_;refine o1 ?_;refine nl ?_;refine sq ?_;refine sq ?_;refine rl ?_;(iterate 4 refine o1 ?_);refine nl ?_;refine bQ rfl (fun h1=>?_) (fun h1=>?_)
 ·refine sq ?_;refine rl ?_;(iterate 3 refine o1 ?_);refine gJ ([.v (.int .i64 ((nth xs (k):Nat):Int))]) (fN xs (k:=k) (by omega)) ?_
  refine o1 ?_;refine nl ?_;refine rt ?_;refine en (.inl rfl) rfl (aN (bH _)) (by decide) (fun _=>trivial) ?_
  rfl
 refine sk ?_;refine sq ?_;refine rl ?_;refine o1 ?_;refine nl ?_;refine rt ?_;refine en (.inl rfl) rfl (aN (bH _)) (by decide) (fun _=>trivial) ?_
 rw[eQ (by omega)];rfl
theorem FF {xs:List Nat}(hx:xs.length≤1099511627776) (hlx:Lim 4294967296 xs):aE true Tryz.prog 147 [] [.one (.t (sU false xs))] (aQ (.one (.t (sU true (dg 4294967296 (vl 4294967296 xs)))))):=by
 refine bO Tryz.func147 rfl Tryz.ntmps147 rfl aA rfl fun N w c0 h0=>?_
 have hd:=eM (v:=vl 4294967296 xs) (L:=xs.length) (by rw[fF (by omega) hlx];exact cU _)
 have hl9:=aR (B:=65536) (by omega) (vl 4294967296 xs)
 refine sq ?_;refine rl ?_;refine o1 ?_;refine nl ?_;refine sq ?_;refine rl ?_;refine o1 ?_
 refine ca (kW hx hlx) uT ⟨a1 rfl,rfl⟩ (.one (.t (sI false (dg 65536 (vl 4294967296 xs))))) ?_;refine gQ 0 (Bh (by omega) (by assumption)) Sc ⟨a1 rfl,rfl⟩ ?_
 refine o1 ?_;refine nl ?_;refine rt ?_
 exact en (.inl rfl) rfl (aN (.one (.sl (trs:=aJ (dg 4294967296 (vl 65536 (dg 65536 (vl 4294967296 xs))))) rfl rfl (aY _) (aU _)))) (by decide) (fun _=>.inl ⟨rfl,fB _⟩) (by rw[cE (by omega)];rfl)
theorem Jx {xs ys:List Nat}(hx:xs.length≤1099511627776) (hlx:Lim 4294967296 xs) (hy:ys.length≤1099511627776) (hly:Lim 4294967296 ys):aE true Tryz.prog 167 [] [.one (.t (sU false xs)),.one (.t (sU false ys))] (aQ (.one (tv (.int .i64 (((vl 4294967296 xs:Nat):Int)-((vl 4294967296 ys:Nat):Int)).sign)))):=by
 refine bO Tryz.func167 rfl Tryz.ntmps167 rfl aA rfl fun N w c0 h0=>?_
 refine sq ?_;refine rl ?_;refine o1 ?_;refine nl ?_;refine sq ?_;refine rl ?_;refine o1 ?_
 refine ca (kW hx hlx) uT ⟨a1 rfl,rfl⟩ (.one (.t (sI false (dg 65536 (vl 4294967296 xs))))) ?_;refine o1 ?_
 refine ca (kW hy hly) uT ⟨a1 rfl,rfl⟩ (.one (.t (sI false (dg 65536 (vl 4294967296 ys))))) ?_;refine o1 ?_;refine o1 ?_;refine nl ?_;refine sq ?_;refine sq ?_
 have hdx:=eM (v:=vl 4294967296 xs) (L:=xs.length) (by rw[fF (by omega) hlx];exact cU _)
 have hdy:=eM (v:=vl 4294967296 ys) (L:=ys.length) (by rw[fF (by omega) hly];exact cU _)
 have hX:=aR (B:=65536) (by omega) (vl 4294967296 xs)
 have hY:=aR (B:=65536) (by omega) (vl 4294967296 ys)
 have hvX:=cE (B:=65536) (by omega) (vl 4294967296 xs)
 have hvY:=cE (B:=65536) (by omega) (vl 4294967296 ys)
 generalize dg 65536 (vl 4294967296 xs)=X at hdx hX hvX⊢;generalize dg 65536 (vl 4294967296 ys)=Y at hdy hY hvY⊢;refine rl ?_;(iterate 5 refine o1 ?_)
 refine WL.cast (t:=16) (u':=.int .i64 ((max X.length Y.length:Nat):Int)) rfl (aO (by omega)) ?_
 refine o1 ?_;refine o1 ?_;refine nl ?_;refine bl ?_
 refine lp (γ:=Nat) (fun k=>cG [(5,.one (.t (sI false X))),(6,.one (.t (sI false Y))),(7,.one (tv (.int .i64 ((k:Nat)-1))))]) (fun k=>([]:List Ob).map some) (fun k=>(∀j,k≤j→nth X j=nth Y j)∧k≤max X.length Y.length) (fun k=>k) (max X.length Y.length) ⟨fun j hj=>by rw[eQ (by omega),eQ (by omega)],Nat.le_refl _⟩ (aP h0 [] _ _ (by decide) ⟨rfl,rfl,rfl,trivial⟩ rfl) fun k hk=>?_
 refine sq ?_;refine sq ?_;refine rl ?_;refine o1 ?_;refine o1 ?_;refine nl ?_;refine bQ rfl (fun h1=>?_) (fun h1=>?_)
 ·refine sk ?_;refine sq ?_;refine bl ?_;refine sq ?_;refine sq ?_;refine rl ?_;refine o1 ?_;refine o1 ?_
  refine WL.cast (t:=23) (u':=.int .i64 ((k-1:Nat):Int)) rfl (aO (by omega)) ?_
  refine ca (pR) pS ⟨a1 rfl,a1 rfl,rfl⟩ (.one (tv (.int .i64 ((nth X (k-1):Nat):Int)))) ?_;refine o1 ?_;refine o1 ?_
  refine WL.cast (t:=26) (u':=.int .i64 ((k-1:Nat):Int)) rfl (aO (by omega)) ?_
  refine ca (pR) pS ⟨a1 rfl,a1 rfl,rfl⟩ (.one (tv (.int .i64 ((nth Y (k-1):Nat):Int)))) ?_;refine o1 ?_;refine nl ?_;refine bQ rfl (fun h2=>?_) (fun h2=>?_)
  ·refine sq ?_;refine rl ?_;refine o1 ?_;refine nl ?_;refine rt ?_;refine en (.inl rfl) rfl (aN (bH _)) (by decide) (fun _=>trivial) (congrArg (fun z=>FV.one (tv (.int .i64 z))) ?_)
   have he:=Ie (X:=X) (Y:=Y) (k:=k-1) hX (fun j hj=>hk.1 j (by omega)) (by omega)
   rw[hvX,hvY]at he;rw[Int.sign_eq_neg_one_of_neg (by omega)]
  refine sk ?_;refine sq ?_;refine rl ?_;refine o1 ?_;refine o1 ?_;refine WL.cast (t:=30) (u':=.int .i64 ((k-1:Nat):Int)) rfl (aO (by omega)) ?_
  refine ca (pR) pS ⟨a1 rfl,a1 rfl,rfl⟩ (.one (tv (.int .i64 ((nth X (k-1):Nat):Int)))) ?_;refine o1 ?_;refine o1 ?_
  refine WL.cast (t:=33) (u':=.int .i64 ((k-1:Nat):Int)) rfl (aO (by omega)) ?_
  refine ca (pR) pS ⟨a1 rfl,a1 rfl,rfl⟩ (.one (tv (.int .i64 ((nth Y (k-1):Nat):Int)))) ?_;refine o1 ?_;refine nl ?_;refine bQ rfl (fun h3=>?_) (fun h3=>?_)
  ·refine sq ?_;refine rl ?_;refine o1 ?_;refine nl ?_;refine rt ?_;refine en (.inl rfl) rfl (aN (bH _)) (by decide) (fun _=>trivial) (congrArg (fun z=>FV.one (tv (.int .i64 z))) ?_)
   have he:=Ie (X:=Y) (Y:=X) (k:=k-1) hY (fun j hj=>(hk.1 j (by omega)).symm) (by omega)
   rw[hvX,hvY]at he;rw[Int.sign_eq_one_of_pos (by omega)]
  refine sk ?_;refine rl ?_;(iterate 3 refine o1 ?_);refine nl ?_
  exact⟨k-1,by omega,⟨fun j hj=>(Nat.eq_or_lt_of_le hj).elim (fun h9=>by rw[←h9];omega) (fun h9=>hk.1 j (by omega)),by omega⟩,aP h0 [] _ _ (by decide) ⟨rfl,rfl,congrArg (fun z=>some (FV.one (tv (.int .i64 z)))) (by omega),trivial⟩ rfl⟩
 refine ex ?_;refine sq ?_;refine rl ?_;refine o1 ?_;refine nl ?_;refine rt ?_
 refine en (.inl rfl) rfl (aN (bH _)) (by decide) (fun _=>trivial) (congrArg (fun z=>FV.one (tv (.int .i64 z))) ?_)
 have he:=Vl (fun j=>hk.1 j (by omega))
 rw[hvX,hvY]at he;rw[he,Int.sub_self];rfl
theorem KF {xs ys:List Nat}(hx:xs.length≤1099511627776) (hlx:Lim 4294967296 xs) (hy:ys.length≤1099511627776) (hly:Lim 4294967296 ys):aE true Tryz.prog 139 [] [.one (.t (sU false xs)),.one (.t (sU false ys))] (aQ (.one (.t (sU true (dg 4294967296 (vl 4294967296 xs+vl 4294967296 ys)))))):=by
 refine bO Tryz.func139 rfl Tryz.ntmps139 rfl aA rfl fun N w c0 h0=>?_
 refine sq ?_;refine rl ?_;refine o1 ?_;refine nl ?_;refine sq ?_;refine rl ?_;refine o1 ?_
 refine ca (kW hx hlx) uT ⟨a1 rfl,rfl⟩ (.one (.t (sI false (dg 65536 (vl 4294967296 xs))))) ?_;refine o1 ?_
 refine ca (kW hy hly) uT ⟨a1 rfl,rfl⟩ (.one (.t (sI false (dg 65536 (vl 4294967296 ys))))) ?_;refine o1 ?_;refine o1 ?_;refine nl ?_;refine sq ?_
 have hdx:=eM (v:=vl 4294967296 xs) (L:=xs.length) (by rw[fF (by omega) hlx];exact cU _)
 have hdy:=eM (v:=vl 4294967296 ys) (L:=ys.length) (by rw[fF (by omega) hly];exact cU _)
 have hX:=aR (B:=65536) (by omega) (vl 4294967296 xs)
 have hY:=aR (B:=65536) (by omega) (vl 4294967296 ys)
 have hvX:=cE (B:=65536) (by omega) (vl 4294967296 xs)
 have hvY:=cE (B:=65536) (by omega) (vl 4294967296 ys)
 generalize dg 65536 (vl 4294967296 xs)=X at hdx hX hvX⊢;generalize dg 65536 (vl 4294967296 ys)=Y at hdy hY hvY⊢;refine rl ?_;refine o1 ?_;refine nl ?_;refine sq ?_;refine rl ?_
 refine o1 ?_;refine nl ?_;refine sq ?_;refine sq ?_;refine rl ?_;refine o1 ?_;refine nl ?_;refine bl ?_
 refine lp (γ:=Nat×Nat×List Nat) (fun s=>cG [(5,.one (.t (sI false X))),(6,.one (.t (sI false Y))),(7,.one (.sl 0 0 s.1)),(8,.one (tv (.int .i64 ((s.2.1:Nat):Int)))),(9,.one (tv (.int .i64 ((s.1:Nat):Int))))]) (fun s=>[(⟨3,1,(eL s.2.2).map .t⟩:Ob)].map some) (fun s=>s.2.2.length=s.1∧Lim 65536 s.2.2∧vl 65536 s.2.2+65536^s.1*s.2.1=vl 65536 (X.take s.1)+vl 65536 (Y.take s.1)∧s.2.1≤1∧(s.1≤max X.length Y.length∨s.1=max X.length Y.length+1∧s.2.1=0)) (fun s=>max X.length Y.length+1-s.1) (0,0,[]) ⟨rfl,Lim.nil,rfl,Nat.zero_le _,.inl (Nat.zero_le _)⟩ ((nr (i:=7) 0 3 1 rfl rfl rfl rfl).trans (aP h0 [0] _ _ (by decide) ⟨rfl,rfl,rfl,rfl,rfl,trivial⟩ ⟨aD (l:=[]) rfl,rfl⟩)) ?_
 rintro⟨k,cr,os⟩ ⟨hos,hol,hv,hc1,hkm⟩;dsimp only at hos hol hv hc1 hkm⊢;have hn1:=hX.nth (by omega) k
 have hn2:=hY.nth (by omega) k
 refine sq ?_;refine sq ?_;refine rl ?_;(iterate 6 refine o1 ?_);refine WL.cast (t:=20) (u':=.int .i64 ((max X.length Y.length:Nat):Int)) rfl (aO (by omega)) ?_
 refine o1 ?_;refine o1 ?_;refine WL.split (t:=22) rfl (fun h1=>?_) (fun h1=>?_)
 ·refine dV ?_;refine dV ?_;refine o1 ?_;refine nl ?_;refine iF rfl ?_;refine sk ?_;refine sq ?_;refine bl ?_;refine sq ?_;refine rl ?_;refine o1 ?_;refine o1 ?_
  refine ca (pR) pS ⟨a1 rfl,a1 rfl,rfl⟩ (.one (tv (.int .i64 ((nth X (k):Nat):Int)))) ?_;refine o1 ?_;refine o1 ?_
  refine ca (pR) pS ⟨a1 rfl,a1 rfl,rfl⟩ (.one (tv (.int .i64 ((nth Y (k):Nat):Int)))) ?_;(iterate 3 refine o1 ?_)
  refine WL.cast (t:=36) (u':=.int .i64 ((nth X k+nth Y k+cr:Nat):Int)) rfl (aO (by omega)) ?_
  refine o1 ?_;refine nl ?_;refine sq ?_;refine rl ?_;(iterate 3 refine o1 ?_)
  refine WL.cast (t:=39) (u':=.int .i64 (((nth X k+nth Y k+cr)%65536:Nat):Int)) rfl (aO (lK _ 65536)) ?_;refine bs 1 ?_
  refine jN (j:=2) aA rfl rfl rfl rfl (.sl rfl (by rw[List.length_map,iI,hos];omega)) (.sl rfl rfl rfl) rfl rfl rfl (by omega) (by omega) ?_
  refine o1 ?_;refine nl ?_;refine rl ?_;refine o1 ?_;refine o1 ?_ (hC:=(iH 65536 (by omega) (by simp only[iS];omega)))
  refine WL.cast (t:=43) (u':=.int .i64 (((nth X k+nth Y k+cr)/65536:Nat):Int)) rfl (aO (fS _ 65536)) ?_;refine o1 ?_;refine nl ?_;refine rl ?_;(iterate 3 refine o1 ?_)
  refine nl ?_;have hst:=Jy hos hv
  have hz1:X.length≤k→nth X k=0:=fun h=>eQ (by omega)
  have hz2:Y.length≤k→nth Y k=0:=fun h=>eQ (by omega)
  exact⟨(k+1,(nth X k+nth Y k+cr)/65536,os++[(nth X k+nth Y k+cr)%65536]),by dsimp only;omega,⟨by simp[hos],hol.append (Lim.cons (Nat.mod_lt _ (by omega)) Lim.nil),hst,by dsimp only;omega,by dsimp only;omega⟩,aP h0 [2] _ _ (by decide) ⟨rfl,rfl,rfl,rfl,rfl,trivial⟩ ⟨nK rfl (iJ _ [(nth X k+nth Y k+cr)%65536]) rfl,rfl⟩⟩
 (iterate 3 refine o1 ?_);refine nl ?_;refine bQ rfl (fun h2=>?_) (fun h2=>?_)
 ·refine sk ?_;refine sq ?_;refine bl ?_;refine sq ?_;refine rl ?_;refine o1 ?_;refine o1 ?_
  refine ca (pR) pS ⟨a1 rfl,a1 rfl,rfl⟩ (.one (tv (.int .i64 ((nth X (k):Nat):Int)))) ?_;refine o1 ?_;refine o1 ?_
  refine ca (pR) pS ⟨a1 rfl,a1 rfl,rfl⟩ (.one (tv (.int .i64 ((nth Y (k):Nat):Int)))) ?_;(iterate 3 refine o1 ?_)
  refine WL.cast (t:=36) (u':=.int .i64 ((nth X k+nth Y k+cr:Nat):Int)) rfl (aO (by omega)) ?_
  refine o1 ?_;refine nl ?_;refine sq ?_;refine rl ?_;(iterate 3 refine o1 ?_)
  refine WL.cast (t:=39) (u':=.int .i64 (((nth X k+nth Y k+cr)%65536:Nat):Int)) rfl (aO (lK _ 65536)) ?_;refine bs 1 ?_
  refine jN (j:=2) aA rfl rfl rfl rfl (.sl rfl (by rw[List.length_map,iI,hos];omega)) (.sl rfl rfl rfl) rfl rfl rfl (by omega) (by omega) ?_
  refine o1 ?_;refine nl ?_;refine rl ?_;refine o1 ?_;refine o1 ?_ (hC:=(iH 65536 (by omega) (by simp only[iS];omega)))
  refine WL.cast (t:=43) (u':=.int .i64 (((nth X k+nth Y k+cr)/65536:Nat):Int)) rfl (aO (fS _ 65536)) ?_;refine o1 ?_;refine nl ?_;refine rl ?_;(iterate 3 refine o1 ?_)
  refine nl ?_;have hst:=Jy hos hv
  have hz1:X.length≤k→nth X k=0:=fun h=>eQ (by omega)
  have hz2:Y.length≤k→nth Y k=0:=fun h=>eQ (by omega)
  exact⟨(k+1,(nth X k+nth Y k+cr)/65536,os++[(nth X k+nth Y k+cr)%65536]),by dsimp only;omega,⟨by simp[hos],hol.append (Lim.cons (Nat.mod_lt _ (by omega)) Lim.nil),hst,by dsimp only;omega,by dsimp only;omega⟩,aP h0 [2] _ _ (by decide) ⟨rfl,rfl,rfl,rfl,rfl,trivial⟩ ⟨nK rfl (iJ _ [(nth X k+nth Y k+cr)%65536]) rfl,rfl⟩⟩
 refine ex ?_;refine sq ?_;refine rl ?_;have hc0:cr=0:=by omega
 rw[hc0,Nat.mul_zero,Nat.add_zero,bY 65536 (by omega),bY 65536 (by omega),hvX,hvY]at hv
 refine WL.sub (Ah (i:=7) (zs':=os) rfl rfl rfl (by omega) rfl) ?_
 refine o1 ?_;refine gQ 1 (Bh (by omega) (by assumption)) Sc ⟨a1 rfl,rfl⟩ ?_
 refine o1 ?_;refine nl ?_;refine rt ?_
 exact en (.inl rfl) rfl (aN (.one (.sl (trs:=aJ (dg 4294967296 (vl 65536 os))) rfl rfl (aY _) (aU _)))) (by decide) (fun _=>.inl ⟨rfl,fB _⟩) (by rw[hv];rfl)
theorem Vm {xs ys:List Nat}(hx:xs.length≤1099511627776) (hlx:Lim 4294967296 xs) (hy:ys.length≤1099511627776) (hly:Lim 4294967296 ys):aE true Tryz.prog 140 [] [.one (.t (sU false xs)),.one (.t (sU false ys))] (aQ (.tup [.one (.t (sU true (dg 4294967296 (vl 4294967296 xs-vl 4294967296 ys)))),.one (tv (.int .i64 (if vl 4294967296 xs<vl 4294967296 ys then 2 else 0)))])):=by
 refine bO Tryz.func140 rfl Tryz.ntmps140 rfl aA rfl fun N w c0 h0=>?_
 refine sq ?_;refine rl ?_;refine o1 ?_;refine o1 ?_;refine nl ?_;refine sq ?_;refine sq ?_;refine rl ?_;refine o1 ?_;refine o1 ?_
 refine ca (Jx hx hlx hy hly) Sd ⟨a1 rfl,a1 rfl,rfl⟩ (.one (tv (.int .i64 (((vl 4294967296 xs:Nat):Int)-((vl 4294967296 ys:Nat):Int)).sign))) ?_;refine o1 ?_;refine nl ?_
 refine bQ rfl (fun h1=>?_) (fun h1=>?_)
 ·refine sq ?_;refine rl ?_;refine o1 ?_;refine o1 ?_;refine nl ?_;refine rt ?_;have hlt:=KG h1
  exact en (.inl rfl) rfl (wM (.cons (.one (.nil (t:=109) (z:=1))) (.cons (bH _) .nil))) (by decide) (fun _=>⟨.inl ⟨rfl,trivial⟩,trivial,trivial⟩) (by rw[Nat.sub_eq_zero_of_le (Nat.le_of_lt hlt),if_pos hlt];rfl)
 refine sk ?_;refine sq ?_;refine rl ?_;refine o1 ?_;refine ca (kW hx hlx) uT ⟨a1 rfl,rfl⟩ (.one (.t (sI false (dg 65536 (vl 4294967296 xs))))) ?_;refine o1 ?_
 refine ca (kW hy hly) uT ⟨a1 rfl,rfl⟩ (.one (.t (sI false (dg 65536 (vl 4294967296 ys))))) ?_;refine o1 ?_;refine o1 ?_;refine nl ?_;refine sq ?_
 have hge:vl 4294967296 ys≤vl 4294967296 xs:=KH h1
 have hyx:=dA (B:=65536) (by omega) hge
 have hdx:=eM (v:=vl 4294967296 xs) (L:=xs.length) (by rw[fF (by omega) hlx];exact cU _)
 have hdy:=eM (v:=vl 4294967296 ys) (L:=ys.length) (by rw[fF (by omega) hly];exact cU _)
 have hX:=aR (B:=65536) (by omega) (vl 4294967296 xs)
 have hY:=aR (B:=65536) (by omega) (vl 4294967296 ys)
 have hvX:=cE (B:=65536) (by omega) (vl 4294967296 xs)
 have hvY:=cE (B:=65536) (by omega) (vl 4294967296 ys)
 generalize dg 65536 (vl 4294967296 xs)=X at hdx hX hvX hyx⊢;generalize dg 65536 (vl 4294967296 ys)=Y at hdy hY hvY hyx⊢;refine rl ?_;refine o1 ?_;refine nl ?_;refine sq ?_;refine rl ?_
 refine o1 ?_;refine nl ?_;refine sq ?_;refine sq ?_;refine rl ?_;refine o1 ?_;refine nl ?_;refine bl ?_
 refine lp (γ:=Nat×Nat×List Nat) (fun s=>cG [(6,.one (.t (sI false X))),(7,.one (.t (sI false Y))),(8,.one (.sl 0 0 s.1)),(9,.one (tv (.int .i64 ((s.2.1:Nat):Int)))),(10,.one (tv (.int .i64 ((s.1:Nat):Int))))]) (fun s=>[(⟨3,1,(eL s.2.2).map .t⟩:Ob)].map some) (fun s=>s.2.2.length=s.1∧Lim 65536 s.2.2∧vl 65536 s.2.2+vl 65536 (Y.take s.1)=vl 65536 (X.take s.1)+65536^s.1*s.2.1∧s.2.1≤1∧s.1≤X.length) (fun s=>X.length-s.1) (0,0,[]) ⟨rfl,Lim.nil,rfl,Nat.zero_le _,Nat.zero_le _⟩ ((nr (i:=8) 0 3 1 rfl rfl rfl rfl).trans (aP h0 [0] _ _ (by decide) ⟨rfl,rfl,rfl,rfl,rfl,trivial⟩ ⟨aD (l:=[]) rfl,rfl⟩)) ?_
 rintro⟨k,br,os⟩ ⟨hos,hol,hv,hc1,hkm⟩;dsimp only at hos hol hv hc1 hkm⊢;have hn1:=hX.nth (by omega) k
 have hn2:=hY.nth (by omega) k
 refine sq ?_;refine sq ?_;refine rl ?_;(iterate 4 refine o1 ?_);refine nl ?_;refine bQ rfl (fun h2=>?_) (fun h2=>?_)
 ·refine sk ?_;refine sq ?_;refine bl ?_;refine sq ?_;refine rd [] (fun i=>[10].contains i) mixed ?_
  refine dv 0 ?_;refine dv 1 ?_;refine dv 2 ?_;refine dG 3 ([.v (.int .i64 ((nth X (k):Nat):Int))]) (fN X (k:=k) (by omega)) ?_
  refine dv 4 ?_;refine dv 5 ?_;refine dv 8 ?_;refine aF 6 rfl (pR) pS ⟨a1 rfl,a1 rfl,rfl⟩ (.one (tv (.int .i64 ((nth Y (k):Nat):Int)))) ?_;refine df 7 ?_;refine df 9 ?_
  refine cT 10 (by kernel_rfl) rfl rfl aA rfl (by trivial) ?_ (fun h=>by first | rfl | cases h)
  refine aH ?_;refine sq ?_;refine rl ?_;refine o1 ?_;refine nl ?_;refine sq ?_;refine sq ?_;refine rl ?_;refine o1 ?_;refine o1 ?_;refine nl ?_
  refine bQ rfl (fun h3=>?_) (fun h3=>?_)
  ·refine sq ?_;refine rl ?_;(iterate 3 refine o1 ?_);refine nl ?_;refine rl ?_;refine o1 ?_;refine nl ?_;refine rl ?_
   refine WL.cast (t:=11) (u':=.int .i64 (((nth X k+65536-nth Y k-br:Nat)):Int)) rfl (aO (by omega)) ?_
   refine o1 ?_;refine o1 ?_;refine bs 1 ?_
   refine jN (j:=2) aA rfl rfl rfl rfl (.sl rfl (by rw[List.length_map,iI,hos];omega)) (.sl rfl rfl rfl) rfl rfl rfl (by omega) (by omega) ?_
   refine o1 ?_;refine nl ?_;refine rl ?_;(iterate 3 refine o1 ?_);refine nl ?_;have hst:=Jz (d:=nth X k+65536-nth Y k-br) (br':=1) hos hv (by omega)
   exact⟨(k+1,1,os++[nth X k+65536-nth Y k-br]),by dsimp only;omega,⟨by simp[hos],hol.append (Lim.cons (by omega) Lim.nil),hst,by dsimp only;omega,by dsimp only;omega⟩,aP h0 [2] _ _ (by decide) ⟨rfl,rfl,rfl,rfl,rfl,trivial⟩ ⟨nK rfl (iJ _ [nth X k+65536-nth Y k-br]) rfl,rfl⟩⟩
  refine sk ?_;refine rl ?_;refine WL.cast (t:=11) (u':=.int .i64 (((nth X k-nth Y k-br:Nat)):Int)) rfl (aO (by omega)) ?_
  refine o1 ?_;refine o1 ?_;refine bs 1 ?_
  refine jN (j:=2) aA rfl rfl rfl rfl (.sl rfl (by rw[List.length_map,iI,hos];omega)) (.sl rfl rfl rfl) rfl rfl rfl (by omega) (by omega) ?_
  refine o1 ?_;refine nl ?_;refine rl ?_;(iterate 3 refine o1 ?_);refine nl ?_;have hst:=Jz (d:=nth X k-nth Y k-br) (br':=0) hos hv (by omega)
  exact⟨(k+1,0,os++[nth X k-nth Y k-br]),by dsimp only;omega,⟨by simp[hos],hol.append (Lim.cons (by omega) Lim.nil),hst,by dsimp only;omega,by dsimp only;omega⟩,aP h0 [2] _ _ (by decide) ⟨rfl,rfl,rfl,rfl,rfl,trivial⟩ ⟨nK rfl (iJ _ [nth X k-nth Y k-br]) rfl,rfl⟩⟩
 refine ex ?_;refine sq ?_;refine rl ?_;have hoo:=fE hol
 rw[hos]at hoo;rw[bY 65536 (l:=X) (by omega),bY 65536 (l:=Y) (by omega),hvX,hvY]at hv
 have hb0:br=0:=by
  rcases Nat.eq_zero_or_pos br with h0 | h0
  ·exact h0
  have h1:br=1:=by omega
  rw[h1,Nat.mul_one,show k=X.length by omega]at hv
  rw[show k=X.length by omega]at hoo
  omega
 rw[hb0,Nat.mul_zero,Nat.add_zero]at hv;have he:vl 65536 os=vl 4294967296 xs-vl 4294967296 ys:=by omega
 refine WL.sub (Ah (i:=8) (zs':=os) rfl rfl rfl (by omega) rfl) ?_
 refine o1 ?_;refine gQ 1 (Bh (by omega) (by assumption)) Sc ⟨a1 rfl,rfl⟩ ?_
 refine o1 ?_;refine o1 ?_;refine nl ?_;refine rt ?_
 exact en (.inl rfl) rfl (wM (.cons (.one (.sl (trs:=aJ (dg 4294967296 (vl 65536 os))) rfl rfl (aY _) (aU _))) (.cons (bH _) .nil))) (by decide) (fun _=>⟨.inl ⟨rfl,fB _⟩,trivial,trivial⟩) (by rw[he,if_neg (by omega)];rfl)
theorem Bi {a:Zi}{k:Int}(ha:Zn a k):aE true Tryz.prog 133 [] [gF a] (aQ (.one (tv (.bool (dH a.s a.x))))):=by
 refine bO Tryz.func133 rfl Tryz.ntmps133 rfl aA rfl fun N w c0 h0=>?_
 have hal:=ha.2.1
 refine sq ?_;refine rl ?_;refine bx 0 ?_;refine o1 ?_;refine nl ?_;refine sq ?_;refine sq ?_;refine rl ?_;refine o1 ?_;refine ld ?_;refine o1 ?_;refine o1 ?_;refine nl ?_
 refine bQ rfl (fun h1=>?_) (fun h1=>?_)
 ·refine sq ?_;refine rl ?_;refine o1 ?_;refine ld ?_;refine WL.splitb (t:=8) rfl (fun h2=>?_) (fun h2=>?_)
  ·refine o1 ?_;refine o1 ?_;refine nl ?_;refine rt ?_;refine en (.inl rfl) rfl (aN (bH _)) (by decide) (fun _=>trivial) (congrArg (fun b=>FV.one (tv (.bool b))) ?_)
   rw[nL (by omega)];simp_all
  refine o1 ?_;refine o1 ?_;refine nl ?_;refine rt ?_;refine en (.inl rfl) rfl (aN (bH _)) (by decide) (fun _=>trivial) (congrArg (fun b=>FV.one (tv (.bool b))) ?_)
  rw[nL (by omega)];simp_all
 refine sk ?_;refine sq ?_;refine rl ?_;refine o1 ?_;refine ld ?_;refine o1 ?_;refine ld ?_;refine o1 ?_;refine o1 ?_
 refine WL.cast (t:=15) (u':=.int .i64 ((a.x.length-1:Nat):Int)) rfl (aO (by omega)) ?_
 refine o1 ?_;refine gJ ([.v (.int .u32 ((nth a.x (a.x.length-1):Nat):Int))]) (nJ a.x (k:=a.x.length-1) (by omega)) ?_
 refine o1 ?_;refine o1 ?_;refine nl ?_;refine rt ?_;refine en (.inl rfl) rfl (aN (bH _)) (by decide) (fun _=>trivial) (congrArg (fun b=>FV.one (tv (.bool b))) ?_)
 exact(uU rfl (by omega)).symm
theorem gZ {a:Zi}{k:Int}(ha:Zn a k):aE false Tryz.prog 137 [] [gF a] (aQ (kF k)):=by
 refine bO Tryz.func137 rfl Tryz.ntmps137 rfl aA rfl fun N w c0 h0=>?_
 refine sq ?_;refine rl ?_;refine bx 0 ?_;refine al 1 ?_;refine nl ?_;refine sq ?_;refine sq ?_;refine rl ?_;refine ld ?_
 refine ca (Bi ha) Se ⟨aB rfl,rfl⟩ (.one (tv (.bool (dH a.s a.x)))) ?_;refine WL.splitb (t:=4) rfl (fun h1=>?_) (fun h1=>?_)
 ·refine o1 ?_;refine nl ?_;refine iE rfl ?_;refine sk ?_;refine sq ?_;refine rl ?_;refine ld ?_;refine st ?_;refine nl ?_;refine rt ?_
  exact en (.inl rfl) rfl (aN (.agg (.read _ (l:=[.v (.bool a.s),sU false a.x]) rfl))) (by decide) (fun h=>by cases h) (Za ha h1)
 refine o1 ?_;refine nl ?_;refine iF rfl ?_;refine sq ?_;refine rl ?_;refine o1 ?_;refine st ?_;refine nl ?_;refine rt ?_
 exact en (.inl rfl) rfl (aN (.agg (.cons (.id rfl) (.cons .nilf .nil)))) (by decide) (fun h=>by cases h) (by rw[ha.wrong h1];exact Fa)
theorem lL {b:Bool}{xs:List Nat}{K:Int}(hx:xs.length≤1099511627776) (hl:Lim 4294967296 xs) (hK:bX b (vl 4294967296 xs)=K):aE true Tryz.prog 108 [] [.one (tv (.bool b)),.one (.t (sU false xs))] (aQ (kO K)):=by
 refine bO Tryz.func108 rfl Tryz.ntmps108 rfl aA rfl fun N w c0 h0=>?_
 refine sq ?_;refine rl ?_;refine al 0 ?_;refine nl ?_;refine sq ?_;refine rl ?_;refine o1 ?_;refine gQ 1 (FF hx hl) OK ⟨a1 rfl,rfl⟩ ?_;refine o1 ?_;refine nl ?_;refine sq ?_
 refine rl ?_;refine o1 ?_;refine o1 ?_;refine WL.splitb (t:=9) rfl (fun h1=>?_) (fun h1=>?_)
 ·(iterate 6 refine o1 ?_);refine st ?_;refine nl ?_;refine rt ?_
  exact en (.inl rfl) rfl (aN (.agg (.cons (.id rfl) (.cons (.sl (trs:=aJ (dg 4294967296 (vl 4294967296 xs))) rfl rfl (aY _) (aU _)) .nil)))) (by decide) (fun _=>Fb _ _) (hK▸uV (by rw[←Dg rfl,h1,Bool.true_and];exact decide_eq_decide.2 (by omega)) (jR _ _).symm)
 (iterate 3 refine dV ?_);(iterate 3 refine o1 ?_);refine st ?_;refine nl ?_;refine rt ?_
 exact en (.inl rfl) rfl (aN (.agg (.cons (.id rfl) (.cons (.sl (trs:=aJ (dg 4294967296 (vl 4294967296 xs))) rfl rfl (aY _) (aU _)) .nil)))) (by decide) (fun _=>Fb _ _) (hK▸uV (by rw[←Dg rfl,h1];rfl) (jR _ _).symm)
theorem rR {n:Int}(h1:-9223372036854775808≤n) (h2:n≤9223372036854775807):aE true Tryz.prog 66 [] [.one (tv (.int .i64 n))] (aQ (kO n)):=by
 refine bO Tryz.func66 rfl Tryz.ntmps66 rfl aA rfl fun N w c0 h0=>?_
 obtain⟨hr1,hr2,hq1,hq2,hv1,hv2⟩:=Zb h1 h2
 refine sq ?_;refine rl ?_;refine al 0 ?_;refine nl ?_;refine sq ?_;refine rl ?_;(iterate 3 refine o1 ?_);refine o1 ?_ (hC:=(by exact⟨by omega,by simp only[iS];omega⟩))
 refine o1 ?_;refine o1 ?_;refine nl ?_;refine sq ?_;refine rl ?_;(iterate 6 refine o1 ?_)
 refine WL.cast (t:=14) (u':=.int .i64 (((Int.tmod n 4294967296).natAbs:Nat):Int)) rfl (aO (by omega)) ?_
 refine o1 ?_;refine WL.cast (t:=15) (u':=.int .u32 (((Int.tmod n 4294967296).natAbs:Nat):Int)) rfl (aO (by omega)) ?_
 (iterate 4 refine o1 ?_);refine WL.cast (t:=19) (u':=.int .i64 (((Int.tdiv n 4294967296).natAbs:Nat):Int)) rfl (aO (by omega)) ?_
 refine o1 ?_;refine WL.cast (t:=20) (u':=.int .u32 (((Int.tdiv n 4294967296).natAbs:Nat):Int)) rfl (aO (by omega)) ?_
 refine bs 1 ?_
 refine WL.sub (UO (i:=21) (zs:=[(Int.tmod n 4294967296).natAbs,(Int.tdiv n 4294967296).natAbs]) (zs':=[(Int.tmod n 4294967296).natAbs,(Int.tdiv n 4294967296).natAbs]) rfl rfl rfl rfl rfl) ?_
 refine gQ 2 (lL (K:=n) (by simp) (Lim.cons (by omega) (Lim.cons (by omega) Lim.nil)) (KI hv1)) cQ ⟨a1 rfl,a1 rfl,rfl⟩ ?_
 refine st ?_;refine nl ?_;refine rt ?_
 exact en (.inl rfl) rfl (aN (.agg (.cons (.id rfl) (.cons (.sl (trs:=aJ (dg 4294967296 (n).natAbs)) rfl rfl (aY _) (aU _)) .nil)))) (by decide) (fun _=>eU (n)) rfl
theorem Vn {a b:Zi}{k k':Int}(ha:Zn a k) (hb:Zn b k'):aE true Tryz.prog 136 [] [gF a,gF b] (aQ (.one (tv (.int .i64 (k-k').sign)))):=by
 refine bO Tryz.func136 rfl Tryz.ntmps136 rfl aA rfl fun N w c0 h0=>?_
 have hkl:=ha.len
 have hkl':=hb.len
 refine sq ?_;refine rl ?_;refine bx 0 ?_;refine bx 1 ?_;refine o1 ?_;refine nl ?_;refine sq ?_;refine rl ?_;refine ld ?_;refine ca (gZ ha) mH ⟨aB rfl,rfl⟩ (kF (k)) ?_
 refine st ?_;refine nl ?_;refine sq ?_;refine rl ?_;refine ld ?_;refine ca (gZ hb) mH ⟨aB rfl,rfl⟩ (kF (k')) ?_;refine st ?_;refine nl ?_;refine sq ?_;refine bl ?_;refine sq ?_
 refine rl ?_;refine o1 ?_;refine ld ?_;refine o1 ?_;refine WL.splitb (t:=12) rfl (fun h1=>?_) (fun h1=>?_)
 ·refine o1 ?_;refine ld ?_;refine WL.splitb (t:=14) rfl (fun h2=>?_) (fun h2=>?_)
  ·(iterate 3 refine o1 ?_);refine nl ?_;refine iE rfl ?_;refine sq ?_;refine rl ?_;refine o1 ?_;refine ld ?_;refine o1 ?_;refine WL.cast (t:=20) rfl (congrArg Value.bool h2) ?_
   refine o1 ?_;refine ld ?_;refine WL.cast (t:=22) rfl (congrArg Value.bool h1) ?_;(iterate 3 refine o1 ?_);refine nl ?_;refine iE rfl ?_;refine sq ?_;refine rl ?_;refine o1 ?_
   refine ld ?_;refine o1 ?_;refine nl ?_;refine iF (congrArg (fun b=>FV.one (tv (.bool b))) h1) ?_
   refine sq ?_;refine rl ?_;refine o1 ?_;refine ld ?_;refine o1 ?_;refine ld ?_
   refine ca (Jx (by omega) (aR (by omega) _) (by omega) (aR (by omega) _)) Sd ⟨a1 rfl,a1 rfl,rfl⟩ (.one (tv (.int .i64 (((vl 4294967296 (dg 4294967296 (k').natAbs):Nat):Int)-((vl 4294967296 (dg 4294967296 (k).natAbs):Nat):Int)).sign))) ?_
   refine o1 ?_;refine nl ?_;refine rt ?_;refine en (.inl rfl) rfl (aN (bH _)) (by decide) (fun _=>trivial) (congrArg (fun z=>FV.one (tv (.int .i64 z))) ?_)
   rw[bL,bL];exact FG h1 h2
  (iterate 3 refine o1 ?_);refine nl ?_;refine iF rfl ?_;refine sq ?_;refine rl ?_;refine o1 ?_;refine nl ?_;refine rt ?_
  refine en (.inl rfl) rfl (aN (bH _)) (by decide) (fun _=>trivial) (congrArg (fun z=>FV.one (tv (.int .i64 z))) ?_)
  exact FH h1 h2
 (iterate 3 refine dV ?_);refine o1 ?_;refine o1 ?_;refine nl ?_;refine iE rfl ?_;refine sq ?_;refine rl ?_;refine o1 ?_;refine ld ?_;refine o1 ?_
 refine WL.splitb (t:=20) rfl (fun h3=>?_) (fun h3=>?_)
 ·refine o1 ?_;refine ld ?_;refine WL.cast (t:=22) rfl (congrArg Value.bool h1) ?_;(iterate 3 refine o1 ?_);refine nl ?_;refine iF rfl ?_;refine sq ?_;refine rl ?_;refine o1 ?_
  refine nl ?_;refine rt ?_;refine en (.inl rfl) rfl (aN (bH _)) (by decide) (fun _=>trivial) (congrArg (fun z=>FV.one (tv (.int .i64 z))) ?_)
  exact FI h1 h3
 (iterate 3 refine dV ?_);refine o1 ?_;refine o1 ?_;refine nl ?_;refine iE rfl ?_;refine sq ?_;refine rl ?_;refine o1 ?_;refine ld ?_;refine o1 ?_;refine nl ?_
 refine iE (congrArg (fun b=>FV.one (tv (.bool b))) h1) ?_
 refine sk ?_;refine sq ?_;refine rl ?_;refine o1 ?_;refine ld ?_;refine o1 ?_;refine ld ?_
 refine ca (Jx (by omega) (aR (by omega) _) (by omega) (aR (by omega) _)) Sd ⟨a1 rfl,a1 rfl,rfl⟩ (.one (tv (.int .i64 (((vl 4294967296 (dg 4294967296 (k).natAbs):Nat):Int)-((vl 4294967296 (dg 4294967296 (k').natAbs):Nat):Int)).sign))) ?_
 refine o1 ?_;refine nl ?_;refine rt ?_;refine en (.inl rfl) rfl (aN (bH _)) (by decide) (fun _=>trivial) (congrArg (fun z=>FV.one (tv (.int .i64 z))) ?_)
 rw[bL,bL];exact FJ h1 h3
theorem oD {a:Zi}{k:Int}(ha:Zn a k):aE true Tryz.prog 91 [] [gF a] (aQ (.one (tv (.int .i64 k.sign)))):=by
 refine bO Tryz.func91 rfl Tryz.ntmps91 rfl aA rfl fun N w c0 h0=>?_
 have hkl:=ha.len
 refine sq ?_;refine rl ?_;refine bx 0 ?_;refine o1 ?_;refine nl ?_;refine sq ?_;refine rl ?_;refine ld ?_;refine o1 ?_
 refine ca (Vn ha UP) CV ⟨aB rfl,Dh rfl (.cons .t (.cons .nil .nil)),rfl⟩ (.one (tv (.int .i64 ((k)-(0)).sign))) ?_;refine o1 ?_;refine nl ?_;refine rt ?_
 exact en (.inl rfl) rfl (aN (bH _)) (by decide) (fun _=>trivial) (congrArg (fun z=>FV.one (tv (.int .i64 z))) (by rw[Int.sub_zero]))
theorem Di {a:Zi}{k:Int}(ha:Zn a k):aE true Tryz.prog 93 [] [gF a] (aQ (kO (-k))):=by
 refine bO Tryz.func93 rfl Tryz.ntmps93 rfl aA rfl fun N w c0 h0=>?_
 have hkl:=ha.len
 refine sq ?_;refine rl ?_;refine bx 0 ?_;refine al 1 ?_;refine nl ?_;refine sq ?_;refine rd [0,1] (fun i=>[8].contains i) mixed ?_
 refine aM 0 ?_;refine aM 4 ?_;refine aF 1 rfl (gZ ha) mH ⟨aB rfl,rfl⟩ (kF (k)) ?_;refine df 2 ?_;refine df 3 ?_;refine aF 5 rfl (gZ ha) mH ⟨aB rfl,rfl⟩ (kF (k)) ?_
 refine df 6 ?_;refine jW 2 7 rfl (lL (K:=-k) (by omega) (aR (by omega) _) (by rw[bL];exact Oy k)) cQ ⟨a1 rfl,a1 rfl,rfl⟩ ?_
 refine dst 8 ?_;refine aH ?_;refine rt ?_
 exact en (.inl rfl) rfl (aN (.agg (.cons (.id rfl) (.cons (.sl (trs:=aJ (dg 4294967296 (-k).natAbs)) rfl rfl (aY _) (aU _)) .nil)))) (by decide) (fun _=>eU (-k)) rfl
theorem tC {a b:Zi}{k k':Int}(ha:Zn a k) (hb:Zn b k'):aE true Tryz.prog 96 [] [gF a,gF b] (aQ (kO (k+k'))):=by
 refine bO Tryz.func96 rfl Tryz.ntmps96 rfl aA rfl fun N w c0 h0=>?_
 have hkl:=ha.len
 have hkl':=hb.len
 refine sq ?_;refine rl ?_;refine bx 0 ?_;refine bx 1 ?_;refine al 2 ?_;refine nl ?_;refine sq ?_;refine rl ?_;refine ld ?_;refine ca (gZ ha) mH ⟨aB rfl,rfl⟩ (kF (k)) ?_
 refine st ?_;refine nl ?_;refine sq ?_;refine rl ?_;refine ld ?_;refine ca (gZ hb) mH ⟨aB rfl,rfl⟩ (kF (k')) ?_;refine st ?_;refine nl ?_;refine sq ?_;refine sq ?_;refine rl ?_
 refine o1 ?_;refine ld ?_;refine o1 ?_;refine ld ?_;refine o1 ?_;refine nl ?_;refine Ae rfl (fun h1=>?_) (fun h1=>?_)
 ·refine sq ?_;refine rd [0,1,2] (fun i=>[8].contains i) mixed ?_
  refine dv 0 ?_;refine aM 1 ?_;refine dv 2 ?_;refine aM 3 ?_;refine dv 4 ?_;refine aM 5 ?_
  have hn2:=Fc (xs:=(dg 4294967296 (k).natAbs)) (ys:=(dg 4294967296 (k').natAbs)) (aR (by omega) _) (aR (by omega) _)
  refine aF 6 rfl (KF (by omega) (aR (by omega) _) (by omega) (aR (by omega) _)) OL ⟨a1 rfl,a1 rfl,rfl⟩ (.one (.t (sU false (dg 4294967296 (vl 4294967296 (dg 4294967296 (k).natAbs)+vl 4294967296 (dg 4294967296 (k').natAbs)))))) ?_
  refine jW 3 7 rfl (lL (K:=k+k') (by omega) (aR (by omega) _) (by simp only[cE (B:=4294967296) (by omega)];exact Gr rfl (eq_of_beq h1))) cQ ⟨a1 rfl,a1 rfl,rfl⟩ ?_
  refine dst 8 ?_;refine aH ?_;refine rt ?_
  exact en (.inl rfl) rfl (aN (.agg (.cons (.id rfl) (.cons (.sl (trs:=aJ (dg 4294967296 (k+k').natAbs)) rfl rfl (aY _) (aU _)) .nil)))) (by decide) (fun _=>eU (k+k')) rfl
 refine sk ?_;refine sq ?_;refine rl ?_;refine o1 ?_;refine ld ?_;refine o1 ?_;refine ld ?_
 have hn3:=Oz (xs:=(dg 4294967296 (k).natAbs)) (ys:=(dg 4294967296 (k').natAbs)) (aR (by omega) _)
 refine ca (Vm (by omega) (aR (by omega) _) (by omega) (aR (by omega) _)) CW ⟨a1 rfl,a1 rfl,rfl⟩ (.tup [.one (.t (sU false (dg 4294967296 (vl 4294967296 (dg 4294967296 (k).natAbs)-vl 4294967296 (dg 4294967296 (k').natAbs))))),.one (tv (.int .i64 (if vl 4294967296 (dg 4294967296 (k).natAbs)<vl 4294967296 (dg 4294967296 (k').natAbs)then 2 else 0)))]) ?_
 (iterate 5 refine o1 ?_);refine nl ?_;refine sq ?_;refine sq ?_;refine rl ?_;refine o1 ?_;refine o1 ?_;refine nl ?_;refine bQ rfl (fun h4=>?_) (fun h4=>?_)
 ·refine sq ?_;refine rl ?_;refine o1 ?_;refine ld ?_;refine o1 ?_
  refine gQ 3 (lL (K:=k+k') (by omega) (aR (by omega) _) (by simp only[cE (B:=4294967296) (by omega)];exact Pa rfl (ne_of_beq_false h1) (fun h8=>by rw[bL,bL,if_pos h8]at h4;omega))) cQ ⟨a1 rfl,a1 rfl,rfl⟩ ?_
  refine st ?_;refine nl ?_;refine rt ?_
  exact en (.inl rfl) rfl (aN (.agg (.cons (.id rfl) (.cons (.sl (trs:=aJ (dg 4294967296 (k+k').natAbs)) rfl rfl (aY _) (aU _)) .nil)))) (by decide) (fun _=>eU (k+k')) rfl
 refine sk ?_;refine sq ?_;refine rl ?_;refine o1 ?_;refine ld ?_;refine o1 ?_;refine ld ?_
 have hn5:=Oz (xs:=(dg 4294967296 (k').natAbs)) (ys:=(dg 4294967296 (k).natAbs)) (aR (by omega) _)
 refine ca (Vm (by omega) (aR (by omega) _) (by omega) (aR (by omega) _)) CW ⟨a1 rfl,a1 rfl,rfl⟩ (.tup [.one (.t (sU false (dg 4294967296 (vl 4294967296 (dg 4294967296 (k').natAbs)-vl 4294967296 (dg 4294967296 (k).natAbs))))),.one (tv (.int .i64 (if vl 4294967296 (dg 4294967296 (k').natAbs)<vl 4294967296 (dg 4294967296 (k).natAbs)then 2 else 0)))]) ?_
 (iterate 4 refine o1 ?_);refine nl ?_;refine sq ?_;refine rl ?_;refine o1 ?_;refine ld ?_;refine o1 ?_
 refine gQ 3 (lL (K:=k+k') (by omega) (aR (by omega) _) (by simp only[cE (B:=4294967296) (by omega)];exact Pb rfl (ne_of_beq_false h1) (Decidable.byContradiction fun h8=>h4 (by rw[bL,bL,if_neg h8])))) cQ ⟨a1 rfl,a1 rfl,rfl⟩ ?_
 refine st ?_;refine nl ?_;refine rt ?_
 exact en (.inl rfl) rfl (aN (.agg (.cons (.id rfl) (.cons (.sl (trs:=aJ (dg 4294967296 (k+k').natAbs)) rfl rfl (aY _) (aU _)) .nil)))) (by decide) (fun _=>eU (k+k')) rfl
theorem KJ {a b:Zi}{k k':Int}(ha:Zn a k) (hb:Zn b k'):aE true Tryz.prog 168 [] [gF a,gF b] (aQ (kO (k-k'))):=by
 refine bO Tryz.func168 rfl Tryz.ntmps168 rfl aA rfl fun N w c0 h0=>?_
 have hkl:=ha.len
 have hkl':=hb.len
 refine sq ?_;refine rl ?_;refine bx 0 ?_;refine bx 1 ?_;refine al 2 ?_;refine nl ?_;refine sq ?_;refine rd [0,1,2] (fun i=>[4].contains i) mixed ?_
 refine aM 0 ?_;refine aM 1 ?_;have hn1:=kX (k')
 refine aF 2 rfl (Di hb) Sf ⟨aB rfl,rfl⟩ (kF (-k')) ?_;refine jW 3 3 rfl (tC ha (Zn.of (k:=-k') (by omega))) Fd ⟨aB rfl,aB rfl,rfl⟩ ?_
 refine dst 4 ?_;refine aH ?_;refine rt ?_
 exact en (.inl rfl) rfl (aN (.agg (.cons (.id rfl) (.cons (.sl (trs:=aJ (dg 4294967296 (k+-k').natAbs)) rfl rfl (aY _) (aU _)) .nil)))) (by decide) (fun _=>eU (k+-k')) rfl
end Go.Proofs.YthoemjjmkgmnjaaGreat
