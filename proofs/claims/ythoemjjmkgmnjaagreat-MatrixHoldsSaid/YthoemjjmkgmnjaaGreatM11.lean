/- Part 11 of a proof: C8 to A3. -/
import Derived.Test.YthoemjjmkgmnjaaGreatM10
import Derived.Test.YthoemjjmkgmnjaaGreatM7
set_option maxRecDepth 100000
set_option linter.unusedVariables false
set_option linter.unusedSimpArgs false
namespace Go.Proofs.YthoemjjmkgmnjaaGreat
open Go Go.RowKit
theorem MH {M:Mx}{N y:Nat}(hOk:M.Ok N) (hy:y<N):aE false Tryz.prog 37 [mS M N (M.rows (M.run y) (M.ex y) (fun _=>0) y) (M.run y) (dV (wl M (M.run y) (M.I y)) (M.lp y).1 (M.lp y).2)] [.one (.pt 0 0),.one (tv (.int .i64 ((y:Nat):Int)))] (Rt [mS M N (M.rows (M.run (y+1)) (M.ex (y+1)) (fun _=>0) (y+1)) (M.run (y+1)) (dV (wl M (M.run (y+1)) (M.I (y+1))) (M.lp (y+1)).1 (M.lp (y+1)).2)] (.tup [])):=by
 have hNs:=hOk.n
 have hI:=hOk.run (k:=y) (by omega)
 have hI2:=hOk.run (k:=y+1) (by omega)
 have h:=HF (M:=M) (N:=N) (y:=y) (U:=M.run y) (e:=M.ex y) (c:=fun _=>0) (last:=(M.lp y).1) (put:=(M.lp y).2) hOk hI hy (by have:=zR hOk.b hOk.w y;omega) (HK (Nat.le_refl _)) (Po (Nat.le_refl _)) (if_neg (by omega)) rfl (EJ y)
 have e1:M.step (M.run y) y=M.run (y+1):=rfl
 have e2:(if M.inc y<0 then(y:Int)else(M.lp y).1)=(M.lp (y+1)).1:=by show _=(if M.inc y<0 then((y:Int),true)else M.lp y).1;split <;> rfl
 have e3:(if M.inc y<0 then true else(M.lp y).2)=(M.lp (y+1)).2:=by show _=(if M.inc y<0 then((y:Int),true)else M.lp y).2;split <;> rfl
 have e4:M.rows (M.run (y+1)) (eJ (wl M (M.run (y+1)) (M.J y)) (M.ex y)) (fun _=>0) (y+1)=M.rows (M.run (y+1)) (M.ex (y+1)) (fun _=>0) (y+1):=Hu (fun i hi=>HM hI2 hy hi) fun _ _=>rfl
 rw[e1,e2,e3,e4]at h
 exact h
theorem AO {c:Fr4}{bk fw:Int}{ys:List (Fr4×Fr4)}(hc:c.ok) (hy:∀y∈ys,y.1.ok∧y.2.ok) (hs:∀y∈ys,Sz 68719476736 (c.q*abv y.1.q)) (hl:ys.length≤1073741823) (hno:cY c bk fw ys≠0):aE false Tryz.prog 10 [] [.agg ((c.tr false++[.v (.int .i64 bk),.v (.int .i64 fw)]:List Tr).map .t),.one (.t (fM ys))] (aN (.tup [.agg [.t (dI true true []),.t (cN true true [])],.one (tv (.int .i64 (cY c bk fw ys)))])):=by
 refine bC Tryz.func10 rfl Tryz.ntmps10 rfl aA rfl fun N w c0 h0=>?_
 refine sq ?_;refine rl ?_;refine bx 0 ?_;refine al 1 ?_;refine o1 ?_;refine nl ?_;refine sq ?_;refine sq ?_;refine rl ?_;refine ld ?_;refine o1 ?_
 refine ca (Je hc hy hs hl) Tb ⟨aB rfl,a1 rfl,rfl⟩ (.one (tv (.int .i64 (cY c bk fw ys)))) ?_;refine o1 ?_;refine nl ?_;refine sq ?_;refine rl ?_;refine o1 ?_;refine o1 ?_
 refine nl ?_;refine bP rfl (fun h1=>?_) (fun h1=>?_)
 ·refine sq ?_;refine rl ?_;refine o1 ?_;refine o1 ?_;refine st ?_;refine o1 ?_;refine nl ?_;refine rt ?_
  exact en (.inl rfl) rfl (Dn (.cons (.agg (.cons (.nil (t:=66) (z:=24)) (.cons (.nil (t:=46) (z:=14)) .nil))) (.cons (bL _) .nil))) (by decide) (fun h=>by cases h) rfl
 exact absurd hno h1
theorem EK {M:Mx}{N:Nat}(hOk:M.Ok N) (hok:cY (.of M.cap) (M.b:Int) (M.w:Int) (yrs M N)=0):aE false Tryz.prog 10 [] [.agg (((Fr4.of M.cap).tr false++[.v (.int .i64 ((M.b:Nat):Int)),.v (.int .i64 ((M.w:Nat):Int))]:List Tr).map .t),.one (.t (fM (yrs M N)))] (aN (.tup [.agg [.t (dI true true (M.rows (M.run N) (M.ex N) (M.cl N) N)),.t (cN true true (M.run N))],.one (tv (.int .i64 0))])):=by
 refine VO Tryz.func10 rfl Tryz.ntmps10 rfl aA rfl fun N9 w9 c0 h0=>?_
 have hbs:=hOk.b;have hws:=hOk.w;have hNs:=hOk.n
 have hyl:(yrs M N).length=N:=cK M N
 have hyok:∀y∈yrs M N,y.1.ok∧y.2.ok:=fun y hy=>by
  unfold yrs at hy;obtain⟨i,hi,rfl⟩:=List.mem_map.1 hy
  have hi:=List.mem_range.1 hi
  exact⟨(Qn.of ((hOk.inc i hi).mono (M:=68719476736) (by omega))).1,(Qn.of ((hOk.ring i hi).mono (M:=68719476736) (by omega))).1⟩
 have hysz:∀y∈yrs M N,Sz 68719476736 ((Fr4.of M.cap).q*abv y.1.q):=fun y hy=>by
  unfold yrs at hy;obtain⟨i,hi,rfl⟩:=List.mem_map.1 hy
  have hi:=List.mem_range.1 hi
  rw[Fr4.q_of,Fr4.q_of];exact(pL hOk.cap (cQ (hOk.inc i hi) (by omega))).mono (by omega)
 have hIN:=hOk.run (Nat.le_refl N)
 have hrl:=zR hOk.b hOk.w N
 have hI0:M.I 0=[]:=List.eq_nil_of_length_eq_zero (by unfold Mx.I;rw[List.length_range'];omega)
 refine sq ?_;refine rl ?_;refine bx 0 ?_;refine al 1 ?_;refine o1 ?_;refine nl ?_;refine sq ?_;refine sq ?_;refine rl ?_;refine ld ?_;refine o1 ?_
 refine ca (Je (c:=.of M.cap) (bk:=(M.b:Int)) (fw:=(M.w:Int)) (ys:=yrs M N) (Qn.of (hOk.cap.mono (M:=68719476736) (by omega))).1 hyok hysz (by omega)) Tb ⟨aB rfl,a1 rfl,rfl⟩ (.one (tv (.int .i64 (cY (.of M.cap) (M.b:Int) (M.w:Int) (yrs M N))))) ?_
 refine o1 ?_;refine nl ?_;refine sq ?_;refine rl ?_;refine o1 ?_;refine o1 ?_;refine nl ?_;refine bP rfl (fun h1=>?_) (fun h1=>?_)
 ·exact absurd hok h1
 refine sk ?_;refine sq ?_;refine rd [0,1] (fun i=>[5].contains i) mixed ?_
 refine aI 0 ?_;refine dv 1 ?_;refine kG 2 2 rfl (RQ) VP rfl ?_;refine df 3 ?_;refine VQ (key:=3) 4 (by kernel_rfl) rfl rfl rfl ⟨rfl,rfl,trivial⟩ ?_
 refine cR 5 (by kernel_rfl) rfl rfl aA rfl (by trivial) ?_ (fun h=>by first | rfl | cases h)
 refine aJ ?_;refine sq ?_;refine sq ?_
 refine WP.sub ((Wa (j:=3) (key:=4) (e:=66) (z:=24) rfl rfl rfl (.sl (.id (.id (.id (.id (.id (.id (.id (.id (.id .nil))))))))))).trans (jQ (j:=3) (k:=4) (p:=0) (e:=66) (z:=24) (n:=0) (trs:=[]) rfl rfl rfl rfl rfl rfl rfl rfl)) ?_
 refine WP.sub ((Wa (j:=3) (key:=5) (e:=46) (z:=14) rfl rfl rfl (.id (.sl (.id (.id (.id (.id (.id (.id (.id (.id .nil))))))))))).trans (jQ (j:=3) (k:=5) (p:=1) (e:=46) (z:=14) (n:=0) (trs:=[]) rfl rfl rfl rfl rfl rfl rfl rfl)) ?_
 refine WP.sub (Km (j:=3) (k:=2) (p:=9) (e:=136) (trs:=[sR 97 [],.v (.int .i64 0),.v (.bool false)]) rfl rfl rfl rfl rfl) ?_
 refine WP.sub (aG h0 [3,1] [(1,.one (.t (fM (yrs M N)))),(4,.one (.pt 1 0)),(5,.one (tv (.int .i64 0))),(7,.one (.pt 0 0))] [⟨92,0,dD M N (.t (dI true false (M.rows (M.run 0) (M.ex 0) (fun _=>0) 0))) (.t (cN true false (M.run 0))) (.t (dV (wl M (M.run 0) (M.I 0)) (M.lp 0).1 (M.lp 0).2))⟩,⟨35,0,[tv (.slice none 0 0),tv (.slice none 0 0)]⟩] (by decide) ⟨rfl,rfl,rfl,rfl,trivial⟩ ⟨oe rfl (by rw[hI0];rfl),oe rfl rfl,rfl⟩) ?_
 refine rl ?_;refine o1 ?_;refine o1 ?_;refine WL.cast (t:=24) (u':=.int .i64 ((N:Nat):Int)) rfl (aH (by rw[hyl])) ?_
 refine o1 ?_;refine nl ?_;refine bl ?_
 refine lp (γ:=Nat) (fun y=>bS [(4,.one (.pt 1 0)),(5,.one (tv (.int .i64 0))),(7,.one (.pt 0 0)),(24,.one (tv (.int .i64 ((N:Nat):Int)))),(25,.one (tv (.int .i64 ((y:Nat):Int))))]) (fun y=>[(⟨92,0,dD M N (.t (dI true false (M.rows (M.run y) (M.ex y) (fun _=>0) y))) (.t (cN true false (M.run y))) (.t (dV (wl M (M.run y) (M.I y)) (M.lp y).1 (M.lp y).2))⟩:Ob),⟨35,0,[tv (.slice none 0 0),tv (.slice none 0 0)]⟩].map some) (fun y=>y≤N) (fun y=>N-y) 0 (Nat.zero_le _) (aG h0 [0,1] _ _ (by decide) ⟨rfl,rfl,rfl,rfl,rfl,trivial⟩ ⟨oe rfl rfl,oe rfl rfl,rfl⟩) fun y hy=>?_
 refine sq ?_;refine rl ?_;refine o1 ?_;refine nl ?_;refine sq ?_;refine bP rfl (fun h2=>?_) (fun h2=>?_)
 ·refine sk ?_;refine sq ?_;refine bl ?_;refine sq ?_;refine rl ?_;refine o1 ?_;refine o1 ?_;refine nl ?_;refine rl ?_;refine o1 ?_;refine o1 ?_
  refine cl 2 [0] (MH (M:=M) (N:=N) (y:=y) hOk (by omega)) VR ⟨oe rfl rfl,rfl⟩ ⟨rfl,rfl,rfl⟩ (ok:=[some ⟨92,0,dD M N (.t (dI true false (M.rows (M.run (y+1)) (M.ex (y+1)) (fun _=>0) (y+1)))) (.t (cN true false (M.run (y+1)))) (.t (dV (wl M (M.run (y+1)) (M.I (y+1))) (M.lp (y+1)).1 (M.lp (y+1)).2))⟩]) ⟨oe rfl rfl,rfl⟩ ?_
  refine nl ?_;refine rl ?_;refine o1 ?_;refine WL.cast (t:=31) (u':=.int .i64 ((y+1:Nat):Int)) rfl (aH (by omega)) ?_
  refine o1 ?_;refine nl ?_;exact⟨y+1,by omega,by omega,aG h0 [0,1] _ _ (by decide) ⟨rfl,rfl,rfl,rfl,rfl,trivial⟩ ⟨oe rfl rfl,oe rfl rfl,rfl⟩⟩
 refine ex ?_;refine sq ?_;refine sq ?_;have hyN:y=N:=by omega
 rw[hyN]
 have hzI:∀x∈(wl M (M.run N) (M.I N)),Sz 68719476736 x.2:=fun x hx=>by obtain⟨i,hi,rfl,_⟩:=xT hx;exact(hIN.sz_left hOk (by have:=sJ.1 hi;omega)).mono (by omega)
 have hEl:(wl M (M.run N) (M.I N)).length≤40:=Nat.le_trans Dl (Dk hOk.w)
 refine WP.sub (Ta (j:=0) (key:=2) (p:=9) (e:=136) (trs:=[sR 97 (wl M (M.run N) (M.I N)),.v (.int .i64 ((M.lp N).1)),.v (.bool (M.lp N).2)]) (l':=dD M N (.t (dI true false (M.rows (M.run N) (M.ex N) (fun _=>0) N))) (.t (cN true false (M.run N))) (.pt 2 0)) rfl rfl rfl rfl) ?_
 refine rl ?_;(iterate 3 refine o1 ?_);refine ld ?_
 refine iI 3 (MI (vs:=(wl M (M.run N) (M.I N))) (rest:=[.v (.int .i64 (M.lp N).1),.v (.bool (M.lp N).2)]) hzI (by omega)) VS ⟨Df rfl (.pe (trs:=[sR 97 (wl M (M.run N) (M.I N)),.v (.int .i64 (M.lp N).1),.v (.bool (M.lp N).2)]) rfl rfl rfl (by simp only[rdTL,gR,sR,sV,Di])),rfl⟩ ?_
 refine o1 ?_;refine o1 ?_;refine nl ?_;refine bl ?_
 refine WP.sub (MA (i:=36) (k:=3) (n:=(wl M (M.run N) (M.I N)).length) 97 rfl rfl rfl (bN true _) (Di true _) (.one .sl)) ?_
 refine WP.sub (Km (j:=0) (k:=2) (p:=9) (e:=136) (trs:=[sR 97 (wl M (M.run N) (M.I N)),.v (.int .i64 ((M.lp N).1)),.v (.bool (M.lp N).2)]) (l':=dD M N (.t (dI true false (M.rows (M.run N) (M.ex N) (fun _=>0) N))) (.t (cN true false (M.run N))) (.t (dV (wl M (M.run N) (M.I N)) ((M.lp N).1) (M.lp N).2))) rfl rfl rfl rfl rfl) ?_
 refine WP.sub (tZ (j:=0) (key:=4) (p:=0) (e:=66) (z:=24) (n:=(M.rows (M.run N) (M.ex N) (fun _=>0) N).length) (trs:=(M.rows (M.run N) (M.ex N) (fun _=>0) N).flatMap (cE false)) (l':=dD M N (.sl 4 0 (M.rows (M.run N) (M.ex N) (fun _=>0) N).length) (.t (cN true false (M.run N))) (.t (dV (wl M (M.run N) (M.I N)) (M.lp N).1 (M.lp N).2))) rfl rfl rfl rfl rfl) ?_
 refine lp (γ:=Nat) (fun k=>bS [(4,.one (.pt 2 0)),(5,.one (tv (.int .i64 0))),(7,.one (.pt 0 0)),(36,.one (.t (sV 97 false (wl M (M.run N) (M.I N))))),(37,.one (tv (.int .i64 (((wl M (M.run N) (M.I N)).length:Nat):Int)))),(38,.one (tv (.int .i64 ((k:Nat):Int))))]) (fun k=>[(⟨92,0,dD M N (.sl 1 0 N) (.t (cN true false (M.run N))) (.t (dV (wl M (M.run N) (M.I N)) (M.lp N).1 (M.lp N).2))⟩:Ob),⟨66,24,Ht (M.rows (M.run N) (M.ex N) (eJ ((wl M (M.run N) (M.I N)).take k) (fun _=>0)) N)⟩,⟨35,0,[tv (.slice none 0 0),tv (.slice none 0 0)]⟩].map some) (fun k=>k≤(wl M (M.run N) (M.I N)).length) (fun k=>(wl M (M.run N) (M.I N)).length-k) 0 (Nat.zero_le _) (aG h0 [0,4,1] _ _ (by decide) ⟨rfl,rfl,rfl,rfl,rfl,rfl,trivial⟩ ⟨oe rfl (congrArg (fun n=>some (⟨92,0,dD M N (.sl 4 0 n) (.t (cN true false (M.run N))) (.t (dV (wl M (M.run N) (M.I N)) (M.lp N).1 (M.lp N).2))⟩:Ob)) cZ),aQ rfl,oe rfl rfl,rfl⟩) fun k hk=>?_
 refine sq ?_;refine rl ?_;refine o1 ?_;refine nl ?_;refine sq ?_;refine bP rfl (fun h3=>?_) (fun h3=>?_)
 ·refine sk ?_;refine sq ?_;refine bl ?_;refine sq ?_;obtain⟨i,hi,hx,hpos⟩:=xT (nG (vs:=(wl M (M.run N) (M.I N))) (k:=k) (by omega))
  have hiI:=sJ.1 hi
  have hx1:(aU (wl M (M.run N) (M.I N)) k).1=(i:Int):=by rw[hx]
  have hrk:(M.rows (M.run N) (M.ex N) (eJ ((wl M (M.run N) (M.I N)).take k) (fun _=>0)) N).length=N:=cZ
  have hst:(M.rows (M.run N) (M.ex N) (eJ ((wl M (M.run N) (M.I N)).take k) (fun _=>0)) N).set i (⟨M.los i,M.lim i,eH (M.run N) i,M.tax (M.run N) i,M.ex N i,(aU (wl M (M.run N) (M.I N)) k).2⟩:Rw)=(M.rows (M.run N) (M.ex N) (eJ ((wl M (M.run N) (M.I N)).take (k+1)) (fun _=>0)) N):=AP (by omega) (fun j hj hne=>by rw[kV (by omega),sK (qG (Dm zO) (by omega)),if_neg (by rw[hx1];omega)]) (by rw[kV (by omega),sK (qG (Dm zO) (by omega)),if_pos hx1])
  refine rl ?_;refine o1 ?_;refine cW (cJ false (aU (wl M (M.run N) (M.I N)) (k))) (tY false (by omega)) ?_
  refine al 3 ?_;refine st ?_;refine nl ?_;refine rd [0,2,3] (fun i=>[].contains i) mixed ?_
  refine dv 0 ?_;refine dv 1 ?_;refine dv 2 ?_;refine dv 3 ?_;refine aI 4 ?_;refine dv 5 ?_;refine aI 6 ?_;refine WD.cast (t:=48) (u':=.int .i64 ((i:Nat):Int)) rfl (aH hx1) ?_
  refine dv 7 ?_;refine aI 8 ?_;refine dv 9 ?_;refine dv 10 ?_
  refine zQ 11 (lN (xs:=(M.rows (M.run N) (M.ex N) (eJ ((wl M (M.run N) (M.I N)).take k) (fun _=>0)) N)) (k:=i) (x:=(⟨(M.los i),(M.lim i),(eH (M.run N) i),(M.tax (M.run N) i),(M.ex N i),((eJ ((wl M (M.run N) (M.I N)).take k) (fun _=>0)) i)⟩:Rw)) (f:=(cE false)) (z:=24) (o:=20) (x':=(⟨(M.los i),(M.lim i),(eH (M.run N) i),(M.tax (M.run N) i),(M.ex N i),(aU (wl M (M.run N) (M.I N)) (k)).2⟩:Rw)) (us:=(Fr4.of (aU (wl M (M.run N) (M.I N)) (k)).2).tr false) (dX false) (rE (by omega)) (Nat.le_of_ble_eq_true rfl) rfl) (oS (xs:=(M.rows (M.run N) (M.ex N) (eJ ((wl M (M.run N) (M.I N)).take k) (fun _=>0)) N)) (k:=i) (f:=(cE false)) (z:=24) (o:=20) (us:=(Fr4.of (aU (wl M (M.run N) (M.I N)) (k)).2).tr false) (dX false) (by omega) (Nat.le_of_ble_eq_true rfl)) ?_
  refine aJ ?_;refine rl ?_;refine o1 ?_;refine WL.cast (t:=53) (u':=.int .i64 ((k+1:Nat):Int)) rfl (aH (by omega)) ?_
  refine o1 ?_;refine nl ?_
  exact⟨k+1,by omega,by omega,aG h0 [0,1,2] _ _ (by decide) ⟨rfl,rfl,rfl,rfl,rfl,rfl,trivial⟩ ⟨oe rfl rfl,aQ (congrArg (fun l:List Rw=>some (⟨66,24,(l.flatMap (cE false)).map .t⟩:Ob)) hst),oe rfl rfl,rfl⟩⟩
 refine ex ?_;refine sq ?_
 have hfin:(M.rows (M.run N) (M.ex N) (eJ ((wl M (M.run N) (M.I N)).take k) (fun _=>0)) N)=(M.rows (M.run N) (M.ex N) (M.cl N) N):=Hu (fun _ _=>rfl) fun i hi=>by rw[List.take_of_length_le (by omega)];exact MJ hIN hi
 refine WP.sub (tZ (j:=0) (key:=3) (p:=1) (e:=46) (z:=14) (n:=(M.run N).length) (trs:=(M.run N).flatMap (dQ false)) (l':=dD M N (.sl 1 0 N) (.sl 3 0 (M.run N).length) (.t (dV (wl M (M.run N) (M.I N)) (M.lp N).1 (M.lp N).2))) rfl rfl rfl rfl rfl) ?_
 refine WP.sub (aG h0 [0,1,3,2] [(4,.one (.pt 3 0)),(5,.one (tv (.int .i64 0))),(7,.one (.pt 0 0))] [⟨92,0,dD M N (.sl 1 0 (M.rows (M.run N) (M.ex N) (M.cl N) N).length) (.sl 2 0 (M.run N).length) (.t (dV (wl M (M.run N) (M.I N)) (M.lp N).1 (M.lp N).2))⟩,⟨66,24,((M.rows (M.run N) (M.ex N) (M.cl N) N).flatMap (cE false)).map .t⟩,⟨46,14,((M.run N).flatMap (dQ false)).map .t⟩,⟨35,0,[tv (.slice none 0 0),tv (.slice none 0 0)]⟩] (by decide) ⟨rfl,rfl,rfl,trivial⟩ ⟨oe rfl (congrArg (fun n=>some (⟨92,0,dD M N (.sl 1 0 n) (.sl 3 0 (M.run N).length) (.t (dV (wl M (M.run N) (M.I N)) (M.lp N).1 (M.lp N).2))⟩:Ob)) cZ.symm),aQ (congrArg (fun l:List Rw=>some (⟨66,24,(l.flatMap (cE false)).map .t⟩:Ob)) hfin),aQ rfl,oe rfl rfl,rfl⟩) ?_
 have hsr:∀i,i<(M.rows (M.run N) (M.ex N) (M.cl N) N).length→∀k,Sz 68719476736 (rq k ((M.rows (M.run N) (M.ex N) (M.cl N) N).getD i default)):=fun i hi k=>by
  rw[cZ]at hi;have e9:(M.rows (M.run N) (M.ex N) (M.cl N) N).getD i default=M.row (M.run N) (M.ex N) (M.cl N) i:=by rw[List.getD_eq_getElem?_getD,rE hi];rfl
  have h9:=Wb hOk hIN hi (EL hOk (Nat.le_refl N) hi) (EM hOk hi)
  rw[e9];unfold rq;split
  ·exact h9.1.mono (by omega)
  ·exact h9.2.1.mono (by omega)
  ·exact h9.2.2.1.mono (by omega)
  ·exact h9.2.2.2.1.mono (by omega)
  ·exact h9.2.2.2.2.1.mono (by omega)
  exact h9.2.2.2.2.2.mono (by omega)
 have hsu:∀i,i<(M.run N).length→∀k,Sz 68719476736 (uq k ((M.run N).getD i default)):=fun i hi k=>by
  have e9:(M.run N).getD i default=(M.run N)[i]:=by rw[List.getD_eq_getElem?_getD,List.getElem?_eq_getElem hi];rfl
  have h9:=UsOk.run hOk (Nat.le_refl N) _ (List.getElem_mem hi)
  rw[e9];unfold uq;split
  ·exact h9.1.mono (by omega)
  ·exact h9.2.1.mono (by omega)
  exact h9.2.2.mono (by omega)
 refine rl ?_;(iterate 3 refine o1 ?_);refine ld ?_
 refine VU [1,2] (RP (rs:=(M.rows (M.run N) (M.ex N) (M.cl N) N)) (us:=(M.run N)) hsr hsu (by rw[cZ];omega) (by omega)) VV ⟨aQ rfl,aQ rfl,rfl⟩ ⟨rfl,rfl⟩ (.sl rfl (.sl rfl .nil)) (ok:=[some ⟨66,24,((M.rows (M.run N) (M.ex N) (M.cl N) N).flatMap (cE true)).map .t⟩,some ⟨46,14,((M.run N).flatMap (dQ true)).map .t⟩]) ⟨aQ rfl,aQ rfl,rfl⟩ ?_
 refine st ?_;refine o1 ?_;refine nl ?_;refine rt ?_
 exact oP (en (.inl rfl) rfl (Dn (.cons (.agg (.cons (.sl (trs:=(M.rows (M.run N) (M.ex N) (M.cl N) N).flatMap (cE true)) rfl rfl (cC _ _ (dY true _)) (dY true _)) (.cons (.sl (trs:=(M.run N).flatMap (dQ true)) rfl rfl (cC _ _ (kH true _)) (kH true _)) .nil))) (.cons (bL _) .nil))) (by decide) (fun h=>by cases h) rfl)
def dR (a:Fr4):Bool:=decide ((a.x.length:Int)≤4)&&decide ((a.y.length:Int)≤4)
def pY (c:Fr4) (ys:List (Fr4×Fr4)):Bool:=((ys.take 50).all fun y=>dR y.1&&dR y.2)&&(dR c&&(decide ((ys.length:Int)≤12)||(decide ((40:Int)<ys.length)&&decide ((ys.length:Int)<50))))
def tK (a:Fr4):Prop:=dR a=true→a.ok
def pZ (c:Fr4) (bk fw:Int) (ys:List (Fr4×Fr4)):Mx:=⟨fun y=>(bX ys y).1.q,fun y=>(bX ys y).2.q,c.q,bk.toNat,fw.toNat⟩
theorem Ks {a:Fr4}(ha:a.ok) (h:dR a=true):Sz 4 a.q:=by
 obtain⟨l1,l2,_,_⟩:=ha
 simp only[dR,Bool.and_eq_true,decide_eq_true_eq]at h
 exact Wc (na:=a.s) (nb:=a.t) l1 l2 (by omega) (by omega) (by omega)
theorem Pp {c:Fr4}{ys:List (Fr4×Fr4)}{k:Nat}(h:k<ys.length) (h2:k<50) (h3:(dR (bX ys k).1&&dR (bX ys k).2)=false):false=pY c ys:=by
 unfold pY
 have:((ys.take 50).all fun y=>dR y.1&&dR y.2)=false:=by
  rw[List.all_eq_false]
  exact⟨_,List.mem_of_getElem? (i:=k) (by rw[List.getElem?_take,if_pos h2,fA h]),by simp only[h3];simp⟩
 rw[this]
 rfl
theorem lO {c:Fr4}{ys:List (Fr4×Fr4)}{k:Nat}(h:∀j,j<k→(dR (bX ys j).1&&dR (bX ys j).2)=true) (hk:k≤ys.length) (h2:¬(k<ys.length∧k<50)):(dR c&&(decide ((ys.length:Int)≤12)||(decide ((40:Int)<ys.length)&&decide ((ys.length:Int)<50))))=pY c ys:=by
 unfold pY
 have:((ys.take 50).all fun y=>dR y.1&&dR y.2)=true:=by
  rw[List.all_eq_true]
  intro x hx
  obtain⟨j,hj⟩:=List.mem_iff_getElem?.1 hx
  rw[List.getElem?_take]at hj
  split at hj
  ·have hjl:=(List.getElem?_eq_some_iff.1 hj).1
   rw[fA hjl]at hj
   injection hj with hj
   rw[←hj]
   exact h j (by omega)
  cases hj
 rw[this,Bool.true_and]
structure Sm (c:Fr4) (ys:List (Fr4×Fr4)):Prop where
 c:c.ok∧dR c=true
 y:∀y∈ys,(y.1.ok∧dR y.1=true)∧y.2.ok∧dR y.2=true
 l:ys.length<50
theorem Pq {c:Fr4}{ys:List (Fr4×Fr4)}(h:pY c ys=true) (hc:tK c) (hy:∀y∈ys,tK y.1∧tK y.2):Sm c ys:=by
 unfold pY at h
 simp only[Bool.and_eq_true,Bool.or_eq_true,decide_eq_true_eq]at h
 obtain⟨h1,h2,h3⟩:=h
 have hl:ys.length<50:=by omega
 rw[List.take_of_length_le (by omega),List.all_eq_true]at h1
 refine⟨⟨hc h2,h2⟩,fun y hm=>?_,hl⟩
 have:=h1 y hm
 simp only[Bool.and_eq_true]at this
 exact⟨⟨(hy y hm).1 this.1,this.1⟩,(hy y hm).2 this.2,this.2⟩
section
variable {c:Fr4}{bk fw:Int}{ys zs:List (Fr4×Fr4)}
theorem Sm.cz (h:Sm c ys):Sz 4 c.q:=Ks h.c.1 h.c.2
theorem Sm.sz (h:Sm c ys):∀y∈ys,Sz 68719476736 (c.q*abv y.1.q):=fun y hy=>(pL h.cz (cQ (Ks (h.y y hy).1.1 (h.y y hy).1.2) (by omega))).mono (by omega)
theorem Wd {q:Rat}(h:¬q.num.sign<0):0≤q:=by
 rcases Rat.le_total (a:=0) (b:=q)with h1 | h1
 ·exact h1
 rcases Rat.le_iff_lt_or_eq.1 h1 with h2 | h2
 ·exact absurd ((iQ q).2 h2) h
 rw[h2];exact Rat.le_refl
theorem Pr {p q:Rat}(h:¬0<(p-q).num.sign):p≤q:=by
 rcases Rat.le_total (a:=p) (b:=q)with h1 | h1
 ·exact h1
 rcases Rat.le_iff_lt_or_eq.1 h1 with h2 | h2
 ·exact absurd ((uH p q).2 h2) h
 rw[h2];exact Rat.le_refl
theorem MK (h:cY c bk fw ys=0):fT c bk fw=false∧(∀y∈ys,gH c y=false)∧ys.length≤40:=by
 unfold cY at h
 split at h
 ·cases h
 rename_i h1
 split at h
 ·cases h
 rename_i h2
 simp only[Bool.or_eq_true,not_or,Bool.not_eq_true]at h1
 simp only[decide_eq_true_eq]at h2
 exact⟨h1.1,fun y hy=>by
  have:=h1.2
  rw[List.any_eq_false]at this
  simpa using this y hy,by omega⟩
theorem ML (h1:fT c bk fw=false) (h2:∀y∈ys,gH c y=false) (h3:ys.length≤40):cY c bk fw ys=0:=by
 unfold cY
 have:ys.any (gH c)=false:=by
  rw[List.any_eq_false]
  intro y hy
  rw[h2 y hy]
  simp
 rw[h1,this,if_neg (by simp),if_neg (by simp;omega)]
theorem EN (hs:Sm c ys) (h:cY c bk fw ys=0):(pZ c bk fw ys).Ok ys.length∧c=Fr4.of (pZ c bk fw ys).cap∧bk=((pZ c bk fw ys).b:Int)∧fw=((pZ c bk fw ys).w:Int)∧ys=yrs (pZ c bk fw ys) ys.length:=by
 obtain⟨h1,h2,h3⟩:=MK h
 unfold fT at h1
 simp only[Bool.or_eq_false_iff,Bool.not_eq_false',decide_eq_false_iff_not]at h1
 obtain⟨r1,r2,r3,r4,r5,r6,r7⟩:=h1
 have hy:∀i,i<ys.length→bX ys i∈ys:=fun i hi=>iR hi
 have hb:∀i,i<ys.length→(bD (bX ys i).1.s (bX ys i).1.x (bX ys i).1.t (bX ys i).1.y=true)∧(bD (bX ys i).2.s (bX ys i).2.x (bX ys i).2.t (bX ys i).2.y=true)∧0≤(bX ys i).2.q∧(bX ys i).2.q≤c.q*abv (bX ys i).1.q:=fun i hi=>by
  have:=h2 _ (hy i hi)
  unfold gH at this
  simp only[Bool.or_eq_false_iff,Bool.not_eq_false',decide_eq_false_iff_not]at this
  obtain⟨b1,b2,b3,b4⟩:=this
  exact⟨b1,b2,Wd b3,Pr b4⟩
 refine⟨⟨fun i hi=>Ks (hs.y _ (hy i hi)).1.1 (hs.y _ (hy i hi)).1.2,fun i hi=>Ks (hs.y _ (hy i hi)).2.1 (hs.y _ (hy i hi)).2.2,hs.cz,Wd r2,Pr r3,fun i hi=>(hb i hi).2.2.1,fun i hi=>(hb i hi).2.2.2,h3,?_,?_⟩,(Qn.right (⟨hs.c.1,rfl⟩:Qn c c.q) r1).symm,?_,?_,?_⟩
 ·show fw.toNat≤40
  omega
 ·show bk.toNat≤3
  omega
 ·show bk=((bk.toNat:Nat):Int)
  omega
 ·show fw=((fw.toNat:Nat):Int)
  omega
 apply List.ext_getElem?
 intro i
 by_cases hi:i<ys.length
 ·rw[fA hi,eB hi]
  have e1:=Qn.right (⟨(hs.y _ (hy i hi)).1.1,rfl⟩:Qn (bX ys i).1 (bX ys i).1.q) (hb i hi).1
  have e2:=Qn.right (⟨(hs.y _ (hy i hi)).2.1,rfl⟩:Qn (bX ys i).2 (bX ys i).2.q) (hb i hi).2.1
  show some (bX ys i)=some (Fr4.of (bX ys i).1.q,Fr4.of (bX ys i).2.q)
  rw[e1,e2]
 rw[List.getElem?_eq_none (by omega),List.getElem?_eq_none (by rw[cK];omega)]
def Bz (c:Fr4) (bk fw:Int) (ys:List (Fr4×Fr4)):List Rw:=if cY c bk fw ys=0 then(pZ c bk fw ys).rows ((pZ c bk fw ys).run ys.length) ((pZ c bk fw ys).ex ys.length) ((pZ c bk fw ys).cl ys.length) ys.length else []
def Fn (c:Fr4) (bk fw:Int) (ys:List (Fr4×Fr4)):List Us:=if cY c bk fw ys=0 then(pZ c bk fw ys).run ys.length else []
def MM (rs:List Rw):Prop:=∀r∈rs,Sz 330 r.l∧Sz 330 r.m∧Sz 330 r.u∧Sz 330 r.t∧Sz 330 r.e∧Sz 330 r.c
end
theorem We {c:Fr4}{bk fw:Int}{ys:List (Fr4×Fr4)}(hs:Sm c ys):aE false Tryz.prog 10 [] [.agg ((c.tr false++[.v (.int .i64 bk),.v (.int .i64 fw)]:List Tr).map .t),.one (.t (fM ys))] (aN (.tup [.agg [.t (dI true true (Bz c bk fw ys)),.t (cN true true (Fn c bk fw ys))],.one (tv (.int .i64 (cY c bk fw ys)))])):=by
 by_cases h:cY c bk fw ys=0
 ·obtain⟨h1,e1,e2,e3,e4⟩:=EN hs h
  have h9:=EK h1 (by rw[←e1,←e2,←e3,←e4];exact h)
  rw[←e1,←e2,←e3,←e4]at h9
  unfold Bz Fn
  rw[if_pos h,if_pos h,h]
  exact h9
 unfold Bz Fn
 rw[if_neg h,if_neg h]
 exact AO hs.c.1 (fun y hy=>⟨(hs.y y hy).1.1,(hs.y y hy).2.1⟩) hs.sz (by have:=hs.l;omega) h
theorem uI {q:Rat}{L:Nat}(h:Sz L q) (hL:L≤68719476736:=by omega):(Fr4.of q).len 1099511627776:=⟨Nat.le_trans h.1 (by omega),Nat.le_trans h.2 (by omega)⟩
theorem MN (rs:List Rw) (us:List Us):MO (.agg [.t (.s false 66 24 rs.length (rs.flatMap (cE true))),.t (.s false 46 14 us.length (us.flatMap (dQ true)))])=.agg [.t (dI false false rs),.t (cN false false us)]:=by
 simp only[MO,List.map_cons,List.map_nil,Ps,gR,Jf,Jg,dI,cN]
theorem RR {a b:Us}:a=b↔a.v=b.v∧a.y=b.y∧Fr4.of a.n=Fr4.of b.n∧Fr4.of a.p=Fr4.of b.p∧Fr4.of a.q=Fr4.of b.q:=by
 constructor
 ·rintro rfl;exact⟨rfl,rfl,rfl,rfl,rfl⟩
 rintro⟨h1,h2,h3,h4,h5⟩
 cases a
 cases b
 simp only[Do]at h1 h2 h3 h4 h5
 simp[h1,h2,h3,h4,h5]
theorem MP {a b:Us}:a=b↔a.v=b.v∧a.y=b.y∧a.n=b.n∧a.p=b.p∧a.q=b.q:=by
 rw[RR,Do,Do,Do]
instance:DecidableEq Us:=fun _ _=>decidable_of_iff _ MP.symm
theorem Wf {us:List Us}{k:Nat}(h:k<us.length):us.take (k+1)=us.take k++[cA us k]:=by
 have e:cA us k=us[k]:=by
  have:=iS h
  rw[List.getElem?_eq_getElem h]at this
  injection this with this
  exact this.symm
 rw[e,List.take_append_getElem]
def gX (l:List (Rat×Rat)):List (Fr4×Fr4):=l.map fun p=>(Fr4.of p.1,Fr4.of p.2)
def Dp (c:Rat) (b w:Nat) (l:List (Rat×Rat)):Mx:=⟨fun y=>(l.getD y (0,0)).1,fun y=>(l.getD y (0,0)).2,c,b,w⟩
def Kt (c:Rat) (b w:Nat) (l:List (Rat×Rat)):Bool:=decide (0≤c)&&decide (c≤1)&&decide (b≤3)&&decide (w≤40)&&decide (l.length≤40)&&l.all fun p=>decide (0≤p.2)&&decide (p.2≤c*abv p.1)
theorem Wg:mN.q=0:=by
 unfold Fr4.q mN
 exact xU rfl
theorem MQ (c:Rat) (b w:Nat) (l:List (Rat×Rat)):pZ (Fr4.of c) (b:Int) (w:Int) (gX l)=Dp c b w l:=by
 have h:∀y,bX (gX l) y=if y<l.length then(Fr4.of (l.getD y (0,0)).1,Fr4.of (l.getD y (0,0)).2)else(mN,mN):=fun y=>by
  unfold bX gX
  by_cases hy:y<l.length
  ·rw[if_pos hy,List.getD_eq_getElem?_getD,List.getD_eq_getElem?_getD,List.getElem?_map,List.getElem?_eq_getElem hy]
   rfl
  rw[if_neg hy,List.getD_eq_getElem?_getD,List.getElem?_map,List.getElem?_eq_none (by omega)]
  rfl
 unfold pZ Dp
 rw[Fr4.q_of]
 congr 1
 ·funext y
  rw[h]
  split
  ·exact Fr4.q_of _
  rename_i hy
  rw[List.getD_eq_getElem?_getD,List.getElem?_eq_none (by omega)]
  exact Wg
 funext y
 rw[h]
 split
 ·exact Fr4.q_of _
 rename_i hy
 rw[List.getD_eq_getElem?_getD,List.getElem?_eq_none (by omega)]
 exact Wg
theorem Tc {c:Rat}{b w:Nat}{l:List (Rat×Rat)}(h:Kt c b w l=true):cY (Fr4.of c) (b:Int) (w:Int) (gX l)=0:=by
 unfold Kt at h
 simp only[Bool.and_eq_true,decide_eq_true_eq,List.all_eq_true]at h
 obtain⟨⟨⟨⟨⟨h1,h2⟩,h3⟩,h4⟩,h5⟩,h6⟩:=h
 have nn:∀{q:Rat},0≤q→¬q.num.sign<0:=fun{q} hq h9=>by
  have:=(iQ q).1 h9
  grind
 have ns:∀{p q:Rat},p≤q→¬0<(p-q).num.sign:=fun{p q} hq h9=>by
  have:=(uH p q).1 h9
  grind
 have rt:∀q:Rat,bD (Fr4.of q).s (Fr4.of q).x (Fr4.of q).t (Fr4.of q).y=true:=fun q=>xV q
 refine ML ?_ (fun y hy=>?_) (by unfold gX;rw[List.length_map];exact h5)
 ·unfold fT
  rw[rt,Fr4.q_of,decide_eq_false (nn h1),decide_eq_false (ns (q:=((1:Int):Rat)) h2),decide_eq_false (by omega),decide_eq_false (by omega),decide_eq_false (by omega),decide_eq_false (by omega)]
  rfl
 unfold gX at hy
 obtain⟨p,hp,rfl⟩:=List.mem_map.1 hy
 obtain⟨g1,g2⟩:=h6 p hp
 unfold gH
 dsimp only
 rw[rt,rt,Fr4.q_of,Fr4.q_of,Fr4.q_of,decide_eq_false (nn g1),decide_eq_false (ns g2)]
 rfl
theorem MR {c:Rat}{b w:Nat}{l:List (Rat×Rat)}(h:Kt c b w l=true):Fn (Fr4.of c) (b:Int) (w:Int) (gX l)=(Dp c b w l).run l.length:=by
 unfold Fn
 rw[if_pos (Tc h),MQ]
 unfold gX
 rw[List.length_map]
theorem Wh {c:Rat}{b w:Nat}{l:List (Rat×Rat)}(h:Kt c b w l=true):Bz (Fr4.of c) (b:Int) (w:Int) (gX l)=(Dp c b w l).rows ((Dp c b w l).run l.length) ((Dp c b w l).ex l.length) ((Dp c b w l).cl l.length) l.length:=by
 unfold Bz
 rw[if_pos (Tc h),MQ]
 unfold gX
 rw[List.length_map]
theorem MS {c:Rat}{l:List (Rat×Rat)}(hc:Sz 4 c) (h:∀p∈l,Sz 4 p.1∧Sz 4 p.2) (hl:l.length<50):Sm (Fr4.of c) (gX l):=by
 have key:∀{q:Rat},Sz 4 q→(Fr4.of q).ok∧dR (Fr4.of q)=true:=fun{q} hq=>by
  refine⟨(Qn.of hq).1,?_⟩
  have h1:=hq.1
  have h2:=hq.2
  unfold dR Fr4.of
  simp only[Bool.and_eq_true,decide_eq_true_eq]
  omega
 refine⟨key hc,fun y hy=>?_,by unfold gX;rw[List.length_map];exact hl⟩
 unfold gX at hy
 obtain⟨p,hp,rfl⟩:=List.mem_map.1 hy
 exact⟨key (h p hp).1,key (h p hp).2⟩
theorem eL {fresh:Bool}{x:Cx}{T:List (Nat×TI)}{rv:List ResultVar}{e:Exit}{g:Nat→FV}{ob:List (Option Ob)}{b b':Bool}(he:e=.ret∨e=.normal) (res:tL T x.n g ob rv=some [.one (tv (.bool b))]) (hb:b=b'):tM x T rv fresh [] (aN (.one (tv (.bool b')))) e g ob:=en he res (aO (bL _)) (by decide) (fun _=>trivial) (by rw[hb];rfl)
theorem VD {b c:Bool}(h:b=c):(!b)= !c:=by rw[h]
theorem fQ {b b':Bool}(h:b=b'):some (FV.one (tv (.bool b)))=some (FV.one (tv (.bool b'))):=by rw[h]
structure Uf where
 v:Int
 y:Int
 n:Fr4
 p:Fr4
 q:Fr4
structure Rf where
 l:Fr4
 m:Fr4
 u:Fr4
 t:Fr4
 e:Fr4
 c:Fr4
def fR (o:Bool) (u:Uf):List Tr:=.v (.int .i64 u.v)::.v (.int .i64 u.y)::(u.n.tr o++(u.p.tr o++u.q.tr o))
def jR (o:Bool) (r:Rf):List Tr:=r.l.tr o++(r.m.tr o++(r.u.tr o++(r.t.tr o++(r.e.tr o++r.c.tr o))))
theorem fE (o:Bool) (u:Uf):(fR o u).length=14:=rfl
theorem jL (o:Bool) (r:Rf):(jR o r).length=24:=rfl
def rG (M:Mx):List Tr:=(Fr4.of M.cap).tr false++[.v (.int .i64 ((M.b:Nat):Int)),.v (.int .i64 ((M.w:Nat):Int))]
def RS:Uf:=⟨0,0,mN,mN,mN⟩
def RT:Rf:=⟨mN,mN,mN,mN,mN,mN⟩
def bZ (us:List Uf) (k:Nat):Uf:=us.getD k RS
def aR (rs:List Rf) (k:Nat):Rf:=rs.getD k RT
theorem dS {us:List Uf}{k:Nat}(h:k<us.length):us[k]? =some (bZ us k):=by simp[bZ,h]
theorem iC {rs:List Rf}{k:Nat}(h:k<rs.length):rs[k]? =some (aR rs k):=by simp[aR,h]
theorem dZ {us:List Uf}{k:Nat}(h:k<us.length):bZ us k∈us:=List.mem_of_getElem? (dS h)
theorem aT {rs:List Rf}{k:Nat}(h:k<rs.length):aR rs k∈rs:=List.mem_of_getElem? (iC h)
theorem Dq {us:List Uf}{k:Nat}(h:k<us.length):us.take (k+1)=us.take k++[bZ us k]:=by
 rw[List.take_add_one,dS h]
 rfl
theorem Wi {rs:List Rf}{k:Nat}(h:k<rs.length):rs.take (k+1)=rs.take k++[aR rs k]:=by
 rw[List.take_add_one,iC h]
 rfl
def gS (rs:List Rf):Tr:=.s false 66 24 rs.length (rs.flatMap (jR false))
def kI (us:List Uf):Tr:=.s false 46 14 us.length (us.flatMap (fR false))
def kA (o:Bool) (rs:List Rf):Tr:=.s o 68 24 rs.length (rs.flatMap (jR false))
def kB (o:Bool) (us:List Uf):Tr:=.s o 51 14 us.length (us.flatMap (fR false))
theorem Td (us:List Uf):(us.flatMap (fR false)).length=us.length*14:=gA (fE false) us
theorem Te (rs:List Rf):(rs.flatMap (jR false)).length=rs.length*24:=gA (jL false) rs
def xW (rs:List Rf):List AV:=(rs.flatMap (jR false)).map .t
def xX (us:List Uf):List AV:=(us.flatMap (fR false)).map .t
theorem AQ (rs:List Rf):(xW rs).length=rs.length*24:=by rw[xW,List.length_map,Te]
theorem AS (us:List Uf):(xX us).length=us.length*14:=by rw[xX,List.length_map,Td]
theorem Wj (rs:List Rf) (r:Rf):xW rs++(jR false r).map .t=xW (rs++[r]):=pM rs r
theorem Wk (us:List Uf) (u:Uf):xX us++(fR false u).map .t=xX (us++[u]):=pM us u
def gI (u:Us):Uf:=⟨u.v,u.y,.of u.n,.of u.p,.of u.q⟩
def gN (r:Rw):Rf:=⟨.of r.l,.of r.m,.of r.u,.of r.t,.of r.e,.of r.c⟩
theorem MT (us:List Us):cN false false us=kI (us.map gI):=by
 unfold cN kI
 rw[List.length_map,List.flatMap_map]
 rfl
theorem MU (rs:List Rw):dI false false rs=gS (rs.map gN):=by
 unfold dI gS
 rw[List.length_map,List.flatMap_map]
 rfl
def BF (a:Fr4):Prop:=a.ok∧Sz 700 a.q∧a.len 1099511627776
theorem BF.qn {a:Fr4}(h:BF a):Qn a a.q:=⟨h.1,rfl⟩
structure JOk (rs:List Rf) (us:List Uf):Prop where
 r:∀r∈rs,BF r.l∧BF r.m∧BF r.u∧BF r.t∧BF r.e∧BF r.c
 u:∀u∈us,BF u.n∧BF u.p∧BF u.q
 rl:rs.length≤10000
 ul:us.length≤10000
def cI (us:List Uf) (dl:Uf→Bool):Rat:=fS ((us.filter dl).map fun u=>u.n.q)
theorem vX {us:List Uf}{dl:Uf→Bool}{k:Nat}(h:k<us.length):cI (us.take (k+1)) dl=if dl (bZ us k)=true then cI (us.take k) dl+(bZ us k).n.q else cI (us.take k) dl:=by
 unfold cI
 rw[Dq h,List.filter_append,List.map_append]
 split
 ·rename_i h9
  rw[List.filter_cons_of_pos h9]
  exact sL _ _
 rename_i h9
 rw[List.filter_cons_of_neg h9]
 simp
theorem zS {us:List Uf}{dl:Uf→Bool}{k:Nat}(h:k<us.length) (hd:dl (bZ us k)=true):cI (us.take (k+1)) dl=cI (us.take k) dl+(bZ us k).n.q:=(vX h).trans (if_pos hd)
theorem zT {us:List Uf}{dl:Uf→Bool}{k:Nat}(h:k<us.length) (hd:dl (bZ us k)=false):cI (us.take (k+1)) dl=cI (us.take k) dl:=(vX h).trans (if_neg (by rw[hd];decide))
theorem Ku {B:Nat}:∀{l:List Rat},(∀q∈l,Sz B q)→Sz (2+l.length*(B+1)) (fS l):=fun{l} h=>by
 have key:∀(l:List Rat) (p:Rat) (m:Nat),Sz m p→(∀q∈l,Sz B q)→Sz (m+l.length*(B+1)) (l.foldl (· + ·) p):=by
  intro l
  induction l with
  | nil=>intro p m hp _;simpa using hp
  | cons q l ih=>
   intro p m hp hl
   have h1:=ih (p+q) (m+B+1) (gY hp (hl q (List.mem_cons_self ..))) fun z hz=>hl z (List.mem_cons_of_mem _ hz)
   rw[List.foldl_cons,List.length_cons,Nat.add_mul,Nat.one_mul]
   exact h1.mono (by omega)
 exact key l 0 2 ((kX (z:=0) (by omega) (by omega)).mono (by omega)) h
theorem kY {rs:List Rf}{us:List Uf}(hJ:JOk rs us) (dl:Uf→Bool) (k:Nat):Sz 8000000 (cI (us.take k) dl):=by
 refine(Ku (B:=700) fun q hq=>?_).mono ?_
 ·obtain⟨u,hu,rfl⟩:=List.mem_map.1 hq
  exact(hJ.u u (List.mem_of_mem_take (List.mem_filter.1 hu).1)).1.2.1
 rw[List.length_map]
 have h1:=List.length_filter_le dl (us.take k)
 have h3:(us.take k).length≤us.length:=by rw[List.length_take];omega
 have:=hJ.ul
 omega
theorem uJ {us:List Uf}{dl:Uf→Bool}{k:Nat}(h:us.length≤k):cI (us.take k) dl=cI us dl:=by rw[List.take_of_length_le h]
theorem dF {rs:List Rf}{us:List Uf}(hJ:JOk rs us) (dl:Uf→Bool):Sz 8000000 (cI us dl):=by
 have h:=kY hJ dl us.length
 rwa[uJ (Nat.le_refl _)]at h
namespace Mx
def win (M:Mx) (N:Nat) (v y:Int):Bool:=decide (0≤v)&&(decide (v<(N:Int))&&(decide (0≤y)&&(decide (y<(N:Int))&&(decide ((M.inc v.toNat).num.sign<0)&&(decide (0<(M.inc y.toNat).num.sign)&&(decide (v-(M.b:Int)≤y)&&decide (y≤v+(M.w:Int))))))))
def rowJ (M:Mx) (rs:List Rf) (y:Nat):Bool:=decide ((aR rs y).l.q=abv (-(M.inc y)))&&decide ((aR rs y).m.q=M.cap*abv (M.inc y))
def useJ (M:Mx) (N:Nat) (u:Uf):Bool:=M.win N u.v u.y&&(!decide (u.n.q.num.sign≤0)&&(!decide (u.p.q.num.sign<0)&& !decide (u.q.q.num.sign<0)))
def ofJ (us:List Uf) (v:Int):Rat:=cI us fun u=>decide (u.v=v)
def inJ (us:List Uf) (y:Int):Rat:=cI us fun u=>decide (u.y=y)
def lateJ (M:Mx) (N y:Nat):Bool:=decide ((y:Int)+(M.w:Int)≤(N:Int)-1)
def vin5 (M:Mx) (N:Nat) (rs:List Rf) (y:Nat):Bool:=decide ((aR rs y).e.q.num.sign<0)||(decide ((aR rs y).c.q.num.sign<0)||((M.lateJ N y&&decide ((aR rs y).c.q.num.sign≠0))||(!M.lateJ N y&&decide ((aR rs y).e.q.num.sign≠0))))
def vinJ (M:Mx) (N:Nat) (rs:List Rf) (us:List Uf) (y:Nat):Bool:= !M.vin5 N rs y&&decide ((aR rs y).l.q=ofJ us y+(aR rs y).e.q+(aR rs y).c.q)
def capJ (M:Mx) (rs:List Rf) (us:List Uf) (y:Nat):Bool:=decide ((aR rs y).u.q=inJ us y)&&(!decide (0<(inJ us y+M.ring y-(aR rs y).m.q).num.sign)&&decide ((aR rs y).t.q=abv (M.inc y)-(inJ us y+M.ring y)))
def remJ (rs:List Rf) (us:List Uf) (v y:Int):Rat:=cI us (fun u=>decide (u.v=v)&&decide (y<u.y))+(aR rs v.toNat).e.q+(aR rs v.toNat).c.q
def fulJ (M:Mx) (us:List Uf) (y t:Int):Rat:=cI us (fun u=>decide (u.y=y)&&decide (max u.v y≤t))+M.ring y.toNat
def spentJ (M:Mx) (N:Nat) (rs:List Rf) (us:List Uf) (v y:Nat):Bool:= !(M.win N v y&&(!decide ((remJ rs us v y).num.sign≤0)&& !decide (0≤(M.fulJ us y (max (v:Int) (y:Int))-(aR rs y).m.q).num.sign)))
def oldJ (M:Mx) (N:Nat) (rs:List Rf) (us:List Uf) (u:Uf) (v:Nat):Bool:=decide (u.v<u.y)&&(M.win N v u.y&& !decide ((remJ rs us v u.y).num.sign≤0))
def judge (M:Mx) (N:Nat) (rs:List Rf) (us:List Uf):Bool:=decide (rs.length=N)&&((List.range N).all (M.rowJ rs)&&(us.all (M.useJ N)&&((List.range N).all (M.vinJ N rs us)&&((List.range N).all (M.capJ rs us)&&((List.range N).all (fun v=>(List.range N).all (M.spentJ N rs us v))&&us.all fun u=> !(List.range (max 0 u.v).toNat).any (M.oldJ N rs us u))))))
def goodR (M:Mx) (N:Nat) (rs:List Rf) (us:List Uf) (y:Nat):Bool:=M.rowJ rs y&&(M.vinJ N rs us y&&M.capJ rs us y)
def gqJ (v y:Int) (u:Uf):Bool:= !(decide (u.y=y)&&(decide (v<u.v)&&decide (u.v<y)))
def greedR (M:Mx) (N:Nat) (rs:List Rf) (us:List Uf) (v y:Nat):Bool:= !M.win N v y ||(decide ((remJ rs us v y).num.sign≤0)||(decide (0≤(M.fulJ us y (max (v:Int) (y:Int))-M.lim y).num.sign)&&us.all (gqJ v y)))
def judgeR (M:Mx) (N:Nat) (rs:List Rf) (us:List Uf):Bool:=decide (rs.length=N)&&(us.all (M.useJ N)&&((List.range N).all (M.goodR N rs us)&&(List.range N).all fun v=>(List.range N).all (M.greedR N rs us v)))
end Mx
section
variable {M:Mx}{N:Nat}{rs:List Rf}{us:List Uf}{v y:Int}
theorem rH (h:M.win N v y=true):0≤v∧v<(N:Int)∧0≤y∧y<(N:Int):=by
 simp only[Mx.win,Bool.and_eq_true,decide_eq_true_eq]at h
 exact⟨h.1,h.2.1,h.2.2.1,h.2.2.2.1⟩
theorem Tf:M.judge N rs us=M.judgeR N rs us:=by
 rw[Bool.eq_iff_iff]
 simp only[Mx.judge,Mx.judgeR,Mx.goodR,Bool.and_eq_true,List.all_eq_true,decide_eq_true_eq,List.mem_range]
 constructor
 ·rintro⟨h1,h2,h3,h4,h5,h6,h7⟩
  refine⟨h1,h3,fun y hy=>⟨h2 y hy,h4 y hy,h5 y hy⟩,fun v hv y hy=>?_⟩
  have h8:=h6 v hv y hy
  have h9:=h2 y hy
  simp only[Mx.rowJ,Bool.and_eq_true,decide_eq_true_eq]at h9
  have h9':(aR rs y).m.q=M.lim y:=h9.2
  simp only[Mx.spentJ,h9']at h8
  unfold Mx.greedR
  cases hw:M.win N v y with
  | false=>rfl
  | true=>
   rw[hw]at h8
   cases hr:decide ((Mx.remJ rs us v y).num.sign≤0)with
   | true=>rfl
   | false=>
    rw[hr]at h8
    simp only[Bool.true_and,Bool.not_not,Bool.not_false]at h8
    rw[h8]
    simp only[Bool.not_true,Bool.false_or,Bool.true_and,List.all_eq_true]
    intro u hu
    unfold Mx.gqJ
    cases hq:(decide (u.y=(y:Int))&&(decide ((v:Int)<u.v)&&decide (u.v<(y:Int))))with
    | false=>rfl
    | true=>
     simp only[Bool.and_eq_true,decide_eq_true_eq]at hq
     obtain⟨q1,q2,q3⟩:=hq
     have h10:=h7 u hu
     rw[Bool.not_eq_true',List.any_eq_false]at h10
     exact absurd (by simp only[Mx.oldJ,q1,hw,hr,Bool.and_true,Bool.not_false,decide_eq_true_eq];exact q3) (h10 v (by rw[List.mem_range];omega))
 rintro⟨h1,h3,h4,h5⟩
 refine⟨h1,fun y hy=>(h4 y hy).1,h3,fun y hy=>(h4 y hy).2.1,fun y hy=>(h4 y hy).2.2,fun v hv y hy=>?_,fun u hu=>?_⟩
 ·have h8:=h5 v hv y hy
  have h9:=(h4 y hy).1
  simp only[Mx.rowJ,Bool.and_eq_true,decide_eq_true_eq]at h9
  have h9':(aR rs y).m.q=M.lim y:=h9.2
  simp only[Mx.spentJ,h9']
  unfold Mx.greedR at h8
  cases hw:M.win N v y with
  | false=>rfl
  | true=>
   rw[hw]at h8
   cases hr:decide ((Mx.remJ rs us v y).num.sign≤0)with
   | true=>rfl
   | false=>
    rw[hr]at h8
    simp only[Bool.not_true,Bool.false_or,Bool.and_eq_true]at h8
    rw[h8.1]
    rfl
 rw[Bool.not_eq_true',List.any_eq_false]
 intro v hv ho
 rw[List.mem_range]at hv
 simp only[Mx.oldJ,Bool.and_eq_true]at ho
 obtain⟨o1,o2,o3⟩:=ho
 obtain⟨w1,w2,w3,w4⟩:=rH o2
 have h8:=h5 v (by omega) u.y.toNat (by omega)
 unfold Mx.greedR at h8
 rw[Bool.not_eq_true']at o3
 rw[Int.toNat_of_nonneg w3,o2,o3]at h8
 simp only[Bool.not_true,Bool.false_or,Bool.and_eq_true,List.all_eq_true]at h8
 have h9:=h8.2 u hu
 unfold Mx.gqJ at h9
 rw[decide_eq_true rfl,decide_eq_true (show(v:Int)<u.v by omega),o1]at h9
 cases h9
end
theorem Pt {us:List Uf}{k:Nat}{p:Uf→Bool}(hk:k<us.length) (h:p (bZ us k)=false):us.all p=false:=by
 rw[List.all_eq_false]
 exact⟨_,dZ hk,by rw[h];decide⟩
theorem Kv {us:List Uf}{k:Nat}{p:Uf→Bool}(hk:us.length≤k) (h:∀j,j<k→p (bZ us j)=true):us.all p=true:=by
 rw[List.all_eq_true]
 intro u hu
 obtain⟨j,hj⟩:=List.mem_iff_getElem?.1 hu
 have hl:=(List.getElem?_eq_some_iff.1 hj).1
 rw[dS hl]at hj
 injection hj with hj
 rw[←hj]
 exact h j (by omega)
section
variable {M:Mx}{N:Nat}{rs:List Rf}{us:List Uf}
theorem MV (h:¬rs.length=N):M.judgeR N rs us=false:=by rw[Mx.judgeR,decide_eq_false h];rfl
theorem MW (h:us.all (M.useJ N)=false):M.judgeR N rs us=false:=by rw[Mx.judgeR,h];simp
theorem HP (h:(List.range N).all (M.goodR N rs us)=false):M.judgeR N rs us=false:=by rw[Mx.judgeR,h];simp
theorem AT (h:((List.range N).all fun v=>(List.range N).all (M.greedR N rs us v))=false):M.judgeR N rs us=false:=by rw[Mx.judgeR,h];simp
theorem RU (h:rs.length=N) (h1:us.all (M.useJ N)=true) (h2:(List.range N).all (M.goodR N rs us)=true) (h3:((List.range N).all fun v=>(List.range N).all (M.greedR N rs us v))=true):M.judgeR N rs us=true:=by
 rw[Mx.judgeR,h1,h2,h3,decide_eq_true h];rfl
end
theorem Wl {xs:List Nat}(hx:xs.length≤4398046511104):aE false Tryz.prog 181 [] [.one (.t (sI false xs))] (aN (.one (.t (sI false (trim xs))))):=by
 refine bC Tryz.func181 rfl Tryz.ntmps181 rfl aA rfl fun N w c0 h0=>?_
 refine sq ?_;refine rl ?_;refine o1 ?_;refine nl ?_;refine sq ?_;refine bl ?_
 refine lp (γ:=List Nat) (fun zs=>bS [(0,.one (.t (sI false zs)))]) (fun _=>([]:List Ob).map some) (fun zs=>trim zs=trim xs∧zs.length≤xs.length) (fun zs=>zs.length) xs ⟨rfl,Nat.le_refl _⟩ (aG h0 [] _ _ (by decide) ⟨rfl,trivial⟩ rfl) fun zs hz=>?_
 refine sq ?_;refine sq ?_;refine rl ?_;(iterate 4 refine o1 ?_);refine WL.split (t:=6) rfl (fun h1=>?_) (fun h1=>?_)
 ·(iterate 4 refine o1 ?_);refine WL.cast (t:=10) (u':=.int .i64 ((zs.length-1:Nat):Int)) rfl (aH (by omega)) ?_
  refine o1 ?_;refine cW ([.v (.int .i64 ((nth zs (zs.length-1):Nat):Int))]) (fW zs (k:=zs.length-1) (by omega)) ?_
  refine o1 ?_;refine o1 ?_;refine nl ?_;refine bP rfl (fun h2=>?_) (fun h2=>?_)
  ·refine sk ?_;refine bl ?_;refine rl ?_;(iterate 4 refine o1 ?_);refine WL.cast (t:=18) (u':=.int .i64 ((zs.length-1:Nat):Int)) rfl (aH (by omega)) ?_
   refine o1 ?_;refine o1 ?_;refine nl ?_
   exact⟨zs.take (zs.length-1),by rw[List.length_take];omega,⟨(by rw[xJ (xs:=zs) (k:=zs.length) (by omega) (Nat.le_refl _) (by omega),List.take_length];exact hz.1),by rw[List.length_take];omega⟩,aG h0 [] _ _ (by decide) ⟨congrArg some (Wm (by omega)).symm,trivial⟩ rfl⟩
  refine ex ?_;refine sq ?_;refine rl ?_;refine o1 ?_;refine o1 ?_;refine nl ?_;refine rt ?_;refine en (.inl rfl) rfl (aO (.one (.id rfl))) (by decide) (fun h=>by cases h) ?_
  have hx:trim xs=zs:=by
   rw[←hz.1];have h9:=sF (xs:=zs) (k:=zs.length) (by omega) (Nat.le_refl _) (by omega)
   rwa[List.take_length]at h9
  rw[hx];rfl
 (iterate 7 refine bF ?_);refine o1 ?_;refine nl ?_;refine iH rfl ?_;refine ex ?_;refine sq ?_;refine rl ?_;refine o1 ?_;refine o1 ?_;refine nl ?_;refine rt ?_
 refine en (.inl rfl) rfl (aO (.one (.id rfl))) (by decide) (fun h=>by cases h) ?_
 have hx:trim xs=zs:=by
  have h9:zs=[]:=List.eq_nil_of_length_eq_zero (by omega)
  rw[←hz.1,h9];rfl
 rw[hx];rfl
theorem lP {xs:List Nat}(hx:xs.length≤1099511627776) (hl:Lim 4294967296 xs):aE false Tryz.prog 169 [] [.one (.t (sU false xs))] (aN (.one (.t (sI false (dg 65536 (vl 4294967296 xs)))))):=by
 refine bC Tryz.func169 rfl Tryz.ntmps169 rfl aA rfl fun N w c0 h0=>?_
 refine sq ?_;refine rl ?_;refine o1 ?_;refine nl ?_;refine sq ?_;refine rl ?_;refine o1 ?_;refine nl ?_;refine sq ?_;refine sq ?_;refine rl ?_;refine o1 ?_;refine nl ?_;refine bl ?_
 refine lp (γ:=Nat) (fun k=>bS [(0,.one (.t (sU false xs))),(3,.one (.sl 0 0 (2*k))),(4,.one (tv (.int .i64 ((k:Nat):Int))))]) (fun k=>[(⟨3,1,(eO (hv (xs.take k))).map .t⟩:Ob)].map some) (fun k=>k≤xs.length) (fun k=>xs.length-k) 0 (Nat.zero_le _) ((nr (i:=3) 0 3 1 rfl rfl rfl rfl).trans (aG h0 [0] _ _ (by decide) ⟨rfl,rfl,rfl,trivial⟩ ⟨aQ (l:=[]) rfl,rfl⟩)) fun k hk=>?_
 have hn:=hl.nth (by omega) k
 refine sq ?_;refine sq ?_;refine rl ?_;(iterate 4 refine o1 ?_);refine nl ?_;refine bP rfl (fun h1=>?_) (fun h1=>?_)
 ·refine sk ?_;refine sq ?_;refine bl ?_;refine rd [] (fun i=>[15].contains i) mixed ?_
  refine dv 0 ?_;refine dv 1 ?_;refine dv 2 ?_;refine dv 3 ?_;refine cM 4 ([.v (.int .u32 ((nth xs (k):Nat):Int))]) (rI xs (k:=k) (by omega)) ?_
  refine dv 5 ?_;refine WD.cast (t:=16) (u':=.int .u32 ((nth xs k%65536:Nat):Int)) rfl (aH (mE _ 65536)) ?_;refine dv 6 ?_;refine dv 7 ?_;refine dv 8 ?_;refine dv 9 ?_
  refine cM 10 ([.v (.int .u32 ((nth xs (k):Nat):Int))]) (rI xs (k:=k) (by omega)) ?_
  refine dv 11 ?_ (hC:=(iT 65536 (by omega) (by simp only[jH];omega)))
  refine WD.cast (t:=22) (u':=.int .u32 ((nth xs k/65536:Nat):Int)) rfl (aH (gC _ 65536)) ?_;refine dv 12 ?_;refine eZ (key:=1) 13 (by kernel_rfl) rfl rfl aA rfl trivial ?_
  refine EO (j:=2) 14 rfl aA rfl rfl rfl (.sl rfl (by rw[List.length_map,iU,rJ,List.length_take];omega)) (.sl rfl rfl rfl) rfl rfl (by omega) (by omega) rfl rfl (by kernel_rfl) rfl ?_
  refine cR 15 (by kernel_rfl) rfl rfl aA rfl (by trivial) ?_ (fun h=>by first | rfl | cases h)
  refine aJ ?_;refine rl ?_;(iterate 3 refine o1 ?_);refine nl ?_
  exact⟨k+1,by omega,by omega,aG h0 [2] _ _ (by decide) ⟨rfl,rfl,rfl,trivial⟩ ⟨nV rfl (iV _ [nth xs k%65536,nth xs k/65536]) (Pu (by omega)).symm,rfl⟩⟩
 refine ex ?_;refine sq ?_;refine rl ?_;refine WL.sub (Bh (i:=3) (zs':=hv xs) rfl rfl rfl (by rw[rJ,List.length_take];omega) (by rw[List.take_of_length_le (by omega)])) ?_
 refine o1 ?_;refine ca (Wl (by rw[rJ];omega)) EP ⟨a1 rfl,rfl⟩ (.one (.t (sI false (trim (hv xs))))) ?_
 refine o1 ?_;refine nl ?_;refine rt ?_;exact en (.inl rfl) rfl (aO (.one (.id rfl))) (by decide) (fun h=>by cases h) (by rw[EQ hl];rfl)
theorem Ca {xs:List Nat}(hx:xs.length≤4398046511104) (hl:Lim 65536 xs):aE true Tryz.prog 171 [] [.one (.t (sI false xs))] (aN (.one (.t (sU true (dg 4294967296 (vl 65536 xs)))))):=by
 refine bC Tryz.func171 rfl Tryz.ntmps171 rfl aA rfl fun N w c0 h0=>?_
 refine sq ?_;refine rl ?_;refine o1 ?_;refine nl ?_;refine sq ?_;refine rl ?_;refine o1 ?_;refine nl ?_;refine sq ?_;refine rl ?_;refine o1 ?_
 refine ca (Wl hx) EP ⟨a1 rfl,rfl⟩ (.one (.t (sI false (trim xs)))) ?_;refine o1 ?_;refine nl ?_;refine sq ?_;refine sq ?_;have htl:=dA xs
 have hlt:=hl.trim
 generalize hY:trim xs=ys at htl hlt;refine rl ?_;refine o1 ?_;refine nl ?_;refine bl ?_
 refine lp (γ:=Nat) (fun k=>bS [(0,.one (.t (sI false ys))),(3,.one (.sl 0 0 k)),(4,.one (tv (.int .i64 ((2*k:Nat):Int))))]) (fun k=>[(⟨109,1,(aV (lb (ys.take (2*k)))).map .t⟩:Ob)].map some) (fun k=>2*k≤ys.length+1) (fun k=>ys.length+1-2*k) 0 (Nat.zero_le _) ((nr (i:=3) 0 109 1 rfl rfl rfl rfl).trans (aG h0 [0] _ _ (by decide) ⟨rfl,rfl,rfl,trivial⟩ ⟨aQ (l:=[]) rfl,rfl⟩)) fun k hk=>?_
 have hn:=hlt.nth (by omega) (2*k)
 have hn2:=hlt.nth (by omega) (2*k+1)
 refine sq ?_;refine sq ?_;refine rl ?_;(iterate 4 refine o1 ?_);refine nl ?_;refine bP rfl (fun h1=>?_) (fun h1=>?_)
 ·refine sk ?_;refine sq ?_;refine bl ?_;refine sq ?_;refine rl ?_;refine o1 ?_;refine nl ?_;refine sq ?_;refine sq ?_;refine rl ?_;refine o1 ?_;refine o1 ?_
  refine WL.cast (t:=15) (u':=.int .i64 ((2*k+1:Nat):Int)) rfl (aH (by omega)) ?_
  (iterate 3 refine o1 ?_);refine nl ?_;refine bP rfl (fun h2=>?_) (fun h2=>?_)
  ·refine rl ?_;(iterate 3 refine o1 ?_);refine WL.cast (t:=21) (u':=.int .i64 ((2*k+1:Nat):Int)) rfl (aH (by omega)) ?_
   refine o1 ?_;refine cW ([.v (.int .i64 ((nth ys (2*k+1):Nat):Int))]) (fW ys (k:=2*k+1) (by omega)) ?_
   refine o1 ?_;refine nl ?_;refine rl ?_;(iterate 4 refine o1 ?_);refine cW ([.v (.int .i64 ((nth ys (2*k):Nat):Int))]) (fW ys (k:=2*k) (by omega)) ?_
   (iterate 5 refine o1 ?_);refine WL.cast (t:=33) (u':=.int .u32 ((nth ys (2*k)+65536*nth ys (2*k+1):Nat):Int)) rfl (aH (by omega)) ?_
   refine bs 1 ?_;refine kK (j:=2) aA rfl rfl rfl rfl (.sl rfl (by rw[List.length_map,iW,jS,List.length_take];omega)) (.sl rfl rfl rfl) rfl rfl rfl (by omega) (by omega) ?_
   refine o1 ?_;refine nl ?_;refine rl ?_;(iterate 3 refine o1 ?_);refine nl ?_
   exact⟨k+1,by omega,by omega,aG h0 [2] _ _ (by decide) ⟨rfl,rfl,rfl,trivial⟩ ⟨Wn rfl (Kw _ [nth ys (2*k)+65536*nth ys (2*k+1)]) (zW (by omega)).symm,rfl⟩⟩
  have hz:=eW (l:=ys) (k:=2*k+1) (by omega)
  refine sk ?_;refine rl ?_;(iterate 4 refine o1 ?_);refine cW ([.v (.int .i64 ((nth ys (2*k):Nat):Int))]) (fW ys (k:=2*k) (by omega)) ?_
  (iterate 5 refine o1 ?_);refine WL.cast (t:=33) (u':=.int .u32 ((nth ys (2*k)+65536*nth ys (2*k+1):Nat):Int)) rfl (aH (by omega)) ?_
  refine bs 1 ?_;refine kK (j:=2) aA rfl rfl rfl rfl (.sl rfl (by rw[List.length_map,iW,jS,List.length_take];omega)) (.sl rfl rfl rfl) rfl rfl rfl (by omega) (by omega) ?_
  refine o1 ?_;refine nl ?_;refine rl ?_;(iterate 3 refine o1 ?_);refine nl ?_
  exact⟨k+1,by omega,by omega,aG h0 [2] _ _ (by decide) ⟨rfl,rfl,rfl,trivial⟩ ⟨Wn rfl (Kw _ [nth ys (2*k)+65536*nth ys (2*k+1)]) (zW (by omega)).symm,rfl⟩⟩
 refine ex ?_;refine sq ?_;refine rl ?_;refine o1 ?_;refine o1 ?_;refine nl ?_;refine rt ?_
 exact en (.inl rfl) rfl (aO (.one (.sl (trs:=aV (lb ys)) rfl rfl (by rw[List.take_of_length_le (l:=ys) (by omega),List.take_of_length_le (by simp[iW,jS];omega)]) (by rw[iW,jS];omega)))) (by decide) (fun _=>.inl ⟨rfl,fI _⟩) (by rw[←zX,fO (by omega) hl,hY];unfold sU;rw[show k=(lb ys).length by rw[jS];omega];rfl)
theorem qH {xs:List Nat}{k:Nat}:aE true Tryz.prog 170 [] [.one (.t (sI false xs)),.one (tv (.int .i64 ((k:Nat):Int)))] (aN (.one (tv (.int .i64 ((nth xs k:Nat):Int))))):=by
 refine bC Tryz.func170 rfl Tryz.ntmps170 rfl aA rfl fun N w c0 h0=>?_
 refine sq ?_;refine rl ?_;refine o1 ?_;refine nl ?_;refine sq ?_;refine sq ?_;refine rl ?_;(iterate 4 refine o1 ?_);refine nl ?_;refine bP rfl (fun h1=>?_) (fun h1=>?_)
 ·refine sq ?_;refine rl ?_;(iterate 3 refine o1 ?_);refine cW ([.v (.int .i64 ((nth xs (k):Nat):Int))]) (fW xs (k:=k) (by omega)) ?_
  refine o1 ?_;refine nl ?_;refine rt ?_;refine en (.inl rfl) rfl (aO (bL _)) (by decide) (fun _=>trivial) ?_
  rfl
 refine sk ?_;refine sq ?_;refine rl ?_;refine o1 ?_;refine nl ?_;refine rt ?_;refine en (.inl rfl) rfl (aO (bL _)) (by decide) (fun _=>trivial) ?_
 rw[eW (by omega)];rfl
theorem HR {xs:List Nat}(hx:xs.length≤1099511627776) (hlx:Lim 4294967296 xs):aE true Tryz.prog 147 [] [.one (.t (sU false xs))] (aN (.one (.t (sU true (dg 4294967296 (vl 4294967296 xs)))))):=by
 refine bC Tryz.func147 rfl Tryz.ntmps147 rfl aA rfl fun N w c0 h0=>?_
 have hd:=eQ (v:=vl 4294967296 xs) (L:=xs.length) (by rw[fO (by omega) hlx];exact dA _)
 have hl9:=aS (B:=65536) (by omega) (vl 4294967296 xs)
 refine sq ?_;refine rl ?_;refine o1 ?_;refine nl ?_;refine sq ?_;refine rl ?_;refine o1 ?_
 refine ca (lP hx hlx) vY ⟨a1 rfl,rfl⟩ (.one (.t (sI false (dg 65536 (vl 4294967296 xs))))) ?_;refine iI 0 (Ca (by omega) (by assumption)) Tg ⟨a1 rfl,rfl⟩ ?_
 refine o1 ?_;refine nl ?_;refine rt ?_
 exact en (.inl rfl) rfl (aO (.one (.sl (trs:=aV (dg 4294967296 (vl 65536 (dg 65536 (vl 4294967296 xs))))) rfl rfl (bB _) (aY _)))) (by decide) (fun _=>.inl ⟨rfl,fI _⟩) (by rw[cF (by omega)];rfl)
theorem Kx {xs ys:List Nat}(hx:xs.length≤1099511627776) (hlx:Lim 4294967296 xs) (hy:ys.length≤1099511627776) (hly:Lim 4294967296 ys):aE true Tryz.prog 167 [] [.one (.t (sU false xs)),.one (.t (sU false ys))] (aN (.one (tv (.int .i64 (((vl 4294967296 xs:Nat):Int)-((vl 4294967296 ys:Nat):Int)).sign)))):=by
 refine bC Tryz.func167 rfl Tryz.ntmps167 rfl aA rfl fun N w c0 h0=>?_
 refine sq ?_;refine rl ?_;refine o1 ?_;refine nl ?_;refine sq ?_;refine rl ?_;refine o1 ?_
 refine ca (lP hx hlx) vY ⟨a1 rfl,rfl⟩ (.one (.t (sI false (dg 65536 (vl 4294967296 xs))))) ?_;refine o1 ?_
 refine ca (lP hy hly) vY ⟨a1 rfl,rfl⟩ (.one (.t (sI false (dg 65536 (vl 4294967296 ys))))) ?_;refine o1 ?_;refine o1 ?_;refine nl ?_;refine sq ?_;refine sq ?_
 have hdx:=eQ (v:=vl 4294967296 xs) (L:=xs.length) (by rw[fO (by omega) hlx];exact dA _)
 have hdy:=eQ (v:=vl 4294967296 ys) (L:=ys.length) (by rw[fO (by omega) hly];exact dA _)
 have hX:=aS (B:=65536) (by omega) (vl 4294967296 xs)
 have hY:=aS (B:=65536) (by omega) (vl 4294967296 ys)
 have hvX:=cF (B:=65536) (by omega) (vl 4294967296 xs)
 have hvY:=cF (B:=65536) (by omega) (vl 4294967296 ys)
 generalize dg 65536 (vl 4294967296 xs)=X at hdx hX hvX⊢;generalize dg 65536 (vl 4294967296 ys)=Y at hdy hY hvY⊢;refine rl ?_;(iterate 5 refine o1 ?_)
 refine WL.cast (t:=16) (u':=.int .i64 ((max X.length Y.length:Nat):Int)) rfl (aH (by omega)) ?_
 refine o1 ?_;refine o1 ?_;refine nl ?_;refine bl ?_
 refine lp (γ:=Nat) (fun k=>bS [(5,.one (.t (sI false X))),(6,.one (.t (sI false Y))),(7,.one (tv (.int .i64 ((k:Nat)-1))))]) (fun k=>([]:List Ob).map some) (fun k=>(∀j,k≤j→nth X j=nth Y j)∧k≤max X.length Y.length) (fun k=>k) (max X.length Y.length) ⟨fun j hj=>by rw[eW (by omega),eW (by omega)],Nat.le_refl _⟩ (aG h0 [] _ _ (by decide) ⟨rfl,rfl,rfl,trivial⟩ rfl) fun k hk=>?_
 refine sq ?_;refine sq ?_;refine rl ?_;refine o1 ?_;refine o1 ?_;refine nl ?_;refine bP rfl (fun h1=>?_) (fun h1=>?_)
 ·refine sk ?_;refine sq ?_;refine bl ?_;refine sq ?_;refine sq ?_;refine rl ?_;refine o1 ?_;refine o1 ?_
  refine WL.cast (t:=23) (u':=.int .i64 ((k-1:Nat):Int)) rfl (aH (by omega)) ?_
  refine ca (qH) qI ⟨a1 rfl,a1 rfl,rfl⟩ (.one (tv (.int .i64 ((nth X (k-1):Nat):Int)))) ?_;refine o1 ?_;refine o1 ?_
  refine WL.cast (t:=26) (u':=.int .i64 ((k-1:Nat):Int)) rfl (aH (by omega)) ?_
  refine ca (qH) qI ⟨a1 rfl,a1 rfl,rfl⟩ (.one (tv (.int .i64 ((nth Y (k-1):Nat):Int)))) ?_;refine o1 ?_;refine nl ?_;refine bP rfl (fun h2=>?_) (fun h2=>?_)
  ·refine sq ?_;refine rl ?_;refine o1 ?_;refine nl ?_;refine rt ?_;refine en (.inl rfl) rfl (aO (bL _)) (by decide) (fun _=>trivial) (congrArg (fun z=>FV.one (tv (.int .i64 z))) ?_)
   have he:=Jh (X:=X) (Y:=Y) (k:=k-1) hX (fun j hj=>hk.1 j (by omega)) (by omega)
   rw[hvX,hvY]at he;rw[Int.sign_eq_neg_one_of_neg (by omega)]
  refine sk ?_;refine sq ?_;refine rl ?_;refine o1 ?_;refine o1 ?_;refine WL.cast (t:=30) (u':=.int .i64 ((k-1:Nat):Int)) rfl (aH (by omega)) ?_
  refine ca (qH) qI ⟨a1 rfl,a1 rfl,rfl⟩ (.one (tv (.int .i64 ((nth X (k-1):Nat):Int)))) ?_;refine o1 ?_;refine o1 ?_
  refine WL.cast (t:=33) (u':=.int .i64 ((k-1:Nat):Int)) rfl (aH (by omega)) ?_
  refine ca (qH) qI ⟨a1 rfl,a1 rfl,rfl⟩ (.one (tv (.int .i64 ((nth Y (k-1):Nat):Int)))) ?_;refine o1 ?_;refine nl ?_;refine bP rfl (fun h3=>?_) (fun h3=>?_)
  ·refine sq ?_;refine rl ?_;refine o1 ?_;refine nl ?_;refine rt ?_;refine en (.inl rfl) rfl (aO (bL _)) (by decide) (fun _=>trivial) (congrArg (fun z=>FV.one (tv (.int .i64 z))) ?_)
   have he:=Jh (X:=Y) (Y:=X) (k:=k-1) hY (fun j hj=>(hk.1 j (by omega)).symm) (by omega)
   rw[hvX,hvY]at he;rw[Int.sign_eq_one_of_pos (by omega)]
  refine sk ?_;refine rl ?_;(iterate 3 refine o1 ?_);refine nl ?_
  exact⟨k-1,by omega,⟨fun j hj=>(Nat.eq_or_lt_of_le hj).elim (fun h9=>by rw[←h9];omega) (fun h9=>hk.1 j (by omega)),by omega⟩,aG h0 [] _ _ (by decide) ⟨rfl,rfl,congrArg (fun z=>some (FV.one (tv (.int .i64 z)))) (by omega),trivial⟩ rfl⟩
 refine ex ?_;refine sq ?_;refine rl ?_;refine o1 ?_;refine nl ?_;refine rt ?_
 refine en (.inl rfl) rfl (aO (bL _)) (by decide) (fun _=>trivial) (congrArg (fun z=>FV.one (tv (.int .i64 z))) ?_)
 have he:=Wo (fun j=>hk.1 j (by omega))
 rw[hvX,hvY]at he;rw[he,Int.sub_self];rfl
theorem MX {xs ys:List Nat}(hx:xs.length≤1099511627776) (hlx:Lim 4294967296 xs) (hy:ys.length≤1099511627776) (hly:Lim 4294967296 ys):aE true Tryz.prog 139 [] [.one (.t (sU false xs)),.one (.t (sU false ys))] (aN (.one (.t (sU true (dg 4294967296 (vl 4294967296 xs+vl 4294967296 ys)))))):=by
 refine bC Tryz.func139 rfl Tryz.ntmps139 rfl aA rfl fun N w c0 h0=>?_
 refine sq ?_;refine rl ?_;refine o1 ?_;refine nl ?_;refine sq ?_;refine rl ?_;refine o1 ?_
 refine ca (lP hx hlx) vY ⟨a1 rfl,rfl⟩ (.one (.t (sI false (dg 65536 (vl 4294967296 xs))))) ?_;refine o1 ?_
 refine ca (lP hy hly) vY ⟨a1 rfl,rfl⟩ (.one (.t (sI false (dg 65536 (vl 4294967296 ys))))) ?_;refine o1 ?_;refine o1 ?_;refine nl ?_;refine sq ?_
 have hdx:=eQ (v:=vl 4294967296 xs) (L:=xs.length) (by rw[fO (by omega) hlx];exact dA _)
 have hdy:=eQ (v:=vl 4294967296 ys) (L:=ys.length) (by rw[fO (by omega) hly];exact dA _)
 have hX:=aS (B:=65536) (by omega) (vl 4294967296 xs)
 have hY:=aS (B:=65536) (by omega) (vl 4294967296 ys)
 have hvX:=cF (B:=65536) (by omega) (vl 4294967296 xs)
 have hvY:=cF (B:=65536) (by omega) (vl 4294967296 ys)
 generalize dg 65536 (vl 4294967296 xs)=X at hdx hX hvX⊢;generalize dg 65536 (vl 4294967296 ys)=Y at hdy hY hvY⊢;refine rl ?_;refine o1 ?_;refine nl ?_;refine sq ?_;refine rl ?_
 refine o1 ?_;refine nl ?_;refine sq ?_;refine sq ?_;refine rl ?_;refine o1 ?_;refine nl ?_;refine bl ?_
 refine lp (γ:=Nat×Nat×List Nat) (fun s=>bS [(5,.one (.t (sI false X))),(6,.one (.t (sI false Y))),(7,.one (.sl 0 0 s.1)),(8,.one (tv (.int .i64 ((s.2.1:Nat):Int)))),(9,.one (tv (.int .i64 ((s.1:Nat):Int))))]) (fun s=>[(⟨3,1,(eO s.2.2).map .t⟩:Ob)].map some) (fun s=>s.2.2.length=s.1∧Lim 65536 s.2.2∧vl 65536 s.2.2+65536^s.1*s.2.1=vl 65536 (X.take s.1)+vl 65536 (Y.take s.1)∧s.2.1≤1∧(s.1≤max X.length Y.length∨s.1=max X.length Y.length+1∧s.2.1=0)) (fun s=>max X.length Y.length+1-s.1) (0,0,[]) ⟨rfl,Lim.nil,rfl,Nat.zero_le _,.inl (Nat.zero_le _)⟩ ((nr (i:=7) 0 3 1 rfl rfl rfl rfl).trans (aG h0 [0] _ _ (by decide) ⟨rfl,rfl,rfl,rfl,rfl,trivial⟩ ⟨aQ (l:=[]) rfl,rfl⟩)) ?_
 rintro⟨k,cr,os⟩ ⟨hos,hol,hv,hc1,hkm⟩;dsimp only at hos hol hv hc1 hkm⊢;have hn1:=hX.nth (by omega) k
 have hn2:=hY.nth (by omega) k
 refine sq ?_;refine sq ?_;refine rl ?_;(iterate 6 refine o1 ?_);refine WL.cast (t:=20) (u':=.int .i64 ((max X.length Y.length:Nat):Int)) rfl (aH (by omega)) ?_
 refine o1 ?_;refine o1 ?_;refine WL.split (t:=22) rfl (fun h1=>?_) (fun h1=>?_)
 ·refine bF ?_;refine bF ?_;refine o1 ?_;refine nl ?_;refine gL rfl ?_;refine sk ?_;refine sq ?_;refine bl ?_;refine sq ?_;refine rl ?_;refine o1 ?_;refine o1 ?_
  refine ca (qH) qI ⟨a1 rfl,a1 rfl,rfl⟩ (.one (tv (.int .i64 ((nth X (k):Nat):Int)))) ?_;refine o1 ?_;refine o1 ?_
  refine ca (qH) qI ⟨a1 rfl,a1 rfl,rfl⟩ (.one (tv (.int .i64 ((nth Y (k):Nat):Int)))) ?_;(iterate 3 refine o1 ?_)
  refine WL.cast (t:=36) (u':=.int .i64 ((nth X k+nth Y k+cr:Nat):Int)) rfl (aH (by omega)) ?_
  refine o1 ?_;refine nl ?_;refine sq ?_;refine rl ?_;(iterate 3 refine o1 ?_)
  refine WL.cast (t:=39) (u':=.int .i64 (((nth X k+nth Y k+cr)%65536:Nat):Int)) rfl (aH (mE _ 65536)) ?_;refine bs 1 ?_
  refine kK (j:=2) aA rfl rfl rfl rfl (.sl rfl (by rw[List.length_map,iU,hos];omega)) (.sl rfl rfl rfl) rfl rfl rfl (by omega) (by omega) ?_
  refine o1 ?_;refine nl ?_;refine rl ?_;refine o1 ?_;refine o1 ?_ (hC:=(iT 65536 (by omega) (by simp only[jH];omega)))
  refine WL.cast (t:=43) (u':=.int .i64 (((nth X k+nth Y k+cr)/65536:Nat):Int)) rfl (aH (gC _ 65536)) ?_;refine o1 ?_;refine nl ?_;refine rl ?_;(iterate 3 refine o1 ?_)
  refine nl ?_;have hst:=Ky hos hv
  have hz1:X.length≤k→nth X k=0:=fun h=>eW (by omega)
  have hz2:Y.length≤k→nth Y k=0:=fun h=>eW (by omega)
  exact⟨(k+1,(nth X k+nth Y k+cr)/65536,os++[(nth X k+nth Y k+cr)%65536]),by dsimp only;omega,⟨by simp[hos],hol.append (Lim.cons (Nat.mod_lt _ (by omega)) Lim.nil),hst,by dsimp only;omega,by dsimp only;omega⟩,aG h0 [2] _ _ (by decide) ⟨rfl,rfl,rfl,rfl,rfl,trivial⟩ ⟨nV rfl (iV _ [(nth X k+nth Y k+cr)%65536]) rfl,rfl⟩⟩
 (iterate 3 refine o1 ?_);refine nl ?_;refine bP rfl (fun h2=>?_) (fun h2=>?_)
 ·refine sk ?_;refine sq ?_;refine bl ?_;refine sq ?_;refine rl ?_;refine o1 ?_;refine o1 ?_
  refine ca (qH) qI ⟨a1 rfl,a1 rfl,rfl⟩ (.one (tv (.int .i64 ((nth X (k):Nat):Int)))) ?_;refine o1 ?_;refine o1 ?_
  refine ca (qH) qI ⟨a1 rfl,a1 rfl,rfl⟩ (.one (tv (.int .i64 ((nth Y (k):Nat):Int)))) ?_;(iterate 3 refine o1 ?_)
  refine WL.cast (t:=36) (u':=.int .i64 ((nth X k+nth Y k+cr:Nat):Int)) rfl (aH (by omega)) ?_
  refine o1 ?_;refine nl ?_;refine sq ?_;refine rl ?_;(iterate 3 refine o1 ?_)
  refine WL.cast (t:=39) (u':=.int .i64 (((nth X k+nth Y k+cr)%65536:Nat):Int)) rfl (aH (mE _ 65536)) ?_;refine bs 1 ?_
  refine kK (j:=2) aA rfl rfl rfl rfl (.sl rfl (by rw[List.length_map,iU,hos];omega)) (.sl rfl rfl rfl) rfl rfl rfl (by omega) (by omega) ?_
  refine o1 ?_;refine nl ?_;refine rl ?_;refine o1 ?_;refine o1 ?_ (hC:=(iT 65536 (by omega) (by simp only[jH];omega)))
  refine WL.cast (t:=43) (u':=.int .i64 (((nth X k+nth Y k+cr)/65536:Nat):Int)) rfl (aH (gC _ 65536)) ?_;refine o1 ?_;refine nl ?_;refine rl ?_;(iterate 3 refine o1 ?_)
  refine nl ?_;have hst:=Ky hos hv
  have hz1:X.length≤k→nth X k=0:=fun h=>eW (by omega)
  have hz2:Y.length≤k→nth Y k=0:=fun h=>eW (by omega)
  exact⟨(k+1,(nth X k+nth Y k+cr)/65536,os++[(nth X k+nth Y k+cr)%65536]),by dsimp only;omega,⟨by simp[hos],hol.append (Lim.cons (Nat.mod_lt _ (by omega)) Lim.nil),hst,by dsimp only;omega,by dsimp only;omega⟩,aG h0 [2] _ _ (by decide) ⟨rfl,rfl,rfl,rfl,rfl,trivial⟩ ⟨nV rfl (iV _ [(nth X k+nth Y k+cr)%65536]) rfl,rfl⟩⟩
 refine ex ?_;refine sq ?_;refine rl ?_;have hc0:cr=0:=by omega
 rw[hc0,Nat.mul_zero,Nat.add_zero,bU 65536 (by omega),bU 65536 (by omega),hvX,hvY]at hv
 refine WL.sub (Bh (i:=7) (zs':=os) rfl rfl rfl (by omega) rfl) ?_
 refine o1 ?_;refine iI 1 (Ca (by omega) (by assumption)) Tg ⟨a1 rfl,rfl⟩ ?_
 refine o1 ?_;refine nl ?_;refine rt ?_
 exact en (.inl rfl) rfl (aO (.one (.sl (trs:=aV (dg 4294967296 (vl 65536 os))) rfl rfl (bB _) (aY _)))) (by decide) (fun _=>.inl ⟨rfl,fI _⟩) (by rw[hv];rfl)
theorem Wp {xs ys:List Nat}(hx:xs.length≤1099511627776) (hlx:Lim 4294967296 xs) (hy:ys.length≤1099511627776) (hly:Lim 4294967296 ys):aE true Tryz.prog 140 [] [.one (.t (sU false xs)),.one (.t (sU false ys))] (aN (.tup [.one (.t (sU true (dg 4294967296 (vl 4294967296 xs-vl 4294967296 ys)))),.one (tv (.int .i64 (if vl 4294967296 xs<vl 4294967296 ys then 2 else 0)))])):=by
 refine bC Tryz.func140 rfl Tryz.ntmps140 rfl aA rfl fun N w c0 h0=>?_
 refine sq ?_;refine rl ?_;refine o1 ?_;refine o1 ?_;refine nl ?_;refine sq ?_;refine sq ?_;refine rl ?_;refine o1 ?_;refine o1 ?_
 refine ca (Kx hx hlx hy hly) Th ⟨a1 rfl,a1 rfl,rfl⟩ (.one (tv (.int .i64 (((vl 4294967296 xs:Nat):Int)-((vl 4294967296 ys:Nat):Int)).sign))) ?_;refine o1 ?_;refine nl ?_
 refine bP rfl (fun h1=>?_) (fun h1=>?_)
 ·refine sq ?_;refine rl ?_;refine o1 ?_;refine o1 ?_;refine nl ?_;refine rt ?_;have hlt:=MY h1
  exact en (.inl rfl) rfl (Dn (.cons (.one (.nil (t:=109) (z:=1))) (.cons (bL _) .nil))) (by decide) (fun _=>⟨.inl ⟨rfl,trivial⟩,trivial,trivial⟩) (by rw[Nat.sub_eq_zero_of_le (Nat.le_of_lt hlt),if_pos hlt];rfl)
 refine sk ?_;refine sq ?_;refine rl ?_;refine o1 ?_;refine ca (lP hx hlx) vY ⟨a1 rfl,rfl⟩ (.one (.t (sI false (dg 65536 (vl 4294967296 xs))))) ?_;refine o1 ?_
 refine ca (lP hy hly) vY ⟨a1 rfl,rfl⟩ (.one (.t (sI false (dg 65536 (vl 4294967296 ys))))) ?_;refine o1 ?_;refine o1 ?_;refine nl ?_;refine sq ?_
 have hge:vl 4294967296 ys≤vl 4294967296 xs:=MZ h1
 have hyx:=dE (B:=65536) (by omega) hge
 have hdx:=eQ (v:=vl 4294967296 xs) (L:=xs.length) (by rw[fO (by omega) hlx];exact dA _)
 have hdy:=eQ (v:=vl 4294967296 ys) (L:=ys.length) (by rw[fO (by omega) hly];exact dA _)
 have hX:=aS (B:=65536) (by omega) (vl 4294967296 xs)
 have hY:=aS (B:=65536) (by omega) (vl 4294967296 ys)
 have hvX:=cF (B:=65536) (by omega) (vl 4294967296 xs)
 have hvY:=cF (B:=65536) (by omega) (vl 4294967296 ys)
 generalize dg 65536 (vl 4294967296 xs)=X at hdx hX hvX hyx⊢;generalize dg 65536 (vl 4294967296 ys)=Y at hdy hY hvY hyx⊢;refine rl ?_;refine o1 ?_;refine nl ?_;refine sq ?_;refine rl ?_
 refine o1 ?_;refine nl ?_;refine sq ?_;refine sq ?_;refine rl ?_;refine o1 ?_;refine nl ?_;refine bl ?_
 refine lp (γ:=Nat×Nat×List Nat) (fun s=>bS [(6,.one (.t (sI false X))),(7,.one (.t (sI false Y))),(8,.one (.sl 0 0 s.1)),(9,.one (tv (.int .i64 ((s.2.1:Nat):Int)))),(10,.one (tv (.int .i64 ((s.1:Nat):Int))))]) (fun s=>[(⟨3,1,(eO s.2.2).map .t⟩:Ob)].map some) (fun s=>s.2.2.length=s.1∧Lim 65536 s.2.2∧vl 65536 s.2.2+vl 65536 (Y.take s.1)=vl 65536 (X.take s.1)+65536^s.1*s.2.1∧s.2.1≤1∧s.1≤X.length) (fun s=>X.length-s.1) (0,0,[]) ⟨rfl,Lim.nil,rfl,Nat.zero_le _,Nat.zero_le _⟩ ((nr (i:=8) 0 3 1 rfl rfl rfl rfl).trans (aG h0 [0] _ _ (by decide) ⟨rfl,rfl,rfl,rfl,rfl,trivial⟩ ⟨aQ (l:=[]) rfl,rfl⟩)) ?_
 rintro⟨k,br,os⟩ ⟨hos,hol,hv,hc1,hkm⟩;dsimp only at hos hol hv hc1 hkm⊢;have hn1:=hX.nth (by omega) k
 have hn2:=hY.nth (by omega) k
 refine sq ?_;refine sq ?_;refine rl ?_;(iterate 4 refine o1 ?_);refine nl ?_;refine bP rfl (fun h2=>?_) (fun h2=>?_)
 ·refine sk ?_;refine sq ?_;refine bl ?_;refine sq ?_;refine rd [] (fun i=>[10].contains i) mixed ?_
  refine dv 0 ?_;refine dv 1 ?_;refine dv 2 ?_;refine cM 3 ([.v (.int .i64 ((nth X (k):Nat):Int))]) (fW X (k:=k) (by omega)) ?_
  refine dv 4 ?_;refine dv 5 ?_;refine dv 8 ?_;refine aF 6 rfl (qH) qI ⟨a1 rfl,a1 rfl,rfl⟩ (.one (tv (.int .i64 ((nth Y (k):Nat):Int)))) ?_;refine df 7 ?_;refine df 9 ?_
  refine cR 10 (by kernel_rfl) rfl rfl aA rfl (by trivial) ?_ (fun h=>by first | rfl | cases h)
  refine aJ ?_;refine sq ?_;refine rl ?_;refine o1 ?_;refine nl ?_;refine sq ?_;refine sq ?_;refine rl ?_;refine o1 ?_;refine o1 ?_;refine nl ?_
  refine bP rfl (fun h3=>?_) (fun h3=>?_)
  ·refine sq ?_;refine rl ?_;(iterate 3 refine o1 ?_);refine nl ?_;refine rl ?_;refine o1 ?_;refine nl ?_;refine rl ?_
   refine WL.cast (t:=11) (u':=.int .i64 (((nth X k+65536-nth Y k-br:Nat)):Int)) rfl (aH (by omega)) ?_
   refine o1 ?_;refine o1 ?_;refine bs 1 ?_
   refine kK (j:=2) aA rfl rfl rfl rfl (.sl rfl (by rw[List.length_map,iU,hos];omega)) (.sl rfl rfl rfl) rfl rfl rfl (by omega) (by omega) ?_
   refine o1 ?_;refine nl ?_;refine rl ?_;(iterate 3 refine o1 ?_);refine nl ?_;have hst:=Kz (d:=nth X k+65536-nth Y k-br) (br':=1) hos hv (by omega)
   exact⟨(k+1,1,os++[nth X k+65536-nth Y k-br]),by dsimp only;omega,⟨by simp[hos],hol.append (Lim.cons (by omega) Lim.nil),hst,by dsimp only;omega,by dsimp only;omega⟩,aG h0 [2] _ _ (by decide) ⟨rfl,rfl,rfl,rfl,rfl,trivial⟩ ⟨nV rfl (iV _ [nth X k+65536-nth Y k-br]) rfl,rfl⟩⟩
  refine sk ?_;refine rl ?_;refine WL.cast (t:=11) (u':=.int .i64 (((nth X k-nth Y k-br:Nat)):Int)) rfl (aH (by omega)) ?_
  refine o1 ?_;refine o1 ?_;refine bs 1 ?_
  refine kK (j:=2) aA rfl rfl rfl rfl (.sl rfl (by rw[List.length_map,iU,hos];omega)) (.sl rfl rfl rfl) rfl rfl rfl (by omega) (by omega) ?_
  refine o1 ?_;refine nl ?_;refine rl ?_;(iterate 3 refine o1 ?_);refine nl ?_;have hst:=Kz (d:=nth X k-nth Y k-br) (br':=0) hos hv (by omega)
  exact⟨(k+1,0,os++[nth X k-nth Y k-br]),by dsimp only;omega,⟨by simp[hos],hol.append (Lim.cons (by omega) Lim.nil),hst,by dsimp only;omega,by dsimp only;omega⟩,aG h0 [2] _ _ (by decide) ⟨rfl,rfl,rfl,rfl,rfl,trivial⟩ ⟨nV rfl (iV _ [nth X k-nth Y k-br]) rfl,rfl⟩⟩
 refine ex ?_;refine sq ?_;refine rl ?_;have hoo:=fN hol
 rw[hos]at hoo;rw[bU 65536 (l:=X) (by omega),bU 65536 (l:=Y) (by omega),hvX,hvY]at hv
 have hb0:br=0:=by
  rcases Nat.eq_zero_or_pos br with h0 | h0
  ·exact h0
  have h1:br=1:=by omega
  rw[h1,Nat.mul_one,show k=X.length by omega]at hv
  rw[show k=X.length by omega]at hoo
  omega
 rw[hb0,Nat.mul_zero,Nat.add_zero]at hv;have he:vl 65536 os=vl 4294967296 xs-vl 4294967296 ys:=by omega
 refine WL.sub (Bh (i:=8) (zs':=os) rfl rfl rfl (by omega) rfl) ?_
 refine o1 ?_;refine iI 1 (Ca (by omega) (by assumption)) Tg ⟨a1 rfl,rfl⟩ ?_
 refine o1 ?_;refine o1 ?_;refine nl ?_;refine rt ?_
 exact en (.inl rfl) rfl (Dn (.cons (.one (.sl (trs:=aV (dg 4294967296 (vl 65536 os))) rfl rfl (bB _) (aY _))) (.cons (bL _) .nil))) (by decide) (fun _=>⟨.inl ⟨rfl,fI _⟩,trivial,trivial⟩) (by rw[he,if_neg (by omega)];rfl)
theorem Cb {a:Zi}{k:Int}(ha:Zn a k):aE true Tryz.prog 133 [] [gF a] (aN (.one (tv (.bool (dK a.s a.x))))):=by
 refine bC Tryz.func133 rfl Tryz.ntmps133 rfl aA rfl fun N w c0 h0=>?_
 have hal:=ha.2.1
 refine sq ?_;refine rl ?_;refine bx 0 ?_;refine o1 ?_;refine nl ?_;refine sq ?_;refine sq ?_;refine rl ?_;refine o1 ?_;refine ld ?_;refine o1 ?_;refine o1 ?_;refine nl ?_
 refine bP rfl (fun h1=>?_) (fun h1=>?_)
 ·refine sq ?_;refine rl ?_;refine o1 ?_;refine ld ?_;refine WL.splitb (t:=8) rfl (fun h2=>?_) (fun h2=>?_)
  ·refine o1 ?_;refine o1 ?_;refine nl ?_;refine rt ?_;refine en (.inl rfl) rfl (aO (bL _)) (by decide) (fun _=>trivial) (congrArg (fun b=>FV.one (tv (.bool b))) ?_)
   rw[nW (by omega)];simp_all
  refine o1 ?_;refine o1 ?_;refine nl ?_;refine rt ?_;refine en (.inl rfl) rfl (aO (bL _)) (by decide) (fun _=>trivial) (congrArg (fun b=>FV.one (tv (.bool b))) ?_)
  rw[nW (by omega)];simp_all
 refine sk ?_;refine sq ?_;refine rl ?_;refine o1 ?_;refine ld ?_;refine o1 ?_;refine ld ?_;refine o1 ?_;refine o1 ?_
 refine WL.cast (t:=15) (u':=.int .i64 ((a.x.length-1:Nat):Int)) rfl (aH (by omega)) ?_
 refine o1 ?_;refine cW ([.v (.int .u32 ((nth a.x (a.x.length-1):Nat):Int))]) (rI a.x (k:=a.x.length-1) (by omega)) ?_
 refine o1 ?_;refine o1 ?_;refine nl ?_;refine rt ?_;refine en (.inl rfl) rfl (aO (bL _)) (by decide) (fun _=>trivial) (congrArg (fun b=>FV.one (tv (.bool b))) ?_)
 exact(vZ rfl (by omega)).symm
theorem iD {a:Zi}{k:Int}(ha:Zn a k):aE false Tryz.prog 137 [] [gF a] (aN (kF k)):=by
 refine bC Tryz.func137 rfl Tryz.ntmps137 rfl aA rfl fun N w c0 h0=>?_
 refine sq ?_;refine rl ?_;refine bx 0 ?_;refine al 1 ?_;refine nl ?_;refine sq ?_;refine sq ?_;refine rl ?_;refine ld ?_
 refine ca (Cb ha) Ti ⟨aB rfl,rfl⟩ (.one (tv (.bool (dK a.s a.x)))) ?_;refine WL.splitb (t:=4) rfl (fun h1=>?_) (fun h1=>?_)
 ·refine o1 ?_;refine nl ?_;refine iH rfl ?_;refine sk ?_;refine sq ?_;refine rl ?_;refine ld ?_;refine st ?_;refine nl ?_;refine rt ?_
  exact en (.inl rfl) rfl (aO (.agg (.read _ (l:=[.v (.bool a.s),sU false a.x]) rfl))) (by decide) (fun h=>by cases h) (AU ha h1)
 refine o1 ?_;refine nl ?_;refine gL rfl ?_;refine sq ?_;refine rl ?_;refine o1 ?_;refine st ?_;refine nl ?_;refine rt ?_
 exact en (.inl rfl) rfl (aO (.agg (.cons (.id rfl) (.cons .nilf .nil)))) (by decide) (fun h=>by cases h) (by rw[ha.wrong h1];exact Fo)
theorem mF {b:Bool}{xs:List Nat}{K:Int}(hx:xs.length≤1099511627776) (hl:Lim 4294967296 xs) (hK:bT b (vl 4294967296 xs)=K):aE true Tryz.prog 108 [] [.one (tv (.bool b)),.one (.t (sU false xs))] (aN (kO K)):=by
 refine bC Tryz.func108 rfl Tryz.ntmps108 rfl aA rfl fun N w c0 h0=>?_
 refine sq ?_;refine rl ?_;refine al 0 ?_;refine nl ?_;refine sq ?_;refine rl ?_;refine o1 ?_;refine iI 1 (HR hx hl) RW ⟨a1 rfl,rfl⟩ ?_;refine o1 ?_;refine nl ?_;refine sq ?_
 refine rl ?_;refine o1 ?_;refine o1 ?_;refine WL.splitb (t:=9) rfl (fun h1=>?_) (fun h1=>?_)
 ·(iterate 6 refine o1 ?_);refine st ?_;refine nl ?_;refine rt ?_
  exact en (.inl rfl) rfl (aO (.agg (.cons (.id rfl) (.cons (.sl (trs:=aV (dg 4294967296 (vl 4294967296 xs))) rfl rfl (bB _) (aY _)) .nil)))) (by decide) (fun _=>Fp _ _) (hK▸wA (by rw[←Dr rfl,h1,Bool.true_and];exact decide_eq_decide.2 (by omega)) (kC _ _).symm)
 (iterate 3 refine bF ?_);(iterate 3 refine o1 ?_);refine st ?_;refine nl ?_;refine rt ?_
 exact en (.inl rfl) rfl (aO (.agg (.cons (.id rfl) (.cons (.sl (trs:=aV (dg 4294967296 (vl 4294967296 xs))) rfl rfl (bB _) (aY _)) .nil)))) (by decide) (fun _=>Fp _ _) (hK▸wA (by rw[←Dr rfl,h1];rfl) (kC _ _).symm)
theorem sM {n:Int}(h1:-9223372036854775808≤n) (h2:n≤9223372036854775807):aE true Tryz.prog 66 [] [.one (tv (.int .i64 n))] (aN (kO n)):=by
 refine bC Tryz.func66 rfl Tryz.ntmps66 rfl aA rfl fun N w c0 h0=>?_
 obtain⟨hr1,hr2,hq1,hq2,hv1,hv2⟩:=AW h1 h2
 refine sq ?_;refine rl ?_;refine al 0 ?_;refine nl ?_;refine sq ?_;refine rl ?_;(iterate 3 refine o1 ?_);refine o1 ?_ (hC:=(by exact⟨by omega,by simp only[jH];omega⟩))
 refine o1 ?_;refine o1 ?_;refine nl ?_;refine sq ?_;refine rl ?_;(iterate 6 refine o1 ?_)
 refine WL.cast (t:=14) (u':=.int .i64 (((Int.tmod n 4294967296).natAbs:Nat):Int)) rfl (aH (by omega)) ?_
 refine o1 ?_;refine WL.cast (t:=15) (u':=.int .u32 (((Int.tmod n 4294967296).natAbs:Nat):Int)) rfl (aH (by omega)) ?_
 (iterate 4 refine o1 ?_);refine WL.cast (t:=19) (u':=.int .i64 (((Int.tdiv n 4294967296).natAbs:Nat):Int)) rfl (aH (by omega)) ?_
 refine o1 ?_;refine WL.cast (t:=20) (u':=.int .u32 (((Int.tdiv n 4294967296).natAbs:Nat):Int)) rfl (aH (by omega)) ?_
 refine bs 1 ?_
 refine WL.sub (YV (i:=21) (zs:=[(Int.tmod n 4294967296).natAbs,(Int.tdiv n 4294967296).natAbs]) (zs':=[(Int.tmod n 4294967296).natAbs,(Int.tdiv n 4294967296).natAbs]) rfl rfl rfl rfl rfl) ?_
 refine iI 2 (mF (K:=n) (by simp) (Lim.cons (by omega) (Lim.cons (by omega) Lim.nil)) (NA hv1)) cU ⟨a1 rfl,a1 rfl,rfl⟩ ?_
 refine st ?_;refine nl ?_;refine rt ?_
 exact en (.inl rfl) rfl (aO (.agg (.cons (.id rfl) (.cons (.sl (trs:=aV (dg 4294967296 (n).natAbs)) rfl rfl (bB _) (aY _)) .nil)))) (by decide) (fun _=>fB (n)) rfl
theorem Wq {a b:Zi}{k k':Int}(ha:Zn a k) (hb:Zn b k'):aE true Tryz.prog 136 [] [gF a,gF b] (aN (.one (tv (.int .i64 (k-k').sign)))):=by
 refine bC Tryz.func136 rfl Tryz.ntmps136 rfl aA rfl fun N w c0 h0=>?_
 have hkl:=ha.len
 have hkl':=hb.len
 refine sq ?_;refine rl ?_;refine bx 0 ?_;refine bx 1 ?_;refine o1 ?_;refine nl ?_;refine sq ?_;refine rl ?_;refine ld ?_;refine ca (iD ha) nA ⟨aB rfl,rfl⟩ (kF (k)) ?_
 refine st ?_;refine nl ?_;refine sq ?_;refine rl ?_;refine ld ?_;refine ca (iD hb) nA ⟨aB rfl,rfl⟩ (kF (k')) ?_;refine st ?_;refine nl ?_;refine sq ?_;refine bl ?_;refine sq ?_
 refine rl ?_;refine o1 ?_;refine ld ?_;refine o1 ?_;refine WL.splitb (t:=12) rfl (fun h1=>?_) (fun h1=>?_)
 ·refine o1 ?_;refine ld ?_;refine WL.splitb (t:=14) rfl (fun h2=>?_) (fun h2=>?_)
  ·(iterate 3 refine o1 ?_);refine nl ?_;refine iH rfl ?_;refine sq ?_;refine rl ?_;refine o1 ?_;refine ld ?_;refine o1 ?_;refine WL.cast (t:=20) rfl (congrArg Value.bool h2) ?_
   refine o1 ?_;refine ld ?_;refine WL.cast (t:=22) rfl (congrArg Value.bool h1) ?_;(iterate 3 refine o1 ?_);refine nl ?_;refine iH rfl ?_;refine sq ?_;refine rl ?_;refine o1 ?_
   refine ld ?_;refine o1 ?_;refine nl ?_;refine gL (congrArg (fun b=>FV.one (tv (.bool b))) h1) ?_
   refine sq ?_;refine rl ?_;refine o1 ?_;refine ld ?_;refine o1 ?_;refine ld ?_
   refine ca (Kx (by omega) (aS (by omega) _) (by omega) (aS (by omega) _)) Th ⟨a1 rfl,a1 rfl,rfl⟩ (.one (tv (.int .i64 (((vl 4294967296 (dg 4294967296 (k').natAbs):Nat):Int)-((vl 4294967296 (dg 4294967296 (k).natAbs):Nat):Int)).sign))) ?_
   refine o1 ?_;refine nl ?_;refine rt ?_;refine en (.inl rfl) rfl (aO (bL _)) (by decide) (fun _=>trivial) (congrArg (fun z=>FV.one (tv (.int .i64 z))) ?_)
   rw[bM,bM];exact HS h1 h2
  (iterate 3 refine o1 ?_);refine nl ?_;refine gL rfl ?_;refine sq ?_;refine rl ?_;refine o1 ?_;refine nl ?_;refine rt ?_
  refine en (.inl rfl) rfl (aO (bL _)) (by decide) (fun _=>trivial) (congrArg (fun z=>FV.one (tv (.int .i64 z))) ?_)
  exact HU h1 h2
 (iterate 3 refine bF ?_);refine o1 ?_;refine o1 ?_;refine nl ?_;refine iH rfl ?_;refine sq ?_;refine rl ?_;refine o1 ?_;refine ld ?_;refine o1 ?_
 refine WL.splitb (t:=20) rfl (fun h3=>?_) (fun h3=>?_)
 ·refine o1 ?_;refine ld ?_;refine WL.cast (t:=22) rfl (congrArg Value.bool h1) ?_;(iterate 3 refine o1 ?_);refine nl ?_;refine gL rfl ?_;refine sq ?_;refine rl ?_;refine o1 ?_
  refine nl ?_;refine rt ?_;refine en (.inl rfl) rfl (aO (bL _)) (by decide) (fun _=>trivial) (congrArg (fun z=>FV.one (tv (.int .i64 z))) ?_)
  exact HV h1 h3
 (iterate 3 refine bF ?_);refine o1 ?_;refine o1 ?_;refine nl ?_;refine iH rfl ?_;refine sq ?_;refine rl ?_;refine o1 ?_;refine ld ?_;refine o1 ?_;refine nl ?_
 refine iH (congrArg (fun b=>FV.one (tv (.bool b))) h1) ?_
 refine sk ?_;refine sq ?_;refine rl ?_;refine o1 ?_;refine ld ?_;refine o1 ?_;refine ld ?_
 refine ca (Kx (by omega) (aS (by omega) _) (by omega) (aS (by omega) _)) Th ⟨a1 rfl,a1 rfl,rfl⟩ (.one (tv (.int .i64 (((vl 4294967296 (dg 4294967296 (k).natAbs):Nat):Int)-((vl 4294967296 (dg 4294967296 (k').natAbs):Nat):Int)).sign))) ?_
 refine o1 ?_;refine nl ?_;refine rt ?_;refine en (.inl rfl) rfl (aO (bL _)) (by decide) (fun _=>trivial) (congrArg (fun z=>FV.one (tv (.int .i64 z))) ?_)
 rw[bM,bM];exact HW h1 h3
theorem oT {a:Zi}{k:Int}(ha:Zn a k):aE true Tryz.prog 91 [] [gF a] (aN (.one (tv (.int .i64 k.sign)))):=by
 refine bC Tryz.func91 rfl Tryz.ntmps91 rfl aA rfl fun N w c0 h0=>?_
 have hkl:=ha.len
 refine sq ?_;refine rl ?_;refine bx 0 ?_;refine o1 ?_;refine nl ?_;refine sq ?_;refine rl ?_;refine ld ?_;refine o1 ?_
 refine ca (Wq ha YW) ER ⟨aB rfl,NB rfl (.cons .t (.cons .nil .nil)),rfl⟩ (.one (tv (.int .i64 ((k)-(0)).sign))) ?_;refine o1 ?_;refine nl ?_;refine rt ?_
 exact en (.inl rfl) rfl (aO (bL _)) (by decide) (fun _=>trivial) (congrArg (fun z=>FV.one (tv (.int .i64 z))) (by rw[Int.sub_zero]))
theorem Ds {a:Zi}{k:Int}(ha:Zn a k):aE true Tryz.prog 93 [] [gF a] (aN (kO (-k))):=by
 refine bC Tryz.func93 rfl Tryz.ntmps93 rfl aA rfl fun N w c0 h0=>?_
 have hkl:=ha.len
 refine sq ?_;refine rl ?_;refine bx 0 ?_;refine al 1 ?_;refine nl ?_;refine sq ?_;refine rd [0,1] (fun i=>[8].contains i) mixed ?_
 refine aI 0 ?_;refine aI 4 ?_;refine aF 1 rfl (iD ha) nA ⟨aB rfl,rfl⟩ (kF (k)) ?_;refine df 2 ?_;refine df 3 ?_;refine aF 5 rfl (iD ha) nA ⟨aB rfl,rfl⟩ (kF (k)) ?_
 refine df 6 ?_;refine kG 2 7 rfl (mF (K:=-k) (by omega) (aS (by omega) _) (by rw[bM];exact Pv k)) cU ⟨a1 rfl,a1 rfl,rfl⟩ ?_
 refine dst 8 ?_;refine aJ ?_;refine rt ?_
 exact en (.inl rfl) rfl (aO (.agg (.cons (.id rfl) (.cons (.sl (trs:=aV (dg 4294967296 (-k).natAbs)) rfl rfl (bB _) (aY _)) .nil)))) (by decide) (fun _=>fB (-k)) rfl
theorem uK {a b:Zi}{k k':Int}(ha:Zn a k) (hb:Zn b k'):aE true Tryz.prog 96 [] [gF a,gF b] (aN (kO (k+k'))):=by
 refine bC Tryz.func96 rfl Tryz.ntmps96 rfl aA rfl fun N w c0 h0=>?_
 have hkl:=ha.len
 have hkl':=hb.len
 refine sq ?_;refine rl ?_;refine bx 0 ?_;refine bx 1 ?_;refine al 2 ?_;refine nl ?_;refine sq ?_;refine rl ?_;refine ld ?_;refine ca (iD ha) nA ⟨aB rfl,rfl⟩ (kF (k)) ?_
 refine st ?_;refine nl ?_;refine sq ?_;refine rl ?_;refine ld ?_;refine ca (iD hb) nA ⟨aB rfl,rfl⟩ (kF (k')) ?_;refine st ?_;refine nl ?_;refine sq ?_;refine sq ?_;refine rl ?_
 refine o1 ?_;refine ld ?_;refine o1 ?_;refine ld ?_;refine o1 ?_;refine nl ?_;refine lL rfl (fun h1=>?_) (fun h1=>?_)
 ·refine sq ?_;refine rd [0,1,2] (fun i=>[8].contains i) mixed ?_
  refine dv 0 ?_;refine aI 1 ?_;refine dv 2 ?_;refine aI 3 ?_;refine dv 4 ?_;refine aI 5 ?_
  have hn2:=Fq (xs:=(dg 4294967296 (k).natAbs)) (ys:=(dg 4294967296 (k').natAbs)) (aS (by omega) _) (aS (by omega) _)
  refine aF 6 rfl (MX (by omega) (aS (by omega) _) (by omega) (aS (by omega) _)) RX ⟨a1 rfl,a1 rfl,rfl⟩ (.one (.t (sU false (dg 4294967296 (vl 4294967296 (dg 4294967296 (k).natAbs)+vl 4294967296 (dg 4294967296 (k').natAbs)))))) ?_
  refine kG 3 7 rfl (mF (K:=k+k') (by omega) (aS (by omega) _) (by simp only[cF (B:=4294967296) (by omega)];exact Hv rfl (eq_of_beq h1))) cU ⟨a1 rfl,a1 rfl,rfl⟩ ?_
  refine dst 8 ?_;refine aJ ?_;refine rt ?_
  exact en (.inl rfl) rfl (aO (.agg (.cons (.id rfl) (.cons (.sl (trs:=aV (dg 4294967296 (k+k').natAbs)) rfl rfl (bB _) (aY _)) .nil)))) (by decide) (fun _=>fB (k+k')) rfl
 refine sk ?_;refine sq ?_;refine rl ?_;refine o1 ?_;refine ld ?_;refine o1 ?_;refine ld ?_
 have hn3:=Pw (xs:=(dg 4294967296 (k).natAbs)) (ys:=(dg 4294967296 (k').natAbs)) (aS (by omega) _)
 refine ca (Wp (by omega) (aS (by omega) _) (by omega) (aS (by omega) _)) ES ⟨a1 rfl,a1 rfl,rfl⟩ (.tup [.one (.t (sU false (dg 4294967296 (vl 4294967296 (dg 4294967296 (k).natAbs)-vl 4294967296 (dg 4294967296 (k').natAbs))))),.one (tv (.int .i64 (if vl 4294967296 (dg 4294967296 (k).natAbs)<vl 4294967296 (dg 4294967296 (k').natAbs)then 2 else 0)))]) ?_
 (iterate 5 refine o1 ?_);refine nl ?_;refine sq ?_;refine sq ?_;refine rl ?_;refine o1 ?_;refine o1 ?_;refine nl ?_;refine bP rfl (fun h4=>?_) (fun h4=>?_)
 ·refine sq ?_;refine rl ?_;refine o1 ?_;refine ld ?_;refine o1 ?_
  refine iI 3 (mF (K:=k+k') (by omega) (aS (by omega) _) (by simp only[cF (B:=4294967296) (by omega)];exact Px rfl (ne_of_beq_false h1) (fun h8=>by rw[bM,bM,if_pos h8]at h4;omega))) cU ⟨a1 rfl,a1 rfl,rfl⟩ ?_
  refine st ?_;refine nl ?_;refine rt ?_
  exact en (.inl rfl) rfl (aO (.agg (.cons (.id rfl) (.cons (.sl (trs:=aV (dg 4294967296 (k+k').natAbs)) rfl rfl (bB _) (aY _)) .nil)))) (by decide) (fun _=>fB (k+k')) rfl
 refine sk ?_;refine sq ?_;refine rl ?_;refine o1 ?_;refine ld ?_;refine o1 ?_;refine ld ?_
 have hn5:=Pw (xs:=(dg 4294967296 (k').natAbs)) (ys:=(dg 4294967296 (k).natAbs)) (aS (by omega) _)
 refine ca (Wp (by omega) (aS (by omega) _) (by omega) (aS (by omega) _)) ES ⟨a1 rfl,a1 rfl,rfl⟩ (.tup [.one (.t (sU false (dg 4294967296 (vl 4294967296 (dg 4294967296 (k').natAbs)-vl 4294967296 (dg 4294967296 (k).natAbs))))),.one (tv (.int .i64 (if vl 4294967296 (dg 4294967296 (k').natAbs)<vl 4294967296 (dg 4294967296 (k).natAbs)then 2 else 0)))]) ?_
 (iterate 4 refine o1 ?_);refine nl ?_;refine sq ?_;refine rl ?_;refine o1 ?_;refine ld ?_;refine o1 ?_
 refine iI 3 (mF (K:=k+k') (by omega) (aS (by omega) _) (by simp only[cF (B:=4294967296) (by omega)];exact Py rfl (ne_of_beq_false h1) (Decidable.byContradiction fun h8=>h4 (by rw[bM,bM,if_neg h8])))) cU ⟨a1 rfl,a1 rfl,rfl⟩ ?_
 refine st ?_;refine nl ?_;refine rt ?_
 exact en (.inl rfl) rfl (aO (.agg (.cons (.id rfl) (.cons (.sl (trs:=aV (dg 4294967296 (k+k').natAbs)) rfl rfl (bB _) (aY _)) .nil)))) (by decide) (fun _=>fB (k+k')) rfl
theorem NC {a b:Zi}{k k':Int}(ha:Zn a k) (hb:Zn b k'):aE true Tryz.prog 168 [] [gF a,gF b] (aN (kO (k-k'))):=by
 refine bC Tryz.func168 rfl Tryz.ntmps168 rfl aA rfl fun N w c0 h0=>?_
 have hkl:=ha.len
 have hkl':=hb.len
 refine sq ?_;refine rl ?_;refine bx 0 ?_;refine bx 1 ?_;refine al 2 ?_;refine nl ?_;refine sq ?_;refine rd [0,1,2] (fun i=>[4].contains i) mixed ?_
 refine aI 0 ?_;refine aI 1 ?_;have hn1:=lQ (k')
 refine aF 2 rfl (Ds hb) Tj ⟨aB rfl,rfl⟩ (kF (-k')) ?_;refine kG 3 3 rfl (uK ha (Zn.of (k:=-k') (by omega))) Fs ⟨aB rfl,aB rfl,rfl⟩ ?_
 refine dst 4 ?_;refine aJ ?_;refine rt ?_
 exact en (.inl rfl) rfl (aO (.agg (.cons (.id rfl) (.cons (.sl (trs:=aV (dg 4294967296 (k+-k').natAbs)) rfl rfl (bB _) (aY _)) .nil)))) (by decide) (fun _=>fB (k+-k')) rfl
end Go.Proofs.YthoemjjmkgmnjaaGreat
