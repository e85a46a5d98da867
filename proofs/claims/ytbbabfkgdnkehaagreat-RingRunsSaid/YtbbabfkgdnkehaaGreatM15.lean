/- Part 15 of a proof: Y5 to O6. -/
import Derived.Test.YtbbabfkgdnkehaaGreatM14
import Derived.Test.YtbbabfkgdnkehaaGreatM12
import Derived.Test.YtbbabfkgdnkehaaGreatM13
set_option maxRecDepth 100000
set_option linter.unusedVariables false
set_option linter.unusedSimpArgs false
namespace Go.Proofs.YtbbabfkgdnkehaaGreat
open Go Go.RowKit
set_option maxHeartbeats 4000000 in
theorem RD {R:Rg}{U:List Ur}{x c:Nat→Nat→Rat}{N y e t:Nat}{ta:Tr}(hOk:R.Ok N) (hI:R.Iv N U) (ht:t<N) (hp:(y,e)∈R.vl t) (hw:t≤y+R.f) (hlU:U.length≤1000000) (hlV:(R.vl t).length≤1000000):aG false Tryz.prog 102 [⟨165,0,[.t (gU (R.ms t)),.t (sQ false ((R.bs t).map Fr4.of))]++((Fr4.of (R.lim t)).tr false).map .t++((Fr4.of (cV U t)).tr false).map .t++[.sl 1 0 (R.by9 U t).length,.fn 99 [] [.pt 2 0,.pt 3 0]]⟩,⟨48,4,((R.by9 U t).flatMap qt).map .t⟩,⟨92,0,[.pt 4 0]⟩,⟨3,0,[tv (.int .i64 ((t:Nat):Int))]⟩,⟨95,0,[.t ta,.t (dG true true (R.vns U x c (R.vl t))),.t (dA true true U),.t (eC (R.own U (R.I t) t))]⟩] [.one (.pt 0 0),.agg ((aQ (R.wv U (y,e))).map .t)] (Rt [⟨165,0,[.t (gU (R.ms t)),.t (sQ false ((R.bs t).map Fr4.of))]++((Fr4.of (R.lim t)).tr false).map .t++((Fr4.of (cV (Rg.us U y e t (aJ (R.left U y e) [(R.room U e t)])) t)).tr false).map .t++[.sl 1 0 (R.by9 (Rg.us U y e t (aJ (R.left U y e) [(R.room U e t)])) t).length,.fn 99 [] [.pt 2 0,.pt 3 0]]⟩,⟨48,4,((R.by9 (Rg.us U y e t (aJ (R.left U y e) [(R.room U e t)])) t).flatMap qt).map .t⟩,⟨92,0,[.pt 4 0]⟩,⟨3,0,[tv (.int .i64 ((t:Nat):Int))]⟩,⟨95,0,[.t ta,.t (dG true true (R.vns (Rg.us U y e t (aJ (R.left U y e) [(R.room U e t)])) x c (R.vl t))),.t (dA true true (Rg.us U y e t (aJ (R.left U y e) [(R.room U e t)]))),.t (eC (R.own (Rg.us U y e t (aJ (R.left U y e) [(R.room U e t)])) (R.I t) t))]⟩] (.tup [])):=by
 refine nG Tryz.func102 rfl Tryz.ntmps102 rfl aB rfl fun N9 M9 w9 c0 h0=>?_
 have hv:=gK.1 hp
 have hve:e<R.E:=hv.2.1
 have hvy:y<N:=by have:=hv.1;dsimp only at this;omega
 have hbl:(R.bs t).length=R.E:=nW
 have hyl:(R.by9 U t).length=R.E:=uK
 have hE:=hOk.e
 have hsl3:=hI.sz_left hOk hvy hve
 have hsl:Sz 68719476736 (R.left U y e):=hsl3.mono (by omega)
 have hbb3:Sz 300 (dQ U t e):=hI.sz_eIn hOk ht hve
 have hyy3:Sz 300 (cV U t):=hI.sz_yIn hOk ht
 have hsm3:Sz 310 (R.room U e t):=pH ((jZ (hOk.base t e ht hve) hbb3).mono (by omega)) (fun q hq=>by rw[List.mem_singleton]at hq;rw[hq];exact(jZ (hOk.lim t ht) hyy3).mono (by omega))
 have hsm:Sz 68719476736 (R.room U e t):=hsm3.mono (by omega)
 have hsn3:Sz 310 (aJ (R.left U y e) [(R.room U e t)]):=pH (hsl3.mono (by omega)) (fun q hq=>by rw[List.mem_singleton]at hq;rw[hq];exact hsm3)
 have hsn:Sz 68719476736 (aJ (R.left U y e) [(R.room U e t)]):=hsn3.mono (by omega)
 have hsy:Sz 68719476736 (cV U t):=hyy3.mono (by omega)
 have hsb:Sz 68719476736 (fD (R.by9 U t) (e)):=by rw[pD hve];exact hbb3.mono (by omega)
 refine sq (rl (bx 5 ?_));refine nl ?_
 refine md (γ:=Unit) (fun _=>bS [(0,.one (.pt 0 0)),(3,.one (.pt 5 0)),(4,.one (.pt 6 0))]) (fun _=>([⟨165,0,[.t (gU (R.ms t)),.t (sQ false ((R.bs t).map Fr4.of)),tv (.bool (aM (R.lim t).num)),.t (sU false (dg 4294967296 (R.lim t).num.natAbs)),tv (.bool false),.t (sU false (dg 4294967296 (R.lim t).den)),tv (.bool (aM (cV U t).num)),.t (sU false (dg 4294967296 (cV U t).num.natAbs)),tv (.bool false),.t (sU false (dg 4294967296 (cV U t).den)),.sl 1 0 ((R.by9 U t).length),.fn 99 [] [.pt 2 0,.pt 3 0]]⟩,⟨48,4,((R.by9 U t).flatMap qt).map .t⟩,⟨92,0,[.pt 4 0]⟩,⟨3,0,[tv (.int .i64 ((t:Nat):Int))]⟩,⟨95,0,[.t (ta),.t ((dG true true (R.vns U x c (R.vl t)))),.t ((dA true true U)),.t ((eC (R.own U (R.I t) t)))]⟩,⟨64,0,(aQ (R.wv U (y,e))).map .t⟩,⟨48,0,[tv (.bool (aM (aJ (R.left U y e) [(R.room U e t)]).num)),.sl 7 0 ((dg 4294967296 (aJ (R.left U y e) [(R.room U e t)]).num.natAbs).length),tv (.bool false),.sl 8 0 ((dg 4294967296 (aJ (R.left U y e) [(R.room U e t)]).den).length)]⟩,⟨113,1,(aI (dg 4294967296 (aJ (R.left U y e) [(R.room U e t)]).num.natAbs)).map .t⟩,⟨113,1,(aI (dg 4294967296 (aJ (R.left U y e) [(R.room U e t)]).den)).map .t⟩]:List Ob).map some) (fun _=>True) ?_ fun _ _=>?_
 ·refine rd [5] (fun i=>[9].contains i) mixed ?_
  refine dv 0 ?_;refine aO 1 ?_;refine dv 2 ?_;refine dv 3 ?_;refine aO 4 ?_;refine WD.cast (t:=9) (u':=.int .i64 ((e:Nat):Int)) rfl (dZ rfl) ?_
  refine WO.two (i:=5) (j:=8) (by kernel_rfl) ?_ ?_
  ·have hmost:=Ym (ms:=R.ms t) (Bs:=R.bs t) (bs:=R.by9 U t) (L:=R.lim t) (Us:=cV U t) (e:=e) (at9:=((t:Nat):Int)) (ta:=ta) (tb:=(dG true true (R.vns U x c (R.vl t)))) (tc:=(dA true true U)) (td:=(eC (R.own U (R.I t) t))) (by omega) (by omega) (by rw[nV hve];exact(hOk.base t e ht hve).mono (by omega)) (by rw[pD hve];exact hbb3.mono (by omega)) ((hOk.lim t ht).mono (by omega)) (hyy3.mono (by omega)) (by omega) (by omega)
   rw[nV hve,pD hve]at hmost
   refine IJ 5 6 [0,1,2,3,4] rfl hmost IL ⟨oe rfl rfl,aC rfl,oe rfl rfl,oe rfl rfl,oe rfl rfl,rfl⟩ ⟨rfl,rfl,rfl⟩ (ok:=[some ⟨165,0,[.t (gU (R.ms t)),.t (sQ false ((R.bs t).map Fr4.of))]++((Fr4.of (R.lim t)).tr false).map .t++((Fr4.of (cV U t)).tr false).map .t++[.sl 1 0 (R.by9 U t).length,.fn 99 [] [.pt 2 0,.pt 3 0]]⟩,some ⟨48,4,((R.by9 U t).flatMap qt).map .t⟩,some ⟨92,0,[.pt 4 0]⟩,some ⟨3,0,[tv (.int .i64 ((t:Nat):Int))]⟩,some ⟨95,0,[.t ta,.t (dG true true (R.vns U x c (R.vl t))),.t (dA true true U),.t (eC (R.own U (R.I t) t))]⟩]) ⟨oe rfl rfl,aC rfl,oe rfl rfl,oe rfl rfl,oe rfl rfl,rfl⟩ ⟨rfl,trivial⟩ ?_
   refine WO.two (i:=6) (j:=8) (by kernel_rfl) ?_ ?_
   ·refine Uv (key:=6) 6 rfl rfl ⟨rfl,trivial⟩ ?_
    refine uR (i:=11) (k:=6) (t:=48) (t':=52) (z:=4) (n:=1) (l:=([Fr4.of (R.room U e t)]).flatMap (Fr4.tr false)) rfl rfl rfl rfl (.one .sl) (by rfl) (by rfl) ?_
    refine WO.two (i:=7) (j:=8) (by kernel_rfl) ?_ ?_
    ·refine ock 7 7 rfl (As hsl hsm) oF ⟨aD rfl,a1 rfl,rfl⟩ ?_;refine fU (key:=9) 8 (by kernel_rfl) rfl rfl aB rfl ⟨rfl,trivial⟩ ?_
     refine dst 9 ?_;refine aV ?_
     exact⟨(),trivial,dH h0 [0,1,2,3,4,5,9,7,8] ⟨oe rfl rfl,aC rfl,oe rfl rfl,oe rfl rfl,oe rfl rfl,aC rfl,oe rfl rfl,aC rfl,aC rfl,rfl⟩⟩
    refine cG (key:=7) 8 rfl rfl aB rfl ⟨rfl,trivial⟩ ?_;refine jX 8 7 rfl (As hsl hsm) oF ⟨aD rfl,a1 rfl,rfl⟩ ?_;refine dst 9 ?_;refine aV ?_
    exact⟨(),trivial,dH h0 [0,1,2,3,4,5,7,8,9] ⟨oe rfl rfl,aC rfl,oe rfl rfl,oe rfl rfl,oe rfl rfl,aC rfl,oe rfl rfl,aC rfl,aC rfl,rfl⟩⟩
   refine cG (key:=6) 8 rfl rfl aB rfl ⟨rfl,trivial⟩ ?_;refine iU (key:=7) 6 (by kernel_rfl) rfl rfl aB rfl ⟨rfl,trivial⟩ ?_
   refine uR (i:=11) (k:=7) (t:=48) (t':=52) (z:=4) (n:=1) (l:=([Fr4.of (R.room U e t)]).flatMap (Fr4.tr false)) rfl rfl rfl rfl (.one .sl) (by rfl) (by rfl) ?_
   refine jX 8 7 rfl (As hsl hsm) oF ⟨aD rfl,a1 rfl,rfl⟩ ?_;refine dst 9 ?_;refine aV ?_
   exact⟨(),trivial,dH h0 [0,1,2,3,4,5,6,8,9] ⟨oe rfl rfl,aC rfl,oe rfl rfl,oe rfl rfl,oe rfl rfl,aC rfl,oe rfl rfl,aC rfl,aC rfl,rfl⟩⟩
  refine cG (key:=6) 8 rfl rfl aB rfl ⟨rfl,trivial⟩ ?_
  have hmost:=Ym (ms:=R.ms t) (Bs:=R.bs t) (bs:=R.by9 U t) (L:=R.lim t) (Us:=cV U t) (e:=e) (at9:=((t:Nat):Int)) (ta:=ta) (tb:=(dG true true (R.vns U x c (R.vl t)))) (tc:=(dA true true U)) (td:=(eC (R.own U (R.I t) t))) (by omega) (by omega) (by rw[nV hve];exact(hOk.base t e ht hve).mono (by omega)) (by rw[pD hve];exact hbb3.mono (by omega)) ((hOk.lim t ht).mono (by omega)) (hyy3.mono (by omega)) (by omega) (by omega)
  rw[nV hve,pD hve]at hmost
  refine Rq 5 7 [0,1,2,3,4] rfl hmost IL ⟨oe rfl rfl,aC rfl,oe rfl rfl,oe rfl rfl,oe rfl rfl,rfl⟩ ⟨rfl,rfl,rfl⟩ (ok:=[some ⟨165,0,[.t (gU (R.ms t)),.t (sQ false ((R.bs t).map Fr4.of))]++((Fr4.of (R.lim t)).tr false).map .t++((Fr4.of (cV U t)).tr false).map .t++[.sl 1 0 (R.by9 U t).length,.fn 99 [] [.pt 2 0,.pt 3 0]]⟩,some ⟨48,4,((R.by9 U t).flatMap qt).map .t⟩,some ⟨92,0,[.pt 4 0]⟩,some ⟨3,0,[tv (.int .i64 ((t:Nat):Int))]⟩,some ⟨95,0,[.t ta,.t (dG true true (R.vns U x c (R.vl t))),.t (dA true true U),.t (eC (R.own U (R.I t) t))]⟩]) ⟨oe rfl rfl,aC rfl,oe rfl rfl,oe rfl rfl,oe rfl rfl,rfl⟩ ⟨rfl,trivial⟩ ?_
  refine iU (key:=7) 6 (by kernel_rfl) rfl rfl aB rfl ⟨rfl,trivial⟩ ?_
  refine uR (i:=11) (k:=7) (t:=48) (t':=52) (z:=4) (n:=1) (l:=([Fr4.of (R.room U e t)]).flatMap (Fr4.tr false)) rfl rfl rfl rfl (.one .sl) (by rfl) (by rfl) ?_
  refine jX 8 7 rfl (As hsl hsm) oF ⟨aD rfl,a1 rfl,rfl⟩ ?_;refine dst 9 ?_;refine aV ?_
  exact⟨(),trivial,dH h0 [0,1,2,3,4,5,6,8,9] ⟨oe rfl rfl,aC rfl,oe rfl rfl,oe rfl rfl,oe rfl rfl,aC rfl,oe rfl rfl,aC rfl,aC rfl,rfl⟩⟩
 refine sq (sq (rl (ld ?_)))
 refine ca (oB (Qn.of (p:=(aJ (R.left U y e) [(R.room U e t)])) hsn)) wH ⟨oV rfl (.cons .t (.cons (.sl rfl rfl (aN _ _ rfl) (aP _)) (.cons .t (.cons (.sl rfl rfl (aN _ _ rfl) (aP _)) .nil)))),rfl⟩ (.one (tv (.int .i64 (aJ (R.left U y e) [(R.room U e t)]).num.sign))) ?_
 refine o1 ?_;refine nl ?_;refine bL rfl (fun h1=>?_) (fun h1=>?_)
 ·refine rt ?_;have hno:(Rg.us U y e t (aJ (R.left U y e) [(R.room U e t)]))=U:=wE (fun h9=>by have:=(kA _).2 h9;omega)
  exact hJ (lent':=[⟨165,0,[.t (gU (R.ms t)),.t (sQ false ((R.bs t).map Fr4.of))]++((Fr4.of (R.lim t)).tr false).map .t++((Fr4.of (cV (Rg.us U y e t (aJ (R.left U y e) [(R.room U e t)])) t)).tr false).map .t++[.sl 1 0 (R.by9 (Rg.us U y e t (aJ (R.left U y e) [(R.room U e t)])) t).length,.fn 99 [] [.pt 2 0,.pt 3 0]]⟩,⟨48,4,((R.by9 (Rg.us U y e t (aJ (R.left U y e) [(R.room U e t)])) t).flatMap qt).map .t⟩,⟨92,0,[.pt 4 0]⟩,⟨3,0,[tv (.int .i64 ((t:Nat):Int))]⟩,⟨95,0,[.t ta,.t (dG true true (R.vns (Rg.us U y e t (aJ (R.left U y e) [(R.room U e t)])) x c (R.vl t))),.t (dA true true (Rg.us U y e t (aJ (R.left U y e) [(R.room U e t)]))),.t (eC (R.own (Rg.us U y e t (aJ (R.left U y e) [(R.room U e t)])) (R.I t) t))]⟩]) (.inl rfl) rfl qT (by decide) (fun _ h=>by cases h) ⟨⟨rfl,rfl⟩,⟨rfl,rfl⟩,⟨rfl,rfl⟩,⟨rfl,rfl⟩,⟨rfl,rfl⟩,trivial⟩ ⟨(by rw[hno];rfl),(by rw[hno];rfl),rfl,rfl,(by rw[hno];rfl),trivial⟩ ⟨rfl,cK _,rfl,rfl,rfl,trivial⟩ (fun h=>by cases h) ⟨rfl,rfl⟩
 refine sk (sq ?_);refine rd [0,2,3,4,5,6,7,8] (fun i=>[11].contains i) mixed ?_
 refine dv 0 ?_;refine dv 1 ?_;refine dv 2 ?_;refine dv 3 ?_;refine dv 4 ?_;refine aO 5 ?_;refine aO 6 ?_
 refine aX 7 rfl (Ar (Qn.of (p:=(cV U t)) hsy) (Qn.of (p:=(aJ (R.left U y e) [(R.room U e t)])) hsn)) Gd ⟨aD rfl,oV rfl (.cons .t (.cons (.sl rfl rfl (aN _ _ rfl) (aP _)) (.cons .t (.cons (.sl rfl rfl (aN _ _ rfl) (aP _)) .nil)))),rfl⟩ (qF (.of ((cV U t)+(aJ (R.left U y e) [(R.room U e t)])))) ?_
 refine eQ 8 (by kernel_rfl) rfl rfl aB rfl (by trivial) ?_ (fun h=>by first | rfl | cases h)
 refine eQ 9 (by kernel_rfl) rfl rfl aB rfl (by trivial) ?_ (fun h=>by first | rfl | cases h)
 refine df 10 ?_;refine dst 11 ?_;refine aV ?_;refine sq ?_;refine rd [0,1,2,3,4,5,6,7,8] (fun i=>[19].contains i) mixed ?_
 refine dv 0 ?_;refine dv 1 ?_;refine dv 2 ?_;refine dv 3 ?_;refine aO 4 ?_;refine dv 5 ?_;refine aO 6 ?_;refine WD.cast (t:=33) (u':=.int .i64 ((e:Nat):Int)) rfl (dZ rfl) ?_
 refine dv 7 ?_;refine dv 8 ?_;refine dv 9 ?_;refine dv 10 ?_;refine aO 11 ?_;refine dv 12 ?_;refine aO 13 ?_;refine WD.cast (t:=40) (u':=.int .i64 ((e:Nat):Int)) rfl (dZ rfl) ?_
 refine dv 14 ?_;refine lH 15 (cJ (f:=qt) (z:=4) (o:=0) (us:=qt (fD (R.by9 U t) (e))) mG (tF (by omega)) (bN rfl) rfl) ?_
 refine aO 16 ?_
 refine aX 17 rfl (Ar (Qn.of (p:=(fD (R.by9 U t) (e))) hsb) (Qn.of (p:=(aJ (R.left U y e) [(R.room U e t)])) hsn)) Gd ⟨aD rfl,oV rfl (.cons .t (.cons (.sl rfl rfl (aN _ _ rfl) (aP _)) (.cons .t (.cons (.sl rfl rfl (aN _ _ rfl) (aP _)) .nil)))),rfl⟩ (qF (.of ((fD (R.by9 U t) (e))+(aJ (R.left U y e) [(R.room U e t)])))) ?_
 refine dv 18 ?_
 refine lX 19 (dN (xs:=(R.by9 U t)) (k:=e) (x:=(fD (R.by9 U t) (e))) (f:=qt) (z:=4) (o:=0) (x':=(((fD (R.by9 U t) (e))+(aJ (R.left U y e) [(R.room U e t)])):Rat)) (us:=qt ((fD (R.by9 U t) (e))+(aJ (R.left U y e) [(R.room U e t)]))) mG (tF (by omega)) (bN rfl) rfl) (eP (xs:=(R.by9 U t)) (k:=e) (f:=qt) (z:=4) (o:=0) (us:=qt ((fD (R.by9 U t) (e))+(aJ (R.left U y e) [(R.room U e t)]))) mG (by omega) (bN rfl)) ?_
 refine aV ?_;refine rd [0,5,6] (fun i=>[].contains i) mixed ?_
 refine dv 0 ?_;refine dv 1 ?_;refine dv 2 ?_;refine aO 3 ?_;refine aO 4 ?_;refine aO 5 ?_;have hpos:0<(aJ (R.left U y e) [(R.room U e t)]):=by
  have h9:¬((aJ (R.left U y e) [(R.room U e t)]).num.sign≤0):=h1
  exact(kA _).1 (by omega)
 have hIt:y∈R.I t:=kN.2 ⟨hv.1,hw⟩
 have hle:(aJ (R.left U y e) [(R.room U e t)])≤R.left U y e:=pF _ _
 have h0I:∀i∈R.I t,0≤R.left U i e:=fun i hi=>(hI.v i e (by have:=(kN.1 hi).1;omega) hve).1.1
 have hst:=UN (R:=R) (U:=U) (e:=e) (I:=R.I t) fun i hi=>hI.sz_left hOk (by have:=(kN.1 hi).1;omega) hve
 have hIl:=uX (R:=R) (k:=t)
 have hnn:=hOk.n
 have hfx:=(yJ (R:=R) (U:=U) (x:=x) (c:=c) hp).1
 have hgo:dM (R.own U (R.I t) t) e=_:=Fx hve
 have hgv:=OW (R:=R) (U:=U) (x:=x) (c:=c) hp
 have hnote:=EX (vs:=(R.vns U x c (R.vl t))) (us:=U) (ls:=R.own U (R.I t) t) (y:=y) (e:=e) (n:=(R.I t).length) (B:=301*(R.I t).length) (q:=R.left U y e) (m:=(aJ (R.left U y e) [(R.room U e t)])) (at9:=((t:Nat):Int)) (ta:=ta) (by rw[kR];exact hve) (by rw[dP];exact hfx) (hsn3.mono (by omega)) (by rw[hgv];exact(hI.sz_vOf hOk hvy hve)) (by rw[hgo];exact hst) (by omega) (by omega) (by rw[dP];omega) (by omega) (by rw[kR];omega)
 rw[CS hp hpos rfl,←lF hpos,hgo,OV hve Ul h0I hIt hpos hle]at hnote
 refine UP 6 9 6 7 [2,3,4,7,8] [2,3,4] [7,8] rfl hnote XX rfl rfl rfl ⟨oe rfl rfl,oe rfl rfl,oe rfl rfl,aC rfl,aC rfl,rfl⟩ ⟨rfl,rfl,rfl,rfl,rfl⟩ (ok:=[some ⟨92,0,[.pt 4 0]⟩,some ⟨3,0,[tv (.int .i64 ((t:Nat):Int))]⟩,some ⟨95,0,[.t ta,.t (dG true true (R.vns (Rg.us U y e t (aJ (R.left U y e) [(R.room U e t)])) x c (R.vl t))),.t (dA true true (Rg.us U y e t (aJ (R.left U y e) [(R.room U e t)]))),.t (eC (R.own (Rg.us U y e t (aJ (R.left U y e) [(R.room U e t)])) (R.I t) t))]⟩]) ⟨oe rfl rfl,oe rfl rfl,oe rfl rfl,rfl⟩ ⟨rfl,rfl,rfl,trivial⟩ ?_
 refine aV ?_;have hY:cV U t+(aJ (R.left U y e) [(R.room U e t)])=cV (Rg.us U y e t (aJ (R.left U y e) [(R.room U e t)])) t:=(Xm hpos).symm
 have hB:(R.by9 U t).set e (fD (R.by9 U t) e+(aJ (R.left U y e) [(R.room U e t)]))=R.by9 (Rg.us U y e t (aJ (R.left U y e) [(R.room U e t)])) t:=by rw[pD hve];exact Xo hve hpos
 exact hJ (lent':=[⟨165,0,[.t (gU (R.ms t)),.t (sQ false ((R.bs t).map Fr4.of))]++((Fr4.of (R.lim t)).tr false).map .t++((Fr4.of (cV (Rg.us U y e t (aJ (R.left U y e) [(R.room U e t)])) t)).tr false).map .t++[.sl 1 0 (R.by9 (Rg.us U y e t (aJ (R.left U y e) [(R.room U e t)])) t).length,.fn 99 [] [.pt 2 0,.pt 3 0]]⟩,⟨48,4,((R.by9 (Rg.us U y e t (aJ (R.left U y e) [(R.room U e t)])) t).flatMap qt).map .t⟩,⟨92,0,[.pt 4 0]⟩,⟨3,0,[tv (.int .i64 ((t:Nat):Int))]⟩,⟨95,0,[.t ta,.t (dG true true (R.vns (Rg.us U y e t (aJ (R.left U y e) [(R.room U e t)])) x c (R.vl t))),.t (dA true true (Rg.us U y e t (aJ (R.left U y e) [(R.room U e t)]))),.t (eC (R.own (Rg.us U y e t (aJ (R.left U y e) [(R.room U e t)])) (R.I t) t))]⟩]) (.inr rfl) rfl qT (by decide) (fun _ h=>by cases h) ⟨⟨rfl,rfl⟩,⟨rfl,rfl⟩,⟨rfl,rfl⟩,⟨rfl,rfl⟩,⟨rfl,rfl⟩,trivial⟩ ⟨(by rw[←hY,←hB,List.length_set];rfl),(by rw[←hB];rfl),rfl,rfl,rfl,trivial⟩ ⟨rfl,cK _,rfl,rfl,rfl,trivial⟩ (fun h=>by cases h) ⟨rfl,rfl⟩
theorem ME {R:Rg}{U:List Ur}{x c:Nat→Nat→Rat}{N t:Nat}(hOk:R.Ok N) (hI:R.Iv N U) (ht:t<N) (h0y:cV U t=0) (h0b:∀e,e<R.E→dQ U t e=0) (hlU:U.length≤1000):aG false Tryz.prog 70 [⟨95,0,[.t (dJ true (R.rls U t)),.t (dG true true (R.vns U x c (R.vl t))),.t (dA true true U),.t (eC (R.own U (R.I t) t))]⟩] [.one (.pt 0 0),.one (tv (.int .i64 ((t:Nat):Int))),.agg ((R.yrq t).map .t)] (Rt [⟨95,0,[.t (dJ true (R.rls (R.step U t) (t+1))),.t (dG true true (R.vns (R.step U t) x c (R.vl t))),.t (dA true true (R.step U t)),.t (eC (R.own (R.step U t) (R.I t) t))]⟩] (.tup [])):=by
 refine EC Tryz.func70 rfl Tryz.ntmps70 rfl aB rfl fun N9 M9 w9 c0 h0=>?_
 have hbl:((R.bs t).map Fr4.of).length=R.E:=by rw[dF];exact nW
 have hE:=hOk.e;have hN:=hOk.n
 have hVl:=lK (R:=R) hE t
 have hwl:=LI (R:=R) (U:=U) (t:=t)
 refine sq (rl (bx 1 ?_));refine bx 2 ?_;refine bx 3 ?_;refine nl (sq ?_);refine rd [0,1,2,3] (fun i=>[5].contains i) mixed ?_
 refine aO 0 ?_;refine aX 1 rfl (iL (z:=0) (by omega) (by omega)) qN ⟨a1 rfl,rfl⟩ (qF (.of ((0:Int):Rat))) ?_
 refine df 2 ?_;refine df 3 ?_;refine XY (key:=4) 4 (by kernel_rfl) rfl rfl rfl ⟨rfl,rfl,rfl,rfl,trivial⟩ ?_
 refine eQ 5 (by kernel_rfl) rfl rfl aB rfl (by trivial) ?_ (fun h=>by first | rfl | cases h)
 refine aV ?_;refine sq (sq (rl (o1 ?_)));refine ld ?_;refine o1 ?_;refine o1 ?_;refine nl (bl ?_)
 refine WP.sub (yR (j:=4) (key:=5) (e:=48) (z:=4) rfl rfl rfl (.id (.id (.id (.id (.id (.id (.id (.id (.id (.id (.sl (.id .nil))))))))))))) ?_
 refine lp (γ:=Nat) (fun s=>bS [(3,.one (.pt 1 0)),(4,.one (.pt 2 0)),(5,.one (.pt 3 0)),(6,.one (.pt 4 0)),(16,.one (tv (.int .i64 ((((R.bs t).map Fr4.of).length:Nat):Int)))),(17,.one (tv (.int .i64 ((s:Nat):Int))))]) (fun s=>[(⟨95,0,[.t (dJ true (R.rls U t)),.t (dG true true (R.vns U x c (R.vl t))),.t (dA true true U),.t (eC (R.own U (R.I t) t))]⟩:Ob),⟨92,0,[.pt 0 0]⟩,⟨3,0,[tv (.int .i64 ((t:Nat):Int))]⟩,⟨67,0,(R.yrq t).map .t⟩,⟨165,0,[.t (gU (R.ms t)),.t (sQ false ((R.bs t).map Fr4.of))]++((Fr4.of (R.lim t)).tr false).map .t++((Fr4.of ((0:Int):Rat)).tr false).map .t++[.sl 5 0 s,tv .nilFunc]⟩,⟨48,4,(((List.range s).map (fun _=>((0:Int):Rat))).flatMap qt).map .t⟩].map some) (fun s=>s≤R.E) (fun s=>R.E-s) 0 (Nat.zero_le _) (dH h0 [0,1,2,3,4,5] ⟨oe rfl rfl,oe rfl rfl,oe rfl rfl,aC rfl,oe rfl rfl,aC rfl,rfl⟩) ?_
 rintro k hk;refine sq (rl (o1 ?_));refine nl (sq ?_);refine bL rfl (fun h1=>?_) (fun h1=>?_)
 ·refine sk (sq (bl ?_));refine rd [0,1,2,3,4] (fun i=>[12].contains i) mixed ?_
  refine dv 0 ?_;refine dv 1 ?_;refine dv 2 ?_;refine dv 3 ?_;refine dv 4 ?_;refine aO 5 ?_
  refine aX 6 rfl (iL (z:=0) (by omega) (by omega)) qN ⟨a1 rfl,rfl⟩ (qF (.of ((0:Int):Rat))) ?_
  refine iU (key:=6) 7 (by kernel_rfl) rfl rfl aB rfl ⟨rfl,rfl,rfl,rfl,rfl,trivial⟩ ?_
  refine kP (j:=7) (n:=k) (l:=(((List.range k).map (fun _=>((0:Int):Rat))).flatMap qt).map .t) 8 rfl aB rfl rfl rfl (.sl rfl (by rw[dF,bE mG,dF,List.length_range])) (.sl rfl rfl rfl) rfl rfl (by omega) (by omega) rfl ⟨rfl,rfl,rfl,rfl,rfl,trivial⟩ rfl (by kernel_rfl) rfl ?_
  refine eQ 9 (by kernel_rfl) rfl rfl aB rfl (by trivial) ?_ (fun h=>by first | rfl | cases h)
  refine eQ 10 (by kernel_rfl) rfl rfl aB rfl (by trivial) ?_ (fun h=>by first | rfl | cases h)
  refine df 11 ?_;refine dst 12 ?_;refine aV ?_;refine rl (o1 ?_);refine aZ 31 (k+1) ?_
  refine o1 ?_;refine nl ?_
  exact⟨k+1,by omega,by omega,dH h0 [0,1,2,3,4,7] ⟨oe rfl rfl,oe rfl rfl,oe rfl rfl,aC rfl,oe rfl rfl,aC (congrArg (fun l:List AV=>some (⟨48,4,l⟩:Ob)) ((Rw ((List.range k).map (fun _=>((0:Int):Rat))) ((0:Int):Rat)).trans (by rw[List.range_succ,List.map_append];rfl))),rfl⟩⟩
 refine ex (sq (rl ?_));(iterate 4 refine o1 ?_);refine st ?_;refine nl (sq (sq (rl (ld ?_))));refine o1 ?_;refine ld ?_
 refine cl 6 [0] (Yn (U:=U) (ta:=(dJ true (R.rls U t))) (tb:=(dG true true (R.vns U x c (R.vl t)))) (tc:=(dA true true U)) hOk hI ht) VM ⟨oe rfl rfl,rfl⟩ ⟨rfl,rfl,rfl⟩ (ok:=[some ⟨95,0,[.t (dJ true (R.rls U t)),.t (dG true true (R.vns U x c (R.vl t))),.t (dA true true U),.t (eC (R.own U (R.I t) t))]⟩]) ⟨oe rfl rfl,rfl⟩ ?_
 refine o1 ?_;refine o1 ?_;refine nl (bl ?_);have hkE:k=R.E:=by omega
 have hzy:((0:Int):Rat)=cV U t:=h0y.symm
 have hzb:((List.range k).map (fun _=>((0:Int):Rat)))=R.by9 U t:=by rw[hkE];exact EG h0b
 refine lp (γ:=Nat) (fun s=>bS [(3,.one (.pt 1 0)),(4,.one (.pt 2 0)),(6,.one (.pt 3 0)),(39,.one (.sl 5 0 (((R.wt U t).map (R.wv U)).length))),(40,.one (tv (.int .i64 ((((R.wt U t).map (R.wv U)).length:Nat):Int)))),(41,.one (tv (.int .i64 ((s:Nat):Int))))]) (fun s=>[(⟨95,0,[.t (dJ true (R.rls U t)),.t (dG true true (R.vns (R.uf U t s) x c (R.vl t))),.t (dA true true (R.uf U t s)),.t (eC (R.own (R.uf U t s) (R.I t) t))]⟩:Ob),⟨92,0,[.pt 0 0]⟩,⟨3,0,[tv (.int .i64 ((t:Nat):Int))]⟩,⟨165,0,[.t (gU (R.ms t)),.t (sQ false ((R.bs t).map Fr4.of))]++((Fr4.of (R.lim t)).tr false).map .t++((Fr4.of (cV (R.uf U t s) t)).tr false).map .t++[.sl 4 0 (R.by9 (R.uf U t s) t).length,.fn 99 [] [.pt 1 0,.pt 2 0]]⟩,⟨48,4,((R.by9 (R.uf U t s) t).flatMap qt).map .t⟩,⟨64,18,(((R.wt U t).map (R.wv U)).flatMap aQ).map .t⟩].map some) (fun s=>s≤((R.wt U t).map (R.wv U)).length) (fun s=>((R.wt U t).map (R.wv U)).length-s) 0 (Nat.zero_le _) (dH h0 [0,1,2,4,5,6] ⟨oe rfl rfl,oe rfl rfl,oe rfl rfl,oe rfl (by have h9:(some ⟨165,0,[.t (gU (R.ms t)),.t (sQ false ((R.bs t).map Fr4.of))]++((Fr4.of (R.lim t)).tr false).map .t++((Fr4.of ((0:Int):Rat)).tr false).map .t++[.sl 5 0 k,.fn 99 [] [.pt 1 0,.pt 2 0]]⟩:Option Ob)=some ⟨165,0,[.t (gU (R.ms t)),.t (sQ false ((R.bs t).map Fr4.of))]++((Fr4.of (R.lim t)).tr false).map .t++((Fr4.of (cV U t)).tr false).map .t++[.sl 5 0 (R.by9 U t).length,.fn 99 [] [.pt 1 0,.pt 2 0]]⟩:=(by rw[←hzy,←hzb,dF,List.length_range]);exact h9),aC (by have h9:(some ⟨48,4,(((List.range k).map (fun _=>((0:Int):Rat))).flatMap qt).map .t⟩:Option Ob)=some ⟨48,4,((R.by9 U t).flatMap qt).map .t⟩:=(by rw[hzb]);exact h9),aC rfl,rfl⟩) ?_
 rintro i hi;refine sq (rl (o1 ?_));refine nl (sq ?_);refine bL rfl (fun h2=>?_) (fun h2=>?_)
 ·refine sk (sq (bl (sq ?_)));have hwtl:((R.wt U t).map (R.wv U)).length=(R.wt U t).length:=dF _
  obtain⟨p,hp9⟩:∃p,(R.wt U t)[i]? =some p:=⟨_,dC (by omega)⟩
  obtain⟨hw1,hw2,hw3,_⟩:=Yo hp9
  have hfl:=QC (R:=R) (U:=U) (t:=t) (i:=i)
  have huse:=RD (U:=(R.uf U t i)) (x:=x) (c:=c) (y:=p.1) (e:=p.2) (ta:=(dJ true (R.rls U t))) hOk (VE hI ht) ht hw1 hw2 (by omega) (by omega)
  rw[show R.wv (R.uf U t i) (p.1,p.2)=aE ((R.wt U t).map (R.wv U)) i from(VD hp9).symm]at huse;refine rl (o1 ?_)
  refine Mi (cJ (f:=aQ) (z:=18) (o:=0) (us:=aQ (aE ((R.wt U t).map (R.wv U)) (i))) bK (cB (l:=((R.wt U t).map (R.wv U))) (i:=i) (by omega)) (bN rfl) rfl) ?_
  refine al 6 ?_;refine st ?_;refine nl (rl (o1 ?_));refine ld ?_
  refine cl 7 [3,4,1,2,0] huse VN ⟨oe rfl rfl,aC rfl,oe rfl rfl,oe rfl rfl,oe rfl rfl,rfl⟩ ⟨rfl,rfl,rfl⟩ (ok:=[some ⟨165,0,[.t (gU (R.ms t)),.t (sQ false ((R.bs t).map Fr4.of))]++((Fr4.of (R.lim t)).tr false).map .t++((Fr4.of (cV (R.use (R.uf U t i) p.1 p.2 t) t)).tr false).map .t++[.sl 4 0 (R.by9 (R.use (R.uf U t i) p.1 p.2 t) t).length,.fn 99 [] [.pt 1 0,.pt 2 0]]⟩,some ⟨48,4,((R.by9 (R.use (R.uf U t i) p.1 p.2 t) t).flatMap qt).map .t⟩,some ⟨92,0,[.pt 0 0]⟩,some ⟨3,0,[tv (.int .i64 ((t:Nat):Int))]⟩,some ⟨95,0,[.t (dJ true (R.rls U t)),.t (dG true true (R.vns (R.use (R.uf U t i) p.1 p.2 t) x c (R.vl t))),.t (dA true true (R.use (R.uf U t i) p.1 p.2 t)),.t (eC (R.own (R.use (R.uf U t i) p.1 p.2 t) (R.I t) t))]⟩]) ⟨oe rfl rfl,aC rfl,oe rfl rfl,oe rfl rfl,oe rfl rfl,rfl⟩ ?_
  refine nl (rl (o1 ?_));refine aZ 48 (i+1) ?_
  refine o1 ?_;refine nl ?_
  exact⟨i+1,by omega,by omega,dH h0 [0,1,2,3,4,5] ⟨oe rfl (congrArg (fun V:List Ur=>some (⟨95,0,[.t (dJ true (R.rls U t)),.t (dG true true (R.vns V x c (R.vl t))),.t (dA true true V),.t (eC (R.own V (R.I t) t))]⟩:Ob)) (Gk hp9).symm),oe rfl rfl,oe rfl rfl,oe rfl (by have h9:(some ⟨165,0,[.t (gU (R.ms t)),.t (sQ false ((R.bs t).map Fr4.of))]++((Fr4.of (R.lim t)).tr false).map .t++((Fr4.of (cV (R.use (R.uf U t i) p.1 p.2 t) t)).tr false).map .t++[.sl 4 0 (R.by9 (R.use (R.uf U t i) p.1 p.2 t) t).length,.fn 99 [] [.pt 1 0,.pt 2 0]]⟩:Option Ob)=some ⟨165,0,[.t (gU (R.ms t)),.t (sQ false ((R.bs t).map Fr4.of))]++((Fr4.of (R.lim t)).tr false).map .t++((Fr4.of (cV (R.uf U t (i+1)) t)).tr false).map .t++[.sl 4 0 (R.by9 (R.uf U t (i+1)) t).length,.fn 99 [] [.pt 1 0,.pt 2 0]]⟩:=(by rw[Gk hp9]);exact h9),aC (congrArg (fun V:List Ur=>some (⟨48,4,((R.by9 V t).flatMap qt).map .t⟩:Ob)) (Gk hp9).symm),aC rfl,rfl⟩⟩
 refine ex ?_;have hwtl:((R.wt U t).map (R.wv U)).length=(R.wt U t).length:=dF _
 have hue:(R.uf U t i)=(R.step U t):=QD hI ht (by omega)
 have hrl:(R.rls U t).length=t:=pC
 refine WP.sub (oE (j:=0) (key:=6) (p:=0) (e:=62) (z:=5) (n:=(R.rls U t).length) (trs:=(R.rls U t).flatMap rlt) rfl rfl rfl rfl rfl) ?_
 refine rd [0,1,2,3] (fun i=>[15].contains i) mixed ?_
 refine aO 0 ?_;refine aO 1 ?_;refine dv 2 ?_;refine dv 3 ?_;refine dv 4 ?_;refine aO 5 ?_;refine dv 6 ?_;refine dv 7 ?_;refine dv 8 ?_;refine WO.one (by kernel_rfl) (Rj 9 ?_)
 refine uR (i:=58) (k:=4) (t:=48) (t':=52) (z:=4) (n:=(R.by9 (R.uf U t i) t).length) (l:=((R.by9 (R.uf U t i) t).map Fr4.of).flatMap (Fr4.tr false)) rfl rfl (congrArg (fun l:List Tr=>some (⟨48,4,l.map .t⟩:Ob)) (Yp (R.by9 (R.uf U t i) t))) (by rw[bE (f:=Fr4.tr false) (z:=4) (fun _=>rfl),dF]) (.agg (.cons .id (.cons .id (.cons .id (.cons .id (.cons .sl .nil)))))) (by rfl) (by rfl) ?_
 refine iU (key:=7) 10 (by kernel_rfl) rfl rfl aB rfl ⟨rfl,rfl,rfl,rfl,trivial⟩ ?_
 refine kP (j:=8) (n:=(R.rls U t).length) (l:=((R.rls U t).flatMap rlt).map .t) 11 rfl aB rfl rfl rfl (.sl rfl (by rw[dF,bE gZ])) (.sl rfl rfl rfl) rfl rfl (by omega) (by omega) rfl ⟨rfl,rfl,rfl,rfl,trivial⟩ rfl (by kernel_rfl) rfl ?_
 refine eQ 12 (by kernel_rfl) rfl rfl aB rfl (by trivial) ?_ (fun h=>by first | rfl | cases h)
 refine eQ 13 (by kernel_rfl) rfl rfl aB rfl (by trivial) ?_ (fun h=>by first | rfl | cases h)
 refine df 14 ?_;refine dst 15 ?_;refine aV ?_
 have hrow:((R.rls U t).flatMap rlt).map AV.t++(rlt (R.rl (R.uf U t i) t)).map .t=((R.rls (R.step U t) (t+1)).flatMap rlt).map .t:=by rw[Rx,hue,←EE,EF]
 have hrow2:(rlt (R.rl (R.uf U t i) t)).map AV.t=((Fr4.of (cV (R.uf U t i) t)).tr false).map .t++[.t (.s false 52 4 (R.by9 (R.uf U t i) t).length (((R.by9 (R.uf U t i) t).map Fr4.of).flatMap (Fr4.tr false)))]:=by
  have h9:sQ false ((R.by9 (R.uf U t i) t).map Fr4.of)=.s false 52 4 (R.by9 (R.uf U t i) t).length (((R.by9 (R.uf U t i) t).map Fr4.of).flatMap (Fr4.tr false)):=by rw[sQ,dF]
  rw[←h9];rfl
 rw[hrow2]at hrow;have hrnl:(R.rls (R.step U t) (t+1)).length=t+1:=pC
 refine Ms (iH (j:=0) (k:=8) (p:=0) (e:=62) (z:=5) (n:=(R.rls U t).length+1) (trs:=(R.rls (R.step U t) (t+1)).flatMap rlt) rfl rfl rfl (congrArg (fun l:List AV=>some (⟨62,5,l⟩:Ob)) hrow) rfl (aN _ _ (by rw[bE gZ,hrnl,hrl])) (by rw[bE gZ,hrnl,hrl]) rfl) ?_
 exact wK <| hJ (lent':=[⟨95,0,[.t (dJ true (R.rls (R.step U t) (t+1))),.t (dG true true (R.vns (R.step U t) x c (R.vl t))),.t (dA true true (R.step U t)),.t (eC (R.own (R.step U t) (R.I t) t))]⟩]) (.inr rfl) rfl qT (by decide) (fun _ h=>by cases h) ⟨⟨rfl,rfl⟩,trivial⟩ ⟨(by have h9:(some ⟨95,0,[.t (.s true 62 5 ((R.rls U t).length+1) ((R.rls (R.step U t) (t+1)).flatMap rlt)),.t (dG true true (R.vns (R.uf U t i) x c (R.vl t))),.t (dA true true (R.uf U t i)),.t (eC (R.own (R.uf U t i) (R.I t) t))]⟩:Option Ob)=some ⟨95,0,[.t (dJ true (R.rls (R.step U t) (t+1))),.t (dG true true (R.vns (R.step U t) x c (R.vl t))),.t (dA true true (R.step U t)),.t (eC (R.own (R.step U t) (R.I t) t))]⟩:=(by rw[hue,dJ,hrnl,hrl]);exact h9),trivial⟩ ⟨rfl,trivial⟩ (fun h=>by cases h) ⟨rfl,rfl⟩
theorem MF {vs:List (Int×Rat)}{last y:Int}{put:Bool}{q:Rat}(hs:Sz 68719476736 q) (h0:0≤q) (hp:put=true→last<y) (hl:vs.length≤1073741822):aG false Tryz.prog 71 [⟨137,0,[.t (sR 102 vs),tv (.int .i64 last),tv (.bool put)]⟩,⟨113,1,(aI (dg 4294967296 q.num.natAbs)).map .t⟩,⟨113,1,(aI (dg 4294967296 q.den)).map .t⟩] [.one (.pt 0 0),.one (tv (.int .i64 y)),.agg [tv (.bool (aM q.num)),.sl 1 0 (dg 4294967296 q.num.natAbs).length,tv (.bool false),.sl 2 0 (dg 4294967296 q.den).length]] (Rt [⟨137,0,[.t (sR 102 (vs++if 0<q then [(y,q)]else [])),tv (.int .i64 y),tv (.bool true)]⟩,⟨113,1,(aI (dg 4294967296 q.num.natAbs)).map .t⟩,⟨113,1,(aI (dg 4294967296 q.den)).map .t⟩] (.one (tv (.int .i64 0)))):=by
 have h:=PT (a:=.of q) (last:=last) (y:=y) (put:=put) (Qn.of hs) hl
 rw[EH h0 hp,EI]at h
 exact h
set_option maxHeartbeats 4000000 in
theorem MG {R:Rg}{N t:Nat}(hOk:R.Ok N) (ht:t<N):aG false Tryz.prog 39 [⟨95,0,[.t (dJ true (R.rls (R.run t) t)),.t (dG true true (R.vns (R.run t) (R.ex (R.run t) t) (fun _ _=>(0:Rat)) (R.vl t))),.t (dA true true (R.run t)),.t (eC (R.own (R.run t) (R.I t) t))]⟩] [.one (.pt 0 0),.one (tv (.int .i64 ((R.f:Nat):Int))),.one (tv (.int .i64 ((t:Nat):Int))),.agg ((R.yrq t).map .t)] (Rt [⟨95,0,[.t (dJ true (R.rls (R.run (t+1)) (t+1))),.t (dG true true (R.vns (R.run (t+1)) (R.ex (R.run (t+1)) (t+1)) (fun _ _=>(0:Rat)) (R.vl (t+1)))),.t (dA true true (R.run (t+1))),.t (eC (R.own (R.run (t+1)) (R.I (t+1)) (t+1)))]⟩] (.tup [])):=by
 refine EC Tryz.func39 rfl Tryz.ntmps39 rfl aB rfl fun N9 M9 w9 c0 h0=>?_
 have hE:=hOk.e;have hN:=hOk.n;have hF:=hOk.f
 have hms:(R.ms t).length=R.E:=Lj
 have hbl:((R.bs t).map Fr4.of).length=R.E:=by rw[dF];exact nW
 refine sq (rl (bx 1 ?_));refine nl (sq (rl (o1 ?_)));refine o1 ?_;refine ld ?_;have hrl:=sA (R:=R) hOk (k:=t) (by omega)
 refine cl 2 [0] (ME (U:=(R.run t)) (x:=(R.ex (R.run t) t)) (c:=(fun _ _=>(0:Rat))) hOk (hOk.run (by omega)) ht (Qu (bC _)) (fun e _=>Qv (bC _)) hrl) XZ ⟨oe rfl rfl,rfl⟩ ⟨rfl,rfl,rfl,rfl⟩ (ok:=[some ⟨95,0,[.t (dJ true (R.rls (R.run (t+1)) (t+1))),.t (dG true true (R.vns (R.run (t+1)) (R.ex (R.run t) t) (fun _ _=>(0:Rat)) (R.vl t))),.t (dA true true (R.run (t+1))),.t (eC (R.own (R.run (t+1)) (R.I t) t))]⟩]) ⟨oe rfl rfl,rfl⟩ ?_
 refine nl (sq (sq (rl (o1 ?_))));refine ld ?_;refine o1 ?_;refine o1 ?_;refine nl (bl ?_)
 refine lp (γ:=Nat) (fun s=>bS [(0,.one (.pt 0 0)),(1,.one (tv (.int .i64 ((R.f:Nat):Int)))),(2,.one (tv (.int .i64 ((t:Nat):Int)))),(7,.one (.pt 1 0)),(20,.one (.t (gU (R.ms t)))),(21,.one (tv (.int .i64 (((R.ms t).length:Nat):Int)))),(22,.one (tv (.int .i64 ((s:Nat):Int))))]) (fun s=>[(⟨95,0,[.t (dJ true (R.rls (R.run (t+1)) (t+1))),.t (dG true true (R.vns (R.run (t+1)) (R.ex (R.run t) t) (fun _ _=>(0:Rat)) (R.vlk t s))),.t (dA true true (R.run (t+1))),.t (eC (R.own1 (R.run (t+1)) t s))]⟩:Ob),⟨67,0,(R.yrq t).map .t⟩].map some) (fun s=>s≤R.E) (fun s=>R.E-s) 0 (Nat.zero_le _) (dH h0 [0,1] ⟨oe rfl (by have h9:(some ⟨95,0,[.t (dJ true (R.rls (R.run (t+1)) (t+1))),.t (dG true true (R.vns (R.run (t+1)) (R.ex (R.run t) t) (fun _ _=>(0:Rat)) (R.vl t))),.t (dA true true (R.run (t+1))),.t (eC (R.own (R.run (t+1)) (R.I t) t))]⟩:Option Ob)=some ⟨95,0,[.t (dJ true (R.rls (R.run (t+1)) (t+1))),.t (dG true true (R.vns (R.run (t+1)) (R.ex (R.run t) t) (fun _ _=>(0:Rat)) (R.vlk t 0))),.t (dA true true (R.run (t+1))),.t (eC (R.own1 (R.run (t+1)) t 0))]⟩:=(by rw[Ci,Xs]);exact h9),aC rfl,rfl⟩) ?_
 rintro e he;refine sq (rl (o1 ?_));refine nl (sq ?_);refine bL rfl (fun h1=>?_) (fun h1=>?_)
 ·refine sk (sq (bl (sq ?_)));have he9:e<R.E:=by omega
  refine rl (o1 ?_);refine o1 ?_;refine eE ([.v (.bool (nU (R.ms t) (e)))]) (Jz (R.ms t) (k:=e) (by omega)) ?_
  refine o1 ?_;refine o1 ?_;refine nl ?_
  refine md (γ:=Unit) (fun _=>bS [(0,.one (.pt 0 0)),(1,.one (tv (.int .i64 ((R.f:Nat):Int)))),(2,.one (tv (.int .i64 ((t:Nat):Int)))),(7,.one (.pt 1 0)),(8,.one (tv (.int .i64 ((e:Nat):Int)))),(20,.one (.t (gU (R.ms t)))),(21,.one (tv (.int .i64 (((R.ms t).length:Nat):Int)))),(22,.one (tv (.int .i64 ((e:Nat):Int)))),(37,.one (tv (.bool (R.isV t e))))]) (fun _=>([⟨95,0,[.t ((dJ true (R.rls (R.run (t+1)) (t+1)))),.t ((dG true true (R.vns (R.run (t+1)) (R.ex (R.run t) t) (fun _ _=>(0:Rat)) (R.vlk t e)))),.t ((dA true true (R.run (t+1)))),.t ((eC (R.own1 (R.run (t+1)) t e)))]⟩,⟨67,0,[.t (gU (R.ms t)),.t (sQ false ((R.bs t).map Fr4.of)),tv (.bool (aM (R.lim t).num)),.t (sU false (dg 4294967296 (R.lim t).num.natAbs)),tv (.bool false),.t (sU false (dg 4294967296 (R.lim t).den))]⟩]:List Ob).map some) (fun _=>True) ?_ fun _ _=>?_
  ·refine rl (o1 ?_);refine WL.splitb (t:=27) rfl (fun h2=>?_) (fun h2=>?_)
   ·refine o1 ?_;refine o1 ?_;(iterate 7 refine dL ?_);refine o1 ?_;refine nl ?_
    exact⟨(),trivial,mJ h0 [0,1] _ _ (by decide) rfl ⟨rfl,rfl,rfl,rfl,rfl,rfl,rfl,rfl,nH (by unfold Rg.isV;rw[←rX he9];simp only[decide_eq_true h1,h2,Bool.not_true,Bool.not_false,Bool.or_true,Bool.true_or,Bool.false_or,Bool.or_false,Bool.false_eq_true,if_true,if_false,ite_true,ite_false,Bool.and_true,Bool.true_and,Bool.false_and,Bool.and_false,Bool.not_not] <;> first | rfl | (simp;done) | (rw[decide_eq_decide];exact(rZ _).symm)),trivial⟩ ⟨oe rfl rfl,oe rfl rfl,rfl⟩⟩
   (iterate 3 refine o1 ?_);refine ld ?_;refine o1 ?_;refine o1 ?_
   refine eE ((Fr4.of (R.base t e)).tr false) ((by rw[←nV he9,←pB (by rw[nW];exact he9)];exact iE ((R.bs t).map Fr4.of) (k:=e) (by omega))) ?_
   refine ca (oB (Qn.of (p:=(R.base t e)) ((hOk.base t e ht he9).mono (M:=68719476736) (by omega)))) wH ⟨aD rfl,rfl⟩ (.one (tv (.int .i64 (R.base t e).num.sign))) ?_
   refine o1 ?_;refine o1 ?_;refine nl ?_
   exact⟨(),trivial,mJ h0 [0,1] _ _ (by decide) rfl ⟨rfl,rfl,rfl,rfl,rfl,rfl,rfl,rfl,nH (by unfold Rg.isV;rw[←rX he9];simp only[decide_eq_true h1,h2,Bool.not_true,Bool.not_false,Bool.or_true,Bool.true_or,Bool.false_or,Bool.or_false,Bool.false_eq_true,if_true,if_false,ite_true,ite_false,Bool.and_true,Bool.true_and,Bool.false_and,Bool.and_false,Bool.not_not] <;> first | rfl | (simp;done) | (rw[decide_eq_decide];exact(rZ _).symm)),trivial⟩ ⟨oe rfl rfl,oe rfl rfl,rfl⟩⟩
  refine nC rfl (fun h3=>?_) (fun h3=>?_)
  ·refine sq ?_;have hv:R.isV t e=true:=h3
   have hpos:=(uZ hv).2
   rw[(uZ hv).1]at hpos;have hwl:=uW (R:=R) (U:=(R.run (t+1))) (e:=e) (I:=R.I t)
   have hIl:=uX (R:=R) (k:=t)
   have hsn:Sz 68719476736 (-(R.base t e)):=(uV (hOk.base t e ht he9)).mono (by omega)
   have hO1:(R.own1 (R.run (t+1)) t e).length=R.E:=iK
   have hvl8:=Gl (R:=R) hE (t:=t) (e:=e) he
   refine rl (o1 ?_);refine ld ?_;refine o1 ?_;refine o1 ?_
   refine eE ((Fr4.of (R.base t e)).tr false) ((by rw[←nV he9,←pB (by rw[nW];exact he9)];exact iE ((R.bs t).map Fr4.of) (k:=e) (by omega))) ?_
   refine iM 2 (VO (Qn.of (p:=(R.base t e)) ((hOk.base t e ht he9).mono (M:=68719476736) (by omega)))) RE ⟨aD rfl,rfl⟩ ?_
   refine al 4 ?_;refine st ?_;refine nl (sq ?_)
   refine WP.sub (oE (j:=0) (key:=5) (p:=3) (e:=96) (z:=1) (n:=(R.own1 (R.run (t+1)) t e).length) (trs:=(R.own1 (R.run (t+1)) t e).map eO) rfl rfl rfl rfl rfl) ?_
   refine WP.sub (Mr (j:=5) (key:=6) (p:=e) (e:=137) (trs:=[sR 102 (R.wl (R.run (t+1)) e (R.I t)),.v (.int .i64 (R.lp e t).1),.v (.bool (R.lp e t).2)]) rfl rfl (by rw[Ap (by omega),Ln he9];rfl) rfl) ?_
   refine rd [0,1,4,5] (fun i=>[].contains i) mixed ?_
   refine dv 0 ?_;refine dv 1 ?_;refine dv 2 ?_;refine aO 3 ?_;refine dv 4 ?_;refine dv 5 ?_
   refine La 6 (l:=(((R.own1 (R.run (t+1)) t e).map eO).map AV.t).set e (.pt 6 0)) (v:=.pt 6 0) (Eg (by rw[lJ];omega)) ?_
   refine dv 7 ?_;refine aO 8 ?_
   have hput:=MF (vs:=(R.wl (R.run (t+1)) e (R.I t))) (last:=(R.lp e t).1) (y:=((t:Nat):Int)) (put:=(R.lp e t).2) (q:=-(R.base t e)) hsn (Rat.le_of_lt hpos) HM (by omega)
   have hpw:(R.wl (R.run (t+1)) e (R.I t))++(if 0< -(R.base t e)then [(((t:Nat):Int),-(R.base t e))]else [])=(R.wl (R.run (t+1)) e (R.I t++[t])):=by rw[Xt,Ll (bC _),(uZ hv).1]
   rw[hpw]at hput
   refine Rq 9 7 [6,2,3] rfl hput YA ⟨oe rfl rfl,aC rfl,aC rfl,rfl⟩ ⟨rfl,rfl,rfl,rfl⟩ (ok:=[some ⟨137,0,[.t (sR 102 (R.wl (R.run (t+1)) e (R.I t++[t]))),tv (.int .i64 ((t:Nat):Int)),tv (.bool true)]⟩,some ⟨113,1,(aI (dg 4294967296 (-(R.base t e)).num.natAbs)).map .t⟩,some ⟨113,1,(aI (dg 4294967296 (-(R.base t e)).den)).map .t⟩]) ⟨oe rfl rfl,aC rfl,aC rfl,rfl⟩ ⟨rfl,rfl,rfl,rfl,trivial⟩ ?_
   refine aV ?_
   have hn1:(R.own1 (R.run (t+1)) t e).set e ((R.wl (R.run (t+1)) e (R.I t++[t])),((t:Nat):Int),true)=R.own1 (R.run (t+1)) t (e+1):=by rw[←Lo he9,OX hv]
   refine WP.sub (Gj (j:=5) (k:=6) (p:=e) (e:=137) (trs:=[sR 102 (R.wl (R.run (t+1)) e (R.I t++[t])),.v (.int .i64 ((t:Nat):Int)),.v (.bool true)]) (l':=((R.own1 (R.run (t+1)) t (e+1)).map eO).map .t) rfl rfl rfl (List.getElem?_set_self (by rw[lJ];omega)) ((Mp (x:=((R.wl (R.run (t+1)) e (R.I t++[t])),((t:Nat):Int),true))).trans (by rw[hn1]))) ?_
   refine WP.sub (iH (j:=0) (k:=5) (p:=3) (e:=96) (z:=1) (n:=(R.own1 (R.run (t+1)) t e).length) (trs:=(R.own1 (R.run (t+1)) t (e+1)).map eO) rfl rfl rfl rfl rfl (aN _ _ (by rw[dF,iK,iK];omega)) (by rw[dF,iK,iK];omega) rfl) ?_
   refine WP.sub (oE (j:=0) (key:=7) (p:=1) (e:=64) (z:=18) (n:=(R.vns (R.run (t+1)) (R.ex (R.run t) t) (fun _ _=>(0:Rat)) (R.vlk t e)).length) (trs:=(R.vns (R.run (t+1)) (R.ex (R.run t) t) (fun _ _=>(0:Rat)) (R.vlk t e)).flatMap (cF true)) rfl rfl rfl rfl rfl) ?_
   refine rd [0,1,4] (fun i=>[18].contains i) mixed ?_
   refine dv 0 ?_;refine dv 1 ?_;refine dv 2 ?_;refine dv 3 ?_;refine dv 4 ?_;refine aO 5 ?_;refine dv 6 ?_;refine dv 7 ?_;refine aO 8 ?_
   refine aX 9 rfl (iL (z:=0) (by omega) (by omega)) qN ⟨a1 rfl,rfl⟩ (qF (.of ((0:Int):Rat))) ?_
   refine aX 10 rfl (iL (z:=0) (by omega) (by omega)) qN ⟨a1 rfl,rfl⟩ (qF (.of ((0:Int):Rat))) ?_
   refine aX 11 rfl (iL (z:=0) (by omega) (by omega)) qN ⟨a1 rfl,rfl⟩ (qF (.of ((0:Int):Rat))) ?_
   refine df 12 ?_;refine iU (key:=8) 13 (by kernel_rfl) rfl rfl aB rfl ⟨rfl,rfl,rfl,trivial⟩ ?_
   refine kP (j:=9) (n:=(R.vns (R.run (t+1)) (R.ex (R.run t) t) (fun _ _=>(0:Rat)) (R.vlk t e)).length) (l:=((R.vns (R.run (t+1)) (R.ex (R.run t) t) (fun _ _=>(0:Rat)) (R.vlk t e)).flatMap (cF true)).map .t) 14 rfl aB rfl rfl rfl (.sl rfl (by rw[dF,bE (cQ true)])) (.sl rfl rfl rfl) rfl rfl (by rw[dP];omega) (by rw[dP];omega) rfl ⟨rfl,rfl,rfl,trivial⟩ rfl (by kernel_rfl) rfl ?_
   refine eQ 15 (by kernel_rfl) rfl rfl aB rfl (by trivial) ?_ (fun h=>by first | rfl | cases h)
   refine eQ 16 (by kernel_rfl) rfl rfl aB rfl (by trivial) ?_ (fun h=>by first | rfl | cases h)
   refine df 17 ?_;refine dst 18 ?_;refine aV ?_
   have hfin:R.vns (R.run (t+1)) (R.ex (R.run t) t) (fun _ _=>(0:Rat)) (R.vlk t e)++[⟨((t:Nat):Int),((e:Nat):Int),-(R.base t e),((0:Int):Rat),((0:Int):Rat),((0:Int):Rat)⟩]=R.vns (R.run (t+1)) (R.ex (R.run t) t) (fun _ _=>(0:Rat)) (R.vlk t (e+1)):=by
    rw[Qx hv,←Mt];unfold Rg.vn;rw[Fz (bC _),Xq (bC _),(uZ hv).1];rfl
   have hlen9:(R.vns (R.run (t+1)) (R.ex (R.run t) t) (fun _ _=>(0:Rat)) (R.vlk t (e+1))).length=(R.vns (R.run (t+1)) (R.ex (R.run t) t) (fun _ _=>(0:Rat)) (R.vlk t e)).length+1:=by rw[←hfin,cO];rfl
   refine WP.sub (iH (j:=9) (k:=2) (p:=(R.vns (R.run (t+1)) (R.ex (R.run t) t) (fun _ _=>(0:Rat)) (R.vlk t e)).length*18+3) (e:=113) (z:=1) (n:=(dg 4294967296 (-(R.base t e)).num.natAbs).length) (trs:=aI (dg 4294967296 (-(R.base t e)).num.natAbs)) rfl rfl rfl rfl (Dz (Ag _ true)) (bP _) (aP _) (Ea (Ag _ true))) ?_
   refine WP.sub (iH (j:=9) (k:=3) (p:=(R.vns (R.run (t+1)) (R.ex (R.run t) t) (fun _ _=>(0:Rat)) (R.vlk t e)).length*18+5) (e:=113) (z:=1) (n:=(dg 4294967296 (-(R.base t e)).den).length) (trs:=aI (dg 4294967296 (-(R.base t e)).den)) rfl rfl rfl rfl (Dz (Ag _ true)) (bP _) (aP _) (Ea (Ag _ true))) ?_
   refine WP.sub (iH (j:=0) (k:=9) (p:=1) (e:=64) (z:=18) (n:=(R.vns (R.run (t+1)) (R.ex (R.run t) t) (fun _ _=>(0:Rat)) (R.vlk t e)).length+1) (trs:=(R.vns (R.run (t+1)) (R.ex (R.run t) t) (fun _ _=>(0:Rat)) (R.vlk t (e+1))).flatMap (cF true)) rfl rfl rfl (congrArg (fun l:List AV=>some (⟨64,18,l⟩:Ob)) ((DJ (R.vns (R.run (t+1)) (R.ex (R.run t) t) (fun _ _=>(0:Rat)) (R.vlk t e)) ⟨((t:Nat):Int),((e:Nat):Int),-(R.base t e),((0:Int):Rat),((0:Int):Rat),((0:Int):Rat)⟩).trans (by rw[hfin]))) rfl (aN _ _ (by rw[bE (cQ true),hlen9])) (by rw[bE (cQ true),hlen9]) rfl) ?_
   refine rl (o1 ?_);refine aZ 72 (e+1) ?_
   refine o1 ?_;refine nl ?_
   exact⟨e+1,by omega,by omega,dH h0 [0,1] ⟨oe rfl (by have h9:(some ⟨95,0,[.t (dJ true (R.rls (R.run (t+1)) (t+1))),.t (.s true 64 18 ((R.vns (R.run (t+1)) (R.ex (R.run t) t) (fun _ _=>(0:Rat)) (R.vlk t e)).length+1) ((R.vns (R.run (t+1)) (R.ex (R.run t) t) (fun _ _=>(0:Rat)) (R.vlk t (e+1))).flatMap (cF true))),.t (dA true true (R.run (t+1))),.t (.s true 96 1 (R.own1 (R.run (t+1)) t e).length ((R.own1 (R.run (t+1)) t (e+1)).map eO))]⟩:Option Ob)=some ⟨95,0,[.t (dJ true (R.rls (R.run (t+1)) (t+1))),.t (dG true true (R.vns (R.run (t+1)) (R.ex (R.run t) t) (fun _ _=>(0:Rat)) (R.vlk t (e+1)))),.t (dA true true (R.run (t+1))),.t (eC (R.own1 (R.run (t+1)) t (e+1)))]⟩:=(by rw[dG,eC,hlen9,iK,iK]);exact h9),aC rfl,rfl⟩⟩
  refine sk ?_;have hv:R.isV t e=false:=h3
  refine rl (o1 ?_);refine aZ 72 (e+1) ?_
  refine o1 ?_;refine nl ?_;have hv1:R.vlk t (e+1)=R.vlk t e:=Xr hv
  have hv2:R.own1 (R.run (t+1)) t (e+1)=R.own1 (R.run (t+1)) t e:=KP he9 (fun e=>Ll (bC _)) hv
  exact⟨e+1,by omega,by omega,dH h0 [0,1] ⟨oe rfl (by have h9:(some ⟨95,0,[.t (dJ true (R.rls (R.run (t+1)) (t+1))),.t (dG true true (R.vns (R.run (t+1)) (R.ex (R.run t) t) (fun _ _=>(0:Rat)) (R.vlk t e))),.t (dA true true (R.run (t+1))),.t (eC (R.own1 (R.run (t+1)) t e))]⟩:Option Ob)=some ⟨95,0,[.t (dJ true (R.rls (R.run (t+1)) (t+1))),.t (dG true true (R.vns (R.run (t+1)) (R.ex (R.run t) t) (fun _ _=>(0:Rat)) (R.vlk t (e+1)))),.t (dA true true (R.run (t+1))),.t (eC (R.own1 (R.run (t+1)) t (e+1)))]⟩:=(by rw[hv1,hv2]);exact h9),aC rfl,rfl⟩⟩
 refine ex (sq ?_);have hee:e=R.E:=by omega
 subst hee;refine WP.sub (oE (j:=0) (key:=2) (p:=3) (e:=96) (z:=1) (n:=(R.own1 (R.run (t+1)) t R.E).length) (trs:=(R.own1 (R.run (t+1)) t R.E).map eO) rfl rfl rfl rfl rfl) ?_
 refine rl ?_;(iterate 3 refine o1 ?_);refine ld ?_;refine o1 ?_;refine o1 ?_;refine nl (bl ?_)
 have hx0:R.exk (R.run (t+1)) t 0 false=(R.ex (R.run t) t):=by rw[CX];exact Lm
 refine lp (γ:=Nat) (fun s=>bS [(0,.one (.pt 0 0)),(1,.one (tv (.int .i64 ((R.f:Nat):Int)))),(2,.one (tv (.int .i64 ((t:Nat):Int)))),(76,.one (.sl 1 0 (R.E))),(77,.one (tv (.int .i64 ((R.E:Nat):Int)))),(78,.one (tv (.int .i64 ((s:Nat):Int))))]) (fun s=>[(⟨95,0,[.t (dJ true (R.rls (R.run (t+1)) (t+1))),.t (dG true true (R.vns (R.run (t+1)) (R.exk (R.run (t+1)) t s false) (fun _ _=>(0:Rat)) (R.vl (t+1)))),.t (dA true true (R.run (t+1))),.sl 1 0 R.E]⟩:Ob),⟨96,1,((R.own2 (R.run (t+1)) t s).map eO).map .t⟩].map some) (fun s=>s≤R.E) (fun s=>R.E-s) 0 (Nat.zero_le _) (mJ h0 [0,2] _ _ (by decide) rfl ⟨rfl,rfl,rfl,(by rw[iK];rfl),qU (by rw[iK]),rfl,trivial⟩ ⟨oe rfl (by have h9:(some ⟨95,0,[.t (dJ true (R.rls (R.run (t+1)) (t+1))),.t (dG true true (R.vns (R.run (t+1)) (R.ex (R.run t) t) (fun _ _=>(0:Rat)) (R.vlk t R.E))),.t (dA true true (R.run (t+1))),.sl 2 0 (R.own1 (R.run (t+1)) t R.E).length]⟩:Option Ob)=some ⟨95,0,[.t (dJ true (R.rls (R.run (t+1)) (t+1))),.t (dG true true (R.vns (R.run (t+1)) (R.exk (R.run (t+1)) t 0 false) (fun _ _=>(0:Rat)) (R.vl (t+1)))),.t (dA true true (R.run (t+1))),.sl 2 0 R.E]⟩:=(by rw[hx0,iK,Qw]);exact h9),aC (by have h9:(some ⟨96,1,((R.own1 (R.run (t+1)) t R.E).map eO).map .t⟩:Option Ob)=some ⟨96,1,((R.own2 (R.run (t+1)) t 0).map eO).map .t⟩:=(by rw[CT]);exact h9),rfl⟩) ?_
 rintro q hq;refine sq (rl (o1 ?_));refine nl (sq ?_);refine bL rfl (fun h4=>?_) (fun h4=>?_)
 ·refine sk (sq (bl (sq ?_)));have hq9:q<R.E:=by omega
  have hIv:=hOk.run (k:=t+1) (by omega)
  have hal:=uW (R:=R) (U:=(R.run (t+1))) (e:=q) (I:=R.I t++[t])
  rw[cO,List.length_singleton]at hal;have hIl:=uX (R:=R) (k:=t)
  have hzz:∀x∈(R.wl (R.run (t+1)) q (R.I t++[t])),Sz 68719476736 x.2:=fun x hx=>by obtain⟨i,hi,rfl,_⟩:=jG.1 hx;exact(hIv.sz_left hOk (by rcases List.mem_append.1 hi with h | h;(have:=(kN.1 h).1;omega);(rw[List.mem_singleton]at h;omega)) hq9).mono (by omega)
  have hexp:=DU (vs:=(R.wl (R.run (t+1)) q (R.I t++[t]))) (last:=(R.lp q (t+1)).1) (put:=(R.lp q (t+1)).2) (b:=((t:Nat):Int)-((R.f:Nat):Int)+1) (by omega) hzz
  rw[RF,RG]at hexp
  refine WP.sub (Mr (j:=1) (key:=2) (p:=q) (e:=137) (trs:=[sR 102 (R.wl (R.run (t+1)) q (R.I t++[t])),.v (.int .i64 (R.lp q (t+1)).1),.v (.bool (R.lp q (t+1)).2)]) rfl rfl (by rw[Ap (by rw[Cj];exact hq9),CV hq9];rfl) rfl) ?_
  refine rl (o1 ?_);refine o1 ?_;refine Bp (l:=(((R.own2 (R.run (t+1)) t q).map eO).map AV.t).set q (.pt 2 0)) (v:=.pt 2 0) (Eg (by rw[lJ,Cj];exact hq9)) ?_
  refine o1 ?_;refine o1 ?_;refine nl (sq (rl ?_));(iterate 5 refine o1 ?_)
  refine cl 3 [2] hexp YB ⟨oe rfl rfl,rfl⟩ ⟨rfl,rfl,rfl⟩ (ok:=[some ⟨137,0,[.t (sR 102 (R.wl (R.run (t+1)) q (R.I (t+1)))),tv (.int .i64 (R.lp q (t+1)).1),tv (.bool (R.lp q (t+1)).2)]⟩]) ⟨oe rfl rfl,rfl⟩ ?_
  refine o1 ?_;refine o1 ?_;refine nl (bl ?_)
  refine WP.sub (PY (i:=88) (k:=3) (n:=(R.wl (R.run (t+1)) q (R.J t)).length) 102 rfl rfl rfl (bM true _) (Al true _) (.one .sl)) ?_
  refine WP.sub (Gj (j:=1) (k:=2) (p:=q) (e:=137) (trs:=[sR 102 (R.wl (R.run (t+1)) q (R.I (t+1))),.v (.int .i64 (R.lp q (t+1)).1),.v (.bool (R.lp q (t+1)).2)]) (l':=((R.own2 (R.run (t+1)) t (q+1)).map eO).map .t) rfl rfl rfl (List.getElem?_set_self (by rw[lJ,Cj];exact hq9)) ((Mp (x:=((R.wl (R.run (t+1)) q (R.I (t+1))),(R.lp q (t+1)).1,(R.lp q (t+1)).2))).trans (by rw[CW hq9]))) ?_
  refine WP.sub (oE (j:=0) (key:=4) (p:=1) (e:=64) (z:=18) (n:=(R.vns (R.run (t+1)) (R.exk (R.run (t+1)) t q false) (fun _ _=>(0:Rat)) (R.vl (t+1))).length) (trs:=(R.vns (R.run (t+1)) (R.exk (R.run (t+1)) t q false) (fun _ _=>(0:Rat)) (R.vl (t+1))).flatMap (cF true)) rfl rfl rfl rfl rfl) ?_
  refine lp (γ:=Nat) (fun s=>bS [(0,.one (.pt 0 0)),(1,.one (tv (.int .i64 ((R.f:Nat):Int)))),(2,.one (tv (.int .i64 ((t:Nat):Int)))),(11,.one (tv (.int .i64 ((q:Nat):Int)))),(76,.one (.sl 1 0 (R.E))),(77,.one (tv (.int .i64 ((R.E:Nat):Int)))),(78,.one (tv (.int .i64 ((q:Nat):Int)))),(88,.one (.t (sV 102 false (R.wl (R.run (t+1)) q (R.J t))))),(89,.one (tv (.int .i64 (((R.wl (R.run (t+1)) q (R.J t)).length:Nat):Int)))),(90,.one (tv (.int .i64 ((s:Nat):Int))))]) (fun s=>[(⟨95,0,[.t (dJ true (R.rls (R.run (t+1)) (t+1))),.sl 2 0 (R.vl (t+1)).length,.t (dA true true (R.run (t+1))),.sl 1 0 R.E]⟩:Ob),⟨96,1,((R.own2 (R.run (t+1)) t (q+1)).map eO).map .t⟩,⟨64,18,((R.vns (R.run (t+1)) (R.exk (R.run (t+1)) t q (decide (0<s))) (fun _ _=>(0:Rat)) (R.vl (t+1))).flatMap (cF true)).map .t⟩].map some) (fun s=>s≤(R.wl (R.run (t+1)) q (R.J t)).length) (fun s=>(R.wl (R.run (t+1)) q (R.J t)).length-s) 0 (Nat.zero_le _) (dH h0 [0,1,4] ⟨oe rfl (by have h9:(some ⟨95,0,[.t (dJ true (R.rls (R.run (t+1)) (t+1))),.sl 4 0 (R.vns (R.run (t+1)) (R.exk (R.run (t+1)) t q false) (fun _ _=>(0:Rat)) (R.vl (t+1))).length,.t (dA true true (R.run (t+1))),.sl 1 0 R.E]⟩:Option Ob)=some ⟨95,0,[.t (dJ true (R.rls (R.run (t+1)) (t+1))),.sl 4 0 (R.vl (t+1)).length,.t (dA true true (R.run (t+1))),.sl 1 0 R.E]⟩:=(by rw[dP]);exact h9),aC rfl,aC rfl,rfl⟩) ?_
  rintro k hk;refine sq (rl (o1 ?_));refine nl (sq ?_);refine bL rfl (fun h5=>?_) (fun h5=>?_)
  ·refine sk (sq (bl (sq (rl (o1 ?_)))));refine eE (cT false (aH (R.wl (R.run (t+1)) q (R.J t)) (k))) (uP false (by omega)) ?_
   refine al 3 ?_;refine st ?_;refine nl ?_;have hJ1:=Qy (R:=R) (U:=(R.run (t+1))) (e:=q) (t:=t)
   obtain⟨j,hj,hxe,hjp⟩:=jG.1 (mQ (vs:=(R.wl (R.run (t+1)) q (R.J t))) (k:=k) (by omega))
   have hj9:=Lq.1 hj
   have hx1:(aH (R.wl (R.run (t+1)) q (R.J t)) (k)).1=((j:Nat):Int):=by rw[hxe]
   have hx2:(aH (R.wl (R.run (t+1)) q (R.J t)) (k)).2=R.left (R.run (t+1)) j q:=by rw[hxe]
   have hk0:k=0:=by omega
   have hjv:R.isV j q=true:=by
    have h6:=(hIv.v j q (by omega) hq9).1.2
    cases h8:R.isV j q
    ·rw[Dv h8]at h6
     grind
    rfl
   have hjm:(j,q)∈R.vl (t+1):=gK.2 ⟨by dsimp only;omega,hq9,hjv⟩
   have hfi:(dD (cP (aH (R.wl (R.run (t+1)) q (R.J t)) (k)).1 ((q:Nat):Int)) (R.vns (R.run (t+1)) (R.exk (R.run (t+1)) t q (decide (0<k))) (fun _ _=>(0:Rat)) (R.vl (t+1))))<(R.vns (R.run (t+1)) (R.exk (R.run (t+1)) t q (decide (0<k))) (fun _ _=>(0:Rat)) (R.vl (t+1))).length:=by rw[hx1,dP];exact(yJ hjm).1
   have hvl9:=lK (R:=R) hE (t+1)
   have hge:(R.vns (R.run (t+1)) (R.exk (R.run (t+1)) t q (decide (0<k))) (fun _ _=>(0:Rat)) (R.vl (t+1)))[(dD (cP (aH (R.wl (R.run (t+1)) q (R.J t)) (k)).1 ((q:Nat):Int)) (R.vns (R.run (t+1)) (R.exk (R.run (t+1)) t q (decide (0<k))) (fun _ _=>(0:Rat)) (R.vl (t+1))))]? =some (R.vn (R.run (t+1)) (R.exk (R.run (t+1)) t q (decide (0<k))) (fun _ _=>(0:Rat)) (j,q)):=by rw[hx1];exact Ab hjm
   have hset:(R.vns (R.run (t+1)) (R.exk (R.run (t+1)) t q (decide (0<k))) (fun _ _=>(0:Rat)) (R.vl (t+1))).set (dD (cP (aH (R.wl (R.run (t+1)) q (R.J t)) (k)).1 ((q:Nat):Int)) (R.vns (R.run (t+1)) (R.exk (R.run (t+1)) t q (decide (0<k))) (fun _ _=>(0:Rat)) (R.vl (t+1)))) (⟨(R.vn (R.run (t+1)) (R.exk (R.run (t+1)) t q (decide (0<k))) (fun _ _=>(0:Rat)) (j,q)).y,(R.vn (R.run (t+1)) (R.exk (R.run (t+1)) t q (decide (0<k))) (fun _ _=>(0:Rat)) (j,q)).e,(R.vn (R.run (t+1)) (R.exk (R.run (t+1)) t q (decide (0<k))) (fun _ _=>(0:Rat)) (j,q)).l,(R.vn (R.run (t+1)) (R.exk (R.run (t+1)) t q (decide (0<k))) (fun _ _=>(0:Rat)) (j,q)).u,(aH (R.wl (R.run (t+1)) q (R.J t)) (k)).2,(R.vn (R.run (t+1)) (R.exk (R.run (t+1)) t q (decide (0<k))) (fun _ _=>(0:Rat)) (j,q)).c⟩:Vn)=(R.vns (R.run (t+1)) (R.exk (R.run (t+1)) t q (decide (0<(k+1)))) (fun _ _=>(0:Rat)) (R.vl (t+1))):=by
    rw[hx1,hx2]
    have h9:=Fv (R:=R) (U:=(R.run (t+1))) (U':=(R.run (t+1))) (x:=(R.exk (R.run (t+1)) t q (decide (0<k)))) (x':=(R.exk (R.run (t+1)) t q (decide (0<(k+1))))) (c:=(fun _ _=>(0:Rat))) (c':=(fun _ _=>(0:Rat))) (hG (t+1)) hjm fun p _ hp=>by
     unfold Rg.vn;have h8:(R.exk (R.run (t+1)) t q (decide (0<k))) p.1 p.2=(R.exk (R.run (t+1)) t q (decide (0<(k+1)))) p.1 p.2:=by
      subst hk0;unfold Rg.exk;by_cases h5:p.2<q
      ·rw[if_pos (.inl h5),if_pos (.inl h5)]
      by_cases h6:p.2=q
      ·have h7:p.1≠j:=fun h=>hp (Prod.ext h h6)
       rw[if_neg (by simp;omega),if_pos (.inr ⟨h6,by simp⟩)]
       unfold Rg.ex;by_cases h4:p.1+R.f<t
       ·rw[if_pos h4,if_pos (by omega)]
       rw[if_neg h4,if_neg (by omega)]
      rw[if_neg (by simp;omega),if_neg (by simp;omega)]
     rw[h8]
    rw[←h9];unfold Rg.vn;have h7:(R.exk (R.run (t+1)) t q (decide (0<(k+1)))) j q=R.left (R.run (t+1)) j q:=by
     unfold Rg.exk Rg.ex;rw[if_pos (by simp),if_pos (by omega)]
    rw[h7]
   refine rd [3] (fun i=>[9].contains i) mixed ?_
   refine dv 0 ?_;refine dv 1 ?_;refine aO 2 ?_;refine dv 3 ?_;refine dv 5 ?_;refine aO 6 ?_
   have hvi:=Bt (vs:=(R.vns (R.run (t+1)) (R.exk (R.run (t+1)) t q (decide (0<k))) (fun _ _=>(0:Rat)) (R.vl (t+1)))) (y:=(aH (R.wl (R.run (t+1)) q (R.J t)) (k)).1) (e:=((q:Nat):Int)) (ra:=(dJ true (R.rls (R.run (t+1)) (t+1)))) (rb:=(dA true true (R.run (t+1)))) (m:=R.E) (l3:=(R.own2 (R.run (t+1)) t (q+1)).map eO) hfi (by rw[dP];omega)
   rw[show(R.vns (R.run (t+1)) (R.exk (R.run (t+1)) t q (decide (0<k))) (fun _ _=>(0:Rat)) (R.vl (t+1))).length=(R.vl (t+1)).length from dP]at hvi
   refine RH 4 [0,2,1] rfl hvi EY ⟨oe rfl rfl,aC rfl,aC rfl,rfl⟩ ⟨rfl,rfl,rfl,rfl⟩ (ok:=[some ⟨95,0,[.t (dJ true (R.rls (R.run (t+1)) (t+1))),.sl 2 0 (R.vl (t+1)).length,.t (dA true true (R.run (t+1))),.sl 1 0 R.E]⟩,some ⟨64,18,((R.vns (R.run (t+1)) (R.exk (R.run (t+1)) t q (decide (0<k))) (fun _ _=>(0:Rat)) (R.vl (t+1))).flatMap (cF true)).map .t⟩,some ⟨96,1,((R.own2 (R.run (t+1)) t (q+1)).map eO).map .t⟩]) ⟨oe rfl rfl,aC rfl,aC rfl,rfl⟩ ⟨rfl,trivial⟩ ?_
   refine eQ 7 (by kernel_rfl) rfl rfl aB rfl (by trivial) ?_ (fun h=>by first | rfl | cases h)
   refine df 8 ?_
   refine lX 9 (dN (xs:=(R.vns (R.run (t+1)) (R.exk (R.run (t+1)) t q (decide (0<k))) (fun _ _=>(0:Rat)) (R.vl (t+1)))) (k:=(dD (cP (aH (R.wl (R.run (t+1)) q (R.J t)) (k)).1 ((q:Nat):Int)) (R.vns (R.run (t+1)) (R.exk (R.run (t+1)) t q (decide (0<k))) (fun _ _=>(0:Rat)) (R.vl (t+1))))) (x:=(R.vn (R.run (t+1)) (R.exk (R.run (t+1)) t q (decide (0<k))) (fun _ _=>(0:Rat)) (j,q))) (f:=(cF true)) (z:=18) (o:=10) (x':=(⟨(R.vn (R.run (t+1)) (R.exk (R.run (t+1)) t q (decide (0<k))) (fun _ _=>(0:Rat)) (j,q)).y,(R.vn (R.run (t+1)) (R.exk (R.run (t+1)) t q (decide (0<k))) (fun _ _=>(0:Rat)) (j,q)).e,(R.vn (R.run (t+1)) (R.exk (R.run (t+1)) t q (decide (0<k))) (fun _ _=>(0:Rat)) (j,q)).l,(R.vn (R.run (t+1)) (R.exk (R.run (t+1)) t q (decide (0<k))) (fun _ _=>(0:Rat)) (j,q)).u,(aH (R.wl (R.run (t+1)) q (R.J t)) (k)).2,(R.vn (R.run (t+1)) (R.exk (R.run (t+1)) t q (decide (0<k))) (fun _ _=>(0:Rat)) (j,q)).c⟩:Vn)) (us:=(Fr4.of (aH (R.wl (R.run (t+1)) q (R.J t)) (k)).2).tr false) (cQ true) (hge) (bN rfl) rfl) (eP (xs:=(R.vns (R.run (t+1)) (R.exk (R.run (t+1)) t q (decide (0<k))) (fun _ _=>(0:Rat)) (R.vl (t+1)))) (k:=(dD (cP (aH (R.wl (R.run (t+1)) q (R.J t)) (k)).1 ((q:Nat):Int)) (R.vns (R.run (t+1)) (R.exk (R.run (t+1)) t q (decide (0<k))) (fun _ _=>(0:Rat)) (R.vl (t+1))))) (f:=(cF true)) (z:=18) (o:=10) (us:=(Fr4.of (aH (R.wl (R.run (t+1)) q (R.J t)) (k)).2).tr false) (cQ true) (by omega) (bN rfl)) ?_
   refine aV ?_;refine rl (o1 ?_);refine aZ 103 (k+1) ?_
   refine o1 ?_;refine nl ?_
   exact⟨k+1,by omega,by omega,dH h0 [0,1,2] ⟨oe rfl rfl,aC rfl,aC (congrArg (fun l:List Vn=>some (⟨64,18,(l.flatMap (cF true)).map .t⟩:Ob)) hset),rfl⟩⟩
  refine ex ?_;have hJ1:=Qy (R:=R) (U:=(R.run (t+1))) (e:=q) (t:=t)
  have hxk:(R.exk (R.run (t+1)) t q (decide (0<k)))=(R.exk (R.run (t+1)) t (q+1) false):=by
   by_cases hk0:0<k
   ·rw[decide_eq_true hk0]
    exact Lp
   have hE0:(R.wl (R.run (t+1)) q (R.J t))=[]:=List.eq_nil_of_length_eq_zero (by omega)
   rw[decide_eq_false hk0,CY hIv ht hq9 hE0];exact Lp
  refine WP.sub (iH (j:=0) (k:=2) (p:=1) (e:=64) (z:=18) (n:=(R.vl (t+1)).length) (trs:=(R.vns (R.run (t+1)) (R.exk (R.run (t+1)) t (q+1) false) (fun _ _=>(0:Rat)) (R.vl (t+1))).flatMap (cF true)) rfl rfl rfl (congrArg (fun x:Nat→Nat→Rat=>some (⟨64,18,((R.vns (R.run (t+1)) x (fun _ _=>(0:Rat)) (R.vl (t+1))).flatMap (cF true)).map .t⟩:Ob)) hxk) rfl (aN _ _ (by rw[bE (cQ true),dP])) (by rw[bE (cQ true),dP]) rfl) ?_
  refine rl (o1 ?_);refine aZ 104 (q+1) ?_
  refine o1 ?_;refine nl ?_
  exact⟨q+1,by omega,by omega,dH h0 [0,1] ⟨oe rfl (by have h9:(some ⟨95,0,[.t (dJ true (R.rls (R.run (t+1)) (t+1))),.t (.s true 64 18 (R.vl (t+1)).length ((R.vns (R.run (t+1)) (R.exk (R.run (t+1)) t (q+1) false) (fun _ _=>(0:Rat)) (R.vl (t+1))).flatMap (cF true))),.t (dA true true (R.run (t+1))),.sl 1 0 R.E]⟩:Option Ob)=some ⟨95,0,[.t (dJ true (R.rls (R.run (t+1)) (t+1))),.t (dG true true (R.vns (R.run (t+1)) (R.exk (R.run (t+1)) t (q+1) false) (fun _ _=>(0:Rat)) (R.vl (t+1)))),.t (dA true true (R.run (t+1))),.sl 1 0 R.E]⟩:=(by rw[dG,dP]);exact h9),aC rfl,rfl⟩⟩
 refine ex ?_;have hqq:q=R.E:=by omega
 subst hqq
 refine Ms (iH (j:=0) (k:=1) (p:=3) (e:=96) (z:=1) (n:=R.E) (trs:=(R.own (R.run (t+1)) (R.I (t+1)) (t+1)).map eO) rfl rfl rfl (congrArg (fun l:List (List (Int×Rat)×Int×Bool)=>some (⟨96,1,(l.map eO).map .t⟩:Ob)) CU) rfl (aN _ _ (by rw[dF,kR];omega)) (by rw[dF,kR];omega) rfl) ?_
 have hvx:(R.vns (R.run (t+1)) (R.exk (R.run (t+1)) t R.E false) (fun _ _=>(0:Rat)) (R.vl (t+1)))=(R.vns (R.run (t+1)) (R.ex (R.run (t+1)) (t+1)) (fun _ _=>(0:Rat)) (R.vl (t+1))):=List.map_congr_left fun p hp=>by
  unfold Rg.vn;rw[KQ (gK.1 hp).2.1]
 exact wK <| hJ (lent':=[⟨95,0,[.t (dJ true (R.rls (R.run (t+1)) (t+1))),.t (dG true true (R.vns (R.run (t+1)) (R.ex (R.run (t+1)) (t+1)) (fun _ _=>(0:Rat)) (R.vl (t+1)))),.t (dA true true (R.run (t+1))),.t (eC (R.own (R.run (t+1)) (R.I (t+1)) (t+1)))]⟩]) (.inr rfl) rfl qT (by decide) (fun _ h=>by cases h) ⟨⟨rfl,rfl⟩,trivial⟩ ⟨(by have h9:(some ⟨95,0,[.t (dJ true (R.rls (R.run (t+1)) (t+1))),.t (dG true true (R.vns (R.run (t+1)) (R.exk (R.run (t+1)) t R.E false) (fun _ _=>(0:Rat)) (R.vl (t+1)))),.t (dA true true (R.run (t+1))),.t (.s true 96 1 R.E ((R.own (R.run (t+1)) (R.I (t+1)) (t+1)).map eO))]⟩:Option Ob)=some ⟨95,0,[.t (dJ true (R.rls (R.run (t+1)) (t+1))),.t (dG true true (R.vns (R.run (t+1)) (R.ex (R.run (t+1)) (t+1)) (fun _ _=>(0:Rat)) (R.vl (t+1)))),.t (dA true true (R.run (t+1))),.t (eC (R.own (R.run (t+1)) (R.I (t+1)) (t+1)))]⟩:=(by rw[hvx,eC,kR]);exact h9),trivial⟩ ⟨rfl,trivial⟩ (fun h=>by cases h) ⟨rfl,rfl⟩
set_option maxHeartbeats 4000000 in
theorem EZ {R:Rg}{ys:List Yr}(hb:∀y∈ys,(∀a∈y.b,a.ok)∧y.l.ok∧y.b.length≤1073741823) (hno:eZ ((R.f:Nat):Int) ys=0) (hE9:(aK ys 0).m.length=R.E) (hOk:R.Ok ys.length) (hyq:∀t,t<ys.length→eG (aK ys t)=R.yrq t):aG false Tryz.prog 12 [] [.one (tv (.int .i64 ((R.f:Nat):Int))),.one (.t (kY ys))] (aU (.tup [.agg [.t (dJ true (R.rls (R.run ys.length) ys.length)),.t (dG true true (R.vnE ys.length)),.t (dA true true (R.run ys.length))],.one (tv (.int .i64 0))])):=by
 refine cC Tryz.func12 rfl Tryz.ntmps12 rfl aB rfl fun N9 w9 c0 h0=>?_
 have hl:ys.length≤1073741823:=by have:=hOk.n;omega
 have hE6:=hOk.e;have hN:=hOk.n;have hF:=hOk.f
 refine sq (rl (al 0 ?_));refine o1 ?_;refine nl (sq (rl (al 1 ?_)));refine st ?_;refine nl ?_
 refine md (γ:=Unit) (fun _=>bS [(0,.one (tv (.int .i64 ((R.f:Nat):Int)))),(1,.one (.t (kY ys))),(4,.one (.pt 0 0)),(6,.one (.pt 1 0))]) (fun _=>([⟨39,0,[tv (.slice none 0 0),tv (.slice none 0 0),tv (.slice none 0 0)]⟩,⟨3,0,[tv (.int .i64 (((aK ys 0).m.length:Nat):Int))]⟩]:List Ob).map some) (fun _=>True) ?_ fun _ _=>?_
 ·refine sq (rl ?_);(iterate 3 refine o1 ?_);refine nl ?_;refine bL rfl (fun h1=>?_) (fun h1=>?_)
  ·refine rl ?_;(iterate 3 refine o1 ?_);refine eE ([gU (aK ys (0)).m]) (bH (f:=eG) (z:=6) (o:=0) dS (cY (by omega)) (bN rfl) rfl) ?_
   refine o1 ?_;refine st ?_;refine nl ?_;exact⟨(),trivial,aW h0 [0,1] ⟨oe rfl rfl,oe rfl rfl,rfl⟩⟩
  refine sk ?_
  exact⟨(),trivial,aW h0 [0,1] ⟨oe rfl rfl,oe rfl (by have h9:ys=[]:=(List.eq_nil_of_length_eq_zero (by omega));subst h9;rfl),rfl⟩⟩
 refine sq (bl (sq (WP.sub (Il (i:=6) (k:=1) (t:=3) (l:=[.v (.int .i64 (((aK ys 0).m.length:Nat):Int))]) rfl rfl rfl (.one .sl)) ?_)));refine rl ?_
 (iterate 3 refine o1 ?_);refine WL.split (t:=25) rfl (fun h2=>?_) (fun h2=>?_)
 ·refine dL ?_;refine dL ?_;refine o1 ?_;refine o1 ?_;(iterate 3 refine dL ?_);refine o1 ?_;refine o1 ?_;refine nl (jM rfl (sq (rl (o1 ?_))))
  refine st ?_;refine o1 ?_;refine nl (rt ?_)
  exact absurd (hno.symm.trans (show eZ ((R.f:Nat):Int) ys=2 by simp only[eZ,decide_eq_true h2,Bool.not_true,Bool.not_false,Bool.or_true,Bool.true_or,Bool.false_or,Bool.or_false,Bool.false_eq_true,if_true,if_false,ite_true,ite_false,Bool.and_true,Bool.true_and,Bool.false_and,Bool.and_false,Bool.not_not] <;> first | rfl | (simp;done) | (simp;omega))) (by decide)
 (iterate 4 refine o1 ?_);refine WL.split (t:=29) rfl (fun h3=>?_) (fun h3=>?_)
 ·(iterate 3 refine dL ?_);refine o1 ?_;refine o1 ?_;refine nl (jM rfl (sq (rl (o1 ?_))));refine st ?_;refine o1 ?_;refine nl (rt ?_)
  exact absurd (hno.symm.trans (show eZ ((R.f:Nat):Int) ys=2 by simp only[eZ,decide_eq_false h2,decide_eq_true h3,Bool.not_true,Bool.not_false,Bool.or_true,Bool.true_or,Bool.false_or,Bool.or_false,Bool.false_eq_true,if_true,if_false,ite_true,ite_false,Bool.and_true,Bool.true_and,Bool.false_and,Bool.and_false,Bool.not_not] <;> first | rfl | (simp;done) | (simp;omega))) (by decide)
 refine o1 ?_;refine o1 ?_
 refine ca (HW (xs:=ys) (dl:=(fun y=> !gV y (aK ys 0).m.length)) (fd:=36) (fst:=[]) (caps:=[.p false 3 [.v (.int .i64 (((aK ys 0).m.length:Nat):Int))]]) QL (fun y hy=>Xz (hb y hy).1 (hb y hy).2.1 (hb y hy).2.2) hl) QM ⟨a1 rfl,a1 rfl,rfl⟩ (.one (tv (.bool (ys.any (fun y=> !gV y (aK ys 0).m.length))))) ?_
 refine o1 ?_;refine o1 ?_;refine nl ?_;refine nC rfl (fun h4=>?_) (fun h4=>?_)
 ·refine sq (rl (o1 ?_));refine st ?_;refine o1 ?_;refine nl (rt ?_)
  exact absurd (hno.symm.trans (show eZ ((R.f:Nat):Int) ys=2 by simp only[eZ,decide_eq_false h2,decide_eq_false h3,h4,Bool.not_true,Bool.not_false,Bool.or_true,Bool.true_or,Bool.false_or,Bool.or_false,Bool.false_eq_true,if_true,if_false,ite_true,ite_false,Bool.and_true,Bool.true_and,Bool.false_and,Bool.and_false,Bool.not_not] <;> first | rfl | (simp;done) | (simp;omega))) (by decide)
 refine sq (rl ?_);(iterate 4 refine o1 ?_);refine nl ?_;refine bL rfl (fun h5=>?_) (fun h5=>?_)
 ·refine sq (rl (o1 ?_));refine st ?_;refine o1 ?_;refine nl (rt ?_)
  exact absurd (hno.symm.trans (show eZ ((R.f:Nat):Int) ys=3 by simp only[eZ,decide_eq_false h2,decide_eq_false h3,h4,decide_eq_true h5,Bool.not_true,Bool.not_false,Bool.or_true,Bool.true_or,Bool.false_or,Bool.or_false,Bool.false_eq_true,if_true,if_false,ite_true,ite_false,Bool.and_true,Bool.true_and,Bool.false_and,Bool.and_false,Bool.not_not] <;> first | rfl | (simp;done) | (simp;omega))) (by decide)
 refine sk (sq (rl (o1 ?_)));refine bx 2 ?_;refine o1 ?_;refine nl (sq (sq (WP.sub (Md (i:=6) rfl rfl) ?_)))
 refine WP.sub ((yR (j:=2) (key:=3) (e:=62) (z:=5) rfl rfl rfl (.sl (.id (.id (.id .nil))))).trans (iH (j:=2) (k:=3) (p:=0) (e:=62) (z:=5) (n:=0) (trs:=[]) rfl rfl rfl rfl rfl rfl rfl rfl)) ?_
 refine WP.sub ((yR (j:=2) (key:=4) (e:=64) (z:=18) rfl rfl rfl (.id (.sl (.id (.id .nil))))).trans (iH (j:=2) (k:=4) (p:=1) (e:=64) (z:=18) (n:=0) (trs:=[]) rfl rfl rfl rfl rfl rfl rfl rfl)) ?_
 refine WP.sub ((yR (j:=2) (key:=5) (e:=58) (z:=7) rfl rfl rfl (.id (.id (.sl (.id .nil))))).trans (iH (j:=2) (k:=5) (p:=2) (e:=58) (z:=7) (n:=0) (trs:=[]) rfl rfl rfl rfl rfl rfl rfl rfl)) ?_
 refine WP.sub (yR (j:=2) (key:=6) (e:=96) (z:=1) rfl rfl rfl (.id (.id (.id (.sl .nil))))) ?_;refine rl ?_
 refine eE ([.v (.int .i64 (((aK ys 0).m.length:Nat):Int))]) rfl ?_;refine WL.cast (t:=42) (u':=.int .i64 ((R.E:Nat):Int)) rfl (dZ (by rw[hE9])) ?_
 refine o1 ?_;refine nl (bl ?_)
 refine lp (γ:=Nat) (fun s=>bS [(0,.one (tv (.int .i64 ((R.f:Nat):Int)))),(1,.one (.t (kY ys))),(4,.one (.pt 0 0)),(7,.one (.pt 1 0)),(42,.one (tv (.int .i64 ((R.E:Nat):Int)))),(43,.one (tv (.int .i64 ((s:Nat):Int))))]) (fun s=>[(⟨39,0,[tv (.slice none 0 0),tv (.slice none 0 0),tv (.slice none 0 0)]⟩:Ob),⟨95,0,[.t (dJ true (R.rls (R.run 0) 0)),.t (dG true true (R.vns (R.run 0) (R.ex (R.run 0) 0) (fun _ _=>(0:Rat)) (R.vl 0))),.t (dA true true (R.run 0)),.sl 2 0 s]⟩,⟨96,1,((pJ s).map eO).map .t⟩].map some) (fun s=>s≤R.E) (fun s=>R.E-s) 0 (Nat.zero_le _) (aW h0 [0,2,6] ⟨oe rfl rfl,oe rfl rfl,aC rfl,rfl⟩) ?_
 rintro k hk;refine sq (rl (o1 ?_));refine nl (sq ?_);refine bL rfl (fun h6=>?_) (fun h6=>?_)
 ·refine sk (sq (bl ?_));refine rd [0,1] (fun i=>[8,9,10].contains i) mixed ?_
  refine dv 0 ?_;refine dv 1 ?_;refine dv 2 ?_;refine dv 3 ?_;refine aO 4 ?_;refine jX 3 5 rfl (UX) YC rfl ?_
  refine iU (key:=4) 6 (by kernel_rfl) rfl rfl aB rfl ⟨rfl,rfl,trivial⟩ ?_
  refine kP (j:=5) (n:=k) (l:=((pJ k).map eO).map .t) 7 rfl aB rfl rfl rfl (.sl rfl (by rw[vA,Nat.mul_one])) (.sl rfl rfl rfl) rfl rfl (by omega) (by omega) rfl ⟨rfl,rfl,trivial⟩ rfl (by kernel_rfl) rfl ?_
  refine eQ 8 (by kernel_rfl) rfl rfl aB rfl (by trivial) ?_ (fun h=>by first | rfl | cases h)
  refine eQ 9 (by kernel_rfl) rfl rfl aB rfl (by trivial) ?_ (fun h=>by first | rfl | cases h)
  refine dst 10 ?_;refine aV ?_
  refine WP.sub (Gj (j:=5) (k:=3) (p:=k) (e:=137) (trs:=[sR 102 [],.v (.int .i64 0),.v (.bool false)]) (l':=((pJ (k+1)).map eO).map .t) rfl rfl rfl QO LQ) ?_
  refine rl (o1 ?_);refine aZ 55 (k+1) ?_
  refine o1 ?_;refine nl ?_;exact⟨k+1,by omega,by omega,aW h0 [0,1,5] ⟨oe rfl rfl,oe rfl rfl,aC rfl,rfl⟩⟩
 refine ex (sq (sq ?_));have hkE:k=R.E:=by omega
 subst hkE
 refine WP.sub (iH (j:=1) (k:=2) (p:=3) (e:=96) (z:=1) (n:=R.E) (trs:=(pJ R.E).map eO) rfl rfl rfl rfl rfl (aN _ _ (by rw[dF,wP,Nat.mul_one])) (by rw[dF,wP,Nat.mul_one]) rfl) ?_
 refine rl ?_;(iterate 3 refine o1 ?_);refine nl (bl ?_)
 refine lp (γ:=Nat) (fun s=>bS [(0,.one (tv (.int .i64 ((R.f:Nat):Int)))),(4,.one (.pt 0 0)),(7,.one (.pt 1 0)),(56,.one (.t (kY ys))),(57,.one (tv (.int .i64 ((ys.length:Nat):Int)))),(58,.one (tv (.int .i64 ((s:Nat):Int))))]) (fun s=>[(⟨39,0,[tv (.slice none 0 0),tv (.slice none 0 0),tv (.slice none 0 0)]⟩:Ob),⟨95,0,[.t (dJ true (R.rls (R.run s) s)),.t (dG true true (R.vns (R.run s) (R.ex (R.run s) s) (fun _ _=>(0:Rat)) (R.vl s))),.t (dA true true (R.run s)),.t (eC (R.own (R.run s) (R.I s) s))]⟩].map some) (fun s=>s≤ys.length) (fun s=>ys.length-s) 0 (Nat.zero_le _) (aW h0 [0,1] ⟨oe rfl rfl,oe rfl (by have h9:(some ⟨95,0,[.t (dJ true (R.rls (R.run 0) 0)),.t (dG true true (R.vns (R.run 0) (R.ex (R.run 0) 0) (fun _ _=>(0:Rat)) (R.vl 0))),.t (dA true true (R.run 0)),.t (.s true 96 1 R.E ((pJ R.E).map eO))]⟩:Option Ob)=some ⟨95,0,[.t (dJ true (R.rls (R.run 0) 0)),.t (dG true true (R.vns (R.run 0) (R.ex (R.run 0) 0) (fun _ _=>(0:Rat)) (R.vl 0))),.t (dA true true (R.run 0)),.t (eC (R.own (R.run 0) (R.I 0) 0))]⟩:=(by rw[EP]);exact h9),rfl⟩) ?_
 rintro t ht;refine sq (rl (o1 ?_));refine nl (sq ?_);refine bL rfl (fun h7=>?_) (fun h7=>?_)
 ·refine sk (sq (bl (sq (rl (o1 ?_)))));refine o1 ?_
  refine eE (R.yrq t) ((by rw[←hyq t (by omega)];exact(bH (f:=eG) (z:=6) (o:=0) dS (cY (by omega)) (bN rfl) rfl))) ?_
  refine al 2 ?_;refine o1 ?_;refine st ?_;refine nl (rl ?_);(iterate 3 refine o1 ?_);refine ld ?_
  refine cl 3 [1] (MG (t:=t) hOk (by omega)) YD ⟨oe rfl rfl,rfl⟩ ⟨rfl,rfl,rfl,rfl,rfl⟩ (ok:=[some ⟨95,0,[.t (dJ true (R.rls (R.run (t+1)) (t+1))),.t (dG true true (R.vns (R.run (t+1)) (R.ex (R.run (t+1)) (t+1)) (fun _ _=>(0:Rat)) (R.vl (t+1)))),.t (dA true true (R.run (t+1))),.t (eC (R.own (R.run (t+1)) (R.I (t+1)) (t+1)))]⟩]) ⟨oe rfl rfl,rfl⟩ ?_
  refine nl (rl (o1 ?_));refine aZ 68 (t+1) ?_
  refine o1 ?_;refine nl ?_;exact⟨t+1,by omega,by omega,aW h0 [0,1] ⟨oe rfl rfl,oe rfl rfl,rfl⟩⟩
 refine ex (sq (sq ?_));have htt:t=ys.length:=by omega
 subst htt;have hIv:=hOk.run (bC ys.length)
 have hvl9:=lK (R:=R) hE6 ys.length
 have hck0:(R.vns (R.run ys.length) (R.ex (R.run ys.length) ys.length) (fun _ _=>(0:Rat)) (R.vl ys.length))=(R.vns (R.run ys.length) (R.ex (R.run ys.length) ys.length) (R.clk (R.run ys.length) ys.length 0 0) (R.vl ys.length)):=by rw[DA]
 refine WP.sub (oE (j:=1) (key:=2) (p:=1) (e:=64) (z:=18) (n:=(R.vns (R.run ys.length) (R.ex (R.run ys.length) ys.length) (fun _ _=>(0:Rat)) (R.vl ys.length)).length) (trs:=(R.vns (R.run ys.length) (R.ex (R.run ys.length) ys.length) (fun _ _=>(0:Rat)) (R.vl ys.length)).flatMap (cF true)) rfl rfl rfl rfl rfl) ?_
 refine WP.sub (oE (j:=1) (key:=3) (p:=3) (e:=96) (z:=1) (n:=(R.own (R.run ys.length) (R.I ys.length) ys.length).length) (trs:=(R.own (R.run ys.length) (R.I ys.length) ys.length).map eO) rfl rfl rfl rfl rfl) ?_
 refine rl ?_;(iterate 3 refine o1 ?_);refine ld ?_;refine o1 ?_;refine o1 ?_;refine nl (bl ?_)
 refine lp (γ:=Nat) (fun s=>bS [(4,.one (.pt 0 0)),(7,.one (.pt 1 0)),(72,.one (.sl 3 0 (R.E))),(73,.one (tv (.int .i64 ((R.E:Nat):Int)))),(74,.one (tv (.int .i64 ((s:Nat):Int))))]) (fun s=>[(⟨39,0,[tv (.slice none 0 0),tv (.slice none 0 0),tv (.slice none 0 0)]⟩:Ob),⟨95,0,[.t (dJ true (R.rls (R.run ys.length) ys.length)),.sl 2 0 (R.vl ys.length).length,.t (dA true true (R.run ys.length)),.sl 3 0 R.E]⟩,⟨64,18,((R.vns (R.run ys.length) (R.ex (R.run ys.length) ys.length) (R.clk (R.run ys.length) ys.length s 0) (R.vl ys.length)).flatMap (cF true)).map .t⟩,⟨96,1,((R.own (R.run ys.length) (R.I ys.length) ys.length).map eO).map .t⟩].map some) (fun s=>s≤R.E) (fun s=>R.E-s) 0 (Nat.zero_le _) (kM h0 [0,1,2,3] _ _ (by decide) ⟨rfl,rfl,(by rw[kR];rfl),qU (by rw[kR]),rfl,trivial⟩ ⟨oe rfl rfl,oe rfl (by have h9:(some ⟨95,0,[.t (dJ true (R.rls (R.run ys.length) ys.length)),.sl 2 0 (R.vns (R.run ys.length) (R.ex (R.run ys.length) ys.length) (fun _ _=>(0:Rat)) (R.vl ys.length)).length,.t (dA true true (R.run ys.length)),.sl 3 0 (R.own (R.run ys.length) (R.I ys.length) ys.length).length]⟩:Option Ob)=some ⟨95,0,[.t (dJ true (R.rls (R.run ys.length) ys.length)),.sl 2 0 (R.vl ys.length).length,.t (dA true true (R.run ys.length)),.sl 3 0 R.E]⟩:=(by rw[dP,kR]);exact h9),aC (congrArg (fun l:List Vn=>some (⟨64,18,(l.flatMap (cF true)).map .t⟩:Ob)) hck0),aC rfl,rfl⟩) ?_
 rintro q hq;refine sq (rl (o1 ?_));refine nl (sq ?_);refine bL rfl (fun h8=>?_) (fun h8=>?_)
 ·refine sk (sq (bl (sq ?_)));have hq9:q<R.E:=by omega
  have hwl:=uW (R:=R) (U:=(R.run ys.length)) (e:=q) (I:=R.I ys.length)
  have hIl:=uX (R:=R) (k:=ys.length)
  have hle9:dM (R.own (R.run ys.length) (R.I ys.length) ys.length) q=((R.wl (R.run ys.length) q (R.I ys.length)),(R.lp q ys.length).1,(R.lp q ys.length).2):=Fx hq9
  have hol9:(R.own (R.run ys.length) (R.I ys.length) ys.length).length=R.E:=kR
  have hzz:∀x∈(R.wl (R.run ys.length) q (R.I ys.length)),Sz 68719476736 x.2:=fun x hx=>by obtain⟨i,hi,rfl,_⟩:=jG.1 hx;exact(hIv.sz_left hOk (kN.1 hi).1 hq9).mono (by omega)
  refine WP.sub (Mr (j:=3) (key:=4) (p:=q) (e:=137) (trs:=[sR 102 (R.wl (R.run ys.length) q (R.I ys.length)),.v (.int .i64 (R.lp q ys.length).1),.v (.bool (R.lp q ys.length).2)]) rfl rfl (by rw[Ap (by omega),hle9];rfl) rfl) ?_
  refine rl (o1 ?_);refine o1 ?_
  refine Bp (l:=(((R.own (R.run ys.length) (R.I ys.length) ys.length).map eO).map AV.t).set q (.pt 4 0)) (v:=.pt 4 0) (Eg (by rw[lJ];omega)) ?_
  refine o1 ?_;refine o1 ?_;refine nl (sq (rl (o1 ?_)))
  refine iM 5 (Yf (vs:=(R.wl (R.run ys.length) q (R.I ys.length))) (rest:=[.v (.int .i64 (R.lp q ys.length).1),.v (.bool (R.lp q ys.length).2)]) hzz (by omega)) QA ⟨xT rfl (.pe (trs:=[sR 102 (R.wl (R.run ys.length) q (R.I ys.length)),.v (.int .i64 (R.lp q ys.length).1),.v (.bool (R.lp q ys.length).2)]) rfl rfl rfl (by simp only[rdTL,nF,sR,sV,Al])),rfl⟩ ?_
  refine o1 ?_;refine o1 ?_;refine nl (bl ?_)
  refine WP.sub (PY (i:=80) (k:=5) (n:=(R.wl (R.run ys.length) q (R.I ys.length)).length) 102 rfl rfl rfl (bM true _) (Al true _) (.one .sl)) ?_
  refine WP.sub (Gj (j:=3) (k:=4) (p:=q) (e:=137) (trs:=[sR 102 (R.wl (R.run ys.length) q (R.I ys.length)),.v (.int .i64 (R.lp q ys.length).1),.v (.bool (R.lp q ys.length).2)]) (l':=((R.own (R.run ys.length) (R.I ys.length) ys.length).map eO).map .t) rfl rfl rfl (List.getElem?_set_self (by rw[lJ];omega)) (Rs (x:=((R.wl (R.run ys.length) q (R.I ys.length)),(R.lp q ys.length).1,(R.lp q ys.length).2)) (by omega) hle9)) ?_
  refine lp (γ:=Nat) (fun s=>bS [(4,.one (.pt 0 0)),(7,.one (.pt 1 0)),(10,.one (tv (.int .i64 ((q:Nat):Int)))),(72,.one (.sl 3 0 (R.E))),(73,.one (tv (.int .i64 ((R.E:Nat):Int)))),(74,.one (tv (.int .i64 ((q:Nat):Int)))),(80,.one (.t (sV 102 false (R.wl (R.run ys.length) q (R.I ys.length))))),(81,.one (tv (.int .i64 (((R.wl (R.run ys.length) q (R.I ys.length)).length:Nat):Int)))),(82,.one (tv (.int .i64 ((s:Nat):Int))))]) (fun s=>[(⟨39,0,[tv (.slice none 0 0),tv (.slice none 0 0),tv (.slice none 0 0)]⟩:Ob),⟨95,0,[.t (dJ true (R.rls (R.run ys.length) ys.length)),.sl 2 0 (R.vl ys.length).length,.t (dA true true (R.run ys.length)),.sl 3 0 R.E]⟩,⟨64,18,((R.vns (R.run ys.length) (R.ex (R.run ys.length) ys.length) (R.clk (R.run ys.length) ys.length q s) (R.vl ys.length)).flatMap (cF true)).map .t⟩,⟨96,1,((R.own (R.run ys.length) (R.I ys.length) ys.length).map eO).map .t⟩].map some) (fun s=>s≤(R.wl (R.run ys.length) q (R.I ys.length)).length) (fun s=>(R.wl (R.run ys.length) q (R.I ys.length)).length-s) 0 (Nat.zero_le _) (aW h0 [0,1,2,3] ⟨oe rfl rfl,oe rfl rfl,aC rfl,aC rfl,rfl⟩) ?_
  rintro k hk;refine sq (rl (o1 ?_));refine nl (sq ?_);refine bL rfl (fun h9=>?_) (fun h9=>?_)
  ·refine sk (sq (bl (sq (rl (o1 ?_)))))
   refine eE (cT false (aH (R.wl (R.run ys.length) q (R.I ys.length)) (k))) (uP false (by omega)) ?_
   refine al 4 ?_;refine st ?_;refine nl ?_;obtain⟨j,hx,hj0,hjn,hjf⟩:=UO (R:=R) (U:=(R.run ys.length)) (q:=q) (n:=ys.length) (k:=k) (by omega)
   have hx1:(aH (R.wl (R.run ys.length) q (R.I ys.length)) (k)).1=((j:Nat):Int):=by rw[hx]
   have hx2:(aH (R.wl (R.run ys.length) q (R.I ys.length)) (k)).2=R.left (R.run ys.length) j q:=by rw[hx]
   have hjv:R.isV j q=true:=by
    have h6:=(hIv.v j q hjn hq9).1.2
    cases h8:R.isV j q
    ·rw[Dv h8]at h6
     grind
    rfl
   have hjm:(j,q)∈(R.vl ys.length):=gK.2 ⟨hjn,hq9,hjv⟩
   have hfi:(dD (cP (aH (R.wl (R.run ys.length) q (R.I ys.length)) (k)).1 ((q:Nat):Int)) (R.vns (R.run ys.length) (R.ex (R.run ys.length) ys.length) (R.clk (R.run ys.length) ys.length q k) (R.vl ys.length)))<(R.vns (R.run ys.length) (R.ex (R.run ys.length) ys.length) (R.clk (R.run ys.length) ys.length q k) (R.vl ys.length)).length:=by rw[hx1,dP];exact(yJ hjm).1
   have hge:(R.vns (R.run ys.length) (R.ex (R.run ys.length) ys.length) (R.clk (R.run ys.length) ys.length q k) (R.vl ys.length))[(dD (cP (aH (R.wl (R.run ys.length) q (R.I ys.length)) (k)).1 ((q:Nat):Int)) (R.vns (R.run ys.length) (R.ex (R.run ys.length) ys.length) (R.clk (R.run ys.length) ys.length q k) (R.vl ys.length)))]? =some (R.vn (R.run ys.length) (R.ex (R.run ys.length) ys.length) (R.clk (R.run ys.length) ys.length q k) (j,q)):=by rw[hx1];exact Ab hjm
   have hset:(R.vns (R.run ys.length) (R.ex (R.run ys.length) ys.length) (R.clk (R.run ys.length) ys.length q k) (R.vl ys.length)).set (dD (cP (aH (R.wl (R.run ys.length) q (R.I ys.length)) (k)).1 ((q:Nat):Int)) (R.vns (R.run ys.length) (R.ex (R.run ys.length) ys.length) (R.clk (R.run ys.length) ys.length q k) (R.vl ys.length))) (⟨(R.vn (R.run ys.length) (R.ex (R.run ys.length) ys.length) (R.clk (R.run ys.length) ys.length q k) (j,q)).y,(R.vn (R.run ys.length) (R.ex (R.run ys.length) ys.length) (R.clk (R.run ys.length) ys.length q k) (j,q)).e,(R.vn (R.run ys.length) (R.ex (R.run ys.length) ys.length) (R.clk (R.run ys.length) ys.length q k) (j,q)).l,(R.vn (R.run ys.length) (R.ex (R.run ys.length) ys.length) (R.clk (R.run ys.length) ys.length q k) (j,q)).u,(R.vn (R.run ys.length) (R.ex (R.run ys.length) ys.length) (R.clk (R.run ys.length) ys.length q k) (j,q)).x,(aH (R.wl (R.run ys.length) q (R.I ys.length)) (k)).2⟩:Vn)=(R.vns (R.run ys.length) (R.ex (R.run ys.length) ys.length) (R.clk (R.run ys.length) ys.length q (k+1)) (R.vl ys.length)):=by
    rw[hx1,hx2]
    have h9:=Fv (R:=R) (U:=(R.run ys.length)) (U':=(R.run ys.length)) (x:=(R.ex (R.run ys.length) ys.length)) (x':=(R.ex (R.run ys.length) ys.length)) (c:=(R.clk (R.run ys.length) ys.length q k)) (c':=(R.clk (R.run ys.length) ys.length q (k+1))) (hG ys.length) hjm fun p _ hp=>by
     unfold Rg.vn;rw[DF (by omega) hx fun h=>hp (Prod.ext h.1 h.2)]
    rw[←h9];unfold Rg.vn;rw[KS (by omega) hx hjf]
   refine rd [0,4] (fun i=>[9].contains i) mixed ?_
   refine dv 0 ?_;refine dv 1 ?_;refine aO 2 ?_;refine dv 3 ?_;refine dv 5 ?_;refine aO 6 ?_
   have hvi:=Bt (vs:=(R.vns (R.run ys.length) (R.ex (R.run ys.length) ys.length) (R.clk (R.run ys.length) ys.length q k) (R.vl ys.length))) (y:=(aH (R.wl (R.run ys.length) q (R.I ys.length)) (k)).1) (e:=((q:Nat):Int)) (ra:=(dJ true (R.rls (R.run ys.length) ys.length))) (rb:=(dA true true (R.run ys.length))) (m:=R.E) (l3:=(R.own (R.run ys.length) (R.I ys.length) ys.length).map eO) hfi (by rw[dP];omega)
   rw[show(R.vns (R.run ys.length) (R.ex (R.run ys.length) ys.length) (R.clk (R.run ys.length) ys.length q k) (R.vl ys.length)).length=(R.vl ys.length).length from dP]at hvi
   refine RH 4 [1,2,3] rfl hvi EY ⟨oe rfl rfl,aC rfl,aC rfl,rfl⟩ ⟨rfl,rfl,rfl,rfl⟩ (ok:=[some ⟨95,0,[.t (dJ true (R.rls (R.run ys.length) ys.length)),.sl 2 0 (R.vl ys.length).length,.t (dA true true (R.run ys.length)),.sl 3 0 R.E]⟩,some ⟨64,18,((R.vns (R.run ys.length) (R.ex (R.run ys.length) ys.length) (R.clk (R.run ys.length) ys.length q k) (R.vl ys.length)).flatMap (cF true)).map .t⟩,some ⟨96,1,((R.own (R.run ys.length) (R.I ys.length) ys.length).map eO).map .t⟩]) ⟨oe rfl rfl,aC rfl,aC rfl,rfl⟩ ⟨rfl,rfl,trivial⟩ ?_
   refine eQ 7 (by kernel_rfl) rfl rfl aB rfl (by trivial) ?_ (fun h=>by first | rfl | cases h)
   refine df 8 ?_
   refine lX 9 (dN (xs:=(R.vns (R.run ys.length) (R.ex (R.run ys.length) ys.length) (R.clk (R.run ys.length) ys.length q k) (R.vl ys.length))) (k:=(dD (cP (aH (R.wl (R.run ys.length) q (R.I ys.length)) (k)).1 ((q:Nat):Int)) (R.vns (R.run ys.length) (R.ex (R.run ys.length) ys.length) (R.clk (R.run ys.length) ys.length q k) (R.vl ys.length)))) (x:=(R.vn (R.run ys.length) (R.ex (R.run ys.length) ys.length) (R.clk (R.run ys.length) ys.length q k) (j,q))) (f:=(cF true)) (z:=18) (o:=14) (x':=(⟨(R.vn (R.run ys.length) (R.ex (R.run ys.length) ys.length) (R.clk (R.run ys.length) ys.length q k) (j,q)).y,(R.vn (R.run ys.length) (R.ex (R.run ys.length) ys.length) (R.clk (R.run ys.length) ys.length q k) (j,q)).e,(R.vn (R.run ys.length) (R.ex (R.run ys.length) ys.length) (R.clk (R.run ys.length) ys.length q k) (j,q)).l,(R.vn (R.run ys.length) (R.ex (R.run ys.length) ys.length) (R.clk (R.run ys.length) ys.length q k) (j,q)).u,(R.vn (R.run ys.length) (R.ex (R.run ys.length) ys.length) (R.clk (R.run ys.length) ys.length q k) (j,q)).x,(aH (R.wl (R.run ys.length) q (R.I ys.length)) (k)).2⟩:Vn)) (us:=(Fr4.of (aH (R.wl (R.run ys.length) q (R.I ys.length)) (k)).2).tr false) (cQ true) (hge) (bN rfl) rfl) (eP (xs:=(R.vns (R.run ys.length) (R.ex (R.run ys.length) ys.length) (R.clk (R.run ys.length) ys.length q k) (R.vl ys.length))) (k:=(dD (cP (aH (R.wl (R.run ys.length) q (R.I ys.length)) (k)).1 ((q:Nat):Int)) (R.vns (R.run ys.length) (R.ex (R.run ys.length) ys.length) (R.clk (R.run ys.length) ys.length q k) (R.vl ys.length)))) (f:=(cF true)) (z:=18) (o:=14) (us:=(Fr4.of (aH (R.wl (R.run ys.length) q (R.I ys.length)) (k)).2).tr false) (cQ true) (by omega) (bN rfl)) ?_
   refine aV ?_;refine rl (o1 ?_);refine aZ 95 (k+1) ?_
   refine o1 ?_;refine nl ?_
   exact⟨k+1,by omega,by omega,aW h0 [0,1,2,3] ⟨oe rfl rfl,oe rfl rfl,aC (congrArg (fun l:List Vn=>some (⟨64,18,(l.flatMap (cF true)).map .t⟩:Ob)) hset),aC rfl,rfl⟩⟩
  refine ex (rl (o1 ?_));refine aZ 96 (q+1) ?_
  refine o1 ?_;refine nl ?_
  have hxk:(R.vns (R.run ys.length) (R.ex (R.run ys.length) ys.length) (R.clk (R.run ys.length) ys.length q k) (R.vl ys.length))=(R.vns (R.run ys.length) (R.ex (R.run ys.length) ys.length) (R.clk (R.run ys.length) ys.length (q+1) 0) (R.vl ys.length)):=Lr fun p hp=>⟨rfl,DC hIv (by omega) hq9 (gK.1 hp).1⟩
  exact⟨q+1,by omega,by omega,aW h0 [0,1,2,3] ⟨oe rfl rfl,oe rfl rfl,aC (congrArg (fun l:List Vn=>some (⟨64,18,(l.flatMap (cF true)).map .t⟩:Ob)) hxk),aC rfl,rfl⟩⟩
 refine ex (sq ?_);have hqq:q=R.E:=by omega
 subst hqq
 have hfin:(R.vns (R.run ys.length) (R.ex (R.run ys.length) ys.length) (R.clk (R.run ys.length) ys.length R.E 0) (R.vl ys.length))=(R.vnE ys.length):=Lr fun p hp=>⟨rfl,DD (gK.1 hp).2.1⟩
 refine WP.sub (oE (j:=1) (key:=4) (p:=0) (e:=62) (z:=5) (n:=(R.rls (R.run ys.length) ys.length).length) (trs:=(R.rls (R.run ys.length) ys.length).flatMap rlt) rfl rfl rfl rfl rfl) ?_
 refine WP.sub (oE (j:=1) (key:=5) (p:=2) (e:=58) (z:=7) (n:=(R.run ys.length).length) (trs:=(R.run ys.length).flatMap (eM true)) rfl rfl rfl rfl rfl) ?_;refine rl ?_
 (iterate 3 refine o1 ?_);refine ld ?_;refine st ?_;refine o1 ?_;refine nl (rt ?_)
 have h9:(.s true 64 18 (R.vl ys.length).length ((R.vns (R.run ys.length) (R.ex (R.run ys.length) ys.length) (R.clk (R.run ys.length) ys.length R.E 0) (R.vl ys.length)).flatMap (cF true)):Tr)=dG true true (R.vnE ys.length):=by
  rw[hfin];unfold dG Rg.vnE;rw[dP]
 exact en (.inl rfl) rfl (rW (.cons (.agg (.cons (.sl (trs:=(R.rls (R.run ys.length) ys.length).flatMap rlt) rfl rfl (aN _ _ (bE gZ _)) (bE gZ _)) (.cons (.sl (trs:=(R.vns (R.run ys.length) (R.ex (R.run ys.length) ys.length) (R.clk (R.run ys.length) ys.length R.E 0) (R.vl ys.length)).flatMap (cF true)) rfl rfl (aN _ _ (by rw[bE (cQ true),dP])) (by rw[bE (cQ true),dP])) (.cons (.sl (trs:=(R.run ys.length).flatMap (eM true)) rfl rfl (aN _ _ (bE (eF true) _)) (bE (eF true) _)) .nil)))) (.cons (cU _) .nil))) (by decide) (fun h=>by cases h) (congrArg (fun z:Tr=>FV.tup [.agg [.t (dJ true (R.rls (R.run ys.length) ys.length)),.t z,.t (dA true true (R.run ys.length))],.one (tv (.int .i64 0))]) h9)
theorem Sj {W:World}{N:Nat→Prop}{cs:List Co}:∀(l:List Tr) (us:List Value),ARL W N cs (l.map AV.t) us→ARL W N cs ((l.map nF).map AV.t) us
 | [],us,h=>h
 | y::l,[],h=>by simp only[List.map_cons,ARL]at h
 | y::l,u::us,h=>by
  simp only[List.map_cons,ARL,AR]at h⊢
  exact⟨Eh _ _ h.1,Sj l us h.2⟩
theorem RI {x:Cx}{g:Nat→FV}{ob:List (Option Ob)}{i:Nat}{l l':List Tr}(hi:Nat.blt i x.n=true) (h:g i=.agg (l.map .t)) (hr:l.map nF=l'):Sub x g ob (bF g i (.agg (l'.map .t))) ob:=Zl hi fun W N cs u hu=>by
 subst hr
 rw[h]at hu
 simp only[bO,bZ]at hu⊢
 obtain⟨us,e,h2⟩:=hu
 exact⟨us,e,Sj l us h2⟩
theorem RJ (xs:List Rl):rdTL (xs.flatMap rlt)=xs.flatMap rlt:=rC (fun r=>by
 have h:∀l:List Fr4,rdTL (l.flatMap (Fr4.tr false))=l.flatMap (Fr4.tr false):=fun l=>rC (fun a=>uM false a) l
 simp[rlt,Fr4.tr,sU,sQ,rdTL,nF,Rc,h]) xs
theorem Zm (rws:List Rl) (vn:List Vn) (us:List Ur):[dJ false rws,dG false true vn,dA false true us].map nF=[dJ false rws,dG false false vn,dA false false us]:=by
 simp only[List.map_cons,List.map_nil,dJ,dG,dA,nF,RJ,yN,Lz]
theorem Gr {fw:Int}{ys:List Yr}(hf:lZ ys=true) (hy:∀y∈ys,sC y):aG false Tryz.prog 12 [] [.one (tv (.int .i64 fw)),.one (.t (kY ys))] (aU (.tup [.agg [.t (dJ true (fI fw ys)),.t (dG true true (gN fw ys)),.t (dA true true (gB fw ys))],.one (tv (.int .i64 (eZ fw ys)))])):=by
 obtain⟨h1,h2⟩:=wD hf
 have hb:∀y∈ys,(∀a∈y.b,a.ok)∧y.l.ok∧y.b.length≤1073741823:=fun y hm=>⟨fun a ha=>nI ((hy y hm).1 a ha) ((h2 y hm).2.2.2 a ha),nI (hy y hm).2 (h2 y hm).2.2.1,by have:=(h2 y hm).2.1;omega⟩
 by_cases h:eZ fw ys=0
 ·obtain⟨g1,g2,g3,g4,_⟩:=Ct hf hy h
  have h9:=EZ (R:=nZ fw.toNat ys) hb (by rw[show(((nZ fw.toNat ys).f:Nat):Int)=fw from g3];exact h) rfl g1 g2
  rw[show(((nZ fw.toNat ys).f:Nat):Int)=fw from g3]at h9
  unfold fI gN gB
  rw[if_pos h,if_pos h,if_pos h,h]
  exact h9
 unfold fI gN gB
 rw[if_neg h,if_neg h,if_neg h]
 exact EL hb (by omega) h
theorem MH:aG false Tryz.prog 12 [] [.one (tv (.int .i64 2)),.one (.t (kY oH))] (aU (.tup [.agg [.t (dJ true (fI 2 oH)),.t (dG true true (gN 2 oH)),.t (dA true true qB)],.one (tv (.int .i64 0))])):=by
 have h:=Gr (fw:=2) (ys:=oH) (by kernel_rfl) LZ
 rw[show eZ 2 oH=0 by kernel_rfl,show gB 2 oH=qB by kernel_rfl]at h
 exact h
theorem MI:aG false Tryz.prog 12 [] [.one (tv (.int .i64 2)),.one (.t (kY xU))] (aU (.tup [.agg [.t (dJ true (fI 2 xU)),.t (dG true true Ir),.t (dA true true tO)],.one (tv (.int .i64 0))])):=by
 have h:=Gr (fw:=2) (ys:=xU) (by kernel_rfl) MA
 rw[show eZ 2 xU=0 by kernel_rfl,show gB 2 xU=tO by kernel_rfl,show gN 2 xU=Ir by kernel_rfl]at h
 exact h
theorem El:aG true Tryz.prog 9 [] [] (aU (.one (tv (.bool true)))):=by
 refine cC Tryz.func9 rfl Tryz.ntmps9 rfl aB rfl fun N9 w9 c0 h0=>?_
 have hu1:qB.length=2:=rfl
 have hu2:tO.length=2:=rfl
 have hv2:Ir.length=2:=rfl
 refine sq (rl (o1 ?_));refine nl (sq (rl (o1 ?_)));refine nl (sq (rl ?_))
 refine ca (mW (m:=false) (b:=(-10)) (l:=0) (by omega) (by omega) (by omega) (by omega)) Cu ⟨a1 rfl,a1 rfl,a1 rfl,rfl⟩ (.agg ((eG (qW false (-10) 0)).map .t)) ?_
 refine ca (mW (m:=true) (b:=4) (l:=100) (by omega) (by omega) (by omega) (by omega)) Cu ⟨a1 rfl,a1 rfl,a1 rfl,rfl⟩ (.agg ((eG (qW true 4 100)).map .t)) ?_
 refine ca (mW (m:=true) (b:=8) (l:=100) (by omega) (by omega) (by omega) (by omega)) Cu ⟨a1 rfl,a1 rfl,a1 rfl,rfl⟩ (.agg ((eG (qW true 8 100)).map .t)) ?_
 refine bs 0 ?_;refine WL.sub (fz (i:=10) (k:=0) (t:=67) (z:=6) (n:=3) (l:=oH.flatMap eG) rfl rfl rfl rfl) ?_
 refine ca (MH) FA ⟨a1 rfl,a1 rfl,rfl⟩ (.tup [.agg [.t (dJ false (fI 2 oH)),.t (dG false true (gN 2 oH)),.t (dA false true qB)],.one (tv (.int .i64 0))]) ?_;refine o1 ?_
 refine o1 ?_;refine WL.sub (RI (i:=12) (l:=[(dJ false (fI 2 oH)),(dG false true (gN 2 oH)),(dA false true qB)]) rfl rfl (Zm (fI 2 oH) (gN 2 oH) qB)) ?_;refine o1 ?_
 refine al 1 ?_;refine st ?_;refine o1 ?_;refine nl (sq (rl ?_))
 refine ca (mW (m:=false) (b:=(-10)) (l:=0) (by omega) (by omega) (by omega) (by omega)) Cu ⟨a1 rfl,a1 rfl,a1 rfl,rfl⟩ (.agg ((eG (qW false (-10) 0)).map .t)) ?_
 refine ca (mW (m:=true) (b:=4) (l:=3) (by omega) (by omega) (by omega) (by omega)) Cu ⟨a1 rfl,a1 rfl,a1 rfl,rfl⟩ (.agg ((eG (qW true 4 3)).map .t)) ?_
 refine ca (mW (m:=false) (b:=(-2)) (l:=9) (by omega) (by omega) (by omega) (by omega)) Cu ⟨a1 rfl,a1 rfl,a1 rfl,rfl⟩ (.agg ((eG (qW false (-2) 9)).map .t)) ?_
 refine ca (mW (m:=true) (b:=8) (l:=100) (by omega) (by omega) (by omega) (by omega)) Cu ⟨a1 rfl,a1 rfl,a1 rfl,rfl⟩ (.agg ((eG (qW true 8 100)).map .t)) ?_
 refine bs 2 ?_;refine WL.sub (fz (i:=19) (k:=2) (t:=67) (z:=6) (n:=4) (l:=xU.flatMap eG) rfl rfl rfl rfl) ?_
 refine ca (MI) FA ⟨a1 rfl,a1 rfl,rfl⟩ (.tup [.agg [.t (dJ false (fI 2 xU)),.t (dG false true Ir),.t (dA false true tO)],.one (tv (.int .i64 0))]) ?_;refine o1 ?_;refine o1 ?_
 refine WL.sub (RI (i:=21) (l:=[(dJ false (fI 2 xU)),(dG false true Ir),(dA false true tO)]) rfl rfl (Zm (fI 2 xU) Ir tO)) ?_;refine o1 ?_;refine al 3 ?_;refine st ?_
 refine o1 ?_;refine nl (sq (sq (rl (o1 ?_))));refine o1 ?_;refine WL.cast (t:=24) (u':=.bool false) rfl (congrArg Value.bool (by kernel_rfl)) ?_
 (iterate 3 refine o1 ?_);refine WL.cast (t:=27) (u':=.bool false) rfl (congrArg Value.bool (by kernel_rfl)) ?_
 (iterate 3 refine o1 ?_);refine ld ?_;refine o1 ?_;refine o1 ?_;refine WL.cast (t:=33) (u':=.bool false) rfl (congrArg Value.bool (by kernel_rfl)) ?_
 (iterate 3 refine o1 ?_);refine ld ?_;refine o1 ?_;refine o1 ?_;refine WL.cast (t:=39) (u':=.bool false) rfl (congrArg Value.bool (by kernel_rfl)) ?_
 (iterate 3 refine o1 ?_);refine ld ?_;refine o1 ?_;refine o1 ?_;refine WL.cast (t:=45) (u':=.bool false) rfl (congrArg Value.bool (by kernel_rfl)) ?_
 refine o1 ?_;refine nl (gD rfl (sk (sq ?_)));refine rd [1,3] (fun i=>[77].contains i) mixed ?_
 refine dv 0 ?_;refine aO 1 ?_;refine dv 2 ?_;refine dv 3 ?_
 refine fM 4 ((Fr4.of (fC qB (0)).n).tr false) (bH (f:=(eM false)) (z:=7) (o:=3) (eF false) (gA (by omega)) (bN rfl) rfl) ?_
 refine dv 5 ?_
 refine xS 6 4 [.one (tv (.int .i64 ((4:Nat):Int))),.one (tv (.int .i64 ((1:Nat):Int)))] rfl rfl (rD (n:=4) (d:=1) (by omega) (by omega) (by omega) (by omega)) wT ⟨rfl,rfl,rfl⟩ ?_
 refine aX 7 rfl (rL (p:=(fC qB (0)).n) (q:=(Rat.divInt 4 1)) ((Ek _ (iC (by omega))).mono (M:=68719476736) (by omega)) ((wS (n:=4) (d:=1) (by omega) (by omega) (by omega) (by omega)).mono (M:=68719476736) (by omega)) (by kernel_rfl)) Cm ⟨aD rfl,aD rfl,rfl⟩ (.one (tv (.int .i64 0))) ?_
 refine df 8 ?_;refine WD.cast (t:=55) (u':=.bool true) rfl (congrArg Value.bool (by kernel_rfl)) ?_
 refine df 9 ?_;refine dv 10 ?_;refine aO 11 ?_;refine dv 12 ?_;refine dv 13 ?_
 refine fM 14 ((Fr4.of (fC qB (1)).n).tr false) (bH (f:=(eM false)) (z:=7) (o:=3) (eF false) (gA (by omega)) (bN rfl) rfl) ?_
 refine dv 15 ?_
 refine xS 16 4 [.one (tv (.int .i64 ((6:Nat):Int))),.one (tv (.int .i64 ((1:Nat):Int)))] rfl rfl (rD (n:=6) (d:=1) (by omega) (by omega) (by omega) (by omega)) wT ⟨rfl,rfl,rfl⟩ ?_
 refine aX 17 rfl (rL (p:=(fC qB (1)).n) (q:=(Rat.divInt 6 1)) ((Ek _ (iC (by omega))).mono (M:=68719476736) (by omega)) ((wS (n:=6) (d:=1) (by omega) (by omega) (by omega) (by omega)).mono (M:=68719476736) (by omega)) (by kernel_rfl)) Cm ⟨aD rfl,aD rfl,rfl⟩ (.one (tv (.int .i64 0))) ?_
 refine df 18 ?_;refine WD.cast (t:=65) (u':=.bool true) rfl (congrArg Value.bool (by kernel_rfl)) ?_
 refine df 19 ?_;refine df 20 ?_;refine dv 21 ?_;refine aO 22 ?_;refine dv 23 ?_;refine dv 24 ?_
 refine fM 25 ((Fr4.of (fC tO (0)).n).tr false) (bH (f:=(eM false)) (z:=7) (o:=3) (eF false) (gA (by omega)) (bN rfl) rfl) ?_
 refine dv 26 ?_
 refine xS 27 4 [.one (tv (.int .i64 ((3:Nat):Int))),.one (tv (.int .i64 ((1:Nat):Int)))] rfl rfl (rD (n:=3) (d:=1) (by omega) (by omega) (by omega) (by omega)) wT ⟨rfl,rfl,rfl⟩ ?_
 refine aX 28 rfl (rL (p:=(fC tO (0)).n) (q:=(Rat.divInt 3 1)) ((Zj _ (iC (by omega))).mono (M:=68719476736) (by omega)) ((wS (n:=3) (d:=1) (by omega) (by omega) (by omega) (by omega)).mono (M:=68719476736) (by omega)) (by kernel_rfl)) Cm ⟨aD rfl,aD rfl,rfl⟩ (.one (tv (.int .i64 0))) ?_
 refine df 29 ?_;refine WD.cast (t:=76) (u':=.bool true) rfl (congrArg Value.bool (by kernel_rfl)) ?_
 refine df 30 ?_;refine df 31 ?_;refine dv 32 ?_;refine aO 33 ?_;refine dv 34 ?_;refine dv 35 ?_
 refine fM 36 ([.v (.int .i64 (fC tO (0)).y)]) (bH (f:=(eM false)) (z:=7) (o:=2) (eF false) (gA (by omega)) (bN rfl) rfl) ?_
 refine dv 37 ?_;refine WD.cast (t:=84) (u':=.bool true) rfl (congrArg Value.bool (by kernel_rfl)) ?_
 refine df 38 ?_;refine df 39 ?_;refine dv 40 ?_;refine aO 41 ?_;refine dv 42 ?_;refine dv 43 ?_
 refine fM 44 ((Fr4.of (bQ Ir (0)).x).tr false) (bH (f:=(cF false)) (z:=18) (o:=10) (cQ false) (lE (by omega)) (bN rfl) rfl) ?_
 refine dv 45 ?_
 refine xS 46 4 [.one (tv (.int .i64 ((7:Nat):Int))),.one (tv (.int .i64 ((1:Nat):Int)))] rfl rfl (rD (n:=7) (d:=1) (by omega) (by omega) (by omega) (by omega)) wT ⟨rfl,rfl,rfl⟩ ?_
 refine aX 47 rfl (rL (p:=(bQ Ir (0)).x) (q:=(Rat.divInt 7 1)) (by unfold Sz;decide+kernel) ((wS (n:=7) (d:=1) (by omega) (by omega) (by omega) (by omega)).mono (M:=68719476736) (by omega)) (by kernel_rfl)) Cm ⟨aD rfl,aD rfl,rfl⟩ (.one (tv (.int .i64 0))) ?_
 refine df 48 ?_;refine WD.cast (t:=95) (u':=.bool true) rfl (congrArg Value.bool (by kernel_rfl)) ?_
 refine df 49 ?_;refine df 50 ?_;refine dv 51 ?_;refine aO 52 ?_;refine dv 53 ?_;refine dv 54 ?_
 refine fM 55 ((Fr4.of (fC tO (1)).n).tr false) (bH (f:=(eM false)) (z:=7) (o:=3) (eF false) (gA (by omega)) (bN rfl) rfl) ?_
 refine dv 56 ?_
 refine xS 57 4 [.one (tv (.int .i64 ((2:Nat):Int))),.one (tv (.int .i64 ((1:Nat):Int)))] rfl rfl (rD (n:=2) (d:=1) (by omega) (by omega) (by omega) (by omega)) wT ⟨rfl,rfl,rfl⟩ ?_
 refine aX 58 rfl (rL (p:=(fC tO (1)).n) (q:=(Rat.divInt 2 1)) ((Zj _ (iC (by omega))).mono (M:=68719476736) (by omega)) ((wS (n:=2) (d:=1) (by omega) (by omega) (by omega) (by omega)).mono (M:=68719476736) (by omega)) (by kernel_rfl)) Cm ⟨aD rfl,aD rfl,rfl⟩ (.one (tv (.int .i64 0))) ?_
 refine df 59 ?_;refine WD.cast (t:=106) (u':=.bool true) rfl (congrArg Value.bool (by kernel_rfl)) ?_
 refine df 60 ?_;refine df 61 ?_;refine dv 62 ?_;refine aO 63 ?_;refine dv 64 ?_;refine dv 65 ?_
 refine fM 66 ([.v (.int .i64 (fC tO (1)).y)]) (bH (f:=(eM false)) (z:=7) (o:=2) (eF false) (gA (by omega)) (bN rfl) rfl) ?_
 refine dv 67 ?_;refine WD.cast (t:=114) (u':=.bool true) rfl (congrArg Value.bool (by kernel_rfl)) ?_
 refine df 68 ?_;refine df 69 ?_;refine aO 70 ?_;refine dv 72 ?_
 refine aX 71 rfl (XR (us:=qB) (ent:=1) (rw9:=fI 2 oH) (vs:=gN 2 oH) (fun k=>Ah (B:=300) Ek (by show 2+2*301≤_;omega)) (fun u hu=>(Ek u hu).mono (by omega)) (by show 2≤_;omega)) RK ⟨aD (l:=[dJ false (fI 2 oH),dG false false (gN 2 oH),dA false false qB]) rfl,a1 rfl,rfl⟩ (qF (.of (fO qB 1))) ?_
 refine xS 73 4 [.one (tv (.int .i64 ((10:Nat):Int))),.one (tv (.int .i64 ((1:Nat):Int)))] rfl rfl (rD (n:=10) (d:=1) (by omega) (by omega) (by omega) (by omega)) wT ⟨rfl,rfl,rfl⟩ ?_
 refine aX 74 rfl (rL (p:=(fO qB 1)) (q:=(Rat.divInt 10 1)) (show Sz 68719476736 (fO qB 1) from by unfold Sz;decide+kernel) ((wS (n:=10) (d:=1) (by omega) (by omega) (by omega) (by omega)).mono (M:=68719476736) (by omega)) (by kernel_rfl)) Cm ⟨aD rfl,aD rfl,rfl⟩ (.one (tv (.int .i64 0))) ?_
 refine df 75 ?_;refine WD.cast (t:=122) (u':=.bool true) rfl (congrArg Value.bool (by kernel_rfl)) ?_
 refine df 76 ?_;refine eQ 77 (by kernel_rfl) rfl rfl aB rfl (by trivial) ?_ (fun h=>by first | rfl | cases h)
 refine aV ?_;refine rt ?_;exact jQ (.inl rfl) rfl (rfl)
theorem MJ {fw:Int}{ys:List Yr}(hf:lZ ys=true) (hy:∀y∈ys,sC y):(∀r∈(fI fw ys),Sz 2000000 r.u∧(∀q∈r.b,Sz 2000000 q)∧r.b.length≤1073741823)∧(∀v∈(gN fw ys),Sz 2000000 v.l∧Sz 2000000 v.u∧Sz 2000000 v.x∧Sz 2000000 v.c)∧(∀u∈(gB fw ys),Sz 300 u.n)∧(fI fw ys).length≤1000∧(gN fw ys).length≤1000∧(gB fw ys).length≤1000:=by
 by_cases h:eZ fw ys=0
 ·obtain⟨g1,_,_,h10,_⟩:=Ct hf hy h
  unfold fI gN gB
  rw[if_pos h,if_pos h,if_pos h]
  generalize nZ fw.toNat ys=R at g1⊢
  have hI:=g1.run (bC _)
  have hE:=g1.e
  have hv:=lK (R:=R) hE ys.length
  refine⟨fun r hr=>?_,fun v hv=>?_,Re g1 (bC _),by rw[pC];omega,by unfold Rg.vnE;rw[dP];omega,sA g1 (bC _)⟩
  ·unfold Rg.rls at hr
   obtain⟨y,hy9,rfl⟩:=List.mem_map.1 hr
   rw[List.mem_range]at hy9
   unfold Rg.rl
   refine⟨(hI.sz_yIn g1 hy9).mono (by omega),fun q hq=>?_,by rw[dF,List.length_range];omega⟩
   obtain⟨e,he,rfl⟩:=List.mem_map.1 hq
   rw[List.mem_range]at he
   exact(hI.sz_eIn g1 hy9 he).mono (by omega)
  unfold Rg.vnE Rg.vns at hv
  obtain⟨p,hp,rfl⟩:=List.mem_map.1 hv
  obtain⟨p1,p2,_⟩:=gK.1 hp
  unfold Rg.vn
  exact⟨(g1.sz_los p1 p2).mono (by omega),(hI.sz_vOf g1 p1 p2).mono (by omega),(Jw g1 hI p1 p2).mono (by omega),(UQ g1 hI p1 p2).mono (by omega)⟩
 unfold fI gN gB
 rw[if_neg h,if_neg h,if_neg h]
 simp
theorem FB {fw:Int}{ys:List Yr}(hf:lZ ys=true) (hy:∀y∈ys,sC y):aG false Tryz.prog 11 [] [.one (tv (.int .i64 fw)),.one (.t (sB false ys))] (aU (.tup [.agg [.t (kW true (fI fw ys)),.t (kU true (gN fw ys)),.t (kV true (gB fw ys))],.one (tv (.int .i64 (eZ fw ys)))])):=by
 obtain⟨h1,h2⟩:=wD hf
 have hb:∀y∈ys,(∀a∈y.b,a.ok)∧y.l.ok∧y.b.length≤1073741823:=fun y hm=>⟨fun a ha=>nI ((hy y hm).1 a ha) ((h2 y hm).2.2.2 a ha),nI (hy y hm).2 (h2 y hm).2.2.1,by have:=(h2 y hm).2.1;omega⟩
 by_cases h:eZ fw ys=0
 ·obtain⟨g1,g2,g3,g4,_⟩:=Ct hf hy h
  have h9:=LR (R:=nZ fw.toNat ys) hb (by rw[show(((nZ fw.toNat ys).f:Nat):Int)=fw from g3];exact h) g1 g2
  rw[show(((nZ fw.toNat ys).f:Nat):Int)=fw from g3]at h9
  unfold fI gN gB
  rw[if_pos h,if_pos h,if_pos h,h]
  exact h9
 unfold fI gN gB
 rw[if_neg h,if_neg h,if_neg h]
 exact Ve hb h
theorem RL {a:Fr4}(h:a.len 3):a.len 1099511627776:=by
 unfold Fr4.len at h⊢
 exact⟨Nat.le_trans h.1 (by omega),Nat.le_trans h.2 (by omega)⟩
set_option maxHeartbeats 4000000 in
theorem Vg {fw ent:Int}{ys:List Yr}(hy:∀y∈ys,sC y):aG true Tryz.prog 3 [] [.one (tv (.int .i64 fw)),.one (.t (kY ys)),.one (tv (.int .i64 ent))] (aU (.one (tv (.bool true)))):=by
 refine cC Tryz.func3 rfl Tryz.ntmps3 rfl aB rfl fun N9 w9 c0 h0=>?_
 refine sq (rl (o1 ?_));refine nl (sq (sq (rl (o1 ?_))));refine ca (LX (ys:=ys)) ok8 ⟨a1 rfl,rfl⟩ (.one (tv (.bool (lZ ys)))) ?_
 refine WL.splitb (t:=14) rfl (fun h1=>?_) (fun h1=>?_)
 ·refine o1 ?_;refine nl (gD rfl (sk (sq ?_)));have hf:lZ ys=true:=by simpa using h1
  obtain⟨hq1,hq2⟩:=wD hf
  obtain⟨hz1,hz2,hz3,hz4,hz5,hz6⟩:=MJ (fw:=fw) hf hy
  have hrl:∀y∈ys,y.l.len 1099511627776∧∀a∈y.b,a.len 1099511627776:=fun y hm=>⟨RL (hq2 y hm).2.2.1,fun a ha=>RL ((hq2 y hm).2.2.2 a ha)⟩
  have hzo:Sz 2000000 (fO (gB fw ys) ent):=by have h9:=Ah (U:=(gB fw ys)) (p:=fun u=>decide (u.e=ent)) (B:=300) (M:=2000000) (k:=(gB fw ys).length) hz3 (by omega);rwa[List.take_length]at h9
  refine rl (o1 ?_);refine ca (LY hrl (fun y hm=>⟨by have:=(hq2 y hm).1;omega,by have:=(hq2 y hm).2.1;omega⟩) (by omega)) YE ⟨a1 rfl,rfl⟩ (.one (.t (sB false ys))) ?_
  refine o1 ?_;refine nl (sq (rl (o1 ?_)));refine o1 ?_
  refine ca (FB (fw:=fw) (ys:=ys) hf hy) YF ⟨a1 rfl,a1 rfl,rfl⟩ (.tup [.agg [.t (kW false (fI fw ys)),.t (kU false (gN fw ys)),.t (kV false (gB fw ys))],.one (tv (.int .i64 (eZ fw ys)))]) ?_
  (iterate 3 refine o1 ?_);refine al 0 ?_;refine st ?_;refine o1 ?_;refine nl (sq (sq (rl (o1 ?_))));refine nl (bl ?_)
  refine lp (γ:=Nat) (fun s=>bS [(0,.one (tv (.int .i64 fw))),(1,.one (.t (kY ys))),(2,.one (tv (.int .i64 ent))),(8,.one (.pt 0 0)),(9,.one (tv (.int .i64 (eZ fw ys)))),(10,.one (tv (.int .i64 ((s:Nat):Int))))]) (fun s=>[(⟨31,0,[.t (kW false (fI fw ys)),.t (kU false (gN fw ys)),.t (kV false (gB fw ys))]⟩:Ob)].map some) (fun s=>s≤2) (fun s=>2-s) 0 (Nat.zero_le _) (aW h0 [0] ⟨oe rfl rfl,rfl⟩) ?_
  rintro i9 hi9;refine sq (sq (rl (o1 ?_)));refine o1 ?_;refine nl ?_;refine bL rfl (fun h2=>?_) (fun h2=>?_)
  ·refine sk (sq (bl (sq (rl (o1 ?_)))));refine o1 ?_;refine iM 1 (Gr (fw:=fw) (ys:=ys) hf hy) FA ⟨a1 rfl,a1 rfl,rfl⟩ ?_;refine o1 ?_
   refine o1 ?_
   refine WL.sub (Yw (i:=33) (k:=1) (t:=62) (z:=5) (n:=(fI fw ys).length) (l:=(fI fw ys).flatMap rlt) rfl rfl rfl (bE gZ _) (.agg (.cons .sl (.cons .id (.cons .id .nil))))) ?_
   refine o1 ?_;refine al 4 ?_;refine st ?_;refine o1 ?_;refine nl (sq (sq ?_));refine rd [0,2,3,4] (fun i=>[].contains i) mixed ?_
   refine dv 0 ?_;refine dv 1 ?_;refine dv 2 ?_;refine WD.cast (t:=37) (u':=.bool false) rfl (congrArg Value.bool (by simp)) ?_
   refine dv 3 ?_;refine aO 4 ?_;refine aO 5 ?_
   refine aX 6 rfl (QY (rws:=(fI fw ys)) (vs:=(gN fw ys)) (us:=(gB fw ys)) hz1 hz2 (fun u hu=>(hz3 u hu).mono (by omega)) (by omega) (by omega) (by omega)) YG ⟨oV rfl (.cons .t (.cons (.sr rfl rfl (aN _ _ rfl) (bE (cQ true) _) (yN true _)) (.cons (.sr rfl rfl (aN _ _ rfl) (bE (eF true) _) (Lz true _)) .nil))),aD (l:=[kW false (fI fw ys),kU false (gN fw ys),kV false (gB fw ys)]) rfl,rfl⟩ (.one (tv (.bool true))) ?_
   refine df 7 ?_;refine df 8 ?_;refine df 9 ?_;refine aO 10 ?_;refine dv 11 ?_;refine aO 13 ?_;refine dv 14 ?_
   refine aX 12 rfl (VK (us:=(gB fw ys)) (ent:=ent) (rw9:=(fI fw ys)) (vs:=(gN fw ys)) (fun k=>Ah (B:=300) hz3 (by omega)) (fun u hu=>(hz3 u hu).mono (by omega)) (by omega)) RK ⟨oV rfl (.cons .t (.cons (.sr rfl rfl (aN _ _ rfl) (bE (cQ true) _) (yN true _)) (.cons (.sr rfl rfl (aN _ _ rfl) (bE (eF true) _) (Lz true _)) .nil))),a1 rfl,rfl⟩ (qF (.of (fO (gB fw ys) ent))) ?_
   refine aX 15 rfl (QR (us:=(gB fw ys)) (ent:=ent) (rw9:=(fI fw ys)) (vs:=(gN fw ys)) (fun k=>Ah (B:=300) hz3 (by omega)) (fun u hu=>(hz3 u hu).mono (by omega)) (by omega)) YH ⟨aD (l:=[kW false (fI fw ys),kU false (gN fw ys),kV false (gB fw ys)]) rfl,a1 rfl,rfl⟩ (qF (.of (fO (gB fw ys) ent))) ?_
   refine aX 16 rfl (sE (a:=.of (fO (gB fw ys) ent)) (pK hzo)) Mz ⟨aD rfl,aD rfl,rfl⟩ (.one (tv (.bool true))) ?_;refine df 17 ?_;refine df 18 ?_;refine aV ?_
   refine gD rfl (sk (rl (ld ?_)))
   refine clx 5 [2,3] (Zh (rws:=(fI fw ys)) (Spg.ur fun u hu=>(hz3 u hu).mono (by omega)) (Spg.vn fun v hv=>(hz2 v hv).1.mono (by omega)) (by omega) (by omega)) YI ⟨aC rfl,aC rfl,rfl⟩ ⟨rfl,rfl⟩ ?_
   rintro _ _ ⟨rfl,a9,b9,rfl⟩;refine⟨_,[],[some ⟨64,18,a9.map .t⟩,some ⟨58,7,b9.map .t⟩],rfl,⟨aC rfl,aC rfl,rfl⟩,?_⟩;refine nl (rl (o1 ?_));refine o1 ?_
   refine aZ 28 (i9+1) ?_
   refine o1 ?_;refine nl ?_;exact⟨i9+1,by omega,by omega,aW h0 [0] ⟨oe rfl rfl,rfl⟩⟩
  refine ex (sq (rl (ca (El) XD rfl (.one (tv (.bool true))) ?_)));refine o1 ?_;refine nl (rt ?_);exact jQ (.inl rfl) rfl (rfl)
 refine o1 ?_;refine nl (jM rfl (sq (rl (ca (El) XD rfl (.one (tv (.bool true))) ?_))));refine o1 ?_;refine nl (rt ?_)
 exact jQ (.inl rfl) rfl (rfl)
end Go.Proofs.YtbbabfkgdnkehaaGreat
