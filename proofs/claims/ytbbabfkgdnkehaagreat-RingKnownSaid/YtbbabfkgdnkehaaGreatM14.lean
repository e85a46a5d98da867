/- Part 14 of a proof: H3 to X5. -/
import Derived.Test.YtbbabfkgdnkehaaGreatM11
import Derived.Test.YtbbabfkgdnkehaaGreatM13
import Derived.Test.YtbbabfkgdnkehaaGreatM8
import Derived.Test.YtbbabfkgdnkehaaGreatM12
set_option maxRecDepth 100000
set_option linter.unusedVariables false
set_option linter.unusedSimpArgs false
namespace Go.Proofs.YtbbabfkgdnkehaaGreat
open Go Go.RowKit
theorem NM {R:Rg}{U:List Ur}{x c:Nat→Nat→Rat}{N t:Nat}(hOk:R.Ok N) (hI:R.Iv N U) (ht:t<N) (h0y:dZ U t=0) (h0b:∀e,e<R.E→dT U t e=0) (hlU:U.length≤1000) (h20:R.E*N<20):aE false Tryz.prog 70 [⟨95,0,[.t (cR true (R.rls U t)),.t (cO true true (R.vns U x c (R.vl t))),.t (cF true true U),.t (eM (R.own U (R.I t) t))]⟩] [.one (.pt 0 0),.one (tv (.int .i64 ((t:Nat):Int))),.agg ((R.yrq t).map .t)] (Rt [⟨95,0,[.t (cR true (R.rls (R.step U t) (t+1))),.t (cO true true (R.vns (R.step U t) x c (R.vl t))),.t (cF true true (R.step U t)),.t (eM (R.own (R.step U t) (R.I t) t))]⟩] (.tup [])):=by
 refine GK Tryz.func70 rfl Tryz.ntmps70 rfl aF rfl fun N9 M9 w9 c0 h0=>?_
 have hbl:((R.bs t).map Fr4.of).length=R.E:=by rw[dB];exact iB
 have hE:=hOk.e;have hN:=hOk.n
 have hVl:=lJ (R:=R) hE t
 have hwl:=MT (R:=R) (U:=U) (t:=t)
 refine sq (rl (bx 1 ?_));refine bx 2 ?_;refine bx 3 ?_;refine nl (sq ?_);refine cI [0,1,2,3] [5] ?_
 refine aK 0 ?_;refine aS 1 rfl (eW (z:=0) (by omega) (by omega)) kR ⟨a1 rfl,rfl⟩ (qF (.of ((0:Int):Rat))) ?_
 refine df 2 ?_;refine df 3 ?_;refine ZQ (key:=4) 4 (by kernel_rfl) rfl rfl rfl ⟨rfl,rfl,rfl,rfl,trivial⟩ ?_
 refine dI 5 ?_
 refine aW ?_;refine sq (sq (rl (o1 ?_)));refine ld ?_;refine o1 ?_;refine o1 ?_;refine nl (bl ?_)
 refine WP.sub (sT (j:=4) (key:=5) (e:=48) (z:=4) rfl rfl rfl (.id (.id (.id (.id (.id (.id (.id (.id (.id (.id (.sl (.id .nil))))))))))))) ?_
 refine lp (γ:=Nat) (fun s=>bP [(3,pN 1),(4,pN 2),(5,pN 3),(6,pN 4),(16,iN (((R.bs t).map Fr4.of).length)),(17,iN s)]) (fun s=>[(⟨95,0,[.t (cR true (R.rls U t)),.t (cO true true (R.vns U x c (R.vl t))),.t (cF true true U),.t (eM (R.own U (R.I t) t))]⟩:Ob),⟨92,0,[.pt 0 0]⟩,⟨3,0,[tv (.int .i64 ((t:Nat):Int))]⟩,⟨67,0,(R.yrq t).map .t⟩,⟨165,0,[.t (gH (R.ms t)),.t (sQ false ((R.bs t).map Fr4.of))]++((Fr4.of (R.lim t)).tr false).map .t++((Fr4.of ((0:Int):Rat)).tr false).map .t++[.sl 5 0 s,tv .nilFunc]⟩,⟨48,4,(((List.range s).map (fun _=>((0:Int):Rat))).flatMap qt).map .t⟩].map some) (fun s=>s≤R.E) (fun s=>R.E-s) 0 (Nat.zero_le _) (fQ h0 [0,1,2,3,4,5] ⟨oe rfl rfl,oe rfl rfl,oe rfl rfl,aB rfl,oe rfl rfl,aB rfl,rfl⟩) ?_
 rintro k hk;refine sq (rl (o1 ?_));refine nl (sq ?_);refine bF rfl (fun h1=>?_) (fun h1=>?_)
 ·refine sk (sq (bl ?_));refine cI [0,1,2,3,4] [12] ?_
  refine dv 0 ?_;refine dv 1 ?_;refine dv 2 ?_;refine dv 3 ?_;refine dv 4 ?_;refine aK 5 ?_
  refine aS 6 rfl (eW (z:=0) (by omega) (by omega)) kR ⟨a1 rfl,rfl⟩ (qF (.of ((0:Int):Rat))) ?_
  refine iG (key:=6) 7 (by kernel_rfl) rfl rfl aF rfl ⟨rfl,rfl,rfl,rfl,rfl,trivial⟩ ?_
  refine kC (j:=7) (n:=k) (l:=(((List.range k).map (fun _=>((0:Int):Rat))).flatMap qt).map .t) 8 rfl aF rfl rfl rfl (.sl rfl (by rw[dB,bE mF,dB,List.length_range])) (.sl rfl rfl rfl) rfl rfl (by omega) (by omega) rfl ⟨rfl,rfl,rfl,rfl,rfl,trivial⟩ rfl (by kernel_rfl) rfl ?_
  refine dI 9 ?_
  refine dI 10 ?_
  refine df 11 ?_;refine dst 12 ?_;refine aW ?_;refine rl (o1 ?_);refine bB 31 (k+1) ?_
  refine o1 ?_;refine nl ?_
  exact⟨k+1,by omega,by omega,fQ h0 [0,1,2,3,4,7] ⟨oe rfl rfl,oe rfl rfl,oe rfl rfl,aB rfl,oe rfl rfl,aB (congrArg (fun l:List AV=>some (⟨48,4,l⟩:Ob)) ((Hl ((List.range k).map (fun _=>((0:Int):Rat))) ((0:Int):Rat)).trans (by rw[List.range_succ,List.map_append];rfl))),rfl⟩⟩
 refine ex (sq (rl ?_));(iterate 4 refine o1 ?_);refine st ?_;refine nl (sq (sq (rl (ld ?_))));refine o1 ?_;refine ld ?_
 refine cl 6 [0] (Xh (U:=U) (ta:=(cR true (R.rls U t))) (tb:=(cO true true (R.vns U x c (R.vl t)))) (tc:=(cF true true U)) hOk hI ht h20) XB ⟨oe rfl rfl,rfl⟩ ⟨rfl,rfl,rfl⟩ (ok:=[some ⟨95,0,[.t (cR true (R.rls U t)),.t (cO true true (R.vns U x c (R.vl t))),.t (cF true true U),.t (eM (R.own U (R.I t) t))]⟩]) ⟨oe rfl rfl,rfl⟩ ?_
 refine o1 ?_;refine o1 ?_;refine nl (bl ?_);have hkE:k=R.E:=by omega
 have hzy:((0:Int):Rat)=dZ U t:=h0y.symm
 have hzb:((List.range k).map (fun _=>((0:Int):Rat)))=R.by9 U t:=by rw[hkE];exact FO h0b
 refine lp (γ:=Nat) (fun s=>bP [(3,pN 1),(4,pN 2),(6,pN 3),(39,.one (.sl 5 0 (((R.wt U t).map (R.wv U)).length))),(40,iN (((R.wt U t).map (R.wv U)).length)),(41,iN s)]) (fun s=>[(⟨95,0,[.t (cR true (R.rls U t)),.t (cO true true (R.vns (R.uf U t s) x c (R.vl t))),.t (cF true true (R.uf U t s)),.t (eM (R.own (R.uf U t s) (R.I t) t))]⟩:Ob),⟨92,0,[.pt 0 0]⟩,⟨3,0,[tv (.int .i64 ((t:Nat):Int))]⟩,⟨165,0,[.t (gH (R.ms t)),.t (sQ false ((R.bs t).map Fr4.of))]++((Fr4.of (R.lim t)).tr false).map .t++((Fr4.of (dZ (R.uf U t s) t)).tr false).map .t++[.sl 4 0 (R.by9 (R.uf U t s) t).length,.fn 99 [] [.pt 1 0,.pt 2 0]]⟩,⟨48,4,((R.by9 (R.uf U t s) t).flatMap qt).map .t⟩,⟨64,18,(((R.wt U t).map (R.wv U)).flatMap eF).map .t⟩].map some) (fun s=>s≤((R.wt U t).map (R.wv U)).length) (fun s=>((R.wt U t).map (R.wv U)).length-s) 0 (Nat.zero_le _) (fQ h0 [0,1,2,4,5,6] ⟨oe rfl rfl,oe rfl rfl,oe rfl rfl,oe rfl (by have h9:(some ⟨165,0,[.t (gH (R.ms t)),.t (sQ false ((R.bs t).map Fr4.of))]++((Fr4.of (R.lim t)).tr false).map .t++((Fr4.of ((0:Int):Rat)).tr false).map .t++[.sl 5 0 k,.fn 99 [] [.pt 1 0,.pt 2 0]]⟩:Option Ob)=some ⟨165,0,[.t (gH (R.ms t)),.t (sQ false ((R.bs t).map Fr4.of))]++((Fr4.of (R.lim t)).tr false).map .t++((Fr4.of (dZ U t)).tr false).map .t++[.sl 5 0 (R.by9 U t).length,.fn 99 [] [.pt 1 0,.pt 2 0]]⟩:=(by rw[←hzy,←hzb,dB,List.length_range]);exact h9),aB (by have h9:(some ⟨48,4,(((List.range k).map (fun _=>((0:Int):Rat))).flatMap qt).map .t⟩:Option Ob)=some ⟨48,4,((R.by9 U t).flatMap qt).map .t⟩:=(by rw[hzb]);exact h9),aB rfl,rfl⟩) ?_
 rintro i hi;refine sq (rl (o1 ?_));refine nl (sq ?_);refine bF rfl (fun h2=>?_) (fun h2=>?_)
 ·refine sk (sq (bl (sq ?_)));have hwtl:((R.wt U t).map (R.wv U)).length=(R.wt U t).length:=dB _
  obtain⟨p,hp9⟩:∃p,(R.wt U t)[i]? =some p:=⟨_,gG (by omega)⟩
  obtain⟨hw1,hw2,hw3,_⟩:=AG hp9
  have hfl:=RR (R:=R) (U:=U) (t:=t) (i:=i)
  have huse:=SS (U:=(R.uf U t i)) (x:=x) (c:=c) (y:=p.1) (e:=p.2) (ta:=(cR true (R.rls U t))) hOk (WM hI ht) ht hw1 hw2 (by omega) (by omega)
  rw[show R.wv (R.uf U t i) (p.1,p.2)=cS ((R.wt U t).map (R.wv U)) i from(WK hp9).symm]at huse;refine rl (o1 ?_)
  refine Oc (fU (f:=eF) (z:=18) (o:=0) (us:=eF (cS ((R.wt U t).map (R.wv U)) (i))) gE (iF (l:=((R.wt U t).map (R.wv U))) (i:=i) (by omega)) (bM rfl) rfl) ?_
  refine al 6 ?_;refine st ?_;refine nl (rl (o1 ?_));refine ld ?_
  refine cl 7 [3,4,1,2,0] huse XC ⟨oe rfl rfl,aB rfl,oe rfl rfl,oe rfl rfl,oe rfl rfl,rfl⟩ ⟨rfl,rfl,rfl⟩ (ok:=[some ⟨165,0,[.t (gH (R.ms t)),.t (sQ false ((R.bs t).map Fr4.of))]++((Fr4.of (R.lim t)).tr false).map .t++((Fr4.of (dZ (R.use (R.uf U t i) p.1 p.2 t) t)).tr false).map .t++[.sl 4 0 (R.by9 (R.use (R.uf U t i) p.1 p.2 t) t).length,.fn 99 [] [.pt 1 0,.pt 2 0]]⟩,some ⟨48,4,((R.by9 (R.use (R.uf U t i) p.1 p.2 t) t).flatMap qt).map .t⟩,some ⟨92,0,[.pt 0 0]⟩,some ⟨3,0,[tv (.int .i64 ((t:Nat):Int))]⟩,some ⟨95,0,[.t (cR true (R.rls U t)),.t (cO true true (R.vns (R.use (R.uf U t i) p.1 p.2 t) x c (R.vl t))),.t (cF true true (R.use (R.uf U t i) p.1 p.2 t)),.t (eM (R.own (R.use (R.uf U t i) p.1 p.2 t) (R.I t) t))]⟩]) ⟨oe rfl rfl,aB rfl,oe rfl rfl,oe rfl rfl,oe rfl rfl,rfl⟩ ?_
  refine nl (rl (o1 ?_));refine bB 48 (i+1) ?_
  refine o1 ?_;refine nl ?_
  exact⟨i+1,by omega,by omega,fQ h0 [0,1,2,3,4,5] ⟨oe rfl (congrArg (fun V:List Ur=>some (⟨95,0,[.t (cR true (R.rls U t)),.t (cO true true (R.vns V x c (R.vl t))),.t (cF true true V),.t (eM (R.own V (R.I t) t))]⟩:Ob)) (Hm hp9).symm),oe rfl rfl,oe rfl rfl,oe rfl (by have h9:(some ⟨165,0,[.t (gH (R.ms t)),.t (sQ false ((R.bs t).map Fr4.of))]++((Fr4.of (R.lim t)).tr false).map .t++((Fr4.of (dZ (R.use (R.uf U t i) p.1 p.2 t) t)).tr false).map .t++[.sl 4 0 (R.by9 (R.use (R.uf U t i) p.1 p.2 t) t).length,.fn 99 [] [.pt 1 0,.pt 2 0]]⟩:Option Ob)=some ⟨165,0,[.t (gH (R.ms t)),.t (sQ false ((R.bs t).map Fr4.of))]++((Fr4.of (R.lim t)).tr false).map .t++((Fr4.of (dZ (R.uf U t (i+1)) t)).tr false).map .t++[.sl 4 0 (R.by9 (R.uf U t (i+1)) t).length,.fn 99 [] [.pt 1 0,.pt 2 0]]⟩:=(by rw[Hm hp9]);exact h9),aB (congrArg (fun V:List Ur=>some (⟨48,4,((R.by9 V t).flatMap qt).map .t⟩:Ob)) (Hm hp9).symm),aB rfl,rfl⟩⟩
 refine ex ?_;have hwtl:((R.wt U t).map (R.wv U)).length=(R.wt U t).length:=dB _
 have hue:(R.uf U t i)=(R.step U t):=RS hI ht (by omega)
 have hrl:(R.rls U t).length=t:=lN
 refine WP.sub (oU (j:=0) (key:=6) (p:=0) (e:=62) (z:=5) (n:=(R.rls U t).length) (trs:=(R.rls U t).flatMap rlt) rfl rfl rfl rfl rfl) ?_
 refine cI [0,1,2,3] [15] ?_
 refine aK 0 ?_;refine aK 1 ?_;refine dv 2 ?_;refine dv 3 ?_;refine dv 4 ?_;refine aK 5 ?_;refine dv 6 ?_;refine dv 7 ?_;refine dv 8 ?_;refine WO.one (by kernel_rfl) (Tp 9 ?_)
 refine qU (i:=58) (k:=4) (t:=48) (t':=52) (z:=4) (n:=(R.by9 (R.uf U t i) t).length) (l:=((R.by9 (R.uf U t i) t).map Fr4.of).flatMap (Fr4.tr false)) rfl rfl (congrArg (fun l:List Tr=>some (⟨48,4,l.map .t⟩:Ob)) (Oo (R.by9 (R.uf U t i) t))) (by rw[bE (f:=Fr4.tr false) (z:=4) (fun _=>rfl),dB]) (.agg (.cons .id (.cons .id (.cons .id (.cons .id (.cons .sl .nil)))))) (by rfl) (by rfl) ?_
 refine iG (key:=7) 10 (by kernel_rfl) rfl rfl aF rfl ⟨rfl,rfl,rfl,rfl,trivial⟩ ?_
 refine kC (j:=8) (n:=(R.rls U t).length) (l:=((R.rls U t).flatMap rlt).map .t) 11 rfl aF rfl rfl rfl (.sl rfl (by rw[dB,bE eO])) (.sl rfl rfl rfl) rfl rfl (by omega) (by omega) rfl ⟨rfl,rfl,rfl,rfl,trivial⟩ rfl (by kernel_rfl) rfl ?_
 refine dI 12 ?_
 refine dI 13 ?_
 refine df 14 ?_;refine dst 15 ?_;refine aW ?_
 have hrow:((R.rls U t).flatMap rlt).map AV.t++(rlt (R.rl (R.uf U t i) t)).map .t=((R.rls (R.step U t) (t+1)).flatMap rlt).map .t:=by rw[Ty,hue,←FM,FN]
 have hrow2:(rlt (R.rl (R.uf U t i) t)).map AV.t=((Fr4.of (dZ (R.uf U t i) t)).tr false).map .t++[.t (.s false 52 4 (R.by9 (R.uf U t i) t).length (((R.by9 (R.uf U t i) t).map Fr4.of).flatMap (Fr4.tr false)))]:=by
  have h9:sQ false ((R.by9 (R.uf U t i) t).map Fr4.of)=.s false 52 4 (R.by9 (R.uf U t i) t).length (((R.by9 (R.uf U t i) t).map Fr4.of).flatMap (Fr4.tr false)):=by rw[sQ,dB]
  rw[←h9];rfl
 rw[hrow2]at hrow;have hrnl:(R.rls (R.step U t) (t+1)).length=t+1:=lN
 refine Pd (iJ (j:=0) (k:=8) (p:=0) (e:=62) (z:=5) (n:=(R.rls U t).length+1) (trs:=(R.rls (R.step U t) (t+1)).flatMap rlt) rfl rfl rfl (congrArg (fun l:List AV=>some (⟨62,5,l⟩:Ob)) hrow) rfl (aN _ _ (by rw[bE eO,hrnl,hrl])) (by rw[bE eO,hrnl,hrl]) rfl) ?_
 exact uR <| jS (lent':=[⟨95,0,[.t (cR true (R.rls (R.step U t) (t+1))),.t (cO true true (R.vns (R.step U t) x c (R.vl t))),.t (cF true true (R.step U t)),.t (eM (R.own (R.step U t) (R.I t) t))]⟩]) (.inr rfl) rfl Ch (by decide) (fun _ h=>by cases h) ⟨⟨rfl,rfl⟩,trivial⟩ ⟨(by have h9:(some ⟨95,0,[.t (.s true 62 5 ((R.rls U t).length+1) ((R.rls (R.step U t) (t+1)).flatMap rlt)),.t (cO true true (R.vns (R.uf U t i) x c (R.vl t))),.t (cF true true (R.uf U t i)),.t (eM (R.own (R.uf U t i) (R.I t) t))]⟩:Option Ob)=some ⟨95,0,[.t (cR true (R.rls (R.step U t) (t+1))),.t (cO true true (R.vns (R.step U t) x c (R.vl t))),.t (cF true true (R.step U t)),.t (eM (R.own (R.step U t) (R.I t) t))]⟩:=(by rw[hue,cR,hrnl,hrl]);exact h9),trivial⟩ ⟨rfl,trivial⟩ (fun h=>by cases h) ⟨rfl,rfl⟩
set_option maxHeartbeats 4000000 in
theorem NO {R:Rg}{N t:Nat}(hOk:R.Ok N) (ht:t<N) (h20:R.E*N<20):aE false Tryz.prog 39 [⟨95,0,[.t (cR true (R.rls (R.run t) t)),.t (cO true true (R.vns (R.run t) (R.ex (R.run t) t) (fun _ _=>(0:Rat)) (R.vl t))),.t (cF true true (R.run t)),.t (eM (R.own (R.run t) (R.I t) t))]⟩] [.one (.pt 0 0),.one (tv (.int .i64 ((R.f:Nat):Int))),.one (tv (.int .i64 ((t:Nat):Int))),.agg ((R.yrq t).map .t)] (Rt [⟨95,0,[.t (cR true (R.rls (R.run (t+1)) (t+1))),.t (cO true true (R.vns (R.run (t+1)) (R.ex (R.run (t+1)) (t+1)) (fun _ _=>(0:Rat)) (R.vl (t+1)))),.t (cF true true (R.run (t+1))),.t (eM (R.own (R.run (t+1)) (R.I (t+1)) (t+1)))]⟩] (.tup [])):=by
 refine GK Tryz.func39 rfl Tryz.ntmps39 rfl aF rfl fun N9 M9 w9 c0 h0=>?_
 have hE:=hOk.e;have hN:=hOk.n;have hF:=hOk.f
 have hms:(R.ms t).length=R.E:=lH
 have hbl:((R.bs t).map Fr4.of).length=R.E:=by rw[dB];exact iB
 refine sq (rl (bx 1 ?_));refine nl (sq (rl (o1 ?_)));refine o1 ?_;refine ld ?_;have hrl:=nR (R:=R) hOk (k:=t) (by omega)
 refine cl 2 [0] (NM (U:=(R.run t)) (x:=(R.ex (R.run t) t)) (c:=(fun _ _=>(0:Rat))) hOk (hOk.run (by omega)) ht (Ta (bC _)) (fun e _=>Tb (bC _)) hrl h20) ZR ⟨oe rfl rfl,rfl⟩ ⟨rfl,rfl,rfl,rfl⟩ (ok:=[some ⟨95,0,[.t (cR true (R.rls (R.run (t+1)) (t+1))),.t (cO true true (R.vns (R.run (t+1)) (R.ex (R.run t) t) (fun _ _=>(0:Rat)) (R.vl t))),.t (cF true true (R.run (t+1))),.t (eM (R.own (R.run (t+1)) (R.I t) t))]⟩]) ⟨oe rfl rfl,rfl⟩ ?_
 refine nl (sq (sq (rl (o1 ?_))));refine ld ?_;refine o1 ?_;refine o1 ?_;refine nl (bl ?_)
 refine lp (γ:=Nat) (fun s=>bP [(0,pN 0),(1,iN R.f),(2,iN t),(7,pN 1),(20,.one (.t (gH (R.ms t)))),(21,iN ((R.ms t).length)),(22,iN s)]) (fun s=>[(⟨95,0,[.t (cR true (R.rls (R.run (t+1)) (t+1))),.t (cO true true (R.vns (R.run (t+1)) (R.ex (R.run t) t) (fun _ _=>(0:Rat)) (R.vlk t s))),.t (cF true true (R.run (t+1))),.t (eM (R.own1 (R.run (t+1)) t s))]⟩:Ob),⟨67,0,(R.yrq t).map .t⟩].map some) (fun s=>s≤R.E) (fun s=>R.E-s) 0 (Nat.zero_le _) (fQ h0 [0,1] ⟨oe rfl (by have h9:(some ⟨95,0,[.t (cR true (R.rls (R.run (t+1)) (t+1))),.t (cO true true (R.vns (R.run (t+1)) (R.ex (R.run t) t) (fun _ _=>(0:Rat)) (R.vl t))),.t (cF true true (R.run (t+1))),.t (eM (R.own (R.run (t+1)) (R.I t) t))]⟩:Option Ob)=some ⟨95,0,[.t (cR true (R.rls (R.run (t+1)) (t+1))),.t (cO true true (R.vns (R.run (t+1)) (R.ex (R.run t) t) (fun _ _=>(0:Rat)) (R.vlk t 0))),.t (cF true true (R.run (t+1))),.t (eM (R.own1 (R.run (t+1)) t 0))]⟩:=(by rw[Db,Zd]);exact h9),aB rfl,rfl⟩) ?_
 rintro e he;refine sq (rl (o1 ?_));refine nl (sq ?_);refine bF rfl (fun h1=>?_) (fun h1=>?_)
 ·refine sk (sq (bl (sq ?_)));have he9:e<R.E:=by omega
  refine rl (o1 ?_);refine o1 ?_;refine dV ([.v (.bool (nM (R.ms t) (e)))]) (wV (R.ms t) (k:=e) (by omega)) ?_
  refine o1 ?_;refine o1 ?_;refine nl ?_
  refine md (γ:=Unit) (fun _=>bP [(0,pN 0),(1,iN R.f),(2,iN t),(7,pN 1),(8,iN e),(20,.one (.t (gH (R.ms t)))),(21,iN ((R.ms t).length)),(22,iN e),(37,.one (tv (.bool (R.isV t e))))]) (fun _=>([⟨95,0,[.t ((cR true (R.rls (R.run (t+1)) (t+1)))),.t ((cO true true (R.vns (R.run (t+1)) (R.ex (R.run t) t) (fun _ _=>(0:Rat)) (R.vlk t e)))),.t ((cF true true (R.run (t+1)))),.t ((eM (R.own1 (R.run (t+1)) t e)))]⟩,⟨67,0,[.t (gH (R.ms t)),.t (sQ false ((R.bs t).map Fr4.of)),tv (.bool (aL (R.lim t).num)),.t (sU false (dg 4294967296 (R.lim t).num.natAbs)),tv (.bool false),.t (sU false (dg 4294967296 (R.lim t).den))]⟩]:List Ob).map some) (fun _=>True) ?_ fun _ _=>?_
  ·refine rl (o1 ?_);refine WL.splitb (t:=27) rfl (fun h2=>?_) (fun h2=>?_)
   ·refine o1 ?_;refine o1 ?_;(iterate 7 refine cY ?_);refine o1 ?_;refine nl ?_
    exact⟨(),trivial,yI h0 [0,1] _ _ (by decide) rfl ⟨rfl,rfl,rfl,rfl,rfl,rfl,rfl,rfl,uA (by unfold Rg.isV;rw[←nA he9];simp only[decide_eq_true h1,h2,Bool.not_true,Bool.not_false,Bool.or_true,Bool.true_or,Bool.false_or,Bool.or_false,Bool.false_eq_true,if_true,if_false,ite_true,ite_false,Bool.and_true,Bool.true_and,Bool.false_and,Bool.and_false,Bool.not_not] <;> first | rfl | (simp;done) | (rw[decide_eq_decide];exact(pZ _).symm)),trivial⟩ ⟨oe rfl rfl,oe rfl rfl,rfl⟩⟩
   (iterate 3 refine o1 ?_);refine ld ?_;refine o1 ?_;refine o1 ?_
   refine dV ((Fr4.of (R.base t e)).tr false) ((by rw[←mZ he9,←mE (by rw[iB];exact he9)];exact fL ((R.bs t).map Fr4.of) (k:=e) (by omega))) ?_
   refine ca (iZ (Qn.of (p:=(R.base t e)) ((hOk.base t e ht he9).mono (M:=68719476736) (by omega)))) mU ⟨aC rfl,rfl⟩ (.one (tv (.int .i64 (R.base t e).num.sign))) ?_
   refine o1 ?_;refine o1 ?_;refine nl ?_
   exact⟨(),trivial,yI h0 [0,1] _ _ (by decide) rfl ⟨rfl,rfl,rfl,rfl,rfl,rfl,rfl,rfl,uA (by unfold Rg.isV;rw[←nA he9];simp only[decide_eq_true h1,h2,Bool.not_true,Bool.not_false,Bool.or_true,Bool.true_or,Bool.false_or,Bool.or_false,Bool.false_eq_true,if_true,if_false,ite_true,ite_false,Bool.and_true,Bool.true_and,Bool.false_and,Bool.and_false,Bool.not_not] <;> first | rfl | (simp;done) | (rw[decide_eq_decide];exact(pZ _).symm)),trivial⟩ ⟨oe rfl rfl,oe rfl rfl,rfl⟩⟩
  refine qR rfl (fun h3=>?_) (fun h3=>?_)
  ·refine sq ?_;have hv:R.isV t e=true:=h3
   have hpos:=(sD hv).2
   rw[(sD hv).1]at hpos;have hwl:=vN (R:=R) (U:=(R.run (t+1))) (e:=e) (I:=R.I t)
   have hIl:=vO (R:=R) (k:=t)
   have hsn:Sz 68719476736 (-(R.base t e)):=(sY (hOk.base t e ht he9)).mono (by omega)
   have hO1:(R.own1 (R.run (t+1)) t e).length=R.E:=iW
   have hvl8:=Ho (R:=R) hE (t:=t) (e:=e) he
   refine rl (o1 ?_);refine ld ?_;refine o1 ?_;refine o1 ?_
   refine dV ((Fr4.of (R.base t e)).tr false) ((by rw[←mZ he9,←mE (by rw[iB];exact he9)];exact fL ((R.bs t).map Fr4.of) (k:=e) (by omega))) ?_
   refine iS 2 (KE (Qn.of (p:=(R.base t e)) ((hOk.base t e ht he9).mono (M:=68719476736) (by omega)))) GL ⟨aC rfl,rfl⟩ ?_
   refine al 4 ?_;refine st ?_;refine nl (sq ?_)
   refine WP.sub (oU (j:=0) (key:=5) (p:=3) (e:=96) (z:=1) (n:=(R.own1 (R.run (t+1)) t e).length) (trs:=(R.own1 (R.run (t+1)) t e).map eU) rfl rfl rfl rfl rfl) ?_
   refine WP.sub (Pc (j:=5) (key:=6) (p:=e) (e:=137) (trs:=[sR 102 (R.wl (R.run (t+1)) e (R.I t)),.v (.int .i64 (R.lp e t).1),.v (.bool (R.lp e t).2)]) rfl rfl (by rw[Bc (by omega),Na he9];rfl) rfl) ?_
   refine cI [0,1,4,5] [] ?_
   refine dv 0 ?_;refine dv 1 ?_;refine dv 2 ?_;refine aK 3 ?_;refine dv 4 ?_;refine dv 5 ?_
   refine Oe 6 (l:=(((R.own1 (R.run (t+1)) t e).map eU).map AV.t).set e (.pt 6 0)) (v:=.pt 6 0) (Ez (by rw[mG];omega)) ?_
   refine dv 7 ?_;refine aK 8 ?_
   have hput:=NK (vs:=(R.wl (R.run (t+1)) e (R.I t))) (last:=(R.lp e t).1) (y:=((t:Nat):Int)) (put:=(R.lp e t).2) (q:=-(R.base t e)) hsn (Rat.le_of_lt hpos) JK (by omega)
   have hpw:(R.wl (R.run (t+1)) e (R.I t))++(if 0< -(R.base t e)then [(((t:Nat):Int),-(R.base t e))]else [])=(R.wl (R.run (t+1)) e (R.I t++[t])):=by rw[Ze,My (bC _),(sD hv).1]
   rw[hpw]at hput
   refine Tv 9 7 [6,2,3] rfl hput ZS ⟨oe rfl rfl,aB rfl,aB rfl,rfl⟩ ⟨rfl,rfl,rfl,rfl⟩ (ok:=[some ⟨137,0,[.t (sR 102 (R.wl (R.run (t+1)) e (R.I t++[t]))),tv (.int .i64 ((t:Nat):Int)),tv (.bool true)]⟩,some ⟨113,1,(aJ (dg 4294967296 (-(R.base t e)).num.natAbs)).map .t⟩,some ⟨113,1,(aJ (dg 4294967296 (-(R.base t e)).den)).map .t⟩]) ⟨oe rfl rfl,aB rfl,aB rfl,rfl⟩ ⟨rfl,rfl,rfl,rfl,trivial⟩ ?_
   refine aW ?_
   have hn1:(R.own1 (R.run (t+1)) t e).set e ((R.wl (R.run (t+1)) e (R.I t++[t])),((t:Nat):Int),true)=R.own1 (R.run (t+1)) t (e+1):=by rw[←Nb he9,QM hv]
   refine WP.sub (Hv (j:=5) (k:=6) (p:=e) (e:=137) (trs:=[sR 102 (R.wl (R.run (t+1)) e (R.I t++[t])),.v (.int .i64 ((t:Nat):Int)),.v (.bool true)]) (l':=((R.own1 (R.run (t+1)) t (e+1)).map eU).map .t) rfl rfl rfl (List.getElem?_set_self (by rw[mG];omega)) ((Om (x:=((R.wl (R.run (t+1)) e (R.I t++[t])),((t:Nat):Int),true))).trans (by rw[hn1]))) ?_
   refine WP.sub (iJ (j:=0) (k:=5) (p:=3) (e:=96) (z:=1) (n:=(R.own1 (R.run (t+1)) t e).length) (trs:=(R.own1 (R.run (t+1)) t (e+1)).map eU) rfl rfl rfl rfl rfl (aN _ _ (by rw[dB,iW,iW];omega)) (by rw[dB,iW,iW];omega) rfl) ?_
   refine WP.sub (oU (j:=0) (key:=7) (p:=1) (e:=64) (z:=18) (n:=(R.vns (R.run (t+1)) (R.ex (R.run t) t) (fun _ _=>(0:Rat)) (R.vlk t e)).length) (trs:=(R.vns (R.run (t+1)) (R.ex (R.run t) t) (fun _ _=>(0:Rat)) (R.vlk t e)).flatMap (cA true)) rfl rfl rfl rfl rfl) ?_
   refine cI [0,1,4] [18] ?_
   refine dv 0 ?_;refine dv 1 ?_;refine dv 2 ?_;refine dv 3 ?_;refine dv 4 ?_;refine aK 5 ?_;refine dv 6 ?_;refine dv 7 ?_;refine aK 8 ?_
   refine aS 9 rfl (eW (z:=0) (by omega) (by omega)) kR ⟨a1 rfl,rfl⟩ (qF (.of ((0:Int):Rat))) ?_
   refine aS 10 rfl (eW (z:=0) (by omega) (by omega)) kR ⟨a1 rfl,rfl⟩ (qF (.of ((0:Int):Rat))) ?_
   refine aS 11 rfl (eW (z:=0) (by omega) (by omega)) kR ⟨a1 rfl,rfl⟩ (qF (.of ((0:Int):Rat))) ?_
   refine df 12 ?_;refine iG (key:=8) 13 (by kernel_rfl) rfl rfl aF rfl ⟨rfl,rfl,rfl,trivial⟩ ?_
   refine kC (j:=9) (n:=(R.vns (R.run (t+1)) (R.ex (R.run t) t) (fun _ _=>(0:Rat)) (R.vlk t e)).length) (l:=((R.vns (R.run (t+1)) (R.ex (R.run t) t) (fun _ _=>(0:Rat)) (R.vlk t e)).flatMap (cA true)).map .t) 14 rfl aF rfl rfl rfl (.sl rfl (by rw[dB,bE (cK true)])) (.sl rfl rfl rfl) rfl rfl (by rw[dQ];omega) (by rw[dQ];omega) rfl ⟨rfl,rfl,rfl,trivial⟩ rfl (by kernel_rfl) rfl ?_
   refine dI 15 ?_
   refine dI 16 ?_
   refine df 17 ?_;refine dst 18 ?_;refine aW ?_
   have hfin:R.vns (R.run (t+1)) (R.ex (R.run t) t) (fun _ _=>(0:Rat)) (R.vlk t e)++[⟨((t:Nat):Int),((e:Nat):Int),-(R.base t e),((0:Int):Rat),((0:Int):Rat),((0:Int):Rat)⟩]=R.vns (R.run (t+1)) (R.ex (R.run t) t) (fun _ _=>(0:Rat)) (R.vlk t (e+1)):=by
    rw[Td hv,←Oq];unfold Rg.vn;rw[Gx (bC _),Zb (bC _),(sD hv).1];rfl
   have hlen9:(R.vns (R.run (t+1)) (R.ex (R.run t) t) (fun _ _=>(0:Rat)) (R.vlk t (e+1))).length=(R.vns (R.run (t+1)) (R.ex (R.run t) t) (fun _ _=>(0:Rat)) (R.vlk t e)).length+1:=by rw[←hfin,fE];rfl
   refine WP.sub (iJ (j:=9) (k:=2) (p:=(R.vns (R.run (t+1)) (R.ex (R.run t) t) (fun _ _=>(0:Rat)) (R.vlk t e)).length*18+3) (e:=113) (z:=1) (n:=(dg 4294967296 (-(R.base t e)).num.natAbs).length) (trs:=aJ (dg 4294967296 (-(R.base t e)).num.natAbs)) rfl rfl rfl rfl (Em (Ap _ true)) (bS _) (aV _) (En (Ap _ true))) ?_
   refine WP.sub (iJ (j:=9) (k:=3) (p:=(R.vns (R.run (t+1)) (R.ex (R.run t) t) (fun _ _=>(0:Rat)) (R.vlk t e)).length*18+5) (e:=113) (z:=1) (n:=(dg 4294967296 (-(R.base t e)).den).length) (trs:=aJ (dg 4294967296 (-(R.base t e)).den)) rfl rfl rfl rfl (Em (Ap _ true)) (bS _) (aV _) (En (Ap _ true))) ?_
   refine WP.sub (iJ (j:=0) (k:=9) (p:=1) (e:=64) (z:=18) (n:=(R.vns (R.run (t+1)) (R.ex (R.run t) t) (fun _ _=>(0:Rat)) (R.vlk t e)).length+1) (trs:=(R.vns (R.run (t+1)) (R.ex (R.run t) t) (fun _ _=>(0:Rat)) (R.vlk t (e+1))).flatMap (cA true)) rfl rfl rfl (congrArg (fun l:List AV=>some (⟨64,18,l⟩:Ob)) ((EO (R.vns (R.run (t+1)) (R.ex (R.run t) t) (fun _ _=>(0:Rat)) (R.vlk t e)) ⟨((t:Nat):Int),((e:Nat):Int),-(R.base t e),((0:Int):Rat),((0:Int):Rat),((0:Int):Rat)⟩).trans (by rw[hfin]))) rfl (aN _ _ (by rw[bE (cK true),hlen9])) (by rw[bE (cK true),hlen9]) rfl) ?_
   refine rl (o1 ?_);refine bB 72 (e+1) ?_
   refine o1 ?_;refine nl ?_
   exact⟨e+1,by omega,by omega,fQ h0 [0,1] ⟨oe rfl (by have h9:(some ⟨95,0,[.t (cR true (R.rls (R.run (t+1)) (t+1))),.t (.s true 64 18 ((R.vns (R.run (t+1)) (R.ex (R.run t) t) (fun _ _=>(0:Rat)) (R.vlk t e)).length+1) ((R.vns (R.run (t+1)) (R.ex (R.run t) t) (fun _ _=>(0:Rat)) (R.vlk t (e+1))).flatMap (cA true))),.t (cF true true (R.run (t+1))),.t (.s true 96 1 (R.own1 (R.run (t+1)) t e).length ((R.own1 (R.run (t+1)) t (e+1)).map eU))]⟩:Option Ob)=some ⟨95,0,[.t (cR true (R.rls (R.run (t+1)) (t+1))),.t (cO true true (R.vns (R.run (t+1)) (R.ex (R.run t) t) (fun _ _=>(0:Rat)) (R.vlk t (e+1)))),.t (cF true true (R.run (t+1))),.t (eM (R.own1 (R.run (t+1)) t (e+1)))]⟩:=(by rw[cO,eM,hlen9,iW,iW]);exact h9),aB rfl,rfl⟩⟩
  refine sk ?_;have hv:R.isV t e=false:=h3
  refine rl (o1 ?_);refine bB 72 (e+1) ?_
  refine o1 ?_;refine nl ?_;have hv1:R.vlk t (e+1)=R.vlk t e:=Zc hv
  have hv2:R.own1 (R.run (t+1)) t (e+1)=R.own1 (R.run (t+1)) t e:=MA he9 (fun e=>My (bC _)) hv
  exact⟨e+1,by omega,by omega,fQ h0 [0,1] ⟨oe rfl (by have h9:(some ⟨95,0,[.t (cR true (R.rls (R.run (t+1)) (t+1))),.t (cO true true (R.vns (R.run (t+1)) (R.ex (R.run t) t) (fun _ _=>(0:Rat)) (R.vlk t e))),.t (cF true true (R.run (t+1))),.t (eM (R.own1 (R.run (t+1)) t e))]⟩:Option Ob)=some ⟨95,0,[.t (cR true (R.rls (R.run (t+1)) (t+1))),.t (cO true true (R.vns (R.run (t+1)) (R.ex (R.run t) t) (fun _ _=>(0:Rat)) (R.vlk t (e+1)))),.t (cF true true (R.run (t+1))),.t (eM (R.own1 (R.run (t+1)) t (e+1)))]⟩:=(by rw[hv1,hv2]);exact h9),aB rfl,rfl⟩⟩
 refine ex (sq ?_);have hee:e=R.E:=by omega
 subst hee;refine WP.sub (oU (j:=0) (key:=2) (p:=3) (e:=96) (z:=1) (n:=(R.own1 (R.run (t+1)) t R.E).length) (trs:=(R.own1 (R.run (t+1)) t R.E).map eU) rfl rfl rfl rfl rfl) ?_
 refine rl ?_;(iterate 3 refine o1 ?_);refine ld ?_;refine o1 ?_;refine o1 ?_;refine nl (bl ?_)
 have hx0:R.exk (R.run (t+1)) t 0 false=(R.ex (R.run t) t):=by rw[EF];exact Mz
 refine lp (γ:=Nat) (fun s=>bP [(0,pN 0),(1,iN R.f),(2,iN t),(76,.one (.sl 1 0 (R.E))),(77,iN R.E),(78,iN s)]) (fun s=>[(⟨95,0,[.t (cR true (R.rls (R.run (t+1)) (t+1))),.t (cO true true (R.vns (R.run (t+1)) (R.exk (R.run (t+1)) t s false) (fun _ _=>(0:Rat)) (R.vl (t+1)))),.t (cF true true (R.run (t+1))),.sl 1 0 R.E]⟩:Ob),⟨96,1,((R.own2 (R.run (t+1)) t s).map eU).map .t⟩].map some) (fun s=>s≤R.E) (fun s=>R.E-s) 0 (Nat.zero_le _) (yI h0 [0,2] _ _ (by decide) rfl ⟨rfl,rfl,rfl,(by rw[iW];rfl),oG (by rw[iW]),rfl,trivial⟩ ⟨oe rfl (by have h9:(some ⟨95,0,[.t (cR true (R.rls (R.run (t+1)) (t+1))),.t (cO true true (R.vns (R.run (t+1)) (R.ex (R.run t) t) (fun _ _=>(0:Rat)) (R.vlk t R.E))),.t (cF true true (R.run (t+1))),.sl 2 0 (R.own1 (R.run (t+1)) t R.E).length]⟩:Option Ob)=some ⟨95,0,[.t (cR true (R.rls (R.run (t+1)) (t+1))),.t (cO true true (R.vns (R.run (t+1)) (R.exk (R.run (t+1)) t 0 false) (fun _ _=>(0:Rat)) (R.vl (t+1)))),.t (cF true true (R.run (t+1))),.sl 2 0 R.E]⟩:=(by rw[hx0,iW,Tc]);exact h9),aB (by have h9:(some ⟨96,1,((R.own1 (R.run (t+1)) t R.E).map eU).map .t⟩:Option Ob)=some ⟨96,1,((R.own2 (R.run (t+1)) t 0).map eU).map .t⟩:=(by rw[EB]);exact h9),rfl⟩) ?_
 rintro q hq;refine sq (rl (o1 ?_));refine nl (sq ?_);refine bF rfl (fun h4=>?_) (fun h4=>?_)
 ·refine sk (sq (bl (sq ?_)));have hq9:q<R.E:=by omega
  have hIv:=hOk.run (k:=t+1) (by omega)
  have hal:=vN (R:=R) (U:=(R.run (t+1))) (e:=q) (I:=R.I t++[t])
  rw[fE,List.length_singleton]at hal;have hIl:=vO (R:=R) (k:=t)
  have hzz:∀x∈(R.wl (R.run (t+1)) q (R.I t++[t])),Sz 68719476736 x.2:=fun x hx=>by obtain⟨i,hi,rfl,_⟩:=jV.1 hx;exact(hIv.sz_left hOk (by rcases List.mem_append.1 hi with h | h;(have:=(lI.1 h).1;omega);(rw[List.mem_singleton]at h;omega)) hq9).mono (by omega)
  have hexp:=FD (vs:=(R.wl (R.run (t+1)) q (R.I t++[t]))) (last:=(R.lp q (t+1)).1) (put:=(R.lp q (t+1)).2) (b:=((t:Nat):Int)-((R.f:Nat):Int)+1) (by omega) hzz
  rw[SX,SY]at hexp
  refine WP.sub (Pc (j:=1) (key:=2) (p:=q) (e:=137) (trs:=[sR 102 (R.wl (R.run (t+1)) q (R.I t++[t])),.v (.int .i64 (R.lp q (t+1)).1),.v (.bool (R.lp q (t+1)).2)]) rfl rfl (by rw[Bc (by rw[Dc];exact hq9),ED hq9];rfl) rfl) ?_
  refine rl (o1 ?_);refine o1 ?_;refine Cj (l:=(((R.own2 (R.run (t+1)) t q).map eU).map AV.t).set q (.pt 2 0)) (v:=.pt 2 0) (Ez (by rw[mG,Dc];exact hq9)) ?_
  refine o1 ?_;refine o1 ?_;refine nl (sq (rl ?_));(iterate 5 refine o1 ?_)
  refine cl 3 [2] hexp ZT ⟨oe rfl rfl,rfl⟩ ⟨rfl,rfl,rfl⟩ (ok:=[some ⟨137,0,[.t (sR 102 (R.wl (R.run (t+1)) q (R.I (t+1)))),tv (.int .i64 (R.lp q (t+1)).1),tv (.bool (R.lp q (t+1)).2)]⟩]) ⟨oe rfl rfl,rfl⟩ ?_
  refine o1 ?_;refine o1 ?_;refine nl (bl ?_)
  refine WP.sub (RP (i:=88) (k:=3) (n:=(R.wl (R.run (t+1)) q (R.J t)).length) 102 rfl rfl rfl (bL true _) (Av true _) (.one .sl)) ?_
  refine WP.sub (Hv (j:=1) (k:=2) (p:=q) (e:=137) (trs:=[sR 102 (R.wl (R.run (t+1)) q (R.I (t+1))),.v (.int .i64 (R.lp q (t+1)).1),.v (.bool (R.lp q (t+1)).2)]) (l':=((R.own2 (R.run (t+1)) t (q+1)).map eU).map .t) rfl rfl rfl (List.getElem?_set_self (by rw[mG,Dc];exact hq9)) ((Om (x:=((R.wl (R.run (t+1)) q (R.I (t+1))),(R.lp q (t+1)).1,(R.lp q (t+1)).2))).trans (by rw[EE hq9]))) ?_
  refine WP.sub (oU (j:=0) (key:=4) (p:=1) (e:=64) (z:=18) (n:=(R.vns (R.run (t+1)) (R.exk (R.run (t+1)) t q false) (fun _ _=>(0:Rat)) (R.vl (t+1))).length) (trs:=(R.vns (R.run (t+1)) (R.exk (R.run (t+1)) t q false) (fun _ _=>(0:Rat)) (R.vl (t+1))).flatMap (cA true)) rfl rfl rfl rfl rfl) ?_
  refine lp (γ:=Nat) (fun s=>bP [(0,pN 0),(1,iN R.f),(2,iN t),(11,iN q),(76,.one (.sl 1 0 (R.E))),(77,iN R.E),(78,iN q),(88,.one (.t (sV 102 false (R.wl (R.run (t+1)) q (R.J t))))),(89,.one (tv (.int .i64 (((R.wl (R.run (t+1)) q (R.J t)).length:Nat):Int)))),(90,iN s)]) (fun s=>[(⟨95,0,[.t (cR true (R.rls (R.run (t+1)) (t+1))),.sl 2 0 (R.vl (t+1)).length,.t (cF true true (R.run (t+1))),.sl 1 0 R.E]⟩:Ob),⟨96,1,((R.own2 (R.run (t+1)) t (q+1)).map eU).map .t⟩,⟨64,18,((R.vns (R.run (t+1)) (R.exk (R.run (t+1)) t q (decide (0<s))) (fun _ _=>(0:Rat)) (R.vl (t+1))).flatMap (cA true)).map .t⟩].map some) (fun s=>s≤(R.wl (R.run (t+1)) q (R.J t)).length) (fun s=>(R.wl (R.run (t+1)) q (R.J t)).length-s) 0 (Nat.zero_le _) (fQ h0 [0,1,4] ⟨oe rfl (by have h9:(some ⟨95,0,[.t (cR true (R.rls (R.run (t+1)) (t+1))),.sl 4 0 (R.vns (R.run (t+1)) (R.exk (R.run (t+1)) t q false) (fun _ _=>(0:Rat)) (R.vl (t+1))).length,.t (cF true true (R.run (t+1))),.sl 1 0 R.E]⟩:Option Ob)=some ⟨95,0,[.t (cR true (R.rls (R.run (t+1)) (t+1))),.sl 4 0 (R.vl (t+1)).length,.t (cF true true (R.run (t+1))),.sl 1 0 R.E]⟩:=(by rw[dQ]);exact h9),aB rfl,aB rfl,rfl⟩) ?_
  rintro k hk;refine sq (rl (o1 ?_));refine nl (sq ?_);refine bF rfl (fun h5=>?_) (fun h5=>?_)
  ·refine sk (sq (bl (sq (rl (o1 ?_)))));refine dV (cZ false (aH (R.wl (R.run (t+1)) q (R.J t)) (k))) (vH false (by omega)) ?_
   refine al 3 ?_;refine st ?_;refine nl ?_;have hJ1:=Te (R:=R) (U:=(R.run (t+1))) (e:=q) (t:=t)
   obtain⟨j,hj,hxe,hjp⟩:=jV.1 (nP (vs:=(R.wl (R.run (t+1)) q (R.J t))) (k:=k) (by omega))
   have hj9:=Nd.1 hj
   have hx1:(aH (R.wl (R.run (t+1)) q (R.J t)) (k)).1=((j:Nat):Int):=by rw[hxe]
   have hx2:(aH (R.wl (R.run (t+1)) q (R.J t)) (k)).2=R.left (R.run (t+1)) j q:=by rw[hxe]
   have hk0:k=0:=by omega
   have hjv:R.isV j q=true:=by
    have h6:=(hIv.v j q (by omega) hq9).1.2
    cases h8:R.isV j q
    ·rw[Ej h8]at h6
     grind
    rfl
   have hjm:(j,q)∈R.vl (t+1):=fK.2 ⟨by dsimp only;omega,hq9,hjv⟩
   have hfi:(dH (cW (aH (R.wl (R.run (t+1)) q (R.J t)) (k)).1 ((q:Nat):Int)) (R.vns (R.run (t+1)) (R.exk (R.run (t+1)) t q (decide (0<k))) (fun _ _=>(0:Rat)) (R.vl (t+1))))<(R.vns (R.run (t+1)) (R.exk (R.run (t+1)) t q (decide (0<k))) (fun _ _=>(0:Rat)) (R.vl (t+1))).length:=by rw[hx1,dQ];exact(zH hjm).1
   have hvl9:=lJ (R:=R) hE (t+1)
   have hge:(R.vns (R.run (t+1)) (R.exk (R.run (t+1)) t q (decide (0<k))) (fun _ _=>(0:Rat)) (R.vl (t+1)))[(dH (cW (aH (R.wl (R.run (t+1)) q (R.J t)) (k)).1 ((q:Nat):Int)) (R.vns (R.run (t+1)) (R.exk (R.run (t+1)) t q (decide (0<k))) (fun _ _=>(0:Rat)) (R.vl (t+1))))]? =some (R.vn (R.run (t+1)) (R.exk (R.run (t+1)) t q (decide (0<k))) (fun _ _=>(0:Rat)) (j,q)):=by rw[hx1];exact An hjm
   have hset:(R.vns (R.run (t+1)) (R.exk (R.run (t+1)) t q (decide (0<k))) (fun _ _=>(0:Rat)) (R.vl (t+1))).set (dH (cW (aH (R.wl (R.run (t+1)) q (R.J t)) (k)).1 ((q:Nat):Int)) (R.vns (R.run (t+1)) (R.exk (R.run (t+1)) t q (decide (0<k))) (fun _ _=>(0:Rat)) (R.vl (t+1)))) (⟨(R.vn (R.run (t+1)) (R.exk (R.run (t+1)) t q (decide (0<k))) (fun _ _=>(0:Rat)) (j,q)).y,(R.vn (R.run (t+1)) (R.exk (R.run (t+1)) t q (decide (0<k))) (fun _ _=>(0:Rat)) (j,q)).e,(R.vn (R.run (t+1)) (R.exk (R.run (t+1)) t q (decide (0<k))) (fun _ _=>(0:Rat)) (j,q)).l,(R.vn (R.run (t+1)) (R.exk (R.run (t+1)) t q (decide (0<k))) (fun _ _=>(0:Rat)) (j,q)).u,(aH (R.wl (R.run (t+1)) q (R.J t)) (k)).2,(R.vn (R.run (t+1)) (R.exk (R.run (t+1)) t q (decide (0<k))) (fun _ _=>(0:Rat)) (j,q)).c⟩:Vn)=(R.vns (R.run (t+1)) (R.exk (R.run (t+1)) t q (decide (0<(k+1)))) (fun _ _=>(0:Rat)) (R.vl (t+1))):=by
    rw[hx1,hx2]
    have h9:=Ia (R:=R) (U:=(R.run (t+1))) (U':=(R.run (t+1))) (x:=(R.exk (R.run (t+1)) t q (decide (0<k)))) (x':=(R.exk (R.run (t+1)) t q (decide (0<(k+1))))) (c:=(fun _ _=>(0:Rat))) (c':=(fun _ _=>(0:Rat))) (gV (t+1)) hjm fun p _ hp=>by
     unfold Rg.vn;have h8:(R.exk (R.run (t+1)) t q (decide (0<k))) p.1 p.2=(R.exk (R.run (t+1)) t q (decide (0<(k+1)))) p.1 p.2:=by
      subst hk0;unfold Rg.exk;by_cases h5:p.2<q
      ·rw[if_pos (.inl h5),if_pos (.inl h5)]
      by_cases h6:p.2=q
      ·have h7:p.1≠j:=fun h=>hp (Prod.ext h h6)
       rw[if_neg (by simp;omega),if_pos (.inr ⟨h6,by simp⟩)]
       unfold Rg.ex;by_cases h4:p.1+R.f<t
       ·rw[if_pos h4,if_pos (by omega)]
       rw[if_neg h4,if_neg (by omega)]
      rw[if_neg (by simp;omega),if_neg (by simp;omega)]
     rw[h8]
    rw[←h9];unfold Rg.vn;have h7:(R.exk (R.run (t+1)) t q (decide (0<(k+1)))) j q=R.left (R.run (t+1)) j q:=by
     unfold Rg.exk Rg.ex;rw[if_pos (by simp),if_pos (by omega)]
    rw[h7]
   refine cI [3] [9] ?_
   refine dv 0 ?_;refine dv 1 ?_;refine aK 2 ?_;refine dv 3 ?_;refine dv 5 ?_;refine aK 6 ?_
   have hvi:=Ck (vs:=(R.vns (R.run (t+1)) (R.exk (R.run (t+1)) t q (decide (0<k))) (fun _ _=>(0:Rat)) (R.vl (t+1)))) (y:=(aH (R.wl (R.run (t+1)) q (R.J t)) (k)).1) (e:=((q:Nat):Int)) (ra:=(cR true (R.rls (R.run (t+1)) (t+1)))) (rb:=(cF true true (R.run (t+1)))) (m:=R.E) (l3:=(R.own2 (R.run (t+1)) t (q+1)).map eU) hfi (by rw[dQ];omega)
   rw[show(R.vns (R.run (t+1)) (R.exk (R.run (t+1)) t q (decide (0<k))) (fun _ _=>(0:Rat)) (R.vl (t+1))).length=(R.vl (t+1)).length from dQ]at hvi
   refine SZ 4 [0,2,1] rfl hvi GG ⟨oe rfl rfl,aB rfl,aB rfl,rfl⟩ ⟨rfl,rfl,rfl,rfl⟩ (ok:=[some ⟨95,0,[.t (cR true (R.rls (R.run (t+1)) (t+1))),.sl 2 0 (R.vl (t+1)).length,.t (cF true true (R.run (t+1))),.sl 1 0 R.E]⟩,some ⟨64,18,((R.vns (R.run (t+1)) (R.exk (R.run (t+1)) t q (decide (0<k))) (fun _ _=>(0:Rat)) (R.vl (t+1))).flatMap (cA true)).map .t⟩,some ⟨96,1,((R.own2 (R.run (t+1)) t (q+1)).map eU).map .t⟩]) ⟨oe rfl rfl,aB rfl,aB rfl,rfl⟩ ⟨rfl,trivial⟩ ?_
   refine dI 7 ?_
   refine df 8 ?_
   refine uP 9 (gZ (xs:=(R.vns (R.run (t+1)) (R.exk (R.run (t+1)) t q (decide (0<k))) (fun _ _=>(0:Rat)) (R.vl (t+1)))) (k:=(dH (cW (aH (R.wl (R.run (t+1)) q (R.J t)) (k)).1 ((q:Nat):Int)) (R.vns (R.run (t+1)) (R.exk (R.run (t+1)) t q (decide (0<k))) (fun _ _=>(0:Rat)) (R.vl (t+1))))) (x:=(R.vn (R.run (t+1)) (R.exk (R.run (t+1)) t q (decide (0<k))) (fun _ _=>(0:Rat)) (j,q))) (f:=(cA true)) (z:=18) (o:=10) (x':=(⟨(R.vn (R.run (t+1)) (R.exk (R.run (t+1)) t q (decide (0<k))) (fun _ _=>(0:Rat)) (j,q)).y,(R.vn (R.run (t+1)) (R.exk (R.run (t+1)) t q (decide (0<k))) (fun _ _=>(0:Rat)) (j,q)).e,(R.vn (R.run (t+1)) (R.exk (R.run (t+1)) t q (decide (0<k))) (fun _ _=>(0:Rat)) (j,q)).l,(R.vn (R.run (t+1)) (R.exk (R.run (t+1)) t q (decide (0<k))) (fun _ _=>(0:Rat)) (j,q)).u,(aH (R.wl (R.run (t+1)) q (R.J t)) (k)).2,(R.vn (R.run (t+1)) (R.exk (R.run (t+1)) t q (decide (0<k))) (fun _ _=>(0:Rat)) (j,q)).c⟩:Vn)) (us:=(Fr4.of (aH (R.wl (R.run (t+1)) q (R.J t)) (k)).2).tr false) (cK true) (hge) (bM rfl) rfl) (jW (xs:=(R.vns (R.run (t+1)) (R.exk (R.run (t+1)) t q (decide (0<k))) (fun _ _=>(0:Rat)) (R.vl (t+1)))) (k:=(dH (cW (aH (R.wl (R.run (t+1)) q (R.J t)) (k)).1 ((q:Nat):Int)) (R.vns (R.run (t+1)) (R.exk (R.run (t+1)) t q (decide (0<k))) (fun _ _=>(0:Rat)) (R.vl (t+1))))) (f:=(cA true)) (z:=18) (o:=10) (us:=(Fr4.of (aH (R.wl (R.run (t+1)) q (R.J t)) (k)).2).tr false) (cK true) (by omega) (bM rfl)) ?_
   refine aW ?_;refine rl (o1 ?_);refine bB 103 (k+1) ?_
   refine o1 ?_;refine nl ?_
   exact⟨k+1,by omega,by omega,fQ h0 [0,1,2] ⟨oe rfl rfl,aB rfl,aB (congrArg (fun l:List Vn=>some (⟨64,18,(l.flatMap (cA true)).map .t⟩:Ob)) hset),rfl⟩⟩
  refine ex ?_;have hJ1:=Te (R:=R) (U:=(R.run (t+1))) (e:=q) (t:=t)
  have hxk:(R.exk (R.run (t+1)) t q (decide (0<k)))=(R.exk (R.run (t+1)) t (q+1) false):=by
   by_cases hk0:0<k
   ·rw[decide_eq_true hk0]
    exact Nc
   have hE0:(R.wl (R.run (t+1)) q (R.J t))=[]:=List.eq_nil_of_length_eq_zero (by omega)
   rw[decide_eq_false hk0,EG hIv ht hq9 hE0];exact Nc
  refine WP.sub (iJ (j:=0) (k:=2) (p:=1) (e:=64) (z:=18) (n:=(R.vl (t+1)).length) (trs:=(R.vns (R.run (t+1)) (R.exk (R.run (t+1)) t (q+1) false) (fun _ _=>(0:Rat)) (R.vl (t+1))).flatMap (cA true)) rfl rfl rfl (congrArg (fun x:Nat→Nat→Rat=>some (⟨64,18,((R.vns (R.run (t+1)) x (fun _ _=>(0:Rat)) (R.vl (t+1))).flatMap (cA true)).map .t⟩:Ob)) hxk) rfl (aN _ _ (by rw[bE (cK true),dQ])) (by rw[bE (cK true),dQ]) rfl) ?_
  refine rl (o1 ?_);refine bB 104 (q+1) ?_
  refine o1 ?_;refine nl ?_
  exact⟨q+1,by omega,by omega,fQ h0 [0,1] ⟨oe rfl (by have h9:(some ⟨95,0,[.t (cR true (R.rls (R.run (t+1)) (t+1))),.t (.s true 64 18 (R.vl (t+1)).length ((R.vns (R.run (t+1)) (R.exk (R.run (t+1)) t (q+1) false) (fun _ _=>(0:Rat)) (R.vl (t+1))).flatMap (cA true))),.t (cF true true (R.run (t+1))),.sl 1 0 R.E]⟩:Option Ob)=some ⟨95,0,[.t (cR true (R.rls (R.run (t+1)) (t+1))),.t (cO true true (R.vns (R.run (t+1)) (R.exk (R.run (t+1)) t (q+1) false) (fun _ _=>(0:Rat)) (R.vl (t+1)))),.t (cF true true (R.run (t+1))),.sl 1 0 R.E]⟩:=(by rw[cO,dQ]);exact h9),aB rfl,rfl⟩⟩
 refine ex ?_;have hqq:q=R.E:=by omega
 subst hqq
 refine Pd (iJ (j:=0) (k:=1) (p:=3) (e:=96) (z:=1) (n:=R.E) (trs:=(R.own (R.run (t+1)) (R.I (t+1)) (t+1)).map eU) rfl rfl rfl (congrArg (fun l:List (List (Int×Rat)×Int×Bool)=>some (⟨96,1,(l.map eU).map .t⟩:Ob)) EC) rfl (aN _ _ (by rw[dB,lM];omega)) (by rw[dB,lM];omega) rfl) ?_
 have hvx:(R.vns (R.run (t+1)) (R.exk (R.run (t+1)) t R.E false) (fun _ _=>(0:Rat)) (R.vl (t+1)))=(R.vns (R.run (t+1)) (R.ex (R.run (t+1)) (t+1)) (fun _ _=>(0:Rat)) (R.vl (t+1))):=List.map_congr_left fun p hp=>by
  unfold Rg.vn;rw[MB (fK.1 hp).2.1]
 exact uR <| jS (lent':=[⟨95,0,[.t (cR true (R.rls (R.run (t+1)) (t+1))),.t (cO true true (R.vns (R.run (t+1)) (R.ex (R.run (t+1)) (t+1)) (fun _ _=>(0:Rat)) (R.vl (t+1)))),.t (cF true true (R.run (t+1))),.t (eM (R.own (R.run (t+1)) (R.I (t+1)) (t+1)))]⟩]) (.inr rfl) rfl Ch (by decide) (fun _ h=>by cases h) ⟨⟨rfl,rfl⟩,trivial⟩ ⟨(by have h9:(some ⟨95,0,[.t (cR true (R.rls (R.run (t+1)) (t+1))),.t (cO true true (R.vns (R.run (t+1)) (R.exk (R.run (t+1)) t R.E false) (fun _ _=>(0:Rat)) (R.vl (t+1)))),.t (cF true true (R.run (t+1))),.t (.s true 96 1 R.E ((R.own (R.run (t+1)) (R.I (t+1)) (t+1)).map eU))]⟩:Option Ob)=some ⟨95,0,[.t (cR true (R.rls (R.run (t+1)) (t+1))),.t (cO true true (R.vns (R.run (t+1)) (R.ex (R.run (t+1)) (t+1)) (fun _ _=>(0:Rat)) (R.vl (t+1)))),.t (cF true true (R.run (t+1))),.t (eM (R.own (R.run (t+1)) (R.I (t+1)) (t+1)))]⟩:=(by rw[hvx,eM,lM]);exact h9),trivial⟩ ⟨rfl,trivial⟩ (fun h=>by cases h) ⟨rfl,rfl⟩
set_option maxHeartbeats 4000000 in
theorem GM {R:Rg}{ys:List Yr}(hb:∀y∈ys,(∀a∈y.b,a.ok)∧y.l.ok∧y.b.length≤1073741823) (hno:dJ ((R.f:Nat):Int) ys=0) (hE9:(aG ys 0).m.length=R.E) (hOk:R.Ok ys.length) (h20:R.E*ys.length<20) (hyq:∀t,t<ys.length→yrt (aG ys t)=R.yrq t):aE false Tryz.prog 12 [] [.one (tv (.int .i64 ((R.f:Nat):Int))),.one (.t (gT ys))] (aT (.tup [.agg [.t (cR true (R.rls (R.run ys.length) ys.length)),.t (cO true true (R.vnE ys.length)),.t (cF true true (R.run ys.length))],.one (tv (.int .i64 0))])):=by
 refine bV Tryz.func12 rfl Tryz.ntmps12 rfl aF rfl fun N9 w9 c0 h0=>?_
 have hl:ys.length≤1073741823:=by have:=hOk.n;omega
 have hE6:=hOk.e;have hN:=hOk.n;have hF:=hOk.f
 refine sq (rl (al 0 ?_));refine o1 ?_;refine nl (sq (rl (al 1 ?_)));refine st ?_;refine nl ?_
 refine md (γ:=Unit) (fun _=>bP [(0,iN R.f),(1,.one (.t (gT ys))),(4,pN 0),(6,pN 1)]) (fun _=>([⟨39,0,[tv (.slice none 0 0),tv (.slice none 0 0),tv (.slice none 0 0)]⟩,⟨3,0,[tv (.int .i64 (((aG ys 0).m.length:Nat):Int))]⟩]:List Ob).map some) (fun _=>True) ?_ fun _ _=>?_
 ·refine sq (rl ?_);(iterate 3 refine o1 ?_);refine nl ?_;refine bF rfl (fun h1=>?_) (fun h1=>?_)
  ·refine rl ?_;(iterate 3 refine o1 ?_);refine dV ([gH (aG ys (0)).m]) (aI (f:=yrt) (z:=6) (o:=0) cL (bR (by omega)) (bM rfl) rfl) ?_
   refine o1 ?_;refine st ?_;refine nl ?_;exact⟨(),trivial,aP h0 [0,1] ⟨oe rfl rfl,oe rfl rfl,rfl⟩⟩
  refine sk ?_
  exact⟨(),trivial,aP h0 [0,1] ⟨oe rfl rfl,oe rfl (by have h9:ys=[]:=(List.eq_nil_of_length_eq_zero (by omega));subst h9;rfl),rfl⟩⟩
 refine sq (bl (sq (WP.sub (Kc (i:=6) (k:=1) (t:=3) (l:=[.v (.int .i64 (((aG ys 0).m.length:Nat):Int))]) rfl rfl rfl (.one .sl)) ?_)));refine rl ?_
 (iterate 3 refine o1 ?_);refine WL.split (t:=25) rfl (fun h2=>?_) (fun h2=>?_)
 ·refine cY ?_;refine cY ?_;refine o1 ?_;refine o1 ?_;(iterate 3 refine cY ?_);refine o1 ?_;refine o1 ?_;refine nl (iC rfl (sq (rl (o1 ?_))))
  refine st ?_;refine o1 ?_;refine nl (rt ?_)
  exact absurd (hno.symm.trans (show dJ ((R.f:Nat):Int) ys=2 by simp only[dJ,decide_eq_true h2,Bool.not_true,Bool.not_false,Bool.or_true,Bool.true_or,Bool.false_or,Bool.or_false,Bool.false_eq_true,if_true,if_false,ite_true,ite_false,Bool.and_true,Bool.true_and,Bool.false_and,Bool.and_false,Bool.not_not] <;> first | rfl | (simp;done) | (simp;omega))) (by decide)
 (iterate 4 refine o1 ?_);refine WL.split (t:=29) rfl (fun h3=>?_) (fun h3=>?_)
 ·(iterate 3 refine cY ?_);refine o1 ?_;refine o1 ?_;refine nl (iC rfl (sq (rl (o1 ?_))));refine st ?_;refine o1 ?_;refine nl (rt ?_)
  exact absurd (hno.symm.trans (show dJ ((R.f:Nat):Int) ys=2 by simp only[dJ,decide_eq_false h2,decide_eq_true h3,Bool.not_true,Bool.not_false,Bool.or_true,Bool.true_or,Bool.false_or,Bool.or_false,Bool.false_eq_true,if_true,if_false,ite_true,ite_false,Bool.and_true,Bool.true_and,Bool.false_and,Bool.and_false,Bool.not_not] <;> first | rfl | (simp;done) | (simp;omega))) (by decide)
 refine o1 ?_;refine o1 ?_
 refine ca (JQ (xs:=ys) (dl:=(fun y=> !gW y (aG ys 0).m.length)) (fd:=36) (fst:=[]) (caps:=[.p false 3 [.v (.int .i64 (((aG ys 0).m.length:Nat):Int))]]) SC (fun y hy=>Zp (hb y hy).1 (hb y hy).2.1 (hb y hy).2.2) hl) SD ⟨a1 rfl,a1 rfl,rfl⟩ (.one (tv (.bool (ys.any (fun y=> !gW y (aG ys 0).m.length))))) ?_
 refine o1 ?_;refine o1 ?_;refine nl ?_;refine qR rfl (fun h4=>?_) (fun h4=>?_)
 ·refine sq (rl (o1 ?_));refine st ?_;refine o1 ?_;refine nl (rt ?_)
  exact absurd (hno.symm.trans (show dJ ((R.f:Nat):Int) ys=2 by simp only[dJ,decide_eq_false h2,decide_eq_false h3,h4,Bool.not_true,Bool.not_false,Bool.or_true,Bool.true_or,Bool.false_or,Bool.or_false,Bool.false_eq_true,if_true,if_false,ite_true,ite_false,Bool.and_true,Bool.true_and,Bool.false_and,Bool.and_false,Bool.not_not] <;> first | rfl | (simp;done) | (simp;omega))) (by decide)
 refine sq (rl ?_);(iterate 4 refine o1 ?_);refine nl ?_;refine bF rfl (fun h5=>?_) (fun h5=>?_)
 ·refine sq (rl (o1 ?_));refine st ?_;refine o1 ?_;refine nl (rt ?_)
  exact absurd (hno.symm.trans (show dJ ((R.f:Nat):Int) ys=3 by simp only[dJ,decide_eq_false h2,decide_eq_false h3,h4,decide_eq_true h5,Bool.not_true,Bool.not_false,Bool.or_true,Bool.true_or,Bool.false_or,Bool.or_false,Bool.false_eq_true,if_true,if_false,ite_true,ite_false,Bool.and_true,Bool.true_and,Bool.false_and,Bool.and_false,Bool.not_not] <;> first | rfl | (simp;done) | (simp;omega))) (by decide)
 refine sk (sq (rl (o1 ?_)));refine bx 2 ?_;refine o1 ?_;refine nl (sq (sq (WP.sub (Nw (i:=6) rfl rfl) ?_)))
 refine WP.sub ((sT (j:=2) (key:=3) (e:=62) (z:=5) rfl rfl rfl (.sl (.id (.id (.id .nil))))).trans (iJ (j:=2) (k:=3) (p:=0) (e:=62) (z:=5) (n:=0) (trs:=[]) rfl rfl rfl rfl rfl rfl rfl rfl)) ?_
 refine WP.sub ((sT (j:=2) (key:=4) (e:=64) (z:=18) rfl rfl rfl (.id (.sl (.id (.id .nil))))).trans (iJ (j:=2) (k:=4) (p:=1) (e:=64) (z:=18) (n:=0) (trs:=[]) rfl rfl rfl rfl rfl rfl rfl rfl)) ?_
 refine WP.sub ((sT (j:=2) (key:=5) (e:=58) (z:=7) rfl rfl rfl (.id (.id (.sl (.id .nil))))).trans (iJ (j:=2) (k:=5) (p:=2) (e:=58) (z:=7) (n:=0) (trs:=[]) rfl rfl rfl rfl rfl rfl rfl rfl)) ?_
 refine WP.sub (sT (j:=2) (key:=6) (e:=96) (z:=1) rfl rfl rfl (.id (.id (.id (.sl .nil))))) ?_;refine rl ?_
 refine dV ([.v (.int .i64 (((aG ys 0).m.length:Nat):Int))]) rfl ?_;refine WL.cast (t:=42) (u':=.int .i64 ((R.E:Nat):Int)) rfl (dO (by rw[hE9])) ?_
 refine o1 ?_;refine nl (bl ?_)
 refine lp (γ:=Nat) (fun s=>bP [(0,iN R.f),(1,.one (.t (gT ys))),(4,pN 0),(7,pN 1),(42,iN R.E),(43,iN s)]) (fun s=>[(⟨39,0,[tv (.slice none 0 0),tv (.slice none 0 0),tv (.slice none 0 0)]⟩:Ob),⟨95,0,[.t (cR true (R.rls (R.run 0) 0)),.t (cO true true (R.vns (R.run 0) (R.ex (R.run 0) 0) (fun _ _=>(0:Rat)) (R.vl 0))),.t (cF true true (R.run 0)),.sl 2 0 s]⟩,⟨96,1,((qB s).map eU).map .t⟩].map some) (fun s=>s≤R.E) (fun s=>R.E-s) 0 (Nat.zero_le _) (aP h0 [0,2,6] ⟨oe rfl rfl,oe rfl rfl,aB rfl,rfl⟩) ?_
 rintro k hk;refine sq (rl (o1 ?_));refine nl (sq ?_);refine bF rfl (fun h6=>?_) (fun h6=>?_)
 ·refine sk (sq (bl ?_));refine cI [0,1] [8,9,10] ?_
  refine dv 0 ?_;refine dv 1 ?_;refine dv 2 ?_;refine dv 3 ?_;refine aK 4 ?_;refine kS 3 5 rfl (WF) ZU rfl ?_
  refine iG (key:=4) 6 (by kernel_rfl) rfl rfl aF rfl ⟨rfl,rfl,trivial⟩ ?_
  refine kC (j:=5) (n:=k) (l:=((qB k).map eU).map .t) 7 rfl aF rfl rfl rfl (.sl rfl (by rw[vQ,Nat.mul_one])) (.sl rfl rfl rfl) rfl rfl (by omega) (by omega) rfl ⟨rfl,rfl,trivial⟩ rfl (by kernel_rfl) rfl ?_
  refine dI 8 ?_
  refine dI 9 ?_
  refine dst 10 ?_;refine aW ?_
  refine WP.sub (Hv (j:=5) (k:=3) (p:=k) (e:=137) (trs:=[sR 102 [],.v (.int .i64 0),.v (.bool false)]) (l':=((qB (k+1)).map eU).map .t) rfl rfl rfl SF NA) ?_
  refine rl (o1 ?_);refine bB 55 (k+1) ?_
  refine o1 ?_;refine nl ?_;exact⟨k+1,by omega,by omega,aP h0 [0,1,5] ⟨oe rfl rfl,oe rfl rfl,aB rfl,rfl⟩⟩
 refine ex (sq (sq ?_));have hkE:k=R.E:=by omega
 subst hkE
 refine WP.sub (iJ (j:=1) (k:=2) (p:=3) (e:=96) (z:=1) (n:=R.E) (trs:=(qB R.E).map eU) rfl rfl rfl rfl rfl (aN _ _ (by rw[dB,xE,Nat.mul_one])) (by rw[dB,xE,Nat.mul_one]) rfl) ?_
 refine rl ?_;(iterate 3 refine o1 ?_);refine nl (bl ?_)
 refine lp (γ:=Nat) (fun s=>bP [(0,iN R.f),(4,pN 0),(7,pN 1),(56,.one (.t (gT ys))),(57,iN ys.length),(58,iN s)]) (fun s=>[(⟨39,0,[tv (.slice none 0 0),tv (.slice none 0 0),tv (.slice none 0 0)]⟩:Ob),⟨95,0,[.t (cR true (R.rls (R.run s) s)),.t (cO true true (R.vns (R.run s) (R.ex (R.run s) s) (fun _ _=>(0:Rat)) (R.vl s))),.t (cF true true (R.run s)),.t (eM (R.own (R.run s) (R.I s) s))]⟩].map some) (fun s=>s≤ys.length) (fun s=>ys.length-s) 0 (Nat.zero_le _) (aP h0 [0,1] ⟨oe rfl rfl,oe rfl (by have h9:(some ⟨95,0,[.t (cR true (R.rls (R.run 0) 0)),.t (cO true true (R.vns (R.run 0) (R.ex (R.run 0) 0) (fun _ _=>(0:Rat)) (R.vl 0))),.t (cF true true (R.run 0)),.t (.s true 96 1 R.E ((qB R.E).map eU))]⟩:Option Ob)=some ⟨95,0,[.t (cR true (R.rls (R.run 0) 0)),.t (cO true true (R.vns (R.run 0) (R.ex (R.run 0) 0) (fun _ _=>(0:Rat)) (R.vl 0))),.t (cF true true (R.run 0)),.t (eM (R.own (R.run 0) (R.I 0) 0))]⟩:=(by rw[FZ]);exact h9),rfl⟩) ?_
 rintro t ht;refine sq (rl (o1 ?_));refine nl (sq ?_);refine bF rfl (fun h7=>?_) (fun h7=>?_)
 ·refine sk (sq (bl (sq (rl (o1 ?_)))));refine o1 ?_
  refine dV (R.yrq t) ((by rw[←hyq t (by omega)];exact(aI (f:=yrt) (z:=6) (o:=0) cL (bR (by omega)) (bM rfl) rfl))) ?_
  refine al 2 ?_;refine o1 ?_;refine st ?_;refine nl (rl ?_);(iterate 3 refine o1 ?_);refine ld ?_
  refine cl 3 [1] (NO (t:=t) hOk (by omega) h20) ZV ⟨oe rfl rfl,rfl⟩ ⟨rfl,rfl,rfl,rfl,rfl⟩ (ok:=[some ⟨95,0,[.t (cR true (R.rls (R.run (t+1)) (t+1))),.t (cO true true (R.vns (R.run (t+1)) (R.ex (R.run (t+1)) (t+1)) (fun _ _=>(0:Rat)) (R.vl (t+1)))),.t (cF true true (R.run (t+1))),.t (eM (R.own (R.run (t+1)) (R.I (t+1)) (t+1)))]⟩]) ⟨oe rfl rfl,rfl⟩ ?_
  refine nl (rl (o1 ?_));refine bB 68 (t+1) ?_
  refine o1 ?_;refine nl ?_;exact⟨t+1,by omega,by omega,aP h0 [0,1] ⟨oe rfl rfl,oe rfl rfl,rfl⟩⟩
 refine ex (sq (sq ?_));have htt:t=ys.length:=by omega
 subst htt;have hIv:=hOk.run (bC ys.length)
 have hvl9:=lJ (R:=R) hE6 ys.length
 have hck0:(R.vns (R.run ys.length) (R.ex (R.run ys.length) ys.length) (fun _ _=>(0:Rat)) (R.vl ys.length))=(R.vns (R.run ys.length) (R.ex (R.run ys.length) ys.length) (R.clk (R.run ys.length) ys.length 0 0) (R.vl ys.length)):=by rw[EH]
 refine WP.sub (oU (j:=1) (key:=2) (p:=1) (e:=64) (z:=18) (n:=(R.vns (R.run ys.length) (R.ex (R.run ys.length) ys.length) (fun _ _=>(0:Rat)) (R.vl ys.length)).length) (trs:=(R.vns (R.run ys.length) (R.ex (R.run ys.length) ys.length) (fun _ _=>(0:Rat)) (R.vl ys.length)).flatMap (cA true)) rfl rfl rfl rfl rfl) ?_
 refine WP.sub (oU (j:=1) (key:=3) (p:=3) (e:=96) (z:=1) (n:=(R.own (R.run ys.length) (R.I ys.length) ys.length).length) (trs:=(R.own (R.run ys.length) (R.I ys.length) ys.length).map eU) rfl rfl rfl rfl rfl) ?_
 refine rl ?_;(iterate 3 refine o1 ?_);refine ld ?_;refine o1 ?_;refine o1 ?_;refine nl (bl ?_)
 refine lp (γ:=Nat) (fun s=>bP [(4,pN 0),(7,pN 1),(72,.one (.sl 3 0 (R.E))),(73,iN R.E),(74,iN s)]) (fun s=>[(⟨39,0,[tv (.slice none 0 0),tv (.slice none 0 0),tv (.slice none 0 0)]⟩:Ob),⟨95,0,[.t (cR true (R.rls (R.run ys.length) ys.length)),.sl 2 0 (R.vl ys.length).length,.t (cF true true (R.run ys.length)),.sl 3 0 R.E]⟩,⟨64,18,((R.vns (R.run ys.length) (R.ex (R.run ys.length) ys.length) (R.clk (R.run ys.length) ys.length s 0) (R.vl ys.length)).flatMap (cA true)).map .t⟩,⟨96,1,((R.own (R.run ys.length) (R.I ys.length) ys.length).map eU).map .t⟩].map some) (fun s=>s≤R.E) (fun s=>R.E-s) 0 (Nat.zero_le _) (iU h0 [0,1,2,3] _ _ (by decide) ⟨rfl,rfl,(by rw[lM];rfl),oG (by rw[lM]),rfl,trivial⟩ ⟨oe rfl rfl,oe rfl (by have h9:(some ⟨95,0,[.t (cR true (R.rls (R.run ys.length) ys.length)),.sl 2 0 (R.vns (R.run ys.length) (R.ex (R.run ys.length) ys.length) (fun _ _=>(0:Rat)) (R.vl ys.length)).length,.t (cF true true (R.run ys.length)),.sl 3 0 (R.own (R.run ys.length) (R.I ys.length) ys.length).length]⟩:Option Ob)=some ⟨95,0,[.t (cR true (R.rls (R.run ys.length) ys.length)),.sl 2 0 (R.vl ys.length).length,.t (cF true true (R.run ys.length)),.sl 3 0 R.E]⟩:=(by rw[dQ,lM]);exact h9),aB (congrArg (fun l:List Vn=>some (⟨64,18,(l.flatMap (cA true)).map .t⟩:Ob)) hck0),aB rfl,rfl⟩) ?_
 rintro q hq;refine sq (rl (o1 ?_));refine nl (sq ?_);refine bF rfl (fun h8=>?_) (fun h8=>?_)
 ·refine sk (sq (bl (sq ?_)));have hq9:q<R.E:=by omega
  have hwl:=vN (R:=R) (U:=(R.run ys.length)) (e:=q) (I:=R.I ys.length)
  have hIl:=vO (R:=R) (k:=ys.length)
  have hle9:dU (R.own (R.run ys.length) (R.I ys.length) ys.length) q=((R.wl (R.run ys.length) q (R.I ys.length)),(R.lp q ys.length).1,(R.lp q ys.length).2):=Gt hq9
  have hol9:(R.own (R.run ys.length) (R.I ys.length) ys.length).length=R.E:=lM
  have hzz:∀x∈(R.wl (R.run ys.length) q (R.I ys.length)),Sz 68719476736 x.2:=fun x hx=>by obtain⟨i,hi,rfl,_⟩:=jV.1 hx;exact(hIv.sz_left hOk (lI.1 hi).1 hq9).mono (by omega)
  refine WP.sub (Pc (j:=3) (key:=4) (p:=q) (e:=137) (trs:=[sR 102 (R.wl (R.run ys.length) q (R.I ys.length)),.v (.int .i64 (R.lp q ys.length).1),.v (.bool (R.lp q ys.length).2)]) rfl rfl (by rw[Bc (by omega),hle9];rfl) rfl) ?_
  refine rl (o1 ?_);refine o1 ?_
  refine Cj (l:=(((R.own (R.run ys.length) (R.I ys.length) ys.length).map eU).map AV.t).set q (.pt 4 0)) (v:=.pt 4 0) (Ez (by rw[mG];omega)) ?_
  refine o1 ?_;refine o1 ?_;refine nl (sq (rl (o1 ?_)))
  refine iS 5 (Zw (vs:=(R.wl (R.run ys.length) q (R.I ys.length))) (rest:=[.v (.int .i64 (R.lp q ys.length).1),.v (.bool (R.lp q ys.length).2)]) hzz (by omega)) SV ⟨sS rfl (.pe (trs:=[sR 102 (R.wl (R.run ys.length) q (R.I ys.length)),.v (.int .i64 (R.lp q ys.length).1),.v (.bool (R.lp q ys.length).2)]) rfl rfl rfl (by simp only[rdTL,oF,sR,sV,Av])),rfl⟩ ?_
  refine o1 ?_;refine o1 ?_;refine nl (bl ?_)
  refine WP.sub (RP (i:=80) (k:=5) (n:=(R.wl (R.run ys.length) q (R.I ys.length)).length) 102 rfl rfl rfl (bL true _) (Av true _) (.one .sl)) ?_
  refine WP.sub (Hv (j:=3) (k:=4) (p:=q) (e:=137) (trs:=[sR 102 (R.wl (R.run ys.length) q (R.I ys.length)),.v (.int .i64 (R.lp q ys.length).1),.v (.bool (R.lp q ys.length).2)]) (l':=((R.own (R.run ys.length) (R.I ys.length) ys.length).map eU).map .t) rfl rfl rfl (List.getElem?_set_self (by rw[mG];omega)) (Tx (x:=((R.wl (R.run ys.length) q (R.I ys.length)),(R.lp q ys.length).1,(R.lp q ys.length).2)) (by omega) hle9)) ?_
  refine lp (γ:=Nat) (fun s=>bP [(4,pN 0),(7,pN 1),(10,iN q),(72,.one (.sl 3 0 (R.E))),(73,iN R.E),(74,iN q),(80,.one (.t (sV 102 false (R.wl (R.run ys.length) q (R.I ys.length))))),(81,iN ((R.wl (R.run ys.length) q (R.I ys.length)).length)),(82,iN s)]) (fun s=>[(⟨39,0,[tv (.slice none 0 0),tv (.slice none 0 0),tv (.slice none 0 0)]⟩:Ob),⟨95,0,[.t (cR true (R.rls (R.run ys.length) ys.length)),.sl 2 0 (R.vl ys.length).length,.t (cF true true (R.run ys.length)),.sl 3 0 R.E]⟩,⟨64,18,((R.vns (R.run ys.length) (R.ex (R.run ys.length) ys.length) (R.clk (R.run ys.length) ys.length q s) (R.vl ys.length)).flatMap (cA true)).map .t⟩,⟨96,1,((R.own (R.run ys.length) (R.I ys.length) ys.length).map eU).map .t⟩].map some) (fun s=>s≤(R.wl (R.run ys.length) q (R.I ys.length)).length) (fun s=>(R.wl (R.run ys.length) q (R.I ys.length)).length-s) 0 (Nat.zero_le _) (aP h0 [0,1,2,3] ⟨oe rfl rfl,oe rfl rfl,aB rfl,aB rfl,rfl⟩) ?_
  rintro k hk;refine sq (rl (o1 ?_));refine nl (sq ?_);refine bF rfl (fun h9=>?_) (fun h9=>?_)
  ·refine sk (sq (bl (sq (rl (o1 ?_)))))
   refine dV (cZ false (aH (R.wl (R.run ys.length) q (R.I ys.length)) (k))) (vH false (by omega)) ?_
   refine al 4 ?_;refine st ?_;refine nl ?_;obtain⟨j,hx,hj0,hjn,hjf⟩:=VW (R:=R) (U:=(R.run ys.length)) (q:=q) (n:=ys.length) (k:=k) (by omega)
   have hx1:(aH (R.wl (R.run ys.length) q (R.I ys.length)) (k)).1=((j:Nat):Int):=by rw[hx]
   have hx2:(aH (R.wl (R.run ys.length) q (R.I ys.length)) (k)).2=R.left (R.run ys.length) j q:=by rw[hx]
   have hjv:R.isV j q=true:=by
    have h6:=(hIv.v j q hjn hq9).1.2
    cases h8:R.isV j q
    ·rw[Ej h8]at h6
     grind
    rfl
   have hjm:(j,q)∈(R.vl ys.length):=fK.2 ⟨hjn,hq9,hjv⟩
   have hfi:(dH (cW (aH (R.wl (R.run ys.length) q (R.I ys.length)) (k)).1 ((q:Nat):Int)) (R.vns (R.run ys.length) (R.ex (R.run ys.length) ys.length) (R.clk (R.run ys.length) ys.length q k) (R.vl ys.length)))<(R.vns (R.run ys.length) (R.ex (R.run ys.length) ys.length) (R.clk (R.run ys.length) ys.length q k) (R.vl ys.length)).length:=by rw[hx1,dQ];exact(zH hjm).1
   have hge:(R.vns (R.run ys.length) (R.ex (R.run ys.length) ys.length) (R.clk (R.run ys.length) ys.length q k) (R.vl ys.length))[(dH (cW (aH (R.wl (R.run ys.length) q (R.I ys.length)) (k)).1 ((q:Nat):Int)) (R.vns (R.run ys.length) (R.ex (R.run ys.length) ys.length) (R.clk (R.run ys.length) ys.length q k) (R.vl ys.length)))]? =some (R.vn (R.run ys.length) (R.ex (R.run ys.length) ys.length) (R.clk (R.run ys.length) ys.length q k) (j,q)):=by rw[hx1];exact An hjm
   have hset:(R.vns (R.run ys.length) (R.ex (R.run ys.length) ys.length) (R.clk (R.run ys.length) ys.length q k) (R.vl ys.length)).set (dH (cW (aH (R.wl (R.run ys.length) q (R.I ys.length)) (k)).1 ((q:Nat):Int)) (R.vns (R.run ys.length) (R.ex (R.run ys.length) ys.length) (R.clk (R.run ys.length) ys.length q k) (R.vl ys.length))) (⟨(R.vn (R.run ys.length) (R.ex (R.run ys.length) ys.length) (R.clk (R.run ys.length) ys.length q k) (j,q)).y,(R.vn (R.run ys.length) (R.ex (R.run ys.length) ys.length) (R.clk (R.run ys.length) ys.length q k) (j,q)).e,(R.vn (R.run ys.length) (R.ex (R.run ys.length) ys.length) (R.clk (R.run ys.length) ys.length q k) (j,q)).l,(R.vn (R.run ys.length) (R.ex (R.run ys.length) ys.length) (R.clk (R.run ys.length) ys.length q k) (j,q)).u,(R.vn (R.run ys.length) (R.ex (R.run ys.length) ys.length) (R.clk (R.run ys.length) ys.length q k) (j,q)).x,(aH (R.wl (R.run ys.length) q (R.I ys.length)) (k)).2⟩:Vn)=(R.vns (R.run ys.length) (R.ex (R.run ys.length) ys.length) (R.clk (R.run ys.length) ys.length q (k+1)) (R.vl ys.length)):=by
    rw[hx1,hx2]
    have h9:=Ia (R:=R) (U:=(R.run ys.length)) (U':=(R.run ys.length)) (x:=(R.ex (R.run ys.length) ys.length)) (x':=(R.ex (R.run ys.length) ys.length)) (c:=(R.clk (R.run ys.length) ys.length q k)) (c':=(R.clk (R.run ys.length) ys.length q (k+1))) (gV ys.length) hjm fun p _ hp=>by
     unfold Rg.vn;rw[EL (by omega) hx fun h=>hp (Prod.ext h.1 h.2)]
    rw[←h9];unfold Rg.vn;rw[MD (by omega) hx hjf]
   refine cI [0,4] [9] ?_
   refine dv 0 ?_;refine dv 1 ?_;refine aK 2 ?_;refine dv 3 ?_;refine dv 5 ?_;refine aK 6 ?_
   have hvi:=Ck (vs:=(R.vns (R.run ys.length) (R.ex (R.run ys.length) ys.length) (R.clk (R.run ys.length) ys.length q k) (R.vl ys.length))) (y:=(aH (R.wl (R.run ys.length) q (R.I ys.length)) (k)).1) (e:=((q:Nat):Int)) (ra:=(cR true (R.rls (R.run ys.length) ys.length))) (rb:=(cF true true (R.run ys.length))) (m:=R.E) (l3:=(R.own (R.run ys.length) (R.I ys.length) ys.length).map eU) hfi (by rw[dQ];omega)
   rw[show(R.vns (R.run ys.length) (R.ex (R.run ys.length) ys.length) (R.clk (R.run ys.length) ys.length q k) (R.vl ys.length)).length=(R.vl ys.length).length from dQ]at hvi
   refine SZ 4 [1,2,3] rfl hvi GG ⟨oe rfl rfl,aB rfl,aB rfl,rfl⟩ ⟨rfl,rfl,rfl,rfl⟩ (ok:=[some ⟨95,0,[.t (cR true (R.rls (R.run ys.length) ys.length)),.sl 2 0 (R.vl ys.length).length,.t (cF true true (R.run ys.length)),.sl 3 0 R.E]⟩,some ⟨64,18,((R.vns (R.run ys.length) (R.ex (R.run ys.length) ys.length) (R.clk (R.run ys.length) ys.length q k) (R.vl ys.length)).flatMap (cA true)).map .t⟩,some ⟨96,1,((R.own (R.run ys.length) (R.I ys.length) ys.length).map eU).map .t⟩]) ⟨oe rfl rfl,aB rfl,aB rfl,rfl⟩ ⟨rfl,rfl,trivial⟩ ?_
   refine dI 7 ?_
   refine df 8 ?_
   refine uP 9 (gZ (xs:=(R.vns (R.run ys.length) (R.ex (R.run ys.length) ys.length) (R.clk (R.run ys.length) ys.length q k) (R.vl ys.length))) (k:=(dH (cW (aH (R.wl (R.run ys.length) q (R.I ys.length)) (k)).1 ((q:Nat):Int)) (R.vns (R.run ys.length) (R.ex (R.run ys.length) ys.length) (R.clk (R.run ys.length) ys.length q k) (R.vl ys.length)))) (x:=(R.vn (R.run ys.length) (R.ex (R.run ys.length) ys.length) (R.clk (R.run ys.length) ys.length q k) (j,q))) (f:=(cA true)) (z:=18) (o:=14) (x':=(⟨(R.vn (R.run ys.length) (R.ex (R.run ys.length) ys.length) (R.clk (R.run ys.length) ys.length q k) (j,q)).y,(R.vn (R.run ys.length) (R.ex (R.run ys.length) ys.length) (R.clk (R.run ys.length) ys.length q k) (j,q)).e,(R.vn (R.run ys.length) (R.ex (R.run ys.length) ys.length) (R.clk (R.run ys.length) ys.length q k) (j,q)).l,(R.vn (R.run ys.length) (R.ex (R.run ys.length) ys.length) (R.clk (R.run ys.length) ys.length q k) (j,q)).u,(R.vn (R.run ys.length) (R.ex (R.run ys.length) ys.length) (R.clk (R.run ys.length) ys.length q k) (j,q)).x,(aH (R.wl (R.run ys.length) q (R.I ys.length)) (k)).2⟩:Vn)) (us:=(Fr4.of (aH (R.wl (R.run ys.length) q (R.I ys.length)) (k)).2).tr false) (cK true) (hge) (bM rfl) rfl) (jW (xs:=(R.vns (R.run ys.length) (R.ex (R.run ys.length) ys.length) (R.clk (R.run ys.length) ys.length q k) (R.vl ys.length))) (k:=(dH (cW (aH (R.wl (R.run ys.length) q (R.I ys.length)) (k)).1 ((q:Nat):Int)) (R.vns (R.run ys.length) (R.ex (R.run ys.length) ys.length) (R.clk (R.run ys.length) ys.length q k) (R.vl ys.length)))) (f:=(cA true)) (z:=18) (o:=14) (us:=(Fr4.of (aH (R.wl (R.run ys.length) q (R.I ys.length)) (k)).2).tr false) (cK true) (by omega) (bM rfl)) ?_
   refine aW ?_;refine rl (o1 ?_);refine bB 95 (k+1) ?_
   refine o1 ?_;refine nl ?_
   exact⟨k+1,by omega,by omega,aP h0 [0,1,2,3] ⟨oe rfl rfl,oe rfl rfl,aB (congrArg (fun l:List Vn=>some (⟨64,18,(l.flatMap (cA true)).map .t⟩:Ob)) hset),aB rfl,rfl⟩⟩
  refine ex (rl (o1 ?_));refine bB 96 (q+1) ?_
  refine o1 ?_;refine nl ?_
  have hxk:(R.vns (R.run ys.length) (R.ex (R.run ys.length) ys.length) (R.clk (R.run ys.length) ys.length q k) (R.vl ys.length))=(R.vns (R.run ys.length) (R.ex (R.run ys.length) ys.length) (R.clk (R.run ys.length) ys.length (q+1) 0) (R.vl ys.length)):=Ng fun p hp=>⟨rfl,EJ hIv (by omega) hq9 (fK.1 hp).1⟩
  exact⟨q+1,by omega,by omega,aP h0 [0,1,2,3] ⟨oe rfl rfl,oe rfl rfl,aB (congrArg (fun l:List Vn=>some (⟨64,18,(l.flatMap (cA true)).map .t⟩:Ob)) hxk),aB rfl,rfl⟩⟩
 refine ex (sq ?_);have hqq:q=R.E:=by omega
 subst hqq
 have hfin:(R.vns (R.run ys.length) (R.ex (R.run ys.length) ys.length) (R.clk (R.run ys.length) ys.length R.E 0) (R.vl ys.length))=(R.vnE ys.length):=Ng fun p hp=>⟨rfl,EK (fK.1 hp).2.1⟩
 refine WP.sub (oU (j:=1) (key:=4) (p:=0) (e:=62) (z:=5) (n:=(R.rls (R.run ys.length) ys.length).length) (trs:=(R.rls (R.run ys.length) ys.length).flatMap rlt) rfl rfl rfl rfl rfl) ?_
 refine WP.sub (oU (j:=1) (key:=5) (p:=2) (e:=58) (z:=7) (n:=(R.run ys.length).length) (trs:=(R.run ys.length).flatMap (dK true)) rfl rfl rfl rfl rfl) ?_;refine rl ?_
 (iterate 3 refine o1 ?_);refine ld ?_;refine st ?_;refine o1 ?_;refine nl (rt ?_)
 have h9:(.s true 64 18 (R.vl ys.length).length ((R.vns (R.run ys.length) (R.ex (R.run ys.length) ys.length) (R.clk (R.run ys.length) ys.length R.E 0) (R.vl ys.length)).flatMap (cA true)):Tr)=cO true true (R.vnE ys.length):=by
  rw[hfin];unfold cO Rg.vnE;rw[dQ]
 exact en (.inl rfl) rfl (sX (.cons (.agg (.cons (.sl (trs:=(R.rls (R.run ys.length) ys.length).flatMap rlt) rfl rfl (aN _ _ (bE eO _)) (bE eO _)) (.cons (.sl (trs:=(R.vns (R.run ys.length) (R.ex (R.run ys.length) ys.length) (R.clk (R.run ys.length) ys.length R.E 0) (R.vl ys.length)).flatMap (cA true)) rfl rfl (aN _ _ (by rw[bE (cK true),dQ])) (by rw[bE (cK true),dQ])) (.cons (.sl (trs:=(R.run ys.length).flatMap (dK true)) rfl rfl (aN _ _ (bE (dA true) _)) (bE (dA true) _)) .nil)))) (.cons (cX _) .nil))) (by decide) (fun h=>by cases h) (congrArg (fun z:Tr=>FV.tup [.agg [.t (cR true (R.rls (R.run ys.length) ys.length)),.t z,.t (cF true true (R.run ys.length))],.one (tv (.int .i64 0))]) h9)
theorem nW {fw:Int}{ys:List Yr}(hf:iM ys=true) (hy:∀y∈ys,iH y) (h20:dJ fw ys=0→(aG ys 0).m.length*ys.length<20):aE false Tryz.prog 12 [] [.one (tv (.int .i64 fw)),.one (.t (gT ys))] (aT (.tup [.agg [.t (cR true (bJ fw ys)),.t (cO true true (bG fw ys)),.t (cF true true (aA fw ys))],.one (tv (.int .i64 (dJ fw ys)))])):=by
 obtain⟨h1,h2⟩:=sN hf
 have hb:∀y∈ys,(∀a∈y.b,a.ok)∧y.l.ok∧y.b.length≤1073741823:=fun y hm=>⟨fun a ha=>oH ((hy y hm).1 a ha) ((h2 y hm).2.2.2 a ha),oH (hy y hm).2 (h2 y hm).2.2.1,by have:=(h2 y hm).2.1;omega⟩
 by_cases h:dJ fw ys=0
 ·obtain⟨g1,g2,g3,g4,_⟩:=nU hf hy h
  have h9:=GM (R:=aM fw.toNat ys) hb (by rw[show(((aM fw.toNat ys).f:Nat):Int)=fw from g3];exact h) rfl g1 (h20 h) g2
  rw[show(((aM fw.toNat ys).f:Nat):Int)=fw from g3]at h9
  unfold bJ bG aA
  rw[if_pos h,if_pos h,if_pos h,h]
  exact h9
 unfold bJ bG aA
 rw[if_neg h,if_neg h,if_neg h]
 exact FU hb (by omega) h
theorem GN {fw:Int}{ys:List Yr}{k:Nat}(hk:k≤ys.length) (h:(aG ys 0).m.length*ys.length<20):(aG (ys.take k) 0).m.length*(ys.take k).length<20:=by
 rw[eJ,Nat.min_eq_left hk]
 rcases Nat.eq_zero_or_pos k with h0 | h0
 ·subst h0
  simp
 rw[kY h0]
 exact Nat.lt_of_le_of_lt (Nat.mul_le_mul_left _ hk) h
theorem NP:aE false Tryz.prog 12 [] [.one (tv (.int .i64 2)),.one (.t (gT oY))] (aT (.tup [.agg [.t (cR true (bJ 2 oY)),.t (cO true true (bG 2 oY)),.t (cF true true qW)],.one (tv (.int .i64 0))])):=by
 have h:=nW (fw:=2) (ys:=oY) (by kernel_rfl) NF (fun _=>by decide)
 rw[show dJ 2 oY=0 by kernel_rfl,show aA 2 oY=qW by kernel_rfl]at h
 exact h
theorem NQ:aE false Tryz.prog 12 [] [.one (tv (.int .i64 2)),.one (.t (gT yH))] (aT (.tup [.agg [.t (cR true (bJ 2 yH)),.t (cO true true Ki),.t (cF true true uD)],.one (tv (.int .i64 0))])):=by
 have h:=nW (fw:=2) (ys:=yH) (by kernel_rfl) NG (fun _=>by decide)
 rw[show dJ 2 yH=0 by kernel_rfl,show aA 2 yH=uD by kernel_rfl,show bG 2 yH=Ki by kernel_rfl]at h
 exact h
theorem fX:aE true Tryz.prog 9 [] [] (aT (.one (tv (.bool true)))):=by
 refine bV Tryz.func9 rfl Tryz.ntmps9 rfl aF rfl fun N9 w9 c0 h0=>?_
 have hu1:qW.length=2:=rfl
 have hu2:uD.length=2:=rfl
 have hv2:Ki.length=2:=rfl
 refine sq (rl (o1 ?_));refine nl (sq (rl (o1 ?_)));refine nl (sq (rl ?_))
 refine ca (mH (m:=false) (b:=(-10)) (l:=0) (by omega) (by omega) (by omega) (by omega)) xJ ⟨a1 rfl,a1 rfl,a1 rfl,rfl⟩ (.agg ((yrt (fH false (-10) 0)).map .t)) ?_
 refine ca (mH (m:=true) (b:=4) (l:=100) (by omega) (by omega) (by omega) (by omega)) xJ ⟨a1 rfl,a1 rfl,a1 rfl,rfl⟩ (.agg ((yrt (fH true 4 100)).map .t)) ?_
 refine ca (mH (m:=true) (b:=8) (l:=100) (by omega) (by omega) (by omega) (by omega)) xJ ⟨a1 rfl,a1 rfl,a1 rfl,rfl⟩ (.agg ((yrt (fH true 8 100)).map .t)) ?_
 refine bs 0 ?_;refine WL.sub (fz (i:=10) (k:=0) (t:=67) (z:=6) (n:=3) (l:=oY.flatMap yrt) rfl rfl rfl rfl) ?_
 refine ca (NP) Ds ⟨a1 rfl,a1 rfl,rfl⟩ (.tup [.agg [.t (cR false (bJ 2 oY)),.t (cO false true (bG 2 oY)),.t (cF false true qW)],.one (tv (.int .i64 0))]) ?_;refine o1 ?_
 refine o1 ?_;refine WL.sub (Hw (i:=12) (l:=[(cR false (bJ 2 oY)),(cO false true (bG 2 oY)),(cF false true qW)]) rfl rfl (vS (bJ 2 oY) (bG 2 oY) qW)) ?_;refine o1 ?_
 refine al 1 ?_;refine st ?_;refine o1 ?_;refine nl (sq (rl ?_))
 refine ca (mH (m:=false) (b:=(-10)) (l:=0) (by omega) (by omega) (by omega) (by omega)) xJ ⟨a1 rfl,a1 rfl,a1 rfl,rfl⟩ (.agg ((yrt (fH false (-10) 0)).map .t)) ?_
 refine ca (mH (m:=true) (b:=4) (l:=3) (by omega) (by omega) (by omega) (by omega)) xJ ⟨a1 rfl,a1 rfl,a1 rfl,rfl⟩ (.agg ((yrt (fH true 4 3)).map .t)) ?_
 refine ca (mH (m:=false) (b:=(-2)) (l:=9) (by omega) (by omega) (by omega) (by omega)) xJ ⟨a1 rfl,a1 rfl,a1 rfl,rfl⟩ (.agg ((yrt (fH false (-2) 9)).map .t)) ?_
 refine ca (mH (m:=true) (b:=8) (l:=100) (by omega) (by omega) (by omega) (by omega)) xJ ⟨a1 rfl,a1 rfl,a1 rfl,rfl⟩ (.agg ((yrt (fH true 8 100)).map .t)) ?_
 refine bs 2 ?_;refine WL.sub (fz (i:=19) (k:=2) (t:=67) (z:=6) (n:=4) (l:=yH.flatMap yrt) rfl rfl rfl rfl) ?_
 refine ca (NQ) Ds ⟨a1 rfl,a1 rfl,rfl⟩ (.tup [.agg [.t (cR false (bJ 2 yH)),.t (cO false true Ki),.t (cF false true uD)],.one (tv (.int .i64 0))]) ?_;refine o1 ?_;refine o1 ?_
 refine WL.sub (Hw (i:=21) (l:=[(cR false (bJ 2 yH)),(cO false true Ki),(cF false true uD)]) rfl rfl (vS (bJ 2 yH) Ki uD)) ?_;refine o1 ?_;refine al 3 ?_;refine st ?_
 refine o1 ?_;refine nl (sq (sq (rl (o1 ?_))));refine o1 ?_;refine WL.cast (t:=24) (u':=.bool false) rfl (congrArg Value.bool (by kernel_rfl)) ?_
 (iterate 3 refine o1 ?_);refine WL.cast (t:=27) (u':=.bool false) rfl (congrArg Value.bool (by kernel_rfl)) ?_
 (iterate 3 refine o1 ?_);refine ld ?_;refine o1 ?_;refine o1 ?_;refine WL.cast (t:=33) (u':=.bool false) rfl (congrArg Value.bool (by kernel_rfl)) ?_
 (iterate 3 refine o1 ?_);refine ld ?_;refine o1 ?_;refine o1 ?_;refine WL.cast (t:=39) (u':=.bool false) rfl (congrArg Value.bool (by kernel_rfl)) ?_
 (iterate 3 refine o1 ?_);refine ld ?_;refine o1 ?_;refine o1 ?_;refine WL.cast (t:=45) (u':=.bool false) rfl (congrArg Value.bool (by kernel_rfl)) ?_
 refine o1 ?_;refine nl (dW rfl (sk (sq ?_)));refine cI [1,3] [77] ?_
 refine dv 0 ?_;refine aK 1 ?_;refine dv 2 ?_;refine dv 3 ?_
 refine dD 4 ((Fr4.of (bN qW (0)).n).tr false) (aI (f:=(dK false)) (z:=7) (o:=3) (dA false) (dG (by omega)) (bM rfl) rfl) ?_
 refine dv 5 ?_
 refine yZ 6 4 [.one (tv (.int .i64 ((4:Nat):Int))),.one (tv (.int .i64 ((1:Nat):Int)))] rfl rfl (kZ (n:=4) (d:=1) (by omega) (by omega) (by omega) (by omega)) nV ⟨rfl,rfl,rfl⟩ ?_
 refine aS 7 rfl (jX (p:=(bN qW (0)).n) (q:=(Rat.divInt 4 1)) ((Ff _ (eA (by omega))).mono (M:=68719476736) (by omega)) ((xG (n:=4) (d:=1) (by omega) (by omega) (by omega) (by omega)).mono (M:=68719476736) (by omega)) (by kernel_rfl)) kI ⟨aC rfl,aC rfl,rfl⟩ (.one (tv (.int .i64 0))) ?_
 refine df 8 ?_;refine WD.cast (t:=55) (u':=.bool true) rfl (congrArg Value.bool (by kernel_rfl)) ?_
 refine df 9 ?_;refine dv 10 ?_;refine aK 11 ?_;refine dv 12 ?_;refine dv 13 ?_
 refine dD 14 ((Fr4.of (bN qW (1)).n).tr false) (aI (f:=(dK false)) (z:=7) (o:=3) (dA false) (dG (by omega)) (bM rfl) rfl) ?_
 refine dv 15 ?_
 refine yZ 16 4 [.one (tv (.int .i64 ((6:Nat):Int))),.one (tv (.int .i64 ((1:Nat):Int)))] rfl rfl (kZ (n:=6) (d:=1) (by omega) (by omega) (by omega) (by omega)) nV ⟨rfl,rfl,rfl⟩ ?_
 refine aS 17 rfl (jX (p:=(bN qW (1)).n) (q:=(Rat.divInt 6 1)) ((Ff _ (eA (by omega))).mono (M:=68719476736) (by omega)) ((xG (n:=6) (d:=1) (by omega) (by omega) (by omega) (by omega)).mono (M:=68719476736) (by omega)) (by kernel_rfl)) kI ⟨aC rfl,aC rfl,rfl⟩ (.one (tv (.int .i64 0))) ?_
 refine df 18 ?_;refine WD.cast (t:=65) (u':=.bool true) rfl (congrArg Value.bool (by kernel_rfl)) ?_
 refine df 19 ?_;refine df 20 ?_;refine dv 21 ?_;refine aK 22 ?_;refine dv 23 ?_;refine dv 24 ?_
 refine dD 25 ((Fr4.of (bN uD (0)).n).tr false) (aI (f:=(dK false)) (z:=7) (o:=3) (dA false) (dG (by omega)) (bM rfl) rfl) ?_
 refine dv 26 ?_
 refine yZ 27 4 [.one (tv (.int .i64 ((3:Nat):Int))),.one (tv (.int .i64 ((1:Nat):Int)))] rfl rfl (kZ (n:=3) (d:=1) (by omega) (by omega) (by omega) (by omega)) nV ⟨rfl,rfl,rfl⟩ ?_
 refine aS 28 rfl (jX (p:=(bN uD (0)).n) (q:=(Rat.divInt 3 1)) ((AS _ (eA (by omega))).mono (M:=68719476736) (by omega)) ((xG (n:=3) (d:=1) (by omega) (by omega) (by omega) (by omega)).mono (M:=68719476736) (by omega)) (by kernel_rfl)) kI ⟨aC rfl,aC rfl,rfl⟩ (.one (tv (.int .i64 0))) ?_
 refine df 29 ?_;refine WD.cast (t:=76) (u':=.bool true) rfl (congrArg Value.bool (by kernel_rfl)) ?_
 refine df 30 ?_;refine df 31 ?_;refine dv 32 ?_;refine aK 33 ?_;refine dv 34 ?_;refine dv 35 ?_
 refine dD 36 ([.v (.int .i64 (bN uD (0)).y)]) (aI (f:=(dK false)) (z:=7) (o:=2) (dA false) (dG (by omega)) (bM rfl) rfl) ?_
 refine dv 37 ?_;refine WD.cast (t:=84) (u':=.bool true) rfl (congrArg Value.bool (by kernel_rfl)) ?_
 refine df 38 ?_;refine df 39 ?_;refine dv 40 ?_;refine aK 41 ?_;refine dv 42 ?_;refine dv 43 ?_
 refine dD 44 ((Fr4.of (aY Ki (0)).x).tr false) (aI (f:=(cA false)) (z:=18) (o:=10) (cK false) (hH (by omega)) (bM rfl) rfl) ?_
 refine dv 45 ?_
 refine yZ 46 4 [.one (tv (.int .i64 ((7:Nat):Int))),.one (tv (.int .i64 ((1:Nat):Int)))] rfl rfl (kZ (n:=7) (d:=1) (by omega) (by omega) (by omega) (by omega)) nV ⟨rfl,rfl,rfl⟩ ?_
 refine aS 47 rfl (jX (p:=(aY Ki (0)).x) (q:=(Rat.divInt 7 1)) (by unfold Sz;decide+kernel) ((xG (n:=7) (d:=1) (by omega) (by omega) (by omega) (by omega)).mono (M:=68719476736) (by omega)) (by kernel_rfl)) kI ⟨aC rfl,aC rfl,rfl⟩ (.one (tv (.int .i64 0))) ?_
 refine df 48 ?_;refine WD.cast (t:=95) (u':=.bool true) rfl (congrArg Value.bool (by kernel_rfl)) ?_
 refine df 49 ?_;refine df 50 ?_;refine dv 51 ?_;refine aK 52 ?_;refine dv 53 ?_;refine dv 54 ?_
 refine dD 55 ((Fr4.of (bN uD (1)).n).tr false) (aI (f:=(dK false)) (z:=7) (o:=3) (dA false) (dG (by omega)) (bM rfl) rfl) ?_
 refine dv 56 ?_
 refine yZ 57 4 [.one (tv (.int .i64 ((2:Nat):Int))),.one (tv (.int .i64 ((1:Nat):Int)))] rfl rfl (kZ (n:=2) (d:=1) (by omega) (by omega) (by omega) (by omega)) nV ⟨rfl,rfl,rfl⟩ ?_
 refine aS 58 rfl (jX (p:=(bN uD (1)).n) (q:=(Rat.divInt 2 1)) ((AS _ (eA (by omega))).mono (M:=68719476736) (by omega)) ((xG (n:=2) (d:=1) (by omega) (by omega) (by omega) (by omega)).mono (M:=68719476736) (by omega)) (by kernel_rfl)) kI ⟨aC rfl,aC rfl,rfl⟩ (.one (tv (.int .i64 0))) ?_
 refine df 59 ?_;refine WD.cast (t:=106) (u':=.bool true) rfl (congrArg Value.bool (by kernel_rfl)) ?_
 refine df 60 ?_;refine df 61 ?_;refine dv 62 ?_;refine aK 63 ?_;refine dv 64 ?_;refine dv 65 ?_
 refine dD 66 ([.v (.int .i64 (bN uD (1)).y)]) (aI (f:=(dK false)) (z:=7) (o:=2) (dA false) (dG (by omega)) (bM rfl) rfl) ?_
 refine dv 67 ?_;refine WD.cast (t:=114) (u':=.bool true) rfl (congrArg Value.bool (by kernel_rfl)) ?_
 refine df 68 ?_;refine df 69 ?_;refine aK 70 ?_;refine dv 72 ?_
 refine aS 71 rfl (ZH (us:=qW) (ent:=1) (rw9:=bJ 2 oY) (vs:=bG 2 oY) (fun k=>pT (B:=300) Ff (by show 2+2*301≤_;omega)) (fun u hu=>(Ff u hu).mono (by omega)) (by show 2≤_;omega)) TA ⟨aC (l:=[cR false (bJ 2 oY),cO false false (bG 2 oY),cF false false qW]) rfl,a1 rfl,rfl⟩ (qF (.of (fS qW 1))) ?_
 refine yZ 73 4 [.one (tv (.int .i64 ((10:Nat):Int))),.one (tv (.int .i64 ((1:Nat):Int)))] rfl rfl (kZ (n:=10) (d:=1) (by omega) (by omega) (by omega) (by omega)) nV ⟨rfl,rfl,rfl⟩ ?_
 refine aS 74 rfl (jX (p:=(fS qW 1)) (q:=(Rat.divInt 10 1)) (show Sz 68719476736 (fS qW 1) from by unfold Sz;decide+kernel) ((xG (n:=10) (d:=1) (by omega) (by omega) (by omega) (by omega)).mono (M:=68719476736) (by omega)) (by kernel_rfl)) kI ⟨aC rfl,aC rfl,rfl⟩ (.one (tv (.int .i64 0))) ?_
 refine df 75 ?_;refine WD.cast (t:=122) (u':=.bool true) rfl (congrArg Value.bool (by kernel_rfl)) ?_
 refine df 76 ?_;refine dI 77 ?_
 refine aW ?_;refine rt ?_;exact gO (.inl rfl) rfl (rfl)
set_option maxHeartbeats 4000000 in
theorem eP {fw ent:Int}{ys:List Yr}(hy:∀y∈ys,iH y) (h20:dJ fw ys=0→(aG ys 0).m.length*ys.length<20):aE true Tryz.prog 3 [] [.one (tv (.int .i64 fw)),.one (.t (gT ys)),.one (tv (.int .i64 ent))] (aT (.one (tv (.bool true)))):=by
 refine bV Tryz.func3 rfl Tryz.ntmps3 rfl aF rfl fun N9 w9 c0 h0=>?_
 refine sq (rl (o1 ?_));refine nl (sq (sq (rl (o1 ?_))));refine ca (Bf (ys:=ys)) KF ⟨a1 rfl,rfl⟩ (.one (tv (.bool (iM ys)))) ?_
 refine WL.splitb (t:=14) rfl (fun h1=>?_) (fun h1=>?_)
 ·refine o1 ?_;refine nl (dW rfl (sk (sq ?_)));have hf:iM ys=true:=by simpa using h1
  obtain⟨hq1,hq2⟩:=sN hf
  obtain⟨hz1,hz2,hz3,hz4,hz5,hz6⟩:=NL (fw:=fw) hf hy
  have hrl:∀y∈ys,y.l.len 1099511627776∧∀a∈y.b,a.len 1099511627776:=fun y hm=>⟨SU (hq2 y hm).2.2.1,fun a ha=>SU ((hq2 y hm).2.2.2 a ha)⟩
  have hzo:Sz 2000000 (fS (aA fw ys) ent):=by have h9:=pT (U:=(aA fw ys)) (p:=fun u=>decide (u.e=ent)) (B:=300) (M:=2000000) (k:=(aA fw ys).length) hz3 (by omega);rwa[List.take_length]at h9
  refine rl (o1 ?_);refine ca (NE hrl (fun y hm=>⟨by have:=(hq2 y hm).1;omega,by have:=(hq2 y hm).2.1;omega⟩) (by omega)) ZW ⟨a1 rfl,rfl⟩ (.one (.t (sZ false ys))) ?_
  refine o1 ?_;refine nl (sq (rl (o1 ?_)));refine o1 ?_
  refine ca (GH (fw:=fw) (ys:=ys) hf hy) ZX ⟨a1 rfl,a1 rfl,rfl⟩ (.tup [.agg [.t (lT false (bJ fw ys)),.t (lR false (bG fw ys)),.t (lS false (aA fw ys))],.one (tv (.int .i64 (dJ fw ys)))]) ?_
  (iterate 3 refine o1 ?_);refine al 0 ?_;refine st ?_;refine o1 ?_;refine nl (sq (sq (rl (o1 ?_))));refine nl (bl ?_)
  refine lp (γ:=Nat) (fun s=>bP [(0,.one (tv (.int .i64 fw))),(1,.one (.t (gT ys))),(2,.one (tv (.int .i64 ent))),(8,pN 0),(9,.one (tv (.int .i64 (dJ fw ys)))),(10,iN s)]) (fun s=>[(⟨31,0,[.t (lT false (bJ fw ys)),.t (lR false (bG fw ys)),.t (lS false (aA fw ys))]⟩:Ob)].map some) (fun s=>s≤2) (fun s=>2-s) 0 (Nat.zero_le _) (aP h0 [0] ⟨oe rfl rfl,rfl⟩) ?_
  rintro i9 hi9;refine sq (sq (rl (o1 ?_)));refine o1 ?_;refine nl ?_;refine bF rfl (fun h2=>?_) (fun h2=>?_)
  ·refine sk (sq (bl (sq (rl (o1 ?_)))));refine o1 ?_;refine iS 1 (nW (fw:=fw) (ys:=ys) hf hy h20) Ds ⟨a1 rfl,a1 rfl,rfl⟩ ?_
   refine o1 ?_;refine o1 ?_
   refine WL.sub (Ub (i:=33) (k:=1) (t:=62) (z:=5) (n:=(bJ fw ys).length) (l:=(bJ fw ys).flatMap rlt) rfl rfl rfl (bE eO _) (.agg (.cons .sl (.cons .id (.cons .id .nil))))) ?_
   refine o1 ?_;refine al 4 ?_;refine st ?_;refine o1 ?_;refine nl (sq (sq ?_));refine cI [0,2,3,4] [] ?_
   refine dv 0 ?_;refine dv 1 ?_;refine dv 2 ?_;refine WD.cast (t:=37) (u':=.bool false) rfl (congrArg Value.bool (by simp)) ?_
   refine dv 3 ?_;refine aK 4 ?_;refine aK 5 ?_
   refine aS 6 rfl (SO (rws:=(bJ fw ys)) (vs:=(bG fw ys)) (us:=(aA fw ys)) hz1 hz2 (fun u hu=>(hz3 u hu).mono (by omega)) (by omega) (by omega) (by omega)) ZY ⟨pM rfl (.cons .t (.cons (.sr rfl rfl (aN _ _ rfl) (bE (cK true) _) (yX true _)) (.cons (.sr rfl rfl (aN _ _ rfl) (bE (dA true) _) (Nm true _)) .nil))),aC (l:=[lT false (bJ fw ys),lR false (bG fw ys),lS false (aA fw ys)]) rfl,rfl⟩ (.one (tv (.bool true))) ?_
   refine df 7 ?_;refine df 8 ?_;refine df 9 ?_;refine aK 10 ?_;refine dv 11 ?_;refine aK 13 ?_;refine dv 14 ?_
   refine aS 12 rfl (WW (us:=(aA fw ys)) (ent:=ent) (rw9:=(bJ fw ys)) (vs:=(bG fw ys)) (fun k=>pT (B:=300) hz3 (by omega)) (fun u hu=>(hz3 u hu).mono (by omega)) (by omega)) TA ⟨pM rfl (.cons .t (.cons (.sr rfl rfl (aN _ _ rfl) (bE (cK true) _) (yX true _)) (.cons (.sr rfl rfl (aN _ _ rfl) (bE (dA true) _) (Nm true _)) .nil))),a1 rfl,rfl⟩ (qF (.of (fS (aA fw ys) ent))) ?_
   refine aS 15 rfl (SH (us:=(aA fw ys)) (ent:=ent) (rw9:=(bJ fw ys)) (vs:=(bG fw ys)) (fun k=>pT (B:=300) hz3 (by omega)) (fun u hu=>(hz3 u hu).mono (by omega)) (by omega)) ZZ ⟨aC (l:=[lT false (bJ fw ys),lR false (bG fw ys),lS false (aA fw ys)]) rfl,a1 rfl,rfl⟩ (qF (.of (fS (aA fw ys) ent))) ?_
   refine aS 16 rfl (tB (a:=.of (fS (aA fw ys) ent)) (qC hzo)) Oy ⟨aC rfl,aC rfl,rfl⟩ (.one (tv (.bool true))) ?_;refine df 17 ?_;refine df 18 ?_;refine aW ?_
   refine dW rfl (sk (rl (ld ?_)))
   refine clx 5 [2,3] (AQ (rws:=(bJ fw ys)) (Spg.ur fun u hu=>(hz3 u hu).mono (by omega)) (Spg.vn fun v hv=>(hz2 v hv).1.mono (by omega)) (by omega) (by omega)) aAa ⟨aB rfl,aB rfl,rfl⟩ ⟨rfl,rfl⟩ ?_
   rintro _ _ ⟨rfl,a9,b9,rfl⟩;refine⟨_,[],[some ⟨64,18,a9.map .t⟩,some ⟨58,7,b9.map .t⟩],rfl,⟨aB rfl,aB rfl,rfl⟩,?_⟩;refine nl (rl (o1 ?_));refine o1 ?_
   refine bB 28 (i9+1) ?_
   refine o1 ?_;refine nl ?_;exact⟨i9+1,by omega,by omega,aP h0 [0] ⟨oe rfl rfl,rfl⟩⟩
  refine ex (sq (rl (ca (fX) vT rfl (.one (tv (.bool true))) ?_)));refine o1 ?_;refine nl (rt ?_);exact gO (.inl rfl) rfl (rfl)
 refine o1 ?_;refine nl (iC rfl (sq (rl (ca (fX) vT rfl (.one (tv (.bool true))) ?_))));refine o1 ?_;refine nl (rt ?_)
 exact gO (.inl rfl) rfl (rfl)
theorem GO {ys:List Yr}{p:Yr→Bool}{k:Nat}(h:ys.any p=false):(ys.take k).any p=false:=by
 rw[List.any_eq_false]at h⊢
 exact fun y hy=>h y (List.mem_of_mem_take hy)
theorem AW {fw:Int}{ys:List Yr}{k:Nat}(h:dJ fw ys=0):dJ fw (ys.take k)=0:=by
 unfold dJ at h⊢
 split at h
 ·cases h
 rename_i h1
 split at h
 ·cases h
 rename_i h2
 simp only[Bool.or_eq_true,decide_eq_true_eq,not_or,Bool.not_eq_true]at h1
 have h3:(ys.take k).any (fun y=> !gW y (aG (ys.take k) 0).m.length)=false:=by
  by_cases h0:0<k
  ·rw[kY h0]
   exact GO h1.2.2
  rw[show k=0 by omega]
  rfl
 rw[decide_eq_false h1.1,decide_eq_false h1.2.1,h3,if_neg (by simp),if_neg (by rw[eJ];omega)]
structure More (fw:Int) (ys:List Yr) (k:Nat):Prop where
 e:dJ fw (ys.take k)=0
 r:(bJ fw (ys.take k)).length=k
 rx:(bJ fw ys).length=ys.length
 u:(aA fw (ys.take k)).length≤(aA fw ys).length
 v:(bG fw (ys.take k)).length≤(bG fw ys).length
 side:∀i,i<(aA fw ys).length→((bN (aA fw ys) i).y<(k:Int)↔i<(aA fw (ys.take k)).length)
 same:∀i,i<(aA fw (ys.take k)).length→bN (aA fw (ys.take k)) i=bN (aA fw ys) i
 row:∀i,i<k→(fN (bJ fw ys) i).u=(fN (bJ fw (ys.take k)) i).u
 us:∀u∈aA fw ys,Sz 300 u.n
 ul:(aA fw ys).length≤1000
 rs:∀i,i<ys.length→Sz 300 (fN (bJ fw ys) i).u
theorem NR {fw:Int}{ys:List Yr}{k:Nat}(hf:iM ys=true) (hy:∀y∈ys,iH y) (h:dJ fw ys=0) (hk:k≤ys.length):More fw ys k:=by
 obtain⟨hOk,_,hfw,h10,_⟩:=nU hf hy h
 have hE:=AW (k:=k) h
 have hl:(ys.take k).length=k:=by rw[eJ];omega
 have e1:aA fw ys=(aM fw.toNat ys).run ys.length:=if_pos h
 have e2:aA fw (ys.take k)=(aM fw.toNat ys).run k:=by
  unfold aA
  rw[if_pos hE,hl,Nk]
 have r1:bJ fw ys=(aM fw.toNat ys).rls ((aM fw.toNat ys).run ys.length) ys.length:=if_pos h
 have r2:bJ fw (ys.take k)=(aM fw.toNat (ys.take k)).rls ((aM fw.toNat ys).run k) k:=by
  unfold bJ
  rw[if_pos hE,hl,Nk]
 have v1:(bG fw ys).length=((aM fw.toNat ys).vl ys.length).length:=by unfold bG;rw[if_pos h,Aq]
 have v2:(bG fw (ys.take k)).length=((aM fw.toNat ys).vl k).length:=by unfold bG;rw[if_pos hE,Aq,hl,ME]
 obtain⟨W,hW,hW2⟩:=sC (R:=aM fw.toNat ys) hk
 have hsame:∀i,i<((aM fw.toNat ys).run k).length→bN ((aM fw.toNat ys).run k) i=bN ((aM fw.toNat ys).run ys.length) i:=fun i hi=>by
  unfold bN
  rw[hW,List.getD_eq_getElem?_getD,List.getD_eq_getElem?_getD,List.getElem?_append_left hi]
 have hrow:∀i,i<ys.length→(fN (bJ fw ys) i).u=dZ ((aM fw.toNat ys).run ys.length) i:=fun i hi=>by rw[r1,Ns hi];rfl
 refine⟨hE,by rw[r2,lN],by rw[r1,lN],by rw[e1,e2,hW,fE];omega,by rw[v1,v2];exact QO hk,?_,by rw[e1,e2];exact hsame,fun i hi=>?_,by rw[e1];exact vD hOk (bC _),by rw[e1];exact nR hOk (bC _),fun i hi=>by rw[hrow i hi];exact(hOk.run (bC _)).sz_yIn hOk hi⟩
 ·rw[e1,e2]
  intro i hi
  constructor
  ·intro h1
   by_cases h2:i<((aM fw.toNat ys).run k).length
   ·exact h2
   have h3:bN ((aM fw.toNat ys).run ys.length) i∈W:=by
    unfold bN
    rw[hW]at hi⊢
    rw[fE]at hi
    rw[List.getD_eq_getElem?_getD,List.getElem?_append_right (by omega),gG (by omega)]
    exact List.getElem_mem _
   have:=hW2 _ h3
   omega
  intro h2
  have h3:=eA h2
  obtain⟨_,_,t,_,_,h4,_,h5,_⟩:=mO h3
  rw[←hsame i h2]
  omega
 rw[hrow i (by omega),r2,Ns hi,Ti hi hk]
 rfl
theorem GP {ys:List Yr}{k:Nat}(hk:k≤ys.length):(.s false 67 6 k ((ys.flatMap yrt).take (k*6)):Tr)=gT (ys.take k):=by
 have hl:(ys.take k).length=k:=by rw[eJ];omega
 have h1:(ys.flatMap yrt).take (k*6)=(ys.take k).flatMap yrt:=by
  conv=>lhs;rw[←List.take_append_drop k ys,List.flatMap_append]
  exact List.take_left' (by rw[bE cL,hl])
 unfold gT
 rw[h1,hl]
set_option maxHeartbeats 4000000 in
theorem Sd {fw n:Int}{ys:List Yr}(hy:∀y∈ys,iH y) (h20:(aG ys 0).m.length*ys.length<20):aE true Tryz.prog 4 [] [.one (tv (.int .i64 fw)),.one (.t (gT ys)),.one (tv (.int .i64 n))] (aT (.one (tv (.bool true)))):=by
 refine bV Tryz.func4 rfl Tryz.ntmps4 rfl aF rfl fun N9 w9 c0 h0=>?_
 refine WP.sln (i:=1) rfl fun hlen=>?_
 refine sq (rl (o1 ?_));refine nl (sq (sq (rl (o1 ?_))));refine ca (Bf (ys:=ys)) KF ⟨a1 rfl,rfl⟩ (.one (tv (.bool (iM ys)))) ?_
 refine WL.splitb (t:=16) rfl (fun h1=>?_) (fun h1=>?_)
 ·(iterate 6 refine o1 ?_);refine nl ?_;refine bF rfl (fun h2=>?_) (fun h2=>?_)
  ·refine sq (rl (ca (fX) vT rfl (.one (tv (.bool true))) ?_));refine o1 ?_;refine nl (rt ?_);exact gO (.inl rfl) rfl (rfl)
  refine sk (sq ?_);have hf:iM ys=true:=by simpa using h1
  have hl10:ys.length≤10:=by omega
  obtain⟨k9,hkv,hk9⟩:∃k:Nat,((n.tmod ((ys.length+1:Nat):Int)+((ys.length+1:Nat):Int)).tmod ((ys.length+1:Nat):Int))=(k:Int)∧k≤ys.length:=by
   have hp1:=Int.tmod_lt_of_pos (n.tmod ((ys.length+1:Nat):Int)+((ys.length+1:Nat):Int)) (show(0:Int)<((ys.length+1:Nat):Int) by omega)
   have hp2:=Uc (i:=n) (n:=((ys.length+1:Nat):Int)) (by omega)
   have hp3:=Int.tmod_nonneg ((ys.length+1:Nat):Int) (show 0≤n.tmod ((ys.length+1:Nat):Int)+((ys.length+1:Nat):Int) by omega)
   exact⟨((n.tmod ((ys.length+1:Nat):Int)+((ys.length+1:Nat):Int)).tmod ((ys.length+1:Nat):Int)).toNat,by omega,by omega⟩
  obtain⟨hq1,hq2⟩:=sN hf
  have hl9:(ys.take k9).length=k9:=by rw[eJ];omega
  have hf2:iM (ys.take k9)=true:=Dd (k:=k9) (by omega) (fun j hj=>by rw[kY hj];unfold iM at hf;rw[Bool.and_eq_true]at hf;exact List.all_eq_true.1 hf.2 _ (fP (by omega))) (by omega)
  have hy2:∀y∈(ys.take k9),iH y:=fun y hm=>hy y (List.mem_of_mem_take hm)
  refine rl ?_;(iterate 4 refine o1 ?_);refine bB 27 (ys.length+1) ?_
  refine ca (GC (i:=n) (n:=((ys.length+1:Nat):Int)) (by omega) (by omega)) aAb ⟨a1 rfl,a1 rfl,rfl⟩ (.one (tv (.int .i64 ((n.tmod ((ys.length+1:Nat):Int)+((ys.length+1:Nat):Int)).tmod ((ys.length+1:Nat):Int))))) ?_
  refine WL.cast (t:=28) (u':=.int .i64 ((k9:Nat):Int)) rfl (dO hkv) ?_;refine o1 ?_;refine nl (sq (rl (o1 ?_)));refine o1 ?_
  refine ca (nW (fw:=fw) (ys:=ys) hf hy (fun _=>h20)) Ds ⟨a1 rfl,a1 rfl,rfl⟩ (.tup [.agg [.t (cR false (bJ fw ys)),.t (cO false true (bG fw ys)),.t (cF false true (aA fw ys))],.one (tv (.int .i64 (dJ fw ys)))]) ?_
  refine o1 ?_;refine o1 ?_
  refine WL.sub (Hw (i:=33) (l:=[(cR false (bJ fw ys)),(cO false true (bG fw ys)),(cF false true (aA fw ys))]) rfl rfl (vS (bJ fw ys) (bG fw ys) (aA fw ys))) ?_
  refine o1 ?_;refine al 0 ?_;refine st ?_;refine o1 ?_;refine nl (sq (rl ?_));(iterate 4 refine o1 ?_)
  refine ca (nW (fw:=fw) (ys:=(ys.take k9)) hf2 hy2 (fun _=>GN (fw:=fw) hk9 h20)) Ds ⟨a1 rfl,a1 (congrArg (fun t:Tr=>FV.one (.t t)) (GP hk9)),rfl⟩ (.tup [.agg [.t (cR false (bJ fw (ys.take k9))),.t (cO false true (bG fw (ys.take k9))),.t (cF false true (aA fw (ys.take k9)))],.one (tv (.int .i64 (dJ fw (ys.take k9))))]) ?_
  refine o1 ?_;refine o1 ?_
  refine WL.sub (Hw (i:=41) (l:=[(cR false (bJ fw (ys.take k9))),(cO false true (bG fw (ys.take k9))),(cF false true (aA fw (ys.take k9)))]) rfl rfl (vS (bJ fw (ys.take k9)) (bG fw (ys.take k9)) (aA fw (ys.take k9)))) ?_
  refine o1 ?_;refine al 1 ?_;refine st ?_;refine o1 ?_;refine nl (sq (sq (rl (o1 ?_))));refine o1 ?_;refine nl ?_
  refine bF rfl (fun h3=>?_) (fun h3=>?_)
  ·refine sq (rl (ca (fX) vT rfl (.one (tv (.bool true))) ?_));refine o1 ?_;refine nl (rt ?_);exact gO (.inl rfl) rfl (rfl)
  refine sk (sq (sq ?_));have hE:dJ fw ys=0:=by omega
  have hM:=NR hf hy hE hk9
  have hM1:=hM.e;have hM2:=hM.r;have hM3:=hM.rx;have hM4:=hM.u;have hM5:=hM.v;have hM6:=hM.ul
  have hsu:∀i,i<(aA fw ys).length→Sz 68719476736 (bN (aA fw ys) i).n:=fun i hi=>(hM.us _ (eA hi)).mono (by omega)
  have hsr:∀i,i<ys.length→Sz 68719476736 (fN (bJ fw ys) i).u:=fun i hi=>(hM.rs i hi).mono (by omega)
  refine rl ?_;(iterate 3 refine o1 ?_);refine WL.split (t:=48) rfl (fun h4=>?_) (fun h4=>?_)
  ·exact absurd h4 (by omega)
  refine o1 ?_;refine ld ?_;(iterate 5 refine o1 ?_);refine WL.split (t:=55) rfl (fun h5=>?_) (fun h5=>?_)
  ·exact absurd h5 (by omega)
  refine o1 ?_;refine ld ?_;refine o1 ?_;refine o1 ?_;refine ld ?_;(iterate 4 refine o1 ?_);refine WL.split (t:=64) rfl (fun h6=>?_) (fun h6=>?_)
  ·exact absurd h6 (by omega)
  refine o1 ?_;refine ld ?_;refine o1 ?_;refine o1 ?_;refine ld ?_;(iterate 3 refine o1 ?_);refine nl ?_;refine bF rfl (fun h7=>?_) (fun h7=>?_)
  ·exact absurd h7 (by omega)
  refine sk (sq (sq (rl (o1 ?_))));refine nl (bl ?_)
  refine lp (γ:=Nat) (fun s=>bP [(7,iN k9),(8,pN 0),(10,pN 1),(12,iN s)]) (fun s=>[(⟨39,0,[.t (cR false (bJ fw ys)),.t (cO false false (bG fw ys)),.t (cF false false (aA fw ys))]⟩:Ob),⟨39,0,[.t (cR false (bJ fw (ys.take k9))),.t (cO false false (bG fw (ys.take k9))),.t (cF false false (aA fw (ys.take k9)))]⟩].map some) (fun s=>s≤(aA fw ys).length) (fun s=>(aA fw ys).length-s) 0 (Nat.zero_le _) (aP h0 [0,1] ⟨oe rfl rfl,oe rfl rfl,rfl⟩) ?_
  rintro i9 hi9;refine sq (sq (rl (o1 ?_)));refine o1 ?_;refine ld ?_;refine o1 ?_;refine o1 ?_;refine nl ?_;refine bF rfl (fun h8=>?_) (fun h8=>?_)
  ·refine sk (sq (bl (sq (rl (o1 ?_)))));refine ld ?_;refine o1 ?_;refine o1 ?_
   refine dV ((dK false) (bN (aA fw ys) (i9))) (aI (f:=(dK false)) (z:=7) (o:=0) (dA false) (dG (by omega)) (bM rfl) rfl) ?_
   refine al 2 ?_;refine st ?_;refine nl (sq ?_);refine cI [0,1,2] [] ?_
   refine dv 0 ?_;refine aK 1 ?_;refine dv 2 ?_;refine dv 3 ?_;refine dv 4 ?_;refine dv 5 ?_;refine aK 6 ?_;refine dv 7 ?_;refine dv 8 ?_;refine dv 9 ?_
   refine WD.cast (t:=94) (u':=.bool false) rfl (congrArg Value.bool (by have h8:=hM.side i9 (by omega);simp[h8])) ?_
   refine dv 10 ?_;refine dv 11 ?_;refine dv 12 ?_;refine aK 13 ?_;refine dv 14 ?_;refine dv 15 ?_;refine dv 16 ?_
   refine WD.split (t:=101) rfl rfl (fun h9=>?_) (fun h9=>?_)
   ·refine dv 17 ?_;refine aK 18 ?_;refine dv 19 ?_;refine dv 20 ?_;refine dv 21 ?_
    refine dD 22 ([.v (.int .i64 (bN (aA fw (ys.take k9)) (i9)).v)]) (aI (f:=(dK false)) (z:=7) (o:=0) (dA false) (dG (by omega)) (bM rfl) rfl) ?_
    refine dv 23 ?_;refine aK 24 ?_;refine dv 25 ?_;refine dv 26 ?_;refine WD.split (t:=111) rfl rfl (fun h10=>?_) (fun h10=>?_)
    ·exact absurd (by rw[hM.same i9 (by omega)]) h10
    refine dv 27 ?_;refine aK 28 ?_;refine dv 29 ?_;refine dv 30 ?_;refine dv 31 ?_
    refine dD 32 ([.v (.int .i64 (bN (aA fw (ys.take k9)) (i9)).e)]) (aI (f:=(dK false)) (z:=7) (o:=1) (dA false) (dG (by omega)) (bM rfl) rfl) ?_
    refine dv 33 ?_;refine aK 34 ?_;refine dv 35 ?_;refine dv 36 ?_;refine dv 37 ?_;refine WD.split (t:=122) rfl rfl (fun h11=>?_) (fun h11=>?_)
    ·exact absurd (by rw[hM.same i9 (by omega)]) h11
    refine dv 38 ?_;refine aK 39 ?_;refine dv 40 ?_;refine dv 41 ?_;refine dv 42 ?_
    refine dD 43 ([.v (.int .i64 (bN (aA fw (ys.take k9)) (i9)).y)]) (aI (f:=(dK false)) (z:=7) (o:=2) (dA false) (dG (by omega)) (bM rfl) rfl) ?_
    refine dv 44 ?_;refine aK 45 ?_;refine dv 46 ?_;refine dv 47 ?_;refine dv 48 ?_;refine WD.split (t:=133) rfl rfl (fun h12=>?_) (fun h12=>?_)
    ·exact absurd (by rw[hM.same i9 (by omega)]) h12
    refine dv 49 ?_;refine aK 50 ?_;refine dv 51 ?_;refine dv 52 ?_;refine dv 53 ?_
    refine dD 54 ((Fr4.of (bN (aA fw (ys.take k9)) (i9)).n).tr false) (aI (f:=(dK false)) (z:=7) (o:=3) (dA false) (dG (by omega)) (bM rfl) rfl) ?_
    refine dv 55 ?_;refine aK 56 ?_
    refine aS 57 rfl (jX (p:=(bN (aA fw (ys.take k9)) (i9)).n) (q:=(bN (aA fw ys) (i9)).n) (by rw[hM.same i9 (by omega)];exact hsu _ (by omega)) (hsu _ (by omega)) (by rw[hM.same i9 (by omega)])) kI ⟨aC rfl,aC rfl,rfl⟩ (.one (tv (.int .i64 0))) ?_
    refine df 58 ?_;refine WD.cast (t:=143) (u':=.bool false) rfl (congrArg Value.bool rfl) ?_;refine df 59 ?_;refine df 60 ?_;refine df 61 ?_;refine aW ?_
    refine dW rfl (sk (rl (o1 ?_)));refine o1 ?_;refine bB 79 (i9+1) ?_
    refine o1 ?_;refine nl ?_;exact⟨i9+1,by omega,by omega,aP h0 [0,1] ⟨oe rfl rfl,oe rfl rfl,rfl⟩⟩
   refine aZ 17 ?_;refine aZ 18 ?_;refine aZ 19 ?_;refine aZ 20 ?_;refine aZ 21 ?_;refine aZ 22 ?_;refine aZ 23 ?_;refine aZ 24 ?_;refine aZ 25 ?_;refine aZ 26 ?_
   refine aZ 27 ?_;refine aZ 28 ?_;refine aZ 29 ?_;refine aZ 30 ?_;refine aZ 31 ?_;refine aZ 32 ?_;refine aZ 33 ?_;refine aZ 34 ?_;refine aZ 35 ?_;refine aZ 36 ?_
   refine aZ 37 ?_;refine aZ 38 ?_;refine aZ 39 ?_;refine aZ 40 ?_;refine aZ 41 ?_;refine aZ 42 ?_;refine aZ 43 ?_;refine aZ 44 ?_;refine aZ 45 ?_;refine aZ 46 ?_
   refine aZ 47 ?_;refine aZ 48 ?_;refine aZ 49 ?_;refine aZ 50 ?_;refine aZ 51 ?_;refine aZ 52 ?_;refine aZ 53 ?_;refine aZ 54 ?_;refine aZ 55 ?_;refine aZ 56 ?_
   refine aZ 57 ?_;refine aZ 58 ?_;refine aZ 59 ?_;refine dv 60 ?_;refine dv 61 ?_;refine aW ?_;refine dW rfl (sk (rl (o1 ?_)));refine o1 ?_
   refine bB 79 (i9+1) ?_
   refine o1 ?_;refine nl ?_;exact⟨i9+1,by omega,by omega,aP h0 [0,1] ⟨oe rfl rfl,oe rfl rfl,rfl⟩⟩
  refine ex (sq (sq (rl (o1 ?_))));refine nl (bl ?_)
  refine lp (γ:=Nat) (fun s=>bP [(7,iN k9),(8,pN 0),(10,pN 1),(14,iN s)]) (fun s=>[(⟨39,0,[.t (cR false (bJ fw ys)),.t (cO false false (bG fw ys)),.t (cF false false (aA fw ys))]⟩:Ob),⟨39,0,[.t (cR false (bJ fw (ys.take k9))),.t (cO false false (bG fw (ys.take k9))),.t (cF false false (aA fw (ys.take k9)))]⟩].map some) (fun s=>s≤k9) (fun s=>k9-s) 0 (Nat.zero_le _) (aP h0 [0,1] ⟨oe rfl rfl,oe rfl rfl,rfl⟩) ?_
  rintro i8 hi8;refine sq (sq (rl ?_));(iterate 3 refine o1 ?_);refine nl ?_;refine bF rfl (fun h13=>?_) (fun h13=>?_)
  ·refine sk (sq (bl (sq ?_)));refine cI [0,1] [] ?_
   refine dv 0 ?_;refine aK 1 ?_;refine dv 2 ?_;refine dv 3 ?_;refine dv 4 ?_
   refine dD 5 ((Fr4.of (fN (bJ fw ys) (i8)).u).tr false) (aI (f:=rlt) (z:=5) (o:=0) eO (fV (by omega)) (bM rfl) rfl) ?_
   refine dv 6 ?_;refine aK 7 ?_;refine dv 8 ?_;refine dv 9 ?_;refine dv 10 ?_
   refine dD 11 ((Fr4.of (fN (bJ fw (ys.take k9)) (i8)).u).tr false) (aI (f:=rlt) (z:=5) (o:=0) eO (fV (by omega)) (bM rfl) rfl) ?_
   refine aS 12 rfl (jX (p:=(fN (bJ fw ys) (i8)).u) (q:=(fN (bJ fw (ys.take k9)) (i8)).u) (hsr _ (by omega)) (by rw[←hM.row i8 (by omega)];exact hsr _ (by omega)) (hM.row i8 (by omega))) kI ⟨aC rfl,aC rfl,rfl⟩ (.one (tv (.int .i64 0))) ?_
   refine df 13 ?_;refine WD.cast (t:=165) (u':=.bool false) rfl (congrArg Value.bool rfl) ?_;refine aW ?_;refine dW rfl (sk (rl (o1 ?_)))
   refine o1 ?_;refine bB 151 (i8+1) ?_
   refine o1 ?_;refine nl ?_;exact⟨i8+1,by omega,by omega,aP h0 [0,1] ⟨oe rfl rfl,oe rfl rfl,rfl⟩⟩
  refine ex (sq (rl (ca (fX) vT rfl (.one (tv (.bool true))) ?_)));refine o1 ?_;refine nl (rt ?_);exact gO (.inl rfl) rfl (rfl)
 refine o1 ?_;refine o1 ?_;(iterate 3 refine cY ?_);refine o1 ?_;refine nl (iC rfl (sq (rl (ca (fX) vT rfl (.one (tv (.bool true))) ?_))))
 refine o1 ?_;refine nl (rt ?_);exact gO (.inl rfl) rfl (rfl)
theorem XD {xs:List Fr4}{B:Nat}(hB:2+xs.length*(B+1)≤68719476736) (hx:∀x∈xs,x.ok) (hz:∀x∈xs,Sz B x.q) (hl:xs.length≤1073741823):aE false Tryz.prog 26 [] [.one (.t (sQ false xs))] (aT (qF (.of (fD (xs.map Fr4.q))))):=by
 refine bV Tryz.func26 rfl Tryz.ntmps26 rfl aF rfl fun N9 w9 c0 h0=>?_
 have h00:((0:Int):Rat)=fD ((xs.take 0).map Fr4.q):=by simp[fD]
 refine sq (rl (al 0 ?_));refine nl (sq (rl (ca (eW (z:=0) (by omega) (by omega)) kR ⟨a1 rfl,rfl⟩ (qF (.of ((0:Int):Rat))) ?_)))
 refine al 1 ?_;refine st ?_;refine nl (sq (sq (rl ?_)));(iterate 3 refine o1 ?_);refine nl (bl ?_)
 refine lp (γ:=Nat) (fun k=>bP [(2,pN 0),(3,pN 1),(7,.one (.t (sQ false xs))),(8,iN xs.length),(9,iN k)]) (fun k=>[(⟨48,0,[tv (.bool false),tv (.slice none 0 0),tv (.bool false),tv (.slice none 0 0)]⟩:Ob),⟨48,0,((Fr4.of (fD ((xs.take (k)).map Fr4.q))).tr false).map .t⟩].map some) (fun k=>k≤xs.length∧Sz (2+k*(B+1)) (fD ((xs.take (k)).map Fr4.q))) (fun k=>xs.length-k) 0 ⟨Nat.zero_le _,by simpa[fD]using vC (z:=0) (by omega) (by omega)⟩ (aP h0 [0,1] ⟨oe rfl rfl,aB (congrArg (fun q=>some (⟨48,0,((Fr4.of q).tr false).map .t⟩:Ob)) h00),rfl⟩) fun k hk=>?_
 have hmul:k*(B+1)≤xs.length*(B+1):=Nat.mul_le_mul hk.1 (bC _)
 refine sq (rl (o1 ?_));refine nl (sq ?_);refine bF rfl (fun h1=>?_) (fun h1=>?_)
 ·refine sk (sq (bl (sq (rl (o1 ?_)))));refine dV ((cM xs (k)).tr false) (fL xs (k:=k) (by omega)) ?_
  refine al 2 ?_;refine st ?_;refine nl ?_;have hmul2:(k+1)*(B+1)≤xs.length*(B+1):=Nat.mul_le_mul (by omega) (bC _)
  have hmul3:(k+1)*(B+1)=k*(B+1)+(B+1):=Nat.succ_mul k (B+1)
  refine cI [0,1,2] [4] ?_
  refine aK 0 ?_;refine aK 1 ?_;refine aS 2 rfl (jF ⟨hx _ (eE (by omega)),rfl⟩) lO ⟨aC rfl,rfl⟩ (qF (.of (cM xs (k)).q)) ?_
  refine aS 3 rfl (KG (hk.2.mono (by omega)) ((hz _ (eE (by omega))).mono (by omega))) wW ⟨aC rfl,aC rfl,rfl⟩ (qF (.of ((fD ((xs.take (k)).map Fr4.q))+(cM xs (k)).q))) ?_
  refine dst 4 ?_;refine aW ?_;refine rl (o1 ?_);refine bB 17 (k+1) ?_
  refine o1 ?_;refine nl ?_;have hst:(fD ((xs.take (k+1)).map Fr4.q))=(fD ((xs.take (k)).map Fr4.q))+(cM xs (k)).q:=by rw[oS (by omega)];exact Kk _ _
  exact⟨k+1,by omega,⟨by omega,by rw[hst];exact(vB hk.2 (hz _ (eE (by omega)))).mono (by omega)⟩,aP h0 [0,1] ⟨oe rfl rfl,aB (congrArg (fun q=>some (⟨48,0,((Fr4.of q).tr false).map .t⟩:Ob)) hst.symm),rfl⟩⟩
 refine ex (sq (rl (ld ?_)));refine st ?_;refine nl (rt ?_)
 exact en (.inl rfl) rfl (bD (.agg (.cons (.id rfl) (.cons (.id rfl) (.cons (.id rfl) (.cons (.id rfl) .nil)))))) (by decide) (fun h=>by cases h) (by rw[fF (by omega)];rfl)
structure Cons (R:Rg) (U:List Ur) (rl:List Rl) (vn:List Vn) (ys:List Yr):Prop where
 ok:R.Ok ys.length
 un:U=R.run ys.length
 m:∀i,i<ys.length→(aG ys i).m=R.ms i
 b:∀i,i<ys.length→(aG ys i).b=(R.bs i).map Fr4.of
 l:∀i,i<ys.length→(aG ys i).l=Fr4.of (R.lim i)
 rl:rl=R.rls U ys.length
 vn:vn=R.vnE ys.length
theorem Ug {fw:Int}{ys:List Yr}(hf:iM ys=true) (hy:∀y∈ys,iH y) (h:dJ fw ys=0):Cons (aM fw.toNat ys) (aA fw ys) (bJ fw ys) (bG fw ys) ys:=by
 obtain⟨h1,_,_,_,h5⟩:=nU hf hy h
 have e1:aA fw ys=(aM fw.toNat ys).run ys.length:=if_pos h
 refine⟨h1,e1,fun i hi=>(Nf (h5 i hi).1).symm,fun i hi=>(Zf (h5 i hi).2.1 (h5 i hi).2.2.1).symm,fun i hi=>(h5 i hi).2.2.2,?_,if_pos h⟩
 rw[e1]
 exact if_pos h
section
variable {R:Rg}{U:List Ur}{rw9:List Rl}{vn:List Vn}{ys:List Yr}{i:Nat}
theorem Cons.iv (h:Cons R U rw9 vn ys):R.Iv ys.length U:=by
 rw[h.un]
 exact h.ok.run (bC _)
theorem Cons.vat (h:Cons R U rw9 vn ys) (hi:i<vn.length):∃y e,(y,e)∈R.vl ys.length∧aY vn i=R.vn U (R.ex U ys.length) (R.cl U ys.length) (y,e):=by
 have h1:=h.vn
 subst h1
 obtain⟨y,e,h2,h3⟩:=QR hi
 exact⟨y,e,h2,by rw[h3,h.un]⟩
theorem Cons.uat (h:Cons R U rw9 vn ys) (hi:i<U.length):∃v e t:Nat,bN U i=⟨v,e,t,(bN U i).n⟩∧v<t∧t<ys.length∧t≤v+R.f∧e<R.E∧R.mem t e=true∧0<(bN U i).n∧Sz 300 (bN U i).n:=by
 have h0:=eA hi
 have h1:=h.un
 have h2:bN U i∈R.run ys.length:=by rw[←h1];exact h0
 obtain⟨v,e,t,a1,a2,a3,a4,a5,a6,a7⟩:=mO h2
 unfold Rg.may at a6
 simp only[Bool.and_eq_true,decide_eq_true_eq]at a6
 refine⟨v,e,t,?_,a4,a5,a6.1,a7,a6.2,Th h2,vD h.ok (bC _) _ h2⟩
 rw[←a1,←a2,←a3]
theorem Cons.usz (h:Cons R U rw9 vn ys):∀u∈U,Sz 300 u.n:=by
 rw[h.un]
 exact vD h.ok (bC _)
theorem Cons.ul (h:Cons R U rw9 vn ys):U.length≤1000:=by
 rw[h.un]
 exact nR h.ok (bC _)
theorem Cons.vl (h:Cons R U rw9 vn ys):vn.length≤60:=by
 rw[h.vn,Aq]
 have:=lJ (R:=R) h.ok.e ys.length
 have:=h.ok.n
 omega
theorem Cons.rn (h:Cons R U rw9 vn ys):rw9.length=ys.length:=by rw[h.rl,lN]
theorem Cons.rat (h:Cons R U rw9 vn ys) (hi:i<ys.length):fN rw9 i=R.rl U i:=by rw[h.rl,Ns hi]
theorem GQ (R:Rg){t e:Nat}(he:e<R.E):cM ((R.bs t).map Fr4.of) e=Fr4.of (R.base t e):=by rw[mE (by rw[iB];exact he),mZ he]
theorem GR (R:Rg){U:List Ur}{t e:Nat}(he:e<R.E):cM ((R.by9 U t).map Fr4.of) e=Fr4.of (dT U t e):=by rw[mE (by rw[jE];exact he),oD he]
end
theorem AX {qs:List Rat}(hz:∀q∈qs,Sz 1000 q) (hl:qs.length≤6):aE false Tryz.prog 26 [] [.one (.t (sQ false (qs.map Fr4.of)))] (aT (qF (.of (fD qs)))):=by
 have h:=XD (xs:=qs.map Fr4.of) (B:=1000) (by rw[dB];have:=Nat.mul_le_mul hl (bC 1001);omega) (fun a ha=>by
  obtain⟨q,hq,rfl⟩:=List.mem_map.1 ha
  exact(Qn.of ((hz q hq).mono (M:=68719476736) (by omega))).1) (fun a ha=>by
  obtain⟨q,hq,rfl⟩:=List.mem_map.1 ha
  rw[Fr4.q_of]
  exact hz q hq) (by rw[dB];omega)
 rw[show(qs.map Fr4.of).map Fr4.q=qs from by
  rw[List.map_map]
  conv=>rhs;rw[←List.map_id' qs]
  exact List.map_congr_left fun q _=>Fr4.q_of q]at h
 exact h
theorem GS {R:Rg}{U:List Ur}{rw9:List Rl}{vn:List Vn}{ys:List Yr}{y e:Nat}(hC:Cons R U rw9 vn ys) (hv:(y,e)∈R.vl ys.length):aE true Tryz.prog 24 [] [.one (.t (gT ys)),.agg [tv (.int .i64 ((y:Nat):Int)),tv (.int .i64 ((e:Nat):Int)),tv (.bool (aL (R.los y e).num)),.t (sU false (dg 4294967296 (R.los y e).num.natAbs)),tv (.bool false),.t (sU false (dg 4294967296 (R.los y e).den)),tv (.bool (aL (cU U y e).num)),.t (sU false (dg 4294967296 (cU U y e).num.natAbs)),tv (.bool false),.t (sU false (dg 4294967296 (cU U y e).den)),tv (.bool (aL (R.ex U ys.length y e).num)),.t (sU false (dg 4294967296 (R.ex U ys.length y e).num.natAbs)),tv (.bool false),.t (sU false (dg 4294967296 (R.ex U ys.length y e).den)),tv (.bool (aL (R.cl U ys.length y e).num)),.t (sU false (dg 4294967296 (R.cl U ys.length y e).num.natAbs)),tv (.bool false),.t (sU false (dg 4294967296 (R.cl U ys.length y e).den))]] (aT (.one (tv (.bool true)))):=by
 refine bV Tryz.func24 rfl Tryz.ntmps24 rfl aF rfl fun N9 w9 c0 h0=>?_
 obtain⟨hyn,heE,hmem,hlo,hpos⟩:=Nn hv
 have hIv:=hC.iv
 have hmsl:(R.ms y).length=R.E:=lH
 have hbsl:((R.bs y).map Fr4.of).length=R.E:=by rw[dB,iB]
 have hz1:Sz 68719476736 (R.los y e):=(hC.ok.sz_los hyn heE).mono (by omega)
 have hz2:Sz 68719476736 (cU U y e):=(hIv.sz_vOf hC.ok hyn heE).mono (by omega)
 have hz4:Sz 68719476736 (R.ex U ys.length y e):=(Ar hC.ok hIv hyn heE).mono (by omega)
 have hz5:Sz 68719476736 (R.cl U ys.length y e):=(Ws hC.ok hIv hyn heE).mono (by omega)
 have hz7:Sz 68719476736 (R.base (y) (e)):=(hC.ok.base y e hyn heE).mono (by omega)
 have hz8:Sz 68719476736 (-(R.base (y) (e))):=(sY (hC.ok.base y e hyn heE)).mono (by omega)
 have hz6:Sz 68719476736 (fD [(cU U y e),(R.ex U ys.length y e),(R.cl U ys.length y e)]):=by rw[Ka];exact hz1
 have hz3:∀q∈[(cU U y e),(R.ex U ys.length y e),(R.cl U ys.length y e)],Sz 1000 q:=fun q ha=>by
  simp only[pL,List.not_mem_nil,or_false]at ha;rcases ha with rfl | rfl | rfl
  ·exact(hIv.sz_vOf hC.ok hyn heE).mono (by omega)
  ·exact(Ar hC.ok hIv hyn heE).mono (by omega)
  exact(Ws hC.ok hIv hyn heE).mono (by omega)
 refine sq (rl (bx 0 ?_));refine o1 ?_;refine nl (sq (sq ?_));refine cI [0] [] ?_
 refine dv 0 ?_;refine aK 1 ?_;refine dv 2 ?_;refine dv 3 ?_;refine WD.split (t:=9) rfl rfl (fun h1=>?_) (fun h1=>?_)
 ·exact absurd h1 (by omega)
 refine dv 4 ?_;refine aK 5 ?_;refine dv 6 ?_;refine dv 7 ?_;refine dv 8 ?_;refine dv 9 ?_;refine dv 10 ?_;refine WD.split (t:=16) rfl rfl (fun h2=>?_) (fun h2=>?_)
 ·exact absurd h2 (by omega)
 refine dv 11 ?_;refine aK 12 ?_;refine dv 13 ?_;refine dv 14 ?_;refine dv 15 ?_;refine WD.split (t:=21) rfl rfl (fun h3=>?_) (fun h3=>?_)
 ·exact absurd h3 (by omega)
 refine dv 16 ?_;refine aK 17 ?_;refine dv 18 ?_;refine dv 19 ?_;refine aK 20 ?_;refine dv 21 ?_;refine dv 22 ?_
 refine dD 23 ([gH (R.ms (y))]) ((by rw[←hC.m (y) (by omega)];exact(aI (f:=yrt) (z:=6) (o:=0) cL (bR (by omega)) (bM rfl) rfl))) ?_
 refine dv 24 ?_;refine WD.cast (t:=30) (u':=.int .i64 ((R.E:Nat):Int)) rfl (dO (by rw[lH])) ?_
 refine dv 25 ?_;refine dv 26 ?_;refine dv 27 ?_;refine WD.split (t:=33) rfl rfl (fun h4=>?_) (fun h4=>?_)
 ·exact absurd h4 (by omega)
 refine dv 28 ?_;refine dv 29 ?_;refine aK 30 ?_;refine dv 31 ?_;refine dv 32 ?_
 refine dD 33 ([gH (R.ms (y))]) ((by rw[←hC.m (y) (by omega)];exact(aI (f:=yrt) (z:=6) (o:=0) cL (bR (by omega)) (bM rfl) rfl))) ?_
 refine dv 34 ?_;refine aK 35 ?_;refine dv 36 ?_
 refine dD 37 ([.v (.bool (R.mem (y) (e)))]) ((by rw[←nA (R:=R) (t:=(y)) (e:=e) (by omega)];exact wV (R.ms (y)) (k:=e) (by rw[lH];omega))) ?_
 refine WD.cast (t:=43) (u':=.bool false) rfl (congrArg Value.bool hmem) ?_;refine dv 38 ?_;refine aW ?_;refine dW rfl (sk (sq (rl (o1 ?_))))
 refine ld ?_;refine o1 ?_;refine ld ?_;refine o1 ?_;refine ld ?_;refine bs 1 ?_
 refine WL.sub (Ox (i:=51) (k:=1) (t:=48) (z:=4) (n:=3) (l:=([Fr4.of (cU U y e),Fr4.of (R.ex U ys.length y e),Fr4.of (R.cl U ys.length y e)]).flatMap (Fr4.tr false)) 52 rfl rfl rfl rfl (.one .sl)) ?_
 refine ca (AX (qs:=[(cU U y e),(R.ex U ys.length y e),(R.cl U ys.length y e)]) hz3 (by show 3≤_;omega)) TB ⟨a1 rfl,rfl⟩ (qF (.of (fD [(cU U y e),(R.ex U ys.length y e),(R.cl U ys.length y e)]))) ?_
 refine al 2 ?_;refine st ?_;refine nl (sq ?_);refine cI [0,2] [46] ?_
 refine aK 0 ?_;refine dv 1 ?_;refine aK 2 ?_
 refine aS 3 rfl (jX (p:=(fD [(cU U y e),(R.ex U ys.length y e),(R.cl U ys.length y e)])) (q:=(R.los y e)) hz6 hz1 Ka) kI ⟨aC rfl,aC rfl,rfl⟩ (.one (tv (.int .i64 0))) ?_
 refine df 4 ?_;refine WD.cast (t:=57) (u':=.bool true) rfl (congrArg Value.bool rfl) ?_;refine df 5 ?_;refine dv 6 ?_;refine aK 7 ?_;refine dv 8 ?_;refine dv 9 ?_;refine aK 10 ?_
 refine dv 11 ?_;refine dv 12 ?_
 refine dD 13 ([sQ false ((R.bs (y)).map Fr4.of)]) ((by rw[←hC.b (y) (by omega)];exact(aI (f:=yrt) (z:=6) (o:=1) cL (bR (by omega)) (bM rfl) rfl))) ?_
 refine dv 14 ?_;refine aK 15 ?_;refine dv 16 ?_
 refine dD 17 ((Fr4.of (R.base (y) (e))).tr false) ((by rw[←GQ R (t:=(y)) (e:=e) (by omega)];exact fL ((R.bs (y)).map Fr4.of) (k:=e) (by rw[dB,iB];omega))) ?_
 refine aS 18 rfl (KE (Qn.of (p:=(R.base (y) (e))) hz7)) GL ⟨aC rfl,rfl⟩ (qF (.of (-(R.base (y) (e))))) ?_
 refine aS 19 rfl (jX (p:=(R.los y e)) (q:=(-(R.base (y) (e)))) hz1 hz8 hlo) kI ⟨aC rfl,aC rfl,rfl⟩ (.one (tv (.int .i64 0))) ?_;refine df 20 ?_
 refine WD.cast (t:=73) (u':=.bool true) rfl (congrArg Value.bool rfl) ?_;refine df 21 ?_;refine df 22 ?_;refine dv 23 ?_;refine aK 24 ?_
 refine aS 25 rfl (iZ (Qn.of (p:=(R.los y e)) hz1)) mU ⟨aC rfl,rfl⟩ (.one (tv (.int .i64 (R.los y e).num.sign))) ?_;refine df 26 ?_
 refine WD.cast (t:=79) (u':=.bool true) rfl (congrArg Value.bool (decide_eq_true ((iT _).2 hpos))) ?_;refine df 27 ?_;refine df 28 ?_;refine dv 29 ?_;refine aK 30 ?_
 refine aS 31 rfl (iZ (Qn.of (p:=(cU U y e)) hz2)) mU ⟨aC rfl,rfl⟩ (.one (tv (.int .i64 (cU U y e).num.sign))) ?_;refine df 32 ?_
 refine WD.cast (t:=85) (u':=.bool true) rfl (congrArg Value.bool (decide_eq_true (Int.sign_nonneg_iff.2 (Rat.num_nonneg.2 (QS hIv hyn heE))))) ?_;refine df 33 ?_;refine df 34 ?_
 refine dv 35 ?_;refine aK 36 ?_;refine aS 37 rfl (iZ (Qn.of (p:=(R.ex U ys.length y e)) hz4)) mU ⟨aC rfl,rfl⟩ (.one (tv (.int .i64 (R.ex U ys.length y e).num.sign))) ?_
 refine df 38 ?_;refine WD.cast (t:=91) (u':=.bool true) rfl (congrArg Value.bool (decide_eq_true (Int.sign_nonneg_iff.2 (Rat.num_nonneg.2 (VY hIv hyn heE))))) ?_;refine df 39 ?_
 refine df 40 ?_;refine dv 41 ?_;refine aK 42 ?_
 refine aS 43 rfl (iZ (Qn.of (p:=(R.cl U ys.length y e)) hz5)) mU ⟨aC rfl,rfl⟩ (.one (tv (.int .i64 (R.cl U ys.length y e).num.sign))) ?_;refine df 44 ?_
 refine WD.cast (t:=97) (u':=.bool true) rfl (congrArg Value.bool (decide_eq_true (Int.sign_nonneg_iff.2 (Rat.num_nonneg.2 (VZ hIv hyn heE))))) ?_;refine df 45 ?_
 refine dI 46 ?_
 refine aW ?_;refine rt ?_;exact gO (.inl rfl) rfl (rfl)
theorem Bj {q:Rat}(h:Sz 68719476736 q):aE false Tryz.prog 22 [] [qF (.of ((0:Int):Rat)),.one (.t (sQ false [Fr4.of q]))] (aT (qF (.of (dY 0 [q])))):=by
 have h1:=WU (a:=.of ((0:Int):Rat)) (p:=((0:Int):Rat)) (xs:=[Fr4.of q]) (Qn.of (wS (M:=68719476736) (by omega))) (fun x hx=>by rw[List.mem_singleton]at hx;subst hx;exact(Qn.of h).1) (by show 1≤_;omega)
 rw[show [Fr4.of q].map Fr4.q=[q] by rw[List.map_cons,Fr4.q_of];rfl]at h1
 exact h1
theorem uE {L:Nat}{q:Rat}(h:Sz L q) (hL:2≤L):Sz L (dY 0 [q]):=by
 show Sz L (if(0:Rat)<q then q else 0)
 split
 ·exact h
 exact wS hL
theorem vU {p q:Rat}(h:p≤q):¬0<(p-q).num.sign:=fun h1=>by
 have:=(iT (p-q)).1 h1
 grind
theorem Ib {p:Rat}(h:0≤p):¬p.num.sign<0:=fun h1=>by
 have:=(pZ p).1 h1
 grind
theorem nX {p:Rat}(h:0<p):¬p.num.sign≤0:=fun h1=>by
 have:=(iT p).2 h
 omega
theorem Xi {us:List Ur}{k:Nat}{y e:Int}(h:k<us.length):cU (us.take (k+1)) y e=if(bN us k).v=y∧(bN us k).e=e then cU (us.take k) y e+(bN us k).n else cU (us.take k) y e:=by
 unfold cU
 rw[Hq h,qA]
 simp only[Bool.and_eq_true,decide_eq_true_eq]
end Go.Proofs.YtbbabfkgdnkehaaGreat
