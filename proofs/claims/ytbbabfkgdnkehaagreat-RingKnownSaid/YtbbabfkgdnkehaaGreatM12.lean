/- Part 12 of a proof: O2 to O4. -/
import Derived.Test.YtbbabfkgdnkehaaGreatM11
import Derived.Test.YtbbabfkgdnkehaaGreatM10
import Derived.Test.YtbbabfkgdnkehaaGreatM8
import Derived.Test.YtbbabfkgdnkehaaGreatM5
import Derived.Test.YtbbabfkgdnkehaaGreatM7
import Derived.ProofKit
import Derived.ChangeOld
import Derived.Deep.Slices
import Derived.Deep.Strs
import Derived.Test.YtbbabfkgdnkehaaGreatM9
import Derived.WalkKit
import Derived.OpenShut
import Derived.Below
import Derived.Carry
set_option maxRecDepth 100000
set_option linter.unusedVariables false
set_option linter.unusedSimpArgs false
namespace Go.Proofs.YtbbabfkgdnkehaaGreat
open Go Go.RowKit
abbrev Rg.zl (R:Rg) (t i:Nat):Rat:=R.los (aD (R.vl t) i).1 (aD (R.vl t) i).2
abbrev Rg.zu (R:Rg) (t i:Nat):Rat:=cU (R.fw t i) (aD (R.vl t) i).1 (aD (R.vl t) i).2
abbrev Rg.zx (R:Rg) (t i:Nat):Rat:=R.ex (R.run t) t (aD (R.vl t) i).1 (aD (R.vl t) i).2
abbrev Rg.ze (R:Rg) (t i:Nat):Rat:=dT (R.fw t i) t (aD (R.vl t) i).2
abbrev Rg.zy (R:Rg) (t i:Nat):Rat:=dZ (R.fw t i) t
abbrev Rg.zf (R:Rg) (t i:Nat):Rat:=R.zl t i-(R.zu t i+R.zx t i)
abbrev Rg.zb (R:Rg) (t i:Nat):Rat:=R.base t (aD (R.vl t) i).2-R.ze t i
abbrev Rg.zm (R:Rg) (t i:Nat):Rat:=R.lim t-R.zy t i
abbrev Rg.zn (R:Rg) (t i:Nat):Rat:=aO (R.zf t i) [R.zb t i,R.zm t i]
theorem vP {a b c:Rat}(ha:Sz 17179869184 a) (hb:Sz 17179869184 b) (hc:Sz 17179869184 c):aE false Tryz.prog 63 [] [.one (.t (sQ false [Fr4.of a,Fr4.of b,Fr4.of c]))] (aT (qF (.of (aO a [b,c])))):=by
 have h:=SE (xs:=[Fr4.of a,Fr4.of b,Fr4.of c]) (by simp) (by
  intro x hx
  simp only[pL,List.not_mem_nil,or_false]at hx
  rcases hx with rfl | rfl | rfl
  ·exact⟨(Qn.of (ha.mono (M:=68719476736) (by omega))).1,by rw[Fr4.q_of];exact ha⟩
  ·exact⟨(Qn.of (hb.mono (M:=68719476736) (by omega))).1,by rw[Fr4.q_of];exact hb⟩
  exact⟨(Qn.of (hc.mono (M:=68719476736) (by omega))).1,by rw[Fr4.q_of];exact hc⟩) (by simp)
 have e:lV ([Fr4.of a,Fr4.of b,Fr4.of c].map Fr4.q)=aO a [b,c]:=by
  show aO (Fr4.of a).q [(Fr4.of b).q,(Fr4.of c).q]=_
  rw[Fr4.q_of,Fr4.q_of,Fr4.q_of]
 rwa[e]at h
set_option maxHeartbeats 4000000 in
theorem FX {R:Rg}{N t:Nat}(hOk:R.Ok N) (ht:t<N):nI false Tryz.prog 33 [] [⟨106,5,((R.rls (R.run t) t).flatMap rlt).map .t⟩,⟨87,18,((R.vns (R.run t) (R.ex (R.run t) t) (fun _ _=>(0:Rat)) (R.vl t)).flatMap (cA false)).map .t⟩,⟨109,7,((R.run t).flatMap (dK false)).map .t⟩] [.agg [.sl 0 0 t,.sl 1 0 (R.vl t).length,.sl 2 0 (R.run t).length],.one (tv (.int .i64 ((R.f:Nat):Int))),.one (tv (.int .i64 ((t:Nat):Int))),.agg ((R.yrq t).map .t)] (aT (.agg [.t (lT true (R.rls (R.run (t+1)) (t+1))),.t (lR true (R.vns (R.run (t+1)) (R.ex (R.run (t+1)) (t+1)) (fun _ _=>(0:Rat)) (R.vl (t+1)))),.t (lS true (R.run (t+1)))])):=by
 refine QP (lent:=[]) Tryz.func33 rfl Tryz.ntmps33 rfl aF rfl fun N9 M9 w9 c0 h0=>?_
 have hE:=hOk.e;have hN:=hOk.n;have hF:=hOk.f
 have hms:(R.ms t).length=R.E:=lH
 have hbl:((R.bs t).map Fr4.of).length=R.E:=by rw[dB];exact iB
 have hvl:=lJ (R:=R) hE t
 have hvl1:=lJ (R:=R) hE (t+1)
 have hrl:=nR (R:=R) hOk (k:=t) (by omega)
 have hrl1:=nR (R:=R) hOk (k:=t+1) (by omega)
 refine sq (rl (bx 3 ?_));refine bx 4 ?_;refine al 5 ?_;refine nl (sq (rl (ca (Ba) Wy rfl (qF (.of (0:Rat))) ?_)));refine al 6 ?_
 refine st ?_;refine nl (sq (rl (ld ?_)));refine o1 ?_;refine al 7 ?_;refine st ?_;refine nl (sq (sq (rl (o1 ?_))));refine nl ?_
 refine bl (WP.sub (sT (j:=7) (key:=8) (e:=52) (z:=4) rfl rfl rfl (.id (.id (.id (.id (.sl .nil)))))) ?_)
 refine lp (γ:=Nat) (fun s=>bP [(1,iN R.f),(2,iN t),(4,pN 3),(7,pN 4),(8,pN 5),(9,pN 6),(10,pN 7),(11,iN s)]) (fun s=>[(⟨106,5,((R.rls (R.run t) t).flatMap rlt).map .t⟩:Ob),⟨87,18,((R.vns (R.run t) (R.ex (R.run t) t) (fun _ _=>(0:Rat)) (R.vl t)).flatMap (cA false)).map .t⟩,⟨109,7,((R.run t).flatMap (dK false)).map .t⟩,⟨31,0,[.sl 0 0 t,.sl 1 0 (R.vl t).length,.sl 2 0 (R.run t).length]⟩,⟨83,0,(R.yrq t).map .t⟩,⟨31,0,[tv (.slice none 0 0),tv (.slice none 0 0),tv (.slice none 0 0)]⟩,⟨52,0,((Fr4.of (0:Rat)).tr false).map .t⟩,⟨106,0,((Fr4.of (0:Rat)).tr false).map .t++([.sl 8 0 s]:List AV)⟩,⟨52,4,(((List.range s).map (fun _=>(0:Rat))).flatMap qt).map .t⟩].map some) (fun s=>s≤R.E) (fun s=>R.E-s) 0 (Nat.zero_le _) (aP h0 [0,1,2,3,4,5,6,7,8] ⟨aB rfl,aB rfl,aB rfl,oe rfl rfl,aB rfl,oe rfl rfl,aB rfl,oe rfl rfl,aB rfl,rfl⟩) ?_
 rintro k hk;refine sq (sq (rl (o1 ?_)));refine o1 ?_;refine ld ?_;refine o1 ?_;refine o1 ?_;refine nl ?_;refine bF rfl (fun h1=>?_) (fun h1=>?_)
 ·refine sk (sq (bl (rl (o1 ?_))));refine ld ?_;refine ld ?_;refine bs 9 ?_
  refine iA (j:=10) (n:=k) (l:=(((List.range k).map (fun _=>(0:Rat))).flatMap qt).map .t) aF rfl rfl rfl rfl (.sl rfl (by rw[dB,bE mF,dB,List.length_range])) (.sl rfl rfl rfl) rfl rfl rfl (by omega) (by omega) ?_
  refine o1 ?_;refine st ?_;refine nl (rl (o1 ?_));refine o1 ?_;refine bB 27 (k+1) ?_
  refine o1 ?_;refine nl ?_
  exact⟨k+1,by omega,by omega,aP h0 [0,1,2,3,4,5,6,7,10] ⟨aB rfl,aB rfl,aB rfl,oe rfl rfl,aB rfl,oe rfl rfl,aB rfl,oe rfl rfl,aB (congrArg (fun l:List AV=>some (⟨52,4,l⟩:Ob)) ((Hl ((List.range k).map (fun _=>(0:Rat))) (0:Rat)).trans (by rw[List.range_succ,List.map_append];rfl))),rfl⟩⟩
 refine ex (sq (sq (rl (o1 ?_))));refine nl (bl ?_);have hkE:k=R.E:=by omega
 have hzy:(0:Rat)=(R.zy t 0):=(Ta (bC _)).symm
 have hzb:((List.range k).map (fun _=>(0:Rat)))=(R.by9 (R.fw t 0) t):=by rw[hkE];exact AH fun e _=>Tb (bC _)
 refine lp (γ:=Nat) (fun s=>bP [(1,iN R.f),(2,iN t),(4,pN 3),(7,pN 4),(8,pN 5),(9,pN 6),(10,pN 7),(12,iN s)]) (fun s=>[(⟨106,5,((R.rls (R.run t) t).flatMap rlt).map .t⟩:Ob),⟨87,18,((R.vns (R.fw t s) (R.ex (R.run t) t) (fun _ _=>(0:Rat)) (R.vl t)).flatMap (cA false)).map .t⟩,⟨109,7,((R.fw t s).flatMap (dK false)).map .t⟩,⟨31,0,[.sl 0 0 t,.sl 1 0 (R.vl t).length,.sl 2 0 (R.fw t s).length]⟩,⟨83,0,(R.yrq t).map .t⟩,⟨31,0,[tv (.slice none 0 0),tv (.slice none 0 0),tv (.slice none 0 0)]⟩,⟨52,0,((Fr4.of (0:Rat)).tr false).map .t⟩,⟨106,0,((Fr4.of (R.zy t s)).tr false).map .t++([.sl 8 0 (R.by9 (R.fw t s) t).length]:List AV)⟩,⟨52,4,((R.by9 (R.fw t s) t).flatMap qt).map .t⟩].map some) (fun s=>s≤(R.vl t).length) (fun s=>(R.vl t).length-s) 0 (Nat.zero_le _) (aP h0 [0,1,2,3,4,5,6,7,8] ⟨aB rfl,aB rfl,aB rfl,oe rfl rfl,aB rfl,oe rfl rfl,aB rfl,oe rfl (by have h9:(some ⟨106,0,((Fr4.of (0:Rat)).tr false).map .t++([.sl 8 0 k]:List AV)⟩:Option Ob)=some ⟨106,0,((Fr4.of (R.zy t 0)).tr false).map .t++([.sl 8 0 (R.by9 (R.fw t 0) t).length]:List AV)⟩:=(by rw[←hzy,←hzb,dB,List.length_range]);exact h9),aB (by have h9:(some ⟨52,4,(((List.range k).map (fun _=>(0:Rat))).flatMap qt).map .t⟩:Option Ob)=some ⟨52,4,((R.by9 (R.fw t 0) t).flatMap qt).map .t⟩:=(by rw[hzb]);exact h9),rfl⟩) ?_
 rintro i hi;refine sq (sq (rl (o1 ?_)));refine o1 ?_;refine ld ?_;refine o1 ?_;refine o1 ?_;refine nl ?_;refine bF rfl (fun h2=>?_) (fun h2=>?_)
 ·refine sk (sq (bl (sq ?_)));have hi9:i<(R.vl t).length:=by omega
  obtain⟨hp1,hp2,hp3⟩:=fK.1 (Dq (l:=(R.vl t)) hi9)
  have hIv:R.Iv N (R.fw t i):=WN hOk ht
  have hfl:=MZ (R:=R) (i:=i) hOk ht
  have hvl9:(R.vns (R.fw t i) (R.ex (R.run t) t) (fun _ _=>(0:Rat)) (R.vl t)).length=(R.vl t).length:=dQ
  have hge:(R.vns (R.fw t i) (R.ex (R.run t) t) (fun _ _=>(0:Rat)) (R.vl t))[i]? =some (⟨(aD (R.vl t) i).1,(aD (R.vl t) i).2,(R.zl t i),(R.zu t i),(R.zx t i),(0:Rat)⟩:Vn):=by
   unfold Rg.vns;rw[List.getElem?_map,nS hi9];rfl
  have hb9:(R.by9 (R.fw t i) t).length=R.E:=jE
  have hsl:Sz 300 (R.zl t i):=hOk.sz_los (by omega) hp2
  have hsu:Sz 300 (R.zu t i):=hIv.sz_vOf hOk (by omega) hp2
  have hsx:Sz 300 (R.zx t i):=Ar hOk (hOk.run (by omega)) (by omega) hp2
  have hse:Sz 300 (R.ze t i):=hIv.sz_eIn hOk ht hp2
  have hsy:Sz 300 (R.zy t i):=hIv.sz_yIn hOk ht
  have hsb:=hOk.base t (aD (R.vl t) i).2 ht hp2
  have hsm:=hOk.lim t ht
  have hslf:Sz 2100 (R.zf t i):=(kD hsl (vB hsu hsx)).mono (by omega)
  have hm1:Sz 17179869184 (R.zf t i):=hslf.mono (by omega)
  have hm2:Sz 17179869184 (R.zb t i):=(kD hsb hse).mono (by omega)
  have hm3:Sz 17179869184 (R.zm t i):=(kD hsm hsy).mono (by omega)
  have hsn:Sz 2100 (R.zn t i):=pW hslf (by
   intro q hq;rcases List.mem_cons.1 hq with rfl | hq
   ·exact(kD hsb hse).mono (by omega)
   rw[List.mem_singleton]at hq
   subst hq;exact(kD hsm hsy).mono (by omega))
  have hmm:nM (R.ms t) (aD (R.vl t) i).2=R.mem t (aD (R.vl t) i).2:=nA hp2
  refine rl (o1 ?_);refine ld ?_;refine o1 ?_;refine o1 ?_
  refine Oc (fU (f:=(cA false)) (z:=18) (o:=0) (us:=(cA false) ⟨(aD (R.vl t) i).1,(aD (R.vl t) i).2,(R.zl t i),(R.zu t i),(R.zx t i),(0:Rat)⟩) (cK false) (hge) (bM rfl) rfl) ?_
  refine al 9 ?_;refine st ?_;refine nl (sq (sq (rl (o1 ?_))));refine ld ?_;refine o1 ?_;refine ld ?_;refine o1 ?_
  refine dV ([.v (.bool (nM (R.ms t) ((aD (R.vl t) i).2)))]) (wV (R.ms t) (k:=(aD (R.vl t) i).2) (by omega)) ?_
  refine WL.splitb (t:=51) rfl (fun h3=>?_) (fun h3=>?_)
  ·refine o1 ?_;refine nl (dW rfl (sk ?_))
   refine md (γ:=Unit) (fun _=>bP [(1,iN R.f),(2,iN t),(4,pN 0),(7,pN 4),(8,pN 5),(9,pN 6),(10,pN 7),(12,iN i),(13,pN 9),(14,pN 10)]) (fun _=>([⟨31,0,[.sl 1 0 (t),.sl 2 0 ((R.vl t).length),.sl 3 0 ((R.fw t i).length)]⟩,⟨106,5,((R.rls (R.run t) t).flatMap rlt).map .t⟩,⟨87,18,((R.vns (R.fw t i) (R.ex (R.run t) t) (fun _ _=>(0:Rat)) (R.vl t)).flatMap (cA false)).map .t⟩,⟨109,7,((R.fw t i).flatMap (dK false)).map .t⟩,⟨83,0,[.t (gH (R.ms t)),.t (sQ false ((R.bs t).map Fr4.of)),tv (.bool (aL (R.lim t).num)),.t (sU false (dg 4294967296 (R.lim t).num.natAbs)),tv (.bool false),.t (sU false (dg 4294967296 (R.lim t).den))]⟩,⟨31,0,[tv (.slice none 0 0),tv (.slice none 0 0),tv (.slice none 0 0)]⟩,⟨52,0,((Fr4.of (0:Rat)).tr false).map .t⟩,⟨106,0,[tv (.bool (aL (R.zy t i).num)),.t (sU false (dg 4294967296 (R.zy t i).num.natAbs)),tv (.bool false),.t (sU false (dg 4294967296 (R.zy t i).den)),.sl 8 0 ((R.by9 (R.fw t i) t).length)]⟩,⟨52,4,((R.by9 (R.fw t i) t).flatMap qt).map .t⟩,⟨87,0,[tv (.int .i64 (((aD (R.vl t) i).1:Nat):Int)),tv (.int .i64 (((aD (R.vl t) i).2:Nat):Int)),tv (.bool (aL (R.zl t i).num)),.t (sU false (dg 4294967296 (R.zl t i).num.natAbs)),tv (.bool false),.t (sU false (dg 4294967296 (R.zl t i).den)),tv (.bool (aL (R.zu t i).num)),.t (sU false (dg 4294967296 (R.zu t i).num.natAbs)),tv (.bool false),.t (sU false (dg 4294967296 (R.zu t i).den)),tv (.bool (aL (R.zx t i).num)),.t (sU false (dg 4294967296 (R.zx t i).num.natAbs)),tv (.bool false),.t (sU false (dg 4294967296 (R.zx t i).den)),tv (.bool (aL (0:Rat).num)),.t (sU false (dg 4294967296 (0:Rat).num.natAbs)),tv (.bool false),.t (sU false (dg 4294967296 (0:Rat).den))]⟩,⟨52,0,((Fr4.of (R.zn t i)).tr false).map .t⟩]:List Ob).map some) (fun _=>True) ?_ fun _ _=>?_
   ·refine cI [3,4,5,6,7,8,9] [23] ?_
    refine aK 0 ?_;refine dv 2 ?_;refine aK 3 ?_;refine dv 4 ?_;refine aK 5 ?_;refine dv 6 ?_
    refine dD 7 ((Fr4.of (R.base t (aD (R.vl t) i).2)).tr false) ((by rw[←mZ hp2,←mE (by rw[iB];exact hp2)];exact fL ((R.bs t).map Fr4.of) (k:=(aD (R.vl t) i).2) (by omega))) ?_
    refine dv 8 ?_;refine aK 9 ?_;refine dv 10 ?_;refine aK 11 ?_;refine dv 12 ?_
    refine sP 13 (fU (f:=qt) (z:=4) (o:=0) (us:=qt (R.ze t i)) mF ((Ot hp2)) (bM rfl) rfl) ?_
    refine dv 15 ?_;refine aK 16 ?_;refine dv 17 ?_;refine aK 18 ?_;refine eR 1 22 ?_ ?_
    ·refine fB 1 rfl (Fd (v:=(⟨(aD (R.vl t) i).1,(aD (R.vl t) i).2,(R.zl t i),(R.zu t i),(R.zx t i),(0:Rat)⟩:Vn)) (by exact hsl.mono (by omega)) (by exact hsu.mono (by omega)) (by exact hsx.mono (by omega))) Xe ⟨aC rfl,rfl⟩ (qF (.of (R.zf t i))) ?_
     refine eR 14 22 ?_ ?_
     ·refine fB 14 rfl (oX (Qn.of (L:=4) hsb) (Qn.of (L:=300) hse) (hsb.mono (by omega)) (hse.mono (by omega))) wZ ⟨aC rfl,aC rfl,rfl⟩ (qF (.of (R.zb t i))) ?_
      refine eR 19 22 ?_ ?_
      ·refine fB 19 rfl (oX (Qn.of (L:=4) hsm) (Qn.of (L:=300) hsy) (hsm.mono (by omega)) (hsy.mono (by omega))) wZ ⟨aC rfl,aC rfl,rfl⟩ (qF (.of (R.zm t i))) ?_
       refine eR 20 22 ?_ ?_
       ·refine Hc (key:=10) 20 rfl rfl ⟨rfl,rfl,rfl,rfl,rfl,rfl,rfl,trivial⟩ ?_
        refine qU (i:=73) (k:=10) (t:=52) (t':=52) (z:=4) (n:=3) (l:=([Fr4.of (R.zf t i),Fr4.of ((R.zb t i)),Fr4.of ((R.zm t i))]).flatMap (Fr4.tr false)) rfl rfl rfl rfl (.one .sl) (by rfl) (by rfl) ?_
        refine eR 21 22 ?_ ?_
        ·refine fB 21 rfl (vP hm1 hm2 hm3) Hr ⟨a1 rfl,rfl⟩ (qF (.of (R.zn t i))) ?_
         refine fZ 11 22 ?_
         refine dst 23 ?_;refine aW ?_
         exact⟨(),trivial,aP h0 [3,0,1,2,4,5,6,7,8,9,11] ⟨oe rfl rfl,aB rfl,aB rfl,aB rfl,oe rfl rfl,oe rfl rfl,oe rfl rfl,oe rfl rfl,aB rfl,oe rfl rfl,oe rfl rfl,rfl⟩⟩
        refine cQ 11 22 ?_;refine aS 21 rfl (vP hm1 hm2 hm3) Hr ⟨a1 rfl,rfl⟩ (qF (.of (R.zn t i))) ?_
        refine dst 23 ?_;refine aW ?_
        exact⟨(),trivial,aP h0 [3,0,1,2,4,5,6,7,8,9,11] ⟨oe rfl rfl,aB rfl,aB rfl,aB rfl,oe rfl rfl,oe rfl rfl,oe rfl rfl,oe rfl rfl,aB rfl,oe rfl rfl,oe rfl rfl,rfl⟩⟩
       refine cQ 10 22 ?_
       refine iG (key:=11) 20 (by kernel_rfl) rfl rfl aF rfl ⟨rfl,rfl,rfl,rfl,rfl,rfl,rfl,trivial⟩ ?_
       refine qU (i:=73) (k:=11) (t:=52) (t':=52) (z:=4) (n:=3) (l:=([Fr4.of (R.zf t i),Fr4.of ((R.zb t i)),Fr4.of ((R.zm t i))]).flatMap (Fr4.tr false)) rfl rfl rfl rfl (.one .sl) (by rfl) (by rfl) ?_
       refine aS 21 rfl (vP hm1 hm2 hm3) Hr ⟨a1 rfl,rfl⟩ (qF (.of (R.zn t i))) ?_;refine dst 23 ?_;refine aW ?_
       exact⟨(),trivial,aP h0 [3,0,1,2,4,5,6,7,8,9,10] ⟨oe rfl rfl,aB rfl,aB rfl,aB rfl,oe rfl rfl,oe rfl rfl,oe rfl rfl,oe rfl rfl,aB rfl,oe rfl rfl,oe rfl rfl,rfl⟩⟩
      refine cQ 10 22 ?_
      refine aS 19 rfl (oX (Qn.of (L:=4) hsm) (Qn.of (L:=300) hsy) (hsm.mono (by omega)) (hsy.mono (by omega))) wZ ⟨aC rfl,aC rfl,rfl⟩ (qF (.of (R.zm t i))) ?_
      refine iG (key:=11) 20 (by kernel_rfl) rfl rfl aF rfl ⟨rfl,rfl,rfl,rfl,rfl,rfl,rfl,trivial⟩ ?_
      refine qU (i:=73) (k:=11) (t:=52) (t':=52) (z:=4) (n:=3) (l:=([Fr4.of (R.zf t i),Fr4.of ((R.zb t i)),Fr4.of ((R.zm t i))]).flatMap (Fr4.tr false)) rfl rfl rfl rfl (.one .sl) (by rfl) (by rfl) ?_
      refine aS 21 rfl (vP hm1 hm2 hm3) Hr ⟨a1 rfl,rfl⟩ (qF (.of (R.zn t i))) ?_;refine dst 23 ?_;refine aW ?_
      exact⟨(),trivial,aP h0 [3,0,1,2,4,5,6,7,8,9,10] ⟨oe rfl rfl,aB rfl,aB rfl,aB rfl,oe rfl rfl,oe rfl rfl,oe rfl rfl,oe rfl rfl,aB rfl,oe rfl rfl,oe rfl rfl,rfl⟩⟩
     refine cQ 10 22 ?_
     refine aS 14 rfl (oX (Qn.of (L:=4) hsb) (Qn.of (L:=300) hse) (hsb.mono (by omega)) (hse.mono (by omega))) wZ ⟨aC rfl,aC rfl,rfl⟩ (qF (.of (R.zb t i))) ?_
     refine aS 19 rfl (oX (Qn.of (L:=4) hsm) (Qn.of (L:=300) hsy) (hsm.mono (by omega)) (hsy.mono (by omega))) wZ ⟨aC rfl,aC rfl,rfl⟩ (qF (.of (R.zm t i))) ?_
     refine iG (key:=11) 20 (by kernel_rfl) rfl rfl aF rfl ⟨rfl,rfl,rfl,rfl,rfl,rfl,rfl,trivial⟩ ?_
     refine qU (i:=73) (k:=11) (t:=52) (t':=52) (z:=4) (n:=3) (l:=([Fr4.of (R.zf t i),Fr4.of ((R.zb t i)),Fr4.of ((R.zm t i))]).flatMap (Fr4.tr false)) rfl rfl rfl rfl (.one .sl) (by rfl) (by rfl) ?_
     refine aS 21 rfl (vP hm1 hm2 hm3) Hr ⟨a1 rfl,rfl⟩ (qF (.of (R.zn t i))) ?_;refine dst 23 ?_;refine aW ?_
     exact⟨(),trivial,aP h0 [3,0,1,2,4,5,6,7,8,9,10] ⟨oe rfl rfl,aB rfl,aB rfl,aB rfl,oe rfl rfl,oe rfl rfl,oe rfl rfl,oe rfl rfl,aB rfl,oe rfl rfl,oe rfl rfl,rfl⟩⟩
    refine cQ 10 22 ?_
    refine aS 1 rfl (Fd (v:=(⟨(aD (R.vl t) i).1,(aD (R.vl t) i).2,(R.zl t i),(R.zu t i),(R.zx t i),(0:Rat)⟩:Vn)) (by exact hsl.mono (by omega)) (by exact hsu.mono (by omega)) (by exact hsx.mono (by omega))) Xe ⟨aC rfl,rfl⟩ (qF (.of (R.zf t i))) ?_
    refine aS 14 rfl (oX (Qn.of (L:=4) hsb) (Qn.of (L:=300) hse) (hsb.mono (by omega)) (hse.mono (by omega))) wZ ⟨aC rfl,aC rfl,rfl⟩ (qF (.of (R.zb t i))) ?_
    refine aS 19 rfl (oX (Qn.of (L:=4) hsm) (Qn.of (L:=300) hsy) (hsm.mono (by omega)) (hsy.mono (by omega))) wZ ⟨aC rfl,aC rfl,rfl⟩ (qF (.of (R.zm t i))) ?_
    refine iG (key:=11) 20 (by kernel_rfl) rfl rfl aF rfl ⟨rfl,rfl,rfl,rfl,rfl,rfl,rfl,trivial⟩ ?_
    refine qU (i:=73) (k:=11) (t:=52) (t':=52) (z:=4) (n:=3) (l:=([Fr4.of (R.zf t i),Fr4.of ((R.zb t i)),Fr4.of ((R.zm t i))]).flatMap (Fr4.tr false)) rfl rfl rfl rfl (.one .sl) (by rfl) (by rfl) ?_
    refine aS 21 rfl (vP hm1 hm2 hm3) Hr ⟨a1 rfl,rfl⟩ (qF (.of (R.zn t i))) ?_;refine dst 23 ?_;refine aW ?_
    exact⟨(),trivial,aP h0 [3,0,1,2,4,5,6,7,8,9,10] ⟨oe rfl rfl,aB rfl,aB rfl,aB rfl,oe rfl rfl,oe rfl rfl,oe rfl rfl,oe rfl rfl,aB rfl,oe rfl rfl,oe rfl rfl,rfl⟩⟩
   refine sq (sq (rl (ld ?_)));refine ca (Bb (Qn.of (p:=(R.zn t i)) (L:=2100) hsn)) Xa ⟨aC rfl,rfl⟩ (.one (tv (.int .i64 (R.zn t i).num.sign))) ?_
   refine o1 ?_;refine nl ?_;refine bF rfl (fun h4=>?_) (fun h4=>?_)
   ·refine ex ?_;have hfw:(R.fw t (i+1))=(R.fw t i):=WR hi9 fun h9=>absurd ((iT (R.zn t i)).2 h9) (by omega)
    refine rl (o1 ?_);refine o1 ?_;refine bB 40 (i+1) ?_
    refine o1 ?_;refine nl ?_
    exact⟨i+1,by omega,by omega,aP h0 [1,2,3,0,4,5,6,7,8] ⟨aB rfl,aB (by have h9:(some ⟨87,18,((R.vns (R.fw t i) (R.ex (R.run t) t) (fun _ _=>(0:Rat)) (R.vl t)).flatMap (cA false)).map .t⟩:Option Ob)=some ⟨87,18,((R.vns (R.fw t (i+1)) (R.ex (R.run t) t) (fun _ _=>(0:Rat)) (R.vl t)).flatMap (cA false)).map .t⟩:=(by rw[hfw]);exact h9),aB (by have h9:(some ⟨109,7,((R.fw t i).flatMap (dK false)).map .t⟩:Option Ob)=some ⟨109,7,((R.fw t (i+1)).flatMap (dK false)).map .t⟩:=(by rw[hfw]);exact h9),oe rfl (by have h9:(some ⟨31,0,[.sl 1 0 t,.sl 2 0 (R.vl t).length,.sl 3 0 (R.fw t i).length]⟩:Option Ob)=some ⟨31,0,[.sl 1 0 t,.sl 2 0 (R.vl t).length,.sl 3 0 (R.fw t (i+1)).length]⟩:=(by rw[hfw]);exact h9),aB rfl,oe rfl rfl,aB rfl,oe rfl (by have h9:(some ⟨106,0,((Fr4.of (R.zy t i)).tr false).map .t++([.sl 8 0 (R.by9 (R.fw t i) t).length]:List AV)⟩:Option Ob)=some ⟨106,0,((Fr4.of (R.zy t (i+1))).tr false).map .t++([.sl 8 0 (R.by9 (R.fw t (i+1)) t).length]:List AV)⟩:=(by rw[show R.zy t (i+1)=R.zy t i by unfold Rg.zy;rw[hfw],hfw]);exact h9),aB (by have h9:(some ⟨52,4,((R.by9 (R.fw t i) t).flatMap qt).map .t⟩:Option Ob)=some ⟨52,4,((R.by9 (R.fw t (i+1)) t).flatMap qt).map .t⟩:=(by rw[hfw]);exact h9),rfl⟩⟩
   refine sk (sq (rl (o1 ?_)));refine ld ?_;refine ld ?_
   refine ca (vL (Qn.of (L:=300) hsu) (Qn.of (L:=2100) hsn) (hsu.mono (by omega)) (hsn.mono (by omega))) Hj ⟨aC rfl,aC rfl,rfl⟩ (qF (.of ((R.zu t i)+(R.zn t i)))) ?_
   refine o1 ?_;refine st ?_;refine nl (sq (rl (o1 ?_)));refine ld ?_;refine o1 ?_;refine ld ?_;refine o1 ?_
   refine tU (gZ (xs:=(R.vns (R.fw t i) (R.ex (R.run t) t) (fun _ _=>(0:Rat)) (R.vl t))) (k:=i) (x:=(⟨(aD (R.vl t) i).1,(aD (R.vl t) i).2,(R.zl t i),(R.zu t i),(R.zx t i),(0:Rat)⟩:Vn)) (f:=(cA false)) (z:=18) (o:=0) (x':=(⟨(aD (R.vl t) i).1,(aD (R.vl t) i).2,(R.zl t i),((R.zu t i)+(R.zn t i)),(R.zx t i),(0:Rat)⟩:Vn)) (us:=(cA false) ⟨(aD (R.vl t) i).1,(aD (R.vl t) i).2,(R.zl t i),((R.zu t i)+(R.zn t i)),(R.zx t i),(0:Rat)⟩) (cK false) (hge) (bM rfl) rfl) (jW (xs:=(R.vns (R.fw t i) (R.ex (R.run t) t) (fun _ _=>(0:Rat)) (R.vl t))) (k:=i) (f:=(cA false)) (z:=18) (o:=0) (us:=(cA false) ⟨(aD (R.vl t) i).1,(aD (R.vl t) i).2,(R.zl t i),((R.zu t i)+(R.zn t i)),(R.zx t i),(0:Rat)⟩) (cK false) (by omega) (bM rfl)) ?_
   refine nl (sq ?_);refine cI [0,4,5,6,7,8,9,10] [13] ?_
   refine dv 0 ?_;refine aK 1 ?_;refine dv 2 ?_;refine aK 3 ?_;refine dv 4 ?_;refine aK 5 ?_;refine dv 6 ?_;refine aK 7 ?_;refine dv 8 ?_
   refine sP 9 (fU (f:=qt) (z:=4) (o:=0) (us:=qt (R.ze t i)) mF ((Ot hp2)) (bM rfl) rfl) ?_
   refine aK 10 ?_
   refine aS 11 rfl (vL (Qn.of (L:=300) hse) (Qn.of (L:=2100) hsn) (hse.mono (by omega)) (hsn.mono (by omega))) Hj ⟨aC rfl,aC rfl,rfl⟩ (qF (.of ((R.ze t i)+(R.zn t i)))) ?_
   refine dv 12 ?_
   refine uP 13 (gZ (xs:=(R.by9 (R.fw t i) t)) (k:=(aD (R.vl t) i).2) (x:=((R.ze t i):Rat)) (f:=qt) (z:=4) (o:=0) (x':=(((R.ze t i)+(R.zn t i)):Rat)) (us:=qt ((R.ze t i)+(R.zn t i))) mF ((Ot hp2)) (bM rfl) rfl) (jW (xs:=(R.by9 (R.fw t i) t)) (k:=(aD (R.vl t) i).2) (f:=qt) (z:=4) (o:=0) (us:=qt ((R.ze t i)+(R.zn t i))) mF (by omega) (bM rfl)) ?_
   refine aW ?_;refine sq (rl (o1 ?_));refine ld ?_;refine ld ?_
   refine ca (vL (Qn.of (L:=300) hsy) (Qn.of (L:=2100) hsn) (hsy.mono (by omega)) (hsn.mono (by omega))) Hj ⟨aC rfl,aC rfl,rfl⟩ (qF (.of ((R.zy t i)+(R.zn t i)))) ?_
   refine o1 ?_;refine st ?_;refine nl (rl (o1 ?_));refine ld ?_;refine o1 ?_;refine ld ?_;refine o1 ?_;refine ld ?_;refine o1 ?_;refine ld ?_;refine o1 ?_
   refine bs 11 ?_
   refine iA (j:=12) (n:=(R.fw t i).length) (l:=((R.fw t i).flatMap (dK false)).map .t) aF rfl rfl rfl rfl (.sl rfl (by rw[dB,bE (dA false)])) (.sl rfl rfl rfl) rfl rfl rfl (by omega) (by omega) ?_
   refine o1 ?_;refine st ?_;refine nl ?_;have hpos:0<R.n3 (R.fw t i) t (aD (R.vl t) i):=(iT (R.zn t i)).1 (by omega)
   obtain⟨hmy,hfw⟩:=RY hi9 (hmm.symm.trans h3) hpos
   have hpos2:0<(R.zn t i):=hpos
   have hus:(R.fw t (i+1))=Rg.us (R.fw t i) (aD (R.vl t) i).1 (aD (R.vl t) i).2 t (R.zn t i):=hfw.trans (kP hpos).symm
   have hfy:(R.zy t i)+(R.zn t i)=dZ (R.fw t (i+1)) t:=by rw[hus,Mx hpos2]
   have hby2:(R.by9 (R.fw t i) t).set (aD (R.vl t) i).2 ((R.ze t i)+(R.zn t i))=(R.by9 (R.fw t (i+1)) t):=by rw[hus];exact Yz hp2 hpos2
   have hset:(R.vns (R.fw t i) (R.ex (R.run t) t) (fun _ _=>(0:Rat)) (R.vl t)).set i (⟨(aD (R.vl t) i).1,(aD (R.vl t) i).2,(R.zl t i),((R.zu t i)+(R.zn t i)),(R.zx t i),(0:Rat)⟩:Vn)=(R.vns (R.fw t (i+1)) (R.ex (R.run t) t) (fun _ _=>(0:Rat)) (R.vl t)):=by
    have h1:=Dr (R:=R) (U:=(R.fw t i)) (U':=(R.fw t (i+1))) (x:=(R.ex (R.run t) t)) (x':=(R.ex (R.run t) t)) (c:=(fun _ _=>(0:Rat))) (c':=(fun _ _=>(0:Rat))) (gV t) hi9 fun q _ hq=>by
     unfold Rg.vn;rw[hus,zE fun h9=>hq (Prod.ext (by omega) (by omega))]
    rw[←h1];unfold Rg.vn;rw[hus,AN hpos2]
   refine rl (o1 ?_);refine o1 ?_;refine bB 40 (i+1) ?_
   refine o1 ?_;refine nl ?_
   exact⟨i+1,by omega,by omega,aP h0 [1,2,12,0,4,5,6,7,8] ⟨aB rfl,aB (congrArg (fun l:List Vn=>some (⟨87,18,(l.flatMap (cA false)).map .t⟩:Ob)) hset),aB (congrArg (fun l:List AV=>some (⟨109,7,l⟩:Ob)) ((MN (R.fw t i) ⟨(aD (R.vl t) i).1,(aD (R.vl t) i).2,(t:Nat),(R.zn t i)⟩).trans (by rw[hfw];rfl))),oe rfl (by have h9:(some ⟨31,0,[.sl 1 0 t,.sl 2 0 (R.vl t).length,.sl 12 0 ((R.fw t i).length+1)]⟩:Option Ob)=some ⟨31,0,[.sl 1 0 t,.sl 2 0 (R.vl t).length,.sl 12 0 (R.fw t (i+1)).length]⟩:=(by rw[hfw,fE];rfl);exact h9),aB rfl,oe rfl rfl,aB rfl,oe rfl (by have h9:(some ⟨106,0,((Fr4.of ((R.zy t i)+(R.zn t i))).tr false).map .t++([.sl 8 0 (R.by9 (R.fw t i) t).length]:List AV)⟩:Option Ob)=some ⟨106,0,((Fr4.of (R.zy t (i+1))).tr false).map .t++([.sl 8 0 (R.by9 (R.fw t (i+1)) t).length]:List AV)⟩:=(by rw[hfy,jE,jE]);exact h9),aB (congrArg (fun l:List Rat=>some (⟨52,4,(l.flatMap qt).map .t⟩:Ob)) hby2),rfl⟩⟩
  refine o1 ?_;refine nl (iC rfl (ex ?_));have hfw:(R.fw t (i+1))=(R.fw t i):=AJ hi9 (hmm.symm.trans h3)
  refine rl (o1 ?_);refine o1 ?_;refine bB 40 (i+1) ?_
  refine o1 ?_;refine nl ?_
  exact⟨i+1,by omega,by omega,aP h0 [0,1,2,3,4,5,6,7,8] ⟨aB rfl,aB (by have h9:(some ⟨87,18,((R.vns (R.fw t i) (R.ex (R.run t) t) (fun _ _=>(0:Rat)) (R.vl t)).flatMap (cA false)).map .t⟩:Option Ob)=some ⟨87,18,((R.vns (R.fw t (i+1)) (R.ex (R.run t) t) (fun _ _=>(0:Rat)) (R.vl t)).flatMap (cA false)).map .t⟩:=(by rw[hfw]);exact h9),aB (by have h9:(some ⟨109,7,((R.fw t i).flatMap (dK false)).map .t⟩:Option Ob)=some ⟨109,7,((R.fw t (i+1)).flatMap (dK false)).map .t⟩:=(by rw[hfw]);exact h9),oe rfl (by have h9:(some ⟨31,0,[.sl 0 0 t,.sl 1 0 (R.vl t).length,.sl 2 0 (R.fw t i).length]⟩:Option Ob)=some ⟨31,0,[.sl 0 0 t,.sl 1 0 (R.vl t).length,.sl 2 0 (R.fw t (i+1)).length]⟩:=(by rw[hfw]);exact h9),aB rfl,oe rfl rfl,aB rfl,oe rfl (by have h9:(some ⟨106,0,((Fr4.of (R.zy t i)).tr false).map .t++([.sl 8 0 (R.by9 (R.fw t i) t).length]:List AV)⟩:Option Ob)=some ⟨106,0,((Fr4.of (R.zy t (i+1))).tr false).map .t++([.sl 8 0 (R.by9 (R.fw t (i+1)) t).length]:List AV)⟩:=(by rw[show R.zy t (i+1)=R.zy t i by unfold Rg.zy;rw[hfw],hfw]);exact h9),aB (by have h9:(some ⟨52,4,((R.by9 (R.fw t i) t).flatMap qt).map .t⟩:Option Ob)=some ⟨52,4,((R.by9 (R.fw t (i+1)) t).flatMap qt).map .t⟩:=(by rw[hfw]);exact h9),rfl⟩⟩
 refine ex (sq ?_);have hie:i=(R.vl t).length:=by omega
 have hue:(R.fw t i)=(R.run (t+1)):=by rw[hie];exact RU
 have hrr:(R.rls (R.run t) t).length=t:=lN
 refine rl (o1 ?_);refine ld ?_;refine ld ?_
 refine WL.sub (Ub (i:=120) (k:=8) (t:=52) (z:=4) (n:=(R.by9 (R.fw t i) t).length) (l:=((R.by9 (R.fw t i) t).map Fr4.of).flatMap (Fr4.tr false)) rfl rfl (congrArg (fun l:List Tr=>some (⟨52,4,l.map .t⟩:Ob)) (Oo (R.by9 (R.fw t i) t))) (by rw[bE (f:=Fr4.tr false) (z:=4) (fun _=>rfl),dB]) (.agg (.cons .id (.cons .id (.cons .id (.cons .id (.cons .sl .nil))))))) ?_
 refine bs 9 ?_
 refine iA (j:=10) (n:=t) (l:=((R.rls (R.run t) t).flatMap rlt).map .t) aF rfl rfl rfl rfl (.sl rfl (by rw[dB,bE eO,hrr])) (.sl rfl rfl rfl) rfl rfl rfl (by omega) (by omega) ?_
 refine o1 ?_;refine st ?_;refine nl (sq (sq (rl (o1 ?_))));refine nl (bl ?_)
 have hrow:((R.rls (R.run t) t).flatMap rlt).map AV.t++(rlt (R.rl (R.fw t i) t)).map .t=((R.rls (R.run (t+1)) (t+1)).flatMap rlt).map .t:=by rw[Ty,hue,MY]
 have hrow2:(rlt (R.rl (R.fw t i) t)).map AV.t=((Fr4.of (R.zy t i)).tr false).map .t++[.t (.s false 52 4 (R.by9 (R.fw t i) t).length (((R.by9 (R.fw t i) t).map Fr4.of).flatMap (Fr4.tr false)))]:=by
  have h9:sQ false ((R.by9 (R.fw t i) t).map Fr4.of)=.s false 52 4 (R.by9 (R.fw t i) t).length (((R.by9 (R.fw t i) t).map Fr4.of).flatMap (Fr4.tr false)):=by rw[sQ,dB]
  rw[←h9];rfl
 rw[hrow2]at hrow
 refine lp (γ:=Nat) (fun s=>bP [(1,iN R.f),(2,iN t),(4,pN 3),(7,pN 4),(8,pN 5),(9,pN 6),(15,iN s)]) (fun s=>[(⟨106,5,((R.rls (R.run (t+1)) (t+1)).flatMap rlt).map .t⟩:Ob),⟨87,18,((R.vns (R.run (t+1)) (R.ex (R.run t) t) (fun _ _=>(0:Rat)) (R.vlk t s)).flatMap (cA false)).map .t⟩,⟨109,7,((R.run (t+1)).flatMap (dK false)).map .t⟩,⟨31,0,[.sl 0 0 (t+1),.sl 1 0 (R.vns (R.run (t+1)) (R.ex (R.run t) t) (fun _ _=>(0:Rat)) (R.vlk t s)).length,.sl 2 0 (R.run (t+1)).length]⟩,⟨83,0,(R.yrq t).map .t⟩,⟨31,0,[tv (.slice none 0 0),tv (.slice none 0 0),tv (.slice none 0 0)]⟩,⟨52,0,((Fr4.of (0:Rat)).tr false).map .t⟩].map some) (fun s=>s≤R.E) (fun s=>R.E-s) 0 (Nat.zero_le _) (aP h0 [10,1,2,3,4,5,6] ⟨aB (congrArg (fun l:List AV=>some (⟨106,5,l⟩:Ob)) hrow),aB (by have h9:(some ⟨87,18,((R.vns (R.fw t i) (R.ex (R.run t) t) (fun _ _=>(0:Rat)) (R.vl t)).flatMap (cA false)).map .t⟩:Option Ob)=some ⟨87,18,((R.vns (R.run (t+1)) (R.ex (R.run t) t) (fun _ _=>(0:Rat)) (R.vlk t 0)).flatMap (cA false)).map .t⟩:=(by rw[hue,Db]);exact h9),aB (by have h9:(some ⟨109,7,((R.fw t i).flatMap (dK false)).map .t⟩:Option Ob)=some ⟨109,7,((R.run (t+1)).flatMap (dK false)).map .t⟩:=(by rw[hue]);exact h9),oe rfl (by have h9:(some ⟨31,0,[.sl 10 0 (t+1),.sl 1 0 (R.vl t).length,.sl 2 0 (R.fw t i).length]⟩:Option Ob)=some ⟨31,0,[.sl 10 0 (t+1),.sl 1 0 (R.vns (R.run (t+1)) (R.ex (R.run t) t) (fun _ _=>(0:Rat)) (R.vlk t 0)).length,.sl 2 0 (R.run (t+1)).length]⟩:=(by rw[hue,Db,dQ]);exact h9),aB rfl,oe rfl rfl,aB rfl,rfl⟩) ?_
 rintro e he;refine sq (sq (rl (o1 ?_)));refine o1 ?_;refine ld ?_;refine o1 ?_;refine o1 ?_;refine nl ?_;refine bF rfl (fun h5=>?_) (fun h5=>?_)
 ·refine sk (sq (bl ?_))
  refine md (γ:=Unit) (fun _=>bP [(1,iN R.f),(2,iN t),(4,pN 0),(7,pN 4),(8,pN 5),(9,pN 6),(15,iN e),(145,.one (tv (.bool (R.isV t e))))]) (fun _=>([⟨31,0,[.sl 1 0 ((t+1)),.sl 2 0 ((R.vns (R.run (t+1)) (R.ex (R.run t) t) (fun _ _=>(0:Rat)) (R.vlk t e)).length),.sl 3 0 ((R.run (t+1)).length)]⟩,⟨106,5,((R.rls (R.run (t+1)) (t+1)).flatMap rlt).map .t⟩,⟨87,18,((R.vns (R.run (t+1)) (R.ex (R.run t) t) (fun _ _=>(0:Rat)) (R.vlk t e)).flatMap (cA false)).map .t⟩,⟨109,7,((R.run (t+1)).flatMap (dK false)).map .t⟩,⟨83,0,[.t (gH (R.ms t)),.t (sQ false ((R.bs t).map Fr4.of)),tv (.bool (aL (R.lim t).num)),.t (sU false (dg 4294967296 (R.lim t).num.natAbs)),tv (.bool false),.t (sU false (dg 4294967296 (R.lim t).den))]⟩,⟨31,0,[tv (.slice none 0 0),tv (.slice none 0 0),tv (.slice none 0 0)]⟩,⟨52,0,((Fr4.of (0:Rat)).tr false).map .t⟩]:List Ob).map some) (fun _=>True) ?_ fun _ _=>?_
  ·have he9:e<R.E:=by omega
   have hsb:=hOk.base t e ht he9
   have hvk:=Ho (R:=R) hE (t:=t) (e:=e) he
   have hvk9:(R.vns (R.run (t+1)) (R.ex (R.run t) t) (fun _ _=>(0:Rat)) (R.vlk t e)).length=(R.vlk t e).length:=dQ
   refine rl (o1 ?_);refine ld ?_;refine o1 ?_;refine o1 ?_;refine dV ([.v (.bool (nM (R.ms t) (e)))]) (wV (R.ms t) (k:=e) (by omega)) ?_
   refine WL.splitb (t:=135) rfl (fun h6=>?_) (fun h6=>?_)
   ·refine o1 ?_;refine o1 ?_;(iterate 7 refine cY ?_);refine o1 ?_;refine nl ?_
    exact⟨(),trivial,iU h0 [3,0,1,2,4,5,6] _ _ (by decide) ⟨rfl,rfl,rfl,rfl,rfl,rfl,rfl,uA (by unfold Rg.isV;rw[←nA he9];simp only[decide_eq_true h5,h6,Bool.not_true,Bool.not_false,Bool.or_true,Bool.true_or,Bool.false_or,Bool.or_false,Bool.false_eq_true,if_true,if_false,ite_true,ite_false,Bool.and_true,Bool.true_and,Bool.false_and,Bool.and_false,Bool.not_not] <;> first | rfl | (simp;done) | (rw[decide_eq_decide];exact(pZ _).symm)),trivial⟩ ⟨oe rfl rfl,aB rfl,aB rfl,aB rfl,oe rfl rfl,oe rfl rfl,oe rfl rfl,rfl⟩⟩
   (iterate 3 refine o1 ?_);refine ld ?_;refine o1 ?_;refine o1 ?_
   refine dV ((Fr4.of (R.base t e)).tr false) ((by rw[←mZ he9,←mE (by rw[iB];exact he9)];exact fL ((R.bs t).map Fr4.of) (k:=e) (by omega))) ?_
   refine ca (Bb (Qn.of (p:=(R.base t e)) (L:=4) hsb)) Xa ⟨aC rfl,rfl⟩ (.one (tv (.int .i64 (R.base t e).num.sign))) ?_;refine o1 ?_;refine o1 ?_;refine nl ?_
   exact⟨(),trivial,iU h0 [3,0,1,2,4,5,6] _ _ (by decide) ⟨rfl,rfl,rfl,rfl,rfl,rfl,rfl,uA (by unfold Rg.isV;rw[←nA he9];simp only[decide_eq_true h5,h6,Bool.not_true,Bool.not_false,Bool.or_true,Bool.true_or,Bool.false_or,Bool.or_false,Bool.false_eq_true,if_true,if_false,ite_true,ite_false,Bool.and_true,Bool.true_and,Bool.false_and,Bool.and_false,Bool.not_not] <;> first | rfl | (simp;done) | (rw[decide_eq_decide];exact(pZ _).symm)),trivial⟩ ⟨oe rfl rfl,aB rfl,aB rfl,aB rfl,oe rfl rfl,oe rfl rfl,oe rfl rfl,rfl⟩⟩
  refine qR rfl (fun h7=>?_) (fun h7=>?_)
  ·have he9:e<R.E:=by omega
   have hsb:=hOk.base t e ht he9
   have hvk:=Ho (R:=R) hE (t:=t) (e:=e) he
   have hvk9:(R.vns (R.run (t+1)) (R.ex (R.run t) t) (fun _ _=>(0:Rat)) (R.vlk t e)).length=(R.vlk t e).length:=dQ
   have hv:R.isV t e=true:=h7
   refine cI [0,4,5,6] [17] ?_
   refine dv 0 ?_;refine aK 1 ?_;refine dv 2 ?_;refine dv 3 ?_;refine dv 4 ?_;refine aK 5 ?_;refine dv 6 ?_;refine dv 7 ?_
   refine dD 8 ((Fr4.of (R.base t e)).tr false) ((by rw[←mZ he9,←mE (by rw[iB];exact he9)];exact fL ((R.bs t).map Fr4.of) (k:=e) (by omega))) ?_
   refine aK 10 ?_;refine aK 11 ?_;refine aK 12 ?_;refine aS 9 rfl (AE (Qn.of (p:=(R.base t e)) (L:=4) hsb)) RM ⟨aC rfl,rfl⟩ (qF (.of (-(R.base t e)))) ?_;refine df 13 ?_
   refine iG (key:=7) 14 (by kernel_rfl) rfl rfl aF rfl ⟨rfl,rfl,rfl,rfl,trivial⟩ ?_
   refine kC (j:=8) (n:=(R.vns (R.run (t+1)) (R.ex (R.run t) t) (fun _ _=>(0:Rat)) (R.vlk t e)).length) (l:=((R.vns (R.run (t+1)) (R.ex (R.run t) t) (fun _ _=>(0:Rat)) (R.vlk t e)).flatMap (cA false)).map .t) 15 rfl aF rfl rfl rfl (.sl rfl (by rw[dB,bE (cK false)])) (.sl rfl rfl rfl) rfl rfl (by omega) (by omega) rfl ⟨rfl,rfl,rfl,rfl,trivial⟩ rfl (by kernel_rfl) rfl ?_
   refine dv 16 ?_;refine dst 17 ?_;refine aW ?_;refine rl (o1 ?_);refine o1 ?_;refine bB 130 (e+1) ?_
   refine o1 ?_;refine nl ?_
   have hfin:(R.vns (R.run (t+1)) (R.ex (R.run t) t) (fun _ _=>(0:Rat)) (R.vlk t e))++[⟨((t:Nat):Int),((e:Nat):Int),-(R.base t e),(0:Rat),(0:Rat),(0:Rat)⟩]=(R.vns (R.run (t+1)) (R.ex (R.run t) t) (fun _ _=>(0:Rat)) (R.vlk t (e+1))):=by
    rw[Td hv,←Oq];unfold Rg.vn;rw[Gx (bC _),Zb (bC _),(sD hv).1]
   exact⟨e+1,by omega,by omega,aP h0 [1,8,3,0,4,5,6] ⟨aB rfl,aB (congrArg (fun l:List AV=>some (⟨87,18,l⟩:Ob)) ((MU (R.vns (R.run (t+1)) (R.ex (R.run t) t) (fun _ _=>(0:Rat)) (R.vlk t e)) ⟨((t:Nat):Int),((e:Nat):Int),-(R.base t e),(0:Rat),(0:Rat),(0:Rat)⟩).trans (by rw[hfin]))),aB rfl,oe rfl (by have h9:(some ⟨31,0,[.sl 1 0 (t+1),.sl 8 0 ((R.vns (R.run (t+1)) (R.ex (R.run t) t) (fun _ _=>(0:Rat)) (R.vlk t e)).length+1),.sl 3 0 (R.run (t+1)).length]⟩:Option Ob)=some ⟨31,0,[.sl 1 0 (t+1),.sl 8 0 (R.vns (R.run (t+1)) (R.ex (R.run t) t) (fun _ _=>(0:Rat)) (R.vlk t (e+1))).length,.sl 3 0 (R.run (t+1)).length]⟩:=(by rw[←hfin,fE];rfl);exact h9),aB rfl,oe rfl rfl,aB rfl,rfl⟩⟩
  refine sk (rl (o1 ?_));refine o1 ?_;refine bB 130 (e+1) ?_
  refine o1 ?_;refine nl ?_;have hv1:R.vlk t (e+1)=R.vlk t e:=Zc h7
  exact⟨e+1,by omega,by omega,aP h0 [1,2,3,0,4,5,6] ⟨aB rfl,aB (by have h9:(some ⟨87,18,((R.vns (R.run (t+1)) (R.ex (R.run t) t) (fun _ _=>(0:Rat)) (R.vlk t e)).flatMap (cA false)).map .t⟩:Option Ob)=some ⟨87,18,((R.vns (R.run (t+1)) (R.ex (R.run t) t) (fun _ _=>(0:Rat)) (R.vlk t (e+1))).flatMap (cA false)).map .t⟩:=(by rw[hv1]);exact h9),aB rfl,oe rfl (by have h9:(some ⟨31,0,[.sl 1 0 (t+1),.sl 2 0 (R.vns (R.run (t+1)) (R.ex (R.run t) t) (fun _ _=>(0:Rat)) (R.vlk t e)).length,.sl 3 0 (R.run (t+1)).length]⟩:Option Ob)=some ⟨31,0,[.sl 1 0 (t+1),.sl 2 0 (R.vns (R.run (t+1)) (R.ex (R.run t) t) (fun _ _=>(0:Rat)) (R.vlk t (e+1))).length,.sl 3 0 (R.run (t+1)).length]⟩:=(by rw[hv1]);exact h9),aB rfl,oe rfl rfl,aB rfl,rfl⟩⟩
 refine ex (sq (sq (rl (o1 ?_))));refine nl (bl ?_);have hee:e=R.E:=by omega
 subst hee
 have hx0:(R.vns (R.run (t+1)) (R.ex (R.run t) t) (fun _ _=>(0:Rat)) (R.vlk t R.E))=(R.vns (R.run (t+1)) (R.xk t 0) (fun _ _=>(0:Rat)) (R.vl (t+1))):=by rw[Tc,MV];exact congrArg (fun x=>R.vns (R.run (t+1)) x (fun _ _=>(0:Rat)) (R.vl (t+1))) Mz.symm
 refine lp (γ:=Nat) (fun s=>bP [(1,iN R.f),(2,iN t),(4,pN 3),(8,pN 4),(16,iN s)]) (fun s=>[(⟨106,5,((R.rls (R.run (t+1)) (t+1)).flatMap rlt).map .t⟩:Ob),⟨87,18,((R.vns (R.run (t+1)) (R.xk t s) (fun _ _=>(0:Rat)) (R.vl (t+1))).flatMap (cA false)).map .t⟩,⟨109,7,((R.run (t+1)).flatMap (dK false)).map .t⟩,⟨31,0,[.sl 0 0 (t+1),.sl 1 0 (R.vl (t+1)).length,.sl 2 0 (R.run (t+1)).length]⟩,⟨31,0,[tv (.slice none 0 0),tv (.slice none 0 0),tv (.slice none 0 0)]⟩].map some) (fun s=>s≤(R.vl (t+1)).length) (fun s=>(R.vl (t+1)).length-s) 0 (Nat.zero_le _) (aP h0 [0,1,2,3,5] ⟨aB rfl,aB (by have h9:(some ⟨87,18,((R.vns (R.run (t+1)) (R.ex (R.run t) t) (fun _ _=>(0:Rat)) (R.vlk t R.E)).flatMap (cA false)).map .t⟩:Option Ob)=some ⟨87,18,((R.vns (R.run (t+1)) (R.xk t 0) (fun _ _=>(0:Rat)) (R.vl (t+1))).flatMap (cA false)).map .t⟩:=(by rw[hx0]);exact h9),aB rfl,oe rfl (by have h9:(some ⟨31,0,[.sl 0 0 (t+1),.sl 1 0 (R.vns (R.run (t+1)) (R.ex (R.run t) t) (fun _ _=>(0:Rat)) (R.vlk t R.E)).length,.sl 2 0 (R.run (t+1)).length]⟩:Option Ob)=some ⟨31,0,[.sl 0 0 (t+1),.sl 1 0 (R.vl (t+1)).length,.sl 2 0 (R.run (t+1)).length]⟩:=(by rw[hx0,dQ]);exact h9),oe rfl rfl,rfl⟩) ?_
 rintro j hj;refine sq (sq (rl (o1 ?_)));refine o1 ?_;refine ld ?_;refine o1 ?_;refine o1 ?_;refine nl ?_;refine bF rfl (fun h8=>?_) (fun h8=>?_)
 ·refine sk (sq (bl (sq ?_)));have hj9:j<(R.vl (t+1)).length:=by omega
  obtain⟨hq1,hq2,hq3⟩:=fK.1 (Dq (l:=(R.vl (t+1))) hj9)
  have hIv:R.Iv N (R.run (t+1)):=hOk.run (by omega)
  have hvl9:(R.vns (R.run (t+1)) (R.xk t j) (fun _ _=>(0:Rat)) (R.vl (t+1))).length=(R.vl (t+1)).length:=dQ
  have hge:(R.vns (R.run (t+1)) (R.xk t j) (fun _ _=>(0:Rat)) (R.vl (t+1)))[j]? =some (⟨(aD (R.vl (t+1)) j).1,(aD (R.vl (t+1)) j).2,(R.los (aD (R.vl (t+1)) j).1 (aD (R.vl (t+1)) j).2),(cU (R.run (t+1)) (aD (R.vl (t+1)) j).1 (aD (R.vl (t+1)) j).2),(R.xk t j (aD (R.vl (t+1)) j).1 (aD (R.vl (t+1)) j).2),(0:Rat)⟩:Vn):=by
   unfold Rg.vns;rw[List.getElem?_map,nS hj9];rfl
  have hsl:Sz 300 (R.los (aD (R.vl (t+1)) j).1 (aD (R.vl (t+1)) j).2):=hOk.sz_los (by omega) hq2
  have hsu:Sz 300 (cU (R.run (t+1)) (aD (R.vl (t+1)) j).1 (aD (R.vl (t+1)) j).2):=hIv.sz_vOf hOk (by omega) hq2
  have hsx:Sz 300 (R.xk t j (aD (R.vl (t+1)) j).1 (aD (R.vl (t+1)) j).2):=by rw[Xc hj9];exact Ar hOk hIv (by omega) hq2
  refine rl (o1 ?_);refine ld ?_;refine o1 ?_;refine o1 ?_
  refine Oc (fU (f:=(cA false)) (z:=18) (o:=0) (us:=(cA false) ⟨(aD (R.vl (t+1)) j).1,(aD (R.vl (t+1)) j).2,(R.los (aD (R.vl (t+1)) j).1 (aD (R.vl (t+1)) j).2),(cU (R.run (t+1)) (aD (R.vl (t+1)) j).1 (aD (R.vl (t+1)) j).2),(R.xk t j (aD (R.vl (t+1)) j).1 (aD (R.vl (t+1)) j).2),(0:Rat)⟩) (cK false) (hge) (bM rfl) rfl) ?_
  refine al 5 ?_;refine st ?_;refine nl (sq (rl (o1 ?_)));refine ld ?_;(iterate 4 refine o1 ?_);refine nl ?_;refine bF rfl (fun h9=>?_) (fun h9=>?_)
  ·refine sq ?_;have hyes:(aD (R.vl (t+1)) j).1+R.f=t:=by
    have h9:(((aD (R.vl (t+1)) j).1:Nat):Int)=((t:Nat):Int)-((R.f:Nat):Int):=h9
    omega
   refine rl (ld ?_)
   refine ca (Fd (v:=(⟨(aD (R.vl (t+1)) j).1,(aD (R.vl (t+1)) j).2,(R.los (aD (R.vl (t+1)) j).1 (aD (R.vl (t+1)) j).2),(cU (R.run (t+1)) (aD (R.vl (t+1)) j).1 (aD (R.vl (t+1)) j).2),(R.xk t j (aD (R.vl (t+1)) j).1 (aD (R.vl (t+1)) j).2),(0:Rat)⟩:Vn)) (by exact hsl.mono (by omega)) (by exact hsu.mono (by omega)) (by exact hsx.mono (by omega))) Xe ⟨aC rfl,rfl⟩ (qF (.of ((R.los (aD (R.vl (t+1)) j).1 (aD (R.vl (t+1)) j).2)-((cU (R.run (t+1)) (aD (R.vl (t+1)) j).1 (aD (R.vl (t+1)) j).2)+(R.xk t j (aD (R.vl (t+1)) j).1 (aD (R.vl (t+1)) j).2))))) ?_
   refine o1 ?_;refine st ?_;refine nl (rl (o1 ?_));refine ld ?_;refine o1 ?_;refine ld ?_;refine o1 ?_
   refine tU (gZ (xs:=(R.vns (R.run (t+1)) (R.xk t j) (fun _ _=>(0:Rat)) (R.vl (t+1)))) (k:=j) (x:=(⟨(aD (R.vl (t+1)) j).1,(aD (R.vl (t+1)) j).2,(R.los (aD (R.vl (t+1)) j).1 (aD (R.vl (t+1)) j).2),(cU (R.run (t+1)) (aD (R.vl (t+1)) j).1 (aD (R.vl (t+1)) j).2),(R.xk t j (aD (R.vl (t+1)) j).1 (aD (R.vl (t+1)) j).2),(0:Rat)⟩:Vn)) (f:=(cA false)) (z:=18) (o:=0) (x':=(⟨(aD (R.vl (t+1)) j).1,(aD (R.vl (t+1)) j).2,(R.los (aD (R.vl (t+1)) j).1 (aD (R.vl (t+1)) j).2),(cU (R.run (t+1)) (aD (R.vl (t+1)) j).1 (aD (R.vl (t+1)) j).2),((R.los (aD (R.vl (t+1)) j).1 (aD (R.vl (t+1)) j).2)-((cU (R.run (t+1)) (aD (R.vl (t+1)) j).1 (aD (R.vl (t+1)) j).2)+(R.xk t j (aD (R.vl (t+1)) j).1 (aD (R.vl (t+1)) j).2))),(0:Rat)⟩:Vn)) (us:=(cA false) ⟨(aD (R.vl (t+1)) j).1,(aD (R.vl (t+1)) j).2,(R.los (aD (R.vl (t+1)) j).1 (aD (R.vl (t+1)) j).2),(cU (R.run (t+1)) (aD (R.vl (t+1)) j).1 (aD (R.vl (t+1)) j).2),((R.los (aD (R.vl (t+1)) j).1 (aD (R.vl (t+1)) j).2)-((cU (R.run (t+1)) (aD (R.vl (t+1)) j).1 (aD (R.vl (t+1)) j).2)+(R.xk t j (aD (R.vl (t+1)) j).1 (aD (R.vl (t+1)) j).2))),(0:Rat)⟩) (cK false) (hge) (bM rfl) rfl) (jW (xs:=(R.vns (R.run (t+1)) (R.xk t j) (fun _ _=>(0:Rat)) (R.vl (t+1)))) (k:=j) (f:=(cA false)) (z:=18) (o:=0) (us:=(cA false) ⟨(aD (R.vl (t+1)) j).1,(aD (R.vl (t+1)) j).2,(R.los (aD (R.vl (t+1)) j).1 (aD (R.vl (t+1)) j).2),(cU (R.run (t+1)) (aD (R.vl (t+1)) j).1 (aD (R.vl (t+1)) j).2),((R.los (aD (R.vl (t+1)) j).1 (aD (R.vl (t+1)) j).2)-((cU (R.run (t+1)) (aD (R.vl (t+1)) j).1 (aD (R.vl (t+1)) j).2)+(R.xk t j (aD (R.vl (t+1)) j).1 (aD (R.vl (t+1)) j).2))),(0:Rat)⟩) (cK false) (by omega) (bM rfl)) ?_
   refine nl (rl (o1 ?_));refine o1 ?_;refine bB 169 (j+1) ?_
   refine o1 ?_;refine nl ?_
   exact⟨j+1,by omega,by omega,aP h0 [0,1,2,3,4] ⟨aB rfl,aB (congrArg (fun l:List Vn=>some (⟨87,18,(l.flatMap (cA false)).map .t⟩:Ob)) (SA hj9 hyes)),aB rfl,oe rfl rfl,oe rfl rfl,rfl⟩⟩
  refine sk (rl (o1 ?_));refine o1 ?_;refine bB 169 (j+1) ?_
  refine o1 ?_;refine nl ?_
  exact⟨j+1,by omega,by omega,aP h0 [0,1,2,3,4] ⟨aB rfl,aB (congrArg (fun l:List Vn=>some (⟨87,18,(l.flatMap (cA false)).map .t⟩:Ob)) (WS hj9 (by have h9:¬((((aD (R.vl (t+1)) j).1:Nat):Int)=((t:Nat):Int)-((R.f:Nat):Int)):=h9;omega)).symm),aB rfl,oe rfl rfl,oe rfl rfl,rfl⟩⟩
 refine ex (sq (rl (ld ?_)));refine st ?_;refine nl (rt ?_);have hje:j=(R.vl (t+1)).length:=by omega
 have hve:(R.vns (R.run (t+1)) (R.xk t j) (fun _ _=>(0:Rat)) (R.vl (t+1)))=(R.vns (R.run (t+1)) (R.ex (R.run (t+1)) (t+1)) (fun _ _=>(0:Rat)) (R.vl (t+1))):=by
  rw[hje];refine List.map_congr_left fun q hq=>?_
  unfold Rg.vn;rw[RZ hq]
 have hR1:(R.rls (R.run (t+1)) (t+1)).length=t+1:=lN
 have hV1:(R.vns (R.run (t+1)) (R.ex (R.run (t+1)) (t+1)) (fun _ _=>(0:Rat)) (R.vl (t+1))).length=(R.vl (t+1)).length:=dQ
 have hV2:(R.vns (R.run (t+1)) (R.xk t j) (fun _ _=>(0:Rat)) (R.vl (t+1))).length=(R.vl (t+1)).length:=dQ
 exact uR <| en (.inl rfl) rfl (bD (.agg (.cons (.sl (trs:=(R.rls (R.run (t+1)) (t+1)).flatMap rlt) rfl rfl (aN _ _ (by rw[bE eO,hR1])) (by rw[bE eO,hR1])) (.cons (.sl (trs:=(R.vns (R.run (t+1)) (R.xk t j) (fun _ _=>(0:Rat)) (R.vl (t+1))).flatMap (cA false)) rfl rfl (aN _ _ (by rw[bE (cK false),hV2])) (by rw[bE (cK false),hV2])) (.cons (.sl (trs:=(R.run (t+1)).flatMap (dK false)) rfl rfl (aN _ _ (by rw[bE (dA false)])) (by rw[bE (dA false)])) .nil))))) (by decide) (fun h=>by cases h) (by rw[hve,lT,lR,lS,hR1,hV1];rfl)
theorem AO {a:Fr4}(ha:a.ok) (h:rM a=true):a=Fr4.of a.q:=(Qn.right (⟨ha,rfl⟩:Qn a a.q) h).symm
theorem FY {fw:Int}{ys:List Yr}(hb:∀y∈ys,(∀a∈y.b,a.ok)∧y.l.ok) (h:dJ fw ys=0):0≤fw∧fw≤40∧ys.length≤40∧∀y∈ys,y.m.length=(aG ys 0).m.length∧y.b.length=(aG ys 0).m.length∧(∀a∈y.b,a=Fr4.of a.q)∧y.l=Fr4.of y.l.q∧0≤y.l.q:=by
 unfold dJ at h
 split at h
 ·cases h
 rename_i h1
 split at h
 ·cases h
 rename_i h2
 simp only[Bool.or_eq_true,decide_eq_true_eq,not_or]at h1
 refine⟨by omega,by omega,by omega,fun y hy=>?_⟩
 have h3:=h1.2.2
 rw[Bool.not_eq_true,List.any_eq_false]at h3
 have h4:=h3 y hy
 simp only[Bool.not_eq_true,Bool.not_eq_false']at h4
 unfold gW at h4
 simp only[Bool.and_eq_true,decide_eq_true_eq,Bool.not_eq_true']at h4
 obtain⟨a1,a2,a3,a4,a5⟩:=h4
 rw[List.any_eq_false]at a3
 exact⟨by omega,by omega,fun a ha=>AO ((hb y hy).1 a ha) (by simpa using a3 a ha),AO (hb y hy).2 a4,by
  rcases Rat.le_total (a:=0) (b:=y.l.q)with h5 | h5
  ·exact h5
  rcases Rat.le_iff_lt_or_eq.1 h5 with h6 | h6
  ·have:=(pZ y.l.q).2 h6
   omega
  rw[h6];exact Rat.le_refl⟩
def qB (k:Nat):List (List (Int×Rat)×Int×Bool):=List.replicate k ([],0,false)
theorem xE {k:Nat}:(qB k).length=k:=List.length_replicate ..
theorem vQ {k:Nat}:(((qB k).map eU).map AV.t).length=k:=by rw[dB,dB,xE]
theorem SF {k:Nat}{a:AV}:(((qB k).map eU).map AV.t++[a])[k]? =some a:=by
 rw[List.getElem?_append_right (by rw[vQ];exact bC k),vQ,Nat.sub_self]
 rfl
theorem NA {k:Nat}{a:AV}:(((qB k).map eU).map AV.t++[a]).set k (.t (eU ([],0,false)))=((qB (k+1)).map eU).map .t:=by
 rw[List.set_append_right _ _ (by rw[vQ];exact bC k),vQ,Nat.sub_self]
 unfold qB
 rw[List.replicate_succ']
 simp
theorem FZ {R:Rg}:eM (R.own (R.run 0) (R.I 0) 0)=.s true 96 1 R.E ((qB R.E).map eU):=by
 have h:R.own (R.run 0) (R.I 0) 0=qB R.E:=by
  have h1:R.own (R.run 0) (R.I 0) 0=(List.range R.E).map fun _=>(([]:List (Int×Rat)),(0:Int),false):=by
   have h0:R.I 0=[]:=by unfold Rg.I;rw[Nat.zero_sub];rfl
   rw[h0]
   rfl
  rw[h1,List.map_const',List.length_range]
  rfl
 rw[h,eM,xE]
theorem Xf {fw:Int}{ys:List Yr}(hb:∀y∈ys,(∀a∈y.b,a.ok)∧y.l.ok∧y.b.length≤1073741823) (hno:dJ fw ys≠0):aE false Tryz.prog 11 [] [.one (tv (.int .i64 fw)),.one (.t (sZ false ys))] (aT (.tup [.agg [.t (lT true []),.t (lR true []),.t (lS true [])],.one (tv (.int .i64 (dJ fw ys)))])):=by
 refine bV Tryz.func11 rfl Tryz.ntmps11 rfl aF rfl fun N9 w9 c0 h0=>?_
 refine WP.sln (i:=1) rfl fun hlen=>?_
 have hmr:=Ou (fw:=fw) (ys:=ys)
 refine sq (rl (al 0 ?_));refine o1 ?_;refine nl (sq (rl (al 1 ?_)));refine nl (sq (sq (rl (o1 ?_))));refine o1 ?_
 refine ca (Ua (fw:=fw) hb) SG ⟨a1 rfl,a1 rfl,rfl⟩ (.one (tv (.bool (nT fw ys ys.length)))) ?_;refine o1 ?_;refine nl ?_;refine qR rfl (fun h1=>?_) (fun h1=>?_)
 ·refine sq (rl (ld ?_));refine st ?_;refine o1 ?_;refine nl (rt ?_)
  exact en (.inl rfl) rfl (sX (.cons (.agg (.cons (.nil (t:=106) (z:=5)) (.cons (.nil (t:=87) (z:=18)) (.cons (.nil (t:=109) (z:=7)) .nil)))) (.cons (cX _) .nil))) (by decide) (fun h=>by cases h) (congrArg (fun z:Int=>FV.tup [.agg [.t (lT true []),.t (lR true []),.t (lS true [])],.one (tv (.int .i64 z))]) (by unfold dJ;rw[←hmr];simp only[h1,Bool.not_true,Bool.not_false,Bool.or_true,Bool.true_or,Bool.false_or,Bool.or_false,Bool.false_eq_true,if_true,if_false,ite_true,ite_false,Bool.and_true,Bool.true_and,Bool.false_and,Bool.and_false,Bool.not_not] <;> first | rfl | (simp;done) | (simp;omega)))
 refine sk (sq (sq (rl ?_)));(iterate 3 refine o1 ?_);refine nl ?_;refine bF rfl (fun h2=>?_) (fun h2=>?_)
 ·refine sq (rl (ld ?_));refine st ?_;refine o1 ?_;refine nl (rt ?_)
  exact en (.inl rfl) rfl (sX (.cons (.agg (.cons (.nil (t:=106) (z:=5)) (.cons (.nil (t:=87) (z:=18)) (.cons (.nil (t:=109) (z:=7)) .nil)))) (.cons (cX _) .nil))) (by decide) (fun h=>by cases h) (congrArg (fun z:Int=>FV.tup [.agg [.t (lT true []),.t (lR true []),.t (lS true [])],.one (tv (.int .i64 z))]) (by unfold dJ;rw[←hmr];simp only[h1,decide_eq_true h2,Bool.not_true,Bool.not_false,Bool.or_true,Bool.true_or,Bool.false_or,Bool.or_false,Bool.false_eq_true,if_true,if_false,ite_true,ite_false,Bool.and_true,Bool.true_and,Bool.false_and,Bool.and_false,Bool.not_not] <;> first | rfl | (simp;done) | (simp;omega)))
 refine sk (sq (sq (rl (o1 ?_))));refine nl ?_
 exact absurd (show dJ fw ys=0 by unfold dJ;rw[←hmr];simp only[h1,decide_eq_false h2,Bool.not_true,Bool.not_false,Bool.or_true,Bool.true_or,Bool.false_or,Bool.or_false,Bool.false_eq_true,if_true,if_false,ite_true,ite_false,Bool.and_true,Bool.true_and,Bool.false_and,Bool.and_false,Bool.not_not] <;> first | rfl | (simp;done) | (simp;omega)) hno
set_option maxHeartbeats 4000000 in
theorem NB {R:Rg}{ys:List Yr}(hb:∀y∈ys,(∀a∈y.b,a.ok)∧y.l.ok∧y.b.length≤1073741823) (hno:dJ ((R.f:Nat):Int) ys=0) (hOk:R.Ok ys.length) (hyq:∀t,t<ys.length→yrt (aG ys t)=R.yrq t):aE false Tryz.prog 11 [] [.one (tv (.int .i64 ((R.f:Nat):Int))),.one (.t (sZ false ys))] (aT (.tup [.agg [.t (lT true (R.rls (R.run ys.length) ys.length)),.t (lR true (R.vnE ys.length)),.t (lS true (R.run ys.length))],.one (tv (.int .i64 0))])):=by
 refine GA Tryz.func11 rfl Tryz.ntmps11 rfl aF rfl fun N9 w9 c0 h0=>?_
 have hE:=hOk.e;have hN:=hOk.n;have hF:=hOk.f
 have hmr:=Ou (fw:=((R.f:Nat):Int)) (ys:=ys)
 have hmg:nT ((R.f:Nat):Int) ys ys.length=true:=by
  unfold dJ at hno;rw[←hmr]at hno;cases h9:nT ((R.f:Nat):Int) ys ys.length
  ·rw[h9]at hno
   simp at hno
  rfl
 refine sq (rl (al 0 ?_));refine o1 ?_;refine nl (sq (rl (al 1 ?_)));refine nl (sq (sq (rl (o1 ?_))));refine o1 ?_
 refine ca (Ua (fw:=((R.f:Nat):Int)) hb) SG ⟨a1 rfl,a1 rfl,rfl⟩ (.one (tv (.bool (nT ((R.f:Nat):Int) ys ys.length)))) ?_;refine o1 ?_;refine nl ?_
 refine qR rfl (fun h1=>?_) (fun h1=>?_)
 ·exact absurd h1 (by rw[hmg];simp)
 refine sk (sq (sq (rl ?_)));(iterate 3 refine o1 ?_);refine nl ?_;refine bF rfl (fun h2=>?_) (fun h2=>?_)
 ·exact absurd h2 (by omega)
 refine sk (sq (sq (rl (o1 ?_))));refine nl (bl ?_)
 refine WP.sub (((sT (j:=1) (key:=2) (e:=106) (z:=5) rfl rfl rfl (.sl (.id (.id .nil)))).trans (sT (j:=1) (key:=3) (e:=87) (z:=18) rfl rfl rfl (.id (.sl (.id .nil))))).trans (sT (j:=1) (key:=4) (e:=109) (z:=7) rfl rfl rfl (.id (.id (.sl .nil))))) ?_
 refine lp (γ:=Nat) (fun s=>bP [(0,iN R.f),(1,.one (.t (sZ false ys))),(4,pN 0),(6,pN 1),(7,iN s)]) (fun s=>[(⟨31,0,[tv (.slice none 0 0),tv (.slice none 0 0),tv (.slice none 0 0)]⟩:Ob),⟨31,0,[.sl 2 0 s,.sl 3 0 (R.vl s).length,.sl 4 0 (R.run s).length]⟩,⟨106,5,((R.rls (R.run s) s).flatMap rlt).map .t⟩,⟨87,18,((R.vns (R.run s) (R.ex (R.run s) s) (fun _ _=>(0:Rat)) (R.vl s)).flatMap (cA false)).map .t⟩,⟨109,7,((R.run s).flatMap (dK false)).map .t⟩].map some) (fun s=>s≤ys.length) (fun s=>ys.length-s) 0 (Nat.zero_le _) (aP h0 [0,1,2,3,4] ⟨oe rfl rfl,oe rfl rfl,aB rfl,aB rfl,aB rfl,rfl⟩) ?_
 rintro t ht;refine sq (sq (rl ?_));(iterate 4 refine o1 ?_);refine nl ?_;refine bF rfl (fun h3=>?_) (fun h3=>?_)
 ·refine sk (sq (bl ?_));refine cI [0,1] [8] ?_
  refine aK 0 ?_;refine dv 1 ?_;refine dv 2 ?_;refine dv 3 ?_;refine dv 4 ?_;refine dv 5 ?_
  refine dD 6 (R.yrq t) ((by rw[←hyq t (by omega)];exact aI (f:=yrt) (z:=6) (o:=0) cL (bR (by omega)) (bM rfl) rfl)) ?_
  refine ZG 7 5 [2,3,4] rfl (FX (t:=t) hOk (by omega)) ZJ ⟨aB rfl,aB rfl,aB rfl,rfl⟩ ⟨rfl,rfl,rfl,rfl,rfl⟩ ⟨rfl,rfl,trivial⟩ ?_
  refine dst 8 ?_;refine aW ?_;refine rl (o1 ?_);refine o1 ?_;refine bB 24 (t+1) ?_
  refine o1 ?_;refine nl ?_
  exact⟨t+1,by omega,by omega,aP h0 [0,1,5,6,7] ⟨oe rfl rfl,oe rfl (by have h9:(some ⟨31,0,[.sl 5 0 (R.rls (R.run (t+1)) (t+1)).length,.sl 6 0 (R.vns (R.run (t+1)) (R.ex (R.run (t+1)) (t+1)) (fun _ _=>(0:Rat)) (R.vl (t+1))).length,.sl 7 0 (R.run (t+1)).length]⟩:Option Ob)=some ⟨31,0,[.sl 5 0 (t+1),.sl 6 0 (R.vl (t+1)).length,.sl 7 0 (R.run (t+1)).length]⟩:=(by rw[lN,dQ]);exact h9),aB rfl,aB rfl,aB rfl,rfl⟩⟩
 refine ex (sq (sq (rl (o1 ?_))));refine nl (bl ?_);have htn:t=ys.length:=by omega
 have hv0:R.vns (R.run t) (R.ex (R.run t) t) (fun _ _=>(0:Rat)) (R.vl t)=(R.vns (R.run ys.length) (R.ex (R.run ys.length) ys.length) (R.ck ys.length 0) (R.vl ys.length)):=by rw[htn,MW]
 refine lp (γ:=Nat) (fun s=>bP [(4,pN 0),(6,pN 1),(8,iN s)]) (fun s=>[(⟨31,0,[tv (.slice none 0 0),tv (.slice none 0 0),tv (.slice none 0 0)]⟩:Ob),⟨31,0,[.sl 2 0 ys.length,.sl 3 0 (R.vl ys.length).length,.sl 4 0 (R.run ys.length).length]⟩,⟨106,5,((R.rls (R.run ys.length) ys.length).flatMap rlt).map .t⟩,⟨87,18,((R.vns (R.run ys.length) (R.ex (R.run ys.length) ys.length) (R.ck ys.length s) (R.vl ys.length)).flatMap (cA false)).map .t⟩,⟨109,7,((R.run ys.length).flatMap (dK false)).map .t⟩].map some) (fun s=>s≤(R.vl ys.length).length) (fun s=>(R.vl ys.length).length-s) 0 (Nat.zero_le _) (aP h0 [0,1,2,3,4] ⟨oe rfl rfl,oe rfl (by have h9:(some ⟨31,0,[.sl 2 0 t,.sl 3 0 (R.vl t).length,.sl 4 0 (R.run t).length]⟩:Option Ob)=some ⟨31,0,[.sl 2 0 ys.length,.sl 3 0 (R.vl ys.length).length,.sl 4 0 (R.run ys.length).length]⟩:=(by rw[htn]);exact h9),aB (by have h9:(some ⟨106,5,((R.rls (R.run t) t).flatMap rlt).map .t⟩:Option Ob)=some ⟨106,5,((R.rls (R.run ys.length) ys.length).flatMap rlt).map .t⟩:=(by rw[htn]);exact h9),aB (by have h9:(some ⟨87,18,((R.vns (R.run t) (R.ex (R.run t) t) (fun _ _=>(0:Rat)) (R.vl t)).flatMap (cA false)).map .t⟩:Option Ob)=some ⟨87,18,((R.vns (R.run ys.length) (R.ex (R.run ys.length) ys.length) (R.ck ys.length 0) (R.vl ys.length)).flatMap (cA false)).map .t⟩:=(by rw[hv0]);exact h9),aB (by have h9:(some ⟨109,7,((R.run t).flatMap (dK false)).map .t⟩:Option Ob)=some ⟨109,7,((R.run ys.length).flatMap (dK false)).map .t⟩:=(by rw[htn]);exact h9),rfl⟩) ?_
 rintro j hj;refine sq (sq (rl (o1 ?_)));refine o1 ?_;refine ld ?_;refine o1 ?_;refine o1 ?_;refine nl ?_;refine bF rfl (fun h4=>?_) (fun h4=>?_)
 ·refine sk (sq (bl (sq ?_)));have hj9:j<(R.vl ys.length).length:=by omega
  obtain⟨hq1,hq2,hq3⟩:=fK.1 (Dq (l:=(R.vl ys.length)) hj9)
  have hIv:R.Iv ys.length (R.run ys.length):=hOk.run (bC _)
  have hvl8:=lJ (R:=R) hE ys.length
  have hvl9:(R.vns (R.run ys.length) (R.ex (R.run ys.length) ys.length) (R.ck ys.length j) (R.vl ys.length)).length=(R.vl ys.length).length:=dQ
  have hge:(R.vns (R.run ys.length) (R.ex (R.run ys.length) ys.length) (R.ck ys.length j) (R.vl ys.length))[j]? =some (⟨(aD (R.vl ys.length) j).1,(aD (R.vl ys.length) j).2,(R.los (aD (R.vl ys.length) j).1 (aD (R.vl ys.length) j).2),(cU (R.run ys.length) (aD (R.vl ys.length) j).1 (aD (R.vl ys.length) j).2),((R.ex (R.run ys.length) ys.length) (aD (R.vl ys.length) j).1 (aD (R.vl ys.length) j).2),(R.ck ys.length j (aD (R.vl ys.length) j).1 (aD (R.vl ys.length) j).2)⟩:Vn):=by
   unfold Rg.vns;rw[List.getElem?_map,nS hj9];rfl
  have hsl:Sz 300 (R.los (aD (R.vl ys.length) j).1 (aD (R.vl ys.length) j).2):=hOk.sz_los (by omega) hq2
  have hsu:Sz 300 (cU (R.run ys.length) (aD (R.vl ys.length) j).1 (aD (R.vl ys.length) j).2):=hIv.sz_vOf hOk (by omega) hq2
  have hsx:Sz 300 ((R.ex (R.run ys.length) ys.length) (aD (R.vl ys.length) j).1 (aD (R.vl ys.length) j).2):=Ar hOk hIv (by omega) hq2
  refine rl (o1 ?_);refine ld ?_;refine o1 ?_;refine o1 ?_
  refine Oc (fU (f:=(cA false)) (z:=18) (o:=0) (us:=(cA false) ⟨(aD (R.vl ys.length) j).1,(aD (R.vl ys.length) j).2,(R.los (aD (R.vl ys.length) j).1 (aD (R.vl ys.length) j).2),(cU (R.run ys.length) (aD (R.vl ys.length) j).1 (aD (R.vl ys.length) j).2),((R.ex (R.run ys.length) ys.length) (aD (R.vl ys.length) j).1 (aD (R.vl ys.length) j).2),(R.ck ys.length j (aD (R.vl ys.length) j).1 (aD (R.vl ys.length) j).2)⟩) (cK false) (hge) (bM rfl) rfl) ?_
  refine al 5 ?_;refine st ?_;refine nl (sq (rl (ld ?_)))
  refine ca (Fd (v:=(⟨(aD (R.vl ys.length) j).1,(aD (R.vl ys.length) j).2,(R.los (aD (R.vl ys.length) j).1 (aD (R.vl ys.length) j).2),(cU (R.run ys.length) (aD (R.vl ys.length) j).1 (aD (R.vl ys.length) j).2),((R.ex (R.run ys.length) ys.length) (aD (R.vl ys.length) j).1 (aD (R.vl ys.length) j).2),(R.ck ys.length j (aD (R.vl ys.length) j).1 (aD (R.vl ys.length) j).2)⟩:Vn)) (by exact hsl.mono (by omega)) (by exact hsu.mono (by omega)) (by exact hsx.mono (by omega))) Xe ⟨aC rfl,rfl⟩ (qF (.of ((R.los (aD (R.vl ys.length) j).1 (aD (R.vl ys.length) j).2)-((cU (R.run ys.length) (aD (R.vl ys.length) j).1 (aD (R.vl ys.length) j).2)+((R.ex (R.run ys.length) ys.length) (aD (R.vl ys.length) j).1 (aD (R.vl ys.length) j).2))))) ?_
  refine o1 ?_;refine st ?_;refine nl (rl (o1 ?_));refine ld ?_;refine o1 ?_;refine ld ?_;refine o1 ?_
  refine tU (gZ (xs:=(R.vns (R.run ys.length) (R.ex (R.run ys.length) ys.length) (R.ck ys.length j) (R.vl ys.length))) (k:=j) (x:=(⟨(aD (R.vl ys.length) j).1,(aD (R.vl ys.length) j).2,(R.los (aD (R.vl ys.length) j).1 (aD (R.vl ys.length) j).2),(cU (R.run ys.length) (aD (R.vl ys.length) j).1 (aD (R.vl ys.length) j).2),((R.ex (R.run ys.length) ys.length) (aD (R.vl ys.length) j).1 (aD (R.vl ys.length) j).2),(R.ck ys.length j (aD (R.vl ys.length) j).1 (aD (R.vl ys.length) j).2)⟩:Vn)) (f:=(cA false)) (z:=18) (o:=0) (x':=(⟨(aD (R.vl ys.length) j).1,(aD (R.vl ys.length) j).2,(R.los (aD (R.vl ys.length) j).1 (aD (R.vl ys.length) j).2),(cU (R.run ys.length) (aD (R.vl ys.length) j).1 (aD (R.vl ys.length) j).2),((R.ex (R.run ys.length) ys.length) (aD (R.vl ys.length) j).1 (aD (R.vl ys.length) j).2),((R.los (aD (R.vl ys.length) j).1 (aD (R.vl ys.length) j).2)-((cU (R.run ys.length) (aD (R.vl ys.length) j).1 (aD (R.vl ys.length) j).2)+((R.ex (R.run ys.length) ys.length) (aD (R.vl ys.length) j).1 (aD (R.vl ys.length) j).2)))⟩:Vn)) (us:=(cA false) ⟨(aD (R.vl ys.length) j).1,(aD (R.vl ys.length) j).2,(R.los (aD (R.vl ys.length) j).1 (aD (R.vl ys.length) j).2),(cU (R.run ys.length) (aD (R.vl ys.length) j).1 (aD (R.vl ys.length) j).2),((R.ex (R.run ys.length) ys.length) (aD (R.vl ys.length) j).1 (aD (R.vl ys.length) j).2),((R.los (aD (R.vl ys.length) j).1 (aD (R.vl ys.length) j).2)-((cU (R.run ys.length) (aD (R.vl ys.length) j).1 (aD (R.vl ys.length) j).2)+((R.ex (R.run ys.length) ys.length) (aD (R.vl ys.length) j).1 (aD (R.vl ys.length) j).2)))⟩) (cK false) (hge) (bM rfl) rfl) (jW (xs:=(R.vns (R.run ys.length) (R.ex (R.run ys.length) ys.length) (R.ck ys.length j) (R.vl ys.length))) (k:=j) (f:=(cA false)) (z:=18) (o:=0) (us:=(cA false) ⟨(aD (R.vl ys.length) j).1,(aD (R.vl ys.length) j).2,(R.los (aD (R.vl ys.length) j).1 (aD (R.vl ys.length) j).2),(cU (R.run ys.length) (aD (R.vl ys.length) j).1 (aD (R.vl ys.length) j).2),((R.ex (R.run ys.length) ys.length) (aD (R.vl ys.length) j).1 (aD (R.vl ys.length) j).2),((R.los (aD (R.vl ys.length) j).1 (aD (R.vl ys.length) j).2)-((cU (R.run ys.length) (aD (R.vl ys.length) j).1 (aD (R.vl ys.length) j).2)+((R.ex (R.run ys.length) ys.length) (aD (R.vl ys.length) j).1 (aD (R.vl ys.length) j).2)))⟩) (cK false) (by omega) (bM rfl)) ?_
  refine nl (rl (o1 ?_));refine o1 ?_;refine bB 39 (j+1) ?_
  refine o1 ?_;refine nl ?_
  exact⟨j+1,by omega,by omega,aP h0 [0,1,2,3,4] ⟨oe rfl rfl,oe rfl rfl,aB rfl,aB (congrArg (fun l:List Vn=>some (⟨87,18,(l.flatMap (cA false)).map .t⟩:Ob)) (MX hj9)),aB rfl,rfl⟩⟩
 refine ex (sq (rl (ld ?_)));refine st ?_;refine o1 ?_;refine nl (rt ?_);have hje:j=(R.vl ys.length).length:=by omega
 have hve:(R.vns (R.run ys.length) (R.ex (R.run ys.length) ys.length) (R.ck ys.length j) (R.vl ys.length))=(R.vnE ys.length):=by
  rw[hje];exact SB
 have hR1:(R.rls (R.run ys.length) ys.length).length=ys.length:=lN
 have hV1:(R.vnE ys.length).length=(R.vl ys.length).length:=dQ
 have hV2:(R.vns (R.run ys.length) (R.ex (R.run ys.length) ys.length) (R.ck ys.length j) (R.vl ys.length)).length=(R.vl ys.length).length:=dQ
 exact uR <| en (.inl rfl) rfl (sX (.cons (.agg (.cons (.sl (trs:=(R.rls (R.run ys.length) ys.length).flatMap rlt) rfl rfl (aN _ _ (by rw[bE eO,hR1])) (by rw[bE eO,hR1])) (.cons (.sl (trs:=(R.vns (R.run ys.length) (R.ex (R.run ys.length) ys.length) (R.ck ys.length j) (R.vl ys.length)).flatMap (cA false)) rfl rfl (aN _ _ (by rw[bE (cK false),hV2])) (by rw[bE (cK false),hV2])) (.cons (.sl (trs:=(R.run ys.length).flatMap (dK false)) rfl rfl (aN _ _ (by rw[bE (dA false)])) (by rw[bE (dA false)])) .nil)))) (.cons (cX _) .nil))) (by decide) (fun h=>by cases h) (by rw[hve,lT,lR,lS,hR1,hV1];rfl)
theorem SH {us:List Ur}{ent:Int}{rw9:List Rl}{vs:List Vn}(hz:∀k,Sz 17179869184 (fS (us.take k) ent)) (hu:∀u∈us,Sz 17179869184 u.n) (hl:us.length≤1073741823):aE false Tryz.prog 16 [] [.agg [.t (lT false rw9),.t (lR false vs),.t (lS false us)],.one (tv (.int .i64 ent))] (aT (qF (.of (fS us ent)))):=by
 refine bV Tryz.func16 rfl Tryz.ntmps16 rfl aF rfl fun N9 w9 c0 h0=>?_
 have h00:(0:Rat)=(fS (us.take 0) ent):=by simp[fS,iY,fD]
 refine sq (rl (bx 0 ?_));refine al 1 ?_;refine nl (sq (rl (ca (Ba) Wy rfl (qF (.of (0:Rat))) ?_)));refine al 2 ?_;refine st ?_;refine nl ?_
 refine sq (sq (rl (o1 ?_)));refine nl (bl ?_)
 refine lp (γ:=Nat) (fun s=>bP [(1,.one (tv (.int .i64 ent))),(2,pN 0),(4,pN 1),(5,pN 2),(6,iN s)]) (fun s=>[(⟨31,0,[.t (lT false rw9),.t (lR false vs),.t (lS false us)]⟩:Ob),⟨52,0,[tv (.bool false),tv (.slice none 0 0),tv (.bool false),tv (.slice none 0 0)]⟩,⟨52,0,((Fr4.of (fS (us.take s) ent)).tr false).map .t⟩].map some) (fun s=>s≤us.length) (fun s=>us.length-s) 0 (Nat.zero_le _) (aP h0 [0,1,2] ⟨oe rfl rfl,oe rfl rfl,aB (congrArg (fun q:Rat=>some (⟨52,0,((Fr4.of q).tr false).map .t⟩:Ob)) h00),rfl⟩) ?_
 rintro k hk;refine sq (sq (rl (o1 ?_)));refine o1 ?_;refine ld ?_;refine o1 ?_;refine o1 ?_;refine nl ?_;refine bF rfl (fun h1=>?_) (fun h1=>?_)
 ·refine sk (sq (bl (sq (rl (o1 ?_)))));refine ld ?_;(iterate 3 refine o1 ?_)
  refine dV ([.v (.int .i64 (bN us (k)).e)]) (aI (f:=(dK false)) (z:=7) (o:=1) (dA false) (dG (by omega)) (bM rfl) rfl) ?_
  refine o1 ?_;refine o1 ?_;refine nl ?_;refine bF rfl (fun h2=>?_) (fun h2=>?_)
  ·refine cI [0,1,2] [8] ?_
   refine aK 0 ?_;refine dv 1 ?_;refine aK 2 ?_;refine dv 3 ?_;refine dv 4 ?_;refine dv 5 ?_
   refine dD 6 ((Fr4.of (bN us (k)).n).tr false) (aI (f:=(dK false)) (z:=7) (o:=3) (dA false) (dG (by omega)) (bM rfl) rfl) ?_
   refine aS 7 rfl (vL (Qn.of (L:=17179869184) (hz k)) (Qn.of (L:=17179869184) (hu _ (eA (l:=us) (i:=k) (by omega)))) (hz k) (hu _ (eA (l:=us) (i:=k) (by omega)))) Hj ⟨aC rfl,aC rfl,rfl⟩ (qF (.of ((fS (us.take k) ent)+(bN us (k)).n))) ?_
   refine dst 8 ?_;refine aW ?_;refine rl (o1 ?_);refine o1 ?_;refine bB 14 (k+1) ?_
   refine o1 ?_;refine nl ?_;have hst:((fS (us.take k) ent)+(bN us (k)).n)=(fS (us.take (k+1)) ent):=by rw[Be (by omega),if_pos h2]
   exact⟨k+1,by omega,by omega,aP h0 [0,1,2] ⟨oe rfl rfl,oe rfl rfl,aB (congrArg (fun q:Rat=>some (⟨52,0,((Fr4.of q).tr false).map .t⟩:Ob)) hst),rfl⟩⟩
  refine sk (rl (o1 ?_));refine o1 ?_;refine bB 14 (k+1) ?_
  refine o1 ?_;refine nl ?_;have hst:(fS (us.take k) ent)=(fS (us.take (k+1)) ent):=by rw[Be (by omega),if_neg h2]
  exact⟨k+1,by omega,by omega,aP h0 [0,1,2] ⟨oe rfl rfl,oe rfl rfl,aB (congrArg (fun q:Rat=>some (⟨52,0,((Fr4.of q).tr false).map .t⟩:Ob)) hst),rfl⟩⟩
 refine ex (sq (rl (ld ?_)));refine st ?_;refine nl (rt ?_)
 exact en (.inl rfl) rfl (bD (.agg (.cons (.id rfl) (.cons (.id rfl) (.cons (.id rfl) (.cons (.id rfl) .nil)))))) (by decide) (fun h=>by cases h) (by rw[fF (by omega)];rfl)
section
variable {z p n i:Nat}{trs:List Tr}
def Spg (z p n:Nat) (trs:List Tr):Prop:=trs.length=n*z∧∀i,i<n→∃xs,xs.length≤1099511627776∧trs[i*z+p]? =some (sU true xs)
theorem Spg.step (h:Spg z p n trs) (hp:p<z) (hi:i<n) (zs:List Nat) (hz:zs.length≤1099511627776):Spg z p n (trs.set (i*z+p) (sU true zs)):=by
 have hlt:i*z+p<n*z:=by
  have h1:=Nat.mul_le_mul_right z (Nat.succ_le_of_lt hi)
  rw[Nat.succ_mul]at h1
  omega
 refine⟨by rw[List.length_set];exact h.1,fun j hj=>?_⟩
 by_cases e:j=i
 ·subst e
  exact⟨zs,hz,List.getElem?_set_self (by rw[h.1];exact hlt)⟩
 rw[List.getElem?_set_ne (fun e9=>e (Nat.eq_of_mul_eq_mul_right (show 0<z by omega) (show j*z=i*z by omega)))]
 exact h.2 j hj
theorem zG {α β:Type}{f:α→List β}{z:Nat}(hl:∀x,(f x).length=z):∀{l:List α}{i o:Nat}{x:α},l[i]? =some x→o<z→(l.flatMap f)[i*z+o]? =(f x)[o]?
 | [],i,o,x,h,_=>by simp at h
 | y::l,0,o,x,h,ho=>by
  simp at h
  subst h
  rw[List.flatMap_cons,Nat.zero_mul,Nat.zero_add,List.getElem?_append_left (by rw[hl];exact ho)]
 | y::l,i+1,o,x,h,ho=>by
  rw[List.getElem?_cons_succ]at h
  rw[List.flatMap_cons,List.getElem?_append_right (by rw[hl,Nat.succ_mul];omega),hl,show(i+1)*z+o-z=i*z+o by rw[Nat.succ_mul];omega]
  exact zG hl h ho
theorem Spg.ur {us:List Ur}(h:∀u∈us,Sz 68719476736 u.n):Spg 7 4 us.length (us.flatMap (dK true)):=⟨bE (dA true) us,fun i hi=>⟨_,Nat.le_trans (h _ (eA hi)).1 (by omega),(zG (dA true) (dG hi) (by omega)).trans rfl⟩⟩
theorem Spg.vn {vs:List Vn}(h:∀v∈vs,Sz 68719476736 v.l):Spg 18 3 vs.length (vs.flatMap (cA true)):=⟨bE (cK true) vs,fun i hi=>⟨_,Nat.le_trans (h _ (tS hi)).1 (by omega),(zG (cK true) (hH hi) (by omega)).trans rfl⟩⟩
theorem xF {τ:List Nat}{k k2:Nat}(h:τ[k]? =some k2) (l:List Tr) (p o n:Nat):renL τ ((l.map AV.t).set p (.sl k o n))=some ((l.map AV.t).set p (.sl k2 o n)):=by
 induction l generalizing p with
 | nil=>simp[renL]
 | cons x l ih=>
  cases p with
  | zero=>simp[renL,gR,h,Lw]
  | succ p=>simp[renL,gR,ih p]
theorem AP:∀xs:List Bool,gU ((bT xs).map AV.t)=true
 | []=>rfl
 | x::xs=>by
  have ih:=AP xs
  unfold bT at ih⊢
  simp only[List.map_cons,gU,Bool.and_eq_true]
  exact⟨rfl,ih⟩
theorem Ov:∀xs:List Bool,fJ ((bT xs).map AV.t)=true
 | []=>rfl
 | x::xs=>by
  have ih:=Ov xs
  unfold bT at ih⊢
  simp only[List.map_cons,fJ,Bool.and_eq_true]
  exact⟨rfl,ih⟩
theorem SI {l:List Fr4}{j:Nat}(h:j<l.length):l.take (j+1)=l.take j++[cM l j]:=by
 rw[List.take_add_one,gG h]
 simp[cM,h]
theorem SJ {l:List Yr}{j:Nat}(h:j<l.length):l.take (j+1)=l.take j++[aG l j]:=by rw[List.take_add_one,bR h];rfl
theorem GB (xs:List Fr4) (x:Fr4):(xs.flatMap (Fr4.tr false)).map AV.t++(x.tr false).map .t=((xs++[x]).flatMap (Fr4.tr false)).map .t:=by simp[List.flatMap_append]
theorem Ow (xs:List Yr) (x:Yr):(xs.flatMap yrt).map AV.t++(yrt x).map .t=((xs++[x]).flatMap yrt).map .t:=by simp[List.flatMap_append]
end
theorem SK {a b:Fr4}{p q:Rat}(ha:Qn a p) (hb:Qn b q):aE true Tryz.prog 53 [] [qF a,qF b] (aT (.one (tv (.bool (decide (p<q)))))):=by
 refine bV Tryz.func53 rfl Tryz.ntmps53 rfl aF rfl fun N w c0 h0=>?_
 refine sq (rl (bx 0 ?_));refine bx 1 ?_;refine o1 ?_;refine nl (sq (rl (ld ?_)));refine o1 ?_;refine ld ?_
 refine ca (qL hb ha) kI ⟨aC rfl,aC rfl,rfl⟩ (.one (tv (.int .i64 (q-p).num.sign))) ?_;refine o1 ?_;refine o1 ?_;refine nl (rt ?_)
 exact en (.inl rfl) rfl (bD (cX _)) (by decide) (fun _=>trivial) (congrArg (fun z=>FV.one (tv (.bool z))) (NC p q))
theorem SL {a:Fr4}:aE false Tryz.prog 52 [] [qF a] (aT (.one (.t (.f 53 [.a (a.tr false)] [])))):=by
 refine bV Tryz.func52 rfl Tryz.ntmps52 rfl aF rfl fun N w c0 h0=>?_
 refine sq (rl (bx 0 ?_));refine o1 ?_;refine nl (sq (rl (ld ?_)));refine o1 ?_;refine o1 ?_;refine nl (rt ?_)
 exact en (.inl rfl) rfl (bD (.one (.id rfl))) (by decide) (fun h=>by cases h) rfl
theorem ND {a:Fr4}{p:Rat}{xs:List Fr4}(ha:Qn a p) (hx:∀x∈xs,x.ok) (hl:xs.length≤1099511627776):aE false Tryz.prog 51 [] [qF a,.one (.t (sQ false xs)),.one (.t (.f 52 [] []))] (aT (qF (.of (dY p (xs.map Fr4.q))))):=by
 refine bV Tryz.func51 rfl Tryz.ntmps51 rfl aF rfl fun N w c0 h0=>?_
 have hz:∀x∈xs,Sz 68719476736 x.q:=fun x h=>(show Qn x x.q from⟨hx x h,rfl⟩).sz
 refine sq (rl (bx 0 ?_));refine al 1 ?_;refine nl (sq (rl (ld ?_)));refine ca (jF ha) lO ⟨aC rfl,rfl⟩ (qF (.of p)) ?_
 refine ca (eW (z:=0) (by omega) (by omega)) kR ⟨a1 rfl,rfl⟩ (qF (.of ((0:Int):Rat))) ?_
 refine ca (vF ha.sz) wW ⟨aC rfl,aC rfl,rfl⟩ (qF (.of p)) ?_;refine al 2 ?_;refine st ?_;refine nl (sq (sq (rl ?_)));(iterate 3 refine o1 ?_);refine nl ?_
 refine bl ?_
 refine lp (γ:=Nat) (fun k=>bP [(2,.one (.t (.f 52 [] []))),(6,pN 0),(7,pN 1),(14,.one (.t (sQ false xs))),(15,iN xs.length),(16,iN k)]) (fun k=>[(⟨48,0,[tv (.bool false),tv (.slice none 0 0),tv (.bool false),tv (.slice none 0 0)]⟩:Ob),⟨48,0,((Fr4.of (dY p ((xs.take k).map Fr4.q))).tr false).map .t⟩].map some) (fun k=>k≤xs.length∧Sz 68719476736 (dY p ((xs.take k).map Fr4.q))) (fun k=>xs.length-k) 0 ⟨Nat.zero_le _,ha.sz⟩ (aP h0 [1,2] ⟨oe rfl rfl,aB rfl,rfl⟩) fun k hk=>?_
 refine sq (rl (o1 ?_));refine nl (sq ?_);refine bF rfl (fun h1=>?_) (fun h1=>?_)
 ·refine sk (sq (bl (sq (rl (o1 ?_)))));refine dV ((cM xs (k)).tr false) (fL xs (k:=k) (by omega)) ?_
  refine al 2 ?_;refine st ?_;refine nl (sq ?_);refine cI [0,1,2] [] ?_
  refine dv 0 ?_;refine aK 1 ?_;refine dv 2 ?_;refine aK 4 ?_
  refine yZ 3 3 [.agg [tv (.bool (aL (dY p ((xs.take k).map Fr4.q)).num)),.t (sU false (dg 4294967296 (dY p ((xs.take k).map Fr4.q)).num.natAbs)),tv (.bool false),.t (sU false (dg 4294967296 (dY p ((xs.take k).map Fr4.q)).den))]] rfl rfl (SL (a:=.of (dY p ((xs.take k).map Fr4.q)))) ZK ⟨rfl,rfl⟩ ?_
  refine yZ 5 3 [qF (cM xs (k))] rfl rfl (SK (a:=.of (dY p ((xs.take k).map Fr4.q))) (b:=(cM xs (k))) (Qn.of (p:=(dY p ((xs.take k).map Fr4.q))) hk.2) ⟨hx _ (eE (by omega)),rfl⟩) ZL ⟨rfl,rfl⟩ ?_
  refine aW ?_;refine bF rfl (fun h2=>?_) (fun h2=>?_)
  ·refine rl (ld ?_);refine ca (jF ⟨hx _ (eE (by omega)),rfl⟩) lO ⟨aC rfl,rfl⟩ (qF (.of (cM xs (k)).q)) ?_
   refine ca (eW (z:=0) (by omega) (by omega)) kR ⟨a1 rfl,rfl⟩ (qF (.of ((0:Int):Rat))) ?_
   refine ca (vF (hz _ (eE (by omega)))) wW ⟨aC rfl,aC rfl,rfl⟩ (qF (.of (cM xs (k)).q)) ?_
   refine st ?_;refine nl (rl (o1 ?_));refine bB 30 (k+1) ?_
   refine o1 ?_;refine nl ?_;have hst:(dY p ((xs.take (k+1)).map Fr4.q))=(cM xs k).q:=by rw[oS (by omega),Kh];exact if_pos h2
   exact⟨k+1,by omega,⟨by omega,by rw[hst];exact hz _ (eE (by omega))⟩,aP h0 [0,1] ⟨oe rfl rfl,aB (congrArg (fun q=>some (⟨48,0,((Fr4.of q).tr false).map .t⟩:Ob)) hst.symm),rfl⟩⟩
  refine sk (rl (o1 ?_));refine bB 30 (k+1) ?_
  refine o1 ?_;refine nl ?_;have hst:(dY p ((xs.take (k+1)).map Fr4.q))=(dY p ((xs.take k).map Fr4.q)):=by rw[oS (by omega),Kh];exact if_neg h2
  exact⟨k+1,by omega,⟨by omega,by rw[hst];exact hk.2⟩,aP h0 [0,1] ⟨oe rfl rfl,aB (congrArg (fun q=>some (⟨48,0,((Fr4.of q).tr false).map .t⟩:Ob)) hst.symm),rfl⟩⟩
 refine ex (sq (rl (ld ?_)));refine st ?_;refine nl (rt ?_)
 exact en (.inl rfl) rfl (bD (.agg (.cons (.id rfl) (.cons (.id rfl) (.cons (.id rfl) (.cons (.id rfl) .nil)))))) (by decide) (fun h=>by cases h) (by rw[fF (by omega)];rfl)
theorem WU {a:Fr4}{p:Rat}{xs:List Fr4}(ha:Qn a p) (hx:∀x∈xs,x.ok) (hl:xs.length≤1099511627776):aE false Tryz.prog 22 [] [qF a,.one (.t (sQ false xs))] (aT (qF (.of (dY p (xs.map Fr4.q))))):=by
 refine bV Tryz.func22 rfl Tryz.ntmps22 rfl aF rfl fun N w c0 h0=>?_
 refine sq (rl (bx 0 ?_));refine al 1 ?_;refine nl (sq (rl (ld ?_)));refine o1 ?_
 refine ca (ND ha hx hl) EY ⟨aC rfl,a1 rfl,a1 rfl,rfl⟩ (qF (.of (dY p (xs.map Fr4.q)))) ?_;refine st ?_;refine nl (rt ?_)
 exact en (.inl rfl) rfl (bD (.agg (.cons (.id rfl) (.cons (.id rfl) (.cons (.id rfl) (.cons (.id rfl) .nil)))))) (by decide) (fun h=>by cases h) (rfl)
end Go.Proofs.YtbbabfkgdnkehaaGreat
namespace Go.Proofs.YtbbabfkgdnkehaaGreat
open Go Go.RowKit Go.ChangeShapes
def WV (P:Program) (t:TypeId) (z:Nat) (T:List Tr→Prop):Prop:=
 P.cellsOf t=z∧∀(H:Type) (enc:TypeId×Value→H) (w:World) (fuel:Nat) (cs:List Value) (x:DataW H×List MemPlace),DataW.trod enc P w 0 (fun _=>true) true fuel t cs=some x→∃l,T l∧l.length=z∧FRL w (SM w) l cs
section
variable {P:Program}{t e:TypeId}{k:IntKind}{z:Nat}{T T':List Tr→Prop}
inductive Flds (P:Program):Nat→List Field→Nat→(List Tr→Prop)→Prop
 | nil {o:Nat}:Flds P o [] 0 (· =[])
 | cons {o z z':Nat}{f:Field}{fs:List Field}{T T':List Tr→Prop}(ho:f.offset=o) (h:WV P f.type z T) (h':Flds P (o+z) fs z' T'):Flds P o (f::fs) (z+z') (fun l=>∃a b,l=a++b∧T a∧T' b)
end
def LimF (a:Fr4):Prop:=Lim 4294967296 a.x∧Lim 4294967296 a.y
theorem LimF.ok {a:Fr4}(h:LimF a) (h2:a.x.length≤6∧a.y.length≤6):a.ok:=⟨h.1,h.2,by omega,by omega⟩
end Go.Proofs.YtbbabfkgdnkehaaGreat
namespace Go.Proofs.YtbbabfkgdnkehaaGreat
open Go Go.ChangeShapes Go.WideShapes Go.ChangeAt Go.RowKit
def iH (y:Yr):Prop:=(∀a∈y.b,LimF a)∧LimF y.l
end Go.Proofs.YtbbabfkgdnkehaaGreat
namespace Go.Proofs.YtbbabfkgdnkehaaGreat
open Go Go.RowKit
theorem oH {a:Fr4}(h:LimF a) (h3:a.len 3):a.ok:=by
 unfold Fr4.len at h3
 exact h.ok ⟨by omega,by omega⟩
def bJ (fw:Int) (ys:List Yr):List Rl:=if dJ fw ys=0 then(aM fw.toNat ys).rls ((aM fw.toNat ys).run ys.length) ys.length else []
def bG (fw:Int) (ys:List Yr):List Vn:=if dJ fw ys=0 then(aM fw.toNat ys).vnE ys.length else []
def aA (fw:Int) (ys:List Yr):List Ur:=if dJ fw ys=0 then(aM fw.toNat ys).run ys.length else []
theorem nU {fw:Int}{ys:List Yr}(hf:iM ys=true) (hy:∀y∈ys,iH y) (h:dJ fw ys=0):(aM fw.toNat ys).Ok ys.length∧(∀t,t<ys.length→yrt (aG ys t)=(aM fw.toNat ys).yrq t)∧((fw.toNat:Nat):Int)=fw∧ys.length≤10∧∀t,t<ys.length→(aG ys t).m.length=(aG ys 0).m.length∧(aG ys t).b.length=(aG ys 0).m.length∧(∀a∈(aG ys t).b,a=Fr4.of a.q)∧(aG ys t).l=Fr4.of (aG ys t).l.q:=by
 obtain⟨h1,h2⟩:=sN hf
 obtain⟨g1,g2,g3,g4⟩:=FY (fun y hm=>⟨fun a ha=>oH ((hy y hm).1 a ha) ((h2 y hm).2.2.2 a ha),oH (hy y hm).2 (h2 y hm).2.2.1⟩) h
 have h10:ys.length≤10:=by omega
 refine⟨MC h10 (fun y hm=>(h2 y hm).1) (fun y hm=>(g4 y hm).2.1) (by omega) (fun y hm a ha=>⟨(g4 y hm).2.2.1 a ha,(h2 y hm).2.2.2 a ha⟩) (fun y hm=>⟨⟨(g4 y hm).2.2.2.1,(h2 y hm).2.2.1⟩,(g4 y hm).2.2.2.2⟩),fun t ht=>?_,by omega,h10,fun t ht=>?_⟩
 ·have h4:=g4 _ (fP ht)
  exact QN h4.1 h4.2.1 h4.2.2.1 h4.2.2.2.1
 have h4:=g4 _ (fP ht)
 exact⟨h4.1,h4.2.1,h4.2.2.1,h4.2.2.2.1⟩
theorem jX {p q:Rat}(hp:Sz 68719476736 p) (hq:Sz 68719476736 q) (h:p=q):aE true Tryz.prog 19 [] [qF (.of p),qF (.of q)] (aT (.one (tv (.int .i64 0)))):=by
 have h1:=qL (Qn.of hp) (Qn.of hq)
 subst h
 rwa[show(p-p).num.sign=0 by rw[Rat.sub_self];rfl]at h1
def fH (m:Bool) (b l:Int):Yr:=⟨[true,m],[Fr4.of (Rat.divInt 7 2),Fr4.of (Rat.divInt b 1)],Fr4.of (Rat.divInt l 1)⟩
theorem uC {a:Fr4}:aE true Tryz.prog 30 [] [qF a] (aT (.one (tv (.bool (fY a))))):=by
 refine bV Tryz.func30 rfl Tryz.ntmps30 rfl aF rfl fun N9 w9 c0 h0=>?_
 refine sq (rl (bx 0 ?_));refine o1 ?_;refine nl (sq (rl (o1 ?_)));refine o1 ?_;refine ld ?_;(iterate 3 refine o1 ?_)
 refine WL.split (t:=8) rfl (fun h1=>?_) (fun h1=>?_)
 ·refine o1 ?_;refine o1 ?_;refine ld ?_;(iterate 4 refine o1 ?_);refine nl (rt ?_)
  exact gO (.inl rfl) rfl (Bool.eq_iff_iff.2 (by unfold fY;simp only[Bool.and_eq_true,decide_eq_true_eq,Bool.false_eq_true,false_iff];omega))
 (iterate 5 refine cY ?_);refine o1 ?_;refine o1 ?_;refine nl (rt ?_)
 exact gO (.inl rfl) rfl (Bool.eq_iff_iff.2 (by unfold fY;simp only[Bool.and_eq_true,decide_eq_true_eq,Bool.false_eq_true,false_iff];omega))
theorem GC {i n:Int}(hn:0<n) (hn2:n≤1000000):aE true Tryz.prog 18 [] [.one (tv (.int .i64 i)),.one (tv (.int .i64 n))] (aT (.one (tv (.int .i64 ((i.tmod n+n).tmod n))))):=by
 refine bV Tryz.func18 rfl Tryz.ntmps18 rfl aF rfl fun N w c0 h0=>?_
 have hp:=Uc (i:=i) hn
 refine sq (rl (o1 ?_));refine nl (sq (sq (rl (o1 ?_))));refine o1 ?_;refine nl ?_;refine bF rfl (fun h1=>?_) (fun h1=>?_)
 ·exact absurd h1 (by omega)
 refine sk (sq (rl (o1 ?_)));refine o1 ?_;refine o1 ?_ (hC:=(by omega))
 (iterate 3 refine o1 ?_);refine o1 ?_ (hC:=(by omega))
 refine o1 ?_;refine nl (rt ?_);exact en (.inl rfl) rfl (bD (cX _)) (by decide) (fun _=>trivial) rfl
theorem Bf {ys:List Yr}:aE true Tryz.prog 8 [] [.one (.t (gT ys))] (aT (.one (tv (.bool (iM ys))))):=by
 refine bV Tryz.func8 rfl Tryz.ntmps8 rfl aF rfl fun N9 w9 c0 h0=>?_
 refine WP.sln (i:=0) rfl fun hlen=>?_
 refine sq (rl (o1 ?_));refine nl (sq (sq (rl ?_)));(iterate 4 refine o1 ?_);refine WL.split (t:=8) rfl (fun h1=>?_) (fun h1=>?_)
 ·(iterate 5 refine o1 ?_);refine WL.split (t:=13) rfl (fun h2=>?_) (fun h2=>?_)
  ·(iterate 3 refine cY ?_);refine o1 ?_;refine nl (iC rfl (sq (rl (o1 ?_))));refine nl (rt ?_)
   exact gO (.inl rfl) rfl ((De (by omega)).symm)
  (iterate 4 refine o1 ?_);refine nl ?_;refine bF rfl (fun h3=>?_) (fun h3=>?_)
  ·refine sq (rl (o1 ?_));refine nl (rt ?_);exact gO (.inl rfl) rfl ((De (by omega)).symm)
  refine sk (sq (sq (rl (o1 ?_))));refine nl (bl ?_)
  refine lp (γ:=Nat) (fun s=>bP [(0,.one (.t (gT ys))),(3,iN s)]) (fun s=>([]:List Ob).map some) (fun s=>s≤ys.length∧∀j,j<s→mT (aG ys j)=true) (fun s=>ys.length-s) 0 ⟨Nat.zero_le _,fun j hj=>absurd hj (Nat.not_lt_zero j)⟩ (aP h0 [] rfl) ?_
  rintro i9 ⟨hi9,hA⟩;refine sq (sq (rl ?_));(iterate 4 refine o1 ?_);refine nl ?_;refine bF rfl (fun h4=>?_) (fun h4=>?_)
  ·refine sk (sq (bl (sq (sq (rl ?_)))));(iterate 4 refine o1 ?_)
   refine dV ([gH (aG ys (i9)).m]) (aI (f:=yrt) (z:=6) (o:=0) cL (bR (by omega)) (bM rfl) rfl) ?_
   (iterate 3 refine o1 ?_);refine WL.split (t:=31) rfl (fun h5=>?_) (fun h5=>?_)
   ·(iterate 7 refine cY ?_);refine o1 ?_;refine o1 ?_;(iterate 7 refine cY ?_);refine o1 ?_;refine nl (iC rfl (sq (rl (o1 ?_))));refine nl ?_
    refine rt ?_
    exact gO (.inl rfl) rfl ((oE (k:=i9) (by omega) (pR (by first | exact .inl (by omega) | exact .inr (.inl (by omega)) | exact .inr (.inr (by simpa using h5))))).symm)
   (iterate 4 refine o1 ?_);refine dV ([sQ false (aG ys (i9)).b]) (aI (f:=yrt) (z:=6) (o:=1) cL (bR (by omega)) (bM rfl) rfl) ?_
   (iterate 4 refine o1 ?_);refine WL.split (t:=40) rfl (fun h6=>?_) (fun h6=>?_)
   ·(iterate 7 refine cY ?_);refine o1 ?_;refine nl (iC rfl (sq (rl (o1 ?_))));refine nl (rt ?_)
    exact gO (.inl rfl) rfl ((oE (k:=i9) (by omega) (pR (by first | exact .inl (by omega) | exact .inr (.inl (by omega)) | exact .inr (.inr (by simpa using h6))))).symm)
   (iterate 4 refine o1 ?_);refine dV ((aG ys (i9)).l.tr false) (aI (f:=yrt) (z:=6) (o:=2) cL (bR (by omega)) (bM rfl) rfl) ?_
   refine ca (uC (a:=(aG ys (i9)).l)) Xg ⟨aC rfl,rfl⟩ (.one (tv (.bool (fY (aG ys (i9)).l)))) ?_;refine WL.splitb (t:=46) rfl (fun h7=>?_) (fun h7=>?_)
   ·refine o1 ?_;refine o1 ?_;refine nl (dW rfl (sk (sq ?_)));have hm9:(aG ys (i9)).m.length≤6:=by omega
    have hb9:(aG ys (i9)).b.length≤6:=by omega
    have hl9:fY (aG ys (i9)).l=true:=by simpa using h7
    refine rl (o1 ?_);refine nl (bl ?_)
    refine lp (γ:=Nat) (fun s=>bP [(0,.one (.t (gT ys))),(3,iN i9),(4,iN s)]) (fun s=>([]:List Ob).map some) (fun s=>s≤(aG ys (i9)).b.length∧∀j,j<s→fY (cM (aG ys (i9)).b j)=true) (fun s=>(aG ys (i9)).b.length-s) 0 ⟨Nat.zero_le _,fun j hj=>absurd hj (Nat.not_lt_zero j)⟩ (aP h0 [] rfl) ?_
    rintro k9 ⟨hk9,hB⟩;refine sq (sq (rl ?_));(iterate 5 refine o1 ?_)
    refine dV ([sQ false (aG ys (i9)).b]) (aI (f:=yrt) (z:=6) (o:=1) cL (bR (by omega)) (bM rfl) rfl) ?_
    refine o1 ?_;refine o1 ?_;refine nl ?_;refine bF rfl (fun h8=>?_) (fun h8=>?_)
    ·refine sk (sq (bl (sq (rl ?_))));(iterate 4 refine o1 ?_)
     refine dV ([sQ false (aG ys (i9)).b]) (aI (f:=yrt) (z:=6) (o:=1) cL (bR (by omega)) (bM rfl) rfl) ?_
     refine o1 ?_;refine o1 ?_;refine dV ((cM (aG ys (i9)).b (k9)).tr false) (fL (aG ys (i9)).b (k:=k9) (by omega)) ?_
     refine ca (uC (a:=(cM (aG ys (i9)).b (k9)))) Xg ⟨aC rfl,rfl⟩ (.one (tv (.bool (fY (cM (aG ys (i9)).b (k9)))))) ?_
     refine WL.splitb (t:=67) rfl (fun h9=>?_) (fun h9=>?_)
     ·refine o1 ?_;refine nl (dW rfl (sk (rl (o1 ?_))));refine o1 ?_
      refine bB 58 (k9+1) ?_
      refine o1 ?_;refine nl ?_
      exact⟨k9+1,by omega,⟨by omega,Mc (f:=fun j=>fY (cM (aG ys (i9)).b j)) hB (by simpa using h9)⟩,aP h0 [] rfl⟩
     refine o1 ?_;refine nl (iC rfl (sq (rl (o1 ?_))));refine nl (rt ?_)
     exact gO (.inl rfl) rfl ((oE (k:=i9) (by omega) (Tg (k:=k9) (by omega) (by simpa using h9))).symm)
    refine ex (rl (o1 ?_));refine o1 ?_;refine bB 23 (i9+1) ?_
    refine o1 ?_;refine nl ?_
    exact⟨i9+1,by omega,⟨by omega,Mc (f:=fun j=>mT (aG ys j)) hA (Ni hm9 hb9 hl9 (k:=k9) (by omega) hB)⟩,aP h0 [] rfl⟩
   refine o1 ?_;refine o1 ?_;refine nl (iC rfl (sq (rl (o1 ?_))));refine nl (rt ?_)
   exact gO (.inl rfl) rfl ((oE (k:=i9) (by omega) (pR (by first | exact .inl (by omega) | exact .inr (.inl (by omega)) | exact .inr (.inr (by simpa using h7))))).symm)
  refine ex (sq (rl (o1 ?_)));refine nl (rt ?_);exact gO (.inl rfl) rfl ((Dd (k:=i9) (by omega) hA (by omega)).symm)
 (iterate 3 refine cY ?_);(iterate 6 refine o1 ?_);refine nl ?_;refine bF rfl (fun h10=>?_) (fun h10=>?_)
 ·refine sq (rl (o1 ?_));refine nl (rt ?_);exact gO (.inl rfl) rfl ((De (by omega)).symm)
 refine sk (sq (sq (rl (o1 ?_))));refine nl (bl ?_)
 refine lp (γ:=Nat) (fun s=>bP [(0,.one (.t (gT ys))),(3,iN s)]) (fun s=>([]:List Ob).map some) (fun s=>s≤ys.length∧∀j,j<s→mT (aG ys j)=true) (fun s=>ys.length-s) 0 ⟨Nat.zero_le _,fun j hj=>absurd hj (Nat.not_lt_zero j)⟩ (aP h0 [] rfl) ?_
 rintro i9 ⟨hi9,hA⟩;refine sq (sq (rl ?_));(iterate 4 refine o1 ?_);refine nl ?_;refine bF rfl (fun h11=>?_) (fun h11=>?_)
 ·refine sk (sq (bl (sq (sq (rl ?_)))));(iterate 4 refine o1 ?_)
  refine dV ([gH (aG ys (i9)).m]) (aI (f:=yrt) (z:=6) (o:=0) cL (bR (by omega)) (bM rfl) rfl) ?_
  (iterate 3 refine o1 ?_);refine WL.split (t:=31) rfl (fun h12=>?_) (fun h12=>?_)
  ·(iterate 7 refine cY ?_);refine o1 ?_;refine o1 ?_;(iterate 7 refine cY ?_);refine o1 ?_;refine nl (iC rfl (sq (rl (o1 ?_))));refine nl ?_
   refine rt ?_
   exact gO (.inl rfl) rfl ((oE (k:=i9) (by omega) (pR (by first | exact .inl (by omega) | exact .inr (.inl (by omega)) | exact .inr (.inr (by simpa using h12))))).symm)
  (iterate 4 refine o1 ?_);refine dV ([sQ false (aG ys (i9)).b]) (aI (f:=yrt) (z:=6) (o:=1) cL (bR (by omega)) (bM rfl) rfl) ?_
  (iterate 4 refine o1 ?_);refine WL.split (t:=40) rfl (fun h13=>?_) (fun h13=>?_)
  ·(iterate 7 refine cY ?_);refine o1 ?_;refine nl (iC rfl (sq (rl (o1 ?_))));refine nl (rt ?_)
   exact gO (.inl rfl) rfl ((oE (k:=i9) (by omega) (pR (by first | exact .inl (by omega) | exact .inr (.inl (by omega)) | exact .inr (.inr (by simpa using h13))))).symm)
  (iterate 4 refine o1 ?_);refine dV ((aG ys (i9)).l.tr false) (aI (f:=yrt) (z:=6) (o:=2) cL (bR (by omega)) (bM rfl) rfl) ?_
  refine ca (uC (a:=(aG ys (i9)).l)) Xg ⟨aC rfl,rfl⟩ (.one (tv (.bool (fY (aG ys (i9)).l)))) ?_;refine WL.splitb (t:=46) rfl (fun h14=>?_) (fun h14=>?_)
  ·refine o1 ?_;refine o1 ?_;refine nl (dW rfl (sk (sq ?_)));have hm9:(aG ys (i9)).m.length≤6:=by omega
   have hb9:(aG ys (i9)).b.length≤6:=by omega
   have hl9:fY (aG ys (i9)).l=true:=by simpa using h14
   refine rl (o1 ?_);refine nl (bl ?_)
   refine lp (γ:=Nat) (fun s=>bP [(0,.one (.t (gT ys))),(3,iN i9),(4,iN s)]) (fun s=>([]:List Ob).map some) (fun s=>s≤(aG ys (i9)).b.length∧∀j,j<s→fY (cM (aG ys (i9)).b j)=true) (fun s=>(aG ys (i9)).b.length-s) 0 ⟨Nat.zero_le _,fun j hj=>absurd hj (Nat.not_lt_zero j)⟩ (aP h0 [] rfl) ?_
   rintro k9 ⟨hk9,hB⟩;refine sq (sq (rl ?_));(iterate 5 refine o1 ?_)
   refine dV ([sQ false (aG ys (i9)).b]) (aI (f:=yrt) (z:=6) (o:=1) cL (bR (by omega)) (bM rfl) rfl) ?_
   refine o1 ?_;refine o1 ?_;refine nl ?_;refine bF rfl (fun h15=>?_) (fun h15=>?_)
   ·refine sk (sq (bl (sq (rl ?_))));(iterate 4 refine o1 ?_)
    refine dV ([sQ false (aG ys (i9)).b]) (aI (f:=yrt) (z:=6) (o:=1) cL (bR (by omega)) (bM rfl) rfl) ?_
    refine o1 ?_;refine o1 ?_;refine dV ((cM (aG ys (i9)).b (k9)).tr false) (fL (aG ys (i9)).b (k:=k9) (by omega)) ?_
    refine ca (uC (a:=(cM (aG ys (i9)).b (k9)))) Xg ⟨aC rfl,rfl⟩ (.one (tv (.bool (fY (cM (aG ys (i9)).b (k9)))))) ?_
    refine WL.splitb (t:=67) rfl (fun h16=>?_) (fun h16=>?_)
    ·refine o1 ?_;refine nl (dW rfl (sk (rl (o1 ?_))));refine o1 ?_
     refine bB 58 (k9+1) ?_
     refine o1 ?_;refine nl ?_
     exact⟨k9+1,by omega,⟨by omega,Mc (f:=fun j=>fY (cM (aG ys (i9)).b j)) hB (by simpa using h16)⟩,aP h0 [] rfl⟩
    refine o1 ?_;refine nl (iC rfl (sq (rl (o1 ?_))));refine nl (rt ?_)
    exact gO (.inl rfl) rfl ((oE (k:=i9) (by omega) (Tg (k:=k9) (by omega) (by simpa using h16))).symm)
   refine ex (rl (o1 ?_));refine o1 ?_;refine bB 23 (i9+1) ?_
   refine o1 ?_;refine nl ?_
   exact⟨i9+1,by omega,⟨by omega,Mc (f:=fun j=>mT (aG ys j)) hA (Ni hm9 hb9 hl9 (k:=k9) (by omega) hB)⟩,aP h0 [] rfl⟩
  refine o1 ?_;refine o1 ?_;refine nl (iC rfl (sq (rl (o1 ?_))));refine nl (rt ?_)
  exact gO (.inl rfl) rfl ((oE (k:=i9) (by omega) (pR (by first | exact .inl (by omega) | exact .inr (.inl (by omega)) | exact .inr (.inr (by simpa using h14))))).symm)
 refine ex (sq (rl (o1 ?_)));refine nl (rt ?_);exact gO (.inl rfl) rfl ((Dd (k:=i9) (by omega) hA (by omega)).symm)
theorem kZ {n d:Int}(h1:-9223372036854775808≤n) (h2:n≤9223372036854775807) (h3:-9223372036854775808≤d) (h4:d≤9223372036854775807):aE false Tryz.prog 29 [] [.one (tv (.int .i64 n)),.one (tv (.int .i64 d))] (aT (qF (.of (Rat.divInt n d)))):=by
 refine bV Tryz.func29 rfl Tryz.ntmps29 rfl aF rfl fun N9 w9 c0 h0=>?_
 have hs:=xG h1 h2 h3 h4
 have hl:(Fr4.of (Rat.divInt n d)).len 1099511627776:=⟨Nat.le_trans hs.1 (by omega),Nat.le_trans hs.2 (by omega)⟩
 refine sq (rl (al 0 ?_));refine nl (sq (rl (o1 ?_)));refine o1 ?_
 refine ca (WJ h1 h2 h3 h4) ZM ⟨a1 rfl,a1 rfl,rfl⟩ (.tup [qF (.of (Rat.divInt n d)),.one (tv (.int .i64 (if d=0 then 20 else 0)))]) ?_;(iterate 3 refine o1 ?_);refine al 1 ?_;refine st ?_
 refine o1 ?_;refine nl (sq (rl (ld ?_)));refine ca (MK (a:=.of (Rat.divInt n d)) hl) ZN ⟨aC rfl,rfl⟩ (qF (.of (Rat.divInt n d))) ?_;refine st ?_;refine nl ?_
 refine rt ?_;exact en (.inl rfl) rfl (bD (.agg (.cons (.id rfl) (.cons (.id rfl) (.cons (.id rfl) (.cons (.id rfl) .nil)))))) (by decide) (fun h=>by cases h) (rfl)
theorem mH {m:Bool}{b l:Int}(h1:-9223372036854775808≤b) (h2:b≤9223372036854775807) (h3:-9223372036854775808≤l) (h4:l≤9223372036854775807):aE false Tryz.prog 28 [] [.one (tv (.bool m)),.one (tv (.int .i64 b)),.one (tv (.int .i64 l))] (aT (.agg ((yrt (fH m b l)).map .t))):=by
 refine bV Tryz.func28 rfl Tryz.ntmps28 rfl aF rfl fun N9 w9 c0 h0=>?_
 refine sq (rl (al 0 ?_));refine nl (sq (rl (o1 ?_)));refine bs 1 ?_
 refine WL.sub (fz (i:=8) (k:=1) (t:=4) (z:=1) (n:=2) (l:=bT [true,m]) rfl rfl rfl rfl) ?_
 refine ca (kZ (n:=7) (d:=2) (by omega) (by omega) (by omega) (by omega)) nV ⟨a1 rfl,a1 rfl,rfl⟩ (qF (.of (Rat.divInt 7 2))) ?_
 refine o1 ?_;refine ca (kZ (n:=b) (d:=1) (by omega) (by omega) (by omega) (by omega)) nV ⟨a1 rfl,a1 rfl,rfl⟩ (qF (.of (Rat.divInt b 1))) ?_
 refine bs 2 ?_;refine WL.sub (Ox (i:=12) (k:=2) (t:=48) (z:=4) (n:=2) (l:=([Fr4.of (Rat.divInt 7 2),Fr4.of (Rat.divInt b 1)]).flatMap (Fr4.tr false)) 52 rfl rfl rfl rfl (.one .sl)) ?_
 refine o1 ?_;refine ca (kZ (n:=l) (d:=1) (by omega) (by omega) (by omega) (by omega)) nV ⟨a1 rfl,a1 rfl,rfl⟩ (qF (.of (Rat.divInt l 1))) ?_
 refine o1 ?_;refine st ?_;refine nl (rt ?_)
 exact en (.inl rfl) rfl (bD (.agg (.cons (.id rfl) (.cons (.id rfl) (.cons (.id rfl) (.cons (.id rfl) (.cons (.id rfl) (.cons (.id rfl) .nil)))))))) (by decide) (fun h=>by cases h) rfl
theorem WW {us:List Ur}{ent:Int}{rw9:List Rl}{vs:List Vn}(hz:∀k,Sz 17179869184 (fS (us.take k) ent)) (hu:∀u∈us,Sz 17179869184 u.n) (hl:us.length≤1073741823):aE true Tryz.prog 15 [] [.agg [.t (cR false rw9),.t (cO false false vs),.t (cF false false us)],.one (tv (.int .i64 ent))] (aT (qO (fS us ent))):=by
 refine bV Tryz.func15 rfl Tryz.ntmps15 rfl aF rfl fun N9 w9 c0 h0=>?_
 have h00:((0:Int):Rat)=(fS (us.take 0) ent):=by simp[fS,iY,fD]
 refine sq (rl (bx 0 ?_));refine al 1 ?_;refine nl (sq (rl (iS 2 (eW (z:=0) (by omega) (by omega)) kR ⟨a1 rfl,rfl⟩ ?_)))
 refine al 4 ?_;refine st ?_;refine nl (sq (sq (rl (o1 ?_))));refine ld ?_;refine o1 ?_;refine o1 ?_;refine nl (bl ?_)
 refine lp (γ:=Nat) (fun s=>bP [(1,.one (tv (.int .i64 ent))),(4,pN 0),(5,pN 1),(10,.one (.t (cF false false us))),(11,iN us.length),(12,iN s)]) (fun s=>[(⟨48,0,[tv (.bool false),tv (.slice none 0 0),tv (.bool false),tv (.slice none 0 0)]⟩:Ob),⟨48,0,[tv (.bool (aL (fS (us.take s) ent).num)),.sl 2 0 (dg 4294967296 (fS (us.take s) ent).num.natAbs).length,tv (.bool false),.sl 3 0 (dg 4294967296 (fS (us.take s) ent).den).length]⟩,⟨113,1,(aJ (dg 4294967296 (fS (us.take s) ent).num.natAbs)).map .t⟩,⟨113,1,(aJ (dg 4294967296 (fS (us.take s) ent).den)).map .t⟩].map some) (fun s=>s≤us.length) (fun s=>us.length-s) 0 (Nat.zero_le _) (aP h0 [1,4,2,3] ⟨oe rfl rfl,oe rfl (congrArg (fun q:Rat=>some (⟨48,0,[tv (.bool (aL q.num)),.sl 2 0 (dg 4294967296 q.num.natAbs).length,tv (.bool false),.sl 3 0 (dg 4294967296 q.den).length]⟩:Ob)) h00),aB (congrArg (fun q:Rat=>some (⟨113,1,(aJ (dg 4294967296 q.num.natAbs)).map .t⟩:Ob)) h00),aB (congrArg (fun q:Rat=>some (⟨113,1,(aJ (dg 4294967296 q.den)).map .t⟩:Ob)) h00),rfl⟩) ?_
 rintro k hk;refine sq (rl (o1 ?_));refine nl (sq ?_);refine bF rfl (fun h1=>?_) (fun h1=>?_)
 ·refine sk (sq (bl (sq (rl (o1 ?_)))))
  refine dV ((dK false) (bN us (k))) (aI (f:=(dK false)) (z:=7) (o:=0) (dA false) (dG (by omega)) (bM rfl) rfl) ?_
  refine al 4 ?_;refine st ?_;refine nl (sq (rl (o1 ?_)));refine ld ?_;refine o1 ?_;refine o1 ?_;refine nl ?_;refine bF rfl (fun h2=>?_) (fun h2=>?_)
  ·refine rl (ld ?_);refine o1 ?_;refine ld ?_
   refine iS 5 (xB (Qn.of (p:=(fS (us.take k) ent)) ((hz k).mono (M:=68719476736) (by omega))) (Qn.of (p:=(bN us (k)).n) ((hu _ (eA (l:=us) (i:=k) (by omega))).mono (M:=68719476736) (by omega)))) Dj ⟨pM rfl (.cons .t (.cons (.sl rfl rfl (aN _ _ rfl) (aV _)) (.cons .t (.cons (.sl rfl rfl (aN _ _ rfl) (aV _)) .nil)))),aC rfl,rfl⟩ ?_
   refine st ?_;refine nl (rl (o1 ?_));refine bB 24 (k+1) ?_
   refine o1 ?_;refine nl ?_;have hst:((fS (us.take k) ent)+(bN us (k)).n)=(fS (us.take (k+1)) ent):=by rw[Be (by omega),if_pos h2]
   exact⟨k+1,by omega,by omega,aP h0 [0,1,5,6] ⟨oe rfl rfl,oe rfl (congrArg (fun q:Rat=>some (⟨48,0,[tv (.bool (aL q.num)),.sl 5 0 (dg 4294967296 q.num.natAbs).length,tv (.bool false),.sl 6 0 (dg 4294967296 q.den).length]⟩:Ob)) hst),aB (congrArg (fun q:Rat=>some (⟨113,1,(aJ (dg 4294967296 q.num.natAbs)).map .t⟩:Ob)) hst),aB (congrArg (fun q:Rat=>some (⟨113,1,(aJ (dg 4294967296 q.den)).map .t⟩:Ob)) hst),rfl⟩⟩
  refine sk (rl (o1 ?_));refine bB 24 (k+1) ?_
  refine o1 ?_;refine nl ?_;have hst:(fS (us.take k) ent)=(fS (us.take (k+1)) ent):=by rw[Be (by omega),if_neg h2]
  exact⟨k+1,by omega,by omega,aP h0 [0,1,2,3] ⟨oe rfl rfl,oe rfl (congrArg (fun q:Rat=>some (⟨48,0,[tv (.bool (aL q.num)),.sl 2 0 (dg 4294967296 q.num.natAbs).length,tv (.bool false),.sl 3 0 (dg 4294967296 q.den).length]⟩:Ob)) hst),aB (congrArg (fun q:Rat=>some (⟨113,1,(aJ (dg 4294967296 q.num.natAbs)).map .t⟩:Ob)) hst),aB (congrArg (fun q:Rat=>some (⟨113,1,(aJ (dg 4294967296 q.den)).map .t⟩:Ob)) hst),rfl⟩⟩
 refine ex (sq (rl (ld ?_)));refine st ?_;refine nl (rt ?_);have hkk:us.take k=us:=fF (by omega)
 exact en (.inl rfl) rfl (bD (.agg (.cons (.id rfl) (.cons (.sl (trs:=aJ (dg 4294967296 (fS (us.take k) ent).num.natAbs)) rfl rfl (bS _) (aV _)) (.cons (.id rfl) (.cons (.sl (trs:=aJ (dg 4294967296 (fS (us.take k) ent).den)) rfl rfl (bS _) (aV _)) .nil)))))) (by decide) (fun _=>by rw[hkk];exact tA _) (by rw[hkk];rfl)
theorem NE {ys:List Yr}(hy:∀y∈ys,y.l.len 1099511627776∧∀a∈y.b,a.len 1099511627776) (hs:∀y∈ys,y.m.length≤1000∧y.b.length≤1000) (hl:ys.length≤1000):aE false Tryz.prog 10 [] [.one (.t (gT ys))] (aT (.one (.t (sZ true ys)))):=by
 refine GA Tryz.func10 rfl Tryz.ntmps10 rfl aF rfl fun N9 w9 c0 h0=>?_
 refine sq (rl (o1 ?_));refine nl (sq (rl (o1 ?_)));refine nl (sq (sq (rl (o1 ?_))));refine nl (bl ?_)
 refine WP.sub (nr (i:=3) 0 83 6 rfl rfl rfl rfl) ?_
 refine lp (γ:=Nat) (fun s=>bP [(0,.one (.t (gT ys))),(3,.one (.sl 0 0 (s))),(4,iN s)]) (fun s=>[(⟨83,6,((ys.take s).flatMap yrt).map .t⟩:Ob)].map some) (fun s=>s≤ys.length) (fun s=>ys.length-s) 0 (Nat.zero_le _) (aP h0 [0] ⟨aB rfl,rfl⟩) ?_
 rintro i hi;refine sq (sq (rl ?_));(iterate 4 refine o1 ?_);refine nl ?_;refine bF rfl (fun h1=>?_) (fun h1=>?_)
 ·refine sk (sq (bl (sq ?_)));have hi9:i<ys.length:=by omega
  obtain⟨hm6,hb6⟩:=hs _ (fP (l:=ys) hi9)
  refine rl ?_;(iterate 4 refine o1 ?_);refine dV ((aG ys (i)).l.tr false) (aI (f:=yrt) (z:=6) (o:=2) cL (bR (by omega)) (bM rfl) rfl) ?_
  refine ca (Oh (a:=(aG ys (i)).l) (hy _ (fP (by omega))).1) SN ⟨aC rfl,rfl⟩ (qF (aG ys (i)).l) ?_
  refine o1 ?_;refine al 1 ?_;refine st ?_;refine nl (sq ?_);refine cI [1] [9] ?_
  refine dv 0 ?_;refine aK 1 ?_;refine dv 2 ?_;refine dv 3 ?_;refine dv 4 ?_;refine dv 5 ?_
  refine dD 6 ([gH (aG ys (i)).m]) (aI (f:=yrt) (z:=6) (o:=0) cL (bR (by omega)) (bM rfl) rfl) ?_
  refine kC (j:=2) (n:=0) (m:=(aG ys (i)).m.length) (l:=[]) (news:=(bT (aG ys (i)).m).map .t) 7 rfl aF rfl rfl rfl .nil .fz (AP _) (Ov _) (by omega) (by omega) rfl ⟨rfl,trivial⟩ rfl (by kernel_rfl) rfl ?_
  refine dv 8 ?_;refine dst 9 ?_;refine aW ?_;refine sq (sq (rl (o1 ?_)));refine nl (bl ?_)
  refine WP.sub (sT (j:=1) (key:=3) (e:=52) (z:=4) rfl rfl rfl (.id (.sl (.id (.id (.id (.id .nil))))))) ?_
  refine lp (γ:=Nat) (fun s=>bP [(0,.one (.t (gT ys))),(3,.one (.sl 0 0 (i))),(4,iN i),(5,pN 1),(6,iN s)]) (fun s=>[(⟨83,6,((ys.take i).flatMap yrt).map .t⟩:Ob),⟨83,0,([.sl 2 0 (aG ys (i)).m.length,.sl 3 0 s]:List AV)++((aG ys (i)).l.tr false).map .t⟩,⟨4,1,(bT (aG ys (i)).m).map .t⟩,⟨52,4,(((aG ys (i)).b.take s).flatMap (Fr4.tr false)).map .t⟩].map some) (fun s=>s≤(aG ys (i)).b.length) (fun s=>(aG ys (i)).b.length-s) 0 (Nat.zero_le _) (aP h0 [0,1,2,3] ⟨aB rfl,oe rfl (by have h9:(some ⟨83,0,([.sl 2 0 (0+(aG ys (i)).m.length),.sl 3 0 0]:List AV)++((aG ys (i)).l.tr false).map .t⟩:Option Ob)=some ⟨83,0,([.sl 2 0 (aG ys (i)).m.length,.sl 3 0 0]:List AV)++((aG ys (i)).l.tr false).map .t⟩:=(by rw[Nat.zero_add]);exact h9),aB rfl,aB rfl,rfl⟩) ?_
  rintro j hj;refine sq (sq (rl ?_));(iterate 5 refine o1 ?_)
  refine dV ([sQ false (aG ys (i)).b]) (aI (f:=yrt) (z:=6) (o:=1) cL (bR (by omega)) (bM rfl) rfl) ?_
  refine o1 ?_;refine o1 ?_;refine nl ?_;refine bF rfl (fun h2=>?_) (fun h2=>?_)
  ·refine sk (sq (bl ?_));refine cI [1] [14] ?_
   refine dv 0 ?_;refine aK 1 ?_;refine dv 2 ?_;refine dv 3 ?_;refine dv 4 ?_;refine dv 5 ?_
   refine dD 6 ([sQ false (aG ys (i)).b]) (aI (f:=yrt) (z:=6) (o:=1) cL (bR (by omega)) (bM rfl) rfl) ?_
   refine dv 7 ?_;refine dv 8 ?_;refine dD 9 ((cM (aG ys (i)).b (j)).tr false) (fL (aG ys (i)).b (k:=j) (by omega)) ?_
   refine aS 10 rfl (Oh (a:=(cM (aG ys (i)).b (j))) ((hy _ (fP (by omega))).2 _ (eE (by omega)))) SN ⟨aC rfl,rfl⟩ (qF (cM (aG ys (i)).b (j))) ?_
   refine iG (key:=4) 11 (by kernel_rfl) rfl rfl aF rfl ⟨rfl,trivial⟩ ?_
   refine kC (j:=5) (n:=j) (l:=(((aG ys (i)).b.take j).flatMap (Fr4.tr false)).map .t) 12 rfl aF rfl rfl rfl (.sl rfl (by rw[dB,bE (f:=Fr4.tr false) (z:=4) (fun _=>rfl),eJ,Nat.min_eq_left (by omega)])) (.sl rfl rfl rfl) rfl rfl (by omega) (by omega) rfl ⟨rfl,trivial⟩ rfl (by kernel_rfl) rfl ?_
   refine dv 13 ?_;refine dst 14 ?_;refine aW ?_;refine rl (o1 ?_);refine o1 ?_;refine bB 38 (j+1) ?_
   refine o1 ?_;refine nl ?_
   exact⟨j+1,by omega,by omega,aP h0 [0,1,2,5] ⟨aB rfl,oe rfl rfl,aB rfl,aB (congrArg (fun l:List AV=>some (⟨52,4,l⟩:Ob)) ((GB _ _).trans (by rw[SI (by omega)]))),rfl⟩⟩
  refine ex (rl (o1 ?_));refine ld ?_;have hjb:j=(aG ys (i)).b.length:=by omega
  have htb:(aG ys (i)).b.take j=(aG ys (i)).b:=fF (by omega)
  refine WL.sub (Ub (i:=54) (k:=2) (t:=4) (z:=1) (n:=(aG ys (i)).m.length) (l:=bT (aG ys (i)).m) rfl rfl rfl (by rw[Nu,Nat.mul_one]) (.agg (.cons .sl (.cons .id (.cons .id (.cons .id (.cons .id (.cons .id .nil)))))))) ?_
  refine WL.sub (Ub (i:=54) (k:=3) (t:=52) (z:=4) (n:=j) (l:=((aG ys (i)).b.take j).flatMap (Fr4.tr false)) rfl rfl rfl (by rw[bE (f:=Fr4.tr false) (z:=4) (fun _=>rfl),eJ,Nat.min_eq_left (by omega)]) (.agg (.cons .id (.cons .sl (.cons .id (.cons .id (.cons .id (.cons .id .nil)))))))) ?_
  refine bs 4 ?_
  refine iA (j:=5) (n:=i) (l:=((ys.take i).flatMap yrt).map .t) aF rfl rfl rfl rfl (.sl rfl (by rw[dB,bE cL,eJ,Nat.min_eq_left (by omega)])) (.sl rfl rfl rfl) rfl rfl rfl (by omega) (by omega) ?_
  refine o1 ?_;refine nl ?_
  have hrow:((ys.take i).flatMap yrt).map AV.t++[.t (.s false 4 1 (aG ys (i)).m.length (bT (aG ys (i)).m)),.t (.s false 52 4 j (((aG ys (i)).b.take j).flatMap (Fr4.tr false)))]++((aG ys (i)).l.tr false).map .t=((ys.take (i+1)).flatMap yrt).map AV.t:=by
   rw[SJ hi9,←Ow,htb,hjb,List.append_assoc];rfl
  rw[List.append_assoc]at hrow;refine rl (o1 ?_);refine o1 ?_;refine bB 12 (i+1) ?_
  refine o1 ?_;refine nl ?_;exact⟨i+1,by omega,by omega,aP h0 [5] ⟨aB (congrArg (fun l:List AV=>some (⟨83,6,l⟩:Ob)) hrow),rfl⟩⟩
 refine ex (sq (rl (o1 ?_)));refine o1 ?_;refine nl (rt ?_);have htk:ys.take i=ys:=fF (by omega)
 have hil:i=ys.length:=by omega
 exact uR <| en (.inl rfl) rfl (bD (.one (.sl (trs:=(ys.take i).flatMap yrt) rfl rfl (aN _ _ (by rw[bE cL,eJ,Nat.min_eq_left (by omega)])) (by rw[bE cL,eJ,Nat.min_eq_left (by omega)])))) (by decide) (fun h=>by cases h) (by rw[htk,hil];rfl)
theorem tB {a:Fr4}(h:a.len 1099511627776):aE true Tryz.prog 14 [] [qF a,qF a] (aT (.one (tv (.bool true)))):=by
 have h9:=ML h h
 rwa[decide_eq_true rfl]at h9
theorem Ht {xs:List Fr4}(hz:∀a∈xs,a.len 1099511627776) (hl:xs.length≤1073741823):aE true Tryz.prog 42 [] [.one (.t (sQ false xs)),.one (.t (sQ false xs))] (aT (.one (tv (.bool true)))):=by
 refine bV Tryz.func42 rfl Tryz.ntmps42 rfl aF rfl fun N9 w9 c0 h0=>?_
 refine sq (rl (o1 ?_));refine nl (sq (sq (rl ?_)));(iterate 5 refine o1 ?_);refine nl ?_;refine bF rfl (fun h1=>?_) (fun h1=>?_)
 ·exact absurd rfl h1
 refine sk (sq (sq (rl (o1 ?_))));refine nl (bl ?_)
 refine lp (γ:=Nat) (fun s=>bP [(0,.one (.t (sQ false xs))),(1,.one (.t (sQ false xs))),(5,iN s)]) (fun s=>([]:List Ob).map some) (fun s=>s≤xs.length) (fun s=>xs.length-s) 0 (Nat.zero_le _) (aP h0 [] rfl) ?_
 rintro k hk;refine sq (sq (rl ?_));(iterate 4 refine o1 ?_);refine nl ?_;refine bF rfl (fun h2=>?_) (fun h2=>?_)
 ·refine sk (sq (bl (sq ?_)));refine cI [] [] ?_
  refine dv 0 ?_;refine dv 1 ?_;refine dv 2 ?_;refine dD 3 ((cM xs (k)).tr false) (fL xs (k:=k) (by omega)) ?_
  refine dv 4 ?_;refine dv 5 ?_;refine dv 6 ?_;refine dD 7 ((cM xs (k)).tr false) (fL xs (k:=k) (by omega)) ?_
  refine aS 8 rfl (tB (a:=(cM xs (k))) (hz _ (eE (by omega)))) Oy ⟨aC rfl,aC rfl,rfl⟩ (.one (tv (.bool true))) ?_
  refine df 9 ?_;refine aW ?_;refine dW rfl (sk (rl (o1 ?_)));refine o1 ?_;refine bB 16 (k+1) ?_
  refine o1 ?_;refine nl ?_;exact⟨k+1,by omega,by omega,iU h0 [] _ _ (by decide) ⟨rfl,rfl,oG (by omega),trivial⟩ rfl⟩
 refine ex (sq (rl (o1 ?_)));refine nl (rt ?_);exact gO (.inl rfl) rfl (rfl)
end Go.Proofs.YtbbabfkgdnkehaaGreat
