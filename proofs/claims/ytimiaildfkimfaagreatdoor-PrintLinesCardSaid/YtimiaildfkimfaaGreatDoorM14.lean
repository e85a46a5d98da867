/- Part 14 of a proof: L8 to A1. -/
import Derived.Test.YtimiaildfkimfaaGreatDoorM13
import Derived.Shelf.Strings.Builder1
import Derived.Test.YtimiaildfkimfaaGreatDoorM9
import Derived.Test.YtimiaildfkimfaaGreatDoorM7
set_option maxRecDepth 100000
set_option linter.unusedVariables false
set_option linter.unusedSimpArgs false
namespace Go.Proofs.YtimiaildfkimfaaGreatDoor
open Go Go.RowKit
theorem CJ {x:It}(hx:OkI x):aE true Tryz.prog 16 [] [.agg ((kP x).map .t)] (aP (.one (tv (.string (aN (mU x)))))):=by
 refine bD Tryz.func16 Tryz.ntmps16 fun N9 w9 c0 h0=>?_
 refine sq (rl (bx 0 ?_));refine o1 ?_;refine nl (sq (rl ?_))
 refine aAW (d2:=5) Tryz.underlying124 Tryz.underlying4 (fun w=>Tryz.zeroValue9 w) (by decide) rfl rfl rfl ?_
 refine KT (GR aR rfl trivial) (by decide) rfl (fun _ _ h9=>?_)
 obtain⟨rfl,rfl⟩:=h9
 refine KT (Nx aR rfl rfl) (by decide) rfl (fun _ _ h9=>?_)
 obtain⟨rfl,rfl⟩:=h9
 refine VS (q:=x.b) rfl rfl rfl ?_;refine lZ 8 (cond x.b Ur Us) rfl (by cases x.b <;> rfl) ?_
 refine o1 ?_;refine nl (sq ?_);refine bU [0] [17] ?_
 refine dv 0 ?_;refine dv 1 ?_;refine aF 2 ?_;refine dv 3 ?_;refine aF 4 ?_;refine dv 6 ?_;refine aF 7 ?_;refine dv 8 ?_;refine aF 9 ?_;refine dv 10 ?_;refine aF 11 ?_;refine dv 12 ?_
 refine aF 13 ?_;refine aG 5 rfl (Yj hx.k) aA (bC rfl) _ ?_
 refine aG 14 rfl (uT (hx.p).qn (hx.p).sz (by omega)) aA (aM rfl) _ ?_
 refine dA (key:=1) 15 (by kernel_rfl) rfl rfl aR rfl ⟨rfl,trivial⟩ ?_
 refine dJ (k:=1) (ws:=[cond x.b Ur Us,x.s,pW.getD x.k [],x.t,x.u,x.v,dZ x.p]) 16 rfl Ih rfl (by simp) (Nat.le_trans (zT (KK hx)).2 (by simp)) ?_
 refine bM 17 ?_
 refine aJ ?_;refine rt ?_;exact fW (.inl rfl) rfl (rfl)
theorem KU {ls:List (List Nat)}{ws:List (List Nat)}(hls:OkLs ls) (hn:ls.length<=80000) (hw:Ex (bJ ws)):(cN ls).length+(bJ ws).length+1<=140737488355328:=by
 have h1:=Jw hls
 have h2:=hw.2
 omega
theorem qU {ls:List (List Nat)}{ws:List (List Nat)}(hls:OkLs ls) (hn:ls.length<=80000) (hw:Ex (bJ ws)) (h7:ws.length<=7):aE false Tryz.prog 53 [⟨95,0,[.pt 0 0,.t (.s true 5 1 (cN ls).length (bS (cN ls)))]⟩,⟨9,1,(ws.map sT).map .t⟩] [.one (.pt 0 0),.one (.sl 1 0 ws.length)] (Rt [⟨95,0,[.pt 0 0,.t (.s true 5 1 (cN (ls++[bJ ws])).length (bS (cN (ls++[bJ ws]))))]⟩,⟨9,1,(ws.map sT).map .t⟩] (.tup [])):=by
 have h:=VJ (bs:=cN ls) (ws:=ws) (by omega) hw.1 (KU hls hn hw)
 rwa[<-Pz]at h
theorem aCt {ls:List (List Nat)}{ws:List (List Nat)}(hls:OkLs ls) (hn:ls.length<=80000) (hw:Ex (bJ ws)) (h7:ws.length<=7):aE false Tryz.prog 53 [⟨95,0,[tv (.pointer none),.t (.s true 5 1 (cN ls).length (bS (cN ls)))]⟩,⟨9,1,(ws.map sT).map .t⟩] [.one (.pt 0 0),.one (.sl 1 0 ws.length)] (Rt [⟨95,0,[.pt 0 0,.t (.s true 5 1 (cN (ls++[bJ ws])).length (bS (cN (ls++[bJ ws]))))]⟩,⟨9,1,(ws.map sT).map .t⟩] (.tup [])):=by
 have h:=VI (bs:=cN ls) (ws:=ws) (by omega) hw.1 (KU hls hn hw)
 rwa[<-Pz]at h
theorem jM {a b:List (List Nat)}(h:a=b):some (⟨95,0,[.pt 0 0,.t (.s true 5 1 (cN a).length (bS (cN a)))]⟩:Ob)=some ⟨95,0,[.pt 0 0,.t (.s true 5 1 (cN b).length (bS (cN b)))]⟩:=by rw[h]
theorem VU {ls:List (List Nat)}{y:Yer}(hls:OkLs ls) (hn:ls.length<=70000) (hy:OkY y):aE false Tryz.prog 21 [⟨95,0,[.pt 0 0,.t (.s true 5 1 (cN ls).length (bS (cN ls)))]⟩] [.one (.pt 0 0),.agg ((cV false y).map .t)] (Rt [⟨95,0,[.pt 0 0,.t (.s true 5 1 (cN (ls++yrL y)).length (bS (cN (ls++yrL y))))]⟩] (.tup [])):=by
 refine Hj Tryz.func21 rfl Tryz.ntmps21 rfl aR rfl fun N9 M9 w9 c0 h0=>?_
 have hhl:=hy.hl
 have hbl:=hy.bl
 have hdl:=hy.dl
 have hsl:=hy.sl
 have hol:=hy.ol
 have hY:∀w∈[Lm,eB y.n],gK w:=bH (hG rfl) (bH (pO hy.n.1 hy.n.2) eX)
 have q0:OkLs (ls++mJ y):=hls.app (fO (dG hY (by simp)))
 have q1:OkLs (ls++kD y):=by unfold kD;rw[<-List.append_assoc];exact q0.app (gL fun x hx=>dG (Ib (hy.h x hx)) (by simp))
 have q2:OkLs (ls++kE y):=by unfold kE;rw[<-List.append_assoc];exact q1.app (gL fun x hx=>dG (Ic (hy.b x hx)) (by simp))
 have q3:OkLs (ls++kG y):=by unfold kG;rw[<-List.append_assoc];exact q2.app (gL fun x hx=>If (hy.d x hx))
 have q4:OkLs (ls++jW y):=by unfold jW;rw[<-List.append_assoc];exact q3.app (gL fun x hx=>dG (Id (hy.s x hx)) (by simp))
 refine sq (rl (bx 1 ?_));refine nl (sq ?_);refine bU [1] [] ?_
 refine dv 0 ?_;refine dv 1 ?_;refine dv 2 ?_;refine dv 3 ?_;refine aF 4 ?_;refine aG 5 rfl (zW hy.n.1 hy.n.2) aA (bC rfl) _ ?_
 refine dA (key:=2) 6 (by kernel_rfl) rfl rfl aR rfl ⟨rfl,trivial⟩ ?_
 refine uI 7 3 [0,2] rfl (qU (ls:=ls) (ws:=[Lm,eB y.n]) hls (by omega) (dG hY (by simp)) (by simp)) aA ⟨oe rfl rfl,aD rfl,rfl⟩ ⟨rfl,rfl,rfl⟩ (ok:=[some ⟨95,0,[.pt 0 0,.t (.s true 5 1 (cN (ls++[bJ [Lm,eB y.n]])).length (bS (cN (ls++[bJ [Lm,eB y.n]]))))]⟩,some ⟨9,1,([Lm,eB y.n].map sT).map .t⟩]) ⟨oe rfl rfl,aD rfl,rfl⟩ ⟨rfl,trivial⟩ ?_
 refine aJ ?_;refine sq (sq (rl (o1 ?_)));refine ld ?_;refine o1 ?_;refine o1 ?_;refine nl (bl ?_)
 refine lp (γ:=Nat) (fun k=>bP [(0,pN 0),(3,pN 1),(23,.one (.t (fN 110 6 fG y.h))),(24,iN y.h.length),(25,iN k)]) (fun k=>[(⟨95,0,[.pt 0 0,.t (.s true 5 1 (cN ((ls++mJ y)++(y.h.take k).map wN)).length (bS (cN ((ls++mJ y)++(y.h.take k).map wN))))]⟩:Ob),⟨55,0,(cV false y).map .t⟩].map some) (fun k=>k<=y.h.length/\True) (fun k=>y.h.length-k) 0 ⟨Nat.zero_le _,trivial⟩ (uJ h0 [0,1] ⟨oe rfl (jM (by simp[mJ])),aD rfl,rfl⟩) fun k hk=>?_
 refine sq (rl (o1 ?_));refine nl (sq ?_);refine aV rfl (fun h1=>?_) (fun h1=>?_)
 ·refine sk (sq (bl (sq (rl (o1 ?_)))))
  refine cX (fG (aB y.h (k))) (cM 6 0 dF (aI (by omega)) rfl) ?_
  refine al 2 ?_;refine st ?_;refine nl ?_;refine bU [1,2] [] ?_
  refine dv 0 ?_;refine dv 1 ?_;refine dv 2 ?_;refine dv 3 ?_;refine aF 4 ?_;refine dv 5 ?_;refine aF 6 ?_;refine dv 7 ?_;refine aF 8 ?_
  refine aG 9 rfl (lO ((hy.h (aB y.h (k)) (aS (l:=y.h) (by omega))).p).qn ((hy.h (aB y.h (k)) (aS (l:=y.h) (by omega))).p).sz (by omega)) aA (aM rfl) _ ?_
  refine dA (key:=3) 10 (by kernel_rfl) rfl rfl aR rfl ⟨rfl,rfl,trivial⟩ ?_
  refine uI 11 4 [0,3] rfl (qU (ls:=((ls++mJ y)++(y.h.take k).map wN)) (ws:=[Ln,(aB y.h (k)).s,(aB y.h (k)).t,bY (aB y.h (k)).p]) (q0.app (kK (fun x hx=>dG (Ib (hy.h x hx)) (by simp)) _)) (by simp only[cJ,dP,dU,List.length_cons,List.length_nil,jW,kG,kE,kD,mJ];omega) (dG (Ib (hy.h (aB y.h (k)) (aS (l:=y.h) (by omega)))) (by simp)) (by simp)) aA ⟨oe rfl rfl,aD rfl,rfl⟩ ⟨rfl,rfl,rfl⟩ (ok:=[some ⟨95,0,[.pt 0 0,.t (.s true 5 1 (cN (((ls++mJ y)++(y.h.take k).map wN)++[bJ [Ln,(aB y.h (k)).s,(aB y.h (k)).t,bY (aB y.h (k)).p]])).length (bS (cN (((ls++mJ y)++(y.h.take k).map wN)++[bJ [Ln,(aB y.h (k)).s,(aB y.h (k)).t,bY (aB y.h (k)).p]]))))]⟩,some ⟨9,1,([Ln,(aB y.h (k)).s,(aB y.h (k)).t,bY (aB y.h (k)).p].map sT).map .t⟩]) ⟨oe rfl rfl,aD rfl,rfl⟩ ⟨rfl,rfl,trivial⟩ ?_
  refine aJ ?_;refine rl (o1 ?_);refine aY 41 (k+1) ?_
  refine o1 ?_;refine nl ?_
  exact⟨k+1,by omega,⟨by omega,trivial⟩,uJ h0 [0,1] ⟨oe rfl (jM (eT (d:=nilIt) (g:=wN) (by omega))),aD rfl,rfl⟩⟩
 refine ex (sq (sq (rl (o1 ?_))));refine ld ?_;refine o1 ?_;refine o1 ?_;refine nl (bl ?_)
 refine lp (γ:=Nat) (fun i=>bP [(0,pN 0),(3,pN 1),(43,.one (.t (fN 112 6 fG y.b))),(44,iN y.b.length),(45,iN i)]) (fun i=>[(⟨95,0,[.pt 0 0,.t (.s true 5 1 (cN ((ls++kD y)++(y.b.take i).map uG)).length (bS (cN ((ls++kD y)++(y.b.take i).map uG))))]⟩:Ob),⟨55,0,(cV false y).map .t⟩].map some) (fun i=>i<=y.b.length/\True) (fun i=>y.b.length-i) 0 ⟨Nat.zero_le _,trivial⟩ (uJ h0 [0,1] ⟨oe rfl (jM (by rw[cT (by omega)];simp[kD])),aD rfl,rfl⟩) fun i hi=>?_
 refine sq (rl (o1 ?_));refine nl (sq ?_);refine aV rfl (fun h2=>?_) (fun h2=>?_)
 ·refine sk (sq (bl (sq (rl (o1 ?_)))))
  refine cX (fG (aB y.b (i))) (cM 6 0 dF (aI (by omega)) rfl) ?_
  refine al 2 ?_;refine st ?_;refine nl ?_;refine bU [1,2] [] ?_
  refine dv 0 ?_;refine dv 1 ?_;refine dv 2 ?_;refine dv 3 ?_;refine aF 4 ?_;refine dv 5 ?_;refine aF 6 ?_;refine dv 7 ?_;refine aF 8 ?_
  refine aG 9 rfl (uT ((hy.b (aB y.b (i)) (aS (l:=y.b) (by omega))).p).qn ((hy.b (aB y.b (i)) (aS (l:=y.b) (by omega))).p).sz (by omega)) aA (aM rfl) _ ?_
  refine dA (key:=3) 10 (by kernel_rfl) rfl rfl aR rfl ⟨rfl,rfl,trivial⟩ ?_
  refine uI 11 4 [0,3] rfl (qU (ls:=((ls++kD y)++(y.b.take i).map uG)) (ws:=[Lo,(aB y.b (i)).s,(aB y.b (i)).t,dZ (aB y.b (i)).p]) (q1.app (kK (fun x hx=>dG (Ic (hy.b x hx)) (by simp)) _)) (by simp only[cJ,dP,dU,List.length_cons,List.length_nil,jW,kG,kE,kD,mJ];omega) (dG (Ic (hy.b (aB y.b (i)) (aS (l:=y.b) (by omega)))) (by simp)) (by simp)) aA ⟨oe rfl rfl,aD rfl,rfl⟩ ⟨rfl,rfl,rfl⟩ (ok:=[some ⟨95,0,[.pt 0 0,.t (.s true 5 1 (cN (((ls++kD y)++(y.b.take i).map uG)++[bJ [Lo,(aB y.b (i)).s,(aB y.b (i)).t,dZ (aB y.b (i)).p]])).length (bS (cN (((ls++kD y)++(y.b.take i).map uG)++[bJ [Lo,(aB y.b (i)).s,(aB y.b (i)).t,dZ (aB y.b (i)).p]]))))]⟩,some ⟨9,1,([Lo,(aB y.b (i)).s,(aB y.b (i)).t,dZ (aB y.b (i)).p].map sT).map .t⟩]) ⟨oe rfl rfl,aD rfl,rfl⟩ ⟨rfl,rfl,trivial⟩ ?_
  refine aJ ?_;refine rl (o1 ?_);refine aY 61 (i+1) ?_
  refine o1 ?_;refine nl ?_
  exact⟨i+1,by omega,⟨by omega,trivial⟩,uJ h0 [0,1] ⟨oe rfl (jM (eT (d:=nilIt) (g:=uG) (by omega))),aD rfl,rfl⟩⟩
 refine ex (sq (sq (rl (o1 ?_))));refine ld ?_;refine o1 ?_;refine o1 ?_;refine nl (bl ?_)
 refine lp (γ:=Nat) (fun j=>bP [(0,pN 0),(3,pN 1),(63,.one (.t (fN 67 10 kP y.d))),(64,iN y.d.length),(65,iN j)]) (fun j=>[(⟨95,0,[.pt 0 0,.t (.s true 5 1 (cN ((ls++kE y)++(y.d.take j).map mU)).length (bS (cN ((ls++kE y)++(y.d.take j).map mU))))]⟩:Ob),⟨55,0,(cV false y).map .t⟩].map some) (fun j=>j<=y.d.length/\True) (fun j=>y.d.length-j) 0 ⟨Nat.zero_le _,trivial⟩ (uJ h0 [0,1] ⟨oe rfl (jM (by rw[cT (by omega)];simp[kE])),aD rfl,rfl⟩) fun j hj=>?_
 refine sq (rl (o1 ?_));refine nl (sq ?_);refine aV rfl (fun h3=>?_) (fun h3=>?_)
 ·refine sk (sq (bl (sq (rl (o1 ?_)))))
  refine cX (kP (aB y.d (j))) (cM 10 0 lH (aI (by omega)) rfl) ?_
  refine al 2 ?_;refine st ?_;refine nl ?_;refine bU [1,2] [] ?_
  refine dv 0 ?_;refine dv 1 ?_;refine dv 2 ?_;refine aF 3 ?_
  refine aG 4 rfl (CJ (hy.d (aB y.d (j)) (aS (l:=y.d) (by omega)))) aA (aM rfl) _ ?_
  refine dA (key:=3) 5 (by kernel_rfl) rfl rfl aR rfl ⟨rfl,rfl,trivial⟩ ?_
  refine uI 6 4 [0,3] rfl (qU (ls:=((ls++kE y)++(y.d.take j).map mU)) (ws:=[mU (aB y.d (j))]) (q2.app (kK (fun x hx=>If (hy.d x hx)) _)) (by simp only[cJ,dP,dU,List.length_cons,List.length_nil,jW,kG,kE,kD,mJ];omega) (If (hy.d (aB y.d (j)) (aS (l:=y.d) (by omega)))) (by simp)) aA ⟨oe rfl rfl,aD rfl,rfl⟩ ⟨rfl,rfl,rfl⟩ (ok:=[some ⟨95,0,[.pt 0 0,.t (.s true 5 1 (cN (((ls++kE y)++(y.d.take j).map mU)++[bJ [mU (aB y.d (j))]])).length (bS (cN (((ls++kE y)++(y.d.take j).map mU)++[bJ [mU (aB y.d (j))]]))))]⟩,some ⟨9,1,([mU (aB y.d (j))].map sT).map .t⟩]) ⟨oe rfl rfl,aD rfl,rfl⟩ ⟨rfl,rfl,trivial⟩ ?_
  refine aJ ?_;refine rl (o1 ?_);refine aY 76 (j+1) ?_
  refine o1 ?_;refine nl ?_
  exact⟨j+1,by omega,⟨by omega,trivial⟩,uJ h0 [0,1] ⟨oe rfl (jM (eT (d:=nilIt) (g:=mU) (by omega))),aD rfl,rfl⟩⟩
 refine ex (sq (sq (rl (o1 ?_))));refine ld ?_;refine o1 ?_;refine o1 ?_;refine nl (bl ?_)
 refine lp (γ:=Nat) (fun m=>bP [(0,pN 0),(3,pN 1),(78,.one (.t (fN 114 9 oV y.s))),(79,iN y.s.length),(80,iN m)]) (fun m=>[(⟨95,0,[.pt 0 0,.t (.s true 5 1 (cN ((ls++kG y)++(y.s.take m).map uH)).length (bS (cN ((ls++kG y)++(y.s.take m).map uH))))]⟩:Ob),⟨55,0,(cV false y).map .t⟩].map some) (fun m=>m<=y.s.length/\True) (fun m=>y.s.length-m) 0 ⟨Nat.zero_le _,trivial⟩ (uJ h0 [0,1] ⟨oe rfl (jM (by rw[cT (by omega)];simp[kG])),aD rfl,rfl⟩) fun m hm=>?_
 refine sq (rl (o1 ?_));refine nl (sq ?_);refine aV rfl (fun h4=>?_) (fun h4=>?_)
 ·refine sk (sq (bl (sq (rl (o1 ?_)))))
  refine cX (oV (aB y.s (m))) (cM 9 0 fI (aI (by omega)) rfl) ?_
  refine al 2 ?_;refine st ?_;refine nl ?_;refine bU [1,2] [] ?_
  refine dv 0 ?_;refine dv 1 ?_;refine dv 2 ?_;refine dv 3 ?_;refine aF 4 ?_;refine dv 5 ?_;refine aF 6 ?_;refine dv 8 ?_;refine aF 9 ?_
  refine aG 7 rfl (uT ((hy.s (aB y.s (m)) (aS (l:=y.s) (by omega))).p).qn ((hy.s (aB y.s (m)) (aS (l:=y.s) (by omega))).p).sz (by omega)) aA (aM rfl) _ ?_
  refine aG 10 rfl (lO ((hy.s (aB y.s (m)) (aS (l:=y.s) (by omega))).q).qn ((hy.s (aB y.s (m)) (aS (l:=y.s) (by omega))).q).sz (by omega)) aA (aM rfl) _ ?_
  refine dA (key:=3) 11 (by kernel_rfl) rfl rfl aR rfl ⟨rfl,rfl,trivial⟩ ?_
  refine uI 12 4 [0,3] rfl (qU (ls:=((ls++kG y)++(y.s.take m).map uH)) (ws:=[Lp,(aB y.s (m)).s,dZ (aB y.s (m)).p,bY (aB y.s (m)).q]) (q3.app (kK (fun x hx=>dG (Id (hy.s x hx)) (by simp)) _)) (by simp only[cJ,dP,dU,List.length_cons,List.length_nil,jW,kG,kE,kD,mJ];omega) (dG (Id (hy.s (aB y.s (m)) (aS (l:=y.s) (by omega)))) (by simp)) (by simp)) aA ⟨oe rfl rfl,aD rfl,rfl⟩ ⟨rfl,rfl,rfl⟩ (ok:=[some ⟨95,0,[.pt 0 0,.t (.s true 5 1 (cN (((ls++kG y)++(y.s.take m).map uH)++[bJ [Lp,(aB y.s (m)).s,dZ (aB y.s (m)).p,bY (aB y.s (m)).q]])).length (bS (cN (((ls++kG y)++(y.s.take m).map uH)++[bJ [Lp,(aB y.s (m)).s,dZ (aB y.s (m)).p,bY (aB y.s (m)).q]]))))]⟩,some ⟨9,1,([Lp,(aB y.s (m)).s,dZ (aB y.s (m)).p,bY (aB y.s (m)).q].map sT).map .t⟩]) ⟨oe rfl rfl,aD rfl,rfl⟩ ⟨rfl,rfl,trivial⟩ ?_
  refine aJ ?_;refine rl (o1 ?_);refine aY 97 (m+1) ?_
  refine o1 ?_;refine nl ?_
  exact⟨m+1,by omega,⟨by omega,trivial⟩,uJ h0 [0,1] ⟨oe rfl (jM (eT (d:=nilIt) (g:=uH) (by omega))),aD rfl,rfl⟩⟩
 refine ex (sq (rl (o1 ?_)));refine ld ?_;refine o1 ?_;refine o1 ?_;refine nl (bl ?_)
 refine lp (γ:=Nat) (fun n9=>bP [(0,pN 0),(99,.one (.t (fN 116 5 pF y.o))),(100,iN y.o.length),(101,iN n9)]) (fun n9=>[(⟨95,0,[.pt 0 0,.t (.s true 5 1 (cN ((ls++jW y)++(y.o.take n9).map tP)).length (bS (cN ((ls++jW y)++(y.o.take n9).map tP))))]⟩:Ob)].map some) (fun n9=>n9<=y.o.length/\True) (fun n9=>y.o.length-n9) 0 ⟨Nat.zero_le _,trivial⟩ (uJ h0 [0] ⟨oe rfl (jM (by rw[cT (by omega)];simp[jW])),rfl⟩) fun n9 hn9=>?_
 refine sq (rl (o1 ?_));refine nl (sq ?_);refine aV rfl (fun h5=>?_) (fun h5=>?_)
 ·refine sk (sq (bl (sq (rl (o1 ?_)))))
  refine cX (pF (aB y.o (n9))) (cM 5 0 gR (aI (by omega)) rfl) ?_
  refine al 1 ?_;refine st ?_;refine nl ?_;refine bU [1] [] ?_
  refine dv 0 ?_;refine dv 1 ?_;refine dv 2 ?_;refine dv 3 ?_;refine aF 4 ?_;refine dv 5 ?_;refine aF 6 ?_
  refine aG 7 rfl (lO ((hy.o (aB y.o (n9)) (aS (l:=y.o) (by omega))).p).qn ((hy.o (aB y.o (n9)) (aS (l:=y.o) (by omega))).p).sz (by omega)) aA (aM rfl) _ ?_
  refine dA (key:=2) 8 (by kernel_rfl) rfl rfl aR rfl ⟨rfl,trivial⟩ ?_
  refine uI 9 3 [0,2] rfl (qU (ls:=((ls++jW y)++(y.o.take n9).map tP)) (ws:=[Lq,(aB y.o (n9)).s,bY (aB y.o (n9)).p]) (q4.app (kK (fun x hx=>dG (Nw (hy.o x hx)) (by simp)) _)) (by simp only[cJ,dP,dU,List.length_cons,List.length_nil,jW,kG,kE,kD,mJ];omega) (dG (Nw (hy.o (aB y.o (n9)) (aS (l:=y.o) (by omega)))) (by simp)) (by simp)) aA ⟨oe rfl rfl,aD rfl,rfl⟩ ⟨rfl,rfl,rfl⟩ (ok:=[some ⟨95,0,[.pt 0 0,.t (.s true 5 1 (cN (((ls++jW y)++(y.o.take n9).map tP)++[bJ [Lq,(aB y.o (n9)).s,bY (aB y.o (n9)).p]])).length (bS (cN (((ls++jW y)++(y.o.take n9).map tP)++[bJ [Lq,(aB y.o (n9)).s,bY (aB y.o (n9)).p]]))))]⟩,some ⟨9,1,([Lq,(aB y.o (n9)).s,bY (aB y.o (n9)).p].map sT).map .t⟩]) ⟨oe rfl rfl,aD rfl,rfl⟩ ⟨rfl,trivial⟩ ?_
  refine aJ ?_;refine rl (o1 ?_);refine aY 115 (n9+1) ?_
  refine o1 ?_;refine nl ?_
  exact⟨n9+1,by omega,⟨by omega,trivial⟩,uJ h0 [0] ⟨oe rfl (jM (eT (d:=nilIt) (g:=tP) (by omega))),rfl⟩⟩
 refine ex ?_
 exact xY (lent':=[⟨95,0,[.pt 0 0,.t (.s true 5 1 (cN (ls++yrL y)).length (bS (cN (ls++yrL y))))]⟩]) (.inr rfl) rfl Pb (by decide) (fun _ h=>by cases h) ⟨⟨rfl,rfl⟩,trivial⟩ ⟨jM (by rw[cT (by omega)];simp[yrL]),trivial⟩ ⟨rfl,trivial⟩ (fun h=>by cases h) ⟨rfl,rfl⟩
theorem VV {f:Fil}(hf:OkF f):aE false Tryz.prog 20 [⟨95,0,[tv (.pointer none),.t (.s true 5 1 (cN []).length (bS (cN [])))]⟩] [.one (.pt 0 0),.agg ((cZ false f).map .t)] (Rt [⟨95,0,[.pt 0 0,.t (.s true 5 1 (cN (iJ f)).length (bS (cN (iJ f))))]⟩] (.tup [])):=by
 refine Hj Tryz.func20 rfl Tryz.ntmps20 rfl aR rfl fun N9 M9 w9 c0 h0=>?_
 have hbr:=hf.brl
 have hcl:=hf.cll
 have hen:=hf.enl
 have hA:∀w∈[xI,f.nm,f.pa],gK w:=bH (hG rfl) (bH hf.nm.w (bH hf.pa.w eX))
 have q0:OkLs (hd0 f):=fO (dG hA (by simp))
 have hT:∀w∈[nY,bY f.th],gK w:=bH (hG rfl) (bH (mD hf.th) eX)
 have hC:∀w∈[qE,bY f.cp],gK w:=bH (hG rfl) (bH (mD hf.cp) eX)
 have hB:∀w∈[tN,eB f.bk],gK w:=bH (hG rfl) (bH (pO hf.bk.1 hf.bk.2) eX)
 have hW:∀w∈[wM,eB f.fw],gK w:=bH (hG rfl) (bH (pO hf.fw.1 hf.fw.2) eX)
 have hI:∀w∈[Bd,bY f.it,dZ f.fl,eB f.kp],gK w:=bH (hG rfl) (bH (mD hf.it) (bH (pM hf.fl) (bH (pO hf.kp.1 hf.kp.2) eX)))
 have q1:OkLs (hd1 f):=q0.app (gL fun x hx=>dG (sR (hf.br x hx)) (by simp))
 have q2:OkLs (hd2 f):=((((q1.app (fO (dG hT (by simp)))).app (fO (dG hC (by simp)))).app (fO (dG hB (by simp)))).app (fO (dG hW (by simp)))).app (fO (dG hI (by simp)))
 have q3:OkLs (lQ f):=q2.app (gL fun x hx=>Ie (hf.cl x hx))
 refine sq (rl (bx 1 ?_));refine nl (sq ?_);refine bU [1] [] ?_
 refine dv 0 ?_;refine dv 1 ?_;refine dv 2 ?_;refine dv 3 ?_;refine aF 4 ?_;refine dv 5 ?_;refine aF 6 ?_;refine dA (key:=2) 7 (by kernel_rfl) rfl rfl aR rfl ⟨rfl,trivial⟩ ?_
 refine uI 8 3 [0,2] rfl (aCt (ls:=[]) (ws:=[xI,f.nm,f.pa]) (fun _ h=>by cases h) (by simp) (dG hA (by simp)) (by simp)) aA ⟨oe rfl rfl,aD rfl,rfl⟩ ⟨rfl,rfl,rfl⟩ (ok:=[some ⟨95,0,[.pt 0 0,.t (.s true 5 1 (cN ([]++[bJ [xI,f.nm,f.pa]])).length (bS (cN ([]++[bJ [xI,f.nm,f.pa]]))))]⟩,some ⟨9,1,([xI,f.nm,f.pa].map sT).map .t⟩]) ⟨oe rfl rfl,aD rfl,rfl⟩ ⟨rfl,trivial⟩ ?_
 refine aJ ?_;refine sq (sq (rl (o1 ?_)));refine ld ?_;refine o1 ?_;refine o1 ?_;refine nl (bl ?_)
 refine lp (γ:=Nat) (fun k=>bP [(0,pN 0),(3,pN 1),(20,.one (.t (fN 70 8 tI f.br))),(21,iN f.br.length),(22,iN k)]) (fun k=>[(⟨95,0,[.pt 0 0,.t (.s true 5 1 (cN ((hd0 f)++(f.br.take k).map iX)).length (bS (cN ((hd0 f)++(f.br.take k).map iX))))]⟩:Ob),⟨32,0,(cZ false f).map .t⟩].map some) (fun k=>k<=f.br.length/\True) (fun k=>f.br.length-k) 0 ⟨Nat.zero_le _,trivial⟩ (uJ h0 [0,1] ⟨oe rfl (jM (by simp[hd0])),aD rfl,rfl⟩) fun k hk=>?_
 refine sq (rl (o1 ?_));refine nl (sq ?_);refine aV rfl (fun h1=>?_) (fun h1=>?_)
 ·refine sk (sq (bl (sq (rl (o1 ?_)))))
  refine cX (tI (aB f.br (k))) (cM 8 0 gQ (aI (by omega)) rfl) ?_
  refine al 2 ?_;refine st ?_;refine nl ?_;refine bU [1,2] [] ?_
  refine dv 0 ?_;refine dv 1 ?_;refine dv 2 ?_;refine dv 3 ?_;refine aF 4 ?_;refine dv 6 ?_;refine aF 7 ?_
  refine aG 5 rfl (uT ((hf.br (aB f.br (k)) (aS (l:=f.br) (by omega))).p).qn ((hf.br (aB f.br (k)) (aS (l:=f.br) (by omega))).p).sz (by omega)) aA (aM rfl) _ ?_
  refine aG 8 rfl (lO ((hf.br (aB f.br (k)) (aS (l:=f.br) (by omega))).q).qn ((hf.br (aB f.br (k)) (aS (l:=f.br) (by omega))).q).sz (by omega)) aA (aM rfl) _ ?_
  refine dA (key:=3) 9 (by kernel_rfl) rfl rfl aR rfl ⟨rfl,rfl,trivial⟩ ?_
  refine uI 10 4 [0,3] rfl (qU (ls:=((hd0 f)++(f.br.take k).map iX)) (ws:=[Ll,dZ (aB f.br (k)).p,bY (aB f.br (k)).q]) (q0.app (kK (fun x hx=>dG (sR (hf.br x hx)) (by simp)) _)) (by simp only[cJ,dP,dU,List.length_cons,List.length_nil,lQ,hd2,hd1,hd0];omega) (dG (sR (hf.br (aB f.br (k)) (aS (l:=f.br) (by omega)))) (by simp)) (by simp)) aA ⟨oe rfl rfl,aD rfl,rfl⟩ ⟨rfl,rfl,rfl⟩ (ok:=[some ⟨95,0,[.pt 0 0,.t (.s true 5 1 (cN (((hd0 f)++(f.br.take k).map iX)++[bJ [Ll,dZ (aB f.br (k)).p,bY (aB f.br (k)).q]])).length (bS (cN (((hd0 f)++(f.br.take k).map iX)++[bJ [Ll,dZ (aB f.br (k)).p,bY (aB f.br (k)).q]]))))]⟩,some ⟨9,1,([Ll,dZ (aB f.br (k)).p,bY (aB f.br (k)).q].map sT).map .t⟩]) ⟨oe rfl rfl,aD rfl,rfl⟩ ⟨rfl,rfl,trivial⟩ ?_
  refine aJ ?_;refine rl (o1 ?_);refine aY 37 (k+1) ?_
  refine o1 ?_;refine nl ?_
  exact⟨k+1,by omega,⟨by omega,trivial⟩,uJ h0 [0,1] ⟨oe rfl (jM (eT (d:=nilIt) (g:=iX) (by omega))),aD rfl,rfl⟩⟩
 refine ex (sq ?_);refine bU [1] [] ?_
 refine dv 0 ?_;refine dv 1 ?_;refine dv 2 ?_;refine dv 3 ?_;refine aF 4 ?_
 refine aG 5 rfl (lO (hf.th).qn (hf.th).sz (by omega)) aA (aM rfl) _ ?_
 refine dA (key:=2) 6 (by kernel_rfl) rfl rfl aR rfl ⟨rfl,trivial⟩ ?_
 refine uI 7 3 [0,2] rfl (qU (ls:=(hd0 f++(f.br.take k).map iX)) (ws:=[nY,bY f.th]) (q0.app (kK (fun x hx=>dG (sR (hf.br x hx)) (by simp)) k)) (by simp only[cJ,dP,dU,List.length_cons,List.length_nil,hd0];omega) (dG hT (by simp)) (by simp)) aA ⟨oe rfl rfl,aD rfl,rfl⟩ ⟨rfl,rfl,rfl⟩ (ok:=[some ⟨95,0,[.pt 0 0,.t (.s true 5 1 (cN ((hd0 f++(f.br.take k).map iX)++[bJ [nY,bY f.th]])).length (bS (cN ((hd0 f++(f.br.take k).map iX)++[bJ [nY,bY f.th]]))))]⟩,some ⟨9,1,([nY,bY f.th].map sT).map .t⟩]) ⟨oe rfl rfl,aD rfl,rfl⟩ ⟨rfl,trivial⟩ ?_
 refine aJ ?_;refine sq ?_;refine bU [1] [] ?_
 refine dv 0 ?_;refine dv 1 ?_;refine dv 2 ?_;refine dv 3 ?_;refine aF 4 ?_
 refine aG 5 rfl (lO (hf.cp).qn (hf.cp).sz (by omega)) aA (aM rfl) _ ?_
 refine dA (key:=3) 6 (by kernel_rfl) rfl rfl aR rfl ⟨rfl,trivial⟩ ?_
 refine uI 7 4 [0,3] rfl (qU (ls:=((hd0 f++(f.br.take k).map iX)++[bJ [nY,bY f.th]])) (ws:=[qE,bY f.cp]) ((q0.app (kK (fun x hx=>dG (sR (hf.br x hx)) (by simp)) k)).app (fO (dG hT (by simp)))) (by simp only[cJ,dP,dU,List.length_cons,List.length_nil,hd0];omega) (dG hC (by simp)) (by simp)) aA ⟨oe rfl rfl,aD rfl,rfl⟩ ⟨rfl,rfl,rfl⟩ (ok:=[some ⟨95,0,[.pt 0 0,.t (.s true 5 1 (cN (((hd0 f++(f.br.take k).map iX)++[bJ [nY,bY f.th]])++[bJ [qE,bY f.cp]])).length (bS (cN (((hd0 f++(f.br.take k).map iX)++[bJ [nY,bY f.th]])++[bJ [qE,bY f.cp]]))))]⟩,some ⟨9,1,([qE,bY f.cp].map sT).map .t⟩]) ⟨oe rfl rfl,aD rfl,rfl⟩ ⟨rfl,trivial⟩ ?_
 refine aJ ?_;refine sq ?_;refine bU [1] [] ?_
 refine dv 0 ?_;refine dv 1 ?_;refine dv 2 ?_;refine dv 3 ?_;refine aF 4 ?_;refine aG 5 rfl (zW hf.bk.1 hf.bk.2) aA (bC rfl) _ ?_
 refine dA (key:=4) 6 (by kernel_rfl) rfl rfl aR rfl ⟨rfl,trivial⟩ ?_
 refine uI 7 5 [0,4] rfl (qU (ls:=(((hd0 f++(f.br.take k).map iX)++[bJ [nY,bY f.th]])++[bJ [qE,bY f.cp]])) (ws:=[tN,eB f.bk]) (((q0.app (kK (fun x hx=>dG (sR (hf.br x hx)) (by simp)) k)).app (fO (dG hT (by simp)))).app (fO (dG hC (by simp)))) (by simp only[cJ,dP,dU,List.length_cons,List.length_nil,hd0];omega) (dG hB (by simp)) (by simp)) aA ⟨oe rfl rfl,aD rfl,rfl⟩ ⟨rfl,rfl,rfl⟩ (ok:=[some ⟨95,0,[.pt 0 0,.t (.s true 5 1 (cN ((((hd0 f++(f.br.take k).map iX)++[bJ [nY,bY f.th]])++[bJ [qE,bY f.cp]])++[bJ [tN,eB f.bk]])).length (bS (cN ((((hd0 f++(f.br.take k).map iX)++[bJ [nY,bY f.th]])++[bJ [qE,bY f.cp]])++[bJ [tN,eB f.bk]]))))]⟩,some ⟨9,1,([tN,eB f.bk].map sT).map .t⟩]) ⟨oe rfl rfl,aD rfl,rfl⟩ ⟨rfl,trivial⟩ ?_
 refine aJ ?_;refine sq ?_;refine bU [1] [] ?_
 refine dv 0 ?_;refine dv 1 ?_;refine dv 2 ?_;refine dv 3 ?_;refine aF 4 ?_;refine aG 5 rfl (zW hf.fw.1 hf.fw.2) aA (bC rfl) _ ?_
 refine dA (key:=5) 6 (by kernel_rfl) rfl rfl aR rfl ⟨rfl,trivial⟩ ?_
 refine uI 7 6 [0,5] rfl (qU (ls:=((((hd0 f++(f.br.take k).map iX)++[bJ [nY,bY f.th]])++[bJ [qE,bY f.cp]])++[bJ [tN,eB f.bk]])) (ws:=[wM,eB f.fw]) ((((q0.app (kK (fun x hx=>dG (sR (hf.br x hx)) (by simp)) k)).app (fO (dG hT (by simp)))).app (fO (dG hC (by simp)))).app (fO (dG hB (by simp)))) (by simp only[cJ,dP,dU,List.length_cons,List.length_nil,hd0];omega) (dG hW (by simp)) (by simp)) aA ⟨oe rfl rfl,aD rfl,rfl⟩ ⟨rfl,rfl,rfl⟩ (ok:=[some ⟨95,0,[.pt 0 0,.t (.s true 5 1 (cN (((((hd0 f++(f.br.take k).map iX)++[bJ [nY,bY f.th]])++[bJ [qE,bY f.cp]])++[bJ [tN,eB f.bk]])++[bJ [wM,eB f.fw]])).length (bS (cN (((((hd0 f++(f.br.take k).map iX)++[bJ [nY,bY f.th]])++[bJ [qE,bY f.cp]])++[bJ [tN,eB f.bk]])++[bJ [wM,eB f.fw]]))))]⟩,some ⟨9,1,([wM,eB f.fw].map sT).map .t⟩]) ⟨oe rfl rfl,aD rfl,rfl⟩ ⟨rfl,trivial⟩ ?_
 refine aJ ?_;refine sq ?_;refine bU [1] [] ?_
 refine dv 0 ?_;refine dv 1 ?_;refine dv 2 ?_;refine dv 3 ?_;refine aF 4 ?_;refine dv 6 ?_;refine aF 7 ?_;refine dv 9 ?_;refine aF 10 ?_
 refine aG 5 rfl (lO (hf.it).qn (hf.it).sz (by omega)) aA (aM rfl) _ ?_
 refine aG 8 rfl (uT (hf.fl).qn (hf.fl).sz (by omega)) aA (aM rfl) _ ?_
 refine aG 11 rfl (zW hf.kp.1 hf.kp.2) aA (bC rfl) _ ?_;refine dA (key:=6) 12 (by kernel_rfl) rfl rfl aR rfl ⟨rfl,trivial⟩ ?_
 refine uI 13 7 [0,6] rfl (qU (ls:=(((((hd0 f++(f.br.take k).map iX)++[bJ [nY,bY f.th]])++[bJ [qE,bY f.cp]])++[bJ [tN,eB f.bk]])++[bJ [wM,eB f.fw]])) (ws:=[Bd,bY f.it,dZ f.fl,eB f.kp]) (((((q0.app (kK (fun x hx=>dG (sR (hf.br x hx)) (by simp)) k)).app (fO (dG hT (by simp)))).app (fO (dG hC (by simp)))).app (fO (dG hB (by simp)))).app (fO (dG hW (by simp)))) (by simp only[cJ,dP,dU,List.length_cons,List.length_nil,hd0];omega) (dG hI (by simp)) (by simp)) aA ⟨oe rfl rfl,aD rfl,rfl⟩ ⟨rfl,rfl,rfl⟩ (ok:=[some ⟨95,0,[.pt 0 0,.t (.s true 5 1 (cN ((((((hd0 f++(f.br.take k).map iX)++[bJ [nY,bY f.th]])++[bJ [qE,bY f.cp]])++[bJ [tN,eB f.bk]])++[bJ [wM,eB f.fw]])++[bJ [Bd,bY f.it,dZ f.fl,eB f.kp]])).length (bS (cN ((((((hd0 f++(f.br.take k).map iX)++[bJ [nY,bY f.th]])++[bJ [qE,bY f.cp]])++[bJ [tN,eB f.bk]])++[bJ [wM,eB f.fw]])++[bJ [Bd,bY f.it,dZ f.fl,eB f.kp]]))))]⟩,some ⟨9,1,([Bd,bY f.it,dZ f.fl,eB f.kp].map sT).map .t⟩]) ⟨oe rfl rfl,aD rfl,rfl⟩ ⟨rfl,trivial⟩ ?_
 refine aJ ?_;refine sq (sq (rl (o1 ?_)));refine ld ?_;refine o1 ?_;refine o1 ?_;refine nl (bl ?_)
 refine lp (γ:=Nat) (fun i=>bP [(0,pN 0),(3,pN 1),(85,.one (.t (fN 64 6 nP f.cl))),(86,iN f.cl.length),(87,iN i)]) (fun i=>[(⟨95,0,[.pt 0 0,.t (.s true 5 1 (cN ((hd2 f)++(f.cl.take i).map jV)).length (bS (cN ((hd2 f)++(f.cl.take i).map jV))))]⟩:Ob),⟨32,0,(cZ false f).map .t⟩].map some) (fun i=>i<=f.cl.length/\True) (fun i=>f.cl.length-i) 0 ⟨Nat.zero_le _,trivial⟩ (uJ h0 [0,1] ⟨oe rfl (jM (by rw[cT (by omega)];simp[hd2,hd1])),aD rfl,rfl⟩) fun i hi=>?_
 refine sq (rl (o1 ?_));refine nl (sq ?_);refine aV rfl (fun h2=>?_) (fun h2=>?_)
 ·refine sk (sq (bl (sq (rl (o1 ?_)))))
  refine cX (nP (aB f.cl (i))) (cM 6 0 iH (aI (by omega)) rfl) ?_
  refine al 2 ?_;refine st ?_;refine nl ?_;refine bU [1,2] [] ?_
  refine dv 0 ?_;refine dv 1 ?_;refine dv 2 ?_;refine aF 3 ?_
  refine aG 4 rfl (Kc (hf.cl (aB f.cl (i)) (aS (l:=f.cl) (by omega)))) aA (aM rfl) _ ?_
  refine dA (key:=3) 5 (by kernel_rfl) rfl rfl aR rfl ⟨rfl,rfl,trivial⟩ ?_
  refine uI 6 4 [0,3] rfl (qU (ls:=((hd2 f)++(f.cl.take i).map jV)) (ws:=[jV (aB f.cl (i))]) (q2.app (kK (fun x hx=>Ie (hf.cl x hx)) _)) (by simp only[cJ,dP,dU,List.length_cons,List.length_nil,lQ,hd2,hd1,hd0];omega) (Ie (hf.cl (aB f.cl (i)) (aS (l:=f.cl) (by omega)))) (by simp)) aA ⟨oe rfl rfl,aD rfl,rfl⟩ ⟨rfl,rfl,rfl⟩ (ok:=[some ⟨95,0,[.pt 0 0,.t (.s true 5 1 (cN (((hd2 f)++(f.cl.take i).map jV)++[bJ [jV (aB f.cl (i))]])).length (bS (cN (((hd2 f)++(f.cl.take i).map jV)++[bJ [jV (aB f.cl (i))]]))))]⟩,some ⟨9,1,([jV (aB f.cl (i))].map sT).map .t⟩]) ⟨oe rfl rfl,aD rfl,rfl⟩ ⟨rfl,rfl,trivial⟩ ?_
  refine aJ ?_;refine rl (o1 ?_);refine aY 98 (i+1) ?_
  refine o1 ?_;refine nl ?_
  exact⟨i+1,by omega,⟨by omega,trivial⟩,uJ h0 [0,1] ⟨oe rfl (jM (eT (d:=nilIt) (g:=jV) (by omega))),aD rfl,rfl⟩⟩
 refine ex (sq (rl (o1 ?_)));refine ld ?_;refine o1 ?_;refine o1 ?_;refine nl (bl ?_)
 refine lp (γ:=Nat) (fun j=>bP [(0,pN 0),(100,.one (.t (yB 9 f.en))),(101,iN f.en.length),(102,iN j)]) (fun j=>[(⟨95,0,[.pt 0 0,.t (.s true 5 1 (cN ((lQ f)++(f.en.take j).map tO)).length (bS (cN ((lQ f)++(f.en.take j).map tO))))]⟩:Ob)].map some) (fun j=>j<=f.en.length/\True) (fun j=>f.en.length-j) 0 ⟨Nat.zero_le _,trivial⟩ (uJ h0 [0] ⟨oe rfl (jM (by rw[cT (by omega)];simp[lQ])),rfl⟩) fun j hj=>?_
 refine sq (rl (o1 ?_));refine nl (sq ?_);refine aV rfl (fun h3=>?_) (fun h3=>?_)
 ·refine sk (sq (bl (sq (rl (o1 ?_)))));refine cX ([sT (eQ f.en (j))]) (nF f.en (k:=j) (by omega)) ?_
  refine o1 ?_;refine nl (rl ?_);(iterate 4 refine o1 ?_);refine bs 1 ?_
  refine cl 2 [0,1] (qU (ls:=((lQ f)++(f.en.take j).map tO)) (ws:=[Uq,(eQ f.en (j))]) (q3.app (kK (fun x hx=>dG (Ye (hf.en x hx)) (by simp)) _)) (by simp only[cJ,dP,dU,List.length_cons,List.length_nil,lQ,hd2,hd1,hd0];omega) (dG (Ye (hf.en (eQ f.en (j)) (rZ (l:=f.en) (by omega)))) (by simp)) (by simp)) aA ⟨oe rfl rfl,aD rfl,rfl⟩ ⟨rfl,rfl,rfl⟩ (ok:=[some ⟨95,0,[.pt 0 0,.t (.s true 5 1 (cN (((lQ f)++(f.en.take j).map tO)++[bJ [Uq,(eQ f.en (j))]])).length (bS (cN (((lQ f)++(f.en.take j).map tO)++[bJ [Uq,(eQ f.en (j))]]))))]⟩,some ⟨9,1,([Uq,(eQ f.en (j))].map sT).map .t⟩]) ⟨oe rfl rfl,aD rfl,rfl⟩ ?_
  refine nl (rl (o1 ?_));refine aY 112 (j+1) ?_
  refine o1 ?_;refine nl ?_
  exact⟨j+1,by omega,⟨by omega,trivial⟩,uJ h0 [0] ⟨oe rfl (jM (eT (d:=[]) (g:=tO) (by omega))),rfl⟩⟩
 refine ex ?_
 exact xY (lent':=[⟨95,0,[.pt 0 0,.t (.s true 5 1 (cN (iJ f)).length (bS (cN (iJ f))))]⟩]) (.inr rfl) rfl Pb (by decide) (fun _ h=>by cases h) ⟨⟨rfl,rfl⟩,trivial⟩ ⟨jM (by rw[cT (by omega)];simp[iJ]),trivial⟩ ⟨rfl,trivial⟩ (fun h=>by cases h) ⟨rfl,rfl⟩
theorem Yl (w:World) (g n:Nat):Chg [g] w (w.drew.freeze ⟨g,0,none⟩ n):=by
 have h:Chg [g] w w.drew:=⟨(Below.drew (Below.refl 0 w)).os,(Below.drew (Below.refl 0 w)).tape,(Below.drew (Below.refl 0 w)).output,(Below.drew (Below.refl w.heap.size w)).size,fun k hk _=>(Below.drew (Below.refl w.heap.size w)).block k hk⟩
 unfold World.freeze
 split
 ·exact h
 exact⟨h.os,h.tape,h.output,by simp,fun k hk hne=>by
  rw[<-h.block k hk hne]
  simp only[Array.getElem?_modify]
  rw[if_neg (by simp at hne;omega)]⟩
set_option maxHeartbeats 2000000 in
theorem CK {T b g cap:Nat}{p:Value}{l:List UInt8}{cur:Array Value}(w:World) (hb:w.heap[b]? =some (.cells #[p,.slice (some ⟨g,0,none⟩) l.length cap] T (0,0))) (hg:w.heap[g]? =some (.cells cur 5 (0,0))) (hcap:l.length<=cap) (hcm:cap<=maxLen) (hcs:cur.size=cap) (hcell:∀(j:Nat) (x:UInt8),l[j]? =some x->cur[j]? =some (Value.int .u8 (x.toNat:Int))) (h0:l≠[]):
  Calls Tryz.prog 22 #[.pointer (some ⟨b,0,none⟩)] w (fun e w'=>e=.returned (.string ⟨l.toArray⟩)/\Chg [g] w w'):=by
 have mixed:=mixed
 have hl0:l.length≠0:=by simpa using h0
 have hb':w.drew.heap[b]? =some (.cells #[p,.slice (some ⟨g,0,none⟩) l.length cap] T (0,0)):=hb
 have hg':w.drew.heap[g]? =some (.cells cur 5 (0,0)):=hg
 have c1:w.drew.cell? ⟨b,1,none⟩=some (.slice (some ⟨g,0,none⟩) l.length cap):=by rw[Lib.cell_of_heap hb'];rfl
 have hSD:(Builtin.unsafeSliceData_ #[89] 154 #[.slice (some ⟨g,0,none⟩) l.length cap]).run Tryz.prog w.drew=.ok (.pointer (some ⟨g,0,none⟩)) w.drew:=Lib.run_unsafeSliceData_row _ _ _ _ _ _ (by omega)
 have hUS:(Builtin.unsafeString_ #[154,3] 9 #[.pointer (some ⟨g,0,none⟩),.int .i64 l.length]).run Tryz.prog w.drew=.ok (.string ⟨l.toArray⟩) (w.drew.freeze ⟨g,0,none⟩ l.length):=by
  refine Lib.run_unsafeString_row w.drew 154 3 9 5 Tryz.underlying154 (by kernel_rfl) g cur.size (by simp[World.shape?,hg']) l h0 (by omega) (by unfold maxLen at hcm;omega) ?_
  intro j x hx
  rw[kM,Nat.zero_add,Lib.cell_of_heap hg']
  exact hcell j x hx
 go_enter Tryz.func22,Tryz.ntmps22
 go_wp2
 go_region_o
 all_goals (go_wp2;go_ret;exact⟨rfl,Yl _ _ _⟩)
theorem CL {W:World}{N:Nat->Prop}:∀{l:List Nat}{l':List VT},ORL W N (bS l) l'->l'.map VT.val=l.map fun n:Nat=>Value.int .u8 (n:Int)
 | [],l',h=>by
  simp only[bS,List.map_nil,ORL]at h
  subst h
  rfl
 | n::l,[],h=>by simp[bS,ORL]at h
 | n::l,y::l',h=>by
  have h':OR W N (.v (.int .u8 (n:Int))) y/\ORL W N (bS l) l':=h
  obtain⟨h1,h2⟩:=h'
  simp only[OR]at h1
  subst h1
  rw[List.map_cons,List.map_cons,CL h2]
  rfl
theorem GS {T:Nat}{l:List Nat}(hl:Lim 256 l) (h0:l≠[]):wQ true Tryz.prog 22 [⟨T,0,[.pt 0 0,.t (.s true 5 1 l.length (bS l))]⟩] [.one (.pt 0 0)] (· =.one (tv (.string (aN l)))):=by
 intro N w cs us hL
 have hs:=Sh.off (hL.sh 0 rfl)
 obtain⟨hobs,hfv⟩:=hs
 obtain⟨u,rfl⟩:∃u,us=[u]:=by
  match us,hfv with
  | [u],_=>exact⟨u,rfl⟩
  | [],h=>simp only[dM]at h
  | u::v::us,h=>
   simp only[dM]at h
   exact absurd h.2 (by simp)
 simp only[dM,cE,AR,and_true]at hfv
 obtain⟨b,hb,rfl⟩:=hfv
 obtain⟨hlen,hget⟩:=hobs
 have hcr:=(hget 0 _ rfl).1
 obtain⟨c0,rfl⟩:∃c0,cs=[c0]:=by
  match cs,hlen with
  | [c0],_=>exact⟨c0,rfl⟩
  | [],h=>simp[bR]at h
  | _::_::_,h=>simp[bR]at h
 have hc0:co [c0] 0=c0:=rfl
 rw[hc0]at hb hcr
 change bZ w _ [c0] [.pt 0 0,.t (.s true 5 1 l.length (bS l))] c0.l at hcr
 have hres:=hL.res (aQ (some ⟨T,0,[.pt 0 0,.t (.s true 5 1 l.length (bS l))]⟩) c0) (by simp[aL,bR,Lt.ob])
 simp only[aQ,hb]at hres
 obtain⟨c0b,c0c,c0l⟩:=c0
 dsimp only at hb hcr hres
 subst hb
 match c0l,hcr with
 | [y0,y1],hcr=>
  simp only[bZ,CR]at hcr
  obtain⟨_,hy,_⟩:=hcr
  match y1,hy with
  | .s g cap t' z' n' l',hy=>
   simp only[OR]at hy
   obtain⟨_,rfl,rfl,rfl,ho⟩:=hy
   obtain⟨⟨rest,h1,h2⟩,hok,_⟩:=hres
   simp only[VT.okL,VT.ok]at hok
   obtain⟨_,⟨⟨rest2,q1,q2⟩,q3,q4,_⟩,_⟩:=hok
   have hv:=CL ho
   have hr:rest=[]:=by simpa using h2
   subst hr
   have hg:g∈(aL (bR [⟨T,0,[.pt 0 0,.t (.s true 5 1 l.length (bS l))]⟩]) [⟨some b,c0c,[y0,.s g cap 5 1 l.length l']⟩]).flatMap Res.S:=by
    simp[aL,bR,aQ,VT.fpL,VT.fp]
   refine(CK (T:=T) (g:=g) (cap:=cap) (p:=y0.val) (l:=l.map UInt8.ofNat) (cur:=(l'.map VT.val++rest2).toArray) w (by rw[dP];simpa[VT.val]using h1) q1 (by rw[dP];exact q3) q4 (by simpa using q2) (fun j x hx=>?_) (by simpa using h0)).mono ?_
   ·rw[hv]
    simp only[List.getElem?_map,Option.map_eq_some_iff]at hx
    obtain⟨n,hn,rfl⟩:=hx
    have hj:=(List.getElem?_eq_some_iff.1 hn).1
    have hn2:=hl n (List.mem_of_getElem? hn)
    simp only[List.getElem?_toArray]
    rw[List.getElem?_append_left (by rw[dP];exact hj),List.getElem?_map,hn]
    simp[Nat.mod_eq_of_lt hn2]
   rintro e W ⟨rfl,hc⟩
   refine⟨.string (aN l),_,[.w (.string (aN l))],rfl,rfl,⟨hc.os,hc.tape,hc.output,hc.size,fun k hk hne=>hc.block k hk (fun h=>hne (by rw[List.mem_singleton]at h;rw[h];exact hg))⟩,?_,?_,?_,?_⟩
   ·intro r hr
    rw[List.mem_singleton]at hr
    subst hr
    simp[gG,VT.okL,VT.ok]
   ·intro k hk
    simp[gG,VT.fpL,VT.fp]at hk
   ·simp[gG,VT.fpL,VT.fp]
   intro q hq
   rw[List.mem_singleton]at hq
   subst hq
   exact⟨⟨rfl,fun k o hk=>by simp[bR]at hk⟩,⟨.w (.string (aN l)),rfl,rfl,by simp[CR,tv,OR]⟩⟩
  | .w u,hy=>
   simp only[OR]at hy
   rcases hy with⟨_,h,_⟩ | ⟨h,_⟩
   ·exact absurd (List.eq_nil_of_length_eq_zero h) h0
   cases h
 | [],hcr=>exact(hcr:False).elim
 | [y0],hcr=>exact((hcr:_/\False).2).elim
 | y0::y1::y2::r,hcr=>cases (hcr:_/\_/\(y2::r)=[]).2.2
theorem aCu {k:Nat}{a b:List (List Nat)}(h:a=b):some (⟨95,0,[.pt k 0,.t (.s true 5 1 (cN a).length (bS (cN a)))]⟩:Ob)=some ⟨95,0,[.pt k 0,.t (.s true 5 1 (cN b).length (bS (cN b)))]⟩:=by rw[h]
theorem CM {f:Fil}(hf:OkF f):OkLs (iJ f)/\(iJ f).length<=1000:=by
 have hbr:=hf.brl
 have hcl:=hf.cll
 have hen:=hf.enl
 have hA:∀w∈[xI,f.nm,f.pa],gK w:=bH (hG rfl) (bH hf.nm.w (bH hf.pa.w eX))
 have hT:∀w∈[nY,bY f.th],gK w:=bH (hG rfl) (bH (mD hf.th) eX)
 have hC:∀w∈[qE,bY f.cp],gK w:=bH (hG rfl) (bH (mD hf.cp) eX)
 have hB:∀w∈[tN,eB f.bk],gK w:=bH (hG rfl) (bH (pO hf.bk.1 hf.bk.2) eX)
 have hW:∀w∈[wM,eB f.fw],gK w:=bH (hG rfl) (bH (pO hf.fw.1 hf.fw.2) eX)
 have hI:∀w∈[Bd,bY f.it,dZ f.fl,eB f.kp],gK w:=bH (hG rfl) (bH (mD hf.it) (bH (pM hf.fl) (bH (pO hf.kp.1 hf.kp.2) eX)))
 have q0:OkLs (hd0 f):=fO (dG hA (by simp))
 have q1:OkLs (hd1 f):=q0.app (gL fun x hx=>dG (sR (hf.br x hx)) (by simp))
 have q2:OkLs (hd2 f):=((((q1.app (fO (dG hT (by simp)))).app (fO (dG hC (by simp)))).app (fO (dG hB (by simp)))).app (fO (dG hW (by simp)))).app (fO (dG hI (by simp)))
 have q3:OkLs (lQ f):=q2.app (gL fun x hx=>Ie (hf.cl x hx))
 refine⟨q3.app (gL fun x hx=>dG (Ye (hf.en x hx)) (by simp)),?_⟩
 simp only[iJ,lQ,hd2,hd1,hd0,cJ,dP,List.length_cons,List.length_nil]
 omega
theorem CN {y:Yer}(hy:OkY y):OkLs (yrL y)/\(yrL y).length<=201:=by
 have hhl:=hy.hl
 have hbl:=hy.bl
 have hdl:=hy.dl
 have hsl:=hy.sl
 have hol:=hy.ol
 have hY:∀w∈[Lm,eB y.n],gK w:=bH (hG rfl) (bH (pO hy.n.1 hy.n.2) eX)
 have q0:OkLs (mJ y):=fO (dG hY (by simp))
 have q1:OkLs (kD y):=q0.app (gL fun x hx=>dG (Ib (hy.h x hx)) (by simp))
 have q2:OkLs (kE y):=q1.app (gL fun x hx=>dG (Ic (hy.b x hx)) (by simp))
 have q3:OkLs (kG y):=q2.app (gL fun x hx=>If (hy.d x hx))
 have q4:OkLs (jW y):=q3.app (gL fun x hx=>dG (Id (hy.s x hx)) (by simp))
 refine⟨q4.app (gL fun x hx=>dG (Nw (hy.o x hx)) (by simp)),?_⟩
 simp only[yrL,jW,kG,kE,kD,mJ,cJ,dP,List.length_cons,List.length_nil]
 omega
theorem Ym:∀{ys:List Yer},(∀y∈ys,OkY y)->OkLs (ys.flatMap yrL)/\(ys.flatMap yrL).length<=ys.length*201
 | [],_=>⟨by simp[OkLs],by simp⟩
 | y::ys,h=>by
  have h1:=CN (h y (List.mem_cons_self ..))
  have h2:=Ym fun z hz=>h z (List.mem_cons_of_mem _ hz)
  rw[List.flatMap_cons]
  refine⟨h1.1.app h2.1,?_⟩
  rw[cJ,List.length_cons]
  omega
theorem Ij {f:Fil}(hf:OkF f) (k:Nat):OkLs (iJ f++(f.ys.take k).flatMap yrL)/\(iJ f++(f.ys.take k).flatMap yrL).length<=70000:=by
 have h1:=CM hf
 have h2:=Ym (ys:=f.ys.take k) fun y hy=>hf.ys y (List.mem_of_mem_take hy)
 have h3:=hf.ysl
 have h4:(f.ys.take k).length<=f.ys.length:=by rw[dU];omega
 refine⟨h1.1.app h2.1,?_⟩
 rw[cJ]
 omega
theorem OG {f:Fil}(hf:OkF f):OkLs (Ce f):=(CM hf).1.app (Ym hf.ys).1
theorem VW {f:Fil}:cN (Ce f)≠[]:=by
 simp[Ce,iJ,lQ,hd2,hd1,hd0,cN]
theorem Qf {pre:List (List Nat)}{xs:List Yer}{k:Nat}(h:k<xs.length):pre++(xs.take k).flatMap yrL++yrL (aC xs k)=pre++(xs.take (k+1)).flatMap yrL:=by
 rw[List.take_add_one,List.flatMap_append,List.append_assoc]
 simp[aC,h]
def Ux (f:Fil):List Nat:=if iS f=0 then cN (Ce f)else []
theorem KV {f:Fil}(h:iS f≠0):FV.tup [.one (tv (.string (aN []))),.one (tv (.int .i64 ((iS f:Nat):Int)))]=.tup [.one (tv (.string (aN (Ux f)))),.one (tv (.int .i64 ((iS f:Nat):Int)))]:=by rw[Ux,if_neg h]
theorem KW {f:Fil}(h:iS f=0):FV.tup [.one (tv (.string (aN (cN (Ce f))))),.one (tv (.int .i64 0))]=.tup [.one (tv (.string (aN (Ux f)))),.one (tv (.int .i64 ((iS f:Nat):Int)))]:=by rw[Ux,if_pos h,h];rfl
theorem Uy {f:Fil}(hf:OkF f):aE true Tryz.prog 7 [] [.agg ((cZ false f).map .t)] (aP (.tup [.one (tv (.string (aN (Ux f)))),.one (tv (.int .i64 ((iS f:Nat):Int)))])):=by
 refine bD Tryz.func7 Tryz.ntmps7 fun N9 w9 c0 h0=>?_
 have hysl:=hf.ysl
 refine sq (rl (bx 0 ?_));refine o1 ?_;refine o1 ?_;refine nl (sq (sq (rl (ld ?_))))
 refine VO (OE hf) aA (aM rfl) (fun r9 hr9=>?_)
 obtain⟨a9,b9,c9,rfl⟩:=hr9
 (iterate 3 refine o1 ?_);refine al 1 ?_;refine st ?_;refine o1 ?_;refine nl (sq (rl (o1 ?_)));refine o1 ?_;refine nl ?_;refine aV rfl (fun h1=>?_) (fun h1=>?_)
 ·refine sq (rl ?_);(iterate 3 refine o1 ?_);refine nl (rt ?_)
  exact en (.inl rfl) rfl (gP (.cons (bO _) (.cons (bO _) .nil))) (by decide) (fun _=>⟨trivial,trivial,trivial⟩) (KV (by omega))
 refine sk (sq (rl (o1 ?_)));refine bx 2 ?_;refine o1 ?_;refine nl (sq ?_)
 refine WP.sub ((Bp (j:=2) (key:=3) (e:=5) (z:=1) rfl rfl rfl (.id (.sl .nil))).trans (KR (j:=2) (k:=3) (p:=1) (e:=5) (z:=1) (n:=0) (trs:=[]) rfl rfl rfl rfl rfl rfl rfl rfl)) ?_
 refine rl (o1 ?_);refine ld ?_
 refine cl 4 [2] (VV hf) aA ⟨oe rfl rfl,rfl⟩ ⟨rfl,rfl,rfl⟩ (ok:=[some ⟨95,0,[.pt 2 0,.t (.s true 5 1 (cN (iJ f)).length (bS (cN (iJ f))))]⟩]) ⟨oe rfl rfl,rfl⟩ ?_;refine nl ?_
 refine sq (sq (rl (o1 ?_)));refine ld ?_;refine o1 ?_;refine o1 ?_;refine nl (bl ?_)
 refine lp (γ:=Nat) (fun k=>bP [(6,pN 0),(23,.one (.t (xF false f.ys))),(24,iN f.ys.length),(25,iN k)]) (fun k=>[(⟨95,0,[.pt 0 0,.t (.s true 5 1 (cN (iJ f++(f.ys.take k).flatMap yrL)).length (bS (cN (iJ f++(f.ys.take k).flatMap yrL))))]⟩:Ob)].map some) (fun k=>k<=f.ys.length/\True) (fun k=>f.ys.length-k) 0 ⟨Nat.zero_le _,trivial⟩ (aH h0 [2] ⟨oe rfl (aCu (k:=2) (by rw[List.take_zero,List.flatMap_nil,List.append_nil])),rfl⟩) fun k hk=>?_
 refine sq (rl (o1 ?_));refine nl (sq ?_);refine aV rfl (fun h2=>?_) (fun h2=>?_)
 ·refine sk (sq (bl (sq (rl (o1 ?_)))))
  refine cX ((cV false) (aC f.ys (k))) (cM 6 0 (gE false) (fZ (by omega)) rfl) ?_
  refine al 1 ?_;refine st ?_;refine nl (rl (o1 ?_));refine ld ?_
  refine cl 2 [0] (VU (ls:=(iJ f++(f.ys.take k).flatMap yrL)) (y:=(aC f.ys (k))) (Ij hf _).1 (Ij hf _).2 (hf.ys _ (jB (by omega)))) aA ⟨oe rfl rfl,rfl⟩ ⟨rfl,rfl,rfl⟩ (ok:=[some ⟨95,0,[.pt 0 0,.t (.s true 5 1 (cN ((iJ f++(f.ys.take k).flatMap yrL)++yrL (aC f.ys (k)))).length (bS (cN ((iJ f++(f.ys.take k).flatMap yrL)++yrL (aC f.ys (k))))))]⟩]) ⟨oe rfl rfl,rfl⟩ ?_
  refine nl (rl (o1 ?_));refine aY 32 (k+1) ?_
  refine o1 ?_;refine nl ?_;exact⟨k+1,by omega,⟨by omega,trivial⟩,aH h0 [0] ⟨oe rfl (jM (Qf (by omega))),rfl⟩⟩
 refine ex (sq (rl ?_));(iterate 4 refine o1 ?_)
 refine cm 1 [0] (GS (T:=95) (l:=cN (Ce f)) (Ut (OG hf)) VW) aA ⟨oe rfl (jM (by show _=iJ f++_;rw[cT (by omega)])),rfl⟩ ⟨rfl,rfl⟩ ?_
 refine o1 ?_;refine o1 ?_;refine nl (rt ?_);exact en (.inl rfl) rfl (gP (.cons (bO _) (.cons (bO _) .nil))) (by decide) (fun _=>⟨trivial,trivial,trivial⟩) (KW (by omega))
theorem aAX {ws:List (List Nat)}{k:Nat}(hk:k<ws.length) (h0:0<k):bJ (ws.take k)++[32]++eQ ws k=bJ (ws.take (k+1)):=by
 have e:ws.take (k+1)=ws.take k++[eQ ws k]:=by
  rw[List.take_add_one]
  simp[eQ,hk]
 rw[e,Fw (by intro h;have:=congrArg List.length h;rw[dU,List.length_nil]at this;omega)]
 simp
theorem aAY {ws:List (List Nat)}(hk:0<ws.length):[]++eQ ws 0=bJ (ws.take (0+1)):=by
 match ws,hk with
 | x::ws,_=>rfl
theorem aAZ {ws:List (List Nat)}{k:Nat}(h0:k=0) (hk:k<ws.length):bJ (ws.take k)++eQ ws k=bJ (ws.take (k+1)):=by
 subst h0
 exact aAY hk
theorem aBa {ws:List (List Nat)}{k:Nat}(h:∀w∈ws,gK w) (hn:ws.length<=7):(bJ (ws.take k)).length<=1500000000:=by
 have h1:=(zT (ws:=ws.take k) fun w hw=>h w (List.mem_of_mem_take hw)).2
 have h2:(ws.take k).length<=ws.length:=by rw[dU];omega
 omega
theorem aBb {ws:List (List Nat)}{k:Nat}(h:∀w∈ws,gK w) (hk:k<ws.length):(eQ ws k).length<=200000000:=(h _ (rZ hk)).2
theorem eJ {j:Nat}{n m:Nat}(h:n=m):some (FV.one (.sl j 0 n))=some (.one (.sl j 0 m)):=by rw[h]
theorem GU (a:List Nat){b:List Nat}(h:a=b):some (FV.one (tv (.string (aN a))))=some (.one (tv (.string (aN b)))):=by rw[h]
theorem sB {a:Fr4}(ha:Ok6 a):aE true Tryz.prog 25 [] [qF a] (aP (.one (tv (.string (aN (dZ a)))))):=by
 refine bD Tryz.func25 Tryz.ntmps25 fun N9 w9 c0 h0=>?_
 refine sq (rl (bx 0 ?_));refine o1 ?_;refine nl (sq (rl (ld ?_)))
 refine ca (Yc (n:=2) ha.qn ha.sz (by omega)) aA ⟨nD rfl,a1 rfl,rfl⟩ _ ?_
 refine o1 ?_;refine nl (rt ?_);exact fW (.inl rfl) rfl (rfl)
theorem zX {n:Int}(h1:-9223372036854775808<=n) (h2:n<=9223372036854775807):aE true Tryz.prog 27 [] [.one (tv (.int .i64 n))] (aP (.one (tv (.string (aN (eB n)))))):=by
 refine bD Tryz.func27 Tryz.ntmps27 fun N9 w9 c0 h0=>?_
 refine sq (rl (o1 ?_));refine nl (sq (rl (o1 ?_)));refine ca (jA (n:=n) h1 h2) aA (bC rfl) _ ?_
 refine ca (BV (k:=n) (Zn.of (k:=n) (eS h1 h2)) (Nat.le_trans (KS h1 h2) (by omega))) aA (aM rfl) _ ?_
 refine o1 ?_;refine nl (rt ?_);exact fW (.inl rfl) rfl (rfl)
theorem mL {ws:List (List Nat)}(hw:∀w∈ws,gK w) (hn:ws.length<=7):aE true Tryz.prog 24 [] [.one (.t (yB 9 ws))] (aP (.one (tv (.string (aN (bJ ws)))))):=by
 refine bD Tryz.func24 Tryz.ntmps24 fun N9 w9 c0 h0=>?_
 have hl9:ws.length<=7:=hn
 refine sq (rl (o1 ?_));refine nl (sq (rl (o1 ?_)));refine nl (sq (sq (rl (o1 ?_))));refine nl (bl ?_)
 refine lp (γ:=Nat) (fun s=>bP [(0,.one (.t (yB 9 ws))),(4,iN s),(3,.one (tv (.string (aN (bJ (ws.take s))))))]) (fun s=>([]:List Ob).map some) (fun s=>s<=ws.length) (fun s=>ws.length-s) 0 (Nat.zero_le _) (aH h0 [] rfl) ?_
 rintro k hk;refine sq (sq (rl ?_));(iterate 4 refine o1 ?_);refine nl ?_;refine aV rfl (fun h1=>?_) (fun h1=>?_)
 ·refine sk (sq (bl (sq (sq ?_))));have hJ:=aBa (k:=k) hw hn
  have hN:=aBb (k:=k) hw (by omega)
  refine rl (o1 ?_);refine o1 ?_;refine nl ?_;refine aV rfl (fun h2=>?_) (fun h2=>?_)
  ·refine rl (o1 ?_);refine o1 ?_ (hC:=(by rw[aO];show _+1<=_;omega))
   refine lZ 14 ((bJ (ws.take k))++[32]) rfl (eK _ [32]) ?_;refine o1 ?_;refine nl (rl ?_);(iterate 4 refine o1 ?_)
   refine cX ([sT (eQ ws (k))]) (nF ws (k:=k) (by omega)) ?_
   refine o1 ?_ (hC:=(by rw[aO,aO,cJ];show _+1+_<=_;omega))
   refine lZ 20 (((bJ (ws.take k))++[32])++eQ ws k) rfl (eK _ _) ?_;refine o1 ?_;refine nl (rl (o1 ?_))
   refine o1 ?_;refine aY 10 (k+1) ?_
   refine o1 ?_;refine nl ?_;exact⟨k+1,by omega,(by omega),dC h0 [] _ _ (by decide) ⟨rfl,rfl,GU _ (aAX (by omega) (by omega)).symm,trivial⟩ rfl⟩
  refine sk ?_;have hk0:k=0:=by omega
  refine rl ?_;(iterate 4 refine o1 ?_);refine cX ([sT (eQ ws (k))]) (nF ws (k:=k) (by omega)) ?_
  refine o1 ?_ (hC:=(by rw[aO,aO];omega))
  refine lZ 20 ((bJ (ws.take k))++eQ ws k) rfl (eK _ _) ?_;refine o1 ?_;refine nl (rl (o1 ?_));refine o1 ?_
  refine aY 10 (k+1) ?_
  refine o1 ?_;refine nl ?_;exact⟨k+1,by omega,(by omega),dC h0 [] _ _ (by decide) ⟨rfl,rfl,GU _ (aAZ hk0 (by omega)).symm,trivial⟩ rfl⟩
 refine ex (sq (rl (o1 ?_)));refine o1 ?_;refine nl (rt ?_)
 exact fW (.inl rfl) rfl (by rw[cT (by omega)])
theorem Qg {ls:List (List Nat)}{k:Nat}(hk:k<256):aE true Tryz.prog 69 [] [.one (tv (.int .u8 ((k:Nat):Int))),.one (.t (yB 9 ls))] (aP (.one (tv (.string (aN (ls.getD k [])))))):=by
 refine bD Tryz.func69 Tryz.ntmps69 fun N9 w9 c0 h0=>?_
 refine sq (rl (o1 ?_));refine nl (sq (sq (rl (o1 ?_))));refine o1 ?_
 refine aY 6 (k) ?_
 (iterate 3 refine o1 ?_);refine nl ?_;refine aV rfl (fun h1=>?_) (fun h1=>?_)
 ·refine sq (rl ?_);(iterate 3 refine o1 ?_);refine cX ([sT (eQ ls (k))]) (nF ls (k:=k) (by omega)) ?_
  refine o1 ?_;refine nl (rt ?_);exact fW (.inl rfl) rfl (congrArg aN (VP (by omega)))
 refine sk (sq (rl (o1 ?_)));refine nl (rt ?_)
 exact fW (.inl rfl) rfl (congrArg aN (VQ (by omega)))
theorem OH {x:It}(hx:OkI x):aE true Tryz.prog 28 [] [.agg ((nP x).map .t)] (aP (.one (tv (.string (aN (jV x)))))):=by
 refine bD Tryz.func28 Tryz.ntmps28 fun N9 w9 c0 h0=>?_
 have hA:=Nv hx
 refine sq (rl (bx 0 ?_));refine o1 ?_;refine nl (sq ?_);refine bU [0] [7] ?_
 refine dv 0 ?_;refine aF 1 ?_;refine dv 2 ?_;refine aF 3 ?_;refine dA (key:=1) 4 (by kernel_rfl) rfl rfl aR rfl ⟨rfl,trivial⟩ ?_
 refine wJ (i:=8) (k:=1) (t:=9) (t':=9) (z:=1) (n:=12) (l:=(jY).map sT) rfl rfl rfl rfl (.one .sl) (by rfl) (by rfl) ?_
 refine aG 5 rfl (Qg (ls:=jY) (k:=x.k) hx.k) aA (cO rfl rfl) _ ?_
 refine dA (key:=2) 6 (by kernel_rfl) rfl rfl aR rfl ⟨rfl,trivial⟩ ?_
 refine bM 7 ?_
 refine aJ ?_;refine sq (sq (rl (o1 ?_)));refine ld ?_;refine nl (bl (sq (rl (o1 ?_))));refine o1 ?_;refine nl ?_
 refine aV rfl (fun h1=>?_) (fun h1=>?_)
 ·refine rl (o1 ?_);refine o1 ?_;refine ld ?_;refine ca (lP (hx.p).qn (hx.p).sz (by omega)) aA (aM rfl) _ ?_
  refine bs 3 ?_;refine fF (j:=4) (n:=3) (m:=1) aR rfl rfl rfl rfl (.sl rfl rfl) (.sl rfl rfl rfl) rfl rfl rfl (by omega) (by omega) ?_
  refine o1 ?_;refine nl (sq (WP.sub (wG (i:=3) (k:=4) (t:=9) (z:=1) (n:=4) (l:=[rI,x.s,jY.getD x.k [],bY x.p].map sT) 9 rfl rfl rfl (rfl) (.one .sl)) ?_))
  refine rl (o1 ?_)
  refine ca (mL (ws:=[rI,x.s,jY.getD x.k [],bY x.p]) (bH (hG rfl) (bH hx.s.w (bH (zU rfl _) (bH (mD hx.p) eX)))) (by simp)) aA (bC rfl) _ ?_
  refine o1 ?_;refine nl (rt ?_)
  exact fW (.inl rfl) rfl (congrArg aN (by unfold jV;rw[show qG x=[bY x.p] from by unfold qG;rw[if_pos (by omega)]];rfl))
 refine sq (rl (o1 ?_));refine o1 ?_;refine nl ?_;refine aV rfl (fun h2=>?_) (fun h2=>?_)
 ·refine rl (o1 ?_);refine o1 ?_;refine ld ?_;refine ca (sB (hx.p)) aA (aM rfl) _ ?_;refine bs 3 ?_
  refine fF (j:=4) (n:=3) (m:=1) aR rfl rfl rfl rfl (.sl rfl rfl) (.sl rfl rfl rfl) rfl rfl rfl (by omega) (by omega) ?_
  refine o1 ?_;refine nl (sq (WP.sub (wG (i:=3) (k:=4) (t:=9) (z:=1) (n:=4) (l:=[rI,x.s,jY.getD x.k [],dZ x.p].map sT) 9 rfl rfl rfl (rfl) (.one .sl)) ?_))
  refine rl (o1 ?_)
  refine ca (mL (ws:=[rI,x.s,jY.getD x.k [],dZ x.p]) (bH (hG rfl) (bH hx.s.w (bH (zU rfl _) (bH (pM hx.p) eX)))) (by simp)) aA (bC rfl) _ ?_
  refine o1 ?_;refine nl (rt ?_)
  exact fW (.inl rfl) rfl (congrArg aN (by unfold jV;rw[show qG x=[dZ x.p] from by unfold qG;rw[if_neg (by omega)];rw[if_pos (by omega)]];rfl))
 refine sq (rl (o1 ?_));refine o1 ?_;refine nl ?_;refine aV rfl (fun h3=>?_) (fun h3=>?_)
 ·refine rl (o1 ?_);refine o1 ?_;refine ld ?_;refine ca (Yc (n:=0) (hx.p).qn (hx.p).sz (by omega)) aA ⟨nD rfl,a1 rfl,rfl⟩ _ ?_
  refine bs 3 ?_;refine fF (j:=4) (n:=3) (m:=1) aR rfl rfl rfl rfl (.sl rfl rfl) (.sl rfl rfl rfl) rfl rfl rfl (by omega) (by omega) ?_
  refine o1 ?_;refine nl (sq (WP.sub (wG (i:=3) (k:=4) (t:=9) (z:=1) (n:=4) (l:=[rI,x.s,jY.getD x.k [],Cd x.p].map sT) 9 rfl rfl rfl (rfl) (.one .sl)) ?_))
  refine rl (o1 ?_)
  refine ca (mL (ws:=[rI,x.s,jY.getD x.k [],Cd x.p]) (bH (hG rfl) (bH hx.s.w (bH (zU rfl _) (bH (Yd hx.p) eX)))) (by simp)) aA (bC rfl) _ ?_
  refine o1 ?_;refine nl (rt ?_)
  exact fW (.inl rfl) rfl (congrArg aN (by unfold jV;rw[show qG x=[Cd x.p] from by unfold qG;rw[if_neg (by omega)];rw[if_neg (by omega)];rw[if_pos (by omega)]];rfl))
 refine sk (sq (WP.sub (wG (i:=3) (k:=2) (t:=9) (z:=1) (n:=3) (l:=[rI,x.s,jY.getD x.k []].map sT) 9 rfl rfl rfl (rfl) (.one .sl)) ?_));refine rl ?_
 refine o1 ?_;refine ca (mL (ws:=[rI,x.s,jY.getD x.k []]) hA (by simp)) aA (bC rfl) _ ?_
 refine o1 ?_;refine nl (rt ?_)
 exact fW (.inl rfl) rfl (congrArg aN (by unfold jV;rw[show qG x=[] from by unfold qG;rw[if_neg (by omega),if_neg (by omega),if_neg (by omega)]];rfl))
theorem VX {x:It}(hx:OkI x):aE true Tryz.prog 70 [] [.agg ((kP x).map .t)] (aP (.one (tv (.string (aN (mU x)))))):=by
 refine bD Tryz.func70 Tryz.ntmps70 fun N9 w9 c0 h0=>?_
 refine sq (rl (bx 0 ?_));refine o1 ?_;refine nl (sq (rl (o1 ?_)));refine nl (sq (sq (rl (o1 ?_))));refine ld ?_
 refine nl ?_;refine rH rfl (fun h1=>?_) (fun h1=>?_)
 ·refine rl (o1 ?_);refine nl (sq ?_);refine bU [0] [18] ?_
  refine dv 0 ?_;refine dv 1 ?_;refine aF 2 ?_;refine dv 3 ?_;refine aF 4 ?_;refine dv 7 ?_;refine aF 8 ?_;refine dv 9 ?_;refine aF 10 ?_;refine dv 11 ?_;refine aF 12 ?_
  refine dv 13 ?_;refine aF 14 ?_;refine dA (key:=1) 5 (by kernel_rfl) rfl rfl aR rfl ⟨rfl,trivial⟩ ?_
  refine wJ (i:=11) (k:=1) (t:=9) (t':=9) (z:=1) (n:=5) (l:=(pW).map sT) rfl rfl rfl rfl (.one .sl) (by rfl) (by rfl) ?_
  refine aG 6 rfl (Qg (ls:=pW) (k:=x.k) hx.k) aA (cO rfl rfl) _ ?_
  refine aG 15 rfl (sB (hx.p)) aA (aM rfl) _ ?_;refine dA (key:=2) 16 (by kernel_rfl) rfl rfl aR rfl ⟨rfl,trivial⟩ ?_
  refine wJ (i:=22) (k:=2) (t:=9) (t':=9) (z:=1) (n:=7) (l:=([Ur,x.s,pW.getD x.k [],x.t,x.u,x.v,dZ x.p]).map sT) rfl rfl rfl rfl (.one .sl) (by rfl) (by rfl) ?_
  refine aG 17 rfl (mL (ws:=[Ur,x.s,pW.getD x.k [],x.t,x.u,x.v,dZ x.p]) (bH (hG rfl) (bH hx.s.w (bH (zU rfl _) (bH hx.t.w (bH hx.u.w (bH hx.v.w (bH (pM hx.p) eX))))))) (by simp)) aA (bC rfl) _ ?_
  refine bM 18 ?_
  refine aJ ?_;refine rt ?_;exact fW (.inl rfl) rfl (by unfold mU;rw[h1];rfl)
 refine sk (sq ?_);refine bU [0] [18] ?_
 refine dv 0 ?_;refine dv 1 ?_;refine aF 2 ?_;refine dv 3 ?_;refine aF 4 ?_;refine dv 7 ?_;refine aF 8 ?_;refine dv 9 ?_;refine aF 10 ?_;refine dv 11 ?_;refine aF 12 ?_
 refine dv 13 ?_;refine aF 14 ?_;refine dA (key:=1) 5 (by kernel_rfl) rfl rfl aR rfl ⟨rfl,trivial⟩ ?_
 refine wJ (i:=11) (k:=1) (t:=9) (t':=9) (z:=1) (n:=5) (l:=(pW).map sT) rfl rfl rfl rfl (.one .sl) (by rfl) (by rfl) ?_
 refine aG 6 rfl (Qg (ls:=pW) (k:=x.k) hx.k) aA (cO rfl rfl) _ ?_
 refine aG 15 rfl (sB (hx.p)) aA (aM rfl) _ ?_;refine dA (key:=2) 16 (by kernel_rfl) rfl rfl aR rfl ⟨rfl,trivial⟩ ?_
 refine wJ (i:=22) (k:=2) (t:=9) (t':=9) (z:=1) (n:=7) (l:=([Us,x.s,pW.getD x.k [],x.t,x.u,x.v,dZ x.p]).map sT) rfl rfl rfl rfl (.one .sl) (by rfl) (by rfl) ?_
 refine aG 17 rfl (mL (ws:=[Us,x.s,pW.getD x.k [],x.t,x.u,x.v,dZ x.p]) (bH (hG rfl) (bH hx.s.w (bH (zU rfl _) (bH hx.t.w (bH hx.u.w (bH hx.v.w (bH (pM hx.p) eX))))))) (by simp)) aA (bC rfl) _ ?_
 refine bM 18 ?_
 refine aJ ?_;refine rt ?_;exact fW (.inl rfl) rfl (by unfold mU;rw[h1];rfl)
theorem oL {a b:List (List Nat)}(h:a=b):some (⟨9,1,(a.map sT).map .t⟩:Ob)=some ⟨9,1,(b.map sT).map .t⟩:=by rw[h]
theorem wR {a b:List (List Nat)}{x:List Nat}(h:a++[x]=b):a.length+1=b.length:=by rw[<-h,cJ];rfl
theorem wS {a b:List (List Nat)}{x:List Nat}(h:a++[x]=b):some (⟨9,1,(a.map sT).map .t++[tv (.string (aN x))]⟩:Ob)=some ⟨9,1,(b.map sT).map .t⟩:=by rw[<-h,List.map_append,List.map_append];rfl
theorem aBc {a b c:List (List Nat)}(h:a++b=c):a.length+b.length=c.length:=by rw[<-h,cJ]
theorem zY {a b c:List (List Nat)}(h:a++b=c):some (⟨9,1,(a.map sT).map .t++(b.map sT).map .t⟩:Ob)=some ⟨9,1,(c.map sT).map .t⟩:=by rw[<-h,List.map_append,List.map_append]
theorem Yn (ls:List (List Nat)):((ls.map sT).map AV.t).take (ls.length*1)=(ls.map sT).map .t:=cT (by rw[dP,dP,Nat.mul_one];exact aX _)
theorem Ny (ls:List (List Nat)):(ls.map sT).length=ls.length*1:=by rw[dP,Nat.mul_one]
theorem jF (ls:List (List Nat)):((ls.map sT).map AV.t).length=ls.length*1:=by rw[dP,dP,Nat.mul_one]
theorem Ik:∀ls:List (List Nat),fQ ((ls.map sT).map .t)=true
 | []=>rfl
 | _::ls=>by
  show(_&&fQ ((ls.map sT).map .t))=true
  rw[Ik ls]
  rfl
theorem zZ:∀ls:List (List Nat),dR ((ls.map sT).map .t)=true
 | []=>rfl
 | _::ls=>by
  show(_&&dR ((ls.map sT).map .t))=true
  rw[zZ ls]
  rfl
theorem aBd {ls:List (List Nat)}{k:Nat}(h:k<ls.length):cN (ls.take k)++eQ ls k++[10]=cN (ls.take (k+1)):=by
 rw[show ls.take (k+1)=ls.take k++[eQ ls k] from by rw[List.take_add_one];simp[eQ,h]]
 simp[cN]
theorem aBe {ls:List (List Nat)}(h:OkLs ls) (hn:ls.length<=80000){k:Nat}(hk:k<ls.length):(cN (ls.take k)).length+(eQ ls k).length+1<=140737488355328:=by
 have h1:=Jw (ls:=ls.take k) fun l hl=>h l (List.mem_of_mem_take hl)
 have h2:(ls.take k).length<=79999:=by rw[dU];omega
 have h3:=(h _ (rZ hk)).2
 omega
theorem VY {y:Yer}(hy:OkY y):aE true Tryz.prog 29 [] [.agg ((cV true y).map .t)] (aP (.one (.t (.s true 9 1 (yrL y).length ((yrL y).map sT))))):=by
 refine bD Tryz.func29 Tryz.ntmps29 fun N9 w9 c0 h0=>?_
 have hhl:=hy.hl
 have hbl:=hy.bl
 have hdl:=hy.dl
 have hsl:=hy.sl
 have hol:=hy.ol
 have hnw:=(pO hy.n.1 hy.n.2).2
 refine sq (rl (bx 0 ?_));refine o1 ?_;refine nl (sq (rl (o1 ?_)));refine ld ?_
 refine ca (zX hy.n.1 hy.n.2) aA (bC rfl) (.one (tv (.string (aN (eB y.n))))) ?_;refine o1 ?_ (hC:=(by rw[aO];show 5+_<=_;omega))
 refine lZ 12 (bJ [Lm,eB y.n]) rfl (eK [121,101,97,114,32] _) ?_;refine bs 1 ?_;refine o1 ?_;refine nl (sq ?_)
 refine sq (rl (o1 ?_));refine nl (bl ?_)
 refine lp (γ:=Nat) (fun s=>bP [(1,pN 0),(3,.one (.sl 1 0 ((mJ y++(y.h.take s).map wN).length))),(4,iN s)]) (fun s=>[(⟨81,0,(cV true y).map .t⟩:Ob),⟨9,1,((mJ y++(y.h.take s).map wN).map sT).map .t⟩].map some) (fun s=>s<=y.h.length) (fun s=>y.h.length-s) 0 (Nat.zero_le _) (dC h0 [0,1] _ _ (by decide) ⟨rfl,eJ rfl,rfl,trivial⟩ ⟨aD rfl,aD (by rw[List.take_zero,List.map_nil,List.append_nil];rfl),rfl⟩) ?_
 rintro k hk;refine sq (sq (rl (o1 ?_)));refine o1 ?_;refine ld ?_;refine o1 ?_;refine o1 ?_;refine nl ?_;refine aV rfl (fun h1=>?_) (fun h1=>?_)
 ·refine sk (sq (bl ?_))
  have hln:((mJ y++(y.h.take k).map wN)).length<=2000:=by simp only[jW,kG,kE,kD,mJ,cJ,dP,dU,List.length_cons,List.length_nil];omega
  refine bU [0] [24] ?_
  refine dv 0 ?_;refine dv 1 ?_;refine aF 2 ?_;refine dv 3 ?_;refine dv 4 ?_;refine dv 5 ?_
  refine dQ 6 ([sT (aB y.h (k)).s]) (cM 6 0 dF (aI (by omega)) rfl) ?_
  refine dv 7 ?_;refine aF 8 ?_;refine dv 9 ?_;refine dv 10 ?_;refine dv 11 ?_
  refine dQ 12 ([sT (aB y.h (k)).t]) (cM 6 1 dF (aI (by omega)) rfl) ?_
  refine dv 13 ?_;refine aF 14 ?_;refine dv 15 ?_;refine dv 16 ?_;refine dv 17 ?_
  refine dQ 18 ((aB y.h (k)).p.tr false) (cM 6 2 dF (aI (by omega)) rfl) ?_
  refine aG 19 rfl (lP ((hy.h (aB y.h (k)) (aS (l:=y.h) (by omega))).p).qn ((hy.h (aB y.h (k)) (aS (l:=y.h) (by omega))).p).sz (by omega)) aA (aM rfl) _ ?_
  refine dA (key:=2) 20 (by kernel_rfl) rfl rfl aR rfl ⟨rfl,trivial⟩ ?_
  refine wJ (i:=41) (k:=2) (t:=9) (t':=9) (z:=1) (n:=4) (l:=([Ln,(aB y.h (k)).s,(aB y.h (k)).t,bY (aB y.h (k)).p]).map sT) rfl rfl rfl rfl (.one .sl) (by rfl) (by rfl) ?_
  refine aG 21 rfl (mL (ws:=[Ln,(aB y.h (k)).s,(aB y.h (k)).t,bY (aB y.h (k)).p]) (Ib (hy.h (aB y.h (k)) (aS (l:=y.h) (by omega)))) (by simp)) aA (bC rfl) _ ?_
  refine dA (key:=3) 22 (by kernel_rfl) rfl rfl aR rfl ⟨rfl,trivial⟩ ?_
  refine iB (j:=4) (n:=(mJ y++(y.h.take k).map wN).length) (l:=((mJ y++(y.h.take k).map wN).map sT).map .t) 23 rfl aR rfl rfl rfl (.sl rfl (jF _)) (.sl rfl rfl rfl) rfl rfl (by omega) (by omega) rfl ⟨rfl,trivial⟩ rfl (by kernel_rfl) rfl ?_
  refine bM 24 ?_
  refine aJ ?_;refine rl (o1 ?_);refine o1 ?_;refine aY 20 (k+1) ?_
  refine o1 ?_;refine nl ?_
  exact⟨k+1,by omega,(by omega),dC h0 [0,4] _ _ (by decide) ⟨rfl,eJ (wR (eT (pre:=mJ y) (xs:=y.h) (k:=k) (d:=nilIt) (g:=wN) (by omega))).symm,rfl,trivial⟩ ⟨aD rfl,aD (wS (eT (pre:=mJ y) (xs:=y.h) (k:=k) (d:=nilIt) (g:=wN) (by omega))),rfl⟩⟩
 refine ex (sq (sq (rl (o1 ?_))));refine nl (bl ?_)
 refine lp (γ:=Nat) (fun s=>bP [(1,pN 0),(3,.one (.sl 1 0 ((kD y++(y.b.take s).map uG).length))),(5,iN s)]) (fun s=>[(⟨81,0,(cV true y).map .t⟩:Ob),⟨9,1,((kD y++(y.b.take s).map uG).map sT).map .t⟩].map some) (fun s=>s<=y.b.length) (fun s=>y.b.length-s) 0 (Nat.zero_le _) (dC h0 [0,1] _ _ (by decide) ⟨rfl,eJ (congrArg List.length (show _=(kD y++(y.b.take 0).map uG) from by rw[cT (by omega),List.take_zero];simp[kD])).symm,rfl,trivial⟩ ⟨aD rfl,aD (oL (show _=(kD y++(y.b.take 0).map uG) from by rw[cT (by omega),List.take_zero];simp[kD])),rfl⟩) ?_
 rintro i hi;refine sq (sq (rl (o1 ?_)));refine o1 ?_;refine ld ?_;refine o1 ?_;refine o1 ?_;refine nl ?_;refine aV rfl (fun h2=>?_) (fun h2=>?_)
 ·refine sk (sq (bl ?_))
  have hln:((kD y++(y.b.take i).map uG)).length<=2000:=by simp only[jW,kG,kE,kD,mJ,cJ,dP,dU,List.length_cons,List.length_nil];omega
  refine bU [0] [24] ?_
  refine dv 0 ?_;refine dv 1 ?_;refine aF 2 ?_;refine dv 3 ?_;refine dv 4 ?_;refine dv 5 ?_
  refine dQ 6 ([sT (aB y.b (i)).s]) (cM 6 0 dF (aI (by omega)) rfl) ?_
  refine dv 7 ?_;refine aF 8 ?_;refine dv 9 ?_;refine dv 10 ?_;refine dv 11 ?_
  refine dQ 12 ([sT (aB y.b (i)).t]) (cM 6 1 dF (aI (by omega)) rfl) ?_
  refine dv 13 ?_;refine aF 14 ?_;refine dv 15 ?_;refine dv 16 ?_;refine dv 17 ?_
  refine dQ 18 ((aB y.b (i)).p.tr false) (cM 6 2 dF (aI (by omega)) rfl) ?_
  refine aG 19 rfl (sB ((hy.b (aB y.b (i)) (aS (l:=y.b) (by omega))).p)) aA (aM rfl) _ ?_
  refine dA (key:=2) 20 (by kernel_rfl) rfl rfl aR rfl ⟨rfl,trivial⟩ ?_
  refine wJ (i:=72) (k:=2) (t:=9) (t':=9) (z:=1) (n:=4) (l:=([Lo,(aB y.b (i)).s,(aB y.b (i)).t,dZ (aB y.b (i)).p]).map sT) rfl rfl rfl rfl (.one .sl) (by rfl) (by rfl) ?_
  refine aG 21 rfl (mL (ws:=[Lo,(aB y.b (i)).s,(aB y.b (i)).t,dZ (aB y.b (i)).p]) (Ic (hy.b (aB y.b (i)) (aS (l:=y.b) (by omega)))) (by simp)) aA (bC rfl) _ ?_
  refine dA (key:=3) 22 (by kernel_rfl) rfl rfl aR rfl ⟨rfl,trivial⟩ ?_
  refine iB (j:=4) (n:=(kD y++(y.b.take i).map uG).length) (l:=((kD y++(y.b.take i).map uG).map sT).map .t) 23 rfl aR rfl rfl rfl (.sl rfl (jF _)) (.sl rfl rfl rfl) rfl rfl (by omega) (by omega) rfl ⟨rfl,trivial⟩ rfl (by kernel_rfl) rfl ?_
  refine bM 24 ?_
  refine aJ ?_;refine rl (o1 ?_);refine o1 ?_;refine aY 51 (i+1) ?_
  refine o1 ?_;refine nl ?_
  exact⟨i+1,by omega,(by omega),dC h0 [0,4] _ _ (by decide) ⟨rfl,eJ (wR (eT (pre:=kD y) (xs:=y.b) (k:=i) (d:=nilIt) (g:=uG) (by omega))).symm,rfl,trivial⟩ ⟨aD rfl,aD (wS (eT (pre:=kD y) (xs:=y.b) (k:=i) (d:=nilIt) (g:=uG) (by omega))),rfl⟩⟩
 refine ex (sq (sq (rl (o1 ?_))));refine nl (bl ?_)
 refine lp (γ:=Nat) (fun s=>bP [(1,pN 0),(3,.one (.sl 1 0 ((kE y++(y.d.take s).map mU).length))),(6,iN s)]) (fun s=>[(⟨81,0,(cV true y).map .t⟩:Ob),⟨9,1,((kE y++(y.d.take s).map mU).map sT).map .t⟩].map some) (fun s=>s<=y.d.length) (fun s=>y.d.length-s) 0 (Nat.zero_le _) (dC h0 [0,1] _ _ (by decide) ⟨rfl,eJ (congrArg List.length (show _=(kE y++(y.d.take 0).map mU) from by rw[cT (by omega),List.take_zero];simp[kE])).symm,rfl,trivial⟩ ⟨aD rfl,aD (oL (show _=(kE y++(y.d.take 0).map mU) from by rw[cT (by omega),List.take_zero];simp[kE])),rfl⟩) ?_
 rintro j hj;refine sq (sq (rl (o1 ?_)));refine o1 ?_;refine ld ?_;refine o1 ?_;refine o1 ?_;refine nl ?_;refine aV rfl (fun h3=>?_) (fun h3=>?_)
 ·refine sk (sq (bl ?_))
  have hln:((kE y++(y.d.take j).map mU)).length<=2000:=by simp only[jW,kG,kE,kD,mJ,cJ,dP,dU,List.length_cons,List.length_nil];omega
  refine rl (o1 ?_);refine o1 ?_;refine ld ?_;refine o1 ?_;refine o1 ?_
  refine cX (kP (aB y.d (j))) (cM 10 0 lH (aI (by omega)) rfl) ?_
  refine ca (VX (hy.d (aB y.d (j)) (aS (l:=y.d) (by omega)))) aA (aM rfl) _ ?_
  refine bs 2 ?_
  refine fF (j:=3) (n:=(kE y++(y.d.take j).map mU).length) (l:=((kE y++(y.d.take j).map mU).map sT).map .t) aR rfl rfl rfl rfl (.sl rfl (jF _)) (.sl rfl rfl rfl) rfl rfl rfl (by omega) (by omega) ?_
  refine o1 ?_;refine nl (rl (o1 ?_));refine o1 ?_;refine aY 82 (j+1) ?_
  refine o1 ?_;refine nl ?_
  exact⟨j+1,by omega,(by omega),dC h0 [0,3] _ _ (by decide) ⟨rfl,eJ (wR (eT (pre:=kE y) (xs:=y.d) (k:=j) (d:=nilIt) (g:=mU) (by omega))).symm,rfl,trivial⟩ ⟨aD rfl,aD (wS (eT (pre:=kE y) (xs:=y.d) (k:=j) (d:=nilIt) (g:=mU) (by omega))),rfl⟩⟩
 refine ex (sq (sq (rl (o1 ?_))));refine nl (bl ?_)
 refine lp (γ:=Nat) (fun s=>bP [(1,pN 0),(3,.one (.sl 1 0 ((kG y++(y.s.take s).map uH).length))),(7,iN s)]) (fun s=>[(⟨81,0,(cV true y).map .t⟩:Ob),⟨9,1,((kG y++(y.s.take s).map uH).map sT).map .t⟩].map some) (fun s=>s<=y.s.length) (fun s=>y.s.length-s) 0 (Nat.zero_le _) (dC h0 [0,1] _ _ (by decide) ⟨rfl,eJ (congrArg List.length (show _=(kG y++(y.s.take 0).map uH) from by rw[cT (by omega),List.take_zero];simp[kG])).symm,rfl,trivial⟩ ⟨aD rfl,aD (oL (show _=(kG y++(y.s.take 0).map uH) from by rw[cT (by omega),List.take_zero];simp[kG])),rfl⟩) ?_
 rintro m hm;refine sq (sq (rl (o1 ?_)));refine o1 ?_;refine ld ?_;refine o1 ?_;refine o1 ?_;refine nl ?_;refine aV rfl (fun h4=>?_) (fun h4=>?_)
 ·refine sk (sq (bl ?_))
  have hln:((kG y++(y.s.take m).map uH)).length<=2000:=by simp only[jW,kG,kE,kD,mJ,cJ,dP,dU,List.length_cons,List.length_nil];omega
  refine bU [0] [25] ?_
  refine dv 0 ?_;refine dv 1 ?_;refine aF 2 ?_;refine dv 3 ?_;refine dv 4 ?_;refine dv 5 ?_
  refine dQ 6 ([sT (aB y.s (m)).s]) (cM 9 0 fI (aI (by omega)) rfl) ?_
  refine dv 7 ?_;refine aF 8 ?_;refine dv 9 ?_;refine dv 10 ?_;refine dv 11 ?_
  refine dQ 12 ((aB y.s (m)).p.tr false) (cM 9 1 fI (aI (by omega)) rfl) ?_
  refine dv 14 ?_;refine aF 15 ?_;refine dv 16 ?_;refine dv 17 ?_;refine dv 18 ?_
  refine dQ 19 ((aB y.s (m)).q.tr false) (cM 9 5 fI (aI (by omega)) rfl) ?_
  refine aG 13 rfl (sB ((hy.s (aB y.s (m)) (aS (l:=y.s) (by omega))).p)) aA (aM rfl) _ ?_
  refine aG 20 rfl (lP ((hy.s (aB y.s (m)) (aS (l:=y.s) (by omega))).q).qn ((hy.s (aB y.s (m)) (aS (l:=y.s) (by omega))).q).sz (by omega)) aA (aM rfl) _ ?_
  refine dA (key:=2) 21 (by kernel_rfl) rfl rfl aR rfl ⟨rfl,trivial⟩ ?_
  refine wJ (i:=120) (k:=2) (t:=9) (t':=9) (z:=1) (n:=4) (l:=([Lp,(aB y.s (m)).s,dZ (aB y.s (m)).p,bY (aB y.s (m)).q]).map sT) rfl rfl rfl rfl (.one .sl) (by rfl) (by rfl) ?_
  refine aG 22 rfl (mL (ws:=[Lp,(aB y.s (m)).s,dZ (aB y.s (m)).p,bY (aB y.s (m)).q]) (Id (hy.s (aB y.s (m)) (aS (l:=y.s) (by omega)))) (by simp)) aA (bC rfl) _ ?_
  refine dA (key:=3) 23 (by kernel_rfl) rfl rfl aR rfl ⟨rfl,trivial⟩ ?_
  refine iB (j:=4) (n:=(kG y++(y.s.take m).map uH).length) (l:=((kG y++(y.s.take m).map uH).map sT).map .t) 24 rfl aR rfl rfl rfl (.sl rfl (jF _)) (.sl rfl rfl rfl) rfl rfl (by omega) (by omega) rfl ⟨rfl,trivial⟩ rfl (by kernel_rfl) rfl ?_
  refine bM 25 ?_
  refine aJ ?_;refine rl (o1 ?_);refine o1 ?_;refine aY 98 (m+1) ?_
  refine o1 ?_;refine nl ?_
  exact⟨m+1,by omega,(by omega),dC h0 [0,4] _ _ (by decide) ⟨rfl,eJ (wR (eT (pre:=kG y) (xs:=y.s) (k:=m) (d:=nilIt) (g:=uH) (by omega))).symm,rfl,trivial⟩ ⟨aD rfl,aD (wS (eT (pre:=kG y) (xs:=y.s) (k:=m) (d:=nilIt) (g:=uH) (by omega))),rfl⟩⟩
 refine ex (sq (sq (rl (o1 ?_))));refine nl (bl ?_)
 refine lp (γ:=Nat) (fun s=>bP [(1,pN 0),(3,.one (.sl 1 0 ((jW y++(y.o.take s).map tP).length))),(8,iN s)]) (fun s=>[(⟨81,0,(cV true y).map .t⟩:Ob),⟨9,1,((jW y++(y.o.take s).map tP).map sT).map .t⟩].map some) (fun s=>s<=y.o.length) (fun s=>y.o.length-s) 0 (Nat.zero_le _) (dC h0 [0,1] _ _ (by decide) ⟨rfl,eJ (congrArg List.length (show _=(jW y++(y.o.take 0).map tP) from by rw[cT (by omega),List.take_zero];simp[jW])).symm,rfl,trivial⟩ ⟨aD rfl,aD (oL (show _=(jW y++(y.o.take 0).map tP) from by rw[cT (by omega),List.take_zero];simp[jW])),rfl⟩) ?_
 rintro n hn;refine sq (sq (rl (o1 ?_)));refine o1 ?_;refine ld ?_;refine o1 ?_;refine o1 ?_;refine nl ?_;refine aV rfl (fun h5=>?_) (fun h5=>?_)
 ·refine sk (sq (bl ?_))
  have hln:((jW y++(y.o.take n).map tP)).length<=2000:=by simp only[jW,kG,kE,kD,mJ,cJ,dP,dU,List.length_cons,List.length_nil];omega
  refine bU [0] [18] ?_
  refine dv 0 ?_;refine dv 1 ?_;refine aF 2 ?_;refine dv 3 ?_;refine dv 4 ?_;refine dv 5 ?_
  refine dQ 6 ([sT (aB y.o (n)).s]) (cM 5 0 gR (aI (by omega)) rfl) ?_
  refine dv 7 ?_;refine aF 8 ?_;refine dv 9 ?_;refine dv 10 ?_;refine dv 11 ?_
  refine dQ 12 ((aB y.o (n)).p.tr false) (cM 5 1 gR (aI (by omega)) rfl) ?_
  refine aG 13 rfl (lP ((hy.o (aB y.o (n)) (aS (l:=y.o) (by omega))).p).qn ((hy.o (aB y.o (n)) (aS (l:=y.o) (by omega))).p).sz (by omega)) aA (aM rfl) _ ?_
  refine dA (key:=2) 14 (by kernel_rfl) rfl rfl aR rfl ⟨rfl,trivial⟩ ?_
  refine wJ (i:=145) (k:=2) (t:=9) (t':=9) (z:=1) (n:=3) (l:=([Lq,(aB y.o (n)).s,bY (aB y.o (n)).p]).map sT) rfl rfl rfl rfl (.one .sl) (by rfl) (by rfl) ?_
  refine aG 15 rfl (mL (ws:=[Lq,(aB y.o (n)).s,bY (aB y.o (n)).p]) (Nw (hy.o (aB y.o (n)) (aS (l:=y.o) (by omega)))) (by simp)) aA (bC rfl) _ ?_
  refine dA (key:=3) 16 (by kernel_rfl) rfl rfl aR rfl ⟨rfl,trivial⟩ ?_
  refine iB (j:=4) (n:=(jW y++(y.o.take n).map tP).length) (l:=((jW y++(y.o.take n).map tP).map sT).map .t) 17 rfl aR rfl rfl rfl (.sl rfl (jF _)) (.sl rfl rfl rfl) rfl rfl (by omega) (by omega) rfl ⟨rfl,trivial⟩ rfl (by kernel_rfl) rfl ?_
  refine bM 18 ?_
  refine aJ ?_;refine rl (o1 ?_);refine o1 ?_;refine aY 130 (n+1) ?_
  refine o1 ?_;refine nl ?_
  exact⟨n+1,by omega,(by omega),dC h0 [0,4] _ _ (by decide) ⟨rfl,eJ (wR (eT (pre:=jW y) (xs:=y.o) (k:=n) (d:=nilIt) (g:=tP) (by omega))).symm,rfl,trivial⟩ ⟨aD rfl,aD (wS (eT (pre:=jW y) (xs:=y.o) (k:=n) (d:=nilIt) (g:=tP) (by omega))),rfl⟩⟩
 refine ex (sq (rl (o1 ?_)));refine o1 ?_;refine nl (rt ?_)
 exact en (.inl rfl) rfl (bB (.one (.sl (trs:=(jW y++(y.o.take n).map tP).map sT) rfl rfl (Yn _) (Ny _)))) (by decide) (fun _=>by exact .inl ⟨rfl,Dr _⟩) (congrArg (fun l:List (List Nat)=>FV.one (.t (.s true 9 1 l.length (l.map sT)))) (by rw[cT (by omega)];simp[yrL]))
theorem aCv {a c:List (List Nat)}{x1 x2 x3 x4 x5:List Nat}(h:a++[x1,x2,x3,x4]++[x5]=c):a.length+4+1=c.length:=by rw[<-h,cJ,cJ];rfl
theorem aCw {a c:List (List Nat)}{x1 x2 x3 x4 x5:List Nat}(h:a++[x1,x2,x3,x4]++[x5]=c):some (⟨9,1,(a.map sT).map .t++[tv (.string (aN x1)),tv (.string (aN x2)),tv (.string (aN x3)),tv (.string (aN x4))]++[tv (.string (aN x5))]⟩:Ob)=some ⟨9,1,(c.map sT).map .t⟩:=by rw[<-h,List.map_append,List.map_append,List.map_append,List.map_append];rfl
theorem OI {f:Fil}(hf:OkF f):aE true Tryz.prog 8 [] [.agg ((cZ true f).map .t)] (aP (.tup [.one (tv (.string (aN (Ux f)))),.one (tv (.int .i64 ((iS f:Nat):Int)))])):=by
 refine bD Tryz.func8 Tryz.ntmps8 fun N9 w9 c0 h0=>?_
 have hbr:=hf.brl
 have hcl:=hf.cll
 have hen:=hf.enl
 have hys:=hf.ysl
 have hA:∀w∈[xI,f.nm,f.pa],gK w:=bH (hG rfl) (bH hf.nm.w (bH hf.pa.w eX))
 have hI:∀w∈[Bd,bY f.it,dZ f.fl,eB f.kp],gK w:=bH (hG rfl) (bH (mD hf.it) (bH (pM hf.fl) (bH (pO hf.kp.1 hf.kp.2) eX)))
 have hl1:=(mD hf.th).2
 have hl2:=(mD hf.cp).2
 have hl3:=(pO hf.bk.1 hf.bk.2).2
 have hl4:=(pO hf.fw.1 hf.fw.2).2
 refine sq (rl (bx 0 ?_));refine o1 ?_;refine o1 ?_;refine nl (sq (rl (ld ?_)));refine VO (OD hf) aA (aM rfl) (fun r9 hr9=>?_)
 obtain⟨a9,b9,c9,rfl⟩:=hr9
 (iterate 3 refine o1 ?_);refine al 1 ?_;refine st ?_;refine o1 ?_;refine nl (sq (sq (rl (o1 ?_))));refine o1 ?_;refine nl ?_
 refine aV rfl (fun h1=>?_) (fun h1=>?_)
 ·refine sq (rl ?_);(iterate 3 refine o1 ?_);refine nl (rt ?_)
  exact en (.inl rfl) rfl (gP (.cons (bO _) (.cons (bO _) .nil))) (by decide) (fun _=>⟨trivial,trivial,trivial⟩) (KV (by omega))
 refine sk (sq (rl (o1 ?_)));refine ld ?_;refine o1 ?_;refine ld ?_;refine bs 2 ?_
 refine WL.sub (wG (i:=25) (k:=2) (t:=9) (z:=1) (n:=3) (l:=[xI,f.nm,f.pa].map sT) 9 rfl rfl rfl (rfl) (.one .sl)) ?_
 refine ca (mL (ws:=[xI,f.nm,f.pa]) hA (by simp)) aA (bC rfl) _ ?_
 refine bs 3 ?_;refine o1 ?_;refine nl (sq (sq (rl (o1 ?_))));refine nl (bl ?_)
 refine lp (γ:=Nat) (fun s=>bP [(1,pN 0),(6,.one (.sl 1 0 ((hd0 f++(f.br.take s).map iX).length))),(7,iN s)]) (fun s=>[(⟨42,0,(cZ true f).map .t⟩:Ob),⟨9,1,((hd0 f++(f.br.take s).map iX).map sT).map .t⟩].map some) (fun s=>s<=f.br.length) (fun s=>f.br.length-s) 0 (Nat.zero_le _) (dC h0 [0,3] _ _ (by decide) ⟨rfl,eJ rfl,rfl,trivial⟩ ⟨aD rfl,aD (by rw[List.take_zero,List.map_nil,List.append_nil];rfl),rfl⟩) ?_
 rintro k hk;refine sq (sq (rl (o1 ?_)));refine o1 ?_;refine ld ?_;refine o1 ?_;refine o1 ?_;refine nl ?_;refine aV rfl (fun h2=>?_) (fun h2=>?_)
 ·refine sk (sq (bl ?_))
  have hln:((hd0 f++(f.br.take k).map iX)).length<=2000:=by simp only[iJ,lQ,hd2,hd1,hd0,cJ,dP,dU,List.length_cons,List.length_nil];omega
  refine bU [0] [19] ?_
  refine dv 0 ?_;refine dv 1 ?_;refine aF 2 ?_;refine dv 3 ?_;refine dv 4 ?_;refine dv 5 ?_
  refine dQ 6 ((aB f.br (k)).p.tr false) (cM 8 0 gQ (aI (by omega)) rfl) ?_
  refine dv 8 ?_;refine aF 9 ?_;refine dv 10 ?_;refine dv 11 ?_;refine dv 12 ?_
  refine dQ 13 ((aB f.br (k)).q.tr false) (cM 8 4 gQ (aI (by omega)) rfl) ?_
  refine aG 7 rfl (sB ((hf.br (aB f.br (k)) (aS (l:=f.br) (by omega))).p)) aA (aM rfl) _ ?_
  refine aG 14 rfl (lP ((hf.br (aB f.br (k)) (aS (l:=f.br) (by omega))).q).qn ((hf.br (aB f.br (k)) (aS (l:=f.br) (by omega))).q).sz (by omega)) aA (aM rfl) _ ?_
  refine dA (key:=2) 15 (by kernel_rfl) rfl rfl aR rfl ⟨rfl,trivial⟩ ?_
  refine wJ (i:=50) (k:=2) (t:=9) (t':=9) (z:=1) (n:=3) (l:=([Ll,dZ (aB f.br (k)).p,bY (aB f.br (k)).q]).map sT) rfl rfl rfl rfl (.one .sl) (by rfl) (by rfl) ?_
  refine aG 16 rfl (mL (ws:=[Ll,dZ (aB f.br (k)).p,bY (aB f.br (k)).q]) (sR (hf.br _ (aS (l:=f.br) (i:=k) (by omega)))) (by simp)) aA (bC rfl) _ ?_
  refine dA (key:=3) 17 (by kernel_rfl) rfl rfl aR rfl ⟨rfl,trivial⟩ ?_
  refine iB (j:=4) (n:=(hd0 f++(f.br.take k).map iX).length) (l:=((hd0 f++(f.br.take k).map iX).map sT).map .t) 18 rfl aR rfl rfl rfl (.sl rfl (jF _)) (.sl rfl rfl rfl) rfl rfl (by omega) (by omega) rfl ⟨rfl,trivial⟩ rfl (by kernel_rfl) rfl ?_
  refine bM 19 ?_
  refine aJ ?_;refine rl (o1 ?_);refine o1 ?_;refine aY 34 (k+1) ?_
  refine o1 ?_;refine nl ?_
  exact⟨k+1,by omega,(by omega),dC h0 [0,4] _ _ (by decide) ⟨rfl,eJ (wR (eT (pre:=hd0 f) (xs:=f.br) (k:=k) (d:=nilIt) (g:=iX) (by omega))).symm,rfl,trivial⟩ ⟨aD rfl,aD (wS (eT (pre:=hd0 f) (xs:=f.br) (k:=k) (d:=nilIt) (g:=iX) (by omega))),rfl⟩⟩
 refine ex (sq ?_)
 have hln:((hd0 f++(f.br.take k).map iX)).length<=2000:=by simp only[iJ,lQ,hd2,hd1,hd0,cJ,dP,dU,List.length_cons,List.length_nil];omega
 refine bU [0] [19] ?_
 refine dv 0 ?_;refine dv 1 ?_;refine aF 2 ?_;refine dv 5 ?_;refine aF 6 ?_;refine dv 9 ?_;refine aF 10 ?_;refine dv 13 ?_;refine aF 14 ?_
 refine aG 3 rfl (lP (hf.th).qn (hf.th).sz (by omega)) aA (aM rfl) (.one (tv (.string (aN (bY f.th))))) ?_
 refine df 4 ?_ (hC:=(by rw[aO];show 10+_<=_;omega))
 refine Ba 58 (bJ [nY,bY f.th]) rfl (eK [116,104,114,101,115,104,111,108,100,32] _) ?_
 refine aG 7 rfl (lP (hf.cp).qn (hf.cp).sz (by omega)) aA (aM rfl) (.one (tv (.string (aN (bY f.cp))))) ?_
 refine df 8 ?_ (hC:=(by rw[aO];show 4+_<=_;omega))
 refine Ba 62 (bJ [qE,bY f.cp]) rfl (eK [99,97,112,32] _) ?_
 refine aG 11 rfl (zX hf.bk.1 hf.bk.2) aA (bC rfl) (.one (tv (.string (aN (eB f.bk))))) ?_;refine df 12 ?_ (hC:=(by rw[aO];show 5+_<=_;omega))
 refine Ba 66 (bJ [tN,eB f.bk]) rfl (eK [98,97,99,107,32] _) ?_
 refine aG 15 rfl (zX hf.fw.1 hf.fw.2) aA (bC rfl) (.one (tv (.string (aN (eB f.fw))))) ?_;refine df 16 ?_ (hC:=(by rw[aO];show 8+_<=_;omega))
 refine Ba 70 (bJ [wM,eB f.fw]) rfl (eK [102,111,114,119,97,114,100,32] _) ?_
 refine dA (key:=2) 17 (by kernel_rfl) rfl rfl aR rfl ⟨rfl,trivial⟩ ?_
 refine iB (j:=3) (n:=(hd0 f++(f.br.take k).map iX).length) (l:=((hd0 f++(f.br.take k).map iX).map sT).map .t) 18 rfl aR rfl rfl rfl (.sl rfl (jF _)) (.sl rfl rfl rfl) rfl rfl (by omega) (by omega) rfl ⟨rfl,trivial⟩ rfl (by kernel_rfl) rfl ?_
 refine bM 19 ?_
 refine aJ ?_;refine sq ?_;refine bU [0,2] [14] ?_
 refine dv 0 ?_;refine dv 1 ?_;refine aF 2 ?_;refine dv 4 ?_;refine aF 5 ?_;refine dv 7 ?_;refine aF 8 ?_
 refine aG 3 rfl (lP (hf.it).qn (hf.it).sz (by omega)) aA (aM rfl) _ ?_
 refine aG 6 rfl (sB (hf.fl)) aA (aM rfl) _ ?_
 refine aG 9 rfl (zX hf.kp.1 hf.kp.2) aA (bC rfl) _ ?_;refine dA (key:=4) 10 (by kernel_rfl) rfl rfl aR rfl ⟨rfl,rfl,trivial⟩ ?_
 refine wJ (i:=83) (k:=4) (t:=9) (t':=9) (z:=1) (n:=4) (l:=([Bd,bY f.it,dZ f.fl,eB f.kp]).map sT) rfl rfl rfl rfl (.one .sl) (by rfl) (by rfl) ?_
 refine aG 11 rfl (mL (ws:=[Bd,bY f.it,dZ f.fl,eB f.kp]) hI (by simp)) aA (bC rfl) _ ?_
 refine dA (key:=5) 12 (by kernel_rfl) rfl rfl aR rfl ⟨rfl,rfl,trivial⟩ ?_
 refine iB (j:=6) (n:=(hd0 f++(f.br.take k).map iX).length+4) (l:=(((hd0 f++(f.br.take k).map iX).map sT).map .t++[tv (.string (aN (bJ [nY,bY f.th]))),tv (.string (aN (bJ [qE,bY f.cp]))),tv (.string (aN (bJ [tN,eB f.bk]))),tv (.string (aN (bJ [wM,eB f.fw])))])) 13 rfl aR rfl rfl rfl (.sl rfl (by rw[cJ,jF,Nat.add_mul];rfl)) (.sl rfl rfl rfl) rfl rfl (by omega) (by omega) rfl ⟨rfl,rfl,trivial⟩ rfl (by kernel_rfl) rfl ?_
 refine bM 14 ?_
 refine aJ ?_;refine sq (sq (rl (o1 ?_)));refine nl (bl ?_)
 refine lp (γ:=Nat) (fun s=>bP [(1,pN 0),(6,.one (.sl 1 0 ((hd2 f++(f.cl.take s).map jV).length))),(8,iN s)]) (fun s=>[(⟨42,0,(cZ true f).map .t⟩:Ob),⟨9,1,((hd2 f++(f.cl.take s).map jV).map sT).map .t⟩].map some) (fun s=>s<=f.cl.length) (fun s=>f.cl.length-s) 0 (Nat.zero_le _) (dC h0 [0,6] _ _ (by decide) ⟨rfl,eJ (aCv (show(hd0 f++(f.br.take k).map iX)++[bJ [nY,bY f.th],bJ [qE,bY f.cp],bJ [tN,eB f.bk],bJ [wM,eB f.fw]]++[bJ [Bd,bY f.it,dZ f.fl,eB f.kp]]=hd2 f++(f.cl.take 0).map jV by rw[cT (by omega)];simp[hd2,hd1])).symm,rfl,trivial⟩ ⟨aD rfl,aD (aCw (show(hd0 f++(f.br.take k).map iX)++[bJ [nY,bY f.th],bJ [qE,bY f.cp],bJ [tN,eB f.bk],bJ [wM,eB f.fw]]++[bJ [Bd,bY f.it,dZ f.fl,eB f.kp]]=hd2 f++(f.cl.take 0).map jV by rw[cT (by omega)];simp[hd2,hd1])),rfl⟩) ?_
 rintro i hi;refine sq (sq (rl (o1 ?_)));refine o1 ?_;refine ld ?_;refine o1 ?_;refine o1 ?_;refine nl ?_;refine aV rfl (fun h3=>?_) (fun h3=>?_)
 ·refine sk (sq (bl ?_))
  have hln:((hd2 f++(f.cl.take i).map jV)).length<=2000:=by simp only[iJ,lQ,hd2,hd1,hd0,cJ,dP,dU,List.length_cons,List.length_nil];omega
  refine rl (o1 ?_);refine o1 ?_;refine ld ?_;refine o1 ?_;refine o1 ?_
  refine cX (nP (aB f.cl (i))) (cM 6 0 iH (aI (by omega)) rfl) ?_
  refine ca (OH (hf.cl _ (aS (l:=f.cl) (i:=i) (by omega)))) aA (aM rfl) _ ?_
  refine bs 2 ?_
  refine fF (j:=3) (n:=(hd2 f++(f.cl.take i).map jV).length) (l:=((hd2 f++(f.cl.take i).map jV).map sT).map .t) aR rfl rfl rfl rfl (.sl rfl (jF _)) (.sl rfl rfl rfl) rfl rfl rfl (by omega) (by omega) ?_
  refine o1 ?_;refine nl (rl (o1 ?_));refine o1 ?_;refine aY 93 (i+1) ?_
  refine o1 ?_;refine nl ?_
  exact⟨i+1,by omega,(by omega),dC h0 [0,3] _ _ (by decide) ⟨rfl,eJ (wR (eT (pre:=hd2 f) (xs:=f.cl) (k:=i) (d:=nilIt) (g:=jV) (by omega))).symm,rfl,trivial⟩ ⟨aD rfl,aD (wS (eT (pre:=hd2 f) (xs:=f.cl) (k:=i) (d:=nilIt) (g:=jV) (by omega))),rfl⟩⟩
 refine ex (sq (sq (rl (o1 ?_))));refine nl (bl ?_)
 refine lp (γ:=Nat) (fun s=>bP [(1,pN 0),(6,.one (.sl 1 0 ((lQ f++(f.en.take s).map tO).length))),(9,iN s)]) (fun s=>[(⟨42,0,(cZ true f).map .t⟩:Ob),⟨9,1,((lQ f++(f.en.take s).map tO).map sT).map .t⟩].map some) (fun s=>s<=f.en.length) (fun s=>f.en.length-s) 0 (Nat.zero_le _) (dC h0 [0,1] _ _ (by decide) ⟨rfl,eJ (congrArg List.length (show _=(lQ f++(f.en.take 0).map tO) from by rw[cT (by omega),List.take_zero];simp[lQ])).symm,rfl,trivial⟩ ⟨aD rfl,aD (oL (show _=(lQ f++(f.en.take 0).map tO) from by rw[cT (by omega),List.take_zero];simp[lQ])),rfl⟩) ?_
 rintro j hj;refine sq (sq (rl (o1 ?_)));refine o1 ?_;refine ld ?_;refine o1 ?_;refine o1 ?_;refine nl ?_;refine aV rfl (fun h4=>?_) (fun h4=>?_)
 ·refine sk (sq (bl ?_))
  have hln:((lQ f++(f.en.take j).map tO)).length<=2000:=by simp only[iJ,lQ,hd2,hd1,hd0,cJ,dP,dU,List.length_cons,List.length_nil];omega
  have hle:=(hf.en _ (rZ (l:=f.en) (i:=j) (by omega))).2
  refine rl (o1 ?_);refine o1 ?_;refine ld ?_;refine o1 ?_;refine o1 ?_;refine cX ([sT (eQ f.en (j))]) (nF f.en (k:=j) (by omega)) ?_
  refine o1 ?_ (hC:=(by rw[aO];show 7+_<=_;omega))
  refine lZ 116 (tO (eQ f.en (j))) rfl (eK [101,110,116,105,116,121,32] _) ?_;refine bs 2 ?_
  refine fF (j:=3) (n:=(lQ f++(f.en.take j).map tO).length) (l:=((lQ f++(f.en.take j).map tO).map sT).map .t) aR rfl rfl rfl rfl (.sl rfl (jF _)) (.sl rfl rfl rfl) rfl rfl rfl (by omega) (by omega) ?_
  refine o1 ?_;refine nl (rl (o1 ?_));refine o1 ?_;refine aY 109 (j+1) ?_
  refine o1 ?_;refine nl ?_
  exact⟨j+1,by omega,(by omega),dC h0 [0,3] _ _ (by decide) ⟨rfl,eJ (wR (eT (pre:=lQ f) (xs:=f.en) (k:=j) (d:=[]) (g:=tO) (by omega))).symm,rfl,trivial⟩ ⟨aD rfl,aD (wS (eT (pre:=lQ f) (xs:=f.en) (k:=j) (d:=[]) (g:=tO) (by omega))),rfl⟩⟩
 refine ex (sq (sq (rl (o1 ?_))));refine nl (bl ?_)
 refine lp (γ:=Nat) (fun s=>bP [(1,pN 0),(6,.one (.sl 1 0 ((iJ f++(f.ys.take s).flatMap yrL).length))),(10,iN s)]) (fun s=>[(⟨42,0,(cZ true f).map .t⟩:Ob),⟨9,1,((iJ f++(f.ys.take s).flatMap yrL).map sT).map .t⟩].map some) (fun s=>s<=f.ys.length) (fun s=>f.ys.length-s) 0 (Nat.zero_le _) (dC h0 [0,1] _ _ (by decide) ⟨rfl,eJ (congrArg List.length (show _=(iJ f++(f.ys.take 0).flatMap yrL) from by rw[cT (by omega),List.take_zero];simp[iJ])).symm,rfl,trivial⟩ ⟨aD rfl,aD (oL (show _=(iJ f++(f.ys.take 0).flatMap yrL) from by rw[cT (by omega),List.take_zero];simp[iJ])),rfl⟩) ?_
 rintro m hm;refine sq (sq (rl (o1 ?_)));refine o1 ?_;refine ld ?_;refine o1 ?_;refine o1 ?_;refine nl ?_;refine aV rfl (fun h5=>?_) (fun h5=>?_)
 ·refine sk (sq (bl ?_));have hln:=(Ij hf m).2
  have hly:=(CN (hf.ys _ (jB (l:=f.ys) (i:=m) (by omega)))).2
  refine rl (o1 ?_);refine o1 ?_;refine ld ?_;refine o1 ?_;refine o1 ?_
  refine cX ((cV true) (aC f.ys (m))) (cM 6 0 (gE true) (fZ (by omega)) rfl) ?_
  refine ca (VY (hf.ys _ (jB (l:=f.ys) (i:=m) (by omega)))) aA (aM rfl) _ ?_
  refine fF (j:=2) (n:=(iJ f++(f.ys.take m).flatMap yrL).length) (l:=((iJ f++(f.ys.take m).flatMap yrL).map sT).map .t) aR rfl rfl rfl rfl (.sl rfl (jF _)) .fz (Ik _) (zZ _) rfl (by omega) (by omega) ?_
  refine o1 ?_;refine nl (rl (o1 ?_));refine o1 ?_;refine aY 125 (m+1) ?_
  refine o1 ?_;refine nl ?_
  exact⟨m+1,by omega,(by omega),dC h0 [0,2] _ _ (by decide) ⟨rfl,eJ (aBc (Qf (pre:=iJ f) (xs:=f.ys) (k:=m) (by omega))).symm,rfl,trivial⟩ ⟨aD rfl,aD (zY (Qf (pre:=iJ f) (xs:=f.ys) (k:=m) (by omega))),rfl⟩⟩
 refine ex (sq ?_);have hok:=Ij hf m
 have hok1:=hok.1
 have hok2:=hok.2
 have hLL:(iJ f++(f.ys.take m).flatMap yrL)=Ce f:=by rw[cT (by omega)];rfl
 refine WP.sub (wG (i:=6) (k:=1) (t:=9) (z:=1) (n:=(iJ f++(f.ys.take m).flatMap yrL).length) (l:=(iJ f++(f.ys.take m).flatMap yrL).map sT) 9 rfl rfl rfl (Ny _) (.one .sl)) ?_
 generalize hLZ:(iJ f++(f.ys.take m).flatMap yrL)=LZ at*;refine rl (o1 ?_);refine nl (sq (sq (rl (o1 ?_))));refine nl (bl ?_)
 refine lp (γ:=Nat) (fun s=>bP [(6,.one (.t (yB 9 LZ))),(12,iN s),(11,.one (tv (.string (aN (cN (LZ.take s))))))]) (fun s=>([]:List Ob).map some) (fun s=>s<=LZ.length) (fun s=>LZ.length-s) 0 (Nat.zero_le _) (aH h0 [] rfl) ?_
 rintro q hq;refine sq (sq (rl ?_));(iterate 4 refine o1 ?_);refine nl ?_;refine aV rfl (fun h6=>?_) (fun h6=>?_)
 ·refine sk (sq (bl ?_));have hT:=aBe hok1 (by omega) (k:=q) (by omega)
  refine rl ?_;(iterate 4 refine o1 ?_);refine cX ([sT (eQ LZ (q))]) (nF LZ (k:=q) (by omega)) ?_
  refine o1 ?_ (hC:=(by rw[aO,aO];omega))
  refine lZ 145 ((cN (LZ.take q))++eQ LZ q) rfl (eK _ _) ?_
  refine o1 ?_ (hC:=(by rw[aO,cJ];show _+1<=_;omega))
  refine lZ 146 ((cN (LZ.take q))++eQ LZ q++[10]) rfl (eK _ [10]) ?_;refine o1 ?_;refine nl (rl ?_)
  refine o1 ?_;refine o1 ?_;refine aY 139 (q+1) ?_
  refine o1 ?_;refine nl ?_;exact⟨q+1,by omega,(by omega),dC h0 [] _ _ (by decide) ⟨rfl,rfl,GU _ (aBd (by omega)).symm,trivial⟩ rfl⟩
 refine ex (sq (rl ?_));(iterate 3 refine o1 ?_);refine nl (rt ?_);have hqe:LZ.take q=Ce f:=by rw[cT (by omega),hLL]
 exact en (.inl rfl) rfl (gP (.cons (bO _) (.cons (bO _) .nil))) (by decide) (fun _=>⟨trivial,trivial,trivial⟩) ((congrArg (fun l:List (List Nat)=>FV.tup [.one (tv (.string (aN (cN l)))),.one (tv (.int .i64 0))]) hqe).trans (KW (by omega)))
theorem Ds {xs:List Nat}(hx:xs.length<=1099511627776):aE true Tryz.prog 40 [] [.one (.t (sU false xs))] (aP (.one (.t (sU true xs)))):=by
 refine bD Tryz.func40 Tryz.ntmps40 fun N w c0 h0=>?_
 refine sq (rl (o1 ?_));refine nl (sq (rl (o1 ?_)));refine nl (sq (rl (o1 ?_)));refine o1 ?_
 refine fF (j:=0) aR rfl rfl rfl rfl .nil .fz (VZ _) (GV _) rfl (by omega) (by omega) ?_
 refine o1 ?_;refine nl (rt ?_)
 exact en (.inl rfl) rfl (bB (.one (.sl rfl rfl (by rw[Nat.zero_add,Nat.mul_one,List.nil_append,cT (by simp[kS])]) (by simp[kS])))) (by decide) (fun _=>.inl ⟨rfl,gW xs⟩) (by simp[aP,sU])
theorem eL {a:Fr4}(ha:a.len 1099511627776):aE true Tryz.prog 17 [] [qF a] (aP (rO a)):=by
 refine bD Tryz.func17 Tryz.ntmps17 fun N w c0 h0=>?_
 refine sq (rl (bx 0 ?_));refine al 1 ?_;refine nl (sq ?_);refine bU [0,1] [17] ?_
 refine dv 0 ?_;refine dv 1 ?_;refine aF 2 ?_;refine dv 3 ?_;refine dv 4 ?_;refine aF 5 ?_;refine dv 8 ?_;refine dv 9 ?_;refine aF 10 ?_;refine dv 11 ?_;refine dv 12 ?_;refine aF 13 ?_
 refine qA 2 6 rfl (Ds ha.1) aA (bC rfl) ?_;refine df 7 ?_;refine qA 3 14 rfl (Ds ha.2) aA (bC rfl) ?_;refine df 15 ?_;refine df 16 ?_;refine dst 17 ?_;refine aJ ?_
 refine rt ?_
 exact en (.inl rfl) rfl (bB (.agg (.cons (.id rfl) (.cons (.sl (trs:=bF a.x) rfl rfl (cC _) (bT _)) (.cons (.id rfl) (.cons (.sl (trs:=bF a.y) rfl rfl (cC _) (bT _)) .nil)))))) (by decide) (fun _=>xV a) rfl
theorem OJ {a:Fr4}(ha:a.len 1099511627776):aE true Tryz.prog 38 [] [qF a] (aP (rO a)):=by
 refine bD Tryz.func38 Tryz.ntmps38 fun N w c0 h0=>?_
 refine sq (rl (bx 0 ?_));refine al 1 ?_;refine nl (sq ?_);refine bU [0,1] [17] ?_
 refine dv 0 ?_;refine dv 1 ?_;refine aF 2 ?_;refine dv 3 ?_;refine dv 4 ?_;refine aF 5 ?_;refine dv 8 ?_;refine dv 9 ?_;refine aF 10 ?_;refine dv 11 ?_;refine dv 12 ?_;refine aF 13 ?_
 refine qA 2 6 rfl (Ds ha.1) aA (bC rfl) ?_;refine df 7 ?_;refine qA 3 14 rfl (Ds ha.2) aA (bC rfl) ?_;refine df 15 ?_;refine df 16 ?_;refine dst 17 ?_;refine aJ ?_
 refine rt ?_
 exact en (.inl rfl) rfl (bB (.agg (.cons (.id rfl) (.cons (.sl (trs:=bF a.x) rfl rfl (cC _) (bT _)) (.cons (.id rfl) (.cons (.sl (trs:=bF a.y) rfl rfl (cC _) (bT _)) .nil)))))) (by decide) (fun _=>xV a) rfl
end Go.Proofs.YtimiaildfkimfaaGreatDoor
