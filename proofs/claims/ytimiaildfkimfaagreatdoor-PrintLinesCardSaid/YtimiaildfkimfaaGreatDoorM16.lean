/- Part 16 of a proof: M6 to M10. -/
import Derived.Test.YtimiaildfkimfaaGreatDoorM13
import Derived.Test.YtimiaildfkimfaaGreatDoorM15
set_option maxRecDepth 100000
set_option linter.unusedVariables false
set_option linter.unusedSimpArgs false
namespace Go.Proofs.YtimiaildfkimfaaGreatDoor
open Go Go.RowKit
theorem Ve {a:Zi}(hl:a.x.length<=1000000):aE true Tryz.prog 71 [] [gF a,gF a] (aP (.one (tv (.bool true)))):=by
 refine bD Tryz.func71 Tryz.ntmps71 fun N9 w9 c0 h0=>?_
 refine sq (rl (bx 0 ?_));refine bx 1 ?_;refine o1 ?_;refine nl (sq (sq (rl (o1 ?_))));refine ld ?_;refine o1 ?_;refine ld ?_;refine o1 ?_
 refine fU 10 false rfl (by simp) ?_
 refine o1 ?_;refine o1 ?_;refine ld ?_;refine o1 ?_;refine o1 ?_;refine ld ?_;refine o1 ?_;refine o1 ?_;refine fU 18 false rfl (by simp) ?_
 refine o1 ?_;refine nl (dY rfl (sk (sq (sq (rl (o1 ?_))))));refine nl (bl ?_)
 refine lp (γ:=Nat) (fun k=>bP [(2,pN 0),(3,pN 1),(5,iN k)]) (fun k=>[(⟨36,0,[tv (.bool a.s),.t (sU false a.x)]⟩:Ob),⟨36,0,[tv (.bool a.s),.t (sU false a.x)]⟩].map some) (fun k=>k<=a.x.length/\True) (fun k=>a.x.length-k) 0 ⟨Nat.zero_le _,trivial⟩ (aH h0 [0,1] ⟨oe rfl rfl,oe rfl rfl,rfl⟩) fun k hk=>?_
 refine sq (sq (rl (o1 ?_)));refine o1 ?_;refine ld ?_;refine o1 ?_;refine o1 ?_;refine nl ?_;refine aV rfl (fun h1=>?_) (fun h1=>?_)
 ·refine sk (sq (bl (sq ?_)));refine bU [0,1] [] ?_
  refine dv 0 ?_;refine aF 1 ?_;refine dv 2 ?_;refine dv 3 ?_;refine dQ 4 ([.v (.int .u32 ((nth a.x (k):Nat):Int))]) (pD a.x (k:=k) (by omega)) ?_
  refine dv 5 ?_;refine aF 6 ?_;refine dv 7 ?_;refine dv 8 ?_;refine dQ 9 ([.v (.int .u32 ((nth a.x (k):Nat):Int))]) (pD a.x (k:=k) (by omega)) ?_
  refine dv 10 ?_;refine qR 37 false rfl (by simp) ?_
  refine aJ ?_;refine dY rfl (sk (rl (o1 ?_)));refine o1 ?_;refine aY 26 (k+1) ?_
  refine o1 ?_;refine nl ?_;exact⟨k+1,by omega,⟨by omega,trivial⟩,aH h0 [0,1] ⟨oe rfl rfl,oe rfl rfl,rfl⟩⟩
 refine ex (sq (rl (o1 ?_)));refine nl (rt ?_);exact en (.inl rfl) rfl (bB (bO _)) (by decide) (fun _=>trivial) rfl
theorem mN {a:Fr4}(ha:Ok6 a):aE true Tryz.prog 30 [] [qF a,qF a] (aP (.one (tv (.bool true)))):=by
 refine bD Tryz.func30 Tryz.ntmps30 fun N9 w9 c0 h0=>?_
 refine sq (rl (bx 0 ?_));refine bx 1 ?_;refine o1 ?_;refine nl (sq (rl (o1 ?_)));refine ld ?_;refine o1 ?_;refine ld ?_
 refine ca (Ve (a:=⟨a.s,a.x⟩) (by have:=ha.2;dsimp only;omega)) aA (bN rfl rfl) _ ?_
 refine o1 ?_;refine o1 ?_;refine ld ?_;refine o1 ?_;refine ld ?_
 refine ca (Ve (a:=⟨a.t,a.y⟩) (by have:=ha.2;dsimp only;omega)) aA (bN rfl rfl) _ ?_
 refine o1 ?_;refine o1 ?_;refine nl (rt ?_);exact en (.inl rfl) rfl (bB (bO _)) (by decide) (fun _=>trivial) rfl
theorem Yo {y:Yer}(hy:OkY y):aE true Tryz.prog 31 [] [.agg ((cV true y).map .t),.agg ((cV true y).map .t)] (aP (.one (tv (.bool true)))):=by
 refine bD Tryz.func31 Tryz.ntmps31 fun N9 w9 c0 h0=>?_
 have hhl:=hy.hl
 have hbl:=hy.bl
 have hdl:=hy.dl
 have hsl:=hy.sl
 have hol:=hy.ol
 refine sq (rl (bx 0 ?_));refine bx 1 ?_;refine o1 ?_;refine nl (sq (sq (rl (o1 ?_))));refine ld ?_;refine o1 ?_;refine ld ?_;refine o1 ?_
 refine fU 20 false rfl (by simp) ?_
 refine o1 ?_;refine o1 ?_;refine ld ?_;refine o1 ?_;refine o1 ?_;refine ld ?_;refine o1 ?_;refine o1 ?_;refine fU 28 false rfl (by simp) ?_
 (iterate 3 refine o1 ?_);refine ld ?_;refine o1 ?_;refine o1 ?_;refine ld ?_;refine o1 ?_;refine o1 ?_;refine fU 37 false rfl (by simp) ?_
 (iterate 3 refine o1 ?_);refine ld ?_;refine o1 ?_;refine o1 ?_;refine ld ?_;refine o1 ?_;refine o1 ?_;refine fU 46 false rfl (by simp) ?_
 (iterate 3 refine o1 ?_);refine ld ?_;refine o1 ?_;refine o1 ?_;refine ld ?_;refine o1 ?_;refine o1 ?_;refine fU 55 false rfl (by simp) ?_
 (iterate 3 refine o1 ?_);refine ld ?_;refine o1 ?_;refine o1 ?_;refine ld ?_;refine o1 ?_;refine o1 ?_;refine fU 64 false rfl (by simp) ?_
 refine o1 ?_;refine nl (dY rfl (sk (sq (sq (rl (o1 ?_))))));refine nl (bl ?_)
 refine lp (γ:=Nat) (fun k=>bP [(2,pN 0),(3,pN 1),(5,iN k)]) (fun k=>[(⟨81,0,(cV true y).map .t⟩:Ob),⟨81,0,(cV true y).map .t⟩].map some) (fun k=>k<=y.h.length/\True) (fun k=>y.h.length-k) 0 ⟨Nat.zero_le _,trivial⟩ (aH h0 [0,1] ⟨aD rfl,aD rfl,rfl⟩) fun k hk=>?_
 refine sq (sq (rl (o1 ?_)));refine o1 ?_;refine ld ?_;refine o1 ?_;refine o1 ?_;refine nl ?_;refine aV rfl (fun h1=>?_) (fun h1=>?_)
 ·refine sk (sq (bl ?_))
  refine md (γ:=Unit) (fun _=>bP [(2,pN 0),(3,pN 1),(5,iN k),(6,pN 2),(7,pN 3)]) (fun _=>([⟨81,0,(cV true y).map .t⟩,⟨81,0,(cV true y).map .t⟩,⟨127,0,(fG (aB y.h (k))).map .t⟩,⟨127,0,(fG (aB y.h (k))).map .t⟩]:List Ob).map some) (fun _=>True) ?_ fun _ _=>?_
  ·refine bU [0,1] [13] ?_
   refine dv 0 ?_;refine aF 1 ?_;refine dv 2 ?_;refine dv 3 ?_
   refine dQ 4 (fG (aB y.h (k))) (cM 6 0 dF (aI (by omega)) rfl) ?_
   refine dv 5 ?_;refine aF 6 ?_;refine dv 7 ?_;refine dv 8 ?_
   refine dQ 9 (fG (aB y.h (k))) (cM 6 0 dF (aI (by omega)) rfl) ?_
   refine dD 10 11 ?_ ?_
   ·refine bQ 2 10 ?_;refine eE 3 11 ?_
    refine aT 12 ?_
    refine dst 13 ?_;refine aJ ?_;exact⟨(),trivial,aH h0 [0,1,2,3] ⟨aD rfl,aD rfl,aD rfl,aD rfl,rfl⟩⟩
   refine bQ 2 11 ?_;refine eE 3 10 ?_
   refine aT 12 ?_
   refine dst 13 ?_;refine aJ ?_;exact⟨(),trivial,aH h0 [0,1,3,2] ⟨aD rfl,aD rfl,aD rfl,aD rfl,rfl⟩⟩
  refine sq (rl (o1 ?_));refine ld ?_;refine o1 ?_;refine ld ?_;refine o1 ?_;refine fU 87 false rfl (by simp) ?_
  refine o1 ?_;refine o1 ?_;refine ld ?_;refine o1 ?_;refine ld ?_;refine o1 ?_;refine fU 93 false rfl (by simp) ?_
  (iterate 3 refine o1 ?_);refine ld ?_;refine o1 ?_;refine ld ?_
  refine ca (mN ((hy.h (aB y.h (k)) (aS (l:=y.h) (by omega))).p)) aA (bN rfl rfl) _ ?_
  refine o1 ?_;refine o1 ?_;refine nl (dY rfl (sk (rl (o1 ?_))));refine o1 ?_
  refine aY 72 (k+1) ?_
  refine o1 ?_;refine nl ?_;exact⟨k+1,by omega,⟨by omega,trivial⟩,aH h0 [0,1] ⟨aD rfl,aD rfl,rfl⟩⟩
 refine ex (sq (sq (rl (o1 ?_))));refine nl (bl ?_)
 refine lp (γ:=Nat) (fun i=>bP [(2,pN 0),(3,pN 1),(8,iN i)]) (fun i=>[(⟨81,0,(cV true y).map .t⟩:Ob),⟨81,0,(cV true y).map .t⟩].map some) (fun i=>i<=y.b.length/\True) (fun i=>y.b.length-i) 0 ⟨Nat.zero_le _,trivial⟩ (aH h0 [0,1] ⟨aD rfl,aD rfl,rfl⟩) fun i hi=>?_
 refine sq (sq (rl (o1 ?_)));refine o1 ?_;refine ld ?_;refine o1 ?_;refine o1 ?_;refine nl ?_;refine aV rfl (fun h2=>?_) (fun h2=>?_)
 ·refine sk (sq (bl ?_))
  refine md (γ:=Unit) (fun _=>bP [(2,pN 0),(3,pN 1),(8,iN i),(9,pN 2),(10,pN 3)]) (fun _=>([⟨81,0,(cV true y).map .t⟩,⟨81,0,(cV true y).map .t⟩,⟨129,0,(fG (aB y.b (i))).map .t⟩,⟨129,0,(fG (aB y.b (i))).map .t⟩]:List Ob).map some) (fun _=>True) ?_ fun _ _=>?_
  ·refine bU [0,1] [13] ?_
   refine dv 0 ?_;refine aF 1 ?_;refine dv 2 ?_;refine dv 3 ?_
   refine dQ 4 (fG (aB y.b (i))) (cM 6 0 dF (aI (by omega)) rfl) ?_
   refine dv 5 ?_;refine aF 6 ?_;refine dv 7 ?_;refine dv 8 ?_
   refine dQ 9 (fG (aB y.b (i))) (cM 6 0 dF (aI (by omega)) rfl) ?_
   refine dD 10 11 ?_ ?_
   ·refine bQ 2 10 ?_;refine eE 3 11 ?_
    refine aT 12 ?_
    refine dst 13 ?_;refine aJ ?_;exact⟨(),trivial,aH h0 [0,1,2,3] ⟨aD rfl,aD rfl,aD rfl,aD rfl,rfl⟩⟩
   refine bQ 2 11 ?_;refine eE 3 10 ?_
   refine aT 12 ?_
   refine dst 13 ?_;refine aJ ?_;exact⟨(),trivial,aH h0 [0,1,3,2] ⟨aD rfl,aD rfl,aD rfl,aD rfl,rfl⟩⟩
  refine sq (rl (o1 ?_));refine ld ?_;refine o1 ?_;refine ld ?_;refine o1 ?_;refine fU 124 false rfl (by simp) ?_
  refine o1 ?_;refine o1 ?_;refine ld ?_;refine o1 ?_;refine ld ?_;refine o1 ?_;refine fU 130 false rfl (by simp) ?_
  (iterate 3 refine o1 ?_);refine ld ?_;refine o1 ?_;refine ld ?_
  refine ca (mN ((hy.b (aB y.b (i)) (aS (l:=y.b) (by omega))).p)) aA (bN rfl rfl) _ ?_
  refine o1 ?_;refine o1 ?_;refine nl (dY rfl (sk (rl (o1 ?_))));refine o1 ?_
  refine aY 109 (i+1) ?_
  refine o1 ?_;refine nl ?_;exact⟨i+1,by omega,⟨by omega,trivial⟩,aH h0 [0,1] ⟨aD rfl,aD rfl,rfl⟩⟩
 refine ex (sq (sq (rl (o1 ?_))));refine nl (bl ?_)
 refine lp (γ:=Nat) (fun j=>bP [(2,pN 0),(3,pN 1),(11,iN j)]) (fun j=>[(⟨81,0,(cV true y).map .t⟩:Ob),⟨81,0,(cV true y).map .t⟩].map some) (fun j=>j<=y.d.length/\True) (fun j=>y.d.length-j) 0 ⟨Nat.zero_le _,trivial⟩ (aH h0 [0,1] ⟨aD rfl,aD rfl,rfl⟩) fun j hj=>?_
 refine sq (sq (rl (o1 ?_)));refine o1 ?_;refine ld ?_;refine o1 ?_;refine o1 ?_;refine nl ?_;refine aV rfl (fun h3=>?_) (fun h3=>?_)
 ·refine sk (sq (bl ?_))
  refine md (γ:=Unit) (fun _=>bP [(2,pN 0),(3,pN 1),(11,iN j),(12,pN 2),(13,pN 3)]) (fun _=>([⟨81,0,(cV true y).map .t⟩,⟨81,0,(cV true y).map .t⟩,⟨131,0,(kP (aB y.d (j))).map .t⟩,⟨131,0,(kP (aB y.d (j))).map .t⟩]:List Ob).map some) (fun _=>True) ?_ fun _ _=>?_
  ·refine bU [0,1] [13] ?_
   refine dv 0 ?_;refine aF 1 ?_;refine dv 2 ?_;refine dv 3 ?_
   refine dQ 4 (kP (aB y.d (j))) (cM 10 0 lH (aI (by omega)) rfl) ?_
   refine dv 5 ?_;refine aF 6 ?_;refine dv 7 ?_;refine dv 8 ?_
   refine dQ 9 (kP (aB y.d (j))) (cM 10 0 lH (aI (by omega)) rfl) ?_
   refine dD 10 11 ?_ ?_
   ·refine bQ 2 10 ?_;refine eE 3 11 ?_
    refine aT 12 ?_
    refine dst 13 ?_;refine aJ ?_;exact⟨(),trivial,aH h0 [0,1,2,3] ⟨aD rfl,aD rfl,aD rfl,aD rfl,rfl⟩⟩
   refine bQ 2 11 ?_;refine eE 3 10 ?_
   refine aT 12 ?_
   refine dst 13 ?_;refine aJ ?_;exact⟨(),trivial,aH h0 [0,1,3,2] ⟨aD rfl,aD rfl,aD rfl,aD rfl,rfl⟩⟩
  refine sq (rl (o1 ?_));refine ld ?_;refine o1 ?_;refine ld ?_;refine o1 ?_;refine fU 161 false rfl (by simp) ?_
  refine o1 ?_;refine o1 ?_;refine ld ?_;refine o1 ?_;refine ld ?_;refine o1 ?_;refine fU 167 false rfl (by simp) ?_
  (iterate 3 refine o1 ?_);refine ld ?_;refine o1 ?_;refine ld ?_;refine o1 ?_;refine fU 174 false rfl (by simp) ?_
  (iterate 3 refine o1 ?_);refine ld ?_;refine o1 ?_;refine ld ?_;refine o1 ?_;refine fU 181 false rfl (by simp) ?_
  (iterate 3 refine o1 ?_);refine ld ?_;refine o1 ?_;refine ld ?_;refine o1 ?_;refine fU 188 false rfl (by simp) ?_
  (iterate 3 refine o1 ?_);refine ld ?_;refine o1 ?_;refine ld ?_;refine o1 ?_;refine fU 195 false rfl (by simp) ?_
  (iterate 3 refine o1 ?_);refine ld ?_;refine o1 ?_;refine ld ?_
  refine ca (mN ((hy.d (aB y.d (j)) (aS (l:=y.d) (by omega))).p)) aA (bN rfl rfl) _ ?_
  refine o1 ?_;refine o1 ?_;refine nl (dY rfl (sk (rl (o1 ?_))));refine o1 ?_
  refine aY 146 (j+1) ?_
  refine o1 ?_;refine nl ?_;exact⟨j+1,by omega,⟨by omega,trivial⟩,aH h0 [0,1] ⟨aD rfl,aD rfl,rfl⟩⟩
 refine ex (sq (sq (rl (o1 ?_))));refine nl (bl ?_)
 refine lp (γ:=Nat) (fun m=>bP [(2,pN 0),(3,pN 1),(14,iN m)]) (fun m=>[(⟨81,0,(cV true y).map .t⟩:Ob),⟨81,0,(cV true y).map .t⟩].map some) (fun m=>m<=y.s.length/\True) (fun m=>y.s.length-m) 0 ⟨Nat.zero_le _,trivial⟩ (aH h0 [0,1] ⟨aD rfl,aD rfl,rfl⟩) fun m hm=>?_
 refine sq (sq (rl (o1 ?_)));refine o1 ?_;refine ld ?_;refine o1 ?_;refine o1 ?_;refine nl ?_;refine aV rfl (fun h4=>?_) (fun h4=>?_)
 ·refine sk (sq (bl (sq ?_)));refine bU [0,1] [] ?_
  refine dv 0 ?_;refine aF 1 ?_;refine dv 2 ?_;refine dv 3 ?_;refine dv 4 ?_
  refine dQ 5 ([sT (aB y.s (m)).s]) (cM 9 0 fI (aI (by omega)) rfl) ?_
  refine dv 6 ?_;refine aF 7 ?_;refine dv 8 ?_;refine dv 9 ?_;refine dv 10 ?_
  refine dQ 11 ([sT (aB y.s (m)).s]) (cM 9 0 fI (aI (by omega)) rfl) ?_
  refine dv 12 ?_;refine qR 224 false rfl (by simp) ?_
  refine dv 13 ?_;refine dv 14 ?_;refine aF 15 ?_;refine dv 16 ?_;refine dv 17 ?_;refine dv 18 ?_
  refine dQ 19 ((aB y.s (m)).p.tr false) (cM 9 1 fI (aI (by omega)) rfl) ?_
  refine dv 20 ?_;refine aF 21 ?_;refine dv 22 ?_;refine dv 23 ?_;refine dv 24 ?_
  refine dQ 25 ((aB y.s (m)).p.tr false) (cM 9 1 fI (aI (by omega)) rfl) ?_
  refine aG 26 rfl (mN ((hy.s (aB y.s (m)) (aS (l:=y.s) (by omega))).p)) aA (bN rfl rfl) _ ?_
  refine df 27 ?_;refine df 28 ?_;refine df 29 ?_;refine dv 30 ?_;refine aF 31 ?_;refine dv 32 ?_;refine dv 33 ?_;refine dv 34 ?_
  refine dQ 35 ((aB y.s (m)).q.tr false) (cM 9 5 fI (aI (by omega)) rfl) ?_
  refine dv 36 ?_;refine aF 37 ?_;refine dv 38 ?_;refine dv 39 ?_;refine dv 40 ?_
  refine dQ 41 ((aB y.s (m)).q.tr false) (cM 9 5 fI (aI (by omega)) rfl) ?_
  refine aG 42 rfl (mN ((hy.s (aB y.s (m)) (aS (l:=y.s) (by omega))).q)) aA (bN rfl rfl) _ ?_
  refine df 43 ?_;refine df 44 ?_;refine aJ ?_;refine dY rfl (sk (rl (o1 ?_)));refine o1 ?_
  refine aY 211 (m+1) ?_
  refine o1 ?_;refine nl ?_;exact⟨m+1,by omega,⟨by omega,trivial⟩,aH h0 [0,1] ⟨aD rfl,aD rfl,rfl⟩⟩
 refine ex (sq (sq (rl (o1 ?_))));refine nl (bl ?_)
 refine lp (γ:=Nat) (fun n=>bP [(2,pN 0),(3,pN 1),(15,iN n)]) (fun n=>[(⟨81,0,(cV true y).map .t⟩:Ob),⟨81,0,(cV true y).map .t⟩].map some) (fun n=>n<=y.o.length/\True) (fun n=>y.o.length-n) 0 ⟨Nat.zero_le _,trivial⟩ (aH h0 [0,1] ⟨aD rfl,aD rfl,rfl⟩) fun n hn=>?_
 refine sq (sq (rl (o1 ?_)));refine o1 ?_;refine ld ?_;refine o1 ?_;refine o1 ?_;refine nl ?_;refine aV rfl (fun h5=>?_) (fun h5=>?_)
 ·refine sk (sq (bl (sq ?_)));refine bU [0,1] [] ?_
  refine dv 0 ?_;refine aF 1 ?_;refine dv 2 ?_;refine dv 3 ?_;refine dv 4 ?_
  refine dQ 5 ([sT (aB y.o (n)).s]) (cM 5 0 gR (aI (by omega)) rfl) ?_
  refine dv 6 ?_;refine aF 7 ?_;refine dv 8 ?_;refine dv 9 ?_;refine dv 10 ?_
  refine dQ 11 ([sT (aB y.o (n)).s]) (cM 5 0 gR (aI (by omega)) rfl) ?_
  refine dv 12 ?_;refine qR 276 false rfl (by simp) ?_
  refine dv 13 ?_;refine dv 14 ?_;refine aF 15 ?_;refine dv 16 ?_;refine dv 17 ?_;refine dv 18 ?_
  refine dQ 19 ((aB y.o (n)).p.tr false) (cM 5 1 gR (aI (by omega)) rfl) ?_
  refine dv 20 ?_;refine aF 21 ?_;refine dv 22 ?_;refine dv 23 ?_;refine dv 24 ?_
  refine dQ 25 ((aB y.o (n)).p.tr false) (cM 5 1 gR (aI (by omega)) rfl) ?_
  refine aG 26 rfl (mN ((hy.o (aB y.o (n)) (aS (l:=y.o) (by omega))).p)) aA (bN rfl rfl) _ ?_
  refine df 27 ?_;refine df 28 ?_;refine aJ ?_;refine dY rfl (sk (rl (o1 ?_)));refine o1 ?_
  refine aY 263 (n+1) ?_
  refine o1 ?_;refine nl ?_;exact⟨n+1,by omega,⟨by omega,trivial⟩,aH h0 [0,1] ⟨aD rfl,aD rfl,rfl⟩⟩
 refine ex (sq (rl (o1 ?_)));refine nl (rt ?_);exact en (.inl rfl) rfl (bB (bO _)) (by decide) (fun _=>trivial) rfl
theorem XJ {f:Fil}(hf:OkF f):aE true Tryz.prog 9 [] [.agg ((cZ true f).map .t),.agg ((cZ true f).map .t)] (aP (.one (tv (.bool true)))):=by
 refine bD Tryz.func9 Tryz.ntmps9 fun N9 w9 c0 h0=>?_
 have hbr:=hf.brl
 have hcl:=hf.cll
 have hen:=hf.enl
 have hys:=hf.ysl
 refine sq (rl (bx 0 ?_));refine bx 1 ?_;refine o1 ?_;refine nl (sq (sq (rl (o1 ?_))));refine ld ?_;refine o1 ?_;refine ld ?_;refine o1 ?_
 refine fU 13 false rfl (by simp) ?_
 refine o1 ?_;refine o1 ?_;refine ld ?_;refine o1 ?_;refine ld ?_;refine o1 ?_;refine fU 19 false rfl (by simp) ?_
 (iterate 3 refine o1 ?_);refine ld ?_;refine o1 ?_;refine o1 ?_;refine ld ?_;refine o1 ?_;refine o1 ?_;refine fU 28 false rfl (by simp) ?_
 (iterate 3 refine o1 ?_);refine ld ?_;refine o1 ?_;refine o1 ?_;refine ld ?_;refine o1 ?_;refine o1 ?_;refine fU 37 false rfl (by simp) ?_
 (iterate 3 refine o1 ?_);refine ld ?_;refine o1 ?_;refine o1 ?_;refine ld ?_;refine o1 ?_;refine o1 ?_;refine fU 46 false rfl (by simp) ?_
 (iterate 3 refine o1 ?_);refine ld ?_;refine o1 ?_;refine o1 ?_;refine ld ?_;refine o1 ?_;refine o1 ?_;refine fU 55 false rfl (by simp) ?_
 refine o1 ?_;refine nl (dY rfl (sk (sq (sq (rl (o1 ?_))))));refine ld ?_;refine o1 ?_;refine ld ?_
 refine ca (mN (hf.th)) aA (bN rfl rfl) _ ?_;(iterate 3 refine o1 ?_);refine ld ?_;refine o1 ?_;refine ld ?_
 refine ca (mN (hf.cp)) aA (bN rfl rfl) _ ?_;(iterate 4 refine o1 ?_);refine ld ?_;refine o1 ?_;refine ld ?_;refine o1 ?_
 refine fU 76 false rfl (by simp) ?_
 (iterate 3 refine o1 ?_);refine ld ?_;refine o1 ?_;refine ld ?_;refine o1 ?_;refine fU 83 false rfl (by simp) ?_
 (iterate 3 refine o1 ?_);refine ld ?_;refine o1 ?_;refine ld ?_;refine ca (mN (hf.it)) aA (bN rfl rfl) _ ?_;(iterate 4 refine o1 ?_);refine ld ?_
 refine o1 ?_;refine ld ?_;refine ca (mN (hf.fl)) aA (bN rfl rfl) _ ?_;(iterate 4 refine o1 ?_);refine ld ?_;refine o1 ?_;refine ld ?_;refine o1 ?_
 refine fU 106 false rfl (by simp) ?_
 refine o1 ?_;refine nl (dY rfl (sk (sq (sq (rl (o1 ?_))))));refine nl (bl ?_)
 refine lp (γ:=Nat) (fun k=>bP [(2,pN 0),(3,pN 1),(5,iN k)]) (fun k=>[(⟨42,0,(cZ true f).map .t⟩:Ob),⟨42,0,(cZ true f).map .t⟩].map some) (fun k=>k<=f.br.length/\True) (fun k=>f.br.length-k) 0 ⟨Nat.zero_le _,trivial⟩ (aH h0 [0,1] ⟨aD rfl,aD rfl,rfl⟩) fun k hk=>?_
 refine sq (sq (rl (o1 ?_)));refine o1 ?_;refine ld ?_;refine o1 ?_;refine o1 ?_;refine nl ?_;refine aV rfl (fun h1=>?_) (fun h1=>?_)
 ·refine sk (sq (bl (sq ?_)));refine bU [0,1] [] ?_
  refine dv 0 ?_;refine aF 1 ?_;refine dv 2 ?_;refine dv 3 ?_;refine dv 4 ?_
  refine dQ 5 ((aB f.br (k)).p.tr false) (cM 8 0 gQ (aI (by omega)) rfl) ?_
  refine dv 6 ?_;refine aF 7 ?_;refine dv 8 ?_;refine dv 9 ?_;refine dv 10 ?_
  refine dQ 11 ((aB f.br (k)).p.tr false) (cM 8 0 gQ (aI (by omega)) rfl) ?_
  refine aG 12 rfl (mN ((hf.br (aB f.br (k)) (aS (l:=f.br) (by omega))).p)) aA (bN rfl rfl) _ ?_
  refine df 13 ?_;refine df 14 ?_;refine dv 15 ?_;refine aF 16 ?_;refine dv 17 ?_;refine dv 18 ?_;refine dv 19 ?_
  refine dQ 20 ((aB f.br (k)).q.tr false) (cM 8 4 gQ (aI (by omega)) rfl) ?_
  refine dv 21 ?_;refine aF 22 ?_;refine dv 23 ?_;refine dv 24 ?_;refine dv 25 ?_
  refine dQ 26 ((aB f.br (k)).q.tr false) (cM 8 4 gQ (aI (by omega)) rfl) ?_
  refine aG 27 rfl (mN ((hf.br (aB f.br (k)) (aS (l:=f.br) (by omega))).q)) aA (bN rfl rfl) _ ?_
  refine df 28 ?_;refine df 29 ?_;refine aJ ?_;refine dY rfl (sk (rl (o1 ?_)));refine o1 ?_
  refine aY 114 (k+1) ?_
  refine o1 ?_;refine nl ?_;exact⟨k+1,by omega,⟨by omega,trivial⟩,aH h0 [0,1] ⟨aD rfl,aD rfl,rfl⟩⟩
 refine ex (sq (sq (rl (o1 ?_))));refine nl (bl ?_)
 refine lp (γ:=Nat) (fun i=>bP [(2,pN 0),(3,pN 1),(6,iN i)]) (fun i=>[(⟨42,0,(cZ true f).map .t⟩:Ob),⟨42,0,(cZ true f).map .t⟩].map some) (fun i=>i<=f.cl.length/\True) (fun i=>f.cl.length-i) 0 ⟨Nat.zero_le _,trivial⟩ (aH h0 [0,1] ⟨aD rfl,aD rfl,rfl⟩) fun i hi=>?_
 refine sq (sq (rl (o1 ?_)));refine o1 ?_;refine ld ?_;refine o1 ?_;refine o1 ?_;refine nl ?_;refine aV rfl (fun h2=>?_) (fun h2=>?_)
 ·refine sk (sq (bl (sq ?_)));refine bU [0,1] [] ?_
  refine dv 0 ?_;refine aF 1 ?_;refine dv 2 ?_;refine dv 3 ?_;refine dv 4 ?_
  refine dQ 5 ([sT (aB f.cl (i)).s]) (cM 6 0 iH (aI (by omega)) rfl) ?_
  refine dv 6 ?_;refine aF 7 ?_;refine dv 8 ?_;refine dv 9 ?_;refine dv 10 ?_
  refine dQ 11 ([sT (aB f.cl (i)).s]) (cM 6 0 iH (aI (by omega)) rfl) ?_
  refine dv 12 ?_;refine qR 164 false rfl (by simp) ?_
  refine dv 13 ?_;refine dv 14 ?_;refine aF 15 ?_;refine dv 16 ?_;refine dv 17 ?_;refine dv 18 ?_
  refine dQ 19 ([.v (.int .u8 ((aB f.cl (i)).k:Int))]) (cM 6 1 iH (aI (by omega)) rfl) ?_
  refine dv 20 ?_;refine aF 21 ?_;refine dv 22 ?_;refine dv 23 ?_;refine dv 24 ?_
  refine dQ 25 ([.v (.int .u8 ((aB f.cl (i)).k:Int))]) (cM 6 1 iH (aI (by omega)) rfl) ?_
  refine dv 26 ?_;refine qR 178 false rfl (by simp) ?_
  refine dv 27 ?_;refine dv 28 ?_;refine dv 29 ?_;refine aF 30 ?_;refine dv 31 ?_;refine dv 32 ?_;refine dv 33 ?_
  refine dQ 34 ((aB f.cl (i)).p.tr false) (cM 6 2 iH (aI (by omega)) rfl) ?_
  refine dv 35 ?_;refine aF 36 ?_;refine dv 37 ?_;refine dv 38 ?_;refine dv 39 ?_
  refine dQ 40 ((aB f.cl (i)).p.tr false) (cM 6 2 iH (aI (by omega)) rfl) ?_
  refine aG 41 rfl (mN ((hf.cl (aB f.cl (i)) (aS (l:=f.cl) (by omega))).p)) aA (bN rfl rfl) _ ?_
  refine df 42 ?_;refine df 43 ?_;refine aJ ?_;refine dY rfl (sk (rl (o1 ?_)));refine o1 ?_
  refine aY 151 (i+1) ?_
  refine o1 ?_;refine nl ?_;exact⟨i+1,by omega,⟨by omega,trivial⟩,aH h0 [0,1] ⟨aD rfl,aD rfl,rfl⟩⟩
 refine ex (sq (sq (rl (o1 ?_))));refine nl (bl ?_)
 refine lp (γ:=Nat) (fun j=>bP [(2,pN 0),(3,pN 1),(7,iN j)]) (fun j=>[(⟨42,0,(cZ true f).map .t⟩:Ob),⟨42,0,(cZ true f).map .t⟩].map some) (fun j=>j<=f.en.length/\True) (fun j=>f.en.length-j) 0 ⟨Nat.zero_le _,trivial⟩ (aH h0 [0,1] ⟨aD rfl,aD rfl,rfl⟩) fun j hj=>?_
 refine sq (sq (rl (o1 ?_)));refine o1 ?_;refine ld ?_;refine o1 ?_;refine o1 ?_;refine nl ?_;refine aV rfl (fun h3=>?_) (fun h3=>?_)
 ·refine sk (sq (bl (sq ?_)));refine bU [0,1] [] ?_
  refine dv 0 ?_;refine aF 1 ?_;refine dv 2 ?_;refine dv 3 ?_;refine dQ 4 ([sT (eQ f.en (j))]) (nF f.en (k:=j) (by omega)) ?_
  refine dv 5 ?_;refine aF 6 ?_;refine dv 7 ?_;refine dv 8 ?_;refine dQ 9 ([sT (eQ f.en (j))]) (nF f.en (k:=j) (by omega)) ?_
  refine dv 10 ?_;refine qR 213 false rfl (by simp) ?_
  refine aJ ?_;refine dY rfl (sk (rl (o1 ?_)));refine o1 ?_;refine aY 202 (j+1) ?_
  refine o1 ?_;refine nl ?_;exact⟨j+1,by omega,⟨by omega,trivial⟩,aH h0 [0,1] ⟨aD rfl,aD rfl,rfl⟩⟩
 refine ex (sq (sq (rl (o1 ?_))));refine nl (bl ?_)
 refine lp (γ:=Nat) (fun m=>bP [(2,pN 0),(3,pN 1),(8,iN m)]) (fun m=>[(⟨42,0,(cZ true f).map .t⟩:Ob),⟨42,0,(cZ true f).map .t⟩].map some) (fun m=>m<=f.ys.length/\True) (fun m=>f.ys.length-m) 0 ⟨Nat.zero_le _,trivial⟩ (aH h0 [0,1] ⟨aD rfl,aD rfl,rfl⟩) fun m hm=>?_
 refine sq (sq (rl (o1 ?_)));refine o1 ?_;refine ld ?_;refine o1 ?_;refine o1 ?_;refine nl ?_;refine aV rfl (fun h4=>?_) (fun h4=>?_)
 ·refine sk (sq (bl (sq ?_)));refine bU [0,1] [] ?_
  refine dv 0 ?_;refine aF 1 ?_;refine dv 2 ?_;refine dv 3 ?_
  refine dQ 4 ((cV true) (aC f.ys (m))) (cM 6 0 (gE true) (fZ (by omega)) rfl) ?_
  refine dv 5 ?_;refine aF 6 ?_;refine dv 7 ?_;refine dv 8 ?_
  refine dQ 9 ((cV true) (aC f.ys (m))) (cM 6 0 (gE true) (fZ (by omega)) rfl) ?_
  refine aG 10 rfl (Yo (hf.ys _ (jB (l:=f.ys) (i:=m) (by omega)))) aA (bN rfl rfl) _ ?_
  refine df 11 ?_;refine aJ ?_;refine dY rfl (sk (rl (o1 ?_)));refine o1 ?_
  refine aY 220 (m+1) ?_
  refine o1 ?_;refine nl ?_;exact⟨m+1,by omega,⟨by omega,trivial⟩,aH h0 [0,1] ⟨aD rfl,aD rfl,rfl⟩⟩
 refine ex (sq (rl (o1 ?_)));refine nl (rt ?_);exact en (.inl rfl) rfl (bB (bO _)) (by decide) (fun _=>trivial) rfl
def cBr (x:It):It:={nilIt with p:=x.p,q:=x.q}
def cCl (x:It):It:={nilIt with s:=x.s,k:=x.k,p:=x.p}
def KZ (x:It):It:={nilIt with s:=x.s,t:=x.t,p:=x.p}
def cDl (x:It):It:={x with q:=nilF}
def cSt (x:It):It:={nilIt with s:=x.s,p:=x.p,q:=x.q}
def cSo (x:It):It:={nilIt with s:=x.s,p:=x.p}
def Ci (y:Yer):Yer:=⟨y.n,y.h.map KZ,y.b.map KZ,y.d.map cDl,y.s.map cSt,y.o.map cSo⟩
def xJ (f:Fil):Fil:={f with br:=f.br.map cBr,cl:=f.cl.map cCl,ys:=f.ys.map Ci}
theorem sE {ty z:Nat}{c:It->List Tr}{g:It->It}(h:∀x,c (g x)=c x) (l:List It):fN ty z c (l.map g)=fN ty z c l:=by simp[fN,List.flatMap_map,h]
theorem aBk (y:Yer):cV false (Ci y)=cV false y:=by
 unfold cV Ci
 dsimp only
 rw[sE (c:=fG) (g:=KZ) (fun _=>rfl),sE (c:=fG) (g:=KZ) (fun _=>rfl),sE (c:=kP) (g:=cDl) (fun _=>rfl),sE (c:=oV) (g:=cSt) (fun _=>rfl),sE (c:=pF) (g:=cSo) (fun _=>rfl)]
theorem aBl (f:Fil):cZ false (xJ f)=cZ false f:=by
 have e:xF false (f.ys.map Ci)=xF false f.ys:=by simp[xF,List.flatMap_map,aBk]
 unfold cZ xJ
 dsimp only
 rw[sE (c:=tI) (g:=cBr) (fun _=>rfl),sE (c:=nP) (g:=cCl) (fun _=>rfl),e]
def Ql (g:Fil):Prop:=∃f,LimFil f/\g=xJ f
theorem PF:Reads Tryz.prog 32 25 (fun l=>∃f:Fil,Ql f/\l=cZ false f):=PB.mono fun l ⟨f,hf,e⟩=>⟨xJ f,⟨f,hf,rfl⟩,by rw[e,aBl]⟩
theorem mO {a:Fr4}(h:Ab a) (h2:oZ a=true):Ok6 a:=by
 simp only[oZ,Bool.and_eq_true,decide_eq_true_eq]at h2
 exact⟨h,h2⟩
theorem lR {l:List Nat}(h:pU l) (h2:Il l=true):OkS l:=⟨h.1,of_decide_eq_true h2⟩
theorem Dw:OkS []:=⟨vN.1,Nat.zero_le _⟩
theorem Ae:Ok6 nilF:=⟨Ac,Nat.zero_le _,Nat.zero_le _⟩
theorem uP:OkI nilIt:=⟨by decide,Dw,Dw,Dw,Dw,Ae,Ae⟩
theorem rY {g:Fil}{y:Yer}{a:Fr4}(hy:y∈g.ys) (h:a∈pP y):a∈uN g:=List.mem_append_right _ (List.mem_flatMap.2 ⟨y,hy,h⟩)
theorem tY {g:Fil}{y:Yer}{a:List Nat}(hy:y∈g.ys) (h:a∈pR y):a∈wT g:=List.mem_append_right _ (List.mem_flatMap.2 ⟨y,hy,h⟩)
theorem aCz {y:Yer}(hy:LimYr y) (hl:LenY (Ci y)) (hR:∀a∈pP (Ci y),oZ a=true) (hT:∀l∈pR (Ci y),Il l=true):OkY (Ci y):=by
 simp only[pP,pR,List.mem_append,List.mem_flatMap]at hR hT
 refine⟨hy.n,fun x' h'=>?_,fun x' h'=>?_,fun x' h'=>?_,fun x' h'=>?_,fun x' h'=>?_,hl.hl,hl.bl,hl.dl,hl.sl,hl.ol⟩
 ·have hp:=hR x'.p (.inl (.inl (.inl (.inl ⟨x',h',by simp[dW]⟩))))
  have hs:=hT x'.s (.inl (.inl (.inl (.inl ⟨x',h',by simp[kH]⟩))))
  have ht:=hT x'.t (.inl (.inl (.inl (.inl ⟨x',h',by simp[kH]⟩))))
  obtain⟨x,hx,rfl⟩:=List.mem_map.1 h'
  have hi:=hy.h x hx
  exact{uP with s:=lR hi.s hs,t:=lR hi.t ht,p:=mO hi.p hp}
 ·have hp:=hR x'.p (.inl (.inl (.inl (.inr ⟨x',h',by simp[dW]⟩))))
  have hs:=hT x'.s (.inl (.inl (.inl (.inr ⟨x',h',by simp[kH]⟩))))
  have ht:=hT x'.t (.inl (.inl (.inl (.inr ⟨x',h',by simp[kH]⟩))))
  obtain⟨x,hx,rfl⟩:=List.mem_map.1 h'
  have hi:=hy.b x hx
  exact{uP with s:=lR hi.s hs,t:=lR hi.t ht,p:=mO hi.p hp}
 ·have hp:=hR x'.p (.inl (.inl (.inr ⟨x',h',by simp[dW]⟩)))
  have hs:=hT x'.s (.inl (.inl (.inr ⟨x',h',by simp[rK]⟩)))
  have ht:=hT x'.t (.inl (.inl (.inr ⟨x',h',by simp[rK]⟩)))
  have hu:=hT x'.u (.inl (.inl (.inr ⟨x',h',by simp[rK]⟩)))
  have hv:=hT x'.v (.inl (.inl (.inr ⟨x',h',by simp[rK]⟩)))
  obtain⟨x,hx,rfl⟩:=List.mem_map.1 h'
  have hi:=hy.d x hx
  exact⟨hi.k,lR hi.s hs,lR hi.t ht,lR hi.u hu,lR hi.v hv,mO hi.p hp,Ae⟩
 ·have hp:=hR x'.p (.inl (.inr ⟨x',h',by simp[mC]⟩))
  have hq:=hR x'.q (.inl (.inr ⟨x',h',by simp[mC]⟩))
  have hs:=hT x'.s (.inl (.inr ⟨x',h',by simp[gT]⟩))
  obtain⟨x,hx,rfl⟩:=List.mem_map.1 h'
  have hi:=hy.s x hx
  exact{uP with s:=lR hi.s hs,p:=mO hi.p hp,q:=mO hi.q hq}
 have hp:=hR x'.p (.inr ⟨x',h',by simp[dW]⟩)
 have hs:=hT x'.s (.inr ⟨x',h',by simp[gT]⟩)
 obtain⟨x,hx,rfl⟩:=List.mem_map.1 h'
 have hi:=hy.o x hx
 exact{uP with s:=lR hi.s hs,p:=mO hi.p hp}
theorem XK {g:Fil}(hc:Ql g) (h:Ad g=true):OkF g:=by
 simp only[Ad,Bool.and_eq_true]at h
 obtain⟨hB,hR,hT⟩:=h
 have hR:=List.all_eq_true.1 hR
 have hT:=List.all_eq_true.1 hT
 have hL:=Vd hB
 have hYR:∀y∈g.ys,∀a∈pP y,oZ a=true:=fun y hy a ha=>hR a (rY hy ha)
 have hYT:∀y∈g.ys,∀a∈pR y,Il a=true:=fun y hy a ha=>hT a (tY hy ha)
 simp only[uN,qV,mF,pQ,wT,sS,oM,List.mem_append,List.mem_flatMap]at hR hT
 obtain⟨f,hf,rfl⟩:=hc
 refine⟨lR hf.nm (hT _ (.inl (.inl (.inl (by simp[xJ]))))),lR hf.pa (hT _ (.inl (.inl (.inl (by simp[xJ]))))),fun x' h'=>?_,mO hf.th (hR _ (.inl (.inl (.inl (by simp[xJ]))))),mO hf.cp (hR _ (.inl (.inl (.inl (by simp[xJ]))))),hf.bk,hf.fw,mO hf.it (hR _ (.inl (.inl (.inl (by simp[xJ]))))),mO hf.fl (hR _ (.inl (.inl (.inl (by simp[xJ]))))),hf.kp,fun x' h'=>?_,fun l hl=>lR (hf.en l hl) (hT l (.inl (.inl (.inr hl)))),fun y' h'=>?_,hL.brl,hL.cll,hL.enl,hL.ysl⟩
 ·have hp:=hR x'.p (.inl (.inl (.inr ⟨x',h',by simp[mC]⟩)))
  have hq:=hR x'.q (.inl (.inl (.inr ⟨x',h',by simp[mC]⟩)))
  obtain⟨x,hx,rfl⟩:=List.mem_map.1 h'
  have hi:=hf.br x hx
  exact{uP with p:=mO hi.p hp,q:=mO hi.q hq}
 ·have hp:=hR x'.p (.inl (.inr ⟨x',h',by simp[dW]⟩))
  have hs:=hT x'.s (.inl (.inr ⟨x',h',by simp[gT]⟩))
  obtain⟨x,hx,rfl⟩:=List.mem_map.1 h'
  have hi:=hf.cl x hx
  exact{uP with s:=lR hi.s hs,k:=hi.k,p:=mO hi.p hp}
 have h1:=hYR y' h'
 have h2:=hYT y' h'
 have h3:=hL.ys y' h'
 obtain⟨y,hy,rfl⟩:=List.mem_map.1 h'
 exact aCz (hf.ys y hy) h3 h1 h2
theorem aCA {p:Rat}{L:Nat}(h:Sz L p) (hL:L<=1099511627776):(Fr4.of p).len 1099511627776:=⟨Nat.le_trans h.1 hL,Nat.le_trans h.2 hL⟩
theorem LA {n d:Int}(h1:-9223372036854775808<=n) (h2:n<=9223372036854775807) (h3:-9223372036854775808<=d) (h4:d<=9223372036854775807):aE false Tryz.prog 15 [] [.one (tv (.int .i64 n)),.one (tv (.int .i64 d))] (aP (qF (.of (Rat.divInt n d)))):=by
 refine bD Tryz.func15 Tryz.ntmps15 fun N9 w9 c0 h0=>?_
 refine sq (rl (al 0 ?_));refine nl (sq (rl (o1 ?_)));refine o1 ?_
 refine ca (aAv h1 h2 h3 h4) aA (cO rfl rfl) _ ?_;(iterate 3 refine o1 ?_);refine al 1 ?_;refine st ?_
 refine o1 ?_;refine nl (sq (rl (ld ?_)))
 refine ca (OJ (a:=.of (Rat.divInt n d)) (aCA (Xk h1 h2 h3 h4) (by omega))) aA (aM rfl) _ ?_
 refine st ?_;refine nl (rt ?_);exact en (.inl rfl) rfl (bB (.agg (.cons (.id rfl) (.cons (.id rfl) (.cons (.id rfl) (.cons (.id rfl) .nil)))))) (by decide) (fun h=>by cases h) rfl
def nilFil:Fil:=⟨[],[],[],nilF,nilF,0,0,nilF,nilF,0,[],[],[]⟩
theorem aBm:OkF nilFil:=⟨Dw,Dw,fun _ h=>(by cases h),Ae,Ae,by decide,by decide,Ae,Ae,by decide,fun _ h=>(by cases h),fun _ h=>(by cases h),fun _ h=>(by cases h),by decide,by decide,by decide,by decide⟩
theorem LB {p:Rat}{L:Nat}(h:Sz L p) (hL:L<=6):Ok6 (Fr4.of p):=⟨(Qn.of (h.mono (M:=68719476736) (by omega))).1.1 |> fun h9=>⟨h9,(Qn.of (h.mono (M:=68719476736) (by omega))).1.2.1⟩,Nat.le_trans h.1 hL,Nat.le_trans h.2 hL⟩
theorem Dx {l:List Nat}(h:(l.all (fun c=>decide (c<256))&&decide (l.length<=70))=true):OkS l:=by
 simp only[Bool.and_eq_true,decide_eq_true_eq,List.all_eq_true]at h
 exact⟨h.1,h.2⟩
theorem aCB:OkI ({nilIt with s:=[109,101,97,108,115],k:=4,p:=Fr4.of (Rat.divInt 1 2)}:It):={uP with s:=Dx rfl,k:=by decide,p:=LB (Xk (n:=1) (d:=2) (by omega) (by omega) (by omega) (by omega)) (by omega)}
theorem aCC:OkI ({nilIt with s:=[115,97,108,101,115],k:=1}:It):={uP with s:=Dx rfl,k:=by decide}
theorem aCD:OkI ({nilIt with s:=[105],k:=1,t:=[65],u:=[66],v:=[99,111,115,116],p:=Fr4.of (Rat.divInt 12 1)}:It):={uP with s:=Dx rfl,t:=Dx rfl,u:=Dx rfl,v:=Dx rfl,k:=by decide,p:=LB (Xk (n:=12) (d:=1) (by omega) (by omega) (by omega) (by omega)) (by omega)}
theorem aCE:jV ({nilIt with s:=[109,101,97,108,115],k:=4,p:=Fr4.of (Rat.divInt 1 2)}:It)=[99,108,97,115,115,32,109,101,97,108,115,32,100,101,110,105,101,100,32,53,48,37]:=by decide+kernel
theorem aCF:jV ({nilIt with s:=[115,97,108,101,115],k:=1}:It)=[99,108,97,115,115,32,115,97,108,101,115,32,105,110,99,111,109,101]:=by decide+kernel
theorem aCG:mU ({nilIt with s:=[105],k:=1,t:=[65],u:=[66],v:=[99,111,115,116],p:=Fr4.of (Rat.divInt 12 1)}:It)=[116,97,107,101,32,105,32,103,111,111,100,115,32,65,32,66,32,99,111,115,116,32,49,50,46,48,48]:=by decide+kernel
theorem Ma:aE true Tryz.prog 5 [] [] (aP (.one (tv (.bool true)))):=by
 refine bD Tryz.func5 Tryz.ntmps5 fun N9 w9 c0 h0=>?_
 refine sq (rl (o1 ?_));refine nl (sq (rl (o1 ?_)))
 refine ca (Uy aBm) aA ⟨Hk (l':=(cZ false nilFil).map .t) rfl (.cons .t (.cons .t (.cons .nil (.cons .t (.cons .nil (.cons .t (.cons .nil (.cons .t (.cons .nil (.cons .t (.cons .nil (.cons .t (.cons .t (.cons .t (.cons .nil (.cons .t (.cons .nil (.cons .t (.cons .nil (.cons .t (.cons .nil (.cons .t (.cons .nil (.cons .nil (.cons .nil .nil))))))))))))))))))))))))),rfl⟩ _ ?_
 (iterate 5 refine o1 ?_);refine nl (sq (rl (o1 ?_)));refine o1 ?_;refine fU 9 true rfl (by decide+kernel) ?_
 refine o1 ?_;refine ca (LA (n:=1) (d:=2) (by omega) (by omega) (by omega) (by omega)) aA (cO rfl rfl) _ ?_
 refine o1 ?_;refine ca (Kc aCB) aA (aM rfl) _ ?_;refine o1 ?_
 refine fU 14 true rfl ((congrArg (fun l:List Nat=>((aN l).toList==(aN [99,108,97,115,115,32,109,101,97,108,115,32,100,101,110,105,101,100,32,53,48,37]).toList)) aCE).trans (by simp)) ?_
 (iterate 3 refine o1 ?_)
 refine ca (Kc aCC) aA ⟨Hk (l':=(nP ({nilIt with s:=[115,97,108,101,115],k:=1}:It)).map .t) rfl (.cons .t (.cons .t (.cons .t (.cons .nil (.cons .t (.cons .nil .nil)))))),rfl⟩ _ ?_
 refine o1 ?_
 refine fU 19 true rfl ((congrArg (fun l:List Nat=>((aN l).toList==(aN [99,108,97,115,115,32,115,97,108,101,115,32,105,110,99,111,109,101]).toList)) aCF).trans (by simp)) ?_
 refine o1 ?_;refine o1 ?_;refine ca (LA (n:=12) (d:=1) (by omega) (by omega) (by omega) (by omega)) aA (cO rfl rfl) _ ?_
 refine o1 ?_
 refine ca (CJ aCD) aA (aM rfl) _ ?_
 refine o1 ?_
 refine fU 25 true rfl ((congrArg (fun l:List Nat=>((aN l).toList==(aN [116,97,107,101,32,105,32,103,111,111,100,115,32,65,32,66,32,99,111,115,116,32,49,50,46,48,48]).toList)) aCG).trans (by simp)) ?_
 refine o1 ?_;refine o1 ?_;refine nl (rt ?_);exact en (.inl rfl) rfl (bB (bO _)) (by decide) (fun _=>trivial) rfl
theorem Qm {f:Fil}(hf:Ql f):aE true Tryz.prog 3 [] [.agg ((cZ false f).map .t)] (aP (.one (tv (.bool true)))):=by
 refine bD Tryz.func3 Tryz.ntmps3 fun N9 w9 c0 h0=>?_
 refine sq (rl (bx 0 ?_));refine o1 ?_;refine nl (sq (sq (rl (ld ?_))))
 refine ca (aBj (f:=f)) aA (aM rfl) _ ?_;refine WL.splitb (t:=9) rfl (fun h1=>?_) (fun h1=>?_)
 ·refine o1 ?_;refine nl (dY rfl (sk (sq ?_)));have hO:=XK hf h1
  refine rl (ld ?_);refine ca (KX hO) aA (aM rfl) _ ?_;refine al 1 ?_;refine st ?_;refine nl (sq (rl (ld ?_)))
  refine ca (Uy hO) aA (aM rfl) _ ?_;(iterate 5 refine o1 ?_);refine nl (sq ?_)
  refine rl (ld ?_);refine ca (OI hO) aA (aM rfl) _ ?_;(iterate 5 refine o1 ?_)
  refine nl (sq ?_);refine bU [0,1] [17] ?_
  refine dv 0 ?_;refine dv 1 ?_;refine dv 2 ?_;refine qR 26 true rfl (by simp) ?_
  refine dv 3 ?_;refine dv 4 ?_;refine dv 5 ?_;refine dv 6 ?_;refine qR 30 true rfl (by simp) ?_
  refine dv 7 ?_;refine dv 8 ?_;refine aF 9 ?_;refine aF 11 ?_;refine aG 10 rfl (KX hO) aA (aM rfl) _ ?_
  refine aG 12 rfl (XJ hO) aA (bN rfl rfl) _ ?_;refine df 13 ?_;refine df 14 ?_;refine aG 15 rfl (Ma) aA rfl _ ?_
  refine df 16 ?_;refine bM 17 ?_
  refine aJ ?_;refine rt ?_;exact en (.inl rfl) rfl (bB (bO _)) (by decide) (fun _=>trivial) rfl
 refine o1 ?_;refine nl (eU rfl (sq (rl (ca (Ma) aA rfl _ ?_))));refine o1 ?_;refine nl (rt ?_)
 exact en (.inl rfl) rfl (bB (bO _)) (by decide) (fun _=>trivial) rfl
end Go.Proofs.YtimiaildfkimfaaGreatDoor
