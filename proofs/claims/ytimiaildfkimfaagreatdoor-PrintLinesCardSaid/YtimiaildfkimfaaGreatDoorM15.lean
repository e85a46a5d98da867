/- Part 15 of a proof: M7 to M9. -/
import Derived.Test.YtimiaildfkimfaaGreatDoorM14
import Derived.Test.YtimiaildfkimfaaGreatDoorM5
import Derived.Test.YtimiaildfkimfaaGreatDoorM7
import Derived.ProofKit
import Derived.ChangeOld
import Derived.Deep.Slices
import Derived.Deep.Strs
import Derived.Test.YtimiaildfkimfaaGreatDoorM9
import Derived.WalkKit
import Derived.OpenShut
import Derived.Below
import Derived.Carry
set_option maxRecDepth 100000
set_option linter.unusedVariables false
set_option linter.unusedSimpArgs false
namespace Go.Proofs.YtimiaildfkimfaaGreatDoor
open Go Go.RowKit
theorem qI (l:List Tr) (n:Nat) (h:l.length=n):(l.map AV.t).take n=l.map .t:=cT (by simp[h])
theorem kT {a:Fr4}(h:Ok6 a):a.len 1099511627776:=⟨by have:=h.2.1;omega,by have:=h.2.2;omega⟩
def Qh:Tr->Tr
 | .s _ t z n l=>.s true t z n l
 | x=>x
theorem qJ {α:Type}{tr:α->List Tr}{xs:List α}{k:Nat}{d:α}(h:k<xs.length):((xs.take k).flatMap tr).map AV.t++(tr (xs.getD k d)).map .t=((xs.take (k+1)).flatMap tr).map .t:=by
 rw[show xs.take (k+1)=xs.take k++[xs.getD k d] from by rw[List.take_add_one];simp[h],List.flatMap_append,List.map_append]
 simp
theorem tQ {α:Type}{tr:α->List Tr}{z:Nat}(hz:∀x,(tr x).length=z){xs:List α}{k:Nat}(h:k<=xs.length):(((xs.take k).flatMap tr).map AV.t).length=k*z:=by
 rw[dP,nV hz,dU,Nat.min_eq_left h]
theorem mE {α:Type}{tr:α->List Tr}{z:Nat}(hz:∀x,(tr x).length=z){xs:List α}{k:Nat}(h:k<=xs.length):((xs.take k).flatMap tr).length=k*z:=by
 rw[nV hz,dU,Nat.min_eq_left h]
def aCx (y:Yer):List Tr:=(cV true y).map Qh
def aCy (f:Fil):List Tr:=sT f.nm::sT f.pa::Qh (fN 72 8 tI f.br)::(f.th.tr false++(f.cp.tr false++(.v (.int .i64 f.bk)::.v (.int .i64 f.fw)::(f.it.tr false++(f.fl.tr false++[.v (.int .i64 f.kp),Qh (fN 74 6 nP f.cl),Qh (yB 9 f.en),Qh (xF true f.ys)])))))
theorem CO {y:Yer}(hy:OkY y):aE false Tryz.prog 18 [] [.agg ((cV false y).map .t)] (aP (.agg ((aCx y).map .t))):=by
 refine bD Tryz.func18 Tryz.ntmps18 fun N9 w9 c0 h0=>?_
 have hhl:=hy.hl
 have hbl:=hy.bl
 have hdl:=hy.dl
 have hsl:=hy.sl
 have hol:=hy.ol
 refine sq (rl (bx 0 ?_));refine al 1 ?_;refine nl (sq (rl (o1 ?_)));refine ld ?_;refine o1 ?_;refine al 2 ?_;refine st ?_;refine nl ?_
 refine sq (sq (WP.sub (Bp (j:=2) (key:=3) (e:=127) (z:=6) rfl rfl rfl (.id (.sl (.id (.id (.id (.id .nil))))))) ?_))
 refine WP.sub (Bp (j:=2) (key:=4) (e:=129) (z:=6) rfl rfl rfl (.id (.id (.sl (.id (.id (.id .nil))))))) ?_
 refine WP.sub (Bp (j:=2) (key:=5) (e:=131) (z:=10) rfl rfl rfl (.id (.id (.id (.sl (.id (.id .nil))))))) ?_
 refine WP.sub (Bp (j:=2) (key:=6) (e:=133) (z:=9) rfl rfl rfl (.id (.id (.id (.id (.sl (.id .nil))))))) ?_
 refine WP.sub (Bp (j:=2) (key:=7) (e:=135) (z:=5) rfl rfl rfl (.id (.id (.id (.id (.id (.sl .nil))))))) ?_;refine rl (o1 ?_);refine nl (bl ?_)
 refine lp (γ:=Nat) (fun k=>bP [(1,pN 0),(2,pN 1),(3,pN 2),(4,iN k)]) (fun k=>[(⟨55,0,(cV false y).map .t⟩:Ob),⟨81,0,[tv (.int .i64 ((0:Nat):Int)),tv (.slice none 0 0),tv (.slice none 0 0),tv (.slice none 0 0),tv (.slice none 0 0),tv (.slice none 0 0)]⟩,⟨81,0,[tv (.int .i64 y.n),.sl 3 0 (k),.sl 4 0 (0),.sl 5 0 (0),.sl 6 0 (0),.sl 7 0 (0)]⟩,⟨127,6,((y.h.take k).flatMap fG).map .t⟩,⟨129,6,((y.b.take 0).flatMap fG).map .t⟩,⟨131,10,((y.d.take 0).flatMap kP).map .t⟩,⟨133,9,((y.s.take 0).flatMap oV).map .t⟩,⟨135,5,((y.o.take 0).flatMap pF).map .t⟩].map some) (fun k=>k<=y.h.length/\True) (fun k=>y.h.length-k) 0 ⟨Nat.zero_le _,trivial⟩ (aH h0 [0,1,2,3,4,5,6,7] ⟨aD rfl,oe rfl rfl,oe rfl rfl,aD rfl,aD rfl,aD rfl,aD rfl,aD rfl,rfl⟩) fun k hk=>?_
 refine sq (sq (rl (o1 ?_)));refine o1 ?_;refine ld ?_;refine o1 ?_;refine o1 ?_;refine nl ?_;refine aV rfl (fun h1=>?_) (fun h1=>?_)
 ·refine sk (sq (bl (sq (rl (o1 ?_)))));refine ld ?_;refine o1 ?_;refine o1 ?_
  refine cX (fG (aB y.h (k))) (cM 6 0 dF (aI (by omega)) rfl) ?_
  refine al 8 ?_;refine st ?_;refine nl ?_;refine bU [0,1,2,8] [13] ?_
  refine dv 0 ?_;refine aF 1 ?_;refine dv 2 ?_;refine aF 3 ?_;refine dv 4 ?_;refine aF 5 ?_;refine dv 6 ?_;refine aF 7 ?_
  refine aG 8 rfl (eL (a:=(aB y.h (k)).p) (kT ((hy.h (aB y.h (k)) (aS (l:=y.h) (by omega))).p))) aA (aM rfl) _ ?_
  refine df 9 ?_;refine dA (key:=9) 10 (by kernel_rfl) rfl rfl aR rfl ⟨rfl,rfl,rfl,rfl,trivial⟩ ?_
  refine iB (j:=10) (n:=k) (l:=((y.h.take k).flatMap fG).map .t) 11 rfl aR rfl rfl rfl (.sl rfl (tQ dF (by omega))) (.sl rfl rfl rfl) rfl rfl (by omega) (by omega) rfl ⟨rfl,rfl,rfl,rfl,trivial⟩ rfl (by kernel_rfl) rfl ?_
  refine dv 12 ?_;refine dst 13 ?_;refine aJ ?_;refine rl (o1 ?_);refine o1 ?_;refine aY 22 (k+1) ?_
  refine o1 ?_;refine nl ?_
  exact⟨k+1,by omega,⟨by omega,trivial⟩,aH h0 [0,1,2,10,4,5,6,7] ⟨aD rfl,oe rfl rfl,oe rfl rfl,aD (congrArg (fun l:List AV=>some (⟨127,6,l⟩:Ob)) (qJ (tr:=fG) (xs:=y.h) (d:=nilIt) (by omega))),aD rfl,aD rfl,aD rfl,aD rfl,rfl⟩⟩
 refine ex (sq (sq (rl (o1 ?_))));refine nl (bl ?_)
 refine lp (γ:=Nat) (fun i=>bP [(1,pN 0),(2,pN 1),(3,pN 2),(6,iN i)]) (fun i=>[(⟨55,0,(cV false y).map .t⟩:Ob),⟨81,0,[tv (.int .i64 ((0:Nat):Int)),tv (.slice none 0 0),tv (.slice none 0 0),tv (.slice none 0 0),tv (.slice none 0 0),tv (.slice none 0 0)]⟩,⟨81,0,[tv (.int .i64 y.n),.sl 3 0 (k),.sl 4 0 (i),.sl 5 0 (0),.sl 6 0 (0),.sl 7 0 (0)]⟩,⟨127,6,((y.h.take k).flatMap fG).map .t⟩,⟨129,6,((y.b.take i).flatMap fG).map .t⟩,⟨131,10,((y.d.take 0).flatMap kP).map .t⟩,⟨133,9,((y.s.take 0).flatMap oV).map .t⟩,⟨135,5,((y.o.take 0).flatMap pF).map .t⟩].map some) (fun i=>i<=y.b.length/\True) (fun i=>y.b.length-i) 0 ⟨Nat.zero_le _,trivial⟩ (aH h0 [0,1,2,3,4,5,6,7] ⟨aD rfl,oe rfl rfl,oe rfl rfl,aD rfl,aD rfl,aD rfl,aD rfl,aD rfl,rfl⟩) fun i hi=>?_
 refine sq (sq (rl (o1 ?_)));refine o1 ?_;refine ld ?_;refine o1 ?_;refine o1 ?_;refine nl ?_;refine aV rfl (fun h2=>?_) (fun h2=>?_)
 ·refine sk (sq (bl (sq (rl (o1 ?_)))));refine ld ?_;refine o1 ?_;refine o1 ?_
  refine cX (fG (aB y.b (i))) (cM 6 0 dF (aI (by omega)) rfl) ?_
  refine al 8 ?_;refine st ?_;refine nl ?_;refine bU [0,1,2,8] [13] ?_
  refine dv 0 ?_;refine aF 1 ?_;refine dv 2 ?_;refine aF 3 ?_;refine dv 4 ?_;refine aF 5 ?_;refine dv 6 ?_;refine aF 7 ?_
  refine aG 8 rfl (eL (a:=(aB y.b (i)).p) (kT ((hy.b (aB y.b (i)) (aS (l:=y.b) (by omega))).p))) aA (aM rfl) _ ?_
  refine df 9 ?_;refine dA (key:=9) 10 (by kernel_rfl) rfl rfl aR rfl ⟨rfl,rfl,rfl,rfl,trivial⟩ ?_
  refine iB (j:=10) (n:=i) (l:=((y.b.take i).flatMap fG).map .t) 11 rfl aR rfl rfl rfl (.sl rfl (tQ dF (by omega))) (.sl rfl rfl rfl) rfl rfl (by omega) (by omega) rfl ⟨rfl,rfl,rfl,rfl,trivial⟩ rfl (by kernel_rfl) rfl ?_
  refine dv 12 ?_;refine dst 13 ?_;refine aJ ?_;refine rl (o1 ?_);refine o1 ?_;refine aY 47 (i+1) ?_
  refine o1 ?_;refine nl ?_
  exact⟨i+1,by omega,⟨by omega,trivial⟩,aH h0 [0,1,2,3,10,5,6,7] ⟨aD rfl,oe rfl rfl,oe rfl rfl,aD rfl,aD (congrArg (fun l:List AV=>some (⟨129,6,l⟩:Ob)) (qJ (tr:=fG) (xs:=y.b) (d:=nilIt) (by omega))),aD rfl,aD rfl,aD rfl,rfl⟩⟩
 refine ex (sq (sq (rl (o1 ?_))));refine nl (bl ?_)
 refine lp (γ:=Nat) (fun j=>bP [(1,pN 0),(2,pN 1),(3,pN 2),(8,iN j)]) (fun j=>[(⟨55,0,(cV false y).map .t⟩:Ob),⟨81,0,[tv (.int .i64 ((0:Nat):Int)),tv (.slice none 0 0),tv (.slice none 0 0),tv (.slice none 0 0),tv (.slice none 0 0),tv (.slice none 0 0)]⟩,⟨81,0,[tv (.int .i64 y.n),.sl 3 0 (k),.sl 4 0 (i),.sl 5 0 (j),.sl 6 0 (0),.sl 7 0 (0)]⟩,⟨127,6,((y.h.take k).flatMap fG).map .t⟩,⟨129,6,((y.b.take i).flatMap fG).map .t⟩,⟨131,10,((y.d.take j).flatMap kP).map .t⟩,⟨133,9,((y.s.take 0).flatMap oV).map .t⟩,⟨135,5,((y.o.take 0).flatMap pF).map .t⟩].map some) (fun j=>j<=y.d.length/\True) (fun j=>y.d.length-j) 0 ⟨Nat.zero_le _,trivial⟩ (aH h0 [0,1,2,3,4,5,6,7] ⟨aD rfl,oe rfl rfl,oe rfl rfl,aD rfl,aD rfl,aD rfl,aD rfl,aD rfl,rfl⟩) fun j hj=>?_
 refine sq (sq (rl (o1 ?_)));refine o1 ?_;refine ld ?_;refine o1 ?_;refine o1 ?_;refine nl ?_;refine aV rfl (fun h3=>?_) (fun h3=>?_)
 ·refine sk (sq (bl (sq (rl (o1 ?_)))));refine ld ?_;refine o1 ?_;refine o1 ?_
  refine cX (kP (aB y.d (j))) (cM 10 0 lH (aI (by omega)) rfl) ?_
  refine al 8 ?_;refine st ?_;refine nl ?_;refine bU [0,1,2,8] [21] ?_
  refine dv 0 ?_;refine aF 1 ?_;refine dv 2 ?_;refine aF 3 ?_;refine dv 4 ?_;refine aF 5 ?_;refine dv 6 ?_;refine aF 7 ?_;refine dv 8 ?_;refine aF 9 ?_;refine dv 10 ?_
  refine aF 11 ?_;refine dv 12 ?_;refine aF 13 ?_;refine dv 14 ?_;refine aF 15 ?_
  refine aG 16 rfl (eL (a:=(aB y.d (j)).p) (kT ((hy.d (aB y.d (j)) (aS (l:=y.d) (by omega))).p))) aA (aM rfl) _ ?_
  refine df 17 ?_;refine dA (key:=9) 18 (by kernel_rfl) rfl rfl aR rfl ⟨rfl,rfl,rfl,rfl,trivial⟩ ?_
  refine iB (j:=10) (n:=j) (l:=((y.d.take j).flatMap kP).map .t) 19 rfl aR rfl rfl rfl (.sl rfl (tQ lH (by omega))) (.sl rfl rfl rfl) rfl rfl (by omega) (by omega) rfl ⟨rfl,rfl,rfl,rfl,trivial⟩ rfl (by kernel_rfl) rfl ?_
  refine dv 20 ?_;refine dst 21 ?_;refine aJ ?_;refine rl (o1 ?_);refine o1 ?_;refine aY 72 (j+1) ?_
  refine o1 ?_;refine nl ?_
  exact⟨j+1,by omega,⟨by omega,trivial⟩,aH h0 [0,1,2,3,4,10,6,7] ⟨aD rfl,oe rfl rfl,oe rfl rfl,aD rfl,aD rfl,aD (congrArg (fun l:List AV=>some (⟨131,10,l⟩:Ob)) (qJ (tr:=kP) (xs:=y.d) (d:=nilIt) (by omega))),aD rfl,aD rfl,rfl⟩⟩
 refine ex (sq (sq (rl (o1 ?_))));refine nl (bl ?_)
 refine lp (γ:=Nat) (fun m=>bP [(1,pN 0),(2,pN 1),(3,pN 2),(10,iN m)]) (fun m=>[(⟨55,0,(cV false y).map .t⟩:Ob),⟨81,0,[tv (.int .i64 ((0:Nat):Int)),tv (.slice none 0 0),tv (.slice none 0 0),tv (.slice none 0 0),tv (.slice none 0 0),tv (.slice none 0 0)]⟩,⟨81,0,[tv (.int .i64 y.n),.sl 3 0 (k),.sl 4 0 (i),.sl 5 0 (j),.sl 6 0 (m),.sl 7 0 (0)]⟩,⟨127,6,((y.h.take k).flatMap fG).map .t⟩,⟨129,6,((y.b.take i).flatMap fG).map .t⟩,⟨131,10,((y.d.take j).flatMap kP).map .t⟩,⟨133,9,((y.s.take m).flatMap oV).map .t⟩,⟨135,5,((y.o.take 0).flatMap pF).map .t⟩].map some) (fun m=>m<=y.s.length/\True) (fun m=>y.s.length-m) 0 ⟨Nat.zero_le _,trivial⟩ (aH h0 [0,1,2,3,4,5,6,7] ⟨aD rfl,oe rfl rfl,oe rfl rfl,aD rfl,aD rfl,aD rfl,aD rfl,aD rfl,rfl⟩) fun m hm=>?_
 refine sq (sq (rl (o1 ?_)));refine o1 ?_;refine ld ?_;refine o1 ?_;refine o1 ?_;refine nl ?_;refine aV rfl (fun h4=>?_) (fun h4=>?_)
 ·refine sk (sq (bl (sq (rl (o1 ?_)))));refine ld ?_;refine o1 ?_;refine o1 ?_
  refine cX (oV (aB y.s (m))) (cM 9 0 fI (aI (by omega)) rfl) ?_
  refine al 8 ?_;refine st ?_;refine nl ?_;refine bU [0,1,2,8] [14] ?_
  refine dv 0 ?_;refine aF 1 ?_;refine dv 2 ?_;refine aF 3 ?_;refine dv 4 ?_;refine aF 5 ?_;refine dv 7 ?_;refine aF 8 ?_
  refine aG 6 rfl (eL (a:=(aB y.s (m)).p) (kT ((hy.s (aB y.s (m)) (aS (l:=y.s) (by omega))).p))) aA (aM rfl) _ ?_
  refine aG 9 rfl (eL (a:=(aB y.s (m)).q) (kT ((hy.s (aB y.s (m)) (aS (l:=y.s) (by omega))).q))) aA (aM rfl) _ ?_
  refine df 10 ?_;refine dA (key:=9) 11 (by kernel_rfl) rfl rfl aR rfl ⟨rfl,rfl,rfl,rfl,trivial⟩ ?_
  refine iB (j:=10) (n:=m) (l:=((y.s.take m).flatMap oV).map .t) 12 rfl aR rfl rfl rfl (.sl rfl (tQ fI (by omega))) (.sl rfl rfl rfl) rfl rfl (by omega) (by omega) rfl ⟨rfl,rfl,rfl,rfl,trivial⟩ rfl (by kernel_rfl) rfl ?_
  refine dv 13 ?_;refine dst 14 ?_;refine aJ ?_;refine rl (o1 ?_);refine o1 ?_;refine aY 105 (m+1) ?_
  refine o1 ?_;refine nl ?_
  exact⟨m+1,by omega,⟨by omega,trivial⟩,aH h0 [0,1,2,3,4,5,10,7] ⟨aD rfl,oe rfl rfl,oe rfl rfl,aD rfl,aD rfl,aD rfl,aD (congrArg (fun l:List AV=>some (⟨133,9,l⟩:Ob)) (qJ (tr:=oV) (xs:=y.s) (d:=nilIt) (by omega))),aD rfl,rfl⟩⟩
 refine ex (sq (sq (rl (o1 ?_))));refine nl (bl ?_)
 refine lp (γ:=Nat) (fun n=>bP [(1,pN 0),(2,pN 1),(3,pN 2),(12,iN n)]) (fun n=>[(⟨55,0,(cV false y).map .t⟩:Ob),⟨81,0,[tv (.int .i64 ((0:Nat):Int)),tv (.slice none 0 0),tv (.slice none 0 0),tv (.slice none 0 0),tv (.slice none 0 0),tv (.slice none 0 0)]⟩,⟨81,0,[tv (.int .i64 y.n),.sl 3 0 (k),.sl 4 0 (i),.sl 5 0 (j),.sl 6 0 (m),.sl 7 0 (n)]⟩,⟨127,6,((y.h.take k).flatMap fG).map .t⟩,⟨129,6,((y.b.take i).flatMap fG).map .t⟩,⟨131,10,((y.d.take j).flatMap kP).map .t⟩,⟨133,9,((y.s.take m).flatMap oV).map .t⟩,⟨135,5,((y.o.take n).flatMap pF).map .t⟩].map some) (fun n=>n<=y.o.length/\True) (fun n=>y.o.length-n) 0 ⟨Nat.zero_le _,trivial⟩ (aH h0 [0,1,2,3,4,5,6,7] ⟨aD rfl,oe rfl rfl,oe rfl rfl,aD rfl,aD rfl,aD rfl,aD rfl,aD rfl,rfl⟩) fun n hn=>?_
 refine sq (sq (rl (o1 ?_)));refine o1 ?_;refine ld ?_;refine o1 ?_;refine o1 ?_;refine nl ?_;refine aV rfl (fun h5=>?_) (fun h5=>?_)
 ·refine sk (sq (bl ?_));refine bU [0,1,2] [19] ?_
  refine dv 0 ?_;refine aF 1 ?_;refine dv 2 ?_;refine aF 3 ?_;refine dv 4 ?_;refine dv 5 ?_;refine dv 6 ?_
  refine dQ 7 ([sT (aB y.o (n)).s]) (cM 5 0 gR (aI (by omega)) rfl) ?_
  refine dv 8 ?_;refine aF 9 ?_;refine dv 10 ?_;refine dv 11 ?_;refine dv 12 ?_
  refine dQ 13 ((aB y.o (n)).p.tr false) (cM 5 1 gR (aI (by omega)) rfl) ?_
  refine aG 14 rfl (eL (a:=(aB y.o (n)).p) (kT ((hy.o (aB y.o (n)) (aS (l:=y.o) (by omega))).p))) aA (aM rfl) _ ?_
  refine df 15 ?_;refine dA (key:=8) 16 (by kernel_rfl) rfl rfl aR rfl ⟨rfl,rfl,rfl,trivial⟩ ?_
  refine iB (j:=9) (n:=n) (l:=((y.o.take n).flatMap pF).map .t) 17 rfl aR rfl rfl rfl (.sl rfl (tQ gR (by omega))) (.sl rfl rfl rfl) rfl rfl (by omega) (by omega) rfl ⟨rfl,rfl,rfl,trivial⟩ rfl (by kernel_rfl) rfl ?_
  refine dv 18 ?_;refine dst 19 ?_;refine aJ ?_;refine rl (o1 ?_);refine o1 ?_;refine aY 131 (n+1) ?_
  refine o1 ?_;refine nl ?_
  exact⟨n+1,by omega,⟨by omega,trivial⟩,aH h0 [0,1,2,3,4,5,6,9] ⟨aD rfl,oe rfl rfl,oe rfl rfl,aD rfl,aD rfl,aD rfl,aD rfl,aD (congrArg (fun l:List AV=>some (⟨135,5,l⟩:Ob)) (qJ (tr:=pF) (xs:=y.o) (d:=nilIt) (by omega))),rfl⟩⟩
 refine ex (sq (rl (ld ?_)));refine st ?_;refine nl (rt ?_);have hh9:k=y.h.length:=by omega
 have hb9:i=y.b.length:=by omega
 have hd9:j=y.d.length:=by omega
 have hs9:m=y.s.length:=by omega
 have ho9:n=y.o.length:=by omega
 exact en (.inl rfl) rfl (bB (.agg (.cons (.id rfl) (.cons (.sl (trs:=(y.h.take k).flatMap fG) rfl rfl (qI _ _ (mE dF (by omega))) (mE dF (by omega))) (.cons (.sl (trs:=(y.b.take i).flatMap fG) rfl rfl (qI _ _ (mE dF (by omega))) (mE dF (by omega))) (.cons (.sl (trs:=(y.d.take j).flatMap kP) rfl rfl (qI _ _ (mE lH (by omega))) (mE lH (by omega))) (.cons (.sl (trs:=(y.s.take m).flatMap oV) rfl rfl (qI _ _ (mE fI (by omega))) (mE fI (by omega))) (.cons (.sl (trs:=(y.o.take n).flatMap pF) rfl rfl (qI _ _ (mE gR (by omega))) (mE gR (by omega))) .nil)))))))) (by decide) (fun h=>by cases h) (by rw[hh9,hb9,hd9,hs9,ho9,cT (aX _),cT (aX _),cT (aX _),cT (aX _),cT (aX _)];rfl)
theorem KX {f:Fil}(hf:OkF f):aE false Tryz.prog 6 [] [.agg ((cZ false f).map .t)] (aP (.agg ((aCy f).map .t))):=by
 refine bD Tryz.func6 Tryz.ntmps6 fun N9 w9 c0 h0=>?_
 have hbr:=hf.brl
 have hcl:=hf.cll
 have hen:=hf.enl
 have hys:=hf.ysl
 refine sq (rl (bx 0 ?_));refine al 1 ?_;refine nl ?_
 refine md (γ:=Unit) (fun _=>bP [(1,pN 0),(2,pN 1),(3,pN 2)]) (fun _=>([⟨32,0,(cZ false f).map .t⟩,⟨42,0,[tv (.string ⟨#[]⟩),tv (.string ⟨#[]⟩),tv (.slice none 0 0),tv (.bool false),tv (.slice none 0 0),tv (.bool false),tv (.slice none 0 0),tv (.bool false),tv (.slice none 0 0),tv (.bool false),tv (.slice none 0 0),tv (.int .i64 ((0:Nat):Int)),tv (.int .i64 ((0:Nat):Int)),tv (.bool false),tv (.slice none 0 0),tv (.bool false),tv (.slice none 0 0),tv (.bool false),tv (.slice none 0 0),tv (.bool false),tv (.slice none 0 0),tv (.int .i64 ((0:Nat):Int)),tv (.slice none 0 0),tv (.slice none 0 0),tv (.slice none 0 0)]⟩,⟨42,0,[tv (.string (aN f.nm)),tv (.string (aN f.pa)),tv (.slice none 0 0),tv (.bool f.th.s),.t (sU false f.th.x),tv (.bool f.th.t),.t (sU false f.th.y),tv (.bool f.cp.s),.t (sU false f.cp.x),tv (.bool f.cp.t),.t (sU false f.cp.y),tv (.int .i64 f.bk),tv (.int .i64 f.fw),tv (.bool f.it.s),.t (sU false f.it.x),tv (.bool f.it.t),.t (sU false f.it.y),tv (.bool f.fl.s),.t (sU false f.fl.x),tv (.bool f.fl.t),.t (sU false f.fl.y),tv (.int .i64 f.kp),tv (.slice none 0 0),tv (.slice none 0 0),tv (.slice none 0 0)]⟩]:List Ob).map some) (fun _=>True) ?_ fun _ _=>?_
 ·refine bU [0,1] [24] ?_
  refine dv 0 ?_;refine aF 1 ?_;refine dv 2 ?_;refine aF 3 ?_;refine dv 4 ?_;refine aF 5 ?_;refine dv 7 ?_;refine aF 8 ?_;refine dv 10 ?_;refine aF 11 ?_;refine dv 12 ?_
  refine aF 13 ?_;refine dv 14 ?_;refine aF 15 ?_;refine dv 17 ?_;refine aF 18 ?_;refine dv 20 ?_;refine aF 21 ?_;refine dD 6 23 ?_ ?_
  ·refine dE 6 rfl (eL (a:=f.th) (kT (hf.th))) aA (aM rfl) _ ?_;refine dD 9 23 ?_ ?_
   ·refine dE 9 rfl (eL (a:=f.cp) (kT (hf.cp))) aA (aM rfl) _ ?_;refine dD 16 23 ?_ ?_
    ·refine dE 16 rfl (eL (a:=f.it) (kT (hf.it))) aA (aM rfl) _ ?_;refine dD 19 23 ?_ ?_
     ·refine dE 19 rfl (eL (a:=f.fl) (kT (hf.fl))) aA (aM rfl) _ ?_;refine df 22 ?_;refine eE 2 23 ?_
      refine dst 24 ?_;refine aJ ?_;exact⟨(),trivial,aH h0 [0,1,2] ⟨aD rfl,oe rfl rfl,oe rfl rfl,rfl⟩⟩
     refine bQ 2 23 ?_;refine aG 19 rfl (eL (a:=f.fl) (kT (hf.fl))) aA (aM rfl) _ ?_;refine df 22 ?_
     refine dst 24 ?_;refine aJ ?_;exact⟨(),trivial,aH h0 [0,1,2] ⟨aD rfl,oe rfl rfl,oe rfl rfl,rfl⟩⟩
    refine bQ 2 23 ?_;refine aG 16 rfl (eL (a:=f.it) (kT (hf.it))) aA (aM rfl) _ ?_
    refine aG 19 rfl (eL (a:=f.fl) (kT (hf.fl))) aA (aM rfl) _ ?_;refine df 22 ?_;refine dst 24 ?_;refine aJ ?_
    exact⟨(),trivial,aH h0 [0,1,2] ⟨aD rfl,oe rfl rfl,oe rfl rfl,rfl⟩⟩
   refine bQ 2 23 ?_;refine aG 9 rfl (eL (a:=f.cp) (kT (hf.cp))) aA (aM rfl) _ ?_
   refine aG 16 rfl (eL (a:=f.it) (kT (hf.it))) aA (aM rfl) _ ?_;refine aG 19 rfl (eL (a:=f.fl) (kT (hf.fl))) aA (aM rfl) _ ?_
   refine df 22 ?_;refine dst 24 ?_;refine aJ ?_;exact⟨(),trivial,aH h0 [0,1,2] ⟨aD rfl,oe rfl rfl,oe rfl rfl,rfl⟩⟩
  refine bQ 2 23 ?_;refine aG 6 rfl (eL (a:=f.th) (kT (hf.th))) aA (aM rfl) _ ?_
  refine aG 9 rfl (eL (a:=f.cp) (kT (hf.cp))) aA (aM rfl) _ ?_;refine aG 16 rfl (eL (a:=f.it) (kT (hf.it))) aA (aM rfl) _ ?_
  refine aG 19 rfl (eL (a:=f.fl) (kT (hf.fl))) aA (aM rfl) _ ?_;refine df 22 ?_;refine dst 24 ?_;refine aJ ?_
  exact⟨(),trivial,aH h0 [0,1,2] ⟨aD rfl,oe rfl rfl,oe rfl rfl,rfl⟩⟩
 refine sq (rl (o1 ?_));refine ld ?_;refine o1 ?_;refine ld ?_;refine fF (j:=3) aR rfl rfl rfl rfl .nil .fz (Ik _) (zZ _) rfl (by omega) (by omega) ?_
 refine o1 ?_;refine st ?_;refine nl (sq (sq ?_))
 refine WP.sub (Bp (j:=2) (key:=4) (e:=72) (z:=8) rfl rfl rfl (.id (.id (.sl (.id (.id (.id (.id (.id (.id (.id (.id (.id (.id (.id (.id (.id (.id (.id (.id (.id (.id (.id (.id (.id (.id .nil)))))))))))))))))))))))))) ?_
 refine WP.sub (Bp (j:=2) (key:=5) (e:=74) (z:=6) rfl rfl rfl (.id (.id (.id (.id (.id (.id (.id (.id (.id (.id (.id (.id (.id (.id (.id (.id (.id (.id (.id (.id (.id (.id (.sl (.id (.id .nil)))))))))))))))))))))))))) ?_
 refine WP.sub (Bp (j:=2) (key:=6) (e:=81) (z:=6) rfl rfl rfl (.id (.id (.id (.id (.id (.id (.id (.id (.id (.id (.id (.id (.id (.id (.id (.id (.id (.id (.id (.id (.id (.id (.id (.id (.sl .nil)))))))))))))))))))))))))) ?_
 refine rl (o1 ?_);refine nl (bl ?_)
 refine lp (γ:=Nat) (fun k=>bP [(1,pN 0),(2,pN 1),(3,pN 2),(4,iN k)]) (fun k=>[(⟨32,0,(cZ false f).map .t⟩:Ob),⟨42,0,[tv (.string ⟨#[]⟩),tv (.string ⟨#[]⟩),tv (.slice none 0 0),tv (.bool false),tv (.slice none 0 0),tv (.bool false),tv (.slice none 0 0),tv (.bool false),tv (.slice none 0 0),tv (.bool false),tv (.slice none 0 0),tv (.int .i64 ((0:Nat):Int)),tv (.int .i64 ((0:Nat):Int)),tv (.bool false),tv (.slice none 0 0),tv (.bool false),tv (.slice none 0 0),tv (.bool false),tv (.slice none 0 0),tv (.bool false),tv (.slice none 0 0),tv (.int .i64 ((0:Nat):Int)),tv (.slice none 0 0),tv (.slice none 0 0),tv (.slice none 0 0)]⟩,⟨42,0,[tv (.string (aN f.nm)),tv (.string (aN f.pa)),.sl 3 0 (k),tv (.bool f.th.s),.t (sU false f.th.x),tv (.bool f.th.t),.t (sU false f.th.y),tv (.bool f.cp.s),.t (sU false f.cp.x),tv (.bool f.cp.t),.t (sU false f.cp.y),tv (.int .i64 f.bk),tv (.int .i64 f.fw),tv (.bool f.it.s),.t (sU false f.it.x),tv (.bool f.it.t),.t (sU false f.it.y),tv (.bool f.fl.s),.t (sU false f.fl.x),tv (.bool f.fl.t),.t (sU false f.fl.y),tv (.int .i64 f.kp),.sl 4 0 (0),.sl 5 0 (0+f.en.length),.sl 6 0 (0)]⟩,⟨72,8,((f.br.take k).flatMap tI).map .t⟩,⟨74,6,((f.cl.take 0).flatMap nP).map .t⟩,⟨9,1,(f.en.map sT).map .t⟩,⟨81,6,((f.ys.take 0).flatMap (cV true)).map .t⟩].map some) (fun k=>k<=f.br.length/\True) (fun k=>f.br.length-k) 0 ⟨Nat.zero_le _,trivial⟩ (aH h0 [0,1,2,4,5,3,6] ⟨aD rfl,oe rfl rfl,oe rfl rfl,aD rfl,aD rfl,aD rfl,aD rfl,rfl⟩) fun k hk=>?_
 refine sq (sq (rl (o1 ?_)));refine o1 ?_;refine ld ?_;refine o1 ?_;refine o1 ?_;refine nl ?_;refine aV rfl (fun h1=>?_) (fun h1=>?_)
 ·refine sk (sq (bl ?_));refine bU [0,1,2] [20] ?_
  refine dv 0 ?_;refine aF 1 ?_;refine dv 2 ?_;refine aF 3 ?_;refine dv 4 ?_;refine dv 5 ?_;refine dv 6 ?_
  refine dQ 7 ((aB f.br (k)).p.tr false) (cM 8 0 gQ (aI (by omega)) rfl) ?_
  refine dv 9 ?_;refine aF 10 ?_;refine dv 11 ?_;refine dv 12 ?_;refine dv 13 ?_
  refine dQ 14 ((aB f.br (k)).q.tr false) (cM 8 4 gQ (aI (by omega)) rfl) ?_
  refine aG 8 rfl (eL (a:=(aB f.br (k)).p) (kT ((hf.br (aB f.br (k)) (aS (l:=f.br) (by omega))).p))) aA (aM rfl) _ ?_
  refine aG 15 rfl (eL (a:=(aB f.br (k)).q) (kT ((hf.br (aB f.br (k)) (aS (l:=f.br) (by omega))).q))) aA (aM rfl) _ ?_
  refine df 16 ?_;refine dA (key:=7) 17 (by kernel_rfl) rfl rfl aR rfl ⟨rfl,rfl,rfl,trivial⟩ ?_
  refine iB (j:=8) (n:=k) (l:=((f.br.take k).flatMap tI).map .t) 18 rfl aR rfl rfl rfl (.sl rfl (tQ gQ (by omega))) (.sl rfl rfl rfl) rfl rfl (by omega) (by omega) rfl ⟨rfl,rfl,rfl,trivial⟩ rfl (by kernel_rfl) rfl ?_
  refine dv 19 ?_;refine dst 20 ?_;refine aJ ?_;refine rl (o1 ?_);refine o1 ?_;refine aY 43 (k+1) ?_
  refine o1 ?_;refine nl ?_
  exact⟨k+1,by omega,⟨by omega,trivial⟩,aH h0 [0,1,2,8,4,5,6] ⟨aD rfl,oe rfl rfl,oe rfl rfl,aD (congrArg (fun l:List AV=>some (⟨72,8,l⟩:Ob)) (qJ (tr:=tI) (xs:=f.br) (d:=nilIt) (by omega))),aD rfl,aD rfl,aD rfl,rfl⟩⟩
 refine ex (sq (sq (rl (o1 ?_))));refine nl (bl ?_)
 refine lp (γ:=Nat) (fun i=>bP [(1,pN 0),(2,pN 1),(3,pN 2),(5,iN i)]) (fun i=>[(⟨32,0,(cZ false f).map .t⟩:Ob),⟨42,0,[tv (.string ⟨#[]⟩),tv (.string ⟨#[]⟩),tv (.slice none 0 0),tv (.bool false),tv (.slice none 0 0),tv (.bool false),tv (.slice none 0 0),tv (.bool false),tv (.slice none 0 0),tv (.bool false),tv (.slice none 0 0),tv (.int .i64 ((0:Nat):Int)),tv (.int .i64 ((0:Nat):Int)),tv (.bool false),tv (.slice none 0 0),tv (.bool false),tv (.slice none 0 0),tv (.bool false),tv (.slice none 0 0),tv (.bool false),tv (.slice none 0 0),tv (.int .i64 ((0:Nat):Int)),tv (.slice none 0 0),tv (.slice none 0 0),tv (.slice none 0 0)]⟩,⟨42,0,[tv (.string (aN f.nm)),tv (.string (aN f.pa)),.sl 3 0 (k),tv (.bool f.th.s),.t (sU false f.th.x),tv (.bool f.th.t),.t (sU false f.th.y),tv (.bool f.cp.s),.t (sU false f.cp.x),tv (.bool f.cp.t),.t (sU false f.cp.y),tv (.int .i64 f.bk),tv (.int .i64 f.fw),tv (.bool f.it.s),.t (sU false f.it.x),tv (.bool f.it.t),.t (sU false f.it.y),tv (.bool f.fl.s),.t (sU false f.fl.x),tv (.bool f.fl.t),.t (sU false f.fl.y),tv (.int .i64 f.kp),.sl 4 0 (i),.sl 5 0 (0+f.en.length),.sl 6 0 (0)]⟩,⟨72,8,((f.br.take k).flatMap tI).map .t⟩,⟨74,6,((f.cl.take i).flatMap nP).map .t⟩,⟨9,1,(f.en.map sT).map .t⟩,⟨81,6,((f.ys.take 0).flatMap (cV true)).map .t⟩].map some) (fun i=>i<=f.cl.length/\True) (fun i=>f.cl.length-i) 0 ⟨Nat.zero_le _,trivial⟩ (aH h0 [0,1,2,3,4,5,6] ⟨aD rfl,oe rfl rfl,oe rfl rfl,aD rfl,aD rfl,aD rfl,aD rfl,rfl⟩) fun i hi=>?_
 refine sq (sq (rl (o1 ?_)));refine o1 ?_;refine ld ?_;refine o1 ?_;refine o1 ?_;refine nl ?_;refine aV rfl (fun h2=>?_) (fun h2=>?_)
 ·refine sk (sq (bl (sq (rl (o1 ?_)))));refine ld ?_;refine o1 ?_;refine o1 ?_
  refine cX (nP (aB f.cl (i))) (cM 6 0 iH (aI (by omega)) rfl) ?_
  refine al 7 ?_;refine st ?_;refine nl ?_;refine bU [0,1,2,7] [13] ?_
  refine dv 0 ?_;refine aF 1 ?_;refine dv 2 ?_;refine aF 3 ?_;refine dv 4 ?_;refine aF 5 ?_;refine dv 6 ?_;refine aF 7 ?_
  refine aG 8 rfl (eL (a:=(aB f.cl (i)).p) (kT ((hf.cl (aB f.cl (i)) (aS (l:=f.cl) (by omega))).p))) aA (aM rfl) _ ?_
  refine df 9 ?_;refine dA (key:=8) 10 (by kernel_rfl) rfl rfl aR rfl ⟨rfl,rfl,rfl,rfl,trivial⟩ ?_
  refine iB (j:=9) (n:=i) (l:=((f.cl.take i).flatMap nP).map .t) 11 rfl aR rfl rfl rfl (.sl rfl (tQ iH (by omega))) (.sl rfl rfl rfl) rfl rfl (by omega) (by omega) rfl ⟨rfl,rfl,rfl,rfl,trivial⟩ rfl (by kernel_rfl) rfl ?_
  refine dv 12 ?_;refine dst 13 ?_;refine aJ ?_;refine rl (o1 ?_);refine o1 ?_;refine aY 70 (i+1) ?_
  refine o1 ?_;refine nl ?_
  exact⟨i+1,by omega,⟨by omega,trivial⟩,aH h0 [0,1,2,3,9,5,6] ⟨aD rfl,oe rfl rfl,oe rfl rfl,aD rfl,aD (congrArg (fun l:List AV=>some (⟨74,6,l⟩:Ob)) (qJ (tr:=nP) (xs:=f.cl) (d:=nilIt) (by omega))),aD rfl,aD rfl,rfl⟩⟩
 refine ex (sq (sq (rl (o1 ?_))));refine nl (bl ?_)
 refine lp (γ:=Nat) (fun j=>bP [(1,pN 0),(2,pN 1),(3,pN 2),(7,iN j)]) (fun j=>[(⟨32,0,(cZ false f).map .t⟩:Ob),⟨42,0,[tv (.string ⟨#[]⟩),tv (.string ⟨#[]⟩),tv (.slice none 0 0),tv (.bool false),tv (.slice none 0 0),tv (.bool false),tv (.slice none 0 0),tv (.bool false),tv (.slice none 0 0),tv (.bool false),tv (.slice none 0 0),tv (.int .i64 ((0:Nat):Int)),tv (.int .i64 ((0:Nat):Int)),tv (.bool false),tv (.slice none 0 0),tv (.bool false),tv (.slice none 0 0),tv (.bool false),tv (.slice none 0 0),tv (.bool false),tv (.slice none 0 0),tv (.int .i64 ((0:Nat):Int)),tv (.slice none 0 0),tv (.slice none 0 0),tv (.slice none 0 0)]⟩,⟨42,0,[tv (.string (aN f.nm)),tv (.string (aN f.pa)),.sl 3 0 (k),tv (.bool f.th.s),.t (sU false f.th.x),tv (.bool f.th.t),.t (sU false f.th.y),tv (.bool f.cp.s),.t (sU false f.cp.x),tv (.bool f.cp.t),.t (sU false f.cp.y),tv (.int .i64 f.bk),tv (.int .i64 f.fw),tv (.bool f.it.s),.t (sU false f.it.x),tv (.bool f.it.t),.t (sU false f.it.y),tv (.bool f.fl.s),.t (sU false f.fl.x),tv (.bool f.fl.t),.t (sU false f.fl.y),tv (.int .i64 f.kp),.sl 4 0 (i),.sl 5 0 (0+f.en.length),.sl 6 0 (j)]⟩,⟨72,8,((f.br.take k).flatMap tI).map .t⟩,⟨74,6,((f.cl.take i).flatMap nP).map .t⟩,⟨9,1,(f.en.map sT).map .t⟩,⟨81,6,((f.ys.take j).flatMap (cV true)).map .t⟩].map some) (fun j=>j<=f.ys.length/\True) (fun j=>f.ys.length-j) 0 ⟨Nat.zero_le _,trivial⟩ (aH h0 [0,1,2,3,4,5,6] ⟨aD rfl,oe rfl rfl,oe rfl rfl,aD rfl,aD rfl,aD rfl,aD rfl,rfl⟩) fun j hj=>?_
 refine sq (sq (rl (o1 ?_)));refine o1 ?_;refine ld ?_;refine o1 ?_;refine o1 ?_;refine nl ?_;refine aV rfl (fun h3=>?_) (fun h3=>?_)
 ·refine sk (sq (bl ?_));refine bU [0,1,2] [11] ?_
  refine dv 0 ?_;refine aF 1 ?_;refine dv 2 ?_;refine aF 3 ?_;refine dv 4 ?_;refine dv 5 ?_
  refine dQ 6 ((cV false) (aC f.ys (j))) (cM 6 0 (gE false) (fZ (by omega)) rfl) ?_
  refine aG 7 rfl (CO (hf.ys (aC f.ys (j)) (jB (l:=f.ys) (by omega)))) aA (aM rfl) _ ?_
  refine dA (key:=7) 8 (by kernel_rfl) rfl rfl aR rfl ⟨rfl,rfl,rfl,trivial⟩ ?_
  refine iB (j:=8) (n:=j) (l:=((f.ys.take j).flatMap (cV true)).map .t) 9 rfl aR rfl rfl rfl (.sl rfl (tQ (gE true) (by omega))) (.sl rfl rfl rfl) rfl rfl (by omega) (by omega) rfl ⟨rfl,rfl,rfl,trivial⟩ rfl (by kernel_rfl) rfl ?_
  refine dv 10 ?_;refine dst 11 ?_;refine aJ ?_;refine rl (o1 ?_);refine o1 ?_;refine aY 95 (j+1) ?_
  refine o1 ?_;refine nl ?_
  exact⟨j+1,by omega,⟨by omega,trivial⟩,aH h0 [0,1,2,3,4,5,8] ⟨aD rfl,oe rfl rfl,oe rfl rfl,aD rfl,aD rfl,aD rfl,aD (congrArg (fun l:List AV=>some (⟨81,6,l⟩:Ob)) (qJ (tr:=(cV true)) (xs:=f.ys) (d:=tJ) (by omega))),rfl⟩⟩
 refine ex (sq (rl (ld ?_)));refine st ?_;refine nl (rt ?_);have hk9:k=f.br.length:=by omega
 have hi9:i=f.cl.length:=by omega
 have hj9:j=f.ys.length:=by omega
 exact en (.inl rfl) rfl (bB (.agg (.cons (.id rfl) (.cons (.id rfl) (.cons (.sl (trs:=(f.br.take k).flatMap tI) rfl rfl (qI _ _ (mE gQ (by omega))) (mE gQ (by omega))) (.cons (.id rfl) (.cons (.id rfl) (.cons (.id rfl) (.cons (.id rfl) (.cons (.id rfl) (.cons (.id rfl) (.cons (.id rfl) (.cons (.id rfl) (.cons (.id rfl) (.cons (.id rfl) (.cons (.id rfl) (.cons (.id rfl) (.cons (.id rfl) (.cons (.id rfl) (.cons (.id rfl) (.cons (.id rfl) (.cons (.id rfl) (.cons (.id rfl) (.cons (.id rfl) (.cons (.sl (trs:=(f.cl.take i).flatMap nP) rfl rfl (qI _ _ (mE iH (by omega))) (mE iH (by omega))) (.cons (.sl (trs:=f.en.map sT) rfl rfl (by rw[Nat.zero_add];exact Yn _) (by rw[Nat.zero_add];exact Ny _)) (.cons (.sl (trs:=(f.ys.take j).flatMap (cV true)) rfl rfl (qI _ _ (mE (gE true) (by omega))) (mE (gE true) (by omega))) .nil))))))))))))))))))))))))))) (by decide) (fun h=>by cases h) (by rw[hk9,hi9,hj9,Nat.zero_add,cT (aX _),cT (aX _),cT (aX _)];show FV.agg _=FV.agg _;rfl)
structure LenY (y:Yer):Prop where
 hl:y.h.length<=40
 bl:y.b.length<=40
 dl:y.d.length<=40
 sl:y.s.length<=40
 ol:y.o.length<=40
structure LenF (f:Fil):Prop where
 brl:f.br.length<=20
 cll:f.cl.length<=70
 enl:f.en.length<=260
 ysl:f.ys.length<=45
 ys:∀y∈f.ys,LenY y
def dW (x:It):List Fr4:=[x.p]
def mC (x:It):List Fr4:=[x.p,x.q]
def gT (x:It):List (List Nat):=[x.s]
def kH (x:It):List (List Nat):=[x.s,x.t]
def rK (x:It):List (List Nat):=[x.s,x.t,x.u,x.v]
def pP (y:Yer):List Fr4:=y.h.flatMap dW++y.b.flatMap dW++y.d.flatMap dW++y.s.flatMap mC++y.o.flatMap dW
def pQ (f:Fil):List Fr4:=[f.th,f.cp,f.it,f.fl]
def mF (f:Fil):List Fr4:=pQ f++f.br.flatMap mC
def qV (f:Fil):List Fr4:=mF f++f.cl.flatMap dW
def uN (f:Fil):List Fr4:=qV f++f.ys.flatMap pP
def pR (y:Yer):List (List Nat):=y.h.flatMap kH++y.b.flatMap kH++y.d.flatMap rK++y.s.flatMap gT++y.o.flatMap gT
def oM (f:Fil):List (List Nat):=[f.nm,f.pa]++f.en
def sS (f:Fil):List (List Nat):=oM f++f.cl.flatMap gT
def wT (f:Fil):List (List Nat):=sS f++f.ys.flatMap pR
theorem iC {α β:Type}{g:α->List β}{c:Nat}:∀{l:List α},(∀x∈l,(g x).length<=c)->(l.flatMap g).length<=l.length*c
 | [],_=>by simp
 | x::l,h=>by
  have h1:=h x (List.mem_cons_self ..)
  have h2:=iC fun y hy=>h y (List.mem_cons_of_mem x hy)
  rw[List.flatMap_cons,cJ,List.length_cons,Nat.succ_mul]
  omega
theorem kU {α β:Type}{g:α->List β}{c:Nat}{l:List α}(h:∀x∈l,(g x).length<=c) (k:Nat):((l.take k).flatMap g).length<=l.length*c:=by
 have h1:=iC (l:=l.take k) fun x hx=>h x (List.mem_of_mem_take hx)
 have h2:(l.take k).length<=l.length:=by rw[dU];omega
 have h3:=Nat.mul_le_mul_right c h2
 omega
theorem fS {α β:Type}{d:α}{pre:List β}{g:α->List β}{xs:List α}{k:Nat}(h:k<xs.length):pre++(xs.take k).flatMap g++g (xs.getD k d)=pre++(xs.take (k+1)).flatMap g:=by
 rw[List.take_add_one,List.flatMap_append,List.append_assoc]
 simp[h]
theorem yG {β:Type}{a b c:List β}(h:a++b=c):a.length+b.length=c.length:=by rw[<-h,cJ]
theorem Fx {a b c:List Fr4}(h:a++b=c):some (⟨27,4,(a.flatMap (Fr4.tr false)).map .t++(b.flatMap (Fr4.tr false)).map .t⟩:Ob)=some ⟨27,4,(c.flatMap (Fr4.tr false)).map .t⟩:=by rw[<-h,List.flatMap_append,List.map_append]
theorem Cf {a b:List Fr4}(h:a=b):some (⟨27,4,(a.flatMap (Fr4.tr false)).map .t⟩:Ob)=some ⟨27,4,(b.flatMap (Fr4.tr false)).map .t⟩:=by rw[h]
theorem KY (ls:List Fr4):(ls.flatMap (Fr4.tr false)).length=ls.length*4:=nV (f:=Fr4.tr false) (z:=4) (fun _=>rfl) ls
theorem tR (ls:List Fr4):((ls.flatMap (Fr4.tr false)).map AV.t).length=ls.length*4:=by rw[dP,KY]
theorem aBf (ls:List Fr4):((ls.flatMap (Fr4.tr false)).map AV.t).take (ls.length*4)=(ls.flatMap (Fr4.tr false)).map .t:=cT (by rw[tR];exact aX _)
theorem CP {y:Yer}(h:LenY y):(pP y).length<=240:=by
 have h1:=h.hl
 have h2:=h.bl
 have h3:=h.dl
 have h4:=h.sl
 have h5:=h.ol
 have q1:=iC (g:=dW) (c:=1) (l:=y.h) fun _ _=>aX 1
 have q2:=iC (g:=dW) (c:=1) (l:=y.b) fun _ _=>aX 1
 have q3:=iC (g:=dW) (c:=1) (l:=y.d) fun _ _=>aX 1
 have q4:=iC (g:=mC) (c:=2) (l:=y.s) fun _ _=>aX 2
 have q5:=iC (g:=dW) (c:=1) (l:=y.o) fun _ _=>aX 1
 simp only[pP,cJ]
 omega
theorem Cg {f:Fil}(h:LenF f):(qV f).length<=200:=by
 have h1:=h.brl
 have h2:=h.cll
 have q1:=iC (g:=mC) (c:=2) (l:=f.br) fun _ _=>aX 2
 have q2:=iC (g:=dW) (c:=1) (l:=f.cl) fun _ _=>aX 1
 simp only[qV,mF,pQ,cJ,List.length_cons,List.length_nil]
 omega
theorem CQ {y:Yer}(h:LenY y):(pR y).length<=400:=by
 have h1:=h.hl
 have h2:=h.bl
 have h3:=h.dl
 have h4:=h.sl
 have h5:=h.ol
 have q1:=iC (g:=kH) (c:=2) (l:=y.h) fun _ _=>aX 2
 have q2:=iC (g:=kH) (c:=2) (l:=y.b) fun _ _=>aX 2
 have q3:=iC (g:=rK) (c:=4) (l:=y.d) fun _ _=>aX 4
 have q4:=iC (g:=gT) (c:=1) (l:=y.s) fun _ _=>aX 1
 have q5:=iC (g:=gT) (c:=1) (l:=y.o) fun _ _=>aX 1
 simp only[pR,cJ]
 omega
theorem Lw {f:Fil}(h:LenF f):(sS f).length<=400:=by
 have h1:=h.enl
 have h2:=h.cll
 have q2:=iC (g:=gT) (c:=1) (l:=f.cl) fun _ _=>aX 1
 simp only[sS,oM,cJ,List.length_cons,List.length_nil]
 omega
def rk (f:Fil) (k:Nat):List (Fr4):=qV f++(f.ys.take k).flatMap pP
def yH (f:Fil) (k:Nat):List (Fr4):=rk f k++(aC f.ys k).h.flatMap dW
def yI (f:Fil) (k:Nat):List (Fr4):=yH f k++(aC f.ys k).b.flatMap dW
def yJ (f:Fil) (k:Nat):List (Fr4):=yI f k++(aC f.ys k).d.flatMap dW
def wU (f:Fil) (k:Nat):List (Fr4):=yJ f k++(aC f.ys k).s.flatMap mC
theorem WA {f:Fil}{k:Nat}(h:LenY (aC f.ys k)) (h0:(rk f k).length<=20000):(yH f k).length<=30000/\(yI f k).length<=30000/\(yJ f k).length<=30000/\(wU f k).length<=30000:=by
 have q1:=iC (g:=dW) (c:=1) (l:=(aC f.ys k).h) fun _ _=>aX 1
 have l1:=h.hl
 have q2:=iC (g:=dW) (c:=1) (l:=(aC f.ys k).b) fun _ _=>aX 1
 have l2:=h.bl
 have q3:=iC (g:=dW) (c:=1) (l:=(aC f.ys k).d) fun _ _=>aX 1
 have l3:=h.dl
 have q4:=iC (g:=mC) (c:=2) (l:=(aC f.ys k).s) fun _ _=>aX 2
 have l4:=h.sl
 simp only[wU,yJ,yI,yH,cJ]
 omega
theorem WB {f:Fil}{k:Nat}(h:k<f.ys.length):wU f k++(aC f.ys k).o.flatMap dW=rk f (k+1):=by
 have e:=fS (pre:=qV f) (xs:=f.ys) (k:=k) (d:=tJ) (g:=pP) h
 show _=qV f++(f.ys.take (k+1)).flatMap pP
 rw[<-e]
 simp only[wU,yJ,yI,yH,rk,pP,List.append_assoc]
 rfl
def xk (f:Fil) (k:Nat):List (List Nat):=sS f++(f.ys.take k).flatMap pR
def yK (f:Fil) (k:Nat):List (List Nat):=xk f k++(aC f.ys k).h.flatMap kH
def yL (f:Fil) (k:Nat):List (List Nat):=yK f k++(aC f.ys k).b.flatMap kH
def yM (f:Fil) (k:Nat):List (List Nat):=yL f k++(aC f.ys k).d.flatMap rK
def wV (f:Fil) (k:Nat):List (List Nat):=yM f k++(aC f.ys k).s.flatMap gT
theorem WC {f:Fil}{k:Nat}(h:LenY (aC f.ys k)) (h0:(xk f k).length<=20000):(yK f k).length<=30000/\(yL f k).length<=30000/\(yM f k).length<=30000/\(wV f k).length<=30000:=by
 have q1:=iC (g:=kH) (c:=2) (l:=(aC f.ys k).h) fun _ _=>aX 2
 have l1:=h.hl
 have q2:=iC (g:=kH) (c:=2) (l:=(aC f.ys k).b) fun _ _=>aX 2
 have l2:=h.bl
 have q3:=iC (g:=rK) (c:=4) (l:=(aC f.ys k).d) fun _ _=>aX 4
 have l3:=h.dl
 have q4:=iC (g:=gT) (c:=1) (l:=(aC f.ys k).s) fun _ _=>aX 1
 have l4:=h.sl
 simp only[wV,yM,yL,yK,cJ]
 omega
theorem WE {f:Fil}{k:Nat}(h:k<f.ys.length):wV f k++(aC f.ys k).o.flatMap gT=xk f (k+1):=by
 have e:=fS (pre:=sS f) (xs:=f.ys) (k:=k) (d:=tJ) (g:=pR) h
 show _=sS f++(f.ys.take (k+1)).flatMap pR
 rw[<-e]
 simp only[wV,yM,yL,yK,xk,pR,List.append_assoc]
 rfl
theorem Lx {f:Fil}(h:LenF f) (k:Nat):(rk f k).length<=11000:=by
 have h1:=Cg h
 have h2:=h.ysl
 have h3:=kU (g:=pP) (c:=240) (l:=f.ys) (fun y hy=>CP (h.ys y hy)) k
 rw[rk,cJ]
 omega
theorem Ly {f:Fil}(h:LenF f) (k:Nat):(xk f k).length<=20000:=by
 have h1:=Lw h
 have h2:=h.ysl
 have h3:=kU (g:=pR) (c:=400) (l:=f.ys) (fun y hy=>CQ (h.ys y hy)) k
 rw[xk,cJ]
 omega
theorem WF {f:Fil}(hf:LenF f):aE false Tryz.prog 11 [] [.agg ((cZ false f).map .t)] (aP (.one (.t (.s true 27 4 (uN f).length ((uN f).flatMap (Fr4.tr false)))))):=by
 refine bD Tryz.func11 Tryz.ntmps11 fun N9 w9 c0 h0=>?_
 have hbr:=hf.brl
 have hcl:=hf.cll
 have hen:=hf.enl
 have hys:=hf.ysl
 refine sq (rl (bx 0 ?_));refine o1 ?_;refine nl (sq (rl (o1 ?_)));refine ld ?_;refine o1 ?_;refine ld ?_;refine o1 ?_;refine ld ?_;refine o1 ?_
 refine ld ?_;refine bs 1 ?_;refine o1 ?_;refine nl (sq (sq (rl (o1 ?_))));refine nl (bl ?_)
 refine lp (γ:=Nat) (fun s=>bP [(1,pN 0),(3,.one (.sl 1 0 ((pQ f++(f.br.take s).flatMap mC).length))),(4,iN s)]) (fun s=>[(⟨32,0,(cZ false f).map .t⟩:Ob),⟨27,4,((pQ f++(f.br.take s).flatMap mC).flatMap (Fr4.tr false)).map .t⟩].map some) (fun s=>s<=f.br.length) (fun s=>f.br.length-s) 0 (Nat.zero_le _) (dC h0 [0,1] _ _ (by decide) ⟨rfl,eJ rfl,rfl,trivial⟩ ⟨aD rfl,aD (by rw[List.take_zero,List.flatMap_nil,List.append_nil];rfl),rfl⟩) ?_
 rintro u1 hu1;refine sq (sq (rl (o1 ?_)));refine o1 ?_;refine ld ?_;refine o1 ?_;refine o1 ?_;refine nl ?_;refine aV rfl (fun h1=>?_) (fun h1=>?_)
 ·refine sk (sq (bl ?_));have hln:(pQ f++(f.br.take u1).flatMap mC).length<=1000:=by
   have q1:=kU (g:=mC) (c:=2) (l:=f.br) (fun _ _=>aX 2) u1
   have q2:=Cg hf
   simp only[qV,mF,pQ,cJ,List.length_cons,List.length_nil]at q2⊢;omega
  refine bU [0] [15] ?_
  refine dv 0 ?_;refine dv 1 ?_;refine aF 2 ?_;refine dv 3 ?_;refine dv 4 ?_;refine dv 5 ?_
  refine dQ 6 ((aB f.br (u1)).p.tr false) (cM 8 0 gQ (aI (by omega)) rfl) ?_
  refine dv 7 ?_;refine aF 8 ?_;refine dv 9 ?_;refine dv 10 ?_;refine dv 11 ?_
  refine dQ 12 ((aB f.br (u1)).q.tr false) (cM 8 4 gQ (aI (by omega)) rfl) ?_
  refine dA (key:=2) 13 (by kernel_rfl) rfl rfl aR rfl ⟨rfl,trivial⟩ ?_
  refine iB (j:=3) (n:=(pQ f++(f.br.take u1).flatMap mC).length) (l:=((pQ f++(f.br.take u1).flatMap mC).flatMap (Fr4.tr false)).map .t) 14 rfl aR rfl rfl rfl (.sl rfl (tR _)) (.sl rfl rfl rfl) rfl rfl (by omega) (by omega) rfl ⟨rfl,trivial⟩ rfl (by kernel_rfl) rfl ?_
  refine bM 15 ?_
  refine aJ ?_;refine rl (o1 ?_);refine o1 ?_;refine aY 28 (u1+1) ?_
  refine o1 ?_;refine nl ?_
  exact⟨u1+1,by omega,(by omega),dC h0 [0,3] _ _ (by decide) ⟨rfl,eJ (yG (fS (pre:=pQ f) (xs:=f.br) (k:=u1) (d:=nilIt) (g:=mC) (by omega))).symm,rfl,trivial⟩ ⟨aD rfl,aD (Fx (fS (pre:=pQ f) (xs:=f.br) (k:=u1) (d:=nilIt) (g:=mC) (by omega))),rfl⟩⟩
 refine ex (sq (sq (rl (o1 ?_))));refine nl (bl ?_)
 refine lp (γ:=Nat) (fun s=>bP [(1,pN 0),(3,.one (.sl 1 0 ((mF f++(f.cl.take s).flatMap dW).length))),(5,iN s)]) (fun s=>[(⟨32,0,(cZ false f).map .t⟩:Ob),⟨27,4,((mF f++(f.cl.take s).flatMap dW).flatMap (Fr4.tr false)).map .t⟩].map some) (fun s=>s<=f.cl.length) (fun s=>f.cl.length-s) 0 (Nat.zero_le _) (dC h0 [0,1] _ _ (by decide) ⟨rfl,eJ (congrArg List.length (show _=(mF f++(f.cl.take 0).flatMap dW) from by rw[cT (by omega),List.take_zero];simp[mF])).symm,rfl,trivial⟩ ⟨aD rfl,aD (Cf (show _=(mF f++(f.cl.take 0).flatMap dW) from by rw[cT (by omega),List.take_zero];simp[mF])),rfl⟩) ?_
 rintro u2 hu2;refine sq (sq (rl (o1 ?_)));refine o1 ?_;refine ld ?_;refine o1 ?_;refine o1 ?_;refine nl ?_;refine aV rfl (fun h2=>?_) (fun h2=>?_)
 ·refine sk (sq (bl ?_));have hln:(mF f++(f.cl.take u2).flatMap dW).length<=1000:=by
   have q1:=kU (g:=dW) (c:=1) (l:=f.cl) (fun _ _=>aX 1) u2
   have q2:=Cg hf
   simp only[qV,mF,pQ,cJ,List.length_cons,List.length_nil]at q2⊢;omega
  refine rl (o1 ?_);refine o1 ?_;refine ld ?_;(iterate 3 refine o1 ?_)
  refine cX ((aB f.cl (u2)).p.tr false) (cM 6 2 iH (aI (by omega)) rfl) ?_
  refine bs 2 ?_
  refine fF (j:=3) (n:=(mF f++(f.cl.take u2).flatMap dW).length) (l:=((mF f++(f.cl.take u2).flatMap dW).flatMap (Fr4.tr false)).map .t) aR rfl rfl rfl rfl (.sl rfl (tR _)) (.sl rfl rfl rfl) rfl rfl rfl (by omega) (by omega) ?_
  refine o1 ?_;refine nl (rl (o1 ?_));refine o1 ?_;refine aY 50 (u2+1) ?_
  refine o1 ?_;refine nl ?_
  exact⟨u2+1,by omega,(by omega),dC h0 [0,3] _ _ (by decide) ⟨rfl,eJ (yG (fS (pre:=mF f) (xs:=f.cl) (k:=u2) (d:=nilIt) (g:=dW) (by omega))).symm,rfl,trivial⟩ ⟨aD rfl,aD (Fx (fS (pre:=mF f) (xs:=f.cl) (k:=u2) (d:=nilIt) (g:=dW) (by omega))),rfl⟩⟩
 refine ex (sq (sq (rl (o1 ?_))));refine nl (bl ?_)
 refine lp (γ:=Nat) (fun s=>bP [(1,pN 0),(3,.one (.sl 1 0 ((rk f s).length))),(6,iN s)]) (fun s=>[(⟨32,0,(cZ false f).map .t⟩:Ob),⟨27,4,((rk f s).flatMap (Fr4.tr false)).map .t⟩].map some) (fun s=>s<=f.ys.length) (fun s=>f.ys.length-s) 0 (Nat.zero_le _) (dC h0 [0,1] _ _ (by decide) ⟨rfl,eJ (congrArg List.length (show _=(rk f 0) from by rw[cT (by omega)];simp[rk,qV])).symm,rfl,trivial⟩ ⟨aD rfl,aD (Cf (show _=(rk f 0) from by rw[cT (by omega)];simp[rk,qV])),rfl⟩) ?_
 rintro k hk;refine sq (sq (rl (o1 ?_)));refine o1 ?_;refine ld ?_;refine o1 ?_;refine o1 ?_;refine nl ?_;refine aV rfl (fun h3=>?_) (fun h3=>?_)
 ·refine sk (sq (bl (sq ?_)));have hyl:=hf.ys _ (jB (l:=f.ys) (i:=k) (by omega))
  have hhl:=hyl.hl
  have hbl:=hyl.bl
  have hdl:=hyl.dl
  have hsl:=hyl.sl
  have hol:=hyl.ol
  have hln:=Lx hf k
  have hj:=WA hyl (by omega)
  refine rl (o1 ?_);refine ld ?_;refine o1 ?_;refine o1 ?_
  refine cX ((cV false) (aC f.ys (k))) (cM 6 0 (gE false) (fZ (by omega)) rfl) ?_
  refine al 2 ?_;refine st ?_;refine nl (sq (sq (rl (o1 ?_))));refine nl (bl ?_)
  refine lp (γ:=Nat) (fun s=>bP [(1,pN 0),(3,.one (.sl 1 0 (((rk f k)++((aC f.ys (k)).h.take s).flatMap dW).length))),(6,iN k),(7,pN 2),(8,iN s)]) (fun s=>[(⟨32,0,(cZ false f).map .t⟩:Ob),⟨27,4,(((rk f k)++((aC f.ys (k)).h.take s).flatMap dW).flatMap (Fr4.tr false)).map .t⟩,⟨55,0,(cV false (aC f.ys (k))).map .t⟩].map some) (fun s=>s<=(aC f.ys (k)).h.length) (fun s=>(aC f.ys (k)).h.length-s) 0 (Nat.zero_le _) (dC h0 [0,1,2] _ _ (by decide) ⟨rfl,eJ (congrArg List.length (show _=((rk f k)++((aC f.ys (k)).h.take 0).flatMap dW) from by rw[List.take_zero,List.flatMap_nil,List.append_nil])).symm,rfl,rfl,rfl,trivial⟩ ⟨aD rfl,aD (Cf (show _=((rk f k)++((aC f.ys (k)).h.take 0).flatMap dW) from by rw[List.take_zero,List.flatMap_nil,List.append_nil])),aD rfl,rfl⟩) ?_
  rintro v1 hv1;refine sq (sq (rl (o1 ?_)));refine o1 ?_;refine ld ?_;refine o1 ?_;refine o1 ?_;refine nl ?_;refine aV rfl (fun h4=>?_) (fun h4=>?_)
  ·refine sk (sq (bl ?_));have hlv1:=kU (g:=dW) (c:=1) (l:=(aC f.ys (k)).h) (fun _ _=>aX 1) v1
   have hLv1:((rk f k)++((aC f.ys (k)).h.take v1).flatMap dW).length<=40000:=by rw[cJ];omega
   refine rl (o1 ?_);refine o1 ?_;refine ld ?_;(iterate 3 refine o1 ?_)
   refine cX ((aB (aC f.ys (k)).h (v1)).p.tr false) (cM 6 2 dF (aI (by omega)) rfl) ?_
   refine bs 3 ?_
   refine fF (j:=4) (n:=((rk f k)++((aC f.ys (k)).h.take v1).flatMap dW).length) (l:=(((rk f k)++((aC f.ys (k)).h.take v1).flatMap dW).flatMap (Fr4.tr false)).map .t) aR rfl rfl rfl rfl (.sl rfl (tR _)) (.sl rfl rfl rfl) rfl rfl rfl (by omega) (by omega) ?_
   refine o1 ?_;refine nl (rl (o1 ?_));refine o1 ?_;refine aY 78 (v1+1) ?_
   refine o1 ?_;refine nl ?_
   exact⟨v1+1,by omega,(by omega),dC h0 [0,4,2] _ _ (by decide) ⟨rfl,eJ (yG (fS (pre:=(rk f k)) (xs:=(aC f.ys (k)).h) (k:=v1) (d:=nilIt) (g:=dW) (by omega))).symm,rfl,rfl,rfl,trivial⟩ ⟨aD rfl,aD (Fx (fS (pre:=(rk f k)) (xs:=(aC f.ys (k)).h) (k:=v1) (d:=nilIt) (g:=dW) (by omega))),aD rfl,rfl⟩⟩
  refine ex (sq (sq (rl (o1 ?_))));refine nl (bl ?_)
  refine lp (γ:=Nat) (fun s=>bP [(1,pN 0),(3,.one (.sl 1 0 (((yH f k)++((aC f.ys (k)).b.take s).flatMap dW).length))),(6,iN k),(7,pN 2),(9,iN s)]) (fun s=>[(⟨32,0,(cZ false f).map .t⟩:Ob),⟨27,4,(((yH f k)++((aC f.ys (k)).b.take s).flatMap dW).flatMap (Fr4.tr false)).map .t⟩,⟨55,0,(cV false (aC f.ys (k))).map .t⟩].map some) (fun s=>s<=(aC f.ys (k)).b.length) (fun s=>(aC f.ys (k)).b.length-s) 0 (Nat.zero_le _) (dC h0 [0,1,2] _ _ (by decide) ⟨rfl,eJ (congrArg List.length (show _=((yH f k)++((aC f.ys (k)).b.take 0).flatMap dW) from by rw[cT (l:=(aC f.ys (k)).h) (by omega),List.take_zero,List.flatMap_nil,List.append_nil];rfl)).symm,rfl,rfl,rfl,trivial⟩ ⟨aD rfl,aD (Cf (show _=((yH f k)++((aC f.ys (k)).b.take 0).flatMap dW) from by rw[cT (l:=(aC f.ys (k)).h) (by omega),List.take_zero,List.flatMap_nil,List.append_nil];rfl)),aD rfl,rfl⟩) ?_
  rintro v2 hv2;refine sq (sq (rl (o1 ?_)));refine o1 ?_;refine ld ?_;refine o1 ?_;refine o1 ?_;refine nl ?_;refine aV rfl (fun h5=>?_) (fun h5=>?_)
  ·refine sk (sq (bl ?_));have hlv2:=kU (g:=dW) (c:=1) (l:=(aC f.ys (k)).b) (fun _ _=>aX 1) v2
   have hLv2:((yH f k)++((aC f.ys (k)).b.take v2).flatMap dW).length<=40000:=by rw[cJ];omega
   refine rl (o1 ?_);refine o1 ?_;refine ld ?_;(iterate 3 refine o1 ?_)
   refine cX ((aB (aC f.ys (k)).b (v2)).p.tr false) (cM 6 2 dF (aI (by omega)) rfl) ?_
   refine bs 3 ?_
   refine fF (j:=4) (n:=((yH f k)++((aC f.ys (k)).b.take v2).flatMap dW).length) (l:=(((yH f k)++((aC f.ys (k)).b.take v2).flatMap dW).flatMap (Fr4.tr false)).map .t) aR rfl rfl rfl rfl (.sl rfl (tR _)) (.sl rfl rfl rfl) rfl rfl rfl (by omega) (by omega) ?_
   refine o1 ?_;refine nl (rl (o1 ?_));refine o1 ?_;refine aY 94 (v2+1) ?_
   refine o1 ?_;refine nl ?_
   exact⟨v2+1,by omega,(by omega),dC h0 [0,4,2] _ _ (by decide) ⟨rfl,eJ (yG (fS (pre:=(yH f k)) (xs:=(aC f.ys (k)).b) (k:=v2) (d:=nilIt) (g:=dW) (by omega))).symm,rfl,rfl,rfl,trivial⟩ ⟨aD rfl,aD (Fx (fS (pre:=(yH f k)) (xs:=(aC f.ys (k)).b) (k:=v2) (d:=nilIt) (g:=dW) (by omega))),aD rfl,rfl⟩⟩
  refine ex (sq (sq (rl (o1 ?_))));refine nl (bl ?_)
  refine lp (γ:=Nat) (fun s=>bP [(1,pN 0),(3,.one (.sl 1 0 (((yI f k)++((aC f.ys (k)).d.take s).flatMap dW).length))),(6,iN k),(7,pN 2),(10,iN s)]) (fun s=>[(⟨32,0,(cZ false f).map .t⟩:Ob),⟨27,4,(((yI f k)++((aC f.ys (k)).d.take s).flatMap dW).flatMap (Fr4.tr false)).map .t⟩,⟨55,0,(cV false (aC f.ys (k))).map .t⟩].map some) (fun s=>s<=(aC f.ys (k)).d.length) (fun s=>(aC f.ys (k)).d.length-s) 0 (Nat.zero_le _) (dC h0 [0,1,2] _ _ (by decide) ⟨rfl,eJ (congrArg List.length (show _=((yI f k)++((aC f.ys (k)).d.take 0).flatMap dW) from by rw[cT (l:=(aC f.ys (k)).b) (by omega),List.take_zero,List.flatMap_nil,List.append_nil];rfl)).symm,rfl,rfl,rfl,trivial⟩ ⟨aD rfl,aD (Cf (show _=((yI f k)++((aC f.ys (k)).d.take 0).flatMap dW) from by rw[cT (l:=(aC f.ys (k)).b) (by omega),List.take_zero,List.flatMap_nil,List.append_nil];rfl)),aD rfl,rfl⟩) ?_
  rintro v3 hv3;refine sq (sq (rl (o1 ?_)));refine o1 ?_;refine ld ?_;refine o1 ?_;refine o1 ?_;refine nl ?_;refine aV rfl (fun h6=>?_) (fun h6=>?_)
  ·refine sk (sq (bl ?_));have hlv3:=kU (g:=dW) (c:=1) (l:=(aC f.ys (k)).d) (fun _ _=>aX 1) v3
   have hLv3:((yI f k)++((aC f.ys (k)).d.take v3).flatMap dW).length<=40000:=by rw[cJ];omega
   refine rl (o1 ?_);refine o1 ?_;refine ld ?_;(iterate 3 refine o1 ?_)
   refine cX ((aB (aC f.ys (k)).d (v3)).p.tr false) (cM 10 6 lH (aI (by omega)) rfl) ?_
   refine bs 3 ?_
   refine fF (j:=4) (n:=((yI f k)++((aC f.ys (k)).d.take v3).flatMap dW).length) (l:=(((yI f k)++((aC f.ys (k)).d.take v3).flatMap dW).flatMap (Fr4.tr false)).map .t) aR rfl rfl rfl rfl (.sl rfl (tR _)) (.sl rfl rfl rfl) rfl rfl rfl (by omega) (by omega) ?_
   refine o1 ?_;refine nl (rl (o1 ?_));refine o1 ?_;refine aY 110 (v3+1) ?_
   refine o1 ?_;refine nl ?_
   exact⟨v3+1,by omega,(by omega),dC h0 [0,4,2] _ _ (by decide) ⟨rfl,eJ (yG (fS (pre:=(yI f k)) (xs:=(aC f.ys (k)).d) (k:=v3) (d:=nilIt) (g:=dW) (by omega))).symm,rfl,rfl,rfl,trivial⟩ ⟨aD rfl,aD (Fx (fS (pre:=(yI f k)) (xs:=(aC f.ys (k)).d) (k:=v3) (d:=nilIt) (g:=dW) (by omega))),aD rfl,rfl⟩⟩
  refine ex (sq (sq (rl (o1 ?_))));refine nl (bl ?_)
  refine lp (γ:=Nat) (fun s=>bP [(1,pN 0),(3,.one (.sl 1 0 (((yJ f k)++((aC f.ys (k)).s.take s).flatMap mC).length))),(6,iN k),(7,pN 2),(11,iN s)]) (fun s=>[(⟨32,0,(cZ false f).map .t⟩:Ob),⟨27,4,(((yJ f k)++((aC f.ys (k)).s.take s).flatMap mC).flatMap (Fr4.tr false)).map .t⟩,⟨55,0,(cV false (aC f.ys (k))).map .t⟩].map some) (fun s=>s<=(aC f.ys (k)).s.length) (fun s=>(aC f.ys (k)).s.length-s) 0 (Nat.zero_le _) (dC h0 [0,1,2] _ _ (by decide) ⟨rfl,eJ (congrArg List.length (show _=((yJ f k)++((aC f.ys (k)).s.take 0).flatMap mC) from by rw[cT (l:=(aC f.ys (k)).d) (by omega),List.take_zero,List.flatMap_nil,List.append_nil];rfl)).symm,rfl,rfl,rfl,trivial⟩ ⟨aD rfl,aD (Cf (show _=((yJ f k)++((aC f.ys (k)).s.take 0).flatMap mC) from by rw[cT (l:=(aC f.ys (k)).d) (by omega),List.take_zero,List.flatMap_nil,List.append_nil];rfl)),aD rfl,rfl⟩) ?_
  rintro v4 hv4;refine sq (sq (rl (o1 ?_)));refine o1 ?_;refine ld ?_;refine o1 ?_;refine o1 ?_;refine nl ?_;refine aV rfl (fun h7=>?_) (fun h7=>?_)
  ·refine sk (sq (bl ?_));have hlv4:=kU (g:=mC) (c:=2) (l:=(aC f.ys (k)).s) (fun _ _=>aX 2) v4
   have hLv4:((yJ f k)++((aC f.ys (k)).s.take v4).flatMap mC).length<=40000:=by rw[cJ];omega
   refine bU [0,2] [15] ?_
   refine dv 0 ?_;refine dv 1 ?_;refine aF 2 ?_;refine dv 3 ?_;refine dv 4 ?_;refine dv 5 ?_
   refine dQ 6 ((aB (aC f.ys (k)).s (v4)).p.tr false) (cM 9 1 fI (aI (by omega)) rfl) ?_
   refine dv 7 ?_;refine aF 8 ?_;refine dv 9 ?_;refine dv 10 ?_;refine dv 11 ?_
   refine dQ 12 ((aB (aC f.ys (k)).s (v4)).q.tr false) (cM 9 5 fI (aI (by omega)) rfl) ?_
   refine dA (key:=3) 13 (by kernel_rfl) rfl rfl aR rfl ⟨rfl,rfl,trivial⟩ ?_
   refine iB (j:=4) (n:=((yJ f k)++((aC f.ys (k)).s.take v4).flatMap mC).length) (l:=(((yJ f k)++((aC f.ys (k)).s.take v4).flatMap mC).flatMap (Fr4.tr false)).map .t) 14 rfl aR rfl rfl rfl (.sl rfl (tR _)) (.sl rfl rfl rfl) rfl rfl (by omega) (by omega) rfl ⟨rfl,rfl,trivial⟩ rfl (by kernel_rfl) rfl ?_
   refine bM 15 ?_
   refine aJ ?_;refine rl (o1 ?_);refine o1 ?_;refine aY 126 (v4+1) ?_
   refine o1 ?_;refine nl ?_
   exact⟨v4+1,by omega,(by omega),dC h0 [0,4,2] _ _ (by decide) ⟨rfl,eJ (yG (fS (pre:=(yJ f k)) (xs:=(aC f.ys (k)).s) (k:=v4) (d:=nilIt) (g:=mC) (by omega))).symm,rfl,rfl,rfl,trivial⟩ ⟨aD rfl,aD (Fx (fS (pre:=(yJ f k)) (xs:=(aC f.ys (k)).s) (k:=v4) (d:=nilIt) (g:=mC) (by omega))),aD rfl,rfl⟩⟩
  refine ex (sq (rl (o1 ?_)));refine nl (bl ?_)
  refine lp (γ:=Nat) (fun s=>bP [(1,pN 0),(3,.one (.sl 1 0 (((wU f k)++((aC f.ys (k)).o.take s).flatMap dW).length))),(6,iN k),(7,pN 2),(12,iN s)]) (fun s=>[(⟨32,0,(cZ false f).map .t⟩:Ob),⟨27,4,(((wU f k)++((aC f.ys (k)).o.take s).flatMap dW).flatMap (Fr4.tr false)).map .t⟩,⟨55,0,(cV false (aC f.ys (k))).map .t⟩].map some) (fun s=>s<=(aC f.ys (k)).o.length) (fun s=>(aC f.ys (k)).o.length-s) 0 (Nat.zero_le _) (dC h0 [0,1,2] _ _ (by decide) ⟨rfl,eJ (congrArg List.length (show _=((wU f k)++((aC f.ys (k)).o.take 0).flatMap dW) from by rw[cT (l:=(aC f.ys (k)).s) (by omega),List.take_zero,List.flatMap_nil,List.append_nil];rfl)).symm,rfl,rfl,rfl,trivial⟩ ⟨aD rfl,aD (Cf (show _=((wU f k)++((aC f.ys (k)).o.take 0).flatMap dW) from by rw[cT (l:=(aC f.ys (k)).s) (by omega),List.take_zero,List.flatMap_nil,List.append_nil];rfl)),aD rfl,rfl⟩) ?_
  rintro v5 hv5;refine sq (sq (rl (o1 ?_)));refine o1 ?_;refine ld ?_;refine o1 ?_;refine o1 ?_;refine nl ?_;refine aV rfl (fun h8=>?_) (fun h8=>?_)
  ·refine sk (sq (bl ?_));have hlv5:=kU (g:=dW) (c:=1) (l:=(aC f.ys (k)).o) (fun _ _=>aX 1) v5
   have hLv5:((wU f k)++((aC f.ys (k)).o.take v5).flatMap dW).length<=40000:=by rw[cJ];omega
   refine rl (o1 ?_);refine o1 ?_;refine ld ?_;(iterate 3 refine o1 ?_)
   refine cX ((aB (aC f.ys (k)).o (v5)).p.tr false) (cM 5 1 gR (aI (by omega)) rfl) ?_
   refine bs 3 ?_
   refine fF (j:=4) (n:=((wU f k)++((aC f.ys (k)).o.take v5).flatMap dW).length) (l:=(((wU f k)++((aC f.ys (k)).o.take v5).flatMap dW).flatMap (Fr4.tr false)).map .t) aR rfl rfl rfl rfl (.sl rfl (tR _)) (.sl rfl rfl rfl) rfl rfl rfl (by omega) (by omega) ?_
   refine o1 ?_;refine nl (rl (o1 ?_));refine o1 ?_;refine aY 148 (v5+1) ?_
   refine o1 ?_;refine nl ?_
   exact⟨v5+1,by omega,(by omega),dC h0 [0,4,2] _ _ (by decide) ⟨rfl,eJ (yG (fS (pre:=(wU f k)) (xs:=(aC f.ys (k)).o) (k:=v5) (d:=nilIt) (g:=dW) (by omega))).symm,rfl,rfl,rfl,trivial⟩ ⟨aD rfl,aD (Fx (fS (pre:=(wU f k)) (xs:=(aC f.ys (k)).o) (k:=v5) (d:=nilIt) (g:=dW) (by omega))),aD rfl,rfl⟩⟩
  refine ex (rl (o1 ?_));refine o1 ?_;refine aY 66 (k+1) ?_
  refine o1 ?_;refine nl ?_
  have hfin:((wU f k)++((aC f.ys (k)).o.take v5).flatMap dW)=(rk f (k+1)):=by rw[cT (l:=(aC f.ys (k)).o) (by omega)];exact WB (by omega)
  exact⟨k+1,by omega,(by omega),dC h0 [0,1] _ _ (by decide) ⟨rfl,eJ (congrArg List.length hfin).symm,rfl,trivial⟩ ⟨aD rfl,aD (Cf hfin),rfl⟩⟩
 refine ex (sq (rl (o1 ?_)));refine o1 ?_;refine nl (rt ?_)
 exact en (.inl rfl) rfl (bB (.one (.sl (trs:=(rk f k).flatMap (Fr4.tr false)) rfl rfl (aBf _) (KY _)))) (by decide) (fun h=>by cases h) (congrArg (fun l:List Fr4=>FV.one (.t (.s true 27 4 l.length (l.flatMap (Fr4.tr false))))) (show(rk f k)=uN f by unfold rk;rw[cT (by omega)];rfl))
theorem OK {f:Fil}(hf:LenF f):aE false Tryz.prog 13 [] [.agg ((cZ false f).map .t)] (aP (.one (.t (.s true 9 1 (wT f).length ((wT f).map sT))))):=by
 refine bD Tryz.func13 Tryz.ntmps13 fun N9 w9 c0 h0=>?_
 have hbr:=hf.brl
 have hcl:=hf.cll
 have hen:=hf.enl
 have hys:=hf.ysl
 refine sq (rl (bx 0 ?_));refine o1 ?_;refine nl (sq (rl (o1 ?_)));refine ld ?_;refine o1 ?_;refine ld ?_;refine bs 1 ?_;refine o1 ?_;refine nl ?_
 refine sq (rl (o1 ?_));refine o1 ?_;refine ld ?_;refine fF (j:=2) (n:=2) aR rfl rfl rfl rfl (.sl rfl rfl) .fz (Ik _) (zZ _) rfl (by omega) (by omega) ?_
 refine o1 ?_;refine nl (sq (sq (rl (o1 ?_))));refine nl (bl ?_)
 refine lp (γ:=Nat) (fun s=>bP [(1,pN 0),(3,.one (.sl 1 0 ((oM f++(f.cl.take s).flatMap gT).length))),(4,iN s)]) (fun s=>[(⟨32,0,(cZ false f).map .t⟩:Ob),⟨9,1,((oM f++(f.cl.take s).flatMap gT).map sT).map .t⟩].map some) (fun s=>s<=f.cl.length) (fun s=>f.cl.length-s) 0 (Nat.zero_le _) (dC h0 [0,2] _ _ (by decide) ⟨rfl,eJ (by rw[List.take_zero,List.flatMap_nil,List.append_nil,oM,cJ];rfl),rfl,trivial⟩ ⟨aD rfl,aD (by rw[List.take_zero,List.flatMap_nil,List.append_nil,oM,List.map_append,List.map_append];rfl),rfl⟩) ?_
 rintro u2 hu2;refine sq (sq (rl (o1 ?_)));refine o1 ?_;refine ld ?_;refine o1 ?_;refine o1 ?_;refine nl ?_;refine aV rfl (fun h1=>?_) (fun h1=>?_)
 ·refine sk (sq (bl ?_));have hln:(oM f++(f.cl.take u2).flatMap gT).length<=1000:=by
   have q1:=kU (g:=gT) (c:=1) (l:=f.cl) (fun _ _=>aX 1) u2
   have q2:=Lw hf
   simp only[sS,oM,cJ,List.length_cons,List.length_nil]at q2⊢;omega
  refine rl (o1 ?_);refine o1 ?_;refine ld ?_;(iterate 3 refine o1 ?_)
  refine cX ([sT (aB f.cl (u2)).s]) (cM 6 0 iH (aI (by omega)) rfl) ?_
  refine bs 2 ?_
  refine fF (j:=3) (n:=(oM f++(f.cl.take u2).flatMap gT).length) (l:=((oM f++(f.cl.take u2).flatMap gT).map sT).map .t) aR rfl rfl rfl rfl (.sl rfl (jF _)) (.sl rfl rfl rfl) rfl rfl rfl (by omega) (by omega) ?_
  refine o1 ?_;refine nl (rl (o1 ?_));refine o1 ?_;refine aY 28 (u2+1) ?_
  refine o1 ?_;refine nl ?_
  exact⟨u2+1,by omega,(by omega),dC h0 [0,3] _ _ (by decide) ⟨rfl,eJ (yG (fS (pre:=oM f) (xs:=f.cl) (k:=u2) (d:=nilIt) (g:=gT) (by omega))).symm,rfl,trivial⟩ ⟨aD rfl,aD (zY (fS (pre:=oM f) (xs:=f.cl) (k:=u2) (d:=nilIt) (g:=gT) (by omega))),rfl⟩⟩
 refine ex (sq (sq (rl (o1 ?_))));refine nl (bl ?_)
 refine lp (γ:=Nat) (fun s=>bP [(1,pN 0),(3,.one (.sl 1 0 ((xk f s).length))),(5,iN s)]) (fun s=>[(⟨32,0,(cZ false f).map .t⟩:Ob),⟨9,1,((xk f s).map sT).map .t⟩].map some) (fun s=>s<=f.ys.length) (fun s=>f.ys.length-s) 0 (Nat.zero_le _) (dC h0 [0,1] _ _ (by decide) ⟨rfl,eJ (congrArg List.length (show _=(xk f 0) from by rw[cT (by omega)];simp[xk,sS])).symm,rfl,trivial⟩ ⟨aD rfl,aD (oL (show _=(xk f 0) from by rw[cT (by omega)];simp[xk,sS])),rfl⟩) ?_
 rintro k hk;refine sq (sq (rl (o1 ?_)));refine o1 ?_;refine ld ?_;refine o1 ?_;refine o1 ?_;refine nl ?_;refine aV rfl (fun h2=>?_) (fun h2=>?_)
 ·refine sk (sq (bl (sq ?_)));have hyl:=hf.ys _ (jB (l:=f.ys) (i:=k) (by omega))
  have hhl:=hyl.hl
  have hbl:=hyl.bl
  have hdl:=hyl.dl
  have hsl:=hyl.sl
  have hol:=hyl.ol
  have hln:=Ly hf k
  have hj:=WC hyl (by omega)
  refine rl (o1 ?_);refine ld ?_;refine o1 ?_;refine o1 ?_
  refine cX ((cV false) (aC f.ys (k))) (cM 6 0 (gE false) (fZ (by omega)) rfl) ?_
  refine al 2 ?_;refine st ?_;refine nl (sq (sq (rl (o1 ?_))));refine nl (bl ?_)
  refine lp (γ:=Nat) (fun s=>bP [(1,pN 0),(3,.one (.sl 1 0 (((xk f k)++((aC f.ys (k)).h.take s).flatMap kH).length))),(5,iN k),(6,pN 2),(7,iN s)]) (fun s=>[(⟨32,0,(cZ false f).map .t⟩:Ob),⟨9,1,(((xk f k)++((aC f.ys (k)).h.take s).flatMap kH).map sT).map .t⟩,⟨55,0,(cV false (aC f.ys (k))).map .t⟩].map some) (fun s=>s<=(aC f.ys (k)).h.length) (fun s=>(aC f.ys (k)).h.length-s) 0 (Nat.zero_le _) (dC h0 [0,1,2] _ _ (by decide) ⟨rfl,eJ (congrArg List.length (show _=((xk f k)++((aC f.ys (k)).h.take 0).flatMap kH) from by rw[List.take_zero,List.flatMap_nil,List.append_nil])).symm,rfl,rfl,rfl,trivial⟩ ⟨aD rfl,aD (oL (show _=((xk f k)++((aC f.ys (k)).h.take 0).flatMap kH) from by rw[List.take_zero,List.flatMap_nil,List.append_nil])),aD rfl,rfl⟩) ?_
  rintro v1 hv1;refine sq (sq (rl (o1 ?_)));refine o1 ?_;refine ld ?_;refine o1 ?_;refine o1 ?_;refine nl ?_;refine aV rfl (fun h3=>?_) (fun h3=>?_)
  ·refine sk (sq (bl ?_));have hlv1:=kU (g:=kH) (c:=2) (l:=(aC f.ys (k)).h) (fun _ _=>aX 2) v1
   have hLv1:((xk f k)++((aC f.ys (k)).h.take v1).flatMap kH).length<=40000:=by rw[cJ];omega
   refine bU [0,2] [15] ?_
   refine dv 0 ?_;refine dv 1 ?_;refine aF 2 ?_;refine dv 3 ?_;refine dv 4 ?_;refine dv 5 ?_
   refine dQ 6 ([sT (aB (aC f.ys (k)).h (v1)).s]) (cM 6 0 dF (aI (by omega)) rfl) ?_
   refine dv 7 ?_;refine aF 8 ?_;refine dv 9 ?_;refine dv 10 ?_;refine dv 11 ?_
   refine dQ 12 ([sT (aB (aC f.ys (k)).h (v1)).t]) (cM 6 1 dF (aI (by omega)) rfl) ?_
   refine dA (key:=3) 13 (by kernel_rfl) rfl rfl aR rfl ⟨rfl,rfl,trivial⟩ ?_
   refine iB (j:=4) (n:=((xk f k)++((aC f.ys (k)).h.take v1).flatMap kH).length) (l:=(((xk f k)++((aC f.ys (k)).h.take v1).flatMap kH).map sT).map .t) 14 rfl aR rfl rfl rfl (.sl rfl (jF _)) (.sl rfl rfl rfl) rfl rfl (by omega) (by omega) rfl ⟨rfl,rfl,trivial⟩ rfl (by kernel_rfl) rfl ?_
   refine bM 15 ?_
   refine aJ ?_;refine rl (o1 ?_);refine o1 ?_;refine aY 56 (v1+1) ?_
   refine o1 ?_;refine nl ?_
   exact⟨v1+1,by omega,(by omega),dC h0 [0,4,2] _ _ (by decide) ⟨rfl,eJ (yG (fS (pre:=(xk f k)) (xs:=(aC f.ys (k)).h) (k:=v1) (d:=nilIt) (g:=kH) (by omega))).symm,rfl,rfl,rfl,trivial⟩ ⟨aD rfl,aD (zY (fS (pre:=(xk f k)) (xs:=(aC f.ys (k)).h) (k:=v1) (d:=nilIt) (g:=kH) (by omega))),aD rfl,rfl⟩⟩
  refine ex (sq (sq (rl (o1 ?_))));refine nl (bl ?_)
  refine lp (γ:=Nat) (fun s=>bP [(1,pN 0),(3,.one (.sl 1 0 (((yK f k)++((aC f.ys (k)).b.take s).flatMap kH).length))),(5,iN k),(6,pN 2),(8,iN s)]) (fun s=>[(⟨32,0,(cZ false f).map .t⟩:Ob),⟨9,1,(((yK f k)++((aC f.ys (k)).b.take s).flatMap kH).map sT).map .t⟩,⟨55,0,(cV false (aC f.ys (k))).map .t⟩].map some) (fun s=>s<=(aC f.ys (k)).b.length) (fun s=>(aC f.ys (k)).b.length-s) 0 (Nat.zero_le _) (dC h0 [0,1,2] _ _ (by decide) ⟨rfl,eJ (congrArg List.length (show _=((yK f k)++((aC f.ys (k)).b.take 0).flatMap kH) from by rw[cT (l:=(aC f.ys (k)).h) (by omega),List.take_zero,List.flatMap_nil,List.append_nil];rfl)).symm,rfl,rfl,rfl,trivial⟩ ⟨aD rfl,aD (oL (show _=((yK f k)++((aC f.ys (k)).b.take 0).flatMap kH) from by rw[cT (l:=(aC f.ys (k)).h) (by omega),List.take_zero,List.flatMap_nil,List.append_nil];rfl)),aD rfl,rfl⟩) ?_
  rintro v2 hv2;refine sq (sq (rl (o1 ?_)));refine o1 ?_;refine ld ?_;refine o1 ?_;refine o1 ?_;refine nl ?_;refine aV rfl (fun h4=>?_) (fun h4=>?_)
  ·refine sk (sq (bl ?_));have hlv2:=kU (g:=kH) (c:=2) (l:=(aC f.ys (k)).b) (fun _ _=>aX 2) v2
   have hLv2:((yK f k)++((aC f.ys (k)).b.take v2).flatMap kH).length<=40000:=by rw[cJ];omega
   refine bU [0,2] [15] ?_
   refine dv 0 ?_;refine dv 1 ?_;refine aF 2 ?_;refine dv 3 ?_;refine dv 4 ?_;refine dv 5 ?_
   refine dQ 6 ([sT (aB (aC f.ys (k)).b (v2)).s]) (cM 6 0 dF (aI (by omega)) rfl) ?_
   refine dv 7 ?_;refine aF 8 ?_;refine dv 9 ?_;refine dv 10 ?_;refine dv 11 ?_
   refine dQ 12 ([sT (aB (aC f.ys (k)).b (v2)).t]) (cM 6 1 dF (aI (by omega)) rfl) ?_
   refine dA (key:=3) 13 (by kernel_rfl) rfl rfl aR rfl ⟨rfl,rfl,trivial⟩ ?_
   refine iB (j:=4) (n:=((yK f k)++((aC f.ys (k)).b.take v2).flatMap kH).length) (l:=(((yK f k)++((aC f.ys (k)).b.take v2).flatMap kH).map sT).map .t) 14 rfl aR rfl rfl rfl (.sl rfl (jF _)) (.sl rfl rfl rfl) rfl rfl (by omega) (by omega) rfl ⟨rfl,rfl,trivial⟩ rfl (by kernel_rfl) rfl ?_
   refine bM 15 ?_
   refine aJ ?_;refine rl (o1 ?_);refine o1 ?_;refine aY 78 (v2+1) ?_
   refine o1 ?_;refine nl ?_
   exact⟨v2+1,by omega,(by omega),dC h0 [0,4,2] _ _ (by decide) ⟨rfl,eJ (yG (fS (pre:=(yK f k)) (xs:=(aC f.ys (k)).b) (k:=v2) (d:=nilIt) (g:=kH) (by omega))).symm,rfl,rfl,rfl,trivial⟩ ⟨aD rfl,aD (zY (fS (pre:=(yK f k)) (xs:=(aC f.ys (k)).b) (k:=v2) (d:=nilIt) (g:=kH) (by omega))),aD rfl,rfl⟩⟩
  refine ex (sq (sq (rl (o1 ?_))));refine nl (bl ?_)
  refine lp (γ:=Nat) (fun s=>bP [(1,pN 0),(3,.one (.sl 1 0 (((yL f k)++((aC f.ys (k)).d.take s).flatMap rK).length))),(5,iN k),(6,pN 2),(9,iN s)]) (fun s=>[(⟨32,0,(cZ false f).map .t⟩:Ob),⟨9,1,(((yL f k)++((aC f.ys (k)).d.take s).flatMap rK).map sT).map .t⟩,⟨55,0,(cV false (aC f.ys (k))).map .t⟩].map some) (fun s=>s<=(aC f.ys (k)).d.length) (fun s=>(aC f.ys (k)).d.length-s) 0 (Nat.zero_le _) (dC h0 [0,1,2] _ _ (by decide) ⟨rfl,eJ (congrArg List.length (show _=((yL f k)++((aC f.ys (k)).d.take 0).flatMap rK) from by rw[cT (l:=(aC f.ys (k)).b) (by omega),List.take_zero,List.flatMap_nil,List.append_nil];rfl)).symm,rfl,rfl,rfl,trivial⟩ ⟨aD rfl,aD (oL (show _=((yL f k)++((aC f.ys (k)).d.take 0).flatMap rK) from by rw[cT (l:=(aC f.ys (k)).b) (by omega),List.take_zero,List.flatMap_nil,List.append_nil];rfl)),aD rfl,rfl⟩) ?_
  rintro v3 hv3;refine sq (sq (rl (o1 ?_)));refine o1 ?_;refine ld ?_;refine o1 ?_;refine o1 ?_;refine nl ?_;refine aV rfl (fun h5=>?_) (fun h5=>?_)
  ·refine sk (sq (bl (sq (rl (o1 ?_)))));refine ld ?_;refine o1 ?_;refine o1 ?_
   refine cX (kP (aB (aC f.ys (k)).d (v3))) (cM 10 0 lH (aI (by omega)) rfl) ?_
   refine al 3 ?_;refine st ?_;refine nl ?_;have hlv3:=kU (g:=rK) (c:=4) (l:=(aC f.ys (k)).d) (fun _ _=>aX 4) v3
   have hLv3:((yL f k)++((aC f.ys (k)).d.take v3).flatMap rK).length<=40000:=by rw[cJ];omega
   refine rl (o1 ?_);refine o1 ?_;refine ld ?_;refine o1 ?_;refine ld ?_;refine o1 ?_;refine ld ?_;refine o1 ?_;refine ld ?_;refine bs 4 ?_
   refine fF (j:=5) (n:=((yL f k)++((aC f.ys (k)).d.take v3).flatMap rK).length) (l:=(((yL f k)++((aC f.ys (k)).d.take v3).flatMap rK).map sT).map .t) aR rfl rfl rfl rfl (.sl rfl (jF _)) (.sl rfl rfl rfl) rfl rfl rfl (by omega) (by omega) ?_
   refine o1 ?_;refine nl (rl (o1 ?_));refine o1 ?_;refine aY 100 (v3+1) ?_
   refine o1 ?_;refine nl ?_
   exact⟨v3+1,by omega,(by omega),dC h0 [0,5,2] _ _ (by decide) ⟨rfl,eJ (yG (fS (pre:=(yL f k)) (xs:=(aC f.ys (k)).d) (k:=v3) (d:=nilIt) (g:=rK) (by omega))).symm,rfl,rfl,rfl,trivial⟩ ⟨aD rfl,aD (zY (fS (pre:=(yL f k)) (xs:=(aC f.ys (k)).d) (k:=v3) (d:=nilIt) (g:=rK) (by omega))),aD rfl,rfl⟩⟩
  refine ex (sq (sq (rl (o1 ?_))));refine nl (bl ?_)
  refine lp (γ:=Nat) (fun s=>bP [(1,pN 0),(3,.one (.sl 1 0 (((yM f k)++((aC f.ys (k)).s.take s).flatMap gT).length))),(5,iN k),(6,pN 2),(11,iN s)]) (fun s=>[(⟨32,0,(cZ false f).map .t⟩:Ob),⟨9,1,(((yM f k)++((aC f.ys (k)).s.take s).flatMap gT).map sT).map .t⟩,⟨55,0,(cV false (aC f.ys (k))).map .t⟩].map some) (fun s=>s<=(aC f.ys (k)).s.length) (fun s=>(aC f.ys (k)).s.length-s) 0 (Nat.zero_le _) (dC h0 [0,1,2] _ _ (by decide) ⟨rfl,eJ (congrArg List.length (show _=((yM f k)++((aC f.ys (k)).s.take 0).flatMap gT) from by rw[cT (l:=(aC f.ys (k)).d) (by omega),List.take_zero,List.flatMap_nil,List.append_nil];rfl)).symm,rfl,rfl,rfl,trivial⟩ ⟨aD rfl,aD (oL (show _=((yM f k)++((aC f.ys (k)).s.take 0).flatMap gT) from by rw[cT (l:=(aC f.ys (k)).d) (by omega),List.take_zero,List.flatMap_nil,List.append_nil];rfl)),aD rfl,rfl⟩) ?_
  rintro v4 hv4;refine sq (sq (rl (o1 ?_)));refine o1 ?_;refine ld ?_;refine o1 ?_;refine o1 ?_;refine nl ?_;refine aV rfl (fun h6=>?_) (fun h6=>?_)
  ·refine sk (sq (bl ?_));have hlv4:=kU (g:=gT) (c:=1) (l:=(aC f.ys (k)).s) (fun _ _=>aX 1) v4
   have hLv4:((yM f k)++((aC f.ys (k)).s.take v4).flatMap gT).length<=40000:=by rw[cJ];omega
   refine rl (o1 ?_);refine o1 ?_;refine ld ?_;(iterate 3 refine o1 ?_)
   refine cX ([sT (aB (aC f.ys (k)).s (v4)).s]) (cM 9 0 fI (aI (by omega)) rfl) ?_
   refine bs 3 ?_
   refine fF (j:=4) (n:=((yM f k)++((aC f.ys (k)).s.take v4).flatMap gT).length) (l:=(((yM f k)++((aC f.ys (k)).s.take v4).flatMap gT).map sT).map .t) aR rfl rfl rfl rfl (.sl rfl (jF _)) (.sl rfl rfl rfl) rfl rfl rfl (by omega) (by omega) ?_
   refine o1 ?_;refine nl (rl (o1 ?_));refine o1 ?_;refine aY 123 (v4+1) ?_
   refine o1 ?_;refine nl ?_
   exact⟨v4+1,by omega,(by omega),dC h0 [0,4,2] _ _ (by decide) ⟨rfl,eJ (yG (fS (pre:=(yM f k)) (xs:=(aC f.ys (k)).s) (k:=v4) (d:=nilIt) (g:=gT) (by omega))).symm,rfl,rfl,rfl,trivial⟩ ⟨aD rfl,aD (zY (fS (pre:=(yM f k)) (xs:=(aC f.ys (k)).s) (k:=v4) (d:=nilIt) (g:=gT) (by omega))),aD rfl,rfl⟩⟩
  refine ex (sq (rl (o1 ?_)));refine nl (bl ?_)
  refine lp (γ:=Nat) (fun s=>bP [(1,pN 0),(3,.one (.sl 1 0 (((wV f k)++((aC f.ys (k)).o.take s).flatMap gT).length))),(5,iN k),(6,pN 2),(12,iN s)]) (fun s=>[(⟨32,0,(cZ false f).map .t⟩:Ob),⟨9,1,(((wV f k)++((aC f.ys (k)).o.take s).flatMap gT).map sT).map .t⟩,⟨55,0,(cV false (aC f.ys (k))).map .t⟩].map some) (fun s=>s<=(aC f.ys (k)).o.length) (fun s=>(aC f.ys (k)).o.length-s) 0 (Nat.zero_le _) (dC h0 [0,1,2] _ _ (by decide) ⟨rfl,eJ (congrArg List.length (show _=((wV f k)++((aC f.ys (k)).o.take 0).flatMap gT) from by rw[cT (l:=(aC f.ys (k)).s) (by omega),List.take_zero,List.flatMap_nil,List.append_nil];rfl)).symm,rfl,rfl,rfl,trivial⟩ ⟨aD rfl,aD (oL (show _=((wV f k)++((aC f.ys (k)).o.take 0).flatMap gT) from by rw[cT (l:=(aC f.ys (k)).s) (by omega),List.take_zero,List.flatMap_nil,List.append_nil];rfl)),aD rfl,rfl⟩) ?_
  rintro v5 hv5;refine sq (sq (rl (o1 ?_)));refine o1 ?_;refine ld ?_;refine o1 ?_;refine o1 ?_;refine nl ?_;refine aV rfl (fun h7=>?_) (fun h7=>?_)
  ·refine sk (sq (bl ?_));have hlv5:=kU (g:=gT) (c:=1) (l:=(aC f.ys (k)).o) (fun _ _=>aX 1) v5
   have hLv5:((wV f k)++((aC f.ys (k)).o.take v5).flatMap gT).length<=40000:=by rw[cJ];omega
   refine rl (o1 ?_);refine o1 ?_;refine ld ?_;(iterate 3 refine o1 ?_)
   refine cX ([sT (aB (aC f.ys (k)).o (v5)).s]) (cM 5 0 gR (aI (by omega)) rfl) ?_
   refine bs 3 ?_
   refine fF (j:=4) (n:=((wV f k)++((aC f.ys (k)).o.take v5).flatMap gT).length) (l:=(((wV f k)++((aC f.ys (k)).o.take v5).flatMap gT).map sT).map .t) aR rfl rfl rfl rfl (.sl rfl (jF _)) (.sl rfl rfl rfl) rfl rfl rfl (by omega) (by omega) ?_
   refine o1 ?_;refine nl (rl (o1 ?_));refine o1 ?_;refine aY 139 (v5+1) ?_
   refine o1 ?_;refine nl ?_
   exact⟨v5+1,by omega,(by omega),dC h0 [0,4,2] _ _ (by decide) ⟨rfl,eJ (yG (fS (pre:=(wV f k)) (xs:=(aC f.ys (k)).o) (k:=v5) (d:=nilIt) (g:=gT) (by omega))).symm,rfl,rfl,rfl,trivial⟩ ⟨aD rfl,aD (zY (fS (pre:=(wV f k)) (xs:=(aC f.ys (k)).o) (k:=v5) (d:=nilIt) (g:=gT) (by omega))),aD rfl,rfl⟩⟩
  refine ex (rl (o1 ?_));refine o1 ?_;refine aY 44 (k+1) ?_
  refine o1 ?_;refine nl ?_
  have hfin:((wV f k)++((aC f.ys (k)).o.take v5).flatMap gT)=(xk f (k+1)):=by rw[cT (l:=(aC f.ys (k)).o) (by omega)];exact WE (by omega)
  exact⟨k+1,by omega,(by omega),dC h0 [0,1] _ _ (by decide) ⟨rfl,eJ (congrArg List.length hfin).symm,rfl,trivial⟩ ⟨aD rfl,aD (oL hfin),rfl⟩⟩
 refine ex (sq (rl (o1 ?_)));refine o1 ?_;refine nl (rt ?_)
 exact en (.inl rfl) rfl (bB (.one (.sl (trs:=(xk f k).map sT) rfl rfl (Yn _) (Ny _)))) (by decide) (fun h=>by cases h) (congrArg (fun l:List (List Nat)=>FV.one (.t (.s true 9 1 l.length (l.map sT)))) (show(xk f k)=wT f by unfold xk;rw[cT (by omega)];rfl))
end Go.Proofs.YtimiaildfkimfaaGreatDoor
namespace Go.Proofs.YtimiaildfkimfaaGreatDoor
open Go Go.RowKit Go.ChangeShapes
def Reads (P:Program) (t:TypeId) (z:Nat) (T:List Tr->Prop):Prop:=
 P.cellsOf t=z/\∀(H:Type) (enc:TypeId×Value->H) (w:World) (fuel:Nat) (cs:List Value) (x:DataW H×List MemPlace),DataW.trod enc P w 0 (fun _=>true) true fuel t cs=some x->∃l,T l/\l.length=z/\FRL w (Lz w) l cs
theorem Uz {W:World}{N:Nat->Prop}:∀{l l':List Tr}{us us':List Value},FRL W N l us->FRL W N l' us'->FRL W N (l++l') (us++us')
 | [],l',us,us',h,h'=>by simp only[FRL]at h;subst h;exact h'
 | x::l,l',u::us,us',h,h'=>by simp only[FRL,List.cons_append]at*;exact⟨h.1,Uz h.2 h'⟩
 | _::_,_,[],_,h,_=>by simp only[FRL]at h
theorem Va {W:World}{N:Nat->Prop}:∀{l:List Tr}{us:List Value}{j:Nat}{x:Tr},FRL W N l us->l[j]? =some x->∃u,us[j]? =some u/\FR W N x u
 | [],_,_,_,_,h=>by simp at h
 | y::l,u::us,0,x,h,e=>by
  simp only[FRL]at h
  simp at e
  subst e
  exact⟨u,rfl,h.1⟩
 | y::l,u::us,j+1,x,h,e=>by
  simp only[FRL]at h
  exact Va (j:=j) h.2 (by simpa using e)
 | _::_,[],_,_,h,_=>by simp only[FRL]at h
section
variable {P:Program}{t e:TypeId}{k:IntKind}{z:Nat}{T T':List Tr->Prop}
theorem Reads.mono (h:Reads P t z T) (hi:∀l,T l->T' l):Reads P t z T':=⟨h.1,fun H enc w fuel cs x hx=>let ⟨l,a,b⟩:=h.2 H enc w fuel cs x hx;⟨l,hi l a,b⟩⟩
theorem Vb (ht:P.underlying t=some .bool) (hz:P.cellsOf t=1):Reads P t 1 (fun l=>∃b,l=[.v (.bool b)]):=⟨hz,fun H enc w fuel cs x hx=>by
 obtain⟨b,rfl,_⟩:=DataW.trod_bool ht hx
 exact⟨_,⟨b,rfl⟩,rfl,by simp[FRL,FR]⟩⟩
theorem Qi (ht:P.underlying t=some (.int k)) (hz:P.cellsOf t=1):Reads P t 1 (fun l=>∃n,l=[.v (.int k n)]/\k.min<=n/\n<=k.max):=⟨hz,fun H enc w fuel cs x hx=>by
 obtain⟨n,rfl,_,h⟩:=DataW.trod_int ht hx
 simp only[Lit.wf,Bool.and_eq_true,decide_eq_true_eq]at h
 exact⟨_,⟨n,rfl,h⟩,rfl,by simp[FRL,FR]⟩⟩
inductive Flds (P:Program):Nat->List Field->Nat->(List Tr->Prop)->Prop
 | nil {o:Nat}:Flds P o [] 0 (· =[])
 | cons {o z z':Nat}{f:Field}{fs:List Field}{T T':List Tr->Prop}(ho:f.offset=o) (h:Reads P f.type z T) (h':Flds P (o+z) fs z' T'):Flds P o (f::fs) (z+z') (fun l=>∃a b,l=a++b/\T a/\T' b)
theorem Flds.read {H:Type}{enc:TypeId×Value->H}{w:World}{n o:Nat}{fs:List Field}(h:Flds P o fs z T):∀{cs:List Value},o+z<=cs.length->(∀f∈fs,∃x,DataW.trod enc P w 0 (fun _=>true) true n f.type ((cs.drop f.offset).take (P.cellsOf f.type))=some x)->∃l,T l/\l.length=z/\FRL w (Lz w) l ((cs.drop o).take z):=by
 induction h with
 | nil=>exact fun _ _=>⟨[],rfl,rfl,by simp[FRL]⟩
 | @cons o z z' f fs T T' ho hr _ ih=>
  intro cs hl hf
  obtain⟨b,h1,h2,h3⟩:=ih (cs:=cs) (by omega) fun f hm=>hf f (List.mem_cons_of_mem _ hm)
  obtain⟨x,hx⟩:=hf f List.mem_cons_self
  obtain⟨a,g1,g2,g3⟩:=hr.2 H enc w n _ x hx
  rw[ho,hr.1]at g3
  refine⟨a++b,⟨a,b,rfl,g1,h1⟩,by simp[g2,h2],?_⟩
  rw[List.take_add,List.drop_drop]
  exact Uz g3 h3
theorem jG {fs:List Field}{z':Nat}(ht:P.underlying t=some (.struct fs.toArray)) (hz:P.cellsOf t=z) (h:Flds P 0 fs z' T) (e:z'=z:=by rfl):Reads P t z T:=⟨hz,fun H enc w fuel cs x hx=>by
 subst e
 obtain⟨xs,n,_,rfl,hl,hlen,hf⟩:=DataW.trod_struct ht hx
 rw[hz]at hl
 obtain⟨l,h1,h2,h3⟩:=h.read (H:=H) (enc:=enc) (w:=w) (n:=n) (cs:=cs) (by omega) fun f hm=>by
  obtain⟨i,hi⟩:=List.mem_iff_getElem?.1 hm
  have h1:=hf i f (by simpa using hi)
  have h2:i<xs.length:=by
   have:=(List.getElem?_eq_some_iff.1 hi).1
   simp at hlen
   omega
  rw[fV h2]at h1
  exact⟨_,h1⟩
 refine⟨l,h1,h2,?_⟩
 rw[List.drop_zero,cT (by omega)]at h3
 exact h3⟩
theorem Aa (ht:P.underlying t=some (.slice e)) (hz:P.cellsOf t=1) (hz0:0<z) (h:Reads P e z T):Reads P t 1 (fun l=>∃rows:List (List Tr),(∀r∈rows,T r/\r.length=z)/\l=[.s false e z rows.length rows.flatten]):=⟨hz,fun H enc w fuel cs x hx=>by
 have hlen:∀(rows:List (List Tr)),(∀r∈rows,T r/\r.length=z)->rows.flatten.length=rows.length*z:=by
  intro rows
  induction rows with
  | nil=>intro _;simp
  | cons r rows ih=>
   intro hr
   rw[List.flatten_cons,cJ,(hr r List.mem_cons_self).2,ih fun r hm=>hr r (List.mem_cons_of_mem _ hm),List.length_cons,Nat.succ_mul,Nat.add_comm]
 rcases Deep.open_slice ht hx with⟨rfl,_⟩ | ⟨a,len,cap,m,n,D,Pl,rfl,_,hl,hm,hmm,_,hel⟩
 ·refine⟨_,⟨[],fun _ h=>(by cases h),rfl⟩,rfl,?_⟩
  simp only[FRL,FR,and_true]
  exact⟨none,0,rfl,aX _,by omega,by simp,.inl rfl⟩
 have hmc:m=cap:=by simpa using hmm
 rw[h.1]at hel
 have hex:∀i:Nat,∃l:List Tr,i<len->T l/\l.length=z/\∀j y,l[j]? =some y->∃u,w.cell? ((a.add (i*z)).add j)=some u/\FR w (Lz w) y u:=fun i=>by
  by_cases hi:i<len
  ·obtain⟨cs',h1,h2⟩:=hel i (by omega)
   obtain⟨l,g1,g2,g3⟩:=h.2 H enc w n cs' _ h2
   obtain⟨_,h3,h4⟩:=World.cells?_some h1
   refine⟨l,fun _=>⟨g1,g2,fun j y hj=>?_⟩⟩
   obtain⟨u,hu,hy⟩:=Va g3 hj
   have hjl:=(List.getElem?_eq_some_iff.1 hj).1
   exact⟨u,by rw[h4 j (by omega),hu],hy⟩
  exact⟨[],fun h=>absurd h hi⟩
 have hF:=fun i=>Classical.choose_spec (hex i)
 have hrow:∀r∈(List.range len).map (fun i=>Classical.choose (hex i)),T r/\r.length=z:=fun r hr=>by
  obtain⟨i,hi,rfl⟩:=List.mem_map.1 hr
  have:=hF i (List.mem_range.1 hi)
  exact⟨this.1,this.2.1⟩
 refine⟨_,⟨_,hrow,rfl⟩,rfl,?_⟩
 have h5:=hlen _ hrow
 simp only[FRL,and_true,FR]
 refine⟨some a,cap,by simp,by simpa using hl,by unfold maxLen at hm;omega,h5,?_⟩
 rcases Nat.eq_zero_or_pos len with h0 | h0
 ·exact .inl (by simp[h0])
 refine .inr ⟨a,rfl,?_,Ch fun j y hj=>?_⟩
 ·obtain⟨_,g2,g3⟩:=hF 0 h0
  obtain⟨u,hu,_⟩:=g3 0 _ (fV (by omega))
  have:=World.block_lt_of_cell? w ((a.add (0*z)).add 0) hu
  rwa[mR,mR]at this
 have hjl:=(List.getElem?_eq_some_iff.1 hj).1
 rw[h5,dP,List.length_range]at hjl
 have hi:j/z<len:=Nat.div_lt_of_lt_mul (by rw[Nat.mul_comm];exact hjl)
 obtain⟨_,g2,g3⟩:=hF (j/z) hi
 have hz1:=Nat.mod_lt j hz0
 have hget:∀(rows:List (List Tr)),(∀r∈rows,T r/\r.length=z)->∀(i o:Nat) (r:List Tr),rows[i]? =some r->o<z->rows.flatten[i*z+o]? =r[o]? :=by
  intro rows
  induction rows with
  | nil=>intro _ i o r h;simp at h
  | cons r rows ih=>
   intro hr i o r' hi ho
   have hrl:=(hr r List.mem_cons_self).2
   cases i with
   | zero=>
    simp at hi
    subst hi
    rw[Nat.zero_mul,Nat.zero_add,List.flatten_cons,List.getElem?_append_left (by omega)]
   | succ i=>
    rw[List.flatten_cons,List.getElem?_append_right (by rw[Nat.succ_mul];omega),hrl,show(i+1)*z+o-z=i*z+o by rw[Nat.succ_mul];omega]
    exact ih (fun r hm=>hr r (List.mem_cons_of_mem _ hm)) i o r' (by simpa using hi) ho
 have hd:=Nat.div_add_mod j z
 rw[Nat.mul_comm]at hd
 rw[<-hd,hget _ hrow (j/z) (j%z) (Classical.choose (hex (j/z))) (by simp[hi]) hz1]at hj
 obtain⟨u,hu,hy⟩:=g3 _ _ hj
 refine⟨u,?_,hy⟩
 rw[Nat.zero_add]
 have e2:(a.add (j/z*z)).add (j%z)=a.add j:=by rw[De,hd]
 rwa[e2]at hu⟩
theorem yN {α:Type}(f:α->List Tr) (Q:α->Prop):∀{rows:List (List Tr)},(∀r∈rows,∃a,Q a/\r=f a)->∃xs:List α,(∀a∈xs,Q a)/\rows.flatten=xs.flatMap f/\rows.length=xs.length
 | [],_=>⟨[],fun _ h=>(by cases h),rfl,rfl⟩
 | r::rows,h=>by
  obtain⟨a,h1,rfl⟩:=h r List.mem_cons_self
  obtain⟨xs,h2,h3,h4⟩:=yN f Q fun r hm=>h r (List.mem_cons_of_mem _ hm)
  exact⟨a::xs,fun b hb=>(List.mem_cons.1 hb).elim (fun e=>e▸h1) (h2 b),by simp[h3],by simp[h4]⟩
theorem GW (ht:P.underlying t=some (.slice e)) (he:P.underlying e=some (.int .u32)) (hz:P.cellsOf t=1) (hze:P.cellsOf e=1) (hn:e=223):Reads P t 1 (fun l=>∃xs:List Nat,Lim 4294967296 xs/\l=[sU false xs]):=
 (Aa ht hz (by omega) (Qi he hze)).mono fun l ⟨rows,h1,h2⟩=>by
  obtain⟨xs,h3,h4,h5⟩:=yN (fun n:Nat=>[Tr.v (.int .u32 (n:Int))]) (fun n=>n<4294967296) (rows:=rows) fun r hr=>by
   obtain⟨⟨n,rfl,h1,h2⟩,_⟩:=h1 r hr
   have e1:IntKind.u32.min=0:=rfl
   have e2:IntKind.u32.max=4294967295:=rfl
   rw[e1]at h1
   rw[e2]at h2
   exact⟨n.toNat,by omega,by rw[Int.toNat_of_nonneg h1]⟩
  refine⟨xs,h3,?_⟩
  rw[h2,h4,h5,sU,hn]
  have:∀xs:List Nat,xs.flatMap (fun n:Nat=>[Tr.v (.int .u32 (n:Int))])=bF xs:=by
   intro xs
   induction xs with
   | nil=>rfl
   | cons n xs ih=>rw[List.flatMap_cons,ih];rfl
  rw[this]
theorem OL (hb:Reads P t z (fun l=>∃a b,l=a++b/\(∃s,a=[.v (.bool s)])/\∃b' c',b=b'++c'/\(∃xs:List Nat,Lim 4294967296 xs/\b'=[sU false xs])/\c'=[])):Reads P t z (fun l=>∃(s:Bool) (xs:List Nat),Lim 4294967296 xs/\l=[.v (.bool s),sU false xs]):=
 hb.mono fun l ⟨a,b,h1,⟨s,h2⟩,b',c',h3,⟨xs,h4,h5⟩,h6⟩=>⟨s,xs,h4,by rw[h1,h2,h3,h5,h6];rfl⟩
end
def Ab (a:Fr4):Prop:=Lim 4294967296 a.x/\Lim 4294967296 a.y
end Go.Proofs.YtimiaildfkimfaaGreatDoor
namespace Go.Proofs.YtimiaildfkimfaaGreatDoor
open Go Go.ChangeShapes Go.WideShapes Go.ChangeAt Go.RowKit
theorem WG:Tryz.prog.cellsOf 25=2:=by kernel_rfl
theorem OM:Tryz.prog.cellsOf 4=1:=by kernel_rfl
theorem WH:Tryz.prog.cellsOf 223=1:=by kernel_rfl
theorem GX:Tryz.prog.cellsOf 23=1:=by kernel_rfl
theorem CS:Reads Tryz.prog 25 2 (fun l=>∃a:Zi,Lim 4294967296 a.x/\l=ztr false a):=by
 have h1:=Vb Tryz.underlying4 OM
 have h2:=GW Tryz.underlying23 Tryz.underlying223 GX WH rfl
 have h3:=jG Tryz.underlying25 WG (.cons rfl h1 (.cons rfl h2 .nil))
 exact(OL h3).mono fun l ⟨s,xs,h4,h5⟩=>⟨⟨s,xs⟩,h4,h5⟩
theorem Vc {W:World}{N:Nat->Prop}:∀{l:List Tr}{us:List Value},FRL W N l us->ARL W N [] (l.map .t) us
 | [],us,h=>by simpa[FRL,ARL]using h
 | x::l,u::us,h=>by
  simp only[FRL]at h
  simp only[List.map_cons,ARL,AR]
  exact⟨h.1,Vc h.2⟩
 | _::_,[],h=>by simp only[FRL]at h
theorem WI {W:World}{l:List Tr}{cs:Array Value}(h:FRL W (Lz W) l (Value.agg cs).cells.toList):cE W (Lz W) [] (.agg (l.map .t)) (.agg cs):=⟨cs.toList,by simp,Vc (by simpa[Value.cells]using h)⟩
theorem WJ:Tryz.prog.cellsOf 27=4:=by kernel_rfl
theorem mM:Reads Tryz.prog 27 4 (fun l=>∃a:Fr4,Ab a/\l=a.tr false):=
 (jG Tryz.underlying27 WJ (.cons rfl CS (.cons rfl CS .nil))).mono fun l ⟨a,b,h1,⟨z,h2,h3⟩,b',c',h4,⟨y,h5,h6⟩,h7⟩=>⟨⟨z.s,z.x,y.s,y.x⟩,⟨h2,h5⟩,by rw[h1,h3,h4,h6,h7];rfl⟩
theorem ON:Tryz.prog.cellsOf 3=1:=by kernel_rfl
theorem Dt:Reads Tryz.prog 3 1 (fun l=>∃n:Int,(-9223372036854775808<=n/\n<=9223372036854775807)/\l=[.v (.int .i64 n)]):=
 (Qi Tryz.underlying3 ON).mono fun l ⟨n,h1,h2,h3⟩=>⟨n,⟨h2,h3⟩,h1⟩
theorem OO:Tryz.prog.cellsOf 9=1:=by kernel_rfl
theorem WK:Tryz.prog.cellsOf 5=1:=by kernel_rfl
theorem GY:Tryz.prog.cellsOf 4=1:=by kernel_rfl
theorem jN:Reads Tryz.prog 9 1 (fun l=>∃xs:List Nat,pU xs/\l=[sT xs]):=⟨OO,fun H enc w fuel cs x hx=>by
 obtain⟨s,rfl,_,h⟩:=DataW.trod_string Tryz.underlying9 hx
 obtain⟨e,hl⟩:=aBg s
 have h9:(s.data.toList.map UInt8.toNat).length<=9223372036854775807:=by
  rw[dP,Array.length_toList]
  have h8:s.data.size<=maxLen:=h
  unfold maxLen at h8
  omega
 exact⟨_,⟨_,⟨hl,h9⟩,rfl⟩,rfl,by unfold sT;rw[<-e];simp[FRL,FR]⟩⟩
theorem CT:Reads Tryz.prog 5 1 (fun l=>∃n:Nat,n<256/\l=[.v (.int .u8 (n:Int))]):=(Qi Tryz.underlying5 WK).mono fun l ⟨n,h1,h2,h3⟩=>by
 have e1:IntKind.u8.min=0:=rfl
 have e2:IntKind.u8.max=255:=rfl
 rw[e1]at h2
 rw[e2]at h3
 exact⟨n.toNat,by omega,by rw[h1,Int.toNat_of_nonneg h2]⟩
theorem GZ:Reads Tryz.prog 4 1 (fun l=>∃b,l=[.v (.bool b)]):=Vb Tryz.underlying4 GY
structure LimI (x:It):Prop where
 k:x.k<256
 s:pU x.s
 t:pU x.t
 u:pU x.u
 v:pU x.v
 p:Ab x.p
 q:Ab x.q
theorem vN:pU []:=⟨fun _ h=>(by cases h),Nat.zero_le _⟩
theorem Ac:Ab nilF:=⟨fun _ h=>(by cases h),fun _ h=>(by cases h)⟩
theorem sC:LimI nilIt:=⟨by decide,vN,vN,vN,vN,Ac,Ac⟩
theorem vO {c:It->List Tr}{T z ty:Nat}(hu:Tryz.prog.underlying T=some (.slice ty)) (hz:Tryz.prog.cellsOf T=1) (hz0:0<z) (h:Reads Tryz.prog ty z (fun l=>∃x:It,LimI x/\l=c x)):Reads Tryz.prog T 1 (fun l=>∃xs:List It,(∀x∈xs,LimI x)/\l=[fN ty z c xs]):=
 (Aa hu hz hz0 h).mono fun l ⟨rows,h1,h2⟩=>by
  obtain⟨xs,h3,h4,h5⟩:=yN c LimI (rows:=rows) fun r hr=>(h1 r hr).1
  exact⟨xs,h3,by rw[h2,h4,h5];rfl⟩
theorem WN:Tryz.prog.cellsOf 70=8:=by kernel_rfl
theorem WQ:Reads Tryz.prog 70 8 (fun l=>∃x:It,LimI x/\l=tI x):=
 (jG Tryz.underlying70 WN (.cons rfl mM (.cons rfl mM .nil))).mono
  fun l ⟨a1,b1,e1,⟨p,hp,r1⟩,a2,b2,e2,⟨q,hq,r2⟩,e3⟩=>⟨{nilIt with p:=p,q:=q},{sC with p:=hp,q:=hq},by rw[e1,r1,e2,r2,e3,List.append_nil];rfl⟩
theorem WR:Tryz.prog.cellsOf 64=6:=by kernel_rfl
theorem WS:Reads Tryz.prog 64 6 (fun l=>∃x:It,LimI x/\l=nP x):=
 (jG Tryz.underlying64 WR (.cons rfl jN (.cons rfl CT (.cons rfl mM .nil)))).mono
  fun l ⟨a1,b1,e1,⟨s,hs,r1⟩,a2,b2,e2,⟨k,hk,r2⟩,a3,b3,e3,⟨p,hp,r3⟩,e4⟩=>⟨{nilIt with s:=s,k:=k,p:=p},{sC with s:=hs,k:=hk,p:=hp},by rw[e1,r1,e2,r2,e3,r3,e4,List.append_nil];rfl⟩
theorem WT:Tryz.prog.cellsOf 110=6:=by kernel_rfl
theorem WU:Tryz.prog.cellsOf 112=6:=by kernel_rfl
theorem WV:Reads Tryz.prog 110 6 (fun l=>∃x:It,LimI x/\l=fG x):=
 (jG Tryz.underlying110 WT (.cons rfl jN (.cons rfl jN (.cons rfl mM .nil)))).mono
  fun l ⟨a1,b1,e1,⟨s,hs,r1⟩,a2,b2,e2,⟨t,ht,r2⟩,a3,b3,e3,⟨p,hp,r3⟩,e4⟩=>⟨{nilIt with s:=s,t:=t,p:=p},{sC with s:=hs,t:=ht,p:=hp},by rw[e1,r1,e2,r2,e3,r3,e4,List.append_nil];rfl⟩
theorem WW:Reads Tryz.prog 112 6 (fun l=>∃x:It,LimI x/\l=fG x):=
 (jG Tryz.underlying112 WU (.cons rfl jN (.cons rfl jN (.cons rfl mM .nil)))).mono
  fun l ⟨a1,b1,e1,⟨s,hs,r1⟩,a2,b2,e2,⟨t,ht,r2⟩,a3,b3,e3,⟨p,hp,r3⟩,e4⟩=>⟨{nilIt with s:=s,t:=t,p:=p},{sC with s:=hs,t:=ht,p:=hp},by rw[e1,r1,e2,r2,e3,r3,e4,List.append_nil];rfl⟩
theorem WX:Tryz.prog.cellsOf 67=10:=by kernel_rfl
theorem WY:Reads Tryz.prog 67 10 (fun l=>∃x:It,LimI x/\l=kP x):=
 (jG Tryz.underlying67 WX (.cons rfl GZ (.cons rfl jN (.cons rfl CT (.cons rfl jN (.cons rfl jN (.cons rfl jN (.cons rfl mM .nil)))))))).mono
  fun l ⟨a1,b1,e1,⟨b,r1⟩,a2,b2,e2,⟨s,hs,r2⟩,a3,b3,e3,⟨k,hk,r3⟩,a4,b4,e4,⟨t,ht,r4⟩,a5,b5,e5,⟨u,hu,r5⟩,a6,b6,e6,⟨v,hv,r6⟩,a7,b7,e7,⟨p,hp,r7⟩,e8⟩=>⟨⟨b,k,s,t,u,v,p,nilF⟩,⟨hk,hs,ht,hu,hv,hp,Ac⟩,by rw[e1,r1,e2,r2,e3,r3,e4,r4,e5,r5,e6,r6,e7,r7,e8,List.append_nil];rfl⟩
theorem WZ:Tryz.prog.cellsOf 114=9:=by kernel_rfl
theorem XA:Reads Tryz.prog 114 9 (fun l=>∃x:It,LimI x/\l=oV x):=
 (jG Tryz.underlying114 WZ (.cons rfl jN (.cons rfl mM (.cons rfl mM .nil)))).mono
  fun l ⟨a1,b1,e1,⟨s,hs,r1⟩,a2,b2,e2,⟨p,hp,r2⟩,a3,b3,e3,⟨q,hq,r3⟩,e4⟩=>⟨{nilIt with s:=s,p:=p,q:=q},{sC with s:=hs,p:=hp,q:=hq},by rw[e1,r1,e2,r2,e3,r3,e4,List.append_nil];rfl⟩
theorem XB:Tryz.prog.cellsOf 116=5:=by kernel_rfl
theorem XC:Reads Tryz.prog 116 5 (fun l=>∃x:It,LimI x/\l=pF x):=
 (jG Tryz.underlying116 XB (.cons rfl jN (.cons rfl mM .nil))).mono
  fun l ⟨a1,b1,e1,⟨s,hs,r1⟩,a2,b2,e2,⟨p,hp,r2⟩,e3⟩=>⟨{nilIt with s:=s,p:=p},{sC with s:=hs,p:=hp},by rw[e1,r1,e2,r2,e3,List.append_nil];rfl⟩
structure LimYr (y:Yer):Prop where
 n:-9223372036854775808<=y.n/\y.n<=9223372036854775807
 h:∀x∈y.h,LimI x
 b:∀x∈y.b,LimI x
 d:∀x∈y.d,LimI x
 s:∀x∈y.s,LimI x
 o:∀x∈y.o,LimI x
theorem OP:Tryz.prog.cellsOf 49=1:=by kernel_rfl
theorem OQ:Tryz.prog.cellsOf 50=1:=by kernel_rfl
theorem OT:Tryz.prog.cellsOf 51=1:=by kernel_rfl
theorem OU:Tryz.prog.cellsOf 52=1:=by kernel_rfl
theorem OV:Tryz.prog.cellsOf 53=1:=by kernel_rfl
theorem OW:Tryz.prog.cellsOf 22=1:=by kernel_rfl
theorem OX:Tryz.prog.cellsOf 28=1:=by kernel_rfl
theorem XD:Tryz.prog.cellsOf 55=6:=by kernel_rfl
theorem XE:Reads Tryz.prog 55 6 (fun l=>∃y:Yer,LimYr y/\l=cV false y):=
 (jG Tryz.underlying55 XD (.cons rfl Dt (.cons rfl (vO Tryz.underlying49 OP (by omega) WV) (.cons rfl (vO Tryz.underlying50 OQ (by omega) WW) (.cons rfl (vO Tryz.underlying51 OT (by omega) WY) (.cons rfl (vO Tryz.underlying52 OU (by omega) XA) (.cons rfl (vO Tryz.underlying53 OV (by omega) XC) .nil))))))).mono
  fun l ⟨a1,b1,e1,⟨n,hn,r1⟩,a2,b2,e2,⟨h,hh,r2⟩,a3,b3,e3,⟨b,hb,r3⟩,a4,b4,e4,⟨d,hd,r4⟩,a5,b5,e5,⟨s,hs,r5⟩,a6,b6,e6,⟨o,ho,r6⟩,e7⟩=>⟨⟨n,h,b,d,s,o⟩,⟨hn,hh,hb,hd,hs,ho⟩,by rw[e1,r1,e2,r2,e3,r3,e4,r4,e5,r5,e6,r6,e7];rfl⟩
theorem OY:Tryz.prog.cellsOf 30=1:=by kernel_rfl
theorem OZ:Reads Tryz.prog 30 1 (fun l=>∃xs:List Yer,(∀x∈xs,LimYr x)/\l=[xF false xs]):=
 (Aa Tryz.underlying30 OY (by omega) XE).mono fun l ⟨rows,h1,h2⟩=>by
  obtain⟨xs,h3,h4,h5⟩:=yN (cV false) LimYr (rows:=rows) fun r hr=>(h1 r hr).1
  exact⟨xs,h3,by rw[h2,h4,h5];rfl⟩
theorem XF:Tryz.prog.cellsOf 29=1:=by kernel_rfl
theorem HC {l:List (List Nat)}:l.flatMap (fun x=>[sT x])=l.map sT:=by
 induction l with
 | nil=>rfl
 | cons x l ih=>rw[List.flatMap_cons,ih];rfl
theorem XG:Reads Tryz.prog 29 1 (fun l=>∃xs:List (List Nat),(∀x∈xs,pU x)/\l=[yB 9 xs]):=
 (Aa Tryz.underlying29 XF (by omega) jN).mono fun l ⟨rows,h1,h2⟩=>by
  obtain⟨xs,h3,h4,h5⟩:=yN (fun x:List Nat=>[sT x]) pU (rows:=rows) fun r hr=>(h1 r hr).1
  exact⟨xs,h3,by rw[h2,h4,h5,HC];rfl⟩
structure LimFil (f:Fil):Prop where
 nm:pU f.nm
 pa:pU f.pa
 br:∀x∈f.br,LimI x
 th:Ab f.th
 cp:Ab f.cp
 bk:-9223372036854775808<=f.bk/\f.bk<=9223372036854775807
 fw:-9223372036854775808<=f.fw/\f.fw<=9223372036854775807
 it:Ab f.it
 fl:Ab f.fl
 kp:-9223372036854775808<=f.kp/\f.kp<=9223372036854775807
 cl:∀x∈f.cl,LimI x
 en:∀x∈f.en,pU x
 ys:∀x∈f.ys,LimYr x
theorem PA:Tryz.prog.cellsOf 32=25:=by kernel_rfl
theorem PB:Reads Tryz.prog 32 25 (fun l=>∃f:Fil,LimFil f/\l=cZ false f):=
 (jG Tryz.underlying32 PA (.cons rfl jN (.cons rfl jN (.cons rfl (vO Tryz.underlying22 OW (by omega) WQ) (.cons rfl mM (.cons rfl mM (.cons rfl Dt (.cons rfl Dt (.cons rfl mM (.cons rfl mM (.cons rfl Dt (.cons rfl (vO Tryz.underlying28 OX (by omega) WS) (.cons rfl XG (.cons rfl OZ .nil)))))))))))))).mono
  fun l ⟨_,_,e1,⟨nm,h1,r1⟩,_,_,e2,⟨pa,h2,r2⟩,_,_,e3,⟨br,h3,r3⟩,_,_,e4,⟨th,h4,r4⟩,_,_,e5,⟨cp,h5,r5⟩,_,_,e6,⟨bk,h6,r6⟩,_,_,e7,⟨fw,h7,r7⟩,_,_,e8,⟨it,h8,r8⟩,_,_,e9,⟨fl,h9,r9⟩,_,_,f0,⟨kp,g0,s0⟩,_,_,f1,⟨cl,g1,s1⟩,_,_,f2,⟨en,g2,s2⟩,_,_,f3,⟨ys,g3,s3⟩,f4⟩=>⟨⟨nm,pa,br,th,cp,bk,fw,it,fl,kp,cl,en,ys⟩,⟨h1,h2,h3,h4,h5,h6,h7,h8,h9,g0,g1,g2,g3⟩,by rw[e1,r1,e2,r2,e3,r3,e4,r4,e5,r5,e6,r6,e7,r7,e8,r8,e9,r9,f0,s0,f1,s1,f2,s2,f3,s3,f4];rfl⟩
end Go.Proofs.YtimiaildfkimfaaGreatDoor
namespace Go.Proofs.YtimiaildfkimfaaGreatDoor
open Go Go.RowKit
def oZ (a:Fr4):Bool:=decide (a.x.length<=6)&&decide (a.y.length<=6)
def Il (l:List Nat):Bool:=decide (l.length<=70)
def qW (y:Yer):Bool:=decide (y.h.length<=40)&&(decide (y.b.length<=40)&&(decide (y.d.length<=40)&&(decide (y.s.length<=40)&&decide (y.o.length<=40))))
def oN (f:Fil):Bool:=decide (f.br.length<=20)&&(decide (f.cl.length<=70)&&(decide (f.en.length<=260)&&(decide (f.ys.length<=45)&&f.ys.all qW)))
def Ad (f:Fil):Bool:=oN f&&((uN f).all oZ&&(wT f).all Il)
def Fy {α:Type}(p:α->Bool) (l:List α) (d:α) (k:Nat):Prop:=∀j,j<k->p (l.getD j d)=true
theorem Qj {α:Type}{p:α->Bool}{l:List α}{d:α}:Fy p l d 0:=fun _ h=>absurd h (Nat.not_lt_zero _)
theorem Qk {α:Type}{p:α->Bool}{l:List α}{d:α}{k:Nat}(h:Fy p l d k) (h2:p (l.getD k d)=true):Fy p l d (k+1):=fun j hj=>by
 by_cases hk:j=k
 ·rw[hk];exact h2
 exact h j (by omega)
theorem Fz {α:Type}{p:α->Bool}{l:List α}{d:α}{k:Nat}(hk:k=l.length) (h:Fy p l d k):l.all p=true:=List.all_eq_true.2 fun x hx=>by
 obtain⟨j,hj,rfl⟩:=List.getElem_of_mem hx
 have h2:=h j (by omega)
 simpa[hj]using h2
theorem Du {α:Type}{p:α->Bool}{l:List α}{d:α}{k:Nat}(hk:k<l.length) (h:p (l.getD k d)=false):l.all p=false:=by
 rw[Bool.eq_false_iff]
 intro h2
 rw[List.all_eq_true.1 h2 (l.getD k d) (by simp[hk])]at h
 cases h
theorem PC {y:Yer}(h:qW y=true):LenY y:=by
 simp only[qW,Bool.and_eq_true,decide_eq_true_eq]at h
 exact⟨h.1,h.2.1,h.2.2.1,h.2.2.2.1,h.2.2.2.2⟩
theorem Vd {f:Fil}(h:oN f=true):LenF f:=by
 simp only[oN,Bool.and_eq_true,decide_eq_true_eq,List.all_eq_true]at h
 exact⟨h.1,h.2.1,h.2.2.1,h.2.2.2.1,fun y hy=>PC (h.2.2.2.2 y hy)⟩
theorem PD {f:Fil}(h1:f.br.length<=20) (h2:f.cl.length<=70) (h3:f.en.length<=260) (h4:f.ys.length<=45) (h5:f.ys.all qW=true):oN f=true:=by
 simp only[oN,Bool.and_eq_true,decide_eq_true_eq]
 exact⟨h1,h2,h3,h4,h5⟩
theorem uO {f:Fil}(h:oN f=false):false=Ad f:=by rw[Ad,h];rfl
theorem Dv {f:Fil}(h:¬(f.br.length<=20/\f.cl.length<=70/\f.en.length<=260/\f.ys.length<=45)):oN f=false:=by
 rw[Bool.eq_false_iff]
 intro h2
 simp only[oN,Bool.and_eq_true,decide_eq_true_eq]at h2
 exact h ⟨h2.1,h2.2.1,h2.2.2.1,h2.2.2.2.1⟩
theorem vP {f:Fil}{k:Nat}(hk:k<f.ys.length) (h:qW (aC f.ys k)=false):oN f=false:=by
 rw[Bool.eq_false_iff]
 intro h2
 simp only[oN,Bool.and_eq_true,decide_eq_true_eq]at h2
 rw[Du (d:=tJ) hk h]at h2
 exact absurd h2.2.2.2.2 (by decide)
theorem aBh {f:Fil}(h:oN f=true) (h2:(uN f).all oZ=false):false=Ad f:=by rw[Ad,h,h2];rfl
theorem aBi {f:Fil}(h:oN f=true) (h2:(uN f).all oZ=true):(wT f).all Il=Ad f:=by rw[Ad,h,h2];rfl
theorem CU {a:Fr4}(h:¬(a.x.length<=6/\a.y.length<=6)):oZ a=false:=by
 rw[Bool.eq_false_iff]
 intro h2
 simp only[oZ,Bool.and_eq_true,decide_eq_true_eq]at h2
 exact h h2
theorem XH {a:Fr4}(h:a.x.length<=6/\a.y.length<=6):oZ a=true:=by
 simp only[oZ,Bool.and_eq_true,decide_eq_true_eq]
 exact h
theorem PE {y:Yer}(h:y.h.length<=40/\y.b.length<=40/\y.d.length<=40/\y.s.length<=40/\y.o.length<=40):qW y=true:=by
 simp only[qW,Bool.and_eq_true,decide_eq_true_eq]
 exact h
theorem yO {y:Yer}(h:¬(y.h.length<=40/\y.b.length<=40/\y.d.length<=40/\y.s.length<=40/\y.o.length<=40)):qW y=false:=by
 rw[Bool.eq_false_iff]
 intro h2
 simp only[qW,Bool.and_eq_true,decide_eq_true_eq]at h2
 exact h h2
theorem XI {xs:List Fr4}(hl:xs.length<=1000000):aE true Tryz.prog 10 [] [.one (.t (.s false 27 4 xs.length (xs.flatMap (Fr4.tr false))))] (aP (.one (tv (.bool (xs.all oZ))))):=by
 refine bD Tryz.func10 Tryz.ntmps10 fun N9 w9 c0 h0=>?_
 refine sq (rl (o1 ?_));refine nl (sq (sq (rl (o1 ?_))));refine nl (bl ?_)
 refine lp (γ:=Nat) (fun k=>bP [(0,.one (.t (.s false 27 4 xs.length (xs.flatMap (Fr4.tr false))))),(3,iN k)]) (fun k=>([]:List Ob).map some) (fun k=>k<=xs.length/\Fy oZ xs nilF k) (fun k=>xs.length-k) 0 ⟨Nat.zero_le _,Qj⟩ (aH h0 [] rfl) fun k hk=>?_
 refine sq (sq (rl ?_));(iterate 4 refine o1 ?_);refine nl ?_;refine aV rfl (fun h1=>?_) (fun h1=>?_)
 ·refine sk (sq (bl (sq (rl ?_))));(iterate 5 refine o1 ?_)
  refine cX ([sU false (lC xs (k)).x]) (wH (f:=(Fr4.tr false)) (z:=4) (o:=1) (fun _=>rfl) (rV (by omega)) (Kz rfl) rfl) ?_
  (iterate 3 refine o1 ?_);refine WL.split (t:=18) rfl (fun h2=>?_) (fun h2=>?_)
  ·(iterate 8 refine aW ?_);refine o1 ?_;refine nl (eU rfl (sq (rl (o1 ?_))));refine nl (rt ?_)
   exact cG (.inl rfl) rfl ((Du (d:=nilF) (k:=k) (by omega) (show oZ (lC xs (k))=false from CU (by omega))).symm)
  (iterate 5 refine o1 ?_);refine cX ([sU false (lC xs (k)).y]) (wH (f:=(Fr4.tr false)) (z:=4) (o:=3) (fun _=>rfl) (rV (by omega)) (Kz rfl) rfl) ?_
  (iterate 3 refine o1 ?_);refine nl ?_;refine aV rfl (fun h3=>?_) (fun h3=>?_)
  ·refine sq (rl (o1 ?_));refine nl (rt ?_)
   exact cG (.inl rfl) rfl ((Du (d:=nilF) (k:=k) (by omega) (show oZ (lC xs (k))=false from CU (by omega))).symm)
  refine sk (rl (o1 ?_));refine o1 ?_;refine aY 9 (k+1) ?_
  refine o1 ?_;refine nl ?_;exact⟨k+1,by omega,⟨by omega,Qk hk.2 (show oZ (lC xs (k))=true from XH ⟨by omega,by omega⟩)⟩,aH h0 [] rfl⟩
 refine ex (sq (rl (o1 ?_)));refine nl (rt ?_);exact cG (.inl rfl) rfl ((Fz (by omega) hk.2).symm)
theorem HD {xs:List (List Nat)}(hl:xs.length<=1000000):aE true Tryz.prog 12 [] [.one (.t (yB 9 xs))] (aP (.one (tv (.bool (xs.all Il))))):=by
 refine bD Tryz.func12 Tryz.ntmps12 fun N9 w9 c0 h0=>?_
 refine sq (rl (o1 ?_));refine nl (sq (sq (rl (o1 ?_))));refine nl (bl ?_)
 refine lp (γ:=Nat) (fun k=>bP [(0,.one (.t (yB 9 xs))),(3,iN k)]) (fun k=>([]:List Ob).map some) (fun k=>k<=xs.length/\Fy Il xs [] k) (fun k=>xs.length-k) 0 ⟨Nat.zero_le _,Qj⟩ (aH h0 [] rfl) fun k hk=>?_
 refine sq (sq (rl ?_));(iterate 4 refine o1 ?_);refine nl ?_;refine aV rfl (fun h1=>?_) (fun h1=>?_)
 ·refine sk (sq (bl (sq (rl ?_))));(iterate 3 refine o1 ?_);refine cX ([sT (eQ xs (k))]) (nF xs (k:=k) (by omega)) ?_
  refine o1 ?_;refine WL.cast (t:=14) (u':=.int .i64 (((eQ xs (k)).length:Nat):Int)) rfl (congrArg (fun n:Nat=>Value.int .i64 (n:Int)) (aO _)) ?_
  refine o1 ?_;refine nl ?_;refine aV rfl (fun h2=>?_) (fun h2=>?_)
  ·refine sq (rl (o1 ?_));refine nl (rt ?_)
   exact cG (.inl rfl) rfl ((Du (d:=[]) (k:=k) (by omega) (show Il (eQ xs (k))=false from decide_eq_false (by omega))).symm)
  refine sk (rl (o1 ?_));refine o1 ?_;refine aY 9 (k+1) ?_
  refine o1 ?_;refine nl ?_;exact⟨k+1,by omega,⟨by omega,Qk hk.2 (show Il (eQ xs (k))=true from decide_eq_true (by omega))⟩,aH h0 [] rfl⟩
 refine ex (sq (rl (o1 ?_)));refine nl (rt ?_);exact cG (.inl rfl) rfl ((Fz (by omega) hk.2).symm)
theorem CV {f:Fil}(h:LenF f):(uN f).length<=11000:=by
 have h2:=Lx h f.ys.length
 rwa[rk,cT (aX _)]at h2
theorem CW {f:Fil}(h:LenF f):(wT f).length<=20000:=by
 have h2:=Ly h f.ys.length
 rwa[xk,cT (aX _)]at h2
theorem aBj {f:Fil}:aE false Tryz.prog 4 [] [.agg ((cZ false f).map .t)] (aP (.one (tv (.bool (Ad f))))):=by
 refine bD Tryz.func4 Tryz.ntmps4 fun N9 w9 c0 h0=>?_
 refine sq (rl (bx 0 ?_));refine o1 ?_;refine nl (sq (sq (rl (o1 ?_))));refine ld ?_;(iterate 3 refine o1 ?_)
 refine WL.split (t:=9) rfl (fun h1=>?_) (fun h1=>?_)
 ·(iterate 4 refine aW ?_);refine o1 ?_;refine o1 ?_;(iterate 4 refine aW ?_);refine o1 ?_;refine o1 ?_;(iterate 4 refine aW ?_);refine o1 ?_;refine nl (eU rfl (sq ?_))
  refine rl (o1 ?_);refine nl (rt ?_);exact cG (.inl rfl) rfl (uO (Dv (by omega)))
 refine o1 ?_;refine ld ?_;(iterate 4 refine o1 ?_);refine WL.split (t:=15) rfl (fun h2=>?_) (fun h2=>?_)
 ·(iterate 4 refine aW ?_);refine o1 ?_;refine o1 ?_;(iterate 4 refine aW ?_);refine o1 ?_;refine nl (eU rfl (sq (rl (o1 ?_))));refine nl ?_
  refine rt ?_;exact cG (.inl rfl) rfl (uO (Dv (by omega)))
 refine o1 ?_;refine ld ?_;(iterate 4 refine o1 ?_);refine WL.split (t:=21) rfl (fun h3=>?_) (fun h3=>?_)
 ·(iterate 4 refine aW ?_);refine o1 ?_;refine nl (eU rfl (sq (rl (o1 ?_))));refine nl (rt ?_)
  exact cG (.inl rfl) rfl (uO (Dv (by omega)))
 refine o1 ?_;refine ld ?_;(iterate 3 refine o1 ?_);refine nl ?_;refine aV rfl (fun h4=>?_) (fun h4=>?_)
 ·refine sq (rl (o1 ?_));refine nl (rt ?_);exact cG (.inl rfl) rfl (uO (Dv (by omega)))
 refine sk (sq (sq ?_));have b1:f.br.length<=20:=by omega
 have b2:f.cl.length<=70:=by omega
 have b3:f.en.length<=260:=by omega
 have b4:f.ys.length<=45:=by omega
 refine rl (o1 ?_);refine nl (bl ?_)
 refine lp (γ:=Nat) (fun k=>bP [(1,pN 0),(3,iN k)]) (fun k=>[(⟨32,0,(cZ false f).map .t⟩:Ob)].map some) (fun k=>k<=f.ys.length/\Fy qW f.ys tJ k) (fun k=>f.ys.length-k) 0 ⟨Nat.zero_le _,Qj⟩ (aH h0 [0] ⟨aD rfl,rfl⟩) fun k hk=>?_
 refine sq (sq (rl (o1 ?_)));refine o1 ?_;refine ld ?_;refine o1 ?_;refine o1 ?_;refine nl ?_;refine aV rfl (fun h5=>?_) (fun h5=>?_)
 ·refine sk (sq (bl (sq (rl (o1 ?_)))));refine ld ?_;refine o1 ?_;refine o1 ?_
  refine cX ((cV false) (aC f.ys (k))) (cM 6 0 (gE false) (fZ (by omega)) rfl) ?_
  refine al 1 ?_;refine st ?_;refine nl (sq (rl (o1 ?_)));refine ld ?_;(iterate 3 refine o1 ?_);refine WL.split (t:=43) rfl (fun h6=>?_) (fun h6=>?_)
  ·(iterate 4 refine aW ?_);refine o1 ?_;refine o1 ?_;(iterate 4 refine aW ?_);refine o1 ?_;refine o1 ?_;(iterate 4 refine aW ?_);refine o1 ?_;refine o1 ?_
   (iterate 4 refine aW ?_);refine o1 ?_;refine nl (eU rfl (sq (rl (o1 ?_))));refine nl (rt ?_)
   exact cG (.inl rfl) rfl (uO (vP (k:=k) (by omega) (yO (by omega))))
  refine o1 ?_;refine ld ?_;(iterate 4 refine o1 ?_);refine WL.split (t:=49) rfl (fun h7=>?_) (fun h7=>?_)
  ·(iterate 4 refine aW ?_);refine o1 ?_;refine o1 ?_;(iterate 4 refine aW ?_);refine o1 ?_;refine o1 ?_;(iterate 4 refine aW ?_);refine o1 ?_;refine nl (eU rfl ?_)
   refine sq (rl (o1 ?_));refine nl (rt ?_);exact cG (.inl rfl) rfl (uO (vP (k:=k) (by omega) (yO (by omega))))
  refine o1 ?_;refine ld ?_;(iterate 4 refine o1 ?_);refine WL.split (t:=55) rfl (fun h8=>?_) (fun h8=>?_)
  ·(iterate 4 refine aW ?_);refine o1 ?_;refine o1 ?_;(iterate 4 refine aW ?_);refine o1 ?_;refine nl (eU rfl (sq (rl (o1 ?_))));refine nl ?_
   refine rt ?_;exact cG (.inl rfl) rfl (uO (vP (k:=k) (by omega) (yO (by omega))))
  refine o1 ?_;refine ld ?_;(iterate 4 refine o1 ?_);refine WL.split (t:=61) rfl (fun h9=>?_) (fun h9=>?_)
  ·(iterate 4 refine aW ?_);refine o1 ?_;refine nl (eU rfl (sq (rl (o1 ?_))));refine nl (rt ?_)
   exact cG (.inl rfl) rfl (uO (vP (k:=k) (by omega) (yO (by omega))))
  refine o1 ?_;refine ld ?_;(iterate 3 refine o1 ?_);refine nl ?_;refine aV rfl (fun h10=>?_) (fun h10=>?_)
  ·refine sq (rl (o1 ?_));refine nl (rt ?_);exact cG (.inl rfl) rfl (uO (vP (k:=k) (by omega) (yO (by omega))))
  refine sk (rl (o1 ?_));refine o1 ?_;refine aY 33 (k+1) ?_
  refine o1 ?_;refine nl ?_
  exact⟨k+1,by omega,⟨by omega,Qk hk.2 (show qW (aC f.ys (k))=true from PE ⟨by omega,by omega,by omega,by omega,by omega⟩)⟩,aH h0 [0] ⟨aD rfl,rfl⟩⟩
 refine ex (sq ?_);have hB:oN f=true:=PD b1 b2 b3 b4 (Fz (by omega) hk.2)
 have hLF:=Vd hB
 refine rl (ld ?_);refine ca (WF hLF) aA (aM rfl) _ ?_
 refine ca (XI (Nat.le_trans (CV hLF) (by omega))) aA (bC rfl) _ ?_
 refine o1 ?_;refine WL.splitb (t:=70) rfl (fun h11=>?_) (fun h11=>?_)
 ·refine ld ?_;refine ca (OK hLF) aA (aM rfl) _ ?_
  refine ca (HD (Nat.le_trans (CW hLF) (by omega))) aA (bC rfl) _ ?_
  refine o1 ?_;refine o1 ?_;refine nl (rt ?_);exact cG (.inl rfl) rfl (aBi hB h11)
 (iterate 3 refine aW ?_);refine o1 ?_;refine o1 ?_;refine nl (rt ?_);exact cG (.inl rfl) rfl (aBh hB h11)
end Go.Proofs.YtimiaildfkimfaaGreatDoor
