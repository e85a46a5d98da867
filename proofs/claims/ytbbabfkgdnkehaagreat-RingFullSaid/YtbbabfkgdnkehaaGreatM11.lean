/- Part 11 of a proof: V2 to B4. -/
import Derived.Test.YtbbabfkgdnkehaaGreatM8
import Derived.Test.YtbbabfkgdnkehaaGreatM10
import Derived.Test.YtbbabfkgdnkehaaGreatM9
import Derived.Test.YtbbabfkgdnkehaaGreatM5
set_option maxRecDepth 100000
set_option linter.unusedVariables false
set_option linter.unusedSimpArgs false
namespace Go.Proofs.YtbbabfkgdnkehaaGreat
open Go Go.RowKit
theorem Sk {N:Nat}{xs P S Q:List Wv}{a b:Nat}(hx:xs=P++(S++Q)) (ha:P.length=a) (hb:a+S.length=b) (hN:xs.length=N) (hl:N≤1073741823):aD false Tryz.prog 160 [⟨64,18,(xs.flatMap aL).map .t⟩] [.one (.sl 0 0 N),.one (tv (.int .i64 ((a:Nat):Int))),.one (tv (.int .i64 ((b:Nat):Int))),.one (.t (.f 127 [] []))] (Rt [⟨64,18,((P++(dC S++Q)).flatMap aL).map .t⟩] (.tup [])):=by
 refine mQ Tryz.func160 rfl Tryz.ntmps160 rfl aA rfl fun N9 M9 w9 c0 h0=>?_
 have hxl:N=a+S.length+Q.length:=by rw[←hN,hx];simp only[List.length_append];omega
 refine sq ?_;refine rl ?_;refine o1 ?_;refine o1 ?_;refine WL.cast (t:=11) (u':=.int .i64 ((a+1:Nat):Int)) rfl (aC (by omega)) ?_
 refine o1 ?_;refine nl ?_;refine bl ?_
 refine lp (γ:=Nat×List Wv) (fun s=>cA [(0,.one (.sl 0 0 (N))),(1,.one (tv (.int .i64 ((a:Nat):Int)))),(2,.one (tv (.int .i64 ((b:Nat):Int)))),(3,.one (.t (.f 127 [] []))),(8,.one (tv (.int .i64 ((a+s.1:Nat):Int))))]) (fun s=>[(⟨64,18,(s.2.flatMap aL).map .t⟩:Ob)].map some) (fun s=>1≤s.1∧s.2=P++(dC (S.take s.1)++(S.drop s.1++Q))∧s.2.length=N) (fun s=>S.length-s.1) (1,xs) ⟨Nat.le_refl _,(by rw[hx];show _=P++(dC (S.take 1)++(S.drop 1++Q));rw[Xh,←List.append_assoc (S.take 1),List.take_append_drop]),hN⟩ (cK h0 [0] _ _ (by decide) rfl ⟨rfl,rfl,rfl,rfl,rfl,trivial⟩ ⟨aI rfl,rfl⟩) ?_
 rintro⟨t,D⟩ ⟨ht,hD,hDn⟩;dsimp only at ht hD hDn⊢;refine sq ?_;refine sq ?_;refine rl ?_;(iterate 3 refine o1 ?_);refine nl ?_;refine bM rfl (fun h1=>?_) (fun h1=>?_)
 ·refine sk ?_;refine sq ?_;refine bl ?_;refine sq ?_;refine rl ?_;refine o1 ?_;refine o1 ?_;refine nl ?_;refine bl ?_
  have hI0:Ins P S Q D t (a+t):=by have h9:=Ins.start (by omega) hD;rwa[ha]at h9
  refine lp (γ:=Nat×List Wv) (fun s=>cA [(0,.one (.sl 0 0 (N))),(1,.one (tv (.int .i64 ((a:Nat):Int)))),(2,.one (tv (.int .i64 ((b:Nat):Int)))),(3,.one (.t (.f 127 [] []))),(8,.one (tv (.int .i64 ((a+t:Nat):Int)))),(9,.one (tv (.int .i64 ((s.1:Nat):Int))))]) (fun s=>[(⟨64,18,(s.2.flatMap aL).map .t⟩:Ob)].map some) (fun s=>Ins P S Q s.2 t s.1∧s.2.length=N) (fun s=>s.1) (a+t,D) ⟨hI0,hDn⟩ (cK h0 [0] _ _ (by decide) rfl ⟨rfl,rfl,rfl,rfl,rfl,rfl,trivial⟩ ⟨aI rfl,rfl⟩) ?_
  rintro⟨j,E9⟩ ⟨hI,hE9⟩;dsimp only at hI hE9⊢;have hIl:=hI.len
  refine sq ?_;refine sq ?_;refine rd [0] (fun i=>[].contains i) mixed ?_
  refine dv 0 ?_;refine dv 1 ?_;refine dv 2 ?_;refine dv 3 ?_;refine WD.split (t:=21) rfl rfl (fun h2=>?_) (fun h2=>?_)
  ·refine dv 4 ?_;refine dv 5 ?_;refine dv 6 ?_;refine dv 7 ?_
   refine mV 8 (cG (f:=aL) (z:=18) (o:=0) (us:=aL (aB E9 (j))) aX (bN (l:=E9) (i:=j) (by omega)) (Nat.le_of_ble_eq_true rfl) rfl) ?_
   refine dv 9 ?_;refine dv 10 ?_;refine dv 11 ?_;refine WD.cast (t:=29) (u':=.int .i64 ((j-1:Nat):Int)) rfl (aC (by omega)) ?_
   refine dv 12 ?_;refine mV 13 (cG (f:=aL) (z:=18) (o:=0) (us:=aL (aB E9 (j-1))) aX (bN (l:=E9) (i:=j-1) (by omega)) (Nat.le_of_ble_eq_true rfl) rfl) ?_
   refine qW 14 1 [.agg ((aL (aB E9 (j))).map .t),.agg ((aL (aB E9 (j-1))).map .t)] rfl rfl (Pj (x:=(aB E9 (j))) (y:=(aB E9 (j-1)))) Fp ⟨rfl,rfl,rfl⟩ ?_;refine df 15 ?_
   refine df 16 ?_;refine aS ?_;refine bM rfl (fun h3=>?_) (fun h3=>?_)
   ·refine sk ?_;refine sq ?_;refine bl ?_;refine rd [] (fun i=>[17].contains i) mixed ?_
    refine dv 0 ?_;refine dv 1 ?_;refine dv 2 ?_;refine dv 3 ?_;refine dv 4 ?_;refine WD.cast (t:=41) (u':=.int .i64 ((j-1:Nat):Int)) rfl (aC (by omega)) ?_
    refine dv 5 ?_;refine dv 6 ?_;refine dv 7 ?_;refine WD.cast (t:=44) (u':=.int .i64 ((j-1:Nat):Int)) rfl (aC (by omega)) ?_
    refine dv 8 ?_;refine dv 10 ?_;refine dv 11 ?_;refine dv 12 ?_;refine WO.two (i:=9) (j:=13) (by kernel_rfl) ?_ ?_
    ·refine kP 9 (cG (f:=aL) (z:=18) (o:=0) (us:=aL (aB E9 (j-1))) aX (bN (l:=E9) (i:=j-1) (by omega)) (Nat.le_of_ble_eq_true rfl) rfl) ?_
     refine WO.one (by kernel_rfl) (kP 13 (cG (f:=aL) (z:=18) (o:=0) (us:=aL (aB E9 (j))) aX (bN (l:=E9) (i:=j) (by omega)) (Nat.le_of_ble_eq_true rfl) rfl) ?_)
     refine dv 14 ?_
     refine qV 15 (dK (xs:=E9) (k:=j) (x:=(aB E9 (j))) (f:=aL) (z:=18) (o:=0) (x':=(aB E9 (j-1))) (us:=aL (aB E9 (j-1))) aX (bN (l:=E9) (i:=j) (by omega)) (Nat.le_of_ble_eq_true rfl) rfl) (eL (xs:=E9) (k:=j) (f:=aL) (z:=18) (o:=0) (us:=aL (aB E9 (j-1))) aX (by omega) (Nat.le_of_ble_eq_true rfl)) ?_
     refine dv 16 ?_
     refine lV 17 (dK (xs:=(E9.set (j) (aB E9 (j-1)))) (k:=j-1) (x:=(aB (E9.set (j) (aB E9 (j-1))) (j-1))) (f:=aL) (z:=18) (o:=0) (x':=(aB E9 (j))) (us:=aL (aB E9 (j))) aX (bN (l:=(E9.set (j) (aB E9 (j-1)))) (i:=j-1) (by simp only[List.length_set];omega)) (Nat.le_of_ble_eq_true rfl) rfl) (eL (xs:=(E9.set (j) (aB E9 (j-1)))) (k:=j-1) (f:=aL) (z:=18) (o:=0) (us:=aL (aB E9 (j))) aX (by simp only[List.length_set];omega) (Nat.le_of_ble_eq_true rfl)) ?_
     refine aS ?_;refine rl ?_;refine o1 ?_;refine o1 ?_;refine WL.cast (t:=36) (u':=.int .i64 ((j-1:Nat):Int)) rfl (aC (by omega)) ?_
     refine o1 ?_;refine nl ?_
     exact⟨(j-1,((E9.set (j) (aB E9 (j-1))).set (j-1) (aB E9 (j)))),by dsimp only;omega,⟨hI.step (by omega) (kH.1 h3),by simp only[List.length_set];exact hE9⟩,cK h0 [0] _ _ (by decide) rfl ⟨rfl,rfl,rfl,rfl,rfl,rfl,trivial⟩ ⟨aI rfl,rfl⟩⟩
    refine kP 13 (cG (f:=aL) (z:=18) (o:=0) (us:=aL (aB E9 (j))) aX (bN (l:=E9) (i:=j) (by omega)) (Nat.le_of_ble_eq_true rfl) rfl) ?_
    refine WO.one (by kernel_rfl) (kP 9 (cG (f:=aL) (z:=18) (o:=0) (us:=aL (aB E9 (j-1))) aX (bN (l:=E9) (i:=j-1) (by omega)) (Nat.le_of_ble_eq_true rfl) rfl) ?_)
    refine dv 14 ?_
    refine qV 15 (dK (xs:=E9) (k:=j) (x:=(aB E9 (j))) (f:=aL) (z:=18) (o:=0) (x':=(aB E9 (j-1))) (us:=aL (aB E9 (j-1))) aX (bN (l:=E9) (i:=j) (by omega)) (Nat.le_of_ble_eq_true rfl) rfl) (eL (xs:=E9) (k:=j) (f:=aL) (z:=18) (o:=0) (us:=aL (aB E9 (j-1))) aX (by omega) (Nat.le_of_ble_eq_true rfl)) ?_
    refine dv 16 ?_
    refine lV 17 (dK (xs:=(E9.set (j) (aB E9 (j-1)))) (k:=j-1) (x:=(aB (E9.set (j) (aB E9 (j-1))) (j-1))) (f:=aL) (z:=18) (o:=0) (x':=(aB E9 (j))) (us:=aL (aB E9 (j))) aX (bN (l:=(E9.set (j) (aB E9 (j-1)))) (i:=j-1) (by simp only[List.length_set];omega)) (Nat.le_of_ble_eq_true rfl) rfl) (eL (xs:=(E9.set (j) (aB E9 (j-1)))) (k:=j-1) (f:=aL) (z:=18) (o:=0) (us:=aL (aB E9 (j))) aX (by simp only[List.length_set];omega) (Nat.le_of_ble_eq_true rfl)) ?_
    refine aS ?_;refine rl ?_;refine o1 ?_;refine o1 ?_;refine WL.cast (t:=36) (u':=.int .i64 ((j-1:Nat):Int)) rfl (aC (by omega)) ?_
    refine o1 ?_;refine nl ?_
    exact⟨(j-1,((E9.set (j) (aB E9 (j-1))).set (j-1) (aB E9 (j)))),by dsimp only;omega,⟨hI.step (by omega) (kH.1 h3),by simp only[List.length_set];exact hE9⟩,cK h0 [0] _ _ (by decide) rfl ⟨rfl,rfl,rfl,rfl,rfl,rfl,trivial⟩ ⟨aI rfl,rfl⟩⟩
   refine ex ?_;have hD2:=hI.stop (by omega) (.inr (fun h9=>h3 (kH.2 h9)))
   refine rl ?_;refine o1 ?_;refine o1 ?_;refine WL.cast (t:=16) (u':=.int .i64 ((a+t+1:Nat):Int)) rfl (aC (by omega)) ?_
   refine o1 ?_;refine nl ?_;exact⟨(t+1,E9),by dsimp only;omega,⟨by omega,hD2,hE9⟩,cK h0 [0] _ _ (by decide) rfl ⟨rfl,rfl,rfl,rfl,rfl,trivial⟩ ⟨aI rfl,rfl⟩⟩
  refine eI 4 ?_;refine eI 5 ?_;refine eI 6 ?_;refine eI 7 ?_;refine eI 8 ?_;refine eI 9 ?_;refine eI 10 ?_;refine eI 11 ?_;refine eI 12 ?_;refine eI 13 ?_;refine eI 14 ?_
  refine eI 15 ?_;refine dv 16 ?_;refine aS ?_;refine eN rfl ?_;refine ex ?_;have hD2:=hI.stop (by omega) (.inl (by omega))
  refine rl ?_;refine o1 ?_;refine o1 ?_;refine WL.cast (t:=16) (u':=.int .i64 ((a+t+1:Nat):Int)) rfl (aC (by omega)) ?_
  refine o1 ?_;refine nl ?_;exact⟨(t+1,E9),by dsimp only;omega,⟨by omega,hD2,hE9⟩,cK h0 [0] _ _ (by decide) rfl ⟨rfl,rfl,rfl,rfl,rfl,trivial⟩ ⟨aI rfl,rfl⟩⟩
 refine ex ?_;have hfin:D=P++(dC S++Q):=by rw[hD,List.take_of_length_le (by omega),List.drop_of_length_le (by omega),List.nil_append]
 exact gR (lent':=[⟨64,18,((P++(dC S++Q)).flatMap aL).map .t⟩]) (.inr rfl) rfl pU (by decide) (fun _ h=>by cases h) ⟨⟨rfl,rfl⟩,trivial⟩ ⟨congrArg (fun l:List Wv=>some (⟨64,18,(l.flatMap aL).map .t⟩:Ob)) hfin,trivial⟩ ⟨eO _,trivial⟩ (fun h=>by cases h) ⟨rfl,rfl⟩
theorem Po {a b:Nat}:Int.fdiv (((a+b:Nat):Int)) (2^(min (Int.toNat 1) 64))=(((a+b)/2:Nat):Int):=by
 show Int.fdiv _ 2=_
 rw[Int.fdiv_eq_ediv_of_nonneg _ (by omega)]
 omega
set_option maxHeartbeats 4000000 in
theorem BQ (n:Nat):∀{N:Nat}{xs P X Y Q:List Wv}{a m b:Nat}(hx:xs=P++(X++(Y++Q))) (ha:P.length=a) (hm:a+X.length=m) (hb:m+Y.length=b) (hX0:0<X.length) (hY0:0<Y.length) (hX:Srd Wv.y X) (hY:Srd Wv.y Y) (hn:X.length+Y.length≤n) (hN:xs.length=N) (hl:N≤1073741823),aD false Tryz.prog 161 [⟨64,18,(xs.flatMap aL).map .t⟩] [.one (.sl 0 0 N),.one (tv (.int .i64 ((a:Nat):Int))),.one (tv (.int .i64 ((m:Nat):Int))),.one (tv (.int .i64 ((b:Nat):Int))),.one (.t (.f 127 [] []))] (Rt [⟨64,18,((P++(dC (X++Y)++Q)).flatMap aL).map .t⟩] (.tup [])):=by
 induction n with
 | zero=>intros;omega
 | succ n ih=>
  intro N xs P X Y Q a m b hx ha hm hb hX0 hY0 hX hY hn hN hl
  refine mQ Tryz.func161 rfl Tryz.ntmps161 rfl aA rfl fun N9 M9 w9 c0 h0=>?_
  have hxl:N=a+X.length+Y.length+Q.length:=by rw[←hN,hx];simp only[List.length_append];omega
  refine sq ?_;refine sq ?_;refine rl ?_;(iterate 3 refine o1 ?_);refine WL.cast (t:=27) (u':=.int .i64 ((m-a:Nat):Int)) rfl (aC (by omega)) ?_
  refine o1 ?_;refine nl ?_;refine bM rfl (fun h1=>?_) (fun h1=>?_)
  ·refine sq ?_;obtain⟨x,rfl⟩:=List.length_eq_one_iff.1 (show X.length=1 by omega)
   have hm1:m=a+1:=by have h9:([x]:List Wv).length=1:=rfl;omega
   have hmo:∀c d,m≤c→c≤d→d<b→(aB xs d).y<(aB xs a).y→(aB xs c).y<(aB xs a).y:=fun c d h1 h2 h3 h4=>Int.lt_of_le_of_lt (RU hx hY ha hm hb c d h1 h2 h3) h4
   refine rl ?_;refine o1 ?_;refine o1 ?_;refine nl ?_;refine sq ?_;refine rl ?_;refine o1 ?_;refine o1 ?_;refine nl ?_;refine sq ?_;refine bl ?_
   refine lp (γ:=Nat×Nat) (fun s=>cA [(0,.one (.sl 0 0 (N))),(1,.one (tv (.int .i64 ((a:Nat):Int)))),(2,.one (tv (.int .i64 ((m:Nat):Int)))),(3,.one (tv (.int .i64 ((b:Nat):Int)))),(4,.one (.t (.f 127 [] []))),(10,.one (tv (.int .i64 ((s.1:Nat):Int)))),(11,.one (tv (.int .i64 ((s.2:Nat):Int))))]) (fun s=>[(⟨64,18,(xs.flatMap aL).map .t⟩:Ob)].map some) (fun s=>Bis (fun c=>(aB xs c).y<(aB xs a).y) m b s.1 s.2) (fun s=>s.2-s.1) (m,b) (Bis.start (by omega)) (cK h0 [0] _ _ (by decide) rfl ⟨rfl,rfl,rfl,rfl,rfl,rfl,rfl,trivial⟩ ⟨aI rfl,rfl⟩) ?_
   rintro⟨i,j⟩ hB;dsimp only at hB⊢;have hBb:=hB.b
   refine sq ?_;refine sq ?_;refine rl ?_;(iterate 3 refine o1 ?_);refine nl ?_;refine bM rfl (fun h2=>?_) (fun h2=>?_)
   ·refine sk ?_;refine bl ?_;refine sq ?_;refine rl ?_;(iterate 3 refine o1 ?_);refine WL.cast (t:=36) (u':=.int .i64 ((i+j:Nat):Int)) rfl (aC (by omega)) ?_
    refine o1 ?_;refine WL.cast (t:=37) (u':=.int .u64 ((i+j:Nat):Int)) rfl (aC (by omega)) ?_
    refine o1 ?_;refine WL.cast (t:=38) (u':=.int .u64 (((i+j)/2:Nat):Int)) rfl (congrArg (Value.int .u64) Po) ?_;refine o1 ?_
    refine WL.cast (t:=39) (u':=.int .i64 (((i+j)/2:Nat):Int)) rfl (aC (by omega)) ?_
    refine o1 ?_;refine nl ?_;refine sq ?_;refine rd [0] (fun i=>[].contains i) mixed ?_
    refine dv 0 ?_;refine dv 1 ?_;refine dv 2 ?_;refine dv 3 ?_
    refine mV 4 (cG (f:=aL) (z:=18) (o:=0) (us:=aL (aB xs ((i+j)/2))) aX (bN (l:=xs) (i:=(i+j)/2) (by omega)) (Nat.le_of_ble_eq_true rfl) rfl) ?_
    refine dv 5 ?_;refine dv 6 ?_;refine dv 7 ?_
    refine mV 8 (cG (f:=aL) (z:=18) (o:=0) (us:=aL (aB xs (a))) aX (bN (l:=xs) (i:=a) (by omega)) (Nat.le_of_ble_eq_true rfl) rfl) ?_
    refine qW 9 1 [.agg ((aL (aB xs ((i+j)/2))).map .t),.agg ((aL (aB xs (a))).map .t)] rfl rfl (Pj (x:=(aB xs ((i+j)/2))) (y:=(aB xs (a)))) Fp ⟨rfl,rfl,rfl⟩ ?_
    refine df 10 ?_;refine aS ?_;refine bM rfl (fun h3=>?_) (fun h3=>?_)
    ·refine rl ?_;refine o1 ?_;refine o1 ?_;refine WL.cast (t:=52) (u':=.int .i64 (((i+j)/2+1:Nat):Int)) rfl (aC (by omega)) ?_
     refine o1 ?_;refine nl ?_
     exact⟨((i+j)/2+1,j),by dsimp only;omega,hB.up hmo (by omega) (by omega) (kH.1 h3),cK h0 [0] _ _ (by decide) rfl ⟨rfl,rfl,rfl,rfl,rfl,rfl,rfl,trivial⟩ ⟨aI rfl,rfl⟩⟩
    refine rl ?_;refine o1 ?_;refine o1 ?_;refine nl ?_
    exact⟨(i,(i+j)/2),by dsimp only;omega,hB.dn hmo (by omega) (by omega) (fun h9=>h3 (kH.2 h9)),cK h0 [0] _ _ (by decide) rfl ⟨rfl,rfl,rfl,rfl,rfl,rfl,rfl,trivial⟩ ⟨aI rfl,rfl⟩⟩
   refine ex ?_;refine sq ?_;refine sq ?_;refine rl ?_;refine o1 ?_;refine o1 ?_;refine nl ?_;refine bl ?_
   refine lp (γ:=Nat×List Wv) (fun s=>cA [(0,.one (.sl 0 0 (N))),(10,.one (tv (.int .i64 ((i:Nat):Int)))),(13,.one (tv (.int .i64 ((s.1:Nat):Int))))]) (fun s=>[(⟨64,18,(s.2.flatMap aL).map .t⟩:Ob)].map some) (fun s=>(a≤s.1∧s.1+1≤i)∧B1 P x Y Q s.1 s.2∧s.2.length=N) (fun s=>i-s.1) (a,xs) ⟨by dsimp only;omega,(by rw[hx,←ha];exact B1.zero),hN⟩ (cK h0 [0] _ _ (by decide) rfl ⟨rfl,rfl,rfl,trivial⟩ ⟨aI rfl,rfl⟩) ?_
   rintro⟨k,D⟩ ⟨hk,hK,hDn⟩;dsimp only at hk hK hDn⊢;have hKl:=hK.len
   refine sq ?_;refine sq ?_;refine rl ?_;(iterate 3 refine o1 ?_);refine WL.cast (t:=57) (u':=.int .i64 ((i-1:Nat):Int)) rfl (aC (by omega)) ?_
   refine o1 ?_;refine nl ?_;refine bM rfl (fun h4=>?_) (fun h4=>?_)
   ·refine sk ?_;refine sq ?_;refine bl ?_;refine rd [] (fun i=>[17].contains i) mixed ?_
    refine dv 0 ?_;refine dv 1 ?_;refine dv 2 ?_;refine dv 3 ?_;refine dv 4 ?_;refine WD.cast (t:=65) (u':=.int .i64 ((k+1:Nat):Int)) rfl (aC (by omega)) ?_
    refine dv 5 ?_;refine dv 6 ?_;refine dv 7 ?_;refine WD.cast (t:=68) (u':=.int .i64 ((k+1:Nat):Int)) rfl (aC (by omega)) ?_
    refine dv 8 ?_;refine dv 10 ?_;refine dv 11 ?_;refine dv 12 ?_;refine WO.two (i:=9) (j:=13) (by kernel_rfl) ?_ ?_
    ·refine kP 9 (cG (f:=aL) (z:=18) (o:=0) (us:=aL (aB D (k+1))) aX (bN (l:=D) (i:=k+1) (by omega)) (Nat.le_of_ble_eq_true rfl) rfl) ?_
     refine WO.one (by kernel_rfl) (kP 13 (cG (f:=aL) (z:=18) (o:=0) (us:=aL (aB D (k))) aX (bN (l:=D) (i:=k) (by omega)) (Nat.le_of_ble_eq_true rfl) rfl) ?_)
     refine dv 14 ?_
     refine qV 15 (dK (xs:=D) (k:=k) (x:=(aB D (k))) (f:=aL) (z:=18) (o:=0) (x':=(aB D (k+1))) (us:=aL (aB D (k+1))) aX (bN (l:=D) (i:=k) (by omega)) (Nat.le_of_ble_eq_true rfl) rfl) (eL (xs:=D) (k:=k) (f:=aL) (z:=18) (o:=0) (us:=aL (aB D (k+1))) aX (by omega) (Nat.le_of_ble_eq_true rfl)) ?_
     refine dv 16 ?_
     refine lV 17 (dK (xs:=(D.set (k) (aB D (k+1)))) (k:=k+1) (x:=(aB (D.set (k) (aB D (k+1))) (k+1))) (f:=aL) (z:=18) (o:=0) (x':=(aB D (k))) (us:=aL (aB D (k))) aX (bN (l:=(D.set (k) (aB D (k+1)))) (i:=k+1) (by simp only[List.length_set];omega)) (Nat.le_of_ble_eq_true rfl) rfl) (eL (xs:=(D.set (k) (aB D (k+1)))) (k:=k+1) (f:=aL) (z:=18) (o:=0) (us:=aL (aB D (k))) aX (by simp only[List.length_set];omega) (Nat.le_of_ble_eq_true rfl)) ?_
     refine aS ?_;refine rl ?_;refine o1 ?_;refine o1 ?_;refine WL.cast (t:=60) (u':=.int .i64 ((k+1:Nat):Int)) rfl (aC (by omega)) ?_
     refine o1 ?_;refine nl ?_
     exact⟨(k+1,((D.set (k) (aB D (k+1))).set (k+1) (aB D (k)))),by dsimp only;omega,⟨by dsimp only;omega,hK.step (by omega),by simp only[List.length_set];exact hDn⟩,cK h0 [0] _ _ (by decide) rfl ⟨rfl,rfl,rfl,trivial⟩ ⟨aI rfl,rfl⟩⟩
    refine kP 13 (cG (f:=aL) (z:=18) (o:=0) (us:=aL (aB D (k))) aX (bN (l:=D) (i:=k) (by omega)) (Nat.le_of_ble_eq_true rfl) rfl) ?_
    refine WO.one (by kernel_rfl) (kP 9 (cG (f:=aL) (z:=18) (o:=0) (us:=aL (aB D (k+1))) aX (bN (l:=D) (i:=k+1) (by omega)) (Nat.le_of_ble_eq_true rfl) rfl) ?_)
    refine dv 14 ?_
    refine qV 15 (dK (xs:=D) (k:=k) (x:=(aB D (k))) (f:=aL) (z:=18) (o:=0) (x':=(aB D (k+1))) (us:=aL (aB D (k+1))) aX (bN (l:=D) (i:=k) (by omega)) (Nat.le_of_ble_eq_true rfl) rfl) (eL (xs:=D) (k:=k) (f:=aL) (z:=18) (o:=0) (us:=aL (aB D (k+1))) aX (by omega) (Nat.le_of_ble_eq_true rfl)) ?_
    refine dv 16 ?_
    refine lV 17 (dK (xs:=(D.set (k) (aB D (k+1)))) (k:=k+1) (x:=(aB (D.set (k) (aB D (k+1))) (k+1))) (f:=aL) (z:=18) (o:=0) (x':=(aB D (k))) (us:=aL (aB D (k))) aX (bN (l:=(D.set (k) (aB D (k+1)))) (i:=k+1) (by simp only[List.length_set];omega)) (Nat.le_of_ble_eq_true rfl) rfl) (eL (xs:=(D.set (k) (aB D (k+1)))) (k:=k+1) (f:=aL) (z:=18) (o:=0) (us:=aL (aB D (k))) aX (by simp only[List.length_set];omega) (Nat.le_of_ble_eq_true rfl)) ?_
    refine aS ?_;refine rl ?_;refine o1 ?_;refine o1 ?_;refine WL.cast (t:=60) (u':=.int .i64 ((k+1:Nat):Int)) rfl (aC (by omega)) ?_
    refine o1 ?_;refine nl ?_
    exact⟨(k+1,((D.set (k) (aB D (k+1))).set (k+1) (aB D (k)))),by dsimp only;omega,⟨by dsimp only;omega,hK.step (by omega),by simp only[List.length_set];exact hDn⟩,cK h0 [0] _ _ (by decide) rfl ⟨rfl,rfl,rfl,trivial⟩ ⟨aI rfl,rfl⟩⟩
   refine ex ?_;refine rt ?_;have hki:k=i-1:=by omega
   subst hki
   exact gR (lent':=[⟨64,18,((P++(dC ([x]++Y)++Q)).flatMap aL).map .t⟩]) (.inl rfl) rfl pU (by decide) (fun _ h=>by cases h) ⟨⟨rfl,rfl⟩,trivial⟩ ⟨congrArg (fun l:List Wv=>some (⟨64,18,(l.flatMap aL).map .t⟩:Ob)) (RW hx ha hm1 hb hY hB (by omega) hK),trivial⟩ ⟨eO _,trivial⟩ (fun h=>by cases h) ⟨rfl,rfl⟩
  refine sk ?_;refine sq ?_;refine sq ?_;refine rl ?_;(iterate 3 refine o1 ?_);refine WL.cast (t:=79) (u':=.int .i64 ((b-m:Nat):Int)) rfl (aC (by omega)) ?_
  refine o1 ?_;refine nl ?_;refine bM rfl (fun h5=>?_) (fun h5=>?_)
  ·refine sq ?_;obtain⟨x,rfl⟩:=List.length_eq_one_iff.1 (show Y.length=1 by omega)
   have hb1:b=m+1:=by have h9:([x]:List Wv).length=1:=rfl;omega
   have hmo:∀c d,a≤c→c≤d→d<m→¬(aB xs m).y<(aB xs d).y→¬(aB xs m).y<(aB xs c).y:=fun c d h1 h2 h3 h4 h5=>h4 (Int.lt_of_lt_of_le h5 (RX hx hX ha hm c d h1 h2 h3))
   refine rl ?_;refine o1 ?_;refine o1 ?_;refine nl ?_;refine sq ?_;refine rl ?_;refine o1 ?_;refine o1 ?_;refine nl ?_;refine sq ?_;refine bl ?_
   refine lp (γ:=Nat×Nat) (fun s=>cA [(0,.one (.sl 0 0 (N))),(1,.one (tv (.int .i64 ((a:Nat):Int)))),(2,.one (tv (.int .i64 ((m:Nat):Int)))),(3,.one (tv (.int .i64 ((b:Nat):Int)))),(4,.one (.t (.f 127 [] []))),(14,.one (tv (.int .i64 ((s.1:Nat):Int)))),(15,.one (tv (.int .i64 ((s.2:Nat):Int))))]) (fun s=>[(⟨64,18,(xs.flatMap aL).map .t⟩:Ob)].map some) (fun s=>Bis (fun c=>¬(aB xs m).y<(aB xs c).y) a m s.1 s.2) (fun s=>s.2-s.1) (a,m) (Bis.start (by omega)) (cK h0 [0] _ _ (by decide) rfl ⟨rfl,rfl,rfl,rfl,rfl,rfl,rfl,trivial⟩ ⟨aI rfl,rfl⟩) ?_
   rintro⟨i,j⟩ hB;dsimp only at hB⊢;have hBb:=hB.b
   refine sq ?_;refine sq ?_;refine rl ?_;(iterate 3 refine o1 ?_);refine nl ?_;refine bM rfl (fun h6=>?_) (fun h6=>?_)
   ·refine sk ?_;refine bl ?_;refine sq ?_;refine rl ?_;(iterate 3 refine o1 ?_);refine WL.cast (t:=88) (u':=.int .i64 ((i+j:Nat):Int)) rfl (aC (by omega)) ?_
    refine o1 ?_;refine WL.cast (t:=89) (u':=.int .u64 ((i+j:Nat):Int)) rfl (aC (by omega)) ?_
    refine o1 ?_;refine WL.cast (t:=90) (u':=.int .u64 (((i+j)/2:Nat):Int)) rfl (congrArg (Value.int .u64) Po) ?_;refine o1 ?_
    refine WL.cast (t:=91) (u':=.int .i64 (((i+j)/2:Nat):Int)) rfl (aC (by omega)) ?_
    refine o1 ?_;refine nl ?_;refine sq ?_;refine rd [0] (fun i=>[].contains i) mixed ?_
    refine dv 0 ?_;refine dv 1 ?_;refine dv 2 ?_;refine dv 3 ?_
    refine mV 4 (cG (f:=aL) (z:=18) (o:=0) (us:=aL (aB xs (m))) aX (bN (l:=xs) (i:=m) (by omega)) (Nat.le_of_ble_eq_true rfl) rfl) ?_
    refine dv 5 ?_;refine dv 6 ?_;refine dv 7 ?_
    refine mV 8 (cG (f:=aL) (z:=18) (o:=0) (us:=aL (aB xs ((i+j)/2))) aX (bN (l:=xs) (i:=(i+j)/2) (by omega)) (Nat.le_of_ble_eq_true rfl) rfl) ?_
    refine qW 9 1 [.agg ((aL (aB xs (m))).map .t),.agg ((aL (aB xs ((i+j)/2))).map .t)] rfl rfl (Pj (x:=(aB xs (m))) (y:=(aB xs ((i+j)/2)))) Fp ⟨rfl,rfl,rfl⟩ ?_
    refine df 10 ?_;refine WD.split (t:=102) rfl rfl (fun h7=>?_) (fun h7=>?_)
    ·refine df 11 ?_;refine aS ?_;refine eN rfl ?_;refine rl ?_;refine o1 ?_;refine o1 ?_;refine nl ?_
     exact⟨(i,(i+j)/2),by dsimp only;omega,hB.dn hmo (by omega) (by omega) (fun h9=>h9 (kH.1 h7)),cK h0 [0] _ _ (by decide) rfl ⟨rfl,rfl,rfl,rfl,rfl,rfl,rfl,trivial⟩ ⟨aI rfl,rfl⟩⟩
    refine df 11 ?_;refine aS ?_;refine gJ rfl ?_;refine rl ?_;refine o1 ?_;refine o1 ?_
    refine WL.cast (t:=105) (u':=.int .i64 (((i+j)/2+1:Nat):Int)) rfl (aC (by omega)) ?_
    refine o1 ?_;refine nl ?_
    exact⟨((i+j)/2+1,j),by dsimp only;omega,hB.up hmo (by omega) (by omega) (fun h9=>h7 (kH.2 h9)),cK h0 [0] _ _ (by decide) rfl ⟨rfl,rfl,rfl,rfl,rfl,rfl,rfl,trivial⟩ ⟨aI rfl,rfl⟩⟩
   refine ex ?_;refine sq ?_;refine sq ?_;refine rl ?_;refine o1 ?_;refine o1 ?_;refine nl ?_;refine bl ?_
   refine lp (γ:=Nat×List Wv) (fun s=>cA [(0,.one (.sl 0 0 (N))),(14,.one (tv (.int .i64 ((i:Nat):Int)))),(17,.one (tv (.int .i64 ((s.1:Nat):Int))))]) (fun s=>[(⟨64,18,(s.2.flatMap aL).map .t⟩:Ob)].map some) (fun s=>i≤s.1∧B2 P X x Q s.1 s.2∧s.2.length=N) (fun s=>s.1) (m,xs) ⟨by dsimp only;omega,(by rw[hx,←hm,←ha];exact B2.zero),hN⟩ (cK h0 [0] _ _ (by decide) rfl ⟨rfl,rfl,rfl,trivial⟩ ⟨aI rfl,rfl⟩) ?_
   rintro⟨k,D⟩ ⟨hk,hK,hDn⟩;dsimp only at hk hK hDn⊢;have hKl:=hK.len
   refine sq ?_;refine sq ?_;refine rl ?_;(iterate 3 refine o1 ?_);refine nl ?_;refine bM rfl (fun h8=>?_) (fun h8=>?_)
   ·refine sk ?_;refine sq ?_;refine bl ?_;refine rd [] (fun i=>[17].contains i) mixed ?_
    refine dv 0 ?_;refine dv 1 ?_;refine dv 2 ?_;refine dv 3 ?_;refine dv 4 ?_;refine WD.cast (t:=117) (u':=.int .i64 ((k-1:Nat):Int)) rfl (aC (by omega)) ?_
    refine dv 5 ?_;refine dv 6 ?_;refine dv 7 ?_;refine WD.cast (t:=120) (u':=.int .i64 ((k-1:Nat):Int)) rfl (aC (by omega)) ?_
    refine dv 8 ?_;refine dv 10 ?_;refine dv 11 ?_;refine dv 12 ?_;refine WO.two (i:=9) (j:=13) (by kernel_rfl) ?_ ?_
    ·refine kP 9 (cG (f:=aL) (z:=18) (o:=0) (us:=aL (aB D (k-1))) aX (bN (l:=D) (i:=k-1) (by omega)) (Nat.le_of_ble_eq_true rfl) rfl) ?_
     refine WO.one (by kernel_rfl) (kP 13 (cG (f:=aL) (z:=18) (o:=0) (us:=aL (aB D (k))) aX (bN (l:=D) (i:=k) (by omega)) (Nat.le_of_ble_eq_true rfl) rfl) ?_)
     refine dv 14 ?_
     refine qV 15 (dK (xs:=D) (k:=k) (x:=(aB D (k))) (f:=aL) (z:=18) (o:=0) (x':=(aB D (k-1))) (us:=aL (aB D (k-1))) aX (bN (l:=D) (i:=k) (by omega)) (Nat.le_of_ble_eq_true rfl) rfl) (eL (xs:=D) (k:=k) (f:=aL) (z:=18) (o:=0) (us:=aL (aB D (k-1))) aX (by omega) (Nat.le_of_ble_eq_true rfl)) ?_
     refine dv 16 ?_
     refine lV 17 (dK (xs:=(D.set (k) (aB D (k-1)))) (k:=k-1) (x:=(aB (D.set (k) (aB D (k-1))) (k-1))) (f:=aL) (z:=18) (o:=0) (x':=(aB D (k))) (us:=aL (aB D (k))) aX (bN (l:=(D.set (k) (aB D (k-1)))) (i:=k-1) (by simp only[List.length_set];omega)) (Nat.le_of_ble_eq_true rfl) rfl) (eL (xs:=(D.set (k) (aB D (k-1)))) (k:=k-1) (f:=aL) (z:=18) (o:=0) (us:=aL (aB D (k))) aX (by simp only[List.length_set];omega) (Nat.le_of_ble_eq_true rfl)) ?_
     refine aS ?_;refine rl ?_;refine o1 ?_;refine o1 ?_;refine WL.cast (t:=112) (u':=.int .i64 ((k-1:Nat):Int)) rfl (aC (by omega)) ?_
     refine o1 ?_;refine nl ?_
     exact⟨(k-1,((D.set (k) (aB D (k-1))).set (k-1) (aB D (k)))),by dsimp only;omega,⟨by dsimp only;omega,hK.step (by omega),by simp only[List.length_set];exact hDn⟩,cK h0 [0] _ _ (by decide) rfl ⟨rfl,rfl,rfl,trivial⟩ ⟨aI rfl,rfl⟩⟩
    refine kP 13 (cG (f:=aL) (z:=18) (o:=0) (us:=aL (aB D (k))) aX (bN (l:=D) (i:=k) (by omega)) (Nat.le_of_ble_eq_true rfl) rfl) ?_
    refine WO.one (by kernel_rfl) (kP 9 (cG (f:=aL) (z:=18) (o:=0) (us:=aL (aB D (k-1))) aX (bN (l:=D) (i:=k-1) (by omega)) (Nat.le_of_ble_eq_true rfl) rfl) ?_)
    refine dv 14 ?_
    refine qV 15 (dK (xs:=D) (k:=k) (x:=(aB D (k))) (f:=aL) (z:=18) (o:=0) (x':=(aB D (k-1))) (us:=aL (aB D (k-1))) aX (bN (l:=D) (i:=k) (by omega)) (Nat.le_of_ble_eq_true rfl) rfl) (eL (xs:=D) (k:=k) (f:=aL) (z:=18) (o:=0) (us:=aL (aB D (k-1))) aX (by omega) (Nat.le_of_ble_eq_true rfl)) ?_
    refine dv 16 ?_
    refine lV 17 (dK (xs:=(D.set (k) (aB D (k-1)))) (k:=k-1) (x:=(aB (D.set (k) (aB D (k-1))) (k-1))) (f:=aL) (z:=18) (o:=0) (x':=(aB D (k))) (us:=aL (aB D (k))) aX (bN (l:=(D.set (k) (aB D (k-1)))) (i:=k-1) (by simp only[List.length_set];omega)) (Nat.le_of_ble_eq_true rfl) rfl) (eL (xs:=(D.set (k) (aB D (k-1)))) (k:=k-1) (f:=aL) (z:=18) (o:=0) (us:=aL (aB D (k))) aX (by simp only[List.length_set];omega) (Nat.le_of_ble_eq_true rfl)) ?_
    refine aS ?_;refine rl ?_;refine o1 ?_;refine o1 ?_;refine WL.cast (t:=112) (u':=.int .i64 ((k-1:Nat):Int)) rfl (aC (by omega)) ?_
    refine o1 ?_;refine nl ?_
    exact⟨(k-1,((D.set (k) (aB D (k-1))).set (k-1) (aB D (k)))),by dsimp only;omega,⟨by dsimp only;omega,hK.step (by omega),by simp only[List.length_set];exact hDn⟩,cK h0 [0] _ _ (by decide) rfl ⟨rfl,rfl,rfl,trivial⟩ ⟨aI rfl,rfl⟩⟩
   refine ex ?_;refine rt ?_;have hki:k=i:=by omega
   subst hki
   exact gR (lent':=[⟨64,18,((P++(dC (X++[x])++Q)).flatMap aL).map .t⟩]) (.inl rfl) rfl pU (by decide) (fun _ h=>by cases h) ⟨⟨rfl,rfl⟩,trivial⟩ ⟨congrArg (fun l:List Wv=>some (⟨64,18,(l.flatMap aL).map .t⟩:Ob)) (RY hx ha hm hX hB (by omega) hK),trivial⟩ ⟨eO _,trivial⟩ (fun h=>by cases h) ⟨rfl,rfl⟩
  refine sk ?_;refine sq ?_;refine rl ?_;(iterate 3 refine o1 ?_);refine WL.cast (t:=131) (u':=.int .i64 ((a+b:Nat):Int)) rfl (aC (by omega)) ?_
  refine o1 ?_;refine WL.cast (t:=132) (u':=.int .u64 ((a+b:Nat):Int)) rfl (aC (by omega)) ?_
  refine o1 ?_;refine WL.cast (t:=133) (u':=.int .u64 (((a+b)/2:Nat):Int)) rfl (congrArg (Value.int .u64) Po) ?_;refine o1 ?_
  refine WL.cast (t:=134) (u':=.int .i64 (((a+b)/2:Nat):Int)) rfl (aC (by omega)) ?_
  refine o1 ?_;refine nl ?_;refine sq ?_;refine rl ?_;(iterate 3 refine o1 ?_);refine WL.cast (t:=137) (u':=.int .i64 (((a+b)/2+m:Nat):Int)) rfl (aC (by omega)) ?_
  refine o1 ?_;refine nl ?_;refine sq ?_;refine rl ?_;refine o1 ?_;refine o1 ?_;refine nl ?_
  refine md (γ:=Unit) (fun _=>cA [(0,.one (.sl 0 0 (N))),(1,.one (tv (.int .i64 ((a:Nat):Int)))),(2,.one (tv (.int .i64 ((m:Nat):Int)))),(3,.one (tv (.int .i64 ((b:Nat):Int)))),(4,.one (.t (.f 127 [] []))),(18,.one (tv (.int .i64 (((a+b)/2:Nat):Int)))),(19,.one (tv (.int .i64 (((a+b)/2+m:Nat):Int)))),(20,.one (tv (.int .i64 (((if(a+b)/2<m then(a+b)/2+m-b else a):Nat):Int)))),(21,.one (tv (.int .i64 (((if(a+b)/2<m then(a+b)/2 else m):Nat):Int))))]) (fun _=>([⟨64,18,(xs.flatMap aL).map .t⟩]:List Ob).map some) (fun _=>True) ?_ fun _ _=>?_
  ·refine sq ?_;refine rl ?_;(iterate 3 refine o1 ?_);refine nl ?_;refine bM rfl (fun h9=>?_) (fun h9=>?_)
   ·refine sq ?_;refine rl ?_;(iterate 3 refine o1 ?_);refine WL.cast (t:=143) (u':=.int .i64 (((a+b)/2+m-b:Nat):Int)) rfl (aC (by omega)) ?_
    refine o1 ?_;refine nl ?_;refine rl ?_;refine o1 ?_;refine o1 ?_;refine nl ?_
    exact⟨(),trivial,cK h0 [0] _ _ (by decide) rfl ⟨rfl,rfl,rfl,rfl,rfl,rfl,rfl,Gy (by rw[if_pos (by omega)]),Gy (by rw[if_pos (by omega)]),trivial⟩ ⟨aI rfl,rfl⟩⟩
   refine sq ?_;refine rl ?_;refine o1 ?_;refine o1 ?_;refine nl ?_;refine rl ?_;refine o1 ?_;refine o1 ?_;refine nl ?_
   exact⟨(),trivial,cK h0 [0] _ _ (by decide) rfl ⟨rfl,rfl,rfl,rfl,rfl,rfl,rfl,Gy (by rw[if_neg (by omega)]),Gy (by rw[if_neg (by omega)]),trivial⟩ ⟨aI rfl,rfl⟩⟩
  refine sq ?_
  have hlohi:∃lo hi:Nat,lo=(if(a+b)/2<m then(a+b)/2+m-b else a)∧hi=(if(a+b)/2<m then(a+b)/2 else m)∧a≤lo∧lo≤hi∧hi≤m∧(∀c,lo≤c→c<hi→m≤(a+b)/2+m-1-c∧(a+b)/2+m-1-c<b∧c≤(a+b)/2+m-1)∧(lo=a∨(a+b)/2+m-lo=b)∧(hi=m∨(a+b)/2+m-hi=m)∧(∀s,lo≤s→s≤hi→m≤(a+b)/2+m-s∧(a+b)/2+m-s≤b∧s≤(a+b)/2+m):=by
   by_cases h9:(a+b)/2<m
   ·rw[if_pos h9,if_pos h9]
    exact⟨_,_,rfl,rfl,by omega,by omega,by omega,fun c h1 h2=>by omega,.inr (by omega),.inr (by omega),fun s h1 h2=>by omega⟩
   rw[if_neg h9,if_neg h9]
   exact⟨_,_,rfl,rfl,by omega,by omega,by omega,fun c h1 h2=>by omega,.inl rfl,.inl rfl,fun s h1 h2=>by omega⟩
  obtain⟨lo,hi,hlo,hhi,hl1,hl2,hl3,hp1,hl4,hl5,hs1⟩:=hlohi
  rw[←hlo,←hhi];clear hlo hhi;refine rl ?_;refine o1 ?_;refine o1 ?_;refine WL.cast (t:=148) (u':=.int .i64 (((a+b)/2+m-1:Nat):Int)) rfl (aC (by omega)) ?_
  refine o1 ?_;refine nl ?_;refine sq ?_;refine bl ?_
  refine lp (γ:=Nat×Nat) (fun s=>cA [(0,.one (.sl 0 0 (N))),(1,.one (tv (.int .i64 ((a:Nat):Int)))),(2,.one (tv (.int .i64 ((m:Nat):Int)))),(3,.one (tv (.int .i64 ((b:Nat):Int)))),(4,.one (.t (.f 127 [] []))),(18,.one (tv (.int .i64 (((a+b)/2:Nat):Int)))),(19,.one (tv (.int .i64 (((a+b)/2+m:Nat):Int)))),(20,.one (tv (.int .i64 ((s.1:Nat):Int)))),(21,.one (tv (.int .i64 ((s.2:Nat):Int)))),(22,.one (tv (.int .i64 ((((a+b)/2+m-1):Nat):Int))))]) (fun s=>[(⟨64,18,(xs.flatMap aL).map .t⟩:Ob)].map some) (fun s=>Cut xs ((a+b)/2+m-1) lo hi s.1 s.2) (fun s=>s.2-s.1) (lo,hi) (Cut.start hl2) (cK h0 [0] _ _ (by decide) rfl ⟨rfl,rfl,rfl,rfl,rfl,rfl,rfl,rfl,rfl,rfl,trivial⟩ ⟨aI rfl,rfl⟩) ?_
  rintro⟨s,r⟩ hC;dsimp only at hC⊢;have hCb:=hC.b
  have hp9:=hp1 ((s+r)/2)
  refine sq ?_;refine sq ?_;refine rl ?_;(iterate 3 refine o1 ?_);refine nl ?_;refine bM rfl (fun h10=>?_) (fun h10=>?_)
  ·refine sk ?_;refine bl ?_;refine sq ?_;refine rl ?_;(iterate 3 refine o1 ?_);refine WL.cast (t:=154) (u':=.int .i64 ((s+r:Nat):Int)) rfl (aC (by omega)) ?_
   refine o1 ?_;refine WL.cast (t:=155) (u':=.int .u64 ((s+r:Nat):Int)) rfl (aC (by omega)) ?_
   refine o1 ?_;refine WL.cast (t:=156) (u':=.int .u64 (((s+r)/2:Nat):Int)) rfl (congrArg (Value.int .u64) Po) ?_;refine o1 ?_
   refine WL.cast (t:=157) (u':=.int .i64 (((s+r)/2:Nat):Int)) rfl (aC (by omega)) ?_
   refine o1 ?_;refine nl ?_;refine sq ?_;refine rd [0] (fun i=>[].contains i) mixed ?_
   refine dv 0 ?_;refine dv 1 ?_;refine dv 2 ?_;refine dv 3 ?_;refine dv 4 ?_
   refine WD.cast (t:=162) (u':=.int .i64 ((((a+b)/2+m-1)-((s+r)/2):Nat):Int)) rfl (aC (by omega)) ?_
   refine dv 5 ?_
   refine mV 6 (cG (f:=aL) (z:=18) (o:=0) (us:=aL (aB xs (((a+b)/2+m-1)-((s+r)/2)))) aX (bN (l:=xs) (i:=((a+b)/2+m-1)-((s+r)/2)) (by omega)) (Nat.le_of_ble_eq_true rfl) rfl) ?_
   refine dv 7 ?_;refine dv 8 ?_;refine dv 9 ?_
   refine mV 10 (cG (f:=aL) (z:=18) (o:=0) (us:=aL (aB xs ((s+r)/2))) aX (bN (l:=xs) (i:=(s+r)/2) (by omega)) (Nat.le_of_ble_eq_true rfl) rfl) ?_
   refine qW 11 1 [.agg ((aL (aB xs (((a+b)/2+m-1)-((s+r)/2)))).map .t),.agg ((aL (aB xs ((s+r)/2))).map .t)] rfl rfl (Pj (x:=(aB xs (((a+b)/2+m-1)-((s+r)/2)))) (y:=(aB xs ((s+r)/2)))) Fp ⟨rfl,rfl,rfl⟩ ?_
   refine df 12 ?_;refine WD.split (t:=170) rfl rfl (fun h11=>?_) (fun h11=>?_)
   ·refine df 13 ?_;refine aS ?_;refine eN rfl ?_;refine rl ?_;refine o1 ?_;refine o1 ?_;refine nl ?_
    exact⟨(s,(s+r)/2),by dsimp only;omega,hC.dn hx hX hY (by omega) (by omega) (by rw[ha,hm,hb];exact hp1) (by omega) (by omega) (kH.1 h11),cK h0 [0] _ _ (by decide) rfl ⟨rfl,rfl,rfl,rfl,rfl,rfl,rfl,rfl,rfl,rfl,trivial⟩ ⟨aI rfl,rfl⟩⟩
   refine df 13 ?_;refine aS ?_;refine gJ rfl ?_;refine rl ?_;refine o1 ?_;refine o1 ?_
   refine WL.cast (t:=173) (u':=.int .i64 (((s+r)/2+1:Nat):Int)) rfl (aC (by omega)) ?_
   refine o1 ?_;refine nl ?_
   exact⟨((s+r)/2+1,r),by dsimp only;omega,hC.up hx hX hY (by omega) (by omega) (by rw[ha,hm,hb];exact hp1) (by omega) (by omega) (fun h9=>h11 (kH.2 h9)),cK h0 [0] _ _ (by decide) rfl ⟨rfl,rfl,rfl,rfl,rfl,rfl,rfl,rfl,rfl,rfl,trivial⟩ ⟨aI rfl,rfl⟩⟩
  refine ex ?_;refine sq ?_;have hs9:=hs1 s (by omega) (by omega)
  obtain⟨A,B,C,E,hXA,hYC,hA,hCl,hfin⟩:=hC.fin hx hX hY (by omega) (by omega) (by rw[ha,hm,hb];exact hp1) (by omega) (by omega) (by omega) (by omega)
  have hXl:X.length=A.length+B.length:=by rw[hXA,List.length_append]
  have hYl:Y.length=C.length+E.length:=by rw[hYC,List.length_append]
  rw[hXA,hYC]at hx;have hX9:=hX;have hY9:=hY
  rw[hXA]at hX9;rw[hYC]at hY9;clear hl4 hl5 hp9 hp1 hs1 hC;refine rl ?_;(iterate 3 refine o1 ?_)
  refine WL.cast (t:=177) (u':=.int .i64 (((a+b)/2+m-s:Nat):Int)) rfl (aC (by omega)) ?_
  refine o1 ?_;refine nl ?_
  refine md (γ:=Unit) (fun _=>cA [(0,.one (.sl 0 0 (N))),(1,.one (tv (.int .i64 ((a:Nat):Int)))),(3,.one (tv (.int .i64 ((b:Nat):Int)))),(4,.one (.t (.f 127 [] []))),(18,.one (tv (.int .i64 (((a+b)/2:Nat):Int)))),(20,.one (tv (.int .i64 ((s:Nat):Int)))),(24,.one (tv (.int .i64 (((a+b)/2+m-s:Nat):Int))))]) (fun _=>([⟨64,18,((P++(A++(C++(B++(E++Q))))).flatMap aL).map .t⟩]:List Ob).map some) (fun _=>True) ?_ fun _ _=>?_
  ·refine md (γ:=Unit) (fun _=>cA [(0,.one (.sl 0 0 (N))),(1,.one (tv (.int .i64 ((a:Nat):Int)))),(2,.one (tv (.int .i64 ((m:Nat):Int)))),(3,.one (tv (.int .i64 ((b:Nat):Int)))),(4,.one (.t (.f 127 [] []))),(18,.one (tv (.int .i64 (((a+b)/2:Nat):Int)))),(20,.one (tv (.int .i64 ((s:Nat):Int)))),(24,.one (tv (.int .i64 (((a+b)/2+m-s:Nat):Int)))),(185,.one (tv (.bool (decide (((s:Nat):Int)<((m:Nat):Int))&&decide (((m:Nat):Int)<((((a+b)/2+m-s):Nat):Int))))))]) (fun _=>([⟨64,18,(xs.flatMap aL).map .t⟩]:List Ob).map some) (fun _=>True) ?_ fun _ _=>?_
   ·refine rl ?_;(iterate 4 refine o1 ?_);refine WL.split (t:=181) rfl (fun h12=>?_) (fun h12=>?_)
    ·(iterate 4 refine o1 ?_);refine nl ?_
     exact⟨(),trivial,cK h0 [0] _ _ (by decide) rfl ⟨rfl,rfl,rfl,rfl,rfl,rfl,rfl,rfl,Eb (by simp only[decide_eq_false h10,decide_eq_true h12] <;> first | rfl | simp),trivial⟩ ⟨aI rfl,rfl⟩⟩
    (iterate 3 refine cM ?_);refine o1 ?_;refine nl ?_
    exact⟨(),trivial,cK h0 [0] _ _ (by decide) rfl ⟨rfl,rfl,rfl,rfl,rfl,rfl,rfl,rfl,Eb (by simp only[decide_eq_false h10,decide_eq_false h12] <;> first | rfl | simp),trivial⟩ ⟨aI rfl,rfl⟩⟩
   refine nV rfl (fun h13=>?_) (fun h13=>?_)
   ·refine rl ?_;(iterate 5 refine o1 ?_);rw[Bool.and_eq_true,decide_eq_true_eq,decide_eq_true_eq]at h13
    refine cl 1 [0] (PA (a:=s) (m:=m) (b:=((a+b)/2+m-s)) (JH (n:=((a+b)/2+m-s)) hx (by omega) (by omega) (by omega)) (by omega) (by omega) hN hl) PB ⟨aI rfl,rfl⟩ ⟨rfl,rfl,rfl,rfl,rfl,rfl⟩ (ok:=[some ⟨64,18,((P++(A++(C++(B++(E++Q))))).flatMap aL).map .t⟩]) ⟨aI rfl,rfl⟩ ?_
    refine nl ?_;exact⟨(),trivial,cK h0 [0] _ _ (by decide) rfl ⟨rfl,rfl,rfl,rfl,rfl,rfl,rfl,trivial⟩ ⟨aI rfl,rfl⟩⟩
   refine sk ?_
   exact⟨(),trivial,cK h0 [0] _ _ (by decide) rfl ⟨rfl,rfl,rfl,rfl,rfl,rfl,rfl,trivial⟩ ⟨aI (congrArg (fun l:List Wv=>some (⟨64,18,(l.flatMap aL).map .t⟩:Ob)) (JI hx (by rw[Bool.and_eq_false_iff,decide_eq_false_iff_not,decide_eq_false_iff_not]at h13;omega))),rfl⟩⟩
  refine md (γ:=Unit) (fun _=>cA [(0,.one (.sl 0 0 (N))),(3,.one (tv (.int .i64 ((b:Nat):Int)))),(4,.one (.t (.f 127 [] []))),(18,.one (tv (.int .i64 (((a+b)/2:Nat):Int)))),(24,.one (tv (.int .i64 (((a+b)/2+m-s:Nat):Int))))]) (fun _=>([⟨64,18,((P++(dC (A++C)++(B++(E++Q)))).flatMap aL).map .t⟩]:List Ob).map some) (fun _=>True) ?_ fun _ _=>?_
  ·refine md (γ:=Unit) (fun _=>cA [(0,.one (.sl 0 0 (N))),(1,.one (tv (.int .i64 ((a:Nat):Int)))),(3,.one (tv (.int .i64 ((b:Nat):Int)))),(4,.one (.t (.f 127 [] []))),(18,.one (tv (.int .i64 (((a+b)/2:Nat):Int)))),(20,.one (tv (.int .i64 ((s:Nat):Int)))),(24,.one (tv (.int .i64 (((a+b)/2+m-s:Nat):Int)))),(199,.one (tv (.bool (decide (((a:Nat):Int)<((s:Nat):Int))&&decide (((s:Nat):Int)<(((a+b)/2:Nat):Int))))))]) (fun _=>([⟨64,18,((P++(A++(C++(B++(E++Q))))).flatMap aL).map .t⟩]:List Ob).map some) (fun _=>True) ?_ fun _ _=>?_
   ·refine rl ?_;(iterate 4 refine o1 ?_);refine WL.split (t:=195) rfl (fun h14=>?_) (fun h14=>?_)
    ·(iterate 4 refine o1 ?_);refine nl ?_
     exact⟨(),trivial,cK h0 [0] _ _ (by decide) rfl ⟨rfl,rfl,rfl,rfl,rfl,rfl,rfl,Eb (by simp only[decide_eq_false h10,decide_eq_true h14] <;> first | rfl | simp),trivial⟩ ⟨aI rfl,rfl⟩⟩
    (iterate 3 refine cM ?_);refine o1 ?_;refine nl ?_
    exact⟨(),trivial,cK h0 [0] _ _ (by decide) rfl ⟨rfl,rfl,rfl,rfl,rfl,rfl,rfl,Eb (by simp only[decide_eq_false h10,decide_eq_false h14] <;> first | rfl | simp),trivial⟩ ⟨aI rfl,rfl⟩⟩
   refine nV rfl (fun h15=>?_) (fun h15=>?_)
   ·refine rl ?_;(iterate 5 refine o1 ?_);rw[Bool.and_eq_true,decide_eq_true_eq,decide_eq_true_eq]at h15
    refine cl 1 [0] (ih (P:=P) (X:=A) (Y:=C) (Q:=B++(E++Q)) (a:=a) (m:=s) (b:=(a+b)/2) rfl ha (by omega) (by omega) (by omega) (by omega) hX9.l hY9.l (by omega) (by rw[←hN,hx];simp only[List.length_append,gV];omega) hl) Fq ⟨aI rfl,rfl⟩ ⟨rfl,rfl,rfl,rfl,rfl,rfl⟩ (ok:=[some ⟨64,18,((P++(dC (A++C)++(B++(E++Q)))).flatMap aL).map .t⟩]) ⟨aI rfl,rfl⟩ ?_
    refine nl ?_;exact⟨(),trivial,cK h0 [0] _ _ (by decide) rfl ⟨rfl,rfl,rfl,rfl,rfl,trivial⟩ ⟨aI rfl,rfl⟩⟩
   refine sk ?_
   exact⟨(),trivial,cK h0 [0] _ _ (by decide) rfl ⟨rfl,rfl,rfl,rfl,rfl,trivial⟩ ⟨aI (congrArg (fun l:List Wv=>some (⟨64,18,(l.flatMap aL).map .t⟩:Ob)) (show(P++(A++(C++(B++(E++Q)))))=(P++(dC (A++C)++(B++(E++Q)))) by rw[Sl hX9.l hY9.l (by rw[Bool.and_eq_false_iff,decide_eq_false_iff_not,decide_eq_false_iff_not]at h15;omega)];simp)),rfl⟩⟩
  refine md (γ:=Unit) (fun _=>cA [(0,.one (.sl 0 0 (N))),(3,.one (tv (.int .i64 ((b:Nat):Int)))),(4,.one (.t (.f 127 [] []))),(18,.one (tv (.int .i64 (((a+b)/2:Nat):Int)))),(24,.one (tv (.int .i64 (((a+b)/2+m-s:Nat):Int)))),(213,.one (tv (.bool (decide ((((a+b)/2:Nat):Int)<((((a+b)/2+m-s):Nat):Int))&&decide (((((a+b)/2+m-s):Nat):Int)<((b:Nat):Int))))))]) (fun _=>([⟨64,18,((P++(dC (A++C)++(B++(E++Q)))).flatMap aL).map .t⟩]:List Ob).map some) (fun _=>True) ?_ fun _ _=>?_
  ·refine rl ?_;(iterate 4 refine o1 ?_);refine WL.split (t:=209) rfl (fun h16=>?_) (fun h16=>?_)
   ·(iterate 4 refine o1 ?_);refine nl ?_
    exact⟨(),trivial,cK h0 [0] _ _ (by decide) rfl ⟨rfl,rfl,rfl,rfl,rfl,Eb (by simp only[decide_eq_false h10,decide_eq_true h16] <;> first | rfl | simp),trivial⟩ ⟨aI rfl,rfl⟩⟩
   (iterate 3 refine cM ?_);refine o1 ?_;refine nl ?_
   exact⟨(),trivial,cK h0 [0] _ _ (by decide) rfl ⟨rfl,rfl,rfl,rfl,rfl,Eb (by simp only[decide_eq_false h10,decide_eq_false h16] <;> first | rfl | simp),trivial⟩ ⟨aI rfl,rfl⟩⟩
  refine nV rfl (fun h17=>?_) (fun h17=>?_)
  ·refine rl ?_;(iterate 5 refine o1 ?_);rw[Bool.and_eq_true,decide_eq_true_eq,decide_eq_true_eq]at h17
   refine cl 1 [0] (ih (xs:=(P++(dC (A++C)++(B++(E++Q))))) (P:=P++dC (A++C)) (X:=B) (Y:=E) (Q:=Q) (a:=(a+b)/2) (m:=((a+b)/2+m-s)) (b:=b) (by simp) (by rw[List.length_append,gV,List.length_append];omega) (by omega) (by omega) (by omega) (by omega) hX9.r hY9.r (by omega) (by rw[←hN,hx];simp only[List.length_append,gV];omega) hl) Fq ⟨aI rfl,rfl⟩ ⟨rfl,rfl,rfl,rfl,rfl,rfl⟩ (ok:=[some ⟨64,18,(((P++dC (A++C))++(dC (B++E)++Q)).flatMap aL).map .t⟩]) ⟨aI rfl,rfl⟩ ?_
   refine nl ?_
   exact gR (lent':=[⟨64,18,((P++(dC (X++Y)++Q)).flatMap aL).map .t⟩]) (.inr rfl) rfl pU (by decide) (fun _ h=>by cases h) ⟨⟨rfl,rfl⟩,trivial⟩ ⟨congrArg (fun l:List Wv=>some (⟨64,18,(l.flatMap aL).map .t⟩:Ob)) (show((P++dC (A++C))++(dC (B++E)++Q))=(P++(dC (X++Y)++Q)) by rw[hfin];simp),trivial⟩ ⟨eO _,trivial⟩ (fun h=>by cases h) ⟨rfl,rfl⟩
  refine sk ?_
  exact gR (lent':=[⟨64,18,((P++(dC (X++Y)++Q)).flatMap aL).map .t⟩]) (.inr rfl) rfl pU (by decide) (fun _ h=>by cases h) ⟨⟨rfl,rfl⟩,trivial⟩ ⟨congrArg (fun l:List Wv=>some (⟨64,18,(l.flatMap aL).map .t⟩:Ob)) (show(P++(dC (A++C)++(B++(E++Q))))=(P++(dC (X++Y)++Q)) by rw[hfin,Sl (A:=B) hX9.r hY9.r (by rw[Bool.and_eq_false_iff,decide_eq_false_iff_not,decide_eq_false_iff_not]at h17;omega)];simp),trivial⟩ ⟨eO _,trivial⟩ (fun h=>by cases h) ⟨rfl,rfl⟩
theorem EF {N:Nat}{xs:List Wv}(hN:xs.length=N) (hl:N≤1073741823):aD false Tryz.prog 145 [⟨64,18,(xs.flatMap aL).map .t⟩] [.one (.sl 0 0 N),.one (tv (.int .i64 ((N:Nat):Int))),.one (.t (.f 127 [] []))] (Rt [⟨64,18,((dC xs).flatMap aL).map .t⟩] (.tup [])):=by
 refine mQ Tryz.func145 rfl Tryz.ntmps145 rfl aA rfl fun N9 M9 w9 c0 h0=>?_
 refine sq ?_;refine rl ?_;refine o1 ?_;refine nl ?_;refine sq ?_;refine rl ?_;(iterate 3 refine o1 ?_);refine nl ?_;refine sq ?_;refine bl ?_
 refine lp (γ:=Nat×Nat×List Wv) (fun s=>cA [(0,.one (.sl 0 0 (N))),(1,.one (tv (.int .i64 ((N:Nat):Int)))),(2,.one (.t (.f 127 [] []))),(6,.one (tv (.int .i64 ((20:Nat):Int)))),(7,.one (tv (.int .i64 ((s.2.1:Nat):Int)))),(8,.one (tv (.int .i64 ((s.2.1+20:Nat):Int))))]) (fun s=>[(⟨64,18,(s.2.2.flatMap aL).map .t⟩:Ob)].map some) (fun s=>s.2.1=s.1*20∧s.2.1≤N∧Blk9 20 s.1 s.2.2∧Kp Wv.y s.2.2 xs∧s.2.2.length=N) (fun s=>N-s.2.1) (0,0,xs) ⟨rfl,Nat.zero_le _,fun k h9=>absurd h9 (Nat.not_lt_zero k),Kp.refl,hN⟩ (cK h0 [0] _ _ (by decide) rfl ⟨rfl,rfl,rfl,rfl,rfl,rfl,trivial⟩ ⟨aI rfl,rfl⟩) ?_
 rintro⟨t,a,D⟩ ⟨hat,haN,hB,hK,hDn⟩;dsimp only at hat haN hB hK hDn⊢;refine sq ?_;refine sq ?_;refine rl ?_;(iterate 3 refine o1 ?_);refine nl ?_
 refine bM rfl (fun h1=>?_) (fun h1=>?_)
 ·refine sk ?_;refine bl ?_;refine sq ?_;refine rl ?_;(iterate 4 refine o1 ?_);obtain⟨P,S,Q,hD,hP,hS,hQ⟩:=Pp (D:=D) (a:=a) (b:=a+20) (by omega) (by omega)
  subst hD
  refine cl 1 [0] (Sk (P:=P) (S:=S) (Q:=Q) (a:=a) (b:=a+20) rfl hP (by omega) hDn hl) BR ⟨aI rfl,rfl⟩ ⟨rfl,rfl,rfl,rfl,rfl⟩ (ok:=[some ⟨64,18,((P++(dC S++Q)).flatMap aL).map .t⟩]) ⟨aI rfl,rfl⟩ ?_
  refine nl ?_;refine sq ?_;refine rl ?_;refine o1 ?_;refine o1 ?_;refine nl ?_;refine rl ?_;(iterate 3 refine o1 ?_)
  refine WL.cast (t:=22) (u':=.int .i64 ((a+20+20:Nat):Int)) rfl (aC (by omega)) ?_
  refine o1 ?_;refine nl ?_
  exact⟨(t+1,a+20,(P++(dC S++Q))),by dsimp only;omega,⟨by dsimp only;omega,by dsimp only;omega,hB.step (by omega) (by omega),Pq hK,by simp only[List.length_append,gV]at hDn⊢;exact hDn⟩,cK h0 [0] _ _ (by decide) rfl ⟨rfl,rfl,rfl,rfl,rfl,rfl,trivial⟩ ⟨aI rfl,rfl⟩⟩
 refine ex ?_;refine sq ?_;refine rl ?_;(iterate 4 refine o1 ?_);obtain⟨P,S,hD,hP,hS⟩:=tF (D:=D) (a:=a) (by omega)
 have hSl:a+S.length=N:=by rw[hS,hDn];omega
 subst hD;have hDx:P++(S++[])=P++S:=by rw[List.append_nil]
 rw[←hDx]at hB hK hDn⊢
 refine cl 1 [0] (Sk (P:=P) (S:=S) (Q:=[]) (a:=a) (b:=N) rfl hP hSl hDn hl) BR ⟨aI rfl,rfl⟩ ⟨rfl,rfl,rfl,rfl,rfl⟩ (ok:=[some ⟨64,18,((P++(dC S++[])).flatMap aL).map .t⟩]) ⟨aI rfl,rfl⟩ ?_
 refine nl ?_;refine bl ?_;have hA:=hB.all (by omega) (by omega)
 have hK2:=Pq hK
 have hDn2:(P++(dC S++[])).length=N:=by simp only[List.length_append,gV]at hDn⊢;exact hDn
 refine lp (γ:=Nat×List Wv) (fun s=>cA [(0,.one (.sl 0 0 (N))),(1,.one (tv (.int .i64 ((N:Nat):Int)))),(2,.one (.t (.f 127 [] []))),(6,.one (tv (.int .i64 ((s.1:Nat):Int))))]) (fun s=>[(⟨64,18,(s.2.flatMap aL).map .t⟩:Ob)].map some) (fun s=>0<s.1∧All9 s.1 s.2∧Kp Wv.y s.2 xs∧s.2.length=N) (fun s=>N-s.1) (20,(P++(dC S++[]))) ⟨by omega,hA,hK2,hDn2⟩ (cK h0 [0] _ _ (by decide) rfl ⟨rfl,rfl,rfl,rfl,trivial⟩ ⟨aI rfl,rfl⟩) ?_
 rintro⟨bz,Z⟩ ⟨hs0,hA,hK3,hZn⟩;dsimp only at hs0 hA hK3 hZn⊢;refine sq ?_;refine sq ?_;refine rl ?_;(iterate 3 refine o1 ?_);refine nl ?_;refine bM rfl (fun h2=>?_) (fun h2=>?_)
 ·refine sk ?_;refine bl ?_;refine sq ?_;refine rl ?_;refine o1 ?_;refine o1 ?_;refine WL.cast (t:=32) (u':=.int .i64 ((2*bz:Nat):Int)) rfl (aC (by omega)) ?_
  refine o1 ?_;refine o1 ?_;refine nl ?_;refine sq ?_;refine bl ?_
  refine lp (γ:=Nat×Nat×List Wv) (fun s=>cA [(0,.one (.sl 0 0 (N))),(1,.one (tv (.int .i64 ((N:Nat):Int)))),(2,.one (.t (.f 127 [] []))),(6,.one (tv (.int .i64 ((bz:Nat):Int)))),(7,.one (tv (.int .i64 ((s.2.1:Nat):Int)))),(8,.one (tv (.int .i64 ((s.2.1+2*bz:Nat):Int))))]) (fun s=>[(⟨64,18,(s.2.2.flatMap aL).map .t⟩:Ob)].map some) (fun s=>s.2.1=s.1*(2*bz)∧s.2.1≤N∧Mg9 bz s.1 s.2.2∧Kp Wv.y s.2.2 xs∧s.2.2.length=N) (fun s=>N-s.2.1) (0,0,Z) ⟨by dsimp only;omega,Nat.zero_le _,Mg9.start hA,hK3,hZn⟩ (cK h0 [0] _ _ (by decide) rfl ⟨rfl,rfl,rfl,rfl,rfl,Gy (by dsimp only;omega),trivial⟩ ⟨aI rfl,rfl⟩) ?_
  rintro⟨t,a,D⟩ ⟨hat,haN,hM,hK4,hDn⟩;dsimp only at hat haN hM hK4 hDn⊢;refine sq ?_;refine sq ?_;refine rl ?_;(iterate 3 refine o1 ?_);refine nl ?_
  refine bM rfl (fun h3=>?_) (fun h3=>?_)
  ·refine sk ?_;refine bl ?_;refine sq ?_;refine rl ?_;(iterate 5 refine o1 ?_);refine WL.cast (t:=40) (u':=.int .i64 ((a+bz:Nat):Int)) rfl (aC (by omega)) ?_
   refine o1 ?_;refine o1 ?_;obtain⟨P9,W,Q9,hD9,hP9,hW9,hQ9⟩:=Pp (D:=D) (a:=a) (b:=a+2*bz) (by omega) (by omega)
   rw[hDn]at hQ9;obtain⟨X,Y,hW,hX9,hY9⟩:=tF (D:=W) (a:=bz) (by omega)
   rw[hW9]at hY9;have hW8:(X++Y).length=X.length+Y.length:=List.length_append
   subst hW;subst hD9;have hD8:P9++((X++Y)++Q9)=P9++(X++(Y++Q9)):=by rw[List.append_assoc X]
   have hM8:=hM
   rw[hD8]at hM8
   refine cl 1 [0] (BQ (X.length+Y.length) (P:=P9) (X:=X) (Y:=Y) (Q:=Q9) (a:=a) (m:=a+bz) (b:=a+2*bz) hD8 hP9 (by omega) (by omega) (by omega) (by omega) (hM8.px (by omega) (by omega)) (hM8.py (by omega) (by omega) (by omega) (.inl (by omega))) (Nat.le_refl _) hDn hl) Fq ⟨aI rfl,rfl⟩ ⟨rfl,rfl,rfl,rfl,rfl,rfl⟩ (ok:=[some ⟨64,18,((P9++(dC (X++Y)++Q9)).flatMap aL).map .t⟩]) ⟨aI rfl,rfl⟩ ?_
   refine nl ?_;refine sq ?_;refine rl ?_;refine o1 ?_;refine o1 ?_;refine nl ?_;refine rl ?_;(iterate 3 refine o1 ?_)
   refine WL.cast (t:=47) (u':=.int .i64 ((2*bz:Nat):Int)) rfl (aC (by omega)) ?_
   refine o1 ?_;refine WL.cast (t:=48) (u':=.int .i64 ((a+2*bz+(2*bz):Nat):Int)) rfl (aC (by omega)) ?_
   refine o1 ?_;refine nl ?_
   exact⟨(t+1,a+2*bz,(P9++(dC (X++Y)++Q9))),by dsimp only;omega,⟨by dsimp only;rw[Nat.add_mul t 1,Nat.one_mul,←hat],by dsimp only;omega,hM.step (by omega) (by rw[List.length_append];omega),Pq hK4,by simp only[List.length_append,gV]at hDn⊢;exact hDn⟩,cK h0 [0] _ _ (by decide) rfl ⟨rfl,rfl,rfl,rfl,rfl,rfl,trivial⟩ ⟨aI rfl,rfl⟩⟩
  refine ex ?_;refine sq ?_;refine sq ?_;refine rl ?_;(iterate 3 refine o1 ?_);refine WL.cast (t:=51) (u':=.int .i64 ((a+bz:Nat):Int)) rfl (aC (by omega)) ?_
  refine o1 ?_;refine nl ?_;refine sq ?_;refine rl ?_;(iterate 3 refine o1 ?_);refine nl ?_;refine bM rfl (fun h4=>?_) (fun h4=>?_)
  ·refine rl ?_;(iterate 5 refine o1 ?_);obtain⟨P9,W,Q9,hD9,hP9,hW9,hQ9⟩:=Pp (D:=D) (a:=a) (b:=N) (by omega) (by omega)
   rw[hDn]at hQ9;obtain⟨X,Y,hW,hX9,hY9⟩:=tF (D:=W) (a:=bz) (by omega)
   rw[hW9]at hY9;have hW8:(X++Y).length=X.length+Y.length:=List.length_append
   subst hW;subst hD9;have hD8:P9++((X++Y)++Q9)=P9++(X++(Y++Q9)):=by rw[List.append_assoc X]
   have hM8:=hM
   rw[hD8]at hM8;have hA9:All9 (2*bz) (P9++(dC (X++Y)++Q9)):=by
    have hq:Q9=[]:=List.eq_nil_of_length_eq_zero (by omega)
    subst hq;exact hM.l.all (by omega) (by rw[List.length_append];omega)
   have hK9:=Pq hK4
   have hDn9:(P9++(dC (X++Y)++Q9)).length=N:=by simp only[List.length_append,gV]at hDn⊢;exact hDn
   refine cl 1 [0] (BQ (X.length+Y.length) (P:=P9) (X:=X) (Y:=Y) (Q:=Q9) (a:=a) (m:=a+bz) (b:=N) hD8 hP9 (by omega) (by omega) (by omega) (by omega) (hM8.px (by omega) (by omega)) (hM8.py (by omega) (by omega) (by omega) (.inr (List.eq_nil_of_length_eq_zero (by omega)))) (Nat.le_refl _) hDn hl) Fq ⟨aI rfl,rfl⟩ ⟨rfl,rfl,rfl,rfl,rfl,rfl⟩ (ok:=[some ⟨64,18,((P9++(dC (X++Y)++Q9)).flatMap aL).map .t⟩]) ⟨aI rfl,rfl⟩ ?_
   refine nl ?_;refine rl ?_;refine o1 ?_;refine o1 ?_;refine WL.cast (t:=62) (u':=.int .i64 ((bz*2:Nat):Int)) rfl (aC (by omega)) ?_
   refine o1 ?_;refine nl ?_
   exact⟨(bz*2,(P9++(dC (X++Y)++Q9))),by dsimp only;omega,⟨by dsimp only;omega,(by rw[Nat.mul_comm];exact hA9),hK9,hDn9⟩,cK h0 [0] _ _ (by decide) rfl ⟨rfl,rfl,rfl,rfl,trivial⟩ ⟨aI rfl,rfl⟩⟩
  refine sk ?_;have hA9:All9 (2*bz) D:=hM.all2 (by omega)
  have hK9:=hK4
  have hDn9:=hDn
  refine rl ?_;refine o1 ?_;refine o1 ?_;refine WL.cast (t:=62) (u':=.int .i64 ((bz*2:Nat):Int)) rfl (aC (by omega)) ?_
  refine o1 ?_;refine nl ?_
  exact⟨(bz*2,D),by dsimp only;omega,⟨by dsimp only;omega,(by rw[Nat.mul_comm];exact hA9),hK9,hDn9⟩,cK h0 [0] _ _ (by decide) rfl ⟨rfl,rfl,rfl,rfl,trivial⟩ ⟨aI rfl,rfl⟩⟩
 refine ex ?_
 exact gR (lent':=[⟨64,18,((dC xs).flatMap aL).map .t⟩]) (.inr rfl) rfl pU (by decide) (fun _ h=>by cases h) ⟨⟨rfl,rfl⟩,trivial⟩ ⟨congrArg (fun l:List Wv=>some (⟨64,18,(l.flatMap aL).map .t⟩:Ob)) (hA.fin (by omega) hK3).symm,trivial⟩ ⟨eO _,trivial⟩ (fun h=>by cases h) ⟨rfl,rfl⟩
theorem EG {N:Nat}{xs:List Wv}(hN:xs.length=N) (hl:N≤1073741823):aD false Tryz.prog 126 [⟨64,18,(xs.flatMap aL).map .t⟩] [.one (.sl 0 0 N),.one (.t (.f 127 [] []))] (Rt [⟨64,18,((dC xs).flatMap aL).map .t⟩] (.tup [])):=by
 refine mQ Tryz.func126 rfl Tryz.ntmps126 rfl aA rfl fun N9 M9 w9 c0 h0=>?_
 refine rl ?_;(iterate 4 refine o1 ?_);refine cl 1 [0] (EF hN hl) PC ⟨aI rfl,rfl⟩ ⟨rfl,rfl,rfl,rfl⟩ (ok:=[some ⟨64,18,((dC xs).flatMap aL).map .t⟩]) ⟨aI rfl,rfl⟩ ?_
 refine nl ?_
 exact gR (lent':=[⟨64,18,((dC xs).flatMap aL).map .t⟩]) (.inr rfl) rfl pU (by decide) (fun _ h=>by cases h) ⟨⟨rfl,rfl⟩,trivial⟩ ⟨rfl,trivial⟩ ⟨eO _,trivial⟩ (fun h=>by cases h) ⟨rfl,rfl⟩
def Lz (a:Fr4):Bool:=bQ a.s a.x a.t a.y
def iM (y:Yr) (E:Nat):Bool:=decide ((y.m.length:Int)=(E:Int))&&(decide ((y.b.length:Int)=(E:Int))&&(!(y.b.any fun a=> !Lz a)&&(Lz y.l&&decide (0≤y.l.q.num.sign))))
theorem Pr (xs:List Bool){k:Nat}(h:k<xs.length):((bT xs).drop (k*1)).take [Tr.v (.bool (pR xs k))].length=[.v (.bool (pR xs k))]:=by
 have h1:(bT xs)[k]? =some (.v (.bool (pR xs k))):=by simp[bT,pR,h]
 have h2:k<(bT xs).length:=by rw[JC];exact h
 rw[Nat.mul_one,List.drop_eq_getElem_cons h2,List.length_singleton,List.take_succ_cons,List.take_zero]
 rw[List.getElem?_eq_getElem h2]at h1
 rw[Option.some.inj h1]
theorem BS {a:Fr4}(ha:a.ok):aD true Tryz.prog 67 [] [qF a] (aP (.one (tv (.bool (!Lz a))))):=by
 refine cC Tryz.func67 rfl Tryz.ntmps67 rfl aA rfl fun N9 w9 c0 h0=>?_
 refine sq ?_;refine rl ?_;refine bx 0 ?_;refine o1 ?_;refine nl ?_;refine sq ?_;refine rl ?_;refine ld ?_
 refine ca (Gz ha) Xi ⟨aG rfl,rfl⟩ (.one (tv (.bool (bQ a.s a.x a.t a.y)))) ?_;refine o1 ?_;refine o1 ?_;refine nl ?_;refine rt ?_
 exact en (.inl rfl) rfl (aZ (cR _)) (by decide) (fun _=>trivial) rfl
theorem EH {y:Yr}{E:Nat}(hb:∀a∈y.b,a.ok) (hy:y.l.ok) (hl:y.b.length≤1073741823):aD true Tryz.prog 37 [] [.agg ((fD y).map .t),.one (tv (.int .i64 ((E:Nat):Int)))] (aP (.one (tv (.bool (iM y E))))):=by
 refine cC Tryz.func37 rfl Tryz.ntmps37 rfl aA rfl fun N9 w9 c0 h0=>?_
 refine sq ?_;refine rl ?_;refine bx 0 ?_;refine o1 ?_;refine nl ?_;refine sq ?_;refine rl ?_;refine o1 ?_;refine nl ?_;refine sq ?_;refine rl ?_;refine o1 ?_;refine ld ?_
 (iterate 4 refine o1 ?_);refine WL.split (t:=11) rfl (fun h1=>?_) (fun h1=>?_)
 ·refine o1 ?_;refine ld ?_;(iterate 5 refine o1 ?_);refine WL.split (t:=18) rfl (fun h2=>?_) (fun h2=>?_)
  ·refine o1 ?_;refine ld ?_;refine o1 ?_
   refine ca (JG (xs:=y.b) (dl:=fun a=> !Lz a) (fd:=67) (fst:=[]) (caps:=[]) JJ (fun x hx=>BS (hb x hx)) hl) RZ ⟨a1 rfl,a1 rfl,rfl⟩ (.one (tv (.bool (y.b.any fun a=> !Lz a)))) ?_
   refine WL.splitb (t:=22) rfl (fun h3=>?_) (fun h3=>?_)
   ·(iterate 3 refine o1 ?_);(iterate 5 refine cM ?_);refine o1 ?_;refine o1 ?_;(iterate 4 refine cM ?_);refine o1 ?_;refine o1 ?_;refine nl ?_;refine rt ?_
    exact iT (.inl rfl) rfl (by unfold iM;simp only[decide_eq_true h1,decide_eq_true h2,h3,ge_iff_le,Bool.not_true,Bool.not_false,Bool.or_true,Bool.true_or,Bool.false_or,Bool.or_false,Bool.false_eq_true,if_true,if_false,ite_true,ite_false,Bool.and_true,Bool.true_and,Bool.false_and,Bool.and_false,Bool.not_not] <;> first | rfl | (simp;done) | grind)
   (iterate 5 refine o1 ?_);refine ld ?_;refine ce 1 [qF y.l] rfl (BS (a:=y.l) hy) JJ ⟨rfl,rfl⟩ ?_;refine WL.splitb (t:=29) rfl (fun h4=>?_) (fun h4=>?_)
   ·(iterate 3 refine o1 ?_);(iterate 4 refine cM ?_);refine o1 ?_;refine o1 ?_;refine nl ?_;refine rt ?_
    exact iT (.inl rfl) rfl (by unfold iM;simp only[decide_eq_true h1,decide_eq_true h2,h3,h4,ge_iff_le,Bool.not_true,Bool.not_false,Bool.or_true,Bool.true_or,Bool.false_or,Bool.or_false,Bool.false_eq_true,if_true,if_false,ite_true,ite_false,Bool.and_true,Bool.true_and,Bool.false_and,Bool.and_false,Bool.not_not] <;> first | rfl | (simp;done) | grind)
   (iterate 4 refine o1 ?_);refine ld ?_;refine ca (lW (p:=y.l.q) ⟨hy,rfl⟩) tG ⟨aG rfl,rfl⟩ (.one (tv (.int .i64 y.l.q.num.sign))) ?_;(iterate 3 refine o1 ?_);refine nl ?_
   refine rt ?_
   exact iT (.inl rfl) rfl (by unfold iM;simp only[decide_eq_true h1,decide_eq_true h2,h3,h4,ge_iff_le,Bool.not_true,Bool.not_false,Bool.or_true,Bool.true_or,Bool.false_or,Bool.or_false,Bool.false_eq_true,if_true,if_false,ite_true,ite_false,Bool.and_true,Bool.true_and,Bool.false_and,Bool.and_false,Bool.not_not] <;> first | rfl | (simp;done) | grind)
  (iterate 5 refine cM ?_);refine o1 ?_;refine o1 ?_;(iterate 5 refine cM ?_);refine o1 ?_;refine o1 ?_;(iterate 4 refine cM ?_);refine o1 ?_;refine o1 ?_;refine nl ?_;refine rt ?_
  exact iT (.inl rfl) rfl (by unfold iM;simp only[decide_eq_true h1,decide_eq_false h2,ge_iff_le,Bool.not_true,Bool.not_false,Bool.or_true,Bool.true_or,Bool.false_or,Bool.or_false,Bool.false_eq_true,if_true,if_false,ite_true,ite_false,Bool.and_true,Bool.true_and,Bool.false_and,Bool.and_false,Bool.not_not] <;> first | rfl | (simp;done) | grind)
 (iterate 5 refine cM ?_);refine o1 ?_;refine o1 ?_;(iterate 5 refine cM ?_);refine o1 ?_;refine o1 ?_;(iterate 5 refine cM ?_);refine o1 ?_;refine o1 ?_;(iterate 4 refine cM ?_)
 refine o1 ?_;refine o1 ?_;refine nl ?_;refine rt ?_
 exact iT (.inl rfl) rfl (by unfold iM;simp only[decide_eq_false h1,ge_iff_le,Bool.not_true,Bool.not_false,Bool.or_true,Bool.true_or,Bool.false_or,Bool.or_false,Bool.false_eq_true,if_true,if_false,ite_true,ite_false,Bool.and_true,Bool.true_and,Bool.false_and,Bool.and_false,Bool.not_not] <;> first | rfl | (simp;done) | grind)
theorem Sm {y:Yr}{E:Nat}(hb:∀a∈y.b,a.ok) (hy:y.l.ok) (hl:y.b.length≤1073741823):aD true Tryz.prog 36 [] [.agg ((fD y).map .t),.one (.t (.p false 3 [.v (.int .i64 ((E:Nat):Int))]))] (aP (.one (tv (.bool (!iM y E))))):=by
 refine cC Tryz.func36 rfl Tryz.ntmps36 rfl aA rfl fun N9 w9 c0 h0=>?_
 refine WP.sub (Ha (i:=1) rfl rfl) ?_;refine sq ?_;refine rl ?_;refine bx 0 ?_;refine o1 ?_;refine nl ?_;refine sq ?_;refine rl ?_;refine ld ?_
 refine dU ([.v (.int .i64 ((E:Nat):Int))]) rfl ?_;refine ca (EH (E:=E) hb hy hl) SA ⟨aG rfl,a1 rfl,rfl⟩ (.one (tv (.bool (iM y E)))) ?_;refine o1 ?_;refine o1 ?_;refine nl ?_
 refine rt ?_;exact en (.inl rfl) rfl (aZ (cR _)) (by decide) (fun _=>trivial) rfl
theorem PD {xs:List Yr}{dl:Yr→Bool}{fd:FuncId}{fst caps:List Tr}(hok:CallOk Tryz.prog fd) (hd:∀x∈xs,aD true Tryz.prog fd [] (cJ fst++[.agg ((fD x).map .t)]++cJ caps) (aP (.one (tv (.bool (dl x)))))) (hl:xs.length≤1073741823):aD true Tryz.prog 66 [] [.one (.t (iZ xs)),.one (.t (.f fd fst caps))] (aP (.one (tv (.int .i64 (nU dl xs))))):=by
 refine cC Tryz.func66 rfl Tryz.ntmps66 rfl aA rfl fun N w c0 h0=>?_
 refine sq ?_;refine rl ?_;refine o1 ?_;refine nl ?_;refine sq ?_;refine sq ?_;refine rl ?_;(iterate 3 refine o1 ?_);refine nl ?_;refine bl ?_
 refine lp (γ:=Nat) (fun k=>cA [(0,.one (.t (iZ xs))),(1,.one (.t (.f fd fst caps))),(7,.one (tv (.int .i64 ((xs.length:Nat):Int)))),(8,.one (tv (.int .i64 ((k:Nat):Int))))]) (fun k=>[].map some) (fun k=>k≤xs.length∧k≤cN dl xs) (fun k=>xs.length-k) 0 (⟨Nat.zero_le _,Nat.zero_le _⟩) (aN h0 [] _ _ (by decide) ⟨rfl,rfl,rfl,rfl,trivial⟩ rfl) fun k hk=>?_
 refine sq ?_;refine rl ?_;refine o1 ?_;refine nl ?_;refine sq ?_;refine bM rfl (fun h1=>?_) (fun h1=>?_)
 ·refine sk ?_;refine sq ?_;refine bl ?_;refine sq ?_;refine rl ?_;refine o1 ?_;refine o1 ?_;refine nl ?_;refine sq ?_;refine rl ?_;(iterate 4 refine o1 ?_)
  refine dU (fD (aT xs (k))) (bL (f:=fD) (z:=6) (o:=0) eP (dP (by omega)) (Nat.le_of_ble_eq_true rfl) rfl) ?_
  refine ce 0 [.agg ((fD (aT xs (k))).map .t)] rfl (hd (aT xs (k)) (jA (by omega))) hok ⟨rfl,rfl⟩ ?_
  refine nl ?_;refine nV rfl (fun h2=>?_) (fun h2=>?_)
  ·refine sq ?_;refine rl ?_;refine o1 ?_;refine o1 ?_;refine nl ?_;refine rt ?_;have hx9:=(lC hk.2 (by omega)).1 h2
   exact en (.inl rfl) rfl (aZ (cR _)) (by decide) (fun _=>trivial) (congrArg (fun z=>FV.one (tv (.int .i64 z))) (by unfold nU;rw[hx9,if_neg (by omega)]))
  refine sk ?_;refine rl ?_;refine o1 ?_;refine WL.cast (t:=18) (u':=.int .i64 ((k+1:Nat):Int)) rfl (aC (by omega)) ?_
  refine o1 ?_;refine nl ?_;exact⟨k+1,by omega,⟨by omega,(lC hk.2 (by omega)).2 h2⟩,aN h0 [] _ _ (by decide) ⟨rfl,rfl,rfl,rfl,trivial⟩ rfl⟩
 refine ex ?_;refine sq ?_;refine rl ?_;refine o1 ?_;refine nl ?_;refine rt ?_;have hx9:=vI (dl:=dl) xs
 exact en (.inl rfl) rfl (aZ (cR _)) (by decide) (fun _=>trivial) (congrArg (fun z=>FV.one (tv (.int .i64 z))) (by unfold nU;rw[if_pos (by omega)]))
theorem BT {xs:List Yr}{dl:Yr→Bool}{fd:FuncId}{fst caps:List Tr}(hok:CallOk Tryz.prog fd) (hd:∀x∈xs,aD true Tryz.prog fd [] (cJ fst++[.agg ((fD x).map .t)]++cJ caps) (aP (.one (tv (.bool (dl x)))))) (hl:xs.length≤1073741823):aD true Tryz.prog 35 [] [.one (.t (iZ xs)),.one (.t (.f fd fst caps))] (aP (.one (tv (.bool (xs.any dl))))):=by
 refine cC Tryz.func35 rfl Tryz.ntmps35 rfl aA rfl fun N w c0 h0=>?_
 refine sq ?_;refine rl ?_;refine o1 ?_;refine nl ?_;refine sq ?_;refine rl ?_;refine o1 ?_;refine o1 ?_
 refine ca (PD hok hd hl) SB ⟨a1 rfl,a1 rfl,rfl⟩ (.one (tv (.int .i64 (nU dl xs)))) ?_;refine o1 ?_;refine o1 ?_;refine nl ?_;refine rt ?_
 exact en (.inl rfl) rfl (aZ (cR _)) (by decide) (fun _=>trivial) (congrArg (fun z=>FV.one (tv (.bool z))) (Lx xs))
theorem BU {xs:List Vn}{dl:Vn→Bool}{fd:FuncId}{fst caps:List Tr}(hok:CallOk Tryz.prog fd) (hd:∀x∈xs,aD true Tryz.prog fd [] (cJ fst++[.agg ((eE false x).map .t)]++cJ caps) (aP (.one (tv (.bool (dl x)))))) (hl:xs.length≤1073741823):aD true Tryz.prog 74 [] [.one (.t (cU false false xs)),.one (.t (.f fd fst caps))] (aP (.one (tv (.int .i64 (nU dl xs))))):=by
 refine cC Tryz.func74 rfl Tryz.ntmps74 rfl aA rfl fun N w c0 h0=>?_
 refine sq ?_;refine rl ?_;refine o1 ?_;refine nl ?_;refine sq ?_;refine sq ?_;refine rl ?_;(iterate 3 refine o1 ?_);refine nl ?_;refine bl ?_
 refine lp (γ:=Nat) (fun k=>cA [(0,.one (.t (cU false false xs))),(1,.one (.t (.f fd fst caps))),(7,.one (tv (.int .i64 ((xs.length:Nat):Int)))),(8,.one (tv (.int .i64 ((k:Nat):Int))))]) (fun k=>[].map some) (fun k=>k≤xs.length∧k≤cN dl xs) (fun k=>xs.length-k) 0 (⟨Nat.zero_le _,Nat.zero_le _⟩) (aN h0 [] _ _ (by decide) ⟨rfl,rfl,rfl,rfl,trivial⟩ rfl) fun k hk=>?_
 refine sq ?_;refine rl ?_;refine o1 ?_;refine nl ?_;refine sq ?_;refine bM rfl (fun h1=>?_) (fun h1=>?_)
 ·refine sk ?_;refine sq ?_;refine bl ?_;refine sq ?_;refine rl ?_;refine o1 ?_;refine o1 ?_;refine nl ?_;refine sq ?_;refine rl ?_;(iterate 4 refine o1 ?_)
  refine dU ((eE false) (cO xs (k))) (bL (f:=(eE false)) (z:=18) (o:=0) (eH false) (nT (by omega)) (Nat.le_of_ble_eq_true rfl) rfl) ?_
  refine ce 0 [.agg ((eE false (cO xs (k))).map .t)] rfl (hd (cO xs (k)) (Sg (by omega))) hok ⟨rfl,rfl⟩ ?_
  refine nl ?_;refine nV rfl (fun h2=>?_) (fun h2=>?_)
  ·refine sq ?_;refine rl ?_;refine o1 ?_;refine o1 ?_;refine nl ?_;refine rt ?_;have hx9:=(lC hk.2 (by omega)).1 h2
   exact en (.inl rfl) rfl (aZ (cR _)) (by decide) (fun _=>trivial) (congrArg (fun z=>FV.one (tv (.int .i64 z))) (by unfold nU;rw[hx9,if_neg (by omega)]))
  refine sk ?_;refine rl ?_;refine o1 ?_;refine WL.cast (t:=18) (u':=.int .i64 ((k+1:Nat):Int)) rfl (aC (by omega)) ?_
  refine o1 ?_;refine nl ?_;exact⟨k+1,by omega,⟨by omega,(lC hk.2 (by omega)).2 h2⟩,aN h0 [] _ _ (by decide) ⟨rfl,rfl,rfl,rfl,trivial⟩ rfl⟩
 refine ex ?_;refine sq ?_;refine rl ?_;refine o1 ?_;refine nl ?_;refine rt ?_;have hx9:=vI (dl:=dl) xs
 exact en (.inl rfl) rfl (aZ (cR _)) (by decide) (fun _=>trivial) (congrArg (fun z=>FV.one (tv (.int .i64 z))) (by unfold nU;rw[if_pos (by omega)]))
theorem Ma {v:Vn}{y e:Int}:aD true Tryz.prog 75 [] [.agg ((eE false v).map .t),.one (.t (.p false 3 [.v (.int .i64 y)])),.one (.t (.p false 3 [.v (.int .i64 e)]))] (aP (.one (tv (.bool (bZ y e v))))):=by
 refine cC Tryz.func75 rfl Tryz.ntmps75 rfl aA rfl fun N9 w9 c0 h0=>?_
 refine WP.sub (Ha (i:=1) rfl rfl) ?_;refine WP.sub (Ha (i:=2) rfl rfl) ?_;refine sq ?_;refine rl ?_;refine bx 0 ?_;refine o1 ?_;refine nl ?_;refine sq ?_;refine rl ?_;refine o1 ?_
 refine ld ?_;refine dU ([.v (.int .i64 y)]) rfl ?_;refine o1 ?_;refine o1 ?_;refine WL.split (t:=9) rfl (fun h1=>?_) (fun h1=>?_)
 ·refine o1 ?_;refine ld ?_;refine dU ([.v (.int .i64 e)]) rfl ?_;(iterate 3 refine o1 ?_);refine nl ?_;refine rt ?_
  exact iT (.inl rfl) rfl (by unfold bZ;simp only[decide_eq_true h1,Bool.not_true,Bool.not_false,Bool.or_true,Bool.true_or,Bool.false_or,Bool.or_false,Bool.false_eq_true,if_true,if_false,ite_true,ite_false,Bool.and_true,Bool.true_and,Bool.false_and,Bool.and_false,Bool.not_not] <;> first | rfl | simp)
 (iterate 4 refine cM ?_);refine o1 ?_;refine o1 ?_;refine nl ?_;refine rt ?_
 exact iT (.inl rfl) rfl (by unfold bZ;simp only[decide_eq_false h1,Bool.not_true,Bool.not_false,Bool.or_true,Bool.true_or,Bool.false_or,Bool.or_false,Bool.false_eq_true,if_true,if_false,ite_true,ite_false,Bool.and_true,Bool.true_and,Bool.false_and,Bool.and_false,Bool.not_not] <;> first | rfl | simp)
section
variable {x:Cx}{g g':Nat→FV}{ob ob':List (Option Ob)}{Q:Post}{ops:Array Oper}{rest:List Oper}{d:Nat}{op:Op}{ty:TypeId}{pos:String}{af:Array Edge}{gd:Option (Nat×Bool)}
theorem Hb {fresh:Bool}{f:FuncId}{args:List FV}{lent lent':List Lt}{K:List Nat}{aa:Array Operand}{ats:Array TypeId}{i o k:Nat}{ok:List (Option Ob)}(hS:aD fresh x.P f lent args (Rt lent' (.one (.pt i o)))) (hf:CallOk x.P f) (hK:eB ob K K lent) (hnd:K.Nodup) (ha:jS x.n g K aa.toList args) (hi:K[i]? =some k) (hbk:dJ K lent' ok):
  OS x ⟨some d,.call ⟨.value (.func f),aa,ats⟩,ty,pos,af,gd⟩ g ob K (fun g' ob'=>g'=aU g d (.one (.pt k o))∧ob'=bE ob K ok):=by
 intro cs ts W hR K' Q kk
 obtain⟨us0,us,e0,hfst,hcap⟩:=wW (x:=x) (g:=g) f ob cs ts W hR
 have e:cJ []++args++cJ []=args:=by simp[cJ]
 unfold Oper.wp
 rw[nW hf e0]
 refine(oV (fst:=[]) (caps:=[]) (by rw[e];exact hS) hK hnd ha hfst hcap hR).mono fun e W' hE=>?_
 obtain⟨v,lent',r,ys,cl,N2,rfl,hr,hl1,hl2,hro,hok,hndy,fin⟩:=hE
 obtain⟨rfl,rfl⟩:=hr
 obtain⟨hN,hfin⟩:=fin ok hbk [] [] rfl (fun b=>by simp[aF]) (by simp[aF])
 obtain⟨m1,m2⟩:=hfin (fun i o h=>by simp at h)
 have hkl:k<cs.length:=by
  obtain⟨a,l',_,_,h2⟩:=gS hK hi
  have:=(List.getElem?_eq_some_iff.1 h2).1
  rw[←hR.len]
  exact this
 simp only[List.map_nil,List.append_nil]at m1 m2
 refine kk _ _ _ _ _ ⟨rfl,rfl⟩ (m1.put d ?_) ((m2 (some d)).then_put v)
 obtain⟨z,rfl,rfl,hz⟩:=hro
 cases z with
 | s b c t z n l=>simp only[CR]at hz
 | p b t l=>simp only[CR]at hz
 | w u=>
  simp only[CR,AR]at hz
  simp only[bF,bU,AR,VT.val]
  rw[wX hnd hl2 hi hkl]
  exact hz
theorem UX {fresh:Bool}{f:FuncId}{args:List FV}{lent lent':List Lt}{aa:Array Operand}{ats:Array TypeId}{i o ky:Nat}(K:List Nat) (hS:aD fresh x.P f lent args (Rt lent' (.one (.pt i o)))) (hf:CallOk x.P f) (hK:eB ob K K lent) (ha:jS x.n g K aa.toList args){ok:List (Option Ob)}(hbk:dJ K lent' ok) (k:WL x ops rest (aU g d (.one (.pt ky o))) (bE ob K ok) Q) (hi:K[i]? =some ky:=by rfl) (hw:aV ops x.n g gd=some true:=by rfl) (hnd:K.Nodup:=by decide):
  WL x ops (⟨some d,.call ⟨.value (.func f),aa,ats⟩,ty,pos,af,gd⟩::rest) g ob Q:=
 iP (Hb hS hf hK hnd ha hi hbk) hw (by rintro _ _ ⟨rfl,rfl⟩;exact k)
theorem SC {late:Nat→Bool}{K fr:List Nat}{fuel:Nat}{listed:Array Bool}{fresh:Bool}{f:FuncId}{args:List FV}{lent lent':List Lt}{aa:Array Operand}{ats:Array TypeId}{j o ky:Nat}(i:Nat) (Kl:List Nat) (hi:ops[i]? =some ⟨some d,.call ⟨.value (.func f),aa,ats⟩,ty,pos,af,gd⟩) (hS:aD fresh x.P f lent args (Rt lent' (.one (.pt j o)))) (hf:CallOk x.P f) (hK:eB ob Kl Kl lent) (ha:jS x.n g Kl aa.toList args){ok:List (Option Ob)}(hbk:dJ Kl lent' ok) (hke:jG ob (bE ob Kl ok) K) (k:WD x ops Q late K (d::fr) true fuel (listed.setIfInBounds i true) (aU g d (.one (.pt ky o))) (bE ob Kl ok)) (hj:Kl[j]? =some ky:=by rfl) (hw:aV ops x.n g gd=some true:=by rfl) (hnd:Kl.Nodup:=by decide) (hdis:∀k∈K,k∉Kl:=by decide):
  WO x ops Q late K fr true fuel listed i g ob:=by
 refine Fs i hi rfl hw (Hb hS hf hK hnd ha hj hbk) hdis ?_ ?_
 ·rintro _ _ ⟨rfl,rfl⟩
  exact⟨⟨_,rfl⟩,fT hke⟩
 rintro _ _ ⟨rfl,rfl⟩
 exact k
theorem JK {late:Nat→Bool}{K fr:List Nat}{fuel:Nat}{listed:Array Bool}{fresh:Bool}{f:FuncId}{args:List FV}{lent lent':List Lt}{aa:Array Operand}{ats:Array TypeId}{j o ky:Nat}(i:Nat) (Kl:List Nat) (hi:ops[i]? =some ⟨some d,.call ⟨.value (.func f),aa,ats⟩,ty,pos,af,gd⟩) (hS:aD fresh x.P f lent args (Rt lent' (.one (.pt j o)))) (hf:CallOk x.P f) (hK:eB ob Kl Kl lent) (ha:jS x.n g Kl aa.toList args){ok:List (Option Ob)}(hbk:dJ Kl lent' ok) (hke:jG ob (bE ob Kl ok) K) (k:WD x ops Q late K (d::fr) true fuel (listed.setIfInBounds i true) (aU g d (.one (.pt ky o))) (bE ob Kl ok)) (hr:Region.ready .any ops listed=[i]:=by kernel_rfl) (hj:Kl[j]? =some ky:=by rfl) (hw:aV ops x.n g gd=some true:=by rfl) (hnd:Kl.Nodup:=by decide) (hdis:∀k∈K,k∉Kl:=by decide):
  WD x ops Q late K fr true (fuel+1) listed g ob:=WO.one hr (SC i Kl hi hS hf hK ha hbk hke k hj hw hnd hdis)
theorem Xj {fresh:Bool}{f:FuncId}{args:List FV}{R:List Lt→FV→Prop}{lent:List Lt}{K:List Nat}{aa:Array Operand}{ats:Array TypeId}{cf:Operand}{key:Nat}{c1 c2:AV}(s1 s2:Nat) (hS:aD fresh x.P f lent args R) (hf:CallOk x.P f) (hc:lk x.n g cf=.one (.fn f [] [c1,c2])) (h1:g s1=.any) (h2:g s2=.any) (hs1:Nat.blt s1 x.n=true) (hs2:Nat.blt s2 x.n=true) (hne:Nat.beq s1 s2=false) (hop:∀o∈aa.toList,o≠.tmp s1∧o≠.tmp s2)
  (hK:eB ob K K lent) (hnd:K.Nodup) (ha:jS x.n (aU (aU g s1 (.one c1)) s2 (.one c2)) K (aa.toList++[.tmp s1,.tmp s2]) args) (hk:dV ob key=true) (hb:∀l r,R l r→l.length=K.length→(jT key r).isSome=true∧∃ok,dJ K l ok):
  OS x ⟨some d,.call ⟨.value cf,aa,ats⟩,ty,pos,af,gd⟩ g ob K (fun g' ob'=>∃l r v os ok,R l r∧l.length=K.length∧jT key r=some (v,os)∧dJ K l ok∧g'=aU g d v∧ob'=bE ob K ok++os.map some):=by
 intro cs ts W hR K' Q kk
 have hs1:s1<x.n:=by simpa[Nat.blt,Nat.lt_iff_add_one_le]using hs1
 have hs2:s2<x.n:=by simpa[Nat.blt,Nat.lt_iff_add_one_le]using hs2
 have hne9:s1≠s2:=fun e=>by subst e;simp at hne
 have hcv:=hR.lk cf
 rw[hc]at hcv
 simp only[bF,bU,AR]at hcv
 obtain⟨us,vs,e0,hu,hv⟩:=hcv
 simp only[ARL]at hu
 subst hu
 obtain⟨v1,v2,rfl,hv1,hv2⟩:∃v1 v2,vs=[v1,v2]∧AR W (x.fr W ob cs) cs c1 v1∧AR W (x.fr W ob cs) cs c2 v2:=by
  match vs,hv with
  | [v1,v2],h=>simp only[ARL]at h;exact⟨v1,v2,rfl,h.1,h.2.1⟩
  | [],h=>simp only[ARL]at h
  | [v1],h=>simp only[ARL]at h;exact h.2.elim
  | v1::v2::v3::vs,h=>simp only[ARL]at h;exact absurd h.2.2 (by simp)
 have hsz:=hR.1
 have hR':=(hR.put s1 (v:=.one c1) (u:=v1) (iA hv1)).put s2 (v:=.one c2) (u:=v2) (iA hv2)
 have ev:∀o:Operand,o≠.tmp s1→o≠.tmp s2→Act.eval ⟨(ts.setIfInBounds s1 v1).setIfInBounds s2 v2,[]⟩ o=Act.eval ⟨ts,[]⟩ o:=by
  intro o h3 h4
  cases o with
  | tmp t=>
   have q1:s1≠t:=fun e=>h3 (by rw[e])
   have q2:s2≠t:=fun e=>h4 (by rw[e])
   simp[Act.eval,Array.getElem?_setIfInBounds_ne q1,Array.getElem?_setIfInBounds_ne q2]
  | _=>rfl
 have e3:(aa.toList++[Operand.tmp s1,.tmp s2]).map (Act.eval ⟨(ts.setIfInBounds s1 v1).setIfInBounds s2 v2,[]⟩)=aa.toList.map (Act.eval ⟨ts,[]⟩)++[v1,v2]:=by
  rw[List.map_append]
  congr 1
  ·exact List.map_congr_left fun o ho=>ev o (hop o ho).1 (hop o ho).2
  have q1:s1<ts.size:=by omega
  have q2:s2<ts.size:=by omega
  have a1:((ts.setIfInBounds s1 v1).setIfInBounds s2 v2)[s1]? =some v1:=by rw[Array.getElem?_setIfInBounds_ne (Ne.symm hne9),Array.getElem?_setIfInBounds_self_of_lt q1]
  have a2:((ts.setIfInBounds s1 v1).setIfInBounds s2 v2)[s2]? =some v2:=Array.getElem?_setIfInBounds_self_of_lt (by rw[Array.size_setIfInBounds];exact q2)
  simp[Act.eval,a1,a2]
 have e:cJ []++args++cJ []=args:=by simp[cJ]
 unfold Oper.wp
 rw[nW hf e0]
 have hC:=oV (fst:=[]) (caps:=[]) (fus:=[]) (cus:=[]) (by rw[e];exact hS) hK hnd ha (by simp[FRL]) (by simp[FRL]) hR'
 rw[e3]at hC
 simp only[List.nil_append,List.append_nil]at hC⊢
 refine hC.mono fun e W' hE=>?_
 obtain⟨v,lent',r,ys,cl,N2,rfl,hr,hl1,hl2,hro,hok,hndy,fin⟩:=hE
 obtain⟨hb1,ok,hbk⟩:=hb _ r hr hl1
 obtain⟨⟨v',os⟩,hbn⟩:=Option.isSome_iff_exists.1 hb1
 obtain⟨csn,e1,e2,e3,e4⟩:=Ab (Ps hbn hro) hok hbn
 obtain⟨hN,hfin⟩:=fin ok hbk os csn e1 (fun b=>by rw[e2];exact Nat.le_refl _) e3
 have hk:=Nat.eq_of_beq_eq_true hk
 have hpl:(dG cs K cl).length=key:=by rw[jH,←hR.len,hk]
 obtain⟨g1,g2⟩:=e4 _ (dG cs K cl++csn) hN (by simp[hpl,e1]) (fun i _=>by
  unfold co
  rw[List.getElem?_append_right (by omega),hpl,show key+i-key=i by omega])
 obtain⟨m1,m2⟩:=hfin g2
 have m3:RelC x g (bE ob K ok++os.map some) (dG cs K cl++csn) ts W':=by
  refine m1.re hsz fun i hi=>?_
  by_cases q1:i=s1
  ·subst q1
   exact⟨ts[i]'(by omega),Array.getElem?_eq_getElem _,by rw[h1];trivial⟩
  by_cases q2:i=s2
  ·subst q2
   exact⟨ts[i]'(by omega),Array.getElem?_eq_getElem _,by rw[h2];trivial⟩
  obtain⟨u,u1,u2⟩:=m1.fv hi
  rw[Array.getElem?_setIfInBounds_ne (Ne.symm q2),Array.getElem?_setIfInBounds_ne (Ne.symm q1)]at u1
  have b1:Nat.beq i s1=false:=by
   cases h:Nat.beq i s1
   ·rfl
   exact absurd (Nat.eq_of_beq_eq_true h) q1
  have b2:Nat.beq i s2=false:=by
   cases h:Nat.beq i s2
   ·rfl
   exact absurd (Nat.eq_of_beq_eq_true h) q2
  simp only[aU,b1,b2,cond_false]at u2
  exact⟨u,u1,u2⟩
 have m4:=m2 (some d)
 refine kk _ _ _ _ _ ⟨lent',r,v',os,ok,hr,hl1,hbn,hbk,rfl,rfl⟩ (m3.put d g1) ?_
 have m5:Aft K (some d) ob cs ts W (bE ob K ok++os.map some) (dG cs K cl++csn) ts W':=⟨m4.1,m4.2,m4.3,m4.4,m4.5,fun _ _=>rfl⟩
 exact m5.then_put v
theorem SD {late:Nat→Bool}{K fr:List Nat}{fuel:Nat}{listed:Array Bool}{fresh:Bool}{f:FuncId}{lent lent':List Lt}{args:List FV}{r v:FV}{os:List Ob}{cf:Operand}{aa:Array Operand}{ats:Array TypeId}{c1 c2:AV}(i key s1 s2:Nat) (Kl:List Nat) (hi:ops[i]? =some ⟨some d,.call ⟨.value cf,aa,ats⟩,ty,pos,af,gd⟩) (hS:aD fresh x.P f lent args (Rt lent' r)) (hf:CallOk x.P f) (hc:lk x.n g cf=.one (.fn f [] [c1,c2])) (h1:g s1=.any) (h2:g s2=.any) (hK:eB ob Kl Kl lent) (ha:jS x.n (aU (aU g s1 (.one c1)) s2 (.one c2)) Kl (aa.toList++[.tmp s1,.tmp s2]) args){ok:List (Option Ob)}(hbk:dJ Kl lent' ok) (hke:jG ob (bE ob Kl ok++os.map some) K) (k:WD x ops Q late K (d::fr) true fuel (listed.setIfInBounds i true) (aU g d v) (bE ob Kl ok++os.map some)) (hr:Region.ready .any ops listed=[i]:=by kernel_rfl) (hw:aV ops x.n g gd=some true:=by rfl) (hk:dV ob key=true:=by rfl) (hnd:Kl.Nodup:=by decide) (hdis:∀k∈K,k∉Kl:=by decide) (hb:jT key r=some (v,os):=by rfl) (hs1:Nat.blt s1 x.n=true:=by rfl) (hs2:Nat.blt s2 x.n=true:=by rfl) (hne:Nat.beq s1 s2=false:=by rfl) (hop:∀o∈aa.toList,o≠.tmp s1∧o≠.tmp s2:=by simp):
  WD x ops Q late K fr true (fuel+1) listed g ob:=by
 refine WO.one hr (Fs i hi rfl hw (Xj s1 s2 hS hf hc h1 h2 hs1 hs2 hne hop hK hnd ha hk (by rintro _ _ ⟨rfl,rfl⟩ _;exact⟨by rw[hb];rfl,ok,hbk⟩)) hdis ?_ ?_)
 ·rintro _ _ ⟨l,r',v',os',ok',⟨rfl,rfl⟩,_,h,h9,rfl,rfl⟩
  obtain rfl:=jW hbk h9
  rw[hb]at h
  injection h with h
  injection h with h1 h2
  subst h1 h2
  exact⟨⟨_,rfl⟩,fT hke⟩
 rintro _ _ ⟨l,r',v',os',ok',⟨rfl,rfl⟩,_,h,h9,rfl,rfl⟩
 obtain rfl:=jW hbk h9
 rw[hb]at h
 injection h with h
 injection h with h1 h2
 subst h1 h2
 exact k
end
theorem jO {a:Fr4}{p:Rat}(ha:Qn a p):aD false Tryz.prog 46 [] [qF a] (aP (qF (.of p))):=mW ha
theorem tH {a b:Fr4}{p q:Rat}(ha:Qn a p) (hb:Qn b q):aD true Tryz.prog 19 [] [qF a,qF b] (aP (.one (tv (.int .i64 (p-q).num.sign)))):=by
 refine cC Tryz.func19 rfl Tryz.ntmps19 rfl aA rfl fun N w c0 h0=>?_
 have hs:=ha.sz;have hs':=hb.sz
 have hs1:=hs.1;have hs2:=hs.2;have hs3:=hs'.1;have hs4:=hs'.2
 have hs5:(dg 4294967296 ((p.den:Int)).natAbs).length≤68719476736:=hs2
 have hs6:(dg 4294967296 ((q.den:Int)).natAbs).length≤68719476736:=hs4
 refine sq ?_;refine rl ?_;refine bx 0 ?_;refine bx 1 ?_;refine o1 ?_;refine nl ?_
 refine md (γ:=Unit) (fun _=>cA [(2,.one (.pt 0 0)),(3,.one (.pt 1 0)),(4,.one (tv (.int .i64 ((0:Nat):Int))))]) (fun _=>([⟨48,0,((Fr4.of p).tr false).map .t⟩,⟨48,0,((Fr4.of q).tr false).map .t⟩]:List Ob).map some) (fun _=>True) ?_ fun _ _=>?_
 ·refine rd [0,1] (fun i=>[0,1,2,3,4,5].contains i) mixed ?_
  refine WO.two (i:=0) (j:=2) (by kernel_rfl) ?_ ?_
  ·refine Mb 0 ?_;refine WO.two (i:=1) (j:=2) (by kernel_rfl) ?_ ?_
   ·refine fA 1 rfl (jO ha) lD ⟨aG rfl,rfl⟩ (qF (.of p)) ?_;refine WO.one (by kernel_rfl) (Mb 2 ?_)
    refine bB 3 rfl (jO hb) lD ⟨aG rfl,rfl⟩ (qF (.of q)) ?_;refine dst 4 ?_;refine dst 5 ?_;refine aS ?_
    exact⟨(),trivial,aN h0 [0,1] _ _ (by decide) ⟨rfl,rfl,rfl,trivial⟩ ⟨oe rfl rfl,oe rfl rfl,rfl⟩⟩
   refine Mb 2 ?_;refine bB 1 rfl (jO ha) lD ⟨aG rfl,rfl⟩ (qF (.of p)) ?_;refine bB 3 rfl (jO hb) lD ⟨aG rfl,rfl⟩ (qF (.of q)) ?_;refine dst 4 ?_;refine dst 5 ?_
   refine aS ?_;exact⟨(),trivial,aN h0 [0,1] _ _ (by decide) ⟨rfl,rfl,rfl,trivial⟩ ⟨oe rfl rfl,oe rfl rfl,rfl⟩⟩
  refine Mb 2 ?_;refine WO.one (by kernel_rfl) (Mb 0 ?_)
  refine bB 1 rfl (jO ha) lD ⟨aG rfl,rfl⟩ (qF (.of p)) ?_;refine bB 3 rfl (jO hb) lD ⟨aG rfl,rfl⟩ (qF (.of q)) ?_;refine dst 4 ?_;refine dst 5 ?_;refine aS ?_
  exact⟨(),trivial,aN h0 [0,1] _ _ (by decide) ⟨rfl,rfl,rfl,trivial⟩ ⟨oe rfl rfl,oe rfl rfl,rfl⟩⟩
 refine sq ?_;refine rd [0,1] (fun i=>[11].contains i) mixed ?_
 refine dv 0 ?_;refine aR 1 ?_;refine dv 2 ?_;refine aR 3 ?_;refine dv 5 ?_;refine aR 6 ?_;refine dv 7 ?_;refine aR 8 ?_;have hn1:=pV (p.num) ((q.den:Int))
 refine bB 4 rfl (Sn (So hs) (Sp hs')) Hc ⟨aG rfl,aG rfl,rfl⟩ (kF ((p.num*(q.den:Int)))) ?_;have hn2:=pV (q.num) ((p.den:Int))
 refine bB 9 rfl (Sn (So hs') (Sp hs)) Hc ⟨aG rfl,aG rfl,rfl⟩ (kF ((q.num*(p.den:Int)))) ?_
 refine bB 10 rfl (JL (Zn.of (k:=(p.num*(q.den:Int))) (by omega)) (Zn.of (k:=(q.num*(p.den:Int))) (by omega))) Xk ⟨aG rfl,aG rfl,rfl⟩ (.one (tv (.int .i64 ((p.num*(q.den:Int))-(q.num*(p.den:Int))).sign))) ?_
 refine eR 11 (by kernel_rfl) rfl rfl aA rfl (by trivial) ?_ (fun h=>by first | rfl | cases h)
 refine aS ?_;refine rt ?_;exact en (.inl rfl) rfl (aZ (cR _)) (by decide) (fun _=>trivial) (by rw[←Sq];rfl)
theorem JM {a b:Fr4}{p q:Rat}(ha:Qn a p) (hb:Qn b q):aD true Tryz.prog 148 [] [qF a,qF b] (aP (.one (tv (.bool (decide (q<p)))))):=by
 refine cC Tryz.func148 rfl Tryz.ntmps148 rfl aA rfl fun N w c0 h0=>?_
 refine sq ?_;refine rl ?_;refine bx 0 ?_;refine bx 1 ?_;refine o1 ?_;refine nl ?_;refine sq ?_;refine rl ?_;refine ld ?_;refine o1 ?_;refine ld ?_
 refine ca (tH hb ha) oJ ⟨aG rfl,aG rfl,rfl⟩ (.one (tv (.int .i64 (q-p).num.sign))) ?_;refine o1 ?_;refine o1 ?_;refine nl ?_;refine rt ?_
 exact en (.inl rfl) rfl (aZ (cR _)) (by decide) (fun _=>trivial) (congrArg (fun z=>FV.one (tv (.bool z))) (EI p q))
theorem JN {a:Fr4}:aD false Tryz.prog 147 [] [qF a] (aP (.one (.t (.f 148 [.a (a.tr false)] [])))):=by
 refine cC Tryz.func147 rfl Tryz.ntmps147 rfl aA rfl fun N w c0 h0=>?_
 refine sq ?_;refine rl ?_;refine bx 0 ?_;refine o1 ?_;refine nl ?_;refine sq ?_;refine rl ?_;refine ld ?_;refine o1 ?_;refine o1 ?_;refine nl ?_;refine rt ?_
 exact en (.inl rfl) rfl (aZ (.one (.id rfl))) (by decide) (fun h=>by cases h) rfl
theorem JO {a:Fr4}{p:Rat}{xs:List Fr4}(ha:Qn a p) (hx:∀x∈xs,x.ok) (hl:xs.length≤1099511627776):aD false Tryz.prog 51 [] [qF a,.one (.t (sQ false xs)),.one (.t (.f 147 [] []))] (aP (qF (.of (aO p (xs.map Fr4.q))))):=by
 refine cC Tryz.func51 rfl Tryz.ntmps51 rfl aA rfl fun N w c0 h0=>?_
 have hz:∀x∈xs,Sz 68719476736 x.q:=fun x h=>(show Qn x x.q from⟨hx x h,rfl⟩).sz
 refine sq ?_;refine rl ?_;refine bx 0 ?_;refine al 1 ?_;refine nl ?_;refine sq ?_;refine rl ?_;refine ld ?_;refine ca (jO ha) lD ⟨aG rfl,rfl⟩ (qF (.of p)) ?_
 refine ca (fX (z:=0) (by omega) (by omega)) mX ⟨a1 rfl,rfl⟩ (qF (.of ((0:Int):Rat))) ?_
 refine ca (Ac ha.sz) Cf ⟨aG rfl,aG rfl,rfl⟩ (qF (.of p)) ?_;refine al 2 ?_;refine st ?_;refine nl ?_;refine sq ?_;refine sq ?_;refine rl ?_;(iterate 3 refine o1 ?_);refine nl ?_
 refine bl ?_
 refine lp (γ:=Nat) (fun k=>cA [(2,.one (.t (.f 147 [] []))),(6,.one (.pt 0 0)),(7,.one (.pt 1 0)),(14,.one (.t (sQ false xs))),(15,.one (tv (.int .i64 ((xs.length:Nat):Int)))),(16,.one (tv (.int .i64 ((k:Nat):Int))))]) (fun k=>[(⟨48,0,[tv (.bool false),tv (.slice none 0 0),tv (.bool false),tv (.slice none 0 0)]⟩:Ob),⟨48,0,((Fr4.of (aO p ((xs.take k).map Fr4.q))).tr false).map .t⟩].map some) (fun k=>k≤xs.length∧Sz 68719476736 (aO p ((xs.take k).map Fr4.q))) (fun k=>xs.length-k) 0 ⟨Nat.zero_le _,ha.sz⟩ (aN h0 [1,2] _ _ (by decide) ⟨rfl,rfl,rfl,rfl,rfl,rfl,trivial⟩ ⟨oe rfl rfl,aI rfl,rfl⟩) fun k hk=>?_
 refine sq ?_;refine rl ?_;refine o1 ?_;refine nl ?_;refine sq ?_;refine bM rfl (fun h1=>?_) (fun h1=>?_)
 ·refine sk ?_;refine sq ?_;refine bl ?_;refine sq ?_;refine rl ?_;refine o1 ?_;refine dU ((dM xs (k)).tr false) (lX xs (k:=k) (by omega)) ?_
  refine al 2 ?_;refine st ?_;refine nl ?_;refine sq ?_;refine rd [0,1,2] (fun i=>[].contains i) mixed ?_
  refine dv 0 ?_;refine aR 1 ?_;refine dv 2 ?_;refine aR 4 ?_
  refine qW 3 3 [.agg [tv (.bool (aE (aO p ((xs.take k).map Fr4.q)).num)),.t (sU false (dg 4294967296 (aO p ((xs.take k).map Fr4.q)).num.natAbs)),tv (.bool false),.t (sU false (dg 4294967296 (aO p ((xs.take k).map Fr4.q)).den))]] rfl rfl (JN (a:=.of (aO p ((xs.take k).map Fr4.q)))) PE ⟨rfl,rfl⟩ ?_
  refine qW 5 3 [qF (dM xs (k))] rfl rfl (JM (a:=.of (aO p ((xs.take k).map Fr4.q))) (b:=(dM xs (k))) (Qn.of (p:=(aO p ((xs.take k).map Fr4.q))) hk.2) ⟨hx _ (jF (by omega)),rfl⟩) PF ⟨rfl,rfl⟩ ?_
  refine aS ?_;refine bM rfl (fun h2=>?_) (fun h2=>?_)
  ·refine rl ?_;refine ld ?_;refine ca (jO ⟨hx _ (jF (by omega)),rfl⟩) lD ⟨aG rfl,rfl⟩ (qF (.of (dM xs (k)).q)) ?_
   refine ca (fX (z:=0) (by omega) (by omega)) mX ⟨a1 rfl,rfl⟩ (qF (.of ((0:Int):Rat))) ?_
   refine ca (Ac (hz _ (jF (by omega)))) Cf ⟨aG rfl,aG rfl,rfl⟩ (qF (.of (dM xs (k)).q)) ?_
   refine st ?_;refine nl ?_;refine rl ?_;refine o1 ?_;refine WL.cast (t:=30) (u':=.int .i64 ((k+1:Nat):Int)) rfl (aC (by omega)) ?_
   refine o1 ?_;refine nl ?_;have hst:(aO p ((xs.take (k+1)).map Fr4.q))=(dM xs k).q:=by rw[Ad (by omega),Ec];exact if_pos h2
   exact⟨k+1,by omega,⟨by omega,by rw[hst];exact hz _ (jF (by omega))⟩,aN h0 [0,1] _ _ (by decide) ⟨rfl,rfl,rfl,rfl,rfl,rfl,trivial⟩ ⟨oe rfl rfl,aI (congrArg (fun q=>some (⟨48,0,((Fr4.of q).tr false).map .t⟩:Ob)) hst.symm),rfl⟩⟩
  refine sk ?_;refine rl ?_;refine o1 ?_;refine WL.cast (t:=30) (u':=.int .i64 ((k+1:Nat):Int)) rfl (aC (by omega)) ?_
  refine o1 ?_;refine nl ?_;have hst:(aO p ((xs.take (k+1)).map Fr4.q))=(aO p ((xs.take k).map Fr4.q)):=by rw[Ad (by omega),Ec];exact if_neg h2
  exact⟨k+1,by omega,⟨by omega,by rw[hst];exact hk.2⟩,aN h0 [0,1] _ _ (by decide) ⟨rfl,rfl,rfl,rfl,rfl,rfl,trivial⟩ ⟨oe rfl rfl,aI (congrArg (fun q=>some (⟨48,0,((Fr4.of q).tr false).map .t⟩:Ob)) hst.symm),rfl⟩⟩
 refine ex ?_;refine sq ?_;refine rl ?_;refine ld ?_;refine st ?_;refine nl ?_;refine rt ?_
 exact en (.inl rfl) rfl (aZ (.agg (.cons (.id rfl) (.cons (.id rfl) (.cons (.id rfl) (.cons (.id rfl) .nil)))))) (by decide) (fun h=>by cases h) (by rw[List.take_of_length_le (by omega)];rfl)
theorem PG {a:Fr4}{p:Rat}{xs:List Fr4}(ha:Qn a p) (hx:∀x∈xs,x.ok) (hl:xs.length≤1099511627776):aD false Tryz.prog 129 [] [qF a,.one (.t (sQ false xs))] (aP (qF (.of (aO p (xs.map Fr4.q))))):=by
 refine cC Tryz.func129 rfl Tryz.ntmps129 rfl aA rfl fun N w c0 h0=>?_
 refine sq ?_;refine rl ?_;refine bx 0 ?_;refine al 1 ?_;refine nl ?_;refine sq ?_;refine rl ?_;refine ld ?_;refine o1 ?_
 refine ca (JO ha hx hl) JP ⟨aG rfl,a1 rfl,a1 rfl,rfl⟩ (qF (.of (aO p (xs.map Fr4.q)))) ?_;refine st ?_;refine nl ?_;refine rt ?_
 exact en (.inl rfl) rfl (aZ (.agg (.cons (.id rfl) (.cons (.id rfl) (.cons (.id rfl) (.cons (.id rfl) .nil)))))) (by decide) (fun h=>by cases h) (rfl)
theorem wY {y:Int}{a:Fr4}{p:Rat}(ha:Qn a p):aD true Tryz.prog 103 [] [.agg (((Tr.v (.int .i64 y)::a.tr false):List Tr).map .t)] (aP (.agg ((cF true (y,p)).map .t))):=by
 refine cC Tryz.func103 rfl Tryz.ntmps103 rfl aA rfl fun N w c0 h0=>?_
 refine sq ?_;refine rl ?_;refine bx 0 ?_;refine al 1 ?_;refine nl ?_;refine sq ?_;refine rd [0,1] (fun i=>[7].contains i) mixed ?_
 refine dv 0 ?_;refine aR 1 ?_;refine dv 2 ?_;refine aR 3 ?_;refine bB 4 rfl (fX (z:=0) (by omega) (by omega)) mX ⟨a1 rfl,rfl⟩ (qF (.of ((0:Int):Rat))) ?_
 refine lN 2 5 rfl (JQ ha) Hd ⟨aG rfl,aG rfl,rfl⟩ ?_;refine df 6 ?_;refine dst 7 ?_;refine aS ?_;refine rt ?_
 exact en (.inl rfl) rfl (aZ (.agg (.cons (.id rfl) (.cons (.id rfl) (.cons (.sl (trs:=aY (dg 4294967296 p.num.natAbs)) rfl rfl (bV _) (bR _)) (.cons (.id rfl) (.cons (.sl (trs:=aY (dg 4294967296 p.den)) rfl rfl (bV _) (bR _)) .nil))))))) (by decide) (fun _=>Xl (y,p)) rfl
theorem Sr {vs:List (Int×Rat)}{rest:List Tr}(hz:∀x∈vs,Sz 68719476736 x.2) (hl:vs.length≤1073741823):aD true Tryz.prog 73 [] [.one (.ef (sV 102 false vs::rest) 0)] (aP (.one (.t (sO 102 vs)))):=by
 refine cC Tryz.func73 rfl Tryz.ntmps73 rfl aA rfl fun N w c0 h0=>?_
 refine sq ?_;refine rl ?_;refine o1 ?_;refine nl ?_;refine sq ?_;refine rl ?_;refine o1 ?_;refine nl ?_;refine sq ?_;refine sq ?_;refine rl ?_;(iterate 3 refine o1 ?_)
 refine dU ([(sV 102 false vs)]) rfl ?_;refine o1 ?_;refine o1 ?_;refine nl ?_;refine bl ?_
 refine lp (γ:=Nat) (fun k=>cA [(3,.one (.sl 0 0 k)),(9,.one (.t (sV 102 false vs))),(10,.one (tv (.int .i64 ((vs.length:Nat):Int)))),(11,.one (tv (.int .i64 ((k:Nat):Int))))]) (fun k=>[({t:=102,z:=5,l:=oO (vs.take k)}:Ob)].map some) (fun k=>k≤vs.length) (fun k=>vs.length-k) 0 (Nat.zero_le _) ((nr (i:=3) 0 102 5 rfl rfl rfl rfl).trans (aN h0 [0] _ _ (by decide) ⟨rfl,rfl,rfl,rfl,trivial⟩ ⟨oe rfl rfl,rfl⟩)) fun k hk=>?_
 refine sq ?_;refine rl ?_;refine o1 ?_;refine nl ?_;refine sq ?_;refine bM rfl (fun h1=>?_) (fun h1=>?_)
 ·refine sk ?_;refine sq ?_;refine bl ?_;refine sq ?_;refine rl ?_;refine o1 ?_;refine dU (cF false (aJ vs (k))) (rW false (by omega)) ?_
  refine al 1 ?_;refine st ?_;refine nl ?_;refine rl ?_;refine o1 ?_;refine ld ?_
  refine iY 2 (wY (y:=(aJ vs (k)).1) (Qn.of (p:=(aJ vs (k)).2) (hz _ (mY (by omega))))) Ft ⟨aG rfl,rfl⟩ ?_
  refine bs 4 ?_;refine jE (j:=5) aA rfl rfl rfl rfl (.sl rfl (by rw[wZ,List.length_take,Nat.min_eq_left hk])) (.sl rfl rfl rfl) rfl rfl rfl (by omega) (by omega) ?_
  refine o1 ?_;refine nl ?_;refine rl ?_;refine o1 ?_;refine WL.cast (t:=20) (u':=.int .i64 ((k+1:Nat):Int)) rfl (aC (by omega)) ?_
  refine o1 ?_;refine nl ?_;have hst:oO (vs.take (k+1))=oO (vs.take k++[((aJ vs k).1,(aJ vs k).2)]):=by rw[kU (by omega)]
  exact⟨k+1,by omega,by omega,(RN (j:=5) (k1:=2) (k2:=3) (us:=vs.take k) rfl rfl rfl rfl rfl rfl).trans (aN h0 [5] _ _ (by decide) ⟨rfl,rfl,rfl,rfl,trivial⟩ ⟨aI (congrArg (fun l=>some (⟨102,5,l⟩:Ob)) hst.symm),rfl⟩)⟩
 refine ex ?_;refine sq ?_;refine rl ?_;refine o1 ?_;refine o1 ?_;refine nl ?_;refine rt ?_;have hkk:vs.take k=vs:=List.take_of_length_le (by omega)
 have hkn:k=vs.length:=by omega
 exact en (.inl rfl) rfl (aZ (.one (.sl (trs:=(vs.take k).flatMap (cF true)) rfl rfl (by rw[List.take_of_length_le (by rw[wZ,List.length_take];omega)];rfl) (by rw[bJ,List.length_take,Nat.min_eq_left hk])))) (by decide) (fun _=>by rw[hkk];exact .inl ⟨rfl,Mc vs⟩) (by rw[hkk,hkn];rfl)
theorem Ss {vs:List (Int×Rat)}{rest:List Tr}(hz:∀x∈vs,Sz 68719476736 x.2) (hl:vs.length≤1073741823):aD true Tryz.prog 40 [] [.one (.ef (sV 102 false vs::rest) 0)] (aP (.one (.t (sO 102 vs)))):=by
 refine cC Tryz.func40 rfl Tryz.ntmps40 rfl aA rfl fun N w c0 h0=>?_
 refine sq ?_;refine rl ?_;refine o1 ?_;refine nl ?_;refine sq ?_;refine sq ?_;refine rl ?_;refine o1 ?_;refine o1 ?_;refine nl ?_;refine eN rfl ?_;refine sk ?_;refine sq ?_;refine rl ?_
 (iterate 3 refine o1 ?_);refine iY 0 (Sr hz hl) JR ⟨uQ rfl .ef,rfl⟩ ?_;refine o1 ?_;refine nl ?_;refine rt ?_
 exact en (.inl rfl) rfl (aZ (.one (.sl (trs:=vs.flatMap (cF true)) rfl rfl (cD _ _ (bJ true vs)) (bJ true vs)))) (by decide) (fun _=>EJ _ _) rfl
theorem PH:aD true Tryz.prog 38 [] [] (aP (.one (.t (.p true 137 [sR 102 [],.v (.int .i64 0),.v (.bool false)])))):=by
 refine cC Tryz.func38 rfl Tryz.ntmps38 rfl aA rfl fun N w c0 h0=>?_
 refine sq ?_;refine rl ?_;refine o1 ?_;refine nl ?_;refine sq ?_;refine rl ?_;refine o1 ?_;refine bx 0 ?_
 refine WL.sub ((Md (j:=0) (key:=1) (e:=102) (z:=5) rfl rfl rfl (.sl (.id (.id .nil)))).trans (iU (j:=0) (k:=1) (p:=0) (n:=0) (trs:=[]) rfl rfl rfl rfl rfl rfl rfl rfl)) ?_
 refine o1 ?_;refine nl ?_;refine rt ?_
 exact en (.inl rfl) rfl (aZ (.one (.pt (k:=0) (trs:=[sR 102 [],.v (.int .i64 0),.v (.bool false)]) rfl))) (by decide) (fun _=>⟨rfl,.inl ⟨rfl,trivial⟩,trivial,trivial,trivial⟩) rfl
theorem yB {vs:List (Int×Rat)}{dl:Int×Rat→Bool}{fd:FuncId}{fst caps:List Tr}(hok:CallOk Tryz.prog fd) (hd:∀x∈vs,aD true Tryz.prog fd [] (cJ fst++[.agg ((cF false x).map .t)]++cJ caps) (aP (.one (tv (.bool (dl x)))))) (hl:vs.length≤1073741823):aD true Tryz.prog 149 [] [.one (.t (sV 102 false vs)),.one (.t (.f fd fst caps))] (aP (.one (tv (.int .i64 (if iR dl vs=vs.length then-1 else(iR dl vs:Int)))))):=by
 refine cC Tryz.func149 rfl Tryz.ntmps149 rfl aA rfl fun N w c0 h0=>?_
 refine sq ?_;refine rl ?_;refine o1 ?_;refine nl ?_;refine sq ?_;refine sq ?_;refine rl ?_;(iterate 3 refine o1 ?_);refine nl ?_;refine bl ?_
 refine lp (γ:=Nat) (fun k=>cA [(0,.one (.t (sV 102 false vs))),(1,.one (.t (.f fd fst caps))),(7,.one (tv (.int .i64 ((vs.length:Nat):Int)))),(8,.one (tv (.int .i64 ((k:Nat):Int))))]) (fun k=>[].map some) (fun k=>k≤vs.length∧k≤iR dl vs) (fun k=>vs.length-k) 0 (⟨Nat.zero_le _,Nat.zero_le _⟩) (aN h0 [] _ _ (by decide) ⟨rfl,rfl,rfl,rfl,trivial⟩ rfl) fun k hk=>?_
 refine sq ?_;refine rl ?_;refine o1 ?_;refine nl ?_;refine sq ?_;refine bM rfl (fun h1=>?_) (fun h1=>?_)
 ·refine sk ?_;refine sq ?_;refine bl ?_;refine sq ?_;refine rl ?_;refine o1 ?_;refine o1 ?_;refine nl ?_;refine sq ?_;refine rl ?_;(iterate 4 refine o1 ?_)
  refine dU (cF false (aJ vs (k))) (rW false (by omega)) ?_
  refine ce 0 [.agg ((cF false (aJ vs k)).map .t)] rfl (hd (aJ vs k) (mY (by omega))) hok ⟨rfl,rfl⟩ ?_
  refine nl ?_;refine nV rfl (fun h2=>?_) (fun h2=>?_)
  ·refine sq ?_;refine rl ?_;refine o1 ?_;refine o1 ?_;refine nl ?_;refine rt ?_;have hx9:=(tI hk.2 (by omega)).1 h2
   exact en (.inl rfl) rfl (aZ (cR _)) (by decide) (fun _=>trivial) (congrArg (fun z=>FV.one (tv (.int .i64 z))) (by rw[hx9,if_neg (by omega)]))
  refine sk ?_;refine rl ?_;refine o1 ?_;refine WL.cast (t:=18) (u':=.int .i64 ((k+1:Nat):Int)) rfl (aC (by omega)) ?_
  refine o1 ?_;refine nl ?_;exact⟨k+1,by omega,⟨by omega,(tI hk.2 (by omega)).2 h2⟩,aN h0 [] _ _ (by decide) ⟨rfl,rfl,rfl,rfl,trivial⟩ rfl⟩
 refine ex ?_;refine sq ?_;refine rl ?_;refine o1 ?_;refine nl ?_;refine rt ?_;have hx9:=Hf (dl:=dl) vs
 exact en (.inl rfl) rfl (aZ (cR _)) (by decide) (fun _=>trivial) (congrArg (fun z=>FV.one (tv (.int .i64 z))) (by rw[if_pos (by omega)]))
theorem Lb {vs:List (Int×Rat)}{dl:Int×Rat→Bool}{fd:FuncId}{fst caps:List Tr}(hok:CallOk Tryz.prog fd) (hd:∀x∈vs,aD true Tryz.prog fd [] (cJ fst++[.agg ((cF false x).map .t)]++cJ caps) (aP (.one (tv (.bool (dl x)))))) (hl:vs.length≤1073741823) (hix:iR dl vs<vs.length):aD true Tryz.prog 149 [] [.one (.t (sV 102 false vs)),.one (.t (.f fd fst caps))] (aP (.one (tv (.int .i64 ((iR dl vs:Nat):Int))))):=by
 have h9:=yB hok hd hl
 rwa[if_neg (by omega)]at h9
theorem Hg {vs:List (Int×Rat)}{dl:Int×Rat→Bool}{fd:FuncId}{fst caps:List Tr}(hok:CallOk Tryz.prog fd) (hd:∀x∈vs,aD true Tryz.prog fd [] (cJ fst++[.agg ((cF false x).map .t)]++cJ caps) (aP (.one (tv (.bool (dl x)))))) (hl:vs.length≤1073741823) (hix:iR dl vs=vs.length):aD true Tryz.prog 149 [] [.one (.t (sV 102 false vs)),.one (.t (.f fd fst caps))] (aP (.one (tv (.int .i64 (-1))))):=by
 have h9:=yB hok hd hl
 rwa[if_pos hix]at h9
theorem Hh {vs:List (Int×Rat)}{dl:Int×Rat→Bool}{fd:FuncId}{fst caps:List Tr}(hok:CallOk Tryz.prog fd) (hd:∀x∈vs,aD true Tryz.prog fd [] (cJ fst++[.agg ((cF false x).map .t)]++cJ caps) (aP (.one (tv (.bool (dl x)))))) (hl:vs.length≤1073741823):aD false Tryz.prog 131 [⟨102,5,eF vs⟩] [.one (.sl 0 0 vs.length),.one (.t (.f fd fst caps))] (Rt [⟨102,5,(lY vs (dT dl vs)).map .t⟩] (.one (.sl 0 0 (dT dl vs).length))):=by
 refine mQ Tryz.func131 rfl Tryz.ntmps131 rfl aA rfl fun N M w c0 h0=>?_
 have hix0:=Hf (dl:=dl) vs
 rcases Nat.lt_or_ge (iR dl vs) vs.length with hix | hix
 ·refine sq ?_;refine rl ?_;refine o1 ?_;refine nl ?_;refine sq ?_;refine rl ?_;refine o1 ?_;refine o1 ?_
  refine ca (Lb hok hd hl hix) BV ⟨uQ rfl (.sl rfl rfl (cD _ _ rfl) (bJ false vs)),a1 rfl,rfl⟩ (.one (tv (.int .i64 ((iR dl vs:Nat):Int)))) ?_;refine o1 ?_
  refine nl ?_;refine sq ?_;refine sq ?_;refine rl ?_;refine o1 ?_;refine o1 ?_;refine nl ?_;refine bM rfl (fun h1=>?_) (fun h1=>?_)
  ·exact absurd h1 (by omega)
  refine sk ?_;refine sq ?_;refine sq ?_;refine rl ?_;refine o1 ?_;refine o1 ?_;refine WL.cast (t:=15) (u':=.int .i64 ((iR dl vs+1:Nat):Int)) rfl (aC (by omega)) ?_
  refine o1 ?_;refine nl ?_;refine bl ?_
  refine lp (γ:=Nat×Nat×List (Int×Rat)) (fun s=>cA [(0,.one (.sl 0 0 vs.length)),(1,.one (.t (.f fd fst caps))),(5,.one (tv (.int .i64 ((s.1:Nat):Int)))),(6,.one (tv (.int .i64 ((s.2.1:Nat):Int))))]) (fun s=>[({t:=102,z:=5,l:=eF s.2.2}:Ob)].map some) (fun s=>s.1≤s.2.1∧s.2.1≤vs.length∧s.2.2.length=vs.length∧s.2.2.take s.1=(vs.take s.2.1).filter (fun x=> !dl x)∧∀m,s.2.1≤m→aJ s.2.2 m=aJ vs m) (fun s=>vs.length-s.2.1) (iR dl vs,iR dl vs+1,vs) ⟨by dsimp only;omega,by dsimp only;omega,rfl,St hix,fun _ _=>rfl⟩ (cK h0 [0] _ _ (by decide) rfl ⟨rfl,rfl,rfl,rfl,trivial⟩ ⟨aI rfl,rfl⟩) ?_
  rintro⟨i,j,us⟩ ⟨hij,hj,hul,hpre,hsuf⟩;dsimp only at hij hj hul hpre hsuf⊢;refine sq ?_;refine sq ?_;refine rl ?_;(iterate 4 refine o1 ?_);refine nl ?_
  refine bM rfl (fun h2=>?_) (fun h2=>?_)
  ·refine sk ?_;refine sq ?_;refine bl ?_;refine sq ?_;have hsj:aJ us j=aJ vs j:=hsuf j (Nat.le_refl _)
   refine rl ?_;(iterate 3 refine o1 ?_);refine JS (Hi (us:=us) (k:=j) (by omega)) ?_
   refine al 1 ?_;refine st ?_;refine nl ?_;refine sq ?_;refine rl ?_;refine o1 ?_;refine ld ?_
   refine ce 2 [.agg ((cF false (aJ us j)).map .t)] rfl (hd (aJ us j) (by rw[hsj];exact mY (by omega))) hok ⟨rfl,rfl⟩ ?_
   refine WL.splitb (t:=28) rfl (fun h3=>?_) (fun h3=>?_)
   ·refine o1 ?_;refine nl ?_;refine eN rfl ?_;refine sk ?_;refine rl ?_;refine o1 ?_;refine o1 ?_
    refine WL.cast (t:=21) (u':=.int .i64 ((j+1:Nat):Int)) rfl (aC (by omega)) ?_
    refine o1 ?_;refine nl ?_
    exact⟨(i,j+1,us),by dsimp only;omega,⟨by dsimp only;omega,by dsimp only;omega,hul,by dsimp only;exact Xm hpre (by omega) (by rw[←hsj];exact h3),fun m hm=>hsuf m (by dsimp only at hm;omega)⟩,cK h0 [0] _ _ (by decide) rfl ⟨rfl,rfl,rfl,rfl,trivial⟩ ⟨aI rfl,rfl⟩⟩
   refine o1 ?_;refine nl ?_;refine gJ rfl ?_;refine sq ?_;refine rl ?_;refine o1 ?_;refine o1 ?_;refine ld ?_;refine o1 ?_
   refine Dz (BW (us:=us) (k:=i) (x:=((aJ us (j)).1,(aJ us (j)).2)) (by omega)) (JT (us:=us) (k:=i) (by omega)) ?_
   refine nl ?_;refine rl ?_;refine o1 ?_;refine o1 ?_;refine WL.cast (t:=35) (u':=.int .i64 ((i+1:Nat):Int)) rfl (aC (by omega)) ?_
   refine o1 ?_;refine nl ?_;refine rl ?_;refine o1 ?_;refine o1 ?_;refine WL.cast (t:=21) (u':=.int .i64 ((j+1:Nat):Int)) rfl (aC (by omega)) ?_
   refine o1 ?_;refine nl ?_
   exact⟨(i+1,j+1,us.set i (aJ us j)),by dsimp only;omega,⟨by dsimp only;omega,by dsimp only;omega,by dsimp only;rw[List.length_set];exact hul,by dsimp only;rw[hsj];exact Xn hpre (by omega) (by rw[←hsj];exact h3) (by omega),fun m hm=>by dsimp only at hm⊢;rw[JU (by omega)];exact hsuf m (by omega)⟩,cK h0 [0] _ _ (by decide) rfl ⟨rfl,rfl,rfl,rfl,trivial⟩ ⟨aI rfl,rfl⟩⟩
  refine ex ?_;refine sq ?_;refine rl ?_;(iterate 3 refine o1 ?_);have hF:us.take i=dT dl vs:=by rw[hpre,List.take_of_length_le (by omega)];rfl
  refine clear (o:=0+i*5) (n:=vs.length-i) (z:=5) (zz:=.agg zV.toArray) (l:=eF us) (l':=(lY vs (dT dl vs)).map .t) (by rw[kI];omega) ((by rw[←hul]:dN (eF us) (0+i*5) ((gG zV (vs.length-i)).map tv)=dN (eF us) (0+i*5) ((gG zV (us.length-i)).map tv)).trans (Su hul (by omega) hF)) ?_
  refine nl ?_;refine sq ?_;refine rl ?_;(iterate 4 refine o1 ?_);refine nl ?_;refine rt ?_;have hFl:(dT dl vs).length=i:=by rw[←hF,List.length_take];omega
  exact gR (lent':=[⟨102,5,(lY vs (dT dl vs)).map .t⟩]) (.inl rfl) rfl (aZ (.one (.rf rfl rfl))) (by decide) (fun _ h=>by cases h) ⟨⟨rfl,rfl⟩,trivial⟩ ⟨rfl,trivial⟩ ⟨eO _,trivial⟩ (fun h=>by cases h) ⟨rfl,by rw[hFl]⟩
 replace hix:iR dl vs=vs.length:=by omega
 refine sq ?_;refine rl ?_;refine o1 ?_;refine nl ?_;refine sq ?_;refine rl ?_;refine o1 ?_;refine o1 ?_
 refine ca (Hg hok hd hl hix) BV ⟨uQ rfl (.sl rfl rfl (cD _ _ rfl) (bJ false vs)),a1 rfl,rfl⟩ (.one (tv (.int .i64 (-1)))) ?_;refine o1 ?_;refine nl ?_;refine sq ?_
 refine sq ?_;refine rl ?_;refine o1 ?_;refine o1 ?_;refine nl ?_;refine bM rfl (fun h4=>?_) (fun h4=>?_)
 ·refine sq ?_;refine rl ?_;refine o1 ?_;refine o1 ?_;refine nl ?_;refine rt ?_
  exact gR (lent':=[⟨102,5,(lY vs (dT dl vs)).map .t⟩]) (.inl rfl) rfl (aZ (.one (.rf rfl rfl))) (by decide) (fun _ h=>by cases h) ⟨⟨rfl,rfl⟩,trivial⟩ ⟨congrArg (fun l=>some (⟨102,5,l⟩:Ob)) (Sv (Hj hix)),trivial⟩ ⟨eO _,trivial⟩ (fun h=>by cases h) ⟨rfl,by rw[Hj hix]⟩
 exact absurd h4 (by omega)
theorem Xo {vs:List (Int×Rat)}(hl:vs.length≤1073741823):aD false Tryz.prog 105 [⟨102,5,eF vs⟩] [.one (.sl 0 0 vs.length)] (Rt [⟨102,5,eF vs⟩] (.one (.t (sR 102 vs)))):=by
 refine mQ Tryz.func105 rfl Tryz.ntmps105 rfl aA rfl fun N M w c0 h0=>?_
 refine sq ?_;refine rl ?_;refine o1 ?_;refine nl ?_;refine sq ?_;refine sq ?_;refine rl ?_;refine o1 ?_;refine nq (fun hn0=>?_) ?_
 ·refine nl ?_;refine gJ rfl ?_;refine sq ?_;refine rl ?_;refine o1 ?_;refine nl ?_;refine rt ?_;have hv0:vs=[]:=List.eq_nil_of_length_eq_zero hn0
  exact gR (lent':=[⟨102,5,eF vs⟩]) (.inl rfl) rfl (aZ (.one (.nil (t:=102) (z:=5)))) (by decide) (fun _ h=>by cases h) ⟨⟨rfl,rfl⟩,trivial⟩ ⟨rfl,trivial⟩ ⟨eO _,trivial⟩ (fun h=>by cases h) ⟨rfl,by rw[hv0];rfl⟩
 refine nl ?_;refine eN rfl ?_;refine sk ?_;refine sq ?_;refine rl ?_;refine UY 1 ?_;refine o1 ?_
 refine jE (j:=2) (n:=0) (m:=vs.length) (news:=eF vs) aA rfl rfl rfl rfl (.sl rfl rfl) (.sl rfl (List.take_of_length_le (Nat.le_of_eq (kI vs))) (kI vs)) (SE vs) (JV vs) rfl (by omega) (by omega) ?_
 refine o1 ?_;refine nl ?_;refine rt ?_
 exact gR (lent':=[⟨102,5,eF vs⟩]) (.inl rfl) rfl (aZ (.one (.sl (trs:=vs.flatMap (cF false)) rfl rfl (by rw[List.nil_append,Nat.zero_add];exact List.take_of_length_le (Nat.le_of_eq (kI vs))) (by rw[bJ,Nat.zero_add])))) (by decide) (by simp) ⟨⟨rfl,rfl⟩,trivial⟩ ⟨rfl,trivial⟩ ⟨eO _,trivial⟩ (fun h=>by cases h) ⟨rfl,by rw[Nat.zero_add];rfl⟩
theorem Cg {t0:Nat}{rest:List Tr}{vs:List (Int×Rat)}{dl:Int×Rat→Bool}{fd:FuncId}{fst caps:List Tr}(hok:CallOk Tryz.prog fd) (hd:∀x∈vs,aD true Tryz.prog fd [] (cJ fst++[.agg ((cF false x).map .t)]++cJ caps) (aP (.one (tv (.bool (dl x)))))) (hl:vs.length≤1073741823):aD false Tryz.prog 106 [⟨t0,0,.t (sR 102 vs)::rest.map .t⟩] [.one (.pt 0 0),.one (.t (.f fd fst caps))] (Rt [⟨t0,0,.t (sR 102 (dT dl vs))::rest.map .t⟩] (.tup [])):=by
 refine mQ Tryz.func106 rfl Tryz.ntmps106 rfl aA rfl fun N M w c0 h0=>?_
 refine WP.sub (nX (j:=0) (key:=1) (p:=0) (e:=102) (z:=5) (n:=vs.length) (trs:=vs.flatMap (cF false)) rfl rfl rfl rfl rfl) ?_;refine rl ?_;(iterate 4 refine o1 ?_);refine ld ?_
 refine o1 ?_;refine UZ [1] (Hh hok hd hl) PI ⟨aI rfl,rfl⟩ ⟨rfl,rfl,rfl⟩ (ok:=[some ⟨102,5,(lY vs (dT dl vs)).map .t⟩]) ⟨aI rfl,rfl⟩ ?_;refine o1 ?_;refine o1 ?_
 refine Dz (o:=0) (us:=[.sl 1 0 (dT dl vs).length]) (l:=.sl 1 0 vs.length::rest.map .t) rfl (by simp) ?_
 refine WL.sub (iU (j:=0) (k:=1) (p:=0) (n:=(dT dl vs).length) (trs:=(dT dl vs).flatMap (cF false)) rfl rfl rfl rfl rfl (Pt _ _) (bJ _ _) rfl) ?_;refine nl ?_
 exact gR (lent':=[⟨t0,0,.t (sR 102 (dT dl vs))::rest.map .t⟩]) (.inr rfl) rfl pU (by decide) (fun _ h=>by cases h) ⟨⟨rfl,rfl⟩,trivial⟩ ⟨rfl,trivial⟩ ⟨eO (sR _ _::rest),trivial⟩ (fun h=>by cases h) ⟨rfl,rfl⟩
theorem nY {a:Fr4}{p v:Rat}(ha:Qn a p) (hv:Sz 68719476736 v):aD false Tryz.prog 129 [] [qF (.of v),.one (.t (sQ false [a]))] (aP (qF (.of (aO v [p])))):=by
 have h:=PG (a:=.of v) (xs:=[a]) (Qn.of hv) (fun x hx=>by rw[List.mem_singleton]at hx;rw[hx];exact ha.1) (by simp)
 have e:[a].map Fr4.q=[p]:=by rw[←ha.2];rfl
 rwa[e]at h
theorem JW {t0 i:Nat}{rest:List Tr}{vs:List (Int×Rat)}{a:Fr4}{p:Rat}(ha:Qn a p) (hi:i<vs.length) (hv:Sz 68719476736 (aJ vs (i)).2) (hl:vs.length≤1073741823):aD false Tryz.prog 124 [⟨t0,0,.sl 1 0 vs.length::rest.map .t⟩,⟨102,5,eF vs⟩] [.one (.pt 0 0),.one (tv (.int .i64 ((i:Nat):Int))),qF a] (Rt [⟨t0,0,.sl 1 0 vs.length::rest.map .t⟩,⟨102,5,eF (vs.set (i) ((aJ vs (i)).1,((aJ vs (i)).2-(aO (aJ vs (i)).2 [p]))))⟩] (.agg ((cF false ((aJ vs (i)).1,(aO (aJ vs (i)).2 [p]))).map .t))):=by
 refine mQ Tryz.func124 rfl Tryz.ntmps124 rfl aA rfl fun N M w c0 h0=>?_
 have hn:Sz 68719476736 (aO (aJ vs (i)).2 [p]):=xA hv fun q hq=>by rw[List.mem_singleton]at hq;rw[hq];exact ha.sz
 have hix:i<vs.length:=hi
 refine sq ?_;refine rl ?_;refine bx 2 ?_;refine al 3 ?_;refine nl ?_;refine sq ?_;refine rl ?_;(iterate 3 refine o1 ?_);refine ld ?_;(iterate 3 refine o1 ?_);refine nl ?_
 refine md (γ:=Unit) (fun _=>cA [(6,.one (.pt 2 0)),(7,.one (.pt 1 (0+i*5))),(8,.one (.pt 3 0))]) (fun _=>([⟨t0,0,.sl 1 0 vs.length::rest.map .t⟩,⟨102,5,eF vs⟩,⟨102,0,[tv (.int .i64 0),tv (.bool false),tv (.slice none 0 0),tv (.bool false),tv (.slice none 0 0)]⟩,⟨48,0,((Fr4.of (aO (aJ vs (i)).2 [p])).tr false).map .t⟩]:List Ob).map some) (fun _=>True) ?_ fun _ _=>?_
 ·refine rd [0,1,2,3] (fun i=>[8].contains i) mixed ?_
  refine dv 0 ?_;refine dv 1 ?_;refine dv 2 ?_;refine mV 3 (BX (us:=vs) (k:=i) (by omega)) ?_
  refine aR 4 ?_;refine WO.two (i:=5) (j:=7) (by kernel_rfl) ?_ ?_
  ·refine Xp (key:=4) 5 rfl rfl ⟨rfl,rfl,rfl,rfl,trivial⟩ ?_
   refine yC (i:=20) (k:=4) (t:=48) (t':=52) (z:=4) (n:=1) (l:=[a].flatMap (Fr4.tr false)) rfl rfl rfl rfl (.one .sl) (by rfl) (by rfl) ?_
   refine WO.two (i:=6) (j:=7) (by kernel_rfl) ?_ ?_
   ·refine fA 6 rfl (nY ha hv) qX ⟨aG rfl,a1 rfl,rfl⟩ (qF (.of (aO (aJ vs (i)).2 [p]))) ?_;refine gN (key:=5) 7 (by kernel_rfl) rfl rfl aA rfl ⟨rfl,rfl,rfl,rfl,trivial⟩ ?_
    refine dst 8 ?_;refine aS ?_;exact⟨(),trivial,cK h0 [0,1,3,5] _ _ (by decide) rfl ⟨rfl,rfl,rfl,trivial⟩ ⟨JX rfl rfl,aI rfl,oe rfl rfl,aI rfl,rfl⟩⟩
   refine cP (key:=5) 7 rfl rfl aA rfl ⟨rfl,rfl,rfl,rfl,trivial⟩ ?_;refine bB 6 rfl (nY ha hv) qX ⟨aG rfl,a1 rfl,rfl⟩ (qF (.of (aO (aJ vs (i)).2 [p]))) ?_
   refine dst 8 ?_;refine aS ?_;exact⟨(),trivial,cK h0 [0,1,3,5] _ _ (by decide) rfl ⟨rfl,rfl,rfl,trivial⟩ ⟨JX rfl rfl,aI rfl,oe rfl rfl,aI rfl,rfl⟩⟩
  refine cP (key:=4) 7 rfl rfl aA rfl ⟨rfl,rfl,rfl,rfl,trivial⟩ ?_;refine kN (key:=5) 5 (by kernel_rfl) rfl rfl aA rfl ⟨rfl,rfl,rfl,rfl,trivial⟩ ?_
  refine yC (i:=20) (k:=5) (t:=48) (t':=52) (z:=4) (n:=1) (l:=[a].flatMap (Fr4.tr false)) rfl rfl rfl rfl (.one .sl) (by rfl) (by rfl) ?_
  refine bB 6 rfl (nY ha hv) qX ⟨aG rfl,a1 rfl,rfl⟩ (qF (.of (aO (aJ vs (i)).2 [p]))) ?_;refine dst 8 ?_;refine aS ?_
  exact⟨(),trivial,cK h0 [0,1,3,4] _ _ (by decide) rfl ⟨rfl,rfl,rfl,trivial⟩ ⟨JX rfl rfl,aI rfl,oe rfl rfl,aI rfl,rfl⟩⟩
 refine sq ?_;refine rd [0,1,2,3] (fun i=>[7,8,9].contains i) mixed ?_
 refine dv 0 ?_;refine dv 1 ?_;refine dv 2 ?_;refine dv 3 ?_;refine mV 4 (BX (us:=vs) (k:=i) (by omega)) ?_
 refine aR 5 ?_
 refine bB 6 rfl (Ae (Qn.of (p:=(aJ vs (i)).2) hv) (Qn.of (p:=(aO (aJ vs (i)).2 [p])) hn)) Hk ⟨aG rfl,aG rfl,rfl⟩ (qF (.of ((aJ vs (i)).2-(aO (aJ vs (i)).2 [p])))) ?_
 refine eR 7 (by kernel_rfl) rfl rfl aA rfl (by trivial) ?_ (fun h=>by first | rfl | cases h)
 refine eR 8 (by kernel_rfl) rfl rfl aA rfl (by trivial) ?_ (fun h=>by first | rfl | cases h)
 refine lV 9 (PJ (us:=vs) (k:=i) (q:=((aJ vs (i)).2-(aO (aJ vs (i)).2 [p]))) (by omega)) (EK (us:=vs) (k:=i) (by omega)) ?_
 refine aS ?_;refine sq ?_;refine rd [0,1,2,3] (fun i=>[6].contains i) mixed ?_
 refine dv 0 ?_;refine dv 1 ?_;refine dv 2 ?_
 refine Ph 3 (BY (us:=(vs.set (i) ((aJ vs (i)).1,((aJ vs (i)).2-(aO (aJ vs (i)).2 [p]))))) (k:=i) (by rw[List.length_set];omega)) ?_
 refine aR 4 ?_;refine dv 5 ?_;refine dst 6 ?_;refine aS ?_;refine rt ?_
 exact gR (lent':=[⟨t0,0,.sl 1 0 vs.length::rest.map .t⟩,⟨102,5,eF (vs.set (i) ((aJ vs (i)).1,((aJ vs (i)).2-(aO (aJ vs (i)).2 [p]))))⟩]) (.inl rfl) rfl (aZ (.agg (.cons (.id rfl) (.cons (.id rfl) (.cons (.id rfl) (.cons (.id rfl) (.cons (.id rfl) .nil))))))) (by decide) (fun _ h=>by cases h) ⟨⟨rfl,rfl⟩,⟨rfl,rfl⟩,trivial⟩ ⟨rfl,rfl,trivial⟩ ⟨eO rest,eO _,trivial⟩ (fun h=>by cases h) ⟨rfl,by rw[Hl hi];rfl⟩
end Go.Proofs.YtbbabfkgdnkehaaGreat
