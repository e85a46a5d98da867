/- Part 11 of a proof: Q2 to B5. -/
import Derived.Test.YtbbabfkgdnkehaaGreatM8
import Derived.Test.YtbbabfkgdnkehaaGreatM9
import Derived.Test.YtbbabfkgdnkehaaGreatM10
import Derived.Test.YtbbabfkgdnkehaaGreatM5
set_option maxRecDepth 100000
set_option linter.unusedVariables false
set_option linter.unusedSimpArgs false
namespace Go.Proofs.YtbbabfkgdnkehaaGreat
open Go Go.RowKit
theorem OM {xs:List Fr4}{dl:Fr4→Bool}{fd:FuncId}{fst caps:List Tr}(hok:CallOk Tryz.prog fd) (hd:∀x∈xs,aF true Tryz.prog fd [] (cK fst++[.agg ((Fr4.tr false x).map .t)]++cK caps) (aU (.one (tv (.bool (dl x)))))) (hl:xs.length≤1073741823):aF true Tryz.prog 98 [] [.one (.t (sQ false xs)),.one (.t (.f fd fst caps))] (aU (.one (tv (.int .i64 (pJ dl xs))))):=by
 refine bX Tryz.func98 rfl Tryz.ntmps98 rfl aB rfl fun N w c0 h0=>?_
 refine sq (rl (o1 ?_));refine nl (sq (sq (rl ?_)));(iterate 3 refine o1 ?_);refine nl (bl ?_)
 refine lp (γ:=Nat) (fun k=>bP [(0,.one (.t (sQ false xs))),(1,.one (.t (.f fd fst caps))),(7,.one (tv (.int .i64 ((xs.length:Nat):Int)))),(8,.one (tv (.int .i64 ((k:Nat):Int))))]) (fun k=>[].map some) (fun k=>k≤xs.length∧k≤cX dl xs) (fun k=>xs.length-k) 0 (⟨Nat.zero_le _,Nat.zero_le _⟩) (bD h0 [] _ _ (by decide) ⟨rfl,rfl,rfl,rfl,trivial⟩ rfl) fun k hk=>?_
 refine sq (rl (o1 ?_));refine nl (sq ?_);refine bH rfl (fun h1=>?_) (fun h1=>?_)
 ·refine sk (sq (bl (sq (rl (o1 ?_)))));refine o1 ?_;refine nl (sq (rl ?_));(iterate 4 refine o1 ?_)
  refine dT ((Fr4.tr false) (cT xs (k))) (bE (f:=(Fr4.tr false)) (z:=4) (o:=0) (fun _=>rfl) (vM (by omega)) (Nat.le_of_ble_eq_true rfl) rfl) ?_
  refine ce 0 [.agg ((Fr4.tr false (cT xs (k))).map .t)] rfl (hd (cT xs (k)) (eT (by omega))) hok ⟨rfl,rfl⟩ ?_
  refine nl ?_;refine mR rfl (fun h2=>?_) (fun h2=>?_)
  ·refine sq (rl (o1 ?_));refine o1 ?_;refine nl (rt ?_);have hx9:=(mD hk.2 (by omega)).1 h2
   exact en (.inl rfl) rfl (aY (cM _)) (by decide) (fun _=>trivial) (congrArg (fun z=>FV.one (tv (.int .i64 z))) (by unfold pJ;rw[hx9,if_neg (by omega)]))
  refine sk (rl (o1 ?_));refine WL.cast (t:=18) (u':=.int .i64 ((k+1:Nat):Int)) rfl (aG (by omega)) ?_
  refine o1 ?_;refine nl ?_;exact⟨k+1,by omega,⟨by omega,(mD hk.2 (by omega)).2 h2⟩,bD h0 [] _ _ (by decide) ⟨rfl,rfl,rfl,rfl,trivial⟩ rfl⟩
 refine ex (sq (rl (o1 ?_)));refine nl (rt ?_);have hx9:=xZ (dl:=dl) xs
 exact en (.inl rfl) rfl (aY (cM _)) (by decide) (fun _=>trivial) (congrArg (fun z=>FV.one (tv (.int .i64 z))) (by unfold pJ;rw[if_pos (by omega)]))
theorem ON {xs:List Fr4}{dl:Fr4→Bool}{fd:FuncId}{fst caps:List Tr}(hok:CallOk Tryz.prog fd) (hd:∀x∈xs,aF true Tryz.prog fd [] (cK fst++[.agg ((Fr4.tr false x).map .t)]++cK caps) (aU (.one (tv (.bool (dl x)))))) (hl:xs.length≤1073741823):aF true Tryz.prog 69 [] [.one (.t (sQ false xs)),.one (.t (.f fd fst caps))] (aU (.one (tv (.bool (xs.any dl))))):=by
 refine bX Tryz.func69 rfl Tryz.ntmps69 rfl aB rfl fun N w c0 h0=>?_
 refine sq (rl (o1 ?_));refine nl (sq (rl (o1 ?_)));refine o1 ?_
 refine ca (OM hok hd hl) WT ⟨a1 rfl,a1 rfl,rfl⟩ (.one (tv (.int .i64 (pJ dl xs)))) ?_;refine o1 ?_;refine o1 ?_;refine nl (rt ?_)
 exact en (.inl rfl) rfl (aY (cM _)) (by decide) (fun _=>trivial) (congrArg (fun z=>FV.one (tv (.bool z))) (Qk xs))
theorem Ql {x:Int}:aF true Tryz.prog 146 [] [.one (tv (.int .i64 x))] (aU (.one (tv (.bool false)))):=by
 refine bX Tryz.func146 rfl Tryz.ntmps146 rfl aB rfl fun N9 w9 c0 h0=>?_
 refine sq (rl (o1 ?_));refine nl (sq (rl ?_));(iterate 3 refine o1 ?_)
 refine WL.cast (t:=5) (u':=.bool false) rfl (congrArg Value.bool (decide_eq_false fun h=>h rfl)) ?_
 refine o1 ?_;refine nl (rt ?_);exact jA (.inl rfl) rfl (rfl)
theorem Xg {x y:Int}:aF true Tryz.prog 128 [] [.one (tv (.int .i64 x)),.one (tv (.int .i64 y))] (aU (.one (tv (.int .i64 (if x<y then-1 else if y<x then 1 else 0))))):=by
 refine bX Tryz.func128 rfl Tryz.ntmps128 rfl aB rfl fun N9 w9 c0 h0=>?_
 refine sq (rl (o1 ?_));refine nl (sq (rl (o1 ?_)));refine ca (Ql) GV ⟨a1 rfl,rfl⟩ (.one (tv (.bool false))) ?_;refine o1 ?_;refine nl ?_
 refine sq (rl (o1 ?_));refine ca (Ql) GV ⟨a1 rfl,rfl⟩ (.one (tv (.bool false))) ?_;refine o1 ?_;refine nl (sq (sq (rl (o1 ?_))))
 refine nl (fS rfl (sk (sq (sq (rl (o1 ?_))))));refine nl (fS rfl (sk (sq (sq (rl ?_)))))
 (iterate 3 refine o1 ?_);refine nl ?_;refine bH rfl (fun h1=>?_) (fun h1=>?_)
 ·refine sq (rl (o1 ?_));refine nl (rt ?_)
  exact en (.inl rfl) rfl (aY (cM _)) (by decide) (fun _=>trivial) (congrArg (fun z=>FV.one (tv (.int .i64 z))) (by rw[if_pos h1]))
 refine sk (sq (sq (rl ?_)));(iterate 3 refine o1 ?_);refine nl ?_;refine bH rfl (fun h2=>?_) (fun h2=>?_)
 ·refine sq (rl (o1 ?_));refine nl (rt ?_)
  exact en (.inl rfl) rfl (aY (cM _)) (by decide) (fun _=>trivial) (congrArg (fun z=>FV.one (tv (.int .i64 z))) (by rw[if_neg h1];rw[if_pos h2]))
 refine sk (sq (rl (o1 ?_)));refine nl (rt ?_)
 exact en (.inl rfl) rfl (aY (cM _)) (by decide) (fun _=>trivial) (congrArg (fun z=>FV.one (tv (.int .i64 z))) (by rw[if_neg h1];rw[if_neg h2]))
theorem Tv {x y:Wv}:aF true Tryz.prog 127 [] [.agg ((aW x).map .t),.agg ((aW y).map .t)] (aU (.one (tv (.int .i64 (CV x.y y.y))))):=by
 refine bX Tryz.func127 rfl Tryz.ntmps127 rfl aB rfl fun N9 w9 c0 h0=>?_
 refine sq (rl (bx 0 ?_));refine bx 1 ?_;refine o1 ?_;refine nl (sq (rl (o1 ?_)));refine ld ?_;refine o1 ?_;refine ld ?_
 refine ca (Xg (x:=x.y) (y:=y.y)) UD ⟨a1 rfl,a1 rfl,rfl⟩ (.one (tv (.int .i64 (if x.y<y.y then-1 else if y.y<x.y then 1 else 0)))) ?_;refine o1 ?_;refine nl (rt ?_)
 exact en (.inl rfl) rfl (aY (cM _)) (by decide) (fun _=>trivial) (congrArg (fun z=>FV.one (tv (.int .i64 z))) (rfl))
theorem Tw {N:Nat}{xs P U M V Q:List Wv}{a b n:Nat}(hx:xs=P++(U++(M++(V++Q)))) (ha:P.length=a) (hU:U.length=n) (hV:V.length=n) (hb:a+n+M.length=b) (hN:xs.length=N) (hl:N≤1073741823):aF false Tryz.prog 171 [⟨64,18,(xs.flatMap aW).map .t⟩] [.one (.sl 0 0 N),.one (tv (.int .i64 ((a:Nat):Int))),.one (tv (.int .i64 ((b:Nat):Int))),.one (tv (.int .i64 ((n:Nat):Int))),.one (.t (.f 127 [] []))] (Rt [⟨64,18,((P++(V++(M++(U++Q)))).flatMap aW).map .t⟩] (.tup [])):=by
 refine mS Tryz.func171 rfl Tryz.ntmps171 rfl aB rfl fun N9 M9 w9 c0 h0=>?_
 have hxl:xs.length=P.length+U.length+M.length+V.length+Q.length:=by rw[hx];simp only[List.length_append];omega
 refine sq (rl (o1 ?_));refine nl (bl ?_)
 refine lp (γ:=Nat×List Wv) (fun s=>bP [(0,.one (.sl 0 0 (N))),(1,.one (tv (.int .i64 ((a:Nat):Int)))),(2,.one (tv (.int .i64 ((b:Nat):Int)))),(3,.one (tv (.int .i64 ((n:Nat):Int)))),(10,.one (tv (.int .i64 ((s.1:Nat):Int))))]) (fun s=>[(⟨64,18,(s.2.flatMap aW).map .t⟩:Ob)].map some) (fun s=>s.1≤n∧SwP P U M V Q s.1 s.2) (fun s=>n-s.1) (0,xs) ⟨Nat.zero_le _,hx▸SwP.zero⟩ (cO h0 [0] _ _ (by decide) rfl ⟨rfl,rfl,rfl,rfl,rfl,trivial⟩ ⟨aC rfl,rfl⟩) ?_
 rintro⟨i,D⟩ ⟨hi,hS⟩;dsimp only at hi hS⊢;have hDl:=hS.len
 refine sq (sq (rl ?_));(iterate 3 refine o1 ?_);refine nl ?_;refine bH rfl (fun h1=>?_) (fun h1=>?_)
 ·refine sk (sq (bl ?_));refine rd [] (fun i=>[23].contains i) mixed ?_
  refine dv 0 ?_;refine dv 1 ?_;refine dv 2 ?_;refine dv 3 ?_;refine WD.cast (t:=19) (u':=.int .i64 ((a+i:Nat):Int)) rfl (aG (by omega)) ?_
  refine dv 4 ?_;refine dv 5 ?_;refine dv 6 ?_;refine dv 7 ?_;refine WD.cast (t:=23) (u':=.int .i64 ((b+i:Nat):Int)) rfl (aG (by omega)) ?_
  refine dv 8 ?_;refine dv 9 ?_;refine dv 10 ?_;refine dv 11 ?_;refine WD.cast (t:=27) (u':=.int .i64 ((b+i:Nat):Int)) rfl (aG (by omega)) ?_
  refine dv 12 ?_;refine dv 14 ?_;refine dv 15 ?_;refine dv 16 ?_;refine dv 17 ?_;refine WD.cast (t:=33) (u':=.int .i64 ((a+i:Nat):Int)) rfl (aG (by omega)) ?_
  refine dv 18 ?_;repeat' first | refine WO.two (i:=13) (j:=19) (by kernel_rfl) ?_ ?_ | refine lM 13 (cD (f:=aW) (z:=18) (o:=0) (us:=aW (aK D (b+i))) cA (cN (l:=D) (i:=b+i) (by omega)) (Nat.le_of_ble_eq_true rfl) rfl) ?_ | refine WO.one (by kernel_rfl) (lM 19 (cD (f:=aW) (z:=18) (o:=0) (us:=aW (aK D (a+i))) cA (cN (l:=D) (i:=a+i) (by omega)) (Nat.le_of_ble_eq_true rfl) rfl) ?_) | refine dv 20 ?_ | refine Ji 21 (eS (xs:=D) (k:=a+i) (x:=(aK D (a+i))) (f:=aW) (z:=18) (o:=0) (x':=(aK D (b+i))) (us:=aW (aK D (b+i))) cA (cN (l:=D) (i:=a+i) (by omega)) (Nat.le_of_ble_eq_true rfl) rfl) (gB (xs:=D) (k:=a+i) (f:=aW) (z:=18) (o:=0) (us:=aW (aK D (b+i))) cA (by omega) (Nat.le_of_ble_eq_true rfl)) ?_ | refine dv 22 ?_ | refine pW 23 (eS (xs:=(D.set (a+i) (aK D (b+i)))) (k:=b+i) (x:=(aK (D.set (a+i) (aK D (b+i))) (b+i))) (f:=aW) (z:=18) (o:=0) (x':=(aK D (a+i))) (us:=aW (aK D (a+i))) cA (cN (l:=(D.set (a+i) (aK D (b+i)))) (i:=b+i) (by simp only[List.length_set];omega)) (Nat.le_of_ble_eq_true rfl) rfl) (gB (xs:=(D.set (a+i) (aK D (b+i)))) (k:=b+i) (f:=aW) (z:=18) (o:=0) (us:=aW (aK D (a+i))) cA (by simp only[List.length_set];omega) (Nat.le_of_ble_eq_true rfl)) ?_ | refine bO ?_ | refine rl ?_ | refine o1 ?_ | refine WL.cast (t:=15) (u':=.int .i64 ((i+1:Nat):Int)) rfl (aG (by omega)) ?_ | refine nl ?_ | exact⟨(i+1,((D.set (a+i) (aK D (b+i))).set (b+i) (aK D (a+i)))),by dsimp only;omega,⟨by omega,hS.step hU hV (by omega) ha hb⟩,cO h0 [0] _ _ (by decide) rfl ⟨rfl,rfl,rfl,rfl,rfl,trivial⟩ ⟨aC rfl,rfl⟩⟩ | refine lM 19 (cD (f:=aW) (z:=18) (o:=0) (us:=aW (aK D (a+i))) cA (cN (l:=D) (i:=a+i) (by omega)) (Nat.le_of_ble_eq_true rfl) rfl) ?_ | refine WO.one (by kernel_rfl) (lM 13 (cD (f:=aW) (z:=18) (o:=0) (us:=aW (aK D (b+i))) cA (cN (l:=D) (i:=b+i) (by omega)) (Nat.le_of_ble_eq_true rfl) rfl) ?_)
 refine ex ?_;have hni:i=n:=by omega
 subst hni
 exact gL (lent':=[⟨64,18,((P++(V++(M++(U++Q)))).flatMap aW).map .t⟩]) (.inr rfl) rfl qE (by decide) (fun _ h=>by cases h) ⟨⟨rfl,rfl⟩,trivial⟩ ⟨congrArg (fun l:List Wv=>some (⟨64,18,(l.flatMap aW).map .t⟩:Ob)) (hS.fin hU hV),trivial⟩ ⟨cE _,trivial⟩ (fun h=>by cases h) ⟨rfl,rfl⟩
theorem UE {N:Nat}{xs Z:List Wv}{a m b:Nat}(hR:Ro m (m-a) (b-m) xs Z) (ha:a<m) (hb:m<b) (hN:xs.length=N) (hl:N≤1073741823):aF false Tryz.prog 168 [⟨64,18,(xs.flatMap aW).map .t⟩] [.one (.sl 0 0 N),.one (tv (.int .i64 ((a:Nat):Int))),.one (tv (.int .i64 ((m:Nat):Int))),.one (tv (.int .i64 ((b:Nat):Int))),.one (.t (.f 127 [] []))] (Rt [⟨64,18,(Z.flatMap aW).map .t⟩] (.tup [])):=by
 refine mS Tryz.func168 rfl Tryz.ntmps168 rfl aB rfl fun N9 M9 w9 c0 h0=>?_
 have hR0:=hR.len
 refine sq (rl ?_);(iterate 3 refine o1 ?_);refine WL.cast (t:=14) (u':=.int .i64 ((m-a:Nat):Int)) rfl (aG (by omega)) ?_
 refine o1 ?_;refine nl (sq (rl ?_));(iterate 3 refine o1 ?_);refine WL.cast (t:=17) (u':=.int .i64 ((b-m:Nat):Int)) rfl (aG (by omega)) ?_
 refine o1 ?_;refine nl (sq (bl ?_))
 refine lp (γ:=Nat×Nat×List Wv) (fun s=>bP [(0,.one (.sl 0 0 (N))),(2,.one (tv (.int .i64 ((m:Nat):Int)))),(4,.one (.t (.f 127 [] []))),(10,.one (tv (.int .i64 ((s.1:Nat):Int)))),(11,.one (tv (.int .i64 ((s.2.1:Nat):Int))))]) (fun s=>[(⟨64,18,(s.2.2.flatMap aW).map .t⟩:Ob)].map some) (fun s=>0<s.1∧0<s.2.1∧Ro m s.1 s.2.1 s.2.2 Z∧s.2.2.length=N) (fun s=>s.1+s.2.1) (m-a,b-m,xs) ⟨by dsimp only;omega,by dsimp only;omega,hR,hN⟩ (cO h0 [0] _ _ (by decide) rfl ⟨rfl,rfl,rfl,rfl,rfl,trivial⟩ ⟨aC rfl,rfl⟩) ?_
 rintro⟨i,j,D⟩ ⟨hi,hj,hR,hDn⟩;dsimp only at hi hj hR hDn⊢;have hDl0:=hR.len
 refine sq (sq (rl ?_));(iterate 3 refine o1 ?_);refine nl ?_;refine bH rfl (fun h1=>?_) (fun h1=>?_)
 ·refine sk (bl (sq (rl ?_)));(iterate 3 refine o1 ?_);refine nl ?_;refine bH rfl (fun h2=>?_) (fun h2=>?_)
  ·refine sq (rl ?_);(iterate 4 refine o1 ?_);refine WL.cast (t:=27) (u':=.int .i64 ((m-i:Nat):Int)) rfl (aG (by omega)) ?_
   (iterate 3 refine o1 ?_);have hDl:=hR.len
   obtain⟨P,U,M,V,Q,hD,h5,h6,h7,h8,hR2⟩:=hR.gt (by omega)
   refine cl 1 [0] (Tw (xs:=D) (a:=m-i) (b:=m) (n:=j) hD h5 h6 h7 h8 hDn hl) Tx ⟨aC rfl,rfl⟩ ⟨rfl,rfl,rfl,rfl,rfl,rfl⟩ (ok:=[some ⟨64,18,((P++(V++(M++(U++Q)))).flatMap aW).map .t⟩]) ⟨aC rfl,rfl⟩ ?_
   refine nl (rl ?_);(iterate 3 refine o1 ?_);refine WL.cast (t:=34) (u':=.int .i64 ((i-j:Nat):Int)) rfl (aG (by omega)) ?_
   refine o1 ?_;refine nl ?_;have hD2:(P++(V++(M++(U++Q)))).length=N:=by rw[←hR2.len.2.2,hR0.2.2,hN]
   exact⟨(i-j,j,(P++(V++(M++(U++Q))))),by dsimp only;omega,⟨by dsimp only;omega,by dsimp only;omega,hR2,hD2⟩,cO h0 [0] _ _ (by decide) rfl ⟨rfl,rfl,rfl,rfl,rfl,trivial⟩ ⟨aC rfl,rfl⟩⟩
  refine sq (rl ?_);(iterate 4 refine o1 ?_);refine WL.cast (t:=38) (u':=.int .i64 ((m-i:Nat):Int)) rfl (aG (by omega)) ?_
  (iterate 3 refine o1 ?_);refine WL.cast (t:=41) (u':=.int .i64 ((m+j:Nat):Int)) rfl (aG (by omega)) ?_
  refine o1 ?_;refine o1 ?_;refine WL.cast (t:=43) (u':=.int .i64 ((m+j-i:Nat):Int)) rfl (aG (by omega)) ?_
  refine o1 ?_;refine o1 ?_;have hDl:=hR.len
  obtain⟨P,U,M,V,Q,hD,h5,h6,h7,h8,hR2⟩:=hR.lt (by omega)
  refine cl 1 [0] (Tw (xs:=D) (a:=m-i) (b:=m+j-i) (n:=i) hD h5 h6 h7 h8 hDn hl) Tx ⟨aC rfl,rfl⟩ ⟨rfl,rfl,rfl,rfl,rfl,rfl⟩ (ok:=[some ⟨64,18,((P++(V++(M++(U++Q)))).flatMap aW).map .t⟩]) ⟨aC rfl,rfl⟩ ?_
  refine nl (rl ?_);(iterate 3 refine o1 ?_);refine WL.cast (t:=49) (u':=.int .i64 ((j-i:Nat):Int)) rfl (aG (by omega)) ?_
  refine o1 ?_;refine nl ?_;have hD2:(P++(V++(M++(U++Q)))).length=N:=by rw[←hR2.len.2.2,hR0.2.2,hN]
  exact⟨(i,j-i,(P++(V++(M++(U++Q))))),by dsimp only;omega,⟨by dsimp only;omega,by dsimp only;omega,hR2,hD2⟩,cO h0 [0] _ _ (by decide) rfl ⟨rfl,rfl,rfl,rfl,rfl,trivial⟩ ⟨aC rfl,rfl⟩⟩
 refine ex (rl ?_);(iterate 4 refine o1 ?_);refine WL.cast (t:=53) (u':=.int .i64 ((m-i:Nat):Int)) rfl (aG (by omega)) ?_
 (iterate 3 refine o1 ?_);have hij:i=j:=by omega
 subst hij;have hDl:=hR.len
 obtain⟨P,U,V,Q,hD,h5,h6,h7,h8,hR2⟩:=hR.eq
 refine cl 1 [0] (Tw (xs:=D) (a:=m-i) (b:=m) (n:=i) hD h5 h6 h7 h8 hDn hl) Tx ⟨aC rfl,rfl⟩ ⟨rfl,rfl,rfl,rfl,rfl,rfl⟩ (ok:=[some ⟨64,18,((P++(V++([]++(U++Q)))).flatMap aW).map .t⟩]) ⟨aC rfl,rfl⟩ ?_
 refine nl ?_
 exact gL (lent':=[⟨64,18,(Z.flatMap aW).map .t⟩]) (.inr rfl) rfl qE (by decide) (fun _ h=>by cases h) ⟨⟨rfl,rfl⟩,trivial⟩ ⟨congrArg (fun l:List Wv=>some (⟨64,18,(l.flatMap aW).map .t⟩:Ob)) hR2,trivial⟩ ⟨cE _,trivial⟩ (fun h=>by cases h) ⟨rfl,rfl⟩
theorem Xh {N:Nat}{xs P S Q:List Wv}{a b:Nat}(hx:xs=P++(S++Q)) (ha:P.length=a) (hb:a+S.length=b) (hN:xs.length=N) (hl:N≤1073741823):aF false Tryz.prog 160 [⟨64,18,(xs.flatMap aW).map .t⟩] [.one (.sl 0 0 N),.one (tv (.int .i64 ((a:Nat):Int))),.one (tv (.int .i64 ((b:Nat):Int))),.one (.t (.f 127 [] []))] (Rt [⟨64,18,((P++(dK S++Q)).flatMap aW).map .t⟩] (.tup [])):=by
 refine mS Tryz.func160 rfl Tryz.ntmps160 rfl aB rfl fun N9 M9 w9 c0 h0=>?_
 have hxl:N=a+S.length+Q.length:=by rw[←hN,hx];simp only[List.length_append];omega
 refine sq (rl (o1 ?_));refine o1 ?_;refine WL.cast (t:=11) (u':=.int .i64 ((a+1:Nat):Int)) rfl (aG (by omega)) ?_
 refine o1 ?_;refine nl (bl ?_)
 refine lp (γ:=Nat×List Wv) (fun s=>bP [(0,.one (.sl 0 0 (N))),(1,.one (tv (.int .i64 ((a:Nat):Int)))),(2,.one (tv (.int .i64 ((b:Nat):Int)))),(3,.one (.t (.f 127 [] []))),(8,.one (tv (.int .i64 ((a+s.1:Nat):Int))))]) (fun s=>[(⟨64,18,(s.2.flatMap aW).map .t⟩:Ob)].map some) (fun s=>1≤s.1∧s.2=P++(dK (S.take s.1)++(S.drop s.1++Q))∧s.2.length=N) (fun s=>S.length-s.1) (1,xs) ⟨Nat.le_refl _,(by rw[hx];show _=P++(dK (S.take 1)++(S.drop 1++Q));rw[CW,←List.append_assoc (S.take 1),List.take_append_drop]),hN⟩ (cO h0 [0] _ _ (by decide) rfl ⟨rfl,rfl,rfl,rfl,rfl,trivial⟩ ⟨aC rfl,rfl⟩) ?_
 rintro⟨t,D⟩ ⟨ht,hD,hDn⟩;dsimp only at ht hD hDn⊢;refine sq (sq (rl ?_));(iterate 3 refine o1 ?_);refine nl ?_;refine bH rfl (fun h1=>?_) (fun h1=>?_)
 ·refine sk (sq (bl (sq (rl (o1 ?_)))));refine o1 ?_;refine nl (bl ?_)
  have hI0:Ins P S Q D t (a+t):=by have h9:=Ins.start (by omega) hD;rwa[ha]at h9
  refine lp (γ:=Nat×List Wv) (fun s=>bP [(0,.one (.sl 0 0 (N))),(1,.one (tv (.int .i64 ((a:Nat):Int)))),(2,.one (tv (.int .i64 ((b:Nat):Int)))),(3,.one (.t (.f 127 [] []))),(8,.one (tv (.int .i64 ((a+t:Nat):Int)))),(9,.one (tv (.int .i64 ((s.1:Nat):Int))))]) (fun s=>[(⟨64,18,(s.2.flatMap aW).map .t⟩:Ob)].map some) (fun s=>Ins P S Q s.2 t s.1∧s.2.length=N) (fun s=>s.1) (a+t,D) ⟨hI0,hDn⟩ (cO h0 [0] _ _ (by decide) rfl ⟨rfl,rfl,rfl,rfl,rfl,rfl,trivial⟩ ⟨aC rfl,rfl⟩) ?_
  rintro⟨j,E9⟩ ⟨hI,hE9⟩;dsimp only at hI hE9⊢;have hIl:=hI.len
  refine sq (sq ?_);refine rd [0] (fun i=>[].contains i) mixed ?_
  refine dv 0 ?_;refine dv 1 ?_;refine dv 2 ?_;refine dv 3 ?_;refine WD.split (t:=21) rfl rfl (fun h2=>?_) (fun h2=>?_)
  ·refine dv 4 ?_;refine dv 5 ?_;refine dv 6 ?_;refine dv 7 ?_
   refine kR 8 (cD (f:=aW) (z:=18) (o:=0) (us:=aW (aK E9 (j))) cA (cN (l:=E9) (i:=j) (by omega)) (Nat.le_of_ble_eq_true rfl) rfl) ?_
   refine dv 9 ?_;refine dv 10 ?_;refine dv 11 ?_;refine WD.cast (t:=29) (u':=.int .i64 ((j-1:Nat):Int)) rfl (aG (by omega)) ?_
   refine dv 12 ?_;refine kR 13 (cD (f:=aW) (z:=18) (o:=0) (us:=aW (aK E9 (j-1))) cA (cN (l:=E9) (i:=j-1) (by omega)) (Nat.le_of_ble_eq_true rfl) rfl) ?_
   refine xB 14 1 [.agg ((aW (aK E9 (j))).map .t),.agg ((aW (aK E9 (j-1))).map .t)] rfl rfl (Tv (x:=(aK E9 (j))) (y:=(aK E9 (j-1)))) Jj ⟨rfl,rfl,rfl⟩ ?_;refine df 15 ?_
   refine df 16 ?_;refine bO ?_;refine bH rfl (fun h3=>?_) (fun h3=>?_)
   ·refine sk (sq (bl ?_));refine rd [] (fun i=>[17].contains i) mixed ?_
    refine dv 0 ?_;refine dv 1 ?_;refine dv 2 ?_;refine dv 3 ?_;refine dv 4 ?_;refine WD.cast (t:=41) (u':=.int .i64 ((j-1:Nat):Int)) rfl (aG (by omega)) ?_
    refine dv 5 ?_;refine dv 6 ?_;refine dv 7 ?_;refine WD.cast (t:=44) (u':=.int .i64 ((j-1:Nat):Int)) rfl (aG (by omega)) ?_
    refine dv 8 ?_;refine dv 10 ?_;refine dv 11 ?_;refine dv 12 ?_;repeat' first | refine WO.two (i:=9) (j:=13) (by kernel_rfl) ?_ ?_ | refine lM 9 (cD (f:=aW) (z:=18) (o:=0) (us:=aW (aK E9 (j-1))) cA (cN (l:=E9) (i:=j-1) (by omega)) (Nat.le_of_ble_eq_true rfl) rfl) ?_ | refine WO.one (by kernel_rfl) (lM 13 (cD (f:=aW) (z:=18) (o:=0) (us:=aW (aK E9 (j))) cA (cN (l:=E9) (i:=j) (by omega)) (Nat.le_of_ble_eq_true rfl) rfl) ?_) | refine dv 14 ?_ | refine Ji 15 (eS (xs:=E9) (k:=j) (x:=(aK E9 (j))) (f:=aW) (z:=18) (o:=0) (x':=(aK E9 (j-1))) (us:=aW (aK E9 (j-1))) cA (cN (l:=E9) (i:=j) (by omega)) (Nat.le_of_ble_eq_true rfl) rfl) (gB (xs:=E9) (k:=j) (f:=aW) (z:=18) (o:=0) (us:=aW (aK E9 (j-1))) cA (by omega) (Nat.le_of_ble_eq_true rfl)) ?_ | refine dv 16 ?_ | refine pW 17 (eS (xs:=(E9.set (j) (aK E9 (j-1)))) (k:=j-1) (x:=(aK (E9.set (j) (aK E9 (j-1))) (j-1))) (f:=aW) (z:=18) (o:=0) (x':=(aK E9 (j))) (us:=aW (aK E9 (j))) cA (cN (l:=(E9.set (j) (aK E9 (j-1)))) (i:=j-1) (by simp only[List.length_set];omega)) (Nat.le_of_ble_eq_true rfl) rfl) (gB (xs:=(E9.set (j) (aK E9 (j-1)))) (k:=j-1) (f:=aW) (z:=18) (o:=0) (us:=aW (aK E9 (j))) cA (by simp only[List.length_set];omega) (Nat.le_of_ble_eq_true rfl)) ?_ | refine bO ?_ | refine rl ?_ | refine o1 ?_ | refine WL.cast (t:=36) (u':=.int .i64 ((j-1:Nat):Int)) rfl (aG (by omega)) ?_ | refine nl ?_ | exact⟨(j-1,((E9.set (j) (aK E9 (j-1))).set (j-1) (aK E9 (j)))),by dsimp only;omega,⟨hI.step (by omega) (mT.1 h3),by simp only[List.length_set];exact hE9⟩,cO h0 [0] _ _ (by decide) rfl ⟨rfl,rfl,rfl,rfl,rfl,rfl,trivial⟩ ⟨aC rfl,rfl⟩⟩ | refine lM 13 (cD (f:=aW) (z:=18) (o:=0) (us:=aW (aK E9 (j))) cA (cN (l:=E9) (i:=j) (by omega)) (Nat.le_of_ble_eq_true rfl) rfl) ?_ | refine WO.one (by kernel_rfl) (lM 9 (cD (f:=aW) (z:=18) (o:=0) (us:=aW (aK E9 (j-1))) cA (cN (l:=E9) (i:=j-1) (by omega)) (Nat.le_of_ble_eq_true rfl) rfl) ?_)
   refine ex ?_;have hD2:=hI.stop (by omega) (.inr (fun h9=>h3 (mT.2 h9)))
   refine rl (o1 ?_);refine o1 ?_;refine WL.cast (t:=16) (u':=.int .i64 ((a+t+1:Nat):Int)) rfl (aG (by omega)) ?_
   refine o1 ?_;refine nl ?_;exact⟨(t+1,E9),by dsimp only;omega,⟨by omega,hD2,hE9⟩,cO h0 [0] _ _ (by decide) rfl ⟨rfl,rfl,rfl,rfl,rfl,trivial⟩ ⟨aC rfl,rfl⟩⟩
  refine cH 4 ?_;refine cH 5 ?_;refine cH 6 ?_;refine cH 7 ?_;refine cH 8 ?_;refine cH 9 ?_;refine cH 10 ?_;refine cH 11 ?_;refine cH 12 ?_;refine cH 13 ?_;refine cH 14 ?_
  refine cH 15 ?_;refine dv 16 ?_;refine bO ?_;refine fS rfl (ex ?_);have hD2:=hI.stop (by omega) (.inl (by omega))
  refine rl (o1 ?_);refine o1 ?_;refine WL.cast (t:=16) (u':=.int .i64 ((a+t+1:Nat):Int)) rfl (aG (by omega)) ?_
  refine o1 ?_;refine nl ?_;exact⟨(t+1,E9),by dsimp only;omega,⟨by omega,hD2,hE9⟩,cO h0 [0] _ _ (by decide) rfl ⟨rfl,rfl,rfl,rfl,rfl,trivial⟩ ⟨aC rfl,rfl⟩⟩
 refine ex ?_;have hfin:D=P++(dK S++Q):=by rw[hD,List.take_of_length_le (by omega),List.drop_of_length_le (by omega),List.nil_append]
 exact gL (lent':=[⟨64,18,((P++(dK S++Q)).flatMap aW).map .t⟩]) (.inr rfl) rfl qE (by decide) (fun _ h=>by cases h) ⟨⟨rfl,rfl⟩,trivial⟩ ⟨congrArg (fun l:List Wv=>some (⟨64,18,(l.flatMap aW).map .t⟩:Ob)) hfin,trivial⟩ ⟨cE _,trivial⟩ (fun h=>by cases h) ⟨rfl,rfl⟩
theorem Ty {a b:Nat}:Int.fdiv (((a+b:Nat):Int)) (2^(min (Int.toNat 1) 64))=(((a+b)/2:Nat):Int):=by
 show Int.fdiv _ 2=_
 rw[Int.fdiv_eq_ediv_of_nonneg _ (by omega)]
 omega
set_option maxHeartbeats 4000000 in
theorem GW (n:Nat):∀{N:Nat}{xs P X Y Q:List Wv}{a m b:Nat}(hx:xs=P++(X++(Y++Q))) (ha:P.length=a) (hm:a+X.length=m) (hb:m+Y.length=b) (hX0:0<X.length) (hY0:0<Y.length) (hX:Srd Wv.y X) (hY:Srd Wv.y Y) (hn:X.length+Y.length≤n) (hN:xs.length=N) (hl:N≤1073741823),aF false Tryz.prog 161 [⟨64,18,(xs.flatMap aW).map .t⟩] [.one (.sl 0 0 N),.one (tv (.int .i64 ((a:Nat):Int))),.one (tv (.int .i64 ((m:Nat):Int))),.one (tv (.int .i64 ((b:Nat):Int))),.one (.t (.f 127 [] []))] (Rt [⟨64,18,((P++(dK (X++Y)++Q)).flatMap aW).map .t⟩] (.tup [])):=by
 induction n with
 | zero=>intros;omega
 | succ n ih=>
  intro N xs P X Y Q a m b hx ha hm hb hX0 hY0 hX hY hn hN hl
  refine mS Tryz.func161 rfl Tryz.ntmps161 rfl aB rfl fun N9 M9 w9 c0 h0=>?_
  have hxl:N=a+X.length+Y.length+Q.length:=by rw[←hN,hx];simp only[List.length_append];omega
  refine sq (sq (rl ?_));(iterate 3 refine o1 ?_);refine WL.cast (t:=27) (u':=.int .i64 ((m-a:Nat):Int)) rfl (aG (by omega)) ?_
  refine o1 ?_;refine nl ?_;refine bH rfl (fun h1=>?_) (fun h1=>?_)
  ·refine sq ?_;obtain⟨x,rfl⟩:=List.length_eq_one_iff.1 (show X.length=1 by omega)
   have hm1:m=a+1:=by have h9:([x]:List Wv).length=1:=rfl;omega
   have hmo:∀c d,m≤c→c≤d→d<b→(aK xs d).y<(aK xs a).y→(aK xs c).y<(aK xs a).y:=fun c d h1 h2 h3 h4=>Int.lt_of_le_of_lt (WU hx hY ha hm hb c d h1 h2 h3) h4
   refine rl (o1 ?_);refine o1 ?_;refine nl (sq (rl (o1 ?_)));refine o1 ?_;refine nl (sq (bl ?_))
   refine lp (γ:=Nat×Nat) (fun s=>bP [(0,.one (.sl 0 0 (N))),(1,.one (tv (.int .i64 ((a:Nat):Int)))),(2,.one (tv (.int .i64 ((m:Nat):Int)))),(3,.one (tv (.int .i64 ((b:Nat):Int)))),(4,.one (.t (.f 127 [] []))),(10,.one (tv (.int .i64 ((s.1:Nat):Int)))),(11,.one (tv (.int .i64 ((s.2:Nat):Int))))]) (fun s=>[(⟨64,18,(xs.flatMap aW).map .t⟩:Ob)].map some) (fun s=>Bis (fun c=>(aK xs c).y<(aK xs a).y) m b s.1 s.2) (fun s=>s.2-s.1) (m,b) (Bis.start (by omega)) (cO h0 [0] _ _ (by decide) rfl ⟨rfl,rfl,rfl,rfl,rfl,rfl,rfl,trivial⟩ ⟨aC rfl,rfl⟩) ?_
   rintro⟨i,j⟩ hB;dsimp only at hB⊢;have hBb:=hB.b
   refine sq (sq (rl ?_));(iterate 3 refine o1 ?_);refine nl ?_;refine bH rfl (fun h2=>?_) (fun h2=>?_)
   ·refine sk (bl (sq (rl ?_)));(iterate 3 refine o1 ?_);refine WL.cast (t:=36) (u':=.int .i64 ((i+j:Nat):Int)) rfl (aG (by omega)) ?_
    refine o1 ?_;refine WL.cast (t:=37) (u':=.int .u64 ((i+j:Nat):Int)) rfl (aG (by omega)) ?_
    refine o1 ?_;refine WL.cast (t:=38) (u':=.int .u64 (((i+j)/2:Nat):Int)) rfl (congrArg (Value.int .u64) Ty) ?_;refine o1 ?_
    refine WL.cast (t:=39) (u':=.int .i64 (((i+j)/2:Nat):Int)) rfl (aG (by omega)) ?_
    refine o1 ?_;refine nl (sq ?_);refine rd [0] (fun i=>[].contains i) mixed ?_
    refine dv 0 ?_;refine dv 1 ?_;refine dv 2 ?_;refine dv 3 ?_
    refine kR 4 (cD (f:=aW) (z:=18) (o:=0) (us:=aW (aK xs ((i+j)/2))) cA (cN (l:=xs) (i:=(i+j)/2) (by omega)) (Nat.le_of_ble_eq_true rfl) rfl) ?_
    refine dv 5 ?_;refine dv 6 ?_;refine dv 7 ?_
    refine kR 8 (cD (f:=aW) (z:=18) (o:=0) (us:=aW (aK xs (a))) cA (cN (l:=xs) (i:=a) (by omega)) (Nat.le_of_ble_eq_true rfl) rfl) ?_
    refine xB 9 1 [.agg ((aW (aK xs ((i+j)/2))).map .t),.agg ((aW (aK xs (a))).map .t)] rfl rfl (Tv (x:=(aK xs ((i+j)/2))) (y:=(aK xs (a)))) Jj ⟨rfl,rfl,rfl⟩ ?_
    refine df 10 ?_;refine bO ?_;refine bH rfl (fun h3=>?_) (fun h3=>?_)
    ·refine rl (o1 ?_);refine o1 ?_;refine WL.cast (t:=52) (u':=.int .i64 (((i+j)/2+1:Nat):Int)) rfl (aG (by omega)) ?_
     refine o1 ?_;refine nl ?_
     exact⟨((i+j)/2+1,j),by dsimp only;omega,hB.up hmo (by omega) (by omega) (mT.1 h3),cO h0 [0] _ _ (by decide) rfl ⟨rfl,rfl,rfl,rfl,rfl,rfl,rfl,trivial⟩ ⟨aC rfl,rfl⟩⟩
    refine rl (o1 ?_);refine o1 ?_;refine nl ?_
    exact⟨(i,(i+j)/2),by dsimp only;omega,hB.dn hmo (by omega) (by omega) (fun h9=>h3 (mT.2 h9)),cO h0 [0] _ _ (by decide) rfl ⟨rfl,rfl,rfl,rfl,rfl,rfl,rfl,trivial⟩ ⟨aC rfl,rfl⟩⟩
   refine ex (sq (sq (rl (o1 ?_))));refine o1 ?_;refine nl (bl ?_)
   refine lp (γ:=Nat×List Wv) (fun s=>bP [(0,.one (.sl 0 0 (N))),(10,.one (tv (.int .i64 ((i:Nat):Int)))),(13,.one (tv (.int .i64 ((s.1:Nat):Int))))]) (fun s=>[(⟨64,18,(s.2.flatMap aW).map .t⟩:Ob)].map some) (fun s=>(a≤s.1∧s.1+1≤i)∧B1 P x Y Q s.1 s.2∧s.2.length=N) (fun s=>i-s.1) (a,xs) ⟨by dsimp only;omega,(by rw[hx,←ha];exact B1.zero),hN⟩ (cO h0 [0] _ _ (by decide) rfl ⟨rfl,rfl,rfl,trivial⟩ ⟨aC rfl,rfl⟩) ?_
   rintro⟨k,D⟩ ⟨hk,hK,hDn⟩;dsimp only at hk hK hDn⊢;have hKl:=hK.len
   refine sq (sq (rl ?_));(iterate 3 refine o1 ?_);refine WL.cast (t:=57) (u':=.int .i64 ((i-1:Nat):Int)) rfl (aG (by omega)) ?_
   refine o1 ?_;refine nl ?_;refine bH rfl (fun h4=>?_) (fun h4=>?_)
   ·refine sk (sq (bl ?_));refine rd [] (fun i=>[17].contains i) mixed ?_
    refine dv 0 ?_;refine dv 1 ?_;refine dv 2 ?_;refine dv 3 ?_;refine dv 4 ?_;refine WD.cast (t:=65) (u':=.int .i64 ((k+1:Nat):Int)) rfl (aG (by omega)) ?_
    refine dv 5 ?_;refine dv 6 ?_;refine dv 7 ?_;refine WD.cast (t:=68) (u':=.int .i64 ((k+1:Nat):Int)) rfl (aG (by omega)) ?_
    refine dv 8 ?_;refine dv 10 ?_;refine dv 11 ?_;refine dv 12 ?_;repeat' first | refine WO.two (i:=9) (j:=13) (by kernel_rfl) ?_ ?_ | refine lM 9 (cD (f:=aW) (z:=18) (o:=0) (us:=aW (aK D (k+1))) cA (cN (l:=D) (i:=k+1) (by omega)) (Nat.le_of_ble_eq_true rfl) rfl) ?_ | refine WO.one (by kernel_rfl) (lM 13 (cD (f:=aW) (z:=18) (o:=0) (us:=aW (aK D (k))) cA (cN (l:=D) (i:=k) (by omega)) (Nat.le_of_ble_eq_true rfl) rfl) ?_) | refine dv 14 ?_ | refine Ji 15 (eS (xs:=D) (k:=k) (x:=(aK D (k))) (f:=aW) (z:=18) (o:=0) (x':=(aK D (k+1))) (us:=aW (aK D (k+1))) cA (cN (l:=D) (i:=k) (by omega)) (Nat.le_of_ble_eq_true rfl) rfl) (gB (xs:=D) (k:=k) (f:=aW) (z:=18) (o:=0) (us:=aW (aK D (k+1))) cA (by omega) (Nat.le_of_ble_eq_true rfl)) ?_ | refine dv 16 ?_ | refine pW 17 (eS (xs:=(D.set (k) (aK D (k+1)))) (k:=k+1) (x:=(aK (D.set (k) (aK D (k+1))) (k+1))) (f:=aW) (z:=18) (o:=0) (x':=(aK D (k))) (us:=aW (aK D (k))) cA (cN (l:=(D.set (k) (aK D (k+1)))) (i:=k+1) (by simp only[List.length_set];omega)) (Nat.le_of_ble_eq_true rfl) rfl) (gB (xs:=(D.set (k) (aK D (k+1)))) (k:=k+1) (f:=aW) (z:=18) (o:=0) (us:=aW (aK D (k))) cA (by simp only[List.length_set];omega) (Nat.le_of_ble_eq_true rfl)) ?_ | refine bO ?_ | refine rl ?_ | refine o1 ?_ | refine WL.cast (t:=60) (u':=.int .i64 ((k+1:Nat):Int)) rfl (aG (by omega)) ?_ | refine nl ?_ | exact⟨(k+1,((D.set (k) (aK D (k+1))).set (k+1) (aK D (k)))),by dsimp only;omega,⟨by dsimp only;omega,hK.step (by omega),by simp only[List.length_set];exact hDn⟩,cO h0 [0] _ _ (by decide) rfl ⟨rfl,rfl,rfl,trivial⟩ ⟨aC rfl,rfl⟩⟩ | refine lM 13 (cD (f:=aW) (z:=18) (o:=0) (us:=aW (aK D (k))) cA (cN (l:=D) (i:=k) (by omega)) (Nat.le_of_ble_eq_true rfl) rfl) ?_ | refine WO.one (by kernel_rfl) (lM 9 (cD (f:=aW) (z:=18) (o:=0) (us:=aW (aK D (k+1))) cA (cN (l:=D) (i:=k+1) (by omega)) (Nat.le_of_ble_eq_true rfl) rfl) ?_)
   refine ex (rt ?_);have hki:k=i-1:=by omega
   subst hki
   exact gL (lent':=[⟨64,18,((P++(dK ([x]++Y)++Q)).flatMap aW).map .t⟩]) (.inl rfl) rfl qE (by decide) (fun _ h=>by cases h) ⟨⟨rfl,rfl⟩,trivial⟩ ⟨congrArg (fun l:List Wv=>some (⟨64,18,(l.flatMap aW).map .t⟩:Ob)) (WV hx ha hm1 hb hY hB (by omega) hK),trivial⟩ ⟨cE _,trivial⟩ (fun h=>by cases h) ⟨rfl,rfl⟩
  refine sk (sq (sq (rl ?_)));(iterate 3 refine o1 ?_);refine WL.cast (t:=79) (u':=.int .i64 ((b-m:Nat):Int)) rfl (aG (by omega)) ?_
  refine o1 ?_;refine nl ?_;refine bH rfl (fun h5=>?_) (fun h5=>?_)
  ·refine sq ?_;obtain⟨x,rfl⟩:=List.length_eq_one_iff.1 (show Y.length=1 by omega)
   have hb1:b=m+1:=by have h9:([x]:List Wv).length=1:=rfl;omega
   have hmo:∀c d,a≤c→c≤d→d<m→¬(aK xs m).y<(aK xs d).y→¬(aK xs m).y<(aK xs c).y:=fun c d h1 h2 h3 h4 h5=>h4 (Int.lt_of_lt_of_le h5 (WW hx hX ha hm c d h1 h2 h3))
   refine rl (o1 ?_);refine o1 ?_;refine nl (sq (rl (o1 ?_)));refine o1 ?_;refine nl (sq (bl ?_))
   refine lp (γ:=Nat×Nat) (fun s=>bP [(0,.one (.sl 0 0 (N))),(1,.one (tv (.int .i64 ((a:Nat):Int)))),(2,.one (tv (.int .i64 ((m:Nat):Int)))),(3,.one (tv (.int .i64 ((b:Nat):Int)))),(4,.one (.t (.f 127 [] []))),(14,.one (tv (.int .i64 ((s.1:Nat):Int)))),(15,.one (tv (.int .i64 ((s.2:Nat):Int))))]) (fun s=>[(⟨64,18,(xs.flatMap aW).map .t⟩:Ob)].map some) (fun s=>Bis (fun c=>¬(aK xs m).y<(aK xs c).y) a m s.1 s.2) (fun s=>s.2-s.1) (a,m) (Bis.start (by omega)) (cO h0 [0] _ _ (by decide) rfl ⟨rfl,rfl,rfl,rfl,rfl,rfl,rfl,trivial⟩ ⟨aC rfl,rfl⟩) ?_
   rintro⟨i,j⟩ hB;dsimp only at hB⊢;have hBb:=hB.b
   refine sq (sq (rl ?_));(iterate 3 refine o1 ?_);refine nl ?_;refine bH rfl (fun h6=>?_) (fun h6=>?_)
   ·refine sk (bl (sq (rl ?_)));(iterate 3 refine o1 ?_);refine WL.cast (t:=88) (u':=.int .i64 ((i+j:Nat):Int)) rfl (aG (by omega)) ?_
    refine o1 ?_;refine WL.cast (t:=89) (u':=.int .u64 ((i+j:Nat):Int)) rfl (aG (by omega)) ?_
    refine o1 ?_;refine WL.cast (t:=90) (u':=.int .u64 (((i+j)/2:Nat):Int)) rfl (congrArg (Value.int .u64) Ty) ?_;refine o1 ?_
    refine WL.cast (t:=91) (u':=.int .i64 (((i+j)/2:Nat):Int)) rfl (aG (by omega)) ?_
    refine o1 ?_;refine nl (sq ?_);refine rd [0] (fun i=>[].contains i) mixed ?_
    refine dv 0 ?_;refine dv 1 ?_;refine dv 2 ?_;refine dv 3 ?_
    refine kR 4 (cD (f:=aW) (z:=18) (o:=0) (us:=aW (aK xs (m))) cA (cN (l:=xs) (i:=m) (by omega)) (Nat.le_of_ble_eq_true rfl) rfl) ?_
    refine dv 5 ?_;refine dv 6 ?_;refine dv 7 ?_
    refine kR 8 (cD (f:=aW) (z:=18) (o:=0) (us:=aW (aK xs ((i+j)/2))) cA (cN (l:=xs) (i:=(i+j)/2) (by omega)) (Nat.le_of_ble_eq_true rfl) rfl) ?_
    refine xB 9 1 [.agg ((aW (aK xs (m))).map .t),.agg ((aW (aK xs ((i+j)/2))).map .t)] rfl rfl (Tv (x:=(aK xs (m))) (y:=(aK xs ((i+j)/2)))) Jj ⟨rfl,rfl,rfl⟩ ?_
    refine df 10 ?_;refine WD.split (t:=102) rfl rfl (fun h7=>?_) (fun h7=>?_)
    ·refine df 11 ?_;refine bO ?_;refine fS rfl (rl (o1 ?_));refine o1 ?_;refine nl ?_
     exact⟨(i,(i+j)/2),by dsimp only;omega,hB.dn hmo (by omega) (by omega) (fun h9=>h9 (mT.1 h7)),cO h0 [0] _ _ (by decide) rfl ⟨rfl,rfl,rfl,rfl,rfl,rfl,rfl,trivial⟩ ⟨aC rfl,rfl⟩⟩
    refine df 11 ?_;refine bO ?_;refine iX rfl (rl (o1 ?_));refine o1 ?_
    refine WL.cast (t:=105) (u':=.int .i64 (((i+j)/2+1:Nat):Int)) rfl (aG (by omega)) ?_
    refine o1 ?_;refine nl ?_
    exact⟨((i+j)/2+1,j),by dsimp only;omega,hB.up hmo (by omega) (by omega) (fun h9=>h7 (mT.2 h9)),cO h0 [0] _ _ (by decide) rfl ⟨rfl,rfl,rfl,rfl,rfl,rfl,rfl,trivial⟩ ⟨aC rfl,rfl⟩⟩
   refine ex (sq (sq (rl (o1 ?_))));refine o1 ?_;refine nl (bl ?_)
   refine lp (γ:=Nat×List Wv) (fun s=>bP [(0,.one (.sl 0 0 (N))),(14,.one (tv (.int .i64 ((i:Nat):Int)))),(17,.one (tv (.int .i64 ((s.1:Nat):Int))))]) (fun s=>[(⟨64,18,(s.2.flatMap aW).map .t⟩:Ob)].map some) (fun s=>i≤s.1∧B2 P X x Q s.1 s.2∧s.2.length=N) (fun s=>s.1) (m,xs) ⟨by dsimp only;omega,(by rw[hx,←hm,←ha];exact B2.zero),hN⟩ (cO h0 [0] _ _ (by decide) rfl ⟨rfl,rfl,rfl,trivial⟩ ⟨aC rfl,rfl⟩) ?_
   rintro⟨k,D⟩ ⟨hk,hK,hDn⟩;dsimp only at hk hK hDn⊢;have hKl:=hK.len
   refine sq (sq (rl ?_));(iterate 3 refine o1 ?_);refine nl ?_;refine bH rfl (fun h8=>?_) (fun h8=>?_)
   ·refine sk (sq (bl ?_));refine rd [] (fun i=>[17].contains i) mixed ?_
    refine dv 0 ?_;refine dv 1 ?_;refine dv 2 ?_;refine dv 3 ?_;refine dv 4 ?_;refine WD.cast (t:=117) (u':=.int .i64 ((k-1:Nat):Int)) rfl (aG (by omega)) ?_
    refine dv 5 ?_;refine dv 6 ?_;refine dv 7 ?_;refine WD.cast (t:=120) (u':=.int .i64 ((k-1:Nat):Int)) rfl (aG (by omega)) ?_
    refine dv 8 ?_;refine dv 10 ?_;refine dv 11 ?_;refine dv 12 ?_;repeat' first | refine WO.two (i:=9) (j:=13) (by kernel_rfl) ?_ ?_ | refine lM 9 (cD (f:=aW) (z:=18) (o:=0) (us:=aW (aK D (k-1))) cA (cN (l:=D) (i:=k-1) (by omega)) (Nat.le_of_ble_eq_true rfl) rfl) ?_ | refine WO.one (by kernel_rfl) (lM 13 (cD (f:=aW) (z:=18) (o:=0) (us:=aW (aK D (k))) cA (cN (l:=D) (i:=k) (by omega)) (Nat.le_of_ble_eq_true rfl) rfl) ?_) | refine dv 14 ?_ | refine Ji 15 (eS (xs:=D) (k:=k) (x:=(aK D (k))) (f:=aW) (z:=18) (o:=0) (x':=(aK D (k-1))) (us:=aW (aK D (k-1))) cA (cN (l:=D) (i:=k) (by omega)) (Nat.le_of_ble_eq_true rfl) rfl) (gB (xs:=D) (k:=k) (f:=aW) (z:=18) (o:=0) (us:=aW (aK D (k-1))) cA (by omega) (Nat.le_of_ble_eq_true rfl)) ?_ | refine dv 16 ?_ | refine pW 17 (eS (xs:=(D.set (k) (aK D (k-1)))) (k:=k-1) (x:=(aK (D.set (k) (aK D (k-1))) (k-1))) (f:=aW) (z:=18) (o:=0) (x':=(aK D (k))) (us:=aW (aK D (k))) cA (cN (l:=(D.set (k) (aK D (k-1)))) (i:=k-1) (by simp only[List.length_set];omega)) (Nat.le_of_ble_eq_true rfl) rfl) (gB (xs:=(D.set (k) (aK D (k-1)))) (k:=k-1) (f:=aW) (z:=18) (o:=0) (us:=aW (aK D (k))) cA (by simp only[List.length_set];omega) (Nat.le_of_ble_eq_true rfl)) ?_ | refine bO ?_ | refine rl ?_ | refine o1 ?_ | refine WL.cast (t:=112) (u':=.int .i64 ((k-1:Nat):Int)) rfl (aG (by omega)) ?_ | refine nl ?_ | exact⟨(k-1,((D.set (k) (aK D (k-1))).set (k-1) (aK D (k)))),by dsimp only;omega,⟨by dsimp only;omega,hK.step (by omega),by simp only[List.length_set];exact hDn⟩,cO h0 [0] _ _ (by decide) rfl ⟨rfl,rfl,rfl,trivial⟩ ⟨aC rfl,rfl⟩⟩ | refine lM 13 (cD (f:=aW) (z:=18) (o:=0) (us:=aW (aK D (k))) cA (cN (l:=D) (i:=k) (by omega)) (Nat.le_of_ble_eq_true rfl) rfl) ?_ | refine WO.one (by kernel_rfl) (lM 9 (cD (f:=aW) (z:=18) (o:=0) (us:=aW (aK D (k-1))) cA (cN (l:=D) (i:=k-1) (by omega)) (Nat.le_of_ble_eq_true rfl) rfl) ?_)
   refine ex (rt ?_);have hki:k=i:=by omega
   subst hki
   exact gL (lent':=[⟨64,18,((P++(dK (X++[x])++Q)).flatMap aW).map .t⟩]) (.inl rfl) rfl qE (by decide) (fun _ h=>by cases h) ⟨⟨rfl,rfl⟩,trivial⟩ ⟨congrArg (fun l:List Wv=>some (⟨64,18,(l.flatMap aW).map .t⟩:Ob)) (WX hx ha hm hX hB (by omega) hK),trivial⟩ ⟨cE _,trivial⟩ (fun h=>by cases h) ⟨rfl,rfl⟩
  refine sk (sq (rl ?_));(iterate 3 refine o1 ?_);refine WL.cast (t:=131) (u':=.int .i64 ((a+b:Nat):Int)) rfl (aG (by omega)) ?_
  refine o1 ?_;refine WL.cast (t:=132) (u':=.int .u64 ((a+b:Nat):Int)) rfl (aG (by omega)) ?_
  refine o1 ?_;refine WL.cast (t:=133) (u':=.int .u64 (((a+b)/2:Nat):Int)) rfl (congrArg (Value.int .u64) Ty) ?_;refine o1 ?_
  refine WL.cast (t:=134) (u':=.int .i64 (((a+b)/2:Nat):Int)) rfl (aG (by omega)) ?_
  refine o1 ?_;refine nl (sq (rl ?_));(iterate 3 refine o1 ?_);refine WL.cast (t:=137) (u':=.int .i64 (((a+b)/2+m:Nat):Int)) rfl (aG (by omega)) ?_
  refine o1 ?_;refine nl (sq (rl (o1 ?_)));refine o1 ?_;refine nl ?_
  refine md (γ:=Unit) (fun _=>bP [(0,.one (.sl 0 0 (N))),(1,.one (tv (.int .i64 ((a:Nat):Int)))),(2,.one (tv (.int .i64 ((m:Nat):Int)))),(3,.one (tv (.int .i64 ((b:Nat):Int)))),(4,.one (.t (.f 127 [] []))),(18,.one (tv (.int .i64 (((a+b)/2:Nat):Int)))),(19,.one (tv (.int .i64 (((a+b)/2+m:Nat):Int)))),(20,.one (tv (.int .i64 (((if(a+b)/2<m then(a+b)/2+m-b else a):Nat):Int)))),(21,.one (tv (.int .i64 (((if(a+b)/2<m then(a+b)/2 else m):Nat):Int))))]) (fun _=>([⟨64,18,(xs.flatMap aW).map .t⟩]:List Ob).map some) (fun _=>True) ?_ fun _ _=>?_
  ·refine sq (rl ?_);(iterate 3 refine o1 ?_);refine nl ?_;refine bH rfl (fun h9=>?_) (fun h9=>?_)
   ·refine sq (rl ?_);(iterate 3 refine o1 ?_);refine WL.cast (t:=143) (u':=.int .i64 (((a+b)/2+m-b:Nat):Int)) rfl (aG (by omega)) ?_
    refine o1 ?_;refine nl (rl (o1 ?_));refine o1 ?_;refine nl ?_
    exact⟨(),trivial,cO h0 [0] _ _ (by decide) rfl ⟨rfl,rfl,rfl,rfl,rfl,rfl,rfl,rJ (by rw[if_pos (by omega)]),rJ (by rw[if_pos (by omega)]),trivial⟩ ⟨aC rfl,rfl⟩⟩
   refine sq (rl (o1 ?_));refine o1 ?_;refine nl (rl (o1 ?_));refine o1 ?_;refine nl ?_
   exact⟨(),trivial,cO h0 [0] _ _ (by decide) rfl ⟨rfl,rfl,rfl,rfl,rfl,rfl,rfl,rJ (by rw[if_neg (by omega)]),rJ (by rw[if_neg (by omega)]),trivial⟩ ⟨aC rfl,rfl⟩⟩
  refine sq ?_
  have hlohi:∃lo hi:Nat,lo=(if(a+b)/2<m then(a+b)/2+m-b else a)∧hi=(if(a+b)/2<m then(a+b)/2 else m)∧a≤lo∧lo≤hi∧hi≤m∧(∀c,lo≤c→c<hi→m≤(a+b)/2+m-1-c∧(a+b)/2+m-1-c<b∧c≤(a+b)/2+m-1)∧(lo=a∨(a+b)/2+m-lo=b)∧(hi=m∨(a+b)/2+m-hi=m)∧(∀s,lo≤s→s≤hi→m≤(a+b)/2+m-s∧(a+b)/2+m-s≤b∧s≤(a+b)/2+m):=by
   by_cases h9:(a+b)/2<m
   ·rw[if_pos h9,if_pos h9]
    exact⟨_,_,rfl,rfl,by omega,by omega,by omega,fun c h1 h2=>by omega,.inr (by omega),.inr (by omega),fun s h1 h2=>by omega⟩
   rw[if_neg h9,if_neg h9]
   exact⟨_,_,rfl,rfl,by omega,by omega,by omega,fun c h1 h2=>by omega,.inl rfl,.inl rfl,fun s h1 h2=>by omega⟩
  obtain⟨lo,hi,hlo,hhi,hl1,hl2,hl3,hp1,hl4,hl5,hs1⟩:=hlohi
  rw[←hlo,←hhi];clear hlo hhi;refine rl (o1 ?_);refine o1 ?_;refine WL.cast (t:=148) (u':=.int .i64 (((a+b)/2+m-1:Nat):Int)) rfl (aG (by omega)) ?_
  refine o1 ?_;refine nl (sq (bl ?_))
  refine lp (γ:=Nat×Nat) (fun s=>bP [(0,.one (.sl 0 0 (N))),(1,.one (tv (.int .i64 ((a:Nat):Int)))),(2,.one (tv (.int .i64 ((m:Nat):Int)))),(3,.one (tv (.int .i64 ((b:Nat):Int)))),(4,.one (.t (.f 127 [] []))),(18,.one (tv (.int .i64 (((a+b)/2:Nat):Int)))),(19,.one (tv (.int .i64 (((a+b)/2+m:Nat):Int)))),(20,.one (tv (.int .i64 ((s.1:Nat):Int)))),(21,.one (tv (.int .i64 ((s.2:Nat):Int)))),(22,.one (tv (.int .i64 ((((a+b)/2+m-1):Nat):Int))))]) (fun s=>[(⟨64,18,(xs.flatMap aW).map .t⟩:Ob)].map some) (fun s=>Cut xs ((a+b)/2+m-1) lo hi s.1 s.2) (fun s=>s.2-s.1) (lo,hi) (Cut.start hl2) (cO h0 [0] _ _ (by decide) rfl ⟨rfl,rfl,rfl,rfl,rfl,rfl,rfl,rfl,rfl,rfl,trivial⟩ ⟨aC rfl,rfl⟩) ?_
  rintro⟨s,r⟩ hC;dsimp only at hC⊢;have hCb:=hC.b
  have hp9:=hp1 ((s+r)/2)
  refine sq (sq (rl ?_));(iterate 3 refine o1 ?_);refine nl ?_;refine bH rfl (fun h10=>?_) (fun h10=>?_)
  ·refine sk (bl (sq (rl ?_)));(iterate 3 refine o1 ?_);refine WL.cast (t:=154) (u':=.int .i64 ((s+r:Nat):Int)) rfl (aG (by omega)) ?_
   refine o1 ?_;refine WL.cast (t:=155) (u':=.int .u64 ((s+r:Nat):Int)) rfl (aG (by omega)) ?_
   refine o1 ?_;refine WL.cast (t:=156) (u':=.int .u64 (((s+r)/2:Nat):Int)) rfl (congrArg (Value.int .u64) Ty) ?_;refine o1 ?_
   refine WL.cast (t:=157) (u':=.int .i64 (((s+r)/2:Nat):Int)) rfl (aG (by omega)) ?_
   refine o1 ?_;refine nl (sq ?_);refine rd [0] (fun i=>[].contains i) mixed ?_
   refine dv 0 ?_;refine dv 1 ?_;refine dv 2 ?_;refine dv 3 ?_;refine dv 4 ?_
   refine WD.cast (t:=162) (u':=.int .i64 ((((a+b)/2+m-1)-((s+r)/2):Nat):Int)) rfl (aG (by omega)) ?_
   refine dv 5 ?_
   refine kR 6 (cD (f:=aW) (z:=18) (o:=0) (us:=aW (aK xs (((a+b)/2+m-1)-((s+r)/2)))) cA (cN (l:=xs) (i:=((a+b)/2+m-1)-((s+r)/2)) (by omega)) (Nat.le_of_ble_eq_true rfl) rfl) ?_
   refine dv 7 ?_;refine dv 8 ?_;refine dv 9 ?_
   refine kR 10 (cD (f:=aW) (z:=18) (o:=0) (us:=aW (aK xs ((s+r)/2))) cA (cN (l:=xs) (i:=(s+r)/2) (by omega)) (Nat.le_of_ble_eq_true rfl) rfl) ?_
   refine xB 11 1 [.agg ((aW (aK xs (((a+b)/2+m-1)-((s+r)/2)))).map .t),.agg ((aW (aK xs ((s+r)/2))).map .t)] rfl rfl (Tv (x:=(aK xs (((a+b)/2+m-1)-((s+r)/2)))) (y:=(aK xs ((s+r)/2)))) Jj ⟨rfl,rfl,rfl⟩ ?_
   refine df 12 ?_;refine WD.split (t:=170) rfl rfl (fun h11=>?_) (fun h11=>?_)
   ·refine df 13 ?_;refine bO ?_;refine fS rfl (rl (o1 ?_));refine o1 ?_;refine nl ?_
    exact⟨(s,(s+r)/2),by dsimp only;omega,hC.dn hx hX hY (by omega) (by omega) (by rw[ha,hm,hb];exact hp1) (by omega) (by omega) (mT.1 h11),cO h0 [0] _ _ (by decide) rfl ⟨rfl,rfl,rfl,rfl,rfl,rfl,rfl,rfl,rfl,rfl,trivial⟩ ⟨aC rfl,rfl⟩⟩
   refine df 13 ?_;refine bO ?_;refine iX rfl (rl (o1 ?_));refine o1 ?_
   refine WL.cast (t:=173) (u':=.int .i64 (((s+r)/2+1:Nat):Int)) rfl (aG (by omega)) ?_
   refine o1 ?_;refine nl ?_
   exact⟨((s+r)/2+1,r),by dsimp only;omega,hC.up hx hX hY (by omega) (by omega) (by rw[ha,hm,hb];exact hp1) (by omega) (by omega) (fun h9=>h11 (mT.2 h9)),cO h0 [0] _ _ (by decide) rfl ⟨rfl,rfl,rfl,rfl,rfl,rfl,rfl,rfl,rfl,rfl,trivial⟩ ⟨aC rfl,rfl⟩⟩
  refine ex (sq ?_);have hs9:=hs1 s (by omega) (by omega)
  obtain⟨A,B,C,E,hXA,hYC,hA,hCl,hfin⟩:=hC.fin hx hX hY (by omega) (by omega) (by rw[ha,hm,hb];exact hp1) (by omega) (by omega) (by omega) (by omega)
  have hXl:X.length=A.length+B.length:=by rw[hXA,List.length_append]
  have hYl:Y.length=C.length+E.length:=by rw[hYC,List.length_append]
  rw[hXA,hYC]at hx;have hX9:=hX;have hY9:=hY
  rw[hXA]at hX9;rw[hYC]at hY9;clear hl4 hl5 hp9 hp1 hs1 hC;refine rl ?_;(iterate 3 refine o1 ?_)
  refine WL.cast (t:=177) (u':=.int .i64 (((a+b)/2+m-s:Nat):Int)) rfl (aG (by omega)) ?_
  refine o1 ?_;refine nl ?_
  refine md (γ:=Unit) (fun _=>bP [(0,.one (.sl 0 0 (N))),(1,.one (tv (.int .i64 ((a:Nat):Int)))),(3,.one (tv (.int .i64 ((b:Nat):Int)))),(4,.one (.t (.f 127 [] []))),(18,.one (tv (.int .i64 (((a+b)/2:Nat):Int)))),(20,.one (tv (.int .i64 ((s:Nat):Int)))),(24,.one (tv (.int .i64 (((a+b)/2+m-s:Nat):Int))))]) (fun _=>([⟨64,18,((P++(A++(C++(B++(E++Q))))).flatMap aW).map .t⟩]:List Ob).map some) (fun _=>True) ?_ fun _ _=>?_
  ·refine md (γ:=Unit) (fun _=>bP [(0,.one (.sl 0 0 (N))),(1,.one (tv (.int .i64 ((a:Nat):Int)))),(2,.one (tv (.int .i64 ((m:Nat):Int)))),(3,.one (tv (.int .i64 ((b:Nat):Int)))),(4,.one (.t (.f 127 [] []))),(18,.one (tv (.int .i64 (((a+b)/2:Nat):Int)))),(20,.one (tv (.int .i64 ((s:Nat):Int)))),(24,.one (tv (.int .i64 (((a+b)/2+m-s:Nat):Int)))),(185,.one (tv (.bool (decide (((s:Nat):Int)<((m:Nat):Int))&&decide (((m:Nat):Int)<((((a+b)/2+m-s):Nat):Int))))))]) (fun _=>([⟨64,18,(xs.flatMap aW).map .t⟩]:List Ob).map some) (fun _=>True) ?_ fun _ _=>?_
   ·refine rl ?_;(iterate 4 refine o1 ?_);refine WL.split (t:=181) rfl (fun h12=>?_) (fun h12=>?_)
    ·(iterate 4 refine o1 ?_);refine nl ?_
     exact⟨(),trivial,cO h0 [0] _ _ (by decide) rfl ⟨rfl,rfl,rfl,rfl,rfl,rfl,rfl,rfl,mU (by simp only[decide_eq_false h10,decide_eq_true h12] <;> first | rfl | simp),trivial⟩ ⟨aC rfl,rfl⟩⟩
    (iterate 3 refine dD ?_);refine o1 ?_;refine nl ?_
    exact⟨(),trivial,cO h0 [0] _ _ (by decide) rfl ⟨rfl,rfl,rfl,rfl,rfl,rfl,rfl,rfl,mU (by simp only[decide_eq_false h10,decide_eq_false h12] <;> first | rfl | simp),trivial⟩ ⟨aC rfl,rfl⟩⟩
   refine mR rfl (fun h13=>?_) (fun h13=>?_)
   ·refine rl ?_;(iterate 5 refine o1 ?_);rw[Bool.and_eq_true,decide_eq_true_eq,decide_eq_true_eq]at h13
    refine cl 1 [0] (UE (a:=s) (m:=m) (b:=((a+b)/2+m-s)) (OO (n:=((a+b)/2+m-s)) hx (by omega) (by omega) (by omega)) (by omega) (by omega) hN hl) UF ⟨aC rfl,rfl⟩ ⟨rfl,rfl,rfl,rfl,rfl,rfl⟩ (ok:=[some ⟨64,18,((P++(A++(C++(B++(E++Q))))).flatMap aW).map .t⟩]) ⟨aC rfl,rfl⟩ ?_
    refine nl ?_;exact⟨(),trivial,cO h0 [0] _ _ (by decide) rfl ⟨rfl,rfl,rfl,rfl,rfl,rfl,rfl,trivial⟩ ⟨aC rfl,rfl⟩⟩
   refine sk ?_
   exact⟨(),trivial,cO h0 [0] _ _ (by decide) rfl ⟨rfl,rfl,rfl,rfl,rfl,rfl,rfl,trivial⟩ ⟨aC (congrArg (fun l:List Wv=>some (⟨64,18,(l.flatMap aW).map .t⟩:Ob)) (OP hx (by rw[Bool.and_eq_false_iff,decide_eq_false_iff_not,decide_eq_false_iff_not]at h13;omega))),rfl⟩⟩
  refine md (γ:=Unit) (fun _=>bP [(0,.one (.sl 0 0 (N))),(3,.one (tv (.int .i64 ((b:Nat):Int)))),(4,.one (.t (.f 127 [] []))),(18,.one (tv (.int .i64 (((a+b)/2:Nat):Int)))),(24,.one (tv (.int .i64 (((a+b)/2+m-s:Nat):Int))))]) (fun _=>([⟨64,18,((P++(dK (A++C)++(B++(E++Q)))).flatMap aW).map .t⟩]:List Ob).map some) (fun _=>True) ?_ fun _ _=>?_
  ·refine md (γ:=Unit) (fun _=>bP [(0,.one (.sl 0 0 (N))),(1,.one (tv (.int .i64 ((a:Nat):Int)))),(3,.one (tv (.int .i64 ((b:Nat):Int)))),(4,.one (.t (.f 127 [] []))),(18,.one (tv (.int .i64 (((a+b)/2:Nat):Int)))),(20,.one (tv (.int .i64 ((s:Nat):Int)))),(24,.one (tv (.int .i64 (((a+b)/2+m-s:Nat):Int)))),(199,.one (tv (.bool (decide (((a:Nat):Int)<((s:Nat):Int))&&decide (((s:Nat):Int)<(((a+b)/2:Nat):Int))))))]) (fun _=>([⟨64,18,((P++(A++(C++(B++(E++Q))))).flatMap aW).map .t⟩]:List Ob).map some) (fun _=>True) ?_ fun _ _=>?_
   ·refine rl ?_;(iterate 4 refine o1 ?_);refine WL.split (t:=195) rfl (fun h14=>?_) (fun h14=>?_)
    ·(iterate 4 refine o1 ?_);refine nl ?_
     exact⟨(),trivial,cO h0 [0] _ _ (by decide) rfl ⟨rfl,rfl,rfl,rfl,rfl,rfl,rfl,mU (by simp only[decide_eq_false h10,decide_eq_true h14] <;> first | rfl | simp),trivial⟩ ⟨aC rfl,rfl⟩⟩
    (iterate 3 refine dD ?_);refine o1 ?_;refine nl ?_
    exact⟨(),trivial,cO h0 [0] _ _ (by decide) rfl ⟨rfl,rfl,rfl,rfl,rfl,rfl,rfl,mU (by simp only[decide_eq_false h10,decide_eq_false h14] <;> first | rfl | simp),trivial⟩ ⟨aC rfl,rfl⟩⟩
   refine mR rfl (fun h15=>?_) (fun h15=>?_)
   ·refine rl ?_;(iterate 5 refine o1 ?_);rw[Bool.and_eq_true,decide_eq_true_eq,decide_eq_true_eq]at h15
    refine cl 1 [0] (ih (P:=P) (X:=A) (Y:=C) (Q:=B++(E++Q)) (a:=a) (m:=s) (b:=(a+b)/2) rfl ha (by omega) (by omega) (by omega) (by omega) hX9.l hY9.l (by omega) (by rw[←hN,hx];simp only[List.length_append,iB];omega) hl) Jk ⟨aC rfl,rfl⟩ ⟨rfl,rfl,rfl,rfl,rfl,rfl⟩ (ok:=[some ⟨64,18,((P++(dK (A++C)++(B++(E++Q)))).flatMap aW).map .t⟩]) ⟨aC rfl,rfl⟩ ?_
    refine nl ?_;exact⟨(),trivial,cO h0 [0] _ _ (by decide) rfl ⟨rfl,rfl,rfl,rfl,rfl,trivial⟩ ⟨aC rfl,rfl⟩⟩
   refine sk ?_
   exact⟨(),trivial,cO h0 [0] _ _ (by decide) rfl ⟨rfl,rfl,rfl,rfl,rfl,trivial⟩ ⟨aC (congrArg (fun l:List Wv=>some (⟨64,18,(l.flatMap aW).map .t⟩:Ob)) (show(P++(A++(C++(B++(E++Q)))))=(P++(dK (A++C)++(B++(E++Q)))) by rw[Xi hX9.l hY9.l (by rw[Bool.and_eq_false_iff,decide_eq_false_iff_not,decide_eq_false_iff_not]at h15;omega)];simp)),rfl⟩⟩
  refine md (γ:=Unit) (fun _=>bP [(0,.one (.sl 0 0 (N))),(3,.one (tv (.int .i64 ((b:Nat):Int)))),(4,.one (.t (.f 127 [] []))),(18,.one (tv (.int .i64 (((a+b)/2:Nat):Int)))),(24,.one (tv (.int .i64 (((a+b)/2+m-s:Nat):Int)))),(213,.one (tv (.bool (decide ((((a+b)/2:Nat):Int)<((((a+b)/2+m-s):Nat):Int))&&decide (((((a+b)/2+m-s):Nat):Int)<((b:Nat):Int))))))]) (fun _=>([⟨64,18,((P++(dK (A++C)++(B++(E++Q)))).flatMap aW).map .t⟩]:List Ob).map some) (fun _=>True) ?_ fun _ _=>?_
  ·refine rl ?_;(iterate 4 refine o1 ?_);refine WL.split (t:=209) rfl (fun h16=>?_) (fun h16=>?_)
   ·(iterate 4 refine o1 ?_);refine nl ?_
    exact⟨(),trivial,cO h0 [0] _ _ (by decide) rfl ⟨rfl,rfl,rfl,rfl,rfl,mU (by simp only[decide_eq_false h10,decide_eq_true h16] <;> first | rfl | simp),trivial⟩ ⟨aC rfl,rfl⟩⟩
   (iterate 3 refine dD ?_);refine o1 ?_;refine nl ?_
   exact⟨(),trivial,cO h0 [0] _ _ (by decide) rfl ⟨rfl,rfl,rfl,rfl,rfl,mU (by simp only[decide_eq_false h10,decide_eq_false h16] <;> first | rfl | simp),trivial⟩ ⟨aC rfl,rfl⟩⟩
  refine mR rfl (fun h17=>?_) (fun h17=>?_)
  ·refine rl ?_;(iterate 5 refine o1 ?_);rw[Bool.and_eq_true,decide_eq_true_eq,decide_eq_true_eq]at h17
   refine cl 1 [0] (ih (xs:=(P++(dK (A++C)++(B++(E++Q))))) (P:=P++dK (A++C)) (X:=B) (Y:=E) (Q:=Q) (a:=(a+b)/2) (m:=((a+b)/2+m-s)) (b:=b) (by simp) (by rw[List.length_append,iB,List.length_append];omega) (by omega) (by omega) (by omega) (by omega) hX9.r hY9.r (by omega) (by rw[←hN,hx];simp only[List.length_append,iB];omega) hl) Jk ⟨aC rfl,rfl⟩ ⟨rfl,rfl,rfl,rfl,rfl,rfl⟩ (ok:=[some ⟨64,18,(((P++dK (A++C))++(dK (B++E)++Q)).flatMap aW).map .t⟩]) ⟨aC rfl,rfl⟩ ?_
   refine nl ?_
   exact gL (lent':=[⟨64,18,((P++(dK (X++Y)++Q)).flatMap aW).map .t⟩]) (.inr rfl) rfl qE (by decide) (fun _ h=>by cases h) ⟨⟨rfl,rfl⟩,trivial⟩ ⟨congrArg (fun l:List Wv=>some (⟨64,18,(l.flatMap aW).map .t⟩:Ob)) (show((P++dK (A++C))++(dK (B++E)++Q))=(P++(dK (X++Y)++Q)) by rw[hfin];simp),trivial⟩ ⟨cE _,trivial⟩ (fun h=>by cases h) ⟨rfl,rfl⟩
  refine sk ?_
  exact gL (lent':=[⟨64,18,((P++(dK (X++Y)++Q)).flatMap aW).map .t⟩]) (.inr rfl) rfl qE (by decide) (fun _ h=>by cases h) ⟨⟨rfl,rfl⟩,trivial⟩ ⟨congrArg (fun l:List Wv=>some (⟨64,18,(l.flatMap aW).map .t⟩:Ob)) (show(P++(dK (A++C)++(B++(E++Q))))=(P++(dK (X++Y)++Q)) by rw[hfin,Xi (A:=B) hX9.r hY9.r (by rw[Bool.and_eq_false_iff,decide_eq_false_iff_not,decide_eq_false_iff_not]at h17;omega)];simp),trivial⟩ ⟨cE _,trivial⟩ (fun h=>by cases h) ⟨rfl,rfl⟩
theorem KD {N:Nat}{xs:List Wv}(hN:xs.length=N) (hl:N≤1073741823):aF false Tryz.prog 145 [⟨64,18,(xs.flatMap aW).map .t⟩] [.one (.sl 0 0 N),.one (tv (.int .i64 ((N:Nat):Int))),.one (.t (.f 127 [] []))] (Rt [⟨64,18,((dK xs).flatMap aW).map .t⟩] (.tup [])):=by
 refine mS Tryz.func145 rfl Tryz.ntmps145 rfl aB rfl fun N9 M9 w9 c0 h0=>?_
 refine sq (rl (o1 ?_));refine nl (sq (rl ?_));(iterate 3 refine o1 ?_);refine nl (sq (bl ?_))
 refine lp (γ:=Nat×Nat×List Wv) (fun s=>bP [(0,.one (.sl 0 0 (N))),(1,.one (tv (.int .i64 ((N:Nat):Int)))),(2,.one (.t (.f 127 [] []))),(6,.one (tv (.int .i64 ((20:Nat):Int)))),(7,.one (tv (.int .i64 ((s.2.1:Nat):Int)))),(8,.one (tv (.int .i64 ((s.2.1+20:Nat):Int))))]) (fun s=>[(⟨64,18,(s.2.2.flatMap aW).map .t⟩:Ob)].map some) (fun s=>s.2.1=s.1*20∧s.2.1≤N∧Blk9 20 s.1 s.2.2∧Kp Wv.y s.2.2 xs∧s.2.2.length=N) (fun s=>N-s.2.1) (0,0,xs) ⟨rfl,Nat.zero_le _,fun k h9=>absurd h9 (Nat.not_lt_zero k),Kp.refl,hN⟩ (cO h0 [0] _ _ (by decide) rfl ⟨rfl,rfl,rfl,rfl,rfl,rfl,trivial⟩ ⟨aC rfl,rfl⟩) ?_
 rintro⟨t,a,D⟩ ⟨hat,haN,hB,hK,hDn⟩;dsimp only at hat haN hB hK hDn⊢;refine sq (sq (rl ?_));(iterate 3 refine o1 ?_);refine nl ?_
 refine bH rfl (fun h1=>?_) (fun h1=>?_)
 ·refine sk (bl (sq (rl ?_)));(iterate 4 refine o1 ?_);obtain⟨P,S,Q,hD,hP,hS,hQ⟩:=Tz (D:=D) (a:=a) (b:=a+20) (by omega) (by omega)
  subst hD
  refine cl 1 [0] (Xh (P:=P) (S:=S) (Q:=Q) (a:=a) (b:=a+20) rfl hP (by omega) hDn hl) GX ⟨aC rfl,rfl⟩ ⟨rfl,rfl,rfl,rfl,rfl⟩ (ok:=[some ⟨64,18,((P++(dK S++Q)).flatMap aW).map .t⟩]) ⟨aC rfl,rfl⟩ ?_
  refine nl (sq (rl (o1 ?_)));refine o1 ?_;refine nl (rl ?_);(iterate 3 refine o1 ?_)
  refine WL.cast (t:=22) (u':=.int .i64 ((a+20+20:Nat):Int)) rfl (aG (by omega)) ?_
  refine o1 ?_;refine nl ?_
  exact⟨(t+1,a+20,(P++(dK S++Q))),by dsimp only;omega,⟨by dsimp only;omega,by dsimp only;omega,hB.step (by omega) (by omega),Ua hK,by simp only[List.length_append,iB]at hDn⊢;exact hDn⟩,cO h0 [0] _ _ (by decide) rfl ⟨rfl,rfl,rfl,rfl,rfl,rfl,trivial⟩ ⟨aC rfl,rfl⟩⟩
 refine ex (sq (rl ?_));(iterate 4 refine o1 ?_);obtain⟨P,S,hD,hP,hS⟩:=vN (D:=D) (a:=a) (by omega)
 have hSl:a+S.length=N:=by rw[hS,hDn];omega
 subst hD;have hDx:P++(S++[])=P++S:=by rw[List.append_nil]
 rw[←hDx]at hB hK hDn⊢
 refine cl 1 [0] (Xh (P:=P) (S:=S) (Q:=[]) (a:=a) (b:=N) rfl hP hSl hDn hl) GX ⟨aC rfl,rfl⟩ ⟨rfl,rfl,rfl,rfl,rfl⟩ (ok:=[some ⟨64,18,((P++(dK S++[])).flatMap aW).map .t⟩]) ⟨aC rfl,rfl⟩ ?_
 refine nl (bl ?_);have hA:=hB.all (by omega) (by omega)
 have hK2:=Ua hK
 have hDn2:(P++(dK S++[])).length=N:=by simp only[List.length_append,iB]at hDn⊢;exact hDn
 refine lp (γ:=Nat×List Wv) (fun s=>bP [(0,.one (.sl 0 0 (N))),(1,.one (tv (.int .i64 ((N:Nat):Int)))),(2,.one (.t (.f 127 [] []))),(6,.one (tv (.int .i64 ((s.1:Nat):Int))))]) (fun s=>[(⟨64,18,(s.2.flatMap aW).map .t⟩:Ob)].map some) (fun s=>0<s.1∧All9 s.1 s.2∧Kp Wv.y s.2 xs∧s.2.length=N) (fun s=>N-s.1) (20,(P++(dK S++[]))) ⟨by omega,hA,hK2,hDn2⟩ (cO h0 [0] _ _ (by decide) rfl ⟨rfl,rfl,rfl,rfl,trivial⟩ ⟨aC rfl,rfl⟩) ?_
 rintro⟨bz,Z⟩ ⟨hs0,hA,hK3,hZn⟩;dsimp only at hs0 hA hK3 hZn⊢;refine sq (sq (rl ?_));(iterate 3 refine o1 ?_);refine nl ?_;refine bH rfl (fun h2=>?_) (fun h2=>?_)
 ·refine sk (bl (sq (rl (o1 ?_))));refine o1 ?_;refine WL.cast (t:=32) (u':=.int .i64 ((2*bz:Nat):Int)) rfl (aG (by omega)) ?_
  refine o1 ?_;refine o1 ?_;refine nl (sq (bl ?_))
  refine lp (γ:=Nat×Nat×List Wv) (fun s=>bP [(0,.one (.sl 0 0 (N))),(1,.one (tv (.int .i64 ((N:Nat):Int)))),(2,.one (.t (.f 127 [] []))),(6,.one (tv (.int .i64 ((bz:Nat):Int)))),(7,.one (tv (.int .i64 ((s.2.1:Nat):Int)))),(8,.one (tv (.int .i64 ((s.2.1+2*bz:Nat):Int))))]) (fun s=>[(⟨64,18,(s.2.2.flatMap aW).map .t⟩:Ob)].map some) (fun s=>s.2.1=s.1*(2*bz)∧s.2.1≤N∧Mg9 bz s.1 s.2.2∧Kp Wv.y s.2.2 xs∧s.2.2.length=N) (fun s=>N-s.2.1) (0,0,Z) ⟨by dsimp only;omega,Nat.zero_le _,Mg9.start hA,hK3,hZn⟩ (cO h0 [0] _ _ (by decide) rfl ⟨rfl,rfl,rfl,rfl,rfl,rJ (by dsimp only;omega),trivial⟩ ⟨aC rfl,rfl⟩) ?_
  rintro⟨t,a,D⟩ ⟨hat,haN,hM,hK4,hDn⟩;dsimp only at hat haN hM hK4 hDn⊢;refine sq (sq (rl ?_));(iterate 3 refine o1 ?_);refine nl ?_
  refine bH rfl (fun h3=>?_) (fun h3=>?_)
  ·refine sk (bl (sq (rl ?_)));(iterate 5 refine o1 ?_);refine WL.cast (t:=40) (u':=.int .i64 ((a+bz:Nat):Int)) rfl (aG (by omega)) ?_
   refine o1 ?_;refine o1 ?_;obtain⟨P9,W,Q9,hD9,hP9,hW9,hQ9⟩:=Tz (D:=D) (a:=a) (b:=a+2*bz) (by omega) (by omega)
   rw[hDn]at hQ9;obtain⟨X,Y,hW,hX9,hY9⟩:=vN (D:=W) (a:=bz) (by omega)
   rw[hW9]at hY9;have hW8:(X++Y).length=X.length+Y.length:=List.length_append
   subst hW;subst hD9;have hD8:P9++((X++Y)++Q9)=P9++(X++(Y++Q9)):=by rw[List.append_assoc X]
   have hM8:=hM
   rw[hD8]at hM8
   refine cl 1 [0] (GW (X.length+Y.length) (P:=P9) (X:=X) (Y:=Y) (Q:=Q9) (a:=a) (m:=a+bz) (b:=a+2*bz) hD8 hP9 (by omega) (by omega) (by omega) (by omega) (hM8.px (by omega) (by omega)) (hM8.py (by omega) (by omega) (by omega) (.inl (by omega))) (Nat.le_refl _) hDn hl) Jk ⟨aC rfl,rfl⟩ ⟨rfl,rfl,rfl,rfl,rfl,rfl⟩ (ok:=[some ⟨64,18,((P9++(dK (X++Y)++Q9)).flatMap aW).map .t⟩]) ⟨aC rfl,rfl⟩ ?_
   refine nl (sq (rl (o1 ?_)));refine o1 ?_;refine nl (rl ?_);(iterate 3 refine o1 ?_)
   refine WL.cast (t:=47) (u':=.int .i64 ((2*bz:Nat):Int)) rfl (aG (by omega)) ?_
   refine o1 ?_;refine WL.cast (t:=48) (u':=.int .i64 ((a+2*bz+(2*bz):Nat):Int)) rfl (aG (by omega)) ?_
   refine o1 ?_;refine nl ?_
   exact⟨(t+1,a+2*bz,(P9++(dK (X++Y)++Q9))),by dsimp only;omega,⟨by dsimp only;rw[Nat.add_mul t 1,Nat.one_mul,←hat],by dsimp only;omega,hM.step (by omega) (by rw[List.length_append];omega),Ua hK4,by simp only[List.length_append,iB]at hDn⊢;exact hDn⟩,cO h0 [0] _ _ (by decide) rfl ⟨rfl,rfl,rfl,rfl,rfl,rfl,trivial⟩ ⟨aC rfl,rfl⟩⟩
  refine ex (sq (sq (rl ?_)));(iterate 3 refine o1 ?_);refine WL.cast (t:=51) (u':=.int .i64 ((a+bz:Nat):Int)) rfl (aG (by omega)) ?_
  refine o1 ?_;refine nl (sq (rl ?_));(iterate 3 refine o1 ?_);refine nl ?_;refine bH rfl (fun h4=>?_) (fun h4=>?_)
  ·refine rl ?_;(iterate 5 refine o1 ?_);obtain⟨P9,W,Q9,hD9,hP9,hW9,hQ9⟩:=Tz (D:=D) (a:=a) (b:=N) (by omega) (by omega)
   rw[hDn]at hQ9;obtain⟨X,Y,hW,hX9,hY9⟩:=vN (D:=W) (a:=bz) (by omega)
   rw[hW9]at hY9;have hW8:(X++Y).length=X.length+Y.length:=List.length_append
   subst hW;subst hD9;have hD8:P9++((X++Y)++Q9)=P9++(X++(Y++Q9)):=by rw[List.append_assoc X]
   have hM8:=hM
   rw[hD8]at hM8;have hA9:All9 (2*bz) (P9++(dK (X++Y)++Q9)):=by
    have hq:Q9=[]:=List.eq_nil_of_length_eq_zero (by omega)
    subst hq;exact hM.l.all (by omega) (by rw[List.length_append];omega)
   have hK9:=Ua hK4
   have hDn9:(P9++(dK (X++Y)++Q9)).length=N:=by simp only[List.length_append,iB]at hDn⊢;exact hDn
   refine cl 1 [0] (GW (X.length+Y.length) (P:=P9) (X:=X) (Y:=Y) (Q:=Q9) (a:=a) (m:=a+bz) (b:=N) hD8 hP9 (by omega) (by omega) (by omega) (by omega) (hM8.px (by omega) (by omega)) (hM8.py (by omega) (by omega) (by omega) (.inr (List.eq_nil_of_length_eq_zero (by omega)))) (Nat.le_refl _) hDn hl) Jk ⟨aC rfl,rfl⟩ ⟨rfl,rfl,rfl,rfl,rfl,rfl⟩ (ok:=[some ⟨64,18,((P9++(dK (X++Y)++Q9)).flatMap aW).map .t⟩]) ⟨aC rfl,rfl⟩ ?_
   refine nl (rl (o1 ?_));refine o1 ?_;refine WL.cast (t:=62) (u':=.int .i64 ((bz*2:Nat):Int)) rfl (aG (by omega)) ?_
   refine o1 ?_;refine nl ?_
   exact⟨(bz*2,(P9++(dK (X++Y)++Q9))),by dsimp only;omega,⟨by dsimp only;omega,(by rw[Nat.mul_comm];exact hA9),hK9,hDn9⟩,cO h0 [0] _ _ (by decide) rfl ⟨rfl,rfl,rfl,rfl,trivial⟩ ⟨aC rfl,rfl⟩⟩
  refine sk ?_;have hA9:All9 (2*bz) D:=hM.all2 (by omega)
  have hK9:=hK4
  have hDn9:=hDn
  refine rl (o1 ?_);refine o1 ?_;refine WL.cast (t:=62) (u':=.int .i64 ((bz*2:Nat):Int)) rfl (aG (by omega)) ?_
  refine o1 ?_;refine nl ?_
  exact⟨(bz*2,D),by dsimp only;omega,⟨by dsimp only;omega,(by rw[Nat.mul_comm];exact hA9),hK9,hDn9⟩,cO h0 [0] _ _ (by decide) rfl ⟨rfl,rfl,rfl,rfl,trivial⟩ ⟨aC rfl,rfl⟩⟩
 refine ex ?_
 exact gL (lent':=[⟨64,18,((dK xs).flatMap aW).map .t⟩]) (.inr rfl) rfl qE (by decide) (fun _ h=>by cases h) ⟨⟨rfl,rfl⟩,trivial⟩ ⟨congrArg (fun l:List Wv=>some (⟨64,18,(l.flatMap aW).map .t⟩:Ob)) (hA.fin (by omega) hK3).symm,trivial⟩ ⟨cE _,trivial⟩ (fun h=>by cases h) ⟨rfl,rfl⟩
theorem KE {N:Nat}{xs:List Wv}(hN:xs.length=N) (hl:N≤1073741823):aF false Tryz.prog 126 [⟨64,18,(xs.flatMap aW).map .t⟩] [.one (.sl 0 0 N),.one (.t (.f 127 [] []))] (Rt [⟨64,18,((dK xs).flatMap aW).map .t⟩] (.tup [])):=by
 refine mS Tryz.func126 rfl Tryz.ntmps126 rfl aB rfl fun N9 M9 w9 c0 h0=>?_
 refine rl ?_;(iterate 4 refine o1 ?_);refine cl 1 [0] (KD hN hl) UG ⟨aC rfl,rfl⟩ ⟨rfl,rfl,rfl,rfl⟩ (ok:=[some ⟨64,18,((dK xs).flatMap aW).map .t⟩]) ⟨aC rfl,rfl⟩ ?_
 refine nl ?_
 exact gL (lent':=[⟨64,18,((dK xs).flatMap aW).map .t⟩]) (.inr rfl) rfl qE (by decide) (fun _ h=>by cases h) ⟨⟨rfl,rfl⟩,trivial⟩ ⟨rfl,trivial⟩ ⟨cE _,trivial⟩ (fun h=>by cases h) ⟨rfl,rfl⟩
def qG (a:Fr4):Bool:=bQ a.s a.x a.t a.y
def gG (y:Yr) (E:Nat):Bool:=decide ((y.m.length:Int)=(E:Int))&&(decide ((y.b.length:Int)=(E:Int))&&(!(y.b.any fun a=> !qG a)&&(qG y.l&&decide (0≤y.l.q.num.sign))))
theorem Jl (xs:List Bool){k:Nat}(h:k<xs.length):((bT xs).drop (k*1)).take [Tr.v (.bool (nH xs k))].length=[.v (.bool (nH xs k))]:=by
 have h1:(bT xs)[k]? =some (.v (.bool (nH xs k))):=by simp[bT,nH,h]
 have h2:k<(bT xs).length:=by rw[Wt];exact h
 rw[Nat.mul_one,List.drop_eq_getElem_cons h2,List.length_singleton,List.take_succ_cons,List.take_zero]
 rw[List.getElem?_eq_getElem h2]at h1
 rw[Option.some.inj h1]
theorem GY {a:Fr4}(ha:a.ok):aF true Tryz.prog 67 [] [qF a] (aU (.one (tv (.bool (!qG a))))):=by
 refine bX Tryz.func67 rfl Tryz.ntmps67 rfl aB rfl fun N9 w9 c0 h0=>?_
 refine sq (rl (bx 0 ?_));refine o1 ?_;refine nl (sq (rl (ld ?_)))
 refine ca (Ll ha) CX ⟨aE rfl,rfl⟩ (.one (tv (.bool (bQ a.s a.x a.t a.y)))) ?_;refine o1 ?_;refine o1 ?_;refine nl (rt ?_)
 exact en (.inl rfl) rfl (aY (cM _)) (by decide) (fun _=>trivial) rfl
theorem KF {y:Yr}{E:Nat}(hb:∀a∈y.b,a.ok) (hy:y.l.ok) (hl:y.b.length≤1073741823):aF true Tryz.prog 37 [] [.agg ((dV y).map .t),.one (tv (.int .i64 ((E:Nat):Int)))] (aU (.one (tv (.bool (gG y E))))):=by
 refine bX Tryz.func37 rfl Tryz.ntmps37 rfl aB rfl fun N9 w9 c0 h0=>?_
 refine sq (rl (bx 0 ?_));refine o1 ?_;refine nl (sq (rl (o1 ?_)));refine nl (sq (rl (o1 ?_)));refine ld ?_
 (iterate 4 refine o1 ?_);refine WL.split (t:=11) rfl (fun h1=>?_) (fun h1=>?_)
 ·refine o1 ?_;refine ld ?_;(iterate 5 refine o1 ?_);refine WL.split (t:=18) rfl (fun h2=>?_) (fun h2=>?_)
  ·refine o1 ?_;refine ld ?_;refine o1 ?_
   refine ca (ON (xs:=y.b) (dl:=fun a=> !qG a) (fd:=67) (fst:=[]) (caps:=[]) OQ (fun x hx=>GY (hb x hx)) hl) WY ⟨a1 rfl,a1 rfl,rfl⟩ (.one (tv (.bool (y.b.any fun a=> !qG a)))) ?_
   refine WL.splitb (t:=22) rfl (fun h3=>?_) (fun h3=>?_)
   ·(iterate 3 refine o1 ?_);(iterate 5 refine dD ?_);refine o1 ?_;refine o1 ?_;(iterate 4 refine dD ?_);refine o1 ?_;refine o1 ?_;refine nl (rt ?_)
    exact jA (.inl rfl) rfl (by unfold gG;simp only[decide_eq_true h1,decide_eq_true h2,h3,ge_iff_le,Bool.not_true,Bool.not_false,Bool.or_true,Bool.true_or,Bool.false_or,Bool.or_false,Bool.false_eq_true,if_true,if_false,ite_true,ite_false,Bool.and_true,Bool.true_and,Bool.false_and,Bool.and_false,Bool.not_not] <;> first | rfl | (simp;done) | grind)
   (iterate 5 refine o1 ?_);refine ld ?_;refine ce 1 [qF y.l] rfl (GY (a:=y.l) hy) OQ ⟨rfl,rfl⟩ ?_;refine WL.splitb (t:=29) rfl (fun h4=>?_) (fun h4=>?_)
   ·(iterate 3 refine o1 ?_);(iterate 4 refine dD ?_);refine o1 ?_;refine o1 ?_;refine nl (rt ?_)
    exact jA (.inl rfl) rfl (by unfold gG;simp only[decide_eq_true h1,decide_eq_true h2,h3,h4,ge_iff_le,Bool.not_true,Bool.not_false,Bool.or_true,Bool.true_or,Bool.false_or,Bool.or_false,Bool.false_eq_true,if_true,if_false,ite_true,ite_false,Bool.and_true,Bool.true_and,Bool.false_and,Bool.and_false,Bool.not_not] <;> first | rfl | (simp;done) | grind)
   (iterate 4 refine o1 ?_);refine ld ?_;refine ca (nN (p:=y.l.q) ⟨hy,rfl⟩) vO ⟨aE rfl,rfl⟩ (.one (tv (.int .i64 y.l.q.num.sign))) ?_;(iterate 3 refine o1 ?_);refine nl ?_
   refine rt ?_
   exact jA (.inl rfl) rfl (by unfold gG;simp only[decide_eq_true h1,decide_eq_true h2,h3,h4,ge_iff_le,Bool.not_true,Bool.not_false,Bool.or_true,Bool.true_or,Bool.false_or,Bool.or_false,Bool.false_eq_true,if_true,if_false,ite_true,ite_false,Bool.and_true,Bool.true_and,Bool.false_and,Bool.and_false,Bool.not_not] <;> first | rfl | (simp;done) | grind)
  (iterate 5 refine dD ?_);refine o1 ?_;refine o1 ?_;(iterate 5 refine dD ?_);refine o1 ?_;refine o1 ?_;(iterate 4 refine dD ?_);refine o1 ?_;refine o1 ?_;refine nl (rt ?_)
  exact jA (.inl rfl) rfl (by unfold gG;simp only[decide_eq_true h1,decide_eq_false h2,ge_iff_le,Bool.not_true,Bool.not_false,Bool.or_true,Bool.true_or,Bool.false_or,Bool.or_false,Bool.false_eq_true,if_true,if_false,ite_true,ite_false,Bool.and_true,Bool.true_and,Bool.false_and,Bool.and_false,Bool.not_not] <;> first | rfl | (simp;done) | grind)
 (iterate 5 refine dD ?_);refine o1 ?_;refine o1 ?_;(iterate 5 refine dD ?_);refine o1 ?_;refine o1 ?_;(iterate 5 refine dD ?_);refine o1 ?_;refine o1 ?_;(iterate 4 refine dD ?_)
 refine o1 ?_;refine o1 ?_;refine nl (rt ?_)
 exact jA (.inl rfl) rfl (by unfold gG;simp only[decide_eq_false h1,ge_iff_le,Bool.not_true,Bool.not_false,Bool.or_true,Bool.true_or,Bool.false_or,Bool.or_false,Bool.false_eq_true,if_true,if_false,ite_true,ite_false,Bool.and_true,Bool.true_and,Bool.false_and,Bool.and_false,Bool.not_not] <;> first | rfl | (simp;done) | grind)
theorem Xj {y:Yr}{E:Nat}(hb:∀a∈y.b,a.ok) (hy:y.l.ok) (hl:y.b.length≤1073741823):aF true Tryz.prog 36 [] [.agg ((dV y).map .t),.one (.t (.p false 3 [.v (.int .i64 ((E:Nat):Int))]))] (aU (.one (tv (.bool (!gG y E))))):=by
 refine bX Tryz.func36 rfl Tryz.ntmps36 rfl aB rfl fun N9 w9 c0 h0=>?_
 refine WP.sub (Lm (i:=1) rfl rfl) ?_;refine sq (rl (bx 0 ?_));refine o1 ?_;refine nl (sq (rl (ld ?_)))
 refine dT ([.v (.int .i64 ((E:Nat):Int))]) rfl ?_;refine ca (KF (E:=E) hb hy hl) WZ ⟨aE rfl,a1 rfl,rfl⟩ (.one (tv (.bool (gG y E)))) ?_;refine o1 ?_;refine o1 ?_;refine nl ?_
 refine rt ?_;exact en (.inl rfl) rfl (aY (cM _)) (by decide) (fun _=>trivial) rfl
theorem UH {xs:List Yr}{dl:Yr→Bool}{fd:FuncId}{fst caps:List Tr}(hok:CallOk Tryz.prog fd) (hd:∀x∈xs,aF true Tryz.prog fd [] (cK fst++[.agg ((dV x).map .t)]++cK caps) (aU (.one (tv (.bool (dl x)))))) (hl:xs.length≤1073741823):aF true Tryz.prog 66 [] [.one (.t (kI xs)),.one (.t (.f fd fst caps))] (aU (.one (tv (.int .i64 (pJ dl xs))))):=by
 refine bX Tryz.func66 rfl Tryz.ntmps66 rfl aB rfl fun N w c0 h0=>?_
 refine sq (rl (o1 ?_));refine nl (sq (sq (rl ?_)));(iterate 3 refine o1 ?_);refine nl (bl ?_)
 refine lp (γ:=Nat) (fun k=>bP [(0,.one (.t (kI xs))),(1,.one (.t (.f fd fst caps))),(7,.one (tv (.int .i64 ((xs.length:Nat):Int)))),(8,.one (tv (.int .i64 ((k:Nat):Int))))]) (fun k=>[].map some) (fun k=>k≤xs.length∧k≤cX dl xs) (fun k=>xs.length-k) 0 (⟨Nat.zero_le _,Nat.zero_le _⟩) (bD h0 [] _ _ (by decide) ⟨rfl,rfl,rfl,rfl,trivial⟩ rfl) fun k hk=>?_
 refine sq (rl (o1 ?_));refine nl (sq ?_);refine bH rfl (fun h1=>?_) (fun h1=>?_)
 ·refine sk (sq (bl (sq (rl (o1 ?_)))));refine o1 ?_;refine nl (sq (rl ?_));(iterate 4 refine o1 ?_)
  refine dT (dV (aL xs (k))) (bE (f:=dV) (z:=6) (o:=0) dI (cR (by omega)) (Nat.le_of_ble_eq_true rfl) rfl) ?_
  refine ce 0 [.agg ((dV (aL xs (k))).map .t)] rfl (hd (aL xs (k)) (fC (by omega))) hok ⟨rfl,rfl⟩ ?_
  refine nl ?_;refine mR rfl (fun h2=>?_) (fun h2=>?_)
  ·refine sq (rl (o1 ?_));refine o1 ?_;refine nl (rt ?_);have hx9:=(mD hk.2 (by omega)).1 h2
   exact en (.inl rfl) rfl (aY (cM _)) (by decide) (fun _=>trivial) (congrArg (fun z=>FV.one (tv (.int .i64 z))) (by unfold pJ;rw[hx9,if_neg (by omega)]))
  refine sk (rl (o1 ?_));refine WL.cast (t:=18) (u':=.int .i64 ((k+1:Nat):Int)) rfl (aG (by omega)) ?_
  refine o1 ?_;refine nl ?_;exact⟨k+1,by omega,⟨by omega,(mD hk.2 (by omega)).2 h2⟩,bD h0 [] _ _ (by decide) ⟨rfl,rfl,rfl,rfl,trivial⟩ rfl⟩
 refine ex (sq (rl (o1 ?_)));refine nl (rt ?_);have hx9:=xZ (dl:=dl) xs
 exact en (.inl rfl) rfl (aY (cM _)) (by decide) (fun _=>trivial) (congrArg (fun z=>FV.one (tv (.int .i64 z))) (by unfold pJ;rw[if_pos (by omega)]))
theorem GZ {xs:List Yr}{dl:Yr→Bool}{fd:FuncId}{fst caps:List Tr}(hok:CallOk Tryz.prog fd) (hd:∀x∈xs,aF true Tryz.prog fd [] (cK fst++[.agg ((dV x).map .t)]++cK caps) (aU (.one (tv (.bool (dl x)))))) (hl:xs.length≤1073741823):aF true Tryz.prog 35 [] [.one (.t (kI xs)),.one (.t (.f fd fst caps))] (aU (.one (tv (.bool (xs.any dl))))):=by
 refine bX Tryz.func35 rfl Tryz.ntmps35 rfl aB rfl fun N w c0 h0=>?_
 refine sq (rl (o1 ?_));refine nl (sq (rl (o1 ?_)));refine o1 ?_
 refine ca (UH hok hd hl) XA ⟨a1 rfl,a1 rfl,rfl⟩ (.one (tv (.int .i64 (pJ dl xs)))) ?_;refine o1 ?_;refine o1 ?_;refine nl (rt ?_)
 exact en (.inl rfl) rfl (aY (cM _)) (by decide) (fun _=>trivial) (congrArg (fun z=>FV.one (tv (.bool z))) (Qk xs))
theorem HC {xs:List Vn}{dl:Vn→Bool}{fd:FuncId}{fst caps:List Tr}(hok:CallOk Tryz.prog fd) (hd:∀x∈xs,aF true Tryz.prog fd [] (cK fst++[.agg ((bZ false x).map .t)]++cK caps) (aU (.one (tv (.bool (dl x)))))) (hl:xs.length≤1073741823):aF true Tryz.prog 74 [] [.one (.t (cY false false xs)),.one (.t (.f fd fst caps))] (aU (.one (tv (.int .i64 (pJ dl xs))))):=by
 refine bX Tryz.func74 rfl Tryz.ntmps74 rfl aB rfl fun N w c0 h0=>?_
 refine sq (rl (o1 ?_));refine nl (sq (sq (rl ?_)));(iterate 3 refine o1 ?_);refine nl (bl ?_)
 refine lp (γ:=Nat) (fun k=>bP [(0,.one (.t (cY false false xs))),(1,.one (.t (.f fd fst caps))),(7,.one (tv (.int .i64 ((xs.length:Nat):Int)))),(8,.one (tv (.int .i64 ((k:Nat):Int))))]) (fun k=>[].map some) (fun k=>k≤xs.length∧k≤cX dl xs) (fun k=>xs.length-k) 0 (⟨Nat.zero_le _,Nat.zero_le _⟩) (bD h0 [] _ _ (by decide) ⟨rfl,rfl,rfl,rfl,trivial⟩ rfl) fun k hk=>?_
 refine sq (rl (o1 ?_));refine nl (sq ?_);refine bH rfl (fun h1=>?_) (fun h1=>?_)
 ·refine sk (sq (bl (sq (rl (o1 ?_)))));refine o1 ?_;refine nl (sq (rl ?_));(iterate 4 refine o1 ?_)
  refine dT ((bZ false) (bL xs (k))) (bE (f:=(bZ false)) (z:=18) (o:=0) (cJ false) (kN (by omega)) (Nat.le_of_ble_eq_true rfl) rfl) ?_
  refine ce 0 [.agg ((bZ false (bL xs (k))).map .t)] rfl (hd (bL xs (k)) (sJ (by omega))) hok ⟨rfl,rfl⟩ ?_
  refine nl ?_;refine mR rfl (fun h2=>?_) (fun h2=>?_)
  ·refine sq (rl (o1 ?_));refine o1 ?_;refine nl (rt ?_);have hx9:=(mD hk.2 (by omega)).1 h2
   exact en (.inl rfl) rfl (aY (cM _)) (by decide) (fun _=>trivial) (congrArg (fun z=>FV.one (tv (.int .i64 z))) (by unfold pJ;rw[hx9,if_neg (by omega)]))
  refine sk (rl (o1 ?_));refine WL.cast (t:=18) (u':=.int .i64 ((k+1:Nat):Int)) rfl (aG (by omega)) ?_
  refine o1 ?_;refine nl ?_;exact⟨k+1,by omega,⟨by omega,(mD hk.2 (by omega)).2 h2⟩,bD h0 [] _ _ (by decide) ⟨rfl,rfl,rfl,rfl,trivial⟩ rfl⟩
 refine ex (sq (rl (o1 ?_)));refine nl (rt ?_);have hx9:=xZ (dl:=dl) xs
 exact en (.inl rfl) rfl (aY (cM _)) (by decide) (fun _=>trivial) (congrArg (fun z=>FV.one (tv (.int .i64 z))) (by unfold pJ;rw[if_pos (by omega)]))
theorem Qm {v:Vn}{y e:Int}:aF true Tryz.prog 75 [] [.agg ((bZ false v).map .t),.one (.t (.p false 3 [.v (.int .i64 y)])),.one (.t (.p false 3 [.v (.int .i64 e)]))] (aU (.one (tv (.bool (cI y e v))))):=by
 refine bX Tryz.func75 rfl Tryz.ntmps75 rfl aB rfl fun N9 w9 c0 h0=>?_
 refine WP.sub (Lm (i:=1) rfl rfl) ?_;refine WP.sub (Lm (i:=2) rfl rfl) ?_;refine sq (rl (bx 0 ?_));refine o1 ?_;refine nl (sq (rl (o1 ?_)))
 refine ld ?_;refine dT ([.v (.int .i64 y)]) rfl ?_;refine o1 ?_;refine o1 ?_;refine WL.split (t:=9) rfl (fun h1=>?_) (fun h1=>?_)
 ·refine o1 ?_;refine ld ?_;refine dT ([.v (.int .i64 e)]) rfl ?_;(iterate 3 refine o1 ?_);refine nl (rt ?_)
  exact jA (.inl rfl) rfl (by unfold cI;simp only[decide_eq_true h1,Bool.not_true,Bool.not_false,Bool.or_true,Bool.true_or,Bool.false_or,Bool.or_false,Bool.false_eq_true,if_true,if_false,ite_true,ite_false,Bool.and_true,Bool.true_and,Bool.false_and,Bool.and_false,Bool.not_not] <;> first | rfl | simp)
 (iterate 4 refine dD ?_);refine o1 ?_;refine o1 ?_;refine nl (rt ?_)
 exact jA (.inl rfl) rfl (by unfold cI;simp only[decide_eq_false h1,Bool.not_true,Bool.not_false,Bool.or_true,Bool.true_or,Bool.false_or,Bool.or_false,Bool.false_eq_true,if_true,if_false,ite_true,ite_false,Bool.and_true,Bool.true_and,Bool.false_and,Bool.and_false,Bool.not_not] <;> first | rfl | simp)
theorem kB {a:Fr4}{p:Rat}(ha:Qn a p):aF false Tryz.prog 46 [] [qF a] (aU (qF (.of p))):=oS ha
theorem HD {a b:Fr4}{p q:Rat}(ha:Qn a p) (hb:Qn b q):aF true Tryz.prog 19 [] [qF a,qF b] (aU (.one (tv (.int .i64 (p-q).num.sign)))):=by
 refine bX Tryz.func19 rfl Tryz.ntmps19 rfl aB rfl fun N w c0 h0=>?_
 have hs:=ha.sz;have hs':=hb.sz
 have hs1:=hs.1;have hs2:=hs.2;have hs3:=hs'.1;have hs4:=hs'.2
 have hs5:(dg 4294967296 ((p.den:Int)).natAbs).length≤68719476736:=hs2
 have hs6:(dg 4294967296 ((q.den:Int)).natAbs).length≤68719476736:=hs4
 refine sq (rl (bx 0 ?_));refine bx 1 ?_;refine o1 ?_;refine nl ?_
 refine md (γ:=Unit) (fun _=>bP [(2,.one (.pt 0 0)),(3,.one (.pt 1 0)),(4,.one (tv (.int .i64 ((0:Nat):Int))))]) (fun _=>([⟨48,0,((Fr4.of p).tr false).map .t⟩,⟨48,0,((Fr4.of q).tr false).map .t⟩]:List Ob).map some) (fun _=>True) ?_ fun _ _=>?_
 ·refine rd [0,1] (fun i=>[0,1,2,3,4,5].contains i) mixed ?_
  refine WO.two (i:=0) (j:=2) (by kernel_rfl) ?_ ?_
  ·refine Qo 0 ?_;refine WO.two (i:=1) (j:=2) (by kernel_rfl) ?_ ?_
   ·refine mO 1 rfl (kB ha) mE ⟨aE rfl,rfl⟩ (qF (.of p)) ?_;refine WO.one (by kernel_rfl) (Qo 2 ?_)
    refine bU 3 rfl (kB hb) mE ⟨aE rfl,rfl⟩ (qF (.of q)) ?_;refine dst 4 ?_;refine dst 5 ?_;refine bO ?_
    exact⟨(),trivial,bD h0 [0,1] _ _ (by decide) ⟨rfl,rfl,rfl,trivial⟩ ⟨oe rfl rfl,oe rfl rfl,rfl⟩⟩
   refine Qo 2 ?_;refine bU 1 rfl (kB ha) mE ⟨aE rfl,rfl⟩ (qF (.of p)) ?_;refine bU 3 rfl (kB hb) mE ⟨aE rfl,rfl⟩ (qF (.of q)) ?_;refine dst 4 ?_;refine dst 5 ?_
   refine bO ?_;exact⟨(),trivial,bD h0 [0,1] _ _ (by decide) ⟨rfl,rfl,rfl,trivial⟩ ⟨oe rfl rfl,oe rfl rfl,rfl⟩⟩
  refine Qo 2 ?_;refine WO.one (by kernel_rfl) (Qo 0 ?_)
  refine bU 1 rfl (kB ha) mE ⟨aE rfl,rfl⟩ (qF (.of p)) ?_;refine bU 3 rfl (kB hb) mE ⟨aE rfl,rfl⟩ (qF (.of q)) ?_;refine dst 4 ?_;refine dst 5 ?_;refine bO ?_
  exact⟨(),trivial,bD h0 [0,1] _ _ (by decide) ⟨rfl,rfl,rfl,trivial⟩ ⟨oe rfl rfl,oe rfl rfl,rfl⟩⟩
 refine sq ?_;refine rd [0,1] (fun i=>[11].contains i) mixed ?_
 refine dv 0 ?_;refine aO 1 ?_;refine dv 2 ?_;refine aO 3 ?_;refine dv 5 ?_;refine aO 6 ?_;refine dv 7 ?_;refine aO 8 ?_;have hn1:=fP (p.num) ((q.den:Int))
 refine bU 4 rfl (Xk (nO hs) (gO hs')) Ln ⟨aE rfl,aE rfl,rfl⟩ (kF ((p.num*(q.den:Int)))) ?_;have hn2:=fP (q.num) ((p.den:Int))
 refine bU 9 rfl (Xk (nO hs') (gO hs)) Ln ⟨aE rfl,aE rfl,rfl⟩ (kF ((q.num*(p.den:Int)))) ?_
 refine bU 10 rfl (OT (Zn.of (k:=(p.num*(q.den:Int))) (by omega)) (Zn.of (k:=(q.num*(p.den:Int))) (by omega))) CY ⟨aE rfl,aE rfl,rfl⟩ (.one (tv (.int .i64 ((p.num*(q.den:Int))-(q.num*(p.den:Int))).sign))) ?_
 refine eE 11 (by kernel_rfl) rfl rfl aB rfl (by trivial) ?_ (fun h=>by first | rfl | cases h)
 refine bO ?_;refine rt ?_;exact en (.inl rfl) rfl (aY (cM _)) (by decide) (fun _=>trivial) (by rw[←Xl];rfl)
theorem Xm {a b:Fr4}{p q:Rat}(ha:Qn a p) (hb:Qn b q):aF true Tryz.prog 148 [] [qF a,qF b] (aU (.one (tv (.bool (decide (q<p)))))):=by
 refine bX Tryz.func148 rfl Tryz.ntmps148 rfl aB rfl fun N w c0 h0=>?_
 refine sq (rl (bx 0 ?_));refine bx 1 ?_;refine o1 ?_;refine nl (sq (rl (ld ?_)));refine o1 ?_;refine ld ?_
 refine ca (HD hb ha) Bx ⟨aE rfl,aE rfl,rfl⟩ (.one (tv (.int .i64 (q-p).num.sign))) ?_;refine o1 ?_;refine o1 ?_;refine nl (rt ?_)
 exact en (.inl rfl) rfl (aY (cM _)) (by decide) (fun _=>trivial) (congrArg (fun z=>FV.one (tv (.bool z))) (Qp p q))
theorem Xn {a:Fr4}:aF false Tryz.prog 147 [] [qF a] (aU (.one (.t (.f 148 [.a (a.tr false)] [])))):=by
 refine bX Tryz.func147 rfl Tryz.ntmps147 rfl aB rfl fun N w c0 h0=>?_
 refine sq (rl (bx 0 ?_));refine o1 ?_;refine nl (sq (rl (ld ?_)));refine o1 ?_;refine o1 ?_;refine nl (rt ?_)
 exact en (.inl rfl) rfl (aY (.one (.id rfl))) (by decide) (fun h=>by cases h) rfl
theorem OU {a:Fr4}{p:Rat}{xs:List Fr4}(ha:Qn a p) (hx:∀x∈xs,x.ok) (hl:xs.length≤1099511627776):aF false Tryz.prog 51 [] [qF a,.one (.t (sQ false xs)),.one (.t (.f 147 [] []))] (aU (qF (.of (aJ p (xs.map Fr4.q))))):=by
 refine bX Tryz.func51 rfl Tryz.ntmps51 rfl aB rfl fun N w c0 h0=>?_
 have hz:∀x∈xs,Sz 68719476736 x.q:=fun x h=>(show Qn x x.q from⟨hx x h,rfl⟩).sz
 refine sq (rl (bx 0 ?_));refine al 1 ?_;refine nl (sq (rl (ld ?_)));refine ca (kB ha) mE ⟨aE rfl,rfl⟩ (qF (.of p)) ?_
 refine ca (gW (z:=0) (by omega) (by omega)) pY ⟨a1 rfl,rfl⟩ (qF (.of ((0:Int):Rat))) ?_
 refine ca (Dk ha.sz) Fk ⟨aE rfl,aE rfl,rfl⟩ (qF (.of p)) ?_;refine al 2 ?_;refine st ?_;refine nl (sq (sq (rl ?_)));(iterate 3 refine o1 ?_);refine nl ?_
 refine bl ?_
 refine lp (γ:=Nat) (fun k=>bP [(2,.one (.t (.f 147 [] []))),(6,.one (.pt 0 0)),(7,.one (.pt 1 0)),(14,.one (.t (sQ false xs))),(15,.one (tv (.int .i64 ((xs.length:Nat):Int)))),(16,.one (tv (.int .i64 ((k:Nat):Int))))]) (fun k=>[(⟨48,0,[tv (.bool false),tv (.slice none 0 0),tv (.bool false),tv (.slice none 0 0)]⟩:Ob),⟨48,0,((Fr4.of (aJ p ((xs.take k).map Fr4.q))).tr false).map .t⟩].map some) (fun k=>k≤xs.length∧Sz 68719476736 (aJ p ((xs.take k).map Fr4.q))) (fun k=>xs.length-k) 0 ⟨Nat.zero_le _,ha.sz⟩ (bD h0 [1,2] _ _ (by decide) ⟨rfl,rfl,rfl,rfl,rfl,rfl,trivial⟩ ⟨oe rfl rfl,aC rfl,rfl⟩) fun k hk=>?_
 refine sq (rl (o1 ?_));refine nl (sq ?_);refine bH rfl (fun h1=>?_) (fun h1=>?_)
 ·refine sk (sq (bl (sq (rl (o1 ?_)))));refine dT ((cT xs (k)).tr false) (gP xs (k:=k) (by omega)) ?_
  refine al 2 ?_;refine st ?_;refine nl (sq ?_);refine rd [0,1,2] (fun i=>[].contains i) mixed ?_
  refine dv 0 ?_;refine aO 1 ?_;refine dv 2 ?_;refine aO 4 ?_
  refine xB 3 3 [.agg [tv (.bool (aS (aJ p ((xs.take k).map Fr4.q)).num)),.t (sU false (dg 4294967296 (aJ p ((xs.take k).map Fr4.q)).num.natAbs)),tv (.bool false),.t (sU false (dg 4294967296 (aJ p ((xs.take k).map Fr4.q)).den))]] rfl rfl (Xn (a:=.of (aJ p ((xs.take k).map Fr4.q)))) HE ⟨rfl,rfl⟩ ?_
  refine xB 5 3 [qF (cT xs (k))] rfl rfl (Xm (a:=.of (aJ p ((xs.take k).map Fr4.q))) (b:=(cT xs (k))) (Qn.of (p:=(aJ p ((xs.take k).map Fr4.q))) hk.2) ⟨hx _ (eT (by omega)),rfl⟩) HF ⟨rfl,rfl⟩ ?_
  refine bO ?_;refine bH rfl (fun h2=>?_) (fun h2=>?_)
  ·refine rl (ld ?_);refine ca (kB ⟨hx _ (eT (by omega)),rfl⟩) mE ⟨aE rfl,rfl⟩ (qF (.of (cT xs (k)).q)) ?_
   refine ca (gW (z:=0) (by omega) (by omega)) pY ⟨a1 rfl,rfl⟩ (qF (.of ((0:Int):Rat))) ?_
   refine ca (Dk (hz _ (eT (by omega)))) Fk ⟨aE rfl,aE rfl,rfl⟩ (qF (.of (cT xs (k)).q)) ?_
   refine st ?_;refine nl (rl (o1 ?_));refine WL.cast (t:=30) (u':=.int .i64 ((k+1:Nat):Int)) rfl (aG (by omega)) ?_
   refine o1 ?_;refine nl ?_;have hst:(aJ p ((xs.take (k+1)).map Fr4.q))=(cT xs k).q:=by rw[tW (by omega),sN];exact if_pos h2
   exact⟨k+1,by omega,⟨by omega,by rw[hst];exact hz _ (eT (by omega))⟩,bD h0 [0,1] _ _ (by decide) ⟨rfl,rfl,rfl,rfl,rfl,rfl,trivial⟩ ⟨oe rfl rfl,aC (congrArg (fun q=>some (⟨48,0,((Fr4.of q).tr false).map .t⟩:Ob)) hst.symm),rfl⟩⟩
  refine sk (rl (o1 ?_));refine WL.cast (t:=30) (u':=.int .i64 ((k+1:Nat):Int)) rfl (aG (by omega)) ?_
  refine o1 ?_;refine nl ?_;have hst:(aJ p ((xs.take (k+1)).map Fr4.q))=(aJ p ((xs.take k).map Fr4.q)):=by rw[tW (by omega),sN];exact if_neg h2
  exact⟨k+1,by omega,⟨by omega,by rw[hst];exact hk.2⟩,bD h0 [0,1] _ _ (by decide) ⟨rfl,rfl,rfl,rfl,rfl,rfl,trivial⟩ ⟨oe rfl rfl,aC (congrArg (fun q=>some (⟨48,0,((Fr4.of q).tr false).map .t⟩:Ob)) hst.symm),rfl⟩⟩
 refine ex (sq (rl (ld ?_)));refine st ?_;refine nl (rt ?_)
 exact en (.inl rfl) rfl (aY (.agg (.cons (.id rfl) (.cons (.id rfl) (.cons (.id rfl) (.cons (.id rfl) .nil)))))) (by decide) (fun h=>by cases h) (by rw[List.take_of_length_le (by omega)];rfl)
theorem UI {a:Fr4}{p:Rat}{xs:List Fr4}(ha:Qn a p) (hx:∀x∈xs,x.ok) (hl:xs.length≤1099511627776):aF false Tryz.prog 129 [] [qF a,.one (.t (sQ false xs))] (aU (qF (.of (aJ p (xs.map Fr4.q))))):=by
 refine bX Tryz.func129 rfl Tryz.ntmps129 rfl aB rfl fun N w c0 h0=>?_
 refine sq (rl (bx 0 ?_));refine al 1 ?_;refine nl (sq (rl (ld ?_)));refine o1 ?_
 refine ca (OU ha hx hl) OV ⟨aE rfl,a1 rfl,a1 rfl,rfl⟩ (qF (.of (aJ p (xs.map Fr4.q)))) ?_;refine st ?_;refine nl (rt ?_)
 exact en (.inl rfl) rfl (aY (.agg (.cons (.id rfl) (.cons (.id rfl) (.cons (.id rfl) (.cons (.id rfl) .nil)))))) (by decide) (fun h=>by cases h) (rfl)
theorem tX {y:Int}{a:Fr4}{p:Rat}(ha:Qn a p):aF true Tryz.prog 103 [] [.agg (((Tr.v (.int .i64 y)::a.tr false):List Tr).map .t)] (aU (.agg ((cL true (y,p)).map .t))):=by
 refine bX Tryz.func103 rfl Tryz.ntmps103 rfl aB rfl fun N w c0 h0=>?_
 refine sq (rl (bx 0 ?_));refine al 1 ?_;refine nl (sq ?_);refine rd [0,1] (fun i=>[7].contains i) mixed ?_
 refine dv 0 ?_;refine aO 1 ?_;refine dv 2 ?_;refine aO 3 ?_;refine bU 4 rfl (gW (z:=0) (by omega) (by omega)) pY ⟨a1 rfl,rfl⟩ (qF (.of ((0:Int):Rat))) ?_
 refine jI 2 5 rfl (OW ha) Fl ⟨aE rfl,aE rfl,rfl⟩ ?_;refine df 6 ?_;refine dst 7 ?_;refine bO ?_;refine rt ?_
 exact en (.inl rfl) rfl (aY (.agg (.cons (.id rfl) (.cons (.id rfl) (.cons (.sl (trs:=aI (dg 4294967296 p.num.natAbs)) rfl rfl (bK _) (aP _)) (.cons (.id rfl) (.cons (.sl (trs:=aI (dg 4294967296 p.den)) rfl rfl (bK _) (aP _)) .nil))))))) (by decide) (fun _=>CZ (y,p)) rfl
theorem Xo {vs:List (Int×Rat)}{rest:List Tr}(hz:∀x∈vs,Sz 68719476736 x.2) (hl:vs.length≤1073741823):aF true Tryz.prog 73 [] [.one (.ef (sV 102 false vs::rest) 0)] (aU (.one (.t (sO 102 vs)))):=by
 refine bX Tryz.func73 rfl Tryz.ntmps73 rfl aB rfl fun N w c0 h0=>?_
 refine sq (rl (o1 ?_));refine nl (sq (rl (o1 ?_)));refine nl (sq (sq (rl ?_)));(iterate 3 refine o1 ?_)
 refine dT ([(sV 102 false vs)]) rfl ?_;refine o1 ?_;refine o1 ?_;refine nl (bl ?_)
 refine lp (γ:=Nat) (fun k=>bP [(3,.one (.sl 0 0 k)),(9,.one (.t (sV 102 false vs))),(10,.one (tv (.int .i64 ((vs.length:Nat):Int)))),(11,.one (tv (.int .i64 ((k:Nat):Int))))]) (fun k=>[({t:=102,z:=5,l:=pK (vs.take k)}:Ob)].map some) (fun k=>k≤vs.length) (fun k=>vs.length-k) 0 (Nat.zero_le _) ((nr (i:=3) 0 102 5 rfl rfl rfl rfl).trans (bD h0 [0] _ _ (by decide) ⟨rfl,rfl,rfl,rfl,trivial⟩ ⟨oe rfl rfl,rfl⟩)) fun k hk=>?_
 refine sq (rl (o1 ?_));refine nl (sq ?_);refine bH rfl (fun h1=>?_) (fun h1=>?_)
 ·refine sk (sq (bl (sq (rl (o1 ?_)))));refine dT (cL false (aH vs (k))) (tY false (by omega)) ?_
  refine al 1 ?_;refine st ?_;refine nl (rl (o1 ?_));refine ld ?_
  refine gZ 2 (tX (y:=(aH vs (k)).1) (Qn.of (p:=(aH vs (k)).2) (hz _ (mB (by omega))))) Dl ⟨aE rfl,rfl⟩ ?_
  refine bs 4 ?_;refine hG (j:=5) aB rfl rfl rfl rfl (.sl rfl (by rw[tZ,List.length_take,Nat.min_eq_left hk])) (.sl rfl rfl rfl) rfl rfl rfl (by omega) (by omega) ?_
  refine o1 ?_;refine nl (rl (o1 ?_));refine WL.cast (t:=20) (u':=.int .i64 ((k+1:Nat):Int)) rfl (aG (by omega)) ?_
  refine o1 ?_;refine nl ?_;have hst:pK (vs.take (k+1))=pK (vs.take k++[((aH vs k).1,(aH vs k).2)]):=by rw[kQ (by omega)]
  exact⟨k+1,by omega,by omega,(OX (j:=5) (k1:=2) (k2:=3) (us:=vs.take k) rfl rfl rfl rfl rfl rfl).trans (bD h0 [5] _ _ (by decide) ⟨rfl,rfl,rfl,rfl,trivial⟩ ⟨aC (congrArg (fun l=>some (⟨102,5,l⟩:Ob)) hst.symm),rfl⟩)⟩
 refine ex (sq (rl (o1 ?_)));refine o1 ?_;refine nl (rt ?_);have hkk:vs.take k=vs:=List.take_of_length_le (by omega)
 have hkn:k=vs.length:=by omega
 exact en (.inl rfl) rfl (aY (.one (.sl (trs:=(vs.take k).flatMap (cL true)) rfl rfl (by rw[List.take_of_length_le (by rw[tZ,List.length_take];omega)];rfl) (by rw[bI,List.length_take,Nat.min_eq_left hk])))) (by decide) (fun _=>by rw[hkk];exact .inl ⟨rfl,Qq vs⟩) (by rw[hkk,hkn];rfl)
theorem Xp {vs:List (Int×Rat)}{rest:List Tr}(hz:∀x∈vs,Sz 68719476736 x.2) (hl:vs.length≤1073741823):aF true Tryz.prog 40 [] [.one (.ef (sV 102 false vs::rest) 0)] (aU (.one (.t (sO 102 vs)))):=by
 refine bX Tryz.func40 rfl Tryz.ntmps40 rfl aB rfl fun N w c0 h0=>?_
 refine sq (rl (o1 ?_));refine nl (sq (sq (rl (o1 ?_))));refine o1 ?_;refine nl (fS rfl (sk (sq (rl ?_))))
 (iterate 3 refine o1 ?_);refine gZ 0 (Xo hz hl) OY ⟨xC rfl .ef,rfl⟩ ?_;refine o1 ?_;refine nl (rt ?_)
 exact en (.inl rfl) rfl (aY (.one (.sl (trs:=vs.flatMap (cL true)) rfl rfl (aN _ _ (bI true vs)) (bI true vs)))) (by decide) (fun _=>KG _ _) rfl
theorem UJ:aF true Tryz.prog 38 [] [] (aU (.one (.t (.p true 137 [sR 102 [],.v (.int .i64 0),.v (.bool false)])))):=by
 refine bX Tryz.func38 rfl Tryz.ntmps38 rfl aB rfl fun N w c0 h0=>?_
 refine sq (rl (o1 ?_));refine nl (sq (rl (o1 ?_)));refine bx 0 ?_
 refine WL.sub ((yA (j:=0) (key:=1) (e:=102) (z:=5) rfl rfl rfl (.sl (.id (.id .nil)))).trans (gS (j:=0) (k:=1) (p:=0) (n:=0) (trs:=[]) rfl rfl rfl rfl rfl rfl rfl rfl)) ?_
 refine o1 ?_;refine nl (rt ?_)
 exact en (.inl rfl) rfl (aY (.one (.pt (k:=0) (trs:=[sR 102 [],.v (.int .i64 0),.v (.bool false)]) rfl))) (by decide) (fun _=>⟨rfl,.inl ⟨rfl,trivial⟩,trivial,trivial,trivial⟩) rfl
theorem Bc {vs:List (Int×Rat)}{dl:Int×Rat→Bool}{fd:FuncId}{fst caps:List Tr}(hok:CallOk Tryz.prog fd) (hd:∀x∈vs,aF true Tryz.prog fd [] (cK fst++[.agg ((cL false x).map .t)]++cK caps) (aU (.one (tv (.bool (dl x)))))) (hl:vs.length≤1073741823):aF true Tryz.prog 149 [] [.one (.t (sV 102 false vs)),.one (.t (.f fd fst caps))] (aU (.one (tv (.int .i64 (if jF dl vs=vs.length then-1 else(jF dl vs:Int)))))):=by
 refine bX Tryz.func149 rfl Tryz.ntmps149 rfl aB rfl fun N w c0 h0=>?_
 refine sq (rl (o1 ?_));refine nl (sq (sq (rl ?_)));(iterate 3 refine o1 ?_);refine nl (bl ?_)
 refine lp (γ:=Nat) (fun k=>bP [(0,.one (.t (sV 102 false vs))),(1,.one (.t (.f fd fst caps))),(7,.one (tv (.int .i64 ((vs.length:Nat):Int)))),(8,.one (tv (.int .i64 ((k:Nat):Int))))]) (fun k=>[].map some) (fun k=>k≤vs.length∧k≤jF dl vs) (fun k=>vs.length-k) 0 (⟨Nat.zero_le _,Nat.zero_le _⟩) (bD h0 [] _ _ (by decide) ⟨rfl,rfl,rfl,rfl,trivial⟩ rfl) fun k hk=>?_
 refine sq (rl (o1 ?_));refine nl (sq ?_);refine bH rfl (fun h1=>?_) (fun h1=>?_)
 ·refine sk (sq (bl (sq (rl (o1 ?_)))));refine o1 ?_;refine nl (sq (rl ?_));(iterate 4 refine o1 ?_)
  refine dT (cL false (aH vs (k))) (tY false (by omega)) ?_
  refine ce 0 [.agg ((cL false (aH vs k)).map .t)] rfl (hd (aH vs k) (mB (by omega))) hok ⟨rfl,rfl⟩ ?_
  refine nl ?_;refine mR rfl (fun h2=>?_) (fun h2=>?_)
  ·refine sq (rl (o1 ?_));refine o1 ?_;refine nl (rt ?_);have hx9:=(vP hk.2 (by omega)).1 h2
   exact en (.inl rfl) rfl (aY (cM _)) (by decide) (fun _=>trivial) (congrArg (fun z=>FV.one (tv (.int .i64 z))) (by rw[hx9,if_neg (by omega)]))
  refine sk (rl (o1 ?_));refine WL.cast (t:=18) (u':=.int .i64 ((k+1:Nat):Int)) rfl (aG (by omega)) ?_
  refine o1 ?_;refine nl ?_;exact⟨k+1,by omega,⟨by omega,(vP hk.2 (by omega)).2 h2⟩,bD h0 [] _ _ (by decide) ⟨rfl,rfl,rfl,rfl,trivial⟩ rfl⟩
 refine ex (sq (rl (o1 ?_)));refine nl (rt ?_);have hx9:=Lo (dl:=dl) vs
 exact en (.inl rfl) rfl (aY (cM _)) (by decide) (fun _=>trivial) (congrArg (fun z=>FV.one (tv (.int .i64 z))) (by rw[if_pos (by omega)]))
theorem Pe {vs:List (Int×Rat)}{dl:Int×Rat→Bool}{fd:FuncId}{fst caps:List Tr}(hok:CallOk Tryz.prog fd) (hd:∀x∈vs,aF true Tryz.prog fd [] (cK fst++[.agg ((cL false x).map .t)]++cK caps) (aU (.one (tv (.bool (dl x)))))) (hl:vs.length≤1073741823) (hix:jF dl vs<vs.length):aF true Tryz.prog 149 [] [.one (.t (sV 102 false vs)),.one (.t (.f fd fst caps))] (aU (.one (tv (.int .i64 ((jF dl vs:Nat):Int))))):=by
 have h9:=Bc hok hd hl
 rwa[if_neg (by omega)]at h9
theorem Lp {vs:List (Int×Rat)}{dl:Int×Rat→Bool}{fd:FuncId}{fst caps:List Tr}(hok:CallOk Tryz.prog fd) (hd:∀x∈vs,aF true Tryz.prog fd [] (cK fst++[.agg ((cL false x).map .t)]++cK caps) (aU (.one (tv (.bool (dl x)))))) (hl:vs.length≤1073741823) (hix:jF dl vs=vs.length):aF true Tryz.prog 149 [] [.one (.t (sV 102 false vs)),.one (.t (.f fd fst caps))] (aU (.one (tv (.int .i64 (-1))))):=by
 have h9:=Bc hok hd hl
 rwa[if_pos hix]at h9
theorem Lq {vs:List (Int×Rat)}{dl:Int×Rat→Bool}{fd:FuncId}{fst caps:List Tr}(hok:CallOk Tryz.prog fd) (hd:∀x∈vs,aF true Tryz.prog fd [] (cK fst++[.agg ((cL false x).map .t)]++cK caps) (aU (.one (tv (.bool (dl x)))))) (hl:vs.length≤1073741823):aF false Tryz.prog 131 [⟨102,5,dQ vs⟩] [.one (.sl 0 0 vs.length),.one (.t (.f fd fst caps))] (Rt [⟨102,5,(nP vs (dX dl vs)).map .t⟩] (.one (.sl 0 0 (dX dl vs).length))):=by
 refine mS Tryz.func131 rfl Tryz.ntmps131 rfl aB rfl fun N M w c0 h0=>?_
 have hix0:=Lo (dl:=dl) vs
 rcases Nat.lt_or_ge (jF dl vs) vs.length with hix | hix
 ·refine sq (rl (o1 ?_));refine nl (sq (rl (o1 ?_)));refine o1 ?_
  refine ca (Pe hok hd hl hix) HH ⟨xC rfl (.sl rfl rfl (aN _ _ rfl) (bI false vs)),a1 rfl,rfl⟩ (.one (tv (.int .i64 ((jF dl vs:Nat):Int)))) ?_;refine o1 ?_
  refine nl (sq (sq (rl (o1 ?_))));refine o1 ?_;refine nl ?_;refine bH rfl (fun h1=>?_) (fun h1=>?_)
  ·exact absurd h1 (by omega)
  refine sk (sq (sq (rl (o1 ?_))));refine o1 ?_;refine WL.cast (t:=15) (u':=.int .i64 ((jF dl vs+1:Nat):Int)) rfl (aG (by omega)) ?_
  refine o1 ?_;refine nl (bl ?_)
  refine lp (γ:=Nat×Nat×List (Int×Rat)) (fun s=>bP [(0,.one (.sl 0 0 vs.length)),(1,.one (.t (.f fd fst caps))),(5,.one (tv (.int .i64 ((s.1:Nat):Int)))),(6,.one (tv (.int .i64 ((s.2.1:Nat):Int))))]) (fun s=>[({t:=102,z:=5,l:=dQ s.2.2}:Ob)].map some) (fun s=>s.1≤s.2.1∧s.2.1≤vs.length∧s.2.2.length=vs.length∧s.2.2.take s.1=(vs.take s.2.1).filter (fun x=> !dl x)∧∀m,s.2.1≤m→aH s.2.2 m=aH vs m) (fun s=>vs.length-s.2.1) (jF dl vs,jF dl vs+1,vs) ⟨by dsimp only;omega,by dsimp only;omega,rfl,Xq hix,fun _ _=>rfl⟩ (cO h0 [0] _ _ (by decide) rfl ⟨rfl,rfl,rfl,rfl,trivial⟩ ⟨aC rfl,rfl⟩) ?_
  rintro⟨i,j,us⟩ ⟨hij,hj,hul,hpre,hsuf⟩;dsimp only at hij hj hul hpre hsuf⊢;refine sq (sq (rl ?_));(iterate 4 refine o1 ?_);refine nl ?_
  refine bH rfl (fun h2=>?_) (fun h2=>?_)
  ·refine sk (sq (bl (sq ?_)));have hsj:aH us j=aH vs j:=hsuf j (Nat.le_refl _)
   refine rl ?_;(iterate 3 refine o1 ?_);refine Lr (Dm (us:=us) (k:=j) (by omega)) ?_
   refine al 1 ?_;refine st ?_;refine nl (sq (rl (o1 ?_)));refine ld ?_
   refine ce 2 [.agg ((cL false (aH us j)).map .t)] rfl (hd (aH us j) (by rw[hsj];exact mB (by omega))) hok ⟨rfl,rfl⟩ ?_
   refine WL.splitb (t:=28) rfl (fun h3=>?_) (fun h3=>?_)
   ·refine o1 ?_;refine nl (fS rfl (sk (rl (o1 ?_))));refine o1 ?_
    refine WL.cast (t:=21) (u':=.int .i64 ((j+1:Nat):Int)) rfl (aG (by omega)) ?_
    refine o1 ?_;refine nl ?_
    exact⟨(i,j+1,us),by dsimp only;omega,⟨by dsimp only;omega,by dsimp only;omega,hul,by dsimp only;exact DA hpre (by omega) (by rw[←hsj];exact h3),fun m hm=>hsuf m (by dsimp only at hm;omega)⟩,cO h0 [0] _ _ (by decide) rfl ⟨rfl,rfl,rfl,rfl,trivial⟩ ⟨aC rfl,rfl⟩⟩
   refine o1 ?_;refine nl (iX rfl (sq (rl (o1 ?_))));refine o1 ?_;refine ld ?_;refine o1 ?_
   refine tQ (HI (us:=us) (k:=i) (x:=((aH us (j)).1,(aH us (j)).2)) (by omega)) (OZ (us:=us) (k:=i) (by omega)) ?_
   refine nl (rl (o1 ?_));refine o1 ?_;refine WL.cast (t:=35) (u':=.int .i64 ((i+1:Nat):Int)) rfl (aG (by omega)) ?_
   refine o1 ?_;refine nl (rl (o1 ?_));refine o1 ?_;refine WL.cast (t:=21) (u':=.int .i64 ((j+1:Nat):Int)) rfl (aG (by omega)) ?_
   refine o1 ?_;refine nl ?_
   exact⟨(i+1,j+1,us.set i (aH us j)),by dsimp only;omega,⟨by dsimp only;omega,by dsimp only;omega,by dsimp only;rw[List.length_set];exact hul,by dsimp only;rw[hsj];exact DB hpre (by omega) (by rw[←hsj];exact h3) (by omega),fun m hm=>by dsimp only at hm⊢;rw[PA (by omega)];exact hsuf m (by omega)⟩,cO h0 [0] _ _ (by decide) rfl ⟨rfl,rfl,rfl,rfl,trivial⟩ ⟨aC rfl,rfl⟩⟩
  refine ex (sq (rl ?_));(iterate 3 refine o1 ?_);have hF:us.take i=dX dl vs:=by rw[hpre,List.take_of_length_le (by omega)];rfl
  refine clear (o:=0+i*5) (n:=vs.length-i) (z:=5) (zz:=.agg zV.toArray) (l:=dQ us) (l':=(nP vs (dX dl vs)).map .t) (by rw[lG];omega) ((by rw[←hul]:dY (dQ us) (0+i*5) ((gQ zV (vs.length-i)).map tv)=dY (dQ us) (0+i*5) ((gQ zV (us.length-i)).map tv)).trans (Xr hul (by omega) hF)) ?_
  refine nl (sq (rl ?_));(iterate 4 refine o1 ?_);refine nl (rt ?_);have hFl:(dX dl vs).length=i:=by rw[←hF,List.length_take];omega
  exact gL (lent':=[⟨102,5,(nP vs (dX dl vs)).map .t⟩]) (.inl rfl) rfl (aY (.one (.rf rfl rfl))) (by decide) (fun _ h=>by cases h) ⟨⟨rfl,rfl⟩,trivial⟩ ⟨rfl,trivial⟩ ⟨cE _,trivial⟩ (fun h=>by cases h) ⟨rfl,by rw[hFl]⟩
 replace hix:jF dl vs=vs.length:=by omega
 refine sq (rl (o1 ?_));refine nl (sq (rl (o1 ?_)));refine o1 ?_
 refine ca (Lp hok hd hl hix) HH ⟨xC rfl (.sl rfl rfl (aN _ _ rfl) (bI false vs)),a1 rfl,rfl⟩ (.one (tv (.int .i64 (-1)))) ?_;refine o1 ?_;refine nl (sq ?_)
 refine sq (rl (o1 ?_));refine o1 ?_;refine nl ?_;refine bH rfl (fun h4=>?_) (fun h4=>?_)
 ·refine sq (rl (o1 ?_));refine o1 ?_;refine nl (rt ?_)
  exact gL (lent':=[⟨102,5,(nP vs (dX dl vs)).map .t⟩]) (.inl rfl) rfl (aY (.one (.rf rfl rfl))) (by decide) (fun _ h=>by cases h) ⟨⟨rfl,rfl⟩,trivial⟩ ⟨congrArg (fun l=>some (⟨102,5,l⟩:Ob)) (Xs (Ls hix)),trivial⟩ ⟨cE _,trivial⟩ (fun h=>by cases h) ⟨rfl,by rw[Ls hix]⟩
 exact absurd h4 (by omega)
theorem DC {vs:List (Int×Rat)}(hl:vs.length≤1073741823):aF false Tryz.prog 105 [⟨102,5,dQ vs⟩] [.one (.sl 0 0 vs.length)] (Rt [⟨102,5,dQ vs⟩] (.one (.t (sR 102 vs)))):=by
 refine mS Tryz.func105 rfl Tryz.ntmps105 rfl aB rfl fun N M w c0 h0=>?_
 refine sq (rl (o1 ?_));refine nl (sq (sq (rl (o1 ?_))));refine nq (fun hn0=>?_) ?_
 ·refine nl (iX rfl (sq (rl (o1 ?_))));refine nl (rt ?_);have hv0:vs=[]:=List.eq_nil_of_length_eq_zero hn0
  exact gL (lent':=[⟨102,5,dQ vs⟩]) (.inl rfl) rfl (aY (.one (.nil (t:=102) (z:=5)))) (by decide) (fun _ h=>by cases h) ⟨⟨rfl,rfl⟩,trivial⟩ ⟨rfl,trivial⟩ ⟨cE _,trivial⟩ (fun h=>by cases h) ⟨rfl,by rw[hv0];rfl⟩
 refine nl (fS rfl (sk (sq (rl (ZU 1 ?_)))));refine o1 ?_
 refine hG (j:=2) (n:=0) (m:=vs.length) (news:=dQ vs) aB rfl rfl rfl rfl (.sl rfl rfl) (.sl rfl (List.take_of_length_le (Nat.le_of_eq (lG vs))) (lG vs)) (XB vs) (PB vs) rfl (by omega) (by omega) ?_
 refine o1 ?_;refine nl (rt ?_)
 exact gL (lent':=[⟨102,5,dQ vs⟩]) (.inl rfl) rfl (aY (.one (.sl (trs:=vs.flatMap (cL false)) rfl rfl (by rw[List.nil_append,Nat.zero_add];exact List.take_of_length_le (Nat.le_of_eq (lG vs))) (by rw[bI,Nat.zero_add])))) (by decide) (by simp) ⟨⟨rfl,rfl⟩,trivial⟩ ⟨rfl,trivial⟩ ⟨cE _,trivial⟩ (fun h=>by cases h) ⟨rfl,by rw[Nat.zero_add];rfl⟩
theorem zR {t0:Nat}{rest:List Tr}{vs:List (Int×Rat)}{dl:Int×Rat→Bool}{fd:FuncId}{fst caps:List Tr}(hok:CallOk Tryz.prog fd) (hd:∀x∈vs,aF true Tryz.prog fd [] (cK fst++[.agg ((cL false x).map .t)]++cK caps) (aU (.one (tv (.bool (dl x)))))) (hl:vs.length≤1073741823):aF false Tryz.prog 106 [⟨t0,0,.t (sR 102 vs)::rest.map .t⟩] [.one (.pt 0 0),.one (.t (.f fd fst caps))] (Rt [⟨t0,0,.t (sR 102 (dX dl vs))::rest.map .t⟩] (.tup [])):=by
 refine mS Tryz.func106 rfl Tryz.ntmps106 rfl aB rfl fun N M w c0 h0=>?_
 refine WP.sub (nQ (j:=0) (key:=1) (p:=0) (e:=102) (z:=5) (n:=vs.length) (trs:=vs.flatMap (cL false)) rfl rfl rfl rfl rfl) ?_;refine rl ?_;(iterate 4 refine o1 ?_);refine ld ?_
 refine o1 ?_;refine ZV [1] (Lq hok hd hl) UK ⟨aC rfl,rfl⟩ ⟨rfl,rfl,rfl⟩ (ok:=[some ⟨102,5,(nP vs (dX dl vs)).map .t⟩]) ⟨aC rfl,rfl⟩ ?_;refine o1 ?_;refine o1 ?_
 refine tQ (o:=0) (us:=[.sl 1 0 (dX dl vs).length]) (l:=.sl 1 0 vs.length::rest.map .t) rfl (by simp) ?_
 refine WL.sub (gS (j:=0) (k:=1) (p:=0) (n:=(dX dl vs).length) (trs:=(dX dl vs).flatMap (cL false)) rfl rfl rfl rfl rfl (Ub _ _) (bI _ _) rfl) ?_;refine nl ?_
 exact gL (lent':=[⟨t0,0,.t (sR 102 (dX dl vs))::rest.map .t⟩]) (.inr rfl) rfl qE (by decide) (fun _ h=>by cases h) ⟨⟨rfl,rfl⟩,trivial⟩ ⟨rfl,trivial⟩ ⟨cE (sR _ _::rest),trivial⟩ (fun h=>by cases h) ⟨rfl,rfl⟩
theorem Dn {a:Fr4}{p v:Rat}(ha:Qn a p) (hv:Sz 68719476736 v):aF false Tryz.prog 129 [] [qF (.of v),.one (.t (sQ false [a]))] (aU (qF (.of (aJ v [p])))):=by
 have h:=UI (a:=.of v) (xs:=[a]) (Qn.of hv) (fun x hx=>by rw[List.mem_singleton]at hx;rw[hx];exact ha.1) (by simp)
 have e:[a].map Fr4.q=[p]:=by rw[←ha.2];rfl
 rwa[e]at h
theorem PC {t0 i:Nat}{rest:List Tr}{vs:List (Int×Rat)}{a:Fr4}{p:Rat}(ha:Qn a p) (hi:i<vs.length) (hv:Sz 68719476736 (aH vs (i)).2) (hl:vs.length≤1073741823):aF false Tryz.prog 124 [⟨t0,0,.sl 1 0 vs.length::rest.map .t⟩,⟨102,5,dQ vs⟩] [.one (.pt 0 0),.one (tv (.int .i64 ((i:Nat):Int))),qF a] (Rt [⟨t0,0,.sl 1 0 vs.length::rest.map .t⟩,⟨102,5,dQ (vs.set (i) ((aH vs (i)).1,((aH vs (i)).2-(aJ (aH vs (i)).2 [p]))))⟩] (.agg ((cL false ((aH vs (i)).1,(aJ (aH vs (i)).2 [p]))).map .t))):=by
 refine mS Tryz.func124 rfl Tryz.ntmps124 rfl aB rfl fun N M w c0 h0=>?_
 have hn:Sz 68719476736 (aJ (aH vs (i)).2 [p]):=oT hv fun q hq=>by rw[List.mem_singleton]at hq;rw[hq];exact ha.sz
 have hix:i<vs.length:=hi
 refine sq (rl (bx 2 ?_));refine al 3 ?_;refine nl (sq (rl ?_));(iterate 3 refine o1 ?_);refine ld ?_;(iterate 3 refine o1 ?_);refine nl ?_
 refine md (γ:=Unit) (fun _=>bP [(6,.one (.pt 2 0)),(7,.one (.pt 1 (0+i*5))),(8,.one (.pt 3 0))]) (fun _=>([⟨t0,0,.sl 1 0 vs.length::rest.map .t⟩,⟨102,5,dQ vs⟩,⟨102,0,[tv (.int .i64 0),tv (.bool false),tv (.slice none 0 0),tv (.bool false),tv (.slice none 0 0)]⟩,⟨48,0,((Fr4.of (aJ (aH vs (i)).2 [p])).tr false).map .t⟩]:List Ob).map some) (fun _=>True) ?_ fun _ _=>?_
 ·refine rd [0,1,2,3] (fun i=>[8].contains i) mixed ?_
  refine dv 0 ?_;refine dv 1 ?_;refine dv 2 ?_;refine kR 3 (Jm (us:=vs) (k:=i) (by omega)) ?_
  refine aO 4 ?_;refine WO.two (i:=5) (j:=7) (by kernel_rfl) ?_ ?_
  ·refine Uc (key:=4) 5 rfl rfl ⟨rfl,rfl,rfl,rfl,trivial⟩ ?_
   refine Bd (i:=20) (k:=4) (t:=48) (t':=52) (z:=4) (n:=1) (l:=[a].flatMap (Fr4.tr false)) rfl rfl rfl rfl (.one .sl) (by rfl) (by rfl) ?_
   refine WO.two (i:=6) (j:=7) (by kernel_rfl) ?_ ?_
   ·refine mO 6 rfl (Dn ha hv) nR ⟨aE rfl,a1 rfl,rfl⟩ (qF (.of (aJ (aH vs (i)).2 [p]))) ?_;refine kM (key:=5) 7 (by kernel_rfl) rfl rfl aB rfl ⟨rfl,rfl,rfl,rfl,trivial⟩ ?_
    refine dst 8 ?_;refine bO ?_;exact⟨(),trivial,cO h0 [0,1,3,5] _ _ (by decide) rfl ⟨rfl,rfl,rfl,trivial⟩ ⟨Qr rfl rfl,aC rfl,oe rfl rfl,aC rfl,rfl⟩⟩
   refine fK (key:=5) 7 rfl rfl aB rfl ⟨rfl,rfl,rfl,rfl,trivial⟩ ?_;refine bU 6 rfl (Dn ha hv) nR ⟨aE rfl,a1 rfl,rfl⟩ (qF (.of (aJ (aH vs (i)).2 [p]))) ?_
   refine dst 8 ?_;refine bO ?_;exact⟨(),trivial,cO h0 [0,1,3,5] _ _ (by decide) rfl ⟨rfl,rfl,rfl,trivial⟩ ⟨Qr rfl rfl,aC rfl,oe rfl rfl,aC rfl,rfl⟩⟩
  refine fK (key:=4) 7 rfl rfl aB rfl ⟨rfl,rfl,rfl,rfl,trivial⟩ ?_;refine jH (key:=5) 5 (by kernel_rfl) rfl rfl aB rfl ⟨rfl,rfl,rfl,rfl,trivial⟩ ?_
  refine Bd (i:=20) (k:=5) (t:=48) (t':=52) (z:=4) (n:=1) (l:=[a].flatMap (Fr4.tr false)) rfl rfl rfl rfl (.one .sl) (by rfl) (by rfl) ?_
  refine bU 6 rfl (Dn ha hv) nR ⟨aE rfl,a1 rfl,rfl⟩ (qF (.of (aJ (aH vs (i)).2 [p]))) ?_;refine dst 8 ?_;refine bO ?_
  exact⟨(),trivial,cO h0 [0,1,3,4] _ _ (by decide) rfl ⟨rfl,rfl,rfl,trivial⟩ ⟨Qr rfl rfl,aC rfl,oe rfl rfl,aC rfl,rfl⟩⟩
 refine sq ?_;refine rd [0,1,2,3] (fun i=>[7,8,9].contains i) mixed ?_
 refine dv 0 ?_;refine dv 1 ?_;refine dv 2 ?_;refine dv 3 ?_;refine kR 4 (Jm (us:=vs) (k:=i) (by omega)) ?_
 refine aO 5 ?_
 refine bU 6 rfl (zS (Qn.of (p:=(aH vs (i)).2) hv) (Qn.of (p:=(aJ (aH vs (i)).2 [p])) hn)) Fm ⟨aE rfl,aE rfl,rfl⟩ (qF (.of ((aH vs (i)).2-(aJ (aH vs (i)).2 [p])))) ?_
 refine eE 7 (by kernel_rfl) rfl rfl aB rfl (by trivial) ?_ (fun h=>by first | rfl | cases h)
 refine eE 8 (by kernel_rfl) rfl rfl aB rfl (by trivial) ?_ (fun h=>by first | rfl | cases h)
 refine pW 9 (HJ (us:=vs) (k:=i) (q:=((aH vs (i)).2-(aJ (aH vs (i)).2 [p]))) (by omega)) (Qs (us:=vs) (k:=i) (by omega)) ?_
 refine bO ?_;refine sq ?_;refine rd [0,1,2,3] (fun i=>[6].contains i) mixed ?_
 refine dv 0 ?_;refine dv 1 ?_;refine dv 2 ?_
 refine Kj 3 (Ud (us:=(vs.set (i) ((aH vs (i)).1,((aH vs (i)).2-(aJ (aH vs (i)).2 [p]))))) (k:=i) (by rw[List.length_set];omega)) ?_
 refine aO 4 ?_;refine dv 5 ?_;refine dst 6 ?_;refine bO ?_;refine rt ?_
 exact gL (lent':=[⟨t0,0,.sl 1 0 vs.length::rest.map .t⟩,⟨102,5,dQ (vs.set (i) ((aH vs (i)).1,((aH vs (i)).2-(aJ (aH vs (i)).2 [p]))))⟩]) (.inl rfl) rfl (aY (.agg (.cons (.id rfl) (.cons (.id rfl) (.cons (.id rfl) (.cons (.id rfl) (.cons (.id rfl) .nil))))))) (by decide) (fun _ h=>by cases h) ⟨⟨rfl,rfl⟩,⟨rfl,rfl⟩,trivial⟩ ⟨rfl,rfl,trivial⟩ ⟨cE rest,cE _,trivial⟩ (fun h=>by cases h) ⟨rfl,by rw[By hi];rfl⟩
def sP (x:Int×Rat):Bool:=nK x.1 x.2
theorem Xt {y:Int}{q:Rat}(hs:Sz 68719476736 q):aF true Tryz.prog 125 [] [.agg ((cL false (y,q)).map .t)] (aU (.one (tv (.bool (sP (y,q)))))):=by
 refine bX Tryz.func125 rfl Tryz.ntmps125 rfl aB rfl fun N w c0 h0=>?_
 refine sq (rl (bx 0 ?_));refine o1 ?_;refine nl (sq (rl (o1 ?_)));refine ld ?_
 refine ca (nN (Qn.of (p:=q) hs)) vO ⟨aE rfl,rfl⟩ (.one (tv (.int .i64 q.num.sign))) ?_;refine o1 ?_;refine o1 ?_;refine nl (rt ?_)
 exact en (.inl rfl) rfl (aY (cM _)) (by decide) (fun _=>trivial) rfl
theorem Lu {t0 i:Nat}{rest:List Tr}{us vs:List (Int×Rat)}{x:Int×Rat}{a:Fr4}{p:Rat}(ha:Qn a p) (hnx:aH us i=x) (hi:i<us.length) (hul:us.length=vs.length) (hv:Sz 68719476736 x.2) (hl:vs.length≤1073741823):aF false Tryz.prog 124 [⟨t0,0,.sl 1 0 vs.length::rest.map .t⟩,⟨102,5,dQ us⟩] [.one (.pt 0 0),.one (tv (.int .i64 ((i:Nat):Int))),qF a] (Rt [⟨t0,0,.sl 1 0 vs.length::rest.map .t⟩,⟨102,5,dQ (us.set i (x.1,x.2-aJ x.2 [p]))⟩] (.agg ((cL false (x.1,aJ x.2 [p])).map .t))):=by
 subst hnx
 rw[←hul]
 exact PC ha hi hv (by omega)
end Go.Proofs.YtbbabfkgdnkehaaGreat
