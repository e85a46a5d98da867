/- Part 13 of a proof: O5 to H2. -/
import Derived.Test.YtbbabfkgdnkehaaGreatM12
import Derived.Test.YtbbabfkgdnkehaaGreatM11
import Derived.Test.YtbbabfkgdnkehaaGreatM10
import Derived.Test.YtbbabfkgdnkehaaGreatM5
import Derived.Test.YtbbabfkgdnkehaaGreatM8
set_option maxRecDepth 100000
set_option linter.unusedVariables false
set_option linter.unusedSimpArgs false
namespace Go.Proofs.YtbbabfkgdnkehaaGreat
open Go Go.RowKit
theorem qC {q:Rat}(h:Sz 2000000 q):(Fr4.of q).len 1099511627776:=⟨Nat.le_trans h.1 (by omega),Nat.le_trans h.2 (by omega)⟩
theorem ZO {l:List Rat}(h:∀q∈l,Sz 2000000 q):∀a∈l.map Fr4.of,a.len 1099511627776:=fun a ha=>by
 obtain⟨q,hq,rfl⟩:=List.mem_map.1 ha
 exact qC (h q hq)
theorem xH {l:List Rl}{i:Nat}(h:i<l.length):fN l i∈l:=nO h
theorem SO {rws:List Rl}{vs:List Vn}{us:List Ur}(hr:∀r∈rws,Sz 2000000 r.u∧(∀q∈r.b,Sz 2000000 q)∧r.b.length≤1073741823) (hv:∀v∈vs,Sz 2000000 v.l∧Sz 2000000 v.u∧Sz 2000000 v.x∧Sz 2000000 v.c) (hu:∀u∈us,Sz 2000000 u.n) (hlr:rws.length≤1073741823) (hlv:vs.length≤1073741823) (hlu:us.length≤1073741823):aE true Tryz.prog 13 [] [.agg [.t (cR false rws),.t (cO false false vs),.t (cF false false us)],.agg [.t (lT false rws),.t (lR false vs),.t (lS false us)]] (aT (.one (tv (.bool true)))):=by
 refine bV Tryz.func13 rfl Tryz.ntmps13 rfl aF rfl fun N9 w9 c0 h0=>?_
 refine sq (rl (bx 0 ?_));refine bx 1 ?_;refine o1 ?_;refine nl (sq (sq (rl (o1 ?_))));refine ld ?_;refine o1 ?_;refine o1 ?_;refine ld ?_
 refine o1 ?_;refine o1 ?_;refine WL.cast (t:=18) (u':=.bool false) rfl (congrArg Value.bool (by simp)) ?_
 refine o1 ?_;refine o1 ?_;refine ld ?_;refine o1 ?_;refine o1 ?_;refine ld ?_;refine o1 ?_;refine o1 ?_;refine WL.cast (t:=26) (u':=.bool false) rfl (congrArg Value.bool (by simp)) ?_
 (iterate 3 refine o1 ?_);refine ld ?_;refine o1 ?_;refine o1 ?_;refine ld ?_;refine o1 ?_;refine o1 ?_;refine WL.cast (t:=35) (u':=.bool false) rfl (congrArg Value.bool (by simp)) ?_
 refine o1 ?_;refine nl (dW rfl (sk (sq (sq (rl (o1 ?_))))));refine nl (bl ?_)
 refine lp (γ:=Nat) (fun s=>bP [(2,pN 0),(3,pN 1),(5,iN s)]) (fun s=>[(⟨39,0,[.t (cR false rws),.t (cO false false vs),.t (cF false false us)]⟩:Ob),⟨31,0,[.t (lT false rws),.t (lR false vs),.t (lS false us)]⟩].map some) (fun s=>s≤rws.length) (fun s=>rws.length-s) 0 (Nat.zero_le _) (aP h0 [0,1] ⟨oe rfl rfl,oe rfl rfl,rfl⟩) ?_
 rintro i hi;refine sq (sq (rl (o1 ?_)));refine o1 ?_;refine ld ?_;refine o1 ?_;refine o1 ?_;refine nl ?_;refine bF rfl (fun h1=>?_) (fun h1=>?_)
 ·refine sk (sq (bl (sq ?_)));refine cI [0,1] [] ?_
  refine dv 0 ?_;refine aK 1 ?_;refine dv 2 ?_;refine dv 3 ?_;refine dv 4 ?_
  refine dD 5 ((Fr4.of (fN rws (i)).u).tr false) (aI (f:=rlt) (z:=5) (o:=0) eO (fV (by omega)) (bM rfl) rfl) ?_
  refine dv 6 ?_;refine aK 7 ?_;refine dv 8 ?_;refine dv 9 ?_;refine dv 10 ?_
  refine dD 11 ((Fr4.of (fN rws (i)).u).tr false) (aI (f:=rlt) (z:=5) (o:=0) eO (fV (by omega)) (bM rfl) rfl) ?_
  refine aS 12 rfl (tB (a:=.of (fN rws (i)).u) (qC (hr _ (xH (by omega))).1)) Oy ⟨aC rfl,aC rfl,rfl⟩ (.one (tv (.bool true))) ?_
  refine df 13 ?_;refine df 14 ?_;refine dv 15 ?_;refine aK 16 ?_;refine dv 17 ?_;refine dv 18 ?_;refine dv 19 ?_
  refine dD 20 ([sQ false ((fN rws (i)).b.map Fr4.of)]) (aI (f:=rlt) (z:=5) (o:=4) eO (fV (by omega)) (bM rfl) rfl) ?_
  refine dv 21 ?_;refine aK 22 ?_;refine dv 23 ?_;refine dv 24 ?_;refine dv 25 ?_
  refine dD 26 ([sQ false ((fN rws (i)).b.map Fr4.of)]) (aI (f:=rlt) (z:=5) (o:=4) eO (fV (by omega)) (bM rfl) rfl) ?_
  refine aS 27 rfl (Ht (xs:=((fN rws (i)).b.map Fr4.of)) (ZO (hr _ (xH (by omega))).2.1) (by rw[dB];exact(hr _ (xH (by omega))).2.2)) GD ⟨a1 rfl,a1 rfl,rfl⟩ (.one (tv (.bool true))) ?_
  refine df 28 ?_;refine df 29 ?_;refine aW ?_;refine dW rfl (sk (rl (o1 ?_)));refine o1 ?_
  refine bB 43 (i+1) ?_
  refine o1 ?_;refine nl ?_;exact⟨i+1,by omega,by omega,iU h0 [0,1] _ _ (by decide) ⟨rfl,rfl,oG (by omega),trivial⟩ ⟨oe rfl rfl,oe rfl rfl,rfl⟩⟩
 refine ex (sq (sq (rl (o1 ?_))));refine nl (bl ?_)
 refine lp (γ:=Nat) (fun s=>bP [(2,pN 0),(3,pN 1),(6,iN s)]) (fun s=>[(⟨39,0,[.t (cR false rws),.t (cO false false vs),.t (cF false false us)]⟩:Ob),⟨31,0,[.t (lT false rws),.t (lR false vs),.t (lS false us)]⟩].map some) (fun s=>s≤vs.length) (fun s=>vs.length-s) 0 (Nat.zero_le _) (aP h0 [0,1] ⟨oe rfl rfl,oe rfl rfl,rfl⟩) ?_
 rintro j hj;refine sq (sq (rl (o1 ?_)));refine o1 ?_;refine ld ?_;refine o1 ?_;refine o1 ?_;refine nl ?_;refine bF rfl (fun h2=>?_) (fun h2=>?_)
 ·refine sk (sq (bl (sq ?_)));refine cI [0,1] [13] ?_
  refine dv 0 ?_;refine aK 1 ?_;refine dv 2 ?_;refine dv 3 ?_
  refine dD 4 ((cA false) (aY vs (j))) (aI (f:=(cA false)) (z:=18) (o:=0) (cK false) (hH (by omega)) (bM rfl) rfl) ?_
  refine dv 5 ?_;refine aK 6 ?_;refine dv 7 ?_;refine dv 8 ?_
  refine dD 9 ((cA false) (aY vs (j))) (aI (f:=(cA false)) (z:=18) (o:=0) (cK false) (hH (by omega)) (bM rfl) rfl) ?_
  refine eR 10 11 ?_ ?_
  ·refine cQ 2 10 ?_;refine fZ 3 11 ?_
   refine dC 12 ?_
   refine dst 13 ?_;refine aW ?_;refine sq ?_;have hvj:=hv _ (tS (l:=vs) (i:=j) (by omega))
   have hv4:∀a∈[Fr4.of (aY vs (j)).l,Fr4.of (aY vs (j)).u,Fr4.of (aY vs (j)).x,Fr4.of (aY vs (j)).c],a.len 1099511627776:=fun a ha=>by
    simp only[pL,List.not_mem_nil,or_false]at ha;rcases ha with rfl | rfl | rfl | rfl
    ·exact qC hvj.1
    ·exact qC hvj.2.1
    ·exact qC hvj.2.2.1
    exact qC hvj.2.2.2
   refine rl (o1 ?_);refine ld ?_;refine o1 ?_;refine ld ?_;refine o1 ?_;refine WL.cast (t:=95) (u':=.bool false) rfl (congrArg Value.bool (by simp)) ?_
   refine o1 ?_;refine o1 ?_;refine ld ?_;refine o1 ?_;refine ld ?_;refine o1 ?_;refine WL.cast (t:=101) (u':=.bool false) rfl (congrArg Value.bool (by simp)) ?_
   (iterate 3 refine o1 ?_);refine ld ?_;refine o1 ?_;refine ld ?_;refine o1 ?_;refine ld ?_;refine o1 ?_;refine ld ?_;refine bs 4 ?_
   refine WL.sub (Ox (i:=112) (k:=4) (t:=48) (z:=4) (n:=4) (l:=([Fr4.of (aY vs (j)).l,Fr4.of (aY vs (j)).u,Fr4.of (aY vs (j)).x,Fr4.of (aY vs (j)).c]).flatMap (Fr4.tr false)) 52 rfl rfl rfl rfl (.one .sl)) ?_
   refine o1 ?_;refine ld ?_;refine o1 ?_;refine ld ?_;refine o1 ?_;refine ld ?_;refine o1 ?_;refine ld ?_;refine bs 5 ?_
   refine WL.sub (Ox (i:=121) (k:=5) (t:=52) (z:=4) (n:=4) (l:=([Fr4.of (aY vs (j)).l,Fr4.of (aY vs (j)).u,Fr4.of (aY vs (j)).x,Fr4.of (aY vs (j)).c]).flatMap (Fr4.tr false)) 52 rfl rfl rfl rfl (.one .sl)) ?_
   refine ca (Ht (xs:=[Fr4.of (aY vs (j)).l,Fr4.of (aY vs (j)).u,Fr4.of (aY vs (j)).x,Fr4.of (aY vs (j)).c]) hv4 (by show 4≤_;omega)) GD ⟨a1 rfl,a1 rfl,rfl⟩ (.one (tv (.bool true))) ?_
   refine o1 ?_;refine o1 ?_;refine nl (dW rfl (sk (rl (o1 ?_))));refine o1 ?_
   refine bB 80 (j+1) ?_
   refine o1 ?_;refine nl ?_;exact⟨j+1,by omega,by omega,iU h0 [0,1] _ _ (by decide) ⟨rfl,rfl,oG (by omega),trivial⟩ ⟨oe rfl rfl,oe rfl rfl,rfl⟩⟩
  refine cQ 2 11 ?_;refine fZ 3 10 ?_
  refine dC 12 ?_
  refine dst 13 ?_;refine aW ?_;refine sq ?_;have hvj:=hv _ (tS (l:=vs) (i:=j) (by omega))
  have hv4:∀a∈[Fr4.of (aY vs (j)).l,Fr4.of (aY vs (j)).u,Fr4.of (aY vs (j)).x,Fr4.of (aY vs (j)).c],a.len 1099511627776:=fun a ha=>by
   simp only[pL,List.not_mem_nil,or_false]at ha;rcases ha with rfl | rfl | rfl | rfl
   ·exact qC hvj.1
   ·exact qC hvj.2.1
   ·exact qC hvj.2.2.1
   exact qC hvj.2.2.2
  refine rl (o1 ?_);refine ld ?_;refine o1 ?_;refine ld ?_;refine o1 ?_;refine WL.cast (t:=95) (u':=.bool false) rfl (congrArg Value.bool (by simp)) ?_
  refine o1 ?_;refine o1 ?_;refine ld ?_;refine o1 ?_;refine ld ?_;refine o1 ?_;refine WL.cast (t:=101) (u':=.bool false) rfl (congrArg Value.bool (by simp)) ?_
  (iterate 3 refine o1 ?_);refine ld ?_;refine o1 ?_;refine ld ?_;refine o1 ?_;refine ld ?_;refine o1 ?_;refine ld ?_;refine bs 4 ?_
  refine WL.sub (Ox (i:=112) (k:=4) (t:=48) (z:=4) (n:=4) (l:=([Fr4.of (aY vs (j)).l,Fr4.of (aY vs (j)).u,Fr4.of (aY vs (j)).x,Fr4.of (aY vs (j)).c]).flatMap (Fr4.tr false)) 52 rfl rfl rfl rfl (.one .sl)) ?_
  refine o1 ?_;refine ld ?_;refine o1 ?_;refine ld ?_;refine o1 ?_;refine ld ?_;refine o1 ?_;refine ld ?_;refine bs 5 ?_
  refine WL.sub (Ox (i:=121) (k:=5) (t:=52) (z:=4) (n:=4) (l:=([Fr4.of (aY vs (j)).l,Fr4.of (aY vs (j)).u,Fr4.of (aY vs (j)).x,Fr4.of (aY vs (j)).c]).flatMap (Fr4.tr false)) 52 rfl rfl rfl rfl (.one .sl)) ?_
  refine ca (Ht (xs:=[Fr4.of (aY vs (j)).l,Fr4.of (aY vs (j)).u,Fr4.of (aY vs (j)).x,Fr4.of (aY vs (j)).c]) hv4 (by show 4≤_;omega)) GD ⟨a1 rfl,a1 rfl,rfl⟩ (.one (tv (.bool true))) ?_
  refine o1 ?_;refine o1 ?_;refine nl (dW rfl (sk (rl (o1 ?_))));refine o1 ?_
  refine bB 80 (j+1) ?_
  refine o1 ?_;refine nl ?_;exact⟨j+1,by omega,by omega,iU h0 [0,1] _ _ (by decide) ⟨rfl,rfl,oG (by omega),trivial⟩ ⟨oe rfl rfl,oe rfl rfl,rfl⟩⟩
 refine ex (sq (sq (rl (o1 ?_))));refine nl (bl ?_)
 refine lp (γ:=Nat) (fun s=>bP [(2,pN 0),(3,pN 1),(9,iN s)]) (fun s=>[(⟨39,0,[.t (cR false rws),.t (cO false false vs),.t (cF false false us)]⟩:Ob),⟨31,0,[.t (lT false rws),.t (lR false vs),.t (lS false us)]⟩].map some) (fun s=>s≤us.length) (fun s=>us.length-s) 0 (Nat.zero_le _) (aP h0 [0,1] ⟨oe rfl rfl,oe rfl rfl,rfl⟩) ?_
 rintro k hk;refine sq (sq (rl (o1 ?_)));refine o1 ?_;refine ld ?_;refine o1 ?_;refine o1 ?_;refine nl ?_;refine bF rfl (fun h3=>?_) (fun h3=>?_)
 ·refine sk (sq (bl (sq ?_)));refine cI [0,1] [13] ?_
  refine dv 0 ?_;refine aK 1 ?_;refine dv 2 ?_;refine dv 3 ?_
  refine dD 4 ((dK false) (bN us (k))) (aI (f:=(dK false)) (z:=7) (o:=0) (dA false) (dG (by omega)) (bM rfl) rfl) ?_
  refine dv 5 ?_;refine aK 6 ?_;refine dv 7 ?_;refine dv 8 ?_
  refine dD 9 ((dK false) (bN us (k))) (aI (f:=(dK false)) (z:=7) (o:=0) (dA false) (dG (by omega)) (bM rfl) rfl) ?_
  refine eR 10 11 ?_ ?_
  ·refine cQ 2 10 ?_;refine fZ 3 11 ?_
   refine dC 12 ?_
   refine dst 13 ?_;refine aW ?_;refine sq (rl (o1 ?_));refine ld ?_;refine o1 ?_;refine ld ?_;refine o1 ?_
   refine WL.cast (t:=146) (u':=.bool false) rfl (congrArg Value.bool (by simp)) ?_
   refine o1 ?_;refine o1 ?_;refine ld ?_;refine o1 ?_;refine ld ?_;refine o1 ?_;refine WL.cast (t:=152) (u':=.bool false) rfl (congrArg Value.bool (by simp)) ?_
   (iterate 3 refine o1 ?_);refine ld ?_;refine o1 ?_;refine ld ?_;refine o1 ?_;refine WL.cast (t:=159) (u':=.bool false) rfl (congrArg Value.bool (by simp)) ?_
   (iterate 3 refine o1 ?_);refine ld ?_;refine o1 ?_;refine ld ?_
   refine ca (tB (a:=.of (bN us (k)).n) (qC (hu _ (eA (by omega))))) Oy ⟨aC rfl,aC rfl,rfl⟩ (.one (tv (.bool true))) ?_
   refine o1 ?_;refine o1 ?_;refine nl (dW rfl (sk (rl (o1 ?_))));refine o1 ?_
   refine bB 131 (k+1) ?_
   refine o1 ?_;refine nl ?_;exact⟨k+1,by omega,by omega,iU h0 [0,1] _ _ (by decide) ⟨rfl,rfl,oG (by omega),trivial⟩ ⟨oe rfl rfl,oe rfl rfl,rfl⟩⟩
  refine cQ 2 11 ?_;refine fZ 3 10 ?_
  refine dC 12 ?_
  refine dst 13 ?_;refine aW ?_;refine sq (rl (o1 ?_));refine ld ?_;refine o1 ?_;refine ld ?_;refine o1 ?_
  refine WL.cast (t:=146) (u':=.bool false) rfl (congrArg Value.bool (by simp)) ?_
  refine o1 ?_;refine o1 ?_;refine ld ?_;refine o1 ?_;refine ld ?_;refine o1 ?_;refine WL.cast (t:=152) (u':=.bool false) rfl (congrArg Value.bool (by simp)) ?_
  (iterate 3 refine o1 ?_);refine ld ?_;refine o1 ?_;refine ld ?_;refine o1 ?_;refine WL.cast (t:=159) (u':=.bool false) rfl (congrArg Value.bool (by simp)) ?_
  (iterate 3 refine o1 ?_);refine ld ?_;refine o1 ?_;refine ld ?_
  refine ca (tB (a:=.of (bN us (k)).n) (qC (hu _ (eA (by omega))))) Oy ⟨aC rfl,aC rfl,rfl⟩ (.one (tv (.bool true))) ?_
  refine o1 ?_;refine o1 ?_;refine nl (dW rfl (sk (rl (o1 ?_))));refine o1 ?_
  refine bB 131 (k+1) ?_
  refine o1 ?_;refine nl ?_;exact⟨k+1,by omega,by omega,iU h0 [0,1] _ _ (by decide) ⟨rfl,rfl,oG (by omega),trivial⟩ ⟨oe rfl rfl,oe rfl rfl,rfl⟩⟩
 refine ex (sq (rl (o1 ?_)));refine nl (rt ?_);exact gO (.inl rfl) rfl (rfl)
theorem AQ {n m:Nat}{tu0 tv0:List Tr}{rws:List Rl}(hU:Spg 7 4 n tu0) (hV:Spg 18 3 m tv0) (hn:n≤1073741823) (hm:m≤1073741823):aE false Tryz.prog 17 [⟨64,18,tv0.map .t⟩,⟨58,7,tu0.map .t⟩] [.agg [.t (cR false rws),.sl 0 0 m,.sl 1 0 n]] (fun l r=>r=.tup []∧∃a b:List Tr,l=[⟨64,18,a.map .t⟩,⟨58,7,b.map .t⟩]):=by
 refine qS Tryz.func17 rfl Tryz.ntmps17 rfl aF rfl fun N9 M9 w9 c0 h0=>?_
 refine sq (rl (bx 2 ?_));refine nl (sq (sq (rl (o1 ?_))));refine nl (bl ?_)
 refine lp (γ:=Nat×List Tr) (fun s=>bP [(1,pN 2),(2,iN s.1)]) (fun s=>[(⟨64,18,tv0.map .t⟩:Ob),⟨58,7,(s.2).map .t⟩,⟨39,0,[.t (cR false rws),.sl 0 0 m,.sl 1 0 n]⟩].map some) (fun s=>s.1≤n∧Spg 7 4 n s.2) (fun s=>n-s.1) (0,tu0) ⟨Nat.zero_le _,hU⟩ (fQ h0 [0,1,2] ⟨aB rfl,aB rfl,oe rfl rfl,rfl⟩) ?_
 rintro⟨i,trs⟩ ⟨hi,hP1⟩;dsimp only at hi hP1⊢;refine sq (sq (rl (o1 ?_)));refine o1 ?_;refine ld ?_;refine o1 ?_;refine o1 ?_;refine nl ?_
 refine bF rfl (fun h1=>?_) (fun h1=>?_)
 ·refine sk (sq (bl (sq (rl (o1 ?_)))));refine nl (bl ?_);obtain⟨xs,hxl1,hx1⟩:=hP1.2 i (by omega)
  refine WP.sub (oU (j:=1) (key:=3) (p:=i*7+4) (e:=113) (z:=1) (n:=xs.length) (trs:=aJ xs) rfl rfl rfl (by rw[List.getElem?_map,hx1];rfl) rfl) ?_
  refine lp (γ:=Nat×List Nat) (fun s=>bP [(1,pN 2),(2,iN i),(3,iN s.1)]) (fun s=>[(⟨64,18,tv0.map .t⟩:Ob),⟨58,7,((trs.map AV.t).set (i*7+4) (.sl 3 0 xs.length))⟩,⟨39,0,[.t (cR false rws),.sl 0 0 m,.sl 1 0 n]⟩,⟨113,1,(aJ s.2).map .t⟩].map some) (fun s=>s.1≤xs.length∧s.2.length=xs.length) (fun s=>xs.length-s.1) (0,xs) ⟨Nat.zero_le _,rfl⟩ (fQ h0 [0,1,2,3] ⟨aB rfl,⟨_,xF rfl _ _ _ _,rfl⟩,oe rfl rfl,aB rfl,rfl⟩) ?_
  rintro⟨k,zs⟩ ⟨hk,hz1⟩;dsimp only at hk hz1⊢;refine sq (sq (rl (o1 ?_)));refine o1 ?_;refine ld ?_;(iterate 5 refine o1 ?_)
  refine Cj (o:=0+i*7+3+0+1) (l:=((trs.map AV.t).set (i*7+4) (.sl 3 0 xs.length))) (v:=.sl 3 0 xs.length) (by rw[show 0+i*7+3+0+1=i*7+4 by omega];exact List.getElem?_set_self (by rw[dB,hP1.1];omega)) ?_
  refine o1 ?_;refine o1 ?_;refine nl ?_;refine bF rfl (fun h2=>?_) (fun h2=>?_)
  ·refine sk (sq (bl (rl (o1 ?_))));refine ld ?_;(iterate 5 refine o1 ?_)
   refine Cj (o:=0+i*7+3+0+1) (l:=((trs.map AV.t).set (i*7+4) (.sl 3 0 xs.length))) (v:=.sl 3 0 xs.length) (by rw[show 0+i*7+3+0+1=i*7+4 by omega];exact List.getElem?_set_self (by rw[dB,hP1.1];omega)) ?_
   refine o1 ?_;refine o1 ?_;refine tU (Bg zs (k:=k) (v:=77) (by omega)) (Fe zs (by omega)) ?_
   refine nl (rl (o1 ?_));refine o1 ?_;refine bB 25 (k+1) ?_
   refine o1 ?_;refine nl ?_
   exact⟨(k+1,zs.set k 77),by dsimp only;omega,⟨by dsimp only;omega,by dsimp only;rw[List.length_set];exact hz1⟩,fQ h0 [0,1,2,3] ⟨aB rfl,⟨_,xF rfl _ _ _ _,rfl⟩,oe rfl rfl,aB rfl,rfl⟩⟩
  refine ex ?_
  refine WP.sub (iJ (j:=1) (k:=3) (p:=i*7+4) (n:=xs.length) (trs:=aJ zs) (l':=(trs.set (i*7+4) (sU true zs)).map .t) rfl rfl rfl rfl (List.getElem?_set_self (by rw[dB,hP1.1];omega)) (aN _ _ (by rw[gK,hz1,Nat.mul_one])) (by rw[gK,hz1,Nat.mul_one]) (by rw[List.set_set,←hz1,List.map_set];rfl)) ?_
  refine rl (o1 ?_);refine o1 ?_;refine bB 12 (i+1) ?_
  refine o1 ?_;refine nl ?_
  exact⟨(i+1,trs.set (i*7+4) (sU true zs)),by dsimp only;omega,⟨by dsimp only;omega,hP1.step (by omega) (by omega) zs (by omega)⟩,fQ h0 [0,1,2] ⟨aB rfl,aB rfl,oe rfl rfl,rfl⟩⟩
 refine ex (sq (rl (o1 ?_)));refine nl (bl ?_)
 refine lp (γ:=Nat×List Tr) (fun s=>bP [(1,pN 2),(4,iN s.1)]) (fun s=>[(⟨64,18,(s.2).map .t⟩:Ob),⟨58,7,trs.map .t⟩,⟨39,0,[.t (cR false rws),.sl 0 0 m,.sl 1 0 n]⟩].map some) (fun s=>s.1≤m∧Spg 18 3 m s.2) (fun s=>m-s.1) (0,tv0) ⟨Nat.zero_le _,hV⟩ (fQ h0 [0,1,2] ⟨aB rfl,aB rfl,oe rfl rfl,rfl⟩) ?_
 rintro⟨i2,trs2⟩ ⟨hi2,hP0⟩;dsimp only at hi2 hP0⊢;refine sq (sq (rl (o1 ?_)));refine o1 ?_;refine ld ?_;refine o1 ?_;refine o1 ?_;refine nl ?_
 refine bF rfl (fun h3=>?_) (fun h3=>?_)
 ·refine sk (sq (bl (sq (rl (o1 ?_)))));refine nl (bl ?_);obtain⟨xs2,hxl0,hx0⟩:=hP0.2 i2 (by omega)
  refine WP.sub (oU (j:=0) (key:=3) (p:=i2*18+3) (e:=113) (z:=1) (n:=xs2.length) (trs:=aJ xs2) rfl rfl rfl (by rw[List.getElem?_map,hx0];rfl) rfl) ?_
  refine lp (γ:=Nat×List Nat) (fun s=>bP [(1,pN 2),(4,iN i2),(5,iN s.1)]) (fun s=>[(⟨64,18,((trs2.map AV.t).set (i2*18+3) (.sl 3 0 xs2.length))⟩:Ob),⟨58,7,trs.map .t⟩,⟨39,0,[.t (cR false rws),.sl 0 0 m,.sl 1 0 n]⟩,⟨113,1,(aJ s.2).map .t⟩].map some) (fun s=>s.1≤xs2.length∧s.2.length=xs2.length) (fun s=>xs2.length-s.1) (0,xs2) ⟨Nat.zero_le _,rfl⟩ (fQ h0 [0,1,2,3] ⟨⟨_,xF rfl _ _ _ _,rfl⟩,aB rfl,oe rfl rfl,aB rfl,rfl⟩) ?_
  rintro⟨k2,zs2⟩ ⟨hk2,hz0⟩;dsimp only at hk2 hz0⊢;refine sq (sq (rl (o1 ?_)));refine o1 ?_;refine ld ?_;(iterate 5 refine o1 ?_)
  refine Cj (o:=0+i2*18+2+0+1) (l:=((trs2.map AV.t).set (i2*18+3) (.sl 3 0 xs2.length))) (v:=.sl 3 0 xs2.length) (by rw[show 0+i2*18+2+0+1=i2*18+3 by omega];exact List.getElem?_set_self (by rw[dB,hP0.1];omega)) ?_
  refine o1 ?_;refine o1 ?_;refine nl ?_;refine bF rfl (fun h4=>?_) (fun h4=>?_)
  ·refine sk (sq (bl (rl (o1 ?_))));refine ld ?_;(iterate 5 refine o1 ?_)
   refine Cj (o:=0+i2*18+2+0+1) (l:=((trs2.map AV.t).set (i2*18+3) (.sl 3 0 xs2.length))) (v:=.sl 3 0 xs2.length) (by rw[show 0+i2*18+2+0+1=i2*18+3 by omega];exact List.getElem?_set_self (by rw[dB,hP0.1];omega)) ?_
   refine o1 ?_;refine o1 ?_;refine tU (Bg zs2 (k:=k2) (v:=78) (by omega)) (Fe zs2 (by omega)) ?_
   refine nl (rl (o1 ?_));refine o1 ?_;refine bB 55 (k2+1) ?_
   refine o1 ?_;refine nl ?_
   exact⟨(k2+1,zs2.set k2 78),by dsimp only;omega,⟨by dsimp only;omega,by dsimp only;rw[List.length_set];exact hz0⟩,fQ h0 [0,1,2,3] ⟨⟨_,xF rfl _ _ _ _,rfl⟩,aB rfl,oe rfl rfl,aB rfl,rfl⟩⟩
  refine ex ?_
  refine WP.sub (iJ (j:=0) (k:=3) (p:=i2*18+3) (n:=xs2.length) (trs:=aJ zs2) (l':=(trs2.set (i2*18+3) (sU true zs2)).map .t) rfl rfl rfl rfl (List.getElem?_set_self (by rw[dB,hP0.1];omega)) (aN _ _ (by rw[gK,hz0,Nat.mul_one])) (by rw[gK,hz0,Nat.mul_one]) (by rw[List.set_set,←hz0,List.map_set];rfl)) ?_
  refine rl (o1 ?_);refine o1 ?_;refine bB 42 (i2+1) ?_
  refine o1 ?_;refine nl ?_
  exact⟨(i2+1,trs2.set (i2*18+3) (sU true zs2)),by dsimp only;omega,⟨by dsimp only;omega,hP0.step (by omega) (by omega) zs2 (by omega)⟩,fQ h0 [0,1,2] ⟨aB rfl,aB rfl,oe rfl rfl,rfl⟩⟩
 refine ex ?_
 exact jS (lent':=[⟨64,18,trs2.map .t⟩,⟨58,7,trs.map .t⟩]) (.inr rfl) rfl Ch (by decide) (fun _ h=>by cases h) ⟨⟨rfl,rfl⟩,⟨rfl,rfl⟩,trivial⟩ ⟨rfl,rfl,trivial⟩ ⟨dF _,dF _,trivial⟩ (fun h=>by cases h) ⟨rfl,trs2,trs,rfl⟩
def oY:List Yr:=[fH false (-10) 0,fH true 4 100,fH true 8 100]
def yH:List Yr:=[fH false (-10) 0,fH true 4 3,fH false (-2) 9,fH true 8 100]
def qW:List Ur:=[⟨0,1,1,4⟩,⟨0,1,2,6⟩]
def uD:List Ur:=[⟨0,1,1,3⟩,⟨2,1,3,2⟩]
def Ki:List Vn:=[⟨0,1,10,3,7,0⟩,⟨2,1,2,2,0,0⟩]
theorem Bh {m:Bool}{b l:Int}:iH (fH m b l):=⟨fun a ha=>by
 have h:∀q:Rat,LimF (Fr4.of q):=fun q=>⟨aU (by omega) _,aU (by omega) _⟩
 rcases List.mem_cons.1 ha with rfl | ha
 ·exact h _
 rw[List.mem_singleton]at ha
 rw[ha]
 exact h _,⟨aU (by omega) _,aU (by omega) _⟩⟩
theorem NF:∀y∈oY,iH y:=fun y hy=>by
 simp only[oY,pL,List.not_mem_nil,or_false]at hy
 rcases hy with rfl | rfl | rfl <;> exact Bh
theorem NG:∀y∈yH,iH y:=fun y hy=>by
 simp only[yH,pL,List.not_mem_nil,or_false]at hy
 rcases hy with rfl | rfl | rfl | rfl <;> exact Bh
theorem Ff:∀u∈qW,Sz 300 u.n:=fun u hu=>by
 simp only[qW,pL,List.not_mem_nil,or_false]at hu
 rcases hu with rfl | rfl <;> (unfold Sz;decide+kernel)
theorem AS:∀u∈uD,Sz 300 u.n:=fun u hu=>by
 simp only[uD,pL,List.not_mem_nil,or_false]at hu
 rcases hu with rfl | rfl <;> (unfold Sz;decide+kernel)
theorem Ck {vs:List Vn}{y e:Int}{m:Nat}{ra rb:Tr}{l3:List Tr}(hf:(dH (cW y e) vs)<vs.length) (hl:vs.length≤1073741823):aE false Tryz.prog 41 [⟨95,0,[.t ra,.sl 1 0 vs.length,.t rb,.sl 2 0 m]⟩,⟨64,18,(vs.flatMap (cA true)).map .t⟩,⟨96,1,(l3:List Tr).map .t⟩] [.one (.pt 0 0),.one (tv (.int .i64 y)),.one (tv (.int .i64 e))] (Rt [⟨95,0,[.t ra,.sl 1 0 vs.length,.t rb,.sl 2 0 m]⟩,⟨64,18,(vs.flatMap (cA true)).map .t⟩,⟨96,1,(l3:List Tr).map .t⟩] (.one (.pt 1 (0+(dH (cW y e) vs)*18)))):=by
 refine qS Tryz.func41 rfl Tryz.ntmps41 rfl aF rfl fun N9 M9 w9 c0 h0=>?_
 refine sq (rl (bx 3 ?_));refine WL.sub (Kc (i:=4) (k:=3) (t:=3) (l:=[.v (.int .i64 y)]) rfl rfl rfl (.one .sl)) ?_;refine bx 4 ?_
 refine WL.sub (Kc (i:=5) (k:=4) (t:=3) (l:=[.v (.int .i64 e)]) rfl rfl rfl (.one .sl)) ?_;refine o1 ?_;refine nl (sq (rl ?_));(iterate 4 refine o1 ?_);refine ld ?_
 refine o1 ?_
 refine ca (JR (xs:=vs) (dl:=cW y e) (fd:=75) (fst:=[]) (caps:=[.p false 3 [.v (.int .i64 y)],.p false 3 [.v (.int .i64 e)]]) SP (fun x _=>To) hl) SQ ⟨sS rfl (.sr (trs:=vs.flatMap (cA true)) rfl rfl (aN _ _ rfl) (bE (cK true) vs) (yX true vs)),a1 rfl,rfl⟩ (.one (tv (.int .i64 (qQ (cW y e) vs)))) ?_
 refine WL.cast (t:=14) (u':=.int .i64 (((dH (cW y e) vs):Nat):Int)) rfl (dO (show qQ (cW y e) vs=_ from if_neg (by omega))) ?_
 refine o1 ?_;refine nl (sq (rl ?_));(iterate 4 refine o1 ?_);refine ld ?_;(iterate 3 refine o1 ?_);refine nl (rt ?_)
 exact jS (lent':=[⟨95,0,[.t ra,.sl 1 0 vs.length,.t rb,.sl 2 0 m]⟩,⟨64,18,(vs.flatMap (cA true)).map .t⟩,⟨96,1,(l3:List Tr).map .t⟩]) (.inl rfl) rfl (bD (.one (.rf rfl rfl))) (by decide) (fun _ h=>by cases h) ⟨⟨rfl,rfl⟩,⟨rfl,rfl⟩,⟨rfl,rfl⟩,trivial⟩ ⟨rfl,rfl,rfl,trivial⟩ ⟨rfl,dF _,dF _,trivial⟩ (fun h=>by cases h) ⟨rfl,rfl⟩
theorem Sc {vs:List Vn}{y e:Int}{m n1 n2:Nat}{ra rb:Tr}{l2 l3 l4:List Tr}{w1 w2 w3 w4 w5:Value}(hf:(dH (cW y e) vs)<vs.length) (hl:vs.length≤1073741823):aE false Tryz.prog 41 [⟨95,0,[.t ra,.sl 1 0 vs.length,.sl 2 0 m,.t rb]⟩,⟨64,18,(vs.flatMap (cA true)).map .t⟩,⟨58,7,(l2:List Tr).map .t++[tv w1,tv w2,tv w3,tv w4,.sl 3 0 n1,tv w5,.sl 4 0 n2]⟩,⟨113,1,(l3:List Tr).map .t⟩,⟨113,1,(l4:List Tr).map .t⟩] [.one (.pt 0 0),.one (tv (.int .i64 y)),.one (tv (.int .i64 e))] (Rt [⟨95,0,[.t ra,.sl 1 0 vs.length,.sl 2 0 m,.t rb]⟩,⟨64,18,(vs.flatMap (cA true)).map .t⟩,⟨58,7,(l2:List Tr).map .t++[tv w1,tv w2,tv w3,tv w4,.sl 3 0 n1,tv w5,.sl 4 0 n2]⟩,⟨113,1,(l3:List Tr).map .t⟩,⟨113,1,(l4:List Tr).map .t⟩] (.one (.pt 1 (0+(dH (cW y e) vs)*18)))):=by
 refine qS Tryz.func41 rfl Tryz.ntmps41 rfl aF rfl fun N9 M9 w9 c0 h0=>?_
 refine sq (rl (bx 5 ?_));refine WL.sub (Kc (i:=4) (k:=5) (t:=3) (l:=[.v (.int .i64 y)]) rfl rfl rfl (.one .sl)) ?_;refine bx 6 ?_
 refine WL.sub (Kc (i:=5) (k:=6) (t:=3) (l:=[.v (.int .i64 e)]) rfl rfl rfl (.one .sl)) ?_;refine o1 ?_;refine nl (sq (rl ?_));(iterate 4 refine o1 ?_);refine ld ?_
 refine o1 ?_
 refine ca (JR (xs:=vs) (dl:=cW y e) (fd:=75) (fst:=[]) (caps:=[.p false 3 [.v (.int .i64 y)],.p false 3 [.v (.int .i64 e)]]) SP (fun x _=>To) hl) SQ ⟨sS rfl (.sr (trs:=vs.flatMap (cA true)) rfl rfl (aN _ _ rfl) (bE (cK true) vs) (yX true vs)),a1 rfl,rfl⟩ (.one (tv (.int .i64 (qQ (cW y e) vs)))) ?_
 refine WL.cast (t:=14) (u':=.int .i64 (((dH (cW y e) vs):Nat):Int)) rfl (dO (show qQ (cW y e) vs=_ from if_neg (by omega))) ?_
 refine o1 ?_;refine nl (sq (rl ?_));(iterate 4 refine o1 ?_);refine ld ?_;(iterate 3 refine o1 ?_);refine nl (rt ?_)
 exact jS (lent':=[⟨95,0,[.t ra,.sl 1 0 vs.length,.sl 2 0 m,.t rb]⟩,⟨64,18,(vs.flatMap (cA true)).map .t⟩,⟨58,7,(l2:List Tr).map .t++[tv w1,tv w2,tv w3,tv w4,.sl 3 0 n1,tv w5,.sl 4 0 n2]⟩,⟨113,1,(l3:List Tr).map .t⟩,⟨113,1,(l4:List Tr).map .t⟩]) (.inl rfl) rfl (bD (.one (.rf rfl rfl))) (by decide) (fun _ h=>by cases h) ⟨⟨rfl,rfl⟩,⟨rfl,rfl⟩,⟨rfl,rfl⟩,⟨rfl,rfl⟩,⟨rfl,rfl⟩,trivial⟩ ⟨rfl,rfl,rfl,rfl,rfl,trivial⟩ ⟨rfl,dF _,Jz (dF _) rfl,dF _,dF _,trivial⟩ (fun h=>by cases h) ⟨rfl,rfl⟩
theorem NH {a:Fr4}{p:Rat}{xs:List Fr4}(ha:Qn a p) (hx:∀x∈xs,x.ok) (hl:xs.length≤1099511627776):aE true Tryz.prog 51 [] [qF a,.one (.t (sQ false xs)),.one (.t (.f 147 [] []))] (aT (qO (aO p (xs.map Fr4.q)))):=by
 refine bV Tryz.func51 rfl Tryz.ntmps51 rfl aF rfl fun N w c0 h0=>?_
 have hz:∀x∈xs,Sz 68719476736 x.q:=fun x h=>(show Qn x x.q from⟨hx x h,rfl⟩).sz
 refine sq (rl (bx 0 ?_));refine al 1 ?_;refine nl (sq (rl (ld ?_)));refine ca (jF ha) lO ⟨aC rfl,rfl⟩ (qF (.of p)) ?_
 refine ca (eW (z:=0) (by omega) (by omega)) kR ⟨a1 rfl,rfl⟩ (qF (.of ((0:Int):Rat))) ?_
 refine iS 2 (vF ha.sz) wW ⟨aC rfl,aC rfl,rfl⟩ ?_;refine al 4 ?_;refine st ?_;refine nl (sq (sq (rl ?_)));(iterate 3 refine o1 ?_);refine nl (bl ?_)
 refine lp (γ:=Nat) (fun k=>bP [(2,.one (.t (.f 147 [] []))),(6,pN 0),(7,pN 1),(14,.one (.t (sQ false xs))),(15,iN xs.length),(16,iN k)]) (fun k=>[(⟨48,0,[tv (.bool false),tv (.slice none 0 0),tv (.bool false),tv (.slice none 0 0)]⟩:Ob),⟨48,0,[tv (.bool (aL (aO p ((xs.take k).map Fr4.q)).num)),.sl 2 0 (dg 4294967296 (aO p ((xs.take k).map Fr4.q)).num.natAbs).length,tv (.bool false),.sl 3 0 (dg 4294967296 (aO p ((xs.take k).map Fr4.q)).den).length]⟩,⟨113,1,(aJ (dg 4294967296 (aO p ((xs.take k).map Fr4.q)).num.natAbs)).map .t⟩,⟨113,1,(aJ (dg 4294967296 (aO p ((xs.take k).map Fr4.q)).den)).map .t⟩].map some) (fun k=>k≤xs.length∧Sz 68719476736 (aO p ((xs.take k).map Fr4.q))) (fun k=>xs.length-k) 0 ⟨Nat.zero_le _,ha.sz⟩ (aP h0 [1,4,2,3] ⟨oe rfl rfl,oe rfl rfl,aB rfl,aB rfl,rfl⟩) fun k hk=>?_
 refine sq (rl (o1 ?_));refine nl (sq ?_);refine bF rfl (fun h1=>?_) (fun h1=>?_)
 ·refine sk (sq (bl (sq (rl (o1 ?_)))));refine dV ((cM xs (k)).tr false) (fL xs (k:=k) (by omega)) ?_
  refine al 4 ?_;refine st ?_;refine nl (sq ?_);refine cI [0,1,4] [] ?_
  refine dv 0 ?_;refine aK 1 ?_;refine dv 2 ?_;refine aK 4 ?_
  refine dcc 3 5 rfl rfl rfl (Zt (a:=.of (aO p ((xs.take k).map Fr4.q)))) JS (pM rfl (.cons .t (.cons (.sl rfl rfl (aN _ _ rfl) (aV _)) (.cons .t (.cons (.sl rfl rfl (aN _ _ rfl) (aV _)) .nil))))) (Zs (a:=.of (aO p ((xs.take k).map Fr4.q))) (b:=cM xs k) (Qn.of (p:=(aO p ((xs.take k).map Fr4.q))) hk.2) ⟨hx _ (eE (by omega)),rfl⟩) JT (aC rfl) ?_
  refine aW ?_;refine bF rfl (fun h2=>?_) (fun h2=>?_)
  ·refine rl (ld ?_);refine ca (jF ⟨hx _ (eE (by omega)),rfl⟩) lO ⟨aC rfl,rfl⟩ (qF (.of (cM xs (k)).q)) ?_
   refine ca (eW (z:=0) (by omega) (by omega)) kR ⟨a1 rfl,rfl⟩ (qF (.of ((0:Int):Rat))) ?_
   refine iS 5 (vF (hz _ (eE (by omega)))) wW ⟨aC rfl,aC rfl,rfl⟩ ?_
   refine st ?_;refine nl (rl (o1 ?_));refine bB 30 (k+1) ?_
   refine o1 ?_;refine nl ?_;have hst:(aO p ((xs.take (k+1)).map Fr4.q))=(cM xs k).q:=by rw[oS (by omega),tT];exact if_pos h2
   exact⟨k+1,by omega,⟨by omega,by rw[hst];exact hz _ (eE (by omega))⟩,aP h0 [0,1,5,6] ⟨oe rfl rfl,oe rfl (congrArg (fun q:Rat=>some (⟨48,0,[tv (.bool (aL q.num)),.sl 5 0 (dg 4294967296 q.num.natAbs).length,tv (.bool false),.sl 6 0 (dg 4294967296 q.den).length]⟩:Ob)) hst.symm),aB (congrArg (fun q:Rat=>some (⟨113,1,(aJ (dg 4294967296 q.num.natAbs)).map .t⟩:Ob)) hst.symm),aB (congrArg (fun q:Rat=>some (⟨113,1,(aJ (dg 4294967296 q.den)).map .t⟩:Ob)) hst.symm),rfl⟩⟩
  refine sk (rl (o1 ?_));refine bB 30 (k+1) ?_
  refine o1 ?_;refine nl ?_;have hst:(aO p ((xs.take (k+1)).map Fr4.q))=(aO p ((xs.take k).map Fr4.q)):=by rw[oS (by omega),tT];exact if_neg h2
  exact⟨k+1,by omega,⟨by omega,by rw[hst];exact hk.2⟩,aP h0 [0,1,2,3] ⟨oe rfl rfl,oe rfl (congrArg (fun q:Rat=>some (⟨48,0,[tv (.bool (aL q.num)),.sl 2 0 (dg 4294967296 q.num.natAbs).length,tv (.bool false),.sl 3 0 (dg 4294967296 q.den).length]⟩:Ob)) hst.symm),aB (congrArg (fun q:Rat=>some (⟨113,1,(aJ (dg 4294967296 q.num.natAbs)).map .t⟩:Ob)) hst.symm),aB (congrArg (fun q:Rat=>some (⟨113,1,(aJ (dg 4294967296 q.den)).map .t⟩:Ob)) hst.symm),rfl⟩⟩
 refine ex (sq (rl (ld ?_)));refine st ?_;refine nl (rt ?_);have hkk:xs.take k=xs:=fF (by omega)
 exact en (.inl rfl) rfl (bD (.agg (.cons (.id rfl) (.cons (.sl (trs:=aJ (dg 4294967296 (aO p ((xs.take k).map Fr4.q)).num.natAbs)) rfl rfl (bS _) (aV _)) (.cons (.id rfl) (.cons (.sl (trs:=aJ (dg 4294967296 (aO p ((xs.take k).map Fr4.q)).den)) rfl rfl (bS _) (aV _)) .nil)))))) (by decide) (fun _=>by rw[hkk];exact tA _) (by rw[hkk];rfl)
theorem AT {a:Fr4}{p:Rat}{xs:List Fr4}(ha:Qn a p) (hx:∀x∈xs,x.ok) (hl:xs.length≤1099511627776):aE true Tryz.prog 129 [] [qF a,.one (.t (sQ false xs))] (aT (qO (aO p (xs.map Fr4.q)))):=by
 refine bV Tryz.func129 rfl Tryz.ntmps129 rfl aF rfl fun N w c0 h0=>?_
 refine sq (rl (bx 0 ?_));refine al 1 ?_;refine nl (sq (rl (ld ?_)));refine o1 ?_
 refine iS 2 (NH ha hx hl) EY ⟨aC rfl,a1 rfl,a1 rfl,rfl⟩ ?_;refine st ?_;refine nl (rt ?_)
 exact en (.inl rfl) rfl (bD (.agg (.cons (.id rfl) (.cons (.sl (trs:=aJ (dg 4294967296 (aO p (xs.map Fr4.q)).num.natAbs)) rfl rfl (bS _) (aV _)) (.cons (.id rfl) (.cons (.sl (trs:=aJ (dg 4294967296 (aO p (xs.map Fr4.q)).den)) rfl rfl (bS _) (aV _)) .nil)))))) (by decide) (fun _=>tA _) rfl
theorem Bi {p q:Rat}(hp:Sz 68719476736 p) (hq:Sz 68719476736 q):aE true Tryz.prog 129 [] [qF (.of p),.one (.t (sQ false [Fr4.of q]))] (aT (qO (aO p [q]))):=by
 have h:=AT (a:=.of p) (p:=p) (xs:=[Fr4.of q]) (Qn.of hp) (fun x hx=>by rw[List.mem_singleton]at hx;subst hx;exact(Qn.of hq).1) (by show 1≤_;omega)
 rw[show [Fr4.of q].map Fr4.q=[q] by rw[List.map_cons,Fr4.q_of];rfl]at h
 exact h
theorem Oz {a:Fr4}{p v:Rat}(ha:Qn a p) (hv:Sz 68719476736 v):aE true Tryz.prog 129 [] [qF (.of v),.one (.t (sQ false [a]))] (aT (qO (aO v [p]))):=by
 have h:=AT (a:=.of v) (xs:=[a]) (Qn.of hv) (fun x hx=>by rw[List.mem_singleton]at hx;rw[hx];exact ha.1) (by simp)
 have e:[a].map Fr4.q=[p]:=by rw[←ha.2];rfl
 rwa[e]at h
theorem NI {t0 i:Nat}{rest:List Tr}{vs:List (Int×Rat)}{a:Fr4}{p:Rat}(ha:Qn a p) (hi:i<vs.length) (hv:Sz 68719476736 (aH vs (i)).2) (hl:vs.length≤1073741823):aE false Tryz.prog 124 [⟨t0,0,.sl 1 0 vs.length::rest.map .t⟩,⟨102,5,eL vs⟩,⟨113,1,(aJ a.x).map .t⟩,⟨113,1,(aJ a.y).map .t⟩] [.one (.pt 0 0),.one (tv (.int .i64 ((i:Nat):Int))),.agg [tv (.bool a.s),.sl 2 0 a.x.length,tv (.bool a.t),.sl 3 0 a.y.length]] (Rt [⟨t0,0,.sl 1 0 vs.length::rest.map .t⟩,⟨102,5,eL (vs.set (i) ((aH vs (i)).1,((aH vs (i)).2-(aO (aH vs (i)).2 [p]))))⟩,⟨113,1,(aJ a.x).map .t⟩,⟨113,1,(aJ a.y).map .t⟩] (.agg ((cZ false ((aH vs (i)).1,(aO (aH vs (i)).2 [p]))).map .t))):=by
 refine qS Tryz.func124 rfl Tryz.ntmps124 rfl aF rfl fun N M w c0 h0=>?_
 have hn:Sz 68719476736 (aO (aH vs (i)).2 [p]):=pW hv fun q hq=>by rw[List.mem_singleton]at hq;rw[hq];exact ha.sz
 have hix:i<vs.length:=hi
 refine sq (rl (bx 4 ?_));refine al 5 ?_;refine nl (sq (rl ?_));(iterate 3 refine o1 ?_);refine ld ?_;(iterate 3 refine o1 ?_);refine nl ?_
 refine md (γ:=Unit) (fun _=>bP [(6,pN 4),(7,.one (.pt 1 (0+i*5))),(8,pN 5)]) (fun _=>([⟨t0,0,.sl 1 0 vs.length::rest.map .t⟩,⟨102,5,eL vs⟩,⟨113,1,(aJ a.x).map .t⟩,⟨113,1,(aJ a.y).map .t⟩,⟨102,0,[tv (.int .i64 0),tv (.bool false),tv (.slice none 0 0),tv (.bool false),tv (.slice none 0 0)]⟩,⟨48,0,((Fr4.of (aO (aH vs (i)).2 [p])).tr false).map .t⟩]:List Ob).map some) (fun _=>True) ?_ fun _ _=>?_
 ·refine cI [0,1,2,3,4,5] [8] ?_
  refine dv 0 ?_;refine dv 1 ?_;refine dv 2 ?_;refine sP 3 (Ly (us:=vs) (k:=i) (by omega)) ?_
  refine aK 4 ?_;refine eR 5 7 ?_ ?_
  ·refine Hc (key:=6) 5 rfl rfl ⟨rfl,rfl,rfl,rfl,rfl,rfl,trivial⟩ ?_;refine eR 6 7 ?_ ?_
   ·refine fB 6 rfl (Oz ha hv) oV ⟨aC rfl,nE rfl rfl rfl (.cons .t (.cons (.sl rfl rfl (aN _ _ rfl) (aV _)) (.cons .t (.cons (.sl rfl rfl (aN _ _ rfl) (aV _)) .nil)))) rfl,rfl⟩ (qF (.of (aO (aH vs (i)).2 [p]))) ?_
    refine fZ 7 7 ?_
    refine dst 8 ?_;refine aW ?_;exact⟨(),trivial,fQ h0 [0,1,2,3,5,7] ⟨Tt rfl rfl,aB rfl,aB rfl,aB rfl,oe rfl rfl,aB rfl,rfl⟩⟩
   refine cQ 7 7 ?_
   refine aS 6 rfl (Oz ha hv) oV ⟨aC rfl,nE rfl rfl rfl (.cons .t (.cons (.sl rfl rfl (aN _ _ rfl) (aV _)) (.cons .t (.cons (.sl rfl rfl (aN _ _ rfl) (aV _)) .nil)))) rfl,rfl⟩ (qF (.of (aO (aH vs (i)).2 [p]))) ?_
   refine dst 8 ?_;refine aW ?_;exact⟨(),trivial,fQ h0 [0,1,2,3,5,7] ⟨Tt rfl rfl,aB rfl,aB rfl,aB rfl,oe rfl rfl,aB rfl,rfl⟩⟩
  refine cQ 6 7 ?_;refine iG (key:=7) 5 (by kernel_rfl) rfl rfl aF rfl ⟨rfl,rfl,rfl,rfl,rfl,rfl,trivial⟩ ?_
  refine aS 6 rfl (Oz ha hv) oV ⟨aC rfl,nE rfl rfl rfl (.cons .t (.cons (.sl rfl rfl (aN _ _ rfl) (aV _)) (.cons .t (.cons (.sl rfl rfl (aN _ _ rfl) (aV _)) .nil)))) rfl,rfl⟩ (qF (.of (aO (aH vs (i)).2 [p]))) ?_
  refine dst 8 ?_;refine aW ?_;exact⟨(),trivial,fQ h0 [0,1,2,3,5,6] ⟨Tt rfl rfl,aB rfl,aB rfl,aB rfl,oe rfl rfl,aB rfl,rfl⟩⟩
 refine sq ?_;refine cI [0,1,2,3,4,5] [7,8,9] ?_
 refine dv 0 ?_;refine dv 1 ?_;refine dv 2 ?_;refine dv 3 ?_;refine sP 4 (Ly (us:=vs) (k:=i) (by omega)) ?_
 refine aK 5 ?_
 refine aS 6 rfl (wY (Qn.of (p:=(aH vs (i)).2) hv) (Qn.of (p:=(aO (aH vs (i)).2 [p])) hn)) Dk ⟨aC rfl,aC rfl,rfl⟩ (qF (.of ((aH vs (i)).2-(aO (aH vs (i)).2 [p])))) ?_
 refine dI 7 ?_
 refine dI 8 ?_
 refine uP 9 (JW (us:=vs) (k:=i) (q:=((aH vs (i)).2-(aO (aH vs (i)).2 [p]))) (by omega)) (Tu (us:=vs) (k:=i) (by omega)) ?_
 refine aW ?_;refine sq ?_;refine cI [0,1,2,3,4,5] [6] ?_
 refine dv 0 ?_;refine dv 1 ?_;refine dv 2 ?_
 refine Oe 3 (Ww (us:=(vs.set (i) ((aH vs (i)).1,((aH vs (i)).2-(aO (aH vs (i)).2 [p]))))) (k:=i) (by rw[List.length_set];omega)) ?_
 refine aK 4 ?_;refine dv 5 ?_;refine dst 6 ?_;refine aW ?_;refine rt ?_
 exact jS (lent':=[⟨t0,0,.sl 1 0 vs.length::rest.map .t⟩,⟨102,5,eL (vs.set (i) ((aH vs (i)).1,((aH vs (i)).2-(aO (aH vs (i)).2 [p]))))⟩,⟨113,1,(aJ a.x).map .t⟩,⟨113,1,(aJ a.y).map .t⟩]) (.inl rfl) rfl (bD (.agg (.cons (.id rfl) (.cons (.id rfl) (.cons (.id rfl) (.cons (.id rfl) (.cons (.id rfl) .nil))))))) (by decide) (fun _ h=>by cases h) ⟨⟨rfl,rfl⟩,⟨rfl,rfl⟩,⟨rfl,rfl⟩,⟨rfl,rfl⟩,trivial⟩ ⟨rfl,rfl,rfl,rfl,trivial⟩ ⟨dF rest,dF _,dF _,dF _,trivial⟩ (fun h=>by cases h) ⟨rfl,by rw[Dl hi];rfl⟩
theorem Kj {t0 i:Nat}{rest:List Tr}{us vs:List (Int×Rat)}{x:Int×Rat}{a:Fr4}{p:Rat}(ha:Qn a p) (hnx:aH us i=x) (hi:i<us.length) (hul:us.length=vs.length) (hv:Sz 68719476736 x.2) (hl:vs.length≤1073741823):aE false Tryz.prog 124 [⟨t0,0,.sl 1 0 vs.length::rest.map .t⟩,⟨102,5,eL us⟩,⟨113,1,(aJ a.x).map .t⟩,⟨113,1,(aJ a.y).map .t⟩] [.one (.pt 0 0),.one (tv (.int .i64 ((i:Nat):Int))),.agg [tv (.bool a.s),.sl 2 0 a.x.length,tv (.bool a.t),.sl 3 0 a.y.length]] (Rt [⟨t0,0,.sl 1 0 vs.length::rest.map .t⟩,⟨102,5,eL (us.set i (x.1,x.2-aO x.2 [p]))⟩,⟨113,1,(aJ a.x).map .t⟩,⟨113,1,(aJ a.y).map .t⟩] (.agg ((cZ false (x.1,aO x.2 [p])).map .t))):=by
 subst hnx
 rw[←hul]
 exact NI ha hi hv (by omega)
theorem SR {vs:List (Int×Rat)}{last fr:Int}{put:Bool}{a:Fr4}{p:Rat}(ha:Qn a p) (hl:vs.length≤1073741823) (hw:gS (vs.map Prod.snd)+wt p+2*vs.length≤17179869184) (hzU:∀x∈(aX fr vs p).1,Sz 68719476736 x.2):aE false Tryz.prog 100 [⟨137,0,[.t (sR 102 vs),tv (.int .i64 last),tv (.bool put)]⟩,⟨113,1,(aJ a.x).map .t⟩,⟨113,1,(aJ a.y).map .t⟩] [.one (.pt 0 0),.one (tv (.int .i64 fr)),.agg [tv (.bool a.s),.sl 1 0 a.x.length,tv (.bool a.t),.sl 2 0 a.y.length]] (Rt [⟨137,0,[.t (sR 102 (eS tV (aX fr vs p).1)),tv (.int .i64 last),tv (.bool put)]⟩,⟨113,1,(aJ a.x).map .t⟩,⟨113,1,(aJ a.y).map .t⟩] (.one (.t (sO 102 (aX fr vs p).2.1)))):=by
 refine qS Tryz.func100 rfl Tryz.ntmps100 rfl aF rfl fun N M w c0 h0=>?_
 refine WP.sub (oU (j:=0) (key:=3) (p:=0) (e:=102) (z:=5) (n:=vs.length) (trs:=vs.flatMap (cZ false)) rfl rfl rfl rfl rfl) ?_;refine sq (rl (bx 4 ?_));refine o1 ?_
 refine nl (sq (sq (rl (o1 ?_))));refine o1 ?_;refine nl (dW rfl (sk (sq (rl (o1 ?_)))));refine nl (sq ?_)
 refine sq (rl ?_);(iterate 4 refine o1 ?_);refine ld ?_;refine o1 ?_;refine o1 ?_;refine nl (bl ?_)
 refine lp (γ:=Nat×Fr4×Bool) (fun s=>bP [(0,pN 0),(1,.one (tv (.int .i64 fr))),(5,pN 4),(7,.one (.sl 5 0 ((aX fr (vs.take s.1) p).2.1.length))),(17,.one (.sl 3 0 (vs.length))),(18,iN vs.length),(19,iN s.1)]) (fun s=>[(⟨137,0,[.sl 3 0 vs.length,tv (.int .i64 last),tv (.bool put)]⟩:Ob),⟨113,1,(aJ a.x).map .t⟩,⟨113,1,(aJ a.y).map .t⟩,⟨102,5,eL ((aX fr (vs.take s.1) p).1++vs.drop s.1)⟩,(bif s.2.2 then⟨48,0,((s.2.1).tr false).map .t⟩else⟨48,0,[tv (.bool a.s),.sl 1 0 a.x.length,tv (.bool a.t),.sl 2 0 a.y.length]⟩),⟨102,5,qT (aX fr (vs.take s.1) p).2.1⟩].map some) (fun s=>s.1≤vs.length∧Qn s.2.1 (aX fr (vs.take s.1) p).2.2∧wt (aX fr (vs.take s.1) p).2.2≤gS ((vs.take s.1).map Prod.snd)+wt p+2*s.1∧(aX fr (vs.take s.1) p).2.1.length≤s.1∧(s.2.2=false→s.2.1=a)) (fun s=>vs.length-s.1) (0,a,false) ⟨Nat.zero_le _,ha,by simp[aX,gS],bC _,fun _=>rfl⟩ ((nr (i:=7) 5 102 5 rfl rfl rfl rfl).trans (fQ h0 [0,1,2,3,4,5] ⟨oe rfl rfl,aB rfl,aB rfl,aB rfl,oe rfl rfl,oe rfl rfl,rfl⟩)) ?_
 rintro⟨k,m,b⟩ ⟨hk,hm,hb,hgl,hba⟩;dsimp only at hk hm hb hgl hba⊢;rcases b with _ | _
 ·obtain rfl:=(hba rfl).symm
  refine sq (rl (o1 ?_));refine nl (sq ?_);refine bF rfl (fun h1=>?_) (fun h1=>?_)
  ·refine sk (sq (bl (sq ?_)));have hal:(aX fr (vs.take k) p).1.length=k:=by rw[xI,eJ,Nat.min_eq_left hk]
   have hul:((aX fr (vs.take k) p).1++vs.drop k).length=vs.length:=by rw[fE,hal,List.length_drop];omega
   have hnx:aH ((aX fr (vs.take k) p).1++vs.drop k) k=(aH vs k):=Pa (by rw[←qX (by omega)]) hal
   have hvw:wt (aH vs k).2≤gS (vs.map Prod.snd):=Hu (List.mem_map.2 ⟨_,nP (by omega),rfl⟩)
   have hwk:gS ((vs.take (k+1)).map Prod.snd)=gS ((vs.take k).map Prod.snd)+wt (aH vs k).2:=by rw[lY (by omega),List.map_append,rU];simp[gS]
   have hwl:gS ((vs.take (k+1)).map Prod.snd)≤gS (vs.map Prod.snd):=Ud ((List.take_sublist _ _).map _)
   have hszv:Sz 17179869184 (aH vs k).2:=nB.2 (by have h9:wt (aH vs k).2=vR (aH vs k).2+1:=rfl;omega)
   have hszr:Sz 17179869184 (aX fr (vs.take k) p).2.2:=nB.2 (by have h9:wt (aX fr (vs.take k) p).2.2=vR (aX fr (vs.take k) p).2.2+1:=rfl;omega)
   have hszn:Sz 17179869184 (aO (aH vs k).2 [(aX fr (vs.take k) p).2.2]):=pW hszv (fun q hq=>by rw[List.mem_singleton]at hq;rw[hq];exact hszr)
   have hszm:Sz 68719476736 ((aX fr (vs.take k) p).2.2-(aO (aH vs k).2 [(aX fr (vs.take k) p).2.2])):=(kD hszr hszn).mono (by omega)
   refine rl (o1 ?_);refine o1 ?_
   refine Oc (us:=(cZ false (aH vs k)).map .t) (by have h9:=Eu (us:=((aX fr (vs.take k) p).1++vs.drop k)) (k:=k) (by rw[hul];omega);rwa[hnx]at h9) ?_
   refine al 6 ?_;refine o1 ?_;refine st ?_;refine nl (sq (rl (o1 ?_)));refine ld ?_;(iterate 3 refine o1 ?_)
   refine WL.split (t:=28) rfl (fun h2=>?_) (fun h2=>?_)
   ·refine ld ?_
    refine ca (iZ hm) mU ⟨pM rfl (.cons .t (.cons (.sl rfl rfl (aN _ _ rfl) (aV _)) (.cons .t (.cons (.sl rfl rfl (aN _ _ rfl) (aV _)) .nil)))),rfl⟩ (.one (tv (.int .i64 (aX fr (vs.take k) p).2.2.num.sign))) ?_
    refine o1 ?_;refine o1 ?_;refine nl ?_;refine bF rfl (fun h3=>?_) (fun h3=>?_)
    ·refine md (γ:=Unit) (fun _=>bP [(0,pN 0),(1,.one (tv (.int .i64 fr))),(5,pN 4),(7,.one (.sl 5 0 ((aX fr (vs.take k) p).2.1.length))),(17,.one (.sl 3 0 (vs.length))),(18,iN vs.length),(19,iN k),(10,pN 6)]) (fun _=>([⟨137,0,[.sl 3 0 vs.length,tv (.int .i64 last),tv (.bool put)]⟩,⟨113,1,(aJ a.x).map .t⟩,⟨113,1,(aJ a.y).map .t⟩,⟨102,5,eL (((aX fr (vs.take k) p).1++vs.drop k).set (k) ((aH vs k).1,((aH vs k).2-(aO (aH vs k).2 [(aX fr (vs.take k) p).2.2]))))⟩,⟨48,0,[tv (.bool a.s),.sl 1 0 a.x.length,tv (.bool a.t),.sl 2 0 a.y.length]⟩,⟨102,5,qT (aX fr (vs.take k) p).2.1⟩,⟨102,0,(cZ false ((aH vs k).1,(aO (aH vs k).2 [(aX fr (vs.take k) p).2.2]))).map .t⟩]:List Ob).map some) (fun _=>True) ?_ fun _ _=>?_
     ·refine cI [4,6] [7] ?_
      refine dv 0 ?_;refine dv 1 ?_;refine dv 2 ?_;refine dv 3 ?_;refine aK 4 ?_;refine eR 5 6 ?_ ?_
      ·have htk:=Kj (t0:=137) (rest:=[.v (.int .i64 last),.v (.bool put)]) (x:=(aH vs k)) hm (us:=((aX fr (vs.take k) p).1++vs.drop k)) (i:=k) hnx (by rw[hul];omega) hul (hszv.mono (by omega)) hl
       refine KB 5 7 [0,3,1,2] rfl htk Md ⟨oe rfl rfl,aB rfl,aB rfl,aB rfl,rfl⟩ ⟨rfl,rfl,rfl,rfl⟩ (ok:=[some ⟨137,0,[.sl 3 0 vs.length,tv (.int .i64 last),tv (.bool put)]⟩,some ⟨102,5,eL (((aX fr (vs.take k) p).1++vs.drop k).set (k) ((aH vs k).1,((aH vs k).2-(aO (aH vs k).2 [(aX fr (vs.take k) p).2.2]))))⟩,some ⟨113,1,(aJ a.x).map .t⟩,some ⟨113,1,(aJ a.y).map .t⟩]) ⟨oe rfl rfl,aB rfl,aB rfl,aB rfl,rfl⟩ ⟨rfl,rfl,trivial⟩ ?_
       refine fZ 7 6 ?_
       refine dst 7 ?_;refine aW ?_
       exact⟨(),trivial,fQ h0 [0,1,2,3,4,5,7] ⟨oe rfl rfl,aB rfl,aB rfl,aB rfl,oe rfl rfl,aB rfl,aB rfl,rfl⟩⟩
      refine cQ 7 6 ?_
      have htk:=Kj (t0:=137) (rest:=[.v (.int .i64 last),.v (.bool put)]) (x:=(aH vs k)) hm (us:=((aX fr (vs.take k) p).1++vs.drop k)) (i:=k) hnx (by rw[hul];omega) hul (hszv.mono (by omega)) hl
      refine Tv 5 8 [0,3,1,2] rfl htk Md ⟨oe rfl rfl,aB rfl,aB rfl,aB rfl,rfl⟩ ⟨rfl,rfl,rfl,rfl⟩ (ok:=[some ⟨137,0,[.sl 3 0 vs.length,tv (.int .i64 last),tv (.bool put)]⟩,some ⟨102,5,eL (((aX fr (vs.take k) p).1++vs.drop k).set (k) ((aH vs k).1,((aH vs k).2-(aO (aH vs k).2 [(aX fr (vs.take k) p).2.2]))))⟩,some ⟨113,1,(aJ a.x).map .t⟩,some ⟨113,1,(aJ a.y).map .t⟩]) ⟨oe rfl rfl,aB rfl,aB rfl,aB rfl,rfl⟩ ⟨rfl,rfl,trivial⟩ ?_
      refine dst 7 ?_;refine aW ?_
      exact⟨(),trivial,fQ h0 [0,1,2,3,4,5,7] ⟨oe rfl rfl,aB rfl,aB rfl,aB rfl,oe rfl rfl,aB rfl,aB rfl,rfl⟩⟩
     refine cI [0,4,6] [10] ?_
     refine dv 0 ?_;refine aK 1 ?_;refine aK 5 ?_;refine dv 6 ?_;refine aK 7 ?_
     refine kS 7 2 rfl (vG (y:=(aH vs k).1) (Qn.of (p:=(aO (aH vs k).2 [(aX fr (vs.take k) p).2.2])) hszn)) Et ⟨aC rfl,rfl⟩ ?_
     refine iG (key:=9) 3 (by kernel_rfl) rfl rfl aF rfl ⟨rfl,rfl,rfl,trivial⟩ ?_
     refine kC (j:=10) 4 rfl aF rfl rfl rfl (.sl rfl (vI _)) (.sl rfl rfl rfl) rfl rfl (by omega) (by omega) rfl ⟨rfl,rfl,rfl,trivial⟩ rfl (by kernel_rfl) rfl ?_
     refine aS 8 rfl (wY hm (Qn.of (p:=(aO (aH vs k).2 [(aX fr (vs.take k) p).2.2])) hszn)) Dk ⟨pM rfl (.cons .t (.cons (.sl rfl rfl (aN _ _ rfl) (aV _)) (.cons .t (.cons (.sl rfl rfl (aN _ _ rfl) (aV _)) .nil)))),aC rfl,rfl⟩ (qF (.of ((aX fr (vs.take k) p).2.2-(aO (aH vs k).2 [(aX fr (vs.take k) p).2.2])))) ?_
     refine dI 9 ?_
     refine dst 10 ?_;refine aW ?_;refine rl (o1 ?_);refine bB 48 (k+1) ?_
     refine o1 ?_;refine nl ?_;have hst:=(oI (fr:=fr) p (by omega:k<vs.length)).trans (qD (s:=(aX fr (vs.take k) p)) (y:=(aH vs k).1) (q:=(aH vs k).2) h2 h3)
     refine⟨(k+1,Fr4.of ((aX fr (vs.take k) p).2.2-(aO (aH vs k).2 [(aX fr (vs.take k) p).2.2])),true),by dsimp only;omega,?_,?_⟩
     ·dsimp only
      rw[hst]
      exact⟨by omega,Qn.of hszm,by dsimp only;have h9:=Ue (aH vs k).2 (aX fr (vs.take k) p).2.2;omega,by dsimp only;rw[fE,List.length_singleton];omega,fun h9=>by cases h9⟩
     dsimp only
     rw[hst];dsimp only
     exact(RC (j:=10) (k1:=7) (k2:=8) (us:=(aX fr (vs.take k) p).2.1) (y:=(aH vs k).1) (q:=(aO (aH vs k).2 [(aX fr (vs.take k) p).2.2])) rfl rfl rfl rfl rfl rfl).trans (yI h0 [0,1,2,3,4,10] _ _ (by decide) rfl ⟨rfl,rfl,rfl,congrArg (fun n=>some (FV.one (.sl 10 0 n))) (show((aX fr (vs.take k) p).2.1++[((aH vs k).1,(aO (aH vs k).2 [(aX fr (vs.take k) p).2.2]))]).length=(aX fr (vs.take k) p).2.1.length+1 by simp),rfl,rfl,rfl,trivial⟩ ⟨oe rfl rfl,aB rfl,aB rfl,aB (congrArg (fun l=>some (⟨102,5,eL l⟩:Ob)) (by rw[Pb (x:=(aH vs k)) (by rw[←qX (by omega)]) hal,List.append_assoc])),aB rfl,aB rfl,rfl⟩)
    refine sk (rl (o1 ?_));refine bB 48 (k+1) ?_
    refine o1 ?_;refine nl ?_;have hst:=(oI (fr:=fr) p (by omega:k<vs.length)).trans (oJ (s:=(aX fr (vs.take k) p)) (x:=(aH vs k)) (fun hc=>h3 hc.2))
    refine⟨(k+1,a,false),by dsimp only;omega,?_,?_⟩
    ·dsimp only
     rw[hst];exact⟨by omega,hm,by dsimp only;omega,by dsimp only;omega,fun _=>rfl⟩
    dsimp only
    rw[hst];dsimp only
    exact(fQ h0 [0,1,2,3,4,5] ⟨oe rfl rfl,aB rfl,aB rfl,aB (congrArg (fun l=>some (⟨102,5,eL l⟩:Ob)) (by rw[qX (k:=k) (by omega),List.append_assoc];rfl)),oe rfl rfl,aB rfl,rfl⟩)
   (iterate 3 refine cY ?_);refine o1 ?_;refine nl (dW rfl (sk (rl (o1 ?_))))
   refine bB 48 (k+1) ?_
   refine o1 ?_;refine nl ?_;have hst:=(oI (fr:=fr) p (by omega:k<vs.length)).trans (oJ (s:=(aX fr (vs.take k) p)) (x:=(aH vs k)) (fun hc=>h2 hc.1))
   refine⟨(k+1,a,false),by dsimp only;omega,?_,?_⟩
   ·dsimp only
    rw[hst];exact⟨by omega,hm,by dsimp only;omega,by dsimp only;omega,fun _=>rfl⟩
   dsimp only
   rw[hst];dsimp only
   exact(fQ h0 [0,1,2,3,4,5] ⟨oe rfl rfl,aB rfl,aB rfl,aB (congrArg (fun l=>some (⟨102,5,eL l⟩:Ob)) (by rw[qX (k:=k) (by omega),List.append_assoc];rfl)),oe rfl rfl,aB rfl,rfl⟩)
  refine ex (sq (rl ?_));(iterate 3 refine o1 ?_);have hkk:vs.take k=vs:=fF (by omega)
  have hU9:((aX fr (vs.take k) p).1++vs.drop k)=(aX fr vs p).1:=by rw[hkk,List.drop_of_length_le (by omega),List.append_nil]
  have hG9:(aX fr (vs.take k) p).2.1=(aX fr vs p).2.1:=by rw[hkk]
  have hul9:(aX fr vs p).1.length=vs.length:=xI fr vs p
  refine WL.sub (iJ (j:=0) (k:=3) (p:=0) (n:=vs.length) (trs:=(aX fr vs p).1.flatMap (cZ false)) rfl rfl rfl (congrArg (fun l=>some (⟨102,5,eL l⟩:Ob)) hU9) rfl (aN _ _ (by rw[bL,hul9])) (by rw[bL,hul9]) rfl) ?_
  have hsw:=Au (t0:=137) (rest:=[.v (.int .i64 last),.v (.bool put)]) (vs:=(aX fr vs p).1) (dl:=tV) (fst:=[]) (caps:=[]) KC (fun x hx=>AA (y:=x.1) (q:=x.2) (hzU x hx)) (by rw[hul9];exact hl)
  rw[show sR 102 (aX fr vs p).1=.s true 102 5 vs.length ((aX fr vs p).1.flatMap (cZ false)) by rw[←hul9];rfl]at hsw
  refine cl 6 [0] hsw Lz ⟨oe rfl rfl,rfl⟩ ⟨rfl,rfl,rfl⟩ (ok:=[some ⟨137,0,[.t (sR 102 (eS tV (aX fr vs p).1)),tv (.int .i64 last),tv (.bool put)]⟩]) ⟨oe rfl rfl,rfl⟩ ?_
  refine nl (sq (rl (o1 ?_)));refine o1 ?_;refine nl (rt ?_)
  exact jS (lent':=[⟨137,0,[.t (sR 102 (eS tV (aX fr vs p).1)),tv (.int .i64 last),tv (.bool put)]⟩,⟨113,1,(aJ a.x).map .t⟩,⟨113,1,(aJ a.y).map .t⟩]) (.inl rfl) rfl (bD (.one (.sl (trs:=(aX fr (vs.take k) p).2.1.flatMap (cZ true)) rfl rfl (aN _ _ (bL true _)) (bL true _)))) (by decide) (by simp) ⟨⟨rfl,rfl⟩,⟨rfl,rfl⟩,⟨rfl,rfl⟩,trivial⟩ ⟨rfl,rfl,rfl,trivial⟩ ⟨rfl,dF _,dF _,trivial⟩ (fun h=>by cases h) ⟨rfl,by rw[hG9];rfl⟩
 refine sq (rl (o1 ?_));refine nl (sq ?_);refine bF rfl (fun h4=>?_) (fun h4=>?_)
 ·refine sk (sq (bl (sq ?_)));have hal:(aX fr (vs.take k) p).1.length=k:=by rw[xI,eJ,Nat.min_eq_left hk]
  have hul:((aX fr (vs.take k) p).1++vs.drop k).length=vs.length:=by rw[fE,hal,List.length_drop];omega
  have hnx:aH ((aX fr (vs.take k) p).1++vs.drop k) k=(aH vs k):=Pa (by rw[←qX (by omega)]) hal
  have hvw:wt (aH vs k).2≤gS (vs.map Prod.snd):=Hu (List.mem_map.2 ⟨_,nP (by omega),rfl⟩)
  have hwk:gS ((vs.take (k+1)).map Prod.snd)=gS ((vs.take k).map Prod.snd)+wt (aH vs k).2:=by rw[lY (by omega),List.map_append,rU];simp[gS]
  have hwl:gS ((vs.take (k+1)).map Prod.snd)≤gS (vs.map Prod.snd):=Ud ((List.take_sublist _ _).map _)
  have hszv:Sz 17179869184 (aH vs k).2:=nB.2 (by have h9:wt (aH vs k).2=vR (aH vs k).2+1:=rfl;omega)
  have hszr:Sz 17179869184 (aX fr (vs.take k) p).2.2:=nB.2 (by have h9:wt (aX fr (vs.take k) p).2.2=vR (aX fr (vs.take k) p).2.2+1:=rfl;omega)
  have hszn:Sz 17179869184 (aO (aH vs k).2 [(aX fr (vs.take k) p).2.2]):=pW hszv (fun q hq=>by rw[List.mem_singleton]at hq;rw[hq];exact hszr)
  have hszm:Sz 68719476736 ((aX fr (vs.take k) p).2.2-(aO (aH vs k).2 [(aX fr (vs.take k) p).2.2])):=(kD hszr hszn).mono (by omega)
  refine rl (o1 ?_);refine o1 ?_
  refine Oc (us:=(cZ false (aH vs k)).map .t) (by have h9:=Eu (us:=((aX fr (vs.take k) p).1++vs.drop k)) (k:=k) (by rw[hul];omega);rwa[hnx]at h9) ?_
  refine al 6 ?_;refine o1 ?_;refine st ?_;refine nl (sq (rl (o1 ?_)));refine ld ?_;(iterate 3 refine o1 ?_)
  refine WL.split (t:=28) rfl (fun h5=>?_) (fun h5=>?_)
  ·refine ld ?_;refine ca (iZ hm) mU ⟨aC rfl,rfl⟩ (.one (tv (.int .i64 (aX fr (vs.take k) p).2.2.num.sign))) ?_;refine o1 ?_;refine o1 ?_;refine nl ?_
   refine bF rfl (fun h6=>?_) (fun h6=>?_)
   ·refine md (γ:=Unit) (fun _=>bP [(0,pN 0),(1,.one (tv (.int .i64 fr))),(5,pN 4),(7,.one (.sl 5 0 ((aX fr (vs.take k) p).2.1.length))),(17,.one (.sl 3 0 (vs.length))),(18,iN vs.length),(19,iN k),(10,pN 6)]) (fun _=>([⟨137,0,[.sl 3 0 vs.length,tv (.int .i64 last),tv (.bool put)]⟩,⟨113,1,(aJ a.x).map .t⟩,⟨113,1,(aJ a.y).map .t⟩,⟨102,5,eL (((aX fr (vs.take k) p).1++vs.drop k).set (k) ((aH vs k).1,((aH vs k).2-(aO (aH vs k).2 [(aX fr (vs.take k) p).2.2]))))⟩,⟨48,0,(m.tr false).map .t⟩,⟨102,5,qT (aX fr (vs.take k) p).2.1⟩,⟨102,0,(cZ false ((aH vs k).1,(aO (aH vs k).2 [(aX fr (vs.take k) p).2.2]))).map .t⟩]:List Ob).map some) (fun _=>True) ?_ fun _ _=>?_
    ·refine cI [4,6] [7] ?_
     refine dv 0 ?_;refine dv 1 ?_;refine dv 2 ?_;refine dv 3 ?_;refine aK 4 ?_;refine eR 5 6 ?_ ?_
     ·have htk:=Of (t0:=137) (rest:=[.v (.int .i64 last),.v (.bool put)]) (x:=(aH vs k)) hm (us:=((aX fr (vs.take k) p).1++vs.drop k)) (i:=k) hnx (by rw[hul];omega) hul (hszv.mono (by omega)) hl
      refine KB 5 7 [0,3] rfl htk Md ⟨oe rfl rfl,aB rfl,rfl⟩ ⟨rfl,rfl,rfl,rfl⟩ (ok:=[some ⟨137,0,[.sl 3 0 vs.length,tv (.int .i64 last),tv (.bool put)]⟩,some ⟨102,5,eL (((aX fr (vs.take k) p).1++vs.drop k).set (k) ((aH vs k).1,((aH vs k).2-(aO (aH vs k).2 [(aX fr (vs.take k) p).2.2]))))⟩]) ⟨oe rfl rfl,aB rfl,rfl⟩ ⟨rfl,rfl,trivial⟩ ?_
      refine fZ 7 6 ?_
      refine dst 7 ?_;refine aW ?_
      exact⟨(),trivial,fQ h0 [0,1,2,3,4,5,7] ⟨oe rfl rfl,aB rfl,aB rfl,aB rfl,aB rfl,aB rfl,aB rfl,rfl⟩⟩
     refine cQ 7 6 ?_
     have htk:=Of (t0:=137) (rest:=[.v (.int .i64 last),.v (.bool put)]) (x:=(aH vs k)) hm (us:=((aX fr (vs.take k) p).1++vs.drop k)) (i:=k) hnx (by rw[hul];omega) hul (hszv.mono (by omega)) hl
     refine Tv 5 8 [0,3] rfl htk Md ⟨oe rfl rfl,aB rfl,rfl⟩ ⟨rfl,rfl,rfl,rfl⟩ (ok:=[some ⟨137,0,[.sl 3 0 vs.length,tv (.int .i64 last),tv (.bool put)]⟩,some ⟨102,5,eL (((aX fr (vs.take k) p).1++vs.drop k).set (k) ((aH vs k).1,((aH vs k).2-(aO (aH vs k).2 [(aX fr (vs.take k) p).2.2]))))⟩]) ⟨oe rfl rfl,aB rfl,rfl⟩ ⟨rfl,rfl,trivial⟩ ?_
     refine dst 7 ?_;refine aW ?_
     exact⟨(),trivial,fQ h0 [0,1,2,3,4,5,7] ⟨oe rfl rfl,aB rfl,aB rfl,aB rfl,aB rfl,aB rfl,aB rfl,rfl⟩⟩
    refine cI [0,4,6] [10] ?_
    refine dv 0 ?_;refine aK 1 ?_;refine aK 5 ?_;refine dv 6 ?_;refine aK 7 ?_
    refine kS 7 2 rfl (vG (y:=(aH vs k).1) (Qn.of (p:=(aO (aH vs k).2 [(aX fr (vs.take k) p).2.2])) hszn)) Et ⟨aC rfl,rfl⟩ ?_
    refine iG (key:=9) 3 (by kernel_rfl) rfl rfl aF rfl ⟨rfl,rfl,rfl,trivial⟩ ?_
    refine kC (j:=10) 4 rfl aF rfl rfl rfl (.sl rfl (vI _)) (.sl rfl rfl rfl) rfl rfl (by omega) (by omega) rfl ⟨rfl,rfl,rfl,trivial⟩ rfl (by kernel_rfl) rfl ?_
    refine aS 8 rfl (wY hm (Qn.of (p:=(aO (aH vs k).2 [(aX fr (vs.take k) p).2.2])) hszn)) Dk ⟨aC rfl,aC rfl,rfl⟩ (qF (.of ((aX fr (vs.take k) p).2.2-(aO (aH vs k).2 [(aX fr (vs.take k) p).2.2])))) ?_
    refine dI 9 ?_
    refine dst 10 ?_;refine aW ?_;refine rl (o1 ?_);refine bB 48 (k+1) ?_
    refine o1 ?_;refine nl ?_;have hst:=(oI (fr:=fr) p (by omega:k<vs.length)).trans (qD (s:=(aX fr (vs.take k) p)) (y:=(aH vs k).1) (q:=(aH vs k).2) h5 h6)
    refine⟨(k+1,Fr4.of ((aX fr (vs.take k) p).2.2-(aO (aH vs k).2 [(aX fr (vs.take k) p).2.2])),true),by dsimp only;omega,?_,?_⟩
    ·dsimp only
     rw[hst]
     exact⟨by omega,Qn.of hszm,by dsimp only;have h9:=Ue (aH vs k).2 (aX fr (vs.take k) p).2.2;omega,by dsimp only;rw[fE,List.length_singleton];omega,fun h9=>by cases h9⟩
    dsimp only
    rw[hst];dsimp only
    exact(RC (j:=10) (k1:=7) (k2:=8) (us:=(aX fr (vs.take k) p).2.1) (y:=(aH vs k).1) (q:=(aO (aH vs k).2 [(aX fr (vs.take k) p).2.2])) rfl rfl rfl rfl rfl rfl).trans (yI h0 [0,1,2,3,4,10] _ _ (by decide) rfl ⟨rfl,rfl,rfl,congrArg (fun n=>some (FV.one (.sl 10 0 n))) (show((aX fr (vs.take k) p).2.1++[((aH vs k).1,(aO (aH vs k).2 [(aX fr (vs.take k) p).2.2]))]).length=(aX fr (vs.take k) p).2.1.length+1 by simp),rfl,rfl,rfl,trivial⟩ ⟨oe rfl rfl,aB rfl,aB rfl,aB (congrArg (fun l=>some (⟨102,5,eL l⟩:Ob)) (by rw[Pb (x:=(aH vs k)) (by rw[←qX (by omega)]) hal,List.append_assoc])),aB rfl,aB rfl,rfl⟩)
   refine sk (rl (o1 ?_));refine bB 48 (k+1) ?_
   refine o1 ?_;refine nl ?_;have hst:=(oI (fr:=fr) p (by omega:k<vs.length)).trans (oJ (s:=(aX fr (vs.take k) p)) (x:=(aH vs k)) (fun hc=>h6 hc.2))
   refine⟨(k+1,m,true),by dsimp only;omega,?_,?_⟩
   ·dsimp only
    rw[hst];exact⟨by omega,hm,by dsimp only;omega,by dsimp only;omega,fun h9=>by cases h9⟩
   dsimp only
   rw[hst];dsimp only
   exact(fQ h0 [0,1,2,3,4,5] ⟨oe rfl rfl,aB rfl,aB rfl,aB (congrArg (fun l=>some (⟨102,5,eL l⟩:Ob)) (by rw[qX (k:=k) (by omega),List.append_assoc];rfl)),aB rfl,aB rfl,rfl⟩)
  (iterate 3 refine cY ?_);refine o1 ?_;refine nl (dW rfl (sk (rl (o1 ?_))))
  refine bB 48 (k+1) ?_
  refine o1 ?_;refine nl ?_;have hst:=(oI (fr:=fr) p (by omega:k<vs.length)).trans (oJ (s:=(aX fr (vs.take k) p)) (x:=(aH vs k)) (fun hc=>h5 hc.1))
  refine⟨(k+1,m,true),by dsimp only;omega,?_,?_⟩
  ·dsimp only
   rw[hst];exact⟨by omega,hm,by dsimp only;omega,by dsimp only;omega,fun h9=>by cases h9⟩
  dsimp only
  rw[hst];dsimp only
  exact(fQ h0 [0,1,2,3,4,5] ⟨oe rfl rfl,aB rfl,aB rfl,aB (congrArg (fun l=>some (⟨102,5,eL l⟩:Ob)) (by rw[qX (k:=k) (by omega),List.append_assoc];rfl)),aB rfl,aB rfl,rfl⟩)
 refine ex (sq (rl ?_));(iterate 3 refine o1 ?_);have hkk:vs.take k=vs:=fF (by omega)
 have hU9:((aX fr (vs.take k) p).1++vs.drop k)=(aX fr vs p).1:=by rw[hkk,List.drop_of_length_le (by omega),List.append_nil]
 have hG9:(aX fr (vs.take k) p).2.1=(aX fr vs p).2.1:=by rw[hkk]
 have hul9:(aX fr vs p).1.length=vs.length:=xI fr vs p
 refine WL.sub (iJ (j:=0) (k:=3) (p:=0) (n:=vs.length) (trs:=(aX fr vs p).1.flatMap (cZ false)) rfl rfl rfl (congrArg (fun l=>some (⟨102,5,eL l⟩:Ob)) hU9) rfl (aN _ _ (by rw[bL,hul9])) (by rw[bL,hul9]) rfl) ?_
 have hsw:=Au (t0:=137) (rest:=[.v (.int .i64 last),.v (.bool put)]) (vs:=(aX fr vs p).1) (dl:=tV) (fst:=[]) (caps:=[]) KC (fun x hx=>AA (y:=x.1) (q:=x.2) (hzU x hx)) (by rw[hul9];exact hl)
 rw[show sR 102 (aX fr vs p).1=.s true 102 5 vs.length ((aX fr vs p).1.flatMap (cZ false)) by rw[←hul9];rfl]at hsw
 refine cl 6 [0] hsw Lz ⟨oe rfl rfl,rfl⟩ ⟨rfl,rfl,rfl⟩ (ok:=[some ⟨137,0,[.t (sR 102 (eS tV (aX fr vs p).1)),tv (.int .i64 last),tv (.bool put)]⟩]) ⟨oe rfl rfl,rfl⟩ ?_
 refine nl (sq (rl (o1 ?_)));refine o1 ?_;refine nl (rt ?_)
 exact jS (lent':=[⟨137,0,[.t (sR 102 (eS tV (aX fr vs p).1)),tv (.int .i64 last),tv (.bool put)]⟩,⟨113,1,(aJ a.x).map .t⟩,⟨113,1,(aJ a.y).map .t⟩]) (.inl rfl) rfl (bD (.one (.sl (trs:=(aX fr (vs.take k) p).2.1.flatMap (cZ true)) rfl rfl (aN _ _ (bL true _)) (bL true _)))) (by decide) (by simp) ⟨⟨rfl,rfl⟩,⟨rfl,rfl⟩,⟨rfl,rfl⟩,trivial⟩ ⟨rfl,rfl,rfl,trivial⟩ ⟨rfl,dF _,dF _,trivial⟩ (fun h=>by cases h) ⟨rfl,by rw[hG9];rfl⟩
theorem NJ {vs:List (Int×Rat)}{last fr:Int}{put:Bool}{m:Rat}{n B:Nat}(hok:StOk vs n B) (hs:Sz 330 m) (hn:n≤50) (hB:B≤20000):aE false Tryz.prog 100 [⟨137,0,[.t (sR 102 vs),tv (.int .i64 last),tv (.bool put)]⟩,⟨113,1,(aJ (dg 4294967296 m.num.natAbs)).map .t⟩,⟨113,1,(aJ (dg 4294967296 m.den)).map .t⟩] [.one (.pt 0 0),.one (tv (.int .i64 fr)),.agg [tv (.bool (aL m.num)),.sl 1 0 (dg 4294967296 m.num.natAbs).length,tv (.bool false),.sl 2 0 (dg 4294967296 m.den).length]] (Rt [⟨137,0,[.t (sR 102 ((aX fr vs m).1.filter (fun x=> !oO x.1 x.2))),tv (.int .i64 last),tv (.bool put)]⟩,⟨113,1,(aJ (dg 4294967296 m.num.natAbs)).map .t⟩,⟨113,1,(aJ (dg 4294967296 m.den)).map .t⟩] (.one (.t (sO 102 (aX fr vs m).2.1)))):=by
 have h1:=nB.1 hs
 have h2:wt m=vR m+1:=rfl
 have h3:=hok.len
 have h4:=hok.size
 exact SR (fr:=fr) (a:=.of m) (Qn.of (p:=m) (hs.mono (M:=68719476736) (by omega))) (by omega) (by omega) (hok.zU (by omega))
set_option maxHeartbeats 4000000 in
theorem GF {vs:List Vn}{us:List Ur}{ls:List (List (Int×Rat)×Int×Bool)}{y e n B:Nat}{q m:Rat}{at9:Int}{ta:Tr}(he:e<ls.length) (hf:(dH (cW ((y:Nat):Int) ((e:Nat):Int)) vs)<vs.length) (hm3:Sz 320 m) (hu3:Sz 300 (aY vs (dH (cW ((y:Nat):Int) ((e:Nat):Int)) vs)).u) (hok:StOk (dU ls e).1 n B) (hn:n≤50) (hB:B≤20000) (hlv:vs.length≤1073741823) (hlu:us.length≤1073741823) (hll:ls.length≤1073741823):nI false Tryz.prog 99 [⟨92,0,[.pt 2 0]⟩,⟨3,0,[tv (.int .i64 at9)]⟩,⟨95,0,[.t ta,.t (cO true true vs),.t (cF true true us),.t (eM ls)]⟩] [⟨113,1,(aJ (dg 4294967296 m.num.natAbs)).map .t⟩,⟨113,1,(aJ (dg 4294967296 m.den)).map .t⟩] [.agg ((eF (⟨((y:Nat):Int),((e:Nat):Int),q⟩:Wv)).map .t),.agg [tv (.bool (aL m.num)),.sl 3 0 (dg 4294967296 m.num.natAbs).length,tv (.bool false),.sl 4 0 (dg 4294967296 m.den).length],.one (.pt 0 0),.one (.pt 1 0)] (Rt [⟨92,0,[.pt 2 0]⟩,⟨3,0,[tv (.int .i64 at9)]⟩,⟨95,0,[.t ta,.t (cO true true (vs.set (dH (cW ((y:Nat):Int) ((e:Nat):Int)) vs) (⟨(aY vs (dH (cW ((y:Nat):Int) ((e:Nat):Int)) vs)).y,(aY vs (dH (cW ((y:Nat):Int) ((e:Nat):Int)) vs)).e,(aY vs (dH (cW ((y:Nat):Int) ((e:Nat):Int)) vs)).l,(aY vs (dH (cW ((y:Nat):Int) ((e:Nat):Int)) vs)).u+m,(aY vs (dH (cW ((y:Nat):Int) ((e:Nat):Int)) vs)).x,(aY vs (dH (cW ((y:Nat):Int) ((e:Nat):Int)) vs)).c⟩:Vn))),.t (cF true true (us++[(⟨((y:Nat):Int),((e:Nat):Int),at9,m⟩:Ur)])),.t (eM (ls.set e (((aX ((y:Nat):Int) (dU ls e).1 m).1.filter (fun x=> !oO x.1 x.2)),(dU ls e).2.1,(dU ls e).2.2)))]⟩] (.tup [])):=by
 refine QP (lent:=[⟨92,0,[.pt 2 0]⟩,⟨3,0,[tv (.int .i64 at9)]⟩,⟨95,0,[.t ta,.t (cO true true vs),.t (cF true true us),.t (eM ls)]⟩]) Tryz.func99 rfl Tryz.ntmps99 rfl aF rfl fun N9 M9 w9 c0 h0=>?_
 have hm:Sz 68719476736 m:=hm3.mono (by omega)
 have hu:Sz 68719476736 (aY vs (dH (cW ((y:Nat):Int) ((e:Nat):Int)) vs)).u:=hu3.mono (by omega)
 refine sq (rl (bx 5 ?_));refine bx 6 ?_;refine nl (sq ?_)
 refine WP.sub (oU (j:=2) (key:=7) (p:=3) (e:=96) (z:=1) (n:=ls.length) (trs:=ls.map eU) rfl rfl rfl rfl rfl) ?_
 refine WP.sub (Pc (j:=7) (key:=8) (p:=e) (e:=137) (trs:=[sR 102 (dU ls e).1,.v (.int .i64 (dU ls e).2.1),.v (.bool (dU ls e).2.2)]) rfl rfl (Bc he) rfl) ?_
 refine cI [0,1,2,5,6,7] [] ?_
 refine aK 0 ?_;refine dv 1 ?_;refine dv 2 ?_;refine aK 3 ?_;refine dv 4 ?_;refine aK 5 ?_;refine WD.cast (t:=12) (u':=.int .i64 ((e:Nat):Int)) rfl (dO rfl) ?_;refine dv 6 ?_
 refine Oe 7 (l:=((ls.map eU).map AV.t).set e (.pt 8 0)) (v:=.pt 8 0) (Ez (by rw[mG];exact he)) ?_
 refine dv 8 ?_;refine aK 9 ?_;refine aK 10 ?_
 refine Tv 11 9 [8,3,4] rfl (NJ (fr:=((y:Nat):Int)) (m:=m) hok (hm3.mono (by omega)) hn hB) WX ⟨oe rfl rfl,aB rfl,aB rfl,rfl⟩ ⟨rfl,rfl,rfl,rfl⟩ (ok:=[some ⟨137,0,[.t (sR 102 ((aX ((y:Nat):Int) (dU ls e).1 m).1.filter (fun x=> !oO x.1 x.2))),tv (.int .i64 (dU ls e).2.1),tv (.bool (dU ls e).2.2)]⟩,some ⟨113,1,(aJ (dg 4294967296 m.num.natAbs)).map .t⟩,some ⟨113,1,(aJ (dg 4294967296 m.den)).map .t⟩]) ⟨oe rfl rfl,aB rfl,aB rfl,rfl⟩ ⟨rfl,rfl,rfl,rfl,rfl,rfl,trivial⟩ ?_
 refine aW ?_;refine sq ?_
 refine WP.sub (Hv (j:=7) (k:=8) (p:=e) (e:=137) (trs:=[sR 102 ((aX ((y:Nat):Int) (dU ls e).1 m).1.filter (fun x=> !oO x.1 x.2)),.v (.int .i64 (dU ls e).2.1),.v (.bool (dU ls e).2.2)]) (l':=((ls.set e (((aX ((y:Nat):Int) (dU ls e).1 m).1.filter (fun x=> !oO x.1 x.2)),(dU ls e).2.1,(dU ls e).2.2)).map eU).map .t) rfl rfl rfl (List.getElem?_set_self (by rw[mG];exact he)) (Om (x:=(((aX ((y:Nat):Int) (dU ls e).1 m).1.filter (fun x=> !oO x.1 x.2)),(dU ls e).2.1,(dU ls e).2.2)))) ?_
 refine WP.sub (iJ (j:=2) (k:=7) (p:=3) (e:=96) (z:=1) (n:=ls.length) (trs:=(ls.set e (((aX ((y:Nat):Int) (dU ls e).1 m).1.filter (fun x=> !oO x.1 x.2)),(dU ls e).2.1,(dU ls e).2.2)).map eU) rfl rfl rfl rfl rfl (aN _ _ (by simp)) (by simp) rfl) ?_
 refine WP.sub (oU (j:=2) (key:=10) (p:=2) (e:=58) (z:=7) (n:=us.length) (trs:=us.flatMap (dK true)) rfl rfl rfl rfl rfl) ?_
 refine WP.sub (yI h0 [0,1,2,3,4,5,6,10] [(2,pN 0),(3,pN 1),(4,pN 5),(5,pN 6)] [⟨92,0,[.pt 2 0]⟩,⟨3,0,[tv (.int .i64 at9)]⟩,⟨95,0,[.t ta,.t (cO true true vs),.sl 7 0 us.length,.t (.s true 96 1 ls.length ((ls.set e (((aX ((y:Nat):Int) (dU ls e).1 m).1.filter (fun x=> !oO x.1 x.2)),(dU ls e).2.1,(dU ls e).2.2)).map eU))]⟩,⟨113,1,(aJ (dg 4294967296 m.num.natAbs)).map .t⟩,⟨113,1,(aJ (dg 4294967296 m.den)).map .t⟩,⟨64,0,(eF (⟨((y:Nat):Int),((e:Nat):Int),q⟩:Wv)).map .t⟩,⟨48,0,[tv (.bool (aL m.num)),.sl 3 0 (dg 4294967296 m.num.natAbs).length,tv (.bool false),.sl 4 0 (dg 4294967296 m.den).length]⟩,⟨58,7,(us.flatMap (dK true)).map .t⟩] (by decide) rfl ⟨rfl,rfl,rfl,rfl,trivial⟩ ⟨oe rfl rfl,oe rfl rfl,oe rfl rfl,aB rfl,aB rfl,aB rfl,oe rfl rfl,aB rfl,rfl⟩) ?_
 refine cI [0,1,2,5,6] [18] ?_
 refine aK 0 ?_;refine aK 1 ?_;refine dv 2 ?_;refine dv 3 ?_;refine dv 4 ?_;refine aK 5 ?_;refine dv 6 ?_;refine aK 7 ?_;refine dv 8 ?_;refine aK 9 ?_;refine aK 10 ?_;refine aK 11 ?_
 refine dv 12 ?_;refine iG (key:=8) 13 (by kernel_rfl) rfl rfl aF rfl ⟨rfl,rfl,rfl,rfl,rfl,trivial⟩ ?_
 refine kC (j:=9) (n:=us.length) (l:=(us.flatMap (dK true)).map .t) 14 rfl aF rfl rfl rfl (.sl rfl (uZ us true)) (.sl rfl rfl rfl) rfl rfl (by omega) (by omega) rfl ⟨rfl,rfl,rfl,rfl,rfl,trivial⟩ rfl (by kernel_rfl) rfl ?_
 refine dI 15 ?_
 refine dI 16 ?_
 refine df 17 ?_;refine dst 18 ?_;refine aW ?_;refine sq ?_
 refine WP.sub (oU (j:=2) (key:=10) (p:=1) (e:=64) (z:=18) (n:=vs.length) (trs:=vs.flatMap (cA true)) rfl rfl rfl rfl rfl) ?_
 refine WP.sub (yI h0 [0,1,2,3,4,5,6,9,10] [(2,pN 0),(3,pN 1),(4,pN 5),(5,pN 6)] [⟨92,0,[.pt 2 0]⟩,⟨3,0,[tv (.int .i64 at9)]⟩,⟨95,0,[.t ta,.sl 8 0 vs.length,.sl 7 0 (us.length+1),.t (.s true 96 1 ls.length ((ls.set e (((aX ((y:Nat):Int) (dU ls e).1 m).1.filter (fun x=> !oO x.1 x.2)),(dU ls e).2.1,(dU ls e).2.2)).map eU))]⟩,⟨113,1,(aJ (dg 4294967296 m.num.natAbs)).map .t⟩,⟨113,1,(aJ (dg 4294967296 m.den)).map .t⟩,⟨64,0,(eF (⟨((y:Nat):Int),((e:Nat):Int),q⟩:Wv)).map .t⟩,⟨48,0,[tv (.bool (aL m.num)),.sl 3 0 (dg 4294967296 m.num.natAbs).length,tv (.bool false),.sl 4 0 (dg 4294967296 m.den).length]⟩,⟨58,7,(us.flatMap (dK true)).map .t++[tv (.int .i64 ((y:Nat):Int)),tv (.int .i64 ((e:Nat):Int)),tv (.int .i64 at9),tv (.bool (aL m.num)),.sl 3 0 (dg 4294967296 m.num.natAbs).length,tv (.bool false),.sl 4 0 (dg 4294967296 m.den).length]⟩,⟨64,18,(vs.flatMap (cA true)).map .t⟩] (by decide) rfl ⟨rfl,rfl,rfl,rfl,trivial⟩ ⟨oe rfl rfl,oe rfl rfl,oe rfl rfl,aB rfl,aB rfl,aB rfl,oe rfl rfl,QQ rfl rfl,aB rfl,rfl⟩) ?_
 refine rl (ld ?_);refine o1 ?_;refine ld ?_;refine o1 ?_;refine ld ?_
 refine clp [2,8,7,3,4] (Sc (vs:=vs) (y:=((y:Nat):Int)) (e:=((e:Nat):Int)) (l2:=us.flatMap (dK true)) hf hlv) GG ⟨oe rfl rfl,aB rfl,QQ rfl rfl,aB rfl,aB rfl,rfl⟩ ⟨rfl,rfl,rfl,rfl⟩ (ok:=[some ⟨95,0,[.t ta,.sl 8 0 vs.length,.sl 7 0 (us.length+1),.t (.s true 96 1 ls.length ((ls.set e (((aX ((y:Nat):Int) (dU ls e).1 m).1.filter (fun x=> !oO x.1 x.2)),(dU ls e).2.1,(dU ls e).2.2)).map eU))]⟩,some ⟨64,18,(vs.flatMap (cA true)).map .t⟩,some ⟨58,7,(us.flatMap (dK true)).map .t++[tv (.int .i64 ((y:Nat):Int)),tv (.int .i64 ((e:Nat):Int)),tv (.int .i64 at9),tv (.bool (aL m.num)),.sl 3 0 (dg 4294967296 m.num.natAbs).length,tv (.bool false),.sl 4 0 (dg 4294967296 m.den).length]⟩,some ⟨113,1,(aJ (dg 4294967296 m.num.natAbs)).map .t⟩,some ⟨113,1,(aJ (dg 4294967296 m.den)).map .t⟩]) ⟨oe rfl rfl,aB rfl,QQ rfl rfl,aB rfl,aB rfl,rfl⟩ ?_
 refine o1 ?_;refine nl ?_;refine cI [0,1,2,5,6,8] [9] ?_
 refine dv 0 ?_;refine dv 1 ?_;refine dv 2 ?_;refine dv 3 ?_
 refine sP 4 (fU (f:=(cA true)) (z:=18) (o:=6) (us:=(Fr4.of (aY vs (dH (cW ((y:Nat):Int) ((e:Nat):Int)) vs)).u).tr false) (cK true) (hH hf) (bM rfl) rfl) ?_
 refine aK 5 ?_
 refine aS 6 rfl (xB (Qn.of (p:=(aY vs (dH (cW ((y:Nat):Int) ((e:Nat):Int)) vs)).u) hu) (Qn.of (p:=m) hm)) Dj ⟨aC rfl,pM rfl (.cons .t (.cons (.sl rfl rfl (aN _ _ rfl) (aV _)) (.cons .t (.cons (.sl rfl rfl (aN _ _ rfl) (aV _)) .nil)))),rfl⟩ (qF (.of ((aY vs (dH (cW ((y:Nat):Int) ((e:Nat):Int)) vs)).u+m))) ?_
 refine dI 7 ?_
 refine df 8 ?_
 refine uP 9 (gZ (xs:=vs) (k:=(dH (cW ((y:Nat):Int) ((e:Nat):Int)) vs)) (x:=(aY vs (dH (cW ((y:Nat):Int) ((e:Nat):Int)) vs))) (f:=(cA true)) (z:=18) (o:=6) (x':=(⟨(aY vs (dH (cW ((y:Nat):Int) ((e:Nat):Int)) vs)).y,(aY vs (dH (cW ((y:Nat):Int) ((e:Nat):Int)) vs)).e,(aY vs (dH (cW ((y:Nat):Int) ((e:Nat):Int)) vs)).l,((aY vs (dH (cW ((y:Nat):Int) ((e:Nat):Int)) vs)).u+m),(aY vs (dH (cW ((y:Nat):Int) ((e:Nat):Int)) vs)).x,(aY vs (dH (cW ((y:Nat):Int) ((e:Nat):Int)) vs)).c⟩:Vn)) (us:=(Fr4.of ((aY vs (dH (cW ((y:Nat):Int) ((e:Nat):Int)) vs)).u+m)).tr false) (cK true) (hH hf) (bM rfl) rfl) (jW (xs:=vs) (k:=(dH (cW ((y:Nat):Int) ((e:Nat):Int)) vs)) (f:=(cA true)) (z:=18) (o:=6) (us:=(Fr4.of ((aY vs (dH (cW ((y:Nat):Int) ((e:Nat):Int)) vs)).u+m)).tr false) (cK true) (by omega) (bM rfl)) ?_
 refine aW ?_
 refine Pd (iJ (j:=2) (k:=8) (p:=1) (e:=64) (z:=18) (n:=vs.length) (trs:=(vs.set (dH (cW ((y:Nat):Int) ((e:Nat):Int)) vs) (⟨(aY vs (dH (cW ((y:Nat):Int) ((e:Nat):Int)) vs)).y,(aY vs (dH (cW ((y:Nat):Int) ((e:Nat):Int)) vs)).e,(aY vs (dH (cW ((y:Nat):Int) ((e:Nat):Int)) vs)).l,(aY vs (dH (cW ((y:Nat):Int) ((e:Nat):Int)) vs)).u+m,(aY vs (dH (cW ((y:Nat):Int) ((e:Nat):Int)) vs)).x,(aY vs (dH (cW ((y:Nat):Int) ((e:Nat):Int)) vs)).c⟩:Vn)).flatMap (cA true)) rfl rfl rfl rfl rfl (aN _ _ (by rw[bE (cK true),List.length_set])) (by rw[bE (cK true),List.length_set]) rfl) ?_
 refine Pd (iJ (j:=7) (k:=3) (p:=us.length*7+4) (e:=113) (z:=1) (n:=(dg 4294967296 m.num.natAbs).length) (trs:=aJ (dg 4294967296 m.num.natAbs)) rfl rfl rfl rfl (Em (uZ us true)) (bS _) (aV _) (En (uZ us true))) ?_
 refine Pd (iJ (j:=7) (k:=4) (p:=us.length*7+6) (e:=113) (z:=1) (n:=(dg 4294967296 m.den).length) (trs:=aJ (dg 4294967296 m.den)) rfl rfl rfl rfl (Em (uZ us true)) (bS _) (aV _) (En (uZ us true))) ?_
 refine Pd (iJ (j:=2) (k:=7) (p:=2) (e:=58) (z:=7) (n:=us.length+1) (trs:=(us++[(⟨((y:Nat):Int),((e:Nat):Int),at9,m⟩:Ur)]).flatMap (dK true)) rfl rfl rfl (congrArg (fun l:List AV=>some (⟨58,7,l⟩:Ob)) (EN us (⟨((y:Nat):Int),((e:Nat):Int),at9,m⟩:Ur))) rfl (aN _ _ (by rw[bE (dA true),fE];rfl)) (by rw[bE (dA true),fE];rfl) rfl) ?_
 exact uR <| jS (lent':=[⟨92,0,[.pt 2 0]⟩,⟨3,0,[tv (.int .i64 at9)]⟩,⟨95,0,[.t ta,.t (cO true true (vs.set (dH (cW ((y:Nat):Int) ((e:Nat):Int)) vs) (⟨(aY vs (dH (cW ((y:Nat):Int) ((e:Nat):Int)) vs)).y,(aY vs (dH (cW ((y:Nat):Int) ((e:Nat):Int)) vs)).e,(aY vs (dH (cW ((y:Nat):Int) ((e:Nat):Int)) vs)).l,(aY vs (dH (cW ((y:Nat):Int) ((e:Nat):Int)) vs)).u+m,(aY vs (dH (cW ((y:Nat):Int) ((e:Nat):Int)) vs)).x,(aY vs (dH (cW ((y:Nat):Int) ((e:Nat):Int)) vs)).c⟩:Vn))),.t (cF true true (us++[(⟨((y:Nat):Int),((e:Nat):Int),at9,m⟩:Ur)])),.t (eM (ls.set e (((aX ((y:Nat):Int) (dU ls e).1 m).1.filter (fun x=> !oO x.1 x.2)),(dU ls e).2.1,(dU ls e).2.2)))]⟩]) (.inr rfl) rfl Ch (by decide) (fun _ h=>by cases h) ⟨⟨rfl,rfl⟩,⟨rfl,rfl⟩,⟨rfl,rfl⟩,trivial⟩ ⟨rfl,rfl,(by rw[cO,cF,eM,List.length_set,List.length_set,fE];rfl),trivial⟩ ⟨rfl,rfl,rfl,trivial⟩ (fun h=>by cases h) ⟨rfl,rfl⟩
set_option maxHeartbeats 4000000 in
theorem SS {R:Rg}{U:List Ur}{x c:Nat→Nat→Rat}{N y e t:Nat}{ta:Tr}(hOk:R.Ok N) (hI:R.Iv N U) (ht:t<N) (hp:(y,e)∈R.vl t) (hw:t≤y+R.f) (hlU:U.length≤1000000) (hlV:(R.vl t).length≤1000000):aE false Tryz.prog 102 [⟨165,0,[.t (gH (R.ms t)),.t (sQ false ((R.bs t).map Fr4.of))]++((Fr4.of (R.lim t)).tr false).map .t++((Fr4.of (dZ U t)).tr false).map .t++[.sl 1 0 (R.by9 U t).length,.fn 99 [] [.pt 2 0,.pt 3 0]]⟩,⟨48,4,((R.by9 U t).flatMap qt).map .t⟩,⟨92,0,[.pt 4 0]⟩,⟨3,0,[tv (.int .i64 ((t:Nat):Int))]⟩,⟨95,0,[.t ta,.t (cO true true (R.vns U x c (R.vl t))),.t (cF true true U),.t (eM (R.own U (R.I t) t))]⟩] [.one (.pt 0 0),.agg ((eF (R.wv U (y,e))).map .t)] (Rt [⟨165,0,[.t (gH (R.ms t)),.t (sQ false ((R.bs t).map Fr4.of))]++((Fr4.of (R.lim t)).tr false).map .t++((Fr4.of (dZ (Rg.us U y e t (aO (R.left U y e) [(R.room U e t)])) t)).tr false).map .t++[.sl 1 0 (R.by9 (Rg.us U y e t (aO (R.left U y e) [(R.room U e t)])) t).length,.fn 99 [] [.pt 2 0,.pt 3 0]]⟩,⟨48,4,((R.by9 (Rg.us U y e t (aO (R.left U y e) [(R.room U e t)])) t).flatMap qt).map .t⟩,⟨92,0,[.pt 4 0]⟩,⟨3,0,[tv (.int .i64 ((t:Nat):Int))]⟩,⟨95,0,[.t ta,.t (cO true true (R.vns (Rg.us U y e t (aO (R.left U y e) [(R.room U e t)])) x c (R.vl t))),.t (cF true true (Rg.us U y e t (aO (R.left U y e) [(R.room U e t)]))),.t (eM (R.own (Rg.us U y e t (aO (R.left U y e) [(R.room U e t)])) (R.I t) t))]⟩] (.tup [])):=by
 refine qS Tryz.func102 rfl Tryz.ntmps102 rfl aF rfl fun N9 M9 w9 c0 h0=>?_
 have hv:=fK.1 hp
 have hve:e<R.E:=hv.2.1
 have hvy:y<N:=by have:=hv.1;dsimp only at this;omega
 have hbl:(R.bs t).length=R.E:=iB
 have hyl:(R.by9 U t).length=R.E:=jE
 have hE:=hOk.e
 have hsl3:=hI.sz_left hOk hvy hve
 have hsl:Sz 68719476736 (R.left U y e):=hsl3.mono (by omega)
 have hbb3:Sz 300 (dT U t e):=hI.sz_eIn hOk ht hve
 have hyy3:Sz 300 (dZ U t):=hI.sz_yIn hOk ht
 have hsm3:Sz 310 (R.room U e t):=pW ((kD (hOk.base t e ht hve) hbb3).mono (by omega)) (fun q hq=>by rw[List.mem_singleton]at hq;rw[hq];exact(kD (hOk.lim t ht) hyy3).mono (by omega))
 have hsm:Sz 68719476736 (R.room U e t):=hsm3.mono (by omega)
 have hsn3:Sz 310 (aO (R.left U y e) [(R.room U e t)]):=pW (hsl3.mono (by omega)) (fun q hq=>by rw[List.mem_singleton]at hq;rw[hq];exact hsm3)
 have hsn:Sz 68719476736 (aO (R.left U y e) [(R.room U e t)]):=hsn3.mono (by omega)
 have hsy:Sz 68719476736 (dZ U t):=hyy3.mono (by omega)
 have hsb:Sz 68719476736 (fI (R.by9 U t) (e)):=by rw[oD hve];exact hbb3.mono (by omega)
 refine sq (rl (bx 5 ?_));refine nl ?_
 refine md (γ:=Unit) (fun _=>bP [(0,pN 0),(3,pN 5),(4,pN 6)]) (fun _=>([⟨165,0,[.t (gH (R.ms t)),.t (sQ false ((R.bs t).map Fr4.of)),tv (.bool (aL (R.lim t).num)),.t (sU false (dg 4294967296 (R.lim t).num.natAbs)),tv (.bool false),.t (sU false (dg 4294967296 (R.lim t).den)),tv (.bool (aL (dZ U t).num)),.t (sU false (dg 4294967296 (dZ U t).num.natAbs)),tv (.bool false),.t (sU false (dg 4294967296 (dZ U t).den)),.sl 1 0 ((R.by9 U t).length),.fn 99 [] [.pt 2 0,.pt 3 0]]⟩,⟨48,4,((R.by9 U t).flatMap qt).map .t⟩,⟨92,0,[.pt 4 0]⟩,⟨3,0,[tv (.int .i64 ((t:Nat):Int))]⟩,⟨95,0,[.t (ta),.t ((cO true true (R.vns U x c (R.vl t)))),.t ((cF true true U)),.t ((eM (R.own U (R.I t) t)))]⟩,⟨64,0,(eF (R.wv U (y,e))).map .t⟩,⟨48,0,[tv (.bool (aL (aO (R.left U y e) [(R.room U e t)]).num)),.sl 7 0 ((dg 4294967296 (aO (R.left U y e) [(R.room U e t)]).num.natAbs).length),tv (.bool false),.sl 8 0 ((dg 4294967296 (aO (R.left U y e) [(R.room U e t)]).den).length)]⟩,⟨113,1,(aJ (dg 4294967296 (aO (R.left U y e) [(R.room U e t)]).num.natAbs)).map .t⟩,⟨113,1,(aJ (dg 4294967296 (aO (R.left U y e) [(R.room U e t)]).den)).map .t⟩]:List Ob).map some) (fun _=>True) ?_ fun _ _=>?_
 ·refine cI [5] [9] ?_
  refine dv 0 ?_;refine aK 1 ?_;refine dv 2 ?_;refine dv 3 ?_;refine aK 4 ?_;refine WD.cast (t:=9) (u':=.int .i64 ((e:Nat):Int)) rfl (dO rfl) ?_
  refine eR 5 8 ?_ ?_
  ·have hmost:=AF (ms:=R.ms t) (Bs:=R.bs t) (bs:=R.by9 U t) (L:=R.lim t) (Us:=dZ U t) (e:=e) (at9:=((t:Nat):Int)) (ta:=ta) (tb:=(cO true true (R.vns U x c (R.vl t)))) (tc:=(cF true true U)) (td:=(eM (R.own U (R.I t) t))) (by omega) (by omega) (by rw[mZ hve];exact(hOk.base t e ht hve).mono (by omega)) (by rw[oD hve];exact hbb3.mono (by omega)) ((hOk.lim t ht).mono (by omega)) (hyy3.mono (by omega)) (by omega) (by omega)
   rw[mZ hve,oD hve]at hmost
   refine KB 5 6 [0,1,2,3,4] rfl hmost KD ⟨oe rfl rfl,aB rfl,oe rfl rfl,oe rfl rfl,oe rfl rfl,rfl⟩ ⟨rfl,rfl,rfl⟩ (ok:=[some ⟨165,0,[.t (gH (R.ms t)),.t (sQ false ((R.bs t).map Fr4.of))]++((Fr4.of (R.lim t)).tr false).map .t++((Fr4.of (dZ U t)).tr false).map .t++[.sl 1 0 (R.by9 U t).length,.fn 99 [] [.pt 2 0,.pt 3 0]]⟩,some ⟨48,4,((R.by9 U t).flatMap qt).map .t⟩,some ⟨92,0,[.pt 4 0]⟩,some ⟨3,0,[tv (.int .i64 ((t:Nat):Int))]⟩,some ⟨95,0,[.t ta,.t (cO true true (R.vns U x c (R.vl t))),.t (cF true true U),.t (eM (R.own U (R.I t) t))]⟩]) ⟨oe rfl rfl,aB rfl,oe rfl rfl,oe rfl rfl,oe rfl rfl,rfl⟩ ⟨rfl,trivial⟩ ?_
   refine eR 6 8 ?_ ?_
   ·refine Hc (key:=6) 6 rfl rfl ⟨rfl,trivial⟩ ?_
    refine qU (i:=11) (k:=6) (t:=48) (t':=52) (z:=4) (n:=1) (l:=([Fr4.of (R.room U e t)]).flatMap (Fr4.tr false)) rfl rfl rfl rfl (.one .sl) (by rfl) (by rfl) ?_
    refine eR 7 8 ?_ ?_
    ·refine ock 7 7 rfl (Bi hsl hsm) oV ⟨aC rfl,a1 rfl,rfl⟩ ?_;refine fZ 9 8 ?_
     refine dst 9 ?_;refine aW ?_
     exact⟨(),trivial,fQ h0 [0,1,2,3,4,5,9,7,8] ⟨oe rfl rfl,aB rfl,oe rfl rfl,oe rfl rfl,oe rfl rfl,aB rfl,oe rfl rfl,aB rfl,aB rfl,rfl⟩⟩
    refine cQ 7 8 ?_;refine kS 8 7 rfl (Bi hsl hsm) oV ⟨aC rfl,a1 rfl,rfl⟩ ?_;refine dst 9 ?_;refine aW ?_
    exact⟨(),trivial,fQ h0 [0,1,2,3,4,5,7,8,9] ⟨oe rfl rfl,aB rfl,oe rfl rfl,oe rfl rfl,oe rfl rfl,aB rfl,oe rfl rfl,aB rfl,aB rfl,rfl⟩⟩
   refine cQ 6 8 ?_;refine iG (key:=7) 6 (by kernel_rfl) rfl rfl aF rfl ⟨rfl,trivial⟩ ?_
   refine qU (i:=11) (k:=7) (t:=48) (t':=52) (z:=4) (n:=1) (l:=([Fr4.of (R.room U e t)]).flatMap (Fr4.tr false)) rfl rfl rfl rfl (.one .sl) (by rfl) (by rfl) ?_
   refine kS 8 7 rfl (Bi hsl hsm) oV ⟨aC rfl,a1 rfl,rfl⟩ ?_;refine dst 9 ?_;refine aW ?_
   exact⟨(),trivial,fQ h0 [0,1,2,3,4,5,6,8,9] ⟨oe rfl rfl,aB rfl,oe rfl rfl,oe rfl rfl,oe rfl rfl,aB rfl,oe rfl rfl,aB rfl,aB rfl,rfl⟩⟩
  refine cQ 6 8 ?_
  have hmost:=AF (ms:=R.ms t) (Bs:=R.bs t) (bs:=R.by9 U t) (L:=R.lim t) (Us:=dZ U t) (e:=e) (at9:=((t:Nat):Int)) (ta:=ta) (tb:=(cO true true (R.vns U x c (R.vl t)))) (tc:=(cF true true U)) (td:=(eM (R.own U (R.I t) t))) (by omega) (by omega) (by rw[mZ hve];exact(hOk.base t e ht hve).mono (by omega)) (by rw[oD hve];exact hbb3.mono (by omega)) ((hOk.lim t ht).mono (by omega)) (hyy3.mono (by omega)) (by omega) (by omega)
  rw[mZ hve,oD hve]at hmost
  refine Tv 5 7 [0,1,2,3,4] rfl hmost KD ⟨oe rfl rfl,aB rfl,oe rfl rfl,oe rfl rfl,oe rfl rfl,rfl⟩ ⟨rfl,rfl,rfl⟩ (ok:=[some ⟨165,0,[.t (gH (R.ms t)),.t (sQ false ((R.bs t).map Fr4.of))]++((Fr4.of (R.lim t)).tr false).map .t++((Fr4.of (dZ U t)).tr false).map .t++[.sl 1 0 (R.by9 U t).length,.fn 99 [] [.pt 2 0,.pt 3 0]]⟩,some ⟨48,4,((R.by9 U t).flatMap qt).map .t⟩,some ⟨92,0,[.pt 4 0]⟩,some ⟨3,0,[tv (.int .i64 ((t:Nat):Int))]⟩,some ⟨95,0,[.t ta,.t (cO true true (R.vns U x c (R.vl t))),.t (cF true true U),.t (eM (R.own U (R.I t) t))]⟩]) ⟨oe rfl rfl,aB rfl,oe rfl rfl,oe rfl rfl,oe rfl rfl,rfl⟩ ⟨rfl,trivial⟩ ?_
  refine iG (key:=7) 6 (by kernel_rfl) rfl rfl aF rfl ⟨rfl,trivial⟩ ?_
  refine qU (i:=11) (k:=7) (t:=48) (t':=52) (z:=4) (n:=1) (l:=([Fr4.of (R.room U e t)]).flatMap (Fr4.tr false)) rfl rfl rfl rfl (.one .sl) (by rfl) (by rfl) ?_
  refine kS 8 7 rfl (Bi hsl hsm) oV ⟨aC rfl,a1 rfl,rfl⟩ ?_;refine dst 9 ?_;refine aW ?_
  exact⟨(),trivial,fQ h0 [0,1,2,3,4,5,6,8,9] ⟨oe rfl rfl,aB rfl,oe rfl rfl,oe rfl rfl,oe rfl rfl,aB rfl,oe rfl rfl,aB rfl,aB rfl,rfl⟩⟩
 refine sq (sq (rl (ld ?_)))
 refine ca (iZ (Qn.of (p:=(aO (R.left U y e) [(R.room U e t)])) hsn)) mU ⟨pM rfl (.cons .t (.cons (.sl rfl rfl (aN _ _ rfl) (aV _)) (.cons .t (.cons (.sl rfl rfl (aN _ _ rfl) (aV _)) .nil)))),rfl⟩ (.one (tv (.int .i64 (aO (R.left U y e) [(R.room U e t)]).num.sign))) ?_
 refine o1 ?_;refine nl ?_;refine bF rfl (fun h1=>?_) (fun h1=>?_)
 ·refine rt ?_;have hno:(Rg.us U y e t (aO (R.left U y e) [(R.room U e t)]))=U:=nJ (fun h9=>by have:=(iT _).2 h9;omega)
  exact jS (lent':=[⟨165,0,[.t (gH (R.ms t)),.t (sQ false ((R.bs t).map Fr4.of))]++((Fr4.of (R.lim t)).tr false).map .t++((Fr4.of (dZ (Rg.us U y e t (aO (R.left U y e) [(R.room U e t)])) t)).tr false).map .t++[.sl 1 0 (R.by9 (Rg.us U y e t (aO (R.left U y e) [(R.room U e t)])) t).length,.fn 99 [] [.pt 2 0,.pt 3 0]]⟩,⟨48,4,((R.by9 (Rg.us U y e t (aO (R.left U y e) [(R.room U e t)])) t).flatMap qt).map .t⟩,⟨92,0,[.pt 4 0]⟩,⟨3,0,[tv (.int .i64 ((t:Nat):Int))]⟩,⟨95,0,[.t ta,.t (cO true true (R.vns (Rg.us U y e t (aO (R.left U y e) [(R.room U e t)])) x c (R.vl t))),.t (cF true true (Rg.us U y e t (aO (R.left U y e) [(R.room U e t)]))),.t (eM (R.own (Rg.us U y e t (aO (R.left U y e) [(R.room U e t)])) (R.I t) t))]⟩]) (.inl rfl) rfl Ch (by decide) (fun _ h=>by cases h) ⟨⟨rfl,rfl⟩,⟨rfl,rfl⟩,⟨rfl,rfl⟩,⟨rfl,rfl⟩,⟨rfl,rfl⟩,trivial⟩ ⟨(by rw[hno];rfl),(by rw[hno];rfl),rfl,rfl,(by rw[hno];rfl),trivial⟩ ⟨rfl,dF _,rfl,rfl,rfl,trivial⟩ (fun h=>by cases h) ⟨rfl,rfl⟩
 refine sk (sq ?_);refine cI [0,2,3,4,5,6,7,8] [11] ?_
 refine dv 0 ?_;refine dv 1 ?_;refine dv 2 ?_;refine dv 3 ?_;refine dv 4 ?_;refine aK 5 ?_;refine aK 6 ?_
 refine aS 7 rfl (xB (Qn.of (p:=(dZ U t)) hsy) (Qn.of (p:=(aO (R.left U y e) [(R.room U e t)])) hsn)) Dj ⟨aC rfl,pM rfl (.cons .t (.cons (.sl rfl rfl (aN _ _ rfl) (aV _)) (.cons .t (.cons (.sl rfl rfl (aN _ _ rfl) (aV _)) .nil)))),rfl⟩ (qF (.of ((dZ U t)+(aO (R.left U y e) [(R.room U e t)])))) ?_
 refine dI 8 ?_
 refine dI 9 ?_
 refine df 10 ?_;refine dst 11 ?_;refine aW ?_;refine sq ?_;refine cI [0,1,2,3,4,5,6,7,8] [19] ?_
 refine dv 0 ?_;refine dv 1 ?_;refine dv 2 ?_;refine dv 3 ?_;refine aK 4 ?_;refine dv 5 ?_;refine aK 6 ?_;refine WD.cast (t:=33) (u':=.int .i64 ((e:Nat):Int)) rfl (dO rfl) ?_
 refine dv 7 ?_;refine dv 8 ?_;refine dv 9 ?_;refine dv 10 ?_;refine aK 11 ?_;refine dv 12 ?_;refine aK 13 ?_;refine WD.cast (t:=40) (u':=.int .i64 ((e:Nat):Int)) rfl (dO rfl) ?_
 refine dv 14 ?_;refine sP 15 (fU (f:=qt) (z:=4) (o:=0) (us:=qt (fI (R.by9 U t) (e))) mF (tY (by omega)) (bM rfl) rfl) ?_
 refine aK 16 ?_
 refine aS 17 rfl (xB (Qn.of (p:=(fI (R.by9 U t) (e))) hsb) (Qn.of (p:=(aO (R.left U y e) [(R.room U e t)])) hsn)) Dj ⟨aC rfl,pM rfl (.cons .t (.cons (.sl rfl rfl (aN _ _ rfl) (aV _)) (.cons .t (.cons (.sl rfl rfl (aN _ _ rfl) (aV _)) .nil)))),rfl⟩ (qF (.of ((fI (R.by9 U t) (e))+(aO (R.left U y e) [(R.room U e t)])))) ?_
 refine dv 18 ?_
 refine uP 19 (gZ (xs:=(R.by9 U t)) (k:=e) (x:=(fI (R.by9 U t) (e))) (f:=qt) (z:=4) (o:=0) (x':=(((fI (R.by9 U t) (e))+(aO (R.left U y e) [(R.room U e t)])):Rat)) (us:=qt ((fI (R.by9 U t) (e))+(aO (R.left U y e) [(R.room U e t)]))) mF (tY (by omega)) (bM rfl) rfl) (jW (xs:=(R.by9 U t)) (k:=e) (f:=qt) (z:=4) (o:=0) (us:=qt ((fI (R.by9 U t) (e))+(aO (R.left U y e) [(R.room U e t)]))) mF (by omega) (bM rfl)) ?_
 refine aW ?_;refine cI [0,5,6] [] ?_
 refine dv 0 ?_;refine dv 1 ?_;refine dv 2 ?_;refine aK 3 ?_;refine aK 4 ?_;refine aK 5 ?_;have hpos:0<(aO (R.left U y e) [(R.room U e t)]):=by
  have h9:¬((aO (R.left U y e) [(R.room U e t)]).num.sign≤0):=h1
  exact(iT _).1 (by omega)
 have hIt:y∈R.I t:=lI.2 ⟨hv.1,hw⟩
 have hle:(aO (R.left U y e) [(R.room U e t)])≤R.left U y e:=pS _ _
 have h0I:∀i∈R.I t,0≤R.left U i e:=fun i hi=>(hI.v i e (by have:=(lI.1 hi).1;omega) hve).1.1
 have hst:=VV (R:=R) (U:=U) (e:=e) (I:=R.I t) fun i hi=>hI.sz_left hOk (by have:=(lI.1 hi).1;omega) hve
 have hIl:=vO (R:=R) (k:=t)
 have hnn:=hOk.n
 have hfx:=(zH (R:=R) (U:=U) (x:=x) (c:=c) hp).1
 have hgo:dU (R.own U (R.I t) t) e=_:=Gt hve
 have hgv:=QL (R:=R) (U:=U) (x:=x) (c:=c) hp
 have hnote:=GF (vs:=(R.vns U x c (R.vl t))) (us:=U) (ls:=R.own U (R.I t) t) (y:=y) (e:=e) (n:=(R.I t).length) (B:=301*(R.I t).length) (q:=R.left U y e) (m:=(aO (R.left U y e) [(R.room U e t)])) (at9:=((t:Nat):Int)) (ta:=ta) (by rw[lM];exact hve) (by rw[dQ];exact hfx) (hsn3.mono (by omega)) (by rw[hgv];exact(hI.sz_vOf hOk hvy hve)) (by rw[hgo];exact hst) (by omega) (by omega) (by rw[dQ];omega) (by omega) (by rw[lM];omega)
 rw[EA hp hpos rfl,←kP hpos,hgo,QK hve Wq h0I hIt hpos hle]at hnote
 refine VX 6 9 6 7 [2,3,4,7,8] [2,3,4] [7,8] rfl hnote ZP rfl rfl rfl ⟨oe rfl rfl,oe rfl rfl,oe rfl rfl,aB rfl,aB rfl,rfl⟩ ⟨rfl,rfl,rfl,rfl,rfl⟩ (ok:=[some ⟨92,0,[.pt 4 0]⟩,some ⟨3,0,[tv (.int .i64 ((t:Nat):Int))]⟩,some ⟨95,0,[.t ta,.t (cO true true (R.vns (Rg.us U y e t (aO (R.left U y e) [(R.room U e t)])) x c (R.vl t))),.t (cF true true (Rg.us U y e t (aO (R.left U y e) [(R.room U e t)]))),.t (eM (R.own (Rg.us U y e t (aO (R.left U y e) [(R.room U e t)])) (R.I t) t))]⟩]) ⟨oe rfl rfl,oe rfl rfl,oe rfl rfl,rfl⟩ ⟨rfl,rfl,rfl,trivial⟩ ?_
 refine aW ?_;have hY:dZ U t+(aO (R.left U y e) [(R.room U e t)])=dZ (Rg.us U y e t (aO (R.left U y e) [(R.room U e t)])) t:=(Mx hpos).symm
 have hB:(R.by9 U t).set e (fI (R.by9 U t) e+(aO (R.left U y e) [(R.room U e t)]))=R.by9 (Rg.us U y e t (aO (R.left U y e) [(R.room U e t)])) t:=by rw[oD hve];exact Yz hve hpos
 exact jS (lent':=[⟨165,0,[.t (gH (R.ms t)),.t (sQ false ((R.bs t).map Fr4.of))]++((Fr4.of (R.lim t)).tr false).map .t++((Fr4.of (dZ (Rg.us U y e t (aO (R.left U y e) [(R.room U e t)])) t)).tr false).map .t++[.sl 1 0 (R.by9 (Rg.us U y e t (aO (R.left U y e) [(R.room U e t)])) t).length,.fn 99 [] [.pt 2 0,.pt 3 0]]⟩,⟨48,4,((R.by9 (Rg.us U y e t (aO (R.left U y e) [(R.room U e t)])) t).flatMap qt).map .t⟩,⟨92,0,[.pt 4 0]⟩,⟨3,0,[tv (.int .i64 ((t:Nat):Int))]⟩,⟨95,0,[.t ta,.t (cO true true (R.vns (Rg.us U y e t (aO (R.left U y e) [(R.room U e t)])) x c (R.vl t))),.t (cF true true (Rg.us U y e t (aO (R.left U y e) [(R.room U e t)]))),.t (eM (R.own (Rg.us U y e t (aO (R.left U y e) [(R.room U e t)])) (R.I t) t))]⟩]) (.inr rfl) rfl Ch (by decide) (fun _ h=>by cases h) ⟨⟨rfl,rfl⟩,⟨rfl,rfl⟩,⟨rfl,rfl⟩,⟨rfl,rfl⟩,⟨rfl,rfl⟩,trivial⟩ ⟨(by rw[←hY,←hB,List.length_set];rfl),(by rw[←hB];rfl),rfl,rfl,rfl,trivial⟩ ⟨rfl,dF _,rfl,rfl,rfl,trivial⟩ (fun h=>by cases h) ⟨rfl,rfl⟩
theorem NK {vs:List (Int×Rat)}{last y:Int}{put:Bool}{q:Rat}(hs:Sz 68719476736 q) (h0:0≤q) (hp:put=true→last<y) (hl:vs.length≤1073741822):aE false Tryz.prog 71 [⟨137,0,[.t (sR 102 vs),tv (.int .i64 last),tv (.bool put)]⟩,⟨113,1,(aJ (dg 4294967296 q.num.natAbs)).map .t⟩,⟨113,1,(aJ (dg 4294967296 q.den)).map .t⟩] [.one (.pt 0 0),.one (tv (.int .i64 y)),.agg [tv (.bool (aL q.num)),.sl 1 0 (dg 4294967296 q.num.natAbs).length,tv (.bool false),.sl 2 0 (dg 4294967296 q.den).length]] (Rt [⟨137,0,[.t (sR 102 (vs++if 0<q then [(y,q)]else [])),tv (.int .i64 y),tv (.bool true)]⟩,⟨113,1,(aJ (dg 4294967296 q.num.natAbs)).map .t⟩,⟨113,1,(aJ (dg 4294967296 q.den)).map .t⟩] (.one (tv (.int .i64 0)))):=by
 have h:=RJ (a:=.of q) (last:=last) (y:=y) (put:=put) (Qn.of hs) hl
 rw[FP h0 hp,FQ]at h
 exact h
theorem Uf {W:World}{N:Nat→Prop}{cs:List Co}:∀(l:List Tr) (us:List Value),ARL W N cs (l.map AV.t) us→ARL W N cs ((l.map oF).map AV.t) us
 | [],us,h=>h
 | y::l,[],h=>by simp only[List.map_cons,ARL]at h
 | y::l,u::us,h=>by
  simp only[List.map_cons,ARL,AR]at h⊢
  exact⟨Fb _ _ h.1,Uf l us h.2⟩
theorem Hw {x:Cx}{g:Nat→FV}{ob:List (Option Ob)}{i:Nat}{l l':List Tr}(hi:Nat.blt i x.n=true) (h:g i=.agg (l.map .t)) (hr:l.map oF=l'):Sub x g ob (bH g i (.agg (l'.map .t))) ob:=AU hi fun W N cs u hu=>by
 subst hr
 rw[h]at hu
 simp only[bO,cD]at hu⊢
 obtain⟨us,e,h2⟩:=hu
 exact⟨us,e,Uf l us h2⟩
theorem ST (xs:List Rl):rdTL (xs.flatMap rlt)=xs.flatMap rlt:=rT (fun r=>by
 have h:∀l:List Fr4,rdTL (l.flatMap (Fr4.tr false))=l.flatMap (Fr4.tr false):=fun l=>rT (fun a=>vA false a) l
 simp[rlt,Fr4.tr,sU,sQ,rdTL,oF,Tk,h]) xs
theorem vS (rws:List Rl) (vn:List Vn) (us:List Ur):[cR false rws,cO false true vn,cF false true us].map oF=[cR false rws,cO false false vn,cF false false us]:=by
 simp only[List.map_cons,List.map_nil,cR,cO,cF,oF,ST,yX,Nm]
theorem NL {fw:Int}{ys:List Yr}(hf:iM ys=true) (hy:∀y∈ys,iH y):(∀r∈(bJ fw ys),Sz 2000000 r.u∧(∀q∈r.b,Sz 2000000 q)∧r.b.length≤1073741823)∧(∀v∈(bG fw ys),Sz 2000000 v.l∧Sz 2000000 v.u∧Sz 2000000 v.x∧Sz 2000000 v.c)∧(∀u∈(aA fw ys),Sz 300 u.n)∧(bJ fw ys).length≤1000∧(bG fw ys).length≤1000∧(aA fw ys).length≤1000:=by
 by_cases h:dJ fw ys=0
 ·obtain⟨g1,_,_,h10,_⟩:=nU hf hy h
  unfold bJ bG aA
  rw[if_pos h,if_pos h,if_pos h]
  generalize aM fw.toNat ys=R at g1⊢
  have hI:=g1.run (bC _)
  have hE:=g1.e
  have hv:=lJ (R:=R) hE ys.length
  refine⟨fun r hr=>?_,fun v hv=>?_,vD g1 (bC _),by rw[lN];omega,by unfold Rg.vnE;rw[dQ];omega,nR g1 (bC _)⟩
  ·unfold Rg.rls at hr
   obtain⟨y,hy9,rfl⟩:=List.mem_map.1 hr
   rw[List.mem_range]at hy9
   unfold Rg.rl
   refine⟨(hI.sz_yIn g1 hy9).mono (by omega),fun q hq=>?_,by rw[dB,List.length_range];omega⟩
   obtain⟨e,he,rfl⟩:=List.mem_map.1 hq
   rw[List.mem_range]at he
   exact(hI.sz_eIn g1 hy9 he).mono (by omega)
  unfold Rg.vnE Rg.vns at hv
  obtain⟨p,hp,rfl⟩:=List.mem_map.1 hv
  obtain⟨p1,p2,_⟩:=fK.1 hp
  unfold Rg.vn
  exact⟨(g1.sz_los p1 p2).mono (by omega),(hI.sz_vOf g1 p1 p2).mono (by omega),(Ar g1 hI p1 p2).mono (by omega),(Ws g1 hI p1 p2).mono (by omega)⟩
 unfold bJ bG aA
 rw[if_neg h,if_neg h,if_neg h]
 simp
theorem GH {fw:Int}{ys:List Yr}(hf:iM ys=true) (hy:∀y∈ys,iH y):aE false Tryz.prog 11 [] [.one (tv (.int .i64 fw)),.one (.t (sZ false ys))] (aT (.tup [.agg [.t (lT true (bJ fw ys)),.t (lR true (bG fw ys)),.t (lS true (aA fw ys))],.one (tv (.int .i64 (dJ fw ys)))])):=by
 obtain⟨h1,h2⟩:=sN hf
 have hb:∀y∈ys,(∀a∈y.b,a.ok)∧y.l.ok∧y.b.length≤1073741823:=fun y hm=>⟨fun a ha=>oH ((hy y hm).1 a ha) ((h2 y hm).2.2.2 a ha),oH (hy y hm).2 (h2 y hm).2.2.1,by have:=(h2 y hm).2.1;omega⟩
 by_cases h:dJ fw ys=0
 ·obtain⟨g1,g2,g3,g4,_⟩:=nU hf hy h
  have h9:=NB (R:=aM fw.toNat ys) hb (by rw[show(((aM fw.toNat ys).f:Nat):Int)=fw from g3];exact h) g1 g2
  rw[show(((aM fw.toNat ys).f:Nat):Int)=fw from g3]at h9
  unfold bJ bG aA
  rw[if_pos h,if_pos h,if_pos h,h]
  exact h9
 unfold bJ bG aA
 rw[if_neg h,if_neg h,if_neg h]
 exact Xf hb h
theorem SU {a:Fr4}(h:a.len 3):a.len 1099511627776:=by
 unfold Fr4.len at h⊢
 exact⟨Nat.le_trans h.1 (by omega),Nat.le_trans h.2 (by omega)⟩
theorem GI {N:Nat}{xs:List Wv}(hN:xs.length=N) (hl:N≤1073741823) (h20:N<20):aE false Tryz.prog 145 [⟨64,18,(xs.flatMap eF).map .t⟩] [.one (.sl 0 0 N),.one (tv (.int .i64 ((N:Nat):Int))),.one (.t (.f 127 [] []))] (Rt [⟨64,18,((mA xs).flatMap eF).map .t⟩] (.tup [])):=by
 refine qS Tryz.func145 rfl Tryz.ntmps145 rfl aF rfl fun N9 M9 w9 c0 h0=>?_
 refine sq (rl (o1 ?_));refine nl (sq (rl ?_));(iterate 3 refine o1 ?_);refine nl (sq (bl ?_))
 refine lp (γ:=Nat) (fun s=>bP [(0,.one (.sl 0 0 (N))),(1,iN N),(2,.one (.t (.f 127 [] []))),(6,iN 20),(7,iN s),(8,iN (s+20))]) (fun s=>[(⟨64,18,(xs.flatMap eF).map .t⟩:Ob)].map some) (fun s=>s=0) (fun s=>N-s) 0 (rfl) (fQ h0 [0] ⟨aB rfl,rfl⟩) ?_
 rintro q hq;refine sq (sq (rl ?_));(iterate 3 refine o1 ?_);refine nl ?_;refine bF rfl (fun h1=>?_) (fun h1=>?_)
 ·exact absurd h1 (by omega)
 refine ex (sq (rl ?_));(iterate 4 refine o1 ?_);subst hq;have hDx:xs=[]++(xs++[]):=by simp
 refine cl 1 [0] (QX (P:=[]) (S:=xs) (Q:=[]) (a:=0) (b:=N) hDx rfl (by omega) hN hl) WY ⟨aB rfl,rfl⟩ ⟨rfl,rfl,rfl,rfl,rfl⟩ (ok:=[some ⟨64,18,(([]++(mA xs++[])).flatMap eF).map .t⟩]) ⟨aB rfl,rfl⟩ ?_
 refine nl (bl ?_)
 refine lp (γ:=Nat) (fun s=>bP [(0,.one (.sl 0 0 (N))),(1,iN N),(2,.one (.t (.f 127 [] []))),(6,iN 20)]) (fun s=>[(⟨64,18,(([]++(mA xs++[])).flatMap eF).map .t⟩:Ob)].map some) (fun s=>True) (fun s=>s) 0 (trivial) (fQ h0 [0] ⟨aB rfl,rfl⟩) ?_
 rintro u _h;refine sq (sq (rl ?_));(iterate 3 refine o1 ?_);refine nl ?_;refine bF rfl (fun h2=>?_) (fun h2=>?_)
 ·exact absurd h2 (by omega)
 refine ex ?_
 exact jS (lent':=[⟨64,18,((mA xs).flatMap eF).map .t⟩]) (.inr rfl) rfl Ch (by decide) (fun _ h=>by cases h) ⟨⟨rfl,rfl⟩,trivial⟩ ⟨congrArg (fun l:List Wv=>some (⟨64,18,(l.flatMap eF).map .t⟩:Ob)) (by simp),trivial⟩ ⟨dF _,trivial⟩ (fun h=>by cases h) ⟨rfl,rfl⟩
theorem GJ {N:Nat}{xs:List Wv}(hN:xs.length=N) (hl:N≤1073741823) (h20:N<20):aE false Tryz.prog 126 [⟨64,18,(xs.flatMap eF).map .t⟩] [.one (.sl 0 0 N),.one (.t (.f 127 [] []))] (Rt [⟨64,18,((mA xs).flatMap eF).map .t⟩] (.tup [])):=by
 refine qS Tryz.func126 rfl Tryz.ntmps126 rfl aF rfl fun N9 M9 w9 c0 h0=>?_
 refine rl ?_;(iterate 4 refine o1 ?_);refine cl 1 [0] (GI hN hl h20) WZ ⟨aB rfl,rfl⟩ ⟨rfl,rfl,rfl,rfl⟩ (ok:=[some ⟨64,18,((mA xs).flatMap eF).map .t⟩]) ⟨aB rfl,rfl⟩ ?_
 refine nl ?_
 exact jS (lent':=[⟨64,18,((mA xs).flatMap eF).map .t⟩]) (.inr rfl) rfl Ch (by decide) (fun _ h=>by cases h) ⟨⟨rfl,rfl⟩,trivial⟩ ⟨rfl,trivial⟩ ⟨dF _,trivial⟩ (fun h=>by cases h) ⟨rfl,rfl⟩
theorem Xh {R:Rg}{U:List Ur}{N t:Nat}{ta tb tc:Tr}(hOk:R.Ok N) (hI:R.Iv N U) (ht:t<N) (h20:R.E*N<20):aE false Tryz.prog 101 [⟨95,0,[.t ta,.t tb,.t tc,.t (eM (R.own U (R.I t) t))]⟩] [.one (.pt 0 0),.one (.t (gH (R.ms t)))] (Rt [⟨95,0,[.t ta,.t tb,.t tc,.t (eM (R.own U (R.I t) t))]⟩] (.one (.t (.s true 64 18 ((R.wt U t).map (R.wv U)).length (((R.wt U t).map (R.wv U)).flatMap eF))))):=by
 refine GK Tryz.func101 rfl Tryz.ntmps101 rfl aF rfl fun N9 M9 w9 c0 h0=>?_
 have hll:(R.own U (R.I t) t).length=R.E:=lM
 have hms:(R.ms t).length=R.E:=lH
 have hE:=hOk.e;have hN:=hOk.n
 refine sq (rl (o1 ?_));refine nl (sq (rl (o1 ?_)));refine nl (sq (sq ?_))
 refine WP.sub (oU (j:=0) (key:=1) (p:=3) (e:=96) (z:=1) (n:=(R.own U (R.I t) t).length) (trs:=(R.own U (R.I t) t).map eU) rfl rfl rfl rfl rfl) ?_;refine rl ?_
 (iterate 3 refine o1 ?_);refine ld ?_;refine o1 ?_;refine o1 ?_;refine nl (bl ?_)
 refine lp (γ:=Nat) (fun s=>bP [(0,pN 0),(1,.one (.t (gH (R.ms t)))),(5,.one (.sl 2 0 ((R.wt0 U t s).length))),(13,.one (.sl 1 0 ((R.own U (R.I t) t).length))),(14,iN ((R.own U (R.I t) t).length)),(15,iN s)]) (fun s=>[(⟨95,0,[.t ta,.t tb,.t tc,.sl 1 0 (R.own U (R.I t) t).length]⟩:Ob),⟨96,1,((R.own U (R.I t) t).map eU).map .t⟩,⟨64,18,((R.wt0 U t s).flatMap eF).map .t⟩].map some) (fun s=>s≤R.E) (fun s=>R.E-s) 0 (Nat.zero_le _) ((nr (i:=5) 2 64 18 rfl rfl rfl rfl).trans (fQ h0 [0,1,2] ⟨oe rfl rfl,aB rfl,aB rfl,rfl⟩)) ?_
 rintro e he;refine sq (rl (o1 ?_));refine nl (sq ?_);refine bF rfl (fun h1=>?_) (fun h1=>?_)
 ·refine sk (sq (bl (sq ?_)));have hwl:=vN (R:=R) (U:=U) (e:=e) (I:=R.I t)
  have hIl:=vO (R:=R) (k:=t)
  have hle9:dU (R.own U (R.I t) t) e=((R.wl U e (R.I t)),(R.lp e t).1,(R.lp e t).2):=Gt (by omega)
  have hzz:∀x∈(R.wl U e (R.I t)),Sz 68719476736 x.2:=fun x hx=>by obtain⟨i,hi,rfl,_⟩:=jV.1 hx;exact(hI.sz_left hOk (by have:=(lI.1 hi).1;omega) (by omega)).mono (by omega)
  refine WP.sub (Pc (j:=1) (key:=3) (p:=e) (e:=137) (trs:=[sR 102 (R.wl U e (R.I t)),.v (.int .i64 (R.lp e t).1),.v (.bool (R.lp e t).2)]) rfl rfl (by rw[Bc (by omega),hle9];rfl) rfl) ?_
  refine rl (o1 ?_);refine o1 ?_;refine Cj (l:=(((R.own U (R.I t) t).map eU).map AV.t).set e (.pt 3 0)) (v:=.pt 3 0) (Ez (by rw[mG];omega)) ?_
  refine o1 ?_;refine o1 ?_;refine nl (sq (rl (o1 ?_)))
  refine iS 4 (Zw (vs:=(R.wl U e (R.I t))) (rest:=[.v (.int .i64 (R.lp e t).1),.v (.bool (R.lp e t).2)]) hzz (by omega)) SV ⟨sS rfl (.pe (trs:=[sR 102 (R.wl U e (R.I t)),.v (.int .i64 (R.lp e t).1),.v (.bool (R.lp e t).2)]) rfl rfl rfl (by simp only[rdTL,oF,sR,sV,Av])),rfl⟩ ?_
  refine o1 ?_;refine o1 ?_;refine nl (bl (WP.sub (RP (i:=21) (k:=4) (n:=(R.wl U e (R.I t)).length) 102 rfl rfl rfl (bL true _) (Av true _) (.one .sl)) ?_))
  refine WP.sub (Hv (j:=1) (k:=3) (p:=e) (e:=137) (trs:=[sR 102 (R.wl U e (R.I t)),.v (.int .i64 (R.lp e t).1),.v (.bool (R.lp e t).2)]) (l':=((R.own U (R.I t) t).map eU).map .t) rfl rfl rfl (List.getElem?_set_self (by rw[mG];omega)) (Tx (x:=((R.wl U e (R.I t)),(R.lp e t).1,(R.lp e t).2)) (by omega) hle9)) ?_
  refine lp (γ:=Nat) (fun s=>bP [(0,pN 0),(1,.one (.t (gH (R.ms t)))),(5,.one (.sl 2 0 ((R.wtk U t e s).length))),(6,iN e),(13,.one (.sl 1 0 ((R.own U (R.I t) t).length))),(14,iN ((R.own U (R.I t) t).length)),(15,iN e),(21,.one (.t (sV 102 false (R.wl U e (R.I t))))),(22,iN ((R.wl U e (R.I t)).length)),(23,iN s)]) (fun s=>[(⟨95,0,[.t ta,.t tb,.t tc,.sl 1 0 (R.own U (R.I t) t).length]⟩:Ob),⟨96,1,((R.own U (R.I t) t).map eU).map .t⟩,⟨64,18,((R.wtk U t e s).flatMap eF).map .t⟩].map some) (fun s=>s≤(R.wl U e (R.I t)).length) (fun s=>(R.wl U e (R.I t)).length-s) 0 (Nat.zero_le _) (yI h0 [0,1,2] _ _ (by decide) rfl ⟨rfl,rfl,(by rw[On];rfl),rfl,rfl,rfl,rfl,rfl,rfl,rfl,trivial⟩ ⟨oe rfl rfl,aB rfl,aB (congrArg (fun l:List Wv=>some (⟨64,18,(l.flatMap eF).map .t⟩:Ob)) On.symm),rfl⟩) ?_
  rintro k hk;refine sq (rl (o1 ?_));refine nl (sq ?_);refine bF rfl (fun h2=>?_) (fun h2=>?_)
  ·refine sk (sq (bl (sq (rl (o1 ?_)))));refine dV (cZ false (aH (R.wl U e (R.I t)) (k))) (vH false (by omega)) ?_
   refine al 3 ?_;refine st ?_;refine nl (sq (rl ?_));(iterate 3 refine o1 ?_);refine dV ([.v (.bool (nM (R.ms t) (e)))]) (wV (R.ms t) (k:=e) (by omega)) ?_
   refine nl ?_;refine qR rfl (fun h3=>?_) (fun h3=>?_)
   ·have hkl:(R.wtk U t e k).length≤1000:=by
     have h1:=Hk (R:=R) (U:=U) (t:=t) (k:=e)
     have h2:e*t≤6*10:=Nat.mul_le_mul (by omega) (by omega)
     unfold Rg.wtk;rw[fE];have h3:(bif R.mem t e then((R.wl U e (R.I t)).take k).map (fun x=>(⟨x.1,e,x.2⟩:Wv))else []).length≤k:=by
      cases R.mem t e
      ·exact Nat.zero_le _
      show(((R.wl U e (R.I t)).take k).map _).length≤k
      rw[dB,eJ];omega
     omega
    refine rl (o1 ?_);refine o1 ?_;refine ld ?_;refine o1 ?_;refine o1 ?_;refine ld ?_;refine o1 ?_;refine bs 4 ?_
    refine iA (j:=5) aF rfl rfl rfl rfl (.sl rfl (by rw[dB,bE gE])) (.sl rfl rfl rfl) rfl rfl rfl (by omega) (by omega) ?_
    refine o1 ?_;refine nl (rl (o1 ?_));refine bB 40 (k+1) ?_
    refine o1 ?_;refine nl ?_
    have hX:(R.wtk U t e (k+1))=(R.wtk U t e k)++[(⟨(aH (R.wl U e (R.I t)) (k)).1,((e:Nat):Int),(aH (R.wl U e (R.I t)) (k)).2⟩:Wv)]:=MP (by have h9:=h3;rwa[nA (by omega)]at h9) (by omega)
    exact⟨k+1,by omega,by omega,yI h0 [0,1,5] _ _ (by decide) rfl ⟨rfl,rfl,(by rw[hX,fE];rfl),rfl,rfl,rfl,rfl,rfl,rfl,rfl,trivial⟩ ⟨oe rfl rfl,aB rfl,aB (by rw[hX,←FK];rfl),rfl⟩⟩
   refine sk (rl (o1 ?_));refine bB 40 (k+1) ?_
   refine o1 ?_;refine nl ?_;have hX:(R.wtk U t e (k+1))=(R.wtk U t e k):=RQ (by have h9:=h3;rwa[nA (by omega)]at h9)
   exact⟨k+1,by omega,by omega,yI h0 [0,1,2] _ _ (by decide) rfl ⟨rfl,rfl,(by rw[hX];rfl),rfl,rfl,rfl,rfl,rfl,rfl,rfl,trivial⟩ ⟨oe rfl rfl,aB rfl,aB (by rw[hX];rfl),rfl⟩⟩
  refine ex (rl (o1 ?_));refine bB 41 (e+1) ?_
  refine o1 ?_;refine nl ?_;have hfin:(R.wtk U t e k)=(R.wt0 U t (e+1)):=MQ (by omega)
  exact⟨e+1,by omega,by omega,yI h0 [0,1,2] _ _ (by decide) rfl ⟨rfl,rfl,(by rw[hfin];rfl),rfl,rfl,rfl,trivial⟩ ⟨oe rfl rfl,aB rfl,aB (congrArg (fun l:List Wv=>some (⟨64,18,(l.flatMap eF).map .t⟩:Ob)) hfin),rfl⟩⟩
 refine ex (sq (rl (o1 ?_)))
 have hwl9:(R.wt0 U t e).length≤60:=Nat.le_trans (Hk (R:=R) (U:=U) (t:=t) (k:=e)) (Nat.mul_le_mul (show e≤6 by omega) (show t≤10 by omega))
 refine cl 3 [2] (GJ (xs:=(R.wt0 U t e)) rfl (by omega) (Nat.lt_of_le_of_lt (Nat.le_trans (Hk (R:=R) (U:=U) (t:=t) (k:=e)) (Nat.mul_le_mul (show e≤R.E by omega) (Nat.le_of_lt ht))) h20)) XA ⟨aB rfl,rfl⟩ ⟨rfl,rfl,rfl⟩ (ok:=[some ⟨64,18,((mA (R.wt0 U t e)).flatMap eF).map .t⟩]) ⟨aB rfl,rfl⟩ ?_
 refine nl (sq (rl (o1 ?_)));refine o1 ?_;refine nl (rt ?_);have hee:e=R.E:=by omega
 have hso:mA (R.wt0 U t e)=((R.wt U t).map (R.wv U)):=by rw[hee];exact SW hI (by omega)
 have hln:(R.wt0 U t e).length=((R.wt U t).map (R.wv U)).length:=by rw[←hso,Hz]
 refine Pd (iJ (j:=0) (k:=1) (p:=3) (e:=96) (z:=1) (n:=(R.own U (R.I t) t).length) (trs:=(R.own U (R.I t) t).map eU) rfl rfl rfl rfl rfl (aN _ _ (by simp)) (by simp) rfl) ?_
 exact uR <| jS (lent':=[⟨95,0,[.t ta,.t tb,.t tc,.t (eM (R.own U (R.I t) t))]⟩]) (.inl rfl) rfl (bD (.one (.sl (trs:=(mA (R.wt0 U t e)).flatMap eF) rfl rfl (aN _ _ (by rw[bE gE,Hz])) (by rw[bE gE,Hz])))) (by decide) (by simp) ⟨⟨rfl,rfl⟩,trivial⟩ ⟨rfl,trivial⟩ ⟨rfl,trivial⟩ (fun h=>by cases h) ⟨rfl,by rw[hso,hln]⟩
end Go.Proofs.YtbbabfkgdnkehaaGreat
