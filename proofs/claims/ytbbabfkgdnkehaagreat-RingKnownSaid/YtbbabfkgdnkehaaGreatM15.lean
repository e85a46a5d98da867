/- Part 15 of a proof: H9 to H12. -/
import Derived.Test.YtbbabfkgdnkehaaGreatM14
import Derived.Test.YtbbabfkgdnkehaaGreatM12
import Derived.Test.YtbbabfkgdnkehaaGreatM11
set_option maxRecDepth 100000
set_option linter.unusedVariables false
set_option linter.unusedSimpArgs false
namespace Go.Proofs.YtbbabfkgdnkehaaGreat
open Go Go.RowKit
set_option maxHeartbeats 4000000 in
theorem gL {fw:Int}{ys:List Yr}(hy:∀y∈ys,iH y) (h20:dJ fw ys=0→(aG ys 0).m.length*ys.length<20):aE true Tryz.prog 6 [] [.one (tv (.int .i64 fw)),.one (.t (gT ys))] (aT (.one (tv (.bool true)))):=by
 refine bV Tryz.func6 rfl Tryz.ntmps6 rfl aF rfl fun N9 w9 c0 h0=>?_
 refine WP.sln (i:=1) rfl fun hlen=>?_
 refine sq (rl (o1 ?_));refine nl (sq (sq (rl (o1 ?_))));refine ca (Bf (ys:=ys)) KF ⟨a1 rfl,rfl⟩ (.one (tv (.bool (iM ys)))) ?_
 refine WL.splitb (t:=15) rfl (fun h1=>?_) (fun h1=>?_)
 ·refine o1 ?_;refine nl (dW rfl (sk (sq ?_)));have hf:iM ys=true:=by simpa using h1
  refine rl (o1 ?_);refine o1 ?_
  refine ca (nW (fw:=fw) (ys:=ys) hf hy h20) Ds ⟨a1 rfl,a1 rfl,rfl⟩ (.tup [.agg [.t (cR false (bJ fw ys)),.t (cO false true (bG fw ys)),.t (cF false true (aA fw ys))],.one (tv (.int .i64 (dJ fw ys)))]) ?_
  refine o1 ?_;refine o1 ?_
  refine WL.sub (Hw (i:=22) (l:=[(cR false (bJ fw ys)),(cO false true (bG fw ys)),(cF false true (aA fw ys))]) rfl rfl (vS (bJ fw ys) (bG fw ys) (aA fw ys))) ?_
  refine o1 ?_;refine al 0 ?_;refine st ?_;refine o1 ?_;refine nl (sq (sq (rl (o1 ?_))));refine o1 ?_;refine nl ?_
  refine bF rfl (fun h2=>?_) (fun h2=>?_)
  ·refine sq ?_;have hne:¬dJ fw ys=0:=h2
   have hr0:(bJ fw ys).length=0:=by unfold bJ;rw[if_neg hne];rfl
   have hv0:(bG fw ys).length=0:=by unfold bG;rw[if_neg hne];rfl
   have hu0:(aA fw ys).length=0:=by unfold aA;rw[if_neg hne];rfl
   refine rl (o1 ?_);refine ld ?_;refine o1 ?_;refine o1 ?_;refine WL.cast (t:=29) (u':=.bool true) rfl (congrArg Value.bool (decide_eq_true (by rw[hr0];rfl))) ?_
   refine o1 ?_;refine o1 ?_;refine ld ?_;refine o1 ?_;refine o1 ?_;refine WL.cast (t:=34) (u':=.bool true) rfl (congrArg Value.bool (decide_eq_true (by rw[hv0];rfl))) ?_
   (iterate 3 refine o1 ?_);refine ld ?_;refine o1 ?_;refine o1 ?_;refine WL.cast (t:=40) (u':=.bool true) rfl (congrArg Value.bool (decide_eq_true (by rw[hu0];rfl))) ?_
   refine o1 ?_;refine o1 ?_;refine ca (fX) vT rfl (.one (tv (.bool true))) ?_;refine o1 ?_;refine o1 ?_;refine nl (rt ?_);exact gO (.inl rfl) rfl (rfl)
  refine sk (sq (sq ?_));have hE:dJ fw ys=0:=by omega
  have hC:=Ug hf hy hE
  have hIv:=hC.iv
  have hrn:=hC.rn;have hul:=hC.ul;have hvl:=hC.vl;have hn10:=hC.ok.n;have hE6:=hC.ok.e
  have hfw:((fw.toNat:Nat):Int)=fw:=(nU hf hy hE).2.2.1
  have hms9:∀i,((aM fw.toNat ys).ms i).length=(aM fw.toNat ys).E:=fun _=>lH
  have hbs:∀i:Nat,fD ((aM fw.toNat ys).by9 (aA fw ys) i)=dZ (aA fw ys) i:=fun i=>QU (by rw[hC.un];exact MF)
  have hby:∀i:Nat,i<ys.length→∀q∈(aM fw.toNat ys).by9 (aA fw ys) i,Sz 1000 q:=fun i hi q hq=>by
   obtain⟨e,he,rfl⟩:=List.mem_map.1 hq
   exact(hIv.sz_eIn hC.ok hi (List.mem_range.1 he)).mono (by omega)
  refine rl (o1 ?_);refine ld ?_;(iterate 4 refine o1 ?_);refine WL.cast (t:=50) (u':=.bool false) rfl (congrArg Value.bool (decide_eq_false (fun h=>h (by rw[hrn])))) ?_
  refine nl (dW rfl (sk (sq (sq (rl (o1 ?_))))));refine nl (bl ?_)
  refine lp (γ:=Nat) (fun s=>bP [(0,.one (tv (.int .i64 fw))),(1,.one (.t (gT ys))),(5,pN 0),(7,iN s)]) (fun s=>[(⟨39,0,[.t (cR false (bJ fw ys)),.t (cO false false (bG fw ys)),.t (cF false false (aA fw ys))]⟩:Ob)].map some) (fun s=>s≤(bG fw ys).length) (fun s=>(bG fw ys).length-s) 0 (Nat.zero_le _) (aP h0 [0] ⟨oe rfl rfl,rfl⟩) ?_
  rintro i9 hi9;refine sq (sq (rl (o1 ?_)));refine o1 ?_;refine ld ?_;refine o1 ?_;refine o1 ?_;refine nl ?_;refine bF rfl (fun h3=>?_) (fun h3=>?_)
  ·refine sk (sq (bl (sq (sq ?_))));obtain⟨y,e,hv,hV⟩:=hC.vat (i:=i9) (by omega)
   have hsm:aE true Tryz.prog 24 [] [.one (.t (gT ys)),.agg ((cA false (aY (bG fw ys) (i9))).map .t)] (aT (.one (tv (.bool true)))):=by rw[hV];exact GS hC hv
   obtain⟨hyn,heE,_⟩:=Nn hv
   refine rl (o1 ?_);refine o1 ?_;refine ld ?_;refine o1 ?_;refine o1 ?_
   refine dV ((cA false) (aY (bG fw ys) (i9))) (aI (f:=(cA false)) (z:=18) (o:=0) (cK false) (hH (by omega)) (bM rfl) rfl) ?_
   refine ca (hsm) aAc ⟨a1 rfl,aC rfl,rfl⟩ (.one (tv (.bool true))) ?_;refine o1 ?_;refine nl (dW rfl (sk (sq (rl ?_))))
   refine ca (eW (z:=0) (by omega) (by omega)) kR ⟨a1 rfl,rfl⟩ (qF (.of ((0:Int):Rat))) ?_
   refine al 1 ?_;refine st ?_;refine nl (sq (sq (rl (o1 ?_))));refine nl (bl ?_)
   have h00:((0:Int):Rat)=(cU ((aA fw ys).take 0) (aY (bG fw ys) (i9)).y (aY (bG fw ys) (i9)).e):=rfl
   refine lp (γ:=Nat) (fun s=>bP [(0,.one (tv (.int .i64 fw))),(1,.one (.t (gT ys))),(5,pN 0),(7,iN i9),(8,pN 1),(9,iN s)]) (fun s=>[(⟨39,0,[.t (cR false (bJ fw ys)),.t (cO false false (bG fw ys)),.t (cF false false (aA fw ys))]⟩:Ob),⟨48,0,((Fr4.of (cU ((aA fw ys).take s) (aY (bG fw ys) (i9)).y (aY (bG fw ys) (i9)).e)).tr false).map .t⟩].map some) (fun s=>s≤(aA fw ys).length) (fun s=>(aA fw ys).length-s) 0 (Nat.zero_le _) (aP h0 [0,1] ⟨oe rfl rfl,aB (congrArg (fun q:Rat=>some (⟨48,0,((Fr4.of q).tr false).map .t⟩:Ob)) h00),rfl⟩) ?_
   rintro k9 hk9;refine sq (sq (rl (o1 ?_)));refine o1 ?_;refine ld ?_;refine o1 ?_;refine o1 ?_;refine nl ?_;refine bF rfl (fun h4=>?_) (fun h4=>?_)
   ·refine sk (sq (bl (sq ?_)));refine cI [0,1] [] ?_
    refine dv 0 ?_;refine aK 1 ?_;refine dv 2 ?_;refine dv 3 ?_;refine dv 4 ?_
    refine dD 5 ([.v (.int .i64 (bN (aA fw ys) (k9)).v)]) (aI (f:=(dK false)) (z:=7) (o:=0) (dA false) (dG (by omega)) (bM rfl) rfl) ?_
    refine dv 6 ?_;refine aK 7 ?_;refine dv 8 ?_;refine dv 9 ?_;refine dv 10 ?_
    refine dD 11 ([.v (.int .i64 (aY (bG fw ys) (i9)).y)]) (aI (f:=(cA false)) (z:=18) (o:=0) (cK false) (hH (by omega)) (bM rfl) rfl) ?_
    refine dv 12 ?_;refine dv 13 ?_;refine WD.split (t:=87) rfl rfl (fun h5=>?_) (fun h5=>?_)
    ·refine dv 14 ?_;refine aK 15 ?_;refine dv 16 ?_;refine dv 17 ?_;refine dv 18 ?_
     refine dD 19 ([.v (.int .i64 (bN (aA fw ys) (k9)).e)]) (aI (f:=(dK false)) (z:=7) (o:=1) (dA false) (dG (by omega)) (bM rfl) rfl) ?_
     refine dv 20 ?_;refine aK 21 ?_;refine dv 22 ?_;refine dv 23 ?_;refine dv 24 ?_
     refine dD 25 ([.v (.int .i64 (aY (bG fw ys) (i9)).e)]) (aI (f:=(cA false)) (z:=18) (o:=1) (cK false) (hH (by omega)) (bM rfl) rfl) ?_
     refine dv 26 ?_;refine dv 27 ?_;refine aW ?_;refine bF rfl (fun h6=>?_) (fun h6=>?_)
     ·refine cI [0,1] [8] ?_
      refine aK 0 ?_;refine dv 1 ?_;refine aK 2 ?_;refine dv 3 ?_;refine dv 4 ?_;refine dv 5 ?_
      refine dD 6 ((Fr4.of (bN (aA fw ys) (k9)).n).tr false) (aI (f:=(dK false)) (z:=7) (o:=3) (dA false) (dG (by omega)) (bM rfl) rfl) ?_
      refine aS 7 rfl (xB (Qn.of (p:=(cU ((aA fw ys).take k9) (aY (bG fw ys) (i9)).y (aY (bG fw ys) (i9)).e)) ((pT (k:=k9) (B:=300) (M:=400000) hC.usz (by have:=hC.ul;omega)).mono (M:=68719476736) (by omega))) (Qn.of (p:=(bN (aA fw ys) (k9)).n) ((hC.usz _ (eA (by omega))).mono (M:=68719476736) (by omega)))) Dj ⟨aC rfl,aC rfl,rfl⟩ (qF (.of ((cU ((aA fw ys).take k9) (aY (bG fw ys) (i9)).y (aY (bG fw ys) (i9)).e)+(bN (aA fw ys) (k9)).n))) ?_
      refine dst 8 ?_;refine aW ?_;refine rl (o1 ?_);refine o1 ?_;refine bB 73 (k9+1) ?_
      refine o1 ?_;refine nl ?_
      have hst:((cU ((aA fw ys).take k9) (aY (bG fw ys) (i9)).y (aY (bG fw ys) (i9)).e)+(bN (aA fw ys) (k9)).n)=(cU ((aA fw ys).take (k9+1)) (aY (bG fw ys) (i9)).y (aY (bG fw ys) (i9)).e):=by rw[Xi (by omega)];exact(if_pos ⟨h5,h6⟩).symm
      exact⟨k9+1,by omega,by omega,aP h0 [0,1] ⟨oe rfl rfl,aB (congrArg (fun q:Rat=>some (⟨48,0,((Fr4.of q).tr false).map .t⟩:Ob)) hst),rfl⟩⟩
     refine sk (rl (o1 ?_));refine o1 ?_;refine bB 73 (k9+1) ?_
     refine o1 ?_;refine nl ?_
     have hst:(cU ((aA fw ys).take k9) (aY (bG fw ys) (i9)).y (aY (bG fw ys) (i9)).e)=(cU ((aA fw ys).take (k9+1)) (aY (bG fw ys) (i9)).y (aY (bG fw ys) (i9)).e):=by rw[Xi (by omega)];exact(if_neg (fun h=>h6 h.2)).symm
     exact⟨k9+1,by omega,by omega,aP h0 [0,1] ⟨oe rfl rfl,aB (congrArg (fun q:Rat=>some (⟨48,0,((Fr4.of q).tr false).map .t⟩:Ob)) hst),rfl⟩⟩
    refine aZ 14 ?_;refine aZ 15 ?_;refine aZ 16 ?_;refine aZ 17 ?_;refine aZ 18 ?_;refine aZ 19 ?_;refine aZ 20 ?_;refine aZ 21 ?_;refine aZ 22 ?_;refine aZ 23 ?_
    refine aZ 24 ?_;refine aZ 25 ?_;refine aZ 26 ?_;refine dv 27 ?_;refine aW ?_;refine dW rfl (sk (rl (o1 ?_)));refine o1 ?_
    refine bB 73 (k9+1) ?_
    refine o1 ?_;refine nl ?_
    have hst:(cU ((aA fw ys).take k9) (aY (bG fw ys) (i9)).y (aY (bG fw ys) (i9)).e)=(cU ((aA fw ys).take (k9+1)) (aY (bG fw ys) (i9)).y (aY (bG fw ys) (i9)).e):=by rw[Xi (by omega)];exact(if_neg (fun h=>h5 h.1)).symm
    exact⟨k9+1,by omega,by omega,aP h0 [0,1] ⟨oe rfl rfl,aB (congrArg (fun q:Rat=>some (⟨48,0,((Fr4.of q).tr false).map .t⟩:Ob)) hst),rfl⟩⟩
   refine ex (sq ?_)
   have huv:(cU ((aA fw ys).take k9) (aY (bG fw ys) (i9)).y (aY (bG fw ys) (i9)).e)=(aY (bG fw ys) (i9)).u:=by rw[fF (by omega),hV];rfl
   refine cI [0,1] [] ?_
   refine aK 0 ?_;refine dv 1 ?_;refine aK 2 ?_;refine dv 3 ?_;refine dv 4 ?_;refine dv 5 ?_
   refine dD 6 ((Fr4.of (aY (bG fw ys) (i9)).u).tr false) (aI (f:=(cA false)) (z:=18) (o:=6) (cK false) (hH (by omega)) (bM rfl) rfl) ?_
   refine aS 7 rfl (jX (p:=(cU ((aA fw ys).take k9) (aY (bG fw ys) (i9)).y (aY (bG fw ys) (i9)).e)) (q:=(aY (bG fw ys) (i9)).u) ((pT (k:=k9) (B:=300) (M:=400000) hC.usz (by have:=hC.ul;omega)).mono (M:=68719476736) (by omega)) (by rw[hV];exact(hIv.sz_vOf hC.ok hyn heE).mono (M:=68719476736) (by omega)) huv) kI ⟨aC rfl,aC rfl,rfl⟩ (.one (tv (.int .i64 0))) ?_
   refine df 8 ?_;refine WD.cast (t:=118) (u':=.bool false) rfl (congrArg Value.bool rfl) ?_;refine aW ?_;refine dW rfl (sk (rl (o1 ?_)));refine o1 ?_
   refine bB 57 (i9+1) ?_
   refine o1 ?_;refine nl ?_;exact⟨i9+1,by omega,by omega,aP h0 [0] ⟨oe rfl rfl,rfl⟩⟩
  refine ex (sq (sq (rl (o1 ?_))));refine nl (bl ?_)
  refine lp (γ:=Nat) (fun s=>bP [(0,.one (tv (.int .i64 fw))),(1,.one (.t (gT ys))),(5,pN 0),(10,iN s)]) (fun s=>[(⟨39,0,[.t (cR false (bJ fw ys)),.t (cO false false (bG fw ys)),.t (cF false false (aA fw ys))]⟩:Ob)].map some) (fun s=>s≤(aA fw ys).length) (fun s=>(aA fw ys).length-s) 0 (Nat.zero_le _) (aP h0 [0] ⟨oe rfl rfl,rfl⟩) ?_
  rintro k7 hk7;refine sq (sq (rl (o1 ?_)));refine o1 ?_;refine ld ?_;refine o1 ?_;refine o1 ?_;refine nl ?_;refine bF rfl (fun h7=>?_) (fun h7=>?_)
  ·refine sk (sq (bl (sq ?_)));obtain⟨v7,e7,t7,hu9,hvt,htn,htf,heE7,hmt,hpos,hsz7⟩:=hC.uat (i:=k7) (by omega)
   have hmsl:=hms9 t7
   have htf9:t7≤v7+fw.toNat:=htf
   refine rl (o1 ?_);refine ld ?_;refine o1 ?_;refine o1 ?_
   refine dV ((.v (.int .i64 ((v7:Nat):Int))::.v (.int .i64 ((e7:Nat):Int))::.v (.int .i64 ((t7:Nat):Int))::(Fr4.of (bN (aA fw ys) (k7)).n).tr false)) ((by rw[show((.v (.int .i64 ((v7:Nat):Int))::.v (.int .i64 ((e7:Nat):Int))::.v (.int .i64 ((t7:Nat):Int))::(Fr4.of (bN (aA fw ys) (k7)).n).tr false):List Tr)=dK false (bN (aA fw ys) (k7)) from by rw[hu9];rfl];exact(aI (f:=(dK false)) (z:=7) (o:=0) (dA false) (dG (by omega)) (bM rfl) rfl))) ?_
   refine al 1 ?_;refine st ?_;refine nl (sq ?_);refine cI [0,1] [] ?_
   refine dv 0 ?_;refine aK 1 ?_;refine dv 2 ?_;refine dv 3 ?_;refine WD.split (t:=134) rfl rfl (fun h8=>?_) (fun h8=>?_)
   ·exact absurd h8 (by first | omega | exact nX hpos)
   refine dv 4 ?_;refine aK 5 ?_;refine dv 6 ?_;refine dv 7 ?_;refine dv 8 ?_;refine dv 9 ?_;refine dv 10 ?_;refine WD.split (t:=141) rfl rfl (fun h9=>?_) (fun h9=>?_)
   ·exact absurd h9 (by first | omega | exact nX hpos)
   refine dv 11 ?_;refine aK 12 ?_;refine dv 13 ?_;refine aK 14 ?_;refine dv 15 ?_;refine dv 16 ?_;refine dv 17 ?_;refine WD.split (t:=148) rfl rfl (fun h10=>?_) (fun h10=>?_)
   ·exact absurd h10 (by first | omega | exact nX hpos)
   refine dv 18 ?_;refine aK 19 ?_;refine dv 20 ?_;refine aK 21 ?_;refine dv 22 ?_;refine vE 153 (t7-v7) ?_
   refine dv 23 ?_;refine dv 24 ?_;refine dv 25 ?_;refine dv 26 ?_;refine WD.split (t:=157) rfl rfl (fun h11=>?_) (fun h11=>?_)
   ·exact absurd h11 (by first | omega | exact nX hpos)
   refine dv 27 ?_;refine aK 28 ?_;refine dv 29 ?_;refine dv 30 ?_;refine dv 31 ?_;refine WD.split (t:=162) rfl rfl (fun h12=>?_) (fun h12=>?_)
   ·exact absurd h12 (by first | omega | exact nX hpos)
   refine dv 32 ?_;refine aK 33 ?_;refine dv 34 ?_;refine dv 35 ?_;refine aK 36 ?_;refine dv 37 ?_;refine dv 38 ?_
   refine dD 39 ([gH ((aM fw.toNat ys).ms (t7))]) ((by rw[←hC.m (t7) (by omega)];exact(aI (f:=yrt) (z:=6) (o:=0) cL (bR (by omega)) (bM rfl) rfl))) ?_
   refine dv 40 ?_;refine WD.cast (t:=171) (u':=.int .i64 (((aM fw.toNat ys).E:Nat):Int)) rfl (dO (by rw[lH])) ?_
   refine dv 41 ?_;refine dv 42 ?_;refine dv 43 ?_;refine WD.split (t:=174) rfl rfl (fun h13=>?_) (fun h13=>?_)
   ·exact absurd h13 (by first | omega | exact nX hpos)
   refine dv 44 ?_;refine dv 45 ?_;refine aK 46 ?_;refine dv 47 ?_;refine dv 48 ?_
   refine dD 49 ([gH ((aM fw.toNat ys).ms (t7))]) ((by rw[←hC.m (t7) (by omega)];exact(aI (f:=yrt) (z:=6) (o:=0) cL (bR (by omega)) (bM rfl) rfl))) ?_
   refine dv 50 ?_;refine aK 51 ?_;refine dv 52 ?_
   refine dD 53 ([.v (.bool ((aM fw.toNat ys).mem (t7) (e7)))]) ((by rw[←nA (R:=(aM fw.toNat ys)) (t:=(t7)) (e:=e7) (by omega)];exact wV ((aM fw.toNat ys).ms (t7)) (k:=e7) (by rw[lH];omega))) ?_
   refine WD.cast (t:=184) (u':=.bool true) rfl (congrArg Value.bool hmt) ?_;refine dv 54 ?_;refine dv 55 ?_;refine dv 56 ?_;refine dv 57 ?_;refine aK 58 ?_
   refine aS 59 rfl (iZ (Qn.of (p:=(bN (aA fw ys) (k7)).n) ((hC.usz _ (eA (by omega))).mono (M:=68719476736) (by omega)))) mU ⟨aC rfl,rfl⟩ (.one (tv (.int .i64 (bN (aA fw ys) (k7)).n.num.sign))) ?_
   refine df 60 ?_;refine df 61 ?_;refine aW ?_;refine bF rfl (fun h14=>?_) (fun h14=>?_)
   ·exact absurd h14 (by first | omega | exact nX hpos)
   refine sk (rl (o1 ?_));refine o1 ?_;refine bB 125 (k7+1) ?_
   refine o1 ?_;refine nl ?_;exact⟨k7+1,by omega,by omega,aP h0 [0] ⟨oe rfl rfl,rfl⟩⟩
  refine ex (sq (sq (rl (o1 ?_))));refine nl (bl ?_)
  refine lp (γ:=Nat) (fun s=>bP [(1,.one (.t (gT ys))),(5,pN 0),(12,iN s)]) (fun s=>[(⟨39,0,[.t (cR false (bJ fw ys)),.t (cO false false (bG fw ys)),.t (cF false false (aA fw ys))]⟩:Ob)].map some) (fun s=>s≤ys.length) (fun s=>ys.length-s) 0 (Nat.zero_le _) (aP h0 [0] ⟨oe rfl rfl,rfl⟩) ?_
  rintro i6 hi6;refine sq (sq (rl ?_));(iterate 4 refine o1 ?_);refine nl ?_;refine bF rfl (fun h15=>?_) (fun h15=>?_)
  ·refine sk (sq (bl (sq (sq ?_))));refine cI [0] [] ?_
   refine dv 0 ?_;refine aK 1 ?_;refine dv 2 ?_;refine dv 3 ?_;refine dv 4 ?_
   refine dD 5 ((Fr4.of (dZ (aA fw ys) (i6))).tr false) ((by rw[show dZ (aA fw ys) ((i6:Nat):Int)=(fN (bJ fw ys) (i6)).u from by rw[hC.rat (i:=i6) (by omega)];rfl];exact(aI (f:=rlt) (z:=5) (o:=0) eO (fV (by omega)) (bM rfl) rfl))) ?_
   refine dv 6 ?_;refine dv 7 ?_;refine dv 8 ?_;refine dv 9 ?_
   refine dD 10 ((Fr4.of ((aM fw.toNat ys).lim (i6))).tr false) ((by rw[←hC.l (i6) (by omega)];exact(aI (f:=yrt) (z:=6) (o:=2) cL (bR (by omega)) (bM rfl) rfl))) ?_
   refine aS 11 rfl (qL (Qn.of (p:=(dZ (aA fw ys) (i6))) ((hIv.sz_yIn hC.ok (by omega)).mono (M:=68719476736) (by omega))) (Qn.of (p:=((aM fw.toNat ys).lim (i6))) ((hC.ok.lim _ (by omega)).mono (M:=68719476736) (by omega)))) kI ⟨aC rfl,aC rfl,rfl⟩ (.one (tv (.int .i64 ((dZ (aA fw ys) (i6))-((aM fw.toNat ys).lim (i6))).num.sign))) ?_
   refine df 12 ?_;refine df 13 ?_;refine WD.split (t:=212) rfl rfl (fun h16=>?_) (fun h16=>?_)
   ·exact absurd h16 (by first | omega | exact vU (hIv.y i6 (by omega)).1.2)
   refine dv 14 ?_;refine aK 15 ?_;refine dv 16 ?_;refine dv 17 ?_;refine dv 18 ?_
   refine dD 19 ([sQ false (((aM fw.toNat ys).by9 (aA fw ys) (i6)).map Fr4.of)]) ((by rw[show(aM fw.toNat ys).by9 (aA fw ys) (i6)=(fN (bJ fw ys) (i6)).b from by rw[hC.rat (i:=i6) (by omega)];rfl];exact(aI (f:=rlt) (z:=5) (o:=4) eO (fV (by omega)) (bM rfl) rfl))) ?_
   refine dv 20 ?_;refine WD.cast (t:=219) (u':=.int .i64 (((aM fw.toNat ys).E:Nat):Int)) rfl (dO (by rw[dB,jE])) ?_
   refine dv 21 ?_;refine dv 22 ?_;refine dv 23 ?_;refine dv 24 ?_
   refine dD 25 ([sQ false (((aM fw.toNat ys).bs (i6)).map Fr4.of)]) ((by rw[←hC.b (i6) (by omega)];exact(aI (f:=yrt) (z:=6) (o:=1) cL (bR (by omega)) (bM rfl) rfl))) ?_
   refine dv 26 ?_;refine WD.cast (t:=225) (u':=.int .i64 (((aM fw.toNat ys).E:Nat):Int)) rfl (dO (by rw[dB,iB])) ?_
   refine dv 27 ?_;refine df 28 ?_;refine df 29 ?_;refine WD.split (t:=228) rfl rfl (fun h17=>?_) (fun h17=>?_)
   ·exact absurd h17 (by first | omega | exact vU (hIv.y i6 (by omega)).1.2)
   refine dv 30 ?_;refine aK 31 ?_;refine dv 32 ?_;refine dv 33 ?_;refine dv 34 ?_
   refine dD 35 ([sQ false (((aM fw.toNat ys).by9 (aA fw ys) (i6)).map Fr4.of)]) ((by rw[show(aM fw.toNat ys).by9 (aA fw ys) (i6)=(fN (bJ fw ys) (i6)).b from by rw[hC.rat (i:=i6) (by omega)];rfl];exact(aI (f:=rlt) (z:=5) (o:=4) eO (fV (by omega)) (bM rfl) rfl))) ?_
   refine dv 37 ?_;refine aK 38 ?_;refine dv 39 ?_;refine dv 40 ?_;refine dv 41 ?_
   refine dD 42 ((Fr4.of (dZ (aA fw ys) (i6))).tr false) ((by rw[show dZ (aA fw ys) ((i6:Nat):Int)=(fN (bJ fw ys) (i6)).u from by rw[hC.rat (i:=i6) (by omega)];rfl];exact(aI (f:=rlt) (z:=5) (o:=0) eO (fV (by omega)) (bM rfl) rfl))) ?_
   refine aS 36 rfl (AX (qs:=(aM fw.toNat ys).by9 (aA fw ys) (i6)) (hby i6 (by omega)) (by rw[jE];omega)) TB ⟨a1 rfl,rfl⟩ (qF (.of (fD ((aM fw.toNat ys).by9 (aA fw ys) (i6))))) ?_
   refine aS 43 rfl (jX (p:=(fD ((aM fw.toNat ys).by9 (aA fw ys) (i6)))) (q:=(dZ (aA fw ys) (i6))) (by rw[hbs i6];exact((hIv.sz_yIn hC.ok (by omega)).mono (M:=68719476736) (by omega))) ((hIv.sz_yIn hC.ok (by omega)).mono (M:=68719476736) (by omega)) (hbs i6)) kI ⟨aC rfl,aC rfl,rfl⟩ (.one (tv (.int .i64 0))) ?_
   refine df 44 ?_;refine WD.cast (t:=243) (u':=.bool false) rfl (congrArg Value.bool rfl) ?_;refine df 45 ?_;refine aW ?_;refine dW rfl (sk (sq ?_))
   refine rl (o1 ?_);refine nl (bl ?_)
   refine lp (γ:=Nat) (fun s=>bP [(1,.one (.t (gT ys))),(5,pN 0),(12,iN i6),(13,iN s)]) (fun s=>[(⟨39,0,[.t (cR false (bJ fw ys)),.t (cO false false (bG fw ys)),.t (cF false false (aA fw ys))]⟩:Ob)].map some) (fun s=>s≤(aM fw.toNat ys).E) (fun s=>(aM fw.toNat ys).E-s) 0 (Nat.zero_le _) (aP h0 [0] ⟨oe rfl rfl,rfl⟩) ?_
   rintro i5 hi5;refine sq (sq (rl ?_));(iterate 5 refine o1 ?_)
   refine dV ([sQ false (((aM fw.toNat ys).bs (i6)).map Fr4.of)]) ((by rw[←hC.b (i6) (by omega)];exact(aI (f:=yrt) (z:=6) (o:=1) cL (bR (by omega)) (bM rfl) rfl))) ?_
   refine o1 ?_;refine WL.cast (t:=251) (u':=.int .i64 (((aM fw.toNat ys).E:Nat):Int)) rfl (dO (by rw[dB,iB])) ?_
   refine o1 ?_;refine nl ?_;refine bF rfl (fun h18=>?_) (fun h18=>?_)
   ·refine sk (sq (bl (sq ?_)))
    have hb9l:(((aM fw.toNat ys).by9 (aA fw ys) (i6)).map Fr4.of).length=(aM fw.toNat ys).E:=by rw[dB,jE]
    have hb8l:(((aM fw.toNat ys).bs (i6)).map Fr4.of).length=(aM fw.toNat ys).E:=by rw[dB,iB]
    refine cI [0] [] ?_
    refine dv 0 ?_;refine aK 1 ?_;refine dv 2 ?_;refine dv 3 ?_;refine dv 4 ?_
    refine dD 5 ([sQ false (((aM fw.toNat ys).by9 (aA fw ys) (i6)).map Fr4.of)]) ((by rw[show(aM fw.toNat ys).by9 (aA fw ys) (i6)=(fN (bJ fw ys) (i6)).b from by rw[hC.rat (i:=i6) (by omega)];rfl];exact(aI (f:=rlt) (z:=5) (o:=4) eO (fV (by omega)) (bM rfl) rfl))) ?_
    refine dv 6 ?_;refine dv 7 ?_
    refine dD 8 ((Fr4.of (dT (aA fw ys) (i6) (i5))).tr false) ((by rw[←GR (aM fw.toNat ys) (U:=(aA fw ys)) (t:=(i6)) (e:=i5) (by omega)];exact fL (((aM fw.toNat ys).by9 (aA fw ys) (i6)).map Fr4.of) (k:=i5) (by rw[dB,jE];omega))) ?_
    refine aS 9 rfl (iZ (Qn.of (p:=(dT (aA fw ys) (i6) (i5))) ((hIv.sz_eIn hC.ok (by omega) (by omega)).mono (M:=68719476736) (by omega)))) mU ⟨aC rfl,rfl⟩ (.one (tv (.int .i64 (dT (aA fw ys) (i6) (i5)).num.sign))) ?_
    refine df 10 ?_;refine df 11 ?_;refine WD.split (t:=266) rfl rfl (fun h19=>?_) (fun h19=>?_)
    ·exact absurd h19 (by first | exact Ib (hIv.b i6 i5 (by omega) (by omega)).1.1 | exact vU (by rw[hC.un];exact Ep))
    refine dv 12 ?_;refine aK 13 ?_;refine dv 14 ?_;refine dv 15 ?_;refine dv 16 ?_
    refine dD 17 ([sQ false (((aM fw.toNat ys).by9 (aA fw ys) (i6)).map Fr4.of)]) ((by rw[show(aM fw.toNat ys).by9 (aA fw ys) (i6)=(fN (bJ fw ys) (i6)).b from by rw[hC.rat (i:=i6) (by omega)];rfl];exact(aI (f:=rlt) (z:=5) (o:=4) eO (fV (by omega)) (bM rfl) rfl))) ?_
    refine dv 18 ?_;refine dv 19 ?_
    refine dD 20 ((Fr4.of (dT (aA fw ys) (i6) (i5))).tr false) ((by rw[←GR (aM fw.toNat ys) (U:=(aA fw ys)) (t:=(i6)) (e:=i5) (by omega)];exact fL (((aM fw.toNat ys).by9 (aA fw ys) (i6)).map Fr4.of) (k:=i5) (by rw[dB,jE];omega))) ?_
    refine dv 22 ?_;refine dv 23 ?_;refine dv 24 ?_;refine dv 25 ?_
    refine dD 26 ([sQ false (((aM fw.toNat ys).bs (i6)).map Fr4.of)]) ((by rw[←hC.b (i6) (by omega)];exact(aI (f:=yrt) (z:=6) (o:=1) cL (bR (by omega)) (bM rfl) rfl))) ?_
    refine dv 27 ?_;refine dv 28 ?_
    refine dD 29 ((Fr4.of ((aM fw.toNat ys).base (i6) (i5))).tr false) ((by rw[←GQ (aM fw.toNat ys) (t:=(i6)) (e:=i5) (by omega)];exact fL (((aM fw.toNat ys).bs (i6)).map Fr4.of) (k:=i5) (by rw[dB,iB];omega))) ?_
    refine eR 21 30 ?_ ?_
    ·refine fB 21 rfl (eW (z:=0) (by omega) (by omega)) kR ⟨a1 rfl,rfl⟩ (qF (.of ((0:Int):Rat))) ?_
     refine iG (key:=1) 30 (by kernel_rfl) rfl rfl aF rfl ⟨rfl,trivial⟩ ?_
     refine qU (i:=285) (k:=1) (t:=48) (t':=52) (z:=4) (n:=1) (l:=([Fr4.of ((aM fw.toNat ys).base (i6) (i5))]).flatMap (Fr4.tr false)) rfl rfl rfl rfl (.one .sl) (by rfl) (by rfl) ?_
     refine aS 31 rfl (Bj (q:=((aM fw.toNat ys).base (i6) (i5))) ((hC.ok.base _ _ (by omega) (by omega)).mono (M:=68719476736) (by omega))) Xj ⟨aC rfl,a1 rfl,rfl⟩ (qF (.of (dY 0 [((aM fw.toNat ys).base (i6) (i5))]))) ?_
     refine aS 32 rfl (qL (Qn.of (p:=(dT (aA fw ys) (i6) (i5))) ((hIv.sz_eIn hC.ok (by omega) (by omega)).mono (M:=68719476736) (by omega))) (Qn.of (p:=(dY 0 [((aM fw.toNat ys).base (i6) (i5))])) (uE ((hC.ok.base _ _ (by omega) (by omega)).mono (M:=68719476736) (by omega)) (by omega)))) kI ⟨aC rfl,aC rfl,rfl⟩ (.one (tv (.int .i64 ((dT (aA fw ys) (i6) (i5))-(dY 0 [((aM fw.toNat ys).base (i6) (i5))])).num.sign))) ?_
     refine df 33 ?_;refine df 34 ?_;refine aW ?_;refine bF rfl (fun h20=>?_) (fun h20=>?_)
     ·exact absurd h20 (by first | exact Ib (hIv.b i6 i5 (by omega) (by omega)).1.1 | exact vU (by rw[hC.un];exact Ep))
     refine sk (rl (o1 ?_));refine o1 ?_;refine bB 254 (i5+1) ?_
     refine o1 ?_;refine nl ?_;exact⟨i5+1,by omega,by omega,aP h0 [0] ⟨oe rfl rfl,rfl⟩⟩
    refine Hc (key:=1) 30 rfl rfl ⟨rfl,trivial⟩ ?_
    refine qU (i:=285) (k:=1) (t:=48) (t':=52) (z:=4) (n:=1) (l:=([Fr4.of ((aM fw.toNat ys).base (i6) (i5))]).flatMap (Fr4.tr false)) rfl rfl rfl rfl (.one .sl) (by rfl) (by rfl) ?_
    refine aS 21 rfl (eW (z:=0) (by omega) (by omega)) kR ⟨a1 rfl,rfl⟩ (qF (.of ((0:Int):Rat))) ?_
    refine aS 31 rfl (Bj (q:=((aM fw.toNat ys).base (i6) (i5))) ((hC.ok.base _ _ (by omega) (by omega)).mono (M:=68719476736) (by omega))) Xj ⟨aC rfl,a1 rfl,rfl⟩ (qF (.of (dY 0 [((aM fw.toNat ys).base (i6) (i5))]))) ?_
    refine aS 32 rfl (qL (Qn.of (p:=(dT (aA fw ys) (i6) (i5))) ((hIv.sz_eIn hC.ok (by omega) (by omega)).mono (M:=68719476736) (by omega))) (Qn.of (p:=(dY 0 [((aM fw.toNat ys).base (i6) (i5))])) (uE ((hC.ok.base _ _ (by omega) (by omega)).mono (M:=68719476736) (by omega)) (by omega)))) kI ⟨aC rfl,aC rfl,rfl⟩ (.one (tv (.int .i64 ((dT (aA fw ys) (i6) (i5))-(dY 0 [((aM fw.toNat ys).base (i6) (i5))])).num.sign))) ?_
    refine df 33 ?_;refine df 34 ?_;refine aW ?_;refine bF rfl (fun h21=>?_) (fun h21=>?_)
    ·exact absurd h21 (by first | exact Ib (hIv.b i6 i5 (by omega) (by omega)).1.1 | exact vU (by rw[hC.un];exact Ep))
    refine sk (rl (o1 ?_));refine o1 ?_;refine bB 254 (i5+1) ?_
    refine o1 ?_;refine nl ?_;exact⟨i5+1,by omega,by omega,aP h0 [0] ⟨oe rfl rfl,rfl⟩⟩
   refine ex (rl (o1 ?_));refine o1 ?_;refine bB 198 (i6+1) ?_
   refine o1 ?_;refine nl ?_;exact⟨i6+1,by omega,by omega,aP h0 [0] ⟨oe rfl rfl,rfl⟩⟩
  refine ex (sq (rl (ca (fX) vT rfl (.one (tv (.bool true))) ?_)));refine o1 ?_;refine nl (rt ?_);exact gO (.inl rfl) rfl (rfl)
 refine o1 ?_;refine nl (iC rfl (sq (rl (ca (fX) vT rfl (.one (tv (.bool true))) ?_))));refine o1 ?_;refine nl (rt ?_)
 exact gO (.inl rfl) rfl (rfl)
theorem Me {us:List Ur}{k:Nat}{l:Rat}{y e t:Int}(h:k<us.length):iE (us.take (k+1)) l y e t=if(bN us k).v=y∧(bN us k).e=e∧(bN us k).y≤t then iE (us.take k) l y e t-(bN us k).n else iE (us.take k) l y e t:=by
 unfold iE
 rw[Hq h,qA]
 by_cases h9:(bN us k).v=y∧(bN us k).e=e∧(bN us k).y≤t
 ·rw[if_pos h9,if_pos (by simp only[Bool.and_eq_true,decide_eq_true_eq];exact h9)]
  grind
 rw[if_neg h9,if_neg (by simp only[Bool.and_eq_true,decide_eq_true_eq];exact h9)]
theorem AY {us:List Ur}{k:Nat}{l:Rat}{y e t:Int}(hl:Sz 300 l) (hu:∀u∈us,Sz 300 u.n) (hn:us.length≤1000):Sz 1000000 (iE (us.take k) l y e t):=by
 unfold iE
 exact(kD hl (pT (B:=300) (M:=400000) hu (by omega))).mono (by omega)
theorem Fg {p q:Rat}:(p-q).num.sign=0↔p=q:=by
 rw[Int.sign_eq_zero_iff_zero,Rat.num_eq_zero]
 constructor <;> intro h <;> grind
theorem AZ {R:Rg}{U us:List Ur}{rw9:List Rl}{vs:List Vn}{ys:List Yr}{y e:Nat}{t9:Int}(hlz:Sz 300 (R.los y e)) (hu:∀u∈us,Sz 300 u.n) (hl:us.length≤1000):aE false Tryz.prog 21 [] [.agg [.t (cR false rw9),.t (cO false false vs),.t (cF false false us)],.agg [tv (.int .i64 ((y:Nat):Int)),tv (.int .i64 ((e:Nat):Int)),tv (.bool (aL (R.los y e).num)),.t (sU false (dg 4294967296 (R.los y e).num.natAbs)),tv (.bool false),.t (sU false (dg 4294967296 (R.los y e).den)),tv (.bool (aL (cU U y e).num)),.t (sU false (dg 4294967296 (cU U y e).num.natAbs)),tv (.bool false),.t (sU false (dg 4294967296 (cU U y e).den)),tv (.bool (aL (R.ex U ys.length y e).num)),.t (sU false (dg 4294967296 (R.ex U ys.length y e).num.natAbs)),tv (.bool false),.t (sU false (dg 4294967296 (R.ex U ys.length y e).den)),tv (.bool (aL (R.cl U ys.length y e).num)),.t (sU false (dg 4294967296 (R.cl U ys.length y e).num.natAbs)),tv (.bool false),.t (sU false (dg 4294967296 (R.cl U ys.length y e).den))],.one (tv (.int .i64 t9))] (aT (qF (.of (iE us (R.los y e) y e t9)))):=by
 refine bV Tryz.func21 rfl Tryz.ntmps21 rfl aF rfl fun N9 w9 c0 h0=>?_
 refine sq (rl (bx 0 ?_));refine bx 1 ?_;refine al 2 ?_;refine nl (sq (rl (o1 ?_)));refine ld ?_;refine al 3 ?_;refine st ?_;refine nl ?_
 refine sq (sq (rl (o1 ?_)));refine nl (bl ?_)
 have h00:(R.los y e)=(iE (us.take 0) (R.los y e) y e t9):=by unfold iE;rw[List.take_zero];show _=_-(0:Rat);grind
 refine lp (γ:=Nat) (fun s=>bP [(2,.one (tv (.int .i64 t9))),(3,pN 0),(4,pN 1),(6,pN 2),(7,pN 3),(8,iN s)]) (fun s=>[(⟨39,0,[.t ((cR false rw9)),.t ((cO false false vs)),.t (cF false false us)]⟩:Ob),⟨64,0,[tv (.int .i64 ((y:Nat):Int)),tv (.int .i64 ((e:Nat):Int)),tv (.bool (aL (R.los y e).num)),.t (sU false (dg 4294967296 (R.los y e).num.natAbs)),tv (.bool false),.t (sU false (dg 4294967296 (R.los y e).den)),tv (.bool (aL (cU U y e).num)),.t (sU false (dg 4294967296 (cU U y e).num.natAbs)),tv (.bool false),.t (sU false (dg 4294967296 (cU U y e).den)),tv (.bool (aL (R.ex U ys.length y e).num)),.t (sU false (dg 4294967296 (R.ex U ys.length y e).num.natAbs)),tv (.bool false),.t (sU false (dg 4294967296 (R.ex U ys.length y e).den)),tv (.bool (aL (R.cl U ys.length y e).num)),.t (sU false (dg 4294967296 (R.cl U ys.length y e).num.natAbs)),tv (.bool false),.t (sU false (dg 4294967296 (R.cl U ys.length y e).den))]⟩,⟨48,0,[tv (.bool false),tv (.slice none 0 0),tv (.bool false),tv (.slice none 0 0)]⟩,⟨48,0,((Fr4.of (iE (us.take s) (R.los y e) y e t9)).tr false).map .t⟩].map some) (fun s=>s≤us.length) (fun s=>us.length-s) 0 (Nat.zero_le _) (aP h0 [0,1,2,3] ⟨oe rfl rfl,oe rfl rfl,oe rfl rfl,aB (congrArg (fun q:Rat=>some (⟨48,0,((Fr4.of q).tr false).map .t⟩:Ob)) h00),rfl⟩) ?_
 rintro k9 hk9;refine sq (sq (rl (o1 ?_)));refine o1 ?_;refine ld ?_;refine o1 ?_;refine o1 ?_;refine nl ?_;refine bF rfl (fun h1=>?_) (fun h1=>?_)
 ·refine sk (sq (bl (sq (rl (o1 ?_)))));refine ld ?_;refine o1 ?_;refine o1 ?_
  refine dV ((dK false) (bN us (k9))) (aI (f:=(dK false)) (z:=7) (o:=0) (dA false) (dG (by omega)) (bM rfl) rfl) ?_
  refine al 4 ?_;refine st ?_;refine nl (sq (rl (o1 ?_)));refine ld ?_;refine o1 ?_;refine ld ?_;refine o1 ?_;refine o1 ?_
  refine WL.split (t:=29) rfl (fun h2=>?_) (fun h2=>?_)
  ·refine o1 ?_;refine ld ?_;refine o1 ?_;refine ld ?_;(iterate 3 refine o1 ?_);refine WL.split (t:=36) rfl (fun h3=>?_) (fun h3=>?_)
   ·refine o1 ?_;refine ld ?_;(iterate 3 refine o1 ?_);refine nl ?_;refine bF rfl (fun h4=>?_) (fun h4=>?_)
    ·refine rl (ld ?_);refine o1 ?_;refine ld ?_
     refine ca (wY (Qn.of (p:=(iE (us.take k9) (R.los y e) y e t9)) ((AY hlz hu hl).mono (M:=68719476736) (by omega))) (Qn.of (p:=(bN us (k9)).n) ((hu _ (eA (by omega))).mono (M:=68719476736) (by omega)))) Dk ⟨aC rfl,aC rfl,rfl⟩ (qF (.of ((iE (us.take k9) (R.los y e) y e t9)-(bN us (k9)).n))) ?_
     refine st ?_;refine nl (rl (o1 ?_));refine o1 ?_;refine bB 18 (k9+1) ?_
     refine o1 ?_;refine nl ?_
     have hst:((iE (us.take k9) (R.los y e) y e t9)-(bN us (k9)).n)=(iE (us.take (k9+1)) (R.los y e) y e t9):=by rw[Me (by omega)];exact(if_pos ⟨h2,h3,h4⟩).symm
     exact⟨k9+1,by omega,by omega,aP h0 [0,1,2,3] ⟨oe rfl rfl,oe rfl rfl,oe rfl rfl,aB (congrArg (fun q:Rat=>some (⟨48,0,((Fr4.of q).tr false).map .t⟩:Ob)) hst),rfl⟩⟩
    refine sk (rl (o1 ?_));refine o1 ?_;refine bB 18 (k9+1) ?_
    refine o1 ?_;refine nl ?_
    have hst:(iE (us.take k9) (R.los y e) y e t9)=(iE (us.take (k9+1)) (R.los y e) y e t9):=by rw[Me (by omega)];exact(if_neg (fun h=>h4 h.2.2)).symm
    exact⟨k9+1,by omega,by omega,aP h0 [0,1,2,3] ⟨oe rfl rfl,oe rfl rfl,oe rfl rfl,aB (congrArg (fun q:Rat=>some (⟨48,0,((Fr4.of q).tr false).map .t⟩:Ob)) hst),rfl⟩⟩
   (iterate 4 refine cY ?_);refine o1 ?_;refine nl (dW rfl (sk (rl (o1 ?_))));refine o1 ?_
   refine bB 18 (k9+1) ?_
   refine o1 ?_;refine nl ?_;have hst:(iE (us.take k9) (R.los y e) y e t9)=(iE (us.take (k9+1)) (R.los y e) y e t9):=by rw[Me (by omega)];exact(if_neg (fun h=>h3 h.2.1)).symm
   exact⟨k9+1,by omega,by omega,aP h0 [0,1,2,3] ⟨oe rfl rfl,oe rfl rfl,oe rfl rfl,aB (congrArg (fun q:Rat=>some (⟨48,0,((Fr4.of q).tr false).map .t⟩:Ob)) hst),rfl⟩⟩
  (iterate 5 refine cY ?_);refine o1 ?_;refine o1 ?_;(iterate 4 refine cY ?_);refine o1 ?_;refine nl (dW rfl (sk (rl (o1 ?_))));refine o1 ?_
  refine bB 18 (k9+1) ?_
  refine o1 ?_;refine nl ?_;have hst:(iE (us.take k9) (R.los y e) y e t9)=(iE (us.take (k9+1)) (R.los y e) y e t9):=by rw[Me (by omega)];exact(if_neg (fun h=>h2 h.1)).symm
  exact⟨k9+1,by omega,by omega,aP h0 [0,1,2,3] ⟨oe rfl rfl,oe rfl rfl,oe rfl rfl,aB (congrArg (fun q:Rat=>some (⟨48,0,((Fr4.of q).tr false).map .t⟩:Ob)) hst),rfl⟩⟩
 refine ex (sq (rl (ld ?_)));refine st ?_;refine nl (rt ?_)
 exact en (.inl rfl) rfl (bD (.agg (.cons (.id rfl) (.cons (.id rfl) (.cons (.id rfl) (.cons (.id rfl) .nil)))))) (by decide) (fun h=>by cases h) (by rw[fF (by omega)];rfl)
set_option maxHeartbeats 4000000 in
theorem Se {fw:Int}{ys:List Yr}(hy:∀y∈ys,iH y) (h20:dJ fw ys=0→(aG ys 0).m.length*ys.length<20):aE true Tryz.prog 5 [] [.one (tv (.int .i64 fw)),.one (.t (gT ys))] (aT (.one (tv (.bool true)))):=by
 refine bV Tryz.func5 rfl Tryz.ntmps5 rfl aF rfl fun N9 w9 c0 h0=>?_
 refine WP.sln (i:=1) rfl fun hlen=>?_
 refine sq (rl (o1 ?_));refine nl (sq (sq (rl (o1 ?_))));refine ca (Bf (ys:=ys)) KF ⟨a1 rfl,rfl⟩ (.one (tv (.bool (iM ys)))) ?_
 refine WL.splitb (t:=14) rfl (fun h1=>?_) (fun h1=>?_)
 ·refine o1 ?_;refine nl (dW rfl (sk (sq ?_)));have hf:iM ys=true:=by simpa using h1
  refine rl (o1 ?_);refine o1 ?_
  refine ca (nW (fw:=fw) (ys:=ys) hf hy h20) Ds ⟨a1 rfl,a1 rfl,rfl⟩ (.tup [.agg [.t (cR false (bJ fw ys)),.t (cO false true (bG fw ys)),.t (cF false true (aA fw ys))],.one (tv (.int .i64 (dJ fw ys)))]) ?_
  refine o1 ?_;refine o1 ?_
  refine WL.sub (Hw (i:=21) (l:=[(cR false (bJ fw ys)),(cO false true (bG fw ys)),(cF false true (aA fw ys))]) rfl rfl (vS (bJ fw ys) (bG fw ys) (aA fw ys))) ?_
  refine o1 ?_;refine al 0 ?_;refine st ?_;refine o1 ?_;refine nl (sq (sq (rl (o1 ?_))));refine o1 ?_;refine nl ?_
  refine bF rfl (fun h2=>?_) (fun h2=>?_)
  ·refine sq (rl (ca (fX) vT rfl (.one (tv (.bool true))) ?_));refine o1 ?_;refine nl (rt ?_);exact gO (.inl rfl) rfl (rfl)
  refine sk (sq (sq ?_));have hE:dJ fw ys=0:=by omega
  have hC:=Ug hf hy hE
  have hIv:=hC.iv
  have hrn:=hC.rn;have hul:=hC.ul;have hvl:=hC.vl;have hn10:=hC.ok.n;have hE6:=hC.ok.e
  have hfw:((fw.toNat:Nat):Int)=fw:=(nU hf hy hE).2.2.1
  have hms9:∀i,((aM fw.toNat ys).ms i).length=(aM fw.toNat ys).E:=fun _=>lH
  refine rl (o1 ?_);refine ld ?_;(iterate 4 refine o1 ?_);refine WL.cast (t:=31) (u':=.bool false) rfl (congrArg Value.bool (decide_eq_false (fun h=>h (by rw[hrn])))) ?_
  refine nl (dW rfl (sk (sq (sq (rl (o1 ?_))))));refine nl (bl ?_)
  refine lp (γ:=Nat) (fun s=>bP [(0,.one (tv (.int .i64 fw))),(1,.one (.t (gT ys))),(5,pN 0),(7,iN s)]) (fun s=>[(⟨39,0,[.t (cR false (bJ fw ys)),.t (cO false false (bG fw ys)),.t (cF false false (aA fw ys))]⟩:Ob)].map some) (fun s=>s≤(bG fw ys).length) (fun s=>(bG fw ys).length-s) 0 (Nat.zero_le _) (aP h0 [0] ⟨oe rfl rfl,rfl⟩) ?_
  rintro i9 hi9;refine sq (sq (rl (o1 ?_)));refine o1 ?_;refine ld ?_;refine o1 ?_;refine o1 ?_;refine nl ?_;refine bF rfl (fun h3=>?_) (fun h3=>?_)
  ·refine sk (sq (bl (sq ?_)));obtain⟨y,e,hv,hV⟩:=hC.vat (i:=i9) (by omega)
   obtain⟨hyn,heE,_⟩:=Nn hv
   have hlz:Sz 300 ((aM fw.toNat ys).los y e):=hC.ok.sz_los hyn heE
   refine rl (o1 ?_);refine ld ?_;refine o1 ?_;refine o1 ?_
   refine dV ((.v (.int .i64 ((y:Nat):Int))::.v (.int .i64 ((e:Nat):Int))::((Fr4.of ((aM fw.toNat ys).los y e)).tr false++((Fr4.of (cU (aA fw ys) y e)).tr false++((Fr4.of ((aM fw.toNat ys).ex (aA fw ys) ys.length y e)).tr false++(Fr4.of ((aM fw.toNat ys).cl (aA fw ys) ys.length y e)).tr false))))) ((by rw[show((.v (.int .i64 ((y:Nat):Int))::.v (.int .i64 ((e:Nat):Int))::((Fr4.of ((aM fw.toNat ys).los y e)).tr false++((Fr4.of (cU (aA fw ys) y e)).tr false++((Fr4.of ((aM fw.toNat ys).ex (aA fw ys) ys.length y e)).tr false++(Fr4.of ((aM fw.toNat ys).cl (aA fw ys) ys.length y e)).tr false)))):List Tr)=cA false (aY (bG fw ys) (i9)) from by rw[hV];rfl];exact(aI (f:=(cA false)) (z:=18) (o:=0) (cK false) (hH (by omega)) (bM rfl) rfl))) ?_
   refine al 1 ?_;refine st ?_;refine nl (sq (rl (o1 ?_)));refine ld ?_;refine o1 ?_
   refine bB 46 (y+1) ?_
   refine o1 ?_;refine nl (bl ?_)
   refine lp (γ:=Nat) (fun s=>bP [(0,.one (tv (.int .i64 fw))),(1,.one (.t (gT ys))),(5,pN 0),(7,iN i9),(8,pN 1),(9,iN s)]) (fun s=>[(⟨39,0,[.t (cR false (bJ fw ys)),.t (cO false false (bG fw ys)),.t (cF false false (aA fw ys))]⟩:Ob),⟨64,0,[tv (.int .i64 ((y:Nat):Int)),tv (.int .i64 ((e:Nat):Int)),tv (.bool (aL ((aM fw.toNat ys).los y e).num)),.t (sU false (dg 4294967296 ((aM fw.toNat ys).los y e).num.natAbs)),tv (.bool false),.t (sU false (dg 4294967296 ((aM fw.toNat ys).los y e).den)),tv (.bool (aL (cU (aA fw ys) y e).num)),.t (sU false (dg 4294967296 (cU (aA fw ys) y e).num.natAbs)),tv (.bool false),.t (sU false (dg 4294967296 (cU (aA fw ys) y e).den)),tv (.bool (aL ((aM fw.toNat ys).ex (aA fw ys) ys.length y e).num)),.t (sU false (dg 4294967296 ((aM fw.toNat ys).ex (aA fw ys) ys.length y e).num.natAbs)),tv (.bool false),.t (sU false (dg 4294967296 ((aM fw.toNat ys).ex (aA fw ys) ys.length y e).den)),tv (.bool (aL ((aM fw.toNat ys).cl (aA fw ys) ys.length y e).num)),.t (sU false (dg 4294967296 ((aM fw.toNat ys).cl (aA fw ys) ys.length y e).num.natAbs)),tv (.bool false),.t (sU false (dg 4294967296 ((aM fw.toNat ys).cl (aA fw ys) ys.length y e).den))]⟩].map some) (fun s=>y<s∧s≤ys.length) (fun s=>ys.length-s) (y+1) (⟨by omega,by omega⟩) (aP h0 [0,1] ⟨oe rfl rfl,oe rfl rfl,rfl⟩) ?_
   rintro t9 ht9;refine sq (sq (rl ?_));(iterate 5 refine o1 ?_);refine WL.split (t:=51) rfl (fun h4=>?_) (fun h4=>?_)
   ·refine o1 ?_;refine o1 ?_;refine ld ?_;refine o1 ?_;refine bB 55 (t9-y) ?_
    (iterate 3 refine o1 ?_);refine nl ?_;refine bF rfl (fun h5=>?_) (fun h5=>?_)
    ·refine sk (sq (bl (sq (sq ?_))));have hmsl:=hms9 t9
     have hwz:Sz 68719476736 (iE (aA fw ys) ((aM fw.toNat ys).los y e) y e ((t9:Nat):Int)):=by
      have h9:=AY (k:=(aA fw ys).length) (y:=y) (e:=e) (t:=((t9:Nat):Int)) hlz hC.usz hC.ul
      rw[fF (bC _)]at h9;exact h9.mono (by omega)
     refine cI [0,1] [] ?_
     refine dv 0 ?_;refine aK 1 ?_;refine dv 2 ?_;refine dv 3 ?_;refine dv 4 ?_;refine dv 5 ?_
     refine dD 6 ([gH ((aM fw.toNat ys).ms (t9))]) ((by rw[←hC.m (t9) (by omega)];exact(aI (f:=yrt) (z:=6) (o:=0) cL (bR (by omega)) (bM rfl) rfl))) ?_
     refine dv 7 ?_;refine WD.cast (t:=68) (u':=.int .i64 (((aM fw.toNat ys).E:Nat):Int)) rfl (dO (by rw[lH])) ?_
     refine dv 8 ?_;refine dv 9 ?_;refine WD.split (t:=70) rfl rfl (fun h6=>?_) (fun h6=>?_)
     ·exact absurd h6 (by omega)
     refine dv 10 ?_;refine dv 11 ?_;refine dv 12 ?_;refine dv 13 ?_
     refine dD 14 ([gH ((aM fw.toNat ys).ms (t9))]) ((by rw[←hC.m (t9) (by omega)];exact(aI (f:=yrt) (z:=6) (o:=0) cL (bR (by omega)) (bM rfl) rfl))) ?_
     refine dv 15 ?_;refine aK 16 ?_;refine dv 17 ?_
     refine dD 18 ([.v (.bool ((aM fw.toNat ys).mem (t9) (e)))]) ((by rw[←nA (R:=(aM fw.toNat ys)) (t:=(t9)) (e:=e) (by omega)];exact wV ((aM fw.toNat ys).ms (t9)) (k:=e) (by rw[lH];omega))) ?_
     refine WD.splitb (t:=79) rfl (fun h7=>?_) (fun h7=>?_)
     ·refine dv 19 ?_;refine dv 20 ?_;refine dv 21 ?_;refine aK 22 ?_;refine aK 23 ?_;refine dv 24 ?_
      refine aS 25 rfl (AZ (R:=(aM fw.toNat ys)) (U:=(aA fw ys)) (us:=(aA fw ys)) (rw9:=(bJ fw ys)) (vs:=(bG fw ys)) (ys:=ys) (y:=y) (e:=e) (t9:=((t9:Nat):Int)) hlz hC.usz hC.ul) aAd ⟨aC (l:=[cR false (bJ fw ys),cO false false (bG fw ys),cF false false (aA fw ys)]) rfl,aC (l:=(cA false ((aM fw.toNat ys).vn (aA fw ys) ((aM fw.toNat ys).ex (aA fw ys) ys.length) ((aM fw.toNat ys).cl (aA fw ys) ys.length) (y,e)))) rfl,a1 rfl,rfl⟩ (qF (.of (iE (aA fw ys) ((aM fw.toNat ys).los y e) y e ((t9:Nat):Int)))) ?_
      refine aS 26 rfl (iZ (Qn.of (p:=(iE (aA fw ys) ((aM fw.toNat ys).los y e) y e ((t9:Nat):Int))) hwz)) mU ⟨aC rfl,rfl⟩ (.one (tv (.int .i64 (iE (aA fw ys) ((aM fw.toNat ys).los y e) y e ((t9:Nat):Int)).num.sign))) ?_
      refine df 27 ?_;refine df 28 ?_;refine aW ?_;refine bF rfl (fun h8=>?_) (fun h8=>?_)
      ·refine ex (rl (o1 ?_));refine o1 ?_;refine bB 60 (t9+1) ?_
       refine o1 ?_;refine nl ?_;exact⟨t9+1,by omega,⟨by omega,by omega⟩,aP h0 [0,1] ⟨oe rfl rfl,oe rfl rfl,rfl⟩⟩
      refine sk (sq ?_);have hm9:(aM fw.toNat ys).mem t9 e=true:=by simpa using h7
      have htf9:t9≤y+fw.toNat:=by omega
      have hw9:(aM fw.toNat ys).left ((aM fw.toNat ys).run (t9+1)) y e≠0:=fun h9=>h8 (by rw[show(iE (aA fw ys) ((aM fw.toNat ys).los y e) y e ((t9:Nat):Int))=(0:Rat) from by rw[hC.un,ET (by omega)];exact h9];rfl)
      have hfl:=Zm hC.ok hv (t:=t9) (by omega) (by omega) htf9 hm9 hw9
      rw[←hC.un]at hfl;have hb9l:(((aM fw.toNat ys).by9 (aA fw ys) (t9)).map Fr4.of).length=(aM fw.toNat ys).E:=by rw[dB,jE]
      have hb8l:(((aM fw.toNat ys).bs (t9)).map Fr4.of).length=(aM fw.toNat ys).E:=by rw[dB,iB]
      refine cI [0,1] [24] ?_
      refine dv 0 ?_;refine aK 1 ?_;refine dv 2 ?_;refine dv 3 ?_;refine dv 4 ?_
      refine dD 5 ([sQ false (((aM fw.toNat ys).by9 (aA fw ys) (t9)).map Fr4.of)]) ((by rw[show(aM fw.toNat ys).by9 (aA fw ys) (t9)=(fN (bJ fw ys) (t9)).b from by rw[hC.rat (i:=t9) (by omega)];rfl];exact(aI (f:=rlt) (z:=5) (o:=4) eO (fV (by omega)) (bM rfl) rfl))) ?_
      refine dv 6 ?_;refine aK 7 ?_;refine dv 8 ?_
      refine dD 9 ((Fr4.of (dT (aA fw ys) (t9) (e))).tr false) ((by rw[←GR (aM fw.toNat ys) (U:=(aA fw ys)) (t:=(t9)) (e:=e) (by omega)];exact fL (((aM fw.toNat ys).by9 (aA fw ys) (t9)).map Fr4.of) (k:=e) (by rw[dB,jE];omega))) ?_
      refine dv 11 ?_;refine dv 12 ?_;refine dv 13 ?_;refine dv 14 ?_
      refine dD 15 ([sQ false (((aM fw.toNat ys).bs (t9)).map Fr4.of)]) ((by rw[←hC.b (t9) (by omega)];exact(aI (f:=yrt) (z:=6) (o:=1) cL (bR (by omega)) (bM rfl) rfl))) ?_
      refine dv 16 ?_;refine aK 17 ?_;refine dv 18 ?_
      refine dD 19 ((Fr4.of ((aM fw.toNat ys).base (t9) (e))).tr false) ((by rw[←GQ (aM fw.toNat ys) (t:=(t9)) (e:=e) (by omega)];exact fL (((aM fw.toNat ys).bs (t9)).map Fr4.of) (k:=e) (by rw[dB,iB];omega))) ?_
      refine eR 10 20 ?_ ?_
      ·refine fB 10 rfl (eW (z:=0) (by omega) (by omega)) kR ⟨a1 rfl,rfl⟩ (qF (.of ((0:Int):Rat))) ?_
       refine iG (key:=2) 20 (by kernel_rfl) rfl rfl aF rfl ⟨rfl,rfl,trivial⟩ ?_
       refine qU (i:=110) (k:=2) (t:=48) (t':=52) (z:=4) (n:=1) (l:=([Fr4.of ((aM fw.toNat ys).base (t9) (e))]).flatMap (Fr4.tr false)) rfl rfl rfl rfl (.one .sl) (by rfl) (by rfl) ?_
       refine aS 21 rfl (Bj (q:=((aM fw.toNat ys).base (t9) (e))) ((hC.ok.base _ _ (by omega) (by omega)).mono (M:=68719476736) (by omega))) Xj ⟨aC rfl,a1 rfl,rfl⟩ (qF (.of (dY 0 [((aM fw.toNat ys).base (t9) (e))]))) ?_
       refine aS 22 rfl (qL (Qn.of (p:=(dT (aA fw ys) (t9) (e))) ((hIv.sz_eIn hC.ok (by omega) (by omega)).mono (M:=68719476736) (by omega))) (Qn.of (p:=(dY 0 [((aM fw.toNat ys).base (t9) (e))])) (uE ((hC.ok.base _ _ (by omega) (by omega)).mono (M:=68719476736) (by omega)) (by omega)))) kI ⟨aC rfl,aC rfl,rfl⟩ (.one (tv (.int .i64 ((dT (aA fw ys) (t9) (e))-(dY 0 [((aM fw.toNat ys).base (t9) (e))])).num.sign))) ?_
       refine df 23 ?_
       refine WD.cast (t:=113) (u':=.bool (decide ((dT (aA fw ys) (t9) (e))=(dY 0 [((aM fw.toNat ys).base (t9) (e))])))) rfl (congrArg Value.bool (decide_eq_decide.2 Fg)) ?_
       refine dI 24 ?_
       refine aW ?_;refine sq (sq ?_);refine cI [0,1] [] ?_
       refine dv 0 ?_;refine WD.splitb (t:=114) rfl (fun h9=>?_) (fun h9=>?_)
       ·refine dv 1 ?_;refine dv 2 ?_;refine aZ 3 ?_;refine aZ 4 ?_;refine aZ 5 ?_;refine aZ 6 ?_;refine aZ 7 ?_;refine aZ 8 ?_;refine aZ 9 ?_;refine aZ 10 ?_
        refine aZ 11 ?_;refine aZ 12 ?_;refine aZ 13 ?_;refine aZ 14 ?_;refine aZ 15 ?_;refine dv 16 ?_;refine aW ?_;refine dW rfl (sk (sq ?_))
        refine rl (o1 ?_);refine nl (bl ?_)
        refine lp (γ:=Nat) (fun s=>bP [(0,.one (tv (.int .i64 fw))),(1,.one (.t (gT ys))),(5,pN 0),(7,iN i9),(8,pN 1),(9,iN t9),(10,.one (tv (.bool (decide ((dT (aA fw ys) (t9) (e))=(dY 0 [((aM fw.toNat ys).base (t9) (e))])))))),(11,iN s)]) (fun s=>[(⟨39,0,[.t (cR false (bJ fw ys)),.t (cO false false (bG fw ys)),.t (cF false false (aA fw ys))]⟩:Ob),⟨64,0,[tv (.int .i64 ((y:Nat):Int)),tv (.int .i64 ((e:Nat):Int)),tv (.bool (aL ((aM fw.toNat ys).los y e).num)),.t (sU false (dg 4294967296 ((aM fw.toNat ys).los y e).num.natAbs)),tv (.bool false),.t (sU false (dg 4294967296 ((aM fw.toNat ys).los y e).den)),tv (.bool (aL (cU (aA fw ys) y e).num)),.t (sU false (dg 4294967296 (cU (aA fw ys) y e).num.natAbs)),tv (.bool false),.t (sU false (dg 4294967296 (cU (aA fw ys) y e).den)),tv (.bool (aL ((aM fw.toNat ys).ex (aA fw ys) ys.length y e).num)),.t (sU false (dg 4294967296 ((aM fw.toNat ys).ex (aA fw ys) ys.length y e).num.natAbs)),tv (.bool false),.t (sU false (dg 4294967296 ((aM fw.toNat ys).ex (aA fw ys) ys.length y e).den)),tv (.bool (aL ((aM fw.toNat ys).cl (aA fw ys) ys.length y e).num)),.t (sU false (dg 4294967296 ((aM fw.toNat ys).cl (aA fw ys) ys.length y e).num.natAbs)),tv (.bool false),.t (sU false (dg 4294967296 ((aM fw.toNat ys).cl (aA fw ys) ys.length y e).den))]⟩].map some) (fun s=>s≤(aA fw ys).length) (fun s=>(aA fw ys).length-s) 0 (Nat.zero_le _) (aP h0 [0,1] ⟨oe rfl rfl,oe rfl rfl,rfl⟩) ?_
        rintro k8 hk8;refine sq (sq (rl (o1 ?_)));refine o1 ?_;refine ld ?_;refine o1 ?_;refine o1 ?_;refine nl ?_
        refine bF rfl (fun h10=>?_) (fun h10=>?_)
        ·refine sk (sq (bl (sq (rl (o1 ?_)))));refine ld ?_;refine o1 ?_;refine o1 ?_
         refine dV ((dK false) (bN (aA fw ys) (k8))) (aI (f:=(dK false)) (z:=7) (o:=0) (dA false) (dG (by omega)) (bM rfl) rfl) ?_
         refine al 2 ?_;refine st ?_;refine nl (sq (rl (o1 ?_)));refine ld ?_;(iterate 3 refine o1 ?_)
         refine WL.split (t:=147) rfl (fun h11=>?_) (fun h11=>?_)
         ·refine o1 ?_;refine ld ?_;refine o1 ?_;refine ld ?_;(iterate 3 refine o1 ?_);refine WL.split (t:=154) rfl (fun h12=>?_) (fun h12=>?_)
          ·refine o1 ?_;refine ld ?_;refine o1 ?_;refine ld ?_;refine o1 ?_;refine o1 ?_;refine WL.split (t:=160) rfl (fun h13=>?_) (fun h13=>?_)
           ·refine cY ?_;refine cY ?_;refine o1 ?_;refine o1 ?_;refine nl (iC rfl (sq (rl (o1 ?_))));refine nl (rt ?_)
            exact(hfl.2 _ (eA (l:=(aA fw ys)) (i:=k8) (by omega)) h11 h12 (.inl h13)).elim
           refine o1 ?_;refine WL.cast (t:=161) rfl (congrArg Value.bool h9) ?_;(iterate 3 refine o1 ?_);refine nl (dW rfl (sk (rl ?_)))
           refine o1 ?_;refine o1 ?_;refine bB 137 (k8+1) ?_
           refine o1 ?_;refine nl ?_
           exact⟨k8+1,by omega,by omega,aP h0 [0,1] ⟨oe rfl rfl,oe rfl rfl,rfl⟩⟩
          (iterate 9 refine cY ?_);refine o1 ?_;refine nl (dW rfl (sk (rl (o1 ?_))));refine o1 ?_
          refine bB 137 (k8+1) ?_
          refine o1 ?_;refine nl ?_;exact⟨k8+1,by omega,by omega,aP h0 [0,1] ⟨oe rfl rfl,oe rfl rfl,rfl⟩⟩
         (iterate 5 refine cY ?_);refine o1 ?_;refine o1 ?_;(iterate 9 refine cY ?_);refine o1 ?_;refine nl (dW rfl (sk (rl (o1 ?_))))
         refine o1 ?_;refine bB 137 (k8+1) ?_
         refine o1 ?_;refine nl ?_;exact⟨k8+1,by omega,by omega,aP h0 [0,1] ⟨oe rfl rfl,oe rfl rfl,rfl⟩⟩
        refine ex (rl (o1 ?_));refine o1 ?_;refine bB 60 (t9+1) ?_
        refine o1 ?_;refine nl ?_;exact⟨t9+1,by omega,⟨by omega,by omega⟩,aP h0 [0,1] ⟨oe rfl rfl,oe rfl rfl,rfl⟩⟩
       refine dv 1 ?_;refine dv 2 ?_;refine dv 3 ?_;refine aK 4 ?_;refine dv 5 ?_;refine dv 6 ?_;refine dv 7 ?_
       refine dD 8 ((Fr4.of (dZ (aA fw ys) (t9))).tr false) ((by rw[show dZ (aA fw ys) ((t9:Nat):Int)=(fN (bJ fw ys) (t9)).u from by rw[hC.rat (i:=t9) (by omega)];rfl];exact(aI (f:=rlt) (z:=5) (o:=0) eO (fV (by omega)) (bM rfl) rfl))) ?_
       refine dv 9 ?_;refine dv 10 ?_;refine dv 11 ?_;refine dv 12 ?_
       refine dD 13 ((Fr4.of ((aM fw.toNat ys).lim (t9))).tr false) ((by rw[←hC.l (t9) (by omega)];exact(aI (f:=yrt) (z:=6) (o:=2) cL (bR (by omega)) (bM rfl) rfl))) ?_
       refine aS 14 rfl (qL (Qn.of (p:=(dZ (aA fw ys) (t9))) ((hIv.sz_yIn hC.ok (by omega)).mono (M:=68719476736) (by omega))) (Qn.of (p:=((aM fw.toNat ys).lim (t9))) ((hC.ok.lim _ (by omega)).mono (M:=68719476736) (by omega)))) kI ⟨aC rfl,aC rfl,rfl⟩ (.one (tv (.int .i64 ((dZ (aA fw ys) (t9))-((aM fw.toNat ys).lim (t9))).num.sign))) ?_
       refine df 15 ?_;refine df 16 ?_;refine aW ?_;refine bF rfl (fun h14=>?_) (fun h14=>?_)
       ·exact absurd (Fg.2 (hfl.1.resolve_left (by simpa using h9))) h14
       refine sk (sq ?_);have hown9:(dT (aA fw ys) (t9) (e))≠(dY 0 [((aM fw.toNat ys).base (t9) (e))]):=by simpa using h9
       refine rl (o1 ?_);refine nl (bl ?_)
       refine lp (γ:=Nat) (fun s=>bP [(0,.one (tv (.int .i64 fw))),(1,.one (.t (gT ys))),(5,pN 0),(7,iN i9),(8,pN 1),(9,iN t9),(10,.one (tv (.bool (decide ((dT (aA fw ys) (t9) (e))=(dY 0 [((aM fw.toNat ys).base (t9) (e))])))))),(11,iN s)]) (fun s=>[(⟨39,0,[.t (cR false (bJ fw ys)),.t (cO false false (bG fw ys)),.t (cF false false (aA fw ys))]⟩:Ob),⟨64,0,[tv (.int .i64 ((y:Nat):Int)),tv (.int .i64 ((e:Nat):Int)),tv (.bool (aL ((aM fw.toNat ys).los y e).num)),.t (sU false (dg 4294967296 ((aM fw.toNat ys).los y e).num.natAbs)),tv (.bool false),.t (sU false (dg 4294967296 ((aM fw.toNat ys).los y e).den)),tv (.bool (aL (cU (aA fw ys) y e).num)),.t (sU false (dg 4294967296 (cU (aA fw ys) y e).num.natAbs)),tv (.bool false),.t (sU false (dg 4294967296 (cU (aA fw ys) y e).den)),tv (.bool (aL ((aM fw.toNat ys).ex (aA fw ys) ys.length y e).num)),.t (sU false (dg 4294967296 ((aM fw.toNat ys).ex (aA fw ys) ys.length y e).num.natAbs)),tv (.bool false),.t (sU false (dg 4294967296 ((aM fw.toNat ys).ex (aA fw ys) ys.length y e).den)),tv (.bool (aL ((aM fw.toNat ys).cl (aA fw ys) ys.length y e).num)),.t (sU false (dg 4294967296 ((aM fw.toNat ys).cl (aA fw ys) ys.length y e).num.natAbs)),tv (.bool false),.t (sU false (dg 4294967296 ((aM fw.toNat ys).cl (aA fw ys) ys.length y e).den))]⟩].map some) (fun s=>s≤(aA fw ys).length) (fun s=>(aA fw ys).length-s) 0 (Nat.zero_le _) (aP h0 [0,1] ⟨oe rfl rfl,oe rfl rfl,rfl⟩) ?_
       rintro k8 hk8;refine sq (sq (rl (o1 ?_)));refine o1 ?_;refine ld ?_;refine o1 ?_;refine o1 ?_;refine nl ?_
       refine bF rfl (fun h15=>?_) (fun h15=>?_)
       ·refine sk (sq (bl (sq (rl (o1 ?_)))));refine ld ?_;refine o1 ?_;refine o1 ?_
        refine dV ((dK false) (bN (aA fw ys) (k8))) (aI (f:=(dK false)) (z:=7) (o:=0) (dA false) (dG (by omega)) (bM rfl) rfl) ?_
        refine al 2 ?_;refine st ?_;refine nl (sq (rl (o1 ?_)));refine ld ?_;(iterate 3 refine o1 ?_)
        refine WL.split (t:=147) rfl (fun h16=>?_) (fun h16=>?_)
        ·refine o1 ?_;refine ld ?_;refine o1 ?_;refine ld ?_;(iterate 3 refine o1 ?_);refine WL.split (t:=154) rfl (fun h17=>?_) (fun h17=>?_)
         ·refine o1 ?_;refine ld ?_;refine o1 ?_;refine ld ?_;refine o1 ?_;refine o1 ?_;refine WL.split (t:=160) rfl (fun h18=>?_) (fun h18=>?_)
          ·refine cY ?_;refine cY ?_;refine o1 ?_;refine o1 ?_;refine nl (iC rfl (sq (rl (o1 ?_))));refine nl (rt ?_)
           exact(hfl.2 _ (eA (l:=(aA fw ys)) (i:=k8) (by omega)) h16 h17 (.inl h18)).elim
          refine o1 ?_;refine WL.cast (t:=161) rfl (congrArg Value.bool h9) ?_;(iterate 3 refine o1 ?_);refine nl (iC rfl (sq (rl ?_)))
          refine o1 ?_;refine nl (rt ?_);exact(hfl.2 _ (eA (l:=(aA fw ys)) (i:=k8) (by omega)) h16 h17 (.inr hown9)).elim
         (iterate 9 refine cY ?_);refine o1 ?_;refine nl (dW rfl (sk (rl (o1 ?_))));refine o1 ?_
         refine bB 137 (k8+1) ?_
         refine o1 ?_;refine nl ?_
         exact⟨k8+1,by omega,by omega,aP h0 [0,1] ⟨oe rfl rfl,oe rfl rfl,rfl⟩⟩
        (iterate 5 refine cY ?_);refine o1 ?_;refine o1 ?_;(iterate 9 refine cY ?_);refine o1 ?_;refine nl (dW rfl (sk (rl (o1 ?_))))
        refine o1 ?_;refine bB 137 (k8+1) ?_
        refine o1 ?_;refine nl ?_;exact⟨k8+1,by omega,by omega,aP h0 [0,1] ⟨oe rfl rfl,oe rfl rfl,rfl⟩⟩
       refine ex (rl (o1 ?_));refine o1 ?_;refine bB 60 (t9+1) ?_
       refine o1 ?_;refine nl ?_;exact⟨t9+1,by omega,⟨by omega,by omega⟩,aP h0 [0,1] ⟨oe rfl rfl,oe rfl rfl,rfl⟩⟩
      refine Hc (key:=2) 20 rfl rfl ⟨rfl,rfl,trivial⟩ ?_
      refine qU (i:=110) (k:=2) (t:=48) (t':=52) (z:=4) (n:=1) (l:=([Fr4.of ((aM fw.toNat ys).base (t9) (e))]).flatMap (Fr4.tr false)) rfl rfl rfl rfl (.one .sl) (by rfl) (by rfl) ?_
      refine aS 10 rfl (eW (z:=0) (by omega) (by omega)) kR ⟨a1 rfl,rfl⟩ (qF (.of ((0:Int):Rat))) ?_
      refine aS 21 rfl (Bj (q:=((aM fw.toNat ys).base (t9) (e))) ((hC.ok.base _ _ (by omega) (by omega)).mono (M:=68719476736) (by omega))) Xj ⟨aC rfl,a1 rfl,rfl⟩ (qF (.of (dY 0 [((aM fw.toNat ys).base (t9) (e))]))) ?_
      refine aS 22 rfl (qL (Qn.of (p:=(dT (aA fw ys) (t9) (e))) ((hIv.sz_eIn hC.ok (by omega) (by omega)).mono (M:=68719476736) (by omega))) (Qn.of (p:=(dY 0 [((aM fw.toNat ys).base (t9) (e))])) (uE ((hC.ok.base _ _ (by omega) (by omega)).mono (M:=68719476736) (by omega)) (by omega)))) kI ⟨aC rfl,aC rfl,rfl⟩ (.one (tv (.int .i64 ((dT (aA fw ys) (t9) (e))-(dY 0 [((aM fw.toNat ys).base (t9) (e))])).num.sign))) ?_
      refine df 23 ?_
      refine WD.cast (t:=113) (u':=.bool (decide ((dT (aA fw ys) (t9) (e))=(dY 0 [((aM fw.toNat ys).base (t9) (e))])))) rfl (congrArg Value.bool (decide_eq_decide.2 Fg)) ?_
      refine dI 24 ?_
      refine aW ?_;refine sq (sq ?_);refine cI [0,1] [] ?_
      refine dv 0 ?_;refine WD.splitb (t:=114) rfl (fun h19=>?_) (fun h19=>?_)
      ·refine dv 1 ?_;refine dv 2 ?_;refine aZ 3 ?_;refine aZ 4 ?_;refine aZ 5 ?_;refine aZ 6 ?_;refine aZ 7 ?_;refine aZ 8 ?_;refine aZ 9 ?_;refine aZ 10 ?_
       refine aZ 11 ?_;refine aZ 12 ?_;refine aZ 13 ?_;refine aZ 14 ?_;refine aZ 15 ?_;refine dv 16 ?_;refine aW ?_;refine dW rfl (sk (sq ?_))
       refine rl (o1 ?_);refine nl (bl ?_)
       refine lp (γ:=Nat) (fun s=>bP [(0,.one (tv (.int .i64 fw))),(1,.one (.t (gT ys))),(5,pN 0),(7,iN i9),(8,pN 1),(9,iN t9),(10,.one (tv (.bool (decide ((dT (aA fw ys) (t9) (e))=(dY 0 [((aM fw.toNat ys).base (t9) (e))])))))),(11,iN s)]) (fun s=>[(⟨39,0,[.t (cR false (bJ fw ys)),.t (cO false false (bG fw ys)),.t (cF false false (aA fw ys))]⟩:Ob),⟨64,0,[tv (.int .i64 ((y:Nat):Int)),tv (.int .i64 ((e:Nat):Int)),tv (.bool (aL ((aM fw.toNat ys).los y e).num)),.t (sU false (dg 4294967296 ((aM fw.toNat ys).los y e).num.natAbs)),tv (.bool false),.t (sU false (dg 4294967296 ((aM fw.toNat ys).los y e).den)),tv (.bool (aL (cU (aA fw ys) y e).num)),.t (sU false (dg 4294967296 (cU (aA fw ys) y e).num.natAbs)),tv (.bool false),.t (sU false (dg 4294967296 (cU (aA fw ys) y e).den)),tv (.bool (aL ((aM fw.toNat ys).ex (aA fw ys) ys.length y e).num)),.t (sU false (dg 4294967296 ((aM fw.toNat ys).ex (aA fw ys) ys.length y e).num.natAbs)),tv (.bool false),.t (sU false (dg 4294967296 ((aM fw.toNat ys).ex (aA fw ys) ys.length y e).den)),tv (.bool (aL ((aM fw.toNat ys).cl (aA fw ys) ys.length y e).num)),.t (sU false (dg 4294967296 ((aM fw.toNat ys).cl (aA fw ys) ys.length y e).num.natAbs)),tv (.bool false),.t (sU false (dg 4294967296 ((aM fw.toNat ys).cl (aA fw ys) ys.length y e).den))]⟩].map some) (fun s=>s≤(aA fw ys).length) (fun s=>(aA fw ys).length-s) 0 (Nat.zero_le _) (aP h0 [0,1] ⟨oe rfl rfl,oe rfl rfl,rfl⟩) ?_
       rintro k8 hk8;refine sq (sq (rl (o1 ?_)));refine o1 ?_;refine ld ?_;refine o1 ?_;refine o1 ?_;refine nl ?_
       refine bF rfl (fun h20=>?_) (fun h20=>?_)
       ·refine sk (sq (bl (sq (rl (o1 ?_)))));refine ld ?_;refine o1 ?_;refine o1 ?_
        refine dV ((dK false) (bN (aA fw ys) (k8))) (aI (f:=(dK false)) (z:=7) (o:=0) (dA false) (dG (by omega)) (bM rfl) rfl) ?_
        refine al 2 ?_;refine st ?_;refine nl (sq (rl (o1 ?_)));refine ld ?_;(iterate 3 refine o1 ?_)
        refine WL.split (t:=147) rfl (fun h21=>?_) (fun h21=>?_)
        ·refine o1 ?_;refine ld ?_;refine o1 ?_;refine ld ?_;(iterate 3 refine o1 ?_);refine WL.split (t:=154) rfl (fun h22=>?_) (fun h22=>?_)
         ·refine o1 ?_;refine ld ?_;refine o1 ?_;refine ld ?_;refine o1 ?_;refine o1 ?_;refine WL.split (t:=160) rfl (fun h23=>?_) (fun h23=>?_)
          ·refine cY ?_;refine cY ?_;refine o1 ?_;refine o1 ?_;refine nl (iC rfl (sq (rl (o1 ?_))));refine nl (rt ?_)
           exact(hfl.2 _ (eA (l:=(aA fw ys)) (i:=k8) (by omega)) h21 h22 (.inl h23)).elim
          refine o1 ?_;refine WL.cast (t:=161) rfl (congrArg Value.bool h19) ?_;(iterate 3 refine o1 ?_);refine nl (dW rfl (sk (rl ?_)))
          refine o1 ?_;refine o1 ?_;refine bB 137 (k8+1) ?_
          refine o1 ?_;refine nl ?_
          exact⟨k8+1,by omega,by omega,aP h0 [0,1] ⟨oe rfl rfl,oe rfl rfl,rfl⟩⟩
         (iterate 9 refine cY ?_);refine o1 ?_;refine nl (dW rfl (sk (rl (o1 ?_))));refine o1 ?_
         refine bB 137 (k8+1) ?_
         refine o1 ?_;refine nl ?_;exact⟨k8+1,by omega,by omega,aP h0 [0,1] ⟨oe rfl rfl,oe rfl rfl,rfl⟩⟩
        (iterate 5 refine cY ?_);refine o1 ?_;refine o1 ?_;(iterate 9 refine cY ?_);refine o1 ?_;refine nl (dW rfl (sk (rl (o1 ?_))))
        refine o1 ?_;refine bB 137 (k8+1) ?_
        refine o1 ?_;refine nl ?_;exact⟨k8+1,by omega,by omega,aP h0 [0,1] ⟨oe rfl rfl,oe rfl rfl,rfl⟩⟩
       refine ex (rl (o1 ?_));refine o1 ?_;refine bB 60 (t9+1) ?_
       refine o1 ?_;refine nl ?_;exact⟨t9+1,by omega,⟨by omega,by omega⟩,aP h0 [0,1] ⟨oe rfl rfl,oe rfl rfl,rfl⟩⟩
      refine dv 1 ?_;refine dv 2 ?_;refine dv 3 ?_;refine aK 4 ?_;refine dv 5 ?_;refine dv 6 ?_;refine dv 7 ?_
      refine dD 8 ((Fr4.of (dZ (aA fw ys) (t9))).tr false) ((by rw[show dZ (aA fw ys) ((t9:Nat):Int)=(fN (bJ fw ys) (t9)).u from by rw[hC.rat (i:=t9) (by omega)];rfl];exact(aI (f:=rlt) (z:=5) (o:=0) eO (fV (by omega)) (bM rfl) rfl))) ?_
      refine dv 9 ?_;refine dv 10 ?_;refine dv 11 ?_;refine dv 12 ?_
      refine dD 13 ((Fr4.of ((aM fw.toNat ys).lim (t9))).tr false) ((by rw[←hC.l (t9) (by omega)];exact(aI (f:=yrt) (z:=6) (o:=2) cL (bR (by omega)) (bM rfl) rfl))) ?_
      refine aS 14 rfl (qL (Qn.of (p:=(dZ (aA fw ys) (t9))) ((hIv.sz_yIn hC.ok (by omega)).mono (M:=68719476736) (by omega))) (Qn.of (p:=((aM fw.toNat ys).lim (t9))) ((hC.ok.lim _ (by omega)).mono (M:=68719476736) (by omega)))) kI ⟨aC rfl,aC rfl,rfl⟩ (.one (tv (.int .i64 ((dZ (aA fw ys) (t9))-((aM fw.toNat ys).lim (t9))).num.sign))) ?_
      refine df 15 ?_;refine df 16 ?_;refine aW ?_;refine bF rfl (fun h24=>?_) (fun h24=>?_)
      ·exact absurd (Fg.2 (hfl.1.resolve_left (by simpa using h19))) h24
      refine sk (sq ?_);have hown9:(dT (aA fw ys) (t9) (e))≠(dY 0 [((aM fw.toNat ys).base (t9) (e))]):=by simpa using h19
      refine rl (o1 ?_);refine nl (bl ?_)
      refine lp (γ:=Nat) (fun s=>bP [(0,.one (tv (.int .i64 fw))),(1,.one (.t (gT ys))),(5,pN 0),(7,iN i9),(8,pN 1),(9,iN t9),(10,.one (tv (.bool (decide ((dT (aA fw ys) (t9) (e))=(dY 0 [((aM fw.toNat ys).base (t9) (e))])))))),(11,iN s)]) (fun s=>[(⟨39,0,[.t (cR false (bJ fw ys)),.t (cO false false (bG fw ys)),.t (cF false false (aA fw ys))]⟩:Ob),⟨64,0,[tv (.int .i64 ((y:Nat):Int)),tv (.int .i64 ((e:Nat):Int)),tv (.bool (aL ((aM fw.toNat ys).los y e).num)),.t (sU false (dg 4294967296 ((aM fw.toNat ys).los y e).num.natAbs)),tv (.bool false),.t (sU false (dg 4294967296 ((aM fw.toNat ys).los y e).den)),tv (.bool (aL (cU (aA fw ys) y e).num)),.t (sU false (dg 4294967296 (cU (aA fw ys) y e).num.natAbs)),tv (.bool false),.t (sU false (dg 4294967296 (cU (aA fw ys) y e).den)),tv (.bool (aL ((aM fw.toNat ys).ex (aA fw ys) ys.length y e).num)),.t (sU false (dg 4294967296 ((aM fw.toNat ys).ex (aA fw ys) ys.length y e).num.natAbs)),tv (.bool false),.t (sU false (dg 4294967296 ((aM fw.toNat ys).ex (aA fw ys) ys.length y e).den)),tv (.bool (aL ((aM fw.toNat ys).cl (aA fw ys) ys.length y e).num)),.t (sU false (dg 4294967296 ((aM fw.toNat ys).cl (aA fw ys) ys.length y e).num.natAbs)),tv (.bool false),.t (sU false (dg 4294967296 ((aM fw.toNat ys).cl (aA fw ys) ys.length y e).den))]⟩].map some) (fun s=>s≤(aA fw ys).length) (fun s=>(aA fw ys).length-s) 0 (Nat.zero_le _) (aP h0 [0,1] ⟨oe rfl rfl,oe rfl rfl,rfl⟩) ?_
      rintro k8 hk8;refine sq (sq (rl (o1 ?_)));refine o1 ?_;refine ld ?_;refine o1 ?_;refine o1 ?_;refine nl ?_
      refine bF rfl (fun h25=>?_) (fun h25=>?_)
      ·refine sk (sq (bl (sq (rl (o1 ?_)))));refine ld ?_;refine o1 ?_;refine o1 ?_
       refine dV ((dK false) (bN (aA fw ys) (k8))) (aI (f:=(dK false)) (z:=7) (o:=0) (dA false) (dG (by omega)) (bM rfl) rfl) ?_
       refine al 2 ?_;refine st ?_;refine nl (sq (rl (o1 ?_)));refine ld ?_;(iterate 3 refine o1 ?_)
       refine WL.split (t:=147) rfl (fun h26=>?_) (fun h26=>?_)
       ·refine o1 ?_;refine ld ?_;refine o1 ?_;refine ld ?_;(iterate 3 refine o1 ?_);refine WL.split (t:=154) rfl (fun h27=>?_) (fun h27=>?_)
        ·refine o1 ?_;refine ld ?_;refine o1 ?_;refine ld ?_;refine o1 ?_;refine o1 ?_;refine WL.split (t:=160) rfl (fun h28=>?_) (fun h28=>?_)
         ·refine cY ?_;refine cY ?_;refine o1 ?_;refine o1 ?_;refine nl (iC rfl (sq (rl (o1 ?_))));refine nl (rt ?_)
          exact(hfl.2 _ (eA (l:=(aA fw ys)) (i:=k8) (by omega)) h26 h27 (.inl h28)).elim
         refine o1 ?_;refine WL.cast (t:=161) rfl (congrArg Value.bool h19) ?_;(iterate 3 refine o1 ?_);refine nl (iC rfl (sq (rl ?_)))
         refine o1 ?_;refine nl (rt ?_);exact(hfl.2 _ (eA (l:=(aA fw ys)) (i:=k8) (by omega)) h26 h27 (.inr hown9)).elim
        (iterate 9 refine cY ?_);refine o1 ?_;refine nl (dW rfl (sk (rl (o1 ?_))));refine o1 ?_
        refine bB 137 (k8+1) ?_
        refine o1 ?_;refine nl ?_
        exact⟨k8+1,by omega,by omega,aP h0 [0,1] ⟨oe rfl rfl,oe rfl rfl,rfl⟩⟩
       (iterate 5 refine cY ?_);refine o1 ?_;refine o1 ?_;(iterate 9 refine cY ?_);refine o1 ?_;refine nl (dW rfl (sk (rl (o1 ?_))))
       refine o1 ?_;refine bB 137 (k8+1) ?_
       refine o1 ?_;refine nl ?_;exact⟨k8+1,by omega,by omega,aP h0 [0,1] ⟨oe rfl rfl,oe rfl rfl,rfl⟩⟩
      refine ex (rl (o1 ?_));refine o1 ?_;refine bB 60 (t9+1) ?_
      refine o1 ?_;refine nl ?_;exact⟨t9+1,by omega,⟨by omega,by omega⟩,aP h0 [0,1] ⟨oe rfl rfl,oe rfl rfl,rfl⟩⟩
     refine dv 19 ?_;refine dv 20 ?_;refine dv 21 ?_;refine aZ 22 ?_;refine aZ 23 ?_;refine aZ 24 ?_;refine aZ 25 ?_;refine aZ 26 ?_;refine aZ 27 ?_;refine dv 28 ?_
     refine aW ?_;refine iC rfl (ex (rl (o1 ?_)));refine o1 ?_;refine bB 60 (t9+1) ?_
     refine o1 ?_;refine nl ?_;exact⟨t9+1,by omega,⟨by omega,by omega⟩,aP h0 [0,1] ⟨oe rfl rfl,oe rfl rfl,rfl⟩⟩
    refine ex (rl (o1 ?_));refine o1 ?_;refine bB 38 (i9+1) ?_
    refine o1 ?_;refine nl ?_;exact⟨i9+1,by omega,by omega,aP h0 [0] ⟨oe rfl rfl,rfl⟩⟩
   (iterate 6 refine cY ?_);refine o1 ?_;refine nl (dW rfl (ex (rl (o1 ?_))));refine o1 ?_
   refine bB 38 (i9+1) ?_
   refine o1 ?_;refine nl ?_;exact⟨i9+1,by omega,by omega,aP h0 [0] ⟨oe rfl rfl,rfl⟩⟩
  refine ex (sq (rl (ca (fX) vT rfl (.one (tv (.bool true))) ?_)));refine o1 ?_;refine nl (rt ?_);exact gO (.inl rfl) rfl (rfl)
 refine o1 ?_;refine nl (iC rfl (sq (rl (ca (fX) vT rfl (.one (tv (.bool true))) ?_))));refine o1 ?_;refine nl (rt ?_)
 exact gO (.inl rfl) rfl (rfl)
def mB (n e:Nat):Bool:=decide ((IntKind.i64).wrap ((BitVec.ofInt (IntKind.i64).bits (Int.fdiv ((n:Nat):Int) (2^(min (Int.toNat ((e:Nat):Int)) (IntKind.i64).bits)))&&& BitVec.ofInt (IntKind.i64).bits 1).toNat)=0)
def bQ (n e:Nat):Rat:=Rat.divInt ((((n*(e+3)+e)%13:Nat):Int)-6) ((1+e%2:Nat):Int)
def lQ (n:Nat):Rat:=Rat.divInt (((n*5)%11:Nat):Int) 1
def Fh (n k:Nat):List Bool:=(List.range k).map (mB n)
def Fi (n k:Nat):List Rat:=(List.range k).map (bQ n)
def yJ (n:Nat):Yr:=⟨Fh n 3,(Fi n 3).map Fr4.of,Fr4.of (lQ n)⟩
theorem GU (xs:List Bool) (b:Bool):(bT xs).map AV.t++[.t (.v (.bool b))]=(bT (xs++[b])).map .t:=by simp[bT]
theorem Uh {n k:Nat}:(Fh n k).length=k:=by simp[Fh]
theorem NS {n k:Nat}:(Fi n k).length=k:=by simp[Fi]
theorem vV {n:Nat}(hn:n≤1000):aE false Tryz.prog 27 [] [.one (tv (.int .i64 ((n:Nat):Int)))] (aT (.agg ((yrt (yJ n)).map .t))):=by
 refine GA Tryz.func27 rfl Tryz.ntmps27 rfl aF rfl fun N9 w9 c0 h0=>?_
 refine sq (rl (al 0 ?_));refine nl (sq (rl (o1 ?_)));refine o1 ?_
 refine bB 6 (n*5) ?_
 refine o1 ?_;refine WL.cast (t:=7) (u':=.int .i64 (((n*5)%11:Nat):Int)) rfl (dO (jG _ 11)) ?_
 refine ca (kZ (n:=(((n*5)%11:Nat):Int)) (d:=1) (by omega) (by omega) (by omega) (by omega)) nV ⟨a1 rfl,a1 rfl,rfl⟩ (qF (.of (lQ n))) ?_
 refine o1 ?_;refine al 1 ?_;refine st ?_;refine nl (sq (sq (rl (o1 ?_))));refine nl (bl ?_)
 refine WP.sub ((sT (j:=1) (key:=2) (e:=4) (z:=1) rfl rfl rfl (.sl (.id (.id (.id (.id (.id .nil))))))).trans (sT (j:=1) (key:=3) (e:=48) (z:=4) rfl rfl rfl (.id (.sl (.id (.id (.id (.id .nil)))))))) ?_
 refine lp (γ:=Nat) (fun s=>bP [(0,iN n),(2,pN 0),(3,pN 1),(4,iN s)]) (fun s=>[(⟨67,0,[tv (.slice none 0 0),tv (.slice none 0 0),tv (.bool false),tv (.slice none 0 0),tv (.bool false),tv (.slice none 0 0)]⟩:Ob),⟨67,0,([.sl 2 0 s,.sl 3 0 s]:List AV)++((Fr4.of (lQ n)).tr false).map .t⟩,⟨4,1,(bT (Fh n s)).map .t⟩,⟨48,4,((Fi n s).flatMap qt).map .t⟩].map some) (fun s=>s≤3) (fun s=>3-s) 0 (Nat.zero_le _) (aP h0 [0,1,2,3] ⟨oe rfl rfl,oe rfl rfl,aB rfl,aB rfl,rfl⟩) ?_
 rintro e he;refine sq (sq (rl (o1 ?_)));refine o1 ?_;refine nl ?_;refine bF rfl (fun h1=>?_) (fun h1=>?_)
 ·refine sk (sq (bl (sq ?_)));have he9:e<3:=by omega
  refine cI [0,1] [10] ?_
  refine dv 0 ?_;refine aK 1 ?_;refine dv 2 ?_;refine dv 3 ?_;refine dv 4 ?_;refine dv 5 ?_;refine dv 6 ?_;refine iG (key:=4) 7 (by kernel_rfl) rfl rfl aF rfl ⟨rfl,rfl,trivial⟩ ?_
  refine kC (j:=5) (n:=e) (l:=(bT (Fh n e)).map .t) 8 rfl aF rfl rfl rfl (.sl rfl (by rw[dB,Nu,Uh,Nat.mul_one])) (.sl rfl rfl rfl) rfl rfl (by omega) (by omega) rfl ⟨rfl,rfl,trivial⟩ rfl (by kernel_rfl) rfl ?_
  refine dv 9 ?_;refine dst 10 ?_;refine aW ?_;have hm1:((n:Nat):Int)*((e+3:Nat):Int)=((n*(e+3):Nat):Int):=(Int.natCast_mul _ _).symm
  have hm2:n*(e+3)≤1000*6:=Nat.mul_le_mul hn (by omega)
  refine cI [0,1,4] [17] ?_
  refine dv 0 ?_;refine aK 1 ?_;refine dv 2 ?_;refine dv 3 ?_;refine dv 4 ?_;refine vE 28 (e+3) ?_
  refine dv 5 ?_ (hC:=(by simp only[jJ];omega))
  refine WD.cast (t:=29) (u':=.int .i64 ((n*(e+3):Nat):Int)) rfl (dO (Int.natCast_mul _ _).symm) ?_;refine dv 6 ?_;refine dv 7 ?_
  refine vE 31 (n*(e+3)+e) ?_
  refine dv 8 ?_;refine WD.cast (t:=32) (u':=.int .i64 (((n*(e+3)+e)%13:Nat):Int)) rfl (dO (jG _ 13)) ?_;refine dv 9 ?_;refine dv 10 ?_;refine dv 11 ?_
  refine WD.cast (t:=35) (u':=.int .i64 ((e%2:Nat):Int)) rfl (dO (jG _ 2)) ?_;refine dv 12 ?_
  refine vE 36 (1+(e%2)) ?_
  refine aS 13 rfl (kZ (n:=(((n*(e+3)+e)%13:Nat):Int)-6) (d:=((1+e%2:Nat):Int)) (by omega) (by omega) (by omega) (by omega)) nV ⟨a1 rfl,a1 rfl,rfl⟩ (qF (.of (bQ n e))) ?_
  refine iG (key:=6) 14 (by kernel_rfl) rfl rfl aF rfl ⟨rfl,rfl,rfl,trivial⟩ ?_
  refine kC (j:=7) (n:=e) (l:=((Fi n e).flatMap qt).map .t) 15 rfl aF rfl rfl rfl (.sl rfl (by rw[dB,bE mF,NS])) (.sl rfl rfl rfl) rfl rfl (by omega) (by omega) rfl ⟨rfl,rfl,rfl,trivial⟩ rfl (by kernel_rfl) rfl ?_
  refine dv 16 ?_;refine dst 17 ?_;refine aW ?_;refine rl (o1 ?_);refine o1 ?_;refine bB 13 (e+1) ?_
  refine o1 ?_;refine nl ?_
  exact⟨e+1,by omega,by omega,aP h0 [0,1,5,7] ⟨oe rfl rfl,oe rfl rfl,aB (congrArg (fun l:List AV=>some (⟨4,1,l⟩:Ob)) ((GU (Fh n e) (mB n e)).trans (by unfold Fh;rw[List.range_succ,List.map_append];rfl))),aB (congrArg (fun l:List AV=>some (⟨48,4,l⟩:Ob)) ((Hl (Fi n e) (bQ n e)).trans (by unfold Fi;rw[List.range_succ,List.map_append];rfl))),rfl⟩⟩
 refine ex (sq ?_);have hee:e=3:=by omega
 subst hee;refine rl (ld ?_)
 refine WL.sub (Ub (i:=41) (k:=2) (t:=4) (z:=1) (n:=3) (l:=bT (Fh n 3)) rfl rfl rfl rfl (.agg (.cons .sl (.cons .id (.cons .id (.cons .id (.cons .id (.cons .id .nil)))))))) ?_
 refine WL.sub (Ox (i:=41) (k:=3) (t:=48) (z:=4) (n:=3) (l:=((Fi n 3).map Fr4.of).flatMap (Fr4.tr false)) 52 rfl rfl (congrArg (fun l:List Tr=>some (⟨48,4,l.map .t⟩:Ob)) (Oo (Fi n 3))) rfl (.agg (.cons .id (.cons .sl (.cons .id (.cons .id (.cons .id (.cons .id .nil)))))))) ?_
 refine st ?_;refine nl (rt ?_)
 exact uR <| en (.inl rfl) rfl (bD (.agg (.cons (.id rfl) (.cons (.id rfl) (.cons (.id rfl) (.cons (.id rfl) (.cons (.id rfl) (.cons (.id rfl) .nil)))))))) (by decide) (fun h=>by cases h) rfl
theorem BA {m:Bool}{b l:Int}(h1:-9223372036854775808≤b) (h2:b≤9223372036854775807) (h3:-9223372036854775808≤l) (h4:l≤9223372036854775807):aE false Tryz.prog 28 [] [.one (tv (.bool m)),.one (tv (.int .i64 b)),.one (tv (.int .i64 l))] (aT (.agg [.t (.s true 4 1 2 (bT [true,m])),.t (.s true 48 4 2 ([(Rat.divInt 7 2),(Rat.divInt b 1)].flatMap qt)),tv (.bool (aL (Rat.divInt l 1).num)),.t (sU false (dg 4294967296 (Rat.divInt l 1).num.natAbs)),tv (.bool false),.t (sU false (dg 4294967296 (Rat.divInt l 1).den))])):=by
 refine bV Tryz.func28 rfl Tryz.ntmps28 rfl aF rfl fun N9 w9 c0 h0=>?_
 refine sq (rl (al 0 ?_));refine nl (sq (rl (o1 ?_)));refine bs 1 ?_
 refine ca (kZ (n:=7) (d:=2) (by omega) (by omega) (by omega) (by omega)) nV ⟨a1 rfl,a1 rfl,rfl⟩ (qF (.of (Rat.divInt 7 2))) ?_
 refine o1 ?_;refine ca (kZ (n:=b) (d:=1) (by omega) (by omega) (by omega) (by omega)) nV ⟨a1 rfl,a1 rfl,rfl⟩ (qF (.of (Rat.divInt b 1))) ?_
 refine bs 2 ?_;refine o1 ?_;refine ca (kZ (n:=l) (d:=1) (by omega) (by omega) (by omega) (by omega)) nV ⟨a1 rfl,a1 rfl,rfl⟩ (qF (.of (Rat.divInt l 1))) ?_
 refine o1 ?_;refine st ?_;refine nl (rt ?_)
 exact en (.inl rfl) rfl (bD (.agg (.cons (.sl (trs:=bT [true,m]) rfl rfl rfl rfl) (.cons (.sl (trs:=[(Rat.divInt 7 2),(Rat.divInt b 1)].flatMap qt) rfl rfl rfl rfl) (.cons (.id rfl) (.cons (.id rfl) (.cons (.id rfl) (.cons (.id rfl) .nil)))))))) (by decide) (fun h=>by cases h) rfl
theorem lW (q:Rat):LimF (Fr4.of q):=⟨aU (by omega) _,aU (by omega) _⟩
theorem nK:LimF nilF:=by constructor <;> intro x hx <;> cases hx
def Fj (n:Nat):List Yr:=[yJ n,yJ (n*3+1),yJ (n*7+2),yJ (n*11+5),yJ (n+9)]
theorem NT (n:Nat):iH (yJ n):=⟨fun a ha=>by
 obtain⟨q,_,rfl⟩:=List.mem_map.1 ha
 exact lW q,lW _⟩
theorem Bk {n:Nat}:∀y∈Fj n,iH y:=fun y hy=>by
 simp only[Fj,pL,List.not_mem_nil,or_false]at hy
 rcases hy with rfl | rfl | rfl | rfl | rfl <;> exact NT _
theorem Fk {n:Nat}:(aG (Fj n) 0).m.length*(Fj n).length<20:=by
 show(Fh n 3).length*5<20
 rw[Uh]
 omega
def yC0:Yr:=⟨[true],[Fr4.of (Rat.divInt 7 2),Fr4.of (Rat.divInt (-1) 1)],Fr4.of (Rat.divInt 1 1)⟩
def yC1:Yr:=⟨[true,false],[Fr4.of (Rat.divInt 7 2)],Fr4.of (Rat.divInt 1 1)⟩
def yC2:Yr:=⟨[true,false],[Fr4.of (Rat.divInt 7 2),nilF],Fr4.of (Rat.divInt 1 1)⟩
def yC3:Yr:=⟨[true,false],[Fr4.of (Rat.divInt 7 2),Fr4.of (Rat.divInt (-1) 1)],nilF⟩
def yC4:Yr:=⟨[true,false],[Fr4.of (Rat.divInt 7 2),Fr4.of (Rat.divInt (-1) 1)],Fr4.of (Rat.divInt (-1) 2)⟩
def yC5:Yr:=⟨[true,false,true],[Fr4.of (Rat.divInt 7 2),Fr4.of (Rat.divInt (-1) 1),Fr4.of (Rat.divInt 1 1)],Fr4.of (Rat.divInt 1 1)⟩
theorem Ic:iH yC0:=⟨fun a ha=>by
 simp only[yC0,pL,List.not_mem_nil,or_false]at ha
 rcases ha with rfl | rfl <;> first | exact lW _ | exact nK,by first | exact lW _ | exact nK⟩
theorem Id:iH yC1:=⟨fun a ha=>by
 simp only[yC1,pL,List.not_mem_nil,or_false]at ha
 rcases ha with rfl <;> first | exact lW _ | exact nK,by first | exact lW _ | exact nK⟩
theorem Ie:iH yC2:=⟨fun a ha=>by
 simp only[yC2,pL,List.not_mem_nil,or_false]at ha
 rcases ha with rfl | rfl <;> first | exact lW _ | exact nK,by first | exact lW _ | exact nK⟩
theorem If:iH yC3:=⟨fun a ha=>by
 simp only[yC3,pL,List.not_mem_nil,or_false]at ha
 rcases ha with rfl | rfl <;> first | exact lW _ | exact nK,by first | exact lW _ | exact nK⟩
theorem Ig:iH yC4:=⟨fun a ha=>by
 simp only[yC4,pL,List.not_mem_nil,or_false]at ha
 rcases ha with rfl | rfl <;> first | exact lW _ | exact nK,by first | exact lW _ | exact nK⟩
theorem Ih:iH yC5:=⟨fun a ha=>by
 simp only[yC5,pL,List.not_mem_nil,or_false]at ha
 rcases ha with rfl | rfl | rfl <;> first | exact lW _ | exact nK,by first | exact lW _ | exact nK⟩
theorem lK {y:Yr}(h:iH y):∀x∈[fH true 1 1,y],iH x:=fun x hx=>by
 simp only[pL,List.not_mem_nil,or_false]at hx
 rcases hx with rfl | rfl
 ·exact Bh
 exact h
theorem vW {y:Yr}(h:iH y):∀x∈[y],iH x:=fun x hx=>by
 rw[List.mem_singleton]at hx
 subst hx
 exact h
theorem TC {k:Nat}:∀x∈List.replicate k (fH true 1 1),iH x:=fun x hx=>by
 rw[List.eq_of_mem_replicate hx]
 exact Bh
set_option maxHeartbeats 4000000 in
theorem Sf:aE true Tryz.prog 7 [] [] (aT (.one (tv (.bool true)))):=by
 refine bV Tryz.func7 rfl Tryz.ntmps7 rfl aF rfl fun N9 w9 c0 h0=>?_
 refine sq (rl (o1 ?_));refine nl (sq (sq (rl (o1 ?_))));refine nl (bl ?_)
 refine lp (γ:=Nat) (fun s=>bP [(1,.one (tv (.int .i64 (((s:Nat):Int)-1))))]) (fun s=>([]:List Ob).map some) (fun s=>s≤6) (fun s=>6-s) 0 (Nat.zero_le _) (aP h0 [] rfl) ?_
 rintro u hu;refine sq (sq (rl (o1 ?_)));refine o1 ?_;refine nl ?_;refine bF rfl (fun h1=>?_) (fun h1=>?_)
 ·refine sk (sq (bl (sq (rl (o1 ?_)))));refine nl (bl ?_)
  refine lp (γ:=Nat) (fun s=>bP [(1,.one (tv (.int .i64 (((u:Nat):Int)-1)))),(2,iN s)]) (fun s=>([]:List Ob).map some) (fun s=>s≤60) (fun s=>60-s) 0 (Nat.zero_le _) (aP h0 [] rfl) ?_
  rintro n9 hn9;refine sq (sq (rl (o1 ?_)));refine o1 ?_;refine nl ?_;refine bF rfl (fun h2=>?_) (fun h2=>?_)
  ·refine sk (sq (bl (sq (rl (o1 ?_)))));refine ca (vV (n:=n9) (by omega)) Pe ⟨a1 rfl,rfl⟩ (.agg ((yrt (yJ (n9))).map .t)) ?_
   refine o1 ?_;refine o1 ?_;refine bB 20 (n9*3) ?_
   refine o1 ?_;refine bB 21 (n9*3+1) ?_
   refine ca (vV (n:=n9*3+1) (by omega)) Pe ⟨a1 rfl,rfl⟩ (.agg ((yrt (yJ (n9*3+1))).map .t)) ?_
   refine o1 ?_;refine o1 ?_;refine bB 24 (n9*7) ?_
   refine o1 ?_;refine bB 25 (n9*7+2) ?_
   refine ca (vV (n:=n9*7+2) (by omega)) Pe ⟨a1 rfl,rfl⟩ (.agg ((yrt (yJ (n9*7+2))).map .t)) ?_
   refine o1 ?_;refine o1 ?_;refine bB 28 (n9*11) ?_
   refine o1 ?_;refine bB 29 (n9*11+5) ?_
   refine ca (vV (n:=n9*11+5) (by omega)) Pe ⟨a1 rfl,rfl⟩ (.agg ((yrt (yJ (n9*11+5))).map .t)) ?_
   refine o1 ?_;refine o1 ?_;refine bB 32 (n9+9) ?_
   refine ca (vV (n:=n9+9) (by omega)) Pe ⟨a1 rfl,rfl⟩ (.agg ((yrt (yJ (n9+9))).map .t)) ?_
   refine bs 0 ?_;refine WL.sub (fz (i:=34) (k:=0) (t:=67) (z:=6) (n:=5) (l:=(Fj n9).flatMap yrt) rfl rfl rfl rfl) ?_;refine o1 ?_;refine nl (sq (rl ?_))
   (iterate 4 refine o1 ?_);refine WL.cast (t:=38) (u':=.int .i64 ((n9%4:Nat):Int)) rfl (dO (jG _ 4)) ?_
   refine ca (eP (fw:=(((u:Nat):Int)-1)) (ent:=((n9%4:Nat):Int)) (ys:=Fj n9) Bk (fun _=>Fk)) rN ⟨a1 rfl,a1 rfl,a1 rfl,rfl⟩ (.one (tv (.bool true))) ?_
   (iterate 4 refine o1 ?_);refine ca (gL (fw:=(((u:Nat):Int)-1)) (ys:=Fj n9) Bk (fun _=>Fk)) Pf ⟨a1 rfl,a1 rfl,rfl⟩ (.one (tv (.bool true))) ?_
   (iterate 5 refine o1 ?_);refine ca (Se (fw:=(((u:Nat):Int)-1)) (ys:=Fj n9) Bk (fun _=>Fk)) ok5 ⟨a1 rfl,a1 rfl,rfl⟩ (.one (tv (.bool true))) ?_
   (iterate 6 refine o1 ?_)
   refine ca (Sd (fw:=(((u:Nat):Int)-1)) (n:=((n9:Nat):Int)) (ys:=Fj n9) Bk Fk) ok4 ⟨a1 rfl,a1 rfl,a1 rfl,rfl⟩ (.one (tv (.bool true))) ?_;refine o1 ?_
   refine o1 ?_;refine nl (dW rfl (sk (rl (o1 ?_))));refine o1 ?_;refine bB 16 (n9+1) ?_
   refine o1 ?_;refine nl ?_;exact⟨n9+1,by omega,by omega,iU h0 [] _ _ (by decide) ⟨rfl,oG (by omega),trivial⟩ rfl⟩
  refine ex (rl ?_);(iterate 3 refine o1 ?_);refine nl ?_;exact⟨u+1,by omega,by omega,iU h0 [] _ _ (by decide) ⟨oG (by omega),trivial⟩ rfl⟩
 refine ex (sq (rl ?_))
 refine ca (mH (m:=true) (b:=1) (l:=1) (by omega) (by omega) (by omega) (by omega)) xJ ⟨a1 rfl,a1 rfl,a1 rfl,rfl⟩ (.agg ((yrt (fH true 1 1)).map .t)) ?_
 refine al 0 ?_;refine st ?_;refine nl (sq (sq (rl (o1 ?_))));refine nl (bl ?_)
 refine lp (γ:=Nat) (fun s=>bP [(4,pN 0),(5,iN s)]) (fun s=>[(⟨67,0,(yrt (fH true 1 1)).map .t⟩:Ob)].map some) (fun s=>s≤6) (fun s=>6-s) 0 (Nat.zero_le _) (aP h0 [0] ⟨aB rfl,rfl⟩) ?_
 rintro i9 hi9;refine sq (sq (rl (o1 ?_)));refine o1 ?_;refine nl ?_;refine bF rfl (fun h3=>?_) (fun h3=>?_)
 ·refine sk (sq (bl (sq (rl ?_))))
  refine iS 1 (BA (m:=false) (b:=-1) (l:=1) (by omega) (by omega) (by omega) (by omega)) xJ ⟨a1 rfl,a1 rfl,a1 rfl,rfl⟩ ?_
  refine al 3 ?_;refine st ?_;refine nl (sq (sq (rl (o1 ?_))));refine nl (bl (sq (rl (o1 ?_))));refine o1 ?_
  refine nl ?_;refine bF rfl (fun h4=>?_) (fun h4=>?_)
  ·refine rl (bs 4 ?_);refine o1 ?_;refine st ?_;refine nl (sq (rl (ld ?_)));refine ld ?_;refine bs 5 ?_
   refine ca (eP (fw:=2) (ent:=((0:Nat):Int)) (ys:=[(fH true 1 1),yC0]) (lK Ic) (fun _=>by decide)) rN ⟨a1 rfl,nE (trs:=([(fH true 1 1),yC0]).flatMap yrt) rfl rfl rfl (.cons .t (.cons .t (.cons .t (.cons .t (.cons .t (.cons .t (.cons (.sl rfl rfl rfl rfl) (.cons (.sl rfl rfl rfl rfl) (.cons .t (.cons .t (.cons .t (.cons .t .nil)))))))))))) rfl,a1 rfl,rfl⟩ (.one (tv (.bool true))) ?_
   refine o1 ?_;refine o1 ?_;refine ld ?_;refine bs 6 ?_
   refine ca (eP (fw:=2) (ent:=((1:Nat):Int)) (ys:=[yC0]) (vW Ic) (fun _=>by decide)) rN ⟨a1 rfl,nE (trs:=([yC0]).flatMap yrt) rfl rfl rfl (.cons (.sl rfl rfl rfl rfl) (.cons (.sl rfl rfl rfl rfl) (.cons .t (.cons .t (.cons .t (.cons .t .nil)))))) rfl,a1 rfl,rfl⟩ (.one (tv (.bool true))) ?_
   (iterate 3 refine o1 ?_);refine ld ?_;refine ld ?_;refine bs 7 ?_
   refine ca (gL (fw:=2) (ys:=[(fH true 1 1),yC0]) (lK Ic) (fun _=>by decide)) Pf ⟨a1 rfl,nE (trs:=([(fH true 1 1),yC0]).flatMap yrt) rfl rfl rfl (.cons .t (.cons .t (.cons .t (.cons .t (.cons .t (.cons .t (.cons (.sl rfl rfl rfl rfl) (.cons (.sl rfl rfl rfl rfl) (.cons .t (.cons .t (.cons .t (.cons .t .nil)))))))))))) rfl,rfl⟩ (.one (tv (.bool true))) ?_
   refine o1 ?_;refine o1 ?_;refine nl (dW rfl (sk (rl (o1 ?_))));refine o1 ?_
   refine bB 64 (i9+1) ?_
   refine o1 ?_;refine nl ?_;exact⟨i9+1,by omega,by omega,iU h0 [0] _ _ (by decide) ⟨rfl,oG (by omega),trivial⟩ ⟨aB rfl,rfl⟩⟩
  refine sq (rl (o1 ?_));refine o1 ?_;refine nl ?_;refine bF rfl (fun h5=>?_) (fun h5=>?_)
  ·refine rl (o1 ?_);refine ld ?_;refine o1 ?_;refine o1 ?_;refine st ?_;refine nl (sq (rl (ld ?_)));refine ld ?_;refine bs 4 ?_
   refine ca (eP (fw:=2) (ent:=((0:Nat):Int)) (ys:=[(fH true 1 1),yC1]) (lK Id) (fun _=>by decide)) rN ⟨a1 rfl,nE (trs:=([(fH true 1 1),yC1]).flatMap yrt) rfl rfl rfl (.cons .t (.cons .t (.cons .t (.cons .t (.cons .t (.cons .t (.cons (.sl rfl rfl rfl rfl) (.cons (.sl rfl rfl rfl rfl) (.cons .t (.cons .t (.cons .t (.cons .t .nil)))))))))))) rfl,a1 rfl,rfl⟩ (.one (tv (.bool true))) ?_
   refine o1 ?_;refine o1 ?_;refine ld ?_;refine bs 5 ?_
   refine ca (eP (fw:=2) (ent:=((1:Nat):Int)) (ys:=[yC1]) (vW Id) (fun _=>by decide)) rN ⟨a1 rfl,nE (trs:=([yC1]).flatMap yrt) rfl rfl rfl (.cons (.sl rfl rfl rfl rfl) (.cons (.sl rfl rfl rfl rfl) (.cons .t (.cons .t (.cons .t (.cons .t .nil)))))) rfl,a1 rfl,rfl⟩ (.one (tv (.bool true))) ?_
   (iterate 3 refine o1 ?_);refine ld ?_;refine ld ?_;refine bs 6 ?_
   refine ca (gL (fw:=2) (ys:=[(fH true 1 1),yC1]) (lK Id) (fun _=>by decide)) Pf ⟨a1 rfl,nE (trs:=([(fH true 1 1),yC1]).flatMap yrt) rfl rfl rfl (.cons .t (.cons .t (.cons .t (.cons .t (.cons .t (.cons .t (.cons (.sl rfl rfl rfl rfl) (.cons (.sl rfl rfl rfl rfl) (.cons .t (.cons .t (.cons .t (.cons .t .nil)))))))))))) rfl,rfl⟩ (.one (tv (.bool true))) ?_
   refine o1 ?_;refine o1 ?_;refine nl (dW rfl (sk (rl (o1 ?_))));refine o1 ?_
   refine bB 64 (i9+1) ?_
   refine o1 ?_;refine nl ?_;exact⟨i9+1,by omega,by omega,iU h0 [0] _ _ (by decide) ⟨rfl,oG (by omega),trivial⟩ ⟨aB rfl,rfl⟩⟩
  refine sq (rl (o1 ?_));refine o1 ?_;refine nl ?_;refine bF rfl (fun h6=>?_) (fun h6=>?_)
  ·refine rl (o1 ?_);refine ld ?_;refine o1 ?_;refine o1 ?_
   refine tU (o:=0+1*4) (l:=([(Rat.divInt 7 2),(Rat.divInt (-1) 1)].flatMap qt).map .t) (l':=(qt (Rat.divInt 7 2)).map .t++[tv (.bool false),tv (.slice none 0 0),tv (.bool false),tv (.slice none 0 0)]) (us:=[tv (.bool false),tv (.slice none 0 0),tv (.bool false),tv (.slice none 0 0)]) rfl (bM rfl) ?_
   refine nl (sq ?_)
   refine WP.sub ((sT (j:=2) (key:=4) (e:=113) (z:=1) rfl rfl rfl (.id (.id (.id (.id (.id (.sl (.id (.id .nil))))))))).trans (sT (j:=2) (key:=5) (e:=113) (z:=1) rfl rfl rfl (.id (.id (.id (.id (.id (.id (.id (.sl .nil)))))))))) ?_
   refine WP.sub (iJ (j:=2) (k:=4) (p:=5) (e:=113) (z:=1) (n:=0) (trs:=[]) rfl rfl rfl rfl rfl rfl rfl rfl) ?_
   refine WP.sub (iJ (j:=2) (k:=5) (p:=7) (e:=113) (z:=1) (n:=0) (trs:=[]) rfl rfl rfl rfl rfl rfl rfl rfl) ?_;refine rl (ld ?_);refine ld ?_;refine bs 6 ?_
   refine ca (eP (fw:=2) (ent:=((0:Nat):Int)) (ys:=[(fH true 1 1),yC2]) (lK Ie) (fun _=>by decide)) rN ⟨a1 rfl,nE (trs:=([(fH true 1 1),yC2]).flatMap yrt) rfl rfl rfl (.cons .t (.cons .t (.cons .t (.cons .t (.cons .t (.cons .t (.cons (.sl rfl rfl rfl rfl) (.cons (.sr (trs:=qt (Rat.divInt 7 2)++[.v (.bool false),.s true 113 1 0 [],.v (.bool false),.s true 113 1 0 []]) rfl rfl rfl rfl rfl) (.cons .t (.cons .t (.cons .t (.cons .t .nil)))))))))))) rfl,a1 rfl,rfl⟩ (.one (tv (.bool true))) ?_
   refine o1 ?_;refine o1 ?_;refine ld ?_;refine bs 7 ?_
   refine ca (eP (fw:=2) (ent:=((1:Nat):Int)) (ys:=[yC2]) (vW Ie) (fun _=>by decide)) rN ⟨a1 rfl,nE (trs:=([yC2]).flatMap yrt) rfl rfl rfl (.cons (.sl rfl rfl rfl rfl) (.cons (.sr (trs:=qt (Rat.divInt 7 2)++[.v (.bool false),.s true 113 1 0 [],.v (.bool false),.s true 113 1 0 []]) rfl rfl rfl rfl rfl) (.cons .t (.cons .t (.cons .t (.cons .t .nil)))))) rfl,a1 rfl,rfl⟩ (.one (tv (.bool true))) ?_
   (iterate 3 refine o1 ?_);refine ld ?_;refine ld ?_;refine bs 8 ?_
   refine ca (gL (fw:=2) (ys:=[(fH true 1 1),yC2]) (lK Ie) (fun _=>by decide)) Pf ⟨a1 rfl,nE (trs:=([(fH true 1 1),yC2]).flatMap yrt) rfl rfl rfl (.cons .t (.cons .t (.cons .t (.cons .t (.cons .t (.cons .t (.cons (.sl rfl rfl rfl rfl) (.cons (.sr (trs:=qt (Rat.divInt 7 2)++[.v (.bool false),.s true 113 1 0 [],.v (.bool false),.s true 113 1 0 []]) rfl rfl rfl rfl rfl) (.cons .t (.cons .t (.cons .t (.cons .t .nil)))))))))))) rfl,rfl⟩ (.one (tv (.bool true))) ?_
   refine o1 ?_;refine o1 ?_;refine nl (dW rfl (sk (rl (o1 ?_))));refine o1 ?_
   refine bB 64 (i9+1) ?_
   refine o1 ?_;refine nl ?_;exact⟨i9+1,by omega,by omega,iU h0 [0] _ _ (by decide) ⟨rfl,oG (by omega),trivial⟩ ⟨aB rfl,rfl⟩⟩
  refine sq (rl (o1 ?_));refine o1 ?_;refine nl ?_;refine bF rfl (fun h7=>?_) (fun h7=>?_)
  ·refine rl (o1 ?_);refine o1 ?_;refine st ?_;refine nl (sq (rl (ld ?_)));refine ld ?_;refine bs 4 ?_
   refine ca (eP (fw:=2) (ent:=((0:Nat):Int)) (ys:=[(fH true 1 1),yC3]) (lK If) (fun _=>by decide)) rN ⟨a1 rfl,nE (trs:=([(fH true 1 1),yC3]).flatMap yrt) rfl rfl rfl (.cons .t (.cons .t (.cons .t (.cons .t (.cons .t (.cons .t (.cons (.sl rfl rfl rfl rfl) (.cons (.sl rfl rfl rfl rfl) (.cons .t (.cons .nil (.cons .t (.cons .nil .nil)))))))))))) rfl,a1 rfl,rfl⟩ (.one (tv (.bool true))) ?_
   refine o1 ?_;refine o1 ?_;refine ld ?_;refine bs 5 ?_
   refine ca (eP (fw:=2) (ent:=((1:Nat):Int)) (ys:=[yC3]) (vW If) (fun _=>by decide)) rN ⟨a1 rfl,nE (trs:=([yC3]).flatMap yrt) rfl rfl rfl (.cons (.sl rfl rfl rfl rfl) (.cons (.sl rfl rfl rfl rfl) (.cons .t (.cons .nil (.cons .t (.cons .nil .nil)))))) rfl,a1 rfl,rfl⟩ (.one (tv (.bool true))) ?_
   (iterate 3 refine o1 ?_);refine ld ?_;refine ld ?_;refine bs 6 ?_
   refine ca (gL (fw:=2) (ys:=[(fH true 1 1),yC3]) (lK If) (fun _=>by decide)) Pf ⟨a1 rfl,nE (trs:=([(fH true 1 1),yC3]).flatMap yrt) rfl rfl rfl (.cons .t (.cons .t (.cons .t (.cons .t (.cons .t (.cons .t (.cons (.sl rfl rfl rfl rfl) (.cons (.sl rfl rfl rfl rfl) (.cons .t (.cons .nil (.cons .t (.cons .nil .nil)))))))))))) rfl,rfl⟩ (.one (tv (.bool true))) ?_
   refine o1 ?_;refine o1 ?_;refine nl (dW rfl (sk (rl (o1 ?_))));refine o1 ?_
   refine bB 64 (i9+1) ?_
   refine o1 ?_;refine nl ?_;exact⟨i9+1,by omega,by omega,iU h0 [0] _ _ (by decide) ⟨rfl,oG (by omega),trivial⟩ ⟨aB rfl,rfl⟩⟩
  refine sq (rl (o1 ?_));refine o1 ?_;refine nl ?_;refine bF rfl (fun h8=>?_) (fun h8=>?_)
  ·refine rl (ca (kZ (n:=-1) (d:=2) (by omega) (by omega) (by omega) (by omega)) nV ⟨a1 rfl,a1 rfl,rfl⟩ (qF (.of (Rat.divInt (-1) 2))) ?_)
   refine o1 ?_;refine st ?_;refine nl (sq (rl (ld ?_)));refine ld ?_;refine bs 4 ?_
   refine ca (eP (fw:=2) (ent:=((0:Nat):Int)) (ys:=[(fH true 1 1),yC4]) (lK Ig) (fun _=>by decide)) rN ⟨a1 rfl,nE (trs:=([(fH true 1 1),yC4]).flatMap yrt) rfl rfl rfl (.cons .t (.cons .t (.cons .t (.cons .t (.cons .t (.cons .t (.cons (.sl rfl rfl rfl rfl) (.cons (.sl rfl rfl rfl rfl) (.cons .t (.cons .t (.cons .t (.cons .t .nil)))))))))))) rfl,a1 rfl,rfl⟩ (.one (tv (.bool true))) ?_
   refine o1 ?_;refine o1 ?_;refine ld ?_;refine bs 5 ?_
   refine ca (eP (fw:=2) (ent:=((1:Nat):Int)) (ys:=[yC4]) (vW Ig) (fun _=>by decide)) rN ⟨a1 rfl,nE (trs:=([yC4]).flatMap yrt) rfl rfl rfl (.cons (.sl rfl rfl rfl rfl) (.cons (.sl rfl rfl rfl rfl) (.cons .t (.cons .t (.cons .t (.cons .t .nil)))))) rfl,a1 rfl,rfl⟩ (.one (tv (.bool true))) ?_
   (iterate 3 refine o1 ?_);refine ld ?_;refine ld ?_;refine bs 6 ?_
   refine ca (gL (fw:=2) (ys:=[(fH true 1 1),yC4]) (lK Ig) (fun _=>by decide)) Pf ⟨a1 rfl,nE (trs:=([(fH true 1 1),yC4]).flatMap yrt) rfl rfl rfl (.cons .t (.cons .t (.cons .t (.cons .t (.cons .t (.cons .t (.cons (.sl rfl rfl rfl rfl) (.cons (.sl rfl rfl rfl rfl) (.cons .t (.cons .t (.cons .t (.cons .t .nil)))))))))))) rfl,rfl⟩ (.one (tv (.bool true))) ?_
   refine o1 ?_;refine o1 ?_;refine nl (dW rfl (sk (rl (o1 ?_))));refine o1 ?_
   refine bB 64 (i9+1) ?_
   refine o1 ?_;refine nl ?_;exact⟨i9+1,by omega,by omega,iU h0 [0] _ _ (by decide) ⟨rfl,oG (by omega),trivial⟩ ⟨aB rfl,rfl⟩⟩
  refine sq (rl (o1 ?_));refine ld ?_;refine bs 4 ?_
  refine iA (j:=5) (n:=2) (l:=(bT [true,false]).map .t) aF rfl rfl rfl rfl (.sl rfl rfl) (.sl rfl rfl rfl) rfl rfl rfl (by omega) (by omega) ?_
  refine o1 ?_;refine st ?_;refine nl (rl (o1 ?_));refine ld ?_;refine o1 ?_;refine ld ?_;refine bs 6 ?_
  refine iA (j:=7) (n:=2) (l:=([(Rat.divInt 7 2),(Rat.divInt (-1) 1)].flatMap qt).map .t) aF rfl rfl rfl rfl (.sl rfl rfl) (.sl rfl rfl rfl) rfl rfl rfl (by omega) (by omega) ?_
  refine o1 ?_;refine st ?_;refine nl (sq (rl (ld ?_)));refine ld ?_;refine bs 8 ?_
  refine ca (eP (fw:=2) (ent:=((0:Nat):Int)) (ys:=[(fH true 1 1),yC5]) (lK Ih) (fun _=>by decide)) rN ⟨a1 rfl,nE (trs:=([(fH true 1 1),yC5]).flatMap yrt) rfl rfl rfl (.cons .t (.cons .t (.cons .t (.cons .t (.cons .t (.cons .t (.cons (.sl rfl rfl rfl rfl) (.cons (.sl rfl rfl rfl rfl) (.cons .t (.cons .t (.cons .t (.cons .t .nil)))))))))))) rfl,a1 rfl,rfl⟩ (.one (tv (.bool true))) ?_
  refine o1 ?_;refine o1 ?_;refine ld ?_;refine bs 9 ?_
  refine ca (eP (fw:=2) (ent:=((1:Nat):Int)) (ys:=[yC5]) (vW Ih) (fun _=>by decide)) rN ⟨a1 rfl,nE (trs:=([yC5]).flatMap yrt) rfl rfl rfl (.cons (.sl rfl rfl rfl rfl) (.cons (.sl rfl rfl rfl rfl) (.cons .t (.cons .t (.cons .t (.cons .t .nil)))))) rfl,a1 rfl,rfl⟩ (.one (tv (.bool true))) ?_
  (iterate 3 refine o1 ?_);refine ld ?_;refine ld ?_;refine bs 10 ?_
  refine ca (gL (fw:=2) (ys:=[(fH true 1 1),yC5]) (lK Ih) (fun _=>by decide)) Pf ⟨a1 rfl,nE (trs:=([(fH true 1 1),yC5]).flatMap yrt) rfl rfl rfl (.cons .t (.cons .t (.cons .t (.cons .t (.cons .t (.cons .t (.cons (.sl rfl rfl rfl rfl) (.cons (.sl rfl rfl rfl rfl) (.cons .t (.cons .t (.cons .t (.cons .t .nil)))))))))))) rfl,rfl⟩ (.one (tv (.bool true))) ?_
  refine o1 ?_;refine o1 ?_;refine nl (dW rfl (sk (rl (o1 ?_))));refine o1 ?_
  refine bB 64 (i9+1) ?_
  refine o1 ?_;refine nl ?_;exact⟨i9+1,by omega,by omega,iU h0 [0] _ _ (by decide) ⟨rfl,oG (by omega),trivial⟩ ⟨aB rfl,rfl⟩⟩
 refine ex (sq (rl (o1 ?_)));refine nl (sq (sq (rl (o1 ?_))));refine nl (bl ?_)
 refine WP.sub (nr (i:=7) 1 67 6 rfl rfl rfl rfl) ?_
 refine lp (γ:=Nat) (fun s=>bP [(4,pN 0),(7,.one (.sl 1 0 (s))),(8,iN s)]) (fun s=>[(⟨67,0,(yrt (fH true 1 1)).map .t⟩:Ob),⟨67,6,((List.replicate (s) (fH true 1 1)).flatMap yrt).map .t⟩].map some) (fun s=>s≤41) (fun s=>41-s) 0 (Nat.zero_le _) (aP h0 [0,1] ⟨aB rfl,aB rfl,rfl⟩) ?_
 rintro k9 hk9;refine sq (sq (rl (o1 ?_)));refine o1 ?_;refine nl ?_;refine bF rfl (fun h9=>?_) (fun h9=>?_)
 ·refine sk (sq (bl (rl (o1 ?_))));refine ld ?_;refine bs 2 ?_
  refine iA (j:=3) (n:=k9) (l:=((List.replicate k9 (fH true 1 1)).flatMap yrt).map .t) aF rfl rfl rfl rfl (.sl rfl (by rw[dB,bE cL,List.length_replicate])) (.sl rfl rfl rfl) rfl rfl rfl (by omega) (by omega) ?_
  refine o1 ?_;refine nl (rl (o1 ?_));refine o1 ?_;refine bB 124 (k9+1) ?_
  refine o1 ?_;refine nl ?_
  exact⟨k9+1,by omega,by omega,iU h0 [0,3] _ _ (by decide) ⟨rfl,rfl,oG (by omega),trivial⟩ ⟨aB rfl,aB (congrArg (fun l:List AV=>some (⟨67,6,l⟩:Ob)) ((Ow (List.replicate k9 (fH true 1 1)) (fH true 1 1)).trans (by rw[List.replicate_succ']))),rfl⟩⟩
 refine ex (sq ?_);have hkk:k9=41:=by omega
 subst hkk;refine rl ?_
 refine ca (eP (fw:=41) (ent:=((0:Nat):Int)) (ys:=[]) (fun y hy=>by cases hy) (fun _=>by decide)) rN ⟨a1 rfl,sS rfl .nil,a1 rfl,rfl⟩ (.one (tv (.bool true))) ?_
 refine o1 ?_
 refine ca (eP (fw:=40) (ent:=((0:Nat):Int)) (ys:=[]) (fun y hy=>by cases hy) (fun _=>by decide)) rN ⟨a1 rfl,sS rfl .nil,a1 rfl,rfl⟩ (.one (tv (.bool true))) ?_
 (iterate 3 refine o1 ?_)
 refine ca (eP (fw:=40) (ent:=((0:Nat):Int)) (ys:=List.replicate 41 (fH true 1 1)) TC (fun h=>absurd h (show¬dJ 40 (List.replicate 41 (fH true 1 1))=0 by rw[show dJ 40 (List.replicate 41 (fH true 1 1))=3 by kernel_rfl];decide))) rN ⟨a1 rfl,sS rfl (.sl (trs:=(List.replicate 41 (fH true 1 1)).flatMap yrt) rfl rfl (aN _ _ rfl) rfl),a1 rfl,rfl⟩ (.one (tv (.bool true))) ?_
 refine o1 ?_;refine o1 ?_;refine ca (fX) vT rfl (.one (tv (.bool true))) ?_;refine o1 ?_;refine o1 ?_;refine nl (rt ?_);exact gO (.inl rfl) rfl (rfl)
end Go.Proofs.YtbbabfkgdnkehaaGreat
