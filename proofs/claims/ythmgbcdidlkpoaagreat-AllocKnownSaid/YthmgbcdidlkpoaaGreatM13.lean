/- Part 13 of a proof: K2 to K5. -/
import Derived.Test.YthmgbcdidlkpoaaGreatM11
import Derived.Test.YthmgbcdidlkpoaaGreatM12
import Derived.Test.YthmgbcdidlkpoaaGreatM10
import Derived.Test.YthmgbcdidlkpoaaGreatM7
set_option maxRecDepth 100000
set_option linter.unusedVariables false
set_option linter.unusedSimpArgs false
namespace Go.Proofs.YthmgbcdidlkpoaaGreat
open Go Go.RowKit
theorem Lq {τ:List Nat}{k k2:Nat}{l:List Tr}{p n:Nat}(h:τ[k]? =some k2):renL τ ((l.map AV.t).set p (.sl k 0 n))=some ((l.map AV.t).set p (.sl k2 0 n)):=by
 induction l generalizing p with
 | nil=>simp[renL]
 | cons x l ih=>
  cases p with
  | zero=>simp[renL,fJ,h,Zr]
  | succ p=>
   simp only[List.map_cons,List.set_cons_succ,renL,ih,fJ]
theorem iN {a:Zi}{b:Int}{xs:List Fr4}(ha0:Lim 4294967296 a.x) (hx0:∀x∈xs,LimF x):aD true Tryz.prog 3 [] [gF a,.one (tv (.int .i64 b)),.one (.t (sQ false xs))] (aO (.one (tv (.bool true)))):=by
 refine bP Tryz.func3 rfl Tryz.ntmps3 rfl aA rfl fun N9 w9 c0 h0=>?_
 refine sq ?_;refine rl ?_;refine bx 0 ?_;refine o1 ?_;refine nl ?_;refine sq ?_;refine sq ?_;refine rl ?_;refine ld ?_;refine o1 ?_
 refine ca (Hb (a:=a) (xs:=xs)) GU ⟨aB rfl,a1 rfl,rfl⟩ (.one (tv (.bool (qL a xs)))) ?_;refine WL.splitb (t:=23) rfl (fun h1=>?_) (fun h1=>?_)
 ·refine o1 ?_;refine nl ?_;refine eZ rfl ?_;refine sk ?_;refine sq ?_;obtain⟨hs6,ha6,hl12⟩:=sT h1
  have hO:=fun x (h:x∈xs)=>yG (hx0 x h) (hs6 x h)
  have hx:∀x∈xs,x.ok:=fun x h=>(hO x h).1
  have hz:∀x∈xs,Sz 7 x.q:=fun x h=>(hO x h).2.1
  have hzn:=Oo ha0 ha6
  have hsz:=Rx ha0 ha6
  have hXz:=zK (k:=zv a) (b:=b) hsz hz hl12
  have hXn:(aM ((zv a:Int):Rat) b (xs.map Fr4.q)).length≤12:=wF hl12
  have hWn:(aU (aM ((zv a:Int):Rat) b (xs.map Fr4.q))).length≤12:=Nat.le_trans xU hXn
  have hws:∀k∈(aU (aM ((zv a:Int):Rat) b (xs.map Fr4.q))),(dg 4294967296 k.natAbs).length≤1000000:=fun k hk=>Nat.le_trans (vY hXz k hk) (by omega)
  have hzl:(aQ (aU (aM ((zv a:Int):Rat) b (xs.map Fr4.q)))).length=(aU (aM ((zv a:Int):Rat) b (xs.map Fr4.q))).length:=cM _
  have hXl:∀q∈(aM ((zv a:Int):Rat) b (xs.map Fr4.q)),(Fr4.of q).len 1099511627776:=fun q hq=>⟨Nat.le_trans (hXz q hq).1 (by omega),Nat.le_trans (hXz q hq).2 (by omega)⟩
  refine rl ?_;refine o1 ?_;refine ca (Sd (fun x h=>(hO x h).2.2) hl12) ML ⟨a1 rfl,rfl⟩ (.one (.t (sQ false xs))) ?_
  refine o1 ?_;refine nl ?_;refine sq ?_;refine rl ?_;refine ld ?_;refine ca (wJ (a:=a) (by omega)) Bq ⟨aB rfl,rfl⟩ (gF a) ?_
  refine o1 ?_;refine o1 ?_
  refine ca (Gz hzn hsz hx hz hl12) NJ ⟨aB rfl,a1 rfl,a1 rfl,rfl⟩ (.tup [.one (.t (sZ 34 (aQ (aU (aM ((zv a:Int):Rat) b (xs.map Fr4.q)))))),.one (tv (.int .i64 (jK b xs.length)))]) ?_
  (iterate 5 refine o1 ?_);refine nl ?_;refine sq ?_;refine rl ?_;refine ld ?_;refine ca (wJ (a:=a) (by omega)) Bq ⟨aB rfl,rfl⟩ (gF a) ?_
  refine o1 ?_;refine o1 ?_
  refine ca (Sb hzn hsz hx hz hl12) GQ ⟨aB rfl,a1 rfl,a1 rfl,rfl⟩ (.tup [.one (.t (.s false 50 4 (aM ((zv a:Int):Rat) b (xs.map Fr4.q)).length ((aM ((zv a:Int):Rat) b (xs.map Fr4.q)).flatMap cD))),.one (tv (.int .i64 (jK b xs.length)))]) ?_
  (iterate 5 refine o1 ?_);refine nl ?_;refine sq ?_;refine sq ?_;refine rl ?_;refine o1 ?_;refine nl ?_;refine bl ?_
  refine lp (γ:=Nat) (fun s=>cG [(1,.one (tv (.int .i64 b))),(2,.one (.t (sQ false xs))),(3,.one (.pt 0 0)),(7,.one (.t (sQ false xs))),(8,.one (.t (sZ 34 (aQ (aU (aM ((zv a:Int):Rat) b (xs.map Fr4.q))))))),(9,.one (tv (.int .i64 (jK b xs.length)))),(10,.one (.t (.s false 50 4 (aM ((zv a:Int):Rat) b (xs.map Fr4.q)).length ((aM ((zv a:Int):Rat) b (xs.map Fr4.q)).flatMap cD)))),(12,.one (tv (.int .i64 ((s:Nat):Int))))]) (fun s=>[(⟨24,0,[tv (.bool a.s),.t (sU false a.x)]⟩:Ob)].map some) (fun s=>s≤2) (fun s=>2-s) 0 (Nat.zero_le _) (aH h0 [0] _ _ (by decide) ⟨rfl,rfl,rfl,rfl,rfl,rfl,rfl,rfl,trivial⟩ ⟨oe rfl rfl,rfl⟩) ?_
  rintro t9 ht9;refine sq ?_;refine sq ?_;refine rl ?_;refine o1 ?_;refine o1 ?_;refine nl ?_;refine bO rfl (fun h2=>?_) (fun h2=>?_)
  ·refine sk ?_;refine sq ?_;refine bl ?_;refine sq ?_;refine rl ?_;refine ld ?_;refine o1 ?_;refine o1 ?_;refine fS 1 (sS hzn hsz hx hz hl12) pE ⟨aB rfl,a1 rfl,a1 rfl,rfl⟩ ?_
   (iterate 5 refine o1 ?_);refine nl ?_;refine sq ?_;refine rl ?_;refine ld ?_;refine o1 ?_;refine o1 ?_;refine fS 2 (Vp hzn hsz hx hz hl12) Vy ⟨aB rfl,a1 rfl,a1 rfl,rfl⟩ ?_
   (iterate 3 refine o1 ?_);refine al 3 ?_;refine st ?_;refine o1 ?_;refine nl ?_;refine sq ?_;refine sq ?_;refine rl ?_;(iterate 4 refine o1 ?_)
   refine WL.split (t:=65) rfl (fun h3=>?_) (fun h3=>?_)
   ·exact absurd rfl h3
   (iterate 5 refine o1 ?_);refine WL.split (t:=70) rfl (fun h4=>?_) (fun h4=>?_)
   ·exact absurd rfl h4
   refine o1 ?_;refine o1 ?_
   refine ca (Lp (l:=(aU (aM ((zv a:Int):Rat) b (xs.map Fr4.q)))) hws) GV ⟨rG rfl (.sr rfl rfl (Rm _) (bQ (dQ true) _) (oB _)),a1 rfl,rfl⟩ (.one (tv (.bool true))) ?_
   (iterate 4 refine o1 ?_);refine ld ?_;(iterate 5 refine o1 ?_);refine nl ?_;refine bO rfl (fun h5=>?_) (fun h5=>?_)
   ·exact absurd rfl h5
   refine sk ?_;refine sq ?_;refine sq ?_;refine rl ?_;refine o1 ?_;refine nl ?_;refine bl ?_
   refine lp (γ:=Nat×List Tr) (fun s=>cG [(1,.one (tv (.int .i64 b))),(2,.one (.t (sQ false xs))),(3,.one (.pt 0 0)),(7,.one (.t (sQ false xs))),(8,.one (.t (sZ 34 (aQ (aU (aM ((zv a:Int):Rat) b (xs.map Fr4.q))))))),(9,.one (tv (.int .i64 (jK b xs.length)))),(10,.one (.t (.s false 50 4 (aM ((zv a:Int):Rat) b (xs.map Fr4.q)).length ((aM ((zv a:Int):Rat) b (xs.map Fr4.q)).flatMap cD)))),(12,.one (tv (.int .i64 ((t9:Nat):Int)))),(13,.one (.sl 1 0 ((aQ (aU (aM ((zv a:Int):Rat) b (xs.map Fr4.q)))).length))),(15,.one (.pt 2 0)),(17,.one (tv (.int .i64 ((s.1:Nat):Int))))]) (fun s=>[(⟨24,0,[tv (.bool a.s),.t (sU false a.x)]⟩:Ob),⟨24,2,eK (aQ (aU (aM ((zv a:Int):Rat) b (xs.map Fr4.q))))⟩,⟨42,0,[.sl 3 0 ((aM ((zv a:Int):Rat) b (xs.map Fr4.q)).length)]⟩,⟨48,4,s.2.map .t⟩].map some) (fun s=>s.1≤(aM ((zv a:Int):Rat) b (xs.map Fr4.q)).length∧Sp4 s.2 (aM ((zv a:Int):Rat) b (xs.map Fr4.q)) s.1) (fun s=>(aM ((zv a:Int):Rat) b (xs.map Fr4.q)).length-s.1) (0,(aM ((zv a:Int):Rat) b (xs.map Fr4.q)).flatMap cD) ⟨Nat.zero_le _,Sp4.start _⟩ (aH h0 [0,1,3,2] _ _ (by decide) ⟨rfl,rfl,rfl,rfl,rfl,rfl,rfl,rfl,rfl,rfl,rfl,trivial⟩ ⟨oe rfl rfl,bI rfl,oe rfl rfl,bI rfl,rfl⟩) ?_
   rintro⟨i8,trs⟩ ⟨hi8,hS4⟩;dsimp only at hi8 hS4⊢;refine sq ?_;refine sq ?_;refine rl ?_;(iterate 4 refine o1 ?_);refine nl ?_;refine bO rfl (fun h6=>?_) (fun h6=>?_)
   ·refine sk ?_;refine sq ?_;refine bl ?_;refine sq ?_;refine sq ?_;refine rd [0,2,3] (fun i=>[].contains i) mixed ?_
    refine dv 0 ?_;refine aX 1 ?_;refine dv 2 ?_;refine dv 3 ?_;refine Om 4 (us:=(cD (aF (aM ((zv a:Int):Rat) b (xs.map Fr4.q)) i8)).map .t) (hS4.rd (by omega)) ?_
    refine dv 5 ?_;refine dv 6 ?_;refine dv 7 ?_
    refine eF 8 ((cD (aF (aM ((zv a:Int):Rat) b (xs.map Fr4.q)) (i8)))) (Oq (l:=(aM ((zv a:Int):Rat) b (xs.map Fr4.q))) (k:=i8) (by omega)) ?_
    refine aK 9 rfl (Hc (a:=.of (aF (aM ((zv a:Int):Rat) b (xs.map Fr4.q)) i8)) (b:=.of (aF (aM ((zv a:Int):Rat) b (xs.map Fr4.q)) i8)) rfl (hXl _ (dM (by omega)))) GW ⟨aB rfl,aB rfl,rfl⟩ (.one (tv (.bool true))) ?_
    refine df 10 ?_;refine aR ?_;refine eZ rfl ?_;refine sk ?_;refine rl ?_;refine o1 ?_;refine ld ?_;(iterate 3 refine o1 ?_)
    refine rH (us:=Ll.map .t) (hS4.put (by omega)) (hS4.le (by omega)) ?_
    refine nl ?_;refine rl ?_;refine o1 ?_;refine o1 ?_;refine WL.cast (t:=89) (u':=.int .i64 ((i8+1:Nat):Int)) rfl (aJ (by omega)) ?_
    refine o1 ?_;refine nl ?_
    exact⟨(i8+1,cX trs (0+i8*4) Ll),by dsimp only;omega,⟨by dsimp only;omega,hS4.next (by omega)⟩,aH h0 [0,1,2,3] _ _ (by decide) ⟨rfl,rfl,rfl,rfl,rfl,rfl,rfl,rfl,rfl,rfl,rfl,trivial⟩ ⟨oe rfl rfl,bI rfl,oe rfl rfl,bI rfl,rfl⟩⟩
   refine ex ?_;refine sq ?_;refine rl ?_;refine o1 ?_;refine nl ?_;refine bl ?_
   refine lp (γ:=Nat×List Zi) (fun s=>cG [(1,.one (tv (.int .i64 b))),(2,.one (.t (sQ false xs))),(3,.one (.pt 0 0)),(7,.one (.t (sQ false xs))),(8,.one (.t (sZ 34 (aQ (aU (aM ((zv a:Int):Rat) b (xs.map Fr4.q))))))),(9,.one (tv (.int .i64 (jK b xs.length)))),(10,.one (.t (.s false 50 4 (aM ((zv a:Int):Rat) b (xs.map Fr4.q)).length ((aM ((zv a:Int):Rat) b (xs.map Fr4.q)).flatMap cD)))),(12,.one (tv (.int .i64 ((t9:Nat):Int)))),(13,.one (.sl 1 0 ((aQ (aU (aM ((zv a:Int):Rat) b (xs.map Fr4.q)))).length))),(18,.one (tv (.int .i64 ((s.1:Nat):Int))))]) (fun s=>[(⟨24,0,[tv (.bool a.s),.t (sU false a.x)]⟩:Ob),⟨24,2,eK s.2⟩].map some) (fun s=>s.1≤(aQ (aU (aM ((zv a:Int):Rat) b (xs.map Fr4.q)))).length∧s.2.length=(aQ (aU (aM ((zv a:Int):Rat) b (xs.map Fr4.q)))).length∧∀j,s.1≤j→fI s.2 j=fI (aQ (aU (aM ((zv a:Int):Rat) b (xs.map Fr4.q)))) j) (fun s=>(aQ (aU (aM ((zv a:Int):Rat) b (xs.map Fr4.q)))).length-s.1) (0,(aQ (aU (aM ((zv a:Int):Rat) b (xs.map Fr4.q))))) ⟨Nat.zero_le _,rfl,fun _ _=>rfl⟩ (aH h0 [0,1] _ _ (by decide) ⟨rfl,rfl,rfl,rfl,rfl,rfl,rfl,rfl,rfl,rfl,trivial⟩ ⟨oe rfl rfl,bI rfl,rfl⟩) ?_
   rintro⟨i7,ws⟩ ⟨hi7,hwl,hwj⟩;dsimp only at hi7 hwl hwj⊢;refine sq ?_;refine sq ?_;refine rl ?_;(iterate 4 refine o1 ?_);refine nl ?_
   refine bO rfl (fun h7=>?_) (fun h7=>?_)
   ·refine sk ?_;refine sq ?_;refine bl ?_;refine sq ?_;obtain⟨z,hZ⟩:∃z,fI ws i7=z:=⟨_,rfl⟩
    have hi6:i7<ws.length:=by omega
    have hzx:z.x.length≤1000000:=by rw[←hZ,hwj i7 (Nat.le_refl _),oK (by omega)];exact hws _ (iF (by omega))
    refine WP.sub (GI (j:=1) (key:=2) (e:=24) (ws:=ws) (i:=i7) (z:=z) rfl rfl hi6 hZ) ?_;refine rl ?_;refine o1 ?_;refine nl ?_;refine bl ?_
    refine lp (γ:=Nat×List Nat) (fun s=>cG [(1,.one (tv (.int .i64 b))),(2,.one (.t (sQ false xs))),(3,.one (.pt 0 0)),(7,.one (.t (sQ false xs))),(8,.one (.t (sZ 34 (aQ (aU (aM ((zv a:Int):Rat) b (xs.map Fr4.q))))))),(9,.one (tv (.int .i64 (jK b xs.length)))),(10,.one (.t (.s false 50 4 (aM ((zv a:Int):Rat) b (xs.map Fr4.q)).length ((aM ((zv a:Int):Rat) b (xs.map Fr4.q)).flatMap cD)))),(12,.one (tv (.int .i64 ((t9:Nat):Int)))),(13,.one (.sl 1 0 ((aQ (aU (aM ((zv a:Int):Rat) b (xs.map Fr4.q)))).length))),(18,.one (tv (.int .i64 ((i7:Nat):Int)))),(19,.one (tv (.int .i64 ((s.1:Nat):Int))))]) (fun s=>[(⟨24,0,[tv (.bool a.s),.t (sU false a.x)]⟩:Ob),⟨24,2,(eK ws).set (0+i7*2+1) (.sl 2 0 z.x.length)⟩,⟨51,1,(aP s.2).map .t⟩].map some) (fun s=>s.1≤z.x.length∧s.2.length=z.x.length) (fun s=>z.x.length-s.1) (0,z.x) ⟨Nat.zero_le _,rfl⟩ (aH h0 [0,1,2] _ _ (by decide) ⟨rfl,rfl,rfl,rfl,rfl,rfl,rfl,rfl,rfl,rfl,rfl,trivial⟩ ⟨oe rfl rfl,oe (Lq (by rfl)) rfl,bI rfl,rfl⟩) ?_
    rintro⟨k6,ys⟩ ⟨hk6,hyl⟩;dsimp only at hk6 hyl⊢;refine sq ?_;refine sq ?_;refine rl ?_;(iterate 5 refine o1 ?_);refine Lh (Lm hi6) ?_;refine o1 ?_;refine o1 ?_
    refine nl ?_;refine bO rfl (fun h8=>?_) (fun h8=>?_)
    ·refine sk ?_;refine sq ?_;refine bl ?_;refine rl ?_;(iterate 4 refine o1 ?_);refine Lh (Lm hi6) ?_;refine o1 ?_;refine o1 ?_
     refine rH (Br ys (k:=k6) (v:=77) (by omega)) (Hg ys (by omega)) ?_
     refine nl ?_;refine rl ?_;refine o1 ?_;refine o1 ?_;refine WL.cast (t:=121) (u':=.int .i64 ((k6+1:Nat):Int)) rfl (aJ (by omega)) ?_
     refine o1 ?_;refine nl ?_
     exact⟨(k6+1,ys.set k6 77),by dsimp only;omega,⟨by dsimp only;omega,by dsimp only;rw[List.length_set];exact hyl⟩,aH h0 [0,1,2] _ _ (by decide) ⟨rfl,rfl,rfl,rfl,rfl,rfl,rfl,rfl,rfl,rfl,rfl,trivial⟩ ⟨oe rfl rfl,oe (Lq (by rfl)) rfl,bI rfl,rfl⟩⟩
    refine ex ?_;refine WP.sub (NE (j:=1) (k1:=2) (e:=24) (ws:=ws) (i:=i7) (z:=⟨z.s,ys⟩) rfl hi6 (by rw[hZ]) (by rw[hyl];rfl) rfl) ?_
    refine rl ?_;refine o1 ?_;refine o1 ?_;refine WL.cast (t:=111) (u':=.int .i64 ((i7+1:Nat):Int)) rfl (aJ (by omega)) ?_
    refine o1 ?_;refine nl ?_
    exact⟨(i7+1,ws.set i7 ⟨z.s,ys⟩),by dsimp only;omega,⟨by dsimp only;omega,by dsimp only;rw[List.length_set];exact hwl,fun j hj=>(Ry (by dsimp only at hj;omega)).trans (hwj j (by dsimp only at hj;omega))⟩,aH h0 [0,1] _ _ (by decide) ⟨rfl,rfl,rfl,rfl,rfl,rfl,rfl,rfl,rfl,rfl,trivial⟩ ⟨oe rfl rfl,bI rfl,rfl⟩⟩
   refine ex ?_;refine rl ?_;refine o1 ?_;refine o1 ?_;refine WL.cast (t:=47) (u':=.int .i64 ((t9+1:Nat):Int)) rfl (aJ (by omega)) ?_
   refine o1 ?_;refine nl ?_;exact⟨t9+1,by omega,by omega,aH h0 [0] _ _ (by decide) ⟨rfl,rfl,rfl,rfl,rfl,rfl,rfl,rfl,trivial⟩ ⟨oe rfl rfl,rfl⟩⟩
  refine ex ?_;refine sq ?_;refine sq ?_;refine rl ?_;refine o1 ?_;refine nl ?_;refine bl ?_
  refine lp (γ:=Nat) (fun s=>cG [(2,.one (.t (sQ false xs))),(7,.one (.t (sQ false xs))),(20,.one (tv (.int .i64 ((s:Nat):Int))))]) (fun s=>([]:List Ob).map some) (fun s=>s≤xs.length) (fun s=>xs.length-s) 0 (Nat.zero_le _) (aH h0 [] _ _ (by decide) ⟨rfl,rfl,rfl,trivial⟩ rfl) ?_
  rintro k5 hk5;refine sq ?_;refine sq ?_;refine rl ?_;(iterate 4 refine o1 ?_);refine nl ?_;refine bO rfl (fun h9=>?_) (fun h9=>?_)
  ·refine sk ?_;refine sq ?_;refine bl ?_;refine sq ?_;refine rd [] (fun i=>[].contains i) mixed ?_
   refine dv 0 ?_;refine dv 1 ?_;refine dv 2 ?_
   refine eF 3 ((Fr4.tr false) (aN xs (k5))) (dP (f:=(Fr4.tr false)) (z:=4) (o:=0) (fun _=>rfl) (dN (by omega)) (Nat.le_of_ble_eq_true rfl) rfl) ?_
   refine dv 4 ?_;refine dv 5 ?_;refine dv 6 ?_
   refine eF 7 ((Fr4.tr false) (aN xs (k5))) (dP (f:=(Fr4.tr false)) (z:=4) (o:=0) (fun _=>rfl) (dN (by omega)) (Nat.le_of_ble_eq_true rfl) rfl) ?_
   refine aK 8 rfl (Hc (a:=aN xs (k5)) (b:=aN xs (k5)) rfl (hO _ (aT (by omega))).2.2) GW ⟨aB rfl,aB rfl,rfl⟩ (.one (tv (.bool true))) ?_
   refine df 9 ?_;refine aR ?_;refine eZ rfl ?_;refine sk ?_;refine rl ?_;refine o1 ?_;refine o1 ?_
   refine WL.cast (t:=134) (u':=.int .i64 ((k5+1:Nat):Int)) rfl (aJ (by omega)) ?_
   refine o1 ?_;refine nl ?_;exact⟨k5+1,by omega,by omega,aH h0 [] _ _ (by decide) ⟨rfl,rfl,rfl,trivial⟩ rfl⟩
  refine ex ?_;refine sq ?_;refine rl ?_;refine ca (iX) zN rfl (.one (tv (.bool true))) ?_;refine o1 ?_;refine nl ?_;refine rt ?_;exact lL (.inl rfl) rfl (rfl)
 refine o1 ?_;refine nl ?_;refine kM rfl ?_;refine sq ?_;refine rl ?_;refine ca (iX) zN rfl (.one (tv (.bool true))) ?_;refine o1 ?_;refine nl ?_;refine rt ?_
 exact lL (.inl rfl) rfl (rfl)
theorem CM {L k:Nat}{zs:List Zi}(h:∀a∈zs,ZL L a) (hL:L≤1000000) (hk:k<zs.length):Zn (fI zs k) (zv (fI zs k)):=(h _ (Fy hk)).n (by omega)
theorem GX {zs:List Zi}{L:Nat}(hz:∀a∈zs,ZL L a) (hL:L≤1000000) (hl:zs.length≤1000000):aD false Tryz.prog 21 [] [.one (.t (sZ 34 zs))] (aO (kF (cR zs))):=by
 refine bP Tryz.func21 rfl Tryz.ntmps21 rfl aA rfl fun N9 w9 c0 h0=>?_
 refine sq ?_;refine rl ?_;refine al 0 ?_;refine nl ?_;refine sq ?_;refine rl ?_;refine al 1 ?_;refine nl ?_;refine sq ?_;refine sq ?_;refine rl ?_;refine o1 ?_;refine nl ?_;refine bl ?_
 refine WP.sub (GY (j:=1) (p:=1) (e:=51) (z':=1) rfl rfl rfl) ?_
 refine lp (γ:=Nat) (fun k=>cG [(0,.one (.t (sZ 34 zs))),(2,.one (.pt 0 0)),(3,.one (.pt 1 0)),(4,.one (tv (.int .i64 ((k:Nat):Int))))]) (fun k=>[(⟨34,0,[tv (.bool false),tv (.slice none 0 0)]⟩:Ob),⟨34,0,[tv (.bool (aG (cR (zs.take (k))))),.t (sU false (dg 4294967296 (cR (zs.take (k))).natAbs))]⟩].map some) (fun k=>k≤zs.length∧True) (fun k=>zs.length-k) 0 ⟨Nat.zero_le _,trivial⟩ (aH h0 [0,1] _ _ (by decide) ⟨rfl,rfl,rfl,rfl,trivial⟩ ⟨oe rfl rfl,oe rfl rfl,rfl⟩) fun k hk=>?_
 refine sq ?_;refine sq ?_;refine rl ?_;(iterate 4 refine o1 ?_);refine nl ?_;refine bO rfl (fun h1=>?_) (fun h1=>?_)
 ·refine sk ?_;refine sq ?_;refine bl ?_;refine rd [0,1] (fun i=>[6].contains i) mixed ?_
  refine aX 0 ?_;refine dv 1 ?_;refine dv 2 ?_;refine dv 3 ?_
  refine eF 4 ((cB false) (fI zs (k))) (dP (f:=(cB false)) (z:=2) (o:=0) (dQ false) (kZ (by omega)) (Nat.le_of_ble_eq_true rfl) rfl) ?_
  refine aK 5 rfl (nN ((Zn.of (k:=cR (zs.take (k))) (by have:=nH (k:=k) hz hl;omega))) ((CM hz hL (k:=k) (by omega)))) uQ ⟨aB rfl,aB rfl,rfl⟩ (kF (cR (zs.take (k))+(zv (fI zs (k))))) ?_
  refine dst 6 ?_;refine aR ?_;refine rl ?_;refine o1 ?_;refine o1 ?_;refine WL.cast (t:=10) (u':=.int .i64 ((k+1:Nat):Int)) rfl (aJ (by omega)) ?_
  refine o1 ?_;refine nl ?_
  exact⟨k+1,by omega,⟨by omega,trivial⟩,aH h0 [0,1] _ _ (by decide) ⟨rfl,rfl,rfl,rfl,trivial⟩ ⟨oe rfl rfl,oe rfl (congrArg (fun z:Int=>some (⟨34,0,[tv (.bool (aG z)),.t (sU false (dg 4294967296 z.natAbs))]⟩:Ob)) (Rj (by omega))),rfl⟩⟩
 refine ex ?_;refine sq ?_;refine rl ?_;refine ld ?_;refine st ?_;refine nl ?_;refine rt ?_;have hk9:k=zs.length:=by omega
 exact en (.inl rfl) rfl (aW (.agg (.cons (.id rfl) (.cons (.id rfl) .nil)))) (by decide) (fun h=>by cases h) (by rw[hk9,Fz (Nat.le_refl _)];rfl)
def fU (x:Fr4):Zi:=⟨x.s,x.x⟩
theorem Sf {xs:List Fr4}{k:Nat}(h:k<xs.length):(xs.map fU).take (k+1)=(xs.map fU).take k++[fU (aN xs k)]:=by
 rw[List.take_add_one,List.getElem?_map,dN h]
 rfl
theorem pF {xs:List Fr4}(hx0:∀x∈xs,LimF x):aD true Tryz.prog 4 [] [.one (.t (sQ false xs))] (aO (.one (tv (.bool true)))):=by
 refine bP Tryz.func4 rfl Tryz.ntmps4 rfl aA rfl fun N9 w9 c0 h0=>?_
 refine sq ?_;refine rl ?_;refine o1 ?_;refine nl ?_;refine sq ?_;refine sq ?_;refine rl ?_;refine o1 ?_;refine o1 ?_
 refine ca (Hb (a:=⟨false,[]⟩) (xs:=xs)) GU ⟨mI rfl (.cons .t (.cons .nil .nil)),a1 rfl,rfl⟩ (.one (tv (.bool (qL ⟨false,[]⟩ xs)))) ?_
 refine WL.splitb (t:=9) rfl (fun h1=>?_) (fun h1=>?_)
 ·refine o1 ?_;refine nl ?_;refine eZ rfl ?_;refine sk ?_;refine sq ?_;obtain⟨hs6,_,hl12⟩:=sT h1
  have hO:=fun x (h:x∈xs)=>yG (hx0 x h) (hs6 x h)
  have hx:∀x∈xs,x.ok:=fun x h=>(hO x h).1
  have hz:∀x∈xs,Sz 1000 x.q:=fun x h=>(hO x h).2.1.mono (by omega)
  have hzq:∀q∈(xs.map Fr4.q),Sz 1000 q:=fun q hq=>(by obtain⟨x,h9,rfl⟩:=List.mem_map.1 hq;exact hz x h9)
  have hws:∀k∈(aU (xs.map Fr4.q)),(dg 4294967296 k.natAbs).length≤1000000:=fun k hk=>Nat.le_trans (vY hzq k hk) (by omega)
  have hnl:(xs.map fU).length=xs.length:=List.length_map ..
  have hzl:∀z∈(xs.map fU),ZL 6 z:=fun z hz=>(by obtain⟨x,h9,rfl⟩:=List.mem_map.1 hz;exact⟨(hx0 x h9).1,(hs6 x h9).1⟩)
  have hsl:(dg 4294967296 (cR (xs.map fU)).natAbs).length≤7:=by have h9:=nH (k:=(xs.map fU).length) hzl (by rw[hnl];omega);rwa[List.take_length]at h9
  refine rl ?_;refine o1 ?_;refine nl ?_;refine sq ?_;refine rl ?_;refine o1 ?_;refine nl ?_;refine sq ?_;refine sq ?_;refine rl ?_;refine o1 ?_;refine nl ?_;refine bl ?_
  refine lp (γ:=Nat) (fun s=>cG [(0,.one (.t (sQ false xs))),(3,.one (.sl 0 0 (s))),(4,.one (.sl 1 0 (s))),(5,.one (tv (.int .i64 ((s:Nat):Int))))]) (fun s=>[(⟨24,2,(((xs.map fU).take s).flatMap (cB false)).map .t⟩:Ob),⟨34,2,(((xs.map fU).take s).flatMap (cB false)).map .t⟩].map some) (fun s=>s≤xs.length) (fun s=>xs.length-s) 0 (Nat.zero_le _) (((nr (i:=3) 0 24 2 rfl rfl rfl rfl).trans (nr (i:=4) 1 34 2 rfl rfl rfl rfl)).trans (aH h0 [0,1] _ _ (by decide) ⟨rfl,rfl,rfl,rfl,trivial⟩ ⟨bI rfl,bI rfl,rfl⟩)) ?_
  rintro k9 hk9;refine sq ?_;refine sq ?_;refine rl ?_;(iterate 4 refine o1 ?_);refine nl ?_;refine bO rfl (fun h2=>?_) (fun h2=>?_)
  ·refine sk ?_;refine sq ?_;refine bl ?_;refine sq ?_;refine rl ?_;(iterate 5 refine o1 ?_)
   refine fB ([.v (.bool (aN xs (k9)).s)]++[sU false (aN xs (k9)).x]) (dP (f:=(Fr4.tr false)) (z:=4) (o:=0) (fun _=>rfl) (dN (by omega)) (Nat.le_of_ble_eq_true rfl) rfl) ?_
   refine bs 2 ?_
   refine dV (j:=3) aA rfl rfl rfl rfl (.sl rfl (by rw[List.length_map,bQ (dQ false),List.length_take,hnl,Nat.min_eq_left (by omega)])) (.sl rfl rfl rfl) rfl rfl rfl (by omega) (by omega) ?_
   refine o1 ?_;refine nl ?_;refine rl ?_;(iterate 5 refine o1 ?_)
   refine fB ([.v (.bool (aN xs (k9)).s)]++[sU false (aN xs (k9)).x]) (dP (f:=(Fr4.tr false)) (z:=4) (o:=0) (fun _=>rfl) (dN (by omega)) (Nat.le_of_ble_eq_true rfl) rfl) ?_
   refine ca (wJ (a:=⟨(aN xs (k9)).s,(aN xs (k9)).x⟩) (show((aN xs (k9))).x.length≤1000000 from Nat.le_trans (hs6 _ (aT (xs:=xs) (k:=k9) (by omega))).1 (by omega))) Bq ⟨aB rfl,rfl⟩ (gF ⟨(aN xs (k9)).s,(aN xs (k9)).x⟩) ?_
   refine bs 4 ?_
   refine dV (j:=5) aA rfl rfl rfl rfl (.sl rfl (by rw[List.length_map,bQ (dQ false),List.length_take,hnl,Nat.min_eq_left (by omega)])) (.sl rfl rfl rfl) rfl rfl rfl (by omega) (by omega) ?_
   refine o1 ?_;refine nl ?_;refine rl ?_;refine o1 ?_;refine o1 ?_;refine WL.cast (t:=17) (u':=.int .i64 ((k9+1:Nat):Int)) rfl (aJ (by omega)) ?_
   refine o1 ?_;refine nl ?_
   have hst:(((xs.map fU).take k9).flatMap (cB false)).map .t++(cB false (fU (aN xs (k9)))).map AV.t=(((xs.map fU).take (k9+1)).flatMap (cB false)).map .t:=by rw[eU,Sf (by omega)]
   exact⟨k9+1,by omega,by omega,aH h0 [3,5] _ _ (by decide) ⟨rfl,rfl,rfl,rfl,trivial⟩ ⟨bI (congrArg (fun l=>some (⟨24,2,l⟩:Ob)) hst),bI (congrArg (fun l=>some (⟨34,2,l⟩:Ob)) hst),rfl⟩⟩
  refine ex ?_;refine sq ?_;have hk0:k9=(xs.map fU).length:=by rw[hnl];omega
  have htk:(xs.map fU).take k9=(xs.map fU):=List.take_of_length_le (by omega)
  refine WP.sub (fz (i:=3) (k:=0) (t:=24) (z:=2) (n:=k9) (l:=((xs.map fU).take k9).flatMap (cB false)) rfl rfl rfl (by rw[bQ (dQ false),htk,hk0])) ?_
  refine WP.sub (Vc (i:=3) (v:=.one (.t (.s false 24 2 k9 (((xs.map fU).take k9).flatMap (cB false))))) (v':=.one (.t (sZ 24 (xs.map fU)))) rfl rfl (by rw[htk,hk0];rfl)) ?_
  refine WP.sub (fz (i:=4) (k:=1) (t:=34) (z:=2) (n:=k9) (l:=((xs.map fU).take k9).flatMap (cB false)) rfl rfl rfl (by rw[bQ (dQ false),htk,hk0])) ?_
  refine WP.sub (Vc (i:=4) (v:=.one (.t (.s false 34 2 k9 (((xs.map fU).take k9).flatMap (cB false))))) (v':=.one (.t (sZ 34 (xs.map fU)))) rfl rfl (by rw[htk,hk0];rfl)) ?_
  refine rl ?_;refine o1 ?_;refine o1 ?_;refine al 2 ?_;refine st ?_;refine nl ?_;refine sq ?_;refine rl ?_;refine ld ?_
  refine ca (Li hx hz hl12) Vu ⟨mI rfl (.cons .t .nil),rfl⟩ (.one (.t (.s false 24 2 (aQ (aU (xs.map Fr4.q))).length ((aQ (aU (xs.map Fr4.q))).flatMap (cB true))))) ?_
  refine WL.sub (Gf (i:=38) (t':=24) rfl rfl (oB (aQ (aU (xs.map Fr4.q))))) ?_;refine o1 ?_
  refine ca (Sd (fun x h=>(hO x h).2.2) hl12) ML ⟨a1 rfl,rfl⟩ (.one (.t (sQ false xs))) ?_
  refine ca (Dk hx hz hl12) GR ⟨a1 rfl,rfl⟩ (.one (.t (sZ 34 (aQ (aU (xs.map Fr4.q)))))) ?_
  refine ca (Lp (l:=(aU (xs.map Fr4.q))) hws) GV ⟨a1 rfl,a1 rfl,rfl⟩ (.one (tv (.bool true))) ?_;refine o1 ?_;refine o1 ?_
  refine ca (Zm (L:=6) hzl (by omega) (by rw[hnl];omega)) GZ ⟨a1 rfl,rfl⟩ (kF (cR (xs.map fU))) ?_
  refine ca (wJ (a:=.of (cR (xs.map fU))) (Nat.le_trans hsl (by omega))) Bq ⟨aB rfl,rfl⟩ (kF (cR (xs.map fU))) ?_
  refine o1 ?_;refine ca (GX (L:=6) hzl (by omega) (by rw[hnl];omega)) NK ⟨a1 rfl,rfl⟩ (kF (cR (xs.map fU))) ?_
  refine ca (Se (Zn.of (k:=cR (xs.map fU)) (Nat.le_trans hsl (by omega)))) Ot ⟨aB rfl,aB rfl,rfl⟩ (.one (tv (.int .i64 0))) ?_
  (iterate 3 refine o1 ?_);refine WL.split (t:=52) rfl (fun h3=>?_) (fun h3=>?_)
  ·refine ca (iX) zN rfl (.one (tv (.bool true))) ?_;refine o1 ?_;refine o1 ?_;refine nl ?_;refine rt ?_;exact lL (.inl rfl) rfl (rfl)
  exact absurd rfl h3
 refine o1 ?_;refine nl ?_;refine kM rfl ?_;refine sq ?_;refine rl ?_;refine ca (iX) zN rfl (.one (tv (.bool true))) ?_;refine o1 ?_;refine nl ?_;refine rt ?_
 exact lL (.inl rfl) rfl (rfl)
theorem Lr (T:Rat):∀(n m:Nat),m<n→aC ((List.replicate n (0:Rat)).set m T)=T
 | 0,_,h=>absurd h (Nat.not_lt_zero _)
 | n+1,0,_=>by
  rw[List.replicate_succ,List.set_cons_zero,dZ,Ls fun x hx=>List.eq_of_mem_replicate hx]
  exact Rat.add_zero T
 | n+1,m+1,h=>by
  rw[List.replicate_succ,List.set_cons_succ,dZ,Lr T n m (by omega)]
  exact Rat.zero_add T
theorem Wq (T S:Rat) (f:Rat→Rat) (ws:List Rat):aC (ws.map fun w=>T*f w/S)=T*aC (ws.map f)/S:=by
 induction ws with
 | nil=>
  rw[List.map_nil,List.map_nil,rJ,Rat.mul_zero,Rat.div_def,Rat.zero_mul]
 | cons a l ih=>
  rw[List.map_cons,List.map_cons,dZ,dZ,ih]
  simp only[Rat.div_def]
  rw[Rat.mul_add,Rat.add_mul]
section
variable {T:Rat}{m i k:Nat}{ws:List Rat}
theorem uV {ws:List Rat}:∀x∈ws.map bC,0≤x:=fun x hx=>by
 obtain⟨y,_,rfl⟩:=List.mem_map.1 hx
 exact Qs y
theorem Bs (hm:m<ws.length):aC (aM T (m:Int) ws)=T:=by
 by_cases h0:aC (ws.map bC)=0
 ·rw[xV hm h0]
  exact Lr T _ _ hm
 rw[Aw hm h0,Wq,Rat.div_def,Rat.mul_assoc,Rat.mul_inv_cancel _ h0,Rat.mul_one]
theorem wK (hm:m<ws.length) (hi:i<ws.length):∃c:Rat,0≤c∧aF (aM T (m:Int) ws) i=T*c:=by
 rw[lT hm hi]
 by_cases h1:0<aF ws i
 ·have hS:=nG (uV (ws:=ws))
  refine⟨aF ws i*(aC (ws.map bC))⁻¹,Rat.mul_nonneg (by grind) ?_,by rw[if_pos h1,Rat.div_def,Rat.mul_assoc]⟩
  by_cases h0:aC (ws.map bC)=0
  ·rw[h0,Rat.inv_zero]
   exact Rat.le_refl
  have:=Rat.inv_pos.2 (show 0<aC (ws.map bC) by grind)
  grind
 rw[if_neg h1]
 split
 ·exact⟨1,by decide,(Rat.mul_one T).symm⟩
 exact⟨0,Rat.le_refl,(Rat.mul_zero T).symm⟩
theorem HC (hm:m<ws.length) (hi:i<ws.length) (hk:k<ws.length) (hT:0<T) (h:aF ws k<aF ws i) (h0:0<aF ws i):aF (aM T (m:Int) ws) k<aF (aM T (m:Int) ws) i:=by
 have hS:=nG (uV (ws:=ws))
 have hS0:0<aC (ws.map bC):=by
  rcases Decidable.em (aC (ws.map bC)=0)with h1 | h1
  ·have h3:=Av uV h1 _ (List.mem_map.2 ⟨_,dM hi,rfl⟩)
   rw[zD (by grind)]at h3
   grind
  grind
 have hv:=Rat.inv_pos.2 hS0
 have hn:¬(aC (ws.map bC)=0∧k=m):=fun h9=>by have:=h9.1;grind
 have hTi:0<T*aF ws i/aC (ws.map bC):=by rw[Rat.div_def];exact Rat.mul_pos (Rat.mul_pos hT h0) hv
 rw[lT hm hi,lT hm hk,if_pos h0]
 by_cases h1:0<aF ws k
 ·rw[if_pos h1,Rat.div_def,Rat.div_def]
  exact Rat.mul_lt_mul_of_pos_right (Rat.mul_lt_mul_of_pos_left h hT) hv
 rw[if_neg h1,if_neg hn]
 exact hTi
end
theorem Ws {z:List Int}{i:Nat}(h:i<z.length):aV (z.map fun x=>-x) i=-aV z i:=by simp[aV,h]
theorem Hh {l:List Rat}{i:Nat}(h:i<l.length):aF (cV l) i=-aF l i:=sK (g:=fun x=>-x) h
structure Exa (l:List Rat) (w:List Int):Prop where
 len:w.length=l.length
 sum:eD w=(aC l).num
 near:∀i,i<l.length→aF l i-((aV w i:Int):Rat)<1∧-(aF l i-((aV w i:Int):Rat))<1∧(aF l i=0→aV w i=0)
theorem Bt {l:List Rat}(hd:(aC l).den=1) (h:∀i,i<l.length→0≤aF l i):Exa l (aU l)∧aU l=eB l:=by
 have h0:¬aC l<0:=by
  have:=nG (l:=l) fun x hx=>by
   obtain⟨j,hj⟩:=List.mem_iff_getElem?.1 hx
   have hl:=(List.getElem?_eq_some_iff.1 hj).1
   rw[iU hl]at hj
   rw[←Option.some.inj hj]
   exact h j hl
  grind
 have h1:=sJ hd h0 (Fl fun j hj=>decide_eq_false (by have:=h j hj;grind))
 rw[h1]
 exact⟨⟨oI,CN hd,fun i hi=>Wt hd hi⟩,rfl⟩
theorem CO {l:List Rat}(hd:(aC l).den=1) (h0:aC l<0) (h:∀i,i<l.length→aF l i≤0):Exa l (aU l):=by
 have hn:∀i,i<(cV l).length→0≤aF (cV l) i:=fun i hi=>by
  rw[kW]at hi
  rw[Hh hi]
  have:=h i hi
  grind
 have hd2:(aC (cV l)).den=1:=by rw[kX,Rat.neg_den];exact hd
 obtain⟨e,e2⟩:=Bt hd2 hn
 rw[Nz hd h0 (Fl fun j hj=>decide_eq_false (by have:=hn j hj;grind))]
 refine⟨by rw[List.length_map,e.len,kW],?_,fun i hi=>?_⟩
 ·rw[Wu,e.sum,kX,Rat.neg_num]
  omega
 have hi2:i<(cV l).length:=by rw[kW];exact hi
 have h3:=e.near i hi2
 rw[Hh hi]at h3
 rw[Ws (by rw[e.len];exact hi2),Rat.intCast_neg]
 exact⟨by grind,by grind,fun h4=>by rw[h3.2.2 (by grind)];rfl⟩
section
variable {t:Int}{m i k:Nat}{ws:List Rat}
theorem Sg (hm:m<ws.length):Exa (aM (t:Rat) (m:Int) ws) (aU (aM (t:Rat) (m:Int) ws)):=by
 have hs:=Bs (T:=(t:Rat)) hm
 have hd:(aC (aM (t:Rat) (m:Int) ws)).den=1:=by rw[hs,Rat.den_intCast]
 have hl:=sL (T:=(t:Rat)) hm
 by_cases h0:(t:Rat)<0
 ·refine CO hd (by rw[hs];exact h0) fun i hi=>?_
  obtain⟨c,hc,e⟩:=wK (T:=(t:Rat)) hm (by rwa[hl]at hi)
  rw[e]
  have h1:=Rat.mul_nonneg (show(0:Rat)≤-(t:Rat) by grind) hc
  rw[Rat.neg_mul]at h1
  grind
 refine(Bt hd fun i hi=>?_).1
 obtain⟨c,hc,e⟩:=wK (T:=(t:Rat)) hm (by rwa[hl]at hi)
 rw[e]
 exact Rat.mul_nonneg (by grind) hc
theorem Hi (hm:m<ws.length) (hi:i<ws.length) (hk:k<ws.length) (ht:0≤t) (h:aF ws k<aF ws i) (h0:0<aF ws i):aV (aU (aM (t:Rat) (m:Int) ws)) k≤aV (aU (aM (t:Rat) (m:Int) ws)) i:=by
 have hl:=sL (T:=(t:Rat)) hm
 have e:=Sg (t:=t) hm
 have ht2:(0:Rat)≤(t:Rat):=Rat.intCast_le_intCast.2 ht
 have hd:(aC (aM (t:Rat) (m:Int) ws)).den=1:=by rw[Bs hm,Rat.den_intCast]
 by_cases hT:(t:Rat)=0
 ·have hz:∀j,j<ws.length→aV (aU (aM (t:Rat) (m:Int) ws)) j=0:=fun j hj=>by
   obtain⟨c,hc,e2⟩:=wK (T:=(t:Rat)) hm hj
   exact(e.near j (by rw[hl];exact hj)).2.2 (by rw[e2,hT,Rat.zero_mul])
  rw[hz k hk,hz i hi]
  exact Int.le_refl _
 have h3:=Bt hd fun j hj=>by
  obtain⟨c,hc,e2⟩:=wK (T:=(t:Rat)) hm (by rwa[hl]at hj)
  rw[e2]
  exact Rat.mul_nonneg ht2 hc
 rw[h3.2]
 exact Wv hd (by rw[hl];exact hi) (by rw[hl];exact hk) (HC hm hi hk (by grind) h h0)
end
theorem HD {xs:List Fr4}(hne:0<xs.length) (hx:∀x∈xs,x.ok∧Sz 17179869184 x.q) (hl:xs.length≤1099511627776):aD false Tryz.prog 29 [] [.one (.t (sQ false xs))] (aO (qF (.of (fL (xs.map Fr4.q))))):=by
 refine bP Tryz.func29 rfl Tryz.ntmps29 rfl aA rfl fun N w c0 h0=>?_
 refine sq ?_;refine rl ?_;refine al 0 ?_;refine nl ?_;refine sq ?_;refine rl ?_;refine o1 ?_;refine o1 ?_;refine fB ((aN xs (0)).tr false) (eE xs (k:=0) (by omega)) ?_
 refine ca (gR ⟨(hx _ (aT (by omega))).1,rfl⟩) pD ⟨aB rfl,rfl⟩ (qF (.of (aN xs (0)).q)) ?_
 refine al 1 ?_;refine st ?_;refine nl ?_;refine sq ?_;refine sq ?_;refine rl ?_;refine o1 ?_;refine nl ?_;refine bl ?_
 refine lp (γ:=Nat) (fun k=>cG [(0,.one (.t (sQ false xs))),(2,.one (.pt 0 0)),(3,.one (.pt 1 0)),(4,.one (tv (.int .i64 ((k:Nat):Int))))]) (fun k=>[(⟨50,0,[tv (.bool false),tv (.slice none 0 0),tv (.bool false),tv (.slice none 0 0)]⟩:Ob),⟨50,0,((Fr4.of (fL ((xs.take k).map Fr4.q))).tr false).map .t⟩].map some) (fun k=>1≤k∧k≤xs.length∧Sz 17179869184 (fL ((xs.take k).map Fr4.q))) (fun k=>xs.length-k) 1 ⟨Nat.le_refl _,hne,by rw[Dl hne];exact(hx _ (aT hne)).2⟩ (aH h0 [0,1] _ _ (by decide) ⟨rfl,rfl,rfl,rfl,trivial⟩ ⟨oe rfl rfl,bI (congrArg (fun q=>some (⟨50,0,((Fr4.of q).tr false).map .t⟩:Ob)) (Dl hne).symm),rfl⟩) fun k hk=>?_
 refine sq ?_;refine sq ?_;refine rl ?_;(iterate 4 refine o1 ?_);refine nl ?_;refine bO rfl (fun h1=>?_) (fun h1=>?_)
 ·refine sk ?_;refine sq ?_;refine bl ?_;refine sq ?_;refine rd [0,1] (fun i=>[].contains i) mixed ?_
  refine dv 0 ?_;refine dv 1 ?_;refine dv 2 ?_;refine eF 3 ((aN xs (k)).tr false) (eE xs (k:=k) (by omega)) ?_
  refine aX 4 ?_
  refine aK 5 rfl (uR ⟨(hx _ (aT (by omega))).1,rfl⟩ (Qn.of (p:=(fL ((xs.take k).map Fr4.q))) hk.2.2) (hx _ (aT (by omega))).2 hk.2.2) Gy ⟨aB rfl,aB rfl,rfl⟩ (.one (tv (.int .i64 ((aN xs (k)).q-(fL ((xs.take k).map Fr4.q))).num.sign))) ?_
  refine df 6 ?_;refine aR ?_;refine bO rfl (fun h2=>?_) (fun h2=>?_)
  ·refine rl ?_;(iterate 3 refine o1 ?_);refine fB ((aN xs (k)).tr false) (eE xs (k:=k) (by omega)) ?_
   refine ca (gR ⟨(hx _ (aT (by omega))).1,rfl⟩) pD ⟨aB rfl,rfl⟩ (qF (.of (aN xs (k)).q)) ?_
   refine st ?_;refine nl ?_;refine rl ?_;refine o1 ?_;refine o1 ?_;refine WL.cast (t:=14) (u':=.int .i64 ((k+1:Nat):Int)) rfl (aJ (by omega)) ?_
   refine o1 ?_;refine nl ?_;have hst:(fL ((xs.take (k+1)).map Fr4.q))=(aN xs k).q:=(zO hk.1 (by omega)).trans (if_pos ((Si _ _).1 h2))
   exact⟨k+1,by omega,⟨by omega,by omega,by rw[hst];exact(hx _ (aT (by omega))).2⟩,aH h0 [0,1] _ _ (by decide) ⟨rfl,rfl,rfl,rfl,trivial⟩ ⟨oe rfl rfl,bI (congrArg (fun q=>some (⟨50,0,((Fr4.of q).tr false).map .t⟩:Ob)) hst.symm),rfl⟩⟩
  refine sk ?_;refine rl ?_;refine o1 ?_;refine o1 ?_;refine WL.cast (t:=14) (u':=.int .i64 ((k+1:Nat):Int)) rfl (aJ (by omega)) ?_
  refine o1 ?_;refine nl ?_;have hst:(fL ((xs.take (k+1)).map Fr4.q))=(fL ((xs.take k).map Fr4.q)):=(zO hk.1 (by omega)).trans (if_neg fun h8=>h2 ((Si _ _).2 h8))
  exact⟨k+1,by omega,⟨by omega,by omega,by rw[hst];exact hk.2.2⟩,aH h0 [0,1] _ _ (by decide) ⟨rfl,rfl,rfl,rfl,trivial⟩ ⟨oe rfl rfl,bI (congrArg (fun q=>some (⟨50,0,((Fr4.of q).tr false).map .t⟩:Ob)) hst.symm),rfl⟩⟩
 refine ex ?_;refine sq ?_;refine rl ?_;refine ld ?_;refine st ?_;refine nl ?_;refine rt ?_
 exact en (.inl rfl) rfl (aW (.agg (.cons (.id rfl) (.cons (.id rfl) (.cons (.id rfl) (.cons (.id rfl) .nil)))))) (by decide) (fun h=>by cases h) (by rw[List.take_of_length_le (by omega)];rfl)
theorem Ww {b:Int}{n:Nat}(h:jK b n=0):∃m:Nat,b=(m:Int)∧m<n:=by
 unfold jK at h
 split at h
 ·cases h
 exact⟨b.toNat,by omega,by omega⟩
theorem Lu {k:Int}(h:0≤k.sign):0≤k:=by
 rcases Int.lt_trichotomy k 0 with h1 | h1 | h1
 ·rw[Int.sign_eq_neg_one_of_neg h1]at h
  omega
 ·omega
 omega
theorem KX {L:Nat}{d:Rat}(h:Sz L d):Sz L (fL [d,-d]):=by
 show Sz L (gA d [-d])
 unfold gA
 simp only[List.foldl_cons,List.foldl_nil]
 split
 ·exact kI h
 exact h
theorem KY {d:Rat}(h:d<1) (h2:-d<1):¬0≤(fL [d,-d]-((1:Int):Rat)).num.sign:=by
 have h1:fL [d,-d]<1:=by
  show gA d [-d]<1
  unfold gA
  simp only[List.foldl_cons,List.foldl_nil]
  split
  ·exact h2
  exact h
 have e:((1:Int):Rat)=1:=rfl
 have h3:fL [d,-d]-((1:Int):Rat)<0:=by rw[e];grind
 have h4:=Int.sign_eq_neg_one_of_neg (gN.2 h3)
 rw[h4]
 omega
theorem HE {d:Rat}(hd:Sz 17179869184 d):aD false Tryz.prog 29 [] [.one (.t (sQ false (dS [d,-d])))] (aO (qF (.of (fL [d,-d])))):=by
 have hz:∀q∈[d,-d],Sz 17179869184 q:=fun q hq=>by
  rcases List.mem_cons.1 hq with rfl | hq
  ·exact hd
  rw[List.mem_singleton]at hq
  rw[hq]
  exact kI hd
 have h:=HD (xs:=dS [d,-d]) (by show 0<2;omega) (fun x hx=>⟨pA hz (by omega) x hx,rF hz x hx⟩) (by show 2≤_;omega)
 rwa[sP]at h
theorem CP {x y:Zi}{k k':Int}(h:Zn x k) (h':Zn y k') (e:k=k'):aD true Tryz.prog 23 [] [gF x,gF y] (aO (.one (tv (.int .i64 0)))):=by
 have h1:=uF h h'
 rw[e,Int.sub_self]at h1
 exact h1
theorem HF {a:Zi}{k:Int}(ha:Zn a k):aD false Tryz.prog 25 [] [gF a,kF 1] (aO (.tup [qF (.of (k:Rat)),.one (tv (.int .i64 0))])):=by
 have h:=gG ha (Zn.of (k:=1) (by decide))
 rw[sV]at h
 exact h
set_option maxHeartbeats 4000000 in
theorem Hj {a:Zi}{b:Int}{xs:List Fr4}(ha0:Lim 4294967296 a.x) (hx0:∀x∈xs,LimF x):aD true Tryz.prog 5 [] [gF a,.one (tv (.int .i64 b)),.one (.t (sQ false xs))] (aO (.one (tv (.bool true)))):=by
 refine bP Tryz.func5 rfl Tryz.ntmps5 rfl aA rfl fun N9 w9 c0 h0=>?_
 refine sq ?_;refine rl ?_;refine bx 0 ?_;refine o1 ?_;refine nl ?_;refine sq ?_;refine sq ?_;refine rl ?_;refine ld ?_;refine o1 ?_
 refine ca (Hb (a:=a) (xs:=xs)) GU ⟨aB rfl,a1 rfl,rfl⟩ (.one (tv (.bool (qL a xs)))) ?_;refine WL.splitb (t:=19) rfl (fun h1=>?_) (fun h1=>?_)
 ·refine o1 ?_;refine o1 ?_;refine ld ?_;have hzn9:Zn a (zv a):=Oo ha0 (sT h1).2.1
  refine ca (rM hzn9.g) Hd ⟨aB rfl,rfl⟩ (.one (tv (.bool (cQ a.s a.x)))) ?_;refine WL.splitb (t:=23) rfl (fun h2=>?_) (fun h2=>?_)
  ·refine o1 ?_;refine o1 ?_;refine nl ?_;refine eZ rfl ?_;refine sk ?_;refine sq ?_;obtain⟨hs6,ha6,hl12⟩:=sT h1
   have hO:=fun x (h:x∈xs)=>yG (hx0 x h) (hs6 x h)
   have hx:∀x∈xs,x.ok:=fun x h=>(hO x h).1
   have hz:∀x∈xs,Sz 7 x.q:=fun x h=>(hO x h).2.1
   have hzn:=Oo ha0 ha6
   have hsz:=Rx ha0 ha6
   have hXz:=zK (k:=zv a) (b:=b) hsz hz hl12
   have hXn:(aM ((zv a:Int):Rat) b (xs.map Fr4.q)).length≤12:=wF hl12
   have hWn:(aU (aM ((zv a:Int):Rat) b (xs.map Fr4.q))).length≤12:=Nat.le_trans xU hXn
   have hws:∀k∈(aU (aM ((zv a:Int):Rat) b (xs.map Fr4.q))),(dg 4294967296 k.natAbs).length≤1000000:=fun k hk=>Nat.le_trans (vY hXz k hk) (by omega)
   have hzl:(aQ (aU (aM ((zv a:Int):Rat) b (xs.map Fr4.q)))).length=(aU (aM ((zv a:Int):Rat) b (xs.map Fr4.q))).length:=cM _
   have hwz:∀z∈(aQ (aU (aM ((zv a:Int):Rat) b (xs.map Fr4.q)))),ZL 1000000 z:=fun z hz9=>(by obtain⟨k,hk,rfl⟩:=List.mem_map.1 hz9;exact⟨aL (by omega) _,hws k hk⟩)
   have hXl:∀q∈(aM ((zv a:Int):Rat) b (xs.map Fr4.q)),(Fr4.of q).len 1099511627776:=fun q hq=>⟨Nat.le_trans (hXz q hq).1 (by omega),Nat.le_trans (hXz q hq).2 (by omega)⟩
   refine rl ?_;refine ld ?_;refine o1 ?_;refine o1 ?_
   refine ca (sS hzn hsz hx hz hl12) pE ⟨aB rfl,a1 rfl,a1 rfl,rfl⟩ (.tup [.one (.t (.s false 24 2 (aQ (aU (aM ((zv a:Int):Rat) b (xs.map Fr4.q)))).length ((aQ (aU (aM ((zv a:Int):Rat) b (xs.map Fr4.q)))).flatMap (cB true)))),.one (tv (.int .i64 (jK b xs.length)))]) ?_
   refine o1 ?_;refine o1 ?_;refine WL.sub (Gf (i:=32) (t':=24) rfl rfl (oB (aQ (aU (aM ((zv a:Int):Rat) b (xs.map Fr4.q)))))) ?_;(iterate 3 refine o1 ?_);refine nl ?_
   refine sq ?_;refine sq ?_;refine rl ?_;refine o1 ?_;refine o1 ?_;refine nl ?_;refine bO rfl (fun h3=>?_) (fun h3=>?_)
   ·refine sq ?_;have hw0:(aQ (aU (aM ((zv a:Int):Rat) b (xs.map Fr4.q)))).length=0:=by rw[hzl,mP (by rw[List.length_map];exact Ge h3),Bl];rfl
    refine rl ?_;(iterate 4 refine o1 ?_);refine WL.split (t:=39) rfl (fun h4=>?_) (fun h4=>?_)
    ·refine ca (iX) zN rfl (.one (tv (.bool true))) ?_;refine o1 ?_;refine o1 ?_;refine nl ?_;refine rt ?_;exact lL (.inl rfl) rfl (rfl)
    exact absurd (congrArg (fun n:Nat=>(n:Int)) hw0) h4
   refine sk ?_;refine sq ?_;obtain⟨m,hb,hm⟩:=Ww (Decidable.byContradiction h3)
   have hm9:m<(xs.map Fr4.q).length:=by rw[List.length_map];exact hm
   have hex:Exa (aM ((zv a:Int):Rat) b (xs.map Fr4.q)) (aU (aM ((zv a:Int):Rat) b (xs.map Fr4.q))):=by rw[hb];exact Sg hm9
   have hXe:(aM ((zv a:Int):Rat) b (xs.map Fr4.q)).length=xs.length:=by rw[hb,sL hm9,List.length_map]
   have hWe:(aQ (aU (aM ((zv a:Int):Rat) b (xs.map Fr4.q)))).length=xs.length:=by rw[hzl,hex.len,hXe]
   have hsum:cR (aQ (aU (aM ((zv a:Int):Rat) b (xs.map Fr4.q))))=zv a:=by rw[show(aQ (aU (aM ((zv a:Int):Rat) b (xs.map Fr4.q))))=(aU (aM ((zv a:Int):Rat) b (xs.map Fr4.q))).map Zi.of from rfl,Ba,hex.sum,hb,Bs hm9,Rat.num_intCast]
   have hsl:(dg 4294967296 (cR (aQ (aU (aM ((zv a:Int):Rat) b (xs.map Fr4.q))))).natAbs).length≤6:=by rw[hsum];exact hsz
   refine rl ?_;refine ld ?_;refine o1 ?_;refine o1 ?_
   refine ca (Vp hzn hsz hx hz hl12) Vy ⟨aB rfl,a1 rfl,a1 rfl,rfl⟩ (.tup [.agg [.t (.s false 48 4 (aM ((zv a:Int):Rat) b (xs.map Fr4.q)).length ((aM ((zv a:Int):Rat) b (xs.map Fr4.q)).flatMap cD))],.one (tv (.int .i64 (jK b xs.length)))]) ?_
   (iterate 3 refine o1 ?_);refine al 1 ?_;refine st ?_;refine o1 ?_;refine nl ?_;refine sq ?_;refine sq ?_;refine rd [0,1] (fun i=>[].contains i) mixed ?_
   refine dv 0 ?_;refine dv 1 ?_;refine dv 2 ?_;refine dv 3 ?_;refine dv 4 ?_;refine dv 5 ?_;refine WD.split (t:=54) rfl rfl (fun h5=>?_) (fun h5=>?_)
   ·exact absurd (congrArg (fun n:Nat=>(n:Int)) hWe) h5
   refine dv 6 ?_;refine aX 7 ?_;refine dv 8 ?_;refine dv 9 ?_;refine dv 10 ?_;refine dv 11 ?_;refine dv 12 ?_;refine dv 13 ?_
   refine WD.split (t:=62) rfl rfl (fun h6=>?_) (fun h6=>?_)
   ·exact absurd (congrArg (fun n:Nat=>(n:Int)) hXe) h6
   refine dv 14 ?_;refine aX 16 ?_
   refine aK 15 rfl (Zm (zs:=(aQ (aU (aM ((zv a:Int):Rat) b (xs.map Fr4.q))))) (L:=1000000) hwz (by omega) (by omega)) GZ ⟨a1 rfl,rfl⟩ (kF (cR (aQ (aU (aM ((zv a:Int):Rat) b (xs.map Fr4.q)))))) ?_
   refine aK 17 rfl (CP (k:=cR (aQ (aU (aM ((zv a:Int):Rat) b (xs.map Fr4.q))))) (k':=zv a) (Zn.of (k:=cR (aQ (aU (aM ((zv a:Int):Rat) b (xs.map Fr4.q))))) (Nat.le_trans hsl (by omega))) hzn hsum) xZ ⟨aB rfl,aB rfl,rfl⟩ (.one (tv (.int .i64 0))) ?_
   refine df 18 ?_;refine df 19 ?_;refine aR ?_;refine bO rfl (fun h7=>?_) (fun h7=>?_)
   ·exact absurd rfl h7
   refine sk ?_;refine sq ?_;refine sq ?_;refine rl ?_;refine o1 ?_;refine nl ?_;refine bl ?_
   refine lp (γ:=Nat) (fun s=>cG [(2,.one (.t (sQ false xs))),(3,.one (.pt 0 0)),(7,.one (.t (sZ 24 (aQ (aU (aM ((zv a:Int):Rat) b (xs.map Fr4.q))))))),(9,.one (.pt 1 0)),(11,.one (tv (.int .i64 ((s:Nat):Int))))]) (fun s=>[(⟨24,0,[tv (.bool a.s),.t (sU false a.x)]⟩:Ob),⟨42,0,[.t (.s false 48 4 (aM ((zv a:Int):Rat) b (xs.map Fr4.q)).length ((aM ((zv a:Int):Rat) b (xs.map Fr4.q)).flatMap cD))]⟩].map some) (fun s=>s≤(aQ (aU (aM ((zv a:Int):Rat) b (xs.map Fr4.q)))).length) (fun s=>(aQ (aU (aM ((zv a:Int):Rat) b (xs.map Fr4.q)))).length-s) 0 (Nat.zero_le _) (aH h0 [0,1] _ _ (by decide) ⟨rfl,rfl,rfl,rfl,rfl,trivial⟩ ⟨oe rfl rfl,oe rfl rfl,rfl⟩) ?_
   rintro i9 hi9;refine sq ?_;refine sq ?_;refine rl ?_;(iterate 4 refine o1 ?_);refine nl ?_;refine bO rfl (fun h8=>?_) (fun h8=>?_)
   ·refine sk ?_;refine sq ?_;refine bl ?_;refine sq ?_;have hi8:i9<(aU (aM ((zv a:Int):Rat) b (xs.map Fr4.q))).length:=by omega
    have hi7:i9<(aM ((zv a:Int):Rat) b (xs.map Fr4.q)).length:=by omega
    have hyl:=hws _ (iF hi8)
    have hxz:Sz 1000 (aF (aM ((zv a:Int):Rat) b (xs.map Fr4.q)) (i9)):=hXz _ (dM hi7)
    have hyz:Sz 1000000 (((aV (aU (aM ((zv a:Int):Rat) b (xs.map Fr4.q))) (i9)):Int):Rat):=wB hyl (by omega)
    have hdz:Sz 1001001 ((aF (aM ((zv a:Int):Rat) b (xs.map Fr4.q)) (i9))-(((aV (aU (aM ((zv a:Int):Rat) b (xs.map Fr4.q))) (i9)):Int):Rat)):=Sa hxz hyz
    have hMz:Sz 1001001 (fL [((aF (aM ((zv a:Int):Rat) b (xs.map Fr4.q)) (i9))-(((aV (aU (aM ((zv a:Int):Rat) b (xs.map Fr4.q))) (i9)):Int):Rat)),-((aF (aM ((zv a:Int):Rat) b (xs.map Fr4.q)) (i9))-(((aV (aU (aM ((zv a:Int):Rat) b (xs.map Fr4.q))) (i9)):Int):Rat))]):=KX hdz
    have hOz:Sz 2 ((1:Int):Rat):=kL (z:=1) (by omega) (by omega)
    obtain⟨hn1,hn2,hn3⟩:=hex.near i9 hi7
    refine rl ?_;refine o1 ?_;refine ld ?_;refine o1 ?_;refine o1 ?_
    refine fB ((cD (aF (aM ((zv a:Int):Rat) b (xs.map Fr4.q)) (i9)))) (Oq (l:=(aM ((zv a:Int):Rat) b (xs.map Fr4.q))) (k:=i9) (by omega)) ?_
    refine ca (mS (a:=.of (aF (aM ((zv a:Int):Rat) b (xs.map Fr4.q)) (i9))) (hXl _ (dM (by omega)))) Bp ⟨aB rfl,rfl⟩ (qF (.of (aF (aM ((zv a:Int):Rat) b (xs.map Fr4.q)) (i9)))) ?_
    refine al 2 ?_;refine st ?_;refine nl ?_;refine sq ?_;refine rl ?_;(iterate 3 refine o1 ?_)
    refine fB ((cB false (.of (aV (aU (aM ((zv a:Int):Rat) b (xs.map Fr4.q))) (i9))))) (oC (l:=(aU (aM ((zv a:Int):Rat) b (xs.map Fr4.q)))) (k:=i9) (by rw[cM]at*;omega)) ?_
    refine ca (wJ (a:=.of (aV (aU (aM ((zv a:Int):Rat) b (xs.map Fr4.q))) (i9))) (Nat.le_trans hyl (by omega))) Bq ⟨aB rfl,rfl⟩ (kF (aV (aU (aM ((zv a:Int):Rat) b (xs.map Fr4.q))) (i9))) ?_
    refine ca (jW (n:=1) (by omega) (by omega)) mQ ⟨a1 rfl,rfl⟩ (kF 1) ?_
    refine ca (HF (k:=(aV (aU (aM ((zv a:Int):Rat) b (xs.map Fr4.q))) (i9))) (Zn.of (k:=(aV (aU (aM ((zv a:Int):Rat) b (xs.map Fr4.q))) (i9))) (Nat.le_trans hyl (by omega)))) kD ⟨aB rfl,aB rfl,rfl⟩ (.tup [qF (.of (((aV (aU (aM ((zv a:Int):Rat) b (xs.map Fr4.q))) (i9)):Int):Rat)),.one (tv (.int .i64 0))]) ?_
    (iterate 3 refine o1 ?_);refine al 3 ?_;refine st ?_;refine o1 ?_;refine nl ?_;refine sq ?_;refine rl ?_;refine ld ?_;refine ld ?_
    refine ca (Gu (Qn.of (p:=(aF (aM ((zv a:Int):Rat) b (xs.map Fr4.q)) (i9))) hxz) (Qn.of (p:=(((aV (aU (aM ((zv a:Int):Rat) b (xs.map Fr4.q))) (i9)):Int):Rat)) hyz) (hxz.mono (by omega)) (hyz.mono (by omega))) Wf ⟨aB rfl,aB rfl,rfl⟩ (qF (.of ((aF (aM ((zv a:Int):Rat) b (xs.map Fr4.q)) (i9))-(((aV (aU (aM ((zv a:Int):Rat) b (xs.map Fr4.q))) (i9)):Int):Rat)))) ?_
    refine al 4 ?_;refine st ?_;refine nl ?_;refine sq ?_;refine sq ?_;refine rd [0,1,2,3,4] (fun i=>[].contains i) mixed ?_
    refine aX 0 ?_;refine aX 1 ?_
    refine aK 2 rfl (Gr (Qn.of (p:=((aF (aM ((zv a:Int):Rat) b (xs.map Fr4.q)) (i9))-(((aV (aU (aM ((zv a:Int):Rat) b (xs.map Fr4.q))) (i9)):Int):Rat))) hdz)) Wd ⟨aB rfl,rfl⟩ (qF (.of (-((aF (aM ((zv a:Int):Rat) b (xs.map Fr4.q)) (i9))-(((aV (aU (aM ((zv a:Int):Rat) b (xs.map Fr4.q))) (i9)):Int):Rat))))) ?_
    refine sO (key:=5) 3 (by kernel_rfl) rfl rfl aA rfl ⟨rfl,rfl,rfl,rfl,rfl,trivial⟩ ?_
    refine uK (i:=97) (k:=5) (t:=50) (t':=50) (z:=4) (n:=2) (l:=(dS [((aF (aM ((zv a:Int):Rat) b (xs.map Fr4.q)) (i9))-(((aV (aU (aM ((zv a:Int):Rat) b (xs.map Fr4.q))) (i9)):Int):Rat)),-((aF (aM ((zv a:Int):Rat) b (xs.map Fr4.q)) (i9))-(((aV (aU (aM ((zv a:Int):Rat) b (xs.map Fr4.q))) (i9)):Int):Rat))]).flatMap (Fr4.tr false)) rfl rfl rfl rfl (.one .sl) (by rfl) (by rfl) ?_
    refine aK 4 rfl (HE (hdz.mono (M:=17179869184) (by omega))) NL ⟨a1 rfl,rfl⟩ (qF (.of (fL [((aF (aM ((zv a:Int):Rat) b (xs.map Fr4.q)) (i9))-(((aV (aU (aM ((zv a:Int):Rat) b (xs.map Fr4.q))) (i9)):Int):Rat)),-((aF (aM ((zv a:Int):Rat) b (xs.map Fr4.q)) (i9))-(((aV (aU (aM ((zv a:Int):Rat) b (xs.map Fr4.q))) (i9)):Int):Rat))]))) ?_
    refine aK 5 rfl (yJ (n:=1) (by omega) (by omega)) Wh ⟨a1 rfl,rfl⟩ (qF (.of ((1:Int):Rat))) ?_
    refine aK 6 rfl (uR (Qn.of (p:=(fL [((aF (aM ((zv a:Int):Rat) b (xs.map Fr4.q)) (i9))-(((aV (aU (aM ((zv a:Int):Rat) b (xs.map Fr4.q))) (i9)):Int):Rat)),-((aF (aM ((zv a:Int):Rat) b (xs.map Fr4.q)) (i9))-(((aV (aU (aM ((zv a:Int):Rat) b (xs.map Fr4.q))) (i9)):Int):Rat))])) hMz) (Qn.of (p:=((1:Int):Rat)) hOz) (hMz.mono (by omega)) (hOz.mono (by omega))) Gy ⟨aB rfl,aB rfl,rfl⟩ (.one (tv (.int .i64 ((fL [((aF (aM ((zv a:Int):Rat) b (xs.map Fr4.q)) (i9))-(((aV (aU (aM ((zv a:Int):Rat) b (xs.map Fr4.q))) (i9)):Int):Rat)),-((aF (aM ((zv a:Int):Rat) b (xs.map Fr4.q)) (i9))-(((aV (aU (aM ((zv a:Int):Rat) b (xs.map Fr4.q))) (i9)):Int):Rat))])-((1:Int):Rat)).num.sign))) ?_
    refine df 7 ?_;refine df 8 ?_;refine WD.split (t:=102) rfl rfl (fun h9=>?_) (fun h9=>?_)
    ·exact absurd h9 (KY hn1 hn2)
    refine aX 9 ?_
    refine aK 10 rfl (hG (Qn.of (p:=(aF (aM ((zv a:Int):Rat) b (xs.map Fr4.q)) (i9))) hxz)) nS ⟨aB rfl,rfl⟩ (.one (tv (.int .i64 (aF (aM ((zv a:Int):Rat) b (xs.map Fr4.q)) (i9)).num.sign))) ?_
    refine df 11 ?_;refine df 12 ?_;refine WD.split (t:=106) rfl rfl (fun h10=>?_) (fun h10=>?_)
    ·refine aX 13 ?_
     refine aK 14 rfl (hG (Qn.of (p:=(((aV (aU (aM ((zv a:Int):Rat) b (xs.map Fr4.q))) (i9)):Int):Rat)) hyz)) nS ⟨aB rfl,rfl⟩ (.one (tv (.int .i64 (((aV (aU (aM ((zv a:Int):Rat) b (xs.map Fr4.q))) (i9)):Int):Rat).num.sign))) ?_
     refine df 15 ?_;refine df 16 ?_;refine df 17 ?_;refine aR ?_;refine bO rfl (fun h11=>?_) (fun h11=>?_)
     ·exact absurd (by rw[hn3 (Rat.num_eq_zero.1 (Int.sign_eq_zero_iff_zero.1 h10))];rfl) h11
     refine sk ?_;refine sq ?_;refine rl ?_;refine o1 ?_;refine nl ?_;refine bl ?_
     refine lp (γ:=Nat) (fun s=>cG [(2,.one (.t (sQ false xs))),(3,.one (.pt 0 0)),(7,.one (.t (sZ 24 (aQ (aU (aM ((zv a:Int):Rat) b (xs.map Fr4.q))))))),(9,.one (.pt 1 0)),(11,.one (tv (.int .i64 ((i9:Nat):Int)))),(16,.one (tv (.int .i64 ((s:Nat):Int))))]) (fun s=>[(⟨24,0,[tv (.bool a.s),.t (sU false a.x)]⟩:Ob),⟨42,0,[.t (.s false 48 4 (aM ((zv a:Int):Rat) b (xs.map Fr4.q)).length ((aM ((zv a:Int):Rat) b (xs.map Fr4.q)).flatMap cD))]⟩].map some) (fun s=>s≤(aQ (aU (aM ((zv a:Int):Rat) b (xs.map Fr4.q)))).length) (fun s=>(aQ (aU (aM ((zv a:Int):Rat) b (xs.map Fr4.q)))).length-s) 0 (Nat.zero_le _) (aH h0 [0,1] _ _ (by decide) ⟨rfl,rfl,rfl,rfl,rfl,rfl,trivial⟩ ⟨oe rfl rfl,oe rfl rfl,rfl⟩) ?_
     rintro k9 hk9;refine sq ?_;refine sq ?_;refine rl ?_;(iterate 4 refine o1 ?_);refine nl ?_;refine bO rfl (fun h12=>?_) (fun h12=>?_)
     ·refine sk ?_;refine sq ?_;refine bl ?_;refine sq ?_;refine rd [0,1] (fun i=>[].contains i) mixed ?_
      refine aX 0 ?_;refine aK 1 rfl (nJ hzn.g) uH ⟨aB rfl,rfl⟩ (.one (tv (.int .i64 (zv a).sign))) ?_;refine df 2 ?_;refine df 3 ?_
      refine WD.split (t:=121) rfl rfl (fun h13=>?_) (fun h13=>?_)
      ·refine dv 4 ?_;refine dv 5 ?_;refine dv 6 ?_
       refine eF 7 ((Fr4.tr false) (aN xs (i9))) (dP (f:=(Fr4.tr false)) (z:=4) (o:=0) (fun _=>rfl) (dN (by omega)) (Nat.le_of_ble_eq_true rfl) rfl) ?_
       refine dv 9 ?_;refine dv 10 ?_;refine dv 11 ?_
       refine eF 12 ((Fr4.tr false) (aN xs (k9))) (dP (f:=(Fr4.tr false)) (z:=4) (o:=0) (fun _=>rfl) (dN (by omega)) (Nat.le_of_ble_eq_true rfl) rfl) ?_
       refine aK 8 rfl (mS (a:=(aN xs (i9))) (hO _ (aT (by omega))).2.2) Bp ⟨aB rfl,rfl⟩ (qF (aN xs (i9))) ?_
       refine aK 13 rfl (mS (a:=(aN xs (k9))) (hO _ (aT (by omega))).2.2) Bp ⟨aB rfl,rfl⟩ (qF (aN xs (k9))) ?_
       refine aK 14 rfl (uR ⟨hx _ (aT (by omega)),rfl⟩ ⟨hx _ (aT (by omega)),rfl⟩ ((hz _ (aT (by omega))).mono (by omega)) ((hz _ (aT (by omega))).mono (by omega))) Gy ⟨aB rfl,aB rfl,rfl⟩ (.one (tv (.int .i64 ((aN xs (i9)).q-(aN xs (k9)).q).num.sign))) ?_
       refine df 15 ?_;refine df 16 ?_;refine df 17 ?_;refine WD.split (t:=135) rfl rfl (fun h14=>?_) (fun h14=>?_)
       ·refine dv 18 ?_;refine dv 19 ?_;refine dv 20 ?_
        refine eF 21 ((Fr4.tr false) (aN xs (i9))) (dP (f:=(Fr4.tr false)) (z:=4) (o:=0) (fun _=>rfl) (dN (by omega)) (Nat.le_of_ble_eq_true rfl) rfl) ?_
        refine aK 22 rfl (rE (p:=(aN xs (i9)).q) ⟨hx _ (aT (by omega)),rfl⟩) Bf ⟨aB rfl,rfl⟩ (.one (tv (.int .i64 (aN xs (i9)).q.num.sign))) ?_
        refine df 23 ?_;refine df 24 ?_;refine df 25 ?_;refine WD.split (t:=143) rfl rfl (fun h15=>?_) (fun h15=>?_)
        ·refine dv 26 ?_;refine dv 27 ?_;refine dv 28 ?_
         refine eF 29 ((cB false (.of (aV (aU (aM ((zv a:Int):Rat) b (xs.map Fr4.q))) (i9))))) (oC (l:=(aU (aM ((zv a:Int):Rat) b (xs.map Fr4.q)))) (k:=i9) (by rw[cM]at*;omega)) ?_
         refine dv 30 ?_;refine dv 31 ?_;refine dv 32 ?_
         refine eF 33 ((cB false (.of (aV (aU (aM ((zv a:Int):Rat) b (xs.map Fr4.q))) (k9))))) (oC (l:=(aU (aM ((zv a:Int):Rat) b (xs.map Fr4.q)))) (k:=k9) (by rw[cM]at*;omega)) ?_
         refine aK 34 rfl (uF (Zn.of (k:=(aV (aU (aM ((zv a:Int):Rat) b (xs.map Fr4.q))) (i9))) (Nat.le_trans hyl (by omega))) (Zn.of (k:=(aV (aU (aM ((zv a:Int):Rat) b (xs.map Fr4.q))) (k9))) (Nat.le_trans (hws _ (iF (by omega))) (by omega)))) xZ ⟨aB rfl,aB rfl,rfl⟩ (.one (tv (.int .i64 ((aV (aU (aM ((zv a:Int):Rat) b (xs.map Fr4.q))) (i9))-(aV (aU (aM ((zv a:Int):Rat) b (xs.map Fr4.q))) (k9))).sign))) ?_
         refine df 35 ?_;refine df 36 ?_;refine aR ?_;refine bO rfl (fun h16=>?_) (fun h16=>?_)
         ·exact absurd (Int.sign_neg_iff.1 h16) (by have h9:=Hi (t:=zv a) (ws:=(xs.map Fr4.q)) (i:=i9) (k:=k9) hm9 (by rw[List.length_map];omega) (by rw[List.length_map];omega) (Lu h13) (by rw[cU (f:=Fr4.q) (by omega),cU (f:=Fr4.q) (by omega)];have h8:=eR.1 (Int.sign_pos_iff.1 h14);grind) (by rw[cU (f:=Fr4.q) (by omega)];exact eR.1 (Int.sign_pos_iff.1 h15));rw[←hb]at h9;omega)
         refine sk ?_;refine rl ?_;refine o1 ?_;refine o1 ?_;refine WL.cast (t:=117) (u':=.int .i64 ((k9+1:Nat):Int)) rfl (aJ (by omega)) ?_
         refine o1 ?_;refine nl ?_;exact⟨k9+1,by omega,by omega,aH h0 [0,1] _ _ (by decide) ⟨rfl,rfl,rfl,rfl,rfl,rfl,trivial⟩ ⟨oe rfl rfl,oe rfl rfl,rfl⟩⟩
        refine aY 26 ?_;refine aY 27 ?_;refine aY 28 ?_;refine aY 29 ?_;refine aY 30 ?_;refine aY 31 ?_;refine aY 32 ?_;refine aY 33 ?_;refine aY 34 ?_
        refine aY 35 ?_;refine df 36 ?_;refine aR ?_;refine eZ rfl ?_;refine sk ?_;refine rl ?_;refine o1 ?_;refine o1 ?_
        refine WL.cast (t:=117) (u':=.int .i64 ((k9+1:Nat):Int)) rfl (aJ (by omega)) ?_
        refine o1 ?_;refine nl ?_;exact⟨k9+1,by omega,by omega,aH h0 [0,1] _ _ (by decide) ⟨rfl,rfl,rfl,rfl,rfl,rfl,trivial⟩ ⟨oe rfl rfl,oe rfl rfl,rfl⟩⟩
       refine aY 18 ?_;refine aY 19 ?_;refine aY 20 ?_;refine aY 21 ?_;refine aY 22 ?_;refine aY 23 ?_;refine df 24 ?_;refine df 25 ?_;refine aY 26 ?_
       refine aY 27 ?_;refine aY 28 ?_;refine aY 29 ?_;refine aY 30 ?_;refine aY 31 ?_;refine aY 32 ?_;refine aY 33 ?_;refine aY 34 ?_;refine aY 35 ?_
       refine df 36 ?_;refine aR ?_;refine eZ rfl ?_;refine sk ?_;refine rl ?_;refine o1 ?_;refine o1 ?_
       refine WL.cast (t:=117) (u':=.int .i64 ((k9+1:Nat):Int)) rfl (aJ (by omega)) ?_
       refine o1 ?_;refine nl ?_;exact⟨k9+1,by omega,by omega,aH h0 [0,1] _ _ (by decide) ⟨rfl,rfl,rfl,rfl,rfl,rfl,trivial⟩ ⟨oe rfl rfl,oe rfl rfl,rfl⟩⟩
      refine aY 4 ?_;refine aY 5 ?_;refine aY 6 ?_;refine aY 7 ?_;refine aY 9 ?_;refine aY 10 ?_;refine aY 11 ?_;refine aY 12 ?_;refine aY 8 ?_;refine aY 13 ?_
      refine aY 14 ?_;refine aY 15 ?_;refine df 16 ?_;refine df 17 ?_;refine aY 18 ?_;refine aY 19 ?_;refine aY 20 ?_;refine aY 21 ?_;refine aY 22 ?_
      refine aY 23 ?_;refine df 24 ?_;refine df 25 ?_;refine aY 26 ?_;refine aY 27 ?_;refine aY 28 ?_;refine aY 29 ?_;refine aY 30 ?_;refine aY 31 ?_
      refine aY 32 ?_;refine aY 33 ?_;refine aY 34 ?_;refine aY 35 ?_;refine df 36 ?_;refine aR ?_;refine eZ rfl ?_;refine sk ?_;refine rl ?_;refine o1 ?_
      refine o1 ?_;refine WL.cast (t:=117) (u':=.int .i64 ((k9+1:Nat):Int)) rfl (aJ (by omega)) ?_
      refine o1 ?_;refine nl ?_;exact⟨k9+1,by omega,by omega,aH h0 [0,1] _ _ (by decide) ⟨rfl,rfl,rfl,rfl,rfl,rfl,trivial⟩ ⟨oe rfl rfl,oe rfl rfl,rfl⟩⟩
     refine ex ?_;refine rl ?_;refine o1 ?_;refine o1 ?_;refine WL.cast (t:=74) (u':=.int .i64 ((i9+1:Nat):Int)) rfl (aJ (by omega)) ?_
     refine o1 ?_;refine nl ?_;exact⟨i9+1,by omega,by omega,aH h0 [0,1] _ _ (by decide) ⟨rfl,rfl,rfl,rfl,rfl,trivial⟩ ⟨oe rfl rfl,oe rfl rfl,rfl⟩⟩
    refine aY 13 ?_;refine aY 14 ?_;refine aY 15 ?_;refine df 16 ?_;refine df 17 ?_;refine aR ?_;refine eZ rfl ?_;refine sk ?_;refine sq ?_;refine rl ?_;refine o1 ?_
    refine nl ?_;refine bl ?_
    refine lp (γ:=Nat) (fun s=>cG [(2,.one (.t (sQ false xs))),(3,.one (.pt 0 0)),(7,.one (.t (sZ 24 (aQ (aU (aM ((zv a:Int):Rat) b (xs.map Fr4.q))))))),(9,.one (.pt 1 0)),(11,.one (tv (.int .i64 ((i9:Nat):Int)))),(16,.one (tv (.int .i64 ((s:Nat):Int))))]) (fun s=>[(⟨24,0,[tv (.bool a.s),.t (sU false a.x)]⟩:Ob),⟨42,0,[.t (.s false 48 4 (aM ((zv a:Int):Rat) b (xs.map Fr4.q)).length ((aM ((zv a:Int):Rat) b (xs.map Fr4.q)).flatMap cD))]⟩].map some) (fun s=>s≤(aQ (aU (aM ((zv a:Int):Rat) b (xs.map Fr4.q)))).length) (fun s=>(aQ (aU (aM ((zv a:Int):Rat) b (xs.map Fr4.q)))).length-s) 0 (Nat.zero_le _) (aH h0 [0,1] _ _ (by decide) ⟨rfl,rfl,rfl,rfl,rfl,rfl,trivial⟩ ⟨oe rfl rfl,oe rfl rfl,rfl⟩) ?_
    rintro k9 hk9;refine sq ?_;refine sq ?_;refine rl ?_;(iterate 4 refine o1 ?_);refine nl ?_;refine bO rfl (fun h17=>?_) (fun h17=>?_)
    ·refine sk ?_;refine sq ?_;refine bl ?_;refine sq ?_;refine rd [0,1] (fun i=>[].contains i) mixed ?_
     refine aX 0 ?_;refine aK 1 rfl (nJ hzn.g) uH ⟨aB rfl,rfl⟩ (.one (tv (.int .i64 (zv a).sign))) ?_;refine df 2 ?_;refine df 3 ?_
     refine WD.split (t:=121) rfl rfl (fun h18=>?_) (fun h18=>?_)
     ·refine dv 4 ?_;refine dv 5 ?_;refine dv 6 ?_
      refine eF 7 ((Fr4.tr false) (aN xs (i9))) (dP (f:=(Fr4.tr false)) (z:=4) (o:=0) (fun _=>rfl) (dN (by omega)) (Nat.le_of_ble_eq_true rfl) rfl) ?_
      refine dv 9 ?_;refine dv 10 ?_;refine dv 11 ?_
      refine eF 12 ((Fr4.tr false) (aN xs (k9))) (dP (f:=(Fr4.tr false)) (z:=4) (o:=0) (fun _=>rfl) (dN (by omega)) (Nat.le_of_ble_eq_true rfl) rfl) ?_
      refine aK 8 rfl (mS (a:=(aN xs (i9))) (hO _ (aT (by omega))).2.2) Bp ⟨aB rfl,rfl⟩ (qF (aN xs (i9))) ?_
      refine aK 13 rfl (mS (a:=(aN xs (k9))) (hO _ (aT (by omega))).2.2) Bp ⟨aB rfl,rfl⟩ (qF (aN xs (k9))) ?_
      refine aK 14 rfl (uR ⟨hx _ (aT (by omega)),rfl⟩ ⟨hx _ (aT (by omega)),rfl⟩ ((hz _ (aT (by omega))).mono (by omega)) ((hz _ (aT (by omega))).mono (by omega))) Gy ⟨aB rfl,aB rfl,rfl⟩ (.one (tv (.int .i64 ((aN xs (i9)).q-(aN xs (k9)).q).num.sign))) ?_
      refine df 15 ?_;refine df 16 ?_;refine df 17 ?_;refine WD.split (t:=135) rfl rfl (fun h19=>?_) (fun h19=>?_)
      ·refine dv 18 ?_;refine dv 19 ?_;refine dv 20 ?_
       refine eF 21 ((Fr4.tr false) (aN xs (i9))) (dP (f:=(Fr4.tr false)) (z:=4) (o:=0) (fun _=>rfl) (dN (by omega)) (Nat.le_of_ble_eq_true rfl) rfl) ?_
       refine aK 22 rfl (rE (p:=(aN xs (i9)).q) ⟨hx _ (aT (by omega)),rfl⟩) Bf ⟨aB rfl,rfl⟩ (.one (tv (.int .i64 (aN xs (i9)).q.num.sign))) ?_
       refine df 23 ?_;refine df 24 ?_;refine df 25 ?_;refine WD.split (t:=143) rfl rfl (fun h20=>?_) (fun h20=>?_)
       ·refine dv 26 ?_;refine dv 27 ?_;refine dv 28 ?_
        refine eF 29 ((cB false (.of (aV (aU (aM ((zv a:Int):Rat) b (xs.map Fr4.q))) (i9))))) (oC (l:=(aU (aM ((zv a:Int):Rat) b (xs.map Fr4.q)))) (k:=i9) (by rw[cM]at*;omega)) ?_
        refine dv 30 ?_;refine dv 31 ?_;refine dv 32 ?_
        refine eF 33 ((cB false (.of (aV (aU (aM ((zv a:Int):Rat) b (xs.map Fr4.q))) (k9))))) (oC (l:=(aU (aM ((zv a:Int):Rat) b (xs.map Fr4.q)))) (k:=k9) (by rw[cM]at*;omega)) ?_
        refine aK 34 rfl (uF (Zn.of (k:=(aV (aU (aM ((zv a:Int):Rat) b (xs.map Fr4.q))) (i9))) (Nat.le_trans hyl (by omega))) (Zn.of (k:=(aV (aU (aM ((zv a:Int):Rat) b (xs.map Fr4.q))) (k9))) (Nat.le_trans (hws _ (iF (by omega))) (by omega)))) xZ ⟨aB rfl,aB rfl,rfl⟩ (.one (tv (.int .i64 ((aV (aU (aM ((zv a:Int):Rat) b (xs.map Fr4.q))) (i9))-(aV (aU (aM ((zv a:Int):Rat) b (xs.map Fr4.q))) (k9))).sign))) ?_
        refine df 35 ?_;refine df 36 ?_;refine aR ?_;refine bO rfl (fun h21=>?_) (fun h21=>?_)
        ·exact absurd (Int.sign_neg_iff.1 h21) (by have h9:=Hi (t:=zv a) (ws:=(xs.map Fr4.q)) (i:=i9) (k:=k9) hm9 (by rw[List.length_map];omega) (by rw[List.length_map];omega) (Lu h18) (by rw[cU (f:=Fr4.q) (by omega),cU (f:=Fr4.q) (by omega)];have h8:=eR.1 (Int.sign_pos_iff.1 h19);grind) (by rw[cU (f:=Fr4.q) (by omega)];exact eR.1 (Int.sign_pos_iff.1 h20));rw[←hb]at h9;omega)
        refine sk ?_;refine rl ?_;refine o1 ?_;refine o1 ?_;refine WL.cast (t:=117) (u':=.int .i64 ((k9+1:Nat):Int)) rfl (aJ (by omega)) ?_
        refine o1 ?_;refine nl ?_;exact⟨k9+1,by omega,by omega,aH h0 [0,1] _ _ (by decide) ⟨rfl,rfl,rfl,rfl,rfl,rfl,trivial⟩ ⟨oe rfl rfl,oe rfl rfl,rfl⟩⟩
       refine aY 26 ?_;refine aY 27 ?_;refine aY 28 ?_;refine aY 29 ?_;refine aY 30 ?_;refine aY 31 ?_;refine aY 32 ?_;refine aY 33 ?_;refine aY 34 ?_
       refine aY 35 ?_;refine df 36 ?_;refine aR ?_;refine eZ rfl ?_;refine sk ?_;refine rl ?_;refine o1 ?_;refine o1 ?_
       refine WL.cast (t:=117) (u':=.int .i64 ((k9+1:Nat):Int)) rfl (aJ (by omega)) ?_
       refine o1 ?_;refine nl ?_;exact⟨k9+1,by omega,by omega,aH h0 [0,1] _ _ (by decide) ⟨rfl,rfl,rfl,rfl,rfl,rfl,trivial⟩ ⟨oe rfl rfl,oe rfl rfl,rfl⟩⟩
      refine aY 18 ?_;refine aY 19 ?_;refine aY 20 ?_;refine aY 21 ?_;refine aY 22 ?_;refine aY 23 ?_;refine df 24 ?_;refine df 25 ?_;refine aY 26 ?_
      refine aY 27 ?_;refine aY 28 ?_;refine aY 29 ?_;refine aY 30 ?_;refine aY 31 ?_;refine aY 32 ?_;refine aY 33 ?_;refine aY 34 ?_;refine aY 35 ?_
      refine df 36 ?_;refine aR ?_;refine eZ rfl ?_;refine sk ?_;refine rl ?_;refine o1 ?_;refine o1 ?_
      refine WL.cast (t:=117) (u':=.int .i64 ((k9+1:Nat):Int)) rfl (aJ (by omega)) ?_
      refine o1 ?_;refine nl ?_;exact⟨k9+1,by omega,by omega,aH h0 [0,1] _ _ (by decide) ⟨rfl,rfl,rfl,rfl,rfl,rfl,trivial⟩ ⟨oe rfl rfl,oe rfl rfl,rfl⟩⟩
     refine aY 4 ?_;refine aY 5 ?_;refine aY 6 ?_;refine aY 7 ?_;refine aY 9 ?_;refine aY 10 ?_;refine aY 11 ?_;refine aY 12 ?_;refine aY 8 ?_;refine aY 13 ?_
     refine aY 14 ?_;refine aY 15 ?_;refine df 16 ?_;refine df 17 ?_;refine aY 18 ?_;refine aY 19 ?_;refine aY 20 ?_;refine aY 21 ?_;refine aY 22 ?_;refine aY 23 ?_
     refine df 24 ?_;refine df 25 ?_;refine aY 26 ?_;refine aY 27 ?_;refine aY 28 ?_;refine aY 29 ?_;refine aY 30 ?_;refine aY 31 ?_;refine aY 32 ?_;refine aY 33 ?_
     refine aY 34 ?_;refine aY 35 ?_;refine df 36 ?_;refine aR ?_;refine eZ rfl ?_;refine sk ?_;refine rl ?_;refine o1 ?_;refine o1 ?_
     refine WL.cast (t:=117) (u':=.int .i64 ((k9+1:Nat):Int)) rfl (aJ (by omega)) ?_
     refine o1 ?_;refine nl ?_;exact⟨k9+1,by omega,by omega,aH h0 [0,1] _ _ (by decide) ⟨rfl,rfl,rfl,rfl,rfl,rfl,trivial⟩ ⟨oe rfl rfl,oe rfl rfl,rfl⟩⟩
    refine ex ?_;refine rl ?_;refine o1 ?_;refine o1 ?_;refine WL.cast (t:=74) (u':=.int .i64 ((i9+1:Nat):Int)) rfl (aJ (by omega)) ?_
    refine o1 ?_;refine nl ?_;exact⟨i9+1,by omega,by omega,aH h0 [0,1] _ _ (by decide) ⟨rfl,rfl,rfl,rfl,rfl,trivial⟩ ⟨oe rfl rfl,oe rfl rfl,rfl⟩⟩
   refine ex ?_;refine sq ?_;refine rl ?_;refine ca (iX) zN rfl (.one (tv (.bool true))) ?_;refine o1 ?_;refine nl ?_;refine rt ?_;exact lL (.inl rfl) rfl (rfl)
  refine o1 ?_;refine o1 ?_;refine nl ?_;refine kM rfl ?_;refine sq ?_;refine rl ?_;refine ca (iX) zN rfl (.one (tv (.bool true))) ?_;refine o1 ?_;refine nl ?_;refine rt ?_
  exact lL (.inl rfl) rfl (rfl)
 refine o1 ?_;refine o1 ?_;(iterate 3 refine eC ?_);refine o1 ?_;refine nl ?_;refine kM rfl ?_;refine sq ?_;refine rl ?_;refine ca (iX) zN rfl (.one (tv (.bool true))) ?_
 refine o1 ?_;refine nl ?_;refine rt ?_;exact lL (.inl rfl) rfl (rfl)
theorem Bu (q:Rat):LimF (.of q):=⟨aL (by omega) _,aL (by omega) _⟩
theorem yK (l:List Rat):∀x∈dS l,LimF x:=fun x hx=>by
 obtain⟨q,_,rfl⟩:=List.mem_map.1 hx
 exact Bu q
def uW:List Fr4:=[HH,(Fr4.of (Rat.divInt 1 2)),⟨aG 2,dg 4294967296 (2:Int).natAbs,aG 4,dg 4294967296 (4:Int).natAbs⟩,(Fr4.of (Rat.divInt 1 2))]
theorem rN:∀x∈uW,LimF x:=fun x hx=>by
 unfold uW at hx
 rcases List.mem_cons.1 hx with rfl | hx
 ·exact⟨Lim.nil,Lim.nil⟩
 rcases List.mem_cons.1 hx with rfl | hx
 ·exact Bu _
 rcases List.mem_cons.1 hx with rfl | hx
 ·exact⟨aL (by omega) _,aL (by omega) _⟩
 rw[List.mem_singleton]at hx
 rw[hx]
 exact Bu _
theorem Ew:aD true Tryz.prog 6 [] [] (aO (.one (tv (.bool true)))):=by
 refine bP Tryz.func6 rfl Tryz.ntmps6 rfl aA rfl fun N9 w9 c0 h0=>?_
 refine sq ?_;refine rl ?_;refine o1 ?_;refine nl ?_;refine sq ?_;refine sq ?_;refine rl ?_;refine o1 ?_;refine nl ?_;refine bl ?_
 refine lp (γ:=Nat) (fun s=>cG [(1,.one (tv (.int .i64 (((s:Nat):Int)-7))))]) (fun s=>([]:List Ob).map some) (fun s=>s≤19) (fun s=>19-s) 0 (Nat.zero_le _) (aH h0 [] _ _ (by decide) ⟨Zj (by omega),trivial⟩ rfl) ?_
 rintro i9 hi9;refine sq ?_;refine sq ?_;refine rl ?_;refine o1 ?_;refine o1 ?_;refine nl ?_;refine bO rfl (fun h1=>?_) (fun h1=>?_)
 ·refine sk ?_;refine sq ?_;refine bl ?_;refine sq ?_;refine rl ?_;refine o1 ?_;refine nl ?_;refine bl ?_
  refine lp (γ:=Nat) (fun s=>cG [(1,.one (tv (.int .i64 (((i9:Nat):Int)-7)))),(2,.one (tv (.int .i64 ((s:Nat):Int))))]) (fun s=>([]:List Ob).map some) (fun s=>s≤125) (fun s=>125-s) 0 (Nat.zero_le _) (aH h0 [] _ _ (by decide) ⟨rfl,rfl,trivial⟩ rfl) ?_
  rintro w9 hw9;refine sq ?_;refine sq ?_;refine rl ?_;refine o1 ?_;refine o1 ?_;refine nl ?_;refine bO rfl (fun h2=>?_) (fun h2=>?_)
  ·refine sk ?_;refine sq ?_;refine bl ?_;refine sq ?_;refine rl ?_;refine o1 ?_;refine o1 ?_;refine WL.cast (t:=14) (u':=.int .i64 ((w9%5:Nat):Int)) rfl (aJ (fZ _ 5)) ?_
   refine o1 ?_;refine WL.cast (t:=15) (u':=.int .i64 ((((w9%5:Nat):Int)-1))) rfl (aJ (by omega)) ?_
   refine ca (qM (n:=(((w9%5:Nat):Int)-1)) (d:=((1:Nat):Int)) (by omega) (by omega) (by omega) (by omega)) qN ⟨a1 rfl,a1 rfl,rfl⟩ (qF (.of (Rat.divInt (((w9%5:Nat):Int)-1) ((1:Nat):Int)))) ?_
   refine o1 ?_;refine o1 ?_ (hC:=(fV 5 (by omega) (by simp only[gE];omega)))
   refine WL.cast (t:=18) (u':=.int .i64 ((w9/5:Nat):Int)) rfl (aJ (eN _ 5)) ?_;refine o1 ?_
   refine WL.cast (t:=19) (u':=.int .i64 (((w9/5)%5:Nat):Int)) rfl (aJ (fZ _ 5)) ?_;refine o1 ?_
   refine WL.cast (t:=20) (u':=.int .i64 ((((w9/5%5:Nat):Int)-1))) rfl (aJ (by omega)) ?_
   refine ca (qM (n:=(((w9/5%5:Nat):Int)-1)) (d:=((2:Nat):Int)) (by omega) (by omega) (by omega) (by omega)) qN ⟨a1 rfl,a1 rfl,rfl⟩ (qF (.of (Rat.divInt (((w9/5%5:Nat):Int)-1) ((2:Nat):Int)))) ?_
   refine o1 ?_;refine o1 ?_ (hC:=(fV 25 (by omega) (by simp only[gE];omega)))
   refine WL.cast (t:=23) (u':=.int .i64 ((w9/25:Nat):Int)) rfl (aJ (eN _ 25)) ?_;refine o1 ?_
   refine WL.cast (t:=24) (u':=.int .i64 (((w9/25)%5:Nat):Int)) rfl (aJ (fZ _ 5)) ?_;refine o1 ?_
   refine WL.cast (t:=25) (u':=.int .i64 ((((w9/25%5:Nat):Int)-1))) rfl (aJ (by omega)) ?_
   refine ca (qM (n:=(((w9/25%5:Nat):Int)-1)) (d:=((3:Nat):Int)) (by omega) (by omega) (by omega) (by omega)) qN ⟨a1 rfl,a1 rfl,rfl⟩ (qF (.of (Rat.divInt (((w9/25%5:Nat):Int)-1) ((3:Nat):Int)))) ?_
   refine bs 0 ?_
   refine WL.sub (Ru (i:=27) (k:=0) (t:=48) (z:=4) (n:=3) (l:=(dS [(Rat.divInt (((w9%5:Nat):Int)-1) ((1:Nat):Int)),(Rat.divInt (((w9/5%5:Nat):Int)-1) ((2:Nat):Int)),(Rat.divInt (((w9/25%5:Nat):Int)-1) ((3:Nat):Int))]).flatMap (Fr4.tr false)) 50 rfl rfl rfl rfl (.one .sl)) ?_
   refine o1 ?_;refine nl ?_;refine sq ?_;refine rl ?_;refine o1 ?_;refine ca (gI (n:=(((i9:Nat):Int)-7)) (by omega) (by omega)) gJ ⟨a1 rfl,rfl⟩ (kF (((i9:Nat):Int)-7)) ?_
   refine o1 ?_;refine o1 ?_;refine WL.cast (t:=31) (u':=.int .i64 ((w9%4:Nat):Int)) rfl (aJ (fZ _ 4)) ?_;refine o1 ?_
   refine ca (iN (a:=(.of ((((i9:Nat):Int)-7)))) (b:=((w9%4:Nat):Int)) (xs:=(dS [(Rat.divInt (((w9%5:Nat):Int)-1) ((1:Nat):Int)),(Rat.divInt (((w9/5%5:Nat):Int)-1) ((2:Nat):Int)),(Rat.divInt (((w9/25%5:Nat):Int)-1) ((3:Nat):Int))])) (aL (by omega) _) (yK _)) Lw ⟨aB rfl,a1 rfl,a1 rfl,rfl⟩ (.one (tv (.bool true))) ?_
   (iterate 3 refine o1 ?_);refine ca (gI (n:=(((i9:Nat):Int)-7)) (by omega) (by omega)) gJ ⟨a1 rfl,rfl⟩ (kF (((i9:Nat):Int)-7)) ?_
   refine o1 ?_;refine o1 ?_;refine WL.cast (t:=39) (u':=.int .i64 ((w9%3:Nat):Int)) rfl (aJ (fZ _ 3)) ?_;refine o1 ?_
   refine ca (Hj (a:=(.of ((((i9:Nat):Int)-7)))) (b:=((w9%3:Nat):Int)) (xs:=(dS [(Rat.divInt (((w9%5:Nat):Int)-1) ((1:Nat):Int)),(Rat.divInt (((w9/5%5:Nat):Int)-1) ((2:Nat):Int)),(Rat.divInt (((w9/25%5:Nat):Int)-1) ((3:Nat):Int))])) (aL (by omega) _) (yK _)) PC ⟨aB rfl,a1 rfl,a1 rfl,rfl⟩ (.one (tv (.bool true))) ?_
   (iterate 4 refine o1 ?_)
   refine ca (pF (xs:=(dS [(Rat.divInt (((w9%5:Nat):Int)-1) ((1:Nat):Int)),(Rat.divInt (((w9/5%5:Nat):Int)-1) ((2:Nat):Int)),(Rat.divInt (((w9/25%5:Nat):Int)-1) ((3:Nat):Int))])) (yK _)) HI ⟨a1 rfl,rfl⟩ (.one (tv (.bool true))) ?_
   refine o1 ?_;refine o1 ?_;refine nl ?_;refine eZ rfl ?_;refine sk ?_;refine rl ?_;refine o1 ?_;refine o1 ?_
   refine WL.cast (t:=12) (u':=.int .i64 ((w9+1:Nat):Int)) rfl (aJ (by omega)) ?_
   refine o1 ?_;refine nl ?_;exact⟨w9+1,by omega,by omega,aH h0 [] _ _ (by decide) ⟨rfl,rfl,trivial⟩ rfl⟩
  refine ex ?_;refine rl ?_;refine o1 ?_;refine o1 ?_;refine WL.cast (t:=8) (u':=.int .i64 ((((i9+1:Nat):Int)-7))) rfl (aJ (by omega)) ?_
  refine o1 ?_;refine nl ?_;exact⟨i9+1,by omega,by omega,aH h0 [] _ _ (by decide) ⟨rfl,trivial⟩ rfl⟩
 refine ex ?_;refine sq ?_;refine rl ?_;refine o1 ?_
 refine ca (qM (n:=((1:Nat):Int)) (d:=((2:Nat):Int)) (by omega) (by omega) (by omega) (by omega)) qN ⟨a1 rfl,a1 rfl,rfl⟩ (qF (.of (Rat.divInt ((1:Nat):Int) ((2:Nat):Int)))) ?_
 refine ca (gI (n:=((2:Nat):Int)) (by omega) (by omega)) gJ ⟨a1 rfl,rfl⟩ (kF ((2:Nat):Int)) ?_
 refine ca (gI (n:=((4:Nat):Int)) (by omega) (by omega)) gJ ⟨a1 rfl,rfl⟩ (kF ((4:Nat):Int)) ?_
 refine o1 ?_
 refine ca (qM (n:=((1:Nat):Int)) (d:=((2:Nat):Int)) (by omega) (by omega) (by omega) (by omega)) qN ⟨a1 rfl,a1 rfl,rfl⟩ (qF (.of (Rat.divInt ((1:Nat):Int) ((2:Nat):Int)))) ?_
 refine bs 0 ?_;refine WL.sub (GY (j:=0) (p:=1) (e:=51) (z':=1) rfl rfl rfl) ?_;refine WL.sub (GY (j:=0) (p:=3) (e:=51) (z':=1) rfl rfl rfl) ?_
 refine WL.sub (Ru (i:=55) (k:=0) (t:=48) (z:=4) (n:=4) (l:=uW.flatMap (Fr4.tr false)) 50 rfl rfl rfl rfl (.one .sl)) ?_;refine o1 ?_;refine nl ?_;refine sq ?_;refine rl ?_
 refine ca (gI (n:=((9:Nat):Int)) (by omega) (by omega)) gJ ⟨a1 rfl,rfl⟩ (kF ((9:Nat):Int)) ?_
 refine o1 ?_
 refine ca (iN (a:=(.of (((9:Nat):Int)))) (b:=((0:Nat):Int)) (xs:=uW) (aL (by omega) _) rN) Lw ⟨aB rfl,a1 rfl,a1 rfl,rfl⟩ (.one (tv (.bool true))) ?_
 refine o1 ?_;refine o1 ?_;refine ca (pF (xs:=uW) rN) HI ⟨a1 rfl,rfl⟩ (.one (tv (.bool true))) ?_;refine o1 ?_;refine o1 ?_
 refine ca (pF (xs:=[]) (fun x h=>by cases h)) HI ⟨rG rfl .nil,rfl⟩ (.one (tv (.bool true))) ?_
 refine o1 ?_;refine o1 ?_;refine ca (gI (n:=((9:Nat):Int)) (by omega) (by omega)) gJ ⟨a1 rfl,rfl⟩ (kF ((9:Nat):Int)) ?_
 refine o1 ?_
 refine ca (iN (a:=(.of (((9:Nat):Int)))) (b:=((4:Nat):Int)) (xs:=uW) (aL (by omega) _) rN) Lw ⟨aB rfl,a1 rfl,a1 rfl,rfl⟩ (.one (tv (.bool true))) ?_
 refine o1 ?_;refine o1 ?_;refine ca (gI (n:=((9:Nat):Int)) (by omega) (by omega)) gJ ⟨a1 rfl,rfl⟩ (kF ((9:Nat):Int)) ?_
 refine o1 ?_;refine ca (iN (a:=(.of (((9:Nat):Int)))) (b:=(-1)) (xs:=uW) (aL (by omega) _) rN) Lw ⟨aB rfl,a1 rfl,a1 rfl,rfl⟩ (.one (tv (.bool true))) ?_
 refine o1 ?_;refine o1 ?_;refine ca (gI (n:=((1:Nat):Int)) (by omega) (by omega)) gJ ⟨a1 rfl,rfl⟩ (kF ((1:Nat):Int)) ?_
 refine ca (iN (a:=(.of (((1:Nat):Int)))) (b:=((0:Nat):Int)) (xs:=[]) (aL (by omega) _) (fun x h=>by cases h)) Lw ⟨aB rfl,a1 rfl,rG rfl .nil,rfl⟩ (.one (tv (.bool true))) ?_
 (iterate 4 refine o1 ?_)
 refine ca (iN (a:=⟨true,[]⟩) (b:=((1:Nat):Int)) (xs:=uW) Lim.nil rN) Lw ⟨mI rfl (.cons .t (.cons .nil .nil)),a1 rfl,a1 rfl,rfl⟩ (.one (tv (.bool true))) ?_
 refine o1 ?_;refine o1 ?_;refine ca (iX) zN rfl (.one (tv (.bool true))) ?_;refine o1 ?_;refine o1 ?_;refine nl ?_;refine rt ?_;exact lL (.inl rfl) rfl (rfl)
end Go.Proofs.YthmgbcdidlkpoaaGreat
