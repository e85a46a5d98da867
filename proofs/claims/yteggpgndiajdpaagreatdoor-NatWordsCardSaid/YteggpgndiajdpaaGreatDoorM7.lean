/- Part 7 of a proof: S1 to N7. -/
import Derived.Test.YteggpgndiajdpaaGreatDoorM6
import Derived.Test.YteggpgndiajdpaaGreatDoorM5
set_option maxRecDepth 100000
set_option linter.unusedVariables false
set_option linter.unusedSimpArgs false
namespace Go.Proofs.YteggpgndiajdpaaGreatDoor
open Go Go.RowKit
theorem Pg:CallOk Tryz.prog 98:=.mk Tryz.func98 (by decide) rfl
theorem qL {l R:List Nat}{c:Nat}(hl:Lim 256 l) (hR:l.dropWhile (· ==c)=R):aQ true Tryz.prog 98 [] [.one (tv (.string (aJ l))),.one (tv (.int .u8 ((c:Nat):Int)))] (bG (.one (tv (.string (aJ R))))):=by
 refine dN Tryz.func98 rfl Tryz.ntmps98 rfl aX rfl fun N9 w9 c0 h0=>?_
 refine sq ?_;refine rl ?_;refine o1 ?_;refine nl ?_;refine sq ?_;refine bl ?_
 refine lp (γ:=List Nat) (fun l=>bV [(0,.one (tv (.string (aJ l)))),(1,.one (tv (.int .u8 ((c:Nat):Int))))]) (fun _=>([]:List Ob).map some) (fun l=>Lim 256 l∧l.dropWhile (· ==c)=R) (fun l=>l.length) l ⟨hl,hR⟩ (bH h0 [] _ _ (by decide) ⟨rfl,rfl,trivial⟩ rfl) fun k hk=>?_
 refine sq ?_;refine sq ?_;refine rl ?_;refine o1 ?_;refine o1 ?_
 refine WL.cast (t:=6) (u':=.int .i64 ((k.length:Nat):Int)) rfl (congrArg (fun n:Nat=>Value.int .i64 (n:Int)) (aP _)) ?_
 refine o1 ?_;refine o1 ?_;refine WL.split (t:=8) rfl (fun h1=>?_) (fun h1=>?_)
 ·refine o1 ?_;refine o1 ?_ (hC:=(by rw[aP];show 0<k.length;omega))
  refine WL.cast (t:=10) (u':=.int .u8 (((nth k 0):Nat):Int)) rfl (congrArg (fun n:Nat=>Value.int .u8 (n:Int)) (fX (i:=0) (by omega) (gQ (k:=0) hk.1 (by omega)))) ?_
  (iterate 3 refine o1 ?_);refine nl ?_;refine bM rfl (fun h2=>?_) (fun h2=>?_)
  ·refine sk ?_;refine bl ?_;refine rl ?_;refine o1 ?_;refine o1 ?_ (hC:=(by rw[aP];show 1≤k.length;omega))
   refine WL.cast (t:=15) (u':=.string (aJ (k.drop 1))) rfl (congrArg Value.string (jP _ _)) ?_;refine o1 ?_;refine nl ?_
   exact⟨k.drop 1,by rw[List.length_drop];omega,⟨nT hk.1 1,(Ao (by omega) (by omega)).trans hk.2⟩,bH h0 [] _ _ (by decide) ⟨rfl,rfl,trivial⟩ rfl⟩
  refine ex ?_;refine sq ?_;refine rl ?_;refine o1 ?_;refine o1 ?_;refine nl ?_;refine rt ?_
  exact en (.inl rfl) rfl (eQ (cN _)) (by decide) (fun _=>trivial) (congrArg (fun z=>FV.one (tv (.string z))) (congrArg aJ ((yO (by omega) (by omega)).trans hk.2)))
 (iterate 4 refine eE ?_);refine o1 ?_;refine nl ?_;refine zT rfl ?_;refine ex ?_;refine sq ?_;refine rl ?_;refine o1 ?_;refine o1 ?_;refine nl ?_;refine rt ?_
 exact en (.inl rfl) rfl (eQ (cN _)) (by decide) (fun _=>trivial) (congrArg (fun z=>FV.one (tv (.string z))) (congrArg aJ ((yN (by omega)).trans hk.2)))
theorem zB {l:List Nat}(hl:Lim 256 l):aQ true Tryz.prog 59 [] [.one (tv (.string (aJ l))),.one (tv (.string ⟨#[48]⟩))] (bG (.one (tv (.string (aJ (l.dropWhile (· ==48))))))):=by
 refine dN Tryz.func59 rfl Tryz.ntmps59 rfl aX rfl fun N9 w9 c0 h0=>?_
 refine sq ?_;refine rl ?_;refine o1 ?_;refine nl ?_;refine sq ?_;refine sq ?_;refine rl ?_;refine o1 ?_;refine o1 ?_
 refine WL.cast (t:=8) (u':=.bool (decide (l=[]))) rfl (congrArg Value.bool (iB hl)) ?_;refine o1 ?_;refine WL.splitb (t:=9) rfl (fun h1=>?_) (fun h1=>?_)
 ·refine eE ?_;refine eE ?_;refine o1 ?_;refine nl ?_;refine oH rfl ?_;refine sq ?_;refine rl ?_;refine o1 ?_;refine o1 ?_;refine nl ?_;refine rt ?_
  exact en (.inl rfl) rfl (eQ (cN _)) (by decide) (fun _=>trivial) (congrArg (fun z=>FV.one (tv (.string z))) (congrArg aJ (by rw[of_decide_eq_true h1];rfl)))
 refine o1 ?_;refine o1 ?_;refine WL.cast (t:=11) (u':=.bool false) rfl (congrArg Value.bool (iB (l:=[48]) (Lim.cons (by omega) Lim.nil))) ?_
 refine o1 ?_;refine nl ?_;refine zT rfl ?_;refine sk ?_;refine sq ?_;refine sq ?_;refine rl ?_;(iterate 3 refine o1 ?_)
 refine WL.cast (t:=16) (u':=.bool true) rfl (congrArg Value.bool rfl) ?_;refine o1 ?_;refine o1 ?_;refine o1 ?_ (hC:=(by decide))
 refine o1 ?_;refine WL.cast (t:=20) (u':=.bool true) rfl (congrArg Value.bool rfl) ?_;refine o1 ?_;refine nl ?_;refine oH rfl ?_;refine sq ?_;refine rl ?_;refine o1 ?_;refine o1 ?_
 refine o1 ?_ (hC:=(by decide))
 refine WL.cast (t:=24) (u':=.int .u8 ((48:Nat):Int)) rfl rfl ?_
 refine ca (qL (c:=48) hl rfl) Pg ⟨a1 rfl,a1 rfl,rfl⟩ (.one (tv (.string (aJ (l.dropWhile (· ==48)))))) ?_;refine o1 ?_;refine nl ?_;refine rt ?_
 exact en (.inl rfl) rfl (eQ (cN _)) (by decide) (fun _=>trivial) (congrArg (fun z=>FV.one (tv (.string z))) (rfl))
theorem Bn {t n:Nat}{xs:List Nat}(hn:xs.length=n) (hn2:n≤100000000):aQ false Tryz.prog 58 [⟨t,1,(aV xs).map .t⟩] [.one (.sl 0 0 n)] (Rt [⟨t,1,(aV xs.reverse).map .t⟩] (.tup [])):=by
 subst hn;refine Pq Tryz.func58 rfl Tryz.ntmps58 rfl aX rfl fun N9 M9 w9 c0 h0=>?_
 refine sq ?_;refine rl ?_;(iterate 5 refine o1 ?_);refine nl ?_;refine bl ?_
 refine lp (γ:=Nat) (fun k=>bV [(0,.one (.sl 0 0 xs.length)),(2,.one (tv (.int .i64 ((k:Nat):Int)))),(3,.one (tv (.int .i64 ((xs.length:Int)-1-(k:Int):Int))))]) (fun k=>[(⟨t,1,(aV (cO xs k)).map .t⟩:Ob)].map some) (fun k=>2*k≤xs.length+1) (fun k=>xs.length-k) 0 (by omega) (Jq h0 [0] _ _ (by decide) rfl ⟨rfl,rfl,mB (by omega),trivial⟩ ⟨cL (congrArg (fun l=>some (⟨t,1,(aV l).map .t⟩:Ob)) (Mt xs)),rfl⟩) fun k hk=>?_
 have hrl:=eL xs k
 refine sq ?_;refine sq ?_;refine rl ?_;(iterate 3 refine o1 ?_);refine nl ?_;refine bM rfl (fun h1=>?_) (fun h1=>?_)
 ·refine sk ?_;refine sq ?_;refine bl ?_;refine rd [] (fun i=>[15].contains i) mixed ?_
  refine dv 0 ?_;refine dv 1 ?_;refine dv 2 ?_;refine dv 3 ?_;refine WD.cast (t:=17) (u':=.int .i64 (((xs.length-1-k):Nat):Int)) rfl (aG (by omega)) ?_
  refine dv 4 ?_;refine dv 5 ?_;refine WD.cast (t:=19) (u':=.int .i64 (((xs.length-1-k):Nat):Int)) rfl (aG (by omega)) ?_
  refine dv 6 ?_;refine dv 8 ?_;refine dv 9 ?_;refine dv 10 ?_;refine WO.two (i:=7) (j:=11) (by kernel_rfl) ?_ ?_
  ·refine yL 7 (sA (cO xs k) (k:=(xs.length-1-k)) (by omega)) ?_
   refine WO.one (by kernel_rfl) (yL 11 (sA (cO xs k) (k:=k) (by omega)) ?_)
   refine dv 12 ?_;refine Er 13 (mA (cO xs k) (k:=k) (v:=nth (cO xs k) ((xs.length-1-k))) (by omega)) (oN (cO xs k) (by omega)) ?_
   refine dv 14 ?_
   refine yH 15 (mA ((cO xs k).set (k) (nth (cO xs k) ((xs.length-1-k)))) (k:=(xs.length-1-k)) (v:=nth (cO xs k) (k)) (by simp only[List.length_set];omega)) (oN ((cO xs k).set (k) (nth (cO xs k) ((xs.length-1-k)))) (by simp only[List.length_set];omega)) ?_
   refine rG ?_;refine rl ?_;refine o1 ?_;refine o1 ?_;refine WL.cast (t:=11) (u':=.int .i64 ((k+1:Nat):Int)) rfl (aG (by omega)) ?_
   (iterate 4 refine o1 ?_);refine nl ?_
   exact⟨k+1,by omega,by omega,Jq h0 [0] _ _ (by decide) rfl ⟨rfl,rfl,mB (by omega),trivial⟩ ⟨cL (congrArg (fun l=>some (⟨t,1,(aV l).map .t⟩:Ob)) (Et (by omega))),rfl⟩⟩
  refine yL 11 (sA (cO xs k) (k:=k) (by omega)) ?_
  refine WO.one (by kernel_rfl) (yL 7 (sA (cO xs k) (k:=(xs.length-1-k)) (by omega)) ?_)
  refine dv 12 ?_;refine Er 13 (mA (cO xs k) (k:=k) (v:=nth (cO xs k) ((xs.length-1-k))) (by omega)) (oN (cO xs k) (by omega)) ?_
  refine dv 14 ?_
  refine yH 15 (mA ((cO xs k).set (k) (nth (cO xs k) ((xs.length-1-k)))) (k:=(xs.length-1-k)) (v:=nth (cO xs k) (k)) (by simp only[List.length_set];omega)) (oN ((cO xs k).set (k) (nth (cO xs k) ((xs.length-1-k)))) (by simp only[List.length_set];omega)) ?_
  refine rG ?_;refine rl ?_;refine o1 ?_;refine o1 ?_;refine WL.cast (t:=11) (u':=.int .i64 ((k+1:Nat):Int)) rfl (aG (by omega)) ?_
  (iterate 4 refine o1 ?_);refine nl ?_
  exact⟨k+1,by omega,by omega,Jq h0 [0] _ _ (by decide) rfl ⟨rfl,rfl,mB (by omega),trivial⟩ ⟨cL (congrArg (fun l=>some (⟨t,1,(aV l).map .t⟩:Ob)) (Et (by omega))),rfl⟩⟩
 refine ex ?_
 exact Pr (lent':=[⟨t,1,(aV xs.reverse).map .t⟩]) (.inr rfl) rfl Ps (by decide) (fun _ h=>by cases h) ⟨⟨rfl,rfl⟩,trivial⟩ ⟨congrArg (fun l=>some (⟨t,1,(aV l).map .t⟩:Ob)) (Gb (by omega)),trivial⟩ ⟨Ab _,trivial⟩ (fun h=>by cases h) ⟨rfl,rfl⟩
theorem Ng {xs:List Nat}{v:Nat}(hx:xs.length≤1000000) (hl:Lim 4294967296 xs) (hv0:vl 4294967296 xs=v):aQ true Tryz.prog 14 [] [.one (.t (sU false xs))] (bG (.one (tv (.string (aJ (tx v)))))):=by
 refine dN Tryz.func14 rfl Tryz.ntmps14 rfl aX rfl fun N9 w9 c0 h0=>?_
 have hvL:v<4294967296^xs.length:=hv0▸cW hl
 have hvl:=aH (k:=xs.length) (by omega) hvL
 refine sq ?_;refine rl ?_;refine o1 ?_;refine nl ?_;refine sq ?_;refine rl ?_;refine Pz 0 ?_;refine nl ?_;refine sq ?_;refine rl ?_;refine o1 ?_;refine nl ?_;refine sq ?_;refine sq ?_
 refine rl ?_;refine o1 ?_;refine ca (wY hl (by omega) hv0) Jk ⟨a1 rfl,rfl⟩ (.one (.t (sU false (dg 4294967296 v)))) ?_
 refine o1 ?_;refine nl ?_;refine bl ?_
 refine lp (γ:=(List Nat×List Nat)×Nat) (fun s=>bV [(0,.one (.t (sU false (dg 4294967296 s.2)))),(3,.one (.pt 0 0)),(4,.one (.sl 1 0 s.1.1.length))]) (fun s=>[(⟨87,1,(aV s.1.2).map .t⟩:Ob),⟨5,1,(aV (bN s.1.1)).map .t⟩].map some) (fun s=>s.1.2.length=9∧Lim 10 s.1.1∧vl 10 s.1.1+10^s.1.1.length*s.2=v∧s.2≤v∧s.1.1.length≤10*xs.length+9) (fun s=>s.2) (([],List.replicate 9 0),v) ⟨rfl,Lim.nil,(by simp[vl]),Nat.le_refl _,Nat.zero_le _⟩ ((nr (i:=4) 1 5 1 rfl rfl rfl rfl).trans (bH h0 [0,1] _ _ (by decide) ⟨rfl,rfl,rfl,trivial⟩ ⟨cL rfl,cL (l:=[]) rfl,rfl⟩)) ?_
 rintro⟨⟨ds,lZ⟩,u⟩ ⟨ho,hd,hv,hu,hdl⟩;dsimp only at ho hd hv hu hdl⊢;have hul:=rM hu
 refine sq ?_;refine sq ?_;refine rl ?_;(iterate 3 refine o1 ?_);refine nl ?_;refine bM rfl (fun h1=>?_) (fun h1=>?_)
 ·refine sk ?_;refine bl ?_;refine sq ?_;have hup:=kQ (B:=4294967296) (u:=u) (by omega)
  refine rl ?_;refine o1 ?_
  refine ca (Ko (u:=u) (d:=1000000000) (by omega) (by omega) (by omega)) Pb ⟨a1 rfl,a1 rfl,rfl⟩ (.tup [.one (.t (sU false (dg 4294967296 (u/1000000000)))),.one (tv (.int .u32 ((u%1000000000:Nat):Int))),.one (tv (.int .i64 0))]) ?_
  (iterate 7 refine o1 ?_);refine nl ?_;refine sq ?_;refine sq ?_;refine rl ?_;refine o1 ?_;refine nl ?_;refine bl ?_
  refine lp (γ:=Nat) (fun i=>bV [(3,.one (.pt 0 0)),(4,.one (.sl 1 0 ds.length)),(5,.one (.t (sU false (dg 4294967296 (u/1000000000))))),(6,.one (tv (.int .u32 ((u%1000000000/10^i:Nat):Int)))),(21,.one (tv (.int .i64 ((i:Nat):Int))))]) (fun i=>[(⟨87,1,(aV (bN (fd (i) (u%1000000000))++lZ.drop (i))).map .t⟩:Ob),⟨5,1,(aV (bN ds)).map .t⟩].map some) (fun i=>i≤9) (fun i=>9-i) 0 (Nat.zero_le _) (bH h0 [0,1] _ _ (by decide) ⟨rfl,rfl,rfl,mB (by rw[Nat.pow_zero,Nat.div_one]),rfl,trivial⟩ ⟨cL rfl,cL rfl,rfl⟩) fun i hi=>?_
  have hlen:(bN (fd (i) (u%1000000000))++lZ.drop (i)).length=9:=by rw[List.length_append,dI,gC,List.length_drop];omega
  have hdi:u%1000000000/10^i≤u%1000000000:=Nat.div_le_self _ _
  refine sq ?_;refine rl ?_;refine o1 ?_;refine nl ?_;refine sq ?_;refine bM rfl (fun h2=>?_) (fun h2=>?_)
  ·refine sk ?_;refine sq ?_;refine bl ?_;refine sq ?_;refine rl ?_;refine o1 ?_;refine o1 ?_;refine nl ?_;refine sq ?_;refine rl ?_;(iterate 3 refine o1 ?_)
   refine WL.cast (t:=26) (u':=.int .u32 (((u%1000000000/10^i%10):Nat):Int)) rfl (aG (gT _ 10)) ?_;refine o1 ?_
   refine WL.cast (t:=27) (u':=.int .u8 (((u%1000000000/10^i%10):Nat):Int)) rfl (aG (by omega)) ?_
   refine o1 ?_;refine WL.cast (t:=28) (u':=.int .u8 (((48+u%1000000000/10^i%10):Nat):Int)) rfl (aG (by omega)) ?_
   refine o1 ?_
   refine Py (mA (bN (fd (i) (u%1000000000))++lZ.drop (i)) (k:=i) (v:=48+u%1000000000/10^i%10) (by omega)) (oN (bN (fd (i) (u%1000000000))++lZ.drop (i)) (by omega)) ?_
   refine nl ?_;refine rl ?_;refine o1 ?_;refine o1 ?_ (hC:=(mD 10 (by omega) (Mx (Nat.lt_of_le_of_lt hdi (by omega)))))
   refine WL.cast (t:=31) (u':=.int .u32 (((u%1000000000/10^i/10):Nat):Int)) rfl (aG (gU _ 10)) ?_;refine o1 ?_;refine nl ?_;refine rl ?_;refine o1 ?_
   refine WL.cast (t:=32) (u':=.int .i64 ((i+1:Nat):Int)) rfl (aG (by omega)) ?_
   refine o1 ?_;refine nl ?_
   exact⟨i+1,by omega,by omega,bH h0 [0,1] _ _ (by decide) ⟨rfl,rfl,rfl,mB (by rw[Nat.pow_succ,Nat.div_div_eq_div_mul]),rfl,trivial⟩ ⟨cL (congrArg (fun l=>some (⟨87,1,(aV l).map .t⟩:Ob)) (Jy (by omega) ho)),cL rfl,rfl⟩⟩
  refine ex ?_;have hi9:i=9:=by omega
  subst hi9;have he9:(bN (fd (9) (u%1000000000))++lZ.drop (9))=bN (fd 9 (u%1000000000)):=by rw[List.drop_of_length_le (by omega),List.append_nil]
  refine sq ?_;refine rl ?_;refine o1 ?_
  refine Mr (m:=9) (by_:=1) 2 (DstA.sl (k:=1) (n:=ds.length) (e:=5) (z:=1) rfl (by rw[yM,dI])) (yK _) (wL _) (by rw[yM,hlen]) (by omega) (by omega) ?_
  refine o1 ?_;refine nl ?_;refine rl ?_;refine o1 ?_;refine o1 ?_;refine nl ?_
  exact⟨((ds++fd 9 (u%1000000000),bN (fd 9 (u%1000000000))),u/1000000000),by dsimp only;omega,⟨by dsimp only;rw[dI,gC],hd.append (Jx _ _),Mw hv,by dsimp only;omega,by dsimp only;rw[List.length_append,gC];have:=Gc hv hup hvL;omega⟩,bH h0 [0,2] _ _ (by decide) ⟨rfl,rfl,congrArg (fun n=>some (FV.one (.sl 2 0 n))) (show(ds++fd 9 (u%1000000000)).length=ds.length+9 by rw[List.length_append,gC]),trivial⟩ ⟨cL (congrArg (fun l=>some (⟨87,1,(aV l).map .t⟩:Ob)) he9),cL (congrArg (fun l=>some (⟨5,1,l⟩:Ob)) ((jO _ _).trans (congrArg (fun l:List Nat=>(aV l).map AV.t) (show bN ds++(bN (fd (9) (u%1000000000))++lZ.drop (9))=bN (ds++fd 9 (u%1000000000)) by rw[he9,wO])))),rfl⟩⟩
 refine ex ?_;refine sq ?_;have hu0:u=0:=(bS (B:=4294967296) (by omega)).1 (List.eq_nil_of_length_eq_zero (by omega))
 subst hu0;rw[Nat.mul_zero,Nat.add_zero]at hv;refine rl ?_;refine o1 ?_
 refine cl 2 [1] (Bn (t:=5) (xs:=bN ds) (n:=ds.length) (dI ds) (by omega)) Pc ⟨cL rfl,rfl⟩ ⟨rfl,rfl⟩ (ok:=[some ⟨5,1,(aV (bN ds).reverse).map .t⟩]) ⟨cL rfl,rfl⟩ ?_
 refine nl ?_;refine sq ?_;refine sq ?_;refine rl ?_;refine o1 ?_
 refine Qa (xs:=(bN ds).reverse) (Kb rfl (by rw[List.length_reverse,dI])) (by rw[List.length_reverse,dI]) ?_
 refine ca (zB (wN (wP hd))) Pd ⟨a1 rfl,a1 rfl,rfl⟩ (.one (tv (.string (aJ ((bN ds).reverse.dropWhile (· ==48)))))) ?_;refine o1 ?_;refine nl ?_;refine sq ?_
 refine rl ?_;refine o1 ?_;refine o1 ?_
 refine WL.cast (t:=43) (u':=.bool (!decide (((bN ds).reverse.dropWhile (· ==48))=[]))) rfl (congrArg Value.bool (congrArg not (iB (Jz (wN (wP hd)))))) ?_;refine nl ?_
 refine lL rfl (fun h3=>?_) (fun h3=>?_)
 ·refine sq ?_;refine rl ?_;refine o1 ?_;refine o1 ?_;refine nl ?_;refine rt ?_
  exact en (.inl rfl) rfl (eQ (cN _)) (by decide) (fun _=>trivial) (congrArg (fun z=>FV.one (tv (.string z))) (congrArg aJ (Gd hd hv h3)))
 refine sk ?_;refine sq ?_;refine rl ?_;refine o1 ?_;refine nl ?_;refine rt ?_
 exact en (.inl rfl) rfl (eQ (cN _)) (by decide) (fun _=>trivial) (congrArg (fun z=>FV.one (tv (.string z))) (congrArg aJ (Ka hd hv h3)))
def Nn (xs:List Nat) (u:Nat):Prop:=Lim 4294967296 xs∧xs.length≤1000000∧vl 4294967296 xs=u
theorem Nn.of {u:Nat}(h:(dg 4294967296 u).length≤1000000):Nn (dg 4294967296 u) u:=⟨bF (by omega) _,h,bL (by omega) _⟩
theorem Nn.eqT {xs:List Nat}{u:Nat}(h:Nn xs u):dg 4294967296 u=trim xs:=by rw[←h.2.2,cZ (by omega) h.1]
theorem Nn.len {xs:List Nat}{u L:Nat}(h:Nn xs u) (hL:xs.length≤L):(dg 4294967296 u).length≤L:=by rw[h.eqT];exact Nat.le_trans (bQ _) hL
section
variable {xs ys:List Nat}{u v w q r:Nat}
abbrev nF (xs:List Nat):FV:=.one (.t (sU false xs))
abbrev nO (u:Nat):FV:=.one (.t (sU true (dg 4294967296 u)))
theorem Ew (hx:Nn xs u) (hy:Nn ys v) (e:u*v=w):aQ true Tryz.prog 44 [] [nF xs,nF ys] (bG (nO w)):=by
 obtain⟨a,b,rfl⟩:=hx
 obtain⟨c,d,rfl⟩:=hy
 exact e▸Nc a c (by omega) (by omega)
theorem Kv (hx:Nn xs u):aQ true Tryz.prog 56 [] [nF xs] (bG (nO u)):=wY hx.1 (Nat.le_trans hx.2.1 (by omega)) hx.2.2
theorem zC {m:Nat}(hx:Nn xs u) (hm:m<4294967296) (e:u*m=w):aQ true Tryz.prog 51 [] [nF xs,.one (tv (.int .u32 (m:Int)))] (bG (nO w)):=by
 obtain⟨a,b,rfl⟩:=hx
 exact e▸pA a (by omega) hm
theorem uO (hx:Nn xs u) (hy:Nn ys v) (h0:v≠0) (hq:u/v=q) (hr:u%v=r):aQ true Tryz.prog 45 [] [nF xs,nF ys] (bG (.tup [nO q,nO r,.one (tv (.int .i64 0))])):=by
 obtain⟨a,b,rfl⟩:=hx
 obtain⟨c,d,rfl⟩:=hy
 subst hq hr
 exact Dp a c (by omega) (by omega) h0
theorem pF (hx:Nn xs u):aQ true Tryz.prog 14 [] [nF xs] (bG (.one (tv (.string (aJ (tx u)))))):=Ng hx.2.1 hx.1 hx.2.2
end
def rT (l:List (List Nat)):List Tr:=l.map (sU false)
def eY (l:List (List Nat)) (k:Nat):List Nat:=l.getD k []
theorem Kw:∀(l:List (List Nat)){k:Nat},k<l.length→((rT l).drop (k*1)).take [sU false (eY l k)].length=[sU false (eY l k)]
 | [],_,h=>by simp at h
 | _::_,0,_=>rfl
 | _::l,k+1,h=>by
  have:=Kw l (k:=k) (by simpa using h)
  simp only[Nat.mul_one]at this⊢
  exact this
theorem kU {l:List (List Nat)}{k:Nat}(h:k<l.length):eY l k∈l:=by
 unfold eY
 rw[List.getD_eq_getElem?_getD,List.getElem?_eq_getElem h]
 exact List.getElem_mem h
theorem Dt {l:List (List Nat)}{k:Nat}(h:k<l.length):l[k]? =some (eY l k):=by simp[eY,h]
def val (xs:List Nat):Nat:=vl 4294967296 xs
def gL (l:List (List Nat)):Nat:=l.foldl (fun g xs=>Nat.gcd g (val xs)) 0
theorem Kx {l:List (List Nat)}{k:Nat}(h:k<l.length):Nat.gcd (gL (l.take k)) (val (eY l k))=gL (l.take (k+1)):=by
 rw[List.take_add_one,Dt h]
 simp[gL]
def RL (M:Nat) (l:List (List Nat)):Prop:=∀xs∈l,Lim 4294967296 xs∧xs.length≤M
theorem RL.nn {M k:Nat}{l:List (List Nat)}(h:RL M l) (hM:M≤1000000) (hk:k<l.length):Nn (eY l k) (val (eY l k)):=⟨(h _ (kU hk)).1,Nat.le_trans (h _ (kU hk)).2 hM,rfl⟩
theorem RL.len {M k:Nat}{l:List (List Nat)}(h:RL M l) (hk:k<l.length):(dg 4294967296 (val (eY l k))).length≤M:=by
 unfold val
 rw[cZ (by omega) (h _ (kU hk)).1]
 exact Nat.le_trans (bQ _) (h _ (kU hk)).2
def dO (n:Int):Int:=if n<0 then 2 else if 4096<n then 3 else 0
def dL (x:Nat) (n:Int):Nat:=if dO n=0 then x^n.toNat else 0
theorem qM {x m:Nat}(h:x<4294967296):(dg 4294967296 (x^m)).length≤m+1:=by
 refine aH (by omega) (Nat.lt_of_le_of_lt (Nat.pow_le_pow_left (Nat.le_of_lt h) m) ?_)
 exact Nat.pow_lt_pow_right (by omega) (by omega)
theorem Bo {j:Nat}(h:j≤12):4096/2^j=2^(12-j):=by
 rw[show(4096:Nat)=2^12 from rfl,Nat.pow_div h (by omega)]
theorem Du (n i:Nat):n&&& 2^i=n/2^i%2*2^i:=by
 apply Nat.eq_of_testBit_eq
 intro k
 rw[Nat.testBit_and,Nat.testBit_two_pow]
 rcases Nat.mod_two_eq_zero_or_one (n/2^i)with h | h
 ·rw[h,Nat.zero_mul,Nat.zero_testBit]
  by_cases hk:i=k
  ·subst hk
   rw[Nat.testBit_eq_decide_div_mod_eq,h]
   rfl
  rw[decide_eq_false hk,Bool.and_false]
 rw[h,Nat.one_mul,Nat.testBit_two_pow]
 by_cases hk:i=k
 ·subst hk
  rw[Nat.testBit_eq_decide_div_mod_eq,h]
  rfl
 rw[decide_eq_false hk,Bool.and_false]
theorem xE {n j:Nat}(h:j≤12):n&&&(4096/2^j)=n/2^(12-j)%2*2^(12-j):=by
 rw[Bo h,Du]
theorem Gy {a b:Nat}(ha:a<9223372036854775808) (hb:b<9223372036854775808):IntKind.i64.wrap ((BitVec.ofInt IntKind.i64.bits (a:Int)&&& BitVec.ofInt IntKind.i64.bits (b:Int)).toNat:Int)=((a&&& b:Nat):Int):=by
 have e:IntKind.i64.bits=64:=rfl
 rw[e,BitVec.toNat_and,BitVec.ofInt_natCast,BitVec.ofInt_natCast,BitVec.toNat_ofNat,BitVec.toNat_ofNat,Nat.mod_eq_of_lt (by omega),Nat.mod_eq_of_lt (by omega)]
 have h1:a&&& b≤a:=Nat.and_le_left
 simp[IntKind.wrap,IntKind.signed,IntKind.bits]
 omega
theorem uP {j:Nat}:Int.fdiv ((4096/2^j:Nat):Int) (2^(min (1:Int).toNat IntKind.i64.bits))=((4096/2^(j+1):Nat):Int):=by
 have e:(2:Int)^(min (1:Int).toNat IntKind.i64.bits)=((2:Nat):Int):=by decide
 rw[e,Int.fdiv_eq_ediv,if_pos (Or.inl (by omega)),Int.sub_zero,←Int.natCast_ediv,Nat.div_div_eq_div_mul,←Nat.pow_succ]
theorem xF {n j:Nat}(h:j≤12):n/2^(12-j)=2*(n/2^(13-j))+n/2^(12-j)%2:=by
 have e:2^(13-j)=2^(12-j)*2:=by rw[show 13-j=(12-j)+1 by omega,Nat.pow_succ]
 rw[e,←Nat.div_div_eq_div_mul]
 omega
theorem Nh {x n j:Nat}(h:j≤12) (hb:n&&&(4096/2^j)=0):x^(n/2^(13-j))*x^(n/2^(13-j))=x^(n/2^(12-j)):=by
 rw[xE h]at hb
 have h1:n/2^(12-j)%2=0:=by
  rcases Nat.mul_eq_zero.1 hb with h2 | h2
  ·exact h2
  have:=Nat.pow_pos (n:=12-j) (show 0<2 by omega);omega
 rw[←Nat.pow_add,xF h,h1]
 congr 1
 omega
theorem Ni {x n j:Nat}(h:j≤12) (hb:n&&&(4096/2^j)≠0):x^(n/2^(13-j))*x^(n/2^(13-j))*x=x^(n/2^(12-j)):=by
 rw[xE h]at hb
 have h1:n/2^(12-j)%2=1:=by
  rcases Nat.mod_two_eq_zero_or_one (n/2^(12-j))with h2 | h2
  ·rw[h2,Nat.zero_mul]at hb;exact absurd rfl hb
  exact h2
 rw[←Nat.pow_add,←Nat.pow_succ,xF h,h1]
 congr 1
 omega
theorem Gz {xs ys:List Nat}(h:¬xs.length=ys.length):false=decide (xs=ys):=(decide_eq_false fun e=>h (by rw[e])).symm
theorem Ha {xs ys:List Nat}{k:Nat}(h:¬nth xs k=nth ys k):false=decide (xs=ys):=(decide_eq_false fun e=>h (by rw[e])).symm
theorem Hb {xs ys:List Nat}{k:Nat}(hl:xs.length=ys.length) (hk:xs.take k=ys.take k) (hk2:xs.length≤k):true=decide (xs=ys):=by
 rw[uM hk2,uM (by omega)]at hk
 exact(decide_eq_true hk).symm
theorem Nj {l:List (List Nat)}(hr:RL 1000 l) (hl:l.length≤100):aQ true Tryz.prog 46 [] [.one (.t (.s false 23 1 l.length (rT l)))] (bG (nO (gL l))):=by
 refine dN Tryz.func46 rfl Tryz.ntmps46 rfl aX rfl fun N9 w9 c0 h0=>?_
 refine sq ?_;refine rl ?_;refine o1 ?_;refine nl ?_;refine sq ?_;refine rl ?_;refine o1 ?_;refine nl ?_;refine sq ?_;refine sq ?_;refine rl ?_;(iterate 3 refine o1 ?_);refine nl ?_
 refine bl ?_
 refine lp (γ:=Nat) (fun s=>bV [(9,.one (.t (.s false 23 1 l.length (rT l)))),(10,.one (tv (.int .i64 ((l.length:Nat):Int)))),(3,.one (.t (sU false (dg 4294967296 (gL (l.take s)))))),(11,.one (tv (.int .i64 ((s:Nat):Int))))]) (fun s=>([]:List Ob).map some) (fun s=>s≤l.length∧(dg 4294967296 (gL (l.take s))).length≤1000) (fun s=>l.length-s) 0 (⟨Nat.zero_le _,by show(dg 4294967296 0).length≤1000;decide⟩) (((nr (i:=3) 0 22 1 rfl rfl rfl rfl).trans (Bi (i:=3) (zs:=[]) (zs':=[]) rfl rfl rfl rfl rfl)).trans (bH h0 [] _ _ (by decide) ⟨rfl,rfl,rfl,rfl,trivial⟩ rfl)) ?_
 rintro i hi;refine sq ?_;refine rl ?_;refine o1 ?_;refine nl ?_;refine sq ?_;refine bM rfl (fun h1=>?_) (fun h1=>?_)
 ·refine sk ?_;refine sq ?_;refine bl ?_;refine sq ?_;refine rl ?_;refine o1 ?_;refine rE ([sU false (eY l (i))]) (Kw l (k:=i) (by omega)) ?_
  refine o1 ?_;refine nl ?_;refine sq ?_;refine rl ?_;refine o1 ?_;refine ca (Kv (hr.nn (by omega) (by omega))) Jk ⟨a1 rfl,rfl⟩ (.one (.t (sU false (dg 4294967296 (val (eY l i)))))) ?_
  refine o1 ?_;refine nl ?_;refine bl ?_
  refine lp (γ:=Nat×Nat) (fun s=>bV [(9,.one (.t (.s false 23 1 l.length (rT l)))),(10,.one (tv (.int .i64 ((l.length:Nat):Int)))),(11,.one (tv (.int .i64 ((i:Nat):Int)))),(3,.one (.t (sU false (dg 4294967296 (s.1))))),(5,.one (.t (sU false (dg 4294967296 (s.2)))))]) (fun s=>([]:List Ob).map some) (fun s=>Nat.gcd s.1 s.2=Nat.gcd (gL (l.take i)) (val (eY l i))∧(dg 4294967296 (s.1)).length≤1000∧(dg 4294967296 (s.2)).length≤1000) (fun s=>s.2) (gL (l.take i),val (eY l i)) ⟨rfl,hi.2,hr.len (by omega)⟩ (bH h0 [] _ _ (by decide) ⟨rfl,rfl,rfl,rfl,rfl,trivial⟩ rfl) ?_
  rintro⟨u,v⟩ ⟨hg,hu,hv⟩;dsimp only at hg hu hv⊢;refine sq ?_;refine sq ?_;refine rl ?_;(iterate 3 refine o1 ?_);refine nl ?_;refine bM rfl (fun h2=>?_) (fun h2=>?_)
  ·refine sk ?_;refine bl ?_;refine sq ?_;have hv0:v≠0:=Nat.pos_iff_ne_zero.1 (kQ (B:=4294967296) (u:=v) (by omega))
   have hmv:=Nat.mod_lt u (Nat.pos_of_ne_zero hv0)
   have hml:(dg 4294967296 (u%v)).length≤1000:=Nat.le_trans (rM (Nat.le_of_lt hmv)) hv
   have hgs:Nat.gcd v (u%v)=Nat.gcd (gL (l.take i)) (val (eY l i)):=by rw[←hg,Nat.gcd_comm v,←Nat.gcd_rec,Nat.gcd_comm]
   refine rl ?_;refine o1 ?_;refine o1 ?_
   refine ca (uO (Nn.of (u:=u) (by omega)) (Nn.of (u:=v) (by omega)) hv0 rfl rfl) Jf ⟨a1 rfl,a1 rfl,rfl⟩ (.tup [nF (dg 4294967296 (u/v)),nF (dg 4294967296 (u%v)),.one (tv (.int .i64 0))]) ?_
   (iterate 7 refine o1 ?_);refine nl ?_;refine rl ?_;(iterate 4 refine o1 ?_);refine nl ?_
   exact⟨(v,u%v),by dsimp only;omega,⟨hgs,hv,hml⟩,bH h0 [] _ _ (by decide) ⟨rfl,rfl,rfl,rfl,rfl,trivial⟩ rfl⟩
  refine ex ?_;refine rl ?_;refine o1 ?_;refine WL.cast (t:=29) (u':=.int .i64 ((i+1:Nat):Int)) rfl (aG (by omega)) ?_
  refine o1 ?_;refine nl ?_;have hv0:v=0:=(bS (B:=4294967296) (by omega)).1 (List.eq_nil_of_length_eq_zero (by omega))
  have hgu:gL (l.take (i+1))=u:=by rw[←Kx (by omega),←hg,hv0,Nat.gcd_zero_right]
  exact⟨i+1,by omega,⟨by omega,by rw[hgu];exact hu⟩,bH h0 [] _ _ (by decide) ⟨rfl,rfl,(congrArg (fun z:Nat=>some (nF (dg 4294967296 z))) hgu),rfl,trivial⟩ rfl⟩
 refine ex ?_;refine sq ?_;refine rl ?_;refine o1 ?_;refine tT 0 (Gu (bF (by omega) _) (by omega)) Pf ⟨a1 rfl,rfl⟩ ?_
 refine o1 ?_;refine nl ?_;refine rt ?_;have hk9:i=l.length:=by omega
 exact en (.inl rfl) rfl (eQ (.one (.sl (trs:=aS (dg 4294967296 (gL (l.take i)))) rfl rfl (mC _) (dW _)))) (by decide) (fun _=>.inl ⟨rfl,iF _⟩) (by rw[hk9,List.take_of_length_le (Nat.le_refl _)];rfl)
theorem pG {x:Nat}{n:Int}(hx:x<4294967296):aQ true Tryz.prog 11 [] [.one (tv (.int .u32 ((x:Nat):Int))),.one (tv (.int .i64 n))] (bG (.tup [nO (dL x n),.one (tv (.int .i64 (dO n)))])):=by
 refine dN Tryz.func11 rfl Tryz.ntmps11 rfl aX rfl fun N9 w9 c0 h0=>?_
 refine sq ?_;refine rl ?_;refine o1 ?_;refine o1 ?_;refine nl ?_;refine sq ?_;refine bl ?_;refine sq ?_;refine rl ?_;(iterate 3 refine o1 ?_);refine nl ?_
 refine bM rfl (fun h1=>?_) (fun h1=>?_)
 ·refine sq ?_;refine rl ?_;refine o1 ?_;refine o1 ?_;refine nl ?_;refine rt ?_;have he:dO n=2:=by unfold dO;rw[if_pos (by omega)]
  exact en (.inl rfl) rfl (eN (.cons (.one (.nil (t:=22) (z:=1))) (.cons (cN _) .nil))) (by decide) (fun _=>⟨.inl ⟨rfl,trivial⟩,trivial,trivial⟩) (by rw[he,dL,he,if_neg (by decide)];rfl)
 refine sq ?_;refine rl ?_;(iterate 3 refine o1 ?_);refine nl ?_;refine bM rfl (fun h2=>?_) (fun h2=>?_)
 ·refine sq ?_;refine rl ?_;refine o1 ?_;refine o1 ?_;refine nl ?_;refine rt ?_;have he:dO n=3:=by unfold dO;rw[if_neg (by omega),if_pos (by omega)]
  exact en (.inl rfl) rfl (eN (.cons (.one (.nil (t:=22) (z:=1))) (.cons (cN _) .nil))) (by decide) (fun _=>⟨.inl ⟨rfl,trivial⟩,trivial,trivial⟩) (by rw[he,dL,he,if_neg (by decide)];rfl)
 refine sk ?_;refine sq ?_;refine rl ?_;refine bs 0 ?_;refine o1 ?_;refine nl ?_;refine sq ?_;refine sq ?_;refine rl ?_;refine o1 ?_;refine nl ?_;refine bl ?_
 have h1p:dg 4294967296 (x^(n.toNat/2^(13-0)))=[1]:=by rw[show n.toNat/2^(13-0)=0 from Nat.div_eq_of_lt (show n.toNat<8192 by omega),Nat.pow_zero];decide
 refine lp (γ:=Nat) (fun s=>bV [(0,.one (tv (.int .u32 ((x:Nat):Int)))),(1,.one (tv (.int .i64 n))),(6,.one (.sl 0 0 ((dg 4294967296 (x^(n.toNat/2^(13-s)))).length))),(7,.one (tv (.int .i64 ((4096/2^s:Nat):Int))))]) (fun s=>[(⟨22,1,(aS (dg 4294967296 (x^(n.toNat/2^(13-s))))).map .t⟩:Ob)].map some) (fun s=>s≤13) (fun s=>13-s) 0 (by omega) (bH h0 [0] _ _ (by decide) ⟨rfl,rfl,(congrArg (fun l:List Nat=>some (FV.one (.sl 0 0 l.length))) h1p),rfl,trivial⟩ ⟨cL (congrArg (fun l:List Nat=>some (⟨22,1,(aS l).map .t⟩:Ob)) h1p.symm),rfl⟩) ?_
 rintro j hj;refine sq ?_;refine sq ?_;refine rl ?_;refine o1 ?_;refine o1 ?_;refine nl ?_;refine bM rfl (fun h3=>?_) (fun h3=>?_)
 ·refine sk ?_;refine sq ?_;refine bl ?_;refine sq ?_;have hj12:j≤12:=by
   rcases Nat.lt_or_ge 12 j with h9 | h9
   ·have h8:j=13:=by omega
    rw[h8]at h3;exact absurd h3 (by decide)
   exact h9
  have hpl:=qM (m:=n.toNat/2^(13-j)) hx
  have hql:=qM (m:=n.toNat/2^(13-j)+n.toNat/2^(13-j)) hx
  rw[Nat.pow_add]at hql;have hnl:n.toNat/2^(13-j)≤n.toNat:=Nat.div_le_self _ _
  have hbj:4096/2^j≤4096:=Nat.div_le_self _ _
  refine rl ?_;refine o1 ?_;refine o1 ?_
  refine tT 1 (Ew (Nn.of (by omega)) (Nn.of (by omega)) rfl) Je ⟨eD rfl (.sl rfl rfl (iG _) (dW _)),eD rfl (.sl rfl rfl (iG _) (dW _)),rfl⟩ ?_
  refine o1 ?_;refine nl ?_;refine sq ?_;refine rl ?_;(iterate 3 refine o1 ?_)
  refine WL.cast (t:=24) (u':=.int .i64 (((n.toNat&&& 4096/2^j):Nat):Int)) rfl (aG (by rw[show(n:Int)=((n.toNat:Nat):Int) by omega];exact Gy (by omega) (by omega))) ?_
  refine o1 ?_;refine nl ?_;refine bM rfl (fun h4=>?_) (fun h4=>?_)
  ·refine rl ?_;refine o1 ?_;refine o1 ?_;refine tT 2 (zC (Nn.of (by omega)) hx (Ni hj12 (by omega))) tR ⟨eD rfl (.sl rfl rfl (iG _) (dW _)),a1 rfl,rfl⟩ ?_
   refine o1 ?_;refine nl ?_;refine rl ?_;refine o1 ?_;refine o1 ?_;refine WL.cast (t:=18) (u':=.int .i64 (((4096/2^(j+1)):Nat):Int)) rfl (aG uP) ?_;refine o1 ?_
   refine nl ?_;have hpw:x^(n.toNat/2^(12-j))=x^(n.toNat/2^(12-j)):=rfl
   exact⟨j+1,by omega,by omega,bH h0 [2] _ _ (by decide) ⟨rfl,rfl,(congrArg (fun z:Nat=>some (FV.one (.sl 2 0 (dg 4294967296 z).length))) (show x^(n.toNat/2^(13-(j+1)))=_ from(by rw[show 13-(j+1)=12-j by omega]))),rfl,trivial⟩ ⟨cL (congrArg (fun z:Nat=>some (⟨22,1,(aS (dg 4294967296 z)).map .t⟩:Ob)) (show x^(n.toNat/2^(13-(j+1)))=_ from(by rw[show 13-(j+1)=12-j by omega])).symm),rfl⟩⟩
  refine sk ?_;refine rl ?_;refine o1 ?_;refine o1 ?_;refine WL.cast (t:=18) (u':=.int .i64 (((4096/2^(j+1)):Nat):Int)) rfl (aG uP) ?_;refine o1 ?_;refine nl ?_
  have hpw:x^(n.toNat/2^(12-j))=x^(n.toNat/2^(13-j))*x^(n.toNat/2^(13-j)):=(Nh hj12 (by omega)).symm
  exact⟨j+1,by omega,by omega,bH h0 [1] _ _ (by decide) ⟨rfl,rfl,(congrArg (fun z:Nat=>some (FV.one (.sl 1 0 (dg 4294967296 z).length))) (show x^(n.toNat/2^(13-(j+1)))=_ from(by rw[show 13-(j+1)=12-j by omega];exact hpw))),rfl,trivial⟩ ⟨cL (congrArg (fun z:Nat=>some (⟨22,1,(aS (dg 4294967296 z)).map .t⟩:Ob)) (show x^(n.toNat/2^(13-(j+1)))=_ from(by rw[show 13-(j+1)=12-j by omega];exact hpw)).symm),rfl⟩⟩
 refine ex ?_;refine sq ?_;refine rl ?_;(iterate 3 refine o1 ?_);refine nl ?_;refine rt ?_;have he:dO n=0:=by unfold dO;rw[if_neg (by omega),if_neg (by omega)]
 have hj13:j=13:=by
  rcases Nat.lt_or_ge 12 j with h9 | h9
  ·omega
  have h8:=Bo h9
  have h7:=Nat.pow_pos (n:=12-j) (show 0<2 by omega)
  omega
 subst hj13
 exact en (.inl rfl) rfl (eN (.cons (.one (.sl (trs:=aS (dg 4294967296 (x^(n.toNat/2^(13-13))))) rfl rfl (mC _) (dW _))) (.cons (cN _) .nil))) (by decide) (fun _=>⟨.inl ⟨rfl,iF _⟩,trivial,trivial⟩) (by rw[he,dL,he,if_pos rfl,show n.toNat/2^(13-13)=n.toNat by simp];rfl)
theorem Ky {xs ys:List Nat}(hx:xs.length≤1000000) (hy:ys.length≤1000000):aQ true Tryz.prog 47 [] [nF xs,nF ys] (bG (.one (tv (.bool (decide (xs=ys)))))):=by
 refine dN Tryz.func47 rfl Tryz.ntmps47 rfl aX rfl fun N9 w9 c0 h0=>?_
 refine sq ?_;refine rl ?_;refine o1 ?_;refine nl ?_;refine sq ?_;refine sq ?_;refine rl ?_;(iterate 5 refine o1 ?_);refine nl ?_;refine bM rfl (fun h1=>?_) (fun h1=>?_)
 ·refine sq ?_;refine rl ?_;refine o1 ?_;refine nl ?_;refine rt ?_;exact fK (.inl rfl) rfl (Gz (by omega))
 refine sk ?_;refine sq ?_;refine sq ?_;refine rl ?_;refine o1 ?_;refine nl ?_;refine bl ?_
 refine lp (γ:=Nat) (fun k=>bV [(0,.one (.t (sU false xs))),(1,.one (.t (sU false ys))),(5,.one (tv (.int .i64 ((k:Nat):Int))))]) (fun k=>([]:List Ob).map some) (fun k=>k≤xs.length∧xs.take k=ys.take k) (fun k=>xs.length-k) 0 ⟨Nat.zero_le _,rfl⟩ (bH h0 [] _ _ (by decide) ⟨rfl,rfl,rfl,trivial⟩ rfl) fun k hk=>?_
 refine sq ?_;refine sq ?_;refine rl ?_;(iterate 4 refine o1 ?_);refine nl ?_;refine bM rfl (fun h2=>?_) (fun h2=>?_)
 ·refine sk ?_;refine sq ?_;refine bl ?_;refine sq ?_;refine rd [] (fun i=>[].contains i) mixed ?_
  refine dv 0 ?_;refine dv 1 ?_;refine dv 2 ?_;refine rF 3 ([.v (.int .u32 ((nth xs (k):Nat):Int))]) (oX xs (k:=k) (by omega)) ?_
  refine dv 4 ?_;refine dv 5 ?_;refine dv 6 ?_;refine rF 7 ([.v (.int .u32 ((nth ys (k):Nat):Int))]) (oX ys (k:=k) (by omega)) ?_
  refine dv 8 ?_;refine rG ?_;refine bM rfl (fun h3=>?_) (fun h3=>?_)
  ·refine sq ?_;refine rl ?_;refine o1 ?_;refine nl ?_;refine rt ?_;exact fK (.inl rfl) rfl (Ha (k:=k) (by omega))
  refine sk ?_;refine rl ?_;refine o1 ?_;refine o1 ?_;refine WL.cast (t:=16) (u':=.int .i64 ((k+1:Nat):Int)) rfl (aG (by omega)) ?_
  refine o1 ?_;refine nl ?_;exact⟨k+1,by omega,⟨by omega,Dm hk.2 (by omega) (by omega) (by omega)⟩,bH h0 [] _ _ (by decide) ⟨rfl,rfl,rfl,trivial⟩ rfl⟩
 refine ex ?_;refine sq ?_;refine rl ?_;refine o1 ?_;refine nl ?_;refine rt ?_;exact fK (.inl rfl) rfl (Hb (by omega) hk.2 (by omega))
theorem fT {xs ys:List Nat}(hx:xs.length≤1000000) (h:xs=ys):aQ true Tryz.prog 47 [] [nF xs,nF ys] (bG (.one (tv (.bool true)))):=by
 subst h
 have h:=Ky hx hx
 rw[decide_eq_true rfl]at h
 exact h
theorem Nk {l:List Nat}{V:Nat}(h1:Lim 4294967296 l) (h2:trim l=l) (h3:vl 4294967296 l=V):dg 4294967296 V=l:=by rw[←fE (by omega) h1 h3,h2]
theorem Kz {l:List Nat}(h:eB l=false):tx (aT l)=l:=by
 by_cases h48:l=[48]
 ·subst h48;rfl
 have hd:=pC h
 have h0:nth l 0≠48:=fun e=>by rw[zA (decide_eq_false h48) e]at h;cases h
 have hne:l≠[]:=fun e=>by rw[yZ (decide_eq_true e)]at h;cases h
 have e1:l=(bN (l.map (· -48)).reverse).reverse:=by
  unfold bN
  rw[←List.map_reverse,List.reverse_reverse,List.map_map]
  refine(List.ext_getElem (by simp) fun i h1 h2=>?_)
  have:=hd l[i] (List.getElem_mem h1)
  simp
  omega
 have hl:Lim 10 (l.map (· -48)).reverse:=fun x hx=>by
  obtain⟨c,hc,rfl⟩:=List.mem_map.1 (List.mem_reverse.1 hx)
  have:=hd c hc
  omega
 have e2:=yP (v:=aT l) hl (by rw[←Gw,←e1])
 rw[←e1]at e2
 have e3:l.dropWhile (· ==48)=l:=by
  cases l with
  | nil=>rfl
  | cons c m=>
   have:c≠48:=h0
   rw[List.dropWhile_cons,if_neg (by simpa using this)]
 rw[e3]at e2
 by_cases hv:aT l=0
 ·rw[if_pos hv]at e2
  exact absurd e2 hne
 rw[if_neg hv]at e2
 exact e2.symm
def Nu (l:List Nat) (V:Nat):Bool:=l.all (fun x=>decide (x<4294967296))&&decide (l.length≤1000000)&&decide (vl 4294967296 l=V)
theorem Bp {l:List Nat}{V:Nat}(h:Nu l V=true):Nn l V:=by
 simp only[Nu,Bool.and_eq_true,decide_eq_true_eq,List.all_eq_true]at h
 exact⟨h.1.1,h.1.2,h.2⟩
def Nv (l:List (List Nat)):Bool:=l.all fun xs=>xs.all (fun x=>decide (x<4294967296))&&decide (xs.length≤1000)
theorem Qe {l:List (List Nat)}(h:Nv l=true):RL 1000 l:=by
 intro xs hx
 simp only[Nv,List.all_eq_true,Bool.and_eq_true,decide_eq_true_eq]at h
 exact h xs hx
theorem Bq {l:List Nat}{V:Nat}(h:(l.all (fun x=>decide (x<4294967296))&&decide (trim l=l)&&decide (vl 4294967296 l=V))=true):dg 4294967296 V=l:=by
 simp only[Bool.and_eq_true,decide_eq_true_eq,List.all_eq_true]at h
 exact Nk h.1.1 h.1.2 h.2
theorem nW {l:List Nat}{V:Nat}{e:Int}(hl:Lim 256 l) (hn:l.length≤9223372036854775807) (hv:eH l=V) (he:eG l=e):aQ true Tryz.prog 9 [] [.one (tv (.string (aJ l)))] (bG (.tup [nO V,.one (tv (.int .i64 e))])):=hv▸he▸jU hl hn
theorem La {x:Nat}{n:Int}{V:Nat}{e:Int}(hx:x<4294967296) (hv:dL x n=V) (he:dO n=e):aQ true Tryz.prog 11 [] [.one (tv (.int .u32 ((x:Nat):Int))),.one (tv (.int .i64 n))] (bG (.tup [nO V,.one (tv (.int .i64 e))])):=hv▸he▸pG hx
theorem Hc (l:List Nat):(dg 4294967296 (eH l)).length≤l.length:=by
 by_cases h:eG l=0
 ·rw[sD h]
  have hg:eB l=false:=by
   cases hq:eB l with
   | false=>rfl
   | true=>rw[iT hq]at h;cases h
  have h1:=jT (pC hg) (Nat.le_refl _)
  rwa[List.take_of_length_le (Nat.le_refl _)]at h1
 rw[eT h];exact Nat.zero_le _
theorem pH {B:Nat}{l:List Nat}{k:Nat}(hB:0<B) (h:k≤l.length):vl B (l.drop k)≤vl B l:=by
 rw[gV B l k h]
 have:=Nat.le_mul_of_pos_left (vl B (l.drop k)) (Nat.pow_pos (n:=k) hB)
 omega
def sB (xs:List Nat):Tr:=.s false 5 1 xs.length (aV xs)
abbrev bR (xs:List Nat):FV:=.one (.t (sB xs))
theorem Br {xs:List Nat}{m:Nat}(h:m≤xs.length):FV.one (.t (.s false 5 1 m ((aV xs).take (m*1))))=bR (xs.take m):=by
 unfold bR sB aV
 rw[Nat.mul_one,←List.map_take,List.length_take,Nat.min_eq_left h]
theorem rN {x:Cx}{g:Nat→FV}{ob:List (Option Ob)}{i k n:Nat}{zs zs':List Nat}(hi:Nat.blt i x.n=true) (hg:g i=.one (.sl k 0 n)) (ho:bB ob k=some ⟨5,1,(aV zs).map .t⟩) (hn:n=zs.length) (he:zs=zs'):Sub x g ob (aK g i (bR zs')) (ob.set k none):=by
 subst hn he
 exact fz hi hg ho (by rw[eK,Nat.mul_one])
theorem Ph {x:Cx}{g:Nat→FV}{ob:List (Option Ob)}{j t z:Nat}{l l':List AV}(ho:bB ob j=some ⟨t,z,l⟩) (hl:l=l'):Sub x g ob g (ob.set j (some ⟨t,z,l'⟩)):=by
 subst hl
 have e:ob.set j (some ⟨t,z,l⟩)=ob:=by
  refine List.ext_getElem? fun i=>?_
  rw[List.getElem?_set]
  split
  ·rename_i h
   subst h
   have h2:=bK ho
   rw[if_pos (List.getElem?_eq_some_iff.1 h2).1]
   exact h2.symm
  rfl
 rw[e]
 exact fun ts W h=>h
theorem mS {u v L:Nat}(h:u≤v) (hv:(dg 2 v).length≤L):(dg 2 u).length≤L:=Nat.le_trans (cD (by omega) h) hv
theorem xG {u v L:Nat}(hu:(dg 2 u).length≤L) (hv:(dg 2 v).length≤L):(dg 2 (u+v)).length≤L+1:=by
 have h1:=eS (B:=2) (n:=u) (by omega)
 have h2:=eS (B:=2) (n:=v) (by omega)
 have h3:=Nat.pow_le_pow_right (n:=2) (by omega) hu
 have h4:=Nat.pow_le_pow_right (n:=2) (by omega) hv
 exact aH (by omega) (by rw[Nat.pow_succ];omega)
theorem xH (u v:Nat):(dg 2 (u*v)).length≤(dg 2 u).length+(dg 2 v).length:=by
 have h1:=eS (B:=2) (n:=u) (by omega)
 have h2:=eS (B:=2) (n:=v) (by omega)
 exact aH (by omega) (by rw[Nat.pow_add];exact Nat.mul_lt_mul'' h1 h2)
theorem dT {u L:Nat}(h:(dg 4294967296 u).length≤L):(dg 2 u).length≤32*L:=by
 have h1:=eS (B:=4294967296) (n:=u) (by omega)
 refine aH (by omega) (Nat.lt_of_lt_of_le h1 ?_)
 rw[Nat.pow_mul]
 exact Nat.pow_le_pow_right (by decide) h
theorem Hd {d u:Nat}(hd:d<2):trim (d::dg 2 u)=dg 2 (2*u+d):=fE (by omega) (Lim.cons hd (bF (by omega) u)) (by rw[cC,bL (by omega)];omega)
theorem Bs {u:Nat}(h:(dg 2 u).length=0):u=0:=(bS (by omega)).1 (List.eq_nil_of_length_eq_zero h)
theorem Bt {u:Nat}(h:0<(dg 2 u).length):u≠0:=fun e=>by rw[e]at h;simp[eI]at h
theorem pI {s:Nat}(h:s<256):IntKind.u8.wrap ((BitVec.ofInt IntKind.u8.bits (s:Int)&&& BitVec.ofInt IntKind.u8.bits (1:Int)).toNat:Int)=((s%2:Nat):Int):=by
 have e:IntKind.u8.bits=8:=rfl
 rw[e,BitVec.toNat_and,BitVec.ofInt_natCast,show BitVec.ofInt 8 (1:Int)=1#8 from rfl,BitVec.toNat_ofNat,BitVec.toNat_ofNat,Nat.mod_eq_of_lt (by omega)]
 have h1:s&&&(1%2^8)=s%2:=by rw[show 1%2^8=1 from rfl,Nat.and_one_is_mod]
 rw[h1]
 simp[IntKind.wrap,IntKind.signed,IntKind.bits]
 omega
theorem Hf {s:Nat}(h:s<4294967296):IntKind.u32.wrap ((BitVec.ofInt IntKind.u32.bits (s:Int)&&& BitVec.ofInt IntKind.u32.bits (1:Int)).toNat:Int)=((s%2:Nat):Int):=by
 have e:IntKind.u32.bits=32:=rfl
 rw[e,BitVec.toNat_and,BitVec.ofInt_natCast,show BitVec.ofInt 32 (1:Int)=1#32 from rfl,BitVec.toNat_ofNat,BitVec.toNat_ofNat,Nat.mod_eq_of_lt (by omega)]
 have h1:s&&&(1%2^32)=s%2:=by rw[show 1%2^32=1 from rfl,Nat.and_one_is_mod]
 rw[h1]
 simp[IntKind.wrap,IntKind.signed,IntKind.bits]
 omega
theorem pJ {s:Nat}:Int.fdiv (s:Int) (2^(min (1:Int).toNat IntKind.u8.bits))=((s/2:Nat):Int):=by
 have e:(2:Int)^(min (1:Int).toNat IntKind.u8.bits)=((2:Nat):Int):=by decide
 rw[e,Int.fdiv_eq_ediv,if_pos (Or.inl (by omega)),Int.sub_zero,←Int.natCast_ediv]
theorem Nl {x k:Nat}(h:k<32):Int.fdiv (x:Int) (2^(min ((k:Nat):Int).toNat IntKind.u32.bits))=((x/2^k:Nat):Int):=by
 have e0:min ((k:Nat):Int).toNat IntKind.u32.bits=k:=by simp[IntKind.bits];omega
 rw[e0,show(2:Int)^k=((2^k:Nat):Int) by simp]
 generalize 2^k=m
 rw[Int.fdiv_eq_ediv,if_pos (Or.inl (Int.natCast_nonneg m)),Int.sub_zero,←Int.natCast_ediv]
theorem Ex {d s:Nat}(hd:d<2) (hs:s<32):IntKind.u32.wrap ((d:Int)*2^(min ((s:Nat):Int).toNat IntKind.u32.bits))=((d*2^s:Nat):Int):=by
 have e0:min ((s:Nat):Int).toNat IntKind.u32.bits=s:=by simp[IntKind.bits];omega
 have h1:d*2^s<4294967296:=by
  have h2:2^s≤2^31:=Nat.pow_le_pow_right (by omega) (by omega)
  have h3:d*2^s≤1*2^31:=Nat.mul_le_mul (by omega) h2
  omega
 rw[e0,show(2:Int)^s=((2^s:Nat):Int) by simp,←Int.natCast_mul]
 generalize d*2^s=m at h1⊢
 simp[IntKind.wrap,IntKind.signed,IntKind.bits]
 omega
theorem mE {X Y os:List Nat}{k cr:Nat}(hl:os.length=k) (h:vl 2 os+2^k*cr=vl 2 (X.take k)+vl 2 (Y.take k)):
  vl 2 (os++[(nth X k+nth Y k+cr)%2])+2^(k+1)*((nth X k+nth Y k+cr)/2)=vl 2 (X.take (k+1))+vl 2 (Y.take (k+1)):=by
 rw[dX,aF,aF,hl,Nat.pow_succ,Nat.mul_assoc]
 have h2:=Nat.mod_add_div (nth X k+nth Y k+cr) 2
 have h3:2^k*(nth X k+nth Y k+cr)=2^k*((nth X k+nth Y k+cr)%2)+2^k*(2*((nth X k+nth Y k+cr)/2)):=by rw[←Nat.mul_add,h2]
 rw[Nat.mul_add,Nat.mul_add]at h3
 omega
theorem Bu {X Y os:List Nat}{k br br' d:Nat}(hl:os.length=k) (h:vl 2 os+vl 2 (Y.take k)=vl 2 (X.take k)+2^k*br) (hd:d+nth Y k+br=nth X k+2*br'):
  vl 2 (os++[d])+vl 2 (Y.take (k+1))=vl 2 (X.take (k+1))+2^(k+1)*br':=by
 rw[dX,aF,aF,hl,Nat.pow_succ,Nat.mul_assoc]
 have h3:2^k*(d+nth Y k+br)=2^k*(nth X k+2*br'):=by rw[hd]
 rw[Nat.mul_add,Nat.mul_add,Nat.mul_add]at h3
 omega
theorem Bv {xs os:List Nat}{i k:Nat}(hl:os.length=32*i+k) (h:vl 2 os=vl 4294967296 (xs.take i)+2^(32*i)*(nth xs i%2^k)):
  vl 2 (os++[nth xs i/2^k%2])=vl 4294967296 (xs.take i)+2^(32*i)*(nth xs i%2^(k+1)):=by
 rw[dX,hl,h,Nat.mod_pow_succ,Nat.pow_add,Nat.mul_add,Nat.mul_assoc]
 omega
theorem Bw {xs os:List Nat}{i:Nat}(hx:nth xs i<4294967296) (h:vl 2 os=vl 4294967296 (xs.take i)+2^(32*i)*(nth xs i%2^32)):vl 2 os=vl 4294967296 (xs.take (i+1)):=by
 rw[h,aF,Nat.mod_eq_of_lt hx,Nat.pow_mul]
theorem xI {u v:Nat}(h:(dg 2 u).length<(dg 2 v).length):u<v:=by
 rcases Nat.lt_or_ge u v with h1 | h1
 ·exact h1
 have:=cD (B:=2) (by omega) h1;omega
theorem Bx {X Y:List Nat}{k:Nat}(hX:Lim 2 X) (hk:∀j,k+1≤j→nth X j=nth Y j) (h:nth X k<nth Y k):vl 2 X<vl 2 Y:=by
 have hS:∀m,vl 2 (X.take (k+1+m))+vl 2 (Y.take (k+1))=vl 2 (Y.take (k+1+m))+vl 2 (X.take (k+1)):=by
  intro m
  induction m with
  | zero=>exact Nat.add_comm _ _
  | succ m ih=>
   rw[←Nat.add_assoc,aF 2 X (k+1+m),aF 2 Y (k+1+m),hk (k+1+m) (by omega)]
   omega
 have h1:=hS (X.length+Y.length)
 rw[aL 2 (l:=X) (k:=k+1+(X.length+Y.length)) (by omega),aL 2 (l:=Y) (k:=k+1+(X.length+Y.length)) (by omega)]at h1
 have h2:vl 2 (X.take (k+1))<vl 2 (Y.take (k+1)):=by
  rw[aF,aF]
  have h3:=cW (hX.take k)
  have h4:2^(X.take k).length≤2^k:=Nat.pow_le_pow_right (by omega) (by rw[List.length_take];omega)
  have h5:2^k*(nth X k+1)≤2^k*nth Y k:=Nat.mul_le_mul_left _ h
  rw[Nat.mul_add]at h5
  omega
 omega
theorem Hg {X Y:List Nat}(h:∀j,nth X j=nth Y j):vl 2 X=vl 2 Y:=by
 have hS:∀m,vl 2 (X.take m)=vl 2 (Y.take m):=by
  intro m
  induction m with
  | zero=>rfl
  | succ m ih=>rw[aF,aF,ih,h]
 have h1:=hS (X.length+Y.length)
 rwa[aL 2 (l:=X) (k:=X.length+Y.length) (by omega),aL 2 (l:=Y) (k:=X.length+Y.length) (by omega)]at h1
theorem xJ (B:Nat):∀{l:List Nat}{j v:Nat},j<l.length→vl B (l.set j v)+B^j*nth l j=vl B l+B^j*v
 | [],j,v,h=>by simp at h
 | d::l,0,v,h=>by
  rw[List.set_cons_zero,cC,cC,Nat.pow_zero,Nat.one_mul,Nat.one_mul]
  show v+B*vl B l+d=d+B*vl B l+v
  omega
 | d::l,j+1,v,h=>by
  have ih:=xJ B (l:=l) (j:=j) (v:=v) (by simpa using h)
  rw[List.set_cons_succ,cC,cC,Nat.pow_succ,Nat.mul_comm (B^j),Nat.mul_assoc,Nat.mul_assoc]
  have e:nth (d::l) (j+1)=nth l j:=rfl
  rw[e]
  have:=congrArg (B* ·) ih
  simp only[Nat.mul_add]at this
  omega
theorem Ey (B:Nat):∀(l:List Nat) (j:Nat),B^j*nth l j≤vl B l
 | [],j=>by simp[nth,vl]
 | d::l,0=>by
  show B^0*d≤d+B*vl B l
  rw[Nat.pow_zero,Nat.one_mul]
  omega
 | d::l,j+1=>by
  have ih:=Ey B l j
  rw[cC,Nat.pow_succ,Nat.mul_comm (B^j),Nat.mul_assoc]
  have e:nth (d::l) (j+1)=nth l j:=rfl
  rw[e]
  have:=Nat.mul_le_mul_left B ih
  omega
theorem Ez (i:Nat):2^i=4294967296^(i/32)*2^(i%32):=by
 rw[show(4294967296:Nat)=2^32 from rfl,←Nat.pow_mul,←Nat.pow_add,Nat.div_add_mod]
theorem xK {ws X:List Nat}{i:Nat}(hX:Lim 2 X) (h:vl 4294967296 ws=vl 2 (X.take i)):nth ws (i/32)<2^(i%32):=by
 have h1:=Ey 4294967296 ws (i/32)
 have h2:=cW (hX.take i)
 have h3:2^(X.take i).length≤2^i:=Nat.pow_le_pow_right (by omega) (by rw[List.length_take];omega)
 rw[Ez i]at h3
 exact Nat.lt_of_mul_lt_mul_left (a:=4294967296^(i/32)) (by omega)
theorem rO {ws X:List Nat}{i:Nat}(hw:i/32<ws.length) (h:vl 4294967296 ws=vl 2 (X.take i)):vl 4294967296 (ws.set (i/32) (nth ws (i/32)+nth X i*2^(i%32)))=vl 2 (X.take (i+1)):=by
 have h1:=xJ 4294967296 (v:=nth ws (i/32)+nth X i*2^(i%32)) hw
 rw[Nat.mul_add]at h1
 have h2:4294967296^(i/32)*(nth X i*2^(i%32))=2^i*nth X i:=by
  conv=>rhs;rw[Ez i]
  rw[Nat.mul_assoc,Nat.mul_comm (nth X i)]
 rw[aF]
 omega
theorem By {ws:List Nat}{u:Nat}(hl:Lim 4294967296 ws) (hv:vl 4294967296 ws=u) (hn:ws.length=((dg 2 u).length+31)/32):ws=dg 4294967296 u:=by
 have h1:=fE (by omega) hl hv
 have h2:=fU ws
 have h3:ws.length≤(dg 4294967296 u).length:=by
  by_cases h0:u=0
  ·subst h0;rw[hn];simp[eI]
  have h4:=Ll (B:=2) (n:=u) (by omega) h0
  have h5:=eS (B:=4294967296) (n:=u) (by omega)
  rw[show(4294967296:Nat)=2^32 from rfl,←Nat.pow_mul]at h5
  have h6:=(Nat.pow_lt_pow_iff_right (a:=2) (by omega)).1 (Nat.lt_of_le_of_lt h4 h5)
  rw[hn]
  rw[show(2:Nat)^32=4294967296 from rfl]at h6
  omega
 rw[←h1]at h3⊢
 rw[←h2,List.take_of_length_le h3]
theorem Lb {xs:List Nat}(hx:xs.length≤1000000):aQ false Tryz.prog 60 [] [bR xs] (bG (bR (trim xs))):=by
 refine dN Tryz.func60 rfl Tryz.ntmps60 rfl aX rfl fun N9 w9 c0 h0=>?_
 refine sq ?_;refine rl ?_;refine o1 ?_;refine nl ?_;refine sq ?_;refine rl ?_;(iterate 3 refine o1 ?_);refine nl ?_;refine sq ?_;refine bl ?_
 refine lp (γ:=Nat) (fun s=>bV [(0,.one (.t (.s false 5 1 xs.length (aV xs)))),(3,.one (tv (.int .i64 ((s:Nat):Int))))]) (fun s=>([]:List Ob).map some) (fun s=>s≤xs.length∧trim (xs.take s)=trim xs) (fun s=>s) (xs.length) (⟨Nat.le_refl _,by rw[List.take_length]⟩) (bH h0 [] _ _ (by decide) ⟨rfl,rfl,trivial⟩ rfl) ?_
 rintro n hn;refine sq ?_;refine sq ?_;refine rl ?_;(iterate 3 refine o1 ?_);refine WL.split (t:=8) rfl (fun h1=>?_) (fun h1=>?_)
 ·(iterate 3 refine o1 ?_);refine WL.cast (t:=11) (u':=.int .i64 ((n-1:Nat):Int)) rfl (aG (by omega)) ?_
  refine o1 ?_;refine rE ([.v (.int .u8 ((nth xs (n-1):Nat):Int))]) (fJ xs (k:=n-1) (by omega)) ?_
  refine o1 ?_;refine o1 ?_;refine nl ?_;refine bM rfl (fun h2=>?_) (fun h2=>?_)
  ·refine sk ?_;refine bl ?_;refine rl ?_;refine o1 ?_;refine o1 ?_;refine WL.cast (t:=17) (u':=.int .i64 ((n-1:Nat):Int)) rfl (aG (by omega)) ?_
   refine o1 ?_;refine nl ?_;exact⟨n-1,by omega,⟨by omega,(qN (xs:=xs) (k:=n) (by omega) (by omega) (by omega)).trans hn.2⟩,bH h0 [] _ _ (by decide) ⟨rfl,rfl,trivial⟩ rfl⟩
  refine ex ?_;refine sq ?_;refine rl ?_;(iterate 4 refine o1 ?_);refine nl ?_;refine rt ?_;refine en (.inl rfl) rfl (eQ (.one (.id rfl))) (by decide) (fun h=>by cases h) ?_
  have hx9:trim xs=xs.take n:=by
   rw[←hn.2];exact lE (by omega) hn.1 (by omega)
  rw[hx9];exact Br hn.1
 (iterate 6 refine eE ?_);refine o1 ?_;refine nl ?_;refine zT rfl ?_;refine ex ?_;refine sq ?_;refine rl ?_;(iterate 4 refine o1 ?_);refine nl ?_;refine rt ?_
 refine en (.inl rfl) rfl (eQ (.one (.id rfl))) (by decide) (fun h=>by cases h) ?_
 have hx9:trim xs=xs.take n:=by
  rw[←hn.2,show n=0 by omega]
  rfl
 rw[hx9];exact Br hn.1
theorem fC {xs:List Nat}{v:Nat}(hx:xs.length≤1000000) (h:trim xs=dg 2 v):aQ false Tryz.prog 60 [] [bR xs] (bG (bR (dg 2 (v)))):=h▸Lb hx
theorem fD {xs:List Nat}{k:Nat}:aQ true Tryz.prog 110 [] [bR xs,.one (tv (.int .i64 ((k:Nat):Int)))] (bG (.one (tv (.int .u8 ((nth xs k:Nat):Int))))):=by
 refine dN Tryz.func110 rfl Tryz.ntmps110 rfl aX rfl fun N9 w9 c0 h0=>?_
 refine sq ?_;refine rl ?_;refine o1 ?_;refine nl ?_;refine sq ?_;refine sq ?_;refine rl ?_;(iterate 3 refine o1 ?_);refine WL.split (t:=7) rfl (fun h1=>?_) (fun h1=>?_)
 ·omega
 (iterate 5 refine o1 ?_);refine nl ?_;refine bM rfl (fun h2=>?_) (fun h2=>?_)
 ·refine sq ?_;refine rl ?_;refine o1 ?_;refine nl ?_;refine rt ?_
  exact en (.inl rfl) rfl (eQ (cN _)) (by decide) (fun _=>trivial) (congrArg (fun z=>FV.one (tv (.int .u8 z))) (by rw[cM (by omega)];rfl))
 refine sk ?_;refine sq ?_;refine rl ?_;(iterate 3 refine o1 ?_);refine rE ([.v (.int .u8 ((nth xs (k):Nat):Int))]) (fJ xs (k:=k) (by omega)) ?_
 refine o1 ?_;refine nl ?_;refine rt ?_;exact en (.inl rfl) rfl (eQ (cN _)) (by decide) (fun _=>trivial) (congrArg (fun z=>FV.one (tv (.int .u8 z))) (rfl))
theorem Fa {u v:Nat}(hu:(dg 2 (u)).length≤900000) (hv:(dg 2 (v)).length≤900000):aQ false Tryz.prog 52 [] [(bR (dg 2 (u))),(bR (dg 2 (v)))] (bG (bR (dg 2 (u+v)))):=by
 refine dN Tryz.func52 rfl Tryz.ntmps52 rfl aX rfl fun N9 w9 c0 h0=>?_
 have hX:=bF (B:=2) (by omega) u
 have hY:=bF (B:=2) (by omega) v
 have hvX:=bL (B:=2) (by omega) u
 have hvY:=bL (B:=2) (by omega) v
 obtain⟨X,hXe⟩:∃X,dg 2 u=X:=⟨_,rfl⟩
 obtain⟨Y,hYe⟩:∃Y,dg 2 v=Y:=⟨_,rfl⟩
 rw[hXe]at hX hvX hu⊢;rw[hYe]at hY hvY hv⊢;refine sq ?_;refine rl ?_;refine o1 ?_;refine nl ?_;refine sq ?_;refine rl ?_;refine o1 ?_;refine nl ?_;refine sq ?_;refine rl ?_
 refine o1 ?_;refine nl ?_;refine sq ?_;refine sq ?_;refine rl ?_;refine o1 ?_;refine nl ?_;refine bl ?_
 refine lp (γ:=Nat×Nat×List Nat) (fun s=>bV [(0,.one (.t (.s false 5 1 X.length (aV X)))),(1,.one (.t (.s false 5 1 Y.length (aV Y)))),(5,.one (.sl 0 0 (s.1))),(6,.one (tv (.int .u8 ((s.2.1:Nat):Int)))),(7,.one (tv (.int .i64 ((s.1:Nat):Int))))]) (fun s=>[(⟨5,1,(aV s.2.2).map .t⟩:Ob)].map some) (fun s=>s.2.2.length=s.1∧Lim 2 s.2.2∧vl 2 s.2.2+2^s.1*s.2.1=vl 2 (X.take s.1)+vl 2 (Y.take s.1)∧s.2.1≤1∧(s.1≤max X.length Y.length∨s.1=max X.length Y.length+1∧s.2.1=0)) (fun s=>max X.length Y.length+1-s.1) (0,0,[]) ⟨rfl,Lim.nil,rfl,Nat.zero_le _,.inl (Nat.zero_le _)⟩ ((nr (i:=5) 0 5 1 rfl rfl rfl rfl).trans (bH h0 [0] _ _ (by decide) ⟨rfl,rfl,rfl,rfl,rfl,trivial⟩ ⟨cL (l:=[]) rfl,rfl⟩)) ?_
 rintro⟨k,cr,os⟩ ⟨hos,hol,hv2,hc,hkm⟩;dsimp only at hos hol hv2 hc hkm⊢;have hn1:=hX.nth (by omega) k
 have hn2:=hY.nth (by omega) k
 refine sq ?_;refine sq ?_;refine rl ?_;(iterate 5 refine o1 ?_);refine WL.split (t:=13) rfl (fun h1=>?_) (fun h1=>?_)
 ·(iterate 4 refine eE ?_);refine o1 ?_;refine o1 ?_;refine eE ?_;refine eE ?_;refine o1 ?_;refine nl ?_;refine oH rfl ?_;refine sk ?_;refine sq ?_;refine bl ?_;refine sq ?_
  refine rl ?_;refine o1 ?_;refine o1 ?_;refine ca (fD (xs:=X) (k:=k)) iS ⟨a1 rfl,a1 rfl,rfl⟩ (.one (tv (.int .u8 ((nth X (k):Nat):Int)))) ?_;refine o1 ?_;refine o1 ?_
  refine ca (fD (xs:=Y) (k:=k)) iS ⟨a1 rfl,a1 rfl,rfl⟩ (.one (tv (.int .u8 ((nth Y (k):Nat):Int)))) ?_;refine o1 ?_
  refine WL.cast (t:=31) (u':=.int .u8 (((nth X (k))+(nth Y (k)):Nat):Int)) rfl (aG (by omega)) ?_
  refine o1 ?_;refine o1 ?_;refine WL.cast (t:=33) (u':=.int .u8 (((nth X (k))+(nth Y (k))+cr:Nat):Int)) rfl (aG (by omega)) ?_
  refine o1 ?_;refine nl ?_;refine sq ?_;refine rl ?_;(iterate 3 refine o1 ?_)
  refine WL.cast (t:=36) (u':=.int .u8 ((((nth X k+nth Y k+cr)%2):Nat):Int)) rfl (aG (pI (by omega))) ?_
  refine bs 1 ?_;refine kN (j:=2) aX rfl rfl rfl rfl (.sl rfl (by rw[List.length_map,eK,hos];omega)) (.sl rfl rfl rfl) rfl rfl rfl (by omega) (by omega) ?_
  refine o1 ?_;refine nl ?_;refine rl ?_;refine o1 ?_;refine o1 ?_;refine WL.cast (t:=40) (u':=.int .u8 ((((nth X k+nth Y k+cr)/2):Nat):Int)) rfl (aG pJ) ?_;refine o1 ?_
  refine nl ?_;refine rl ?_;refine o1 ?_;refine o1 ?_;refine WL.cast (t:=24) (u':=.int .i64 ((k+1:Nat):Int)) rfl (aG (by omega)) ?_
  refine o1 ?_;refine nl ?_;have hst:=mE hos hv2
  have hz1:X.length≤k→nth X k=0:=fun h=>cM (by omega)
  have hz2:Y.length≤k→nth Y k=0:=fun h=>cM (by omega)
  exact⟨(k+1,(nth X k+nth Y k+cr)/2,os++[(nth X k+nth Y k+cr)%2]),by dsimp only;omega,⟨by simp[hos],hol.append (Lim.cons (Nat.mod_lt _ (by omega)) Lim.nil),hst,by dsimp only;omega,by dsimp only;omega⟩,bH h0 [2] _ _ (by decide) ⟨rfl,rfl,rfl,rfl,rfl,trivial⟩ ⟨cL (congrArg (fun l:List AV=>some (⟨5,1,l⟩:Ob)) (jO os [(nth X k+nth Y k+cr)%2])),rfl⟩⟩
 (iterate 6 refine o1 ?_);refine WL.split (t:=19) rfl (fun h2=>?_) (fun h2=>?_)
 ·refine eE ?_;refine eE ?_;refine o1 ?_;refine nl ?_;refine oH rfl ?_;refine sk ?_;refine sq ?_;refine bl ?_;refine sq ?_;refine rl ?_;refine o1 ?_;refine o1 ?_
  refine ca (fD (xs:=X) (k:=k)) iS ⟨a1 rfl,a1 rfl,rfl⟩ (.one (tv (.int .u8 ((nth X (k):Nat):Int)))) ?_;refine o1 ?_;refine o1 ?_
  refine ca (fD (xs:=Y) (k:=k)) iS ⟨a1 rfl,a1 rfl,rfl⟩ (.one (tv (.int .u8 ((nth Y (k):Nat):Int)))) ?_;refine o1 ?_
  refine WL.cast (t:=31) (u':=.int .u8 (((nth X (k))+(nth Y (k)):Nat):Int)) rfl (aG (by omega)) ?_
  refine o1 ?_;refine o1 ?_;refine WL.cast (t:=33) (u':=.int .u8 (((nth X (k))+(nth Y (k))+cr:Nat):Int)) rfl (aG (by omega)) ?_
  refine o1 ?_;refine nl ?_;refine sq ?_;refine rl ?_;(iterate 3 refine o1 ?_)
  refine WL.cast (t:=36) (u':=.int .u8 ((((nth X k+nth Y k+cr)%2):Nat):Int)) rfl (aG (pI (by omega))) ?_
  refine bs 1 ?_;refine kN (j:=2) aX rfl rfl rfl rfl (.sl rfl (by rw[List.length_map,eK,hos];omega)) (.sl rfl rfl rfl) rfl rfl rfl (by omega) (by omega) ?_
  refine o1 ?_;refine nl ?_;refine rl ?_;refine o1 ?_;refine o1 ?_;refine WL.cast (t:=40) (u':=.int .u8 ((((nth X k+nth Y k+cr)/2):Nat):Int)) rfl (aG pJ) ?_;refine o1 ?_
  refine nl ?_;refine rl ?_;refine o1 ?_;refine o1 ?_;refine WL.cast (t:=24) (u':=.int .i64 ((k+1:Nat):Int)) rfl (aG (by omega)) ?_
  refine o1 ?_;refine nl ?_;have hst:=mE hos hv2
  have hz1:X.length≤k→nth X k=0:=fun h=>cM (by omega)
  have hz2:Y.length≤k→nth Y k=0:=fun h=>cM (by omega)
  exact⟨(k+1,(nth X k+nth Y k+cr)/2,os++[(nth X k+nth Y k+cr)%2]),by dsimp only;omega,⟨by simp[hos],hol.append (Lim.cons (Nat.mod_lt _ (by omega)) Lim.nil),hst,by dsimp only;omega,by dsimp only;omega⟩,bH h0 [2] _ _ (by decide) ⟨rfl,rfl,rfl,rfl,rfl,trivial⟩ ⟨cL (congrArg (fun l:List AV=>some (⟨5,1,l⟩:Ob)) (jO os [(nth X k+nth Y k+cr)%2])),rfl⟩⟩
 (iterate 3 refine o1 ?_);refine nl ?_;refine bM rfl (fun h3=>?_) (fun h3=>?_)
 ·refine sk ?_;refine sq ?_;refine bl ?_;refine sq ?_;refine rl ?_;refine o1 ?_;refine o1 ?_
  refine ca (fD (xs:=X) (k:=k)) iS ⟨a1 rfl,a1 rfl,rfl⟩ (.one (tv (.int .u8 ((nth X (k):Nat):Int)))) ?_;refine o1 ?_;refine o1 ?_
  refine ca (fD (xs:=Y) (k:=k)) iS ⟨a1 rfl,a1 rfl,rfl⟩ (.one (tv (.int .u8 ((nth Y (k):Nat):Int)))) ?_;refine o1 ?_
  refine WL.cast (t:=31) (u':=.int .u8 (((nth X (k))+(nth Y (k)):Nat):Int)) rfl (aG (by omega)) ?_
  refine o1 ?_;refine o1 ?_;refine WL.cast (t:=33) (u':=.int .u8 (((nth X (k))+(nth Y (k))+cr:Nat):Int)) rfl (aG (by omega)) ?_
  refine o1 ?_;refine nl ?_;refine sq ?_;refine rl ?_;(iterate 3 refine o1 ?_)
  refine WL.cast (t:=36) (u':=.int .u8 ((((nth X k+nth Y k+cr)%2):Nat):Int)) rfl (aG (pI (by omega))) ?_
  refine bs 1 ?_;refine kN (j:=2) aX rfl rfl rfl rfl (.sl rfl (by rw[List.length_map,eK,hos];omega)) (.sl rfl rfl rfl) rfl rfl rfl (by omega) (by omega) ?_
  refine o1 ?_;refine nl ?_;refine rl ?_;refine o1 ?_;refine o1 ?_;refine WL.cast (t:=40) (u':=.int .u8 ((((nth X k+nth Y k+cr)/2):Nat):Int)) rfl (aG pJ) ?_;refine o1 ?_
  refine nl ?_;refine rl ?_;refine o1 ?_;refine o1 ?_;refine WL.cast (t:=24) (u':=.int .i64 ((k+1:Nat):Int)) rfl (aG (by omega)) ?_
  refine o1 ?_;refine nl ?_;have hst:=mE hos hv2
  have hz1:X.length≤k→nth X k=0:=fun h=>cM (by omega)
  have hz2:Y.length≤k→nth Y k=0:=fun h=>cM (by omega)
  exact⟨(k+1,(nth X k+nth Y k+cr)/2,os++[(nth X k+nth Y k+cr)%2]),by dsimp only;omega,⟨by simp[hos],hol.append (Lim.cons (Nat.mod_lt _ (by omega)) Lim.nil),hst,by dsimp only;omega,by dsimp only;omega⟩,bH h0 [2] _ _ (by decide) ⟨rfl,rfl,rfl,rfl,rfl,trivial⟩ ⟨cL (congrArg (fun l:List AV=>some (⟨5,1,l⟩:Ob)) (jO os [(nth X k+nth Y k+cr)%2])),rfl⟩⟩
 refine ex ?_;refine sq ?_;refine rl ?_;have hc0:cr=0:=by omega
 rw[hc0,Nat.mul_zero,Nat.add_zero,aL 2 (by omega),aL 2 (by omega),hvX,hvY]at hv2
 have htr:=fE (by omega) hol hv2
 refine WL.sub (rN (i:=5) (zs:=os) (zs':=os) rfl rfl rfl (by omega) rfl) ?_
 refine o1 ?_;refine ca (fC (xs:=os) (by omega) htr) lY ⟨a1 rfl,rfl⟩ ((bR (dg 2 (u+v)))) ?_
 refine o1 ?_;refine nl ?_;refine rt ?_;exact en (.inl rfl) rfl (eQ (.one (.id rfl))) (by decide) (fun h=>by cases h) rfl
theorem Nm {u v:Nat}(hu:(dg 2 (u)).length≤900000) (hv:(dg 2 (v)).length≤900000) (hle:v≤u):aQ false Tryz.prog 114 [] [(bR (dg 2 (u))),(bR (dg 2 (v)))] (bG (bR (dg 2 (u-v)))):=by
 refine dN Tryz.func114 rfl Tryz.ntmps114 rfl aX rfl fun N9 w9 c0 h0=>?_
 have hX:=bF (B:=2) (by omega) u
 have hY:=bF (B:=2) (by omega) v
 have hvX:=bL (B:=2) (by omega) u
 have hvY:=bL (B:=2) (by omega) v
 obtain⟨X,hXe⟩:∃X,dg 2 u=X:=⟨_,rfl⟩
 obtain⟨Y,hYe⟩:∃Y,dg 2 v=Y:=⟨_,rfl⟩
 rw[hXe]at hX hvX hu⊢;rw[hYe]at hY hvY hv⊢;refine sq ?_;refine rl ?_;refine o1 ?_;refine nl ?_;refine sq ?_;refine rl ?_;refine o1 ?_;refine nl ?_;refine sq ?_;refine rl ?_
 refine o1 ?_;refine nl ?_;refine sq ?_;refine sq ?_;refine rl ?_;refine o1 ?_;refine nl ?_;refine bl ?_
 refine lp (γ:=Nat×Nat×List Nat) (fun s=>bV [(0,.one (.t (.s false 5 1 X.length (aV X)))),(1,.one (.t (.s false 5 1 Y.length (aV Y)))),(5,.one (.sl 0 0 (s.1))),(6,.one (tv (.int .u8 ((s.2.1:Nat):Int)))),(7,.one (tv (.int .i64 ((s.1:Nat):Int))))]) (fun s=>[(⟨5,1,(aV s.2.2).map .t⟩:Ob)].map some) (fun s=>s.2.2.length=s.1∧Lim 2 s.2.2∧vl 2 s.2.2+vl 2 (Y.take s.1)=vl 2 (X.take s.1)+2^s.1*s.2.1∧s.2.1≤1∧s.1≤X.length) (fun s=>X.length-s.1) (0,0,[]) ⟨rfl,Lim.nil,rfl,Nat.zero_le _,Nat.zero_le _⟩ ((nr (i:=5) 0 5 1 rfl rfl rfl rfl).trans (bH h0 [0] _ _ (by decide) ⟨rfl,rfl,rfl,rfl,rfl,trivial⟩ ⟨cL (l:=[]) rfl,rfl⟩)) ?_
 rintro⟨k,cr,os⟩ ⟨hos,hol,hv2,hc,hkm⟩;dsimp only at hos hol hv2 hc hkm⊢;have hn1:=hX.nth (by omega) k
 have hn2:=hY.nth (by omega) k
 refine sq ?_;refine sq ?_;refine rl ?_;(iterate 4 refine o1 ?_);refine nl ?_;refine bM rfl (fun h1=>?_) (fun h1=>?_)
 ·refine sk ?_;refine sq ?_;refine bl ?_;refine sq ?_;refine rl ?_;refine o1 ?_;refine o1 ?_
  refine ca (fD (xs:=X) (k:=k)) iS ⟨a1 rfl,a1 rfl,rfl⟩ (.one (tv (.int .u8 ((nth X (k):Nat):Int)))) ?_;refine o1 ?_
  refine WL.cast (t:=18) (u':=.int .u8 ((2+(nth X (k)):Nat):Int)) rfl (aG (by omega)) ?_
  refine o1 ?_;refine o1 ?_;refine ca (fD (xs:=Y) (k:=k)) iS ⟨a1 rfl,a1 rfl,rfl⟩ (.one (tv (.int .u8 ((nth Y (k):Nat):Int)))) ?_;refine o1 ?_
  refine WL.cast (t:=22) (u':=.int .u8 ((2+(nth X (k))-(nth Y (k)):Nat):Int)) rfl (aG (by omega)) ?_
  refine o1 ?_;refine o1 ?_;refine WL.cast (t:=24) (u':=.int .u8 ((2+(nth X (k))-(nth Y (k))-cr:Nat):Int)) rfl (aG (by omega)) ?_
  refine o1 ?_;refine nl ?_;refine sq ?_;refine rl ?_;(iterate 3 refine o1 ?_)
  refine WL.cast (t:=27) (u':=.int .u8 ((((2+nth X k-nth Y k-cr)%2):Nat):Int)) rfl (aG (pI (by omega))) ?_
  refine bs 1 ?_;refine kN (j:=2) aX rfl rfl rfl rfl (.sl rfl (by rw[List.length_map,eK,hos];omega)) (.sl rfl rfl rfl) rfl rfl rfl (by omega) (by omega) ?_
  refine o1 ?_;refine nl ?_;refine rl ?_;refine o1 ?_;refine o1 ?_;refine WL.cast (t:=31) (u':=.int .u8 ((((2+nth X k-nth Y k-cr)/2):Nat):Int)) rfl (aG pJ) ?_;refine o1 ?_
  refine WL.cast (t:=32) (u':=.int .u8 ((1-((2+nth X k-nth Y k-cr)/2):Nat):Int)) rfl (aG (by omega)) ?_
  refine o1 ?_;refine nl ?_;refine rl ?_;refine o1 ?_;refine o1 ?_;refine WL.cast (t:=14) (u':=.int .i64 ((k+1:Nat):Int)) rfl (aG (by omega)) ?_
  refine o1 ?_;refine nl ?_;have hst:=Bu (d:=(2+nth X k-nth Y k-cr)%2) (br':=1-(2+nth X k-nth Y k-cr)/2) hos hv2 (by omega)
  exact⟨(k+1,1-(2+nth X k-nth Y k-cr)/2,os++[(2+nth X k-nth Y k-cr)%2]),by dsimp only;omega,⟨by simp[hos],hol.append (Lim.cons (Nat.mod_lt _ (by omega)) Lim.nil),hst,by dsimp only;omega,by dsimp only;omega⟩,bH h0 [2] _ _ (by decide) ⟨rfl,rfl,rfl,rfl,rfl,trivial⟩ ⟨cL (congrArg (fun l:List AV=>some (⟨5,1,l⟩:Ob)) (jO os [(2+nth X k-nth Y k-cr)%2])),rfl⟩⟩
 refine ex ?_;refine sq ?_;refine rl ?_;have hoo:=cW hol
 rw[hos]at hoo;have hXY:=cD (B:=2) (by omega) hle
 rw[hXe,hYe]at hXY;rw[aL 2 (l:=X) (by omega),aL 2 (l:=Y) (by omega),hvX,hvY]at hv2
 have hb0:cr=0:=by
  rcases Nat.eq_zero_or_pos cr with h0 | h0
  ·exact h0
  have h1:cr=1:=by omega
  rw[h1,Nat.mul_one]at hv2;omega
 rw[hb0,Nat.mul_zero,Nat.add_zero]at hv2;have htr:=fE (n:=u-v) (by omega) hol (by omega)
 refine WL.sub (rN (i:=5) (zs:=os) (zs':=os) rfl rfl rfl (by omega) rfl) ?_
 refine o1 ?_;refine ca (fC (xs:=os) (by omega) htr) lY ⟨a1 rfl,rfl⟩ ((bR (dg 2 (u-v)))) ?_
 refine o1 ?_;refine nl ?_;refine rt ?_;exact en (.inl rfl) rfl (eQ (.one (.id rfl))) (by decide) (fun h=>by cases h) rfl
theorem zD {u d:Nat}(hu:(dg 2 (u)).length≤900000) (hd:d<2):aQ false Tryz.prog 111 [] [(bR (dg 2 (u))),.one (tv (.int .u8 ((d:Nat):Int)))] (bG (bR (dg 2 (2*u+d)))):=by
 refine dN Tryz.func111 rfl Tryz.ntmps111 rfl aX rfl fun N9 w9 c0 h0=>?_
 refine sq ?_;refine rl ?_;refine o1 ?_;refine nl ?_;refine sq ?_;refine rl ?_;refine o1 ?_;refine bs 0 ?_;refine o1 ?_;refine nl ?_;refine sq ?_;refine rl ?_;refine o1 ?_;refine o1 ?_
 refine kN (j:=1) aX rfl rfl rfl rfl (.sl rfl (rfl)) .fz (yK _) (wL _) rfl (by omega) (by omega) ?_
 refine WL.sub (rN (i:=10) (zs:=(d::dg 2 u)) (zs':=(d::dg 2 u)) rfl rfl rfl (by rw[List.length_cons];omega) rfl) ?_
 refine ca (fC (xs:=(d::dg 2 u)) (by rw[List.length_cons];omega) (Hd hd)) lY ⟨a1 rfl,rfl⟩ ((bR (dg 2 (2*u+d)))) ?_
 refine o1 ?_;refine nl ?_;refine rt ?_;exact en (.inl rfl) rfl (eQ (.one (.id rfl))) (by decide) (fun h=>by cases h) rfl
theorem Lc {u v:Nat}(hu:(dg 2 (u)).length≤900000) (hv:(dg 2 (v)).length≤900000):aQ true Tryz.prog 113 [] [(bR (dg 2 (u))),(bR (dg 2 (v)))] (bG (.one (tv (.bool (decide (u<v)))))):=by
 refine dN Tryz.func113 rfl Tryz.ntmps113 rfl aX rfl fun N9 w9 c0 h0=>?_
 have hX:=bF (B:=2) (by omega) u
 have hY:=bF (B:=2) (by omega) v
 have hvX:=bL (B:=2) (by omega) u
 have hvY:=bL (B:=2) (by omega) v
 have htX:=fE (by omega) hX hvX
 have htY:=fE (by omega) hY hvY
 refine sq ?_;refine rl ?_;refine o1 ?_;refine nl ?_;refine sq ?_;refine rl ?_;refine o1 ?_;refine ca (fC (xs:=(dg 2 (u))) (by omega) htX) lY ⟨a1 rfl,rfl⟩ (bR (dg 2 (u))) ?_
 refine o1 ?_;refine nl ?_;refine sq ?_;refine rl ?_;refine o1 ?_;refine ca (fC (xs:=(dg 2 (v))) (by omega) htY) lY ⟨a1 rfl,rfl⟩ (bR (dg 2 (v))) ?_
 refine o1 ?_;refine nl ?_;refine sq ?_;refine sq ?_;refine rl ?_;(iterate 5 refine o1 ?_);refine nl ?_;refine bM rfl (fun h1=>?_) (fun h1=>?_)
 ·refine sq ?_;refine rl ?_;(iterate 6 refine o1 ?_);refine nl ?_;refine rt ?_;have hq:decide (((dg 2 (u)).length:Int)<((dg 2 (v)).length:Int))=decide (u<v):=by
   rcases Nat.lt_or_ge (dg 2 u).length (dg 2 v).length with h9 | h9
   ·rw[decide_eq_true (by omega),decide_eq_true (xI h9)]
   have h8:=xI (u:=v) (v:=u) (by omega)
   rw[decide_eq_false (by omega),decide_eq_false (by omega)]
  exact fK (.inl rfl) rfl (hq)
 refine sk ?_;refine sq ?_;refine sq ?_;refine rl ?_;(iterate 4 refine o1 ?_);refine nl ?_;refine bl ?_
 refine lp (γ:=Nat) (fun s=>bV [(0,.one (.t (.s false 5 1 (dg 2 (u)).length (aV (dg 2 (u)))))),(1,.one (.t (.s false 5 1 (dg 2 (v)).length (aV (dg 2 (v)))))),(5,.one (tv (.int .i64 (((s:Nat):Int)-1))))]) (fun s=>([]:List Ob).map some) (fun s=>s≤(dg 2 (u)).length∧∀j,s≤j→nth (dg 2 (u)) j=nth (dg 2 (v)) j) (fun s=>s) ((dg 2 (u)).length) (⟨Nat.le_refl _,fun j hj=>by rw[cM (by omega),cM (by omega)]⟩) (bH h0 [] _ _ (by decide) ⟨rfl,rfl,rfl,trivial⟩ rfl) ?_
 rintro i hi;refine sq ?_;refine sq ?_;refine rl ?_;refine o1 ?_;refine o1 ?_;refine nl ?_;refine bM rfl (fun h2=>?_) (fun h2=>?_)
 ·refine sk ?_;refine sq ?_;refine bl ?_;refine sq ?_;refine rd [] (fun i=>[].contains i) mixed ?_
  refine dv 0 ?_;refine dv 1 ?_;refine WD.cast (t:=28) (u':=.int .i64 ((i-1:Nat):Int)) rfl (aG (by omega)) ?_
  refine dv 2 ?_;refine rF 3 ([.v (.int .u8 ((nth (dg 2 (u)) (i-1):Nat):Int))]) (fJ (dg 2 (u)) (k:=i-1) (by omega)) ?_
  refine dv 4 ?_;refine dv 5 ?_;refine WD.cast (t:=32) (u':=.int .i64 ((i-1:Nat):Int)) rfl (aG (by omega)) ?_
  refine dv 6 ?_;refine rF 7 ([.v (.int .u8 ((nth (dg 2 (v)) (i-1):Nat):Int))]) (fJ (dg 2 (v)) (k:=i-1) (by omega)) ?_
  refine dv 8 ?_;refine rG ?_;refine bM rfl (fun h3=>?_) (fun h3=>?_)
  ·refine sq ?_;refine rd [] (fun i=>[9].contains i) mixed ?_
   refine dv 0 ?_;refine dv 1 ?_;refine WD.cast (t:=37) (u':=.int .i64 ((i-1:Nat):Int)) rfl (aG (by omega)) ?_
   refine dv 2 ?_;refine rF 3 ([.v (.int .u8 ((nth (dg 2 (u)) (i-1):Nat):Int))]) (fJ (dg 2 (u)) (k:=i-1) (by omega)) ?_
   refine dv 4 ?_;refine dv 5 ?_;refine WD.cast (t:=41) (u':=.int .i64 ((i-1:Nat):Int)) rfl (aG (by omega)) ?_
   refine dv 6 ?_;refine rF 7 ([.v (.int .u8 ((nth (dg 2 (v)) (i-1):Nat):Int))]) (fJ (dg 2 (v)) (k:=i-1) (by omega)) ?_
   refine dv 8 ?_;refine Ns 9 (by kernel_rfl) rfl rfl aX rfl (by trivial) ?_ (fun h=>by first | rfl | cases h)
   refine rG ?_;refine rt ?_;have hq:decide (((nth (dg 2 (u)) (i-1):Nat):Int)<((nth (dg 2 (v)) (i-1):Nat):Int))=decide (u<v):=by
    rcases Nat.lt_or_ge (nth (dg 2 u) (i-1)) (nth (dg 2 v) (i-1))with h9 | h9
    ·have h8:=Bx (k:=i-1) hX (fun j hj=>hi.2 j (by omega)) h9
     rw[hvX,hvY]at h8;rw[decide_eq_true (by omega),decide_eq_true h8]
    have h8:=Bx (X:=dg 2 v) (Y:=dg 2 u) (k:=i-1) hY (fun j hj=>(hi.2 j (by omega)).symm) (by omega)
    rw[hvX,hvY]at h8;rw[decide_eq_false (by omega),decide_eq_false (by omega)]
   exact fK (.inl rfl) rfl (hq)
  refine sk ?_;refine rl ?_;(iterate 3 refine o1 ?_);refine nl ?_
  exact⟨i-1,by omega,⟨by omega,fun j hj=>(Nat.eq_or_lt_of_le hj).elim (fun h9=>by rw[←h9];omega) (fun h9=>hi.2 j (by omega))⟩,bH h0 [] _ _ (by decide) ⟨rfl,rfl,mB (by omega),trivial⟩ rfl⟩
 refine ex ?_;refine sq ?_;refine rl ?_;refine o1 ?_;refine nl ?_;refine rt ?_;have he:=Hg (fun j=>hi.2 j (by omega))
 rw[hvX,hvY]at he;exact fK (.inl rfl) rfl ((decide_eq_false (by omega)).symm)
theorem mF {xs:List Nat}{u:Nat}(hl:Lim 4294967296 xs) (hx:xs.length≤10000) (hu:vl 4294967296 xs=u):aQ false Tryz.prog 16 [] [.one (.t (sU false xs))] (bG (bR (dg 2 (u)))):=by
 refine dN Tryz.func16 rfl Tryz.ntmps16 rfl aX rfl fun N9 w9 c0 h0=>?_
 refine sq ?_;refine rl ?_;refine o1 ?_;refine nl ?_;refine sq ?_;refine rl ?_;refine o1 ?_;refine nl ?_;refine sq ?_;refine sq ?_;refine rl ?_;refine o1 ?_;refine nl ?_;refine bl ?_
 refine lp (γ:=Nat×List Nat) (fun s=>bV [(0,.one (.t (sU false xs))),(3,.one (.sl 0 0 (32*s.1))),(4,.one (tv (.int .i64 ((s.1:Nat):Int))))]) (fun s=>[(⟨5,1,(aV s.2).map .t⟩:Ob)].map some) (fun s=>s.1≤xs.length∧s.2.length=32*s.1∧Lim 2 s.2∧vl 2 s.2=vl 4294967296 (xs.take s.1)) (fun s=>xs.length-s.1) (0,[]) ⟨Nat.zero_le _,rfl,Lim.nil,rfl⟩ ((nr (i:=3) 0 5 1 rfl rfl rfl rfl).trans (bH h0 [0] _ _ (by decide) ⟨rfl,rfl,rfl,trivial⟩ ⟨cL (l:=[]) rfl,rfl⟩)) ?_
 rintro⟨i,os⟩ ⟨hi,hos,hol,hv⟩;dsimp only at hi hos hol hv⊢;have hxi:=hl.nth (by omega) i
 refine sq ?_;refine sq ?_;refine rl ?_;(iterate 4 refine o1 ?_);refine nl ?_;refine bM rfl (fun h1=>?_) (fun h1=>?_)
 ·refine sk ?_;refine sq ?_;refine bl ?_;refine sq ?_;refine rl ?_;refine o1 ?_;refine nl ?_;refine bl ?_
  refine lp (γ:=Nat×List Nat) (fun s=>bV [(0,.one (.t (sU false xs))),(3,.one (.sl 0 0 (32*i+s.1))),(4,.one (tv (.int .i64 ((i:Nat):Int)))),(5,.one (tv (.int .i64 ((s.1:Nat):Int))))]) (fun s=>[(⟨5,1,(aV s.2).map .t⟩:Ob)].map some) (fun s=>s.1≤32∧s.2.length=32*i+s.1∧Lim 2 s.2∧vl 2 s.2=vl 4294967296 (xs.take i)+2^(32*i)*(nth xs i%2^s.1)) (fun s=>32-s.1) (0,os) ⟨Nat.zero_le _,(by omega),hol,(by rw[hv,Nat.pow_zero,Nat.mod_one,Nat.mul_zero,Nat.add_zero])⟩ (bH h0 [0] _ _ (by decide) ⟨rfl,rfl,rfl,rfl,trivial⟩ ⟨cL rfl,rfl⟩) ?_
  rintro⟨k,ps⟩ ⟨hk,hos2,hol2,hv2⟩;dsimp only at hk hos2 hol2 hv2⊢;refine sq ?_;refine sq ?_;refine rl ?_;refine o1 ?_;refine o1 ?_;refine nl ?_
  refine bM rfl (fun h2=>?_) (fun h2=>?_)
  ·refine sk ?_;refine sq ?_;refine bl ?_;refine rl ?_;(iterate 4 refine o1 ?_);refine rE ([.v (.int .u32 ((nth xs (i):Nat):Int))]) (oX xs (k:=i) (by omega)) ?_
   refine o1 ?_;refine o1 ?_;refine WL.cast (t:=22) (u':=.int .u32 ((((nth xs (i))/2^k):Nat):Int)) rfl (aG (Nl (by omega))) ?_
   refine o1 ?_;refine WL.cast (t:=23) (u':=.int .u32 ((((nth xs (i))/2^k%2):Nat):Int)) rfl (aG (Hf (Nat.lt_of_le_of_lt (Nat.div_le_self _ _) (by omega)))) ?_
   refine o1 ?_;refine WL.cast (t:=24) (u':=.int .u8 ((((nth xs (i))/2^k%2):Nat):Int)) rfl (aG (by omega)) ?_
   refine bs 1 ?_;refine kN (j:=2) aX rfl rfl rfl rfl (.sl rfl (by rw[List.length_map,eK,hos2];omega)) (.sl rfl rfl rfl) rfl rfl rfl (by omega) (by omega) ?_
   refine o1 ?_;refine nl ?_;refine rl ?_;refine o1 ?_;refine o1 ?_;refine WL.cast (t:=15) (u':=.int .i64 ((k+1:Nat):Int)) rfl (aG (by omega)) ?_
   refine o1 ?_;refine nl ?_
   exact⟨(k+1,ps++[nth xs i/2^k%2]),by dsimp only;omega,⟨by dsimp only;omega,(by dsimp only;rw[List.length_append,hos2];simp;omega),hol2.append (Lim.cons (Nat.mod_lt _ (by omega)) Lim.nil),Bv hos2 hv2⟩,bH h0 [2] _ _ (by decide) ⟨rfl,rfl,rfl,rfl,trivial⟩ ⟨cL (congrArg (fun l:List AV=>some (⟨5,1,l⟩:Ob)) (jO ps [nth xs i/2^k%2])),rfl⟩⟩
  refine ex ?_;refine rl ?_;refine o1 ?_;refine o1 ?_;refine WL.cast (t:=11) (u':=.int .i64 ((i+1:Nat):Int)) rfl (aG (by omega)) ?_
  refine o1 ?_;refine nl ?_;have hk32:k=32:=by omega
  rw[hk32]at hv2
  exact⟨(i+1,ps),by dsimp only;omega,⟨by dsimp only;omega,by dsimp only;omega,hol2,(Bw (by omega) hv2)⟩,bH h0 [0] _ _ (by decide) ⟨rfl,(congrArg (fun n:Nat=>some (FV.one (.sl 0 0 n))) (show 32*(i+1)=32*i+k by omega)),rfl,trivial⟩ ⟨cL rfl,rfl⟩⟩
 refine ex ?_;refine sq ?_;refine rl ?_;have hi9:i=xs.length:=by omega
 rw[hi9,List.take_length,hu]at hv;have htr:=fE (by omega) hol hv
 refine WL.sub (rN (i:=3) (zs:=os) (zs':=os) rfl rfl rfl (by omega) rfl) ?_
 refine o1 ?_;refine ca (fC (xs:=os) (by omega) htr) lY ⟨a1 rfl,rfl⟩ ((bR (dg 2 (u)))) ?_
 refine o1 ?_;refine nl ?_;refine rt ?_;exact en (.inl rfl) rfl (eQ (.one (.id rfl))) (by decide) (fun h=>by cases h) rfl
theorem xL {u:Nat}(hu:(dg 2 (u)).length≤900000):aQ true Tryz.prog 55 [] [(bR (dg 2 (u)))] (bG (nO u)):=by
 refine dN Tryz.func55 rfl Tryz.ntmps55 rfl aX rfl fun N9 w9 c0 h0=>?_
 have hX:=bF (B:=2) (by omega) u
 have hvX:=bL (B:=2) (by omega) u
 refine sq ?_;refine rl ?_;refine o1 ?_;refine nl ?_;refine sq ?_;refine rl ?_;refine o1 ?_
 refine ca (fC (xs:=(dg 2 (u))) (by omega) (fE (by omega) (bF (by omega) u) (bL (by omega) u))) lY ⟨a1 rfl,rfl⟩ ((bR (dg 2 (u)))) ?_
 refine o1 ?_;refine nl ?_;refine sq ?_;refine rl ?_;refine o1 ?_;refine nl ?_;refine sq ?_;refine sq ?_;refine rl ?_;refine o1 ?_;refine nl ?_;refine bl ?_
 refine lp (γ:=Nat×List Nat) (fun s=>bV [(0,.one (.t (.s false 5 1 (dg 2 (u)).length (aV (dg 2 (u)))))),(3,.one (.sl 0 0 ((s.1+31)/32))),(4,.one (tv (.int .i64 ((s.1:Nat):Int))))]) (fun s=>[(⟨22,1,(aS s.2).map .t⟩:Ob)].map some) (fun s=>s.1≤(dg 2 (u)).length∧s.2.length=(s.1+31)/32∧Lim 4294967296 s.2∧vl 4294967296 s.2=vl 2 ((dg 2 u).take s.1)) (fun s=>(dg 2 (u)).length-s.1) (0,[]) ⟨Nat.zero_le _,rfl,Lim.nil,rfl⟩ ((nr (i:=3) 0 22 1 rfl rfl rfl rfl).trans (bH h0 [0] _ _ (by decide) ⟨rfl,rfl,rfl,trivial⟩ ⟨cL (l:=[]) rfl,rfl⟩)) ?_
 rintro⟨i,ws⟩ ⟨hi,hws,hol,hv⟩;dsimp only at hi hws hol hv⊢;refine sq ?_;refine sq ?_;refine rl ?_;(iterate 4 refine o1 ?_);refine nl ?_;refine bM rfl (fun h1=>?_) (fun h1=>?_)
 ·refine sk ?_;refine sq ?_;refine bl ?_;refine sq ?_;refine sq ?_;refine rl ?_;refine o1 ?_;refine o1 ?_
  refine WL.cast (t:=14) (u':=.int .i64 ((i%32:Nat):Int)) rfl (aG (gT _ 32)) ?_;refine o1 ?_;refine nl ?_;refine bM rfl (fun h2=>?_) (fun h2=>?_)
  ·refine rl ?_;refine o1 ?_;refine bs 1 ?_
   refine kN (j:=2) aX rfl rfl rfl rfl (.sl rfl (by rw[List.length_map,kR,hws];omega)) (.sl rfl rfl rfl) rfl rfl rfl (by omega) (by omega) ?_
   refine WL.sub (Ph (j:=2) (t:=22) (z:=1) (l':=(aS (ws++[0])).map .t) rfl (Dn ws [0])) ?_;refine o1 ?_;refine nl ?_
   have hvw:vl 4294967296 (ws++[0])=vl 2 ((dg 2 u).take i):=by rw[dX,Nat.mul_zero,Nat.add_zero];exact hv
   have hlw:(ws++[0]).length=i/32+1:=by rw[List.length_append];simp;omega
   have hb1:=xK hX hvw
   have hb2:=hX.nth (by omega) i
   have hb3:2^(i%32)≤2^31:=Nat.pow_le_pow_right (by omega) (by omega)
   have hb4:=rO (ws:=(ws++[0])) (X:=dg 2 u) (i:=i) (by omega) hvw
   have hb5:nth (dg 2 u) i*2^(i%32)≤1*2^(i%32):=Nat.mul_le_mul_right _ (by omega)
   have hlim:Lim 4294967296 ((ws++[0]).set (i/32) (nth (ws++[0]) (i/32)+nth (dg 2 u) i*2^(i%32))):=Lim.set (hol.append (Lim.cons (by omega) Lim.nil)) _ (by omega)
   refine rd [1,2] (fun i=>[18].contains i) mixed ?_
   refine dv 0 ?_;refine dv 1 ?_;refine dv 2 ?_ (hC:=(mD 32 (by omega) (by simp only[fG];omega)))
   refine WD.cast (t:=21) (u':=.int .i64 ((i/32:Nat):Int)) rfl (aG (gU _ 32)) ?_;refine dv 3 ?_;refine dv 4 ?_
   refine dv 5 ?_ (hC:=(mD 32 (by omega) (by simp only[fG];omega)))
   refine WD.cast (t:=24) (u':=.int .i64 ((i/32:Nat):Int)) rfl (aG (gU _ 32)) ?_;refine dv 6 ?_;refine Jl 7 (Bj (ws++[0]) (k:=i/32) (by omega)) ?_
   refine dv 8 ?_;refine dv 9 ?_;refine dv 10 ?_;refine rF 11 ([.v (.int .u8 ((nth (dg 2 (u)) (i):Nat):Int))]) (fJ (dg 2 (u)) (k:=i) (by omega)) ?_
   refine dv 12 ?_;refine WD.cast (t:=31) (u':=.int .u32 ((nth (dg 2 (u)) (i):Nat):Int)) rfl (aG (by omega)) ?_
   refine dv 13 ?_;refine dv 14 ?_;refine WD.cast (t:=33) (u':=.int .i64 ((i%32:Nat):Int)) rfl (aG (gT _ 32)) ?_;refine dv 15 ?_
   refine WD.cast (t:=34) (u':=.int .u32 (((nth (dg 2 (u)) (i)*2^(i%32)):Nat):Int)) rfl (aG (Ex (by omega) (by omega))) ?_
   refine dv 16 ?_;refine WD.cast (t:=35) (u':=.int .u32 ((nth (ws++[0]) (i/32)+(nth (dg 2 (u)) (i)*2^(i%32)):Nat):Int)) rfl (aG (by omega)) ?_
   refine dv 17 ?_;refine yH 18 (wX (ws++[0]) (k:=i/32) (v:=nth (ws++[0]) (i/32)+(nth (dg 2 (u)) (i)*2^(i%32))) (by omega)) (Bk (ws++[0]) (by omega)) ?_
   refine rG ?_;refine rl ?_;refine o1 ?_;refine o1 ?_;refine WL.cast (t:=12) (u':=.int .i64 ((i+1:Nat):Int)) rfl (aG (by omega)) ?_
   refine o1 ?_;refine nl ?_
   exact⟨(i+1,(ws++[0]).set (i/32) (nth (ws++[0]) (i/32)+nth (dg 2 u) i*2^(i%32))),by dsimp only;omega,⟨by dsimp only;omega,(by dsimp only;rw[List.length_set];omega),hlim,hb4⟩,bH h0 [2] _ _ (by decide) ⟨rfl,(congrArg (fun n:Nat=>some (FV.one (.sl 2 0 n))) (by omega)),rfl,trivial⟩ ⟨cL rfl,rfl⟩⟩
  refine sk ?_;have hvw:=hv
  have hlw:ws.length=i/32+1:=by omega
  have hb1:=xK hX hvw
  have hb2:=hX.nth (by omega) i
  have hb3:2^(i%32)≤2^31:=Nat.pow_le_pow_right (by omega) (by omega)
  have hb4:=rO (ws:=ws) (X:=dg 2 u) (i:=i) (by omega) hvw
  have hb5:nth (dg 2 u) i*2^(i%32)≤1*2^(i%32):=Nat.mul_le_mul_right _ (by omega)
  have hlim:Lim 4294967296 (ws.set (i/32) (nth ws (i/32)+nth (dg 2 u) i*2^(i%32))):=Lim.set (hol) _ (by omega)
  refine rd [0] (fun i=>[18].contains i) mixed ?_
  refine dv 0 ?_;refine dv 1 ?_;refine dv 2 ?_ (hC:=(mD 32 (by omega) (by simp only[fG];omega)))
  refine WD.cast (t:=21) (u':=.int .i64 ((i/32:Nat):Int)) rfl (aG (gU _ 32)) ?_;refine dv 3 ?_;refine dv 4 ?_
  refine dv 5 ?_ (hC:=(mD 32 (by omega) (by simp only[fG];omega)))
  refine WD.cast (t:=24) (u':=.int .i64 ((i/32:Nat):Int)) rfl (aG (gU _ 32)) ?_;refine dv 6 ?_;refine Jl 7 (Bj ws (k:=i/32) (by omega)) ?_
  refine dv 8 ?_;refine dv 9 ?_;refine dv 10 ?_;refine rF 11 ([.v (.int .u8 ((nth (dg 2 (u)) (i):Nat):Int))]) (fJ (dg 2 (u)) (k:=i) (by omega)) ?_
  refine dv 12 ?_;refine WD.cast (t:=31) (u':=.int .u32 ((nth (dg 2 (u)) (i):Nat):Int)) rfl (aG (by omega)) ?_
  refine dv 13 ?_;refine dv 14 ?_;refine WD.cast (t:=33) (u':=.int .i64 ((i%32:Nat):Int)) rfl (aG (gT _ 32)) ?_;refine dv 15 ?_
  refine WD.cast (t:=34) (u':=.int .u32 (((nth (dg 2 (u)) (i)*2^(i%32)):Nat):Int)) rfl (aG (Ex (by omega) (by omega))) ?_
  refine dv 16 ?_;refine WD.cast (t:=35) (u':=.int .u32 ((nth ws (i/32)+(nth (dg 2 (u)) (i)*2^(i%32)):Nat):Int)) rfl (aG (by omega)) ?_
  refine dv 17 ?_;refine yH 18 (wX ws (k:=i/32) (v:=nth ws (i/32)+(nth (dg 2 (u)) (i)*2^(i%32))) (by omega)) (Bk ws (by omega)) ?_
  refine rG ?_;refine rl ?_;refine o1 ?_;refine o1 ?_;refine WL.cast (t:=12) (u':=.int .i64 ((i+1:Nat):Int)) rfl (aG (by omega)) ?_
  refine o1 ?_;refine nl ?_
  exact⟨(i+1,ws.set (i/32) (nth ws (i/32)+nth (dg 2 u) i*2^(i%32))),by dsimp only;omega,⟨by dsimp only;omega,(by dsimp only;rw[List.length_set];omega),hlim,hb4⟩,bH h0 [0] _ _ (by decide) ⟨rfl,(congrArg (fun n:Nat=>some (FV.one (.sl 0 0 n))) (by omega)),rfl,trivial⟩ ⟨cL rfl,rfl⟩⟩
 refine ex ?_;refine sq ?_;refine rl ?_;refine o1 ?_;refine o1 ?_;refine nl ?_;refine rt ?_;have hi9:i=(dg 2 (u)).length:=by omega
 rw[hi9,List.take_length,hvX]at hv;rw[hi9]at hws;have hwd:=By hol hv hws
 exact en (.inl rfl) rfl (eQ (.one (.sl (trs:=aS ws) rfl rfl (by rw[hi9,←hws];exact mC _) (by rw[hi9,←hws];exact dW _)))) (by decide) (fun _=>.inl ⟨rfl,iF _⟩) (by rw[hi9,←hws];exact congrArg (fun l:List Nat=>FV.one (.t (sU true l))) hwd)
theorem jV {n:Nat}(hn:n<4294967296):aQ false Tryz.prog 54 [] [.one (tv (.int .u32 ((n:Nat):Int)))] (bG (bR (dg 2 (n)))):=by
 refine dN Tryz.func54 rfl Tryz.ntmps54 rfl aX rfl fun N9 w9 c0 h0=>?_
 refine sq ?_;refine rl ?_;refine o1 ?_;refine nl ?_;refine sq ?_;refine rl ?_;refine o1 ?_;refine bs 0 ?_;refine WL.sub (Bi (i:=4) (zs:=[n]) (zs':=[n]) rfl rfl rfl rfl rfl) ?_
 refine ca (mF (xs:=[n]) (u:=n) (Lim.cons hn Lim.nil) (by simp) (by simp[vl])) tQ ⟨a1 rfl,rfl⟩ ((bR (dg 2 (n)))) ?_
 refine o1 ?_;refine nl ?_;refine rt ?_;exact en (.inl rfl) rfl (eQ (.one (.id rfl))) (by decide) (fun h=>by cases h) rfl
theorem Fb {u v:Nat}(hu:(dg 2 (u)).length≤200000) (hv:(dg 2 (v)).length≤200000):aQ false Tryz.prog 53 [] [(bR (dg 2 (u))),(bR (dg 2 (v)))] (bG (bR (dg 2 (u*v)))):=by
 refine dN Tryz.func53 rfl Tryz.ntmps53 rfl aX rfl fun N9 w9 c0 h0=>?_
 have hY:=bF (B:=2) (by omega) v
 have hvY:=bL (B:=2) (by omega) v
 refine sq ?_;refine rl ?_;refine o1 ?_;refine nl ?_;refine sq ?_;refine rl ?_;refine o1 ?_;refine nl ?_;refine sq ?_;refine sq ?_;refine rl ?_;(iterate 4 refine o1 ?_);refine nl ?_
 refine bl ?_
 refine lp (γ:=Nat) (fun s=>bV [(0,.one (.t (.s false 5 1 (dg 2 (u)).length (aV (dg 2 (u)))))),(1,.one (.t (.s false 5 1 (dg 2 (v)).length (aV (dg 2 (v)))))),(5,.one (.t (.s false 5 1 (dg 2 (u*vl 2 ((dg 2 (v)).drop (s)))).length (aV (dg 2 (u*vl 2 ((dg 2 (v)).drop (s)))))))),(6,.one (tv (.int .i64 (((s:Nat):Int)-1))))]) (fun s=>([]:List Ob).map some) (fun s=>s≤(dg 2 (v)).length) (fun s=>s) ((dg 2 (v)).length) (Nat.le_refl _) (((nr (i:=5) 0 5 1 rfl rfl rfl rfl).trans (rN (i:=5) (zs:=[]) (zs':=[]) rfl rfl rfl rfl rfl)).trans (bH h0 [] _ _ (by decide) ⟨rfl,rfl,(congrArg (fun z:Nat=>some (bR (dg 2 z))) (show u*vl 2 ((dg 2 (v)).drop ((dg 2 (v)).length))=0 by rw[List.drop_length];rfl)),rfl,trivial⟩ rfl)) ?_
 rintro i hi;refine sq ?_;refine sq ?_;refine rl ?_;refine o1 ?_;refine o1 ?_;refine nl ?_;refine bM rfl (fun h1=>?_) (fun h1=>?_)
 ·refine sk ?_;refine sq ?_;refine bl ?_;refine sq ?_;have hds:=cU 2 (l:=(dg 2 (v))) (k:=i) (by omega) hi
  have hdl:=pH (B:=2) (l:=(dg 2 (v))) (k:=i) (by omega) hi
  have hdl2:=xH u (vl 2 ((dg 2 (v)).drop i))
  have hdl3:=cD (B:=2) (by omega) hdl
  rw[hvY]at hdl3;have hdl4:=xG (L:=400000) (u:=u*vl 2 ((dg 2 (v)).drop (i))) (v:=u*vl 2 ((dg 2 (v)).drop (i))) (by omega) (by omega)
  have hdl5:(dg 2 (2*(u*vl 2 ((dg 2 (v)).drop (i)))+0)).length≤400001:=by rw[show 2*(u*vl 2 ((dg 2 (v)).drop (i)))+0=u*vl 2 ((dg 2 (v)).drop (i))+u*vl 2 ((dg 2 (v)).drop (i)) by omega];exact hdl4
  have hni:=hY.nth (by omega) (i-1)
  refine rl ?_;refine o1 ?_
  refine ca (zD (u:=u*vl 2 ((dg 2 (v)).drop (i))) (d:=0) (by omega) (by omega)) rZ ⟨a1 rfl,a1 rfl,rfl⟩ ((bR (dg 2 (2*(u*vl 2 ((dg 2 (v)).drop (i)))+0)))) ?_
  refine o1 ?_;refine nl ?_;refine sq ?_;refine rl ?_;refine o1 ?_;refine o1 ?_;refine WL.cast (t:=17) (u':=.int .i64 ((i-1:Nat):Int)) rfl (aG (by omega)) ?_
  refine o1 ?_;refine rE ([.v (.int .u8 ((nth (dg 2 (v)) (i-1):Nat):Int))]) (fJ (dg 2 (v)) (k:=i-1) (by omega)) ?_
  refine o1 ?_;refine nl ?_;refine bM rfl (fun h2=>?_) (fun h2=>?_)
  ·refine rl ?_;refine o1 ?_;refine o1 ?_
   refine ca (Fa (u:=2*(u*vl 2 ((dg 2 (v)).drop (i)))+0) (v:=u) (by omega) (by omega)) Jh ⟨a1 rfl,a1 rfl,rfl⟩ ((bR (dg 2 (2*(u*vl 2 ((dg 2 (v)).drop (i)))+0+u)))) ?_
   refine o1 ?_;refine nl ?_;refine rl ?_;(iterate 3 refine o1 ?_);refine nl ?_
   have hpe:u*vl 2 ((dg 2 (v)).drop (i-1))=2*(u*vl 2 ((dg 2 (v)).drop (i)))+0+u:=by rw[hds,show nth (dg 2 (v)) (i-1)=1 by omega,Nat.mul_add,←Nat.mul_assoc,Nat.mul_comm u 2,Nat.mul_assoc];omega
   exact⟨i-1,by omega,by omega,bH h0 [] _ _ (by decide) ⟨rfl,rfl,(congrArg (fun z:Nat=>some (bR (dg 2 z))) hpe),mB (by omega),trivial⟩ rfl⟩
  refine sk ?_;refine rl ?_;(iterate 3 refine o1 ?_);refine nl ?_
  have hpe:u*vl 2 ((dg 2 (v)).drop (i-1))=2*(u*vl 2 ((dg 2 (v)).drop (i)))+0:=by rw[hds,show nth (dg 2 (v)) (i-1)=0 by omega,Nat.mul_add,←Nat.mul_assoc,Nat.mul_comm u 2,Nat.mul_assoc];omega
  exact⟨i-1,by omega,by omega,bH h0 [] _ _ (by decide) ⟨rfl,rfl,(congrArg (fun z:Nat=>some (bR (dg 2 z))) hpe),mB (by omega),trivial⟩ rfl⟩
 refine ex ?_;refine sq ?_;refine rl ?_;refine o1 ?_;refine o1 ?_;refine nl ?_;refine rt ?_;have hi0:i=0:=by omega
 exact en (.inl rfl) rfl (eQ (.one (.id rfl))) (by decide) (fun h=>by cases h) (by rw[hi0,List.drop_zero,hvY];rfl)
theorem Dv {u v:Nat}(hu:(dg 2 (u)).length≤200000) (hv:(dg 2 (v)).length≤200000) (hv0:v≠0):aQ false Tryz.prog 61 [] [(bR (dg 2 (u))),(bR (dg 2 (v)))] (bG (.tup [(bR (dg 2 (u/v))),(bR (dg 2 (u%v)))])):=by
 refine dN Tryz.func61 rfl Tryz.ntmps61 rfl aX rfl fun N9 w9 c0 h0=>?_
 have hX:=bF (B:=2) (by omega) u
 have hvX:=bL (B:=2) (by omega) u
 refine sq ?_;refine rl ?_;refine o1 ?_;refine o1 ?_;refine nl ?_;refine sq ?_;refine rl ?_;refine o1 ?_;refine o1 ?_;refine nl ?_;refine sq ?_;refine sq ?_;refine rl ?_
 (iterate 4 refine o1 ?_);refine nl ?_;refine bl ?_
 refine lp (γ:=Nat×Nat×Nat) (fun s=>bV [(0,.one (.t (.s false 5 1 (dg 2 (u)).length (aV (dg 2 (u)))))),(1,.one (.t (.s false 5 1 (dg 2 (v)).length (aV (dg 2 (v)))))),(6,.one (.t (.s false 5 1 (dg 2 (s.2.1)).length (aV (dg 2 (s.2.1)))))),(7,.one (.t (.s false 5 1 (dg 2 (s.2.2)).length (aV (dg 2 (s.2.2)))))),(8,.one (tv (.int .i64 (((s.1:Nat):Int)-1))))]) (fun s=>([]:List Ob).map some) (fun s=>s.1≤(dg 2 (u)).length∧s.2.1*v+s.2.2=vl 2 ((dg 2 (u)).drop s.1)∧s.2.2<v) (fun s=>s.1) ((dg 2 (u)).length,0,0) ⟨Nat.le_refl _,(by rw[List.drop_length];simp[vl]),Nat.pos_of_ne_zero hv0⟩ (((((nr (i:=6) 0 5 1 rfl rfl rfl rfl).trans (rN (i:=6) (zs:=[]) (zs':=[]) rfl rfl rfl rfl rfl)).trans (nr (i:=7) 1 5 1 rfl rfl rfl rfl)).trans (rN (i:=7) (zs:=[]) (zs':=[]) rfl rfl rfl rfl rfl)).trans (bH h0 [] _ _ (by decide) ⟨rfl,rfl,rfl,rfl,rfl,trivial⟩ rfl)) ?_
 rintro⟨i,q,r⟩ ⟨hi,hq,hr⟩;dsimp only at hi hq hr⊢;refine sq ?_;refine sq ?_;refine rl ?_;refine o1 ?_;refine o1 ?_;refine nl ?_;refine bM rfl (fun h1=>?_) (fun h1=>?_)
 ·refine sk ?_;refine sq ?_;refine bl ?_;refine sq ?_;have hds:=cU 2 (l:=(dg 2 (u))) (k:=i) (by omega) hi
  have hni:=hX.nth (by omega) (i-1)
  have hdl:=pH (B:=2) (l:=(dg 2 (u))) (k:=i) (by omega) hi
  have hrl:=mS (Nat.le_of_lt hr) hv
  have hrl2:(dg 2 (2*r+nth (dg 2 (u)) (i-1))).length≤200001:=mS (show 2*r+nth (dg 2 (u)) (i-1)≤v+v by omega) (xG hv hv)
  have hqv:q≤q*v:=Nat.le_mul_of_pos_right q (by omega)
  have hql:(dg 2 (q)).length≤200000:=mS (show q≤u by omega) hu
  refine rl ?_;(iterate 3 refine o1 ?_);refine WL.cast (t:=19) (u':=.int .i64 ((i-1:Nat):Int)) rfl (aG (by omega)) ?_
  refine o1 ?_;refine rE ([.v (.int .u8 ((nth (dg 2 (u)) (i-1):Nat):Int))]) (fJ (dg 2 (u)) (k:=i-1) (by omega)) ?_
  refine ca (zD (u:=r) (d:=nth (dg 2 (u)) (i-1)) (by omega) (by omega)) rZ ⟨a1 rfl,a1 rfl,rfl⟩ ((bR (dg 2 (2*r+nth (dg 2 (u)) (i-1))))) ?_
  refine o1 ?_;refine nl ?_;refine sq ?_;refine rl ?_;refine o1 ?_;refine nl ?_;refine sq ?_;refine sq ?_;refine rl ?_;refine o1 ?_;refine o1 ?_
  refine ca (Lc (u:=2*r+nth (dg 2 (u)) (i-1)) (v:=v) (by omega) (by omega)) Mj ⟨a1 rfl,a1 rfl,rfl⟩ (.one (tv (.bool (decide (2*r+nth (dg 2 (u)) (i-1)<v))))) ?_
  refine o1 ?_;refine nl ?_;refine lL rfl (fun h2=>?_) (fun h2=>?_)
  ·refine sq ?_;have hge:¬2*r+nth (dg 2 (u)) (i-1)<v:=of_decide_eq_false (Es h2)
   refine rl ?_;refine o1 ?_;refine o1 ?_
   refine ca (Nm (u:=2*r+nth (dg 2 (u)) (i-1)) (v:=v) (by omega) (by omega) (by omega)) Mk ⟨a1 rfl,a1 rfl,rfl⟩ ((bR (dg 2 (2*r+nth (dg 2 (u)) (i-1)-v)))) ?_
   refine o1 ?_;refine nl ?_;refine rl ?_;refine o1 ?_;refine nl ?_;refine rl ?_;refine o1 ?_;refine o1 ?_
   refine ca (zD (u:=q) (d:=1) (by omega) (by omega)) rZ ⟨a1 rfl,a1 rfl,rfl⟩ ((bR (dg 2 (2*q+1)))) ?_
   refine o1 ?_;refine nl ?_;refine rl ?_;(iterate 3 refine o1 ?_);refine nl ?_
   exact⟨(i-1,2*q+1,2*r+nth (dg 2 (u)) (i-1)-v),by dsimp only;omega,⟨by dsimp only;omega,(by dsimp only;rw[hds,←hq,Nat.add_mul,Nat.mul_assoc];omega),by dsimp only;omega⟩,bH h0 [] _ _ (by decide) ⟨rfl,rfl,rfl,rfl,mB (by omega),trivial⟩ rfl⟩
  refine sk ?_;refine rl ?_;refine o1 ?_;refine o1 ?_;refine ca (zD (u:=q) (d:=0) (by omega) (by omega)) rZ ⟨a1 rfl,a1 rfl,rfl⟩ ((bR (dg 2 (2*q+0)))) ?_
  refine o1 ?_;refine nl ?_;refine rl ?_;(iterate 3 refine o1 ?_);refine nl ?_;have hlt:2*r+nth (dg 2 (u)) (i-1)<v:=of_decide_eq_true (wM h2)
  exact⟨(i-1,2*q+0,2*r+nth (dg 2 (u)) (i-1)),by dsimp only;omega,⟨by dsimp only;omega,(by dsimp only;rw[hds,←hq,Nat.add_mul,Nat.mul_assoc];omega),by dsimp only;omega⟩,bH h0 [] _ _ (by decide) ⟨rfl,rfl,rfl,rfl,mB (by omega),trivial⟩ rfl⟩
 refine ex ?_;refine sq ?_;refine rl ?_;(iterate 4 refine o1 ?_);refine nl ?_;refine rt ?_;have hi0:i=0:=by omega
 rw[hi0,List.drop_zero,hvX]at hq;have hdq:u/v=q:=by rw[←hq,Nat.mul_comm,Nat.mul_add_div (by omega),Nat.div_eq_of_lt hr,Nat.add_zero]
 have hdr:u%v=r:=by rw[←hq,Nat.mul_comm,Nat.mul_add_mod,Nat.mod_eq_of_lt hr]
 exact en (.inl rfl) rfl (eN (.cons (.one (.id rfl)) (.cons (.one (.id rfl)) .nil))) (by decide) (fun h=>by cases h) (by rw[hdq,hdr];rfl)
theorem uQ {x m:Nat}(h:x<4294967296):(dg 2 (x^m)).length≤32*m+1:=by
 refine aH (by omega) (Nat.lt_of_le_of_lt (Nat.pow_le_pow_left (Nat.le_of_lt h) m) ?_)
 rw[show(4294967296:Nat)=2^32 from rfl,←Nat.pow_mul]
 exact Nat.pow_lt_pow_right (by omega) (by omega)
theorem Dw {l:List Nat}(h:∀c∈l,48≤c∧c≤57){j:Nat}(hj:j≤l.length):(dg 2 (aT (l.take j))).length≤4*j:=by
 refine aH (by omega) (Nat.lt_of_lt_of_le (oY h hj) ?_)
 rw[Nat.pow_mul]
 exact Nat.pow_le_pow_left (by decide) j
theorem Ld {l:List Nat}(h0:decide (l=[])=false) (h:1<l.length):decide (((nth l 0:Nat):Int)=48)=iI l:=by
 simp only[iI,h0,Bool.false_or]
 rw[decide_eq_true h,Bool.and_true]
 exact decide_eq_decide.2 (by omega)
theorem Le {l:List Nat}(h0:decide (l=[])=false) (h:¬1<l.length):false=iI l:=by simp[iI,h0];omega
theorem Dx {d:Nat}(h:0<(dg 4294967296 d).length) (hd:d<4294967296):nth (dg 4294967296 d) 0=d:=by
 have h1:d≠0:=Nat.pos_iff_ne_zero.1 (kQ h)
 rw[jD (by omega) h1,Nat.mod_eq_of_lt hd]
 rfl
theorem Lg {u L:Nat}(h:(dg 2 u).length≤L):(dg 10 u).length≤L:=aH (by omega) (Nat.lt_of_lt_of_le (eS (B:=2) (by omega)) (Nat.le_trans (Nat.pow_le_pow_right (by omega) h) (Nat.pow_le_pow_left (by omega) L)))
theorem Fc {d:Nat}(h:d<10):(⟨#[48,49,50,51,52,53,54,55,56,57]⟩:ByteArray).extract d (d+1)=aJ [48+d]:=by
 have e:(⟨#[48,49,50,51,52,53,54,55,56,57]⟩:ByteArray)=aJ [48,49,50,51,52,53,54,55,56,57]:=rfl
 rw[e,jN]
 have:∀d<10,(([48,49,50,51,52,53,54,55,56,57]:List Nat).take (d+1)).drop d=[48+d]:=by decide
 rw[this d h]
theorem sE {x:Nat}{n:Int}(hx:x<4294967296):aQ false Tryz.prog 12 [] [.one (tv (.int .u32 ((x:Nat):Int))),.one (tv (.int .i64 n))] (bG (.tup [(bR (dg 2 (dL x n))),.one (tv (.int .i64 (dO n)))])):=by
 refine dN Tryz.func12 rfl Tryz.ntmps12 rfl aX rfl fun N9 w9 c0 h0=>?_
 refine sq ?_;refine rl ?_;refine o1 ?_;refine o1 ?_;refine nl ?_;refine sq ?_;refine sq ?_;refine rl ?_;refine o1 ?_;refine o1 ?_;refine nl ?_;refine bM rfl (fun h1=>?_) (fun h1=>?_)
 ·refine sq ?_;refine rl ?_;refine o1 ?_;refine o1 ?_;refine nl ?_;refine rt ?_;have he:dO n=2:=by unfold dO;rw[if_pos (by omega)]
  exact en (.inl rfl) rfl (eN (.cons (.one (.nilf (t:=5) (z:=1))) (.cons (cN _) .nil))) (by decide) (fun h=>by cases h) (by rw[he,dL,he,if_neg (by decide)];rfl)
 refine sk ?_;refine sq ?_;refine sq ?_;refine rl ?_;refine o1 ?_;refine o1 ?_;refine nl ?_;refine bM rfl (fun h2=>?_) (fun h2=>?_)
 ·refine sq ?_;refine rl ?_;refine o1 ?_;refine o1 ?_;refine nl ?_;refine rt ?_;have he:dO n=3:=by unfold dO;rw[if_neg (by omega),if_pos (by omega)]
  exact en (.inl rfl) rfl (eN (.cons (.one (.nilf (t:=5) (z:=1))) (.cons (cN _) .nil))) (by decide) (fun h=>by cases h) (by rw[he,dL,he,if_neg (by decide)];rfl)
 refine sk ?_;refine sq ?_;refine rl ?_;refine ca (jV (n:=1) (by omega)) tS ⟨a1 rfl,rfl⟩ ((bR (dg 2 (1)))) ?_
 refine o1 ?_;refine nl ?_;refine sq ?_;refine sq ?_;refine rl ?_;refine o1 ?_;refine nl ?_;refine bl ?_
 refine lp (γ:=Nat) (fun s=>bV [(0,.one (tv (.int .u32 ((x:Nat):Int)))),(1,.one (tv (.int .i64 n))),(6,.one (.t (.s false 5 1 (dg 2 (x^s)).length (aV (dg 2 (x^s)))))),(7,.one (tv (.int .i64 ((s:Nat):Int))))]) (fun s=>([]:List Ob).map some) (fun s=>s≤n.toNat) (fun s=>n.toNat-s) 0 (Nat.zero_le _) (bH h0 [] _ _ (by decide) ⟨rfl,rfl,(congrArg (fun z:Nat=>some (bR (dg 2 z))) (Nat.pow_zero x)),rfl,trivial⟩ rfl) ?_
 rintro i hi;refine sq ?_;refine sq ?_;refine rl ?_;(iterate 3 refine o1 ?_);refine nl ?_;refine bM rfl (fun h3=>?_) (fun h3=>?_)
 ·refine sk ?_;refine sq ?_;refine bl ?_;have hp1:=uQ (m:=i) hx
  have hp2:=uQ (m:=1) hx
  rw[Nat.pow_one]at hp2;refine rl ?_;refine o1 ?_;refine o1 ?_;refine ca (jV (n:=x) (by omega)) tS ⟨a1 rfl,rfl⟩ ((bR (dg 2 (x)))) ?_
  refine ca (Fb (u:=x^i) (v:=x) (by omega) (by omega)) Ji ⟨a1 rfl,a1 rfl,rfl⟩ ((bR (dg 2 (x^i*x)))) ?_
  refine o1 ?_;refine nl ?_;refine rl ?_;refine o1 ?_;refine o1 ?_;refine WL.cast (t:=17) (u':=.int .i64 ((i+1:Nat):Int)) rfl (aG (by omega)) ?_
  refine o1 ?_;refine nl ?_;exact⟨i+1,by omega,by omega,bH h0 [] _ _ (by decide) ⟨rfl,rfl,(congrArg (fun z:Nat=>some (bR (dg 2 z))) (Nat.pow_succ x i)),rfl,trivial⟩ rfl⟩
 refine ex ?_;refine sq ?_;refine rl ?_;(iterate 3 refine o1 ?_);refine nl ?_;refine rt ?_;have he:dO n=0:=by unfold dO;rw[if_neg (by omega),if_neg (by omega)]
 have hi9:i=n.toNat:=by omega
 exact en (.inl rfl) rfl (eN (.cons (.one (.id rfl)) (.cons (cN _) .nil))) (by decide) (fun h=>by cases h) (by rw[he,dL,he,if_pos rfl,hi9];rfl)
theorem mT {l:List Nat}(hl:Lim 256 l) (hn:l.length≤9223372036854775807):aQ false Tryz.prog 10 [] [.one (tv (.string (aJ l)))] (bG (.tup [(bR (dg 2 (eH l))),.one (tv (.int .i64 (eG l)))])):=by
 refine dN Tryz.func10 rfl Tryz.ntmps10 rfl aX rfl fun N9 w9 c0 h0=>?_
 refine sq ?_;refine rl ?_;refine o1 ?_;refine o1 ?_;refine nl ?_;refine sq ?_
 refine md (γ:=Unit) (fun _=>bV [(0,.one (tv (.string (aJ l)))),(18,.one (tv (.bool (iI l))))]) (fun _=>([]:List Ob).map some) (fun _=>True) ?_ fun _ _=>?_
 ·refine rl ?_;refine o1 ?_;refine o1 ?_;refine WL.cast (t:=8) (u':=.bool (decide (l=[]))) rfl (congrArg Value.bool (iB hl)) ?_;refine o1 ?_
  refine WL.splitb (t:=9) rfl (fun h1=>?_) (fun h1=>?_)
  ·(iterate 8 refine eE ?_);refine o1 ?_;refine nl ?_;exact⟨(),trivial,bH h0 [] _ _ (by decide) ⟨rfl,Jv (Kr h1).symm,trivial⟩ rfl⟩
  refine o1 ?_;refine o1 ?_;refine WL.cast (t:=11) (u':=.int .i64 ((l.length:Nat):Int)) rfl (congrArg (fun n:Nat=>Value.int .i64 (n:Int)) (aP _)) ?_
  refine o1 ?_;refine o1 ?_;refine WL.split (t:=13) rfl (fun h2=>?_) (fun h2=>?_)
  ·refine o1 ?_;refine o1 ?_ (hC:=(by rw[aP];show 0<l.length;omega))
   refine WL.cast (t:=15) (u':=.int .u8 (((nth l 0):Nat):Int)) rfl (congrArg (fun n:Nat=>Value.int .u8 (n:Int)) (fX (i:=0) (by omega) (gQ hl (by omega)))) ?_
   (iterate 3 refine o1 ?_);refine nl ?_;exact⟨(),trivial,bH h0 [] _ _ (by decide) ⟨rfl,Jv (Ld h1 (by omega)).symm,trivial⟩ rfl⟩
  (iterate 3 refine eE ?_);refine o1 ?_;refine o1 ?_;refine nl ?_;exact⟨(),trivial,bH h0 [] _ _ (by decide) ⟨rfl,Jv (Le h1 (by omega)).symm,trivial⟩ rfl⟩
 refine lL rfl (fun h3=>?_) (fun h3=>?_)
 ·refine sq ?_;refine rl ?_;refine o1 ?_;refine o1 ?_;refine nl ?_;refine rt ?_;have he:=iT (Ks h3)
  exact en (.inl rfl) rfl (eN (.cons (.one (.nilf (t:=5) (z:=1))) (.cons (cN _) .nil))) (by decide) (fun h=>by cases h) (by rw[he,eT (by rw[he];decide)];rfl)
 refine sk ?_;refine sq ?_;refine sq ?_;refine rl ?_;refine o1 ?_;refine nl ?_;refine bl ?_
 refine lp (γ:=Nat) (fun k=>bV [(0,.one (tv (.string (aJ l)))),(4,.one (tv (.int .i64 ((k:Nat):Int))))]) (fun k=>([]:List Ob).map some) (fun k=>k≤l.length∧∀c∈l.take k,48≤c∧c≤57) (fun k=>l.length-k) 0 ⟨Nat.zero_le _,(by simp)⟩ (bH h0 [] _ _ (by decide) ⟨rfl,rfl,trivial⟩ rfl) fun k hk=>?_
 refine sq ?_;refine sq ?_;refine rl ?_;(iterate 3 refine o1 ?_)
 refine WL.cast (t:=21) (u':=.int .i64 ((l.length:Nat):Int)) rfl (congrArg (fun n:Nat=>Value.int .i64 (n:Int)) (aP _)) ?_
 refine o1 ?_;refine nl ?_;refine bM rfl (fun h4=>?_) (fun h4=>?_)
 ·refine sk ?_;refine sq ?_;refine bl ?_;refine sq ?_;refine rl ?_;refine o1 ?_;refine o1 ?_;refine o1 ?_ (hC:=(by rw[aP];omega))
  refine WL.cast (t:=27) (u':=.int .u8 (((nth l k):Nat):Int)) rfl (congrArg (fun n:Nat=>Value.int .u8 (n:Int)) (fX (i:=k) (by omega) (gQ hl (by omega)))) ?_
  refine o1 ?_;refine o1 ?_;refine WL.split (t:=29) rfl (fun h5=>?_) (fun h5=>?_)
  ·(iterate 4 refine eE ?_);refine o1 ?_;refine nl ?_;refine oH rfl ?_;refine sq ?_;refine rl ?_;refine o1 ?_;refine o1 ?_;refine nl ?_;refine rt ?_
   have he:=iT (pB (Ku (l:=l) (k:=k) (by omega) (by omega)))
   exact en (.inl rfl) rfl (eN (.cons (.one (.nilf (t:=5) (z:=1))) (.cons (cN _) .nil))) (by decide) (fun h=>by cases h) (by rw[he,eT (by rw[he];decide)];rfl)
  refine o1 ?_;refine o1 ?_;refine o1 ?_ (hC:=(by rw[aP];omega))
  refine WL.cast (t:=32) (u':=.int .u8 (((nth l k):Nat):Int)) rfl (congrArg (fun n:Nat=>Value.int .u8 (n:Int)) (fX (i:=k) (by omega) (gQ hl (by omega)))) ?_
  refine o1 ?_;refine o1 ?_;refine nl ?_;refine bM rfl (fun h6=>?_) (fun h6=>?_)
  ·refine sq ?_;refine rl ?_;refine o1 ?_;refine o1 ?_;refine nl ?_;refine rt ?_;have he:=iT (pB (Ku (l:=l) (k:=k) (by omega) (by omega)))
   exact en (.inl rfl) rfl (eN (.cons (.one (.nilf (t:=5) (z:=1))) (.cons (cN _) .nil))) (by decide) (fun h=>by cases h) (by rw[he,eT (by rw[he];decide)];rfl)
  refine sk ?_;refine rl ?_;refine o1 ?_;refine o1 ?_;refine WL.cast (t:=24) (u':=.int .i64 ((k+1:Nat):Int)) rfl (aG (by omega)) ?_
  refine o1 ?_;refine nl ?_;exact⟨k+1,by omega,⟨by omega,Nf (by omega) hk.2 ⟨by omega,by omega⟩⟩,bH h0 [] _ _ (by decide) ⟨rfl,rfl,trivial⟩ rfl⟩
 refine ex ?_;refine sq ?_;refine sq ?_;have hk9:l.length≤k:=by omega
 have hdg:∀c∈l,48≤c∧c≤57:=by have:=hk.2;rwa[List.take_of_length_le hk9]at this
 have hgd:=Kt h3 (Kq hdg)
 refine rl ?_;refine o1 ?_;refine o1 ?_;refine WL.cast (t:=36) (u':=.int .i64 ((l.length:Nat):Int)) rfl (congrArg (fun n:Nat=>Value.int .i64 (n:Int)) (aP _)) ?_
 refine o1 ?_;refine nl ?_;refine bM rfl (fun h7=>?_) (fun h7=>?_)
 ·refine sq ?_;refine rl ?_;refine o1 ?_;refine o1 ?_;refine nl ?_;refine rt ?_;have he:=Dq hgd (by omega)
  exact en (.inl rfl) rfl (eN (.cons (.one (.nilf (t:=5) (z:=1))) (.cons (cN _) .nil))) (by decide) (fun h=>by cases h) (by rw[he,eT (by rw[he];decide)];rfl)
 refine sk ?_;refine sq ?_;refine rl ?_;refine o1 ?_;refine nl ?_;refine sq ?_;refine sq ?_;refine rl ?_;refine o1 ?_;refine nl ?_;refine bl ?_
 refine lp (γ:=Nat) (fun s=>bV [(0,.one (tv (.string (aJ l)))),(5,.one (.t (.s false 5 1 (dg 2 ((aT (l.take s)))).length (aV (dg 2 ((aT (l.take s)))))))),(6,.one (tv (.int .i64 ((s:Nat):Int))))]) (fun s=>([]:List Ob).map some) (fun s=>s≤l.length) (fun s=>l.length-s) 0 (Nat.zero_le _) (((nr (i:=5) 0 5 1 rfl rfl rfl rfl).trans (rN (i:=5) (zs:=[]) (zs':=[]) rfl rfl rfl rfl rfl)).trans (bH h0 [] _ _ (by decide) ⟨rfl,rfl,rfl,trivial⟩ rfl)) ?_
 rintro k hk2;have hl1:=Dw hdg hk2
 have hl2:=xH (aT (l.take k)) 10
 have hl3:(dg 2 10).length≤4:=by decide
 refine sq ?_;refine sq ?_;refine rl ?_;(iterate 3 refine o1 ?_)
 refine WL.cast (t:=40) (u':=.int .i64 ((l.length:Nat):Int)) rfl (congrArg (fun n:Nat=>Value.int .i64 (n:Int)) (aP _)) ?_
 refine o1 ?_;refine nl ?_;refine bM rfl (fun h8=>?_) (fun h8=>?_)
 ·refine sk ?_;refine sq ?_;refine bl ?_;have hdk:=uI hdg (k:=k) (by omega)
  have hl4:(dg 2 (nth l k-48)).length≤4:=aH (by omega) (by omega)
  refine rd [] (fun i=>[10].contains i) mixed ?_
  refine dv 0 ?_;refine dv 3 ?_;refine dv 4 ?_;refine dv 5 ?_ (hC:=(by rw[aP];omega))
  refine WD.cast (t:=49) (u':=.int .u8 (((nth l k):Nat):Int)) rfl (congrArg (fun n:Nat=>Value.int .u8 (n:Int)) (fX (i:=k) (by omega) (gQ hl (by omega)))) ?_
  refine dv 6 ?_;refine WD.cast (t:=50) (u':=.int .u8 (((nth l k)-48:Nat):Int)) rfl (aG (by omega)) ?_
  refine dv 7 ?_;refine WD.cast (t:=51) (u':=.int .u32 (((nth l k)-48:Nat):Int)) rfl (aG (by omega)) ?_
  refine En 1 rfl (jV (n:=10) (by omega)) tS ⟨a1 rfl,rfl⟩ ((bR (dg 2 (10)))) ?_
  refine En 2 rfl (Fb (u:=(aT (l.take k))) (v:=10) (by omega) (by decide)) Ji ⟨a1 rfl,a1 rfl,rfl⟩ ((bR (dg 2 ((aT (l.take k))*10)))) ?_
  refine En 8 rfl (jV (n:=(nth l k)-48) (by omega)) tS ⟨a1 rfl,rfl⟩ ((bR (dg 2 ((nth l k)-48)))) ?_
  refine En 9 rfl (Fa (u:=(aT (l.take k))*10) (v:=nth l k-48) (by omega) (by omega)) Jh ⟨a1 rfl,a1 rfl,rfl⟩ ((bR (dg 2 ((aT (l.take k))*10+(nth l k-48))))) ?_
  refine Ns 10 (by kernel_rfl) rfl rfl aX rfl (by trivial) ?_ (fun h=>by first | rfl | cases h)
  refine rG ?_;refine rl ?_;refine o1 ?_;refine o1 ?_;refine WL.cast (t:=43) (u':=.int .i64 ((k+1:Nat):Int)) rfl (aG (by omega)) ?_
  refine o1 ?_;refine nl ?_
  exact⟨k+1,by omega,by omega,bH h0 [] _ _ (by decide) ⟨rfl,(congrArg (fun z:Nat=>some (bR (dg 2 z))) (Nd (l:=l) (k:=k) (by omega)).symm),rfl,trivial⟩ rfl⟩
 refine ex ?_;refine sq ?_;refine rl ?_;(iterate 3 refine o1 ?_);refine nl ?_;refine rt ?_;have he:=Dr hgd (by omega)
 have hkk:l.take k=l:=List.take_of_length_le (by omega)
 exact en (.inl rfl) rfl (eN (.cons (.one (.id rfl)) (.cons (cN _) .nil))) (by decide) (fun h=>by cases h) (by rw[he,sD he,hkk];rfl)
theorem sF {u:Nat}(hu:(dg 2 (u)).length≤200000):aQ true Tryz.prog 15 [] [(bR (dg 2 (u)))] (bG (.one (tv (.string (aJ (tx u)))))):=by
 refine dN Tryz.func15 rfl Tryz.ntmps15 rfl aX rfl fun N9 w9 c0 h0=>?_
 have hdl:=Lg hu
 refine sq ?_;refine rl ?_;refine o1 ?_;refine nl ?_;refine sq ?_;refine rl ?_;refine o1 ?_
 refine ca (fC (xs:=dg 2 (u)) (by omega) (fE (by omega) (bF (by omega) u) (bL (by omega) u))) lY ⟨a1 rfl,rfl⟩ ((bR (dg 2 (u)))) ?_
 refine o1 ?_;refine nl ?_;refine sq ?_;refine sq ?_;refine rl ?_;(iterate 3 refine o1 ?_);refine nl ?_;refine bM rfl (fun h1=>?_) (fun h1=>?_)
 ·refine sq ?_;refine rl ?_;refine o1 ?_;refine nl ?_;refine rt ?_;have hu0:u=0:=Bs (by omega)
  exact en (.inl rfl) rfl (eQ (cN _)) (by decide) (fun _=>trivial) (congrArg (fun z=>FV.one (tv (.string z))) (by rw[hu0];rfl))
 refine sk ?_;refine sq ?_;refine rl ?_;refine o1 ?_;refine nl ?_;refine sq ?_;refine bl ?_
 refine lp (γ:=List Nat×Nat) (fun s=>bV [(0,.one (.t (.s false 5 1 (dg 2 (s.2)).length (aV (dg 2 (s.2)))))),(3,.one (tv (.string (aJ ((bN s.1).reverse)))))]) (fun s=>([]:List Ob).map some) (fun s=>Lim 10 s.1∧s.1++dg 10 s.2=dg 10 u∧s.2≤u) (fun s=>s.2) ([],u) ⟨Lim.nil,rfl,Nat.le_refl _⟩ (bH h0 [] _ _ (by decide) ⟨rfl,rfl,trivial⟩ rfl) ?_
 rintro⟨ds,q⟩ ⟨hd,hv,hu2⟩;dsimp only at hd hv hu2⊢;have hql:=mS hu2 hu
 have hdl2:=congrArg List.length hv
 rw[List.length_append]at hdl2;refine sq ?_;refine sq ?_;refine rl ?_;(iterate 3 refine o1 ?_);refine nl ?_;refine bM rfl (fun h2=>?_) (fun h2=>?_)
 ·refine sk ?_;refine bl ?_;refine sq ?_;have hq0:q≠0:=Bt (by omega)
  have hdp:=jD (B:=10) (n:=q) (by omega) hq0
  have hm4:(dg 2 (q%10)).length≤4:=aH (by omega) (by omega)
  refine rl ?_;refine o1 ?_;refine ca (jV (n:=10) (by omega)) tS ⟨a1 rfl,rfl⟩ ((bR (dg 2 (10)))) ?_
  refine ca (Dv (u:=q) (v:=10) (by omega) (by decide) (by decide)) Pe ⟨a1 rfl,a1 rfl,rfl⟩ (.tup [(bR (dg 2 (q/10))),(bR (dg 2 (q%10)))]) ?_
  (iterate 5 refine o1 ?_);refine nl ?_;refine sq ?_;refine rl ?_;refine o1 ?_;refine nl ?_;refine sq ?_;refine rl ?_;refine o1 ?_
  refine ca (xL (u:=q%10) (by omega)) Jj ⟨a1 rfl,rfl⟩ (nF (dg 4294967296 (q%10))) ?_
  refine o1 ?_;refine nl ?_;refine sq ?_;refine sq ?_;refine rl ?_;(iterate 3 refine o1 ?_);refine nl ?_;refine bM rfl (fun h3=>?_) (fun h3=>?_)
  ·refine rl ?_;refine o1 ?_;refine o1 ?_;refine rE ([.v (.int .u32 ((nth (dg 4294967296 (q%10)) (0):Nat):Int))]) (oX (dg 4294967296 (q%10)) (k:=0) (by omega)) ?_
   refine WL.cast (t:=29) (u':=.int .u32 (((q%10):Nat):Int)) rfl (aG (congrArg (fun n:Nat=>(n:Int)) (Dx (by omega) (by omega)))) ?_
   refine o1 ?_;refine nl ?_;refine sq ?_;have hz:q%10=q%10:=rfl
   refine rl ?_;(iterate 3 refine o1 ?_);refine WL.cast (t:=32) (u':=.int .u32 (((q%10)+1:Nat):Int)) rfl (aG (by omega)) ?_
   refine o1 ?_ (hC:=(show(q%10)≤(q%10)+1∧(q%10)+1≤10 from by omega))
   refine WL.cast (t:=33) (u':=.string (aJ [48+(q%10)])) rfl (congrArg Value.string (Fc (by omega))) ?_
   refine o1 ?_;refine o1 ?_ (hC:=(by rw[aP,aP,List.length_reverse,dI];show 1+ds.length≤_;omega))
   refine WL.cast (t:=35) (u':=.string (aJ ((bN (ds++[q%10])).reverse))) rfl (congrArg Value.string ((Am _ _).trans (congrArg aJ (by rw[hz];simp[bN])))) ?_
   refine o1 ?_;refine nl ?_;refine rl ?_;refine o1 ?_;refine o1 ?_;refine nl ?_
   exact⟨(ds++[q%10],q/10),by dsimp only;omega,⟨hd.append (Lim.cons (Nat.mod_lt _ (by omega)) Lim.nil),(by dsimp only;rw[List.append_assoc,←hv,hdp];rfl),(by dsimp only;omega)⟩,bH h0 [] _ _ (by decide) ⟨rfl,rfl,trivial⟩ rfl⟩
  refine sk ?_;refine sq ?_;have hz:q%10=0:=(bS (B:=4294967296) (by omega)).1 (List.eq_nil_of_length_eq_zero (by omega))
  refine rl ?_;(iterate 3 refine o1 ?_);refine WL.cast (t:=32) (u':=.int .u32 ((0+1:Nat):Int)) rfl (aG (by omega)) ?_
  refine o1 ?_ (hC:=(show 0≤0+1∧0+1≤10 from by omega))
  refine WL.cast (t:=33) (u':=.string (aJ [48+0])) rfl (congrArg Value.string (Fc (d:=0) (by decide))) ?_
  refine o1 ?_;refine o1 ?_ (hC:=(by rw[aP,aP,List.length_reverse,dI];show 1+ds.length≤_;omega))
  refine WL.cast (t:=35) (u':=.string (aJ ((bN (ds++[q%10])).reverse))) rfl (congrArg Value.string ((Am _ _).trans (congrArg aJ (by rw[hz];simp[bN])))) ?_
  refine o1 ?_;refine nl ?_;refine rl ?_;refine o1 ?_;refine o1 ?_;refine nl ?_
  exact⟨(ds++[q%10],q/10),by dsimp only;omega,⟨hd.append (Lim.cons (Nat.mod_lt _ (by omega)) Lim.nil),(by dsimp only;rw[List.append_assoc,←hv,hdp];rfl),(by dsimp only;omega)⟩,bH h0 [] _ _ (by decide) ⟨rfl,rfl,trivial⟩ rfl⟩
 refine ex ?_;refine sq ?_;refine rl ?_;refine o1 ?_;refine o1 ?_;refine nl ?_;refine rt ?_;have hq0:q=0:=Bs (by omega)
 have hu0:u≠0:=Bt (by omega)
 rw[hq0,eI,List.append_nil]at hv
 exact en (.inl rfl) rfl (eQ (cN _)) (by decide) (fun _=>trivial) (congrArg (fun z=>FV.one (tv (.string z))) (congrArg aJ (by unfold tx;rw[if_neg hu0,hv])))
end Go.Proofs.YteggpgndiajdpaaGreatDoor
