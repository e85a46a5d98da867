/- Part 9 of a proof: A2 to Vg. -/
import Derived.Test.YtbbabfkgdnkehaaGreatM7
import Derived.Test.YtbbabfkgdnkehaaGreatM8
set_option maxRecDepth 100000
set_option linter.unusedVariables false
set_option linter.unusedSimpArgs false
namespace Go.Proofs.YtbbabfkgdnkehaaGreat
open Go Go.RowKit
theorem DO {xs:List Nat}(hx:xs.length≤4398046511104):aE false Tryz.prog 150 [] [.one (.t (sI false xs))] (aT (.one (.t (sI false (trim xs))))):=by
 refine bV Tryz.func150 rfl Tryz.ntmps150 rfl aF rfl fun N w c0 h0=>?_
 refine sq (rl (o1 ?_));refine nl (sq (bl ?_))
 refine lp (γ:=List Nat) (fun zs=>bP [(0,.one (.t (sI false zs)))]) (fun _=>([]:List Ob).map some) (fun zs=>trim zs=trim xs∧zs.length≤xs.length) (fun zs=>zs.length) xs ⟨rfl,bC _⟩ (aP h0 [] rfl) fun zs hz=>?_
 refine sq (sq (rl ?_));(iterate 4 refine o1 ?_);refine WL.split (t:=6) rfl (fun h1=>?_) (fun h1=>?_)
 ·(iterate 4 refine o1 ?_);refine bB 10 (zs.length-1) ?_
  refine o1 ?_;refine dV ([.v (.int .i64 ((nth zs (zs.length-1):Nat):Int))]) (gQ zs (k:=zs.length-1) (by omega)) ?_
  refine o1 ?_;refine o1 ?_;refine nl ?_;refine bF rfl (fun h2=>?_) (fun h2=>?_)
  ·refine sk (bl (rl ?_));(iterate 4 refine o1 ?_);refine bB 18 (zs.length-1) ?_
   refine o1 ?_;refine o1 ?_;refine nl ?_
   exact⟨zs.take (zs.length-1),by rw[eJ];omega,⟨(by rw[yQ (xs:=zs) (k:=zs.length) (by omega) (bC _) (by omega),List.take_length];exact hz.1),by rw[eJ];omega⟩,iU h0 [] _ _ (by decide) ⟨congrArg some (CO (by omega)).symm,trivial⟩ rfl⟩
  refine ex (sq (rl (o1 ?_)));refine o1 ?_;refine nl (rt ?_);refine en (.inl rfl) rfl (bD (.one (.id rfl))) (by decide) (fun h=>by cases h) ?_
  have hx:trim xs=zs:=by
   rw[←hz.1];have h9:=tN (xs:=zs) (k:=zs.length) (by omega) (bC _) (by omega)
   rwa[List.take_length]at h9
  rw[hx];rfl
 (iterate 7 refine cY ?_);refine o1 ?_;refine nl (dW rfl (ex (sq (rl (o1 ?_)))));refine o1 ?_;refine nl (rt ?_)
 refine en (.inl rfl) rfl (bD (.one (.id rfl))) (by decide) (fun h=>by cases h) ?_
 have hx:trim xs=zs:=by
  have h9:zs=[]:=List.eq_nil_of_length_eq_zero (by omega)
  rw[←hz.1,h9];rfl
 rw[hx];rfl
theorem mN {xs:List Nat}(hx:xs.length≤1099511627776) (hl:Lim 4294967296 xs):aE false Tryz.prog 134 [] [.one (.t (sU false xs))] (aT (.one (.t (sI false (dg 65536 (vl 4294967296 xs)))))):=by
 refine bV Tryz.func134 rfl Tryz.ntmps134 rfl aF rfl fun N w c0 h0=>?_
 refine sq (rl (o1 ?_));refine nl (sq (rl (o1 ?_)));refine nl (sq (sq (rl (o1 ?_))));refine nl (bl ?_)
 refine lp (γ:=Nat) (fun k=>bP [(0,.one (.t (sU false xs))),(3,.one (.sl 0 0 (2*k))),(4,iN k)]) (fun k=>[(⟨3,1,(fM (hv (xs.take k))).map .t⟩:Ob)].map some) (fun k=>k≤xs.length) (fun k=>xs.length-k) 0 (Nat.zero_le _) ((nr (i:=3) 0 3 1 rfl rfl rfl rfl).trans (aP h0 [0] ⟨aB (l:=[]) rfl,rfl⟩)) fun k hk=>?_
 have hn:=hl.nth (by omega) k
 refine sq (sq (rl ?_));(iterate 4 refine o1 ?_);refine nl ?_;refine bF rfl (fun h1=>?_) (fun h1=>?_)
 ·refine sk (sq (bl ?_));refine cI [] [15] ?_
  refine dv 0 ?_;refine dv 1 ?_;refine dv 2 ?_;refine dv 3 ?_;refine dD 4 ([.v (.int .u32 ((nth xs (k):Nat):Int))]) (oW xs (k:=k) (by omega)) ?_
  refine dv 5 ?_;refine WD.cast (t:=16) (u':=.int .u32 ((nth xs k%65536:Nat):Int)) rfl (dO (jG _ 65536)) ?_;refine dv 6 ?_;refine dv 7 ?_;refine dv 8 ?_;refine dv 9 ?_
  refine dD 10 ([.v (.int .u32 ((nth xs (k):Nat):Int))]) (oW xs (k:=k) (by omega)) ?_
  refine dv 11 ?_ (hC:=(jQ 65536 (by omega) (by simp only[jJ];omega)))
  refine WD.cast (t:=22) (u':=.int .u32 ((nth xs k/65536:Nat):Int)) rfl (dO (gX _ 65536)) ?_;refine dv 12 ?_;refine iG (key:=1) 13 (by kernel_rfl) rfl rfl aF rfl trivial ?_
  refine KM (j:=2) 14 rfl aF rfl rfl rfl (.sl rfl (by rw[dB,jO,tL,eJ];omega)) (.sl rfl rfl rfl) rfl rfl (by omega) (by omega) rfl rfl (by kernel_rfl) rfl ?_
  refine dI 15 ?_
  refine aW ?_;refine rl ?_;(iterate 3 refine o1 ?_);refine nl ?_
  exact⟨k+1,by omega,by omega,aP h0 [2] ⟨pI rfl (jP _ [nth xs k%65536,nth xs k/65536]) (Vr (by omega)).symm,rfl⟩⟩
 refine ex (sq (rl (WL.sub (Cq (i:=3) (zs':=hv xs) rfl rfl rfl (by rw[tL,eJ];omega) (by rw[fF (by omega)])) ?_)))
 refine o1 ?_;refine ca (DO (by rw[tL];omega)) KU ⟨a1 rfl,rfl⟩ (.one (.t (sI false (trim (hv xs))))) ?_
 refine o1 ?_;refine nl (rt ?_);exact en (.inl rfl) rfl (bD (.one (.id rfl))) (by decide) (fun h=>by cases h) (by rw[LC hl];rfl)
theorem Ed {xs:List Nat}(hx:xs.length≤4398046511104) (hl:Lim 65536 xs):aE true Tryz.prog 136 [] [.one (.t (sI false xs))] (aT (.one (.t (sU true (dg 4294967296 (vl 65536 xs)))))):=by
 refine bV Tryz.func136 rfl Tryz.ntmps136 rfl aF rfl fun N w c0 h0=>?_
 refine sq (rl (o1 ?_));refine nl (sq (rl (o1 ?_)));refine nl (sq (rl (o1 ?_)))
 refine ca (DO hx) KU ⟨a1 rfl,rfl⟩ (.one (.t (sI false (trim xs)))) ?_;refine o1 ?_;refine nl (sq (sq ?_));have htl:=dP xs
 have hlt:=hl.trim
 generalize hY:trim xs=ys at htl hlt;refine rl (o1 ?_);refine nl (bl ?_)
 refine lp (γ:=Nat) (fun k=>bP [(0,.one (.t (sI false ys))),(3,.one (.sl 0 0 k)),(4,iN (2*k))]) (fun k=>[(⟨113,1,(aJ (lb (ys.take (2*k)))).map .t⟩:Ob)].map some) (fun k=>2*k≤ys.length+1) (fun k=>ys.length+1-2*k) 0 (Nat.zero_le _) ((nr (i:=3) 0 113 1 rfl rfl rfl rfl).trans (aP h0 [0] ⟨aB (l:=[]) rfl,rfl⟩)) fun k hk=>?_
 have hn:=hlt.nth (by omega) (2*k)
 have hn2:=hlt.nth (by omega) (2*k+1)
 refine sq (sq (rl ?_));(iterate 4 refine o1 ?_);refine nl ?_;refine bF rfl (fun h1=>?_) (fun h1=>?_)
 ·refine sk (sq (bl (sq (rl (o1 ?_)))));refine nl (sq (sq (rl (o1 ?_))));refine o1 ?_
  refine bB 15 (2*k+1) ?_
  (iterate 3 refine o1 ?_);refine nl ?_;refine bF rfl (fun h2=>?_) (fun h2=>?_)
  ·refine rl ?_;(iterate 3 refine o1 ?_);refine bB 21 (2*k+1) ?_
   refine o1 ?_;refine dV ([.v (.int .i64 ((nth ys (2*k+1):Nat):Int))]) (gQ ys (k:=2*k+1) (by omega)) ?_
   refine o1 ?_;refine nl (rl ?_);(iterate 4 refine o1 ?_);refine dV ([.v (.int .i64 ((nth ys (2*k):Nat):Int))]) (gQ ys (k:=2*k) (by omega)) ?_
   (iterate 5 refine o1 ?_);refine WL.cast (t:=33) (u':=.int .u32 ((nth ys (2*k)+65536*nth ys (2*k+1):Nat):Int)) rfl (dO (by omega)) ?_
   refine bs 1 ?_;refine iA (j:=2) aF rfl rfl rfl rfl (.sl rfl (by rw[dB,gK,kE,eJ];omega)) (.sl rfl rfl rfl) rfl rfl rfl (by omega) (by omega) ?_
   refine o1 ?_;refine nl (rl ?_);(iterate 3 refine o1 ?_);refine nl ?_
   exact⟨k+1,by omega,by omega,aP h0 [2] ⟨CP rfl (Qy _ [nth ys (2*k)+65536*nth ys (2*k+1)]) (Cc (by omega)).symm,rfl⟩⟩
  have hz:=fR (l:=ys) (k:=2*k+1) (by omega)
  refine sk (rl ?_);(iterate 4 refine o1 ?_);refine dV ([.v (.int .i64 ((nth ys (2*k):Nat):Int))]) (gQ ys (k:=2*k) (by omega)) ?_
  (iterate 5 refine o1 ?_);refine WL.cast (t:=33) (u':=.int .u32 ((nth ys (2*k)+65536*nth ys (2*k+1):Nat):Int)) rfl (dO (by omega)) ?_
  refine bs 1 ?_;refine iA (j:=2) aF rfl rfl rfl rfl (.sl rfl (by rw[dB,gK,kE,eJ];omega)) (.sl rfl rfl rfl) rfl rfl rfl (by omega) (by omega) ?_
  refine o1 ?_;refine nl (rl ?_);(iterate 3 refine o1 ?_);refine nl ?_
  exact⟨k+1,by omega,by omega,aP h0 [2] ⟨CP rfl (Qy _ [nth ys (2*k)+65536*nth ys (2*k+1)]) (Cc (by omega)).symm,rfl⟩⟩
 refine ex (sq (rl (o1 ?_)));refine o1 ?_;refine nl (rt ?_)
 exact en (.inl rfl) rfl (bD (.one (.sl (trs:=aJ (lb ys)) rfl rfl (by rw[fF (l:=ys) (by omega),fF (by simp[gK,kE];omega)]) (by rw[gK,kE];omega)))) (by decide) (fun _=>.inl ⟨rfl,gA _⟩) (by rw[←Cb,gC (by omega) hl,hY];unfold sU;rw[show k=(lb ys).length by rw[kE];omega];rfl)
theorem rY {xs:List Nat}{k:Nat}:aE true Tryz.prog 135 [] [.one (.t (sI false xs)),.one (tv (.int .i64 ((k:Nat):Int)))] (aT (.one (tv (.int .i64 ((nth xs k:Nat):Int))))):=by
 refine bV Tryz.func135 rfl Tryz.ntmps135 rfl aF rfl fun N w c0 h0=>?_
 refine sq (rl (o1 ?_));refine nl (sq (sq (rl ?_)));(iterate 4 refine o1 ?_);refine nl ?_;refine bF rfl (fun h1=>?_) (fun h1=>?_)
 ·refine sq (rl ?_);(iterate 3 refine o1 ?_);refine dV ([.v (.int .i64 ((nth xs (k):Nat):Int))]) (gQ xs (k:=k) (by omega)) ?_
  refine o1 ?_;refine nl (rt ?_);refine en (.inl rfl) rfl (bD (cX _)) (by decide) (fun _=>trivial) ?_
  rfl
 refine sk (sq (rl (o1 ?_)));refine nl (rt ?_);refine en (.inl rfl) rfl (bD (cX _)) (by decide) (fun _=>trivial) ?_
 rw[fR (by omega)];rfl
theorem PJ {xs:List Nat}(hx:xs.length≤1099511627776) (hlx:Lim 4294967296 xs):aE true Tryz.prog 132 [] [.one (.t (sU false xs))] (aT (.one (.t (sU true (dg 4294967296 (vl 4294967296 xs)))))):=by
 refine bV Tryz.func132 rfl Tryz.ntmps132 rfl aF rfl fun N w c0 h0=>?_
 have hd:=fO (v:=vl 4294967296 xs) (L:=xs.length) (by rw[gC (by omega) hlx];exact dP _)
 have hl9:=aU (B:=65536) (by omega) (vl 4294967296 xs)
 refine sq (rl (o1 ?_));refine nl (sq (rl (o1 ?_)))
 refine ca (mN hx hlx) xW ⟨a1 rfl,rfl⟩ (.one (.t (sI false (dg 65536 (vl 4294967296 xs))))) ?_;refine iS 0 (Ed (by omega) (by assumption)) Xv ⟨a1 rfl,rfl⟩ ?_
 refine o1 ?_;refine nl (rt ?_)
 exact en (.inl rfl) rfl (bD (.one (.sl (trs:=aJ (dg 4294967296 (vl 65536 (dg 65536 (vl 4294967296 xs))))) rfl rfl (bS _) (aV _)))) (by decide) (fun _=>.inl ⟨rfl,gA _⟩) (by rw[cV (by omega)];rfl)
theorem Ru {xs ys:List Nat}(hx:xs.length≤1099511627776) (hlx:Lim 4294967296 xs) (hy:ys.length≤1099511627776) (hly:Lim 4294967296 ys):aE true Tryz.prog 137 [] [.one (.t (sU false xs)),.one (.t (sU false ys))] (aT (.one (tv (.int .i64 (((vl 4294967296 xs:Nat):Int)-((vl 4294967296 ys:Nat):Int)).sign)))):=by
 refine bV Tryz.func137 rfl Tryz.ntmps137 rfl aF rfl fun N w c0 h0=>?_
 refine sq (rl (o1 ?_));refine nl (sq (rl (o1 ?_)))
 refine ca (mN hx hlx) xW ⟨a1 rfl,rfl⟩ (.one (.t (sI false (dg 65536 (vl 4294967296 xs))))) ?_;refine o1 ?_
 refine ca (mN hy hly) xW ⟨a1 rfl,rfl⟩ (.one (.t (sI false (dg 65536 (vl 4294967296 ys))))) ?_;refine o1 ?_;refine o1 ?_;refine nl (sq (sq ?_))
 have hdx:=fO (v:=vl 4294967296 xs) (L:=xs.length) (by rw[gC (by omega) hlx];exact dP _)
 have hdy:=fO (v:=vl 4294967296 ys) (L:=ys.length) (by rw[gC (by omega) hly];exact dP _)
 have hX:=aU (B:=65536) (by omega) (vl 4294967296 xs)
 have hY:=aU (B:=65536) (by omega) (vl 4294967296 ys)
 have hvX:=cV (B:=65536) (by omega) (vl 4294967296 xs)
 have hvY:=cV (B:=65536) (by omega) (vl 4294967296 ys)
 generalize dg 65536 (vl 4294967296 xs)=X at hdx hX hvX⊢;generalize dg 65536 (vl 4294967296 ys)=Y at hdy hY hvY⊢;refine rl ?_;(iterate 5 refine o1 ?_)
 refine bB 16 (max X.length Y.length) ?_
 refine o1 ?_;refine o1 ?_;refine nl (bl ?_)
 refine lp (γ:=Nat) (fun k=>bP [(5,.one (.t (sI false X))),(6,.one (.t (sI false Y))),(7,.one (tv (.int .i64 ((k:Nat)-1))))]) (fun k=>([]:List Ob).map some) (fun k=>(∀j,k≤j→nth X j=nth Y j)∧k≤max X.length Y.length) (fun k=>k) (max X.length Y.length) ⟨fun j hj=>by rw[fR (by omega),fR (by omega)],bC _⟩ (aP h0 [] rfl) fun k hk=>?_
 refine sq (sq (rl (o1 ?_)));refine o1 ?_;refine nl ?_;refine bF rfl (fun h1=>?_) (fun h1=>?_)
 ·refine sk (sq (bl (sq (sq (rl (o1 ?_))))));refine o1 ?_
  refine bB 23 (k-1) ?_
  refine ca (rY) rW ⟨a1 rfl,a1 rfl,rfl⟩ (.one (tv (.int .i64 ((nth X (k-1):Nat):Int)))) ?_;refine o1 ?_;refine o1 ?_
  refine bB 26 (k-1) ?_
  refine ca (rY) rW ⟨a1 rfl,a1 rfl,rfl⟩ (.one (tv (.int .i64 ((nth Y (k-1):Nat):Int)))) ?_;refine o1 ?_;refine nl ?_;refine bF rfl (fun h2=>?_) (fun h2=>?_)
  ·refine sq (rl (o1 ?_));refine nl (rt ?_);refine en (.inl rfl) rfl (bD (cX _)) (by decide) (fun _=>trivial) (congrArg (fun z=>FV.one (tv (.int .i64 z))) ?_)
   have he:=Mk (X:=X) (Y:=Y) (k:=k-1) hX (fun j hj=>hk.1 j (by omega)) (by omega)
   rw[hvX,hvY]at he;rw[Int.sign_eq_neg_one_of_neg (by omega)]
  refine sk (sq (rl (o1 ?_)));refine o1 ?_;refine bB 30 (k-1) ?_
  refine ca (rY) rW ⟨a1 rfl,a1 rfl,rfl⟩ (.one (tv (.int .i64 ((nth X (k-1):Nat):Int)))) ?_;refine o1 ?_;refine o1 ?_
  refine bB 33 (k-1) ?_
  refine ca (rY) rW ⟨a1 rfl,a1 rfl,rfl⟩ (.one (tv (.int .i64 ((nth Y (k-1):Nat):Int)))) ?_;refine o1 ?_;refine nl ?_;refine bF rfl (fun h3=>?_) (fun h3=>?_)
  ·refine sq (rl (o1 ?_));refine nl (rt ?_);refine en (.inl rfl) rfl (bD (cX _)) (by decide) (fun _=>trivial) (congrArg (fun z=>FV.one (tv (.int .i64 z))) ?_)
   have he:=Mk (X:=Y) (Y:=X) (k:=k-1) hY (fun j hj=>(hk.1 j (by omega)).symm) (by omega)
   rw[hvX,hvY]at he;rw[Int.sign_eq_one_of_pos (by omega)]
  refine sk (rl ?_);(iterate 3 refine o1 ?_);refine nl ?_
  exact⟨k-1,by omega,⟨fun j hj=>(Nat.eq_or_lt_of_le hj).elim (fun h9=>by rw[←h9];omega) (fun h9=>hk.1 j (by omega)),by omega⟩,iU h0 [] _ _ (by decide) ⟨rfl,rfl,congrArg (fun z=>some (FV.one (tv (.int .i64 z)))) (by omega),trivial⟩ rfl⟩
 refine ex (sq (rl (o1 ?_)));refine nl (rt ?_)
 refine en (.inl rfl) rfl (bD (cX _)) (by decide) (fun _=>trivial) (congrArg (fun z=>FV.one (tv (.int .i64 z))) ?_)
 have he:=CM (fun j=>hk.1 j (by omega))
 rw[hvX,hvY]at he;rw[he,Int.sub_self];rfl
theorem VM {xs ys:List Nat}(hx:xs.length≤1099511627776) (hlx:Lim 4294967296 xs) (hy:ys.length≤1099511627776) (hly:Lim 4294967296 ys):aE true Tryz.prog 111 [] [.one (.t (sU false xs)),.one (.t (sU false ys))] (aT (.one (.t (sU true (dg 4294967296 (vl 4294967296 xs+vl 4294967296 ys)))))):=by
 refine bV Tryz.func111 rfl Tryz.ntmps111 rfl aF rfl fun N w c0 h0=>?_
 refine sq (rl (o1 ?_));refine nl (sq (rl (o1 ?_)))
 refine ca (mN hx hlx) xW ⟨a1 rfl,rfl⟩ (.one (.t (sI false (dg 65536 (vl 4294967296 xs))))) ?_;refine o1 ?_
 refine ca (mN hy hly) xW ⟨a1 rfl,rfl⟩ (.one (.t (sI false (dg 65536 (vl 4294967296 ys))))) ?_;refine o1 ?_;refine o1 ?_;refine nl (sq ?_)
 have hdx:=fO (v:=vl 4294967296 xs) (L:=xs.length) (by rw[gC (by omega) hlx];exact dP _)
 have hdy:=fO (v:=vl 4294967296 ys) (L:=ys.length) (by rw[gC (by omega) hly];exact dP _)
 have hX:=aU (B:=65536) (by omega) (vl 4294967296 xs)
 have hY:=aU (B:=65536) (by omega) (vl 4294967296 ys)
 have hvX:=cV (B:=65536) (by omega) (vl 4294967296 xs)
 have hvY:=cV (B:=65536) (by omega) (vl 4294967296 ys)
 generalize dg 65536 (vl 4294967296 xs)=X at hdx hX hvX⊢;generalize dg 65536 (vl 4294967296 ys)=Y at hdy hY hvY⊢;refine rl (o1 ?_);refine nl (sq (rl ?_))
 refine o1 ?_;refine nl (sq (sq (rl (o1 ?_))));refine nl (bl ?_)
 refine lp (γ:=Nat×Nat×List Nat) (fun s=>bP [(5,.one (.t (sI false X))),(6,.one (.t (sI false Y))),(7,.one (.sl 0 0 s.1)),(8,iN s.2.1),(9,iN s.1)]) (fun s=>[(⟨3,1,(fM s.2.2).map .t⟩:Ob)].map some) (fun s=>s.2.2.length=s.1∧Lim 65536 s.2.2∧vl 65536 s.2.2+65536^s.1*s.2.1=vl 65536 (X.take s.1)+vl 65536 (Y.take s.1)∧s.2.1≤1∧(s.1≤max X.length Y.length∨s.1=max X.length Y.length+1∧s.2.1=0)) (fun s=>max X.length Y.length+1-s.1) (0,0,[]) ⟨rfl,Lim.nil,rfl,Nat.zero_le _,.inl (Nat.zero_le _)⟩ ((nr (i:=7) 0 3 1 rfl rfl rfl rfl).trans (aP h0 [0] ⟨aB (l:=[]) rfl,rfl⟩)) ?_
 rintro⟨k,cr,os⟩ ⟨hos,hol,hv,hc1,hkm⟩;dsimp only at hos hol hv hc1 hkm⊢;have hn1:=hX.nth (by omega) k
 have hn2:=hY.nth (by omega) k
 refine sq (sq (rl ?_));(iterate 6 refine o1 ?_);refine bB 20 (max X.length Y.length) ?_
 refine o1 ?_;refine o1 ?_;refine WL.split (t:=22) rfl (fun h1=>?_) (fun h1=>?_)
 ·refine cY ?_;refine cY ?_;refine o1 ?_;refine nl (iC rfl (sk (sq (bl (sq (rl (o1 ?_)))))));refine o1 ?_
  refine ca (rY) rW ⟨a1 rfl,a1 rfl,rfl⟩ (.one (tv (.int .i64 ((nth X (k):Nat):Int)))) ?_;refine o1 ?_;refine o1 ?_
  refine ca (rY) rW ⟨a1 rfl,a1 rfl,rfl⟩ (.one (tv (.int .i64 ((nth Y (k):Nat):Int)))) ?_;(iterate 3 refine o1 ?_)
  refine bB 36 (nth X k+nth Y k+cr) ?_
  refine o1 ?_;refine nl (sq (rl ?_));(iterate 3 refine o1 ?_)
  refine WL.cast (t:=39) (u':=.int .i64 (((nth X k+nth Y k+cr)%65536:Nat):Int)) rfl (dO (jG _ 65536)) ?_;refine bs 1 ?_
  refine iA (j:=2) aF rfl rfl rfl rfl (.sl rfl (by rw[dB,jO,hos];omega)) (.sl rfl rfl rfl) rfl rfl rfl (by omega) (by omega) ?_
  refine o1 ?_;refine nl (rl (o1 ?_));refine o1 ?_ (hC:=(jQ 65536 (by omega) (by simp only[jJ];omega)))
  refine WL.cast (t:=43) (u':=.int .i64 (((nth X k+nth Y k+cr)/65536:Nat):Int)) rfl (dO (gX _ 65536)) ?_;refine o1 ?_;refine nl (rl ?_);(iterate 3 refine o1 ?_)
  refine nl ?_;have hst:=Qw hos hv
  have hz1:X.length≤k→nth X k=0:=fun h=>fR (by omega)
  have hz2:Y.length≤k→nth Y k=0:=fun h=>fR (by omega)
  exact⟨(k+1,(nth X k+nth Y k+cr)/65536,os++[(nth X k+nth Y k+cr)%65536]),by dsimp only;omega,⟨by simp[hos],hol.append (Lim.cons (Nat.mod_lt _ (by omega)) Lim.nil),hst,by dsimp only;omega,by dsimp only;omega⟩,aP h0 [2] ⟨pI rfl (jP _ [(nth X k+nth Y k+cr)%65536]) rfl,rfl⟩⟩
 (iterate 3 refine o1 ?_);refine nl ?_;refine bF rfl (fun h2=>?_) (fun h2=>?_)
 ·refine sk (sq (bl (sq (rl (o1 ?_)))));refine o1 ?_
  refine ca (rY) rW ⟨a1 rfl,a1 rfl,rfl⟩ (.one (tv (.int .i64 ((nth X (k):Nat):Int)))) ?_;refine o1 ?_;refine o1 ?_
  refine ca (rY) rW ⟨a1 rfl,a1 rfl,rfl⟩ (.one (tv (.int .i64 ((nth Y (k):Nat):Int)))) ?_;(iterate 3 refine o1 ?_)
  refine bB 36 (nth X k+nth Y k+cr) ?_
  refine o1 ?_;refine nl (sq (rl ?_));(iterate 3 refine o1 ?_)
  refine WL.cast (t:=39) (u':=.int .i64 (((nth X k+nth Y k+cr)%65536:Nat):Int)) rfl (dO (jG _ 65536)) ?_;refine bs 1 ?_
  refine iA (j:=2) aF rfl rfl rfl rfl (.sl rfl (by rw[dB,jO,hos];omega)) (.sl rfl rfl rfl) rfl rfl rfl (by omega) (by omega) ?_
  refine o1 ?_;refine nl (rl (o1 ?_));refine o1 ?_ (hC:=(jQ 65536 (by omega) (by simp only[jJ];omega)))
  refine WL.cast (t:=43) (u':=.int .i64 (((nth X k+nth Y k+cr)/65536:Nat):Int)) rfl (dO (gX _ 65536)) ?_;refine o1 ?_;refine nl (rl ?_);(iterate 3 refine o1 ?_)
  refine nl ?_;have hst:=Qw hos hv
  have hz1:X.length≤k→nth X k=0:=fun h=>fR (by omega)
  have hz2:Y.length≤k→nth Y k=0:=fun h=>fR (by omega)
  exact⟨(k+1,(nth X k+nth Y k+cr)/65536,os++[(nth X k+nth Y k+cr)%65536]),by dsimp only;omega,⟨by simp[hos],hol.append (Lim.cons (Nat.mod_lt _ (by omega)) Lim.nil),hst,by dsimp only;omega,by dsimp only;omega⟩,aP h0 [2] ⟨pI rfl (jP _ [(nth X k+nth Y k+cr)%65536]) rfl,rfl⟩⟩
 refine ex (sq (rl ?_));have hc0:cr=0:=by omega
 rw[hc0,Nat.mul_zero,Nat.add_zero,cH 65536 (by omega),cH 65536 (by omega),hvX,hvY]at hv
 refine WL.sub (Cq (i:=7) (zs':=os) rfl rfl rfl (by omega) rfl) ?_
 refine o1 ?_;refine iS 1 (Ed (by omega) (by assumption)) Xv ⟨a1 rfl,rfl⟩ ?_
 refine o1 ?_;refine nl (rt ?_)
 exact en (.inl rfl) rfl (bD (.one (.sl (trs:=aJ (dg 4294967296 (vl 65536 os))) rfl rfl (bS _) (aV _)))) (by decide) (fun _=>.inl ⟨rfl,gA _⟩) (by rw[hv];rfl)
theorem DP {xs ys:List Nat}(hx:xs.length≤1099511627776) (hlx:Lim 4294967296 xs) (hy:ys.length≤1099511627776) (hly:Lim 4294967296 ys):aE true Tryz.prog 112 [] [.one (.t (sU false xs)),.one (.t (sU false ys))] (aT (.tup [.one (.t (sU true (dg 4294967296 (vl 4294967296 xs-vl 4294967296 ys)))),.one (tv (.int .i64 (if vl 4294967296 xs<vl 4294967296 ys then 2 else 0)))])):=by
 refine bV Tryz.func112 rfl Tryz.ntmps112 rfl aF rfl fun N w c0 h0=>?_
 refine sq (rl (o1 ?_));refine o1 ?_;refine nl (sq (sq (rl (o1 ?_))));refine o1 ?_
 refine ca (Ru hx hlx hy hly) Xw ⟨a1 rfl,a1 rfl,rfl⟩ (.one (tv (.int .i64 (((vl 4294967296 xs:Nat):Int)-((vl 4294967296 ys:Nat):Int)).sign))) ?_;refine o1 ?_;refine nl ?_
 refine bF rfl (fun h1=>?_) (fun h1=>?_)
 ·refine sq (rl (o1 ?_));refine o1 ?_;refine nl (rt ?_);have hlt:=UW h1
  exact en (.inl rfl) rfl (sX (.cons (.one (.nil (t:=113) (z:=1))) (.cons (cX _) .nil))) (by decide) (fun _=>⟨.inl ⟨rfl,trivial⟩,trivial,trivial⟩) (by rw[Nat.sub_eq_zero_of_le (Nat.le_of_lt hlt),if_pos hlt];rfl)
 refine sk (sq (rl (o1 ?_)));refine ca (mN hx hlx) xW ⟨a1 rfl,rfl⟩ (.one (.t (sI false (dg 65536 (vl 4294967296 xs))))) ?_;refine o1 ?_
 refine ca (mN hy hly) xW ⟨a1 rfl,rfl⟩ (.one (.t (sI false (dg 65536 (vl 4294967296 ys))))) ?_;refine o1 ?_;refine o1 ?_;refine nl (sq ?_)
 have hge:vl 4294967296 ys≤vl 4294967296 xs:=UV h1
 have hyx:=dX (B:=65536) (by omega) hge
 have hdx:=fO (v:=vl 4294967296 xs) (L:=xs.length) (by rw[gC (by omega) hlx];exact dP _)
 have hdy:=fO (v:=vl 4294967296 ys) (L:=ys.length) (by rw[gC (by omega) hly];exact dP _)
 have hX:=aU (B:=65536) (by omega) (vl 4294967296 xs)
 have hY:=aU (B:=65536) (by omega) (vl 4294967296 ys)
 have hvX:=cV (B:=65536) (by omega) (vl 4294967296 xs)
 have hvY:=cV (B:=65536) (by omega) (vl 4294967296 ys)
 generalize dg 65536 (vl 4294967296 xs)=X at hdx hX hvX hyx⊢;generalize dg 65536 (vl 4294967296 ys)=Y at hdy hY hvY hyx⊢;refine rl (o1 ?_);refine nl (sq (rl ?_))
 refine o1 ?_;refine nl (sq (sq (rl (o1 ?_))));refine nl (bl ?_)
 refine lp (γ:=Nat×Nat×List Nat) (fun s=>bP [(6,.one (.t (sI false X))),(7,.one (.t (sI false Y))),(8,.one (.sl 0 0 s.1)),(9,iN s.2.1),(10,iN s.1)]) (fun s=>[(⟨3,1,(fM s.2.2).map .t⟩:Ob)].map some) (fun s=>s.2.2.length=s.1∧Lim 65536 s.2.2∧vl 65536 s.2.2+vl 65536 (Y.take s.1)=vl 65536 (X.take s.1)+65536^s.1*s.2.1∧s.2.1≤1∧s.1≤X.length) (fun s=>X.length-s.1) (0,0,[]) ⟨rfl,Lim.nil,rfl,Nat.zero_le _,Nat.zero_le _⟩ ((nr (i:=8) 0 3 1 rfl rfl rfl rfl).trans (aP h0 [0] ⟨aB (l:=[]) rfl,rfl⟩)) ?_
 rintro⟨k,br,os⟩ ⟨hos,hol,hv,hc1,hkm⟩;dsimp only at hos hol hv hc1 hkm⊢;have hn1:=hX.nth (by omega) k
 have hn2:=hY.nth (by omega) k
 refine sq (sq (rl ?_));(iterate 4 refine o1 ?_);refine nl ?_;refine bF rfl (fun h2=>?_) (fun h2=>?_)
 ·refine sk (sq (bl (sq ?_)));refine cI [] [10] ?_
  refine dv 0 ?_;refine dv 1 ?_;refine dv 2 ?_;refine dD 3 ([.v (.int .i64 ((nth X (k):Nat):Int))]) (gQ X (k:=k) (by omega)) ?_
  refine dv 4 ?_;refine dv 5 ?_;refine dv 8 ?_;refine aS 6 rfl (rY) rW ⟨a1 rfl,a1 rfl,rfl⟩ (.one (tv (.int .i64 ((nth Y (k):Nat):Int)))) ?_;refine df 7 ?_;refine df 9 ?_
  refine dI 10 ?_
  refine aW ?_;refine sq (rl (o1 ?_));refine nl (sq (sq (rl (o1 ?_))));refine o1 ?_;refine nl ?_
  refine bF rfl (fun h3=>?_) (fun h3=>?_)
  ·refine sq (rl ?_);(iterate 3 refine o1 ?_);refine nl (rl (o1 ?_));refine nl (rl ?_)
   refine WL.cast (t:=11) (u':=.int .i64 (((nth X k+65536-nth Y k-br:Nat)):Int)) rfl (dO (by omega)) ?_
   refine o1 ?_;refine o1 ?_;refine bs 1 ?_
   refine iA (j:=2) aF rfl rfl rfl rfl (.sl rfl (by rw[dB,jO,hos];omega)) (.sl rfl rfl rfl) rfl rfl rfl (by omega) (by omega) ?_
   refine o1 ?_;refine nl (rl ?_);(iterate 3 refine o1 ?_);refine nl ?_;have hst:=Qx (d:=nth X k+65536-nth Y k-br) (br':=1) hos hv (by omega)
   exact⟨(k+1,1,os++[nth X k+65536-nth Y k-br]),by dsimp only;omega,⟨by simp[hos],hol.append (Lim.cons (by omega) Lim.nil),hst,by dsimp only;omega,by dsimp only;omega⟩,aP h0 [2] ⟨pI rfl (jP _ [nth X k+65536-nth Y k-br]) rfl,rfl⟩⟩
  refine sk (rl (WL.cast (t:=11) (u':=.int .i64 (((nth X k-nth Y k-br:Nat)):Int)) rfl (dO (by omega)) ?_))
  refine o1 ?_;refine o1 ?_;refine bs 1 ?_
  refine iA (j:=2) aF rfl rfl rfl rfl (.sl rfl (by rw[dB,jO,hos];omega)) (.sl rfl rfl rfl) rfl rfl rfl (by omega) (by omega) ?_
  refine o1 ?_;refine nl (rl ?_);(iterate 3 refine o1 ?_);refine nl ?_;have hst:=Qx (d:=nth X k-nth Y k-br) (br':=0) hos hv (by omega)
  exact⟨(k+1,0,os++[nth X k-nth Y k-br]),by dsimp only;omega,⟨by simp[hos],hol.append (Lim.cons (by omega) Lim.nil),hst,by dsimp only;omega,by dsimp only;omega⟩,aP h0 [2] ⟨pI rfl (jP _ [nth X k-nth Y k-br]) rfl,rfl⟩⟩
 refine ex (sq (rl ?_));have hoo:=gB hol
 rw[hos]at hoo;rw[cH 65536 (l:=X) (by omega),cH 65536 (l:=Y) (by omega),hvX,hvY]at hv
 have hb0:br=0:=by
  rcases Nat.eq_zero_or_pos br with h0 | h0
  ·exact h0
  have h1:br=1:=by omega
  rw[h1,Nat.mul_one,show k=X.length by omega]at hv
  rw[show k=X.length by omega]at hoo
  omega
 rw[hb0,Nat.mul_zero,Nat.add_zero]at hv;have he:vl 65536 os=vl 4294967296 xs-vl 4294967296 ys:=by omega
 refine WL.sub (Cq (i:=8) (zs':=os) rfl rfl rfl (by omega) rfl) ?_
 refine o1 ?_;refine iS 1 (Ed (by omega) (by assumption)) Xv ⟨a1 rfl,rfl⟩ ?_
 refine o1 ?_;refine o1 ?_;refine nl (rt ?_)
 exact en (.inl rfl) rfl (sX (.cons (.one (.sl (trs:=aJ (dg 4294967296 (vl 65536 os))) rfl rfl (bS _) (aV _))) (.cons (cX _) .nil))) (by decide) (fun _=>⟨.inl ⟨rfl,gA _⟩,trivial,trivial⟩) (by rw[he,if_neg (by omega)];rfl)
theorem Dn {a:Zi}{k:Int}(ha:Zn a k):aE true Tryz.prog 90 [] [gF a] (aT (.one (tv (.bool (eC a.s a.x))))):=by
 refine bV Tryz.func90 rfl Tryz.ntmps90 rfl aF rfl fun N w c0 h0=>?_
 have hal:=ha.2.1
 refine sq (rl (bx 0 ?_));refine o1 ?_;refine nl (sq (sq (rl (o1 ?_))));refine ld ?_;refine o1 ?_;refine o1 ?_;refine nl ?_
 refine bF rfl (fun h1=>?_) (fun h1=>?_)
 ·refine sq (rl (o1 ?_));refine ld ?_;refine WL.splitb (t:=8) rfl (fun h2=>?_) (fun h2=>?_)
  ·refine o1 ?_;refine o1 ?_;refine nl (rt ?_);refine en (.inl rfl) rfl (bD (cX _)) (by decide) (fun _=>trivial) (congrArg (fun b=>FV.one (tv (.bool b))) ?_)
   rw[pJ (by omega)];simp_all
  refine o1 ?_;refine o1 ?_;refine nl (rt ?_);refine en (.inl rfl) rfl (bD (cX _)) (by decide) (fun _=>trivial) (congrArg (fun b=>FV.one (tv (.bool b))) ?_)
  rw[pJ (by omega)];simp_all
 refine sk (sq (rl (o1 ?_)));refine ld ?_;refine o1 ?_;refine ld ?_;refine o1 ?_;refine o1 ?_
 refine bB 15 (a.x.length-1) ?_
 refine o1 ?_;refine dV ([.v (.int .u32 ((nth a.x (a.x.length-1):Nat):Int))]) (oW a.x (k:=a.x.length-1) (by omega)) ?_
 refine o1 ?_;refine o1 ?_;refine nl (rt ?_);refine en (.inl rfl) rfl (bD (cX _)) (by decide) (fun _=>trivial) (congrArg (fun b=>FV.one (tv (.bool b))) ?_)
 exact(yA rfl (by omega)).symm
theorem iX {a:Zi}{k:Int}(ha:Zn a k):aE false Tryz.prog 110 [] [gF a] (aT (kF k)):=by
 refine bV Tryz.func110 rfl Tryz.ntmps110 rfl aF rfl fun N w c0 h0=>?_
 refine sq (rl (bx 0 ?_));refine al 1 ?_;refine nl (sq (sq (rl (ld ?_))))
 refine ca (Dn ha) FH ⟨aC rfl,rfl⟩ (.one (tv (.bool (eC a.s a.x)))) ?_;refine WL.splitb (t:=4) rfl (fun h1=>?_) (fun h1=>?_)
 ·refine o1 ?_;refine nl (dW rfl (sk (sq (rl (ld ?_)))));refine st ?_;refine nl (rt ?_)
  exact en (.inl rfl) rfl (bD (.agg (.read _ (l:=[.v (.bool a.s),sU false a.x]) rfl))) (by decide) (fun h=>by cases h) (IV ha h1)
 refine o1 ?_;refine nl (iC rfl (sq (rl (o1 ?_))));refine st ?_;refine nl (rt ?_)
 exact en (.inl rfl) rfl (bD (.agg (.cons (.id rfl) (.cons .nilf .nil)))) (by decide) (fun h=>by cases h) (by rw[ha.wrong h1];exact Jk)
theorem mS {b:Bool}{xs:List Nat}{K:Int}(hx:xs.length≤1099511627776) (hl:Lim 4294967296 xs) (hK:cG b (vl 4294967296 xs)=K):aE true Tryz.prog 108 [] [.one (tv (.bool b)),.one (.t (sU false xs))] (aT (kO K)):=by
 refine bV Tryz.func108 rfl Tryz.ntmps108 rfl aF rfl fun N w c0 h0=>?_
 refine sq (rl (al 0 ?_));refine nl (sq (rl (o1 ?_)));refine iS 1 (PJ hx hl) YC ⟨a1 rfl,rfl⟩ ?_;refine o1 ?_;refine nl (sq ?_)
 refine rl (o1 ?_);refine o1 ?_;refine WL.splitb (t:=9) rfl (fun h1=>?_) (fun h1=>?_)
 ·(iterate 6 refine o1 ?_);refine st ?_;refine nl (rt ?_)
  exact en (.inl rfl) rfl (bD (.agg (.cons (.id rfl) (.cons (.sl (trs:=aJ (dg 4294967296 (vl 4294967296 xs))) rfl rfl (bS _) (aV _)) .nil)))) (by decide) (fun _=>Jl _ _) (hK▸yB (by rw[←Gd rfl,h1,Bool.true_and];exact decide_eq_decide.2 (by omega)) (kT _ _).symm)
 (iterate 3 refine cY ?_);(iterate 3 refine o1 ?_);refine st ?_;refine nl (rt ?_)
 exact en (.inl rfl) rfl (bD (.agg (.cons (.id rfl) (.cons (.sl (trs:=aJ (dg 4294967296 (vl 4294967296 xs))) rfl rfl (bS _) (aV _)) .nil)))) (by decide) (fun _=>Jl _ _) (hK▸yB (by rw[←Gd rfl,h1];rfl) (kT _ _).symm)
theorem Az {n:Int}(h1:-9223372036854775808≤n) (h2:n≤9223372036854775807):aE true Tryz.prog 76 [] [.one (tv (.int .i64 n))] (aT (kO n)):=by
 refine bV Tryz.func76 rfl Tryz.ntmps76 rfl aF rfl fun N w c0 h0=>?_
 obtain⟨hr1,hr2,hq1,hq2,hv1,hv2⟩:=IN h1 h2
 refine sq (rl (al 0 ?_));refine nl (sq (rl ?_));(iterate 3 refine o1 ?_);refine o1 ?_ (hC:=(by exact⟨by omega,by simp only[jJ];omega⟩))
 refine o1 ?_;refine o1 ?_;refine nl (sq (rl ?_));(iterate 6 refine o1 ?_)
 refine bB 14 ((Int.tmod n 4294967296).natAbs) ?_
 refine o1 ?_;refine WL.cast (t:=15) (u':=.int .u32 (((Int.tmod n 4294967296).natAbs:Nat):Int)) rfl (dO (by omega)) ?_
 (iterate 4 refine o1 ?_);refine bB 19 ((Int.tdiv n 4294967296).natAbs) ?_
 refine o1 ?_;refine WL.cast (t:=20) (u':=.int .u32 (((Int.tdiv n 4294967296).natAbs:Nat):Int)) rfl (dO (by omega)) ?_
 refine bs 1 ?_
 refine WL.sub (fzU (i:=21) (zs:=[(Int.tmod n 4294967296).natAbs,(Int.tdiv n 4294967296).natAbs]) (zs':=[(Int.tmod n 4294967296).natAbs,(Int.tdiv n 4294967296).natAbs]) rfl rfl rfl rfl rfl) ?_
 refine iS 2 (mS (K:=n) (by simp) (Lim.cons (by omega) (Lim.cons (by omega) Lim.nil)) (UY hv1)) dL ⟨a1 rfl,a1 rfl,rfl⟩ ?_
 refine st ?_;refine nl (rt ?_)
 exact en (.inl rfl) rfl (bD (.agg (.cons (.id rfl) (.cons (.sl (trs:=aJ (dg 4294967296 (n).natAbs)) rfl rfl (bS _) (aV _)) .nil)))) (by decide) (fun _=>fW (n)) rfl
theorem AC {a b:Zi}{k k':Int}(ha:Zn a k) (hb:Zn b k'):aE true Tryz.prog 121 [] [gF a,gF b] (aT (.one (tv (.int .i64 (k-k').sign)))):=by
 refine bV Tryz.func121 rfl Tryz.ntmps121 rfl aF rfl fun N w c0 h0=>?_
 have hkl:=ha.len
 have hkl':=hb.len
 refine sq (rl (bx 0 ?_));refine bx 1 ?_;refine o1 ?_;refine nl (sq (rl (ld ?_)));refine ca (iX ha) nL ⟨aC rfl,rfl⟩ (kF (k)) ?_
 refine st ?_;refine nl (sq (rl (ld ?_)));refine ca (iX hb) nL ⟨aC rfl,rfl⟩ (kF (k')) ?_;refine st ?_;refine nl (sq (bl (sq ?_)))
 refine rl (o1 ?_);refine ld ?_;refine o1 ?_;refine WL.splitb (t:=12) rfl (fun h1=>?_) (fun h1=>?_)
 ·refine o1 ?_;refine ld ?_;refine WL.splitb (t:=14) rfl (fun h2=>?_) (fun h2=>?_)
  ·(iterate 3 refine o1 ?_);refine nl (dW rfl (sq (rl (o1 ?_))));refine ld ?_;refine o1 ?_;refine WL.cast (t:=20) rfl (congrArg Value.bool h2) ?_
   refine o1 ?_;refine ld ?_;refine WL.cast (t:=22) rfl (congrArg Value.bool h1) ?_;(iterate 3 refine o1 ?_);refine nl (dW rfl (sq (rl (o1 ?_))))
   refine ld ?_;refine o1 ?_;refine nl ?_;refine iC (congrArg (fun b=>FV.one (tv (.bool b))) h1) ?_
   refine sq (rl (o1 ?_));refine ld ?_;refine o1 ?_;refine ld ?_
   refine ca (Ru (by omega) (aU (by omega) _) (by omega) (aU (by omega) _)) Xw ⟨a1 rfl,a1 rfl,rfl⟩ (.one (tv (.int .i64 (((vl 4294967296 (dg 4294967296 (k').natAbs):Nat):Int)-((vl 4294967296 (dg 4294967296 (k).natAbs):Nat):Int)).sign))) ?_
   refine o1 ?_;refine nl (rt ?_);refine en (.inl rfl) rfl (bD (cX _)) (by decide) (fun _=>trivial) (congrArg (fun z=>FV.one (tv (.int .i64 z))) ?_)
   rw[bX,bX];exact PB h1 h2
  (iterate 3 refine o1 ?_);refine nl (iC rfl (sq (rl (o1 ?_))));refine nl (rt ?_)
  refine en (.inl rfl) rfl (bD (cX _)) (by decide) (fun _=>trivial) (congrArg (fun z=>FV.one (tv (.int .i64 z))) ?_)
  exact OZ h1 h2
 (iterate 3 refine cY ?_);refine o1 ?_;refine o1 ?_;refine nl (dW rfl (sq (rl (o1 ?_))));refine ld ?_;refine o1 ?_
 refine WL.splitb (t:=20) rfl (fun h3=>?_) (fun h3=>?_)
 ·refine o1 ?_;refine ld ?_;refine WL.cast (t:=22) rfl (congrArg Value.bool h1) ?_;(iterate 3 refine o1 ?_);refine nl (iC rfl (sq (rl (o1 ?_))))
  refine nl (rt ?_);refine en (.inl rfl) rfl (bD (cX _)) (by decide) (fun _=>trivial) (congrArg (fun z=>FV.one (tv (.int .i64 z))) ?_)
  exact PA h1 h3
 (iterate 3 refine cY ?_);refine o1 ?_;refine o1 ?_;refine nl (dW rfl (sq (rl (o1 ?_))));refine ld ?_;refine o1 ?_;refine nl ?_
 refine dW (congrArg (fun b=>FV.one (tv (.bool b))) h1) ?_
 refine sk (sq (rl (o1 ?_)));refine ld ?_;refine o1 ?_;refine ld ?_
 refine ca (Ru (by omega) (aU (by omega) _) (by omega) (aU (by omega) _)) Xw ⟨a1 rfl,a1 rfl,rfl⟩ (.one (tv (.int .i64 (((vl 4294967296 (dg 4294967296 (k).natAbs):Nat):Int)-((vl 4294967296 (dg 4294967296 (k').natAbs):Nat):Int)).sign))) ?_
 refine o1 ?_;refine nl (rt ?_);refine en (.inl rfl) rfl (bD (cX _)) (by decide) (fun _=>trivial) (congrArg (fun z=>FV.one (tv (.int .i64 z))) ?_)
 rw[bX,bX];exact PC h1 h3
theorem pX {a:Zi}{k:Int}(ha:Zn a k):aE true Tryz.prog 91 [] [gF a] (aT (.one (tv (.int .i64 k.sign)))):=by
 refine bV Tryz.func91 rfl Tryz.ntmps91 rfl aF rfl fun N w c0 h0=>?_
 have hkl:=ha.len
 refine sq (rl (bx 0 ?_));refine o1 ?_;refine nl (sq (rl (ld ?_)));refine o1 ?_
 refine ca (AC ha zn0) JZ ⟨aC rfl,pM rfl (.cons .t (.cons .nil .nil)),rfl⟩ (.one (tv (.int .i64 ((k)-(0)).sign))) ?_;refine o1 ?_;refine nl (rt ?_)
 exact en (.inl rfl) rfl (bD (cX _)) (by decide) (fun _=>trivial) (congrArg (fun z=>FV.one (tv (.int .i64 z))) (by rw[Int.sub_zero]))
theorem Ex {a:Zi}{k:Int}(ha:Zn a k):aE true Tryz.prog 95 [] [gF a] (aT (kO (-k))):=by
 refine bV Tryz.func95 rfl Tryz.ntmps95 rfl aF rfl fun N w c0 h0=>?_
 have hkl:=ha.len
 refine sq (rl (bx 0 ?_));refine al 1 ?_;refine nl (sq ?_);refine cI [0,1] [8] ?_
 refine aK 0 ?_;refine aK 4 ?_;refine aS 1 rfl (iX ha) nL ⟨aC rfl,rfl⟩ (kF (k)) ?_;refine df 2 ?_;refine df 3 ?_;refine aS 5 rfl (iX ha) nL ⟨aC rfl,rfl⟩ (kF (k)) ?_
 refine df 6 ?_;refine kS 2 7 rfl (mS (K:=-k) (by omega) (aU (by omega) _) (by rw[bX];exact Vt k)) dL ⟨a1 rfl,a1 rfl,rfl⟩ ?_
 refine dst 8 ?_;refine aW ?_;refine rt ?_
 exact en (.inl rfl) rfl (bD (.agg (.cons (.id rfl) (.cons (.sl (trs:=aJ (dg 4294967296 (-k).natAbs)) rfl rfl (bS _) (aV _)) .nil)))) (by decide) (fun _=>fW (-k)) rfl
theorem vM {a b:Zi}{k k':Int}(ha:Zn a k) (hb:Zn b k'):aE true Tryz.prog 79 [] [gF a,gF b] (aT (kO (k+k'))):=by
 refine bV Tryz.func79 rfl Tryz.ntmps79 rfl aF rfl fun N w c0 h0=>?_
 have hkl:=ha.len
 have hkl':=hb.len
 refine sq (rl (bx 0 ?_));refine bx 1 ?_;refine al 2 ?_;refine nl (sq (rl (ld ?_)));refine ca (iX ha) nL ⟨aC rfl,rfl⟩ (kF (k)) ?_
 refine st ?_;refine nl (sq (rl (ld ?_)));refine ca (iX hb) nL ⟨aC rfl,rfl⟩ (kF (k')) ?_;refine st ?_;refine nl (sq (sq (rl ?_)))
 refine o1 ?_;refine ld ?_;refine o1 ?_;refine ld ?_;refine o1 ?_;refine nl ?_;refine qR rfl (fun h1=>?_) (fun h1=>?_)
 ·refine sq ?_;refine cI [0,1,2] [8] ?_
  refine dv 0 ?_;refine aK 1 ?_;refine dv 2 ?_;refine aK 3 ?_;refine dv 4 ?_;refine aK 5 ?_
  have hn2:=Jj (xs:=(dg 4294967296 (k).natAbs)) (ys:=(dg 4294967296 (k').natAbs)) (aU (by omega) _) (aU (by omega) _)
  refine aS 6 rfl (VM (by omega) (aU (by omega) _) (by omega) (aU (by omega) _)) YA ⟨a1 rfl,a1 rfl,rfl⟩ (.one (.t (sU false (dg 4294967296 (vl 4294967296 (dg 4294967296 (k).natAbs)+vl 4294967296 (dg 4294967296 (k').natAbs)))))) ?_
  refine kS 3 7 rfl (mS (K:=k+k') (by omega) (aU (by omega) _) (by simp only[cV (B:=4294967296) (by omega)];exact Le rfl (eq_of_beq h1))) dL ⟨a1 rfl,a1 rfl,rfl⟩ ?_
  refine dst 8 ?_;refine aW ?_;refine rt ?_
  exact en (.inl rfl) rfl (bD (.agg (.cons (.id rfl) (.cons (.sl (trs:=aJ (dg 4294967296 (k+k').natAbs)) rfl rfl (bS _) (aV _)) .nil)))) (by decide) (fun _=>fW (k+k')) rfl
 refine sk (sq (rl (o1 ?_)));refine ld ?_;refine o1 ?_;refine ld ?_
 have hn3:=Vu (xs:=(dg 4294967296 (k).natAbs)) (ys:=(dg 4294967296 (k').natAbs)) (aU (by omega) _)
 refine ca (DP (by omega) (aU (by omega) _) (by omega) (aU (by omega) _)) KN ⟨a1 rfl,a1 rfl,rfl⟩ (.tup [.one (.t (sU false (dg 4294967296 (vl 4294967296 (dg 4294967296 (k).natAbs)-vl 4294967296 (dg 4294967296 (k').natAbs))))),.one (tv (.int .i64 (if vl 4294967296 (dg 4294967296 (k).natAbs)<vl 4294967296 (dg 4294967296 (k').natAbs)then 2 else 0)))]) ?_
 (iterate 5 refine o1 ?_);refine nl (sq (sq (rl (o1 ?_))));refine o1 ?_;refine nl ?_;refine bF rfl (fun h4=>?_) (fun h4=>?_)
 ·refine sq (rl (o1 ?_));refine ld ?_;refine o1 ?_
  refine iS 3 (mS (K:=k+k') (by omega) (aU (by omega) _) (by simp only[cV (B:=4294967296) (by omega)];exact Vv rfl (ne_of_beq_false h1) (fun h8=>by rw[bX,bX,if_pos h8]at h4;omega))) dL ⟨a1 rfl,a1 rfl,rfl⟩ ?_
  refine st ?_;refine nl (rt ?_)
  exact en (.inl rfl) rfl (bD (.agg (.cons (.id rfl) (.cons (.sl (trs:=aJ (dg 4294967296 (k+k').natAbs)) rfl rfl (bS _) (aV _)) .nil)))) (by decide) (fun _=>fW (k+k')) rfl
 refine sk (sq (rl (o1 ?_)));refine ld ?_;refine o1 ?_;refine ld ?_
 have hn5:=Vu (xs:=(dg 4294967296 (k').natAbs)) (ys:=(dg 4294967296 (k).natAbs)) (aU (by omega) _)
 refine ca (DP (by omega) (aU (by omega) _) (by omega) (aU (by omega) _)) KN ⟨a1 rfl,a1 rfl,rfl⟩ (.tup [.one (.t (sU false (dg 4294967296 (vl 4294967296 (dg 4294967296 (k').natAbs)-vl 4294967296 (dg 4294967296 (k).natAbs))))),.one (tv (.int .i64 (if vl 4294967296 (dg 4294967296 (k').natAbs)<vl 4294967296 (dg 4294967296 (k).natAbs)then 2 else 0)))]) ?_
 (iterate 4 refine o1 ?_);refine nl (sq (rl (o1 ?_)));refine ld ?_;refine o1 ?_
 refine iS 3 (mS (K:=k+k') (by omega) (aU (by omega) _) (by simp only[cV (B:=4294967296) (by omega)];exact Vx rfl (ne_of_beq_false h1) (Decidable.byContradiction fun h8=>h4 (by rw[bX,bX,if_neg h8])))) dL ⟨a1 rfl,a1 rfl,rfl⟩ ?_
 refine st ?_;refine nl (rt ?_)
 exact en (.inl rfl) rfl (bD (.agg (.cons (.id rfl) (.cons (.sl (trs:=aJ (dg 4294967296 (k+k').natAbs)) rfl rfl (bS _) (aV _)) .nil)))) (by decide) (fun _=>fW (k+k')) rfl
theorem VN {a b:Zi}{k k':Int}(ha:Zn a k) (hb:Zn b k'):aE true Tryz.prog 133 [] [gF a,gF b] (aT (kO (k-k'))):=by
 refine bV Tryz.func133 rfl Tryz.ntmps133 rfl aF rfl fun N w c0 h0=>?_
 have hkl:=ha.len
 have hkl':=hb.len
 refine sq (rl (bx 0 ?_));refine bx 1 ?_;refine al 2 ?_;refine nl (sq ?_);refine cI [0,1,2] [4] ?_
 refine aK 0 ?_;refine aK 1 ?_;have hn1:=mC (k')
 refine aS 2 rfl (Ex hb) Wz ⟨aC rfl,rfl⟩ (kF (-k')) ?_;refine kS 3 3 rfl (vM ha (Zn.of (k:=-k') (by omega))) Hi ⟨aC rfl,aC rfl,rfl⟩ ?_
 refine dst 4 ?_;refine aW ?_;refine rt ?_
 exact en (.inl rfl) rfl (bD (.agg (.cons (.id rfl) (.cons (.sl (trs:=aJ (dg 4294967296 (k+-k').natAbs)) rfl rfl (bS _) (aV _)) .nil)))) (by decide) (fun _=>fW (k+-k')) rfl
theorem Gn {xs:List Nat}(hx:xs.length≤4398046511104):aE false Tryz.prog 138 [] [.one (.t (sI false xs))] (aT (.one (.t (sI false (trim xs))))):=by
 refine bV Tryz.func138 rfl Tryz.ntmps138 rfl aF rfl fun N w c0 h0=>?_
 refine sq (rl (o1 ?_));refine nl (sq (bl ?_))
 refine lp (γ:=List Nat) (fun zs=>bP [(0,.one (.t (sI false zs)))]) (fun _=>([]:List Ob).map some) (fun zs=>trim zs=trim xs∧zs.length≤xs.length) (fun zs=>zs.length) xs ⟨rfl,bC _⟩ (aP h0 [] rfl) fun zs hz=>?_
 refine sq (sq (rl ?_));(iterate 4 refine o1 ?_);refine WL.split (t:=6) rfl (fun h1=>?_) (fun h1=>?_)
 ·(iterate 4 refine o1 ?_);refine bB 10 (zs.length-1) ?_
  refine o1 ?_;refine dV ([.v (.int .i64 ((nth zs (zs.length-1):Nat):Int))]) (gQ zs (k:=zs.length-1) (by omega)) ?_
  refine o1 ?_;refine o1 ?_;refine nl ?_;refine bF rfl (fun h2=>?_) (fun h2=>?_)
  ·refine sk (bl (rl ?_));(iterate 4 refine o1 ?_);refine bB 18 (zs.length-1) ?_
   refine o1 ?_;refine o1 ?_;refine nl ?_
   exact⟨zs.take (zs.length-1),by rw[eJ];omega,⟨(by rw[yQ (xs:=zs) (k:=zs.length) (by omega) (bC _) (by omega),List.take_length];exact hz.1),by rw[eJ];omega⟩,iU h0 [] _ _ (by decide) ⟨congrArg some (CO (by omega)).symm,trivial⟩ rfl⟩
  refine ex (sq (rl (o1 ?_)));refine o1 ?_;refine nl (rt ?_);refine en (.inl rfl) rfl (bD (.one (.id rfl))) (by decide) (fun h=>by cases h) ?_
  have hx:trim xs=zs:=by
   rw[←hz.1];have h9:=tN (xs:=zs) (k:=zs.length) (by omega) (bC _) (by omega)
   rwa[List.take_length]at h9
  rw[hx];rfl
 (iterate 7 refine cY ?_);refine o1 ?_;refine nl (dW rfl (ex (sq (rl (o1 ?_)))));refine o1 ?_;refine nl (rt ?_)
 refine en (.inl rfl) rfl (bD (.one (.id rfl))) (by decide) (fun h=>by cases h) ?_
 have hx:trim xs=zs:=by
  have h9:zs=[]:=List.eq_nil_of_length_eq_zero (by omega)
  rw[←hz.1,h9];rfl
 rw[hx];rfl
theorem oN {xs:List Nat}(hx:xs.length≤1099511627776) (hl:Lim 4294967296 xs):aE false Tryz.prog 115 [] [.one (.t (sU false xs))] (aT (.one (.t (sI false (dg 65536 (vl 4294967296 xs)))))):=by
 refine bV Tryz.func115 rfl Tryz.ntmps115 rfl aF rfl fun N w c0 h0=>?_
 refine sq (rl (o1 ?_));refine nl (sq (rl (o1 ?_)));refine nl (sq (sq (rl (o1 ?_))));refine nl (bl ?_)
 refine lp (γ:=Nat) (fun k=>bP [(0,.one (.t (sU false xs))),(3,.one (.sl 0 0 (2*k))),(4,iN k)]) (fun k=>[(⟨3,1,(fM (hv (xs.take k))).map .t⟩:Ob)].map some) (fun k=>k≤xs.length) (fun k=>xs.length-k) 0 (Nat.zero_le _) ((nr (i:=3) 0 3 1 rfl rfl rfl rfl).trans (aP h0 [0] ⟨aB (l:=[]) rfl,rfl⟩)) fun k hk=>?_
 have hn:=hl.nth (by omega) k
 refine sq (sq (rl ?_));(iterate 4 refine o1 ?_);refine nl ?_;refine bF rfl (fun h1=>?_) (fun h1=>?_)
 ·refine sk (sq (bl ?_));refine cI [] [15] ?_
  refine dv 0 ?_;refine dv 1 ?_;refine dv 2 ?_;refine dv 3 ?_;refine dD 4 ([.v (.int .u32 ((nth xs (k):Nat):Int))]) (oW xs (k:=k) (by omega)) ?_
  refine dv 5 ?_;refine WD.cast (t:=16) (u':=.int .u32 ((nth xs k%65536:Nat):Int)) rfl (dO (jG _ 65536)) ?_;refine dv 6 ?_;refine dv 7 ?_;refine dv 8 ?_;refine dv 9 ?_
  refine dD 10 ([.v (.int .u32 ((nth xs (k):Nat):Int))]) (oW xs (k:=k) (by omega)) ?_
  refine dv 11 ?_ (hC:=(jQ 65536 (by omega) (by simp only[jJ];omega)))
  refine WD.cast (t:=22) (u':=.int .u32 ((nth xs k/65536:Nat):Int)) rfl (dO (gX _ 65536)) ?_;refine dv 12 ?_;refine iG (key:=1) 13 (by kernel_rfl) rfl rfl aF rfl trivial ?_
  refine KM (j:=2) 14 rfl aF rfl rfl rfl (.sl rfl (by rw[dB,jO,tL,eJ];omega)) (.sl rfl rfl rfl) rfl rfl (by omega) (by omega) rfl rfl (by kernel_rfl) rfl ?_
  refine dI 15 ?_
  refine aW ?_;refine rl ?_;(iterate 3 refine o1 ?_);refine nl ?_
  exact⟨k+1,by omega,by omega,aP h0 [2] ⟨pI rfl (jP _ [nth xs k%65536,nth xs k/65536]) (Vr (by omega)).symm,rfl⟩⟩
 refine ex (sq (rl (WL.sub (Cq (i:=3) (zs':=hv xs) rfl rfl rfl (by rw[tL,eJ];omega) (by rw[fF (by omega)])) ?_)))
 refine o1 ?_;refine ca (Gn (by rw[tL];omega)) Fu ⟨a1 rfl,rfl⟩ (.one (.t (sI false (trim (hv xs))))) ?_
 refine o1 ?_;refine nl (rt ?_);exact en (.inl rfl) rfl (bD (.one (.id rfl))) (by decide) (fun h=>by cases h) (by rw[LC hl];rfl)
theorem yF {xs zs:List Nat}(hx:xs.length≤4398046511104) (hl:Lim 65536 xs) (hz:lb xs=zs):aE true Tryz.prog 113 [] [.one (.t (sI false xs))] (aT (.one (.t (sU true zs)))):=by
 refine bV Tryz.func113 rfl Tryz.ntmps113 rfl aF rfl fun N w c0 h0=>?_
 refine sq (rl (o1 ?_));refine nl (sq (rl ?_));(iterate 3 refine o1 ?_)
 refine bB 7 (xs.length+1) ?_
 refine o1 ?_ (hC:=(jQ 2 (by omega) (by simp only[jJ];omega)))
 refine WL.cast (t:=8) (u':=.int .i64 (((xs.length+1)/2:Nat):Int)) rfl (dO (gX _ 2)) ?_;refine mk (m:=(xs.length+1)/2) 0 (by omega) (IU _) ?_
 refine o1 ?_;refine nl (sq (sq (rl (o1 ?_))));refine nl (bl ?_)
 refine lp (γ:=Nat) (fun k=>bP [(0,.one (.t (sI false xs))),(3,.one (.sl 0 0 ((xs.length+1)/2))),(4,iN k)]) (fun k=>[(⟨113,1,(aJ (mL xs k ((xs.length+1)/2))).map .t⟩:Ob)].map some) (fun k=>k≤xs.length) (fun k=>xs.length-k) 0 (Nat.zero_le _) (aP h0 [0] ⟨CP rfl rfl IS.symm,rfl⟩) fun k hk=>?_
 have hn:=hl.nth (by omega) k
 have hln:=OW (l:=xs) (k:=k) (N:=(xs.length+1)/2) rfl hk
 refine sq (sq (rl ?_));(iterate 4 refine o1 ?_);refine nl ?_;refine bF rfl (fun h1=>?_) (fun h1=>?_)
 ·refine sk (sq (bl (sq (rl (o1 ?_)))));refine o1 ?_;refine WL.cast (t:=17) (u':=.int .i64 ((k%2:Nat):Int)) rfl (dO (jG _ 2)) ?_
  refine o1 ?_;refine nl ?_;refine bF rfl (fun h2=>?_) (fun h2=>?_)
  ·refine rl (o1 ?_);refine o1 ?_;refine o1 ?_ (hC:=(jQ 2 (by omega) (by simp only[jJ];omega)))
   refine WL.cast (t:=21) (u':=.int .i64 ((k/2:Nat):Int)) rfl (dO (gX _ 2)) ?_;(iterate 3 refine o1 ?_)
   refine dV ([.v (.int .i64 ((nth xs (k):Nat):Int))]) (gQ xs (k:=k) (by omega)) ?_
   refine o1 ?_;refine WL.cast (t:=26) (u':=.int .u32 ((nth xs k:Nat):Int)) rfl (dO rfl) ?_;refine o1 ?_
   refine tU (Bg (mL xs k ((xs.length+1)/2)) (k:=k/2) (v:=nth xs k) (by omega)) (Fe (mL xs k ((xs.length+1)/2)) (by omega)) ?_
   refine nl (rl (o1 ?_));refine o1 ?_;refine bB 15 (k+1) ?_
   refine o1 ?_;refine nl ?_;exact⟨k+1,by omega,by omega,aP h0 [0] ⟨CP rfl rfl (IT rfl (by omega) (by omega)),rfl⟩⟩
  have hnt:=Cr (l:=xs) (k:=k) (N:=(xs.length+1)/2) rfl (by omega) (by omega)
  have hb1:=hl.nth (by omega) (k-1)
  refine cI [0] [16] ?_
  refine dv 0 ?_;refine dv 1 ?_;refine dv 2 ?_ (hC:=(jQ 2 (by omega) (by simp only[jJ];omega)))
  refine WD.cast (t:=30) (u':=.int .i64 ((k/2:Nat):Int)) rfl (dO (gX _ 2)) ?_;refine dv 3 ?_;refine dv 4 ?_
  refine dv 5 ?_ (hC:=(jQ 2 (by omega) (by simp only[jJ];omega)))
  refine WD.cast (t:=33) (u':=.int .i64 ((k/2:Nat):Int)) rfl (dO (gX _ 2)) ?_;refine dv 6 ?_;refine Oe 7 (VA (mL xs k ((xs.length+1)/2)) (k:=k/2) (by omega)) ?_
  refine dv 8 ?_;refine dv 9 ?_;refine dv 10 ?_;refine dD 11 ([.v (.int .i64 ((nth xs (k):Nat):Int))]) (gQ xs (k:=k) (by omega)) ?_
  refine dv 12 ?_;refine dv 13 ?_;refine dv 14 ?_
  refine WD.cast (t:=42) (u':=.int .u32 ((nth (mL xs k ((xs.length+1)/2)) (k/2)+65536*nth xs k:Nat):Int)) rfl (dO (by omega)) ?_
  refine dv 15 ?_
  refine uP 16 (Bg (mL xs k ((xs.length+1)/2)) (k:=k/2) (v:=nth (mL xs k ((xs.length+1)/2)) (k/2)+65536*nth xs k) (by omega)) (Fe (mL xs k ((xs.length+1)/2)) (by omega)) ?_
  refine aW ?_;refine rl (o1 ?_);refine o1 ?_;refine bB 15 (k+1) ?_
  refine o1 ?_;refine nl ?_;exact⟨k+1,by omega,by omega,aP h0 [0] ⟨CP rfl rfl (OY rfl (by omega) (by omega)),rfl⟩⟩
 refine ex (sq (rl (o1 ?_)));refine o1 ?_;refine nl (rt ?_)
 exact en (.inl rfl) rfl (bD (.one (.sl (trs:=aJ (lb xs)) rfl rfl (by rw[OV rfl (by omega),Nat.mul_one,fF (by simp[gK,kE])]) (by simp[gK,kE])))) (by decide) (fun _=>.inl ⟨rfl,gA _⟩) (by subst hz;unfold sU;rw[kE];rfl)
theorem Rw {xs ys:List Nat}(hx:xs.length≤1099511627776) (hy:ys.length≤1099511627776) (hlx:Lim 65536 xs) (hly:Lim 65536 ys):aE false Tryz.prog 114 [] [.one (.t (sI false xs)),.one (.t (sI false ys))] (aT (.one (.t (sI false (dg 65536 (vl 65536 xs*vl 65536 ys)))))):=by
 refine bV Tryz.func114 rfl Tryz.ntmps114 rfl aF rfl fun N w c0 h0=>?_
 refine sq (rl (o1 ?_));refine nl (sq (rl ?_));(iterate 5 refine o1 ?_)
 refine bB 14 (xs.length+ys.length) ?_
 refine o1 ?_;refine bB 15 (xs.length+ys.length+1) ?_
 refine mk (m:=xs.length+ys.length+1) 0 (by omega) (Re _) ?_
 refine o1 ?_;refine nl (sq (sq (rl (o1 ?_))));refine nl (bl ?_)
 refine lp (γ:=Nat×List Nat) (fun s=>bP [(0,.one (.t (sI false xs))),(1,.one (.t (sI false ys))),(5,.one (.sl 0 0 (xs.length+ys.length+1))),(6,iN s.1)]) (fun s=>[(⟨3,1,(fM s.2).map .t⟩:Ob)].map some) (fun s=>s.1≤xs.length∧Lim 65536 s.2∧s.2.length=xs.length+ys.length+1∧vl 65536 s.2=vl 65536 (xs.take s.1)*vl 65536 ys) (fun s=>xs.length-s.1) (0,List.replicate (xs.length+ys.length+1) 0) ⟨Nat.zero_le _,Lim.replicate (by omega) _,List.length_replicate,by rw[yO];simp[vl]⟩ (aP h0 [0] ⟨pI rfl rfl rfl,rfl⟩) ?_
 rintro⟨i,os⟩ ⟨hi,hol,hos,hv⟩;dsimp only at hi hol hos hv⊢;refine sq (sq (rl ?_));(iterate 4 refine o1 ?_);refine nl ?_;refine bF rfl (fun h1=>?_) (fun h1=>?_)
 ·refine sk (sq (bl (sq (rl (o1 ?_)))));refine nl (sq (rl (o1 ?_)));refine nl (bl ?_)
  have hil:=hlx.nth (by omega) i
  refine lp (γ:=Nat×Nat×List Nat) (fun s=>bP [(0,.one (.t (sI false xs))),(1,.one (.t (sI false ys))),(5,.one (.sl 0 0 (xs.length+ys.length+1))),(6,iN i),(7,iN s.2.1),(8,iN s.1)]) (fun s=>[(⟨3,1,(fM s.2.2).map .t⟩:Ob)].map some) (fun s=>s.1≤ys.length+1∧Lim 65536 s.2.2∧s.2.2.length=xs.length+ys.length+1∧vl 65536 s.2.2+65536^(i+s.1)*s.2.1=vl 65536 (xs.take i)*vl 65536 ys+65536^i*(nth xs i*vl 65536 (ys.take s.1))∧s.2.1≤65535) (fun s=>ys.length+1-s.1) (0,0,os) ⟨Nat.zero_le _,hol,hos,by dsimp only;rw[hv];simp[vl],Nat.zero_le _⟩ (aP h0 [0] ⟨pI rfl rfl rfl,rfl⟩) ?_
  rintro⟨k,cr,os2⟩ ⟨hk,hol2,hos2,hv2,hcb⟩;dsimp only at hk hol2 hos2 hv2 hcb⊢;refine sq (sq (rl ?_));(iterate 5 refine o1 ?_)
  refine WL.split (t:=27) rfl (fun h2=>?_) (fun h2=>?_)
  ·refine cY ?_;refine cY ?_;refine o1 ?_;refine nl (iC rfl (sk (sq (bl (sq ?_)))))
   have hkl:k≤ys.length:=by first | omega | exact Rb hlx hly (by omega) hk hv2 (by omega)
   have hon:=hol2.nth (by omega) (i+k)
   have hyn:=hly.nth (by omega) k
   have hmul:=Nat.mul_le_mul (Nat.le_of_lt_succ hil) (Nat.le_of_lt_succ hyn)
   refine rl ?_;(iterate 4 refine o1 ?_);refine bB 36 (i+k) ?_
   refine o1 ?_;refine Cj (Rc os2 (k:=i+k) (by omega)) ?_
   refine o1 ?_;refine o1 ?_;refine bB 40 (nth os2 (i+k)+cr) ?_
   refine o1 ?_;refine nl (sq (sq (rl ?_)));(iterate 4 refine o1 ?_);refine nl ?_;refine bF rfl (fun h3=>?_) (fun h3=>?_)
   ·refine cI [] [11] ?_
    refine dv 0 ?_;refine dv 1 ?_;refine dv 2 ?_;refine dv 3 ?_;refine dD 4 ([.v (.int .i64 ((nth xs (i):Nat):Int))]) (gQ xs (k:=i) (by omega)) ?_
    refine dv 5 ?_;refine dv 6 ?_;refine dv 7 ?_;refine dD 8 ([.v (.int .i64 ((nth ys (k):Nat):Int))]) (gQ ys (k:=k) (by omega)) ?_
    refine dv 9 ?_;refine WD.cast (t:=54) (u':=.int .i64 ((nth xs i*nth ys k:Nat):Int)) rfl (dO (Int.natCast_mul _ _).symm) ?_;refine dv 10 ?_
    refine vE 55 (nth os2 (i+k)+cr+nth xs i*nth ys k) ?_
    refine dI 11 ?_
    refine aW ?_;refine sq (rl ?_);(iterate 4 refine o1 ?_);refine bB 59 (i+k) ?_
    refine o1 ?_;refine o1 ?_;refine WL.cast (t:=61) (u':=.int .i64 (((nth os2 (i+k)+cr+nth xs i*nth ys k)%65536:Nat):Int)) rfl (dO (jG _ 65536)) ?_;refine o1 ?_
    refine tU (wL os2 (k:=i+k) (v:=(nth os2 (i+k)+cr+nth xs i*nth ys k)%65536) (by omega)) (Af os2 (by omega)) ?_
    refine nl (rl (o1 ?_));refine o1 ?_ (hC:=(jQ 65536 (by omega) (by simp only[jJ];omega)))
    refine WL.cast (t:=64) (u':=.int .i64 (((nth os2 (i+k)+cr+nth xs i*nth ys k)/65536:Nat):Int)) rfl (dO (gX _ 65536)) ?_;refine o1 ?_;refine nl (rl ?_)
    refine o1 ?_;refine o1 ?_;refine bB 32 (k+1) ?_
    refine o1 ?_;refine nl ?_;have hst:=rX (x:=nth os2 (i+k)+cr+nth xs i*nth ys k) (by omega) hv2 (by rfl)
    exact⟨(k+1,(nth os2 (i+k)+cr+nth xs i*nth ys k)/65536,os2.set (i+k) ((nth os2 (i+k)+cr+nth xs i*nth ys k)%65536)),by dsimp only;omega,⟨by dsimp only;omega,hol2.set _ (Nat.mod_lt _ (by omega)),by rw[List.length_set];exact hos2,hst,by dsimp only;omega⟩,aP h0 [0] ⟨pI rfl rfl rfl,rfl⟩⟩
   refine sk (sq (rl ?_));(iterate 4 refine o1 ?_);refine bB 59 (i+k) ?_
   refine o1 ?_;refine o1 ?_;refine WL.cast (t:=61) (u':=.int .i64 (((nth os2 (i+k)+cr)%65536:Nat):Int)) rfl (dO (jG _ 65536)) ?_;refine o1 ?_
   refine tU (wL os2 (k:=i+k) (v:=(nth os2 (i+k)+cr)%65536) (by omega)) (Af os2 (by omega)) ?_
   refine nl (rl (o1 ?_));refine o1 ?_ (hC:=(jQ 65536 (by omega) (by simp only[jJ];omega)))
   refine WL.cast (t:=64) (u':=.int .i64 (((nth os2 (i+k)+cr)/65536:Nat):Int)) rfl (dO (gX _ 65536)) ?_;refine o1 ?_;refine nl (rl (o1 ?_));refine o1 ?_
   refine bB 32 (k+1) ?_
   refine o1 ?_;refine nl ?_;have hny:nth ys k=0:=fR (by omega)
   have hst:=rX (x:=nth os2 (i+k)+cr) (by omega) hv2 (by rw[hny,Nat.mul_zero,Nat.add_zero])
   exact⟨(k+1,(nth os2 (i+k)+cr)/65536,os2.set (i+k) ((nth os2 (i+k)+cr)%65536)),by dsimp only;omega,⟨by dsimp only;omega,hol2.set _ (Nat.mod_lt _ (by omega)),by rw[List.length_set];exact hos2,hst,by dsimp only;omega⟩,aP h0 [0] ⟨pI rfl rfl rfl,rfl⟩⟩
  (iterate 3 refine o1 ?_);refine nl ?_;refine bF rfl (fun h4=>?_) (fun h4=>?_)
  ·refine sk (sq (bl (sq ?_)));have hkl:k≤ys.length:=by first | omega | exact Rb hlx hly (by omega) hk hv2 (by omega)
   have hon:=hol2.nth (by omega) (i+k)
   have hyn:=hly.nth (by omega) k
   have hmul:=Nat.mul_le_mul (Nat.le_of_lt_succ hil) (Nat.le_of_lt_succ hyn)
   refine rl ?_;(iterate 4 refine o1 ?_);refine bB 36 (i+k) ?_
   refine o1 ?_;refine Cj (Rc os2 (k:=i+k) (by omega)) ?_
   refine o1 ?_;refine o1 ?_;refine bB 40 (nth os2 (i+k)+cr) ?_
   refine o1 ?_;refine nl (sq (sq (rl ?_)));(iterate 4 refine o1 ?_);refine nl ?_;refine bF rfl (fun h5=>?_) (fun h5=>?_)
   ·refine cI [] [11] ?_
    refine dv 0 ?_;refine dv 1 ?_;refine dv 2 ?_;refine dv 3 ?_;refine dD 4 ([.v (.int .i64 ((nth xs (i):Nat):Int))]) (gQ xs (k:=i) (by omega)) ?_
    refine dv 5 ?_;refine dv 6 ?_;refine dv 7 ?_;refine dD 8 ([.v (.int .i64 ((nth ys (k):Nat):Int))]) (gQ ys (k:=k) (by omega)) ?_
    refine dv 9 ?_;refine WD.cast (t:=54) (u':=.int .i64 ((nth xs i*nth ys k:Nat):Int)) rfl (dO (Int.natCast_mul _ _).symm) ?_;refine dv 10 ?_
    refine vE 55 (nth os2 (i+k)+cr+nth xs i*nth ys k) ?_
    refine dI 11 ?_
    refine aW ?_;refine sq (rl ?_);(iterate 4 refine o1 ?_);refine bB 59 (i+k) ?_
    refine o1 ?_;refine o1 ?_;refine WL.cast (t:=61) (u':=.int .i64 (((nth os2 (i+k)+cr+nth xs i*nth ys k)%65536:Nat):Int)) rfl (dO (jG _ 65536)) ?_;refine o1 ?_
    refine tU (wL os2 (k:=i+k) (v:=(nth os2 (i+k)+cr+nth xs i*nth ys k)%65536) (by omega)) (Af os2 (by omega)) ?_
    refine nl (rl (o1 ?_));refine o1 ?_ (hC:=(jQ 65536 (by omega) (by simp only[jJ];omega)))
    refine WL.cast (t:=64) (u':=.int .i64 (((nth os2 (i+k)+cr+nth xs i*nth ys k)/65536:Nat):Int)) rfl (dO (gX _ 65536)) ?_;refine o1 ?_;refine nl (rl ?_)
    refine o1 ?_;refine o1 ?_;refine bB 32 (k+1) ?_
    refine o1 ?_;refine nl ?_;have hst:=rX (x:=nth os2 (i+k)+cr+nth xs i*nth ys k) (by omega) hv2 (by rfl)
    exact⟨(k+1,(nth os2 (i+k)+cr+nth xs i*nth ys k)/65536,os2.set (i+k) ((nth os2 (i+k)+cr+nth xs i*nth ys k)%65536)),by dsimp only;omega,⟨by dsimp only;omega,hol2.set _ (Nat.mod_lt _ (by omega)),by rw[List.length_set];exact hos2,hst,by dsimp only;omega⟩,aP h0 [0] ⟨pI rfl rfl rfl,rfl⟩⟩
   refine sk (sq (rl ?_));(iterate 4 refine o1 ?_);refine bB 59 (i+k) ?_
   refine o1 ?_;refine o1 ?_;refine WL.cast (t:=61) (u':=.int .i64 (((nth os2 (i+k)+cr)%65536:Nat):Int)) rfl (dO (jG _ 65536)) ?_;refine o1 ?_
   refine tU (wL os2 (k:=i+k) (v:=(nth os2 (i+k)+cr)%65536) (by omega)) (Af os2 (by omega)) ?_
   refine nl (rl (o1 ?_));refine o1 ?_ (hC:=(jQ 65536 (by omega) (by simp only[jJ];omega)))
   refine WL.cast (t:=64) (u':=.int .i64 (((nth os2 (i+k)+cr)/65536:Nat):Int)) rfl (dO (gX _ 65536)) ?_;refine o1 ?_;refine nl (rl (o1 ?_));refine o1 ?_
   refine bB 32 (k+1) ?_
   refine o1 ?_;refine nl ?_;have hny:nth ys k=0:=fR (by omega)
   have hst:=rX (x:=nth os2 (i+k)+cr) (by omega) hv2 (by rw[hny,Nat.mul_zero,Nat.add_zero])
   exact⟨(k+1,(nth os2 (i+k)+cr)/65536,os2.set (i+k) ((nth os2 (i+k)+cr)%65536)),by dsimp only;omega,⟨by dsimp only;omega,hol2.set _ (Nat.mod_lt _ (by omega)),by rw[List.length_set];exact hos2,hst,by dsimp only;omega⟩,aP h0 [0] ⟨pI rfl rfl rfl,rfl⟩⟩
  refine ex (rl (o1 ?_));refine o1 ?_;refine bB 22 (i+1) ?_
  refine o1 ?_;refine nl ?_;have hcr0:cr=0:=by omega
  rw[hcr0,Nat.mul_zero,Nat.add_zero,Gg (by omega)]at hv2
  exact⟨(i+1,os2),by dsimp only;omega,⟨by dsimp only;omega,hol2,hos2,hv2⟩,aP h0 [0] ⟨pI rfl rfl rfl,rfl⟩⟩
 refine ex (sq (rl ?_));rw[cH 65536 (by omega)]at hv
 refine WL.sub (Cq (i:=5) (zs':=os) rfl rfl rfl (by omega) rfl) ?_
 refine o1 ?_;refine ca (Gn (by omega)) Fu ⟨a1 rfl,rfl⟩ (.one (.t (sI false (trim os)))) ?_
 refine o1 ?_;refine nl (rt ?_);exact en (.inl rfl) rfl (bD (.one (.id rfl))) (by decide) (fun h=>by cases h) (by rw[Lu (by omega) hol hv];rfl)
theorem nD {a b:Zi}{k k':Int}(ha:Zn a k) (hb:Zn b k'):aE true Tryz.prog 80 [] [gF a,gF b] (aT (kO (k*k'))):=by
 refine bV Tryz.func80 rfl Tryz.ntmps80 rfl aF rfl fun N w c0 h0=>?_
 have hkl:=ha.len
 have hkl':=hb.len
 refine sq (rl (bx 0 ?_));refine bx 1 ?_;refine al 2 ?_;refine nl (sq (rl (ld ?_)));refine ca (iX ha) nL ⟨aC rfl,rfl⟩ (kF (k)) ?_
 refine st ?_;refine nl (sq (rl (ld ?_)));refine ca (iX hb) nL ⟨aC rfl,rfl⟩ (kF (k')) ?_;refine st ?_;refine nl (sq ?_)
 refine cI [0,1,2] [14] ?_
 refine dv 0 ?_;refine aK 1 ?_;refine dv 2 ?_;refine aK 3 ?_;refine dv 4 ?_;refine dv 5 ?_;refine aK 6 ?_;refine dv 8 ?_;refine aK 9 ?_
 have hn1:=fO (v:=vl 4294967296 (dg 4294967296 (k).natAbs)) (L:=(dg 4294967296 (k).natAbs).length) (by rw[cV (by omega)];exact bC _)
 refine aS 7 rfl (oN (by omega) (aU (by omega) _)) Bu ⟨a1 rfl,rfl⟩ (.one (.t (sI false (dg 65536 (vl 4294967296 (dg 4294967296 (k).natAbs)))))) ?_
 have hn2:=fO (v:=vl 4294967296 (dg 4294967296 (k').natAbs)) (L:=(dg 4294967296 (k').natAbs).length) (by rw[cV (by omega)];exact bC _)
 refine aS 10 rfl (oN (by omega) (aU (by omega) _)) Bu ⟨a1 rfl,rfl⟩ (.one (.t (sI false (dg 65536 (vl 4294967296 (dg 4294967296 (k').natAbs)))))) ?_
 have hn3:=Ad (xs:=(dg 65536 (vl 4294967296 (dg 4294967296 (k).natAbs)))) (ys:=(dg 65536 (vl 4294967296 (dg 4294967296 (k').natAbs)))) (aU (by omega) _) (aU (by omega) _)
 refine aS 11 rfl (Rw (by omega) (by omega) (aU (by omega) _) (aU (by omega) _)) KO ⟨a1 rfl,a1 rfl,rfl⟩ (.one (.t (sI false (dg 65536 (vl 65536 (dg 65536 (vl 4294967296 (dg 4294967296 (k).natAbs)))*vl 65536 (dg 65536 (vl 4294967296 (dg 4294967296 (k').natAbs)))))))) ?_
 have hn4:=pK (vl 65536 (dg 65536 (vl 4294967296 (dg 4294967296 (k).natAbs)))*vl 65536 (dg 65536 (vl 4294967296 (dg 4294967296 (k').natAbs))))
 refine aS 12 rfl (yF (zs:=(dg 4294967296 (vl 65536 (dg 65536 (vl 4294967296 (dg 4294967296 (k).natAbs)))*vl 65536 (dg 65536 (vl 4294967296 (dg 4294967296 (k').natAbs)))))) (by omega) (aU (by omega) _) (Cb _)) gD ⟨a1 rfl,rfl⟩ (.one (.t (sU false (dg 4294967296 (vl 65536 (dg 65536 (vl 4294967296 (dg 4294967296 (k).natAbs)))*vl 65536 (dg 65536 (vl 4294967296 (dg 4294967296 (k').natAbs)))))))) ?_
 refine kS 3 13 rfl (mS (K:=k*k') (by omega) (aU (by omega) _) (by simp only[cV (B:=4294967296) (by omega),cV (B:=65536) (by omega)];exact Vo k k')) dL ⟨a1 rfl,a1 rfl,rfl⟩ ?_
 refine dst 14 ?_;refine aW ?_;refine rt ?_
 exact en (.inl rfl) rfl (bD (.agg (.cons (.id rfl) (.cons (.sl (trs:=aJ (dg 4294967296 (k*k').natAbs)) rfl rfl (bS _) (aV _)) .nil)))) (by decide) (fun _=>fW (k*k')) rfl
theorem PK {u v:Nat}(hx:(dg 65536 (u)).length≤4398046511104) (hy:(dg 65536 (v)).length≤4398046511104):aE true Tryz.prog 159 [] [.one (.t (sI false (dg 65536 u))),.one (.t (sI false (dg 65536 v)))] (aT (.one (tv (.bool (decide (u<v)))))):=by
 refine bV Tryz.func159 rfl Tryz.ntmps159 rfl aF rfl fun N w c0 h0=>?_
 refine sq (rl (o1 ?_));refine nl (sq (sq (rl ?_)));(iterate 5 refine o1 ?_);refine nl ?_;refine bF rfl (fun h1=>?_) (fun h1=>?_)
 ·refine sq (rl ?_);(iterate 6 refine o1 ?_);refine nl (rt ?_)
  refine en (.inl rfl) rfl (bD (cX _)) (by decide) (fun _=>trivial) (congrArg (fun z=>FV.one (tv (.bool z))) ?_)
  exact IP rfl rfl (by omega)
 refine sk (sq (sq (rl ?_)));(iterate 4 refine o1 ?_);refine nl (bl ?_)
 refine lp (γ:=Nat) (fun k=>bP [(0,.one (.t (sI false (dg 65536 u)))),(1,.one (.t (sI false (dg 65536 v)))),(5,.one (tv (.int .i64 ((k:Nat)-1))))]) (fun k=>([]:List Ob).map some) (fun k=>(∀j,k≤j→nth (dg 65536 (u)) j=nth (dg 65536 (v)) j)∧k≤(dg 65536 (u)).length) (fun k=>k) (dg 65536 (u)).length ⟨fun j hj=>by rw[fR (by omega),fR (by omega)],bC _⟩ (aP h0 [] rfl) fun k hk=>?_
 refine sq (sq (rl (o1 ?_)));refine o1 ?_;refine nl ?_;refine bF rfl (fun h2=>?_) (fun h2=>?_)
 ·refine sk (sq (bl (sq ?_)));refine cI [] [] ?_
  refine dv 0 ?_;refine dv 1 ?_;refine vE 24 (k-1) ?_
  refine dv 2 ?_;refine dD 3 ([.v (.int .i64 ((nth (dg 65536 (u)) (k-1):Nat):Int))]) (gQ (dg 65536 (u)) (k:=k-1) (by omega)) ?_
  refine dv 4 ?_;refine dv 5 ?_;refine vE 28 (k-1) ?_
  refine dv 6 ?_;refine dD 7 ([.v (.int .i64 ((nth (dg 65536 (v)) (k-1):Nat):Int))]) (gQ (dg 65536 (v)) (k:=k-1) (by omega)) ?_
  refine dv 8 ?_;refine aW ?_;refine bF rfl (fun h3=>?_) (fun h3=>?_)
  ·refine sq ?_;refine cI [] [9] ?_
   refine dv 0 ?_;refine dv 1 ?_;refine vE 33 (k-1) ?_
   refine dv 2 ?_;refine dD 3 ([.v (.int .i64 ((nth (dg 65536 (u)) (k-1):Nat):Int))]) (gQ (dg 65536 (u)) (k:=k-1) (by omega)) ?_
   refine dv 4 ?_;refine dv 5 ?_;refine vE 37 (k-1) ?_
   refine dv 6 ?_;refine dD 7 ([.v (.int .i64 ((nth (dg 65536 (v)) (k-1):Nat):Int))]) (gQ (dg 65536 (v)) (k:=k-1) (by omega)) ?_
   refine dv 8 ?_;refine dI 9 ?_
   refine aW ?_;refine rt ?_;refine en (.inl rfl) rfl (bD (cX _)) (by decide) (fun _=>trivial) (congrArg (fun z=>FV.one (tv (.bool z))) ?_)
   exact OP (k:=k-1) (fun j hj=>hk.1 j (by omega)) (by omega)
  refine sk (rl ?_);(iterate 3 refine o1 ?_);refine nl ?_
  exact⟨k-1,by omega,⟨fun j hj=>(Nat.eq_or_lt_of_le hj).elim (fun h9=>by rw[←h9];omega) (fun h9=>hk.1 j (by omega)),by omega⟩,iU h0 [] _ _ (by decide) ⟨rfl,rfl,congrArg (fun z=>some (FV.one (tv (.int .i64 z)))) (by omega),trivial⟩ rfl⟩
 refine ex (sq (rl (o1 ?_)));refine nl (rt ?_)
 refine en (.inl rfl) rfl (bD (cX _)) (by decide) (fun _=>trivial) (congrArg (fun z=>FV.one (tv (.bool z))) ?_)
 have he:=CM (fun j=>hk.1 j (by omega))
 rw[cV (by omega),cV (by omega)]at he
 rw[he,decide_eq_false (Nat.lt_irrefl v)]
theorem PL {u v n:Nat}(hx:(dg 65536 (u)).length≤1099511627776) (hy:(dg 65536 (v)).length≤1099511627776) (hn:n≤65536) (hnv:n*v≤u):aE false Tryz.prog 144 [] [.one (.t (sI false (dg 65536 u))),.one (.t (sI false (dg 65536 v))),.one (tv (.int .i64 ((n:Nat):Int)))] (aT (.one (.t (sI false (dg 65536 (u-n*v)))))):=by
 refine bV Tryz.func144 rfl Tryz.ntmps144 rfl aF rfl fun N w c0 h0=>?_
 have hlu:=aU (B:=65536) (by omega) u
 have hlv:=aU (B:=65536) (by omega) v
 refine sq (rl (o1 ?_));refine nl (sq (rl (o1 ?_)));refine nl (sq (rl (o1 ?_)));refine nl (sq (sq ?_))
 refine rl (o1 ?_);refine nl (bl ?_)
 refine lp (γ:=Nat×Nat×List Nat) (fun s=>bP [(0,.one (.t (sI false (dg 65536 u)))),(1,.one (.t (sI false (dg 65536 v)))),(2,iN n),(7,.one (.sl 0 0 s.1)),(8,iN s.2.1),(9,iN s.1)]) (fun s=>[(⟨3,1,(fM s.2.2).map .t⟩:Ob)].map some) (fun s=>s.2.2.length=s.1∧Lim 65536 s.2.2∧vl 65536 s.2.2+n*vl 65536 ((dg 65536 (v)).take s.1)=vl 65536 ((dg 65536 (u)).take s.1)+65536^s.1*s.2.1∧s.2.1≤65536∧s.1≤(dg 65536 (u)).length) (fun s=>(dg 65536 (u)).length-s.1) (0,0,[]) ⟨rfl,Lim.nil,by simp[vl],Nat.zero_le _,Nat.zero_le _⟩ ((nr (i:=7) 0 3 1 rfl rfl rfl rfl).trans (aP h0 [0] ⟨aB (l:=[]) rfl,rfl⟩)) ?_
 rintro⟨k,br,os⟩ ⟨hos,hol,hv,hc1,hkm⟩;dsimp only at hos hol hv hc1 hkm⊢;have hn1:=hlu.nth (by omega) k
 have hn2:=hlv.nth (by omega) k
 have hmul:=Nat.mul_le_mul hn (Nat.le_of_lt_succ hn2)
 refine sq (sq (rl ?_));(iterate 4 refine o1 ?_);refine nl ?_;refine bF rfl (fun h1=>?_) (fun h1=>?_)
 ·refine sk (sq (bl (sq (rl ?_))));(iterate 3 refine o1 ?_)
  refine dV ([.v (.int .i64 ((nth (dg 65536 (u)) (k):Nat):Int))]) (gQ (dg 65536 (u)) (k:=k) (by omega)) ?_
  (iterate 3 refine o1 ?_);refine nl (sq (sq (rl ?_)));(iterate 4 refine o1 ?_);refine nl ?_;refine bF rfl (fun h2=>?_) (fun h2=>?_)
  ·refine rl ?_;(iterate 5 refine o1 ?_);refine dV ([.v (.int .i64 ((nth (dg 65536 (v)) (k):Nat):Int))]) (gQ (dg 65536 (v)) (k:=k) (by omega)) ?_
   (iterate 3 refine o1 ?_);refine nl (sq (rl (o1 ?_)));refine nl (sq (sq (rl (o1 ?_))));refine o1 ?_;refine nl ?_
   refine bF rfl (fun h3=>?_) (fun h3=>?_)
   ·refine sq (rl (o1 ?_));refine o1 ?_
    refine bB 38 (65535+n*nth (dg 65536 (v)) k+br-nth (dg 65536 (u)) k) ?_
    refine o1 ?_ (hC:=(jQ 65536 (by omega) (by simp only[jJ];omega)))
    refine WL.cast (t:=39) (u':=.int .i64 (((65535+n*nth (dg 65536 (v)) k+br-nth (dg 65536 (u)) k)/65536:Nat):Int)) rfl (dO (gX _ 65536)) ?_;refine o1 ?_;refine nl ?_
    refine rl ?_;(iterate 5 refine o1 ?_);refine nl (rl (o1 ?_));refine o1 ?_
    refine bB 45 (nth (dg 65536 (u)) k+65536*((65535+n*nth (dg 65536 (v)) k+br-nth (dg 65536 (u)) k)/65536)-br-n*nth (dg 65536 (v)) k) ?_
    refine bs 1 ?_;refine iA (j:=2) aF rfl rfl rfl rfl (.sl rfl (by rw[dB,jO,hos];omega)) (.sl rfl rfl rfl) rfl rfl rfl (by omega) (by omega) ?_
    refine o1 ?_;refine nl (rl (o1 ?_));refine o1 ?_;refine bB 16 (k+1) ?_
    refine o1 ?_;refine nl ?_
    have hst:=uJ (d:=nth (dg 65536 (u)) k+65536*((65535+n*nth (dg 65536 (v)) k+br-nth (dg 65536 (u)) k)/65536)-br-n*nth (dg 65536 (v)) k) (br:=br) (br':=(65535+n*nth (dg 65536 (v)) k+br-nth (dg 65536 (u)) k)/65536) hos hv (by omega)
    exact⟨(k+1,(65535+n*nth (dg 65536 (v)) k+br-nth (dg 65536 (u)) k)/65536,os++[nth (dg 65536 (u)) k+65536*((65535+n*nth (dg 65536 (v)) k+br-nth (dg 65536 (u)) k)/65536)-br-n*nth (dg 65536 (v)) k]),by dsimp only;omega,⟨by simp[hos],hol.append (Lim.cons (by omega) Lim.nil),hst,by dsimp only;omega,by dsimp only;omega⟩,aP h0 [2] ⟨pI rfl (jP _ [nth (dg 65536 (u)) k+65536*((65535+n*nth (dg 65536 (v)) k+br-nth (dg 65536 (u)) k)/65536)-br-n*nth (dg 65536 (v)) k]) rfl,rfl⟩⟩
   refine sk (rl (o1 ?_));refine o1 ?_;refine bB 45 (nth (dg 65536 (u)) k-br-n*nth (dg 65536 (v)) k) ?_
   refine bs 1 ?_;refine iA (j:=2) aF rfl rfl rfl rfl (.sl rfl (by rw[dB,jO,hos];omega)) (.sl rfl rfl rfl) rfl rfl rfl (by omega) (by omega) ?_
   refine o1 ?_;refine nl (rl (o1 ?_));refine o1 ?_;refine bB 16 (k+1) ?_
   refine o1 ?_;refine nl ?_;have hst:=uJ (d:=nth (dg 65536 (u)) k-br-n*nth (dg 65536 (v)) k) (br:=br) (br':=0) hos hv (by omega)
   exact⟨(k+1,0,os++[nth (dg 65536 (u)) k-br-n*nth (dg 65536 (v)) k]),by dsimp only;omega,⟨by simp[hos],hol.append (Lim.cons (by omega) Lim.nil),hst,by dsimp only;omega,by dsimp only;omega⟩,aP h0 [2] ⟨pI rfl (jP _ [nth (dg 65536 (u)) k-br-n*nth (dg 65536 (v)) k]) rfl,rfl⟩⟩
  refine sk (sq (rl (o1 ?_)));refine nl (sq (sq (rl (o1 ?_))));refine o1 ?_;refine nl ?_
  refine bF rfl (fun h4=>?_) (fun h4=>?_)
  ·refine sq (rl (o1 ?_));refine o1 ?_;refine bB 38 (65535+br-nth (dg 65536 (u)) k) ?_
   refine o1 ?_ (hC:=(jQ 65536 (by omega) (by simp only[jJ];omega)))
   refine WL.cast (t:=39) (u':=.int .i64 (((65535+br-nth (dg 65536 (u)) k)/65536:Nat):Int)) rfl (dO (gX _ 65536)) ?_;refine o1 ?_;refine nl (rl ?_)
   (iterate 5 refine o1 ?_);refine nl (rl (o1 ?_));refine o1 ?_
   refine bB 45 (nth (dg 65536 (u)) k+65536*((65535+br-nth (dg 65536 (u)) k)/65536)-br) ?_
   refine bs 1 ?_;refine iA (j:=2) aF rfl rfl rfl rfl (.sl rfl (by rw[dB,jO,hos];omega)) (.sl rfl rfl rfl) rfl rfl rfl (by omega) (by omega) ?_
   refine o1 ?_;refine nl (rl (o1 ?_));refine o1 ?_;refine bB 16 (k+1) ?_
   refine o1 ?_;refine nl ?_;have hny:nth (dg 65536 (v)) k=0:=fR (by omega)
   have hst:=uJ (d:=nth (dg 65536 (u)) k+65536*((65535+br-nth (dg 65536 (u)) k)/65536)-br) (br:=br) (br':=(65535+br-nth (dg 65536 (u)) k)/65536) hos hv (by rw[hny,Nat.mul_zero];omega)
   exact⟨(k+1,(65535+br-nth (dg 65536 (u)) k)/65536,os++[nth (dg 65536 (u)) k+65536*((65535+br-nth (dg 65536 (u)) k)/65536)-br]),by dsimp only;omega,⟨by simp[hos],hol.append (Lim.cons (by omega) Lim.nil),hst,by dsimp only;omega,by dsimp only;omega⟩,aP h0 [2] ⟨pI rfl (jP _ [nth (dg 65536 (u)) k+65536*((65535+br-nth (dg 65536 (u)) k)/65536)-br]) rfl,rfl⟩⟩
  refine sk (rl (o1 ?_));refine o1 ?_;refine bB 45 (nth (dg 65536 (u)) k-br) ?_
  refine bs 1 ?_;refine iA (j:=2) aF rfl rfl rfl rfl (.sl rfl (by rw[dB,jO,hos];omega)) (.sl rfl rfl rfl) rfl rfl rfl (by omega) (by omega) ?_
  refine o1 ?_;refine nl (rl (o1 ?_));refine o1 ?_;refine bB 16 (k+1) ?_
  refine o1 ?_;refine nl ?_;have hny:nth (dg 65536 (v)) k=0:=fR (by omega)
  have hst:=uJ (d:=nth (dg 65536 (u)) k-br) (br:=br) (br':=0) hos hv (by rw[hny,Nat.mul_zero];omega)
  exact⟨(k+1,0,os++[nth (dg 65536 (u)) k-br]),by dsimp only;omega,⟨by simp[hos],hol.append (Lim.cons (by omega) Lim.nil),hst,by dsimp only;omega,by dsimp only;omega⟩,aP h0 [2] ⟨pI rfl (jP _ [nth (dg 65536 (u)) k-br]) rfl,rfl⟩⟩
 refine ex (sq (rl ?_));have hve:vl 65536 os=u-n*v:=IQ rfl (by omega) hol hv hnv
 refine WL.sub (Cq (i:=7) (zs':=os) rfl rfl rfl (by omega) rfl) ?_
 refine o1 ?_;refine ca (Gn (by omega)) Fu ⟨a1 rfl,rfl⟩ (.one (.t (sI false (trim os)))) ?_
 refine o1 ?_;refine nl (rt ?_);exact en (.inl rfl) rfl (bD (.one (.id rfl))) (by decide) (fun h=>by cases h) (by rw[Lu (by omega) hol hve];rfl)
theorem JH {u v:Nat}(hx:(dg 65536 (u)).length≤1099511627776) (hy:(dg 65536 (v)).length≤1099511627776) (huv:u<65536*v):aE true Tryz.prog 143 [] [.one (.t (sI false (dg 65536 u))),.one (.t (sI false (dg 65536 v)))] (aT (.one (tv (.int .i64 ((u/v:Nat):Int))))):=by
 refine bV Tryz.func143 rfl Tryz.ntmps143 rfl aF rfl fun N w c0 h0=>?_
 refine sq (rl (o1 ?_));refine nl (sq (rl (o1 ?_)));refine o1 ?_;refine nl (sq (bl ?_))
 refine lp (γ:=Nat×Nat) (fun s=>bP [(0,.one (.t (sI false (dg 65536 u)))),(1,.one (.t (sI false (dg 65536 v)))),(5,iN s.1),(6,iN s.2)]) (fun s=>([]:List Ob).map some) (fun s=>s.1*v≤u∧u<s.2*v∧s.1<s.2∧s.2≤65536) (fun s=>s.2-s.1) (0,65536) ⟨by simp,huv,by decide,bC _⟩ (aP h0 [] rfl) ?_
 rintro⟨lo,hi⟩ ⟨h91,h92,h93,h94⟩;dsimp only at h91 h92 h93 h94⊢;refine sq (sq (rl ?_));(iterate 3 refine o1 ?_)
 refine bB 10 (hi-lo) ?_
 refine o1 ?_;refine nl ?_;refine bF rfl (fun h1=>?_) (fun h1=>?_)
 ·refine sk (bl (sq (rl ?_)));(iterate 3 refine o1 ?_);refine bB 14 (lo+hi) ?_
  refine o1 ?_ (hC:=(jQ 2 (by omega) (by simp only[jJ];omega)))
  refine WL.cast (t:=15) (u':=.int .i64 (((lo+hi)/2:Nat):Int)) rfl (dO (gX _ 2)) ?_;refine o1 ?_;refine nl (sq (rl ?_));(iterate 3 refine o1 ?_)
  refine bs 0 ?_;refine WL.sub (Cq (i:=19) (zs:=[(lo+hi)/2]) (zs':=[(lo+hi)/2]) rfl rfl rfl rfl rfl) ?_;have h1l:[(lo+hi)/2].length=1:=rfl
  have hn2:=Ad (xs:=(dg 65536 (v))) (ys:=[(lo+hi)/2]) (aU (by omega) _) (Lim.cons (d:=(lo+hi)/2) (by omega) Lim.nil)
  refine ca (Rw (by omega) (by omega) (aU (by omega) _) (Lim.cons (d:=(lo+hi)/2) (by omega) Lim.nil)) KO ⟨a1 rfl,a1 rfl,rfl⟩ (.one (.t (sI false (dg 65536 (vl 65536 (dg 65536 (v))*vl 65536 [(lo+hi)/2]))))) ?_
  refine ca (PK (by omega) (by omega)) YI ⟨a1 rfl,a1 rfl,rfl⟩ (.one (tv (.bool (decide (u<vl 65536 (dg 65536 (v))*vl 65536 [(lo+hi)/2]))))) ?_
  refine nl ?_;refine bF rfl (fun h3=>?_) (fun h3=>?_)
  ·refine rl (o1 ?_);refine o1 ?_;refine nl ?_;rw[cV (by omega),uV,Nat.mul_comm]at h3
   exact⟨(lo,(lo+hi)/2),by dsimp only;omega,⟨by dsimp only;omega,by dsimp only;omega,by dsimp only;omega,by dsimp only;omega⟩,aP h0 [] rfl⟩
  refine rl (o1 ?_);refine o1 ?_;refine nl ?_;rw[cV (by omega),uV,Nat.mul_comm]at h3
  exact⟨((lo+hi)/2,hi),by dsimp only;omega,⟨by dsimp only;omega,by dsimp only;omega,by dsimp only;omega,by dsimp only;omega⟩,aP h0 [] rfl⟩
 refine ex (sq (rl (o1 ?_)));refine o1 ?_;refine nl (rt ?_)
 exact en (.inl rfl) rfl (bD (cX _)) (by decide) (fun _=>trivial) (congrArg (fun z=>FV.one (tv (.int .i64 ((z:Nat):Int)))) (CQ h91 h92 (by omega)).symm)
theorem DQ {xs zs:List Nat}(hx:xs.length≤4398046511104) (hz:trim xs=zs):aE false Tryz.prog 138 [] [.one (.t (sI false xs))] (aT (.one (.t (sI false zs)))):=by
 subst hz
 exact Gn hx
theorem Rx {u v:Nat}(hx:(dg 65536 (u)).length≤549755813888) (hy:(dg 65536 (v)).length≤549755813888) (hvp:0<v):aE false Tryz.prog 122 [] [.one (.t (sI false (dg 65536 u))),.one (.t (sI false (dg 65536 v)))] (aT (.tup [.one (.t (sI false (dg 65536 (u/v)))),.one (.t (sI false (dg 65536 (u%v))))])):=by
 refine bV Tryz.func122 rfl Tryz.ntmps122 rfl aF rfl fun N w c0 h0=>?_
 have hlu:=aU (B:=65536) (by omega) u
 refine sq (rl (o1 ?_));refine o1 ?_;refine nl (sq (rl (o1 ?_)));refine o1 ?_
 refine WL.cast (t:=11) (u':=.int .i64 (((dg 65536 (u)).length:Nat):Int)) rfl (dO rfl) ?_;refine mk (m:=(dg 65536 (u)).length) 0 (by omega) (Re _) ?_
 refine o1 ?_;refine nl (sq (rl (o1 ?_)));refine nl (sq (sq (rl ?_)));(iterate 4 refine o1 ?_);refine nl (bl ?_)
 refine lp (γ:=Nat×List Nat×Nat) (fun s=>bP [(0,.one (.t (sI false (dg 65536 u)))),(1,.one (.t (sI false (dg 65536 v)))),(6,.one (.sl 0 0 (dg 65536 (u)).length)),(7,.one (.t (sI false (dg 65536 s.2.2)))),(8,.one (tv (.int .i64 ((s.1:Nat)-1))))]) (fun s=>[(⟨3,1,(fM s.2.1).map .t⟩:Ob)].map some) (fun s=>s.2.1.length=(dg 65536 (u)).length∧Lim 65536 s.2.1∧vl 65536 ((dg 65536 (u)).drop s.1)=v*vl 65536 (s.2.1.drop s.1)+s.2.2∧s.2.2<v∧s.1≤(dg 65536 (u)).length) (fun s=>s.1) ((dg 65536 (u)).length,List.replicate (dg 65536 (u)).length 0,0) ⟨List.length_replicate,Lim.replicate (by omega) _,by dsimp only;rw[List.drop_of_length_le (bC _),List.drop_of_length_le (by rw[List.length_replicate];exact bC _)];simp[vl],hvp,bC _⟩ (((nr (i:=7) 1 3 1 rfl rfl rfl rfl).trans (Cq (i:=7) (k:=1) (zs:=[]) (zs':=dg 65536 0) rfl rfl rfl rfl (pO _).symm)).trans (aP h0 [0] ⟨pI rfl rfl rfl,rfl⟩)) ?_
 rintro⟨k,os,r⟩ ⟨hos,hol,hv,hr,hkm⟩;dsimp only at hos hol hv hr hkm⊢;have hrl:=dX (B:=65536) (by omega) (Nat.le_of_lt hr)
 have hau:=hlu.nth (by omega) (k-1)
 have hce:=IR (a:=nth (dg 65536 (u)) (k-1)) hau hr
 have hql:(nth (dg 65536 (u)) (k-1)+65536*r)/v<65536:=(Nat.div_lt_iff_lt_mul hvp).2 (by omega)
 refine sq (sq (rl (o1 ?_)));refine o1 ?_;refine nl ?_;refine bF rfl (fun h1=>?_) (fun h1=>?_)
 ·refine sk (sq (bl (sq (rl (o1 ?_)))));refine o1 ?_;refine bB 21 (k-1) ?_
  refine o1 ?_;refine dV ([.v (.int .i64 ((nth (dg 65536 (u)) (k-1):Nat):Int))]) (gQ (dg 65536 (u)) (k:=k-1) (by omega)) ?_
  refine bs 1 ?_;refine o1 ?_;refine nl (sq (rl (o1 ?_)));refine o1 ?_
  refine iA (j:=2) aF rfl rfl rfl rfl (.sl rfl (rfl)) .fz (UX _) (IM _) rfl (by omega) (by omega) ?_
  refine WL.sub (Cq (i:=27) (k:=2) (zs:=[nth (dg 65536 (u)) (k-1)]++dg 65536 r) (zs':=[nth (dg 65536 (u)) (k-1)]++dg 65536 r) rfl rfl (congrArg (fun l=>some (⟨3,1,l⟩:Ob)) (jP [nth (dg 65536 (u)) (k-1)] (dg 65536 r))) (by rw[fE];rfl) rfl) ?_
  refine ca (DQ (zs:=(dg 65536 (nth (dg 65536 (u)) (k-1)+65536*r))) (by rw[fE];exact Nat.le_trans (Nat.add_le_add_left hrl 1) (by omega)) (Ae (by omega))) Fu ⟨a1 rfl,rfl⟩ (.one (.t (sI false (dg 65536 (nth (dg 65536 (u)) (k-1)+65536*r))))) ?_
  refine o1 ?_;refine nl (sq (rl (o1 ?_)));refine o1 ?_;refine bB 30 (k-1) ?_
  refine o1 ?_;refine o1 ?_;refine ca (JH (by omega) (by omega) (by omega)) YG ⟨a1 rfl,a1 rfl,rfl⟩ (.one (tv (.int .i64 (((nth (dg 65536 (u)) (k-1)+65536*r)/v:Nat):Int)))) ?_
  refine o1 ?_;refine tU (wL os (k:=k-1) (v:=(nth (dg 65536 (u)) (k-1)+65536*r)/v) (by omega)) (Af os (by omega)) ?_
  refine nl (rl ?_);(iterate 4 refine o1 ?_);refine bB 38 (k-1) ?_
  refine o1 ?_;refine Cj (Rc (os.set (k-1) ((nth (dg 65536 (u)) (k-1)+65536*r)/v)) (k:=k-1) (by rw[List.length_set];omega)) ?_
  refine WL.cast (t:=40) (u':=.int .i64 (((nth (dg 65536 (u)) (k-1)+65536*r)/v:Nat):Int)) rfl (dO (by rw[Ra (by omega)])) ?_
  refine ca (PL (by omega) (by omega) (by omega) (Nat.div_mul_le_self _ _)) YH ⟨a1 rfl,a1 rfl,a1 rfl,rfl⟩ (.one (.t (sI false (dg 65536 (nth (dg 65536 (u)) (k-1)+65536*r-(nth (dg 65536 (u)) (k-1)+65536*r)/v*v))))) ?_
  refine o1 ?_;refine nl (rl ?_);(iterate 3 refine o1 ?_);refine nl ?_
  have hst:=Yi (k:=k) (q:=(nth (dg 65536 (u)) (k-1)+65536*r)/v) (by omega) (by omega) (by omega) hv rfl rfl
  have hmod:=Nat.mod_lt (nth (dg 65536 (u)) (k-1)+65536*r) hvp
  have hdm:=Nat.div_add_mod' (nth (dg 65536 (u)) (k-1)+65536*r) v
  exact⟨(k-1,os.set (k-1) ((nth (dg 65536 (u)) (k-1)+65536*r)/v),nth (dg 65536 (u)) (k-1)+65536*r-(nth (dg 65536 (u)) (k-1)+65536*r)/v*v),by dsimp only;omega,⟨by rw[List.length_set];exact hos,hol.set _ hql,hst,by dsimp only;omega,by dsimp only;omega⟩,iU h0 [0] _ _ (by decide) ⟨rfl,rfl,rfl,rfl,congrArg (fun z=>some (FV.one (tv (.int .i64 z)))) (by omega),trivial⟩ ⟨pI rfl rfl rfl,rfl⟩⟩
 refine ex (sq (rl ?_));have hk0:k=0:=by omega
 rw[hk0,List.drop_zero,List.drop_zero,cV (by omega)]at hv
 obtain⟨hq1,hq2⟩:=CS hv hr
 refine WL.sub (Cq (i:=6) (zs':=os) rfl rfl rfl (by omega) rfl) ?_
 refine o1 ?_;refine ca (DQ (zs:=(dg 65536 (u/v))) (by omega) (by rw[Lu (by omega) hol rfl,hq1])) Fu ⟨a1 rfl,rfl⟩ (.one (.t (sI false (dg 65536 (u/v))))) ?_
 (iterate 3 refine o1 ?_);refine nl (rt ?_);exact en (.inl rfl) rfl (sX (.cons (.one (.id rfl)) (.cons (.one (.id rfl)) .nil))) (by decide) (fun h=>by cases h) (by rw[hq2];rfl)
theorem Oj {a b:Zi}{k k':Int}(ha:Zn a k) (hb:Zn b k'):aE true Tryz.prog 93 [] [gF a,gF b] (aT (kO ((Int.gcd k k':Nat):Int))):=by
 refine bV Tryz.func93 rfl Tryz.ntmps93 rfl aF rfl fun N w c0 h0=>?_
 have hkl:=ha.len
 have hkl':=hb.len
 refine sq (rl (bx 0 ?_));refine bx 1 ?_;refine al 2 ?_;refine nl (sq ?_);refine cI [0,1,2] [9] ?_
 refine aK 0 ?_;refine aK 4 ?_;refine aS 1 rfl (iX ha) nL ⟨aC rfl,rfl⟩ (kF (k)) ?_;refine df 2 ?_
 have hn1:=fO (v:=vl 4294967296 (dg 4294967296 (k).natAbs)) (L:=(dg 4294967296 (k).natAbs).length) (by rw[cV (by omega)];exact bC _)
 refine aS 3 rfl (oN (by omega) (aU (by omega) _)) Bu ⟨a1 rfl,rfl⟩ (.one (.t (sI false (dg 65536 (vl 4294967296 (dg 4294967296 (k).natAbs)))))) ?_
 refine aS 5 rfl (iX hb) nL ⟨aC rfl,rfl⟩ (kF (k')) ?_;refine df 6 ?_
 have hn2:=fO (v:=vl 4294967296 (dg 4294967296 (k').natAbs)) (L:=(dg 4294967296 (k').natAbs).length) (by rw[cV (by omega)];exact bC _)
 refine aS 7 rfl (oN (by omega) (aU (by omega) _)) Bu ⟨a1 rfl,rfl⟩ (.one (.t (sI false (dg 65536 (vl 4294967296 (dg 4294967296 (k').natAbs)))))) ?_
 refine dI 8 ?_
 refine dI 9 ?_
 refine aW ?_;refine sq (bl ?_)
 refine lp (γ:=Nat×Nat) (fun s=>bP [(4,pN 0),(5,.one (.t (sI false (dg 65536 s.1)))),(6,.one (.t (sI false (dg 65536 s.2))))]) (fun s=>[(⟨50,0,[tv (.bool false),tv (.slice none 0 0)]⟩:Ob)].map some) (fun s=>Nat.gcd s.1 s.2=Int.gcd k k'∧(dg 65536 s.1).length≤549755813888∧(dg 65536 s.2).length≤549755813888) (fun s=>s.2) (vl 4294967296 (dg 4294967296 (k).natAbs),vl 4294967296 (dg 4294967296 (k').natAbs)) ⟨by dsimp only;rw[cV (by omega),cV (by omega)];rfl,by dsimp only;omega,by dsimp only;omega⟩ (aP h0 [2] ⟨oe rfl rfl,rfl⟩) ?_
 rintro⟨ga,gb⟩ ⟨hg,hga,hgb⟩;dsimp only at hg hga hgb⊢;have hbz:gb=0↔(dg 65536 gb).length=0:=by rw[List.length_eq_zero_iff,gY (by omega)]
 refine sq (sq (rl ?_));(iterate 3 refine o1 ?_);refine nl ?_;refine bF rfl (fun h3=>?_) (fun h3=>?_)
 ·refine sk (bl (sq ?_));have hb0:0<gb:=by omega
  refine rl (o1 ?_);refine o1 ?_;have hn4:=dX (B:=65536) (by omega) (Nat.div_le_self (ga) (gb))
  have hn5:=dX (B:=65536) (by omega) (Nat.mod_le (ga) (gb))
  refine ca (Rx (by omega) (by omega) hb0) KS ⟨a1 rfl,a1 rfl,rfl⟩ (.tup [.one (.t (sI false (dg 65536 ((ga)/(gb))))),.one (.t (sI false (dg 65536 ((ga)%(gb)))))]) ?_
  (iterate 5 refine o1 ?_);refine nl (sq (rl (o1 ?_)));refine o1 ?_;refine nl (rl (o1 ?_));refine o1 ?_;refine nl ?_;have hmod:=Nat.mod_lt ga hb0
  have hml:=dX (B:=65536) (by omega) (Nat.le_of_lt hmod)
  exact⟨(gb,ga%gb),by dsimp only;omega,⟨by dsimp only;rw[←hg,Nat.gcd_comm gb (ga%gb),←Nat.gcd_rec,Nat.gcd_comm],by dsimp only;omega,by dsimp only;omega⟩,aP h0 [0] ⟨oe rfl rfl,rfl⟩⟩
 refine ex (sq ?_);have hb00:gb=0:=by omega
 rw[hb00,Nat.gcd_zero_right]at hg;refine rl (o1 ?_);have hn6:=pK (ga)
 refine ca (yF (zs:=(dg 4294967296 (ga))) (by omega) (aU (by omega) _) (Cb _)) gD ⟨a1 rfl,rfl⟩ (.one (.t (sU false (dg 4294967296 (ga))))) ?_
 refine iS 1 (mS (K:=((Int.gcd k k':Nat):Int)) (by omega) (aU (by omega) _) (by rw[cV (by omega),hg];rfl)) dL ⟨a1 rfl,a1 rfl,rfl⟩ ?_
 refine st ?_;refine nl (rt ?_)
 exact en (.inl rfl) rfl (bD (.agg (.cons (.id rfl) (.cons (.sl (trs:=aJ (dg 4294967296 (((Int.gcd k k':Nat):Int)).natAbs)) rfl rfl (bS _) (aV _)) .nil)))) (by decide) (fun _=>fW (((Int.gcd k k':Nat):Int))) rfl
theorem AD {a b:Zi}{k k':Int}(ha:Zn a k) (hb:Zn b k'):aE false Tryz.prog 109 [] [gF a,gF b] (aT (.tup [kF (if k'=0 then 0 else k.fdiv k'),kF (if k'=0 then 0 else k.fmod k'),.one (tv (.int .i64 (if k'=0 then 20 else 0)))])):=by
 refine bV Tryz.func109 rfl Tryz.ntmps109 rfl aF rfl fun N w c0 h0=>?_
 have hkl:=ha.len
 have hkl':=hb.len
 refine sq (rl (bx 0 ?_));refine bx 1 ?_;refine al 2 ?_;refine al 3 ?_;refine o1 ?_;refine nl (sq (rl (ld ?_)))
 refine ca (iX ha) nL ⟨aC rfl,rfl⟩ (kF (k)) ?_;refine st ?_;refine nl (sq (rl (ld ?_)));refine ca (iX hb) nL ⟨aC rfl,rfl⟩ (kF (k')) ?_;refine st ?_
 refine nl (sq (sq (rl (o1 ?_))));refine ld ?_;refine o1 ?_;refine o1 ?_;refine nl ?_;refine bF rfl (fun h1=>?_) (fun h1=>?_)
 ·refine sq (rl (o1 ?_));refine o1 ?_;refine st ?_;refine st ?_;refine o1 ?_;refine nl (rt ?_);have hk0:k'=0:=by have:=St (k:=k') (by omega);omega
  exact en (.inl rfl) rfl (Dz (.cons (.agg (.cons (.id rfl) (.cons .nilf .nil))) (.cons (.agg (.cons (.id rfl) (.cons .nilf .nil))) (.cons (cX _) .nil)))) (by decide) (fun h=>by cases h) (by rw[if_pos hk0,if_pos hk0,if_pos hk0,←Jk];rfl)
 refine sk (sq ?_);have hkn:k'≠0:=CT (by omega)
 have hva:0<vl 4294967296 (dg 4294967296 (k').natAbs):=by rw[cV (by omega)];omega
 refine cI [0,1,2,3] [11] ?_
 refine dv 0 ?_;refine aK 1 ?_;refine dv 3 ?_;refine aK 4 ?_
 have hn2:=fO (v:=vl 4294967296 (dg 4294967296 (k).natAbs)) (L:=(dg 4294967296 (k).natAbs).length) (by rw[cV (by omega)];exact bC _)
 refine aS 2 rfl (oN (by omega) (aU (by omega) _)) Bu ⟨a1 rfl,rfl⟩ (.one (.t (sI false (dg 65536 (vl 4294967296 (dg 4294967296 (k).natAbs)))))) ?_
 have hn3:=fO (v:=vl 4294967296 (dg 4294967296 (k').natAbs)) (L:=(dg 4294967296 (k').natAbs).length) (by rw[cV (by omega)];exact bC _)
 refine aS 5 rfl (oN (by omega) (aU (by omega) _)) Bu ⟨a1 rfl,rfl⟩ (.one (.t (sI false (dg 65536 (vl 4294967296 (dg 4294967296 (k').natAbs)))))) ?_
 have hn4:=dX (B:=65536) (by omega) (Nat.div_le_self (vl 4294967296 (dg 4294967296 (k).natAbs)) (vl 4294967296 (dg 4294967296 (k').natAbs)))
 have hn5:=dX (B:=65536) (by omega) (Nat.mod_le (vl 4294967296 (dg 4294967296 (k).natAbs)) (vl 4294967296 (dg 4294967296 (k').natAbs)))
 refine aS 6 rfl (Rx (by omega) (by omega) hva) KS ⟨a1 rfl,a1 rfl,rfl⟩ (.tup [.one (.t (sI false (dg 65536 ((vl 4294967296 (dg 4294967296 (k).natAbs))/(vl 4294967296 (dg 4294967296 (k').natAbs)))))),.one (.t (sI false (dg 65536 ((vl 4294967296 (dg 4294967296 (k).natAbs))%(vl 4294967296 (dg 4294967296 (k').natAbs))))))]) ?_
 refine df 7 ?_;refine df 8 ?_;refine df 9 ?_;refine dI 10 ?_
 refine dI 11 ?_
 refine aW ?_
 refine md (γ:=Unit) (fun _=>bP [(3,pN 0),(4,pN 1),(5,pN 2),(6,.one (tv (.int .i64 0))),(9,pN 3),(10,pN 4)]) (fun _=>([⟨50,0,[tv (.bool (aL (k'))),.t (sU false (dg 4294967296 (k').natAbs))]⟩,⟨50,0,[tv (.bool false),tv (.slice none 0 0)]⟩,⟨50,0,[tv (.bool false),tv (.slice none 0 0)]⟩,⟨50,0,[tv (.bool (aL (cG (aL k != aL k') (k.natAbs/k'.natAbs)))),.t (sU false (dg 4294967296 (cG (aL k != aL k') (k.natAbs/k'.natAbs)).natAbs))]⟩,⟨50,0,[tv (.bool (aL (cG (aL k) (k.natAbs%k'.natAbs)))),.t (sU false (dg 4294967296 (cG (aL k) (k.natAbs%k'.natAbs)).natAbs))]⟩]:List Ob).map some) (fun _=>True) ?_ fun _ _=>?_
 ·have hnq:=pK ((vl 4294967296 (dg 4294967296 (k).natAbs))/(vl 4294967296 (dg 4294967296 (k').natAbs)))
  have hLq:=yF (xs:=dg 65536 ((vl 4294967296 (dg 4294967296 (k).natAbs))/(vl 4294967296 (dg 4294967296 (k').natAbs)))) (zs:=dg 4294967296 ((vl 4294967296 (dg 4294967296 (k).natAbs))/(vl 4294967296 (dg 4294967296 (k').natAbs)))) (by omega) (aU (by omega) _) (Cb _)
  have hMq:=mS (b:=aL k != aL k') (xs:=dg 4294967296 ((vl 4294967296 (dg 4294967296 (k).natAbs))/(vl 4294967296 (dg 4294967296 (k').natAbs)))) (K:=cG (aL k != aL k') (k.natAbs/k'.natAbs)) (by omega) (aU (by omega) _) (by simp only[cV (B:=4294967296) (by omega)] <;> rfl)
  have hnr:=pK ((vl 4294967296 (dg 4294967296 (k).natAbs))%(vl 4294967296 (dg 4294967296 (k').natAbs)))
  have hLr:=yF (xs:=dg 65536 ((vl 4294967296 (dg 4294967296 (k).natAbs))%(vl 4294967296 (dg 4294967296 (k').natAbs)))) (zs:=dg 4294967296 ((vl 4294967296 (dg 4294967296 (k).natAbs))%(vl 4294967296 (dg 4294967296 (k').natAbs)))) (by omega) (aU (by omega) _) (Cb _)
  have hMr:=mS (b:=aL k) (xs:=dg 4294967296 ((vl 4294967296 (dg 4294967296 (k).natAbs))%(vl 4294967296 (dg 4294967296 (k').natAbs)))) (K:=cG (aL k) (k.natAbs%k'.natAbs)) (by omega) (aU (by omega) _) (by simp only[cV (B:=4294967296) (by omega)] <;> rfl)
  generalize dg 4294967296 ((vl 4294967296 (dg 4294967296 (k).natAbs))/(vl 4294967296 (dg 4294967296 (k').natAbs)))=zq at hLq hMq
  generalize dg 4294967296 ((vl 4294967296 (dg 4294967296 (k).natAbs))%(vl 4294967296 (dg 4294967296 (k').natAbs)))=zr at hLr hMr;refine cI [0,1,2,3] [16] ?_
  refine dv 0 ?_;refine aK 1 ?_;refine dv 2 ?_;refine aK 3 ?_;refine dv 4 ?_;refine dv 5 ?_;refine dv 8 ?_;refine aK 9 ?_;refine dv 10 ?_
  refine Ky 6 13 14 ?_ ?_ ?_
  ·refine fB 6 rfl (hLq) gD ⟨a1 rfl,rfl⟩ (.one (.t (sU false zq))) ?_;refine Ky 7 13 14 ?_ ?_ ?_
   ·refine fB 7 rfl (hMq) dL ⟨a1 rfl,a1 rfl,rfl⟩ (kF (cG (aL k != aL k') (k.natAbs/k'.natAbs))) ?_;refine Ky 11 13 14 ?_ ?_ ?_
    ·refine fB 11 rfl (hLr) gD ⟨a1 rfl,rfl⟩ (.one (.t (sU false zr))) ?_;refine Ky 12 13 14 ?_ ?_ ?_
     ·refine fB 12 rfl (hMr) dL ⟨a1 rfl,a1 rfl,rfl⟩ (kF (cG (aL k) (k.natAbs%k'.natAbs))) ?_;refine eR 13 14 ?_ ?_
      ·refine cQ 4 13 ?_;refine fZ 5 14 ?_
       refine dC 15 ?_
       refine dst 16 ?_;refine aW ?_
       exact⟨(),trivial,aP h0 [1,2,3,4,5] ⟨oe rfl rfl,oe rfl rfl,oe rfl rfl,oe rfl rfl,oe rfl rfl,rfl⟩⟩
      refine cQ 4 14 ?_;refine fZ 5 13 ?_
      refine dC 15 ?_
      refine dst 16 ?_;refine aW ?_
      exact⟨(),trivial,aP h0 [1,2,3,5,4] ⟨oe rfl rfl,oe rfl rfl,oe rfl rfl,oe rfl rfl,oe rfl rfl,rfl⟩⟩
     ·refine cQ 4 13 ?_;refine eR 12 14 ?_ ?_
      ·refine fB 12 rfl (hMr) dL ⟨a1 rfl,a1 rfl,rfl⟩ (kF (cG (aL k) (k.natAbs%k'.natAbs))) ?_
       refine fZ 5 14 ?_
       refine dC 15 ?_
       refine dst 16 ?_;refine aW ?_
       exact⟨(),trivial,aP h0 [1,2,3,4,5] ⟨oe rfl rfl,oe rfl rfl,oe rfl rfl,oe rfl rfl,oe rfl rfl,rfl⟩⟩
      refine cQ 5 14 ?_;refine aS 12 rfl (hMr) dL ⟨a1 rfl,a1 rfl,rfl⟩ (kF (cG (aL k) (k.natAbs%k'.natAbs))) ?_
      refine dC 15 ?_
      refine dst 16 ?_;refine aW ?_
      exact⟨(),trivial,aP h0 [1,2,3,4,5] ⟨oe rfl rfl,oe rfl rfl,oe rfl rfl,oe rfl rfl,oe rfl rfl,rfl⟩⟩
     refine cQ 4 14 ?_;refine eR 12 13 ?_ ?_
     ·refine fB 12 rfl (hMr) dL ⟨a1 rfl,a1 rfl,rfl⟩ (kF (cG (aL k) (k.natAbs%k'.natAbs))) ?_
      refine fZ 5 13 ?_
      refine dC 15 ?_
      refine dst 16 ?_;refine aW ?_
      exact⟨(),trivial,aP h0 [1,2,3,5,4] ⟨oe rfl rfl,oe rfl rfl,oe rfl rfl,oe rfl rfl,oe rfl rfl,rfl⟩⟩
     refine cQ 5 13 ?_;refine aS 12 rfl (hMr) dL ⟨a1 rfl,a1 rfl,rfl⟩ (kF (cG (aL k) (k.natAbs%k'.natAbs))) ?_
     refine dC 15 ?_
     refine dst 16 ?_;refine aW ?_
     exact⟨(),trivial,aP h0 [1,2,3,5,4] ⟨oe rfl rfl,oe rfl rfl,oe rfl rfl,oe rfl rfl,oe rfl rfl,rfl⟩⟩
    ·refine cQ 4 13 ?_;refine eR 11 14 ?_ ?_
     ·refine fB 11 rfl (hLr) gD ⟨a1 rfl,rfl⟩ (.one (.t (sU false zr))) ?_;refine eR 12 14 ?_ ?_
      ·refine fB 12 rfl (hMr) dL ⟨a1 rfl,a1 rfl,rfl⟩ (kF (cG (aL k) (k.natAbs%k'.natAbs))) ?_
       refine fZ 5 14 ?_
       refine dC 15 ?_
       refine dst 16 ?_;refine aW ?_
       exact⟨(),trivial,aP h0 [1,2,3,4,5] ⟨oe rfl rfl,oe rfl rfl,oe rfl rfl,oe rfl rfl,oe rfl rfl,rfl⟩⟩
      refine cQ 5 14 ?_;refine aS 12 rfl (hMr) dL ⟨a1 rfl,a1 rfl,rfl⟩ (kF (cG (aL k) (k.natAbs%k'.natAbs))) ?_
      refine dC 15 ?_
      refine dst 16 ?_;refine aW ?_
      exact⟨(),trivial,aP h0 [1,2,3,4,5] ⟨oe rfl rfl,oe rfl rfl,oe rfl rfl,oe rfl rfl,oe rfl rfl,rfl⟩⟩
     refine cQ 5 14 ?_;refine aS 11 rfl (hLr) gD ⟨a1 rfl,rfl⟩ (.one (.t (sU false zr))) ?_
     refine aS 12 rfl (hMr) dL ⟨a1 rfl,a1 rfl,rfl⟩ (kF (cG (aL k) (k.natAbs%k'.natAbs))) ?_
     refine dC 15 ?_
     refine dst 16 ?_;refine aW ?_
     exact⟨(),trivial,aP h0 [1,2,3,4,5] ⟨oe rfl rfl,oe rfl rfl,oe rfl rfl,oe rfl rfl,oe rfl rfl,rfl⟩⟩
    refine cQ 4 14 ?_;refine eR 11 13 ?_ ?_
    ·refine fB 11 rfl (hLr) gD ⟨a1 rfl,rfl⟩ (.one (.t (sU false zr))) ?_;refine eR 12 13 ?_ ?_
     ·refine fB 12 rfl (hMr) dL ⟨a1 rfl,a1 rfl,rfl⟩ (kF (cG (aL k) (k.natAbs%k'.natAbs))) ?_
      refine fZ 5 13 ?_
      refine dC 15 ?_
      refine dst 16 ?_;refine aW ?_
      exact⟨(),trivial,aP h0 [1,2,3,5,4] ⟨oe rfl rfl,oe rfl rfl,oe rfl rfl,oe rfl rfl,oe rfl rfl,rfl⟩⟩
     refine cQ 5 13 ?_;refine aS 12 rfl (hMr) dL ⟨a1 rfl,a1 rfl,rfl⟩ (kF (cG (aL k) (k.natAbs%k'.natAbs))) ?_
     refine dC 15 ?_
     refine dst 16 ?_;refine aW ?_
     exact⟨(),trivial,aP h0 [1,2,3,5,4] ⟨oe rfl rfl,oe rfl rfl,oe rfl rfl,oe rfl rfl,oe rfl rfl,rfl⟩⟩
    refine cQ 5 13 ?_;refine aS 11 rfl (hLr) gD ⟨a1 rfl,rfl⟩ (.one (.t (sU false zr))) ?_
    refine aS 12 rfl (hMr) dL ⟨a1 rfl,a1 rfl,rfl⟩ (kF (cG (aL k) (k.natAbs%k'.natAbs))) ?_
    refine dC 15 ?_
    refine dst 16 ?_;refine aW ?_
    exact⟨(),trivial,aP h0 [1,2,3,5,4] ⟨oe rfl rfl,oe rfl rfl,oe rfl rfl,oe rfl rfl,oe rfl rfl,rfl⟩⟩
   ·refine cQ 4 13 ?_;refine eR 7 14 ?_ ?_
    ·refine fB 7 rfl (hMq) dL ⟨a1 rfl,a1 rfl,rfl⟩ (kF (cG (aL k != aL k') (k.natAbs/k'.natAbs))) ?_;refine eR 11 14 ?_ ?_
     ·refine fB 11 rfl (hLr) gD ⟨a1 rfl,rfl⟩ (.one (.t (sU false zr))) ?_;refine eR 12 14 ?_ ?_
      ·refine fB 12 rfl (hMr) dL ⟨a1 rfl,a1 rfl,rfl⟩ (kF (cG (aL k) (k.natAbs%k'.natAbs))) ?_
       refine fZ 5 14 ?_
       refine dC 15 ?_
       refine dst 16 ?_;refine aW ?_
       exact⟨(),trivial,aP h0 [1,2,3,4,5] ⟨oe rfl rfl,oe rfl rfl,oe rfl rfl,oe rfl rfl,oe rfl rfl,rfl⟩⟩
      refine cQ 5 14 ?_;refine aS 12 rfl (hMr) dL ⟨a1 rfl,a1 rfl,rfl⟩ (kF (cG (aL k) (k.natAbs%k'.natAbs))) ?_
      refine dC 15 ?_
      refine dst 16 ?_;refine aW ?_
      exact⟨(),trivial,aP h0 [1,2,3,4,5] ⟨oe rfl rfl,oe rfl rfl,oe rfl rfl,oe rfl rfl,oe rfl rfl,rfl⟩⟩
     refine cQ 5 14 ?_;refine aS 11 rfl (hLr) gD ⟨a1 rfl,rfl⟩ (.one (.t (sU false zr))) ?_
     refine aS 12 rfl (hMr) dL ⟨a1 rfl,a1 rfl,rfl⟩ (kF (cG (aL k) (k.natAbs%k'.natAbs))) ?_
     refine dC 15 ?_
     refine dst 16 ?_;refine aW ?_
     exact⟨(),trivial,aP h0 [1,2,3,4,5] ⟨oe rfl rfl,oe rfl rfl,oe rfl rfl,oe rfl rfl,oe rfl rfl,rfl⟩⟩
    refine cQ 5 14 ?_;refine aS 7 rfl (hMq) dL ⟨a1 rfl,a1 rfl,rfl⟩ (kF (cG (aL k != aL k') (k.natAbs/k'.natAbs))) ?_
    refine aS 11 rfl (hLr) gD ⟨a1 rfl,rfl⟩ (.one (.t (sU false zr))) ?_;refine aS 12 rfl (hMr) dL ⟨a1 rfl,a1 rfl,rfl⟩ (kF (cG (aL k) (k.natAbs%k'.natAbs))) ?_
    refine dC 15 ?_
    refine dst 16 ?_;refine aW ?_
    exact⟨(),trivial,aP h0 [1,2,3,4,5] ⟨oe rfl rfl,oe rfl rfl,oe rfl rfl,oe rfl rfl,oe rfl rfl,rfl⟩⟩
   refine cQ 4 14 ?_;refine eR 7 13 ?_ ?_
   ·refine fB 7 rfl (hMq) dL ⟨a1 rfl,a1 rfl,rfl⟩ (kF (cG (aL k != aL k') (k.natAbs/k'.natAbs))) ?_;refine eR 11 13 ?_ ?_
    ·refine fB 11 rfl (hLr) gD ⟨a1 rfl,rfl⟩ (.one (.t (sU false zr))) ?_;refine eR 12 13 ?_ ?_
     ·refine fB 12 rfl (hMr) dL ⟨a1 rfl,a1 rfl,rfl⟩ (kF (cG (aL k) (k.natAbs%k'.natAbs))) ?_
      refine fZ 5 13 ?_
      refine dC 15 ?_
      refine dst 16 ?_;refine aW ?_
      exact⟨(),trivial,aP h0 [1,2,3,5,4] ⟨oe rfl rfl,oe rfl rfl,oe rfl rfl,oe rfl rfl,oe rfl rfl,rfl⟩⟩
     refine cQ 5 13 ?_;refine aS 12 rfl (hMr) dL ⟨a1 rfl,a1 rfl,rfl⟩ (kF (cG (aL k) (k.natAbs%k'.natAbs))) ?_
     refine dC 15 ?_
     refine dst 16 ?_;refine aW ?_
     exact⟨(),trivial,aP h0 [1,2,3,5,4] ⟨oe rfl rfl,oe rfl rfl,oe rfl rfl,oe rfl rfl,oe rfl rfl,rfl⟩⟩
    refine cQ 5 13 ?_;refine aS 11 rfl (hLr) gD ⟨a1 rfl,rfl⟩ (.one (.t (sU false zr))) ?_
    refine aS 12 rfl (hMr) dL ⟨a1 rfl,a1 rfl,rfl⟩ (kF (cG (aL k) (k.natAbs%k'.natAbs))) ?_
    refine dC 15 ?_
    refine dst 16 ?_;refine aW ?_
    exact⟨(),trivial,aP h0 [1,2,3,5,4] ⟨oe rfl rfl,oe rfl rfl,oe rfl rfl,oe rfl rfl,oe rfl rfl,rfl⟩⟩
   refine cQ 5 13 ?_;refine aS 7 rfl (hMq) dL ⟨a1 rfl,a1 rfl,rfl⟩ (kF (cG (aL k != aL k') (k.natAbs/k'.natAbs))) ?_
   refine aS 11 rfl (hLr) gD ⟨a1 rfl,rfl⟩ (.one (.t (sU false zr))) ?_;refine aS 12 rfl (hMr) dL ⟨a1 rfl,a1 rfl,rfl⟩ (kF (cG (aL k) (k.natAbs%k'.natAbs))) ?_
   refine dC 15 ?_
   refine dst 16 ?_;refine aW ?_
   exact⟨(),trivial,aP h0 [1,2,3,5,4] ⟨oe rfl rfl,oe rfl rfl,oe rfl rfl,oe rfl rfl,oe rfl rfl,rfl⟩⟩
  ·refine cQ 4 13 ?_;refine eR 6 14 ?_ ?_
   ·refine fB 6 rfl (hLq) gD ⟨a1 rfl,rfl⟩ (.one (.t (sU false zq))) ?_;refine eR 7 14 ?_ ?_
    ·refine fB 7 rfl (hMq) dL ⟨a1 rfl,a1 rfl,rfl⟩ (kF (cG (aL k != aL k') (k.natAbs/k'.natAbs))) ?_;refine eR 11 14 ?_ ?_
     ·refine fB 11 rfl (hLr) gD ⟨a1 rfl,rfl⟩ (.one (.t (sU false zr))) ?_;refine eR 12 14 ?_ ?_
      ·refine fB 12 rfl (hMr) dL ⟨a1 rfl,a1 rfl,rfl⟩ (kF (cG (aL k) (k.natAbs%k'.natAbs))) ?_
       refine fZ 5 14 ?_
       refine dC 15 ?_
       refine dst 16 ?_;refine aW ?_
       exact⟨(),trivial,aP h0 [1,2,3,4,5] ⟨oe rfl rfl,oe rfl rfl,oe rfl rfl,oe rfl rfl,oe rfl rfl,rfl⟩⟩
      refine cQ 5 14 ?_;refine aS 12 rfl (hMr) dL ⟨a1 rfl,a1 rfl,rfl⟩ (kF (cG (aL k) (k.natAbs%k'.natAbs))) ?_
      refine dC 15 ?_
      refine dst 16 ?_;refine aW ?_
      exact⟨(),trivial,aP h0 [1,2,3,4,5] ⟨oe rfl rfl,oe rfl rfl,oe rfl rfl,oe rfl rfl,oe rfl rfl,rfl⟩⟩
     refine cQ 5 14 ?_;refine aS 11 rfl (hLr) gD ⟨a1 rfl,rfl⟩ (.one (.t (sU false zr))) ?_
     refine aS 12 rfl (hMr) dL ⟨a1 rfl,a1 rfl,rfl⟩ (kF (cG (aL k) (k.natAbs%k'.natAbs))) ?_
     refine dC 15 ?_
     refine dst 16 ?_;refine aW ?_
     exact⟨(),trivial,aP h0 [1,2,3,4,5] ⟨oe rfl rfl,oe rfl rfl,oe rfl rfl,oe rfl rfl,oe rfl rfl,rfl⟩⟩
    refine cQ 5 14 ?_;refine aS 7 rfl (hMq) dL ⟨a1 rfl,a1 rfl,rfl⟩ (kF (cG (aL k != aL k') (k.natAbs/k'.natAbs))) ?_
    refine aS 11 rfl (hLr) gD ⟨a1 rfl,rfl⟩ (.one (.t (sU false zr))) ?_;refine aS 12 rfl (hMr) dL ⟨a1 rfl,a1 rfl,rfl⟩ (kF (cG (aL k) (k.natAbs%k'.natAbs))) ?_
    refine dC 15 ?_
    refine dst 16 ?_;refine aW ?_
    exact⟨(),trivial,aP h0 [1,2,3,4,5] ⟨oe rfl rfl,oe rfl rfl,oe rfl rfl,oe rfl rfl,oe rfl rfl,rfl⟩⟩
   refine cQ 5 14 ?_;refine aS 6 rfl (hLq) gD ⟨a1 rfl,rfl⟩ (.one (.t (sU false zq))) ?_
   refine aS 7 rfl (hMq) dL ⟨a1 rfl,a1 rfl,rfl⟩ (kF (cG (aL k != aL k') (k.natAbs/k'.natAbs))) ?_;refine aS 11 rfl (hLr) gD ⟨a1 rfl,rfl⟩ (.one (.t (sU false zr))) ?_
   refine aS 12 rfl (hMr) dL ⟨a1 rfl,a1 rfl,rfl⟩ (kF (cG (aL k) (k.natAbs%k'.natAbs))) ?_;refine dC 15 ?_
   refine dst 16 ?_;refine aW ?_
   exact⟨(),trivial,aP h0 [1,2,3,4,5] ⟨oe rfl rfl,oe rfl rfl,oe rfl rfl,oe rfl rfl,oe rfl rfl,rfl⟩⟩
  refine cQ 4 14 ?_;refine eR 6 13 ?_ ?_
  ·refine fB 6 rfl (hLq) gD ⟨a1 rfl,rfl⟩ (.one (.t (sU false zq))) ?_;refine eR 7 13 ?_ ?_
   ·refine fB 7 rfl (hMq) dL ⟨a1 rfl,a1 rfl,rfl⟩ (kF (cG (aL k != aL k') (k.natAbs/k'.natAbs))) ?_;refine eR 11 13 ?_ ?_
    ·refine fB 11 rfl (hLr) gD ⟨a1 rfl,rfl⟩ (.one (.t (sU false zr))) ?_;refine eR 12 13 ?_ ?_
     ·refine fB 12 rfl (hMr) dL ⟨a1 rfl,a1 rfl,rfl⟩ (kF (cG (aL k) (k.natAbs%k'.natAbs))) ?_
      refine fZ 5 13 ?_
      refine dC 15 ?_
      refine dst 16 ?_;refine aW ?_
      exact⟨(),trivial,aP h0 [1,2,3,5,4] ⟨oe rfl rfl,oe rfl rfl,oe rfl rfl,oe rfl rfl,oe rfl rfl,rfl⟩⟩
     refine cQ 5 13 ?_;refine aS 12 rfl (hMr) dL ⟨a1 rfl,a1 rfl,rfl⟩ (kF (cG (aL k) (k.natAbs%k'.natAbs))) ?_
     refine dC 15 ?_
     refine dst 16 ?_;refine aW ?_
     exact⟨(),trivial,aP h0 [1,2,3,5,4] ⟨oe rfl rfl,oe rfl rfl,oe rfl rfl,oe rfl rfl,oe rfl rfl,rfl⟩⟩
    refine cQ 5 13 ?_;refine aS 11 rfl (hLr) gD ⟨a1 rfl,rfl⟩ (.one (.t (sU false zr))) ?_
    refine aS 12 rfl (hMr) dL ⟨a1 rfl,a1 rfl,rfl⟩ (kF (cG (aL k) (k.natAbs%k'.natAbs))) ?_
    refine dC 15 ?_
    refine dst 16 ?_;refine aW ?_
    exact⟨(),trivial,aP h0 [1,2,3,5,4] ⟨oe rfl rfl,oe rfl rfl,oe rfl rfl,oe rfl rfl,oe rfl rfl,rfl⟩⟩
   refine cQ 5 13 ?_;refine aS 7 rfl (hMq) dL ⟨a1 rfl,a1 rfl,rfl⟩ (kF (cG (aL k != aL k') (k.natAbs/k'.natAbs))) ?_
   refine aS 11 rfl (hLr) gD ⟨a1 rfl,rfl⟩ (.one (.t (sU false zr))) ?_;refine aS 12 rfl (hMr) dL ⟨a1 rfl,a1 rfl,rfl⟩ (kF (cG (aL k) (k.natAbs%k'.natAbs))) ?_
   refine dC 15 ?_
   refine dst 16 ?_;refine aW ?_
   exact⟨(),trivial,aP h0 [1,2,3,5,4] ⟨oe rfl rfl,oe rfl rfl,oe rfl rfl,oe rfl rfl,oe rfl rfl,rfl⟩⟩
  refine cQ 5 13 ?_;refine aS 6 rfl (hLq) gD ⟨a1 rfl,rfl⟩ (.one (.t (sU false zq))) ?_
  refine aS 7 rfl (hMq) dL ⟨a1 rfl,a1 rfl,rfl⟩ (kF (cG (aL k != aL k') (k.natAbs/k'.natAbs))) ?_;refine aS 11 rfl (hLr) gD ⟨a1 rfl,rfl⟩ (.one (.t (sU false zr))) ?_
  refine aS 12 rfl (hMr) dL ⟨a1 rfl,a1 rfl,rfl⟩ (kF (cG (aL k) (k.natAbs%k'.natAbs))) ?_;refine dC 15 ?_
  refine dst 16 ?_;refine aW ?_
  exact⟨(),trivial,aP h0 [1,2,3,5,4] ⟨oe rfl rfl,oe rfl rfl,oe rfl rfl,oe rfl rfl,oe rfl rfl,rfl⟩⟩
 have hlq:(dg 4294967296 (cG (aL k != aL k') (k.natAbs/k'.natAbs)).natAbs).length≤(dg 4294967296 (k).natAbs).length:=by rw[kT];exact kG (Nat.div_le_self _ _)
 have hlr:(dg 4294967296 (cG (aL k) (k.natAbs%k'.natAbs)).natAbs).length≤(dg 4294967296 (k).natAbs).length:=by rw[kT];exact kG (Nat.mod_le _ _)
 refine sq (sq ?_);refine cI [0,1,2,3,4] [] ?_
 refine aK 0 ?_;refine aS 1 rfl (pX (Zn.of (k:=cG (aL k) (k.natAbs%k'.natAbs)) (by omega))) Do ⟨aC rfl,rfl⟩ (.one (tv (.int .i64 (cG (aL k) (k.natAbs%k'.natAbs)).sign))) ?_
 refine df 2 ?_;refine df 3 ?_;refine WD.split (t:=47) rfl rfl (fun h6=>?_) (fun h6=>?_)
 ·refine aK 4 ?_;refine aK 6 ?_
  refine aS 5 rfl (pX (Zn.of (k:=cG (aL k) (k.natAbs%k'.natAbs)) (by omega))) Do ⟨aC rfl,rfl⟩ (.one (tv (.int .i64 (cG (aL k) (k.natAbs%k'.natAbs)).sign))) ?_
  refine aS 7 rfl (pX (Zn.of (k:=k') (by omega))) Do ⟨aC rfl,rfl⟩ (.one (tv (.int .i64 (k').sign))) ?_
  refine df 8 ?_;refine df 9 ?_;refine aW ?_;refine bF rfl (fun h7=>?_) (fun h7=>?_)
  ·refine sq ?_;refine cI [0,1,2,3,4] [2,3] ?_
   refine aK 0 ?_;have hol:(dg 4294967296 (1:Int).natAbs).length≤1:=dR (by omega) (by decide)
   refine aS 1 rfl (Az (n:=1) (by omega) (by omega)) Hf ⟨a1 rfl,rfl⟩ (kF (1:Int)) ?_
   refine aS 2 rfl (VN (Zn.of (k:=cG (aL k != aL k') (k.natAbs/k'.natAbs)) (by omega)) (Zn.of (k:=(1:Int)) (by omega))) YD ⟨aC rfl,aC rfl,rfl⟩ (kF (cG (aL k != aL k') (k.natAbs/k'.natAbs)-(1:Int))) ?_
   refine dst 3 ?_;refine aW ?_;refine rl (ld ?_);refine ld ?_
   refine ca (vM (Zn.of (k:=cG (aL k) (k.natAbs%k'.natAbs)) (by omega)) (Zn.of (k:=k') (by omega))) Hi ⟨aC rfl,aC rfl,rfl⟩ (kF (cG (aL k) (k.natAbs%k'.natAbs)+k')) ?_
   refine st ?_;refine nl (sq ?_);refine cI [0,2,3,4] [3,4] ?_
   refine aK 0 ?_;refine aK 1 ?_;refine dC 2 ?_
   refine dst 3 ?_;refine dI 4 ?_
   refine aW ?_;refine rt ?_;obtain⟨hd1,hd2⟩:=OU (a:=k) (b:=k') hkn rfl rfl h6 h7
   exact en (.inl rfl) rfl (Dz (.cons (.agg (.cons (.id rfl) (.cons (.id rfl) .nil))) (.cons (.agg (.cons (.id rfl) (.cons (.id rfl) .nil))) (.cons (cX _) .nil)))) (by decide) (fun h=>by cases h) (by rw[if_neg hkn,if_neg hkn,if_neg hkn,←hd1,←hd2];rfl)
  refine sk (sq ?_);refine cI [0,2,3,4] [3,4] ?_
  refine aK 0 ?_;refine aK 1 ?_;refine dC 2 ?_
  refine dst 3 ?_;refine dI 4 ?_
  refine aW ?_;refine rt ?_;obtain⟨hd1,hd2⟩:=Vy (a:=k) (b:=k') hkn rfl rfl (.inr (Decidable.byContradiction h7))
  exact en (.inl rfl) rfl (Dz (.cons (.agg (.cons (.id rfl) (.cons (.id rfl) .nil))) (.cons (.agg (.cons (.id rfl) (.cons (.id rfl) .nil))) (.cons (cX _) .nil)))) (by decide) (fun h=>by cases h) (by rw[if_neg hkn,if_neg hkn,if_neg hkn,←hd1,←hd2];rfl)
 refine aZ 4 ?_;refine aZ 6 ?_;refine aZ 5 ?_;refine aZ 7 ?_;refine aZ 8 ?_;refine df 9 ?_;refine aW ?_;refine dW rfl (sk (sq ?_))
 refine cI [0,2,3,4] [3,4] ?_
 refine aK 0 ?_;refine aK 1 ?_;refine dC 2 ?_
 refine dst 3 ?_;refine dI 4 ?_
 refine aW ?_;refine rt ?_;obtain⟨hd1,hd2⟩:=Vy (a:=k) (b:=k') hkn rfl rfl (.inl (Decidable.byContradiction h6))
 exact en (.inl rfl) rfl (Dz (.cons (.agg (.cons (.id rfl) (.cons (.id rfl) .nil))) (.cons (.agg (.cons (.id rfl) (.cons (.id rfl) .nil))) (.cons (cX _) .nil)))) (by decide) (fun h=>by cases h) (by rw[if_neg hkn,if_neg hkn,if_neg hkn,←hd1,←hd2];rfl)
section
variable {x:Cx}{g:Nat→FV}{ob:List (Option Ob)}{ws:List Zi}{z:Zi}{i j k1 e key:Nat}{y a b:AV}
end
section
variable {x:Cx}{g:Nat→FV}{ob:List (Option Ob)}
theorem Ox {i k t z n:Nat}{l:List Tr}{fv fv':FV}(t':Nat) (hi:Nat.blt i x.n=true) (hg:g i=fv) (ho:cT ob k=some ⟨t,z,l.map .t⟩) (hz:l.length=n*z) (hf:FzF (.sl k 0 n) (.s false t' z n l) fv fv'):Sub x g ob (bH g i fv') (ob.set k none):=Bd hi hg ho hf (Fa t' ho hz)
end
section
variable {l:List Rat}{f:Rat→Rat}{k:Nat}
end
section
variable {l:List Rat}{k:Nat}{f:Int→Int}{z:List Int}
end
section
variable {x:Cx}{g:Nat→FV}{ob:List (Option Ob)}
end
section
variable {l:List Rat}{k i t:Nat}
def nM (l:List Bool) (k:Nat):Bool:=l.getD k false
end
def bT (xs:List Bool):List Tr:=xs.map fun b=>.v (.bool b)
theorem Nu (xs:List Bool):(bT xs).length=xs.length:=by simp[bT]
section
variable {x:Cx}{g:Nat→FV}{ob ob':List (Option Ob)}{Q:Post}{ops:Array Oper}{rest:List Oper}{d:Nat}{ty:TypeId}{pos:String}{af:Array Edge}{gd:Option (Nat×Bool)}{T:List (Nat×TI)}
end
structure Vn where
 y:Int
 e:Int
 l:Rat
 u:Rat
 x:Rat
 c:Rat
def YT:Vn:=⟨0,0,0,0,0,0⟩
def cA (o:Bool) (v:Vn):List Tr:=.v (.int .i64 v.y)::.v (.int .i64 v.e)::((Fr4.of v.l).tr o++((Fr4.of v.u).tr false++((Fr4.of v.x).tr false++(Fr4.of v.c).tr false)))
theorem cK (o:Bool) (v:Vn):(cA o v).length=18:=rfl
def aY (l:List Vn) (i:Nat):Vn:=l.getD i YT
def cO (o o':Bool) (l:List Vn):Tr:=.s o 64 18 l.length (l.flatMap (cA o'))
def dK (o:Bool) (u:Ur):List Tr:=.v (.int .i64 u.v)::.v (.int .i64 u.e)::.v (.int .i64 u.y)::(Fr4.of u.n).tr o
theorem dA (o:Bool) (u:Ur):(dK o u).length=7:=rfl
def YU:Ur:=⟨0,0,0,0⟩
def bN (l:List Ur) (i:Nat):Ur:=l.getD i YU
def cF (o o':Bool) (l:List Ur):Tr:=.s o 58 7 l.length (l.flatMap (dK o'))
structure Rl where
 u:Rat
 b:List Rat
def YV:Rl:=⟨0,[]⟩
def rlt (r:Rl):List Tr:=(Fr4.of r.u).tr false++[sQ false (r.b.map Fr4.of)]
theorem eO (r:Rl):(rlt r).length=5:=rfl
def fN (l:List Rl) (i:Nat):Rl:=l.getD i YV
def cR (o:Bool) (l:List Rl):Tr:=.s o 62 5 l.length (l.flatMap rlt)
structure Yr where
 m:List Bool
 b:List Fr4
 l:Fr4
def JL:Yr:=⟨[],[],nilF⟩
def gH (xs:List Bool):Tr:=.s false 4 1 xs.length (bT xs)
def yrt (y:Yr):List Tr:=gH y.m::sQ false y.b::y.l.tr false
theorem cL (y:Yr):(yrt y).length=6:=rfl
def aG (l:List Yr) (i:Nat):Yr:=l.getD i JL
def gT (l:List Yr):Tr:=.s false 67 6 l.length (l.flatMap yrt)
section
variable {i k:Nat}
theorem hH {l:List Vn}(h:i<l.length):l[i]? =some (aY l i):=by simp[aY,h]
theorem tS {l:List Vn}(h:i<l.length):aY l i∈l:=nO h
theorem dG {l:List Ur}(h:i<l.length):l[i]? =some (bN l i):=by simp[bN,h]
theorem eA {l:List Ur}(h:i<l.length):bN l i∈l:=nO h
theorem fV {l:List Rl}(h:i<l.length):l[i]? =some (fN l i):=by simp[fN,h]
theorem bR {l:List Yr}(h:i<l.length):l[i]? =some (aG l i):=by simp[aG,h]
theorem fP {l:List Yr}(h:i<l.length):aG l i∈l:=nO h
end
def qt (q:Rat):List Tr:=(Fr4.of q).tr false
theorem mF (q:Rat):(qt q).length=4:=rfl
def fI (l:List Rat) (i:Nat):Rat:=l.getD i 0
theorem tY {l:List Rat}{i:Nat}(h:i<l.length):l[i]? =some (fI l i):=by simp[fI,h]
theorem mE {l:List Rat}{i:Nat}(h:i<l.length):cM (l.map Fr4.of) i=Fr4.of (fI l i):=by simp[cM,fI,h]
def eU (x:List (Int×Rat)×Int×Bool):Tr:=.p true 137 [sR 102 x.1,.v (.int .i64 x.2.1),.v (.bool x.2.2)]
def dU (l:List (List (Int×Rat)×Int×Bool)) (i:Nat):List (Int×Rat)×Int×Bool:=l.getD i ([],0,false)
theorem Jy {l:List (List (Int×Rat)×Int×Bool)}{i:Nat}(h:i<l.length):l[i]? =some (dU l i):=by simp[dU,h]
section
variable {α β:Type}{f:α→β}{p:β→Bool}{L:List α}{x:α}
theorem PM (hx:x∈L) (h:∀z∈L,p (f z)=true↔z=x):dH p (L.map f)<L.length∧L[dH p (L.map f)]? =some x:=by
 induction L with
 | nil=>cases hx
 | cons z L ih=>
  rw[List.map_cons]
  unfold dH
  by_cases hz:z=x
  ·subst hz
   rw[if_pos ((h z (List.mem_cons_self ..)).2 rfl)]
   simp
  rw[if_neg (fun h9=>hz ((h z (List.mem_cons_self ..)).1 h9))]
  have hx2:x∈L:=by
   rcases List.mem_cons.1 hx with h9 | h9
   ·exact absurd h9.symm hz
   exact h9
  obtain⟨h1,h2⟩:=ih hx2 fun w hw=>h w (List.mem_cons_of_mem _ hw)
  exact⟨by rw[List.length_cons];omega,by rw[List.getElem?_cons_succ];exact h2⟩
theorem Cy {g:α→β}{i:Nat}(hn:L.Nodup) (hi:L[i]? =some x) (h:∀z∈L,z≠x→f z=g z):(L.map f).set i (g x)=L.map g:=by
 induction L generalizing i with
 | nil=>simp at hi
 | cons z L ih=>
  obtain⟨hz,hn⟩:=List.nodup_cons.1 hn
  cases i with
  | zero=>
   simp at hi
   subst hi
   rw[List.map_cons,List.set_cons_zero,List.map_cons]
   congr 1
   refine List.map_congr_left fun w hw=>h w (List.mem_cons_of_mem _ hw) fun e=>hz (e▸hw)
  | succ i=>
   rw[List.getElem?_cons_succ]at hi
   rw[List.map_cons,List.set_cons_succ,ih hn hi fun w hw=>h w (List.mem_cons_of_mem _ hw),List.map_cons,h z (List.mem_cons_self ..) fun e=>hz (e▸List.mem_of_getElem? hi)]
end
def Rg.vn (R:Rg) (U:List Ur) (x c:Nat→Nat→Rat) (p:Nat×Nat):Vn:=⟨p.1,p.2,R.los p.1 p.2,cU U p.1 p.2,x p.1 p.2,c p.1 p.2⟩
def Rg.vns (R:Rg) (U:List Ur) (x c:Nat→Nat→Rat) (L:List (Nat×Nat)):List Vn:=L.map (R.vn U x c)
def Rg.rl (R:Rg) (U:List Ur) (y:Nat):Rl:=⟨dZ U y,(List.range R.E).map fun(e:Nat)=>dT U y e⟩
def Rg.rls (R:Rg) (U:List Ur) (k:Nat):List Rl:=(List.range k).map (R.rl U)
def cW (y e:Int) (v:Vn):Bool:=decide (v.y=y)&&decide (v.e=e)
section
variable {R:Rg}{U U':List Ur}{x x' c c':Nat→Nat→Rat}{L:List (Nat×Nat)}{p:Nat×Nat}{k y e t:Nat}{m:Rat}
theorem dQ:(R.vns U x c L).length=L.length:=dB ..
theorem zH (hp:p∈L):dH (cW p.1 p.2) (R.vns U x c L)<L.length∧L[dH (cW p.1 p.2) (R.vns U x c L)]? =some p:=by
 refine PM hp fun z _=>?_
 unfold cW Rg.vn
 simp only[Bool.and_eq_true,decide_eq_true_eq]
 constructor
 ·rintro⟨h1,h2⟩
  exact Prod.ext (by omega) (by omega)
 rintro rfl
 exact⟨rfl,rfl⟩
theorem Ia (hn:L.Nodup) (hp:p∈L) (h:∀q∈L,q≠p→R.vn U x c q=R.vn U' x' c' q):(R.vns U x c L).set (dH (cW p.1 p.2) (R.vns U x c L)) (R.vn U' x' c' p)=R.vns U' x' c' L:=Cy hn (zH hp).2 h
theorem An (hp:p∈L):(R.vns U x c L)[dH (cW p.1 p.2) (R.vns U x c L)]? =some (R.vn U x c p):=by
 have h:(L.map (R.vn U x c))[dH (cW p.1 p.2) (R.vns U x c L)]? =some (R.vn U x c p):=by rw[List.getElem?_map,(zH hp).2];rfl
 exact h
theorem zE {y e y' e':Int}(h:¬(y=y'∧e=e')):cU (Rg.us U y e t m) y' e'=cU U y' e':=by
 unfold Rg.us
 split
 ·rw[Cf,if_neg h]
 rfl
theorem AN {y e:Int}(h:0<m):cU (Rg.us U y e t m) y e=cU U y e+m:=by rw[kP h,Cf,if_pos ⟨rfl,rfl⟩]
theorem LY (hn:L.Nodup) (hp:p∈L) (hm:0<m):(R.vns U x c L).set (dH (cW p.1 p.2) (R.vns U x c L)) ⟨p.1,p.2,R.los p.1 p.2,cU U p.1 p.2+m,x p.1 p.2,c p.1 p.2⟩=R.vns (Rg.us U p.1 p.2 t m) x c L:=by
 have:=Ia (R:=R) (U:=U) (U':=Rg.us U p.1 p.2 t m) (x:=x) (x':=x) (c:=c) (c':=c) hn hp fun q _ hq=>by
  unfold Rg.vn
  rw[zE fun h9=>hq (Prod.ext (by omega) (by omega))]
 rw[←this]
 unfold Rg.vn
 rw[AN hm]
theorem lN:(R.rls U k).length=k:=by simp[Rg.rls]
theorem YW (h:y≠t){v e:Int}:R.rl (Rg.us U v e t m) y=R.rl U y:=by
 unfold Rg.us
 split
 ·unfold Rg.rl
  rw[Gu,if_neg (by omega)]
  congr 1
  refine List.map_congr_left fun e' _=>?_
  rw[sB,if_neg (by omega)]
 rfl
theorem RT (h:k≤t){v e:Int}:R.rls (Rg.us U v e t m) k=R.rls U k:=List.map_congr_left fun y hy=>YW (by have:=List.mem_range.1 hy;omega)
end
end Go.Proofs.YtbbabfkgdnkehaaGreat
