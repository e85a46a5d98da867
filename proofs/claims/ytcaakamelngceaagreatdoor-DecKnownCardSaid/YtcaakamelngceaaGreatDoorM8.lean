/- Part 8 of a proof: A2 to A3. -/
import Derived.Test.YtcaakamelngceaaGreatDoorM7
set_option maxRecDepth 100000
set_option linter.unusedVariables false
set_option linter.unusedSimpArgs false
namespace Go.Proofs.YtcaakamelngceaaGreatDoor
open Go Go.RowKit
theorem We {xs:List Nat}(hx:xs.length≤4398046511104):aE false Tryz.prog 172 [] [.one (.t (sI false xs))] (aM (.one (.t (sI false (trim xs))))):=by
 refine bD Tryz.func172 rfl Tryz.ntmps172 rfl aA rfl fun N w c0 h0=>?_
 refine sq ?_;refine rl ?_;refine o1 ?_;refine nl ?_;refine sq ?_;refine bl ?_
 refine lp (γ:=List Nat) (fun zs=>cD [(0,.one (.t (sI false zs)))]) (fun _=>([]:List Ob).map some) (fun zs=>trim zs=trim xs∧zs.length≤xs.length) (fun zs=>zs.length) xs ⟨rfl,Nat.le_refl _⟩ (aO h0 [] _ _ (by decide) ⟨rfl,trivial⟩ rfl) fun zs hz=>?_
 refine sq ?_;refine sq ?_;refine rl ?_;(iterate 4 refine o1 ?_);refine WL.split (t:=6) rfl (fun h1=>?_) (fun h1=>?_)
 ·(iterate 4 refine o1 ?_);refine WL.cast (t:=10) (u':=.int .i64 ((zs.length-1:Nat):Int)) rfl (aH (by omega)) ?_
  refine o1 ?_;refine kD ([.v (.int .i64 ((nth zs (zs.length-1):Nat):Int))]) (eM zs (k:=zs.length-1) (by omega)) ?_
  refine o1 ?_;refine o1 ?_;refine nl ?_;refine bN rfl (fun h2=>?_) (fun h2=>?_)
  ·refine sk ?_;refine bl ?_;refine rl ?_;(iterate 4 refine o1 ?_);refine WL.cast (t:=18) (u':=.int .i64 ((zs.length-1:Nat):Int)) rfl (aH (by omega)) ?_
   refine o1 ?_;refine o1 ?_;refine nl ?_
   exact⟨zs.take (zs.length-1),by rw[List.length_take];omega,⟨(by rw[uH (xs:=zs) (k:=zs.length) (by omega) (Nat.le_refl _) (by omega),List.take_length];exact hz.1),by rw[List.length_take];omega⟩,aO h0 [] _ _ (by decide) ⟨congrArg some (Vx (by omega)).symm,trivial⟩ rfl⟩
  refine ex ?_;refine sq ?_;refine rl ?_;refine o1 ?_;refine o1 ?_;refine nl ?_;refine rt ?_;refine en (.inl rfl) rfl (aV (.one (.id rfl))) (by decide) (fun h=>by cases h) ?_
  have hx:trim xs=zs:=by
   rw[←hz.1];have h9:=pU (xs:=zs) (k:=zs.length) (by omega) (Nat.le_refl _) (by omega)
   rwa[List.take_length]at h9
  rw[hx];rfl
 (iterate 7 refine cG ?_);refine o1 ?_;refine nl ?_;refine fD rfl ?_;refine ex ?_;refine sq ?_;refine rl ?_;refine o1 ?_;refine o1 ?_;refine nl ?_;refine rt ?_
 refine en (.inl rfl) rfl (aV (.one (.id rfl))) (by decide) (fun h=>by cases h) ?_
 have hx:trim xs=zs:=by
  have h9:zs=[]:=List.eq_nil_of_length_eq_zero (by omega)
  rw[←hz.1,h9];rfl
 rw[hx];rfl
theorem iL {xs:List Nat}(hx:xs.length≤1099511627776) (hl:Lim 4294967296 xs):aE false Tryz.prog 152 [] [.one (.t (sU false xs))] (aM (.one (.t (sI false (dg 65536 (vl 4294967296 xs)))))):=by
 refine bD Tryz.func152 rfl Tryz.ntmps152 rfl aA rfl fun N w c0 h0=>?_
 refine sq ?_;refine rl ?_;refine o1 ?_;refine nl ?_;refine sq ?_;refine rl ?_;refine o1 ?_;refine nl ?_;refine sq ?_;refine sq ?_;refine rl ?_;refine o1 ?_;refine nl ?_;refine bl ?_
 refine lp (γ:=Nat) (fun k=>cD [(0,.one (.t (sU false xs))),(3,.one (.sl 0 0 (2*k))),(4,.one (tv (.int .i64 ((k:Nat):Int))))]) (fun k=>[(⟨3,1,(dM (hv (xs.take k))).map .t⟩:Ob)].map some) (fun k=>k≤xs.length) (fun k=>xs.length-k) 0 (Nat.zero_le _) ((nr (i:=3) 0 3 1 rfl rfl rfl rfl).trans (aO h0 [0] _ _ (by decide) ⟨rfl,rfl,rfl,trivial⟩ ⟨cM (l:=[]) rfl,rfl⟩)) fun k hk=>?_
 have hn:=hl.nth (by omega) k
 refine sq ?_;refine sq ?_;refine rl ?_;(iterate 4 refine o1 ?_);refine nl ?_;refine bN rfl (fun h1=>?_) (fun h1=>?_)
 ·refine sk ?_;refine sq ?_;refine bl ?_;refine rd [] (fun i=>[15].contains i) mixed ?_
  refine dv 0 ?_;refine dv 1 ?_;refine dv 2 ?_;refine dv 3 ?_;refine qJ 4 ([.v (.int .u32 ((nth xs (k):Nat):Int))]) (nW xs (k:=k) (by omega)) ?_
  refine dv 5 ?_;refine WD.cast (t:=16) (u':=.int .u32 ((nth xs k%65536:Nat):Int)) rfl (aH (fF _ 65536)) ?_;refine dv 6 ?_;refine dv 7 ?_;refine dv 8 ?_;refine dv 9 ?_
  refine qJ 10 ([.v (.int .u32 ((nth xs (k):Nat):Int))]) (nW xs (k:=k) (by omega)) ?_
  refine dv 11 ?_ (hC:=(fK 65536 (by omega) (by simp only[fX];omega)))
  refine WD.cast (t:=22) (u':=.int .u32 ((nth xs k/65536:Nat):Int)) rfl (aH (eK _ 65536)) ?_;refine dv 12 ?_;refine Hu (key:=1) 13 (by kernel_rfl) rfl rfl aA rfl trivial ?_
  refine CF (j:=2) 14 rfl aA rfl rfl rfl (.sl rfl (by rw[List.length_map,gN,pS,List.length_take];omega)) (.sl rfl rfl rfl) rfl rfl (by omega) (by omega) rfl rfl (by kernel_rfl) rfl ?_
  refine cV 15 (by kernel_rfl) rfl rfl aA rfl (by trivial) ?_ (fun h=>by first | rfl | cases h)
  refine aS ?_;refine rl ?_;(iterate 3 refine o1 ?_);refine nl ?_
  exact⟨k+1,by omega,by omega,aO h0 [2] _ _ (by decide) ⟨rfl,rfl,rfl,trivial⟩ ⟨mA rfl (gO _ [nth xs k%65536,nth xs k/65536]) (Od (by omega)).symm,rfl⟩⟩
 refine ex ?_;refine sq ?_;refine rl ?_;refine WL.sub (vD (i:=3) (zs':=hv xs) rfl rfl rfl (by rw[pS,List.length_take];omega) (by rw[List.take_of_length_le (by omega)])) ?_
 refine o1 ?_;refine ca (We (by rw[pS];omega)) CL ⟨a1 rfl,rfl⟩ (.one (.t (sI false (trim (hv xs))))) ?_
 refine o1 ?_;refine nl ?_;refine rt ?_;exact en (.inl rfl) rfl (aV (.one (.id rfl))) (by decide) (fun h=>by cases h) (by rw[CU hl];rfl)
theorem tA {xs:List Nat}(hx:xs.length≤4398046511104) (hl:Lim 65536 xs):aE true Tryz.prog 154 [] [.one (.t (sI false xs))] (aM (.one (.t (sU true (dg 4294967296 (vl 65536 xs)))))):=by
 refine bD Tryz.func154 rfl Tryz.ntmps154 rfl aA rfl fun N w c0 h0=>?_
 refine sq ?_;refine rl ?_;refine o1 ?_;refine nl ?_;refine sq ?_;refine rl ?_;refine o1 ?_;refine nl ?_;refine sq ?_;refine rl ?_;refine o1 ?_
 refine ca (We hx) CL ⟨a1 rfl,rfl⟩ (.one (.t (sI false (trim xs)))) ?_;refine o1 ?_;refine nl ?_;refine sq ?_;refine sq ?_;have htl:=bZ xs
 have hlt:=hl.trim
 generalize hY:trim xs=ys at htl hlt;refine rl ?_;refine o1 ?_;refine nl ?_;refine bl ?_
 refine lp (γ:=Nat) (fun k=>cD [(0,.one (.t (sI false ys))),(3,.one (.sl 0 0 k)),(4,.one (tv (.int .i64 ((2*k:Nat):Int))))]) (fun k=>[(⟨115,1,(aR (lb (ys.take (2*k)))).map .t⟩:Ob)].map some) (fun k=>2*k≤ys.length+1) (fun k=>ys.length+1-2*k) 0 (Nat.zero_le _) ((nr (i:=3) 0 115 1 rfl rfl rfl rfl).trans (aO h0 [0] _ _ (by decide) ⟨rfl,rfl,rfl,trivial⟩ ⟨cM (l:=[]) rfl,rfl⟩)) fun k hk=>?_
 have hn:=hlt.nth (by omega) (2*k)
 have hn2:=hlt.nth (by omega) (2*k+1)
 refine sq ?_;refine sq ?_;refine rl ?_;(iterate 4 refine o1 ?_);refine nl ?_;refine bN rfl (fun h1=>?_) (fun h1=>?_)
 ·refine sk ?_;refine sq ?_;refine bl ?_;refine sq ?_;refine rl ?_;refine o1 ?_;refine nl ?_;refine sq ?_;refine sq ?_;refine rl ?_;refine o1 ?_;refine o1 ?_
  refine WL.cast (t:=15) (u':=.int .i64 ((2*k+1:Nat):Int)) rfl (aH (by omega)) ?_
  (iterate 3 refine o1 ?_);refine nl ?_;refine bN rfl (fun h2=>?_) (fun h2=>?_)
  ·refine rl ?_;(iterate 3 refine o1 ?_);refine WL.cast (t:=21) (u':=.int .i64 ((2*k+1:Nat):Int)) rfl (aH (by omega)) ?_
   refine o1 ?_;refine kD ([.v (.int .i64 ((nth ys (2*k+1):Nat):Int))]) (eM ys (k:=2*k+1) (by omega)) ?_
   refine o1 ?_;refine nl ?_;refine rl ?_;(iterate 4 refine o1 ?_);refine kD ([.v (.int .i64 ((nth ys (2*k):Nat):Int))]) (eM ys (k:=2*k) (by omega)) ?_
   (iterate 5 refine o1 ?_);refine WL.cast (t:=33) (u':=.int .u32 ((nth ys (2*k)+65536*nth ys (2*k+1):Nat):Int)) rfl (aH (by omega)) ?_
   refine bs 1 ?_;refine kR (j:=2) aA rfl rfl rfl rfl (.sl rfl (by rw[List.length_map,gK,gY,List.length_take];omega)) (.sl rfl rfl rfl) rfl rfl rfl (by omega) (by omega) ?_
   refine o1 ?_;refine nl ?_;refine rl ?_;(iterate 3 refine o1 ?_);refine nl ?_
   exact⟨k+1,by omega,by omega,aO h0 [2] _ _ (by decide) ⟨rfl,rfl,rfl,trivial⟩ ⟨Vy rfl (Ka _ [nth ys (2*k)+65536*nth ys (2*k+1)]) (wX (by omega)).symm,rfl⟩⟩
  have hz:=dY (l:=ys) (k:=2*k+1) (by omega)
  refine sk ?_;refine rl ?_;(iterate 4 refine o1 ?_);refine kD ([.v (.int .i64 ((nth ys (2*k):Nat):Int))]) (eM ys (k:=2*k) (by omega)) ?_
  (iterate 5 refine o1 ?_);refine WL.cast (t:=33) (u':=.int .u32 ((nth ys (2*k)+65536*nth ys (2*k+1):Nat):Int)) rfl (aH (by omega)) ?_
  refine bs 1 ?_;refine kR (j:=2) aA rfl rfl rfl rfl (.sl rfl (by rw[List.length_map,gK,gY,List.length_take];omega)) (.sl rfl rfl rfl) rfl rfl rfl (by omega) (by omega) ?_
  refine o1 ?_;refine nl ?_;refine rl ?_;(iterate 3 refine o1 ?_);refine nl ?_
  exact⟨k+1,by omega,by omega,aO h0 [2] _ _ (by decide) ⟨rfl,rfl,rfl,trivial⟩ ⟨Vy rfl (Ka _ [nth ys (2*k)+65536*nth ys (2*k+1)]) (wX (by omega)).symm,rfl⟩⟩
 refine ex ?_;refine sq ?_;refine rl ?_;refine o1 ?_;refine o1 ?_;refine nl ?_;refine rt ?_
 exact en (.inl rfl) rfl (aV (.one (.sl (trs:=aR (lb ys)) rfl rfl (by rw[List.take_of_length_le (l:=ys) (by omega),List.take_of_length_le (by simp[gK,gY];omega)]) (by rw[gK,gY];omega)))) (by decide) (fun _=>.inl ⟨rfl,eB _⟩) (by rw[←wW,dU (by omega) hl,hY];unfold sU;rw[show k=(lb ys).length by rw[gY];omega];rfl)
theorem oL {xs:List Nat}{k:Nat}:aE true Tryz.prog 153 [] [.one (.t (sI false xs)),.one (tv (.int .i64 ((k:Nat):Int)))] (aM (.one (tv (.int .i64 ((nth xs k:Nat):Int))))):=by
 refine bD Tryz.func153 rfl Tryz.ntmps153 rfl aA rfl fun N w c0 h0=>?_
 refine sq ?_;refine rl ?_;refine o1 ?_;refine nl ?_;refine sq ?_;refine sq ?_;refine rl ?_;(iterate 4 refine o1 ?_);refine nl ?_;refine bN rfl (fun h1=>?_) (fun h1=>?_)
 ·refine sq ?_;refine rl ?_;(iterate 3 refine o1 ?_);refine kD ([.v (.int .i64 ((nth xs (k):Nat):Int))]) (eM xs (k:=k) (by omega)) ?_
  refine o1 ?_;refine nl ?_;refine rt ?_;refine en (.inl rfl) rfl (aV (aP _)) (by decide) (fun _=>trivial) ?_
  rfl
 refine sk ?_;refine sq ?_;refine rl ?_;refine o1 ?_;refine nl ?_;refine rt ?_;refine en (.inl rfl) rfl (aV (aP _)) (by decide) (fun _=>trivial) ?_
 rw[dY (by omega)];rfl
theorem GW {xs:List Nat}(hx:xs.length≤1099511627776) (hlx:Lim 4294967296 xs):aE true Tryz.prog 151 [] [.one (.t (sU false xs))] (aM (.one (.t (sU true (dg 4294967296 (vl 4294967296 xs)))))):=by
 refine bD Tryz.func151 rfl Tryz.ntmps151 rfl aA rfl fun N w c0 h0=>?_
 have hd:=dO (v:=vl 4294967296 xs) (L:=xs.length) (by rw[dU (by omega) hlx];exact bZ _)
 have hl9:=aN (B:=65536) (by omega) (vl 4294967296 xs)
 refine sq ?_;refine rl ?_;refine o1 ?_;refine nl ?_;refine sq ?_;refine rl ?_;refine o1 ?_
 refine ca (iL hx hlx) qE ⟨a1 rfl,rfl⟩ (.one (.t (sI false (dg 65536 (vl 4294967296 xs))))) ?_;refine gG 0 (tA (by omega) (by assumption)) Fl ⟨a1 rfl,rfl⟩ ?_
 refine o1 ?_;refine nl ?_;refine rt ?_
 exact en (.inl rfl) rfl (aV (.one (.sl (trs:=aR (dg 4294967296 (vl 65536 (dg 65536 (vl 4294967296 xs))))) rfl rfl (bG _) (aY _)))) (by decide) (fun _=>.inl ⟨rfl,eB _⟩) (by rw[bO (by omega)];rfl)
theorem Ke {xs ys:List Nat}(hx:xs.length≤1099511627776) (hlx:Lim 4294967296 xs) (hy:ys.length≤1099511627776) (hly:Lim 4294967296 ys):aE true Tryz.prog 103 [] [.one (.t (sU false xs)),.one (.t (sU false ys))] (aM (.one (tv (.int .i64 (((vl 4294967296 xs:Nat):Int)-((vl 4294967296 ys:Nat):Int)).sign)))):=by
 refine bD Tryz.func103 rfl Tryz.ntmps103 rfl aA rfl fun N w c0 h0=>?_
 refine sq ?_;refine rl ?_;refine o1 ?_;refine nl ?_;refine sq ?_;refine rl ?_;refine o1 ?_
 refine ca (iL hx hlx) qE ⟨a1 rfl,rfl⟩ (.one (.t (sI false (dg 65536 (vl 4294967296 xs))))) ?_;refine o1 ?_
 refine ca (iL hy hly) qE ⟨a1 rfl,rfl⟩ (.one (.t (sI false (dg 65536 (vl 4294967296 ys))))) ?_;refine o1 ?_;refine o1 ?_;refine nl ?_;refine sq ?_;refine sq ?_
 have hdx:=dO (v:=vl 4294967296 xs) (L:=xs.length) (by rw[dU (by omega) hlx];exact bZ _)
 have hdy:=dO (v:=vl 4294967296 ys) (L:=ys.length) (by rw[dU (by omega) hly];exact bZ _)
 have hX:=aN (B:=65536) (by omega) (vl 4294967296 xs)
 have hY:=aN (B:=65536) (by omega) (vl 4294967296 ys)
 have hvX:=bO (B:=65536) (by omega) (vl 4294967296 xs)
 have hvY:=bO (B:=65536) (by omega) (vl 4294967296 ys)
 generalize dg 65536 (vl 4294967296 xs)=X at hdx hX hvX⊢;generalize dg 65536 (vl 4294967296 ys)=Y at hdy hY hvY⊢;refine rl ?_;(iterate 5 refine o1 ?_)
 refine WL.cast (t:=16) (u':=.int .i64 ((max X.length Y.length:Nat):Int)) rfl (aH (by omega)) ?_
 refine o1 ?_;refine o1 ?_;refine nl ?_;refine bl ?_
 refine lp (γ:=Nat) (fun k=>cD [(5,.one (.t (sI false X))),(6,.one (.t (sI false Y))),(7,.one (tv (.int .i64 ((k:Nat)-1))))]) (fun k=>([]:List Ob).map some) (fun k=>(∀j,k≤j→nth X j=nth Y j)∧k≤max X.length Y.length) (fun k=>k) (max X.length Y.length) ⟨fun j hj=>by rw[dY (by omega),dY (by omega)],Nat.le_refl _⟩ (aO h0 [] _ _ (by decide) ⟨rfl,rfl,rfl,trivial⟩ rfl) fun k hk=>?_
 refine sq ?_;refine sq ?_;refine rl ?_;refine o1 ?_;refine o1 ?_;refine nl ?_;refine bN rfl (fun h1=>?_) (fun h1=>?_)
 ·refine sk ?_;refine sq ?_;refine bl ?_;refine sq ?_;refine sq ?_;refine rl ?_;refine o1 ?_;refine o1 ?_
  refine WL.cast (t:=23) (u':=.int .i64 ((k-1:Nat):Int)) rfl (aH (by omega)) ?_
  refine ca (oL) oJ ⟨a1 rfl,a1 rfl,rfl⟩ (.one (tv (.int .i64 ((nth X (k-1):Nat):Int)))) ?_;refine o1 ?_;refine o1 ?_
  refine WL.cast (t:=26) (u':=.int .i64 ((k-1:Nat):Int)) rfl (aH (by omega)) ?_
  refine ca (oL) oJ ⟨a1 rfl,a1 rfl,rfl⟩ (.one (tv (.int .i64 ((nth Y (k-1):Nat):Int)))) ?_;refine o1 ?_;refine nl ?_;refine bN rfl (fun h2=>?_) (fun h2=>?_)
  ·refine sq ?_;refine rl ?_;refine o1 ?_;refine nl ?_;refine rt ?_;refine en (.inl rfl) rfl (aV (aP _)) (by decide) (fun _=>trivial) (congrArg (fun z=>FV.one (tv (.int .i64 z))) ?_)
   have he:=Fq (X:=X) (Y:=Y) (k:=k-1) hX (fun j hj=>hk.1 j (by omega)) (by omega)
   rw[hvX,hvY]at he;rw[Int.sign_eq_neg_one_of_neg (by omega)]
  refine sk ?_;refine sq ?_;refine rl ?_;refine o1 ?_;refine o1 ?_;refine WL.cast (t:=30) (u':=.int .i64 ((k-1:Nat):Int)) rfl (aH (by omega)) ?_
  refine ca (oL) oJ ⟨a1 rfl,a1 rfl,rfl⟩ (.one (tv (.int .i64 ((nth X (k-1):Nat):Int)))) ?_;refine o1 ?_;refine o1 ?_
  refine WL.cast (t:=33) (u':=.int .i64 ((k-1:Nat):Int)) rfl (aH (by omega)) ?_
  refine ca (oL) oJ ⟨a1 rfl,a1 rfl,rfl⟩ (.one (tv (.int .i64 ((nth Y (k-1):Nat):Int)))) ?_;refine o1 ?_;refine nl ?_;refine bN rfl (fun h3=>?_) (fun h3=>?_)
  ·refine sq ?_;refine rl ?_;refine o1 ?_;refine nl ?_;refine rt ?_;refine en (.inl rfl) rfl (aV (aP _)) (by decide) (fun _=>trivial) (congrArg (fun z=>FV.one (tv (.int .i64 z))) ?_)
   have he:=Fq (X:=Y) (Y:=X) (k:=k-1) hY (fun j hj=>(hk.1 j (by omega)).symm) (by omega)
   rw[hvX,hvY]at he;rw[Int.sign_eq_one_of_pos (by omega)]
  refine sk ?_;refine rl ?_;(iterate 3 refine o1 ?_);refine nl ?_
  exact⟨k-1,by omega,⟨fun j hj=>(Nat.eq_or_lt_of_le hj).elim (fun h9=>by rw[←h9];omega) (fun h9=>hk.1 j (by omega)),by omega⟩,aO h0 [] _ _ (by decide) ⟨rfl,rfl,congrArg (fun z=>some (FV.one (tv (.int .i64 z)))) (by omega),trivial⟩ rfl⟩
 refine ex ?_;refine sq ?_;refine rl ?_;refine o1 ?_;refine nl ?_;refine rt ?_
 refine en (.inl rfl) rfl (aV (aP _)) (by decide) (fun _=>trivial) (congrArg (fun z=>FV.one (tv (.int .i64 z))) ?_)
 have he:=Vu (fun j=>hk.1 j (by omega))
 rw[hvX,hvY]at he;rw[he,Int.sub_self];rfl
theorem NY {xs ys:List Nat}(hx:xs.length≤1099511627776) (hlx:Lim 4294967296 xs) (hy:ys.length≤1099511627776) (hly:Lim 4294967296 ys):aE true Tryz.prog 104 [] [.one (.t (sU false xs)),.one (.t (sU false ys))] (aM (.one (.t (sU true (dg 4294967296 (vl 4294967296 xs+vl 4294967296 ys)))))):=by
 refine bD Tryz.func104 rfl Tryz.ntmps104 rfl aA rfl fun N w c0 h0=>?_
 refine sq ?_;refine rl ?_;refine o1 ?_;refine nl ?_;refine sq ?_;refine rl ?_;refine o1 ?_
 refine ca (iL hx hlx) qE ⟨a1 rfl,rfl⟩ (.one (.t (sI false (dg 65536 (vl 4294967296 xs))))) ?_;refine o1 ?_
 refine ca (iL hy hly) qE ⟨a1 rfl,rfl⟩ (.one (.t (sI false (dg 65536 (vl 4294967296 ys))))) ?_;refine o1 ?_;refine o1 ?_;refine nl ?_;refine sq ?_
 have hdx:=dO (v:=vl 4294967296 xs) (L:=xs.length) (by rw[dU (by omega) hlx];exact bZ _)
 have hdy:=dO (v:=vl 4294967296 ys) (L:=ys.length) (by rw[dU (by omega) hly];exact bZ _)
 have hX:=aN (B:=65536) (by omega) (vl 4294967296 xs)
 have hY:=aN (B:=65536) (by omega) (vl 4294967296 ys)
 have hvX:=bO (B:=65536) (by omega) (vl 4294967296 xs)
 have hvY:=bO (B:=65536) (by omega) (vl 4294967296 ys)
 generalize dg 65536 (vl 4294967296 xs)=X at hdx hX hvX⊢;generalize dg 65536 (vl 4294967296 ys)=Y at hdy hY hvY⊢;refine rl ?_;refine o1 ?_;refine nl ?_;refine sq ?_;refine rl ?_
 refine o1 ?_;refine nl ?_;refine sq ?_;refine sq ?_;refine rl ?_;refine o1 ?_;refine nl ?_;refine bl ?_
 refine lp (γ:=Nat×Nat×List Nat) (fun s=>cD [(5,.one (.t (sI false X))),(6,.one (.t (sI false Y))),(7,.one (.sl 0 0 s.1)),(8,.one (tv (.int .i64 ((s.2.1:Nat):Int)))),(9,.one (tv (.int .i64 ((s.1:Nat):Int))))]) (fun s=>[(⟨3,1,(dM s.2.2).map .t⟩:Ob)].map some) (fun s=>s.2.2.length=s.1∧Lim 65536 s.2.2∧vl 65536 s.2.2+65536^s.1*s.2.1=vl 65536 (X.take s.1)+vl 65536 (Y.take s.1)∧s.2.1≤1∧(s.1≤max X.length Y.length∨s.1=max X.length Y.length+1∧s.2.1=0)) (fun s=>max X.length Y.length+1-s.1) (0,0,[]) ⟨rfl,Lim.nil,rfl,Nat.zero_le _,.inl (Nat.zero_le _)⟩ ((nr (i:=7) 0 3 1 rfl rfl rfl rfl).trans (aO h0 [0] _ _ (by decide) ⟨rfl,rfl,rfl,rfl,rfl,trivial⟩ ⟨cM (l:=[]) rfl,rfl⟩)) ?_
 rintro⟨k,cr,os⟩ ⟨hos,hol,hv,hc1,hkm⟩;dsimp only at hos hol hv hc1 hkm⊢;have hn1:=hX.nth (by omega) k
 have hn2:=hY.nth (by omega) k
 refine sq ?_;refine sq ?_;refine rl ?_;(iterate 6 refine o1 ?_);refine WL.cast (t:=20) (u':=.int .i64 ((max X.length Y.length:Nat):Int)) rfl (aH (by omega)) ?_
 refine o1 ?_;refine o1 ?_;refine WL.split (t:=22) rfl (fun h1=>?_) (fun h1=>?_)
 ·refine cG ?_;refine cG ?_;refine o1 ?_;refine nl ?_;refine fV rfl ?_;refine sk ?_;refine sq ?_;refine bl ?_;refine sq ?_;refine rl ?_;refine o1 ?_;refine o1 ?_
  refine ca (oL) oJ ⟨a1 rfl,a1 rfl,rfl⟩ (.one (tv (.int .i64 ((nth X (k):Nat):Int)))) ?_;refine o1 ?_;refine o1 ?_
  refine ca (oL) oJ ⟨a1 rfl,a1 rfl,rfl⟩ (.one (tv (.int .i64 ((nth Y (k):Nat):Int)))) ?_;(iterate 3 refine o1 ?_)
  refine WL.cast (t:=36) (u':=.int .i64 ((nth X k+nth Y k+cr:Nat):Int)) rfl (aH (by omega)) ?_
  refine o1 ?_;refine nl ?_;refine sq ?_;refine rl ?_;(iterate 3 refine o1 ?_)
  refine WL.cast (t:=39) (u':=.int .i64 (((nth X k+nth Y k+cr)%65536:Nat):Int)) rfl (aH (fF _ 65536)) ?_;refine bs 1 ?_
  refine kR (j:=2) aA rfl rfl rfl rfl (.sl rfl (by rw[List.length_map,gN,hos];omega)) (.sl rfl rfl rfl) rfl rfl rfl (by omega) (by omega) ?_
  refine o1 ?_;refine nl ?_;refine rl ?_;refine o1 ?_;refine o1 ?_ (hC:=(fK 65536 (by omega) (by simp only[fX];omega)))
  refine WL.cast (t:=43) (u':=.int .i64 (((nth X k+nth Y k+cr)/65536:Nat):Int)) rfl (aH (eK _ 65536)) ?_;refine o1 ?_;refine nl ?_;refine rl ?_;(iterate 3 refine o1 ?_)
  refine nl ?_;have hst:=Jy hos hv
  have hz1:X.length≤k→nth X k=0:=fun h=>dY (by omega)
  have hz2:Y.length≤k→nth Y k=0:=fun h=>dY (by omega)
  exact⟨(k+1,(nth X k+nth Y k+cr)/65536,os++[(nth X k+nth Y k+cr)%65536]),by dsimp only;omega,⟨by simp[hos],hol.append (Lim.cons (Nat.mod_lt _ (by omega)) Lim.nil),hst,by dsimp only;omega,by dsimp only;omega⟩,aO h0 [2] _ _ (by decide) ⟨rfl,rfl,rfl,rfl,rfl,trivial⟩ ⟨mA rfl (gO _ [(nth X k+nth Y k+cr)%65536]) rfl,rfl⟩⟩
 (iterate 3 refine o1 ?_);refine nl ?_;refine bN rfl (fun h2=>?_) (fun h2=>?_)
 ·refine sk ?_;refine sq ?_;refine bl ?_;refine sq ?_;refine rl ?_;refine o1 ?_;refine o1 ?_
  refine ca (oL) oJ ⟨a1 rfl,a1 rfl,rfl⟩ (.one (tv (.int .i64 ((nth X (k):Nat):Int)))) ?_;refine o1 ?_;refine o1 ?_
  refine ca (oL) oJ ⟨a1 rfl,a1 rfl,rfl⟩ (.one (tv (.int .i64 ((nth Y (k):Nat):Int)))) ?_;(iterate 3 refine o1 ?_)
  refine WL.cast (t:=36) (u':=.int .i64 ((nth X k+nth Y k+cr:Nat):Int)) rfl (aH (by omega)) ?_
  refine o1 ?_;refine nl ?_;refine sq ?_;refine rl ?_;(iterate 3 refine o1 ?_)
  refine WL.cast (t:=39) (u':=.int .i64 (((nth X k+nth Y k+cr)%65536:Nat):Int)) rfl (aH (fF _ 65536)) ?_;refine bs 1 ?_
  refine kR (j:=2) aA rfl rfl rfl rfl (.sl rfl (by rw[List.length_map,gN,hos];omega)) (.sl rfl rfl rfl) rfl rfl rfl (by omega) (by omega) ?_
  refine o1 ?_;refine nl ?_;refine rl ?_;refine o1 ?_;refine o1 ?_ (hC:=(fK 65536 (by omega) (by simp only[fX];omega)))
  refine WL.cast (t:=43) (u':=.int .i64 (((nth X k+nth Y k+cr)/65536:Nat):Int)) rfl (aH (eK _ 65536)) ?_;refine o1 ?_;refine nl ?_;refine rl ?_;(iterate 3 refine o1 ?_)
  refine nl ?_;have hst:=Jy hos hv
  have hz1:X.length≤k→nth X k=0:=fun h=>dY (by omega)
  have hz2:Y.length≤k→nth Y k=0:=fun h=>dY (by omega)
  exact⟨(k+1,(nth X k+nth Y k+cr)/65536,os++[(nth X k+nth Y k+cr)%65536]),by dsimp only;omega,⟨by simp[hos],hol.append (Lim.cons (Nat.mod_lt _ (by omega)) Lim.nil),hst,by dsimp only;omega,by dsimp only;omega⟩,aO h0 [2] _ _ (by decide) ⟨rfl,rfl,rfl,rfl,rfl,trivial⟩ ⟨mA rfl (gO _ [(nth X k+nth Y k+cr)%65536]) rfl,rfl⟩⟩
 refine ex ?_;refine sq ?_;refine rl ?_;have hc0:cr=0:=by omega
 rw[hc0,Nat.mul_zero,Nat.add_zero,bP 65536 (by omega),bP 65536 (by omega),hvX,hvY]at hv
 refine WL.sub (vD (i:=7) (zs':=os) rfl rfl rfl (by omega) rfl) ?_
 refine o1 ?_;refine gG 1 (tA (by omega) (by assumption)) Fl ⟨a1 rfl,rfl⟩ ?_
 refine o1 ?_;refine nl ?_;refine rt ?_
 exact en (.inl rfl) rfl (aV (.one (.sl (trs:=aR (dg 4294967296 (vl 65536 os))) rfl rfl (bG _) (aY _)))) (by decide) (fun _=>.inl ⟨rfl,eB _⟩) (by rw[hv];rfl)
theorem Wf {xs ys:List Nat}(hx:xs.length≤1099511627776) (hlx:Lim 4294967296 xs) (hy:ys.length≤1099511627776) (hly:Lim 4294967296 ys):aE true Tryz.prog 105 [] [.one (.t (sU false xs)),.one (.t (sU false ys))] (aM (.tup [.one (.t (sU true (dg 4294967296 (vl 4294967296 xs-vl 4294967296 ys)))),.one (tv (.int .i64 (if vl 4294967296 xs<vl 4294967296 ys then 2 else 0)))])):=by
 refine bD Tryz.func105 rfl Tryz.ntmps105 rfl aA rfl fun N w c0 h0=>?_
 refine sq ?_;refine rl ?_;refine o1 ?_;refine o1 ?_;refine nl ?_;refine sq ?_;refine sq ?_;refine rl ?_;refine o1 ?_;refine o1 ?_
 refine ca (Ke hx hlx hy hly) Ra ⟨a1 rfl,a1 rfl,rfl⟩ (.one (tv (.int .i64 (((vl 4294967296 xs:Nat):Int)-((vl 4294967296 ys:Nat):Int)).sign))) ?_;refine o1 ?_;refine nl ?_
 refine bN rfl (fun h1=>?_) (fun h1=>?_)
 ·refine sq ?_;refine rl ?_;refine o1 ?_;refine o1 ?_;refine nl ?_;refine rt ?_;have hlt:=NQ h1
  exact en (.inl rfl) rfl (dE (.cons (.one (.nil (t:=115) (z:=1))) (.cons (aP _) .nil))) (by decide) (fun _=>⟨.inl ⟨rfl,trivial⟩,trivial,trivial⟩) (by rw[Nat.sub_eq_zero_of_le (Nat.le_of_lt hlt),if_pos hlt];rfl)
 refine sk ?_;refine sq ?_;refine rl ?_;refine o1 ?_;refine ca (iL hx hlx) qE ⟨a1 rfl,rfl⟩ (.one (.t (sI false (dg 65536 (vl 4294967296 xs))))) ?_;refine o1 ?_
 refine ca (iL hy hly) qE ⟨a1 rfl,rfl⟩ (.one (.t (sI false (dg 65536 (vl 4294967296 ys))))) ?_;refine o1 ?_;refine o1 ?_;refine nl ?_;refine sq ?_
 have hge:vl 4294967296 ys≤vl 4294967296 xs:=NP h1
 have hyx:=cK (B:=65536) (by omega) hge
 have hdx:=dO (v:=vl 4294967296 xs) (L:=xs.length) (by rw[dU (by omega) hlx];exact bZ _)
 have hdy:=dO (v:=vl 4294967296 ys) (L:=ys.length) (by rw[dU (by omega) hly];exact bZ _)
 have hX:=aN (B:=65536) (by omega) (vl 4294967296 xs)
 have hY:=aN (B:=65536) (by omega) (vl 4294967296 ys)
 have hvX:=bO (B:=65536) (by omega) (vl 4294967296 xs)
 have hvY:=bO (B:=65536) (by omega) (vl 4294967296 ys)
 generalize dg 65536 (vl 4294967296 xs)=X at hdx hX hvX hyx⊢;generalize dg 65536 (vl 4294967296 ys)=Y at hdy hY hvY hyx⊢;refine rl ?_;refine o1 ?_;refine nl ?_;refine sq ?_;refine rl ?_
 refine o1 ?_;refine nl ?_;refine sq ?_;refine sq ?_;refine rl ?_;refine o1 ?_;refine nl ?_;refine bl ?_
 refine lp (γ:=Nat×Nat×List Nat) (fun s=>cD [(6,.one (.t (sI false X))),(7,.one (.t (sI false Y))),(8,.one (.sl 0 0 s.1)),(9,.one (tv (.int .i64 ((s.2.1:Nat):Int)))),(10,.one (tv (.int .i64 ((s.1:Nat):Int))))]) (fun s=>[(⟨3,1,(dM s.2.2).map .t⟩:Ob)].map some) (fun s=>s.2.2.length=s.1∧Lim 65536 s.2.2∧vl 65536 s.2.2+vl 65536 (Y.take s.1)=vl 65536 (X.take s.1)+65536^s.1*s.2.1∧s.2.1≤1∧s.1≤X.length) (fun s=>X.length-s.1) (0,0,[]) ⟨rfl,Lim.nil,rfl,Nat.zero_le _,Nat.zero_le _⟩ ((nr (i:=8) 0 3 1 rfl rfl rfl rfl).trans (aO h0 [0] _ _ (by decide) ⟨rfl,rfl,rfl,rfl,rfl,trivial⟩ ⟨cM (l:=[]) rfl,rfl⟩)) ?_
 rintro⟨k,br,os⟩ ⟨hos,hol,hv,hc1,hkm⟩;dsimp only at hos hol hv hc1 hkm⊢;have hn1:=hX.nth (by omega) k
 have hn2:=hY.nth (by omega) k
 refine sq ?_;refine sq ?_;refine rl ?_;(iterate 4 refine o1 ?_);refine nl ?_;refine bN rfl (fun h2=>?_) (fun h2=>?_)
 ·refine sk ?_;refine sq ?_;refine bl ?_;refine sq ?_;refine rd [] (fun i=>[10].contains i) mixed ?_
  refine dv 0 ?_;refine dv 1 ?_;refine dv 2 ?_;refine qJ 3 ([.v (.int .i64 ((nth X (k):Nat):Int))]) (eM X (k:=k) (by omega)) ?_
  refine dv 4 ?_;refine dv 5 ?_;refine dv 8 ?_;refine aG 6 rfl (oL) oJ ⟨a1 rfl,a1 rfl,rfl⟩ (.one (tv (.int .i64 ((nth Y (k):Nat):Int)))) ?_;refine df 7 ?_;refine df 9 ?_
  refine cV 10 (by kernel_rfl) rfl rfl aA rfl (by trivial) ?_ (fun h=>by first | rfl | cases h)
  refine aS ?_;refine sq ?_;refine rl ?_;refine o1 ?_;refine nl ?_;refine sq ?_;refine sq ?_;refine rl ?_;refine o1 ?_;refine o1 ?_;refine nl ?_
  refine bN rfl (fun h3=>?_) (fun h3=>?_)
  ·refine sq ?_;refine rl ?_;(iterate 3 refine o1 ?_);refine nl ?_;refine rl ?_;refine o1 ?_;refine nl ?_;refine rl ?_
   refine WL.cast (t:=11) (u':=.int .i64 (((nth X k+65536-nth Y k-br:Nat)):Int)) rfl (aH (by omega)) ?_
   refine o1 ?_;refine o1 ?_;refine bs 1 ?_
   refine kR (j:=2) aA rfl rfl rfl rfl (.sl rfl (by rw[List.length_map,gN,hos];omega)) (.sl rfl rfl rfl) rfl rfl rfl (by omega) (by omega) ?_
   refine o1 ?_;refine nl ?_;refine rl ?_;(iterate 3 refine o1 ?_);refine nl ?_;have hst:=Jz (d:=nth X k+65536-nth Y k-br) (br':=1) hos hv (by omega)
   exact⟨(k+1,1,os++[nth X k+65536-nth Y k-br]),by dsimp only;omega,⟨by simp[hos],hol.append (Lim.cons (by omega) Lim.nil),hst,by dsimp only;omega,by dsimp only;omega⟩,aO h0 [2] _ _ (by decide) ⟨rfl,rfl,rfl,rfl,rfl,trivial⟩ ⟨mA rfl (gO _ [nth X k+65536-nth Y k-br]) rfl,rfl⟩⟩
  refine sk ?_;refine rl ?_;refine WL.cast (t:=11) (u':=.int .i64 (((nth X k-nth Y k-br:Nat)):Int)) rfl (aH (by omega)) ?_
  refine o1 ?_;refine o1 ?_;refine bs 1 ?_
  refine kR (j:=2) aA rfl rfl rfl rfl (.sl rfl (by rw[List.length_map,gN,hos];omega)) (.sl rfl rfl rfl) rfl rfl rfl (by omega) (by omega) ?_
  refine o1 ?_;refine nl ?_;refine rl ?_;(iterate 3 refine o1 ?_);refine nl ?_;have hst:=Jz (d:=nth X k-nth Y k-br) (br':=0) hos hv (by omega)
  exact⟨(k+1,0,os++[nth X k-nth Y k-br]),by dsimp only;omega,⟨by simp[hos],hol.append (Lim.cons (by omega) Lim.nil),hst,by dsimp only;omega,by dsimp only;omega⟩,aO h0 [2] _ _ (by decide) ⟨rfl,rfl,rfl,rfl,rfl,trivial⟩ ⟨mA rfl (gO _ [nth X k-nth Y k-br]) rfl,rfl⟩⟩
 refine ex ?_;refine sq ?_;refine rl ?_;have hoo:=eC hol
 rw[hos]at hoo;rw[bP 65536 (l:=X) (by omega),bP 65536 (l:=Y) (by omega),hvX,hvY]at hv
 have hb0:br=0:=by
  rcases Nat.eq_zero_or_pos br with h0 | h0
  ·exact h0
  have h1:br=1:=by omega
  rw[h1,Nat.mul_one,show k=X.length by omega]at hv
  rw[show k=X.length by omega]at hoo
  omega
 rw[hb0,Nat.mul_zero,Nat.add_zero]at hv;have he:vl 65536 os=vl 4294967296 xs-vl 4294967296 ys:=by omega
 refine WL.sub (vD (i:=8) (zs':=os) rfl rfl rfl (by omega) rfl) ?_
 refine o1 ?_;refine gG 1 (tA (by omega) (by assumption)) Fl ⟨a1 rfl,rfl⟩ ?_
 refine o1 ?_;refine o1 ?_;refine nl ?_;refine rt ?_
 exact en (.inl rfl) rfl (dE (.cons (.one (.sl (trs:=aR (dg 4294967296 (vl 65536 os))) rfl rfl (bG _) (aY _))) (.cons (aP _) .nil))) (by decide) (fun _=>⟨.inl ⟨rfl,eB _⟩,trivial,trivial⟩) (by rw[he,if_neg (by omega)];rfl)
theorem yA {a:Zi}{k:Int}(ha:Zn a k):aE true Tryz.prog 133 [] [gF a] (aM (.one (tv (.bool (cQ a.s a.x))))):=by
 refine bD Tryz.func133 rfl Tryz.ntmps133 rfl aA rfl fun N w c0 h0=>?_
 have hal:=ha.2.1
 refine sq ?_;refine rl ?_;refine bx 0 ?_;refine o1 ?_;refine nl ?_;refine sq ?_;refine sq ?_;refine rl ?_;refine o1 ?_;refine ld ?_;refine o1 ?_;refine o1 ?_;refine nl ?_
 refine bN rfl (fun h1=>?_) (fun h1=>?_)
 ·refine sq ?_;refine rl ?_;refine o1 ?_;refine ld ?_;refine WL.splitb (t:=8) rfl (fun h2=>?_) (fun h2=>?_)
  ·refine o1 ?_;refine o1 ?_;refine nl ?_;refine rt ?_;refine en (.inl rfl) rfl (aV (aP _)) (by decide) (fun _=>trivial) (congrArg (fun b=>FV.one (tv (.bool b))) ?_)
   rw[mB (by omega)];simp_all
  refine o1 ?_;refine o1 ?_;refine nl ?_;refine rt ?_;refine en (.inl rfl) rfl (aV (aP _)) (by decide) (fun _=>trivial) (congrArg (fun b=>FV.one (tv (.bool b))) ?_)
  rw[mB (by omega)];simp_all
 refine sk ?_;refine sq ?_;refine rl ?_;refine o1 ?_;refine ld ?_;refine o1 ?_;refine ld ?_;refine o1 ?_;refine o1 ?_
 refine WL.cast (t:=15) (u':=.int .i64 ((a.x.length-1:Nat):Int)) rfl (aH (by omega)) ?_
 refine o1 ?_;refine kD ([.v (.int .u32 ((nth a.x (a.x.length-1):Nat):Int))]) (nW a.x (k:=a.x.length-1) (by omega)) ?_
 refine o1 ?_;refine o1 ?_;refine nl ?_;refine rt ?_;refine en (.inl rfl) rfl (aV (aP _)) (by decide) (fun _=>trivial) (congrArg (fun b=>FV.one (tv (.bool b))) ?_)
 exact(tR rfl (by omega)).symm
theorem fH {a:Zi}{k:Int}(ha:Zn a k):aE false Tryz.prog 97 [] [gF a] (aM (kF k)):=by
 refine bD Tryz.func97 rfl Tryz.ntmps97 rfl aA rfl fun N w c0 h0=>?_
 refine sq ?_;refine rl ?_;refine bx 0 ?_;refine al 1 ?_;refine nl ?_;refine sq ?_;refine sq ?_;refine rl ?_;refine ld ?_
 refine ca (yA ha) Py ⟨aB rfl,rfl⟩ (.one (tv (.bool (cQ a.s a.x)))) ?_;refine WL.splitb (t:=4) rfl (fun h1=>?_) (fun h1=>?_)
 ·refine o1 ?_;refine nl ?_;refine fD rfl ?_;refine sk ?_;refine sq ?_;refine rl ?_;refine ld ?_;refine st ?_;refine nl ?_;refine rt ?_
  exact en (.inl rfl) rfl (aV (.agg (.read _ (l:=[.v (.bool a.s),sU false a.x]) rfl))) (by decide) (fun h=>by cases h) (AC ha h1)
 refine o1 ?_;refine nl ?_;refine fV rfl ?_;refine sq ?_;refine rl ?_;refine o1 ?_;refine st ?_;refine nl ?_;refine rt ?_
 exact en (.inl rfl) rfl (aV (.agg (.cons (.id rfl) (.cons .nilf .nil)))) (by decide) (fun h=>by cases h) (by rw[ha.wrong h1];exact Dc)
theorem kB {b:Bool}{xs:List Nat}{K:Int}(hx:xs.length≤1099511627776) (hl:Lim 4294967296 xs) (hK:bJ b (vl 4294967296 xs)=K):aE true Tryz.prog 100 [] [.one (tv (.bool b)),.one (.t (sU false xs))] (aM (kO K)):=by
 refine bD Tryz.func100 rfl Tryz.ntmps100 rfl aA rfl fun N w c0 h0=>?_
 refine sq ?_;refine rl ?_;refine al 0 ?_;refine nl ?_;refine sq ?_;refine rl ?_;refine o1 ?_;refine gG 1 (GW hx hl) RN ⟨a1 rfl,rfl⟩ ?_;refine o1 ?_;refine nl ?_;refine sq ?_
 refine rl ?_;refine o1 ?_;refine o1 ?_;refine WL.splitb (t:=9) rfl (fun h1=>?_) (fun h1=>?_)
 ·(iterate 6 refine o1 ?_);refine st ?_;refine nl ?_;refine rt ?_
  exact en (.inl rfl) rfl (aV (.agg (.cons (.id rfl) (.cons (.sl (trs:=aR (dg 4294967296 (vl 4294967296 xs))) rfl rfl (bG _) (aY _)) .nil)))) (by decide) (fun _=>Dd _ _) (hK▸tS (by rw[←Aw rfl,h1,Bool.true_and];exact decide_eq_decide.2 (by omega)) (iI _ _).symm)
 (iterate 3 refine cG ?_);(iterate 3 refine o1 ?_);refine st ?_;refine nl ?_;refine rt ?_
 exact en (.inl rfl) rfl (aV (.agg (.cons (.id rfl) (.cons (.sl (trs:=aR (dg 4294967296 (vl 4294967296 xs))) rfl rfl (bG _) (aY _)) .nil)))) (by decide) (fun _=>Dd _ _) (hK▸tS (by rw[←Aw rfl,h1];rfl) (iI _ _).symm)
theorem jX {n:Int}(h1:-9223372036854775808≤n) (h2:n≤9223372036854775807):aE true Tryz.prog 51 [] [.one (tv (.int .i64 n))] (aM (kO n)):=by
 refine bD Tryz.func51 rfl Tryz.ntmps51 rfl aA rfl fun N w c0 h0=>?_
 obtain⟨hr1,hr2,hq1,hq2,hv1,hv2⟩:=Zu h1 h2
 refine sq ?_;refine rl ?_;refine al 0 ?_;refine nl ?_;refine sq ?_;refine rl ?_;(iterate 3 refine o1 ?_);refine o1 ?_ (hC:=(by exact⟨by omega,by simp only[fX];omega⟩))
 refine o1 ?_;refine o1 ?_;refine nl ?_;refine sq ?_;refine rl ?_;(iterate 6 refine o1 ?_)
 refine WL.cast (t:=14) (u':=.int .i64 (((Int.tmod n 4294967296).natAbs:Nat):Int)) rfl (aH (by omega)) ?_
 refine o1 ?_;refine WL.cast (t:=15) (u':=.int .u32 (((Int.tmod n 4294967296).natAbs:Nat):Int)) rfl (aH (by omega)) ?_
 (iterate 4 refine o1 ?_);refine WL.cast (t:=19) (u':=.int .i64 (((Int.tdiv n 4294967296).natAbs:Nat):Int)) rfl (aH (by omega)) ?_
 refine o1 ?_;refine WL.cast (t:=20) (u':=.int .u32 (((Int.tdiv n 4294967296).natAbs:Nat):Int)) rfl (aH (by omega)) ?_
 refine bs 1 ?_
 refine WL.sub (XL (i:=21) (zs:=[(Int.tmod n 4294967296).natAbs,(Int.tdiv n 4294967296).natAbs]) (zs':=[(Int.tmod n 4294967296).natAbs,(Int.tdiv n 4294967296).natAbs]) rfl rfl rfl rfl rfl) ?_
 refine gG 2 (kB (K:=n) (by simp) (Lim.cons (by omega) (Lim.cons (by omega) Lim.nil)) (NS hv1)) cH ⟨a1 rfl,a1 rfl,rfl⟩ ?_
 refine st ?_;refine nl ?_;refine rt ?_
 exact en (.inl rfl) rfl (aV (.agg (.cons (.id rfl) (.cons (.sl (trs:=aR (dg 4294967296 (n).natAbs)) rfl rfl (bG _) (aY _)) .nil)))) (by decide) (fun _=>dZ (n)) rfl
theorem Hv {a b:Zi}{k k':Int}(ha:Zn a k) (hb:Zn b k'):aE true Tryz.prog 49 [] [gF a,gF b] (aM (.one (tv (.int .i64 (k-k').sign)))):=by
 refine bD Tryz.func49 rfl Tryz.ntmps49 rfl aA rfl fun N w c0 h0=>?_
 have hkl:=ha.len
 have hkl':=hb.len
 refine sq ?_;refine rl ?_;refine bx 0 ?_;refine bx 1 ?_;refine o1 ?_;refine nl ?_;refine sq ?_;refine rl ?_;refine ld ?_;refine ca (fH ha) mT ⟨aB rfl,rfl⟩ (kF (k)) ?_;refine st ?_
 refine nl ?_;refine sq ?_;refine rl ?_;refine ld ?_;refine ca (fH hb) mT ⟨aB rfl,rfl⟩ (kF (k')) ?_;refine st ?_;refine nl ?_;refine sq ?_;refine bl ?_;refine sq ?_;refine rl ?_
 refine o1 ?_;refine ld ?_;refine o1 ?_;refine WL.splitb (t:=12) rfl (fun h1=>?_) (fun h1=>?_)
 ·refine o1 ?_;refine ld ?_;refine WL.splitb (t:=14) rfl (fun h2=>?_) (fun h2=>?_)
  ·(iterate 3 refine o1 ?_);refine nl ?_;refine fD rfl ?_;refine sq ?_;refine rl ?_;refine o1 ?_;refine ld ?_;refine o1 ?_;refine WL.cast (t:=20) rfl (congrArg Value.bool h2) ?_
   refine o1 ?_;refine ld ?_;refine WL.cast (t:=22) rfl (congrArg Value.bool h1) ?_;(iterate 3 refine o1 ?_);refine nl ?_;refine fD rfl ?_;refine sq ?_;refine rl ?_;refine o1 ?_
   refine ld ?_;refine o1 ?_;refine nl ?_;refine fV (congrArg (fun b=>FV.one (tv (.bool b))) h1) ?_
   refine sq ?_;refine rl ?_;refine o1 ?_;refine ld ?_;refine o1 ?_;refine ld ?_
   refine ca (Ke (by omega) (aN (by omega) _) (by omega) (aN (by omega) _)) Ra ⟨a1 rfl,a1 rfl,rfl⟩ (.one (tv (.int .i64 (((vl 4294967296 (dg 4294967296 (k').natAbs):Nat):Int)-((vl 4294967296 (dg 4294967296 (k).natAbs):Nat):Int)).sign))) ?_
   refine o1 ?_;refine nl ?_;refine rt ?_;refine en (.inl rfl) rfl (aV (aP _)) (by decide) (fun _=>trivial) (congrArg (fun z=>FV.one (tv (.int .i64 z))) ?_)
   rw[bI,bI];exact GR h1 h2
  (iterate 3 refine o1 ?_);refine nl ?_;refine fV rfl ?_;refine sq ?_;refine rl ?_;refine o1 ?_;refine nl ?_;refine rt ?_
  refine en (.inl rfl) rfl (aV (aP _)) (by decide) (fun _=>trivial) (congrArg (fun z=>FV.one (tv (.int .i64 z))) ?_)
  exact GP h1 h2
 (iterate 3 refine cG ?_);refine o1 ?_;refine o1 ?_;refine nl ?_;refine fD rfl ?_;refine sq ?_;refine rl ?_;refine o1 ?_;refine ld ?_;refine o1 ?_
 refine WL.splitb (t:=20) rfl (fun h3=>?_) (fun h3=>?_)
 ·refine o1 ?_;refine ld ?_;refine WL.cast (t:=22) rfl (congrArg Value.bool h1) ?_;(iterate 3 refine o1 ?_);refine nl ?_;refine fV rfl ?_;refine sq ?_;refine rl ?_;refine o1 ?_
  refine nl ?_;refine rt ?_;refine en (.inl rfl) rfl (aV (aP _)) (by decide) (fun _=>trivial) (congrArg (fun z=>FV.one (tv (.int .i64 z))) ?_)
  exact GQ h1 h3
 (iterate 3 refine cG ?_);refine o1 ?_;refine o1 ?_;refine nl ?_;refine fD rfl ?_;refine sq ?_;refine rl ?_;refine o1 ?_;refine ld ?_;refine o1 ?_;refine nl ?_
 refine fD (congrArg (fun b=>FV.one (tv (.bool b))) h1) ?_
 refine sk ?_;refine sq ?_;refine rl ?_;refine o1 ?_;refine ld ?_;refine o1 ?_;refine ld ?_
 refine ca (Ke (by omega) (aN (by omega) _) (by omega) (aN (by omega) _)) Ra ⟨a1 rfl,a1 rfl,rfl⟩ (.one (tv (.int .i64 (((vl 4294967296 (dg 4294967296 (k).natAbs):Nat):Int)-((vl 4294967296 (dg 4294967296 (k').natAbs):Nat):Int)).sign))) ?_
 refine o1 ?_;refine nl ?_;refine rt ?_;refine en (.inl rfl) rfl (aV (aP _)) (by decide) (fun _=>trivial) (congrArg (fun z=>FV.one (tv (.int .i64 z))) ?_)
 rw[bI,bI];exact GS h1 h3
theorem jW {a:Zi}{k:Int}(ha:Zn a k):aE true Tryz.prog 52 [] [gF a] (aM (.one (tv (.int .i64 k.sign)))):=by
 refine bD Tryz.func52 rfl Tryz.ntmps52 rfl aA rfl fun N w c0 h0=>?_
 have hkl:=ha.len
 refine sq ?_;refine rl ?_;refine bx 0 ?_;refine o1 ?_;refine nl ?_;refine sq ?_;refine rl ?_;refine ld ?_;refine o1 ?_
 refine ca (Hv ha XM) Ya ⟨aB rfl,Dp rfl (.cons .t (.cons .nil .nil)),rfl⟩ (.one (tv (.int .i64 ((k)-(0)).sign))) ?_;refine o1 ?_;refine nl ?_;refine rt ?_
 exact en (.inl rfl) rfl (aV (aP _)) (by decide) (fun _=>trivial) (congrArg (fun z=>FV.one (tv (.int .i64 z))) (by rw[Int.sub_zero]))
theorem zY {a:Zi}{k:Int}(ha:Zn a k):aE true Tryz.prog 96 [] [gF a] (aM (kO (-k))):=by
 refine bD Tryz.func96 rfl Tryz.ntmps96 rfl aA rfl fun N w c0 h0=>?_
 have hkl:=ha.len
 refine sq ?_;refine rl ?_;refine bx 0 ?_;refine al 1 ?_;refine nl ?_;refine sq ?_;refine rd [0,1] (fun i=>[8].contains i) mixed ?_
 refine aU 0 ?_;refine aU 4 ?_;refine aG 1 rfl (fH ha) mT ⟨aB rfl,rfl⟩ (kF (k)) ?_;refine df 2 ?_;refine df 3 ?_;refine aG 5 rfl (fH ha) mT ⟨aB rfl,rfl⟩ (kF (k)) ?_
 refine df 6 ?_;refine mF 2 7 rfl (kB (K:=-k) (by omega) (aN (by omega) _) (by rw[bI];exact Of k)) cH ⟨a1 rfl,a1 rfl,rfl⟩ ?_
 refine dst 8 ?_;refine aS ?_;refine rt ?_
 exact en (.inl rfl) rfl (aV (.agg (.cons (.id rfl) (.cons (.sl (trs:=aR (dg 4294967296 (-k).natAbs)) rfl rfl (bG _) (aY _)) .nil)))) (by decide) (fun _=>dZ (-k)) rfl
theorem lT {a b:Zi}{k k':Int}(ha:Zn a k) (hb:Zn b k'):aE true Tryz.prog 50 [] [gF a,gF b] (aM (kO (k+k'))):=by
 refine bD Tryz.func50 rfl Tryz.ntmps50 rfl aA rfl fun N w c0 h0=>?_
 have hkl:=ha.len
 have hkl':=hb.len
 refine sq ?_;refine rl ?_;refine bx 0 ?_;refine bx 1 ?_;refine al 2 ?_;refine nl ?_;refine sq ?_;refine rl ?_;refine ld ?_;refine ca (fH ha) mT ⟨aB rfl,rfl⟩ (kF (k)) ?_
 refine st ?_;refine nl ?_;refine sq ?_;refine rl ?_;refine ld ?_;refine ca (fH hb) mT ⟨aB rfl,rfl⟩ (kF (k')) ?_;refine st ?_;refine nl ?_;refine sq ?_;refine sq ?_;refine rl ?_
 refine o1 ?_;refine ld ?_;refine o1 ?_;refine ld ?_;refine o1 ?_;refine nl ?_;refine iW rfl (fun h1=>?_) (fun h1=>?_)
 ·refine sq ?_;refine rd [0,1,2] (fun i=>[8].contains i) mixed ?_
  refine dv 0 ?_;refine aU 1 ?_;refine dv 2 ?_;refine aU 3 ?_;refine dv 4 ?_;refine aU 5 ?_
  have hn2:=Db (xs:=(dg 4294967296 (k).natAbs)) (ys:=(dg 4294967296 (k').natAbs)) (aN (by omega) _) (aN (by omega) _)
  refine aG 6 rfl (NY (by omega) (aN (by omega) _) (by omega) (aN (by omega) _)) RI ⟨a1 rfl,a1 rfl,rfl⟩ (.one (.t (sU false (dg 4294967296 (vl 4294967296 (dg 4294967296 (k).natAbs)+vl 4294967296 (dg 4294967296 (k').natAbs)))))) ?_
  refine mF 3 7 rfl (kB (K:=k+k') (by omega) (aN (by omega) _) (by simp only[bO (B:=4294967296) (by omega)];exact Eh rfl (eq_of_beq h1))) cH ⟨a1 rfl,a1 rfl,rfl⟩ ?_
  refine dst 8 ?_;refine aS ?_;refine rt ?_
  exact en (.inl rfl) rfl (aV (.agg (.cons (.id rfl) (.cons (.sl (trs:=aR (dg 4294967296 (k+k').natAbs)) rfl rfl (bG _) (aY _)) .nil)))) (by decide) (fun _=>dZ (k+k')) rfl
 refine sk ?_;refine sq ?_;refine rl ?_;refine o1 ?_;refine ld ?_;refine o1 ?_;refine ld ?_
 have hn3:=Og (xs:=(dg 4294967296 (k).natAbs)) (ys:=(dg 4294967296 (k').natAbs)) (aN (by omega) _)
 refine ca (Wf (by omega) (aN (by omega) _) (by omega) (aN (by omega) _)) CG ⟨a1 rfl,a1 rfl,rfl⟩ (.tup [.one (.t (sU false (dg 4294967296 (vl 4294967296 (dg 4294967296 (k).natAbs)-vl 4294967296 (dg 4294967296 (k').natAbs))))),.one (tv (.int .i64 (if vl 4294967296 (dg 4294967296 (k).natAbs)<vl 4294967296 (dg 4294967296 (k').natAbs)then 2 else 0)))]) ?_
 (iterate 5 refine o1 ?_);refine nl ?_;refine sq ?_;refine sq ?_;refine rl ?_;refine o1 ?_;refine o1 ?_;refine nl ?_;refine bN rfl (fun h4=>?_) (fun h4=>?_)
 ·refine sq ?_;refine rl ?_;refine o1 ?_;refine ld ?_;refine o1 ?_
  refine gG 3 (kB (K:=k+k') (by omega) (aN (by omega) _) (by simp only[bO (B:=4294967296) (by omega)];exact Oh rfl (ne_of_beq_false h1) (fun h8=>by rw[bI,bI,if_pos h8]at h4;omega))) cH ⟨a1 rfl,a1 rfl,rfl⟩ ?_
  refine st ?_;refine nl ?_;refine rt ?_
  exact en (.inl rfl) rfl (aV (.agg (.cons (.id rfl) (.cons (.sl (trs:=aR (dg 4294967296 (k+k').natAbs)) rfl rfl (bG _) (aY _)) .nil)))) (by decide) (fun _=>dZ (k+k')) rfl
 refine sk ?_;refine sq ?_;refine rl ?_;refine o1 ?_;refine ld ?_;refine o1 ?_;refine ld ?_
 have hn5:=Og (xs:=(dg 4294967296 (k').natAbs)) (ys:=(dg 4294967296 (k).natAbs)) (aN (by omega) _)
 refine ca (Wf (by omega) (aN (by omega) _) (by omega) (aN (by omega) _)) CG ⟨a1 rfl,a1 rfl,rfl⟩ (.tup [.one (.t (sU false (dg 4294967296 (vl 4294967296 (dg 4294967296 (k').natAbs)-vl 4294967296 (dg 4294967296 (k).natAbs))))),.one (tv (.int .i64 (if vl 4294967296 (dg 4294967296 (k').natAbs)<vl 4294967296 (dg 4294967296 (k).natAbs)then 2 else 0)))]) ?_
 (iterate 4 refine o1 ?_);refine nl ?_;refine sq ?_;refine rl ?_;refine o1 ?_;refine ld ?_;refine o1 ?_
 refine gG 3 (kB (K:=k+k') (by omega) (aN (by omega) _) (by simp only[bO (B:=4294967296) (by omega)];exact Oi rfl (ne_of_beq_false h1) (Decidable.byContradiction fun h8=>h4 (by rw[bI,bI,if_neg h8])))) cH ⟨a1 rfl,a1 rfl,rfl⟩ ?_
 refine st ?_;refine nl ?_;refine rt ?_
 exact en (.inl rfl) rfl (aV (.agg (.cons (.id rfl) (.cons (.sl (trs:=aR (dg 4294967296 (k+k').natAbs)) rfl rfl (bG _) (aY _)) .nil)))) (by decide) (fun _=>dZ (k+k')) rfl
theorem NZ {a b:Zi}{k k':Int}(ha:Zn a k) (hb:Zn b k'):aE true Tryz.prog 102 [] [gF a,gF b] (aM (kO (k-k'))):=by
 refine bD Tryz.func102 rfl Tryz.ntmps102 rfl aA rfl fun N w c0 h0=>?_
 have hkl:=ha.len
 have hkl':=hb.len
 refine sq ?_;refine rl ?_;refine bx 0 ?_;refine bx 1 ?_;refine al 2 ?_;refine nl ?_;refine sq ?_;refine rd [0,1,2] (fun i=>[4].contains i) mixed ?_
 refine aU 0 ?_;refine aU 1 ?_;have hn1:=jA (k')
 refine aG 2 rfl (zY hb) Qa ⟨aB rfl,rfl⟩ (kF (-k')) ?_;refine mF 3 3 rfl (lT ha (Zn.of (k:=-k') (by omega))) sZ ⟨aB rfl,aB rfl,rfl⟩ ?_
 refine dst 4 ?_;refine aS ?_;refine rt ?_
 exact en (.inl rfl) rfl (aV (.agg (.cons (.id rfl) (.cons (.sl (trs:=aR (dg 4294967296 (k+-k').natAbs)) rfl rfl (bG _) (aY _)) .nil)))) (by decide) (fun _=>dZ (k+-k')) rfl
end Go.Proofs.YtcaakamelngceaaGreatDoor
