/- Part 12 of a proof: A4 to A5. -/
import Derived.Test.YthoemjjmkgmnjaaGreatM11
import Derived.Test.YthoemjjmkgmnjaaGreatM7
set_option maxRecDepth 100000
set_option linter.unusedVariables false
set_option linter.unusedSimpArgs false
namespace Go.Proofs.YthoemjjmkgmnjaaGreat
open Go Go.RowKit
theorem Dt {xs:List Nat}(hx:xs.length≤4398046511104):aE false Tryz.prog 172 [] [.one (.t (sI false xs))] (aN (.one (.t (sI false (trim xs))))):=by
 refine bC Tryz.func172 rfl Tryz.ntmps172 rfl aA rfl fun N w c0 h0=>?_
 refine sq ?_;refine rl ?_;refine o1 ?_;refine nl ?_;refine sq ?_;refine bl ?_
 refine lp (γ:=List Nat) (fun zs=>bS [(0,.one (.t (sI false zs)))]) (fun _=>([]:List Ob).map some) (fun zs=>trim zs=trim xs∧zs.length≤xs.length) (fun zs=>zs.length) xs ⟨rfl,Nat.le_refl _⟩ (aG h0 [] _ _ (by decide) ⟨rfl,trivial⟩ rfl) fun zs hz=>?_
 refine sq ?_;refine sq ?_;refine rl ?_;(iterate 4 refine o1 ?_);refine WL.split (t:=6) rfl (fun h1=>?_) (fun h1=>?_)
 ·(iterate 4 refine o1 ?_);refine WL.cast (t:=10) (u':=.int .i64 ((zs.length-1:Nat):Int)) rfl (aH (by omega)) ?_
  refine o1 ?_;refine cW ([.v (.int .i64 ((nth zs (zs.length-1):Nat):Int))]) (fW zs (k:=zs.length-1) (by omega)) ?_
  refine o1 ?_;refine o1 ?_;refine nl ?_;refine bP rfl (fun h2=>?_) (fun h2=>?_)
  ·refine sk ?_;refine bl ?_;refine rl ?_;(iterate 4 refine o1 ?_);refine WL.cast (t:=18) (u':=.int .i64 ((zs.length-1:Nat):Int)) rfl (aH (by omega)) ?_
   refine o1 ?_;refine o1 ?_;refine nl ?_
   exact⟨zs.take (zs.length-1),by rw[List.length_take];omega,⟨(by rw[xJ (xs:=zs) (k:=zs.length) (by omega) (Nat.le_refl _) (by omega),List.take_length];exact hz.1),by rw[List.length_take];omega⟩,aG h0 [] _ _ (by decide) ⟨congrArg some (Wm (by omega)).symm,trivial⟩ rfl⟩
  refine ex ?_;refine sq ?_;refine rl ?_;refine o1 ?_;refine o1 ?_;refine nl ?_;refine rt ?_;refine en (.inl rfl) rfl (aO (.one (.id rfl))) (by decide) (fun h=>by cases h) ?_
  have hx:trim xs=zs:=by
   rw[←hz.1];have h9:=sF (xs:=zs) (k:=zs.length) (by omega) (Nat.le_refl _) (by omega)
   rwa[List.take_length]at h9
  rw[hx];rfl
 (iterate 7 refine bF ?_);refine o1 ?_;refine nl ?_;refine iH rfl ?_;refine ex ?_;refine sq ?_;refine rl ?_;refine o1 ?_;refine o1 ?_;refine nl ?_;refine rt ?_
 refine en (.inl rfl) rfl (aO (.one (.id rfl))) (by decide) (fun h=>by cases h) ?_
 have hx:trim xs=zs:=by
  have h9:zs=[]:=List.eq_nil_of_length_eq_zero (by omega)
  rw[←hz.1,h9];rfl
 rw[hx];rfl
theorem nN {xs:List Nat}(hx:xs.length≤1099511627776) (hl:Lim 4294967296 xs):aE false Tryz.prog 143 [] [.one (.t (sU false xs))] (aN (.one (.t (sI false (dg 65536 (vl 4294967296 xs)))))):=by
 refine bC Tryz.func143 rfl Tryz.ntmps143 rfl aA rfl fun N w c0 h0=>?_
 refine sq ?_;refine rl ?_;refine o1 ?_;refine nl ?_;refine sq ?_;refine rl ?_;refine o1 ?_;refine nl ?_;refine sq ?_;refine sq ?_;refine rl ?_;refine o1 ?_;refine nl ?_;refine bl ?_
 refine lp (γ:=Nat) (fun k=>bS [(0,.one (.t (sU false xs))),(3,.one (.sl 0 0 (2*k))),(4,.one (tv (.int .i64 ((k:Nat):Int))))]) (fun k=>[(⟨3,1,(eO (hv (xs.take k))).map .t⟩:Ob)].map some) (fun k=>k≤xs.length) (fun k=>xs.length-k) 0 (Nat.zero_le _) ((nr (i:=3) 0 3 1 rfl rfl rfl rfl).trans (aG h0 [0] _ _ (by decide) ⟨rfl,rfl,rfl,trivial⟩ ⟨aQ (l:=[]) rfl,rfl⟩)) fun k hk=>?_
 have hn:=hl.nth (by omega) k
 refine sq ?_;refine sq ?_;refine rl ?_;(iterate 4 refine o1 ?_);refine nl ?_;refine bP rfl (fun h1=>?_) (fun h1=>?_)
 ·refine sk ?_;refine sq ?_;refine bl ?_;refine rd [] (fun i=>[15].contains i) mixed ?_
  refine dv 0 ?_;refine dv 1 ?_;refine dv 2 ?_;refine dv 3 ?_;refine cM 4 ([.v (.int .u32 ((nth xs (k):Nat):Int))]) (rI xs (k:=k) (by omega)) ?_
  refine dv 5 ?_;refine WD.cast (t:=16) (u':=.int .u32 ((nth xs k%65536:Nat):Int)) rfl (aH (mE _ 65536)) ?_;refine dv 6 ?_;refine dv 7 ?_;refine dv 8 ?_;refine dv 9 ?_
  refine cM 10 ([.v (.int .u32 ((nth xs (k):Nat):Int))]) (rI xs (k:=k) (by omega)) ?_
  refine dv 11 ?_ (hC:=(iT 65536 (by omega) (by simp only[jH];omega)))
  refine WD.cast (t:=22) (u':=.int .u32 ((nth xs k/65536:Nat):Int)) rfl (aH (gC _ 65536)) ?_;refine dv 12 ?_;refine eZ (key:=1) 13 (by kernel_rfl) rfl rfl aA rfl trivial ?_
  refine EO (j:=2) 14 rfl aA rfl rfl rfl (.sl rfl (by rw[List.length_map,iU,rJ,List.length_take];omega)) (.sl rfl rfl rfl) rfl rfl (by omega) (by omega) rfl rfl (by kernel_rfl) rfl ?_
  refine cR 15 (by kernel_rfl) rfl rfl aA rfl (by trivial) ?_ (fun h=>by first | rfl | cases h)
  refine aJ ?_;refine rl ?_;(iterate 3 refine o1 ?_);refine nl ?_
  exact⟨k+1,by omega,by omega,aG h0 [2] _ _ (by decide) ⟨rfl,rfl,rfl,trivial⟩ ⟨nV rfl (iV _ [nth xs k%65536,nth xs k/65536]) (Pu (by omega)).symm,rfl⟩⟩
 refine ex ?_;refine sq ?_;refine rl ?_;refine WL.sub (Bh (i:=3) (zs':=hv xs) rfl rfl rfl (by rw[rJ,List.length_take];omega) (by rw[List.take_of_length_le (by omega)])) ?_
 refine o1 ?_;refine ca (Dt (by rw[rJ];omega)) Du ⟨a1 rfl,rfl⟩ (.one (.t (sI false (trim (hv xs))))) ?_
 refine o1 ?_;refine nl ?_;refine rt ?_;exact en (.inl rfl) rfl (aO (.one (.id rfl))) (by decide) (fun h=>by cases h) (by rw[EQ hl];rfl)
theorem wB {xs zs:List Nat}(hx:xs.length≤4398046511104) (hl:Lim 65536 xs) (hz:lb xs=zs):aE true Tryz.prog 141 [] [.one (.t (sI false xs))] (aN (.one (.t (sU true zs)))):=by
 refine bC Tryz.func141 rfl Tryz.ntmps141 rfl aA rfl fun N w c0 h0=>?_
 refine sq ?_;refine rl ?_;refine o1 ?_;refine nl ?_;refine sq ?_;refine rl ?_;(iterate 3 refine o1 ?_)
 refine WL.cast (t:=7) (u':=.int .i64 ((xs.length+1:Nat):Int)) rfl (aH (by omega)) ?_
 refine o1 ?_ (hC:=(iT 2 (by omega) (by simp only[jH];omega)))
 refine WL.cast (t:=8) (u':=.int .i64 (((xs.length+1)/2:Nat):Int)) rfl (aH (gC _ 2)) ?_;refine mk (m:=(xs.length+1)/2) 0 (by omega) (AX _) ?_
 refine o1 ?_;refine nl ?_;refine sq ?_;refine sq ?_;refine rl ?_;refine o1 ?_;refine nl ?_;refine bl ?_
 refine lp (γ:=Nat) (fun k=>bS [(0,.one (.t (sI false xs))),(3,.one (.sl 0 0 ((xs.length+1)/2))),(4,.one (tv (.int .i64 ((k:Nat):Int))))]) (fun k=>[(⟨109,1,(aV (lR xs k ((xs.length+1)/2))).map .t⟩:Ob)].map some) (fun k=>k≤xs.length) (fun k=>xs.length-k) 0 (Nat.zero_le _) (aG h0 [0] _ _ (by decide) ⟨rfl,rfl,rfl,trivial⟩ ⟨Wn rfl rfl AY.symm,rfl⟩) fun k hk=>?_
 have hn:=hl.nth (by omega) k
 have hln:=HZ (l:=xs) (k:=k) (N:=(xs.length+1)/2) rfl hk
 refine sq ?_;refine sq ?_;refine rl ?_;(iterate 4 refine o1 ?_);refine nl ?_;refine bP rfl (fun h1=>?_) (fun h1=>?_)
 ·refine sk ?_;refine sq ?_;refine bl ?_;refine sq ?_;refine rl ?_;refine o1 ?_;refine o1 ?_;refine WL.cast (t:=17) (u':=.int .i64 ((k%2:Nat):Int)) rfl (aH (mE _ 2)) ?_
  refine o1 ?_;refine nl ?_;refine bP rfl (fun h2=>?_) (fun h2=>?_)
  ·refine rl ?_;refine o1 ?_;refine o1 ?_;refine o1 ?_ (hC:=(iT 2 (by omega) (by simp only[jH];omega)))
   refine WL.cast (t:=21) (u':=.int .i64 ((k/2:Nat):Int)) rfl (aH (gC _ 2)) ?_;(iterate 3 refine o1 ?_)
   refine cW ([.v (.int .i64 ((nth xs (k):Nat):Int))]) (fW xs (k:=k) (by omega)) ?_
   refine o1 ?_;refine WL.cast (t:=26) (u':=.int .u32 ((nth xs k:Nat):Int)) rfl (aH rfl) ?_;refine o1 ?_
   refine Hq (Pz (lR xs k ((xs.length+1)/2)) (k:=k/2) (v:=nth xs k) (by omega)) (Ws (lR xs k ((xs.length+1)/2)) (by omega)) ?_
   refine nl ?_;refine rl ?_;refine o1 ?_;refine o1 ?_;refine WL.cast (t:=15) (u':=.int .i64 ((k+1:Nat):Int)) rfl (aH (by omega)) ?_
   refine o1 ?_;refine nl ?_;exact⟨k+1,by omega,by omega,aG h0 [0] _ _ (by decide) ⟨rfl,rfl,rfl,trivial⟩ ⟨Wn rfl rfl (AZ rfl (by omega) (by omega)),rfl⟩⟩
  have hnt:=Bi (l:=xs) (k:=k) (N:=(xs.length+1)/2) rfl (by omega) (by omega)
  have hb1:=hl.nth (by omega) (k-1)
  refine rd [0] (fun i=>[16].contains i) mixed ?_
  refine dv 0 ?_;refine dv 1 ?_;refine dv 2 ?_ (hC:=(iT 2 (by omega) (by simp only[jH];omega)))
  refine WD.cast (t:=30) (u':=.int .i64 ((k/2:Nat):Int)) rfl (aH (gC _ 2)) ?_;refine dv 3 ?_;refine dv 4 ?_
  refine dv 5 ?_ (hC:=(iT 2 (by omega) (by simp only[jH];omega)))
  refine WD.cast (t:=33) (u':=.int .i64 ((k/2:Nat):Int)) rfl (aH (gC _ 2)) ?_;refine dv 6 ?_;refine LU 7 (ND (lR xs k ((xs.length+1)/2)) (k:=k/2) (by omega)) ?_
  refine dv 8 ?_;refine dv 9 ?_;refine dv 10 ?_;refine cM 11 ([.v (.int .i64 ((nth xs (k):Nat):Int))]) (fW xs (k:=k) (by omega)) ?_
  refine dv 12 ?_;refine dv 13 ?_;refine dv 14 ?_
  refine WD.cast (t:=42) (u':=.int .u32 ((nth (lR xs k ((xs.length+1)/2)) (k/2)+65536*nth xs k:Nat):Int)) rfl (aH (by omega)) ?_
  refine dv 15 ?_
  refine Sx 16 (Pz (lR xs k ((xs.length+1)/2)) (k:=k/2) (v:=nth (lR xs k ((xs.length+1)/2)) (k/2)+65536*nth xs k) (by omega)) (Ws (lR xs k ((xs.length+1)/2)) (by omega)) ?_
  refine aJ ?_;refine rl ?_;refine o1 ?_;refine o1 ?_;refine WL.cast (t:=15) (u':=.int .i64 ((k+1:Nat):Int)) rfl (aH (by omega)) ?_
  refine o1 ?_;refine nl ?_;exact⟨k+1,by omega,by omega,aG h0 [0] _ _ (by decide) ⟨rfl,rfl,rfl,trivial⟩ ⟨Wn rfl rfl (IA rfl (by omega) (by omega)),rfl⟩⟩
 refine ex ?_;refine sq ?_;refine rl ?_;refine o1 ?_;refine o1 ?_;refine nl ?_;refine rt ?_
 exact en (.inl rfl) rfl (aO (.one (.sl (trs:=aV (lb xs)) rfl rfl (by rw[IB rfl (by omega),Nat.mul_one,List.take_of_length_le (by simp[iW,jS])]) (by simp[iW,jS])))) (by decide) (fun _=>.inl ⟨rfl,fI _⟩) (by subst hz;unfold sU;rw[jS];rfl)
theorem La {xs ys:List Nat}(hx:xs.length≤1099511627776) (hy:ys.length≤1099511627776) (hlx:Lim 65536 xs) (hly:Lim 65536 ys):aE false Tryz.prog 142 [] [.one (.t (sI false xs)),.one (.t (sI false ys))] (aN (.one (.t (sI false (dg 65536 (vl 65536 xs*vl 65536 ys)))))):=by
 refine bC Tryz.func142 rfl Tryz.ntmps142 rfl aA rfl fun N w c0 h0=>?_
 refine sq ?_;refine rl ?_;refine o1 ?_;refine nl ?_;refine sq ?_;refine rl ?_;(iterate 5 refine o1 ?_)
 refine WL.cast (t:=14) (u':=.int .i64 ((xs.length+ys.length:Nat):Int)) rfl (aH (by omega)) ?_
 refine o1 ?_;refine WL.cast (t:=15) (u':=.int .i64 ((xs.length+ys.length+1:Nat):Int)) rfl (aH (by omega)) ?_
 refine mk (m:=xs.length+ys.length+1) 0 (by omega) (Lb _) ?_
 refine o1 ?_;refine nl ?_;refine sq ?_;refine sq ?_;refine rl ?_;refine o1 ?_;refine nl ?_;refine bl ?_
 refine lp (γ:=Nat×List Nat) (fun s=>bS [(0,.one (.t (sI false xs))),(1,.one (.t (sI false ys))),(5,.one (.sl 0 0 (xs.length+ys.length+1))),(6,.one (tv (.int .i64 ((s.1:Nat):Int))))]) (fun s=>[(⟨3,1,(eO s.2).map .t⟩:Ob)].map some) (fun s=>s.1≤xs.length∧Lim 65536 s.2∧s.2.length=xs.length+ys.length+1∧vl 65536 s.2=vl 65536 (xs.take s.1)*vl 65536 ys) (fun s=>xs.length-s.1) (0,List.replicate (xs.length+ys.length+1) 0) ⟨Nat.zero_le _,Lim.replicate (by omega) _,List.length_replicate,by rw[xH];simp[vl]⟩ (aG h0 [0] _ _ (by decide) ⟨rfl,rfl,rfl,rfl,trivial⟩ ⟨nV rfl rfl rfl,rfl⟩) ?_
 rintro⟨i,os⟩ ⟨hi,hol,hos,hv⟩;dsimp only at hi hol hos hv⊢;refine sq ?_;refine sq ?_;refine rl ?_;(iterate 4 refine o1 ?_);refine nl ?_;refine bP rfl (fun h1=>?_) (fun h1=>?_)
 ·refine sk ?_;refine sq ?_;refine bl ?_;refine sq ?_;refine rl ?_;refine o1 ?_;refine nl ?_;refine sq ?_;refine rl ?_;refine o1 ?_;refine nl ?_;refine bl ?_
  have hil:=hlx.nth (by omega) i
  refine lp (γ:=Nat×Nat×List Nat) (fun s=>bS [(0,.one (.t (sI false xs))),(1,.one (.t (sI false ys))),(5,.one (.sl 0 0 (xs.length+ys.length+1))),(6,.one (tv (.int .i64 ((i:Nat):Int)))),(7,.one (tv (.int .i64 ((s.2.1:Nat):Int)))),(8,.one (tv (.int .i64 ((s.1:Nat):Int))))]) (fun s=>[(⟨3,1,(eO s.2.2).map .t⟩:Ob)].map some) (fun s=>s.1≤ys.length+1∧Lim 65536 s.2.2∧s.2.2.length=xs.length+ys.length+1∧vl 65536 s.2.2+65536^(i+s.1)*s.2.1=vl 65536 (xs.take i)*vl 65536 ys+65536^i*(nth xs i*vl 65536 (ys.take s.1))∧s.2.1≤65535) (fun s=>ys.length+1-s.1) (0,0,os) ⟨Nat.zero_le _,hol,hos,by dsimp only;rw[hv];simp[vl],Nat.zero_le _⟩ (aG h0 [0] _ _ (by decide) ⟨rfl,rfl,rfl,rfl,rfl,rfl,trivial⟩ ⟨nV rfl rfl rfl,rfl⟩) ?_
  rintro⟨k,cr,os2⟩ ⟨hk,hol2,hos2,hv2,hcb⟩;dsimp only at hk hol2 hos2 hv2 hcb⊢;refine sq ?_;refine sq ?_;refine rl ?_;(iterate 5 refine o1 ?_)
  refine WL.split (t:=27) rfl (fun h2=>?_) (fun h2=>?_)
  ·refine bF ?_;refine bF ?_;refine o1 ?_;refine nl ?_;refine gL rfl ?_;refine sk ?_;refine sq ?_;refine bl ?_;refine sq ?_
   have hkl:k≤ys.length:=by first | omega | exact Lc hlx hly (by omega) hk hv2 (by omega)
   have hon:=hol2.nth (by omega) (i+k)
   have hyn:=hly.nth (by omega) k
   have hmul:=Nat.mul_le_mul (Nat.le_of_lt_succ hil) (Nat.le_of_lt_succ hyn)
   refine rl ?_;(iterate 4 refine o1 ?_);refine WL.cast (t:=36) (u':=.int .i64 ((i+k:Nat):Int)) rfl (aH (by omega)) ?_
   refine o1 ?_;refine NE (Ld os2 (k:=i+k) (by omega)) ?_
   refine o1 ?_;refine o1 ?_;refine WL.cast (t:=40) (u':=.int .i64 ((nth os2 (i+k)+cr:Nat):Int)) rfl (aH (by omega)) ?_
   refine o1 ?_;refine nl ?_;refine sq ?_;refine sq ?_;refine rl ?_;(iterate 4 refine o1 ?_);refine nl ?_;refine bP rfl (fun h3=>?_) (fun h3=>?_)
   ·refine rd [] (fun i=>[11].contains i) mixed ?_
    refine dv 0 ?_;refine dv 1 ?_;refine dv 2 ?_;refine dv 3 ?_;refine cM 4 ([.v (.int .i64 ((nth xs (i):Nat):Int))]) (fW xs (k:=i) (by omega)) ?_
    refine dv 5 ?_;refine dv 6 ?_;refine dv 7 ?_;refine cM 8 ([.v (.int .i64 ((nth ys (k):Nat):Int))]) (fW ys (k:=k) (by omega)) ?_
    refine dv 9 ?_;refine WD.cast (t:=54) (u':=.int .i64 ((nth xs i*nth ys k:Nat):Int)) rfl (aH (Int.natCast_mul _ _).symm) ?_;refine dv 10 ?_
    refine WD.cast (t:=55) (u':=.int .i64 ((nth os2 (i+k)+cr+nth xs i*nth ys k:Nat):Int)) rfl (aH (by omega)) ?_
    refine cR 11 (by kernel_rfl) rfl rfl aA rfl (by trivial) ?_ (fun h=>by first | rfl | cases h)
    refine aJ ?_;refine sq ?_;refine rl ?_;(iterate 4 refine o1 ?_);refine WL.cast (t:=59) (u':=.int .i64 ((i+k:Nat):Int)) rfl (aH (by omega)) ?_
    refine o1 ?_;refine o1 ?_;refine WL.cast (t:=61) (u':=.int .i64 (((nth os2 (i+k)+cr+nth xs i*nth ys k)%65536:Nat):Int)) rfl (aH (mE _ 65536)) ?_;refine o1 ?_
    refine Hq (uL os2 (k:=i+k) (v:=(nth os2 (i+k)+cr+nth xs i*nth ys k)%65536) (by omega)) (xY os2 (by omega)) ?_
    refine nl ?_;refine rl ?_;refine o1 ?_;refine o1 ?_ (hC:=(iT 65536 (by omega) (by simp only[jH];omega)))
    refine WL.cast (t:=64) (u':=.int .i64 (((nth os2 (i+k)+cr+nth xs i*nth ys k)/65536:Nat):Int)) rfl (aH (gC _ 65536)) ?_;refine o1 ?_;refine nl ?_;refine rl ?_
    refine o1 ?_;refine o1 ?_;refine WL.cast (t:=32) (u':=.int .i64 ((k+1:Nat):Int)) rfl (aH (by omega)) ?_
    refine o1 ?_;refine nl ?_;have hst:=qJ (x:=nth os2 (i+k)+cr+nth xs i*nth ys k) (by omega) hv2 (by rfl)
    exact⟨(k+1,(nth os2 (i+k)+cr+nth xs i*nth ys k)/65536,os2.set (i+k) ((nth os2 (i+k)+cr+nth xs i*nth ys k)%65536)),by dsimp only;omega,⟨by dsimp only;omega,hol2.set _ (Nat.mod_lt _ (by omega)),by rw[List.length_set];exact hos2,hst,by dsimp only;omega⟩,aG h0 [0] _ _ (by decide) ⟨rfl,rfl,rfl,rfl,rfl,rfl,trivial⟩ ⟨nV rfl rfl rfl,rfl⟩⟩
   refine sk ?_;refine sq ?_;refine rl ?_;(iterate 4 refine o1 ?_);refine WL.cast (t:=59) (u':=.int .i64 ((i+k:Nat):Int)) rfl (aH (by omega)) ?_
   refine o1 ?_;refine o1 ?_;refine WL.cast (t:=61) (u':=.int .i64 (((nth os2 (i+k)+cr)%65536:Nat):Int)) rfl (aH (mE _ 65536)) ?_;refine o1 ?_
   refine Hq (uL os2 (k:=i+k) (v:=(nth os2 (i+k)+cr)%65536) (by omega)) (xY os2 (by omega)) ?_
   refine nl ?_;refine rl ?_;refine o1 ?_;refine o1 ?_ (hC:=(iT 65536 (by omega) (by simp only[jH];omega)))
   refine WL.cast (t:=64) (u':=.int .i64 (((nth os2 (i+k)+cr)/65536:Nat):Int)) rfl (aH (gC _ 65536)) ?_;refine o1 ?_;refine nl ?_;refine rl ?_;refine o1 ?_;refine o1 ?_
   refine WL.cast (t:=32) (u':=.int .i64 ((k+1:Nat):Int)) rfl (aH (by omega)) ?_
   refine o1 ?_;refine nl ?_;have hny:nth ys k=0:=eW (by omega)
   have hst:=qJ (x:=nth os2 (i+k)+cr) (by omega) hv2 (by rw[hny,Nat.mul_zero,Nat.add_zero])
   exact⟨(k+1,(nth os2 (i+k)+cr)/65536,os2.set (i+k) ((nth os2 (i+k)+cr)%65536)),by dsimp only;omega,⟨by dsimp only;omega,hol2.set _ (Nat.mod_lt _ (by omega)),by rw[List.length_set];exact hos2,hst,by dsimp only;omega⟩,aG h0 [0] _ _ (by decide) ⟨rfl,rfl,rfl,rfl,rfl,rfl,trivial⟩ ⟨nV rfl rfl rfl,rfl⟩⟩
  (iterate 3 refine o1 ?_);refine nl ?_;refine bP rfl (fun h4=>?_) (fun h4=>?_)
  ·refine sk ?_;refine sq ?_;refine bl ?_;refine sq ?_;have hkl:k≤ys.length:=by first | omega | exact Lc hlx hly (by omega) hk hv2 (by omega)
   have hon:=hol2.nth (by omega) (i+k)
   have hyn:=hly.nth (by omega) k
   have hmul:=Nat.mul_le_mul (Nat.le_of_lt_succ hil) (Nat.le_of_lt_succ hyn)
   refine rl ?_;(iterate 4 refine o1 ?_);refine WL.cast (t:=36) (u':=.int .i64 ((i+k:Nat):Int)) rfl (aH (by omega)) ?_
   refine o1 ?_;refine NE (Ld os2 (k:=i+k) (by omega)) ?_
   refine o1 ?_;refine o1 ?_;refine WL.cast (t:=40) (u':=.int .i64 ((nth os2 (i+k)+cr:Nat):Int)) rfl (aH (by omega)) ?_
   refine o1 ?_;refine nl ?_;refine sq ?_;refine sq ?_;refine rl ?_;(iterate 4 refine o1 ?_);refine nl ?_;refine bP rfl (fun h5=>?_) (fun h5=>?_)
   ·refine rd [] (fun i=>[11].contains i) mixed ?_
    refine dv 0 ?_;refine dv 1 ?_;refine dv 2 ?_;refine dv 3 ?_;refine cM 4 ([.v (.int .i64 ((nth xs (i):Nat):Int))]) (fW xs (k:=i) (by omega)) ?_
    refine dv 5 ?_;refine dv 6 ?_;refine dv 7 ?_;refine cM 8 ([.v (.int .i64 ((nth ys (k):Nat):Int))]) (fW ys (k:=k) (by omega)) ?_
    refine dv 9 ?_;refine WD.cast (t:=54) (u':=.int .i64 ((nth xs i*nth ys k:Nat):Int)) rfl (aH (Int.natCast_mul _ _).symm) ?_;refine dv 10 ?_
    refine WD.cast (t:=55) (u':=.int .i64 ((nth os2 (i+k)+cr+nth xs i*nth ys k:Nat):Int)) rfl (aH (by omega)) ?_
    refine cR 11 (by kernel_rfl) rfl rfl aA rfl (by trivial) ?_ (fun h=>by first | rfl | cases h)
    refine aJ ?_;refine sq ?_;refine rl ?_;(iterate 4 refine o1 ?_);refine WL.cast (t:=59) (u':=.int .i64 ((i+k:Nat):Int)) rfl (aH (by omega)) ?_
    refine o1 ?_;refine o1 ?_;refine WL.cast (t:=61) (u':=.int .i64 (((nth os2 (i+k)+cr+nth xs i*nth ys k)%65536:Nat):Int)) rfl (aH (mE _ 65536)) ?_;refine o1 ?_
    refine Hq (uL os2 (k:=i+k) (v:=(nth os2 (i+k)+cr+nth xs i*nth ys k)%65536) (by omega)) (xY os2 (by omega)) ?_
    refine nl ?_;refine rl ?_;refine o1 ?_;refine o1 ?_ (hC:=(iT 65536 (by omega) (by simp only[jH];omega)))
    refine WL.cast (t:=64) (u':=.int .i64 (((nth os2 (i+k)+cr+nth xs i*nth ys k)/65536:Nat):Int)) rfl (aH (gC _ 65536)) ?_;refine o1 ?_;refine nl ?_;refine rl ?_
    refine o1 ?_;refine o1 ?_;refine WL.cast (t:=32) (u':=.int .i64 ((k+1:Nat):Int)) rfl (aH (by omega)) ?_
    refine o1 ?_;refine nl ?_;have hst:=qJ (x:=nth os2 (i+k)+cr+nth xs i*nth ys k) (by omega) hv2 (by rfl)
    exact⟨(k+1,(nth os2 (i+k)+cr+nth xs i*nth ys k)/65536,os2.set (i+k) ((nth os2 (i+k)+cr+nth xs i*nth ys k)%65536)),by dsimp only;omega,⟨by dsimp only;omega,hol2.set _ (Nat.mod_lt _ (by omega)),by rw[List.length_set];exact hos2,hst,by dsimp only;omega⟩,aG h0 [0] _ _ (by decide) ⟨rfl,rfl,rfl,rfl,rfl,rfl,trivial⟩ ⟨nV rfl rfl rfl,rfl⟩⟩
   refine sk ?_;refine sq ?_;refine rl ?_;(iterate 4 refine o1 ?_);refine WL.cast (t:=59) (u':=.int .i64 ((i+k:Nat):Int)) rfl (aH (by omega)) ?_
   refine o1 ?_;refine o1 ?_;refine WL.cast (t:=61) (u':=.int .i64 (((nth os2 (i+k)+cr)%65536:Nat):Int)) rfl (aH (mE _ 65536)) ?_;refine o1 ?_
   refine Hq (uL os2 (k:=i+k) (v:=(nth os2 (i+k)+cr)%65536) (by omega)) (xY os2 (by omega)) ?_
   refine nl ?_;refine rl ?_;refine o1 ?_;refine o1 ?_ (hC:=(iT 65536 (by omega) (by simp only[jH];omega)))
   refine WL.cast (t:=64) (u':=.int .i64 (((nth os2 (i+k)+cr)/65536:Nat):Int)) rfl (aH (gC _ 65536)) ?_;refine o1 ?_;refine nl ?_;refine rl ?_;refine o1 ?_;refine o1 ?_
   refine WL.cast (t:=32) (u':=.int .i64 ((k+1:Nat):Int)) rfl (aH (by omega)) ?_
   refine o1 ?_;refine nl ?_;have hny:nth ys k=0:=eW (by omega)
   have hst:=qJ (x:=nth os2 (i+k)+cr) (by omega) hv2 (by rw[hny,Nat.mul_zero,Nat.add_zero])
   exact⟨(k+1,(nth os2 (i+k)+cr)/65536,os2.set (i+k) ((nth os2 (i+k)+cr)%65536)),by dsimp only;omega,⟨by dsimp only;omega,hol2.set _ (Nat.mod_lt _ (by omega)),by rw[List.length_set];exact hos2,hst,by dsimp only;omega⟩,aG h0 [0] _ _ (by decide) ⟨rfl,rfl,rfl,rfl,rfl,rfl,trivial⟩ ⟨nV rfl rfl rfl,rfl⟩⟩
  refine ex ?_;refine rl ?_;refine o1 ?_;refine o1 ?_;refine WL.cast (t:=22) (u':=.int .i64 ((i+1:Nat):Int)) rfl (aH (by omega)) ?_
  refine o1 ?_;refine nl ?_;have hcr0:cr=0:=by omega
  rw[hcr0,Nat.mul_zero,Nat.add_zero,Dv (by omega)]at hv2
  exact⟨(i+1,os2),by dsimp only;omega,⟨by dsimp only;omega,hol2,hos2,hv2⟩,aG h0 [0] _ _ (by decide) ⟨rfl,rfl,rfl,rfl,trivial⟩ ⟨nV rfl rfl rfl,rfl⟩⟩
 refine ex ?_;refine sq ?_;refine rl ?_;rw[bU 65536 (by omega)]at hv
 refine WL.sub (Bh (i:=5) (zs':=os) rfl rfl rfl (by omega) rfl) ?_
 refine o1 ?_;refine ca (Dt (by omega)) Du ⟨a1 rfl,rfl⟩ (.one (.t (sI false (trim os)))) ?_
 refine o1 ?_;refine nl ?_;refine rt ?_;exact en (.inl rfl) rfl (aO (.one (.id rfl))) (by decide) (fun h=>by cases h) (by rw[Jc (by omega) hol hv];rfl)
theorem iX {a b:Zi}{k k':Int}(ha:Zn a k) (hb:Zn b k'):aE true Tryz.prog 97 [] [gF a,gF b] (aN (kO (k*k'))):=by
 refine bC Tryz.func97 rfl Tryz.ntmps97 rfl aA rfl fun N w c0 h0=>?_
 have hkl:=ha.len
 have hkl':=hb.len
 refine sq ?_;refine rl ?_;refine bx 0 ?_;refine bx 1 ?_;refine al 2 ?_;refine nl ?_;refine sq ?_;refine rl ?_;refine ld ?_;refine ca (iD ha) nA ⟨aB rfl,rfl⟩ (kF (k)) ?_
 refine st ?_;refine nl ?_;refine sq ?_;refine rl ?_;refine ld ?_;refine ca (iD hb) nA ⟨aB rfl,rfl⟩ (kF (k')) ?_;refine st ?_;refine nl ?_;refine sq ?_
 refine rd [0,1,2] (fun i=>[14].contains i) mixed ?_
 refine dv 0 ?_;refine aI 1 ?_;refine dv 2 ?_;refine aI 3 ?_;refine dv 4 ?_;refine dv 5 ?_;refine aI 6 ?_;refine dv 8 ?_;refine aI 9 ?_
 have hn1:=eQ (v:=vl 4294967296 (dg 4294967296 (k).natAbs)) (L:=(dg 4294967296 (k).natAbs).length) (by rw[cF (by omega)];exact Nat.le_refl _)
 refine aF 7 rfl (nN (by omega) (aS (by omega) _)) zY ⟨a1 rfl,rfl⟩ (.one (.t (sI false (dg 65536 (vl 4294967296 (dg 4294967296 (k).natAbs)))))) ?_
 have hn2:=eQ (v:=vl 4294967296 (dg 4294967296 (k').natAbs)) (L:=(dg 4294967296 (k').natAbs).length) (by rw[cF (by omega)];exact Nat.le_refl _)
 refine aF 10 rfl (nN (by omega) (aS (by omega) _)) zY ⟨a1 rfl,rfl⟩ (.one (.t (sI false (dg 65536 (vl 4294967296 (dg 4294967296 (k').natAbs)))))) ?_
 have hn3:=xZ (xs:=(dg 65536 (vl 4294967296 (dg 4294967296 (k).natAbs)))) (ys:=(dg 65536 (vl 4294967296 (dg 4294967296 (k').natAbs)))) (aS (by omega) _) (aS (by omega) _)
 refine aF 11 rfl (La (by omega) (by omega) (aS (by omega) _) (aS (by omega) _)) ET ⟨a1 rfl,a1 rfl,rfl⟩ (.one (.t (sI false (dg 65536 (vl 65536 (dg 65536 (vl 4294967296 (dg 4294967296 (k).natAbs)))*vl 65536 (dg 65536 (vl 4294967296 (dg 4294967296 (k').natAbs)))))))) ?_
 have hn4:=nX (vl 65536 (dg 65536 (vl 4294967296 (dg 4294967296 (k).natAbs)))*vl 65536 (dg 65536 (vl 4294967296 (dg 4294967296 (k').natAbs))))
 refine aF 12 rfl (wB (zs:=(dg 4294967296 (vl 65536 (dg 65536 (vl 4294967296 (dg 4294967296 (k).natAbs)))*vl 65536 (dg 65536 (vl 4294967296 (dg 4294967296 (k').natAbs)))))) (by omega) (aS (by omega) _) (zX _)) fP ⟨a1 rfl,rfl⟩ (.one (.t (sU false (dg 4294967296 (vl 65536 (dg 65536 (vl 4294967296 (dg 4294967296 (k).natAbs)))*vl 65536 (dg 65536 (vl 4294967296 (dg 4294967296 (k').natAbs)))))))) ?_
 refine kG 3 13 rfl (mF (K:=k*k') (by omega) (aS (by omega) _) (by simp only[cF (B:=4294967296) (by omega),cF (B:=65536) (by omega)];exact Qa k k')) cU ⟨a1 rfl,a1 rfl,rfl⟩ ?_
 refine dst 14 ?_;refine aJ ?_;refine rt ?_
 exact en (.inl rfl) rfl (aO (.agg (.cons (.id rfl) (.cons (.sl (trs:=aV (dg 4294967296 (k*k').natAbs)) rfl rfl (bB _) (aY _)) .nil)))) (by decide) (fun _=>fB (k*k')) rfl
theorem IC {u v:Nat}(hx:(dg 65536 (u)).length≤4398046511104) (hy:(dg 65536 (v)).length≤4398046511104):aE true Tryz.prog 191 [] [.one (.t (sI false (dg 65536 u))),.one (.t (sI false (dg 65536 v)))] (aN (.one (tv (.bool (decide (u<v)))))):=by
 refine bC Tryz.func191 rfl Tryz.ntmps191 rfl aA rfl fun N w c0 h0=>?_
 refine sq ?_;refine rl ?_;refine o1 ?_;refine nl ?_;refine sq ?_;refine sq ?_;refine rl ?_;(iterate 5 refine o1 ?_);refine nl ?_;refine bP rfl (fun h1=>?_) (fun h1=>?_)
 ·refine sq ?_;refine rl ?_;(iterate 6 refine o1 ?_);refine nl ?_;refine rt ?_
  refine en (.inl rfl) rfl (aO (bL _)) (by decide) (fun _=>trivial) (congrArg (fun z=>FV.one (tv (.bool z))) ?_)
  exact BA rfl rfl (by omega)
 refine sk ?_;refine sq ?_;refine sq ?_;refine rl ?_;(iterate 4 refine o1 ?_);refine nl ?_;refine bl ?_
 refine lp (γ:=Nat) (fun k=>bS [(0,.one (.t (sI false (dg 65536 u)))),(1,.one (.t (sI false (dg 65536 v)))),(5,.one (tv (.int .i64 ((k:Nat)-1))))]) (fun k=>([]:List Ob).map some) (fun k=>(∀j,k≤j→nth (dg 65536 (u)) j=nth (dg 65536 (v)) j)∧k≤(dg 65536 (u)).length) (fun k=>k) (dg 65536 (u)).length ⟨fun j hj=>by rw[eW (by omega),eW (by omega)],Nat.le_refl _⟩ (aG h0 [] _ _ (by decide) ⟨rfl,rfl,rfl,trivial⟩ rfl) fun k hk=>?_
 refine sq ?_;refine sq ?_;refine rl ?_;refine o1 ?_;refine o1 ?_;refine nl ?_;refine bP rfl (fun h2=>?_) (fun h2=>?_)
 ·refine sk ?_;refine sq ?_;refine bl ?_;refine sq ?_;refine rd [] (fun i=>[].contains i) mixed ?_
  refine dv 0 ?_;refine dv 1 ?_;refine WD.cast (t:=24) (u':=.int .i64 ((k-1:Nat):Int)) rfl (aH (by omega)) ?_
  refine dv 2 ?_;refine cM 3 ([.v (.int .i64 ((nth (dg 65536 (u)) (k-1):Nat):Int))]) (fW (dg 65536 (u)) (k:=k-1) (by omega)) ?_
  refine dv 4 ?_;refine dv 5 ?_;refine WD.cast (t:=28) (u':=.int .i64 ((k-1:Nat):Int)) rfl (aH (by omega)) ?_
  refine dv 6 ?_;refine cM 7 ([.v (.int .i64 ((nth (dg 65536 (v)) (k-1):Nat):Int))]) (fW (dg 65536 (v)) (k:=k-1) (by omega)) ?_
  refine dv 8 ?_;refine aJ ?_;refine bP rfl (fun h3=>?_) (fun h3=>?_)
  ·refine sq ?_;refine rd [] (fun i=>[9].contains i) mixed ?_
   refine dv 0 ?_;refine dv 1 ?_;refine WD.cast (t:=33) (u':=.int .i64 ((k-1:Nat):Int)) rfl (aH (by omega)) ?_
   refine dv 2 ?_;refine cM 3 ([.v (.int .i64 ((nth (dg 65536 (u)) (k-1):Nat):Int))]) (fW (dg 65536 (u)) (k:=k-1) (by omega)) ?_
   refine dv 4 ?_;refine dv 5 ?_;refine WD.cast (t:=37) (u':=.int .i64 ((k-1:Nat):Int)) rfl (aH (by omega)) ?_
   refine dv 6 ?_;refine cM 7 ([.v (.int .i64 ((nth (dg 65536 (v)) (k-1):Nat):Int))]) (fW (dg 65536 (v)) (k:=k-1) (by omega)) ?_
   refine dv 8 ?_;refine cR 9 (by kernel_rfl) rfl rfl aA rfl (by trivial) ?_ (fun h=>by first | rfl | cases h)
   refine aJ ?_;refine rt ?_;refine en (.inl rfl) rfl (aO (bL _)) (by decide) (fun _=>trivial) (congrArg (fun z=>FV.one (tv (.bool z))) ?_)
   exact ID (k:=k-1) (fun j hj=>hk.1 j (by omega)) (by omega)
  refine sk ?_;refine rl ?_;(iterate 3 refine o1 ?_);refine nl ?_
  exact⟨k-1,by omega,⟨fun j hj=>(Nat.eq_or_lt_of_le hj).elim (fun h9=>by rw[←h9];omega) (fun h9=>hk.1 j (by omega)),by omega⟩,aG h0 [] _ _ (by decide) ⟨rfl,rfl,congrArg (fun z=>some (FV.one (tv (.int .i64 z)))) (by omega),trivial⟩ rfl⟩
 refine ex ?_;refine sq ?_;refine rl ?_;refine o1 ?_;refine nl ?_;refine rt ?_
 refine en (.inl rfl) rfl (aO (bL _)) (by decide) (fun _=>trivial) (congrArg (fun z=>FV.one (tv (.bool z))) ?_)
 have he:=Wo (fun j=>hk.1 j (by omega))
 rw[cF (by omega),cF (by omega)]at he
 rw[he,decide_eq_false (Nat.lt_irrefl v)]
theorem IE {u v n:Nat}(hx:(dg 65536 (u)).length≤1099511627776) (hy:(dg 65536 (v)).length≤1099511627776) (hn:n≤65536) (hnv:n*v≤u):aE false Tryz.prog 180 [] [.one (.t (sI false (dg 65536 u))),.one (.t (sI false (dg 65536 v))),.one (tv (.int .i64 ((n:Nat):Int)))] (aN (.one (.t (sI false (dg 65536 (u-n*v)))))):=by
 refine bC Tryz.func180 rfl Tryz.ntmps180 rfl aA rfl fun N w c0 h0=>?_
 have hlu:=aS (B:=65536) (by omega) u
 have hlv:=aS (B:=65536) (by omega) v
 refine sq ?_;refine rl ?_;refine o1 ?_;refine nl ?_;refine sq ?_;refine rl ?_;refine o1 ?_;refine nl ?_;refine sq ?_;refine rl ?_;refine o1 ?_;refine nl ?_;refine sq ?_;refine sq ?_
 refine rl ?_;refine o1 ?_;refine nl ?_;refine bl ?_
 refine lp (γ:=Nat×Nat×List Nat) (fun s=>bS [(0,.one (.t (sI false (dg 65536 u)))),(1,.one (.t (sI false (dg 65536 v)))),(2,.one (tv (.int .i64 ((n:Nat):Int)))),(7,.one (.sl 0 0 s.1)),(8,.one (tv (.int .i64 ((s.2.1:Nat):Int)))),(9,.one (tv (.int .i64 ((s.1:Nat):Int))))]) (fun s=>[(⟨3,1,(eO s.2.2).map .t⟩:Ob)].map some) (fun s=>s.2.2.length=s.1∧Lim 65536 s.2.2∧vl 65536 s.2.2+n*vl 65536 ((dg 65536 (v)).take s.1)=vl 65536 ((dg 65536 (u)).take s.1)+65536^s.1*s.2.1∧s.2.1≤65536∧s.1≤(dg 65536 (u)).length) (fun s=>(dg 65536 (u)).length-s.1) (0,0,[]) ⟨rfl,Lim.nil,by simp[vl],Nat.zero_le _,Nat.zero_le _⟩ ((nr (i:=7) 0 3 1 rfl rfl rfl rfl).trans (aG h0 [0] _ _ (by decide) ⟨rfl,rfl,rfl,rfl,rfl,rfl,trivial⟩ ⟨aQ (l:=[]) rfl,rfl⟩)) ?_
 rintro⟨k,br,os⟩ ⟨hos,hol,hv,hc1,hkm⟩;dsimp only at hos hol hv hc1 hkm⊢;have hn1:=hlu.nth (by omega) k
 have hn2:=hlv.nth (by omega) k
 have hmul:=Nat.mul_le_mul hn (Nat.le_of_lt_succ hn2)
 refine sq ?_;refine sq ?_;refine rl ?_;(iterate 4 refine o1 ?_);refine nl ?_;refine bP rfl (fun h1=>?_) (fun h1=>?_)
 ·refine sk ?_;refine sq ?_;refine bl ?_;refine sq ?_;refine rl ?_;(iterate 3 refine o1 ?_)
  refine cW ([.v (.int .i64 ((nth (dg 65536 (u)) (k):Nat):Int))]) (fW (dg 65536 (u)) (k:=k) (by omega)) ?_
  (iterate 3 refine o1 ?_);refine nl ?_;refine sq ?_;refine sq ?_;refine rl ?_;(iterate 4 refine o1 ?_);refine nl ?_;refine bP rfl (fun h2=>?_) (fun h2=>?_)
  ·refine rl ?_;(iterate 5 refine o1 ?_);refine cW ([.v (.int .i64 ((nth (dg 65536 (v)) (k):Nat):Int))]) (fW (dg 65536 (v)) (k:=k) (by omega)) ?_
   (iterate 3 refine o1 ?_);refine nl ?_;refine sq ?_;refine rl ?_;refine o1 ?_;refine nl ?_;refine sq ?_;refine sq ?_;refine rl ?_;refine o1 ?_;refine o1 ?_;refine nl ?_
   refine bP rfl (fun h3=>?_) (fun h3=>?_)
   ·refine sq ?_;refine rl ?_;refine o1 ?_;refine o1 ?_
    refine WL.cast (t:=38) (u':=.int .i64 ((65535+n*nth (dg 65536 (v)) k+br-nth (dg 65536 (u)) k:Nat):Int)) rfl (aH (by omega)) ?_
    refine o1 ?_ (hC:=(iT 65536 (by omega) (by simp only[jH];omega)))
    refine WL.cast (t:=39) (u':=.int .i64 (((65535+n*nth (dg 65536 (v)) k+br-nth (dg 65536 (u)) k)/65536:Nat):Int)) rfl (aH (gC _ 65536)) ?_;refine o1 ?_;refine nl ?_
    refine rl ?_;(iterate 5 refine o1 ?_);refine nl ?_;refine rl ?_;refine o1 ?_;refine o1 ?_
    refine WL.cast (t:=45) (u':=.int .i64 ((nth (dg 65536 (u)) k+65536*((65535+n*nth (dg 65536 (v)) k+br-nth (dg 65536 (u)) k)/65536)-br-n*nth (dg 65536 (v)) k:Nat):Int)) rfl (aH (by omega)) ?_
    refine bs 1 ?_;refine kK (j:=2) aA rfl rfl rfl rfl (.sl rfl (by rw[List.length_map,iU,hos];omega)) (.sl rfl rfl rfl) rfl rfl rfl (by omega) (by omega) ?_
    refine o1 ?_;refine nl ?_;refine rl ?_;refine o1 ?_;refine o1 ?_;refine WL.cast (t:=16) (u':=.int .i64 ((k+1:Nat):Int)) rfl (aH (by omega)) ?_
    refine o1 ?_;refine nl ?_
    have hst:=sN (d:=nth (dg 65536 (u)) k+65536*((65535+n*nth (dg 65536 (v)) k+br-nth (dg 65536 (u)) k)/65536)-br-n*nth (dg 65536 (v)) k) (br:=br) (br':=(65535+n*nth (dg 65536 (v)) k+br-nth (dg 65536 (u)) k)/65536) hos hv (by omega)
    exact⟨(k+1,(65535+n*nth (dg 65536 (v)) k+br-nth (dg 65536 (u)) k)/65536,os++[nth (dg 65536 (u)) k+65536*((65535+n*nth (dg 65536 (v)) k+br-nth (dg 65536 (u)) k)/65536)-br-n*nth (dg 65536 (v)) k]),by dsimp only;omega,⟨by simp[hos],hol.append (Lim.cons (by omega) Lim.nil),hst,by dsimp only;omega,by dsimp only;omega⟩,aG h0 [2] _ _ (by decide) ⟨rfl,rfl,rfl,rfl,rfl,rfl,trivial⟩ ⟨nV rfl (iV _ [nth (dg 65536 (u)) k+65536*((65535+n*nth (dg 65536 (v)) k+br-nth (dg 65536 (u)) k)/65536)-br-n*nth (dg 65536 (v)) k]) rfl,rfl⟩⟩
   refine sk ?_;refine rl ?_;refine o1 ?_;refine o1 ?_;refine WL.cast (t:=45) (u':=.int .i64 ((nth (dg 65536 (u)) k-br-n*nth (dg 65536 (v)) k:Nat):Int)) rfl (aH (by omega)) ?_
   refine bs 1 ?_;refine kK (j:=2) aA rfl rfl rfl rfl (.sl rfl (by rw[List.length_map,iU,hos];omega)) (.sl rfl rfl rfl) rfl rfl rfl (by omega) (by omega) ?_
   refine o1 ?_;refine nl ?_;refine rl ?_;refine o1 ?_;refine o1 ?_;refine WL.cast (t:=16) (u':=.int .i64 ((k+1:Nat):Int)) rfl (aH (by omega)) ?_
   refine o1 ?_;refine nl ?_;have hst:=sN (d:=nth (dg 65536 (u)) k-br-n*nth (dg 65536 (v)) k) (br:=br) (br':=0) hos hv (by omega)
   exact⟨(k+1,0,os++[nth (dg 65536 (u)) k-br-n*nth (dg 65536 (v)) k]),by dsimp only;omega,⟨by simp[hos],hol.append (Lim.cons (by omega) Lim.nil),hst,by dsimp only;omega,by dsimp only;omega⟩,aG h0 [2] _ _ (by decide) ⟨rfl,rfl,rfl,rfl,rfl,rfl,trivial⟩ ⟨nV rfl (iV _ [nth (dg 65536 (u)) k-br-n*nth (dg 65536 (v)) k]) rfl,rfl⟩⟩
  refine sk ?_;refine sq ?_;refine rl ?_;refine o1 ?_;refine nl ?_;refine sq ?_;refine sq ?_;refine rl ?_;refine o1 ?_;refine o1 ?_;refine nl ?_
  refine bP rfl (fun h4=>?_) (fun h4=>?_)
  ·refine sq ?_;refine rl ?_;refine o1 ?_;refine o1 ?_;refine WL.cast (t:=38) (u':=.int .i64 ((65535+br-nth (dg 65536 (u)) k:Nat):Int)) rfl (aH (by omega)) ?_
   refine o1 ?_ (hC:=(iT 65536 (by omega) (by simp only[jH];omega)))
   refine WL.cast (t:=39) (u':=.int .i64 (((65535+br-nth (dg 65536 (u)) k)/65536:Nat):Int)) rfl (aH (gC _ 65536)) ?_;refine o1 ?_;refine nl ?_;refine rl ?_
   (iterate 5 refine o1 ?_);refine nl ?_;refine rl ?_;refine o1 ?_;refine o1 ?_
   refine WL.cast (t:=45) (u':=.int .i64 ((nth (dg 65536 (u)) k+65536*((65535+br-nth (dg 65536 (u)) k)/65536)-br:Nat):Int)) rfl (aH (by omega)) ?_
   refine bs 1 ?_;refine kK (j:=2) aA rfl rfl rfl rfl (.sl rfl (by rw[List.length_map,iU,hos];omega)) (.sl rfl rfl rfl) rfl rfl rfl (by omega) (by omega) ?_
   refine o1 ?_;refine nl ?_;refine rl ?_;refine o1 ?_;refine o1 ?_;refine WL.cast (t:=16) (u':=.int .i64 ((k+1:Nat):Int)) rfl (aH (by omega)) ?_
   refine o1 ?_;refine nl ?_;have hny:nth (dg 65536 (v)) k=0:=eW (by omega)
   have hst:=sN (d:=nth (dg 65536 (u)) k+65536*((65535+br-nth (dg 65536 (u)) k)/65536)-br) (br:=br) (br':=(65535+br-nth (dg 65536 (u)) k)/65536) hos hv (by rw[hny,Nat.mul_zero];omega)
   exact⟨(k+1,(65535+br-nth (dg 65536 (u)) k)/65536,os++[nth (dg 65536 (u)) k+65536*((65535+br-nth (dg 65536 (u)) k)/65536)-br]),by dsimp only;omega,⟨by simp[hos],hol.append (Lim.cons (by omega) Lim.nil),hst,by dsimp only;omega,by dsimp only;omega⟩,aG h0 [2] _ _ (by decide) ⟨rfl,rfl,rfl,rfl,rfl,rfl,trivial⟩ ⟨nV rfl (iV _ [nth (dg 65536 (u)) k+65536*((65535+br-nth (dg 65536 (u)) k)/65536)-br]) rfl,rfl⟩⟩
  refine sk ?_;refine rl ?_;refine o1 ?_;refine o1 ?_;refine WL.cast (t:=45) (u':=.int .i64 ((nth (dg 65536 (u)) k-br:Nat):Int)) rfl (aH (by omega)) ?_
  refine bs 1 ?_;refine kK (j:=2) aA rfl rfl rfl rfl (.sl rfl (by rw[List.length_map,iU,hos];omega)) (.sl rfl rfl rfl) rfl rfl rfl (by omega) (by omega) ?_
  refine o1 ?_;refine nl ?_;refine rl ?_;refine o1 ?_;refine o1 ?_;refine WL.cast (t:=16) (u':=.int .i64 ((k+1:Nat):Int)) rfl (aH (by omega)) ?_
  refine o1 ?_;refine nl ?_;have hny:nth (dg 65536 (v)) k=0:=eW (by omega)
  have hst:=sN (d:=nth (dg 65536 (u)) k-br) (br:=br) (br':=0) hos hv (by rw[hny,Nat.mul_zero];omega)
  exact⟨(k+1,0,os++[nth (dg 65536 (u)) k-br]),by dsimp only;omega,⟨by simp[hos],hol.append (Lim.cons (by omega) Lim.nil),hst,by dsimp only;omega,by dsimp only;omega⟩,aG h0 [2] _ _ (by decide) ⟨rfl,rfl,rfl,rfl,rfl,rfl,trivial⟩ ⟨nV rfl (iV _ [nth (dg 65536 (u)) k-br]) rfl,rfl⟩⟩
 refine ex ?_;refine sq ?_;refine rl ?_;have hve:vl 65536 os=u-n*v:=BC rfl (by omega) hol hv hnv
 refine WL.sub (Bh (i:=7) (zs':=os) rfl rfl rfl (by omega) rfl) ?_
 refine o1 ?_;refine ca (Dt (by omega)) Du ⟨a1 rfl,rfl⟩ (.one (.t (sI false (trim os)))) ?_
 refine o1 ?_;refine nl ?_;refine rt ?_;exact en (.inl rfl) rfl (aO (.one (.id rfl))) (by decide) (fun h=>by cases h) (by rw[Jc (by omega) hol hve];rfl)
theorem BD {u v:Nat}(hx:(dg 65536 (u)).length≤1099511627776) (hy:(dg 65536 (v)).length≤1099511627776) (huv:u<65536*v):aE true Tryz.prog 179 [] [.one (.t (sI false (dg 65536 u))),.one (.t (sI false (dg 65536 v)))] (aN (.one (tv (.int .i64 ((u/v:Nat):Int))))):=by
 refine bC Tryz.func179 rfl Tryz.ntmps179 rfl aA rfl fun N w c0 h0=>?_
 refine sq ?_;refine rl ?_;refine o1 ?_;refine nl ?_;refine sq ?_;refine rl ?_;refine o1 ?_;refine o1 ?_;refine nl ?_;refine sq ?_;refine bl ?_
 refine lp (γ:=Nat×Nat) (fun s=>bS [(0,.one (.t (sI false (dg 65536 u)))),(1,.one (.t (sI false (dg 65536 v)))),(5,.one (tv (.int .i64 ((s.1:Nat):Int)))),(6,.one (tv (.int .i64 ((s.2:Nat):Int))))]) (fun s=>([]:List Ob).map some) (fun s=>s.1*v≤u∧u<s.2*v∧s.1<s.2∧s.2≤65536) (fun s=>s.2-s.1) (0,65536) ⟨by simp,huv,by decide,Nat.le_refl _⟩ (aG h0 [] _ _ (by decide) ⟨rfl,rfl,rfl,rfl,trivial⟩ rfl) ?_
 rintro⟨lo,hi⟩ ⟨h91,h92,h93,h94⟩;dsimp only at h91 h92 h93 h94⊢;refine sq ?_;refine sq ?_;refine rl ?_;(iterate 3 refine o1 ?_)
 refine WL.cast (t:=10) (u':=.int .i64 ((hi-lo:Nat):Int)) rfl (aH (by omega)) ?_
 refine o1 ?_;refine nl ?_;refine bP rfl (fun h1=>?_) (fun h1=>?_)
 ·refine sk ?_;refine bl ?_;refine sq ?_;refine rl ?_;(iterate 3 refine o1 ?_);refine WL.cast (t:=14) (u':=.int .i64 ((lo+hi:Nat):Int)) rfl (aH (by omega)) ?_
  refine o1 ?_ (hC:=(iT 2 (by omega) (by simp only[jH];omega)))
  refine WL.cast (t:=15) (u':=.int .i64 (((lo+hi)/2:Nat):Int)) rfl (aH (gC _ 2)) ?_;refine o1 ?_;refine nl ?_;refine sq ?_;refine rl ?_;(iterate 3 refine o1 ?_)
  refine bs 0 ?_;refine WL.sub (Bh (i:=19) (zs:=[(lo+hi)/2]) (zs':=[(lo+hi)/2]) rfl rfl rfl rfl rfl) ?_;have h1l:[(lo+hi)/2].length=1:=rfl
  have hn2:=xZ (xs:=(dg 65536 (v))) (ys:=[(lo+hi)/2]) (aS (by omega) _) (Lim.cons (d:=(lo+hi)/2) (by omega) Lim.nil)
  refine ca (La (by omega) (by omega) (aS (by omega) _) (Lim.cons (d:=(lo+hi)/2) (by omega) Lim.nil)) ET ⟨a1 rfl,a1 rfl,rfl⟩ (.one (.t (sI false (dg 65536 (vl 65536 (dg 65536 (v))*vl 65536 [(lo+hi)/2]))))) ?_
  refine ca (IC (by omega) (by omega)) RY ⟨a1 rfl,a1 rfl,rfl⟩ (.one (tv (.bool (decide (u<vl 65536 (dg 65536 (v))*vl 65536 [(lo+hi)/2]))))) ?_
  refine nl ?_;refine bP rfl (fun h3=>?_) (fun h3=>?_)
  ·refine rl ?_;refine o1 ?_;refine o1 ?_;refine nl ?_;rw[cF (by omega),tT,Nat.mul_comm]at h3
   exact⟨(lo,(lo+hi)/2),by dsimp only;omega,⟨by dsimp only;omega,by dsimp only;omega,by dsimp only;omega,by dsimp only;omega⟩,aG h0 [] _ _ (by decide) ⟨rfl,rfl,rfl,rfl,trivial⟩ rfl⟩
  refine rl ?_;refine o1 ?_;refine o1 ?_;refine nl ?_;rw[cF (by omega),tT,Nat.mul_comm]at h3
  exact⟨((lo+hi)/2,hi),by dsimp only;omega,⟨by dsimp only;omega,by dsimp only;omega,by dsimp only;omega,by dsimp only;omega⟩,aG h0 [] _ _ (by decide) ⟨rfl,rfl,rfl,rfl,trivial⟩ rfl⟩
 refine ex ?_;refine sq ?_;refine rl ?_;refine o1 ?_;refine o1 ?_;refine nl ?_;refine rt ?_
 exact en (.inl rfl) rfl (aO (bL _)) (by decide) (fun _=>trivial) (congrArg (fun z=>FV.one (tv (.int .i64 ((z:Nat):Int)))) (Wt h91 h92 (by omega)).symm)
theorem Wu {xs zs:List Nat}(hx:xs.length≤4398046511104) (hz:trim xs=zs):aE false Tryz.prog 172 [] [.one (.t (sI false xs))] (aN (.one (.t (sI false zs)))):=by
 subst hz
 exact Dt hx
theorem Le {u v:Nat}(hx:(dg 65536 (u)).length≤549755813888) (hy:(dg 65536 (v)).length≤549755813888) (hvp:0<v):aE false Tryz.prog 166 [] [.one (.t (sI false (dg 65536 u))),.one (.t (sI false (dg 65536 v)))] (aN (.tup [.one (.t (sI false (dg 65536 (u/v)))),.one (.t (sI false (dg 65536 (u%v))))])):=by
 refine bC Tryz.func166 rfl Tryz.ntmps166 rfl aA rfl fun N w c0 h0=>?_
 have hlu:=aS (B:=65536) (by omega) u
 refine sq ?_;refine rl ?_;refine o1 ?_;refine o1 ?_;refine nl ?_;refine sq ?_;refine rl ?_;refine o1 ?_;refine o1 ?_
 refine WL.cast (t:=11) (u':=.int .i64 (((dg 65536 (u)).length:Nat):Int)) rfl (aH rfl) ?_;refine mk (m:=(dg 65536 (u)).length) 0 (by omega) (Lb _) ?_
 refine o1 ?_;refine nl ?_;refine sq ?_;refine rl ?_;refine o1 ?_;refine nl ?_;refine sq ?_;refine sq ?_;refine rl ?_;(iterate 4 refine o1 ?_);refine nl ?_;refine bl ?_
 refine lp (γ:=Nat×List Nat×Nat) (fun s=>bS [(0,.one (.t (sI false (dg 65536 u)))),(1,.one (.t (sI false (dg 65536 v)))),(6,.one (.sl 0 0 (dg 65536 (u)).length)),(7,.one (.t (sI false (dg 65536 s.2.2)))),(8,.one (tv (.int .i64 ((s.1:Nat)-1))))]) (fun s=>[(⟨3,1,(eO s.2.1).map .t⟩:Ob)].map some) (fun s=>s.2.1.length=(dg 65536 (u)).length∧Lim 65536 s.2.1∧vl 65536 ((dg 65536 (u)).drop s.1)=v*vl 65536 (s.2.1.drop s.1)+s.2.2∧s.2.2<v∧s.1≤(dg 65536 (u)).length) (fun s=>s.1) ((dg 65536 (u)).length,List.replicate (dg 65536 (u)).length 0,0) ⟨List.length_replicate,Lim.replicate (by omega) _,by dsimp only;rw[List.drop_of_length_le (Nat.le_refl _),List.drop_of_length_le (by rw[List.length_replicate];exact Nat.le_refl _)];simp[vl],hvp,Nat.le_refl _⟩ (((nr (i:=7) 1 3 1 rfl rfl rfl rfl).trans (Bh (i:=7) (k:=1) (zs:=[]) (zs':=dg 65536 0) rfl rfl rfl rfl (oL _).symm)).trans (aG h0 [0] _ _ (by decide) ⟨rfl,rfl,rfl,rfl,rfl,trivial⟩ ⟨nV rfl rfl rfl,rfl⟩)) ?_
 rintro⟨k,os,r⟩ ⟨hos,hol,hv,hr,hkm⟩;dsimp only at hos hol hv hr hkm⊢;have hrl:=dE (B:=65536) (by omega) (Nat.le_of_lt hr)
 have hau:=hlu.nth (by omega) (k-1)
 have hce:=BE (a:=nth (dg 65536 (u)) (k-1)) hau hr
 have hql:(nth (dg 65536 (u)) (k-1)+65536*r)/v<65536:=(Nat.div_lt_iff_lt_mul hvp).2 (by omega)
 refine sq ?_;refine sq ?_;refine rl ?_;refine o1 ?_;refine o1 ?_;refine nl ?_;refine bP rfl (fun h1=>?_) (fun h1=>?_)
 ·refine sk ?_;refine sq ?_;refine bl ?_;refine sq ?_;refine rl ?_;refine o1 ?_;refine o1 ?_;refine WL.cast (t:=21) (u':=.int .i64 ((k-1:Nat):Int)) rfl (aH (by omega)) ?_
  refine o1 ?_;refine cW ([.v (.int .i64 ((nth (dg 65536 (u)) (k-1):Nat):Int))]) (fW (dg 65536 (u)) (k:=k-1) (by omega)) ?_
  refine bs 1 ?_;refine o1 ?_;refine nl ?_;refine sq ?_;refine rl ?_;refine o1 ?_;refine o1 ?_
  refine kK (j:=2) aA rfl rfl rfl rfl (.sl rfl (rfl)) .fz (NF _) (BG _) rfl (by omega) (by omega) ?_
  refine WL.sub (Bh (i:=27) (k:=2) (zs:=[nth (dg 65536 (u)) (k-1)]++dg 65536 r) (zs':=[nth (dg 65536 (u)) (k-1)]++dg 65536 r) rfl rfl (congrArg (fun l=>some (⟨3,1,l⟩:Ob)) (iV [nth (dg 65536 (u)) (k-1)] (dg 65536 r))) (by rw[List.length_append];rfl) rfl) ?_
  refine ca (Wu (zs:=(dg 65536 (nth (dg 65536 (u)) (k-1)+65536*r))) (by rw[List.length_append];exact Nat.le_trans (Nat.add_le_add_left hrl 1) (by omega)) (yA (by omega))) Du ⟨a1 rfl,rfl⟩ (.one (.t (sI false (dg 65536 (nth (dg 65536 (u)) (k-1)+65536*r))))) ?_
  refine o1 ?_;refine nl ?_;refine sq ?_;refine rl ?_;refine o1 ?_;refine o1 ?_;refine WL.cast (t:=30) (u':=.int .i64 ((k-1:Nat):Int)) rfl (aH (by omega)) ?_
  refine o1 ?_;refine o1 ?_;refine ca (BD (by omega) (by omega) (by omega)) RZ ⟨a1 rfl,a1 rfl,rfl⟩ (.one (tv (.int .i64 (((nth (dg 65536 (u)) (k-1)+65536*r)/v:Nat):Int)))) ?_
  refine o1 ?_;refine Hq (uL os (k:=k-1) (v:=(nth (dg 65536 (u)) (k-1)+65536*r)/v) (by omega)) (xY os (by omega)) ?_
  refine nl ?_;refine rl ?_;(iterate 4 refine o1 ?_);refine WL.cast (t:=38) (u':=.int .i64 ((k-1:Nat):Int)) rfl (aH (by omega)) ?_
  refine o1 ?_;refine NE (Ld (os.set (k-1) ((nth (dg 65536 (u)) (k-1)+65536*r)/v)) (k:=k-1) (by rw[List.length_set];omega)) ?_
  refine WL.cast (t:=40) (u':=.int .i64 (((nth (dg 65536 (u)) (k-1)+65536*r)/v:Nat):Int)) rfl (aH (by rw[Lg (by omega)])) ?_
  refine ca (IE (by omega) (by omega) (by omega) (Nat.div_mul_le_self _ _)) SA ⟨a1 rfl,a1 rfl,a1 rfl,rfl⟩ (.one (.t (sI false (dg 65536 (nth (dg 65536 (u)) (k-1)+65536*r-(nth (dg 65536 (u)) (k-1)+65536*r)/v*v))))) ?_
  refine o1 ?_;refine nl ?_;refine rl ?_;(iterate 3 refine o1 ?_);refine nl ?_
  have hst:=Tk (k:=k) (q:=(nth (dg 65536 (u)) (k-1)+65536*r)/v) (by omega) (by omega) (by omega) hv rfl rfl
  have hmod:=Nat.mod_lt (nth (dg 65536 (u)) (k-1)+65536*r) hvp
  have hdm:=Nat.div_add_mod' (nth (dg 65536 (u)) (k-1)+65536*r) v
  exact⟨(k-1,os.set (k-1) ((nth (dg 65536 (u)) (k-1)+65536*r)/v),nth (dg 65536 (u)) (k-1)+65536*r-(nth (dg 65536 (u)) (k-1)+65536*r)/v*v),by dsimp only;omega,⟨by rw[List.length_set];exact hos,hol.set _ hql,hst,by dsimp only;omega,by dsimp only;omega⟩,aG h0 [0] _ _ (by decide) ⟨rfl,rfl,rfl,rfl,congrArg (fun z=>some (FV.one (tv (.int .i64 z)))) (by omega),trivial⟩ ⟨nV rfl rfl rfl,rfl⟩⟩
 refine ex ?_;refine sq ?_;refine rl ?_;have hk0:k=0:=by omega
 rw[hk0,List.drop_zero,List.drop_zero,cF (by omega)]at hv
 obtain⟨hq1,hq2⟩:=Wv hv hr
 refine WL.sub (Bh (i:=6) (zs':=os) rfl rfl rfl (by omega) rfl) ?_
 refine o1 ?_;refine ca (Wu (zs:=(dg 65536 (u/v))) (by omega) (by rw[Jc (by omega) hol rfl,hq1])) Du ⟨a1 rfl,rfl⟩ (.one (.t (sI false (dg 65536 (u/v))))) ?_
 (iterate 3 refine o1 ?_);refine nl ?_;refine rt ?_;exact en (.inl rfl) rfl (Dn (.cons (.one (.id rfl)) (.cons (.one (.id rfl)) .nil))) (by decide) (fun h=>by cases h) (by rw[hq2];rfl)
theorem Lh {a b:Zi}{k k':Int}(ha:Zn a k) (hb:Zn b k'):aE true Tryz.prog 135 [] [gF a,gF b] (aN (kO ((Int.gcd k k':Nat):Int))):=by
 refine bC Tryz.func135 rfl Tryz.ntmps135 rfl aA rfl fun N w c0 h0=>?_
 have hkl:=ha.len
 have hkl':=hb.len
 refine sq ?_;refine rl ?_;refine bx 0 ?_;refine bx 1 ?_;refine al 2 ?_;refine nl ?_;refine sq ?_;refine rd [0,1,2] (fun i=>[9].contains i) mixed ?_
 refine aI 0 ?_;refine aI 4 ?_;refine aF 1 rfl (iD ha) nA ⟨aB rfl,rfl⟩ (kF (k)) ?_;refine df 2 ?_
 have hn1:=eQ (v:=vl 4294967296 (dg 4294967296 (k).natAbs)) (L:=(dg 4294967296 (k).natAbs).length) (by rw[cF (by omega)];exact Nat.le_refl _)
 refine aF 3 rfl (nN (by omega) (aS (by omega) _)) zY ⟨a1 rfl,rfl⟩ (.one (.t (sI false (dg 65536 (vl 4294967296 (dg 4294967296 (k).natAbs)))))) ?_
 refine aF 5 rfl (iD hb) nA ⟨aB rfl,rfl⟩ (kF (k')) ?_;refine df 6 ?_
 have hn2:=eQ (v:=vl 4294967296 (dg 4294967296 (k').natAbs)) (L:=(dg 4294967296 (k').natAbs).length) (by rw[cF (by omega)];exact Nat.le_refl _)
 refine aF 7 rfl (nN (by omega) (aS (by omega) _)) zY ⟨a1 rfl,rfl⟩ (.one (.t (sI false (dg 65536 (vl 4294967296 (dg 4294967296 (k').natAbs)))))) ?_
 refine cR 8 (by kernel_rfl) rfl rfl aA rfl (by trivial) ?_ (fun h=>by first | rfl | cases h)
 refine cR 9 (by kernel_rfl) rfl rfl aA rfl (by trivial) ?_ (fun h=>by first | rfl | cases h)
 refine aJ ?_;refine sq ?_;refine bl ?_
 refine lp (γ:=Nat×Nat) (fun s=>bS [(4,.one (.pt 0 0)),(5,.one (.t (sI false (dg 65536 s.1)))),(6,.one (.t (sI false (dg 65536 s.2))))]) (fun s=>[(⟨47,0,[tv (.bool false),tv (.slice none 0 0)]⟩:Ob)].map some) (fun s=>Nat.gcd s.1 s.2=Int.gcd k k'∧(dg 65536 s.1).length≤549755813888∧(dg 65536 s.2).length≤549755813888) (fun s=>s.2) (vl 4294967296 (dg 4294967296 (k).natAbs),vl 4294967296 (dg 4294967296 (k').natAbs)) ⟨by dsimp only;rw[cF (by omega),cF (by omega)];rfl,by dsimp only;omega,by dsimp only;omega⟩ (aG h0 [2] _ _ (by decide) ⟨rfl,rfl,rfl,trivial⟩ ⟨oe rfl rfl,rfl⟩) ?_
 rintro⟨ga,gb⟩ ⟨hg,hga,hgb⟩;dsimp only at hg hga hgb⊢;have hbz:gb=0↔(dg 65536 gb).length=0:=by rw[List.length_eq_zero_iff,gD (by omega)]
 refine sq ?_;refine sq ?_;refine rl ?_;(iterate 3 refine o1 ?_);refine nl ?_;refine bP rfl (fun h3=>?_) (fun h3=>?_)
 ·refine sk ?_;refine bl ?_;refine sq ?_;have hb0:0<gb:=by omega
  refine rl ?_;refine o1 ?_;refine o1 ?_;have hn4:=dE (B:=65536) (by omega) (Nat.div_le_self (ga) (gb))
  have hn5:=dE (B:=65536) (by omega) (Nat.mod_le (ga) (gb))
  refine ca (Le (by omega) (by omega) hb0) EU ⟨a1 rfl,a1 rfl,rfl⟩ (.tup [.one (.t (sI false (dg 65536 ((ga)/(gb))))),.one (.t (sI false (dg 65536 ((ga)%(gb)))))]) ?_
  (iterate 5 refine o1 ?_);refine nl ?_;refine sq ?_;refine rl ?_;refine o1 ?_;refine o1 ?_;refine nl ?_;refine rl ?_;refine o1 ?_;refine o1 ?_;refine nl ?_;have hmod:=Nat.mod_lt ga hb0
  have hml:=dE (B:=65536) (by omega) (Nat.le_of_lt hmod)
  exact⟨(gb,ga%gb),by dsimp only;omega,⟨by dsimp only;rw[←hg,Nat.gcd_comm gb (ga%gb),←Nat.gcd_rec,Nat.gcd_comm],by dsimp only;omega,by dsimp only;omega⟩,aG h0 [0] _ _ (by decide) ⟨rfl,rfl,rfl,trivial⟩ ⟨oe rfl rfl,rfl⟩⟩
 refine ex ?_;refine sq ?_;have hb00:gb=0:=by omega
 rw[hb00,Nat.gcd_zero_right]at hg;refine rl ?_;refine o1 ?_;have hn6:=nX (ga)
 refine ca (wB (zs:=(dg 4294967296 (ga))) (by omega) (aS (by omega) _) (zX _)) fP ⟨a1 rfl,rfl⟩ (.one (.t (sU false (dg 4294967296 (ga))))) ?_
 refine iI 1 (mF (K:=((Int.gcd k k':Nat):Int)) (by omega) (aS (by omega) _) (by rw[cF (by omega),hg];rfl)) cU ⟨a1 rfl,a1 rfl,rfl⟩ ?_
 refine st ?_;refine nl ?_;refine rt ?_
 exact en (.inl rfl) rfl (aO (.agg (.cons (.id rfl) (.cons (.sl (trs:=aV (dg 4294967296 (((Int.gcd k k':Nat):Int)).natAbs)) rfl rfl (bB _) (aY _)) .nil)))) (by decide) (fun _=>fB (((Int.gcd k k':Nat):Int))) rfl
theorem Ww {a b:Zi}{k k':Int}(ha:Zn a k) (hb:Zn b k'):aE false Tryz.prog 138 [] [gF a,gF b] (aN (.tup [kF (if k'=0 then 0 else k.fdiv k'),kF (if k'=0 then 0 else k.fmod k'),.one (tv (.int .i64 (if k'=0 then 20 else 0)))])):=by
 refine bC Tryz.func138 rfl Tryz.ntmps138 rfl aA rfl fun N w c0 h0=>?_
 have hkl:=ha.len
 have hkl':=hb.len
 refine sq ?_;refine rl ?_;refine bx 0 ?_;refine bx 1 ?_;refine al 2 ?_;refine al 3 ?_;refine o1 ?_;refine nl ?_;refine sq ?_;refine rl ?_;refine ld ?_
 refine ca (iD ha) nA ⟨aB rfl,rfl⟩ (kF (k)) ?_;refine st ?_;refine nl ?_;refine sq ?_;refine rl ?_;refine ld ?_;refine ca (iD hb) nA ⟨aB rfl,rfl⟩ (kF (k')) ?_;refine st ?_
 refine nl ?_;refine sq ?_;refine sq ?_;refine rl ?_;refine o1 ?_;refine ld ?_;refine o1 ?_;refine o1 ?_;refine nl ?_;refine bP rfl (fun h1=>?_) (fun h1=>?_)
 ·refine sq ?_;refine rl ?_;refine o1 ?_;refine o1 ?_;refine st ?_;refine st ?_;refine o1 ?_;refine nl ?_;refine rt ?_;have hk0:k'=0:=by have:=Oh (k:=k') (by omega);omega
  exact en (.inl rfl) rfl (Cc (.cons (.agg (.cons (.id rfl) (.cons .nilf .nil))) (.cons (.agg (.cons (.id rfl) (.cons .nilf .nil))) (.cons (bL _) .nil)))) (by decide) (fun h=>by cases h) (by rw[if_pos hk0,if_pos hk0,if_pos hk0,←Fo];rfl)
 refine sk ?_;refine sq ?_;have hkn:k'≠0:=Wx (by omega)
 have hva:0<vl 4294967296 (dg 4294967296 (k').natAbs):=by rw[cF (by omega)];omega
 refine rd [0,1,2,3] (fun i=>[11].contains i) mixed ?_
 refine dv 0 ?_;refine aI 1 ?_;refine dv 3 ?_;refine aI 4 ?_
 have hn2:=eQ (v:=vl 4294967296 (dg 4294967296 (k).natAbs)) (L:=(dg 4294967296 (k).natAbs).length) (by rw[cF (by omega)];exact Nat.le_refl _)
 refine aF 2 rfl (nN (by omega) (aS (by omega) _)) zY ⟨a1 rfl,rfl⟩ (.one (.t (sI false (dg 65536 (vl 4294967296 (dg 4294967296 (k).natAbs)))))) ?_
 have hn3:=eQ (v:=vl 4294967296 (dg 4294967296 (k').natAbs)) (L:=(dg 4294967296 (k').natAbs).length) (by rw[cF (by omega)];exact Nat.le_refl _)
 refine aF 5 rfl (nN (by omega) (aS (by omega) _)) zY ⟨a1 rfl,rfl⟩ (.one (.t (sI false (dg 65536 (vl 4294967296 (dg 4294967296 (k').natAbs)))))) ?_
 have hn4:=dE (B:=65536) (by omega) (Nat.div_le_self (vl 4294967296 (dg 4294967296 (k).natAbs)) (vl 4294967296 (dg 4294967296 (k').natAbs)))
 have hn5:=dE (B:=65536) (by omega) (Nat.mod_le (vl 4294967296 (dg 4294967296 (k).natAbs)) (vl 4294967296 (dg 4294967296 (k').natAbs)))
 refine aF 6 rfl (Le (by omega) (by omega) hva) EU ⟨a1 rfl,a1 rfl,rfl⟩ (.tup [.one (.t (sI false (dg 65536 ((vl 4294967296 (dg 4294967296 (k).natAbs))/(vl 4294967296 (dg 4294967296 (k').natAbs)))))),.one (.t (sI false (dg 65536 ((vl 4294967296 (dg 4294967296 (k).natAbs))%(vl 4294967296 (dg 4294967296 (k').natAbs))))))]) ?_
 refine df 7 ?_;refine df 8 ?_;refine df 9 ?_;refine cR 10 (by kernel_rfl) rfl rfl aA rfl (by trivial) ?_ (fun h=>by first | rfl | cases h)
 refine cR 11 (by kernel_rfl) rfl rfl aA rfl (by trivial) ?_ (fun h=>by first | rfl | cases h)
 refine aJ ?_
 refine md (γ:=Unit) (fun _=>bS [(3,.one (.pt 0 0)),(4,.one (.pt 1 0)),(5,.one (.pt 2 0)),(6,.one (tv (.int .i64 0))),(9,.one (.pt 3 0)),(10,.one (.pt 4 0))]) (fun _=>([⟨47,0,[tv (.bool (aL (k'))),.t (sU false (dg 4294967296 (k').natAbs))]⟩,⟨47,0,[tv (.bool false),tv (.slice none 0 0)]⟩,⟨47,0,[tv (.bool false),tv (.slice none 0 0)]⟩,⟨47,0,[tv (.bool (aL (bT (aL k != aL k') (k.natAbs/k'.natAbs)))),.t (sU false (dg 4294967296 (bT (aL k != aL k') (k.natAbs/k'.natAbs)).natAbs))]⟩,⟨47,0,[tv (.bool (aL (bT (aL k) (k.natAbs%k'.natAbs)))),.t (sU false (dg 4294967296 (bT (aL k) (k.natAbs%k'.natAbs)).natAbs))]⟩]:List Ob).map some) (fun _=>True) ?_ fun _ _=>?_
 ·have hnq:=nX ((vl 4294967296 (dg 4294967296 (k).natAbs))/(vl 4294967296 (dg 4294967296 (k').natAbs)))
  have hLq:=wB (xs:=dg 65536 ((vl 4294967296 (dg 4294967296 (k).natAbs))/(vl 4294967296 (dg 4294967296 (k').natAbs)))) (zs:=dg 4294967296 ((vl 4294967296 (dg 4294967296 (k).natAbs))/(vl 4294967296 (dg 4294967296 (k').natAbs)))) (by omega) (aS (by omega) _) (zX _)
  have hMq:=mF (b:=aL k != aL k') (xs:=dg 4294967296 ((vl 4294967296 (dg 4294967296 (k).natAbs))/(vl 4294967296 (dg 4294967296 (k').natAbs)))) (K:=bT (aL k != aL k') (k.natAbs/k'.natAbs)) (by omega) (aS (by omega) _) (by simp only[cF (B:=4294967296) (by omega)] <;> rfl)
  have hnr:=nX ((vl 4294967296 (dg 4294967296 (k).natAbs))%(vl 4294967296 (dg 4294967296 (k').natAbs)))
  have hLr:=wB (xs:=dg 65536 ((vl 4294967296 (dg 4294967296 (k).natAbs))%(vl 4294967296 (dg 4294967296 (k').natAbs)))) (zs:=dg 4294967296 ((vl 4294967296 (dg 4294967296 (k).natAbs))%(vl 4294967296 (dg 4294967296 (k').natAbs)))) (by omega) (aS (by omega) _) (zX _)
  have hMr:=mF (b:=aL k) (xs:=dg 4294967296 ((vl 4294967296 (dg 4294967296 (k).natAbs))%(vl 4294967296 (dg 4294967296 (k').natAbs)))) (K:=bT (aL k) (k.natAbs%k'.natAbs)) (by omega) (aS (by omega) _) (by simp only[cF (B:=4294967296) (by omega)] <;> rfl)
  generalize dg 4294967296 ((vl 4294967296 (dg 4294967296 (k).natAbs))/(vl 4294967296 (dg 4294967296 (k').natAbs)))=zq at hLq hMq
  generalize dg 4294967296 ((vl 4294967296 (dg 4294967296 (k).natAbs))%(vl 4294967296 (dg 4294967296 (k').natAbs)))=zr at hLr hMr;refine rd [0,1,2,3] (fun i=>[16].contains i) mixed ?_
  refine dv 0 ?_;refine aI 1 ?_;refine dv 2 ?_;refine aI 3 ?_;refine dv 4 ?_;refine dv 5 ?_;refine dv 8 ?_;refine aI 9 ?_;refine dv 10 ?_
  refine WO.three (i:=6) (j:=13) (m:=14) (by kernel_rfl) ?_ ?_ ?_
  ·refine cX 6 rfl (hLq) fP ⟨a1 rfl,rfl⟩ (.one (.t (sU false zq))) ?_;refine WO.three (i:=7) (j:=13) (m:=14) (by kernel_rfl) ?_ ?_ ?_
   ·refine cX 7 rfl (hMq) cU ⟨a1 rfl,a1 rfl,rfl⟩ (kF (bT (aL k != aL k') (k.natAbs/k'.natAbs))) ?_;refine WO.three (i:=11) (j:=13) (m:=14) (by kernel_rfl) ?_ ?_ ?_
    ·refine cX 11 rfl (hLr) fP ⟨a1 rfl,rfl⟩ (.one (.t (sU false zr))) ?_;refine WO.three (i:=12) (j:=13) (m:=14) (by kernel_rfl) ?_ ?_ ?_
     ·refine cX 12 rfl (hMr) cU ⟨a1 rfl,a1 rfl,rfl⟩ (kF (bT (aL k) (k.natAbs%k'.natAbs))) ?_;refine WO.two (i:=13) (j:=14) (by kernel_rfl) ?_ ?_
      ·refine bI (key:=4) 13 rfl rfl aA rfl ⟨rfl,rfl,rfl,rfl,trivial⟩ ?_;refine eN (key:=5) 14 (by kernel_rfl) rfl rfl aA rfl ⟨rfl,rfl,rfl,rfl,trivial⟩ ?_
       refine aX 15 (by kernel_rfl) rfl rfl aA rfl rfl rfl rfl ⟨rfl,rfl,rfl,rfl,trivial⟩ ?_
       refine dst 16 ?_;refine aJ ?_
       exact⟨(),trivial,aG h0 [1,2,3,4,5] _ _ (by decide) ⟨rfl,rfl,rfl,rfl,rfl,rfl,trivial⟩ ⟨oe rfl rfl,oe rfl rfl,oe rfl rfl,oe rfl rfl,oe rfl rfl,rfl⟩⟩
      refine bI (key:=4) 14 rfl rfl aA rfl ⟨rfl,rfl,rfl,rfl,trivial⟩ ?_;refine eN (key:=5) 13 (by kernel_rfl) rfl rfl aA rfl ⟨rfl,rfl,rfl,rfl,trivial⟩ ?_
      refine aX 15 (by kernel_rfl) rfl rfl aA rfl rfl rfl rfl ⟨rfl,rfl,rfl,rfl,trivial⟩ ?_
      refine dst 16 ?_;refine aJ ?_
      exact⟨(),trivial,aG h0 [1,2,3,5,4] _ _ (by decide) ⟨rfl,rfl,rfl,rfl,rfl,rfl,trivial⟩ ⟨oe rfl rfl,oe rfl rfl,oe rfl rfl,oe rfl rfl,oe rfl rfl,rfl⟩⟩
     ·refine bI (key:=4) 13 rfl rfl aA rfl ⟨rfl,rfl,rfl,rfl,trivial⟩ ?_;refine WO.two (i:=12) (j:=14) (by kernel_rfl) ?_ ?_
      ·refine cX 12 rfl (hMr) cU ⟨a1 rfl,a1 rfl,rfl⟩ (kF (bT (aL k) (k.natAbs%k'.natAbs))) ?_
       refine eN (key:=5) 14 (by kernel_rfl) rfl rfl aA rfl ⟨rfl,rfl,rfl,rfl,trivial⟩ ?_
       refine aX 15 (by kernel_rfl) rfl rfl aA rfl rfl rfl rfl ⟨rfl,rfl,rfl,rfl,trivial⟩ ?_
       refine dst 16 ?_;refine aJ ?_
       exact⟨(),trivial,aG h0 [1,2,3,4,5] _ _ (by decide) ⟨rfl,rfl,rfl,rfl,rfl,rfl,trivial⟩ ⟨oe rfl rfl,oe rfl rfl,oe rfl rfl,oe rfl rfl,oe rfl rfl,rfl⟩⟩
      refine bI (key:=5) 14 rfl rfl aA rfl ⟨rfl,rfl,rfl,rfl,trivial⟩ ?_;refine aF 12 rfl (hMr) cU ⟨a1 rfl,a1 rfl,rfl⟩ (kF (bT (aL k) (k.natAbs%k'.natAbs))) ?_
      refine aX 15 (by kernel_rfl) rfl rfl aA rfl rfl rfl rfl ⟨rfl,rfl,rfl,rfl,trivial⟩ ?_
      refine dst 16 ?_;refine aJ ?_
      exact⟨(),trivial,aG h0 [1,2,3,4,5] _ _ (by decide) ⟨rfl,rfl,rfl,rfl,rfl,rfl,trivial⟩ ⟨oe rfl rfl,oe rfl rfl,oe rfl rfl,oe rfl rfl,oe rfl rfl,rfl⟩⟩
     refine bI (key:=4) 14 rfl rfl aA rfl ⟨rfl,rfl,rfl,rfl,trivial⟩ ?_;refine WO.two (i:=12) (j:=13) (by kernel_rfl) ?_ ?_
     ·refine cX 12 rfl (hMr) cU ⟨a1 rfl,a1 rfl,rfl⟩ (kF (bT (aL k) (k.natAbs%k'.natAbs))) ?_
      refine eN (key:=5) 13 (by kernel_rfl) rfl rfl aA rfl ⟨rfl,rfl,rfl,rfl,trivial⟩ ?_
      refine aX 15 (by kernel_rfl) rfl rfl aA rfl rfl rfl rfl ⟨rfl,rfl,rfl,rfl,trivial⟩ ?_
      refine dst 16 ?_;refine aJ ?_
      exact⟨(),trivial,aG h0 [1,2,3,5,4] _ _ (by decide) ⟨rfl,rfl,rfl,rfl,rfl,rfl,trivial⟩ ⟨oe rfl rfl,oe rfl rfl,oe rfl rfl,oe rfl rfl,oe rfl rfl,rfl⟩⟩
     refine bI (key:=5) 13 rfl rfl aA rfl ⟨rfl,rfl,rfl,rfl,trivial⟩ ?_;refine aF 12 rfl (hMr) cU ⟨a1 rfl,a1 rfl,rfl⟩ (kF (bT (aL k) (k.natAbs%k'.natAbs))) ?_
     refine aX 15 (by kernel_rfl) rfl rfl aA rfl rfl rfl rfl ⟨rfl,rfl,rfl,rfl,trivial⟩ ?_
     refine dst 16 ?_;refine aJ ?_
     exact⟨(),trivial,aG h0 [1,2,3,5,4] _ _ (by decide) ⟨rfl,rfl,rfl,rfl,rfl,rfl,trivial⟩ ⟨oe rfl rfl,oe rfl rfl,oe rfl rfl,oe rfl rfl,oe rfl rfl,rfl⟩⟩
    ·refine bI (key:=4) 13 rfl rfl aA rfl ⟨rfl,rfl,rfl,rfl,trivial⟩ ?_;refine WO.two (i:=11) (j:=14) (by kernel_rfl) ?_ ?_
     ·refine cX 11 rfl (hLr) fP ⟨a1 rfl,rfl⟩ (.one (.t (sU false zr))) ?_;refine WO.two (i:=12) (j:=14) (by kernel_rfl) ?_ ?_
      ·refine cX 12 rfl (hMr) cU ⟨a1 rfl,a1 rfl,rfl⟩ (kF (bT (aL k) (k.natAbs%k'.natAbs))) ?_
       refine eN (key:=5) 14 (by kernel_rfl) rfl rfl aA rfl ⟨rfl,rfl,rfl,rfl,trivial⟩ ?_
       refine aX 15 (by kernel_rfl) rfl rfl aA rfl rfl rfl rfl ⟨rfl,rfl,rfl,rfl,trivial⟩ ?_
       refine dst 16 ?_;refine aJ ?_
       exact⟨(),trivial,aG h0 [1,2,3,4,5] _ _ (by decide) ⟨rfl,rfl,rfl,rfl,rfl,rfl,trivial⟩ ⟨oe rfl rfl,oe rfl rfl,oe rfl rfl,oe rfl rfl,oe rfl rfl,rfl⟩⟩
      refine bI (key:=5) 14 rfl rfl aA rfl ⟨rfl,rfl,rfl,rfl,trivial⟩ ?_;refine aF 12 rfl (hMr) cU ⟨a1 rfl,a1 rfl,rfl⟩ (kF (bT (aL k) (k.natAbs%k'.natAbs))) ?_
      refine aX 15 (by kernel_rfl) rfl rfl aA rfl rfl rfl rfl ⟨rfl,rfl,rfl,rfl,trivial⟩ ?_
      refine dst 16 ?_;refine aJ ?_
      exact⟨(),trivial,aG h0 [1,2,3,4,5] _ _ (by decide) ⟨rfl,rfl,rfl,rfl,rfl,rfl,trivial⟩ ⟨oe rfl rfl,oe rfl rfl,oe rfl rfl,oe rfl rfl,oe rfl rfl,rfl⟩⟩
     refine bI (key:=5) 14 rfl rfl aA rfl ⟨rfl,rfl,rfl,rfl,trivial⟩ ?_;refine aF 11 rfl (hLr) fP ⟨a1 rfl,rfl⟩ (.one (.t (sU false zr))) ?_
     refine aF 12 rfl (hMr) cU ⟨a1 rfl,a1 rfl,rfl⟩ (kF (bT (aL k) (k.natAbs%k'.natAbs))) ?_
     refine aX 15 (by kernel_rfl) rfl rfl aA rfl rfl rfl rfl ⟨rfl,rfl,rfl,rfl,trivial⟩ ?_
     refine dst 16 ?_;refine aJ ?_
     exact⟨(),trivial,aG h0 [1,2,3,4,5] _ _ (by decide) ⟨rfl,rfl,rfl,rfl,rfl,rfl,trivial⟩ ⟨oe rfl rfl,oe rfl rfl,oe rfl rfl,oe rfl rfl,oe rfl rfl,rfl⟩⟩
    refine bI (key:=4) 14 rfl rfl aA rfl ⟨rfl,rfl,rfl,rfl,trivial⟩ ?_;refine WO.two (i:=11) (j:=13) (by kernel_rfl) ?_ ?_
    ·refine cX 11 rfl (hLr) fP ⟨a1 rfl,rfl⟩ (.one (.t (sU false zr))) ?_;refine WO.two (i:=12) (j:=13) (by kernel_rfl) ?_ ?_
     ·refine cX 12 rfl (hMr) cU ⟨a1 rfl,a1 rfl,rfl⟩ (kF (bT (aL k) (k.natAbs%k'.natAbs))) ?_
      refine eN (key:=5) 13 (by kernel_rfl) rfl rfl aA rfl ⟨rfl,rfl,rfl,rfl,trivial⟩ ?_
      refine aX 15 (by kernel_rfl) rfl rfl aA rfl rfl rfl rfl ⟨rfl,rfl,rfl,rfl,trivial⟩ ?_
      refine dst 16 ?_;refine aJ ?_
      exact⟨(),trivial,aG h0 [1,2,3,5,4] _ _ (by decide) ⟨rfl,rfl,rfl,rfl,rfl,rfl,trivial⟩ ⟨oe rfl rfl,oe rfl rfl,oe rfl rfl,oe rfl rfl,oe rfl rfl,rfl⟩⟩
     refine bI (key:=5) 13 rfl rfl aA rfl ⟨rfl,rfl,rfl,rfl,trivial⟩ ?_;refine aF 12 rfl (hMr) cU ⟨a1 rfl,a1 rfl,rfl⟩ (kF (bT (aL k) (k.natAbs%k'.natAbs))) ?_
     refine aX 15 (by kernel_rfl) rfl rfl aA rfl rfl rfl rfl ⟨rfl,rfl,rfl,rfl,trivial⟩ ?_
     refine dst 16 ?_;refine aJ ?_
     exact⟨(),trivial,aG h0 [1,2,3,5,4] _ _ (by decide) ⟨rfl,rfl,rfl,rfl,rfl,rfl,trivial⟩ ⟨oe rfl rfl,oe rfl rfl,oe rfl rfl,oe rfl rfl,oe rfl rfl,rfl⟩⟩
    refine bI (key:=5) 13 rfl rfl aA rfl ⟨rfl,rfl,rfl,rfl,trivial⟩ ?_;refine aF 11 rfl (hLr) fP ⟨a1 rfl,rfl⟩ (.one (.t (sU false zr))) ?_
    refine aF 12 rfl (hMr) cU ⟨a1 rfl,a1 rfl,rfl⟩ (kF (bT (aL k) (k.natAbs%k'.natAbs))) ?_
    refine aX 15 (by kernel_rfl) rfl rfl aA rfl rfl rfl rfl ⟨rfl,rfl,rfl,rfl,trivial⟩ ?_
    refine dst 16 ?_;refine aJ ?_
    exact⟨(),trivial,aG h0 [1,2,3,5,4] _ _ (by decide) ⟨rfl,rfl,rfl,rfl,rfl,rfl,trivial⟩ ⟨oe rfl rfl,oe rfl rfl,oe rfl rfl,oe rfl rfl,oe rfl rfl,rfl⟩⟩
   ·refine bI (key:=4) 13 rfl rfl aA rfl ⟨rfl,rfl,rfl,rfl,trivial⟩ ?_;refine WO.two (i:=7) (j:=14) (by kernel_rfl) ?_ ?_
    ·refine cX 7 rfl (hMq) cU ⟨a1 rfl,a1 rfl,rfl⟩ (kF (bT (aL k != aL k') (k.natAbs/k'.natAbs))) ?_;refine WO.two (i:=11) (j:=14) (by kernel_rfl) ?_ ?_
     ·refine cX 11 rfl (hLr) fP ⟨a1 rfl,rfl⟩ (.one (.t (sU false zr))) ?_;refine WO.two (i:=12) (j:=14) (by kernel_rfl) ?_ ?_
      ·refine cX 12 rfl (hMr) cU ⟨a1 rfl,a1 rfl,rfl⟩ (kF (bT (aL k) (k.natAbs%k'.natAbs))) ?_
       refine eN (key:=5) 14 (by kernel_rfl) rfl rfl aA rfl ⟨rfl,rfl,rfl,rfl,trivial⟩ ?_
       refine aX 15 (by kernel_rfl) rfl rfl aA rfl rfl rfl rfl ⟨rfl,rfl,rfl,rfl,trivial⟩ ?_
       refine dst 16 ?_;refine aJ ?_
       exact⟨(),trivial,aG h0 [1,2,3,4,5] _ _ (by decide) ⟨rfl,rfl,rfl,rfl,rfl,rfl,trivial⟩ ⟨oe rfl rfl,oe rfl rfl,oe rfl rfl,oe rfl rfl,oe rfl rfl,rfl⟩⟩
      refine bI (key:=5) 14 rfl rfl aA rfl ⟨rfl,rfl,rfl,rfl,trivial⟩ ?_;refine aF 12 rfl (hMr) cU ⟨a1 rfl,a1 rfl,rfl⟩ (kF (bT (aL k) (k.natAbs%k'.natAbs))) ?_
      refine aX 15 (by kernel_rfl) rfl rfl aA rfl rfl rfl rfl ⟨rfl,rfl,rfl,rfl,trivial⟩ ?_
      refine dst 16 ?_;refine aJ ?_
      exact⟨(),trivial,aG h0 [1,2,3,4,5] _ _ (by decide) ⟨rfl,rfl,rfl,rfl,rfl,rfl,trivial⟩ ⟨oe rfl rfl,oe rfl rfl,oe rfl rfl,oe rfl rfl,oe rfl rfl,rfl⟩⟩
     refine bI (key:=5) 14 rfl rfl aA rfl ⟨rfl,rfl,rfl,rfl,trivial⟩ ?_;refine aF 11 rfl (hLr) fP ⟨a1 rfl,rfl⟩ (.one (.t (sU false zr))) ?_
     refine aF 12 rfl (hMr) cU ⟨a1 rfl,a1 rfl,rfl⟩ (kF (bT (aL k) (k.natAbs%k'.natAbs))) ?_
     refine aX 15 (by kernel_rfl) rfl rfl aA rfl rfl rfl rfl ⟨rfl,rfl,rfl,rfl,trivial⟩ ?_
     refine dst 16 ?_;refine aJ ?_
     exact⟨(),trivial,aG h0 [1,2,3,4,5] _ _ (by decide) ⟨rfl,rfl,rfl,rfl,rfl,rfl,trivial⟩ ⟨oe rfl rfl,oe rfl rfl,oe rfl rfl,oe rfl rfl,oe rfl rfl,rfl⟩⟩
    refine bI (key:=5) 14 rfl rfl aA rfl ⟨rfl,rfl,rfl,rfl,trivial⟩ ?_;refine aF 7 rfl (hMq) cU ⟨a1 rfl,a1 rfl,rfl⟩ (kF (bT (aL k != aL k') (k.natAbs/k'.natAbs))) ?_
    refine aF 11 rfl (hLr) fP ⟨a1 rfl,rfl⟩ (.one (.t (sU false zr))) ?_;refine aF 12 rfl (hMr) cU ⟨a1 rfl,a1 rfl,rfl⟩ (kF (bT (aL k) (k.natAbs%k'.natAbs))) ?_
    refine aX 15 (by kernel_rfl) rfl rfl aA rfl rfl rfl rfl ⟨rfl,rfl,rfl,rfl,trivial⟩ ?_
    refine dst 16 ?_;refine aJ ?_
    exact⟨(),trivial,aG h0 [1,2,3,4,5] _ _ (by decide) ⟨rfl,rfl,rfl,rfl,rfl,rfl,trivial⟩ ⟨oe rfl rfl,oe rfl rfl,oe rfl rfl,oe rfl rfl,oe rfl rfl,rfl⟩⟩
   refine bI (key:=4) 14 rfl rfl aA rfl ⟨rfl,rfl,rfl,rfl,trivial⟩ ?_;refine WO.two (i:=7) (j:=13) (by kernel_rfl) ?_ ?_
   ·refine cX 7 rfl (hMq) cU ⟨a1 rfl,a1 rfl,rfl⟩ (kF (bT (aL k != aL k') (k.natAbs/k'.natAbs))) ?_;refine WO.two (i:=11) (j:=13) (by kernel_rfl) ?_ ?_
    ·refine cX 11 rfl (hLr) fP ⟨a1 rfl,rfl⟩ (.one (.t (sU false zr))) ?_;refine WO.two (i:=12) (j:=13) (by kernel_rfl) ?_ ?_
     ·refine cX 12 rfl (hMr) cU ⟨a1 rfl,a1 rfl,rfl⟩ (kF (bT (aL k) (k.natAbs%k'.natAbs))) ?_
      refine eN (key:=5) 13 (by kernel_rfl) rfl rfl aA rfl ⟨rfl,rfl,rfl,rfl,trivial⟩ ?_
      refine aX 15 (by kernel_rfl) rfl rfl aA rfl rfl rfl rfl ⟨rfl,rfl,rfl,rfl,trivial⟩ ?_
      refine dst 16 ?_;refine aJ ?_
      exact⟨(),trivial,aG h0 [1,2,3,5,4] _ _ (by decide) ⟨rfl,rfl,rfl,rfl,rfl,rfl,trivial⟩ ⟨oe rfl rfl,oe rfl rfl,oe rfl rfl,oe rfl rfl,oe rfl rfl,rfl⟩⟩
     refine bI (key:=5) 13 rfl rfl aA rfl ⟨rfl,rfl,rfl,rfl,trivial⟩ ?_;refine aF 12 rfl (hMr) cU ⟨a1 rfl,a1 rfl,rfl⟩ (kF (bT (aL k) (k.natAbs%k'.natAbs))) ?_
     refine aX 15 (by kernel_rfl) rfl rfl aA rfl rfl rfl rfl ⟨rfl,rfl,rfl,rfl,trivial⟩ ?_
     refine dst 16 ?_;refine aJ ?_
     exact⟨(),trivial,aG h0 [1,2,3,5,4] _ _ (by decide) ⟨rfl,rfl,rfl,rfl,rfl,rfl,trivial⟩ ⟨oe rfl rfl,oe rfl rfl,oe rfl rfl,oe rfl rfl,oe rfl rfl,rfl⟩⟩
    refine bI (key:=5) 13 rfl rfl aA rfl ⟨rfl,rfl,rfl,rfl,trivial⟩ ?_;refine aF 11 rfl (hLr) fP ⟨a1 rfl,rfl⟩ (.one (.t (sU false zr))) ?_
    refine aF 12 rfl (hMr) cU ⟨a1 rfl,a1 rfl,rfl⟩ (kF (bT (aL k) (k.natAbs%k'.natAbs))) ?_
    refine aX 15 (by kernel_rfl) rfl rfl aA rfl rfl rfl rfl ⟨rfl,rfl,rfl,rfl,trivial⟩ ?_
    refine dst 16 ?_;refine aJ ?_
    exact⟨(),trivial,aG h0 [1,2,3,5,4] _ _ (by decide) ⟨rfl,rfl,rfl,rfl,rfl,rfl,trivial⟩ ⟨oe rfl rfl,oe rfl rfl,oe rfl rfl,oe rfl rfl,oe rfl rfl,rfl⟩⟩
   refine bI (key:=5) 13 rfl rfl aA rfl ⟨rfl,rfl,rfl,rfl,trivial⟩ ?_;refine aF 7 rfl (hMq) cU ⟨a1 rfl,a1 rfl,rfl⟩ (kF (bT (aL k != aL k') (k.natAbs/k'.natAbs))) ?_
   refine aF 11 rfl (hLr) fP ⟨a1 rfl,rfl⟩ (.one (.t (sU false zr))) ?_;refine aF 12 rfl (hMr) cU ⟨a1 rfl,a1 rfl,rfl⟩ (kF (bT (aL k) (k.natAbs%k'.natAbs))) ?_
   refine aX 15 (by kernel_rfl) rfl rfl aA rfl rfl rfl rfl ⟨rfl,rfl,rfl,rfl,trivial⟩ ?_
   refine dst 16 ?_;refine aJ ?_
   exact⟨(),trivial,aG h0 [1,2,3,5,4] _ _ (by decide) ⟨rfl,rfl,rfl,rfl,rfl,rfl,trivial⟩ ⟨oe rfl rfl,oe rfl rfl,oe rfl rfl,oe rfl rfl,oe rfl rfl,rfl⟩⟩
  ·refine bI (key:=4) 13 rfl rfl aA rfl ⟨rfl,rfl,rfl,rfl,trivial⟩ ?_;refine WO.two (i:=6) (j:=14) (by kernel_rfl) ?_ ?_
   ·refine cX 6 rfl (hLq) fP ⟨a1 rfl,rfl⟩ (.one (.t (sU false zq))) ?_;refine WO.two (i:=7) (j:=14) (by kernel_rfl) ?_ ?_
    ·refine cX 7 rfl (hMq) cU ⟨a1 rfl,a1 rfl,rfl⟩ (kF (bT (aL k != aL k') (k.natAbs/k'.natAbs))) ?_;refine WO.two (i:=11) (j:=14) (by kernel_rfl) ?_ ?_
     ·refine cX 11 rfl (hLr) fP ⟨a1 rfl,rfl⟩ (.one (.t (sU false zr))) ?_;refine WO.two (i:=12) (j:=14) (by kernel_rfl) ?_ ?_
      ·refine cX 12 rfl (hMr) cU ⟨a1 rfl,a1 rfl,rfl⟩ (kF (bT (aL k) (k.natAbs%k'.natAbs))) ?_
       refine eN (key:=5) 14 (by kernel_rfl) rfl rfl aA rfl ⟨rfl,rfl,rfl,rfl,trivial⟩ ?_
       refine aX 15 (by kernel_rfl) rfl rfl aA rfl rfl rfl rfl ⟨rfl,rfl,rfl,rfl,trivial⟩ ?_
       refine dst 16 ?_;refine aJ ?_
       exact⟨(),trivial,aG h0 [1,2,3,4,5] _ _ (by decide) ⟨rfl,rfl,rfl,rfl,rfl,rfl,trivial⟩ ⟨oe rfl rfl,oe rfl rfl,oe rfl rfl,oe rfl rfl,oe rfl rfl,rfl⟩⟩
      refine bI (key:=5) 14 rfl rfl aA rfl ⟨rfl,rfl,rfl,rfl,trivial⟩ ?_;refine aF 12 rfl (hMr) cU ⟨a1 rfl,a1 rfl,rfl⟩ (kF (bT (aL k) (k.natAbs%k'.natAbs))) ?_
      refine aX 15 (by kernel_rfl) rfl rfl aA rfl rfl rfl rfl ⟨rfl,rfl,rfl,rfl,trivial⟩ ?_
      refine dst 16 ?_;refine aJ ?_
      exact⟨(),trivial,aG h0 [1,2,3,4,5] _ _ (by decide) ⟨rfl,rfl,rfl,rfl,rfl,rfl,trivial⟩ ⟨oe rfl rfl,oe rfl rfl,oe rfl rfl,oe rfl rfl,oe rfl rfl,rfl⟩⟩
     refine bI (key:=5) 14 rfl rfl aA rfl ⟨rfl,rfl,rfl,rfl,trivial⟩ ?_;refine aF 11 rfl (hLr) fP ⟨a1 rfl,rfl⟩ (.one (.t (sU false zr))) ?_
     refine aF 12 rfl (hMr) cU ⟨a1 rfl,a1 rfl,rfl⟩ (kF (bT (aL k) (k.natAbs%k'.natAbs))) ?_
     refine aX 15 (by kernel_rfl) rfl rfl aA rfl rfl rfl rfl ⟨rfl,rfl,rfl,rfl,trivial⟩ ?_
     refine dst 16 ?_;refine aJ ?_
     exact⟨(),trivial,aG h0 [1,2,3,4,5] _ _ (by decide) ⟨rfl,rfl,rfl,rfl,rfl,rfl,trivial⟩ ⟨oe rfl rfl,oe rfl rfl,oe rfl rfl,oe rfl rfl,oe rfl rfl,rfl⟩⟩
    refine bI (key:=5) 14 rfl rfl aA rfl ⟨rfl,rfl,rfl,rfl,trivial⟩ ?_;refine aF 7 rfl (hMq) cU ⟨a1 rfl,a1 rfl,rfl⟩ (kF (bT (aL k != aL k') (k.natAbs/k'.natAbs))) ?_
    refine aF 11 rfl (hLr) fP ⟨a1 rfl,rfl⟩ (.one (.t (sU false zr))) ?_;refine aF 12 rfl (hMr) cU ⟨a1 rfl,a1 rfl,rfl⟩ (kF (bT (aL k) (k.natAbs%k'.natAbs))) ?_
    refine aX 15 (by kernel_rfl) rfl rfl aA rfl rfl rfl rfl ⟨rfl,rfl,rfl,rfl,trivial⟩ ?_
    refine dst 16 ?_;refine aJ ?_
    exact⟨(),trivial,aG h0 [1,2,3,4,5] _ _ (by decide) ⟨rfl,rfl,rfl,rfl,rfl,rfl,trivial⟩ ⟨oe rfl rfl,oe rfl rfl,oe rfl rfl,oe rfl rfl,oe rfl rfl,rfl⟩⟩
   refine bI (key:=5) 14 rfl rfl aA rfl ⟨rfl,rfl,rfl,rfl,trivial⟩ ?_;refine aF 6 rfl (hLq) fP ⟨a1 rfl,rfl⟩ (.one (.t (sU false zq))) ?_
   refine aF 7 rfl (hMq) cU ⟨a1 rfl,a1 rfl,rfl⟩ (kF (bT (aL k != aL k') (k.natAbs/k'.natAbs))) ?_;refine aF 11 rfl (hLr) fP ⟨a1 rfl,rfl⟩ (.one (.t (sU false zr))) ?_
   refine aF 12 rfl (hMr) cU ⟨a1 rfl,a1 rfl,rfl⟩ (kF (bT (aL k) (k.natAbs%k'.natAbs))) ?_;refine aX 15 (by kernel_rfl) rfl rfl aA rfl rfl rfl rfl ⟨rfl,rfl,rfl,rfl,trivial⟩ ?_
   refine dst 16 ?_;refine aJ ?_
   exact⟨(),trivial,aG h0 [1,2,3,4,5] _ _ (by decide) ⟨rfl,rfl,rfl,rfl,rfl,rfl,trivial⟩ ⟨oe rfl rfl,oe rfl rfl,oe rfl rfl,oe rfl rfl,oe rfl rfl,rfl⟩⟩
  refine bI (key:=4) 14 rfl rfl aA rfl ⟨rfl,rfl,rfl,rfl,trivial⟩ ?_;refine WO.two (i:=6) (j:=13) (by kernel_rfl) ?_ ?_
  ·refine cX 6 rfl (hLq) fP ⟨a1 rfl,rfl⟩ (.one (.t (sU false zq))) ?_;refine WO.two (i:=7) (j:=13) (by kernel_rfl) ?_ ?_
   ·refine cX 7 rfl (hMq) cU ⟨a1 rfl,a1 rfl,rfl⟩ (kF (bT (aL k != aL k') (k.natAbs/k'.natAbs))) ?_;refine WO.two (i:=11) (j:=13) (by kernel_rfl) ?_ ?_
    ·refine cX 11 rfl (hLr) fP ⟨a1 rfl,rfl⟩ (.one (.t (sU false zr))) ?_;refine WO.two (i:=12) (j:=13) (by kernel_rfl) ?_ ?_
     ·refine cX 12 rfl (hMr) cU ⟨a1 rfl,a1 rfl,rfl⟩ (kF (bT (aL k) (k.natAbs%k'.natAbs))) ?_
      refine eN (key:=5) 13 (by kernel_rfl) rfl rfl aA rfl ⟨rfl,rfl,rfl,rfl,trivial⟩ ?_
      refine aX 15 (by kernel_rfl) rfl rfl aA rfl rfl rfl rfl ⟨rfl,rfl,rfl,rfl,trivial⟩ ?_
      refine dst 16 ?_;refine aJ ?_
      exact⟨(),trivial,aG h0 [1,2,3,5,4] _ _ (by decide) ⟨rfl,rfl,rfl,rfl,rfl,rfl,trivial⟩ ⟨oe rfl rfl,oe rfl rfl,oe rfl rfl,oe rfl rfl,oe rfl rfl,rfl⟩⟩
     refine bI (key:=5) 13 rfl rfl aA rfl ⟨rfl,rfl,rfl,rfl,trivial⟩ ?_;refine aF 12 rfl (hMr) cU ⟨a1 rfl,a1 rfl,rfl⟩ (kF (bT (aL k) (k.natAbs%k'.natAbs))) ?_
     refine aX 15 (by kernel_rfl) rfl rfl aA rfl rfl rfl rfl ⟨rfl,rfl,rfl,rfl,trivial⟩ ?_
     refine dst 16 ?_;refine aJ ?_
     exact⟨(),trivial,aG h0 [1,2,3,5,4] _ _ (by decide) ⟨rfl,rfl,rfl,rfl,rfl,rfl,trivial⟩ ⟨oe rfl rfl,oe rfl rfl,oe rfl rfl,oe rfl rfl,oe rfl rfl,rfl⟩⟩
    refine bI (key:=5) 13 rfl rfl aA rfl ⟨rfl,rfl,rfl,rfl,trivial⟩ ?_;refine aF 11 rfl (hLr) fP ⟨a1 rfl,rfl⟩ (.one (.t (sU false zr))) ?_
    refine aF 12 rfl (hMr) cU ⟨a1 rfl,a1 rfl,rfl⟩ (kF (bT (aL k) (k.natAbs%k'.natAbs))) ?_
    refine aX 15 (by kernel_rfl) rfl rfl aA rfl rfl rfl rfl ⟨rfl,rfl,rfl,rfl,trivial⟩ ?_
    refine dst 16 ?_;refine aJ ?_
    exact⟨(),trivial,aG h0 [1,2,3,5,4] _ _ (by decide) ⟨rfl,rfl,rfl,rfl,rfl,rfl,trivial⟩ ⟨oe rfl rfl,oe rfl rfl,oe rfl rfl,oe rfl rfl,oe rfl rfl,rfl⟩⟩
   refine bI (key:=5) 13 rfl rfl aA rfl ⟨rfl,rfl,rfl,rfl,trivial⟩ ?_;refine aF 7 rfl (hMq) cU ⟨a1 rfl,a1 rfl,rfl⟩ (kF (bT (aL k != aL k') (k.natAbs/k'.natAbs))) ?_
   refine aF 11 rfl (hLr) fP ⟨a1 rfl,rfl⟩ (.one (.t (sU false zr))) ?_;refine aF 12 rfl (hMr) cU ⟨a1 rfl,a1 rfl,rfl⟩ (kF (bT (aL k) (k.natAbs%k'.natAbs))) ?_
   refine aX 15 (by kernel_rfl) rfl rfl aA rfl rfl rfl rfl ⟨rfl,rfl,rfl,rfl,trivial⟩ ?_
   refine dst 16 ?_;refine aJ ?_
   exact⟨(),trivial,aG h0 [1,2,3,5,4] _ _ (by decide) ⟨rfl,rfl,rfl,rfl,rfl,rfl,trivial⟩ ⟨oe rfl rfl,oe rfl rfl,oe rfl rfl,oe rfl rfl,oe rfl rfl,rfl⟩⟩
  refine bI (key:=5) 13 rfl rfl aA rfl ⟨rfl,rfl,rfl,rfl,trivial⟩ ?_;refine aF 6 rfl (hLq) fP ⟨a1 rfl,rfl⟩ (.one (.t (sU false zq))) ?_
  refine aF 7 rfl (hMq) cU ⟨a1 rfl,a1 rfl,rfl⟩ (kF (bT (aL k != aL k') (k.natAbs/k'.natAbs))) ?_;refine aF 11 rfl (hLr) fP ⟨a1 rfl,rfl⟩ (.one (.t (sU false zr))) ?_
  refine aF 12 rfl (hMr) cU ⟨a1 rfl,a1 rfl,rfl⟩ (kF (bT (aL k) (k.natAbs%k'.natAbs))) ?_;refine aX 15 (by kernel_rfl) rfl rfl aA rfl rfl rfl rfl ⟨rfl,rfl,rfl,rfl,trivial⟩ ?_
  refine dst 16 ?_;refine aJ ?_
  exact⟨(),trivial,aG h0 [1,2,3,5,4] _ _ (by decide) ⟨rfl,rfl,rfl,rfl,rfl,rfl,trivial⟩ ⟨oe rfl rfl,oe rfl rfl,oe rfl rfl,oe rfl rfl,oe rfl rfl,rfl⟩⟩
 have hlq:(dg 4294967296 (bT (aL k != aL k') (k.natAbs/k'.natAbs)).natAbs).length≤(dg 4294967296 (k).natAbs).length:=by rw[kC];exact jT (Nat.div_le_self _ _)
 have hlr:(dg 4294967296 (bT (aL k) (k.natAbs%k'.natAbs)).natAbs).length≤(dg 4294967296 (k).natAbs).length:=by rw[kC];exact jT (Nat.mod_le _ _)
 refine sq ?_;refine sq ?_;refine rd [0,1,2,3,4] (fun i=>[].contains i) mixed ?_
 refine aI 0 ?_;refine aF 1 rfl (oT (Zn.of (k:=bT (aL k) (k.natAbs%k'.natAbs)) (by omega))) Cd ⟨aB rfl,rfl⟩ (.one (tv (.int .i64 (bT (aL k) (k.natAbs%k'.natAbs)).sign))) ?_
 refine df 2 ?_;refine df 3 ?_;refine WD.split (t:=47) rfl rfl (fun h6=>?_) (fun h6=>?_)
 ·refine aI 4 ?_;refine aI 6 ?_
  refine aF 5 rfl (oT (Zn.of (k:=bT (aL k) (k.natAbs%k'.natAbs)) (by omega))) Cd ⟨aB rfl,rfl⟩ (.one (tv (.int .i64 (bT (aL k) (k.natAbs%k'.natAbs)).sign))) ?_
  refine aF 7 rfl (oT (Zn.of (k:=k') (by omega))) Cd ⟨aB rfl,rfl⟩ (.one (tv (.int .i64 (k').sign))) ?_
  refine df 8 ?_;refine df 9 ?_;refine aJ ?_;refine bP rfl (fun h7=>?_) (fun h7=>?_)
  ·refine sq ?_;refine rd [0,1,2,3,4] (fun i=>[2,3].contains i) mixed ?_
   refine aI 0 ?_;have hol:(dg 4294967296 (1:Int).natAbs).length≤1:=dH (by omega) (by decide)
   refine aF 1 rfl (sM (n:=1) (by omega) (by omega)) yB ⟨a1 rfl,rfl⟩ (kF (1:Int)) ?_
   refine aF 2 rfl (NC (Zn.of (k:=bT (aL k != aL k') (k.natAbs/k'.natAbs)) (by omega)) (Zn.of (k:=(1:Int)) (by omega))) SB ⟨aB rfl,aB rfl,rfl⟩ (kF (bT (aL k != aL k') (k.natAbs/k'.natAbs)-(1:Int))) ?_
   refine dst 3 ?_;refine aJ ?_;refine rl ?_;refine ld ?_;refine ld ?_
   refine ca (uK (Zn.of (k:=bT (aL k) (k.natAbs%k'.natAbs)) (by omega)) (Zn.of (k:=k') (by omega))) Fs ⟨aB rfl,aB rfl,rfl⟩ (kF (bT (aL k) (k.natAbs%k'.natAbs)+k')) ?_
   refine st ?_;refine nl ?_;refine sq ?_;refine rd [0,2,3,4] (fun i=>[3,4].contains i) mixed ?_
   refine aI 0 ?_;refine aI 1 ?_;refine aX 2 (by kernel_rfl) rfl rfl aA rfl rfl rfl rfl ⟨rfl,rfl,rfl,rfl,trivial⟩ ?_
   refine dst 3 ?_;refine cR 4 (by kernel_rfl) rfl rfl aA rfl (by trivial) ?_ (fun h=>by first | rfl | cases h)
   refine aJ ?_;refine rt ?_;obtain⟨hd1,hd2⟩:=IF (a:=k) (b:=k') hkn rfl rfl h6 h7
   exact en (.inl rfl) rfl (Cc (.cons (.agg (.cons (.id rfl) (.cons (.id rfl) .nil))) (.cons (.agg (.cons (.id rfl) (.cons (.id rfl) .nil))) (.cons (bL _) .nil)))) (by decide) (fun h=>by cases h) (by rw[if_neg hkn,if_neg hkn,if_neg hkn,←hd1,←hd2];rfl)
  refine sk ?_;refine sq ?_;refine rd [0,2,3,4] (fun i=>[3,4].contains i) mixed ?_
  refine aI 0 ?_;refine aI 1 ?_;refine aX 2 (by kernel_rfl) rfl rfl aA rfl rfl rfl rfl ⟨rfl,rfl,rfl,rfl,trivial⟩ ?_
  refine dst 3 ?_;refine cR 4 (by kernel_rfl) rfl rfl aA rfl (by trivial) ?_ (fun h=>by first | rfl | cases h)
  refine aJ ?_;refine rt ?_;obtain⟨hd1,hd2⟩:=Qb (a:=k) (b:=k') hkn rfl rfl (.inr (Decidable.byContradiction h7))
  exact en (.inl rfl) rfl (Cc (.cons (.agg (.cons (.id rfl) (.cons (.id rfl) .nil))) (.cons (.agg (.cons (.id rfl) (.cons (.id rfl) .nil))) (.cons (bL _) .nil)))) (by decide) (fun h=>by cases h) (by rw[if_neg hkn,if_neg hkn,if_neg hkn,←hd1,←hd2];rfl)
 refine aC 4 ?_;refine aC 6 ?_;refine aC 5 ?_;refine aC 7 ?_;refine aC 8 ?_;refine df 9 ?_;refine aJ ?_;refine iH rfl ?_;refine sk ?_;refine sq ?_
 refine rd [0,2,3,4] (fun i=>[3,4].contains i) mixed ?_
 refine aI 0 ?_;refine aI 1 ?_;refine aX 2 (by kernel_rfl) rfl rfl aA rfl rfl rfl rfl ⟨rfl,rfl,rfl,rfl,trivial⟩ ?_
 refine dst 3 ?_;refine cR 4 (by kernel_rfl) rfl rfl aA rfl (by trivial) ?_ (fun h=>by first | rfl | cases h)
 refine aJ ?_;refine rt ?_;obtain⟨hd1,hd2⟩:=Qb (a:=k) (b:=k') hkn rfl rfl (.inl (Decidable.byContradiction h6))
 exact en (.inl rfl) rfl (Cc (.cons (.agg (.cons (.id rfl) (.cons (.id rfl) .nil))) (.cons (.agg (.cons (.id rfl) (.cons (.id rfl) .nil))) (.cons (bL _) .nil)))) (by decide) (fun h=>by cases h) (by rw[if_neg hkn,if_neg hkn,if_neg hkn,←hd1,←hd2];rfl)
theorem IG {a b:Zi}{k k':Int}(ha:Zn a k) (hb:Zn b k'):aE true Tryz.prog 134 [] [gF a,gF b] (aN (.one (tv (.bool (decide (k=k')))))):=by
 refine bC Tryz.func134 rfl Tryz.ntmps134 rfl aA rfl fun N w c0 h0=>?_
 refine sq ?_;refine rl ?_;refine bx 0 ?_;refine bx 1 ?_;refine o1 ?_;refine nl ?_;refine sq ?_;refine rl ?_;refine ld ?_;refine ld ?_
 refine ca (Wq ha hb) ER ⟨aB rfl,aB rfl,rfl⟩ (.one (tv (.int .i64 ((k)-(k')).sign))) ?_;refine o1 ?_;refine o1 ?_;refine nl ?_;refine rt ?_
 exact en (.inl rfl) rfl (aO (bL _)) (by decide) (fun _=>trivial) (congrArg (fun z=>FV.one (tv (.bool z))) (BH _ _))
theorem wC {a:Fr4}{p:Rat}(ha:Qn a p):aE true Tryz.prog 90 [] [qF a] (aN (.one (tv (.bool (bD a.s a.x a.t a.y))))):=by
 refine bC Tryz.func90 rfl Tryz.ntmps90 rfl aA rfl fun N w c0 h0=>?_
 have hzl:=(Li ha).len
 have hzd:=(yC ha).len
 refine sq ?_;refine rl ?_;refine bx 0 ?_;refine o1 ?_;refine nl ?_;refine sq ?_;refine rl ?_;refine o1 ?_;refine ld ?_
 refine ca (Cb (Li ha)) Ti ⟨aB rfl,rfl⟩ (.one (tv (.bool (dK a.s a.x)))) ?_;refine o1 ?_;refine WL.splitb (t:=6) rfl (fun h1=>?_) (fun h1=>?_)
 ·refine o1 ?_;refine ld ?_;refine ca (Cb (yC ha)) Ti ⟨aB rfl,rfl⟩ (.one (tv (.bool (dK a.t a.y)))) ?_;refine o1 ?_;refine o1 ?_
  refine WL.splitb (t:=11) rfl (fun h2=>?_) (fun h2=>?_)
  ·refine o1 ?_;refine ld ?_;refine ca (oT (yC ha)) Cd ⟨aB rfl,rfl⟩ (.one (tv (.int .i64 ((eI a.t a.y)).sign))) ?_;(iterate 3 refine o1 ?_)
   refine WL.split (t:=17) rfl (fun h3=>?_) (fun h3=>?_)
   ·refine o1 ?_;refine ld ?_;refine o1 ?_;refine ld ?_;have s3:0<eI a.t a.y:=Int.sign_pos_iff.1 h3
    have hn4:=Ft (k:=(eI a.s a.x)) (k':=(eI a.t a.y)) (by omega)
    refine ca (Lh (Li ha) (yC ha)) Tl ⟨aB rfl,aB rfl,rfl⟩ (kF (((Int.gcd (eI a.s a.x) (eI a.t a.y):Nat):Int))) ?_;have hn5:=pN (n:=(1:Int)) (by omega) (by omega)
    refine ca (sM (n:=(1:Int)) (by omega) (by omega)) yB ⟨a1 rfl,rfl⟩ (kF ((1:Int))) ?_
    refine ca (IG (Zn.of (k:=((Int.gcd (eI a.s a.x) (eI a.t a.y):Nat):Int)) (by omega)) (Zn.of (k:=(1:Int)) (by omega))) SC ⟨aB rfl,aB rfl,rfl⟩ (.one (tv (.bool (decide ((((Int.gcd (eI a.s a.x) (eI a.t a.y):Nat):Int))=((1:Int))))))) ?_
    refine o1 ?_;refine o1 ?_;refine nl ?_;refine rt ?_
    exact en (.inl rfl) rfl (aO (bL _)) (by decide) (fun _=>trivial) (congrArg (fun z=>FV.one (tv (.bool z))) (by simp[bD,h1,h2,s3,Qc]))
   (iterate 7 refine bF ?_);refine o1 ?_;refine o1 ?_;refine nl ?_;refine rt ?_;have s3:¬(0<eI a.t a.y):=fun h=>h3 (Int.sign_pos_iff.2 h)
   exact en (.inl rfl) rfl (aO (bL _)) (by decide) (fun _=>trivial) (congrArg (fun z=>FV.one (tv (.bool z))) (by simp[bD,h1,h2,s3,Qc]))
  (iterate 4 refine bF ?_);refine o1 ?_;refine o1 ?_;(iterate 7 refine bF ?_);refine o1 ?_;refine o1 ?_;refine nl ?_;refine rt ?_
  exact en (.inl rfl) rfl (aO (bL _)) (by decide) (fun _=>trivial) (congrArg (fun z=>FV.one (tv (.bool z))) (by simp[bD,h1,h2]))
 (iterate 3 refine bF ?_);refine o1 ?_;refine o1 ?_;(iterate 4 refine bF ?_);refine o1 ?_;refine o1 ?_;(iterate 7 refine bF ?_);refine o1 ?_;refine o1 ?_;refine nl ?_;refine rt ?_
 exact en (.inl rfl) rfl (aO (bL _)) (by decide) (fun _=>trivial) (congrArg (fun z=>FV.one (tv (.bool z))) (by simp[bD,h1]))
theorem Qd:aE false Tryz.prog 107 [] [] (aN (qF (.of 0))):=by
 refine bC Tryz.func107 rfl Tryz.ntmps107 rfl aA rfl fun N w c0 h0=>?_
 refine sq ?_;refine rl ?_;refine al 0 ?_;refine nl ?_;refine sq ?_;refine rl ?_;have hn1:=pN (n:=(0:Int)) (by omega) (by omega)
 refine ca (sM (n:=(0:Int)) (by omega) (by omega)) yB ⟨a1 rfl,rfl⟩ (kF ((0:Int))) ?_
 have hn2:=pN (n:=(1:Int)) (by omega) (by omega)
 refine ca (sM (n:=(1:Int)) (by omega) (by omega)) yB ⟨a1 rfl,rfl⟩ (kF ((1:Int))) ?_
 refine o1 ?_;refine st ?_;refine nl ?_;refine rt ?_
 exact en (.inl rfl) rfl (aO (.agg (.cons (.id rfl) (.cons (.id rfl) (.cons (.id rfl) (.cons (.id rfl) .nil)))))) (by decide) (fun h=>by cases h) (zZ (q:=0) rfl rfl)
theorem rK {n:Int}(h1:-9223372036854775808≤n) (h2:n≤9223372036854775807):aE false Tryz.prog 29 [] [.one (tv (.int .i64 n))] (aN (qF (.of (n:Rat)))):=by
 refine bC Tryz.func29 rfl Tryz.ntmps29 rfl aA rfl fun N w c0 h0=>?_
 refine sq ?_;refine rl ?_;refine al 0 ?_;refine nl ?_;refine sq ?_;refine rl ?_;refine o1 ?_;have hn1:=pN (n:=n) (by omega) (by omega)
 refine ca (sM (n:=n) (by omega) (by omega)) yB ⟨a1 rfl,rfl⟩ (kF (n)) ?_
 have hn2:=pN (n:=(1:Int)) (by omega) (by omega)
 refine ca (sM (n:=(1:Int)) (by omega) (by omega)) yB ⟨a1 rfl,rfl⟩ (kF ((1:Int))) ?_
 refine o1 ?_;refine st ?_;refine nl ?_;refine rt ?_
 exact en (.inl rfl) rfl (aO (.agg (.cons (.id rfl) (.cons (.id rfl) (.cons (.id rfl) (.cons (.id rfl) .nil)))))) (by decide) (fun h=>by cases h) (zZ (q:=(n:Rat)) (Rat.num_intCast n) (by rw[Rat.den_intCast];rfl))
theorem kN {a:Fr4}{p:Rat}(ha:Qn a p):aE false Tryz.prog 63 [] [qF a] (aN (qF (.of p))):=by
 refine bC Tryz.func63 rfl Tryz.ntmps63 rfl aA rfl fun N w c0 h0=>?_
 refine sq ?_;refine rl ?_;refine bx 0 ?_;refine al 1 ?_;refine nl ?_;refine sq ?_;refine sq ?_;refine rl ?_;refine ld ?_
 refine ca (wC ha) Tm ⟨aB rfl,rfl⟩ (.one (tv (.bool (bD a.s a.x a.t a.y)))) ?_;refine WL.splitb (t:=4) rfl (fun h1=>?_) (fun h1=>?_)
 ·refine o1 ?_;refine nl ?_;refine iH rfl ?_;refine sk ?_;refine sq ?_;refine rl ?_;refine ld ?_;refine st ?_;refine nl ?_;refine rt ?_
  exact en (.inl rfl) rfl (aO (.agg (.cons (.id rfl) (.cons (.id rfl) (.cons (.id rfl) (.cons (.id rfl) .nil)))))) (by decide) (fun h=>by cases h) (by rw[ha.right h1];rfl)
 refine o1 ?_;refine nl ?_;refine gL rfl ?_;refine sq ?_;refine rl ?_;refine ca (Qd) EV rfl (qF (.of 0)) ?_;refine st ?_;refine nl ?_;refine rt ?_
 exact en (.inl rfl) rfl (aO (.agg (.cons (.id rfl) (.cons (.id rfl) (.cons (.id rfl) (.cons (.id rfl) .nil)))))) (by decide) (fun h=>by cases h) (by rw[ha.wrong h1];rfl)
theorem sP {a b:Zi}{k k':Int}(ha:Zn a k) (hb:Zn b k') (h0:k'≠0):aE false Tryz.prog 138 [] [gF a,gF b] (aN (.tup [kF (k.fdiv k'),kF (k.fmod k'),.one (tv (.int .i64 0))])):=by
 have h:=Ww ha hb
 rwa[if_neg h0,if_neg h0,if_neg h0]at h
theorem lS {a b:Zi}{k k':Int}(ha:Zn a k) (hb:Zn b k'):aE false Tryz.prog 95 [] [gF a,gF b] (aN (.tup [qF (.of (Rat.divInt k k')),.one (tv (.int .i64 (if k'=0 then 20 else 0)))])):=by
 refine bC Tryz.func95 rfl Tryz.ntmps95 rfl aA rfl fun N w c0 h0=>?_
 have hkl:=ha.len
 have hkl':=hb.len
 refine sq ?_;refine rl ?_;refine bx 0 ?_;refine bx 1 ?_;refine al 2 ?_;refine o1 ?_;refine nl ?_;refine sq ?_;refine sq ?_;refine rl ?_;refine ld ?_
 refine ca (oT hb) Cd ⟨aB rfl,rfl⟩ (.one (tv (.int .i64 (k').sign))) ?_;refine o1 ?_;refine nl ?_;refine bP rfl (fun h1=>?_) (fun h1=>?_)
 ·refine sq ?_;refine rl ?_;refine ca (Qd) EV rfl (qF (.of 0)) ?_;refine st ?_;refine o1 ?_;refine nl ?_;refine rt ?_;have hk0:k'=0:=Int.sign_eq_zero_iff_zero.1 h1
  have hd0:Rat.divInt k k'=0:=by rw[hk0];simp
  exact en (.inl rfl) rfl (Dn (.cons (.agg (.cons (.id rfl) (.cons (.id rfl) (.cons (.id rfl) (.cons (.id rfl) .nil))))) (.cons (bL _) .nil))) (by decide) (fun h=>by cases h) (by rw[if_pos hk0,hd0];rfl)
 refine sk ?_;refine sq ?_;refine sq ?_;have hk0:k'≠0:=fun h9=>h1 (by rw[h9];rfl)
 refine rl ?_;refine ld ?_;refine ca (oT hb) Cd ⟨aB rfl,rfl⟩ (.one (tv (.int .i64 (k').sign))) ?_;refine o1 ?_;refine nl ?_;refine bP rfl (fun h2=>?_) (fun h2=>?_)
 ·refine sq ?_;refine rl ?_;refine ld ?_;have hn3:=lQ (k)
  refine ca (Ds ha) Tj ⟨aB rfl,rfl⟩ (kF (-k)) ?_;refine st ?_;refine nl ?_;refine rl ?_;refine ld ?_;have hn4:=lQ (k')
  refine ca (Ds hb) Tj ⟨aB rfl,rfl⟩ (kF (-k')) ?_;refine st ?_;refine nl ?_;refine sq ?_;have hkn:k'<0:=Int.sign_neg_iff.1 h2
  refine rl ?_;refine ld ?_;refine ld ?_;have hn5:=Ft (k:=-k) (k':=-k') (by omega)
  refine ca (Lh (Zn.of (k:=-k) (by omega)) (Zn.of (k:=-k') (by omega))) Tl ⟨aB rfl,aB rfl,rfl⟩ (kF (((Int.gcd (-k) (-k'):Nat):Int))) ?_
  refine al 3 ?_;refine st ?_;refine nl ?_;refine sq ?_;refine rl ?_;refine ld ?_;refine ld ?_
  refine ca (sP (Zn.of (k:=-k) (by omega)) (Zn.of (k:=((Int.gcd (-k) (-k'):Nat):Int)) (by omega)) (Dw (by omega))) Ji ⟨aB rfl,aB rfl,rfl⟩ (.tup [kF ((-k).fdiv ((Int.gcd (-k) (-k'):Nat):Int)),kF ((-k).fmod ((Int.gcd (-k) (-k'):Nat):Int)),.one (tv (.int .i64 0))]) ?_
  (iterate 4 refine o1 ?_);refine al 4 ?_;refine al 5 ?_;refine st ?_;refine st ?_;refine o1 ?_;refine nl ?_;refine sq ?_;refine rl ?_;refine ld ?_;refine ld ?_
  refine ca (sP (Zn.of (k:=-k') (by omega)) (Zn.of (k:=((Int.gcd (-k) (-k'):Nat):Int)) (by omega)) (Dw (by omega))) Ji ⟨aB rfl,aB rfl,rfl⟩ (.tup [kF ((-k').fdiv ((Int.gcd (-k) (-k'):Nat):Int)),kF ((-k').fmod ((Int.gcd (-k) (-k'):Nat):Int)),.one (tv (.int .i64 0))]) ?_
  (iterate 4 refine o1 ?_);refine al 6 ?_;refine al 7 ?_;refine st ?_;refine st ?_;refine o1 ?_;refine nl ?_;refine sq ?_;refine rl ?_;refine ld ?_;refine ld ?_;refine o1 ?_
  refine st ?_;refine o1 ?_;refine nl ?_;refine rt ?_;obtain⟨hp9,hn9⟩:=Lj (a:=k) hk0
  obtain⟨e1,e2⟩:=hn9 hkn
  exact en (.inl rfl) rfl (Dn (.cons (.agg (.cons (.id rfl) (.cons (.id rfl) (.cons (.id rfl) (.cons (.id rfl) .nil))))) (.cons (bL _) .nil))) (by decide) (fun h=>by cases h) (by rw[if_neg hk0];exact congrArg (fun f=>FV.tup [f,.one (tv (.int .i64 0))]) (zZ e1 e2))
 refine sk ?_;refine sq ?_;have hkp:0<k':=by have h9:=mt Int.sign_neg_iff.2 h2;omega
 refine rl ?_;refine ld ?_;refine ld ?_;have hn6:=Ft (k:=k) (k':=k') (by omega)
 refine ca (Lh ha hb) Tl ⟨aB rfl,aB rfl,rfl⟩ (kF (((Int.gcd k k':Nat):Int))) ?_;refine al 3 ?_;refine st ?_;refine nl ?_;refine sq ?_;refine rl ?_;refine ld ?_;refine ld ?_
 refine ca (sP ha (Zn.of (k:=((Int.gcd k k':Nat):Int)) (by omega)) (Dw (by omega))) Ji ⟨aB rfl,aB rfl,rfl⟩ (.tup [kF ((k).fdiv ((Int.gcd k k':Nat):Int)),kF ((k).fmod ((Int.gcd k k':Nat):Int)),.one (tv (.int .i64 0))]) ?_
 (iterate 4 refine o1 ?_);refine al 4 ?_;refine al 5 ?_;refine st ?_;refine st ?_;refine o1 ?_;refine nl ?_;refine sq ?_;refine rl ?_;refine ld ?_;refine ld ?_
 refine ca (sP hb (Zn.of (k:=((Int.gcd k k':Nat):Int)) (by omega)) (Dw (by omega))) Ji ⟨aB rfl,aB rfl,rfl⟩ (.tup [kF ((k').fdiv ((Int.gcd k k':Nat):Int)),kF ((k').fmod ((Int.gcd k k':Nat):Int)),.one (tv (.int .i64 0))]) ?_
 (iterate 4 refine o1 ?_);refine al 6 ?_;refine al 7 ?_;refine st ?_;refine st ?_;refine o1 ?_;refine nl ?_;refine sq ?_;refine rl ?_;refine ld ?_;refine ld ?_;refine o1 ?_
 refine st ?_;refine o1 ?_;refine nl ?_;refine rt ?_;obtain⟨hp9,hn9⟩:=Lj (a:=k) hk0
 obtain⟨e1,e2⟩:=hp9 hkp
 exact en (.inl rfl) rfl (Dn (.cons (.agg (.cons (.id rfl) (.cons (.id rfl) (.cons (.id rfl) (.cons (.id rfl) .nil))))) (.cons (bL _) .nil))) (by decide) (fun h=>by cases h) (by rw[if_neg hk0];exact congrArg (fun f=>FV.tup [f,.one (tv (.int .i64 0))]) (zZ e1 e2))
theorem SD {n d:Int}(h1:-9223372036854775808≤n) (h2:n≤9223372036854775807) (h3:-9223372036854775808≤d) (h4:d≤9223372036854775807):aE false Tryz.prog 67 [] [.one (tv (.int .i64 n)),.one (tv (.int .i64 d))] (aN (.tup [qF (.of (Rat.divInt n d)),.one (tv (.int .i64 (if d=0 then 20 else 0)))])):=by
 refine bC Tryz.func67 rfl Tryz.ntmps67 rfl aA rfl fun N w c0 h0=>?_
 refine sq ?_;refine rl ?_;refine al 0 ?_;refine o1 ?_;refine nl ?_;refine sq ?_;refine rl ?_;refine o1 ?_;have hn1:=pN (n:=n) (by omega) (by omega)
 refine ca (sM (n:=n) (by omega) (by omega)) yB ⟨a1 rfl,rfl⟩ (kF (n)) ?_
 refine o1 ?_;have hn2:=pN (n:=d) (by omega) (by omega)
 refine ca (sM (n:=d) (by omega) (by omega)) yB ⟨a1 rfl,rfl⟩ (kF (d)) ?_
 refine ca (lS (Zn.of (k:=n) (by omega)) (Zn.of (k:=d) (by omega))) rL ⟨aB rfl,aB rfl,rfl⟩ (.tup [qF (.of (Rat.divInt (n) (d))),.one (tv (.int .i64 (if(d)=0 then 20 else 0)))]) ?_
 refine o1 ?_;refine o1 ?_;refine st ?_;refine o1 ?_;refine nl ?_;refine rt ?_
 exact en (.inl rfl) rfl (Dn (.cons (.agg (.cons (.id rfl) (.cons (.id rfl) (.cons (.id rfl) (.cons (.id rfl) .nil))))) (.cons (bL _) .nil))) (by decide) (fun h=>by cases h) rfl
theorem Wy {a:Fr4}{p:Rat}(ha:Qn a p):aE false Tryz.prog 44 [] [qF a] (aN (qF (.of (-p)))):=by
 refine bC Tryz.func44 rfl Tryz.ntmps44 rfl aA rfl fun N w c0 h0=>?_
 refine sq ?_;refine rl ?_;refine bx 0 ?_;refine al 1 ?_;refine nl ?_;refine sq ?_;refine rl ?_;refine ld ?_;refine ca (kN ha) wD ⟨aB rfl,rfl⟩ (qF (.of p)) ?_;refine st ?_
 refine nl ?_;refine sq ?_;refine rd [0,1] (fun i=>[6].contains i) mixed ?_
 refine dv 0 ?_;refine aI 1 ?_;refine dv 3 ?_;refine aI 4 ?_;refine aF 2 rfl (Ds (gZ ha.sz)) Tj ⟨aB rfl,rfl⟩ (kF (-p.num)) ?_;refine df 5 ?_;refine dst 6 ?_;refine aJ ?_
 refine rt ?_
 exact en (.inl rfl) rfl (aO (.agg (.cons (.id rfl) (.cons (.id rfl) (.cons (.id rfl) (.cons (.id rfl) .nil)))))) (by decide) (fun h=>by cases h) (by unfold qF Fr4.of;rw[Rat.neg_num,Rat.neg_den];rfl)
theorem lT {a b:Fr4}{p q:Rat}(ha:Qn a p) (hb:Qn b q) (hs:Sz 17179869184 p) (hs':Sz 17179869184 q):aE false Tryz.prog 52 [] [qF a,qF b] (aN (qF (.of (p+q)))):=by
 refine bC Tryz.func52 rfl Tryz.ntmps52 rfl aA rfl fun N w c0 h0=>?_
 have hs1:=hs.1
 have hs2:(dg 4294967296 ((p.den:Int)).natAbs).length≤17179869184:=hs.2
 have hs3:=hs'.1
 have hs4:(dg 4294967296 ((q.den:Int)).natAbs).length≤17179869184:=hs'.2
 refine sq ?_;refine rl ?_;refine bx 0 ?_;refine bx 1 ?_;refine al 2 ?_;refine nl ?_;refine sq ?_;refine rl ?_;refine ld ?_;refine ca (kN ha) wD ⟨aB rfl,rfl⟩ (qF (.of p)) ?_
 refine st ?_;refine nl ?_;refine sq ?_;refine rl ?_;refine ld ?_;refine ca (kN hb) wD ⟨aB rfl,rfl⟩ (qF (.of q)) ?_;refine st ?_;refine nl ?_
 refine md (γ:=Unit) (fun _=>bS [(4,.one (.pt 0 0)),(5,.one (.pt 1 0))]) (fun _=>([⟨49,0,[tv (.bool false),tv (.slice none 0 0),tv (.bool false),tv (.slice none 0 0)]⟩,⟨49,0,((Fr4.of (Rat.divInt (p.num*(q.den:Int)+q.num*(p.den:Int)) ((p.den:Int)*(q.den:Int)))).tr false).map .t⟩]:List Ob).map some) (fun _=>True) ?_ fun _ _=>?_
 ·refine rd [0,1,2] (fun i=>[22].contains i) mixed ?_
  refine dv 0 ?_;refine aI 1 ?_;refine dv 2 ?_;refine aI 3 ?_;refine dv 5 ?_;refine aI 6 ?_;refine dv 7 ?_;refine aI 8 ?_;refine dv 11 ?_;refine aI 12 ?_;refine dv 13 ?_
  refine aI 14 ?_;refine WO.two (i:=4) (j:=20) (by kernel_rfl) ?_ ?_
  ·have hn1:=dU (p.num) ((q.den:Int))
   refine cX 4 rfl (iX (gZ hs) (eC hs')) nH ⟨aB rfl,aB rfl,rfl⟩ (kF (p.num*(q.den:Int))) ?_;refine WO.two (i:=9) (j:=20) (by kernel_rfl) ?_ ?_
   ·have hn2:=dU (q.num) ((p.den:Int))
    refine cX 9 rfl (iX (gZ hs') (eC hs)) nH ⟨aB rfl,aB rfl,rfl⟩ (kF (q.num*(p.den:Int))) ?_;refine WO.two (i:=10) (j:=20) (by kernel_rfl) ?_ ?_
    ·have hn3:=lU (p.num*(q.den:Int)) (q.num*(p.den:Int))
     refine cX 10 rfl (uK (Zn.of (k:=p.num*(q.den:Int)) (by omega)) (Zn.of (k:=q.num*(p.den:Int)) (by omega))) Fs ⟨aB rfl,aB rfl,rfl⟩ (kF (p.num*(q.den:Int)+q.num*(p.den:Int))) ?_
     refine WO.two (i:=15) (j:=20) (by kernel_rfl) ?_ ?_
     ·have hn4:=dU ((p.den:Int)) ((q.den:Int))
      refine cX 15 rfl (iX (eC hs) (eC hs')) nH ⟨aB rfl,aB rfl,rfl⟩ (kF ((p.den:Int)*(q.den:Int))) ?_;refine WO.two (i:=16) (j:=20) (by kernel_rfl) ?_ ?_
      ·refine cX 16 rfl (lS (Zn.of (k:=p.num*(q.den:Int)+q.num*(p.den:Int)) (by omega)) (Zn.of (k:=(p.den:Int)*(q.den:Int)) (by omega))) rL ⟨aB rfl,aB rfl,rfl⟩ (.tup [qF (.of (Rat.divInt (p.num*(q.den:Int)+q.num*(p.den:Int)) ((p.den:Int)*(q.den:Int)))),.one (tv (.int .i64 (if((p.den:Int)*(q.den:Int))=0 then 20 else 0)))]) ?_
       refine df 17 ?_;refine df 18 ?_;refine df 19 ?_;refine eN (key:=3) 20 (by kernel_rfl) rfl rfl aA rfl ⟨rfl,rfl,rfl,trivial⟩ ?_
       refine aX 21 (by kernel_rfl) rfl rfl aA rfl rfl rfl rfl ⟨rfl,rfl,rfl,trivial⟩ ?_
       refine cR 22 (by kernel_rfl) rfl rfl aA rfl (by trivial) ?_ (fun h=>by first | rfl | cases h)
       refine aJ ?_;exact⟨(),trivial,aG h0 [2,3] _ _ (by decide) ⟨rfl,rfl,trivial⟩ ⟨oe rfl rfl,oe rfl rfl,rfl⟩⟩
      refine bI (key:=3) 20 rfl rfl aA rfl ⟨rfl,rfl,rfl,trivial⟩ ?_
      refine aF 16 rfl (lS (Zn.of (k:=p.num*(q.den:Int)+q.num*(p.den:Int)) (by omega)) (Zn.of (k:=(p.den:Int)*(q.den:Int)) (by omega))) rL ⟨aB rfl,aB rfl,rfl⟩ (.tup [qF (.of (Rat.divInt (p.num*(q.den:Int)+q.num*(p.den:Int)) ((p.den:Int)*(q.den:Int)))),.one (tv (.int .i64 (if((p.den:Int)*(q.den:Int))=0 then 20 else 0)))]) ?_
      refine df 17 ?_;refine df 18 ?_;refine df 19 ?_;refine aX 21 (by kernel_rfl) rfl rfl aA rfl rfl rfl rfl ⟨rfl,rfl,rfl,trivial⟩ ?_
      refine cR 22 (by kernel_rfl) rfl rfl aA rfl (by trivial) ?_ (fun h=>by first | rfl | cases h)
      refine aJ ?_;exact⟨(),trivial,aG h0 [2,3] _ _ (by decide) ⟨rfl,rfl,trivial⟩ ⟨oe rfl rfl,oe rfl rfl,rfl⟩⟩
     refine bI (key:=3) 20 rfl rfl aA rfl ⟨rfl,rfl,rfl,trivial⟩ ?_;have hn5:=dU ((p.den:Int)) ((q.den:Int))
     refine aF 15 rfl (iX (eC hs) (eC hs')) nH ⟨aB rfl,aB rfl,rfl⟩ (kF ((p.den:Int)*(q.den:Int))) ?_
     refine aF 16 rfl (lS (Zn.of (k:=p.num*(q.den:Int)+q.num*(p.den:Int)) (by omega)) (Zn.of (k:=(p.den:Int)*(q.den:Int)) (by omega))) rL ⟨aB rfl,aB rfl,rfl⟩ (.tup [qF (.of (Rat.divInt (p.num*(q.den:Int)+q.num*(p.den:Int)) ((p.den:Int)*(q.den:Int)))),.one (tv (.int .i64 (if((p.den:Int)*(q.den:Int))=0 then 20 else 0)))]) ?_
     refine df 17 ?_;refine df 18 ?_;refine df 19 ?_;refine aX 21 (by kernel_rfl) rfl rfl aA rfl rfl rfl rfl ⟨rfl,rfl,rfl,trivial⟩ ?_
     refine cR 22 (by kernel_rfl) rfl rfl aA rfl (by trivial) ?_ (fun h=>by first | rfl | cases h)
     refine aJ ?_;exact⟨(),trivial,aG h0 [2,3] _ _ (by decide) ⟨rfl,rfl,trivial⟩ ⟨oe rfl rfl,oe rfl rfl,rfl⟩⟩
    refine bI (key:=3) 20 rfl rfl aA rfl ⟨rfl,rfl,rfl,trivial⟩ ?_;have hn6:=lU (p.num*(q.den:Int)) (q.num*(p.den:Int))
    refine aF 10 rfl (uK (Zn.of (k:=p.num*(q.den:Int)) (by omega)) (Zn.of (k:=q.num*(p.den:Int)) (by omega))) Fs ⟨aB rfl,aB rfl,rfl⟩ (kF (p.num*(q.den:Int)+q.num*(p.den:Int))) ?_
    have hn7:=dU ((p.den:Int)) ((q.den:Int))
    refine aF 15 rfl (iX (eC hs) (eC hs')) nH ⟨aB rfl,aB rfl,rfl⟩ (kF ((p.den:Int)*(q.den:Int))) ?_
    refine aF 16 rfl (lS (Zn.of (k:=p.num*(q.den:Int)+q.num*(p.den:Int)) (by omega)) (Zn.of (k:=(p.den:Int)*(q.den:Int)) (by omega))) rL ⟨aB rfl,aB rfl,rfl⟩ (.tup [qF (.of (Rat.divInt (p.num*(q.den:Int)+q.num*(p.den:Int)) ((p.den:Int)*(q.den:Int)))),.one (tv (.int .i64 (if((p.den:Int)*(q.den:Int))=0 then 20 else 0)))]) ?_
    refine df 17 ?_;refine df 18 ?_;refine df 19 ?_;refine aX 21 (by kernel_rfl) rfl rfl aA rfl rfl rfl rfl ⟨rfl,rfl,rfl,trivial⟩ ?_
    refine cR 22 (by kernel_rfl) rfl rfl aA rfl (by trivial) ?_ (fun h=>by first | rfl | cases h)
    refine aJ ?_;exact⟨(),trivial,aG h0 [2,3] _ _ (by decide) ⟨rfl,rfl,trivial⟩ ⟨oe rfl rfl,oe rfl rfl,rfl⟩⟩
   refine bI (key:=3) 20 rfl rfl aA rfl ⟨rfl,rfl,rfl,trivial⟩ ?_;have hn8:=dU (q.num) ((p.den:Int))
   refine aF 9 rfl (iX (gZ hs') (eC hs)) nH ⟨aB rfl,aB rfl,rfl⟩ (kF (q.num*(p.den:Int))) ?_;have hn9:=lU (p.num*(q.den:Int)) (q.num*(p.den:Int))
   refine aF 10 rfl (uK (Zn.of (k:=p.num*(q.den:Int)) (by omega)) (Zn.of (k:=q.num*(p.den:Int)) (by omega))) Fs ⟨aB rfl,aB rfl,rfl⟩ (kF (p.num*(q.den:Int)+q.num*(p.den:Int))) ?_
   have hn10:=dU ((p.den:Int)) ((q.den:Int))
   refine aF 15 rfl (iX (eC hs) (eC hs')) nH ⟨aB rfl,aB rfl,rfl⟩ (kF ((p.den:Int)*(q.den:Int))) ?_
   refine aF 16 rfl (lS (Zn.of (k:=p.num*(q.den:Int)+q.num*(p.den:Int)) (by omega)) (Zn.of (k:=(p.den:Int)*(q.den:Int)) (by omega))) rL ⟨aB rfl,aB rfl,rfl⟩ (.tup [qF (.of (Rat.divInt (p.num*(q.den:Int)+q.num*(p.den:Int)) ((p.den:Int)*(q.den:Int)))),.one (tv (.int .i64 (if((p.den:Int)*(q.den:Int))=0 then 20 else 0)))]) ?_
   refine df 17 ?_;refine df 18 ?_;refine df 19 ?_;refine aX 21 (by kernel_rfl) rfl rfl aA rfl rfl rfl rfl ⟨rfl,rfl,rfl,trivial⟩ ?_
   refine cR 22 (by kernel_rfl) rfl rfl aA rfl (by trivial) ?_ (fun h=>by first | rfl | cases h)
   refine aJ ?_;exact⟨(),trivial,aG h0 [2,3] _ _ (by decide) ⟨rfl,rfl,trivial⟩ ⟨oe rfl rfl,oe rfl rfl,rfl⟩⟩
  refine bI (key:=3) 20 rfl rfl aA rfl ⟨rfl,rfl,rfl,trivial⟩ ?_;have hn11:=dU (p.num) ((q.den:Int))
  refine aF 4 rfl (iX (gZ hs) (eC hs')) nH ⟨aB rfl,aB rfl,rfl⟩ (kF (p.num*(q.den:Int))) ?_;have hn12:=dU (q.num) ((p.den:Int))
  refine aF 9 rfl (iX (gZ hs') (eC hs)) nH ⟨aB rfl,aB rfl,rfl⟩ (kF (q.num*(p.den:Int))) ?_;have hn13:=lU (p.num*(q.den:Int)) (q.num*(p.den:Int))
  refine aF 10 rfl (uK (Zn.of (k:=p.num*(q.den:Int)) (by omega)) (Zn.of (k:=q.num*(p.den:Int)) (by omega))) Fs ⟨aB rfl,aB rfl,rfl⟩ (kF (p.num*(q.den:Int)+q.num*(p.den:Int))) ?_
  have hn14:=dU ((p.den:Int)) ((q.den:Int))
  refine aF 15 rfl (iX (eC hs) (eC hs')) nH ⟨aB rfl,aB rfl,rfl⟩ (kF ((p.den:Int)*(q.den:Int))) ?_
  refine aF 16 rfl (lS (Zn.of (k:=p.num*(q.den:Int)+q.num*(p.den:Int)) (by omega)) (Zn.of (k:=(p.den:Int)*(q.den:Int)) (by omega))) rL ⟨aB rfl,aB rfl,rfl⟩ (.tup [qF (.of (Rat.divInt (p.num*(q.den:Int)+q.num*(p.den:Int)) ((p.den:Int)*(q.den:Int)))),.one (tv (.int .i64 (if((p.den:Int)*(q.den:Int))=0 then 20 else 0)))]) ?_
  refine df 17 ?_;refine df 18 ?_;refine df 19 ?_;refine aX 21 (by kernel_rfl) rfl rfl aA rfl rfl rfl rfl ⟨rfl,rfl,rfl,trivial⟩ ?_
  refine cR 22 (by kernel_rfl) rfl rfl aA rfl (by trivial) ?_ (fun h=>by first | rfl | cases h)
  refine aJ ?_;exact⟨(),trivial,aG h0 [2,3] _ _ (by decide) ⟨rfl,rfl,trivial⟩ ⟨oe rfl rfl,oe rfl rfl,rfl⟩⟩
 refine sq ?_;refine rl ?_;refine ld ?_;refine st ?_;refine nl ?_;refine rt ?_
 exact en (.inl rfl) rfl (aO (.agg (.cons (.id rfl) (.cons (.id rfl) (.cons (.id rfl) (.cons (.id rfl) .nil)))))) (by decide) (fun h=>by cases h) (by rw[←sS];rfl)
theorem NG {a b:Fr4}{p q:Rat}(ha:Qn a p) (hb:Qn b q) (hs:Sz 17179869184 p) (hs':Sz 17179869184 q):aE false Tryz.prog 94 [] [qF a,qF b] (aN (qF (.of (p*q)))):=by
 refine bC Tryz.func94 rfl Tryz.ntmps94 rfl aA rfl fun N w c0 h0=>?_
 have hs1:=hs.1
 have hs2:(dg 4294967296 ((p.den:Int)).natAbs).length≤17179869184:=hs.2
 have hs3:=hs'.1
 have hs4:(dg 4294967296 ((q.den:Int)).natAbs).length≤17179869184:=hs'.2
 refine sq ?_;refine rl ?_;refine bx 0 ?_;refine bx 1 ?_;refine al 2 ?_;refine nl ?_;refine sq ?_;refine rl ?_;refine ld ?_;refine ca (kN ha) wD ⟨aB rfl,rfl⟩ (qF (.of p)) ?_
 refine st ?_;refine nl ?_;refine sq ?_;refine rl ?_;refine ld ?_;refine ca (kN hb) wD ⟨aB rfl,rfl⟩ (qF (.of q)) ?_;refine st ?_;refine nl ?_
 refine md (γ:=Unit) (fun _=>bS [(4,.one (.pt 0 0)),(5,.one (.pt 1 0))]) (fun _=>([⟨49,0,[tv (.bool false),tv (.slice none 0 0),tv (.bool false),tv (.slice none 0 0)]⟩,⟨49,0,((Fr4.of (Rat.divInt (p.num*q.num) ((p.den:Int)*(q.den:Int)))).tr false).map .t⟩]:List Ob).map some) (fun _=>True) ?_ fun _ _=>?_
 ·refine rd [0,1,2] (fun i=>[16].contains i) mixed ?_
  refine dv 0 ?_;refine aI 1 ?_;refine dv 2 ?_;refine aI 3 ?_;refine dv 5 ?_;refine aI 6 ?_;refine dv 7 ?_;refine aI 8 ?_;refine WO.two (i:=4) (j:=14) (by kernel_rfl) ?_ ?_
  ·have hn1:=dU (p.num) (q.num)
   refine cX 4 rfl (iX (gZ hs) (gZ hs')) nH ⟨aB rfl,aB rfl,rfl⟩ (kF (p.num*q.num)) ?_;refine WO.two (i:=9) (j:=14) (by kernel_rfl) ?_ ?_
   ·have hn2:=dU ((p.den:Int)) ((q.den:Int))
    refine cX 9 rfl (iX (eC hs) (eC hs')) nH ⟨aB rfl,aB rfl,rfl⟩ (kF ((p.den:Int)*(q.den:Int))) ?_;refine WO.two (i:=10) (j:=14) (by kernel_rfl) ?_ ?_
    ·refine cX 10 rfl (lS (Zn.of (k:=p.num*q.num) (by omega)) (Zn.of (k:=(p.den:Int)*(q.den:Int)) (by omega))) rL ⟨aB rfl,aB rfl,rfl⟩ (.tup [qF (.of (Rat.divInt (p.num*q.num) ((p.den:Int)*(q.den:Int)))),.one (tv (.int .i64 (if((p.den:Int)*(q.den:Int))=0 then 20 else 0)))]) ?_
     refine df 11 ?_;refine df 12 ?_;refine df 13 ?_;refine eN (key:=3) 14 (by kernel_rfl) rfl rfl aA rfl ⟨rfl,rfl,rfl,trivial⟩ ?_
     refine aX 15 (by kernel_rfl) rfl rfl aA rfl rfl rfl rfl ⟨rfl,rfl,rfl,trivial⟩ ?_
     refine cR 16 (by kernel_rfl) rfl rfl aA rfl (by trivial) ?_ (fun h=>by first | rfl | cases h)
     refine aJ ?_;exact⟨(),trivial,aG h0 [2,3] _ _ (by decide) ⟨rfl,rfl,trivial⟩ ⟨oe rfl rfl,oe rfl rfl,rfl⟩⟩
    refine bI (key:=3) 14 rfl rfl aA rfl ⟨rfl,rfl,rfl,trivial⟩ ?_
    refine aF 10 rfl (lS (Zn.of (k:=p.num*q.num) (by omega)) (Zn.of (k:=(p.den:Int)*(q.den:Int)) (by omega))) rL ⟨aB rfl,aB rfl,rfl⟩ (.tup [qF (.of (Rat.divInt (p.num*q.num) ((p.den:Int)*(q.den:Int)))),.one (tv (.int .i64 (if((p.den:Int)*(q.den:Int))=0 then 20 else 0)))]) ?_
    refine df 11 ?_;refine df 12 ?_;refine df 13 ?_;refine aX 15 (by kernel_rfl) rfl rfl aA rfl rfl rfl rfl ⟨rfl,rfl,rfl,trivial⟩ ?_
    refine cR 16 (by kernel_rfl) rfl rfl aA rfl (by trivial) ?_ (fun h=>by first | rfl | cases h)
    refine aJ ?_;exact⟨(),trivial,aG h0 [2,3] _ _ (by decide) ⟨rfl,rfl,trivial⟩ ⟨oe rfl rfl,oe rfl rfl,rfl⟩⟩
   refine bI (key:=3) 14 rfl rfl aA rfl ⟨rfl,rfl,rfl,trivial⟩ ?_;have hn3:=dU ((p.den:Int)) ((q.den:Int))
   refine aF 9 rfl (iX (eC hs) (eC hs')) nH ⟨aB rfl,aB rfl,rfl⟩ (kF ((p.den:Int)*(q.den:Int))) ?_
   refine aF 10 rfl (lS (Zn.of (k:=p.num*q.num) (by omega)) (Zn.of (k:=(p.den:Int)*(q.den:Int)) (by omega))) rL ⟨aB rfl,aB rfl,rfl⟩ (.tup [qF (.of (Rat.divInt (p.num*q.num) ((p.den:Int)*(q.den:Int)))),.one (tv (.int .i64 (if((p.den:Int)*(q.den:Int))=0 then 20 else 0)))]) ?_
   refine df 11 ?_;refine df 12 ?_;refine df 13 ?_;refine aX 15 (by kernel_rfl) rfl rfl aA rfl rfl rfl rfl ⟨rfl,rfl,rfl,trivial⟩ ?_
   refine cR 16 (by kernel_rfl) rfl rfl aA rfl (by trivial) ?_ (fun h=>by first | rfl | cases h)
   refine aJ ?_;exact⟨(),trivial,aG h0 [2,3] _ _ (by decide) ⟨rfl,rfl,trivial⟩ ⟨oe rfl rfl,oe rfl rfl,rfl⟩⟩
  refine bI (key:=3) 14 rfl rfl aA rfl ⟨rfl,rfl,rfl,trivial⟩ ?_;have hn4:=dU (p.num) (q.num)
  refine aF 4 rfl (iX (gZ hs) (gZ hs')) nH ⟨aB rfl,aB rfl,rfl⟩ (kF (p.num*q.num)) ?_;have hn5:=dU ((p.den:Int)) ((q.den:Int))
  refine aF 9 rfl (iX (eC hs) (eC hs')) nH ⟨aB rfl,aB rfl,rfl⟩ (kF ((p.den:Int)*(q.den:Int))) ?_
  refine aF 10 rfl (lS (Zn.of (k:=p.num*q.num) (by omega)) (Zn.of (k:=(p.den:Int)*(q.den:Int)) (by omega))) rL ⟨aB rfl,aB rfl,rfl⟩ (.tup [qF (.of (Rat.divInt (p.num*q.num) ((p.den:Int)*(q.den:Int)))),.one (tv (.int .i64 (if((p.den:Int)*(q.den:Int))=0 then 20 else 0)))]) ?_
  refine df 11 ?_;refine df 12 ?_;refine df 13 ?_;refine aX 15 (by kernel_rfl) rfl rfl aA rfl rfl rfl rfl ⟨rfl,rfl,rfl,trivial⟩ ?_
  refine cR 16 (by kernel_rfl) rfl rfl aA rfl (by trivial) ?_ (fun h=>by first | rfl | cases h)
  refine aJ ?_;exact⟨(),trivial,aG h0 [2,3] _ _ (by decide) ⟨rfl,rfl,trivial⟩ ⟨oe rfl rfl,oe rfl rfl,rfl⟩⟩
 refine sq ?_;refine rl ?_;refine ld ?_;refine st ?_;refine nl ?_;refine rt ?_
 exact en (.inl rfl) rfl (aO (.agg (.cons (.id rfl) (.cons (.id rfl) (.cons (.id rfl) (.cons (.id rfl) .nil)))))) (by decide) (fun h=>by cases h) (congrArg (fun q=>qF (.of q)) (by rw[←Rat.divInt_mul_divInt,Rat.num_divInt_den,Rat.num_divInt_den]))
theorem mT {a b:Fr4}{p q:Rat}(ha:Qn a p) (hb:Qn b q) (hs:Sz 17179869184 p) (hs':Sz 17179869184 q):aE false Tryz.prog 26 [] [qF a,qF b] (aN (qF (.of (p-q)))):=by
 refine bC Tryz.func26 rfl Tryz.ntmps26 rfl aA rfl fun N w c0 h0=>?_
 refine sq ?_;refine rl ?_;refine bx 0 ?_;refine bx 1 ?_;refine al 2 ?_;refine nl ?_;refine sq ?_;refine rd [0,1,2] (fun i=>[4].contains i) mixed ?_
 refine aI 0 ?_;refine aI 1 ?_;refine aF 2 rfl (Wy hb) NH ⟨aB rfl,rfl⟩ (qF (.of (-q))) ?_
 refine aF 3 rfl (lT ha (Qn.of (p:=(-q)) (uF hs')) hs (uF hs')) rM ⟨aB rfl,aB rfl,rfl⟩ (qF (.of (p+(-q)))) ?_;refine dst 4 ?_;refine aJ ?_;refine rt ?_
 exact en (.inl rfl) rfl (aO (.agg (.cons (.id rfl) (.cons (.id rfl) (.cons (.id rfl) (.cons (.id rfl) .nil)))))) (by decide) (fun h=>by cases h) (by rw[Rat.sub_eq_add_neg];rfl)
theorem iA {a:Fr4}{p:Rat}(ha:Qn a p):aE true Tryz.prog 41 [] [qF a] (aN (.one (tv (.int .i64 p.num.sign)))):=by
 refine bC Tryz.func41 rfl Tryz.ntmps41 rfl aA rfl fun N w c0 h0=>?_
 refine sq ?_;refine rl ?_;refine bx 0 ?_;refine o1 ?_;refine nl ?_;refine sq ?_;refine rl ?_;refine ld ?_;refine ca (kN ha) wD ⟨aB rfl,rfl⟩ (qF (.of p)) ?_;refine o1 ?_
 refine ca (oT (gZ ha.sz)) Cd ⟨aB rfl,rfl⟩ (.one (tv (.int .i64 (p.num).sign))) ?_;refine o1 ?_;refine nl ?_;refine rt ?_
 exact en (.inl rfl) rfl (aO (bL _)) (by decide) (fun _=>trivial) rfl
theorem uM {a b:Fr4}{p q:Rat}(ha:Qn a p) (hb:Qn b q) (hs:Sz 17179869184 p) (hs':Sz 17179869184 q):aE true Tryz.prog 64 [] [qF a,qF b] (aN (.one (tv (.int .i64 (p-q).num.sign)))):=by
 refine bC Tryz.func64 rfl Tryz.ntmps64 rfl aA rfl fun N w c0 h0=>?_
 refine sq ?_;refine rl ?_;refine bx 0 ?_;refine bx 1 ?_;refine o1 ?_;refine nl ?_;refine sq ?_;refine rl ?_;refine ld ?_;refine ld ?_
 refine ca (mT ha hb hs hs') tN ⟨aB rfl,aB rfl,rfl⟩ (qF (.of (p-q))) ?_
 refine ca (iA (Qn.of (p:=(p-q)) (rC hs hs'))) nY ⟨aB rfl,rfl⟩ (.one (tv (.int .i64 (p-q).num.sign))) ?_;refine o1 ?_;refine nl ?_;refine rt ?_
 exact en (.inl rfl) rfl (aO (bL _)) (by decide) (fun _=>trivial) rfl
end Go.Proofs.YthoemjjmkgmnjaaGreat
