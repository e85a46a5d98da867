/- Part 10 of a proof: A4 to Pc. -/
import Derived.Test.YtbbabfkgdnkehaaGreatM9
import Derived.Test.YtbbabfkgdnkehaaGreatM8
import Derived.Test.YtbbabfkgdnkehaaGreatM7
set_option maxRecDepth 100000
set_option linter.unusedVariables false
set_option linter.unusedSimpArgs false
namespace Go.Proofs.YtbbabfkgdnkehaaGreat
open Go Go.RowKit
theorem Cz {xs:List Nat}(hx:xs.length≤4398046511104):aF false Tryz.prog 138 [] [.one (.t (sI false xs))] (aU (.one (.t (sI false (trim xs))))):=by
 refine bX Tryz.func138 rfl Tryz.ntmps138 rfl aB rfl fun N w c0 h0=>?_
 refine sq (rl (o1 ?_));refine nl (sq (bl ?_))
 refine lp (γ:=List Nat) (fun zs=>bP [(0,.one (.t (sI false zs)))]) (fun _=>([]:List Ob).map some) (fun zs=>trim zs=trim xs∧zs.length≤xs.length) (fun zs=>zs.length) xs ⟨rfl,Nat.le_refl _⟩ (bD h0 [] _ _ (by decide) ⟨rfl,trivial⟩ rfl) fun zs hz=>?_
 refine sq (sq (rl ?_));(iterate 4 refine o1 ?_);refine WL.split (t:=6) rfl (fun h1=>?_) (fun h1=>?_)
 ·(iterate 4 refine o1 ?_);refine WL.cast (t:=10) (u':=.int .i64 ((zs.length-1:Nat):Int)) rfl (aG (by omega)) ?_
  refine o1 ?_;refine dT ([.v (.int .i64 ((nth zs (zs.length-1):Nat):Int))]) (fR zs (k:=zs.length-1) (by omega)) ?_
  refine o1 ?_;refine o1 ?_;refine nl ?_;refine bH rfl (fun h2=>?_) (fun h2=>?_)
  ·refine sk (bl (rl ?_));(iterate 4 refine o1 ?_);refine WL.cast (t:=18) (u':=.int .i64 ((zs.length-1:Nat):Int)) rfl (aG (by omega)) ?_
   refine o1 ?_;refine o1 ?_;refine nl ?_
   exact⟨zs.take (zs.length-1),by rw[List.length_take];omega,⟨(by rw[xK (xs:=zs) (k:=zs.length) (by omega) (Nat.le_refl _) (by omega),List.take_length];exact hz.1),by rw[List.length_take];omega⟩,bD h0 [] _ _ (by decide) ⟨congrArg some (Wj (by omega)).symm,trivial⟩ rfl⟩
  refine ex (sq (rl (o1 ?_)));refine o1 ?_;refine nl (rt ?_);refine en (.inl rfl) rfl (aY (.one (.id rfl))) (by decide) (fun h=>by cases h) ?_
  have hx:trim xs=zs:=by
   rw[←hz.1];have h9:=sD (xs:=zs) (k:=zs.length) (by omega) (Nat.le_refl _) (by omega)
   rwa[List.take_length]at h9
  rw[hx];rfl
 (iterate 7 refine dD ?_);refine o1 ?_;refine nl (fS rfl (ex (sq (rl (o1 ?_)))));refine o1 ?_;refine nl (rt ?_)
 refine en (.inl rfl) rfl (aY (.one (.id rfl))) (by decide) (fun h=>by cases h) ?_
 have hx:trim xs=zs:=by
  have h9:zs=[]:=List.eq_nil_of_length_eq_zero (by omega)
  rw[←hz.1,h9];rfl
 rw[hx];rfl
theorem mN {xs:List Nat}(hx:xs.length≤1099511627776) (hl:Lim 4294967296 xs):aF false Tryz.prog 115 [] [.one (.t (sU false xs))] (aU (.one (.t (sI false (dg 65536 (vl 4294967296 xs)))))):=by
 refine bX Tryz.func115 rfl Tryz.ntmps115 rfl aB rfl fun N w c0 h0=>?_
 refine sq (rl (o1 ?_));refine nl (sq (rl (o1 ?_)));refine nl (sq (sq (rl (o1 ?_))));refine nl (bl ?_)
 refine lp (γ:=Nat) (fun k=>bP [(0,.one (.t (sU false xs))),(3,.one (.sl 0 0 (2*k))),(4,.one (tv (.int .i64 ((k:Nat):Int))))]) (fun k=>[(⟨3,1,(eO (hv (xs.take k))).map .t⟩:Ob)].map some) (fun k=>k≤xs.length) (fun k=>xs.length-k) 0 (Nat.zero_le _) ((nr (i:=3) 0 3 1 rfl rfl rfl rfl).trans (bD h0 [0] _ _ (by decide) ⟨rfl,rfl,rfl,trivial⟩ ⟨aC (l:=[]) rfl,rfl⟩)) fun k hk=>?_
 have hn:=hl.nth (by omega) k
 refine sq (sq (rl ?_));(iterate 4 refine o1 ?_);refine nl ?_;refine bH rfl (fun h1=>?_) (fun h1=>?_)
 ·refine sk (sq (bl ?_));refine rd [] (fun i=>[15].contains i) mixed ?_
  refine dv 0 ?_;refine dv 1 ?_;refine dv 2 ?_;refine dv 3 ?_;refine eV 4 ([.v (.int .u32 ((nth xs (k):Nat):Int))]) (nD xs (k:=k) (by omega)) ?_
  refine dv 5 ?_;refine WD.cast (t:=16) (u':=.int .u32 ((nth xs k%65536:Nat):Int)) rfl (aG (lE _ 65536)) ?_;refine dv 6 ?_;refine dv 7 ?_;refine dv 8 ?_;refine dv 9 ?_
  refine eV 10 ([.v (.int .u32 ((nth xs (k):Nat):Int))]) (nD xs (k:=k) (by omega)) ?_
  refine dv 11 ?_ (hC:=(iD 65536 (by omega) (by simp only[iN];omega)))
  refine WD.cast (t:=22) (u':=.int .u32 ((nth xs k/65536:Nat):Int)) rfl (aG (gA _ 65536)) ?_;refine dv 12 ?_;refine jH (key:=1) 13 (by kernel_rfl) rfl rfl aB rfl trivial ?_
  refine GN (j:=2) 14 rfl aB rfl rfl rfl (.sl rfl (by rw[List.length_map,iE,rG,List.length_take];omega)) (.sl rfl rfl rfl) rfl rfl (by omega) (by omega) rfl rfl (by kernel_rfl) rfl ?_
  refine eE 15 (by kernel_rfl) rfl rfl aB rfl (by trivial) ?_ (fun h=>by first | rfl | cases h)
  refine bO ?_;refine rl ?_;(iterate 3 refine o1 ?_);refine nl ?_
  exact⟨k+1,by omega,by omega,bD h0 [2] _ _ (by decide) ⟨rfl,rfl,rfl,trivial⟩ ⟨nE rfl (iF _ [nth xs k%65536,nth xs k/65536]) (Pw (by omega)).symm,rfl⟩⟩
 refine ex (sq (rl (WL.sub (Aw (i:=3) (zs':=hv xs) rfl rfl rfl (by rw[rG,List.length_take];omega) (by rw[List.take_of_length_le (by omega)])) ?_)))
 refine o1 ?_;refine ca (Cz (by rw[rG];omega)) Da ⟨a1 rfl,rfl⟩ (.one (.t (sI false (trim (hv xs))))) ?_
 refine o1 ?_;refine nl (rt ?_);exact en (.inl rfl) rfl (aY (.one (.id rfl))) (by decide) (fun h=>by cases h) (by rw[GO hl];rfl)
theorem vH {xs zs:List Nat}(hx:xs.length≤4398046511104) (hl:Lim 65536 xs) (hz:lb xs=zs):aF true Tryz.prog 113 [] [.one (.t (sI false xs))] (aU (.one (.t (sU true zs)))):=by
 refine bX Tryz.func113 rfl Tryz.ntmps113 rfl aB rfl fun N w c0 h0=>?_
 refine sq (rl (o1 ?_));refine nl (sq (rl ?_));(iterate 3 refine o1 ?_)
 refine WL.cast (t:=7) (u':=.int .i64 ((xs.length+1:Nat):Int)) rfl (aG (by omega)) ?_
 refine o1 ?_ (hC:=(iD 2 (by omega) (by simp only[iN];omega)))
 refine WL.cast (t:=8) (u':=.int .i64 (((xs.length+1)/2:Nat):Int)) rfl (aG (gA _ 2)) ?_;refine mk (m:=(xs.length+1)/2) 0 (by omega) (BS _) ?_
 refine o1 ?_;refine nl (sq (sq (rl (o1 ?_))));refine nl (bl ?_)
 refine lp (γ:=Nat) (fun k=>bP [(0,.one (.t (sI false xs))),(3,.one (.sl 0 0 ((xs.length+1)/2))),(4,.one (tv (.int .i64 ((k:Nat):Int))))]) (fun k=>[(⟨113,1,(aI (kL xs k ((xs.length+1)/2))).map .t⟩:Ob)].map some) (fun k=>k≤xs.length) (fun k=>xs.length-k) 0 (Nat.zero_le _) (bD h0 [0] _ _ (by decide) ⟨rfl,rfl,rfl,trivial⟩ ⟨Wk rfl rfl BT.symm,rfl⟩) fun k hk=>?_
 have hn:=hl.nth (by omega) k
 have hln:=JM (l:=xs) (k:=k) (N:=(xs.length+1)/2) rfl hk
 refine sq (sq (rl ?_));(iterate 4 refine o1 ?_);refine nl ?_;refine bH rfl (fun h1=>?_) (fun h1=>?_)
 ·refine sk (sq (bl (sq (rl (o1 ?_)))));refine o1 ?_;refine WL.cast (t:=17) (u':=.int .i64 ((k%2:Nat):Int)) rfl (aG (lE _ 2)) ?_
  refine o1 ?_;refine nl ?_;refine bH rfl (fun h2=>?_) (fun h2=>?_)
  ·refine rl (o1 ?_);refine o1 ?_;refine o1 ?_ (hC:=(iD 2 (by omega) (by simp only[iN];omega)))
   refine WL.cast (t:=21) (u':=.int .i64 ((k/2:Nat):Int)) rfl (aG (gA _ 2)) ?_;(iterate 3 refine o1 ?_)
   refine dT ([.v (.int .i64 ((nth xs (k):Nat):Int))]) (fR xs (k:=k) (by omega)) ?_
   refine o1 ?_;refine WL.cast (t:=26) (u':=.int .u32 ((nth xs k:Nat):Int)) rfl (aG rfl) ?_;refine o1 ?_
   refine tQ (zD (kL xs k ((xs.length+1)/2)) (k:=k/2) (v:=nth xs k) (by omega)) (Db (kL xs k ((xs.length+1)/2)) (by omega)) ?_
   refine nl (rl (o1 ?_));refine o1 ?_;refine WL.cast (t:=15) (u':=.int .i64 ((k+1:Nat):Int)) rfl (aG (by omega)) ?_
   refine o1 ?_;refine nl ?_;exact⟨k+1,by omega,by omega,bD h0 [0] _ _ (by decide) ⟨rfl,rfl,rfl,trivial⟩ ⟨Wk rfl rfl (BU rfl (by omega) (by omega)),rfl⟩⟩
  have hnt:=Az (l:=xs) (k:=k) (N:=(xs.length+1)/2) rfl (by omega) (by omega)
  have hb1:=hl.nth (by omega) (k-1)
  refine rd [0] (fun i=>[16].contains i) mixed ?_
  refine dv 0 ?_;refine dv 1 ?_;refine dv 2 ?_ (hC:=(iD 2 (by omega) (by simp only[iN];omega)))
  refine WD.cast (t:=30) (u':=.int .i64 ((k/2:Nat):Int)) rfl (aG (gA _ 2)) ?_;refine dv 3 ?_;refine dv 4 ?_
  refine dv 5 ?_ (hC:=(iD 2 (by omega) (by simp only[iN];omega)))
  refine WD.cast (t:=33) (u':=.int .i64 ((k/2:Nat):Int)) rfl (aG (gA _ 2)) ?_;refine dv 6 ?_;refine Kj 7 (NZ (kL xs k ((xs.length+1)/2)) (k:=k/2) (by omega)) ?_
  refine dv 8 ?_;refine dv 9 ?_;refine dv 10 ?_;refine eV 11 ([.v (.int .i64 ((nth xs (k):Nat):Int))]) (fR xs (k:=k) (by omega)) ?_
  refine dv 12 ?_;refine dv 13 ?_;refine dv 14 ?_
  refine WD.cast (t:=42) (u':=.int .u32 ((nth (kL xs k ((xs.length+1)/2)) (k/2)+65536*nth xs k:Nat):Int)) rfl (aG (by omega)) ?_
  refine dv 15 ?_
  refine pW 16 (zD (kL xs k ((xs.length+1)/2)) (k:=k/2) (v:=nth (kL xs k ((xs.length+1)/2)) (k/2)+65536*nth xs k) (by omega)) (Db (kL xs k ((xs.length+1)/2)) (by omega)) ?_
  refine bO ?_;refine rl (o1 ?_);refine o1 ?_;refine WL.cast (t:=15) (u':=.int .i64 ((k+1:Nat):Int)) rfl (aG (by omega)) ?_
  refine o1 ?_;refine nl ?_;exact⟨k+1,by omega,by omega,bD h0 [0] _ _ (by decide) ⟨rfl,rfl,rfl,trivial⟩ ⟨Wk rfl rfl (JN rfl (by omega) (by omega)),rfl⟩⟩
 refine ex (sq (rl (o1 ?_)));refine o1 ?_;refine nl (rt ?_)
 exact en (.inl rfl) rfl (aY (.one (.sl (trs:=aI (lb xs)) rfl rfl (by rw[JO rfl (by omega),Nat.mul_one,List.take_of_length_le (by simp[fN,iW])]) (by simp[fN,iW])))) (by decide) (fun _=>.inl ⟨rfl,fE _⟩) (by subst hz;unfold sU;rw[iW];rfl)
theorem Kk {xs ys:List Nat}(hx:xs.length≤1099511627776) (hy:ys.length≤1099511627776) (hlx:Lim 65536 xs) (hly:Lim 65536 ys):aF false Tryz.prog 114 [] [.one (.t (sI false xs)),.one (.t (sI false ys))] (aU (.one (.t (sI false (dg 65536 (vl 65536 xs*vl 65536 ys)))))):=by
 refine bX Tryz.func114 rfl Tryz.ntmps114 rfl aB rfl fun N w c0 h0=>?_
 refine sq (rl (o1 ?_));refine nl (sq (rl ?_));(iterate 5 refine o1 ?_)
 refine WL.cast (t:=14) (u':=.int .i64 ((xs.length+ys.length:Nat):Int)) rfl (aG (by omega)) ?_
 refine o1 ?_;refine WL.cast (t:=15) (u':=.int .i64 ((xs.length+ys.length+1:Nat):Int)) rfl (aG (by omega)) ?_
 refine mk (m:=xs.length+ys.length+1) 0 (by omega) (Km _) ?_
 refine o1 ?_;refine nl (sq (sq (rl (o1 ?_))));refine nl (bl ?_)
 refine lp (γ:=Nat×List Nat) (fun s=>bP [(0,.one (.t (sI false xs))),(1,.one (.t (sI false ys))),(5,.one (.sl 0 0 (xs.length+ys.length+1))),(6,.one (tv (.int .i64 ((s.1:Nat):Int))))]) (fun s=>[(⟨3,1,(eO s.2).map .t⟩:Ob)].map some) (fun s=>s.1≤xs.length∧Lim 65536 s.2∧s.2.length=xs.length+ys.length+1∧vl 65536 s.2=vl 65536 (xs.take s.1)*vl 65536 ys) (fun s=>xs.length-s.1) (0,List.replicate (xs.length+ys.length+1) 0) ⟨Nat.zero_le _,Lim.replicate (by omega) _,List.length_replicate,by rw[xI];simp[vl]⟩ (bD h0 [0] _ _ (by decide) ⟨rfl,rfl,rfl,rfl,trivial⟩ ⟨nE rfl rfl rfl,rfl⟩) ?_
 rintro⟨i,os⟩ ⟨hi,hol,hos,hv⟩;dsimp only at hi hol hos hv⊢;refine sq (sq (rl ?_));(iterate 4 refine o1 ?_);refine nl ?_;refine bH rfl (fun h1=>?_) (fun h1=>?_)
 ·refine sk (sq (bl (sq (rl (o1 ?_)))));refine nl (sq (rl (o1 ?_)));refine nl (bl ?_)
  have hil:=hlx.nth (by omega) i
  refine lp (γ:=Nat×Nat×List Nat) (fun s=>bP [(0,.one (.t (sI false xs))),(1,.one (.t (sI false ys))),(5,.one (.sl 0 0 (xs.length+ys.length+1))),(6,.one (tv (.int .i64 ((i:Nat):Int)))),(7,.one (tv (.int .i64 ((s.2.1:Nat):Int)))),(8,.one (tv (.int .i64 ((s.1:Nat):Int))))]) (fun s=>[(⟨3,1,(eO s.2.2).map .t⟩:Ob)].map some) (fun s=>s.1≤ys.length+1∧Lim 65536 s.2.2∧s.2.2.length=xs.length+ys.length+1∧vl 65536 s.2.2+65536^(i+s.1)*s.2.1=vl 65536 (xs.take i)*vl 65536 ys+65536^i*(nth xs i*vl 65536 (ys.take s.1))∧s.2.1≤65535) (fun s=>ys.length+1-s.1) (0,0,os) ⟨Nat.zero_le _,hol,hos,by dsimp only;rw[hv];simp[vl],Nat.zero_le _⟩ (bD h0 [0] _ _ (by decide) ⟨rfl,rfl,rfl,rfl,rfl,rfl,trivial⟩ ⟨nE rfl rfl rfl,rfl⟩) ?_
  rintro⟨k,cr,os2⟩ ⟨hk,hol2,hos2,hv2,hcb⟩;dsimp only at hk hol2 hos2 hv2 hcb⊢;refine sq (sq (rl ?_));(iterate 5 refine o1 ?_)
  refine WL.split (t:=27) rfl (fun h2=>?_) (fun h2=>?_)
  ·refine dD ?_;refine dD ?_;refine o1 ?_;refine nl (iX rfl (sk (sq (bl (sq ?_)))))
   have hkl:k≤ys.length:=by first | omega | exact Kn hlx hly (by omega) hk hv2 (by omega)
   have hon:=hol2.nth (by omega) (i+k)
   have hyn:=hly.nth (by omega) k
   have hmul:=Nat.mul_le_mul (Nat.le_of_lt_succ hil) (Nat.le_of_lt_succ hyn)
   refine rl ?_;(iterate 4 refine o1 ?_);refine WL.cast (t:=36) (u':=.int .i64 ((i+k:Nat):Int)) rfl (aG (by omega)) ?_
   refine o1 ?_;refine Ba (Ko os2 (k:=i+k) (by omega)) ?_
   refine o1 ?_;refine o1 ?_;refine WL.cast (t:=40) (u':=.int .i64 ((nth os2 (i+k)+cr:Nat):Int)) rfl (aG (by omega)) ?_
   refine o1 ?_;refine nl (sq (sq (rl ?_)));(iterate 4 refine o1 ?_);refine nl ?_;refine bH rfl (fun h3=>?_) (fun h3=>?_)
   ·refine rd [] (fun i=>[11].contains i) mixed ?_
    refine dv 0 ?_;refine dv 1 ?_;refine dv 2 ?_;refine dv 3 ?_;refine eV 4 ([.v (.int .i64 ((nth xs (i):Nat):Int))]) (fR xs (k:=i) (by omega)) ?_
    refine dv 5 ?_;refine dv 6 ?_;refine dv 7 ?_;refine eV 8 ([.v (.int .i64 ((nth ys (k):Nat):Int))]) (fR ys (k:=k) (by omega)) ?_
    refine dv 9 ?_;refine WD.cast (t:=54) (u':=.int .i64 ((nth xs i*nth ys k:Nat):Int)) rfl (aG (Int.natCast_mul _ _).symm) ?_;refine dv 10 ?_
    refine WD.cast (t:=55) (u':=.int .i64 ((nth os2 (i+k)+cr+nth xs i*nth ys k:Nat):Int)) rfl (aG (by omega)) ?_
    refine eE 11 (by kernel_rfl) rfl rfl aB rfl (by trivial) ?_ (fun h=>by first | rfl | cases h)
    refine bO ?_;refine sq (rl ?_);(iterate 4 refine o1 ?_);refine WL.cast (t:=59) (u':=.int .i64 ((i+k:Nat):Int)) rfl (aG (by omega)) ?_
    refine o1 ?_;refine o1 ?_;refine WL.cast (t:=61) (u':=.int .i64 (((nth os2 (i+k)+cr+nth xs i*nth ys k)%65536:Nat):Int)) rfl (aG (lE _ 65536)) ?_;refine o1 ?_
    refine tQ (tR os2 (k:=i+k) (v:=(nth os2 (i+k)+cr+nth xs i*nth ys k)%65536) (by omega)) (xP os2 (by omega)) ?_
    refine nl (rl (o1 ?_));refine o1 ?_ (hC:=(iD 65536 (by omega) (by simp only[iN];omega)))
    refine WL.cast (t:=64) (u':=.int .i64 (((nth os2 (i+k)+cr+nth xs i*nth ys k)/65536:Nat):Int)) rfl (aG (gA _ 65536)) ?_;refine o1 ?_;refine nl (rl ?_)
    refine o1 ?_;refine o1 ?_;refine WL.cast (t:=32) (u':=.int .i64 ((k+1:Nat):Int)) rfl (aG (by omega)) ?_
    refine o1 ?_;refine nl ?_;have hst:=qK (x:=nth os2 (i+k)+cr+nth xs i*nth ys k) (by omega) hv2 (by rfl)
    exact⟨(k+1,(nth os2 (i+k)+cr+nth xs i*nth ys k)/65536,os2.set (i+k) ((nth os2 (i+k)+cr+nth xs i*nth ys k)%65536)),by dsimp only;omega,⟨by dsimp only;omega,hol2.set _ (Nat.mod_lt _ (by omega)),by rw[List.length_set];exact hos2,hst,by dsimp only;omega⟩,bD h0 [0] _ _ (by decide) ⟨rfl,rfl,rfl,rfl,rfl,rfl,trivial⟩ ⟨nE rfl rfl rfl,rfl⟩⟩
   refine sk (sq (rl ?_));(iterate 4 refine o1 ?_);refine WL.cast (t:=59) (u':=.int .i64 ((i+k:Nat):Int)) rfl (aG (by omega)) ?_
   refine o1 ?_;refine o1 ?_;refine WL.cast (t:=61) (u':=.int .i64 (((nth os2 (i+k)+cr)%65536:Nat):Int)) rfl (aG (lE _ 65536)) ?_;refine o1 ?_
   refine tQ (tR os2 (k:=i+k) (v:=(nth os2 (i+k)+cr)%65536) (by omega)) (xP os2 (by omega)) ?_
   refine nl (rl (o1 ?_));refine o1 ?_ (hC:=(iD 65536 (by omega) (by simp only[iN];omega)))
   refine WL.cast (t:=64) (u':=.int .i64 (((nth os2 (i+k)+cr)/65536:Nat):Int)) rfl (aG (gA _ 65536)) ?_;refine o1 ?_;refine nl (rl (o1 ?_));refine o1 ?_
   refine WL.cast (t:=32) (u':=.int .i64 ((k+1:Nat):Int)) rfl (aG (by omega)) ?_
   refine o1 ?_;refine nl ?_;have hny:nth ys k=0:=eW (by omega)
   have hst:=qK (x:=nth os2 (i+k)+cr) (by omega) hv2 (by rw[hny,Nat.mul_zero,Nat.add_zero])
   exact⟨(k+1,(nth os2 (i+k)+cr)/65536,os2.set (i+k) ((nth os2 (i+k)+cr)%65536)),by dsimp only;omega,⟨by dsimp only;omega,hol2.set _ (Nat.mod_lt _ (by omega)),by rw[List.length_set];exact hos2,hst,by dsimp only;omega⟩,bD h0 [0] _ _ (by decide) ⟨rfl,rfl,rfl,rfl,rfl,rfl,trivial⟩ ⟨nE rfl rfl rfl,rfl⟩⟩
  (iterate 3 refine o1 ?_);refine nl ?_;refine bH rfl (fun h4=>?_) (fun h4=>?_)
  ·refine sk (sq (bl (sq ?_)));have hkl:k≤ys.length:=by first | omega | exact Kn hlx hly (by omega) hk hv2 (by omega)
   have hon:=hol2.nth (by omega) (i+k)
   have hyn:=hly.nth (by omega) k
   have hmul:=Nat.mul_le_mul (Nat.le_of_lt_succ hil) (Nat.le_of_lt_succ hyn)
   refine rl ?_;(iterate 4 refine o1 ?_);refine WL.cast (t:=36) (u':=.int .i64 ((i+k:Nat):Int)) rfl (aG (by omega)) ?_
   refine o1 ?_;refine Ba (Ko os2 (k:=i+k) (by omega)) ?_
   refine o1 ?_;refine o1 ?_;refine WL.cast (t:=40) (u':=.int .i64 ((nth os2 (i+k)+cr:Nat):Int)) rfl (aG (by omega)) ?_
   refine o1 ?_;refine nl (sq (sq (rl ?_)));(iterate 4 refine o1 ?_);refine nl ?_;refine bH rfl (fun h5=>?_) (fun h5=>?_)
   ·refine rd [] (fun i=>[11].contains i) mixed ?_
    refine dv 0 ?_;refine dv 1 ?_;refine dv 2 ?_;refine dv 3 ?_;refine eV 4 ([.v (.int .i64 ((nth xs (i):Nat):Int))]) (fR xs (k:=i) (by omega)) ?_
    refine dv 5 ?_;refine dv 6 ?_;refine dv 7 ?_;refine eV 8 ([.v (.int .i64 ((nth ys (k):Nat):Int))]) (fR ys (k:=k) (by omega)) ?_
    refine dv 9 ?_;refine WD.cast (t:=54) (u':=.int .i64 ((nth xs i*nth ys k:Nat):Int)) rfl (aG (Int.natCast_mul _ _).symm) ?_;refine dv 10 ?_
    refine WD.cast (t:=55) (u':=.int .i64 ((nth os2 (i+k)+cr+nth xs i*nth ys k:Nat):Int)) rfl (aG (by omega)) ?_
    refine eE 11 (by kernel_rfl) rfl rfl aB rfl (by trivial) ?_ (fun h=>by first | rfl | cases h)
    refine bO ?_;refine sq (rl ?_);(iterate 4 refine o1 ?_);refine WL.cast (t:=59) (u':=.int .i64 ((i+k:Nat):Int)) rfl (aG (by omega)) ?_
    refine o1 ?_;refine o1 ?_;refine WL.cast (t:=61) (u':=.int .i64 (((nth os2 (i+k)+cr+nth xs i*nth ys k)%65536:Nat):Int)) rfl (aG (lE _ 65536)) ?_;refine o1 ?_
    refine tQ (tR os2 (k:=i+k) (v:=(nth os2 (i+k)+cr+nth xs i*nth ys k)%65536) (by omega)) (xP os2 (by omega)) ?_
    refine nl (rl (o1 ?_));refine o1 ?_ (hC:=(iD 65536 (by omega) (by simp only[iN];omega)))
    refine WL.cast (t:=64) (u':=.int .i64 (((nth os2 (i+k)+cr+nth xs i*nth ys k)/65536:Nat):Int)) rfl (aG (gA _ 65536)) ?_;refine o1 ?_;refine nl (rl ?_)
    refine o1 ?_;refine o1 ?_;refine WL.cast (t:=32) (u':=.int .i64 ((k+1:Nat):Int)) rfl (aG (by omega)) ?_
    refine o1 ?_;refine nl ?_;have hst:=qK (x:=nth os2 (i+k)+cr+nth xs i*nth ys k) (by omega) hv2 (by rfl)
    exact⟨(k+1,(nth os2 (i+k)+cr+nth xs i*nth ys k)/65536,os2.set (i+k) ((nth os2 (i+k)+cr+nth xs i*nth ys k)%65536)),by dsimp only;omega,⟨by dsimp only;omega,hol2.set _ (Nat.mod_lt _ (by omega)),by rw[List.length_set];exact hos2,hst,by dsimp only;omega⟩,bD h0 [0] _ _ (by decide) ⟨rfl,rfl,rfl,rfl,rfl,rfl,trivial⟩ ⟨nE rfl rfl rfl,rfl⟩⟩
   refine sk (sq (rl ?_));(iterate 4 refine o1 ?_);refine WL.cast (t:=59) (u':=.int .i64 ((i+k:Nat):Int)) rfl (aG (by omega)) ?_
   refine o1 ?_;refine o1 ?_;refine WL.cast (t:=61) (u':=.int .i64 (((nth os2 (i+k)+cr)%65536:Nat):Int)) rfl (aG (lE _ 65536)) ?_;refine o1 ?_
   refine tQ (tR os2 (k:=i+k) (v:=(nth os2 (i+k)+cr)%65536) (by omega)) (xP os2 (by omega)) ?_
   refine nl (rl (o1 ?_));refine o1 ?_ (hC:=(iD 65536 (by omega) (by simp only[iN];omega)))
   refine WL.cast (t:=64) (u':=.int .i64 (((nth os2 (i+k)+cr)/65536:Nat):Int)) rfl (aG (gA _ 65536)) ?_;refine o1 ?_;refine nl (rl (o1 ?_));refine o1 ?_
   refine WL.cast (t:=32) (u':=.int .i64 ((k+1:Nat):Int)) rfl (aG (by omega)) ?_
   refine o1 ?_;refine nl ?_;have hny:nth ys k=0:=eW (by omega)
   have hst:=qK (x:=nth os2 (i+k)+cr) (by omega) hv2 (by rw[hny,Nat.mul_zero,Nat.add_zero])
   exact⟨(k+1,(nth os2 (i+k)+cr)/65536,os2.set (i+k) ((nth os2 (i+k)+cr)%65536)),by dsimp only;omega,⟨by dsimp only;omega,hol2.set _ (Nat.mod_lt _ (by omega)),by rw[List.length_set];exact hos2,hst,by dsimp only;omega⟩,bD h0 [0] _ _ (by decide) ⟨rfl,rfl,rfl,rfl,rfl,rfl,trivial⟩ ⟨nE rfl rfl rfl,rfl⟩⟩
  refine ex (rl (o1 ?_));refine o1 ?_;refine WL.cast (t:=22) (u':=.int .i64 ((i+1:Nat):Int)) rfl (aG (by omega)) ?_
  refine o1 ?_;refine nl ?_;have hcr0:cr=0:=by omega
  rw[hcr0,Nat.mul_zero,Nat.add_zero,Dc (by omega)]at hv2
  exact⟨(i+1,os2),by dsimp only;omega,⟨by dsimp only;omega,hol2,hos2,hv2⟩,bD h0 [0] _ _ (by decide) ⟨rfl,rfl,rfl,rfl,trivial⟩ ⟨nE rfl rfl rfl,rfl⟩⟩
 refine ex (sq (rl ?_));rw[bY 65536 (by omega)]at hv
 refine WL.sub (Aw (i:=5) (zs':=os) rfl rfl rfl (by omega) rfl) ?_
 refine o1 ?_;refine ca (Cz (by omega)) Da ⟨a1 rfl,rfl⟩ (.one (.t (sI false (trim os)))) ?_
 refine o1 ?_;refine nl (rt ?_);exact en (.inl rfl) rfl (aY (.one (.id rfl))) (by decide) (fun h=>by cases h) (by rw[Je (by omega) hol hv];rfl)
theorem lR {a b:Zi}{k k':Int}(ha:Zn a k) (hb:Zn b k'):aF true Tryz.prog 80 [] [gF a,gF b] (aU (kO (k*k'))):=by
 refine bX Tryz.func80 rfl Tryz.ntmps80 rfl aB rfl fun N w c0 h0=>?_
 have hkl:=ha.len
 have hkl':=hb.len
 refine sq (rl (bx 0 ?_));refine bx 1 ?_;refine al 2 ?_;refine nl (sq (rl (ld ?_)));refine ca (gU ha) lZ ⟨aE rfl,rfl⟩ (kF (k)) ?_
 refine st ?_;refine nl (sq (rl (ld ?_)));refine ca (gU hb) lZ ⟨aE rfl,rfl⟩ (kF (k')) ?_;refine st ?_;refine nl (sq ?_)
 refine rd [0,1,2] (fun i=>[14].contains i) mixed ?_
 refine dv 0 ?_;refine aO 1 ?_;refine dv 2 ?_;refine aO 3 ?_;refine dv 4 ?_;refine dv 5 ?_;refine aO 6 ?_;refine dv 8 ?_;refine aO 9 ?_
 have hn1:=eR (v:=vl 4294967296 (dg 4294967296 (k).natAbs)) (L:=(dg 4294967296 (k).natAbs).length) (by rw[cG (by omega)];exact Nat.le_refl _)
 refine bU 7 rfl (mN (by omega) (aQ (by omega) _)) zE ⟨a1 rfl,rfl⟩ (.one (.t (sI false (dg 65536 (vl 4294967296 (dg 4294967296 (k).natAbs)))))) ?_
 have hn2:=eR (v:=vl 4294967296 (dg 4294967296 (k').natAbs)) (L:=(dg 4294967296 (k').natAbs).length) (by rw[cG (by omega)];exact Nat.le_refl _)
 refine bU 10 rfl (mN (by omega) (aQ (by omega) _)) zE ⟨a1 rfl,rfl⟩ (.one (.t (sI false (dg 65536 (vl 4294967296 (dg 4294967296 (k').natAbs)))))) ?_
 have hn3:=xQ (xs:=(dg 65536 (vl 4294967296 (dg 4294967296 (k).natAbs)))) (ys:=(dg 65536 (vl 4294967296 (dg 4294967296 (k').natAbs)))) (aQ (by omega) _) (aQ (by omega) _)
 refine bU 11 rfl (Kk (by omega) (by omega) (aQ (by omega) _) (aQ (by omega) _)) GP ⟨a1 rfl,a1 rfl,rfl⟩ (.one (.t (sI false (dg 65536 (vl 65536 (dg 65536 (vl 4294967296 (dg 4294967296 (k).natAbs)))*vl 65536 (dg 65536 (vl 4294967296 (dg 4294967296 (k').natAbs)))))))) ?_
 have hn4:=nF (vl 65536 (dg 65536 (vl 4294967296 (dg 4294967296 (k).natAbs)))*vl 65536 (dg 65536 (vl 4294967296 (dg 4294967296 (k').natAbs))))
 refine bU 12 rfl (vH (zs:=(dg 4294967296 (vl 65536 (dg 65536 (vl 4294967296 (dg 4294967296 (k).natAbs)))*vl 65536 (dg 65536 (vl 4294967296 (dg 4294967296 (k').natAbs)))))) (by omega) (aQ (by omega) _) (zG _)) zH ⟨a1 rfl,rfl⟩ (.one (.t (sU false (dg 4294967296 (vl 65536 (dg 65536 (vl 4294967296 (dg 4294967296 (k).natAbs)))*vl 65536 (dg 65536 (vl 4294967296 (dg 4294967296 (k').natAbs)))))))) ?_
 refine jI 3 13 rfl (lF (K:=k*k') (by omega) (aQ (by omega) _) (by simp only[cG (B:=4294967296) (by omega),cG (B:=65536) (by omega)];exact Px k k')) nG ⟨a1 rfl,a1 rfl,rfl⟩ ?_
 refine dst 14 ?_;refine bO ?_;refine rt ?_
 exact en (.inl rfl) rfl (aY (.agg (.cons (.id rfl) (.cons (.sl (trs:=aI (dg 4294967296 (k*k').natAbs)) rfl rfl (bK _) (aP _)) .nil)))) (by decide) (fun _=>fB (k*k')) rfl
theorem JP {u v:Nat}(hx:(dg 65536 (u)).length≤4398046511104) (hy:(dg 65536 (v)).length≤4398046511104):aF true Tryz.prog 159 [] [.one (.t (sI false (dg 65536 u))),.one (.t (sI false (dg 65536 v)))] (aU (.one (tv (.bool (decide (u<v)))))):=by
 refine bX Tryz.func159 rfl Tryz.ntmps159 rfl aB rfl fun N w c0 h0=>?_
 refine sq (rl (o1 ?_));refine nl (sq (sq (rl ?_)));(iterate 5 refine o1 ?_);refine nl ?_;refine bH rfl (fun h1=>?_) (fun h1=>?_)
 ·refine sq (rl ?_);(iterate 6 refine o1 ?_);refine nl (rt ?_)
  refine en (.inl rfl) rfl (aY (cM _)) (by decide) (fun _=>trivial) (congrArg (fun z=>FV.one (tv (.bool z))) ?_)
  exact BV rfl rfl (by omega)
 refine sk (sq (sq (rl ?_)));(iterate 4 refine o1 ?_);refine nl (bl ?_)
 refine lp (γ:=Nat) (fun k=>bP [(0,.one (.t (sI false (dg 65536 u)))),(1,.one (.t (sI false (dg 65536 v)))),(5,.one (tv (.int .i64 ((k:Nat)-1))))]) (fun k=>([]:List Ob).map some) (fun k=>(∀j,k≤j→nth (dg 65536 (u)) j=nth (dg 65536 (v)) j)∧k≤(dg 65536 (u)).length) (fun k=>k) (dg 65536 (u)).length ⟨fun j hj=>by rw[eW (by omega),eW (by omega)],Nat.le_refl _⟩ (bD h0 [] _ _ (by decide) ⟨rfl,rfl,rfl,trivial⟩ rfl) fun k hk=>?_
 refine sq (sq (rl (o1 ?_)));refine o1 ?_;refine nl ?_;refine bH rfl (fun h2=>?_) (fun h2=>?_)
 ·refine sk (sq (bl (sq ?_)));refine rd [] (fun i=>[].contains i) mixed ?_
  refine dv 0 ?_;refine dv 1 ?_;refine WD.cast (t:=24) (u':=.int .i64 ((k-1:Nat):Int)) rfl (aG (by omega)) ?_
  refine dv 2 ?_;refine eV 3 ([.v (.int .i64 ((nth (dg 65536 (u)) (k-1):Nat):Int))]) (fR (dg 65536 (u)) (k:=k-1) (by omega)) ?_
  refine dv 4 ?_;refine dv 5 ?_;refine WD.cast (t:=28) (u':=.int .i64 ((k-1:Nat):Int)) rfl (aG (by omega)) ?_
  refine dv 6 ?_;refine eV 7 ([.v (.int .i64 ((nth (dg 65536 (v)) (k-1):Nat):Int))]) (fR (dg 65536 (v)) (k:=k-1) (by omega)) ?_
  refine dv 8 ?_;refine bO ?_;refine bH rfl (fun h3=>?_) (fun h3=>?_)
  ·refine sq ?_;refine rd [] (fun i=>[9].contains i) mixed ?_
   refine dv 0 ?_;refine dv 1 ?_;refine WD.cast (t:=33) (u':=.int .i64 ((k-1:Nat):Int)) rfl (aG (by omega)) ?_
   refine dv 2 ?_;refine eV 3 ([.v (.int .i64 ((nth (dg 65536 (u)) (k-1):Nat):Int))]) (fR (dg 65536 (u)) (k:=k-1) (by omega)) ?_
   refine dv 4 ?_;refine dv 5 ?_;refine WD.cast (t:=37) (u':=.int .i64 ((k-1:Nat):Int)) rfl (aG (by omega)) ?_
   refine dv 6 ?_;refine eV 7 ([.v (.int .i64 ((nth (dg 65536 (v)) (k-1):Nat):Int))]) (fR (dg 65536 (v)) (k:=k-1) (by omega)) ?_
   refine dv 8 ?_;refine eE 9 (by kernel_rfl) rfl rfl aB rfl (by trivial) ?_ (fun h=>by first | rfl | cases h)
   refine bO ?_;refine rt ?_;refine en (.inl rfl) rfl (aY (cM _)) (by decide) (fun _=>trivial) (congrArg (fun z=>FV.one (tv (.bool z))) ?_)
   exact JQ (k:=k-1) (fun j hj=>hk.1 j (by omega)) (by omega)
  refine sk (rl ?_);(iterate 3 refine o1 ?_);refine nl ?_
  exact⟨k-1,by omega,⟨fun j hj=>(Nat.eq_or_lt_of_le hj).elim (fun h9=>by rw[←h9];omega) (fun h9=>hk.1 j (by omega)),by omega⟩,bD h0 [] _ _ (by decide) ⟨rfl,rfl,congrArg (fun z=>some (FV.one (tv (.int .i64 z)))) (by omega),trivial⟩ rfl⟩
 refine ex (sq (rl (o1 ?_)));refine nl (rt ?_)
 refine en (.inl rfl) rfl (aY (cM _)) (by decide) (fun _=>trivial) (congrArg (fun z=>FV.one (tv (.bool z))) ?_)
 have he:=Wl (fun j=>hk.1 j (by omega))
 rw[cG (by omega),cG (by omega)]at he
 rw[he,decide_eq_false (Nat.lt_irrefl v)]
theorem JR {u v n:Nat}(hx:(dg 65536 (u)).length≤1099511627776) (hy:(dg 65536 (v)).length≤1099511627776) (hn:n≤65536) (hnv:n*v≤u):aF false Tryz.prog 144 [] [.one (.t (sI false (dg 65536 u))),.one (.t (sI false (dg 65536 v))),.one (tv (.int .i64 ((n:Nat):Int)))] (aU (.one (.t (sI false (dg 65536 (u-n*v)))))):=by
 refine bX Tryz.func144 rfl Tryz.ntmps144 rfl aB rfl fun N w c0 h0=>?_
 have hlu:=aQ (B:=65536) (by omega) u
 have hlv:=aQ (B:=65536) (by omega) v
 refine sq (rl (o1 ?_));refine nl (sq (rl (o1 ?_)));refine nl (sq (rl (o1 ?_)));refine nl (sq (sq ?_))
 refine rl (o1 ?_);refine nl (bl ?_)
 refine lp (γ:=Nat×Nat×List Nat) (fun s=>bP [(0,.one (.t (sI false (dg 65536 u)))),(1,.one (.t (sI false (dg 65536 v)))),(2,.one (tv (.int .i64 ((n:Nat):Int)))),(7,.one (.sl 0 0 s.1)),(8,.one (tv (.int .i64 ((s.2.1:Nat):Int)))),(9,.one (tv (.int .i64 ((s.1:Nat):Int))))]) (fun s=>[(⟨3,1,(eO s.2.2).map .t⟩:Ob)].map some) (fun s=>s.2.2.length=s.1∧Lim 65536 s.2.2∧vl 65536 s.2.2+n*vl 65536 ((dg 65536 (v)).take s.1)=vl 65536 ((dg 65536 (u)).take s.1)+65536^s.1*s.2.1∧s.2.1≤65536∧s.1≤(dg 65536 (u)).length) (fun s=>(dg 65536 (u)).length-s.1) (0,0,[]) ⟨rfl,Lim.nil,by simp[vl],Nat.zero_le _,Nat.zero_le _⟩ ((nr (i:=7) 0 3 1 rfl rfl rfl rfl).trans (bD h0 [0] _ _ (by decide) ⟨rfl,rfl,rfl,rfl,rfl,rfl,trivial⟩ ⟨aC (l:=[]) rfl,rfl⟩)) ?_
 rintro⟨k,br,os⟩ ⟨hos,hol,hv,hc1,hkm⟩;dsimp only at hos hol hv hc1 hkm⊢;have hn1:=hlu.nth (by omega) k
 have hn2:=hlv.nth (by omega) k
 have hmul:=Nat.mul_le_mul hn (Nat.le_of_lt_succ hn2)
 refine sq (sq (rl ?_));(iterate 4 refine o1 ?_);refine nl ?_;refine bH rfl (fun h1=>?_) (fun h1=>?_)
 ·refine sk (sq (bl (sq (rl ?_))));(iterate 3 refine o1 ?_)
  refine dT ([.v (.int .i64 ((nth (dg 65536 (u)) (k):Nat):Int))]) (fR (dg 65536 (u)) (k:=k) (by omega)) ?_
  (iterate 3 refine o1 ?_);refine nl (sq (sq (rl ?_)));(iterate 4 refine o1 ?_);refine nl ?_;refine bH rfl (fun h2=>?_) (fun h2=>?_)
  ·refine rl ?_;(iterate 5 refine o1 ?_);refine dT ([.v (.int .i64 ((nth (dg 65536 (v)) (k):Nat):Int))]) (fR (dg 65536 (v)) (k:=k) (by omega)) ?_
   (iterate 3 refine o1 ?_);refine nl (sq (rl (o1 ?_)));refine nl (sq (sq (rl (o1 ?_))));refine o1 ?_;refine nl ?_
   refine bH rfl (fun h3=>?_) (fun h3=>?_)
   ·refine sq (rl (o1 ?_));refine o1 ?_
    refine WL.cast (t:=38) (u':=.int .i64 ((65535+n*nth (dg 65536 (v)) k+br-nth (dg 65536 (u)) k:Nat):Int)) rfl (aG (by omega)) ?_
    refine o1 ?_ (hC:=(iD 65536 (by omega) (by simp only[iN];omega)))
    refine WL.cast (t:=39) (u':=.int .i64 (((65535+n*nth (dg 65536 (v)) k+br-nth (dg 65536 (u)) k)/65536:Nat):Int)) rfl (aG (gA _ 65536)) ?_;refine o1 ?_;refine nl ?_
    refine rl ?_;(iterate 5 refine o1 ?_);refine nl (rl (o1 ?_));refine o1 ?_
    refine WL.cast (t:=45) (u':=.int .i64 ((nth (dg 65536 (u)) k+65536*((65535+n*nth (dg 65536 (v)) k+br-nth (dg 65536 (u)) k)/65536)-br-n*nth (dg 65536 (v)) k:Nat):Int)) rfl (aG (by omega)) ?_
    refine bs 1 ?_;refine hG (j:=2) aB rfl rfl rfl rfl (.sl rfl (by rw[List.length_map,iE,hos];omega)) (.sl rfl rfl rfl) rfl rfl rfl (by omega) (by omega) ?_
    refine o1 ?_;refine nl (rl (o1 ?_));refine o1 ?_;refine WL.cast (t:=16) (u':=.int .i64 ((k+1:Nat):Int)) rfl (aG (by omega)) ?_
    refine o1 ?_;refine nl ?_
    have hst:=sH (d:=nth (dg 65536 (u)) k+65536*((65535+n*nth (dg 65536 (v)) k+br-nth (dg 65536 (u)) k)/65536)-br-n*nth (dg 65536 (v)) k) (br:=br) (br':=(65535+n*nth (dg 65536 (v)) k+br-nth (dg 65536 (u)) k)/65536) hos hv (by omega)
    exact⟨(k+1,(65535+n*nth (dg 65536 (v)) k+br-nth (dg 65536 (u)) k)/65536,os++[nth (dg 65536 (u)) k+65536*((65535+n*nth (dg 65536 (v)) k+br-nth (dg 65536 (u)) k)/65536)-br-n*nth (dg 65536 (v)) k]),by dsimp only;omega,⟨by simp[hos],hol.append (Lim.cons (by omega) Lim.nil),hst,by dsimp only;omega,by dsimp only;omega⟩,bD h0 [2] _ _ (by decide) ⟨rfl,rfl,rfl,rfl,rfl,rfl,trivial⟩ ⟨nE rfl (iF _ [nth (dg 65536 (u)) k+65536*((65535+n*nth (dg 65536 (v)) k+br-nth (dg 65536 (u)) k)/65536)-br-n*nth (dg 65536 (v)) k]) rfl,rfl⟩⟩
   refine sk (rl (o1 ?_));refine o1 ?_;refine WL.cast (t:=45) (u':=.int .i64 ((nth (dg 65536 (u)) k-br-n*nth (dg 65536 (v)) k:Nat):Int)) rfl (aG (by omega)) ?_
   refine bs 1 ?_;refine hG (j:=2) aB rfl rfl rfl rfl (.sl rfl (by rw[List.length_map,iE,hos];omega)) (.sl rfl rfl rfl) rfl rfl rfl (by omega) (by omega) ?_
   refine o1 ?_;refine nl (rl (o1 ?_));refine o1 ?_;refine WL.cast (t:=16) (u':=.int .i64 ((k+1:Nat):Int)) rfl (aG (by omega)) ?_
   refine o1 ?_;refine nl ?_;have hst:=sH (d:=nth (dg 65536 (u)) k-br-n*nth (dg 65536 (v)) k) (br:=br) (br':=0) hos hv (by omega)
   exact⟨(k+1,0,os++[nth (dg 65536 (u)) k-br-n*nth (dg 65536 (v)) k]),by dsimp only;omega,⟨by simp[hos],hol.append (Lim.cons (by omega) Lim.nil),hst,by dsimp only;omega,by dsimp only;omega⟩,bD h0 [2] _ _ (by decide) ⟨rfl,rfl,rfl,rfl,rfl,rfl,trivial⟩ ⟨nE rfl (iF _ [nth (dg 65536 (u)) k-br-n*nth (dg 65536 (v)) k]) rfl,rfl⟩⟩
  refine sk (sq (rl (o1 ?_)));refine nl (sq (sq (rl (o1 ?_))));refine o1 ?_;refine nl ?_
  refine bH rfl (fun h4=>?_) (fun h4=>?_)
  ·refine sq (rl (o1 ?_));refine o1 ?_;refine WL.cast (t:=38) (u':=.int .i64 ((65535+br-nth (dg 65536 (u)) k:Nat):Int)) rfl (aG (by omega)) ?_
   refine o1 ?_ (hC:=(iD 65536 (by omega) (by simp only[iN];omega)))
   refine WL.cast (t:=39) (u':=.int .i64 (((65535+br-nth (dg 65536 (u)) k)/65536:Nat):Int)) rfl (aG (gA _ 65536)) ?_;refine o1 ?_;refine nl (rl ?_)
   (iterate 5 refine o1 ?_);refine nl (rl (o1 ?_));refine o1 ?_
   refine WL.cast (t:=45) (u':=.int .i64 ((nth (dg 65536 (u)) k+65536*((65535+br-nth (dg 65536 (u)) k)/65536)-br:Nat):Int)) rfl (aG (by omega)) ?_
   refine bs 1 ?_;refine hG (j:=2) aB rfl rfl rfl rfl (.sl rfl (by rw[List.length_map,iE,hos];omega)) (.sl rfl rfl rfl) rfl rfl rfl (by omega) (by omega) ?_
   refine o1 ?_;refine nl (rl (o1 ?_));refine o1 ?_;refine WL.cast (t:=16) (u':=.int .i64 ((k+1:Nat):Int)) rfl (aG (by omega)) ?_
   refine o1 ?_;refine nl ?_;have hny:nth (dg 65536 (v)) k=0:=eW (by omega)
   have hst:=sH (d:=nth (dg 65536 (u)) k+65536*((65535+br-nth (dg 65536 (u)) k)/65536)-br) (br:=br) (br':=(65535+br-nth (dg 65536 (u)) k)/65536) hos hv (by rw[hny,Nat.mul_zero];omega)
   exact⟨(k+1,(65535+br-nth (dg 65536 (u)) k)/65536,os++[nth (dg 65536 (u)) k+65536*((65535+br-nth (dg 65536 (u)) k)/65536)-br]),by dsimp only;omega,⟨by simp[hos],hol.append (Lim.cons (by omega) Lim.nil),hst,by dsimp only;omega,by dsimp only;omega⟩,bD h0 [2] _ _ (by decide) ⟨rfl,rfl,rfl,rfl,rfl,rfl,trivial⟩ ⟨nE rfl (iF _ [nth (dg 65536 (u)) k+65536*((65535+br-nth (dg 65536 (u)) k)/65536)-br]) rfl,rfl⟩⟩
  refine sk (rl (o1 ?_));refine o1 ?_;refine WL.cast (t:=45) (u':=.int .i64 ((nth (dg 65536 (u)) k-br:Nat):Int)) rfl (aG (by omega)) ?_
  refine bs 1 ?_;refine hG (j:=2) aB rfl rfl rfl rfl (.sl rfl (by rw[List.length_map,iE,hos];omega)) (.sl rfl rfl rfl) rfl rfl rfl (by omega) (by omega) ?_
  refine o1 ?_;refine nl (rl (o1 ?_));refine o1 ?_;refine WL.cast (t:=16) (u':=.int .i64 ((k+1:Nat):Int)) rfl (aG (by omega)) ?_
  refine o1 ?_;refine nl ?_;have hny:nth (dg 65536 (v)) k=0:=eW (by omega)
  have hst:=sH (d:=nth (dg 65536 (u)) k-br) (br:=br) (br':=0) hos hv (by rw[hny,Nat.mul_zero];omega)
  exact⟨(k+1,0,os++[nth (dg 65536 (u)) k-br]),by dsimp only;omega,⟨by simp[hos],hol.append (Lim.cons (by omega) Lim.nil),hst,by dsimp only;omega,by dsimp only;omega⟩,bD h0 [2] _ _ (by decide) ⟨rfl,rfl,rfl,rfl,rfl,rfl,trivial⟩ ⟨nE rfl (iF _ [nth (dg 65536 (u)) k-br]) rfl,rfl⟩⟩
 refine ex (sq (rl ?_));have hve:vl 65536 os=u-n*v:=BW rfl (by omega) hol hv hnv
 refine WL.sub (Aw (i:=7) (zs':=os) rfl rfl rfl (by omega) rfl) ?_
 refine o1 ?_;refine ca (Cz (by omega)) Da ⟨a1 rfl,rfl⟩ (.one (.t (sI false (trim os)))) ?_
 refine o1 ?_;refine nl (rt ?_);exact en (.inl rfl) rfl (aY (.one (.id rfl))) (by decide) (fun h=>by cases h) (by rw[Je (by omega) hol hve];rfl)
theorem BX {u v:Nat}(hx:(dg 65536 (u)).length≤1099511627776) (hy:(dg 65536 (v)).length≤1099511627776) (huv:u<65536*v):aF true Tryz.prog 143 [] [.one (.t (sI false (dg 65536 u))),.one (.t (sI false (dg 65536 v)))] (aU (.one (tv (.int .i64 ((u/v:Nat):Int))))):=by
 refine bX Tryz.func143 rfl Tryz.ntmps143 rfl aB rfl fun N w c0 h0=>?_
 refine sq (rl (o1 ?_));refine nl (sq (rl (o1 ?_)));refine o1 ?_;refine nl (sq (bl ?_))
 refine lp (γ:=Nat×Nat) (fun s=>bP [(0,.one (.t (sI false (dg 65536 u)))),(1,.one (.t (sI false (dg 65536 v)))),(5,.one (tv (.int .i64 ((s.1:Nat):Int)))),(6,.one (tv (.int .i64 ((s.2:Nat):Int))))]) (fun s=>([]:List Ob).map some) (fun s=>s.1*v≤u∧u<s.2*v∧s.1<s.2∧s.2≤65536) (fun s=>s.2-s.1) (0,65536) ⟨by simp,huv,by decide,Nat.le_refl _⟩ (bD h0 [] _ _ (by decide) ⟨rfl,rfl,rfl,rfl,trivial⟩ rfl) ?_
 rintro⟨lo,hi⟩ ⟨h91,h92,h93,h94⟩;dsimp only at h91 h92 h93 h94⊢;refine sq (sq (rl ?_));(iterate 3 refine o1 ?_)
 refine WL.cast (t:=10) (u':=.int .i64 ((hi-lo:Nat):Int)) rfl (aG (by omega)) ?_
 refine o1 ?_;refine nl ?_;refine bH rfl (fun h1=>?_) (fun h1=>?_)
 ·refine sk (bl (sq (rl ?_)));(iterate 3 refine o1 ?_);refine WL.cast (t:=14) (u':=.int .i64 ((lo+hi:Nat):Int)) rfl (aG (by omega)) ?_
  refine o1 ?_ (hC:=(iD 2 (by omega) (by simp only[iN];omega)))
  refine WL.cast (t:=15) (u':=.int .i64 (((lo+hi)/2:Nat):Int)) rfl (aG (gA _ 2)) ?_;refine o1 ?_;refine nl (sq (rl ?_));(iterate 3 refine o1 ?_)
  refine bs 0 ?_;refine WL.sub (Aw (i:=19) (zs:=[(lo+hi)/2]) (zs':=[(lo+hi)/2]) rfl rfl rfl rfl rfl) ?_;have h1l:[(lo+hi)/2].length=1:=rfl
  have hn2:=xQ (xs:=(dg 65536 (v))) (ys:=[(lo+hi)/2]) (aQ (by omega) _) (Lim.cons (d:=(lo+hi)/2) (by omega) Lim.nil)
  refine ca (Kk (by omega) (by omega) (aQ (by omega) _) (Lim.cons (d:=(lo+hi)/2) (by omega) Lim.nil)) GP ⟨a1 rfl,a1 rfl,rfl⟩ (.one (.t (sI false (dg 65536 (vl 65536 (dg 65536 (v))*vl 65536 [(lo+hi)/2]))))) ?_
  refine ca (JP (by omega) (by omega)) TR ⟨a1 rfl,a1 rfl,rfl⟩ (.one (tv (.bool (decide (u<vl 65536 (dg 65536 (v))*vl 65536 [(lo+hi)/2]))))) ?_
  refine nl ?_;refine bH rfl (fun h3=>?_) (fun h3=>?_)
  ·refine rl (o1 ?_);refine o1 ?_;refine nl ?_;rw[cG (by omega),tM,Nat.mul_comm]at h3
   exact⟨(lo,(lo+hi)/2),by dsimp only;omega,⟨by dsimp only;omega,by dsimp only;omega,by dsimp only;omega,by dsimp only;omega⟩,bD h0 [] _ _ (by decide) ⟨rfl,rfl,rfl,rfl,trivial⟩ rfl⟩
  refine rl (o1 ?_);refine o1 ?_;refine nl ?_;rw[cG (by omega),tM,Nat.mul_comm]at h3
  exact⟨((lo+hi)/2,hi),by dsimp only;omega,⟨by dsimp only;omega,by dsimp only;omega,by dsimp only;omega,by dsimp only;omega⟩,bD h0 [] _ _ (by decide) ⟨rfl,rfl,rfl,rfl,trivial⟩ rfl⟩
 refine ex (sq (rl (o1 ?_)));refine o1 ?_;refine nl (rt ?_)
 exact en (.inl rfl) rfl (aY (cM _)) (by decide) (fun _=>trivial) (congrArg (fun z=>FV.one (tv (.int .i64 ((z:Nat):Int)))) (Wm h91 h92 (by omega)).symm)
theorem Wn {xs zs:List Nat}(hx:xs.length≤4398046511104) (hz:trim xs=zs):aF false Tryz.prog 138 [] [.one (.t (sI false xs))] (aU (.one (.t (sI false zs)))):=by
 subst hz
 exact Cz hx
theorem Kq {u v:Nat}(hx:(dg 65536 (u)).length≤549755813888) (hy:(dg 65536 (v)).length≤549755813888) (hvp:0<v):aF false Tryz.prog 122 [] [.one (.t (sI false (dg 65536 u))),.one (.t (sI false (dg 65536 v)))] (aU (.tup [.one (.t (sI false (dg 65536 (u/v)))),.one (.t (sI false (dg 65536 (u%v))))])):=by
 refine bX Tryz.func122 rfl Tryz.ntmps122 rfl aB rfl fun N w c0 h0=>?_
 have hlu:=aQ (B:=65536) (by omega) u
 refine sq (rl (o1 ?_));refine o1 ?_;refine nl (sq (rl (o1 ?_)));refine o1 ?_
 refine WL.cast (t:=11) (u':=.int .i64 (((dg 65536 (u)).length:Nat):Int)) rfl (aG rfl) ?_;refine mk (m:=(dg 65536 (u)).length) 0 (by omega) (Km _) ?_
 refine o1 ?_;refine nl (sq (rl (o1 ?_)));refine nl (sq (sq (rl ?_)));(iterate 4 refine o1 ?_);refine nl (bl ?_)
 refine lp (γ:=Nat×List Nat×Nat) (fun s=>bP [(0,.one (.t (sI false (dg 65536 u)))),(1,.one (.t (sI false (dg 65536 v)))),(6,.one (.sl 0 0 (dg 65536 (u)).length)),(7,.one (.t (sI false (dg 65536 s.2.2)))),(8,.one (tv (.int .i64 ((s.1:Nat)-1))))]) (fun s=>[(⟨3,1,(eO s.2.1).map .t⟩:Ob)].map some) (fun s=>s.2.1.length=(dg 65536 (u)).length∧Lim 65536 s.2.1∧vl 65536 ((dg 65536 (u)).drop s.1)=v*vl 65536 (s.2.1.drop s.1)+s.2.2∧s.2.2<v∧s.1≤(dg 65536 (u)).length) (fun s=>s.1) ((dg 65536 (u)).length,List.replicate (dg 65536 (u)).length 0,0) ⟨List.length_replicate,Lim.replicate (by omega) _,by dsimp only;rw[List.drop_of_length_le (Nat.le_refl _),List.drop_of_length_le (by rw[List.length_replicate];exact Nat.le_refl _)];simp[vl],hvp,Nat.le_refl _⟩ (((nr (i:=7) 1 3 1 rfl rfl rfl rfl).trans (Aw (i:=7) (k:=1) (zs:=[]) (zs':=dg 65536 0) rfl rfl rfl rfl (oI _).symm)).trans (bD h0 [0] _ _ (by decide) ⟨rfl,rfl,rfl,rfl,rfl,trivial⟩ ⟨nE rfl rfl rfl,rfl⟩)) ?_
 rintro⟨k,os,r⟩ ⟨hos,hol,hv,hr,hkm⟩;dsimp only at hos hol hv hr hkm⊢;have hrl:=dF (B:=65536) (by omega) (Nat.le_of_lt hr)
 have hau:=hlu.nth (by omega) (k-1)
 have hce:=BY (a:=nth (dg 65536 (u)) (k-1)) hau hr
 have hql:(nth (dg 65536 (u)) (k-1)+65536*r)/v<65536:=(Nat.div_lt_iff_lt_mul hvp).2 (by omega)
 refine sq (sq (rl (o1 ?_)));refine o1 ?_;refine nl ?_;refine bH rfl (fun h1=>?_) (fun h1=>?_)
 ·refine sk (sq (bl (sq (rl (o1 ?_)))));refine o1 ?_;refine WL.cast (t:=21) (u':=.int .i64 ((k-1:Nat):Int)) rfl (aG (by omega)) ?_
  refine o1 ?_;refine dT ([.v (.int .i64 ((nth (dg 65536 (u)) (k-1):Nat):Int))]) (fR (dg 65536 (u)) (k:=k-1) (by omega)) ?_
  refine bs 1 ?_;refine o1 ?_;refine nl (sq (rl (o1 ?_)));refine o1 ?_
  refine hG (j:=2) aB rfl rfl rfl rfl (.sl rfl (rfl)) .fz (OA _) (BZ _) rfl (by omega) (by omega) ?_
  refine WL.sub (Aw (i:=27) (k:=2) (zs:=[nth (dg 65536 (u)) (k-1)]++dg 65536 r) (zs':=[nth (dg 65536 (u)) (k-1)]++dg 65536 r) rfl rfl (congrArg (fun l=>some (⟨3,1,l⟩:Ob)) (iF [nth (dg 65536 (u)) (k-1)] (dg 65536 r))) (by rw[List.length_append];rfl) rfl) ?_
  refine ca (Wn (zs:=(dg 65536 (nth (dg 65536 (u)) (k-1)+65536*r))) (by rw[List.length_append];exact Nat.le_trans (Nat.add_le_add_left hrl 1) (by omega)) (xR (by omega))) Da ⟨a1 rfl,rfl⟩ (.one (.t (sI false (dg 65536 (nth (dg 65536 (u)) (k-1)+65536*r))))) ?_
  refine o1 ?_;refine nl (sq (rl (o1 ?_)));refine o1 ?_;refine WL.cast (t:=30) (u':=.int .i64 ((k-1:Nat):Int)) rfl (aG (by omega)) ?_
  refine o1 ?_;refine o1 ?_;refine ca (BX (by omega) (by omega) (by omega)) TS ⟨a1 rfl,a1 rfl,rfl⟩ (.one (tv (.int .i64 (((nth (dg 65536 (u)) (k-1)+65536*r)/v:Nat):Int)))) ?_
  refine o1 ?_;refine tQ (tR os (k:=k-1) (v:=(nth (dg 65536 (u)) (k-1)+65536*r)/v) (by omega)) (xP os (by omega)) ?_
  refine nl (rl ?_);(iterate 4 refine o1 ?_);refine WL.cast (t:=38) (u':=.int .i64 ((k-1:Nat):Int)) rfl (aG (by omega)) ?_
  refine o1 ?_;refine Ba (Ko (os.set (k-1) ((nth (dg 65536 (u)) (k-1)+65536*r)/v)) (k:=k-1) (by rw[List.length_set];omega)) ?_
  refine WL.cast (t:=40) (u':=.int .i64 (((nth (dg 65536 (u)) (k-1)+65536*r)/v:Nat):Int)) rfl (aG (by rw[Kr (by omega)])) ?_
  refine ca (JR (by omega) (by omega) (by omega) (Nat.div_mul_le_self _ _)) TT ⟨a1 rfl,a1 rfl,a1 rfl,rfl⟩ (.one (.t (sI false (dg 65536 (nth (dg 65536 (u)) (k-1)+65536*r-(nth (dg 65536 (u)) (k-1)+65536*r)/v*v))))) ?_
  refine o1 ?_;refine nl (rl ?_);(iterate 3 refine o1 ?_);refine nl ?_
  have hst:=Tt (k:=k) (q:=(nth (dg 65536 (u)) (k-1)+65536*r)/v) (by omega) (by omega) (by omega) hv rfl rfl
  have hmod:=Nat.mod_lt (nth (dg 65536 (u)) (k-1)+65536*r) hvp
  have hdm:=Nat.div_add_mod' (nth (dg 65536 (u)) (k-1)+65536*r) v
  exact⟨(k-1,os.set (k-1) ((nth (dg 65536 (u)) (k-1)+65536*r)/v),nth (dg 65536 (u)) (k-1)+65536*r-(nth (dg 65536 (u)) (k-1)+65536*r)/v*v),by dsimp only;omega,⟨by rw[List.length_set];exact hos,hol.set _ hql,hst,by dsimp only;omega,by dsimp only;omega⟩,bD h0 [0] _ _ (by decide) ⟨rfl,rfl,rfl,rfl,congrArg (fun z=>some (FV.one (tv (.int .i64 z)))) (by omega),trivial⟩ ⟨nE rfl rfl rfl,rfl⟩⟩
 refine ex (sq (rl ?_));have hk0:k=0:=by omega
 rw[hk0,List.drop_zero,List.drop_zero,cG (by omega)]at hv
 obtain⟨hq1,hq2⟩:=Wo hv hr
 refine WL.sub (Aw (i:=6) (zs':=os) rfl rfl rfl (by omega) rfl) ?_
 refine o1 ?_;refine ca (Wn (zs:=(dg 65536 (u/v))) (by omega) (by rw[Je (by omega) hol rfl,hq1])) Da ⟨a1 rfl,rfl⟩ (.one (.t (sI false (dg 65536 (u/v))))) ?_
 (iterate 3 refine o1 ?_);refine nl (rt ?_);exact en (.inl rfl) rfl (rH (.cons (.one (.id rfl)) (.cons (.one (.id rfl)) .nil))) (by decide) (fun h=>by cases h) (by rw[hq2];rfl)
theorem Ks {a b:Zi}{k k':Int}(ha:Zn a k) (hb:Zn b k'):aF true Tryz.prog 93 [] [gF a,gF b] (aU (kO ((Int.gcd k k':Nat):Int))):=by
 refine bX Tryz.func93 rfl Tryz.ntmps93 rfl aB rfl fun N w c0 h0=>?_
 have hkl:=ha.len
 have hkl':=hb.len
 refine sq (rl (bx 0 ?_));refine bx 1 ?_;refine al 2 ?_;refine nl (sq ?_);refine rd [0,1,2] (fun i=>[9].contains i) mixed ?_
 refine aO 0 ?_;refine aO 4 ?_;refine bU 1 rfl (gU ha) lZ ⟨aE rfl,rfl⟩ (kF (k)) ?_;refine df 2 ?_
 have hn1:=eR (v:=vl 4294967296 (dg 4294967296 (k).natAbs)) (L:=(dg 4294967296 (k).natAbs).length) (by rw[cG (by omega)];exact Nat.le_refl _)
 refine bU 3 rfl (mN (by omega) (aQ (by omega) _)) zE ⟨a1 rfl,rfl⟩ (.one (.t (sI false (dg 65536 (vl 4294967296 (dg 4294967296 (k).natAbs)))))) ?_
 refine bU 5 rfl (gU hb) lZ ⟨aE rfl,rfl⟩ (kF (k')) ?_;refine df 6 ?_
 have hn2:=eR (v:=vl 4294967296 (dg 4294967296 (k').natAbs)) (L:=(dg 4294967296 (k').natAbs).length) (by rw[cG (by omega)];exact Nat.le_refl _)
 refine bU 7 rfl (mN (by omega) (aQ (by omega) _)) zE ⟨a1 rfl,rfl⟩ (.one (.t (sI false (dg 65536 (vl 4294967296 (dg 4294967296 (k').natAbs)))))) ?_
 refine eE 8 (by kernel_rfl) rfl rfl aB rfl (by trivial) ?_ (fun h=>by first | rfl | cases h)
 refine eE 9 (by kernel_rfl) rfl rfl aB rfl (by trivial) ?_ (fun h=>by first | rfl | cases h)
 refine bO ?_;refine sq (bl ?_)
 refine lp (γ:=Nat×Nat) (fun s=>bP [(4,.one (.pt 0 0)),(5,.one (.t (sI false (dg 65536 s.1)))),(6,.one (.t (sI false (dg 65536 s.2))))]) (fun s=>[(⟨50,0,[tv (.bool false),tv (.slice none 0 0)]⟩:Ob)].map some) (fun s=>Nat.gcd s.1 s.2=Int.gcd k k'∧(dg 65536 s.1).length≤549755813888∧(dg 65536 s.2).length≤549755813888) (fun s=>s.2) (vl 4294967296 (dg 4294967296 (k).natAbs),vl 4294967296 (dg 4294967296 (k').natAbs)) ⟨by dsimp only;rw[cG (by omega),cG (by omega)];rfl,by dsimp only;omega,by dsimp only;omega⟩ (bD h0 [2] _ _ (by decide) ⟨rfl,rfl,rfl,trivial⟩ ⟨oe rfl rfl,rfl⟩) ?_
 rintro⟨ga,gb⟩ ⟨hg,hga,hgb⟩;dsimp only at hg hga hgb⊢;have hbz:gb=0↔(dg 65536 gb).length=0:=by rw[List.length_eq_zero_iff,gC (by omega)]
 refine sq (sq (rl ?_));(iterate 3 refine o1 ?_);refine nl ?_;refine bH rfl (fun h3=>?_) (fun h3=>?_)
 ·refine sk (bl (sq ?_));have hb0:0<gb:=by omega
  refine rl (o1 ?_);refine o1 ?_;have hn4:=dF (B:=65536) (by omega) (Nat.div_le_self (ga) (gb))
  have hn5:=dF (B:=65536) (by omega) (Nat.mod_le (ga) (gb))
  refine ca (Kq (by omega) (by omega) hb0) GQ ⟨a1 rfl,a1 rfl,rfl⟩ (.tup [.one (.t (sI false (dg 65536 ((ga)/(gb))))),.one (.t (sI false (dg 65536 ((ga)%(gb)))))]) ?_
  (iterate 5 refine o1 ?_);refine nl (sq (rl (o1 ?_)));refine o1 ?_;refine nl (rl (o1 ?_));refine o1 ?_;refine nl ?_;have hmod:=Nat.mod_lt ga hb0
  have hml:=dF (B:=65536) (by omega) (Nat.le_of_lt hmod)
  exact⟨(gb,ga%gb),by dsimp only;omega,⟨by dsimp only;rw[←hg,Nat.gcd_comm gb (ga%gb),←Nat.gcd_rec,Nat.gcd_comm],by dsimp only;omega,by dsimp only;omega⟩,bD h0 [0] _ _ (by decide) ⟨rfl,rfl,rfl,trivial⟩ ⟨oe rfl rfl,rfl⟩⟩
 refine ex (sq ?_);have hb00:gb=0:=by omega
 rw[hb00,Nat.gcd_zero_right]at hg;refine rl (o1 ?_);have hn6:=nF (ga)
 refine ca (vH (zs:=(dg 4294967296 (ga))) (by omega) (aQ (by omega) _) (zG _)) zH ⟨a1 rfl,rfl⟩ (.one (.t (sU false (dg 4294967296 (ga))))) ?_
 refine gZ 1 (lF (K:=((Int.gcd k k':Nat):Int)) (by omega) (aQ (by omega) _) (by rw[cG (by omega),hg];rfl)) nG ⟨a1 rfl,a1 rfl,rfl⟩ ?_
 refine st ?_;refine nl (rt ?_)
 exact en (.inl rfl) rfl (aY (.agg (.cons (.id rfl) (.cons (.sl (trs:=aI (dg 4294967296 (((Int.gcd k k':Nat):Int)).natAbs)) rfl rfl (bK _) (aP _)) .nil)))) (by decide) (fun _=>fB (((Int.gcd k k':Nat):Int))) rfl
theorem Wp {a b:Zi}{k k':Int}(ha:Zn a k) (hb:Zn b k'):aF false Tryz.prog 109 [] [gF a,gF b] (aU (.tup [kF (if k'=0 then 0 else k.fdiv k'),kF (if k'=0 then 0 else k.fmod k'),.one (tv (.int .i64 (if k'=0 then 20 else 0)))])):=by
 refine bX Tryz.func109 rfl Tryz.ntmps109 rfl aB rfl fun N w c0 h0=>?_
 have hkl:=ha.len
 have hkl':=hb.len
 refine sq (rl (bx 0 ?_));refine bx 1 ?_;refine al 2 ?_;refine al 3 ?_;refine o1 ?_;refine nl (sq (rl (ld ?_)))
 refine ca (gU ha) lZ ⟨aE rfl,rfl⟩ (kF (k)) ?_;refine st ?_;refine nl (sq (rl (ld ?_)));refine ca (gU hb) lZ ⟨aE rfl,rfl⟩ (kF (k')) ?_;refine st ?_
 refine nl (sq (sq (rl (o1 ?_))));refine ld ?_;refine o1 ?_;refine o1 ?_;refine nl ?_;refine bH rfl (fun h1=>?_) (fun h1=>?_)
 ·refine sq (rl (o1 ?_));refine o1 ?_;refine st ?_;refine st ?_;refine o1 ?_;refine nl (rt ?_);have hk0:k'=0:=by have:=Pd (k:=k') (by omega);omega
  exact en (.inl rfl) rfl (Bo (.cons (.agg (.cons (.id rfl) (.cons .nilf .nil))) (.cons (.agg (.cons (.id rfl) (.cons .nilf .nil))) (.cons (cM _) .nil)))) (by decide) (fun h=>by cases h) (by rw[if_pos hk0,if_pos hk0,if_pos hk0,←Fa];rfl)
 refine sk (sq ?_);have hkn:k'≠0:=Wq (by omega)
 have hva:0<vl 4294967296 (dg 4294967296 (k').natAbs):=by rw[cG (by omega)];omega
 refine rd [0,1,2,3] (fun i=>[11].contains i) mixed ?_
 refine dv 0 ?_;refine aO 1 ?_;refine dv 3 ?_;refine aO 4 ?_
 have hn2:=eR (v:=vl 4294967296 (dg 4294967296 (k).natAbs)) (L:=(dg 4294967296 (k).natAbs).length) (by rw[cG (by omega)];exact Nat.le_refl _)
 refine bU 2 rfl (mN (by omega) (aQ (by omega) _)) zE ⟨a1 rfl,rfl⟩ (.one (.t (sI false (dg 65536 (vl 4294967296 (dg 4294967296 (k).natAbs)))))) ?_
 have hn3:=eR (v:=vl 4294967296 (dg 4294967296 (k').natAbs)) (L:=(dg 4294967296 (k').natAbs).length) (by rw[cG (by omega)];exact Nat.le_refl _)
 refine bU 5 rfl (mN (by omega) (aQ (by omega) _)) zE ⟨a1 rfl,rfl⟩ (.one (.t (sI false (dg 65536 (vl 4294967296 (dg 4294967296 (k').natAbs)))))) ?_
 have hn4:=dF (B:=65536) (by omega) (Nat.div_le_self (vl 4294967296 (dg 4294967296 (k).natAbs)) (vl 4294967296 (dg 4294967296 (k').natAbs)))
 have hn5:=dF (B:=65536) (by omega) (Nat.mod_le (vl 4294967296 (dg 4294967296 (k).natAbs)) (vl 4294967296 (dg 4294967296 (k').natAbs)))
 refine bU 6 rfl (Kq (by omega) (by omega) hva) GQ ⟨a1 rfl,a1 rfl,rfl⟩ (.tup [.one (.t (sI false (dg 65536 ((vl 4294967296 (dg 4294967296 (k).natAbs))/(vl 4294967296 (dg 4294967296 (k').natAbs)))))),.one (.t (sI false (dg 65536 ((vl 4294967296 (dg 4294967296 (k).natAbs))%(vl 4294967296 (dg 4294967296 (k').natAbs))))))]) ?_
 refine df 7 ?_;refine df 8 ?_;refine df 9 ?_;refine eE 10 (by kernel_rfl) rfl rfl aB rfl (by trivial) ?_ (fun h=>by first | rfl | cases h)
 refine eE 11 (by kernel_rfl) rfl rfl aB rfl (by trivial) ?_ (fun h=>by first | rfl | cases h)
 refine bO ?_
 refine md (γ:=Unit) (fun _=>bP [(3,.one (.pt 0 0)),(4,.one (.pt 1 0)),(5,.one (.pt 2 0)),(6,.one (tv (.int .i64 0))),(9,.one (.pt 3 0)),(10,.one (.pt 4 0))]) (fun _=>([⟨50,0,[tv (.bool (aS (k'))),.t (sU false (dg 4294967296 (k').natAbs))]⟩,⟨50,0,[tv (.bool false),tv (.slice none 0 0)]⟩,⟨50,0,[tv (.bool false),tv (.slice none 0 0)]⟩,⟨50,0,[tv (.bool (aS (cZ (aS k != aS k') (k.natAbs/k'.natAbs)))),.t (sU false (dg 4294967296 (cZ (aS k != aS k') (k.natAbs/k'.natAbs)).natAbs))]⟩,⟨50,0,[tv (.bool (aS (cZ (aS k) (k.natAbs%k'.natAbs)))),.t (sU false (dg 4294967296 (cZ (aS k) (k.natAbs%k'.natAbs)).natAbs))]⟩]:List Ob).map some) (fun _=>True) ?_ fun _ _=>?_
 ·have hnq:=nF ((vl 4294967296 (dg 4294967296 (k).natAbs))/(vl 4294967296 (dg 4294967296 (k').natAbs)))
  have hLq:=vH (xs:=dg 65536 ((vl 4294967296 (dg 4294967296 (k).natAbs))/(vl 4294967296 (dg 4294967296 (k').natAbs)))) (zs:=dg 4294967296 ((vl 4294967296 (dg 4294967296 (k).natAbs))/(vl 4294967296 (dg 4294967296 (k').natAbs)))) (by omega) (aQ (by omega) _) (zG _)
  have hMq:=lF (b:=aS k != aS k') (xs:=dg 4294967296 ((vl 4294967296 (dg 4294967296 (k).natAbs))/(vl 4294967296 (dg 4294967296 (k').natAbs)))) (K:=cZ (aS k != aS k') (k.natAbs/k'.natAbs)) (by omega) (aQ (by omega) _) (by simp only[cG (B:=4294967296) (by omega)] <;> rfl)
  have hnr:=nF ((vl 4294967296 (dg 4294967296 (k).natAbs))%(vl 4294967296 (dg 4294967296 (k').natAbs)))
  have hLr:=vH (xs:=dg 65536 ((vl 4294967296 (dg 4294967296 (k).natAbs))%(vl 4294967296 (dg 4294967296 (k').natAbs)))) (zs:=dg 4294967296 ((vl 4294967296 (dg 4294967296 (k).natAbs))%(vl 4294967296 (dg 4294967296 (k').natAbs)))) (by omega) (aQ (by omega) _) (zG _)
  have hMr:=lF (b:=aS k) (xs:=dg 4294967296 ((vl 4294967296 (dg 4294967296 (k).natAbs))%(vl 4294967296 (dg 4294967296 (k').natAbs)))) (K:=cZ (aS k) (k.natAbs%k'.natAbs)) (by omega) (aQ (by omega) _) (by simp only[cG (B:=4294967296) (by omega)] <;> rfl)
  generalize dg 4294967296 ((vl 4294967296 (dg 4294967296 (k).natAbs))/(vl 4294967296 (dg 4294967296 (k').natAbs)))=zq at hLq hMq
  generalize dg 4294967296 ((vl 4294967296 (dg 4294967296 (k).natAbs))%(vl 4294967296 (dg 4294967296 (k').natAbs)))=zr at hLr hMr;refine rd [0,1,2,3] (fun i=>[16].contains i) mixed ?_
  refine dv 0 ?_;refine aO 1 ?_;refine dv 2 ?_;refine aO 3 ?_;refine dv 4 ?_;refine dv 5 ?_;refine dv 8 ?_;refine aO 9 ?_;refine dv 10 ?_
  repeat' first | refine WO.three (i:=6) (j:=13) (m:=14) (by kernel_rfl) ?_ ?_ ?_ | refine mO 6 rfl (hLq) zH ⟨a1 rfl,rfl⟩ (.one (.t (sU false zq))) ?_ | refine WO.three (i:=7) (j:=13) (m:=14) (by kernel_rfl) ?_ ?_ ?_ | refine mO 7 rfl (hMq) nG ⟨a1 rfl,a1 rfl,rfl⟩ (kF (cZ (aS k != aS k') (k.natAbs/k'.natAbs))) ?_ | refine WO.three (i:=11) (j:=13) (m:=14) (by kernel_rfl) ?_ ?_ ?_ | refine mO 11 rfl (hLr) zH ⟨a1 rfl,rfl⟩ (.one (.t (sU false zr))) ?_ | refine WO.three (i:=12) (j:=13) (m:=14) (by kernel_rfl) ?_ ?_ ?_ | refine mO 12 rfl (hMr) nG ⟨a1 rfl,a1 rfl,rfl⟩ (kF (cZ (aS k) (k.natAbs%k'.natAbs))) ?_ | refine WO.two (i:=13) (j:=14) (by kernel_rfl) ?_ ?_ | refine fK (key:=4) 13 rfl rfl aB rfl ⟨rfl,rfl,rfl,rfl,trivial⟩ ?_ | refine kM (key:=5) 14 (by kernel_rfl) rfl rfl aB rfl ⟨rfl,rfl,rfl,rfl,trivial⟩ ?_ | refine iM 15 (by kernel_rfl) rfl rfl aB rfl rfl rfl rfl ⟨rfl,rfl,rfl,rfl,trivial⟩ ?_ | refine dst 16 ?_ | refine bO ?_ | exact⟨(),trivial,bD h0 [1,2,3,4,5] _ _ (by decide) ⟨rfl,rfl,rfl,rfl,rfl,rfl,trivial⟩ ⟨oe rfl rfl,oe rfl rfl,oe rfl rfl,oe rfl rfl,oe rfl rfl,rfl⟩⟩ | refine fK (key:=4) 14 rfl rfl aB rfl ⟨rfl,rfl,rfl,rfl,trivial⟩ ?_ | refine kM (key:=5) 13 (by kernel_rfl) rfl rfl aB rfl ⟨rfl,rfl,rfl,rfl,trivial⟩ ?_ | exact⟨(),trivial,bD h0 [1,2,3,5,4] _ _ (by decide) ⟨rfl,rfl,rfl,rfl,rfl,rfl,trivial⟩ ⟨oe rfl rfl,oe rfl rfl,oe rfl rfl,oe rfl rfl,oe rfl rfl,rfl⟩⟩ | refine WO.two (i:=12) (j:=14) (by kernel_rfl) ?_ ?_ | refine fK (key:=5) 14 rfl rfl aB rfl ⟨rfl,rfl,rfl,rfl,trivial⟩ ?_ | refine bU 12 rfl (hMr) nG ⟨a1 rfl,a1 rfl,rfl⟩ (kF (cZ (aS k) (k.natAbs%k'.natAbs))) ?_ | refine WO.two (i:=12) (j:=13) (by kernel_rfl) ?_ ?_ | refine fK (key:=5) 13 rfl rfl aB rfl ⟨rfl,rfl,rfl,rfl,trivial⟩ ?_ | refine WO.two (i:=11) (j:=14) (by kernel_rfl) ?_ ?_ | refine bU 11 rfl (hLr) zH ⟨a1 rfl,rfl⟩ (.one (.t (sU false zr))) ?_ | refine WO.two (i:=11) (j:=13) (by kernel_rfl) ?_ ?_ | refine WO.two (i:=7) (j:=14) (by kernel_rfl) ?_ ?_ | refine bU 7 rfl (hMq) nG ⟨a1 rfl,a1 rfl,rfl⟩ (kF (cZ (aS k != aS k') (k.natAbs/k'.natAbs))) ?_ | refine WO.two (i:=7) (j:=13) (by kernel_rfl) ?_ ?_ | refine WO.two (i:=6) (j:=14) (by kernel_rfl) ?_ ?_ | refine bU 6 rfl (hLq) zH ⟨a1 rfl,rfl⟩ (.one (.t (sU false zq))) ?_ | refine WO.two (i:=6) (j:=13) (by kernel_rfl) ?_ ?_
 have hlq:(dg 4294967296 (cZ (aS k != aS k') (k.natAbs/k'.natAbs)).natAbs).length≤(dg 4294967296 (k).natAbs).length:=by rw[jJ];exact iY (Nat.div_le_self _ _)
 have hlr:(dg 4294967296 (cZ (aS k) (k.natAbs%k'.natAbs)).natAbs).length≤(dg 4294967296 (k).natAbs).length:=by rw[jJ];exact iY (Nat.mod_le _ _)
 refine sq (sq ?_);refine rd [0,1,2,3,4] (fun i=>[].contains i) mixed ?_
 refine aO 0 ?_;refine bU 1 rfl (oL (Zn.of (k:=cZ (aS k) (k.natAbs%k'.natAbs)) (by omega))) Bp ⟨aE rfl,rfl⟩ (.one (tv (.int .i64 (cZ (aS k) (k.natAbs%k'.natAbs)).sign))) ?_
 refine df 2 ?_;refine df 3 ?_;refine WD.split (t:=47) rfl rfl (fun h6=>?_) (fun h6=>?_)
 ·refine aO 4 ?_;refine aO 6 ?_
  refine bU 5 rfl (oL (Zn.of (k:=cZ (aS k) (k.natAbs%k'.natAbs)) (by omega))) Bp ⟨aE rfl,rfl⟩ (.one (tv (.int .i64 (cZ (aS k) (k.natAbs%k'.natAbs)).sign))) ?_
  refine bU 7 rfl (oL (Zn.of (k:=k') (by omega))) Bp ⟨aE rfl,rfl⟩ (.one (tv (.int .i64 (k').sign))) ?_
  refine df 8 ?_;refine df 9 ?_;refine bO ?_;refine bH rfl (fun h7=>?_) (fun h7=>?_)
  ·refine sq ?_;refine rd [0,1,2,3,4] (fun i=>[2,3].contains i) mixed ?_
   refine aO 0 ?_;have hol:(dg 4294967296 (1:Int).natAbs).length≤1:=dC (by omega) (by decide)
   refine bU 1 rfl (zI (n:=1) (by omega) (by omega)) Fb ⟨a1 rfl,rfl⟩ (kF (1:Int)) ?_
   refine bU 2 rfl (OB (Zn.of (k:=cZ (aS k != aS k') (k.natAbs/k'.natAbs)) (by omega)) (Zn.of (k:=(1:Int)) (by omega))) TU ⟨aE rfl,aE rfl,rfl⟩ (kF (cZ (aS k != aS k') (k.natAbs/k'.natAbs)-(1:Int))) ?_
   refine dst 3 ?_;refine bO ?_;refine rl (ld ?_);refine ld ?_
   refine ca (tS (Zn.of (k:=cZ (aS k) (k.natAbs%k'.natAbs)) (by omega)) (Zn.of (k:=k') (by omega))) Fc ⟨aE rfl,aE rfl,rfl⟩ (kF (cZ (aS k) (k.natAbs%k'.natAbs)+k')) ?_
   refine st ?_;refine nl (sq ?_);refine rd [0,2,3,4] (fun i=>[3,4].contains i) mixed ?_
   refine aO 0 ?_;refine aO 1 ?_;refine iM 2 (by kernel_rfl) rfl rfl aB rfl rfl rfl rfl ⟨rfl,rfl,rfl,rfl,trivial⟩ ?_
   refine dst 3 ?_;refine eE 4 (by kernel_rfl) rfl rfl aB rfl (by trivial) ?_ (fun h=>by first | rfl | cases h)
   refine bO ?_;refine rt ?_;obtain⟨hd1,hd2⟩:=JS (a:=k) (b:=k') hkn rfl rfl h6 h7
   exact en (.inl rfl) rfl (Bo (.cons (.agg (.cons (.id rfl) (.cons (.id rfl) .nil))) (.cons (.agg (.cons (.id rfl) (.cons (.id rfl) .nil))) (.cons (cM _) .nil)))) (by decide) (fun h=>by cases h) (by rw[if_neg hkn,if_neg hkn,if_neg hkn,←hd1,←hd2];rfl)
  refine sk (sq ?_);refine rd [0,2,3,4] (fun i=>[3,4].contains i) mixed ?_
  refine aO 0 ?_;refine aO 1 ?_;refine iM 2 (by kernel_rfl) rfl rfl aB rfl rfl rfl rfl ⟨rfl,rfl,rfl,rfl,trivial⟩ ?_
  refine dst 3 ?_;refine eE 4 (by kernel_rfl) rfl rfl aB rfl (by trivial) ?_ (fun h=>by first | rfl | cases h)
  refine bO ?_;refine rt ?_;obtain⟨hd1,hd2⟩:=Py (a:=k) (b:=k') hkn rfl rfl (.inr (Decidable.byContradiction h7))
  exact en (.inl rfl) rfl (Bo (.cons (.agg (.cons (.id rfl) (.cons (.id rfl) .nil))) (.cons (.agg (.cons (.id rfl) (.cons (.id rfl) .nil))) (.cons (cM _) .nil)))) (by decide) (fun h=>by cases h) (by rw[if_neg hkn,if_neg hkn,if_neg hkn,←hd1,←hd2];rfl)
 refine cH 4 ?_;refine cH 6 ?_;refine cH 5 ?_;refine cH 7 ?_;refine cH 8 ?_;refine df 9 ?_;refine bO ?_;refine fS rfl (sk (sq ?_))
 refine rd [0,2,3,4] (fun i=>[3,4].contains i) mixed ?_
 refine aO 0 ?_;refine aO 1 ?_;refine iM 2 (by kernel_rfl) rfl rfl aB rfl rfl rfl rfl ⟨rfl,rfl,rfl,rfl,trivial⟩ ?_
 refine dst 3 ?_;refine eE 4 (by kernel_rfl) rfl rfl aB rfl (by trivial) ?_ (fun h=>by first | rfl | cases h)
 refine bO ?_;refine rt ?_;obtain⟨hd1,hd2⟩:=Py (a:=k) (b:=k') hkn rfl rfl (.inl (Decidable.byContradiction h6))
 exact en (.inl rfl) rfl (Bo (.cons (.agg (.cons (.id rfl) (.cons (.id rfl) .nil))) (.cons (.agg (.cons (.id rfl) (.cons (.id rfl) .nil))) (.cons (cM _) .nil)))) (by decide) (fun h=>by cases h) (by rw[if_neg hkn,if_neg hkn,if_neg hkn,←hd1,←hd2];rfl)
def ZS (o:Bool) (a:Zi):List Tr:=[.v (.bool a.s),sU o a.x]
section
variable {x:Cx}{g:Nat→FV}{ob:List (Option Ob)}{ws:List Zi}{z:Zi}{i j k1 e key:Nat}{y a b:AV}
end
section
variable {x:Cx}{g:Nat→FV}{ob:List (Option Ob)}
theorem Ws {i k t z n:Nat}{l:List Tr}{fv fv':FV}(t':Nat) (hi:Nat.blt i x.n=true) (hg:g i=fv) (ho:bR ob k=some ⟨t,z,l.map .t⟩) (hz:l.length=n*z) (hf:FzF (.sl k 0 n) (.s false t' z n l) fv fv'):Sub x g ob (bC g i fv') (ob.set k none):=zJ hi hg ho hf (Dd t' ho hz)
end
section
variable {l:List Rat}{f:Rat→Rat}{k:Nat}
end
section
variable {l:List Rat}{k:Nat}{f:Int→Int}{z:List Int}
end
section
variable {x:Cx}{g:Nat→FV}{ob:List (Option Ob)}
end
section
variable {l:List Rat}{k i t:Nat}
def nH (l:List Bool) (k:Nat):Bool:=l.getD k false
end
def bT (xs:List Bool):List Tr:=xs.map fun b=>.v (.bool b)
theorem Wt (xs:List Bool):(bT xs).length=xs.length:=by simp[bT]
section
variable {x:Cx}{g:Nat→FV}{ob ob':List (Option Ob)}{Q:Post}{ops:Array Oper}{rest:List Oper}{d:Nat}{ty:TypeId}{pos:String}{af:Array Edge}{gd:Option (Nat×Bool)}{T:List (Nat×TI)}
end
structure Vn where
 y:Int
 e:Int
 l:Rat
 u:Rat
 x:Rat
 c:Rat
def TV:Vn:=⟨0,0,0,0,0,0⟩
def bZ (o:Bool) (v:Vn):List Tr:=.v (.int .i64 v.y)::.v (.int .i64 v.e)::((Fr4.of v.l).tr o++((Fr4.of v.u).tr false++((Fr4.of v.x).tr false++(Fr4.of v.c).tr false)))
theorem cJ (o:Bool) (v:Vn):(bZ o v).length=18:=rfl
def bL (l:List Vn) (i:Nat):Vn:=l.getD i TV
def cY (o o':Bool) (l:List Vn):Tr:=.s o 64 18 l.length (l.flatMap (bZ o'))
def eB (o:Bool) (u:Ur):List Tr:=.v (.int .i64 u.v)::.v (.int .i64 u.e)::.v (.int .i64 u.y)::(Fr4.of u.n).tr o
theorem dU (o:Bool) (u:Ur):(eB o u).length=7:=rfl
def TW:Ur:=⟨0,0,0,0⟩
def eP (l:List Ur) (i:Nat):Ur:=l.getD i TW
def cU (o o':Bool) (l:List Ur):Tr:=.s o 58 7 l.length (l.flatMap (eB o'))
structure Rl where
 u:Rat
 b:List Rat
def TX:Rl:=⟨0,[]⟩
def rlt (r:Rl):List Tr:=(Fr4.of r.u).tr false++[sQ false (r.b.map Fr4.of)]
theorem gI (r:Rl):(rlt r).length=5:=rfl
def qL (l:List Rl) (i:Nat):Rl:=l.getD i TX
def dB (o:Bool) (l:List Rl):Tr:=.s o 62 5 l.length (l.flatMap rlt)
structure Yr where
 m:List Bool
 b:List Fr4
 l:Fr4
def GR:Yr:=⟨[],[],CA⟩
def gE (xs:List Bool):Tr:=.s false 4 1 xs.length (bT xs)
def dV (y:Yr):List Tr:=gE y.m::sQ false y.b::y.l.tr false
theorem dI (y:Yr):(dV y).length=6:=rfl
def aL (l:List Yr) (i:Nat):Yr:=l.getD i GR
def kI (l:List Yr):Tr:=.s false 67 6 l.length (l.flatMap dV)
section
variable {i k:Nat}
theorem kN {l:List Vn}(h:i<l.length):l[i]? =some (bL l i):=by simp[bL,h]
theorem sJ {l:List Vn}(h:i<l.length):bL l i∈l:=mA h
theorem fJ {l:List Ur}(h:i<l.length):l[i]? =some (eP l i):=by simp[eP,h]
theorem hJ {l:List Ur}(h:i<l.length):eP l i∈l:=mA h
theorem sK {l:List Rl}(h:i<l.length):l[i]? =some (qL l i):=by simp[qL,h]
theorem cR {l:List Yr}(h:i<l.length):l[i]? =some (aL l i):=by simp[aL,h]
theorem fC {l:List Yr}(h:i<l.length):aL l i∈l:=mA h
end
def qt (q:Rat):List Tr:=(Fr4.of q).tr false
theorem lS (q:Rat):(qt q).length=4:=rfl
def eM (l:List Rat) (i:Nat):Rat:=l.getD i 0
theorem sL {l:List Rat}{i:Nat}(h:i<l.length):l[i]? =some (eM l i):=by simp[eM,h]
theorem oM {l:List Rat}{i:Nat}(h:i<l.length):cT (l.map Fr4.of) i=Fr4.of (eM l i):=by simp[cT,eM,h]
def eD (x:List (Int×Rat)×Int×Bool):Tr:=.p true 137 [sR 102 x.1,.v (.int .i64 x.2.1),.v (.bool x.2.2)]
def dE (l:List (List (Int×Rat)×Int×Bool)) (i:Nat):List (Int×Rat)×Int×Bool:=l.getD i ([],0,false)
theorem Ho {l:List (List (Int×Rat)×Int×Bool)}{i:Nat}(h:i<l.length):l[i]? =some (dE l i):=by simp[dE,h]
section
variable {α β:Type}{f:α→β}{p:β→Bool}{L:List α}{x:α}
theorem JT (hx:x∈L) (h:∀z∈L,p (f z)=true↔z=x):cX p (L.map f)<L.length∧L[cX p (L.map f)]? =some x:=by
 induction L with
 | nil=>cases hx
 | cons z L ih=>
  rw[List.map_cons]
  unfold cX
  by_cases hz:z=x
  ·subst hz
   rw[if_pos ((h z (List.mem_cons_self ..)).2 rfl)]
   simp
  rw[if_neg (fun h9=>hz ((h z (List.mem_cons_self ..)).1 h9))]
  have hx2:x∈L:=by
   rcases List.mem_cons.1 hx with h9 | h9
   ·exact absurd h9.symm hz
   exact h9
  obtain⟨h1,h2⟩:=ih hx2 fun w hw=>h w (List.mem_cons_of_mem _ hw)
  exact⟨by rw[List.length_cons];omega,by rw[List.getElem?_cons_succ];exact h2⟩
theorem Bq {g:α→β}{i:Nat}(hn:L.Nodup) (hi:L[i]? =some x) (h:∀z∈L,z≠x→f z=g z):(L.map f).set i (g x)=L.map g:=by
 induction L generalizing i with
 | nil=>simp at hi
 | cons z L ih=>
  obtain⟨hz,hn⟩:=List.nodup_cons.1 hn
  cases i with
  | zero=>
   simp at hi
   subst hi
   rw[List.map_cons,List.set_cons_zero,List.map_cons]
   congr 1
   refine List.map_congr_left fun w hw=>h w (List.mem_cons_of_mem _ hw) fun e=>hz (e▸hw)
  | succ i=>
   rw[List.getElem?_cons_succ]at hi
   rw[List.map_cons,List.set_cons_succ,ih hn hi fun w hw=>h w (List.mem_cons_of_mem _ hw),List.map_cons,h z (List.mem_cons_self ..) fun e=>hz (e▸List.mem_of_getElem? hi)]
end
def Rg.vn (R:Rg) (U:List Ur) (x c:Nat→Nat→Rat) (p:Nat×Nat):Vn:=⟨p.1,p.2,R.los p.1 p.2,cS U p.1 p.2,x p.1 p.2,c p.1 p.2⟩
def Rg.vns (R:Rg) (U:List Ur) (x c:Nat→Nat→Rat) (L:List (Nat×Nat)):List Vn:=L.map (R.vn U x c)
def Rg.rl (R:Rg) (U:List Ur) (y:Nat):Rl:=⟨cV U y,(List.range R.E).map fun(e:Nat)=>dP U y e⟩
def Rg.rls (R:Rg) (U:List Ur) (k:Nat):List Rl:=(List.range k).map (R.rl U)
def cI (y e:Int) (v:Vn):Bool:=decide (v.y=y)&&decide (v.e=e)
section
variable {R:Rg}{U U':List Ur}{x x' c c':Nat→Nat→Rat}{L:List (Nat×Nat)}{p:Nat×Nat}{k y e t:Nat}{m:Rat}
theorem dG:(R.vns U x c L).length=L.length:=List.length_map ..
theorem xS (hp:p∈L):cX (cI p.1 p.2) (R.vns U x c L)<L.length∧L[cX (cI p.1 p.2) (R.vns U x c L)]? =some p:=by
 refine JT hp fun z _=>?_
 unfold cI Rg.vn
 simp only[Bool.and_eq_true,decide_eq_true_eq]
 constructor
 ·rintro⟨h1,h2⟩
  exact Prod.ext (by omega) (by omega)
 rintro rfl
 exact⟨rfl,rfl⟩
theorem Fd (hn:L.Nodup) (hp:p∈L) (h:∀q∈L,q≠p→R.vn U x c q=R.vn U' x' c' q):(R.vns U x c L).set (cX (cI p.1 p.2) (R.vns U x c L)) (R.vn U' x' c' p)=R.vns U' x' c' L:=Bq hn (xS hp).2 h
theorem zK (hp:p∈L):(R.vns U x c L)[cX (cI p.1 p.2) (R.vns U x c L)]? =some (R.vn U x c p):=by
 have h:(L.map (R.vn U x c))[cX (cI p.1 p.2) (R.vns U x c L)]? =some (R.vn U x c p):=by rw[List.getElem?_map,(xS hp).2];rfl
 exact h
theorem xT {y e y' e':Int}(h:¬(y=y'∧e=e')):cS (Rg.us U y e t m) y' e'=cS U y' e':=by
 unfold Rg.us
 split
 ·rw[zL,if_neg h]
 rfl
theorem Wu {y e:Int}(h:0<m):cS (Rg.us U y e t m) y e=cS U y e+m:=by rw[kP h,zL,if_pos ⟨rfl,rfl⟩]
theorem JU (hn:L.Nodup) (hp:p∈L) (hm:0<m):(R.vns U x c L).set (cX (cI p.1 p.2) (R.vns U x c L)) ⟨p.1,p.2,R.los p.1 p.2,cS U p.1 p.2+m,x p.1 p.2,c p.1 p.2⟩=R.vns (Rg.us U p.1 p.2 t m) x c L:=by
 have:=Fd (R:=R) (U:=U) (U':=Rg.us U p.1 p.2 t m) (x:=x) (x':=x) (c:=c) (c':=c) hn hp fun q _ hq=>by
  unfold Rg.vn
  rw[xT fun h9=>hq (Prod.ext (by omega) (by omega))]
 rw[←this]
 unfold Rg.vn
 rw[Wu hm]
theorem oN:(R.rls U k).length=k:=by simp[Rg.rls]
theorem TY (h:y≠t){v e:Int}:R.rl (Rg.us U v e t m) y=R.rl U y:=by
 unfold Rg.us
 split
 ·unfold Rg.rl
  rw[Fe,if_neg (by omega)]
  congr 1
  refine List.map_congr_left fun e' _=>?_
  rw[zM,if_neg (by omega)]
 rfl
theorem OC (h:k≤t){v e:Int}:R.rls (Rg.us U v e t m) k=R.rls U k:=List.map_congr_left fun y hy=>TY (by have:=List.mem_range.1 hy;omega)
end
def Rg.ms (R:Rg) (t:Nat):List Bool:=(List.range R.E).map (R.mem t)
def Rg.bs (R:Rg) (t:Nat):List Rat:=(List.range R.E).map (R.base t)
def Rg.by9 (R:Rg) (U:List Ur) (t:Nat):List Rat:=(List.range R.E).map fun(e:Nat)=>dP U t e
def Rg.lp (R:Rg) (e:Nat):Nat→Int×Bool
 | 0=>(0,false)
 | t+1=>bif R.isV t e then((t:Int),true)else R.lp e t
def Rg.own (R:Rg) (U:List Ur) (I:List Nat) (t:Nat):List (List (Int×Rat)×Int×Bool):=(List.range R.E).map fun e=>(R.wl U e I,(R.lp e t).1,(R.lp e t).2)
section
variable {R:Rg}{U:List Ur}{x c:Nat→Nat→Rat}{N y e e' t k:Nat}{m:Rat}{I:List Nat}
open Rg
theorem zN {α:Type}{f g:Nat→α}{E:Nat}(he:e<E) (h:∀z,z<E→z≠e→f z=g z):((List.range E).map f).set e (g e)=(List.range E).map g:=
 Bq List.nodup_range (by rw[List.getElem?_range he]) fun z hz hne=>h z (List.mem_range.1 hz) hne
theorem qW {α:Type}{f:Nat→α}{E:Nat}{d:α}(he:e<E):((List.range E).map f).getD e d=f e:=by simp[he]
theorem oO (he:e<R.E):eM (R.by9 U t) e=dP U t e:=qW he
theorem nI (he:e<R.E):eM (R.bs t) e=R.base t e:=qW he
theorem Ff (he:e<R.E):dE (R.own U I t) e=(R.wl U e I,(R.lp e t).1,(R.lp e t).2):=qW he
theorem rI (he:e<R.E):nH (R.ms t) e=R.mem t e:=qW he
theorem tT:(R.by9 U t).length=R.E:=by simp[Rg.by9]
theorem nJ:(R.bs t).length=R.E:=by simp[Rg.bs]
theorem kA:(R.own U I t).length=R.E:=by simp[Rg.own]
theorem Kt:(R.ms t).length=R.E:=by simp[Rg.ms]
theorem Ww (h:0<m){v:Int}:cV (us U v e t m) t=cV U t+m:=by rw[kP h,Fe,if_pos rfl]
theorem OD (h:0<m){v:Int}:dP (us U v e t m) t e=dP U t e+m:=by rw[kP h,zM,if_pos ⟨rfl,rfl⟩]
theorem Wx (h:e'≠e){v:Int}:dP (us U v e t m) t e'=dP U t e':=by
 unfold Rg.us
 split
 ·rw[zM,if_neg (by omega)]
 rfl
theorem Wy (he:e<R.E) (hm:0<m){v:Int}:(R.by9 U t).set e (dP U t e+m)=R.by9 (us U v e t m) t:=by
 rw[←OD hm (v:=v)]
 exact zN (f:=fun(e:Nat)=>dP U t e) (g:=fun(e':Nat)=>dP (us U v e t m) t e') he fun z _ hne=>(Wx hne).symm
theorem OE (he:e<R.E) (hI:I.Pairwise (· < ·)) (h0:∀i∈I,0≤R.left U i e) (hy:y∈I) (hm:0<m) (hle:m≤R.left U y e):(R.own U I t).set e ((aR (y:Int) (R.wl U e I) m).1.filter (fun x=> !nK x.1 x.2),(R.lp e t).1,(R.lp e t).2)=R.own (us U y e t m) I t:=by
 rw[Pz (t:=t) hm hle h0 hI hy]
 exact zN (f:=fun e=>(R.wl U e I,(R.lp e t).1,(R.lp e t).2)) (g:=fun e'=>(R.wl (us U y e t m) e' I,(R.lp e' t).1,(R.lp e' t).2)) he fun z _ hne=>by
  have:R.wl U z I=R.wl (us U y e t m) z I:=Br fun j _=>(nL (fun h9=>hne h9.2.symm)).symm
  rw[this]
theorem TZ {I:List Nat}(h:∀i∈I,Sz 300 (R.left U i e)):StOk (R.wl U e I) I.length (301*I.length):=by
 induction I with
 | nil=>exact⟨fun x hx=>(by cases hx),Nat.le_refl _,Nat.le_refl _⟩
 | cons i I ih=>
  obtain⟨h1,h2,h3⟩:=ih fun j hj=>h j (List.mem_cons_of_mem _ hj)
  by_cases hp:0<R.left U i e
  ·rw[jK hp]
   have h4:=lT.1 (h i (List.mem_cons_self ..))
   refine⟨fun x hx=>?_,by simp only[List.length_cons];omega,?_⟩
   ·rcases List.mem_cons.1 hx with rfl | hx
    ·exact hp
    exact h1 x hx
   simp only[List.map_cons,fY,List.sum_cons,List.length_cons,wt]at h3⊢
   omega
  rw[lU hp]
  exact⟨h1,by simp only[List.length_cons];omega,by simp only[List.length_cons];omega⟩
theorem CB (h:(y,e)∈R.vl k) (hm:0<m){v:Vn}(hv:bL (R.vns U x c (R.vl k)) (cX (cI (y:Int) (e:Int)) (R.vns U x c (R.vl k)))=v):(R.vns U x c (R.vl k)).set (cX (cI (y:Int) (e:Int)) (R.vns U x c (R.vl k))) ⟨v.y,v.e,v.l,v.u+m,v.x,v.c⟩=R.vns (us U y e t m) x c (R.vl k):=by
 have h1:=zK (R:=R) (U:=U) (x:=x) (c:=c) h
 have h2:v=R.vn U x c (y,e):=by
  rw[←hv,bL,List.getD_eq_getElem?_getD,h1]
  rfl
 rw[h2]
 exact JU (p:=(y,e)) (gJ k) h hm
theorem OF (h:(y,e)∈R.vl k):bL (R.vns U x c (R.vl k)) (cX (cI (y:Int) (e:Int)) (R.vns U x c (R.vl k)))=R.vn U x c (y,e):=by
 have h1:=zK (R:=R) (U:=U) (x:=x) (c:=c) h
 rw[bL,List.getD_eq_getElem?_getD,h1]
 rfl
theorem Fg {v e:Int}:(us U v e t m).length≤U.length+1:=by
 unfold Rg.us
 split <;> simp
end
def Rg.vlk (R:Rg) (t e:Nat):List (Nat×Nat):=R.vl t++((List.range e).filter (R.isV t)).map fun e=>(t,e)
def Rg.own1 (R:Rg) (U:List Ur) (t k:Nat):List (List (Int×Rat)×Int×Bool):=(List.range R.E).map fun e=>if e<k then(R.wl U e (R.I t++[t]),(R.lp e (t+1)).1,(R.lp e (t+1)).2)else(R.wl U e (R.I t),(R.lp e t).1,(R.lp e t).2)
def Rg.own2 (R:Rg) (U:List Ur) (t k:Nat):List (List (Int×Rat)×Int×Bool):=(List.range R.E).map fun e=>if e<k then(R.wl U e (R.I (t+1)),(R.lp e (t+1)).1,(R.lp e (t+1)).2)else(R.wl U e (R.I t++[t]),(R.lp e (t+1)).1,(R.lp e (t+1)).2)
def Rg.ex (R:Rg) (U:List Ur) (k y e:Nat):Rat:=if y+R.f<k then R.left U y e else 0
def Rg.exk (R:Rg) (U:List Ur) (t e:Nat) (b:Bool) (y e':Nat):Rat:=if e'<e∨(e'=e∧b=true)then R.ex U (t+1) y e' else R.ex U t y e'
section
variable {R:Rg}{U:List Ur}{N y e e' t k:Nat}{p:Ur→Bool}
open Rg
theorem vI (h:∀u∈U,p u=false):lJ U p=0:=by
 unfold lJ
 rw[List.filter_eq_nil_iff.2 fun u hu=>by rw[h u hu];simp]
 rfl
theorem JV {u:Ur}(h:u∈R.use U y e t):u∈U∨(u.v=y∧u.e=e∧u.y=t):=by
 unfold Rg.use Rg.us at h
 split at h
 ·rcases List.mem_append.1 h with h | h
  ·exact .inl h
  rw[List.mem_singleton]at h
  subst h
  exact .inr ⟨rfl,rfl,rfl⟩
 exact .inl h
theorem Ku {u:Ur}:∀(L:List (Nat×Nat)) (V:List Ur),u∈L.foldl (fun U p=>R.use U p.1 p.2 t) V→u∈V∨∃p∈L,u.v=(p.1:Int)∧u.e=(p.2:Int)∧u.y=t
 | [],V,h=>.inl h
 | p::L,V,h=>by
  rw[List.foldl_cons]at h
  rcases Ku L _ h with h | ⟨q,hq,h⟩
  ·rcases JV h with h | h
   ·exact .inl h
   exact .inr ⟨p,List.mem_cons_self ..,h⟩
  exact .inr ⟨q,List.mem_cons_of_mem _ hq,h⟩
theorem zO {u:Ur}:∀{k:Nat},u∈R.run k→∃y e t:Nat,u.v=y∧u.e=e∧u.y=t∧y<t∧t<k∧R.may t (y,e)=true∧e<R.E
 | 0,h=>by cases h
 | k+1,h=>by
  rcases Ku _ _ h with h | ⟨p,hp,h1,h2,h3⟩
  ·obtain⟨y,e,t,h1,h2,h3,h4,h5,h6⟩:=zO (k:=k) h
   exact⟨y,e,t,h1,h2,h3,h4,by omega,h6⟩
  rw[List.mem_filter,fT]at hp
  exact⟨p.1,p.2,k,h1,h2,h3,hp.1.1,by omega,hp.2,hp.1.2.1⟩
theorem Fh (h:k≤y+1):cS (R.run k) y e=0:=vI fun u hu=>by
 obtain⟨y',e',t',h1,h2,h3,h4,h5,_⟩:=zO hu
 have:decide (u.v=(y:Int))=false:=decide_eq_false (by omega)
 simp[this]
theorem Kv (h:k≤y+1):R.left (R.run k) y e=R.los y e:=by
 unfold Rg.left
 rw[Fh h]
 grind
theorem Qa (h:k≤y):cV (R.run k) y=0:=vI fun u hu=>by
 obtain⟨y',e',t',h1,h2,h3,h4,h5,_⟩:=zO hu
 exact decide_eq_false (by omega)
theorem Qb {e:Int}(h:k≤y):dP (R.run k) y e=0:=vI fun u hu=>by
 obtain⟨y',e',t',h1,h2,h3,h4,h5,_⟩:=zO hu
 have:decide (u.y=(y:Int))=false:=decide_eq_false (by omega)
 simp[this]
theorem Wz (h:R.may t (y,e)=false):R.left (R.step U t) y e=R.left U y e:=by
 unfold Rg.step
 exact vJ (p:=(y,e)) _ _ fun hm=>by
  have:=(List.mem_filter.1 hm).2
  rw[h]at this
  cases this
theorem Kw:R.ex (R.step U t) t=R.ex U t:=by
 funext y e
 unfold Rg.ex
 by_cases h:y+R.f<t
 ·rw[if_pos h,if_pos h]
  refine Wz ?_
  unfold Rg.may
  have:decide (t≤y+R.f)=false:=decide_eq_false (by omega)
  simp[this]
 rw[if_neg h,if_neg h]
theorem Xa (h:t≤y):R.ex U t y e=0:=if_neg (by omega)
theorem GS:∀{t:Nat},(R.lp e t).2=true→(R.lp e t).1<(t:Int)
 | 0,h=>by cases h
 | t+1,h=>by
  unfold Rg.lp at h⊢
  cases hv:R.isV t e
  ·rw[hv]at h
   have:=GS (t:=t) h
   show(R.lp e t).1<_
   omega
  show(t:Int)<_
  omega
theorem Bt:R.vlk t 0=R.vl t:=by simp[Rg.vlk]
theorem Qc:R.vlk t R.E=R.vl (t+1):=rfl
theorem Qd (h:R.isV t e=true):R.vlk t (e+1)=R.vlk t e++[(t,e)]:=by
 unfold Rg.vlk
 rw[List.range_succ,List.filter_append,List.filter_cons_of_pos h]
 simp
theorem Xb (h:R.isV t e=false):R.vlk t (e+1)=R.vlk t e:=by
 unfold Rg.vlk
 rw[List.range_succ,List.filter_append,List.filter_cons_of_neg (by simp[h])]
 simp
theorem Xc:R.own1 U t 0=R.own U (R.I t) t:=by
 unfold Rg.own1 Rg.own
 exact List.map_congr_left fun e _=>if_neg (by omega)
theorem CC:R.own1 U t R.E=R.own2 U t 0:=by
 unfold Rg.own1 Rg.own2
 exact List.map_congr_left fun e he=>by rw[if_pos (List.mem_range.1 he),if_neg (by omega)]
theorem CD:R.own2 U t R.E=R.own U (R.I (t+1)) (t+1):=by
 unfold Rg.own2 Rg.own
 exact List.map_congr_left fun e he=>if_pos (List.mem_range.1 he)
theorem Kx (he:e<R.E):dE (R.own1 U t e) e=(R.wl U e (R.I t),(R.lp e t).1,(R.lp e t).2):=by
 have h:=qW (f:=fun e'=>if e'<e then(R.wl U e' (R.I t++[t]),(R.lp e' (t+1)).1,(R.lp e' (t+1)).2)else(R.wl U e' (R.I t),(R.lp e' t).1,(R.lp e' t).2)) (d:=([],0,false)) he
 rw[if_neg (by omega)]at h
 exact h
theorem CE (he:e<R.E):dE (R.own2 U t e) e=(R.wl U e (R.I t++[t]),(R.lp e (t+1)).1,(R.lp e (t+1)).2):=by
 have h:=qW (f:=fun e'=>if e'<e then(R.wl U e' (R.I (t+1)),(R.lp e' (t+1)).1,(R.lp e' (t+1)).2)else(R.wl U e' (R.I t++[t]),(R.lp e' (t+1)).1,(R.lp e' (t+1)).2)) (d:=([],0,false)) he
 rw[if_neg (by omega)]at h
 exact h
theorem gV:(R.own1 U t k).length=R.E:=by simp[Rg.own1]
theorem Bu:(R.own2 U t k).length=R.E:=by simp[Rg.own2]
theorem Ky (he:e<R.E):(R.own1 U t e).set e (R.wl U e (R.I t++[t]),(R.lp e (t+1)).1,(R.lp e (t+1)).2)=R.own1 U t (e+1):=by
 have h:=zN (f:=fun e'=>if e'<e then(R.wl U e' (R.I t++[t]),(R.lp e' (t+1)).1,(R.lp e' (t+1)).2)else(R.wl U e' (R.I t),(R.lp e' t).1,(R.lp e' t).2)) (g:=fun e'=>if e'<e+1 then(R.wl U e' (R.I t++[t]),(R.lp e' (t+1)).1,(R.lp e' (t+1)).2)else(R.wl U e' (R.I t),(R.lp e' t).1,(R.lp e' t).2)) he fun z _ hne=>by
  by_cases h:z<e
  ·rw[if_pos h,if_pos (by omega)]
  rw[if_neg h,if_neg (by omega)]
 rw[if_pos (by omega)]at h
 exact h
theorem CF (he:e<R.E):(R.own2 U t e).set e (R.wl U e (R.I (t+1)),(R.lp e (t+1)).1,(R.lp e (t+1)).2)=R.own2 U t (e+1):=by
 have h:=zN (f:=fun e'=>if e'<e then(R.wl U e' (R.I (t+1)),(R.lp e' (t+1)).1,(R.lp e' (t+1)).2)else(R.wl U e' (R.I t++[t]),(R.lp e' (t+1)).1,(R.lp e' (t+1)).2)) (g:=fun e'=>if e'<e+1 then(R.wl U e' (R.I (t+1)),(R.lp e' (t+1)).1,(R.lp e' (t+1)).2)else(R.wl U e' (R.I t++[t]),(R.lp e' (t+1)).1,(R.lp e' (t+1)).2)) he fun z _ hne=>by
  by_cases h:z<e
  ·rw[if_pos h,if_pos (by omega)]
  rw[if_neg h,if_neg (by omega)]
 rw[if_pos (by omega)]at h
 exact h
theorem Xd:R.wl U e (R.I t++[t])=R.wl U e (R.I t)++if 0<R.left U t e then [((t:Int),R.left U t e)]else []:=by
 rw[JW]
 congr 1
 by_cases h:0<R.left U t e
 ·rw[jK h,if_pos h]
  rfl
 rw[lU h,if_neg h]
 rfl
theorem JX (he:e<R.E) (h0:∀e,R.left U t e=R.los t e) (hv:R.isV t e=false):R.own1 U t (e+1)=R.own1 U t e:=by
 rw[←Ky he]
 have h1:R.wl U e (R.I t++[t])=R.wl U e (R.I t):=by rw[Xd,h0,De hv,if_neg (by grind),List.append_nil]
 have h2:R.lp e (t+1)=R.lp e t:=by
  show(bif R.isV t e then _ else _)=_
  rw[hv]
  rfl
 rw[h1,h2,←Kx he]
 apply List.ext_getElem?
 intro i
 rw[List.getElem?_set]
 split
 ·rename_i hi
  subst hi
  rw[if_pos (by rw[gV];exact he),Ho (by rw[gV];exact he)]
 rfl
theorem OG (hv:R.isV t e=true):R.lp e (t+1)=((t:Int),true):=by
 show(bif R.isV t e then _ else _)=_
 rw[hv]
 rfl
theorem CG:R.exk U t 0 false=R.ex U t:=by
 funext y e
 exact if_neg (by simp)
theorem Kz:R.exk U t e true=R.exk U t (e+1) false:=by
 funext y e'
 unfold Rg.exk
 by_cases h:e'<e∨e'=e
 ·rw[if_pos (by simpa using h),if_pos (.inl (by omega))]
 rw[if_neg (by simpa using h),if_neg (by simp;omega)]
theorem JY (he:e<R.E):R.exk U t R.E false y e=R.ex U (t+1) y e:=if_pos (.inl he)
theorem CH (hI:R.Iv N U) (ht:t<N) (he:e<R.E) (hE:R.wl U e (R.J t)=[]):R.exk U t e false=R.exk U t e true:=by
 funext y e'
 unfold Rg.exk
 by_cases h:e'<e
 ·rw[if_pos (.inl h),if_pos (.inl h)]
 by_cases h2:e'=e
 ·subst h2
  rw[if_neg (by simp),if_pos (by simp)]
  unfold Rg.ex
  by_cases h3:y+R.f<t
  ·rw[if_pos h3,if_pos (by omega)]
  rw[if_neg h3]
  by_cases h4:y+R.f<t+1
  ·rw[if_pos h4]
   have hy:y∈R.J t:=La.2 (by omega)
   have h5:=(hI.v y e' (by omega) he).1.1
   have h6:¬0<R.left U y e':=fun h7=>by
    have:=iQ.2 ⟨y,hy,rfl,h7⟩
    rw[hE]at this
    cases this
   grind
  rw[if_neg h4]
 rw[if_neg (by simp;omega),if_neg (by simp;omega)]
theorem Qe:(R.wl U e (R.J t)).length≤1:=by
 have h1:∀x∈R.wl U e (R.J t),x.1=(t:Int)-(R.f:Int):=fun x hx=>by
  obtain⟨i,hi,rfl,_⟩:=iQ.1 hx
  have:=La.1 hi
  dsimp only
  omega
 have h2:(R.J t).Pairwise (· < ·):=by
  unfold Rg.J
  refine List.Pairwise.filter _ (List.pairwise_append.2 ⟨Tu,List.pairwise_singleton _ _,fun a ha b hb=>?_⟩)
  have:=jX.1 ha
  rw[List.mem_singleton]at hb
  omega
 have h3:=Qf (R:=R) (U:=U) (e:=e) h2
 generalize R.wl U e (R.J t)=L at h1 h3
 match L,h1,h3 with
 | [],_,_=>exact Nat.zero_le _
 | [x],_,_=>exact Nat.le_refl _
 | x::y::L,h1,h3=>
  have h4:=(List.pairwise_cons.1 h3).1 y (List.mem_cons_self ..)
  have h5:=h1 x (List.mem_cons_self ..)
  have h6:=h1 y (List.mem_cons_of_mem _ (List.mem_cons_self ..))
  omega
end
def nM (f:Nat) (ys:List Yr):Rg:=⟨f,(aL ys 0).m.length,fun y e=>nH (aL ys y).m e,fun y e=>(cT (aL ys y).b e).q,fun y=>(aL ys y).l.q⟩
section
variable {y:Yr}{ys:List Yr}{E f t N:Nat}
theorem CI {l:List Bool}(h:l.length=E):(List.range E).map (nH l)=l:=by
 apply List.ext_getElem?
 intro i
 rw[List.getElem?_map]
 by_cases hi:i<E
 ·rw[List.getElem?_range hi]
  simp[nH,show i<l.length by omega]
 rw[List.getElem?_eq_none (by simp;omega),List.getElem?_eq_none (by omega)]
 rfl
theorem OH {l:List Fr4}(h:l.length=E) (hq:∀a∈l,a=Fr4.of a.q):((List.range E).map fun e=>(cT l e).q).map Fr4.of=l:=by
 apply List.ext_getElem?
 intro i
 rw[List.getElem?_map,List.getElem?_map]
 by_cases hi:i<E
 ·rw[List.getElem?_range hi]
  have h1:i<l.length:=by omega
  have h2:cT l i=l[i]:=by simp[cT,h1]
  rw[List.getElem?_eq_getElem h1]
  show some (Fr4.of (cT l i).q)=some l[i]
  rw[h2,←hq l[i] (List.getElem_mem h1)]
 rw[List.getElem?_eq_none (by simp;omega),List.getElem?_eq_none (by omega)]
 rfl
theorem OI (hm:y.m.length=E) (hb:y.b.length=E) (hq:∀a∈y.b,a=Fr4.of a.q) (hl:y.l=Fr4.of y.l.q):dV y=[gE ((List.range E).map (nH y.m)),sQ false (((List.range E).map fun e=>(cT y.b e).q).map Fr4.of)]++(Fr4.of y.l.q).tr false:=by
 rw[CI hm,OH hb hq,←hl]
 rfl
theorem Xe {a:Fr4}(h:a=Fr4.of a.q) (h3:a.len 3):Sz 4 a.q:=by
 unfold Fr4.len at h3
 rw[h]at h3
 exact⟨Nat.le_trans h3.1 (by omega),Nat.le_trans h3.2 (by omega)⟩
theorem JZ (hn:ys.length≤10) (h6:∀y∈ys,y.m.length≤6) (hE:∀y∈ys,y.b.length=(aL ys 0).m.length) (hf:f≤40) (hb:∀y∈ys,∀a∈y.b,a=Fr4.of a.q∧a.len 3) (hl:∀y∈ys,(y.l=Fr4.of y.l.q∧y.l.len 3)∧0≤y.l.q):(nM f ys).Ok ys.length:=by
 refine⟨fun t e ht he=>?_,fun t ht=>?_,fun t ht=>(hl _ (fC ht)).2,hn,?_,hf⟩
 ·have h1:=hE _ (fC ht)
  have h2:e<(aL ys t).b.length:=by rw[h1];exact he
  have h3:=hb _ (fC ht) (cT (aL ys t).b e) (mA h2)
  exact Xe h3.1 h3.2
 ·have h1:=hl _ (fC ht)
  exact Xe h1.1.1 h1.1.2
 cases ys with
 | nil=>exact Nat.zero_le _
 | cons y ys=>exact h6 y (List.mem_cons_self ..)
end
def Rg.cl (R:Rg) (U:List Ur) (n y e:Nat):Rat:=if n≤y+R.f then R.left U y e else 0
def Rg.clk (R:Rg) (U:List Ur) (n q k y e:Nat):Rat:=if e<q∨(e=q∧(((R.wl U q (R.I n)).take k).any fun x=>decide (x.1=(y:Int)))=true)then R.cl U n y e else 0
def Rg.vnE (R:Rg) (n:Nat):List Vn:=R.vns (R.run n) (R.ex (R.run n) n) (R.cl (R.run n) n) (R.vl n)
section
variable {R:Rg}{U:List Ur}{N n q k y e j:Nat}
theorem CJ:R.clk U n 0 0=fun _ _=>0:=by
 funext y e
 unfold Rg.clk
 rw[if_neg (by simp)]
theorem CK:R.clk U n (q+1) 0 y e=if e≤q then R.cl U n y e else 0:=by
 unfold Rg.clk
 by_cases h:e≤q
 ·rw[if_pos h,if_pos (.inl (by omega))]
 rw[if_neg h,if_neg (by simp;omega)]
theorem CL (hI:R.Iv n U) (hk:(R.wl U q (R.I n)).length≤k) (hq:q<R.E) (hy:y<n):R.clk U n q k y e=R.clk U n (q+1) 0 y e:=by
 rw[CK]
 unfold Rg.clk
 rw[List.take_of_length_le hk]
 by_cases h:e<q
 ·rw[if_pos (.inl h),if_pos (by omega)]
 by_cases h2:e=q
 ·subst h2
  rw[if_pos (Nat.le_refl e)]
  split
  ·rfl
  rename_i h3
  have h4:¬((R.wl U e (R.I n)).any fun x=>decide (x.1=(y:Int)))=true:=fun h5=>h3 (.inr ⟨rfl,h5⟩)
  unfold Rg.cl
  split
  ·rename_i h5
   have h6:=(hI.v y e hy hq).1.1
   by_cases h7:0<R.left U y e
   ·exact absurd (List.any_eq_true.2 ⟨((y:Int),R.left U y e),iQ.2 ⟨y,jX.2 ⟨hy,h5⟩,rfl,h7⟩,by simp⟩) h4
   grind
  rfl
 rw[if_neg (by simp;omega),if_neg (by omega)]
theorem CM (he:e<R.E):R.clk U n R.E 0 y e=R.cl U n y e:=if_pos (.inl he)
theorem UA (hk:k<(R.wl U q (R.I n)).length):∃j:Nat,aH (R.wl U q (R.I n)) k=((j:Int),R.left U j q)∧0<R.left U j q∧j<n∧n≤j+R.f:=by
 obtain⟨i,hi,hx,h0⟩:=iQ.1 (mB hk)
 have:=jX.1 hi
 exact⟨i,hx,h0,this.1,this.2⟩
theorem KA (hk:k<(R.wl U q (R.I n)).length) (hx:aH (R.wl U q (R.I n)) k=((j:Int),R.left U j q)) (hj:n≤j+R.f):R.clk U n q (k+1) j q=R.left U j q:=by
 unfold Rg.clk Rg.cl
 rw[kQ hk,hx,if_pos (.inr ⟨rfl,by simp⟩),if_pos hj]
theorem CN (hk:k<(R.wl U q (R.I n)).length) (hx:aH (R.wl U q (R.I n)) k=((j:Int),R.left U j q)) (hne:¬(y=j∧e=q)):R.clk U n q k y e=R.clk U n q (k+1) y e:=by
 unfold Rg.clk
 rw[kQ hk,hx,List.any_append]
 by_cases h:e=q
 ·have h2:¬(j:Int)=(y:Int):=by omega
  have h3:List.any [((j:Int),R.left U j q)] (fun x=>decide (x.1=(y:Int)))=false:=by
   rw[List.any_cons,List.any_nil,Bool.or_false]
   exact decide_eq_false h2
  rw[h3,Bool.or_false]
 simp[h]
theorem Lb {x c x' c':Nat→Nat→Rat}{L:List (Nat×Nat)}(h:∀p∈L,x p.1 p.2=x' p.1 p.2∧c p.1 p.2=c' p.1 p.2):R.vns U x c L=R.vns U x' c' L:=List.map_congr_left fun p hp=>by
 unfold Rg.vn
 rw[(h p hp).1,(h p hp).2]
end
def fD (a:Fr4):Bool:=decide (a.x.length≤3)&&decide (a.y.length≤3)
def lK (y:Yr):Bool:=decide (y.m.length≤6)&&(decide (y.b.length≤6)&&(fD y.l&&y.b.all fD))
def lL (ys:List Yr):Bool:= !(decide (10<ys.length)&&decide (ys.length≤40)|| decide (60<ys.length))&&ys.all lK
theorem Df {a:Fr4}(h:fD a=true):a.len 3:=by
 unfold fD at h
 simp only[Bool.and_eq_true,decide_eq_true_eq]at h
 exact h
theorem Lc {α:Type}{l:List α}{d:α}{p:α→Bool}(h:∀j,j<l.length→p (l.getD j d)=true):l.all p=true:=by
 rw[List.all_eq_true]
 intro x hx
 obtain⟨j,hj,rfl⟩:=List.getElem_of_mem hx
 have:=h j hj
 rwa[List.getD_eq_getElem?_getD,List.getElem?_eq_getElem hj]at this
theorem Qg {y:Yr}{k:Nat}(hk:k<y.b.length) (h:fD (cT y.b k)=false):lK y=false:=by
 have h1:y.b.all fD=false:=by
  rw[List.all_eq_false]
  exact⟨cT y.b k,mA hk,by simp[h]⟩
 unfold lK
 rw[h1]
 simp
theorem Ld {y:Yr}{k:Nat}(hm:y.m.length≤6) (hb:y.b.length≤6) (hl:fD y.l=true) (hk:y.b.length≤k) (h:∀j,j<k→fD (cT y.b j)=true):lK y=true:=by
 unfold lK
 rw[decide_eq_true hm,decide_eq_true hb,hl,Lc (d:=CA) fun j hj=>h j (by omega)]
 rfl
theorem mP {ys:List Yr}{k:Nat}(hk:k<ys.length) (h:lK (aL ys k)=false):lL ys=false:=by
 have h1:ys.all lK=false:=by
  rw[List.all_eq_false]
  exact⟨aL ys k,fC hk,by simp[h]⟩
 unfold lL
 rw[h1]
 simp
theorem CO {ys:List Yr}{k:Nat}(hk:ys.length≤k) (h:∀j,j<k→lK (aL ys j)=true):lL ys= !(decide (10<ys.length)&&decide (ys.length≤40)|| decide (60<ys.length)):=by
 unfold lL
 rw[Lc (d:=GR) fun j hj=>h j (by omega),Bool.and_true]
theorem Le {ys:List Yr}{k:Nat}(hk:ys.length≤k) (h:∀j,j<k→lK (aL ys j)=true) (hl:ys.length≤10∨40<ys.length∧ys.length≤60):lL ys=true:=by
 rw[CO hk h]
 simp only[Bool.not_eq_true',Bool.or_eq_false_iff,Bool.and_eq_false_iff,decide_eq_false_iff_not]
 omega
theorem Bv {ys:List Yr}(h:(10<ys.length∧ys.length≤40)∨60<ys.length):lL ys=false:=by
 unfold lL
 have:(decide (10<ys.length)&&decide (ys.length≤40)|| decide (60<ys.length))=true:=by
  simp only[Bool.or_eq_true,Bool.and_eq_true,decide_eq_true_eq]
  omega
 rw[this]
 rfl
theorem oP {y:Yr}(h:6<y.m.length∨6<y.b.length∨fD y.l=false):lK y=false:=by
 unfold lK
 rcases h with h | h | h
 ·rw[decide_eq_false (show¬y.m.length≤6 by omega)];rfl
 ·rw[decide_eq_false (show¬y.b.length≤6 by omega),Bool.false_and,Bool.and_false]
 rw[h,Bool.false_and,Bool.and_false,Bool.and_false]
theorem vK {ys:List Yr}(h:lL ys=true):(ys.length≤10∨40<ys.length∧ys.length≤60)∧∀y∈ys,y.m.length≤6∧y.b.length≤6∧y.l.len 3∧∀a∈y.b,a.len 3:=by
 unfold lL at h
 simp only[Bool.and_eq_true,Bool.not_eq_true',Bool.or_eq_false_iff,Bool.and_eq_false_iff,decide_eq_false_iff_not,List.all_eq_true]at h
 refine⟨by omega,fun y hy=>?_⟩
 have h2:=h.2 y hy
 unfold lK at h2
 simp only[Bool.and_eq_true,decide_eq_true_eq,List.all_eq_true]at h2
 exact⟨h2.1,h2.2.1,Df h2.2.2.1,fun a ha=>Df (h2.2.2.2 a ha)⟩
structure Agr (R R':Rg) (k:Nat):Prop where
 f:R.f=R'.f
 e:R.E=R'.E
 m:∀y,y<k→R.mem y=R'.mem y
 b:∀y,y<k→R.base y=R'.base y
 l:∀y,y<k→R.lim y=R'.lim y
section
variable {R R':Rg}{U W:List Ur}{k n t y e i:Nat}{p:Ur→Bool}
theorem Hp:∀(a b:List Rat),mC (a++b)=mC a+mC b
 | [],b=>by rw[List.nil_append];show _=0+_;grind
 | x::a,b=>by rw[List.cons_append,Hq,Hp a b,Hq,Rat.add_assoc]
theorem KB:lJ (U++W) p=lJ U p+lJ W p:=by
 unfold lJ
 rw[List.filter_append,List.map_append,Hp]
theorem Lg:∀(L:List (Nat×Nat)) (U:List Ur),∃W,L.foldl (fun U p=>R.use U p.1 p.2 t) U=U++W∧∀u∈W,u.y=(t:Int)∧0<u.n
 | [],U=>⟨[],(List.append_nil U).symm,fun _ h=>(by cases h)⟩
 | p::L,U=>by
  rw[List.foldl_cons]
  obtain⟨W,h1,h2⟩:=Lg L (R.use U p.1 p.2 t)
  rw[h1]
  unfold Rg.use Rg.us
  split
  ·rename_i h
   refine⟨⟨p.1,p.2,t,_⟩::W,by rw[List.append_assoc];rfl,fun u hu=>?_⟩
   rcases List.mem_cons.1 hu with rfl | hu
   ·exact⟨rfl,h⟩
   exact h2 u hu
  exact⟨W,rfl,h2⟩
theorem KC (hk:k≤n):∃W,R.run n=R.run k++W∧∀u∈W,(k:Int)≤u.y:=by
 induction n with
 | zero=>exact⟨[],by rw[show k=0 by omega,List.append_nil],fun _ h=>(by cases h)⟩
 | succ n ih=>
  by_cases h:k=n+1
  ·exact⟨[],by rw[h,List.append_nil],fun _ h=>(by cases h)⟩
  obtain⟨W,h1,h2⟩:=ih (by omega)
  obtain⟨V,h3,h4⟩:=Lg (R:=R) (t:=n) ((R.vl n).filter (R.may n)) (R.run n)
  refine⟨W++V,?_,fun u hu=>?_⟩
  ·show R.step (R.run n) n=_
   unfold Rg.step
   rw[h3,h1,List.append_assoc]
  rcases List.mem_append.1 hu with hu | hu
  ·exact h2 u hu
  have:=(h4 u hu).1
  omega
end
section
variable {ys:List Yr}{f k i:Nat}
end
theorem OJ {T:List (Nat×TI)}{fresh:Bool}{P:Program}{f:FuncId}{fn:Func}{c:Code}{n:Nat}{rv:List ResultVar}{lent given:List Lt}{args:List FV}{R:List Lt→FV→Prop}(hf:P.funcs[f]? =some fn) (hb:fn.body=some c) (hn:fn.ntmps=n) (hrv:fn.results.toList=rv) (hT:cF P T) (hle:Nat.ble args.length n=true)
  (h:∀N M w c0,c0.length=lent.length→WP ⟨P,N,M,w,n,c0⟩ c (bP (jT 0 args)) (aT (lent++given)) (xU ⟨P,N,M,w,n,c0⟩ (pX ⟨P,N,M,w,n,c0⟩ T rv fresh lent R))):qM fresh P f lent given args R:=by
 subst hn hrv
 refine CP hf hb T hT hle ?_
 rintro⟨P',N,M,w,n,c0⟩ rfl rfl h0
 exact(h N M w c0 h0).subQ
theorem Lh {K:List Nat}:∀{a a' b b':List AV},renL K a=some a'→renL K b=some b'→renL K (a++b)=some (a'++b')
 | [],a',b,b',h,h'=>by
  simp only[renL]at h
  injection h with h
  subst h
  exact h'
 | x::a,a',b,b',h,h'=>by
  simp only[List.cons_append,renL]at h⊢
  cases hx:fX K x with
  | none=>rw[hx]at h;simp at h
  | some x'=>
   cases ha:renL K a with
   | none=>rw[hx,ha]at h;simp at h
   | some a2=>
    rw[hx,ha]at h
    rw[Lh ha h']
    simp at h⊢
    rw[←h]
    rfl
theorem Hr {n:Nat}:∀{a b:List AV},refCs n a=true→refCs n b=true→refCs n (a++b)=true
 | [],b,_,h'=>h'
 | x::a,b,h,h'=>by
  simp only[List.cons_append,refCs,Bool.and_eq_true]at h⊢
  exact⟨h.1,Hr h.2 h'⟩
theorem OK {K0:List Nat}{o:Option Ob}{t z:Nat}{trs:List Tr}{l l':List AV}(h:o=some ⟨t,z,trs.map .t++l'⟩) (hl:renL K0 l=some l'):Bb K0 o ⟨t,z,trs.map .t++l⟩:=⟨_,Lh (Jf trs) hl,h⟩
section
variable {x:Cx}{g g':Nat→FV}{ob ob':List (Option Ob)}{Q:Post}{ops:Array Oper}{rest:List Oper}{d:Nat}{op:Op}{ty:TypeId}{pos:String}{af:Array Edge}{gd:Option (Nat×Bool)}
theorem ZT {late:Nat→Bool}{K fr:List Nat}{fuel:Nat}{listed:Array Bool}{fresh:Bool}{f:FuncId}{args:List FV}{r v:FV}{os:List Ob}{aa:Array Operand}{ats:Array TypeId}(key i:Nat) (hi:ops[i]? =some ⟨some d,.call ⟨.value (.func f),aa,ats⟩,ty,pos,af,gd⟩) (hS:aF fresh x.P f [] args (aU r)) (hf:CallOk x.P f) (ha:AL fresh x g ob aa.toList args) (k:WD x ops Q late K (d::fr) true fuel (listed.setIfInBounds i true) (bC g d v) (ob++os.map some)) (hw:bF ops x.n g gd=some true:=by rfl) (hk:dS ob key=true:=by rfl) (hb:iZ key r=some (v,os):=by rfl) (hK:GU K ob=true:=by rfl):WO x ops Q late K fr true fuel listed i g ob:=
 Fi (v:=v) i hi rfl hw (Bw hS hf ha hk (by rintro _ rfl;rw[hb];rfl)) (by
  rintro _ _ ⟨r',v',os',rfl,h,rfl,rfl⟩
  rw[hb]at h
  injection h with h
  injection h with h1 h2
  subst h1 h2
  exact⟨rfl,fun k hk'=>Qh (o:=none) hK k hk'⟩) (by
  rintro _ _ ⟨r',v',os',rfl,h,rfl,rfl⟩
  rw[hb]at h
  injection h with h
  injection h with h1 h2
  subst h1 h2
  exact k)
theorem Xf {fresh:Bool}{f:FuncId}{args:List FV}{R:List Lt→FV→Prop}{lent given:List Lt}{K K1 K2:List Nat}{aa:Array Operand}{ats:Array TypeId}{cf:Operand}{key:Nat}{c1 c2:AV}(s1 s2:Nat) (hS:qM fresh x.P f lent given args R) (hKK:K=K1++K2) (hl1:lent.length=K1.length) (hf:CallOk x.P f) (hc:lk x.n g cf=.one (.fn f [] [c1,c2])) (h1:g s1=.any) (h2:g s2=.any) (hs1:Nat.blt s1 x.n=true) (hs2:Nat.blt s2 x.n=true) (hne:Nat.beq s1 s2=false) (hop:∀o∈aa.toList,o≠.tmp s1∧o≠.tmp s2)
  (hK:dW ob K K (lent++given)) (hnd:K.Nodup) (ha:jE x.n (bC (bC g s1 (.one c1)) s2 (.one c2)) K (aa.toList++[.tmp s1,.tmp s2]) args) (hk:dS ob key=true) (hb:∀l r,R l r→l.length=K1.length→(iZ key r).isSome=true∧∃ok,dN K1 l ok):
  OS x ⟨some d,.call ⟨.value cf,aa,ats⟩,ty,pos,af,gd⟩ g ob K (fun g' ob'=>∃l r v os ok,R l r∧l.length=K1.length∧iZ key r=some (v,os)∧dN K1 l ok∧g'=bC g d v∧ob'=aX ob K (ok++bB K2)++os.map some):=by
 intro cs ts W hR K' Q kk
 have hs1:s1<x.n:=by simpa[Nat.blt,Nat.lt_iff_add_one_le]using hs1
 have hs2:s2<x.n:=by simpa[Nat.blt,Nat.lt_iff_add_one_le]using hs2
 have hne9:s1≠s2:=fun e=>by subst e;simp at hne
 have hcv:=hR.lk cf
 rw[hc]at hcv
 simp only[bJ,bV,AR]at hcv
 obtain⟨us,vs,e0,hu,hv⟩:=hcv
 simp only[ARL]at hu
 subst hu
 obtain⟨v1,v2,rfl,hv1,hv2⟩:∃v1 v2,vs=[v1,v2]∧AR W (x.fr W ob cs) cs c1 v1∧AR W (x.fr W ob cs) cs c2 v2:=by
  match vs,hv with
  | [v1,v2],h=>simp only[ARL]at h;exact⟨v1,v2,rfl,h.1,h.2.1⟩
  | [],h=>simp only[ARL]at h
  | [v1],h=>simp only[ARL]at h;exact h.2.elim
  | v1::v2::v3::vs,h=>simp only[ARL]at h;exact absurd h.2.2 (by simp)
 have hsz:=hR.1
 have hR':=(hR.put s1 (v:=.one c1) (u:=v1) (iG hv1)).put s2 (v:=.one c2) (u:=v2) (iG hv2)
 have ev:∀o:Operand,o≠.tmp s1→o≠.tmp s2→Act.eval ⟨(ts.setIfInBounds s1 v1).setIfInBounds s2 v2,[]⟩ o=Act.eval ⟨ts,[]⟩ o:=by
  intro o h3 h4
  cases o with
  | tmp t=>
   have q1:s1≠t:=fun e=>h3 (by rw[e])
   have q2:s2≠t:=fun e=>h4 (by rw[e])
   simp[Act.eval,Array.getElem?_setIfInBounds_ne q1,Array.getElem?_setIfInBounds_ne q2]
  | _=>rfl
 have e3:(aa.toList++[Operand.tmp s1,.tmp s2]).map (Act.eval ⟨(ts.setIfInBounds s1 v1).setIfInBounds s2 v2,[]⟩)=aa.toList.map (Act.eval ⟨ts,[]⟩)++[v1,v2]:=by
  rw[List.map_append]
  congr 1
  ·exact List.map_congr_left fun o ho=>ev o (hop o ho).1 (hop o ho).2
  have q1:s1<ts.size:=by omega
  have q2:s2<ts.size:=by omega
  have a1:((ts.setIfInBounds s1 v1).setIfInBounds s2 v2)[s1]? =some v1:=by rw[Array.getElem?_setIfInBounds_ne (Ne.symm hne9),Array.getElem?_setIfInBounds_self_of_lt q1]
  have a2:((ts.setIfInBounds s1 v1).setIfInBounds s2 v2)[s2]? =some v2:=Array.getElem?_setIfInBounds_self_of_lt (by rw[Array.size_setIfInBounds];exact q2)
  simp[Act.eval,a1,a2]
 have e:cK []++args++cK []=args:=by simp[cK]
 unfold Oper.wp
 rw[jP hf e0]
 have hC:=Dg (fst:=[]) (caps:=[]) (fus:=[]) (cus:=[]) (by rw[e];exact hS) hKK hl1 hK hnd ha (by simp[FRL]) (by simp[FRL]) hR'
 rw[e3]at hC
 simp only[List.nil_append,List.append_nil]at hC⊢
 refine hC.mono fun e W' hE=>?_
 obtain⟨v,lent',r,ys,cl,N2,rfl,hr,hl1,hl2,hro,hok,hndy,fin⟩:=hE
 obtain⟨hb1,ok,hbk⟩:=hb _ r hr hl1
 obtain⟨⟨v',os⟩,hbn⟩:=Option.isSome_iff_exists.1 hb1
 obtain⟨csn,e1,e2,e3,e4⟩:=xV (Jg hbn hro) hok hbn
 obtain⟨hN,hfin⟩:=fin ok hbk os csn e1 (fun b=>by rw[e2];exact Nat.le_refl _) e3
 have hk:=Nat.eq_of_beq_eq_true hk
 have hpl:(cB cs K (cl++K2.map (co cs))).length=key:=by rw[fO,←hR.len,hk]
 obtain⟨g1,g2⟩:=e4 _ (cB cs K (cl++K2.map (co cs))++csn) hN (by simp[hpl,e1]) (fun i _=>by
  rw[Fj (by omega),hpl,show key+i-key=i by omega])
 obtain⟨m1,m2⟩:=hfin g2
 have m3:RelC x g (aX ob K (ok++bB K2)++os.map some) (cB cs K (cl++K2.map (co cs))++csn) ts W':=by
  refine m1.re hsz fun i hi=>?_
  by_cases q1:i=s1
  ·subst q1
   exact⟨ts[i]'(by omega),Array.getElem?_eq_getElem _,by rw[h1];trivial⟩
  by_cases q2:i=s2
  ·subst q2
   exact⟨ts[i]'(by omega),Array.getElem?_eq_getElem _,by rw[h2];trivial⟩
  obtain⟨u,u1,u2⟩:=m1.fv hi
  rw[Array.getElem?_setIfInBounds_ne (Ne.symm q2),Array.getElem?_setIfInBounds_ne (Ne.symm q1)]at u1
  have b1:Nat.beq i s1=false:=by
   cases h:Nat.beq i s1
   ·rfl
   exact absurd (Nat.eq_of_beq_eq_true h) q1
  have b2:Nat.beq i s2=false:=by
   cases h:Nat.beq i s2
   ·rfl
   exact absurd (Nat.eq_of_beq_eq_true h) q2
  simp only[bC,b1,b2,cond_false]at u2
  exact⟨u,u1,u2⟩
 have m4:=m2 (some d)
 refine kk _ _ _ _ _ ⟨lent',r,v',os,ok,hr,hl1,hbn,hbk,rfl,rfl⟩ (m3.put d g1) ?_
 have m5:Aft K (some d) ob cs ts W (aX ob K (ok++bB K2)++os.map some) (cB cs K (cl++K2.map (co cs))++csn) ts W':=⟨m4.1,m4.2,m4.3,m4.4,m4.5,fun _ _=>rfl⟩
 exact m5.then_put v
theorem UB {late:Nat→Bool}{K fr:List Nat}{fuel:Nat}{listed:Array Bool}{fresh:Bool}{f:FuncId}{lent lent' given:List Lt}{args:List FV}{r v:FV}{os:List Ob}{cf:Operand}{aa:Array Operand}{ats:Array TypeId}{c1 c2:AV}(i key s1 s2:Nat) (Kl K1 K2:List Nat) (hi:ops[i]? =some ⟨some d,.call ⟨.value cf,aa,ats⟩,ty,pos,af,gd⟩) (hS:qM fresh x.P f lent given args (Rt lent' r)) (hf:CallOk x.P f) (hc:lk x.n g cf=.one (.fn f [] [c1,c2])) (h1:g s1=.any) (h2:g s2=.any) (hK:dW ob Kl Kl (lent++given)) (ha:jE x.n (bC (bC g s1 (.one c1)) s2 (.one c2)) Kl (aa.toList++[.tmp s1,.tmp s2]) args){ok:List (Option Ob)}(hbk:dN K1 lent' ok) (hke:jG ob (aX ob Kl (ok++bB K2)++os.map some) K) (k:WD x ops Q late K (d::fr) true fuel (listed.setIfInBounds i true) (bC g d v) (aX ob Kl (ok++bB K2)++os.map some)) (hl1:lent.length=K1.length:=by rfl) (hKK:Kl=K1++K2:=by rfl) (hr:Region.ready .any ops listed=[i]:=by kernel_rfl) (hw:bF ops x.n g gd=some true:=by rfl) (hk:dS ob key=true:=by rfl) (hnd:Kl.Nodup:=by decide) (hdis:∀k∈K,k∉Kl:=by decide) (hb:iZ key r=some (v,os):=by rfl) (hs1:Nat.blt s1 x.n=true:=by rfl) (hs2:Nat.blt s2 x.n=true:=by rfl) (hne:Nat.beq s1 s2=false:=by rfl) (hop:∀o∈aa.toList,o≠.tmp s1∧o≠.tmp s2:=by simp):
  WD x ops Q late K fr true (fuel+1) listed g ob:=by
 refine WO.one hr (Dh i hi rfl hw (Xf s1 s2 hS hKK hl1 hf hc h1 h2 hs1 hs2 hne hop hK hnd ha hk (by rintro _ _ ⟨rfl,rfl⟩ _;exact⟨by rw[hb];rfl,ok,hbk⟩)) hdis ?_ ?_)
 ·rintro _ _ ⟨l,r',v',os',ok',⟨rfl,rfl⟩,_,h,h9,rfl,rfl⟩
  obtain rfl:=jQ hbk h9
  rw[hb]at h
  injection h with h
  injection h with h1 h2
  subst h1 h2
  exact⟨⟨_,rfl⟩,fU hke⟩
 rintro _ _ ⟨l,r',v',os',ok',⟨rfl,rfl⟩,_,h,h9,rfl,rfl⟩
 obtain rfl:=jQ hbk h9
 rw[hb]at h
 injection h with h
 injection h with h1 h2
 subst h1 h2
 exact k
end
theorem tU (us:List Ur) (o:Bool):((us.flatMap (eB o)).map AV.t).length=us.length*7:=by rw[List.length_map,aZ (dU o)]
theorem Di {A B:List AV}{n i:Nat}(h:A.length=n):(A++B)[n+i]? =B[i]? :=by rw[List.getElem?_append_right (by omega),h,show n+i-n=i by omega]
theorem Dj {A B:List AV}{n i:Nat}{a:AV}(h:A.length=n):(A++B).set (n+i) a=A++B.set i a:=by rw[List.set_append_right _ _ (by omega),h,show n+i-n=i by omega]
theorem CQ (us:List Ur) (u:Ur):(us.flatMap (eB true)).map AV.t++(eB true u).map .t=((us++[u]).flatMap (eB true)).map .t:=by simp[List.flatMap_append]
theorem CS (xs:List Vn) (x:Vn):(xs.flatMap (bZ true)).map AV.t++(bZ true x).map .t=((xs++[x]).flatMap (bZ true)).map .t:=by simp[List.flatMap_append]
theorem zP (xs:List Vn) (o:Bool):((xs.flatMap (bZ o)).map AV.t).length=xs.length*18:=by rw[List.length_map,aZ (cJ o)]
theorem sM:∀a b:List Tr,rdTL (a++b)=rdTL a++rdTL b:=by
 intro a b
 induction a with
 | nil=>rfl
 | cons x a ih=>simp only[List.cons_append,rdTL,ih]
theorem qN {α:Type}{f g:α→List Tr}(h:∀x,rdTL (f x)=g x) (xs:List α):rdTL (xs.flatMap f)=xs.flatMap g:=by
 induction xs with
 | nil=>rfl
 | cons x xs ih=>rw[List.flatMap_cons,sM,ih,h,List.flatMap_cons]
theorem Qi (l:List Nat):rdTL (aI l)=aI l:=by
 induction l with
 | nil=>rfl
 | cons x l ih=>simp only[aI,List.map_cons,rdTL,mQ]at ih⊢;rw[ih]
theorem tV (o:Bool) (a:Fr4):rdTL (a.tr o)=a.tr false:=by simp[Fr4.tr,sU,rdTL,mQ,Qi]
theorem xW (o:Bool) (xs:List Vn):rdTL (xs.flatMap (bZ o))=xs.flatMap (bZ false):=qN (fun v=>by
 unfold bZ
 rw[rdTL,rdTL,sM,sM,sM,tV,tV,tV,tV]
 rfl) xs
theorem Li (o:Bool) (xs:List Ur):rdTL (xs.flatMap (eB o))=xs.flatMap (eB false):=qN (fun u=>by
 unfold eB
 rw[rdTL,rdTL,rdTL,tV]
 rfl) xs
theorem CT {B:Nat}:∀{l:List Rat},(∀q∈l,Sz B q)→Sz (2+l.length*(B+1)) (mC l):=fun{l} h=>by
 have key:∀(l:List Rat) (p:Rat) (m:Nat),Sz m p→(∀q∈l,Sz B q)→Sz (m+l.length*(B+1)) (l.foldl (· + ·) p):=by
  intro l
  induction l with
  | nil=>intro p m hp _;simpa using hp
  | cons q l ih=>
   intro p m hp hl
   have h1:=ih (p+q) (m+B+1) (xX hp (hl q (List.mem_cons_self ..))) fun z hz=>hl z (List.mem_cons_of_mem _ hz)
   rw[List.foldl_cons,List.length_cons,Nat.add_mul,Nat.one_mul]
   exact h1.mono (by omega)
 exact key l 0 2 ((xY (z:=0) (by omega) (by omega)).mono (by omega)) h
section
variable {R:Rg}{U W:List Ur}{N n k t y e:Nat}
theorem Lj {M:Nat}(h:2≤M):Sz M (0:Rat):=(xY (z:=0) (by omega) (by omega)).mono h
theorem Jh (hO:R.Ok n) (hI:R.Iv n U) (hy:y<n) (he:e<R.E):Sz 300 (R.ex U k y e):=by
 unfold Rg.ex
 split
 ·exact hI.sz_left hO hy he
 exact Lj (by omega)
theorem UC (hO:R.Ok n) (hI:R.Iv n U) (hy:y<n) (he:e<R.E):Sz 300 (R.cl U k y e):=by
 unfold Rg.cl
 split
 ·exact hI.sz_left hO hy he
 exact Lj (by omega)
theorem Qj (hO:R.Ok N):∀{n:Nat},n≤N→∀u∈R.run n,Sz 300 u.n
 | 0,_,u,h=>by cases h
 | n+1,hn,u,h=>by
  have key:∀(L:List (Nat×Nat)) (V:List Ur),R.Iv N V→(∀u∈V,Sz 300 u.n)→(∀p∈L,p.1<N∧p.2<R.E)→∀u∈L.foldl (fun U p=>R.use U p.1 p.2 n) V,Sz 300 u.n:=by
   intro L
   induction L with
   | nil=>intro V _ h _;exact h
   | cons p L ih=>
    intro V hI hV hL
    have h1:=hL p (List.mem_cons_self ..)
    refine ih _ (hI.use h1.1 h1.2 (by omega)) (fun u hu=>?_) fun q hq=>hL q (List.mem_cons_of_mem _ hq)
    dsimp only at hu
    unfold Rg.use at hu
    by_cases h0:0<aJ (R.left V p.1 p.2) [R.room V p.2 n]
    ·rw[kP h0]at hu
     rcases List.mem_append.1 hu with hu | hu
     ·exact hV u hu
     rw[List.mem_singleton]at hu
     subst hu
     refine hO.sz (Rat.le_of_lt h0) ?_ ((hI.v _ _ h1.1 h1.2).2.min (Lk hI h1.2 (by omega)))
     exact Rat.le_trans (oR _ _) (Rat.le_trans (hI.v _ _ h1.1 h1.2).1.2 (hO.los_le h1.1 h1.2))
    rw[vL h0]at hu
    exact hV u hu
  exact key _ _ (hO.run (by omega)) (Qj hO (n:=n) (by omega)) (fun p hp=>by
   have:=fT.1 (List.mem_filter.1 hp).1
   exact⟨by omega,this.2.1⟩) u h
theorem OL {p:Ur→Bool}{B:Nat}(h:∀u∈U,Sz B u.n):Sz (2+U.length*(B+1)) (lJ U p):=by
 unfold lJ
 refine(CT (B:=B) fun q hq=>?_).mono ?_
 ·obtain⟨u,hu,rfl⟩:=List.mem_map.1 hq
  exact h u (List.mem_filter.1 hu).1
 rw[List.length_map]
 have:=Nat.mul_le_mul (List.length_filter_le p U) (Nat.le_refl (B+1))
 omega
theorem zQ {p:Ur→Bool}{B M:Nat}(h:∀u∈U,Sz B u.n) (hM:2+U.length*(B+1)≤M):Sz M (lJ (U.take k) p):=by
 refine(OL (B:=B) fun u hu=>h u (List.mem_of_mem_take hu)).mono ?_
 have:=Nat.mul_le_mul (show(U.take k).length≤U.length by rw[List.length_take];omega) (Nat.le_refl (B+1))
 omega
theorem base_le {b:Rat}:b≤CU 0 [b]∧0≤CU 0 [b]:=by
 show b≤(if(0:Rat)<b then b else 0)∧0≤(if(0:Rat)<b then b else 0)
 split <;> exact⟨by grind,by grind⟩
end
section
variable {R:Rg}{U V W:List Ur}{N n k t y e:Nat}{p:Nat×Nat}{m:Rat}
end
section
variable {lt:Nat→Nat→Bool}{A B C D:List Nat}{x y j:Nat}
end
end Go.Proofs.YtbbabfkgdnkehaaGreat
