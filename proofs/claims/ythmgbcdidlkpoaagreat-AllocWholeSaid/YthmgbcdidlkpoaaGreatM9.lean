/- Part 9 of a proof: A4 to Ph. -/
import Derived.Test.YthmgbcdidlkpoaaGreatM8
import Derived.Test.YthmgbcdidlkpoaaGreatM7
import Derived.Test.YthmgbcdidlkpoaaGreatM4
set_option maxRecDepth 100000
set_option linter.unusedVariables false
set_option linter.unusedSimpArgs false
namespace Go.Proofs.YthmgbcdidlkpoaaGreat
open Go Go.RowKit
theorem yR {xs:List Nat}(hx:xs.length≤4398046511104):aD false Tryz.prog 132 [] [.one (.t (sI false xs))] (aM (.one (.t (sI false (trim xs))))):=by
 refine bK Tryz.func132 rfl Tryz.ntmps132 rfl aA rfl fun N w c0 h0=>?_
 refine sq ?_;refine rl ?_;refine o1 ?_;refine nl ?_;refine sq ?_;refine bl ?_
 refine lp (γ:=List Nat) (fun zs=>cG [(0,.one (.t (sI false zs)))]) (fun _=>([]:List Ob).map some) (fun zs=>trim zs=trim xs∧zs.length≤xs.length) (fun zs=>zs.length) xs ⟨rfl,Nat.le_refl _⟩ (aJ h0 [] _ _ (by decide) ⟨rfl,trivial⟩ rfl) fun zs hz=>?_
 refine sq ?_;refine sq ?_;refine rl ?_;(iterate 4 refine o1 ?_);refine WL.split (t:=6) rfl (fun h1=>?_) (fun h1=>?_)
 ·(iterate 4 refine o1 ?_);refine WL.cast (t:=10) (u':=.int .i64 ((zs.length-1:Nat):Int)) rfl (aL (by omega)) ?_
  refine o1 ?_;refine fQ ([.v (.int .i64 ((nth zs (zs.length-1):Nat):Int))]) (eG zs (k:=zs.length-1) (by omega)) ?_
  refine o1 ?_;refine o1 ?_;refine nl ?_;refine bU rfl (fun h2=>?_) (fun h2=>?_)
  ·refine sk ?_;refine bl ?_;refine rl ?_;(iterate 4 refine o1 ?_);refine WL.cast (t:=18) (u':=.int .i64 ((zs.length-1:Nat):Int)) rfl (aL (by omega)) ?_
   refine o1 ?_;refine o1 ?_;refine nl ?_
   exact⟨zs.take (zs.length-1),by rw[List.length_take];omega,⟨(by rw[sJ (xs:=zs) (k:=zs.length) (by omega) (Nat.le_refl _) (by omega),List.take_length];exact hz.1),by rw[List.length_take];omega⟩,aJ h0 [] _ _ (by decide) ⟨congrArg some (Qt (by omega)).symm,trivial⟩ rfl⟩
  refine ex ?_;refine sq ?_;refine rl ?_;refine o1 ?_;refine o1 ?_;refine nl ?_;refine rt ?_;refine en (.inl rfl) rfl (aP (.one (.id rfl))) (by decide) (fun h=>by cases h) ?_
  have hx:trim xs=zs:=by
   rw[←hz.1];have h9:=oH (xs:=zs) (k:=zs.length) (by omega) (Nat.le_refl _) (by omega)
   rwa[List.take_length]at h9
  rw[hx];rfl
 (iterate 7 refine eO ?_);refine o1 ?_;refine nl ?_;refine gQ rfl ?_;refine ex ?_;refine sq ?_;refine rl ?_;refine o1 ?_;refine o1 ?_;refine nl ?_;refine rt ?_
 refine en (.inl rfl) rfl (aP (.one (.id rfl))) (by decide) (fun h=>by cases h) ?_
 have hx:trim xs=zs:=by
  have h9:zs=[]:=List.eq_nil_of_length_eq_zero (by omega)
  rw[←hz.1,h9];rfl
 rw[hx];rfl
theorem kS {xs:List Nat}(hx:xs.length≤1099511627776) (hl:Lim 4294967296 xs):aD false Tryz.prog 109 [] [.one (.t (sU false xs))] (aM (.one (.t (sI false (dg 65536 (vl 4294967296 xs)))))):=by
 refine bK Tryz.func109 rfl Tryz.ntmps109 rfl aA rfl fun N w c0 h0=>?_
 refine sq ?_;refine rl ?_;refine o1 ?_;refine nl ?_;refine sq ?_;refine rl ?_;refine o1 ?_;refine nl ?_;refine sq ?_;refine sq ?_;refine rl ?_;refine o1 ?_;refine nl ?_;refine bl ?_
 refine lp (γ:=Nat) (fun k=>cG [(0,.one (.t (sU false xs))),(3,.one (.sl 0 0 (2*k))),(4,.one (tv (.int .i64 ((k:Nat):Int))))]) (fun k=>[(⟨3,1,(cE (hv (xs.take k))).map .t⟩:Ob)].map some) (fun k=>k≤xs.length) (fun k=>xs.length-k) 0 (Nat.zero_le _) ((nr (i:=3) 0 3 1 rfl rfl rfl rfl).trans (aJ h0 [0] _ _ (by decide) ⟨rfl,rfl,rfl,trivial⟩ ⟨bJ (l:=[]) rfl,rfl⟩)) fun k hk=>?_
 have hn:=hl.nth (by omega) k
 refine sq ?_;refine sq ?_;refine rl ?_;(iterate 4 refine o1 ?_);refine nl ?_;refine bU rfl (fun h1=>?_) (fun h1=>?_)
 ·refine sk ?_;refine sq ?_;refine bl ?_;refine rd [] (fun i=>[15].contains i) mixed ?_
  refine dv 0 ?_;refine dv 1 ?_;refine dv 2 ?_;refine dv 3 ?_;refine iE 4 ([.v (.int .u32 ((nth xs (k):Nat):Int))]) (mI xs (k:=k) (by omega)) ?_
  refine dv 5 ?_;refine WD.cast (t:=16) (u':=.int .u32 ((nth xs k%65536:Nat):Int)) rfl (aL (jF _ 65536)) ?_;refine dv 6 ?_;refine dv 7 ?_;refine dv 8 ?_;refine dv 9 ?_
  refine iE 10 ([.v (.int .u32 ((nth xs (k):Nat):Int))]) (mI xs (k:=k) (by omega)) ?_
  refine dv 11 ?_ (hC:=(fX 65536 (by omega) (by simp only[fT];omega)))
  refine WD.cast (t:=22) (u':=.int .u32 ((nth xs k/65536:Nat):Int)) rfl (aL (eM _ 65536)) ?_;refine dv 12 ?_;refine sS (key:=1) 13 (by kernel_rfl) rfl rfl aA rfl trivial ?_
  refine Wt (j:=2) 14 rfl aA rfl rfl rfl (.sl rfl (by rw[List.length_map,fG,oE,List.length_take];omega)) (.sl rfl rfl rfl) rfl rfl (by omega) (by omega) rfl rfl (by kernel_rfl) rfl ?_
  refine dF 15 (by kernel_rfl) rfl rfl aA rfl (by trivial) ?_ (fun h=>by first | rfl | cases h)
  refine aO ?_;refine rl ?_;(iterate 3 refine o1 ?_);refine nl ?_
  exact⟨k+1,by omega,by omega,aJ h0 [2] _ _ (by decide) ⟨rfl,rfl,rfl,trivial⟩ ⟨kK rfl (fH _ [nth xs k%65536,nth xs k/65536]) (Kb (by omega)).symm,rfl⟩⟩
 refine ex ?_;refine sq ?_;refine rl ?_;refine WL.sub (vV (i:=3) (zs':=hv xs) rfl rfl rfl (by rw[oE,List.length_take];omega) (by rw[List.take_of_length_le (by omega)])) ?_
 refine o1 ?_;refine ca (yR (by rw[oE];omega)) yB ⟨a1 rfl,rfl⟩ (.one (.t (sI false (trim (hv xs))))) ?_
 refine o1 ?_;refine nl ?_;refine rt ?_;exact en (.inl rfl) rfl (aP (.one (.id rfl))) (by decide) (fun h=>by cases h) (by rw[Xj hl];rfl)
theorem sA {xs zs:List Nat}(hx:xs.length≤4398046511104) (hl:Lim 65536 xs) (hz:lb xs=zs):aD true Tryz.prog 111 [] [.one (.t (sI false xs))] (aM (.one (.t (sU true zs)))):=by
 refine bK Tryz.func111 rfl Tryz.ntmps111 rfl aA rfl fun N w c0 h0=>?_
 refine sq ?_;refine rl ?_;refine o1 ?_;refine nl ?_;refine sq ?_;refine rl ?_;(iterate 3 refine o1 ?_)
 refine WL.cast (t:=7) (u':=.int .i64 ((xs.length+1:Nat):Int)) rfl (aL (by omega)) ?_
 refine o1 ?_ (hC:=(fX 2 (by omega) (by simp only[fT];omega)))
 refine WL.cast (t:=8) (u':=.int .i64 (((xs.length+1)/2:Nat):Int)) rfl (aL (eM _ 2)) ?_;refine mk (m:=(xs.length+1)/2) 0 (by omega) (Ve _) ?_
 refine o1 ?_;refine nl ?_;refine sq ?_;refine sq ?_;refine rl ?_;refine o1 ?_;refine nl ?_;refine bl ?_
 refine lp (γ:=Nat) (fun k=>cG [(0,.one (.t (sI false xs))),(3,.one (.sl 0 0 ((xs.length+1)/2))),(4,.one (tv (.int .i64 ((k:Nat):Int))))]) (fun k=>[(⟨51,1,(aK (iV xs k ((xs.length+1)/2))).map .t⟩:Ob)].map some) (fun k=>k≤xs.length) (fun k=>xs.length-k) 0 (Nat.zero_le _) (aJ h0 [0] _ _ (by decide) ⟨rfl,rfl,rfl,trivial⟩ ⟨Qu rfl rfl Vc.symm,rfl⟩) fun k hk=>?_
 have hn:=hl.nth (by omega) k
 have hln:=AT (l:=xs) (k:=k) (N:=(xs.length+1)/2) rfl hk
 refine sq ?_;refine sq ?_;refine rl ?_;(iterate 4 refine o1 ?_);refine nl ?_;refine bU rfl (fun h1=>?_) (fun h1=>?_)
 ·refine sk ?_;refine sq ?_;refine bl ?_;refine sq ?_;refine rl ?_;refine o1 ?_;refine o1 ?_;refine WL.cast (t:=17) (u':=.int .i64 ((k%2:Nat):Int)) rfl (aL (jF _ 2)) ?_
  refine o1 ?_;refine nl ?_;refine bU rfl (fun h2=>?_) (fun h2=>?_)
  ·refine rl ?_;refine o1 ?_;refine o1 ?_;refine o1 ?_ (hC:=(fX 2 (by omega) (by simp only[fT];omega)))
   refine WL.cast (t:=21) (u':=.int .i64 ((k/2:Nat):Int)) rfl (aL (eM _ 2)) ?_;(iterate 3 refine o1 ?_)
   refine fQ ([.v (.int .i64 ((nth xs (k):Nat):Int))]) (eG xs (k:=k) (by omega)) ?_
   refine o1 ?_;refine WL.cast (t:=26) (u':=.int .u32 ((nth xs k:Nat):Int)) rfl (aL rfl) ?_;refine o1 ?_
   refine sX (Kj (iV xs k ((xs.length+1)/2)) (k:=k/2) (v:=nth xs k) (by omega)) (Qy (iV xs k ((xs.length+1)/2)) (by omega)) ?_
   refine nl ?_;refine rl ?_;refine o1 ?_;refine o1 ?_;refine WL.cast (t:=15) (u':=.int .i64 ((k+1:Nat):Int)) rfl (aL (by omega)) ?_
   refine o1 ?_;refine nl ?_;exact⟨k+1,by omega,by omega,aJ h0 [0] _ _ (by decide) ⟨rfl,rfl,rfl,trivial⟩ ⟨Qu rfl rfl (Vd rfl (by omega) (by omega)),rfl⟩⟩
  have hnt:=vW (l:=xs) (k:=k) (N:=(xs.length+1)/2) rfl (by omega) (by omega)
  have hb1:=hl.nth (by omega) (k-1)
  refine rd [0] (fun i=>[16].contains i) mixed ?_
  refine dv 0 ?_;refine dv 1 ?_;refine dv 2 ?_ (hC:=(fX 2 (by omega) (by simp only[fT];omega)))
  refine WD.cast (t:=30) (u':=.int .i64 ((k/2:Nat):Int)) rfl (aL (eM _ 2)) ?_;refine dv 3 ?_;refine dv 4 ?_
  refine dv 5 ?_ (hC:=(fX 2 (by omega) (by simp only[fT];omega)))
  refine WD.cast (t:=33) (u':=.int .i64 ((k/2:Nat):Int)) rfl (aL (eM _ 2)) ?_;refine dv 6 ?_;refine Lj 7 (FQ (iV xs k ((xs.length+1)/2)) (k:=k/2) (by omega)) ?_
  refine dv 8 ?_;refine dv 9 ?_;refine dv 10 ?_;refine iE 11 ([.v (.int .i64 ((nth xs (k):Nat):Int))]) (eG xs (k:=k) (by omega)) ?_
  refine dv 12 ?_;refine dv 13 ?_;refine dv 14 ?_
  refine WD.cast (t:=42) (u':=.int .u32 ((nth (iV xs k ((xs.length+1)/2)) (k/2)+65536*nth xs k:Nat):Int)) rfl (aL (by omega)) ?_
  refine dv 15 ?_
  refine Dd 16 (Kj (iV xs k ((xs.length+1)/2)) (k:=k/2) (v:=nth (iV xs k ((xs.length+1)/2)) (k/2)+65536*nth xs k) (by omega)) (Qy (iV xs k ((xs.length+1)/2)) (by omega)) ?_
  refine aO ?_;refine rl ?_;refine o1 ?_;refine o1 ?_;refine WL.cast (t:=15) (u':=.int .i64 ((k+1:Nat):Int)) rfl (aL (by omega)) ?_
  refine o1 ?_;refine nl ?_;exact⟨k+1,by omega,by omega,aJ h0 [0] _ _ (by decide) ⟨rfl,rfl,rfl,trivial⟩ ⟨Qu rfl rfl (AW rfl (by omega) (by omega)),rfl⟩⟩
 refine ex ?_;refine sq ?_;refine rl ?_;refine o1 ?_;refine o1 ?_;refine nl ?_;refine rt ?_
 exact en (.inl rfl) rfl (aP (.one (.sl (trs:=aK (lb xs)) rfl rfl (by rw[AS rfl (by omega),Nat.mul_one,List.take_of_length_le (by simp[fU,gJ])]) (by simp[fU,gJ])))) (by decide) (fun _=>.inl ⟨rfl,eK _⟩) (by subst hz;unfold sU;rw[gJ];rfl)
theorem Gq {xs ys:List Nat}(hx:xs.length≤1099511627776) (hy:ys.length≤1099511627776) (hlx:Lim 65536 xs) (hly:Lim 65536 ys):aD false Tryz.prog 114 [] [.one (.t (sI false xs)),.one (.t (sI false ys))] (aM (.one (.t (sI false (dg 65536 (vl 65536 xs*vl 65536 ys)))))):=by
 refine bK Tryz.func114 rfl Tryz.ntmps114 rfl aA rfl fun N w c0 h0=>?_
 refine sq ?_;refine rl ?_;refine o1 ?_;refine nl ?_;refine sq ?_;refine rl ?_;(iterate 5 refine o1 ?_)
 refine WL.cast (t:=14) (u':=.int .i64 ((xs.length+ys.length:Nat):Int)) rfl (aL (by omega)) ?_
 refine o1 ?_;refine WL.cast (t:=15) (u':=.int .i64 ((xs.length+ys.length+1:Nat):Int)) rfl (aL (by omega)) ?_
 refine mk (m:=xs.length+ys.length+1) 0 (by omega) (Gh _) ?_
 refine o1 ?_;refine nl ?_;refine sq ?_;refine sq ?_;refine rl ?_;refine o1 ?_;refine nl ?_;refine bl ?_
 refine lp (γ:=Nat×List Nat) (fun s=>cG [(0,.one (.t (sI false xs))),(1,.one (.t (sI false ys))),(5,.one (.sl 0 0 (xs.length+ys.length+1))),(6,.one (tv (.int .i64 ((s.1:Nat):Int))))]) (fun s=>[(⟨3,1,(cE s.2).map .t⟩:Ob)].map some) (fun s=>s.1≤xs.length∧Lim 65536 s.2∧s.2.length=xs.length+ys.length+1∧vl 65536 s.2=vl 65536 (xs.take s.1)*vl 65536 ys) (fun s=>xs.length-s.1) (0,List.replicate (xs.length+ys.length+1) 0) ⟨Nat.zero_le _,Lim.replicate (by omega) _,List.length_replicate,by rw[sG];simp[vl]⟩ (aJ h0 [0] _ _ (by decide) ⟨rfl,rfl,rfl,rfl,trivial⟩ ⟨kK rfl rfl rfl,rfl⟩) ?_
 rintro⟨i,os⟩ ⟨hi,hol,hos,hv⟩;dsimp only at hi hol hos hv⊢;refine sq ?_;refine sq ?_;refine rl ?_;(iterate 4 refine o1 ?_);refine nl ?_;refine bU rfl (fun h1=>?_) (fun h1=>?_)
 ·refine sk ?_;refine sq ?_;refine bl ?_;refine sq ?_;refine rl ?_;refine o1 ?_;refine nl ?_;refine sq ?_;refine rl ?_;refine o1 ?_;refine nl ?_;refine bl ?_
  have hil:=hlx.nth (by omega) i
  refine lp (γ:=Nat×Nat×List Nat) (fun s=>cG [(0,.one (.t (sI false xs))),(1,.one (.t (sI false ys))),(5,.one (.sl 0 0 (xs.length+ys.length+1))),(6,.one (tv (.int .i64 ((i:Nat):Int)))),(7,.one (tv (.int .i64 ((s.2.1:Nat):Int)))),(8,.one (tv (.int .i64 ((s.1:Nat):Int))))]) (fun s=>[(⟨3,1,(cE s.2.2).map .t⟩:Ob)].map some) (fun s=>s.1≤ys.length+1∧Lim 65536 s.2.2∧s.2.2.length=xs.length+ys.length+1∧vl 65536 s.2.2+65536^(i+s.1)*s.2.1=vl 65536 (xs.take i)*vl 65536 ys+65536^i*(nth xs i*vl 65536 (ys.take s.1))∧s.2.1≤65535) (fun s=>ys.length+1-s.1) (0,0,os) ⟨Nat.zero_le _,hol,hos,by dsimp only;rw[hv];simp[vl],Nat.zero_le _⟩ (aJ h0 [0] _ _ (by decide) ⟨rfl,rfl,rfl,rfl,rfl,rfl,trivial⟩ ⟨kK rfl rfl rfl,rfl⟩) ?_
  rintro⟨k,cr,os2⟩ ⟨hk,hol2,hos2,hv2,hcb⟩;dsimp only at hk hol2 hos2 hv2 hcb⊢;refine sq ?_;refine sq ?_;refine rl ?_;(iterate 5 refine o1 ?_)
  refine WL.split (t:=27) rfl (fun h2=>?_) (fun h2=>?_)
  ·refine eO ?_;refine eO ?_;refine o1 ?_;refine nl ?_;refine mF rfl ?_;refine sk ?_;refine sq ?_;refine bl ?_;refine sq ?_
   have hkl:k≤ys.length:=by first | omega | exact Gg hlx hly (by omega) hk hv2 (by omega)
   have hon:=hol2.nth (by omega) (i+k)
   have hyn:=hly.nth (by omega) k
   have hmul:=Nat.mul_le_mul (Nat.le_of_lt_succ hil) (Nat.le_of_lt_succ hyn)
   refine rl ?_;(iterate 4 refine o1 ?_);refine WL.cast (t:=36) (u':=.int .i64 ((i+k:Nat):Int)) rfl (aL (by omega)) ?_
   refine o1 ?_;refine Wh (jN os2 (k:=i+k) (by omega)) ?_
   refine o1 ?_;refine o1 ?_;refine WL.cast (t:=40) (u':=.int .i64 ((nth os2 (i+k)+cr:Nat):Int)) rfl (aL (by omega)) ?_
   refine o1 ?_;refine nl ?_;refine sq ?_;refine sq ?_;refine rl ?_;(iterate 4 refine o1 ?_);refine nl ?_;refine bU rfl (fun h3=>?_) (fun h3=>?_)
   ·refine rd [] (fun i=>[11].contains i) mixed ?_
    refine dv 0 ?_;refine dv 1 ?_;refine dv 2 ?_;refine dv 3 ?_;refine iE 4 ([.v (.int .i64 ((nth xs (i):Nat):Int))]) (eG xs (k:=i) (by omega)) ?_
    refine dv 5 ?_;refine dv 6 ?_;refine dv 7 ?_;refine iE 8 ([.v (.int .i64 ((nth ys (k):Nat):Int))]) (eG ys (k:=k) (by omega)) ?_
    refine dv 9 ?_;refine WD.cast (t:=54) (u':=.int .i64 ((nth xs i*nth ys k:Nat):Int)) rfl (aL (Int.natCast_mul _ _).symm) ?_;refine dv 10 ?_
    refine WD.cast (t:=55) (u':=.int .i64 ((nth os2 (i+k)+cr+nth xs i*nth ys k:Nat):Int)) rfl (aL (by omega)) ?_
    refine dF 11 (by kernel_rfl) rfl rfl aA rfl (by trivial) ?_ (fun h=>by first | rfl | cases h)
    refine aO ?_;refine sq ?_;refine rl ?_;(iterate 4 refine o1 ?_);refine WL.cast (t:=59) (u':=.int .i64 ((i+k:Nat):Int)) rfl (aL (by omega)) ?_
    refine o1 ?_;refine o1 ?_;refine WL.cast (t:=61) (u':=.int .i64 (((nth os2 (i+k)+cr+nth xs i*nth ys k)%65536:Nat):Int)) rfl (aL (jF _ 65536)) ?_;refine o1 ?_
    refine sX (iY os2 (k:=i+k) (v:=(nth os2 (i+k)+cr+nth xs i*nth ys k)%65536) (by omega)) (kV os2 (by omega)) ?_
    refine nl ?_;refine rl ?_;refine o1 ?_;refine o1 ?_ (hC:=(fX 65536 (by omega) (by simp only[fT];omega)))
    refine WL.cast (t:=64) (u':=.int .i64 (((nth os2 (i+k)+cr+nth xs i*nth ys k)/65536:Nat):Int)) rfl (aL (eM _ 65536)) ?_;refine o1 ?_;refine nl ?_;refine rl ?_
    refine o1 ?_;refine o1 ?_;refine WL.cast (t:=32) (u':=.int .i64 ((k+1:Nat):Int)) rfl (aL (by omega)) ?_
    refine o1 ?_;refine nl ?_;have hst:=nC (x:=nth os2 (i+k)+cr+nth xs i*nth ys k) (by omega) hv2 (by rfl)
    exact⟨(k+1,(nth os2 (i+k)+cr+nth xs i*nth ys k)/65536,os2.set (i+k) ((nth os2 (i+k)+cr+nth xs i*nth ys k)%65536)),by dsimp only;omega,⟨by dsimp only;omega,hol2.set _ (Nat.mod_lt _ (by omega)),by rw[List.length_set];exact hos2,hst,by dsimp only;omega⟩,aJ h0 [0] _ _ (by decide) ⟨rfl,rfl,rfl,rfl,rfl,rfl,trivial⟩ ⟨kK rfl rfl rfl,rfl⟩⟩
   refine sk ?_;refine sq ?_;refine rl ?_;(iterate 4 refine o1 ?_);refine WL.cast (t:=59) (u':=.int .i64 ((i+k:Nat):Int)) rfl (aL (by omega)) ?_
   refine o1 ?_;refine o1 ?_;refine WL.cast (t:=61) (u':=.int .i64 (((nth os2 (i+k)+cr)%65536:Nat):Int)) rfl (aL (jF _ 65536)) ?_;refine o1 ?_
   refine sX (iY os2 (k:=i+k) (v:=(nth os2 (i+k)+cr)%65536) (by omega)) (kV os2 (by omega)) ?_
   refine nl ?_;refine rl ?_;refine o1 ?_;refine o1 ?_ (hC:=(fX 65536 (by omega) (by simp only[fT];omega)))
   refine WL.cast (t:=64) (u':=.int .i64 (((nth os2 (i+k)+cr)/65536:Nat):Int)) rfl (aL (eM _ 65536)) ?_;refine o1 ?_;refine nl ?_;refine rl ?_;refine o1 ?_;refine o1 ?_
   refine WL.cast (t:=32) (u':=.int .i64 ((k+1:Nat):Int)) rfl (aL (by omega)) ?_
   refine o1 ?_;refine nl ?_;have hny:nth ys k=0:=dQ (by omega)
   have hst:=nC (x:=nth os2 (i+k)+cr) (by omega) hv2 (by rw[hny,Nat.mul_zero,Nat.add_zero])
   exact⟨(k+1,(nth os2 (i+k)+cr)/65536,os2.set (i+k) ((nth os2 (i+k)+cr)%65536)),by dsimp only;omega,⟨by dsimp only;omega,hol2.set _ (Nat.mod_lt _ (by omega)),by rw[List.length_set];exact hos2,hst,by dsimp only;omega⟩,aJ h0 [0] _ _ (by decide) ⟨rfl,rfl,rfl,rfl,rfl,rfl,trivial⟩ ⟨kK rfl rfl rfl,rfl⟩⟩
  (iterate 3 refine o1 ?_);refine nl ?_;refine bU rfl (fun h4=>?_) (fun h4=>?_)
  ·refine sk ?_;refine sq ?_;refine bl ?_;refine sq ?_;have hkl:k≤ys.length:=by first | omega | exact Gg hlx hly (by omega) hk hv2 (by omega)
   have hon:=hol2.nth (by omega) (i+k)
   have hyn:=hly.nth (by omega) k
   have hmul:=Nat.mul_le_mul (Nat.le_of_lt_succ hil) (Nat.le_of_lt_succ hyn)
   refine rl ?_;(iterate 4 refine o1 ?_);refine WL.cast (t:=36) (u':=.int .i64 ((i+k:Nat):Int)) rfl (aL (by omega)) ?_
   refine o1 ?_;refine Wh (jN os2 (k:=i+k) (by omega)) ?_
   refine o1 ?_;refine o1 ?_;refine WL.cast (t:=40) (u':=.int .i64 ((nth os2 (i+k)+cr:Nat):Int)) rfl (aL (by omega)) ?_
   refine o1 ?_;refine nl ?_;refine sq ?_;refine sq ?_;refine rl ?_;(iterate 4 refine o1 ?_);refine nl ?_;refine bU rfl (fun h5=>?_) (fun h5=>?_)
   ·refine rd [] (fun i=>[11].contains i) mixed ?_
    refine dv 0 ?_;refine dv 1 ?_;refine dv 2 ?_;refine dv 3 ?_;refine iE 4 ([.v (.int .i64 ((nth xs (i):Nat):Int))]) (eG xs (k:=i) (by omega)) ?_
    refine dv 5 ?_;refine dv 6 ?_;refine dv 7 ?_;refine iE 8 ([.v (.int .i64 ((nth ys (k):Nat):Int))]) (eG ys (k:=k) (by omega)) ?_
    refine dv 9 ?_;refine WD.cast (t:=54) (u':=.int .i64 ((nth xs i*nth ys k:Nat):Int)) rfl (aL (Int.natCast_mul _ _).symm) ?_;refine dv 10 ?_
    refine WD.cast (t:=55) (u':=.int .i64 ((nth os2 (i+k)+cr+nth xs i*nth ys k:Nat):Int)) rfl (aL (by omega)) ?_
    refine dF 11 (by kernel_rfl) rfl rfl aA rfl (by trivial) ?_ (fun h=>by first | rfl | cases h)
    refine aO ?_;refine sq ?_;refine rl ?_;(iterate 4 refine o1 ?_);refine WL.cast (t:=59) (u':=.int .i64 ((i+k:Nat):Int)) rfl (aL (by omega)) ?_
    refine o1 ?_;refine o1 ?_;refine WL.cast (t:=61) (u':=.int .i64 (((nth os2 (i+k)+cr+nth xs i*nth ys k)%65536:Nat):Int)) rfl (aL (jF _ 65536)) ?_;refine o1 ?_
    refine sX (iY os2 (k:=i+k) (v:=(nth os2 (i+k)+cr+nth xs i*nth ys k)%65536) (by omega)) (kV os2 (by omega)) ?_
    refine nl ?_;refine rl ?_;refine o1 ?_;refine o1 ?_ (hC:=(fX 65536 (by omega) (by simp only[fT];omega)))
    refine WL.cast (t:=64) (u':=.int .i64 (((nth os2 (i+k)+cr+nth xs i*nth ys k)/65536:Nat):Int)) rfl (aL (eM _ 65536)) ?_;refine o1 ?_;refine nl ?_;refine rl ?_
    refine o1 ?_;refine o1 ?_;refine WL.cast (t:=32) (u':=.int .i64 ((k+1:Nat):Int)) rfl (aL (by omega)) ?_
    refine o1 ?_;refine nl ?_;have hst:=nC (x:=nth os2 (i+k)+cr+nth xs i*nth ys k) (by omega) hv2 (by rfl)
    exact⟨(k+1,(nth os2 (i+k)+cr+nth xs i*nth ys k)/65536,os2.set (i+k) ((nth os2 (i+k)+cr+nth xs i*nth ys k)%65536)),by dsimp only;omega,⟨by dsimp only;omega,hol2.set _ (Nat.mod_lt _ (by omega)),by rw[List.length_set];exact hos2,hst,by dsimp only;omega⟩,aJ h0 [0] _ _ (by decide) ⟨rfl,rfl,rfl,rfl,rfl,rfl,trivial⟩ ⟨kK rfl rfl rfl,rfl⟩⟩
   refine sk ?_;refine sq ?_;refine rl ?_;(iterate 4 refine o1 ?_);refine WL.cast (t:=59) (u':=.int .i64 ((i+k:Nat):Int)) rfl (aL (by omega)) ?_
   refine o1 ?_;refine o1 ?_;refine WL.cast (t:=61) (u':=.int .i64 (((nth os2 (i+k)+cr)%65536:Nat):Int)) rfl (aL (jF _ 65536)) ?_;refine o1 ?_
   refine sX (iY os2 (k:=i+k) (v:=(nth os2 (i+k)+cr)%65536) (by omega)) (kV os2 (by omega)) ?_
   refine nl ?_;refine rl ?_;refine o1 ?_;refine o1 ?_ (hC:=(fX 65536 (by omega) (by simp only[fT];omega)))
   refine WL.cast (t:=64) (u':=.int .i64 (((nth os2 (i+k)+cr)/65536:Nat):Int)) rfl (aL (eM _ 65536)) ?_;refine o1 ?_;refine nl ?_;refine rl ?_;refine o1 ?_;refine o1 ?_
   refine WL.cast (t:=32) (u':=.int .i64 ((k+1:Nat):Int)) rfl (aL (by omega)) ?_
   refine o1 ?_;refine nl ?_;have hny:nth ys k=0:=dQ (by omega)
   have hst:=nC (x:=nth os2 (i+k)+cr) (by omega) hv2 (by rw[hny,Nat.mul_zero,Nat.add_zero])
   exact⟨(k+1,(nth os2 (i+k)+cr)/65536,os2.set (i+k) ((nth os2 (i+k)+cr)%65536)),by dsimp only;omega,⟨by dsimp only;omega,hol2.set _ (Nat.mod_lt _ (by omega)),by rw[List.length_set];exact hos2,hst,by dsimp only;omega⟩,aJ h0 [0] _ _ (by decide) ⟨rfl,rfl,rfl,rfl,rfl,rfl,trivial⟩ ⟨kK rfl rfl rfl,rfl⟩⟩
  refine ex ?_;refine rl ?_;refine o1 ?_;refine o1 ?_;refine WL.cast (t:=22) (u':=.int .i64 ((i+1:Nat):Int)) rfl (aL (by omega)) ?_
  refine o1 ?_;refine nl ?_;have hcr0:cr=0:=by omega
  rw[hcr0,Nat.mul_zero,Nat.add_zero,yM (by omega)]at hv2
  exact⟨(i+1,os2),by dsimp only;omega,⟨by dsimp only;omega,hol2,hos2,hv2⟩,aJ h0 [0] _ _ (by decide) ⟨rfl,rfl,rfl,rfl,trivial⟩ ⟨kK rfl rfl rfl,rfl⟩⟩
 refine ex ?_;refine sq ?_;refine rl ?_;rw[bH 65536 (by omega)]at hv
 refine WL.sub (vV (i:=5) (zs':=os) rfl rfl rfl (by omega) rfl) ?_
 refine o1 ?_;refine ca (yR (by omega)) yB ⟨a1 rfl,rfl⟩ (.one (.t (sI false (trim os)))) ?_
 refine o1 ?_;refine nl ?_;refine rt ?_;exact en (.inl rfl) rfl (aP (.one (.id rfl))) (by decide) (fun h=>by cases h) (by rw[Ca (by omega) hol hv];rfl)
theorem jQ {a b:Zi}{k k':Int}(ha:Zn a k) (hb:Zn b k'):aD true Tryz.prog 80 [] [gF a,gF b] (aM (kO (k*k'))):=by
 refine bK Tryz.func80 rfl Tryz.ntmps80 rfl aA rfl fun N w c0 h0=>?_
 have hkl:=ha.len
 have hkl':=hb.len
 refine sq ?_;refine rl ?_;refine bx 0 ?_;refine bx 1 ?_;refine al 2 ?_;refine nl ?_;refine sq ?_;refine rl ?_;refine ld ?_;refine ca (eS ha) lS ⟨aB rfl,rfl⟩ (kF (k)) ?_
 refine st ?_;refine nl ?_;refine sq ?_;refine rl ?_;refine ld ?_;refine ca (eS hb) lS ⟨aB rfl,rfl⟩ (kF (k')) ?_;refine st ?_;refine nl ?_;refine sq ?_
 refine rd [0,1,2] (fun i=>[14].contains i) mixed ?_
 refine dv 0 ?_;refine aX 1 ?_;refine dv 2 ?_;refine aX 3 ?_;refine dv 4 ?_;refine dv 5 ?_;refine aX 6 ?_;refine dv 8 ?_;refine aX 9 ?_
 have hn1:=dL (v:=vl 4294967296 (dg 4294967296 (k).natAbs)) (L:=(dg 4294967296 (k).natAbs).length) (by rw[bO (by omega)];exact Nat.le_refl _)
 refine aI 7 rfl (kS (by omega) (aH (by omega) _)) vB ⟨a1 rfl,rfl⟩ (.one (.t (sI false (dg 65536 (vl 4294967296 (dg 4294967296 (k).natAbs)))))) ?_
 have hn2:=dL (v:=vl 4294967296 (dg 4294967296 (k').natAbs)) (L:=(dg 4294967296 (k').natAbs).length) (by rw[bO (by omega)];exact Nat.le_refl _)
 refine aI 10 rfl (kS (by omega) (aH (by omega) _)) vB ⟨a1 rfl,rfl⟩ (.one (.t (sI false (dg 65536 (vl 4294967296 (dg 4294967296 (k').natAbs)))))) ?_
 have hn3:=uC (xs:=(dg 65536 (vl 4294967296 (dg 4294967296 (k).natAbs)))) (ys:=(dg 65536 (vl 4294967296 (dg 4294967296 (k').natAbs)))) (aH (by omega) _) (aH (by omega) _)
 refine aI 11 rfl (Gq (by omega) (by omega) (aH (by omega) _) (aH (by omega) _)) Wx ⟨a1 rfl,a1 rfl,rfl⟩ (.one (.t (sI false (dg 65536 (vl 65536 (dg 65536 (vl 4294967296 (dg 4294967296 (k).natAbs)))*vl 65536 (dg 65536 (vl 4294967296 (dg 4294967296 (k').natAbs)))))))) ?_
 have hn4:=lJ (vl 65536 (dg 65536 (vl 4294967296 (dg 4294967296 (k).natAbs)))*vl 65536 (dg 65536 (vl 4294967296 (dg 4294967296 (k').natAbs))))
 refine aI 12 rfl (sA (zs:=(dg 4294967296 (vl 65536 (dg 65536 (vl 4294967296 (dg 4294967296 (k).natAbs)))*vl 65536 (dg 65536 (vl 4294967296 (dg 4294967296 (k').natAbs)))))) (by omega) (aH (by omega) _) (vH _)) dY ⟨a1 rfl,rfl⟩ (.one (.t (sU false (dg 4294967296 (vl 65536 (dg 65536 (vl 4294967296 (dg 4294967296 (k).natAbs)))*vl 65536 (dg 65536 (vl 4294967296 (dg 4294967296 (k').natAbs)))))))) ?_
 refine iM 3 13 rfl (iJ (K:=k*k') (by omega) (aH (by omega) _) (by simp only[bO (B:=4294967296) (by omega),bO (B:=65536) (by omega)];exact Jy k k')) cR ⟨a1 rfl,a1 rfl,rfl⟩ ?_
 refine dst 14 ?_;refine aO ?_;refine rt ?_
 exact en (.inl rfl) rfl (aP (.agg (.cons (.id rfl) (.cons (.sl (trs:=aK (dg 4294967296 (k*k').natAbs)) rfl rfl (aV _) (aQ _)) .nil)))) (by decide) (fun _=>dO (k*k')) rfl
theorem BI {u v:Nat}(hx:(dg 65536 (u)).length≤4398046511104) (hy:(dg 65536 (v)).length≤4398046511104):aD true Tryz.prog 142 [] [.one (.t (sI false (dg 65536 u))),.one (.t (sI false (dg 65536 v)))] (aM (.one (tv (.bool (decide (u<v)))))):=by
 refine bK Tryz.func142 rfl Tryz.ntmps142 rfl aA rfl fun N w c0 h0=>?_
 refine sq ?_;refine rl ?_;refine o1 ?_;refine nl ?_;refine sq ?_;refine sq ?_;refine rl ?_;(iterate 5 refine o1 ?_);refine nl ?_;refine bU rfl (fun h1=>?_) (fun h1=>?_)
 ·refine sq ?_;refine rl ?_;(iterate 6 refine o1 ?_);refine nl ?_;refine rt ?_
  refine en (.inl rfl) rfl (aP (cD _)) (by decide) (fun _=>trivial) (congrArg (fun z=>FV.one (tv (.bool z))) ?_)
  exact Uz rfl rfl (by omega)
 refine sk ?_;refine sq ?_;refine sq ?_;refine rl ?_;(iterate 4 refine o1 ?_);refine nl ?_;refine bl ?_
 refine lp (γ:=Nat) (fun k=>cG [(0,.one (.t (sI false (dg 65536 u)))),(1,.one (.t (sI false (dg 65536 v)))),(5,.one (tv (.int .i64 ((k:Nat)-1))))]) (fun k=>([]:List Ob).map some) (fun k=>(∀j,k≤j→nth (dg 65536 (u)) j=nth (dg 65536 (v)) j)∧k≤(dg 65536 (u)).length) (fun k=>k) (dg 65536 (u)).length ⟨fun j hj=>by rw[dQ (by omega),dQ (by omega)],Nat.le_refl _⟩ (aJ h0 [] _ _ (by decide) ⟨rfl,rfl,rfl,trivial⟩ rfl) fun k hk=>?_
 refine sq ?_;refine sq ?_;refine rl ?_;refine o1 ?_;refine o1 ?_;refine nl ?_;refine bU rfl (fun h2=>?_) (fun h2=>?_)
 ·refine sk ?_;refine sq ?_;refine bl ?_;refine sq ?_;refine rd [] (fun i=>[].contains i) mixed ?_
  refine dv 0 ?_;refine dv 1 ?_;refine WD.cast (t:=24) (u':=.int .i64 ((k-1:Nat):Int)) rfl (aL (by omega)) ?_
  refine dv 2 ?_;refine iE 3 ([.v (.int .i64 ((nth (dg 65536 (u)) (k-1):Nat):Int))]) (eG (dg 65536 (u)) (k:=k-1) (by omega)) ?_
  refine dv 4 ?_;refine dv 5 ?_;refine WD.cast (t:=28) (u':=.int .i64 ((k-1:Nat):Int)) rfl (aL (by omega)) ?_
  refine dv 6 ?_;refine iE 7 ([.v (.int .i64 ((nth (dg 65536 (v)) (k-1):Nat):Int))]) (eG (dg 65536 (v)) (k:=k-1) (by omega)) ?_
  refine dv 8 ?_;refine aO ?_;refine bU rfl (fun h3=>?_) (fun h3=>?_)
  ·refine sq ?_;refine rd [] (fun i=>[9].contains i) mixed ?_
   refine dv 0 ?_;refine dv 1 ?_;refine WD.cast (t:=33) (u':=.int .i64 ((k-1:Nat):Int)) rfl (aL (by omega)) ?_
   refine dv 2 ?_;refine iE 3 ([.v (.int .i64 ((nth (dg 65536 (u)) (k-1):Nat):Int))]) (eG (dg 65536 (u)) (k:=k-1) (by omega)) ?_
   refine dv 4 ?_;refine dv 5 ?_;refine WD.cast (t:=37) (u':=.int .i64 ((k-1:Nat):Int)) rfl (aL (by omega)) ?_
   refine dv 6 ?_;refine iE 7 ([.v (.int .i64 ((nth (dg 65536 (v)) (k-1):Nat):Int))]) (eG (dg 65536 (v)) (k:=k-1) (by omega)) ?_
   refine dv 8 ?_;refine dF 9 (by kernel_rfl) rfl rfl aA rfl (by trivial) ?_ (fun h=>by first | rfl | cases h)
   refine aO ?_;refine rt ?_;refine en (.inl rfl) rfl (aP (cD _)) (by decide) (fun _=>trivial) (congrArg (fun z=>FV.one (tv (.bool z))) ?_)
   exact AN (k:=k-1) (fun j hj=>hk.1 j (by omega)) (by omega)
  refine sk ?_;refine rl ?_;(iterate 3 refine o1 ?_);refine nl ?_
  exact⟨k-1,by omega,⟨fun j hj=>(Nat.eq_or_lt_of_le hj).elim (fun h9=>by rw[←h9];omega) (fun h9=>hk.1 j (by omega)),by omega⟩,aJ h0 [] _ _ (by decide) ⟨rfl,rfl,congrArg (fun z=>some (FV.one (tv (.int .i64 z)))) (by omega),trivial⟩ rfl⟩
 refine ex ?_;refine sq ?_;refine rl ?_;refine o1 ?_;refine nl ?_;refine rt ?_
 refine en (.inl rfl) rfl (aP (cD _)) (by decide) (fun _=>trivial) (congrArg (fun z=>FV.one (tv (.bool z))) ?_)
 have he:=Qr (fun j=>hk.1 j (by omega))
 rw[bO (by omega),bO (by omega)]at he
 rw[he,decide_eq_false (Nat.lt_irrefl v)]
theorem BJ {u v n:Nat}(hx:(dg 65536 (u)).length≤1099511627776) (hy:(dg 65536 (v)).length≤1099511627776) (hn:n≤65536) (hnv:n*v≤u):aD false Tryz.prog 134 [] [.one (.t (sI false (dg 65536 u))),.one (.t (sI false (dg 65536 v))),.one (tv (.int .i64 ((n:Nat):Int)))] (aM (.one (.t (sI false (dg 65536 (u-n*v)))))):=by
 refine bK Tryz.func134 rfl Tryz.ntmps134 rfl aA rfl fun N w c0 h0=>?_
 have hlu:=aH (B:=65536) (by omega) u
 have hlv:=aH (B:=65536) (by omega) v
 refine sq ?_;refine rl ?_;refine o1 ?_;refine nl ?_;refine sq ?_;refine rl ?_;refine o1 ?_;refine nl ?_;refine sq ?_;refine rl ?_;refine o1 ?_;refine nl ?_;refine sq ?_;refine sq ?_
 refine rl ?_;refine o1 ?_;refine nl ?_;refine bl ?_
 refine lp (γ:=Nat×Nat×List Nat) (fun s=>cG [(0,.one (.t (sI false (dg 65536 u)))),(1,.one (.t (sI false (dg 65536 v)))),(2,.one (tv (.int .i64 ((n:Nat):Int)))),(7,.one (.sl 0 0 s.1)),(8,.one (tv (.int .i64 ((s.2.1:Nat):Int)))),(9,.one (tv (.int .i64 ((s.1:Nat):Int))))]) (fun s=>[(⟨3,1,(cE s.2.2).map .t⟩:Ob)].map some) (fun s=>s.2.2.length=s.1∧Lim 65536 s.2.2∧vl 65536 s.2.2+n*vl 65536 ((dg 65536 (v)).take s.1)=vl 65536 ((dg 65536 (u)).take s.1)+65536^s.1*s.2.1∧s.2.1≤65536∧s.1≤(dg 65536 (u)).length) (fun s=>(dg 65536 (u)).length-s.1) (0,0,[]) ⟨rfl,Lim.nil,by simp[vl],Nat.zero_le _,Nat.zero_le _⟩ ((nr (i:=7) 0 3 1 rfl rfl rfl rfl).trans (aJ h0 [0] _ _ (by decide) ⟨rfl,rfl,rfl,rfl,rfl,rfl,trivial⟩ ⟨bJ (l:=[]) rfl,rfl⟩)) ?_
 rintro⟨k,br,os⟩ ⟨hos,hol,hv,hc1,hkm⟩;dsimp only at hos hol hv hc1 hkm⊢;have hn1:=hlu.nth (by omega) k
 have hn2:=hlv.nth (by omega) k
 have hmul:=Nat.mul_le_mul hn (Nat.le_of_lt_succ hn2)
 refine sq ?_;refine sq ?_;refine rl ?_;(iterate 4 refine o1 ?_);refine nl ?_;refine bU rfl (fun h1=>?_) (fun h1=>?_)
 ·refine sk ?_;refine sq ?_;refine bl ?_;refine sq ?_;refine rl ?_;(iterate 3 refine o1 ?_)
  refine fQ ([.v (.int .i64 ((nth (dg 65536 (u)) (k):Nat):Int))]) (eG (dg 65536 (u)) (k:=k) (by omega)) ?_
  (iterate 3 refine o1 ?_);refine nl ?_;refine sq ?_;refine sq ?_;refine rl ?_;(iterate 4 refine o1 ?_);refine nl ?_;refine bU rfl (fun h2=>?_) (fun h2=>?_)
  ·refine rl ?_;(iterate 5 refine o1 ?_);refine fQ ([.v (.int .i64 ((nth (dg 65536 (v)) (k):Nat):Int))]) (eG (dg 65536 (v)) (k:=k) (by omega)) ?_
   (iterate 3 refine o1 ?_);refine nl ?_;refine sq ?_;refine rl ?_;refine o1 ?_;refine nl ?_;refine sq ?_;refine sq ?_;refine rl ?_;refine o1 ?_;refine o1 ?_;refine nl ?_
   refine bU rfl (fun h3=>?_) (fun h3=>?_)
   ·refine sq ?_;refine rl ?_;refine o1 ?_;refine o1 ?_
    refine WL.cast (t:=38) (u':=.int .i64 ((65535+n*nth (dg 65536 (v)) k+br-nth (dg 65536 (u)) k:Nat):Int)) rfl (aL (by omega)) ?_
    refine o1 ?_ (hC:=(fX 65536 (by omega) (by simp only[fT];omega)))
    refine WL.cast (t:=39) (u':=.int .i64 (((65535+n*nth (dg 65536 (v)) k+br-nth (dg 65536 (u)) k)/65536:Nat):Int)) rfl (aL (eM _ 65536)) ?_;refine o1 ?_;refine nl ?_
    refine rl ?_;(iterate 5 refine o1 ?_);refine nl ?_;refine rl ?_;refine o1 ?_;refine o1 ?_
    refine WL.cast (t:=45) (u':=.int .i64 ((nth (dg 65536 (u)) k+65536*((65535+n*nth (dg 65536 (v)) k+br-nth (dg 65536 (u)) k)/65536)-br-n*nth (dg 65536 (v)) k:Nat):Int)) rfl (aL (by omega)) ?_
    refine bs 1 ?_;refine eJ (j:=2) aA rfl rfl rfl rfl (.sl rfl (by rw[List.length_map,fG,hos];omega)) (.sl rfl rfl rfl) rfl rfl rfl (by omega) (by omega) ?_
    refine o1 ?_;refine nl ?_;refine rl ?_;refine o1 ?_;refine o1 ?_;refine WL.cast (t:=16) (u':=.int .i64 ((k+1:Nat):Int)) rfl (aL (by omega)) ?_
    refine o1 ?_;refine nl ?_
    have hst:=oV (d:=nth (dg 65536 (u)) k+65536*((65535+n*nth (dg 65536 (v)) k+br-nth (dg 65536 (u)) k)/65536)-br-n*nth (dg 65536 (v)) k) (br:=br) (br':=(65535+n*nth (dg 65536 (v)) k+br-nth (dg 65536 (u)) k)/65536) hos hv (by omega)
    exact⟨(k+1,(65535+n*nth (dg 65536 (v)) k+br-nth (dg 65536 (u)) k)/65536,os++[nth (dg 65536 (u)) k+65536*((65535+n*nth (dg 65536 (v)) k+br-nth (dg 65536 (u)) k)/65536)-br-n*nth (dg 65536 (v)) k]),by dsimp only;omega,⟨by simp[hos],hol.append (Lim.cons (by omega) Lim.nil),hst,by dsimp only;omega,by dsimp only;omega⟩,aJ h0 [2] _ _ (by decide) ⟨rfl,rfl,rfl,rfl,rfl,rfl,trivial⟩ ⟨kK rfl (fH _ [nth (dg 65536 (u)) k+65536*((65535+n*nth (dg 65536 (v)) k+br-nth (dg 65536 (u)) k)/65536)-br-n*nth (dg 65536 (v)) k]) rfl,rfl⟩⟩
   refine sk ?_;refine rl ?_;refine o1 ?_;refine o1 ?_;refine WL.cast (t:=45) (u':=.int .i64 ((nth (dg 65536 (u)) k-br-n*nth (dg 65536 (v)) k:Nat):Int)) rfl (aL (by omega)) ?_
   refine bs 1 ?_;refine eJ (j:=2) aA rfl rfl rfl rfl (.sl rfl (by rw[List.length_map,fG,hos];omega)) (.sl rfl rfl rfl) rfl rfl rfl (by omega) (by omega) ?_
   refine o1 ?_;refine nl ?_;refine rl ?_;refine o1 ?_;refine o1 ?_;refine WL.cast (t:=16) (u':=.int .i64 ((k+1:Nat):Int)) rfl (aL (by omega)) ?_
   refine o1 ?_;refine nl ?_;have hst:=oV (d:=nth (dg 65536 (u)) k-br-n*nth (dg 65536 (v)) k) (br:=br) (br':=0) hos hv (by omega)
   exact⟨(k+1,0,os++[nth (dg 65536 (u)) k-br-n*nth (dg 65536 (v)) k]),by dsimp only;omega,⟨by simp[hos],hol.append (Lim.cons (by omega) Lim.nil),hst,by dsimp only;omega,by dsimp only;omega⟩,aJ h0 [2] _ _ (by decide) ⟨rfl,rfl,rfl,rfl,rfl,rfl,trivial⟩ ⟨kK rfl (fH _ [nth (dg 65536 (u)) k-br-n*nth (dg 65536 (v)) k]) rfl,rfl⟩⟩
  refine sk ?_;refine sq ?_;refine rl ?_;refine o1 ?_;refine nl ?_;refine sq ?_;refine sq ?_;refine rl ?_;refine o1 ?_;refine o1 ?_;refine nl ?_
  refine bU rfl (fun h4=>?_) (fun h4=>?_)
  ·refine sq ?_;refine rl ?_;refine o1 ?_;refine o1 ?_;refine WL.cast (t:=38) (u':=.int .i64 ((65535+br-nth (dg 65536 (u)) k:Nat):Int)) rfl (aL (by omega)) ?_
   refine o1 ?_ (hC:=(fX 65536 (by omega) (by simp only[fT];omega)))
   refine WL.cast (t:=39) (u':=.int .i64 (((65535+br-nth (dg 65536 (u)) k)/65536:Nat):Int)) rfl (aL (eM _ 65536)) ?_;refine o1 ?_;refine nl ?_;refine rl ?_
   (iterate 5 refine o1 ?_);refine nl ?_;refine rl ?_;refine o1 ?_;refine o1 ?_
   refine WL.cast (t:=45) (u':=.int .i64 ((nth (dg 65536 (u)) k+65536*((65535+br-nth (dg 65536 (u)) k)/65536)-br:Nat):Int)) rfl (aL (by omega)) ?_
   refine bs 1 ?_;refine eJ (j:=2) aA rfl rfl rfl rfl (.sl rfl (by rw[List.length_map,fG,hos];omega)) (.sl rfl rfl rfl) rfl rfl rfl (by omega) (by omega) ?_
   refine o1 ?_;refine nl ?_;refine rl ?_;refine o1 ?_;refine o1 ?_;refine WL.cast (t:=16) (u':=.int .i64 ((k+1:Nat):Int)) rfl (aL (by omega)) ?_
   refine o1 ?_;refine nl ?_;have hny:nth (dg 65536 (v)) k=0:=dQ (by omega)
   have hst:=oV (d:=nth (dg 65536 (u)) k+65536*((65535+br-nth (dg 65536 (u)) k)/65536)-br) (br:=br) (br':=(65535+br-nth (dg 65536 (u)) k)/65536) hos hv (by rw[hny,Nat.mul_zero];omega)
   exact⟨(k+1,(65535+br-nth (dg 65536 (u)) k)/65536,os++[nth (dg 65536 (u)) k+65536*((65535+br-nth (dg 65536 (u)) k)/65536)-br]),by dsimp only;omega,⟨by simp[hos],hol.append (Lim.cons (by omega) Lim.nil),hst,by dsimp only;omega,by dsimp only;omega⟩,aJ h0 [2] _ _ (by decide) ⟨rfl,rfl,rfl,rfl,rfl,rfl,trivial⟩ ⟨kK rfl (fH _ [nth (dg 65536 (u)) k+65536*((65535+br-nth (dg 65536 (u)) k)/65536)-br]) rfl,rfl⟩⟩
  refine sk ?_;refine rl ?_;refine o1 ?_;refine o1 ?_;refine WL.cast (t:=45) (u':=.int .i64 ((nth (dg 65536 (u)) k-br:Nat):Int)) rfl (aL (by omega)) ?_
  refine bs 1 ?_;refine eJ (j:=2) aA rfl rfl rfl rfl (.sl rfl (by rw[List.length_map,fG,hos];omega)) (.sl rfl rfl rfl) rfl rfl rfl (by omega) (by omega) ?_
  refine o1 ?_;refine nl ?_;refine rl ?_;refine o1 ?_;refine o1 ?_;refine WL.cast (t:=16) (u':=.int .i64 ((k+1:Nat):Int)) rfl (aL (by omega)) ?_
  refine o1 ?_;refine nl ?_;have hny:nth (dg 65536 (v)) k=0:=dQ (by omega)
  have hst:=oV (d:=nth (dg 65536 (u)) k-br) (br:=br) (br':=0) hos hv (by rw[hny,Nat.mul_zero];omega)
  exact⟨(k+1,0,os++[nth (dg 65536 (u)) k-br]),by dsimp only;omega,⟨by simp[hos],hol.append (Lim.cons (by omega) Lim.nil),hst,by dsimp only;omega,by dsimp only;omega⟩,aJ h0 [2] _ _ (by decide) ⟨rfl,rfl,rfl,rfl,rfl,rfl,trivial⟩ ⟨kK rfl (fH _ [nth (dg 65536 (u)) k-br]) rfl,rfl⟩⟩
 refine ex ?_;refine sq ?_;refine rl ?_;have hve:vl 65536 os=u-n*v:=Va rfl (by omega) hol hv hnv
 refine WL.sub (vV (i:=7) (zs':=os) rfl rfl rfl (by omega) rfl) ?_
 refine o1 ?_;refine ca (yR (by omega)) yB ⟨a1 rfl,rfl⟩ (.one (.t (sI false (trim os)))) ?_
 refine o1 ?_;refine nl ?_;refine rt ?_;exact en (.inl rfl) rfl (aP (.one (.id rfl))) (by decide) (fun h=>by cases h) (by rw[Ca (by omega) hol hve];rfl)
theorem Vp {u v:Nat}(hx:(dg 65536 (u)).length≤1099511627776) (hy:(dg 65536 (v)).length≤1099511627776) (huv:u<65536*v):aD true Tryz.prog 133 [] [.one (.t (sI false (dg 65536 u))),.one (.t (sI false (dg 65536 v)))] (aM (.one (tv (.int .i64 ((u/v:Nat):Int))))):=by
 refine bK Tryz.func133 rfl Tryz.ntmps133 rfl aA rfl fun N w c0 h0=>?_
 refine sq ?_;refine rl ?_;refine o1 ?_;refine nl ?_;refine sq ?_;refine rl ?_;refine o1 ?_;refine o1 ?_;refine nl ?_;refine sq ?_;refine bl ?_
 refine lp (γ:=Nat×Nat) (fun s=>cG [(0,.one (.t (sI false (dg 65536 u)))),(1,.one (.t (sI false (dg 65536 v)))),(5,.one (tv (.int .i64 ((s.1:Nat):Int)))),(6,.one (tv (.int .i64 ((s.2:Nat):Int))))]) (fun s=>([]:List Ob).map some) (fun s=>s.1*v≤u∧u<s.2*v∧s.1<s.2∧s.2≤65536) (fun s=>s.2-s.1) (0,65536) ⟨by simp,huv,by decide,Nat.le_refl _⟩ (aJ h0 [] _ _ (by decide) ⟨rfl,rfl,rfl,rfl,trivial⟩ rfl) ?_
 rintro⟨lo,hi⟩ ⟨h91,h92,h93,h94⟩;dsimp only at h91 h92 h93 h94⊢;refine sq ?_;refine sq ?_;refine rl ?_;(iterate 3 refine o1 ?_)
 refine WL.cast (t:=10) (u':=.int .i64 ((hi-lo:Nat):Int)) rfl (aL (by omega)) ?_
 refine o1 ?_;refine nl ?_;refine bU rfl (fun h1=>?_) (fun h1=>?_)
 ·refine sk ?_;refine bl ?_;refine sq ?_;refine rl ?_;(iterate 3 refine o1 ?_);refine WL.cast (t:=14) (u':=.int .i64 ((lo+hi:Nat):Int)) rfl (aL (by omega)) ?_
  refine o1 ?_ (hC:=(fX 2 (by omega) (by simp only[fT];omega)))
  refine WL.cast (t:=15) (u':=.int .i64 (((lo+hi)/2:Nat):Int)) rfl (aL (eM _ 2)) ?_;refine o1 ?_;refine nl ?_;refine sq ?_;refine rl ?_;(iterate 3 refine o1 ?_)
  refine bs 0 ?_;refine WL.sub (vV (i:=19) (zs:=[(lo+hi)/2]) (zs':=[(lo+hi)/2]) rfl rfl rfl rfl rfl) ?_;have h1l:[(lo+hi)/2].length=1:=rfl
  have hn2:=uC (xs:=(dg 65536 (v))) (ys:=[(lo+hi)/2]) (aH (by omega) _) (Lim.cons (d:=(lo+hi)/2) (by omega) Lim.nil)
  refine ca (Gq (by omega) (by omega) (aH (by omega) _) (Lim.cons (d:=(lo+hi)/2) (by omega) Lim.nil)) Wx ⟨a1 rfl,a1 rfl,rfl⟩ (.one (.t (sI false (dg 65536 (vl 65536 (dg 65536 (v))*vl 65536 [(lo+hi)/2]))))) ?_
  refine ca (BI (by omega) (by omega)) JA ⟨a1 rfl,a1 rfl,rfl⟩ (.one (tv (.bool (decide (u<vl 65536 (dg 65536 (v))*vl 65536 [(lo+hi)/2]))))) ?_
  refine nl ?_;refine bU rfl (fun h3=>?_) (fun h3=>?_)
  ·refine rl ?_;refine o1 ?_;refine o1 ?_;refine nl ?_;rw[bO (by omega),pI,Nat.mul_comm]at h3
   exact⟨(lo,(lo+hi)/2),by dsimp only;omega,⟨by dsimp only;omega,by dsimp only;omega,by dsimp only;omega,by dsimp only;omega⟩,aJ h0 [] _ _ (by decide) ⟨rfl,rfl,rfl,rfl,trivial⟩ rfl⟩
  refine rl ?_;refine o1 ?_;refine o1 ?_;refine nl ?_;rw[bO (by omega),pI,Nat.mul_comm]at h3
  exact⟨((lo+hi)/2,hi),by dsimp only;omega,⟨by dsimp only;omega,by dsimp only;omega,by dsimp only;omega,by dsimp only;omega⟩,aJ h0 [] _ _ (by decide) ⟨rfl,rfl,rfl,rfl,trivial⟩ rfl⟩
 refine ex ?_;refine sq ?_;refine rl ?_;refine o1 ?_;refine o1 ?_;refine nl ?_;refine rt ?_
 exact en (.inl rfl) rfl (aP (cD _)) (by decide) (fun _=>trivial) (congrArg (fun z=>FV.one (tv (.int .i64 ((z:Nat):Int)))) (Qv h91 h92 (by omega)).symm)
theorem Rp {xs zs:List Nat}(hx:xs.length≤4398046511104) (hz:trim xs=zs):aD false Tryz.prog 132 [] [.one (.t (sI false xs))] (aM (.one (.t (sI false zs)))):=by
 subst hz
 exact yR hx
theorem Gr {u v:Nat}(hx:(dg 65536 (u)).length≤549755813888) (hy:(dg 65536 (v)).length≤549755813888) (hvp:0<v):aD false Tryz.prog 110 [] [.one (.t (sI false (dg 65536 u))),.one (.t (sI false (dg 65536 v)))] (aM (.tup [.one (.t (sI false (dg 65536 (u/v)))),.one (.t (sI false (dg 65536 (u%v))))])):=by
 refine bK Tryz.func110 rfl Tryz.ntmps110 rfl aA rfl fun N w c0 h0=>?_
 have hlu:=aH (B:=65536) (by omega) u
 refine sq ?_;refine rl ?_;refine o1 ?_;refine o1 ?_;refine nl ?_;refine sq ?_;refine rl ?_;refine o1 ?_;refine o1 ?_
 refine WL.cast (t:=11) (u':=.int .i64 (((dg 65536 (u)).length:Nat):Int)) rfl (aL rfl) ?_;refine mk (m:=(dg 65536 (u)).length) 0 (by omega) (Gh _) ?_
 refine o1 ?_;refine nl ?_;refine sq ?_;refine rl ?_;refine o1 ?_;refine nl ?_;refine sq ?_;refine sq ?_;refine rl ?_;(iterate 4 refine o1 ?_);refine nl ?_;refine bl ?_
 refine lp (γ:=Nat×List Nat×Nat) (fun s=>cG [(0,.one (.t (sI false (dg 65536 u)))),(1,.one (.t (sI false (dg 65536 v)))),(6,.one (.sl 0 0 (dg 65536 (u)).length)),(7,.one (.t (sI false (dg 65536 s.2.2)))),(8,.one (tv (.int .i64 ((s.1:Nat)-1))))]) (fun s=>[(⟨3,1,(cE s.2.1).map .t⟩:Ob)].map some) (fun s=>s.2.1.length=(dg 65536 (u)).length∧Lim 65536 s.2.1∧vl 65536 ((dg 65536 (u)).drop s.1)=v*vl 65536 (s.2.1.drop s.1)+s.2.2∧s.2.2<v∧s.1≤(dg 65536 (u)).length) (fun s=>s.1) ((dg 65536 (u)).length,List.replicate (dg 65536 (u)).length 0,0) ⟨List.length_replicate,Lim.replicate (by omega) _,by dsimp only;rw[List.drop_of_length_le (Nat.le_refl _),List.drop_of_length_le (by rw[List.length_replicate];exact Nat.le_refl _)];simp[vl],hvp,Nat.le_refl _⟩ (((nr (i:=7) 1 3 1 rfl rfl rfl rfl).trans (vV (i:=7) (k:=1) (zs:=[]) (zs':=dg 65536 0) rfl rfl rfl rfl (lL _).symm)).trans (aJ h0 [0] _ _ (by decide) ⟨rfl,rfl,rfl,rfl,rfl,trivial⟩ ⟨kK rfl rfl rfl,rfl⟩)) ?_
 rintro⟨k,os,r⟩ ⟨hos,hol,hv,hr,hkm⟩;dsimp only at hos hol hv hr hkm⊢;have hrl:=cI (B:=65536) (by omega) (Nat.le_of_lt hr)
 have hau:=hlu.nth (by omega) (k-1)
 have hce:=Vb (a:=nth (dg 65536 (u)) (k-1)) hau hr
 have hql:(nth (dg 65536 (u)) (k-1)+65536*r)/v<65536:=(Nat.div_lt_iff_lt_mul hvp).2 (by omega)
 refine sq ?_;refine sq ?_;refine rl ?_;refine o1 ?_;refine o1 ?_;refine nl ?_;refine bU rfl (fun h1=>?_) (fun h1=>?_)
 ·refine sk ?_;refine sq ?_;refine bl ?_;refine sq ?_;refine rl ?_;refine o1 ?_;refine o1 ?_;refine WL.cast (t:=21) (u':=.int .i64 ((k-1:Nat):Int)) rfl (aL (by omega)) ?_
  refine o1 ?_;refine fQ ([.v (.int .i64 ((nth (dg 65536 (u)) (k-1):Nat):Int))]) (eG (dg 65536 (u)) (k:=k-1) (by omega)) ?_
  refine bs 1 ?_;refine o1 ?_;refine nl ?_;refine sq ?_;refine rl ?_;refine o1 ?_;refine o1 ?_
  refine eJ (j:=2) aA rfl rfl rfl rfl (.sl rfl (rfl)) .fz (FN _) (Ux _) rfl (by omega) (by omega) ?_
  refine WL.sub (vV (i:=27) (k:=2) (zs:=[nth (dg 65536 (u)) (k-1)]++dg 65536 r) (zs':=[nth (dg 65536 (u)) (k-1)]++dg 65536 r) rfl rfl (congrArg (fun l=>some (⟨3,1,l⟩:Ob)) (fH [nth (dg 65536 (u)) (k-1)] (dg 65536 r))) (by rw[List.length_append];rfl) rfl) ?_
  refine ca (Rp (zs:=(dg 65536 (nth (dg 65536 (u)) (k-1)+65536*r))) (by rw[List.length_append];exact Nat.le_trans (Nat.add_le_add_left hrl 1) (by omega)) (uD (by omega))) yB ⟨a1 rfl,rfl⟩ (.one (.t (sI false (dg 65536 (nth (dg 65536 (u)) (k-1)+65536*r))))) ?_
  refine o1 ?_;refine nl ?_;refine sq ?_;refine rl ?_;refine o1 ?_;refine o1 ?_;refine WL.cast (t:=30) (u':=.int .i64 ((k-1:Nat):Int)) rfl (aL (by omega)) ?_
  refine o1 ?_;refine o1 ?_;refine ca (Vp (by omega) (by omega) (by omega)) IW ⟨a1 rfl,a1 rfl,rfl⟩ (.one (tv (.int .i64 (((nth (dg 65536 (u)) (k-1)+65536*r)/v:Nat):Int)))) ?_
  refine o1 ?_;refine sX (iY os (k:=k-1) (v:=(nth (dg 65536 (u)) (k-1)+65536*r)/v) (by omega)) (kV os (by omega)) ?_
  refine nl ?_;refine rl ?_;(iterate 4 refine o1 ?_);refine WL.cast (t:=38) (u':=.int .i64 ((k-1:Nat):Int)) rfl (aL (by omega)) ?_
  refine o1 ?_;refine Wh (jN (os.set (k-1) ((nth (dg 65536 (u)) (k-1)+65536*r)/v)) (k:=k-1) (by rw[List.length_set];omega)) ?_
  refine WL.cast (t:=40) (u':=.int .i64 (((nth (dg 65536 (u)) (k-1)+65536*r)/v:Nat):Int)) rfl (aL (by rw[Gf (by omega)])) ?_
  refine ca (BJ (by omega) (by omega) (by omega) (Nat.div_mul_le_self _ _)) IX ⟨a1 rfl,a1 rfl,a1 rfl,rfl⟩ (.one (.t (sI false (dg 65536 (nth (dg 65536 (u)) (k-1)+65536*r-(nth (dg 65536 (u)) (k-1)+65536*r)/v*v))))) ?_
  refine o1 ?_;refine nl ?_;refine rl ?_;(iterate 3 refine o1 ?_);refine nl ?_
  have hst:=Nb (k:=k) (q:=(nth (dg 65536 (u)) (k-1)+65536*r)/v) (by omega) (by omega) (by omega) hv rfl rfl
  have hmod:=Nat.mod_lt (nth (dg 65536 (u)) (k-1)+65536*r) hvp
  have hdm:=Nat.div_add_mod' (nth (dg 65536 (u)) (k-1)+65536*r) v
  exact⟨(k-1,os.set (k-1) ((nth (dg 65536 (u)) (k-1)+65536*r)/v),nth (dg 65536 (u)) (k-1)+65536*r-(nth (dg 65536 (u)) (k-1)+65536*r)/v*v),by dsimp only;omega,⟨by rw[List.length_set];exact hos,hol.set _ hql,hst,by dsimp only;omega,by dsimp only;omega⟩,aJ h0 [0] _ _ (by decide) ⟨rfl,rfl,rfl,rfl,congrArg (fun z=>some (FV.one (tv (.int .i64 z)))) (by omega),trivial⟩ ⟨kK rfl rfl rfl,rfl⟩⟩
 refine ex ?_;refine sq ?_;refine rl ?_;have hk0:k=0:=by omega
 rw[hk0,List.drop_zero,List.drop_zero,bO (by omega)]at hv
 obtain⟨hq1,hq2⟩:=Qw hv hr
 refine WL.sub (vV (i:=6) (zs':=os) rfl rfl rfl (by omega) rfl) ?_
 refine o1 ?_;refine ca (Rp (zs:=(dg 65536 (u/v))) (by omega) (by rw[Ca (by omega) hol rfl,hq1])) yB ⟨a1 rfl,rfl⟩ (.one (.t (sI false (dg 65536 (u/v))))) ?_
 (iterate 3 refine o1 ?_);refine nl ?_;refine rt ?_;exact en (.inl rfl) rfl (jL (.cons (.one (.id rfl)) (.cons (.one (.id rfl)) .nil))) (by decide) (fun h=>by cases h) (by rw[hq2];rfl)
theorem Dv {a b:Zi}{k k':Int}(ha:Zn a k) (hb:Zn b k'):aD true Tryz.prog 70 [] [gF a,gF b] (aM (kO ((Int.gcd k k':Nat):Int))):=by
 refine bK Tryz.func70 rfl Tryz.ntmps70 rfl aA rfl fun N w c0 h0=>?_
 have hkl:=ha.len
 have hkl':=hb.len
 refine sq ?_;refine rl ?_;refine bx 0 ?_;refine bx 1 ?_;refine al 2 ?_;refine nl ?_;refine sq ?_;refine rd [0,1,2] (fun i=>[9].contains i) mixed ?_
 refine aX 0 ?_;refine aX 4 ?_;refine aI 1 rfl (eS ha) lS ⟨aB rfl,rfl⟩ (kF (k)) ?_;refine df 2 ?_
 have hn1:=dL (v:=vl 4294967296 (dg 4294967296 (k).natAbs)) (L:=(dg 4294967296 (k).natAbs).length) (by rw[bO (by omega)];exact Nat.le_refl _)
 refine aI 3 rfl (kS (by omega) (aH (by omega) _)) vB ⟨a1 rfl,rfl⟩ (.one (.t (sI false (dg 65536 (vl 4294967296 (dg 4294967296 (k).natAbs)))))) ?_
 refine aI 5 rfl (eS hb) lS ⟨aB rfl,rfl⟩ (kF (k')) ?_;refine df 6 ?_
 have hn2:=dL (v:=vl 4294967296 (dg 4294967296 (k').natAbs)) (L:=(dg 4294967296 (k').natAbs).length) (by rw[bO (by omega)];exact Nat.le_refl _)
 refine aI 7 rfl (kS (by omega) (aH (by omega) _)) vB ⟨a1 rfl,rfl⟩ (.one (.t (sI false (dg 65536 (vl 4294967296 (dg 4294967296 (k').natAbs)))))) ?_
 refine dF 8 (by kernel_rfl) rfl rfl aA rfl (by trivial) ?_ (fun h=>by first | rfl | cases h)
 refine dF 9 (by kernel_rfl) rfl rfl aA rfl (by trivial) ?_ (fun h=>by first | rfl | cases h)
 refine aO ?_;refine sq ?_;refine bl ?_
 refine lp (γ:=Nat×Nat) (fun s=>cG [(4,.one (.pt 0 0)),(5,.one (.t (sI false (dg 65536 s.1)))),(6,.one (.t (sI false (dg 65536 s.2))))]) (fun s=>[(⟨34,0,[tv (.bool false),tv (.slice none 0 0)]⟩:Ob)].map some) (fun s=>Nat.gcd s.1 s.2=Int.gcd k k'∧(dg 65536 s.1).length≤549755813888∧(dg 65536 s.2).length≤549755813888) (fun s=>s.2) (vl 4294967296 (dg 4294967296 (k).natAbs),vl 4294967296 (dg 4294967296 (k').natAbs)) ⟨by dsimp only;rw[bO (by omega),bO (by omega)];rfl,by dsimp only;omega,by dsimp only;omega⟩ (aJ h0 [2] _ _ (by decide) ⟨rfl,rfl,rfl,trivial⟩ ⟨oe rfl rfl,rfl⟩) ?_
 rintro⟨ga,gb⟩ ⟨hg,hga,hgb⟩;dsimp only at hg hga hgb⊢;have hbz:gb=0↔(dg 65536 gb).length=0:=by rw[List.length_eq_zero_iff,eN (by omega)]
 refine sq ?_;refine sq ?_;refine rl ?_;(iterate 3 refine o1 ?_);refine nl ?_;refine bU rfl (fun h3=>?_) (fun h3=>?_)
 ·refine sk ?_;refine bl ?_;refine sq ?_;have hb0:0<gb:=by omega
  refine rl ?_;refine o1 ?_;refine o1 ?_;have hn4:=cI (B:=65536) (by omega) (Nat.div_le_self (ga) (gb))
  have hn5:=cI (B:=65536) (by omega) (Nat.mod_le (ga) (gb))
  refine ca (Gr (by omega) (by omega) hb0) Ww ⟨a1 rfl,a1 rfl,rfl⟩ (.tup [.one (.t (sI false (dg 65536 ((ga)/(gb))))),.one (.t (sI false (dg 65536 ((ga)%(gb)))))]) ?_
  (iterate 5 refine o1 ?_);refine nl ?_;refine sq ?_;refine rl ?_;refine o1 ?_;refine o1 ?_;refine nl ?_;refine rl ?_;refine o1 ?_;refine o1 ?_;refine nl ?_;have hmod:=Nat.mod_lt ga hb0
  have hml:=cI (B:=65536) (by omega) (Nat.le_of_lt hmod)
  exact⟨(gb,ga%gb),by dsimp only;omega,⟨by dsimp only;rw[←hg,Nat.gcd_comm gb (ga%gb),←Nat.gcd_rec,Nat.gcd_comm],by dsimp only;omega,by dsimp only;omega⟩,aJ h0 [0] _ _ (by decide) ⟨rfl,rfl,rfl,trivial⟩ ⟨oe rfl rfl,rfl⟩⟩
 refine ex ?_;refine sq ?_;have hb00:gb=0:=by omega
 rw[hb00,Nat.gcd_zero_right]at hg;refine rl ?_;refine o1 ?_;have hn6:=lJ (ga)
 refine ca (sA (zs:=(dg 4294967296 (ga))) (by omega) (aH (by omega) _) (vH _)) dY ⟨a1 rfl,rfl⟩ (.one (.t (sU false (dg 4294967296 (ga))))) ?_
 refine fJ 1 (iJ (K:=((Int.gcd k k':Nat):Int)) (by omega) (aH (by omega) _) (by rw[bO (by omega),hg];rfl)) cR ⟨a1 rfl,a1 rfl,rfl⟩ ?_
 refine st ?_;refine nl ?_;refine rt ?_
 exact en (.inl rfl) rfl (aP (.agg (.cons (.id rfl) (.cons (.sl (trs:=aK (dg 4294967296 (((Int.gcd k k':Nat):Int)).natAbs)) rfl rfl (aV _) (aQ _)) .nil)))) (by decide) (fun _=>dO (((Int.gcd k k':Nat):Int))) rfl
theorem Ot {a b:Zi}{k k':Int}(ha:Zn a k) (hb:Zn b k'):aD false Tryz.prog 71 [] [gF a,gF b] (aM (.tup [kF (if k'=0 then 0 else k.fdiv k'),kF (if k'=0 then 0 else k.fmod k'),.one (tv (.int .i64 (if k'=0 then 20 else 0)))])):=by
 refine bK Tryz.func71 rfl Tryz.ntmps71 rfl aA rfl fun N w c0 h0=>?_
 have hkl:=ha.len
 have hkl':=hb.len
 refine sq ?_;refine rl ?_;refine bx 0 ?_;refine bx 1 ?_;refine al 2 ?_;refine al 3 ?_;refine o1 ?_;refine nl ?_;refine sq ?_;refine rl ?_;refine ld ?_
 refine ca (eS ha) lS ⟨aB rfl,rfl⟩ (kF (k)) ?_;refine st ?_;refine nl ?_;refine sq ?_;refine rl ?_;refine ld ?_;refine ca (eS hb) lS ⟨aB rfl,rfl⟩ (kF (k')) ?_;refine st ?_
 refine nl ?_;refine sq ?_;refine sq ?_;refine rl ?_;refine o1 ?_;refine ld ?_;refine o1 ?_;refine o1 ?_;refine nl ?_;refine bU rfl (fun h1=>?_) (fun h1=>?_)
 ·refine sq ?_;refine rl ?_;refine o1 ?_;refine o1 ?_;refine st ?_;refine st ?_;refine o1 ?_;refine nl ?_;refine rt ?_;have hk0:k'=0:=by have:=Hh (k:=k') (by omega);omega
  exact en (.inl rfl) rfl (nP (.cons (.agg (.cons (.id rfl) (.cons .nilf .nil))) (.cons (.agg (.cons (.id rfl) (.cons .nilf .nil))) (.cons (cD _) .nil)))) (by decide) (fun h=>by cases h) (by rw[if_pos hk0,if_pos hk0,if_pos hk0,←uP];rfl)
 refine sk ?_;refine sq ?_;have hkn:k'≠0:=Qx (by omega)
 have hva:0<vl 4294967296 (dg 4294967296 (k').natAbs):=by rw[bO (by omega)];omega
 refine rd [0,1,2,3] (fun i=>[11].contains i) mixed ?_
 refine dv 0 ?_;refine aX 1 ?_;refine dv 3 ?_;refine aX 4 ?_
 have hn2:=dL (v:=vl 4294967296 (dg 4294967296 (k).natAbs)) (L:=(dg 4294967296 (k).natAbs).length) (by rw[bO (by omega)];exact Nat.le_refl _)
 refine aI 2 rfl (kS (by omega) (aH (by omega) _)) vB ⟨a1 rfl,rfl⟩ (.one (.t (sI false (dg 65536 (vl 4294967296 (dg 4294967296 (k).natAbs)))))) ?_
 have hn3:=dL (v:=vl 4294967296 (dg 4294967296 (k').natAbs)) (L:=(dg 4294967296 (k').natAbs).length) (by rw[bO (by omega)];exact Nat.le_refl _)
 refine aI 5 rfl (kS (by omega) (aH (by omega) _)) vB ⟨a1 rfl,rfl⟩ (.one (.t (sI false (dg 65536 (vl 4294967296 (dg 4294967296 (k').natAbs)))))) ?_
 have hn4:=cI (B:=65536) (by omega) (Nat.div_le_self (vl 4294967296 (dg 4294967296 (k).natAbs)) (vl 4294967296 (dg 4294967296 (k').natAbs)))
 have hn5:=cI (B:=65536) (by omega) (Nat.mod_le (vl 4294967296 (dg 4294967296 (k).natAbs)) (vl 4294967296 (dg 4294967296 (k').natAbs)))
 refine aI 6 rfl (Gr (by omega) (by omega) hva) Ww ⟨a1 rfl,a1 rfl,rfl⟩ (.tup [.one (.t (sI false (dg 65536 ((vl 4294967296 (dg 4294967296 (k).natAbs))/(vl 4294967296 (dg 4294967296 (k').natAbs)))))),.one (.t (sI false (dg 65536 ((vl 4294967296 (dg 4294967296 (k).natAbs))%(vl 4294967296 (dg 4294967296 (k').natAbs))))))]) ?_
 refine df 7 ?_;refine df 8 ?_;refine df 9 ?_;refine dF 10 (by kernel_rfl) rfl rfl aA rfl (by trivial) ?_ (fun h=>by first | rfl | cases h)
 refine dF 11 (by kernel_rfl) rfl rfl aA rfl (by trivial) ?_ (fun h=>by first | rfl | cases h)
 refine aO ?_
 refine md (γ:=Unit) (fun _=>cG [(3,.one (.pt 0 0)),(4,.one (.pt 1 0)),(5,.one (.pt 2 0)),(6,.one (tv (.int .i64 0))),(9,.one (.pt 3 0)),(10,.one (.pt 4 0))]) (fun _=>([⟨34,0,[tv (.bool (aF (k'))),.t (sU false (dg 4294967296 (k').natAbs))]⟩,⟨34,0,[tv (.bool false),tv (.slice none 0 0)]⟩,⟨34,0,[tv (.bool false),tv (.slice none 0 0)]⟩,⟨34,0,[tv (.bool (aF (bI (aF k != aF k') (k.natAbs/k'.natAbs)))),.t (sU false (dg 4294967296 (bI (aF k != aF k') (k.natAbs/k'.natAbs)).natAbs))]⟩,⟨34,0,[tv (.bool (aF (bI (aF k) (k.natAbs%k'.natAbs)))),.t (sU false (dg 4294967296 (bI (aF k) (k.natAbs%k'.natAbs)).natAbs))]⟩]:List Ob).map some) (fun _=>True) ?_ fun _ _=>?_
 ·have hnq:=lJ ((vl 4294967296 (dg 4294967296 (k).natAbs))/(vl 4294967296 (dg 4294967296 (k').natAbs)))
  have hLq:=sA (xs:=dg 65536 ((vl 4294967296 (dg 4294967296 (k).natAbs))/(vl 4294967296 (dg 4294967296 (k').natAbs)))) (zs:=dg 4294967296 ((vl 4294967296 (dg 4294967296 (k).natAbs))/(vl 4294967296 (dg 4294967296 (k').natAbs)))) (by omega) (aH (by omega) _) (vH _)
  have hMq:=iJ (b:=aF k != aF k') (xs:=dg 4294967296 ((vl 4294967296 (dg 4294967296 (k).natAbs))/(vl 4294967296 (dg 4294967296 (k').natAbs)))) (K:=bI (aF k != aF k') (k.natAbs/k'.natAbs)) (by omega) (aH (by omega) _) (by simp only[bO (B:=4294967296) (by omega)] <;> rfl)
  have hnr:=lJ ((vl 4294967296 (dg 4294967296 (k).natAbs))%(vl 4294967296 (dg 4294967296 (k').natAbs)))
  have hLr:=sA (xs:=dg 65536 ((vl 4294967296 (dg 4294967296 (k).natAbs))%(vl 4294967296 (dg 4294967296 (k').natAbs)))) (zs:=dg 4294967296 ((vl 4294967296 (dg 4294967296 (k).natAbs))%(vl 4294967296 (dg 4294967296 (k').natAbs)))) (by omega) (aH (by omega) _) (vH _)
  have hMr:=iJ (b:=aF k) (xs:=dg 4294967296 ((vl 4294967296 (dg 4294967296 (k).natAbs))%(vl 4294967296 (dg 4294967296 (k').natAbs)))) (K:=bI (aF k) (k.natAbs%k'.natAbs)) (by omega) (aH (by omega) _) (by simp only[bO (B:=4294967296) (by omega)] <;> rfl)
  generalize dg 4294967296 ((vl 4294967296 (dg 4294967296 (k).natAbs))/(vl 4294967296 (dg 4294967296 (k').natAbs)))=zq at hLq hMq
  generalize dg 4294967296 ((vl 4294967296 (dg 4294967296 (k).natAbs))%(vl 4294967296 (dg 4294967296 (k').natAbs)))=zr at hLr hMr;refine rd [0,1,2,3] (fun i=>[16].contains i) mixed ?_
  refine dv 0 ?_;refine aX 1 ?_;refine dv 2 ?_;refine aX 3 ?_;refine dv 4 ?_;refine dv 5 ?_;refine dv 8 ?_;refine aX 9 ?_;refine dv 10 ?_
  refine WO.three (i:=6) (j:=13) (m:=14) (by kernel_rfl) ?_ ?_ ?_
  ·refine cS 6 rfl (hLq) dY ⟨a1 rfl,rfl⟩ (.one (.t (sU false zq))) ?_;refine WO.three (i:=7) (j:=13) (m:=14) (by kernel_rfl) ?_ ?_ ?_
   ·refine cS 7 rfl (hMq) cR ⟨a1 rfl,a1 rfl,rfl⟩ (kF (bI (aF k != aF k') (k.natAbs/k'.natAbs))) ?_;refine WO.three (i:=11) (j:=13) (m:=14) (by kernel_rfl) ?_ ?_ ?_
    ·refine cS 11 rfl (hLr) dY ⟨a1 rfl,rfl⟩ (.one (.t (sU false zr))) ?_;refine WO.three (i:=12) (j:=13) (m:=14) (by kernel_rfl) ?_ ?_ ?_
     ·refine cS 12 rfl (hMr) cR ⟨a1 rfl,a1 rfl,rfl⟩ (kF (bI (aF k) (k.natAbs%k'.natAbs))) ?_;refine WO.two (i:=13) (j:=14) (by kernel_rfl) ?_ ?_
      ·refine bP (key:=4) 13 rfl rfl aA rfl ⟨rfl,rfl,rfl,rfl,trivial⟩ ?_;refine eA (key:=5) 14 (by kernel_rfl) rfl rfl aA rfl ⟨rfl,rfl,rfl,rfl,trivial⟩ ?_
       refine aR 15 (by kernel_rfl) rfl rfl aA rfl rfl rfl rfl ⟨rfl,rfl,rfl,rfl,trivial⟩ ?_
       refine dst 16 ?_;refine aO ?_
       exact⟨(),trivial,aJ h0 [1,2,3,4,5] _ _ (by decide) ⟨rfl,rfl,rfl,rfl,rfl,rfl,trivial⟩ ⟨oe rfl rfl,oe rfl rfl,oe rfl rfl,oe rfl rfl,oe rfl rfl,rfl⟩⟩
      refine bP (key:=4) 14 rfl rfl aA rfl ⟨rfl,rfl,rfl,rfl,trivial⟩ ?_;refine eA (key:=5) 13 (by kernel_rfl) rfl rfl aA rfl ⟨rfl,rfl,rfl,rfl,trivial⟩ ?_
      refine aR 15 (by kernel_rfl) rfl rfl aA rfl rfl rfl rfl ⟨rfl,rfl,rfl,rfl,trivial⟩ ?_
      refine dst 16 ?_;refine aO ?_
      exact⟨(),trivial,aJ h0 [1,2,3,5,4] _ _ (by decide) ⟨rfl,rfl,rfl,rfl,rfl,rfl,trivial⟩ ⟨oe rfl rfl,oe rfl rfl,oe rfl rfl,oe rfl rfl,oe rfl rfl,rfl⟩⟩
     ·refine bP (key:=4) 13 rfl rfl aA rfl ⟨rfl,rfl,rfl,rfl,trivial⟩ ?_;refine WO.two (i:=12) (j:=14) (by kernel_rfl) ?_ ?_
      ·refine cS 12 rfl (hMr) cR ⟨a1 rfl,a1 rfl,rfl⟩ (kF (bI (aF k) (k.natAbs%k'.natAbs))) ?_
       refine eA (key:=5) 14 (by kernel_rfl) rfl rfl aA rfl ⟨rfl,rfl,rfl,rfl,trivial⟩ ?_
       refine aR 15 (by kernel_rfl) rfl rfl aA rfl rfl rfl rfl ⟨rfl,rfl,rfl,rfl,trivial⟩ ?_
       refine dst 16 ?_;refine aO ?_
       exact⟨(),trivial,aJ h0 [1,2,3,4,5] _ _ (by decide) ⟨rfl,rfl,rfl,rfl,rfl,rfl,trivial⟩ ⟨oe rfl rfl,oe rfl rfl,oe rfl rfl,oe rfl rfl,oe rfl rfl,rfl⟩⟩
      refine bP (key:=5) 14 rfl rfl aA rfl ⟨rfl,rfl,rfl,rfl,trivial⟩ ?_;refine aI 12 rfl (hMr) cR ⟨a1 rfl,a1 rfl,rfl⟩ (kF (bI (aF k) (k.natAbs%k'.natAbs))) ?_
      refine aR 15 (by kernel_rfl) rfl rfl aA rfl rfl rfl rfl ⟨rfl,rfl,rfl,rfl,trivial⟩ ?_
      refine dst 16 ?_;refine aO ?_
      exact⟨(),trivial,aJ h0 [1,2,3,4,5] _ _ (by decide) ⟨rfl,rfl,rfl,rfl,rfl,rfl,trivial⟩ ⟨oe rfl rfl,oe rfl rfl,oe rfl rfl,oe rfl rfl,oe rfl rfl,rfl⟩⟩
     refine bP (key:=4) 14 rfl rfl aA rfl ⟨rfl,rfl,rfl,rfl,trivial⟩ ?_;refine WO.two (i:=12) (j:=13) (by kernel_rfl) ?_ ?_
     ·refine cS 12 rfl (hMr) cR ⟨a1 rfl,a1 rfl,rfl⟩ (kF (bI (aF k) (k.natAbs%k'.natAbs))) ?_
      refine eA (key:=5) 13 (by kernel_rfl) rfl rfl aA rfl ⟨rfl,rfl,rfl,rfl,trivial⟩ ?_
      refine aR 15 (by kernel_rfl) rfl rfl aA rfl rfl rfl rfl ⟨rfl,rfl,rfl,rfl,trivial⟩ ?_
      refine dst 16 ?_;refine aO ?_
      exact⟨(),trivial,aJ h0 [1,2,3,5,4] _ _ (by decide) ⟨rfl,rfl,rfl,rfl,rfl,rfl,trivial⟩ ⟨oe rfl rfl,oe rfl rfl,oe rfl rfl,oe rfl rfl,oe rfl rfl,rfl⟩⟩
     refine bP (key:=5) 13 rfl rfl aA rfl ⟨rfl,rfl,rfl,rfl,trivial⟩ ?_;refine aI 12 rfl (hMr) cR ⟨a1 rfl,a1 rfl,rfl⟩ (kF (bI (aF k) (k.natAbs%k'.natAbs))) ?_
     refine aR 15 (by kernel_rfl) rfl rfl aA rfl rfl rfl rfl ⟨rfl,rfl,rfl,rfl,trivial⟩ ?_
     refine dst 16 ?_;refine aO ?_
     exact⟨(),trivial,aJ h0 [1,2,3,5,4] _ _ (by decide) ⟨rfl,rfl,rfl,rfl,rfl,rfl,trivial⟩ ⟨oe rfl rfl,oe rfl rfl,oe rfl rfl,oe rfl rfl,oe rfl rfl,rfl⟩⟩
    ·refine bP (key:=4) 13 rfl rfl aA rfl ⟨rfl,rfl,rfl,rfl,trivial⟩ ?_;refine WO.two (i:=11) (j:=14) (by kernel_rfl) ?_ ?_
     ·refine cS 11 rfl (hLr) dY ⟨a1 rfl,rfl⟩ (.one (.t (sU false zr))) ?_;refine WO.two (i:=12) (j:=14) (by kernel_rfl) ?_ ?_
      ·refine cS 12 rfl (hMr) cR ⟨a1 rfl,a1 rfl,rfl⟩ (kF (bI (aF k) (k.natAbs%k'.natAbs))) ?_
       refine eA (key:=5) 14 (by kernel_rfl) rfl rfl aA rfl ⟨rfl,rfl,rfl,rfl,trivial⟩ ?_
       refine aR 15 (by kernel_rfl) rfl rfl aA rfl rfl rfl rfl ⟨rfl,rfl,rfl,rfl,trivial⟩ ?_
       refine dst 16 ?_;refine aO ?_
       exact⟨(),trivial,aJ h0 [1,2,3,4,5] _ _ (by decide) ⟨rfl,rfl,rfl,rfl,rfl,rfl,trivial⟩ ⟨oe rfl rfl,oe rfl rfl,oe rfl rfl,oe rfl rfl,oe rfl rfl,rfl⟩⟩
      refine bP (key:=5) 14 rfl rfl aA rfl ⟨rfl,rfl,rfl,rfl,trivial⟩ ?_;refine aI 12 rfl (hMr) cR ⟨a1 rfl,a1 rfl,rfl⟩ (kF (bI (aF k) (k.natAbs%k'.natAbs))) ?_
      refine aR 15 (by kernel_rfl) rfl rfl aA rfl rfl rfl rfl ⟨rfl,rfl,rfl,rfl,trivial⟩ ?_
      refine dst 16 ?_;refine aO ?_
      exact⟨(),trivial,aJ h0 [1,2,3,4,5] _ _ (by decide) ⟨rfl,rfl,rfl,rfl,rfl,rfl,trivial⟩ ⟨oe rfl rfl,oe rfl rfl,oe rfl rfl,oe rfl rfl,oe rfl rfl,rfl⟩⟩
     refine bP (key:=5) 14 rfl rfl aA rfl ⟨rfl,rfl,rfl,rfl,trivial⟩ ?_;refine aI 11 rfl (hLr) dY ⟨a1 rfl,rfl⟩ (.one (.t (sU false zr))) ?_
     refine aI 12 rfl (hMr) cR ⟨a1 rfl,a1 rfl,rfl⟩ (kF (bI (aF k) (k.natAbs%k'.natAbs))) ?_
     refine aR 15 (by kernel_rfl) rfl rfl aA rfl rfl rfl rfl ⟨rfl,rfl,rfl,rfl,trivial⟩ ?_
     refine dst 16 ?_;refine aO ?_
     exact⟨(),trivial,aJ h0 [1,2,3,4,5] _ _ (by decide) ⟨rfl,rfl,rfl,rfl,rfl,rfl,trivial⟩ ⟨oe rfl rfl,oe rfl rfl,oe rfl rfl,oe rfl rfl,oe rfl rfl,rfl⟩⟩
    refine bP (key:=4) 14 rfl rfl aA rfl ⟨rfl,rfl,rfl,rfl,trivial⟩ ?_;refine WO.two (i:=11) (j:=13) (by kernel_rfl) ?_ ?_
    ·refine cS 11 rfl (hLr) dY ⟨a1 rfl,rfl⟩ (.one (.t (sU false zr))) ?_;refine WO.two (i:=12) (j:=13) (by kernel_rfl) ?_ ?_
     ·refine cS 12 rfl (hMr) cR ⟨a1 rfl,a1 rfl,rfl⟩ (kF (bI (aF k) (k.natAbs%k'.natAbs))) ?_
      refine eA (key:=5) 13 (by kernel_rfl) rfl rfl aA rfl ⟨rfl,rfl,rfl,rfl,trivial⟩ ?_
      refine aR 15 (by kernel_rfl) rfl rfl aA rfl rfl rfl rfl ⟨rfl,rfl,rfl,rfl,trivial⟩ ?_
      refine dst 16 ?_;refine aO ?_
      exact⟨(),trivial,aJ h0 [1,2,3,5,4] _ _ (by decide) ⟨rfl,rfl,rfl,rfl,rfl,rfl,trivial⟩ ⟨oe rfl rfl,oe rfl rfl,oe rfl rfl,oe rfl rfl,oe rfl rfl,rfl⟩⟩
     refine bP (key:=5) 13 rfl rfl aA rfl ⟨rfl,rfl,rfl,rfl,trivial⟩ ?_;refine aI 12 rfl (hMr) cR ⟨a1 rfl,a1 rfl,rfl⟩ (kF (bI (aF k) (k.natAbs%k'.natAbs))) ?_
     refine aR 15 (by kernel_rfl) rfl rfl aA rfl rfl rfl rfl ⟨rfl,rfl,rfl,rfl,trivial⟩ ?_
     refine dst 16 ?_;refine aO ?_
     exact⟨(),trivial,aJ h0 [1,2,3,5,4] _ _ (by decide) ⟨rfl,rfl,rfl,rfl,rfl,rfl,trivial⟩ ⟨oe rfl rfl,oe rfl rfl,oe rfl rfl,oe rfl rfl,oe rfl rfl,rfl⟩⟩
    refine bP (key:=5) 13 rfl rfl aA rfl ⟨rfl,rfl,rfl,rfl,trivial⟩ ?_;refine aI 11 rfl (hLr) dY ⟨a1 rfl,rfl⟩ (.one (.t (sU false zr))) ?_
    refine aI 12 rfl (hMr) cR ⟨a1 rfl,a1 rfl,rfl⟩ (kF (bI (aF k) (k.natAbs%k'.natAbs))) ?_
    refine aR 15 (by kernel_rfl) rfl rfl aA rfl rfl rfl rfl ⟨rfl,rfl,rfl,rfl,trivial⟩ ?_
    refine dst 16 ?_;refine aO ?_
    exact⟨(),trivial,aJ h0 [1,2,3,5,4] _ _ (by decide) ⟨rfl,rfl,rfl,rfl,rfl,rfl,trivial⟩ ⟨oe rfl rfl,oe rfl rfl,oe rfl rfl,oe rfl rfl,oe rfl rfl,rfl⟩⟩
   ·refine bP (key:=4) 13 rfl rfl aA rfl ⟨rfl,rfl,rfl,rfl,trivial⟩ ?_;refine WO.two (i:=7) (j:=14) (by kernel_rfl) ?_ ?_
    ·refine cS 7 rfl (hMq) cR ⟨a1 rfl,a1 rfl,rfl⟩ (kF (bI (aF k != aF k') (k.natAbs/k'.natAbs))) ?_;refine WO.two (i:=11) (j:=14) (by kernel_rfl) ?_ ?_
     ·refine cS 11 rfl (hLr) dY ⟨a1 rfl,rfl⟩ (.one (.t (sU false zr))) ?_;refine WO.two (i:=12) (j:=14) (by kernel_rfl) ?_ ?_
      ·refine cS 12 rfl (hMr) cR ⟨a1 rfl,a1 rfl,rfl⟩ (kF (bI (aF k) (k.natAbs%k'.natAbs))) ?_
       refine eA (key:=5) 14 (by kernel_rfl) rfl rfl aA rfl ⟨rfl,rfl,rfl,rfl,trivial⟩ ?_
       refine aR 15 (by kernel_rfl) rfl rfl aA rfl rfl rfl rfl ⟨rfl,rfl,rfl,rfl,trivial⟩ ?_
       refine dst 16 ?_;refine aO ?_
       exact⟨(),trivial,aJ h0 [1,2,3,4,5] _ _ (by decide) ⟨rfl,rfl,rfl,rfl,rfl,rfl,trivial⟩ ⟨oe rfl rfl,oe rfl rfl,oe rfl rfl,oe rfl rfl,oe rfl rfl,rfl⟩⟩
      refine bP (key:=5) 14 rfl rfl aA rfl ⟨rfl,rfl,rfl,rfl,trivial⟩ ?_;refine aI 12 rfl (hMr) cR ⟨a1 rfl,a1 rfl,rfl⟩ (kF (bI (aF k) (k.natAbs%k'.natAbs))) ?_
      refine aR 15 (by kernel_rfl) rfl rfl aA rfl rfl rfl rfl ⟨rfl,rfl,rfl,rfl,trivial⟩ ?_
      refine dst 16 ?_;refine aO ?_
      exact⟨(),trivial,aJ h0 [1,2,3,4,5] _ _ (by decide) ⟨rfl,rfl,rfl,rfl,rfl,rfl,trivial⟩ ⟨oe rfl rfl,oe rfl rfl,oe rfl rfl,oe rfl rfl,oe rfl rfl,rfl⟩⟩
     refine bP (key:=5) 14 rfl rfl aA rfl ⟨rfl,rfl,rfl,rfl,trivial⟩ ?_;refine aI 11 rfl (hLr) dY ⟨a1 rfl,rfl⟩ (.one (.t (sU false zr))) ?_
     refine aI 12 rfl (hMr) cR ⟨a1 rfl,a1 rfl,rfl⟩ (kF (bI (aF k) (k.natAbs%k'.natAbs))) ?_
     refine aR 15 (by kernel_rfl) rfl rfl aA rfl rfl rfl rfl ⟨rfl,rfl,rfl,rfl,trivial⟩ ?_
     refine dst 16 ?_;refine aO ?_
     exact⟨(),trivial,aJ h0 [1,2,3,4,5] _ _ (by decide) ⟨rfl,rfl,rfl,rfl,rfl,rfl,trivial⟩ ⟨oe rfl rfl,oe rfl rfl,oe rfl rfl,oe rfl rfl,oe rfl rfl,rfl⟩⟩
    refine bP (key:=5) 14 rfl rfl aA rfl ⟨rfl,rfl,rfl,rfl,trivial⟩ ?_;refine aI 7 rfl (hMq) cR ⟨a1 rfl,a1 rfl,rfl⟩ (kF (bI (aF k != aF k') (k.natAbs/k'.natAbs))) ?_
    refine aI 11 rfl (hLr) dY ⟨a1 rfl,rfl⟩ (.one (.t (sU false zr))) ?_;refine aI 12 rfl (hMr) cR ⟨a1 rfl,a1 rfl,rfl⟩ (kF (bI (aF k) (k.natAbs%k'.natAbs))) ?_
    refine aR 15 (by kernel_rfl) rfl rfl aA rfl rfl rfl rfl ⟨rfl,rfl,rfl,rfl,trivial⟩ ?_
    refine dst 16 ?_;refine aO ?_
    exact⟨(),trivial,aJ h0 [1,2,3,4,5] _ _ (by decide) ⟨rfl,rfl,rfl,rfl,rfl,rfl,trivial⟩ ⟨oe rfl rfl,oe rfl rfl,oe rfl rfl,oe rfl rfl,oe rfl rfl,rfl⟩⟩
   refine bP (key:=4) 14 rfl rfl aA rfl ⟨rfl,rfl,rfl,rfl,trivial⟩ ?_;refine WO.two (i:=7) (j:=13) (by kernel_rfl) ?_ ?_
   ·refine cS 7 rfl (hMq) cR ⟨a1 rfl,a1 rfl,rfl⟩ (kF (bI (aF k != aF k') (k.natAbs/k'.natAbs))) ?_;refine WO.two (i:=11) (j:=13) (by kernel_rfl) ?_ ?_
    ·refine cS 11 rfl (hLr) dY ⟨a1 rfl,rfl⟩ (.one (.t (sU false zr))) ?_;refine WO.two (i:=12) (j:=13) (by kernel_rfl) ?_ ?_
     ·refine cS 12 rfl (hMr) cR ⟨a1 rfl,a1 rfl,rfl⟩ (kF (bI (aF k) (k.natAbs%k'.natAbs))) ?_
      refine eA (key:=5) 13 (by kernel_rfl) rfl rfl aA rfl ⟨rfl,rfl,rfl,rfl,trivial⟩ ?_
      refine aR 15 (by kernel_rfl) rfl rfl aA rfl rfl rfl rfl ⟨rfl,rfl,rfl,rfl,trivial⟩ ?_
      refine dst 16 ?_;refine aO ?_
      exact⟨(),trivial,aJ h0 [1,2,3,5,4] _ _ (by decide) ⟨rfl,rfl,rfl,rfl,rfl,rfl,trivial⟩ ⟨oe rfl rfl,oe rfl rfl,oe rfl rfl,oe rfl rfl,oe rfl rfl,rfl⟩⟩
     refine bP (key:=5) 13 rfl rfl aA rfl ⟨rfl,rfl,rfl,rfl,trivial⟩ ?_;refine aI 12 rfl (hMr) cR ⟨a1 rfl,a1 rfl,rfl⟩ (kF (bI (aF k) (k.natAbs%k'.natAbs))) ?_
     refine aR 15 (by kernel_rfl) rfl rfl aA rfl rfl rfl rfl ⟨rfl,rfl,rfl,rfl,trivial⟩ ?_
     refine dst 16 ?_;refine aO ?_
     exact⟨(),trivial,aJ h0 [1,2,3,5,4] _ _ (by decide) ⟨rfl,rfl,rfl,rfl,rfl,rfl,trivial⟩ ⟨oe rfl rfl,oe rfl rfl,oe rfl rfl,oe rfl rfl,oe rfl rfl,rfl⟩⟩
    refine bP (key:=5) 13 rfl rfl aA rfl ⟨rfl,rfl,rfl,rfl,trivial⟩ ?_;refine aI 11 rfl (hLr) dY ⟨a1 rfl,rfl⟩ (.one (.t (sU false zr))) ?_
    refine aI 12 rfl (hMr) cR ⟨a1 rfl,a1 rfl,rfl⟩ (kF (bI (aF k) (k.natAbs%k'.natAbs))) ?_
    refine aR 15 (by kernel_rfl) rfl rfl aA rfl rfl rfl rfl ⟨rfl,rfl,rfl,rfl,trivial⟩ ?_
    refine dst 16 ?_;refine aO ?_
    exact⟨(),trivial,aJ h0 [1,2,3,5,4] _ _ (by decide) ⟨rfl,rfl,rfl,rfl,rfl,rfl,trivial⟩ ⟨oe rfl rfl,oe rfl rfl,oe rfl rfl,oe rfl rfl,oe rfl rfl,rfl⟩⟩
   refine bP (key:=5) 13 rfl rfl aA rfl ⟨rfl,rfl,rfl,rfl,trivial⟩ ?_;refine aI 7 rfl (hMq) cR ⟨a1 rfl,a1 rfl,rfl⟩ (kF (bI (aF k != aF k') (k.natAbs/k'.natAbs))) ?_
   refine aI 11 rfl (hLr) dY ⟨a1 rfl,rfl⟩ (.one (.t (sU false zr))) ?_;refine aI 12 rfl (hMr) cR ⟨a1 rfl,a1 rfl,rfl⟩ (kF (bI (aF k) (k.natAbs%k'.natAbs))) ?_
   refine aR 15 (by kernel_rfl) rfl rfl aA rfl rfl rfl rfl ⟨rfl,rfl,rfl,rfl,trivial⟩ ?_
   refine dst 16 ?_;refine aO ?_
   exact⟨(),trivial,aJ h0 [1,2,3,5,4] _ _ (by decide) ⟨rfl,rfl,rfl,rfl,rfl,rfl,trivial⟩ ⟨oe rfl rfl,oe rfl rfl,oe rfl rfl,oe rfl rfl,oe rfl rfl,rfl⟩⟩
  ·refine bP (key:=4) 13 rfl rfl aA rfl ⟨rfl,rfl,rfl,rfl,trivial⟩ ?_;refine WO.two (i:=6) (j:=14) (by kernel_rfl) ?_ ?_
   ·refine cS 6 rfl (hLq) dY ⟨a1 rfl,rfl⟩ (.one (.t (sU false zq))) ?_;refine WO.two (i:=7) (j:=14) (by kernel_rfl) ?_ ?_
    ·refine cS 7 rfl (hMq) cR ⟨a1 rfl,a1 rfl,rfl⟩ (kF (bI (aF k != aF k') (k.natAbs/k'.natAbs))) ?_;refine WO.two (i:=11) (j:=14) (by kernel_rfl) ?_ ?_
     ·refine cS 11 rfl (hLr) dY ⟨a1 rfl,rfl⟩ (.one (.t (sU false zr))) ?_;refine WO.two (i:=12) (j:=14) (by kernel_rfl) ?_ ?_
      ·refine cS 12 rfl (hMr) cR ⟨a1 rfl,a1 rfl,rfl⟩ (kF (bI (aF k) (k.natAbs%k'.natAbs))) ?_
       refine eA (key:=5) 14 (by kernel_rfl) rfl rfl aA rfl ⟨rfl,rfl,rfl,rfl,trivial⟩ ?_
       refine aR 15 (by kernel_rfl) rfl rfl aA rfl rfl rfl rfl ⟨rfl,rfl,rfl,rfl,trivial⟩ ?_
       refine dst 16 ?_;refine aO ?_
       exact⟨(),trivial,aJ h0 [1,2,3,4,5] _ _ (by decide) ⟨rfl,rfl,rfl,rfl,rfl,rfl,trivial⟩ ⟨oe rfl rfl,oe rfl rfl,oe rfl rfl,oe rfl rfl,oe rfl rfl,rfl⟩⟩
      refine bP (key:=5) 14 rfl rfl aA rfl ⟨rfl,rfl,rfl,rfl,trivial⟩ ?_;refine aI 12 rfl (hMr) cR ⟨a1 rfl,a1 rfl,rfl⟩ (kF (bI (aF k) (k.natAbs%k'.natAbs))) ?_
      refine aR 15 (by kernel_rfl) rfl rfl aA rfl rfl rfl rfl ⟨rfl,rfl,rfl,rfl,trivial⟩ ?_
      refine dst 16 ?_;refine aO ?_
      exact⟨(),trivial,aJ h0 [1,2,3,4,5] _ _ (by decide) ⟨rfl,rfl,rfl,rfl,rfl,rfl,trivial⟩ ⟨oe rfl rfl,oe rfl rfl,oe rfl rfl,oe rfl rfl,oe rfl rfl,rfl⟩⟩
     refine bP (key:=5) 14 rfl rfl aA rfl ⟨rfl,rfl,rfl,rfl,trivial⟩ ?_;refine aI 11 rfl (hLr) dY ⟨a1 rfl,rfl⟩ (.one (.t (sU false zr))) ?_
     refine aI 12 rfl (hMr) cR ⟨a1 rfl,a1 rfl,rfl⟩ (kF (bI (aF k) (k.natAbs%k'.natAbs))) ?_
     refine aR 15 (by kernel_rfl) rfl rfl aA rfl rfl rfl rfl ⟨rfl,rfl,rfl,rfl,trivial⟩ ?_
     refine dst 16 ?_;refine aO ?_
     exact⟨(),trivial,aJ h0 [1,2,3,4,5] _ _ (by decide) ⟨rfl,rfl,rfl,rfl,rfl,rfl,trivial⟩ ⟨oe rfl rfl,oe rfl rfl,oe rfl rfl,oe rfl rfl,oe rfl rfl,rfl⟩⟩
    refine bP (key:=5) 14 rfl rfl aA rfl ⟨rfl,rfl,rfl,rfl,trivial⟩ ?_;refine aI 7 rfl (hMq) cR ⟨a1 rfl,a1 rfl,rfl⟩ (kF (bI (aF k != aF k') (k.natAbs/k'.natAbs))) ?_
    refine aI 11 rfl (hLr) dY ⟨a1 rfl,rfl⟩ (.one (.t (sU false zr))) ?_;refine aI 12 rfl (hMr) cR ⟨a1 rfl,a1 rfl,rfl⟩ (kF (bI (aF k) (k.natAbs%k'.natAbs))) ?_
    refine aR 15 (by kernel_rfl) rfl rfl aA rfl rfl rfl rfl ⟨rfl,rfl,rfl,rfl,trivial⟩ ?_
    refine dst 16 ?_;refine aO ?_
    exact⟨(),trivial,aJ h0 [1,2,3,4,5] _ _ (by decide) ⟨rfl,rfl,rfl,rfl,rfl,rfl,trivial⟩ ⟨oe rfl rfl,oe rfl rfl,oe rfl rfl,oe rfl rfl,oe rfl rfl,rfl⟩⟩
   refine bP (key:=5) 14 rfl rfl aA rfl ⟨rfl,rfl,rfl,rfl,trivial⟩ ?_;refine aI 6 rfl (hLq) dY ⟨a1 rfl,rfl⟩ (.one (.t (sU false zq))) ?_
   refine aI 7 rfl (hMq) cR ⟨a1 rfl,a1 rfl,rfl⟩ (kF (bI (aF k != aF k') (k.natAbs/k'.natAbs))) ?_;refine aI 11 rfl (hLr) dY ⟨a1 rfl,rfl⟩ (.one (.t (sU false zr))) ?_
   refine aI 12 rfl (hMr) cR ⟨a1 rfl,a1 rfl,rfl⟩ (kF (bI (aF k) (k.natAbs%k'.natAbs))) ?_;refine aR 15 (by kernel_rfl) rfl rfl aA rfl rfl rfl rfl ⟨rfl,rfl,rfl,rfl,trivial⟩ ?_
   refine dst 16 ?_;refine aO ?_
   exact⟨(),trivial,aJ h0 [1,2,3,4,5] _ _ (by decide) ⟨rfl,rfl,rfl,rfl,rfl,rfl,trivial⟩ ⟨oe rfl rfl,oe rfl rfl,oe rfl rfl,oe rfl rfl,oe rfl rfl,rfl⟩⟩
  refine bP (key:=4) 14 rfl rfl aA rfl ⟨rfl,rfl,rfl,rfl,trivial⟩ ?_;refine WO.two (i:=6) (j:=13) (by kernel_rfl) ?_ ?_
  ·refine cS 6 rfl (hLq) dY ⟨a1 rfl,rfl⟩ (.one (.t (sU false zq))) ?_;refine WO.two (i:=7) (j:=13) (by kernel_rfl) ?_ ?_
   ·refine cS 7 rfl (hMq) cR ⟨a1 rfl,a1 rfl,rfl⟩ (kF (bI (aF k != aF k') (k.natAbs/k'.natAbs))) ?_;refine WO.two (i:=11) (j:=13) (by kernel_rfl) ?_ ?_
    ·refine cS 11 rfl (hLr) dY ⟨a1 rfl,rfl⟩ (.one (.t (sU false zr))) ?_;refine WO.two (i:=12) (j:=13) (by kernel_rfl) ?_ ?_
     ·refine cS 12 rfl (hMr) cR ⟨a1 rfl,a1 rfl,rfl⟩ (kF (bI (aF k) (k.natAbs%k'.natAbs))) ?_
      refine eA (key:=5) 13 (by kernel_rfl) rfl rfl aA rfl ⟨rfl,rfl,rfl,rfl,trivial⟩ ?_
      refine aR 15 (by kernel_rfl) rfl rfl aA rfl rfl rfl rfl ⟨rfl,rfl,rfl,rfl,trivial⟩ ?_
      refine dst 16 ?_;refine aO ?_
      exact⟨(),trivial,aJ h0 [1,2,3,5,4] _ _ (by decide) ⟨rfl,rfl,rfl,rfl,rfl,rfl,trivial⟩ ⟨oe rfl rfl,oe rfl rfl,oe rfl rfl,oe rfl rfl,oe rfl rfl,rfl⟩⟩
     refine bP (key:=5) 13 rfl rfl aA rfl ⟨rfl,rfl,rfl,rfl,trivial⟩ ?_;refine aI 12 rfl (hMr) cR ⟨a1 rfl,a1 rfl,rfl⟩ (kF (bI (aF k) (k.natAbs%k'.natAbs))) ?_
     refine aR 15 (by kernel_rfl) rfl rfl aA rfl rfl rfl rfl ⟨rfl,rfl,rfl,rfl,trivial⟩ ?_
     refine dst 16 ?_;refine aO ?_
     exact⟨(),trivial,aJ h0 [1,2,3,5,4] _ _ (by decide) ⟨rfl,rfl,rfl,rfl,rfl,rfl,trivial⟩ ⟨oe rfl rfl,oe rfl rfl,oe rfl rfl,oe rfl rfl,oe rfl rfl,rfl⟩⟩
    refine bP (key:=5) 13 rfl rfl aA rfl ⟨rfl,rfl,rfl,rfl,trivial⟩ ?_;refine aI 11 rfl (hLr) dY ⟨a1 rfl,rfl⟩ (.one (.t (sU false zr))) ?_
    refine aI 12 rfl (hMr) cR ⟨a1 rfl,a1 rfl,rfl⟩ (kF (bI (aF k) (k.natAbs%k'.natAbs))) ?_
    refine aR 15 (by kernel_rfl) rfl rfl aA rfl rfl rfl rfl ⟨rfl,rfl,rfl,rfl,trivial⟩ ?_
    refine dst 16 ?_;refine aO ?_
    exact⟨(),trivial,aJ h0 [1,2,3,5,4] _ _ (by decide) ⟨rfl,rfl,rfl,rfl,rfl,rfl,trivial⟩ ⟨oe rfl rfl,oe rfl rfl,oe rfl rfl,oe rfl rfl,oe rfl rfl,rfl⟩⟩
   refine bP (key:=5) 13 rfl rfl aA rfl ⟨rfl,rfl,rfl,rfl,trivial⟩ ?_;refine aI 7 rfl (hMq) cR ⟨a1 rfl,a1 rfl,rfl⟩ (kF (bI (aF k != aF k') (k.natAbs/k'.natAbs))) ?_
   refine aI 11 rfl (hLr) dY ⟨a1 rfl,rfl⟩ (.one (.t (sU false zr))) ?_;refine aI 12 rfl (hMr) cR ⟨a1 rfl,a1 rfl,rfl⟩ (kF (bI (aF k) (k.natAbs%k'.natAbs))) ?_
   refine aR 15 (by kernel_rfl) rfl rfl aA rfl rfl rfl rfl ⟨rfl,rfl,rfl,rfl,trivial⟩ ?_
   refine dst 16 ?_;refine aO ?_
   exact⟨(),trivial,aJ h0 [1,2,3,5,4] _ _ (by decide) ⟨rfl,rfl,rfl,rfl,rfl,rfl,trivial⟩ ⟨oe rfl rfl,oe rfl rfl,oe rfl rfl,oe rfl rfl,oe rfl rfl,rfl⟩⟩
  refine bP (key:=5) 13 rfl rfl aA rfl ⟨rfl,rfl,rfl,rfl,trivial⟩ ?_;refine aI 6 rfl (hLq) dY ⟨a1 rfl,rfl⟩ (.one (.t (sU false zq))) ?_
  refine aI 7 rfl (hMq) cR ⟨a1 rfl,a1 rfl,rfl⟩ (kF (bI (aF k != aF k') (k.natAbs/k'.natAbs))) ?_;refine aI 11 rfl (hLr) dY ⟨a1 rfl,rfl⟩ (.one (.t (sU false zr))) ?_
  refine aI 12 rfl (hMr) cR ⟨a1 rfl,a1 rfl,rfl⟩ (kF (bI (aF k) (k.natAbs%k'.natAbs))) ?_;refine aR 15 (by kernel_rfl) rfl rfl aA rfl rfl rfl rfl ⟨rfl,rfl,rfl,rfl,trivial⟩ ?_
  refine dst 16 ?_;refine aO ?_
  exact⟨(),trivial,aJ h0 [1,2,3,5,4] _ _ (by decide) ⟨rfl,rfl,rfl,rfl,rfl,rfl,trivial⟩ ⟨oe rfl rfl,oe rfl rfl,oe rfl rfl,oe rfl rfl,oe rfl rfl,rfl⟩⟩
 have hlq:(dg 4294967296 (bI (aF k != aF k') (k.natAbs/k'.natAbs)).natAbs).length≤(dg 4294967296 (k).natAbs).length:=by rw[gV];exact fN (Nat.div_le_self _ _)
 have hlr:(dg 4294967296 (bI (aF k) (k.natAbs%k'.natAbs)).natAbs).length≤(dg 4294967296 (k).natAbs).length:=by rw[gV];exact fN (Nat.mod_le _ _)
 refine sq ?_;refine sq ?_;refine rd [0,1,2,3,4] (fun i=>[].contains i) mixed ?_
 refine aX 0 ?_;refine aI 1 rfl (kL (Zn.of (k:=bI (aF k) (k.natAbs%k'.natAbs)) (by omega))) tD ⟨aB rfl,rfl⟩ (.one (tv (.int .i64 (bI (aF k) (k.natAbs%k'.natAbs)).sign))) ?_
 refine df 2 ?_;refine df 3 ?_;refine WD.split (t:=47) rfl rfl (fun h6=>?_) (fun h6=>?_)
 ·refine aX 4 ?_;refine aX 6 ?_
  refine aI 5 rfl (kL (Zn.of (k:=bI (aF k) (k.natAbs%k'.natAbs)) (by omega))) tD ⟨aB rfl,rfl⟩ (.one (tv (.int .i64 (bI (aF k) (k.natAbs%k'.natAbs)).sign))) ?_
  refine aI 7 rfl (kL (Zn.of (k:=k') (by omega))) tD ⟨aB rfl,rfl⟩ (.one (tv (.int .i64 (k').sign))) ?_
  refine df 8 ?_;refine df 9 ?_;refine aO ?_;refine bU rfl (fun h7=>?_) (fun h7=>?_)
  ·refine sq ?_;refine rd [0,1,2,3,4] (fun i=>[2,3].contains i) mixed ?_
   refine aX 0 ?_;have hol:(dg 4294967296 (1:Int).natAbs).length≤1:=bX (by omega) (by decide)
   refine aI 1 rfl (mA (n:=1) (by omega) (by omega)) pB ⟨a1 rfl,rfl⟩ (kF (1:Int)) ?_
   refine aI 2 rfl (Ef (Zn.of (k:=bI (aF k != aF k') (k.natAbs/k'.natAbs)) (by omega)) (Zn.of (k:=(1:Int)) (by omega))) To ⟨aB rfl,aB rfl,rfl⟩ (kF (bI (aF k != aF k') (k.natAbs/k'.natAbs)-(1:Int))) ?_
   refine dst 3 ?_;refine aO ?_;refine rl ?_;refine ld ?_;refine ld ?_
   refine ca (mO (Zn.of (k:=bI (aF k) (k.natAbs%k'.natAbs)) (by omega)) (Zn.of (k:=k') (by omega))) tF ⟨aB rfl,aB rfl,rfl⟩ (kF (bI (aF k) (k.natAbs%k'.natAbs)+k')) ?_
   refine st ?_;refine nl ?_;refine sq ?_;refine rd [0,2,3,4] (fun i=>[3,4].contains i) mixed ?_
   refine aX 0 ?_;refine aX 1 ?_;refine aR 2 (by kernel_rfl) rfl rfl aA rfl rfl rfl rfl ⟨rfl,rfl,rfl,rfl,trivial⟩ ?_
   refine dst 3 ?_;refine dF 4 (by kernel_rfl) rfl rfl aA rfl (by trivial) ?_ (fun h=>by first | rfl | cases h)
   refine aO ?_;refine rt ?_;obtain⟨hd1,hd2⟩:=AQ (a:=k) (b:=k') hkn rfl rfl h6 h7
   exact en (.inl rfl) rfl (nP (.cons (.agg (.cons (.id rfl) (.cons (.id rfl) .nil))) (.cons (.agg (.cons (.id rfl) (.cons (.id rfl) .nil))) (.cons (cD _) .nil)))) (by decide) (fun h=>by cases h) (by rw[if_neg hkn,if_neg hkn,if_neg hkn,←hd1,←hd2];rfl)
  refine sk ?_;refine sq ?_;refine rd [0,2,3,4] (fun i=>[3,4].contains i) mixed ?_
  refine aX 0 ?_;refine aX 1 ?_;refine aR 2 (by kernel_rfl) rfl rfl aA rfl rfl rfl rfl ⟨rfl,rfl,rfl,rfl,trivial⟩ ?_
  refine dst 3 ?_;refine dF 4 (by kernel_rfl) rfl rfl aA rfl (by trivial) ?_ (fun h=>by first | rfl | cases h)
  refine aO ?_;refine rt ?_;obtain⟨hd1,hd2⟩:=Kh (a:=k) (b:=k') hkn rfl rfl (.inr (Decidable.byContradiction h7))
  exact en (.inl rfl) rfl (nP (.cons (.agg (.cons (.id rfl) (.cons (.id rfl) .nil))) (.cons (.agg (.cons (.id rfl) (.cons (.id rfl) .nil))) (.cons (cD _) .nil)))) (by decide) (fun h=>by cases h) (by rw[if_neg hkn,if_neg hkn,if_neg hkn,←hd1,←hd2];rfl)
 refine dM 4 ?_;refine dM 6 ?_;refine dM 5 ?_;refine dM 7 ?_;refine dM 8 ?_;refine df 9 ?_;refine aO ?_;refine gQ rfl ?_;refine sk ?_;refine sq ?_
 refine rd [0,2,3,4] (fun i=>[3,4].contains i) mixed ?_
 refine aX 0 ?_;refine aX 1 ?_;refine aR 2 (by kernel_rfl) rfl rfl aA rfl rfl rfl rfl ⟨rfl,rfl,rfl,rfl,trivial⟩ ?_
 refine dst 3 ?_;refine dF 4 (by kernel_rfl) rfl rfl aA rfl (by trivial) ?_ (fun h=>by first | rfl | cases h)
 refine aO ?_;refine rt ?_;obtain⟨hd1,hd2⟩:=Kh (a:=k) (b:=k') hkn rfl rfl (.inl (Decidable.byContradiction h6))
 exact en (.inl rfl) rfl (nP (.cons (.agg (.cons (.id rfl) (.cons (.id rfl) .nil))) (.cons (.agg (.cons (.id rfl) (.cons (.id rfl) .nil))) (.cons (cD _) .nil)))) (by decide) (fun h=>by cases h) (by rw[if_neg hkn,if_neg hkn,if_neg hkn,←hd1,←hd2];rfl)
def bS (o:Bool) (a:Zi):List Tr:=[.v (.bool a.s),sU o a.x]
theorem dJ (o:Bool) (a:Zi):(bS o a).length=2:=rfl
def gO (a:Zi):FV:=.agg ((bS true a).map .t)
def sZ (t:Nat) (zs:List Zi):Tr:=.s false t 2 zs.length (zs.flatMap (bS false))
def gS (zs:List Zi) (k:Nat):Zi:=zs.getD k ⟨false,[]⟩
theorem jZ {zs:List Zi}{k:Nat}(h:k<zs.length):zs[k]? =some (gS zs k):=by simp[gS,h]
theorem De {zs:List Zi}{k:Nat}(h:k<zs.length):gS zs k∈zs:=List.mem_of_getElem? (jZ h)
def zv (a:Zi):Int:=cY a.s a.x
def ZL (L:Nat) (a:Zi):Prop:=Lim 4294967296 a.x∧a.x.length≤L
theorem ZL.n {L:Nat}{a:Zi}(h:ZL L a) (hL:L≤137438953472):Zn a (zv a):=⟨h.1,Nat.le_trans h.2 hL,rfl⟩
def cQ:List Zi→Int
 | []=>0
 | a::l=>zv a+cQ l
theorem Vq (l m:List Zi):cQ (l++m)=cQ l+cQ m:=by
 induction l with
 | nil=>simp[cQ]
 | cons a l ih=>simp only[List.cons_append,cQ,ih];omega
theorem Oe {zs:List Zi}{k:Nat}(h:k<zs.length):cQ (zs.take k)+zv (gS zs k)=cQ (zs.take (k+1)):=by
 rw[List.take_add_one,jZ h,Vq]
 simp[cQ]
theorem JL {a:Zi}{L:Nat}(h:ZL L a):(zv a).natAbs<4294967296^L:=by
 have h1:(dg 4294967296 (zv a).natAbs).length≤a.x.length:=qP h.1
 have h2:=mY (B:=4294967296) (n:=(zv a).natAbs) (by omega)
 exact Nat.lt_of_lt_of_le h2 (Nat.pow_le_pow_right (by omega) (Nat.le_trans h1 h.2))
theorem Df {α:Type}{l:List α}{k:Nat}(h:l.length≤k):l.take k=l:=List.take_of_length_le h
section
variable {α:Type}{f:α→List Tr}{z k o:Nat}{xs:List α}{x x':α}{us:List Tr}
theorem Vr (h:k<xs.length):xs=xs.take k++xs[k]::xs.drop (k+1):=by
 rw[←List.drop_eq_getElem_cons h,List.take_append_drop]
theorem oK (hf:∀x,(f x).length=z) (h:xs[k]? =some x) (hm:o+us.length≤z) (hx:f x'=(f x).take o++us++(f x).drop (o+us.length)):cW ((xs.flatMap f).map AV.t) (0+k*z+o) (us.map AV.t)=((xs.set k x').flatMap f).map .t:=by
 obtain⟨hk,rfl⟩:=List.getElem?_eq_some_iff.1 h
 rw[←Es,Nat.zero_add]
 congr 1
 have hA:((xs.take k).flatMap f).length=k*z:=by rw[bV hf,List.length_take,Nat.min_eq_left (by omega)]
 have e:xs.flatMap f=(xs.take k).flatMap f++(f xs[k]++(xs.drop (k+1)).flatMap f):=by
  conv=>lhs;rw[Vr hk]
  rw[List.flatMap_append,List.flatMap_cons]
 have hl:=hf xs[k]
 rw[List.set_eq_take_append_cons_drop,if_pos hk,List.flatMap_append,List.flatMap_cons,hx,e]
 generalize (xs.take k).flatMap f=A at*
 generalize (xs.drop (k+1)).flatMap f=C at*
 generalize f xs[k]=X at*
 unfold cW
 rw[List.take_append,List.drop_append,hA,List.take_of_length_le (l:=A) (by omega),List.drop_of_length_le (l:=A) (by omega),show k*z+o-k*z=o by omega,show k*z+o+us.length-k*z=o+us.length by omega,List.take_append,List.drop_append,show o-X.length=0 by omega,show o+us.length-X.length=0 by omega]
 simp
theorem zC (hf:∀x,(f x).length=z) (h:k<xs.length) (hm:o+us.length≤z):0+k*z+o+(us.map AV.t).length≤((xs.flatMap f).map AV.t).length:=by
 rw[List.length_map,List.length_map,bV hf]
 have:=Nat.mul_le_mul (show k+1≤xs.length by omega) (Nat.le_refl z)
 rw[Nat.add_mul]at this
 omega
theorem iO (xs:List α) (x:α):(xs.flatMap f).map AV.t++(f x).map .t=((xs++[x]).flatMap f).map .t:=by simp[List.flatMap_append]
end
def fK (ws:List Zi):List AV:=(ws.flatMap (bS true)).map .t
def xO (t:Nat) (zs:List Zi):Tr:=.s true t 2 zs.length (zs.flatMap (bS true))
section
variable {x:Cx}{g:Nat→FV}{ob:List (Option Ob)}{ws:List Zi}{z:Zi}{i j k1 e key:Nat}{y a b:AV}
theorem kJ (ws:List Zi):(fK ws).length=ws.length*2:=by rw[fK,List.length_map,bV (dJ true)]
theorem Rq:∀{zs:List Zi}{i:Nat},i<zs.length→(fK zs)[0+i*2+1]? =some (.t (sU true (gS zs i).x))
 | [],_,h=>by simp at h
 | _::_,0,_=>rfl
 | z::zs,i+1,h=>by
  rw[show 0+(i+1)*2+1=(0+i*2+1)+1+1 by omega]
  exact Rq (zs:=zs) (i:=i) (by simpa using h)
theorem Ku {y:AV}:∀{zs:List Zi}{i:Nat},i<zs.length→(((fK zs).set (0+i*2+1) y).drop (0+i*2)).take 2=[tv (.bool (gS zs i).s),y]
 | [],_,h=>by simp at h
 | _::_,0,_=>rfl
 | z::zs,i+1,h=>by
  rw[show 0+(i+1)*2+1=(0+i*2+1)+1+1 by omega,show 0+(i+1)*2=(0+i*2)+1+1 by omega]
  exact Ku (zs:=zs) (i:=i) (by simpa using h)
theorem zD {y a b:AV}:∀{zs:List Zi}{i:Nat},i<zs.length→cW ((fK zs).set (0+i*2+1) y) (0+i*2) [a,b]=((fK zs).set (0+i*2) a).set (0+i*2+1) b
 | [],_,h=>by simp at h
 | _::_,0,_=>rfl
 | z::zs,i+1,h=>by
  have ih:=zD (y:=y) (a:=a) (b:=b) (zs:=zs) (i:=i) (by simpa using h)
  rw[show 0+(i+1)*2+1=(0+i*2+1)+1+1 by omega,show 0+(i+1)*2=(0+i*2)+1+1 by omega]
  have h3:∀(A:List AV) (p:Nat) (c d:AV),cW (c::d::A) (p+1+1) [a,b]=c::d::cW A p [a,b]:=by
   intro A p c d
   unfold cW
   rw[show p+1+1+[a,b].length=(p+[a,b].length)+1+1 by simp only[List.length_cons,List.length_nil]]
   rfl
  show cW ((_::_::fK zs).set (0+i*2+1+1+1) y) _ _=_
  rw[List.set_cons_succ,List.set_cons_succ,h3,ih]
  rfl
theorem Kv:∀{zs:List Zi}{i:Nat},i<zs.length→((fK zs).set (0+i*2) (tv (.bool z.s))).set (0+i*2+1) (.t (sU true z.x))=fK (zs.set i z)
 | [],_,h=>by simp at h
 | _::_,0,_=>rfl
 | z'::zs,i+1,h=>by
  have ih:=Kv (zs:=zs) (i:=i) (by simpa using h)
  rw[show 0+(i+1)*2+1=(0+i*2+1)+1+1 by omega,show 0+(i+1)*2=(0+i*2)+1+1 by omega,List.set_cons_succ]
  show _=_::_::fK (zs.set i z)
  rw[←ih]
  rfl
theorem Om (h:i<ws.length):0+i*2+[a,b].length≤((fK ws).set (0+i*2+1) y).length:=by rw[List.length_set,kJ];show 0+i*2+2≤_;omega
theorem Vs (ws:List Zi) (z:Zi):fK ws++(bS true z).map .t=fK (ws++[z]):=by simp[fK,List.flatMap_append]
theorem nS (ws:List Zi):(fK ws).take (ws.length*2)=(ws.flatMap (bS true)).map .t:=List.take_of_length_le (by rw[kJ];omega)
theorem MH (hn:Nat.beq j k1=false) (ho:bQ ob j=some ⟨e,2,fK ws++[tv (.bool z.s),.sl k1 0 z.x.length]⟩) (o1:bQ ob k1=some ⟨51,1,(aK z.x).map .t⟩):Sub x g ob g ((ob.set j (some ⟨e,2,fK (ws++[z])⟩)).set k1 none):=
 JT (p:=ws.length*2+1) (e:=51) (z:=1) (n:=z.x.length) (trs:=aK z.x) hn rfl ho o1 (by rw[List.getElem?_append_right (by rw[kJ];omega),kJ,show ws.length*2+1-ws.length*2=1 by omega];rfl) (aV _) (aQ _) (by
  rw[List.set_append_right _ _ (by rw[kJ];omega),kJ,show ws.length*2+1-ws.length*2=1 by omega,←Vs]
  rfl)
theorem JO (hk:dP ob key=true) (ho:bQ ob j=some ⟨e,2,fK ws⟩) (hi:i<ws.length) (hz:gS ws i=z):Sub x g ob g (ob.set j (some ⟨e,2,(fK ws).set (0+i*2+1) (.sl key 0 z.x.length)⟩)++[some ⟨51,1,(aK z.x).map .t⟩]):=
 MX hk rfl ho (hz▸Rq hi) rfl
theorem Ol {y:AV}(hi:i<ws.length) (hz:gS ws i=z):(((fK ws).set (0+i*2+1) y).drop (0+i*2)).take 2=[tv (.bool z.s),y]:=hz▸Ku hi
theorem JP (hn:Nat.beq j k1=false) (hi:i<ws.length) (ho:bQ ob j=some ⟨e,2,((fK ws).set (0+i*2) (tv (.bool z.s))).set (0+i*2+1) (.sl k1 0 z.x.length)⟩) (o1:bQ ob k1=some ⟨51,1,(aK z.x).map .t⟩):Sub x g ob g ((ob.set j (some ⟨e,2,fK (ws.set i z)⟩)).set k1 none):=
 JT (p:=0+i*2+1) (e:=51) (z:=1) (n:=z.x.length) (trs:=aK z.x) hn rfl ho o1 (List.getElem?_set_self (by rw[List.length_set,kJ];omega)) (aV _) (aQ _) (by rw[List.set_set];exact Kv hi)
theorem rD (ws:List Zi):rdTL (ws.flatMap (bS true))=ws.flatMap (bS false):=by
 induction ws with
 | nil=>rfl
 | cons a l ih=>
  rw[List.flatMap_cons,List.flatMap_cons]
  show _::_::rdTL (l.flatMap (bS true))=_
  rw[ih]
  have h:tB (sU true a.x)=sU false a.x:=by
   unfold sU tB
   congr 1
   unfold aK
   induction a.x with
   | nil=>rfl
   | cons n xs ih=>simp only[List.map_cons,rdTL,tB,ih]
  rw[h]
  rfl
end
theorem Vt {L:Nat}{zs:List Zi}(h:∀a∈zs,ZL L a):(cQ zs).natAbs≤zs.length*4294967296^L:=by
 induction zs with
 | nil=>simp[cQ]
 | cons a l ih=>
  have h1:=ih fun b hb=>h b (List.mem_cons_of_mem _ hb)
  have h2:=JL (h a (List.mem_cons_self ..))
  have h3:=Int.natAbs_add_le (zv a) (cQ l)
  rw[List.length_cons,Nat.add_mul]
  simp only[cQ]
  omega
theorem mH {L k:Nat}{zs:List Zi}(h:∀a∈zs,ZL L a) (hl:zs.length≤1000000):(dg 4294967296 (cQ (zs.take k)).natAbs).length≤L+1:=by
 have h1:=Vt (zs:=zs.take k) fun a ha=>h a (List.mem_of_mem_take ha)
 refine bX (by omega) (Nat.lt_of_le_of_lt h1 ?_)
 have h2:(zs.take k).length<4294967296:=by rw[List.length_take];omega
 rw[Nat.pow_succ,Nat.mul_comm]
 exact Nat.mul_lt_mul_of_pos_left h2 (Nat.pow_pos (by omega))
theorem JM (k:Int):zv (.of k)=k:=qN k
theorem Ie (l:List Int):cQ (l.map Zi.of)=fF l:=by
 induction l with
 | nil=>rfl
 | cons a l ih=>rw[List.map_cons,cQ,oX,ih,JM]
def aT (l:List Int):List Zi:=l.map Zi.of
theorem cU (l:List Int):(aT l).length=l.length:=by simp[aT]
theorem pX {l:List Int}{k:Nat}(h:k<l.length):gS (aT l) k=.of (bY l k):=by simp[gS,aT,bY,h]
theorem uM (l:List Int) (i:Nat) (k:Int):(aT l).set i (.of k)=aT (l.set i k):=by simp[aT,List.map_set]
theorem Di (l:List Int) (k:Int):aT l++[.of k]=aT (l++[k]):=by simp[aT]
def dD (q:Rat):List Tr:=(Fr4.of q).tr false
theorem dK (q:Rat):(dD q).length=4:=rfl
def Dh (l:List Rat):List AV:=(l.flatMap dD).map .t
theorem Hw (l:List Rat):(Dh l).length=l.length*4:=by rw[Dh,List.length_map,bV dK]
theorem So (l:List Rat) (q:Rat):Dh l++(dD q).map .t=Dh (l++[q]):=iO l q
theorem Yo (l:List Rat):l.flatMap dD=(dZ l).flatMap (Fr4.tr false):=by
 unfold dZ
 rw[List.flatMap_map]
 rfl
theorem sV {L:Nat}{l:List Rat}(h:∀q∈l,Sz L q) (hL:L≤68719476736):∀x∈dZ l,x.ok:=fun x hx=>by
 obtain⟨q,hq,rfl⟩:=List.mem_map.1 hx
 exact(Qn.of (h q hq) hL).1
theorem xL {L:Nat}{l:List Rat}(h:∀q∈l,Sz L q):∀x∈dZ l,Sz L x.q:=fun x hx=>by
 obtain⟨q,hq,rfl⟩:=List.mem_map.1 hx
 rw[Fr4.q_of]
 exact h q hq
theorem mJ {l:List Rat}{k:Nat}(h:k<l.length):l.take (k+1)=l.take k++[bG l k]:=by rw[List.take_add_one,kB h];rfl
theorem oL {l:List Int}{k:Nat}(h:k<l.length):l.take (k+1)=l.take k++[bY l k]:=by rw[List.take_add_one,lR h];rfl
section
variable {x:Cx}{g:Nat→FV}{ob:List (Option Ob)}
theorem DG {i k t z n:Nat}{l:List Tr}{fv fv':FV}(t':Nat) (hi:Nat.blt i x.n=true) (hg:g i=fv) (ho:bQ ob k=some ⟨t,z,l.map .t⟩) (hz:l.length=n*z) (hf:FzF (.sl k 0 n) (.s false t' z n l) fv fv'):Sub x g ob (aW g i fv') (ob.set k none):=zS hi hg ho hf (Ew t' ho hz)
end
def iD (T:Rat) (b:Int) (ws:List Rat):List Rat:=
 if b<0∨(ws.length:Int)≤b then []
 else if aC (ws.map bZ)=0 then(List.replicate ws.length 0).set b.toNat T
 else ws.map fun w=>T*bZ w/aC (ws.map bZ)
def xN (b:Int) (n:Nat):Int:=if b<0∨(n:Int)≤b then 2 else 0
theorem zB {T:Rat}{b:Int}{ws:List Rat}(h:b<0∨(ws.length:Int)≤b):iD T b ws=[]:=if_pos h
theorem Id {b:Int}{n:Nat}(h:b<0∨(n:Int)≤b):xN b n=2:=if_pos h
theorem Of {m n:Nat}(h:m<n):xN (m:Int) n=0:=if_neg (by omega)
theorem Sp {T:Rat}{m:Nat}{ws:List Rat}(h:m<ws.length) (h0:aC (ws.map bZ)=0):iD T (m:Int) ws=(List.replicate ws.length 0).set m T:=by
 unfold iD
 rw[if_neg (by omega),if_pos h0]
 rfl
theorem Ys {T:Rat}{m:Nat}{ws:List Rat}(h:m<ws.length) (h0:aC (ws.map bZ)≠0):iD T (m:Int) ws=ws.map fun w=>T*bZ w/aC (ws.map bZ):=by
 unfold iD
 rw[if_neg (by omega),if_neg h0]
theorem Ic {L:Nat}{k:Int}(h:jO L k) (hL:1≤L):Sz L (k:Rat):=by
 refine⟨by rw[Rat.num_intCast];exact h,?_⟩
 rw[Rat.den_intCast]
 exact hL
def mK (l:List Rat) (k:Nat):List Rat:=List.replicate k 0++l.drop k
section
variable {l:List Rat}{f:Rat→Rat}{k:Nat}
theorem pU (h:k≤l.length):(mK l k).length=l.length:=by simp[mK];omega
theorem HF (h:k<l.length):(mK l k).set k 0=mK l (k+1):=by
 unfold mK
 rw[List.set_append_right _ _ (by simp),List.length_replicate,Nat.sub_self,List.drop_eq_getElem_cons h,List.set_cons_zero,List.replicate_succ']
 simp
theorem Yq (h:l.length≤k):mK l k=List.replicate k 0:=by rw[mK,List.drop_of_length_le h,List.append_nil]
def lK (f:Rat→Rat) (l:List Rat) (k:Nat):List Rat:=(l.take k).map f++l.drop k
theorem uL:(lK f l k).length=l.length:=by simp[lK];omega
theorem Yr (h:k<l.length):bG (lK f l k) k=bG l k:=by
 unfold bG lK
 rw[List.getD_eq_getElem?_getD,List.getElem?_append_right (by rw[List.length_map,List.length_take];omega),List.length_map,List.length_take,Nat.min_eq_left (by omega),Nat.sub_self,List.getElem?_drop,List.getD_eq_getElem?_getD]
 rfl
theorem HH (h:k<l.length):(lK f l k).set k (f (bG l k))=lK f l (k+1):=by
 unfold lK
 have e:bG l k=l[k]:=by simp[bG,h]
 rw[List.set_append_right _ _ (by rw[List.length_map,List.length_take];omega),List.length_map,List.length_take,Nat.min_eq_left (by omega),Nat.sub_self,List.drop_eq_getElem_cons h,List.set_cons_zero,mJ h,List.map_append,e]
 simp
theorem Yt (h:l.length≤k):lK f l k=l.map f:=by rw[lK,List.drop_of_length_le h,List.take_of_length_le h,List.append_nil]
end
theorem Ia (xs:List Fr4):(xs.map Fr4.q).map bZ=xs.map fun x=>bZ x.q:=by rw[List.map_map];rfl
theorem rB {L:Nat}:∀{l:List Rat},(∀q∈l,Sz L q)→Sz (2+l.length*(L+1)) (aC l)
 | [],_=>by simpa[aC]using kU (z:=0) (by omega) (by omega)
 | a::l,h=>by
  have h1:=rB (l:=l) fun q hq=>h q (List.mem_cons_of_mem _ hq)
  have h2:=h a (List.mem_cons_self ..)
  rw[kQ]
  exact(sP h2 h1).mono (by rw[List.length_cons,Nat.add_mul];omega)
theorem Yp {xs:List Fr4}{f:Rat→Rat}{k:Nat}(h:k<xs.length):bG ((xs.map Fr4.q).map f) k=f (bD xs k).q:=by simp[bG,bD,h]
section
variable {l:List Rat}{k:Nat}{f:Int→Int}{z:List Int}
def cT (l:List Rat):List Rat:=l.map fun x=>-x
theorem rE:(cT l).length=l.length:=by simp[cT]
theorem oF:aC (cT l)=-aC l:=FW l
theorem wI (h:(aC l).den≠1):cK l=[]:=if_neg h
theorem Dm (h:(aC l).den=1) (h0:aC l<0) (h1:(cT l).any (fun x=>decide (x<0))=true):cK l=[]:=by
 unfold cK
 rw[if_pos h,if_pos h0]
 exact if_pos h1
theorem wH (h:(aC l).den=1) (h0:¬aC l<0) (h1:l.any (fun x=>decide (x<0))=true):cK l=[]:=by
 unfold cK
 rw[if_pos h,if_neg h0]
 exact if_pos h1
theorem uN (h:(aC l).den=1) (h0:¬aC l<0) (h1:l.any (fun x=>decide (x<0))=false):cK l=eV l:=by
 unfold cK
 rw[if_pos h,if_neg h0]
 exact if_neg (by rw[h1];simp)
theorem Wj (h:(aC l).den=1) (h0:aC l<0) (h1:(cT l).any (fun x=>decide (x<0))=false):cK l=(cK (cT l)).map fun x=>-x:=by
 have h2:¬aC (cT l)<0:=by rw[oF];grind
 rw[uN (l:=cT l) (by rw[oF,Rat.neg_den];exact h) h2 h1]
 unfold cK
 rw[if_pos h,if_pos h0]
 exact if_neg (by rw[show(l.map fun x=>-x)=cT l from rfl,h1];simp)
theorem Dn (h0:aC l<0):¬aC (cT l)<0:=by rw[oF];grind
theorem Yy (l:List Rat):((dZ l).any fun x=>decide (x.q<0))=l.any fun x=>decide (x<0):=by
 unfold dZ
 rw[List.any_map]
 congr 1
 funext q
 simp[Fr4.q_of]
def gP (f:Int→Int) (z:List Int) (k:Nat):List Int:=(z.take k).map f++z.drop k
theorem lP:(gP f z k).length=z.length:=by simp[gP];omega
theorem HZ:gP f z 0=z:=rfl
theorem Ig (h:k<z.length):bY (gP f z k) k=bY z k:=by
 unfold bY gP
 rw[List.getD_eq_getElem?_getD,List.getElem?_append_right (by rw[List.length_map,List.length_take];omega),List.length_map,List.length_take,Nat.min_eq_left (by omega),Nat.sub_self,List.getElem?_drop,List.getD_eq_getElem?_getD]
 rfl
theorem Wi (h:k<z.length):(gP f z k).set k (f (bY z k))=gP f z (k+1):=by
 unfold gP
 have e:bY z k=z[k]:=by simp[bY,h]
 rw[List.set_append_right _ _ (by rw[List.length_map,List.length_take];omega),List.length_map,List.length_take,Nat.min_eq_left (by omega),Nat.sub_self,List.drop_eq_getElem_cons h,List.set_cons_zero,oL h,List.map_append,e]
 simp
theorem Ii (h:z.length≤k):gP f z k=z.map f:=by rw[gP,List.drop_of_length_le h,List.take_of_length_le h,List.append_nil]
theorem It {L t i:Nat}(hs:∀q∈l,Sz L q) (hi:i<l.length):(dg 4294967296 (bY (dS l t) i).natAbs).length≤L+2:=by
 rw[pV hi]
 have h1:=mL (bG l i)
 have h2:=(hs _ (eB hi)).1
 have h5:=gL (fl (bG l i)) (if i∈(cA l).take t then 1 else 0)
 have h6:(dg 4294967296 (if i∈(cA l).take t then(1:Int)else 0).natAbs).length≤1:=by split <;> decide
 omega
theorem zK {L:Nat}(hs:∀q∈l,Sz L q):∀k∈eV l,(dg 4294967296 k.natAbs).length≤L+2:=fun k hk=>by
 obtain⟨i,hi⟩:=List.mem_iff_getElem?.1 hk
 have h1:=(List.getElem?_eq_some_iff.1 hi).1
 rw[lR h1]at hi
 obtain rfl:=Option.some.inj hi
 exact It hs (by rwa[pY]at h1)
theorem Ih {L:Nat}(hs:∀q∈l,Sz L q):∀k∈cK l,(dg 4294967296 k.natAbs).length≤L+2:=fun k hk=>by
 unfold cK at hk
 split at hk
 ·split at hk
  ·split at hk
   ·cases hk
   obtain⟨j,hj,rfl⟩:=List.mem_map.1 hk
   rw[Int.natAbs_neg]
   exact zK (fun q hq=>by obtain⟨p,hp,rfl⟩:=List.mem_map.1 hq;exact mM (hs p hp)) j hj
  split at hk
  ·cases hk
  exact zK hs k hk
 cases hk
theorem Sx:(cK l).length≤l.length:=by
 unfold cK
 split
 ·split
  ·split
   ·simp
   rw[List.length_map,pY,List.length_map];exact Nat.le_refl _
  split
  ·simp
  rw[pY];exact Nat.le_refl _
 simp
end
section
variable {x:Cx}{g:Nat→FV}{ob:List (Option Ob)}
theorem JQ {i t t' z n:Nat}{o:Bool}{l:List Tr}(hi:Nat.blt i x.n=true) (h:g i=.agg [.t (.s o t z n l)]):Sub x g ob (aW g i (.agg [.t (.s false t' z n l)])) ob:=xQ hi fun W N cs u hu=>by
 rw[h]at hu
 simp only[bE,bM]at hu⊢
 obtain⟨us,e,h2⟩:=hu
 refine⟨us,e,?_⟩
 cases us with
 | nil=>simp only[ARL]at h2
 | cons v us=>
  simp only[ARL,AR,FR]at h2⊢
  exact h2
end
def aN (l:List Rat):List Rat:=if aC l<0 then cT l else l
section
variable {l:List Rat}{k i t:Nat}
theorem Io:(aN l).length=l.length:=by unfold aN;split <;> simp[cT]
theorem qS (h:aC l<0):aN l=cT l:=if_pos h
theorem vK (h:¬aC l<0):aN l=l:=if_neg h
theorem Ed (h:aC l<0) (hk:k<l.length):bG (aN l) k=-bG l k:=by rw[qS h];exact Vo (g:=fun x=>-x) hk
theorem Ee (h:¬aC l<0):bG (aN l) k=bG l k:=by rw[vK h]
theorem Rr {p:Rat→Bool}(hk:k<l.length) (h:p (bG l k)=true):l.any p=true:=List.any_eq_true.2 ⟨_,eB hk,h⟩
theorem GC {p:Rat→Bool}(h:∀j,j<l.length→p (bG l j)=false):l.any p=false:=by
 rw[List.any_eq_false]
 intro x hx
 obtain⟨j,hj⟩:=List.mem_iff_getElem?.1 hx
 have hl:=(List.getElem?_eq_some_iff.1 hj).1
 rw[kB hl]at hj
 rw[←Option.some.inj hj,h j hl]
 simp
theorem Iq (hd:(aC l).den=1) (hk:k<l.length) (h:bG (aN l) k<0):cK l=[]:=by
 by_cases h0:aC l<0
 ·refine Dm hd h0 (Rr (k:=k) (by rw[rE];exact hk) ?_)
  rw[qS h0]at h
  exact decide_eq_true h
 refine wH hd h0 (Rr (k:=k) hk ?_)
 rw[vK h0]at h
 exact decide_eq_true h
theorem Kw:aC (aN l)=if aC l<0 then-aC l else aC l:=by
 unfold aN
 split
 ·exact oF
 rfl
theorem Zf (hd:(aC l).den=1):(aC (aN l)).den=1:=by
 rw[Kw]
 split
 ·rw[Rat.neg_den];exact hd
 exact hd
theorem BK (hd:(aC l).den=1):(((fl (aC l)).natAbs:Nat):Int)=(aC (aN l)).num:=by
 rw[Dl hd,Kw]
 split
 ·rename_i h
  have:=gC.2 h
  rw[Rat.neg_num]
  omega
 rename_i h
 have:¬(aC l).num<0:=fun h9=>h (gC.1 h9)
 omega
theorem Tp (hd:(aC l).den=1):(((fl (aC l)).natAbs:Nat):Int)-fF ((aN l).map fl)=eI (aN l):=by rw[BK hd];rfl
theorem Oy {z:List Int}(h:k<z.length):fF (z.take (k+1))=fF (z.take k)+bY z k:=by
 rw[oL h,Vm]
 simp[fF]
theorem GD (h:∀j,j<l.length→¬bG (aN l) j<0):(aN l).any (fun x=>decide (x<0))=false:=GC fun j hj=>decide_eq_false (h j (by rwa[Io]at hj))
theorem Iu (hd:(aC l).den=1) (h:∀j,j<l.length→¬bG (aN l) j<0):cK l=if aC l<0 then(eV (aN l)).map (fun x=>-x)else eV (aN l):=by
 have h1:=GD h
 by_cases h0:aC l<0
 ·rw[if_pos h0,qS h0,Wj hd h0 (by rw[←qS h0];exact h1),uN (by rw[oF,Rat.neg_den];exact hd) (Dn h0) (by rw[←qS h0];exact h1)]
 rw[if_neg h0,vK h0,uN hd h0 (by rw[←vK h0];exact h1)]
def jR (l:List Rat) (t:Nat):List Bool:=(List.range l.length).map fun i=>decide (i∈(cA l).take t)
def Al (l:List Bool) (k:Nat):Bool:=l.getD k false
theorem nF:(jR l t).length=l.length:=by simp[jR]
theorem Kx (h:i<l.length):Al (jR l t) i=decide (i∈(cA l).take t):=by simp[jR,Al,h]
theorem HU:jR l 0=List.replicate l.length false:=by
 apply List.ext_getElem?
 intro i
 by_cases h:i<l.length
 ·simp[jR,h]
 simp[jR,h]
theorem HW (h:t<l.length):(jR l t).set (nth (cA l) t) true=jR l (t+1):=by
 apply List.ext_getElem?
 intro i
 rw[List.getElem?_set]
 have hlt:nth (cA l) t<l.length:=pW (f:=nR l) h
 have h1:i∈(cA l).take (t+1)↔i∈(cA l).take t∨i=nth (cA l) t:=Ks (f:=nR l) (i:=i) h
 by_cases hi:i<l.length
 ·have e2:(jR l (t+1))[i]? =some (decide (i∈(cA l).take (t+1))):=by simp[jR,hi]
  have e1:(jR l t)[i]? =some (decide (i∈(cA l).take t)):=by simp[jR,hi]
  rw[e2,e1]
  by_cases e:nth (cA l) t=i
  ·rw[if_pos e,if_pos (by rw[nF];exact hlt),decide_eq_true (h1.2 (.inr e.symm))]
  rw[if_neg e]
  congr 1
  rw[decide_eq_decide,h1]
  exact⟨.inl,fun h9=>h9.elim id fun h8=>absurd h8.symm e⟩
 rw[if_neg (fun e=>by omega),List.getElem?_eq_none (by rw[nF];omega),List.getElem?_eq_none (by rw[nF];omega)]
end
def bT (xs:List Bool):List Tr:=xs.map fun b=>.v (.bool b)
theorem KO (xs:List Bool){k:Nat}(h:k<xs.length):((bT xs).map AV.t)[0+k*1]? =some (tv (.bool (Al xs k))):=by simp[bT,Al,h,tv]
theorem HV (xs:List Bool){k:Nat}{v:Bool}(h:k<xs.length):cW ((bT xs).map AV.t) (0+k*1) [tv (.bool v)]=(bT (xs.set k v)).map .t:=by
 unfold cW
 have e:0+k*1=k:=by omega
 rw[e,←List.map_take,←List.map_drop]
 show _=(List.map _ (xs.set k v)).map _
 rw[List.set_eq_take_append_cons_drop,if_pos h]
 simp[bT,tv]
theorem KQ (xs:List Bool){k:Nat}{a:AV}(h:k<xs.length):0+k*1+[a].length≤((bT xs).map AV.t).length:=by simp[bT];omega
theorem DU (n:Nat):(List.replicate n (Value.bool false)).map tv=(bT (List.replicate n false)).map .t:=by simp[bT,tv]
section
variable {x:Cx}{g:Nat→FV}{ob ob':List (Option Ob)}{Q:Post}{ops:Array Oper}{rest:List Oper}{d:Nat}{ty:TypeId}{pos:String}{af:Array Edge}{gd:Option (Nat×Bool)}{T:List (Nat×TI)}
theorem GF {t e by_ k m:Nat}{ti:Bool}{ts0:Nat}{z0:List Value}{k1 k2:IntKind}{a b:Operand}(hT:bR x.P T) (ht:bN T t=some ⟨ti,ts0,z0,.sl e 1 by_ (.bool false)⟩) (ha:lk x.n g a=.one (tv (.int k1 (m:Int)))) (hb:lk x.n g b=.one (tv (.int k2 (m:Int)))) (hby:by_≤16) (hm:m≤8796093022208) (hk:dP ob k=true):
  OS x ⟨some d,.makeSlice t a b,ty,pos,af,gd⟩ g ob [] (fun g' ob2=>g'=aW g d (.one (.sl k 0 m))∧ob2=ob++[some ⟨e,1,(List.replicate m (Value.bool false)).map tv⟩]):=by
 obtain⟨_,hel⟩:=(cZ hT ht).2.2.2
 obtain⟨hu,i,hi,hz,hsize,hby',hzs,hsz⟩:=hel
 subst hby'
 have hk:=Nat.eq_of_beq_eq_true hk
 subst hk
 intro cs ts W hR K Q' kk'
 have e1:=hR.lk a
 rw[ha]at e1
 have e1:=aS e1
 have e2:=hR.lk b
 rw[hb]at e2
 have e2:=aS e2
 have hmul:i.bytes*m≤16*8796093022208:=Nat.mul_le_mul hby hm
 obtain⟨w',hrun,h1,h2⟩:=run_make_full (P:=x.P) W 0 t e i (.bool false) 1 hu hi hz hsize k1 k2 m (by omega) (by unfold maxLen;omega) (Nat.zero_le _)
 have hrun':(execOp (Act.eval ⟨ts,[]⟩) ⟨some d,.makeSlice t a b,ty,pos,af,gd⟩).run x.P W=.ok (.value (.slice (some ⟨W.heap.size,0,none⟩) m m)) w':=by
  simp[execOp,e1,e2,hrun]
 have e0:(madeCells (Value.bool false).cells (m*1)).toList=List.replicate m (.bool false):=by
  rw[Nat.mul_one]
  show(madeCells #[Value.bool false] m).toList=_
  rw[toList_madeCells_one]
 rw[e0]at h1
 generalize hus:List.replicate m (Value.bool false)=us at h1 kk'
 have hbl:Below W.heap.size W w':=(Below.refl _ _).grown h2 (Nat.le_refl _) (fun k hk=>by cases hk)
 rcases h1.2 with⟨hh,_⟩ | ⟨g1,cap,cur,hv,_,hg,hnc,hcm,hcs,htake⟩
 ·injection hh with h3;cases h3
 injection hv with q1 q2 q3
 injection q1 with q1
 injection q1 with q1
 subst q1 q3
 have hlt:W.heap.size<w'.heap.size:=(Array.getElem?_eq_some_iff.1 hg).1
 have hcur:cur.toList=us:=by
  have h9:cur.toList.length=m*1:=by simpa using hcs
  rw[←htake,List.take_of_length_le (by omega)]
 have hS:∀b∈(aG (some ⟨e,1,us.map tv⟩) ⟨some W.heap.size,m,us.map .w⟩).S,W.heap.size≤b∧b<w'.heap.size:=by
  intro b hb
  simp[aG,jB]at hb
  subst hb
  exact⟨Nat.le_refl _,hlt⟩
 have hown:∀b∈cF (ob++[some ⟨e,1,us.map tv⟩]) (cs++[⟨some W.heap.size,m,us.map .w⟩]),b∈cF ob cs∨W.heap.size≤b:=by
  intro b hb
  unfold cF aE at hb
  rw[List.zipWith_append hR.len,List.flatMap_append,List.mem_append]at hb
  rcases hb with hb | hb
  ·exact .inl hb
  exact .inr (hS b (by simpa using hb)).1
 have m1:RelC x g (ob++[some ⟨e,1,us.map tv⟩]) (cs++[⟨some W.heap.size,m,us.map .w⟩]) ts w':=by
  refine hR.push hbl _ _ ?_ hS (by simp[aG,jB]) ?_ (fun e=>by cases e)
  ·have hul:us.length=m:=by rw[←hus,List.length_replicate]
   simp only[aG,oS]
   refine⟨⟨[],?_,by simp[hul]⟩,oR _,hcm⟩
   rw[List.append_nil,hg,←hcur]
  exact nX (kX _) (tK _)
 refine eD hrun' (kk' _ _ _ _ _ ⟨rfl,rfl⟩ (m1.put d ?_) ((Aft.mk .app (fun k _ hk=>jT hk) hbl.size (fun b hlt _=>hbl.block b hlt) hown (fun _ _=>rfl):Aft [] (some d) ob cs ts W _ _ ts w').then_put _))
 refine fS ?_
 simp only[AR]
 rw[hR.len,fD]
 exact⟨by simp[hR.len],0,m,rfl,Nat.le_refl _,hcm,fun _=>rfl,fun _=>rfl⟩
theorem MJ {t e by_ m:Nat}{ti:Bool}{ts0:Nat}{z0:List Value}{k1 k2:IntKind}{a b:Operand}(key:Nat) (hm:m≤8796093022208){l:List AV}(hl:(List.replicate m (Value.bool false)).map tv=l) (k:WL x ops rest (aW g d (.one (.sl key 0 m))) (ob++[some ⟨e,1,l⟩]) Q) (hT:bR x.P ttab:=by exact aA) (hw:aY ops x.n g gd=some true:=by rfl)
  (ht:bN ttab t=some ⟨ti,ts0,z0,.sl e 1 by_ (.bool false)⟩:=by rfl) (ha:lk x.n g a=.one (tv (.int k1 (m:Int))):=by rfl) (hb:lk x.n g b=.one (tv (.int k2 (m:Int))):=by rfl) (hby:by_≤16:=by decide) (hk:dP ob key=true:=by rfl):WL x ops (⟨some d,.makeSlice t a b,ty,pos,af,gd⟩::rest) g ob Q:=by
 subst hl
 exact gA (GF hT ht ha hb hby hm hk) hw (by rintro _ _ ⟨rfl,rfl⟩;exact k)
end
section
variable {x:Cx}{g:Nat→FV}{ob:List (Option Ob)}{ws:List Zi}{z:Zi}{l:List Rat}{i k n t:Nat}
theorem Tm {i:Nat}{v v':FV}(hi:Nat.blt i x.n=true) (hg:g i=v) (h:v=v'):Sub x g ob (aW g i v') ob:=xQ hi fun W N cs u hu=>by
 rw[hg]at hu
 rwa[←h]
theorem Ls (h:k<l.length):(((dZ l).flatMap (Fr4.tr false)).drop (k*4)).take ((Fr4.of (bG l k)).tr false).length=(Fr4.of (bG l k)).tr false:=by
 have h1:=iN (dZ l) (k:=k) (by rw[gT];exact h)
 rwa[BG h]at h1
theorem DV (h:ws.length=i):(((ws.flatMap (bS false)).map AV.t++(bS false z).map AV.t).drop (0+i*2)).take 2=(bS false z).map AV.t:=by
 rw[List.drop_left' (by rw[List.length_map,bV (dJ false),h];omega)]
 exact List.take_of_length_le (by simp[bS])
theorem Wl (h:i<ws.length) (hz:gS ws i=z):(((ws.flatMap (bS false)).map AV.t).drop (0+i*2)).take 2=(bS false z).map AV.t:=by
 have h1:=Aw (f:=bS false) (z:=2) (o:=0) (us:=bS false z) (dJ false) (jZ h) (Nat.le_of_ble_eq_true rfl) (by rw[hz];rfl)
 exact h1
theorem Oz (h:i<ws.length):cW ((ws.flatMap (bS false)).map AV.t) (0+i*2) ((bS false z).map AV.t)=((ws.set i z).flatMap (bS false)).map .t:=by
 have h1:=oK (f:=bS false) (z:=2) (o:=0) (x':=z) (us:=bS false z) (dJ false) (jZ h) (Nat.le_of_ble_eq_true rfl) (by simp[bS])
 exact h1
theorem Wm (h:i<ws.length):0+i*2+((bS false z).map AV.t).length≤((ws.flatMap (bS false)).map AV.t).length:=by
 rw[List.length_map,List.length_map,bV (dJ false)]
 show 0+i*2+2≤_
 omega
end
section
variable {l:List Rat}{i t:Nat}
theorem Zh (h:i<l.length) (hb:(!(Al (jR l t) i))=false):i∈(cA l).take t:=by
 rw[Kx h]at hb
 simpa using hb
theorem Is (h:i<l.length) (hb:(!(Al (jR l t) i))=true):i∉(cA l).take t:=by
 rw[Kx h]at hb
 simpa using hb
theorem BL {L:Nat}{z:List Int}(h:∀k∈z,(dg 4294967296 k.natAbs).length≤L) (hl:z.length≤1000000):(dg 4294967296 (fF z).natAbs).length≤L+1:=by
 have h1:=mH (zs:=aT z) (k:=(aT z).length) (L:=L) (fun a ha=>by
  obtain⟨k,hk,rfl⟩:=List.mem_map.1 ha
  exact⟨aH (by omega) _,h k hk⟩) (by rw[cU];exact hl)
 rw[List.take_length]at h1
 unfold aT at h1
 rwa[Ie]at h1
theorem Tn {K:Int}(hK:(dg 4294967296 K.natAbs).length≤20000) (hs:∀q∈l,Sz 1000 q) (hl:l.length≤12):(dg 4294967296 (K-fF ((l.map fl).take i)).natAbs).length≤30000:=by
 have h1:=wW K (fF ((l.map fl).take i))
 have h2:=BL (L:=1000) (z:=(l.map fl).take i) (fun k hk=>by
  obtain⟨q,hq,rfl⟩:=List.mem_map.1 (List.mem_of_mem_take hk)
  exact Nat.le_trans (mL q) (hs q hq).1) (by rw[List.length_take,List.length_map];omega)
 omega
theorem Eg (hd:(aC l).den=1) (hl:l.length≤12) (ht:(t:Int)≤eI l):(dg 4294967296 (eI l-(t:Int)).natAbs).length≤1:=by
 have h1:=kW hd
 have h2:=sY hd
 exact bX (by omega) (show(eI l-(t:Int)).natAbs<4294967296^1 by omega)
theorem Ze {L:Nat}(h:∀q∈l,Sz L q):∀q∈aN l,Sz L q:=fun q hq=>by
 unfold aN at hq
 split at hq
 ·obtain⟨p,hp,rfl⟩:=List.mem_map.1 hq
  exact mM (h p hp)
 exact h q hq
theorem KL {l:List Rat}(h:∀q∈l,Sz 1000 q) (hl:l.length≤12):Sz 13000 (aC l):=(rB h).mono (by have:=Nat.mul_le_mul hl (Nat.le_refl 1001);omega)
theorem Ir {l:List Rat}{i:Nat}(h:i<l.length):bY (l.map fl) i=fl (bG l i):=by simp[bY,bG,h]
end
end Go.Proofs.YthmgbcdidlkpoaaGreat
