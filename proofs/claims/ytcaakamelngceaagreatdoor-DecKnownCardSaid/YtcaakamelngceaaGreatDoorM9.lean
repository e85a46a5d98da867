/- Part 9 of a proof: A4 to G2. -/
import Derived.Test.YtcaakamelngceaaGreatDoorM8
import Derived.Test.YtcaakamelngceaaGreatDoorM7
import Derived.Test.YtcaakamelngceaaGreatDoorM5
import Derived.Test.YtcaakamelngceaaGreatDoorM6
set_option maxRecDepth 100000
set_option linter.unusedVariables false
set_option linter.unusedSimpArgs false
namespace Go.Proofs.YtcaakamelngceaaGreatDoor
open Go Go.RowKit
theorem Bc {xs:List Nat}(hx:xs.length≤4398046511104):aE false Tryz.prog 148 [] [.one (.t (sI false xs))] (aM (.one (.t (sI false (trim xs))))):=by
 refine bD Tryz.func148 rfl Tryz.ntmps148 rfl aA rfl fun N w c0 h0=>?_
 refine sq ?_;refine rl ?_;refine o1 ?_;refine nl ?_;refine sq ?_;refine bl ?_
 refine lp (γ:=List Nat) (fun zs=>cD [(0,.one (.t (sI false zs)))]) (fun _=>([]:List Ob).map some) (fun zs=>trim zs=trim xs∧zs.length≤xs.length) (fun zs=>zs.length) xs ⟨rfl,Nat.le_refl _⟩ (aO h0 [] _ _ (by decide) ⟨rfl,trivial⟩ rfl) fun zs hz=>?_
 refine sq ?_;refine sq ?_;refine rl ?_;(iterate 4 refine o1 ?_);refine WL.split (t:=6) rfl (fun h1=>?_) (fun h1=>?_)
 ·(iterate 4 refine o1 ?_);refine WL.cast (t:=10) (u':=.int .i64 ((zs.length-1:Nat):Int)) rfl (aH (by omega)) ?_
  refine o1 ?_;refine kD ([.v (.int .i64 ((nth zs (zs.length-1):Nat):Int))]) (eM zs (k:=zs.length-1) (by omega)) ?_
  refine o1 ?_;refine o1 ?_;refine nl ?_;refine bN rfl (fun h2=>?_) (fun h2=>?_)
  ·refine sk ?_;refine bl ?_;refine rl ?_;(iterate 4 refine o1 ?_);refine WL.cast (t:=18) (u':=.int .i64 ((zs.length-1:Nat):Int)) rfl (aH (by omega)) ?_
   refine o1 ?_;refine o1 ?_;refine nl ?_
   exact⟨zs.take (zs.length-1),by rw[List.length_take];omega,⟨(by rw[uH (xs:=zs) (k:=zs.length) (by omega) (Nat.le_refl _) (by omega),List.take_length];exact hz.1),by rw[List.length_take];omega⟩,aO h0 [] _ _ (by decide) ⟨congrArg some (Vx (by omega)).symm,trivial⟩ rfl⟩
  refine ex ?_;refine sq ?_;refine rl ?_;refine o1 ?_;refine o1 ?_;refine nl ?_;refine rt ?_;refine en (.inl rfl) rfl (aV (.one (.id rfl))) (by decide) (fun h=>by cases h) ?_
  have hx:trim xs=zs:=by
   rw[←hz.1];have h9:=pU (xs:=zs) (k:=zs.length) (by omega) (Nat.le_refl _) (by omega)
   rwa[List.take_length]at h9
  rw[hx];rfl
 (iterate 7 refine cG ?_);refine o1 ?_;refine nl ?_;refine fD rfl ?_;refine ex ?_;refine sq ?_;refine rl ?_;refine o1 ?_;refine o1 ?_;refine nl ?_;refine rt ?_
 refine en (.inl rfl) rfl (aV (.one (.id rfl))) (by decide) (fun h=>by cases h) ?_
 have hx:trim xs=zs:=by
  have h9:zs=[]:=List.eq_nil_of_length_eq_zero (by omega)
  rw[←hz.1,h9];rfl
 rw[hx];rfl
theorem lF {xs:List Nat}(hx:xs.length≤1099511627776) (hl:Lim 4294967296 xs):aE false Tryz.prog 99 [] [.one (.t (sU false xs))] (aM (.one (.t (sI false (dg 65536 (vl 4294967296 xs)))))):=by
 refine bD Tryz.func99 rfl Tryz.ntmps99 rfl aA rfl fun N w c0 h0=>?_
 refine sq ?_;refine rl ?_;refine o1 ?_;refine nl ?_;refine sq ?_;refine rl ?_;refine o1 ?_;refine nl ?_;refine sq ?_;refine sq ?_;refine rl ?_;refine o1 ?_;refine nl ?_;refine bl ?_
 refine lp (γ:=Nat) (fun k=>cD [(0,.one (.t (sU false xs))),(3,.one (.sl 0 0 (2*k))),(4,.one (tv (.int .i64 ((k:Nat):Int))))]) (fun k=>[(⟨3,1,(dM (hv (xs.take k))).map .t⟩:Ob)].map some) (fun k=>k≤xs.length) (fun k=>xs.length-k) 0 (Nat.zero_le _) ((nr (i:=3) 0 3 1 rfl rfl rfl rfl).trans (aO h0 [0] _ _ (by decide) ⟨rfl,rfl,rfl,trivial⟩ ⟨cM (l:=[]) rfl,rfl⟩)) fun k hk=>?_
 have hn:=hl.nth (by omega) k
 refine sq ?_;refine sq ?_;refine rl ?_;(iterate 4 refine o1 ?_);refine nl ?_;refine bN rfl (fun h1=>?_) (fun h1=>?_)
 ·refine sk ?_;refine sq ?_;refine bl ?_;refine rd [] (fun i=>[15].contains i) mixed ?_
  refine dv 0 ?_;refine dv 1 ?_;refine dv 2 ?_;refine dv 3 ?_;refine qJ 4 ([.v (.int .u32 ((nth xs (k):Nat):Int))]) (nW xs (k:=k) (by omega)) ?_
  refine dv 5 ?_;refine WD.cast (t:=16) (u':=.int .u32 ((nth xs k%65536:Nat):Int)) rfl (aH (fF _ 65536)) ?_;refine dv 6 ?_;refine dv 7 ?_;refine dv 8 ?_;refine dv 9 ?_
  refine qJ 10 ([.v (.int .u32 ((nth xs (k):Nat):Int))]) (nW xs (k:=k) (by omega)) ?_
  refine dv 11 ?_ (hC:=(fK 65536 (by omega) (by simp only[fX];omega)))
  refine WD.cast (t:=22) (u':=.int .u32 ((nth xs k/65536:Nat):Int)) rfl (aH (eK _ 65536)) ?_;refine dv 12 ?_;refine Hu (key:=1) 13 (by kernel_rfl) rfl rfl aA rfl trivial ?_
  refine CF (j:=2) 14 rfl aA rfl rfl rfl (.sl rfl (by rw[List.length_map,gN,pS,List.length_take];omega)) (.sl rfl rfl rfl) rfl rfl (by omega) (by omega) rfl rfl (by kernel_rfl) rfl ?_
  refine cV 15 (by kernel_rfl) rfl rfl aA rfl (by trivial) ?_ (fun h=>by first | rfl | cases h)
  refine aS ?_;refine rl ?_;(iterate 3 refine o1 ?_);refine nl ?_
  exact⟨k+1,by omega,by omega,aO h0 [2] _ _ (by decide) ⟨rfl,rfl,rfl,trivial⟩ ⟨mA rfl (gO _ [nth xs k%65536,nth xs k/65536]) (Od (by omega)).symm,rfl⟩⟩
 refine ex ?_;refine sq ?_;refine rl ?_;refine WL.sub (vD (i:=3) (zs':=hv xs) rfl rfl rfl (by rw[pS,List.length_take];omega) (by rw[List.take_of_length_le (by omega)])) ?_
 refine o1 ?_;refine ca (Bc (by rw[pS];omega)) Ao ⟨a1 rfl,rfl⟩ (.one (.t (sI false (trim (hv xs))))) ?_
 refine o1 ?_;refine nl ?_;refine rt ?_;exact en (.inl rfl) rfl (aV (.one (.id rfl))) (by decide) (fun h=>by cases h) (by rw[CU hl];rfl)
theorem tT {xs zs:List Nat}(hx:xs.length≤4398046511104) (hl:Lim 65536 xs) (hz:lb xs=zs):aE true Tryz.prog 101 [] [.one (.t (sI false xs))] (aM (.one (.t (sU true zs)))):=by
 refine bD Tryz.func101 rfl Tryz.ntmps101 rfl aA rfl fun N w c0 h0=>?_
 refine sq ?_;refine rl ?_;refine o1 ?_;refine nl ?_;refine sq ?_;refine rl ?_;(iterate 3 refine o1 ?_)
 refine WL.cast (t:=7) (u':=.int .i64 ((xs.length+1:Nat):Int)) rfl (aH (by omega)) ?_
 refine o1 ?_ (hC:=(fK 2 (by omega) (by simp only[fX];omega)))
 refine WL.cast (t:=8) (u':=.int .i64 (((xs.length+1)/2:Nat):Int)) rfl (aH (eK _ 2)) ?_;refine mk (m:=(xs.length+1)/2) 0 (by omega) (AB _) ?_
 refine o1 ?_;refine nl ?_;refine sq ?_;refine sq ?_;refine rl ?_;refine o1 ?_;refine nl ?_;refine bl ?_
 refine lp (γ:=Nat) (fun k=>cD [(0,.one (.t (sI false xs))),(3,.one (.sl 0 0 ((xs.length+1)/2))),(4,.one (tv (.int .i64 ((k:Nat):Int))))]) (fun k=>[(⟨115,1,(aR (jP xs k ((xs.length+1)/2))).map .t⟩:Ob)].map some) (fun k=>k≤xs.length) (fun k=>xs.length-k) 0 (Nat.zero_le _) (aO h0 [0] _ _ (by decide) ⟨rfl,rfl,rfl,trivial⟩ ⟨Vy rfl rfl Zz.symm,rfl⟩) fun k hk=>?_
 have hn:=hl.nth (by omega) k
 have hln:=GM (l:=xs) (k:=k) (N:=(xs.length+1)/2) rfl hk
 refine sq ?_;refine sq ?_;refine rl ?_;(iterate 4 refine o1 ?_);refine nl ?_;refine bN rfl (fun h1=>?_) (fun h1=>?_)
 ·refine sk ?_;refine sq ?_;refine bl ?_;refine sq ?_;refine rl ?_;refine o1 ?_;refine o1 ?_;refine WL.cast (t:=17) (u':=.int .i64 ((k%2:Nat):Int)) rfl (aH (fF _ 2)) ?_
  refine o1 ?_;refine nl ?_;refine bN rfl (fun h2=>?_) (fun h2=>?_)
  ·refine rl ?_;refine o1 ?_;refine o1 ?_;refine o1 ?_ (hC:=(fK 2 (by omega) (by simp only[fX];omega)))
   refine WL.cast (t:=21) (u':=.int .i64 ((k/2:Nat):Int)) rfl (aH (eK _ 2)) ?_;(iterate 3 refine o1 ?_)
   refine kD ([.v (.int .i64 ((nth xs (k):Nat):Int))]) (eM xs (k:=k) (by omega)) ?_
   refine o1 ?_;refine WL.cast (t:=26) (u':=.int .u32 ((nth xs k:Nat):Int)) rfl (aH rfl) ?_;refine o1 ?_
   refine Dj (Ol (jP xs k ((xs.length+1)/2)) (k:=k/2) (v:=nth xs k) (by omega)) (Wc (jP xs k ((xs.length+1)/2)) (by omega)) ?_
   refine nl ?_;refine rl ?_;refine o1 ?_;refine o1 ?_;refine WL.cast (t:=15) (u':=.int .i64 ((k+1:Nat):Int)) rfl (aH (by omega)) ?_
   refine o1 ?_;refine nl ?_;exact⟨k+1,by omega,by omega,aO h0 [0] _ _ (by decide) ⟨rfl,rfl,rfl,trivial⟩ ⟨Vy rfl rfl (AA rfl (by omega) (by omega)),rfl⟩⟩
  have hnt:=xI (l:=xs) (k:=k) (N:=(xs.length+1)/2) rfl (by omega) (by omega)
  have hb1:=hl.nth (by omega) (k-1)
  refine rd [0] (fun i=>[16].contains i) mixed ?_
  refine dv 0 ?_;refine dv 1 ?_;refine dv 2 ?_ (hC:=(fK 2 (by omega) (by simp only[fX];omega)))
  refine WD.cast (t:=30) (u':=.int .i64 ((k/2:Nat):Int)) rfl (aH (eK _ 2)) ?_;refine dv 3 ?_;refine dv 4 ?_
  refine dv 5 ?_ (hC:=(fK 2 (by omega) (by simp only[fX];omega)))
  refine WD.cast (t:=33) (u':=.int .i64 ((k/2:Nat):Int)) rfl (aH (eK _ 2)) ?_;refine dv 6 ?_;refine VU 7 (NU (jP xs k ((xs.length+1)/2)) (k:=k/2) (by omega)) ?_
  refine dv 8 ?_;refine dv 9 ?_;refine dv 10 ?_;refine qJ 11 ([.v (.int .i64 ((nth xs (k):Nat):Int))]) (eM xs (k:=k) (by omega)) ?_
  refine dv 12 ?_;refine dv 13 ?_;refine dv 14 ?_
  refine WD.cast (t:=42) (u':=.int .u32 ((nth (jP xs k ((xs.length+1)/2)) (k/2)+65536*nth xs k:Nat):Int)) rfl (aH (by omega)) ?_
  refine dv 15 ?_
  refine Xk 16 (Ol (jP xs k ((xs.length+1)/2)) (k:=k/2) (v:=nth (jP xs k ((xs.length+1)/2)) (k/2)+65536*nth xs k) (by omega)) (Wc (jP xs k ((xs.length+1)/2)) (by omega)) ?_
  refine aS ?_;refine rl ?_;refine o1 ?_;refine o1 ?_;refine WL.cast (t:=15) (u':=.int .i64 ((k+1:Nat):Int)) rfl (aH (by omega)) ?_
  refine o1 ?_;refine nl ?_;exact⟨k+1,by omega,by omega,aO h0 [0] _ _ (by decide) ⟨rfl,rfl,rfl,trivial⟩ ⟨Vy rfl rfl (GO rfl (by omega) (by omega)),rfl⟩⟩
 refine ex ?_;refine sq ?_;refine rl ?_;refine o1 ?_;refine o1 ?_;refine nl ?_;refine rt ?_
 exact en (.inl rfl) rfl (aV (.one (.sl (trs:=aR (lb xs)) rfl rfl (by rw[GL rfl (by omega),Nat.mul_one,List.take_of_length_le (by simp[gK,gY])]) (by simp[gK,gY])))) (by decide) (fun _=>.inl ⟨rfl,eB _⟩) (by subst hz;unfold sU;rw[gY];rfl)
theorem Kf {xs ys:List Nat}(hx:xs.length≤1099511627776) (hy:ys.length≤1099511627776) (hlx:Lim 65536 xs) (hly:Lim 65536 ys):aE false Tryz.prog 132 [] [.one (.t (sI false xs)),.one (.t (sI false ys))] (aM (.one (.t (sI false (dg 65536 (vl 65536 xs*vl 65536 ys)))))):=by
 refine bD Tryz.func132 rfl Tryz.ntmps132 rfl aA rfl fun N w c0 h0=>?_
 refine sq ?_;refine rl ?_;refine o1 ?_;refine nl ?_;refine sq ?_;refine rl ?_;(iterate 5 refine o1 ?_)
 refine WL.cast (t:=14) (u':=.int .i64 ((xs.length+ys.length:Nat):Int)) rfl (aH (by omega)) ?_
 refine o1 ?_;refine WL.cast (t:=15) (u':=.int .i64 ((xs.length+ys.length+1:Nat):Int)) rfl (aH (by omega)) ?_
 refine mk (m:=xs.length+ys.length+1) 0 (by omega) (yB _) ?_
 refine o1 ?_;refine nl ?_;refine sq ?_;refine sq ?_;refine rl ?_;refine o1 ?_;refine nl ?_;refine bl ?_
 refine lp (γ:=Nat×List Nat) (fun s=>cD [(0,.one (.t (sI false xs))),(1,.one (.t (sI false ys))),(5,.one (.sl 0 0 (xs.length+ys.length+1))),(6,.one (tv (.int .i64 ((s.1:Nat):Int))))]) (fun s=>[(⟨3,1,(dM s.2).map .t⟩:Ob)].map some) (fun s=>s.1≤xs.length∧Lim 65536 s.2∧s.2.length=xs.length+ys.length+1∧vl 65536 s.2=vl 65536 (xs.take s.1)*vl 65536 ys) (fun s=>xs.length-s.1) (0,List.replicate (xs.length+ys.length+1) 0) ⟨Nat.zero_le _,Lim.replicate (by omega) _,List.length_replicate,by rw[uG];simp[vl]⟩ (aO h0 [0] _ _ (by decide) ⟨rfl,rfl,rfl,rfl,trivial⟩ ⟨mA rfl rfl rfl,rfl⟩) ?_
 rintro⟨i,os⟩ ⟨hi,hol,hos,hv⟩;dsimp only at hi hol hos hv⊢;refine sq ?_;refine sq ?_;refine rl ?_;(iterate 4 refine o1 ?_);refine nl ?_;refine bN rfl (fun h1=>?_) (fun h1=>?_)
 ·refine sk ?_;refine sq ?_;refine bl ?_;refine sq ?_;refine rl ?_;refine o1 ?_;refine nl ?_;refine sq ?_;refine rl ?_;refine o1 ?_;refine nl ?_;refine bl ?_
  have hil:=hlx.nth (by omega) i
  refine lp (γ:=Nat×Nat×List Nat) (fun s=>cD [(0,.one (.t (sI false xs))),(1,.one (.t (sI false ys))),(5,.one (.sl 0 0 (xs.length+ys.length+1))),(6,.one (tv (.int .i64 ((i:Nat):Int)))),(7,.one (tv (.int .i64 ((s.2.1:Nat):Int)))),(8,.one (tv (.int .i64 ((s.1:Nat):Int))))]) (fun s=>[(⟨3,1,(dM s.2.2).map .t⟩:Ob)].map some) (fun s=>s.1≤ys.length+1∧Lim 65536 s.2.2∧s.2.2.length=xs.length+ys.length+1∧vl 65536 s.2.2+65536^(i+s.1)*s.2.1=vl 65536 (xs.take i)*vl 65536 ys+65536^i*(nth xs i*vl 65536 (ys.take s.1))∧s.2.1≤65535) (fun s=>ys.length+1-s.1) (0,0,os) ⟨Nat.zero_le _,hol,hos,by dsimp only;rw[hv];simp[vl],Nat.zero_le _⟩ (aO h0 [0] _ _ (by decide) ⟨rfl,rfl,rfl,rfl,rfl,rfl,trivial⟩ ⟨mA rfl rfl rfl,rfl⟩) ?_
  rintro⟨k,cr,os2⟩ ⟨hk,hol2,hos2,hv2,hcb⟩;dsimp only at hk hol2 hos2 hv2 hcb⊢;refine sq ?_;refine sq ?_;refine rl ?_;(iterate 5 refine o1 ?_)
  refine WL.split (t:=27) rfl (fun h2=>?_) (fun h2=>?_)
  ·refine cG ?_;refine cG ?_;refine o1 ?_;refine nl ?_;refine fV rfl ?_;refine sk ?_;refine sq ?_;refine bl ?_;refine sq ?_
   have hkl:k≤ys.length:=by first | omega | exact Kc hlx hly (by omega) hk hv2 (by omega)
   have hon:=hol2.nth (by omega) (i+k)
   have hyn:=hly.nth (by omega) k
   have hmul:=Nat.mul_le_mul (Nat.le_of_lt_succ hil) (Nat.le_of_lt_succ hyn)
   refine rl ?_;(iterate 4 refine o1 ?_);refine WL.cast (t:=36) (u':=.int .i64 ((i+k:Nat):Int)) rfl (aH (by omega)) ?_
   refine o1 ?_;refine MT (Kd os2 (k:=i+k) (by omega)) ?_
   refine o1 ?_;refine o1 ?_;refine WL.cast (t:=40) (u':=.int .i64 ((nth os2 (i+k)+cr:Nat):Int)) rfl (aH (by omega)) ?_
   refine o1 ?_;refine nl ?_;refine sq ?_;refine sq ?_;refine rl ?_;(iterate 4 refine o1 ?_);refine nl ?_;refine bN rfl (fun h3=>?_) (fun h3=>?_)
   ·refine rd [] (fun i=>[11].contains i) mixed ?_
    refine dv 0 ?_;refine dv 1 ?_;refine dv 2 ?_;refine dv 3 ?_;refine qJ 4 ([.v (.int .i64 ((nth xs (i):Nat):Int))]) (eM xs (k:=i) (by omega)) ?_
    refine dv 5 ?_;refine dv 6 ?_;refine dv 7 ?_;refine qJ 8 ([.v (.int .i64 ((nth ys (k):Nat):Int))]) (eM ys (k:=k) (by omega)) ?_
    refine dv 9 ?_;refine WD.cast (t:=54) (u':=.int .i64 ((nth xs i*nth ys k:Nat):Int)) rfl (aH (Int.natCast_mul _ _).symm) ?_;refine dv 10 ?_
    refine WD.cast (t:=55) (u':=.int .i64 ((nth os2 (i+k)+cr+nth xs i*nth ys k:Nat):Int)) rfl (aH (by omega)) ?_
    refine cV 11 (by kernel_rfl) rfl rfl aA rfl (by trivial) ?_ (fun h=>by first | rfl | cases h)
    refine aS ?_;refine sq ?_;refine rl ?_;(iterate 4 refine o1 ?_);refine WL.cast (t:=59) (u':=.int .i64 ((i+k:Nat):Int)) rfl (aH (by omega)) ?_
    refine o1 ?_;refine o1 ?_;refine WL.cast (t:=61) (u':=.int .i64 (((nth os2 (i+k)+cr+nth xs i*nth ys k)%65536:Nat):Int)) rfl (aH (fF _ 65536)) ?_;refine o1 ?_
    refine Dj (oR os2 (k:=i+k) (v:=(nth os2 (i+k)+cr+nth xs i*nth ys k)%65536) (by omega)) (rP os2 (by omega)) ?_
    refine nl ?_;refine rl ?_;refine o1 ?_;refine o1 ?_ (hC:=(fK 65536 (by omega) (by simp only[fX];omega)))
    refine WL.cast (t:=64) (u':=.int .i64 (((nth os2 (i+k)+cr+nth xs i*nth ys k)/65536:Nat):Int)) rfl (aH (eK _ 65536)) ?_;refine o1 ?_;refine nl ?_;refine rl ?_
    refine o1 ?_;refine o1 ?_;refine WL.cast (t:=32) (u':=.int .i64 ((k+1:Nat):Int)) rfl (aH (by omega)) ?_
    refine o1 ?_;refine nl ?_;have hst:=oK (x:=nth os2 (i+k)+cr+nth xs i*nth ys k) (by omega) hv2 (by rfl)
    exact⟨(k+1,(nth os2 (i+k)+cr+nth xs i*nth ys k)/65536,os2.set (i+k) ((nth os2 (i+k)+cr+nth xs i*nth ys k)%65536)),by dsimp only;omega,⟨by dsimp only;omega,hol2.set _ (Nat.mod_lt _ (by omega)),by rw[List.length_set];exact hos2,hst,by dsimp only;omega⟩,aO h0 [0] _ _ (by decide) ⟨rfl,rfl,rfl,rfl,rfl,rfl,trivial⟩ ⟨mA rfl rfl rfl,rfl⟩⟩
   refine sk ?_;refine sq ?_;refine rl ?_;(iterate 4 refine o1 ?_);refine WL.cast (t:=59) (u':=.int .i64 ((i+k:Nat):Int)) rfl (aH (by omega)) ?_
   refine o1 ?_;refine o1 ?_;refine WL.cast (t:=61) (u':=.int .i64 (((nth os2 (i+k)+cr)%65536:Nat):Int)) rfl (aH (fF _ 65536)) ?_;refine o1 ?_
   refine Dj (oR os2 (k:=i+k) (v:=(nth os2 (i+k)+cr)%65536) (by omega)) (rP os2 (by omega)) ?_
   refine nl ?_;refine rl ?_;refine o1 ?_;refine o1 ?_ (hC:=(fK 65536 (by omega) (by simp only[fX];omega)))
   refine WL.cast (t:=64) (u':=.int .i64 (((nth os2 (i+k)+cr)/65536:Nat):Int)) rfl (aH (eK _ 65536)) ?_;refine o1 ?_;refine nl ?_;refine rl ?_;refine o1 ?_;refine o1 ?_
   refine WL.cast (t:=32) (u':=.int .i64 ((k+1:Nat):Int)) rfl (aH (by omega)) ?_
   refine o1 ?_;refine nl ?_;have hny:nth ys k=0:=dY (by omega)
   have hst:=oK (x:=nth os2 (i+k)+cr) (by omega) hv2 (by rw[hny,Nat.mul_zero,Nat.add_zero])
   exact⟨(k+1,(nth os2 (i+k)+cr)/65536,os2.set (i+k) ((nth os2 (i+k)+cr)%65536)),by dsimp only;omega,⟨by dsimp only;omega,hol2.set _ (Nat.mod_lt _ (by omega)),by rw[List.length_set];exact hos2,hst,by dsimp only;omega⟩,aO h0 [0] _ _ (by decide) ⟨rfl,rfl,rfl,rfl,rfl,rfl,trivial⟩ ⟨mA rfl rfl rfl,rfl⟩⟩
  (iterate 3 refine o1 ?_);refine nl ?_;refine bN rfl (fun h4=>?_) (fun h4=>?_)
  ·refine sk ?_;refine sq ?_;refine bl ?_;refine sq ?_;have hkl:k≤ys.length:=by first | omega | exact Kc hlx hly (by omega) hk hv2 (by omega)
   have hon:=hol2.nth (by omega) (i+k)
   have hyn:=hly.nth (by omega) k
   have hmul:=Nat.mul_le_mul (Nat.le_of_lt_succ hil) (Nat.le_of_lt_succ hyn)
   refine rl ?_;(iterate 4 refine o1 ?_);refine WL.cast (t:=36) (u':=.int .i64 ((i+k:Nat):Int)) rfl (aH (by omega)) ?_
   refine o1 ?_;refine MT (Kd os2 (k:=i+k) (by omega)) ?_
   refine o1 ?_;refine o1 ?_;refine WL.cast (t:=40) (u':=.int .i64 ((nth os2 (i+k)+cr:Nat):Int)) rfl (aH (by omega)) ?_
   refine o1 ?_;refine nl ?_;refine sq ?_;refine sq ?_;refine rl ?_;(iterate 4 refine o1 ?_);refine nl ?_;refine bN rfl (fun h5=>?_) (fun h5=>?_)
   ·refine rd [] (fun i=>[11].contains i) mixed ?_
    refine dv 0 ?_;refine dv 1 ?_;refine dv 2 ?_;refine dv 3 ?_;refine qJ 4 ([.v (.int .i64 ((nth xs (i):Nat):Int))]) (eM xs (k:=i) (by omega)) ?_
    refine dv 5 ?_;refine dv 6 ?_;refine dv 7 ?_;refine qJ 8 ([.v (.int .i64 ((nth ys (k):Nat):Int))]) (eM ys (k:=k) (by omega)) ?_
    refine dv 9 ?_;refine WD.cast (t:=54) (u':=.int .i64 ((nth xs i*nth ys k:Nat):Int)) rfl (aH (Int.natCast_mul _ _).symm) ?_;refine dv 10 ?_
    refine WD.cast (t:=55) (u':=.int .i64 ((nth os2 (i+k)+cr+nth xs i*nth ys k:Nat):Int)) rfl (aH (by omega)) ?_
    refine cV 11 (by kernel_rfl) rfl rfl aA rfl (by trivial) ?_ (fun h=>by first | rfl | cases h)
    refine aS ?_;refine sq ?_;refine rl ?_;(iterate 4 refine o1 ?_);refine WL.cast (t:=59) (u':=.int .i64 ((i+k:Nat):Int)) rfl (aH (by omega)) ?_
    refine o1 ?_;refine o1 ?_;refine WL.cast (t:=61) (u':=.int .i64 (((nth os2 (i+k)+cr+nth xs i*nth ys k)%65536:Nat):Int)) rfl (aH (fF _ 65536)) ?_;refine o1 ?_
    refine Dj (oR os2 (k:=i+k) (v:=(nth os2 (i+k)+cr+nth xs i*nth ys k)%65536) (by omega)) (rP os2 (by omega)) ?_
    refine nl ?_;refine rl ?_;refine o1 ?_;refine o1 ?_ (hC:=(fK 65536 (by omega) (by simp only[fX];omega)))
    refine WL.cast (t:=64) (u':=.int .i64 (((nth os2 (i+k)+cr+nth xs i*nth ys k)/65536:Nat):Int)) rfl (aH (eK _ 65536)) ?_;refine o1 ?_;refine nl ?_;refine rl ?_
    refine o1 ?_;refine o1 ?_;refine WL.cast (t:=32) (u':=.int .i64 ((k+1:Nat):Int)) rfl (aH (by omega)) ?_
    refine o1 ?_;refine nl ?_;have hst:=oK (x:=nth os2 (i+k)+cr+nth xs i*nth ys k) (by omega) hv2 (by rfl)
    exact⟨(k+1,(nth os2 (i+k)+cr+nth xs i*nth ys k)/65536,os2.set (i+k) ((nth os2 (i+k)+cr+nth xs i*nth ys k)%65536)),by dsimp only;omega,⟨by dsimp only;omega,hol2.set _ (Nat.mod_lt _ (by omega)),by rw[List.length_set];exact hos2,hst,by dsimp only;omega⟩,aO h0 [0] _ _ (by decide) ⟨rfl,rfl,rfl,rfl,rfl,rfl,trivial⟩ ⟨mA rfl rfl rfl,rfl⟩⟩
   refine sk ?_;refine sq ?_;refine rl ?_;(iterate 4 refine o1 ?_);refine WL.cast (t:=59) (u':=.int .i64 ((i+k:Nat):Int)) rfl (aH (by omega)) ?_
   refine o1 ?_;refine o1 ?_;refine WL.cast (t:=61) (u':=.int .i64 (((nth os2 (i+k)+cr)%65536:Nat):Int)) rfl (aH (fF _ 65536)) ?_;refine o1 ?_
   refine Dj (oR os2 (k:=i+k) (v:=(nth os2 (i+k)+cr)%65536) (by omega)) (rP os2 (by omega)) ?_
   refine nl ?_;refine rl ?_;refine o1 ?_;refine o1 ?_ (hC:=(fK 65536 (by omega) (by simp only[fX];omega)))
   refine WL.cast (t:=64) (u':=.int .i64 (((nth os2 (i+k)+cr)/65536:Nat):Int)) rfl (aH (eK _ 65536)) ?_;refine o1 ?_;refine nl ?_;refine rl ?_;refine o1 ?_;refine o1 ?_
   refine WL.cast (t:=32) (u':=.int .i64 ((k+1:Nat):Int)) rfl (aH (by omega)) ?_
   refine o1 ?_;refine nl ?_;have hny:nth ys k=0:=dY (by omega)
   have hst:=oK (x:=nth os2 (i+k)+cr) (by omega) hv2 (by rw[hny,Nat.mul_zero,Nat.add_zero])
   exact⟨(k+1,(nth os2 (i+k)+cr)/65536,os2.set (i+k) ((nth os2 (i+k)+cr)%65536)),by dsimp only;omega,⟨by dsimp only;omega,hol2.set _ (Nat.mod_lt _ (by omega)),by rw[List.length_set];exact hos2,hst,by dsimp only;omega⟩,aO h0 [0] _ _ (by decide) ⟨rfl,rfl,rfl,rfl,rfl,rfl,trivial⟩ ⟨mA rfl rfl rfl,rfl⟩⟩
  refine ex ?_;refine rl ?_;refine o1 ?_;refine o1 ?_;refine WL.cast (t:=22) (u':=.int .i64 ((i+1:Nat):Int)) rfl (aH (by omega)) ?_
  refine o1 ?_;refine nl ?_;have hcr0:cr=0:=by omega
  rw[hcr0,Nat.mul_zero,Nat.add_zero,Bb (by omega)]at hv2
  exact⟨(i+1,os2),by dsimp only;omega,⟨by dsimp only;omega,hol2,hos2,hv2⟩,aO h0 [0] _ _ (by decide) ⟨rfl,rfl,rfl,rfl,trivial⟩ ⟨mA rfl rfl rfl,rfl⟩⟩
 refine ex ?_;refine sq ?_;refine rl ?_;rw[bP 65536 (by omega)]at hv
 refine WL.sub (vD (i:=5) (zs':=os) rfl rfl rfl (by omega) rfl) ?_
 refine o1 ?_;refine ca (Bc (by omega)) Ao ⟨a1 rfl,rfl⟩ (.one (.t (sI false (trim os)))) ?_
 refine o1 ?_;refine nl ?_;refine rt ?_;exact en (.inl rfl) rfl (aV (.one (.id rfl))) (by decide) (fun h=>by cases h) (by rw[yP (by omega) hol hv];rfl)
theorem fP {a b:Zi}{k k':Int}(ha:Zn a k) (hb:Zn b k'):aE true Tryz.prog 81 [] [gF a,gF b] (aM (kO (k*k'))):=by
 refine bD Tryz.func81 rfl Tryz.ntmps81 rfl aA rfl fun N w c0 h0=>?_
 have hkl:=ha.len
 have hkl':=hb.len
 refine sq ?_;refine rl ?_;refine bx 0 ?_;refine bx 1 ?_;refine al 2 ?_;refine nl ?_;refine sq ?_;refine rl ?_;refine ld ?_;refine ca (fH ha) mT ⟨aB rfl,rfl⟩ (kF (k)) ?_
 refine st ?_;refine nl ?_;refine sq ?_;refine rl ?_;refine ld ?_;refine ca (fH hb) mT ⟨aB rfl,rfl⟩ (kF (k')) ?_;refine st ?_;refine nl ?_;refine sq ?_
 refine rd [0,1,2] (fun i=>[14].contains i) mixed ?_
 refine dv 0 ?_;refine aU 1 ?_;refine dv 2 ?_;refine aU 3 ?_;refine dv 4 ?_;refine dv 5 ?_;refine aU 6 ?_;refine dv 8 ?_;refine aU 9 ?_
 have hn1:=dO (v:=vl 4294967296 (dg 4294967296 (k).natAbs)) (L:=(dg 4294967296 (k).natAbs).length) (by rw[bO (by omega)];exact Nat.le_refl _)
 refine aG 7 rfl (lF (by omega) (aN (by omega) _)) Cu ⟨a1 rfl,rfl⟩ (.one (.t (sI false (dg 65536 (vl 4294967296 (dg 4294967296 (k).natAbs)))))) ?_
 have hn2:=dO (v:=vl 4294967296 (dg 4294967296 (k').natAbs)) (L:=(dg 4294967296 (k').natAbs).length) (by rw[bO (by omega)];exact Nat.le_refl _)
 refine aG 10 rfl (lF (by omega) (aN (by omega) _)) Cu ⟨a1 rfl,rfl⟩ (.one (.t (sI false (dg 65536 (vl 4294967296 (dg 4294967296 (k').natAbs)))))) ?_
 have hn3:=vT (xs:=(dg 65536 (vl 4294967296 (dg 4294967296 (k).natAbs)))) (ys:=(dg 65536 (vl 4294967296 (dg 4294967296 (k').natAbs)))) (aN (by omega) _) (aN (by omega) _)
 refine aG 11 rfl (Kf (by omega) (by omega) (aN (by omega) _) (aN (by omega) _)) CJ ⟨a1 rfl,a1 rfl,rfl⟩ (.one (.t (sI false (dg 65536 (vl 65536 (dg 65536 (vl 4294967296 (dg 4294967296 (k).natAbs)))*vl 65536 (dg 65536 (vl 4294967296 (dg 4294967296 (k').natAbs)))))))) ?_
 have hn4:=mC (vl 65536 (dg 65536 (vl 4294967296 (dg 4294967296 (k).natAbs)))*vl 65536 (dg 65536 (vl 4294967296 (dg 4294967296 (k').natAbs))))
 refine aG 12 rfl (tT (zs:=(dg 4294967296 (vl 65536 (dg 65536 (vl 4294967296 (dg 4294967296 (k).natAbs)))*vl 65536 (dg 65536 (vl 4294967296 (dg 4294967296 (k').natAbs)))))) (by omega) (aN (by omega) _) (wW _)) eJ ⟨a1 rfl,rfl⟩ (.one (.t (sU false (dg 4294967296 (vl 65536 (dg 65536 (vl 4294967296 (dg 4294967296 (k).natAbs)))*vl 65536 (dg 65536 (vl 4294967296 (dg 4294967296 (k').natAbs)))))))) ?_
 refine mF 3 13 rfl (kB (K:=k*k') (by omega) (aN (by omega) _) (by simp only[bO (B:=4294967296) (by omega),bO (B:=65536) (by omega)];exact Oc k k')) cH ⟨a1 rfl,a1 rfl,rfl⟩ ?_
 refine dst 14 ?_;refine aS ?_;refine rt ?_
 exact en (.inl rfl) rfl (aV (.agg (.cons (.id rfl) (.cons (.sl (trs:=aR (dg 4294967296 (k*k').natAbs)) rfl rfl (bG _) (aY _)) .nil)))) (by decide) (fun _=>dZ (k*k')) rfl
theorem GX {u v:Nat}(hx:(dg 65536 (u)).length≤4398046511104) (hy:(dg 65536 (v)).length≤4398046511104):aE true Tryz.prog 171 [] [.one (.t (sI false (dg 65536 u))),.one (.t (sI false (dg 65536 v)))] (aM (.one (tv (.bool (decide (u<v)))))):=by
 refine bD Tryz.func171 rfl Tryz.ntmps171 rfl aA rfl fun N w c0 h0=>?_
 refine sq ?_;refine rl ?_;refine o1 ?_;refine nl ?_;refine sq ?_;refine sq ?_;refine rl ?_;(iterate 5 refine o1 ?_);refine nl ?_;refine bN rfl (fun h1=>?_) (fun h1=>?_)
 ·refine sq ?_;refine rl ?_;(iterate 6 refine o1 ?_);refine nl ?_;refine rt ?_
  refine en (.inl rfl) rfl (aV (aP _)) (by decide) (fun _=>trivial) (congrArg (fun z=>FV.one (tv (.bool z))) ?_)
  exact Zw rfl rfl (by omega)
 refine sk ?_;refine sq ?_;refine sq ?_;refine rl ?_;(iterate 4 refine o1 ?_);refine nl ?_;refine bl ?_
 refine lp (γ:=Nat) (fun k=>cD [(0,.one (.t (sI false (dg 65536 u)))),(1,.one (.t (sI false (dg 65536 v)))),(5,.one (tv (.int .i64 ((k:Nat)-1))))]) (fun k=>([]:List Ob).map some) (fun k=>(∀j,k≤j→nth (dg 65536 (u)) j=nth (dg 65536 (v)) j)∧k≤(dg 65536 (u)).length) (fun k=>k) (dg 65536 (u)).length ⟨fun j hj=>by rw[dY (by omega),dY (by omega)],Nat.le_refl _⟩ (aO h0 [] _ _ (by decide) ⟨rfl,rfl,rfl,trivial⟩ rfl) fun k hk=>?_
 refine sq ?_;refine sq ?_;refine rl ?_;refine o1 ?_;refine o1 ?_;refine nl ?_;refine bN rfl (fun h2=>?_) (fun h2=>?_)
 ·refine sk ?_;refine sq ?_;refine bl ?_;refine sq ?_;refine rd [] (fun i=>[].contains i) mixed ?_
  refine dv 0 ?_;refine dv 1 ?_;refine WD.cast (t:=24) (u':=.int .i64 ((k-1:Nat):Int)) rfl (aH (by omega)) ?_
  refine dv 2 ?_;refine qJ 3 ([.v (.int .i64 ((nth (dg 65536 (u)) (k-1):Nat):Int))]) (eM (dg 65536 (u)) (k:=k-1) (by omega)) ?_
  refine dv 4 ?_;refine dv 5 ?_;refine WD.cast (t:=28) (u':=.int .i64 ((k-1:Nat):Int)) rfl (aH (by omega)) ?_
  refine dv 6 ?_;refine qJ 7 ([.v (.int .i64 ((nth (dg 65536 (v)) (k-1):Nat):Int))]) (eM (dg 65536 (v)) (k:=k-1) (by omega)) ?_
  refine dv 8 ?_;refine aS ?_;refine bN rfl (fun h3=>?_) (fun h3=>?_)
  ·refine sq ?_;refine rd [] (fun i=>[9].contains i) mixed ?_
   refine dv 0 ?_;refine dv 1 ?_;refine WD.cast (t:=33) (u':=.int .i64 ((k-1:Nat):Int)) rfl (aH (by omega)) ?_
   refine dv 2 ?_;refine qJ 3 ([.v (.int .i64 ((nth (dg 65536 (u)) (k-1):Nat):Int))]) (eM (dg 65536 (u)) (k:=k-1) (by omega)) ?_
   refine dv 4 ?_;refine dv 5 ?_;refine WD.cast (t:=37) (u':=.int .i64 ((k-1:Nat):Int)) rfl (aH (by omega)) ?_
   refine dv 6 ?_;refine qJ 7 ([.v (.int .i64 ((nth (dg 65536 (v)) (k-1):Nat):Int))]) (eM (dg 65536 (v)) (k:=k-1) (by omega)) ?_
   refine dv 8 ?_;refine cV 9 (by kernel_rfl) rfl rfl aA rfl (by trivial) ?_ (fun h=>by first | rfl | cases h)
   refine aS ?_;refine rt ?_;refine en (.inl rfl) rfl (aV (aP _)) (by decide) (fun _=>trivial) (congrArg (fun z=>FV.one (tv (.bool z))) ?_)
   exact GH (k:=k-1) (fun j hj=>hk.1 j (by omega)) (by omega)
  refine sk ?_;refine rl ?_;(iterate 3 refine o1 ?_);refine nl ?_
  exact⟨k-1,by omega,⟨fun j hj=>(Nat.eq_or_lt_of_le hj).elim (fun h9=>by rw[←h9];omega) (fun h9=>hk.1 j (by omega)),by omega⟩,aO h0 [] _ _ (by decide) ⟨rfl,rfl,congrArg (fun z=>some (FV.one (tv (.int .i64 z)))) (by omega),trivial⟩ rfl⟩
 refine ex ?_;refine sq ?_;refine rl ?_;refine o1 ?_;refine nl ?_;refine rt ?_
 refine en (.inl rfl) rfl (aV (aP _)) (by decide) (fun _=>trivial) (congrArg (fun z=>FV.one (tv (.bool z))) ?_)
 have he:=Vu (fun j=>hk.1 j (by omega))
 rw[bO (by omega),bO (by omega)]at he
 rw[he,decide_eq_false (Nat.lt_irrefl v)]
theorem GY {u v n:Nat}(hx:(dg 65536 (u)).length≤1099511627776) (hy:(dg 65536 (v)).length≤1099511627776) (hn:n≤65536) (hnv:n*v≤u):aE false Tryz.prog 150 [] [.one (.t (sI false (dg 65536 u))),.one (.t (sI false (dg 65536 v))),.one (tv (.int .i64 ((n:Nat):Int)))] (aM (.one (.t (sI false (dg 65536 (u-n*v)))))):=by
 refine bD Tryz.func150 rfl Tryz.ntmps150 rfl aA rfl fun N w c0 h0=>?_
 have hlu:=aN (B:=65536) (by omega) u
 have hlv:=aN (B:=65536) (by omega) v
 refine sq ?_;refine rl ?_;refine o1 ?_;refine nl ?_;refine sq ?_;refine rl ?_;refine o1 ?_;refine nl ?_;refine sq ?_;refine rl ?_;refine o1 ?_;refine nl ?_;refine sq ?_;refine sq ?_
 refine rl ?_;refine o1 ?_;refine nl ?_;refine bl ?_
 refine lp (γ:=Nat×Nat×List Nat) (fun s=>cD [(0,.one (.t (sI false (dg 65536 u)))),(1,.one (.t (sI false (dg 65536 v)))),(2,.one (tv (.int .i64 ((n:Nat):Int)))),(7,.one (.sl 0 0 s.1)),(8,.one (tv (.int .i64 ((s.2.1:Nat):Int)))),(9,.one (tv (.int .i64 ((s.1:Nat):Int))))]) (fun s=>[(⟨3,1,(dM s.2.2).map .t⟩:Ob)].map some) (fun s=>s.2.2.length=s.1∧Lim 65536 s.2.2∧vl 65536 s.2.2+n*vl 65536 ((dg 65536 (v)).take s.1)=vl 65536 ((dg 65536 (u)).take s.1)+65536^s.1*s.2.1∧s.2.1≤65536∧s.1≤(dg 65536 (u)).length) (fun s=>(dg 65536 (u)).length-s.1) (0,0,[]) ⟨rfl,Lim.nil,by simp[vl],Nat.zero_le _,Nat.zero_le _⟩ ((nr (i:=7) 0 3 1 rfl rfl rfl rfl).trans (aO h0 [0] _ _ (by decide) ⟨rfl,rfl,rfl,rfl,rfl,rfl,trivial⟩ ⟨cM (l:=[]) rfl,rfl⟩)) ?_
 rintro⟨k,br,os⟩ ⟨hos,hol,hv,hc1,hkm⟩;dsimp only at hos hol hv hc1 hkm⊢;have hn1:=hlu.nth (by omega) k
 have hn2:=hlv.nth (by omega) k
 have hmul:=Nat.mul_le_mul hn (Nat.le_of_lt_succ hn2)
 refine sq ?_;refine sq ?_;refine rl ?_;(iterate 4 refine o1 ?_);refine nl ?_;refine bN rfl (fun h1=>?_) (fun h1=>?_)
 ·refine sk ?_;refine sq ?_;refine bl ?_;refine sq ?_;refine rl ?_;(iterate 3 refine o1 ?_)
  refine kD ([.v (.int .i64 ((nth (dg 65536 (u)) (k):Nat):Int))]) (eM (dg 65536 (u)) (k:=k) (by omega)) ?_
  (iterate 3 refine o1 ?_);refine nl ?_;refine sq ?_;refine sq ?_;refine rl ?_;(iterate 4 refine o1 ?_);refine nl ?_;refine bN rfl (fun h2=>?_) (fun h2=>?_)
  ·refine rl ?_;(iterate 5 refine o1 ?_);refine kD ([.v (.int .i64 ((nth (dg 65536 (v)) (k):Nat):Int))]) (eM (dg 65536 (v)) (k:=k) (by omega)) ?_
   (iterate 3 refine o1 ?_);refine nl ?_;refine sq ?_;refine rl ?_;refine o1 ?_;refine nl ?_;refine sq ?_;refine sq ?_;refine rl ?_;refine o1 ?_;refine o1 ?_;refine nl ?_
   refine bN rfl (fun h3=>?_) (fun h3=>?_)
   ·refine sq ?_;refine rl ?_;refine o1 ?_;refine o1 ?_
    refine WL.cast (t:=38) (u':=.int .i64 ((65535+n*nth (dg 65536 (v)) k+br-nth (dg 65536 (u)) k:Nat):Int)) rfl (aH (by omega)) ?_
    refine o1 ?_ (hC:=(fK 65536 (by omega) (by simp only[fX];omega)))
    refine WL.cast (t:=39) (u':=.int .i64 (((65535+n*nth (dg 65536 (v)) k+br-nth (dg 65536 (u)) k)/65536:Nat):Int)) rfl (aH (eK _ 65536)) ?_;refine o1 ?_;refine nl ?_
    refine rl ?_;(iterate 5 refine o1 ?_);refine nl ?_;refine rl ?_;refine o1 ?_;refine o1 ?_
    refine WL.cast (t:=45) (u':=.int .i64 ((nth (dg 65536 (u)) k+65536*((65535+n*nth (dg 65536 (v)) k+br-nth (dg 65536 (u)) k)/65536)-br-n*nth (dg 65536 (v)) k:Nat):Int)) rfl (aH (by omega)) ?_
    refine bs 1 ?_;refine kR (j:=2) aA rfl rfl rfl rfl (.sl rfl (by rw[List.length_map,gN,hos];omega)) (.sl rfl rfl rfl) rfl rfl rfl (by omega) (by omega) ?_
    refine o1 ?_;refine nl ?_;refine rl ?_;refine o1 ?_;refine o1 ?_;refine WL.cast (t:=16) (u':=.int .i64 ((k+1:Nat):Int)) rfl (aH (by omega)) ?_
    refine o1 ?_;refine nl ?_
    have hst:=qK (d:=nth (dg 65536 (u)) k+65536*((65535+n*nth (dg 65536 (v)) k+br-nth (dg 65536 (u)) k)/65536)-br-n*nth (dg 65536 (v)) k) (br:=br) (br':=(65535+n*nth (dg 65536 (v)) k+br-nth (dg 65536 (u)) k)/65536) hos hv (by omega)
    exact⟨(k+1,(65535+n*nth (dg 65536 (v)) k+br-nth (dg 65536 (u)) k)/65536,os++[nth (dg 65536 (u)) k+65536*((65535+n*nth (dg 65536 (v)) k+br-nth (dg 65536 (u)) k)/65536)-br-n*nth (dg 65536 (v)) k]),by dsimp only;omega,⟨by simp[hos],hol.append (Lim.cons (by omega) Lim.nil),hst,by dsimp only;omega,by dsimp only;omega⟩,aO h0 [2] _ _ (by decide) ⟨rfl,rfl,rfl,rfl,rfl,rfl,trivial⟩ ⟨mA rfl (gO _ [nth (dg 65536 (u)) k+65536*((65535+n*nth (dg 65536 (v)) k+br-nth (dg 65536 (u)) k)/65536)-br-n*nth (dg 65536 (v)) k]) rfl,rfl⟩⟩
   refine sk ?_;refine rl ?_;refine o1 ?_;refine o1 ?_;refine WL.cast (t:=45) (u':=.int .i64 ((nth (dg 65536 (u)) k-br-n*nth (dg 65536 (v)) k:Nat):Int)) rfl (aH (by omega)) ?_
   refine bs 1 ?_;refine kR (j:=2) aA rfl rfl rfl rfl (.sl rfl (by rw[List.length_map,gN,hos];omega)) (.sl rfl rfl rfl) rfl rfl rfl (by omega) (by omega) ?_
   refine o1 ?_;refine nl ?_;refine rl ?_;refine o1 ?_;refine o1 ?_;refine WL.cast (t:=16) (u':=.int .i64 ((k+1:Nat):Int)) rfl (aH (by omega)) ?_
   refine o1 ?_;refine nl ?_;have hst:=qK (d:=nth (dg 65536 (u)) k-br-n*nth (dg 65536 (v)) k) (br:=br) (br':=0) hos hv (by omega)
   exact⟨(k+1,0,os++[nth (dg 65536 (u)) k-br-n*nth (dg 65536 (v)) k]),by dsimp only;omega,⟨by simp[hos],hol.append (Lim.cons (by omega) Lim.nil),hst,by dsimp only;omega,by dsimp only;omega⟩,aO h0 [2] _ _ (by decide) ⟨rfl,rfl,rfl,rfl,rfl,rfl,trivial⟩ ⟨mA rfl (gO _ [nth (dg 65536 (u)) k-br-n*nth (dg 65536 (v)) k]) rfl,rfl⟩⟩
  refine sk ?_;refine sq ?_;refine rl ?_;refine o1 ?_;refine nl ?_;refine sq ?_;refine sq ?_;refine rl ?_;refine o1 ?_;refine o1 ?_;refine nl ?_
  refine bN rfl (fun h4=>?_) (fun h4=>?_)
  ·refine sq ?_;refine rl ?_;refine o1 ?_;refine o1 ?_;refine WL.cast (t:=38) (u':=.int .i64 ((65535+br-nth (dg 65536 (u)) k:Nat):Int)) rfl (aH (by omega)) ?_
   refine o1 ?_ (hC:=(fK 65536 (by omega) (by simp only[fX];omega)))
   refine WL.cast (t:=39) (u':=.int .i64 (((65535+br-nth (dg 65536 (u)) k)/65536:Nat):Int)) rfl (aH (eK _ 65536)) ?_;refine o1 ?_;refine nl ?_;refine rl ?_
   (iterate 5 refine o1 ?_);refine nl ?_;refine rl ?_;refine o1 ?_;refine o1 ?_
   refine WL.cast (t:=45) (u':=.int .i64 ((nth (dg 65536 (u)) k+65536*((65535+br-nth (dg 65536 (u)) k)/65536)-br:Nat):Int)) rfl (aH (by omega)) ?_
   refine bs 1 ?_;refine kR (j:=2) aA rfl rfl rfl rfl (.sl rfl (by rw[List.length_map,gN,hos];omega)) (.sl rfl rfl rfl) rfl rfl rfl (by omega) (by omega) ?_
   refine o1 ?_;refine nl ?_;refine rl ?_;refine o1 ?_;refine o1 ?_;refine WL.cast (t:=16) (u':=.int .i64 ((k+1:Nat):Int)) rfl (aH (by omega)) ?_
   refine o1 ?_;refine nl ?_;have hny:nth (dg 65536 (v)) k=0:=dY (by omega)
   have hst:=qK (d:=nth (dg 65536 (u)) k+65536*((65535+br-nth (dg 65536 (u)) k)/65536)-br) (br:=br) (br':=(65535+br-nth (dg 65536 (u)) k)/65536) hos hv (by rw[hny,Nat.mul_zero];omega)
   exact⟨(k+1,(65535+br-nth (dg 65536 (u)) k)/65536,os++[nth (dg 65536 (u)) k+65536*((65535+br-nth (dg 65536 (u)) k)/65536)-br]),by dsimp only;omega,⟨by simp[hos],hol.append (Lim.cons (by omega) Lim.nil),hst,by dsimp only;omega,by dsimp only;omega⟩,aO h0 [2] _ _ (by decide) ⟨rfl,rfl,rfl,rfl,rfl,rfl,trivial⟩ ⟨mA rfl (gO _ [nth (dg 65536 (u)) k+65536*((65535+br-nth (dg 65536 (u)) k)/65536)-br]) rfl,rfl⟩⟩
  refine sk ?_;refine rl ?_;refine o1 ?_;refine o1 ?_;refine WL.cast (t:=45) (u':=.int .i64 ((nth (dg 65536 (u)) k-br:Nat):Int)) rfl (aH (by omega)) ?_
  refine bs 1 ?_;refine kR (j:=2) aA rfl rfl rfl rfl (.sl rfl (by rw[List.length_map,gN,hos];omega)) (.sl rfl rfl rfl) rfl rfl rfl (by omega) (by omega) ?_
  refine o1 ?_;refine nl ?_;refine rl ?_;refine o1 ?_;refine o1 ?_;refine WL.cast (t:=16) (u':=.int .i64 ((k+1:Nat):Int)) rfl (aH (by omega)) ?_
  refine o1 ?_;refine nl ?_;have hny:nth (dg 65536 (v)) k=0:=dY (by omega)
  have hst:=qK (d:=nth (dg 65536 (u)) k-br) (br:=br) (br':=0) hos hv (by rw[hny,Nat.mul_zero];omega)
  exact⟨(k+1,0,os++[nth (dg 65536 (u)) k-br]),by dsimp only;omega,⟨by simp[hos],hol.append (Lim.cons (by omega) Lim.nil),hst,by dsimp only;omega,by dsimp only;omega⟩,aO h0 [2] _ _ (by decide) ⟨rfl,rfl,rfl,rfl,rfl,rfl,trivial⟩ ⟨mA rfl (gO _ [nth (dg 65536 (u)) k-br]) rfl,rfl⟩⟩
 refine ex ?_;refine sq ?_;refine rl ?_;have hve:vl 65536 os=u-n*v:=Zx rfl (by omega) hol hv hnv
 refine WL.sub (vD (i:=7) (zs':=os) rfl rfl rfl (by omega) rfl) ?_
 refine o1 ?_;refine ca (Bc (by omega)) Ao ⟨a1 rfl,rfl⟩ (.one (.t (sI false (trim os)))) ?_
 refine o1 ?_;refine nl ?_;refine rt ?_;exact en (.inl rfl) rfl (aV (.one (.id rfl))) (by decide) (fun h=>by cases h) (by rw[yP (by omega) hol hve];rfl)
theorem AE {u v:Nat}(hx:(dg 65536 (u)).length≤1099511627776) (hy:(dg 65536 (v)).length≤1099511627776) (huv:u<65536*v):aE true Tryz.prog 149 [] [.one (.t (sI false (dg 65536 u))),.one (.t (sI false (dg 65536 v)))] (aM (.one (tv (.int .i64 ((u/v:Nat):Int))))):=by
 refine bD Tryz.func149 rfl Tryz.ntmps149 rfl aA rfl fun N w c0 h0=>?_
 refine sq ?_;refine rl ?_;refine o1 ?_;refine nl ?_;refine sq ?_;refine rl ?_;refine o1 ?_;refine o1 ?_;refine nl ?_;refine sq ?_;refine bl ?_
 refine lp (γ:=Nat×Nat) (fun s=>cD [(0,.one (.t (sI false (dg 65536 u)))),(1,.one (.t (sI false (dg 65536 v)))),(5,.one (tv (.int .i64 ((s.1:Nat):Int)))),(6,.one (tv (.int .i64 ((s.2:Nat):Int))))]) (fun s=>([]:List Ob).map some) (fun s=>s.1*v≤u∧u<s.2*v∧s.1<s.2∧s.2≤65536) (fun s=>s.2-s.1) (0,65536) ⟨by simp,huv,by decide,Nat.le_refl _⟩ (aO h0 [] _ _ (by decide) ⟨rfl,rfl,rfl,rfl,trivial⟩ rfl) ?_
 rintro⟨lo,hi⟩ ⟨h91,h92,h93,h94⟩;dsimp only at h91 h92 h93 h94⊢;refine sq ?_;refine sq ?_;refine rl ?_;(iterate 3 refine o1 ?_)
 refine WL.cast (t:=10) (u':=.int .i64 ((hi-lo:Nat):Int)) rfl (aH (by omega)) ?_
 refine o1 ?_;refine nl ?_;refine bN rfl (fun h1=>?_) (fun h1=>?_)
 ·refine sk ?_;refine bl ?_;refine sq ?_;refine rl ?_;(iterate 3 refine o1 ?_);refine WL.cast (t:=14) (u':=.int .i64 ((lo+hi:Nat):Int)) rfl (aH (by omega)) ?_
  refine o1 ?_ (hC:=(fK 2 (by omega) (by simp only[fX];omega)))
  refine WL.cast (t:=15) (u':=.int .i64 (((lo+hi)/2:Nat):Int)) rfl (aH (eK _ 2)) ?_;refine o1 ?_;refine nl ?_;refine sq ?_;refine rl ?_;(iterate 3 refine o1 ?_)
  refine bs 0 ?_;refine WL.sub (vD (i:=19) (zs:=[(lo+hi)/2]) (zs':=[(lo+hi)/2]) rfl rfl rfl rfl rfl) ?_;have h1l:[(lo+hi)/2].length=1:=rfl
  have hn2:=vT (xs:=(dg 65536 (v))) (ys:=[(lo+hi)/2]) (aN (by omega) _) (Lim.cons (d:=(lo+hi)/2) (by omega) Lim.nil)
  refine ca (Kf (by omega) (by omega) (aN (by omega) _) (Lim.cons (d:=(lo+hi)/2) (by omega) Lim.nil)) CJ ⟨a1 rfl,a1 rfl,rfl⟩ (.one (.t (sI false (dg 65536 (vl 65536 (dg 65536 (v))*vl 65536 [(lo+hi)/2]))))) ?_
  refine ca (GX (by omega) (by omega)) RP ⟨a1 rfl,a1 rfl,rfl⟩ (.one (tv (.bool (decide (u<vl 65536 (dg 65536 (v))*vl 65536 [(lo+hi)/2]))))) ?_
  refine nl ?_;refine bN rfl (fun h3=>?_) (fun h3=>?_)
  ·refine rl ?_;refine o1 ?_;refine o1 ?_;refine nl ?_;rw[bO (by omega),qV,Nat.mul_comm]at h3
   exact⟨(lo,(lo+hi)/2),by dsimp only;omega,⟨by dsimp only;omega,by dsimp only;omega,by dsimp only;omega,by dsimp only;omega⟩,aO h0 [] _ _ (by decide) ⟨rfl,rfl,rfl,rfl,trivial⟩ rfl⟩
  refine rl ?_;refine o1 ?_;refine o1 ?_;refine nl ?_;rw[bO (by omega),qV,Nat.mul_comm]at h3
  exact⟨((lo+hi)/2,hi),by dsimp only;omega,⟨by dsimp only;omega,by dsimp only;omega,by dsimp only;omega,by dsimp only;omega⟩,aO h0 [] _ _ (by decide) ⟨rfl,rfl,rfl,rfl,trivial⟩ rfl⟩
 refine ex ?_;refine sq ?_;refine rl ?_;refine o1 ?_;refine o1 ?_;refine nl ?_;refine rt ?_
 exact en (.inl rfl) rfl (aV (aP _)) (by decide) (fun _=>trivial) (congrArg (fun z=>FV.one (tv (.int .i64 ((z:Nat):Int)))) (Vz h91 h92 (by omega)).symm)
theorem Wg {xs zs:List Nat}(hx:xs.length≤4398046511104) (hz:trim xs=zs):aE false Tryz.prog 148 [] [.one (.t (sI false xs))] (aM (.one (.t (sI false zs)))):=by
 subst hz
 exact Bc hx
theorem Kg {u v:Nat}(hx:(dg 65536 (u)).length≤549755813888) (hy:(dg 65536 (v)).length≤549755813888) (hvp:0<v):aE false Tryz.prog 98 [] [.one (.t (sI false (dg 65536 u))),.one (.t (sI false (dg 65536 v)))] (aM (.tup [.one (.t (sI false (dg 65536 (u/v)))),.one (.t (sI false (dg 65536 (u%v))))])):=by
 refine bD Tryz.func98 rfl Tryz.ntmps98 rfl aA rfl fun N w c0 h0=>?_
 have hlu:=aN (B:=65536) (by omega) u
 refine sq ?_;refine rl ?_;refine o1 ?_;refine o1 ?_;refine nl ?_;refine sq ?_;refine rl ?_;refine o1 ?_;refine o1 ?_
 refine WL.cast (t:=11) (u':=.int .i64 (((dg 65536 (u)).length:Nat):Int)) rfl (aH rfl) ?_;refine mk (m:=(dg 65536 (u)).length) 0 (by omega) (yB _) ?_
 refine o1 ?_;refine nl ?_;refine sq ?_;refine rl ?_;refine o1 ?_;refine nl ?_;refine sq ?_;refine sq ?_;refine rl ?_;(iterate 4 refine o1 ?_);refine nl ?_;refine bl ?_
 refine lp (γ:=Nat×List Nat×Nat) (fun s=>cD [(0,.one (.t (sI false (dg 65536 u)))),(1,.one (.t (sI false (dg 65536 v)))),(6,.one (.sl 0 0 (dg 65536 (u)).length)),(7,.one (.t (sI false (dg 65536 s.2.2)))),(8,.one (tv (.int .i64 ((s.1:Nat)-1))))]) (fun s=>[(⟨3,1,(dM s.2.1).map .t⟩:Ob)].map some) (fun s=>s.2.1.length=(dg 65536 (u)).length∧Lim 65536 s.2.1∧vl 65536 ((dg 65536 (u)).drop s.1)=v*vl 65536 (s.2.1.drop s.1)+s.2.2∧s.2.2<v∧s.1≤(dg 65536 (u)).length) (fun s=>s.1) ((dg 65536 (u)).length,List.replicate (dg 65536 (u)).length 0,0) ⟨List.length_replicate,Lim.replicate (by omega) _,by dsimp only;rw[List.drop_of_length_le (Nat.le_refl _),List.drop_of_length_le (by rw[List.length_replicate];exact Nat.le_refl _)];simp[vl],hvp,Nat.le_refl _⟩ (((nr (i:=7) 1 3 1 rfl rfl rfl rfl).trans (vD (i:=7) (k:=1) (zs:=[]) (zs':=dg 65536 0) rfl rfl rfl rfl (fR _).symm)).trans (aO h0 [0] _ _ (by decide) ⟨rfl,rfl,rfl,rfl,rfl,trivial⟩ ⟨mA rfl rfl rfl,rfl⟩)) ?_
 rintro⟨k,os,r⟩ ⟨hos,hol,hv,hr,hkm⟩;dsimp only at hos hol hv hr hkm⊢;have hrl:=cK (B:=65536) (by omega) (Nat.le_of_lt hr)
 have hau:=hlu.nth (by omega) (k-1)
 have hce:=Zy (a:=nth (dg 65536 (u)) (k-1)) hau hr
 have hql:(nth (dg 65536 (u)) (k-1)+65536*r)/v<65536:=(Nat.div_lt_iff_lt_mul hvp).2 (by omega)
 refine sq ?_;refine sq ?_;refine rl ?_;refine o1 ?_;refine o1 ?_;refine nl ?_;refine bN rfl (fun h1=>?_) (fun h1=>?_)
 ·refine sk ?_;refine sq ?_;refine bl ?_;refine sq ?_;refine rl ?_;refine o1 ?_;refine o1 ?_;refine WL.cast (t:=21) (u':=.int .i64 ((k-1:Nat):Int)) rfl (aH (by omega)) ?_
  refine o1 ?_;refine kD ([.v (.int .i64 ((nth (dg 65536 (u)) (k-1):Nat):Int))]) (eM (dg 65536 (u)) (k:=k-1) (by omega)) ?_
  refine bs 1 ?_;refine o1 ?_;refine nl ?_;refine sq ?_;refine rl ?_;refine o1 ?_;refine o1 ?_
  refine kR (j:=2) aA rfl rfl rfl rfl (.sl rfl (rfl)) .fz (NR _) (Zt _) rfl (by omega) (by omega) ?_
  refine WL.sub (vD (i:=27) (k:=2) (zs:=[nth (dg 65536 (u)) (k-1)]++dg 65536 r) (zs':=[nth (dg 65536 (u)) (k-1)]++dg 65536 r) rfl rfl (congrArg (fun l=>some (⟨3,1,l⟩:Ob)) (gO [nth (dg 65536 (u)) (k-1)] (dg 65536 r))) (by rw[List.length_append];rfl) rfl) ?_
  refine ca (Wg (zs:=(dg 65536 (nth (dg 65536 (u)) (k-1)+65536*r))) (by rw[List.length_append];exact Nat.le_trans (Nat.add_le_add_left hrl 1) (by omega)) (vU (by omega))) Ao ⟨a1 rfl,rfl⟩ (.one (.t (sI false (dg 65536 (nth (dg 65536 (u)) (k-1)+65536*r))))) ?_
  refine o1 ?_;refine nl ?_;refine sq ?_;refine rl ?_;refine o1 ?_;refine o1 ?_;refine WL.cast (t:=30) (u':=.int .i64 ((k-1:Nat):Int)) rfl (aH (by omega)) ?_
  refine o1 ?_;refine o1 ?_;refine ca (AE (by omega) (by omega) (by omega)) RK ⟨a1 rfl,a1 rfl,rfl⟩ (.one (tv (.int .i64 (((nth (dg 65536 (u)) (k-1)+65536*r)/v:Nat):Int)))) ?_
  refine o1 ?_;refine Dj (oR os (k:=k-1) (v:=(nth (dg 65536 (u)) (k-1)+65536*r)/v) (by omega)) (rP os (by omega)) ?_
  refine nl ?_;refine rl ?_;(iterate 4 refine o1 ?_);refine WL.cast (t:=38) (u':=.int .i64 ((k-1:Nat):Int)) rfl (aH (by omega)) ?_
  refine o1 ?_;refine MT (Kd (os.set (k-1) ((nth (dg 65536 (u)) (k-1)+65536*r)/v)) (k:=k-1) (by rw[List.length_set];omega)) ?_
  refine WL.cast (t:=40) (u':=.int .i64 (((nth (dg 65536 (u)) (k-1)+65536*r)/v:Nat):Int)) rfl (aH (by rw[Kb (by omega)])) ?_
  refine ca (GY (by omega) (by omega) (by omega) (Nat.div_mul_le_self _ _)) RM ⟨a1 rfl,a1 rfl,a1 rfl,rfl⟩ (.one (.t (sI false (dg 65536 (nth (dg 65536 (u)) (k-1)+65536*r-(nth (dg 65536 (u)) (k-1)+65536*r)/v*v))))) ?_
  refine o1 ?_;refine nl ?_;refine rl ?_;(iterate 3 refine o1 ?_);refine nl ?_
  have hst:=Rp (k:=k) (q:=(nth (dg 65536 (u)) (k-1)+65536*r)/v) (by omega) (by omega) (by omega) hv rfl rfl
  have hmod:=Nat.mod_lt (nth (dg 65536 (u)) (k-1)+65536*r) hvp
  have hdm:=Nat.div_add_mod' (nth (dg 65536 (u)) (k-1)+65536*r) v
  exact⟨(k-1,os.set (k-1) ((nth (dg 65536 (u)) (k-1)+65536*r)/v),nth (dg 65536 (u)) (k-1)+65536*r-(nth (dg 65536 (u)) (k-1)+65536*r)/v*v),by dsimp only;omega,⟨by rw[List.length_set];exact hos,hol.set _ hql,hst,by dsimp only;omega,by dsimp only;omega⟩,aO h0 [0] _ _ (by decide) ⟨rfl,rfl,rfl,rfl,congrArg (fun z=>some (FV.one (tv (.int .i64 z)))) (by omega),trivial⟩ ⟨mA rfl rfl rfl,rfl⟩⟩
 refine ex ?_;refine sq ?_;refine rl ?_;have hk0:k=0:=by omega
 rw[hk0,List.drop_zero,List.drop_zero,bO (by omega)]at hv
 obtain⟨hq1,hq2⟩:=Wa hv hr
 refine WL.sub (vD (i:=6) (zs':=os) rfl rfl rfl (by omega) rfl) ?_
 refine o1 ?_;refine ca (Wg (zs:=(dg 65536 (u/v))) (by omega) (by rw[yP (by omega) hol rfl,hq1])) Ao ⟨a1 rfl,rfl⟩ (.one (.t (sI false (dg 65536 (u/v))))) ?_
 (iterate 3 refine o1 ?_);refine nl ?_;refine rt ?_;exact en (.inl rfl) rfl (dE (.cons (.one (.id rfl)) (.cons (.one (.id rfl)) .nil))) (by decide) (fun h=>by cases h) (by rw[hq2];rfl)
theorem Hz {a b:Zi}{k k':Int}(ha:Zn a k) (hb:Zn b k'):aE true Tryz.prog 131 [] [gF a,gF b] (aM (kO ((Int.gcd k k':Nat):Int))):=by
 refine bD Tryz.func131 rfl Tryz.ntmps131 rfl aA rfl fun N w c0 h0=>?_
 have hkl:=ha.len
 have hkl':=hb.len
 refine sq ?_;refine rl ?_;refine bx 0 ?_;refine bx 1 ?_;refine al 2 ?_;refine nl ?_;refine sq ?_;refine rd [0,1,2] (fun i=>[9].contains i) mixed ?_
 refine aU 0 ?_;refine aU 4 ?_;refine aG 1 rfl (fH ha) mT ⟨aB rfl,rfl⟩ (kF (k)) ?_;refine df 2 ?_
 have hn1:=dO (v:=vl 4294967296 (dg 4294967296 (k).natAbs)) (L:=(dg 4294967296 (k).natAbs).length) (by rw[bO (by omega)];exact Nat.le_refl _)
 refine aG 3 rfl (lF (by omega) (aN (by omega) _)) Cu ⟨a1 rfl,rfl⟩ (.one (.t (sI false (dg 65536 (vl 4294967296 (dg 4294967296 (k).natAbs)))))) ?_
 refine aG 5 rfl (fH hb) mT ⟨aB rfl,rfl⟩ (kF (k')) ?_;refine df 6 ?_
 have hn2:=dO (v:=vl 4294967296 (dg 4294967296 (k').natAbs)) (L:=(dg 4294967296 (k').natAbs).length) (by rw[bO (by omega)];exact Nat.le_refl _)
 refine aG 7 rfl (lF (by omega) (aN (by omega) _)) Cu ⟨a1 rfl,rfl⟩ (.one (.t (sI false (dg 65536 (vl 4294967296 (dg 4294967296 (k').natAbs)))))) ?_
 refine cV 8 (by kernel_rfl) rfl rfl aA rfl (by trivial) ?_ (fun h=>by first | rfl | cases h)
 refine cV 9 (by kernel_rfl) rfl rfl aA rfl (by trivial) ?_ (fun h=>by first | rfl | cases h)
 refine aS ?_;refine sq ?_;refine bl ?_
 refine lp (γ:=Nat×Nat) (fun s=>cD [(4,.one (.pt 0 0)),(5,.one (.t (sI false (dg 65536 s.1)))),(6,.one (.t (sI false (dg 65536 s.2))))]) (fun s=>[(⟨31,0,[tv (.bool false),tv (.slice none 0 0)]⟩:Ob)].map some) (fun s=>Nat.gcd s.1 s.2=Int.gcd k k'∧(dg 65536 s.1).length≤549755813888∧(dg 65536 s.2).length≤549755813888) (fun s=>s.2) (vl 4294967296 (dg 4294967296 (k).natAbs),vl 4294967296 (dg 4294967296 (k').natAbs)) ⟨by dsimp only;rw[bO (by omega),bO (by omega)];rfl,by dsimp only;omega,by dsimp only;omega⟩ (aO h0 [2] _ _ (by decide) ⟨rfl,rfl,rfl,trivial⟩ ⟨oe rfl rfl,rfl⟩) ?_
 rintro⟨ga,gb⟩ ⟨hg,hga,hgb⟩;dsimp only at hg hga hgb⊢;have hbz:gb=0↔(dg 65536 gb).length=0:=by rw[List.length_eq_zero_iff,dR (by omega)]
 refine sq ?_;refine sq ?_;refine rl ?_;(iterate 3 refine o1 ?_);refine nl ?_;refine bN rfl (fun h3=>?_) (fun h3=>?_)
 ·refine sk ?_;refine bl ?_;refine sq ?_;have hb0:0<gb:=by omega
  refine rl ?_;refine o1 ?_;refine o1 ?_;have hn4:=cK (B:=65536) (by omega) (Nat.div_le_self (ga) (gb))
  have hn5:=cK (B:=65536) (by omega) (Nat.mod_le (ga) (gb))
  refine ca (Kg (by omega) (by omega) hb0) MS ⟨a1 rfl,a1 rfl,rfl⟩ (.tup [.one (.t (sI false (dg 65536 ((ga)/(gb))))),.one (.t (sI false (dg 65536 ((ga)%(gb)))))]) ?_
  (iterate 5 refine o1 ?_);refine nl ?_;refine sq ?_;refine rl ?_;refine o1 ?_;refine o1 ?_;refine nl ?_;refine rl ?_;refine o1 ?_;refine o1 ?_;refine nl ?_;have hmod:=Nat.mod_lt ga hb0
  have hml:=cK (B:=65536) (by omega) (Nat.le_of_lt hmod)
  exact⟨(gb,ga%gb),by dsimp only;omega,⟨by dsimp only;rw[←hg,Nat.gcd_comm gb (ga%gb),←Nat.gcd_rec,Nat.gcd_comm],by dsimp only;omega,by dsimp only;omega⟩,aO h0 [0] _ _ (by decide) ⟨rfl,rfl,rfl,trivial⟩ ⟨oe rfl rfl,rfl⟩⟩
 refine ex ?_;refine sq ?_;have hb00:gb=0:=by omega
 rw[hb00,Nat.gcd_zero_right]at hg;refine rl ?_;refine o1 ?_;have hn6:=mC (ga)
 refine ca (tT (zs:=(dg 4294967296 (ga))) (by omega) (aN (by omega) _) (wW _)) eJ ⟨a1 rfl,rfl⟩ (.one (.t (sU false (dg 4294967296 (ga))))) ?_
 refine gG 1 (kB (K:=((Int.gcd k k':Nat):Int)) (by omega) (aN (by omega) _) (by rw[bO (by omega),hg];rfl)) cH ⟨a1 rfl,a1 rfl,rfl⟩ ?_
 refine st ?_;refine nl ?_;refine rt ?_
 exact en (.inl rfl) rfl (aV (.agg (.cons (.id rfl) (.cons (.sl (trs:=aR (dg 4294967296 (((Int.gcd k k':Nat):Int)).natAbs)) rfl rfl (bG _) (aY _)) .nil)))) (by decide) (fun _=>dZ (((Int.gcd k k':Nat):Int))) rfl
theorem Tt {a b:Zi}{k k':Int}(ha:Zn a k) (hb:Zn b k'):aE false Tryz.prog 48 [] [gF a,gF b] (aM (.tup [kF (if k'=0 then 0 else k.fdiv k'),kF (if k'=0 then 0 else k.fmod k'),.one (tv (.int .i64 (if k'=0 then 20 else 0)))])):=by
 refine bD Tryz.func48 rfl Tryz.ntmps48 rfl aA rfl fun N w c0 h0=>?_
 have hkl:=ha.len
 have hkl':=hb.len
 refine sq ?_;refine rl ?_;refine bx 0 ?_;refine bx 1 ?_;refine al 2 ?_;refine al 3 ?_;refine o1 ?_;refine nl ?_;refine sq ?_;refine rl ?_;refine ld ?_
 refine ca (fH ha) mT ⟨aB rfl,rfl⟩ (kF (k)) ?_;refine st ?_;refine nl ?_;refine sq ?_;refine rl ?_;refine ld ?_;refine ca (fH hb) mT ⟨aB rfl,rfl⟩ (kF (k')) ?_;refine st ?_
 refine nl ?_;refine sq ?_;refine sq ?_;refine rl ?_;refine o1 ?_;refine ld ?_;refine o1 ?_;refine o1 ?_;refine nl ?_;refine bN rfl (fun h1=>?_) (fun h1=>?_)
 ·refine sq ?_;refine rl ?_;refine o1 ?_;refine o1 ?_;refine st ?_;refine st ?_;refine o1 ?_;refine nl ?_;refine rt ?_;have hk0:k'=0:=by have:=Lc (k:=k') (by omega);omega
  exact en (.inl rfl) rfl (gP (.cons (.agg (.cons (.id rfl) (.cons .nilf .nil))) (.cons (.agg (.cons (.id rfl) (.cons .nilf .nil))) (.cons (aP _) .nil)))) (by decide) (fun h=>by cases h) (by rw[if_pos hk0,if_pos hk0,if_pos hk0,←Dc];rfl)
 refine sk ?_;refine sq ?_;have hkn:k'≠0:=Wb (by omega)
 have hva:0<vl 4294967296 (dg 4294967296 (k').natAbs):=by rw[bO (by omega)];omega
 refine rd [0,1,2,3] (fun i=>[11].contains i) mixed ?_
 refine dv 0 ?_;refine aU 1 ?_;refine dv 3 ?_;refine aU 4 ?_
 have hn2:=dO (v:=vl 4294967296 (dg 4294967296 (k).natAbs)) (L:=(dg 4294967296 (k).natAbs).length) (by rw[bO (by omega)];exact Nat.le_refl _)
 refine aG 2 rfl (lF (by omega) (aN (by omega) _)) Cu ⟨a1 rfl,rfl⟩ (.one (.t (sI false (dg 65536 (vl 4294967296 (dg 4294967296 (k).natAbs)))))) ?_
 have hn3:=dO (v:=vl 4294967296 (dg 4294967296 (k').natAbs)) (L:=(dg 4294967296 (k').natAbs).length) (by rw[bO (by omega)];exact Nat.le_refl _)
 refine aG 5 rfl (lF (by omega) (aN (by omega) _)) Cu ⟨a1 rfl,rfl⟩ (.one (.t (sI false (dg 65536 (vl 4294967296 (dg 4294967296 (k').natAbs)))))) ?_
 have hn4:=cK (B:=65536) (by omega) (Nat.div_le_self (vl 4294967296 (dg 4294967296 (k).natAbs)) (vl 4294967296 (dg 4294967296 (k').natAbs)))
 have hn5:=cK (B:=65536) (by omega) (Nat.mod_le (vl 4294967296 (dg 4294967296 (k).natAbs)) (vl 4294967296 (dg 4294967296 (k').natAbs)))
 refine aG 6 rfl (Kg (by omega) (by omega) hva) MS ⟨a1 rfl,a1 rfl,rfl⟩ (.tup [.one (.t (sI false (dg 65536 ((vl 4294967296 (dg 4294967296 (k).natAbs))/(vl 4294967296 (dg 4294967296 (k').natAbs)))))),.one (.t (sI false (dg 65536 ((vl 4294967296 (dg 4294967296 (k).natAbs))%(vl 4294967296 (dg 4294967296 (k').natAbs))))))]) ?_
 refine df 7 ?_;refine df 8 ?_;refine df 9 ?_;refine cV 10 (by kernel_rfl) rfl rfl aA rfl (by trivial) ?_ (fun h=>by first | rfl | cases h)
 refine cV 11 (by kernel_rfl) rfl rfl aA rfl (by trivial) ?_ (fun h=>by first | rfl | cases h)
 refine aS ?_
 refine md (γ:=Unit) (fun _=>cD [(3,.one (.pt 0 0)),(4,.one (.pt 1 0)),(5,.one (.pt 2 0)),(6,.one (tv (.int .i64 0))),(9,.one (.pt 3 0)),(10,.one (.pt 4 0))]) (fun _=>([⟨31,0,[tv (.bool (aL (k'))),.t (sU false (dg 4294967296 (k').natAbs))]⟩,⟨31,0,[tv (.bool false),tv (.slice none 0 0)]⟩,⟨31,0,[tv (.bool false),tv (.slice none 0 0)]⟩,⟨31,0,[tv (.bool (aL (bJ (aL k != aL k') (k.natAbs/k'.natAbs)))),.t (sU false (dg 4294967296 (bJ (aL k != aL k') (k.natAbs/k'.natAbs)).natAbs))]⟩,⟨31,0,[tv (.bool (aL (bJ (aL k) (k.natAbs%k'.natAbs)))),.t (sU false (dg 4294967296 (bJ (aL k) (k.natAbs%k'.natAbs)).natAbs))]⟩]:List Ob).map some) (fun _=>True) ?_ fun _ _=>?_
 ·have hnq:=mC ((vl 4294967296 (dg 4294967296 (k).natAbs))/(vl 4294967296 (dg 4294967296 (k').natAbs)))
  have hLq:=tT (xs:=dg 65536 ((vl 4294967296 (dg 4294967296 (k).natAbs))/(vl 4294967296 (dg 4294967296 (k').natAbs)))) (zs:=dg 4294967296 ((vl 4294967296 (dg 4294967296 (k).natAbs))/(vl 4294967296 (dg 4294967296 (k').natAbs)))) (by omega) (aN (by omega) _) (wW _)
  have hMq:=kB (b:=aL k != aL k') (xs:=dg 4294967296 ((vl 4294967296 (dg 4294967296 (k).natAbs))/(vl 4294967296 (dg 4294967296 (k').natAbs)))) (K:=bJ (aL k != aL k') (k.natAbs/k'.natAbs)) (by omega) (aN (by omega) _) (by simp only[bO (B:=4294967296) (by omega)] <;> rfl)
  have hnr:=mC ((vl 4294967296 (dg 4294967296 (k).natAbs))%(vl 4294967296 (dg 4294967296 (k').natAbs)))
  have hLr:=tT (xs:=dg 65536 ((vl 4294967296 (dg 4294967296 (k).natAbs))%(vl 4294967296 (dg 4294967296 (k').natAbs)))) (zs:=dg 4294967296 ((vl 4294967296 (dg 4294967296 (k).natAbs))%(vl 4294967296 (dg 4294967296 (k').natAbs)))) (by omega) (aN (by omega) _) (wW _)
  have hMr:=kB (b:=aL k) (xs:=dg 4294967296 ((vl 4294967296 (dg 4294967296 (k).natAbs))%(vl 4294967296 (dg 4294967296 (k').natAbs)))) (K:=bJ (aL k) (k.natAbs%k'.natAbs)) (by omega) (aN (by omega) _) (by simp only[bO (B:=4294967296) (by omega)] <;> rfl)
  generalize dg 4294967296 ((vl 4294967296 (dg 4294967296 (k).natAbs))/(vl 4294967296 (dg 4294967296 (k').natAbs)))=zq at hLq hMq
  generalize dg 4294967296 ((vl 4294967296 (dg 4294967296 (k).natAbs))%(vl 4294967296 (dg 4294967296 (k').natAbs)))=zr at hLr hMr;refine rd [0,1,2,3] (fun i=>[16].contains i) mixed ?_
  refine dv 0 ?_;refine aU 1 ?_;refine dv 2 ?_;refine aU 3 ?_;refine dv 4 ?_;refine dv 5 ?_;refine dv 8 ?_;refine aU 9 ?_;refine dv 10 ?_
  refine WO.three (i:=6) (j:=13) (m:=14) (by kernel_rfl) ?_ ?_ ?_
  ·refine cZ 6 rfl (hLq) eJ ⟨a1 rfl,rfl⟩ (.one (.t (sU false zq))) ?_;refine WO.three (i:=7) (j:=13) (m:=14) (by kernel_rfl) ?_ ?_ ?_
   ·refine cZ 7 rfl (hMq) cH ⟨a1 rfl,a1 rfl,rfl⟩ (kF (bJ (aL k != aL k') (k.natAbs/k'.natAbs))) ?_;refine WO.three (i:=11) (j:=13) (m:=14) (by kernel_rfl) ?_ ?_ ?_
    ·refine cZ 11 rfl (hLr) eJ ⟨a1 rfl,rfl⟩ (.one (.t (sU false zr))) ?_;refine WO.three (i:=12) (j:=13) (m:=14) (by kernel_rfl) ?_ ?_ ?_
     ·refine cZ 12 rfl (hMr) cH ⟨a1 rfl,a1 rfl,rfl⟩ (kF (bJ (aL k) (k.natAbs%k'.natAbs))) ?_;refine WO.two (i:=13) (j:=14) (by kernel_rfl) ?_ ?_
      ·refine bV (key:=4) 13 rfl rfl aA rfl ⟨rfl,rfl,rfl,rfl,trivial⟩ ?_;refine eP (key:=5) 14 (by kernel_rfl) rfl rfl aA rfl ⟨rfl,rfl,rfl,rfl,trivial⟩ ?_
       refine aT 15 (by kernel_rfl) rfl rfl aA rfl rfl rfl rfl ⟨rfl,rfl,rfl,rfl,trivial⟩ ?_
       refine dst 16 ?_;refine aS ?_
       exact⟨(),trivial,aO h0 [1,2,3,4,5] _ _ (by decide) ⟨rfl,rfl,rfl,rfl,rfl,rfl,trivial⟩ ⟨oe rfl rfl,oe rfl rfl,oe rfl rfl,oe rfl rfl,oe rfl rfl,rfl⟩⟩
      refine bV (key:=4) 14 rfl rfl aA rfl ⟨rfl,rfl,rfl,rfl,trivial⟩ ?_;refine eP (key:=5) 13 (by kernel_rfl) rfl rfl aA rfl ⟨rfl,rfl,rfl,rfl,trivial⟩ ?_
      refine aT 15 (by kernel_rfl) rfl rfl aA rfl rfl rfl rfl ⟨rfl,rfl,rfl,rfl,trivial⟩ ?_
      refine dst 16 ?_;refine aS ?_
      exact⟨(),trivial,aO h0 [1,2,3,5,4] _ _ (by decide) ⟨rfl,rfl,rfl,rfl,rfl,rfl,trivial⟩ ⟨oe rfl rfl,oe rfl rfl,oe rfl rfl,oe rfl rfl,oe rfl rfl,rfl⟩⟩
     ·refine bV (key:=4) 13 rfl rfl aA rfl ⟨rfl,rfl,rfl,rfl,trivial⟩ ?_;refine WO.two (i:=12) (j:=14) (by kernel_rfl) ?_ ?_
      ·refine cZ 12 rfl (hMr) cH ⟨a1 rfl,a1 rfl,rfl⟩ (kF (bJ (aL k) (k.natAbs%k'.natAbs))) ?_
       refine eP (key:=5) 14 (by kernel_rfl) rfl rfl aA rfl ⟨rfl,rfl,rfl,rfl,trivial⟩ ?_
       refine aT 15 (by kernel_rfl) rfl rfl aA rfl rfl rfl rfl ⟨rfl,rfl,rfl,rfl,trivial⟩ ?_
       refine dst 16 ?_;refine aS ?_
       exact⟨(),trivial,aO h0 [1,2,3,4,5] _ _ (by decide) ⟨rfl,rfl,rfl,rfl,rfl,rfl,trivial⟩ ⟨oe rfl rfl,oe rfl rfl,oe rfl rfl,oe rfl rfl,oe rfl rfl,rfl⟩⟩
      refine bV (key:=5) 14 rfl rfl aA rfl ⟨rfl,rfl,rfl,rfl,trivial⟩ ?_;refine aG 12 rfl (hMr) cH ⟨a1 rfl,a1 rfl,rfl⟩ (kF (bJ (aL k) (k.natAbs%k'.natAbs))) ?_
      refine aT 15 (by kernel_rfl) rfl rfl aA rfl rfl rfl rfl ⟨rfl,rfl,rfl,rfl,trivial⟩ ?_
      refine dst 16 ?_;refine aS ?_
      exact⟨(),trivial,aO h0 [1,2,3,4,5] _ _ (by decide) ⟨rfl,rfl,rfl,rfl,rfl,rfl,trivial⟩ ⟨oe rfl rfl,oe rfl rfl,oe rfl rfl,oe rfl rfl,oe rfl rfl,rfl⟩⟩
     refine bV (key:=4) 14 rfl rfl aA rfl ⟨rfl,rfl,rfl,rfl,trivial⟩ ?_;refine WO.two (i:=12) (j:=13) (by kernel_rfl) ?_ ?_
     ·refine cZ 12 rfl (hMr) cH ⟨a1 rfl,a1 rfl,rfl⟩ (kF (bJ (aL k) (k.natAbs%k'.natAbs))) ?_
      refine eP (key:=5) 13 (by kernel_rfl) rfl rfl aA rfl ⟨rfl,rfl,rfl,rfl,trivial⟩ ?_
      refine aT 15 (by kernel_rfl) rfl rfl aA rfl rfl rfl rfl ⟨rfl,rfl,rfl,rfl,trivial⟩ ?_
      refine dst 16 ?_;refine aS ?_
      exact⟨(),trivial,aO h0 [1,2,3,5,4] _ _ (by decide) ⟨rfl,rfl,rfl,rfl,rfl,rfl,trivial⟩ ⟨oe rfl rfl,oe rfl rfl,oe rfl rfl,oe rfl rfl,oe rfl rfl,rfl⟩⟩
     refine bV (key:=5) 13 rfl rfl aA rfl ⟨rfl,rfl,rfl,rfl,trivial⟩ ?_;refine aG 12 rfl (hMr) cH ⟨a1 rfl,a1 rfl,rfl⟩ (kF (bJ (aL k) (k.natAbs%k'.natAbs))) ?_
     refine aT 15 (by kernel_rfl) rfl rfl aA rfl rfl rfl rfl ⟨rfl,rfl,rfl,rfl,trivial⟩ ?_
     refine dst 16 ?_;refine aS ?_
     exact⟨(),trivial,aO h0 [1,2,3,5,4] _ _ (by decide) ⟨rfl,rfl,rfl,rfl,rfl,rfl,trivial⟩ ⟨oe rfl rfl,oe rfl rfl,oe rfl rfl,oe rfl rfl,oe rfl rfl,rfl⟩⟩
    ·refine bV (key:=4) 13 rfl rfl aA rfl ⟨rfl,rfl,rfl,rfl,trivial⟩ ?_;refine WO.two (i:=11) (j:=14) (by kernel_rfl) ?_ ?_
     ·refine cZ 11 rfl (hLr) eJ ⟨a1 rfl,rfl⟩ (.one (.t (sU false zr))) ?_;refine WO.two (i:=12) (j:=14) (by kernel_rfl) ?_ ?_
      ·refine cZ 12 rfl (hMr) cH ⟨a1 rfl,a1 rfl,rfl⟩ (kF (bJ (aL k) (k.natAbs%k'.natAbs))) ?_
       refine eP (key:=5) 14 (by kernel_rfl) rfl rfl aA rfl ⟨rfl,rfl,rfl,rfl,trivial⟩ ?_
       refine aT 15 (by kernel_rfl) rfl rfl aA rfl rfl rfl rfl ⟨rfl,rfl,rfl,rfl,trivial⟩ ?_
       refine dst 16 ?_;refine aS ?_
       exact⟨(),trivial,aO h0 [1,2,3,4,5] _ _ (by decide) ⟨rfl,rfl,rfl,rfl,rfl,rfl,trivial⟩ ⟨oe rfl rfl,oe rfl rfl,oe rfl rfl,oe rfl rfl,oe rfl rfl,rfl⟩⟩
      refine bV (key:=5) 14 rfl rfl aA rfl ⟨rfl,rfl,rfl,rfl,trivial⟩ ?_;refine aG 12 rfl (hMr) cH ⟨a1 rfl,a1 rfl,rfl⟩ (kF (bJ (aL k) (k.natAbs%k'.natAbs))) ?_
      refine aT 15 (by kernel_rfl) rfl rfl aA rfl rfl rfl rfl ⟨rfl,rfl,rfl,rfl,trivial⟩ ?_
      refine dst 16 ?_;refine aS ?_
      exact⟨(),trivial,aO h0 [1,2,3,4,5] _ _ (by decide) ⟨rfl,rfl,rfl,rfl,rfl,rfl,trivial⟩ ⟨oe rfl rfl,oe rfl rfl,oe rfl rfl,oe rfl rfl,oe rfl rfl,rfl⟩⟩
     refine bV (key:=5) 14 rfl rfl aA rfl ⟨rfl,rfl,rfl,rfl,trivial⟩ ?_;refine aG 11 rfl (hLr) eJ ⟨a1 rfl,rfl⟩ (.one (.t (sU false zr))) ?_
     refine aG 12 rfl (hMr) cH ⟨a1 rfl,a1 rfl,rfl⟩ (kF (bJ (aL k) (k.natAbs%k'.natAbs))) ?_
     refine aT 15 (by kernel_rfl) rfl rfl aA rfl rfl rfl rfl ⟨rfl,rfl,rfl,rfl,trivial⟩ ?_
     refine dst 16 ?_;refine aS ?_
     exact⟨(),trivial,aO h0 [1,2,3,4,5] _ _ (by decide) ⟨rfl,rfl,rfl,rfl,rfl,rfl,trivial⟩ ⟨oe rfl rfl,oe rfl rfl,oe rfl rfl,oe rfl rfl,oe rfl rfl,rfl⟩⟩
    refine bV (key:=4) 14 rfl rfl aA rfl ⟨rfl,rfl,rfl,rfl,trivial⟩ ?_;refine WO.two (i:=11) (j:=13) (by kernel_rfl) ?_ ?_
    ·refine cZ 11 rfl (hLr) eJ ⟨a1 rfl,rfl⟩ (.one (.t (sU false zr))) ?_;refine WO.two (i:=12) (j:=13) (by kernel_rfl) ?_ ?_
     ·refine cZ 12 rfl (hMr) cH ⟨a1 rfl,a1 rfl,rfl⟩ (kF (bJ (aL k) (k.natAbs%k'.natAbs))) ?_
      refine eP (key:=5) 13 (by kernel_rfl) rfl rfl aA rfl ⟨rfl,rfl,rfl,rfl,trivial⟩ ?_
      refine aT 15 (by kernel_rfl) rfl rfl aA rfl rfl rfl rfl ⟨rfl,rfl,rfl,rfl,trivial⟩ ?_
      refine dst 16 ?_;refine aS ?_
      exact⟨(),trivial,aO h0 [1,2,3,5,4] _ _ (by decide) ⟨rfl,rfl,rfl,rfl,rfl,rfl,trivial⟩ ⟨oe rfl rfl,oe rfl rfl,oe rfl rfl,oe rfl rfl,oe rfl rfl,rfl⟩⟩
     refine bV (key:=5) 13 rfl rfl aA rfl ⟨rfl,rfl,rfl,rfl,trivial⟩ ?_;refine aG 12 rfl (hMr) cH ⟨a1 rfl,a1 rfl,rfl⟩ (kF (bJ (aL k) (k.natAbs%k'.natAbs))) ?_
     refine aT 15 (by kernel_rfl) rfl rfl aA rfl rfl rfl rfl ⟨rfl,rfl,rfl,rfl,trivial⟩ ?_
     refine dst 16 ?_;refine aS ?_
     exact⟨(),trivial,aO h0 [1,2,3,5,4] _ _ (by decide) ⟨rfl,rfl,rfl,rfl,rfl,rfl,trivial⟩ ⟨oe rfl rfl,oe rfl rfl,oe rfl rfl,oe rfl rfl,oe rfl rfl,rfl⟩⟩
    refine bV (key:=5) 13 rfl rfl aA rfl ⟨rfl,rfl,rfl,rfl,trivial⟩ ?_;refine aG 11 rfl (hLr) eJ ⟨a1 rfl,rfl⟩ (.one (.t (sU false zr))) ?_
    refine aG 12 rfl (hMr) cH ⟨a1 rfl,a1 rfl,rfl⟩ (kF (bJ (aL k) (k.natAbs%k'.natAbs))) ?_
    refine aT 15 (by kernel_rfl) rfl rfl aA rfl rfl rfl rfl ⟨rfl,rfl,rfl,rfl,trivial⟩ ?_
    refine dst 16 ?_;refine aS ?_
    exact⟨(),trivial,aO h0 [1,2,3,5,4] _ _ (by decide) ⟨rfl,rfl,rfl,rfl,rfl,rfl,trivial⟩ ⟨oe rfl rfl,oe rfl rfl,oe rfl rfl,oe rfl rfl,oe rfl rfl,rfl⟩⟩
   ·refine bV (key:=4) 13 rfl rfl aA rfl ⟨rfl,rfl,rfl,rfl,trivial⟩ ?_;refine WO.two (i:=7) (j:=14) (by kernel_rfl) ?_ ?_
    ·refine cZ 7 rfl (hMq) cH ⟨a1 rfl,a1 rfl,rfl⟩ (kF (bJ (aL k != aL k') (k.natAbs/k'.natAbs))) ?_;refine WO.two (i:=11) (j:=14) (by kernel_rfl) ?_ ?_
     ·refine cZ 11 rfl (hLr) eJ ⟨a1 rfl,rfl⟩ (.one (.t (sU false zr))) ?_;refine WO.two (i:=12) (j:=14) (by kernel_rfl) ?_ ?_
      ·refine cZ 12 rfl (hMr) cH ⟨a1 rfl,a1 rfl,rfl⟩ (kF (bJ (aL k) (k.natAbs%k'.natAbs))) ?_
       refine eP (key:=5) 14 (by kernel_rfl) rfl rfl aA rfl ⟨rfl,rfl,rfl,rfl,trivial⟩ ?_
       refine aT 15 (by kernel_rfl) rfl rfl aA rfl rfl rfl rfl ⟨rfl,rfl,rfl,rfl,trivial⟩ ?_
       refine dst 16 ?_;refine aS ?_
       exact⟨(),trivial,aO h0 [1,2,3,4,5] _ _ (by decide) ⟨rfl,rfl,rfl,rfl,rfl,rfl,trivial⟩ ⟨oe rfl rfl,oe rfl rfl,oe rfl rfl,oe rfl rfl,oe rfl rfl,rfl⟩⟩
      refine bV (key:=5) 14 rfl rfl aA rfl ⟨rfl,rfl,rfl,rfl,trivial⟩ ?_;refine aG 12 rfl (hMr) cH ⟨a1 rfl,a1 rfl,rfl⟩ (kF (bJ (aL k) (k.natAbs%k'.natAbs))) ?_
      refine aT 15 (by kernel_rfl) rfl rfl aA rfl rfl rfl rfl ⟨rfl,rfl,rfl,rfl,trivial⟩ ?_
      refine dst 16 ?_;refine aS ?_
      exact⟨(),trivial,aO h0 [1,2,3,4,5] _ _ (by decide) ⟨rfl,rfl,rfl,rfl,rfl,rfl,trivial⟩ ⟨oe rfl rfl,oe rfl rfl,oe rfl rfl,oe rfl rfl,oe rfl rfl,rfl⟩⟩
     refine bV (key:=5) 14 rfl rfl aA rfl ⟨rfl,rfl,rfl,rfl,trivial⟩ ?_;refine aG 11 rfl (hLr) eJ ⟨a1 rfl,rfl⟩ (.one (.t (sU false zr))) ?_
     refine aG 12 rfl (hMr) cH ⟨a1 rfl,a1 rfl,rfl⟩ (kF (bJ (aL k) (k.natAbs%k'.natAbs))) ?_
     refine aT 15 (by kernel_rfl) rfl rfl aA rfl rfl rfl rfl ⟨rfl,rfl,rfl,rfl,trivial⟩ ?_
     refine dst 16 ?_;refine aS ?_
     exact⟨(),trivial,aO h0 [1,2,3,4,5] _ _ (by decide) ⟨rfl,rfl,rfl,rfl,rfl,rfl,trivial⟩ ⟨oe rfl rfl,oe rfl rfl,oe rfl rfl,oe rfl rfl,oe rfl rfl,rfl⟩⟩
    refine bV (key:=5) 14 rfl rfl aA rfl ⟨rfl,rfl,rfl,rfl,trivial⟩ ?_;refine aG 7 rfl (hMq) cH ⟨a1 rfl,a1 rfl,rfl⟩ (kF (bJ (aL k != aL k') (k.natAbs/k'.natAbs))) ?_
    refine aG 11 rfl (hLr) eJ ⟨a1 rfl,rfl⟩ (.one (.t (sU false zr))) ?_;refine aG 12 rfl (hMr) cH ⟨a1 rfl,a1 rfl,rfl⟩ (kF (bJ (aL k) (k.natAbs%k'.natAbs))) ?_
    refine aT 15 (by kernel_rfl) rfl rfl aA rfl rfl rfl rfl ⟨rfl,rfl,rfl,rfl,trivial⟩ ?_
    refine dst 16 ?_;refine aS ?_
    exact⟨(),trivial,aO h0 [1,2,3,4,5] _ _ (by decide) ⟨rfl,rfl,rfl,rfl,rfl,rfl,trivial⟩ ⟨oe rfl rfl,oe rfl rfl,oe rfl rfl,oe rfl rfl,oe rfl rfl,rfl⟩⟩
   refine bV (key:=4) 14 rfl rfl aA rfl ⟨rfl,rfl,rfl,rfl,trivial⟩ ?_;refine WO.two (i:=7) (j:=13) (by kernel_rfl) ?_ ?_
   ·refine cZ 7 rfl (hMq) cH ⟨a1 rfl,a1 rfl,rfl⟩ (kF (bJ (aL k != aL k') (k.natAbs/k'.natAbs))) ?_;refine WO.two (i:=11) (j:=13) (by kernel_rfl) ?_ ?_
    ·refine cZ 11 rfl (hLr) eJ ⟨a1 rfl,rfl⟩ (.one (.t (sU false zr))) ?_;refine WO.two (i:=12) (j:=13) (by kernel_rfl) ?_ ?_
     ·refine cZ 12 rfl (hMr) cH ⟨a1 rfl,a1 rfl,rfl⟩ (kF (bJ (aL k) (k.natAbs%k'.natAbs))) ?_
      refine eP (key:=5) 13 (by kernel_rfl) rfl rfl aA rfl ⟨rfl,rfl,rfl,rfl,trivial⟩ ?_
      refine aT 15 (by kernel_rfl) rfl rfl aA rfl rfl rfl rfl ⟨rfl,rfl,rfl,rfl,trivial⟩ ?_
      refine dst 16 ?_;refine aS ?_
      exact⟨(),trivial,aO h0 [1,2,3,5,4] _ _ (by decide) ⟨rfl,rfl,rfl,rfl,rfl,rfl,trivial⟩ ⟨oe rfl rfl,oe rfl rfl,oe rfl rfl,oe rfl rfl,oe rfl rfl,rfl⟩⟩
     refine bV (key:=5) 13 rfl rfl aA rfl ⟨rfl,rfl,rfl,rfl,trivial⟩ ?_;refine aG 12 rfl (hMr) cH ⟨a1 rfl,a1 rfl,rfl⟩ (kF (bJ (aL k) (k.natAbs%k'.natAbs))) ?_
     refine aT 15 (by kernel_rfl) rfl rfl aA rfl rfl rfl rfl ⟨rfl,rfl,rfl,rfl,trivial⟩ ?_
     refine dst 16 ?_;refine aS ?_
     exact⟨(),trivial,aO h0 [1,2,3,5,4] _ _ (by decide) ⟨rfl,rfl,rfl,rfl,rfl,rfl,trivial⟩ ⟨oe rfl rfl,oe rfl rfl,oe rfl rfl,oe rfl rfl,oe rfl rfl,rfl⟩⟩
    refine bV (key:=5) 13 rfl rfl aA rfl ⟨rfl,rfl,rfl,rfl,trivial⟩ ?_;refine aG 11 rfl (hLr) eJ ⟨a1 rfl,rfl⟩ (.one (.t (sU false zr))) ?_
    refine aG 12 rfl (hMr) cH ⟨a1 rfl,a1 rfl,rfl⟩ (kF (bJ (aL k) (k.natAbs%k'.natAbs))) ?_
    refine aT 15 (by kernel_rfl) rfl rfl aA rfl rfl rfl rfl ⟨rfl,rfl,rfl,rfl,trivial⟩ ?_
    refine dst 16 ?_;refine aS ?_
    exact⟨(),trivial,aO h0 [1,2,3,5,4] _ _ (by decide) ⟨rfl,rfl,rfl,rfl,rfl,rfl,trivial⟩ ⟨oe rfl rfl,oe rfl rfl,oe rfl rfl,oe rfl rfl,oe rfl rfl,rfl⟩⟩
   refine bV (key:=5) 13 rfl rfl aA rfl ⟨rfl,rfl,rfl,rfl,trivial⟩ ?_;refine aG 7 rfl (hMq) cH ⟨a1 rfl,a1 rfl,rfl⟩ (kF (bJ (aL k != aL k') (k.natAbs/k'.natAbs))) ?_
   refine aG 11 rfl (hLr) eJ ⟨a1 rfl,rfl⟩ (.one (.t (sU false zr))) ?_;refine aG 12 rfl (hMr) cH ⟨a1 rfl,a1 rfl,rfl⟩ (kF (bJ (aL k) (k.natAbs%k'.natAbs))) ?_
   refine aT 15 (by kernel_rfl) rfl rfl aA rfl rfl rfl rfl ⟨rfl,rfl,rfl,rfl,trivial⟩ ?_
   refine dst 16 ?_;refine aS ?_
   exact⟨(),trivial,aO h0 [1,2,3,5,4] _ _ (by decide) ⟨rfl,rfl,rfl,rfl,rfl,rfl,trivial⟩ ⟨oe rfl rfl,oe rfl rfl,oe rfl rfl,oe rfl rfl,oe rfl rfl,rfl⟩⟩
  ·refine bV (key:=4) 13 rfl rfl aA rfl ⟨rfl,rfl,rfl,rfl,trivial⟩ ?_;refine WO.two (i:=6) (j:=14) (by kernel_rfl) ?_ ?_
   ·refine cZ 6 rfl (hLq) eJ ⟨a1 rfl,rfl⟩ (.one (.t (sU false zq))) ?_;refine WO.two (i:=7) (j:=14) (by kernel_rfl) ?_ ?_
    ·refine cZ 7 rfl (hMq) cH ⟨a1 rfl,a1 rfl,rfl⟩ (kF (bJ (aL k != aL k') (k.natAbs/k'.natAbs))) ?_;refine WO.two (i:=11) (j:=14) (by kernel_rfl) ?_ ?_
     ·refine cZ 11 rfl (hLr) eJ ⟨a1 rfl,rfl⟩ (.one (.t (sU false zr))) ?_;refine WO.two (i:=12) (j:=14) (by kernel_rfl) ?_ ?_
      ·refine cZ 12 rfl (hMr) cH ⟨a1 rfl,a1 rfl,rfl⟩ (kF (bJ (aL k) (k.natAbs%k'.natAbs))) ?_
       refine eP (key:=5) 14 (by kernel_rfl) rfl rfl aA rfl ⟨rfl,rfl,rfl,rfl,trivial⟩ ?_
       refine aT 15 (by kernel_rfl) rfl rfl aA rfl rfl rfl rfl ⟨rfl,rfl,rfl,rfl,trivial⟩ ?_
       refine dst 16 ?_;refine aS ?_
       exact⟨(),trivial,aO h0 [1,2,3,4,5] _ _ (by decide) ⟨rfl,rfl,rfl,rfl,rfl,rfl,trivial⟩ ⟨oe rfl rfl,oe rfl rfl,oe rfl rfl,oe rfl rfl,oe rfl rfl,rfl⟩⟩
      refine bV (key:=5) 14 rfl rfl aA rfl ⟨rfl,rfl,rfl,rfl,trivial⟩ ?_;refine aG 12 rfl (hMr) cH ⟨a1 rfl,a1 rfl,rfl⟩ (kF (bJ (aL k) (k.natAbs%k'.natAbs))) ?_
      refine aT 15 (by kernel_rfl) rfl rfl aA rfl rfl rfl rfl ⟨rfl,rfl,rfl,rfl,trivial⟩ ?_
      refine dst 16 ?_;refine aS ?_
      exact⟨(),trivial,aO h0 [1,2,3,4,5] _ _ (by decide) ⟨rfl,rfl,rfl,rfl,rfl,rfl,trivial⟩ ⟨oe rfl rfl,oe rfl rfl,oe rfl rfl,oe rfl rfl,oe rfl rfl,rfl⟩⟩
     refine bV (key:=5) 14 rfl rfl aA rfl ⟨rfl,rfl,rfl,rfl,trivial⟩ ?_;refine aG 11 rfl (hLr) eJ ⟨a1 rfl,rfl⟩ (.one (.t (sU false zr))) ?_
     refine aG 12 rfl (hMr) cH ⟨a1 rfl,a1 rfl,rfl⟩ (kF (bJ (aL k) (k.natAbs%k'.natAbs))) ?_
     refine aT 15 (by kernel_rfl) rfl rfl aA rfl rfl rfl rfl ⟨rfl,rfl,rfl,rfl,trivial⟩ ?_
     refine dst 16 ?_;refine aS ?_
     exact⟨(),trivial,aO h0 [1,2,3,4,5] _ _ (by decide) ⟨rfl,rfl,rfl,rfl,rfl,rfl,trivial⟩ ⟨oe rfl rfl,oe rfl rfl,oe rfl rfl,oe rfl rfl,oe rfl rfl,rfl⟩⟩
    refine bV (key:=5) 14 rfl rfl aA rfl ⟨rfl,rfl,rfl,rfl,trivial⟩ ?_;refine aG 7 rfl (hMq) cH ⟨a1 rfl,a1 rfl,rfl⟩ (kF (bJ (aL k != aL k') (k.natAbs/k'.natAbs))) ?_
    refine aG 11 rfl (hLr) eJ ⟨a1 rfl,rfl⟩ (.one (.t (sU false zr))) ?_;refine aG 12 rfl (hMr) cH ⟨a1 rfl,a1 rfl,rfl⟩ (kF (bJ (aL k) (k.natAbs%k'.natAbs))) ?_
    refine aT 15 (by kernel_rfl) rfl rfl aA rfl rfl rfl rfl ⟨rfl,rfl,rfl,rfl,trivial⟩ ?_
    refine dst 16 ?_;refine aS ?_
    exact⟨(),trivial,aO h0 [1,2,3,4,5] _ _ (by decide) ⟨rfl,rfl,rfl,rfl,rfl,rfl,trivial⟩ ⟨oe rfl rfl,oe rfl rfl,oe rfl rfl,oe rfl rfl,oe rfl rfl,rfl⟩⟩
   refine bV (key:=5) 14 rfl rfl aA rfl ⟨rfl,rfl,rfl,rfl,trivial⟩ ?_;refine aG 6 rfl (hLq) eJ ⟨a1 rfl,rfl⟩ (.one (.t (sU false zq))) ?_
   refine aG 7 rfl (hMq) cH ⟨a1 rfl,a1 rfl,rfl⟩ (kF (bJ (aL k != aL k') (k.natAbs/k'.natAbs))) ?_;refine aG 11 rfl (hLr) eJ ⟨a1 rfl,rfl⟩ (.one (.t (sU false zr))) ?_
   refine aG 12 rfl (hMr) cH ⟨a1 rfl,a1 rfl,rfl⟩ (kF (bJ (aL k) (k.natAbs%k'.natAbs))) ?_;refine aT 15 (by kernel_rfl) rfl rfl aA rfl rfl rfl rfl ⟨rfl,rfl,rfl,rfl,trivial⟩ ?_
   refine dst 16 ?_;refine aS ?_
   exact⟨(),trivial,aO h0 [1,2,3,4,5] _ _ (by decide) ⟨rfl,rfl,rfl,rfl,rfl,rfl,trivial⟩ ⟨oe rfl rfl,oe rfl rfl,oe rfl rfl,oe rfl rfl,oe rfl rfl,rfl⟩⟩
  refine bV (key:=4) 14 rfl rfl aA rfl ⟨rfl,rfl,rfl,rfl,trivial⟩ ?_;refine WO.two (i:=6) (j:=13) (by kernel_rfl) ?_ ?_
  ·refine cZ 6 rfl (hLq) eJ ⟨a1 rfl,rfl⟩ (.one (.t (sU false zq))) ?_;refine WO.two (i:=7) (j:=13) (by kernel_rfl) ?_ ?_
   ·refine cZ 7 rfl (hMq) cH ⟨a1 rfl,a1 rfl,rfl⟩ (kF (bJ (aL k != aL k') (k.natAbs/k'.natAbs))) ?_;refine WO.two (i:=11) (j:=13) (by kernel_rfl) ?_ ?_
    ·refine cZ 11 rfl (hLr) eJ ⟨a1 rfl,rfl⟩ (.one (.t (sU false zr))) ?_;refine WO.two (i:=12) (j:=13) (by kernel_rfl) ?_ ?_
     ·refine cZ 12 rfl (hMr) cH ⟨a1 rfl,a1 rfl,rfl⟩ (kF (bJ (aL k) (k.natAbs%k'.natAbs))) ?_
      refine eP (key:=5) 13 (by kernel_rfl) rfl rfl aA rfl ⟨rfl,rfl,rfl,rfl,trivial⟩ ?_
      refine aT 15 (by kernel_rfl) rfl rfl aA rfl rfl rfl rfl ⟨rfl,rfl,rfl,rfl,trivial⟩ ?_
      refine dst 16 ?_;refine aS ?_
      exact⟨(),trivial,aO h0 [1,2,3,5,4] _ _ (by decide) ⟨rfl,rfl,rfl,rfl,rfl,rfl,trivial⟩ ⟨oe rfl rfl,oe rfl rfl,oe rfl rfl,oe rfl rfl,oe rfl rfl,rfl⟩⟩
     refine bV (key:=5) 13 rfl rfl aA rfl ⟨rfl,rfl,rfl,rfl,trivial⟩ ?_;refine aG 12 rfl (hMr) cH ⟨a1 rfl,a1 rfl,rfl⟩ (kF (bJ (aL k) (k.natAbs%k'.natAbs))) ?_
     refine aT 15 (by kernel_rfl) rfl rfl aA rfl rfl rfl rfl ⟨rfl,rfl,rfl,rfl,trivial⟩ ?_
     refine dst 16 ?_;refine aS ?_
     exact⟨(),trivial,aO h0 [1,2,3,5,4] _ _ (by decide) ⟨rfl,rfl,rfl,rfl,rfl,rfl,trivial⟩ ⟨oe rfl rfl,oe rfl rfl,oe rfl rfl,oe rfl rfl,oe rfl rfl,rfl⟩⟩
    refine bV (key:=5) 13 rfl rfl aA rfl ⟨rfl,rfl,rfl,rfl,trivial⟩ ?_;refine aG 11 rfl (hLr) eJ ⟨a1 rfl,rfl⟩ (.one (.t (sU false zr))) ?_
    refine aG 12 rfl (hMr) cH ⟨a1 rfl,a1 rfl,rfl⟩ (kF (bJ (aL k) (k.natAbs%k'.natAbs))) ?_
    refine aT 15 (by kernel_rfl) rfl rfl aA rfl rfl rfl rfl ⟨rfl,rfl,rfl,rfl,trivial⟩ ?_
    refine dst 16 ?_;refine aS ?_
    exact⟨(),trivial,aO h0 [1,2,3,5,4] _ _ (by decide) ⟨rfl,rfl,rfl,rfl,rfl,rfl,trivial⟩ ⟨oe rfl rfl,oe rfl rfl,oe rfl rfl,oe rfl rfl,oe rfl rfl,rfl⟩⟩
   refine bV (key:=5) 13 rfl rfl aA rfl ⟨rfl,rfl,rfl,rfl,trivial⟩ ?_;refine aG 7 rfl (hMq) cH ⟨a1 rfl,a1 rfl,rfl⟩ (kF (bJ (aL k != aL k') (k.natAbs/k'.natAbs))) ?_
   refine aG 11 rfl (hLr) eJ ⟨a1 rfl,rfl⟩ (.one (.t (sU false zr))) ?_;refine aG 12 rfl (hMr) cH ⟨a1 rfl,a1 rfl,rfl⟩ (kF (bJ (aL k) (k.natAbs%k'.natAbs))) ?_
   refine aT 15 (by kernel_rfl) rfl rfl aA rfl rfl rfl rfl ⟨rfl,rfl,rfl,rfl,trivial⟩ ?_
   refine dst 16 ?_;refine aS ?_
   exact⟨(),trivial,aO h0 [1,2,3,5,4] _ _ (by decide) ⟨rfl,rfl,rfl,rfl,rfl,rfl,trivial⟩ ⟨oe rfl rfl,oe rfl rfl,oe rfl rfl,oe rfl rfl,oe rfl rfl,rfl⟩⟩
  refine bV (key:=5) 13 rfl rfl aA rfl ⟨rfl,rfl,rfl,rfl,trivial⟩ ?_;refine aG 6 rfl (hLq) eJ ⟨a1 rfl,rfl⟩ (.one (.t (sU false zq))) ?_
  refine aG 7 rfl (hMq) cH ⟨a1 rfl,a1 rfl,rfl⟩ (kF (bJ (aL k != aL k') (k.natAbs/k'.natAbs))) ?_;refine aG 11 rfl (hLr) eJ ⟨a1 rfl,rfl⟩ (.one (.t (sU false zr))) ?_
  refine aG 12 rfl (hMr) cH ⟨a1 rfl,a1 rfl,rfl⟩ (kF (bJ (aL k) (k.natAbs%k'.natAbs))) ?_;refine aT 15 (by kernel_rfl) rfl rfl aA rfl rfl rfl rfl ⟨rfl,rfl,rfl,rfl,trivial⟩ ?_
  refine dst 16 ?_;refine aS ?_
  exact⟨(),trivial,aO h0 [1,2,3,5,4] _ _ (by decide) ⟨rfl,rfl,rfl,rfl,rfl,rfl,trivial⟩ ⟨oe rfl rfl,oe rfl rfl,oe rfl rfl,oe rfl rfl,oe rfl rfl,rfl⟩⟩
 have hlq:(dg 4294967296 (bJ (aL k != aL k') (k.natAbs/k'.natAbs)).natAbs).length≤(dg 4294967296 (k).natAbs).length:=by rw[iI];exact dG (Nat.div_le_self _ _)
 have hlr:(dg 4294967296 (bJ (aL k) (k.natAbs%k'.natAbs)).natAbs).length≤(dg 4294967296 (k).natAbs).length:=by rw[iI];exact dG (Nat.mod_le _ _)
 refine sq ?_;refine sq ?_;refine rd [0,1,2,3,4] (fun i=>[].contains i) mixed ?_
 refine aU 0 ?_;refine aG 1 rfl (jW (Zn.of (k:=bJ (aL k) (k.natAbs%k'.natAbs)) (by omega))) sY ⟨aB rfl,rfl⟩ (.one (tv (.int .i64 (bJ (aL k) (k.natAbs%k'.natAbs)).sign))) ?_
 refine df 2 ?_;refine df 3 ?_;refine WD.split (t:=47) rfl rfl (fun h6=>?_) (fun h6=>?_)
 ·refine aU 4 ?_;refine aU 6 ?_
  refine aG 5 rfl (jW (Zn.of (k:=bJ (aL k) (k.natAbs%k'.natAbs)) (by omega))) sY ⟨aB rfl,rfl⟩ (.one (tv (.int .i64 (bJ (aL k) (k.natAbs%k'.natAbs)).sign))) ?_
  refine aG 7 rfl (jW (Zn.of (k:=k') (by omega))) sY ⟨aB rfl,rfl⟩ (.one (tv (.int .i64 (k').sign))) ?_
  refine df 8 ?_;refine df 9 ?_;refine aS ?_;refine bN rfl (fun h7=>?_) (fun h7=>?_)
  ·refine sq ?_;refine rd [0,1,2,3,4] (fun i=>[2,3].contains i) mixed ?_
   refine aU 0 ?_;have hol:(dg 4294967296 (1:Int).natAbs).length≤1:=bQ (by omega) (by decide)
   refine aG 1 rfl (jX (n:=1) (by omega) (by omega)) mS ⟨a1 rfl,rfl⟩ (kF (1:Int)) ?_
   refine aG 2 rfl (NZ (Zn.of (k:=bJ (aL k != aL k') (k.natAbs/k'.natAbs)) (by omega)) (Zn.of (k:=(1:Int)) (by omega))) RH ⟨aB rfl,aB rfl,rfl⟩ (kF (bJ (aL k != aL k') (k.natAbs/k'.natAbs)-(1:Int))) ?_
   refine dst 3 ?_;refine aS ?_;refine rl ?_;refine ld ?_;refine ld ?_
   refine ca (lT (Zn.of (k:=bJ (aL k) (k.natAbs%k'.natAbs)) (by omega)) (Zn.of (k:=k') (by omega))) sZ ⟨aB rfl,aB rfl,rfl⟩ (kF (bJ (aL k) (k.natAbs%k'.natAbs)+k')) ?_
   refine st ?_;refine nl ?_;refine sq ?_;refine rd [0,2,3,4] (fun i=>[3,4].contains i) mixed ?_
   refine aU 0 ?_;refine aU 1 ?_;refine aT 2 (by kernel_rfl) rfl rfl aA rfl rfl rfl rfl ⟨rfl,rfl,rfl,rfl,trivial⟩ ?_
   refine dst 3 ?_;refine cV 4 (by kernel_rfl) rfl rfl aA rfl (by trivial) ?_ (fun h=>by first | rfl | cases h)
   refine aS ?_;refine rt ?_;obtain⟨hd1,hd2⟩:=GK (a:=k) (b:=k') hkn rfl rfl h6 h7
   exact en (.inl rfl) rfl (gP (.cons (.agg (.cons (.id rfl) (.cons (.id rfl) .nil))) (.cons (.agg (.cons (.id rfl) (.cons (.id rfl) .nil))) (.cons (aP _) .nil)))) (by decide) (fun h=>by cases h) (by rw[if_neg hkn,if_neg hkn,if_neg hkn,←hd1,←hd2];rfl)
  refine sk ?_;refine sq ?_;refine rd [0,2,3,4] (fun i=>[3,4].contains i) mixed ?_
  refine aU 0 ?_;refine aU 1 ?_;refine aT 2 (by kernel_rfl) rfl rfl aA rfl rfl rfl rfl ⟨rfl,rfl,rfl,rfl,trivial⟩ ?_
  refine dst 3 ?_;refine cV 4 (by kernel_rfl) rfl rfl aA rfl (by trivial) ?_ (fun h=>by first | rfl | cases h)
  refine aS ?_;refine rt ?_;obtain⟨hd1,hd2⟩:=Oj (a:=k) (b:=k') hkn rfl rfl (.inr (Decidable.byContradiction h7))
  exact en (.inl rfl) rfl (gP (.cons (.agg (.cons (.id rfl) (.cons (.id rfl) .nil))) (.cons (.agg (.cons (.id rfl) (.cons (.id rfl) .nil))) (.cons (aP _) .nil)))) (by decide) (fun h=>by cases h) (by rw[if_neg hkn,if_neg hkn,if_neg hkn,←hd1,←hd2];rfl)
 refine bR 4 ?_;refine bR 6 ?_;refine bR 5 ?_;refine bR 7 ?_;refine bR 8 ?_;refine df 9 ?_;refine aS ?_;refine fD rfl ?_;refine sk ?_;refine sq ?_
 refine rd [0,2,3,4] (fun i=>[3,4].contains i) mixed ?_
 refine aU 0 ?_;refine aU 1 ?_;refine aT 2 (by kernel_rfl) rfl rfl aA rfl rfl rfl rfl ⟨rfl,rfl,rfl,rfl,trivial⟩ ?_
 refine dst 3 ?_;refine cV 4 (by kernel_rfl) rfl rfl aA rfl (by trivial) ?_ (fun h=>by first | rfl | cases h)
 refine aS ?_;refine rt ?_;obtain⟨hd1,hd2⟩:=Oj (a:=k) (b:=k') hkn rfl rfl (.inl (Decidable.byContradiction h6))
 exact en (.inl rfl) rfl (gP (.cons (.agg (.cons (.id rfl) (.cons (.id rfl) .nil))) (.cons (.agg (.cons (.id rfl) (.cons (.id rfl) .nil))) (.cons (aP _) .nil)))) (by decide) (fun h=>by cases h) (by rw[if_neg hkn,if_neg hkn,if_neg hkn,←hd1,←hd2];rfl)
def Zg (a:Zi) (k:Int):Prop:=Lim 4294967296 a.x∧a.x.length≤300000000000∧dD a.s a.x=k
theorem Zn.g {a:Zi}{k:Int}(h:Zn a k):Zg a k:=⟨h.1,Nat.le_trans h.2.1 (by omega),h.2.2⟩
theorem Zg.of {k:Int}(h:(dg 4294967296 k.natAbs).length≤300000000000):Zg (.of k) k:=⟨aN (by omega) _,h,rC k⟩
theorem Zg.len {a:Zi}{k:Int}(h:Zg a k):(dg 4294967296 k.natAbs).length≤300000000000:=by
 obtain⟨h1,h2,rfl⟩:=h
 exact Nat.le_trans (wV h1) h2
theorem Zg.wrong {a:Zi}{k:Int}(h:Zg a k) (hr:cQ a.s a.x=false):k=0:=by
 obtain⟨h1,h2,rfl⟩:=h
 exact Ba hr
theorem Wh {a:Zi}{k:Int}(h:Zg a k) (hr:cQ a.s a.x=true):gF a=kF k:=by
 obtain⟨h1,h2,rfl⟩:=h
 unfold gF kF
 rw[wC h1 hr,oN h1 hr]
theorem Bu {a:Zi}{k:Int}(ha:Zg a k):aE true Tryz.prog 156 [] [gF a] (aM (.one (tv (.bool (cQ a.s a.x))))):=by
 refine bD Tryz.func156 rfl Tryz.ntmps156 rfl aA rfl fun N w c0 h0=>?_
 have hal:=ha.2.1
 refine sq ?_;refine rl ?_;refine bx 0 ?_;refine o1 ?_;refine nl ?_;refine sq ?_;refine rl ?_;refine o1 ?_;refine ld ?_;refine o1 ?_;refine o1 ?_;refine nl ?_;refine sq ?_;refine rl ?_
 (iterate 3 refine o1 ?_);refine WL.split (t:=9) rfl (fun h1=>?_) (fun h1=>?_)
 ·refine o1 ?_;refine ld ?_;refine WL.splitb (t:=11) rfl (fun h2=>?_) (fun h2=>?_)
  ·(iterate 6 refine o1 ?_);refine WL.split (t:=17) rfl (fun h3=>?_) (fun h3=>?_)
   ·refine o1 ?_;refine ld ?_;refine o1 ?_;refine o1 ?_;refine WL.cast (t:=21) (u':=.int .i64 ((a.x.length-1:Nat):Int)) rfl (aH (by omega)) ?_
    refine o1 ?_;refine kD ([.v (.int .u32 ((nth a.x (a.x.length-1):Nat):Int))]) (nW a.x (k:=a.x.length-1) (by omega)) ?_
    (iterate 4 refine o1 ?_);refine nl ?_;refine rt ?_;refine en (.inl rfl) rfl (aV (aP _)) (by decide) (fun _=>trivial) (congrArg (fun b=>FV.one (tv (.bool b))) ?_)
    rw[mB (by omega)];simp_all
   (iterate 7 refine cG ?_);(iterate 3 refine o1 ?_);refine nl ?_;refine rt ?_
   refine en (.inl rfl) rfl (aV (aP _)) (by decide) (fun _=>trivial) (congrArg (fun b=>FV.one (tv (.bool b))) ?_)
   rw[mB (by omega)];simp_all
  (iterate 3 refine o1 ?_);(iterate 11 refine cG ?_);refine o1 ?_;refine o1 ?_;refine nl ?_;refine rt ?_
  refine en (.inl rfl) rfl (aV (aP _)) (by decide) (fun _=>trivial) (congrArg (fun b=>FV.one (tv (.bool b))) ?_)
  rw[mB (by omega)];simp_all
 (iterate 3 refine cG ?_);(iterate 5 refine o1 ?_);refine WL.split (t:=17) rfl (fun h4=>?_) (fun h4=>?_)
 ·refine o1 ?_;refine ld ?_;refine o1 ?_;refine o1 ?_;refine WL.cast (t:=21) (u':=.int .i64 ((a.x.length-1:Nat):Int)) rfl (aH (by omega)) ?_
  refine o1 ?_;refine kD ([.v (.int .u32 ((nth a.x (a.x.length-1):Nat):Int))]) (nW a.x (k:=a.x.length-1) (by omega)) ?_
  (iterate 4 refine o1 ?_);refine nl ?_;refine rt ?_;refine en (.inl rfl) rfl (aV (aP _)) (by decide) (fun _=>trivial) (congrArg (fun b=>FV.one (tv (.bool b))) ?_)
  first | exact(tR rfl (by omega)).symm | (unfold cQ;simp_all;try omega)
 (iterate 7 refine cG ?_);(iterate 3 refine o1 ?_);refine nl ?_;refine rt ?_
 refine en (.inl rfl) rfl (aV (aP _)) (by decide) (fun _=>trivial) (congrArg (fun b=>FV.one (tv (.bool b))) ?_)
 first | exact(tR rfl (by omega)).symm | (unfold cQ;simp_all;try omega)
theorem dK {a:Zi}{k:Int}(ha:Zg a k):aE false Tryz.prog 118 [] [gF a] (aM (kF k)):=by
 refine bD Tryz.func118 rfl Tryz.ntmps118 rfl aA rfl fun N w c0 h0=>?_
 refine sq ?_;refine rl ?_;refine bx 0 ?_;refine al 1 ?_;refine nl ?_;refine sq ?_;refine sq ?_;refine rl ?_;refine ld ?_
 refine ca (Bu ha) Pn ⟨aB rfl,rfl⟩ (.one (tv (.bool (cQ a.s a.x)))) ?_;refine WL.splitb (t:=4) rfl (fun h1=>?_) (fun h1=>?_)
 ·refine o1 ?_;refine nl ?_;refine fD rfl ?_;refine sk ?_;refine sq ?_;refine rl ?_;refine ld ?_;refine o1 ?_;refine st ?_;refine nl ?_;refine rt ?_
  exact en (.inl rfl) rfl (aV (.agg (.read _ (l:=[.v (.bool a.s),sU false a.x]) rfl))) (by decide) (fun h=>by cases h) (Wh ha h1)
 refine o1 ?_;refine nl ?_;refine fV rfl ?_;refine sq ?_;refine rl ?_;refine o1 ?_;refine st ?_;refine nl ?_;refine rt ?_
 exact en (.inl rfl) rfl (aV (.agg (.cons (.id rfl) (.cons .nilf .nil)))) (by decide) (fun h=>by cases h) (by rw[ha.wrong h1];exact Dc)
theorem Wi {b:Bool}{m:Nat}{K:Int}(hK:bJ b m=K):aE false Tryz.prog 117 [] [.one (tv (.bool b)),.one (.t (sU false (dg 4294967296 m)))] (aM (kF K)):=by
 refine bD Tryz.func117 rfl Tryz.ntmps117 rfl aA rfl fun N w c0 h0=>?_
 refine sq ?_;refine rl ?_;refine al 0 ?_;refine nl ?_;refine sq ?_;refine rl ?_;refine o1 ?_;refine o1 ?_;refine WL.splitb (t:=6) rfl (fun h1=>?_) (fun h1=>?_)
 ·(iterate 6 refine o1 ?_);refine st ?_;refine nl ?_;refine rt ?_
  exact en (.inl rfl) rfl (aV (.agg (.cons (.id rfl) (.cons (.id rfl) .nil)))) (by decide) (fun h=>by cases h) (hK▸congrArg xD (tS (by rw[sA,h1,Bool.true_and,←kZ (m:=m) rfl];exact decide_eq_decide.2 (by omega)) (iI _ _).symm))
 (iterate 3 refine cG ?_);(iterate 3 refine o1 ?_);refine st ?_;refine nl ?_;refine rt ?_
 exact en (.inl rfl) rfl (aV (.agg (.cons (.id rfl) (.cons (.id rfl) .nil)))) (by decide) (fun h=>by cases h) (hK▸congrArg xD (tS (by rw[sA,h1];rfl) (iI _ _).symm))
theorem gH {b:Bool}{m:Nat}{K:Int}(hK:bJ b m=K):tQ false Tryz.prog 117 [⟨115,1,(aR (dg 4294967296 m)).map .t⟩] [.one (tv (.bool b)),.one (.sl 0 0 (dg 4294967296 m).length)] (· =kO K):=by
 refine XI Tryz.func117 rfl Tryz.ntmps117 rfl aA rfl fun N M w c0 h0=>?_
 refine sq ?_;refine rl ?_;refine al 1 ?_;refine nl ?_;refine sq ?_;refine rl ?_;refine o1 ?_;refine o1 ?_;refine WL.splitb (t:=6) rfl (fun h1=>?_) (fun h1=>?_)
 ·(iterate 6 refine o1 ?_);refine st ?_;refine nl ?_;refine rt ?_
  exact Bv (en (.inl rfl) rfl (aV (.agg (.cons (.id rfl) (.cons (.sl (trs:=aR (dg 4294967296 m)) rfl rfl (bG _) (aY _)) .nil)))) (by decide) (fun h=>by cases h) (hK▸tS (by rw[sA,h1,Bool.true_and,←kZ (m:=m) rfl];exact decide_eq_decide.2 (by omega)) (iI _ _).symm))
 (iterate 3 refine cG ?_);(iterate 3 refine o1 ?_);refine st ?_;refine nl ?_;refine rt ?_
 exact Bv (en (.inl rfl) rfl (aV (.agg (.cons (.id rfl) (.cons (.sl (trs:=aR (dg 4294967296 m)) rfl rfl (bG _) (aY _)) .nil)))) (by decide) (fun h=>by cases h) (hK▸tS (by rw[sA,h1];rfl) (iI _ _).symm))
theorem Kh {k:Int}:aE false Tryz.prog 121 [] [kF k] (aM (kF (-k))):=by
 refine bD Tryz.func121 rfl Tryz.ntmps121 rfl aA rfl fun N w c0 h0=>?_
 refine sq ?_;refine rl ?_;refine bx 0 ?_;refine al 1 ?_;refine nl ?_;refine sq ?_;refine rl ?_;refine o1 ?_;refine o1 ?_;refine ld ?_;(iterate 3 refine o1 ?_);refine ld ?_
 refine ca (Wi (m:=k.natAbs) (K:=-k) (Of k)) kQ ⟨a1 rfl,a1 rfl,rfl⟩ (kF (-k)) ?_;refine o1 ?_;refine st ?_;refine nl ?_;refine rt ?_
 exact en (.inl rfl) rfl (aV (.agg (.cons (.id rfl) (.cons (.id rfl) .nil)))) (by decide) (fun h=>by cases h) rfl
theorem BE {a:Zi}{k:Int}(ha:Zg a k):aE true Tryz.prog 70 [] [gF a] (aM (kO (-(k)))):=by
 refine bD Tryz.func70 rfl Tryz.ntmps70 rfl aA rfl fun N w c0 h0=>?_
 have hkl:=ha.len
 refine sq ?_;refine rl ?_;refine bx 0 ?_;refine al 1 ?_;refine nl ?_;refine sq ?_;refine rl ?_;refine ld ?_;refine ca (dK ha) cP ⟨aB rfl,rfl⟩ (kF (k)) ?_
 refine ca (Kh (k:=k)) CH ⟨aB rfl,rfl⟩ (kF (-(k))) ?_;refine al 2 ?_;refine st ?_;refine nl ?_;refine sq ?_;refine rd [0,1,2] (fun i=>[8].contains i) mixed ?_
 refine dv 0 ?_;refine dv 1 ?_;refine aU 2 ?_;refine dv 3 ?_;refine dv 4 ?_;refine aU 5 ?_
 refine mF 3 6 rfl (Om (aN (by omega) _) (by have:=jA k;omega)) CI ⟨a1 rfl,rfl⟩ ?_
 refine df 7 ?_;refine dst 8 ?_;refine aS ?_;refine rt ?_
 exact en (.inl rfl) rfl (aV (.agg (.cons (.id rfl) (.cons (.sl (trs:=aR (dg 4294967296 (-(k)).natAbs)) rfl rfl (bG _) (aY _)) .nil)))) (by decide) (fun _=>dZ (-(k))) rfl
theorem PD {a:Zi}{k:Int}(ha:Zg a k):aE true Tryz.prog 71 [] [gF a] (aM (kO (((k.natAbs:Nat):Int)))):=by
 refine bD Tryz.func71 rfl Tryz.ntmps71 rfl aA rfl fun N w c0 h0=>?_
 have hkl:=ha.len
 refine sq ?_;refine rl ?_;refine bx 0 ?_;refine al 1 ?_;refine nl ?_;refine sq ?_;refine rl ?_;refine ld ?_;refine ca (dK ha) cP ⟨aB rfl,rfl⟩ (kF (k)) ?_;refine o1 ?_;refine o1 ?_
 refine gG 2 (Om (aN (by omega) _) (by have:=jA k;omega)) CI ⟨a1 rfl,rfl⟩ ?_
 refine o1 ?_;refine st ?_;refine nl ?_;refine rt ?_
 exact en (.inl rfl) rfl (aV (.agg (.cons (.id rfl) (.cons (.sl (trs:=aR (dg 4294967296 k.natAbs)) rfl rfl (bG _) (aY _)) .nil)))) (by decide) (fun _=>Dd _ _) (tS (by unfold aL;simp) (by omega))
theorem Wj {k k':Int}(hk:(dg 4294967296 k.natAbs).length≤500000000000) (hk':(dg 4294967296 k'.natAbs).length≤500000000000):aE true Tryz.prog 162 [] [kF k,kF k'] (aM (kO (k+k'))):=by
 refine bD Tryz.func162 rfl Tryz.ntmps162 rfl aA rfl fun N w c0 h0=>?_
 have hal:=Db (xs:=dg 4294967296 k.natAbs) (ys:=dg 4294967296 k'.natAbs) (aN (by omega) _) (aN (by omega) _)
 rw[bI,bI]at hal;refine sq ?_;refine rl ?_;refine bx 0 ?_;refine bx 1 ?_;refine al 2 ?_;refine nl ?_;refine sq ?_;refine sq ?_;refine rl ?_;refine o1 ?_;refine o1 ?_
 refine ld ?_;refine o1 ?_;refine o1 ?_;refine ld ?_;refine o1 ?_;refine nl ?_;refine iW rfl (fun h1=>?_) (fun h1=>?_)
 ·refine sq ?_;refine rd [0,1,2] (fun i=>[11].contains i) mixed ?_
  refine dv 0 ?_;refine dv 1 ?_;refine aU 2 ?_;refine dv 3 ?_;refine dv 4 ?_;refine aU 5 ?_;refine dv 6 ?_;refine dv 7 ?_;refine aU 8 ?_
  have hA:aE true Tryz.prog 165 [] [.one (.t (sU false (dg 4294967296 k.natAbs))),.one (.t (sU false (dg 4294967296 k'.natAbs)))] (aM (.one (.t (sU true (dg 4294967296 (k.natAbs+k'.natAbs)))))):=by have h9:=Ou (aN (by omega) k.natAbs) (aN (by omega) k'.natAbs) (by omega) (by omega);rwa[bI,bI]at h9
  refine mF 3 9 rfl hA vZ ⟨a1 rfl,a1 rfl,rfl⟩ ?_
  refine yV 10 4 [3] rfl (gH (m:=(k.natAbs+k'.natAbs)) (K:=k+k') (Eh rfl (eq_of_beq h1))) kQ ⟨cM rfl,rfl⟩ ⟨rfl,rfl,rfl⟩ ⟨rfl,rfl,rfl,trivial⟩ ?_;refine dst 11 ?_
  refine aS ?_;refine rt ?_
  exact en (.inl rfl) rfl (aV (.agg (.cons (.id rfl) (.cons (.sl (trs:=aR (dg 4294967296 (k+k').natAbs)) rfl rfl (bG _) (aY _)) .nil)))) (by decide) (fun _=>dZ (k+k')) rfl
 refine sk ?_;refine sq ?_;refine sq ?_;refine rl ?_;refine o1 ?_;refine o1 ?_;refine ld ?_;refine o1 ?_;refine o1 ?_;refine ld ?_
 refine ca (SD (aN (by omega) _) (aN (by omega) _)) RR ⟨a1 rfl,a1 rfl,rfl⟩ (.one (tv (.int .i64 (lY (vl 4294967296 (dg 4294967296 (k).natAbs)) (vl 4294967296 (dg 4294967296 (k').natAbs)))))) ?_
 refine o1 ?_;refine nl ?_;refine bN rfl (fun h2=>?_) (fun h2=>?_)
 ·refine rl ?_;refine ld ?_;refine ld ?_;refine st ?_;refine st ?_;refine nl ?_;refine sq ?_;refine rl ?_;refine o1 ?_;refine o1 ?_;refine ld ?_;refine o1 ?_;refine o1 ?_;refine ld ?_
  have hlt:k.natAbs<k'.natAbs:=Decidable.byContradiction fun h8=>by rw[bI,bI]at h2;rcases Nat.lt_or_ge k'.natAbs k.natAbs with h7 | h7;(rw[lD h7]at h2;omega);(rw[rX (by omega)]at h2;omega)
  have hS:aE true Tryz.prog 175 [] [.one (.t (sU false (dg 4294967296 k'.natAbs))),.one (.t (sU false (dg 4294967296 k.natAbs)))] (aM (.tup [.one (.t (sU true (dg 4294967296 (k'.natAbs-k.natAbs)))),.one (tv (.int .i64 0))])):=by have h9:=Ov (aN (by omega) k'.natAbs) (aN (by omega) k.natAbs) (by omega) (by rw[bI,bI];omega);rwa[bI,bI]at h9
  refine gG 3 hS Ow ⟨a1 rfl,a1 rfl,rfl⟩ ?_;(iterate 5 refine o1 ?_);refine nl ?_;refine sq ?_;refine rl ?_;refine o1 ?_;refine o1 ?_;refine ld ?_;refine o1 ?_
  refine cm 4 [3] (gH (m:=(k'.natAbs-k.natAbs)) (K:=k+k') (Oi rfl (ne_of_beq_false h1) hlt)) kQ ⟨cM rfl,rfl⟩ ⟨rfl,rfl,rfl⟩ ?_;refine st ?_;refine nl ?_;refine rt ?_
  exact en (.inl rfl) rfl (aV (.agg (.cons (.id rfl) (.cons (.sl (trs:=aR (dg 4294967296 (k+k').natAbs)) rfl rfl (bG _) (aY _)) .nil)))) (by decide) (fun _=>dZ (k+k')) rfl
 refine sk ?_;refine sq ?_;refine rl ?_;refine o1 ?_;refine o1 ?_;refine ld ?_;refine o1 ?_;refine o1 ?_;refine ld ?_
 have hlt:¬k.natAbs<k'.natAbs:=fun h8=>h2 (by rw[bI,bI,oV h8];omega)
 have hS:aE true Tryz.prog 175 [] [.one (.t (sU false (dg 4294967296 k.natAbs))),.one (.t (sU false (dg 4294967296 k'.natAbs)))] (aM (.tup [.one (.t (sU true (dg 4294967296 (k.natAbs-k'.natAbs)))),.one (tv (.int .i64 0))])):=by have h9:=Ov (aN (by omega) k.natAbs) (aN (by omega) k'.natAbs) (by omega) (by rw[bI,bI];omega);rwa[bI,bI]at h9
 refine gG 3 hS Ow ⟨a1 rfl,a1 rfl,rfl⟩ ?_;(iterate 5 refine o1 ?_);refine nl ?_;refine sq ?_;refine rl ?_;refine o1 ?_;refine o1 ?_;refine ld ?_;refine o1 ?_
 refine cm 4 [3] (gH (m:=(k.natAbs-k'.natAbs)) (K:=k+k') (Oh rfl (ne_of_beq_false h1) hlt)) kQ ⟨cM rfl,rfl⟩ ⟨rfl,rfl,rfl⟩ ?_;refine st ?_;refine nl ?_;refine rt ?_
 exact en (.inl rfl) rfl (aV (.agg (.cons (.id rfl) (.cons (.sl (trs:=aR (dg 4294967296 (k+k').natAbs)) rfl rfl (bG _) (aY _)) .nil)))) (by decide) (fun _=>dZ (k+k')) rfl
theorem Fe {a b:Zi}{k k':Int}(ha:Zg a k) (hb:Zg b k'):aE true Tryz.prog 120 [] [gF a,gF b] (aM (kO (k+k'))):=by
 refine bD Tryz.func120 rfl Tryz.ntmps120 rfl aA rfl fun N w c0 h0=>?_
 have hkl:=ha.len
 have hkl':=hb.len
 refine sq ?_;refine rl ?_;refine bx 0 ?_;refine bx 1 ?_;refine al 2 ?_;refine nl ?_;refine sq ?_;refine rd [0,1,2] (fun i=>[5].contains i) mixed ?_
 refine aU 0 ?_;refine aU 2 ?_;refine aG 1 rfl (dK ha) cP ⟨aB rfl,rfl⟩ (kF (k)) ?_;refine aG 3 rfl (dK hb) cP ⟨aB rfl,rfl⟩ (kF (k')) ?_
 refine mF 3 4 rfl (Wj (k:=k) (k':=k') (by omega) (by omega)) CK ⟨aB rfl,aB rfl,rfl⟩ ?_
 refine dst 5 ?_;refine aS ?_;refine rt ?_
 exact en (.inl rfl) rfl (aV (.agg (.cons (.id rfl) (.cons (.sl (trs:=aR (dg 4294967296 ((k+k')).natAbs)) rfl rfl (bG _) (aY _)) .nil)))) (by decide) (fun _=>dZ ((k+k'))) rfl
theorem SF {a b:Zi}{k k':Int}(ha:Zg a k) (hb:Zg b k'):aE true Tryz.prog 116 [] [gF a,gF b] (aM (kO (k-k'))):=by
 refine bD Tryz.func116 rfl Tryz.ntmps116 rfl aA rfl fun N w c0 h0=>?_
 have hkl:=ha.len
 have hkl':=hb.len
 have hkn:=jA k'
 refine sq ?_;refine rl ?_;refine bx 0 ?_;refine bx 1 ?_;refine al 2 ?_;refine nl ?_;refine sq ?_;refine rd [0,1,2] (fun i=>[6].contains i) mixed ?_
 refine aU 0 ?_;refine aU 2 ?_;refine aG 1 rfl (dK ha) cP ⟨aB rfl,rfl⟩ (kF (k)) ?_;refine aG 3 rfl (dK hb) cP ⟨aB rfl,rfl⟩ (kF (k')) ?_
 refine aG 4 rfl (Kh (k:=k')) CH ⟨aB rfl,rfl⟩ (kF (-(k'))) ?_;refine mF 3 5 rfl (Wj (k:=k) (k':=(-(k'))) (by omega) (by omega)) CK ⟨aB rfl,aB rfl,rfl⟩ ?_
 refine dst 6 ?_;refine aS ?_;refine rt ?_
 exact en (.inl rfl) rfl (aV (.agg (.cons (.id rfl) (.cons (.sl (trs:=aR (dg 4294967296 ((k+(-(k')))).natAbs)) rfl rfl (bG _) (aY _)) .nil)))) (by decide) (fun _=>dZ ((k+(-(k'))))) (by rw[Int.sub_eq_add_neg];rfl)
theorem rG {a:Zi}{k:Int}(ha:Zg a k):aE true Tryz.prog 72 [] [gF a] (aM (.one (tv (.int .i64 k.sign)))):=by
 refine bD Tryz.func72 rfl Tryz.ntmps72 rfl aA rfl fun N w c0 h0=>?_
 refine sq ?_;refine rl ?_;refine bx 0 ?_;refine o1 ?_;refine nl ?_;refine sq ?_;refine sq ?_;refine rl ?_;refine ld ?_;refine ca (dK ha) cP ⟨aB rfl,rfl⟩ (kF (k)) ?_;refine al 1 ?_
 refine st ?_;refine nl ?_;refine bl ?_;refine sq ?_;refine rl ?_;refine o1 ?_;refine o1 ?_;refine ld ?_;refine o1 ?_;refine nl ?_;refine iW rfl (fun h1=>?_) (fun h1=>?_)
 ·refine sq ?_;refine rl ?_;refine o1 ?_;refine nl ?_;refine rt ?_;refine en (.inl rfl) rfl (aV (aP _)) (by decide) (fun _=>trivial) (congrArg (fun z=>FV.one (tv (.int .i64 z))) ?_)
  have h9:k<0:=of_decide_eq_true h1
  exact(Int.sign_eq_neg_one_of_neg h9).symm
 refine sq ?_;refine rl ?_;refine o1 ?_;refine o1 ?_;refine ld ?_;(iterate 3 refine o1 ?_);refine nl ?_;refine bN rfl (fun h2=>?_) (fun h2=>?_)
 ·refine sq ?_;refine rl ?_;refine o1 ?_;refine nl ?_;refine rt ?_;refine en (.inl rfl) rfl (aV (aP _)) (by decide) (fun _=>trivial) (congrArg (fun z=>FV.one (tv (.int .i64 z))) ?_)
  have h9:¬k<0:=of_decide_eq_false h1
  have h8:=kZ (m:=k.natAbs) rfl
  have h7:decide (0<k.natAbs)=true:=by rw[←h8];exact decide_eq_true (by omega)
  have h6:=of_decide_eq_true h7
  exact(Int.sign_eq_one_of_pos (by omega)).symm
 refine sk ?_;refine sq ?_;refine rl ?_;refine o1 ?_;refine nl ?_;refine rt ?_
 refine en (.inl rfl) rfl (aV (aP _)) (by decide) (fun _=>trivial) (congrArg (fun z=>FV.one (tv (.int .i64 z))) ?_)
 have h9:¬k<0:=of_decide_eq_false h1
 have h8:=kZ (m:=k.natAbs) rfl
 have h7:decide (0<k.natAbs)=false:=by rw[←h8];exact decide_eq_false (by omega)
 have h6:=of_decide_eq_false h7
 obtain rfl:k=0:=by omega
 rfl
theorem Fd {a b:Zi}{k k':Int}(ha:Zg a k) (hb:Zg b k') (hs:(dg 4294967296 (k-k').natAbs).length≤300000000000):aE true Tryz.prog 61 [] [gF a,gF b] (aM (.one (tv (.int .i64 (k-k').sign)))):=by
 refine bD Tryz.func61 rfl Tryz.ntmps61 rfl aA rfl fun N w c0 h0=>?_
 have hkl:=ha.2.1;have hkl2:=ha.len;have hkl3:=hb.len
 refine sq ?_;refine rl ?_;refine bx 0 ?_;refine bx 1 ?_;refine o1 ?_;refine nl ?_;refine sq ?_;refine rl ?_;refine ld ?_;refine ld ?_
 refine ca (SF ha hb) RJ ⟨aB rfl,aB rfl,rfl⟩ (kF (k-k')) ?_;refine ca (rG (Zg.of (k:=k-k') hs)) Bt ⟨aB rfl,rfl⟩ (.one (tv (.int .i64 (k-k').sign))) ?_;refine o1 ?_
 refine nl ?_;refine rt ?_;exact en (.inl rfl) rfl (aV (aP _)) (by decide) (fun _=>trivial) rfl
theorem Fh {a b:Zi}{k k':Int}(ha:Zg a k) (hb:Zg b k'):aE true Tryz.prog 65 [] [gF a,gF b] (aM (kO (k*k'))):=by
 refine bD Tryz.func65 rfl Tryz.ntmps65 rfl aA rfl fun N w c0 h0=>?_
 have hkl:=ha.len
 have hkl':=hb.len
 refine sq ?_;refine rl ?_;refine bx 0 ?_;refine bx 1 ?_;refine al 2 ?_;refine nl ?_
 refine md (γ:=Unit) (fun _=>cD [(4,.one (.pt 0 0)),(5,.one (.pt 1 0)),(6,.one (.pt 2 0))]) (fun _=>([⟨25,0,[tv (.bool false),tv (.slice none 0 0)]⟩,⟨155,0,[tv (.bool (aL k)),.t (sU false (dg 4294967296 k.natAbs))]⟩,⟨155,0,[tv (.bool (aL k')),.t (sU false (dg 4294967296 k'.natAbs))]⟩]:List Ob).map some) (fun _=>True) ?_ fun _ _=>?_
 ·refine rd [0,1,2] (fun i=>[7].contains i) mixed ?_
  refine aU 0 ?_;refine aU 2 ?_;refine WO.three (i:=1) (j:=4) (m:=5) (by kernel_rfl) ?_ ?_ ?_
  ·refine cZ 1 rfl (dK ha) cP ⟨aB rfl,rfl⟩ (kF (k)) ?_;refine WO.three (i:=3) (j:=4) (m:=5) (by kernel_rfl) ?_ ?_ ?_
   ·refine cZ 3 rfl (dK hb) cP ⟨aB rfl,rfl⟩ (kF (k')) ?_;refine WO.two (i:=4) (j:=5) (by kernel_rfl) ?_ ?_
    ·refine bV (key:=3) 4 rfl rfl aA rfl ⟨rfl,rfl,rfl,trivial⟩ ?_;refine eP (key:=4) 5 (by kernel_rfl) rfl rfl aA rfl ⟨rfl,rfl,rfl,trivial⟩ ?_
     refine aT 6 (by kernel_rfl) rfl rfl aA rfl rfl rfl rfl ⟨rfl,rfl,rfl,trivial⟩ ?_
     refine dst 7 ?_;refine aS ?_;exact⟨(),trivial,aO h0 [2,3,4] _ _ (by decide) ⟨rfl,rfl,rfl,trivial⟩ ⟨oe rfl rfl,oe rfl rfl,oe rfl rfl,rfl⟩⟩
    refine bV (key:=3) 5 rfl rfl aA rfl ⟨rfl,rfl,rfl,trivial⟩ ?_;refine eP (key:=4) 4 (by kernel_rfl) rfl rfl aA rfl ⟨rfl,rfl,rfl,trivial⟩ ?_
    refine aT 6 (by kernel_rfl) rfl rfl aA rfl rfl rfl rfl ⟨rfl,rfl,rfl,trivial⟩ ?_
    refine dst 7 ?_;refine aS ?_;exact⟨(),trivial,aO h0 [2,4,3] _ _ (by decide) ⟨rfl,rfl,rfl,trivial⟩ ⟨oe rfl rfl,oe rfl rfl,oe rfl rfl,rfl⟩⟩
   ·refine bV (key:=3) 4 rfl rfl aA rfl ⟨rfl,rfl,rfl,trivial⟩ ?_;refine WO.two (i:=3) (j:=5) (by kernel_rfl) ?_ ?_
    ·refine cZ 3 rfl (dK hb) cP ⟨aB rfl,rfl⟩ (kF (k')) ?_;refine eP (key:=4) 5 (by kernel_rfl) rfl rfl aA rfl ⟨rfl,rfl,rfl,trivial⟩ ?_
     refine aT 6 (by kernel_rfl) rfl rfl aA rfl rfl rfl rfl ⟨rfl,rfl,rfl,trivial⟩ ?_
     refine dst 7 ?_;refine aS ?_;exact⟨(),trivial,aO h0 [2,3,4] _ _ (by decide) ⟨rfl,rfl,rfl,trivial⟩ ⟨oe rfl rfl,oe rfl rfl,oe rfl rfl,rfl⟩⟩
    refine bV (key:=4) 5 rfl rfl aA rfl ⟨rfl,rfl,rfl,trivial⟩ ?_;refine aG 3 rfl (dK hb) cP ⟨aB rfl,rfl⟩ (kF (k')) ?_
    refine aT 6 (by kernel_rfl) rfl rfl aA rfl rfl rfl rfl ⟨rfl,rfl,rfl,trivial⟩ ?_
    refine dst 7 ?_;refine aS ?_;exact⟨(),trivial,aO h0 [2,3,4] _ _ (by decide) ⟨rfl,rfl,rfl,trivial⟩ ⟨oe rfl rfl,oe rfl rfl,oe rfl rfl,rfl⟩⟩
   refine bV (key:=3) 5 rfl rfl aA rfl ⟨rfl,rfl,rfl,trivial⟩ ?_;refine WO.two (i:=3) (j:=4) (by kernel_rfl) ?_ ?_
   ·refine cZ 3 rfl (dK hb) cP ⟨aB rfl,rfl⟩ (kF (k')) ?_;refine eP (key:=4) 4 (by kernel_rfl) rfl rfl aA rfl ⟨rfl,rfl,rfl,trivial⟩ ?_
    refine aT 6 (by kernel_rfl) rfl rfl aA rfl rfl rfl rfl ⟨rfl,rfl,rfl,trivial⟩ ?_
    refine dst 7 ?_;refine aS ?_;exact⟨(),trivial,aO h0 [2,4,3] _ _ (by decide) ⟨rfl,rfl,rfl,trivial⟩ ⟨oe rfl rfl,oe rfl rfl,oe rfl rfl,rfl⟩⟩
   refine bV (key:=4) 4 rfl rfl aA rfl ⟨rfl,rfl,rfl,trivial⟩ ?_;refine aG 3 rfl (dK hb) cP ⟨aB rfl,rfl⟩ (kF (k')) ?_
   refine aT 6 (by kernel_rfl) rfl rfl aA rfl rfl rfl rfl ⟨rfl,rfl,rfl,trivial⟩ ?_
   refine dst 7 ?_;refine aS ?_;exact⟨(),trivial,aO h0 [2,4,3] _ _ (by decide) ⟨rfl,rfl,rfl,trivial⟩ ⟨oe rfl rfl,oe rfl rfl,oe rfl rfl,rfl⟩⟩
  ·refine bV (key:=3) 4 rfl rfl aA rfl ⟨rfl,rfl,rfl,trivial⟩ ?_;refine WO.two (i:=1) (j:=5) (by kernel_rfl) ?_ ?_
   ·refine cZ 1 rfl (dK ha) cP ⟨aB rfl,rfl⟩ (kF (k)) ?_;refine WO.two (i:=3) (j:=5) (by kernel_rfl) ?_ ?_
    ·refine cZ 3 rfl (dK hb) cP ⟨aB rfl,rfl⟩ (kF (k')) ?_;refine eP (key:=4) 5 (by kernel_rfl) rfl rfl aA rfl ⟨rfl,rfl,rfl,trivial⟩ ?_
     refine aT 6 (by kernel_rfl) rfl rfl aA rfl rfl rfl rfl ⟨rfl,rfl,rfl,trivial⟩ ?_
     refine dst 7 ?_;refine aS ?_;exact⟨(),trivial,aO h0 [2,3,4] _ _ (by decide) ⟨rfl,rfl,rfl,trivial⟩ ⟨oe rfl rfl,oe rfl rfl,oe rfl rfl,rfl⟩⟩
    refine bV (key:=4) 5 rfl rfl aA rfl ⟨rfl,rfl,rfl,trivial⟩ ?_;refine aG 3 rfl (dK hb) cP ⟨aB rfl,rfl⟩ (kF (k')) ?_
    refine aT 6 (by kernel_rfl) rfl rfl aA rfl rfl rfl rfl ⟨rfl,rfl,rfl,trivial⟩ ?_
    refine dst 7 ?_;refine aS ?_;exact⟨(),trivial,aO h0 [2,3,4] _ _ (by decide) ⟨rfl,rfl,rfl,trivial⟩ ⟨oe rfl rfl,oe rfl rfl,oe rfl rfl,rfl⟩⟩
   refine bV (key:=4) 5 rfl rfl aA rfl ⟨rfl,rfl,rfl,trivial⟩ ?_;refine aG 1 rfl (dK ha) cP ⟨aB rfl,rfl⟩ (kF (k)) ?_;refine aG 3 rfl (dK hb) cP ⟨aB rfl,rfl⟩ (kF (k')) ?_
   refine aT 6 (by kernel_rfl) rfl rfl aA rfl rfl rfl rfl ⟨rfl,rfl,rfl,trivial⟩ ?_
   refine dst 7 ?_;refine aS ?_;exact⟨(),trivial,aO h0 [2,3,4] _ _ (by decide) ⟨rfl,rfl,rfl,trivial⟩ ⟨oe rfl rfl,oe rfl rfl,oe rfl rfl,rfl⟩⟩
  refine bV (key:=3) 5 rfl rfl aA rfl ⟨rfl,rfl,rfl,trivial⟩ ?_;refine WO.two (i:=1) (j:=4) (by kernel_rfl) ?_ ?_
  ·refine cZ 1 rfl (dK ha) cP ⟨aB rfl,rfl⟩ (kF (k)) ?_;refine WO.two (i:=3) (j:=4) (by kernel_rfl) ?_ ?_
   ·refine cZ 3 rfl (dK hb) cP ⟨aB rfl,rfl⟩ (kF (k')) ?_;refine eP (key:=4) 4 (by kernel_rfl) rfl rfl aA rfl ⟨rfl,rfl,rfl,trivial⟩ ?_
    refine aT 6 (by kernel_rfl) rfl rfl aA rfl rfl rfl rfl ⟨rfl,rfl,rfl,trivial⟩ ?_
    refine dst 7 ?_;refine aS ?_;exact⟨(),trivial,aO h0 [2,4,3] _ _ (by decide) ⟨rfl,rfl,rfl,trivial⟩ ⟨oe rfl rfl,oe rfl rfl,oe rfl rfl,rfl⟩⟩
   refine bV (key:=4) 4 rfl rfl aA rfl ⟨rfl,rfl,rfl,trivial⟩ ?_;refine aG 3 rfl (dK hb) cP ⟨aB rfl,rfl⟩ (kF (k')) ?_
   refine aT 6 (by kernel_rfl) rfl rfl aA rfl rfl rfl rfl ⟨rfl,rfl,rfl,trivial⟩ ?_
   refine dst 7 ?_;refine aS ?_;exact⟨(),trivial,aO h0 [2,4,3] _ _ (by decide) ⟨rfl,rfl,rfl,trivial⟩ ⟨oe rfl rfl,oe rfl rfl,oe rfl rfl,rfl⟩⟩
  refine bV (key:=4) 4 rfl rfl aA rfl ⟨rfl,rfl,rfl,trivial⟩ ?_;refine aG 1 rfl (dK ha) cP ⟨aB rfl,rfl⟩ (kF (k)) ?_;refine aG 3 rfl (dK hb) cP ⟨aB rfl,rfl⟩ (kF (k')) ?_
  refine aT 6 (by kernel_rfl) rfl rfl aA rfl rfl rfl rfl ⟨rfl,rfl,rfl,trivial⟩ ?_
  refine dst 7 ?_;refine aS ?_;exact⟨(),trivial,aO h0 [2,4,3] _ _ (by decide) ⟨rfl,rfl,rfl,trivial⟩ ⟨oe rfl rfl,oe rfl rfl,oe rfl rfl,rfl⟩⟩
 refine sq ?_;refine rd [0,1,2] (fun i=>[15].contains i) mixed ?_
 refine dv 0 ?_;refine dv 1 ?_;refine aU 2 ?_;refine dv 3 ?_;refine dv 4 ?_;refine aU 5 ?_;refine dv 6 ?_;refine dv 7 ?_;refine dv 8 ?_;refine aU 9 ?_;refine dv 10 ?_;refine dv 11 ?_
 refine aU 12 ?_
 have hA:aE true Tryz.prog 119 [] [.one (.t (sU false (dg 4294967296 k.natAbs))),.one (.t (sU false (dg 4294967296 k'.natAbs)))] (aM (.one (.t (sU true (dg 4294967296 (k.natAbs*k'.natAbs)))))):=by have h9:=BF (aN (by omega) k.natAbs) (aN (by omega) k'.natAbs) (by omega) (by omega);rwa[bI,bI]at h9
 refine mF 3 13 rfl hA BG ⟨a1 rfl,a1 rfl,rfl⟩ ?_
 refine yV 14 4 [3] rfl (gH (b:=(aL k != aL k')) (m:=(k.natAbs*k'.natAbs)) (K:=k*k') (Oc k k')) kQ ⟨cM rfl,rfl⟩ ⟨rfl,rfl,rfl⟩ ⟨rfl,rfl,rfl,trivial⟩ ?_
 refine dst 15 ?_;refine aS ?_;refine rt ?_
 exact en (.inl rfl) rfl (aV (.agg (.cons (.id rfl) (.cons (.sl (trs:=aR (dg 4294967296 ((k*k')).natAbs)) rfl rfl (bG _) (aY _)) .nil)))) (by decide) (fun _=>dZ ((k*k'))) rfl
theorem BC {a b:Zi}{k k':Int}(ha:Zg a k) (hb:Zg b k'):aE true Tryz.prog 157 [] [gF a,gF b] (aM (kO (((Int.gcd k k'):Nat):Int))):=by
 refine bD Tryz.func157 rfl Tryz.ntmps157 rfl aA rfl fun N w c0 h0=>?_
 have hkl:=ha.len
 have hkl':=hb.len
 refine sq ?_;refine rl ?_;refine bx 0 ?_;refine bx 1 ?_;refine al 2 ?_;refine nl ?_;refine sq ?_;refine rd [0,1,2] (fun i=>[11].contains i) mixed ?_
 refine aU 0 ?_;refine aU 4 ?_;refine aG 1 rfl (dK ha) cP ⟨aB rfl,rfl⟩ (kF (k)) ?_;refine df 2 ?_;refine df 3 ?_;refine aG 5 rfl (dK hb) cP ⟨aB rfl,rfl⟩ (kF (k')) ?_
 refine df 6 ?_;refine df 7 ?_;refine Hu (key:=3) 8 (by kernel_rfl) rfl rfl aA rfl ⟨rfl,rfl,rfl,trivial⟩ ?_
 refine KS (i:=13) (k:=3) (t:=23) (t':=23) (z:=1) (n:=2) (l:=[sU false (dg 4294967296 k.natAbs),sU false (dg 4294967296 k'.natAbs)]) rfl rfl rfl rfl (.one .sl) (by rfl) (by rfl) ?_
 have hA:aE true Tryz.prog 173 [] [.one (.t (.s false 23 1 2 [sU false (dg 4294967296 k.natAbs),sU false (dg 4294967296 k'.natAbs)]))] (aM (.one (.t (sU true (dg 4294967296 (Int.gcd k k')))))):=by
  have h9:=SE (t:=23) (aN (by omega) k.natAbs) (aN (by omega) k'.natAbs) (by omega) (by omega)
  rwa[show pR [dg 4294967296 k.natAbs,dg 4294967296 k'.natAbs]=(Int.gcd k k') by simp only[pR,List.foldl_cons,List.foldl_nil,bI,Nat.gcd_zero_left];rfl]at h9
 refine mF 4 9 rfl hA RQ ⟨a1 rfl,rfl⟩ ?_
 refine yV 10 5 [4] rfl (gH (b:=false) (m:=(Int.gcd k k')) (K:=(((Int.gcd k k'):Nat):Int)) (by simp[bJ])) kQ ⟨cM rfl,rfl⟩ ⟨rfl,rfl,rfl⟩ ⟨rfl,rfl,rfl,trivial⟩ ?_
 refine dst 11 ?_;refine aS ?_;refine rt ?_
 exact en (.inl rfl) rfl (aV (.agg (.cons (.id rfl) (.cons (.sl (trs:=aR (dg 4294967296 ((((Int.gcd k k'):Nat):Int)).natAbs)) rfl rfl (bG _) (aY _)) .nil)))) (by decide) (fun _=>dZ ((((Int.gcd k k'):Nat):Int))) rfl
end Go.Proofs.YtcaakamelngceaaGreatDoor
