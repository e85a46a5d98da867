/- Part 12 of a proof: A4 to A5. -/
import Derived.Test.YthoemjjmkgmnjaaGreatM11
import Derived.Test.YthoemjjmkgmnjaaGreatM7
set_option maxRecDepth 100000
set_option linter.unusedVariables false
set_option linter.unusedSimpArgs false
namespace Go.Proofs.YthoemjjmkgmnjaaGreat
open Go Go.RowKit
theorem Dj {xs:List Nat}(hx:xs.length≤4398046511104):aE false Tryz.prog 172 [] [.one (.t (sI false xs))] (aQ (.one (.t (sI false (trim xs))))):=by
 refine bO Tryz.func172 rfl Tryz.ntmps172 rfl aA rfl fun N w c0 h0=>?_
 refine sq ?_;refine rl ?_;refine o1 ?_;refine nl ?_;refine sq ?_;refine bl ?_
 refine lp (γ:=List Nat) (fun zs=>cG [(0,.one (.t (sI false zs)))]) (fun _=>([]:List Ob).map some) (fun zs=>trim zs=trim xs∧zs.length≤xs.length) (fun zs=>zs.length) xs ⟨rfl,Nat.le_refl _⟩ (aP h0 [] _ _ (by decide) ⟨rfl,trivial⟩ rfl) fun zs hz=>?_
 refine sq ?_;refine sq ?_;refine rl ?_;(iterate 4 refine o1 ?_);refine WL.split (t:=6) rfl (fun h1=>?_) (fun h1=>?_)
 ·(iterate 4 refine o1 ?_);refine WL.cast (t:=10) (u':=.int .i64 ((zs.length-1:Nat):Int)) rfl (aO (by omega)) ?_
  refine o1 ?_;refine gJ ([.v (.int .i64 ((nth zs (zs.length-1):Nat):Int))]) (fN zs (k:=zs.length-1) (by omega)) ?_
  refine o1 ?_;refine o1 ?_;refine nl ?_;refine bQ rfl (fun h2=>?_) (fun h2=>?_)
  ·refine sk ?_;refine bl ?_;refine rl ?_;(iterate 4 refine o1 ?_);refine WL.cast (t:=18) (u':=.int .i64 ((zs.length-1:Nat):Int)) rfl (aO (by omega)) ?_
   refine o1 ?_;refine o1 ?_;refine nl ?_
   exact⟨zs.take (zs.length-1),by rw[List.length_take];omega,⟨(by rw[wB (xs:=zs) (k:=zs.length) (by omega) (Nat.le_refl _) (by omega),List.take_length];exact hz.1),by rw[List.length_take];omega⟩,aP h0 [] _ _ (by decide) ⟨congrArg some (Vj (by omega)).symm,trivial⟩ rfl⟩
  refine ex ?_;refine sq ?_;refine rl ?_;refine o1 ?_;refine o1 ?_;refine nl ?_;refine rt ?_;refine en (.inl rfl) rfl (aN (.one (.id rfl))) (by decide) (fun h=>by cases h) ?_
  have hx:trim xs=zs:=by
   rw[←hz.1];have h9:=rL (xs:=zs) (k:=zs.length) (by omega) (Nat.le_refl _) (by omega)
   rwa[List.take_length]at h9
  rw[hx];rfl
 (iterate 7 refine dV ?_);refine o1 ?_;refine nl ?_;refine iE rfl ?_;refine ex ?_;refine sq ?_;refine rl ?_;refine o1 ?_;refine o1 ?_;refine nl ?_;refine rt ?_
 refine en (.inl rfl) rfl (aN (.one (.id rfl))) (by decide) (fun h=>by cases h) ?_
 have hx:trim xs=zs:=by
  have h9:zs=[]:=List.eq_nil_of_length_eq_zero (by omega)
  rw[←hz.1,h9];rfl
 rw[hx];rfl
theorem mX {xs:List Nat}(hx:xs.length≤1099511627776) (hl:Lim 4294967296 xs):aE false Tryz.prog 143 [] [.one (.t (sU false xs))] (aQ (.one (.t (sI false (dg 65536 (vl 4294967296 xs)))))):=by
 refine bO Tryz.func143 rfl Tryz.ntmps143 rfl aA rfl fun N w c0 h0=>?_
 refine sq ?_;refine rl ?_;refine o1 ?_;refine nl ?_;refine sq ?_;refine rl ?_;refine o1 ?_;refine nl ?_;refine sq ?_;refine sq ?_;refine rl ?_;refine o1 ?_;refine nl ?_;refine bl ?_
 refine lp (γ:=Nat) (fun k=>cG [(0,.one (.t (sU false xs))),(3,.one (.sl 0 0 (2*k))),(4,.one (tv (.int .i64 ((k:Nat):Int))))]) (fun k=>[(⟨3,1,(eL (hv (xs.take k))).map .t⟩:Ob)].map some) (fun k=>k≤xs.length) (fun k=>xs.length-k) 0 (Nat.zero_le _) ((nr (i:=3) 0 3 1 rfl rfl rfl rfl).trans (aP h0 [0] _ _ (by decide) ⟨rfl,rfl,rfl,trivial⟩ ⟨aD (l:=[]) rfl,rfl⟩)) fun k hk=>?_
 have hn:=hl.nth (by omega) k
 refine sq ?_;refine sq ?_;refine rl ?_;(iterate 4 refine o1 ?_);refine nl ?_;refine bQ rfl (fun h1=>?_) (fun h1=>?_)
 ·refine sk ?_;refine sq ?_;refine bl ?_;refine rd [] (fun i=>[15].contains i) mixed ?_
  refine dv 0 ?_;refine dv 1 ?_;refine dv 2 ?_;refine dv 3 ?_;refine dG 4 ([.v (.int .u32 ((nth xs (k):Nat):Int))]) (nJ xs (k:=k) (by omega)) ?_
  refine dv 5 ?_;refine WD.cast (t:=16) (u':=.int .u32 ((nth xs k%65536:Nat):Int)) rfl (aO (lK _ 65536)) ?_;refine dv 6 ?_;refine dv 7 ?_;refine dv 8 ?_;refine dv 9 ?_
  refine dG 10 ([.v (.int .u32 ((nth xs (k):Nat):Int))]) (nJ xs (k:=k) (by omega)) ?_
  refine dv 11 ?_ (hC:=(iH 65536 (by omega) (by simp only[iS];omega)))
  refine WD.cast (t:=22) (u':=.int .u32 ((nth xs k/65536:Nat):Int)) rfl (aO (fS _ 65536)) ?_;refine dv 12 ?_;refine fI (key:=1) 13 (by kernel_rfl) rfl rfl aA rfl trivial ?_
  refine CS (j:=2) 14 rfl aA rfl rfl rfl (.sl rfl (by rw[List.length_map,iI,qQ,List.length_take];omega)) (.sl rfl rfl rfl) rfl rfl (by omega) (by omega) rfl rfl (by kernel_rfl) rfl ?_
  refine cT 15 (by kernel_rfl) rfl rfl aA rfl (by trivial) ?_ (fun h=>by first | rfl | cases h)
  refine aH ?_;refine rl ?_;(iterate 3 refine o1 ?_);refine nl ?_
  exact⟨k+1,by omega,by omega,aP h0 [2] _ _ (by decide) ⟨rfl,rfl,rfl,trivial⟩ ⟨nK rfl (iJ _ [nth xs k%65536,nth xs k/65536]) (Ox (by omega)).symm,rfl⟩⟩
 refine ex ?_;refine sq ?_;refine rl ?_;refine WL.sub (Ah (i:=3) (zs':=hv xs) rfl rfl rfl (by rw[qQ,List.length_take];omega) (by rw[List.take_of_length_le (by omega)])) ?_
 refine o1 ?_;refine ca (Dj (by rw[qQ];omega)) Dk ⟨a1 rfl,rfl⟩ (.one (.t (sI false (trim (hv xs))))) ?_
 refine o1 ?_;refine nl ?_;refine rt ?_;exact en (.inl rfl) rfl (aN (.one (.id rfl))) (by decide) (fun h=>by cases h) (by rw[CU hl];rfl)
theorem uW {xs zs:List Nat}(hx:xs.length≤4398046511104) (hl:Lim 65536 xs) (hz:lb xs=zs):aE true Tryz.prog 141 [] [.one (.t (sI false xs))] (aQ (.one (.t (sU true zs)))):=by
 refine bO Tryz.func141 rfl Tryz.ntmps141 rfl aA rfl fun N w c0 h0=>?_
 refine sq ?_;refine rl ?_;refine o1 ?_;refine nl ?_;refine sq ?_;refine rl ?_;(iterate 3 refine o1 ?_)
 refine WL.cast (t:=7) (u':=.int .i64 ((xs.length+1:Nat):Int)) rfl (aO (by omega)) ?_
 refine o1 ?_ (hC:=(iH 2 (by omega) (by simp only[iS];omega)))
 refine WL.cast (t:=8) (u':=.int .i64 (((xs.length+1)/2:Nat):Int)) rfl (aO (fS _ 2)) ?_;refine mk (m:=(xs.length+1)/2) 0 (by omega) (Zc _) ?_
 refine o1 ?_;refine nl ?_;refine sq ?_;refine sq ?_;refine rl ?_;refine o1 ?_;refine nl ?_;refine bl ?_
 refine lp (γ:=Nat) (fun k=>cG [(0,.one (.t (sI false xs))),(3,.one (.sl 0 0 ((xs.length+1)/2))),(4,.one (tv (.int .i64 ((k:Nat):Int))))]) (fun k=>[(⟨109,1,(aJ (kY xs k ((xs.length+1)/2))).map .t⟩:Ob)].map some) (fun k=>k≤xs.length) (fun k=>xs.length-k) 0 (Nat.zero_le _) (aP h0 [0] _ _ (by decide) ⟨rfl,rfl,rfl,trivial⟩ ⟨Vk rfl rfl Zd.symm,rfl⟩) fun k hk=>?_
 have hn:=hl.nth (by omega) k
 have hln:=FK (l:=xs) (k:=k) (N:=(xs.length+1)/2) rfl hk
 refine sq ?_;refine sq ?_;refine rl ?_;(iterate 4 refine o1 ?_);refine nl ?_;refine bQ rfl (fun h1=>?_) (fun h1=>?_)
 ·refine sk ?_;refine sq ?_;refine bl ?_;refine sq ?_;refine rl ?_;refine o1 ?_;refine o1 ?_;refine WL.cast (t:=17) (u':=.int .i64 ((k%2:Nat):Int)) rfl (aO (lK _ 2)) ?_
  refine o1 ?_;refine nl ?_;refine bQ rfl (fun h2=>?_) (fun h2=>?_)
  ·refine rl ?_;refine o1 ?_;refine o1 ?_;refine o1 ?_ (hC:=(iH 2 (by omega) (by simp only[iS];omega)))
   refine WL.cast (t:=21) (u':=.int .i64 ((k/2:Nat):Int)) rfl (aO (fS _ 2)) ?_;(iterate 3 refine o1 ?_)
   refine gJ ([.v (.int .i64 ((nth xs (k):Nat):Int))]) (fN xs (k:=k) (by omega)) ?_
   refine o1 ?_;refine WL.cast (t:=26) (u':=.int .u32 ((nth xs k:Nat):Int)) rfl (aO rfl) ?_;refine o1 ?_
   refine Af (yP (kY xs k ((xs.length+1)/2)) (k:=k/2) (v:=nth xs k) (by omega)) (Dl (kY xs k ((xs.length+1)/2)) (by omega)) ?_
   refine nl ?_;refine rl ?_;refine o1 ?_;refine o1 ?_;refine WL.cast (t:=15) (u':=.int .i64 ((k+1:Nat):Int)) rfl (aO (by omega)) ?_
   refine o1 ?_;refine nl ?_;exact⟨k+1,by omega,by omega,aP h0 [0] _ _ (by decide) ⟨rfl,rfl,rfl,trivial⟩ ⟨Vk rfl rfl (Ze rfl (by omega) (by omega)),rfl⟩⟩
  have hnt:=Aj (l:=xs) (k:=k) (N:=(xs.length+1)/2) rfl (by omega) (by omega)
  have hb1:=hl.nth (by omega) (k-1)
  refine rd [0] (fun i=>[16].contains i) mixed ?_
  refine dv 0 ?_;refine dv 1 ?_;refine dv 2 ?_ (hC:=(iH 2 (by omega) (by simp only[iS];omega)))
  refine WD.cast (t:=30) (u':=.int .i64 ((k/2:Nat):Int)) rfl (aO (fS _ 2)) ?_;refine dv 3 ?_;refine dv 4 ?_
  refine dv 5 ?_ (hC:=(iH 2 (by omega) (by simp only[iS];omega)))
  refine WD.cast (t:=33) (u':=.int .i64 ((k/2:Nat):Int)) rfl (aO (fS _ 2)) ?_;refine dv 6 ?_;refine JF 7 (KK (kY xs k ((xs.length+1)/2)) (k:=k/2) (by omega)) ?_
  refine dv 8 ?_;refine dv 9 ?_;refine dv 10 ?_;refine dG 11 ([.v (.int .i64 ((nth xs (k):Nat):Int))]) (fN xs (k:=k) (by omega)) ?_
  refine dv 12 ?_;refine dv 13 ?_;refine dv 14 ?_
  refine WD.cast (t:=42) (u':=.int .u32 ((nth (kY xs k ((xs.length+1)/2)) (k/2)+65536*nth xs k:Nat):Int)) rfl (aO (by omega)) ?_
  refine dv 15 ?_
  refine Yp 16 (yP (kY xs k ((xs.length+1)/2)) (k:=k/2) (v:=nth (kY xs k ((xs.length+1)/2)) (k/2)+65536*nth xs k) (by omega)) (Dl (kY xs k ((xs.length+1)/2)) (by omega)) ?_
  refine aH ?_;refine rl ?_;refine o1 ?_;refine o1 ?_;refine WL.cast (t:=15) (u':=.int .i64 ((k+1:Nat):Int)) rfl (aO (by omega)) ?_
  refine o1 ?_;refine nl ?_;exact⟨k+1,by omega,by omega,aP h0 [0] _ _ (by decide) ⟨rfl,rfl,rfl,trivial⟩ ⟨Vk rfl rfl (FL rfl (by omega) (by omega)),rfl⟩⟩
 refine ex ?_;refine sq ?_;refine rl ?_;refine o1 ?_;refine o1 ?_;refine nl ?_;refine rt ?_
 exact en (.inl rfl) rfl (aN (.one (.sl (trs:=aJ (lb xs)) rfl rfl (by rw[FM rfl (by omega),Nat.mul_one,List.take_of_length_le (by simp[iK,jC])]) (by simp[iK,jC])))) (by decide) (fun _=>.inl ⟨rfl,fB _⟩) (by subst hz;unfold sU;rw[jC];rfl)
theorem Ka {xs ys:List Nat}(hx:xs.length≤1099511627776) (hy:ys.length≤1099511627776) (hlx:Lim 65536 xs) (hly:Lim 65536 ys):aE false Tryz.prog 142 [] [.one (.t (sI false xs)),.one (.t (sI false ys))] (aQ (.one (.t (sI false (dg 65536 (vl 65536 xs*vl 65536 ys)))))):=by
 refine bO Tryz.func142 rfl Tryz.ntmps142 rfl aA rfl fun N w c0 h0=>?_
 refine sq ?_;refine rl ?_;refine o1 ?_;refine nl ?_;refine sq ?_;refine rl ?_;(iterate 5 refine o1 ?_)
 refine WL.cast (t:=14) (u':=.int .i64 ((xs.length+ys.length:Nat):Int)) rfl (aO (by omega)) ?_
 refine o1 ?_;refine WL.cast (t:=15) (u':=.int .i64 ((xs.length+ys.length+1:Nat):Int)) rfl (aO (by omega)) ?_
 refine mk (m:=xs.length+ys.length+1) 0 (by omega) (Kb _) ?_
 refine o1 ?_;refine nl ?_;refine sq ?_;refine sq ?_;refine rl ?_;refine o1 ?_;refine nl ?_;refine bl ?_
 refine lp (γ:=Nat×List Nat) (fun s=>cG [(0,.one (.t (sI false xs))),(1,.one (.t (sI false ys))),(5,.one (.sl 0 0 (xs.length+ys.length+1))),(6,.one (tv (.int .i64 ((s.1:Nat):Int))))]) (fun s=>[(⟨3,1,(eL s.2).map .t⟩:Ob)].map some) (fun s=>s.1≤xs.length∧Lim 65536 s.2∧s.2.length=xs.length+ys.length+1∧vl 65536 s.2=vl 65536 (xs.take s.1)*vl 65536 ys) (fun s=>xs.length-s.1) (0,List.replicate (xs.length+ys.length+1) 0) ⟨Nat.zero_le _,Lim.replicate (by omega) _,List.length_replicate,by rw[vZ];simp[vl]⟩ (aP h0 [0] _ _ (by decide) ⟨rfl,rfl,rfl,rfl,trivial⟩ ⟨nK rfl rfl rfl,rfl⟩) ?_
 rintro⟨i,os⟩ ⟨hi,hol,hos,hv⟩;dsimp only at hi hol hos hv⊢;refine sq ?_;refine sq ?_;refine rl ?_;(iterate 4 refine o1 ?_);refine nl ?_;refine bQ rfl (fun h1=>?_) (fun h1=>?_)
 ·refine sk ?_;refine sq ?_;refine bl ?_;refine sq ?_;refine rl ?_;refine o1 ?_;refine nl ?_;refine sq ?_;refine rl ?_;refine o1 ?_;refine nl ?_;refine bl ?_
  have hil:=hlx.nth (by omega) i
  refine lp (γ:=Nat×Nat×List Nat) (fun s=>cG [(0,.one (.t (sI false xs))),(1,.one (.t (sI false ys))),(5,.one (.sl 0 0 (xs.length+ys.length+1))),(6,.one (tv (.int .i64 ((i:Nat):Int)))),(7,.one (tv (.int .i64 ((s.2.1:Nat):Int)))),(8,.one (tv (.int .i64 ((s.1:Nat):Int))))]) (fun s=>[(⟨3,1,(eL s.2.2).map .t⟩:Ob)].map some) (fun s=>s.1≤ys.length+1∧Lim 65536 s.2.2∧s.2.2.length=xs.length+ys.length+1∧vl 65536 s.2.2+65536^(i+s.1)*s.2.1=vl 65536 (xs.take i)*vl 65536 ys+65536^i*(nth xs i*vl 65536 (ys.take s.1))∧s.2.1≤65535) (fun s=>ys.length+1-s.1) (0,0,os) ⟨Nat.zero_le _,hol,hos,by dsimp only;rw[hv];simp[vl],Nat.zero_le _⟩ (aP h0 [0] _ _ (by decide) ⟨rfl,rfl,rfl,rfl,rfl,rfl,trivial⟩ ⟨nK rfl rfl rfl,rfl⟩) ?_
  rintro⟨k,cr,os2⟩ ⟨hk,hol2,hos2,hv2,hcb⟩;dsimp only at hk hol2 hos2 hv2 hcb⊢;refine sq ?_;refine sq ?_;refine rl ?_;(iterate 5 refine o1 ?_)
  refine WL.split (t:=27) rfl (fun h2=>?_) (fun h2=>?_)
  ·refine dV ?_;refine dV ?_;refine o1 ?_;refine nl ?_;refine iF rfl ?_;refine sk ?_;refine sq ?_;refine bl ?_;refine sq ?_
   have hkl:k≤ys.length:=by first | omega | exact Kc hlx hly (by omega) hk hv2 (by omega)
   have hon:=hol2.nth (by omega) (i+k)
   have hyn:=hly.nth (by omega) k
   have hmul:=Nat.mul_le_mul (Nat.le_of_lt_succ hil) (Nat.le_of_lt_succ hyn)
   refine rl ?_;(iterate 4 refine o1 ?_);refine WL.cast (t:=36) (u':=.int .i64 ((i+k:Nat):Int)) rfl (aO (by omega)) ?_
   refine o1 ?_;refine Kd (Ke os2 (k:=i+k) (by omega)) ?_
   refine o1 ?_;refine o1 ?_;refine WL.cast (t:=40) (u':=.int .i64 ((nth os2 (i+k)+cr:Nat):Int)) rfl (aO (by omega)) ?_
   refine o1 ?_;refine nl ?_;refine sq ?_;refine sq ?_;refine rl ?_;(iterate 4 refine o1 ?_);refine nl ?_;refine bQ rfl (fun h3=>?_) (fun h3=>?_)
   ·refine rd [] (fun i=>[11].contains i) mixed ?_
    refine dv 0 ?_;refine dv 1 ?_;refine dv 2 ?_;refine dv 3 ?_;refine dG 4 ([.v (.int .i64 ((nth xs (i):Nat):Int))]) (fN xs (k:=i) (by omega)) ?_
    refine dv 5 ?_;refine dv 6 ?_;refine dv 7 ?_;refine dG 8 ([.v (.int .i64 ((nth ys (k):Nat):Int))]) (fN ys (k:=k) (by omega)) ?_
    refine dv 9 ?_;refine WD.cast (t:=54) (u':=.int .i64 ((nth xs i*nth ys k:Nat):Int)) rfl (aO (Int.natCast_mul _ _).symm) ?_;refine dv 10 ?_
    refine WD.cast (t:=55) (u':=.int .i64 ((nth os2 (i+k)+cr+nth xs i*nth ys k:Nat):Int)) rfl (aO (by omega)) ?_
    refine cT 11 (by kernel_rfl) rfl rfl aA rfl (by trivial) ?_ (fun h=>by first | rfl | cases h)
    refine aH ?_;refine sq ?_;refine rl ?_;(iterate 4 refine o1 ?_);refine WL.cast (t:=59) (u':=.int .i64 ((i+k:Nat):Int)) rfl (aO (by omega)) ?_
    refine o1 ?_;refine o1 ?_;refine WL.cast (t:=61) (u':=.int .i64 (((nth os2 (i+k)+cr+nth xs i*nth ys k)%65536:Nat):Int)) rfl (aO (lK _ 65536)) ?_;refine o1 ?_
    refine Af (tD os2 (k:=i+k) (v:=(nth os2 (i+k)+cr+nth xs i*nth ys k)%65536) (by omega)) (wR os2 (by omega)) ?_
    refine nl ?_;refine rl ?_;refine o1 ?_;refine o1 ?_ (hC:=(iH 65536 (by omega) (by simp only[iS];omega)))
    refine WL.cast (t:=64) (u':=.int .i64 (((nth os2 (i+k)+cr+nth xs i*nth ys k)/65536:Nat):Int)) rfl (aO (fS _ 65536)) ?_;refine o1 ?_;refine nl ?_;refine rl ?_
    refine o1 ?_;refine o1 ?_;refine WL.cast (t:=32) (u':=.int .i64 ((k+1:Nat):Int)) rfl (aO (by omega)) ?_
    refine o1 ?_;refine nl ?_;have hst:=pT (x:=nth os2 (i+k)+cr+nth xs i*nth ys k) (by omega) hv2 (by rfl)
    exact⟨(k+1,(nth os2 (i+k)+cr+nth xs i*nth ys k)/65536,os2.set (i+k) ((nth os2 (i+k)+cr+nth xs i*nth ys k)%65536)),by dsimp only;omega,⟨by dsimp only;omega,hol2.set _ (Nat.mod_lt _ (by omega)),by rw[List.length_set];exact hos2,hst,by dsimp only;omega⟩,aP h0 [0] _ _ (by decide) ⟨rfl,rfl,rfl,rfl,rfl,rfl,trivial⟩ ⟨nK rfl rfl rfl,rfl⟩⟩
   refine sk ?_;refine sq ?_;refine rl ?_;(iterate 4 refine o1 ?_);refine WL.cast (t:=59) (u':=.int .i64 ((i+k:Nat):Int)) rfl (aO (by omega)) ?_
   refine o1 ?_;refine o1 ?_;refine WL.cast (t:=61) (u':=.int .i64 (((nth os2 (i+k)+cr)%65536:Nat):Int)) rfl (aO (lK _ 65536)) ?_;refine o1 ?_
   refine Af (tD os2 (k:=i+k) (v:=(nth os2 (i+k)+cr)%65536) (by omega)) (wR os2 (by omega)) ?_
   refine nl ?_;refine rl ?_;refine o1 ?_;refine o1 ?_ (hC:=(iH 65536 (by omega) (by simp only[iS];omega)))
   refine WL.cast (t:=64) (u':=.int .i64 (((nth os2 (i+k)+cr)/65536:Nat):Int)) rfl (aO (fS _ 65536)) ?_;refine o1 ?_;refine nl ?_;refine rl ?_;refine o1 ?_;refine o1 ?_
   refine WL.cast (t:=32) (u':=.int .i64 ((k+1:Nat):Int)) rfl (aO (by omega)) ?_
   refine o1 ?_;refine nl ?_;have hny:nth ys k=0:=eQ (by omega)
   have hst:=pT (x:=nth os2 (i+k)+cr) (by omega) hv2 (by rw[hny,Nat.mul_zero,Nat.add_zero])
   exact⟨(k+1,(nth os2 (i+k)+cr)/65536,os2.set (i+k) ((nth os2 (i+k)+cr)%65536)),by dsimp only;omega,⟨by dsimp only;omega,hol2.set _ (Nat.mod_lt _ (by omega)),by rw[List.length_set];exact hos2,hst,by dsimp only;omega⟩,aP h0 [0] _ _ (by decide) ⟨rfl,rfl,rfl,rfl,rfl,rfl,trivial⟩ ⟨nK rfl rfl rfl,rfl⟩⟩
  (iterate 3 refine o1 ?_);refine nl ?_;refine bQ rfl (fun h4=>?_) (fun h4=>?_)
  ·refine sk ?_;refine sq ?_;refine bl ?_;refine sq ?_;have hkl:k≤ys.length:=by first | omega | exact Kc hlx hly (by omega) hk hv2 (by omega)
   have hon:=hol2.nth (by omega) (i+k)
   have hyn:=hly.nth (by omega) k
   have hmul:=Nat.mul_le_mul (Nat.le_of_lt_succ hil) (Nat.le_of_lt_succ hyn)
   refine rl ?_;(iterate 4 refine o1 ?_);refine WL.cast (t:=36) (u':=.int .i64 ((i+k:Nat):Int)) rfl (aO (by omega)) ?_
   refine o1 ?_;refine Kd (Ke os2 (k:=i+k) (by omega)) ?_
   refine o1 ?_;refine o1 ?_;refine WL.cast (t:=40) (u':=.int .i64 ((nth os2 (i+k)+cr:Nat):Int)) rfl (aO (by omega)) ?_
   refine o1 ?_;refine nl ?_;refine sq ?_;refine sq ?_;refine rl ?_;(iterate 4 refine o1 ?_);refine nl ?_;refine bQ rfl (fun h5=>?_) (fun h5=>?_)
   ·refine rd [] (fun i=>[11].contains i) mixed ?_
    refine dv 0 ?_;refine dv 1 ?_;refine dv 2 ?_;refine dv 3 ?_;refine dG 4 ([.v (.int .i64 ((nth xs (i):Nat):Int))]) (fN xs (k:=i) (by omega)) ?_
    refine dv 5 ?_;refine dv 6 ?_;refine dv 7 ?_;refine dG 8 ([.v (.int .i64 ((nth ys (k):Nat):Int))]) (fN ys (k:=k) (by omega)) ?_
    refine dv 9 ?_;refine WD.cast (t:=54) (u':=.int .i64 ((nth xs i*nth ys k:Nat):Int)) rfl (aO (Int.natCast_mul _ _).symm) ?_;refine dv 10 ?_
    refine WD.cast (t:=55) (u':=.int .i64 ((nth os2 (i+k)+cr+nth xs i*nth ys k:Nat):Int)) rfl (aO (by omega)) ?_
    refine cT 11 (by kernel_rfl) rfl rfl aA rfl (by trivial) ?_ (fun h=>by first | rfl | cases h)
    refine aH ?_;refine sq ?_;refine rl ?_;(iterate 4 refine o1 ?_);refine WL.cast (t:=59) (u':=.int .i64 ((i+k:Nat):Int)) rfl (aO (by omega)) ?_
    refine o1 ?_;refine o1 ?_;refine WL.cast (t:=61) (u':=.int .i64 (((nth os2 (i+k)+cr+nth xs i*nth ys k)%65536:Nat):Int)) rfl (aO (lK _ 65536)) ?_;refine o1 ?_
    refine Af (tD os2 (k:=i+k) (v:=(nth os2 (i+k)+cr+nth xs i*nth ys k)%65536) (by omega)) (wR os2 (by omega)) ?_
    refine nl ?_;refine rl ?_;refine o1 ?_;refine o1 ?_ (hC:=(iH 65536 (by omega) (by simp only[iS];omega)))
    refine WL.cast (t:=64) (u':=.int .i64 (((nth os2 (i+k)+cr+nth xs i*nth ys k)/65536:Nat):Int)) rfl (aO (fS _ 65536)) ?_;refine o1 ?_;refine nl ?_;refine rl ?_
    refine o1 ?_;refine o1 ?_;refine WL.cast (t:=32) (u':=.int .i64 ((k+1:Nat):Int)) rfl (aO (by omega)) ?_
    refine o1 ?_;refine nl ?_;have hst:=pT (x:=nth os2 (i+k)+cr+nth xs i*nth ys k) (by omega) hv2 (by rfl)
    exact⟨(k+1,(nth os2 (i+k)+cr+nth xs i*nth ys k)/65536,os2.set (i+k) ((nth os2 (i+k)+cr+nth xs i*nth ys k)%65536)),by dsimp only;omega,⟨by dsimp only;omega,hol2.set _ (Nat.mod_lt _ (by omega)),by rw[List.length_set];exact hos2,hst,by dsimp only;omega⟩,aP h0 [0] _ _ (by decide) ⟨rfl,rfl,rfl,rfl,rfl,rfl,trivial⟩ ⟨nK rfl rfl rfl,rfl⟩⟩
   refine sk ?_;refine sq ?_;refine rl ?_;(iterate 4 refine o1 ?_);refine WL.cast (t:=59) (u':=.int .i64 ((i+k:Nat):Int)) rfl (aO (by omega)) ?_
   refine o1 ?_;refine o1 ?_;refine WL.cast (t:=61) (u':=.int .i64 (((nth os2 (i+k)+cr)%65536:Nat):Int)) rfl (aO (lK _ 65536)) ?_;refine o1 ?_
   refine Af (tD os2 (k:=i+k) (v:=(nth os2 (i+k)+cr)%65536) (by omega)) (wR os2 (by omega)) ?_
   refine nl ?_;refine rl ?_;refine o1 ?_;refine o1 ?_ (hC:=(iH 65536 (by omega) (by simp only[iS];omega)))
   refine WL.cast (t:=64) (u':=.int .i64 (((nth os2 (i+k)+cr)/65536:Nat):Int)) rfl (aO (fS _ 65536)) ?_;refine o1 ?_;refine nl ?_;refine rl ?_;refine o1 ?_;refine o1 ?_
   refine WL.cast (t:=32) (u':=.int .i64 ((k+1:Nat):Int)) rfl (aO (by omega)) ?_
   refine o1 ?_;refine nl ?_;have hny:nth ys k=0:=eQ (by omega)
   have hst:=pT (x:=nth os2 (i+k)+cr) (by omega) hv2 (by rw[hny,Nat.mul_zero,Nat.add_zero])
   exact⟨(k+1,(nth os2 (i+k)+cr)/65536,os2.set (i+k) ((nth os2 (i+k)+cr)%65536)),by dsimp only;omega,⟨by dsimp only;omega,hol2.set _ (Nat.mod_lt _ (by omega)),by rw[List.length_set];exact hos2,hst,by dsimp only;omega⟩,aP h0 [0] _ _ (by decide) ⟨rfl,rfl,rfl,rfl,rfl,rfl,trivial⟩ ⟨nK rfl rfl rfl,rfl⟩⟩
  refine ex ?_;refine rl ?_;refine o1 ?_;refine o1 ?_;refine WL.cast (t:=22) (u':=.int .i64 ((i+1:Nat):Int)) rfl (aO (by omega)) ?_
  refine o1 ?_;refine nl ?_;have hcr0:cr=0:=by omega
  rw[hcr0,Nat.mul_zero,Nat.add_zero,Dm (by omega)]at hv2
  exact⟨(i+1,os2),by dsimp only;omega,⟨by dsimp only;omega,hol2,hos2,hv2⟩,aP h0 [0] _ _ (by decide) ⟨rfl,rfl,rfl,rfl,trivial⟩ ⟨nK rfl rfl rfl,rfl⟩⟩
 refine ex ?_;refine sq ?_;refine rl ?_;rw[bY 65536 (by omega)]at hv
 refine WL.sub (Ah (i:=5) (zs':=os) rfl rfl rfl (by omega) rfl) ?_
 refine o1 ?_;refine ca (Dj (by omega)) Dk ⟨a1 rfl,rfl⟩ (.one (.t (sI false (trim os)))) ?_
 refine o1 ?_;refine nl ?_;refine rt ?_;exact en (.inl rfl) rfl (aN (.one (.id rfl))) (by decide) (fun h=>by cases h) (by rw[Ib (by omega) hol hv];rfl)
theorem iL {a b:Zi}{k k':Int}(ha:Zn a k) (hb:Zn b k'):aE true Tryz.prog 97 [] [gF a,gF b] (aQ (kO (k*k'))):=by
 refine bO Tryz.func97 rfl Tryz.ntmps97 rfl aA rfl fun N w c0 h0=>?_
 have hkl:=ha.len
 have hkl':=hb.len
 refine sq ?_;refine rl ?_;refine bx 0 ?_;refine bx 1 ?_;refine al 2 ?_;refine nl ?_;refine sq ?_;refine rl ?_;refine ld ?_;refine ca (gZ ha) mH ⟨aB rfl,rfl⟩ (kF (k)) ?_
 refine st ?_;refine nl ?_;refine sq ?_;refine rl ?_;refine ld ?_;refine ca (gZ hb) mH ⟨aB rfl,rfl⟩ (kF (k')) ?_;refine st ?_;refine nl ?_;refine sq ?_
 refine rd [0,1,2] (fun i=>[14].contains i) mixed ?_
 refine dv 0 ?_;refine aM 1 ?_;refine dv 2 ?_;refine aM 3 ?_;refine dv 4 ?_;refine dv 5 ?_;refine aM 6 ?_;refine dv 8 ?_;refine aM 9 ?_
 have hn1:=eM (v:=vl 4294967296 (dg 4294967296 (k).natAbs)) (L:=(dg 4294967296 (k).natAbs).length) (by rw[cE (by omega)];exact Nat.le_refl _)
 refine aF 7 rfl (mX (by omega) (aR (by omega) _)) yQ ⟨a1 rfl,rfl⟩ (.one (.t (sI false (dg 65536 (vl 4294967296 (dg 4294967296 (k).natAbs)))))) ?_
 have hn2:=eM (v:=vl 4294967296 (dg 4294967296 (k').natAbs)) (L:=(dg 4294967296 (k').natAbs).length) (by rw[cE (by omega)];exact Nat.le_refl _)
 refine aF 10 rfl (mX (by omega) (aR (by omega) _)) yQ ⟨a1 rfl,rfl⟩ (.one (.t (sI false (dg 65536 (vl 4294967296 (dg 4294967296 (k').natAbs)))))) ?_
 have hn3:=wS (xs:=(dg 65536 (vl 4294967296 (dg 4294967296 (k).natAbs)))) (ys:=(dg 65536 (vl 4294967296 (dg 4294967296 (k').natAbs)))) (aR (by omega) _) (aR (by omega) _)
 refine aF 11 rfl (Ka (by omega) (by omega) (aR (by omega) _) (aR (by omega) _)) CX ⟨a1 rfl,a1 rfl,rfl⟩ (.one (.t (sI false (dg 65536 (vl 65536 (dg 65536 (vl 4294967296 (dg 4294967296 (k).natAbs)))*vl 65536 (dg 65536 (vl 4294967296 (dg 4294967296 (k').natAbs)))))))) ?_
 have hn4:=nM (vl 65536 (dg 65536 (vl 4294967296 (dg 4294967296 (k).natAbs)))*vl 65536 (dg 65536 (vl 4294967296 (dg 4294967296 (k').natAbs))))
 refine aF 12 rfl (uW (zs:=(dg 4294967296 (vl 65536 (dg 65536 (vl 4294967296 (dg 4294967296 (k).natAbs)))*vl 65536 (dg 65536 (vl 4294967296 (dg 4294967296 (k').natAbs)))))) (by omega) (aR (by omega) _) (yO _)) fG ⟨a1 rfl,rfl⟩ (.one (.t (sU false (dg 4294967296 (vl 65536 (dg 65536 (vl 4294967296 (dg 4294967296 (k).natAbs)))*vl 65536 (dg 65536 (vl 4294967296 (dg 4294967296 (k').natAbs)))))))) ?_
 refine jW 3 13 rfl (lL (K:=k*k') (by omega) (aR (by omega) _) (by simp only[cE (B:=4294967296) (by omega),cE (B:=65536) (by omega)];exact Pc k k')) cQ ⟨a1 rfl,a1 rfl,rfl⟩ ?_
 refine dst 14 ?_;refine aH ?_;refine rt ?_
 exact en (.inl rfl) rfl (aN (.agg (.cons (.id rfl) (.cons (.sl (trs:=aJ (dg 4294967296 (k*k').natAbs)) rfl rfl (aY _) (aU _)) .nil)))) (by decide) (fun _=>eU (k*k')) rfl
theorem FN {u v:Nat}(hx:(dg 65536 (u)).length≤4398046511104) (hy:(dg 65536 (v)).length≤4398046511104):aE true Tryz.prog 191 [] [.one (.t (sI false (dg 65536 u))),.one (.t (sI false (dg 65536 v)))] (aQ (.one (tv (.bool (decide (u<v)))))):=by
 refine bO Tryz.func191 rfl Tryz.ntmps191 rfl aA rfl fun N w c0 h0=>?_
 refine sq ?_;refine rl ?_;refine o1 ?_;refine nl ?_;refine sq ?_;refine sq ?_;refine rl ?_;(iterate 5 refine o1 ?_);refine nl ?_;refine bQ rfl (fun h1=>?_) (fun h1=>?_)
 ·refine sq ?_;refine rl ?_;(iterate 6 refine o1 ?_);refine nl ?_;refine rt ?_
  refine en (.inl rfl) rfl (aN (bH _)) (by decide) (fun _=>trivial) (congrArg (fun z=>FV.one (tv (.bool z))) ?_)
  exact Zf rfl rfl (by omega)
 refine sk ?_;refine sq ?_;refine sq ?_;refine rl ?_;(iterate 4 refine o1 ?_);refine nl ?_;refine bl ?_
 refine lp (γ:=Nat) (fun k=>cG [(0,.one (.t (sI false (dg 65536 u)))),(1,.one (.t (sI false (dg 65536 v)))),(5,.one (tv (.int .i64 ((k:Nat)-1))))]) (fun k=>([]:List Ob).map some) (fun k=>(∀j,k≤j→nth (dg 65536 (u)) j=nth (dg 65536 (v)) j)∧k≤(dg 65536 (u)).length) (fun k=>k) (dg 65536 (u)).length ⟨fun j hj=>by rw[eQ (by omega),eQ (by omega)],Nat.le_refl _⟩ (aP h0 [] _ _ (by decide) ⟨rfl,rfl,rfl,trivial⟩ rfl) fun k hk=>?_
 refine sq ?_;refine sq ?_;refine rl ?_;refine o1 ?_;refine o1 ?_;refine nl ?_;refine bQ rfl (fun h2=>?_) (fun h2=>?_)
 ·refine sk ?_;refine sq ?_;refine bl ?_;refine sq ?_;refine rd [] (fun i=>[].contains i) mixed ?_
  refine dv 0 ?_;refine dv 1 ?_;refine WD.cast (t:=24) (u':=.int .i64 ((k-1:Nat):Int)) rfl (aO (by omega)) ?_
  refine dv 2 ?_;refine dG 3 ([.v (.int .i64 ((nth (dg 65536 (u)) (k-1):Nat):Int))]) (fN (dg 65536 (u)) (k:=k-1) (by omega)) ?_
  refine dv 4 ?_;refine dv 5 ?_;refine WD.cast (t:=28) (u':=.int .i64 ((k-1:Nat):Int)) rfl (aO (by omega)) ?_
  refine dv 6 ?_;refine dG 7 ([.v (.int .i64 ((nth (dg 65536 (v)) (k-1):Nat):Int))]) (fN (dg 65536 (v)) (k:=k-1) (by omega)) ?_
  refine dv 8 ?_;refine aH ?_;refine bQ rfl (fun h3=>?_) (fun h3=>?_)
  ·refine sq ?_;refine rd [] (fun i=>[9].contains i) mixed ?_
   refine dv 0 ?_;refine dv 1 ?_;refine WD.cast (t:=33) (u':=.int .i64 ((k-1:Nat):Int)) rfl (aO (by omega)) ?_
   refine dv 2 ?_;refine dG 3 ([.v (.int .i64 ((nth (dg 65536 (u)) (k-1):Nat):Int))]) (fN (dg 65536 (u)) (k:=k-1) (by omega)) ?_
   refine dv 4 ?_;refine dv 5 ?_;refine WD.cast (t:=37) (u':=.int .i64 ((k-1:Nat):Int)) rfl (aO (by omega)) ?_
   refine dv 6 ?_;refine dG 7 ([.v (.int .i64 ((nth (dg 65536 (v)) (k-1):Nat):Int))]) (fN (dg 65536 (v)) (k:=k-1) (by omega)) ?_
   refine dv 8 ?_;refine cT 9 (by kernel_rfl) rfl rfl aA rfl (by trivial) ?_ (fun h=>by first | rfl | cases h)
   refine aH ?_;refine rt ?_;refine en (.inl rfl) rfl (aN (bH _)) (by decide) (fun _=>trivial) (congrArg (fun z=>FV.one (tv (.bool z))) ?_)
   exact FO (k:=k-1) (fun j hj=>hk.1 j (by omega)) (by omega)
  refine sk ?_;refine rl ?_;(iterate 3 refine o1 ?_);refine nl ?_
  exact⟨k-1,by omega,⟨fun j hj=>(Nat.eq_or_lt_of_le hj).elim (fun h9=>by rw[←h9];omega) (fun h9=>hk.1 j (by omega)),by omega⟩,aP h0 [] _ _ (by decide) ⟨rfl,rfl,congrArg (fun z=>some (FV.one (tv (.int .i64 z)))) (by omega),trivial⟩ rfl⟩
 refine ex ?_;refine sq ?_;refine rl ?_;refine o1 ?_;refine nl ?_;refine rt ?_
 refine en (.inl rfl) rfl (aN (bH _)) (by decide) (fun _=>trivial) (congrArg (fun z=>FV.one (tv (.bool z))) ?_)
 have he:=Vl (fun j=>hk.1 j (by omega))
 rw[cE (by omega),cE (by omega)]at he
 rw[he,decide_eq_false (Nat.lt_irrefl v)]
theorem FP {u v n:Nat}(hx:(dg 65536 (u)).length≤1099511627776) (hy:(dg 65536 (v)).length≤1099511627776) (hn:n≤65536) (hnv:n*v≤u):aE false Tryz.prog 180 [] [.one (.t (sI false (dg 65536 u))),.one (.t (sI false (dg 65536 v))),.one (tv (.int .i64 ((n:Nat):Int)))] (aQ (.one (.t (sI false (dg 65536 (u-n*v)))))):=by
 refine bO Tryz.func180 rfl Tryz.ntmps180 rfl aA rfl fun N w c0 h0=>?_
 have hlu:=aR (B:=65536) (by omega) u
 have hlv:=aR (B:=65536) (by omega) v
 refine sq ?_;refine rl ?_;refine o1 ?_;refine nl ?_;refine sq ?_;refine rl ?_;refine o1 ?_;refine nl ?_;refine sq ?_;refine rl ?_;refine o1 ?_;refine nl ?_;refine sq ?_;refine sq ?_
 refine rl ?_;refine o1 ?_;refine nl ?_;refine bl ?_
 refine lp (γ:=Nat×Nat×List Nat) (fun s=>cG [(0,.one (.t (sI false (dg 65536 u)))),(1,.one (.t (sI false (dg 65536 v)))),(2,.one (tv (.int .i64 ((n:Nat):Int)))),(7,.one (.sl 0 0 s.1)),(8,.one (tv (.int .i64 ((s.2.1:Nat):Int)))),(9,.one (tv (.int .i64 ((s.1:Nat):Int))))]) (fun s=>[(⟨3,1,(eL s.2.2).map .t⟩:Ob)].map some) (fun s=>s.2.2.length=s.1∧Lim 65536 s.2.2∧vl 65536 s.2.2+n*vl 65536 ((dg 65536 (v)).take s.1)=vl 65536 ((dg 65536 (u)).take s.1)+65536^s.1*s.2.1∧s.2.1≤65536∧s.1≤(dg 65536 (u)).length) (fun s=>(dg 65536 (u)).length-s.1) (0,0,[]) ⟨rfl,Lim.nil,by simp[vl],Nat.zero_le _,Nat.zero_le _⟩ ((nr (i:=7) 0 3 1 rfl rfl rfl rfl).trans (aP h0 [0] _ _ (by decide) ⟨rfl,rfl,rfl,rfl,rfl,rfl,trivial⟩ ⟨aD (l:=[]) rfl,rfl⟩)) ?_
 rintro⟨k,br,os⟩ ⟨hos,hol,hv,hc1,hkm⟩;dsimp only at hos hol hv hc1 hkm⊢;have hn1:=hlu.nth (by omega) k
 have hn2:=hlv.nth (by omega) k
 have hmul:=Nat.mul_le_mul hn (Nat.le_of_lt_succ hn2)
 refine sq ?_;refine sq ?_;refine rl ?_;(iterate 4 refine o1 ?_);refine nl ?_;refine bQ rfl (fun h1=>?_) (fun h1=>?_)
 ·refine sk ?_;refine sq ?_;refine bl ?_;refine sq ?_;refine rl ?_;(iterate 3 refine o1 ?_)
  refine gJ ([.v (.int .i64 ((nth (dg 65536 (u)) (k):Nat):Int))]) (fN (dg 65536 (u)) (k:=k) (by omega)) ?_
  (iterate 3 refine o1 ?_);refine nl ?_;refine sq ?_;refine sq ?_;refine rl ?_;(iterate 4 refine o1 ?_);refine nl ?_;refine bQ rfl (fun h2=>?_) (fun h2=>?_)
  ·refine rl ?_;(iterate 5 refine o1 ?_);refine gJ ([.v (.int .i64 ((nth (dg 65536 (v)) (k):Nat):Int))]) (fN (dg 65536 (v)) (k:=k) (by omega)) ?_
   (iterate 3 refine o1 ?_);refine nl ?_;refine sq ?_;refine rl ?_;refine o1 ?_;refine nl ?_;refine sq ?_;refine sq ?_;refine rl ?_;refine o1 ?_;refine o1 ?_;refine nl ?_
   refine bQ rfl (fun h3=>?_) (fun h3=>?_)
   ·refine sq ?_;refine rl ?_;refine o1 ?_;refine o1 ?_
    refine WL.cast (t:=38) (u':=.int .i64 ((65535+n*nth (dg 65536 (v)) k+br-nth (dg 65536 (u)) k:Nat):Int)) rfl (aO (by omega)) ?_
    refine o1 ?_ (hC:=(iH 65536 (by omega) (by simp only[iS];omega)))
    refine WL.cast (t:=39) (u':=.int .i64 (((65535+n*nth (dg 65536 (v)) k+br-nth (dg 65536 (u)) k)/65536:Nat):Int)) rfl (aO (fS _ 65536)) ?_;refine o1 ?_;refine nl ?_
    refine rl ?_;(iterate 5 refine o1 ?_);refine nl ?_;refine rl ?_;refine o1 ?_;refine o1 ?_
    refine WL.cast (t:=45) (u':=.int .i64 ((nth (dg 65536 (u)) k+65536*((65535+n*nth (dg 65536 (v)) k+br-nth (dg 65536 (u)) k)/65536)-br-n*nth (dg 65536 (v)) k:Nat):Int)) rfl (aO (by omega)) ?_
    refine bs 1 ?_;refine jN (j:=2) aA rfl rfl rfl rfl (.sl rfl (by rw[List.length_map,iI,hos];omega)) (.sl rfl rfl rfl) rfl rfl rfl (by omega) (by omega) ?_
    refine o1 ?_;refine nl ?_;refine rl ?_;refine o1 ?_;refine o1 ?_;refine WL.cast (t:=16) (u':=.int .i64 ((k+1:Nat):Int)) rfl (aO (by omega)) ?_
    refine o1 ?_;refine nl ?_
    have hst:=rS (d:=nth (dg 65536 (u)) k+65536*((65535+n*nth (dg 65536 (v)) k+br-nth (dg 65536 (u)) k)/65536)-br-n*nth (dg 65536 (v)) k) (br:=br) (br':=(65535+n*nth (dg 65536 (v)) k+br-nth (dg 65536 (u)) k)/65536) hos hv (by omega)
    exact⟨(k+1,(65535+n*nth (dg 65536 (v)) k+br-nth (dg 65536 (u)) k)/65536,os++[nth (dg 65536 (u)) k+65536*((65535+n*nth (dg 65536 (v)) k+br-nth (dg 65536 (u)) k)/65536)-br-n*nth (dg 65536 (v)) k]),by dsimp only;omega,⟨by simp[hos],hol.append (Lim.cons (by omega) Lim.nil),hst,by dsimp only;omega,by dsimp only;omega⟩,aP h0 [2] _ _ (by decide) ⟨rfl,rfl,rfl,rfl,rfl,rfl,trivial⟩ ⟨nK rfl (iJ _ [nth (dg 65536 (u)) k+65536*((65535+n*nth (dg 65536 (v)) k+br-nth (dg 65536 (u)) k)/65536)-br-n*nth (dg 65536 (v)) k]) rfl,rfl⟩⟩
   refine sk ?_;refine rl ?_;refine o1 ?_;refine o1 ?_;refine WL.cast (t:=45) (u':=.int .i64 ((nth (dg 65536 (u)) k-br-n*nth (dg 65536 (v)) k:Nat):Int)) rfl (aO (by omega)) ?_
   refine bs 1 ?_;refine jN (j:=2) aA rfl rfl rfl rfl (.sl rfl (by rw[List.length_map,iI,hos];omega)) (.sl rfl rfl rfl) rfl rfl rfl (by omega) (by omega) ?_
   refine o1 ?_;refine nl ?_;refine rl ?_;refine o1 ?_;refine o1 ?_;refine WL.cast (t:=16) (u':=.int .i64 ((k+1:Nat):Int)) rfl (aO (by omega)) ?_
   refine o1 ?_;refine nl ?_;have hst:=rS (d:=nth (dg 65536 (u)) k-br-n*nth (dg 65536 (v)) k) (br:=br) (br':=0) hos hv (by omega)
   exact⟨(k+1,0,os++[nth (dg 65536 (u)) k-br-n*nth (dg 65536 (v)) k]),by dsimp only;omega,⟨by simp[hos],hol.append (Lim.cons (by omega) Lim.nil),hst,by dsimp only;omega,by dsimp only;omega⟩,aP h0 [2] _ _ (by decide) ⟨rfl,rfl,rfl,rfl,rfl,rfl,trivial⟩ ⟨nK rfl (iJ _ [nth (dg 65536 (u)) k-br-n*nth (dg 65536 (v)) k]) rfl,rfl⟩⟩
  refine sk ?_;refine sq ?_;refine rl ?_;refine o1 ?_;refine nl ?_;refine sq ?_;refine sq ?_;refine rl ?_;refine o1 ?_;refine o1 ?_;refine nl ?_
  refine bQ rfl (fun h4=>?_) (fun h4=>?_)
  ·refine sq ?_;refine rl ?_;refine o1 ?_;refine o1 ?_;refine WL.cast (t:=38) (u':=.int .i64 ((65535+br-nth (dg 65536 (u)) k:Nat):Int)) rfl (aO (by omega)) ?_
   refine o1 ?_ (hC:=(iH 65536 (by omega) (by simp only[iS];omega)))
   refine WL.cast (t:=39) (u':=.int .i64 (((65535+br-nth (dg 65536 (u)) k)/65536:Nat):Int)) rfl (aO (fS _ 65536)) ?_;refine o1 ?_;refine nl ?_;refine rl ?_
   (iterate 5 refine o1 ?_);refine nl ?_;refine rl ?_;refine o1 ?_;refine o1 ?_
   refine WL.cast (t:=45) (u':=.int .i64 ((nth (dg 65536 (u)) k+65536*((65535+br-nth (dg 65536 (u)) k)/65536)-br:Nat):Int)) rfl (aO (by omega)) ?_
   refine bs 1 ?_;refine jN (j:=2) aA rfl rfl rfl rfl (.sl rfl (by rw[List.length_map,iI,hos];omega)) (.sl rfl rfl rfl) rfl rfl rfl (by omega) (by omega) ?_
   refine o1 ?_;refine nl ?_;refine rl ?_;refine o1 ?_;refine o1 ?_;refine WL.cast (t:=16) (u':=.int .i64 ((k+1:Nat):Int)) rfl (aO (by omega)) ?_
   refine o1 ?_;refine nl ?_;have hny:nth (dg 65536 (v)) k=0:=eQ (by omega)
   have hst:=rS (d:=nth (dg 65536 (u)) k+65536*((65535+br-nth (dg 65536 (u)) k)/65536)-br) (br:=br) (br':=(65535+br-nth (dg 65536 (u)) k)/65536) hos hv (by rw[hny,Nat.mul_zero];omega)
   exact⟨(k+1,(65535+br-nth (dg 65536 (u)) k)/65536,os++[nth (dg 65536 (u)) k+65536*((65535+br-nth (dg 65536 (u)) k)/65536)-br]),by dsimp only;omega,⟨by simp[hos],hol.append (Lim.cons (by omega) Lim.nil),hst,by dsimp only;omega,by dsimp only;omega⟩,aP h0 [2] _ _ (by decide) ⟨rfl,rfl,rfl,rfl,rfl,rfl,trivial⟩ ⟨nK rfl (iJ _ [nth (dg 65536 (u)) k+65536*((65535+br-nth (dg 65536 (u)) k)/65536)-br]) rfl,rfl⟩⟩
  refine sk ?_;refine rl ?_;refine o1 ?_;refine o1 ?_;refine WL.cast (t:=45) (u':=.int .i64 ((nth (dg 65536 (u)) k-br:Nat):Int)) rfl (aO (by omega)) ?_
  refine bs 1 ?_;refine jN (j:=2) aA rfl rfl rfl rfl (.sl rfl (by rw[List.length_map,iI,hos];omega)) (.sl rfl rfl rfl) rfl rfl rfl (by omega) (by omega) ?_
  refine o1 ?_;refine nl ?_;refine rl ?_;refine o1 ?_;refine o1 ?_;refine WL.cast (t:=16) (u':=.int .i64 ((k+1:Nat):Int)) rfl (aO (by omega)) ?_
  refine o1 ?_;refine nl ?_;have hny:nth (dg 65536 (v)) k=0:=eQ (by omega)
  have hst:=rS (d:=nth (dg 65536 (u)) k-br) (br:=br) (br':=0) hos hv (by rw[hny,Nat.mul_zero];omega)
  exact⟨(k+1,0,os++[nth (dg 65536 (u)) k-br]),by dsimp only;omega,⟨by simp[hos],hol.append (Lim.cons (by omega) Lim.nil),hst,by dsimp only;omega,by dsimp only;omega⟩,aP h0 [2] _ _ (by decide) ⟨rfl,rfl,rfl,rfl,rfl,rfl,trivial⟩ ⟨nK rfl (iJ _ [nth (dg 65536 (u)) k-br]) rfl,rfl⟩⟩
 refine ex ?_;refine sq ?_;refine rl ?_;have hve:vl 65536 os=u-n*v:=Zh rfl (by omega) hol hv hnv
 refine WL.sub (Ah (i:=7) (zs':=os) rfl rfl rfl (by omega) rfl) ?_
 refine o1 ?_;refine ca (Dj (by omega)) Dk ⟨a1 rfl,rfl⟩ (.one (.t (sI false (trim os)))) ?_
 refine o1 ?_;refine nl ?_;refine rt ?_;exact en (.inl rfl) rfl (aN (.one (.id rfl))) (by decide) (fun h=>by cases h) (by rw[Ib (by omega) hol hve];rfl)
theorem Zj {u v:Nat}(hx:(dg 65536 (u)).length≤1099511627776) (hy:(dg 65536 (v)).length≤1099511627776) (huv:u<65536*v):aE true Tryz.prog 179 [] [.one (.t (sI false (dg 65536 u))),.one (.t (sI false (dg 65536 v)))] (aQ (.one (tv (.int .i64 ((u/v:Nat):Int))))):=by
 refine bO Tryz.func179 rfl Tryz.ntmps179 rfl aA rfl fun N w c0 h0=>?_
 refine sq ?_;refine rl ?_;refine o1 ?_;refine nl ?_;refine sq ?_;refine rl ?_;refine o1 ?_;refine o1 ?_;refine nl ?_;refine sq ?_;refine bl ?_
 refine lp (γ:=Nat×Nat) (fun s=>cG [(0,.one (.t (sI false (dg 65536 u)))),(1,.one (.t (sI false (dg 65536 v)))),(5,.one (tv (.int .i64 ((s.1:Nat):Int)))),(6,.one (tv (.int .i64 ((s.2:Nat):Int))))]) (fun s=>([]:List Ob).map some) (fun s=>s.1*v≤u∧u<s.2*v∧s.1<s.2∧s.2≤65536) (fun s=>s.2-s.1) (0,65536) ⟨by simp,huv,by decide,Nat.le_refl _⟩ (aP h0 [] _ _ (by decide) ⟨rfl,rfl,rfl,rfl,trivial⟩ rfl) ?_
 rintro⟨lo,hi⟩ ⟨h91,h92,h93,h94⟩;dsimp only at h91 h92 h93 h94⊢;refine sq ?_;refine sq ?_;refine rl ?_;(iterate 3 refine o1 ?_)
 refine WL.cast (t:=10) (u':=.int .i64 ((hi-lo:Nat):Int)) rfl (aO (by omega)) ?_
 refine o1 ?_;refine nl ?_;refine bQ rfl (fun h1=>?_) (fun h1=>?_)
 ·refine sk ?_;refine bl ?_;refine sq ?_;refine rl ?_;(iterate 3 refine o1 ?_);refine WL.cast (t:=14) (u':=.int .i64 ((lo+hi:Nat):Int)) rfl (aO (by omega)) ?_
  refine o1 ?_ (hC:=(iH 2 (by omega) (by simp only[iS];omega)))
  refine WL.cast (t:=15) (u':=.int .i64 (((lo+hi)/2:Nat):Int)) rfl (aO (fS _ 2)) ?_;refine o1 ?_;refine nl ?_;refine sq ?_;refine rl ?_;(iterate 3 refine o1 ?_)
  refine bs 0 ?_;refine WL.sub (Ah (i:=19) (zs:=[(lo+hi)/2]) (zs':=[(lo+hi)/2]) rfl rfl rfl rfl rfl) ?_;have h1l:[(lo+hi)/2].length=1:=rfl
  have hn2:=wS (xs:=(dg 65536 (v))) (ys:=[(lo+hi)/2]) (aR (by omega) _) (Lim.cons (d:=(lo+hi)/2) (by omega) Lim.nil)
  refine ca (Ka (by omega) (by omega) (aR (by omega) _) (Lim.cons (d:=(lo+hi)/2) (by omega) Lim.nil)) CX ⟨a1 rfl,a1 rfl,rfl⟩ (.one (.t (sI false (dg 65536 (vl 65536 (dg 65536 (v))*vl 65536 [(lo+hi)/2]))))) ?_
  refine ca (FN (by omega) (by omega)) OM ⟨a1 rfl,a1 rfl,rfl⟩ (.one (tv (.bool (decide (u<vl 65536 (dg 65536 (v))*vl 65536 [(lo+hi)/2]))))) ?_
  refine nl ?_;refine bQ rfl (fun h3=>?_) (fun h3=>?_)
  ·refine rl ?_;refine o1 ?_;refine o1 ?_;refine nl ?_;rw[cE (by omega),sP,Nat.mul_comm]at h3
   exact⟨(lo,(lo+hi)/2),by dsimp only;omega,⟨by dsimp only;omega,by dsimp only;omega,by dsimp only;omega,by dsimp only;omega⟩,aP h0 [] _ _ (by decide) ⟨rfl,rfl,rfl,rfl,trivial⟩ rfl⟩
  refine rl ?_;refine o1 ?_;refine o1 ?_;refine nl ?_;rw[cE (by omega),sP,Nat.mul_comm]at h3
  exact⟨((lo+hi)/2,hi),by dsimp only;omega,⟨by dsimp only;omega,by dsimp only;omega,by dsimp only;omega,by dsimp only;omega⟩,aP h0 [] _ _ (by decide) ⟨rfl,rfl,rfl,rfl,trivial⟩ rfl⟩
 refine ex ?_;refine sq ?_;refine rl ?_;refine o1 ?_;refine o1 ?_;refine nl ?_;refine rt ?_
 exact en (.inl rfl) rfl (aN (bH _)) (by decide) (fun _=>trivial) (congrArg (fun z=>FV.one (tv (.int .i64 ((z:Nat):Int)))) (Vo h91 h92 (by omega)).symm)
theorem Vp {xs zs:List Nat}(hx:xs.length≤4398046511104) (hz:trim xs=zs):aE false Tryz.prog 172 [] [.one (.t (sI false xs))] (aQ (.one (.t (sI false zs)))):=by
 subst hz
 exact Dj hx
theorem Kf {u v:Nat}(hx:(dg 65536 (u)).length≤549755813888) (hy:(dg 65536 (v)).length≤549755813888) (hvp:0<v):aE false Tryz.prog 166 [] [.one (.t (sI false (dg 65536 u))),.one (.t (sI false (dg 65536 v)))] (aQ (.tup [.one (.t (sI false (dg 65536 (u/v)))),.one (.t (sI false (dg 65536 (u%v))))])):=by
 refine bO Tryz.func166 rfl Tryz.ntmps166 rfl aA rfl fun N w c0 h0=>?_
 have hlu:=aR (B:=65536) (by omega) u
 refine sq ?_;refine rl ?_;refine o1 ?_;refine o1 ?_;refine nl ?_;refine sq ?_;refine rl ?_;refine o1 ?_;refine o1 ?_
 refine WL.cast (t:=11) (u':=.int .i64 (((dg 65536 (u)).length:Nat):Int)) rfl (aO rfl) ?_;refine mk (m:=(dg 65536 (u)).length) 0 (by omega) (Kb _) ?_
 refine o1 ?_;refine nl ?_;refine sq ?_;refine rl ?_;refine o1 ?_;refine nl ?_;refine sq ?_;refine sq ?_;refine rl ?_;(iterate 4 refine o1 ?_);refine nl ?_;refine bl ?_
 refine lp (γ:=Nat×List Nat×Nat) (fun s=>cG [(0,.one (.t (sI false (dg 65536 u)))),(1,.one (.t (sI false (dg 65536 v)))),(6,.one (.sl 0 0 (dg 65536 (u)).length)),(7,.one (.t (sI false (dg 65536 s.2.2)))),(8,.one (tv (.int .i64 ((s.1:Nat)-1))))]) (fun s=>[(⟨3,1,(eL s.2.1).map .t⟩:Ob)].map some) (fun s=>s.2.1.length=(dg 65536 (u)).length∧Lim 65536 s.2.1∧vl 65536 ((dg 65536 (u)).drop s.1)=v*vl 65536 (s.2.1.drop s.1)+s.2.2∧s.2.2<v∧s.1≤(dg 65536 (u)).length) (fun s=>s.1) ((dg 65536 (u)).length,List.replicate (dg 65536 (u)).length 0,0) ⟨List.length_replicate,Lim.replicate (by omega) _,by dsimp only;rw[List.drop_of_length_le (Nat.le_refl _),List.drop_of_length_le (by rw[List.length_replicate];exact Nat.le_refl _)];simp[vl],hvp,Nat.le_refl _⟩ (((nr (i:=7) 1 3 1 rfl rfl rfl rfl).trans (Ah (i:=7) (k:=1) (zs:=[]) (zs':=dg 65536 0) rfl rfl rfl rfl (nZ _).symm)).trans (aP h0 [0] _ _ (by decide) ⟨rfl,rfl,rfl,rfl,rfl,trivial⟩ ⟨nK rfl rfl rfl,rfl⟩)) ?_
 rintro⟨k,os,r⟩ ⟨hos,hol,hv,hr,hkm⟩;dsimp only at hos hol hv hr hkm⊢;have hrl:=dA (B:=65536) (by omega) (Nat.le_of_lt hr)
 have hau:=hlu.nth (by omega) (k-1)
 have hce:=Zk (a:=nth (dg 65536 (u)) (k-1)) hau hr
 have hql:(nth (dg 65536 (u)) (k-1)+65536*r)/v<65536:=(Nat.div_lt_iff_lt_mul hvp).2 (by omega)
 refine sq ?_;refine sq ?_;refine rl ?_;refine o1 ?_;refine o1 ?_;refine nl ?_;refine bQ rfl (fun h1=>?_) (fun h1=>?_)
 ·refine sk ?_;refine sq ?_;refine bl ?_;refine sq ?_;refine rl ?_;refine o1 ?_;refine o1 ?_;refine WL.cast (t:=21) (u':=.int .i64 ((k-1:Nat):Int)) rfl (aO (by omega)) ?_
  refine o1 ?_;refine gJ ([.v (.int .i64 ((nth (dg 65536 (u)) (k-1):Nat):Int))]) (fN (dg 65536 (u)) (k:=k-1) (by omega)) ?_
  refine bs 1 ?_;refine o1 ?_;refine nl ?_;refine sq ?_;refine rl ?_;refine o1 ?_;refine o1 ?_
  refine jN (j:=2) aA rfl rfl rfl rfl (.sl rfl (rfl)) .fz (KL _) (Zl _) rfl (by omega) (by omega) ?_
  refine WL.sub (Ah (i:=27) (k:=2) (zs:=[nth (dg 65536 (u)) (k-1)]++dg 65536 r) (zs':=[nth (dg 65536 (u)) (k-1)]++dg 65536 r) rfl rfl (congrArg (fun l=>some (⟨3,1,l⟩:Ob)) (iJ [nth (dg 65536 (u)) (k-1)] (dg 65536 r))) (by rw[List.length_append];rfl) rfl) ?_
  refine ca (Vp (zs:=(dg 65536 (nth (dg 65536 (u)) (k-1)+65536*r))) (by rw[List.length_append];exact Nat.le_trans (Nat.add_le_add_left hrl 1) (by omega)) (wT (by omega))) Dk ⟨a1 rfl,rfl⟩ (.one (.t (sI false (dg 65536 (nth (dg 65536 (u)) (k-1)+65536*r))))) ?_
  refine o1 ?_;refine nl ?_;refine sq ?_;refine rl ?_;refine o1 ?_;refine o1 ?_;refine WL.cast (t:=30) (u':=.int .i64 ((k-1:Nat):Int)) rfl (aO (by omega)) ?_
  refine o1 ?_;refine o1 ?_;refine ca (Zj (by omega) (by omega) (by omega)) ON ⟨a1 rfl,a1 rfl,rfl⟩ (.one (tv (.int .i64 (((nth (dg 65536 (u)) (k-1)+65536*r)/v:Nat):Int)))) ?_
  refine o1 ?_;refine Af (tD os (k:=k-1) (v:=(nth (dg 65536 (u)) (k-1)+65536*r)/v) (by omega)) (wR os (by omega)) ?_
  refine nl ?_;refine rl ?_;(iterate 4 refine o1 ?_);refine WL.cast (t:=38) (u':=.int .i64 ((k-1:Nat):Int)) rfl (aO (by omega)) ?_
  refine o1 ?_;refine Kd (Ke (os.set (k-1) ((nth (dg 65536 (u)) (k-1)+65536*r)/v)) (k:=k-1) (by rw[List.length_set];omega)) ?_
  refine WL.cast (t:=40) (u':=.int .i64 (((nth (dg 65536 (u)) (k-1)+65536*r)/v:Nat):Int)) rfl (aO (by rw[Kg (by omega)])) ?_
  refine ca (FP (by omega) (by omega) (by omega) (Nat.div_mul_le_self _ _)) OO ⟨a1 rfl,a1 rfl,a1 rfl,rfl⟩ (.one (.t (sI false (dg 65536 (nth (dg 65536 (u)) (k-1)+65536*r-(nth (dg 65536 (u)) (k-1)+65536*r)/v*v))))) ?_
  refine o1 ?_;refine nl ?_;refine rl ?_;(iterate 3 refine o1 ?_);refine nl ?_
  have hst:=Sg (k:=k) (q:=(nth (dg 65536 (u)) (k-1)+65536*r)/v) (by omega) (by omega) (by omega) hv rfl rfl
  have hmod:=Nat.mod_lt (nth (dg 65536 (u)) (k-1)+65536*r) hvp
  have hdm:=Nat.div_add_mod' (nth (dg 65536 (u)) (k-1)+65536*r) v
  exact⟨(k-1,os.set (k-1) ((nth (dg 65536 (u)) (k-1)+65536*r)/v),nth (dg 65536 (u)) (k-1)+65536*r-(nth (dg 65536 (u)) (k-1)+65536*r)/v*v),by dsimp only;omega,⟨by rw[List.length_set];exact hos,hol.set _ hql,hst,by dsimp only;omega,by dsimp only;omega⟩,aP h0 [0] _ _ (by decide) ⟨rfl,rfl,rfl,rfl,congrArg (fun z=>some (FV.one (tv (.int .i64 z)))) (by omega),trivial⟩ ⟨nK rfl rfl rfl,rfl⟩⟩
 refine ex ?_;refine sq ?_;refine rl ?_;have hk0:k=0:=by omega
 rw[hk0,List.drop_zero,List.drop_zero,cE (by omega)]at hv
 obtain⟨hq1,hq2⟩:=Vq hv hr
 refine WL.sub (Ah (i:=6) (zs':=os) rfl rfl rfl (by omega) rfl) ?_
 refine o1 ?_;refine ca (Vp (zs:=(dg 65536 (u/v))) (by omega) (by rw[Ib (by omega) hol rfl,hq1])) Dk ⟨a1 rfl,rfl⟩ (.one (.t (sI false (dg 65536 (u/v))))) ?_
 (iterate 3 refine o1 ?_);refine nl ?_;refine rt ?_;exact en (.inl rfl) rfl (wM (.cons (.one (.id rfl)) (.cons (.one (.id rfl)) .nil))) (by decide) (fun h=>by cases h) (by rw[hq2];rfl)
theorem Kh {a b:Zi}{k k':Int}(ha:Zn a k) (hb:Zn b k'):aE true Tryz.prog 135 [] [gF a,gF b] (aQ (kO ((Int.gcd k k':Nat):Int))):=by
 refine bO Tryz.func135 rfl Tryz.ntmps135 rfl aA rfl fun N w c0 h0=>?_
 have hkl:=ha.len
 have hkl':=hb.len
 refine sq ?_;refine rl ?_;refine bx 0 ?_;refine bx 1 ?_;refine al 2 ?_;refine nl ?_;refine sq ?_;refine rd [0,1,2] (fun i=>[9].contains i) mixed ?_
 refine aM 0 ?_;refine aM 4 ?_;refine aF 1 rfl (gZ ha) mH ⟨aB rfl,rfl⟩ (kF (k)) ?_;refine df 2 ?_
 have hn1:=eM (v:=vl 4294967296 (dg 4294967296 (k).natAbs)) (L:=(dg 4294967296 (k).natAbs).length) (by rw[cE (by omega)];exact Nat.le_refl _)
 refine aF 3 rfl (mX (by omega) (aR (by omega) _)) yQ ⟨a1 rfl,rfl⟩ (.one (.t (sI false (dg 65536 (vl 4294967296 (dg 4294967296 (k).natAbs)))))) ?_
 refine aF 5 rfl (gZ hb) mH ⟨aB rfl,rfl⟩ (kF (k')) ?_;refine df 6 ?_
 have hn2:=eM (v:=vl 4294967296 (dg 4294967296 (k').natAbs)) (L:=(dg 4294967296 (k').natAbs).length) (by rw[cE (by omega)];exact Nat.le_refl _)
 refine aF 7 rfl (mX (by omega) (aR (by omega) _)) yQ ⟨a1 rfl,rfl⟩ (.one (.t (sI false (dg 65536 (vl 4294967296 (dg 4294967296 (k').natAbs)))))) ?_
 refine cT 8 (by kernel_rfl) rfl rfl aA rfl (by trivial) ?_ (fun h=>by first | rfl | cases h)
 refine cT 9 (by kernel_rfl) rfl rfl aA rfl (by trivial) ?_ (fun h=>by first | rfl | cases h)
 refine aH ?_;refine sq ?_;refine bl ?_
 refine lp (γ:=Nat×Nat) (fun s=>cG [(4,.one (.pt 0 0)),(5,.one (.t (sI false (dg 65536 s.1)))),(6,.one (.t (sI false (dg 65536 s.2))))]) (fun s=>[(⟨47,0,[tv (.bool false),tv (.slice none 0 0)]⟩:Ob)].map some) (fun s=>Nat.gcd s.1 s.2=Int.gcd k k'∧(dg 65536 s.1).length≤549755813888∧(dg 65536 s.2).length≤549755813888) (fun s=>s.2) (vl 4294967296 (dg 4294967296 (k).natAbs),vl 4294967296 (dg 4294967296 (k').natAbs)) ⟨by dsimp only;rw[cE (by omega),cE (by omega)];rfl,by dsimp only;omega,by dsimp only;omega⟩ (aP h0 [2] _ _ (by decide) ⟨rfl,rfl,rfl,trivial⟩ ⟨oe rfl rfl,rfl⟩) ?_
 rintro⟨ga,gb⟩ ⟨hg,hga,hgb⟩;dsimp only at hg hga hgb⊢;have hbz:gb=0↔(dg 65536 gb).length=0:=by rw[List.length_eq_zero_iff,fT (by omega)]
 refine sq ?_;refine sq ?_;refine rl ?_;(iterate 3 refine o1 ?_);refine nl ?_;refine bQ rfl (fun h3=>?_) (fun h3=>?_)
 ·refine sk ?_;refine bl ?_;refine sq ?_;have hb0:0<gb:=by omega
  refine rl ?_;refine o1 ?_;refine o1 ?_;have hn4:=dA (B:=65536) (by omega) (Nat.div_le_self (ga) (gb))
  have hn5:=dA (B:=65536) (by omega) (Nat.mod_le (ga) (gb))
  refine ca (Kf (by omega) (by omega) hb0) CY ⟨a1 rfl,a1 rfl,rfl⟩ (.tup [.one (.t (sI false (dg 65536 ((ga)/(gb))))),.one (.t (sI false (dg 65536 ((ga)%(gb)))))]) ?_
  (iterate 5 refine o1 ?_);refine nl ?_;refine sq ?_;refine rl ?_;refine o1 ?_;refine o1 ?_;refine nl ?_;refine rl ?_;refine o1 ?_;refine o1 ?_;refine nl ?_;have hmod:=Nat.mod_lt ga hb0
  have hml:=dA (B:=65536) (by omega) (Nat.le_of_lt hmod)
  exact⟨(gb,ga%gb),by dsimp only;omega,⟨by dsimp only;rw[←hg,Nat.gcd_comm gb (ga%gb),←Nat.gcd_rec,Nat.gcd_comm],by dsimp only;omega,by dsimp only;omega⟩,aP h0 [0] _ _ (by decide) ⟨rfl,rfl,rfl,trivial⟩ ⟨oe rfl rfl,rfl⟩⟩
 refine ex ?_;refine sq ?_;have hb00:gb=0:=by omega
 rw[hb00,Nat.gcd_zero_right]at hg;refine rl ?_;refine o1 ?_;have hn6:=nM (ga)
 refine ca (uW (zs:=(dg 4294967296 (ga))) (by omega) (aR (by omega) _) (yO _)) fG ⟨a1 rfl,rfl⟩ (.one (.t (sU false (dg 4294967296 (ga))))) ?_
 refine gQ 1 (lL (K:=((Int.gcd k k':Nat):Int)) (by omega) (aR (by omega) _) (by rw[cE (by omega),hg];rfl)) cQ ⟨a1 rfl,a1 rfl,rfl⟩ ?_
 refine st ?_;refine nl ?_;refine rt ?_
 exact en (.inl rfl) rfl (aN (.agg (.cons (.id rfl) (.cons (.sl (trs:=aJ (dg 4294967296 (((Int.gcd k k':Nat):Int)).natAbs)) rfl rfl (aY _) (aU _)) .nil)))) (by decide) (fun _=>eU (((Int.gcd k k':Nat):Int))) rfl
theorem Vr {a b:Zi}{k k':Int}(ha:Zn a k) (hb:Zn b k'):aE false Tryz.prog 138 [] [gF a,gF b] (aQ (.tup [kF (if k'=0 then 0 else k.fdiv k'),kF (if k'=0 then 0 else k.fmod k'),.one (tv (.int .i64 (if k'=0 then 20 else 0)))])):=by
 refine bO Tryz.func138 rfl Tryz.ntmps138 rfl aA rfl fun N w c0 h0=>?_
 have hkl:=ha.len
 have hkl':=hb.len
 refine sq ?_;refine rl ?_;refine bx 0 ?_;refine bx 1 ?_;refine al 2 ?_;refine al 3 ?_;refine o1 ?_;refine nl ?_;refine sq ?_;refine rl ?_;refine ld ?_
 refine ca (gZ ha) mH ⟨aB rfl,rfl⟩ (kF (k)) ?_;refine st ?_;refine nl ?_;refine sq ?_;refine rl ?_;refine ld ?_;refine ca (gZ hb) mH ⟨aB rfl,rfl⟩ (kF (k')) ?_;refine st ?_
 refine nl ?_;refine sq ?_;refine sq ?_;refine rl ?_;refine o1 ?_;refine ld ?_;refine o1 ?_;refine o1 ?_;refine nl ?_;refine bQ rfl (fun h1=>?_) (fun h1=>?_)
 ·refine sq ?_;refine rl ?_;refine o1 ?_;refine o1 ?_;refine st ?_;refine st ?_;refine o1 ?_;refine nl ?_;refine rt ?_;have hk0:k'=0:=by have:=Np (k:=k') (by omega);omega
  exact en (.inl rfl) rfl (Bj (.cons (.agg (.cons (.id rfl) (.cons .nilf .nil))) (.cons (.agg (.cons (.id rfl) (.cons .nilf .nil))) (.cons (bH _) .nil)))) (by decide) (fun h=>by cases h) (by rw[if_pos hk0,if_pos hk0,if_pos hk0,←Fa];rfl)
 refine sk ?_;refine sq ?_;have hkn:k'≠0:=Vs (by omega)
 have hva:0<vl 4294967296 (dg 4294967296 (k').natAbs):=by rw[cE (by omega)];omega
 refine rd [0,1,2,3] (fun i=>[11].contains i) mixed ?_
 refine dv 0 ?_;refine aM 1 ?_;refine dv 3 ?_;refine aM 4 ?_
 have hn2:=eM (v:=vl 4294967296 (dg 4294967296 (k).natAbs)) (L:=(dg 4294967296 (k).natAbs).length) (by rw[cE (by omega)];exact Nat.le_refl _)
 refine aF 2 rfl (mX (by omega) (aR (by omega) _)) yQ ⟨a1 rfl,rfl⟩ (.one (.t (sI false (dg 65536 (vl 4294967296 (dg 4294967296 (k).natAbs)))))) ?_
 have hn3:=eM (v:=vl 4294967296 (dg 4294967296 (k').natAbs)) (L:=(dg 4294967296 (k').natAbs).length) (by rw[cE (by omega)];exact Nat.le_refl _)
 refine aF 5 rfl (mX (by omega) (aR (by omega) _)) yQ ⟨a1 rfl,rfl⟩ (.one (.t (sI false (dg 65536 (vl 4294967296 (dg 4294967296 (k').natAbs)))))) ?_
 have hn4:=dA (B:=65536) (by omega) (Nat.div_le_self (vl 4294967296 (dg 4294967296 (k).natAbs)) (vl 4294967296 (dg 4294967296 (k').natAbs)))
 have hn5:=dA (B:=65536) (by omega) (Nat.mod_le (vl 4294967296 (dg 4294967296 (k).natAbs)) (vl 4294967296 (dg 4294967296 (k').natAbs)))
 refine aF 6 rfl (Kf (by omega) (by omega) hva) CY ⟨a1 rfl,a1 rfl,rfl⟩ (.tup [.one (.t (sI false (dg 65536 ((vl 4294967296 (dg 4294967296 (k).natAbs))/(vl 4294967296 (dg 4294967296 (k').natAbs)))))),.one (.t (sI false (dg 65536 ((vl 4294967296 (dg 4294967296 (k).natAbs))%(vl 4294967296 (dg 4294967296 (k').natAbs))))))]) ?_
 refine df 7 ?_;refine df 8 ?_;refine df 9 ?_;refine cT 10 (by kernel_rfl) rfl rfl aA rfl (by trivial) ?_ (fun h=>by first | rfl | cases h)
 refine cT 11 (by kernel_rfl) rfl rfl aA rfl (by trivial) ?_ (fun h=>by first | rfl | cases h)
 refine aH ?_
 refine md (γ:=Unit) (fun _=>cG [(3,.one (.pt 0 0)),(4,.one (.pt 1 0)),(5,.one (.pt 2 0)),(6,.one (tv (.int .i64 0))),(9,.one (.pt 3 0)),(10,.one (.pt 4 0))]) (fun _=>([⟨47,0,[tv (.bool (aK (k'))),.t (sU false (dg 4294967296 (k').natAbs))]⟩,⟨47,0,[tv (.bool false),tv (.slice none 0 0)]⟩,⟨47,0,[tv (.bool false),tv (.slice none 0 0)]⟩,⟨47,0,[tv (.bool (aK (bX (aK k != aK k') (k.natAbs/k'.natAbs)))),.t (sU false (dg 4294967296 (bX (aK k != aK k') (k.natAbs/k'.natAbs)).natAbs))]⟩,⟨47,0,[tv (.bool (aK (bX (aK k) (k.natAbs%k'.natAbs)))),.t (sU false (dg 4294967296 (bX (aK k) (k.natAbs%k'.natAbs)).natAbs))]⟩]:List Ob).map some) (fun _=>True) ?_ fun _ _=>?_
 ·have hnq:=nM ((vl 4294967296 (dg 4294967296 (k).natAbs))/(vl 4294967296 (dg 4294967296 (k').natAbs)))
  have hLq:=uW (xs:=dg 65536 ((vl 4294967296 (dg 4294967296 (k).natAbs))/(vl 4294967296 (dg 4294967296 (k').natAbs)))) (zs:=dg 4294967296 ((vl 4294967296 (dg 4294967296 (k).natAbs))/(vl 4294967296 (dg 4294967296 (k').natAbs)))) (by omega) (aR (by omega) _) (yO _)
  have hMq:=lL (b:=aK k != aK k') (xs:=dg 4294967296 ((vl 4294967296 (dg 4294967296 (k).natAbs))/(vl 4294967296 (dg 4294967296 (k').natAbs)))) (K:=bX (aK k != aK k') (k.natAbs/k'.natAbs)) (by omega) (aR (by omega) _) (by simp only[cE (B:=4294967296) (by omega)] <;> rfl)
  have hnr:=nM ((vl 4294967296 (dg 4294967296 (k).natAbs))%(vl 4294967296 (dg 4294967296 (k').natAbs)))
  have hLr:=uW (xs:=dg 65536 ((vl 4294967296 (dg 4294967296 (k).natAbs))%(vl 4294967296 (dg 4294967296 (k').natAbs)))) (zs:=dg 4294967296 ((vl 4294967296 (dg 4294967296 (k).natAbs))%(vl 4294967296 (dg 4294967296 (k').natAbs)))) (by omega) (aR (by omega) _) (yO _)
  have hMr:=lL (b:=aK k) (xs:=dg 4294967296 ((vl 4294967296 (dg 4294967296 (k).natAbs))%(vl 4294967296 (dg 4294967296 (k').natAbs)))) (K:=bX (aK k) (k.natAbs%k'.natAbs)) (by omega) (aR (by omega) _) (by simp only[cE (B:=4294967296) (by omega)] <;> rfl)
  generalize dg 4294967296 ((vl 4294967296 (dg 4294967296 (k).natAbs))/(vl 4294967296 (dg 4294967296 (k').natAbs)))=zq at hLq hMq
  generalize dg 4294967296 ((vl 4294967296 (dg 4294967296 (k).natAbs))%(vl 4294967296 (dg 4294967296 (k').natAbs)))=zr at hLr hMr;refine rd [0,1,2,3] (fun i=>[16].contains i) mixed ?_
  refine dv 0 ?_;refine aM 1 ?_;refine dv 2 ?_;refine aM 3 ?_;refine dv 4 ?_;refine dv 5 ?_;refine dv 8 ?_;refine aM 9 ?_;refine dv 10 ?_
  refine WO.three (i:=6) (j:=13) (m:=14) (by kernel_rfl) ?_ ?_ ?_
  ·refine cS 6 rfl (hLq) fG ⟨a1 rfl,rfl⟩ (.one (.t (sU false zq))) ?_;refine WO.three (i:=7) (j:=13) (m:=14) (by kernel_rfl) ?_ ?_ ?_
   ·refine cS 7 rfl (hMq) cQ ⟨a1 rfl,a1 rfl,rfl⟩ (kF (bX (aK k != aK k') (k.natAbs/k'.natAbs))) ?_;refine WO.three (i:=11) (j:=13) (m:=14) (by kernel_rfl) ?_ ?_ ?_
    ·refine cS 11 rfl (hLr) fG ⟨a1 rfl,rfl⟩ (.one (.t (sU false zr))) ?_;refine WO.three (i:=12) (j:=13) (m:=14) (by kernel_rfl) ?_ ?_ ?_
     ·refine cS 12 rfl (hMr) cQ ⟨a1 rfl,a1 rfl,rfl⟩ (kF (bX (aK k) (k.natAbs%k'.natAbs))) ?_;refine WO.two (i:=13) (j:=14) (by kernel_rfl) ?_ ?_
      ·refine bE (key:=4) 13 rfl rfl aA rfl ⟨rfl,rfl,rfl,rfl,trivial⟩ ?_;refine eP (key:=5) 14 (by kernel_rfl) rfl rfl aA rfl ⟨rfl,rfl,rfl,rfl,trivial⟩ ?_
       refine aZ 15 (by kernel_rfl) rfl rfl aA rfl rfl rfl rfl ⟨rfl,rfl,rfl,rfl,trivial⟩ ?_
       refine dst 16 ?_;refine aH ?_
       exact⟨(),trivial,aP h0 [1,2,3,4,5] _ _ (by decide) ⟨rfl,rfl,rfl,rfl,rfl,rfl,trivial⟩ ⟨oe rfl rfl,oe rfl rfl,oe rfl rfl,oe rfl rfl,oe rfl rfl,rfl⟩⟩
      refine bE (key:=4) 14 rfl rfl aA rfl ⟨rfl,rfl,rfl,rfl,trivial⟩ ?_;refine eP (key:=5) 13 (by kernel_rfl) rfl rfl aA rfl ⟨rfl,rfl,rfl,rfl,trivial⟩ ?_
      refine aZ 15 (by kernel_rfl) rfl rfl aA rfl rfl rfl rfl ⟨rfl,rfl,rfl,rfl,trivial⟩ ?_
      refine dst 16 ?_;refine aH ?_
      exact⟨(),trivial,aP h0 [1,2,3,5,4] _ _ (by decide) ⟨rfl,rfl,rfl,rfl,rfl,rfl,trivial⟩ ⟨oe rfl rfl,oe rfl rfl,oe rfl rfl,oe rfl rfl,oe rfl rfl,rfl⟩⟩
     ·refine bE (key:=4) 13 rfl rfl aA rfl ⟨rfl,rfl,rfl,rfl,trivial⟩ ?_;refine WO.two (i:=12) (j:=14) (by kernel_rfl) ?_ ?_
      ·refine cS 12 rfl (hMr) cQ ⟨a1 rfl,a1 rfl,rfl⟩ (kF (bX (aK k) (k.natAbs%k'.natAbs))) ?_
       refine eP (key:=5) 14 (by kernel_rfl) rfl rfl aA rfl ⟨rfl,rfl,rfl,rfl,trivial⟩ ?_
       refine aZ 15 (by kernel_rfl) rfl rfl aA rfl rfl rfl rfl ⟨rfl,rfl,rfl,rfl,trivial⟩ ?_
       refine dst 16 ?_;refine aH ?_
       exact⟨(),trivial,aP h0 [1,2,3,4,5] _ _ (by decide) ⟨rfl,rfl,rfl,rfl,rfl,rfl,trivial⟩ ⟨oe rfl rfl,oe rfl rfl,oe rfl rfl,oe rfl rfl,oe rfl rfl,rfl⟩⟩
      refine bE (key:=5) 14 rfl rfl aA rfl ⟨rfl,rfl,rfl,rfl,trivial⟩ ?_;refine aF 12 rfl (hMr) cQ ⟨a1 rfl,a1 rfl,rfl⟩ (kF (bX (aK k) (k.natAbs%k'.natAbs))) ?_
      refine aZ 15 (by kernel_rfl) rfl rfl aA rfl rfl rfl rfl ⟨rfl,rfl,rfl,rfl,trivial⟩ ?_
      refine dst 16 ?_;refine aH ?_
      exact⟨(),trivial,aP h0 [1,2,3,4,5] _ _ (by decide) ⟨rfl,rfl,rfl,rfl,rfl,rfl,trivial⟩ ⟨oe rfl rfl,oe rfl rfl,oe rfl rfl,oe rfl rfl,oe rfl rfl,rfl⟩⟩
     refine bE (key:=4) 14 rfl rfl aA rfl ⟨rfl,rfl,rfl,rfl,trivial⟩ ?_;refine WO.two (i:=12) (j:=13) (by kernel_rfl) ?_ ?_
     ·refine cS 12 rfl (hMr) cQ ⟨a1 rfl,a1 rfl,rfl⟩ (kF (bX (aK k) (k.natAbs%k'.natAbs))) ?_
      refine eP (key:=5) 13 (by kernel_rfl) rfl rfl aA rfl ⟨rfl,rfl,rfl,rfl,trivial⟩ ?_
      refine aZ 15 (by kernel_rfl) rfl rfl aA rfl rfl rfl rfl ⟨rfl,rfl,rfl,rfl,trivial⟩ ?_
      refine dst 16 ?_;refine aH ?_
      exact⟨(),trivial,aP h0 [1,2,3,5,4] _ _ (by decide) ⟨rfl,rfl,rfl,rfl,rfl,rfl,trivial⟩ ⟨oe rfl rfl,oe rfl rfl,oe rfl rfl,oe rfl rfl,oe rfl rfl,rfl⟩⟩
     refine bE (key:=5) 13 rfl rfl aA rfl ⟨rfl,rfl,rfl,rfl,trivial⟩ ?_;refine aF 12 rfl (hMr) cQ ⟨a1 rfl,a1 rfl,rfl⟩ (kF (bX (aK k) (k.natAbs%k'.natAbs))) ?_
     refine aZ 15 (by kernel_rfl) rfl rfl aA rfl rfl rfl rfl ⟨rfl,rfl,rfl,rfl,trivial⟩ ?_
     refine dst 16 ?_;refine aH ?_
     exact⟨(),trivial,aP h0 [1,2,3,5,4] _ _ (by decide) ⟨rfl,rfl,rfl,rfl,rfl,rfl,trivial⟩ ⟨oe rfl rfl,oe rfl rfl,oe rfl rfl,oe rfl rfl,oe rfl rfl,rfl⟩⟩
    ·refine bE (key:=4) 13 rfl rfl aA rfl ⟨rfl,rfl,rfl,rfl,trivial⟩ ?_;refine WO.two (i:=11) (j:=14) (by kernel_rfl) ?_ ?_
     ·refine cS 11 rfl (hLr) fG ⟨a1 rfl,rfl⟩ (.one (.t (sU false zr))) ?_;refine WO.two (i:=12) (j:=14) (by kernel_rfl) ?_ ?_
      ·refine cS 12 rfl (hMr) cQ ⟨a1 rfl,a1 rfl,rfl⟩ (kF (bX (aK k) (k.natAbs%k'.natAbs))) ?_
       refine eP (key:=5) 14 (by kernel_rfl) rfl rfl aA rfl ⟨rfl,rfl,rfl,rfl,trivial⟩ ?_
       refine aZ 15 (by kernel_rfl) rfl rfl aA rfl rfl rfl rfl ⟨rfl,rfl,rfl,rfl,trivial⟩ ?_
       refine dst 16 ?_;refine aH ?_
       exact⟨(),trivial,aP h0 [1,2,3,4,5] _ _ (by decide) ⟨rfl,rfl,rfl,rfl,rfl,rfl,trivial⟩ ⟨oe rfl rfl,oe rfl rfl,oe rfl rfl,oe rfl rfl,oe rfl rfl,rfl⟩⟩
      refine bE (key:=5) 14 rfl rfl aA rfl ⟨rfl,rfl,rfl,rfl,trivial⟩ ?_;refine aF 12 rfl (hMr) cQ ⟨a1 rfl,a1 rfl,rfl⟩ (kF (bX (aK k) (k.natAbs%k'.natAbs))) ?_
      refine aZ 15 (by kernel_rfl) rfl rfl aA rfl rfl rfl rfl ⟨rfl,rfl,rfl,rfl,trivial⟩ ?_
      refine dst 16 ?_;refine aH ?_
      exact⟨(),trivial,aP h0 [1,2,3,4,5] _ _ (by decide) ⟨rfl,rfl,rfl,rfl,rfl,rfl,trivial⟩ ⟨oe rfl rfl,oe rfl rfl,oe rfl rfl,oe rfl rfl,oe rfl rfl,rfl⟩⟩
     refine bE (key:=5) 14 rfl rfl aA rfl ⟨rfl,rfl,rfl,rfl,trivial⟩ ?_;refine aF 11 rfl (hLr) fG ⟨a1 rfl,rfl⟩ (.one (.t (sU false zr))) ?_
     refine aF 12 rfl (hMr) cQ ⟨a1 rfl,a1 rfl,rfl⟩ (kF (bX (aK k) (k.natAbs%k'.natAbs))) ?_
     refine aZ 15 (by kernel_rfl) rfl rfl aA rfl rfl rfl rfl ⟨rfl,rfl,rfl,rfl,trivial⟩ ?_
     refine dst 16 ?_;refine aH ?_
     exact⟨(),trivial,aP h0 [1,2,3,4,5] _ _ (by decide) ⟨rfl,rfl,rfl,rfl,rfl,rfl,trivial⟩ ⟨oe rfl rfl,oe rfl rfl,oe rfl rfl,oe rfl rfl,oe rfl rfl,rfl⟩⟩
    refine bE (key:=4) 14 rfl rfl aA rfl ⟨rfl,rfl,rfl,rfl,trivial⟩ ?_;refine WO.two (i:=11) (j:=13) (by kernel_rfl) ?_ ?_
    ·refine cS 11 rfl (hLr) fG ⟨a1 rfl,rfl⟩ (.one (.t (sU false zr))) ?_;refine WO.two (i:=12) (j:=13) (by kernel_rfl) ?_ ?_
     ·refine cS 12 rfl (hMr) cQ ⟨a1 rfl,a1 rfl,rfl⟩ (kF (bX (aK k) (k.natAbs%k'.natAbs))) ?_
      refine eP (key:=5) 13 (by kernel_rfl) rfl rfl aA rfl ⟨rfl,rfl,rfl,rfl,trivial⟩ ?_
      refine aZ 15 (by kernel_rfl) rfl rfl aA rfl rfl rfl rfl ⟨rfl,rfl,rfl,rfl,trivial⟩ ?_
      refine dst 16 ?_;refine aH ?_
      exact⟨(),trivial,aP h0 [1,2,3,5,4] _ _ (by decide) ⟨rfl,rfl,rfl,rfl,rfl,rfl,trivial⟩ ⟨oe rfl rfl,oe rfl rfl,oe rfl rfl,oe rfl rfl,oe rfl rfl,rfl⟩⟩
     refine bE (key:=5) 13 rfl rfl aA rfl ⟨rfl,rfl,rfl,rfl,trivial⟩ ?_;refine aF 12 rfl (hMr) cQ ⟨a1 rfl,a1 rfl,rfl⟩ (kF (bX (aK k) (k.natAbs%k'.natAbs))) ?_
     refine aZ 15 (by kernel_rfl) rfl rfl aA rfl rfl rfl rfl ⟨rfl,rfl,rfl,rfl,trivial⟩ ?_
     refine dst 16 ?_;refine aH ?_
     exact⟨(),trivial,aP h0 [1,2,3,5,4] _ _ (by decide) ⟨rfl,rfl,rfl,rfl,rfl,rfl,trivial⟩ ⟨oe rfl rfl,oe rfl rfl,oe rfl rfl,oe rfl rfl,oe rfl rfl,rfl⟩⟩
    refine bE (key:=5) 13 rfl rfl aA rfl ⟨rfl,rfl,rfl,rfl,trivial⟩ ?_;refine aF 11 rfl (hLr) fG ⟨a1 rfl,rfl⟩ (.one (.t (sU false zr))) ?_
    refine aF 12 rfl (hMr) cQ ⟨a1 rfl,a1 rfl,rfl⟩ (kF (bX (aK k) (k.natAbs%k'.natAbs))) ?_
    refine aZ 15 (by kernel_rfl) rfl rfl aA rfl rfl rfl rfl ⟨rfl,rfl,rfl,rfl,trivial⟩ ?_
    refine dst 16 ?_;refine aH ?_
    exact⟨(),trivial,aP h0 [1,2,3,5,4] _ _ (by decide) ⟨rfl,rfl,rfl,rfl,rfl,rfl,trivial⟩ ⟨oe rfl rfl,oe rfl rfl,oe rfl rfl,oe rfl rfl,oe rfl rfl,rfl⟩⟩
   ·refine bE (key:=4) 13 rfl rfl aA rfl ⟨rfl,rfl,rfl,rfl,trivial⟩ ?_;refine WO.two (i:=7) (j:=14) (by kernel_rfl) ?_ ?_
    ·refine cS 7 rfl (hMq) cQ ⟨a1 rfl,a1 rfl,rfl⟩ (kF (bX (aK k != aK k') (k.natAbs/k'.natAbs))) ?_;refine WO.two (i:=11) (j:=14) (by kernel_rfl) ?_ ?_
     ·refine cS 11 rfl (hLr) fG ⟨a1 rfl,rfl⟩ (.one (.t (sU false zr))) ?_;refine WO.two (i:=12) (j:=14) (by kernel_rfl) ?_ ?_
      ·refine cS 12 rfl (hMr) cQ ⟨a1 rfl,a1 rfl,rfl⟩ (kF (bX (aK k) (k.natAbs%k'.natAbs))) ?_
       refine eP (key:=5) 14 (by kernel_rfl) rfl rfl aA rfl ⟨rfl,rfl,rfl,rfl,trivial⟩ ?_
       refine aZ 15 (by kernel_rfl) rfl rfl aA rfl rfl rfl rfl ⟨rfl,rfl,rfl,rfl,trivial⟩ ?_
       refine dst 16 ?_;refine aH ?_
       exact⟨(),trivial,aP h0 [1,2,3,4,5] _ _ (by decide) ⟨rfl,rfl,rfl,rfl,rfl,rfl,trivial⟩ ⟨oe rfl rfl,oe rfl rfl,oe rfl rfl,oe rfl rfl,oe rfl rfl,rfl⟩⟩
      refine bE (key:=5) 14 rfl rfl aA rfl ⟨rfl,rfl,rfl,rfl,trivial⟩ ?_;refine aF 12 rfl (hMr) cQ ⟨a1 rfl,a1 rfl,rfl⟩ (kF (bX (aK k) (k.natAbs%k'.natAbs))) ?_
      refine aZ 15 (by kernel_rfl) rfl rfl aA rfl rfl rfl rfl ⟨rfl,rfl,rfl,rfl,trivial⟩ ?_
      refine dst 16 ?_;refine aH ?_
      exact⟨(),trivial,aP h0 [1,2,3,4,5] _ _ (by decide) ⟨rfl,rfl,rfl,rfl,rfl,rfl,trivial⟩ ⟨oe rfl rfl,oe rfl rfl,oe rfl rfl,oe rfl rfl,oe rfl rfl,rfl⟩⟩
     refine bE (key:=5) 14 rfl rfl aA rfl ⟨rfl,rfl,rfl,rfl,trivial⟩ ?_;refine aF 11 rfl (hLr) fG ⟨a1 rfl,rfl⟩ (.one (.t (sU false zr))) ?_
     refine aF 12 rfl (hMr) cQ ⟨a1 rfl,a1 rfl,rfl⟩ (kF (bX (aK k) (k.natAbs%k'.natAbs))) ?_
     refine aZ 15 (by kernel_rfl) rfl rfl aA rfl rfl rfl rfl ⟨rfl,rfl,rfl,rfl,trivial⟩ ?_
     refine dst 16 ?_;refine aH ?_
     exact⟨(),trivial,aP h0 [1,2,3,4,5] _ _ (by decide) ⟨rfl,rfl,rfl,rfl,rfl,rfl,trivial⟩ ⟨oe rfl rfl,oe rfl rfl,oe rfl rfl,oe rfl rfl,oe rfl rfl,rfl⟩⟩
    refine bE (key:=5) 14 rfl rfl aA rfl ⟨rfl,rfl,rfl,rfl,trivial⟩ ?_;refine aF 7 rfl (hMq) cQ ⟨a1 rfl,a1 rfl,rfl⟩ (kF (bX (aK k != aK k') (k.natAbs/k'.natAbs))) ?_
    refine aF 11 rfl (hLr) fG ⟨a1 rfl,rfl⟩ (.one (.t (sU false zr))) ?_;refine aF 12 rfl (hMr) cQ ⟨a1 rfl,a1 rfl,rfl⟩ (kF (bX (aK k) (k.natAbs%k'.natAbs))) ?_
    refine aZ 15 (by kernel_rfl) rfl rfl aA rfl rfl rfl rfl ⟨rfl,rfl,rfl,rfl,trivial⟩ ?_
    refine dst 16 ?_;refine aH ?_
    exact⟨(),trivial,aP h0 [1,2,3,4,5] _ _ (by decide) ⟨rfl,rfl,rfl,rfl,rfl,rfl,trivial⟩ ⟨oe rfl rfl,oe rfl rfl,oe rfl rfl,oe rfl rfl,oe rfl rfl,rfl⟩⟩
   refine bE (key:=4) 14 rfl rfl aA rfl ⟨rfl,rfl,rfl,rfl,trivial⟩ ?_;refine WO.two (i:=7) (j:=13) (by kernel_rfl) ?_ ?_
   ·refine cS 7 rfl (hMq) cQ ⟨a1 rfl,a1 rfl,rfl⟩ (kF (bX (aK k != aK k') (k.natAbs/k'.natAbs))) ?_;refine WO.two (i:=11) (j:=13) (by kernel_rfl) ?_ ?_
    ·refine cS 11 rfl (hLr) fG ⟨a1 rfl,rfl⟩ (.one (.t (sU false zr))) ?_;refine WO.two (i:=12) (j:=13) (by kernel_rfl) ?_ ?_
     ·refine cS 12 rfl (hMr) cQ ⟨a1 rfl,a1 rfl,rfl⟩ (kF (bX (aK k) (k.natAbs%k'.natAbs))) ?_
      refine eP (key:=5) 13 (by kernel_rfl) rfl rfl aA rfl ⟨rfl,rfl,rfl,rfl,trivial⟩ ?_
      refine aZ 15 (by kernel_rfl) rfl rfl aA rfl rfl rfl rfl ⟨rfl,rfl,rfl,rfl,trivial⟩ ?_
      refine dst 16 ?_;refine aH ?_
      exact⟨(),trivial,aP h0 [1,2,3,5,4] _ _ (by decide) ⟨rfl,rfl,rfl,rfl,rfl,rfl,trivial⟩ ⟨oe rfl rfl,oe rfl rfl,oe rfl rfl,oe rfl rfl,oe rfl rfl,rfl⟩⟩
     refine bE (key:=5) 13 rfl rfl aA rfl ⟨rfl,rfl,rfl,rfl,trivial⟩ ?_;refine aF 12 rfl (hMr) cQ ⟨a1 rfl,a1 rfl,rfl⟩ (kF (bX (aK k) (k.natAbs%k'.natAbs))) ?_
     refine aZ 15 (by kernel_rfl) rfl rfl aA rfl rfl rfl rfl ⟨rfl,rfl,rfl,rfl,trivial⟩ ?_
     refine dst 16 ?_;refine aH ?_
     exact⟨(),trivial,aP h0 [1,2,3,5,4] _ _ (by decide) ⟨rfl,rfl,rfl,rfl,rfl,rfl,trivial⟩ ⟨oe rfl rfl,oe rfl rfl,oe rfl rfl,oe rfl rfl,oe rfl rfl,rfl⟩⟩
    refine bE (key:=5) 13 rfl rfl aA rfl ⟨rfl,rfl,rfl,rfl,trivial⟩ ?_;refine aF 11 rfl (hLr) fG ⟨a1 rfl,rfl⟩ (.one (.t (sU false zr))) ?_
    refine aF 12 rfl (hMr) cQ ⟨a1 rfl,a1 rfl,rfl⟩ (kF (bX (aK k) (k.natAbs%k'.natAbs))) ?_
    refine aZ 15 (by kernel_rfl) rfl rfl aA rfl rfl rfl rfl ⟨rfl,rfl,rfl,rfl,trivial⟩ ?_
    refine dst 16 ?_;refine aH ?_
    exact⟨(),trivial,aP h0 [1,2,3,5,4] _ _ (by decide) ⟨rfl,rfl,rfl,rfl,rfl,rfl,trivial⟩ ⟨oe rfl rfl,oe rfl rfl,oe rfl rfl,oe rfl rfl,oe rfl rfl,rfl⟩⟩
   refine bE (key:=5) 13 rfl rfl aA rfl ⟨rfl,rfl,rfl,rfl,trivial⟩ ?_;refine aF 7 rfl (hMq) cQ ⟨a1 rfl,a1 rfl,rfl⟩ (kF (bX (aK k != aK k') (k.natAbs/k'.natAbs))) ?_
   refine aF 11 rfl (hLr) fG ⟨a1 rfl,rfl⟩ (.one (.t (sU false zr))) ?_;refine aF 12 rfl (hMr) cQ ⟨a1 rfl,a1 rfl,rfl⟩ (kF (bX (aK k) (k.natAbs%k'.natAbs))) ?_
   refine aZ 15 (by kernel_rfl) rfl rfl aA rfl rfl rfl rfl ⟨rfl,rfl,rfl,rfl,trivial⟩ ?_
   refine dst 16 ?_;refine aH ?_
   exact⟨(),trivial,aP h0 [1,2,3,5,4] _ _ (by decide) ⟨rfl,rfl,rfl,rfl,rfl,rfl,trivial⟩ ⟨oe rfl rfl,oe rfl rfl,oe rfl rfl,oe rfl rfl,oe rfl rfl,rfl⟩⟩
  ·refine bE (key:=4) 13 rfl rfl aA rfl ⟨rfl,rfl,rfl,rfl,trivial⟩ ?_;refine WO.two (i:=6) (j:=14) (by kernel_rfl) ?_ ?_
   ·refine cS 6 rfl (hLq) fG ⟨a1 rfl,rfl⟩ (.one (.t (sU false zq))) ?_;refine WO.two (i:=7) (j:=14) (by kernel_rfl) ?_ ?_
    ·refine cS 7 rfl (hMq) cQ ⟨a1 rfl,a1 rfl,rfl⟩ (kF (bX (aK k != aK k') (k.natAbs/k'.natAbs))) ?_;refine WO.two (i:=11) (j:=14) (by kernel_rfl) ?_ ?_
     ·refine cS 11 rfl (hLr) fG ⟨a1 rfl,rfl⟩ (.one (.t (sU false zr))) ?_;refine WO.two (i:=12) (j:=14) (by kernel_rfl) ?_ ?_
      ·refine cS 12 rfl (hMr) cQ ⟨a1 rfl,a1 rfl,rfl⟩ (kF (bX (aK k) (k.natAbs%k'.natAbs))) ?_
       refine eP (key:=5) 14 (by kernel_rfl) rfl rfl aA rfl ⟨rfl,rfl,rfl,rfl,trivial⟩ ?_
       refine aZ 15 (by kernel_rfl) rfl rfl aA rfl rfl rfl rfl ⟨rfl,rfl,rfl,rfl,trivial⟩ ?_
       refine dst 16 ?_;refine aH ?_
       exact⟨(),trivial,aP h0 [1,2,3,4,5] _ _ (by decide) ⟨rfl,rfl,rfl,rfl,rfl,rfl,trivial⟩ ⟨oe rfl rfl,oe rfl rfl,oe rfl rfl,oe rfl rfl,oe rfl rfl,rfl⟩⟩
      refine bE (key:=5) 14 rfl rfl aA rfl ⟨rfl,rfl,rfl,rfl,trivial⟩ ?_;refine aF 12 rfl (hMr) cQ ⟨a1 rfl,a1 rfl,rfl⟩ (kF (bX (aK k) (k.natAbs%k'.natAbs))) ?_
      refine aZ 15 (by kernel_rfl) rfl rfl aA rfl rfl rfl rfl ⟨rfl,rfl,rfl,rfl,trivial⟩ ?_
      refine dst 16 ?_;refine aH ?_
      exact⟨(),trivial,aP h0 [1,2,3,4,5] _ _ (by decide) ⟨rfl,rfl,rfl,rfl,rfl,rfl,trivial⟩ ⟨oe rfl rfl,oe rfl rfl,oe rfl rfl,oe rfl rfl,oe rfl rfl,rfl⟩⟩
     refine bE (key:=5) 14 rfl rfl aA rfl ⟨rfl,rfl,rfl,rfl,trivial⟩ ?_;refine aF 11 rfl (hLr) fG ⟨a1 rfl,rfl⟩ (.one (.t (sU false zr))) ?_
     refine aF 12 rfl (hMr) cQ ⟨a1 rfl,a1 rfl,rfl⟩ (kF (bX (aK k) (k.natAbs%k'.natAbs))) ?_
     refine aZ 15 (by kernel_rfl) rfl rfl aA rfl rfl rfl rfl ⟨rfl,rfl,rfl,rfl,trivial⟩ ?_
     refine dst 16 ?_;refine aH ?_
     exact⟨(),trivial,aP h0 [1,2,3,4,5] _ _ (by decide) ⟨rfl,rfl,rfl,rfl,rfl,rfl,trivial⟩ ⟨oe rfl rfl,oe rfl rfl,oe rfl rfl,oe rfl rfl,oe rfl rfl,rfl⟩⟩
    refine bE (key:=5) 14 rfl rfl aA rfl ⟨rfl,rfl,rfl,rfl,trivial⟩ ?_;refine aF 7 rfl (hMq) cQ ⟨a1 rfl,a1 rfl,rfl⟩ (kF (bX (aK k != aK k') (k.natAbs/k'.natAbs))) ?_
    refine aF 11 rfl (hLr) fG ⟨a1 rfl,rfl⟩ (.one (.t (sU false zr))) ?_;refine aF 12 rfl (hMr) cQ ⟨a1 rfl,a1 rfl,rfl⟩ (kF (bX (aK k) (k.natAbs%k'.natAbs))) ?_
    refine aZ 15 (by kernel_rfl) rfl rfl aA rfl rfl rfl rfl ⟨rfl,rfl,rfl,rfl,trivial⟩ ?_
    refine dst 16 ?_;refine aH ?_
    exact⟨(),trivial,aP h0 [1,2,3,4,5] _ _ (by decide) ⟨rfl,rfl,rfl,rfl,rfl,rfl,trivial⟩ ⟨oe rfl rfl,oe rfl rfl,oe rfl rfl,oe rfl rfl,oe rfl rfl,rfl⟩⟩
   refine bE (key:=5) 14 rfl rfl aA rfl ⟨rfl,rfl,rfl,rfl,trivial⟩ ?_;refine aF 6 rfl (hLq) fG ⟨a1 rfl,rfl⟩ (.one (.t (sU false zq))) ?_
   refine aF 7 rfl (hMq) cQ ⟨a1 rfl,a1 rfl,rfl⟩ (kF (bX (aK k != aK k') (k.natAbs/k'.natAbs))) ?_;refine aF 11 rfl (hLr) fG ⟨a1 rfl,rfl⟩ (.one (.t (sU false zr))) ?_
   refine aF 12 rfl (hMr) cQ ⟨a1 rfl,a1 rfl,rfl⟩ (kF (bX (aK k) (k.natAbs%k'.natAbs))) ?_;refine aZ 15 (by kernel_rfl) rfl rfl aA rfl rfl rfl rfl ⟨rfl,rfl,rfl,rfl,trivial⟩ ?_
   refine dst 16 ?_;refine aH ?_
   exact⟨(),trivial,aP h0 [1,2,3,4,5] _ _ (by decide) ⟨rfl,rfl,rfl,rfl,rfl,rfl,trivial⟩ ⟨oe rfl rfl,oe rfl rfl,oe rfl rfl,oe rfl rfl,oe rfl rfl,rfl⟩⟩
  refine bE (key:=4) 14 rfl rfl aA rfl ⟨rfl,rfl,rfl,rfl,trivial⟩ ?_;refine WO.two (i:=6) (j:=13) (by kernel_rfl) ?_ ?_
  ·refine cS 6 rfl (hLq) fG ⟨a1 rfl,rfl⟩ (.one (.t (sU false zq))) ?_;refine WO.two (i:=7) (j:=13) (by kernel_rfl) ?_ ?_
   ·refine cS 7 rfl (hMq) cQ ⟨a1 rfl,a1 rfl,rfl⟩ (kF (bX (aK k != aK k') (k.natAbs/k'.natAbs))) ?_;refine WO.two (i:=11) (j:=13) (by kernel_rfl) ?_ ?_
    ·refine cS 11 rfl (hLr) fG ⟨a1 rfl,rfl⟩ (.one (.t (sU false zr))) ?_;refine WO.two (i:=12) (j:=13) (by kernel_rfl) ?_ ?_
     ·refine cS 12 rfl (hMr) cQ ⟨a1 rfl,a1 rfl,rfl⟩ (kF (bX (aK k) (k.natAbs%k'.natAbs))) ?_
      refine eP (key:=5) 13 (by kernel_rfl) rfl rfl aA rfl ⟨rfl,rfl,rfl,rfl,trivial⟩ ?_
      refine aZ 15 (by kernel_rfl) rfl rfl aA rfl rfl rfl rfl ⟨rfl,rfl,rfl,rfl,trivial⟩ ?_
      refine dst 16 ?_;refine aH ?_
      exact⟨(),trivial,aP h0 [1,2,3,5,4] _ _ (by decide) ⟨rfl,rfl,rfl,rfl,rfl,rfl,trivial⟩ ⟨oe rfl rfl,oe rfl rfl,oe rfl rfl,oe rfl rfl,oe rfl rfl,rfl⟩⟩
     refine bE (key:=5) 13 rfl rfl aA rfl ⟨rfl,rfl,rfl,rfl,trivial⟩ ?_;refine aF 12 rfl (hMr) cQ ⟨a1 rfl,a1 rfl,rfl⟩ (kF (bX (aK k) (k.natAbs%k'.natAbs))) ?_
     refine aZ 15 (by kernel_rfl) rfl rfl aA rfl rfl rfl rfl ⟨rfl,rfl,rfl,rfl,trivial⟩ ?_
     refine dst 16 ?_;refine aH ?_
     exact⟨(),trivial,aP h0 [1,2,3,5,4] _ _ (by decide) ⟨rfl,rfl,rfl,rfl,rfl,rfl,trivial⟩ ⟨oe rfl rfl,oe rfl rfl,oe rfl rfl,oe rfl rfl,oe rfl rfl,rfl⟩⟩
    refine bE (key:=5) 13 rfl rfl aA rfl ⟨rfl,rfl,rfl,rfl,trivial⟩ ?_;refine aF 11 rfl (hLr) fG ⟨a1 rfl,rfl⟩ (.one (.t (sU false zr))) ?_
    refine aF 12 rfl (hMr) cQ ⟨a1 rfl,a1 rfl,rfl⟩ (kF (bX (aK k) (k.natAbs%k'.natAbs))) ?_
    refine aZ 15 (by kernel_rfl) rfl rfl aA rfl rfl rfl rfl ⟨rfl,rfl,rfl,rfl,trivial⟩ ?_
    refine dst 16 ?_;refine aH ?_
    exact⟨(),trivial,aP h0 [1,2,3,5,4] _ _ (by decide) ⟨rfl,rfl,rfl,rfl,rfl,rfl,trivial⟩ ⟨oe rfl rfl,oe rfl rfl,oe rfl rfl,oe rfl rfl,oe rfl rfl,rfl⟩⟩
   refine bE (key:=5) 13 rfl rfl aA rfl ⟨rfl,rfl,rfl,rfl,trivial⟩ ?_;refine aF 7 rfl (hMq) cQ ⟨a1 rfl,a1 rfl,rfl⟩ (kF (bX (aK k != aK k') (k.natAbs/k'.natAbs))) ?_
   refine aF 11 rfl (hLr) fG ⟨a1 rfl,rfl⟩ (.one (.t (sU false zr))) ?_;refine aF 12 rfl (hMr) cQ ⟨a1 rfl,a1 rfl,rfl⟩ (kF (bX (aK k) (k.natAbs%k'.natAbs))) ?_
   refine aZ 15 (by kernel_rfl) rfl rfl aA rfl rfl rfl rfl ⟨rfl,rfl,rfl,rfl,trivial⟩ ?_
   refine dst 16 ?_;refine aH ?_
   exact⟨(),trivial,aP h0 [1,2,3,5,4] _ _ (by decide) ⟨rfl,rfl,rfl,rfl,rfl,rfl,trivial⟩ ⟨oe rfl rfl,oe rfl rfl,oe rfl rfl,oe rfl rfl,oe rfl rfl,rfl⟩⟩
  refine bE (key:=5) 13 rfl rfl aA rfl ⟨rfl,rfl,rfl,rfl,trivial⟩ ?_;refine aF 6 rfl (hLq) fG ⟨a1 rfl,rfl⟩ (.one (.t (sU false zq))) ?_
  refine aF 7 rfl (hMq) cQ ⟨a1 rfl,a1 rfl,rfl⟩ (kF (bX (aK k != aK k') (k.natAbs/k'.natAbs))) ?_;refine aF 11 rfl (hLr) fG ⟨a1 rfl,rfl⟩ (.one (.t (sU false zr))) ?_
  refine aF 12 rfl (hMr) cQ ⟨a1 rfl,a1 rfl,rfl⟩ (kF (bX (aK k) (k.natAbs%k'.natAbs))) ?_;refine aZ 15 (by kernel_rfl) rfl rfl aA rfl rfl rfl rfl ⟨rfl,rfl,rfl,rfl,trivial⟩ ?_
  refine dst 16 ?_;refine aH ?_
  exact⟨(),trivial,aP h0 [1,2,3,5,4] _ _ (by decide) ⟨rfl,rfl,rfl,rfl,rfl,rfl,trivial⟩ ⟨oe rfl rfl,oe rfl rfl,oe rfl rfl,oe rfl rfl,oe rfl rfl,rfl⟩⟩
 have hlq:(dg 4294967296 (bX (aK k != aK k') (k.natAbs/k'.natAbs)).natAbs).length≤(dg 4294967296 (k).natAbs).length:=by rw[jR];exact jD (Nat.div_le_self _ _)
 have hlr:(dg 4294967296 (bX (aK k) (k.natAbs%k'.natAbs)).natAbs).length≤(dg 4294967296 (k).natAbs).length:=by rw[jR];exact jD (Nat.mod_le _ _)
 refine sq ?_;refine sq ?_;refine rd [0,1,2,3,4] (fun i=>[].contains i) mixed ?_
 refine aM 0 ?_;refine aF 1 rfl (oD (Zn.of (k:=bX (aK k) (k.natAbs%k'.natAbs)) (by omega))) Bk ⟨aB rfl,rfl⟩ (.one (tv (.int .i64 (bX (aK k) (k.natAbs%k'.natAbs)).sign))) ?_
 refine df 2 ?_;refine df 3 ?_;refine WD.split (t:=47) rfl rfl (fun h6=>?_) (fun h6=>?_)
 ·refine aM 4 ?_;refine aM 6 ?_
  refine aF 5 rfl (oD (Zn.of (k:=bX (aK k) (k.natAbs%k'.natAbs)) (by omega))) Bk ⟨aB rfl,rfl⟩ (.one (tv (.int .i64 (bX (aK k) (k.natAbs%k'.natAbs)).sign))) ?_
  refine aF 7 rfl (oD (Zn.of (k:=k') (by omega))) Bk ⟨aB rfl,rfl⟩ (.one (tv (.int .i64 (k').sign))) ?_
  refine df 8 ?_;refine df 9 ?_;refine aH ?_;refine bQ rfl (fun h7=>?_) (fun h7=>?_)
  ·refine sq ?_;refine rd [0,1,2,3,4] (fun i=>[2,3].contains i) mixed ?_
   refine aM 0 ?_;have hol:(dg 4294967296 (1:Int).natAbs).length≤1:=dD (by omega) (by decide)
   refine aF 1 rfl (rR (n:=1) (by omega) (by omega)) wU ⟨a1 rfl,rfl⟩ (kF (1:Int)) ?_
   refine aF 2 rfl (KJ (Zn.of (k:=bX (aK k != aK k') (k.natAbs/k'.natAbs)) (by omega)) (Zn.of (k:=(1:Int)) (by omega))) OP ⟨aB rfl,aB rfl,rfl⟩ (kF (bX (aK k != aK k') (k.natAbs/k'.natAbs)-(1:Int))) ?_
   refine dst 3 ?_;refine aH ?_;refine rl ?_;refine ld ?_;refine ld ?_
   refine ca (tC (Zn.of (k:=bX (aK k) (k.natAbs%k'.natAbs)) (by omega)) (Zn.of (k:=k') (by omega))) Fd ⟨aB rfl,aB rfl,rfl⟩ (kF (bX (aK k) (k.natAbs%k'.natAbs)+k')) ?_
   refine st ?_;refine nl ?_;refine sq ?_;refine rd [0,2,3,4] (fun i=>[3,4].contains i) mixed ?_
   refine aM 0 ?_;refine aM 1 ?_;refine aZ 2 (by kernel_rfl) rfl rfl aA rfl rfl rfl rfl ⟨rfl,rfl,rfl,rfl,trivial⟩ ?_
   refine dst 3 ?_;refine cT 4 (by kernel_rfl) rfl rfl aA rfl (by trivial) ?_ (fun h=>by first | rfl | cases h)
   refine aH ?_;refine rt ?_;obtain⟨hd1,hd2⟩:=FQ (a:=k) (b:=k') hkn rfl rfl h6 h7
   exact en (.inl rfl) rfl (Bj (.cons (.agg (.cons (.id rfl) (.cons (.id rfl) .nil))) (.cons (.agg (.cons (.id rfl) (.cons (.id rfl) .nil))) (.cons (bH _) .nil)))) (by decide) (fun h=>by cases h) (by rw[if_neg hkn,if_neg hkn,if_neg hkn,←hd1,←hd2];rfl)
  refine sk ?_;refine sq ?_;refine rd [0,2,3,4] (fun i=>[3,4].contains i) mixed ?_
  refine aM 0 ?_;refine aM 1 ?_;refine aZ 2 (by kernel_rfl) rfl rfl aA rfl rfl rfl rfl ⟨rfl,rfl,rfl,rfl,trivial⟩ ?_
  refine dst 3 ?_;refine cT 4 (by kernel_rfl) rfl rfl aA rfl (by trivial) ?_ (fun h=>by first | rfl | cases h)
  refine aH ?_;refine rt ?_;obtain⟨hd1,hd2⟩:=Pd (a:=k) (b:=k') hkn rfl rfl (.inr (Decidable.byContradiction h7))
  exact en (.inl rfl) rfl (Bj (.cons (.agg (.cons (.id rfl) (.cons (.id rfl) .nil))) (.cons (.agg (.cons (.id rfl) (.cons (.id rfl) .nil))) (.cons (bH _) .nil)))) (by decide) (fun h=>by cases h) (by rw[if_neg hkn,if_neg hkn,if_neg hkn,←hd1,←hd2];rfl)
 refine aI 4 ?_;refine aI 6 ?_;refine aI 5 ?_;refine aI 7 ?_;refine aI 8 ?_;refine df 9 ?_;refine aH ?_;refine iE rfl ?_;refine sk ?_;refine sq ?_
 refine rd [0,2,3,4] (fun i=>[3,4].contains i) mixed ?_
 refine aM 0 ?_;refine aM 1 ?_;refine aZ 2 (by kernel_rfl) rfl rfl aA rfl rfl rfl rfl ⟨rfl,rfl,rfl,rfl,trivial⟩ ?_
 refine dst 3 ?_;refine cT 4 (by kernel_rfl) rfl rfl aA rfl (by trivial) ?_ (fun h=>by first | rfl | cases h)
 refine aH ?_;refine rt ?_;obtain⟨hd1,hd2⟩:=Pd (a:=k) (b:=k') hkn rfl rfl (.inl (Decidable.byContradiction h6))
 exact en (.inl rfl) rfl (Bj (.cons (.agg (.cons (.id rfl) (.cons (.id rfl) .nil))) (.cons (.agg (.cons (.id rfl) (.cons (.id rfl) .nil))) (.cons (bH _) .nil)))) (by decide) (fun h=>by cases h) (by rw[if_neg hkn,if_neg hkn,if_neg hkn,←hd1,←hd2];rfl)
theorem FS {a b:Zi}{k k':Int}(ha:Zn a k) (hb:Zn b k'):aE true Tryz.prog 134 [] [gF a,gF b] (aQ (.one (tv (.bool (decide (k=k')))))):=by
 refine bO Tryz.func134 rfl Tryz.ntmps134 rfl aA rfl fun N w c0 h0=>?_
 refine sq ?_;refine rl ?_;refine bx 0 ?_;refine bx 1 ?_;refine o1 ?_;refine nl ?_;refine sq ?_;refine rl ?_;refine ld ?_;refine ld ?_
 refine ca (Vn ha hb) CV ⟨aB rfl,aB rfl,rfl⟩ (.one (tv (.int .i64 ((k)-(k')).sign))) ?_;refine o1 ?_;refine o1 ?_;refine nl ?_;refine rt ?_
 exact en (.inl rfl) rfl (aN (bH _)) (by decide) (fun _=>trivial) (congrArg (fun z=>FV.one (tv (.bool z))) (Zm _ _))
theorem uX {a:Fr4}{p:Rat}(ha:Qn a p):aE true Tryz.prog 90 [] [qF a] (aQ (.one (tv (.bool (bC a.s a.x a.t a.y))))):=by
 refine bO Tryz.func90 rfl Tryz.ntmps90 rfl aA rfl fun N w c0 h0=>?_
 have hzl:=(Ki ha).len
 have hzd:=(wV ha).len
 refine sq ?_;refine rl ?_;refine bx 0 ?_;refine o1 ?_;refine nl ?_;refine sq ?_;refine rl ?_;refine o1 ?_;refine ld ?_
 refine ca (Bi (Ki ha)) Se ⟨aB rfl,rfl⟩ (.one (tv (.bool (dH a.s a.x)))) ?_;refine o1 ?_;refine WL.splitb (t:=6) rfl (fun h1=>?_) (fun h1=>?_)
 ·refine o1 ?_;refine ld ?_;refine ca (Bi (wV ha)) Se ⟨aB rfl,rfl⟩ (.one (tv (.bool (dH a.t a.y)))) ?_;refine o1 ?_;refine o1 ?_
  refine WL.splitb (t:=11) rfl (fun h2=>?_) (fun h2=>?_)
  ·refine o1 ?_;refine ld ?_;refine ca (oD (wV ha)) Bk ⟨aB rfl,rfl⟩ (.one (tv (.int .i64 ((eG a.t a.y)).sign))) ?_;(iterate 3 refine o1 ?_)
   refine WL.split (t:=17) rfl (fun h3=>?_) (fun h3=>?_)
   ·refine o1 ?_;refine ld ?_;refine o1 ?_;refine ld ?_;have s3:0<eG a.t a.y:=Int.sign_pos_iff.1 h3
    have hn4:=Fe (k:=(eG a.s a.x)) (k':=(eG a.t a.y)) (by omega)
    refine ca (Kh (Ki ha) (wV ha)) Si ⟨aB rfl,aB rfl,rfl⟩ (kF (((Int.gcd (eG a.s a.x) (eG a.t a.y):Nat):Int))) ?_;have hn5:=oY (n:=(1:Int)) (by omega) (by omega)
    refine ca (rR (n:=(1:Int)) (by omega) (by omega)) wU ⟨a1 rfl,rfl⟩ (kF ((1:Int))) ?_
    refine ca (FS (Zn.of (k:=((Int.gcd (eG a.s a.x) (eG a.t a.y):Nat):Int)) (by omega)) (Zn.of (k:=(1:Int)) (by omega))) OQ ⟨aB rfl,aB rfl,rfl⟩ (.one (tv (.bool (decide ((((Int.gcd (eG a.s a.x) (eG a.t a.y):Nat):Int))=((1:Int))))))) ?_
    refine o1 ?_;refine o1 ?_;refine nl ?_;refine rt ?_
    exact en (.inl rfl) rfl (aN (bH _)) (by decide) (fun _=>trivial) (congrArg (fun z=>FV.one (tv (.bool z))) (by simp[bC,h1,h2,s3,Pe]))
   (iterate 7 refine dV ?_);refine o1 ?_;refine o1 ?_;refine nl ?_;refine rt ?_;have s3:¬(0<eG a.t a.y):=fun h=>h3 (Int.sign_pos_iff.2 h)
   exact en (.inl rfl) rfl (aN (bH _)) (by decide) (fun _=>trivial) (congrArg (fun z=>FV.one (tv (.bool z))) (by simp[bC,h1,h2,s3,Pe]))
  (iterate 4 refine dV ?_);refine o1 ?_;refine o1 ?_;(iterate 7 refine dV ?_);refine o1 ?_;refine o1 ?_;refine nl ?_;refine rt ?_
  exact en (.inl rfl) rfl (aN (bH _)) (by decide) (fun _=>trivial) (congrArg (fun z=>FV.one (tv (.bool z))) (by simp[bC,h1,h2]))
 (iterate 3 refine dV ?_);refine o1 ?_;refine o1 ?_;(iterate 4 refine dV ?_);refine o1 ?_;refine o1 ?_;(iterate 7 refine dV ?_);refine o1 ?_;refine o1 ?_;refine nl ?_;refine rt ?_
 exact en (.inl rfl) rfl (aN (bH _)) (by decide) (fun _=>trivial) (congrArg (fun z=>FV.one (tv (.bool z))) (by simp[bC,h1]))
theorem Pf:aE false Tryz.prog 107 [] [] (aQ (qF (.of 0))):=by
 refine bO Tryz.func107 rfl Tryz.ntmps107 rfl aA rfl fun N w c0 h0=>?_
 refine sq ?_;refine rl ?_;refine al 0 ?_;refine nl ?_;refine sq ?_;refine rl ?_;have hn1:=oY (n:=(0:Int)) (by omega) (by omega)
 refine ca (rR (n:=(0:Int)) (by omega) (by omega)) wU ⟨a1 rfl,rfl⟩ (kF ((0:Int))) ?_
 have hn2:=oY (n:=(1:Int)) (by omega) (by omega)
 refine ca (rR (n:=(1:Int)) (by omega) (by omega)) wU ⟨a1 rfl,rfl⟩ (kF ((1:Int))) ?_
 refine o1 ?_;refine st ?_;refine nl ?_;refine rt ?_
 exact en (.inl rfl) rfl (aN (.agg (.cons (.id rfl) (.cons (.id rfl) (.cons (.id rfl) (.cons (.id rfl) .nil)))))) (by decide) (fun h=>by cases h) (yR (q:=0) rfl rfl)
theorem Kj {n:Int}(h1:-9223372036854775808≤n) (h2:n≤9223372036854775807):aE false Tryz.prog 29 [] [.one (tv (.int .i64 n))] (aQ (qF (.of (n:Rat)))):=by
 refine bO Tryz.func29 rfl Tryz.ntmps29 rfl aA rfl fun N w c0 h0=>?_
 refine sq ?_;refine rl ?_;refine al 0 ?_;refine nl ?_;refine sq ?_;refine rl ?_;refine o1 ?_;have hn1:=oY (n:=n) (by omega) (by omega)
 refine ca (rR (n:=n) (by omega) (by omega)) wU ⟨a1 rfl,rfl⟩ (kF (n)) ?_
 have hn2:=oY (n:=(1:Int)) (by omega) (by omega)
 refine ca (rR (n:=(1:Int)) (by omega) (by omega)) wU ⟨a1 rfl,rfl⟩ (kF ((1:Int))) ?_
 refine o1 ?_;refine st ?_;refine nl ?_;refine rt ?_
 exact en (.inl rfl) rfl (aN (.agg (.cons (.id rfl) (.cons (.id rfl) (.cons (.id rfl) (.cons (.id rfl) .nil)))))) (by decide) (fun h=>by cases h) (yR (q:=(n:Rat)) (Rat.num_intCast n) (by rw[Rat.den_intCast];rfl))
theorem jZ {a:Fr4}{p:Rat}(ha:Qn a p):aE false Tryz.prog 63 [] [qF a] (aQ (qF (.of p))):=by
 refine bO Tryz.func63 rfl Tryz.ntmps63 rfl aA rfl fun N w c0 h0=>?_
 refine sq ?_;refine rl ?_;refine bx 0 ?_;refine al 1 ?_;refine nl ?_;refine sq ?_;refine sq ?_;refine rl ?_;refine ld ?_
 refine ca (uX ha) Sj ⟨aB rfl,rfl⟩ (.one (tv (.bool (bC a.s a.x a.t a.y)))) ?_;refine WL.splitb (t:=4) rfl (fun h1=>?_) (fun h1=>?_)
 ·refine o1 ?_;refine nl ?_;refine iE rfl ?_;refine sk ?_;refine sq ?_;refine rl ?_;refine ld ?_;refine st ?_;refine nl ?_;refine rt ?_
  exact en (.inl rfl) rfl (aN (.agg (.cons (.id rfl) (.cons (.id rfl) (.cons (.id rfl) (.cons (.id rfl) .nil)))))) (by decide) (fun h=>by cases h) (by rw[ha.right h1];rfl)
 refine o1 ?_;refine nl ?_;refine iF rfl ?_;refine sq ?_;refine rl ?_;refine ca (Pf) CZ rfl (qF (.of 0)) ?_;refine st ?_;refine nl ?_;refine rt ?_
 exact en (.inl rfl) rfl (aN (.agg (.cons (.id rfl) (.cons (.id rfl) (.cons (.id rfl) (.cons (.id rfl) .nil)))))) (by decide) (fun h=>by cases h) (by rw[ha.wrong h1];rfl)
theorem rT {a b:Zi}{k k':Int}(ha:Zn a k) (hb:Zn b k') (h0:k'≠0):aE false Tryz.prog 138 [] [gF a,gF b] (aQ (.tup [kF (k.fdiv k'),kF (k.fmod k'),.one (tv (.int .i64 0))])):=by
 have h:=Vr ha hb
 rwa[if_neg h0,if_neg h0,if_neg h0]at h
theorem kZ {a b:Zi}{k k':Int}(ha:Zn a k) (hb:Zn b k'):aE false Tryz.prog 95 [] [gF a,gF b] (aQ (.tup [qF (.of (Rat.divInt k k')),.one (tv (.int .i64 (if k'=0 then 20 else 0)))])):=by
 refine bO Tryz.func95 rfl Tryz.ntmps95 rfl aA rfl fun N w c0 h0=>?_
 have hkl:=ha.len
 have hkl':=hb.len
 refine sq ?_;refine rl ?_;refine bx 0 ?_;refine bx 1 ?_;refine al 2 ?_;refine o1 ?_;refine nl ?_;refine sq ?_;refine sq ?_;refine rl ?_;refine ld ?_
 refine ca (oD hb) Bk ⟨aB rfl,rfl⟩ (.one (tv (.int .i64 (k').sign))) ?_;refine o1 ?_;refine nl ?_;refine bQ rfl (fun h1=>?_) (fun h1=>?_)
 ·refine sq ?_;refine rl ?_;refine ca (Pf) CZ rfl (qF (.of 0)) ?_;refine st ?_;refine o1 ?_;refine nl ?_;refine rt ?_;have hk0:k'=0:=Int.sign_eq_zero_iff_zero.1 h1
  have hd0:Rat.divInt k k'=0:=by rw[hk0];simp
  exact en (.inl rfl) rfl (wM (.cons (.agg (.cons (.id rfl) (.cons (.id rfl) (.cons (.id rfl) (.cons (.id rfl) .nil))))) (.cons (bH _) .nil))) (by decide) (fun h=>by cases h) (by rw[if_pos hk0,hd0];rfl)
 refine sk ?_;refine sq ?_;refine sq ?_;have hk0:k'≠0:=fun h9=>h1 (by rw[h9];rfl)
 refine rl ?_;refine ld ?_;refine ca (oD hb) Bk ⟨aB rfl,rfl⟩ (.one (tv (.int .i64 (k').sign))) ?_;refine o1 ?_;refine nl ?_;refine bQ rfl (fun h2=>?_) (fun h2=>?_)
 ·refine sq ?_;refine rl ?_;refine ld ?_;have hn3:=kX (k)
  refine ca (Di ha) Sf ⟨aB rfl,rfl⟩ (kF (-k)) ?_;refine st ?_;refine nl ?_;refine rl ?_;refine ld ?_;have hn4:=kX (k')
  refine ca (Di hb) Sf ⟨aB rfl,rfl⟩ (kF (-k')) ?_;refine st ?_;refine nl ?_;refine sq ?_;have hkn:k'<0:=Int.sign_neg_iff.1 h2
  refine rl ?_;refine ld ?_;refine ld ?_;have hn5:=Fe (k:=-k) (k':=-k') (by omega)
  refine ca (Kh (Zn.of (k:=-k) (by omega)) (Zn.of (k:=-k') (by omega))) Si ⟨aB rfl,aB rfl,rfl⟩ (kF (((Int.gcd (-k) (-k'):Nat):Int))) ?_
  refine al 3 ?_;refine st ?_;refine nl ?_;refine sq ?_;refine rl ?_;refine ld ?_;refine ld ?_
  refine ca (rT (Zn.of (k:=-k) (by omega)) (Zn.of (k:=((Int.gcd (-k) (-k'):Nat):Int)) (by omega)) (Dn (by omega))) If ⟨aB rfl,aB rfl,rfl⟩ (.tup [kF ((-k).fdiv ((Int.gcd (-k) (-k'):Nat):Int)),kF ((-k).fmod ((Int.gcd (-k) (-k'):Nat):Int)),.one (tv (.int .i64 0))]) ?_
  (iterate 4 refine o1 ?_);refine al 4 ?_;refine al 5 ?_;refine st ?_;refine st ?_;refine o1 ?_;refine nl ?_;refine sq ?_;refine rl ?_;refine ld ?_;refine ld ?_
  refine ca (rT (Zn.of (k:=-k') (by omega)) (Zn.of (k:=((Int.gcd (-k) (-k'):Nat):Int)) (by omega)) (Dn (by omega))) If ⟨aB rfl,aB rfl,rfl⟩ (.tup [kF ((-k').fdiv ((Int.gcd (-k) (-k'):Nat):Int)),kF ((-k').fmod ((Int.gcd (-k) (-k'):Nat):Int)),.one (tv (.int .i64 0))]) ?_
  (iterate 4 refine o1 ?_);refine al 6 ?_;refine al 7 ?_;refine st ?_;refine st ?_;refine o1 ?_;refine nl ?_;refine sq ?_;refine rl ?_;refine ld ?_;refine ld ?_;refine o1 ?_
  refine st ?_;refine o1 ?_;refine nl ?_;refine rt ?_;obtain⟨hp9,hn9⟩:=Kk (a:=k) hk0
  obtain⟨e1,e2⟩:=hn9 hkn
  exact en (.inl rfl) rfl (wM (.cons (.agg (.cons (.id rfl) (.cons (.id rfl) (.cons (.id rfl) (.cons (.id rfl) .nil))))) (.cons (bH _) .nil))) (by decide) (fun h=>by cases h) (by rw[if_neg hk0];exact congrArg (fun f=>FV.tup [f,.one (tv (.int .i64 0))]) (yR e1 e2))
 refine sk ?_;refine sq ?_;have hkp:0<k':=by have h9:=mt Int.sign_neg_iff.2 h2;omega
 refine rl ?_;refine ld ?_;refine ld ?_;have hn6:=Fe (k:=k) (k':=k') (by omega)
 refine ca (Kh ha hb) Si ⟨aB rfl,aB rfl,rfl⟩ (kF (((Int.gcd k k':Nat):Int))) ?_;refine al 3 ?_;refine st ?_;refine nl ?_;refine sq ?_;refine rl ?_;refine ld ?_;refine ld ?_
 refine ca (rT ha (Zn.of (k:=((Int.gcd k k':Nat):Int)) (by omega)) (Dn (by omega))) If ⟨aB rfl,aB rfl,rfl⟩ (.tup [kF ((k).fdiv ((Int.gcd k k':Nat):Int)),kF ((k).fmod ((Int.gcd k k':Nat):Int)),.one (tv (.int .i64 0))]) ?_
 (iterate 4 refine o1 ?_);refine al 4 ?_;refine al 5 ?_;refine st ?_;refine st ?_;refine o1 ?_;refine nl ?_;refine sq ?_;refine rl ?_;refine ld ?_;refine ld ?_
 refine ca (rT hb (Zn.of (k:=((Int.gcd k k':Nat):Int)) (by omega)) (Dn (by omega))) If ⟨aB rfl,aB rfl,rfl⟩ (.tup [kF ((k').fdiv ((Int.gcd k k':Nat):Int)),kF ((k').fmod ((Int.gcd k k':Nat):Int)),.one (tv (.int .i64 0))]) ?_
 (iterate 4 refine o1 ?_);refine al 6 ?_;refine al 7 ?_;refine st ?_;refine st ?_;refine o1 ?_;refine nl ?_;refine sq ?_;refine rl ?_;refine ld ?_;refine ld ?_;refine o1 ?_
 refine st ?_;refine o1 ?_;refine nl ?_;refine rt ?_;obtain⟨hp9,hn9⟩:=Kk (a:=k) hk0
 obtain⟨e1,e2⟩:=hp9 hkp
 exact en (.inl rfl) rfl (wM (.cons (.agg (.cons (.id rfl) (.cons (.id rfl) (.cons (.id rfl) (.cons (.id rfl) .nil))))) (.cons (bH _) .nil))) (by decide) (fun h=>by cases h) (by rw[if_neg hk0];exact congrArg (fun f=>FV.tup [f,.one (tv (.int .i64 0))]) (yR e1 e2))
theorem OT {n d:Int}(h1:-9223372036854775808≤n) (h2:n≤9223372036854775807) (h3:-9223372036854775808≤d) (h4:d≤9223372036854775807):aE false Tryz.prog 67 [] [.one (tv (.int .i64 n)),.one (tv (.int .i64 d))] (aQ (.tup [qF (.of (Rat.divInt n d)),.one (tv (.int .i64 (if d=0 then 20 else 0)))])):=by
 refine bO Tryz.func67 rfl Tryz.ntmps67 rfl aA rfl fun N w c0 h0=>?_
 refine sq ?_;refine rl ?_;refine al 0 ?_;refine o1 ?_;refine nl ?_;refine sq ?_;refine rl ?_;refine o1 ?_;have hn1:=oY (n:=n) (by omega) (by omega)
 refine ca (rR (n:=n) (by omega) (by omega)) wU ⟨a1 rfl,rfl⟩ (kF (n)) ?_
 refine o1 ?_;have hn2:=oY (n:=d) (by omega) (by omega)
 refine ca (rR (n:=d) (by omega) (by omega)) wU ⟨a1 rfl,rfl⟩ (kF (d)) ?_
 refine ca (kZ (Zn.of (k:=n) (by omega)) (Zn.of (k:=d) (by omega))) qR ⟨aB rfl,aB rfl,rfl⟩ (.tup [qF (.of (Rat.divInt (n) (d))),.one (tv (.int .i64 (if(d)=0 then 20 else 0)))]) ?_
 refine o1 ?_;refine o1 ?_;refine st ?_;refine o1 ?_;refine nl ?_;refine rt ?_
 exact en (.inl rfl) rfl (wM (.cons (.agg (.cons (.id rfl) (.cons (.id rfl) (.cons (.id rfl) (.cons (.id rfl) .nil))))) (.cons (bH _) .nil))) (by decide) (fun h=>by cases h) rfl
theorem wW {a:Fr4}{p:Rat}(ha:Qn a p):aE false Tryz.prog 44 [] [qF a] (aQ (qF (.of (-p)))):=by
 refine bO Tryz.func44 rfl Tryz.ntmps44 rfl aA rfl fun N w c0 h0=>?_
 refine sq ?_;refine rl ?_;refine bx 0 ?_;refine al 1 ?_;refine nl ?_;refine sq ?_;refine rl ?_;refine ld ?_;refine ca (jZ ha) uY ⟨aB rfl,rfl⟩ (qF (.of p)) ?_;refine st ?_
 refine nl ?_;refine sq ?_;refine rd [0,1] (fun i=>[6].contains i) mixed ?_
 refine dv 0 ?_;refine aM 1 ?_;refine dv 3 ?_;refine aM 4 ?_;refine aF 2 rfl (Di (gM ha.sz)) Sf ⟨aB rfl,rfl⟩ (kF (-p.num)) ?_;refine df 5 ?_;refine dst 6 ?_;refine aH ?_
 refine rt ?_
 exact en (.inl rfl) rfl (aN (.agg (.cons (.id rfl) (.cons (.id rfl) (.cons (.id rfl) (.cons (.id rfl) .nil)))))) (by decide) (fun h=>by cases h) (by unfold qF Fr4.of;rw[Rat.neg_num,Rat.neg_den];rfl)
theorem jS {a b:Fr4}{p q:Rat}(ha:Qn a p) (hb:Qn b q) (hs:Sz 17179869184 p) (hs':Sz 17179869184 q):aE false Tryz.prog 52 [] [qF a,qF b] (aQ (qF (.of (p+q)))):=by
 refine bO Tryz.func52 rfl Tryz.ntmps52 rfl aA rfl fun N w c0 h0=>?_
 have hs1:=hs.1
 have hs2:(dg 4294967296 ((p.den:Int)).natAbs).length≤17179869184:=hs.2
 have hs3:=hs'.1
 have hs4:(dg 4294967296 ((q.den:Int)).natAbs).length≤17179869184:=hs'.2
 refine sq ?_;refine rl ?_;refine bx 0 ?_;refine bx 1 ?_;refine al 2 ?_;refine nl ?_;refine sq ?_;refine rl ?_;refine ld ?_;refine ca (jZ ha) uY ⟨aB rfl,rfl⟩ (qF (.of p)) ?_
 refine st ?_;refine nl ?_;refine sq ?_;refine rl ?_;refine ld ?_;refine ca (jZ hb) uY ⟨aB rfl,rfl⟩ (qF (.of q)) ?_;refine st ?_;refine nl ?_
 refine md (γ:=Unit) (fun _=>cG [(4,.one (.pt 0 0)),(5,.one (.pt 1 0))]) (fun _=>([⟨49,0,[tv (.bool false),tv (.slice none 0 0),tv (.bool false),tv (.slice none 0 0)]⟩,⟨49,0,((Fr4.of (Rat.divInt (p.num*(q.den:Int)+q.num*(p.den:Int)) ((p.den:Int)*(q.den:Int)))).tr false).map .t⟩]:List Ob).map some) (fun _=>True) ?_ fun _ _=>?_
 ·refine rd [0,1,2] (fun i=>[22].contains i) mixed ?_
  refine dv 0 ?_;refine aM 1 ?_;refine dv 2 ?_;refine aM 3 ?_;refine dv 5 ?_;refine aM 6 ?_;refine dv 7 ?_;refine aM 8 ?_;refine dv 11 ?_;refine aM 12 ?_;refine dv 13 ?_
  refine aM 14 ?_;refine WO.two (i:=4) (j:=20) (by kernel_rfl) ?_ ?_
  ·have hn1:=dS (p.num) ((q.den:Int))
   refine cS 4 rfl (iL (gM hs) (eB hs')) mO ⟨aB rfl,aB rfl,rfl⟩ (kF (p.num*(q.den:Int))) ?_;refine WO.two (i:=9) (j:=20) (by kernel_rfl) ?_ ?_
   ·have hn2:=dS (q.num) ((p.den:Int))
    refine cS 9 rfl (iL (gM hs') (eB hs)) mO ⟨aB rfl,aB rfl,rfl⟩ (kF (q.num*(p.den:Int))) ?_;refine WO.two (i:=10) (j:=20) (by kernel_rfl) ?_ ?_
    ·have hn3:=lB (p.num*(q.den:Int)) (q.num*(p.den:Int))
     refine cS 10 rfl (tC (Zn.of (k:=p.num*(q.den:Int)) (by omega)) (Zn.of (k:=q.num*(p.den:Int)) (by omega))) Fd ⟨aB rfl,aB rfl,rfl⟩ (kF (p.num*(q.den:Int)+q.num*(p.den:Int))) ?_
     refine WO.two (i:=15) (j:=20) (by kernel_rfl) ?_ ?_
     ·have hn4:=dS ((p.den:Int)) ((q.den:Int))
      refine cS 15 rfl (iL (eB hs) (eB hs')) mO ⟨aB rfl,aB rfl,rfl⟩ (kF ((p.den:Int)*(q.den:Int))) ?_;refine WO.two (i:=16) (j:=20) (by kernel_rfl) ?_ ?_
      ·refine cS 16 rfl (kZ (Zn.of (k:=p.num*(q.den:Int)+q.num*(p.den:Int)) (by omega)) (Zn.of (k:=(p.den:Int)*(q.den:Int)) (by omega))) qR ⟨aB rfl,aB rfl,rfl⟩ (.tup [qF (.of (Rat.divInt (p.num*(q.den:Int)+q.num*(p.den:Int)) ((p.den:Int)*(q.den:Int)))),.one (tv (.int .i64 (if((p.den:Int)*(q.den:Int))=0 then 20 else 0)))]) ?_
       refine df 17 ?_;refine df 18 ?_;refine df 19 ?_;refine eP (key:=3) 20 (by kernel_rfl) rfl rfl aA rfl ⟨rfl,rfl,rfl,trivial⟩ ?_
       refine aZ 21 (by kernel_rfl) rfl rfl aA rfl rfl rfl rfl ⟨rfl,rfl,rfl,trivial⟩ ?_
       refine cT 22 (by kernel_rfl) rfl rfl aA rfl (by trivial) ?_ (fun h=>by first | rfl | cases h)
       refine aH ?_;exact⟨(),trivial,aP h0 [2,3] _ _ (by decide) ⟨rfl,rfl,trivial⟩ ⟨oe rfl rfl,oe rfl rfl,rfl⟩⟩
      refine bE (key:=3) 20 rfl rfl aA rfl ⟨rfl,rfl,rfl,trivial⟩ ?_
      refine aF 16 rfl (kZ (Zn.of (k:=p.num*(q.den:Int)+q.num*(p.den:Int)) (by omega)) (Zn.of (k:=(p.den:Int)*(q.den:Int)) (by omega))) qR ⟨aB rfl,aB rfl,rfl⟩ (.tup [qF (.of (Rat.divInt (p.num*(q.den:Int)+q.num*(p.den:Int)) ((p.den:Int)*(q.den:Int)))),.one (tv (.int .i64 (if((p.den:Int)*(q.den:Int))=0 then 20 else 0)))]) ?_
      refine df 17 ?_;refine df 18 ?_;refine df 19 ?_;refine aZ 21 (by kernel_rfl) rfl rfl aA rfl rfl rfl rfl ⟨rfl,rfl,rfl,trivial⟩ ?_
      refine cT 22 (by kernel_rfl) rfl rfl aA rfl (by trivial) ?_ (fun h=>by first | rfl | cases h)
      refine aH ?_;exact⟨(),trivial,aP h0 [2,3] _ _ (by decide) ⟨rfl,rfl,trivial⟩ ⟨oe rfl rfl,oe rfl rfl,rfl⟩⟩
     refine bE (key:=3) 20 rfl rfl aA rfl ⟨rfl,rfl,rfl,trivial⟩ ?_;have hn5:=dS ((p.den:Int)) ((q.den:Int))
     refine aF 15 rfl (iL (eB hs) (eB hs')) mO ⟨aB rfl,aB rfl,rfl⟩ (kF ((p.den:Int)*(q.den:Int))) ?_
     refine aF 16 rfl (kZ (Zn.of (k:=p.num*(q.den:Int)+q.num*(p.den:Int)) (by omega)) (Zn.of (k:=(p.den:Int)*(q.den:Int)) (by omega))) qR ⟨aB rfl,aB rfl,rfl⟩ (.tup [qF (.of (Rat.divInt (p.num*(q.den:Int)+q.num*(p.den:Int)) ((p.den:Int)*(q.den:Int)))),.one (tv (.int .i64 (if((p.den:Int)*(q.den:Int))=0 then 20 else 0)))]) ?_
     refine df 17 ?_;refine df 18 ?_;refine df 19 ?_;refine aZ 21 (by kernel_rfl) rfl rfl aA rfl rfl rfl rfl ⟨rfl,rfl,rfl,trivial⟩ ?_
     refine cT 22 (by kernel_rfl) rfl rfl aA rfl (by trivial) ?_ (fun h=>by first | rfl | cases h)
     refine aH ?_;exact⟨(),trivial,aP h0 [2,3] _ _ (by decide) ⟨rfl,rfl,trivial⟩ ⟨oe rfl rfl,oe rfl rfl,rfl⟩⟩
    refine bE (key:=3) 20 rfl rfl aA rfl ⟨rfl,rfl,rfl,trivial⟩ ?_;have hn6:=lB (p.num*(q.den:Int)) (q.num*(p.den:Int))
    refine aF 10 rfl (tC (Zn.of (k:=p.num*(q.den:Int)) (by omega)) (Zn.of (k:=q.num*(p.den:Int)) (by omega))) Fd ⟨aB rfl,aB rfl,rfl⟩ (kF (p.num*(q.den:Int)+q.num*(p.den:Int))) ?_
    have hn7:=dS ((p.den:Int)) ((q.den:Int))
    refine aF 15 rfl (iL (eB hs) (eB hs')) mO ⟨aB rfl,aB rfl,rfl⟩ (kF ((p.den:Int)*(q.den:Int))) ?_
    refine aF 16 rfl (kZ (Zn.of (k:=p.num*(q.den:Int)+q.num*(p.den:Int)) (by omega)) (Zn.of (k:=(p.den:Int)*(q.den:Int)) (by omega))) qR ⟨aB rfl,aB rfl,rfl⟩ (.tup [qF (.of (Rat.divInt (p.num*(q.den:Int)+q.num*(p.den:Int)) ((p.den:Int)*(q.den:Int)))),.one (tv (.int .i64 (if((p.den:Int)*(q.den:Int))=0 then 20 else 0)))]) ?_
    refine df 17 ?_;refine df 18 ?_;refine df 19 ?_;refine aZ 21 (by kernel_rfl) rfl rfl aA rfl rfl rfl rfl ⟨rfl,rfl,rfl,trivial⟩ ?_
    refine cT 22 (by kernel_rfl) rfl rfl aA rfl (by trivial) ?_ (fun h=>by first | rfl | cases h)
    refine aH ?_;exact⟨(),trivial,aP h0 [2,3] _ _ (by decide) ⟨rfl,rfl,trivial⟩ ⟨oe rfl rfl,oe rfl rfl,rfl⟩⟩
   refine bE (key:=3) 20 rfl rfl aA rfl ⟨rfl,rfl,rfl,trivial⟩ ?_;have hn8:=dS (q.num) ((p.den:Int))
   refine aF 9 rfl (iL (gM hs') (eB hs)) mO ⟨aB rfl,aB rfl,rfl⟩ (kF (q.num*(p.den:Int))) ?_;have hn9:=lB (p.num*(q.den:Int)) (q.num*(p.den:Int))
   refine aF 10 rfl (tC (Zn.of (k:=p.num*(q.den:Int)) (by omega)) (Zn.of (k:=q.num*(p.den:Int)) (by omega))) Fd ⟨aB rfl,aB rfl,rfl⟩ (kF (p.num*(q.den:Int)+q.num*(p.den:Int))) ?_
   have hn10:=dS ((p.den:Int)) ((q.den:Int))
   refine aF 15 rfl (iL (eB hs) (eB hs')) mO ⟨aB rfl,aB rfl,rfl⟩ (kF ((p.den:Int)*(q.den:Int))) ?_
   refine aF 16 rfl (kZ (Zn.of (k:=p.num*(q.den:Int)+q.num*(p.den:Int)) (by omega)) (Zn.of (k:=(p.den:Int)*(q.den:Int)) (by omega))) qR ⟨aB rfl,aB rfl,rfl⟩ (.tup [qF (.of (Rat.divInt (p.num*(q.den:Int)+q.num*(p.den:Int)) ((p.den:Int)*(q.den:Int)))),.one (tv (.int .i64 (if((p.den:Int)*(q.den:Int))=0 then 20 else 0)))]) ?_
   refine df 17 ?_;refine df 18 ?_;refine df 19 ?_;refine aZ 21 (by kernel_rfl) rfl rfl aA rfl rfl rfl rfl ⟨rfl,rfl,rfl,trivial⟩ ?_
   refine cT 22 (by kernel_rfl) rfl rfl aA rfl (by trivial) ?_ (fun h=>by first | rfl | cases h)
   refine aH ?_;exact⟨(),trivial,aP h0 [2,3] _ _ (by decide) ⟨rfl,rfl,trivial⟩ ⟨oe rfl rfl,oe rfl rfl,rfl⟩⟩
  refine bE (key:=3) 20 rfl rfl aA rfl ⟨rfl,rfl,rfl,trivial⟩ ?_;have hn11:=dS (p.num) ((q.den:Int))
  refine aF 4 rfl (iL (gM hs) (eB hs')) mO ⟨aB rfl,aB rfl,rfl⟩ (kF (p.num*(q.den:Int))) ?_;have hn12:=dS (q.num) ((p.den:Int))
  refine aF 9 rfl (iL (gM hs') (eB hs)) mO ⟨aB rfl,aB rfl,rfl⟩ (kF (q.num*(p.den:Int))) ?_;have hn13:=lB (p.num*(q.den:Int)) (q.num*(p.den:Int))
  refine aF 10 rfl (tC (Zn.of (k:=p.num*(q.den:Int)) (by omega)) (Zn.of (k:=q.num*(p.den:Int)) (by omega))) Fd ⟨aB rfl,aB rfl,rfl⟩ (kF (p.num*(q.den:Int)+q.num*(p.den:Int))) ?_
  have hn14:=dS ((p.den:Int)) ((q.den:Int))
  refine aF 15 rfl (iL (eB hs) (eB hs')) mO ⟨aB rfl,aB rfl,rfl⟩ (kF ((p.den:Int)*(q.den:Int))) ?_
  refine aF 16 rfl (kZ (Zn.of (k:=p.num*(q.den:Int)+q.num*(p.den:Int)) (by omega)) (Zn.of (k:=(p.den:Int)*(q.den:Int)) (by omega))) qR ⟨aB rfl,aB rfl,rfl⟩ (.tup [qF (.of (Rat.divInt (p.num*(q.den:Int)+q.num*(p.den:Int)) ((p.den:Int)*(q.den:Int)))),.one (tv (.int .i64 (if((p.den:Int)*(q.den:Int))=0 then 20 else 0)))]) ?_
  refine df 17 ?_;refine df 18 ?_;refine df 19 ?_;refine aZ 21 (by kernel_rfl) rfl rfl aA rfl rfl rfl rfl ⟨rfl,rfl,rfl,trivial⟩ ?_
  refine cT 22 (by kernel_rfl) rfl rfl aA rfl (by trivial) ?_ (fun h=>by first | rfl | cases h)
  refine aH ?_;exact⟨(),trivial,aP h0 [2,3] _ _ (by decide) ⟨rfl,rfl,trivial⟩ ⟨oe rfl rfl,oe rfl rfl,rfl⟩⟩
 refine sq ?_;refine rl ?_;refine ld ?_;refine st ?_;refine nl ?_;refine rt ?_
 exact en (.inl rfl) rfl (aN (.agg (.cons (.id rfl) (.cons (.id rfl) (.cons (.id rfl) (.cons (.id rfl) .nil)))))) (by decide) (fun h=>by cases h) (by rw[←rU];rfl)
theorem KM {a b:Fr4}{p q:Rat}(ha:Qn a p) (hb:Qn b q) (hs:Sz 17179869184 p) (hs':Sz 17179869184 q):aE false Tryz.prog 94 [] [qF a,qF b] (aQ (qF (.of (p*q)))):=by
 refine bO Tryz.func94 rfl Tryz.ntmps94 rfl aA rfl fun N w c0 h0=>?_
 have hs1:=hs.1
 have hs2:(dg 4294967296 ((p.den:Int)).natAbs).length≤17179869184:=hs.2
 have hs3:=hs'.1
 have hs4:(dg 4294967296 ((q.den:Int)).natAbs).length≤17179869184:=hs'.2
 refine sq ?_;refine rl ?_;refine bx 0 ?_;refine bx 1 ?_;refine al 2 ?_;refine nl ?_;refine sq ?_;refine rl ?_;refine ld ?_;refine ca (jZ ha) uY ⟨aB rfl,rfl⟩ (qF (.of p)) ?_
 refine st ?_;refine nl ?_;refine sq ?_;refine rl ?_;refine ld ?_;refine ca (jZ hb) uY ⟨aB rfl,rfl⟩ (qF (.of q)) ?_;refine st ?_;refine nl ?_
 refine md (γ:=Unit) (fun _=>cG [(4,.one (.pt 0 0)),(5,.one (.pt 1 0))]) (fun _=>([⟨49,0,[tv (.bool false),tv (.slice none 0 0),tv (.bool false),tv (.slice none 0 0)]⟩,⟨49,0,((Fr4.of (Rat.divInt (p.num*q.num) ((p.den:Int)*(q.den:Int)))).tr false).map .t⟩]:List Ob).map some) (fun _=>True) ?_ fun _ _=>?_
 ·refine rd [0,1,2] (fun i=>[16].contains i) mixed ?_
  refine dv 0 ?_;refine aM 1 ?_;refine dv 2 ?_;refine aM 3 ?_;refine dv 5 ?_;refine aM 6 ?_;refine dv 7 ?_;refine aM 8 ?_;refine WO.two (i:=4) (j:=14) (by kernel_rfl) ?_ ?_
  ·have hn1:=dS (p.num) (q.num)
   refine cS 4 rfl (iL (gM hs) (gM hs')) mO ⟨aB rfl,aB rfl,rfl⟩ (kF (p.num*q.num)) ?_;refine WO.two (i:=9) (j:=14) (by kernel_rfl) ?_ ?_
   ·have hn2:=dS ((p.den:Int)) ((q.den:Int))
    refine cS 9 rfl (iL (eB hs) (eB hs')) mO ⟨aB rfl,aB rfl,rfl⟩ (kF ((p.den:Int)*(q.den:Int))) ?_;refine WO.two (i:=10) (j:=14) (by kernel_rfl) ?_ ?_
    ·refine cS 10 rfl (kZ (Zn.of (k:=p.num*q.num) (by omega)) (Zn.of (k:=(p.den:Int)*(q.den:Int)) (by omega))) qR ⟨aB rfl,aB rfl,rfl⟩ (.tup [qF (.of (Rat.divInt (p.num*q.num) ((p.den:Int)*(q.den:Int)))),.one (tv (.int .i64 (if((p.den:Int)*(q.den:Int))=0 then 20 else 0)))]) ?_
     refine df 11 ?_;refine df 12 ?_;refine df 13 ?_;refine eP (key:=3) 14 (by kernel_rfl) rfl rfl aA rfl ⟨rfl,rfl,rfl,trivial⟩ ?_
     refine aZ 15 (by kernel_rfl) rfl rfl aA rfl rfl rfl rfl ⟨rfl,rfl,rfl,trivial⟩ ?_
     refine cT 16 (by kernel_rfl) rfl rfl aA rfl (by trivial) ?_ (fun h=>by first | rfl | cases h)
     refine aH ?_;exact⟨(),trivial,aP h0 [2,3] _ _ (by decide) ⟨rfl,rfl,trivial⟩ ⟨oe rfl rfl,oe rfl rfl,rfl⟩⟩
    refine bE (key:=3) 14 rfl rfl aA rfl ⟨rfl,rfl,rfl,trivial⟩ ?_
    refine aF 10 rfl (kZ (Zn.of (k:=p.num*q.num) (by omega)) (Zn.of (k:=(p.den:Int)*(q.den:Int)) (by omega))) qR ⟨aB rfl,aB rfl,rfl⟩ (.tup [qF (.of (Rat.divInt (p.num*q.num) ((p.den:Int)*(q.den:Int)))),.one (tv (.int .i64 (if((p.den:Int)*(q.den:Int))=0 then 20 else 0)))]) ?_
    refine df 11 ?_;refine df 12 ?_;refine df 13 ?_;refine aZ 15 (by kernel_rfl) rfl rfl aA rfl rfl rfl rfl ⟨rfl,rfl,rfl,trivial⟩ ?_
    refine cT 16 (by kernel_rfl) rfl rfl aA rfl (by trivial) ?_ (fun h=>by first | rfl | cases h)
    refine aH ?_;exact⟨(),trivial,aP h0 [2,3] _ _ (by decide) ⟨rfl,rfl,trivial⟩ ⟨oe rfl rfl,oe rfl rfl,rfl⟩⟩
   refine bE (key:=3) 14 rfl rfl aA rfl ⟨rfl,rfl,rfl,trivial⟩ ?_;have hn3:=dS ((p.den:Int)) ((q.den:Int))
   refine aF 9 rfl (iL (eB hs) (eB hs')) mO ⟨aB rfl,aB rfl,rfl⟩ (kF ((p.den:Int)*(q.den:Int))) ?_
   refine aF 10 rfl (kZ (Zn.of (k:=p.num*q.num) (by omega)) (Zn.of (k:=(p.den:Int)*(q.den:Int)) (by omega))) qR ⟨aB rfl,aB rfl,rfl⟩ (.tup [qF (.of (Rat.divInt (p.num*q.num) ((p.den:Int)*(q.den:Int)))),.one (tv (.int .i64 (if((p.den:Int)*(q.den:Int))=0 then 20 else 0)))]) ?_
   refine df 11 ?_;refine df 12 ?_;refine df 13 ?_;refine aZ 15 (by kernel_rfl) rfl rfl aA rfl rfl rfl rfl ⟨rfl,rfl,rfl,trivial⟩ ?_
   refine cT 16 (by kernel_rfl) rfl rfl aA rfl (by trivial) ?_ (fun h=>by first | rfl | cases h)
   refine aH ?_;exact⟨(),trivial,aP h0 [2,3] _ _ (by decide) ⟨rfl,rfl,trivial⟩ ⟨oe rfl rfl,oe rfl rfl,rfl⟩⟩
  refine bE (key:=3) 14 rfl rfl aA rfl ⟨rfl,rfl,rfl,trivial⟩ ?_;have hn4:=dS (p.num) (q.num)
  refine aF 4 rfl (iL (gM hs) (gM hs')) mO ⟨aB rfl,aB rfl,rfl⟩ (kF (p.num*q.num)) ?_;have hn5:=dS ((p.den:Int)) ((q.den:Int))
  refine aF 9 rfl (iL (eB hs) (eB hs')) mO ⟨aB rfl,aB rfl,rfl⟩ (kF ((p.den:Int)*(q.den:Int))) ?_
  refine aF 10 rfl (kZ (Zn.of (k:=p.num*q.num) (by omega)) (Zn.of (k:=(p.den:Int)*(q.den:Int)) (by omega))) qR ⟨aB rfl,aB rfl,rfl⟩ (.tup [qF (.of (Rat.divInt (p.num*q.num) ((p.den:Int)*(q.den:Int)))),.one (tv (.int .i64 (if((p.den:Int)*(q.den:Int))=0 then 20 else 0)))]) ?_
  refine df 11 ?_;refine df 12 ?_;refine df 13 ?_;refine aZ 15 (by kernel_rfl) rfl rfl aA rfl rfl rfl rfl ⟨rfl,rfl,rfl,trivial⟩ ?_
  refine cT 16 (by kernel_rfl) rfl rfl aA rfl (by trivial) ?_ (fun h=>by first | rfl | cases h)
  refine aH ?_;exact⟨(),trivial,aP h0 [2,3] _ _ (by decide) ⟨rfl,rfl,trivial⟩ ⟨oe rfl rfl,oe rfl rfl,rfl⟩⟩
 refine sq ?_;refine rl ?_;refine ld ?_;refine st ?_;refine nl ?_;refine rt ?_
 exact en (.inl rfl) rfl (aN (.agg (.cons (.id rfl) (.cons (.id rfl) (.cons (.id rfl) (.cons (.id rfl) .nil)))))) (by decide) (fun h=>by cases h) (congrArg (fun q=>qF (.of q)) (by rw[←Rat.divInt_mul_divInt,Rat.num_divInt_den,Rat.num_divInt_den]))
theorem lC {a b:Fr4}{p q:Rat}(ha:Qn a p) (hb:Qn b q) (hs:Sz 17179869184 p) (hs':Sz 17179869184 q):aE false Tryz.prog 26 [] [qF a,qF b] (aQ (qF (.of (p-q)))):=by
 refine bO Tryz.func26 rfl Tryz.ntmps26 rfl aA rfl fun N w c0 h0=>?_
 refine sq ?_;refine rl ?_;refine bx 0 ?_;refine bx 1 ?_;refine al 2 ?_;refine nl ?_;refine sq ?_;refine rd [0,1,2] (fun i=>[4].contains i) mixed ?_
 refine aM 0 ?_;refine aM 1 ?_;refine aF 2 rfl (wW hb) Km ⟨aB rfl,rfl⟩ (qF (.of (-q))) ?_
 refine aF 3 rfl (jS ha (Qn.of (p:=(-q)) (kT hs')) hs (kT hs')) oE ⟨aB rfl,aB rfl,rfl⟩ (qF (.of (p+(-q)))) ?_;refine dst 4 ?_;refine aH ?_;refine rt ?_
 exact en (.inl rfl) rfl (aN (.agg (.cons (.id rfl) (.cons (.id rfl) (.cons (.id rfl) (.cons (.id rfl) .nil)))))) (by decide) (fun h=>by cases h) (by rw[Rat.sub_eq_add_neg];rfl)
theorem qA {a:Fr4}{p:Rat}(ha:Qn a p):aE true Tryz.prog 41 [] [qF a] (aQ (.one (tv (.int .i64 p.num.sign)))):=by
 refine bO Tryz.func41 rfl Tryz.ntmps41 rfl aA rfl fun N w c0 h0=>?_
 refine sq ?_;refine rl ?_;refine bx 0 ?_;refine o1 ?_;refine nl ?_;refine sq ?_;refine rl ?_;refine ld ?_;refine ca (jZ ha) uY ⟨aB rfl,rfl⟩ (qF (.of p)) ?_;refine o1 ?_
 refine ca (oD (gM ha.sz)) Bk ⟨aB rfl,rfl⟩ (.one (tv (.int .i64 (p.num).sign))) ?_;refine o1 ?_;refine nl ?_;refine rt ?_
 exact en (.inl rfl) rfl (aN (bH _)) (by decide) (fun _=>trivial) rfl
theorem Kn {a b:Fr4}{p q:Rat}(ha:Qn a p) (hb:Qn b q) (hs:Sz 17179869184 p) (hs':Sz 17179869184 q):aE true Tryz.prog 64 [] [qF a,qF b] (aQ (.one (tv (.int .i64 (p-q).num.sign)))):=by
 refine bO Tryz.func64 rfl Tryz.ntmps64 rfl aA rfl fun N w c0 h0=>?_
 refine sq ?_;refine rl ?_;refine bx 0 ?_;refine bx 1 ?_;refine o1 ?_;refine nl ?_;refine sq ?_;refine rl ?_;refine ld ?_;refine ld ?_
 refine ca (lC ha hb hs hs') qS ⟨aB rfl,aB rfl,rfl⟩ (qF (.of (p-q))) ?_
 refine ca (qA (Qn.of (p:=(p-q)) (oW hs hs'))) Ff ⟨aB rfl,rfl⟩ (.one (tv (.int .i64 (p-q).num.sign))) ?_;refine o1 ?_;refine nl ?_;refine rt ?_
 exact en (.inl rfl) rfl (aN (bH _)) (by decide) (fun _=>trivial) rfl
end Go.Proofs.YthoemjjmkgmnjaaGreat
