/- Part 9 of a proof: A4 to Pg. -/
import Derived.Test.YthmgbcdidlkpoaaGreatM8
import Derived.Test.YthmgbcdidlkpoaaGreatM7
import Derived.Test.YthmgbcdidlkpoaaGreatM4
set_option maxRecDepth 100000
set_option linter.unusedVariables false
set_option linter.unusedSimpArgs false
namespace Go.Proofs.YthmgbcdidlkpoaaGreat
open Go Go.RowKit
theorem zC {xs:List Nat}(hx:xs.length≤4398046511104):aD false Tryz.prog 132 [] [.one (.t (sI false xs))] (aM (.one (.t (sI false (trim xs))))):=by
 refine bL Tryz.func132 rfl Tryz.ntmps132 rfl aA rfl fun N w c0 h0=>?_
 refine sq ?_;refine rl ?_;refine o1 ?_;refine nl ?_;refine sq ?_;refine bl ?_
 refine lp (γ:=List Nat) (fun zs=>cG [(0,.one (.t (sI false zs)))]) (fun _=>([]:List Ob).map some) (fun zs=>trim zs=trim xs∧zs.length≤xs.length) (fun zs=>zs.length) xs ⟨rfl,Nat.le_refl _⟩ (aH h0 [] _ _ (by decide) ⟨rfl,trivial⟩ rfl) fun zs hz=>?_
 refine sq ?_;refine sq ?_;refine rl ?_;(iterate 4 refine o1 ?_);refine WL.split (t:=6) rfl (fun h1=>?_) (fun h1=>?_)
 ·(iterate 4 refine o1 ?_);refine WL.cast (t:=10) (u':=.int .i64 ((zs.length-1:Nat):Int)) rfl (aK (by omega)) ?_
  refine o1 ?_;refine fQ ([.v (.int .i64 ((nth zs (zs.length-1):Nat):Int))]) (eL zs (k:=zs.length-1) (by omega)) ?_
  refine o1 ?_;refine o1 ?_;refine nl ?_;refine bN rfl (fun h2=>?_) (fun h2=>?_)
  ·refine sk ?_;refine bl ?_;refine rl ?_;(iterate 4 refine o1 ?_);refine WL.cast (t:=18) (u':=.int .i64 ((zs.length-1:Nat):Int)) rfl (aK (by omega)) ?_
   refine o1 ?_;refine o1 ?_;refine nl ?_
   exact⟨zs.take (zs.length-1),by rw[List.length_take];omega,⟨(by rw[sS (xs:=zs) (k:=zs.length) (by omega) (Nat.le_refl _) (by omega),List.take_length];exact hz.1),by rw[List.length_take];omega⟩,aH h0 [] _ _ (by decide) ⟨congrArg some (Rz (by omega)).symm,trivial⟩ rfl⟩
  refine ex ?_;refine sq ?_;refine rl ?_;refine o1 ?_;refine o1 ?_;refine nl ?_;refine rt ?_;refine en (.inl rfl) rfl (aT (.one (.id rfl))) (by decide) (fun h=>by cases h) ?_
  have hx:trim xs=zs:=by
   rw[←hz.1];have h9:=oP (xs:=zs) (k:=zs.length) (by omega) (Nat.le_refl _) (by omega)
   rwa[List.take_length]at h9
  rw[hx];rfl
 (iterate 7 refine dU ?_);refine o1 ?_;refine nl ?_;refine gJ rfl ?_;refine ex ?_;refine sq ?_;refine rl ?_;refine o1 ?_;refine o1 ?_;refine nl ?_;refine rt ?_
 refine en (.inl rfl) rfl (aT (.one (.id rfl))) (by decide) (fun h=>by cases h) ?_
 have hx:trim xs=zs:=by
  have h9:zs=[]:=List.eq_nil_of_length_eq_zero (by omega)
  rw[←hz.1,h9];rfl
 rw[hx];rfl
theorem kZ {xs:List Nat}(hx:xs.length≤1099511627776) (hl:Lim 4294967296 xs):aD false Tryz.prog 109 [] [.one (.t (sU false xs))] (aM (.one (.t (sI false (dg 65536 (vl 4294967296 xs)))))):=by
 refine bL Tryz.func109 rfl Tryz.ntmps109 rfl aA rfl fun N w c0 h0=>?_
 refine sq ?_;refine rl ?_;refine o1 ?_;refine nl ?_;refine sq ?_;refine rl ?_;refine o1 ?_;refine nl ?_;refine sq ?_;refine sq ?_;refine rl ?_;refine o1 ?_;refine nl ?_;refine bl ?_
 refine lp (γ:=Nat) (fun k=>cG [(0,.one (.t (sU false xs))),(3,.one (.sl 0 0 (2*k))),(4,.one (tv (.int .i64 ((k:Nat):Int))))]) (fun k=>[(⟨3,1,(cI (hv (xs.take k))).map .t⟩:Ob)].map some) (fun k=>k≤xs.length) (fun k=>xs.length-k) 0 (Nat.zero_le _) ((nr (i:=3) 0 3 1 rfl rfl rfl rfl).trans (aH h0 [0] _ _ (by decide) ⟨rfl,rfl,rfl,trivial⟩ ⟨bI (l:=[]) rfl,rfl⟩)) fun k hk=>?_
 have hn:=hl.nth (by omega) k
 refine sq ?_;refine sq ?_;refine rl ?_;(iterate 4 refine o1 ?_);refine nl ?_;refine bN rfl (fun h1=>?_) (fun h1=>?_)
 ·refine sk ?_;refine sq ?_;refine bl ?_;refine rd [] (fun i=>[15].contains i) mixed ?_
  refine dv 0 ?_;refine dv 1 ?_;refine dv 2 ?_;refine dv 3 ?_;refine fR 4 ([.v (.int .u32 ((nth xs (k):Nat):Int))]) (kA xs (k:=k) (by omega)) ?_
  refine dv 5 ?_;refine WD.cast (t:=16) (u':=.int .u32 ((nth xs k%65536:Nat):Int)) rfl (aK (jQ _ 65536)) ?_;refine dv 6 ?_;refine dv 7 ?_;refine dv 8 ?_;refine dv 9 ?_
  refine fR 10 ([.v (.int .u32 ((nth xs (k):Nat):Int))]) (kA xs (k:=k) (by omega)) ?_
  refine dv 11 ?_ (hC:=(gH 65536 (by omega) (by simp only[gA];omega)))
  refine WD.cast (t:=22) (u':=.int .u32 ((nth xs k/65536:Nat):Int)) rfl (aK (eS _ 65536)) ?_;refine dv 12 ?_;refine tC (key:=1) 13 (by kernel_rfl) rfl rfl aA rfl trivial ?_
  refine Xv (j:=2) 14 rfl aA rfl rfl rfl (.sl rfl (by rw[List.length_map,fN,oM,List.length_take];omega)) (.sl rfl rfl rfl) rfl rfl (by omega) (by omega) rfl rfl (by kernel_rfl) rfl ?_
  refine dE 15 (by kernel_rfl) rfl rfl aA rfl (by trivial) ?_ (fun h=>by first | rfl | cases h)
  refine aO ?_;refine rl ?_;(iterate 3 refine o1 ?_);refine nl ?_
  exact⟨k+1,by omega,by omega,aH h0 [2] _ _ (by decide) ⟨rfl,rfl,rfl,trivial⟩ ⟨kT rfl (fO _ [nth xs k%65536,nth xs k/65536]) (Lh (by omega)).symm,rfl⟩⟩
 refine ex ?_;refine sq ?_;refine rl ?_;refine WL.sub (wG (i:=3) (zs':=hv xs) rfl rfl rfl (by rw[oM,List.length_take];omega) (by rw[List.take_of_length_le (by omega)])) ?_
 refine o1 ?_;refine ca (zC (by rw[oM];omega)) yM ⟨a1 rfl,rfl⟩ (.one (.t (sI false (trim (hv xs))))) ?_
 refine o1 ?_;refine nl ?_;refine rt ?_;exact en (.inl rfl) rfl (aT (.one (.id rfl))) (by decide) (fun h=>by cases h) (by rw[Yl hl];rfl)
theorem sJ {xs zs:List Nat}(hx:xs.length≤4398046511104) (hl:Lim 65536 xs) (hz:lb xs=zs):aD true Tryz.prog 111 [] [.one (.t (sI false xs))] (aM (.one (.t (sU true zs)))):=by
 refine bL Tryz.func111 rfl Tryz.ntmps111 rfl aA rfl fun N w c0 h0=>?_
 refine sq ?_;refine rl ?_;refine o1 ?_;refine nl ?_;refine sq ?_;refine rl ?_;(iterate 3 refine o1 ?_)
 refine WL.cast (t:=7) (u':=.int .i64 ((xs.length+1:Nat):Int)) rfl (aK (by omega)) ?_
 refine o1 ?_ (hC:=(gH 2 (by omega) (by simp only[gA];omega)))
 refine WL.cast (t:=8) (u':=.int .i64 (((xs.length+1)/2:Nat):Int)) rfl (aK (eS _ 2)) ?_;refine mk (m:=(xs.length+1)/2) 0 (by omega) (Wh _) ?_
 refine o1 ?_;refine nl ?_;refine sq ?_;refine sq ?_;refine rl ?_;refine o1 ?_;refine nl ?_;refine bl ?_
 refine lp (γ:=Nat) (fun k=>cG [(0,.one (.t (sI false xs))),(3,.one (.sl 0 0 ((xs.length+1)/2))),(4,.one (tv (.int .i64 ((k:Nat):Int))))]) (fun k=>[(⟨51,1,(aL (jG xs k ((xs.length+1)/2))).map .t⟩:Ob)].map some) (fun k=>k≤xs.length) (fun k=>xs.length-k) 0 (Nat.zero_le _) (aH h0 [0] _ _ (by decide) ⟨rfl,rfl,rfl,trivial⟩ ⟨Sa rfl rfl Wf.symm,rfl⟩) fun k hk=>?_
 have hn:=hl.nth (by omega) k
 have hln:=BY (l:=xs) (k:=k) (N:=(xs.length+1)/2) rfl hk
 refine sq ?_;refine sq ?_;refine rl ?_;(iterate 4 refine o1 ?_);refine nl ?_;refine bN rfl (fun h1=>?_) (fun h1=>?_)
 ·refine sk ?_;refine sq ?_;refine bl ?_;refine sq ?_;refine rl ?_;refine o1 ?_;refine o1 ?_;refine WL.cast (t:=17) (u':=.int .i64 ((k%2:Nat):Int)) rfl (aK (jQ _ 2)) ?_
  refine o1 ?_;refine nl ?_;refine bN rfl (fun h2=>?_) (fun h2=>?_)
  ·refine rl ?_;refine o1 ?_;refine o1 ?_;refine o1 ?_ (hC:=(gH 2 (by omega) (by simp only[gA];omega)))
   refine WL.cast (t:=21) (u':=.int .i64 ((k/2:Nat):Int)) rfl (aK (eS _ 2)) ?_;(iterate 3 refine o1 ?_)
   refine fQ ([.v (.int .i64 ((nth xs (k):Nat):Int))]) (eL xs (k:=k) (by omega)) ?_
   refine o1 ?_;refine WL.cast (t:=26) (u':=.int .u32 ((nth xs k:Nat):Int)) rfl (aK rfl) ?_;refine o1 ?_
   refine qE (Aa (jG xs k ((xs.length+1)/2)) (k:=k/2) (v:=nth xs k) (by omega)) (Fp (jG xs k ((xs.length+1)/2)) (by omega)) ?_
   refine nl ?_;refine rl ?_;refine o1 ?_;refine o1 ?_;refine WL.cast (t:=15) (u':=.int .i64 ((k+1:Nat):Int)) rfl (aK (by omega)) ?_
   refine o1 ?_;refine nl ?_;exact⟨k+1,by omega,by omega,aH h0 [0] _ _ (by decide) ⟨rfl,rfl,rfl,trivial⟩ ⟨Sa rfl rfl (Wg rfl (by omega) (by omega)),rfl⟩⟩
  have hnt:=wH (l:=xs) (k:=k) (N:=(xs.length+1)/2) rfl (by omega) (by omega)
  have hb1:=hl.nth (by omega) (k-1)
  refine rd [0] (fun i=>[16].contains i) mixed ?_
  refine dv 0 ?_;refine dv 1 ?_;refine dv 2 ?_ (hC:=(gH 2 (by omega) (by simp only[gA];omega)))
  refine WD.cast (t:=30) (u':=.int .i64 ((k/2:Nat):Int)) rfl (aK (eS _ 2)) ?_;refine dv 3 ?_;refine dv 4 ?_
  refine dv 5 ?_ (hC:=(gH 2 (by omega) (by simp only[gA];omega)))
  refine WD.cast (t:=33) (u':=.int .i64 ((k/2:Nat):Int)) rfl (aK (eS _ 2)) ?_;refine dv 6 ?_;refine Mp 7 (HE (jG xs k ((xs.length+1)/2)) (k:=k/2) (by omega)) ?_
  refine dv 8 ?_;refine dv 9 ?_;refine dv 10 ?_;refine fR 11 ([.v (.int .i64 ((nth xs (k):Nat):Int))]) (eL xs (k:=k) (by omega)) ?_
  refine dv 12 ?_;refine dv 13 ?_;refine dv 14 ?_
  refine WD.cast (t:=42) (u':=.int .u32 ((nth (jG xs k ((xs.length+1)/2)) (k/2)+65536*nth xs k:Nat):Int)) rfl (aK (by omega)) ?_
  refine dv 15 ?_
  refine Dw 16 (Aa (jG xs k ((xs.length+1)/2)) (k:=k/2) (v:=nth (jG xs k ((xs.length+1)/2)) (k/2)+65536*nth xs k) (by omega)) (Fp (jG xs k ((xs.length+1)/2)) (by omega)) ?_
  refine aO ?_;refine rl ?_;refine o1 ?_;refine o1 ?_;refine WL.cast (t:=15) (u':=.int .i64 ((k+1:Nat):Int)) rfl (aK (by omega)) ?_
  refine o1 ?_;refine nl ?_;exact⟨k+1,by omega,by omega,aH h0 [0] _ _ (by decide) ⟨rfl,rfl,rfl,trivial⟩ ⟨Sa rfl rfl (CA rfl (by omega) (by omega)),rfl⟩⟩
 refine ex ?_;refine sq ?_;refine rl ?_;refine o1 ?_;refine o1 ?_;refine nl ?_;refine rt ?_
 exact en (.inl rfl) rfl (aT (.one (.sl (trs:=aL (lb xs)) rfl rfl (by rw[BX rfl (by omega),Nat.mul_one,List.take_of_length_le (by simp[gD,gU])]) (by simp[gD,gU])))) (by decide) (fun _=>.inl ⟨rfl,eP _⟩) (by subst hz;unfold sU;rw[gU];rfl)
theorem Hu {xs ys:List Nat}(hx:xs.length≤1099511627776) (hy:ys.length≤1099511627776) (hlx:Lim 65536 xs) (hly:Lim 65536 ys):aD false Tryz.prog 114 [] [.one (.t (sI false xs)),.one (.t (sI false ys))] (aM (.one (.t (sI false (dg 65536 (vl 65536 xs*vl 65536 ys)))))):=by
 refine bL Tryz.func114 rfl Tryz.ntmps114 rfl aA rfl fun N w c0 h0=>?_
 refine sq ?_;refine rl ?_;refine o1 ?_;refine nl ?_;refine sq ?_;refine rl ?_;(iterate 5 refine o1 ?_)
 refine WL.cast (t:=14) (u':=.int .i64 ((xs.length+ys.length:Nat):Int)) rfl (aK (by omega)) ?_
 refine o1 ?_;refine WL.cast (t:=15) (u':=.int .i64 ((xs.length+ys.length+1:Nat):Int)) rfl (aK (by omega)) ?_
 refine mk (m:=xs.length+ys.length+1) 0 (by omega) (Hk _) ?_
 refine o1 ?_;refine nl ?_;refine sq ?_;refine sq ?_;refine rl ?_;refine o1 ?_;refine nl ?_;refine bl ?_
 refine lp (γ:=Nat×List Nat) (fun s=>cG [(0,.one (.t (sI false xs))),(1,.one (.t (sI false ys))),(5,.one (.sl 0 0 (xs.length+ys.length+1))),(6,.one (tv (.int .i64 ((s.1:Nat):Int))))]) (fun s=>[(⟨3,1,(cI s.2).map .t⟩:Ob)].map some) (fun s=>s.1≤xs.length∧Lim 65536 s.2∧s.2.length=xs.length+ys.length+1∧vl 65536 s.2=vl 65536 (xs.take s.1)*vl 65536 ys) (fun s=>xs.length-s.1) (0,List.replicate (xs.length+ys.length+1) 0) ⟨Nat.zero_le _,Lim.replicate (by omega) _,List.length_replicate,by rw[sP];simp[vl]⟩ (aH h0 [0] _ _ (by decide) ⟨rfl,rfl,rfl,rfl,trivial⟩ ⟨kT rfl rfl rfl,rfl⟩) ?_
 rintro⟨i,os⟩ ⟨hi,hol,hos,hv⟩;dsimp only at hi hol hos hv⊢;refine sq ?_;refine sq ?_;refine rl ?_;(iterate 4 refine o1 ?_);refine nl ?_;refine bN rfl (fun h1=>?_) (fun h1=>?_)
 ·refine sk ?_;refine sq ?_;refine bl ?_;refine sq ?_;refine rl ?_;refine o1 ?_;refine nl ?_;refine sq ?_;refine rl ?_;refine o1 ?_;refine nl ?_;refine bl ?_
  have hil:=hlx.nth (by omega) i
  refine lp (γ:=Nat×Nat×List Nat) (fun s=>cG [(0,.one (.t (sI false xs))),(1,.one (.t (sI false ys))),(5,.one (.sl 0 0 (xs.length+ys.length+1))),(6,.one (tv (.int .i64 ((i:Nat):Int)))),(7,.one (tv (.int .i64 ((s.2.1:Nat):Int)))),(8,.one (tv (.int .i64 ((s.1:Nat):Int))))]) (fun s=>[(⟨3,1,(cI s.2.2).map .t⟩:Ob)].map some) (fun s=>s.1≤ys.length+1∧Lim 65536 s.2.2∧s.2.2.length=xs.length+ys.length+1∧vl 65536 s.2.2+65536^(i+s.1)*s.2.1=vl 65536 (xs.take i)*vl 65536 ys+65536^i*(nth xs i*vl 65536 (ys.take s.1))∧s.2.1≤65535) (fun s=>ys.length+1-s.1) (0,0,os) ⟨Nat.zero_le _,hol,hos,by dsimp only;rw[hv];simp[vl],Nat.zero_le _⟩ (aH h0 [0] _ _ (by decide) ⟨rfl,rfl,rfl,rfl,rfl,rfl,trivial⟩ ⟨kT rfl rfl rfl,rfl⟩) ?_
  rintro⟨k,cr,os2⟩ ⟨hk,hol2,hos2,hv2,hcb⟩;dsimp only at hk hol2 hos2 hv2 hcb⊢;refine sq ?_;refine sq ?_;refine rl ?_;(iterate 5 refine o1 ?_)
  refine WL.split (t:=27) rfl (fun h2=>?_) (fun h2=>?_)
  ·refine dU ?_;refine dU ?_;refine o1 ?_;refine nl ?_;refine lT rfl ?_;refine sk ?_;refine sq ?_;refine bl ?_;refine sq ?_
   have hkl:k≤ys.length:=by first | omega | exact Hj hlx hly (by omega) hk hv2 (by omega)
   have hon:=hol2.nth (by omega) (i+k)
   have hyn:=hly.nth (by omega) k
   have hmul:=Nat.mul_le_mul (Nat.le_of_lt_succ hil) (Nat.le_of_lt_succ hyn)
   refine rl ?_;(iterate 4 refine o1 ?_);refine WL.cast (t:=36) (u':=.int .i64 ((i+k:Nat):Int)) rfl (aK (by omega)) ?_
   refine o1 ?_;refine Jg (jZ os2 (k:=i+k) (by omega)) ?_
   refine o1 ?_;refine o1 ?_;refine WL.cast (t:=40) (u':=.int .i64 ((nth os2 (i+k)+cr:Nat):Int)) rfl (aK (by omega)) ?_
   refine o1 ?_;refine nl ?_;refine sq ?_;refine sq ?_;refine rl ?_;(iterate 4 refine o1 ?_);refine nl ?_;refine bN rfl (fun h3=>?_) (fun h3=>?_)
   ·refine rd [] (fun i=>[11].contains i) mixed ?_
    refine dv 0 ?_;refine dv 1 ?_;refine dv 2 ?_;refine dv 3 ?_;refine fR 4 ([.v (.int .i64 ((nth xs (i):Nat):Int))]) (eL xs (k:=i) (by omega)) ?_
    refine dv 5 ?_;refine dv 6 ?_;refine dv 7 ?_;refine fR 8 ([.v (.int .i64 ((nth ys (k):Nat):Int))]) (eL ys (k:=k) (by omega)) ?_
    refine dv 9 ?_;refine WD.cast (t:=54) (u':=.int .i64 ((nth xs i*nth ys k:Nat):Int)) rfl (aK (Int.natCast_mul _ _).symm) ?_;refine dv 10 ?_
    refine WD.cast (t:=55) (u':=.int .i64 ((nth os2 (i+k)+cr+nth xs i*nth ys k:Nat):Int)) rfl (aK (by omega)) ?_
    refine dE 11 (by kernel_rfl) rfl rfl aA rfl (by trivial) ?_ (fun h=>by first | rfl | cases h)
    refine aO ?_;refine sq ?_;refine rl ?_;(iterate 4 refine o1 ?_);refine WL.cast (t:=59) (u':=.int .i64 ((i+k:Nat):Int)) rfl (aK (by omega)) ?_
    refine o1 ?_;refine o1 ?_;refine WL.cast (t:=61) (u':=.int .i64 (((nth os2 (i+k)+cr+nth xs i*nth ys k)%65536:Nat):Int)) rfl (aK (jQ _ 65536)) ?_;refine o1 ?_
    refine qE (jJ os2 (k:=i+k) (v:=(nth os2 (i+k)+cr+nth xs i*nth ys k)%65536) (by omega)) (lE os2 (by omega)) ?_
    refine nl ?_;refine rl ?_;refine o1 ?_;refine o1 ?_ (hC:=(gH 65536 (by omega) (by simp only[gA];omega)))
    refine WL.cast (t:=64) (u':=.int .i64 (((nth os2 (i+k)+cr+nth xs i*nth ys k)/65536:Nat):Int)) rfl (aK (eS _ 65536)) ?_;refine o1 ?_;refine nl ?_;refine rl ?_
    refine o1 ?_;refine o1 ?_;refine WL.cast (t:=32) (u':=.int .i64 ((k+1:Nat):Int)) rfl (aK (by omega)) ?_
    refine o1 ?_;refine nl ?_;have hst:=nH (x:=nth os2 (i+k)+cr+nth xs i*nth ys k) (by omega) hv2 (by rfl)
    exact⟨(k+1,(nth os2 (i+k)+cr+nth xs i*nth ys k)/65536,os2.set (i+k) ((nth os2 (i+k)+cr+nth xs i*nth ys k)%65536)),by dsimp only;omega,⟨by dsimp only;omega,hol2.set _ (Nat.mod_lt _ (by omega)),by rw[List.length_set];exact hos2,hst,by dsimp only;omega⟩,aH h0 [0] _ _ (by decide) ⟨rfl,rfl,rfl,rfl,rfl,rfl,trivial⟩ ⟨kT rfl rfl rfl,rfl⟩⟩
   refine sk ?_;refine sq ?_;refine rl ?_;(iterate 4 refine o1 ?_);refine WL.cast (t:=59) (u':=.int .i64 ((i+k:Nat):Int)) rfl (aK (by omega)) ?_
   refine o1 ?_;refine o1 ?_;refine WL.cast (t:=61) (u':=.int .i64 (((nth os2 (i+k)+cr)%65536:Nat):Int)) rfl (aK (jQ _ 65536)) ?_;refine o1 ?_
   refine qE (jJ os2 (k:=i+k) (v:=(nth os2 (i+k)+cr)%65536) (by omega)) (lE os2 (by omega)) ?_
   refine nl ?_;refine rl ?_;refine o1 ?_;refine o1 ?_ (hC:=(gH 65536 (by omega) (by simp only[gA];omega)))
   refine WL.cast (t:=64) (u':=.int .i64 (((nth os2 (i+k)+cr)/65536:Nat):Int)) rfl (aK (eS _ 65536)) ?_;refine o1 ?_;refine nl ?_;refine rl ?_;refine o1 ?_;refine o1 ?_
   refine WL.cast (t:=32) (u':=.int .i64 ((k+1:Nat):Int)) rfl (aK (by omega)) ?_
   refine o1 ?_;refine nl ?_;have hny:nth ys k=0:=dR (by omega)
   have hst:=nH (x:=nth os2 (i+k)+cr) (by omega) hv2 (by rw[hny,Nat.mul_zero,Nat.add_zero])
   exact⟨(k+1,(nth os2 (i+k)+cr)/65536,os2.set (i+k) ((nth os2 (i+k)+cr)%65536)),by dsimp only;omega,⟨by dsimp only;omega,hol2.set _ (Nat.mod_lt _ (by omega)),by rw[List.length_set];exact hos2,hst,by dsimp only;omega⟩,aH h0 [0] _ _ (by decide) ⟨rfl,rfl,rfl,rfl,rfl,rfl,trivial⟩ ⟨kT rfl rfl rfl,rfl⟩⟩
  (iterate 3 refine o1 ?_);refine nl ?_;refine bN rfl (fun h4=>?_) (fun h4=>?_)
  ·refine sk ?_;refine sq ?_;refine bl ?_;refine sq ?_;have hkl:k≤ys.length:=by first | omega | exact Hj hlx hly (by omega) hk hv2 (by omega)
   have hon:=hol2.nth (by omega) (i+k)
   have hyn:=hly.nth (by omega) k
   have hmul:=Nat.mul_le_mul (Nat.le_of_lt_succ hil) (Nat.le_of_lt_succ hyn)
   refine rl ?_;(iterate 4 refine o1 ?_);refine WL.cast (t:=36) (u':=.int .i64 ((i+k:Nat):Int)) rfl (aK (by omega)) ?_
   refine o1 ?_;refine Jg (jZ os2 (k:=i+k) (by omega)) ?_
   refine o1 ?_;refine o1 ?_;refine WL.cast (t:=40) (u':=.int .i64 ((nth os2 (i+k)+cr:Nat):Int)) rfl (aK (by omega)) ?_
   refine o1 ?_;refine nl ?_;refine sq ?_;refine sq ?_;refine rl ?_;(iterate 4 refine o1 ?_);refine nl ?_;refine bN rfl (fun h5=>?_) (fun h5=>?_)
   ·refine rd [] (fun i=>[11].contains i) mixed ?_
    refine dv 0 ?_;refine dv 1 ?_;refine dv 2 ?_;refine dv 3 ?_;refine fR 4 ([.v (.int .i64 ((nth xs (i):Nat):Int))]) (eL xs (k:=i) (by omega)) ?_
    refine dv 5 ?_;refine dv 6 ?_;refine dv 7 ?_;refine fR 8 ([.v (.int .i64 ((nth ys (k):Nat):Int))]) (eL ys (k:=k) (by omega)) ?_
    refine dv 9 ?_;refine WD.cast (t:=54) (u':=.int .i64 ((nth xs i*nth ys k:Nat):Int)) rfl (aK (Int.natCast_mul _ _).symm) ?_;refine dv 10 ?_
    refine WD.cast (t:=55) (u':=.int .i64 ((nth os2 (i+k)+cr+nth xs i*nth ys k:Nat):Int)) rfl (aK (by omega)) ?_
    refine dE 11 (by kernel_rfl) rfl rfl aA rfl (by trivial) ?_ (fun h=>by first | rfl | cases h)
    refine aO ?_;refine sq ?_;refine rl ?_;(iterate 4 refine o1 ?_);refine WL.cast (t:=59) (u':=.int .i64 ((i+k:Nat):Int)) rfl (aK (by omega)) ?_
    refine o1 ?_;refine o1 ?_;refine WL.cast (t:=61) (u':=.int .i64 (((nth os2 (i+k)+cr+nth xs i*nth ys k)%65536:Nat):Int)) rfl (aK (jQ _ 65536)) ?_;refine o1 ?_
    refine qE (jJ os2 (k:=i+k) (v:=(nth os2 (i+k)+cr+nth xs i*nth ys k)%65536) (by omega)) (lE os2 (by omega)) ?_
    refine nl ?_;refine rl ?_;refine o1 ?_;refine o1 ?_ (hC:=(gH 65536 (by omega) (by simp only[gA];omega)))
    refine WL.cast (t:=64) (u':=.int .i64 (((nth os2 (i+k)+cr+nth xs i*nth ys k)/65536:Nat):Int)) rfl (aK (eS _ 65536)) ?_;refine o1 ?_;refine nl ?_;refine rl ?_
    refine o1 ?_;refine o1 ?_;refine WL.cast (t:=32) (u':=.int .i64 ((k+1:Nat):Int)) rfl (aK (by omega)) ?_
    refine o1 ?_;refine nl ?_;have hst:=nH (x:=nth os2 (i+k)+cr+nth xs i*nth ys k) (by omega) hv2 (by rfl)
    exact⟨(k+1,(nth os2 (i+k)+cr+nth xs i*nth ys k)/65536,os2.set (i+k) ((nth os2 (i+k)+cr+nth xs i*nth ys k)%65536)),by dsimp only;omega,⟨by dsimp only;omega,hol2.set _ (Nat.mod_lt _ (by omega)),by rw[List.length_set];exact hos2,hst,by dsimp only;omega⟩,aH h0 [0] _ _ (by decide) ⟨rfl,rfl,rfl,rfl,rfl,rfl,trivial⟩ ⟨kT rfl rfl rfl,rfl⟩⟩
   refine sk ?_;refine sq ?_;refine rl ?_;(iterate 4 refine o1 ?_);refine WL.cast (t:=59) (u':=.int .i64 ((i+k:Nat):Int)) rfl (aK (by omega)) ?_
   refine o1 ?_;refine o1 ?_;refine WL.cast (t:=61) (u':=.int .i64 (((nth os2 (i+k)+cr)%65536:Nat):Int)) rfl (aK (jQ _ 65536)) ?_;refine o1 ?_
   refine qE (jJ os2 (k:=i+k) (v:=(nth os2 (i+k)+cr)%65536) (by omega)) (lE os2 (by omega)) ?_
   refine nl ?_;refine rl ?_;refine o1 ?_;refine o1 ?_ (hC:=(gH 65536 (by omega) (by simp only[gA];omega)))
   refine WL.cast (t:=64) (u':=.int .i64 (((nth os2 (i+k)+cr)/65536:Nat):Int)) rfl (aK (eS _ 65536)) ?_;refine o1 ?_;refine nl ?_;refine rl ?_;refine o1 ?_;refine o1 ?_
   refine WL.cast (t:=32) (u':=.int .i64 ((k+1:Nat):Int)) rfl (aK (by omega)) ?_
   refine o1 ?_;refine nl ?_;have hny:nth ys k=0:=dR (by omega)
   have hst:=nH (x:=nth os2 (i+k)+cr) (by omega) hv2 (by rw[hny,Nat.mul_zero,Nat.add_zero])
   exact⟨(k+1,(nth os2 (i+k)+cr)/65536,os2.set (i+k) ((nth os2 (i+k)+cr)%65536)),by dsimp only;omega,⟨by dsimp only;omega,hol2.set _ (Nat.mod_lt _ (by omega)),by rw[List.length_set];exact hos2,hst,by dsimp only;omega⟩,aH h0 [0] _ _ (by decide) ⟨rfl,rfl,rfl,rfl,rfl,rfl,trivial⟩ ⟨kT rfl rfl rfl,rfl⟩⟩
  refine ex ?_;refine rl ?_;refine o1 ?_;refine o1 ?_;refine WL.cast (t:=22) (u':=.int .i64 ((i+1:Nat):Int)) rfl (aK (by omega)) ?_
  refine o1 ?_;refine nl ?_;have hcr0:cr=0:=by omega
  rw[hcr0,Nat.mul_zero,Nat.add_zero,yX (by omega)]at hv2
  exact⟨(i+1,os2),by dsimp only;omega,⟨by dsimp only;omega,hol2,hos2,hv2⟩,aH h0 [0] _ _ (by decide) ⟨rfl,rfl,rfl,rfl,trivial⟩ ⟨kT rfl rfl rfl,rfl⟩⟩
 refine ex ?_;refine sq ?_;refine rl ?_;rw[bK 65536 (by omega)]at hv
 refine WL.sub (wG (i:=5) (zs':=os) rfl rfl rfl (by omega) rfl) ?_
 refine o1 ?_;refine ca (zC (by omega)) yM ⟨a1 rfl,rfl⟩ (.one (.t (sI false (trim os)))) ?_
 refine o1 ?_;refine nl ?_;refine rt ?_;exact en (.inl rfl) rfl (aT (.one (.id rfl))) (by decide) (fun h=>by cases h) (by rw[Cr (by omega) hol hv];rfl)
theorem fH {a b:Zi}{k k':Int}(ha:Zn a k) (hb:Zn b k'):aD true Tryz.prog 80 [] [gF a,gF b] (aM (kO (k*k'))):=by
 refine bL Tryz.func80 rfl Tryz.ntmps80 rfl aA rfl fun N w c0 h0=>?_
 have hkl:=ha.len
 have hkl':=hb.len
 refine sq ?_;refine rl ?_;refine bx 0 ?_;refine bx 1 ?_;refine al 2 ?_;refine nl ?_;refine sq ?_;refine rl ?_;refine ld ?_;refine ca (fA ha) mC ⟨aB rfl,rfl⟩ (kF (k)) ?_
 refine st ?_;refine nl ?_;refine sq ?_;refine rl ?_;refine ld ?_;refine ca (fA hb) mC ⟨aB rfl,rfl⟩ (kF (k')) ?_;refine st ?_;refine nl ?_;refine sq ?_
 refine rd [0,1,2] (fun i=>[14].contains i) mixed ?_
 refine dv 0 ?_;refine aV 1 ?_;refine dv 2 ?_;refine aV 3 ?_;refine dv 4 ?_;refine dv 5 ?_;refine aV 6 ?_;refine dv 8 ?_;refine aV 9 ?_
 have hn1:=dM (v:=vl 4294967296 (dg 4294967296 (k).natAbs)) (L:=(dg 4294967296 (k).natAbs).length) (by rw[bX (by omega)];exact Nat.le_refl _)
 refine aI 7 rfl (kZ (by omega) (aJ (by omega) _)) vN ⟨a1 rfl,rfl⟩ (.one (.t (sI false (dg 65536 (vl 4294967296 (dg 4294967296 (k).natAbs)))))) ?_
 have hn2:=dM (v:=vl 4294967296 (dg 4294967296 (k').natAbs)) (L:=(dg 4294967296 (k').natAbs).length) (by rw[bX (by omega)];exact Nat.le_refl _)
 refine aI 10 rfl (kZ (by omega) (aJ (by omega) _)) vN ⟨a1 rfl,rfl⟩ (.one (.t (sI false (dg 65536 (vl 4294967296 (dg 4294967296 (k').natAbs)))))) ?_
 have hn3:=uJ (xs:=(dg 65536 (vl 4294967296 (dg 4294967296 (k).natAbs)))) (ys:=(dg 65536 (vl 4294967296 (dg 4294967296 (k').natAbs)))) (aJ (by omega) _) (aJ (by omega) _)
 refine aI 11 rfl (Hu (by omega) (by omega) (aJ (by omega) _) (aJ (by omega) _)) Xz ⟨a1 rfl,a1 rfl,rfl⟩ (.one (.t (sI false (dg 65536 (vl 65536 (dg 65536 (vl 4294967296 (dg 4294967296 (k).natAbs)))*vl 65536 (dg 65536 (vl 4294967296 (dg 4294967296 (k').natAbs)))))))) ?_
 have hn4:=lS (vl 65536 (dg 65536 (vl 4294967296 (dg 4294967296 (k).natAbs)))*vl 65536 (dg 65536 (vl 4294967296 (dg 4294967296 (k').natAbs))))
 refine aI 12 rfl (sJ (zs:=(dg 4294967296 (vl 65536 (dg 65536 (vl 4294967296 (dg 4294967296 (k).natAbs)))*vl 65536 (dg 65536 (vl 4294967296 (dg 4294967296 (k').natAbs)))))) (by omega) (aJ (by omega) _) (vS _)) eC ⟨a1 rfl,rfl⟩ (.one (.t (sU false (dg 4294967296 (vl 65536 (dg 65536 (vl 4294967296 (dg 4294967296 (k).natAbs)))*vl 65536 (dg 65536 (vl 4294967296 (dg 4294967296 (k').natAbs)))))))) ?_
 refine iX 3 13 rfl (iS (K:=k*k') (by omega) (aJ (by omega) _) (by simp only[bX (B:=4294967296) (by omega),bX (B:=65536) (by omega)];exact Ld k k')) cY ⟨a1 rfl,a1 rfl,rfl⟩ ?_
 refine dst 14 ?_;refine aO ?_;refine rt ?_
 exact en (.inl rfl) rfl (aT (.agg (.cons (.id rfl) (.cons (.sl (trs:=aL (dg 4294967296 (k*k').natAbs)) rfl rfl (aY _) (aU _)) .nil)))) (by decide) (fun _=>dO (k*k')) rfl
theorem CL {u v:Nat}(hx:(dg 65536 (u)).length≤4398046511104) (hy:(dg 65536 (v)).length≤4398046511104):aD true Tryz.prog 142 [] [.one (.t (sI false (dg 65536 u))),.one (.t (sI false (dg 65536 v)))] (aM (.one (tv (.bool (decide (u<v)))))):=by
 refine bL Tryz.func142 rfl Tryz.ntmps142 rfl aA rfl fun N w c0 h0=>?_
 refine sq ?_;refine rl ?_;refine o1 ?_;refine nl ?_;refine sq ?_;refine sq ?_;refine rl ?_;(iterate 5 refine o1 ?_);refine nl ?_;refine bN rfl (fun h1=>?_) (fun h1=>?_)
 ·refine sq ?_;refine rl ?_;(iterate 6 refine o1 ?_);refine nl ?_;refine rt ?_
  refine en (.inl rfl) rfl (aT (bZ _)) (by decide) (fun _=>trivial) (congrArg (fun z=>FV.one (tv (.bool z))) ?_)
  exact Wc rfl rfl (by omega)
 refine sk ?_;refine sq ?_;refine sq ?_;refine rl ?_;(iterate 4 refine o1 ?_);refine nl ?_;refine bl ?_
 refine lp (γ:=Nat) (fun k=>cG [(0,.one (.t (sI false (dg 65536 u)))),(1,.one (.t (sI false (dg 65536 v)))),(5,.one (tv (.int .i64 ((k:Nat)-1))))]) (fun k=>([]:List Ob).map some) (fun k=>(∀j,k≤j→nth (dg 65536 (u)) j=nth (dg 65536 (v)) j)∧k≤(dg 65536 (u)).length) (fun k=>k) (dg 65536 (u)).length ⟨fun j hj=>by rw[dR (by omega),dR (by omega)],Nat.le_refl _⟩ (aH h0 [] _ _ (by decide) ⟨rfl,rfl,rfl,trivial⟩ rfl) fun k hk=>?_
 refine sq ?_;refine sq ?_;refine rl ?_;refine o1 ?_;refine o1 ?_;refine nl ?_;refine bN rfl (fun h2=>?_) (fun h2=>?_)
 ·refine sk ?_;refine sq ?_;refine bl ?_;refine sq ?_;refine rd [] (fun i=>[].contains i) mixed ?_
  refine dv 0 ?_;refine dv 1 ?_;refine WD.cast (t:=24) (u':=.int .i64 ((k-1:Nat):Int)) rfl (aK (by omega)) ?_
  refine dv 2 ?_;refine fR 3 ([.v (.int .i64 ((nth (dg 65536 (u)) (k-1):Nat):Int))]) (eL (dg 65536 (u)) (k:=k-1) (by omega)) ?_
  refine dv 4 ?_;refine dv 5 ?_;refine WD.cast (t:=28) (u':=.int .i64 ((k-1:Nat):Int)) rfl (aK (by omega)) ?_
  refine dv 6 ?_;refine fR 7 ([.v (.int .i64 ((nth (dg 65536 (v)) (k-1):Nat):Int))]) (eL (dg 65536 (v)) (k:=k-1) (by omega)) ?_
  refine dv 8 ?_;refine aO ?_;refine bN rfl (fun h3=>?_) (fun h3=>?_)
  ·refine sq ?_;refine rd [] (fun i=>[9].contains i) mixed ?_
   refine dv 0 ?_;refine dv 1 ?_;refine WD.cast (t:=33) (u':=.int .i64 ((k-1:Nat):Int)) rfl (aK (by omega)) ?_
   refine dv 2 ?_;refine fR 3 ([.v (.int .i64 ((nth (dg 65536 (u)) (k-1):Nat):Int))]) (eL (dg 65536 (u)) (k:=k-1) (by omega)) ?_
   refine dv 4 ?_;refine dv 5 ?_;refine WD.cast (t:=37) (u':=.int .i64 ((k-1:Nat):Int)) rfl (aK (by omega)) ?_
   refine dv 6 ?_;refine fR 7 ([.v (.int .i64 ((nth (dg 65536 (v)) (k-1):Nat):Int))]) (eL (dg 65536 (v)) (k:=k-1) (by omega)) ?_
   refine dv 8 ?_;refine dE 9 (by kernel_rfl) rfl rfl aA rfl (by trivial) ?_ (fun h=>by first | rfl | cases h)
   refine aO ?_;refine rt ?_;refine en (.inl rfl) rfl (aT (bZ _)) (by decide) (fun _=>trivial) (congrArg (fun z=>FV.one (tv (.bool z))) ?_)
   exact BT (k:=k-1) (fun j hj=>hk.1 j (by omega)) (by omega)
  refine sk ?_;refine rl ?_;(iterate 3 refine o1 ?_);refine nl ?_
  exact⟨k-1,by omega,⟨fun j hj=>(Nat.eq_or_lt_of_le hj).elim (fun h9=>by rw[←h9];omega) (fun h9=>hk.1 j (by omega)),by omega⟩,aH h0 [] _ _ (by decide) ⟨rfl,rfl,congrArg (fun z=>some (FV.one (tv (.int .i64 z)))) (by omega),trivial⟩ rfl⟩
 refine ex ?_;refine sq ?_;refine rl ?_;refine o1 ?_;refine nl ?_;refine rt ?_
 refine en (.inl rfl) rfl (aT (bZ _)) (by decide) (fun _=>trivial) (congrArg (fun z=>FV.one (tv (.bool z))) ?_)
 have he:=Rx (fun j=>hk.1 j (by omega))
 rw[bX (by omega),bX (by omega)]at he
 rw[he,decide_eq_false (Nat.lt_irrefl v)]
theorem CM {u v n:Nat}(hx:(dg 65536 (u)).length≤1099511627776) (hy:(dg 65536 (v)).length≤1099511627776) (hn:n≤65536) (hnv:n*v≤u):aD false Tryz.prog 134 [] [.one (.t (sI false (dg 65536 u))),.one (.t (sI false (dg 65536 v))),.one (tv (.int .i64 ((n:Nat):Int)))] (aM (.one (.t (sI false (dg 65536 (u-n*v)))))):=by
 refine bL Tryz.func134 rfl Tryz.ntmps134 rfl aA rfl fun N w c0 h0=>?_
 have hlu:=aJ (B:=65536) (by omega) u
 have hlv:=aJ (B:=65536) (by omega) v
 refine sq ?_;refine rl ?_;refine o1 ?_;refine nl ?_;refine sq ?_;refine rl ?_;refine o1 ?_;refine nl ?_;refine sq ?_;refine rl ?_;refine o1 ?_;refine nl ?_;refine sq ?_;refine sq ?_
 refine rl ?_;refine o1 ?_;refine nl ?_;refine bl ?_
 refine lp (γ:=Nat×Nat×List Nat) (fun s=>cG [(0,.one (.t (sI false (dg 65536 u)))),(1,.one (.t (sI false (dg 65536 v)))),(2,.one (tv (.int .i64 ((n:Nat):Int)))),(7,.one (.sl 0 0 s.1)),(8,.one (tv (.int .i64 ((s.2.1:Nat):Int)))),(9,.one (tv (.int .i64 ((s.1:Nat):Int))))]) (fun s=>[(⟨3,1,(cI s.2.2).map .t⟩:Ob)].map some) (fun s=>s.2.2.length=s.1∧Lim 65536 s.2.2∧vl 65536 s.2.2+n*vl 65536 ((dg 65536 (v)).take s.1)=vl 65536 ((dg 65536 (u)).take s.1)+65536^s.1*s.2.1∧s.2.1≤65536∧s.1≤(dg 65536 (u)).length) (fun s=>(dg 65536 (u)).length-s.1) (0,0,[]) ⟨rfl,Lim.nil,by simp[vl],Nat.zero_le _,Nat.zero_le _⟩ ((nr (i:=7) 0 3 1 rfl rfl rfl rfl).trans (aH h0 [0] _ _ (by decide) ⟨rfl,rfl,rfl,rfl,rfl,rfl,trivial⟩ ⟨bI (l:=[]) rfl,rfl⟩)) ?_
 rintro⟨k,br,os⟩ ⟨hos,hol,hv,hc1,hkm⟩;dsimp only at hos hol hv hc1 hkm⊢;have hn1:=hlu.nth (by omega) k
 have hn2:=hlv.nth (by omega) k
 have hmul:=Nat.mul_le_mul hn (Nat.le_of_lt_succ hn2)
 refine sq ?_;refine sq ?_;refine rl ?_;(iterate 4 refine o1 ?_);refine nl ?_;refine bN rfl (fun h1=>?_) (fun h1=>?_)
 ·refine sk ?_;refine sq ?_;refine bl ?_;refine sq ?_;refine rl ?_;(iterate 3 refine o1 ?_)
  refine fQ ([.v (.int .i64 ((nth (dg 65536 (u)) (k):Nat):Int))]) (eL (dg 65536 (u)) (k:=k) (by omega)) ?_
  (iterate 3 refine o1 ?_);refine nl ?_;refine sq ?_;refine sq ?_;refine rl ?_;(iterate 4 refine o1 ?_);refine nl ?_;refine bN rfl (fun h2=>?_) (fun h2=>?_)
  ·refine rl ?_;(iterate 5 refine o1 ?_);refine fQ ([.v (.int .i64 ((nth (dg 65536 (v)) (k):Nat):Int))]) (eL (dg 65536 (v)) (k:=k) (by omega)) ?_
   (iterate 3 refine o1 ?_);refine nl ?_;refine sq ?_;refine rl ?_;refine o1 ?_;refine nl ?_;refine sq ?_;refine sq ?_;refine rl ?_;refine o1 ?_;refine o1 ?_;refine nl ?_
   refine bN rfl (fun h3=>?_) (fun h3=>?_)
   ·refine sq ?_;refine rl ?_;refine o1 ?_;refine o1 ?_
    refine WL.cast (t:=38) (u':=.int .i64 ((65535+n*nth (dg 65536 (v)) k+br-nth (dg 65536 (u)) k:Nat):Int)) rfl (aK (by omega)) ?_
    refine o1 ?_ (hC:=(gH 65536 (by omega) (by simp only[gA];omega)))
    refine WL.cast (t:=39) (u':=.int .i64 (((65535+n*nth (dg 65536 (v)) k+br-nth (dg 65536 (u)) k)/65536:Nat):Int)) rfl (aK (eS _ 65536)) ?_;refine o1 ?_;refine nl ?_
    refine rl ?_;(iterate 5 refine o1 ?_);refine nl ?_;refine rl ?_;refine o1 ?_;refine o1 ?_
    refine WL.cast (t:=45) (u':=.int .i64 ((nth (dg 65536 (u)) k+65536*((65535+n*nth (dg 65536 (v)) k+br-nth (dg 65536 (u)) k)/65536)-br-n*nth (dg 65536 (v)) k:Nat):Int)) rfl (aK (by omega)) ?_
    refine bs 1 ?_;refine dV (j:=2) aA rfl rfl rfl rfl (.sl rfl (by rw[List.length_map,fN,hos];omega)) (.sl rfl rfl rfl) rfl rfl rfl (by omega) (by omega) ?_
    refine o1 ?_;refine nl ?_;refine rl ?_;refine o1 ?_;refine o1 ?_;refine WL.cast (t:=16) (u':=.int .i64 ((k+1:Nat):Int)) rfl (aK (by omega)) ?_
    refine o1 ?_;refine nl ?_
    have hst:=pF (d:=nth (dg 65536 (u)) k+65536*((65535+n*nth (dg 65536 (v)) k+br-nth (dg 65536 (u)) k)/65536)-br-n*nth (dg 65536 (v)) k) (br:=br) (br':=(65535+n*nth (dg 65536 (v)) k+br-nth (dg 65536 (u)) k)/65536) hos hv (by omega)
    exact⟨(k+1,(65535+n*nth (dg 65536 (v)) k+br-nth (dg 65536 (u)) k)/65536,os++[nth (dg 65536 (u)) k+65536*((65535+n*nth (dg 65536 (v)) k+br-nth (dg 65536 (u)) k)/65536)-br-n*nth (dg 65536 (v)) k]),by dsimp only;omega,⟨by simp[hos],hol.append (Lim.cons (by omega) Lim.nil),hst,by dsimp only;omega,by dsimp only;omega⟩,aH h0 [2] _ _ (by decide) ⟨rfl,rfl,rfl,rfl,rfl,rfl,trivial⟩ ⟨kT rfl (fO _ [nth (dg 65536 (u)) k+65536*((65535+n*nth (dg 65536 (v)) k+br-nth (dg 65536 (u)) k)/65536)-br-n*nth (dg 65536 (v)) k]) rfl,rfl⟩⟩
   refine sk ?_;refine rl ?_;refine o1 ?_;refine o1 ?_;refine WL.cast (t:=45) (u':=.int .i64 ((nth (dg 65536 (u)) k-br-n*nth (dg 65536 (v)) k:Nat):Int)) rfl (aK (by omega)) ?_
   refine bs 1 ?_;refine dV (j:=2) aA rfl rfl rfl rfl (.sl rfl (by rw[List.length_map,fN,hos];omega)) (.sl rfl rfl rfl) rfl rfl rfl (by omega) (by omega) ?_
   refine o1 ?_;refine nl ?_;refine rl ?_;refine o1 ?_;refine o1 ?_;refine WL.cast (t:=16) (u':=.int .i64 ((k+1:Nat):Int)) rfl (aK (by omega)) ?_
   refine o1 ?_;refine nl ?_;have hst:=pF (d:=nth (dg 65536 (u)) k-br-n*nth (dg 65536 (v)) k) (br:=br) (br':=0) hos hv (by omega)
   exact⟨(k+1,0,os++[nth (dg 65536 (u)) k-br-n*nth (dg 65536 (v)) k]),by dsimp only;omega,⟨by simp[hos],hol.append (Lim.cons (by omega) Lim.nil),hst,by dsimp only;omega,by dsimp only;omega⟩,aH h0 [2] _ _ (by decide) ⟨rfl,rfl,rfl,rfl,rfl,rfl,trivial⟩ ⟨kT rfl (fO _ [nth (dg 65536 (u)) k-br-n*nth (dg 65536 (v)) k]) rfl,rfl⟩⟩
  refine sk ?_;refine sq ?_;refine rl ?_;refine o1 ?_;refine nl ?_;refine sq ?_;refine sq ?_;refine rl ?_;refine o1 ?_;refine o1 ?_;refine nl ?_
  refine bN rfl (fun h4=>?_) (fun h4=>?_)
  ·refine sq ?_;refine rl ?_;refine o1 ?_;refine o1 ?_;refine WL.cast (t:=38) (u':=.int .i64 ((65535+br-nth (dg 65536 (u)) k:Nat):Int)) rfl (aK (by omega)) ?_
   refine o1 ?_ (hC:=(gH 65536 (by omega) (by simp only[gA];omega)))
   refine WL.cast (t:=39) (u':=.int .i64 (((65535+br-nth (dg 65536 (u)) k)/65536:Nat):Int)) rfl (aK (eS _ 65536)) ?_;refine o1 ?_;refine nl ?_;refine rl ?_
   (iterate 5 refine o1 ?_);refine nl ?_;refine rl ?_;refine o1 ?_;refine o1 ?_
   refine WL.cast (t:=45) (u':=.int .i64 ((nth (dg 65536 (u)) k+65536*((65535+br-nth (dg 65536 (u)) k)/65536)-br:Nat):Int)) rfl (aK (by omega)) ?_
   refine bs 1 ?_;refine dV (j:=2) aA rfl rfl rfl rfl (.sl rfl (by rw[List.length_map,fN,hos];omega)) (.sl rfl rfl rfl) rfl rfl rfl (by omega) (by omega) ?_
   refine o1 ?_;refine nl ?_;refine rl ?_;refine o1 ?_;refine o1 ?_;refine WL.cast (t:=16) (u':=.int .i64 ((k+1:Nat):Int)) rfl (aK (by omega)) ?_
   refine o1 ?_;refine nl ?_;have hny:nth (dg 65536 (v)) k=0:=dR (by omega)
   have hst:=pF (d:=nth (dg 65536 (u)) k+65536*((65535+br-nth (dg 65536 (u)) k)/65536)-br) (br:=br) (br':=(65535+br-nth (dg 65536 (u)) k)/65536) hos hv (by rw[hny,Nat.mul_zero];omega)
   exact⟨(k+1,(65535+br-nth (dg 65536 (u)) k)/65536,os++[nth (dg 65536 (u)) k+65536*((65535+br-nth (dg 65536 (u)) k)/65536)-br]),by dsimp only;omega,⟨by simp[hos],hol.append (Lim.cons (by omega) Lim.nil),hst,by dsimp only;omega,by dsimp only;omega⟩,aH h0 [2] _ _ (by decide) ⟨rfl,rfl,rfl,rfl,rfl,rfl,trivial⟩ ⟨kT rfl (fO _ [nth (dg 65536 (u)) k+65536*((65535+br-nth (dg 65536 (u)) k)/65536)-br]) rfl,rfl⟩⟩
  refine sk ?_;refine rl ?_;refine o1 ?_;refine o1 ?_;refine WL.cast (t:=45) (u':=.int .i64 ((nth (dg 65536 (u)) k-br:Nat):Int)) rfl (aK (by omega)) ?_
  refine bs 1 ?_;refine dV (j:=2) aA rfl rfl rfl rfl (.sl rfl (by rw[List.length_map,fN,hos];omega)) (.sl rfl rfl rfl) rfl rfl rfl (by omega) (by omega) ?_
  refine o1 ?_;refine nl ?_;refine rl ?_;refine o1 ?_;refine o1 ?_;refine WL.cast (t:=16) (u':=.int .i64 ((k+1:Nat):Int)) rfl (aK (by omega)) ?_
  refine o1 ?_;refine nl ?_;have hny:nth (dg 65536 (v)) k=0:=dR (by omega)
  have hst:=pF (d:=nth (dg 65536 (u)) k-br) (br:=br) (br':=0) hos hv (by rw[hny,Nat.mul_zero];omega)
  exact⟨(k+1,0,os++[nth (dg 65536 (u)) k-br]),by dsimp only;omega,⟨by simp[hos],hol.append (Lim.cons (by omega) Lim.nil),hst,by dsimp only;omega,by dsimp only;omega⟩,aH h0 [2] _ _ (by decide) ⟨rfl,rfl,rfl,rfl,rfl,rfl,trivial⟩ ⟨kT rfl (fO _ [nth (dg 65536 (u)) k-br]) rfl,rfl⟩⟩
 refine ex ?_;refine sq ?_;refine rl ?_;have hve:vl 65536 os=u-n*v:=Wd rfl (by omega) hol hv hnv
 refine WL.sub (wG (i:=7) (zs':=os) rfl rfl rfl (by omega) rfl) ?_
 refine o1 ?_;refine ca (zC (by omega)) yM ⟨a1 rfl,rfl⟩ (.one (.t (sI false (trim os)))) ?_
 refine o1 ?_;refine nl ?_;refine rt ?_;exact en (.inl rfl) rfl (aT (.one (.id rfl))) (by decide) (fun h=>by cases h) (by rw[Cr (by omega) hol hve];rfl)
theorem Ws {u v:Nat}(hx:(dg 65536 (u)).length≤1099511627776) (hy:(dg 65536 (v)).length≤1099511627776) (huv:u<65536*v):aD true Tryz.prog 133 [] [.one (.t (sI false (dg 65536 u))),.one (.t (sI false (dg 65536 v)))] (aM (.one (tv (.int .i64 ((u/v:Nat):Int))))):=by
 refine bL Tryz.func133 rfl Tryz.ntmps133 rfl aA rfl fun N w c0 h0=>?_
 refine sq ?_;refine rl ?_;refine o1 ?_;refine nl ?_;refine sq ?_;refine rl ?_;refine o1 ?_;refine o1 ?_;refine nl ?_;refine sq ?_;refine bl ?_
 refine lp (γ:=Nat×Nat) (fun s=>cG [(0,.one (.t (sI false (dg 65536 u)))),(1,.one (.t (sI false (dg 65536 v)))),(5,.one (tv (.int .i64 ((s.1:Nat):Int)))),(6,.one (tv (.int .i64 ((s.2:Nat):Int))))]) (fun s=>([]:List Ob).map some) (fun s=>s.1*v≤u∧u<s.2*v∧s.1<s.2∧s.2≤65536) (fun s=>s.2-s.1) (0,65536) ⟨by simp,huv,by decide,Nat.le_refl _⟩ (aH h0 [] _ _ (by decide) ⟨rfl,rfl,rfl,rfl,trivial⟩ rfl) ?_
 rintro⟨lo,hi⟩ ⟨h91,h92,h93,h94⟩;dsimp only at h91 h92 h93 h94⊢;refine sq ?_;refine sq ?_;refine rl ?_;(iterate 3 refine o1 ?_)
 refine WL.cast (t:=10) (u':=.int .i64 ((hi-lo:Nat):Int)) rfl (aK (by omega)) ?_
 refine o1 ?_;refine nl ?_;refine bN rfl (fun h1=>?_) (fun h1=>?_)
 ·refine sk ?_;refine bl ?_;refine sq ?_;refine rl ?_;(iterate 3 refine o1 ?_);refine WL.cast (t:=14) (u':=.int .i64 ((lo+hi:Nat):Int)) rfl (aK (by omega)) ?_
  refine o1 ?_ (hC:=(gH 2 (by omega) (by simp only[gA];omega)))
  refine WL.cast (t:=15) (u':=.int .i64 (((lo+hi)/2:Nat):Int)) rfl (aK (eS _ 2)) ?_;refine o1 ?_;refine nl ?_;refine sq ?_;refine rl ?_;(iterate 3 refine o1 ?_)
  refine bs 0 ?_;refine WL.sub (wG (i:=19) (zs:=[(lo+hi)/2]) (zs':=[(lo+hi)/2]) rfl rfl rfl rfl rfl) ?_;have h1l:[(lo+hi)/2].length=1:=rfl
  have hn2:=uJ (xs:=(dg 65536 (v))) (ys:=[(lo+hi)/2]) (aJ (by omega) _) (Lim.cons (d:=(lo+hi)/2) (by omega) Lim.nil)
  refine ca (Hu (by omega) (by omega) (aJ (by omega) _) (Lim.cons (d:=(lo+hi)/2) (by omega) Lim.nil)) Xz ⟨a1 rfl,a1 rfl,rfl⟩ (.one (.t (sI false (dg 65536 (vl 65536 (dg 65536 (v))*vl 65536 [(lo+hi)/2]))))) ?_
  refine ca (CL (by omega) (by omega)) KH ⟨a1 rfl,a1 rfl,rfl⟩ (.one (tv (.bool (decide (u<vl 65536 (dg 65536 (v))*vl 65536 [(lo+hi)/2]))))) ?_
  refine nl ?_;refine bN rfl (fun h3=>?_) (fun h3=>?_)
  ·refine rl ?_;refine o1 ?_;refine o1 ?_;refine nl ?_;rw[bX (by omega),pR,Nat.mul_comm]at h3
   exact⟨(lo,(lo+hi)/2),by dsimp only;omega,⟨by dsimp only;omega,by dsimp only;omega,by dsimp only;omega,by dsimp only;omega⟩,aH h0 [] _ _ (by decide) ⟨rfl,rfl,rfl,rfl,trivial⟩ rfl⟩
  refine rl ?_;refine o1 ?_;refine o1 ?_;refine nl ?_;rw[bX (by omega),pR,Nat.mul_comm]at h3
  exact⟨((lo+hi)/2,hi),by dsimp only;omega,⟨by dsimp only;omega,by dsimp only;omega,by dsimp only;omega,by dsimp only;omega⟩,aH h0 [] _ _ (by decide) ⟨rfl,rfl,rfl,rfl,trivial⟩ rfl⟩
 refine ex ?_;refine sq ?_;refine rl ?_;refine o1 ?_;refine o1 ?_;refine nl ?_;refine rt ?_
 exact en (.inl rfl) rfl (aT (bZ _)) (by decide) (fun _=>trivial) (congrArg (fun z=>FV.one (tv (.int .i64 ((z:Nat):Int)))) (Sb h91 h92 (by omega)).symm)
theorem St {xs zs:List Nat}(hx:xs.length≤4398046511104) (hz:trim xs=zs):aD false Tryz.prog 132 [] [.one (.t (sI false xs))] (aM (.one (.t (sI false zs)))):=by
 subst hz
 exact zC hx
theorem Hv {u v:Nat}(hx:(dg 65536 (u)).length≤549755813888) (hy:(dg 65536 (v)).length≤549755813888) (hvp:0<v):aD false Tryz.prog 110 [] [.one (.t (sI false (dg 65536 u))),.one (.t (sI false (dg 65536 v)))] (aM (.tup [.one (.t (sI false (dg 65536 (u/v)))),.one (.t (sI false (dg 65536 (u%v))))])):=by
 refine bL Tryz.func110 rfl Tryz.ntmps110 rfl aA rfl fun N w c0 h0=>?_
 have hlu:=aJ (B:=65536) (by omega) u
 refine sq ?_;refine rl ?_;refine o1 ?_;refine o1 ?_;refine nl ?_;refine sq ?_;refine rl ?_;refine o1 ?_;refine o1 ?_
 refine WL.cast (t:=11) (u':=.int .i64 (((dg 65536 (u)).length:Nat):Int)) rfl (aK rfl) ?_;refine mk (m:=(dg 65536 (u)).length) 0 (by omega) (Hk _) ?_
 refine o1 ?_;refine nl ?_;refine sq ?_;refine rl ?_;refine o1 ?_;refine nl ?_;refine sq ?_;refine sq ?_;refine rl ?_;(iterate 4 refine o1 ?_);refine nl ?_;refine bl ?_
 refine lp (γ:=Nat×List Nat×Nat) (fun s=>cG [(0,.one (.t (sI false (dg 65536 u)))),(1,.one (.t (sI false (dg 65536 v)))),(6,.one (.sl 0 0 (dg 65536 (u)).length)),(7,.one (.t (sI false (dg 65536 s.2.2)))),(8,.one (tv (.int .i64 ((s.1:Nat)-1))))]) (fun s=>[(⟨3,1,(cI s.2.1).map .t⟩:Ob)].map some) (fun s=>s.2.1.length=(dg 65536 (u)).length∧Lim 65536 s.2.1∧vl 65536 ((dg 65536 (u)).drop s.1)=v*vl 65536 (s.2.1.drop s.1)+s.2.2∧s.2.2<v∧s.1≤(dg 65536 (u)).length) (fun s=>s.1) ((dg 65536 (u)).length,List.replicate (dg 65536 (u)).length 0,0) ⟨List.length_replicate,Lim.replicate (by omega) _,by dsimp only;rw[List.drop_of_length_le (Nat.le_refl _),List.drop_of_length_le (by rw[List.length_replicate];exact Nat.le_refl _)];simp[vl],hvp,Nat.le_refl _⟩ (((nr (i:=7) 1 3 1 rfl rfl rfl rfl).trans (wG (i:=7) (k:=1) (zs:=[]) (zs':=dg 65536 0) rfl rfl rfl rfl (lV _).symm)).trans (aH h0 [0] _ _ (by decide) ⟨rfl,rfl,rfl,rfl,rfl,trivial⟩ ⟨kT rfl rfl rfl,rfl⟩)) ?_
 rintro⟨k,os,r⟩ ⟨hos,hol,hv,hr,hkm⟩;dsimp only at hos hol hv hr hkm⊢;have hrl:=cM (B:=65536) (by omega) (Nat.le_of_lt hr)
 have hau:=hlu.nth (by omega) (k-1)
 have hce:=We (a:=nth (dg 65536 (u)) (k-1)) hau hr
 have hql:(nth (dg 65536 (u)) (k-1)+65536*r)/v<65536:=(Nat.div_lt_iff_lt_mul hvp).2 (by omega)
 refine sq ?_;refine sq ?_;refine rl ?_;refine o1 ?_;refine o1 ?_;refine nl ?_;refine bN rfl (fun h1=>?_) (fun h1=>?_)
 ·refine sk ?_;refine sq ?_;refine bl ?_;refine sq ?_;refine rl ?_;refine o1 ?_;refine o1 ?_;refine WL.cast (t:=21) (u':=.int .i64 ((k-1:Nat):Int)) rfl (aK (by omega)) ?_
  refine o1 ?_;refine fQ ([.v (.int .i64 ((nth (dg 65536 (u)) (k-1):Nat):Int))]) (eL (dg 65536 (u)) (k:=k-1) (by omega)) ?_
  refine bs 1 ?_;refine o1 ?_;refine nl ?_;refine sq ?_;refine rl ?_;refine o1 ?_;refine o1 ?_
  refine dV (j:=2) aA rfl rfl rfl rfl (.sl rfl (rfl)) .fz (GZ _) (Wa _) rfl (by omega) (by omega) ?_
  refine WL.sub (wG (i:=27) (k:=2) (zs:=[nth (dg 65536 (u)) (k-1)]++dg 65536 r) (zs':=[nth (dg 65536 (u)) (k-1)]++dg 65536 r) rfl rfl (congrArg (fun l=>some (⟨3,1,l⟩:Ob)) (fO [nth (dg 65536 (u)) (k-1)] (dg 65536 r))) (by rw[List.length_append];rfl) rfl) ?_
  refine ca (St (zs:=(dg 65536 (nth (dg 65536 (u)) (k-1)+65536*r))) (by rw[List.length_append];exact Nat.le_trans (Nat.add_le_add_left hrl 1) (by omega)) (uK (by omega))) yM ⟨a1 rfl,rfl⟩ (.one (.t (sI false (dg 65536 (nth (dg 65536 (u)) (k-1)+65536*r))))) ?_
  refine o1 ?_;refine nl ?_;refine sq ?_;refine rl ?_;refine o1 ?_;refine o1 ?_;refine WL.cast (t:=30) (u':=.int .i64 ((k-1:Nat):Int)) rfl (aK (by omega)) ?_
  refine o1 ?_;refine o1 ?_;refine ca (Ws (by omega) (by omega) (by omega)) KD ⟨a1 rfl,a1 rfl,rfl⟩ (.one (tv (.int .i64 (((nth (dg 65536 (u)) (k-1)+65536*r)/v:Nat):Int)))) ?_
  refine o1 ?_;refine qE (jJ os (k:=k-1) (v:=(nth (dg 65536 (u)) (k-1)+65536*r)/v) (by omega)) (lE os (by omega)) ?_
  refine nl ?_;refine rl ?_;(iterate 4 refine o1 ?_);refine WL.cast (t:=38) (u':=.int .i64 ((k-1:Nat):Int)) rfl (aK (by omega)) ?_
  refine o1 ?_;refine Jg (jZ (os.set (k-1) ((nth (dg 65536 (u)) (k-1)+65536*r)/v)) (k:=k-1) (by rw[List.length_set];omega)) ?_
  refine WL.cast (t:=40) (u':=.int .i64 (((nth (dg 65536 (u)) (k-1)+65536*r)/v:Nat):Int)) rfl (aK (by rw[Hi (by omega)])) ?_
  refine ca (CM (by omega) (by omega) (by omega) (Nat.div_mul_le_self _ _)) KE ⟨a1 rfl,a1 rfl,a1 rfl,rfl⟩ (.one (.t (sI false (dg 65536 (nth (dg 65536 (u)) (k-1)+65536*r-(nth (dg 65536 (u)) (k-1)+65536*r)/v*v))))) ?_
  refine o1 ?_;refine nl ?_;refine rl ?_;(iterate 3 refine o1 ?_);refine nl ?_
  have hst:=Oh (k:=k) (q:=(nth (dg 65536 (u)) (k-1)+65536*r)/v) (by omega) (by omega) (by omega) hv rfl rfl
  have hmod:=Nat.mod_lt (nth (dg 65536 (u)) (k-1)+65536*r) hvp
  have hdm:=Nat.div_add_mod' (nth (dg 65536 (u)) (k-1)+65536*r) v
  exact⟨(k-1,os.set (k-1) ((nth (dg 65536 (u)) (k-1)+65536*r)/v),nth (dg 65536 (u)) (k-1)+65536*r-(nth (dg 65536 (u)) (k-1)+65536*r)/v*v),by dsimp only;omega,⟨by rw[List.length_set];exact hos,hol.set _ hql,hst,by dsimp only;omega,by dsimp only;omega⟩,aH h0 [0] _ _ (by decide) ⟨rfl,rfl,rfl,rfl,congrArg (fun z=>some (FV.one (tv (.int .i64 z)))) (by omega),trivial⟩ ⟨kT rfl rfl rfl,rfl⟩⟩
 refine ex ?_;refine sq ?_;refine rl ?_;have hk0:k=0:=by omega
 rw[hk0,List.drop_zero,List.drop_zero,bX (by omega)]at hv
 obtain⟨hq1,hq2⟩:=Sc hv hr
 refine WL.sub (wG (i:=6) (zs':=os) rfl rfl rfl (by omega) rfl) ?_
 refine o1 ?_;refine ca (St (zs:=(dg 65536 (u/v))) (by omega) (by rw[Cr (by omega) hol rfl,hq1])) yM ⟨a1 rfl,rfl⟩ (.one (.t (sI false (dg 65536 (u/v))))) ?_
 (iterate 3 refine o1 ?_);refine nl ?_;refine rt ?_;exact en (.inl rfl) rfl (hG (.cons (.one (.id rfl)) (.cons (.one (.id rfl)) .nil))) (by decide) (fun h=>by cases h) (by rw[hq2];rfl)
theorem Es {a b:Zi}{k k':Int}(ha:Zn a k) (hb:Zn b k'):aD true Tryz.prog 70 [] [gF a,gF b] (aM (kO ((Int.gcd k k':Nat):Int))):=by
 refine bL Tryz.func70 rfl Tryz.ntmps70 rfl aA rfl fun N w c0 h0=>?_
 have hkl:=ha.len
 have hkl':=hb.len
 refine sq ?_;refine rl ?_;refine bx 0 ?_;refine bx 1 ?_;refine al 2 ?_;refine nl ?_;refine sq ?_;refine rd [0,1,2] (fun i=>[9].contains i) mixed ?_
 refine aV 0 ?_;refine aV 4 ?_;refine aI 1 rfl (fA ha) mC ⟨aB rfl,rfl⟩ (kF (k)) ?_;refine df 2 ?_
 have hn1:=dM (v:=vl 4294967296 (dg 4294967296 (k).natAbs)) (L:=(dg 4294967296 (k).natAbs).length) (by rw[bX (by omega)];exact Nat.le_refl _)
 refine aI 3 rfl (kZ (by omega) (aJ (by omega) _)) vN ⟨a1 rfl,rfl⟩ (.one (.t (sI false (dg 65536 (vl 4294967296 (dg 4294967296 (k).natAbs)))))) ?_
 refine aI 5 rfl (fA hb) mC ⟨aB rfl,rfl⟩ (kF (k')) ?_;refine df 6 ?_
 have hn2:=dM (v:=vl 4294967296 (dg 4294967296 (k').natAbs)) (L:=(dg 4294967296 (k').natAbs).length) (by rw[bX (by omega)];exact Nat.le_refl _)
 refine aI 7 rfl (kZ (by omega) (aJ (by omega) _)) vN ⟨a1 rfl,rfl⟩ (.one (.t (sI false (dg 65536 (vl 4294967296 (dg 4294967296 (k').natAbs)))))) ?_
 refine dE 8 (by kernel_rfl) rfl rfl aA rfl (by trivial) ?_ (fun h=>by first | rfl | cases h)
 refine dE 9 (by kernel_rfl) rfl rfl aA rfl (by trivial) ?_ (fun h=>by first | rfl | cases h)
 refine aO ?_;refine sq ?_;refine bl ?_
 refine lp (γ:=Nat×Nat) (fun s=>cG [(4,.one (.pt 0 0)),(5,.one (.t (sI false (dg 65536 s.1)))),(6,.one (.t (sI false (dg 65536 s.2))))]) (fun s=>[(⟨34,0,[tv (.bool false),tv (.slice none 0 0)]⟩:Ob)].map some) (fun s=>Nat.gcd s.1 s.2=Int.gcd k k'∧(dg 65536 s.1).length≤549755813888∧(dg 65536 s.2).length≤549755813888) (fun s=>s.2) (vl 4294967296 (dg 4294967296 (k).natAbs),vl 4294967296 (dg 4294967296 (k').natAbs)) ⟨by dsimp only;rw[bX (by omega),bX (by omega)];rfl,by dsimp only;omega,by dsimp only;omega⟩ (aH h0 [2] _ _ (by decide) ⟨rfl,rfl,rfl,trivial⟩ ⟨oe rfl rfl,rfl⟩) ?_
 rintro⟨ga,gb⟩ ⟨hg,hga,hgb⟩;dsimp only at hg hga hgb⊢;have hbz:gb=0↔(dg 65536 gb).length=0:=by rw[List.length_eq_zero_iff,eT (by omega)]
 refine sq ?_;refine sq ?_;refine rl ?_;(iterate 3 refine o1 ?_);refine nl ?_;refine bN rfl (fun h3=>?_) (fun h3=>?_)
 ·refine sk ?_;refine bl ?_;refine sq ?_;have hb0:0<gb:=by omega
  refine rl ?_;refine o1 ?_;refine o1 ?_;have hn4:=cM (B:=65536) (by omega) (Nat.div_le_self (ga) (gb))
  have hn5:=cM (B:=65536) (by omega) (Nat.mod_le (ga) (gb))
  refine ca (Hv (by omega) (by omega) hb0) Xy ⟨a1 rfl,a1 rfl,rfl⟩ (.tup [.one (.t (sI false (dg 65536 ((ga)/(gb))))),.one (.t (sI false (dg 65536 ((ga)%(gb)))))]) ?_
  (iterate 5 refine o1 ?_);refine nl ?_;refine sq ?_;refine rl ?_;refine o1 ?_;refine o1 ?_;refine nl ?_;refine rl ?_;refine o1 ?_;refine o1 ?_;refine nl ?_;have hmod:=Nat.mod_lt ga hb0
  have hml:=cM (B:=65536) (by omega) (Nat.le_of_lt hmod)
  exact⟨(gb,ga%gb),by dsimp only;omega,⟨by dsimp only;rw[←hg,Nat.gcd_comm gb (ga%gb),←Nat.gcd_rec,Nat.gcd_comm],by dsimp only;omega,by dsimp only;omega⟩,aH h0 [0] _ _ (by decide) ⟨rfl,rfl,rfl,trivial⟩ ⟨oe rfl rfl,rfl⟩⟩
 refine ex ?_;refine sq ?_;have hb00:gb=0:=by omega
 rw[hb00,Nat.gcd_zero_right]at hg;refine rl ?_;refine o1 ?_;have hn6:=lS (ga)
 refine ca (sJ (zs:=(dg 4294967296 (ga))) (by omega) (aJ (by omega) _) (vS _)) eC ⟨a1 rfl,rfl⟩ (.one (.t (sU false (dg 4294967296 (ga))))) ?_
 refine fK 1 (iS (K:=((Int.gcd k k':Nat):Int)) (by omega) (aJ (by omega) _) (by rw[bX (by omega),hg];rfl)) cY ⟨a1 rfl,a1 rfl,rfl⟩ ?_
 refine st ?_;refine nl ?_;refine rt ?_
 exact en (.inl rfl) rfl (aT (.agg (.cons (.id rfl) (.cons (.sl (trs:=aL (dg 4294967296 (((Int.gcd k k':Nat):Int)).natAbs)) rfl rfl (aY _) (aU _)) .nil)))) (by decide) (fun _=>dO (((Int.gcd k k':Nat):Int))) rfl
theorem Qc {a b:Zi}{k k':Int}(ha:Zn a k) (hb:Zn b k'):aD false Tryz.prog 71 [] [gF a,gF b] (aM (.tup [kF (if k'=0 then 0 else k.fdiv k'),kF (if k'=0 then 0 else k.fmod k'),.one (tv (.int .i64 (if k'=0 then 20 else 0)))])):=by
 refine bL Tryz.func71 rfl Tryz.ntmps71 rfl aA rfl fun N w c0 h0=>?_
 have hkl:=ha.len
 have hkl':=hb.len
 refine sq ?_;refine rl ?_;refine bx 0 ?_;refine bx 1 ?_;refine al 2 ?_;refine al 3 ?_;refine o1 ?_;refine nl ?_;refine sq ?_;refine rl ?_;refine ld ?_
 refine ca (fA ha) mC ⟨aB rfl,rfl⟩ (kF (k)) ?_;refine st ?_;refine nl ?_;refine sq ?_;refine rl ?_;refine ld ?_;refine ca (fA hb) mC ⟨aB rfl,rfl⟩ (kF (k')) ?_;refine st ?_
 refine nl ?_;refine sq ?_;refine sq ?_;refine rl ?_;refine o1 ?_;refine ld ?_;refine o1 ?_;refine o1 ?_;refine nl ?_;refine bN rfl (fun h1=>?_) (fun h1=>?_)
 ·refine sq ?_;refine rl ?_;refine o1 ?_;refine o1 ?_;refine st ?_;refine st ?_;refine o1 ?_;refine nl ?_;refine rt ?_;have hk0:k'=0:=by have:=Im (k:=k') (by omega);omega
  exact en (.inl rfl) rfl (nX (.cons (.agg (.cons (.id rfl) (.cons .nilf .nil))) (.cons (.agg (.cons (.id rfl) (.cons .nilf .nil))) (.cons (bZ _) .nil)))) (by decide) (fun h=>by cases h) (by rw[if_pos hk0,if_pos hk0,if_pos hk0,←vA];rfl)
 refine sk ?_;refine sq ?_;have hkn:k'≠0:=Sd (by omega)
 have hva:0<vl 4294967296 (dg 4294967296 (k').natAbs):=by rw[bX (by omega)];omega
 refine rd [0,1,2,3] (fun i=>[11].contains i) mixed ?_
 refine dv 0 ?_;refine aV 1 ?_;refine dv 3 ?_;refine aV 4 ?_
 have hn2:=dM (v:=vl 4294967296 (dg 4294967296 (k).natAbs)) (L:=(dg 4294967296 (k).natAbs).length) (by rw[bX (by omega)];exact Nat.le_refl _)
 refine aI 2 rfl (kZ (by omega) (aJ (by omega) _)) vN ⟨a1 rfl,rfl⟩ (.one (.t (sI false (dg 65536 (vl 4294967296 (dg 4294967296 (k).natAbs)))))) ?_
 have hn3:=dM (v:=vl 4294967296 (dg 4294967296 (k').natAbs)) (L:=(dg 4294967296 (k').natAbs).length) (by rw[bX (by omega)];exact Nat.le_refl _)
 refine aI 5 rfl (kZ (by omega) (aJ (by omega) _)) vN ⟨a1 rfl,rfl⟩ (.one (.t (sI false (dg 65536 (vl 4294967296 (dg 4294967296 (k').natAbs)))))) ?_
 have hn4:=cM (B:=65536) (by omega) (Nat.div_le_self (vl 4294967296 (dg 4294967296 (k).natAbs)) (vl 4294967296 (dg 4294967296 (k').natAbs)))
 have hn5:=cM (B:=65536) (by omega) (Nat.mod_le (vl 4294967296 (dg 4294967296 (k).natAbs)) (vl 4294967296 (dg 4294967296 (k').natAbs)))
 refine aI 6 rfl (Hv (by omega) (by omega) hva) Xy ⟨a1 rfl,a1 rfl,rfl⟩ (.tup [.one (.t (sI false (dg 65536 ((vl 4294967296 (dg 4294967296 (k).natAbs))/(vl 4294967296 (dg 4294967296 (k').natAbs)))))),.one (.t (sI false (dg 65536 ((vl 4294967296 (dg 4294967296 (k).natAbs))%(vl 4294967296 (dg 4294967296 (k').natAbs))))))]) ?_
 refine df 7 ?_;refine df 8 ?_;refine df 9 ?_;refine dE 10 (by kernel_rfl) rfl rfl aA rfl (by trivial) ?_ (fun h=>by first | rfl | cases h)
 refine dE 11 (by kernel_rfl) rfl rfl aA rfl (by trivial) ?_ (fun h=>by first | rfl | cases h)
 refine aO ?_
 refine md (γ:=Unit) (fun _=>cG [(3,.one (.pt 0 0)),(4,.one (.pt 1 0)),(5,.one (.pt 2 0)),(6,.one (tv (.int .i64 0))),(9,.one (.pt 3 0)),(10,.one (.pt 4 0))]) (fun _=>([⟨34,0,[tv (.bool (aF (k'))),.t (sU false (dg 4294967296 (k').natAbs))]⟩,⟨34,0,[tv (.bool false),tv (.slice none 0 0)]⟩,⟨34,0,[tv (.bool false),tv (.slice none 0 0)]⟩,⟨34,0,[tv (.bool (aF (bM (aF k != aF k') (k.natAbs/k'.natAbs)))),.t (sU false (dg 4294967296 (bM (aF k != aF k') (k.natAbs/k'.natAbs)).natAbs))]⟩,⟨34,0,[tv (.bool (aF (bM (aF k) (k.natAbs%k'.natAbs)))),.t (sU false (dg 4294967296 (bM (aF k) (k.natAbs%k'.natAbs)).natAbs))]⟩]:List Ob).map some) (fun _=>True) ?_ fun _ _=>?_
 ·have hnq:=lS ((vl 4294967296 (dg 4294967296 (k).natAbs))/(vl 4294967296 (dg 4294967296 (k').natAbs)))
  have hLq:=sJ (xs:=dg 65536 ((vl 4294967296 (dg 4294967296 (k).natAbs))/(vl 4294967296 (dg 4294967296 (k').natAbs)))) (zs:=dg 4294967296 ((vl 4294967296 (dg 4294967296 (k).natAbs))/(vl 4294967296 (dg 4294967296 (k').natAbs)))) (by omega) (aJ (by omega) _) (vS _)
  have hMq:=iS (b:=aF k != aF k') (xs:=dg 4294967296 ((vl 4294967296 (dg 4294967296 (k).natAbs))/(vl 4294967296 (dg 4294967296 (k').natAbs)))) (K:=bM (aF k != aF k') (k.natAbs/k'.natAbs)) (by omega) (aJ (by omega) _) (by simp only[bX (B:=4294967296) (by omega)] <;> rfl)
  have hnr:=lS ((vl 4294967296 (dg 4294967296 (k).natAbs))%(vl 4294967296 (dg 4294967296 (k').natAbs)))
  have hLr:=sJ (xs:=dg 65536 ((vl 4294967296 (dg 4294967296 (k).natAbs))%(vl 4294967296 (dg 4294967296 (k').natAbs)))) (zs:=dg 4294967296 ((vl 4294967296 (dg 4294967296 (k).natAbs))%(vl 4294967296 (dg 4294967296 (k').natAbs)))) (by omega) (aJ (by omega) _) (vS _)
  have hMr:=iS (b:=aF k) (xs:=dg 4294967296 ((vl 4294967296 (dg 4294967296 (k).natAbs))%(vl 4294967296 (dg 4294967296 (k').natAbs)))) (K:=bM (aF k) (k.natAbs%k'.natAbs)) (by omega) (aJ (by omega) _) (by simp only[bX (B:=4294967296) (by omega)] <;> rfl)
  generalize dg 4294967296 ((vl 4294967296 (dg 4294967296 (k).natAbs))/(vl 4294967296 (dg 4294967296 (k').natAbs)))=zq at hLq hMq
  generalize dg 4294967296 ((vl 4294967296 (dg 4294967296 (k).natAbs))%(vl 4294967296 (dg 4294967296 (k').natAbs)))=zr at hLr hMr;refine rd [0,1,2,3] (fun i=>[16].contains i) mixed ?_
  refine dv 0 ?_;refine aV 1 ?_;refine dv 2 ?_;refine aV 3 ?_;refine dv 4 ?_;refine dv 5 ?_;refine dv 8 ?_;refine aV 9 ?_;refine dv 10 ?_
  refine WO.three (i:=6) (j:=13) (m:=14) (by kernel_rfl) ?_ ?_ ?_
  ·refine cU 6 rfl (hLq) eC ⟨a1 rfl,rfl⟩ (.one (.t (sU false zq))) ?_;refine WO.three (i:=7) (j:=13) (m:=14) (by kernel_rfl) ?_ ?_ ?_
   ·refine cU 7 rfl (hMq) cY ⟨a1 rfl,a1 rfl,rfl⟩ (kF (bM (aF k != aF k') (k.natAbs/k'.natAbs))) ?_;refine WO.three (i:=11) (j:=13) (m:=14) (by kernel_rfl) ?_ ?_ ?_
    ·refine cU 11 rfl (hLr) eC ⟨a1 rfl,rfl⟩ (.one (.t (sU false zr))) ?_;refine WO.three (i:=12) (j:=13) (m:=14) (by kernel_rfl) ?_ ?_ ?_
     ·refine cU 12 rfl (hMr) cY ⟨a1 rfl,a1 rfl,rfl⟩ (kF (bM (aF k) (k.natAbs%k'.natAbs))) ?_;refine WO.two (i:=13) (j:=14) (by kernel_rfl) ?_ ?_
      ·refine bS (key:=4) 13 rfl rfl aA rfl ⟨rfl,rfl,rfl,rfl,trivial⟩ ?_;refine eF (key:=5) 14 (by kernel_rfl) rfl rfl aA rfl ⟨rfl,rfl,rfl,rfl,trivial⟩ ?_
       refine aR 15 (by kernel_rfl) rfl rfl aA rfl rfl rfl rfl ⟨rfl,rfl,rfl,rfl,trivial⟩ ?_
       refine dst 16 ?_;refine aO ?_
       exact⟨(),trivial,aH h0 [1,2,3,4,5] _ _ (by decide) ⟨rfl,rfl,rfl,rfl,rfl,rfl,trivial⟩ ⟨oe rfl rfl,oe rfl rfl,oe rfl rfl,oe rfl rfl,oe rfl rfl,rfl⟩⟩
      refine bS (key:=4) 14 rfl rfl aA rfl ⟨rfl,rfl,rfl,rfl,trivial⟩ ?_;refine eF (key:=5) 13 (by kernel_rfl) rfl rfl aA rfl ⟨rfl,rfl,rfl,rfl,trivial⟩ ?_
      refine aR 15 (by kernel_rfl) rfl rfl aA rfl rfl rfl rfl ⟨rfl,rfl,rfl,rfl,trivial⟩ ?_
      refine dst 16 ?_;refine aO ?_
      exact⟨(),trivial,aH h0 [1,2,3,5,4] _ _ (by decide) ⟨rfl,rfl,rfl,rfl,rfl,rfl,trivial⟩ ⟨oe rfl rfl,oe rfl rfl,oe rfl rfl,oe rfl rfl,oe rfl rfl,rfl⟩⟩
     ·refine bS (key:=4) 13 rfl rfl aA rfl ⟨rfl,rfl,rfl,rfl,trivial⟩ ?_;refine WO.two (i:=12) (j:=14) (by kernel_rfl) ?_ ?_
      ·refine cU 12 rfl (hMr) cY ⟨a1 rfl,a1 rfl,rfl⟩ (kF (bM (aF k) (k.natAbs%k'.natAbs))) ?_
       refine eF (key:=5) 14 (by kernel_rfl) rfl rfl aA rfl ⟨rfl,rfl,rfl,rfl,trivial⟩ ?_
       refine aR 15 (by kernel_rfl) rfl rfl aA rfl rfl rfl rfl ⟨rfl,rfl,rfl,rfl,trivial⟩ ?_
       refine dst 16 ?_;refine aO ?_
       exact⟨(),trivial,aH h0 [1,2,3,4,5] _ _ (by decide) ⟨rfl,rfl,rfl,rfl,rfl,rfl,trivial⟩ ⟨oe rfl rfl,oe rfl rfl,oe rfl rfl,oe rfl rfl,oe rfl rfl,rfl⟩⟩
      refine bS (key:=5) 14 rfl rfl aA rfl ⟨rfl,rfl,rfl,rfl,trivial⟩ ?_;refine aI 12 rfl (hMr) cY ⟨a1 rfl,a1 rfl,rfl⟩ (kF (bM (aF k) (k.natAbs%k'.natAbs))) ?_
      refine aR 15 (by kernel_rfl) rfl rfl aA rfl rfl rfl rfl ⟨rfl,rfl,rfl,rfl,trivial⟩ ?_
      refine dst 16 ?_;refine aO ?_
      exact⟨(),trivial,aH h0 [1,2,3,4,5] _ _ (by decide) ⟨rfl,rfl,rfl,rfl,rfl,rfl,trivial⟩ ⟨oe rfl rfl,oe rfl rfl,oe rfl rfl,oe rfl rfl,oe rfl rfl,rfl⟩⟩
     refine bS (key:=4) 14 rfl rfl aA rfl ⟨rfl,rfl,rfl,rfl,trivial⟩ ?_;refine WO.two (i:=12) (j:=13) (by kernel_rfl) ?_ ?_
     ·refine cU 12 rfl (hMr) cY ⟨a1 rfl,a1 rfl,rfl⟩ (kF (bM (aF k) (k.natAbs%k'.natAbs))) ?_
      refine eF (key:=5) 13 (by kernel_rfl) rfl rfl aA rfl ⟨rfl,rfl,rfl,rfl,trivial⟩ ?_
      refine aR 15 (by kernel_rfl) rfl rfl aA rfl rfl rfl rfl ⟨rfl,rfl,rfl,rfl,trivial⟩ ?_
      refine dst 16 ?_;refine aO ?_
      exact⟨(),trivial,aH h0 [1,2,3,5,4] _ _ (by decide) ⟨rfl,rfl,rfl,rfl,rfl,rfl,trivial⟩ ⟨oe rfl rfl,oe rfl rfl,oe rfl rfl,oe rfl rfl,oe rfl rfl,rfl⟩⟩
     refine bS (key:=5) 13 rfl rfl aA rfl ⟨rfl,rfl,rfl,rfl,trivial⟩ ?_;refine aI 12 rfl (hMr) cY ⟨a1 rfl,a1 rfl,rfl⟩ (kF (bM (aF k) (k.natAbs%k'.natAbs))) ?_
     refine aR 15 (by kernel_rfl) rfl rfl aA rfl rfl rfl rfl ⟨rfl,rfl,rfl,rfl,trivial⟩ ?_
     refine dst 16 ?_;refine aO ?_
     exact⟨(),trivial,aH h0 [1,2,3,5,4] _ _ (by decide) ⟨rfl,rfl,rfl,rfl,rfl,rfl,trivial⟩ ⟨oe rfl rfl,oe rfl rfl,oe rfl rfl,oe rfl rfl,oe rfl rfl,rfl⟩⟩
    ·refine bS (key:=4) 13 rfl rfl aA rfl ⟨rfl,rfl,rfl,rfl,trivial⟩ ?_;refine WO.two (i:=11) (j:=14) (by kernel_rfl) ?_ ?_
     ·refine cU 11 rfl (hLr) eC ⟨a1 rfl,rfl⟩ (.one (.t (sU false zr))) ?_;refine WO.two (i:=12) (j:=14) (by kernel_rfl) ?_ ?_
      ·refine cU 12 rfl (hMr) cY ⟨a1 rfl,a1 rfl,rfl⟩ (kF (bM (aF k) (k.natAbs%k'.natAbs))) ?_
       refine eF (key:=5) 14 (by kernel_rfl) rfl rfl aA rfl ⟨rfl,rfl,rfl,rfl,trivial⟩ ?_
       refine aR 15 (by kernel_rfl) rfl rfl aA rfl rfl rfl rfl ⟨rfl,rfl,rfl,rfl,trivial⟩ ?_
       refine dst 16 ?_;refine aO ?_
       exact⟨(),trivial,aH h0 [1,2,3,4,5] _ _ (by decide) ⟨rfl,rfl,rfl,rfl,rfl,rfl,trivial⟩ ⟨oe rfl rfl,oe rfl rfl,oe rfl rfl,oe rfl rfl,oe rfl rfl,rfl⟩⟩
      refine bS (key:=5) 14 rfl rfl aA rfl ⟨rfl,rfl,rfl,rfl,trivial⟩ ?_;refine aI 12 rfl (hMr) cY ⟨a1 rfl,a1 rfl,rfl⟩ (kF (bM (aF k) (k.natAbs%k'.natAbs))) ?_
      refine aR 15 (by kernel_rfl) rfl rfl aA rfl rfl rfl rfl ⟨rfl,rfl,rfl,rfl,trivial⟩ ?_
      refine dst 16 ?_;refine aO ?_
      exact⟨(),trivial,aH h0 [1,2,3,4,5] _ _ (by decide) ⟨rfl,rfl,rfl,rfl,rfl,rfl,trivial⟩ ⟨oe rfl rfl,oe rfl rfl,oe rfl rfl,oe rfl rfl,oe rfl rfl,rfl⟩⟩
     refine bS (key:=5) 14 rfl rfl aA rfl ⟨rfl,rfl,rfl,rfl,trivial⟩ ?_;refine aI 11 rfl (hLr) eC ⟨a1 rfl,rfl⟩ (.one (.t (sU false zr))) ?_
     refine aI 12 rfl (hMr) cY ⟨a1 rfl,a1 rfl,rfl⟩ (kF (bM (aF k) (k.natAbs%k'.natAbs))) ?_
     refine aR 15 (by kernel_rfl) rfl rfl aA rfl rfl rfl rfl ⟨rfl,rfl,rfl,rfl,trivial⟩ ?_
     refine dst 16 ?_;refine aO ?_
     exact⟨(),trivial,aH h0 [1,2,3,4,5] _ _ (by decide) ⟨rfl,rfl,rfl,rfl,rfl,rfl,trivial⟩ ⟨oe rfl rfl,oe rfl rfl,oe rfl rfl,oe rfl rfl,oe rfl rfl,rfl⟩⟩
    refine bS (key:=4) 14 rfl rfl aA rfl ⟨rfl,rfl,rfl,rfl,trivial⟩ ?_;refine WO.two (i:=11) (j:=13) (by kernel_rfl) ?_ ?_
    ·refine cU 11 rfl (hLr) eC ⟨a1 rfl,rfl⟩ (.one (.t (sU false zr))) ?_;refine WO.two (i:=12) (j:=13) (by kernel_rfl) ?_ ?_
     ·refine cU 12 rfl (hMr) cY ⟨a1 rfl,a1 rfl,rfl⟩ (kF (bM (aF k) (k.natAbs%k'.natAbs))) ?_
      refine eF (key:=5) 13 (by kernel_rfl) rfl rfl aA rfl ⟨rfl,rfl,rfl,rfl,trivial⟩ ?_
      refine aR 15 (by kernel_rfl) rfl rfl aA rfl rfl rfl rfl ⟨rfl,rfl,rfl,rfl,trivial⟩ ?_
      refine dst 16 ?_;refine aO ?_
      exact⟨(),trivial,aH h0 [1,2,3,5,4] _ _ (by decide) ⟨rfl,rfl,rfl,rfl,rfl,rfl,trivial⟩ ⟨oe rfl rfl,oe rfl rfl,oe rfl rfl,oe rfl rfl,oe rfl rfl,rfl⟩⟩
     refine bS (key:=5) 13 rfl rfl aA rfl ⟨rfl,rfl,rfl,rfl,trivial⟩ ?_;refine aI 12 rfl (hMr) cY ⟨a1 rfl,a1 rfl,rfl⟩ (kF (bM (aF k) (k.natAbs%k'.natAbs))) ?_
     refine aR 15 (by kernel_rfl) rfl rfl aA rfl rfl rfl rfl ⟨rfl,rfl,rfl,rfl,trivial⟩ ?_
     refine dst 16 ?_;refine aO ?_
     exact⟨(),trivial,aH h0 [1,2,3,5,4] _ _ (by decide) ⟨rfl,rfl,rfl,rfl,rfl,rfl,trivial⟩ ⟨oe rfl rfl,oe rfl rfl,oe rfl rfl,oe rfl rfl,oe rfl rfl,rfl⟩⟩
    refine bS (key:=5) 13 rfl rfl aA rfl ⟨rfl,rfl,rfl,rfl,trivial⟩ ?_;refine aI 11 rfl (hLr) eC ⟨a1 rfl,rfl⟩ (.one (.t (sU false zr))) ?_
    refine aI 12 rfl (hMr) cY ⟨a1 rfl,a1 rfl,rfl⟩ (kF (bM (aF k) (k.natAbs%k'.natAbs))) ?_
    refine aR 15 (by kernel_rfl) rfl rfl aA rfl rfl rfl rfl ⟨rfl,rfl,rfl,rfl,trivial⟩ ?_
    refine dst 16 ?_;refine aO ?_
    exact⟨(),trivial,aH h0 [1,2,3,5,4] _ _ (by decide) ⟨rfl,rfl,rfl,rfl,rfl,rfl,trivial⟩ ⟨oe rfl rfl,oe rfl rfl,oe rfl rfl,oe rfl rfl,oe rfl rfl,rfl⟩⟩
   ·refine bS (key:=4) 13 rfl rfl aA rfl ⟨rfl,rfl,rfl,rfl,trivial⟩ ?_;refine WO.two (i:=7) (j:=14) (by kernel_rfl) ?_ ?_
    ·refine cU 7 rfl (hMq) cY ⟨a1 rfl,a1 rfl,rfl⟩ (kF (bM (aF k != aF k') (k.natAbs/k'.natAbs))) ?_;refine WO.two (i:=11) (j:=14) (by kernel_rfl) ?_ ?_
     ·refine cU 11 rfl (hLr) eC ⟨a1 rfl,rfl⟩ (.one (.t (sU false zr))) ?_;refine WO.two (i:=12) (j:=14) (by kernel_rfl) ?_ ?_
      ·refine cU 12 rfl (hMr) cY ⟨a1 rfl,a1 rfl,rfl⟩ (kF (bM (aF k) (k.natAbs%k'.natAbs))) ?_
       refine eF (key:=5) 14 (by kernel_rfl) rfl rfl aA rfl ⟨rfl,rfl,rfl,rfl,trivial⟩ ?_
       refine aR 15 (by kernel_rfl) rfl rfl aA rfl rfl rfl rfl ⟨rfl,rfl,rfl,rfl,trivial⟩ ?_
       refine dst 16 ?_;refine aO ?_
       exact⟨(),trivial,aH h0 [1,2,3,4,5] _ _ (by decide) ⟨rfl,rfl,rfl,rfl,rfl,rfl,trivial⟩ ⟨oe rfl rfl,oe rfl rfl,oe rfl rfl,oe rfl rfl,oe rfl rfl,rfl⟩⟩
      refine bS (key:=5) 14 rfl rfl aA rfl ⟨rfl,rfl,rfl,rfl,trivial⟩ ?_;refine aI 12 rfl (hMr) cY ⟨a1 rfl,a1 rfl,rfl⟩ (kF (bM (aF k) (k.natAbs%k'.natAbs))) ?_
      refine aR 15 (by kernel_rfl) rfl rfl aA rfl rfl rfl rfl ⟨rfl,rfl,rfl,rfl,trivial⟩ ?_
      refine dst 16 ?_;refine aO ?_
      exact⟨(),trivial,aH h0 [1,2,3,4,5] _ _ (by decide) ⟨rfl,rfl,rfl,rfl,rfl,rfl,trivial⟩ ⟨oe rfl rfl,oe rfl rfl,oe rfl rfl,oe rfl rfl,oe rfl rfl,rfl⟩⟩
     refine bS (key:=5) 14 rfl rfl aA rfl ⟨rfl,rfl,rfl,rfl,trivial⟩ ?_;refine aI 11 rfl (hLr) eC ⟨a1 rfl,rfl⟩ (.one (.t (sU false zr))) ?_
     refine aI 12 rfl (hMr) cY ⟨a1 rfl,a1 rfl,rfl⟩ (kF (bM (aF k) (k.natAbs%k'.natAbs))) ?_
     refine aR 15 (by kernel_rfl) rfl rfl aA rfl rfl rfl rfl ⟨rfl,rfl,rfl,rfl,trivial⟩ ?_
     refine dst 16 ?_;refine aO ?_
     exact⟨(),trivial,aH h0 [1,2,3,4,5] _ _ (by decide) ⟨rfl,rfl,rfl,rfl,rfl,rfl,trivial⟩ ⟨oe rfl rfl,oe rfl rfl,oe rfl rfl,oe rfl rfl,oe rfl rfl,rfl⟩⟩
    refine bS (key:=5) 14 rfl rfl aA rfl ⟨rfl,rfl,rfl,rfl,trivial⟩ ?_;refine aI 7 rfl (hMq) cY ⟨a1 rfl,a1 rfl,rfl⟩ (kF (bM (aF k != aF k') (k.natAbs/k'.natAbs))) ?_
    refine aI 11 rfl (hLr) eC ⟨a1 rfl,rfl⟩ (.one (.t (sU false zr))) ?_;refine aI 12 rfl (hMr) cY ⟨a1 rfl,a1 rfl,rfl⟩ (kF (bM (aF k) (k.natAbs%k'.natAbs))) ?_
    refine aR 15 (by kernel_rfl) rfl rfl aA rfl rfl rfl rfl ⟨rfl,rfl,rfl,rfl,trivial⟩ ?_
    refine dst 16 ?_;refine aO ?_
    exact⟨(),trivial,aH h0 [1,2,3,4,5] _ _ (by decide) ⟨rfl,rfl,rfl,rfl,rfl,rfl,trivial⟩ ⟨oe rfl rfl,oe rfl rfl,oe rfl rfl,oe rfl rfl,oe rfl rfl,rfl⟩⟩
   refine bS (key:=4) 14 rfl rfl aA rfl ⟨rfl,rfl,rfl,rfl,trivial⟩ ?_;refine WO.two (i:=7) (j:=13) (by kernel_rfl) ?_ ?_
   ·refine cU 7 rfl (hMq) cY ⟨a1 rfl,a1 rfl,rfl⟩ (kF (bM (aF k != aF k') (k.natAbs/k'.natAbs))) ?_;refine WO.two (i:=11) (j:=13) (by kernel_rfl) ?_ ?_
    ·refine cU 11 rfl (hLr) eC ⟨a1 rfl,rfl⟩ (.one (.t (sU false zr))) ?_;refine WO.two (i:=12) (j:=13) (by kernel_rfl) ?_ ?_
     ·refine cU 12 rfl (hMr) cY ⟨a1 rfl,a1 rfl,rfl⟩ (kF (bM (aF k) (k.natAbs%k'.natAbs))) ?_
      refine eF (key:=5) 13 (by kernel_rfl) rfl rfl aA rfl ⟨rfl,rfl,rfl,rfl,trivial⟩ ?_
      refine aR 15 (by kernel_rfl) rfl rfl aA rfl rfl rfl rfl ⟨rfl,rfl,rfl,rfl,trivial⟩ ?_
      refine dst 16 ?_;refine aO ?_
      exact⟨(),trivial,aH h0 [1,2,3,5,4] _ _ (by decide) ⟨rfl,rfl,rfl,rfl,rfl,rfl,trivial⟩ ⟨oe rfl rfl,oe rfl rfl,oe rfl rfl,oe rfl rfl,oe rfl rfl,rfl⟩⟩
     refine bS (key:=5) 13 rfl rfl aA rfl ⟨rfl,rfl,rfl,rfl,trivial⟩ ?_;refine aI 12 rfl (hMr) cY ⟨a1 rfl,a1 rfl,rfl⟩ (kF (bM (aF k) (k.natAbs%k'.natAbs))) ?_
     refine aR 15 (by kernel_rfl) rfl rfl aA rfl rfl rfl rfl ⟨rfl,rfl,rfl,rfl,trivial⟩ ?_
     refine dst 16 ?_;refine aO ?_
     exact⟨(),trivial,aH h0 [1,2,3,5,4] _ _ (by decide) ⟨rfl,rfl,rfl,rfl,rfl,rfl,trivial⟩ ⟨oe rfl rfl,oe rfl rfl,oe rfl rfl,oe rfl rfl,oe rfl rfl,rfl⟩⟩
    refine bS (key:=5) 13 rfl rfl aA rfl ⟨rfl,rfl,rfl,rfl,trivial⟩ ?_;refine aI 11 rfl (hLr) eC ⟨a1 rfl,rfl⟩ (.one (.t (sU false zr))) ?_
    refine aI 12 rfl (hMr) cY ⟨a1 rfl,a1 rfl,rfl⟩ (kF (bM (aF k) (k.natAbs%k'.natAbs))) ?_
    refine aR 15 (by kernel_rfl) rfl rfl aA rfl rfl rfl rfl ⟨rfl,rfl,rfl,rfl,trivial⟩ ?_
    refine dst 16 ?_;refine aO ?_
    exact⟨(),trivial,aH h0 [1,2,3,5,4] _ _ (by decide) ⟨rfl,rfl,rfl,rfl,rfl,rfl,trivial⟩ ⟨oe rfl rfl,oe rfl rfl,oe rfl rfl,oe rfl rfl,oe rfl rfl,rfl⟩⟩
   refine bS (key:=5) 13 rfl rfl aA rfl ⟨rfl,rfl,rfl,rfl,trivial⟩ ?_;refine aI 7 rfl (hMq) cY ⟨a1 rfl,a1 rfl,rfl⟩ (kF (bM (aF k != aF k') (k.natAbs/k'.natAbs))) ?_
   refine aI 11 rfl (hLr) eC ⟨a1 rfl,rfl⟩ (.one (.t (sU false zr))) ?_;refine aI 12 rfl (hMr) cY ⟨a1 rfl,a1 rfl,rfl⟩ (kF (bM (aF k) (k.natAbs%k'.natAbs))) ?_
   refine aR 15 (by kernel_rfl) rfl rfl aA rfl rfl rfl rfl ⟨rfl,rfl,rfl,rfl,trivial⟩ ?_
   refine dst 16 ?_;refine aO ?_
   exact⟨(),trivial,aH h0 [1,2,3,5,4] _ _ (by decide) ⟨rfl,rfl,rfl,rfl,rfl,rfl,trivial⟩ ⟨oe rfl rfl,oe rfl rfl,oe rfl rfl,oe rfl rfl,oe rfl rfl,rfl⟩⟩
  ·refine bS (key:=4) 13 rfl rfl aA rfl ⟨rfl,rfl,rfl,rfl,trivial⟩ ?_;refine WO.two (i:=6) (j:=14) (by kernel_rfl) ?_ ?_
   ·refine cU 6 rfl (hLq) eC ⟨a1 rfl,rfl⟩ (.one (.t (sU false zq))) ?_;refine WO.two (i:=7) (j:=14) (by kernel_rfl) ?_ ?_
    ·refine cU 7 rfl (hMq) cY ⟨a1 rfl,a1 rfl,rfl⟩ (kF (bM (aF k != aF k') (k.natAbs/k'.natAbs))) ?_;refine WO.two (i:=11) (j:=14) (by kernel_rfl) ?_ ?_
     ·refine cU 11 rfl (hLr) eC ⟨a1 rfl,rfl⟩ (.one (.t (sU false zr))) ?_;refine WO.two (i:=12) (j:=14) (by kernel_rfl) ?_ ?_
      ·refine cU 12 rfl (hMr) cY ⟨a1 rfl,a1 rfl,rfl⟩ (kF (bM (aF k) (k.natAbs%k'.natAbs))) ?_
       refine eF (key:=5) 14 (by kernel_rfl) rfl rfl aA rfl ⟨rfl,rfl,rfl,rfl,trivial⟩ ?_
       refine aR 15 (by kernel_rfl) rfl rfl aA rfl rfl rfl rfl ⟨rfl,rfl,rfl,rfl,trivial⟩ ?_
       refine dst 16 ?_;refine aO ?_
       exact⟨(),trivial,aH h0 [1,2,3,4,5] _ _ (by decide) ⟨rfl,rfl,rfl,rfl,rfl,rfl,trivial⟩ ⟨oe rfl rfl,oe rfl rfl,oe rfl rfl,oe rfl rfl,oe rfl rfl,rfl⟩⟩
      refine bS (key:=5) 14 rfl rfl aA rfl ⟨rfl,rfl,rfl,rfl,trivial⟩ ?_;refine aI 12 rfl (hMr) cY ⟨a1 rfl,a1 rfl,rfl⟩ (kF (bM (aF k) (k.natAbs%k'.natAbs))) ?_
      refine aR 15 (by kernel_rfl) rfl rfl aA rfl rfl rfl rfl ⟨rfl,rfl,rfl,rfl,trivial⟩ ?_
      refine dst 16 ?_;refine aO ?_
      exact⟨(),trivial,aH h0 [1,2,3,4,5] _ _ (by decide) ⟨rfl,rfl,rfl,rfl,rfl,rfl,trivial⟩ ⟨oe rfl rfl,oe rfl rfl,oe rfl rfl,oe rfl rfl,oe rfl rfl,rfl⟩⟩
     refine bS (key:=5) 14 rfl rfl aA rfl ⟨rfl,rfl,rfl,rfl,trivial⟩ ?_;refine aI 11 rfl (hLr) eC ⟨a1 rfl,rfl⟩ (.one (.t (sU false zr))) ?_
     refine aI 12 rfl (hMr) cY ⟨a1 rfl,a1 rfl,rfl⟩ (kF (bM (aF k) (k.natAbs%k'.natAbs))) ?_
     refine aR 15 (by kernel_rfl) rfl rfl aA rfl rfl rfl rfl ⟨rfl,rfl,rfl,rfl,trivial⟩ ?_
     refine dst 16 ?_;refine aO ?_
     exact⟨(),trivial,aH h0 [1,2,3,4,5] _ _ (by decide) ⟨rfl,rfl,rfl,rfl,rfl,rfl,trivial⟩ ⟨oe rfl rfl,oe rfl rfl,oe rfl rfl,oe rfl rfl,oe rfl rfl,rfl⟩⟩
    refine bS (key:=5) 14 rfl rfl aA rfl ⟨rfl,rfl,rfl,rfl,trivial⟩ ?_;refine aI 7 rfl (hMq) cY ⟨a1 rfl,a1 rfl,rfl⟩ (kF (bM (aF k != aF k') (k.natAbs/k'.natAbs))) ?_
    refine aI 11 rfl (hLr) eC ⟨a1 rfl,rfl⟩ (.one (.t (sU false zr))) ?_;refine aI 12 rfl (hMr) cY ⟨a1 rfl,a1 rfl,rfl⟩ (kF (bM (aF k) (k.natAbs%k'.natAbs))) ?_
    refine aR 15 (by kernel_rfl) rfl rfl aA rfl rfl rfl rfl ⟨rfl,rfl,rfl,rfl,trivial⟩ ?_
    refine dst 16 ?_;refine aO ?_
    exact⟨(),trivial,aH h0 [1,2,3,4,5] _ _ (by decide) ⟨rfl,rfl,rfl,rfl,rfl,rfl,trivial⟩ ⟨oe rfl rfl,oe rfl rfl,oe rfl rfl,oe rfl rfl,oe rfl rfl,rfl⟩⟩
   refine bS (key:=5) 14 rfl rfl aA rfl ⟨rfl,rfl,rfl,rfl,trivial⟩ ?_;refine aI 6 rfl (hLq) eC ⟨a1 rfl,rfl⟩ (.one (.t (sU false zq))) ?_
   refine aI 7 rfl (hMq) cY ⟨a1 rfl,a1 rfl,rfl⟩ (kF (bM (aF k != aF k') (k.natAbs/k'.natAbs))) ?_;refine aI 11 rfl (hLr) eC ⟨a1 rfl,rfl⟩ (.one (.t (sU false zr))) ?_
   refine aI 12 rfl (hMr) cY ⟨a1 rfl,a1 rfl,rfl⟩ (kF (bM (aF k) (k.natAbs%k'.natAbs))) ?_;refine aR 15 (by kernel_rfl) rfl rfl aA rfl rfl rfl rfl ⟨rfl,rfl,rfl,rfl,trivial⟩ ?_
   refine dst 16 ?_;refine aO ?_
   exact⟨(),trivial,aH h0 [1,2,3,4,5] _ _ (by decide) ⟨rfl,rfl,rfl,rfl,rfl,rfl,trivial⟩ ⟨oe rfl rfl,oe rfl rfl,oe rfl rfl,oe rfl rfl,oe rfl rfl,rfl⟩⟩
  refine bS (key:=4) 14 rfl rfl aA rfl ⟨rfl,rfl,rfl,rfl,trivial⟩ ?_;refine WO.two (i:=6) (j:=13) (by kernel_rfl) ?_ ?_
  ·refine cU 6 rfl (hLq) eC ⟨a1 rfl,rfl⟩ (.one (.t (sU false zq))) ?_;refine WO.two (i:=7) (j:=13) (by kernel_rfl) ?_ ?_
   ·refine cU 7 rfl (hMq) cY ⟨a1 rfl,a1 rfl,rfl⟩ (kF (bM (aF k != aF k') (k.natAbs/k'.natAbs))) ?_;refine WO.two (i:=11) (j:=13) (by kernel_rfl) ?_ ?_
    ·refine cU 11 rfl (hLr) eC ⟨a1 rfl,rfl⟩ (.one (.t (sU false zr))) ?_;refine WO.two (i:=12) (j:=13) (by kernel_rfl) ?_ ?_
     ·refine cU 12 rfl (hMr) cY ⟨a1 rfl,a1 rfl,rfl⟩ (kF (bM (aF k) (k.natAbs%k'.natAbs))) ?_
      refine eF (key:=5) 13 (by kernel_rfl) rfl rfl aA rfl ⟨rfl,rfl,rfl,rfl,trivial⟩ ?_
      refine aR 15 (by kernel_rfl) rfl rfl aA rfl rfl rfl rfl ⟨rfl,rfl,rfl,rfl,trivial⟩ ?_
      refine dst 16 ?_;refine aO ?_
      exact⟨(),trivial,aH h0 [1,2,3,5,4] _ _ (by decide) ⟨rfl,rfl,rfl,rfl,rfl,rfl,trivial⟩ ⟨oe rfl rfl,oe rfl rfl,oe rfl rfl,oe rfl rfl,oe rfl rfl,rfl⟩⟩
     refine bS (key:=5) 13 rfl rfl aA rfl ⟨rfl,rfl,rfl,rfl,trivial⟩ ?_;refine aI 12 rfl (hMr) cY ⟨a1 rfl,a1 rfl,rfl⟩ (kF (bM (aF k) (k.natAbs%k'.natAbs))) ?_
     refine aR 15 (by kernel_rfl) rfl rfl aA rfl rfl rfl rfl ⟨rfl,rfl,rfl,rfl,trivial⟩ ?_
     refine dst 16 ?_;refine aO ?_
     exact⟨(),trivial,aH h0 [1,2,3,5,4] _ _ (by decide) ⟨rfl,rfl,rfl,rfl,rfl,rfl,trivial⟩ ⟨oe rfl rfl,oe rfl rfl,oe rfl rfl,oe rfl rfl,oe rfl rfl,rfl⟩⟩
    refine bS (key:=5) 13 rfl rfl aA rfl ⟨rfl,rfl,rfl,rfl,trivial⟩ ?_;refine aI 11 rfl (hLr) eC ⟨a1 rfl,rfl⟩ (.one (.t (sU false zr))) ?_
    refine aI 12 rfl (hMr) cY ⟨a1 rfl,a1 rfl,rfl⟩ (kF (bM (aF k) (k.natAbs%k'.natAbs))) ?_
    refine aR 15 (by kernel_rfl) rfl rfl aA rfl rfl rfl rfl ⟨rfl,rfl,rfl,rfl,trivial⟩ ?_
    refine dst 16 ?_;refine aO ?_
    exact⟨(),trivial,aH h0 [1,2,3,5,4] _ _ (by decide) ⟨rfl,rfl,rfl,rfl,rfl,rfl,trivial⟩ ⟨oe rfl rfl,oe rfl rfl,oe rfl rfl,oe rfl rfl,oe rfl rfl,rfl⟩⟩
   refine bS (key:=5) 13 rfl rfl aA rfl ⟨rfl,rfl,rfl,rfl,trivial⟩ ?_;refine aI 7 rfl (hMq) cY ⟨a1 rfl,a1 rfl,rfl⟩ (kF (bM (aF k != aF k') (k.natAbs/k'.natAbs))) ?_
   refine aI 11 rfl (hLr) eC ⟨a1 rfl,rfl⟩ (.one (.t (sU false zr))) ?_;refine aI 12 rfl (hMr) cY ⟨a1 rfl,a1 rfl,rfl⟩ (kF (bM (aF k) (k.natAbs%k'.natAbs))) ?_
   refine aR 15 (by kernel_rfl) rfl rfl aA rfl rfl rfl rfl ⟨rfl,rfl,rfl,rfl,trivial⟩ ?_
   refine dst 16 ?_;refine aO ?_
   exact⟨(),trivial,aH h0 [1,2,3,5,4] _ _ (by decide) ⟨rfl,rfl,rfl,rfl,rfl,rfl,trivial⟩ ⟨oe rfl rfl,oe rfl rfl,oe rfl rfl,oe rfl rfl,oe rfl rfl,rfl⟩⟩
  refine bS (key:=5) 13 rfl rfl aA rfl ⟨rfl,rfl,rfl,rfl,trivial⟩ ?_;refine aI 6 rfl (hLq) eC ⟨a1 rfl,rfl⟩ (.one (.t (sU false zq))) ?_
  refine aI 7 rfl (hMq) cY ⟨a1 rfl,a1 rfl,rfl⟩ (kF (bM (aF k != aF k') (k.natAbs/k'.natAbs))) ?_;refine aI 11 rfl (hLr) eC ⟨a1 rfl,rfl⟩ (.one (.t (sU false zr))) ?_
  refine aI 12 rfl (hMr) cY ⟨a1 rfl,a1 rfl,rfl⟩ (kF (bM (aF k) (k.natAbs%k'.natAbs))) ?_;refine aR 15 (by kernel_rfl) rfl rfl aA rfl rfl rfl rfl ⟨rfl,rfl,rfl,rfl,trivial⟩ ?_
  refine dst 16 ?_;refine aO ?_
  exact⟨(),trivial,aH h0 [1,2,3,5,4] _ _ (by decide) ⟨rfl,rfl,rfl,rfl,rfl,rfl,trivial⟩ ⟨oe rfl rfl,oe rfl rfl,oe rfl rfl,oe rfl rfl,oe rfl rfl,rfl⟩⟩
 have hlq:(dg 4294967296 (bM (aF k != aF k') (k.natAbs/k'.natAbs)).natAbs).length≤(dg 4294967296 (k).natAbs).length:=by rw[iA];exact fV (Nat.div_le_self _ _)
 have hlr:(dg 4294967296 (bM (aF k) (k.natAbs%k'.natAbs)).natAbs).length≤(dg 4294967296 (k).natAbs).length:=by rw[iA];exact fV (Nat.mod_le _ _)
 refine sq ?_;refine sq ?_;refine rd [0,1,2,3,4] (fun i=>[].contains i) mixed ?_
 refine aV 0 ?_;refine aI 1 rfl (kU (Zn.of (k:=bM (aF k) (k.natAbs%k'.natAbs)) (by omega))) tK ⟨aB rfl,rfl⟩ (.one (tv (.int .i64 (bM (aF k) (k.natAbs%k'.natAbs)).sign))) ?_
 refine df 2 ?_;refine df 3 ?_;refine WD.split (t:=47) rfl rfl (fun h6=>?_) (fun h6=>?_)
 ·refine aV 4 ?_;refine aV 6 ?_
  refine aI 5 rfl (kU (Zn.of (k:=bM (aF k) (k.natAbs%k'.natAbs)) (by omega))) tK ⟨aB rfl,rfl⟩ (.one (tv (.int .i64 (bM (aF k) (k.natAbs%k'.natAbs)).sign))) ?_
  refine aI 7 rfl (kU (Zn.of (k:=k') (by omega))) tK ⟨aB rfl,rfl⟩ (.one (tv (.int .i64 (k').sign))) ?_
  refine df 8 ?_;refine df 9 ?_;refine aO ?_;refine bN rfl (fun h7=>?_) (fun h7=>?_)
  ·refine sq ?_;refine rd [0,1,2,3,4] (fun i=>[2,3].contains i) mixed ?_
   refine aV 0 ?_;have hol:(dg 4294967296 (1:Int).natAbs).length≤1:=cB (by omega) (by decide)
   refine aI 1 rfl (kG (n:=1) (by omega) (by omega)) mX ⟨a1 rfl,rfl⟩ (kF (1:Int)) ?_
   refine aI 2 rfl (Fh (Zn.of (k:=bM (aF k != aF k') (k.natAbs/k'.natAbs)) (by omega)) (Zn.of (k:=(1:Int)) (by omega))) Uq ⟨aB rfl,aB rfl,rfl⟩ (kF (bM (aF k != aF k') (k.natAbs/k'.natAbs)-(1:Int))) ?_
   refine dst 3 ?_;refine aO ?_;refine rl ?_;refine ld ?_;refine ld ?_
   refine ca (oD (Zn.of (k:=bM (aF k) (k.natAbs%k'.natAbs)) (by omega)) (Zn.of (k:=k') (by omega))) wX ⟨aB rfl,aB rfl,rfl⟩ (kF (bM (aF k) (k.natAbs%k'.natAbs)+k')) ?_
   refine st ?_;refine nl ?_;refine sq ?_;refine rd [0,2,3,4] (fun i=>[3,4].contains i) mixed ?_
   refine aV 0 ?_;refine aV 1 ?_;refine aR 2 (by kernel_rfl) rfl rfl aA rfl rfl rfl rfl ⟨rfl,rfl,rfl,rfl,trivial⟩ ?_
   refine dst 3 ?_;refine dE 4 (by kernel_rfl) rfl rfl aA rfl (by trivial) ?_ (fun h=>by first | rfl | cases h)
   refine aO ?_;refine rt ?_;obtain⟨hd1,hd2⟩:=BW (a:=k) (b:=k') hkn rfl rfl h6 h7
   exact en (.inl rfl) rfl (nX (.cons (.agg (.cons (.id rfl) (.cons (.id rfl) .nil))) (.cons (.agg (.cons (.id rfl) (.cons (.id rfl) .nil))) (.cons (bZ _) .nil)))) (by decide) (fun h=>by cases h) (by rw[if_neg hkn,if_neg hkn,if_neg hkn,←hd1,←hd2];rfl)
  refine sk ?_;refine sq ?_;refine rd [0,2,3,4] (fun i=>[3,4].contains i) mixed ?_
  refine aV 0 ?_;refine aV 1 ?_;refine aR 2 (by kernel_rfl) rfl rfl aA rfl rfl rfl rfl ⟨rfl,rfl,rfl,rfl,trivial⟩ ?_
  refine dst 3 ?_;refine dE 4 (by kernel_rfl) rfl rfl aA rfl (by trivial) ?_ (fun h=>by first | rfl | cases h)
  refine aO ?_;refine rt ?_;obtain⟨hd1,hd2⟩:=Ln (a:=k) (b:=k') hkn rfl rfl (.inr (Decidable.byContradiction h7))
  exact en (.inl rfl) rfl (nX (.cons (.agg (.cons (.id rfl) (.cons (.id rfl) .nil))) (.cons (.agg (.cons (.id rfl) (.cons (.id rfl) .nil))) (.cons (bZ _) .nil)))) (by decide) (fun h=>by cases h) (by rw[if_neg hkn,if_neg hkn,if_neg hkn,←hd1,←hd2];rfl)
 refine dN 4 ?_;refine dN 6 ?_;refine dN 5 ?_;refine dN 7 ?_;refine dN 8 ?_;refine df 9 ?_;refine aO ?_;refine gJ rfl ?_;refine sk ?_;refine sq ?_
 refine rd [0,2,3,4] (fun i=>[3,4].contains i) mixed ?_
 refine aV 0 ?_;refine aV 1 ?_;refine aR 2 (by kernel_rfl) rfl rfl aA rfl rfl rfl rfl ⟨rfl,rfl,rfl,rfl,trivial⟩ ?_
 refine dst 3 ?_;refine dE 4 (by kernel_rfl) rfl rfl aA rfl (by trivial) ?_ (fun h=>by first | rfl | cases h)
 refine aO ?_;refine rt ?_;obtain⟨hd1,hd2⟩:=Ln (a:=k) (b:=k') hkn rfl rfl (.inl (Decidable.byContradiction h6))
 exact en (.inl rfl) rfl (nX (.cons (.agg (.cons (.id rfl) (.cons (.id rfl) .nil))) (.cons (.agg (.cons (.id rfl) (.cons (.id rfl) .nil))) (.cons (bZ _) .nil)))) (by decide) (fun h=>by cases h) (by rw[if_neg hkn,if_neg hkn,if_neg hkn,←hd1,←hd2];rfl)
def cH (o:Bool) (a:Zi):List Tr:=[.v (.bool a.s),sU o a.x]
theorem eI (o:Bool) (a:Zi):(cH o a).length=2:=rfl
def gO (a:Zi):FV:=.agg ((cH true a).map .t)
def sZ (t:Nat) (zs:List Zi):Tr:=.s false t 2 zs.length (zs.flatMap (cH false))
def fS (zs:List Zi) (k:Nat):Zi:=zs.getD k ⟨false,[]⟩
theorem lY {zs:List Zi}{k:Nat}(h:k<zs.length):zs[k]? =some (fS zs k):=by simp[fS,h]
theorem To {zs:List Zi}{k:Nat}(h:k<zs.length):fS zs k∈zs:=List.mem_of_getElem? (lY h)
def zv (a:Zi):Int:=dC a.s a.x
def ZL (L:Nat) (a:Zi):Prop:=Lim 4294967296 a.x∧a.x.length≤L
theorem ZL.n {L:Nat}{a:Zi}(h:ZL L a) (hL:L≤137438953472):Zn a (zv a):=⟨h.1,Nat.le_trans h.2 hL,rfl⟩
def dQ:List Zi→Int
 | []=>0
 | a::l=>zv a+dQ l
theorem Wt (l m:List Zi):dQ (l++m)=dQ l+dQ m:=by
 induction l with
 | nil=>simp[dQ]
 | cons a l ih=>simp only[List.cons_append,dQ,ih];omega
theorem DY {zs:List Zi}{k:Nat}(h:k<zs.length):dQ (zs.take k)+zv (fS zs k)=dQ (zs.take (k+1)):=by
 rw[List.take_add_one,lY h,Wt]
 simp[dQ]
theorem KS {a:Zi}{L:Nat}(h:ZL L a):(zv a).natAbs<4294967296^L:=by
 have h1:(dg 4294967296 (zv a).natAbs).length≤a.x.length:=nM h.1
 have h2:=nD (B:=4294967296) (n:=(zv a).natAbs) (by omega)
 exact Nat.lt_of_lt_of_le h2 (Nat.pow_le_pow_right (by omega) (Nat.le_trans h1 h.2))
theorem Tp {α:Type}{l:List α}{k:Nat}(h:l.length≤k):l.take k=l:=List.take_of_length_le h
section
variable {α:Type}{f:α→List Tr}{z k o:Nat}{xs:List α}{x x':α}{us:List Tr}
theorem Wu (h:k<xs.length):xs=xs.take k++xs[k]::xs.drop (k+1):=by
 rw[←List.drop_eq_getElem_cons h,List.take_append_drop]
theorem oT (hf:∀x,(f x).length=z) (h:xs[k]? =some x) (hm:o+us.length≤z) (hx:f x'=(f x).take o++us++(f x).drop (o+us.length)):cS ((xs.flatMap f).map AV.t) (0+k*z+o) (us.map AV.t)=((xs.set k x').flatMap f).map .t:=by
 obtain⟨hk,rfl⟩:=List.getElem?_eq_some_iff.1 h
 rw[←wV,Nat.zero_add]
 congr 1
 have hA:((xs.take k).flatMap f).length=k*z:=by rw[bO hf,List.length_take,Nat.min_eq_left (by omega)]
 have e:xs.flatMap f=(xs.take k).flatMap f++(f xs[k]++(xs.drop (k+1)).flatMap f):=by
  conv=>lhs;rw[Wu hk]
  rw[List.flatMap_append,List.flatMap_cons]
 have hl:=hf xs[k]
 rw[List.set_eq_take_append_cons_drop,if_pos hk,List.flatMap_append,List.flatMap_cons,hx,e]
 generalize (xs.take k).flatMap f=A at*
 generalize (xs.drop (k+1)).flatMap f=C at*
 generalize f xs[k]=X at*
 unfold cS
 rw[List.take_append,List.drop_append,hA,List.take_of_length_le (l:=A) (by omega),List.drop_of_length_le (l:=A) (by omega),show k*z+o-k*z=o by omega,show k*z+o+us.length-k*z=o+us.length by omega,List.take_append,List.drop_append,show o-X.length=0 by omega,show o+us.length-X.length=0 by omega]
 simp
theorem zS (hf:∀x,(f x).length=z) (h:k<xs.length) (hm:o+us.length≤z):0+k*z+o+(us.map AV.t).length≤((xs.flatMap f).map AV.t).length:=by
 rw[List.length_map,List.length_map,bO hf]
 have:=Nat.mul_le_mul (show k+1≤xs.length by omega) (Nat.le_refl z)
 rw[Nat.add_mul]at this
 omega
theorem eV (xs:List α) (x:α):(xs.flatMap f).map AV.t++(f x).map .t=((xs++[x]).flatMap f).map .t:=by simp[List.flatMap_append]
end
def eA (ws:List Zi):List AV:=(ws.flatMap (cH true)).map .t
def xZ (t:Nat) (zs:List Zi):Tr:=.s true t 2 zs.length (zs.flatMap (cH true))
section
variable {x:Cx}{g:Nat→FV}{ob:List (Option Ob)}{ws:List Zi}{z:Zi}{i j k1 e key:Nat}{y a b:AV}
theorem iO (ws:List Zi):(eA ws).length=ws.length*2:=by rw[eA,List.length_map,bO (eI true)]
theorem Su:∀{zs:List Zi}{i:Nat},i<zs.length→(eA zs)[0+i*2+1]? =some (.t (sU true (fS zs i).x))
 | [],_,h=>by simp at h
 | _::_,0,_=>rfl
 | z::zs,i+1,h=>by
  rw[show 0+(i+1)*2+1=(0+i*2+1)+1+1 by omega]
  exact Su (zs:=zs) (i:=i) (by simpa using h)
theorem Lz {y:AV}:∀{zs:List Zi}{i:Nat},i<zs.length→(((eA zs).set (0+i*2+1) y).drop (0+i*2)).take 2=[tv (.bool (fS zs i).s),y]
 | [],_,h=>by simp at h
 | _::_,0,_=>rfl
 | z::zs,i+1,h=>by
  rw[show 0+(i+1)*2+1=(0+i*2+1)+1+1 by omega,show 0+(i+1)*2=(0+i*2)+1+1 by omega]
  exact Lz (zs:=zs) (i:=i) (by simpa using h)
theorem zT {y a b:AV}:∀{zs:List Zi}{i:Nat},i<zs.length→cS ((eA zs).set (0+i*2+1) y) (0+i*2) [a,b]=((eA zs).set (0+i*2) a).set (0+i*2+1) b
 | [],_,h=>by simp at h
 | _::_,0,_=>rfl
 | z::zs,i+1,h=>by
  have ih:=zT (y:=y) (a:=a) (b:=b) (zs:=zs) (i:=i) (by simpa using h)
  rw[show 0+(i+1)*2+1=(0+i*2+1)+1+1 by omega,show 0+(i+1)*2=(0+i*2)+1+1 by omega]
  have h3:∀(A:List AV) (p:Nat) (c d:AV),cS (c::d::A) (p+1+1) [a,b]=c::d::cS A p [a,b]:=by
   intro A p c d
   unfold cS
   rw[show p+1+1+[a,b].length=(p+[a,b].length)+1+1 by simp only[List.length_cons,List.length_nil]]
   rfl
  show cS ((_::_::eA zs).set (0+i*2+1+1+1) y) _ _=_
  rw[List.set_cons_succ,List.set_cons_succ,h3,ih]
  rfl
theorem Ma:∀{zs:List Zi}{i:Nat},i<zs.length→((eA zs).set (0+i*2) (tv (.bool z.s))).set (0+i*2+1) (.t (sU true z.x))=eA (zs.set i z)
 | [],_,h=>by simp at h
 | _::_,0,_=>rfl
 | z'::zs,i+1,h=>by
  have ih:=Ma (zs:=zs) (i:=i) (by simpa using h)
  rw[show 0+(i+1)*2+1=(0+i*2+1)+1+1 by omega,show 0+(i+1)*2=(0+i*2)+1+1 by omega,List.set_cons_succ]
  show _=_::_::eA (zs.set i z)
  rw[←ih]
  rfl
theorem Pu (h:i<ws.length):0+i*2+[a,b].length≤((eA ws).set (0+i*2+1) y).length:=by rw[List.length_set,iO];show 0+i*2+2≤_;omega
theorem Wv (ws:List Zi) (z:Zi):eA ws++(cH true z).map .t=eA (ws++[z]):=by simp[eA,List.flatMap_append]
theorem oC (ws:List Zi):(eA ws).take (ws.length*2)=(ws.flatMap (cH true)).map .t:=List.take_of_length_le (by rw[iO];omega)
theorem NL (hn:Nat.beq j k1=false) (ho:bV ob j=some ⟨e,2,eA ws++[tv (.bool z.s),.sl k1 0 z.x.length]⟩) (o1:bV ob k1=some ⟨51,1,(aL z.x).map .t⟩):Sub x g ob g ((ob.set j (some ⟨e,2,eA (ws++[z])⟩)).set k1 none):=
 ES (p:=ws.length*2+1) (e:=51) (z:=1) (n:=z.x.length) (trs:=aL z.x) hn rfl ho o1 (by rw[List.getElem?_append_right (by rw[iO];omega),iO,show ws.length*2+1-ws.length*2=1 by omega];rfl) (aY _) (aU _) (by
  rw[List.set_append_right _ _ (by rw[iO];omega),iO,show ws.length*2+1-ws.length*2=1 by omega,←Wv]
  rfl)
theorem EK (hk:dP ob key=true) (ho:bV ob j=some ⟨e,2,eA ws⟩) (hi:i<ws.length) (hz:fS ws i=z):Sub x g ob g (ob.set j (some ⟨e,2,(eA ws).set (0+i*2+1) (.sl key 0 z.x.length)⟩)++[some ⟨51,1,(aL z.x).map .t⟩]):=
 OC hk rfl ho (hz▸Su hi) rfl
theorem Pt {y:AV}(hi:i<ws.length) (hz:fS ws i=z):(((eA ws).set (0+i*2+1) y).drop (0+i*2)).take 2=[tv (.bool z.s),y]:=hz▸Lz hi
theorem KV (hn:Nat.beq j k1=false) (hi:i<ws.length) (ho:bV ob j=some ⟨e,2,((eA ws).set (0+i*2) (tv (.bool z.s))).set (0+i*2+1) (.sl k1 0 z.x.length)⟩) (o1:bV ob k1=some ⟨51,1,(aL z.x).map .t⟩):Sub x g ob g ((ob.set j (some ⟨e,2,eA (ws.set i z)⟩)).set k1 none):=
 ES (p:=0+i*2+1) (e:=51) (z:=1) (n:=z.x.length) (trs:=aL z.x) hn rfl ho o1 (List.getElem?_set_self (by rw[List.length_set,iO];omega)) (aY _) (aU _) (by rw[List.set_set];exact Ma hi)
theorem rL (ws:List Zi):rdTL (ws.flatMap (cH true))=ws.flatMap (cH false):=by
 induction ws with
 | nil=>rfl
 | cons a l ih=>
  rw[List.flatMap_cons,List.flatMap_cons]
  show _::_::rdTL (l.flatMap (cH true))=_
  rw[ih]
  have h:tI (sU true a.x)=sU false a.x:=by
   unfold sU tI
   congr 1
   unfold aL
   induction a.x with
   | nil=>rfl
   | cons n xs ih=>simp only[List.map_cons,rdTL,tI,ih]
  rw[h]
  rfl
end
theorem Ww {L:Nat}{zs:List Zi}(h:∀a∈zs,ZL L a):(dQ zs).natAbs≤zs.length*4294967296^L:=by
 induction zs with
 | nil=>simp[dQ]
 | cons a l ih=>
  have h1:=ih fun b hb=>h b (List.mem_cons_of_mem _ hb)
  have h2:=KS (h a (List.mem_cons_self ..))
  have h3:=Int.natAbs_add_le (zv a) (dQ l)
  rw[List.length_cons,Nat.add_mul]
  simp only[dQ]
  omega
theorem sW {L k:Nat}{zs:List Zi}(h:∀a∈zs,ZL L a) (hl:zs.length≤1000000):(dg 4294967296 (dQ (zs.take k)).natAbs).length≤L+1:=by
 have h1:=Ww (zs:=zs.take k) fun a ha=>h a (List.mem_of_mem_take ha)
 refine cB (by omega) (Nat.lt_of_le_of_lt h1 ?_)
 have h2:(zs.take k).length<4294967296:=by rw[List.length_take];omega
 rw[Nat.pow_succ,Nat.mul_comm]
 exact Nat.mul_lt_mul_of_pos_left h2 (Nat.pow_pos (by omega))
theorem KT (k:Int):zv (.of k)=k:=qY k
theorem It (l:List Int):dQ (l.map Zi.of)=fM l:=by
 induction l with
 | nil=>rfl
 | cons a l ih=>rw[List.map_cons,dQ,pH,ih,KT]
def aQ (l:List Int):List Zi:=l.map Zi.of
theorem cX (l:List Int):(aQ l).length=l.length:=by simp[aQ]
theorem nL {l:List Int}{k:Nat}(h:k<l.length):fS (aQ l) k=.of (cC l k):=by simp[fS,aQ,cC,h]
theorem uX (l:List Int) (i:Nat) (k:Int):(aQ l).set i (.of k)=aQ (l.set i k):=by simp[aQ,List.map_set]
theorem Eb (l:List Int) (k:Int):aQ l++[.of k]=aQ (l++[k]):=by simp[aQ]
def cA (q:Rat):List Tr:=(Fr4.of q).tr false
theorem cN (q:Rat):(cA q).length=4:=rfl
def Dy (l:List Rat):List AV:=(l.flatMap cA).map .t
theorem Jd (l:List Rat):(Dy l).length=l.length*4:=by rw[Dy,List.length_map,bO cN]
theorem Tu (l:List Rat) (q:Rat):Dy l++(cA q).map .t=Dy (l++[q]):=eV l q
theorem Zy (l:List Rat):l.flatMap cA=(eD l).flatMap (Fr4.tr false):=by
 unfold eD
 rw[List.flatMap_map]
 rfl
theorem qD {L:Nat}{l:List Rat}(h:∀q∈l,Sz L q) (hL:L≤68719476736):∀x∈eD l,x.ok:=fun x hx=>by
 obtain⟨q,hq,rfl⟩:=List.mem_map.1 hx
 exact(Qn.of (h q hq) hL).1
theorem tE {L:Nat}{l:List Rat}(h:∀q∈l,Sz L q):∀x∈eD l,Sz L x.q:=fun x hx=>by
 obtain⟨q,hq,rfl⟩:=List.mem_map.1 hx
 rw[Fr4.q_of]
 exact h q hq
theorem eU {l:List Rat}{k:Nat}(h:k<l.length):l.take (k+1)=l.take k++[aP l k]:=by rw[List.take_add_one,iY h];rfl
theorem oW {l:List Int}{k:Nat}(h:k<l.length):l.take (k+1)=l.take k++[cC l k]:=by rw[List.take_add_one,mB h];rfl
section
variable {x:Cx}{g:Nat→FV}{ob:List (Option Ob)}
theorem EL {i k t z n:Nat}{l:List Tr}{fv fv':FV}(t':Nat) (hi:Nat.blt i x.n=true) (hg:g i=fv) (ho:bV ob k=some ⟨t,z,l.map .t⟩) (hz:l.length=n*z) (hf:FzF (.sl k 0 n) (.s false t' z n l) fv fv'):Sub x g ob (aZ g i fv') (ob.set k none):=Aj hi hg ho hf (Fy t' ho hz)
end
def bU (T:Rat) (b:Int) (ws:List Rat):List Rat:=
 if b<0∨(ws.length:Int)≤b then []
 else if aC (ws.map aX)=0 then(List.replicate ws.length 0).set b.toNat T
 else ws.map fun w=>T*aX w/aC (ws.map aX)
def lF (b:Int) (n:Nat):Int:=if b<0∨(n:Int)≤b then 2 else 0
theorem nK {T:Rat}{b:Int}{ws:List Rat}(h:b<0∨(ws.length:Int)≤b):bU T b ws=[]:=if_pos h
theorem uV {b:Int}{n:Nat}(h:b<0∨(n:Int)≤b):lF b n=2:=if_pos h
theorem Ea {m n:Nat}(h:m<n):lF (m:Int) n=0:=if_neg (by omega)
theorem Dz {T:Rat}{m:Nat}{ws:List Rat}(h:m<ws.length) (h0:aC (ws.map aX)=0):bU T (m:Int) ws=(List.replicate ws.length 0).set m T:=by
 unfold bU
 rw[if_neg (by omega),if_pos h0]
 rfl
theorem Jf {T:Rat}{m:Nat}{ws:List Rat}(h:m<ws.length) (h0:aC (ws.map aX)≠0):bU T (m:Int) ws=ws.map fun w=>T*aX w/aC (ws.map aX):=by
 unfold bU
 rw[if_neg (by omega),if_neg h0]
theorem zR {L:Nat}{k:Int}(h:iV L k) (hL:1≤L):Sz L (k:Rat):=by
 refine⟨by rw[Rat.num_intCast];exact h,?_⟩
 rw[Rat.den_intCast]
 exact hL
def mQ (l:List Rat) (k:Nat):List Rat:=List.replicate k 0++l.drop k
section
variable {l:List Rat}{f:Rat→Rat}{k:Nat}
theorem qG (h:k≤l.length):(mQ l k).length=l.length:=by simp[mQ];omega
theorem IW (h:k<l.length):(mQ l k).set k 0=mQ l (k+1):=by
 unfold mQ
 rw[List.set_append_right _ _ (by simp),List.length_replicate,Nat.sub_self,List.drop_eq_getElem_cons h,List.set_cons_zero,List.replicate_succ']
 simp
theorem AA (h:l.length≤k):mQ l k=List.replicate k 0:=by rw[mQ,List.drop_of_length_le h,List.append_nil]
def lU (f:Rat→Rat) (l:List Rat) (k:Nat):List Rat:=(l.take k).map f++l.drop k
theorem uW:(lU f l k).length=l.length:=by simp[lU];omega
theorem AB (h:k<l.length):aP (lU f l k) k=aP l k:=by
 unfold aP lU
 rw[List.getD_eq_getElem?_getD,List.getElem?_append_right (by rw[List.length_map,List.length_take];omega),List.length_map,List.length_take,Nat.min_eq_left (by omega),Nat.sub_self,List.getElem?_drop,List.getD_eq_getElem?_getD]
 rfl
theorem IX (h:k<l.length):(lU f l k).set k (f (aP l k))=lU f l (k+1):=by
 unfold lU
 have e:aP l k=l[k]:=by simp[aP,h]
 rw[List.set_append_right _ _ (by rw[List.length_map,List.length_take];omega),List.length_map,List.length_take,Nat.min_eq_left (by omega),Nat.sub_self,List.drop_eq_getElem_cons h,List.set_cons_zero,eU h,List.map_append,e]
 simp
theorem AC (h:l.length≤k):lU f l k=l.map f:=by rw[lU,List.drop_of_length_le h,List.take_of_length_le h,List.append_nil]
end
theorem zP (xs:List Fr4):(xs.map Fr4.q).map aX=xs.map fun x=>aX x.q:=by rw[List.map_map];rfl
theorem oU {L:Nat}:∀{l:List Rat},(∀q∈l,Sz L q)→Sz (2+l.length*(L+1)) (aC l)
 | [],_=>by simpa[aC]using lD (z:=0) (by omega) (by omega)
 | a::l,h=>by
  have h1:=oU (l:=l) fun q hq=>h q (List.mem_cons_of_mem _ hq)
  have h2:=h a (List.mem_cons_self ..)
  rw[jR]
  exact(tB h2 h1).mono (by rw[List.length_cons,Nat.add_mul];omega)
theorem Zz {xs:List Fr4}{f:Rat→Rat}{k:Nat}(h:k<xs.length):aP ((xs.map Fr4.q).map f) k=f (aS xs k).q:=by simp[aP,aS,h]
section
variable {l:List Rat}{k:Nat}{f:Int→Int}{z:List Int}
def cZ (l:List Rat):List Rat:=l.map fun x=>-x
theorem rM:(cZ l).length=l.length:=by simp[cZ]
theorem oN:aC (cZ l)=-aC l:=HJ l
theorem wU (h:(aC l).den≠1):cD l=[]:=if_neg h
theorem Ef (h:(aC l).den=1) (h0:aC l<0) (h1:(cZ l).any (fun x=>decide (x<0))=true):cD l=[]:=by
 unfold cD
 rw[if_pos h,if_pos h0]
 exact if_pos h1
theorem wT (h:(aC l).den=1) (h0:¬aC l<0) (h1:l.any (fun x=>decide (x<0))=true):cD l=[]:=by
 unfold cD
 rw[if_pos h,if_neg h0]
 exact if_pos h1
theorem uY (h:(aC l).den=1) (h0:¬aC l<0) (h1:l.any (fun x=>decide (x<0))=false):cD l=fD l:=by
 unfold cD
 rw[if_pos h,if_neg h0]
 exact if_neg (by rw[h1];simp)
theorem Xl (h:(aC l).den=1) (h0:aC l<0) (h1:(cZ l).any (fun x=>decide (x<0))=false):cD l=(cD (cZ l)).map fun x=>-x:=by
 have h2:¬aC (cZ l)<0:=by rw[oN];grind
 rw[uY (l:=cZ l) (by rw[oN,Rat.neg_den];exact h) h2 h1]
 unfold cD
 rw[if_pos h,if_pos h0]
 exact if_neg (by rw[show(l.map fun x=>-x)=cZ l from rfl,h1];simp)
theorem Eg (h0:aC l<0):¬aC (cZ l)<0:=by rw[oN];grind
theorem AH (l:List Rat):((eD l).any fun x=>decide (x.q<0))=l.any fun x=>decide (x<0):=by
 unfold eD
 rw[List.any_map]
 congr 1
 funext q
 simp[Fr4.q_of]
def gZ (f:Int→Int) (z:List Int) (k:Nat):List Int:=(z.take k).map f++z.drop k
theorem mA:(gZ f z k).length=z.length:=by simp[gZ];omega
theorem JI:gZ f z 0=z:=rfl
theorem Jh (h:k<z.length):cC (gZ f z k) k=cC z k:=by
 unfold cC gZ
 rw[List.getD_eq_getElem?_getD,List.getElem?_append_right (by rw[List.length_map,List.length_take];omega),List.length_map,List.length_take,Nat.min_eq_left (by omega),Nat.sub_self,List.getElem?_drop,List.getD_eq_getElem?_getD]
 rfl
theorem Xk (h:k<z.length):(gZ f z k).set k (f (cC z k))=gZ f z (k+1):=by
 unfold gZ
 have e:cC z k=z[k]:=by simp[cC,h]
 rw[List.set_append_right _ _ (by rw[List.length_map,List.length_take];omega),List.length_map,List.length_take,Nat.min_eq_left (by omega),Nat.sub_self,List.drop_eq_getElem_cons h,List.set_cons_zero,oW h,List.map_append,e]
 simp
theorem Jj (h:z.length≤k):gZ f z k=z.map f:=by rw[gZ,List.drop_of_length_le h,List.take_of_length_le h,List.append_nil]
theorem Ju {L t i:Nat}(hs:∀q∈l,Sz L q) (hi:i<l.length):(dg 4294967296 (cC (dW l t) i).natAbs).length≤L+2:=by
 rw[qH hi]
 have h1:=mO (aP l i)
 have h2:=(hs _ (dT hi)).1
 have h5:=gW (fl (aP l i)) (if i∈(cE l).take t then 1 else 0)
 have h6:(dg 4294967296 (if i∈(cE l).take t then(1:Int)else 0).natAbs).length≤1:=by split <;> decide
 omega
theorem zZ {L:Nat}(hs:∀q∈l,Sz L q):∀k∈fD l,(dg 4294967296 k.natAbs).length≤L+2:=fun k hk=>by
 obtain⟨i,hi⟩:=List.mem_iff_getElem?.1 hk
 have h1:=(List.getElem?_eq_some_iff.1 hi).1
 rw[mB h1]at hi
 obtain rfl:=Option.some.inj hi
 exact Ju hs (by rwa[qJ]at h1)
theorem Ji {L:Nat}(hs:∀q∈l,Sz L q):∀k∈cD l,(dg 4294967296 k.natAbs).length≤L+2:=fun k hk=>by
 unfold cD at hk
 split at hk
 ·split at hk
  ·split at hk
   ·cases hk
   obtain⟨j,hj,rfl⟩:=List.mem_map.1 hk
   rw[Int.natAbs_neg]
   exact zZ (fun q hq=>by obtain⟨p,hp,rfl⟩:=List.mem_map.1 hq;exact mP (hs p hp)) j hj
  split at hk
  ·cases hk
  exact zZ hs k hk
 cases hk
theorem Eh:(cD l).length≤l.length:=by
 unfold cD
 split
 ·split
  ·split
   ·simp
   rw[List.length_map,qJ,List.length_map];exact Nat.le_refl _
  split
  ·simp
  rw[qJ];exact Nat.le_refl _
 simp
end
section
variable {x:Cx}{g:Nat→FV}{ob:List (Option Ob)}
theorem KW {i t t' z n:Nat}{o:Bool}{l:List Tr}(hi:Nat.blt i x.n=true) (h:g i=.agg [.t (.s o t z n l)]):Sub x g ob (aZ g i (.agg [.t (.s false t' z n l)])) ob:=xT hi fun W N cs u hu=>by
 rw[h]at hu
 simp only[bG,bQ]at hu⊢
 obtain⟨us,e,h2⟩:=hu
 refine⟨us,e,?_⟩
 cases us with
 | nil=>simp only[ARL]at h2
 | cons v us=>
  simp only[ARL,AR,FR]at h2⊢
  exact h2
end
theorem Mb:∀{l:List Rat},(∀x∈l,0≤x)→aC l=0→∀x∈l,x=0
 | [],_,_,_,hx=>by cases hx
 | a::l,h,h0,x,hx=>by
  have h1:=h a (List.mem_cons_self ..)
  have h2:=Ci fun y hy=>h y (List.mem_cons_of_mem _ hy)
  rw[jR]at h0
  rcases List.mem_cons.1 hx with rfl | hx
  ·grind
  exact Mb (fun y hy=>h y (List.mem_cons_of_mem _ hy)) (by grind) x hx
theorem qL {T:Rat}{m i:Nat}{ws:List Rat}(hm:m<ws.length) (hi:i<ws.length):aP (bU T (m:Int) ws) i=if 0<aP ws i then T*aP ws i/aC (ws.map aX)else if aC (ws.map aX)=0∧i=m then T else 0:=by
 by_cases h0:aC (ws.map aX)=0
 ·have h1:¬0<aP ws i:=fun h2=>by
   have h3:=Mb (l:=ws.map aX) (fun x hx=>by obtain⟨y,_,rfl⟩:=List.mem_map.1 hx;exact HH y) h0 _ (List.mem_map.2 ⟨_,dT hi,rfl⟩)
   rw[Fe (by grind)]at h3
   grind
  rw[if_neg h1,Dz hm h0]
  unfold aP
  rw[List.getD_eq_getElem?_getD,List.getElem?_set]
  by_cases e:m=i
  ·rw[if_pos e,if_pos (by simpa using(by omega:m<ws.length)),if_pos ⟨h0,e.symm⟩]
   rfl
  rw[if_neg e,if_neg (fun h=>e h.2.symm)]
  simp[hi]
 rw[Jf hm h0,xL (g:=fun w=>T*aX w/aC (ws.map aX)) hi]
 by_cases h1:0<aP ws i
 ·rw[if_pos h1,Fe (by grind)]
 have h2:aX (aP ws i)=0:=by
  have:=uM (aP ws i)
  split at this <;> grind
 rw[if_neg h1,if_neg (fun h=>h0 h.1),h2,Rat.mul_zero,Rat.div_def,Rat.zero_mul]
theorem Ul {T:Rat}{m:Nat}{ws:List Rat}(hm:m<ws.length):(bU T (m:Int) ws).length=ws.length:=by
 unfold bU
 rw[if_neg (by omega)]
 split <;> simp
theorem Fd {l:List Rat}{k:Nat}(h:k<l.length):aC ((l.map aX).take (k+1))=aC ((l.map aX).take k)+aX (aP l k):=by
 rw[eU (by simpa using h),oV,xL h]
theorem AN {x:Rat}(h:¬0<x):aX x=0:=by
 have:=uM x
 split at this <;> grind
def aN (l:List Rat):List Rat:=if aC l<0 then cZ l else l
section
variable {l:List Rat}{k i t:Nat}
theorem Jr:(aN l).length=l.length:=by unfold aN;split <;> simp[cZ]
theorem rB (h:aC l<0):aN l=cZ l:=if_pos h
theorem vV (h:¬aC l<0):aN l=l:=if_neg h
theorem Ff (h:aC l<0) (hk:k<l.length):aP (aN l) k=-aP l k:=by rw[rB h];exact xL (g:=fun x=>-x) hk
theorem Fg (h:¬aC l<0):aP (aN l) k=aP l k:=by rw[vV h]
theorem Sv {p:Rat→Bool}(hk:k<l.length) (h:p (aP l k)=true):l.any p=true:=List.any_eq_true.2 ⟨_,dT hk,h⟩
theorem HU {p:Rat→Bool}(h:∀j,j<l.length→p (aP l j)=false):l.any p=false:=by
 rw[List.any_eq_false]
 intro x hx
 obtain⟨j,hj⟩:=List.mem_iff_getElem?.1 hx
 have hl:=(List.getElem?_eq_some_iff.1 hj).1
 rw[iY hl]at hj
 rw[←Option.some.inj hj,h j hl]
 simp
theorem Jt (hd:(aC l).den=1) (hk:k<l.length) (h:aP (aN l) k<0):cD l=[]:=by
 by_cases h0:aC l<0
 ·refine Ef hd h0 (Sv (k:=k) (by rw[rM];exact hk) ?_)
  rw[rB h0]at h
  exact decide_eq_true h
 refine wT hd h0 (Sv (k:=k) hk ?_)
 rw[vV h0]at h
 exact decide_eq_true h
theorem Mc:aC (aN l)=if aC l<0 then-aC l else aC l:=by
 unfold aN
 split
 ·exact oN
 rfl
theorem AO (hd:(aC l).den=1):(aC (aN l)).den=1:=by
 rw[Mc]
 split
 ·rw[Rat.neg_den];exact hd
 exact hd
theorem CN (hd:(aC l).den=1):(((fl (aC l)).natAbs:Nat):Int)=(aC (aN l)).num:=by
 rw[Ee hd,Mc]
 split
 ·rename_i h
  have:=gP.2 h
  rw[Rat.neg_num]
  omega
 rename_i h
 have:¬(aC l).num<0:=fun h9=>h (gP.1 h9)
 omega
theorem Ur (hd:(aC l).den=1):(((fl (aC l)).natAbs:Nat):Int)-fM ((aN l).map fl)=eN (aN l):=by rw[CN hd];rfl
theorem Qh {z:List Int}(h:k<z.length):fM (z.take (k+1))=fM (z.take k)+cC z k:=by
 rw[oW h,Wp]
 simp[fM]
theorem HV (h:∀j,j<l.length→¬aP (aN l) j<0):(aN l).any (fun x=>decide (x<0))=false:=HU fun j hj=>decide_eq_false (h j (by rwa[Jr]at hj))
theorem Jv (hd:(aC l).den=1) (h:∀j,j<l.length→¬aP (aN l) j<0):cD l=if aC l<0 then(fD (aN l)).map (fun x=>-x)else fD (aN l):=by
 have h1:=HV h
 by_cases h0:aC l<0
 ·rw[if_pos h0,rB h0,Xl hd h0 (by rw[←rB h0];exact h1),uY (by rw[oN,Rat.neg_den];exact hd) (Eg h0) (by rw[←rB h0];exact h1)]
 rw[if_neg h0,vV h0,uY hd h0 (by rw[←vV h0];exact h1)]
def jX (l:List Rat) (t:Nat):List Bool:=(List.range l.length).map fun i=>decide (i∈(cE l).take t)
def zI (l:List Bool) (k:Nat):Bool:=l.getD k false
theorem nN:(jX l t).length=l.length:=by simp[jX]
theorem Ir (h:i<l.length):zI (jX l t) i=decide (i∈(cE l).take t):=by simp[jX,zI,h]
theorem JF:jX l 0=List.replicate l.length false:=by
 apply List.ext_getElem?
 intro i
 by_cases h:i<l.length
 ·simp[jX,h]
 simp[jX,h]
theorem JH (h:t<l.length):(jX l t).set (nth (cE l) t) true=jX l (t+1):=by
 apply List.ext_getElem?
 intro i
 rw[List.getElem?_set]
 have hlt:nth (cE l) t<l.length:=qI (f:=oB l) h
 have h1:i∈(cE l).take (t+1)↔i∈(cE l).take t∨i=nth (cE l) t:=Lx (f:=oB l) (i:=i) h
 by_cases hi:i<l.length
 ·have e2:(jX l (t+1))[i]? =some (decide (i∈(cE l).take (t+1))):=by simp[jX,hi]
  have e1:(jX l t)[i]? =some (decide (i∈(cE l).take t)):=by simp[jX,hi]
  rw[e2,e1]
  by_cases e:nth (cE l) t=i
  ·rw[if_pos e,if_pos (by rw[nN];exact hlt),decide_eq_true (h1.2 (.inr e.symm))]
  rw[if_neg e]
  congr 1
  rw[decide_eq_decide,h1]
  exact⟨.inl,fun h9=>h9.elim id fun h8=>absurd h8.symm e⟩
 rw[if_neg (fun e=>by omega),List.getElem?_eq_none (by rw[nN];omega),List.getElem?_eq_none (by rw[nN];omega)]
end
def bT (xs:List Bool):List Tr:=xs.map fun b=>.v (.bool b)
theorem LT (xs:List Bool){k:Nat}(h:k<xs.length):((bT xs).map AV.t)[0+k*1]? =some (tv (.bool (zI xs k))):=by simp[bT,zI,h,tv]
theorem JG (xs:List Bool){k:Nat}{v:Bool}(h:k<xs.length):cS ((bT xs).map AV.t) (0+k*1) [tv (.bool v)]=(bT (xs.set k v)).map .t:=by
 unfold cS
 have e:0+k*1=k:=by omega
 rw[e,←List.map_take,←List.map_drop]
 show _=(List.map _ (xs.set k v)).map _
 rw[List.set_eq_take_append_cons_drop,if_pos h]
 simp[bT,tv]
theorem LV (xs:List Bool){k:Nat}{a:AV}(h:k<xs.length):0+k*1+[a].length≤((bT xs).map AV.t).length:=by simp[bT];omega
theorem FB (n:Nat):(List.replicate n (Value.bool false)).map tv=(bT (List.replicate n false)).map .t:=by simp[bT,tv]
section
variable {x:Cx}{g:Nat→FV}{ob ob':List (Option Ob)}{Q:Post}{ops:Array Oper}{rest:List Oper}{d:Nat}{ty:TypeId}{pos:String}{af:Array Edge}{gd:Option (Nat×Bool)}{T:List (Nat×TI)}
theorem HW {t e by_ k m:Nat}{ti:Bool}{ts0:Nat}{z0:List Value}{k1 k2:IntKind}{a b:Operand}(hT:bY x.P T) (ht:bR T t=some ⟨ti,ts0,z0,.sl e 1 by_ (.bool false)⟩) (ha:lk x.n g a=.one (tv (.int k1 (m:Int)))) (hb:lk x.n g b=.one (tv (.int k2 (m:Int)))) (hby:by_≤16) (hm:m≤8796093022208) (hk:dP ob k=true):
  OS x ⟨some d,.makeSlice t a b,ty,pos,af,gd⟩ g ob [] (fun g' ob2=>g'=aZ g d (.one (.sl k 0 m))∧ob2=ob++[some ⟨e,1,(List.replicate m (Value.bool false)).map tv⟩]):=by
 obtain⟨_,hel⟩:=(dD hT ht).2.2.2
 obtain⟨hu,i,hi,hz,hsize,hby',hzs,hsz⟩:=hel
 subst hby'
 have hk:=Nat.eq_of_beq_eq_true hk
 subst hk
 intro cs ts W hR K Q' kk'
 have e1:=hR.lk a
 rw[ha]at e1
 have e1:=aW e1
 have e2:=hR.lk b
 rw[hb]at e2
 have e2:=aW e2
 have hmul:i.bytes*m≤16*8796093022208:=Nat.mul_le_mul hby hm
 obtain⟨w',hrun,h1,h2⟩:=run_make_full (P:=x.P) W 0 t e i (.bool false) 1 hu hi hz hsize k1 k2 m (by omega) (by unfold maxLen;omega) (Nat.zero_le _)
 have hrun':(execOp (Act.eval ⟨ts,[]⟩) ⟨some d,.makeSlice t a b,ty,pos,af,gd⟩).run x.P W=.ok (.value (.slice (some ⟨W.heap.size,0,none⟩) m m)) w':=by
  simp[execOp,e1,e2,hrun]
 have e0:(madeCells (Value.bool false).cells (m*1)).toList=List.replicate m (.bool false):=by
  rw[Nat.mul_one]
  show(madeCells #[Value.bool false] m).toList=_
  rw[toList_madeCells_one]
 rw[e0]at h1
 generalize hus:List.replicate m (Value.bool false)=us at h1 kk'
 have hbl:Below W.heap.size W w':=(Below.refl _ _).grown h2 (Nat.le_refl _) (fun k hk=>by cases hk)
 rcases h1.2 with⟨hh,_⟩ | ⟨g1,cap,cur,hv,_,hg,hnc,hcm,hcs,htake⟩
 ·injection hh with h3;cases h3
 injection hv with q1 q2 q3
 injection q1 with q1
 injection q1 with q1
 subst q1 q3
 have hlt:W.heap.size<w'.heap.size:=(Array.getElem?_eq_some_iff.1 hg).1
 have hcur:cur.toList=us:=by
  have h9:cur.toList.length=m*1:=by simpa using hcs
  rw[←htake,List.take_of_length_le (by omega)]
 have hS:∀b∈(aG (some ⟨e,1,us.map tv⟩) ⟨some W.heap.size,m,us.map .w⟩).S,W.heap.size≤b∧b<w'.heap.size:=by
  intro b hb
  simp[aG,jM]at hb
  subst hb
  exact⟨Nat.le_refl _,hlt⟩
 have hown:∀b∈cK (ob++[some ⟨e,1,us.map tv⟩]) (cs++[⟨some W.heap.size,m,us.map .w⟩]),b∈cK ob cs∨W.heap.size≤b:=by
  intro b hb
  unfold cK aE at hb
  rw[List.zipWith_append hR.len,List.flatMap_append,List.mem_append]at hb
  rcases hb with hb | hb
  ·exact .inl hb
  exact .inr (hS b (by simpa using hb)).1
 have m1:RelC x g (ob++[some ⟨e,1,us.map tv⟩]) (cs++[⟨some W.heap.size,m,us.map .w⟩]) ts w':=by
  refine hR.push hbl _ _ ?_ hS (by simp[aG,jM]) ?_ (fun e=>by cases e)
  ·have hul:us.length=m:=by rw[←hus,List.length_replicate]
   simp only[aG,pC]
   refine⟨⟨[],?_,by simp[hul]⟩,pB _,hcm⟩
   rw[List.append_nil,hg,←hcur]
  exact oG (lH _) (tR _)
 refine eH hrun' (kk' _ _ _ _ _ ⟨rfl,rfl⟩ (m1.put d ?_) ((Aft.mk .app (fun k _ hk=>kC hk) hbl.size (fun b hlt _=>hbl.block b hlt) hown (fun _ _=>rfl):Aft [] (some d) ob cs ts W _ _ ts w').then_put _))
 refine fZ ?_
 simp only[AR]
 rw[hR.len,fL]
 exact⟨by simp[hR.len],0,m,rfl,Nat.le_refl _,hcm,fun _=>rfl,fun _=>rfl⟩
theorem NO {t e by_ m:Nat}{ti:Bool}{ts0:Nat}{z0:List Value}{k1 k2:IntKind}{a b:Operand}(key:Nat) (hm:m≤8796093022208){l:List AV}(hl:(List.replicate m (Value.bool false)).map tv=l) (k:WL x ops rest (aZ g d (.one (.sl key 0 m))) (ob++[some ⟨e,1,l⟩]) Q) (hT:bY x.P ttab:=by exact aA) (hw:bB ops x.n g gd=some true:=by rfl)
  (ht:bR ttab t=some ⟨ti,ts0,z0,.sl e 1 by_ (.bool false)⟩:=by rfl) (ha:lk x.n g a=.one (tv (.int k1 (m:Int))):=by rfl) (hb:lk x.n g b=.one (tv (.int k2 (m:Int))):=by rfl) (hby:by_≤16:=by decide) (hk:dP ob key=true:=by rfl):WL x ops (⟨some d,.makeSlice t a b,ty,pos,af,gd⟩::rest) g ob Q:=by
 subst hl
 exact gL (HW hT ht ha hb hby hm hk) hw (by rintro _ _ ⟨rfl,rfl⟩;exact k)
end
end Go.Proofs.YthmgbcdidlkpoaaGreat
