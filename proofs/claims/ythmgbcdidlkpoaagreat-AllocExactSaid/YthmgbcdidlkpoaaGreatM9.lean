/- Part 9 of a proof: A4 to B1. -/
import Derived.Test.YthmgbcdidlkpoaaGreatM8
import Derived.Test.YthmgbcdidlkpoaaGreatM7
import Derived.Test.YthmgbcdidlkpoaaGreatM4
import Derived.Test.YthmgbcdidlkpoaaGreatM5
set_option maxRecDepth 100000
set_option linter.unusedVariables false
set_option linter.unusedSimpArgs false
namespace Go.Proofs.YthmgbcdidlkpoaaGreat
open Go Go.RowKit
theorem yI {xs:List Nat}(hx:xs.length≤4398046511104):aC false Tryz.prog 132 [] [.one (.t (sI false xs))] (aM (.one (.t (sI false (trim xs))))):=by
 refine bR Tryz.func132 rfl Tryz.ntmps132 rfl aA rfl fun N w c0 h0=>?_
 refine sq ?_;refine rl ?_;refine o1 ?_;refine nl ?_;refine sq ?_;refine bl ?_
 refine lp (γ:=List Nat) (fun zs=>cH [(0,.one (.t (sI false zs)))]) (fun _=>([]:List Ob).map some) (fun zs=>trim zs=trim xs∧zs.length≤xs.length) (fun zs=>zs.length) xs ⟨rfl,Nat.le_refl _⟩ (aL h0 [] _ _ (by decide) ⟨rfl,trivial⟩ rfl) fun zs hz=>?_
 refine sq ?_;refine sq ?_;refine rl ?_;(iterate 4 refine o1 ?_);refine WL.split (t:=6) rfl (fun h1=>?_) (fun h1=>?_)
 ·(iterate 4 refine o1 ?_);refine WL.cast (t:=10) (u':=.int .i64 ((zs.length-1:Nat):Int)) rfl (aK (by omega)) ?_
  refine o1 ?_;refine fS ([.v (.int .i64 ((nth zs (zs.length-1):Nat):Int))]) (dZ zs (k:=zs.length-1) (by omega)) ?_
  refine o1 ?_;refine o1 ?_;refine nl ?_;refine bX rfl (fun h2=>?_) (fun h2=>?_)
  ·refine sk ?_;refine bl ?_;refine rl ?_;(iterate 4 refine o1 ?_);refine WL.cast (t:=18) (u':=.int .i64 ((zs.length-1:Nat):Int)) rfl (aK (by omega)) ?_
   refine o1 ?_;refine o1 ?_;refine nl ?_
   exact⟨zs.take (zs.length-1),by rw[List.length_take];omega,⟨(by rw[sA (xs:=zs) (k:=zs.length) (by omega) (Nat.le_refl _) (by omega),List.take_length];exact hz.1),by rw[List.length_take];omega⟩,aL h0 [] _ _ (by decide) ⟨congrArg some (Qr (by omega)).symm,trivial⟩ rfl⟩
  refine ex ?_;refine sq ?_;refine rl ?_;refine o1 ?_;refine o1 ?_;refine nl ?_;refine rt ?_;refine en (.inl rfl) rfl (aT (.one (.id rfl))) (by decide) (fun h=>by cases h) ?_
  have hx:trim xs=zs:=by
   rw[←hz.1];have h9:=oC (xs:=zs) (k:=zs.length) (by omega) (Nat.le_refl _) (by omega)
   rwa[List.take_length]at h9
  rw[hx];rfl
 (iterate 7 refine eL ?_);refine o1 ?_;refine nl ?_;refine fK rfl ?_;refine ex ?_;refine sq ?_;refine rl ?_;refine o1 ?_;refine o1 ?_;refine nl ?_;refine rt ?_
 refine en (.inl rfl) rfl (aT (.one (.id rfl))) (by decide) (fun h=>by cases h) ?_
 have hx:trim xs=zs:=by
  have h9:zs=[]:=List.eq_nil_of_length_eq_zero (by omega)
  rw[←hz.1,h9];rfl
 rw[hx];rfl
theorem kI {xs:List Nat}(hx:xs.length≤1099511627776) (hl:Lim 4294967296 xs):aC false Tryz.prog 109 [] [.one (.t (sU false xs))] (aM (.one (.t (sI false (dg 65536 (vl 4294967296 xs)))))):=by
 refine bR Tryz.func109 rfl Tryz.ntmps109 rfl aA rfl fun N w c0 h0=>?_
 refine sq ?_;refine rl ?_;refine o1 ?_;refine nl ?_;refine sq ?_;refine rl ?_;refine o1 ?_;refine nl ?_;refine sq ?_;refine sq ?_;refine rl ?_;refine o1 ?_;refine nl ?_;refine bl ?_
 refine lp (γ:=Nat) (fun k=>cH [(0,.one (.t (sU false xs))),(3,.one (.sl 0 0 (2*k))),(4,.one (tv (.int .i64 ((k:Nat):Int))))]) (fun k=>[(⟨3,1,(cC (hv (xs.take k))).map .t⟩:Ob)].map some) (fun k=>k≤xs.length) (fun k=>xs.length-k) 0 (Nat.zero_le _) ((nr (i:=3) 0 3 1 rfl rfl rfl rfl).trans (aL h0 [0] _ _ (by decide) ⟨rfl,rfl,rfl,trivial⟩ ⟨cB (l:=[]) rfl,rfl⟩)) fun k hk=>?_
 have hn:=hl.nth (by omega) k
 refine sq ?_;refine sq ?_;refine rl ?_;(iterate 4 refine o1 ?_);refine nl ?_;refine bX rfl (fun h1=>?_) (fun h1=>?_)
 ·refine sk ?_;refine sq ?_;refine bl ?_;refine rd [] (fun i=>[15].contains i) mixed ?_
  refine dv 0 ?_;refine dv 1 ?_;refine dv 2 ?_;refine dv 3 ?_;refine gE 4 ([.v (.int .u32 ((nth xs (k):Nat):Int))]) (lZ xs (k:=k) (by omega)) ?_
  refine dv 5 ?_;refine WD.cast (t:=16) (u':=.int .u32 ((nth xs k%65536:Nat):Int)) rfl (aK (jA _ 65536)) ?_;refine dv 6 ?_;refine dv 7 ?_;refine dv 8 ?_;refine dv 9 ?_
  refine gE 10 ([.v (.int .u32 ((nth xs (k):Nat):Int))]) (lZ xs (k:=k) (by omega)) ?_
  refine dv 11 ?_ (hC:=(fQ 65536 (by omega) (by simp only[fM];omega)))
  refine WD.cast (t:=22) (u':=.int .u32 ((nth xs k/65536:Nat):Int)) rfl (aK (eF _ 65536)) ?_;refine dv 12 ?_;refine qS (key:=1) 13 (by kernel_rfl) rfl rfl aA rfl trivial ?_
  refine Wk (j:=2) 14 rfl aA rfl rfl rfl (.sl rfl (by rw[List.length_map,eX,nZ,List.length_take];omega)) (.sl rfl rfl rfl) rfl rfl (by omega) (by omega) rfl rfl (by kernel_rfl) rfl ?_
  refine dI 15 (by kernel_rfl) rfl rfl aA rfl (by trivial) ?_ (fun h=>by first | rfl | cases h)
  refine aN ?_;refine rl ?_;(iterate 3 refine o1 ?_);refine nl ?_
  exact⟨k+1,by omega,by omega,aL h0 [2] _ _ (by decide) ⟨rfl,rfl,rfl,trivial⟩ ⟨kD rfl (eY _ [nth xs k%65536,nth xs k/65536]) (Jx (by omega)).symm,rfl⟩⟩
 refine ex ?_;refine sq ?_;refine rl ?_;refine WL.sub (vM (i:=3) (zs':=hv xs) rfl rfl rfl (by rw[nZ,List.length_take];omega) (by rw[List.take_of_length_le (by omega)])) ?_
 refine o1 ?_;refine ca (yI (by rw[nZ];omega)) xR ⟨a1 rfl,rfl⟩ (.one (.t (sI false (trim (hv xs))))) ?_
 refine o1 ?_;refine nl ?_;refine rt ?_;exact en (.inl rfl) rfl (aT (.one (.id rfl))) (by decide) (fun h=>by cases h) (by rw[Xb hl];rfl)
theorem rS {xs zs:List Nat}(hx:xs.length≤4398046511104) (hl:Lim 65536 xs) (hz:lb xs=zs):aC true Tryz.prog 111 [] [.one (.t (sI false xs))] (aM (.one (.t (sU true zs)))):=by
 refine bR Tryz.func111 rfl Tryz.ntmps111 rfl aA rfl fun N w c0 h0=>?_
 refine sq ?_;refine rl ?_;refine o1 ?_;refine nl ?_;refine sq ?_;refine rl ?_;(iterate 3 refine o1 ?_)
 refine WL.cast (t:=7) (u':=.int .i64 ((xs.length+1:Nat):Int)) rfl (aK (by omega)) ?_
 refine o1 ?_ (hC:=(fQ 2 (by omega) (by simp only[fM];omega)))
 refine WL.cast (t:=8) (u':=.int .i64 (((xs.length+1)/2:Nat):Int)) rfl (aK (eF _ 2)) ?_;refine mk (m:=(xs.length+1)/2) 0 (by omega) (Ux _) ?_
 refine o1 ?_;refine nl ?_;refine sq ?_;refine sq ?_;refine rl ?_;refine o1 ?_;refine nl ?_;refine bl ?_
 refine lp (γ:=Nat) (fun k=>cH [(0,.one (.t (sI false xs))),(3,.one (.sl 0 0 ((xs.length+1)/2))),(4,.one (tv (.int .i64 ((k:Nat):Int))))]) (fun k=>[(⟨51,1,(aJ (iO xs k ((xs.length+1)/2))).map .t⟩:Ob)].map some) (fun k=>k≤xs.length) (fun k=>xs.length-k) 0 (Nat.zero_le _) (aL h0 [0] _ _ (by decide) ⟨rfl,rfl,rfl,trivial⟩ ⟨Qs rfl rfl Uv.symm,rfl⟩) fun k hk=>?_
 have hn:=hl.nth (by omega) k
 have hln:=AG (l:=xs) (k:=k) (N:=(xs.length+1)/2) rfl hk
 refine sq ?_;refine sq ?_;refine rl ?_;(iterate 4 refine o1 ?_);refine nl ?_;refine bX rfl (fun h1=>?_) (fun h1=>?_)
 ·refine sk ?_;refine sq ?_;refine bl ?_;refine sq ?_;refine rl ?_;refine o1 ?_;refine o1 ?_;refine WL.cast (t:=17) (u':=.int .i64 ((k%2:Nat):Int)) rfl (aK (jA _ 2)) ?_
  refine o1 ?_;refine nl ?_;refine bX rfl (fun h2=>?_) (fun h2=>?_)
  ·refine rl ?_;refine o1 ?_;refine o1 ?_;refine o1 ?_ (hC:=(fQ 2 (by omega) (by simp only[fM];omega)))
   refine WL.cast (t:=21) (u':=.int .i64 ((k/2:Nat):Int)) rfl (aK (eF _ 2)) ?_;(iterate 3 refine o1 ?_)
   refine fS ([.v (.int .i64 ((nth xs (k):Nat):Int))]) (dZ xs (k:=k) (by omega)) ?_
   refine o1 ?_;refine WL.cast (t:=26) (u':=.int .u32 ((nth xs k:Nat):Int)) rfl (aK rfl) ?_;refine o1 ?_
   refine wY (Kf (iO xs k ((xs.length+1)/2)) (k:=k/2) (v:=nth xs k) (by omega)) (Qw (iO xs k ((xs.length+1)/2)) (by omega)) ?_
   refine nl ?_;refine rl ?_;refine o1 ?_;refine o1 ?_;refine WL.cast (t:=15) (u':=.int .i64 ((k+1:Nat):Int)) rfl (aK (by omega)) ?_
   refine o1 ?_;refine nl ?_;exact⟨k+1,by omega,by omega,aL h0 [0] _ _ (by decide) ⟨rfl,rfl,rfl,trivial⟩ ⟨Qs rfl rfl (Uw rfl (by omega) (by omega)),rfl⟩⟩
  have hnt:=vN (l:=xs) (k:=k) (N:=(xs.length+1)/2) rfl (by omega) (by omega)
  have hb1:=hl.nth (by omega) (k-1)
  refine rd [0] (fun i=>[16].contains i) mixed ?_
  refine dv 0 ?_;refine dv 1 ?_;refine dv 2 ?_ (hC:=(fQ 2 (by omega) (by simp only[fM];omega)))
  refine WD.cast (t:=30) (u':=.int .i64 ((k/2:Nat):Int)) rfl (aK (eF _ 2)) ?_;refine dv 3 ?_;refine dv 4 ?_
  refine dv 5 ?_ (hC:=(fQ 2 (by omega) (by simp only[fM];omega)))
  refine WD.cast (t:=33) (u':=.int .i64 ((k/2:Nat):Int)) rfl (aK (eF _ 2)) ?_;refine dv 6 ?_;refine Sd 7 (FH (iO xs k ((xs.length+1)/2)) (k:=k/2) (by omega)) ?_
  refine dv 8 ?_;refine dv 9 ?_;refine dv 10 ?_;refine gE 11 ([.v (.int .i64 ((nth xs (k):Nat):Int))]) (dZ xs (k:=k) (by omega)) ?_
  refine dv 12 ?_;refine dv 13 ?_;refine dv 14 ?_
  refine WD.cast (t:=42) (u':=.int .u32 ((nth (iO xs k ((xs.length+1)/2)) (k/2)+65536*nth xs k:Nat):Int)) rfl (aK (by omega)) ?_
  refine dv 15 ?_
  refine Lh 16 (Kf (iO xs k ((xs.length+1)/2)) (k:=k/2) (v:=nth (iO xs k ((xs.length+1)/2)) (k/2)+65536*nth xs k) (by omega)) (Qw (iO xs k ((xs.length+1)/2)) (by omega)) ?_
  refine aN ?_;refine rl ?_;refine o1 ?_;refine o1 ?_;refine WL.cast (t:=15) (u':=.int .i64 ((k+1:Nat):Int)) rfl (aK (by omega)) ?_
  refine o1 ?_;refine nl ?_;exact⟨k+1,by omega,by omega,aL h0 [0] _ _ (by decide) ⟨rfl,rfl,rfl,trivial⟩ ⟨Qs rfl rfl (AI rfl (by omega) (by omega)),rfl⟩⟩
 refine ex ?_;refine sq ?_;refine rl ?_;refine o1 ?_;refine o1 ?_;refine nl ?_;refine rt ?_
 exact en (.inl rfl) rfl (aT (.one (.sl (trs:=aJ (lb xs)) rfl rfl (by rw[AF rfl (by omega),Nat.mul_one,List.take_of_length_le (by simp[fN,gH])]) (by simp[fN,gH])))) (by decide) (fun _=>.inl ⟨rfl,eC _⟩) (by subst hz;unfold sU;rw[gH];rfl)
theorem Gn {xs ys:List Nat}(hx:xs.length≤1099511627776) (hy:ys.length≤1099511627776) (hlx:Lim 65536 xs) (hly:Lim 65536 ys):aC false Tryz.prog 114 [] [.one (.t (sI false xs)),.one (.t (sI false ys))] (aM (.one (.t (sI false (dg 65536 (vl 65536 xs*vl 65536 ys)))))):=by
 refine bR Tryz.func114 rfl Tryz.ntmps114 rfl aA rfl fun N w c0 h0=>?_
 refine sq ?_;refine rl ?_;refine o1 ?_;refine nl ?_;refine sq ?_;refine rl ?_;(iterate 5 refine o1 ?_)
 refine WL.cast (t:=14) (u':=.int .i64 ((xs.length+ys.length:Nat):Int)) rfl (aK (by omega)) ?_
 refine o1 ?_;refine WL.cast (t:=15) (u':=.int .i64 ((xs.length+ys.length+1:Nat):Int)) rfl (aK (by omega)) ?_
 refine mk (m:=xs.length+ys.length+1) 0 (by omega) (Gc _) ?_
 refine o1 ?_;refine nl ?_;refine sq ?_;refine sq ?_;refine rl ?_;refine o1 ?_;refine nl ?_;refine bl ?_
 refine lp (γ:=Nat×List Nat) (fun s=>cH [(0,.one (.t (sI false xs))),(1,.one (.t (sI false ys))),(5,.one (.sl 0 0 (xs.length+ys.length+1))),(6,.one (tv (.int .i64 ((s.1:Nat):Int))))]) (fun s=>[(⟨3,1,(cC s.2).map .t⟩:Ob)].map some) (fun s=>s.1≤xs.length∧Lim 65536 s.2∧s.2.length=xs.length+ys.length+1∧vl 65536 s.2=vl 65536 (xs.take s.1)*vl 65536 ys) (fun s=>xs.length-s.1) (0,List.replicate (xs.length+ys.length+1) 0) ⟨Nat.zero_le _,Lim.replicate (by omega) _,List.length_replicate,by rw[rY];simp[vl]⟩ (aL h0 [0] _ _ (by decide) ⟨rfl,rfl,rfl,rfl,trivial⟩ ⟨kD rfl rfl rfl,rfl⟩) ?_
 rintro⟨i,os⟩ ⟨hi,hol,hos,hv⟩;dsimp only at hi hol hos hv⊢;refine sq ?_;refine sq ?_;refine rl ?_;(iterate 4 refine o1 ?_);refine nl ?_;refine bX rfl (fun h1=>?_) (fun h1=>?_)
 ·refine sk ?_;refine sq ?_;refine bl ?_;refine sq ?_;refine rl ?_;refine o1 ?_;refine nl ?_;refine sq ?_;refine rl ?_;refine o1 ?_;refine nl ?_;refine bl ?_
  have hil:=hlx.nth (by omega) i
  refine lp (γ:=Nat×Nat×List Nat) (fun s=>cH [(0,.one (.t (sI false xs))),(1,.one (.t (sI false ys))),(5,.one (.sl 0 0 (xs.length+ys.length+1))),(6,.one (tv (.int .i64 ((i:Nat):Int)))),(7,.one (tv (.int .i64 ((s.2.1:Nat):Int)))),(8,.one (tv (.int .i64 ((s.1:Nat):Int))))]) (fun s=>[(⟨3,1,(cC s.2.2).map .t⟩:Ob)].map some) (fun s=>s.1≤ys.length+1∧Lim 65536 s.2.2∧s.2.2.length=xs.length+ys.length+1∧vl 65536 s.2.2+65536^(i+s.1)*s.2.1=vl 65536 (xs.take i)*vl 65536 ys+65536^i*(nth xs i*vl 65536 (ys.take s.1))∧s.2.1≤65535) (fun s=>ys.length+1-s.1) (0,0,os) ⟨Nat.zero_le _,hol,hos,by dsimp only;rw[hv];simp[vl],Nat.zero_le _⟩ (aL h0 [0] _ _ (by decide) ⟨rfl,rfl,rfl,rfl,rfl,rfl,trivial⟩ ⟨kD rfl rfl rfl,rfl⟩) ?_
  rintro⟨k,cr,os2⟩ ⟨hk,hol2,hos2,hv2,hcb⟩;dsimp only at hk hol2 hos2 hv2 hcb⊢;refine sq ?_;refine sq ?_;refine rl ?_;(iterate 5 refine o1 ?_)
  refine WL.split (t:=27) rfl (fun h2=>?_) (fun h2=>?_)
  ·refine eL ?_;refine eL ?_;refine o1 ?_;refine nl ?_;refine mP rfl ?_;refine sk ?_;refine sq ?_;refine bl ?_;refine sq ?_
   have hkl:k≤ys.length:=by first | omega | exact Gb hlx hly (by omega) hk hv2 (by omega)
   have hon:=hol2.nth (by omega) (i+k)
   have hyn:=hly.nth (by omega) k
   have hmul:=Nat.mul_le_mul (Nat.le_of_lt_succ hil) (Nat.le_of_lt_succ hyn)
   refine rl ?_;(iterate 4 refine o1 ?_);refine WL.cast (t:=36) (u':=.int .i64 ((i+k:Nat):Int)) rfl (aK (by omega)) ?_
   refine o1 ?_;refine Wb (jL os2 (k:=i+k) (by omega)) ?_
   refine o1 ?_;refine o1 ?_;refine WL.cast (t:=40) (u':=.int .i64 ((nth os2 (i+k)+cr:Nat):Int)) rfl (aK (by omega)) ?_
   refine o1 ?_;refine nl ?_;refine sq ?_;refine sq ?_;refine rl ?_;(iterate 4 refine o1 ?_);refine nl ?_;refine bX rfl (fun h3=>?_) (fun h3=>?_)
   ·refine rd [] (fun i=>[11].contains i) mixed ?_
    refine dv 0 ?_;refine dv 1 ?_;refine dv 2 ?_;refine dv 3 ?_;refine gE 4 ([.v (.int .i64 ((nth xs (i):Nat):Int))]) (dZ xs (k:=i) (by omega)) ?_
    refine dv 5 ?_;refine dv 6 ?_;refine dv 7 ?_;refine gE 8 ([.v (.int .i64 ((nth ys (k):Nat):Int))]) (dZ ys (k:=k) (by omega)) ?_
    refine dv 9 ?_;refine WD.cast (t:=54) (u':=.int .i64 ((nth xs i*nth ys k:Nat):Int)) rfl (aK (Int.natCast_mul _ _).symm) ?_;refine dv 10 ?_
    refine WD.cast (t:=55) (u':=.int .i64 ((nth os2 (i+k)+cr+nth xs i*nth ys k:Nat):Int)) rfl (aK (by omega)) ?_
    refine dI 11 (by kernel_rfl) rfl rfl aA rfl (by trivial) ?_ (fun h=>by first | rfl | cases h)
    refine aN ?_;refine sq ?_;refine rl ?_;(iterate 4 refine o1 ?_);refine WL.cast (t:=59) (u':=.int .i64 ((i+k:Nat):Int)) rfl (aK (by omega)) ?_
    refine o1 ?_;refine o1 ?_;refine WL.cast (t:=61) (u':=.int .i64 (((nth os2 (i+k)+cr+nth xs i*nth ys k)%65536:Nat):Int)) rfl (aK (jA _ 65536)) ?_;refine o1 ?_
    refine wY (iR os2 (k:=i+k) (v:=(nth os2 (i+k)+cr+nth xs i*nth ys k)%65536) (by omega)) (kL os2 (by omega)) ?_
    refine nl ?_;refine rl ?_;refine o1 ?_;refine o1 ?_ (hC:=(fQ 65536 (by omega) (by simp only[fM];omega)))
    refine WL.cast (t:=64) (u':=.int .i64 (((nth os2 (i+k)+cr+nth xs i*nth ys k)/65536:Nat):Int)) rfl (aK (eF _ 65536)) ?_;refine o1 ?_;refine nl ?_;refine rl ?_
    refine o1 ?_;refine o1 ?_;refine WL.cast (t:=32) (u':=.int .i64 ((k+1:Nat):Int)) rfl (aK (by omega)) ?_
    refine o1 ?_;refine nl ?_;have hst:=mW (x:=nth os2 (i+k)+cr+nth xs i*nth ys k) (by omega) hv2 (by rfl)
    exact⟨(k+1,(nth os2 (i+k)+cr+nth xs i*nth ys k)/65536,os2.set (i+k) ((nth os2 (i+k)+cr+nth xs i*nth ys k)%65536)),by dsimp only;omega,⟨by dsimp only;omega,hol2.set _ (Nat.mod_lt _ (by omega)),by rw[List.length_set];exact hos2,hst,by dsimp only;omega⟩,aL h0 [0] _ _ (by decide) ⟨rfl,rfl,rfl,rfl,rfl,rfl,trivial⟩ ⟨kD rfl rfl rfl,rfl⟩⟩
   refine sk ?_;refine sq ?_;refine rl ?_;(iterate 4 refine o1 ?_);refine WL.cast (t:=59) (u':=.int .i64 ((i+k:Nat):Int)) rfl (aK (by omega)) ?_
   refine o1 ?_;refine o1 ?_;refine WL.cast (t:=61) (u':=.int .i64 (((nth os2 (i+k)+cr)%65536:Nat):Int)) rfl (aK (jA _ 65536)) ?_;refine o1 ?_
   refine wY (iR os2 (k:=i+k) (v:=(nth os2 (i+k)+cr)%65536) (by omega)) (kL os2 (by omega)) ?_
   refine nl ?_;refine rl ?_;refine o1 ?_;refine o1 ?_ (hC:=(fQ 65536 (by omega) (by simp only[fM];omega)))
   refine WL.cast (t:=64) (u':=.int .i64 (((nth os2 (i+k)+cr)/65536:Nat):Int)) rfl (aK (eF _ 65536)) ?_;refine o1 ?_;refine nl ?_;refine rl ?_;refine o1 ?_;refine o1 ?_
   refine WL.cast (t:=32) (u':=.int .i64 ((k+1:Nat):Int)) rfl (aK (by omega)) ?_
   refine o1 ?_;refine nl ?_;have hny:nth ys k=0:=dJ (by omega)
   have hst:=mW (x:=nth os2 (i+k)+cr) (by omega) hv2 (by rw[hny,Nat.mul_zero,Nat.add_zero])
   exact⟨(k+1,(nth os2 (i+k)+cr)/65536,os2.set (i+k) ((nth os2 (i+k)+cr)%65536)),by dsimp only;omega,⟨by dsimp only;omega,hol2.set _ (Nat.mod_lt _ (by omega)),by rw[List.length_set];exact hos2,hst,by dsimp only;omega⟩,aL h0 [0] _ _ (by decide) ⟨rfl,rfl,rfl,rfl,rfl,rfl,trivial⟩ ⟨kD rfl rfl rfl,rfl⟩⟩
  (iterate 3 refine o1 ?_);refine nl ?_;refine bX rfl (fun h4=>?_) (fun h4=>?_)
  ·refine sk ?_;refine sq ?_;refine bl ?_;refine sq ?_;have hkl:k≤ys.length:=by first | omega | exact Gb hlx hly (by omega) hk hv2 (by omega)
   have hon:=hol2.nth (by omega) (i+k)
   have hyn:=hly.nth (by omega) k
   have hmul:=Nat.mul_le_mul (Nat.le_of_lt_succ hil) (Nat.le_of_lt_succ hyn)
   refine rl ?_;(iterate 4 refine o1 ?_);refine WL.cast (t:=36) (u':=.int .i64 ((i+k:Nat):Int)) rfl (aK (by omega)) ?_
   refine o1 ?_;refine Wb (jL os2 (k:=i+k) (by omega)) ?_
   refine o1 ?_;refine o1 ?_;refine WL.cast (t:=40) (u':=.int .i64 ((nth os2 (i+k)+cr:Nat):Int)) rfl (aK (by omega)) ?_
   refine o1 ?_;refine nl ?_;refine sq ?_;refine sq ?_;refine rl ?_;(iterate 4 refine o1 ?_);refine nl ?_;refine bX rfl (fun h5=>?_) (fun h5=>?_)
   ·refine rd [] (fun i=>[11].contains i) mixed ?_
    refine dv 0 ?_;refine dv 1 ?_;refine dv 2 ?_;refine dv 3 ?_;refine gE 4 ([.v (.int .i64 ((nth xs (i):Nat):Int))]) (dZ xs (k:=i) (by omega)) ?_
    refine dv 5 ?_;refine dv 6 ?_;refine dv 7 ?_;refine gE 8 ([.v (.int .i64 ((nth ys (k):Nat):Int))]) (dZ ys (k:=k) (by omega)) ?_
    refine dv 9 ?_;refine WD.cast (t:=54) (u':=.int .i64 ((nth xs i*nth ys k:Nat):Int)) rfl (aK (Int.natCast_mul _ _).symm) ?_;refine dv 10 ?_
    refine WD.cast (t:=55) (u':=.int .i64 ((nth os2 (i+k)+cr+nth xs i*nth ys k:Nat):Int)) rfl (aK (by omega)) ?_
    refine dI 11 (by kernel_rfl) rfl rfl aA rfl (by trivial) ?_ (fun h=>by first | rfl | cases h)
    refine aN ?_;refine sq ?_;refine rl ?_;(iterate 4 refine o1 ?_);refine WL.cast (t:=59) (u':=.int .i64 ((i+k:Nat):Int)) rfl (aK (by omega)) ?_
    refine o1 ?_;refine o1 ?_;refine WL.cast (t:=61) (u':=.int .i64 (((nth os2 (i+k)+cr+nth xs i*nth ys k)%65536:Nat):Int)) rfl (aK (jA _ 65536)) ?_;refine o1 ?_
    refine wY (iR os2 (k:=i+k) (v:=(nth os2 (i+k)+cr+nth xs i*nth ys k)%65536) (by omega)) (kL os2 (by omega)) ?_
    refine nl ?_;refine rl ?_;refine o1 ?_;refine o1 ?_ (hC:=(fQ 65536 (by omega) (by simp only[fM];omega)))
    refine WL.cast (t:=64) (u':=.int .i64 (((nth os2 (i+k)+cr+nth xs i*nth ys k)/65536:Nat):Int)) rfl (aK (eF _ 65536)) ?_;refine o1 ?_;refine nl ?_;refine rl ?_
    refine o1 ?_;refine o1 ?_;refine WL.cast (t:=32) (u':=.int .i64 ((k+1:Nat):Int)) rfl (aK (by omega)) ?_
    refine o1 ?_;refine nl ?_;have hst:=mW (x:=nth os2 (i+k)+cr+nth xs i*nth ys k) (by omega) hv2 (by rfl)
    exact⟨(k+1,(nth os2 (i+k)+cr+nth xs i*nth ys k)/65536,os2.set (i+k) ((nth os2 (i+k)+cr+nth xs i*nth ys k)%65536)),by dsimp only;omega,⟨by dsimp only;omega,hol2.set _ (Nat.mod_lt _ (by omega)),by rw[List.length_set];exact hos2,hst,by dsimp only;omega⟩,aL h0 [0] _ _ (by decide) ⟨rfl,rfl,rfl,rfl,rfl,rfl,trivial⟩ ⟨kD rfl rfl rfl,rfl⟩⟩
   refine sk ?_;refine sq ?_;refine rl ?_;(iterate 4 refine o1 ?_);refine WL.cast (t:=59) (u':=.int .i64 ((i+k:Nat):Int)) rfl (aK (by omega)) ?_
   refine o1 ?_;refine o1 ?_;refine WL.cast (t:=61) (u':=.int .i64 (((nth os2 (i+k)+cr)%65536:Nat):Int)) rfl (aK (jA _ 65536)) ?_;refine o1 ?_
   refine wY (iR os2 (k:=i+k) (v:=(nth os2 (i+k)+cr)%65536) (by omega)) (kL os2 (by omega)) ?_
   refine nl ?_;refine rl ?_;refine o1 ?_;refine o1 ?_ (hC:=(fQ 65536 (by omega) (by simp only[fM];omega)))
   refine WL.cast (t:=64) (u':=.int .i64 (((nth os2 (i+k)+cr)/65536:Nat):Int)) rfl (aK (eF _ 65536)) ?_;refine o1 ?_;refine nl ?_;refine rl ?_;refine o1 ?_;refine o1 ?_
   refine WL.cast (t:=32) (u':=.int .i64 ((k+1:Nat):Int)) rfl (aK (by omega)) ?_
   refine o1 ?_;refine nl ?_;have hny:nth ys k=0:=dJ (by omega)
   have hst:=mW (x:=nth os2 (i+k)+cr) (by omega) hv2 (by rw[hny,Nat.mul_zero,Nat.add_zero])
   exact⟨(k+1,(nth os2 (i+k)+cr)/65536,os2.set (i+k) ((nth os2 (i+k)+cr)%65536)),by dsimp only;omega,⟨by dsimp only;omega,hol2.set _ (Nat.mod_lt _ (by omega)),by rw[List.length_set];exact hos2,hst,by dsimp only;omega⟩,aL h0 [0] _ _ (by decide) ⟨rfl,rfl,rfl,rfl,rfl,rfl,trivial⟩ ⟨kD rfl rfl rfl,rfl⟩⟩
  refine ex ?_;refine rl ?_;refine o1 ?_;refine o1 ?_;refine WL.cast (t:=22) (u':=.int .i64 ((i+1:Nat):Int)) rfl (aK (by omega)) ?_
  refine o1 ?_;refine nl ?_;have hcr0:cr=0:=by omega
  rw[hcr0,Nat.mul_zero,Nat.add_zero,yC (by omega)]at hv2
  exact⟨(i+1,os2),by dsimp only;omega,⟨by dsimp only;omega,hol2,hos2,hv2⟩,aL h0 [0] _ _ (by decide) ⟨rfl,rfl,rfl,rfl,trivial⟩ ⟨kD rfl rfl rfl,rfl⟩⟩
 refine ex ?_;refine sq ?_;refine rl ?_;rw[bK 65536 (by omega)]at hv
 refine WL.sub (vM (i:=5) (zs':=os) rfl rfl rfl (by omega) rfl) ?_
 refine o1 ?_;refine ca (yI (by omega)) xR ⟨a1 rfl,rfl⟩ (.one (.t (sI false (trim os)))) ?_
 refine o1 ?_;refine nl ?_;refine rt ?_;exact en (.inl rfl) rfl (aT (.one (.id rfl))) (by decide) (fun h=>by cases h) (by rw[Ca (by omega) hol hv];rfl)
theorem jN {a b:Zi}{k k':Int}(ha:Zn a k) (hb:Zn b k'):aC true Tryz.prog 80 [] [gF a,gF b] (aM (kO (k*k'))):=by
 refine bR Tryz.func80 rfl Tryz.ntmps80 rfl aA rfl fun N w c0 h0=>?_
 have hkl:=ha.len
 have hkl':=hb.len
 refine sq ?_;refine rl ?_;refine bx 0 ?_;refine bx 1 ?_;refine al 2 ?_;refine nl ?_;refine sq ?_;refine rl ?_;refine ld ?_;refine ca (fA ha) mL ⟨aB rfl,rfl⟩ (kF (k)) ?_
 refine st ?_;refine nl ?_;refine sq ?_;refine rl ?_;refine ld ?_;refine ca (fA hb) mL ⟨aB rfl,rfl⟩ (kF (k')) ?_;refine st ?_;refine nl ?_;refine sq ?_
 refine rd [0,1,2] (fun i=>[14].contains i) mixed ?_
 refine dv 0 ?_;refine aU 1 ?_;refine dv 2 ?_;refine aU 3 ?_;refine dv 4 ?_;refine dv 5 ?_;refine aU 6 ?_;refine dv 8 ?_;refine aU 9 ?_
 have hn1:=dH (v:=vl 4294967296 (dg 4294967296 (k).natAbs)) (L:=(dg 4294967296 (k).natAbs).length) (by rw[bS (by omega)];exact Nat.le_refl _)
 refine aI 7 rfl (kI (by omega) (aH (by omega) _)) uU ⟨a1 rfl,rfl⟩ (.one (.t (sI false (dg 65536 (vl 4294967296 (dg 4294967296 (k).natAbs)))))) ?_
 have hn2:=dH (v:=vl 4294967296 (dg 4294967296 (k').natAbs)) (L:=(dg 4294967296 (k').natAbs).length) (by rw[bS (by omega)];exact Nat.le_refl _)
 refine aI 10 rfl (kI (by omega) (aH (by omega) _)) uU ⟨a1 rfl,rfl⟩ (.one (.t (sI false (dg 65536 (vl 4294967296 (dg 4294967296 (k').natAbs)))))) ?_
 have hn3:=tQ (xs:=(dg 65536 (vl 4294967296 (dg 4294967296 (k).natAbs)))) (ys:=(dg 65536 (vl 4294967296 (dg 4294967296 (k').natAbs)))) (aH (by omega) _) (aH (by omega) _)
 refine aI 11 rfl (Gn (by omega) (by omega) (aH (by omega) _) (aH (by omega) _)) Wo ⟨a1 rfl,a1 rfl,rfl⟩ (.one (.t (sI false (dg 65536 (vl 65536 (dg 65536 (vl 4294967296 (dg 4294967296 (k).natAbs)))*vl 65536 (dg 65536 (vl 4294967296 (dg 4294967296 (k').natAbs)))))))) ?_
 have hn4:=lC (vl 65536 (dg 65536 (vl 4294967296 (dg 4294967296 (k).natAbs)))*vl 65536 (dg 65536 (vl 4294967296 (dg 4294967296 (k').natAbs))))
 refine aI 12 rfl (rS (zs:=(dg 4294967296 (vl 65536 (dg 65536 (vl 4294967296 (dg 4294967296 (k).natAbs)))*vl 65536 (dg 65536 (vl 4294967296 (dg 4294967296 (k').natAbs)))))) (by omega) (aH (by omega) _) (uZ _)) dV ⟨a1 rfl,rfl⟩ (.one (.t (sU false (dg 4294967296 (vl 65536 (dg 65536 (vl 4294967296 (dg 4294967296 (k).natAbs)))*vl 65536 (dg 65536 (vl 4294967296 (dg 4294967296 (k').natAbs)))))))) ?_
 refine iF 3 13 rfl (jC (K:=k*k') (by omega) (aH (by omega) _) (by simp only[bS (B:=4294967296) (by omega),bS (B:=65536) (by omega)];exact Ju k k')) cP ⟨a1 rfl,a1 rfl,rfl⟩ ?_
 refine dst 14 ?_;refine aN ?_;refine rt ?_
 exact en (.inl rfl) rfl (aT (.agg (.cons (.id rfl) (.cons (.sl (trs:=aJ (dg 4294967296 (k*k').natAbs)) rfl rfl (aW _) (aP _)) .nil)))) (by decide) (fun _=>dN (k*k')) rfl
theorem BB {u v:Nat}(hx:(dg 65536 (u)).length≤4398046511104) (hy:(dg 65536 (v)).length≤4398046511104):aC true Tryz.prog 142 [] [.one (.t (sI false (dg 65536 u))),.one (.t (sI false (dg 65536 v)))] (aM (.one (tv (.bool (decide (u<v)))))):=by
 refine bR Tryz.func142 rfl Tryz.ntmps142 rfl aA rfl fun N w c0 h0=>?_
 refine sq ?_;refine rl ?_;refine o1 ?_;refine nl ?_;refine sq ?_;refine sq ?_;refine rl ?_;(iterate 5 refine o1 ?_);refine nl ?_;refine bX rfl (fun h1=>?_) (fun h1=>?_)
 ·refine sq ?_;refine rl ?_;(iterate 6 refine o1 ?_);refine nl ?_;refine rt ?_
  refine en (.inl rfl) rfl (aT (cA _)) (by decide) (fun _=>trivial) (congrArg (fun z=>FV.one (tv (.bool z))) ?_)
  exact Us rfl rfl (by omega)
 refine sk ?_;refine sq ?_;refine sq ?_;refine rl ?_;(iterate 4 refine o1 ?_);refine nl ?_;refine bl ?_
 refine lp (γ:=Nat) (fun k=>cH [(0,.one (.t (sI false (dg 65536 u)))),(1,.one (.t (sI false (dg 65536 v)))),(5,.one (tv (.int .i64 ((k:Nat)-1))))]) (fun k=>([]:List Ob).map some) (fun k=>(∀j,k≤j→nth (dg 65536 (u)) j=nth (dg 65536 (v)) j)∧k≤(dg 65536 (u)).length) (fun k=>k) (dg 65536 (u)).length ⟨fun j hj=>by rw[dJ (by omega),dJ (by omega)],Nat.le_refl _⟩ (aL h0 [] _ _ (by decide) ⟨rfl,rfl,rfl,trivial⟩ rfl) fun k hk=>?_
 refine sq ?_;refine sq ?_;refine rl ?_;refine o1 ?_;refine o1 ?_;refine nl ?_;refine bX rfl (fun h2=>?_) (fun h2=>?_)
 ·refine sk ?_;refine sq ?_;refine bl ?_;refine sq ?_;refine rd [] (fun i=>[].contains i) mixed ?_
  refine dv 0 ?_;refine dv 1 ?_;refine WD.cast (t:=24) (u':=.int .i64 ((k-1:Nat):Int)) rfl (aK (by omega)) ?_
  refine dv 2 ?_;refine gE 3 ([.v (.int .i64 ((nth (dg 65536 (u)) (k-1):Nat):Int))]) (dZ (dg 65536 (u)) (k:=k-1) (by omega)) ?_
  refine dv 4 ?_;refine dv 5 ?_;refine WD.cast (t:=28) (u':=.int .i64 ((k-1:Nat):Int)) rfl (aK (by omega)) ?_
  refine dv 6 ?_;refine gE 7 ([.v (.int .i64 ((nth (dg 65536 (v)) (k-1):Nat):Int))]) (dZ (dg 65536 (v)) (k:=k-1) (by omega)) ?_
  refine dv 8 ?_;refine aN ?_;refine bX rfl (fun h3=>?_) (fun h3=>?_)
  ·refine sq ?_;refine rd [] (fun i=>[9].contains i) mixed ?_
   refine dv 0 ?_;refine dv 1 ?_;refine WD.cast (t:=33) (u':=.int .i64 ((k-1:Nat):Int)) rfl (aK (by omega)) ?_
   refine dv 2 ?_;refine gE 3 ([.v (.int .i64 ((nth (dg 65536 (u)) (k-1):Nat):Int))]) (dZ (dg 65536 (u)) (k:=k-1) (by omega)) ?_
   refine dv 4 ?_;refine dv 5 ?_;refine WD.cast (t:=37) (u':=.int .i64 ((k-1:Nat):Int)) rfl (aK (by omega)) ?_
   refine dv 6 ?_;refine gE 7 ([.v (.int .i64 ((nth (dg 65536 (v)) (k-1):Nat):Int))]) (dZ (dg 65536 (v)) (k:=k-1) (by omega)) ?_
   refine dv 8 ?_;refine dI 9 (by kernel_rfl) rfl rfl aA rfl (by trivial) ?_ (fun h=>by first | rfl | cases h)
   refine aN ?_;refine rt ?_;refine en (.inl rfl) rfl (aT (cA _)) (by decide) (fun _=>trivial) (congrArg (fun z=>FV.one (tv (.bool z))) ?_)
   exact AB (k:=k-1) (fun j hj=>hk.1 j (by omega)) (by omega)
  refine sk ?_;refine rl ?_;(iterate 3 refine o1 ?_);refine nl ?_
  exact⟨k-1,by omega,⟨fun j hj=>(Nat.eq_or_lt_of_le hj).elim (fun h9=>by rw[←h9];omega) (fun h9=>hk.1 j (by omega)),by omega⟩,aL h0 [] _ _ (by decide) ⟨rfl,rfl,congrArg (fun z=>some (FV.one (tv (.int .i64 z)))) (by omega),trivial⟩ rfl⟩
 refine ex ?_;refine sq ?_;refine rl ?_;refine o1 ?_;refine nl ?_;refine rt ?_
 refine en (.inl rfl) rfl (aT (cA _)) (by decide) (fun _=>trivial) (congrArg (fun z=>FV.one (tv (.bool z))) ?_)
 have he:=Qp (fun j=>hk.1 j (by omega))
 rw[bS (by omega),bS (by omega)]at he
 rw[he,decide_eq_false (Nat.lt_irrefl v)]
theorem BC {u v n:Nat}(hx:(dg 65536 (u)).length≤1099511627776) (hy:(dg 65536 (v)).length≤1099511627776) (hn:n≤65536) (hnv:n*v≤u):aC false Tryz.prog 134 [] [.one (.t (sI false (dg 65536 u))),.one (.t (sI false (dg 65536 v))),.one (tv (.int .i64 ((n:Nat):Int)))] (aM (.one (.t (sI false (dg 65536 (u-n*v)))))):=by
 refine bR Tryz.func134 rfl Tryz.ntmps134 rfl aA rfl fun N w c0 h0=>?_
 have hlu:=aH (B:=65536) (by omega) u
 have hlv:=aH (B:=65536) (by omega) v
 refine sq ?_;refine rl ?_;refine o1 ?_;refine nl ?_;refine sq ?_;refine rl ?_;refine o1 ?_;refine nl ?_;refine sq ?_;refine rl ?_;refine o1 ?_;refine nl ?_;refine sq ?_;refine sq ?_
 refine rl ?_;refine o1 ?_;refine nl ?_;refine bl ?_
 refine lp (γ:=Nat×Nat×List Nat) (fun s=>cH [(0,.one (.t (sI false (dg 65536 u)))),(1,.one (.t (sI false (dg 65536 v)))),(2,.one (tv (.int .i64 ((n:Nat):Int)))),(7,.one (.sl 0 0 s.1)),(8,.one (tv (.int .i64 ((s.2.1:Nat):Int)))),(9,.one (tv (.int .i64 ((s.1:Nat):Int))))]) (fun s=>[(⟨3,1,(cC s.2.2).map .t⟩:Ob)].map some) (fun s=>s.2.2.length=s.1∧Lim 65536 s.2.2∧vl 65536 s.2.2+n*vl 65536 ((dg 65536 (v)).take s.1)=vl 65536 ((dg 65536 (u)).take s.1)+65536^s.1*s.2.1∧s.2.1≤65536∧s.1≤(dg 65536 (u)).length) (fun s=>(dg 65536 (u)).length-s.1) (0,0,[]) ⟨rfl,Lim.nil,by simp[vl],Nat.zero_le _,Nat.zero_le _⟩ ((nr (i:=7) 0 3 1 rfl rfl rfl rfl).trans (aL h0 [0] _ _ (by decide) ⟨rfl,rfl,rfl,rfl,rfl,rfl,trivial⟩ ⟨cB (l:=[]) rfl,rfl⟩)) ?_
 rintro⟨k,br,os⟩ ⟨hos,hol,hv,hc1,hkm⟩;dsimp only at hos hol hv hc1 hkm⊢;have hn1:=hlu.nth (by omega) k
 have hn2:=hlv.nth (by omega) k
 have hmul:=Nat.mul_le_mul hn (Nat.le_of_lt_succ hn2)
 refine sq ?_;refine sq ?_;refine rl ?_;(iterate 4 refine o1 ?_);refine nl ?_;refine bX rfl (fun h1=>?_) (fun h1=>?_)
 ·refine sk ?_;refine sq ?_;refine bl ?_;refine sq ?_;refine rl ?_;(iterate 3 refine o1 ?_)
  refine fS ([.v (.int .i64 ((nth (dg 65536 (u)) (k):Nat):Int))]) (dZ (dg 65536 (u)) (k:=k) (by omega)) ?_
  (iterate 3 refine o1 ?_);refine nl ?_;refine sq ?_;refine sq ?_;refine rl ?_;(iterate 4 refine o1 ?_);refine nl ?_;refine bX rfl (fun h2=>?_) (fun h2=>?_)
  ·refine rl ?_;(iterate 5 refine o1 ?_);refine fS ([.v (.int .i64 ((nth (dg 65536 (v)) (k):Nat):Int))]) (dZ (dg 65536 (v)) (k:=k) (by omega)) ?_
   (iterate 3 refine o1 ?_);refine nl ?_;refine sq ?_;refine rl ?_;refine o1 ?_;refine nl ?_;refine sq ?_;refine sq ?_;refine rl ?_;refine o1 ?_;refine o1 ?_;refine nl ?_
   refine bX rfl (fun h3=>?_) (fun h3=>?_)
   ·refine sq ?_;refine rl ?_;refine o1 ?_;refine o1 ?_
    refine WL.cast (t:=38) (u':=.int .i64 ((65535+n*nth (dg 65536 (v)) k+br-nth (dg 65536 (u)) k:Nat):Int)) rfl (aK (by omega)) ?_
    refine o1 ?_ (hC:=(fQ 65536 (by omega) (by simp only[fM];omega)))
    refine WL.cast (t:=39) (u':=.int .i64 (((65535+n*nth (dg 65536 (v)) k+br-nth (dg 65536 (u)) k)/65536:Nat):Int)) rfl (aK (eF _ 65536)) ?_;refine o1 ?_;refine nl ?_
    refine rl ?_;(iterate 5 refine o1 ?_);refine nl ?_;refine rl ?_;refine o1 ?_;refine o1 ?_
    refine WL.cast (t:=45) (u':=.int .i64 ((nth (dg 65536 (u)) k+65536*((65535+n*nth (dg 65536 (v)) k+br-nth (dg 65536 (u)) k)/65536)-br-n*nth (dg 65536 (v)) k:Nat):Int)) rfl (aK (by omega)) ?_
    refine bs 1 ?_;refine gC (j:=2) aA rfl rfl rfl rfl (.sl rfl (by rw[List.length_map,eX,hos];omega)) (.sl rfl rfl rfl) rfl rfl rfl (by omega) (by omega) ?_
    refine o1 ?_;refine nl ?_;refine rl ?_;refine o1 ?_;refine o1 ?_;refine WL.cast (t:=16) (u':=.int .i64 ((k+1:Nat):Int)) rfl (aK (by omega)) ?_
    refine o1 ?_;refine nl ?_
    have hst:=oM (d:=nth (dg 65536 (u)) k+65536*((65535+n*nth (dg 65536 (v)) k+br-nth (dg 65536 (u)) k)/65536)-br-n*nth (dg 65536 (v)) k) (br:=br) (br':=(65535+n*nth (dg 65536 (v)) k+br-nth (dg 65536 (u)) k)/65536) hos hv (by omega)
    exact⟨(k+1,(65535+n*nth (dg 65536 (v)) k+br-nth (dg 65536 (u)) k)/65536,os++[nth (dg 65536 (u)) k+65536*((65535+n*nth (dg 65536 (v)) k+br-nth (dg 65536 (u)) k)/65536)-br-n*nth (dg 65536 (v)) k]),by dsimp only;omega,⟨by simp[hos],hol.append (Lim.cons (by omega) Lim.nil),hst,by dsimp only;omega,by dsimp only;omega⟩,aL h0 [2] _ _ (by decide) ⟨rfl,rfl,rfl,rfl,rfl,rfl,trivial⟩ ⟨kD rfl (eY _ [nth (dg 65536 (u)) k+65536*((65535+n*nth (dg 65536 (v)) k+br-nth (dg 65536 (u)) k)/65536)-br-n*nth (dg 65536 (v)) k]) rfl,rfl⟩⟩
   refine sk ?_;refine rl ?_;refine o1 ?_;refine o1 ?_;refine WL.cast (t:=45) (u':=.int .i64 ((nth (dg 65536 (u)) k-br-n*nth (dg 65536 (v)) k:Nat):Int)) rfl (aK (by omega)) ?_
   refine bs 1 ?_;refine gC (j:=2) aA rfl rfl rfl rfl (.sl rfl (by rw[List.length_map,eX,hos];omega)) (.sl rfl rfl rfl) rfl rfl rfl (by omega) (by omega) ?_
   refine o1 ?_;refine nl ?_;refine rl ?_;refine o1 ?_;refine o1 ?_;refine WL.cast (t:=16) (u':=.int .i64 ((k+1:Nat):Int)) rfl (aK (by omega)) ?_
   refine o1 ?_;refine nl ?_;have hst:=oM (d:=nth (dg 65536 (u)) k-br-n*nth (dg 65536 (v)) k) (br:=br) (br':=0) hos hv (by omega)
   exact⟨(k+1,0,os++[nth (dg 65536 (u)) k-br-n*nth (dg 65536 (v)) k]),by dsimp only;omega,⟨by simp[hos],hol.append (Lim.cons (by omega) Lim.nil),hst,by dsimp only;omega,by dsimp only;omega⟩,aL h0 [2] _ _ (by decide) ⟨rfl,rfl,rfl,rfl,rfl,rfl,trivial⟩ ⟨kD rfl (eY _ [nth (dg 65536 (u)) k-br-n*nth (dg 65536 (v)) k]) rfl,rfl⟩⟩
  refine sk ?_;refine sq ?_;refine rl ?_;refine o1 ?_;refine nl ?_;refine sq ?_;refine sq ?_;refine rl ?_;refine o1 ?_;refine o1 ?_;refine nl ?_
  refine bX rfl (fun h4=>?_) (fun h4=>?_)
  ·refine sq ?_;refine rl ?_;refine o1 ?_;refine o1 ?_;refine WL.cast (t:=38) (u':=.int .i64 ((65535+br-nth (dg 65536 (u)) k:Nat):Int)) rfl (aK (by omega)) ?_
   refine o1 ?_ (hC:=(fQ 65536 (by omega) (by simp only[fM];omega)))
   refine WL.cast (t:=39) (u':=.int .i64 (((65535+br-nth (dg 65536 (u)) k)/65536:Nat):Int)) rfl (aK (eF _ 65536)) ?_;refine o1 ?_;refine nl ?_;refine rl ?_
   (iterate 5 refine o1 ?_);refine nl ?_;refine rl ?_;refine o1 ?_;refine o1 ?_
   refine WL.cast (t:=45) (u':=.int .i64 ((nth (dg 65536 (u)) k+65536*((65535+br-nth (dg 65536 (u)) k)/65536)-br:Nat):Int)) rfl (aK (by omega)) ?_
   refine bs 1 ?_;refine gC (j:=2) aA rfl rfl rfl rfl (.sl rfl (by rw[List.length_map,eX,hos];omega)) (.sl rfl rfl rfl) rfl rfl rfl (by omega) (by omega) ?_
   refine o1 ?_;refine nl ?_;refine rl ?_;refine o1 ?_;refine o1 ?_;refine WL.cast (t:=16) (u':=.int .i64 ((k+1:Nat):Int)) rfl (aK (by omega)) ?_
   refine o1 ?_;refine nl ?_;have hny:nth (dg 65536 (v)) k=0:=dJ (by omega)
   have hst:=oM (d:=nth (dg 65536 (u)) k+65536*((65535+br-nth (dg 65536 (u)) k)/65536)-br) (br:=br) (br':=(65535+br-nth (dg 65536 (u)) k)/65536) hos hv (by rw[hny,Nat.mul_zero];omega)
   exact⟨(k+1,(65535+br-nth (dg 65536 (u)) k)/65536,os++[nth (dg 65536 (u)) k+65536*((65535+br-nth (dg 65536 (u)) k)/65536)-br]),by dsimp only;omega,⟨by simp[hos],hol.append (Lim.cons (by omega) Lim.nil),hst,by dsimp only;omega,by dsimp only;omega⟩,aL h0 [2] _ _ (by decide) ⟨rfl,rfl,rfl,rfl,rfl,rfl,trivial⟩ ⟨kD rfl (eY _ [nth (dg 65536 (u)) k+65536*((65535+br-nth (dg 65536 (u)) k)/65536)-br]) rfl,rfl⟩⟩
  refine sk ?_;refine rl ?_;refine o1 ?_;refine o1 ?_;refine WL.cast (t:=45) (u':=.int .i64 ((nth (dg 65536 (u)) k-br:Nat):Int)) rfl (aK (by omega)) ?_
  refine bs 1 ?_;refine gC (j:=2) aA rfl rfl rfl rfl (.sl rfl (by rw[List.length_map,eX,hos];omega)) (.sl rfl rfl rfl) rfl rfl rfl (by omega) (by omega) ?_
  refine o1 ?_;refine nl ?_;refine rl ?_;refine o1 ?_;refine o1 ?_;refine WL.cast (t:=16) (u':=.int .i64 ((k+1:Nat):Int)) rfl (aK (by omega)) ?_
  refine o1 ?_;refine nl ?_;have hny:nth (dg 65536 (v)) k=0:=dJ (by omega)
  have hst:=oM (d:=nth (dg 65536 (u)) k-br) (br:=br) (br':=0) hos hv (by rw[hny,Nat.mul_zero];omega)
  exact⟨(k+1,0,os++[nth (dg 65536 (u)) k-br]),by dsimp only;omega,⟨by simp[hos],hol.append (Lim.cons (by omega) Lim.nil),hst,by dsimp only;omega,by dsimp only;omega⟩,aL h0 [2] _ _ (by decide) ⟨rfl,rfl,rfl,rfl,rfl,rfl,trivial⟩ ⟨kD rfl (eY _ [nth (dg 65536 (u)) k-br]) rfl,rfl⟩⟩
 refine ex ?_;refine sq ?_;refine rl ?_;have hve:vl 65536 os=u-n*v:=Ut rfl (by omega) hol hv hnv
 refine WL.sub (vM (i:=7) (zs':=os) rfl rfl rfl (by omega) rfl) ?_
 refine o1 ?_;refine ca (yI (by omega)) xR ⟨a1 rfl,rfl⟩ (.one (.t (sI false (trim os)))) ?_
 refine o1 ?_;refine nl ?_;refine rt ?_;exact en (.inl rfl) rfl (aT (.one (.id rfl))) (by decide) (fun h=>by cases h) (by rw[Ca (by omega) hol hve];rfl)
theorem Vi {u v:Nat}(hx:(dg 65536 (u)).length≤1099511627776) (hy:(dg 65536 (v)).length≤1099511627776) (huv:u<65536*v):aC true Tryz.prog 133 [] [.one (.t (sI false (dg 65536 u))),.one (.t (sI false (dg 65536 v)))] (aM (.one (tv (.int .i64 ((u/v:Nat):Int))))):=by
 refine bR Tryz.func133 rfl Tryz.ntmps133 rfl aA rfl fun N w c0 h0=>?_
 refine sq ?_;refine rl ?_;refine o1 ?_;refine nl ?_;refine sq ?_;refine rl ?_;refine o1 ?_;refine o1 ?_;refine nl ?_;refine sq ?_;refine bl ?_
 refine lp (γ:=Nat×Nat) (fun s=>cH [(0,.one (.t (sI false (dg 65536 u)))),(1,.one (.t (sI false (dg 65536 v)))),(5,.one (tv (.int .i64 ((s.1:Nat):Int)))),(6,.one (tv (.int .i64 ((s.2:Nat):Int))))]) (fun s=>([]:List Ob).map some) (fun s=>s.1*v≤u∧u<s.2*v∧s.1<s.2∧s.2≤65536) (fun s=>s.2-s.1) (0,65536) ⟨by simp,huv,by decide,Nat.le_refl _⟩ (aL h0 [] _ _ (by decide) ⟨rfl,rfl,rfl,rfl,trivial⟩ rfl) ?_
 rintro⟨lo,hi⟩ ⟨h91,h92,h93,h94⟩;dsimp only at h91 h92 h93 h94⊢;refine sq ?_;refine sq ?_;refine rl ?_;(iterate 3 refine o1 ?_)
 refine WL.cast (t:=10) (u':=.int .i64 ((hi-lo:Nat):Int)) rfl (aK (by omega)) ?_
 refine o1 ?_;refine nl ?_;refine bX rfl (fun h1=>?_) (fun h1=>?_)
 ·refine sk ?_;refine bl ?_;refine sq ?_;refine rl ?_;(iterate 3 refine o1 ?_);refine WL.cast (t:=14) (u':=.int .i64 ((lo+hi:Nat):Int)) rfl (aK (by omega)) ?_
  refine o1 ?_ (hC:=(fQ 2 (by omega) (by simp only[fM];omega)))
  refine WL.cast (t:=15) (u':=.int .i64 (((lo+hi)/2:Nat):Int)) rfl (aK (eF _ 2)) ?_;refine o1 ?_;refine nl ?_;refine sq ?_;refine rl ?_;(iterate 3 refine o1 ?_)
  refine bs 0 ?_;refine WL.sub (vM (i:=19) (zs:=[(lo+hi)/2]) (zs':=[(lo+hi)/2]) rfl rfl rfl rfl rfl) ?_;have h1l:[(lo+hi)/2].length=1:=rfl
  have hn2:=tQ (xs:=(dg 65536 (v))) (ys:=[(lo+hi)/2]) (aH (by omega) _) (Lim.cons (d:=(lo+hi)/2) (by omega) Lim.nil)
  refine ca (Gn (by omega) (by omega) (aH (by omega) _) (Lim.cons (d:=(lo+hi)/2) (by omega) Lim.nil)) Wo ⟨a1 rfl,a1 rfl,rfl⟩ (.one (.t (sI false (dg 65536 (vl 65536 (dg 65536 (v))*vl 65536 [(lo+hi)/2]))))) ?_
  refine ca (BB (by omega) (by omega)) IR ⟨a1 rfl,a1 rfl,rfl⟩ (.one (tv (.bool (decide (u<vl 65536 (dg 65536 (v))*vl 65536 [(lo+hi)/2]))))) ?_
  refine nl ?_;refine bX rfl (fun h3=>?_) (fun h3=>?_)
  ·refine rl ?_;refine o1 ?_;refine o1 ?_;refine nl ?_;rw[bS (by omega),oZ,Nat.mul_comm]at h3
   exact⟨(lo,(lo+hi)/2),by dsimp only;omega,⟨by dsimp only;omega,by dsimp only;omega,by dsimp only;omega,by dsimp only;omega⟩,aL h0 [] _ _ (by decide) ⟨rfl,rfl,rfl,rfl,trivial⟩ rfl⟩
  refine rl ?_;refine o1 ?_;refine o1 ?_;refine nl ?_;rw[bS (by omega),oZ,Nat.mul_comm]at h3
  exact⟨((lo+hi)/2,hi),by dsimp only;omega,⟨by dsimp only;omega,by dsimp only;omega,by dsimp only;omega,by dsimp only;omega⟩,aL h0 [] _ _ (by decide) ⟨rfl,rfl,rfl,rfl,trivial⟩ rfl⟩
 refine ex ?_;refine sq ?_;refine rl ?_;refine o1 ?_;refine o1 ?_;refine nl ?_;refine rt ?_
 exact en (.inl rfl) rfl (aT (cA _)) (by decide) (fun _=>trivial) (congrArg (fun z=>FV.one (tv (.int .i64 ((z:Nat):Int)))) (Qt h91 h92 (by omega)).symm)
theorem Rk {xs zs:List Nat}(hx:xs.length≤4398046511104) (hz:trim xs=zs):aC false Tryz.prog 132 [] [.one (.t (sI false xs))] (aM (.one (.t (sI false zs)))):=by
 subst hz
 exact yI hx
theorem Gp {u v:Nat}(hx:(dg 65536 (u)).length≤549755813888) (hy:(dg 65536 (v)).length≤549755813888) (hvp:0<v):aC false Tryz.prog 110 [] [.one (.t (sI false (dg 65536 u))),.one (.t (sI false (dg 65536 v)))] (aM (.tup [.one (.t (sI false (dg 65536 (u/v)))),.one (.t (sI false (dg 65536 (u%v))))])):=by
 refine bR Tryz.func110 rfl Tryz.ntmps110 rfl aA rfl fun N w c0 h0=>?_
 have hlu:=aH (B:=65536) (by omega) u
 refine sq ?_;refine rl ?_;refine o1 ?_;refine o1 ?_;refine nl ?_;refine sq ?_;refine rl ?_;refine o1 ?_;refine o1 ?_
 refine WL.cast (t:=11) (u':=.int .i64 (((dg 65536 (u)).length:Nat):Int)) rfl (aK rfl) ?_;refine mk (m:=(dg 65536 (u)).length) 0 (by omega) (Gc _) ?_
 refine o1 ?_;refine nl ?_;refine sq ?_;refine rl ?_;refine o1 ?_;refine nl ?_;refine sq ?_;refine sq ?_;refine rl ?_;(iterate 4 refine o1 ?_);refine nl ?_;refine bl ?_
 refine lp (γ:=Nat×List Nat×Nat) (fun s=>cH [(0,.one (.t (sI false (dg 65536 u)))),(1,.one (.t (sI false (dg 65536 v)))),(6,.one (.sl 0 0 (dg 65536 (u)).length)),(7,.one (.t (sI false (dg 65536 s.2.2)))),(8,.one (tv (.int .i64 ((s.1:Nat)-1))))]) (fun s=>[(⟨3,1,(cC s.2.1).map .t⟩:Ob)].map some) (fun s=>s.2.1.length=(dg 65536 (u)).length∧Lim 65536 s.2.1∧vl 65536 ((dg 65536 (u)).drop s.1)=v*vl 65536 (s.2.1.drop s.1)+s.2.2∧s.2.2<v∧s.1≤(dg 65536 (u)).length) (fun s=>s.1) ((dg 65536 (u)).length,List.replicate (dg 65536 (u)).length 0,0) ⟨List.length_replicate,Lim.replicate (by omega) _,by dsimp only;rw[List.drop_of_length_le (Nat.le_refl _),List.drop_of_length_le (by rw[List.length_replicate];exact Nat.le_refl _)];simp[vl],hvp,Nat.le_refl _⟩ (((nr (i:=7) 1 3 1 rfl rfl rfl rfl).trans (vM (i:=7) (k:=1) (zs:=[]) (zs':=dg 65536 0) rfl rfl rfl rfl (lE _).symm)).trans (aL h0 [0] _ _ (by decide) ⟨rfl,rfl,rfl,rfl,rfl,trivial⟩ ⟨kD rfl rfl rfl,rfl⟩)) ?_
 rintro⟨k,os,r⟩ ⟨hos,hol,hv,hr,hkm⟩;dsimp only at hos hol hv hr hkm⊢;have hrl:=cF (B:=65536) (by omega) (Nat.le_of_lt hr)
 have hau:=hlu.nth (by omega) (k-1)
 have hce:=Uu (a:=nth (dg 65536 (u)) (k-1)) hau hr
 have hql:(nth (dg 65536 (u)) (k-1)+65536*r)/v<65536:=(Nat.div_lt_iff_lt_mul hvp).2 (by omega)
 refine sq ?_;refine sq ?_;refine rl ?_;refine o1 ?_;refine o1 ?_;refine nl ?_;refine bX rfl (fun h1=>?_) (fun h1=>?_)
 ·refine sk ?_;refine sq ?_;refine bl ?_;refine sq ?_;refine rl ?_;refine o1 ?_;refine o1 ?_;refine WL.cast (t:=21) (u':=.int .i64 ((k-1:Nat):Int)) rfl (aK (by omega)) ?_
  refine o1 ?_;refine fS ([.v (.int .i64 ((nth (dg 65536 (u)) (k-1):Nat):Int))]) (dZ (dg 65536 (u)) (k:=k-1) (by omega)) ?_
  refine bs 1 ?_;refine o1 ?_;refine nl ?_;refine sq ?_;refine rl ?_;refine o1 ?_;refine o1 ?_
  refine gC (j:=2) aA rfl rfl rfl rfl (.sl rfl (rfl)) .fz (FE _) (Uq _) rfl (by omega) (by omega) ?_
  refine WL.sub (vM (i:=27) (k:=2) (zs:=[nth (dg 65536 (u)) (k-1)]++dg 65536 r) (zs':=[nth (dg 65536 (u)) (k-1)]++dg 65536 r) rfl rfl (congrArg (fun l=>some (⟨3,1,l⟩:Ob)) (eY [nth (dg 65536 (u)) (k-1)] (dg 65536 r))) (by rw[List.length_append];rfl) rfl) ?_
  refine ca (Rk (zs:=(dg 65536 (nth (dg 65536 (u)) (k-1)+65536*r))) (by rw[List.length_append];exact Nat.le_trans (Nat.add_le_add_left hrl 1) (by omega)) (tR (by omega))) xR ⟨a1 rfl,rfl⟩ (.one (.t (sI false (dg 65536 (nth (dg 65536 (u)) (k-1)+65536*r))))) ?_
  refine o1 ?_;refine nl ?_;refine sq ?_;refine rl ?_;refine o1 ?_;refine o1 ?_;refine WL.cast (t:=30) (u':=.int .i64 ((k-1:Nat):Int)) rfl (aK (by omega)) ?_
  refine o1 ?_;refine o1 ?_;refine ca (Vi (by omega) (by omega) (by omega)) IM ⟨a1 rfl,a1 rfl,rfl⟩ (.one (tv (.int .i64 (((nth (dg 65536 (u)) (k-1)+65536*r)/v:Nat):Int)))) ?_
  refine o1 ?_;refine wY (iR os (k:=k-1) (v:=(nth (dg 65536 (u)) (k-1)+65536*r)/v) (by omega)) (kL os (by omega)) ?_
  refine nl ?_;refine rl ?_;(iterate 4 refine o1 ?_);refine WL.cast (t:=38) (u':=.int .i64 ((k-1:Nat):Int)) rfl (aK (by omega)) ?_
  refine o1 ?_;refine Wb (jL (os.set (k-1) ((nth (dg 65536 (u)) (k-1)+65536*r)/v)) (k:=k-1) (by rw[List.length_set];omega)) ?_
  refine WL.cast (t:=40) (u':=.int .i64 (((nth (dg 65536 (u)) (k-1)+65536*r)/v:Nat):Int)) rfl (aK (by rw[Ga (by omega)])) ?_
  refine ca (BC (by omega) (by omega) (by omega) (Nat.div_mul_le_self _ _)) IN ⟨a1 rfl,a1 rfl,a1 rfl,rfl⟩ (.one (.t (sI false (dg 65536 (nth (dg 65536 (u)) (k-1)+65536*r-(nth (dg 65536 (u)) (k-1)+65536*r)/v*v))))) ?_
  refine o1 ?_;refine nl ?_;refine rl ?_;(iterate 3 refine o1 ?_);refine nl ?_
  have hst:=Mv (k:=k) (q:=(nth (dg 65536 (u)) (k-1)+65536*r)/v) (by omega) (by omega) (by omega) hv rfl rfl
  have hmod:=Nat.mod_lt (nth (dg 65536 (u)) (k-1)+65536*r) hvp
  have hdm:=Nat.div_add_mod' (nth (dg 65536 (u)) (k-1)+65536*r) v
  exact⟨(k-1,os.set (k-1) ((nth (dg 65536 (u)) (k-1)+65536*r)/v),nth (dg 65536 (u)) (k-1)+65536*r-(nth (dg 65536 (u)) (k-1)+65536*r)/v*v),by dsimp only;omega,⟨by rw[List.length_set];exact hos,hol.set _ hql,hst,by dsimp only;omega,by dsimp only;omega⟩,aL h0 [0] _ _ (by decide) ⟨rfl,rfl,rfl,rfl,congrArg (fun z=>some (FV.one (tv (.int .i64 z)))) (by omega),trivial⟩ ⟨kD rfl rfl rfl,rfl⟩⟩
 refine ex ?_;refine sq ?_;refine rl ?_;have hk0:k=0:=by omega
 rw[hk0,List.drop_zero,List.drop_zero,bS (by omega)]at hv
 obtain⟨hq1,hq2⟩:=Qu hv hr
 refine WL.sub (vM (i:=6) (zs':=os) rfl rfl rfl (by omega) rfl) ?_
 refine o1 ?_;refine ca (Rk (zs:=(dg 65536 (u/v))) (by omega) (by rw[Ca (by omega) hol rfl,hq1])) xR ⟨a1 rfl,rfl⟩ (.one (.t (sI false (dg 65536 (u/v))))) ?_
 (iterate 3 refine o1 ?_);refine nl ?_;refine rt ?_;exact en (.inl rfl) rfl (jJ (.cons (.one (.id rfl)) (.cons (.one (.id rfl)) .nil))) (by decide) (fun h=>by cases h) (by rw[hq2];rfl)
theorem Du {a b:Zi}{k k':Int}(ha:Zn a k) (hb:Zn b k'):aC true Tryz.prog 70 [] [gF a,gF b] (aM (kO ((Int.gcd k k':Nat):Int))):=by
 refine bR Tryz.func70 rfl Tryz.ntmps70 rfl aA rfl fun N w c0 h0=>?_
 have hkl:=ha.len
 have hkl':=hb.len
 refine sq ?_;refine rl ?_;refine bx 0 ?_;refine bx 1 ?_;refine al 2 ?_;refine nl ?_;refine sq ?_;refine rd [0,1,2] (fun i=>[9].contains i) mixed ?_
 refine aU 0 ?_;refine aU 4 ?_;refine aI 1 rfl (fA ha) mL ⟨aB rfl,rfl⟩ (kF (k)) ?_;refine df 2 ?_
 have hn1:=dH (v:=vl 4294967296 (dg 4294967296 (k).natAbs)) (L:=(dg 4294967296 (k).natAbs).length) (by rw[bS (by omega)];exact Nat.le_refl _)
 refine aI 3 rfl (kI (by omega) (aH (by omega) _)) uU ⟨a1 rfl,rfl⟩ (.one (.t (sI false (dg 65536 (vl 4294967296 (dg 4294967296 (k).natAbs)))))) ?_
 refine aI 5 rfl (fA hb) mL ⟨aB rfl,rfl⟩ (kF (k')) ?_;refine df 6 ?_
 have hn2:=dH (v:=vl 4294967296 (dg 4294967296 (k').natAbs)) (L:=(dg 4294967296 (k').natAbs).length) (by rw[bS (by omega)];exact Nat.le_refl _)
 refine aI 7 rfl (kI (by omega) (aH (by omega) _)) uU ⟨a1 rfl,rfl⟩ (.one (.t (sI false (dg 65536 (vl 4294967296 (dg 4294967296 (k').natAbs)))))) ?_
 refine dI 8 (by kernel_rfl) rfl rfl aA rfl (by trivial) ?_ (fun h=>by first | rfl | cases h)
 refine dI 9 (by kernel_rfl) rfl rfl aA rfl (by trivial) ?_ (fun h=>by first | rfl | cases h)
 refine aN ?_;refine sq ?_;refine bl ?_
 refine lp (γ:=Nat×Nat) (fun s=>cH [(4,.one (.pt 0 0)),(5,.one (.t (sI false (dg 65536 s.1)))),(6,.one (.t (sI false (dg 65536 s.2))))]) (fun s=>[(⟨34,0,[tv (.bool false),tv (.slice none 0 0)]⟩:Ob)].map some) (fun s=>Nat.gcd s.1 s.2=Int.gcd k k'∧(dg 65536 s.1).length≤549755813888∧(dg 65536 s.2).length≤549755813888) (fun s=>s.2) (vl 4294967296 (dg 4294967296 (k).natAbs),vl 4294967296 (dg 4294967296 (k').natAbs)) ⟨by dsimp only;rw[bS (by omega),bS (by omega)];rfl,by dsimp only;omega,by dsimp only;omega⟩ (aL h0 [2] _ _ (by decide) ⟨rfl,rfl,rfl,trivial⟩ ⟨oe rfl rfl,rfl⟩) ?_
 rintro⟨ga,gb⟩ ⟨hg,hga,hgb⟩;dsimp only at hg hga hgb⊢;have hbz:gb=0↔(dg 65536 gb).length=0:=by rw[List.length_eq_zero_iff,eG (by omega)]
 refine sq ?_;refine sq ?_;refine rl ?_;(iterate 3 refine o1 ?_);refine nl ?_;refine bX rfl (fun h3=>?_) (fun h3=>?_)
 ·refine sk ?_;refine bl ?_;refine sq ?_;have hb0:0<gb:=by omega
  refine rl ?_;refine o1 ?_;refine o1 ?_;have hn4:=cF (B:=65536) (by omega) (Nat.div_le_self (ga) (gb))
  have hn5:=cF (B:=65536) (by omega) (Nat.mod_le (ga) (gb))
  refine ca (Gp (by omega) (by omega) hb0) Wn ⟨a1 rfl,a1 rfl,rfl⟩ (.tup [.one (.t (sI false (dg 65536 ((ga)/(gb))))),.one (.t (sI false (dg 65536 ((ga)%(gb)))))]) ?_
  (iterate 5 refine o1 ?_);refine nl ?_;refine sq ?_;refine rl ?_;refine o1 ?_;refine o1 ?_;refine nl ?_;refine rl ?_;refine o1 ?_;refine o1 ?_;refine nl ?_;have hmod:=Nat.mod_lt ga hb0
  have hml:=cF (B:=65536) (by omega) (Nat.le_of_lt hmod)
  exact⟨(gb,ga%gb),by dsimp only;omega,⟨by dsimp only;rw[←hg,Nat.gcd_comm gb (ga%gb),←Nat.gcd_rec,Nat.gcd_comm],by dsimp only;omega,by dsimp only;omega⟩,aL h0 [0] _ _ (by decide) ⟨rfl,rfl,rfl,trivial⟩ ⟨oe rfl rfl,rfl⟩⟩
 refine ex ?_;refine sq ?_;have hb00:gb=0:=by omega
 rw[hb00,Nat.gcd_zero_right]at hg;refine rl ?_;refine o1 ?_;have hn6:=lC (ga)
 refine ca (rS (zs:=(dg 4294967296 (ga))) (by omega) (aH (by omega) _) (uZ _)) dV ⟨a1 rfl,rfl⟩ (.one (.t (sU false (dg 4294967296 (ga))))) ?_
 refine fG 1 (jC (K:=((Int.gcd k k':Nat):Int)) (by omega) (aH (by omega) _) (by rw[bS (by omega),hg];rfl)) cP ⟨a1 rfl,a1 rfl,rfl⟩ ?_
 refine st ?_;refine nl ?_;refine rt ?_
 exact en (.inl rfl) rfl (aT (.agg (.cons (.id rfl) (.cons (.sl (trs:=aJ (dg 4294967296 (((Int.gcd k k':Nat):Int)).natAbs)) rfl rfl (aW _) (aP _)) .nil)))) (by decide) (fun _=>dN (((Int.gcd k k':Nat):Int))) rfl
theorem Oq {a b:Zi}{k k':Int}(ha:Zn a k) (hb:Zn b k'):aC false Tryz.prog 71 [] [gF a,gF b] (aM (.tup [kF (if k'=0 then 0 else k.fdiv k'),kF (if k'=0 then 0 else k.fmod k'),.one (tv (.int .i64 (if k'=0 then 20 else 0)))])):=by
 refine bR Tryz.func71 rfl Tryz.ntmps71 rfl aA rfl fun N w c0 h0=>?_
 have hkl:=ha.len
 have hkl':=hb.len
 refine sq ?_;refine rl ?_;refine bx 0 ?_;refine bx 1 ?_;refine al 2 ?_;refine al 3 ?_;refine o1 ?_;refine nl ?_;refine sq ?_;refine rl ?_;refine ld ?_
 refine ca (fA ha) mL ⟨aB rfl,rfl⟩ (kF (k)) ?_;refine st ?_;refine nl ?_;refine sq ?_;refine rl ?_;refine ld ?_;refine ca (fA hb) mL ⟨aB rfl,rfl⟩ (kF (k')) ?_;refine st ?_
 refine nl ?_;refine sq ?_;refine sq ?_;refine rl ?_;refine o1 ?_;refine ld ?_;refine o1 ?_;refine o1 ?_;refine nl ?_;refine bX rfl (fun h1=>?_) (fun h1=>?_)
 ·refine sq ?_;refine rl ?_;refine o1 ?_;refine o1 ?_;refine st ?_;refine st ?_;refine o1 ?_;refine nl ?_;refine rt ?_;have hk0:k'=0:=by have:=Hf (k:=k') (by omega);omega
  exact en (.inl rfl) rfl (nJ (.cons (.agg (.cons (.id rfl) (.cons .nilf .nil))) (.cons (.agg (.cons (.id rfl) (.cons .nilf .nil))) (.cons (cA _) .nil)))) (by decide) (fun h=>by cases h) (by rw[if_pos hk0,if_pos hk0,if_pos hk0,←Ae];rfl)
 refine sk ?_;refine sq ?_;have hkn:k'≠0:=Qv (by omega)
 have hva:0<vl 4294967296 (dg 4294967296 (k').natAbs):=by rw[bS (by omega)];omega
 refine rd [0,1,2,3] (fun i=>[11].contains i) mixed ?_
 refine dv 0 ?_;refine aU 1 ?_;refine dv 3 ?_;refine aU 4 ?_
 have hn2:=dH (v:=vl 4294967296 (dg 4294967296 (k).natAbs)) (L:=(dg 4294967296 (k).natAbs).length) (by rw[bS (by omega)];exact Nat.le_refl _)
 refine aI 2 rfl (kI (by omega) (aH (by omega) _)) uU ⟨a1 rfl,rfl⟩ (.one (.t (sI false (dg 65536 (vl 4294967296 (dg 4294967296 (k).natAbs)))))) ?_
 have hn3:=dH (v:=vl 4294967296 (dg 4294967296 (k').natAbs)) (L:=(dg 4294967296 (k').natAbs).length) (by rw[bS (by omega)];exact Nat.le_refl _)
 refine aI 5 rfl (kI (by omega) (aH (by omega) _)) uU ⟨a1 rfl,rfl⟩ (.one (.t (sI false (dg 65536 (vl 4294967296 (dg 4294967296 (k').natAbs)))))) ?_
 have hn4:=cF (B:=65536) (by omega) (Nat.div_le_self (vl 4294967296 (dg 4294967296 (k).natAbs)) (vl 4294967296 (dg 4294967296 (k').natAbs)))
 have hn5:=cF (B:=65536) (by omega) (Nat.mod_le (vl 4294967296 (dg 4294967296 (k).natAbs)) (vl 4294967296 (dg 4294967296 (k').natAbs)))
 refine aI 6 rfl (Gp (by omega) (by omega) hva) Wn ⟨a1 rfl,a1 rfl,rfl⟩ (.tup [.one (.t (sI false (dg 65536 ((vl 4294967296 (dg 4294967296 (k).natAbs))/(vl 4294967296 (dg 4294967296 (k').natAbs)))))),.one (.t (sI false (dg 65536 ((vl 4294967296 (dg 4294967296 (k).natAbs))%(vl 4294967296 (dg 4294967296 (k').natAbs))))))]) ?_
 refine df 7 ?_;refine df 8 ?_;refine df 9 ?_;refine dI 10 (by kernel_rfl) rfl rfl aA rfl (by trivial) ?_ (fun h=>by first | rfl | cases h)
 refine dI 11 (by kernel_rfl) rfl rfl aA rfl (by trivial) ?_ (fun h=>by first | rfl | cases h)
 refine aN ?_
 refine md (γ:=Unit) (fun _=>cH [(3,.one (.pt 0 0)),(4,.one (.pt 1 0)),(5,.one (.pt 2 0)),(6,.one (tv (.int .i64 0))),(9,.one (.pt 3 0)),(10,.one (.pt 4 0))]) (fun _=>([⟨34,0,[tv (.bool (aF (k'))),.t (sU false (dg 4294967296 (k').natAbs))]⟩,⟨34,0,[tv (.bool false),tv (.slice none 0 0)]⟩,⟨34,0,[tv (.bool false),tv (.slice none 0 0)]⟩,⟨34,0,[tv (.bool (aF (bL (aF k != aF k') (k.natAbs/k'.natAbs)))),.t (sU false (dg 4294967296 (bL (aF k != aF k') (k.natAbs/k'.natAbs)).natAbs))]⟩,⟨34,0,[tv (.bool (aF (bL (aF k) (k.natAbs%k'.natAbs)))),.t (sU false (dg 4294967296 (bL (aF k) (k.natAbs%k'.natAbs)).natAbs))]⟩]:List Ob).map some) (fun _=>True) ?_ fun _ _=>?_
 ·have hnq:=lC ((vl 4294967296 (dg 4294967296 (k).natAbs))/(vl 4294967296 (dg 4294967296 (k').natAbs)))
  have hLq:=rS (xs:=dg 65536 ((vl 4294967296 (dg 4294967296 (k).natAbs))/(vl 4294967296 (dg 4294967296 (k').natAbs)))) (zs:=dg 4294967296 ((vl 4294967296 (dg 4294967296 (k).natAbs))/(vl 4294967296 (dg 4294967296 (k').natAbs)))) (by omega) (aH (by omega) _) (uZ _)
  have hMq:=jC (b:=aF k != aF k') (xs:=dg 4294967296 ((vl 4294967296 (dg 4294967296 (k).natAbs))/(vl 4294967296 (dg 4294967296 (k').natAbs)))) (K:=bL (aF k != aF k') (k.natAbs/k'.natAbs)) (by omega) (aH (by omega) _) (by simp only[bS (B:=4294967296) (by omega)] <;> rfl)
  have hnr:=lC ((vl 4294967296 (dg 4294967296 (k).natAbs))%(vl 4294967296 (dg 4294967296 (k').natAbs)))
  have hLr:=rS (xs:=dg 65536 ((vl 4294967296 (dg 4294967296 (k).natAbs))%(vl 4294967296 (dg 4294967296 (k').natAbs)))) (zs:=dg 4294967296 ((vl 4294967296 (dg 4294967296 (k).natAbs))%(vl 4294967296 (dg 4294967296 (k').natAbs)))) (by omega) (aH (by omega) _) (uZ _)
  have hMr:=jC (b:=aF k) (xs:=dg 4294967296 ((vl 4294967296 (dg 4294967296 (k).natAbs))%(vl 4294967296 (dg 4294967296 (k').natAbs)))) (K:=bL (aF k) (k.natAbs%k'.natAbs)) (by omega) (aH (by omega) _) (by simp only[bS (B:=4294967296) (by omega)] <;> rfl)
  generalize dg 4294967296 ((vl 4294967296 (dg 4294967296 (k).natAbs))/(vl 4294967296 (dg 4294967296 (k').natAbs)))=zq at hLq hMq
  generalize dg 4294967296 ((vl 4294967296 (dg 4294967296 (k).natAbs))%(vl 4294967296 (dg 4294967296 (k').natAbs)))=zr at hLr hMr;refine rd [0,1,2,3] (fun i=>[16].contains i) mixed ?_
  refine dv 0 ?_;refine aU 1 ?_;refine dv 2 ?_;refine aU 3 ?_;refine dv 4 ?_;refine dv 5 ?_;refine dv 8 ?_;refine aU 9 ?_;refine dv 10 ?_
  refine WO.three (i:=6) (j:=13) (m:=14) (by kernel_rfl) ?_ ?_ ?_
  ·refine cQ 6 rfl (hLq) dV ⟨a1 rfl,rfl⟩ (.one (.t (sU false zq))) ?_;refine WO.three (i:=7) (j:=13) (m:=14) (by kernel_rfl) ?_ ?_ ?_
   ·refine cQ 7 rfl (hMq) cP ⟨a1 rfl,a1 rfl,rfl⟩ (kF (bL (aF k != aF k') (k.natAbs/k'.natAbs))) ?_;refine WO.three (i:=11) (j:=13) (m:=14) (by kernel_rfl) ?_ ?_ ?_
    ·refine cQ 11 rfl (hLr) dV ⟨a1 rfl,rfl⟩ (.one (.t (sU false zr))) ?_;refine WO.three (i:=12) (j:=13) (m:=14) (by kernel_rfl) ?_ ?_ ?_
     ·refine cQ 12 rfl (hMr) cP ⟨a1 rfl,a1 rfl,rfl⟩ (kF (bL (aF k) (k.natAbs%k'.natAbs))) ?_;refine WO.two (i:=13) (j:=14) (by kernel_rfl) ?_ ?_
      ·refine bU (key:=4) 13 rfl rfl aA rfl ⟨rfl,rfl,rfl,rfl,trivial⟩ ?_;refine eA (key:=5) 14 (by kernel_rfl) rfl rfl aA rfl ⟨rfl,rfl,rfl,rfl,trivial⟩ ?_
       refine aR 15 (by kernel_rfl) rfl rfl aA rfl rfl rfl rfl ⟨rfl,rfl,rfl,rfl,trivial⟩ ?_
       refine dst 16 ?_;refine aN ?_
       exact⟨(),trivial,aL h0 [1,2,3,4,5] _ _ (by decide) ⟨rfl,rfl,rfl,rfl,rfl,rfl,trivial⟩ ⟨oe rfl rfl,oe rfl rfl,oe rfl rfl,oe rfl rfl,oe rfl rfl,rfl⟩⟩
      refine bU (key:=4) 14 rfl rfl aA rfl ⟨rfl,rfl,rfl,rfl,trivial⟩ ?_;refine eA (key:=5) 13 (by kernel_rfl) rfl rfl aA rfl ⟨rfl,rfl,rfl,rfl,trivial⟩ ?_
      refine aR 15 (by kernel_rfl) rfl rfl aA rfl rfl rfl rfl ⟨rfl,rfl,rfl,rfl,trivial⟩ ?_
      refine dst 16 ?_;refine aN ?_
      exact⟨(),trivial,aL h0 [1,2,3,5,4] _ _ (by decide) ⟨rfl,rfl,rfl,rfl,rfl,rfl,trivial⟩ ⟨oe rfl rfl,oe rfl rfl,oe rfl rfl,oe rfl rfl,oe rfl rfl,rfl⟩⟩
     ·refine bU (key:=4) 13 rfl rfl aA rfl ⟨rfl,rfl,rfl,rfl,trivial⟩ ?_;refine WO.two (i:=12) (j:=14) (by kernel_rfl) ?_ ?_
      ·refine cQ 12 rfl (hMr) cP ⟨a1 rfl,a1 rfl,rfl⟩ (kF (bL (aF k) (k.natAbs%k'.natAbs))) ?_
       refine eA (key:=5) 14 (by kernel_rfl) rfl rfl aA rfl ⟨rfl,rfl,rfl,rfl,trivial⟩ ?_
       refine aR 15 (by kernel_rfl) rfl rfl aA rfl rfl rfl rfl ⟨rfl,rfl,rfl,rfl,trivial⟩ ?_
       refine dst 16 ?_;refine aN ?_
       exact⟨(),trivial,aL h0 [1,2,3,4,5] _ _ (by decide) ⟨rfl,rfl,rfl,rfl,rfl,rfl,trivial⟩ ⟨oe rfl rfl,oe rfl rfl,oe rfl rfl,oe rfl rfl,oe rfl rfl,rfl⟩⟩
      refine bU (key:=5) 14 rfl rfl aA rfl ⟨rfl,rfl,rfl,rfl,trivial⟩ ?_;refine aI 12 rfl (hMr) cP ⟨a1 rfl,a1 rfl,rfl⟩ (kF (bL (aF k) (k.natAbs%k'.natAbs))) ?_
      refine aR 15 (by kernel_rfl) rfl rfl aA rfl rfl rfl rfl ⟨rfl,rfl,rfl,rfl,trivial⟩ ?_
      refine dst 16 ?_;refine aN ?_
      exact⟨(),trivial,aL h0 [1,2,3,4,5] _ _ (by decide) ⟨rfl,rfl,rfl,rfl,rfl,rfl,trivial⟩ ⟨oe rfl rfl,oe rfl rfl,oe rfl rfl,oe rfl rfl,oe rfl rfl,rfl⟩⟩
     refine bU (key:=4) 14 rfl rfl aA rfl ⟨rfl,rfl,rfl,rfl,trivial⟩ ?_;refine WO.two (i:=12) (j:=13) (by kernel_rfl) ?_ ?_
     ·refine cQ 12 rfl (hMr) cP ⟨a1 rfl,a1 rfl,rfl⟩ (kF (bL (aF k) (k.natAbs%k'.natAbs))) ?_
      refine eA (key:=5) 13 (by kernel_rfl) rfl rfl aA rfl ⟨rfl,rfl,rfl,rfl,trivial⟩ ?_
      refine aR 15 (by kernel_rfl) rfl rfl aA rfl rfl rfl rfl ⟨rfl,rfl,rfl,rfl,trivial⟩ ?_
      refine dst 16 ?_;refine aN ?_
      exact⟨(),trivial,aL h0 [1,2,3,5,4] _ _ (by decide) ⟨rfl,rfl,rfl,rfl,rfl,rfl,trivial⟩ ⟨oe rfl rfl,oe rfl rfl,oe rfl rfl,oe rfl rfl,oe rfl rfl,rfl⟩⟩
     refine bU (key:=5) 13 rfl rfl aA rfl ⟨rfl,rfl,rfl,rfl,trivial⟩ ?_;refine aI 12 rfl (hMr) cP ⟨a1 rfl,a1 rfl,rfl⟩ (kF (bL (aF k) (k.natAbs%k'.natAbs))) ?_
     refine aR 15 (by kernel_rfl) rfl rfl aA rfl rfl rfl rfl ⟨rfl,rfl,rfl,rfl,trivial⟩ ?_
     refine dst 16 ?_;refine aN ?_
     exact⟨(),trivial,aL h0 [1,2,3,5,4] _ _ (by decide) ⟨rfl,rfl,rfl,rfl,rfl,rfl,trivial⟩ ⟨oe rfl rfl,oe rfl rfl,oe rfl rfl,oe rfl rfl,oe rfl rfl,rfl⟩⟩
    ·refine bU (key:=4) 13 rfl rfl aA rfl ⟨rfl,rfl,rfl,rfl,trivial⟩ ?_;refine WO.two (i:=11) (j:=14) (by kernel_rfl) ?_ ?_
     ·refine cQ 11 rfl (hLr) dV ⟨a1 rfl,rfl⟩ (.one (.t (sU false zr))) ?_;refine WO.two (i:=12) (j:=14) (by kernel_rfl) ?_ ?_
      ·refine cQ 12 rfl (hMr) cP ⟨a1 rfl,a1 rfl,rfl⟩ (kF (bL (aF k) (k.natAbs%k'.natAbs))) ?_
       refine eA (key:=5) 14 (by kernel_rfl) rfl rfl aA rfl ⟨rfl,rfl,rfl,rfl,trivial⟩ ?_
       refine aR 15 (by kernel_rfl) rfl rfl aA rfl rfl rfl rfl ⟨rfl,rfl,rfl,rfl,trivial⟩ ?_
       refine dst 16 ?_;refine aN ?_
       exact⟨(),trivial,aL h0 [1,2,3,4,5] _ _ (by decide) ⟨rfl,rfl,rfl,rfl,rfl,rfl,trivial⟩ ⟨oe rfl rfl,oe rfl rfl,oe rfl rfl,oe rfl rfl,oe rfl rfl,rfl⟩⟩
      refine bU (key:=5) 14 rfl rfl aA rfl ⟨rfl,rfl,rfl,rfl,trivial⟩ ?_;refine aI 12 rfl (hMr) cP ⟨a1 rfl,a1 rfl,rfl⟩ (kF (bL (aF k) (k.natAbs%k'.natAbs))) ?_
      refine aR 15 (by kernel_rfl) rfl rfl aA rfl rfl rfl rfl ⟨rfl,rfl,rfl,rfl,trivial⟩ ?_
      refine dst 16 ?_;refine aN ?_
      exact⟨(),trivial,aL h0 [1,2,3,4,5] _ _ (by decide) ⟨rfl,rfl,rfl,rfl,rfl,rfl,trivial⟩ ⟨oe rfl rfl,oe rfl rfl,oe rfl rfl,oe rfl rfl,oe rfl rfl,rfl⟩⟩
     refine bU (key:=5) 14 rfl rfl aA rfl ⟨rfl,rfl,rfl,rfl,trivial⟩ ?_;refine aI 11 rfl (hLr) dV ⟨a1 rfl,rfl⟩ (.one (.t (sU false zr))) ?_
     refine aI 12 rfl (hMr) cP ⟨a1 rfl,a1 rfl,rfl⟩ (kF (bL (aF k) (k.natAbs%k'.natAbs))) ?_
     refine aR 15 (by kernel_rfl) rfl rfl aA rfl rfl rfl rfl ⟨rfl,rfl,rfl,rfl,trivial⟩ ?_
     refine dst 16 ?_;refine aN ?_
     exact⟨(),trivial,aL h0 [1,2,3,4,5] _ _ (by decide) ⟨rfl,rfl,rfl,rfl,rfl,rfl,trivial⟩ ⟨oe rfl rfl,oe rfl rfl,oe rfl rfl,oe rfl rfl,oe rfl rfl,rfl⟩⟩
    refine bU (key:=4) 14 rfl rfl aA rfl ⟨rfl,rfl,rfl,rfl,trivial⟩ ?_;refine WO.two (i:=11) (j:=13) (by kernel_rfl) ?_ ?_
    ·refine cQ 11 rfl (hLr) dV ⟨a1 rfl,rfl⟩ (.one (.t (sU false zr))) ?_;refine WO.two (i:=12) (j:=13) (by kernel_rfl) ?_ ?_
     ·refine cQ 12 rfl (hMr) cP ⟨a1 rfl,a1 rfl,rfl⟩ (kF (bL (aF k) (k.natAbs%k'.natAbs))) ?_
      refine eA (key:=5) 13 (by kernel_rfl) rfl rfl aA rfl ⟨rfl,rfl,rfl,rfl,trivial⟩ ?_
      refine aR 15 (by kernel_rfl) rfl rfl aA rfl rfl rfl rfl ⟨rfl,rfl,rfl,rfl,trivial⟩ ?_
      refine dst 16 ?_;refine aN ?_
      exact⟨(),trivial,aL h0 [1,2,3,5,4] _ _ (by decide) ⟨rfl,rfl,rfl,rfl,rfl,rfl,trivial⟩ ⟨oe rfl rfl,oe rfl rfl,oe rfl rfl,oe rfl rfl,oe rfl rfl,rfl⟩⟩
     refine bU (key:=5) 13 rfl rfl aA rfl ⟨rfl,rfl,rfl,rfl,trivial⟩ ?_;refine aI 12 rfl (hMr) cP ⟨a1 rfl,a1 rfl,rfl⟩ (kF (bL (aF k) (k.natAbs%k'.natAbs))) ?_
     refine aR 15 (by kernel_rfl) rfl rfl aA rfl rfl rfl rfl ⟨rfl,rfl,rfl,rfl,trivial⟩ ?_
     refine dst 16 ?_;refine aN ?_
     exact⟨(),trivial,aL h0 [1,2,3,5,4] _ _ (by decide) ⟨rfl,rfl,rfl,rfl,rfl,rfl,trivial⟩ ⟨oe rfl rfl,oe rfl rfl,oe rfl rfl,oe rfl rfl,oe rfl rfl,rfl⟩⟩
    refine bU (key:=5) 13 rfl rfl aA rfl ⟨rfl,rfl,rfl,rfl,trivial⟩ ?_;refine aI 11 rfl (hLr) dV ⟨a1 rfl,rfl⟩ (.one (.t (sU false zr))) ?_
    refine aI 12 rfl (hMr) cP ⟨a1 rfl,a1 rfl,rfl⟩ (kF (bL (aF k) (k.natAbs%k'.natAbs))) ?_
    refine aR 15 (by kernel_rfl) rfl rfl aA rfl rfl rfl rfl ⟨rfl,rfl,rfl,rfl,trivial⟩ ?_
    refine dst 16 ?_;refine aN ?_
    exact⟨(),trivial,aL h0 [1,2,3,5,4] _ _ (by decide) ⟨rfl,rfl,rfl,rfl,rfl,rfl,trivial⟩ ⟨oe rfl rfl,oe rfl rfl,oe rfl rfl,oe rfl rfl,oe rfl rfl,rfl⟩⟩
   ·refine bU (key:=4) 13 rfl rfl aA rfl ⟨rfl,rfl,rfl,rfl,trivial⟩ ?_;refine WO.two (i:=7) (j:=14) (by kernel_rfl) ?_ ?_
    ·refine cQ 7 rfl (hMq) cP ⟨a1 rfl,a1 rfl,rfl⟩ (kF (bL (aF k != aF k') (k.natAbs/k'.natAbs))) ?_;refine WO.two (i:=11) (j:=14) (by kernel_rfl) ?_ ?_
     ·refine cQ 11 rfl (hLr) dV ⟨a1 rfl,rfl⟩ (.one (.t (sU false zr))) ?_;refine WO.two (i:=12) (j:=14) (by kernel_rfl) ?_ ?_
      ·refine cQ 12 rfl (hMr) cP ⟨a1 rfl,a1 rfl,rfl⟩ (kF (bL (aF k) (k.natAbs%k'.natAbs))) ?_
       refine eA (key:=5) 14 (by kernel_rfl) rfl rfl aA rfl ⟨rfl,rfl,rfl,rfl,trivial⟩ ?_
       refine aR 15 (by kernel_rfl) rfl rfl aA rfl rfl rfl rfl ⟨rfl,rfl,rfl,rfl,trivial⟩ ?_
       refine dst 16 ?_;refine aN ?_
       exact⟨(),trivial,aL h0 [1,2,3,4,5] _ _ (by decide) ⟨rfl,rfl,rfl,rfl,rfl,rfl,trivial⟩ ⟨oe rfl rfl,oe rfl rfl,oe rfl rfl,oe rfl rfl,oe rfl rfl,rfl⟩⟩
      refine bU (key:=5) 14 rfl rfl aA rfl ⟨rfl,rfl,rfl,rfl,trivial⟩ ?_;refine aI 12 rfl (hMr) cP ⟨a1 rfl,a1 rfl,rfl⟩ (kF (bL (aF k) (k.natAbs%k'.natAbs))) ?_
      refine aR 15 (by kernel_rfl) rfl rfl aA rfl rfl rfl rfl ⟨rfl,rfl,rfl,rfl,trivial⟩ ?_
      refine dst 16 ?_;refine aN ?_
      exact⟨(),trivial,aL h0 [1,2,3,4,5] _ _ (by decide) ⟨rfl,rfl,rfl,rfl,rfl,rfl,trivial⟩ ⟨oe rfl rfl,oe rfl rfl,oe rfl rfl,oe rfl rfl,oe rfl rfl,rfl⟩⟩
     refine bU (key:=5) 14 rfl rfl aA rfl ⟨rfl,rfl,rfl,rfl,trivial⟩ ?_;refine aI 11 rfl (hLr) dV ⟨a1 rfl,rfl⟩ (.one (.t (sU false zr))) ?_
     refine aI 12 rfl (hMr) cP ⟨a1 rfl,a1 rfl,rfl⟩ (kF (bL (aF k) (k.natAbs%k'.natAbs))) ?_
     refine aR 15 (by kernel_rfl) rfl rfl aA rfl rfl rfl rfl ⟨rfl,rfl,rfl,rfl,trivial⟩ ?_
     refine dst 16 ?_;refine aN ?_
     exact⟨(),trivial,aL h0 [1,2,3,4,5] _ _ (by decide) ⟨rfl,rfl,rfl,rfl,rfl,rfl,trivial⟩ ⟨oe rfl rfl,oe rfl rfl,oe rfl rfl,oe rfl rfl,oe rfl rfl,rfl⟩⟩
    refine bU (key:=5) 14 rfl rfl aA rfl ⟨rfl,rfl,rfl,rfl,trivial⟩ ?_;refine aI 7 rfl (hMq) cP ⟨a1 rfl,a1 rfl,rfl⟩ (kF (bL (aF k != aF k') (k.natAbs/k'.natAbs))) ?_
    refine aI 11 rfl (hLr) dV ⟨a1 rfl,rfl⟩ (.one (.t (sU false zr))) ?_;refine aI 12 rfl (hMr) cP ⟨a1 rfl,a1 rfl,rfl⟩ (kF (bL (aF k) (k.natAbs%k'.natAbs))) ?_
    refine aR 15 (by kernel_rfl) rfl rfl aA rfl rfl rfl rfl ⟨rfl,rfl,rfl,rfl,trivial⟩ ?_
    refine dst 16 ?_;refine aN ?_
    exact⟨(),trivial,aL h0 [1,2,3,4,5] _ _ (by decide) ⟨rfl,rfl,rfl,rfl,rfl,rfl,trivial⟩ ⟨oe rfl rfl,oe rfl rfl,oe rfl rfl,oe rfl rfl,oe rfl rfl,rfl⟩⟩
   refine bU (key:=4) 14 rfl rfl aA rfl ⟨rfl,rfl,rfl,rfl,trivial⟩ ?_;refine WO.two (i:=7) (j:=13) (by kernel_rfl) ?_ ?_
   ·refine cQ 7 rfl (hMq) cP ⟨a1 rfl,a1 rfl,rfl⟩ (kF (bL (aF k != aF k') (k.natAbs/k'.natAbs))) ?_;refine WO.two (i:=11) (j:=13) (by kernel_rfl) ?_ ?_
    ·refine cQ 11 rfl (hLr) dV ⟨a1 rfl,rfl⟩ (.one (.t (sU false zr))) ?_;refine WO.two (i:=12) (j:=13) (by kernel_rfl) ?_ ?_
     ·refine cQ 12 rfl (hMr) cP ⟨a1 rfl,a1 rfl,rfl⟩ (kF (bL (aF k) (k.natAbs%k'.natAbs))) ?_
      refine eA (key:=5) 13 (by kernel_rfl) rfl rfl aA rfl ⟨rfl,rfl,rfl,rfl,trivial⟩ ?_
      refine aR 15 (by kernel_rfl) rfl rfl aA rfl rfl rfl rfl ⟨rfl,rfl,rfl,rfl,trivial⟩ ?_
      refine dst 16 ?_;refine aN ?_
      exact⟨(),trivial,aL h0 [1,2,3,5,4] _ _ (by decide) ⟨rfl,rfl,rfl,rfl,rfl,rfl,trivial⟩ ⟨oe rfl rfl,oe rfl rfl,oe rfl rfl,oe rfl rfl,oe rfl rfl,rfl⟩⟩
     refine bU (key:=5) 13 rfl rfl aA rfl ⟨rfl,rfl,rfl,rfl,trivial⟩ ?_;refine aI 12 rfl (hMr) cP ⟨a1 rfl,a1 rfl,rfl⟩ (kF (bL (aF k) (k.natAbs%k'.natAbs))) ?_
     refine aR 15 (by kernel_rfl) rfl rfl aA rfl rfl rfl rfl ⟨rfl,rfl,rfl,rfl,trivial⟩ ?_
     refine dst 16 ?_;refine aN ?_
     exact⟨(),trivial,aL h0 [1,2,3,5,4] _ _ (by decide) ⟨rfl,rfl,rfl,rfl,rfl,rfl,trivial⟩ ⟨oe rfl rfl,oe rfl rfl,oe rfl rfl,oe rfl rfl,oe rfl rfl,rfl⟩⟩
    refine bU (key:=5) 13 rfl rfl aA rfl ⟨rfl,rfl,rfl,rfl,trivial⟩ ?_;refine aI 11 rfl (hLr) dV ⟨a1 rfl,rfl⟩ (.one (.t (sU false zr))) ?_
    refine aI 12 rfl (hMr) cP ⟨a1 rfl,a1 rfl,rfl⟩ (kF (bL (aF k) (k.natAbs%k'.natAbs))) ?_
    refine aR 15 (by kernel_rfl) rfl rfl aA rfl rfl rfl rfl ⟨rfl,rfl,rfl,rfl,trivial⟩ ?_
    refine dst 16 ?_;refine aN ?_
    exact⟨(),trivial,aL h0 [1,2,3,5,4] _ _ (by decide) ⟨rfl,rfl,rfl,rfl,rfl,rfl,trivial⟩ ⟨oe rfl rfl,oe rfl rfl,oe rfl rfl,oe rfl rfl,oe rfl rfl,rfl⟩⟩
   refine bU (key:=5) 13 rfl rfl aA rfl ⟨rfl,rfl,rfl,rfl,trivial⟩ ?_;refine aI 7 rfl (hMq) cP ⟨a1 rfl,a1 rfl,rfl⟩ (kF (bL (aF k != aF k') (k.natAbs/k'.natAbs))) ?_
   refine aI 11 rfl (hLr) dV ⟨a1 rfl,rfl⟩ (.one (.t (sU false zr))) ?_;refine aI 12 rfl (hMr) cP ⟨a1 rfl,a1 rfl,rfl⟩ (kF (bL (aF k) (k.natAbs%k'.natAbs))) ?_
   refine aR 15 (by kernel_rfl) rfl rfl aA rfl rfl rfl rfl ⟨rfl,rfl,rfl,rfl,trivial⟩ ?_
   refine dst 16 ?_;refine aN ?_
   exact⟨(),trivial,aL h0 [1,2,3,5,4] _ _ (by decide) ⟨rfl,rfl,rfl,rfl,rfl,rfl,trivial⟩ ⟨oe rfl rfl,oe rfl rfl,oe rfl rfl,oe rfl rfl,oe rfl rfl,rfl⟩⟩
  ·refine bU (key:=4) 13 rfl rfl aA rfl ⟨rfl,rfl,rfl,rfl,trivial⟩ ?_;refine WO.two (i:=6) (j:=14) (by kernel_rfl) ?_ ?_
   ·refine cQ 6 rfl (hLq) dV ⟨a1 rfl,rfl⟩ (.one (.t (sU false zq))) ?_;refine WO.two (i:=7) (j:=14) (by kernel_rfl) ?_ ?_
    ·refine cQ 7 rfl (hMq) cP ⟨a1 rfl,a1 rfl,rfl⟩ (kF (bL (aF k != aF k') (k.natAbs/k'.natAbs))) ?_;refine WO.two (i:=11) (j:=14) (by kernel_rfl) ?_ ?_
     ·refine cQ 11 rfl (hLr) dV ⟨a1 rfl,rfl⟩ (.one (.t (sU false zr))) ?_;refine WO.two (i:=12) (j:=14) (by kernel_rfl) ?_ ?_
      ·refine cQ 12 rfl (hMr) cP ⟨a1 rfl,a1 rfl,rfl⟩ (kF (bL (aF k) (k.natAbs%k'.natAbs))) ?_
       refine eA (key:=5) 14 (by kernel_rfl) rfl rfl aA rfl ⟨rfl,rfl,rfl,rfl,trivial⟩ ?_
       refine aR 15 (by kernel_rfl) rfl rfl aA rfl rfl rfl rfl ⟨rfl,rfl,rfl,rfl,trivial⟩ ?_
       refine dst 16 ?_;refine aN ?_
       exact⟨(),trivial,aL h0 [1,2,3,4,5] _ _ (by decide) ⟨rfl,rfl,rfl,rfl,rfl,rfl,trivial⟩ ⟨oe rfl rfl,oe rfl rfl,oe rfl rfl,oe rfl rfl,oe rfl rfl,rfl⟩⟩
      refine bU (key:=5) 14 rfl rfl aA rfl ⟨rfl,rfl,rfl,rfl,trivial⟩ ?_;refine aI 12 rfl (hMr) cP ⟨a1 rfl,a1 rfl,rfl⟩ (kF (bL (aF k) (k.natAbs%k'.natAbs))) ?_
      refine aR 15 (by kernel_rfl) rfl rfl aA rfl rfl rfl rfl ⟨rfl,rfl,rfl,rfl,trivial⟩ ?_
      refine dst 16 ?_;refine aN ?_
      exact⟨(),trivial,aL h0 [1,2,3,4,5] _ _ (by decide) ⟨rfl,rfl,rfl,rfl,rfl,rfl,trivial⟩ ⟨oe rfl rfl,oe rfl rfl,oe rfl rfl,oe rfl rfl,oe rfl rfl,rfl⟩⟩
     refine bU (key:=5) 14 rfl rfl aA rfl ⟨rfl,rfl,rfl,rfl,trivial⟩ ?_;refine aI 11 rfl (hLr) dV ⟨a1 rfl,rfl⟩ (.one (.t (sU false zr))) ?_
     refine aI 12 rfl (hMr) cP ⟨a1 rfl,a1 rfl,rfl⟩ (kF (bL (aF k) (k.natAbs%k'.natAbs))) ?_
     refine aR 15 (by kernel_rfl) rfl rfl aA rfl rfl rfl rfl ⟨rfl,rfl,rfl,rfl,trivial⟩ ?_
     refine dst 16 ?_;refine aN ?_
     exact⟨(),trivial,aL h0 [1,2,3,4,5] _ _ (by decide) ⟨rfl,rfl,rfl,rfl,rfl,rfl,trivial⟩ ⟨oe rfl rfl,oe rfl rfl,oe rfl rfl,oe rfl rfl,oe rfl rfl,rfl⟩⟩
    refine bU (key:=5) 14 rfl rfl aA rfl ⟨rfl,rfl,rfl,rfl,trivial⟩ ?_;refine aI 7 rfl (hMq) cP ⟨a1 rfl,a1 rfl,rfl⟩ (kF (bL (aF k != aF k') (k.natAbs/k'.natAbs))) ?_
    refine aI 11 rfl (hLr) dV ⟨a1 rfl,rfl⟩ (.one (.t (sU false zr))) ?_;refine aI 12 rfl (hMr) cP ⟨a1 rfl,a1 rfl,rfl⟩ (kF (bL (aF k) (k.natAbs%k'.natAbs))) ?_
    refine aR 15 (by kernel_rfl) rfl rfl aA rfl rfl rfl rfl ⟨rfl,rfl,rfl,rfl,trivial⟩ ?_
    refine dst 16 ?_;refine aN ?_
    exact⟨(),trivial,aL h0 [1,2,3,4,5] _ _ (by decide) ⟨rfl,rfl,rfl,rfl,rfl,rfl,trivial⟩ ⟨oe rfl rfl,oe rfl rfl,oe rfl rfl,oe rfl rfl,oe rfl rfl,rfl⟩⟩
   refine bU (key:=5) 14 rfl rfl aA rfl ⟨rfl,rfl,rfl,rfl,trivial⟩ ?_;refine aI 6 rfl (hLq) dV ⟨a1 rfl,rfl⟩ (.one (.t (sU false zq))) ?_
   refine aI 7 rfl (hMq) cP ⟨a1 rfl,a1 rfl,rfl⟩ (kF (bL (aF k != aF k') (k.natAbs/k'.natAbs))) ?_;refine aI 11 rfl (hLr) dV ⟨a1 rfl,rfl⟩ (.one (.t (sU false zr))) ?_
   refine aI 12 rfl (hMr) cP ⟨a1 rfl,a1 rfl,rfl⟩ (kF (bL (aF k) (k.natAbs%k'.natAbs))) ?_;refine aR 15 (by kernel_rfl) rfl rfl aA rfl rfl rfl rfl ⟨rfl,rfl,rfl,rfl,trivial⟩ ?_
   refine dst 16 ?_;refine aN ?_
   exact⟨(),trivial,aL h0 [1,2,3,4,5] _ _ (by decide) ⟨rfl,rfl,rfl,rfl,rfl,rfl,trivial⟩ ⟨oe rfl rfl,oe rfl rfl,oe rfl rfl,oe rfl rfl,oe rfl rfl,rfl⟩⟩
  refine bU (key:=4) 14 rfl rfl aA rfl ⟨rfl,rfl,rfl,rfl,trivial⟩ ?_;refine WO.two (i:=6) (j:=13) (by kernel_rfl) ?_ ?_
  ·refine cQ 6 rfl (hLq) dV ⟨a1 rfl,rfl⟩ (.one (.t (sU false zq))) ?_;refine WO.two (i:=7) (j:=13) (by kernel_rfl) ?_ ?_
   ·refine cQ 7 rfl (hMq) cP ⟨a1 rfl,a1 rfl,rfl⟩ (kF (bL (aF k != aF k') (k.natAbs/k'.natAbs))) ?_;refine WO.two (i:=11) (j:=13) (by kernel_rfl) ?_ ?_
    ·refine cQ 11 rfl (hLr) dV ⟨a1 rfl,rfl⟩ (.one (.t (sU false zr))) ?_;refine WO.two (i:=12) (j:=13) (by kernel_rfl) ?_ ?_
     ·refine cQ 12 rfl (hMr) cP ⟨a1 rfl,a1 rfl,rfl⟩ (kF (bL (aF k) (k.natAbs%k'.natAbs))) ?_
      refine eA (key:=5) 13 (by kernel_rfl) rfl rfl aA rfl ⟨rfl,rfl,rfl,rfl,trivial⟩ ?_
      refine aR 15 (by kernel_rfl) rfl rfl aA rfl rfl rfl rfl ⟨rfl,rfl,rfl,rfl,trivial⟩ ?_
      refine dst 16 ?_;refine aN ?_
      exact⟨(),trivial,aL h0 [1,2,3,5,4] _ _ (by decide) ⟨rfl,rfl,rfl,rfl,rfl,rfl,trivial⟩ ⟨oe rfl rfl,oe rfl rfl,oe rfl rfl,oe rfl rfl,oe rfl rfl,rfl⟩⟩
     refine bU (key:=5) 13 rfl rfl aA rfl ⟨rfl,rfl,rfl,rfl,trivial⟩ ?_;refine aI 12 rfl (hMr) cP ⟨a1 rfl,a1 rfl,rfl⟩ (kF (bL (aF k) (k.natAbs%k'.natAbs))) ?_
     refine aR 15 (by kernel_rfl) rfl rfl aA rfl rfl rfl rfl ⟨rfl,rfl,rfl,rfl,trivial⟩ ?_
     refine dst 16 ?_;refine aN ?_
     exact⟨(),trivial,aL h0 [1,2,3,5,4] _ _ (by decide) ⟨rfl,rfl,rfl,rfl,rfl,rfl,trivial⟩ ⟨oe rfl rfl,oe rfl rfl,oe rfl rfl,oe rfl rfl,oe rfl rfl,rfl⟩⟩
    refine bU (key:=5) 13 rfl rfl aA rfl ⟨rfl,rfl,rfl,rfl,trivial⟩ ?_;refine aI 11 rfl (hLr) dV ⟨a1 rfl,rfl⟩ (.one (.t (sU false zr))) ?_
    refine aI 12 rfl (hMr) cP ⟨a1 rfl,a1 rfl,rfl⟩ (kF (bL (aF k) (k.natAbs%k'.natAbs))) ?_
    refine aR 15 (by kernel_rfl) rfl rfl aA rfl rfl rfl rfl ⟨rfl,rfl,rfl,rfl,trivial⟩ ?_
    refine dst 16 ?_;refine aN ?_
    exact⟨(),trivial,aL h0 [1,2,3,5,4] _ _ (by decide) ⟨rfl,rfl,rfl,rfl,rfl,rfl,trivial⟩ ⟨oe rfl rfl,oe rfl rfl,oe rfl rfl,oe rfl rfl,oe rfl rfl,rfl⟩⟩
   refine bU (key:=5) 13 rfl rfl aA rfl ⟨rfl,rfl,rfl,rfl,trivial⟩ ?_;refine aI 7 rfl (hMq) cP ⟨a1 rfl,a1 rfl,rfl⟩ (kF (bL (aF k != aF k') (k.natAbs/k'.natAbs))) ?_
   refine aI 11 rfl (hLr) dV ⟨a1 rfl,rfl⟩ (.one (.t (sU false zr))) ?_;refine aI 12 rfl (hMr) cP ⟨a1 rfl,a1 rfl,rfl⟩ (kF (bL (aF k) (k.natAbs%k'.natAbs))) ?_
   refine aR 15 (by kernel_rfl) rfl rfl aA rfl rfl rfl rfl ⟨rfl,rfl,rfl,rfl,trivial⟩ ?_
   refine dst 16 ?_;refine aN ?_
   exact⟨(),trivial,aL h0 [1,2,3,5,4] _ _ (by decide) ⟨rfl,rfl,rfl,rfl,rfl,rfl,trivial⟩ ⟨oe rfl rfl,oe rfl rfl,oe rfl rfl,oe rfl rfl,oe rfl rfl,rfl⟩⟩
  refine bU (key:=5) 13 rfl rfl aA rfl ⟨rfl,rfl,rfl,rfl,trivial⟩ ?_;refine aI 6 rfl (hLq) dV ⟨a1 rfl,rfl⟩ (.one (.t (sU false zq))) ?_
  refine aI 7 rfl (hMq) cP ⟨a1 rfl,a1 rfl,rfl⟩ (kF (bL (aF k != aF k') (k.natAbs/k'.natAbs))) ?_;refine aI 11 rfl (hLr) dV ⟨a1 rfl,rfl⟩ (.one (.t (sU false zr))) ?_
  refine aI 12 rfl (hMr) cP ⟨a1 rfl,a1 rfl,rfl⟩ (kF (bL (aF k) (k.natAbs%k'.natAbs))) ?_;refine aR 15 (by kernel_rfl) rfl rfl aA rfl rfl rfl rfl ⟨rfl,rfl,rfl,rfl,trivial⟩ ?_
  refine dst 16 ?_;refine aN ?_
  exact⟨(),trivial,aL h0 [1,2,3,5,4] _ _ (by decide) ⟨rfl,rfl,rfl,rfl,rfl,rfl,trivial⟩ ⟨oe rfl rfl,oe rfl rfl,oe rfl rfl,oe rfl rfl,oe rfl rfl,rfl⟩⟩
 have hlq:(dg 4294967296 (bL (aF k != aF k') (k.natAbs/k'.natAbs)).natAbs).length≤(dg 4294967296 (k).natAbs).length:=by rw[gQ];exact fH (Nat.div_le_self _ _)
 have hlr:(dg 4294967296 (bL (aF k) (k.natAbs%k'.natAbs)).natAbs).length≤(dg 4294967296 (k).natAbs).length:=by rw[gQ];exact fH (Nat.mod_le _ _)
 refine sq ?_;refine sq ?_;refine rd [0,1,2,3,4] (fun i=>[].contains i) mixed ?_
 refine aU 0 ?_;refine aI 1 rfl (lK (Zn.of (k:=bL (aF k) (k.natAbs%k'.natAbs)) (by omega))) wA ⟨aB rfl,rfl⟩ (.one (tv (.int .i64 (bL (aF k) (k.natAbs%k'.natAbs)).sign))) ?_
 refine df 2 ?_;refine df 3 ?_;refine WD.split (t:=47) rfl rfl (fun h6=>?_) (fun h6=>?_)
 ·refine aU 4 ?_;refine aU 6 ?_
  refine aI 5 rfl (lK (Zn.of (k:=bL (aF k) (k.natAbs%k'.natAbs)) (by omega))) wA ⟨aB rfl,rfl⟩ (.one (tv (.int .i64 (bL (aF k) (k.natAbs%k'.natAbs)).sign))) ?_
  refine aI 7 rfl (lK (Zn.of (k:=k') (by omega))) wA ⟨aB rfl,rfl⟩ (.one (tv (.int .i64 (k').sign))) ?_
  refine df 8 ?_;refine df 9 ?_;refine aN ?_;refine bX rfl (fun h7=>?_) (fun h7=>?_)
  ·refine sq ?_;refine rd [0,1,2,3,4] (fun i=>[2,3].contains i) mixed ?_
   refine aU 0 ?_;have hol:(dg 4294967296 (1:Int).natAbs).length≤1:=bY (by omega) (by decide)
   refine aI 1 rfl (mT (n:=1) (by omega) (by omega)) qU ⟨a1 rfl,rfl⟩ (kF (1:Int)) ?_
   refine aI 2 rfl (FT (Zn.of (k:=bL (aF k != aF k') (k.natAbs/k'.natAbs)) (by omega)) (Zn.of (k:=(1:Int)) (by omega))) LH ⟨aB rfl,aB rfl,rfl⟩ (kF (bL (aF k != aF k') (k.natAbs/k'.natAbs)-(1:Int))) ?_
   refine dst 3 ?_;refine aN ?_;refine rl ?_;refine ld ?_;refine ld ?_
   refine ca (pR (Zn.of (k:=bL (aF k) (k.natAbs%k'.natAbs)) (by omega)) (Zn.of (k:=k') (by omega))) zD ⟨aB rfl,aB rfl,rfl⟩ (kF (bL (aF k) (k.natAbs%k'.natAbs)+k')) ?_
   refine st ?_;refine nl ?_;refine sq ?_;refine rd [0,2,3,4] (fun i=>[3,4].contains i) mixed ?_
   refine aU 0 ?_;refine aU 1 ?_;refine aR 2 (by kernel_rfl) rfl rfl aA rfl rfl rfl rfl ⟨rfl,rfl,rfl,rfl,trivial⟩ ?_
   refine dst 3 ?_;refine dI 4 (by kernel_rfl) rfl rfl aA rfl (by trivial) ?_ (fun h=>by first | rfl | cases h)
   refine aN ?_;refine rt ?_;obtain⟨hd1,hd2⟩:=AE (a:=k) (b:=k') hkn rfl rfl h6 h7
   exact en (.inl rfl) rfl (nJ (.cons (.agg (.cons (.id rfl) (.cons (.id rfl) .nil))) (.cons (.agg (.cons (.id rfl) (.cons (.id rfl) .nil))) (.cons (cA _) .nil)))) (by decide) (fun h=>by cases h) (by rw[if_neg hkn,if_neg hkn,if_neg hkn,←hd1,←hd2];rfl)
  refine sk ?_;refine sq ?_;refine rd [0,2,3,4] (fun i=>[3,4].contains i) mixed ?_
  refine aU 0 ?_;refine aU 1 ?_;refine aR 2 (by kernel_rfl) rfl rfl aA rfl rfl rfl rfl ⟨rfl,rfl,rfl,rfl,trivial⟩ ?_
  refine dst 3 ?_;refine dI 4 (by kernel_rfl) rfl rfl aA rfl (by trivial) ?_ (fun h=>by first | rfl | cases h)
  refine aN ?_;refine rt ?_;obtain⟨hd1,hd2⟩:=Kd (a:=k) (b:=k') hkn rfl rfl (.inr (Decidable.byContradiction h7))
  exact en (.inl rfl) rfl (nJ (.cons (.agg (.cons (.id rfl) (.cons (.id rfl) .nil))) (.cons (.agg (.cons (.id rfl) (.cons (.id rfl) .nil))) (.cons (cA _) .nil)))) (by decide) (fun h=>by cases h) (by rw[if_neg hkn,if_neg hkn,if_neg hkn,←hd1,←hd2];rfl)
 refine bB 4 ?_;refine bB 6 ?_;refine bB 5 ?_;refine bB 7 ?_;refine bB 8 ?_;refine df 9 ?_;refine aN ?_;refine fK rfl ?_;refine sk ?_;refine sq ?_
 refine rd [0,2,3,4] (fun i=>[3,4].contains i) mixed ?_
 refine aU 0 ?_;refine aU 1 ?_;refine aR 2 (by kernel_rfl) rfl rfl aA rfl rfl rfl rfl ⟨rfl,rfl,rfl,rfl,trivial⟩ ?_
 refine dst 3 ?_;refine dI 4 (by kernel_rfl) rfl rfl aA rfl (by trivial) ?_ (fun h=>by first | rfl | cases h)
 refine aN ?_;refine rt ?_;obtain⟨hd1,hd2⟩:=Kd (a:=k) (b:=k') hkn rfl rfl (.inl (Decidable.byContradiction h6))
 exact en (.inl rfl) rfl (nJ (.cons (.agg (.cons (.id rfl) (.cons (.id rfl) .nil))) (.cons (.agg (.cons (.id rfl) (.cons (.id rfl) .nil))) (.cons (cA _) .nil)))) (by decide) (fun h=>by cases h) (by rw[if_neg hkn,if_neg hkn,if_neg hkn,←hd1,←hd2];rfl)
def dD (o:Bool) (a:Zi):List Tr:=[.v (.bool a.s),sU o a.x]
theorem iS (o:Bool) (a:Zi):(dD o a).length=2:=rfl
def gO (a:Zi):FV:=.agg ((dD true a).map .t)
def sZ (t:Nat) (zs:List Zi):Tr:=.s false t 2 zs.length (zs.flatMap (dD false))
def lI (zs:List Zi) (k:Nat):Zi:=zs.getD k ⟨false,[]⟩
theorem qR {zs:List Zi}{k:Nat}(h:k<zs.length):zs[k]? =some (lI zs k):=by simp[lI,h]
theorem Sf {zs:List Zi}{k:Nat}(h:k<zs.length):lI zs k∈zs:=List.mem_of_getElem? (qR h)
def zv (a:Zi):Int:=cS a.s a.x
def ZL (L:Nat) (a:Zi):Prop:=Lim 4294967296 a.x∧a.x.length≤L
theorem ZL.n {L:Nat}{a:Zi}(h:ZL L a) (hL:L≤137438953472):Zn a (zv a):=⟨h.1,Nat.le_trans h.2 hL,rfl⟩
def cU:List Zi→Int
 | []=>0
 | a::l=>zv a+cU l
theorem Vj (l m:List Zi):cU (l++m)=cU l+cU m:=by
 induction l with
 | nil=>simp[cU]
 | cons a l ih=>simp only[List.cons_append,cU,ih];omega
theorem CL {zs:List Zi}{k:Nat}(h:k<zs.length):cU (zs.take k)+zv (lI zs k)=cU (zs.take (k+1)):=by
 rw[List.take_add_one,qR h,Vj]
 simp[cU]
theorem JC {a:Zi}{L:Nat}(h:ZL L a):(zv a).natAbs<4294967296^L:=by
 have h1:(dg 4294967296 (zv a).natAbs).length≤a.x.length:=mZ h.1
 have h2:=mR (B:=4294967296) (n:=(zv a).natAbs) (by omega)
 exact Nat.lt_of_lt_of_le h2 (Nat.pow_le_pow_right (by omega) (Nat.le_trans h1 h.2))
theorem Sg {α:Type}{l:List α}{k:Nat}(h:l.length≤k):l.take k=l:=List.take_of_length_le h
section
variable {α:Type}{f:α→List Tr}{z k o:Nat}{xs:List α}{x x':α}{us:List Tr}
theorem Vk (h:k<xs.length):xs=xs.take k++xs[k]::xs.drop (k+1):=by
 rw[←List.drop_eq_getElem_cons h,List.take_append_drop]
theorem sN (hf:∀x,(f x).length=z) (h:xs[k]? =some x) (hm:o+us.length≤z) (hx:f x'=(f x).take o++us++(f x).drop (o+us.length)):dA ((xs.flatMap f).map AV.t) (0+k*z+o) (us.map AV.t)=((xs.set k x').flatMap f).map .t:=by
 obtain⟨hk,rfl⟩:=List.getElem?_eq_some_iff.1 h
 rw[←El,Nat.zero_add]
 congr 1
 have hA:((xs.take k).flatMap f).length=k*z:=by rw[cV hf,List.length_take,Nat.min_eq_left (by omega)]
 have e:xs.flatMap f=(xs.take k).flatMap f++(f xs[k]++(xs.drop (k+1)).flatMap f):=by
  conv=>lhs;rw[Vk hk]
  rw[List.flatMap_append,List.flatMap_cons]
 have hl:=hf xs[k]
 rw[List.set_eq_take_append_cons_drop,if_pos hk,List.flatMap_append,List.flatMap_cons,hx,e]
 generalize (xs.take k).flatMap f=A at*
 generalize (xs.drop (k+1)).flatMap f=C at*
 generalize f xs[k]=X at*
 unfold dA
 rw[List.take_append,List.drop_append,hA,List.take_of_length_le (l:=A) (by omega),List.drop_of_length_le (l:=A) (by omega),show k*z+o-k*z=o by omega,show k*z+o+us.length-k*z=o+us.length by omega,List.take_append,List.drop_append,show o-X.length=0 by omega,show o+us.length-X.length=0 by omega]
 simp
theorem yV (hf:∀x,(f x).length=z) (h:k<xs.length) (hm:o+us.length≤z):0+k*z+o+(us.map AV.t).length≤((xs.flatMap f).map AV.t).length:=by
 rw[List.length_map,List.length_map,cV hf]
 have:=Nat.mul_le_mul (show k+1≤xs.length by omega) (Nat.le_refl z)
 rw[Nat.add_mul]at this
 omega
theorem Au (xs:List α) (x:α):(xs.flatMap f).map AV.t++(f x).map .t=((xs++[x]).flatMap f).map .t:=by simp[List.flatMap_append]
end
def fB (ws:List Zi):List AV:=(ws.flatMap (dD true)).map .t
def wZ (t:Nat) (zs:List Zi):Tr:=.s true t 2 zs.length (zs.flatMap (dD true))
section
variable {x:Cx}{g:Nat→FV}{ob:List (Option Ob)}{ws:List Zi}{z:Zi}{i j k1 e key:Nat}{y a b:AV}
theorem kC (ws:List Zi):(fB ws).length=ws.length*2:=by rw[fB,List.length_map,cV (iS true)]
theorem Rl:∀{zs:List Zi}{i:Nat},i<zs.length→(fB zs)[0+i*2+1]? =some (.t (sU true (lI zs i).x))
 | [],_,h=>by simp at h
 | _::_,0,_=>rfl
 | z::zs,i+1,h=>by
  rw[show 0+(i+1)*2+1=(0+i*2+1)+1+1 by omega]
  exact Rl (zs:=zs) (i:=i) (by simpa using h)
theorem Ks {y:AV}:∀{zs:List Zi}{i:Nat},i<zs.length→(((fB zs).set (0+i*2+1) y).drop (0+i*2)).take 2=[tv (.bool (lI zs i).s),y]
 | [],_,h=>by simp at h
 | _::_,0,_=>rfl
 | z::zs,i+1,h=>by
  rw[show 0+(i+1)*2+1=(0+i*2+1)+1+1 by omega,show 0+(i+1)*2=(0+i*2)+1+1 by omega]
  exact Ks (zs:=zs) (i:=i) (by simpa using h)
theorem yY {y a b:AV}:∀{zs:List Zi}{i:Nat},i<zs.length→dA ((fB zs).set (0+i*2+1) y) (0+i*2) [a,b]=((fB zs).set (0+i*2) a).set (0+i*2+1) b
 | [],_,h=>by simp at h
 | _::_,0,_=>rfl
 | z::zs,i+1,h=>by
  have ih:=yY (y:=y) (a:=a) (b:=b) (zs:=zs) (i:=i) (by simpa using h)
  rw[show 0+(i+1)*2+1=(0+i*2+1)+1+1 by omega,show 0+(i+1)*2=(0+i*2)+1+1 by omega]
  have h3:∀(A:List AV) (p:Nat) (c d:AV),dA (c::d::A) (p+1+1) [a,b]=c::d::dA A p [a,b]:=by
   intro A p c d
   unfold dA
   rw[show p+1+1+[a,b].length=(p+[a,b].length)+1+1 by simp only[List.length_cons,List.length_nil]]
   rfl
  show dA ((_::_::fB zs).set (0+i*2+1+1+1) y) _ _=_
  rw[List.set_cons_succ,List.set_cons_succ,h3,ih]
  rfl
theorem Kt:∀{zs:List Zi}{i:Nat},i<zs.length→((fB zs).set (0+i*2) (tv (.bool z.s))).set (0+i*2+1) (.t (sU true z.x))=fB (zs.set i z)
 | [],_,h=>by simp at h
 | _::_,0,_=>rfl
 | z'::zs,i+1,h=>by
  have ih:=Kt (zs:=zs) (i:=i) (by simpa using h)
  rw[show 0+(i+1)*2+1=(0+i*2+1)+1+1 by omega,show 0+(i+1)*2=(0+i*2)+1+1 by omega,List.set_cons_succ]
  show _=_::_::fB (zs.set i z)
  rw[←ih]
  rfl
theorem Og (h:i<ws.length):0+i*2+[a,b].length≤((fB ws).set (0+i*2+1) y).length:=by rw[List.length_set,kC];show 0+i*2+2≤_;omega
theorem Vl (ws:List Zi) (z:Zi):fB ws++(dD true z).map .t=fB (ws++[z]):=by simp[fB,List.flatMap_append]
theorem nN (ws:List Zi):(fB ws).take (ws.length*2)=(ws.flatMap (dD true)).map .t:=List.take_of_length_le (by rw[kC];omega)
theorem LR (hn:Nat.beq j k1=false) (ho:bT ob j=some ⟨e,2,fB ws++[tv (.bool z.s),.sl k1 0 z.x.length]⟩) (o1:bT ob k1=some ⟨51,1,(aJ z.x).map .t⟩):Sub x g ob g ((ob.set j (some ⟨e,2,fB (ws++[z])⟩)).set k1 none):=
 JK (p:=ws.length*2+1) (e:=51) (z:=1) (n:=z.x.length) (trs:=aJ z.x) hn rfl ho o1 (by rw[List.getElem?_append_right (by rw[kC];omega),kC,show ws.length*2+1-ws.length*2=1 by omega];rfl) (aW _) (aP _) (by
  rw[List.set_append_right _ _ (by rw[kC];omega),kC,show ws.length*2+1-ws.length*2=1 by omega,←Vl]
  rfl)
theorem JG (hk:dQ ob key=true) (ho:bT ob j=some ⟨e,2,fB ws⟩) (hi:i<ws.length) (hz:lI ws i=z):Sub x g ob g (ob.set j (some ⟨e,2,(fB ws).set (0+i*2+1) (.sl key 0 z.x.length)⟩)++[some ⟨51,1,(aJ z.x).map .t⟩]):=
 ME hk rfl ho (hz▸Rl hi) rfl
theorem Of {y:AV}(hi:i<ws.length) (hz:lI ws i=z):(((fB ws).set (0+i*2+1) y).drop (0+i*2)).take 2=[tv (.bool z.s),y]:=hz▸Ks hi
theorem JH (hn:Nat.beq j k1=false) (hi:i<ws.length) (ho:bT ob j=some ⟨e,2,((fB ws).set (0+i*2) (tv (.bool z.s))).set (0+i*2+1) (.sl k1 0 z.x.length)⟩) (o1:bT ob k1=some ⟨51,1,(aJ z.x).map .t⟩):Sub x g ob g ((ob.set j (some ⟨e,2,fB (ws.set i z)⟩)).set k1 none):=
 JK (p:=0+i*2+1) (e:=51) (z:=1) (n:=z.x.length) (trs:=aJ z.x) hn rfl ho o1 (List.getElem?_set_self (by rw[List.length_set,kC];omega)) (aW _) (aP _) (by rw[List.set_set];exact Kt hi)
theorem qT (ws:List Zi):rdTL (ws.flatMap (dD true))=ws.flatMap (dD false):=by
 induction ws with
 | nil=>rfl
 | cons a l ih=>
  rw[List.flatMap_cons,List.flatMap_cons]
  show _::_::rdTL (l.flatMap (dD true))=_
  rw[ih]
  have h:sP (sU true a.x)=sU false a.x:=by
   unfold sU sP
   congr 1
   unfold aJ
   induction a.x with
   | nil=>rfl
   | cons n xs ih=>simp only[List.map_cons,rdTL,sP,ih]
  rw[h]
  rfl
end
theorem Vm {L:Nat}{zs:List Zi}(h:∀a∈zs,ZL L a):(cU zs).natAbs≤zs.length*4294967296^L:=by
 induction zs with
 | nil=>simp[cU]
 | cons a l ih=>
  have h1:=ih fun b hb=>h b (List.mem_cons_of_mem _ hb)
  have h2:=JC (h a (List.mem_cons_self ..))
  have h3:=Int.natAbs_add_le (zv a) (cU l)
  rw[List.length_cons,Nat.add_mul]
  simp only[cU]
  omega
theorem At {L k:Nat}{zs:List Zi}(h:∀a∈zs,ZL L a) (hl:zs.length≤1000000):(dg 4294967296 (cU (zs.take k)).natAbs).length≤L+1:=by
 have h1:=Vm (zs:=zs.take k) fun a ha=>h a (List.mem_of_mem_take ha)
 refine bY (by omega) (Nat.lt_of_le_of_lt h1 ?_)
 have h2:(zs.take k).length<4294967296:=by rw[List.length_take];omega
 rw[Nat.pow_succ,Nat.mul_comm]
 exact Nat.mul_lt_mul_of_pos_left h2 (Nat.pow_pos (by omega))
theorem JD (k:Int):zv (.of k)=k:=qE k
theorem Ic (l:List Int):cU (l.map Zi.of)=gZ l:=by
 induction l with
 | nil=>rfl
 | cons a l ih=>rw[List.map_cons,cU,gU,ih,JD]
def aX (l:List Int):List Zi:=l.map Zi.of
theorem dP (l:List Int):(aX l).length=l.length:=by simp[aX]
theorem yX {l:List Int}{k:Nat}(h:k<l.length):lI (aX l) k=.of (aV l k):=by simp[lI,aX,aV,h]
theorem Id (l:List Int) (i:Nat) (k:Int):(aX l).set i (.of k)=aX (l.set i k):=by simp[aX,List.map_set]
theorem Sn (l:List Int) (k:Int):aX l++[.of k]=aX (l++[k]):=by simp[aX]
def dB (q:Rat):List Tr:=(Fr4.of q).tr false
theorem dO (q:Rat):(dB q).length=4:=rfl
def Dg (l:List Rat):List AV:=(l.flatMap dB).map .t
theorem Hv (l:List Rat):(Dg l).length=l.length*4:=by rw[Dg,List.length_map,cV dO]
theorem Sl (l:List Rat) (q:Rat):Dg l++(dB q).map .t=Dg (l++[q]):=Au l q
theorem Ye (l:List Rat):l.flatMap dB=(gD l).flatMap (Fr4.tr false):=by
 unfold gD
 rw[List.flatMap_map]
 rfl
theorem pK {L:Nat}{l:List Rat}(h:∀q∈l,Sz L q) (hL:L≤68719476736):∀x∈gD l,x.ok:=fun x hx=>by
 obtain⟨q,hq,rfl⟩:=List.mem_map.1 hx
 exact(Qn.of (h q hq) hL).1
theorem sL {L:Nat}{l:List Rat}(h:∀q∈l,Sz L q):∀x∈gD l,Sz L x.q:=fun x hx=>by
 obtain⟨q,hq,rfl⟩:=List.mem_map.1 hx
 rw[Fr4.q_of]
 exact h q hq
theorem sJ {l:List Rat}{k:Nat}(h:k<l.length):l.take (k+1)=l.take k++[aO l k]:=by rw[List.take_add_one,gY h];rfl
theorem Aw {l:List Int}{k:Nat}(h:k<l.length):l.take (k+1)=l.take k++[aV l k]:=by rw[List.take_add_one,jU h];rfl
section
variable {x:Cx}{g:Nat→FV}{ob:List (Option Ob)}
theorem CZ {i k t z n:Nat}{l:List Tr}{fv fv':FV}(t':Nat) (hi:Nat.blt i x.n=true) (hg:g i=fv) (ho:bT ob k=some ⟨t,z,l.map .t⟩) (hz:l.length=n*z) (hf:FzF (.sl k 0 n) (.s false t' z n l) fv fv'):Sub x g ob (aZ g i fv') (ob.set k none):=zQ hi hg ho hf (Eo t' ho hz)
end
def aS (T:Rat) (b:Int) (ws:List Rat):List Rat:=
 if b<0∨(ws.length:Int)≤b then []
 else if aE (ws.map bN)=0 then(List.replicate ws.length 0).set b.toNat T
 else ws.map fun w=>T*bN w/aE (ws.map bN)
def pL (b:Int) (n:Nat):Int:=if b<0∨(n:Int)≤b then 2 else 0
theorem uD {T:Rat}{b:Int}{ws:List Rat}(h:b<0∨(ws.length:Int)≤b):aS T b ws=[]:=if_pos h
theorem Ib {b:Int}{n:Nat}(h:b<0∨(n:Int)≤b):pL b n=2:=if_pos h
theorem Nx {m n:Nat}(h:m<n):pL (m:Int) n=0:=if_neg (by omega)
theorem vY {T:Rat}{m:Nat}{ws:List Rat}(h:m<ws.length) (h0:aE (ws.map bN)=0):aS T (m:Int) ws=(List.replicate ws.length 0).set m T:=by
 unfold aS
 rw[if_neg (by omega),if_pos h0]
 rfl
theorem yW {T:Rat}{m:Nat}{ws:List Rat}(h:m<ws.length) (h0:aE (ws.map bN)≠0):aS T (m:Int) ws=ws.map fun w=>T*bN w/aE (ws.map bN):=by
 unfold aS
 rw[if_neg (by omega),if_neg h0]
theorem yU {L:Nat}{k:Int}(h:jD L k) (hL:1≤L):Sz L (k:Rat):=by
 refine⟨by rw[Rat.num_intCast];exact h,?_⟩
 rw[Rat.den_intCast]
 exact hL
def mA (l:List Rat) (k:Nat):List Rat:=List.replicate k 0++l.drop k
section
variable {l:List Rat}{f:Rat→Rat}{k:Nat}
theorem pM (h:k≤l.length):(mA l k).length=l.length:=by simp[mA];omega
theorem GS (h:k<l.length):(mA l k).set k 0=mA l (k+1):=by
 unfold mA
 rw[List.set_append_right _ _ (by simp),List.length_replicate,Nat.sub_self,List.drop_eq_getElem_cons h,List.set_cons_zero,List.replicate_succ']
 simp
theorem Yg (h:l.length≤k):mA l k=List.replicate k 0:=by rw[mA,List.drop_of_length_le h,List.append_nil]
def lD (f:Rat→Rat) (l:List Rat) (k:Nat):List Rat:=(l.take k).map f++l.drop k
theorem uE:(lD f l k).length=l.length:=by simp[lD];omega
theorem Yh (h:k<l.length):aO (lD f l k) k=aO l k:=by
 unfold aO lD
 rw[List.getD_eq_getElem?_getD,List.getElem?_append_right (by rw[List.length_map,List.length_take];omega),List.length_map,List.length_take,Nat.min_eq_left (by omega),Nat.sub_self,List.getElem?_drop,List.getD_eq_getElem?_getD]
 rfl
theorem GU (h:k<l.length):(lD f l k).set k (f (aO l k))=lD f l (k+1):=by
 unfold lD
 have e:aO l k=l[k]:=by simp[aO,h]
 rw[List.set_append_right _ _ (by rw[List.length_map,List.length_take];omega),List.length_map,List.length_take,Nat.min_eq_left (by omega),Nat.sub_self,List.drop_eq_getElem_cons h,List.set_cons_zero,sJ h,List.map_append,e]
 simp
theorem Yi (h:l.length≤k):lD f l k=l.map f:=by rw[lD,List.drop_of_length_le h,List.take_of_length_le h,List.append_nil]
end
theorem Hz (xs:List Fr4):(xs.map Fr4.q).map bN=xs.map fun x=>bN x.q:=by rw[List.map_map];rfl
theorem uC {L:Nat}:∀{l:List Rat},(∀q∈l,Sz L q)→Sz (2+l.length*(L+1)) (aE l)
 | [],_=>by simpa[aE]using kK (z:=0) (by omega) (by omega)
 | a::l,h=>by
  have h1:=uC (l:=l) fun q hq=>h q (List.mem_cons_of_mem _ hq)
  have h2:=h a (List.mem_cons_self ..)
  rw[dK]
  exact(wV h2 h1).mono (by rw[List.length_cons,Nat.add_mul];omega)
theorem Yf {xs:List Fr4}{f:Rat→Rat}{k:Nat}(h:k<xs.length):aO ((xs.map Fr4.q).map f) k=f (bJ xs k).q:=by simp[aO,bJ,h]
section
variable {l:List Rat}{k:Nat}{f:Int→Int}{z:List Int}
def cO (l:List Rat):List Rat:=l.map fun x=>-x
theorem lJ:(cO l).length=l.length:=by simp[cO]
theorem nQ:aE (cO l)=-aE l:=FJ l
theorem Dm (h:(aE l).den≠1):aY l=[]:=if_neg h
theorem Sr (h:(aE l).den=1) (h0:aE l<0) (h1:(cO l).any (fun x=>decide (x<0))=true):aY l=[]:=by
 unfold aY
 rw[if_pos h,if_pos h0]
 exact if_pos h1
theorem Dl (h:(aE l).den=1) (h0:¬aE l<0) (h1:l.any (fun x=>decide (x<0))=true):aY l=[]:=by
 unfold aY
 rw[if_pos h,if_neg h0]
 exact if_pos h1
theorem xB (h:(aE l).den=1) (h0:¬aE l<0) (h1:l.any (fun x=>decide (x<0))=false):aY l=iB l:=by
 unfold aY
 rw[if_pos h,if_neg h0]
 exact if_neg (by rw[h1];simp)
theorem Wc (h:(aE l).den=1) (h0:aE l<0) (h1:(cO l).any (fun x=>decide (x<0))=false):aY l=(aY (cO l)).map fun x=>-x:=by
 have h2:¬aE (cO l)<0:=by rw[nQ];grind
 rw[xB (l:=cO l) (by rw[nQ,Rat.neg_den];exact h) h2 h1]
 unfold aY
 rw[if_pos h,if_pos h0]
 exact if_neg (by rw[show(l.map fun x=>-x)=cO l from rfl,h1];simp)
theorem Ss (h0:aE l<0):¬aE (cO l)<0:=by rw[nQ];grind
theorem Yn (l:List Rat):((gD l).any fun x=>decide (x.q<0))=l.any fun x=>decide (x<0):=by
 unfold gD
 rw[List.any_map]
 congr 1
 funext q
 simp[Fr4.q_of]
def mC (f:Int→Int) (z:List Int) (k:Nat):List Int:=(z.take k).map f++z.drop k
theorem yZ:(mC f z k).length=z.length:=by simp[mC];omega
theorem Yp (h:k<z.length):aV (mC f z k) k=aV z k:=by
 unfold aV mC
 rw[List.getD_eq_getElem?_getD,List.getElem?_append_right (by rw[List.length_map,List.length_take];omega),List.length_map,List.length_take,Nat.min_eq_left (by omega),Nat.sub_self,List.getElem?_drop,List.getD_eq_getElem?_getD]
 rfl
theorem GX (h:k<z.length):(mC f z k).set k (f (aV z k))=mC f z (k+1):=by
 unfold mC
 have e:aV z k=z[k]:=by simp[aV,h]
 rw[List.set_append_right _ _ (by rw[List.length_map,List.length_take];omega),List.length_map,List.length_take,Nat.min_eq_left (by omega),Nat.sub_self,List.drop_eq_getElem_cons h,List.set_cons_zero,Aw h,List.map_append,e]
 simp
theorem Yq (h:z.length≤k):mC f z k=z.map f:=by rw[mC,List.drop_of_length_le h,List.take_of_length_le h,List.append_nil]
theorem BD {L t i:Nat}(hs:∀q∈l,Sz L q) (hi:i<l.length):(dg 4294967296 (aV (fC l t) i).natAbs).length≤L+2:=by
 rw[kB hi]
 have h1:=Dh (aO l i)
 have h2:=(hs _ (iH hi)).1
 have h5:=gK (fl (aO l i)) (if i∈(cM l).take t then 1 else 0)
 have h6:(dg 4294967296 (if i∈(cM l).take t then(1:Int)else 0).natAbs).length≤1:=by split <;> decide
 omega
theorem Ku {L:Nat}(hs:∀q∈l,Sz L q):∀k∈iB l,(dg 4294967296 k.natAbs).length≤L+2:=fun k hk=>by
 obtain⟨i,hi⟩:=List.mem_iff_getElem?.1 hk
 have h1:=(List.getElem?_eq_some_iff.1 hi).1
 rw[jU h1]at hi
 obtain rfl:=Option.some.inj hi
 exact BD hs (by rwa[pO]at h1)
theorem Ie {L:Nat}(hs:∀q∈l,Sz L q):∀k∈aY l,(dg 4294967296 k.natAbs).length≤L+2:=fun k hk=>by
 unfold aY at hk
 split at hk
 ·split at hk
  ·split at hk
   ·cases hk
   obtain⟨j,hj,rfl⟩:=List.mem_map.1 hk
   rw[Int.natAbs_neg]
   exact Ku (fun q hq=>by obtain⟨p,hp,rfl⟩:=List.mem_map.1 hq;exact mB (hs p hp)) j hj
  split at hk
  ·cases hk
  exact Ku hs k hk
 cases hk
theorem Dn:(aY l).length≤l.length:=by
 unfold aY
 split
 ·split
  ·split
   ·simp
   rw[List.length_map,pO,List.length_map];exact Nat.le_refl _
  split
  ·simp
  rw[pO];exact Nat.le_refl _
 simp
end
section
variable {x:Cx}{g:Nat→FV}{ob:List (Option Ob)}
theorem JI {i t t' z n:Nat}{o:Bool}{l:List Tr}(hi:Nat.blt i x.n=true) (h:g i=.agg [.t (.s o t z n l)]):Sub x g ob (aZ g i (.agg [.t (.s false t' z n l)])) ob:=Dp hi fun W N cs u hu=>by
 rw[h]at hu
 simp only[bG,bO]at hu⊢
 obtain⟨us,e,h2⟩:=hu
 refine⟨us,e,?_⟩
 cases us with
 | nil=>simp only[ARL]at h2
 | cons v us=>
  simp only[ARL,AR,FR]at h2⊢
  exact h2
end
theorem zH:∀{l:List Rat},(∀x∈l,0≤x)→aE l=0→∀x∈l,x=0
 | [],_,_,_,hx=>by cases hx
 | a::l,h,h0,x,hx=>by
  have h1:=h a (List.mem_cons_self ..)
  have h2:=mE fun y hy=>h y (List.mem_cons_of_mem _ hy)
  rw[dK]at h0
  rcases List.mem_cons.1 hx with rfl | hx
  ·grind
  exact zH (fun y hy=>h y (List.mem_cons_of_mem _ hy)) (by grind) x hx
theorem Ea {T:Rat}{m i:Nat}{ws:List Rat}(hm:m<ws.length) (hi:i<ws.length):aO (aS T (m:Int) ws) i=if 0<aO ws i then T*aO ws i/aE (ws.map bN)else if aE (ws.map bN)=0∧i=m then T else 0:=by
 by_cases h0:aE (ws.map bN)=0
 ·have h1:¬0<aO ws i:=fun h2=>by
   have h3:=zH (l:=ws.map bN) (fun x hx=>by obtain⟨y,_,rfl⟩:=List.mem_map.1 hx;exact Ox y) h0 _ (List.mem_map.2 ⟨_,iH hi,rfl⟩)
   rw[Eb (by grind)]at h3
   grind
  rw[if_neg h1,vY hm h0]
  unfold aO
  rw[List.getD_eq_getElem?_getD,List.getElem?_set]
  by_cases e:m=i
  ·rw[if_pos e,if_pos (by simpa using(by omega:m<ws.length)),if_pos ⟨h0,e.symm⟩]
   rfl
  rw[if_neg e,if_neg (fun h=>e h.2.symm)]
  simp[hi]
 rw[yW hm h0,Ed (g:=fun w=>T*bN w/aE (ws.map bN)) hi]
 by_cases h1:0<aO ws i
 ·rw[if_pos h1,Eb (by grind)]
 have h2:bN (aO ws i)=0:=by
  have:=yG (aO ws i)
  split at this <;> grind
 rw[if_neg h1,if_neg (fun h=>h0 h.1),h2,Rat.mul_zero,Rat.div_def,Rat.zero_mul]
theorem wB {T:Rat}{m:Nat}{ws:List Rat}(hm:m<ws.length):(aS T (m:Int) ws).length=ws.length:=by
 unfold aS
 rw[if_neg (by omega)]
 split <;> simp
section
variable {l:List Rat}{k i t:Nat}
theorem Oy {p:Rat→Bool}(h:∀j,j<l.length→p (aO l j)=false):l.any p=false:=by
 rw[List.any_eq_false]
 intro x hx
 obtain⟨j,hj⟩:=List.mem_iff_getElem?.1 hx
 have hl:=(List.getElem?_eq_some_iff.1 hj).1
 rw[gY hl]at hj
 rw[←Option.some.inj hj,h j hl]
 simp
end
section
variable {x:Cx}{g:Nat→FV}{ob ob':List (Option Ob)}{Q:Post}{ops:Array Oper}{rest:List Oper}{d:Nat}{ty:TypeId}{pos:String}{af:Array Edge}{gd:Option (Nat×Bool)}{T:List (Nat×TI)}
end
section
variable {x:Cx}{g:Nat→FV}{ob:List (Option Ob)}{ws:List Zi}{z:Zi}{l:List Rat}{i k n t:Nat}
end
section
variable {l:List Rat}{i t:Nat}
end
theorem dE {a:Fr4}{p:Rat}(ha:Qn a p):aC false Tryz.prog 74 [] [qF a] (aM (qF (.of p))):=wM ha
theorem Vr {a b:Fr4}{p q:Rat}(ha:Qn a p) (hb:Qn b q):aC true Tryz.prog 96 [] [qF a,qF b] (aM (.one (tv (.int .i64 (p-q).num.sign)))):=by
 refine bR Tryz.func96 rfl Tryz.ntmps96 rfl aA rfl fun N w c0 h0=>?_
 have hs:=ha.sz;have hs':=hb.sz
 have hs1:=hs.1;have hs2:=hs.2;have hs3:=hs'.1;have hs4:=hs'.2
 have hs5:(dg 4294967296 ((p.den:Int)).natAbs).length≤68719476736:=hs2
 have hs6:(dg 4294967296 ((q.den:Int)).natAbs).length≤68719476736:=hs4
 refine sq ?_;refine rl ?_;refine bx 0 ?_;refine bx 1 ?_;refine o1 ?_;refine nl ?_
 refine md (γ:=Unit) (fun _=>cH [(2,.one (.pt 0 0)),(3,.one (.pt 1 0)),(4,.one (tv (.int .i64 ((0:Nat):Int))))]) (fun _=>([⟨48,0,((Fr4.of p).tr false).map .t⟩,⟨48,0,((Fr4.of q).tr false).map .t⟩]:List Ob).map some) (fun _=>True) ?_ fun _ _=>?_
 ·refine rd [0,1] (fun i=>[0,1,2,3,4,5].contains i) mixed ?_
  refine WO.two (i:=0) (j:=2) (by kernel_rfl) ?_ ?_
  ·refine jZ 0 ?_;refine WO.two (i:=1) (j:=2) (by kernel_rfl) ?_ ?_
   ·refine cQ 1 rfl (dE ha) fE ⟨aB rfl,rfl⟩ (qF (.of p)) ?_;refine WO.one (by kernel_rfl) (jZ 2 ?_)
    refine aI 3 rfl (dE hb) fE ⟨aB rfl,rfl⟩ (qF (.of q)) ?_;refine dst 4 ?_;refine dst 5 ?_;refine aN ?_
    exact⟨(),trivial,aL h0 [0,1] _ _ (by decide) ⟨rfl,rfl,rfl,trivial⟩ ⟨oe rfl rfl,oe rfl rfl,rfl⟩⟩
   refine jZ 2 ?_;refine aI 1 rfl (dE ha) fE ⟨aB rfl,rfl⟩ (qF (.of p)) ?_;refine aI 3 rfl (dE hb) fE ⟨aB rfl,rfl⟩ (qF (.of q)) ?_;refine dst 4 ?_;refine dst 5 ?_
   refine aN ?_;exact⟨(),trivial,aL h0 [0,1] _ _ (by decide) ⟨rfl,rfl,rfl,trivial⟩ ⟨oe rfl rfl,oe rfl rfl,rfl⟩⟩
  refine jZ 2 ?_;refine WO.one (by kernel_rfl) (jZ 0 ?_)
  refine aI 1 rfl (dE ha) fE ⟨aB rfl,rfl⟩ (qF (.of p)) ?_;refine aI 3 rfl (dE hb) fE ⟨aB rfl,rfl⟩ (qF (.of q)) ?_;refine dst 4 ?_;refine dst 5 ?_;refine aN ?_
  exact⟨(),trivial,aL h0 [0,1] _ _ (by decide) ⟨rfl,rfl,rfl,trivial⟩ ⟨oe rfl rfl,oe rfl rfl,rfl⟩⟩
 refine sq ?_;refine rd [0,1] (fun i=>[11].contains i) mixed ?_
 refine dv 0 ?_;refine aU 1 ?_;refine dv 2 ?_;refine aU 3 ?_;refine dv 5 ?_;refine aU 6 ?_;refine dv 7 ?_;refine aU 8 ?_;have hn1:=dF (p.num) ((q.den:Int))
 refine aI 4 rfl (pE (gA hs) (dM hs')) qP ⟨aB rfl,aB rfl,rfl⟩ (kF ((p.num*(q.den:Int)))) ?_;have hn2:=dF (q.num) ((p.den:Int))
 refine aI 9 rfl (pE (gA hs') (dM hs)) qP ⟨aB rfl,aB rfl,rfl⟩ (kF ((q.num*(p.den:Int)))) ?_
 refine aI 10 rfl (sG (Zn.of (k:=(p.num*(q.den:Int))) (by omega)) (Zn.of (k:=(q.num*(p.den:Int))) (by omega))) vU ⟨aB rfl,aB rfl,rfl⟩ (.one (tv (.int .i64 ((p.num*(q.den:Int))-(q.num*(p.den:Int))).sign))) ?_
 refine dI 11 (by kernel_rfl) rfl rfl aA rfl (by trivial) ?_ (fun h=>by first | rfl | cases h)
 refine aN ?_;refine rt ?_;exact en (.inl rfl) rfl (aT (cA _)) (by decide) (fun _=>trivial) (by rw[←Ql];rfl)
end Go.Proofs.YthmgbcdidlkpoaaGreat
