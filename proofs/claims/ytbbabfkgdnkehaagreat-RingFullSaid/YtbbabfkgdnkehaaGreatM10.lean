/- Part 10 of a proof: A4 to V1. -/
import Derived.Test.YtbbabfkgdnkehaaGreatM9
import Derived.Test.YtbbabfkgdnkehaaGreatM8
import Derived.Test.YtbbabfkgdnkehaaGreatM7
set_option maxRecDepth 100000
set_option linter.unusedVariables false
set_option linter.unusedSimpArgs false
namespace Go.Proofs.YtbbabfkgdnkehaaGreat
open Go Go.RowKit
theorem zT {xs:List Nat}(hx:xs.length≤4398046511104):aD false Tryz.prog 138 [] [.one (.t (sI false xs))] (aP (.one (.t (sI false (trim xs))))):=by
 refine cC Tryz.func138 rfl Tryz.ntmps138 rfl aA rfl fun N w c0 h0=>?_
 refine sq ?_;refine rl ?_;refine o1 ?_;refine nl ?_;refine sq ?_;refine bl ?_
 refine lp (γ:=List Nat) (fun zs=>cA [(0,.one (.t (sI false zs)))]) (fun _=>([]:List Ob).map some) (fun zs=>trim zs=trim xs∧zs.length≤xs.length) (fun zs=>zs.length) xs ⟨rfl,Nat.le_refl _⟩ (aN h0 [] _ _ (by decide) ⟨rfl,trivial⟩ rfl) fun zs hz=>?_
 refine sq ?_;refine sq ?_;refine rl ?_;(iterate 4 refine o1 ?_);refine WL.split (t:=6) rfl (fun h1=>?_) (fun h1=>?_)
 ·(iterate 4 refine o1 ?_);refine WL.cast (t:=10) (u':=.int .i64 ((zs.length-1:Nat):Int)) rfl (aC (by omega)) ?_
  refine o1 ?_;refine dU ([.v (.int .i64 ((nth zs (zs.length-1):Nat):Int))]) (fG zs (k:=zs.length-1) (by omega)) ?_
  refine o1 ?_;refine o1 ?_;refine nl ?_;refine bM rfl (fun h2=>?_) (fun h2=>?_)
  ·refine sk ?_;refine bl ?_;refine rl ?_;(iterate 4 refine o1 ?_);refine WL.cast (t:=18) (u':=.int .i64 ((zs.length-1:Nat):Int)) rfl (aC (by omega)) ?_
   refine o1 ?_;refine o1 ?_;refine nl ?_
   exact⟨zs.take (zs.length-1),by rw[List.length_take];omega,⟨(by rw[uZ (xs:=zs) (k:=zs.length) (by omega) (Nat.le_refl _) (by omega),List.take_length];exact hz.1),by rw[List.length_take];omega⟩,aN h0 [] _ _ (by decide) ⟨congrArg some (Ru (by omega)).symm,trivial⟩ rfl⟩
  refine ex ?_;refine sq ?_;refine rl ?_;refine o1 ?_;refine o1 ?_;refine nl ?_;refine rt ?_;refine en (.inl rfl) rfl (aZ (.one (.id rfl))) (by decide) (fun h=>by cases h) ?_
  have hx:trim xs=zs:=by
   rw[←hz.1];have h9:=qP (xs:=zs) (k:=zs.length) (by omega) (Nat.le_refl _) (by omega)
   rwa[List.take_length]at h9
  rw[hx];rfl
 (iterate 7 refine cM ?_);refine o1 ?_;refine nl ?_;refine eN rfl ?_;refine ex ?_;refine sq ?_;refine rl ?_;refine o1 ?_;refine o1 ?_;refine nl ?_;refine rt ?_
 refine en (.inl rfl) rfl (aZ (.one (.id rfl))) (by decide) (fun h=>by cases h) ?_
 have hx:trim xs=zs:=by
  have h9:zs=[]:=List.eq_nil_of_length_eq_zero (by omega)
  rw[←hz.1,h9];rfl
 rw[hx];rfl
theorem qS {xs:List Nat}(hx:xs.length≤1099511627776) (hl:Lim 4294967296 xs):aD false Tryz.prog 115 [] [.one (.t (sU false xs))] (aP (.one (.t (sI false (dg 65536 (vl 4294967296 xs)))))):=by
 refine cC Tryz.func115 rfl Tryz.ntmps115 rfl aA rfl fun N w c0 h0=>?_
 refine sq ?_;refine rl ?_;refine o1 ?_;refine nl ?_;refine sq ?_;refine rl ?_;refine o1 ?_;refine nl ?_;refine sq ?_;refine sq ?_;refine rl ?_;refine o1 ?_;refine nl ?_;refine bl ?_
 refine lp (γ:=Nat) (fun k=>cA [(0,.one (.t (sU false xs))),(3,.one (.sl 0 0 (2*k))),(4,.one (tv (.int .i64 ((k:Nat):Int))))]) (fun k=>[(⟨3,1,(eD (hv (xs.take k))).map .t⟩:Ob)].map some) (fun k=>k≤xs.length) (fun k=>xs.length-k) 0 (Nat.zero_le _) ((nr (i:=3) 0 3 1 rfl rfl rfl rfl).trans (aN h0 [0] _ _ (by decide) ⟨rfl,rfl,rfl,trivial⟩ ⟨aI (l:=[]) rfl,rfl⟩)) fun k hk=>?_
 have hn:=hl.nth (by omega) k
 refine sq ?_;refine sq ?_;refine rl ?_;(iterate 4 refine o1 ?_);refine nl ?_;refine bM rfl (fun h1=>?_) (fun h1=>?_)
 ·refine sk ?_;refine sq ?_;refine bl ?_;refine rd [] (fun i=>[15].contains i) mixed ?_
  refine dv 0 ?_;refine dv 1 ?_;refine dv 2 ?_;refine dv 3 ?_;refine gI 4 ([.v (.int .u32 ((nth xs (k):Nat):Int))]) (pO xs (k:=k) (by omega)) ?_
  refine dv 5 ?_;refine WD.cast (t:=16) (u':=.int .u32 ((nth xs k%65536:Nat):Int)) rfl (aC (kG _ 65536)) ?_;refine dv 6 ?_;refine dv 7 ?_;refine dv 8 ?_;refine dv 9 ?_
  refine gI 10 ([.v (.int .u32 ((nth xs (k):Nat):Int))]) (pO xs (k:=k) (by omega)) ?_
  refine dv 11 ?_ (hC:=(gW 65536 (by omega) (by simp only[iE];omega)))
  refine WD.cast (t:=22) (u':=.int .u32 ((nth xs k/65536:Nat):Int)) rfl (aC (fP _ 65536)) ?_;refine dv 12 ?_;refine kN (key:=1) 13 (by kernel_rfl) rfl rfl aA rfl trivial ?_
  refine BL (j:=2) 14 rfl aA rfl rfl rfl (.sl rfl (by rw[List.length_map,gZ,pP,List.length_take];omega)) (.sl rfl rfl rfl) rfl rfl (by omega) (by omega) rfl rfl (by kernel_rfl) rfl ?_
  refine eR 15 (by kernel_rfl) rfl rfl aA rfl (by trivial) ?_ (fun h=>by first | rfl | cases h)
  refine aS ?_;refine rl ?_;(iterate 3 refine o1 ?_);refine nl ?_
  exact⟨k+1,by omega,by omega,aN h0 [2] _ _ (by decide) ⟨rfl,rfl,rfl,trivial⟩ ⟨lU rfl (hG _ [nth xs k%65536,nth xs k/65536]) (Lr (by omega)).symm,rfl⟩⟩
 refine ex ?_;refine sq ?_;refine rl ?_;refine WL.sub (xZ (i:=3) (zs':=hv xs) rfl rfl rfl (by rw[pP,List.length_take];omega) (by rw[List.take_of_length_le (by omega)])) ?_
 refine o1 ?_;refine ca (zT (by rw[pP];omega)) zW ⟨a1 rfl,rfl⟩ (.one (.t (sI false (trim (hv xs))))) ?_
 refine o1 ?_;refine nl ?_;refine rt ?_;exact en (.inl rfl) rfl (aZ (.one (.id rfl))) (by decide) (fun h=>by cases h) (by rw[BM hl];rfl)
theorem yP {xs zs:List Nat}(hx:xs.length≤4398046511104) (hl:Lim 65536 xs) (hz:lb xs=zs):aD true Tryz.prog 113 [] [.one (.t (sI false xs))] (aP (.one (.t (sU true zs)))):=by
 refine cC Tryz.func113 rfl Tryz.ntmps113 rfl aA rfl fun N w c0 h0=>?_
 refine sq ?_;refine rl ?_;refine o1 ?_;refine nl ?_;refine sq ?_;refine rl ?_;(iterate 3 refine o1 ?_)
 refine WL.cast (t:=7) (u':=.int .i64 ((xs.length+1:Nat):Int)) rfl (aC (by omega)) ?_
 refine o1 ?_ (hC:=(gW 2 (by omega) (by simp only[iE];omega)))
 refine WL.cast (t:=8) (u':=.int .i64 (((xs.length+1)/2:Nat):Int)) rfl (aC (fP _ 2)) ?_;refine mk (m:=(xs.length+1)/2) 0 (by omega) (Ww _) ?_
 refine o1 ?_;refine nl ?_;refine sq ?_;refine sq ?_;refine rl ?_;refine o1 ?_;refine nl ?_;refine bl ?_
 refine lp (γ:=Nat) (fun k=>cA [(0,.one (.t (sI false xs))),(3,.one (.sl 0 0 ((xs.length+1)/2))),(4,.one (tv (.int .i64 ((k:Nat):Int))))]) (fun k=>[(⟨113,1,(aY (jU xs k ((xs.length+1)/2))).map .t⟩:Ob)].map some) (fun k=>k≤xs.length) (fun k=>xs.length-k) 0 (Nat.zero_le _) (aN h0 [0] _ _ (by decide) ⟨rfl,rfl,rfl,trivial⟩ ⟨Rw rfl rfl Wx.symm,rfl⟩) fun k hk=>?_
 have hn:=hl.nth (by omega) k
 have hln:=DV (l:=xs) (k:=k) (N:=(xs.length+1)/2) rfl hk
 refine sq ?_;refine sq ?_;refine rl ?_;(iterate 4 refine o1 ?_);refine nl ?_;refine bM rfl (fun h1=>?_) (fun h1=>?_)
 ·refine sk ?_;refine sq ?_;refine bl ?_;refine sq ?_;refine rl ?_;refine o1 ?_;refine o1 ?_;refine WL.cast (t:=17) (u':=.int .i64 ((k%2:Nat):Int)) rfl (aC (kG _ 2)) ?_
  refine o1 ?_;refine nl ?_;refine bM rfl (fun h2=>?_) (fun h2=>?_)
  ·refine rl ?_;refine o1 ?_;refine o1 ?_;refine o1 ?_ (hC:=(gW 2 (by omega) (by simp only[iE];omega)))
   refine WL.cast (t:=21) (u':=.int .i64 ((k/2:Nat):Int)) rfl (aC (fP _ 2)) ?_;(iterate 3 refine o1 ?_)
   refine dU ([.v (.int .i64 ((nth xs (k):Nat):Int))]) (fG xs (k:=k) (by omega)) ?_
   refine o1 ?_;refine WL.cast (t:=26) (u':=.int .u32 ((nth xs k:Nat):Int)) rfl (aC rfl) ?_;refine o1 ?_
   refine Dz (Ls (jU xs k ((xs.length+1)/2)) (k:=k/2) (v:=nth xs k) (by omega)) (Rx (jU xs k ((xs.length+1)/2)) (by omega)) ?_
   refine nl ?_;refine rl ?_;refine o1 ?_;refine o1 ?_;refine WL.cast (t:=15) (u':=.int .i64 ((k+1:Nat):Int)) rfl (aC (by omega)) ?_
   refine o1 ?_;refine nl ?_;exact⟨k+1,by omega,by omega,aN h0 [0] _ _ (by decide) ⟨rfl,rfl,rfl,trivial⟩ ⟨Rw rfl rfl (Wy rfl (by omega) (by omega)),rfl⟩⟩
  have hnt:=yA (l:=xs) (k:=k) (N:=(xs.length+1)/2) rfl (by omega) (by omega)
  have hb1:=hl.nth (by omega) (k-1)
  refine rd [0] (fun i=>[16].contains i) mixed ?_
  refine dv 0 ?_;refine dv 1 ?_;refine dv 2 ?_ (hC:=(gW 2 (by omega) (by simp only[iE];omega)))
  refine WD.cast (t:=30) (u':=.int .i64 ((k/2:Nat):Int)) rfl (aC (fP _ 2)) ?_;refine dv 3 ?_;refine dv 4 ?_
  refine dv 5 ?_ (hC:=(gW 2 (by omega) (by simp only[iE];omega)))
  refine WD.cast (t:=33) (u':=.int .i64 ((k/2:Nat):Int)) rfl (aC (fP _ 2)) ?_;refine dv 6 ?_;refine Ph 7 (IY (jU xs k ((xs.length+1)/2)) (k:=k/2) (by omega)) ?_
  refine dv 8 ?_;refine dv 9 ?_;refine dv 10 ?_;refine gI 11 ([.v (.int .i64 ((nth xs (k):Nat):Int))]) (fG xs (k:=k) (by omega)) ?_
  refine dv 12 ?_;refine dv 13 ?_;refine dv 14 ?_
  refine WD.cast (t:=42) (u':=.int .u32 ((nth (jU xs k ((xs.length+1)/2)) (k/2)+65536*nth xs k:Nat):Int)) rfl (aC (by omega)) ?_
  refine dv 15 ?_
  refine lV 16 (Ls (jU xs k ((xs.length+1)/2)) (k:=k/2) (v:=nth (jU xs k ((xs.length+1)/2)) (k/2)+65536*nth xs k) (by omega)) (Rx (jU xs k ((xs.length+1)/2)) (by omega)) ?_
  refine aS ?_;refine rl ?_;refine o1 ?_;refine o1 ?_;refine WL.cast (t:=15) (u':=.int .i64 ((k+1:Nat):Int)) rfl (aC (by omega)) ?_
  refine o1 ?_;refine nl ?_;exact⟨k+1,by omega,by omega,aN h0 [0] _ _ (by decide) ⟨rfl,rfl,rfl,trivial⟩ ⟨Rw rfl rfl (DW rfl (by omega) (by omega)),rfl⟩⟩
 refine ex ?_;refine sq ?_;refine rl ?_;refine o1 ?_;refine o1 ?_;refine nl ?_;refine rt ?_
 exact en (.inl rfl) rfl (aZ (.one (.sl (trs:=aY (lb xs)) rfl rfl (by rw[DX rfl (by omega),Nat.mul_one,List.take_of_length_le (by simp[hH,iK])]) (by simp[hH,iK])))) (by decide) (fun _=>.inl ⟨rfl,eV _⟩) (by subst hz;unfold sU;rw[iK];rfl)
theorem Wz {xs ys:List Nat}(hx:xs.length≤1099511627776) (hy:ys.length≤1099511627776) (hlx:Lim 65536 xs) (hly:Lim 65536 ys):aD false Tryz.prog 114 [] [.one (.t (sI false xs)),.one (.t (sI false ys))] (aP (.one (.t (sI false (dg 65536 (vl 65536 xs*vl 65536 ys)))))):=by
 refine cC Tryz.func114 rfl Tryz.ntmps114 rfl aA rfl fun N w c0 h0=>?_
 refine sq ?_;refine rl ?_;refine o1 ?_;refine nl ?_;refine sq ?_;refine rl ?_;(iterate 5 refine o1 ?_)
 refine WL.cast (t:=14) (u':=.int .i64 ((xs.length+ys.length:Nat):Int)) rfl (aC (by omega)) ?_
 refine o1 ?_;refine WL.cast (t:=15) (u':=.int .i64 ((xs.length+ys.length+1:Nat):Int)) rfl (aC (by omega)) ?_
 refine mk (m:=xs.length+ys.length+1) 0 (by omega) (Gp _) ?_
 refine o1 ?_;refine nl ?_;refine sq ?_;refine sq ?_;refine rl ?_;refine o1 ?_;refine nl ?_;refine bl ?_
 refine lp (γ:=Nat×List Nat) (fun s=>cA [(0,.one (.t (sI false xs))),(1,.one (.t (sI false ys))),(5,.one (.sl 0 0 (xs.length+ys.length+1))),(6,.one (tv (.int .i64 ((s.1:Nat):Int))))]) (fun s=>[(⟨3,1,(eD s.2).map .t⟩:Ob)].map some) (fun s=>s.1≤xs.length∧Lim 65536 s.2∧s.2.length=xs.length+ys.length+1∧vl 65536 s.2=vl 65536 (xs.take s.1)*vl 65536 ys) (fun s=>xs.length-s.1) (0,List.replicate (xs.length+ys.length+1) 0) ⟨Nat.zero_le _,Lim.replicate (by omega) _,List.length_replicate,by rw[uX];simp[vl]⟩ (aN h0 [0] _ _ (by decide) ⟨rfl,rfl,rfl,rfl,trivial⟩ ⟨lU rfl rfl rfl,rfl⟩) ?_
 rintro⟨i,os⟩ ⟨hi,hol,hos,hv⟩;dsimp only at hi hol hos hv⊢;refine sq ?_;refine sq ?_;refine rl ?_;(iterate 4 refine o1 ?_);refine nl ?_;refine bM rfl (fun h1=>?_) (fun h1=>?_)
 ·refine sk ?_;refine sq ?_;refine bl ?_;refine sq ?_;refine rl ?_;refine o1 ?_;refine nl ?_;refine sq ?_;refine rl ?_;refine o1 ?_;refine nl ?_;refine bl ?_
  have hil:=hlx.nth (by omega) i
  refine lp (γ:=Nat×Nat×List Nat) (fun s=>cA [(0,.one (.t (sI false xs))),(1,.one (.t (sI false ys))),(5,.one (.sl 0 0 (xs.length+ys.length+1))),(6,.one (tv (.int .i64 ((i:Nat):Int)))),(7,.one (tv (.int .i64 ((s.2.1:Nat):Int)))),(8,.one (tv (.int .i64 ((s.1:Nat):Int))))]) (fun s=>[(⟨3,1,(eD s.2.2).map .t⟩:Ob)].map some) (fun s=>s.1≤ys.length+1∧Lim 65536 s.2.2∧s.2.2.length=xs.length+ys.length+1∧vl 65536 s.2.2+65536^(i+s.1)*s.2.1=vl 65536 (xs.take i)*vl 65536 ys+65536^i*(nth xs i*vl 65536 (ys.take s.1))∧s.2.1≤65535) (fun s=>ys.length+1-s.1) (0,0,os) ⟨Nat.zero_le _,hol,hos,by dsimp only;rw[hv];simp[vl],Nat.zero_le _⟩ (aN h0 [0] _ _ (by decide) ⟨rfl,rfl,rfl,rfl,rfl,rfl,trivial⟩ ⟨lU rfl rfl rfl,rfl⟩) ?_
  rintro⟨k,cr,os2⟩ ⟨hk,hol2,hos2,hv2,hcb⟩;dsimp only at hk hol2 hos2 hv2 hcb⊢;refine sq ?_;refine sq ?_;refine rl ?_;(iterate 5 refine o1 ?_)
  refine WL.split (t:=27) rfl (fun h2=>?_) (fun h2=>?_)
  ·refine cM ?_;refine cM ?_;refine o1 ?_;refine nl ?_;refine gJ rfl ?_;refine sk ?_;refine sq ?_;refine bl ?_;refine sq ?_
   have hkl:k≤ys.length:=by first | omega | exact Gq hlx hly (by omega) hk hv2 (by omega)
   have hon:=hol2.nth (by omega) (i+k)
   have hyn:=hly.nth (by omega) k
   have hmul:=Nat.mul_le_mul (Nat.le_of_lt_succ hil) (Nat.le_of_lt_succ hyn)
   refine rl ?_;(iterate 4 refine o1 ?_);refine WL.cast (t:=36) (u':=.int .i64 ((i+k:Nat):Int)) rfl (aC (by omega)) ?_
   refine o1 ?_;refine Lu (Gr os2 (k:=i+k) (by omega)) ?_
   refine o1 ?_;refine o1 ?_;refine WL.cast (t:=40) (u':=.int .i64 ((nth os2 (i+k)+cr:Nat):Int)) rfl (aC (by omega)) ?_
   refine o1 ?_;refine nl ?_;refine sq ?_;refine sq ?_;refine rl ?_;(iterate 4 refine o1 ?_);refine nl ?_;refine bM rfl (fun h3=>?_) (fun h3=>?_)
   ·refine rd [] (fun i=>[11].contains i) mixed ?_
    refine dv 0 ?_;refine dv 1 ?_;refine dv 2 ?_;refine dv 3 ?_;refine gI 4 ([.v (.int .i64 ((nth xs (i):Nat):Int))]) (fG xs (k:=i) (by omega)) ?_
    refine dv 5 ?_;refine dv 6 ?_;refine dv 7 ?_;refine gI 8 ([.v (.int .i64 ((nth ys (k):Nat):Int))]) (fG ys (k:=k) (by omega)) ?_
    refine dv 9 ?_;refine WD.cast (t:=54) (u':=.int .i64 ((nth xs i*nth ys k:Nat):Int)) rfl (aC (Int.natCast_mul _ _).symm) ?_;refine dv 10 ?_
    refine WD.cast (t:=55) (u':=.int .i64 ((nth os2 (i+k)+cr+nth xs i*nth ys k:Nat):Int)) rfl (aC (by omega)) ?_
    refine eR 11 (by kernel_rfl) rfl rfl aA rfl (by trivial) ?_ (fun h=>by first | rfl | cases h)
    refine aS ?_;refine sq ?_;refine rl ?_;(iterate 4 refine o1 ?_);refine WL.cast (t:=59) (u':=.int .i64 ((i+k:Nat):Int)) rfl (aC (by omega)) ?_
    refine o1 ?_;refine o1 ?_;refine WL.cast (t:=61) (u':=.int .i64 (((nth os2 (i+k)+cr+nth xs i*nth ys k)%65536:Nat):Int)) rfl (aC (kG _ 65536)) ?_;refine o1 ?_
    refine Dz (rU os2 (k:=i+k) (v:=(nth os2 (i+k)+cr+nth xs i*nth ys k)%65536) (by omega)) (vC os2 (by omega)) ?_
    refine nl ?_;refine rl ?_;refine o1 ?_;refine o1 ?_ (hC:=(gW 65536 (by omega) (by simp only[iE];omega)))
    refine WL.cast (t:=64) (u':=.int .i64 (((nth os2 (i+k)+cr+nth xs i*nth ys k)/65536:Nat):Int)) rfl (aC (fP _ 65536)) ?_;refine o1 ?_;refine nl ?_;refine rl ?_
    refine o1 ?_;refine o1 ?_;refine WL.cast (t:=32) (u':=.int .i64 ((k+1:Nat):Int)) rfl (aC (by omega)) ?_
    refine o1 ?_;refine nl ?_;have hst:=oU (x:=nth os2 (i+k)+cr+nth xs i*nth ys k) (by omega) hv2 (by rfl)
    exact⟨(k+1,(nth os2 (i+k)+cr+nth xs i*nth ys k)/65536,os2.set (i+k) ((nth os2 (i+k)+cr+nth xs i*nth ys k)%65536)),by dsimp only;omega,⟨by dsimp only;omega,hol2.set _ (Nat.mod_lt _ (by omega)),by rw[List.length_set];exact hos2,hst,by dsimp only;omega⟩,aN h0 [0] _ _ (by decide) ⟨rfl,rfl,rfl,rfl,rfl,rfl,trivial⟩ ⟨lU rfl rfl rfl,rfl⟩⟩
   refine sk ?_;refine sq ?_;refine rl ?_;(iterate 4 refine o1 ?_);refine WL.cast (t:=59) (u':=.int .i64 ((i+k:Nat):Int)) rfl (aC (by omega)) ?_
   refine o1 ?_;refine o1 ?_;refine WL.cast (t:=61) (u':=.int .i64 (((nth os2 (i+k)+cr)%65536:Nat):Int)) rfl (aC (kG _ 65536)) ?_;refine o1 ?_
   refine Dz (rU os2 (k:=i+k) (v:=(nth os2 (i+k)+cr)%65536) (by omega)) (vC os2 (by omega)) ?_
   refine nl ?_;refine rl ?_;refine o1 ?_;refine o1 ?_ (hC:=(gW 65536 (by omega) (by simp only[iE];omega)))
   refine WL.cast (t:=64) (u':=.int .i64 (((nth os2 (i+k)+cr)/65536:Nat):Int)) rfl (aC (fP _ 65536)) ?_;refine o1 ?_;refine nl ?_;refine rl ?_;refine o1 ?_;refine o1 ?_
   refine WL.cast (t:=32) (u':=.int .i64 ((k+1:Nat):Int)) rfl (aC (by omega)) ?_
   refine o1 ?_;refine nl ?_;have hny:nth ys k=0:=eK (by omega)
   have hst:=oU (x:=nth os2 (i+k)+cr) (by omega) hv2 (by rw[hny,Nat.mul_zero,Nat.add_zero])
   exact⟨(k+1,(nth os2 (i+k)+cr)/65536,os2.set (i+k) ((nth os2 (i+k)+cr)%65536)),by dsimp only;omega,⟨by dsimp only;omega,hol2.set _ (Nat.mod_lt _ (by omega)),by rw[List.length_set];exact hos2,hst,by dsimp only;omega⟩,aN h0 [0] _ _ (by decide) ⟨rfl,rfl,rfl,rfl,rfl,rfl,trivial⟩ ⟨lU rfl rfl rfl,rfl⟩⟩
  (iterate 3 refine o1 ?_);refine nl ?_;refine bM rfl (fun h4=>?_) (fun h4=>?_)
  ·refine sk ?_;refine sq ?_;refine bl ?_;refine sq ?_;have hkl:k≤ys.length:=by first | omega | exact Gq hlx hly (by omega) hk hv2 (by omega)
   have hon:=hol2.nth (by omega) (i+k)
   have hyn:=hly.nth (by omega) k
   have hmul:=Nat.mul_le_mul (Nat.le_of_lt_succ hil) (Nat.le_of_lt_succ hyn)
   refine rl ?_;(iterate 4 refine o1 ?_);refine WL.cast (t:=36) (u':=.int .i64 ((i+k:Nat):Int)) rfl (aC (by omega)) ?_
   refine o1 ?_;refine Lu (Gr os2 (k:=i+k) (by omega)) ?_
   refine o1 ?_;refine o1 ?_;refine WL.cast (t:=40) (u':=.int .i64 ((nth os2 (i+k)+cr:Nat):Int)) rfl (aC (by omega)) ?_
   refine o1 ?_;refine nl ?_;refine sq ?_;refine sq ?_;refine rl ?_;(iterate 4 refine o1 ?_);refine nl ?_;refine bM rfl (fun h5=>?_) (fun h5=>?_)
   ·refine rd [] (fun i=>[11].contains i) mixed ?_
    refine dv 0 ?_;refine dv 1 ?_;refine dv 2 ?_;refine dv 3 ?_;refine gI 4 ([.v (.int .i64 ((nth xs (i):Nat):Int))]) (fG xs (k:=i) (by omega)) ?_
    refine dv 5 ?_;refine dv 6 ?_;refine dv 7 ?_;refine gI 8 ([.v (.int .i64 ((nth ys (k):Nat):Int))]) (fG ys (k:=k) (by omega)) ?_
    refine dv 9 ?_;refine WD.cast (t:=54) (u':=.int .i64 ((nth xs i*nth ys k:Nat):Int)) rfl (aC (Int.natCast_mul _ _).symm) ?_;refine dv 10 ?_
    refine WD.cast (t:=55) (u':=.int .i64 ((nth os2 (i+k)+cr+nth xs i*nth ys k:Nat):Int)) rfl (aC (by omega)) ?_
    refine eR 11 (by kernel_rfl) rfl rfl aA rfl (by trivial) ?_ (fun h=>by first | rfl | cases h)
    refine aS ?_;refine sq ?_;refine rl ?_;(iterate 4 refine o1 ?_);refine WL.cast (t:=59) (u':=.int .i64 ((i+k:Nat):Int)) rfl (aC (by omega)) ?_
    refine o1 ?_;refine o1 ?_;refine WL.cast (t:=61) (u':=.int .i64 (((nth os2 (i+k)+cr+nth xs i*nth ys k)%65536:Nat):Int)) rfl (aC (kG _ 65536)) ?_;refine o1 ?_
    refine Dz (rU os2 (k:=i+k) (v:=(nth os2 (i+k)+cr+nth xs i*nth ys k)%65536) (by omega)) (vC os2 (by omega)) ?_
    refine nl ?_;refine rl ?_;refine o1 ?_;refine o1 ?_ (hC:=(gW 65536 (by omega) (by simp only[iE];omega)))
    refine WL.cast (t:=64) (u':=.int .i64 (((nth os2 (i+k)+cr+nth xs i*nth ys k)/65536:Nat):Int)) rfl (aC (fP _ 65536)) ?_;refine o1 ?_;refine nl ?_;refine rl ?_
    refine o1 ?_;refine o1 ?_;refine WL.cast (t:=32) (u':=.int .i64 ((k+1:Nat):Int)) rfl (aC (by omega)) ?_
    refine o1 ?_;refine nl ?_;have hst:=oU (x:=nth os2 (i+k)+cr+nth xs i*nth ys k) (by omega) hv2 (by rfl)
    exact⟨(k+1,(nth os2 (i+k)+cr+nth xs i*nth ys k)/65536,os2.set (i+k) ((nth os2 (i+k)+cr+nth xs i*nth ys k)%65536)),by dsimp only;omega,⟨by dsimp only;omega,hol2.set _ (Nat.mod_lt _ (by omega)),by rw[List.length_set];exact hos2,hst,by dsimp only;omega⟩,aN h0 [0] _ _ (by decide) ⟨rfl,rfl,rfl,rfl,rfl,rfl,trivial⟩ ⟨lU rfl rfl rfl,rfl⟩⟩
   refine sk ?_;refine sq ?_;refine rl ?_;(iterate 4 refine o1 ?_);refine WL.cast (t:=59) (u':=.int .i64 ((i+k:Nat):Int)) rfl (aC (by omega)) ?_
   refine o1 ?_;refine o1 ?_;refine WL.cast (t:=61) (u':=.int .i64 (((nth os2 (i+k)+cr)%65536:Nat):Int)) rfl (aC (kG _ 65536)) ?_;refine o1 ?_
   refine Dz (rU os2 (k:=i+k) (v:=(nth os2 (i+k)+cr)%65536) (by omega)) (vC os2 (by omega)) ?_
   refine nl ?_;refine rl ?_;refine o1 ?_;refine o1 ?_ (hC:=(gW 65536 (by omega) (by simp only[iE];omega)))
   refine WL.cast (t:=64) (u':=.int .i64 (((nth os2 (i+k)+cr)/65536:Nat):Int)) rfl (aC (fP _ 65536)) ?_;refine o1 ?_;refine nl ?_;refine rl ?_;refine o1 ?_;refine o1 ?_
   refine WL.cast (t:=32) (u':=.int .i64 ((k+1:Nat):Int)) rfl (aC (by omega)) ?_
   refine o1 ?_;refine nl ?_;have hny:nth ys k=0:=eK (by omega)
   have hst:=oU (x:=nth os2 (i+k)+cr) (by omega) hv2 (by rw[hny,Nat.mul_zero,Nat.add_zero])
   exact⟨(k+1,(nth os2 (i+k)+cr)/65536,os2.set (i+k) ((nth os2 (i+k)+cr)%65536)),by dsimp only;omega,⟨by dsimp only;omega,hol2.set _ (Nat.mod_lt _ (by omega)),by rw[List.length_set];exact hos2,hst,by dsimp only;omega⟩,aN h0 [0] _ _ (by decide) ⟨rfl,rfl,rfl,rfl,rfl,rfl,trivial⟩ ⟨lU rfl rfl rfl,rfl⟩⟩
  refine ex ?_;refine rl ?_;refine o1 ?_;refine o1 ?_;refine WL.cast (t:=22) (u':=.int .i64 ((i+1:Nat):Int)) rfl (aC (by omega)) ?_
  refine o1 ?_;refine nl ?_;have hcr0:cr=0:=by omega
  rw[hcr0,Nat.mul_zero,Nat.add_zero,zX (by omega)]at hv2
  exact⟨(i+1,os2),by dsimp only;omega,⟨by dsimp only;omega,hol2,hos2,hv2⟩,aN h0 [0] _ _ (by decide) ⟨rfl,rfl,rfl,rfl,trivial⟩ ⟨lU rfl rfl rfl,rfl⟩⟩
 refine ex ?_;refine sq ?_;refine rl ?_;rw[bP 65536 (by omega)]at hv
 refine WL.sub (xZ (i:=5) (zs':=os) rfl rfl rfl (by omega) rfl) ?_
 refine o1 ?_;refine ca (zT (by omega)) zW ⟨a1 rfl,rfl⟩ (.one (.t (sI false (trim os)))) ?_
 refine o1 ?_;refine nl ?_;refine rt ?_;exact en (.inl rfl) rfl (aZ (.one (.id rfl))) (by decide) (fun h=>by cases h) (by rw[Fn (by omega) hol hv];rfl)
theorem DZ {u v:Nat}(hx:(dg 65536 (u)).length≤4398046511104) (hy:(dg 65536 (v)).length≤4398046511104):aD true Tryz.prog 159 [] [.one (.t (sI false (dg 65536 u))),.one (.t (sI false (dg 65536 v)))] (aP (.one (tv (.bool (decide (u<v)))))):=by
 refine cC Tryz.func159 rfl Tryz.ntmps159 rfl aA rfl fun N w c0 h0=>?_
 refine sq ?_;refine rl ?_;refine o1 ?_;refine nl ?_;refine sq ?_;refine sq ?_;refine rl ?_;(iterate 5 refine o1 ?_);refine nl ?_;refine bM rfl (fun h1=>?_) (fun h1=>?_)
 ·refine sq ?_;refine rl ?_;(iterate 6 refine o1 ?_);refine nl ?_;refine rt ?_
  refine en (.inl rfl) rfl (aZ (cR _)) (by decide) (fun _=>trivial) (congrArg (fun z=>FV.one (tv (.bool z))) ?_)
  exact Xa rfl rfl (by omega)
 refine sk ?_;refine sq ?_;refine sq ?_;refine rl ?_;(iterate 4 refine o1 ?_);refine nl ?_;refine bl ?_
 refine lp (γ:=Nat) (fun k=>cA [(0,.one (.t (sI false (dg 65536 u)))),(1,.one (.t (sI false (dg 65536 v)))),(5,.one (tv (.int .i64 ((k:Nat)-1))))]) (fun k=>([]:List Ob).map some) (fun k=>(∀j,k≤j→nth (dg 65536 (u)) j=nth (dg 65536 (v)) j)∧k≤(dg 65536 (u)).length) (fun k=>k) (dg 65536 (u)).length ⟨fun j hj=>by rw[eK (by omega),eK (by omega)],Nat.le_refl _⟩ (aN h0 [] _ _ (by decide) ⟨rfl,rfl,rfl,trivial⟩ rfl) fun k hk=>?_
 refine sq ?_;refine sq ?_;refine rl ?_;refine o1 ?_;refine o1 ?_;refine nl ?_;refine bM rfl (fun h2=>?_) (fun h2=>?_)
 ·refine sk ?_;refine sq ?_;refine bl ?_;refine sq ?_;refine rd [] (fun i=>[].contains i) mixed ?_
  refine dv 0 ?_;refine dv 1 ?_;refine WD.cast (t:=24) (u':=.int .i64 ((k-1:Nat):Int)) rfl (aC (by omega)) ?_
  refine dv 2 ?_;refine gI 3 ([.v (.int .i64 ((nth (dg 65536 (u)) (k-1):Nat):Int))]) (fG (dg 65536 (u)) (k:=k-1) (by omega)) ?_
  refine dv 4 ?_;refine dv 5 ?_;refine WD.cast (t:=28) (u':=.int .i64 ((k-1:Nat):Int)) rfl (aC (by omega)) ?_
  refine dv 6 ?_;refine gI 7 ([.v (.int .i64 ((nth (dg 65536 (v)) (k-1):Nat):Int))]) (fG (dg 65536 (v)) (k:=k-1) (by omega)) ?_
  refine dv 8 ?_;refine aS ?_;refine bM rfl (fun h3=>?_) (fun h3=>?_)
  ·refine sq ?_;refine rd [] (fun i=>[9].contains i) mixed ?_
   refine dv 0 ?_;refine dv 1 ?_;refine WD.cast (t:=33) (u':=.int .i64 ((k-1:Nat):Int)) rfl (aC (by omega)) ?_
   refine dv 2 ?_;refine gI 3 ([.v (.int .i64 ((nth (dg 65536 (u)) (k-1):Nat):Int))]) (fG (dg 65536 (u)) (k:=k-1) (by omega)) ?_
   refine dv 4 ?_;refine dv 5 ?_;refine WD.cast (t:=37) (u':=.int .i64 ((k-1:Nat):Int)) rfl (aC (by omega)) ?_
   refine dv 6 ?_;refine gI 7 ([.v (.int .i64 ((nth (dg 65536 (v)) (k-1):Nat):Int))]) (fG (dg 65536 (v)) (k:=k-1) (by omega)) ?_
   refine dv 8 ?_;refine eR 9 (by kernel_rfl) rfl rfl aA rfl (by trivial) ?_ (fun h=>by first | rfl | cases h)
   refine aS ?_;refine rt ?_;refine en (.inl rfl) rfl (aZ (cR _)) (by decide) (fun _=>trivial) (congrArg (fun z=>FV.one (tv (.bool z))) ?_)
   exact EA (k:=k-1) (fun j hj=>hk.1 j (by omega)) (by omega)
  refine sk ?_;refine rl ?_;(iterate 3 refine o1 ?_);refine nl ?_
  exact⟨k-1,by omega,⟨fun j hj=>(Nat.eq_or_lt_of_le hj).elim (fun h9=>by rw[←h9];omega) (fun h9=>hk.1 j (by omega)),by omega⟩,aN h0 [] _ _ (by decide) ⟨rfl,rfl,congrArg (fun z=>some (FV.one (tv (.int .i64 z)))) (by omega),trivial⟩ rfl⟩
 refine ex ?_;refine sq ?_;refine rl ?_;refine o1 ?_;refine nl ?_;refine rt ?_
 refine en (.inl rfl) rfl (aZ (cR _)) (by decide) (fun _=>trivial) (congrArg (fun z=>FV.one (tv (.bool z))) ?_)
 have he:=Ry (fun j=>hk.1 j (by omega))
 rw[cE (by omega),cE (by omega)]at he
 rw[he,decide_eq_false (Nat.lt_irrefl v)]
theorem EB {u v n:Nat}(hx:(dg 65536 (u)).length≤1099511627776) (hy:(dg 65536 (v)).length≤1099511627776) (hn:n≤65536) (hnv:n*v≤u):aD false Tryz.prog 144 [] [.one (.t (sI false (dg 65536 u))),.one (.t (sI false (dg 65536 v))),.one (tv (.int .i64 ((n:Nat):Int)))] (aP (.one (.t (sI false (dg 65536 (u-n*v)))))):=by
 refine cC Tryz.func144 rfl Tryz.ntmps144 rfl aA rfl fun N w c0 h0=>?_
 have hlu:=aM (B:=65536) (by omega) u
 have hlv:=aM (B:=65536) (by omega) v
 refine sq ?_;refine rl ?_;refine o1 ?_;refine nl ?_;refine sq ?_;refine rl ?_;refine o1 ?_;refine nl ?_;refine sq ?_;refine rl ?_;refine o1 ?_;refine nl ?_;refine sq ?_;refine sq ?_
 refine rl ?_;refine o1 ?_;refine nl ?_;refine bl ?_
 refine lp (γ:=Nat×Nat×List Nat) (fun s=>cA [(0,.one (.t (sI false (dg 65536 u)))),(1,.one (.t (sI false (dg 65536 v)))),(2,.one (tv (.int .i64 ((n:Nat):Int)))),(7,.one (.sl 0 0 s.1)),(8,.one (tv (.int .i64 ((s.2.1:Nat):Int)))),(9,.one (tv (.int .i64 ((s.1:Nat):Int))))]) (fun s=>[(⟨3,1,(eD s.2.2).map .t⟩:Ob)].map some) (fun s=>s.2.2.length=s.1∧Lim 65536 s.2.2∧vl 65536 s.2.2+n*vl 65536 ((dg 65536 (v)).take s.1)=vl 65536 ((dg 65536 (u)).take s.1)+65536^s.1*s.2.1∧s.2.1≤65536∧s.1≤(dg 65536 (u)).length) (fun s=>(dg 65536 (u)).length-s.1) (0,0,[]) ⟨rfl,Lim.nil,by simp[vl],Nat.zero_le _,Nat.zero_le _⟩ ((nr (i:=7) 0 3 1 rfl rfl rfl rfl).trans (aN h0 [0] _ _ (by decide) ⟨rfl,rfl,rfl,rfl,rfl,rfl,trivial⟩ ⟨aI (l:=[]) rfl,rfl⟩)) ?_
 rintro⟨k,br,os⟩ ⟨hos,hol,hv,hc1,hkm⟩;dsimp only at hos hol hv hc1 hkm⊢;have hn1:=hlu.nth (by omega) k
 have hn2:=hlv.nth (by omega) k
 have hmul:=Nat.mul_le_mul hn (Nat.le_of_lt_succ hn2)
 refine sq ?_;refine sq ?_;refine rl ?_;(iterate 4 refine o1 ?_);refine nl ?_;refine bM rfl (fun h1=>?_) (fun h1=>?_)
 ·refine sk ?_;refine sq ?_;refine bl ?_;refine sq ?_;refine rl ?_;(iterate 3 refine o1 ?_)
  refine dU ([.v (.int .i64 ((nth (dg 65536 (u)) (k):Nat):Int))]) (fG (dg 65536 (u)) (k:=k) (by omega)) ?_
  (iterate 3 refine o1 ?_);refine nl ?_;refine sq ?_;refine sq ?_;refine rl ?_;(iterate 4 refine o1 ?_);refine nl ?_;refine bM rfl (fun h2=>?_) (fun h2=>?_)
  ·refine rl ?_;(iterate 5 refine o1 ?_);refine dU ([.v (.int .i64 ((nth (dg 65536 (v)) (k):Nat):Int))]) (fG (dg 65536 (v)) (k:=k) (by omega)) ?_
   (iterate 3 refine o1 ?_);refine nl ?_;refine sq ?_;refine rl ?_;refine o1 ?_;refine nl ?_;refine sq ?_;refine sq ?_;refine rl ?_;refine o1 ?_;refine o1 ?_;refine nl ?_
   refine bM rfl (fun h3=>?_) (fun h3=>?_)
   ·refine sq ?_;refine rl ?_;refine o1 ?_;refine o1 ?_
    refine WL.cast (t:=38) (u':=.int .i64 ((65535+n*nth (dg 65536 (v)) k+br-nth (dg 65536 (u)) k:Nat):Int)) rfl (aC (by omega)) ?_
    refine o1 ?_ (hC:=(gW 65536 (by omega) (by simp only[iE];omega)))
    refine WL.cast (t:=39) (u':=.int .i64 (((65535+n*nth (dg 65536 (v)) k+br-nth (dg 65536 (u)) k)/65536:Nat):Int)) rfl (aC (fP _ 65536)) ?_;refine o1 ?_;refine nl ?_
    refine rl ?_;(iterate 5 refine o1 ?_);refine nl ?_;refine rl ?_;refine o1 ?_;refine o1 ?_
    refine WL.cast (t:=45) (u':=.int .i64 ((nth (dg 65536 (u)) k+65536*((65535+n*nth (dg 65536 (v)) k+br-nth (dg 65536 (u)) k)/65536)-br-n*nth (dg 65536 (v)) k:Nat):Int)) rfl (aC (by omega)) ?_
    refine bs 1 ?_;refine jE (j:=2) aA rfl rfl rfl rfl (.sl rfl (by rw[List.length_map,gZ,hos];omega)) (.sl rfl rfl rfl) rfl rfl rfl (by omega) (by omega) ?_
    refine o1 ?_;refine nl ?_;refine rl ?_;refine o1 ?_;refine o1 ?_;refine WL.cast (t:=16) (u':=.int .i64 ((k+1:Nat):Int)) rfl (aC (by omega)) ?_
    refine o1 ?_;refine nl ?_
    have hst:=qT (d:=nth (dg 65536 (u)) k+65536*((65535+n*nth (dg 65536 (v)) k+br-nth (dg 65536 (u)) k)/65536)-br-n*nth (dg 65536 (v)) k) (br:=br) (br':=(65535+n*nth (dg 65536 (v)) k+br-nth (dg 65536 (u)) k)/65536) hos hv (by omega)
    exact⟨(k+1,(65535+n*nth (dg 65536 (v)) k+br-nth (dg 65536 (u)) k)/65536,os++[nth (dg 65536 (u)) k+65536*((65535+n*nth (dg 65536 (v)) k+br-nth (dg 65536 (u)) k)/65536)-br-n*nth (dg 65536 (v)) k]),by dsimp only;omega,⟨by simp[hos],hol.append (Lim.cons (by omega) Lim.nil),hst,by dsimp only;omega,by dsimp only;omega⟩,aN h0 [2] _ _ (by decide) ⟨rfl,rfl,rfl,rfl,rfl,rfl,trivial⟩ ⟨lU rfl (hG _ [nth (dg 65536 (u)) k+65536*((65535+n*nth (dg 65536 (v)) k+br-nth (dg 65536 (u)) k)/65536)-br-n*nth (dg 65536 (v)) k]) rfl,rfl⟩⟩
   refine sk ?_;refine rl ?_;refine o1 ?_;refine o1 ?_;refine WL.cast (t:=45) (u':=.int .i64 ((nth (dg 65536 (u)) k-br-n*nth (dg 65536 (v)) k:Nat):Int)) rfl (aC (by omega)) ?_
   refine bs 1 ?_;refine jE (j:=2) aA rfl rfl rfl rfl (.sl rfl (by rw[List.length_map,gZ,hos];omega)) (.sl rfl rfl rfl) rfl rfl rfl (by omega) (by omega) ?_
   refine o1 ?_;refine nl ?_;refine rl ?_;refine o1 ?_;refine o1 ?_;refine WL.cast (t:=16) (u':=.int .i64 ((k+1:Nat):Int)) rfl (aC (by omega)) ?_
   refine o1 ?_;refine nl ?_;have hst:=qT (d:=nth (dg 65536 (u)) k-br-n*nth (dg 65536 (v)) k) (br:=br) (br':=0) hos hv (by omega)
   exact⟨(k+1,0,os++[nth (dg 65536 (u)) k-br-n*nth (dg 65536 (v)) k]),by dsimp only;omega,⟨by simp[hos],hol.append (Lim.cons (by omega) Lim.nil),hst,by dsimp only;omega,by dsimp only;omega⟩,aN h0 [2] _ _ (by decide) ⟨rfl,rfl,rfl,rfl,rfl,rfl,trivial⟩ ⟨lU rfl (hG _ [nth (dg 65536 (u)) k-br-n*nth (dg 65536 (v)) k]) rfl,rfl⟩⟩
  refine sk ?_;refine sq ?_;refine rl ?_;refine o1 ?_;refine nl ?_;refine sq ?_;refine sq ?_;refine rl ?_;refine o1 ?_;refine o1 ?_;refine nl ?_
  refine bM rfl (fun h4=>?_) (fun h4=>?_)
  ·refine sq ?_;refine rl ?_;refine o1 ?_;refine o1 ?_;refine WL.cast (t:=38) (u':=.int .i64 ((65535+br-nth (dg 65536 (u)) k:Nat):Int)) rfl (aC (by omega)) ?_
   refine o1 ?_ (hC:=(gW 65536 (by omega) (by simp only[iE];omega)))
   refine WL.cast (t:=39) (u':=.int .i64 (((65535+br-nth (dg 65536 (u)) k)/65536:Nat):Int)) rfl (aC (fP _ 65536)) ?_;refine o1 ?_;refine nl ?_;refine rl ?_
   (iterate 5 refine o1 ?_);refine nl ?_;refine rl ?_;refine o1 ?_;refine o1 ?_
   refine WL.cast (t:=45) (u':=.int .i64 ((nth (dg 65536 (u)) k+65536*((65535+br-nth (dg 65536 (u)) k)/65536)-br:Nat):Int)) rfl (aC (by omega)) ?_
   refine bs 1 ?_;refine jE (j:=2) aA rfl rfl rfl rfl (.sl rfl (by rw[List.length_map,gZ,hos];omega)) (.sl rfl rfl rfl) rfl rfl rfl (by omega) (by omega) ?_
   refine o1 ?_;refine nl ?_;refine rl ?_;refine o1 ?_;refine o1 ?_;refine WL.cast (t:=16) (u':=.int .i64 ((k+1:Nat):Int)) rfl (aC (by omega)) ?_
   refine o1 ?_;refine nl ?_;have hny:nth (dg 65536 (v)) k=0:=eK (by omega)
   have hst:=qT (d:=nth (dg 65536 (u)) k+65536*((65535+br-nth (dg 65536 (u)) k)/65536)-br) (br:=br) (br':=(65535+br-nth (dg 65536 (u)) k)/65536) hos hv (by rw[hny,Nat.mul_zero];omega)
   exact⟨(k+1,(65535+br-nth (dg 65536 (u)) k)/65536,os++[nth (dg 65536 (u)) k+65536*((65535+br-nth (dg 65536 (u)) k)/65536)-br]),by dsimp only;omega,⟨by simp[hos],hol.append (Lim.cons (by omega) Lim.nil),hst,by dsimp only;omega,by dsimp only;omega⟩,aN h0 [2] _ _ (by decide) ⟨rfl,rfl,rfl,rfl,rfl,rfl,trivial⟩ ⟨lU rfl (hG _ [nth (dg 65536 (u)) k+65536*((65535+br-nth (dg 65536 (u)) k)/65536)-br]) rfl,rfl⟩⟩
  refine sk ?_;refine rl ?_;refine o1 ?_;refine o1 ?_;refine WL.cast (t:=45) (u':=.int .i64 ((nth (dg 65536 (u)) k-br:Nat):Int)) rfl (aC (by omega)) ?_
  refine bs 1 ?_;refine jE (j:=2) aA rfl rfl rfl rfl (.sl rfl (by rw[List.length_map,gZ,hos];omega)) (.sl rfl rfl rfl) rfl rfl rfl (by omega) (by omega) ?_
  refine o1 ?_;refine nl ?_;refine rl ?_;refine o1 ?_;refine o1 ?_;refine WL.cast (t:=16) (u':=.int .i64 ((k+1:Nat):Int)) rfl (aC (by omega)) ?_
  refine o1 ?_;refine nl ?_;have hny:nth (dg 65536 (v)) k=0:=eK (by omega)
  have hst:=qT (d:=nth (dg 65536 (u)) k-br) (br:=br) (br':=0) hos hv (by rw[hny,Nat.mul_zero];omega)
  exact⟨(k+1,0,os++[nth (dg 65536 (u)) k-br]),by dsimp only;omega,⟨by simp[hos],hol.append (Lim.cons (by omega) Lim.nil),hst,by dsimp only;omega,by dsimp only;omega⟩,aN h0 [2] _ _ (by decide) ⟨rfl,rfl,rfl,rfl,rfl,rfl,trivial⟩ ⟨lU rfl (hG _ [nth (dg 65536 (u)) k-br]) rfl,rfl⟩⟩
 refine ex ?_;refine sq ?_;refine rl ?_;have hve:vl 65536 os=u-n*v:=Xb rfl (by omega) hol hv hnv
 refine WL.sub (xZ (i:=7) (zs':=os) rfl rfl rfl (by omega) rfl) ?_
 refine o1 ?_;refine ca (zT (by omega)) zW ⟨a1 rfl,rfl⟩ (.one (.t (sI false (trim os)))) ?_
 refine o1 ?_;refine nl ?_;refine rt ?_;exact en (.inl rfl) rfl (aZ (.one (.id rfl))) (by decide) (fun h=>by cases h) (by rw[Fn (by omega) hol hve];rfl)
theorem Xc {u v:Nat}(hx:(dg 65536 (u)).length≤1099511627776) (hy:(dg 65536 (v)).length≤1099511627776) (huv:u<65536*v):aD true Tryz.prog 143 [] [.one (.t (sI false (dg 65536 u))),.one (.t (sI false (dg 65536 v)))] (aP (.one (tv (.int .i64 ((u/v:Nat):Int))))):=by
 refine cC Tryz.func143 rfl Tryz.ntmps143 rfl aA rfl fun N w c0 h0=>?_
 refine sq ?_;refine rl ?_;refine o1 ?_;refine nl ?_;refine sq ?_;refine rl ?_;refine o1 ?_;refine o1 ?_;refine nl ?_;refine sq ?_;refine bl ?_
 refine lp (γ:=Nat×Nat) (fun s=>cA [(0,.one (.t (sI false (dg 65536 u)))),(1,.one (.t (sI false (dg 65536 v)))),(5,.one (tv (.int .i64 ((s.1:Nat):Int)))),(6,.one (tv (.int .i64 ((s.2:Nat):Int))))]) (fun s=>([]:List Ob).map some) (fun s=>s.1*v≤u∧u<s.2*v∧s.1<s.2∧s.2≤65536) (fun s=>s.2-s.1) (0,65536) ⟨by simp,huv,by decide,Nat.le_refl _⟩ (aN h0 [] _ _ (by decide) ⟨rfl,rfl,rfl,rfl,trivial⟩ rfl) ?_
 rintro⟨lo,hi⟩ ⟨h91,h92,h93,h94⟩;dsimp only at h91 h92 h93 h94⊢;refine sq ?_;refine sq ?_;refine rl ?_;(iterate 3 refine o1 ?_)
 refine WL.cast (t:=10) (u':=.int .i64 ((hi-lo:Nat):Int)) rfl (aC (by omega)) ?_
 refine o1 ?_;refine nl ?_;refine bM rfl (fun h1=>?_) (fun h1=>?_)
 ·refine sk ?_;refine bl ?_;refine sq ?_;refine rl ?_;(iterate 3 refine o1 ?_);refine WL.cast (t:=14) (u':=.int .i64 ((lo+hi:Nat):Int)) rfl (aC (by omega)) ?_
  refine o1 ?_ (hC:=(gW 2 (by omega) (by simp only[iE];omega)))
  refine WL.cast (t:=15) (u':=.int .i64 (((lo+hi)/2:Nat):Int)) rfl (aC (fP _ 2)) ?_;refine o1 ?_;refine nl ?_;refine sq ?_;refine rl ?_;(iterate 3 refine o1 ?_)
  refine bs 0 ?_;refine WL.sub (xZ (i:=19) (zs:=[(lo+hi)/2]) (zs':=[(lo+hi)/2]) rfl rfl rfl rfl rfl) ?_;have h1l:[(lo+hi)/2].length=1:=rfl
  have hn2:=Gs (xs:=(dg 65536 (v))) (ys:=[(lo+hi)/2]) (aM (by omega) _) (Lim.cons (d:=(lo+hi)/2) (by omega) Lim.nil)
  refine ca (Wz (by omega) (by omega) (aM (by omega) _) (Lim.cons (d:=(lo+hi)/2) (by omega) Lim.nil)) OO ⟨a1 rfl,a1 rfl,rfl⟩ (.one (.t (sI false (dg 65536 (vl 65536 (dg 65536 (v))*vl 65536 [(lo+hi)/2]))))) ?_
  refine ca (DZ (by omega) (by omega)) OP ⟨a1 rfl,a1 rfl,rfl⟩ (.one (tv (.bool (decide (u<vl 65536 (dg 65536 (v))*vl 65536 [(lo+hi)/2]))))) ?_
  refine nl ?_;refine bM rfl (fun h3=>?_) (fun h3=>?_)
  ·refine rl ?_;refine o1 ?_;refine o1 ?_;refine nl ?_;rw[cE (by omega),rP,Nat.mul_comm]at h3
   exact⟨(lo,(lo+hi)/2),by dsimp only;omega,⟨by dsimp only;omega,by dsimp only;omega,by dsimp only;omega,by dsimp only;omega⟩,aN h0 [] _ _ (by decide) ⟨rfl,rfl,rfl,rfl,trivial⟩ rfl⟩
  refine rl ?_;refine o1 ?_;refine o1 ?_;refine nl ?_;rw[cE (by omega),rP,Nat.mul_comm]at h3
  exact⟨((lo+hi)/2,hi),by dsimp only;omega,⟨by dsimp only;omega,by dsimp only;omega,by dsimp only;omega,by dsimp only;omega⟩,aN h0 [] _ _ (by decide) ⟨rfl,rfl,rfl,rfl,trivial⟩ rfl⟩
 refine ex ?_;refine sq ?_;refine rl ?_;refine o1 ?_;refine o1 ?_;refine nl ?_;refine rt ?_
 exact en (.inl rfl) rfl (aZ (cR _)) (by decide) (fun _=>trivial) (congrArg (fun z=>FV.one (tv (.int .i64 ((z:Nat):Int)))) (Rz h91 h92 (by omega)).symm)
theorem Sa {xs zs:List Nat}(hx:xs.length≤4398046511104) (hz:trim xs=zs):aD false Tryz.prog 138 [] [.one (.t (sI false xs))] (aP (.one (.t (sI false zs)))):=by
 subst hz
 exact zT hx
theorem Gt {u v:Nat}(hx:(dg 65536 (u)).length≤549755813888) (hy:(dg 65536 (v)).length≤549755813888) (hvp:0<v):aD false Tryz.prog 122 [] [.one (.t (sI false (dg 65536 u))),.one (.t (sI false (dg 65536 v)))] (aP (.tup [.one (.t (sI false (dg 65536 (u/v)))),.one (.t (sI false (dg 65536 (u%v))))])):=by
 refine cC Tryz.func122 rfl Tryz.ntmps122 rfl aA rfl fun N w c0 h0=>?_
 have hlu:=aM (B:=65536) (by omega) u
 refine sq ?_;refine rl ?_;refine o1 ?_;refine o1 ?_;refine nl ?_;refine sq ?_;refine rl ?_;refine o1 ?_;refine o1 ?_
 refine WL.cast (t:=11) (u':=.int .i64 (((dg 65536 (u)).length:Nat):Int)) rfl (aC rfl) ?_;refine mk (m:=(dg 65536 (u)).length) 0 (by omega) (Gp _) ?_
 refine o1 ?_;refine nl ?_;refine sq ?_;refine rl ?_;refine o1 ?_;refine nl ?_;refine sq ?_;refine sq ?_;refine rl ?_;(iterate 4 refine o1 ?_);refine nl ?_;refine bl ?_
 refine lp (γ:=Nat×List Nat×Nat) (fun s=>cA [(0,.one (.t (sI false (dg 65536 u)))),(1,.one (.t (sI false (dg 65536 v)))),(6,.one (.sl 0 0 (dg 65536 (u)).length)),(7,.one (.t (sI false (dg 65536 s.2.2)))),(8,.one (tv (.int .i64 ((s.1:Nat)-1))))]) (fun s=>[(⟨3,1,(eD s.2.1).map .t⟩:Ob)].map some) (fun s=>s.2.1.length=(dg 65536 (u)).length∧Lim 65536 s.2.1∧vl 65536 ((dg 65536 (u)).drop s.1)=v*vl 65536 (s.2.1.drop s.1)+s.2.2∧s.2.2<v∧s.1≤(dg 65536 (u)).length) (fun s=>s.1) ((dg 65536 (u)).length,List.replicate (dg 65536 (u)).length 0,0) ⟨List.length_replicate,Lim.replicate (by omega) _,by dsimp only;rw[List.drop_of_length_le (Nat.le_refl _),List.drop_of_length_le (by rw[List.length_replicate];exact Nat.le_refl _)];simp[vl],hvp,Nat.le_refl _⟩ (((nr (i:=7) 1 3 1 rfl rfl rfl rfl).trans (xZ (i:=7) (k:=1) (zs:=[]) (zs':=dg 65536 0) rfl rfl rfl rfl (mS _).symm)).trans (aN h0 [0] _ _ (by decide) ⟨rfl,rfl,rfl,rfl,rfl,trivial⟩ ⟨lU rfl rfl rfl,rfl⟩)) ?_
 rintro⟨k,os,r⟩ ⟨hos,hol,hv,hr,hkm⟩;dsimp only at hos hol hv hr hkm⊢;have hrl:=cY (B:=65536) (by omega) (Nat.le_of_lt hr)
 have hau:=hlu.nth (by omega) (k-1)
 have hce:=Xd (a:=nth (dg 65536 (u)) (k-1)) hau hr
 have hql:(nth (dg 65536 (u)) (k-1)+65536*r)/v<65536:=(Nat.div_lt_iff_lt_mul hvp).2 (by omega)
 refine sq ?_;refine sq ?_;refine rl ?_;refine o1 ?_;refine o1 ?_;refine nl ?_;refine bM rfl (fun h1=>?_) (fun h1=>?_)
 ·refine sk ?_;refine sq ?_;refine bl ?_;refine sq ?_;refine rl ?_;refine o1 ?_;refine o1 ?_;refine WL.cast (t:=21) (u':=.int .i64 ((k-1:Nat):Int)) rfl (aC (by omega)) ?_
  refine o1 ?_;refine dU ([.v (.int .i64 ((nth (dg 65536 (u)) (k-1):Nat):Int))]) (fG (dg 65536 (u)) (k:=k-1) (by omega)) ?_
  refine bs 1 ?_;refine o1 ?_;refine nl ?_;refine sq ?_;refine rl ?_;refine o1 ?_;refine o1 ?_
  refine jE (j:=2) aA rfl rfl rfl rfl (.sl rfl (rfl)) .fz (IZ _) (Xe _) rfl (by omega) (by omega) ?_
  refine WL.sub (xZ (i:=27) (k:=2) (zs:=[nth (dg 65536 (u)) (k-1)]++dg 65536 r) (zs':=[nth (dg 65536 (u)) (k-1)]++dg 65536 r) rfl rfl (congrArg (fun l=>some (⟨3,1,l⟩:Ob)) (hG [nth (dg 65536 (u)) (k-1)] (dg 65536 r))) (by rw[List.length_append];rfl) rfl) ?_
  refine ca (Sa (zs:=(dg 65536 (nth (dg 65536 (u)) (k-1)+65536*r))) (by rw[List.length_append];exact Nat.le_trans (Nat.add_le_add_left hrl 1) (by omega)) (vD (by omega))) zW ⟨a1 rfl,rfl⟩ (.one (.t (sI false (dg 65536 (nth (dg 65536 (u)) (k-1)+65536*r))))) ?_
  refine o1 ?_;refine nl ?_;refine sq ?_;refine rl ?_;refine o1 ?_;refine o1 ?_;refine WL.cast (t:=30) (u':=.int .i64 ((k-1:Nat):Int)) rfl (aC (by omega)) ?_
  refine o1 ?_;refine o1 ?_;refine ca (Xc (by omega) (by omega) (by omega)) OQ ⟨a1 rfl,a1 rfl,rfl⟩ (.one (tv (.int .i64 (((nth (dg 65536 (u)) (k-1)+65536*r)/v:Nat):Int)))) ?_
  refine o1 ?_;refine Dz (rU os (k:=k-1) (v:=(nth (dg 65536 (u)) (k-1)+65536*r)/v) (by omega)) (vC os (by omega)) ?_
  refine nl ?_;refine rl ?_;(iterate 4 refine o1 ?_);refine WL.cast (t:=38) (u':=.int .i64 ((k-1:Nat):Int)) rfl (aC (by omega)) ?_
  refine o1 ?_;refine Lu (Gr (os.set (k-1) ((nth (dg 65536 (u)) (k-1)+65536*r)/v)) (k:=k-1) (by rw[List.length_set];omega)) ?_
  refine WL.cast (t:=40) (u':=.int .i64 (((nth (dg 65536 (u)) (k-1)+65536*r)/v:Nat):Int)) rfl (aC (by rw[Gu (by omega)])) ?_
  refine ca (EB (by omega) (by omega) (by omega) (Nat.div_mul_le_self _ _)) OT ⟨a1 rfl,a1 rfl,a1 rfl,rfl⟩ (.one (.t (sI false (dg 65536 (nth (dg 65536 (u)) (k-1)+65536*r-(nth (dg 65536 (u)) (k-1)+65536*r)/v*v))))) ?_
  refine o1 ?_;refine nl ?_;refine rl ?_;(iterate 3 refine o1 ?_);refine nl ?_
  have hst:=Pi (k:=k) (q:=(nth (dg 65536 (u)) (k-1)+65536*r)/v) (by omega) (by omega) (by omega) hv rfl rfl
  have hmod:=Nat.mod_lt (nth (dg 65536 (u)) (k-1)+65536*r) hvp
  have hdm:=Nat.div_add_mod' (nth (dg 65536 (u)) (k-1)+65536*r) v
  exact⟨(k-1,os.set (k-1) ((nth (dg 65536 (u)) (k-1)+65536*r)/v),nth (dg 65536 (u)) (k-1)+65536*r-(nth (dg 65536 (u)) (k-1)+65536*r)/v*v),by dsimp only;omega,⟨by rw[List.length_set];exact hos,hol.set _ hql,hst,by dsimp only;omega,by dsimp only;omega⟩,aN h0 [0] _ _ (by decide) ⟨rfl,rfl,rfl,rfl,congrArg (fun z=>some (FV.one (tv (.int .i64 z)))) (by omega),trivial⟩ ⟨lU rfl rfl rfl,rfl⟩⟩
 refine ex ?_;refine sq ?_;refine rl ?_;have hk0:k=0:=by omega
 rw[hk0,List.drop_zero,List.drop_zero,cE (by omega)]at hv
 obtain⟨hq1,hq2⟩:=Sb hv hr
 refine WL.sub (xZ (i:=6) (zs':=os) rfl rfl rfl (by omega) rfl) ?_
 refine o1 ?_;refine ca (Sa (zs:=(dg 65536 (u/v))) (by omega) (by rw[Fn (by omega) hol rfl,hq1])) zW ⟨a1 rfl,rfl⟩ (.one (.t (sI false (dg 65536 (u/v))))) ?_
 (iterate 3 refine o1 ?_);refine nl ?_;refine rt ?_;exact en (.inl rfl) rfl (uP (.cons (.one (.id rfl)) (.cons (.one (.id rfl)) .nil))) (by decide) (fun h=>by cases h) (by rw[hq2];rfl)
theorem Sc {a b:Zi}{k k':Int}(ha:Zn a k) (hb:Zn b k'):aD true Tryz.prog 93 [] [gF a,gF b] (aP (kO ((Int.gcd k k':Nat):Int))):=by
 refine cC Tryz.func93 rfl Tryz.ntmps93 rfl aA rfl fun N w c0 h0=>?_
 have hkl:=ha.len
 have hkl':=hb.len
 refine sq ?_;refine rl ?_;refine bx 0 ?_;refine bx 1 ?_;refine al 2 ?_;refine nl ?_;refine sq ?_;refine rd [0,1,2] (fun i=>[9].contains i) mixed ?_
 refine aR 0 ?_;refine aR 4 ?_;refine bB 1 rfl (iO ha) nO ⟨aG rfl,rfl⟩ (kF (k)) ?_;refine df 2 ?_
 have hn1:=fB (v:=vl 4294967296 (dg 4294967296 (k).natAbs)) (L:=(dg 4294967296 (k).natAbs).length) (by rw[cE (by omega)];exact Nat.le_refl _)
 refine bB 3 rfl (qS (by omega) (aM (by omega) _)) Fo ⟨a1 rfl,rfl⟩ (.one (.t (sI false (dg 65536 (vl 4294967296 (dg 4294967296 (k).natAbs)))))) ?_
 refine bB 5 rfl (iO hb) nO ⟨aG rfl,rfl⟩ (kF (k')) ?_;refine df 6 ?_
 have hn2:=fB (v:=vl 4294967296 (dg 4294967296 (k').natAbs)) (L:=(dg 4294967296 (k').natAbs).length) (by rw[cE (by omega)];exact Nat.le_refl _)
 refine bB 7 rfl (qS (by omega) (aM (by omega) _)) Fo ⟨a1 rfl,rfl⟩ (.one (.t (sI false (dg 65536 (vl 4294967296 (dg 4294967296 (k').natAbs)))))) ?_
 refine eR 8 (by kernel_rfl) rfl rfl aA rfl (by trivial) ?_ (fun h=>by first | rfl | cases h)
 refine eR 9 (by kernel_rfl) rfl rfl aA rfl (by trivial) ?_ (fun h=>by first | rfl | cases h)
 refine aS ?_;refine sq ?_;refine bl ?_
 refine lp (γ:=Nat×Nat) (fun s=>cA [(4,.one (.pt 0 0)),(5,.one (.t (sI false (dg 65536 s.1)))),(6,.one (.t (sI false (dg 65536 s.2))))]) (fun s=>[(⟨50,0,[tv (.bool false),tv (.slice none 0 0)]⟩:Ob)].map some) (fun s=>Nat.gcd s.1 s.2=Int.gcd k k'∧(dg 65536 s.1).length≤549755813888∧(dg 65536 s.2).length≤549755813888) (fun s=>s.2) (vl 4294967296 (dg 4294967296 (k).natAbs),vl 4294967296 (dg 4294967296 (k').natAbs)) ⟨by dsimp only;rw[cE (by omega),cE (by omega)];rfl,by dsimp only;omega,by dsimp only;omega⟩ (aN h0 [2] _ _ (by decide) ⟨rfl,rfl,rfl,trivial⟩ ⟨oe rfl rfl,rfl⟩) ?_
 rintro⟨ga,gb⟩ ⟨hg,hga,hgb⟩;dsimp only at hg hga hgb⊢;have hbz:gb=0↔(dg 65536 gb).length=0:=by rw[List.length_eq_zero_iff,fQ (by omega)]
 refine sq ?_;refine sq ?_;refine rl ?_;(iterate 3 refine o1 ?_);refine nl ?_;refine bM rfl (fun h3=>?_) (fun h3=>?_)
 ·refine sk ?_;refine bl ?_;refine sq ?_;have hb0:0<gb:=by omega
  refine rl ?_;refine o1 ?_;refine o1 ?_;have hn4:=cY (B:=65536) (by omega) (Nat.div_le_self (ga) (gb))
  have hn5:=cY (B:=65536) (by omega) (Nat.mod_le (ga) (gb))
  refine ca (Gt (by omega) (by omega) hb0) BN ⟨a1 rfl,a1 rfl,rfl⟩ (.tup [.one (.t (sI false (dg 65536 ((ga)/(gb))))),.one (.t (sI false (dg 65536 ((ga)%(gb)))))]) ?_
  (iterate 5 refine o1 ?_);refine nl ?_;refine sq ?_;refine rl ?_;refine o1 ?_;refine o1 ?_;refine nl ?_;refine rl ?_;refine o1 ?_;refine o1 ?_;refine nl ?_;have hmod:=Nat.mod_lt ga hb0
  have hml:=cY (B:=65536) (by omega) (Nat.le_of_lt hmod)
  exact⟨(gb,ga%gb),by dsimp only;omega,⟨by dsimp only;rw[←hg,Nat.gcd_comm gb (ga%gb),←Nat.gcd_rec,Nat.gcd_comm],by dsimp only;omega,by dsimp only;omega⟩,aN h0 [0] _ _ (by decide) ⟨rfl,rfl,rfl,trivial⟩ ⟨oe rfl rfl,rfl⟩⟩
 refine ex ?_;refine sq ?_;have hb00:gb=0:=by omega
 rw[hb00,Nat.gcd_zero_right]at hg;refine rl ?_;refine o1 ?_;have hn6:=pQ (ga)
 refine ca (yP (zs:=(dg 4294967296 (ga))) (by omega) (aM (by omega) _) (zY _)) fC ⟨a1 rfl,rfl⟩ (.one (.t (sU false (dg 4294967296 (ga))))) ?_
 refine iY 1 (lL (K:=((Int.gcd k k':Nat):Int)) (by omega) (aM (by omega) _) (by rw[cE (by omega),hg];rfl)) cT ⟨a1 rfl,a1 rfl,rfl⟩ ?_
 refine st ?_;refine nl ?_;refine rt ?_
 exact en (.inl rfl) rfl (aZ (.agg (.cons (.id rfl) (.cons (.sl (trs:=aY (dg 4294967296 (((Int.gcd k k':Nat):Int)).natAbs)) rfl rfl (bV _) (bR _)) .nil)))) (by decide) (fun _=>eS (((Int.gcd k k':Nat):Int))) rfl
theorem Sd {a b:Zi}{k k':Int}(ha:Zn a k) (hb:Zn b k'):aD false Tryz.prog 109 [] [gF a,gF b] (aP (.tup [kF (if k'=0 then 0 else k.fdiv k'),kF (if k'=0 then 0 else k.fmod k'),.one (tv (.int .i64 (if k'=0 then 20 else 0)))])):=by
 refine cC Tryz.func109 rfl Tryz.ntmps109 rfl aA rfl fun N w c0 h0=>?_
 have hkl:=ha.len
 have hkl':=hb.len
 refine sq ?_;refine rl ?_;refine bx 0 ?_;refine bx 1 ?_;refine al 2 ?_;refine al 3 ?_;refine o1 ?_;refine nl ?_;refine sq ?_;refine rl ?_;refine ld ?_
 refine ca (iO ha) nO ⟨aG rfl,rfl⟩ (kF (k)) ?_;refine st ?_;refine nl ?_;refine sq ?_;refine rl ?_;refine ld ?_;refine ca (iO hb) nO ⟨aG rfl,rfl⟩ (kF (k')) ?_;refine st ?_
 refine nl ?_;refine sq ?_;refine sq ?_;refine rl ?_;refine o1 ?_;refine ld ?_;refine o1 ?_;refine o1 ?_;refine nl ?_;refine bM rfl (fun h1=>?_) (fun h1=>?_)
 ·refine sq ?_;refine rl ?_;refine o1 ?_;refine o1 ?_;refine st ?_;refine st ?_;refine o1 ?_;refine nl ?_;refine rt ?_;have hk0:k'=0:=by have:=La (k:=k') (by omega);omega
  exact en (.inl rfl) rfl (yQ (.cons (.agg (.cons (.id rfl) (.cons .nilf .nil))) (.cons (.agg (.cons (.id rfl) (.cons .nilf .nil))) (.cons (cR _) .nil)))) (by decide) (fun h=>by cases h) (by rw[if_pos hk0,if_pos hk0,if_pos hk0,←Cb];rfl)
 refine sk ?_;refine sq ?_;have hkn:k'≠0:=Se (by omega)
 have hva:0<vl 4294967296 (dg 4294967296 (k').natAbs):=by rw[cE (by omega)];omega
 refine rd [0,1,2,3] (fun i=>[11].contains i) mixed ?_
 refine dv 0 ?_;refine aR 1 ?_;refine dv 3 ?_;refine aR 4 ?_
 have hn2:=fB (v:=vl 4294967296 (dg 4294967296 (k).natAbs)) (L:=(dg 4294967296 (k).natAbs).length) (by rw[cE (by omega)];exact Nat.le_refl _)
 refine bB 2 rfl (qS (by omega) (aM (by omega) _)) Fo ⟨a1 rfl,rfl⟩ (.one (.t (sI false (dg 65536 (vl 4294967296 (dg 4294967296 (k).natAbs)))))) ?_
 have hn3:=fB (v:=vl 4294967296 (dg 4294967296 (k').natAbs)) (L:=(dg 4294967296 (k').natAbs).length) (by rw[cE (by omega)];exact Nat.le_refl _)
 refine bB 5 rfl (qS (by omega) (aM (by omega) _)) Fo ⟨a1 rfl,rfl⟩ (.one (.t (sI false (dg 65536 (vl 4294967296 (dg 4294967296 (k').natAbs)))))) ?_
 have hn4:=cY (B:=65536) (by omega) (Nat.div_le_self (vl 4294967296 (dg 4294967296 (k).natAbs)) (vl 4294967296 (dg 4294967296 (k').natAbs)))
 have hn5:=cY (B:=65536) (by omega) (Nat.mod_le (vl 4294967296 (dg 4294967296 (k).natAbs)) (vl 4294967296 (dg 4294967296 (k').natAbs)))
 refine bB 6 rfl (Gt (by omega) (by omega) hva) BN ⟨a1 rfl,a1 rfl,rfl⟩ (.tup [.one (.t (sI false (dg 65536 ((vl 4294967296 (dg 4294967296 (k).natAbs))/(vl 4294967296 (dg 4294967296 (k').natAbs)))))),.one (.t (sI false (dg 65536 ((vl 4294967296 (dg 4294967296 (k).natAbs))%(vl 4294967296 (dg 4294967296 (k').natAbs))))))]) ?_
 refine df 7 ?_;refine df 8 ?_;refine df 9 ?_;refine eR 10 (by kernel_rfl) rfl rfl aA rfl (by trivial) ?_ (fun h=>by first | rfl | cases h)
 refine eR 11 (by kernel_rfl) rfl rfl aA rfl (by trivial) ?_ (fun h=>by first | rfl | cases h)
 refine aS ?_
 refine md (γ:=Unit) (fun _=>cA [(3,.one (.pt 0 0)),(4,.one (.pt 1 0)),(5,.one (.pt 2 0)),(6,.one (tv (.int .i64 0))),(9,.one (.pt 3 0)),(10,.one (.pt 4 0))]) (fun _=>([⟨50,0,[tv (.bool (aE (k'))),.t (sU false (dg 4294967296 (k').natAbs))]⟩,⟨50,0,[tv (.bool false),tv (.slice none 0 0)]⟩,⟨50,0,[tv (.bool false),tv (.slice none 0 0)]⟩,⟨50,0,[tv (.bool (aE (bO (aE k != aE k') (k.natAbs/k'.natAbs)))),.t (sU false (dg 4294967296 (bO (aE k != aE k') (k.natAbs/k'.natAbs)).natAbs))]⟩,⟨50,0,[tv (.bool (aE (bO (aE k) (k.natAbs%k'.natAbs)))),.t (sU false (dg 4294967296 (bO (aE k) (k.natAbs%k'.natAbs)).natAbs))]⟩]:List Ob).map some) (fun _=>True) ?_ fun _ _=>?_
 ·have hnq:=pQ ((vl 4294967296 (dg 4294967296 (k).natAbs))/(vl 4294967296 (dg 4294967296 (k').natAbs)))
  have hLq:=yP (xs:=dg 65536 ((vl 4294967296 (dg 4294967296 (k).natAbs))/(vl 4294967296 (dg 4294967296 (k').natAbs)))) (zs:=dg 4294967296 ((vl 4294967296 (dg 4294967296 (k).natAbs))/(vl 4294967296 (dg 4294967296 (k').natAbs)))) (by omega) (aM (by omega) _) (zY _)
  have hMq:=lL (b:=aE k != aE k') (xs:=dg 4294967296 ((vl 4294967296 (dg 4294967296 (k).natAbs))/(vl 4294967296 (dg 4294967296 (k').natAbs)))) (K:=bO (aE k != aE k') (k.natAbs/k'.natAbs)) (by omega) (aM (by omega) _) (by simp only[cE (B:=4294967296) (by omega)] <;> rfl)
  have hnr:=pQ ((vl 4294967296 (dg 4294967296 (k).natAbs))%(vl 4294967296 (dg 4294967296 (k').natAbs)))
  have hLr:=yP (xs:=dg 65536 ((vl 4294967296 (dg 4294967296 (k).natAbs))%(vl 4294967296 (dg 4294967296 (k').natAbs)))) (zs:=dg 4294967296 ((vl 4294967296 (dg 4294967296 (k).natAbs))%(vl 4294967296 (dg 4294967296 (k').natAbs)))) (by omega) (aM (by omega) _) (zY _)
  have hMr:=lL (b:=aE k) (xs:=dg 4294967296 ((vl 4294967296 (dg 4294967296 (k).natAbs))%(vl 4294967296 (dg 4294967296 (k').natAbs)))) (K:=bO (aE k) (k.natAbs%k'.natAbs)) (by omega) (aM (by omega) _) (by simp only[cE (B:=4294967296) (by omega)] <;> rfl)
  generalize dg 4294967296 ((vl 4294967296 (dg 4294967296 (k).natAbs))/(vl 4294967296 (dg 4294967296 (k').natAbs)))=zq at hLq hMq
  generalize dg 4294967296 ((vl 4294967296 (dg 4294967296 (k).natAbs))%(vl 4294967296 (dg 4294967296 (k').natAbs)))=zr at hLr hMr;refine rd [0,1,2,3] (fun i=>[16].contains i) mixed ?_
  refine dv 0 ?_;refine aR 1 ?_;refine dv 2 ?_;refine aR 3 ?_;refine dv 4 ?_;refine dv 5 ?_;refine dv 8 ?_;refine aR 9 ?_;refine dv 10 ?_
  refine WO.three (i:=6) (j:=13) (m:=14) (by kernel_rfl) ?_ ?_ ?_
  ·refine fA 6 rfl (hLq) fC ⟨a1 rfl,rfl⟩ (.one (.t (sU false zq))) ?_;refine WO.three (i:=7) (j:=13) (m:=14) (by kernel_rfl) ?_ ?_ ?_
   ·refine fA 7 rfl (hMq) cT ⟨a1 rfl,a1 rfl,rfl⟩ (kF (bO (aE k != aE k') (k.natAbs/k'.natAbs))) ?_;refine WO.three (i:=11) (j:=13) (m:=14) (by kernel_rfl) ?_ ?_ ?_
    ·refine fA 11 rfl (hLr) fC ⟨a1 rfl,rfl⟩ (.one (.t (sU false zr))) ?_;refine WO.three (i:=12) (j:=13) (m:=14) (by kernel_rfl) ?_ ?_ ?_
     ·refine fA 12 rfl (hMr) cT ⟨a1 rfl,a1 rfl,rfl⟩ (kF (bO (aE k) (k.natAbs%k'.natAbs))) ?_;refine WO.two (i:=13) (j:=14) (by kernel_rfl) ?_ ?_
      ·refine cP (key:=4) 13 rfl rfl aA rfl ⟨rfl,rfl,rfl,rfl,trivial⟩ ?_;refine gN (key:=5) 14 (by kernel_rfl) rfl rfl aA rfl ⟨rfl,rfl,rfl,rfl,trivial⟩ ?_
       refine bY 15 (by kernel_rfl) rfl rfl aA rfl rfl rfl rfl ⟨rfl,rfl,rfl,rfl,trivial⟩ ?_
       refine dst 16 ?_;refine aS ?_
       exact⟨(),trivial,aN h0 [1,2,3,4,5] _ _ (by decide) ⟨rfl,rfl,rfl,rfl,rfl,rfl,trivial⟩ ⟨oe rfl rfl,oe rfl rfl,oe rfl rfl,oe rfl rfl,oe rfl rfl,rfl⟩⟩
      refine cP (key:=4) 14 rfl rfl aA rfl ⟨rfl,rfl,rfl,rfl,trivial⟩ ?_;refine gN (key:=5) 13 (by kernel_rfl) rfl rfl aA rfl ⟨rfl,rfl,rfl,rfl,trivial⟩ ?_
      refine bY 15 (by kernel_rfl) rfl rfl aA rfl rfl rfl rfl ⟨rfl,rfl,rfl,rfl,trivial⟩ ?_
      refine dst 16 ?_;refine aS ?_
      exact⟨(),trivial,aN h0 [1,2,3,5,4] _ _ (by decide) ⟨rfl,rfl,rfl,rfl,rfl,rfl,trivial⟩ ⟨oe rfl rfl,oe rfl rfl,oe rfl rfl,oe rfl rfl,oe rfl rfl,rfl⟩⟩
     ·refine cP (key:=4) 13 rfl rfl aA rfl ⟨rfl,rfl,rfl,rfl,trivial⟩ ?_;refine WO.two (i:=12) (j:=14) (by kernel_rfl) ?_ ?_
      ·refine fA 12 rfl (hMr) cT ⟨a1 rfl,a1 rfl,rfl⟩ (kF (bO (aE k) (k.natAbs%k'.natAbs))) ?_
       refine gN (key:=5) 14 (by kernel_rfl) rfl rfl aA rfl ⟨rfl,rfl,rfl,rfl,trivial⟩ ?_
       refine bY 15 (by kernel_rfl) rfl rfl aA rfl rfl rfl rfl ⟨rfl,rfl,rfl,rfl,trivial⟩ ?_
       refine dst 16 ?_;refine aS ?_
       exact⟨(),trivial,aN h0 [1,2,3,4,5] _ _ (by decide) ⟨rfl,rfl,rfl,rfl,rfl,rfl,trivial⟩ ⟨oe rfl rfl,oe rfl rfl,oe rfl rfl,oe rfl rfl,oe rfl rfl,rfl⟩⟩
      refine cP (key:=5) 14 rfl rfl aA rfl ⟨rfl,rfl,rfl,rfl,trivial⟩ ?_;refine bB 12 rfl (hMr) cT ⟨a1 rfl,a1 rfl,rfl⟩ (kF (bO (aE k) (k.natAbs%k'.natAbs))) ?_
      refine bY 15 (by kernel_rfl) rfl rfl aA rfl rfl rfl rfl ⟨rfl,rfl,rfl,rfl,trivial⟩ ?_
      refine dst 16 ?_;refine aS ?_
      exact⟨(),trivial,aN h0 [1,2,3,4,5] _ _ (by decide) ⟨rfl,rfl,rfl,rfl,rfl,rfl,trivial⟩ ⟨oe rfl rfl,oe rfl rfl,oe rfl rfl,oe rfl rfl,oe rfl rfl,rfl⟩⟩
     refine cP (key:=4) 14 rfl rfl aA rfl ⟨rfl,rfl,rfl,rfl,trivial⟩ ?_;refine WO.two (i:=12) (j:=13) (by kernel_rfl) ?_ ?_
     ·refine fA 12 rfl (hMr) cT ⟨a1 rfl,a1 rfl,rfl⟩ (kF (bO (aE k) (k.natAbs%k'.natAbs))) ?_
      refine gN (key:=5) 13 (by kernel_rfl) rfl rfl aA rfl ⟨rfl,rfl,rfl,rfl,trivial⟩ ?_
      refine bY 15 (by kernel_rfl) rfl rfl aA rfl rfl rfl rfl ⟨rfl,rfl,rfl,rfl,trivial⟩ ?_
      refine dst 16 ?_;refine aS ?_
      exact⟨(),trivial,aN h0 [1,2,3,5,4] _ _ (by decide) ⟨rfl,rfl,rfl,rfl,rfl,rfl,trivial⟩ ⟨oe rfl rfl,oe rfl rfl,oe rfl rfl,oe rfl rfl,oe rfl rfl,rfl⟩⟩
     refine cP (key:=5) 13 rfl rfl aA rfl ⟨rfl,rfl,rfl,rfl,trivial⟩ ?_;refine bB 12 rfl (hMr) cT ⟨a1 rfl,a1 rfl,rfl⟩ (kF (bO (aE k) (k.natAbs%k'.natAbs))) ?_
     refine bY 15 (by kernel_rfl) rfl rfl aA rfl rfl rfl rfl ⟨rfl,rfl,rfl,rfl,trivial⟩ ?_
     refine dst 16 ?_;refine aS ?_
     exact⟨(),trivial,aN h0 [1,2,3,5,4] _ _ (by decide) ⟨rfl,rfl,rfl,rfl,rfl,rfl,trivial⟩ ⟨oe rfl rfl,oe rfl rfl,oe rfl rfl,oe rfl rfl,oe rfl rfl,rfl⟩⟩
    ·refine cP (key:=4) 13 rfl rfl aA rfl ⟨rfl,rfl,rfl,rfl,trivial⟩ ?_;refine WO.two (i:=11) (j:=14) (by kernel_rfl) ?_ ?_
     ·refine fA 11 rfl (hLr) fC ⟨a1 rfl,rfl⟩ (.one (.t (sU false zr))) ?_;refine WO.two (i:=12) (j:=14) (by kernel_rfl) ?_ ?_
      ·refine fA 12 rfl (hMr) cT ⟨a1 rfl,a1 rfl,rfl⟩ (kF (bO (aE k) (k.natAbs%k'.natAbs))) ?_
       refine gN (key:=5) 14 (by kernel_rfl) rfl rfl aA rfl ⟨rfl,rfl,rfl,rfl,trivial⟩ ?_
       refine bY 15 (by kernel_rfl) rfl rfl aA rfl rfl rfl rfl ⟨rfl,rfl,rfl,rfl,trivial⟩ ?_
       refine dst 16 ?_;refine aS ?_
       exact⟨(),trivial,aN h0 [1,2,3,4,5] _ _ (by decide) ⟨rfl,rfl,rfl,rfl,rfl,rfl,trivial⟩ ⟨oe rfl rfl,oe rfl rfl,oe rfl rfl,oe rfl rfl,oe rfl rfl,rfl⟩⟩
      refine cP (key:=5) 14 rfl rfl aA rfl ⟨rfl,rfl,rfl,rfl,trivial⟩ ?_;refine bB 12 rfl (hMr) cT ⟨a1 rfl,a1 rfl,rfl⟩ (kF (bO (aE k) (k.natAbs%k'.natAbs))) ?_
      refine bY 15 (by kernel_rfl) rfl rfl aA rfl rfl rfl rfl ⟨rfl,rfl,rfl,rfl,trivial⟩ ?_
      refine dst 16 ?_;refine aS ?_
      exact⟨(),trivial,aN h0 [1,2,3,4,5] _ _ (by decide) ⟨rfl,rfl,rfl,rfl,rfl,rfl,trivial⟩ ⟨oe rfl rfl,oe rfl rfl,oe rfl rfl,oe rfl rfl,oe rfl rfl,rfl⟩⟩
     refine cP (key:=5) 14 rfl rfl aA rfl ⟨rfl,rfl,rfl,rfl,trivial⟩ ?_;refine bB 11 rfl (hLr) fC ⟨a1 rfl,rfl⟩ (.one (.t (sU false zr))) ?_
     refine bB 12 rfl (hMr) cT ⟨a1 rfl,a1 rfl,rfl⟩ (kF (bO (aE k) (k.natAbs%k'.natAbs))) ?_
     refine bY 15 (by kernel_rfl) rfl rfl aA rfl rfl rfl rfl ⟨rfl,rfl,rfl,rfl,trivial⟩ ?_
     refine dst 16 ?_;refine aS ?_
     exact⟨(),trivial,aN h0 [1,2,3,4,5] _ _ (by decide) ⟨rfl,rfl,rfl,rfl,rfl,rfl,trivial⟩ ⟨oe rfl rfl,oe rfl rfl,oe rfl rfl,oe rfl rfl,oe rfl rfl,rfl⟩⟩
    refine cP (key:=4) 14 rfl rfl aA rfl ⟨rfl,rfl,rfl,rfl,trivial⟩ ?_;refine WO.two (i:=11) (j:=13) (by kernel_rfl) ?_ ?_
    ·refine fA 11 rfl (hLr) fC ⟨a1 rfl,rfl⟩ (.one (.t (sU false zr))) ?_;refine WO.two (i:=12) (j:=13) (by kernel_rfl) ?_ ?_
     ·refine fA 12 rfl (hMr) cT ⟨a1 rfl,a1 rfl,rfl⟩ (kF (bO (aE k) (k.natAbs%k'.natAbs))) ?_
      refine gN (key:=5) 13 (by kernel_rfl) rfl rfl aA rfl ⟨rfl,rfl,rfl,rfl,trivial⟩ ?_
      refine bY 15 (by kernel_rfl) rfl rfl aA rfl rfl rfl rfl ⟨rfl,rfl,rfl,rfl,trivial⟩ ?_
      refine dst 16 ?_;refine aS ?_
      exact⟨(),trivial,aN h0 [1,2,3,5,4] _ _ (by decide) ⟨rfl,rfl,rfl,rfl,rfl,rfl,trivial⟩ ⟨oe rfl rfl,oe rfl rfl,oe rfl rfl,oe rfl rfl,oe rfl rfl,rfl⟩⟩
     refine cP (key:=5) 13 rfl rfl aA rfl ⟨rfl,rfl,rfl,rfl,trivial⟩ ?_;refine bB 12 rfl (hMr) cT ⟨a1 rfl,a1 rfl,rfl⟩ (kF (bO (aE k) (k.natAbs%k'.natAbs))) ?_
     refine bY 15 (by kernel_rfl) rfl rfl aA rfl rfl rfl rfl ⟨rfl,rfl,rfl,rfl,trivial⟩ ?_
     refine dst 16 ?_;refine aS ?_
     exact⟨(),trivial,aN h0 [1,2,3,5,4] _ _ (by decide) ⟨rfl,rfl,rfl,rfl,rfl,rfl,trivial⟩ ⟨oe rfl rfl,oe rfl rfl,oe rfl rfl,oe rfl rfl,oe rfl rfl,rfl⟩⟩
    refine cP (key:=5) 13 rfl rfl aA rfl ⟨rfl,rfl,rfl,rfl,trivial⟩ ?_;refine bB 11 rfl (hLr) fC ⟨a1 rfl,rfl⟩ (.one (.t (sU false zr))) ?_
    refine bB 12 rfl (hMr) cT ⟨a1 rfl,a1 rfl,rfl⟩ (kF (bO (aE k) (k.natAbs%k'.natAbs))) ?_
    refine bY 15 (by kernel_rfl) rfl rfl aA rfl rfl rfl rfl ⟨rfl,rfl,rfl,rfl,trivial⟩ ?_
    refine dst 16 ?_;refine aS ?_
    exact⟨(),trivial,aN h0 [1,2,3,5,4] _ _ (by decide) ⟨rfl,rfl,rfl,rfl,rfl,rfl,trivial⟩ ⟨oe rfl rfl,oe rfl rfl,oe rfl rfl,oe rfl rfl,oe rfl rfl,rfl⟩⟩
   ·refine cP (key:=4) 13 rfl rfl aA rfl ⟨rfl,rfl,rfl,rfl,trivial⟩ ?_;refine WO.two (i:=7) (j:=14) (by kernel_rfl) ?_ ?_
    ·refine fA 7 rfl (hMq) cT ⟨a1 rfl,a1 rfl,rfl⟩ (kF (bO (aE k != aE k') (k.natAbs/k'.natAbs))) ?_;refine WO.two (i:=11) (j:=14) (by kernel_rfl) ?_ ?_
     ·refine fA 11 rfl (hLr) fC ⟨a1 rfl,rfl⟩ (.one (.t (sU false zr))) ?_;refine WO.two (i:=12) (j:=14) (by kernel_rfl) ?_ ?_
      ·refine fA 12 rfl (hMr) cT ⟨a1 rfl,a1 rfl,rfl⟩ (kF (bO (aE k) (k.natAbs%k'.natAbs))) ?_
       refine gN (key:=5) 14 (by kernel_rfl) rfl rfl aA rfl ⟨rfl,rfl,rfl,rfl,trivial⟩ ?_
       refine bY 15 (by kernel_rfl) rfl rfl aA rfl rfl rfl rfl ⟨rfl,rfl,rfl,rfl,trivial⟩ ?_
       refine dst 16 ?_;refine aS ?_
       exact⟨(),trivial,aN h0 [1,2,3,4,5] _ _ (by decide) ⟨rfl,rfl,rfl,rfl,rfl,rfl,trivial⟩ ⟨oe rfl rfl,oe rfl rfl,oe rfl rfl,oe rfl rfl,oe rfl rfl,rfl⟩⟩
      refine cP (key:=5) 14 rfl rfl aA rfl ⟨rfl,rfl,rfl,rfl,trivial⟩ ?_;refine bB 12 rfl (hMr) cT ⟨a1 rfl,a1 rfl,rfl⟩ (kF (bO (aE k) (k.natAbs%k'.natAbs))) ?_
      refine bY 15 (by kernel_rfl) rfl rfl aA rfl rfl rfl rfl ⟨rfl,rfl,rfl,rfl,trivial⟩ ?_
      refine dst 16 ?_;refine aS ?_
      exact⟨(),trivial,aN h0 [1,2,3,4,5] _ _ (by decide) ⟨rfl,rfl,rfl,rfl,rfl,rfl,trivial⟩ ⟨oe rfl rfl,oe rfl rfl,oe rfl rfl,oe rfl rfl,oe rfl rfl,rfl⟩⟩
     refine cP (key:=5) 14 rfl rfl aA rfl ⟨rfl,rfl,rfl,rfl,trivial⟩ ?_;refine bB 11 rfl (hLr) fC ⟨a1 rfl,rfl⟩ (.one (.t (sU false zr))) ?_
     refine bB 12 rfl (hMr) cT ⟨a1 rfl,a1 rfl,rfl⟩ (kF (bO (aE k) (k.natAbs%k'.natAbs))) ?_
     refine bY 15 (by kernel_rfl) rfl rfl aA rfl rfl rfl rfl ⟨rfl,rfl,rfl,rfl,trivial⟩ ?_
     refine dst 16 ?_;refine aS ?_
     exact⟨(),trivial,aN h0 [1,2,3,4,5] _ _ (by decide) ⟨rfl,rfl,rfl,rfl,rfl,rfl,trivial⟩ ⟨oe rfl rfl,oe rfl rfl,oe rfl rfl,oe rfl rfl,oe rfl rfl,rfl⟩⟩
    refine cP (key:=5) 14 rfl rfl aA rfl ⟨rfl,rfl,rfl,rfl,trivial⟩ ?_;refine bB 7 rfl (hMq) cT ⟨a1 rfl,a1 rfl,rfl⟩ (kF (bO (aE k != aE k') (k.natAbs/k'.natAbs))) ?_
    refine bB 11 rfl (hLr) fC ⟨a1 rfl,rfl⟩ (.one (.t (sU false zr))) ?_;refine bB 12 rfl (hMr) cT ⟨a1 rfl,a1 rfl,rfl⟩ (kF (bO (aE k) (k.natAbs%k'.natAbs))) ?_
    refine bY 15 (by kernel_rfl) rfl rfl aA rfl rfl rfl rfl ⟨rfl,rfl,rfl,rfl,trivial⟩ ?_
    refine dst 16 ?_;refine aS ?_
    exact⟨(),trivial,aN h0 [1,2,3,4,5] _ _ (by decide) ⟨rfl,rfl,rfl,rfl,rfl,rfl,trivial⟩ ⟨oe rfl rfl,oe rfl rfl,oe rfl rfl,oe rfl rfl,oe rfl rfl,rfl⟩⟩
   refine cP (key:=4) 14 rfl rfl aA rfl ⟨rfl,rfl,rfl,rfl,trivial⟩ ?_;refine WO.two (i:=7) (j:=13) (by kernel_rfl) ?_ ?_
   ·refine fA 7 rfl (hMq) cT ⟨a1 rfl,a1 rfl,rfl⟩ (kF (bO (aE k != aE k') (k.natAbs/k'.natAbs))) ?_;refine WO.two (i:=11) (j:=13) (by kernel_rfl) ?_ ?_
    ·refine fA 11 rfl (hLr) fC ⟨a1 rfl,rfl⟩ (.one (.t (sU false zr))) ?_;refine WO.two (i:=12) (j:=13) (by kernel_rfl) ?_ ?_
     ·refine fA 12 rfl (hMr) cT ⟨a1 rfl,a1 rfl,rfl⟩ (kF (bO (aE k) (k.natAbs%k'.natAbs))) ?_
      refine gN (key:=5) 13 (by kernel_rfl) rfl rfl aA rfl ⟨rfl,rfl,rfl,rfl,trivial⟩ ?_
      refine bY 15 (by kernel_rfl) rfl rfl aA rfl rfl rfl rfl ⟨rfl,rfl,rfl,rfl,trivial⟩ ?_
      refine dst 16 ?_;refine aS ?_
      exact⟨(),trivial,aN h0 [1,2,3,5,4] _ _ (by decide) ⟨rfl,rfl,rfl,rfl,rfl,rfl,trivial⟩ ⟨oe rfl rfl,oe rfl rfl,oe rfl rfl,oe rfl rfl,oe rfl rfl,rfl⟩⟩
     refine cP (key:=5) 13 rfl rfl aA rfl ⟨rfl,rfl,rfl,rfl,trivial⟩ ?_;refine bB 12 rfl (hMr) cT ⟨a1 rfl,a1 rfl,rfl⟩ (kF (bO (aE k) (k.natAbs%k'.natAbs))) ?_
     refine bY 15 (by kernel_rfl) rfl rfl aA rfl rfl rfl rfl ⟨rfl,rfl,rfl,rfl,trivial⟩ ?_
     refine dst 16 ?_;refine aS ?_
     exact⟨(),trivial,aN h0 [1,2,3,5,4] _ _ (by decide) ⟨rfl,rfl,rfl,rfl,rfl,rfl,trivial⟩ ⟨oe rfl rfl,oe rfl rfl,oe rfl rfl,oe rfl rfl,oe rfl rfl,rfl⟩⟩
    refine cP (key:=5) 13 rfl rfl aA rfl ⟨rfl,rfl,rfl,rfl,trivial⟩ ?_;refine bB 11 rfl (hLr) fC ⟨a1 rfl,rfl⟩ (.one (.t (sU false zr))) ?_
    refine bB 12 rfl (hMr) cT ⟨a1 rfl,a1 rfl,rfl⟩ (kF (bO (aE k) (k.natAbs%k'.natAbs))) ?_
    refine bY 15 (by kernel_rfl) rfl rfl aA rfl rfl rfl rfl ⟨rfl,rfl,rfl,rfl,trivial⟩ ?_
    refine dst 16 ?_;refine aS ?_
    exact⟨(),trivial,aN h0 [1,2,3,5,4] _ _ (by decide) ⟨rfl,rfl,rfl,rfl,rfl,rfl,trivial⟩ ⟨oe rfl rfl,oe rfl rfl,oe rfl rfl,oe rfl rfl,oe rfl rfl,rfl⟩⟩
   refine cP (key:=5) 13 rfl rfl aA rfl ⟨rfl,rfl,rfl,rfl,trivial⟩ ?_;refine bB 7 rfl (hMq) cT ⟨a1 rfl,a1 rfl,rfl⟩ (kF (bO (aE k != aE k') (k.natAbs/k'.natAbs))) ?_
   refine bB 11 rfl (hLr) fC ⟨a1 rfl,rfl⟩ (.one (.t (sU false zr))) ?_;refine bB 12 rfl (hMr) cT ⟨a1 rfl,a1 rfl,rfl⟩ (kF (bO (aE k) (k.natAbs%k'.natAbs))) ?_
   refine bY 15 (by kernel_rfl) rfl rfl aA rfl rfl rfl rfl ⟨rfl,rfl,rfl,rfl,trivial⟩ ?_
   refine dst 16 ?_;refine aS ?_
   exact⟨(),trivial,aN h0 [1,2,3,5,4] _ _ (by decide) ⟨rfl,rfl,rfl,rfl,rfl,rfl,trivial⟩ ⟨oe rfl rfl,oe rfl rfl,oe rfl rfl,oe rfl rfl,oe rfl rfl,rfl⟩⟩
  ·refine cP (key:=4) 13 rfl rfl aA rfl ⟨rfl,rfl,rfl,rfl,trivial⟩ ?_;refine WO.two (i:=6) (j:=14) (by kernel_rfl) ?_ ?_
   ·refine fA 6 rfl (hLq) fC ⟨a1 rfl,rfl⟩ (.one (.t (sU false zq))) ?_;refine WO.two (i:=7) (j:=14) (by kernel_rfl) ?_ ?_
    ·refine fA 7 rfl (hMq) cT ⟨a1 rfl,a1 rfl,rfl⟩ (kF (bO (aE k != aE k') (k.natAbs/k'.natAbs))) ?_;refine WO.two (i:=11) (j:=14) (by kernel_rfl) ?_ ?_
     ·refine fA 11 rfl (hLr) fC ⟨a1 rfl,rfl⟩ (.one (.t (sU false zr))) ?_;refine WO.two (i:=12) (j:=14) (by kernel_rfl) ?_ ?_
      ·refine fA 12 rfl (hMr) cT ⟨a1 rfl,a1 rfl,rfl⟩ (kF (bO (aE k) (k.natAbs%k'.natAbs))) ?_
       refine gN (key:=5) 14 (by kernel_rfl) rfl rfl aA rfl ⟨rfl,rfl,rfl,rfl,trivial⟩ ?_
       refine bY 15 (by kernel_rfl) rfl rfl aA rfl rfl rfl rfl ⟨rfl,rfl,rfl,rfl,trivial⟩ ?_
       refine dst 16 ?_;refine aS ?_
       exact⟨(),trivial,aN h0 [1,2,3,4,5] _ _ (by decide) ⟨rfl,rfl,rfl,rfl,rfl,rfl,trivial⟩ ⟨oe rfl rfl,oe rfl rfl,oe rfl rfl,oe rfl rfl,oe rfl rfl,rfl⟩⟩
      refine cP (key:=5) 14 rfl rfl aA rfl ⟨rfl,rfl,rfl,rfl,trivial⟩ ?_;refine bB 12 rfl (hMr) cT ⟨a1 rfl,a1 rfl,rfl⟩ (kF (bO (aE k) (k.natAbs%k'.natAbs))) ?_
      refine bY 15 (by kernel_rfl) rfl rfl aA rfl rfl rfl rfl ⟨rfl,rfl,rfl,rfl,trivial⟩ ?_
      refine dst 16 ?_;refine aS ?_
      exact⟨(),trivial,aN h0 [1,2,3,4,5] _ _ (by decide) ⟨rfl,rfl,rfl,rfl,rfl,rfl,trivial⟩ ⟨oe rfl rfl,oe rfl rfl,oe rfl rfl,oe rfl rfl,oe rfl rfl,rfl⟩⟩
     refine cP (key:=5) 14 rfl rfl aA rfl ⟨rfl,rfl,rfl,rfl,trivial⟩ ?_;refine bB 11 rfl (hLr) fC ⟨a1 rfl,rfl⟩ (.one (.t (sU false zr))) ?_
     refine bB 12 rfl (hMr) cT ⟨a1 rfl,a1 rfl,rfl⟩ (kF (bO (aE k) (k.natAbs%k'.natAbs))) ?_
     refine bY 15 (by kernel_rfl) rfl rfl aA rfl rfl rfl rfl ⟨rfl,rfl,rfl,rfl,trivial⟩ ?_
     refine dst 16 ?_;refine aS ?_
     exact⟨(),trivial,aN h0 [1,2,3,4,5] _ _ (by decide) ⟨rfl,rfl,rfl,rfl,rfl,rfl,trivial⟩ ⟨oe rfl rfl,oe rfl rfl,oe rfl rfl,oe rfl rfl,oe rfl rfl,rfl⟩⟩
    refine cP (key:=5) 14 rfl rfl aA rfl ⟨rfl,rfl,rfl,rfl,trivial⟩ ?_;refine bB 7 rfl (hMq) cT ⟨a1 rfl,a1 rfl,rfl⟩ (kF (bO (aE k != aE k') (k.natAbs/k'.natAbs))) ?_
    refine bB 11 rfl (hLr) fC ⟨a1 rfl,rfl⟩ (.one (.t (sU false zr))) ?_;refine bB 12 rfl (hMr) cT ⟨a1 rfl,a1 rfl,rfl⟩ (kF (bO (aE k) (k.natAbs%k'.natAbs))) ?_
    refine bY 15 (by kernel_rfl) rfl rfl aA rfl rfl rfl rfl ⟨rfl,rfl,rfl,rfl,trivial⟩ ?_
    refine dst 16 ?_;refine aS ?_
    exact⟨(),trivial,aN h0 [1,2,3,4,5] _ _ (by decide) ⟨rfl,rfl,rfl,rfl,rfl,rfl,trivial⟩ ⟨oe rfl rfl,oe rfl rfl,oe rfl rfl,oe rfl rfl,oe rfl rfl,rfl⟩⟩
   refine cP (key:=5) 14 rfl rfl aA rfl ⟨rfl,rfl,rfl,rfl,trivial⟩ ?_;refine bB 6 rfl (hLq) fC ⟨a1 rfl,rfl⟩ (.one (.t (sU false zq))) ?_
   refine bB 7 rfl (hMq) cT ⟨a1 rfl,a1 rfl,rfl⟩ (kF (bO (aE k != aE k') (k.natAbs/k'.natAbs))) ?_;refine bB 11 rfl (hLr) fC ⟨a1 rfl,rfl⟩ (.one (.t (sU false zr))) ?_
   refine bB 12 rfl (hMr) cT ⟨a1 rfl,a1 rfl,rfl⟩ (kF (bO (aE k) (k.natAbs%k'.natAbs))) ?_;refine bY 15 (by kernel_rfl) rfl rfl aA rfl rfl rfl rfl ⟨rfl,rfl,rfl,rfl,trivial⟩ ?_
   refine dst 16 ?_;refine aS ?_
   exact⟨(),trivial,aN h0 [1,2,3,4,5] _ _ (by decide) ⟨rfl,rfl,rfl,rfl,rfl,rfl,trivial⟩ ⟨oe rfl rfl,oe rfl rfl,oe rfl rfl,oe rfl rfl,oe rfl rfl,rfl⟩⟩
  refine cP (key:=4) 14 rfl rfl aA rfl ⟨rfl,rfl,rfl,rfl,trivial⟩ ?_;refine WO.two (i:=6) (j:=13) (by kernel_rfl) ?_ ?_
  ·refine fA 6 rfl (hLq) fC ⟨a1 rfl,rfl⟩ (.one (.t (sU false zq))) ?_;refine WO.two (i:=7) (j:=13) (by kernel_rfl) ?_ ?_
   ·refine fA 7 rfl (hMq) cT ⟨a1 rfl,a1 rfl,rfl⟩ (kF (bO (aE k != aE k') (k.natAbs/k'.natAbs))) ?_;refine WO.two (i:=11) (j:=13) (by kernel_rfl) ?_ ?_
    ·refine fA 11 rfl (hLr) fC ⟨a1 rfl,rfl⟩ (.one (.t (sU false zr))) ?_;refine WO.two (i:=12) (j:=13) (by kernel_rfl) ?_ ?_
     ·refine fA 12 rfl (hMr) cT ⟨a1 rfl,a1 rfl,rfl⟩ (kF (bO (aE k) (k.natAbs%k'.natAbs))) ?_
      refine gN (key:=5) 13 (by kernel_rfl) rfl rfl aA rfl ⟨rfl,rfl,rfl,rfl,trivial⟩ ?_
      refine bY 15 (by kernel_rfl) rfl rfl aA rfl rfl rfl rfl ⟨rfl,rfl,rfl,rfl,trivial⟩ ?_
      refine dst 16 ?_;refine aS ?_
      exact⟨(),trivial,aN h0 [1,2,3,5,4] _ _ (by decide) ⟨rfl,rfl,rfl,rfl,rfl,rfl,trivial⟩ ⟨oe rfl rfl,oe rfl rfl,oe rfl rfl,oe rfl rfl,oe rfl rfl,rfl⟩⟩
     refine cP (key:=5) 13 rfl rfl aA rfl ⟨rfl,rfl,rfl,rfl,trivial⟩ ?_;refine bB 12 rfl (hMr) cT ⟨a1 rfl,a1 rfl,rfl⟩ (kF (bO (aE k) (k.natAbs%k'.natAbs))) ?_
     refine bY 15 (by kernel_rfl) rfl rfl aA rfl rfl rfl rfl ⟨rfl,rfl,rfl,rfl,trivial⟩ ?_
     refine dst 16 ?_;refine aS ?_
     exact⟨(),trivial,aN h0 [1,2,3,5,4] _ _ (by decide) ⟨rfl,rfl,rfl,rfl,rfl,rfl,trivial⟩ ⟨oe rfl rfl,oe rfl rfl,oe rfl rfl,oe rfl rfl,oe rfl rfl,rfl⟩⟩
    refine cP (key:=5) 13 rfl rfl aA rfl ⟨rfl,rfl,rfl,rfl,trivial⟩ ?_;refine bB 11 rfl (hLr) fC ⟨a1 rfl,rfl⟩ (.one (.t (sU false zr))) ?_
    refine bB 12 rfl (hMr) cT ⟨a1 rfl,a1 rfl,rfl⟩ (kF (bO (aE k) (k.natAbs%k'.natAbs))) ?_
    refine bY 15 (by kernel_rfl) rfl rfl aA rfl rfl rfl rfl ⟨rfl,rfl,rfl,rfl,trivial⟩ ?_
    refine dst 16 ?_;refine aS ?_
    exact⟨(),trivial,aN h0 [1,2,3,5,4] _ _ (by decide) ⟨rfl,rfl,rfl,rfl,rfl,rfl,trivial⟩ ⟨oe rfl rfl,oe rfl rfl,oe rfl rfl,oe rfl rfl,oe rfl rfl,rfl⟩⟩
   refine cP (key:=5) 13 rfl rfl aA rfl ⟨rfl,rfl,rfl,rfl,trivial⟩ ?_;refine bB 7 rfl (hMq) cT ⟨a1 rfl,a1 rfl,rfl⟩ (kF (bO (aE k != aE k') (k.natAbs/k'.natAbs))) ?_
   refine bB 11 rfl (hLr) fC ⟨a1 rfl,rfl⟩ (.one (.t (sU false zr))) ?_;refine bB 12 rfl (hMr) cT ⟨a1 rfl,a1 rfl,rfl⟩ (kF (bO (aE k) (k.natAbs%k'.natAbs))) ?_
   refine bY 15 (by kernel_rfl) rfl rfl aA rfl rfl rfl rfl ⟨rfl,rfl,rfl,rfl,trivial⟩ ?_
   refine dst 16 ?_;refine aS ?_
   exact⟨(),trivial,aN h0 [1,2,3,5,4] _ _ (by decide) ⟨rfl,rfl,rfl,rfl,rfl,rfl,trivial⟩ ⟨oe rfl rfl,oe rfl rfl,oe rfl rfl,oe rfl rfl,oe rfl rfl,rfl⟩⟩
  refine cP (key:=5) 13 rfl rfl aA rfl ⟨rfl,rfl,rfl,rfl,trivial⟩ ?_;refine bB 6 rfl (hLq) fC ⟨a1 rfl,rfl⟩ (.one (.t (sU false zq))) ?_
  refine bB 7 rfl (hMq) cT ⟨a1 rfl,a1 rfl,rfl⟩ (kF (bO (aE k != aE k') (k.natAbs/k'.natAbs))) ?_;refine bB 11 rfl (hLr) fC ⟨a1 rfl,rfl⟩ (.one (.t (sU false zr))) ?_
  refine bB 12 rfl (hMr) cT ⟨a1 rfl,a1 rfl,rfl⟩ (kF (bO (aE k) (k.natAbs%k'.natAbs))) ?_;refine bY 15 (by kernel_rfl) rfl rfl aA rfl rfl rfl rfl ⟨rfl,rfl,rfl,rfl,trivial⟩ ?_
  refine dst 16 ?_;refine aS ?_
  exact⟨(),trivial,aN h0 [1,2,3,5,4] _ _ (by decide) ⟨rfl,rfl,rfl,rfl,rfl,rfl,trivial⟩ ⟨oe rfl rfl,oe rfl rfl,oe rfl rfl,oe rfl rfl,oe rfl rfl,rfl⟩⟩
 have hlq:(dg 4294967296 (bO (aE k != aE k') (k.natAbs/k'.natAbs)).natAbs).length≤(dg 4294967296 (k).natAbs).length:=by rw[iS];exact iL (Nat.div_le_self _ _)
 have hlr:(dg 4294967296 (bO (aE k) (k.natAbs%k'.natAbs)).natAbs).length≤(dg 4294967296 (k).natAbs).length:=by rw[iS];exact iL (Nat.mod_le _ _)
 refine sq ?_;refine sq ?_;refine rd [0,1,2,3,4] (fun i=>[].contains i) mixed ?_
 refine aR 0 ?_;refine bB 1 rfl (rV (Zn.of (k:=bO (aE k) (k.natAbs%k'.natAbs)) (by omega))) Gv ⟨aG rfl,rfl⟩ (.one (tv (.int .i64 (bO (aE k) (k.natAbs%k'.natAbs)).sign))) ?_
 refine df 2 ?_;refine df 3 ?_;refine WD.split (t:=47) rfl rfl (fun h6=>?_) (fun h6=>?_)
 ·refine aR 4 ?_;refine aR 6 ?_
  refine bB 5 rfl (rV (Zn.of (k:=bO (aE k) (k.natAbs%k'.natAbs)) (by omega))) Gv ⟨aG rfl,rfl⟩ (.one (tv (.int .i64 (bO (aE k) (k.natAbs%k'.natAbs)).sign))) ?_
  refine bB 7 rfl (rV (Zn.of (k:=k') (by omega))) Gv ⟨aG rfl,rfl⟩ (.one (tv (.int .i64 (k').sign))) ?_
  refine df 8 ?_;refine df 9 ?_;refine aS ?_;refine bM rfl (fun h7=>?_) (fun h7=>?_)
  ·refine sq ?_;refine rd [0,1,2,3,4] (fun i=>[2,3].contains i) mixed ?_
   refine aR 0 ?_;have hol:(dg 4294967296 (1:Int).natAbs).length≤1:=cW (by omega) (by decide)
   refine bB 1 rfl (zZ (n:=1) (by omega) (by omega)) Gw ⟨a1 rfl,rfl⟩ (kF (1:Int)) ?_
   refine bB 2 rfl (JA (Zn.of (k:=bO (aE k != aE k') (k.natAbs/k'.natAbs)) (by omega)) (Zn.of (k:=(1:Int)) (by omega))) OU ⟨aG rfl,aG rfl,rfl⟩ (kF (bO (aE k != aE k') (k.natAbs/k'.natAbs)-(1:Int))) ?_
   refine dst 3 ?_;refine aS ?_;refine rl ?_;refine ld ?_;refine ld ?_
   refine ca (Sf (Zn.of (k:=bO (aE k) (k.natAbs%k'.natAbs)) (by omega)) (Zn.of (k:=k') (by omega))) JB ⟨aG rfl,aG rfl,rfl⟩ (kF (bO (aE k) (k.natAbs%k'.natAbs)+k')) ?_
   refine st ?_;refine nl ?_;refine sq ?_;refine rd [0,2,3,4] (fun i=>[3,4].contains i) mixed ?_
   refine aR 0 ?_;refine aR 1 ?_;refine bY 2 (by kernel_rfl) rfl rfl aA rfl rfl rfl rfl ⟨rfl,rfl,rfl,rfl,trivial⟩ ?_
   refine dst 3 ?_;refine eR 4 (by kernel_rfl) rfl rfl aA rfl (by trivial) ?_ (fun h=>by first | rfl | cases h)
   refine aS ?_;refine rt ?_;obtain⟨hd1,hd2⟩:=EC (a:=k) (b:=k') hkn rfl rfl h6 h7
   exact en (.inl rfl) rfl (yQ (.cons (.agg (.cons (.id rfl) (.cons (.id rfl) .nil))) (.cons (.agg (.cons (.id rfl) (.cons (.id rfl) .nil))) (.cons (cR _) .nil)))) (by decide) (fun h=>by cases h) (by rw[if_neg hkn,if_neg hkn,if_neg hkn,←hd1,←hd2];rfl)
  refine sk ?_;refine sq ?_;refine rd [0,2,3,4] (fun i=>[3,4].contains i) mixed ?_
  refine aR 0 ?_;refine aR 1 ?_;refine bY 2 (by kernel_rfl) rfl rfl aA rfl rfl rfl rfl ⟨rfl,rfl,rfl,rfl,trivial⟩ ?_
  refine dst 3 ?_;refine eR 4 (by kernel_rfl) rfl rfl aA rfl (by trivial) ?_ (fun h=>by first | rfl | cases h)
  refine aS ?_;refine rt ?_;obtain⟨hd1,hd2⟩:=Lw (a:=k) (b:=k') hkn rfl rfl (.inr (Decidable.byContradiction h7))
  exact en (.inl rfl) rfl (yQ (.cons (.agg (.cons (.id rfl) (.cons (.id rfl) .nil))) (.cons (.agg (.cons (.id rfl) (.cons (.id rfl) .nil))) (.cons (cR _) .nil)))) (by decide) (fun h=>by cases h) (by rw[if_neg hkn,if_neg hkn,if_neg hkn,←hd1,←hd2];rfl)
 refine eI 4 ?_;refine eI 6 ?_;refine eI 5 ?_;refine eI 7 ?_;refine eI 8 ?_;refine df 9 ?_;refine aS ?_;refine eN rfl ?_;refine sk ?_;refine sq ?_
 refine rd [0,2,3,4] (fun i=>[3,4].contains i) mixed ?_
 refine aR 0 ?_;refine aR 1 ?_;refine bY 2 (by kernel_rfl) rfl rfl aA rfl rfl rfl rfl ⟨rfl,rfl,rfl,rfl,trivial⟩ ?_
 refine dst 3 ?_;refine eR 4 (by kernel_rfl) rfl rfl aA rfl (by trivial) ?_ (fun h=>by first | rfl | cases h)
 refine aS ?_;refine rt ?_;obtain⟨hd1,hd2⟩:=Lw (a:=k) (b:=k') hkn rfl rfl (.inl (Decidable.byContradiction h6))
 exact en (.inl rfl) rfl (yQ (.cons (.agg (.cons (.id rfl) (.cons (.id rfl) .nil))) (.cons (.agg (.cons (.id rfl) (.cons (.id rfl) .nil))) (.cons (cR _) .nil)))) (by decide) (fun h=>by cases h) (by rw[if_neg hkn,if_neg hkn,if_neg hkn,←hd1,←hd2];rfl)
def UV (o:Bool) (a:Zi):List Tr:=[.v (.bool a.s),sU o a.x]
section
variable {x:Cx}{g:Nat→FV}{ob:List (Option Ob)}{ws:List Zi}{z:Zi}{i j k1 e key:Nat}{y a b:AV}
end
section
variable {x:Cx}{g:Nat→FV}{ob:List (Option Ob)}
theorem UW {i k t z n:Nat}{l:List Tr}{fv fv':FV}(t':Nat) (hi:Nat.blt i x.n=true) (hg:g i=fv) (ho:bS ob k=some ⟨t,z,l.map .t⟩) (hz:l.length=n*z) (hf:FzF (.sl k 0 n) (.s false t' z n l) fv fv'):Sub x g ob (aU g i fv') (ob.set k none):=wT hi hg ho hf (Aa t' ho hz)
end
section
variable {l:List Rat}{f:Rat→Rat}{k:Nat}
end
section
variable {l:List Rat}{k:Nat}{f:Int→Int}{z:List Int}
end
section
variable {x:Cx}{g:Nat→FV}{ob:List (Option Ob)}
end
section
variable {l:List Rat}{k i t:Nat}
def pR (l:List Bool) (k:Nat):Bool:=l.getD k false
end
def bT (xs:List Bool):List Tr:=xs.map fun b=>.v (.bool b)
theorem JC (xs:List Bool):(bT xs).length=xs.length:=by simp[bT]
section
variable {x:Cx}{g:Nat→FV}{ob ob':List (Option Ob)}{Q:Post}{ops:Array Oper}{rest:List Oper}{d:Nat}{ty:TypeId}{pos:String}{af:Array Edge}{gd:Option (Nat×Bool)}{T:List (Nat×TI)}
end
structure Vn where
 y:Int
 e:Int
 l:Rat
 u:Rat
 x:Rat
 c:Rat
def OV:Vn:=⟨0,0,0,0,0,0⟩
def eE (o:Bool) (v:Vn):List Tr:=.v (.int .i64 v.y)::.v (.int .i64 v.e)::((Fr4.of v.l).tr o++((Fr4.of v.u).tr false++((Fr4.of v.x).tr false++(Fr4.of v.c).tr false)))
theorem eH (o:Bool) (v:Vn):(eE o v).length=18:=rfl
def cO (l:List Vn) (i:Nat):Vn:=l.getD i OV
def cU (o o':Bool) (l:List Vn):Tr:=.s o 64 18 l.length (l.flatMap (eE o'))
def hJ (o:Bool) (u:Ur):List Tr:=.v (.int .i64 u.v)::.v (.int .i64 u.e)::.v (.int .i64 u.y)::(Fr4.of u.n).tr o
theorem fH (o:Bool) (u:Ur):(hJ o u).length=7:=rfl
def OW:Ur:=⟨0,0,0,0⟩
def dO (l:List Ur) (i:Nat):Ur:=l.getD i OW
def cI (o o':Bool) (l:List Ur):Tr:=.s o 58 7 l.length (l.flatMap (hJ o'))
structure Rl where
 u:Rat
 b:List Rat
def OX:Rl:=⟨0,[]⟩
def mP (r:Rl):List Tr:=(Fr4.of r.u).tr false++[sQ false (r.b.map Fr4.of)]
theorem lM (r:Rl):(mP r).length=5:=rfl
def qU (l:List Rl) (i:Nat):Rl:=l.getD i OX
def dA (o:Bool) (l:List Rl):Tr:=.s o 62 5 l.length (l.flatMap mP)
structure Yr where
 m:List Bool
 b:List Fr4
 l:Fr4
def BO:Yr:=⟨[],[],Xf⟩
def gQ (xs:List Bool):Tr:=.s false 4 1 xs.length (bT xs)
def fD (y:Yr):List Tr:=gQ y.m::sQ false y.b::y.l.tr false
theorem eP (y:Yr):(fD y).length=6:=rfl
def aT (l:List Yr) (i:Nat):Yr:=l.getD i BO
def iZ (l:List Yr):Tr:=.s false 67 6 l.length (l.flatMap fD)
section
variable {i k:Nat}
theorem nT {l:List Vn}(h:i<l.length):l[i]? =some (cO l i):=by simp[cO,h]
theorem Sg {l:List Vn}(h:i<l.length):cO l i∈l:=pS h
theorem fI {l:List Ur}(h:i<l.length):l[i]? =some (dO l i):=by simp[dO,h]
theorem fR {l:List Ur}(h:i<l.length):dO l i∈l:=pS h
theorem vE {l:List Rl}(h:i<l.length):l[i]? =some (qU l i):=by simp[qU,h]
theorem dP {l:List Yr}(h:i<l.length):l[i]? =some (aT l i):=by simp[aT,h]
theorem jA {l:List Yr}(h:i<l.length):aT l i∈l:=pS h
end
def qt (q:Rat):List Tr:=(Fr4.of q).tr false
theorem vF (q:Rat):(qt q).length=4:=rfl
def eC (l:List Rat) (i:Nat):Rat:=l.getD i 0
theorem vG {l:List Rat}{i:Nat}(h:i<l.length):l[i]? =some (eC l i):=by simp[eC,h]
theorem pT {l:List Rat}{i:Nat}(h:i<l.length):dM (l.map Fr4.of) i=Fr4.of (eC l i):=by simp[dM,eC,h]
def dQ (x:List (Int×Rat)×Int×Bool):Tr:=.p true 137 [sR 102 x.1,.v (.int .i64 x.2.1),.v (.bool x.2.2)]
def cX (l:List (List (Int×Rat)×Int×Bool)) (i:Nat):List (Int×Rat)×Int×Bool:=l.getD i ([],0,false)
theorem Ea {l:List (List (Int×Rat)×Int×Bool)}{i:Nat}(h:i<l.length):l[i]? =some (cX l i):=by simp[cX,h]
section
variable {α β:Type}{f:α→β}{p:β→Bool}{L:List α}{x:α}
theorem ED (hx:x∈L) (h:∀z∈L,p (f z)=true↔z=x):cN p (L.map f)<L.length∧L[cN p (L.map f)]? =some x:=by
 induction L with
 | nil=>cases hx
 | cons z L ih=>
  rw[List.map_cons]
  unfold cN
  by_cases hz:z=x
  ·subst hz
   rw[if_pos ((h z (List.mem_cons_self ..)).2 rfl)]
   simp
  rw[if_neg (fun h9=>hz ((h z (List.mem_cons_self ..)).1 h9))]
  have hx2:x∈L:=by
   rcases List.mem_cons.1 hx with h9 | h9
   ·exact absurd h9.symm hz
   exact h9
  obtain⟨h1,h2⟩:=ih hx2 fun w hw=>h w (List.mem_cons_of_mem _ hw)
  exact⟨by rw[List.length_cons];omega,by rw[List.getElem?_cons_succ];exact h2⟩
theorem Gx {g:α→β}{i:Nat}(hn:L.Nodup) (hi:L[i]? =some x) (h:∀z∈L,z≠x→f z=g z):(L.map f).set i (g x)=L.map g:=by
 induction L generalizing i with
 | nil=>simp at hi
 | cons z L ih=>
  obtain⟨hz,hn⟩:=List.nodup_cons.1 hn
  cases i with
  | zero=>
   simp at hi
   subst hi
   rw[List.map_cons,List.set_cons_zero,List.map_cons]
   congr 1
   refine List.map_congr_left fun w hw=>h w (List.mem_cons_of_mem _ hw) fun e=>hz (e▸hw)
  | succ i=>
   rw[List.getElem?_cons_succ]at hi
   rw[List.map_cons,List.set_cons_succ,ih hn hi fun w hw=>h w (List.mem_cons_of_mem _ hw),List.map_cons,h z (List.mem_cons_self ..) fun e=>hz (e▸List.mem_of_getElem? hi)]
end
def Rg.vn (R:Rg) (U:List Ur) (x c:Nat→Nat→Rat) (p:Nat×Nat):Vn:=⟨p.1,p.2,R.los p.1 p.2,fS U p.1 p.2,x p.1 p.2,c p.1 p.2⟩
def Rg.vns (R:Rg) (U:List Ur) (x c:Nat→Nat→Rat) (L:List (Nat×Nat)):List Vn:=L.map (R.vn U x c)
def Rg.rl (R:Rg) (U:List Ur) (y:Nat):Rl:=⟨dR U y,(List.range R.E).map fun(e:Nat)=>dS U y e⟩
def Rg.rls (R:Rg) (U:List Ur) (k:Nat):List Rl:=(List.range k).map (R.rl U)
def bZ (y e:Int) (v:Vn):Bool:=decide (v.y=y)&&decide (v.e=e)
section
variable {R:Rg}{U U':List Ur}{x x' c c':Nat→Nat→Rat}{L:List (Nat×Nat)}{p:Nat×Nat}{k y e t:Nat}{m:Rat}
theorem eQ:(R.vns U x c L).length=L.length:=List.length_map ..
theorem vH (hp:p∈L):cN (bZ p.1 p.2) (R.vns U x c L)<L.length∧L[cN (bZ p.1 p.2) (R.vns U x c L)]? =some p:=by
 refine ED hp fun z _=>?_
 unfold bZ Rg.vn
 simp only[Bool.and_eq_true,decide_eq_true_eq]
 constructor
 ·rintro⟨h1,h2⟩
  exact Prod.ext (by omega) (by omega)
 rintro rfl
 exact⟨rfl,rfl⟩
theorem Cc (hn:L.Nodup) (hp:p∈L) (h:∀q∈L,q≠p→R.vn U x c q=R.vn U' x' c' q):(R.vns U x c L).set (cN (bZ p.1 p.2) (R.vns U x c L)) (R.vn U' x' c' p)=R.vns U' x' c' L:=Gx hn (vH hp).2 h
theorem wU (hp:p∈L):(R.vns U x c L)[cN (bZ p.1 p.2) (R.vns U x c L)]? =some (R.vn U x c p):=by
 have h:(L.map (R.vn U x c))[cN (bZ p.1 p.2) (R.vns U x c L)]? =some (R.vn U x c p):=by rw[List.getElem?_map,(vH hp).2];rfl
 exact h
theorem Si {y e y' e':Int}(h:¬(y=y'∧e=e')):fS (Rg.us U y e t m) y' e'=fS U y' e':=by
 unfold Rg.us
 split
 ·rw[wV,if_neg h]
 rfl
theorem JD {y e:Int}(h:0<m):fS (Rg.us U y e t m) y e=fS U y e+m:=by rw[jV h,wV,if_pos ⟨rfl,rfl⟩]
theorem EE (hn:L.Nodup) (hp:p∈L) (hm:0<m):(R.vns U x c L).set (cN (bZ p.1 p.2) (R.vns U x c L)) ⟨p.1,p.2,R.los p.1 p.2,fS U p.1 p.2+m,x p.1 p.2,c p.1 p.2⟩=R.vns (Rg.us U p.1 p.2 t m) x c L:=by
 have:=Cc (R:=R) (U:=U) (U':=Rg.us U p.1 p.2 t m) (x:=x) (x':=x) (c:=c) (c':=c) hn hp fun q _ hq=>by
  unfold Rg.vn
  rw[Si fun h9=>hq (Prod.ext (by omega) (by omega))]
 rw[←this]
 unfold Rg.vn
 rw[JD hm]
theorem Cd:(R.rls U k).length=k:=by simp[Rg.rls]
theorem OY (h:y≠t){v e:Int}:R.rl (Rg.us U v e t m) y=R.rl U y:=by
 unfold Rg.us
 split
 ·unfold Rg.rl
  rw[Ce,if_neg (by omega)]
  congr 1
  refine List.map_congr_left fun e' _=>?_
  rw[pB,if_neg (by omega)]
 rfl
theorem JE (h:k≤t){v e:Int}:R.rls (Rg.us U v e t m) k=R.rls U k:=List.map_congr_left fun y hy=>OY (by have:=List.mem_range.1 hy;omega)
end
section
variable {lt:Nat→Nat→Bool}{A B C D:List Nat}{x y j:Nat}
end
theorem JF {xs:List Fr4}{dl:Fr4→Bool}{fd:FuncId}{fst caps:List Tr}(hok:CallOk Tryz.prog fd) (hd:∀x∈xs,aD true Tryz.prog fd [] (cJ fst++[.agg ((Fr4.tr false x).map .t)]++cJ caps) (aP (.one (tv (.bool (dl x)))))) (hl:xs.length≤1073741823):aD true Tryz.prog 98 [] [.one (.t (sQ false xs)),.one (.t (.f fd fst caps))] (aP (.one (tv (.int .i64 (nU dl xs))))):=by
 refine cC Tryz.func98 rfl Tryz.ntmps98 rfl aA rfl fun N w c0 h0=>?_
 refine sq ?_;refine rl ?_;refine o1 ?_;refine nl ?_;refine sq ?_;refine sq ?_;refine rl ?_;(iterate 3 refine o1 ?_);refine nl ?_;refine bl ?_
 refine lp (γ:=Nat) (fun k=>cA [(0,.one (.t (sQ false xs))),(1,.one (.t (.f fd fst caps))),(7,.one (tv (.int .i64 ((xs.length:Nat):Int)))),(8,.one (tv (.int .i64 ((k:Nat):Int))))]) (fun k=>[].map some) (fun k=>k≤xs.length∧k≤cN dl xs) (fun k=>xs.length-k) 0 (⟨Nat.zero_le _,Nat.zero_le _⟩) (aN h0 [] _ _ (by decide) ⟨rfl,rfl,rfl,rfl,trivial⟩ rfl) fun k hk=>?_
 refine sq ?_;refine rl ?_;refine o1 ?_;refine nl ?_;refine sq ?_;refine bM rfl (fun h1=>?_) (fun h1=>?_)
 ·refine sk ?_;refine sq ?_;refine bl ?_;refine sq ?_;refine rl ?_;refine o1 ?_;refine o1 ?_;refine nl ?_;refine sq ?_;refine rl ?_;(iterate 4 refine o1 ?_)
  refine dU ((Fr4.tr false) (dM xs (k))) (bL (f:=(Fr4.tr false)) (z:=4) (o:=0) (fun _=>rfl) (tE (by omega)) (Nat.le_of_ble_eq_true rfl) rfl) ?_
  refine ce 0 [.agg ((Fr4.tr false (dM xs (k))).map .t)] rfl (hd (dM xs (k)) (jF (by omega))) hok ⟨rfl,rfl⟩ ?_
  refine nl ?_;refine nV rfl (fun h2=>?_) (fun h2=>?_)
  ·refine sq ?_;refine rl ?_;refine o1 ?_;refine o1 ?_;refine nl ?_;refine rt ?_;have hx9:=(lC hk.2 (by omega)).1 h2
   exact en (.inl rfl) rfl (aZ (cR _)) (by decide) (fun _=>trivial) (congrArg (fun z=>FV.one (tv (.int .i64 z))) (by unfold nU;rw[hx9,if_neg (by omega)]))
  refine sk ?_;refine rl ?_;refine o1 ?_;refine WL.cast (t:=18) (u':=.int .i64 ((k+1:Nat):Int)) rfl (aC (by omega)) ?_
  refine o1 ?_;refine nl ?_;exact⟨k+1,by omega,⟨by omega,(lC hk.2 (by omega)).2 h2⟩,aN h0 [] _ _ (by decide) ⟨rfl,rfl,rfl,rfl,trivial⟩ rfl⟩
 refine ex ?_;refine sq ?_;refine rl ?_;refine o1 ?_;refine nl ?_;refine rt ?_;have hx9:=vI (dl:=dl) xs
 exact en (.inl rfl) rfl (aZ (cR _)) (by decide) (fun _=>trivial) (congrArg (fun z=>FV.one (tv (.int .i64 z))) (by unfold nU;rw[if_pos (by omega)]))
theorem JG {xs:List Fr4}{dl:Fr4→Bool}{fd:FuncId}{fst caps:List Tr}(hok:CallOk Tryz.prog fd) (hd:∀x∈xs,aD true Tryz.prog fd [] (cJ fst++[.agg ((Fr4.tr false x).map .t)]++cJ caps) (aP (.one (tv (.bool (dl x)))))) (hl:xs.length≤1073741823):aD true Tryz.prog 69 [] [.one (.t (sQ false xs)),.one (.t (.f fd fst caps))] (aP (.one (tv (.bool (xs.any dl))))):=by
 refine cC Tryz.func69 rfl Tryz.ntmps69 rfl aA rfl fun N w c0 h0=>?_
 refine sq ?_;refine rl ?_;refine o1 ?_;refine nl ?_;refine sq ?_;refine rl ?_;refine o1 ?_;refine o1 ?_
 refine ca (JF hok hd hl) RT ⟨a1 rfl,a1 rfl,rfl⟩ (.one (tv (.int .i64 (nU dl xs)))) ?_;refine o1 ?_;refine o1 ?_;refine nl ?_;refine rt ?_
 exact en (.inl rfl) rfl (aZ (cR _)) (by decide) (fun _=>trivial) (congrArg (fun z=>FV.one (tv (.bool z))) (Lx xs))
theorem Ly {x:Int}:aD true Tryz.prog 146 [] [.one (tv (.int .i64 x))] (aP (.one (tv (.bool false)))):=by
 refine cC Tryz.func146 rfl Tryz.ntmps146 rfl aA rfl fun N9 w9 c0 h0=>?_
 refine sq ?_;refine rl ?_;refine o1 ?_;refine nl ?_;refine sq ?_;refine rl ?_;(iterate 3 refine o1 ?_)
 refine WL.cast (t:=5) (u':=.bool false) rfl (congrArg Value.bool (decide_eq_false fun h=>h rfl)) ?_
 refine o1 ?_;refine nl ?_;refine rt ?_;exact iT (.inl rfl) rfl (rfl)
theorem Sj {x y:Int}:aD true Tryz.prog 128 [] [.one (tv (.int .i64 x)),.one (tv (.int .i64 y))] (aP (.one (tv (.int .i64 (if x<y then-1 else if y<x then 1 else 0))))):=by
 refine cC Tryz.func128 rfl Tryz.ntmps128 rfl aA rfl fun N9 w9 c0 h0=>?_
 refine sq ?_;refine rl ?_;refine o1 ?_;refine nl ?_;refine sq ?_;refine rl ?_;refine o1 ?_;refine ca (Ly) BP ⟨a1 rfl,rfl⟩ (.one (tv (.bool false))) ?_;refine o1 ?_;refine nl ?_
 refine sq ?_;refine rl ?_;refine o1 ?_;refine ca (Ly) BP ⟨a1 rfl,rfl⟩ (.one (tv (.bool false))) ?_;refine o1 ?_;refine nl ?_;refine sq ?_;refine sq ?_;refine rl ?_;refine o1 ?_
 refine nl ?_;refine eN rfl ?_;refine sk ?_;refine sq ?_;refine sq ?_;refine rl ?_;refine o1 ?_;refine nl ?_;refine eN rfl ?_;refine sk ?_;refine sq ?_;refine sq ?_;refine rl ?_
 (iterate 3 refine o1 ?_);refine nl ?_;refine bM rfl (fun h1=>?_) (fun h1=>?_)
 ·refine sq ?_;refine rl ?_;refine o1 ?_;refine nl ?_;refine rt ?_
  exact en (.inl rfl) rfl (aZ (cR _)) (by decide) (fun _=>trivial) (congrArg (fun z=>FV.one (tv (.int .i64 z))) (by rw[if_pos h1]))
 refine sk ?_;refine sq ?_;refine sq ?_;refine rl ?_;(iterate 3 refine o1 ?_);refine nl ?_;refine bM rfl (fun h2=>?_) (fun h2=>?_)
 ·refine sq ?_;refine rl ?_;refine o1 ?_;refine nl ?_;refine rt ?_
  exact en (.inl rfl) rfl (aZ (cR _)) (by decide) (fun _=>trivial) (congrArg (fun z=>FV.one (tv (.int .i64 z))) (by rw[if_neg h1];rw[if_pos h2]))
 refine sk ?_;refine sq ?_;refine rl ?_;refine o1 ?_;refine nl ?_;refine rt ?_
 exact en (.inl rfl) rfl (aZ (cR _)) (by decide) (fun _=>trivial) (congrArg (fun z=>FV.one (tv (.int .i64 z))) (by rw[if_neg h1];rw[if_neg h2]))
theorem Pj {x y:Wv}:aD true Tryz.prog 127 [] [.agg ((aL x).map .t),.agg ((aL y).map .t)] (aP (.one (tv (.int .i64 (Xg x.y y.y))))):=by
 refine cC Tryz.func127 rfl Tryz.ntmps127 rfl aA rfl fun N9 w9 c0 h0=>?_
 refine sq ?_;refine rl ?_;refine bx 0 ?_;refine bx 1 ?_;refine o1 ?_;refine nl ?_;refine sq ?_;refine rl ?_;refine o1 ?_;refine ld ?_;refine o1 ?_;refine ld ?_
 refine ca (Sj (x:=x.y) (y:=y.y)) OZ ⟨a1 rfl,a1 rfl,rfl⟩ (.one (tv (.int .i64 (if x.y<y.y then-1 else if y.y<x.y then 1 else 0)))) ?_;refine o1 ?_;refine nl ?_;refine rt ?_
 exact en (.inl rfl) rfl (aZ (cR _)) (by decide) (fun _=>trivial) (congrArg (fun z=>FV.one (tv (.int .i64 z))) (rfl))
theorem Pm {N:Nat}{xs P U M V Q:List Wv}{a b n:Nat}(hx:xs=P++(U++(M++(V++Q)))) (ha:P.length=a) (hU:U.length=n) (hV:V.length=n) (hb:a+n+M.length=b) (hN:xs.length=N) (hl:N≤1073741823):aD false Tryz.prog 171 [⟨64,18,(xs.flatMap aL).map .t⟩] [.one (.sl 0 0 N),.one (tv (.int .i64 ((a:Nat):Int))),.one (tv (.int .i64 ((b:Nat):Int))),.one (tv (.int .i64 ((n:Nat):Int))),.one (.t (.f 127 [] []))] (Rt [⟨64,18,((P++(V++(M++(U++Q)))).flatMap aL).map .t⟩] (.tup [])):=by
 refine mQ Tryz.func171 rfl Tryz.ntmps171 rfl aA rfl fun N9 M9 w9 c0 h0=>?_
 have hxl:xs.length=P.length+U.length+M.length+V.length+Q.length:=by rw[hx];simp only[List.length_append];omega
 refine sq ?_;refine rl ?_;refine o1 ?_;refine nl ?_;refine bl ?_
 refine lp (γ:=Nat×List Wv) (fun s=>cA [(0,.one (.sl 0 0 (N))),(1,.one (tv (.int .i64 ((a:Nat):Int)))),(2,.one (tv (.int .i64 ((b:Nat):Int)))),(3,.one (tv (.int .i64 ((n:Nat):Int)))),(10,.one (tv (.int .i64 ((s.1:Nat):Int))))]) (fun s=>[(⟨64,18,(s.2.flatMap aL).map .t⟩:Ob)].map some) (fun s=>s.1≤n∧SwP P U M V Q s.1 s.2) (fun s=>n-s.1) (0,xs) ⟨Nat.zero_le _,hx▸SwP.zero⟩ (cK h0 [0] _ _ (by decide) rfl ⟨rfl,rfl,rfl,rfl,rfl,trivial⟩ ⟨aI rfl,rfl⟩) ?_
 rintro⟨i,D⟩ ⟨hi,hS⟩;dsimp only at hi hS⊢;have hDl:=hS.len
 refine sq ?_;refine sq ?_;refine rl ?_;(iterate 3 refine o1 ?_);refine nl ?_;refine bM rfl (fun h1=>?_) (fun h1=>?_)
 ·refine sk ?_;refine sq ?_;refine bl ?_;refine rd [] (fun i=>[23].contains i) mixed ?_
  refine dv 0 ?_;refine dv 1 ?_;refine dv 2 ?_;refine dv 3 ?_;refine WD.cast (t:=19) (u':=.int .i64 ((a+i:Nat):Int)) rfl (aC (by omega)) ?_
  refine dv 4 ?_;refine dv 5 ?_;refine dv 6 ?_;refine dv 7 ?_;refine WD.cast (t:=23) (u':=.int .i64 ((b+i:Nat):Int)) rfl (aC (by omega)) ?_
  refine dv 8 ?_;refine dv 9 ?_;refine dv 10 ?_;refine dv 11 ?_;refine WD.cast (t:=27) (u':=.int .i64 ((b+i:Nat):Int)) rfl (aC (by omega)) ?_
  refine dv 12 ?_;refine dv 14 ?_;refine dv 15 ?_;refine dv 16 ?_;refine dv 17 ?_;refine WD.cast (t:=33) (u':=.int .i64 ((a+i:Nat):Int)) rfl (aC (by omega)) ?_
  refine dv 18 ?_;refine WO.two (i:=13) (j:=19) (by kernel_rfl) ?_ ?_
  ·refine kP 13 (cG (f:=aL) (z:=18) (o:=0) (us:=aL (aB D (b+i))) aX (bN (l:=D) (i:=b+i) (by omega)) (Nat.le_of_ble_eq_true rfl) rfl) ?_
   refine WO.one (by kernel_rfl) (kP 19 (cG (f:=aL) (z:=18) (o:=0) (us:=aL (aB D (a+i))) aX (bN (l:=D) (i:=a+i) (by omega)) (Nat.le_of_ble_eq_true rfl) rfl) ?_)
   refine dv 20 ?_
   refine qV 21 (dK (xs:=D) (k:=a+i) (x:=(aB D (a+i))) (f:=aL) (z:=18) (o:=0) (x':=(aB D (b+i))) (us:=aL (aB D (b+i))) aX (bN (l:=D) (i:=a+i) (by omega)) (Nat.le_of_ble_eq_true rfl) rfl) (eL (xs:=D) (k:=a+i) (f:=aL) (z:=18) (o:=0) (us:=aL (aB D (b+i))) aX (by omega) (Nat.le_of_ble_eq_true rfl)) ?_
   refine dv 22 ?_
   refine lV 23 (dK (xs:=(D.set (a+i) (aB D (b+i)))) (k:=b+i) (x:=(aB (D.set (a+i) (aB D (b+i))) (b+i))) (f:=aL) (z:=18) (o:=0) (x':=(aB D (a+i))) (us:=aL (aB D (a+i))) aX (bN (l:=(D.set (a+i) (aB D (b+i)))) (i:=b+i) (by simp only[List.length_set];omega)) (Nat.le_of_ble_eq_true rfl) rfl) (eL (xs:=(D.set (a+i) (aB D (b+i)))) (k:=b+i) (f:=aL) (z:=18) (o:=0) (us:=aL (aB D (a+i))) aX (by simp only[List.length_set];omega) (Nat.le_of_ble_eq_true rfl)) ?_
   refine aS ?_;refine rl ?_;refine o1 ?_;refine o1 ?_;refine WL.cast (t:=15) (u':=.int .i64 ((i+1:Nat):Int)) rfl (aC (by omega)) ?_
   refine o1 ?_;refine nl ?_
   exact⟨(i+1,((D.set (a+i) (aB D (b+i))).set (b+i) (aB D (a+i)))),by dsimp only;omega,⟨by omega,hS.step hU hV (by omega) ha hb⟩,cK h0 [0] _ _ (by decide) rfl ⟨rfl,rfl,rfl,rfl,rfl,trivial⟩ ⟨aI rfl,rfl⟩⟩
  refine kP 19 (cG (f:=aL) (z:=18) (o:=0) (us:=aL (aB D (a+i))) aX (bN (l:=D) (i:=a+i) (by omega)) (Nat.le_of_ble_eq_true rfl) rfl) ?_
  refine WO.one (by kernel_rfl) (kP 13 (cG (f:=aL) (z:=18) (o:=0) (us:=aL (aB D (b+i))) aX (bN (l:=D) (i:=b+i) (by omega)) (Nat.le_of_ble_eq_true rfl) rfl) ?_)
  refine dv 20 ?_
  refine qV 21 (dK (xs:=D) (k:=a+i) (x:=(aB D (a+i))) (f:=aL) (z:=18) (o:=0) (x':=(aB D (b+i))) (us:=aL (aB D (b+i))) aX (bN (l:=D) (i:=a+i) (by omega)) (Nat.le_of_ble_eq_true rfl) rfl) (eL (xs:=D) (k:=a+i) (f:=aL) (z:=18) (o:=0) (us:=aL (aB D (b+i))) aX (by omega) (Nat.le_of_ble_eq_true rfl)) ?_
  refine dv 22 ?_
  refine lV 23 (dK (xs:=(D.set (a+i) (aB D (b+i)))) (k:=b+i) (x:=(aB (D.set (a+i) (aB D (b+i))) (b+i))) (f:=aL) (z:=18) (o:=0) (x':=(aB D (a+i))) (us:=aL (aB D (a+i))) aX (bN (l:=(D.set (a+i) (aB D (b+i)))) (i:=b+i) (by simp only[List.length_set];omega)) (Nat.le_of_ble_eq_true rfl) rfl) (eL (xs:=(D.set (a+i) (aB D (b+i)))) (k:=b+i) (f:=aL) (z:=18) (o:=0) (us:=aL (aB D (a+i))) aX (by simp only[List.length_set];omega) (Nat.le_of_ble_eq_true rfl)) ?_
  refine aS ?_;refine rl ?_;refine o1 ?_;refine o1 ?_;refine WL.cast (t:=15) (u':=.int .i64 ((i+1:Nat):Int)) rfl (aC (by omega)) ?_
  refine o1 ?_;refine nl ?_
  exact⟨(i+1,((D.set (a+i) (aB D (b+i))).set (b+i) (aB D (a+i)))),by dsimp only;omega,⟨by omega,hS.step hU hV (by omega) ha hb⟩,cK h0 [0] _ _ (by decide) rfl ⟨rfl,rfl,rfl,rfl,rfl,trivial⟩ ⟨aI rfl,rfl⟩⟩
 refine ex ?_;have hni:i=n:=by omega
 subst hni
 exact gR (lent':=[⟨64,18,((P++(V++(M++(U++Q)))).flatMap aL).map .t⟩]) (.inr rfl) rfl pU (by decide) (fun _ h=>by cases h) ⟨⟨rfl,rfl⟩,trivial⟩ ⟨congrArg (fun l:List Wv=>some (⟨64,18,(l.flatMap aL).map .t⟩:Ob)) (hS.fin hU hV),trivial⟩ ⟨eO _,trivial⟩ (fun h=>by cases h) ⟨rfl,rfl⟩
theorem PA {N:Nat}{xs Z:List Wv}{a m b:Nat}(hR:Ro m (m-a) (b-m) xs Z) (ha:a<m) (hb:m<b) (hN:xs.length=N) (hl:N≤1073741823):aD false Tryz.prog 168 [⟨64,18,(xs.flatMap aL).map .t⟩] [.one (.sl 0 0 N),.one (tv (.int .i64 ((a:Nat):Int))),.one (tv (.int .i64 ((m:Nat):Int))),.one (tv (.int .i64 ((b:Nat):Int))),.one (.t (.f 127 [] []))] (Rt [⟨64,18,(Z.flatMap aL).map .t⟩] (.tup [])):=by
 refine mQ Tryz.func168 rfl Tryz.ntmps168 rfl aA rfl fun N9 M9 w9 c0 h0=>?_
 have hR0:=hR.len
 refine sq ?_;refine rl ?_;(iterate 3 refine o1 ?_);refine WL.cast (t:=14) (u':=.int .i64 ((m-a:Nat):Int)) rfl (aC (by omega)) ?_
 refine o1 ?_;refine nl ?_;refine sq ?_;refine rl ?_;(iterate 3 refine o1 ?_);refine WL.cast (t:=17) (u':=.int .i64 ((b-m:Nat):Int)) rfl (aC (by omega)) ?_
 refine o1 ?_;refine nl ?_;refine sq ?_;refine bl ?_
 refine lp (γ:=Nat×Nat×List Wv) (fun s=>cA [(0,.one (.sl 0 0 (N))),(2,.one (tv (.int .i64 ((m:Nat):Int)))),(4,.one (.t (.f 127 [] []))),(10,.one (tv (.int .i64 ((s.1:Nat):Int)))),(11,.one (tv (.int .i64 ((s.2.1:Nat):Int))))]) (fun s=>[(⟨64,18,(s.2.2.flatMap aL).map .t⟩:Ob)].map some) (fun s=>0<s.1∧0<s.2.1∧Ro m s.1 s.2.1 s.2.2 Z∧s.2.2.length=N) (fun s=>s.1+s.2.1) (m-a,b-m,xs) ⟨by dsimp only;omega,by dsimp only;omega,hR,hN⟩ (cK h0 [0] _ _ (by decide) rfl ⟨rfl,rfl,rfl,rfl,rfl,trivial⟩ ⟨aI rfl,rfl⟩) ?_
 rintro⟨i,j,D⟩ ⟨hi,hj,hR,hDn⟩;dsimp only at hi hj hR hDn⊢;have hDl0:=hR.len
 refine sq ?_;refine sq ?_;refine rl ?_;(iterate 3 refine o1 ?_);refine nl ?_;refine bM rfl (fun h1=>?_) (fun h1=>?_)
 ·refine sk ?_;refine bl ?_;refine sq ?_;refine rl ?_;(iterate 3 refine o1 ?_);refine nl ?_;refine bM rfl (fun h2=>?_) (fun h2=>?_)
  ·refine sq ?_;refine rl ?_;(iterate 4 refine o1 ?_);refine WL.cast (t:=27) (u':=.int .i64 ((m-i:Nat):Int)) rfl (aC (by omega)) ?_
   (iterate 3 refine o1 ?_);have hDl:=hR.len
   obtain⟨P,U,M,V,Q,hD,h5,h6,h7,h8,hR2⟩:=hR.gt (by omega)
   refine cl 1 [0] (Pm (xs:=D) (a:=m-i) (b:=m) (n:=j) hD h5 h6 h7 h8 hDn hl) Pn ⟨aI rfl,rfl⟩ ⟨rfl,rfl,rfl,rfl,rfl,rfl⟩ (ok:=[some ⟨64,18,((P++(V++(M++(U++Q)))).flatMap aL).map .t⟩]) ⟨aI rfl,rfl⟩ ?_
   refine nl ?_;refine rl ?_;(iterate 3 refine o1 ?_);refine WL.cast (t:=34) (u':=.int .i64 ((i-j:Nat):Int)) rfl (aC (by omega)) ?_
   refine o1 ?_;refine nl ?_;have hD2:(P++(V++(M++(U++Q)))).length=N:=by rw[←hR2.len.2.2,hR0.2.2,hN]
   exact⟨(i-j,j,(P++(V++(M++(U++Q))))),by dsimp only;omega,⟨by dsimp only;omega,by dsimp only;omega,hR2,hD2⟩,cK h0 [0] _ _ (by decide) rfl ⟨rfl,rfl,rfl,rfl,rfl,trivial⟩ ⟨aI rfl,rfl⟩⟩
  refine sq ?_;refine rl ?_;(iterate 4 refine o1 ?_);refine WL.cast (t:=38) (u':=.int .i64 ((m-i:Nat):Int)) rfl (aC (by omega)) ?_
  (iterate 3 refine o1 ?_);refine WL.cast (t:=41) (u':=.int .i64 ((m+j:Nat):Int)) rfl (aC (by omega)) ?_
  refine o1 ?_;refine o1 ?_;refine WL.cast (t:=43) (u':=.int .i64 ((m+j-i:Nat):Int)) rfl (aC (by omega)) ?_
  refine o1 ?_;refine o1 ?_;have hDl:=hR.len
  obtain⟨P,U,M,V,Q,hD,h5,h6,h7,h8,hR2⟩:=hR.lt (by omega)
  refine cl 1 [0] (Pm (xs:=D) (a:=m-i) (b:=m+j-i) (n:=i) hD h5 h6 h7 h8 hDn hl) Pn ⟨aI rfl,rfl⟩ ⟨rfl,rfl,rfl,rfl,rfl,rfl⟩ (ok:=[some ⟨64,18,((P++(V++(M++(U++Q)))).flatMap aL).map .t⟩]) ⟨aI rfl,rfl⟩ ?_
  refine nl ?_;refine rl ?_;(iterate 3 refine o1 ?_);refine WL.cast (t:=49) (u':=.int .i64 ((j-i:Nat):Int)) rfl (aC (by omega)) ?_
  refine o1 ?_;refine nl ?_;have hD2:(P++(V++(M++(U++Q)))).length=N:=by rw[←hR2.len.2.2,hR0.2.2,hN]
  exact⟨(i,j-i,(P++(V++(M++(U++Q))))),by dsimp only;omega,⟨by dsimp only;omega,by dsimp only;omega,hR2,hD2⟩,cK h0 [0] _ _ (by decide) rfl ⟨rfl,rfl,rfl,rfl,rfl,trivial⟩ ⟨aI rfl,rfl⟩⟩
 refine ex ?_;refine rl ?_;(iterate 4 refine o1 ?_);refine WL.cast (t:=53) (u':=.int .i64 ((m-i:Nat):Int)) rfl (aC (by omega)) ?_
 (iterate 3 refine o1 ?_);have hij:i=j:=by omega
 subst hij;have hDl:=hR.len
 obtain⟨P,U,V,Q,hD,h5,h6,h7,h8,hR2⟩:=hR.eq
 refine cl 1 [0] (Pm (xs:=D) (a:=m-i) (b:=m) (n:=i) hD h5 h6 h7 h8 hDn hl) Pn ⟨aI rfl,rfl⟩ ⟨rfl,rfl,rfl,rfl,rfl,rfl⟩ (ok:=[some ⟨64,18,((P++(V++([]++(U++Q)))).flatMap aL).map .t⟩]) ⟨aI rfl,rfl⟩ ?_
 refine nl ?_
 exact gR (lent':=[⟨64,18,(Z.flatMap aL).map .t⟩]) (.inr rfl) rfl pU (by decide) (fun _ h=>by cases h) ⟨⟨rfl,rfl⟩,trivial⟩ ⟨congrArg (fun l:List Wv=>some (⟨64,18,(l.flatMap aL).map .t⟩:Ob)) hR2,trivial⟩ ⟨eO _,trivial⟩ (fun h=>by cases h) ⟨rfl,rfl⟩
end Go.Proofs.YtbbabfkgdnkehaaGreat
