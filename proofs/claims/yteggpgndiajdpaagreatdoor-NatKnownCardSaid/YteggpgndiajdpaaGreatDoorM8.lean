/- Part 8 of a proof: N6 to P5. -/
import Derived.Test.YteggpgndiajdpaaGreatDoorM7
import Derived.Test.YteggpgndiajdpaaGreatDoorM6
set_option maxRecDepth 100000
set_option linter.unusedVariables false
set_option linter.unusedSimpArgs false
namespace Go.Proofs.YteggpgndiajdpaaGreatDoor
open Go Go.RowKit
theorem eE {xs:List Nat}{u:Nat}(hl:Lim 4294967296 xs) (hx:xs.length≤10000) (hu:vl 4294967296 xs=u):aJ false Tryz.prog 16 [] [.one (.t (sU false xs))] (bC (bR (dg 2 (u)))):=by
 refine cR Tryz.func16 rfl Tryz.ntmps16 rfl aG rfl fun N9 w9 c0 h0=>?_
 refine sq ?_;refine rl ?_;refine o1 ?_;refine nl ?_;refine sq ?_;refine rl ?_;refine o1 ?_;refine nl ?_;refine sq ?_;refine sq ?_;refine rl ?_;refine o1 ?_;refine nl ?_;refine bl ?_
 refine lp (γ:=Nat×List Nat) (fun s=>bO [(0,.one (.t (sU false xs))),(3,.one (.sl 0 0 (32*s.1))),(4,.one (tv (.int .i64 ((s.1:Nat):Int))))]) (fun s=>[(⟨5,1,(aV s.2).map .t⟩:Ob)].map some) (fun s=>s.1≤xs.length∧s.2.length=32*s.1∧Lim 2 s.2∧vl 2 s.2=vl 4294967296 (xs.take s.1)) (fun s=>xs.length-s.1) (0,[]) ⟨Nat.zero_le _,rfl,Lim.nil,rfl⟩ ((nr (i:=3) 0 5 1 rfl rfl rfl rfl).trans (aZ h0 [0] _ _ (by decide) ⟨rfl,rfl,rfl,trivial⟩ ⟨cG (l:=[]) rfl,rfl⟩)) ?_
 rintro⟨i,os⟩ ⟨hi,hos,hol,hv⟩;dsimp only at hi hos hol hv⊢;have hxi:=hl.nth (by omega) i
 refine sq ?_;refine sq ?_;refine rl ?_;(iterate 4 refine o1 ?_);refine nl ?_;refine bG rfl (fun h1=>?_) (fun h1=>?_)
 ·refine sk ?_;refine sq ?_;refine bl ?_;refine sq ?_;refine rl ?_;refine o1 ?_;refine nl ?_;refine bl ?_
  refine lp (γ:=Nat×List Nat) (fun s=>bO [(0,.one (.t (sU false xs))),(3,.one (.sl 0 0 (32*i+s.1))),(4,.one (tv (.int .i64 ((i:Nat):Int)))),(5,.one (tv (.int .i64 ((s.1:Nat):Int))))]) (fun s=>[(⟨5,1,(aV s.2).map .t⟩:Ob)].map some) (fun s=>s.1≤32∧s.2.length=32*i+s.1∧Lim 2 s.2∧vl 2 s.2=vl 4294967296 (xs.take i)+2^(32*i)*(nth xs i%2^s.1)) (fun s=>32-s.1) (0,os) ⟨Nat.zero_le _,(by omega),hol,(by rw[hv,Nat.pow_zero,Nat.mod_one,Nat.mul_zero,Nat.add_zero])⟩ (aZ h0 [0] _ _ (by decide) ⟨rfl,rfl,rfl,rfl,trivial⟩ ⟨cG rfl,rfl⟩) ?_
  rintro⟨k,ps⟩ ⟨hk,hos2,hol2,hv2⟩;dsimp only at hk hos2 hol2 hv2⊢;refine sq ?_;refine sq ?_;refine rl ?_;refine o1 ?_;refine o1 ?_;refine nl ?_
  refine bG rfl (fun h2=>?_) (fun h2=>?_)
  ·refine sk ?_;refine sq ?_;refine bl ?_;refine rl ?_;(iterate 4 refine o1 ?_);refine jS ([.v (.int .u32 ((nth xs (i):Nat):Int))]) (bU xs (k:=i) (by omega)) ?_
   refine o1 ?_;refine o1 ?_;refine WL.cast (t:=22) (u':=.int .u32 ((((nth xs (i))/2^k):Nat):Int)) rfl (aD (Qu (by omega))) ?_
   refine o1 ?_;refine WL.cast (t:=23) (u':=.int .u32 ((((nth xs (i))/2^k%2):Nat):Int)) rfl (aD (Kn (Nat.lt_of_le_of_lt (Nat.div_le_self _ _) (by omega)))) ?_
   refine o1 ?_;refine WL.cast (t:=24) (u':=.int .u8 ((((nth xs (i))/2^k%2):Nat):Int)) rfl (aD (by omega)) ?_
   refine bs 1 ?_;refine kN (j:=2) aG rfl rfl rfl rfl (.sl rfl (by rw[List.length_map,fN,hos2];omega)) (.sl rfl rfl rfl) rfl rfl rfl (by omega) (by omega) ?_
   refine o1 ?_;refine nl ?_;refine rl ?_;refine o1 ?_;refine o1 ?_;refine WL.cast (t:=15) (u':=.int .i64 ((k+1:Nat):Int)) rfl (aD (by omega)) ?_
   refine o1 ?_;refine nl ?_
   exact⟨(k+1,ps++[nth xs i/2^k%2]),by dsimp only;omega,⟨by dsimp only;omega,(by dsimp only;rw[List.length_append,hos2];simp;omega),hol2.append (Lim.cons (Nat.mod_lt _ (by omega)) Lim.nil),Ex hos2 hv2⟩,aZ h0 [2] _ _ (by decide) ⟨rfl,rfl,rfl,rfl,trivial⟩ ⟨cG (congrArg (fun l:List AV=>some (⟨5,1,l⟩:Ob)) (lM ps [nth xs i/2^k%2])),rfl⟩⟩
  refine ex ?_;refine rl ?_;refine o1 ?_;refine o1 ?_;refine WL.cast (t:=11) (u':=.int .i64 ((i+1:Nat):Int)) rfl (aD (by omega)) ?_
  refine o1 ?_;refine nl ?_;have hk32:k=32:=by omega
  rw[hk32]at hv2
  exact⟨(i+1,ps),by dsimp only;omega,⟨by dsimp only;omega,by dsimp only;omega,hol2,(Ey (by omega) hv2)⟩,aZ h0 [0] _ _ (by decide) ⟨rfl,(congrArg (fun n:Nat=>some (FV.one (.sl 0 0 n))) (show 32*(i+1)=32*i+k by omega)),rfl,trivial⟩ ⟨cG rfl,rfl⟩⟩
 refine ex ?_;refine sq ?_;refine rl ?_;have hi9:i=xs.length:=by omega
 rw[hi9,List.take_length,hu]at hv;have htr:=fL (by omega) hol hv
 refine WL.sub (rO (i:=3) (zs:=os) (zs':=os) rfl rfl rfl (by omega) rfl) ?_
 refine o1 ?_;refine ca (fC (xs:=os) (by omega) htr) kW ⟨a1 rfl,rfl⟩ ((bR (dg 2 (u)))) ?_
 refine o1 ?_;refine nl ?_;refine rt ?_;exact en (.inl rfl) rfl (eA (.one (.id rfl))) (by decide) (fun h=>by cases h) rfl
theorem Ac {u:Nat}(hu:(dg 2 (u)).length≤900000):aJ true Tryz.prog 55 [] [(bR (dg 2 (u)))] (bC (nO u)):=by
 refine cR Tryz.func55 rfl Tryz.ntmps55 rfl aG rfl fun N9 w9 c0 h0=>?_
 have hX:=bE (B:=2) (by omega) u
 have hvX:=bL (B:=2) (by omega) u
 refine sq ?_;refine rl ?_;refine o1 ?_;refine nl ?_;refine sq ?_;refine rl ?_;refine o1 ?_
 refine ca (fC (xs:=(dg 2 (u))) (by omega) (fL (by omega) (bE (by omega) u) (bL (by omega) u))) kW ⟨a1 rfl,rfl⟩ ((bR (dg 2 (u)))) ?_
 refine o1 ?_;refine nl ?_;refine sq ?_;refine rl ?_;refine o1 ?_;refine nl ?_;refine sq ?_;refine sq ?_;refine rl ?_;refine o1 ?_;refine nl ?_;refine bl ?_
 refine lp (γ:=Nat×List Nat) (fun s=>bO [(0,.one (.t (.s false 5 1 (dg 2 (u)).length (aV (dg 2 (u)))))),(3,.one (.sl 0 0 ((s.1+31)/32))),(4,.one (tv (.int .i64 ((s.1:Nat):Int))))]) (fun s=>[(⟨22,1,(aB s.2).map .t⟩:Ob)].map some) (fun s=>s.1≤(dg 2 (u)).length∧s.2.length=(s.1+31)/32∧Lim 4294967296 s.2∧vl 4294967296 s.2=vl 2 ((dg 2 u).take s.1)) (fun s=>(dg 2 (u)).length-s.1) (0,[]) ⟨Nat.zero_le _,rfl,Lim.nil,rfl⟩ ((nr (i:=3) 0 22 1 rfl rfl rfl rfl).trans (aZ h0 [0] _ _ (by decide) ⟨rfl,rfl,rfl,trivial⟩ ⟨cG (l:=[]) rfl,rfl⟩)) ?_
 rintro⟨i,ws⟩ ⟨hi,hws,hol,hv⟩;dsimp only at hi hws hol hv⊢;refine sq ?_;refine sq ?_;refine rl ?_;(iterate 4 refine o1 ?_);refine nl ?_;refine bG rfl (fun h1=>?_) (fun h1=>?_)
 ·refine sk ?_;refine sq ?_;refine bl ?_;refine sq ?_;refine sq ?_;refine rl ?_;refine o1 ?_;refine o1 ?_
  refine WL.cast (t:=14) (u':=.int .i64 ((i%32:Nat):Int)) rfl (aD (eO _ 32)) ?_;refine o1 ?_;refine nl ?_;refine bG rfl (fun h2=>?_) (fun h2=>?_)
  ·refine rl ?_;refine o1 ?_;refine bs 1 ?_
   refine kN (j:=2) aG rfl rfl rfl rfl (.sl rfl (by rw[List.length_map,mP,hws];omega)) (.sl rfl rfl rfl) rfl rfl rfl (by omega) (by omega) ?_
   refine WL.sub (Sy (j:=2) (t:=22) (z:=1) (l':=(aB (ws++[0])).map .t) rfl (Gr ws [0])) ?_;refine o1 ?_;refine nl ?_
   have hvw:vl 4294967296 (ws++[0])=vl 2 ((dg 2 u).take i):=by rw[fA,Nat.mul_zero,Nat.add_zero];exact hv
   have hlw:(ws++[0]).length=i/32+1:=by rw[List.length_append];simp;omega
   have hb1:=Ab hX hvw
   have hb2:=hX.nth (by omega) i
   have hb3:2^(i%32)≤2^31:=Nat.pow_le_pow_right (by omega) (by omega)
   have hb4:=uF (ws:=(ws++[0])) (X:=dg 2 u) (i:=i) (by omega) hvw
   have hb5:nth (dg 2 u) i*2^(i%32)≤1*2^(i%32):=Nat.mul_le_mul_right _ (by omega)
   have hlim:Lim 4294967296 ((ws++[0]).set (i/32) (nth (ws++[0]) (i/32)+nth (dg 2 u) i*2^(i%32))):=Lim.set (hol.append (Lim.cons (by omega) Lim.nil)) _ (by omega)
   refine rd [1,2] (fun i=>[18].contains i) mixed ?_
   refine dv 0 ?_;refine dv 1 ?_;refine dv 2 ?_ (hC:=(oC 32 (by omega) (by simp only[gG];omega)))
   refine WD.cast (t:=21) (u':=.int .i64 ((i/32:Nat):Int)) rfl (aD (jE _ 32)) ?_;refine dv 3 ?_;refine dv 4 ?_
   refine dv 5 ?_ (hC:=(oC 32 (by omega) (by simp only[gG];omega)))
   refine WD.cast (t:=24) (u':=.int .i64 ((i/32:Nat):Int)) rfl (aD (jE _ 32)) ?_;refine dv 6 ?_;refine Ms 7 (Eh (ws++[0]) (k:=i/32) (by omega)) ?_
   refine dv 8 ?_;refine dv 9 ?_;refine dv 10 ?_;refine eK 11 ([.v (.int .u8 ((nth (dg 2 (u)) (i):Nat):Int))]) (gP (dg 2 (u)) (k:=i) (by omega)) ?_
   refine dv 12 ?_;refine WD.cast (t:=31) (u':=.int .u32 ((nth (dg 2 (u)) (i):Nat):Int)) rfl (aD (by omega)) ?_
   refine dv 13 ?_;refine dv 14 ?_;refine WD.cast (t:=33) (u':=.int .i64 ((i%32:Nat):Int)) rfl (aD (eO _ 32)) ?_;refine dv 15 ?_
   refine WD.cast (t:=34) (u':=.int .u32 (((nth (dg 2 (u)) (i)*2^(i%32)):Nat):Int)) rfl (aD (Ie (by omega) (by omega))) ?_
   refine dv 16 ?_;refine WD.cast (t:=35) (u':=.int .u32 ((nth (ws++[0]) (i/32)+(nth (dg 2 (u)) (i)*2^(i%32)):Nat):Int)) rfl (aD (by omega)) ?_
   refine dv 17 ?_;refine Az 18 (tA (ws++[0]) (k:=i/32) (v:=nth (ws++[0]) (i/32)+(nth (dg 2 (u)) (i)*2^(i%32))) (by omega)) (wX (ws++[0]) (by omega)) ?_
   refine mY ?_;refine rl ?_;refine o1 ?_;refine o1 ?_;refine WL.cast (t:=12) (u':=.int .i64 ((i+1:Nat):Int)) rfl (aD (by omega)) ?_
   refine o1 ?_;refine nl ?_
   exact⟨(i+1,(ws++[0]).set (i/32) (nth (ws++[0]) (i/32)+nth (dg 2 u) i*2^(i%32))),by dsimp only;omega,⟨by dsimp only;omega,(by dsimp only;rw[List.length_set];omega),hlim,hb4⟩,aZ h0 [2] _ _ (by decide) ⟨rfl,(congrArg (fun n:Nat=>some (FV.one (.sl 2 0 n))) (by omega)),rfl,trivial⟩ ⟨cG rfl,rfl⟩⟩
  refine sk ?_;have hvw:=hv
  have hlw:ws.length=i/32+1:=by omega
  have hb1:=Ab hX hvw
  have hb2:=hX.nth (by omega) i
  have hb3:2^(i%32)≤2^31:=Nat.pow_le_pow_right (by omega) (by omega)
  have hb4:=uF (ws:=ws) (X:=dg 2 u) (i:=i) (by omega) hvw
  have hb5:nth (dg 2 u) i*2^(i%32)≤1*2^(i%32):=Nat.mul_le_mul_right _ (by omega)
  have hlim:Lim 4294967296 (ws.set (i/32) (nth ws (i/32)+nth (dg 2 u) i*2^(i%32))):=Lim.set (hol) _ (by omega)
  refine rd [0] (fun i=>[18].contains i) mixed ?_
  refine dv 0 ?_;refine dv 1 ?_;refine dv 2 ?_ (hC:=(oC 32 (by omega) (by simp only[gG];omega)))
  refine WD.cast (t:=21) (u':=.int .i64 ((i/32:Nat):Int)) rfl (aD (jE _ 32)) ?_;refine dv 3 ?_;refine dv 4 ?_
  refine dv 5 ?_ (hC:=(oC 32 (by omega) (by simp only[gG];omega)))
  refine WD.cast (t:=24) (u':=.int .i64 ((i/32:Nat):Int)) rfl (aD (jE _ 32)) ?_;refine dv 6 ?_;refine Ms 7 (Eh ws (k:=i/32) (by omega)) ?_
  refine dv 8 ?_;refine dv 9 ?_;refine dv 10 ?_;refine eK 11 ([.v (.int .u8 ((nth (dg 2 (u)) (i):Nat):Int))]) (gP (dg 2 (u)) (k:=i) (by omega)) ?_
  refine dv 12 ?_;refine WD.cast (t:=31) (u':=.int .u32 ((nth (dg 2 (u)) (i):Nat):Int)) rfl (aD (by omega)) ?_
  refine dv 13 ?_;refine dv 14 ?_;refine WD.cast (t:=33) (u':=.int .i64 ((i%32:Nat):Int)) rfl (aD (eO _ 32)) ?_;refine dv 15 ?_
  refine WD.cast (t:=34) (u':=.int .u32 (((nth (dg 2 (u)) (i)*2^(i%32)):Nat):Int)) rfl (aD (Ie (by omega) (by omega))) ?_
  refine dv 16 ?_;refine WD.cast (t:=35) (u':=.int .u32 ((nth ws (i/32)+(nth (dg 2 (u)) (i)*2^(i%32)):Nat):Int)) rfl (aD (by omega)) ?_
  refine dv 17 ?_;refine Az 18 (tA ws (k:=i/32) (v:=nth ws (i/32)+(nth (dg 2 (u)) (i)*2^(i%32))) (by omega)) (wX ws (by omega)) ?_
  refine mY ?_;refine rl ?_;refine o1 ?_;refine o1 ?_;refine WL.cast (t:=12) (u':=.int .i64 ((i+1:Nat):Int)) rfl (aD (by omega)) ?_
  refine o1 ?_;refine nl ?_
  exact⟨(i+1,ws.set (i/32) (nth ws (i/32)+nth (dg 2 u) i*2^(i%32))),by dsimp only;omega,⟨by dsimp only;omega,(by dsimp only;rw[List.length_set];omega),hlim,hb4⟩,aZ h0 [0] _ _ (by decide) ⟨rfl,(congrArg (fun n:Nat=>some (FV.one (.sl 0 0 n))) (by omega)),rfl,trivial⟩ ⟨cG rfl,rfl⟩⟩
 refine ex ?_;refine sq ?_;refine rl ?_;refine o1 ?_;refine o1 ?_;refine nl ?_;refine rt ?_;have hi9:i=(dg 2 (u)).length:=by omega
 rw[hi9,List.take_length,hvX]at hv;rw[hi9]at hws;have hwd:=Fa hol hv hws
 exact en (.inl rfl) rfl (eA (.one (.sl (trs:=aB ws) rfl rfl (by rw[hi9,←hws];exact jW _) (by rw[hi9,←hws];exact dD _)))) (by decide) (fun _=>.inl ⟨rfl,gF _⟩) (by rw[hi9,←hws];exact congrArg (fun l:List Nat=>FV.one (.t (sU true l))) hwd)
theorem lT {n:Nat}(hn:n<4294967296):aJ false Tryz.prog 54 [] [.one (tv (.int .u32 ((n:Nat):Int)))] (bC (bR (dg 2 (n)))):=by
 refine cR Tryz.func54 rfl Tryz.ntmps54 rfl aG rfl fun N9 w9 c0 h0=>?_
 refine sq ?_;refine rl ?_;refine o1 ?_;refine nl ?_;refine sq ?_;refine rl ?_;refine o1 ?_;refine bs 0 ?_;refine WL.sub (uC (i:=4) (zs:=[n]) (zs':=[n]) rfl rfl rfl rfl rfl) ?_
 refine ca (eE (xs:=[n]) (u:=n) (Lim.cons hn Lim.nil) (by simp) (by simp[vl])) gO ⟨a1 rfl,rfl⟩ ((bR (dg 2 (n)))) ?_
 refine o1 ?_;refine nl ?_;refine rt ?_;exact en (.inl rfl) rfl (eA (.one (.id rfl))) (by decide) (fun h=>by cases h) rfl
theorem uT {u v:Nat}(hu:(dg 2 (u)).length≤200000) (hv:(dg 2 (v)).length≤200000):aJ false Tryz.prog 53 [] [(bR (dg 2 (u))),(bR (dg 2 (v)))] (bC (bR (dg 2 (u*v)))):=by
 refine cR Tryz.func53 rfl Tryz.ntmps53 rfl aG rfl fun N9 w9 c0 h0=>?_
 have hY:=bE (B:=2) (by omega) v
 have hvY:=bL (B:=2) (by omega) v
 refine sq ?_;refine rl ?_;refine o1 ?_;refine nl ?_;refine sq ?_;refine rl ?_;refine o1 ?_;refine nl ?_;refine sq ?_;refine sq ?_;refine rl ?_;(iterate 4 refine o1 ?_);refine nl ?_
 refine bl ?_
 refine lp (γ:=Nat) (fun s=>bO [(0,.one (.t (.s false 5 1 (dg 2 (u)).length (aV (dg 2 (u)))))),(1,.one (.t (.s false 5 1 (dg 2 (v)).length (aV (dg 2 (v)))))),(5,.one (.t (.s false 5 1 (dg 2 (u*vl 2 ((dg 2 (v)).drop (s)))).length (aV (dg 2 (u*vl 2 ((dg 2 (v)).drop (s)))))))),(6,.one (tv (.int .i64 (((s:Nat):Int)-1))))]) (fun s=>([]:List Ob).map some) (fun s=>s≤(dg 2 (v)).length) (fun s=>s) ((dg 2 (v)).length) (Nat.le_refl _) (((nr (i:=5) 0 5 1 rfl rfl rfl rfl).trans (rO (i:=5) (zs:=[]) (zs':=[]) rfl rfl rfl rfl rfl)).trans (aZ h0 [] _ _ (by decide) ⟨rfl,rfl,(congrArg (fun z:Nat=>some (bR (dg 2 z))) (show u*vl 2 ((dg 2 (v)).drop ((dg 2 (v)).length))=0 by rw[List.drop_length];rfl)),rfl,trivial⟩ rfl)) ?_
 rintro i hi;refine sq ?_;refine sq ?_;refine rl ?_;refine o1 ?_;refine o1 ?_;refine nl ?_;refine bG rfl (fun h1=>?_) (fun h1=>?_)
 ·refine sk ?_;refine sq ?_;refine bl ?_;refine sq ?_;have hds:=dO 2 (l:=(dg 2 (v))) (k:=i) (by omega) hi
  have hdl:=rN (B:=2) (l:=(dg 2 (v))) (k:=i) (by omega) hi
  have hdl2:=oZ u (vl 2 ((dg 2 (v)).drop i))
  have hdl3:=cU (B:=2) (by omega) hdl
  rw[hvY]at hdl3;have hdl4:=zY (L:=400000) (u:=u*vl 2 ((dg 2 (v)).drop (i))) (v:=u*vl 2 ((dg 2 (v)).drop (i))) (by omega) (by omega)
  have hdl5:(dg 2 (2*(u*vl 2 ((dg 2 (v)).drop (i)))+0)).length≤400001:=by rw[show 2*(u*vl 2 ((dg 2 (v)).drop (i)))+0=u*vl 2 ((dg 2 (v)).drop (i))+u*vl 2 ((dg 2 (v)).drop (i)) by omega];exact hdl4
  have hni:=hY.nth (by omega) (i-1)
  refine rl ?_;refine o1 ?_
  refine ca (Bw (u:=u*vl 2 ((dg 2 (v)).drop (i))) (d:=0) (by omega) (by omega)) uQ ⟨a1 rfl,a1 rfl,rfl⟩ ((bR (dg 2 (2*(u*vl 2 ((dg 2 (v)).drop (i)))+0)))) ?_
  refine o1 ?_;refine nl ?_;refine sq ?_;refine rl ?_;refine o1 ?_;refine o1 ?_;refine WL.cast (t:=17) (u':=.int .i64 ((i-1:Nat):Int)) rfl (aD (by omega)) ?_
  refine o1 ?_;refine jS ([.v (.int .u8 ((nth (dg 2 (v)) (i-1):Nat):Int))]) (gP (dg 2 (v)) (k:=i-1) (by omega)) ?_
  refine o1 ?_;refine nl ?_;refine bG rfl (fun h2=>?_) (fun h2=>?_)
  ·refine rl ?_;refine o1 ?_;refine o1 ?_
   refine ca (Ih (u:=2*(u*vl 2 ((dg 2 (v)).drop (i)))+0) (v:=u) (by omega) (by omega)) Mo ⟨a1 rfl,a1 rfl,rfl⟩ ((bR (dg 2 (2*(u*vl 2 ((dg 2 (v)).drop (i)))+0+u)))) ?_
   refine o1 ?_;refine nl ?_;refine rl ?_;(iterate 3 refine o1 ?_);refine nl ?_
   have hpe:u*vl 2 ((dg 2 (v)).drop (i-1))=2*(u*vl 2 ((dg 2 (v)).drop (i)))+0+u:=by rw[hds,show nth (dg 2 (v)) (i-1)=1 by omega,Nat.mul_add,←Nat.mul_assoc,Nat.mul_comm u 2,Nat.mul_assoc];omega
   exact⟨i-1,by omega,by omega,aZ h0 [] _ _ (by decide) ⟨rfl,rfl,(congrArg (fun z:Nat=>some (bR (dg 2 z))) hpe),nY (by omega),trivial⟩ rfl⟩
  refine sk ?_;refine rl ?_;(iterate 3 refine o1 ?_);refine nl ?_
  have hpe:u*vl 2 ((dg 2 (v)).drop (i-1))=2*(u*vl 2 ((dg 2 (v)).drop (i)))+0:=by rw[hds,show nth (dg 2 (v)) (i-1)=0 by omega,Nat.mul_add,←Nat.mul_assoc,Nat.mul_comm u 2,Nat.mul_assoc];omega
  exact⟨i-1,by omega,by omega,aZ h0 [] _ _ (by decide) ⟨rfl,rfl,(congrArg (fun z:Nat=>some (bR (dg 2 z))) hpe),nY (by omega),trivial⟩ rfl⟩
 refine ex ?_;refine sq ?_;refine rl ?_;refine o1 ?_;refine o1 ?_;refine nl ?_;refine rt ?_;have hi0:i=0:=by omega
 exact en (.inl rfl) rfl (eA (.one (.id rfl))) (by decide) (fun h=>by cases h) (by rw[hi0,List.drop_zero,hvY];rfl)
theorem qE {u v:Nat}(hu:(dg 2 (u)).length≤200000) (hv:(dg 2 (v)).length≤200000) (hv0:v≠0):aJ false Tryz.prog 61 [] [(bR (dg 2 (u))),(bR (dg 2 (v)))] (bC (.tup [(bR (dg 2 (u/v))),(bR (dg 2 (u%v)))])):=by
 refine cR Tryz.func61 rfl Tryz.ntmps61 rfl aG rfl fun N9 w9 c0 h0=>?_
 have hX:=bE (B:=2) (by omega) u
 have hvX:=bL (B:=2) (by omega) u
 refine sq ?_;refine rl ?_;refine o1 ?_;refine o1 ?_;refine nl ?_;refine sq ?_;refine rl ?_;refine o1 ?_;refine o1 ?_;refine nl ?_;refine sq ?_;refine sq ?_;refine rl ?_
 (iterate 4 refine o1 ?_);refine nl ?_;refine bl ?_
 refine lp (γ:=Nat×Nat×Nat) (fun s=>bO [(0,.one (.t (.s false 5 1 (dg 2 (u)).length (aV (dg 2 (u)))))),(1,.one (.t (.s false 5 1 (dg 2 (v)).length (aV (dg 2 (v)))))),(6,.one (.t (.s false 5 1 (dg 2 (s.2.1)).length (aV (dg 2 (s.2.1)))))),(7,.one (.t (.s false 5 1 (dg 2 (s.2.2)).length (aV (dg 2 (s.2.2)))))),(8,.one (tv (.int .i64 (((s.1:Nat):Int)-1))))]) (fun s=>([]:List Ob).map some) (fun s=>s.1≤(dg 2 (u)).length∧s.2.1*v+s.2.2=vl 2 ((dg 2 (u)).drop s.1)∧s.2.2<v) (fun s=>s.1) ((dg 2 (u)).length,0,0) ⟨Nat.le_refl _,(by rw[List.drop_length];simp[vl]),Nat.pos_of_ne_zero hv0⟩ (((((nr (i:=6) 0 5 1 rfl rfl rfl rfl).trans (rO (i:=6) (zs:=[]) (zs':=[]) rfl rfl rfl rfl rfl)).trans (nr (i:=7) 1 5 1 rfl rfl rfl rfl)).trans (rO (i:=7) (zs:=[]) (zs':=[]) rfl rfl rfl rfl rfl)).trans (aZ h0 [] _ _ (by decide) ⟨rfl,rfl,rfl,rfl,rfl,trivial⟩ rfl)) ?_
 rintro⟨i,q,r⟩ ⟨hi,hq,hr⟩;dsimp only at hi hq hr⊢;refine sq ?_;refine sq ?_;refine rl ?_;refine o1 ?_;refine o1 ?_;refine nl ?_;refine bG rfl (fun h1=>?_) (fun h1=>?_)
 ·refine sk ?_;refine sq ?_;refine bl ?_;refine sq ?_;have hds:=dO 2 (l:=(dg 2 (u))) (k:=i) (by omega) hi
  have hni:=hX.nth (by omega) (i-1)
  have hdl:=rN (B:=2) (l:=(dg 2 (u))) (k:=i) (by omega) hi
  have hrl:=gI (Nat.le_of_lt hr) hv
  have hrl2:(dg 2 (2*r+nth (dg 2 (u)) (i-1))).length≤200001:=gI (show 2*r+nth (dg 2 (u)) (i-1)≤v+v by omega) (zY hv hv)
  have hqv:q≤q*v:=Nat.le_mul_of_pos_right q (by omega)
  have hql:(dg 2 (q)).length≤200000:=gI (show q≤u by omega) hu
  refine rl ?_;(iterate 3 refine o1 ?_);refine WL.cast (t:=19) (u':=.int .i64 ((i-1:Nat):Int)) rfl (aD (by omega)) ?_
  refine o1 ?_;refine jS ([.v (.int .u8 ((nth (dg 2 (u)) (i-1):Nat):Int))]) (gP (dg 2 (u)) (k:=i-1) (by omega)) ?_
  refine ca (Bw (u:=r) (d:=nth (dg 2 (u)) (i-1)) (by omega) (by omega)) uQ ⟨a1 rfl,a1 rfl,rfl⟩ ((bR (dg 2 (2*r+nth (dg 2 (u)) (i-1))))) ?_
  refine o1 ?_;refine nl ?_;refine sq ?_;refine rl ?_;refine o1 ?_;refine nl ?_;refine sq ?_;refine sq ?_;refine rl ?_;refine o1 ?_;refine o1 ?_
  refine ca (Ok (u:=2*r+nth (dg 2 (u)) (i-1)) (v:=v) (by omega) (by omega)) Pt ⟨a1 rfl,a1 rfl,rfl⟩ (.one (tv (.bool (decide (2*r+nth (dg 2 (u)) (i-1)<v))))) ?_
  refine o1 ?_;refine nl ?_;refine nJ rfl (fun h2=>?_) (fun h2=>?_)
  ·refine sq ?_;have hge:¬2*r+nth (dg 2 (u)) (i-1)<v:=of_decide_eq_false (Hz h2)
   refine rl ?_;refine o1 ?_;refine o1 ?_
   refine ca (Qv (u:=2*r+nth (dg 2 (u)) (i-1)) (v:=v) (by omega) (by omega) (by omega)) Pu ⟨a1 rfl,a1 rfl,rfl⟩ ((bR (dg 2 (2*r+nth (dg 2 (u)) (i-1)-v)))) ?_
   refine o1 ?_;refine nl ?_;refine rl ?_;refine o1 ?_;refine nl ?_;refine rl ?_;refine o1 ?_;refine o1 ?_
   refine ca (Bw (u:=q) (d:=1) (by omega) (by omega)) uQ ⟨a1 rfl,a1 rfl,rfl⟩ ((bR (dg 2 (2*q+1)))) ?_
   refine o1 ?_;refine nl ?_;refine rl ?_;(iterate 3 refine o1 ?_);refine nl ?_
   exact⟨(i-1,2*q+1,2*r+nth (dg 2 (u)) (i-1)-v),by dsimp only;omega,⟨by dsimp only;omega,(by dsimp only;rw[hds,←hq,Nat.add_mul,Nat.mul_assoc];omega),by dsimp only;omega⟩,aZ h0 [] _ _ (by decide) ⟨rfl,rfl,rfl,rfl,nY (by omega),trivial⟩ rfl⟩
  refine sk ?_;refine rl ?_;refine o1 ?_;refine o1 ?_;refine ca (Bw (u:=q) (d:=0) (by omega) (by omega)) uQ ⟨a1 rfl,a1 rfl,rfl⟩ ((bR (dg 2 (2*q+0)))) ?_
  refine o1 ?_;refine nl ?_;refine rl ?_;(iterate 3 refine o1 ?_);refine nl ?_;have hlt:2*r+nth (dg 2 (u)) (i-1)<v:=of_decide_eq_true (zB h2)
  exact⟨(i-1,2*q+0,2*r+nth (dg 2 (u)) (i-1)),by dsimp only;omega,⟨by dsimp only;omega,(by dsimp only;rw[hds,←hq,Nat.add_mul,Nat.mul_assoc];omega),by dsimp only;omega⟩,aZ h0 [] _ _ (by decide) ⟨rfl,rfl,rfl,rfl,nY (by omega),trivial⟩ rfl⟩
 refine ex ?_;refine sq ?_;refine rl ?_;(iterate 4 refine o1 ?_);refine nl ?_;refine rt ?_;have hi0:i=0:=by omega
 rw[hi0,List.drop_zero,hvX]at hq;have hdq:u/v=q:=by rw[←hq,Nat.mul_comm,Nat.mul_add_div (by omega),Nat.div_eq_of_lt hr,Nat.add_zero]
 have hdr:u%v=r:=by rw[←hq,Nat.mul_comm,Nat.mul_add_mod,Nat.mod_eq_of_lt hr]
 exact en (.inl rfl) rfl (fQ (.cons (.one (.id rfl)) (.cons (.one (.id rfl)) .nil))) (by decide) (fun h=>by cases h) (by rw[hdq,hdr];rfl)
theorem Qw {u v:Nat}(hu:(dg 2 (u)).length≤200000) (hv:(dg 2 (v)).length≤200000):aJ false Tryz.prog 65 [] [(bR (dg 2 (u))),(bR (dg 2 (v)))] (bC (bR (dg 2 (Nat.gcd u v)))):=by
 refine cR Tryz.func65 rfl Tryz.ntmps65 rfl aG rfl fun N9 w9 c0 h0=>?_
 refine sq ?_;refine rl ?_;refine o1 ?_;refine nl ?_;refine sq ?_;refine bl ?_
 refine lp (γ:=Nat×Nat) (fun s=>bO [(0,.one (.t (.s false 5 1 (dg 2 (s.1)).length (aV (dg 2 (s.1)))))),(1,.one (.t (.s false 5 1 (dg 2 (s.2)).length (aV (dg 2 (s.2))))))]) (fun s=>([]:List Ob).map some) (fun s=>Nat.gcd s.1 s.2=Nat.gcd u v∧(dg 2 (s.1)).length≤200000∧(dg 2 (s.2)).length≤200000) (fun s=>s.2) (u,v) ⟨rfl,hu,hv⟩ (aZ h0 [] _ _ (by decide) ⟨rfl,rfl,trivial⟩ rfl) ?_
 rintro⟨p,q⟩ ⟨hg,hlp,hlq⟩;dsimp only at hg hlp hlq⊢;refine sq ?_;refine sq ?_;refine rl ?_;refine o1 ?_
 refine ca (fC (xs:=(dg 2 (q))) (by omega) (fL (by omega) (bE (by omega) q) (bL (by omega) q))) kW ⟨a1 rfl,rfl⟩ ((bR (dg 2 (q)))) ?_
 refine o1 ?_;refine o1 ?_;refine nl ?_;refine bG rfl (fun h1=>?_) (fun h1=>?_)
 ·refine sk ?_;refine bl ?_;refine sq ?_;have hq0:q≠0:=xH (by omega)
  have hmq:=Nat.mod_lt p (Nat.pos_of_ne_zero hq0)
  have hml:=gI (Nat.le_of_lt hmq) hlq
  have hgs:Nat.gcd q (p%q)=Nat.gcd u v:=by rw[←hg,Nat.gcd_comm q,←Nat.gcd_rec,Nat.gcd_comm]
  refine rl ?_;refine o1 ?_;refine o1 ?_;refine ca (qE (u:=p) (v:=q) (by omega) (by omega) hq0) Gf ⟨a1 rfl,a1 rfl,rfl⟩ (.tup [(bR (dg 2 (p/q))),(bR (dg 2 (p%q)))]) ?_
  (iterate 5 refine o1 ?_);refine nl ?_;refine sq ?_;refine rl ?_;refine o1 ?_;refine o1 ?_;refine nl ?_;refine rl ?_;refine o1 ?_;refine o1 ?_;refine nl ?_
  exact⟨(q,p%q),by dsimp only;omega,⟨hgs,hlq,hml⟩,aZ h0 [] _ _ (by decide) ⟨rfl,rfl,trivial⟩ rfl⟩
 refine ex ?_;refine sq ?_;have hq0:q=0:=rP (by omega)
 rw[hq0,Nat.gcd_zero_right]at hg;refine rl ?_;refine o1 ?_
 refine ca (fC (xs:=(dg 2 (p))) (by omega) (fL (by omega) (bE (by omega) p) (bL (by omega) p))) kW ⟨a1 rfl,rfl⟩ ((bR (dg 2 (p)))) ?_
 refine o1 ?_;refine nl ?_;refine rt ?_;exact en (.inl rfl) rfl (eA (.one (.id rfl))) (by decide) (fun h=>by cases h) (by rw[hg];rfl)
theorem xI {x m:Nat}(h:x<4294967296):(dg 2 (x^m)).length≤32*m+1:=by
 refine aF (by omega) (Nat.lt_of_le_of_lt (Nat.pow_le_pow_left (Nat.le_of_lt h) m) ?_)
 rw[show(4294967296:Nat)=2^32 from rfl,←Nat.pow_mul]
 exact Nat.pow_lt_pow_right (by omega) (by omega)
theorem Hc {l:List Nat}(h:∀c∈l,48≤c∧c≤57){j:Nat}(hj:j≤l.length):(dg 2 (aW (l.take j))).length≤4*j:=by
 refine aF (by omega) (Nat.lt_of_lt_of_le (rC h hj) ?_)
 rw[Nat.pow_mul]
 exact Nat.pow_le_pow_left (by decide) j
theorem Ol {l:List Nat}(h0:decide (l=[])=false) (h:1<l.length):decide (((nth l 0:Nat):Int)=48)=jY l:=by
 simp only[jY,h0,Bool.false_or]
 rw[decide_eq_true h,Bool.and_true]
 exact decide_eq_decide.2 (by omega)
theorem Om {l:List Nat}(h0:decide (l=[])=false) (h:¬1<l.length):false=jY l:=by simp[jY,h0];omega
theorem Hd {d:Nat}(h:0<(dg 4294967296 d).length) (hd:d<4294967296):nth (dg 4294967296 d) 0=d:=by
 have h1:d≠0:=Nat.pos_iff_ne_zero.1 (iX h)
 rw[kZ (by omega) h1,Nat.mod_eq_of_lt hd]
 rfl
theorem On {u L:Nat}(h:(dg 2 u).length≤L):(dg 10 u).length≤L:=aF (by omega) (Nat.lt_of_lt_of_le (dW (B:=2) (by omega)) (Nat.le_trans (Nat.pow_le_pow_right (by omega) h) (Nat.pow_le_pow_left (by omega) L)))
theorem Ii {d:Nat}(h:d<10):(⟨#[48,49,50,51,52,53,54,55,56,57]⟩:ByteArray).extract d (d+1)=aH [48+d]:=by
 have e:(⟨#[48,49,50,51,52,53,54,55,56,57]⟩:ByteArray)=aH [48,49,50,51,52,53,54,55,56,57]:=rfl
 rw[e,lL]
 have:∀d<10,(([48,49,50,51,52,53,54,55,56,57]:List Nat).take (d+1)).drop d=[48+d]:=by decide
 rw[this d h]
theorem uU {x:Nat}{n:Int}(hx:x<4294967296):aJ false Tryz.prog 12 [] [.one (tv (.int .u32 ((x:Nat):Int))),.one (tv (.int .i64 n))] (bC (.tup [(bR (dg 2 (cS x n))),.one (tv (.int .i64 (eD n)))])):=by
 refine cR Tryz.func12 rfl Tryz.ntmps12 rfl aG rfl fun N9 w9 c0 h0=>?_
 refine sq ?_;refine rl ?_;refine o1 ?_;refine o1 ?_;refine nl ?_;refine sq ?_;refine sq ?_;refine rl ?_;refine o1 ?_;refine o1 ?_;refine nl ?_;refine bG rfl (fun h1=>?_) (fun h1=>?_)
 ·refine sq ?_;refine rl ?_;refine o1 ?_;refine o1 ?_;refine nl ?_;refine rt ?_;have he:eD n=2:=by unfold eD;rw[if_pos (by omega)]
  exact en (.inl rfl) rfl (fQ (.cons (.one (.nilf (t:=5) (z:=1))) (.cons (cY _) .nil))) (by decide) (fun h=>by cases h) (by rw[he,cS,he,if_neg (by decide)];rfl)
 refine sk ?_;refine sq ?_;refine sq ?_;refine rl ?_;refine o1 ?_;refine o1 ?_;refine nl ?_;refine bG rfl (fun h2=>?_) (fun h2=>?_)
 ·refine sq ?_;refine rl ?_;refine o1 ?_;refine o1 ?_;refine nl ?_;refine rt ?_;have he:eD n=3:=by unfold eD;rw[if_neg (by omega),if_pos (by omega)]
  exact en (.inl rfl) rfl (fQ (.cons (.one (.nilf (t:=5) (z:=1))) (.cons (cY _) .nil))) (by decide) (fun h=>by cases h) (by rw[he,cS,he,if_neg (by decide)];rfl)
 refine sk ?_;refine sq ?_;refine rl ?_;refine ca (lT (n:=1) (by omega)) wF ⟨a1 rfl,rfl⟩ ((bR (dg 2 (1)))) ?_
 refine o1 ?_;refine nl ?_;refine sq ?_;refine sq ?_;refine rl ?_;refine o1 ?_;refine nl ?_;refine bl ?_
 refine lp (γ:=Nat) (fun s=>bO [(0,.one (tv (.int .u32 ((x:Nat):Int)))),(1,.one (tv (.int .i64 n))),(6,.one (.t (.s false 5 1 (dg 2 (x^s)).length (aV (dg 2 (x^s)))))),(7,.one (tv (.int .i64 ((s:Nat):Int))))]) (fun s=>([]:List Ob).map some) (fun s=>s≤n.toNat) (fun s=>n.toNat-s) 0 (Nat.zero_le _) (aZ h0 [] _ _ (by decide) ⟨rfl,rfl,(congrArg (fun z:Nat=>some (bR (dg 2 z))) (Nat.pow_zero x)),rfl,trivial⟩ rfl) ?_
 rintro i hi;refine sq ?_;refine sq ?_;refine rl ?_;(iterate 3 refine o1 ?_);refine nl ?_;refine bG rfl (fun h3=>?_) (fun h3=>?_)
 ·refine sk ?_;refine sq ?_;refine bl ?_;have hp1:=xI (m:=i) hx
  have hp2:=xI (m:=1) hx
  rw[Nat.pow_one]at hp2;refine rl ?_;refine o1 ?_;refine o1 ?_;refine ca (lT (n:=x) (by omega)) wF ⟨a1 rfl,rfl⟩ ((bR (dg 2 (x)))) ?_
  refine ca (uT (u:=x^i) (v:=x) (by omega) (by omega)) Ax ⟨a1 rfl,a1 rfl,rfl⟩ ((bR (dg 2 (x^i*x)))) ?_
  refine o1 ?_;refine nl ?_;refine rl ?_;refine o1 ?_;refine o1 ?_;refine WL.cast (t:=17) (u':=.int .i64 ((i+1:Nat):Int)) rfl (aD (by omega)) ?_
  refine o1 ?_;refine nl ?_;exact⟨i+1,by omega,by omega,aZ h0 [] _ _ (by decide) ⟨rfl,rfl,(congrArg (fun z:Nat=>some (bR (dg 2 z))) (Nat.pow_succ x i)),rfl,trivial⟩ rfl⟩
 refine ex ?_;refine sq ?_;refine rl ?_;(iterate 3 refine o1 ?_);refine nl ?_;refine rt ?_;have he:eD n=0:=by unfold eD;rw[if_neg (by omega),if_neg (by omega)]
 have hi9:i=n.toNat:=by omega
 exact en (.inl rfl) rfl (fQ (.cons (.one (.id rfl)) (.cons (cY _) .nil))) (by decide) (fun h=>by cases h) (by rw[he,cS,he,if_pos rfl,hi9];rfl)
theorem pA {l:List Nat}(hl:Lim 256 l) (hn:l.length≤9223372036854775807):aJ false Tryz.prog 10 [] [.one (tv (.string (aH l)))] (bC (.tup [(bR (dg 2 (dK l))),.one (tv (.int .i64 (eR l)))])):=by
 refine cR Tryz.func10 rfl Tryz.ntmps10 rfl aG rfl fun N9 w9 c0 h0=>?_
 refine sq ?_;refine rl ?_;refine o1 ?_;refine o1 ?_;refine nl ?_;refine sq ?_
 refine md (γ:=Unit) (fun _=>bO [(0,.one (tv (.string (aH l)))),(18,.one (tv (.bool (jY l))))]) (fun _=>([]:List Ob).map some) (fun _=>True) ?_ fun _ _=>?_
 ·refine rl ?_;refine o1 ?_;refine o1 ?_;refine WL.cast (t:=8) (u':=.bool (decide (l=[]))) rfl (congrArg Value.bool (jT hl)) ?_;refine o1 ?_
  refine WL.splitb (t:=9) rfl (fun h1=>?_) (fun h1=>?_)
  ·(iterate 8 refine dC ?_);refine o1 ?_;refine nl ?_;exact⟨(),trivial,aZ h0 [] _ _ (by decide) ⟨rfl,Nd (Od h1).symm,trivial⟩ rfl⟩
  refine o1 ?_;refine o1 ?_;refine WL.cast (t:=11) (u':=.int .i64 ((l.length:Nat):Int)) rfl (congrArg (fun n:Nat=>Value.int .i64 (n:Int)) (aP _)) ?_
  refine o1 ?_;refine o1 ?_;refine WL.split (t:=13) rfl (fun h2=>?_) (fun h2=>?_)
  ·refine o1 ?_;refine o1 ?_ (hC:=(by rw[aP];show 0<l.length;omega))
   refine WL.cast (t:=15) (u':=.int .u8 (((nth l 0):Nat):Int)) rfl (congrArg (fun n:Nat=>Value.int .u8 (n:Int)) (iE (i:=0) (by omega) (jB hl (by omega)))) ?_
   (iterate 3 refine o1 ?_);refine nl ?_;exact⟨(),trivial,aZ h0 [] _ _ (by decide) ⟨rfl,Nd (Ol h1 (by omega)).symm,trivial⟩ rfl⟩
  (iterate 3 refine dC ?_);refine o1 ?_;refine o1 ?_;refine nl ?_;exact⟨(),trivial,aZ h0 [] _ _ (by decide) ⟨rfl,Nd (Om h1 (by omega)).symm,trivial⟩ rfl⟩
 refine nJ rfl (fun h3=>?_) (fun h3=>?_)
 ·refine sq ?_;refine rl ?_;refine o1 ?_;refine o1 ?_;refine nl ?_;refine rt ?_;have he:=iY (Oe h3)
  exact en (.inl rfl) rfl (fQ (.cons (.one (.nilf (t:=5) (z:=1))) (.cons (cY _) .nil))) (by decide) (fun h=>by cases h) (by rw[he,fX (by rw[he];decide)];rfl)
 refine sk ?_;refine sq ?_;refine sq ?_;refine rl ?_;refine o1 ?_;refine nl ?_;refine bl ?_
 refine lp (γ:=Nat) (fun k=>bO [(0,.one (tv (.string (aH l)))),(4,.one (tv (.int .i64 ((k:Nat):Int))))]) (fun k=>([]:List Ob).map some) (fun k=>k≤l.length∧∀c∈l.take k,48≤c∧c≤57) (fun k=>l.length-k) 0 ⟨Nat.zero_le _,(by simp)⟩ (aZ h0 [] _ _ (by decide) ⟨rfl,rfl,trivial⟩ rfl) fun k hk=>?_
 refine sq ?_;refine sq ?_;refine rl ?_;(iterate 3 refine o1 ?_)
 refine WL.cast (t:=21) (u':=.int .i64 ((l.length:Nat):Int)) rfl (congrArg (fun n:Nat=>Value.int .i64 (n:Int)) (aP _)) ?_
 refine o1 ?_;refine nl ?_;refine bG rfl (fun h4=>?_) (fun h4=>?_)
 ·refine sk ?_;refine sq ?_;refine bl ?_;refine sq ?_;refine rl ?_;refine o1 ?_;refine o1 ?_;refine o1 ?_ (hC:=(by rw[aP];omega))
  refine WL.cast (t:=27) (u':=.int .u8 (((nth l k):Nat):Int)) rfl (congrArg (fun n:Nat=>Value.int .u8 (n:Int)) (iE (i:=k) (by omega) (jB hl (by omega)))) ?_
  refine o1 ?_;refine o1 ?_;refine WL.split (t:=29) rfl (fun h5=>?_) (fun h5=>?_)
  ·(iterate 4 refine dC ?_);refine o1 ?_;refine nl ?_;refine gT rfl ?_;refine sq ?_;refine rl ?_;refine o1 ?_;refine o1 ?_;refine nl ?_;refine rt ?_
   have he:=iY (rF (Og (l:=l) (k:=k) (by omega) (by omega)))
   exact en (.inl rfl) rfl (fQ (.cons (.one (.nilf (t:=5) (z:=1))) (.cons (cY _) .nil))) (by decide) (fun h=>by cases h) (by rw[he,fX (by rw[he];decide)];rfl)
  refine o1 ?_;refine o1 ?_;refine o1 ?_ (hC:=(by rw[aP];omega))
  refine WL.cast (t:=32) (u':=.int .u8 (((nth l k):Nat):Int)) rfl (congrArg (fun n:Nat=>Value.int .u8 (n:Int)) (iE (i:=k) (by omega) (jB hl (by omega)))) ?_
  refine o1 ?_;refine o1 ?_;refine nl ?_;refine bG rfl (fun h6=>?_) (fun h6=>?_)
  ·refine sq ?_;refine rl ?_;refine o1 ?_;refine o1 ?_;refine nl ?_;refine rt ?_;have he:=iY (rF (Og (l:=l) (k:=k) (by omega) (by omega)))
   exact en (.inl rfl) rfl (fQ (.cons (.one (.nilf (t:=5) (z:=1))) (.cons (cY _) .nil))) (by decide) (fun h=>by cases h) (by rw[he,fX (by rw[he];decide)];rfl)
  refine sk ?_;refine rl ?_;refine o1 ?_;refine o1 ?_;refine WL.cast (t:=24) (u':=.int .i64 ((k+1:Nat):Int)) rfl (aD (by omega)) ?_
  refine o1 ?_;refine nl ?_;exact⟨k+1,by omega,⟨by omega,Qo (by omega) hk.2 ⟨by omega,by omega⟩⟩,aZ h0 [] _ _ (by decide) ⟨rfl,rfl,trivial⟩ rfl⟩
 refine ex ?_;refine sq ?_;refine sq ?_;have hk9:l.length≤k:=by omega
 have hdg:∀c∈l,48≤c∧c≤57:=by have:=hk.2;rwa[List.take_of_length_le hk9]at this
 have hgd:=Of h3 (xC hdg)
 refine rl ?_;refine o1 ?_;refine o1 ?_;refine WL.cast (t:=36) (u':=.int .i64 ((l.length:Nat):Int)) rfl (congrArg (fun n:Nat=>Value.int .i64 (n:Int)) (aP _)) ?_
 refine o1 ?_;refine nl ?_;refine bG rfl (fun h7=>?_) (fun h7=>?_)
 ·refine sq ?_;refine rl ?_;refine o1 ?_;refine o1 ?_;refine nl ?_;refine rt ?_;have he:=Gu hgd (by omega)
  exact en (.inl rfl) rfl (fQ (.cons (.one (.nilf (t:=5) (z:=1))) (.cons (cY _) .nil))) (by decide) (fun h=>by cases h) (by rw[he,fX (by rw[he];decide)];rfl)
 refine sk ?_;refine sq ?_;refine rl ?_;refine o1 ?_;refine nl ?_;refine sq ?_;refine sq ?_;refine rl ?_;refine o1 ?_;refine nl ?_;refine bl ?_
 refine lp (γ:=Nat) (fun s=>bO [(0,.one (tv (.string (aH l)))),(5,.one (.t (.s false 5 1 (dg 2 ((aW (l.take s)))).length (aV (dg 2 ((aW (l.take s)))))))),(6,.one (tv (.int .i64 ((s:Nat):Int))))]) (fun s=>([]:List Ob).map some) (fun s=>s≤l.length) (fun s=>l.length-s) 0 (Nat.zero_le _) (((nr (i:=5) 0 5 1 rfl rfl rfl rfl).trans (rO (i:=5) (zs:=[]) (zs':=[]) rfl rfl rfl rfl rfl)).trans (aZ h0 [] _ _ (by decide) ⟨rfl,rfl,rfl,trivial⟩ rfl)) ?_
 rintro k hk2;have hl1:=Hc hdg hk2
 have hl2:=oZ (aW (l.take k)) 10
 have hl3:(dg 2 10).length≤4:=by decide
 refine sq ?_;refine sq ?_;refine rl ?_;(iterate 3 refine o1 ?_)
 refine WL.cast (t:=40) (u':=.int .i64 ((l.length:Nat):Int)) rfl (congrArg (fun n:Nat=>Value.int .i64 (n:Int)) (aP _)) ?_
 refine o1 ?_;refine nl ?_;refine bG rfl (fun h8=>?_) (fun h8=>?_)
 ·refine sk ?_;refine sq ?_;refine bl ?_;have hdk:=wY hdg (k:=k) (by omega)
  have hl4:(dg 2 (nth l k-48)).length≤4:=aF (by omega) (by omega)
  refine rd [] (fun i=>[10].contains i) mixed ?_
  refine dv 0 ?_;refine dv 3 ?_;refine dv 4 ?_;refine dv 5 ?_ (hC:=(by rw[aP];omega))
  refine WD.cast (t:=49) (u':=.int .u8 (((nth l k):Nat):Int)) rfl (congrArg (fun n:Nat=>Value.int .u8 (n:Int)) (iE (i:=k) (by omega) (jB hl (by omega)))) ?_
  refine dv 6 ?_;refine WD.cast (t:=50) (u':=.int .u8 (((nth l k)-48:Nat):Int)) rfl (aD (by omega)) ?_
  refine dv 7 ?_;refine WD.cast (t:=51) (u':=.int .u32 (((nth l k)-48:Nat):Int)) rfl (aD (by omega)) ?_
  refine lK 1 rfl (lT (n:=10) (by omega)) wF ⟨a1 rfl,rfl⟩ ((bR (dg 2 (10)))) ?_
  refine lK 2 rfl (uT (u:=(aW (l.take k))) (v:=10) (by omega) (by decide)) Ax ⟨a1 rfl,a1 rfl,rfl⟩ ((bR (dg 2 ((aW (l.take k))*10)))) ?_
  refine lK 8 rfl (lT (n:=(nth l k)-48) (by omega)) wF ⟨a1 rfl,rfl⟩ ((bR (dg 2 ((nth l k)-48)))) ?_
  refine lK 9 rfl (Ih (u:=(aW (l.take k))*10) (v:=nth l k-48) (by omega) (by omega)) Mo ⟨a1 rfl,a1 rfl,rfl⟩ ((bR (dg 2 ((aW (l.take k))*10+(nth l k-48))))) ?_
  refine yU 10 (by kernel_rfl) rfl rfl aG rfl (by trivial) ?_ (fun h=>by first | rfl | cases h)
  refine mY ?_;refine rl ?_;refine o1 ?_;refine o1 ?_;refine WL.cast (t:=43) (u':=.int .i64 ((k+1:Nat):Int)) rfl (aD (by omega)) ?_
  refine o1 ?_;refine nl ?_
  exact⟨k+1,by omega,by omega,aZ h0 [] _ _ (by decide) ⟨rfl,(congrArg (fun z:Nat=>some (bR (dg 2 z))) (Qn (l:=l) (k:=k) (by omega)).symm),rfl,trivial⟩ rfl⟩
 refine ex ?_;refine sq ?_;refine rl ?_;(iterate 3 refine o1 ?_);refine nl ?_;refine rt ?_;have he:=xD hgd (by omega)
 have hkk:l.take k=l:=List.take_of_length_le (by omega)
 exact en (.inl rfl) rfl (fQ (.cons (.one (.id rfl)) (.cons (cY _) .nil))) (by decide) (fun h=>by cases h) (by rw[he,oW he,hkk];rfl)
theorem uV {u:Nat}(hu:(dg 2 (u)).length≤200000):aJ true Tryz.prog 15 [] [(bR (dg 2 (u)))] (bC (.one (tv (.string (aH (tx u)))))):=by
 refine cR Tryz.func15 rfl Tryz.ntmps15 rfl aG rfl fun N9 w9 c0 h0=>?_
 have hdl:=On hu
 refine sq ?_;refine rl ?_;refine o1 ?_;refine nl ?_;refine sq ?_;refine rl ?_;refine o1 ?_
 refine ca (fC (xs:=dg 2 (u)) (by omega) (fL (by omega) (bE (by omega) u) (bL (by omega) u))) kW ⟨a1 rfl,rfl⟩ ((bR (dg 2 (u)))) ?_
 refine o1 ?_;refine nl ?_;refine sq ?_;refine sq ?_;refine rl ?_;(iterate 3 refine o1 ?_);refine nl ?_;refine bG rfl (fun h1=>?_) (fun h1=>?_)
 ·refine sq ?_;refine rl ?_;refine o1 ?_;refine nl ?_;refine rt ?_;have hu0:u=0:=rP (by omega)
  exact en (.inl rfl) rfl (eA (cY _)) (by decide) (fun _=>trivial) (congrArg (fun z=>FV.one (tv (.string z))) (by rw[hu0];rfl))
 refine sk ?_;refine sq ?_;refine rl ?_;refine o1 ?_;refine nl ?_;refine sq ?_;refine bl ?_
 refine lp (γ:=List Nat×Nat) (fun s=>bO [(0,.one (.t (.s false 5 1 (dg 2 (s.2)).length (aV (dg 2 (s.2)))))),(3,.one (tv (.string (aH ((bT s.1).reverse)))))]) (fun s=>([]:List Ob).map some) (fun s=>Lim 10 s.1∧s.1++dg 10 s.2=dg 10 u∧s.2≤u) (fun s=>s.2) ([],u) ⟨Lim.nil,rfl,Nat.le_refl _⟩ (aZ h0 [] _ _ (by decide) ⟨rfl,rfl,trivial⟩ rfl) ?_
 rintro⟨ds,q⟩ ⟨hd,hv,hu2⟩;dsimp only at hd hv hu2⊢;have hql:=gI hu2 hu
 have hdl2:=congrArg List.length hv
 rw[List.length_append]at hdl2;refine sq ?_;refine sq ?_;refine rl ?_;(iterate 3 refine o1 ?_);refine nl ?_;refine bG rfl (fun h2=>?_) (fun h2=>?_)
 ·refine sk ?_;refine bl ?_;refine sq ?_;have hq0:q≠0:=xH (by omega)
  have hdp:=kZ (B:=10) (n:=q) (by omega) hq0
  have hm4:(dg 2 (q%10)).length≤4:=aF (by omega) (by omega)
  refine rl ?_;refine o1 ?_;refine ca (lT (n:=10) (by omega)) wF ⟨a1 rfl,rfl⟩ ((bR (dg 2 (10)))) ?_
  refine ca (qE (u:=q) (v:=10) (by omega) (by decide) (by decide)) Gf ⟨a1 rfl,a1 rfl,rfl⟩ (.tup [(bR (dg 2 (q/10))),(bR (dg 2 (q%10)))]) ?_
  (iterate 5 refine o1 ?_);refine nl ?_;refine sq ?_;refine rl ?_;refine o1 ?_;refine nl ?_;refine sq ?_;refine rl ?_;refine o1 ?_
  refine ca (Ac (u:=q%10) (by omega)) Mp ⟨a1 rfl,rfl⟩ (nF (dg 4294967296 (q%10))) ?_
  refine o1 ?_;refine nl ?_;refine sq ?_;refine sq ?_;refine rl ?_;(iterate 3 refine o1 ?_);refine nl ?_;refine bG rfl (fun h3=>?_) (fun h3=>?_)
  ·refine rl ?_;refine o1 ?_;refine o1 ?_;refine jS ([.v (.int .u32 ((nth (dg 4294967296 (q%10)) (0):Nat):Int))]) (bU (dg 4294967296 (q%10)) (k:=0) (by omega)) ?_
   refine WL.cast (t:=29) (u':=.int .u32 (((q%10):Nat):Int)) rfl (aD (congrArg (fun n:Nat=>(n:Int)) (Hd (by omega) (by omega)))) ?_
   refine o1 ?_;refine nl ?_;refine sq ?_;have hz:q%10=q%10:=rfl
   refine rl ?_;(iterate 3 refine o1 ?_);refine WL.cast (t:=32) (u':=.int .u32 (((q%10)+1:Nat):Int)) rfl (aD (by omega)) ?_
   refine o1 ?_ (hC:=(show(q%10)≤(q%10)+1∧(q%10)+1≤10 from by omega))
   refine WL.cast (t:=33) (u':=.string (aH [48+(q%10)])) rfl (congrArg Value.string (Ii (by omega))) ?_
   refine o1 ?_;refine o1 ?_ (hC:=(by rw[aP,aP,List.length_reverse,dM];show 1+ds.length≤_;omega))
   refine WL.cast (t:=35) (u':=.string (aH ((bT (ds++[q%10])).reverse))) rfl (congrArg Value.string ((nW _ _).trans (congrArg aH (by rw[hz];simp[bT])))) ?_
   refine o1 ?_;refine nl ?_;refine rl ?_;refine o1 ?_;refine o1 ?_;refine nl ?_
   exact⟨(ds++[q%10],q/10),by dsimp only;omega,⟨hd.append (Lim.cons (Nat.mod_lt _ (by omega)) Lim.nil),(by dsimp only;rw[List.append_assoc,←hv,hdp];rfl),(by dsimp only;omega)⟩,aZ h0 [] _ _ (by decide) ⟨rfl,rfl,trivial⟩ rfl⟩
  refine sk ?_;refine sq ?_;have hz:q%10=0:=(bX (B:=4294967296) (by omega)).1 (List.eq_nil_of_length_eq_zero (by omega))
  refine rl ?_;(iterate 3 refine o1 ?_);refine WL.cast (t:=32) (u':=.int .u32 ((0+1:Nat):Int)) rfl (aD (by omega)) ?_
  refine o1 ?_ (hC:=(show 0≤0+1∧0+1≤10 from by omega))
  refine WL.cast (t:=33) (u':=.string (aH [48+0])) rfl (congrArg Value.string (Ii (d:=0) (by decide))) ?_
  refine o1 ?_;refine o1 ?_ (hC:=(by rw[aP,aP,List.length_reverse,dM];show 1+ds.length≤_;omega))
  refine WL.cast (t:=35) (u':=.string (aH ((bT (ds++[q%10])).reverse))) rfl (congrArg Value.string ((nW _ _).trans (congrArg aH (by rw[hz];simp[bT])))) ?_
  refine o1 ?_;refine nl ?_;refine rl ?_;refine o1 ?_;refine o1 ?_;refine nl ?_
  exact⟨(ds++[q%10],q/10),by dsimp only;omega,⟨hd.append (Lim.cons (Nat.mod_lt _ (by omega)) Lim.nil),(by dsimp only;rw[List.append_assoc,←hv,hdp];rfl),(by dsimp only;omega)⟩,aZ h0 [] _ _ (by decide) ⟨rfl,rfl,trivial⟩ rfl⟩
 refine ex ?_;refine sq ?_;refine rl ?_;refine o1 ?_;refine o1 ?_;refine nl ?_;refine rt ?_;have hq0:q=0:=rP (by omega)
 have hu0:u≠0:=xH (by omega)
 rw[hq0,fK,List.append_nil]at hv
 exact en (.inl rfl) rfl (eA (cY _)) (by decide) (fun _=>trivial) (congrArg (fun z=>FV.one (tv (.string z))) (congrArg aH (by unfold tx;rw[if_neg hu0,hv])))
theorem oG {l:List (List Nat)}{w:Nat}(hr:RL 1000 l) (hl:l.length≤100) (e:cQ l=w):aJ true Tryz.prog 46 [] [.one (.t (.s false 23 1 l.length (rT l)))] (bC (nO w)):=e▸Bv hr hl
theorem iZ {l:List (List Nat)}{w:Nat}(hr:RL 1000 l) (hl:l.length≤100) (e:cB l=w):aJ true Tryz.prog 63 [] [.one (.t (.s false 23 1 l.length (rT l)))] (bC (nO w)):=e▸uE hr hl
theorem Qx:((aH (tx 4294967296)).toList==(⟨#[52,50,57,52,57,54,55,50,57,54]⟩:ByteArray).toList)=true:=by
 have h:=Es (l:=[52,50,57,52,57,54,55,50,57,54]) (by decide)
 rw[show aW [52,50,57,52,57,54,55,50,57,54]=4294967296 by decide]at h
 rw[h]
 exact(Bb (l:=[52,50,57,52,57,54,55,50,57,54]) (l':=[52,50,57,52,57,54,55,50,57,54]) (fun d hd=>by revert d;decide) (fun d hd=>by revert d;decide)).trans (decide_eq_true rfl)
theorem bD:aJ true Tryz.prog 8 [] [] (bC (.one (tv (.bool true)))):=by
 refine cR Tryz.func8 rfl Tryz.ntmps8 rfl aG rfl fun N9 w9 c0 h0=>?_
 refine sq ?_;refine rl ?_;refine o1 ?_;refine nl ?_;refine sq ?_;refine rl ?_;refine bs 0 ?_;refine bs 1 ?_
 refine ca (eC (w:=18446744065119617025) (Et (l:=[4294967295]) (V:=4294967295) (by decide)) (Et (l:=[4294967295]) (V:=4294967295) (by decide)) (by decide)) fG ⟨cH rfl (.sl (trs:=aB [4294967295]) rfl rfl rfl rfl),cH rfl (.sl (trs:=aB [4294967295]) rfl rfl rfl rfl),rfl⟩ (nF (dg 4294967296 (18446744065119617025))) ?_
 refine o1 ?_;refine nl ?_;refine sq ?_;refine rl ?_;refine bs 2 ?_;refine bs 3 ?_
 refine ca (hJ (q:=6148914691236517205) (r:=1) (Et (l:=[0,0,1]) (V:=18446744073709551616) (by decide)) (Et (l:=[3]) (V:=3) (by decide)) (by decide) (by decide) (by decide)) nU ⟨cH rfl (.sl (trs:=aB [0,0,1]) rfl rfl rfl rfl),cH rfl (.sl (trs:=aB [3]) rfl rfl rfl rfl),rfl⟩ (.tup [nF (dg 4294967296 (6148914691236517205)),nF (dg 4294967296 (1)),.one (tv (.int .i64 0))]) ?_
 (iterate 7 refine o1 ?_);refine nl ?_;refine sq ?_;refine rl ?_;refine bs 4 ?_;refine bs 5 ?_;refine bs 6 ?_;refine WL.sub (uC (i:=24) (zs:=[12]) (zs':=[12]) rfl rfl rfl rfl rfl) ?_
 refine WL.sub (uC (i:=25) (zs:=[18]) (zs':=[18]) rfl rfl rfl rfl rfl) ?_;refine WL.sub (uC (i:=26) (zs:=[30]) (zs':=[30]) rfl rfl rfl rfl rfl) ?_;refine bs 7 ?_
 refine ca (oG (l:=[[12],[18],[30]]) (w:=6) (Tv (by decide)) (by decide) (by decide)) pX ⟨cH rfl (.sl (trs:=rT [[12],[18],[30]]) rfl rfl rfl rfl),rfl⟩ (nF (dg 4294967296 (6))) ?_
 refine o1 ?_;refine nl ?_;refine sq ?_;refine rl ?_
 refine ca (iN (x:=10) (n:=10) (V:=10000000000) (e:=0) (by decide) (by decide) (by decide)) iP ⟨a1 rfl,a1 rfl,rfl⟩ (.tup [nF (dg 4294967296 (10000000000)),.one (tv (.int .i64 0))]) ?_
 (iterate 5 refine o1 ?_);refine nl ?_;refine sq ?_;refine rl ?_
 refine ca (kA (l:=[49,48,48,48,48,48,48,48,48,48,48]) (V:=10000000000) (e:=0) (fun x hx=>by revert x;decide) (by decide) (by decide) (by decide)) pE ⟨a1 rfl,rfl⟩ (.tup [nF (dg 4294967296 (10000000000)),.one (tv (.int .i64 0))]) ?_
 (iterate 5 refine o1 ?_);refine nl ?_;refine sq ?_;refine rl ?_
 refine ca (kA (l:=[48,49]) (V:=0) (e:=60) (fun x hx=>by revert x;decide) (by decide) (by decide) (by decide)) pE ⟨a1 rfl,rfl⟩ (.tup [nF (dg 4294967296 (0)),.one (tv (.int .i64 60))]) ?_
 (iterate 5 refine o1 ?_);refine nl ?_;refine sq ?_;refine rl ?_
 refine ca (kA (l:=[]) (V:=0) (e:=60) (fun x hx=>by revert x;decide) (by decide) (by decide) (by decide)) pE ⟨a1 rfl,rfl⟩ (.tup [nF (dg 4294967296 (0)),.one (tv (.int .i64 60))]) ?_
 (iterate 5 refine o1 ?_);refine nl ?_;refine sq ?_;refine rl ?_;refine o1 ?_;refine bs 8 ?_
 refine ca (bN (xs:=(dg 4294967296 (18446744065119617025))) (ys:=[1,4294967294]) (Nat.le_trans (aF (k:=100) (by omega) (by decide)) (by omega)) (zV (l:=[1,4294967294]) (V:=18446744065119617025) (by decide))) dB ⟨a1 rfl,cH rfl (.sl (trs:=aB [1,4294967294]) rfl rfl rfl rfl),rfl⟩ (.one (tv (.bool true))) ?_
 (iterate 3 refine o1 ?_);refine WL.cast (t:=50) (u':=.bool true) rfl (congrArg Value.bool (decide_eq_true rfl)) ?_;(iterate 3 refine o1 ?_);refine bs 9 ?_
 refine ca (bN (xs:=(dg 4294967296 (6148914691236517205))) (ys:=[1431655765,1431655765]) (Nat.le_trans (aF (k:=100) (by omega) (by decide)) (by omega)) (zV (l:=[1431655765,1431655765]) (V:=6148914691236517205) (by decide))) dB ⟨a1 rfl,cH rfl (.sl (trs:=aB [1431655765,1431655765]) rfl rfl rfl rfl),rfl⟩ (.one (tv (.bool true))) ?_
 (iterate 3 refine o1 ?_);refine bs 10 ?_
 refine ca (bN (xs:=(dg 4294967296 (1))) (ys:=[1]) (Nat.le_trans (aF (k:=100) (by omega) (by decide)) (by omega)) (zV (l:=[1]) (V:=1) (by decide))) dB ⟨a1 rfl,cH rfl (.sl (trs:=aB [1]) rfl rfl rfl rfl),rfl⟩ (.one (tv (.bool true))) ?_
 (iterate 3 refine o1 ?_);refine bs 11 ?_
 refine ca (bN (xs:=(dg 4294967296 (6))) (ys:=[6]) (Nat.le_trans (aF (k:=100) (by omega) (by decide)) (by omega)) (zV (l:=[6]) (V:=6) (by decide))) dB ⟨a1 rfl,cH rfl (.sl (trs:=aB [6]) rfl rfl rfl rfl),rfl⟩ (.one (tv (.bool true))) ?_
 (iterate 4 refine o1 ?_);refine WL.cast (t:=69) (u':=.bool true) rfl (congrArg Value.bool (decide_eq_true rfl)) ?_;(iterate 3 refine o1 ?_);refine bs 12 ?_
 refine ca (bN (xs:=(dg 4294967296 (10000000000))) (ys:=[1410065408,2]) (Nat.le_trans (aF (k:=100) (by omega) (by decide)) (by omega)) (zV (l:=[1410065408,2]) (V:=10000000000) (by decide))) dB ⟨a1 rfl,cH rfl (.sl (trs:=aB [1410065408,2]) rfl rfl rfl rfl),rfl⟩ (.one (tv (.bool true))) ?_
 (iterate 4 refine o1 ?_);refine WL.cast (t:=78) (u':=.bool true) rfl (congrArg Value.bool (decide_eq_true rfl)) ?_;(iterate 4 refine o1 ?_)
 refine ca (bN (xs:=(dg 4294967296 (10000000000))) (ys:=(dg 4294967296 (10000000000))) (Nat.le_trans (aF (k:=100) (by omega) (by decide)) (by omega)) rfl) dB ⟨a1 rfl,a1 rfl,rfl⟩ (.one (tv (.bool true))) ?_
 (iterate 4 refine o1 ?_);refine WL.cast (t:=87) (u':=.bool true) rfl (congrArg Value.bool (decide_eq_true rfl)) ?_;(iterate 4 refine o1 ?_)
 refine WL.cast (t:=91) (u':=.bool true) rfl (congrArg Value.bool (decide_eq_true rfl)) ?_;refine o1 ?_;refine o1 ?_;refine bs 13 ?_
 refine ca (gR (Et (l:=[0,1]) (V:=4294967296) (by decide))) jR ⟨cH rfl (.sl (trs:=aB [0,1]) rfl rfl rfl rfl),rfl⟩ (.one (tv (.string (aH (tx 4294967296))))) ?_
 refine o1 ?_;refine WL.cast (t:=96) (u':=.bool true) rfl (congrArg Value.bool Qx) ?_;refine o1 ?_;refine o1 ?_;refine nl ?_;refine rt ?_;exact cL (.inl rfl) rfl (rfl)
theorem fJ {xs:List Nat}(hl:Lim 4294967296 xs) (h:xs.length≤1000000):Nn xs (val xs):=⟨hl,h,rfl⟩
theorem eJ {xs:List Nat}{L:Nat}(hl:Lim 4294967296 xs) (h:xs.length≤L):(dg 2 (val xs)).length≤32*L:=eX (by unfold val;rw[dR (by omega) hl];exact Nat.le_trans (bV _) h)
theorem Ij {l:List (List Nat)}{k:Nat}(hl:∀x∈l,Lim 4294967296 x) (h:∀j,j<k→(bY l j).length≤8) (hk:l.length≤k):RL 1000 l:=by
 intro xs hx
 refine⟨hl xs hx,?_⟩
 obtain⟨j,hj⟩:=List.mem_iff_getElem?.1 hx
 have h1:=(List.getElem?_eq_some_iff.1 hj).1
 rw[qD h1]at hj
 injection hj with hj
 have:=h j (by omega)
 rw[hj]at this
 omega
theorem fE {xs:List Nat}{u:Nat}(hx:xs.length≤1000000) (hu:(dg 2 (u)).length≤900000) (hxu:xs=(dg 4294967296 (u))):aJ true Tryz.prog 13 [] [nF xs,(bR (dg 2 (u)))] (bC (.one (tv (.bool true)))):=by
 refine cR Tryz.func13 rfl Tryz.ntmps13 rfl aG rfl fun N9 w9 c0 h0=>?_
 refine sq ?_;refine rl ?_;refine o1 ?_;refine nl ?_;refine sq ?_;refine rl ?_;refine o1 ?_;refine o1 ?_;refine ca (Ac hu) Mp ⟨a1 rfl,rfl⟩ (nF (dg 4294967296 (u))) ?_
 refine ca (bN (xs:=xs) (ys:=(dg 4294967296 (u))) hx hxu) dB ⟨a1 rfl,a1 rfl,rfl⟩ (.one (tv (.bool true))) ?_;refine o1 ?_;refine nl ?_;refine rt ?_;exact cL (.inl rfl) rfl (rfl)
theorem mS {xs:List Nat}(hx:xs.length≤1000000):aJ true Tryz.prog 62 [] [nF xs] (bC (.one (.t (sU true xs)))):=by
 refine cR Tryz.func62 rfl Tryz.ntmps62 rfl aG rfl fun N9 w9 c0 h0=>?_
 refine sq ?_;refine rl ?_;refine o1 ?_;refine nl ?_;refine sq ?_;refine rl ?_;refine o1 ?_;refine nl ?_;refine sq ?_;refine rl ?_;refine o1 ?_;refine o1 ?_
 refine kN (j:=0) aG rfl rfl rfl rfl .nil .fz (Nv _) (Gp _) rfl (by omega) (by omega) ?_
 refine o1 ?_;refine nl ?_;refine rt ?_
 exact en (.inl rfl) rfl (eA (.one (.sl (trs:=aB xs) rfl rfl (by rw[Nat.zero_add];exact jW _) (by rw[Nat.zero_add];exact dD _)))) (by decide) (fun _=>.inl ⟨rfl,gF _⟩) (by rw[Nat.zero_add];rfl)
theorem xJ {xs:List Nat}(hx:xs.length≤1099511627776):aJ false Tryz.prog 64 [⟨22,1,(aB xs).map .t⟩] [.one (.sl 0 0 xs.length)] (Rt [⟨22,1,(aB (List.replicate xs.length 77)).map .t⟩] (.tup [])):=by
 refine Rc Tryz.func64 rfl Tryz.ntmps64 rfl aG rfl fun N9 M9 w9 c0 h0=>?_
 refine sq ?_;refine rl ?_;refine o1 ?_;refine nl ?_;refine bl ?_
 refine lp (γ:=Nat) (fun i=>bO [(0,.one (.sl 0 0 xs.length)),(2,.one (tv (.int .i64 ((i:Nat):Int))))]) (fun i=>[(⟨22,1,(aB (fW xs i)).map .t⟩:Ob)].map some) (fun i=>i≤xs.length) (fun i=>xs.length-i) 0 (Nat.zero_le _) (Dh h0 [0] _ _ (by decide) rfl ⟨rfl,rfl,trivial⟩ ⟨cG rfl,rfl⟩) fun i hi=>?_
 have hli:=Gw (xs:=xs) (k:=i) hi
 refine sq ?_;refine sq ?_;refine rl ?_;(iterate 4 refine o1 ?_);refine nl ?_;refine bG rfl (fun h1=>?_) (fun h1=>?_)
 ·refine sk ?_;refine sq ?_;refine bl ?_;refine rl ?_;(iterate 3 refine o1 ?_);refine Rg (tA (fW xs i) (k:=i) (v:=77) (by omega)) (wX (fW xs i) (by omega)) ?_
  refine nl ?_;refine rl ?_;refine o1 ?_;refine o1 ?_;refine WL.cast (t:=8) (u':=.int .i64 ((i+1:Nat):Int)) rfl (aD (by omega)) ?_
  refine o1 ?_;refine nl ?_
  exact⟨i+1,by omega,by omega,Dh h0 [0] _ _ (by decide) rfl ⟨rfl,rfl,trivial⟩ ⟨cG (congrArg (fun l:List Nat=>some (⟨22,1,(aB l).map .t⟩:Ob)) (Gx (by omega))),rfl⟩⟩
 refine ex ?_
 exact Re (lent':=[⟨22,1,(aB (List.replicate xs.length 77)).map .t⟩]) (.inr rfl) rfl (Rf) (by decide) (fun _ h=>by cases h) ⟨⟨rfl,rfl⟩,trivial⟩ ⟨congrArg (fun l:List Nat=>some (⟨22,1,(aB l).map .t⟩:Ob)) (Gy (by omega) hi),trivial⟩ ⟨wB _,trivial⟩ (fun h=>by cases h) ⟨rfl,rfl⟩
theorem xK {xs ys:List Nat}{l:List (List Nat)}(hxs:Lim 4294967296 xs) (hys:Lim 4294967296 ys) (hl:∀x∈l,Lim 4294967296 x):aJ true Tryz.prog 17 [] [nF xs,nF ys,.one (.t (.s false 23 1 l.length (rT l)))] (bC (.one (tv (.bool true)))):=by
 refine cR Tryz.func17 rfl Tryz.ntmps17 rfl aG rfl fun N9 w9 c0 h0=>?_
 refine sq ?_;refine rl ?_;refine o1 ?_;refine nl ?_;refine sq ?_;refine sq ?_;refine rl ?_;(iterate 4 refine o1 ?_);refine WL.split (t:=18) rfl (fun h1=>?_) (fun h1=>?_)
 ·(iterate 3 refine dC ?_);refine o1 ?_;refine o1 ?_;(iterate 3 refine dC ?_);refine o1 ?_;refine nl ?_;refine gT rfl ?_;refine sq ?_;refine rl ?_
  refine ca (bD) dJ rfl (.one (tv (.bool true))) ?_;refine o1 ?_;refine nl ?_;refine rt ?_;exact cL (.inl rfl) rfl (rfl)
 (iterate 5 refine o1 ?_);refine WL.split (t:=23) rfl (fun h2=>?_) (fun h2=>?_)
 ·(iterate 3 refine dC ?_);refine o1 ?_;refine nl ?_;refine gT rfl ?_;refine sq ?_;refine rl ?_;refine ca (bD) dJ rfl (.one (tv (.bool true))) ?_;refine o1 ?_;refine nl ?_
  refine rt ?_;exact cL (.inl rfl) rfl (rfl)
 (iterate 4 refine o1 ?_);refine nl ?_;refine bG rfl (fun h3=>?_) (fun h3=>?_)
 ·refine sq ?_;refine rl ?_;refine ca (bD) dJ rfl (.one (tv (.bool true))) ?_;refine o1 ?_;refine nl ?_;refine rt ?_;exact cL (.inl rfl) rfl (rfl)
 refine sk ?_;refine sq ?_;refine rl ?_;refine bs 0 ?_;refine WL.sub (uC (i:=29) (zs:=[1]) (zs':=[1]) rfl rfl rfl rfl rfl) ?_
 refine ca (eE (xs:=[1]) (u:=1) (Lim.cons (by omega) Lim.nil) (by decide) (by decide)) gO ⟨a1 rfl,rfl⟩ ((bR (dg 2 (1)))) ?_
 refine o1 ?_;refine nl ?_;refine sq ?_;refine sq ?_;refine rl ?_;refine o1 ?_;refine nl ?_;refine bl ?_
 refine lp (γ:=Nat) (fun s=>bO [(0,.one (.t (sU false xs))),(1,.one (.t (sU false ys))),(2,.one (.t (.s false 23 1 l.length (rT l)))),(7,.one (.t (.s false 5 1 (dg 2 (cB (l.take s))).length (aV (dg 2 (cB (l.take s))))))),(8,.one (tv (.int .i64 ((s:Nat):Int))))]) (fun s=>([]:List Ob).map some) (fun s=>s≤l.length∧(dg 2 (cB (l.take s))).length≤1+256*s∧∀j,j<s→(bY l j).length≤8) (fun s=>l.length-s) 0 (⟨Nat.zero_le _,by show(dg 2 1).length≤_;decide,fun j hj=>absurd hj (by omega)⟩) (aZ h0 [] _ _ (by decide) ⟨rfl,rfl,rfl,rfl,rfl,trivial⟩ rfl) ?_
 rintro i hi;refine sq ?_;refine sq ?_;refine rl ?_;(iterate 4 refine o1 ?_);refine nl ?_;refine bG rfl (fun h4=>?_) (fun h4=>?_)
 ·refine sk ?_;refine sq ?_;refine bl ?_;refine sq ?_;refine sq ?_;refine rl ?_;(iterate 3 refine o1 ?_);refine jS ([sU false (bY l (i))]) (qC l (k:=i) (by omega)) ?_
  refine o1 ?_;refine o1 ?_;refine nl ?_;refine bG rfl (fun h5=>?_) (fun h5=>?_)
  ·refine sq ?_;refine rl ?_;refine ca (bD) dJ rfl (.one (tv (.bool true))) ?_;refine o1 ?_;refine nl ?_;refine rt ?_;exact cL (.inl rfl) rfl (rfl)
  refine sk ?_;have hb9:=eJ (L:=8) (hl _ (fI (l:=l) (k:=i) (by omega))) (by omega)
  have hm9:=oZ (cB (l.take i)) (val (bY l i))
  refine rl ?_;(iterate 4 refine o1 ?_);refine jS ([sU false (bY l (i))]) (qC l (k:=i) (by omega)) ?_
  refine ca (eE (xs:=(bY l (i))) (u:=val (bY l (i))) (hl _ (fI (by omega))) (by omega) rfl) gO ⟨a1 rfl,rfl⟩ ((bR (dg 2 (val (bY l (i)))))) ?_
  refine ca (uT (u:=cB (l.take i)) (v:=val (bY l (i))) (by omega) (by omega)) Ax ⟨a1 rfl,a1 rfl,rfl⟩ ((bR (dg 2 (cB (l.take i)*val (bY l (i)))))) ?_
  refine o1 ?_;refine nl ?_;refine rl ?_;refine o1 ?_;refine o1 ?_;refine WL.cast (t:=36) (u':=.int .i64 ((i+1:Nat):Int)) rfl (aD (by omega)) ?_
  refine o1 ?_;refine nl ?_
  exact⟨i+1,by omega,⟨by omega,by rw[←oX (by omega)];omega,fun j hj=>(Nat.lt_or_ge j i).elim (hi.2.2 j) (fun h=>by rw[show j=i by omega];omega)⟩,aZ h0 [] _ _ (by decide) ⟨rfl,rfl,rfl,(congrArg (fun z:Nat=>some (bR (dg 2 z))) (oX (l:=l) (k:=i) (by omega)).symm),rfl,trivial⟩ rfl⟩
 refine ex ?_;refine sq ?_;refine rl ?_;have hi9:i=l.length:=by omega
 have hRL:=Ij hl hi.2.2 (by omega)
 have hpl:=hi.2.1
 rw[hi9,List.take_length]at hpl;have hpd:=kB (L:=100) (u:=cB l) (by omega)
 have hb1:=eJ (L:=16) hxs (by omega)
 have hb2:=eJ (L:=16) hys (by omega)
 have hNx:=fJ hxs (by omega)
 have hNy:=fJ hys (by omega)
 have hlx:=Nn.len hNx (Nat.le_refl _)
 have hly:=Nn.len hNy (Nat.le_refl _)
 have hxy:=oZ (val xs) (val ys)
 have hxy2:=kB (L:=100) (u:=val xs*val ys) (by omega)
 refine WL.sub (Hb (i:=7) rfl (congrArg (fun z:List (List Nat)=>bR (dg 2 (cB z))) (show l.take i=l by rw[hi9,List.take_length]))) ?_
 refine o1 ?_;refine ca (mS (xs:=xs) (by omega)) Ay ⟨a1 rfl,rfl⟩ (nF xs) ?_
 refine o1 ?_;refine ca (mS (xs:=ys) (by omega)) Ay ⟨a1 rfl,rfl⟩ (nF ys) ?_
 refine o1 ?_;refine o1 ?_;refine nl ?_;refine sq ?_;refine rl ?_;refine o1 ?_;refine ca (eE (xs:=xs) (u:=val xs) hxs (by omega) rfl) gO ⟨a1 rfl,rfl⟩ ((bR (dg 2 (val xs)))) ?_
 refine o1 ?_;refine ca (eE (xs:=ys) (u:=val ys) hys (by omega) rfl) gO ⟨a1 rfl,rfl⟩ ((bR (dg 2 (val ys)))) ?_
 refine ca (uT (u:=val xs) (v:=val ys) (by omega) (by omega)) Ax ⟨a1 rfl,a1 rfl,rfl⟩ ((bR (dg 2 (val xs*val ys)))) ?_
 refine o1 ?_;refine nl ?_;refine sq ?_;refine sq ?_;refine rl ?_;refine o1 ?_;refine nl ?_;refine bl ?_
 refine lp (γ:=Nat) (fun t=>bO [(0,.one (.t (sU false xs))),(1,.one (.t (sU false ys))),(2,.one (.t (.s false 23 1 l.length (rT l)))),(7,.one (.t (.s false 5 1 (dg 2 (cB l)).length (aV (dg 2 (cB l)))))),(9,.one (.t (sU false xs))),(10,.one (.t (sU false ys))),(11,.one (.t (.s false 5 1 (dg 2 (val xs*val ys)).length (aV (dg 2 (val xs*val ys)))))),(12,.one (tv (.int .i64 ((t:Nat):Int))))]) (fun t=>([]:List Ob).map some) (fun t=>t≤2∧True) (fun t=>2-t) 0 ⟨Nat.zero_le _,trivial⟩ (aZ h0 [] _ _ (by decide) ⟨rfl,rfl,rfl,rfl,rfl,rfl,rfl,rfl,trivial⟩ rfl) fun t ht=>?_
 refine sq ?_;refine sq ?_;refine rl ?_;refine o1 ?_;refine o1 ?_;refine nl ?_;refine bG rfl (fun h6=>?_) (fun h6=>?_)
 ·refine sk ?_;refine sq ?_;refine bl ?_;refine sq ?_;refine rl ?_;refine o1 ?_;refine o1 ?_;refine pF 0 (eC (w:=val xs*val ys) hNx hNy rfl) fG ⟨a1 rfl,a1 rfl,rfl⟩ ?_
  refine o1 ?_;refine pF 1 (uE hRL (by omega)) wH ⟨a1 rfl,rfl⟩ ?_
  refine o1 ?_;refine o1 ?_;refine nl ?_;refine sq ?_;refine sq ?_;refine rl ?_;refine o1 ?_;refine o1 ?_
  refine ca (fE (xs:=(dg 4294967296 (val xs*val ys))) (u:=val xs*val ys) (by omega) (by omega) rfl) gN ⟨cH rfl (.sl rfl rfl (fV _) (dD _)),a1 rfl,rfl⟩ (.one (tv (.bool true))) ?_
  (iterate 4 refine o1 ?_)
  refine ca (fE (xs:=(dg 4294967296 (cB l))) (u:=cB l) (by omega) (by omega) rfl) gN ⟨cH rfl (.sl rfl rfl (fV _) (dD _)),a1 rfl,rfl⟩ (.one (tv (.bool true))) ?_
  (iterate 5 refine o1 ?_);refine ca (bN (xs:=xs) (ys:=xs) (by omega) rfl) dB ⟨a1 rfl,a1 rfl,rfl⟩ (.one (tv (.bool true))) ?_
  (iterate 5 refine o1 ?_);refine ca (bN (xs:=ys) (ys:=ys) (by omega) rfl) dB ⟨a1 rfl,a1 rfl,rfl⟩ (.one (tv (.bool true))) ?_
  refine o1 ?_;refine o1 ?_;refine nl ?_;refine fU rfl ?_;refine sk ?_;refine sq ?_;refine rl ?_;refine o1 ?_
  refine cl 2 [0] (xJ (xs:=(dg 4294967296 (val xs*val ys))) (by omega)) Mq ⟨cG rfl,rfl⟩ ⟨rfl,rfl⟩ (ok:=[some ⟨22,1,(aB (List.replicate (dg 4294967296 (val xs*val ys)).length 77)).map .t⟩]) ⟨cG rfl,rfl⟩ ?_
  refine nl ?_;refine rl ?_;refine o1 ?_
  refine cl 2 [1] (xJ (xs:=(dg 4294967296 (cB l))) (by omega)) Mq ⟨cG rfl,rfl⟩ ⟨rfl,rfl⟩ (ok:=[some ⟨22,1,(aB (List.replicate (dg 4294967296 (cB l)).length 77)).map .t⟩]) ⟨cG rfl,rfl⟩ ?_
  refine nl ?_;refine rl ?_;refine o1 ?_;refine o1 ?_;refine WL.cast (t:=63) (u':=.int .i64 ((t+1:Nat):Int)) rfl (aD (by omega)) ?_
  refine o1 ?_;refine nl ?_;exact⟨t+1,by omega,⟨by omega,trivial⟩,aZ h0 [] _ _ (by decide) ⟨rfl,rfl,rfl,rfl,rfl,rfl,rfl,rfl,trivial⟩ rfl⟩
 refine ex ?_;refine sq ?_;refine rl ?_;refine ca (bD) dJ rfl (.one (tv (.bool true))) ?_;refine o1 ?_;refine nl ?_;refine rt ?_;exact cL (.inl rfl) rfl (rfl)
theorem Hf {u v L:Nat}(hu:(dg 2 u).length≤L) (hv:(dg 2 v).length≤L):(dg 2 (Nat.gcd u v)).length≤L:=by
 rcases Nat.eq_zero_or_pos u with h | h
 ·subst h;rw[Nat.gcd_zero_left];exact hv
 exact gI (Nat.gcd_le_left v h) hu
theorem iG {xs ys:List Nat}{l:List (List Nat)}(hxs:Lim 4294967296 xs) (hys:Lim 4294967296 ys) (hl:∀x∈l,Lim 4294967296 x):aJ true Tryz.prog 18 [] [nF xs,nF ys,.one (.t (.s false 23 1 l.length (rT l)))] (bC (.one (tv (.bool true)))):=by
 refine cR Tryz.func18 rfl Tryz.ntmps18 rfl aG rfl fun N9 w9 c0 h0=>?_
 refine sq ?_;refine rl ?_;refine o1 ?_;refine nl ?_;refine sq ?_;refine sq ?_;refine rl ?_;(iterate 4 refine o1 ?_);refine WL.split (t:=19) rfl (fun h1=>?_) (fun h1=>?_)
 ·(iterate 3 refine dC ?_);refine o1 ?_;refine o1 ?_;(iterate 3 refine dC ?_);refine o1 ?_;refine nl ?_;refine gT rfl ?_;refine sq ?_;refine rl ?_
  refine ca (bD) dJ rfl (.one (tv (.bool true))) ?_;refine o1 ?_;refine nl ?_;refine rt ?_;exact cL (.inl rfl) rfl (rfl)
 (iterate 5 refine o1 ?_);refine WL.split (t:=24) rfl (fun h2=>?_) (fun h2=>?_)
 ·(iterate 3 refine dC ?_);refine o1 ?_;refine nl ?_;refine gT rfl ?_;refine sq ?_;refine rl ?_;refine ca (bD) dJ rfl (.one (tv (.bool true))) ?_;refine o1 ?_;refine nl ?_
  refine rt ?_;exact cL (.inl rfl) rfl (rfl)
 (iterate 4 refine o1 ?_);refine nl ?_;refine bG rfl (fun h3=>?_) (fun h3=>?_)
 ·refine sq ?_;refine rl ?_;refine ca (bD) dJ rfl (.one (tv (.bool true))) ?_;refine o1 ?_;refine nl ?_;refine rt ?_;exact cL (.inl rfl) rfl (rfl)
 refine sk ?_;refine sq ?_;refine rl ?_;refine o1 ?_;refine nl ?_;refine sq ?_;refine sq ?_;refine rl ?_;refine o1 ?_;refine nl ?_;refine bl ?_
 refine lp (γ:=Nat) (fun s=>bO [(0,.one (.t (sU false xs))),(1,.one (.t (sU false ys))),(2,.one (.t (.s false 23 1 l.length (rT l)))),(7,.one (.t (.s false 5 1 (dg 2 (cQ (l.take s))).length (aV (dg 2 (cQ (l.take s))))))),(8,.one (tv (.int .i64 ((s:Nat):Int))))]) (fun s=>([]:List Ob).map some) (fun s=>s≤l.length∧(dg 2 (cQ (l.take s))).length≤256∧∀j,j<s→(bY l j).length≤8) (fun s=>l.length-s) 0 (⟨Nat.zero_le _,by show(dg 2 0).length≤_;decide,fun j hj=>absurd hj (by omega)⟩) (((nr (i:=7) 0 5 1 rfl rfl rfl rfl).trans (rO (i:=7) (zs:=[]) (zs':=[]) rfl rfl rfl rfl rfl)).trans (aZ h0 [] _ _ (by decide) ⟨rfl,rfl,rfl,rfl,rfl,trivial⟩ rfl)) ?_
 rintro i hi;refine sq ?_;refine sq ?_;refine rl ?_;(iterate 4 refine o1 ?_);refine nl ?_;refine bG rfl (fun h4=>?_) (fun h4=>?_)
 ·refine sk ?_;refine sq ?_;refine bl ?_;refine sq ?_;refine sq ?_;refine rl ?_;(iterate 3 refine o1 ?_);refine jS ([sU false (bY l (i))]) (qC l (k:=i) (by omega)) ?_
  refine o1 ?_;refine o1 ?_;refine nl ?_;refine bG rfl (fun h5=>?_) (fun h5=>?_)
  ·refine sq ?_;refine rl ?_;refine ca (bD) dJ rfl (.one (tv (.bool true))) ?_;refine o1 ?_;refine nl ?_;refine rt ?_;exact cL (.inl rfl) rfl (rfl)
  refine sk ?_;have hb9:=eJ (L:=8) (hl _ (fI (l:=l) (k:=i) (by omega))) (by omega)
  have hm9:(dg 2 (Nat.gcd (cQ (l.take i)) (val (bY l i)))).length≤256:=Hf hi.2.1 hb9
  refine rl ?_;(iterate 4 refine o1 ?_);refine jS ([sU false (bY l (i))]) (qC l (k:=i) (by omega)) ?_
  refine ca (eE (xs:=(bY l (i))) (u:=val (bY l (i))) (hl _ (fI (by omega))) (by omega) rfl) gO ⟨a1 rfl,rfl⟩ ((bR (dg 2 (val (bY l (i)))))) ?_
  refine ca (Qw (u:=cQ (l.take i)) (v:=val (bY l i)) (by omega) (by omega)) Ss ⟨a1 rfl,a1 rfl,rfl⟩ ((bR (dg 2 (Nat.gcd (cQ (l.take i)) (val (bY l i)))))) ?_
  refine o1 ?_;refine nl ?_;refine rl ?_;refine o1 ?_;refine o1 ?_;refine WL.cast (t:=35) (u':=.int .i64 ((i+1:Nat):Int)) rfl (aD (by omega)) ?_
  refine o1 ?_;refine nl ?_
  exact⟨i+1,by omega,⟨by omega,by rw[←xE (by omega)];exact hm9,fun j hj=>(Nat.lt_or_ge j i).elim (hi.2.2 j) (fun h=>by rw[show j=i by omega];omega)⟩,aZ h0 [] _ _ (by decide) ⟨rfl,rfl,rfl,(congrArg (fun z:Nat=>some (bR (dg 2 z))) (xE (l:=l) (k:=i) (by omega)).symm),rfl,trivial⟩ rfl⟩
 refine ex ?_;refine sq ?_;refine rl ?_;have hi9:i=l.length:=by omega
 have hRL:=Ij hl hi.2.2 (by omega)
 have hpl:=hi.2.1
 rw[hi9,List.take_length]at hpl;have hpd:=kB (L:=100) (u:=cQ l) (by omega)
 have hb1:=eJ (L:=16) hxs (by omega)
 have hb2:=eJ (L:=16) hys (by omega)
 have hNx:=fJ hxs (by omega)
 have hNy:=fJ hys (by omega)
 have hlx:=Nn.len hNx (Nat.le_refl _)
 have hly:=Nn.len hNy (Nat.le_refl _)
 refine WL.sub (Hb (i:=7) rfl (congrArg (fun z:List (List Nat)=>bR (dg 2 (cQ z))) (show l.take i=l by rw[hi9,List.take_length]))) ?_
 refine o1 ?_;refine ca (mS (xs:=xs) (by omega)) Ay ⟨a1 rfl,rfl⟩ (nF xs) ?_
 refine o1 ?_;refine ca (mS (xs:=ys) (by omega)) Ay ⟨a1 rfl,rfl⟩ (nF ys) ?_
 refine o1 ?_;refine o1 ?_;refine nl ?_;refine sq ?_;refine rl ?_;rcases Classical.em (val ys=0)with hv0 | hv0
 ·refine o1 ?_;refine o1 ?_;refine ca (uD hNx (hv0▸hNy)) nU ⟨a1 rfl,a1 rfl,rfl⟩ (.tup [nF (dg 4294967296 (0)),nF (dg 4294967296 (0)),.one (tv (.int .i64 20))]) ?_
  (iterate 7 refine o1 ?_);refine nl ?_;refine sq ?_;refine sq ?_;refine rl ?_;refine o1 ?_;refine ca (Bv hRL (by omega)) pX ⟨a1 rfl,rfl⟩ (nF (dg 4294967296 (cQ l))) ?_
  refine o1 ?_;refine ca (fE (xs:=(dg 4294967296 (cQ l))) (u:=cQ l) (by omega) (by omega) rfl) gN ⟨a1 rfl,a1 rfl,rfl⟩ (.one (tv (.bool true))) ?_
  (iterate 4 refine o1 ?_);refine ca (bN (xs:=xs) (ys:=xs) (by omega) rfl) dB ⟨a1 rfl,a1 rfl,rfl⟩ (.one (tv (.bool true))) ?_
  (iterate 5 refine o1 ?_);refine ca (bN (xs:=ys) (ys:=ys) (by omega) rfl) dB ⟨a1 rfl,a1 rfl,rfl⟩ (.one (tv (.bool true))) ?_
  refine o1 ?_;refine o1 ?_;refine nl ?_;refine fU rfl ?_;refine sk ?_;refine sq ?_;refine sq ?_;refine rl ?_;refine o1 ?_
  refine ca (eE (xs:=ys) (u:=val ys) hys (by omega) rfl) gO ⟨a1 rfl,rfl⟩ ((bR (dg 2 (val ys)))) ?_
  refine o1 ?_;refine o1 ?_;refine WL.cast (t:=81) (u':=.bool true) rfl (congrArg Value.bool (decide_eq_true (by rw[hv0];rfl))) ?_
  refine nl ?_;refine gT rfl ?_;refine sq ?_;refine rl ?_;refine o1 ?_;refine o1 ?_;refine WL.cast (t:=83) (u':=.bool true) rfl (congrArg Value.bool (decide_eq_true rfl)) ?_
  (iterate 4 refine o1 ?_);refine WL.cast (t:=87) (u':=.bool true) rfl (congrArg Value.bool (decide_eq_true rfl)) ?_;(iterate 5 refine o1 ?_)
  refine WL.cast (t:=92) (u':=.bool true) rfl (congrArg Value.bool (decide_eq_true rfl)) ?_;refine o1 ?_;refine o1 ?_;refine ca (bD) dJ rfl (.one (tv (.bool true))) ?_
  refine o1 ?_;refine o1 ?_;refine nl ?_;refine rt ?_;exact cL (.inl rfl) rfl (rfl)
 have hmv:=Nat.mod_lt (val xs) (Nat.pos_of_ne_zero hv0)
 have hd1:=gI (Nat.div_le_self (val xs) (val ys)) hb1
 have hd2:=gI (Nat.le_of_lt hmv) hb2
 have hd3:=kB (L:=100) (u:=val xs/val ys) (by omega)
 have hd4:=kB (L:=100) (u:=val xs%val ys) (by omega)
 refine o1 ?_;refine o1 ?_
 refine ca (hJ (q:=val xs/val ys) (r:=val xs%val ys) hNx hNy hv0 rfl rfl) nU ⟨a1 rfl,a1 rfl,rfl⟩ (.tup [nF (dg 4294967296 (val xs/val ys)),nF (dg 4294967296 (val xs%val ys)),.one (tv (.int .i64 0))]) ?_
 (iterate 7 refine o1 ?_);refine nl ?_;refine sq ?_;refine sq ?_;refine rl ?_;refine o1 ?_;refine ca (Bv hRL (by omega)) pX ⟨a1 rfl,rfl⟩ (nF (dg 4294967296 (cQ l))) ?_
 refine o1 ?_;refine ca (fE (xs:=(dg 4294967296 (cQ l))) (u:=cQ l) (by omega) (by omega) rfl) gN ⟨a1 rfl,a1 rfl,rfl⟩ (.one (tv (.bool true))) ?_
 (iterate 4 refine o1 ?_);refine ca (bN (xs:=xs) (ys:=xs) (by omega) rfl) dB ⟨a1 rfl,a1 rfl,rfl⟩ (.one (tv (.bool true))) ?_
 (iterate 5 refine o1 ?_);refine ca (bN (xs:=ys) (ys:=ys) (by omega) rfl) dB ⟨a1 rfl,a1 rfl,rfl⟩ (.one (tv (.bool true))) ?_
 refine o1 ?_;refine o1 ?_;refine nl ?_;refine fU rfl ?_;refine sk ?_;refine sq ?_;refine sq ?_;refine rl ?_;refine o1 ?_
 refine ca (eE (xs:=ys) (u:=val ys) hys (by omega) rfl) gO ⟨a1 rfl,rfl⟩ ((bR (dg 2 (val ys)))) ?_
 refine o1 ?_;refine o1 ?_;refine WL.cast (t:=81) (u':=.bool false) rfl (congrArg Value.bool (decide_eq_false fun h=>hv0 (rP (by omega)))) ?_
 refine nl ?_;refine fU rfl ?_;refine sk ?_;refine sq ?_;refine rl ?_;refine o1 ?_
 refine ca (eE (xs:=xs) (u:=val xs) hxs (by omega) rfl) gO ⟨a1 rfl,rfl⟩ ((bR (dg 2 (val xs)))) ?_
 refine o1 ?_;refine ca (eE (xs:=ys) (u:=val ys) hys (by omega) rfl) gO ⟨a1 rfl,rfl⟩ ((bR (dg 2 (val ys)))) ?_
 refine ca (qE (u:=val xs) (v:=val ys) (by omega) (by omega) hv0) Gf ⟨a1 rfl,a1 rfl,rfl⟩ (.tup [(bR (dg 2 (val xs/val ys))),(bR (dg 2 (val xs%val ys)))]) ?_
 (iterate 5 refine o1 ?_);refine nl ?_;refine sq ?_;refine rl ?_;refine o1 ?_;refine o1 ?_
 refine WL.cast (t:=106) (u':=.bool true) rfl (congrArg Value.bool (decide_eq_true rfl)) ?_;(iterate 3 refine o1 ?_)
 refine ca (fE (xs:=(dg 4294967296 (val xs/val ys))) (u:=val xs/val ys) (by omega) (by omega) rfl) gN ⟨a1 rfl,a1 rfl,rfl⟩ (.one (tv (.bool true))) ?_
 (iterate 4 refine o1 ?_);refine ca (fE (xs:=(dg 4294967296 (val xs%val ys))) (u:=val xs%val ys) (by omega) (by omega) rfl) gN ⟨a1 rfl,a1 rfl,rfl⟩ (.one (tv (.bool true))) ?_
 refine o1 ?_;refine o1 ?_;refine ca (bD) dJ rfl (.one (tv (.bool true))) ?_;refine o1 ?_;refine o1 ?_;refine nl ?_;refine rt ?_;exact cL (.inl rfl) rfl (rfl)
theorem mT {l:List Nat}(h:l.length≤60∨4096<l.length):(dg 4294967296 (dK l)).length≤60:=by
 rcases h with h | h
 ·exact Nat.le_trans (tD l) h
 by_cases h0:eR l=0
 ·unfold eR at h0
  split at h0 <;> first | omega | (rw[if_pos h]at h0;omega)
 rw[fX h0];exact Nat.zero_le _
theorem pB {x:Nat}{n:Int}(hx:x<4294967296) (h:n≤40∨4096<n):(dg 4294967296 (cS x n)).length≤41:=by
 unfold cS
 by_cases h0:eD n=0
 ·rw[if_pos h0]
  have h1:n.toNat≤40:=by
   rcases h with h | h
   ·omega
   unfold eD at h0
   rw[if_neg (by omega),if_pos h]at h0
   cases h0
  exact Nat.le_trans (iA hx) (by omega)
 rw[if_neg h0];exact Nat.zero_le _
theorem gS {l xs:List Nat}{x:Nat}{n:Int}(hl:Lim 256 l) (hln:l.length≤9223372036854775807) (hx:x<4294967296) (hxs:Lim 4294967296 xs):aJ true Tryz.prog 3 [] [.one (tv (.string (aH l))),.one (tv (.int .u32 ((x:Nat):Int))),.one (tv (.int .i64 n)),nF xs] (bC (.one (tv (.bool true)))):=by
 refine cR Tryz.func3 rfl Tryz.ntmps3 rfl aG rfl fun N9 w9 c0 h0=>?_
 refine sq ?_;refine rl ?_;refine o1 ?_;refine nl ?_;refine sq ?_;refine sq ?_;refine rl ?_;refine o1 ?_;refine o1 ?_
 refine WL.cast (t:=18) (u':=.int .i64 ((l.length:Nat):Int)) rfl (congrArg (fun n:Nat=>Value.int .i64 (n:Int)) (aP _)) ?_
 refine o1 ?_;refine o1 ?_;refine WL.split (t:=20) rfl (fun h1=>?_) (fun h1=>?_)
 ·refine o1 ?_;refine o1 ?_;refine WL.cast (t:=22) (u':=.int .i64 ((l.length:Nat):Int)) rfl (congrArg (fun n:Nat=>Value.int .i64 (n:Int)) (aP _)) ?_
  (iterate 3 refine o1 ?_);refine WL.split (t:=25) rfl (fun h2=>?_) (fun h2=>?_)
  ·(iterate 6 refine dC ?_);refine o1 ?_;refine o1 ?_;(iterate 3 refine dC ?_);refine o1 ?_;refine nl ?_;refine gT rfl ?_;refine sq ?_;refine rl ?_
   refine ca (bD) dJ rfl (.one (tv (.bool true))) ?_;refine o1 ?_;refine nl ?_;refine rt ?_;exact cL (.inl rfl) rfl (rfl)
  (iterate 3 refine o1 ?_);refine WL.split (t:=28) rfl (fun h3=>?_) (fun h3=>?_)
  ·(iterate 5 refine o1 ?_);refine WL.split (t:=33) rfl (fun h4=>?_) (fun h4=>?_)
   ·(iterate 3 refine dC ?_);refine o1 ?_;refine nl ?_;refine gT rfl ?_;refine sq ?_;refine rl ?_;refine ca (bD) dJ rfl (.one (tv (.bool true))) ?_;refine o1 ?_;refine nl ?_
    refine rt ?_;exact cL (.inl rfl) rfl (rfl)
   (iterate 4 refine o1 ?_);refine nl ?_;refine bG rfl (fun h5=>?_) (fun h5=>?_)
   ·refine sq ?_;refine rl ?_;refine ca (bD) dJ rfl (.one (tv (.bool true))) ?_;refine o1 ?_;refine nl ?_;refine rt ?_;exact cL (.inl rfl) rfl (rfl)
   refine sk ?_;refine sq ?_;have hN:=fJ hxs (by omega)
   have hb1:=eJ (L:=8) hxs (by omega)
   have hq1:=mT (l:=l) (by omega)
   have hq2:=pB (x:=x) (n:=n) hx (by omega)
   have hq3:=eX hq1
   have hq4:=eX hq2
   refine rl ?_;refine o1 ?_;refine ca (jF hl hln) pE ⟨a1 rfl,rfl⟩ (.tup [nF (dg 4294967296 (dK l)),.one (tv (.int .i64 (eR l)))]) ?_;(iterate 5 refine o1 ?_);refine nl ?_
   refine sq ?_;refine rl ?_;refine o1 ?_;refine ca (pA hl hln) As ⟨a1 rfl,rfl⟩ (.tup [(bR (dg 2 (dK l))),.one (tv (.int .i64 (eR l)))]) ?_;(iterate 5 refine o1 ?_)
   refine nl ?_;refine sq ?_;refine rl ?_;refine o1 ?_;refine o1 ?_;refine ca (rM hx) iP ⟨a1 rfl,a1 rfl,rfl⟩ (.tup [nF (dg 4294967296 (cS x n)),.one (tv (.int .i64 (eD n)))]) ?_
   (iterate 5 refine o1 ?_);refine nl ?_;refine sq ?_;refine rl ?_;refine o1 ?_;refine o1 ?_
   refine ca (uU hx) At ⟨a1 rfl,a1 rfl,rfl⟩ (.tup [(bR (dg 2 (cS x n))),.one (tv (.int .i64 (eD n)))]) ?_;(iterate 5 refine o1 ?_);refine nl ?_;refine sq ?_;refine rl ?_
   (iterate 3 refine o1 ?_);refine WL.cast (t:=63) (u':=.bool true) rfl (congrArg Value.bool (decide_eq_true rfl)) ?_;(iterate 3 refine o1 ?_)
   refine ca (fE (xs:=(dg 4294967296 (dK l))) (u:=dK l) (by omega) (by omega) rfl) gN ⟨a1 rfl,a1 rfl,rfl⟩ (.one (tv (.bool true))) ?_
   (iterate 5 refine o1 ?_);refine WL.cast (t:=72) (u':=.bool true) rfl (congrArg Value.bool (decide_eq_true rfl)) ?_;(iterate 4 refine o1 ?_)
   refine ca (fE (xs:=(dg 4294967296 (cS x n))) (u:=cS x n) (by omega) (by omega) rfl) gN ⟨a1 rfl,a1 rfl,rfl⟩ (.one (tv (.bool true))) ?_
   (iterate 3 refine o1 ?_);refine ca (gR hN) jR ⟨a1 rfl,rfl⟩ (.one (tv (.string (aH (tx (val xs)))))) ?_;refine o1 ?_
   refine ca (eE (xs:=xs) (u:=val xs) hxs (by omega) rfl) gO ⟨a1 rfl,rfl⟩ ((bR (dg 2 (val xs)))) ?_
   refine ca (uV (u:=val xs) (by omega)) Au ⟨a1 rfl,rfl⟩ (.one (tv (.string (aH (tx (val xs)))))) ?_
   refine o1 ?_;refine WL.cast (t:=85) (u':=.bool true) rfl (congrArg Value.bool (beq_self_eq_true _)) ?_;refine o1 ?_;refine o1 ?_
   refine ca (bD) dJ rfl (.one (tv (.bool true))) ?_;refine o1 ?_;refine o1 ?_;refine nl ?_;refine rt ?_;exact cL (.inl rfl) rfl (rfl)
  refine dC ?_;refine dC ?_;(iterate 7 refine o1 ?_);refine nl ?_;refine bG rfl (fun h6=>?_) (fun h6=>?_)
  ·refine sq ?_;refine rl ?_;refine ca (bD) dJ rfl (.one (tv (.bool true))) ?_;refine o1 ?_;refine nl ?_;refine rt ?_;exact cL (.inl rfl) rfl (rfl)
  refine sk ?_;refine sq ?_;have hN:=fJ hxs (by omega)
  have hb1:=eJ (L:=8) hxs (by omega)
  have hq1:=mT (l:=l) (by omega)
  have hq2:=pB (x:=x) (n:=n) hx (by omega)
  have hq3:=eX hq1
  have hq4:=eX hq2
  refine rl ?_;refine o1 ?_;refine ca (jF hl hln) pE ⟨a1 rfl,rfl⟩ (.tup [nF (dg 4294967296 (dK l)),.one (tv (.int .i64 (eR l)))]) ?_;(iterate 5 refine o1 ?_);refine nl ?_
  refine sq ?_;refine rl ?_;refine o1 ?_;refine ca (pA hl hln) As ⟨a1 rfl,rfl⟩ (.tup [(bR (dg 2 (dK l))),.one (tv (.int .i64 (eR l)))]) ?_;(iterate 5 refine o1 ?_);refine nl ?_
  refine sq ?_;refine rl ?_;refine o1 ?_;refine o1 ?_;refine ca (rM hx) iP ⟨a1 rfl,a1 rfl,rfl⟩ (.tup [nF (dg 4294967296 (cS x n)),.one (tv (.int .i64 (eD n)))]) ?_
  (iterate 5 refine o1 ?_);refine nl ?_;refine sq ?_;refine rl ?_;refine o1 ?_;refine o1 ?_
  refine ca (uU hx) At ⟨a1 rfl,a1 rfl,rfl⟩ (.tup [(bR (dg 2 (cS x n))),.one (tv (.int .i64 (eD n)))]) ?_;(iterate 5 refine o1 ?_);refine nl ?_;refine sq ?_;refine rl ?_
  (iterate 3 refine o1 ?_);refine WL.cast (t:=63) (u':=.bool true) rfl (congrArg Value.bool (decide_eq_true rfl)) ?_;(iterate 3 refine o1 ?_)
  refine ca (fE (xs:=(dg 4294967296 (dK l))) (u:=dK l) (by omega) (by omega) rfl) gN ⟨a1 rfl,a1 rfl,rfl⟩ (.one (tv (.bool true))) ?_
  (iterate 5 refine o1 ?_);refine WL.cast (t:=72) (u':=.bool true) rfl (congrArg Value.bool (decide_eq_true rfl)) ?_;(iterate 4 refine o1 ?_)
  refine ca (fE (xs:=(dg 4294967296 (cS x n))) (u:=cS x n) (by omega) (by omega) rfl) gN ⟨a1 rfl,a1 rfl,rfl⟩ (.one (tv (.bool true))) ?_
  (iterate 3 refine o1 ?_);refine ca (gR hN) jR ⟨a1 rfl,rfl⟩ (.one (tv (.string (aH (tx (val xs)))))) ?_;refine o1 ?_
  refine ca (eE (xs:=xs) (u:=val xs) hxs (by omega) rfl) gO ⟨a1 rfl,rfl⟩ ((bR (dg 2 (val xs)))) ?_
  refine ca (uV (u:=val xs) (by omega)) Au ⟨a1 rfl,rfl⟩ (.one (tv (.string (aH (tx (val xs)))))) ?_
  refine o1 ?_;refine WL.cast (t:=85) (u':=.bool true) rfl (congrArg Value.bool (beq_self_eq_true _)) ?_;refine o1 ?_;refine o1 ?_
  refine ca (bD) dJ rfl (.one (tv (.bool true))) ?_;refine o1 ?_;refine o1 ?_;refine nl ?_;refine rt ?_;exact cL (.inl rfl) rfl (rfl)
 (iterate 3 refine dC ?_);(iterate 5 refine o1 ?_);refine WL.split (t:=28) rfl (fun h7=>?_) (fun h7=>?_)
 ·(iterate 5 refine o1 ?_);refine WL.split (t:=33) rfl (fun h8=>?_) (fun h8=>?_)
  ·(iterate 3 refine dC ?_);refine o1 ?_;refine nl ?_;refine gT rfl ?_;refine sq ?_;refine rl ?_;refine ca (bD) dJ rfl (.one (tv (.bool true))) ?_;refine o1 ?_;refine nl ?_
   refine rt ?_;exact cL (.inl rfl) rfl (rfl)
  (iterate 4 refine o1 ?_);refine nl ?_;refine bG rfl (fun h9=>?_) (fun h9=>?_)
  ·refine sq ?_;refine rl ?_;refine ca (bD) dJ rfl (.one (tv (.bool true))) ?_;refine o1 ?_;refine nl ?_;refine rt ?_;exact cL (.inl rfl) rfl (rfl)
  refine sk ?_;refine sq ?_;have hN:=fJ hxs (by omega)
  have hb1:=eJ (L:=8) hxs (by omega)
  have hq1:=mT (l:=l) (by omega)
  have hq2:=pB (x:=x) (n:=n) hx (by omega)
  have hq3:=eX hq1
  have hq4:=eX hq2
  refine rl ?_;refine o1 ?_;refine ca (jF hl hln) pE ⟨a1 rfl,rfl⟩ (.tup [nF (dg 4294967296 (dK l)),.one (tv (.int .i64 (eR l)))]) ?_;(iterate 5 refine o1 ?_);refine nl ?_
  refine sq ?_;refine rl ?_;refine o1 ?_;refine ca (pA hl hln) As ⟨a1 rfl,rfl⟩ (.tup [(bR (dg 2 (dK l))),.one (tv (.int .i64 (eR l)))]) ?_;(iterate 5 refine o1 ?_);refine nl ?_
  refine sq ?_;refine rl ?_;refine o1 ?_;refine o1 ?_;refine ca (rM hx) iP ⟨a1 rfl,a1 rfl,rfl⟩ (.tup [nF (dg 4294967296 (cS x n)),.one (tv (.int .i64 (eD n)))]) ?_
  (iterate 5 refine o1 ?_);refine nl ?_;refine sq ?_;refine rl ?_;refine o1 ?_;refine o1 ?_
  refine ca (uU hx) At ⟨a1 rfl,a1 rfl,rfl⟩ (.tup [(bR (dg 2 (cS x n))),.one (tv (.int .i64 (eD n)))]) ?_;(iterate 5 refine o1 ?_);refine nl ?_;refine sq ?_;refine rl ?_
  (iterate 3 refine o1 ?_);refine WL.cast (t:=63) (u':=.bool true) rfl (congrArg Value.bool (decide_eq_true rfl)) ?_;(iterate 3 refine o1 ?_)
  refine ca (fE (xs:=(dg 4294967296 (dK l))) (u:=dK l) (by omega) (by omega) rfl) gN ⟨a1 rfl,a1 rfl,rfl⟩ (.one (tv (.bool true))) ?_
  (iterate 5 refine o1 ?_);refine WL.cast (t:=72) (u':=.bool true) rfl (congrArg Value.bool (decide_eq_true rfl)) ?_;(iterate 4 refine o1 ?_)
  refine ca (fE (xs:=(dg 4294967296 (cS x n))) (u:=cS x n) (by omega) (by omega) rfl) gN ⟨a1 rfl,a1 rfl,rfl⟩ (.one (tv (.bool true))) ?_
  (iterate 3 refine o1 ?_);refine ca (gR hN) jR ⟨a1 rfl,rfl⟩ (.one (tv (.string (aH (tx (val xs)))))) ?_;refine o1 ?_
  refine ca (eE (xs:=xs) (u:=val xs) hxs (by omega) rfl) gO ⟨a1 rfl,rfl⟩ ((bR (dg 2 (val xs)))) ?_
  refine ca (uV (u:=val xs) (by omega)) Au ⟨a1 rfl,rfl⟩ (.one (tv (.string (aH (tx (val xs)))))) ?_
  refine o1 ?_;refine WL.cast (t:=85) (u':=.bool true) rfl (congrArg Value.bool (beq_self_eq_true _)) ?_;refine o1 ?_;refine o1 ?_
  refine ca (bD) dJ rfl (.one (tv (.bool true))) ?_;refine o1 ?_;refine o1 ?_;refine nl ?_;refine rt ?_;exact cL (.inl rfl) rfl (rfl)
 refine dC ?_;refine dC ?_;(iterate 7 refine o1 ?_);refine nl ?_;refine bG rfl (fun h10=>?_) (fun h10=>?_)
 ·refine sq ?_;refine rl ?_;refine ca (bD) dJ rfl (.one (tv (.bool true))) ?_;refine o1 ?_;refine nl ?_;refine rt ?_;exact cL (.inl rfl) rfl (rfl)
 refine sk ?_;refine sq ?_;have hN:=fJ hxs (by omega)
 have hb1:=eJ (L:=8) hxs (by omega)
 have hq1:=mT (l:=l) (by omega)
 have hq2:=pB (x:=x) (n:=n) hx (by omega)
 have hq3:=eX hq1
 have hq4:=eX hq2
 refine rl ?_;refine o1 ?_;refine ca (jF hl hln) pE ⟨a1 rfl,rfl⟩ (.tup [nF (dg 4294967296 (dK l)),.one (tv (.int .i64 (eR l)))]) ?_;(iterate 5 refine o1 ?_);refine nl ?_
 refine sq ?_;refine rl ?_;refine o1 ?_;refine ca (pA hl hln) As ⟨a1 rfl,rfl⟩ (.tup [(bR (dg 2 (dK l))),.one (tv (.int .i64 (eR l)))]) ?_;(iterate 5 refine o1 ?_);refine nl ?_
 refine sq ?_;refine rl ?_;refine o1 ?_;refine o1 ?_;refine ca (rM hx) iP ⟨a1 rfl,a1 rfl,rfl⟩ (.tup [nF (dg 4294967296 (cS x n)),.one (tv (.int .i64 (eD n)))]) ?_
 (iterate 5 refine o1 ?_);refine nl ?_;refine sq ?_;refine rl ?_;refine o1 ?_;refine o1 ?_
 refine ca (uU hx) At ⟨a1 rfl,a1 rfl,rfl⟩ (.tup [(bR (dg 2 (cS x n))),.one (tv (.int .i64 (eD n)))]) ?_;(iterate 5 refine o1 ?_);refine nl ?_;refine sq ?_;refine rl ?_
 (iterate 3 refine o1 ?_);refine WL.cast (t:=63) (u':=.bool true) rfl (congrArg Value.bool (decide_eq_true rfl)) ?_;(iterate 3 refine o1 ?_)
 refine ca (fE (xs:=(dg 4294967296 (dK l))) (u:=dK l) (by omega) (by omega) rfl) gN ⟨a1 rfl,a1 rfl,rfl⟩ (.one (tv (.bool true))) ?_
 (iterate 5 refine o1 ?_);refine WL.cast (t:=72) (u':=.bool true) rfl (congrArg Value.bool (decide_eq_true rfl)) ?_;(iterate 4 refine o1 ?_)
 refine ca (fE (xs:=(dg 4294967296 (cS x n))) (u:=cS x n) (by omega) (by omega) rfl) gN ⟨a1 rfl,a1 rfl,rfl⟩ (.one (tv (.bool true))) ?_
 (iterate 3 refine o1 ?_);refine ca (gR hN) jR ⟨a1 rfl,rfl⟩ (.one (tv (.string (aH (tx (val xs)))))) ?_;refine o1 ?_
 refine ca (eE (xs:=xs) (u:=val xs) hxs (by omega) rfl) gO ⟨a1 rfl,rfl⟩ ((bR (dg 2 (val xs)))) ?_
 refine ca (uV (u:=val xs) (by omega)) Au ⟨a1 rfl,rfl⟩ (.one (tv (.string (aH (tx (val xs)))))) ?_
 refine o1 ?_;refine WL.cast (t:=85) (u':=.bool true) rfl (congrArg Value.bool (beq_self_eq_true _)) ?_;refine o1 ?_;refine o1 ?_;refine ca (bD) dJ rfl (.one (tv (.bool true))) ?_
 refine o1 ?_;refine o1 ?_;refine nl ?_;refine rt ?_;exact cL (.inl rfl) rfl (rfl)
theorem eY {x p:Nat}(h:p≤4096):cS x ((p:Nat):Int)=x^p∧eD ((p:Nat):Int)=0:=by
 have he:eD ((p:Nat):Int)=0:=by unfold eD;rw[if_neg (by omega),if_neg (by omega)]
 exact⟨by rw[cS,if_pos he,Int.toNat_natCast],he⟩
theorem Bx {a b:List Nat}{u v:Nat}(ha:vl 4294967296 a=u) (hb:vl 4294967296 b=v):cQ [a,b]=Nat.gcd u v:=by
 subst ha hb
 simp[cQ,val]
theorem By {a b c:List Nat}{u v w:Nat}(ha:vl 4294967296 a=u) (hb:vl 4294967296 b=v) (hc:vl 4294967296 c=w):cB [a,b,c]=u*v*w:=by
 subst ha hb hc
 simp[cB,val]
theorem Fb {a b c:List Nat}{u v w:Nat}(ha:vl 4294967296 a=u) (hb:vl 4294967296 b=v) (hc:vl 4294967296 c=w):cB [c,a,b]=u*v*w:=by
 rw[By hc ha hb,Nat.mul_assoc,Nat.mul_comm]
theorem Bz {a b:List Nat}{u v:Nat}(ha:Nn a u) (hb:Nn b v) (la:a.length≤1000) (lb:b.length≤1000):RL 1000 [a,b]:=by
 intro x hx
 simp only[List.mem_cons,List.not_mem_nil,or_false]at hx
 rcases hx with rfl | rfl
 ·exact⟨ha.1,la⟩
 exact⟨hb.1,lb⟩
theorem Ca {a b c:List Nat}{u v w:Nat}(ha:Nn a u) (hb:Nn b v) (hc:Nn c w) (la:a.length≤1000) (lb:b.length≤1000) (lc:c.length≤1000):RL 1000 [a,b,c]:=by
 intro x hx
 simp only[List.mem_cons,List.not_mem_nil,or_false]at hx
 rcases hx with rfl | rfl | rfl
 ·exact⟨ha.1,la⟩
 ·exact⟨hb.1,lb⟩
 exact⟨hc.1,lc⟩
theorem Kq {a b:Nat}(h:a<b):¬0≤fS a b:=by
 unfold fS hG
 rw[if_pos (by omega)]
 omega
theorem Fc {xs l:List Nat}{x p q:Nat}(hxs:Lim 4294967296 xs) (hl:Lim 256 l) (hx:x<4294967296) (hp:p<256) (hq:q<256):aJ true Tryz.prog 20 [] [nF xs,.one (tv (.string (aH l))),.one (tv (.int .u32 ((x:Nat):Int))),.one (tv (.int .u8 ((p:Nat):Int))),.one (tv (.int .u8 ((q:Nat):Int)))] (bC (.one (tv (.bool true)))):=by
 refine cR Tryz.func20 rfl Tryz.ntmps20 rfl aG rfl fun N9 w9 c0 h0=>?_
 refine sq ?_;refine rl ?_;refine o1 ?_;refine nl ?_;refine sq ?_;refine sq ?_;refine rl ?_;(iterate 4 refine o1 ?_);refine WL.split (t:=24) rfl (fun h1=>?_) (fun h1=>?_)
 ·(iterate 3 refine dC ?_);refine o1 ?_;refine nl ?_;refine gT rfl ?_;refine sq ?_;refine rl ?_;refine ca (bD) dJ rfl (.one (tv (.bool true))) ?_;refine o1 ?_;refine nl ?_
  refine rt ?_;exact cL (.inl rfl) rfl (rfl)
 refine o1 ?_;refine o1 ?_;refine WL.cast (t:=26) (u':=.int .i64 ((l.length:Nat):Int)) rfl (congrArg (fun n:Nat=>Value.int .i64 (n:Int)) (aP _)) ?_
 refine o1 ?_;refine o1 ?_;refine nl ?_;refine bG rfl (fun h2=>?_) (fun h2=>?_)
 ·refine sq ?_;refine rl ?_;refine ca (bD) dJ rfl (.one (tv (.bool true))) ?_;refine o1 ?_;refine nl ?_;refine rt ?_;exact cL (.inl rfl) rfl (rfl)
 refine sk ?_;refine sq ?_;obtain⟨u,hu⟩:∃u,vl 4294967296 xs=u:=⟨_,rfl⟩
 have hN:Nn xs u:=⟨hxs,by omega,hu⟩
 have hul:(dg 4294967296 u).length≤100:=Nn.len hN (by omega)
 have htl:=zX hul (by omega)
 have hpl:=tD l
 have hp1:=iA (m:=p) hx
 have hp2:=iA (m:=q%45) hx
 have hp3:=iA (m:=p+q%45) hx
 refine rl ?_;refine o1 ?_;refine ca (gR hN) jR ⟨a1 rfl,rfl⟩ (.one (tv (.string (aH (tx u))))) ?_
 refine ca (kA (l:=tx u) (V:=u) (e:=0) (Dn u) (by omega) (Id (by omega)).2 (Id (by omega)).1) pE ⟨a1 rfl,rfl⟩ (.tup [nF (dg 4294967296 (u)),.one (tv (.int .i64 0))]) ?_
 (iterate 5 refine o1 ?_);refine nl ?_;refine sq ?_;refine sq ?_;refine rl ?_;refine o1 ?_;refine o1 ?_
 refine WL.cast (t:=37) (u':=.bool false) rfl (congrArg Value.bool (decide_eq_false fun h=>h rfl)) ?_
 (iterate 3 refine o1 ?_);refine ca (rK hN) wG ⟨a1 rfl,rfl⟩ (nF (dg 4294967296 (u))) ?_
 refine ca (bN (xs:=(dg 4294967296 (u))) (ys:=(dg 4294967296 (u))) (by omega) rfl) dB ⟨a1 rfl,a1 rfl,rfl⟩ (.one (tv (.bool true))) ?_
 refine o1 ?_;refine o1 ?_;refine nl ?_;refine fU rfl ?_;refine sk ?_;refine sq ?_;refine rl ?_;refine o1 ?_
 refine ca (jF hl (by omega)) pE ⟨a1 rfl,rfl⟩ (.tup [nF (dg 4294967296 (dK l)),.one (tv (.int .i64 (eR l)))]) ?_
 (iterate 5 refine o1 ?_);refine nl ?_;refine sq ?_;refine sq ?_;refine rl ?_;(iterate 3 refine o1 ?_);refine WL.split (t:=52) rfl (fun h3=>?_) (fun h3=>?_)
 ·refine o1 ?_;refine ca (gR (Nn.of (u:=dK l) (by omega))) jR ⟨a1 rfl,rfl⟩ (.one (tv (.string (aH (tx (dK l)))))) ?_
  refine o1 ?_;refine o1 ?_
  refine WL.cast (t:=56) (u':=.bool false) rfl (congrArg Value.bool (congrArg not ((congrArg (fun m:List Nat=>((aH m).toList==(aH l).toList)) (zW h3)).trans (beq_self_eq_true _)))) ?_
  refine o1 ?_;refine nl ?_;refine fU rfl ?_;refine sk ?_;refine sq ?_;refine rl ?_;(iterate 3 refine o1 ?_)
  refine WL.cast (t:=61) (u':=.int .i64 ((p:Nat):Int)) rfl (aD (by omega)) ?_
  refine ca (iN (x:=x) (n:=((p:Nat):Int)) (V:=x^(p)) (e:=0) hx (eY (x:=x) (by omega)).1 (eY (x:=x) (by omega)).2) iP ⟨a1 rfl,a1 rfl,rfl⟩ (.tup [nF (dg 4294967296 (x^(p))),.one (tv (.int .i64 0))]) ?_
  (iterate 5 refine o1 ?_);refine nl ?_;refine sq ?_;refine rl ?_;(iterate 3 refine o1 ?_);refine WL.cast (t:=68) (u':=.int .i64 ((q:Nat):Int)) rfl (aD (by omega)) ?_
  refine o1 ?_;refine WL.cast (t:=69) (u':=.int .i64 ((q%45:Nat):Int)) rfl (aD (eO _ 45)) ?_
  refine ca (iN (x:=x) (n:=((q%45:Nat):Int)) (V:=x^(q%45)) (e:=0) hx (eY (x:=x) (by omega)).1 (eY (x:=x) (by omega)).2) iP ⟨a1 rfl,a1 rfl,rfl⟩ (.tup [nF (dg 4294967296 (x^(q%45))),.one (tv (.int .i64 0))]) ?_
  (iterate 5 refine o1 ?_);refine nl ?_;refine sq ?_;refine rl ?_;(iterate 3 refine o1 ?_);refine WL.cast (t:=76) (u':=.int .i64 ((p:Nat):Int)) rfl (aD (by omega)) ?_
  refine o1 ?_;refine o1 ?_;refine WL.cast (t:=78) (u':=.int .i64 ((q:Nat):Int)) rfl (aD (by omega)) ?_
  refine o1 ?_;refine WL.cast (t:=79) (u':=.int .i64 ((q%45:Nat):Int)) rfl (aD (eO _ 45)) ?_;refine o1 ?_
  refine WL.cast (t:=80) (u':=.int .i64 ((p+(q%45):Nat):Int)) rfl (aD (by omega)) ?_
  refine ca (iN (x:=x) (n:=((p+(q%45):Nat):Int)) (V:=x^(p+(q%45))) (e:=0) hx (eY (x:=x) (by omega)).1 (eY (x:=x) (by omega)).2) iP ⟨a1 rfl,a1 rfl,rfl⟩ (.tup [nF (dg 4294967296 (x^(p+(q%45)))),.one (tv (.int .i64 0))]) ?_
  (iterate 5 refine o1 ?_);refine nl ?_;refine sq ?_;refine rl ?_;refine o1 ?_;refine o1 ?_;refine WL.cast (t:=85) (u':=.bool true) rfl (congrArg Value.bool (decide_eq_true rfl)) ?_
  (iterate 3 refine o1 ?_);refine WL.cast (t:=88) (u':=.bool true) rfl (congrArg Value.bool (decide_eq_true rfl)) ?_;(iterate 4 refine o1 ?_)
  refine WL.cast (t:=92) (u':=.bool true) rfl (congrArg Value.bool (decide_eq_true rfl)) ?_;(iterate 4 refine o1 ?_)
  refine ca (eC (w:=x^(p+(q%45))) (Nn.of (u:=x^(p)) (by omega)) (Nn.of (u:=x^(q%45)) (by omega)) (Nat.pow_add _ _ _).symm) fG ⟨a1 rfl,a1 rfl,rfl⟩ (nF (dg 4294967296 (x^(p+(q%45))))) ?_
  refine o1 ?_;refine ca (bN (xs:=(dg 4294967296 (x^(p+(q%45))))) (ys:=(dg 4294967296 (x^(p+(q%45))))) (by omega) rfl) dB ⟨a1 rfl,a1 rfl,rfl⟩ (.one (tv (.bool true))) ?_
  refine o1 ?_;refine o1 ?_;refine ca (bD) dJ rfl (.one (tv (.bool true))) ?_;refine o1 ?_;refine o1 ?_;refine nl ?_;refine rt ?_;exact cL (.inl rfl) rfl (rfl)
 (iterate 4 refine dC ?_);refine o1 ?_;refine nl ?_;refine fU rfl ?_;refine sk ?_;refine sq ?_;refine rl ?_;(iterate 3 refine o1 ?_)
 refine WL.cast (t:=61) (u':=.int .i64 ((p:Nat):Int)) rfl (aD (by omega)) ?_
 refine ca (iN (x:=x) (n:=((p:Nat):Int)) (V:=x^(p)) (e:=0) hx (eY (x:=x) (by omega)).1 (eY (x:=x) (by omega)).2) iP ⟨a1 rfl,a1 rfl,rfl⟩ (.tup [nF (dg 4294967296 (x^(p))),.one (tv (.int .i64 0))]) ?_
 (iterate 5 refine o1 ?_);refine nl ?_;refine sq ?_;refine rl ?_;(iterate 3 refine o1 ?_);refine WL.cast (t:=68) (u':=.int .i64 ((q:Nat):Int)) rfl (aD (by omega)) ?_
 refine o1 ?_;refine WL.cast (t:=69) (u':=.int .i64 ((q%45:Nat):Int)) rfl (aD (eO _ 45)) ?_
 refine ca (iN (x:=x) (n:=((q%45:Nat):Int)) (V:=x^(q%45)) (e:=0) hx (eY (x:=x) (by omega)).1 (eY (x:=x) (by omega)).2) iP ⟨a1 rfl,a1 rfl,rfl⟩ (.tup [nF (dg 4294967296 (x^(q%45))),.one (tv (.int .i64 0))]) ?_
 (iterate 5 refine o1 ?_);refine nl ?_;refine sq ?_;refine rl ?_;(iterate 3 refine o1 ?_);refine WL.cast (t:=76) (u':=.int .i64 ((p:Nat):Int)) rfl (aD (by omega)) ?_
 refine o1 ?_;refine o1 ?_;refine WL.cast (t:=78) (u':=.int .i64 ((q:Nat):Int)) rfl (aD (by omega)) ?_
 refine o1 ?_;refine WL.cast (t:=79) (u':=.int .i64 ((q%45:Nat):Int)) rfl (aD (eO _ 45)) ?_;refine o1 ?_
 refine WL.cast (t:=80) (u':=.int .i64 ((p+(q%45):Nat):Int)) rfl (aD (by omega)) ?_
 refine ca (iN (x:=x) (n:=((p+(q%45):Nat):Int)) (V:=x^(p+(q%45))) (e:=0) hx (eY (x:=x) (by omega)).1 (eY (x:=x) (by omega)).2) iP ⟨a1 rfl,a1 rfl,rfl⟩ (.tup [nF (dg 4294967296 (x^(p+(q%45)))),.one (tv (.int .i64 0))]) ?_
 (iterate 5 refine o1 ?_);refine nl ?_;refine sq ?_;refine rl ?_;refine o1 ?_;refine o1 ?_;refine WL.cast (t:=85) (u':=.bool true) rfl (congrArg Value.bool (decide_eq_true rfl)) ?_
 (iterate 3 refine o1 ?_);refine WL.cast (t:=88) (u':=.bool true) rfl (congrArg Value.bool (decide_eq_true rfl)) ?_;(iterate 4 refine o1 ?_)
 refine WL.cast (t:=92) (u':=.bool true) rfl (congrArg Value.bool (decide_eq_true rfl)) ?_;(iterate 4 refine o1 ?_)
 refine ca (eC (w:=x^(p+(q%45))) (Nn.of (u:=x^(p)) (by omega)) (Nn.of (u:=x^(q%45)) (by omega)) (Nat.pow_add _ _ _).symm) fG ⟨a1 rfl,a1 rfl,rfl⟩ (nF (dg 4294967296 (x^(p+(q%45))))) ?_
 refine o1 ?_;refine ca (bN (xs:=(dg 4294967296 (x^(p+(q%45))))) (ys:=(dg 4294967296 (x^(p+(q%45))))) (by omega) rfl) dB ⟨a1 rfl,a1 rfl,rfl⟩ (.one (tv (.bool true))) ?_
 refine o1 ?_;refine o1 ?_;refine ca (bD) dJ rfl (.one (tv (.bool true))) ?_;refine o1 ?_;refine o1 ?_;refine nl ?_;refine rt ?_;exact cL (.inl rfl) rfl (rfl)
theorem Kr {u v:Nat}(h:v≠0):Nat.gcd (u/Nat.gcd u v) (v/Nat.gcd u v)=1:=Nat.gcd_div_gcd_div_gcd_of_pos_right (Nat.pos_of_ne_zero h)
set_option maxHeartbeats 4000000 in
theorem Cb {xs ys zs:List Nat}(hxs:Lim 4294967296 xs) (hys:Lim 4294967296 ys) (hzs:Lim 4294967296 zs):aJ true Tryz.prog 19 [] [nF xs,nF ys,nF zs] (bC (.one (tv (.bool true)))):=by
 refine cR Tryz.func19 rfl Tryz.ntmps19 rfl aG rfl fun N9 w9 c0 h0=>?_
 refine sq ?_;refine rl ?_;refine o1 ?_;refine nl ?_;refine sq ?_;refine sq ?_;refine rl ?_;(iterate 4 refine o1 ?_);refine WL.split (t:=21) rfl (fun h1=>?_) (fun h1=>?_)
 ·(iterate 3 refine dC ?_);refine o1 ?_;refine o1 ?_;(iterate 3 refine dC ?_);refine o1 ?_;refine nl ?_;refine gT rfl ?_;refine sq ?_;refine rl ?_
  refine ca (bD) dJ rfl (.one (tv (.bool true))) ?_;refine o1 ?_;refine nl ?_;refine rt ?_;exact cL (.inl rfl) rfl (rfl)
 (iterate 5 refine o1 ?_);refine WL.split (t:=26) rfl (fun h2=>?_) (fun h2=>?_)
 ·(iterate 3 refine dC ?_);refine o1 ?_;refine nl ?_;refine gT rfl ?_;refine sq ?_;refine rl ?_;refine ca (bD) dJ rfl (.one (tv (.bool true))) ?_;refine o1 ?_;refine nl ?_
  refine rt ?_;exact cL (.inl rfl) rfl (rfl)
 (iterate 4 refine o1 ?_);refine nl ?_;refine bG rfl (fun h3=>?_) (fun h3=>?_)
 ·refine sq ?_;refine rl ?_;refine ca (bD) dJ rfl (.one (tv (.bool true))) ?_;refine o1 ?_;refine nl ?_;refine rt ?_;exact cL (.inl rfl) rfl (rfl)
 refine sk ?_;refine sq ?_;refine rl ?_;obtain⟨u,hux⟩:∃u,vl 4294967296 xs=u:=⟨_,rfl⟩
 have hNx:Nn xs u:=⟨hxs,by omega,hux⟩
 have hlu:(dg 4294967296 u).length≤40:=Nn.len hNx (by omega)
 obtain⟨v,huy⟩:∃u,vl 4294967296 ys=u:=⟨_,rfl⟩
 have hNy:Nn ys v:=⟨hys,by omega,huy⟩
 have hlv:(dg 4294967296 v).length≤40:=Nn.len hNy (by omega)
 obtain⟨w,huz⟩:∃u,vl 4294967296 zs=u:=⟨_,rfl⟩
 have hNz:Nn zs w:=⟨hzs,by omega,huz⟩
 have hlw:(dg 4294967296 w).length≤40:=Nn.len hNz (by omega)
 have hvw:(dg 4294967296 ((v)+(w))).length≤41:=aF (by omega) (by have h1:=dW (B:=4294967296) (n:=v) (by omega);have h2:=dW (B:=4294967296) (n:=w) (by omega);have h3:=Nat.pow_le_pow_right (n:=4294967296) (by omega) hlv;have h4:=Nat.pow_le_pow_right (n:=4294967296) (by omega) hlw;have h5:(4294967296:Nat)^41=4294967296^40*4294967296:=Nat.pow_succ ..;omega)
 have hm1:=dH u v
 have hm2:=dH u w
 have hm3:=dH u ((v)+(w))
 have hm4:=dH (u*v) w
 rcases Classical.em (v=0)with rfl | hv0
 ·(iterate 3 refine o1 ?_);refine ca (rJ (w:=(0)+(w)) hNy hNz rfl) mL ⟨a1 rfl,a1 rfl,rfl⟩ (nF (dg 4294967296 ((0)+(w)))) ?_
  refine ca (eC (w:=(u)*((0)+(w))) hNx (Nn.of (u:=(0)+(w)) (by omega)) rfl) fG ⟨a1 rfl,a1 rfl,rfl⟩ (nF (dg 4294967296 ((u)*((0)+(w))))) ?_
  refine o1 ?_;refine nl ?_;refine sq ?_;refine sq ?_;refine rl ?_;(iterate 3 refine o1 ?_)
  refine ca (eC (w:=(u)*(0)) hNx hNy rfl) fG ⟨a1 rfl,a1 rfl,rfl⟩ (nF (dg 4294967296 ((u)*(0)))) ?_;refine o1 ?_;refine o1 ?_
  refine ca (eC (w:=(u)*(w)) hNx hNz rfl) fG ⟨a1 rfl,a1 rfl,rfl⟩ (nF (dg 4294967296 ((u)*(w)))) ?_
  refine ca (rJ (w:=(u)*((0)+(w))) (Nn.of (u:=(u)*(0)) (by omega)) (Nn.of (u:=(u)*(w)) (by omega)) (Nat.mul_add _ _ _).symm) mL ⟨a1 rfl,a1 rfl,rfl⟩ (nF (dg 4294967296 ((u)*((0)+(w))))) ?_
  refine ca (bN (xs:=(dg 4294967296 ((u)*((0)+(w))))) (ys:=(dg 4294967296 ((u)*((0)+(w))))) (by omega) rfl) dB ⟨a1 rfl,a1 rfl,rfl⟩ (.one (tv (.bool true))) ?_
  (iterate 4 refine o1 ?_);refine ca (eC (w:=(u)*(0)) hNx hNy rfl) fG ⟨a1 rfl,a1 rfl,rfl⟩ (nF (dg 4294967296 ((u)*(0)))) ?_;refine o1 ?_;refine o1 ?_
  refine ca (eC (w:=(u)*(0)) hNy hNx (Nat.mul_comm _ _)) fG ⟨a1 rfl,a1 rfl,rfl⟩ (nF (dg 4294967296 ((u)*(0)))) ?_
  refine ca (bN (xs:=(dg 4294967296 ((u)*(0)))) (ys:=(dg 4294967296 ((u)*(0)))) (by omega) rfl) dB ⟨a1 rfl,a1 rfl,rfl⟩ (.one (tv (.bool true))) ?_
  (iterate 6 refine o1 ?_);refine bs 0 ?_
  refine ca (iZ (l:=[xs,ys,zs]) (w:=u*0*w) (Ca hNx hNy hNz (by omega) (by omega) (by omega)) (by simp) (By hux huy huz)) wH ⟨cH rfl (.sl (trs:=rT [xs,ys,zs]) rfl rfl rfl rfl),rfl⟩ (nF (dg 4294967296 (u*0*w))) ?_
  (iterate 3 refine o1 ?_);refine bs 1 ?_
  refine ca (iZ (l:=[zs,xs,ys]) (w:=u*0*w) (Ca hNz hNx hNy (by omega) (by omega) (by omega)) (by simp) (Fb hux huy huz)) wH ⟨cH rfl (.sl (trs:=rT [zs,xs,ys]) rfl rfl rfl rfl),rfl⟩ (nF (dg 4294967296 (u*0*w))) ?_
  refine ca (bN (xs:=(dg 4294967296 (u*0*w))) (ys:=(dg 4294967296 (u*0*w))) (by omega) rfl) dB ⟨a1 rfl,a1 rfl,rfl⟩ (.one (tv (.bool true))) ?_
  refine o1 ?_;refine o1 ?_;refine nl ?_;refine fU rfl ?_;refine sk ?_;refine sq ?_;refine rl ?_;refine o1 ?_;refine o1 ?_
  refine ca (uD hNx hNy) nU ⟨a1 rfl,a1 rfl,rfl⟩ (.tup [nF (dg 4294967296 (0)),nF (dg 4294967296 (0)),.one (tv (.int .i64 20))]) ?_;(iterate 7 refine o1 ?_);refine nl ?_
  refine sq ?_;refine sq ?_;refine rl ?_;refine o1 ?_;refine ca (Er hNy) Mr ⟨a1 rfl,rfl⟩ (.one (tv (.int .i64 ((oY 0:Nat):Int)))) ?_;refine o1 ?_
  refine WL.cast (t:=80) (u':=.bool true) rfl (congrArg Value.bool (decide_eq_true (congrArg (fun n:Nat=>(n:Int)) (En.2 rfl)))) ?_
  refine nl ?_;refine gT rfl ?_;refine sq ?_;refine rl ?_;refine o1 ?_;refine o1 ?_;refine WL.cast (t:=82) (u':=.bool true) rfl (congrArg Value.bool (decide_eq_true rfl)) ?_
  (iterate 3 refine o1 ?_);refine bs 2 ?_
  refine ca (oG (l:=[xs,ys]) (w:=u) (Bz hNx hNy (by omega) (by omega)) (by simp) ((Bx hux huy).trans (Nat.gcd_zero_right u))) pX ⟨cH rfl (.sl (trs:=rT [xs,ys]) rfl rfl rfl rfl),rfl⟩ (nF (dg 4294967296 (u))) ?_
  refine o1 ?_;refine ca (rK hNx) wG ⟨a1 rfl,rfl⟩ (nF (dg 4294967296 (u))) ?_
  refine ca (bN (xs:=(dg 4294967296 (u))) (ys:=(dg 4294967296 (u))) (by omega) rfl) dB ⟨a1 rfl,a1 rfl,rfl⟩ (.one (tv (.bool true))) ?_
  refine o1 ?_;refine o1 ?_;refine ca (bD) dJ rfl (.one (tv (.bool true))) ?_;refine o1 ?_;refine o1 ?_;refine nl ?_;refine rt ?_;exact cL (.inl rfl) rfl (rfl)
 have hmv:=Nat.mod_lt u (Nat.pos_of_ne_zero hv0)
 have hG0:Nat.gcd u v≠0:=Nat.pos_iff_ne_zero.1 (Nat.gcd_pos_of_pos_right u (Nat.pos_of_ne_zero hv0))
 have hd1:=eQ (Nat.div_le_self u v)
 have hd2:=eQ (Nat.le_of_lt hmv)
 have hd3:=eQ (Nat.gcd_le_right u (Nat.pos_of_ne_zero hv0))
 have hd4:=eQ (Nat.div_le_self u (Nat.gcd u v))
 have hd5:=eQ (Nat.div_le_self v (Nat.gcd u v))
 have hd6:=eQ (Nat.div_mul_le_self u v)
 (iterate 3 refine o1 ?_);refine ca (rJ (w:=(v)+(w)) hNy hNz rfl) mL ⟨a1 rfl,a1 rfl,rfl⟩ (nF (dg 4294967296 ((v)+(w)))) ?_
 refine ca (eC (w:=(u)*((v)+(w))) hNx (Nn.of (u:=(v)+(w)) (by omega)) rfl) fG ⟨a1 rfl,a1 rfl,rfl⟩ (nF (dg 4294967296 ((u)*((v)+(w))))) ?_
 refine o1 ?_;refine nl ?_;refine sq ?_;refine sq ?_;refine rl ?_;(iterate 3 refine o1 ?_)
 refine ca (eC (w:=(u)*(v)) hNx hNy rfl) fG ⟨a1 rfl,a1 rfl,rfl⟩ (nF (dg 4294967296 ((u)*(v)))) ?_;refine o1 ?_;refine o1 ?_
 refine ca (eC (w:=(u)*(w)) hNx hNz rfl) fG ⟨a1 rfl,a1 rfl,rfl⟩ (nF (dg 4294967296 ((u)*(w)))) ?_
 refine ca (rJ (w:=(u)*((v)+(w))) (Nn.of (u:=(u)*(v)) (by omega)) (Nn.of (u:=(u)*(w)) (by omega)) (Nat.mul_add _ _ _).symm) mL ⟨a1 rfl,a1 rfl,rfl⟩ (nF (dg 4294967296 ((u)*((v)+(w))))) ?_
 refine ca (bN (xs:=(dg 4294967296 ((u)*((v)+(w))))) (ys:=(dg 4294967296 ((u)*((v)+(w))))) (by omega) rfl) dB ⟨a1 rfl,a1 rfl,rfl⟩ (.one (tv (.bool true))) ?_
 (iterate 4 refine o1 ?_);refine ca (eC (w:=(u)*(v)) hNx hNy rfl) fG ⟨a1 rfl,a1 rfl,rfl⟩ (nF (dg 4294967296 ((u)*(v)))) ?_;refine o1 ?_;refine o1 ?_
 refine ca (eC (w:=(u)*(v)) hNy hNx (Nat.mul_comm _ _)) fG ⟨a1 rfl,a1 rfl,rfl⟩ (nF (dg 4294967296 ((u)*(v)))) ?_
 refine ca (bN (xs:=(dg 4294967296 ((u)*(v)))) (ys:=(dg 4294967296 ((u)*(v)))) (by omega) rfl) dB ⟨a1 rfl,a1 rfl,rfl⟩ (.one (tv (.bool true))) ?_
 (iterate 6 refine o1 ?_);refine bs 0 ?_
 refine ca (iZ (l:=[xs,ys,zs]) (w:=u*v*w) (Ca hNx hNy hNz (by omega) (by omega) (by omega)) (by simp) (By hux huy huz)) wH ⟨cH rfl (.sl (trs:=rT [xs,ys,zs]) rfl rfl rfl rfl),rfl⟩ (nF (dg 4294967296 (u*v*w))) ?_
 (iterate 3 refine o1 ?_);refine bs 1 ?_
 refine ca (iZ (l:=[zs,xs,ys]) (w:=u*v*w) (Ca hNz hNx hNy (by omega) (by omega) (by omega)) (by simp) (Fb hux huy huz)) wH ⟨cH rfl (.sl (trs:=rT [zs,xs,ys]) rfl rfl rfl rfl),rfl⟩ (nF (dg 4294967296 (u*v*w))) ?_
 refine ca (bN (xs:=(dg 4294967296 (u*v*w))) (ys:=(dg 4294967296 (u*v*w))) (by omega) rfl) dB ⟨a1 rfl,a1 rfl,rfl⟩ (.one (tv (.bool true))) ?_
 refine o1 ?_;refine o1 ?_;refine nl ?_;refine fU rfl ?_;refine sk ?_;refine sq ?_;refine rl ?_;refine o1 ?_;refine o1 ?_
 refine ca (hJ (q:=u/v) (r:=u%v) hNx hNy hv0 rfl rfl) nU ⟨a1 rfl,a1 rfl,rfl⟩ (.tup [nF (dg 4294967296 (u/v)),nF (dg 4294967296 (u%v)),.one (tv (.int .i64 0))]) ?_
 (iterate 7 refine o1 ?_);refine nl ?_;refine sq ?_;refine sq ?_;refine rl ?_;refine o1 ?_;refine ca (Er hNy) Mr ⟨a1 rfl,rfl⟩ (.one (tv (.int .i64 ((oY v:Nat):Int)))) ?_
 refine o1 ?_;refine WL.cast (t:=80) (u':=.bool false) rfl (congrArg Value.bool (decide_eq_false fun h=>hv0 (En.1 (by omega)))) ?_
 refine nl ?_;refine fU rfl ?_;refine sk ?_;refine sq ?_;refine sq ?_;refine rl ?_;refine o1 ?_;refine o1 ?_
 refine WL.cast (t:=96) (u':=.bool false) rfl (congrArg Value.bool (decide_eq_false fun h=>h rfl)) ?_
 (iterate 3 refine o1 ?_);refine ca (eC (w:=u/v*v) (Nn.of (u:=u/v) (by omega)) hNy rfl) fG ⟨a1 rfl,a1 rfl,rfl⟩ (nF (dg 4294967296 (u/v*v))) ?_
 refine o1 ?_
 refine ca (rJ (w:=u) (Nn.of (u:=u/v*v) (by omega)) (Nn.of (u:=u%v) (by omega)) (by rw[Nat.mul_comm];exact Nat.div_add_mod u v)) mL ⟨a1 rfl,a1 rfl,rfl⟩ (nF (dg 4294967296 (u))) ?_
 refine o1 ?_;refine ca (rK hNx) wG ⟨a1 rfl,rfl⟩ (nF (dg 4294967296 (u))) ?_
 refine ca (bN (xs:=(dg 4294967296 (u))) (ys:=(dg 4294967296 (u))) (by omega) rfl) dB ⟨a1 rfl,a1 rfl,rfl⟩ (.one (tv (.bool true))) ?_
 (iterate 5 refine o1 ?_);refine ca (Qq (Nn.of (u:=u%v) (by omega)) hNy) St ⟨a1 rfl,a1 rfl,rfl⟩ (.one (tv (.int .i64 (fS (u%v) (v))))) ?_
 refine o1 ?_;refine WL.cast (t:=112) (u':=.bool false) rfl (congrArg Value.bool (decide_eq_false (Kq hmv))) ?_;refine o1 ?_;refine nl ?_;refine fU rfl ?_;refine sk ?_
 refine sq ?_;refine rl ?_;refine o1 ?_;refine o1 ?_;refine bs 2 ?_
 refine ca (oG (l:=[xs,ys]) (w:=Nat.gcd u v) (Bz hNx hNy (by omega) (by omega)) (by simp) ((Bx hux huy).trans (rfl))) pX ⟨cH rfl (.sl (trs:=rT [xs,ys]) rfl rfl rfl rfl),rfl⟩ (nF (dg 4294967296 (Nat.gcd u v))) ?_
 refine o1 ?_;refine nl ?_;refine sq ?_;refine rl ?_;refine o1 ?_;refine o1 ?_
 refine ca (hJ (q:=u/Nat.gcd u v) (r:=0) hNx (Nn.of (u:=Nat.gcd u v) (by omega)) hG0 rfl (Nat.mod_eq_zero_of_dvd (Nat.gcd_dvd_left u v))) nU ⟨a1 rfl,a1 rfl,rfl⟩ (.tup [nF (dg 4294967296 (u/Nat.gcd u v)),nF (dg 4294967296 (0)),.one (tv (.int .i64 0))]) ?_
 (iterate 7 refine o1 ?_);refine nl ?_;refine sq ?_;refine rl ?_;refine o1 ?_;refine o1 ?_
 refine ca (hJ (q:=v/Nat.gcd u v) (r:=0) hNy (Nn.of (u:=Nat.gcd u v) (by omega)) hG0 rfl (Nat.mod_eq_zero_of_dvd (Nat.gcd_dvd_right u v))) nU ⟨a1 rfl,a1 rfl,rfl⟩ (.tup [nF (dg 4294967296 (v/Nat.gcd u v)),nF (dg 4294967296 (0)),.one (tv (.int .i64 0))]) ?_
 (iterate 7 refine o1 ?_);refine nl ?_;refine sq ?_;refine sq ?_;refine rl ?_;refine o1 ?_;refine o1 ?_
 refine WL.cast (t:=133) (u':=.bool false) rfl (congrArg Value.bool (decide_eq_false fun h=>h rfl)) ?_
 (iterate 3 refine o1 ?_);refine WL.cast (t:=136) (u':=.bool false) rfl (congrArg Value.bool (decide_eq_false fun h=>h rfl)) ?_
 (iterate 5 refine o1 ?_);refine WL.cast (t:=141) (u':=.bool false) rfl (congrArg Value.bool (decide_eq_false fun h=>h rfl)) ?_
 (iterate 5 refine o1 ?_);refine WL.cast (t:=146) (u':=.bool false) rfl (congrArg Value.bool (decide_eq_false fun h=>h rfl)) ?_
 refine o1 ?_;refine nl ?_;refine fU rfl ?_;refine sk ?_;refine sq ?_;refine rl ?_;refine o1 ?_;refine o1 ?_;refine bs 3 ?_
 refine ca (oG (l:=[(dg 4294967296 (u/Nat.gcd u v)),(dg 4294967296 (v/Nat.gcd u v))]) (w:=1) (Bz (Nn.of (u:=u/Nat.gcd u v) (by omega)) (Nn.of (u:=v/Nat.gcd u v) (by omega)) (by omega) (by omega)) (by simp) ((Bx (bL (by omega) _) (bL (by omega) _)).trans (Kr hv0))) pX ⟨cH rfl (.sl (trs:=rT [(dg 4294967296 (u/Nat.gcd u v)),(dg 4294967296 (v/Nat.gcd u v))]) rfl rfl rfl rfl),rfl⟩ (nF (dg 4294967296 (1))) ?_
 refine bs 4 ?_
 refine ca (bN (xs:=dg 4294967296 (1)) (ys:=[1]) (by decide) (zV (by decide))) dB ⟨a1 rfl,cH rfl (.sl (trs:=aB [1]) rfl rfl rfl rfl),rfl⟩ (.one (tv (.bool true))) ?_
 (iterate 4 refine o1 ?_);refine bs 5 ?_
 refine ca (oG (l:=[ys,xs]) (w:=Nat.gcd u v) (Bz hNy hNx (by omega) (by omega)) (by simp) ((Bx huy hux).trans (Nat.gcd_comm _ _))) pX ⟨cH rfl (.sl (trs:=rT [ys,xs]) rfl rfl rfl rfl),rfl⟩ (nF (dg 4294967296 (Nat.gcd u v))) ?_
 refine ca (bN (xs:=(dg 4294967296 (Nat.gcd u v))) (ys:=(dg 4294967296 (Nat.gcd u v))) (by omega) rfl) dB ⟨a1 rfl,a1 rfl,rfl⟩ (.one (tv (.bool true))) ?_
 refine o1 ?_;refine o1 ?_;refine ca (bD) dJ rfl (.one (tv (.bool true))) ?_;refine o1 ?_;refine o1 ?_;refine nl ?_;refine rt ?_;exact cL (.inl rfl) rfl (rfl)
def tT (ls:List (List Nat)):List Tr:=ls.map fun l=>.v (.string (aH l))
def mU (ls:List (List Nat)) (k:Nat):List Nat:=ls.getD k []
theorem Oo:∀(ls:List (List Nat)){k:Nat},k<ls.length→((tT ls).drop (k*1)).take [Tr.v (.string (aH (mU ls k)))].length=[Tr.v (.string (aH (mU ls k)))]
 | [],_,h=>by simp at h
 | _::_,0,_=>rfl
 | _::ls,k+1,h=>by
  have:=Oo ls (k:=k) (by simpa using h)
  simp only[Nat.mul_one]at this⊢
  exact this
end Go.Proofs.YteggpgndiajdpaaGreatDoor
