/- Part 10 of a proof: G4 to U4. -/
import Derived.Test.YtimiaildfkimfaaGreatDoorM9
import Derived.Test.YtimiaildfkimfaaGreatDoorM6
import Derived.Test.YtimiaildfkimfaaGreatDoorM7
import Derived.Test.YtimiaildfkimfaaGreatDoorM5
import Derived.Test.YtimiaildfkimfaaGreatDoorM4
import Derived.Test.YtimiaildfkimfaaGreatDoorM8
set_option maxRecDepth 100000
set_option linter.unusedVariables false
set_option linter.unusedSimpArgs false
namespace Go.Proofs.YtimiaildfkimfaaGreatDoor
open Go Go.RowKit
theorem xS {p:Rat}{L:Nat}(h:Sz L p) (hL:L<=68719476736:=by omega):Zg (.of p.num) p.num:=.of (Nat.le_trans h.1 (by omega))
theorem pC {p:Rat}{L:Nat}(h:Sz L p) (hL:L<=68719476736:=by omega):Zg ⟨false,dg 4294967296 p.den⟩ (p.den:Int):=⟨aU (by omega) _,Nat.le_trans h.2 (by omega),xT p.den⟩
theorem Nh {q:Rat}{n d:Int}(h1:q.num=n) (h2:(q.den:Int)=d):FV.agg [tv (.bool (aZ n)),.t (sU true (dg 4294967296 n.natAbs)),tv (.bool (aZ d)),.t (sU true (dg 4294967296 d.natAbs))]=qO q:=by
 subst h1 h2
 rw[Dj]
 rfl
theorem Bm {a b:Zi}{k k':Int}(ha:Zg a k) (hb:Zg b k') (hz0:k'≠0):aE true Tryz.prog 140 [] [gF a,gF b] (aP (qO (Rat.divInt k k'))):=by
 refine bD Tryz.func140 Tryz.ntmps140 fun N w c0 h0=>?_
 have hkl:=ha.len
 have hkl':=hb.len
 have hgl:(dg 4294967296 ((Int.gcd k k':Nat):Int).natAbs).length<=300000000000:=Nat.le_trans (eH (Nat.le_of_dvd (by omega) (Nat.gcd_dvd_right ..))) hkl'
 have hng:=nS ((Int.gcd k k':Nat):Int)
 have hg0:((Int.gcd k k':Nat):Int)≠0:=fun e=>hz0 (Int.gcd_eq_zero_iff.1 (show Int.gcd k k'=0 by omega)).2
 refine sq (rl (bx 0 ?_));refine bx 1 ?_;refine al 2 ?_;refine nl (sq (rl (ld ?_)));refine ld ?_
 refine ca (JM ha hb) aA (bN rfl rfl) _ ?_;refine al 3 ?_;refine st ?_;refine nl (sq (sq (rl (ld ?_))))
 refine ca (xU hb) aA (aM rfl) _ ?_;refine o1 ?_;refine nl ?_;refine aV rfl (fun h1=>?_) (fun h1=>?_)
 ·refine rl (ld ?_);refine ca (JN (Zg.of (k:=((Int.gcd k k':Nat):Int)) hgl)) aA (aM rfl) _ ?_;refine st ?_;refine nl ?_
  refine sq (rl (ld ?_));refine ld ?_;refine nC 4 (gD ha (Zg.of (k:=(-(((Int.gcd k k':Nat):Int)))) (by omega)) (by omega)) aA (bN rfl rfl) ?_
  (iterate 4 refine o1 ?_);refine al 6 ?_;refine al 7 ?_;refine st ?_;refine st ?_;refine o1 ?_;refine nl (sq (rl (ld ?_)));refine ld ?_
  refine nC 8 (gD hb (Zg.of (k:=(-(((Int.gcd k k':Nat):Int)))) (by omega)) (by omega)) aA (bN rfl rfl) ?_
  (iterate 4 refine o1 ?_);refine al 10 ?_;refine al 11 ?_;refine st ?_;refine st ?_;refine o1 ?_;refine nl (sq (rl (ld ?_)));refine ld ?_;refine o1 ?_
  refine st ?_;refine nl (rt ?_);have hk9:k'<0:=by
   rcases Int.lt_trichotomy k' 0 with h8 | h8 | h8
   ·exact h8
   ·exact absurd h8 hz0
   rw[Int.sign_eq_one_of_pos h8]at h1;omega
  have h9:=On (N:=k) (D:=k') hk9
  exact en (.inl rfl) rfl (bB (.agg (.cons (.id rfl) (.cons (.sl (trs:=bF (dg 4294967296 (((k).fdiv (-(((Int.gcd k k':Nat):Int))))).natAbs)) rfl rfl (cC _) (bT _)) (.cons (.id rfl) (.cons (.sl (trs:=bF (dg 4294967296 (((k').fdiv (-(((Int.gcd k k':Nat):Int))))).natAbs)) rfl rfl (cC _) (bT _)) (.nil))))))) (by decide) (fun _=>xV (⟨aZ ((k).fdiv (-(((Int.gcd k k':Nat):Int)))),dg 4294967296 (((k).fdiv (-(((Int.gcd k k':Nat):Int))))).natAbs,aZ ((k').fdiv (-(((Int.gcd k k':Nat):Int)))),dg 4294967296 (((k').fdiv (-(((Int.gcd k k':Nat):Int))))).natAbs⟩:Fr4)) (Nh h9.1 h9.2)
 refine sk (sq (rl (ld ?_)));refine ld ?_;refine nC 4 (gD ha (Zg.of (k:=((Int.gcd k k':Nat):Int)) (by omega)) (by omega)) aA (bN rfl rfl) ?_
 (iterate 4 refine o1 ?_);refine al 6 ?_;refine al 7 ?_;refine st ?_;refine st ?_;refine o1 ?_;refine nl (sq (rl (ld ?_)));refine ld ?_
 refine nC 8 (gD hb (Zg.of (k:=((Int.gcd k k':Nat):Int)) (by omega)) (by omega)) aA (bN rfl rfl) ?_
 (iterate 4 refine o1 ?_);refine al 10 ?_;refine al 11 ?_;refine st ?_;refine st ?_;refine o1 ?_;refine nl (sq (rl (ld ?_)));refine ld ?_;refine o1 ?_
 refine st ?_;refine nl (rt ?_);have hk9:0<k':=by
  rcases Int.lt_trichotomy k' 0 with h8 | h8 | h8
  ·rw[Int.sign_eq_neg_one_of_neg h8]at h1;omega
  ·exact absurd h8 hz0
  exact h8
 have h9:=rR (N:=k) (D:=k') hk9
 exact en (.inl rfl) rfl (bB (.agg (.cons (.id rfl) (.cons (.sl (trs:=bF (dg 4294967296 (((k).fdiv ((Int.gcd k k':Nat):Int))).natAbs)) rfl rfl (cC _) (bT _)) (.cons (.id rfl) (.cons (.sl (trs:=bF (dg 4294967296 (((k').fdiv ((Int.gcd k k':Nat):Int))).natAbs)) rfl rfl (cC _) (bT _)) (.nil))))))) (by decide) (fun _=>xV (⟨aZ ((k).fdiv ((Int.gcd k k':Nat):Int)),dg 4294967296 (((k).fdiv ((Int.gcd k k':Nat):Int))).natAbs,aZ ((k').fdiv ((Int.gcd k k':Nat):Int)),dg 4294967296 (((k').fdiv ((Int.gcd k k':Nat):Int))).natAbs⟩:Fr4)) (Nh h9.1 h9.2)
theorem ZV {p q:Rat}(hp:Sz 68719476736 p) (hq:Sz 68719476736 q):aE true Tryz.prog 132 [] [qF (.of p),qF (.of q)] (aP (qO (p+q))):=by
 refine bD Tryz.func132 Tryz.ntmps132 fun N w c0 h0=>?_
 have z1:=(xS hp).len;have z2:=(xS hq).len;have z3:=(pC hp).len;have z4:=(pC hq).len
 have y1:(dg 4294967296 p.num.natAbs).length<=68719476736:=hp.1;have y2:(dg 4294967296 q.num.natAbs).length<=68719476736:=hq.1;have y3:(dg 4294967296 p.den).length<=68719476736:=hp.2;have y4:(dg 4294967296 q.den).length<=68719476736:=hq.2;have y5:(dg 4294967296 (p.den:Int).natAbs).length<=68719476736:=hp.2;have y6:(dg 4294967296 (q.den:Int).natAbs).length<=68719476736:=hq.2
 refine sq (rl (bx 0 ?_));refine bx 1 ?_;refine al 2 ?_;refine nl (sq (sq (rl (o1 ?_))));refine ld ?_;refine o1 ?_;refine ld ?_
 refine ca (Ni (pC hp) (pC hq) (by have h8:=iL (p.den:Int) (-(q.den:Int));have h7:=nS (q.den:Int);rw[Int.natAbs_natCast]at h7 h8;rw[Int.sub_eq_add_neg];omega)) aA (bN rfl rfl) _ ?_
 refine o1 ?_;refine nl ?_;refine aV rfl (fun h1=>?_) (fun h1=>?_)
 ·refine sq ?_;refine bU [0,1,2] [8] ?_
  refine dv 0 ?_;refine aF 1 ?_;refine dv 2 ?_;refine aF 3 ?_;refine dv 5 ?_;refine aF 6 ?_;have hn2:=iL (p.num) (q.num)
  refine aG 4 rfl (Nj (xS hp) (xS hq)) aA (bN rfl rfl) _ ?_
  refine qA 3 7 rfl (Bm (Zg.of (k:=(p.num+q.num)) (by omega)) (pC hp) (by have h8:=p.den_nz;have h7:=q.den_nz;first | omega | exact Int.mul_ne_zero (by omega) (by omega))) aA (bN rfl rfl) ?_
  refine dst 8 ?_;refine aJ ?_;refine rt ?_
  exact en (.inl rfl) rfl (bB (.agg (.cons (.id rfl) (.cons (.sl (trs:=bF (dg 4294967296 (Rat.divInt ((p.num+q.num)) ((p.den:Int))).num.natAbs)) rfl rfl (cC _) (bT _)) (.cons (.id rfl) (.cons (.sl (trs:=bF (dg 4294967296 (Rat.divInt ((p.num+q.num)) ((p.den:Int))).den)) rfl rfl (cC _) (bT _)) .nil)))))) (by decide) (fun _=>Oo (Rat.divInt ((p.num+q.num)) ((p.den:Int)))) (by rw[show(Rat.divInt ((p.num+q.num)) ((p.den:Int)))=p+q from FM (by have h8:=Int.sign_eq_zero_iff_zero.1 h1;omega)];rfl)
 refine sk (sq ?_);refine bU [0,1,2] [17] ?_
 refine dv 0 ?_;refine aF 1 ?_;refine dv 2 ?_;refine aF 3 ?_;refine dv 5 ?_;refine aF 6 ?_;refine dv 7 ?_;refine aF 8 ?_;refine dv 11 ?_;refine aF 12 ?_;refine dv 13 ?_
 refine aF 14 ?_;have hn3:=eG (p.num) ((q.den:Int))
 refine aG 4 rfl (Nk (xS hp) (pC hq)) aA (bN rfl rfl) _ ?_;have hn4:=eG (q.num) ((p.den:Int))
 refine aG 9 rfl (Nk (xS hq) (pC hp)) aA (bN rfl rfl) _ ?_;have hn5:=iL ((p.num*(q.den:Int))) ((q.num*(p.den:Int)))
 refine aG 10 rfl (Nj (Zg.of (k:=(p.num*(q.den:Int))) (by omega)) (Zg.of (k:=(q.num*(p.den:Int))) (by omega))) aA (bN rfl rfl) _ ?_
 have hn6:=eG ((p.den:Int)) ((q.den:Int))
 refine aG 15 rfl (Nk (pC hp) (pC hq)) aA (bN rfl rfl) _ ?_
 refine qA 3 16 rfl (Bm (Zg.of (k:=((p.num*(q.den:Int))+(q.num*(p.den:Int)))) (by omega)) (Zg.of (k:=((p.den:Int)*(q.den:Int))) (by omega)) (by have h8:=p.den_nz;have h7:=q.den_nz;first | omega | exact Int.mul_ne_zero (by omega) (by omega))) aA (bN rfl rfl) ?_
 refine dst 17 ?_;refine aJ ?_;refine rt ?_
 exact en (.inl rfl) rfl (bB (.agg (.cons (.id rfl) (.cons (.sl (trs:=bF (dg 4294967296 (Rat.divInt (((p.num*(q.den:Int))+(q.num*(p.den:Int)))) (((p.den:Int)*(q.den:Int)))).num.natAbs)) rfl rfl (cC _) (bT _)) (.cons (.id rfl) (.cons (.sl (trs:=bF (dg 4294967296 (Rat.divInt (((p.num*(q.den:Int))+(q.num*(p.den:Int)))) (((p.den:Int)*(q.den:Int)))).den)) rfl rfl (cC _) (bT _)) .nil)))))) (by decide) (fun _=>Oo (Rat.divInt (((p.num*(q.den:Int))+(q.num*(p.den:Int)))) (((p.den:Int)*(q.den:Int))))) (by rw[show(Rat.divInt (((p.num*(q.den:Int))+(q.num*(p.den:Int)))) (((p.den:Int)*(q.den:Int))))=p+q from wE p q];rfl)
theorem AJ {k:Int}{f:FuncId}{args:List FV}(h:∀(N:Nat->Prop) (w:World) us,dM w N [] args us->(∀b,N b->b<w.heap.size)->Calls Tryz.prog f us.toArray w (SG k w)):aE true Tryz.prog f [] args (aP (kO k)):=by
 intro N w cs us hL
 obtain⟨rfl,hf⟩:=vH hL
 refine(h _ w us hf (fun b hb=>hb.1)).mono ?_
 rintro e W ⟨A,n,c,rfl,ho,hb⟩
 obtain⟨y1,a1,a2,a3,a4⟩:=xW (N:=fun b=>true=false/\(b<W.heap.size/\b∉VT.fpL [])/\(N b\/w.heap.size<=b)) ho
 refine .mk0 (y:=[.w (.bool (aZ k)),y1]) rfl hb (by simp only[VT.okL,VT.ok];exact⟨trivial,a3,trivial⟩) ?_ (fun b hb'=>?_) ?_
 ·simp only[VT.fpL,VT.fp,a4,List.nil_append,List.append_nil]
  exact Bn A n c
 ·simp only[VT.fpL,VT.fp,a4,List.nil_append,List.append_nil]at hb'
  exact ho.blk b hb'
 refine⟨by simp only[List.map_cons,List.map_nil,a1];rfl,?_⟩
 simp only[List.map_cons,List.map_nil,bZ,CR,sU]
 exact⟨by simp[OR],mG (fun _ _=>rfl) (fun b hb=>absurd hb.1 (by simp)) _ _ a2,trivial⟩
theorem vI {n:Int}(h1:-9223372036854775808<=n) (h2:n<=9223372036854775807):aE true Tryz.prog 111 [] [.one (tv (.int .i64 n))] (aP (kO n)):=AJ fun N w us hf hN=>by
 obtain⟨u,rfl,h3⟩:=Xj hf
 obtain rfl:=bE (gH h3)
 exact SH n w h1 h2
theorem MM {m:Nat}:decide (((m:Int)-1).sign=0)=(m==1):=by
 rw[decide_eq_decide.2 Int.sign_eq_zero_iff_zero]
 rw[Bool.eq_iff_iff,decide_eq_true_eq,beq_iff_eq]
 omega
theorem Oq {z:Int}:0<z.sign↔0<z:=by
 rcases Int.lt_trichotomy z 0 with h | h | h
 ·rw[Int.sign_eq_neg_one_of_neg h];omega
 ·subst h;decide
 rw[Int.sign_eq_one_of_pos h];omega
theorem Ot:aE true Tryz.prog 137 [] [] (aP (kO 1)):=by
 refine bD Tryz.func137 Tryz.ntmps137 fun N w c0 h0=>?_
 refine sq (rl (al 0 ?_));refine nl (sq (rl (nC 1 (vI (n:=1) (by omega) (by omega)) aA (bC rfl) ?_)))
 refine st ?_;refine nl (rt ?_)
 exact en (.inl rfl) rfl (bB (.agg (.cons (.id rfl) (.cons (.sl (trs:=bF (dg 4294967296 ((1:Int)).natAbs)) rfl rfl (cC _) (bT _)) .nil)))) (by decide) (fun _=>fT 1) rfl
theorem Ou {a:Fr4}{p:Rat}(ha:Qn a p):aE true Tryz.prog 98 [] [qF a] (aP (.one (tv (.bool (eC a.s a.x a.t a.y))))):=by
 refine bD Tryz.func98 Tryz.ntmps98 fun N w c0 h0=>?_
 refine sq (rl (bx 0 ?_));refine o1 ?_;refine nl (sq (rl (o1 ?_)));refine ld ?_
 refine ca (Jn (a:=⟨a.s,a.x⟩) ((Ov ha).g)) aA (aM rfl) _ ?_;refine o1 ?_;refine WL.splitb (t:=6) rfl (fun h1=>?_) (fun h1=>?_)
 ·refine o1 ?_;refine ld ?_;refine ca (Jn (a:=⟨a.t,a.y⟩) ((lT ha).g)) aA (aM rfl) _ ?_;refine o1 ?_;refine o1 ?_
  refine WL.splitb (t:=11) rfl (fun h2=>?_) (fun h2=>?_)
  ·refine o1 ?_;refine ld ?_;refine ca (xU (a:=⟨a.t,a.y⟩) ((lT ha).g)) aA (aM rfl) _ ?_;(iterate 3 refine o1 ?_)
   refine WL.split (t:=17) rfl (fun h3=>?_) (fun h3=>?_)
   ·refine o1 ?_;refine ld ?_;refine o1 ?_;refine ld ?_;have hpos:0<eP a.t a.y:=Oq.1 h3
    have hyl:(dg 4294967296 (eP a.t a.y).natAbs).length<=137438953472:=Zn.len (lT (p:=p) ha)
    have hgl9:(dg 4294967296 ((Int.gcd (eP a.s a.x) (eP a.t a.y):Nat):Int).natAbs).length<=137438953472:=Nat.le_trans (eH (Nat.le_of_dvd (by omega) (Nat.gcd_dvd_right ..))) hyl
    have hgl:(dg 4294967296 ((Int.gcd (eP a.s a.x) (eP a.t a.y):Nat):Int).natAbs).length<=300000000000:=Nat.le_trans hgl9 (by omega)
    refine ca (JM (a:=⟨a.s,a.x⟩) (b:=⟨a.t,a.y⟩) ((Ov ha).g) ((lT ha).g)) aA (bN rfl rfl) _ ?_
    refine ca (Ot) aA rfl _ ?_
    refine ca (Ni (Zg.of (k:=((Int.gcd (eP a.s a.x) (eP a.t a.y):Nat):Int)) hgl) (Zg.of (k:=1) (by decide)) (by have h8:=Fk ((Int.gcd (eP a.s a.x) (eP a.t a.y):Nat):Int) 1;have h7:(dg 4294967296 (1:Int).natAbs).length=1:=rfl;omega)) aA (bN rfl rfl) _ ?_
    (iterate 3 refine o1 ?_);refine nl (rt ?_)
    exact en (.inl rfl) rfl (bB (bO _)) (by decide) (fun _=>trivial) (congrArg (fun b=>FV.one (tv (.bool b))) (by unfold eC;rw[h1,h2,decide_eq_true hpos,<-MM];rfl))
   (iterate 8 refine aW ?_);refine o1 ?_;refine o1 ?_;refine nl (rt ?_)
   exact en (.inl rfl) rfl (bB (bO _)) (by decide) (fun _=>trivial) (congrArg (fun b=>FV.one (tv (.bool b))) (by unfold eC;rw[h1,h2,decide_eq_false (fun h9=>h3 (Oq.2 h9))];rfl))
  (iterate 4 refine aW ?_);refine o1 ?_;refine o1 ?_;(iterate 8 refine aW ?_);refine o1 ?_;refine o1 ?_;refine nl (rt ?_)
  exact en (.inl rfl) rfl (bB (bO _)) (by decide) (fun _=>trivial) (congrArg (fun b=>FV.one (tv (.bool b))) (by unfold eC;rw[h1,h2];rfl))
 (iterate 3 refine aW ?_);refine o1 ?_;refine o1 ?_;(iterate 4 refine aW ?_);refine o1 ?_;refine o1 ?_;(iterate 8 refine aW ?_);refine o1 ?_;refine o1 ?_;refine nl (rt ?_)
 exact en (.inl rfl) rfl (bB (bO _)) (by decide) (fun _=>trivial) (congrArg (fun b=>FV.one (tv (.bool b))) (by unfold eC;rw[h1];rfl))
theorem r0G:FV.agg [tv (.bool false),.t (sU false []),tv (.bool (aZ 1)),.t (sU false (dg 4294967296 (1:Int).natAbs))]=qF (.of 0):=rfl
theorem Fl {a:Fr4}{p:Rat}(ha:Qn a p):aE false Tryz.prog 133 [] [qF a] (aP (qF (.of p))):=by
 refine bD Tryz.func133 Tryz.ntmps133 fun N w c0 h0=>?_
 refine sq (rl (bx 0 ?_));refine al 1 ?_;refine nl (sq (sq (rl (ld ?_))))
 refine ca (Ou ha) aA (aM rfl) _ ?_;refine WL.splitb (t:=4) rfl (fun h1=>?_) (fun h1=>?_)
 ·refine o1 ?_;refine nl (dY rfl (sk (sq (rl (ld ?_)))));refine st ?_;refine nl (rt ?_)
  exact en (.inl rfl) rfl (bB (.agg (.cons (.id rfl) (.cons (.id rfl) (.cons (.id rfl) (.cons (.id rfl) .nil)))))) (by decide) (fun h=>by cases h) (by rw[ha.right h1];rfl)
 refine o1 ?_;refine nl (eU rfl (sq (rl (o1 ?_))));refine ca (Ot) aA rfl (kF 1) ?_;refine o1 ?_;refine st ?_;refine nl (rt ?_)
 have hq9:=ha.wrong h1
 subst hq9;exact en (.inl rfl) rfl (bB (.agg (.cons (.id rfl) (.cons .nilf (.cons (.id rfl) (.cons (.id rfl) .nil)))))) (by decide) (fun h=>by cases h) r0G
theorem MN {a:Fr4}{p:Rat}(ha:Qn a p):aE true Tryz.prog 77 [] [qF a] (aP (.one (tv (.int .i64 p.num.sign)))):=by
 refine bD Tryz.func77 Tryz.ntmps77 fun N w c0 h0=>?_
 refine sq (rl (bx 0 ?_));refine o1 ?_;refine nl (sq (rl (ld ?_)));refine ca (Fl ha) aA (aM rfl) _ ?_;refine o1 ?_
 refine ca (xU (Zg.of (k:=p.num) (Nat.le_trans ha.sz.1 (by omega)))) aA (aM rfl) _ ?_
 refine o1 ?_;refine nl (rt ?_);exact en (.inl rfl) rfl (bB (bO _)) (by decide) (fun _=>trivial) rfl
theorem SI {a:Fr4}{p:Rat}(ha:Qn a p):aE true Tryz.prog 165 [] [qF a] (aP (qO (-p))):=by
 refine bD Tryz.func165 Tryz.ntmps165 fun N w c0 h0=>?_
 refine sq (rl (bx 0 ?_));refine al 1 ?_;refine nl (sq (rl (ld ?_)));refine ca (Fl ha) aA (aM rfl) _ ?_;refine st ?_
 refine nl (sq ?_);refine bU [0,1] [7] ?_
 refine dv 0 ?_;refine aF 1 ?_;refine dv 3 ?_;refine aF 4 ?_;refine qA 2 2 rfl (JN (Zg.of (k:=p.num) (Nat.le_trans ha.sz.1 (by omega)))) aA (aM rfl) ?_
 refine qA 3 5 rfl (ZW (pC ha.sz)) aA (aM rfl) ?_;refine df 6 ?_;refine dst 7 ?_;refine aJ ?_;refine rt ?_;have hda:(((p.den:Int).natAbs:Nat):Int).natAbs=p.den:=rfl
 exact en (.inl rfl) rfl (bB (.agg (.cons (.id rfl) (.cons (.sl (trs:=bF (dg 4294967296 (-(p.num)).natAbs)) rfl rfl (cC _) (bT _)) (.cons (.id rfl) (.cons (.sl (trs:=bF (dg 4294967296 (((p.den:Int).natAbs:Nat):Int).natAbs)) rfl rfl (cC _) (bT _)) .nil)))))) (by decide) (fun _=>xV (⟨_,dg 4294967296 (-(p.num)).natAbs,_,dg 4294967296 (((p.den:Int).natAbs:Nat):Int).natAbs⟩:Fr4)) (show FV.agg [tv (.bool (aZ (-(p.num)))),.t (sU true (dg 4294967296 (-(p.num)).natAbs)),tv (.bool (aZ (((p.den:Int).natAbs:Nat):Int))),.t (sU true (dg 4294967296 (((p.den:Int).natAbs:Nat):Int).natAbs))]=qO (-p) from Nh (q:=-p) (by simp) (by simp))
theorem FN {n:Int}(h1:-9223372036854775808<=n) (h2:n<=9223372036854775807):aE true Tryz.prog 79 [] [.one (tv (.int .i64 n))] (aP (qO ((n:Int):Rat))):=by
 refine bD Tryz.func79 Tryz.ntmps79 fun N w c0 h0=>?_
 refine sq (rl (al 0 ?_));refine nl (sq (rl (o1 ?_)));refine nC 1 (vI (n:=n) h1 h2) aA (bC rfl) ?_;refine nC 2 (Ot) aA rfl ?_
 refine o1 ?_;refine st ?_;refine nl (rt ?_)
 exact en (.inl rfl) rfl (bB (.agg (.cons (.id rfl) (.cons (.sl (trs:=bF (dg 4294967296 n.natAbs)) rfl rfl (cC _) (bT _)) (.cons (.id rfl) (.cons (.sl (trs:=bF (dg 4294967296 (1:Int).natAbs)) rfl rfl (cC _) (bT _)) .nil)))))) (by decide) (fun _=>xV (⟨_,dg 4294967296 n.natAbs,_,dg 4294967296 (1:Int).natAbs⟩:Fr4)) (Nh (q:=((n:Int):Rat)) (n:=n) (d:=1) (by simp) (by simp))
theorem Ha (k:Int):nN (kO k):=by
 simp only[nN,kO,sZ,List.map_cons,List.map_nil,nT,wF,sU,qQ]
 exact⟨trivial,.inl ⟨trivial,gW _⟩,trivial⟩
section
variable {f:FuncId}{args:List FV}
end
section
variable {a b:Fr4}{p q:Rat}{x y:Zi}{k k':Int}
theorem Hb (h:Zn x k) (h':Zn y k'):aE true Tryz.prog 136 [] [gF x,gF y] (aP (kO (k*k'))):=Nk h.g h'.g
theorem AK (h:Zn x k) (h':Zn y k'):aE true Tryz.prog 135 [] [gF x,gF y] (aP (.one (tv (.int .i64 (k-k').sign)))):=Ni h.g h'.g (by have:=Fk k k';have:=h.len;have:=h'.len;omega)
theorem Hc (h:Qn a p):aE true Tryz.prog 77 [] [qF a] (aP (.one (tv (.int .i64 p.num.sign)))):=MN h
theorem JO (hp:Sz 68719476736 p) (hq:Sz 68719476736 q):aE true Tryz.prog 132 [] [qF (.of p),qF (.of q)] (aP (qO (p+q))):=ZV hp hq
theorem zH (ha:a.ok):aE true Tryz.prog 98 [] [qF a] (aP (.one (tv (.bool (eC a.s a.x a.t a.y))))):=Ou ⟨ha,rfl⟩
theorem kN {z:Int}(h1:-9223372036854775808<=z) (h2:z<=9223372036854775807):aE true Tryz.prog 79 [] [.one (tv (.int .i64 z))] (aP (qO (z:Rat))):=FN h1 h2
theorem AM (hp:Sz 68719476736 p):aE true Tryz.prog 132 [] [qF (.of p),qF (.of ((0:Int):Rat))] (aP (qO p)):=by
 have:=JO hp ((cU (z:=0) (by omega) (by omega)).mono (by omega))
 rwa[show p+((0:Int):Rat)=p from Rat.add_zero p]at this
end
section
variable {x y:Zi}{k k':Int}
theorem AN (h:Zn x k) (h':Zn y k') (h0:k'≠0):aE true Tryz.prog 140 [] [gF x,gF y] (aP (qO (Rat.divInt k k'))):=Bm h.g h'.g h0
theorem ZX {a:Fr4}{p:Rat}(h:Qn a p):aE true Tryz.prog 165 [] [qF a] (aP (qO (-p))):=SI h
theorem JP (p q:Rat):Rat.divInt (p.num*q.num) ((p.den:Int)*(q.den:Int))=p*q:=by
 rw[<-Rat.divInt_mul_divInt,Rat.num_divInt_den,Rat.num_divInt_den]
theorem lM {L M:Nat}{p q:Rat}(hp:Sz L p) (hq:Sz M q):Sz (L+M) (p*q):=by
 rw[<-JP p q]
 have h5:=nU (Int.mul_pos (show(0:Int)<p.den by have:=p.den_pos;omega) (show(0:Int)<q.den by have:=q.den_pos;omega)) (oG hp.1 hq.1) (oG (sO hp) (sO hq))
 exact⟨h5.1,h5.2⟩
theorem Le (p:Rat) (l:List Rat) (q:Rat):iM p (l++[q])=if iM p l<q then q else iM p l:=by
 unfold iM
 rw[List.foldl_append]
 rfl
theorem den_nz (p q:Rat):(p.den:Int)*(q.den:Int)≠0:=by
 have h1:=p.den_pos
 have h2:=q.den_pos
 exact Int.ne_of_gt (Int.mul_pos (by omega) (by omega))
theorem Ow {L:Nat}{k:Int}(h:tA L k):tA L (-k):=by
 unfold tA
 rw[Int.natAbs_neg]
 exact h
theorem Hd {n:Int}(h1:-9223372036854775808<=n) (h2:n<=9223372036854775807):tA 2 n:=tB h1 h2
theorem Xk {n d:Int}(h1:-9223372036854775808<=n) (h2:n<=9223372036854775807) (h3:-9223372036854775808<=d) (h4:d<=9223372036854775807):Sz 2 (Rat.divInt n d):=by
 rcases Int.lt_trichotomy d 0 with hd | hd | hd
 ·rw[<-Rat.neg_divInt_neg]
  obtain⟨e1,e2⟩:=nU (a:=-n) (b:=-d) (L:=2) (M:=2) (by omega) (Ow (Hd h1 h2)) (Ow (Hd h3 h4))
  exact⟨e1,e2⟩
 ·subst hd
  rw[Rat.divInt_zero]
  exact⟨Nat.zero_le _,by decide⟩
 obtain⟨e1,e2⟩:=nU (a:=n) (b:=d) (L:=2) (M:=2) hd (Hd h1 h2) (Hd h3 h4)
 exact⟨e1,e2⟩
end
section
variable {f:Nat->Rat}{x y z:Nat}
end
theorem Hf {l:List Nat}{k:Nat}(h:k<l.length):l[k]? =some (nth l k):=by simp[nth,h]
section
variable {f:Nat->Rat}{n i s t:Nat}
variable {b:Int}
end
section
variable {l:List Rat}{i k t:Nat}
end
section
variable {l:List Rat}{i k:Nat}
end
section
variable {x:Cx}{g g':Nat->FV}{ob ob':List (Option Ob)}{cs cs':List Co}{ts ts':Array Value}{W W' W1:World}{Q:Post}{ops:Array Oper}{late:Nat->Bool}{K fr fr':List Nat}{on:Bool}{fuel:Nat}{listed listed':Array Bool}
end
section
variable {x:Cx}{g:Nat->FV}{ob ob':List (Option Ob)}{Q:Post}{ops:Array Oper}{rest:List Oper}{d:Nat}{op:Op}{ty:TypeId}{pos:String}{af:Array Edge}{gd:Option (Nat×Bool)}{C:Prop}{v:FV}{T:List (Nat×TI)}
theorem cel {fresh:Bool}{f:FuncId}{lent lent':List Lt}{al:List FV}{fst caps:List Tr}{r:FV}{os:List Ob}{cf:Operand}{aa:Array Operand}{ats:Array TypeId}(key:Nat) (K:List Nat) (args:List FV) (hc:lk x.n g cf=.one (.t (.f f fst caps))) (hS:aE fresh x.P f lent al (Rt lent' r)) (hf:CallOk x.P f) (hK:gX ob K K lent) (ha:tC x.n g K aa.toList args){ok:List (Option Ob)}(hbk:gB K lent' ok) (k:WL x ops rest (bG g d v) (cI ob K ok++os.map some) Q) (hw:bK ops x.n g gd=some true:=by rfl) (hk:eM ob key=true:=by rfl) (hnd:K.Nodup:=by decide) (hb:oU key r=some (v,os):=by rfl) (he:fM fst++args++fM caps=al:=by rfl):
  WL x ops (⟨some d,.call ⟨.value cf,aa,ats⟩,ty,pos,af,gd⟩::rest) g ob Q:=by
 subst he
 refine gY (vJ hS hf (Xl hc) hK hnd ha hk (by rintro _ _ ⟨rfl,rfl⟩ _;exact⟨by rw[hb];rfl,ok,hbk⟩)) hw ?_
 rintro _ _ ⟨l,r',v',os',ok',⟨rfl,rfl⟩,_,h,h9,rfl,rfl⟩
 obtain rfl:=tD hbk h9
 rw[hb]at h
 injection h with h
 injection h with h1 h2
 subst h1 h2
 exact k
theorem ZY {late:Nat->Bool}{K fr:List Nat}{fuel:Nat}{listed:Array Bool}{t key o:Nat}{ti:TI}{a b:Operand}(i:Nat) (hi:ops[i]? =some ⟨none,.store t a b,ty,pos,af,gd⟩) (hw:bK ops x.n g gd=some true) (hT:cH x.P T) (hti:bX T t=some ti) (h:zI ti ob (lk x.n g b) (lk x.n g a)=some ob') (hlk:lk x.n g a=.one (.pt key o)) (hK:K.contains key=false) (hke:nO ob ob' K)
  (k:WD x ops Q late K fr true fuel (listed.setIfInBounds i true) g ob'):WO x ops Q late K fr true fuel listed i g ob:=by
 obtain⟨ky,hs,o2,hlk2⟩:=Nl (ty:=ty) (pos:=pos) (af:=af) (gd:=gd) hT hti h
 rw[hlk]at hlk2
 injection hlk2 with e
 injection e with e1 e2
 subst e1
 refine JQ i hi hw hs true (fun _=>⟨rfl,fun k hk hm=>?_⟩) (fun _=>rfl) (fun _ g' ob' hR=>?_) fun g' ob' hR=>?_
 ·rw[List.mem_singleton]at hm
  subst hm
  have:K.contains k=true:=by simpa using hk
  rw[hK]at this
  cases this
 ·obtain⟨rfl,rfl⟩:=hR
  exact⟨fun _ _=>rfl,lN hke⟩
 obtain⟨rfl,rfl⟩:=hR
 exact k
end
theorem Tx {n:Nat}(h:0<n):1<=(dg 4294967296 n).length:=by rw[qN (by omega) (by omega)];simp
theorem Lg {L:Nat}{k:Int}(h:tA L k):tA L (-k):=by unfold tA at*;rwa[Int.natAbs_neg]
theorem Fm (p:Rat):(dg 4294967296 (p.num.fmod (p.den:Int)).natAbs).length<=(dg 4294967296 p.den).length:=by
 refine eH ?_
 have h1:=Int.fmod_nonneg_of_pos p.num (show(0:Int)<p.den by have:=p.den_pos;omega)
 have h2:=Int.fmod_lt_of_pos p.num (show(0:Int)<p.den by have:=p.den_pos;omega)
 omega
theorem Bo (p:Rat):(dg 4294967296 (fl p).natAbs).length<=(dg 4294967296 p.num.natAbs).length:=by
 refine eH ?_
 rw[<-rS,Int.fdiv_eq_ediv_of_nonneg _ (by omega)]
 exact Int.natAbs_ediv_le_natAbs _ _
theorem Ox {L M:Nat}{p q:Rat}(hp:Sz L p) (hq:Sz M q):Sz (L+M+1) (p/q):=by
 rw[<-JR p q]
 have hd:(0:Int)<p.den:=by have:=p.den_pos;omega
 have hd2:(0:Int)<q.den:=by have:=q.den_pos;omega
 by_cases h0:q.num=0
 ·rw[h0,Int.mul_zero,Rat.divInt_zero]
  exact(cU (z:=0) (by omega) (by omega)).mono (by
   have:=Tx q.den_pos
   have:=hq.2
   have:=Tx p.den_pos
   have:=hp.2
   omega)
 by_cases h1:0<q.num
 ·have h5:=nU (Int.mul_pos hd h1) (oG hp.1 (sO hq)) (oG (sO hp) hq.1)
  exact⟨Nat.le_trans h5.1 (by omega),Nat.le_trans h5.2 (by omega)⟩
 have e:Rat.divInt (p.num*(q.den:Int)) ((p.den:Int)*q.num)=Rat.divInt (-(p.num*(q.den:Int))) (-((p.den:Int)*q.num)):=(Rat.neg_divInt_neg _ _).symm
 rw[e]
 have h6:0< -((p.den:Int)*q.num):=by
  have:=Int.mul_pos hd (show 0< -q.num by omega)
  rw[Int.mul_neg]at this
  exact this
 have h5:=nU h6 (Lg (oG hp.1 (sO hq))) (Lg (oG (sO hp) hq.1))
 exact⟨Nat.le_trans h5.1 (by omega),Nat.le_trans h5.2 (by omega)⟩
theorem FO {p q:Rat}:((p.den:Int)*q.num=0)↔q=0:=by
 have h1:=p.den_pos
 constructor
 ·intro h
  rcases Int.mul_eq_zero.1 h with h2 | h2
  ·omega
  exact Rat.num_eq_zero.1 h2
 rintro rfl
 simp
def xX (l:List Rat):List Fr4:=l.map Fr4.of
theorem ZZ (l:List Rat):(xX l).map Fr4.q=l:=by
 unfold xX
 rw[List.map_map]
 exact(List.map_congr_left fun x _=>Fr4.q_of x).trans (List.map_id l)
theorem Ty (l:List Rat):(xX l).length=l.length:=by simp[xX]
theorem iO {a:Fr4}{p:Rat}(ha:Qn a p):aE false Tryz.prog 133 [] [qF a] (aP (qF (.of p))):=Fl ha
theorem Hg {a b:Fr4}{p q:Rat}(ha:Qn a p) (hb:Qn b q):aE true Tryz.prog 78 [] [qF a,qF b] (aP (.one (tv (.int .i64 (p-q).num.sign)))):=by
 refine bD Tryz.func78 Tryz.ntmps78 fun N w c0 h0=>?_
 have hs:=ha.sz;have hs':=hb.sz
 have hs1:=hs.1;have hs2:=hs.2;have hs3:=hs'.1;have hs4:=hs'.2
 have hs5:(dg 4294967296 ((p.den:Int)).natAbs).length<=68719476736:=hs2
 have hs6:(dg 4294967296 ((q.den:Int)).natAbs).length<=68719476736:=hs4
 refine sq (rl (bx 0 ?_));refine bx 1 ?_;refine o1 ?_;refine nl ?_
 refine md (γ:=Unit) (fun _=>bP [(2,pN 0),(3,pN 1),(4,iN 0)]) (fun _=>([⟨27,0,((Fr4.of p).tr false).map .t⟩,⟨27,0,((Fr4.of q).tr false).map .t⟩]:List Ob).map some) (fun _=>True) ?_ fun _ _=>?_
 ·refine bU [0,1] [0,1,2,3,4,5] ?_
  refine dD 0 2 ?_ ?_
  ·refine iK 0 ?_;refine dD 1 2 ?_ ?_
   ·refine dE 1 rfl (iO ha) aA (aM rfl) _ ?_;refine WO.one (by kernel_rfl) (iK 2 ?_)
    refine aG 3 rfl (iO hb) aA (aM rfl) _ ?_;refine dst 4 ?_;refine dst 5 ?_;refine aJ ?_
    exact⟨(),trivial,aH h0 [0,1] ⟨oe rfl rfl,oe rfl rfl,rfl⟩⟩
   refine iK 2 ?_;refine aG 1 rfl (iO ha) aA (aM rfl) _ ?_;refine aG 3 rfl (iO hb) aA (aM rfl) _ ?_;refine dst 4 ?_;refine dst 5 ?_
   refine aJ ?_;exact⟨(),trivial,aH h0 [0,1] ⟨oe rfl rfl,oe rfl rfl,rfl⟩⟩
  refine iK 2 ?_;refine WO.one (by kernel_rfl) (iK 0 ?_)
  refine aG 1 rfl (iO ha) aA (aM rfl) _ ?_;refine aG 3 rfl (iO hb) aA (aM rfl) _ ?_;refine dst 4 ?_;refine dst 5 ?_;refine aJ ?_
  exact⟨(),trivial,aH h0 [0,1] ⟨oe rfl rfl,oe rfl rfl,rfl⟩⟩
 refine sq ?_;refine bU [0,1] [11] ?_
 refine dv 0 ?_;refine aF 1 ?_;refine dv 2 ?_;refine aF 3 ?_;refine dv 5 ?_;refine aF 6 ?_;refine dv 7 ?_;refine aF 8 ?_;have hn1:=eG (p.num) ((q.den:Int))
 refine aG 4 rfl (Hb (gZ hs) (cY hs')) aA (bN rfl rfl) _ ?_;have hn2:=eG (q.num) ((p.den:Int))
 refine aG 9 rfl (Hb (gZ hs') (cY hs)) aA (bN rfl rfl) _ ?_
 refine aG 10 rfl (AK (Zn.of (k:=(p.num*(q.den:Int))) (by omega)) (Zn.of (k:=(q.num*(p.den:Int))) (by omega))) aA (bN rfl rfl) _ ?_
 refine bM 11 ?_
 refine aJ ?_;refine rt ?_;exact en (.inl rfl) rfl (bB (bO _)) (by decide) (fun _=>trivial) (by rw[<-AO];rfl)
theorem Hh {a b:Fr4}{p q:Rat}(ha:Qn a p) (hb:Qn b q):aE true Tryz.prog 81 [] [qF a,qF b] (aP (qO (p*q))):=by
 refine bD Tryz.func81 Tryz.ntmps81 fun N w c0 h0=>?_
 have hs:=ha.sz;have hs':=hb.sz
 have hs1:=hs.1;have hs2:=hs.2;have hs3:=hs'.1;have hs4:=hs'.2
 have hs5:(dg 4294967296 ((p.den:Int)).natAbs).length<=68719476736:=hs2
 have hs6:(dg 4294967296 ((q.den:Int)).natAbs).length<=68719476736:=hs4
 refine sq (rl (bx 0 ?_));refine bx 1 ?_;refine al 2 ?_;refine nl ?_
 refine md (γ:=Unit) (fun _=>bP [(2,pN 0),(3,pN 1),(4,pN 2)]) (fun _=>([⟨27,0,((Fr4.of p).tr false).map .t⟩,⟨27,0,((Fr4.of q).tr false).map .t⟩,⟨27,0,[tv (.bool false),tv (.slice none 0 0),tv (.bool false),tv (.slice none 0 0)]⟩]:List Ob).map some) (fun _=>True) ?_ fun _ _=>?_
 ·refine bU [0,1,2] [0,1,2,3,4,5] ?_
  refine dD 0 2 ?_ ?_
  ·refine iK 0 ?_;refine dD 1 2 ?_ ?_
   ·refine dE 1 rfl (iO ha) aA (aM rfl) _ ?_;refine WO.one (by kernel_rfl) (iK 2 ?_)
    refine aG 3 rfl (iO hb) aA (aM rfl) _ ?_;refine dst 4 ?_;refine dst 5 ?_;refine aJ ?_
    exact⟨(),trivial,aH h0 [0,1,2] ⟨oe rfl rfl,oe rfl rfl,oe rfl rfl,rfl⟩⟩
   refine iK 2 ?_;refine aG 1 rfl (iO ha) aA (aM rfl) _ ?_;refine aG 3 rfl (iO hb) aA (aM rfl) _ ?_;refine dst 4 ?_;refine dst 5 ?_
   refine aJ ?_;exact⟨(),trivial,aH h0 [0,1,2] ⟨oe rfl rfl,oe rfl rfl,oe rfl rfl,rfl⟩⟩
  refine iK 2 ?_;refine WO.one (by kernel_rfl) (iK 0 ?_)
  refine aG 1 rfl (iO ha) aA (aM rfl) _ ?_;refine aG 3 rfl (iO hb) aA (aM rfl) _ ?_;refine dst 4 ?_;refine dst 5 ?_;refine aJ ?_
  exact⟨(),trivial,aH h0 [0,1,2] ⟨oe rfl rfl,oe rfl rfl,oe rfl rfl,rfl⟩⟩
 refine sq ?_;refine bU [0,1,2] [11] ?_
 refine dv 0 ?_;refine aF 1 ?_;refine dv 2 ?_;refine aF 3 ?_;refine dv 5 ?_;refine aF 6 ?_;refine dv 7 ?_;refine aF 8 ?_;have hn1:=eG (p.num) (q.num)
 refine aG 4 rfl (Hb (gZ hs) (gZ hs')) aA (bN rfl rfl) _ ?_;have hn2:=eG ((p.den:Int)) ((q.den:Int))
 refine aG 9 rfl (Hb (cY hs) (cY hs')) aA (bN rfl rfl) _ ?_
 refine qA 3 10 rfl (AN (Zn.of (k:=(p.num*q.num)) (by omega)) (Zn.of (k:=((p.den:Int)*(q.den:Int))) (by omega)) (den_nz p q)) aA (bN rfl rfl) ?_
 refine dst 11 ?_;refine aJ ?_;refine rt ?_
 exact en (.inl rfl) rfl (bB (.agg (.cons (.id rfl) (.cons (.sl (trs:=bF (dg 4294967296 (Rat.divInt (p.num*q.num) ((p.den:Int)*(q.den:Int))).num.natAbs)) rfl rfl (cC _) (bT _)) (.cons (.id rfl) (.cons (.sl (trs:=bF (dg 4294967296 (Rat.divInt (p.num*q.num) ((p.den:Int)*(q.den:Int))).den)) rfl rfl (cC _) (bT _)) .nil)))))) (by decide) (fun _=>Oo _) (congrArg qO (JP p q))
theorem SJ {a b:Fr4}{p q:Rat}(ha:Qn a p) (hb:Qn b q):aE true Tryz.prog 215 [] [qF a,qF b] (aP (.one (tv (.bool (decide (p<q)))))):=by
 refine bD Tryz.func215 Tryz.ntmps215 fun N w c0 h0=>?_
 refine sq (rl (bx 0 ?_));refine bx 1 ?_;refine o1 ?_;refine nl (sq (rl (ld ?_)));refine o1 ?_;refine ld ?_
 refine ca (Hg hb ha) aA (bN rfl rfl) _ ?_;refine o1 ?_;refine o1 ?_;refine nl (rt ?_)
 exact en (.inl rfl) rfl (bB (bO _)) (by decide) (fun _=>trivial) (congrArg (fun z=>FV.one (tv (.bool z))) (MO p q))
theorem SK {a:Fr4}:aE false Tryz.prog 214 [] [qF a] (aP (.one (.t (.f 215 [.a (a.tr false)] [])))):=by
 refine bD Tryz.func214 Tryz.ntmps214 fun N w c0 h0=>?_
 refine sq (rl (bx 0 ?_));refine o1 ?_;refine nl (sq (rl (ld ?_)));refine o1 ?_;refine o1 ?_;refine nl (rt ?_)
 exact en (.inl rfl) rfl (bB (.one (.id rfl))) (by decide) (fun h=>by cases h) rfl
theorem MP {a:Fr4}{p:Rat}{xs:List Fr4}(ha:Qn a p) (hx:∀x∈xs,x.ok) (hl:xs.length<=1099511627776):aE false Tryz.prog 213 [] [qF a,.one (.t (sQ false xs)),.one (.t (.f 214 [] []))] (aP (qF (.of (iM p (xs.map Fr4.q))))):=by
 refine bD Tryz.func213 Tryz.ntmps213 fun N w c0 h0=>?_
 have hz:∀x∈xs,Sz 68719476736 x.q:=fun x h=>(show Qn x x.q from⟨hx x h,rfl⟩).sz
 refine sq (rl (bx 0 ?_));refine al 1 ?_;refine nl (sq (rl (ld ?_)));refine ca (iO ha) aA (aM rfl) _ ?_
 refine ca (kN (z:=0) (by omega) (by omega)) aA (bC rfl) _ ?_
 refine ca (AM ha.sz) aA (bN rfl rfl) _ ?_;refine al 2 ?_;refine st ?_;refine nl (sq (sq (rl ?_)));(iterate 3 refine o1 ?_);refine nl ?_
 refine bl ?_
 refine lp (γ:=Nat) (fun k=>bP [(2,.one (.t (.f 214 [] []))),(6,pN 0),(7,pN 1),(14,.one (.t (sQ false xs))),(15,iN xs.length),(16,iN k)]) (fun k=>[(⟨27,0,[tv (.bool false),tv (.slice none 0 0),tv (.bool false),tv (.slice none 0 0)]⟩:Ob),⟨27,0,((Fr4.of (iM p ((xs.take k).map Fr4.q))).tr false).map .t⟩].map some) (fun k=>k<=xs.length/\Sz 68719476736 (iM p ((xs.take k).map Fr4.q))) (fun k=>xs.length-k) 0 ⟨Nat.zero_le _,ha.sz⟩ (aH h0 [1,2] ⟨oe rfl rfl,aD rfl,rfl⟩) fun k hk=>?_
 refine sq (rl (o1 ?_));refine nl (sq ?_);refine aV rfl (fun h1=>?_) (fun h1=>?_)
 ·refine sk (sq (bl (sq (rl (o1 ?_)))));refine cX ((lC xs (k)).tr false) (Oy xs (k:=k) (by omega)) ?_
  refine al 2 ?_;refine st ?_;refine nl (sq ?_);refine bU [0,1,2] [] ?_
  refine dv 0 ?_;refine aF 1 ?_;refine dv 2 ?_;refine aF 4 ?_
  refine AP 3 3 [.agg [tv (.bool (aZ (iM p ((xs.take k).map Fr4.q)).num)),.t (sU false (dg 4294967296 (iM p ((xs.take k).map Fr4.q)).num.natAbs)),tv (.bool false),.t (sU false (dg 4294967296 (iM p ((xs.take k).map Fr4.q)).den))]] rfl rfl (SK (a:=.of (iM p ((xs.take k).map Fr4.q)))) aA ⟨rfl,rfl⟩ ?_
  refine AP 5 3 [qF (lC xs (k))] rfl rfl (SJ (a:=.of (iM p ((xs.take k).map Fr4.q))) (b:=(lC xs (k))) (Qn.of (p:=(iM p ((xs.take k).map Fr4.q))) hk.2) ⟨hx _ (lU (by omega)),rfl⟩) aA ⟨rfl,rfl⟩ ?_
  refine aJ ?_;refine aV rfl (fun h2=>?_) (fun h2=>?_)
  ·refine rl (ld ?_);refine ca (iO ⟨hx _ (lU (by omega)),rfl⟩) aA (aM rfl) _ ?_
   refine ca (kN (z:=0) (by omega) (by omega)) aA (bC rfl) _ ?_
   refine ca (AM (hz _ (lU (by omega)))) aA (bN rfl rfl) _ ?_
   refine st ?_;refine nl (rl (o1 ?_));refine aY 30 (k+1) ?_
   refine o1 ?_;refine nl ?_;have hst:(iM p ((xs.take (k+1)).map Fr4.q))=(lC xs k).q:=by rw[Hi (by omega),Le];exact if_pos h2
   exact⟨k+1,by omega,⟨by omega,by rw[hst];exact hz _ (lU (by omega))⟩,aH h0 [0,1] ⟨oe rfl rfl,aD (congrArg (fun q=>some (⟨27,0,((Fr4.of q).tr false).map .t⟩:Ob)) hst.symm),rfl⟩⟩
  refine sk (rl (o1 ?_));refine aY 30 (k+1) ?_
  refine o1 ?_;refine nl ?_;have hst:(iM p ((xs.take (k+1)).map Fr4.q))=(iM p ((xs.take k).map Fr4.q)):=by rw[Hi (by omega),Le];exact if_neg h2
  exact⟨k+1,by omega,⟨by omega,by rw[hst];exact hk.2⟩,aH h0 [0,1] ⟨oe rfl rfl,aD (congrArg (fun q=>some (⟨27,0,((Fr4.of q).tr false).map .t⟩:Ob)) hst.symm),rfl⟩⟩
 refine ex (sq (rl (ld ?_)));refine st ?_;refine nl (rt ?_)
 exact en (.inl rfl) rfl (bB (.agg (.cons (.id rfl) (.cons (.id rfl) (.cons (.id rfl) (.cons (.id rfl) .nil)))))) (by decide) (fun h=>by cases h) (by rw[cT (by omega)];rfl)
theorem aAa {a:Fr4}{p:Rat}{xs:List Fr4}(ha:Qn a p) (hx:∀x∈xs,x.ok) (hl:xs.length<=1099511627776):aE false Tryz.prog 164 [] [qF a,.one (.t (sQ false xs))] (aP (qF (.of (iM p (xs.map Fr4.q))))):=by
 refine bD Tryz.func164 Tryz.ntmps164 fun N w c0 h0=>?_
 refine sq (rl (bx 0 ?_));refine al 1 ?_;refine nl (sq (rl (ld ?_)));refine o1 ?_
 refine ca (MP ha hx hl) aA ⟨nD rfl,a1 rfl,a1 rfl,rfl⟩ _ ?_;refine st ?_;refine nl (rt ?_)
 exact en (.inl rfl) rfl (bB (.agg (.cons (.id rfl) (.cons (.id rfl) (.cons (.id rfl) (.cons (.id rfl) .nil)))))) (by decide) (fun h=>by cases h) (rfl)
theorem aAb {xs:List Fr4}{B:Nat}(hB:2+xs.length*(B+1)<=68719476736) (hx:∀x∈xs,x.ok) (hz:∀x∈xs,Sz B x.q) (hl:xs.length<=1073741823):aE false Tryz.prog 76 [] [.one (.t (sQ false xs))] (aP (qF (.of (rT (xs.map Fr4.q))))):=by
 refine bD Tryz.func76 Tryz.ntmps76 fun N9 w9 c0 h0=>?_
 have h00:((0:Int):Rat)=rT ((xs.take 0).map Fr4.q):=by simp[rT]
 refine sq (rl (al 0 ?_));refine nl (sq (rl (ca (kN (z:=0) (by omega) (by omega)) aA (bC rfl) _ ?_)))
 refine al 1 ?_;refine st ?_;refine nl (sq (sq (rl ?_)));(iterate 3 refine o1 ?_);refine nl (bl ?_)
 refine lp (γ:=Nat) (fun k=>bP [(2,pN 0),(3,pN 1),(7,.one (.t (sQ false xs))),(8,iN xs.length),(9,iN k)]) (fun k=>[(⟨27,0,[tv (.bool false),tv (.slice none 0 0),tv (.bool false),tv (.slice none 0 0)]⟩:Ob),⟨27,0,((Fr4.of (rT ((xs.take (k)).map Fr4.q))).tr false).map .t⟩].map some) (fun k=>k<=xs.length/\Sz (2+k*(B+1)) (rT ((xs.take (k)).map Fr4.q))) (fun k=>xs.length-k) 0 ⟨Nat.zero_le _,by simpa[rT]using cU (z:=0) (by omega) (by omega)⟩ (aH h0 [0,1] ⟨oe rfl rfl,aD (congrArg (fun q=>some (⟨27,0,((Fr4.of q).tr false).map .t⟩:Ob)) h00),rfl⟩) fun k hk=>?_
 have hmul:k*(B+1)<=xs.length*(B+1):=Nat.mul_le_mul hk.1 (aX _)
 refine sq (rl (o1 ?_));refine nl (sq ?_);refine aV rfl (fun h1=>?_) (fun h1=>?_)
 ·refine sk (sq (bl (sq (rl (o1 ?_)))));refine cX ((lC xs (k)).tr false) (Oy xs (k:=k) (by omega)) ?_
  refine al 2 ?_;refine st ?_;refine nl ?_;have hmul2:(k+1)*(B+1)<=xs.length*(B+1):=Nat.mul_le_mul (by omega) (aX _)
  have hmul3:(k+1)*(B+1)=k*(B+1)+(B+1):=Nat.succ_mul k (B+1)
  refine bU [0,1,2] [4] ?_
  refine aF 0 ?_;refine aF 1 ?_;refine aG 2 rfl (iO ⟨hx _ (lU (by omega)),rfl⟩) aA (aM rfl) _ ?_
  refine aG 3 rfl (JO (hk.2.mono (by omega)) ((hz _ (lU (by omega))).mono (by omega))) aA (bN rfl rfl) _ ?_
  refine dst 4 ?_;refine aJ ?_;refine rl (o1 ?_);refine aY 17 (k+1) ?_
  refine o1 ?_;refine nl ?_;have hst:(rT ((xs.take (k+1)).map Fr4.q))=(rT ((xs.take (k)).map Fr4.q))+(lC xs (k)).q:=by rw[Hi (by omega)];exact AQ _ _
  exact⟨k+1,by omega,⟨by omega,by rw[hst];exact(AS hk.2 (hz _ (lU (by omega)))).mono (by omega)⟩,aH h0 [0,1] ⟨oe rfl rfl,aD (congrArg (fun q=>some (⟨27,0,((Fr4.of q).tr false).map .t⟩:Ob)) hst.symm),rfl⟩⟩
 refine ex (sq (rl (ld ?_)));refine st ?_;refine nl (rt ?_)
 exact en (.inl rfl) rfl (bB (.agg (.cons (.id rfl) (.cons (.id rfl) (.cons (.id rfl) (.cons (.id rfl) .nil)))))) (by decide) (fun h=>by cases h) (by rw[cT (by omega)];rfl)
theorem MQ {a:Fr4}{p:Rat}(ha:Qn a p):aE false Tryz.prog 230 [] [qF a] (aP (.tup [kO (p.num.fdiv (p.den:Int)),kO (p.num.fmod (p.den:Int)),.agg [tv (.bool false),.t (sU false (dg 4294967296 p.den))]])):=by
 refine aBK Tryz.func230 rfl Tryz.ntmps230 rfl aR rfl fun N9 w9 c0 h0=>?_
 refine sq (rl (bx 0 ?_));refine al 1 ?_;refine al 2 ?_;refine al 3 ?_;refine nl (sq (sq (rl (ld ?_))))
 refine ca (zH ha.1) aA (aM rfl) _ ?_;refine WL.splitb (t:=6) rfl (fun h1=>?_) (fun h1=>?_)
 ·refine o1 ?_;refine nl (dY rfl (sk (sq ?_)));obtain rfl:=(ha.right h1).symm
  have hd0:(p.den:Int)≠0:=by have:=p.den_pos;omega
  refine rl (o1 ?_);refine ld ?_;refine o1 ?_;refine ld ?_;refine nC 4 (gD (gZ ha.sz).g (cY ha.sz).g hd0) aA (bN rfl rfl) ?_;(iterate 4 refine o1 ?_)
  refine st ?_;refine st ?_;refine nl (sq ?_);refine bU [0,3] [6] ?_
  refine dv 2 ?_;refine aF 3 ?_;refine dD 0 1 ?_ ?_
  ·refine iK 0 ?_;refine dD 1 4 ?_ ?_
   ·refine iK 1 ?_;refine aT 4 ?_
    refine aT 5 ?_
    refine dst 6 ?_;refine aJ ?_;refine rt ?_
    exact zJ <| en (.inl rfl) rfl (lD (.cons (.agg (.cons (.id rfl) (.cons (.sl (trs:=bF (dg 4294967296 ((p.num.fdiv (p.den:Int))).natAbs)) rfl rfl (cC _) (bT _)) .nil))) (.cons (.agg (.cons (.id rfl) (.cons (.sl (trs:=bF (dg 4294967296 ((p.num.fmod (p.den:Int))).natAbs)) rfl rfl (cC _) (bT _)) .nil))) (.cons (.agg (.cons (.id rfl) (.cons (.id rfl) .nil))) .nil)))) (by simp) (fun h=>by cases h) rfl
   refine ZY 4 rfl rfl aR rfl rfl rfl rfl ⟨rfl,rfl,trivial⟩ ?_;refine WO.one (by kernel_rfl) (iK 1 ?_)
   refine aT 5 ?_
   refine dst 6 ?_;refine aJ ?_;refine rt ?_
   exact zJ <| en (.inl rfl) rfl (lD (.cons (.agg (.cons (.id rfl) (.cons (.sl (trs:=bF (dg 4294967296 ((p.num.fdiv (p.den:Int))).natAbs)) rfl rfl (cC _) (bT _)) .nil))) (.cons (.agg (.cons (.id rfl) (.cons (.sl (trs:=bF (dg 4294967296 ((p.num.fmod (p.den:Int))).natAbs)) rfl rfl (cC _) (bT _)) .nil))) (.cons (.agg (.cons (.id rfl) (.cons (.id rfl) .nil))) .nil)))) (by simp) (fun h=>by cases h) rfl
  refine iK 1 ?_;refine WO.one (by kernel_rfl) (iK 0 ?_)
  refine aT 4 ?_
  refine aT 5 ?_
  refine dst 6 ?_;refine aJ ?_;refine rt ?_
  exact zJ <| en (.inl rfl) rfl (lD (.cons (.agg (.cons (.id rfl) (.cons (.sl (trs:=bF (dg 4294967296 ((p.num.fdiv (p.den:Int))).natAbs)) rfl rfl (cC _) (bT _)) .nil))) (.cons (.agg (.cons (.id rfl) (.cons (.sl (trs:=bF (dg 4294967296 ((p.num.fmod (p.den:Int))).natAbs)) rfl rfl (cC _) (bT _)) .nil))) (.cons (.agg (.cons (.id rfl) (.cons (.id rfl) .nil))) .nil)))) (by simp) (fun h=>by cases h) rfl
 refine o1 ?_;refine nl (eU rfl (sq (rl (o1 ?_))));refine o1 ?_;refine ca (vI (n:=1) (by omega) (by omega)) aA (bC rfl) (kF 1) ?_
 (iterate 3 refine st ?_);refine nl (rt ?_);have hq9:=ha.wrong h1
 subst hq9;refine AT (Bp (j:=1) (key:=4) (e:=223) (z:=1) rfl rfl rfl (.id (.sl .nil))) ?_;refine AT (Bp (j:=2) (key:=5) (e:=223) (z:=1) rfl rfl rfl (.id (.sl .nil))) ?_
 exact zJ <| en (.inl rfl) rfl (lD (.cons (.agg (.cons (.id rfl) (.cons (.sl (trs:=bF []) rfl rfl rfl rfl) .nil))) (.cons (.agg (.cons (.id rfl) (.cons (.sl (trs:=bF []) rfl rfl rfl rfl) .nil))) (.cons (.agg (.cons (.id rfl) (.cons (.id rfl) .nil))) .nil)))) (by simp) (fun h=>by cases h) rfl
def uL (a:Fr4):Bool:= !eC a.s a.x a.t a.y || decide (eP a.t a.y≠1)
theorem aBL {a:Fr4}{p:Rat}(_:Qn a p) (h:eC a.s a.x a.t a.y=true):decide ((eP a.t a.y-1).sign≠0)=uL a:=by
 unfold uL
 rw[h]
 have e:((eP a.t a.y-1).sign=0)↔eP a.t a.y=1:=by rw[Int.sign_eq_zero_iff_zero];omega
 simp[e]
theorem FP (p:Rat) (h:eC (Fr4.of p).s (Fr4.of p).x (Fr4.of p).t (Fr4.of p).y=true):uL (.of p)= !decide (p.den=1):=by
 unfold uL
 rw[h]
 have e:eP (Fr4.of p).t (Fr4.of p).y=(p.den:Int):=xT p.den
 rw[e]
 have e2:((p.den:Int)≠1)↔¬p.den=1:=by omega
 simp[e2]
theorem Xm {a:Fr4}{p:Rat}(ha:Qn a p):aE true Tryz.prog 139 [] [qF a] (aP (.one (tv (.bool (uL a))))):=by
 refine bD Tryz.func139 Tryz.ntmps139 fun N9 w9 c0 h0=>?_
 refine sq (rl (bx 0 ?_));refine o1 ?_;refine nl (sq ?_);refine bU [0] [10] ?_
 refine aF 0 ?_;refine aG 1 rfl (zH ha.1) aA (aM rfl) _ ?_;refine WD.splitb (t:=4) rfl (fun h1=>?_) (fun h1=>?_)
 ·refine df 2 ?_;refine df 3 ?_;refine dv 4 ?_;refine aF 5 ?_;refine aG 6 rfl (vI (n:=1) (by omega) (by omega)) aA (bC rfl) _ ?_
  refine aG 7 rfl (AK (lT ha) (Zn.of (k:=1) (by decide))) aA (bN rfl rfl) _ ?_
  refine df 8 ?_;refine df 9 ?_;refine bM 10 ?_
  refine aJ ?_;refine rt ?_;have hr9:=ha.right h1
  exact en (.inl rfl) rfl (bB (bO _)) (by decide) (fun _=>trivial) (congrArg (fun z=>FV.one (tv (.bool z))) (aBL ha h1))
 refine df 2 ?_;refine df 3 ?_;refine cF 4 ?_;refine cF 5 ?_;refine cF 6 ?_;refine cF 7 ?_;refine cF 8 ?_;refine df 9 ?_
 refine bM 10 ?_
 refine aJ ?_;refine rt ?_;exact en (.inl rfl) rfl (bB (bO _)) (by decide) (fun _=>trivial) (congrArg (fun z=>FV.one (tv (.bool z))) (by unfold uL;rw[h1];rfl))
section
variable {α:Type}{f:α->List Tr}{z k o:Nat}{xs:List α}{x x':α}{us:List Tr}
end
section
variable {x:Cx}{g:Nat->FV}{ob:List (Option Ob)}{ws:List Zi}{z:Zi}{i j k1 e key:Nat}{y a b:AV}
end
def jI (q:Rat):List Tr:=(Fr4.of q).tr false
theorem uS (q:Rat):(jI q).length=4:=rfl
theorem MR (l:List Rat):l.flatMap jI=(xX l).flatMap (Fr4.tr false):=by
 unfold xX
 rw[List.flatMap_map]
 rfl
theorem SL {L:Nat}{l:List Rat}(h:∀q∈l,Sz L q) (hL:L<=68719476736):∀x∈xX l,x.ok:=fun x hx=>by
 obtain⟨q,hq,rfl⟩:=List.mem_map.1 hx
 exact(Qn.of (h q hq) hL).1
theorem SM {L:Nat}{l:List Rat}(h:∀q∈l,Sz L q):∀x∈xX l,Sz L x.q:=fun x hx=>by
 obtain⟨q,hq,rfl⟩:=List.mem_map.1 hx
 rw[Fr4.q_of]
 exact h q hq
section
variable {x:Cx}{g:Nat->FV}{ob:List (Option Ob)}
theorem wG {i k t z n:Nat}{l:List Tr}{fv fv':FV}(t':Nat) (hi:Nat.blt i x.n=true) (hg:g i=fv) (ho:cR ob k=some ⟨t,z,l.map .t⟩) (hz:l.length=n*z) (hf:FzF (.sl k 0 n) (.s false t' z n l) fv fv'):Sub x g ob (bG g i fv') (ob.set k none):=Tz hi hg ho hf (Oz t' ho hz)
end
theorem SN {k:Int}:aE true Tryz.prog 200 [] [kF k] (aP (.one (tv (.bool (decide (k%2=0)))))):=by
 refine bD Tryz.func200 Tryz.ntmps200 fun N9 w9 c0 h0=>?_
 refine sq (rl (bx 0 ?_));refine o1 ?_;refine nl (sq (rl (o1 ?_)));refine ld ?_;(iterate 3 refine o1 ?_)
 refine WL.split (t:=7) rfl (fun h1=>?_) (fun h1=>?_)
 ·(iterate 6 refine aW ?_);refine o1 ?_;refine o1 ?_;refine nl (rt ?_);have hk0:k.natAbs=0:=(fC (B:=4294967296) (by omega)).1 (List.eq_nil_of_length_eq_zero (by omega))
  exact cG (.inl rfl) rfl ((decide_eq_true (show k%2=0 by omega)).symm)
 have hk0:k.natAbs≠0:=Nat.pos_iff_ne_zero.1 (zK (B:=4294967296) (u:=k.natAbs) (by omega))
 have hdp:=qN (B:=4294967296) (n:=k.natAbs) (by omega) hk0
 have hn0:nth (dg 4294967296 k.natAbs) 0=k.natAbs%4294967296:=by rw[hdp];rfl
 refine o1 ?_;refine ld ?_;refine o1 ?_;refine cX ([.v (.int .u32 ((nth (dg 4294967296 (k).natAbs) (0):Nat):Int))]) (pD (dg 4294967296 (k).natAbs) (k:=0) (by omega)) ?_
 refine o1 ?_;refine WL.cast (t:=12) (u':=.int .u32 (((nth (dg 4294967296 (k).natAbs) (0))%2:Nat):Int)) rfl (dN (lG _ 2)) ?_;(iterate 3 refine o1 ?_);refine nl (rt ?_)
 exact cG (.inl rfl) rfl (decide_eq_decide.2 (show _↔k%2=0 by rw[hn0];omega))
theorem AU (xs:List Nat):((bF xs).map AV.t).take (bF xs).length=(bF xs).map .t:=cT (by simp)
def Bq (f r d:Int):Bool:=decide (d<2*r)||(decide (d=2*r)&& !decide (f%2=0))
theorem aBM {f r d:Int}(h:0<(r+r-d).sign):true=Bq f r d:=by
 have:=Int.sign_pos_iff.1 h
 unfold Bq
 rw[decide_eq_true (show d<2*r by omega)]
 rfl
theorem aBN {f r d:Int}(h:¬0<(r+r-d).sign) (h2:¬(r+r-d).sign=0):false=Bq f r d:=by
 have h3:¬0<r+r-d:=fun h9=>h (Int.sign_pos_iff.2 h9)
 have h4:¬r+r-d=0:=fun h9=>h2 (Int.sign_eq_zero_iff_zero.2 h9)
 unfold Bq
 rw[decide_eq_false (show¬d<2*r by omega),decide_eq_false (show¬d=2*r by omega)]
 rfl
theorem aBO {f r d:Int}(h:¬0<(r+r-d).sign) (h2:(r+r-d).sign=0):(!decide (f%2=0))=Bq f r d:=by
 have h4:=Int.sign_eq_zero_iff_zero.1 h2
 unfold Bq
 rw[decide_eq_false (show¬d<2*r by omega),decide_eq_true (show d=2*r by omega)]
 rfl
theorem SO {q:Rat}(h:Bq (q.num.fdiv (q.den:Int)) (q.num.fmod (q.den:Int)) (q.den:Int)=true):hal q=q.num.fdiv (q.den:Int)+1:=by
 unfold hal
 rw[if_pos]
 unfold Bq at h
 simp only[Bool.or_eq_true,Bool.and_eq_true,Bool.not_eq_true',decide_eq_true_eq,decide_eq_false_iff_not]at h
 exact h
theorem SP {q:Rat}(h:Bq (q.num.fdiv (q.den:Int)) (q.num.fmod (q.den:Int)) (q.den:Int)=false):hal q=q.num.fdiv (q.den:Int):=by
 unfold hal
 rw[if_neg]
 intro h2
 unfold Bq at h
 simp only[Bool.or_eq_false_iff,Bool.and_eq_false_iff,Bool.not_eq_false',decide_eq_true_eq,decide_eq_false_iff_not]at h
 rcases h2 with h2 | ⟨h2,h3⟩
 ·exact h.1 h2
 rcases h.2 with h4 | h4
 ·exact h4 h2
 exact h3 h4
theorem FQ {q:Rat}(h:q.num.fmod (q.den:Int)=0):hal q=q.num.fdiv (q.den:Int):=by
 have hd:(0:Int)<(q.den:Int):=by have:=q.den_pos;omega
 unfold hal
 rw[h,if_neg (by omega)]
theorem MS {k k':Int}{p:Rat}(hs:Sz 68719476736 p) (hk2:(dg 4294967296 (k').natAbs).length<=68719476736):aE false Tryz.prog 199 [⟨223,1,(bF (dg 4294967296 (k).natAbs)).map .t⟩,⟨223,1,(bF (dg 4294967296 (k').natAbs)).map .t⟩] [.agg [tv (.bool (aZ (k))),.sl 0 0 (dg 4294967296 (k).natAbs).length],.agg [tv (.bool (aZ (k'))),.sl 1 0 (dg 4294967296 (k').natAbs).length],.agg [tv (.bool false),.t (sU false (dg 4294967296 p.den))]] (Rt [⟨223,1,(bF (dg 4294967296 (k).natAbs)).map .t⟩,⟨223,1,(bF (dg 4294967296 (k').natAbs)).map .t⟩] (.one (tv (.bool (Bq k k' (p.den:Int)))))):=by
 refine Hj Tryz.func199 rfl Tryz.ntmps199 rfl aR rfl fun N9 M9 w9 c0 h0=>?_
 have hka:(dg 4294967296 (k'+k').natAbs).length<=137438953473:=by have:=iL k' k';omega
 have hs2:=hs.2
 have hkd:(dg 4294967296 (k'+k'-(p.den:Int)).natAbs).length<=300000000000:=by
  have h1:=Fk (k'+k') (p.den:Int)
  rw[Int.natAbs_natCast]at h1;omega
 refine sq (rl (bx 2 ?_));refine bx 3 ?_;refine bx 4 ?_;refine o1 ?_;refine nl (sq ?_);refine bU [2,3,4] [5] ?_
 refine aF 0 ?_;refine aF 1 ?_;refine aF 3 ?_
 refine aG 2 rfl (Nj (Zg.of (k:=k') (Nat.le_trans hk2 (by omega))) (Zg.of (k:=k') (Nat.le_trans hk2 (by omega)))) aA ⟨Hk rfl (.cons .t (.cons (.sl rfl rfl (AU _) (bT _)) .nil)),Hk rfl (.cons .t (.cons (.sl rfl rfl (AU _) (bT _)) .nil)),rfl⟩ _ ?_
 refine aG 4 rfl (Ni (Zg.of (k:=(k'+k')) (Nat.le_trans hka (by omega))) (cY hs).g hkd) aA (bN rfl rfl) _ ?_
 refine bM 5 ?_
 refine aJ ?_;refine sq (rl ?_);(iterate 3 refine o1 ?_);refine WL.split (t:=15) rfl (fun h1=>?_) (fun h1=>?_)
 ·(iterate 7 refine aW ?_);refine o1 ?_;refine o1 ?_;refine nl (rt ?_)
  exact xY (lent':=[⟨223,1,(bF (dg 4294967296 (k).natAbs)).map .t⟩,⟨223,1,(bF (dg 4294967296 (k').natAbs)).map .t⟩]) (.inl rfl) rfl (bB (bO _)) (by decide) (fun _ h=>by cases h) ⟨⟨rfl,rfl⟩,⟨rfl,rfl⟩,trivial⟩ ⟨rfl,rfl,trivial⟩ ⟨pE _,pE _,trivial⟩ (fun h=>by cases h) ⟨rfl,congrArg (fun b=>FV.one (tv (.bool b))) (aBM h1)⟩
 (iterate 3 refine o1 ?_);refine WL.split (t:=18) rfl (fun h2=>?_) (fun h2=>?_)
 ·refine ld ?_;refine ca (SN (k:=k)) aA ⟨Hk rfl (.cons .t (.cons (.sl rfl rfl (AU _) (bT _)) .nil)),rfl⟩ _ ?_;(iterate 4 refine o1 ?_)
  refine nl (rt ?_)
  exact xY (lent':=[⟨223,1,(bF (dg 4294967296 (k).natAbs)).map .t⟩,⟨223,1,(bF (dg 4294967296 (k').natAbs)).map .t⟩]) (.inl rfl) rfl (bB (bO _)) (by decide) (fun _ h=>by cases h) ⟨⟨rfl,rfl⟩,⟨rfl,rfl⟩,trivial⟩ ⟨rfl,rfl,trivial⟩ ⟨pE _,pE _,trivial⟩ (fun h=>by cases h) ⟨rfl,congrArg (fun b=>FV.one (tv (.bool b))) (aBO h1 h2)⟩
 (iterate 3 refine aW ?_);(iterate 3 refine o1 ?_);refine nl (rt ?_)
 exact xY (lent':=[⟨223,1,(bF (dg 4294967296 (k).natAbs)).map .t⟩,⟨223,1,(bF (dg 4294967296 (k').natAbs)).map .t⟩]) (.inl rfl) rfl (bB (bO _)) (by decide) (fun _ h=>by cases h) ⟨⟨rfl,rfl⟩,⟨rfl,rfl⟩,trivial⟩ ⟨rfl,rfl,trivial⟩ ⟨pE _,pE _,trivial⟩ (fun h=>by cases h) ⟨rfl,congrArg (fun b=>FV.one (tv (.bool b))) (aBN h1 h2)⟩
theorem aAc {a:Fr4}{p:Rat}(ha:Qn a p):aE true Tryz.prog 198 [] [qF a,.one (.t (.f 199 [] []))] (aP (kO (hal p))):=by
 refine bD Tryz.func198 Tryz.ntmps198 fun N9 w9 c0 h0=>?_
 have hfl:(dg 4294967296 ((p.num.fdiv (p.den:Int))).natAbs).length<=68719476736:=by rw[rS];exact Nat.le_trans (Bo p) ha.sz.1
 refine sq (rl (bx 0 ?_));refine al 1 ?_;refine nl (sq (rl (ld ?_)));refine nC 2 (MQ ha) aA (aM rfl) ?_;(iterate 4 refine o1 ?_)
 refine al 4 ?_;refine al 5 ?_;refine al 6 ?_;(iterate 3 refine st ?_);refine nl (sq (sq (rl (ld ?_))))
 refine ca (xU (Zg.of (k:=(p.num.fmod (p.den:Int))) (Nat.le_trans (Fm p) (Nat.le_trans ha.sz.2 (by omega))))) aA ⟨Hk rfl (.cons .t (.cons (.sl rfl rfl (AU _) (bT _)) .nil)),rfl⟩ _ ?_
 refine o1 ?_;refine o1 ?_;refine WL.split (t:=17) rfl (fun h1=>?_) (fun h1=>?_)
 ·refine o1 ?_;(iterate 3 refine ld ?_)
  refine cel 7 [2,3] [.agg [tv (.bool (aZ ((p.num.fdiv (p.den:Int))))),.sl 0 0 (dg 4294967296 ((p.num.fdiv (p.den:Int))).natAbs).length],.agg [tv (.bool (aZ ((p.num.fmod (p.den:Int))))),.sl 1 0 (dg 4294967296 ((p.num.fmod (p.den:Int))).natAbs).length],.agg [tv (.bool false),.t (sU false (dg 4294967296 p.den))]] rfl (MS (k:=(p.num.fdiv (p.den:Int))) (k':=(p.num.fmod (p.den:Int))) (p:=p) ha.sz (Nat.le_trans (Fm p) (Nat.le_trans ha.sz.2 (by omega)))) aA ⟨aD rfl,aD rfl,rfl⟩ ⟨rfl,rfl,rfl,rfl⟩ (ok:=[some ⟨223,1,(bF (dg 4294967296 ((p.num.fdiv (p.den:Int))).natAbs)).map .t⟩,some ⟨223,1,(bF (dg 4294967296 ((p.num.fmod (p.den:Int))).natAbs)).map .t⟩]) ⟨aD rfl,aD rfl,rfl⟩ ?_
  refine o1 ?_;refine nl ?_;refine rH rfl (fun h2=>?_) (fun h2=>?_)
  ·refine sq ?_;refine bU [0,1,4,5,6] [2,3] ?_
   refine aF 0 ?_;refine aG 1 rfl (vI (n:=1) (by omega) (by omega)) aA (bC rfl) _ ?_
   refine qA 7 2 rfl (Nj (Zg.of (k:=(p.num.fdiv (p.den:Int))) (Nat.le_trans hfl (by omega))) (Zg.of (k:=1) (by decide))) aA ⟨Hk rfl (.cons .t (.cons (.sl rfl rfl (AU _) (bT _)) .nil)),nD rfl,rfl⟩ ?_
   refine dst 3 ?_;refine aJ ?_;refine rt ?_
   exact en (.inl rfl) rfl (bB (.agg (.cons (.id rfl) (.cons (.sl (trs:=bF (dg 4294967296 ((p.num.fdiv (p.den:Int))+1).natAbs)) rfl rfl (cC _) (bT _)) .nil)))) (by decide) (fun _=>Ha _) (congrArg kO (SO h2).symm)
  refine sk (sq (rl (ld ?_)));refine st ?_;refine nl (rt ?_)
  exact en (.inl rfl) rfl (bB (.agg (.cons (.id rfl) (.cons (.sl (trs:=bF (dg 4294967296 ((p.num.fdiv (p.den:Int))).natAbs)) rfl rfl (cC _) (bT _)) .nil)))) (by decide) (fun _=>Ha _) (congrArg kO (SP h2).symm)
 (iterate 5 refine aW ?_);refine o1 ?_;refine nl (dY rfl (sk (sq (rl (ld ?_)))));refine st ?_;refine nl (rt ?_)
 exact en (.inl rfl) rfl (bB (.agg (.cons (.id rfl) (.cons (.sl (trs:=bF (dg 4294967296 ((p.num.fdiv (p.den:Int))).natAbs)) rfl rfl (cC _) (bT _)) .nil)))) (by decide) (fun _=>Ha _) (congrArg kO (FQ (Int.sign_eq_zero_iff_zero.1 (Decidable.byContradiction h1))).symm)
theorem SQ {a:Fr4}{p:Rat}(ha:Qn a p):aE true Tryz.prog 147 [] [qF a] (aP (kO (hal p))):=by
 refine bD Tryz.func147 Tryz.ntmps147 fun N9 w9 c0 h0=>?_
 refine sq (rl (bx 0 ?_));refine al 1 ?_;refine nl (sq (rl (ld ?_)));refine nC 2 (aAc ha) aA ⟨nD rfl,a1 rfl,rfl⟩ ?_
 refine st ?_;refine nl (rt ?_)
 exact en (.inl rfl) rfl (bB (.agg (.cons (.id rfl) (.cons (.sl (trs:=bF (dg 4294967296 (hal p).natAbs)) rfl rfl (cC _) (bT _)) .nil)))) (by decide) (fun _=>Ha _) rfl
theorem rz {A:List Tr}{us:List Value}{k:Nat}:(A++(us.map Tr.v).drop k).map AV.t=A.map .t++(us.map tv).drop k:=by
 rw[List.map_append,List.map_drop,List.map_map]
 rfl
theorem zL (q:Rat) (n:Nat):(((List.replicate n q).flatMap jI).map AV.t).length=n*4:=by
 rw[dP,nV uS,List.length_replicate]
theorem SR (q:Rat) (n:Nat):(((List.replicate n q).flatMap jI).map AV.t).length=n*4:=zL q n
theorem aBP (q:Rat) (us:List Value) (c:Nat):eD (us.map tv) 0 (((jI q).map AV.t).take (min 1 c*4))=((List.replicate (min 1 c) q).flatMap jI++(us.map Tr.v).drop ((min 1 c)*4)).map AV.t:=by
 rw[rz]
 rcases Nat.eq_zero_or_pos c with h | h
 ·subst h
  simp[eD]
 rw[Nat.min_eq_left h]
 have e:((jI q).map AV.t).take (1*4)=(jI q).map AV.t:=cT (by rw[dP,uS];omega)
 rw[e]
 unfold eD
 simp[uS]
theorem JS (q:Rat) (us:List Value) (n:Nat):((((List.replicate n q).flatMap jI++(us.map Tr.v).drop (n*4)).map AV.t).drop 0).take (n*4)=((List.replicate n q).flatMap jI).map AV.t:=by
 rw[rz]
 rw[List.drop_zero,List.take_append_of_le_length (by rw[zL];omega),cT (by rw[zL];omega)]
theorem aAd (q:Rat) (us:List Value) (n c:Nat) (h:us.length=c*4) (hn:n<=c):0+n*4+min n (c-n)*4<=(((List.replicate n q).flatMap jI++(us.map Tr.v).drop (n*4)).map AV.t).length:=by
 rw[rz]
 rw[cJ,zL,List.length_drop,dP,h]
 omega
theorem aBQ (q:Rat) (us:List Value) (n c:Nat) (h:us.length=c*4) (hn:n<=c):eD (((List.replicate n q).flatMap jI++(us.map Tr.v).drop (n*4)).map AV.t) (0+n*4) ((((List.replicate n q).flatMap jI).map AV.t).take (min n (c-n)*4))=((List.replicate (n+min n (c-n)) q).flatMap jI++(us.map Tr.v).drop ((n+min n (c-n))*4)).map AV.t:=by
 rw[rz,rz]
 have e:(((List.replicate n q).flatMap jI).map AV.t).take (min n (c-n)*4)=((List.replicate (min n (c-n)) q).flatMap jI).map AV.t:=by
  rw[<-List.map_take]
  congr 1
  have h1:List.replicate n q=List.replicate (min n (c-n)) q++List.replicate (n-min n (c-n)) q:=by
   rw[List.replicate_append_replicate]
   congr 1
   omega
  rw[h1,List.flatMap_append,List.take_append_of_le_length (by rw[nV uS,List.length_replicate];omega),cT (by rw[nV uS,List.length_replicate];omega)]
 rw[e]
 unfold eD
 rw[Nat.zero_add,List.take_append_of_le_length (by rw[zL];omega),cT (by rw[zL];omega),zL]
 rw[List.drop_append,zL,List.drop_of_length_le (by rw[zL];omega),List.nil_append,List.drop_drop,<-List.map_append,<-List.flatMap_append,List.replicate_append_replicate]
 congr 2
 omega
theorem SS (q:Rat) (us:List Value) (n c:Nat) (hn:n=c):((((List.replicate n q).flatMap jI++(us.map Tr.v).drop (n*4)).map AV.t).drop 0).take (c*4)=((List.replicate c q).flatMap jI).map .t:=by
 subst hn
 exact JS q us n
theorem MT (q:Rat) (c:Nat):((List.replicate c q).flatMap jI).length=c*4:=by
 rw[nV uS,List.length_replicate]
theorem MU {l m:List AV}(h:fQ l=true) (h2:fQ m=true):fQ (l++m)=true:=by
 induction l with
 | nil=>exact h2
 | cons a l ih=>
  rw[List.cons_append]
  simp only[fQ,Bool.and_eq_true]at h⊢
  exact⟨h.1,ih h.2⟩
theorem JT (q:Rat):∀n:Nat,fQ (((List.replicate n q).flatMap jI).map AV.t)=true
 | 0=>rfl
 | n+1=>by
  rw[List.replicate_succ,List.flatMap_cons,List.map_append]
  exact MU rfl (JT q n)
theorem FS {l m:List AV}(h:dR l=true) (h2:dR m=true):dR (l++m)=true:=by
 induction l with
 | nil=>exact h2
 | cons a l ih=>
  rw[List.cons_append]
  simp only[dR,Bool.and_eq_true]at h⊢
  exact⟨h.1,ih h.2⟩
theorem AW (q:Rat):∀n:Nat,dR (((List.replicate n q).flatMap jI).map AV.t)=true
 | 0=>rfl
 | n+1=>by
  rw[List.replicate_succ,List.flatMap_cons,List.map_append]
  exact FS rfl (AW q n)
theorem FT {q:Rat}{c:Nat}(hc:c<=1000):aE false Tryz.prog 146 [] [.one (.t (sQ false (xX [q]))),.one (tv (.int .i64 ((c:Nat):Int)))] (aP (.one (.t (.s true 27 4 c ((List.replicate (c) q).flatMap jI))))):=by
 refine bD Tryz.func146 Tryz.ntmps146 fun N9 w9 c0 h0=>?_
 refine sq (rl (o1 ?_));refine nl (sq (sq (rl (o1 ?_))));refine o1 ?_;refine nl ?_;refine aV rfl (fun h1=>?_) (fun h1=>?_)
 ·exact absurd h1 (by omega)
 refine sk (sq (rl (o1 ?_)));refine o1 ?_;refine WL.cast (t:=14) (u':=.int .i64 ((1:Nat):Int)) rfl rfl ?_;refine o1 ?_
 refine WL.cast (t:=15) (u':=.int .u64 ((1:Nat):Int)) rfl (dN (by omega)) ?_
 refine o1 ?_;refine o1 ?_;refine WL.cast (t:=17) (u':=.int .u64 ((c:Nat):Int)) rfl (dN (by omega)) ?_
 refine ca (ST (a:=1) (b:=c) (by omega) (by omega)) aA (cO rfl rfl) _ ?_
 (iterate 5 refine o1 ?_);refine nl (sq (sq (rl ?_)));(iterate 3 refine o1 ?_);refine WL.split (t:=23) rfl (fun h2=>?_) (fun h2=>?_)
 ·exact absurd h2 (by omega)
 (iterate 3 refine o1 ?_);refine nl ?_;refine aV rfl (fun h3=>?_) (fun h3=>?_)
 ·exact absurd h3 (by omega)
 refine sk (sq (rl (o1 ?_)));refine o1 ?_;refine aY 29 (c) ?_
 refine mk4 (m:=c) 0 (by omega) fun us hus=>?_
 refine o1 ?_;refine nl (sq (rl (o1 ?_)));refine o1 ?_
 refine cpy (k:=0) (o:=0) (z:=4) (bo:=⟨27,4,us.map tv⟩) (nn:=min 1 c) (l':=(((List.replicate (min 1 c) q).flatMap jI++(us.map Tr.v).drop ((min 1 c)*4)).map AV.t)) (SrcA.fz (m:=1) (l:=jI q)) (by rfl) (by rfl) rfl (by rw[dP,hus];omega) (aBP q us c) ?_
 refine o1 ?_;refine nl (sq (bl ?_))
 refine lp (γ:=Nat) (fun n=>bP [(7,.one (.sl 0 0 c)),(8,iN n)]) (fun n=>[(⟨27,4,(((List.replicate (n) q).flatMap jI++(us.map Tr.v).drop ((n)*4)).map AV.t)⟩:Ob)].map some) (fun n=>n<=c/\(0<n\/c=0)) (fun n=>c-n) (min 1 c) ⟨by omega,by omega⟩ (aH h0 [0] ⟨aD rfl,rfl⟩) fun n hn=>?_
 refine sq (sq (rl ?_));(iterate 4 refine o1 ?_);refine nl ?_;refine aV rfl (fun h4=>?_) (fun h4=>?_)
 ·refine sk (bl ?_);refine bU [] [9] ?_
  refine dv 0 ?_;refine dv 1 ?_;refine dv 2 ?_;refine dv 3 ?_;refine dv 4 ?_;refine dv 5 ?_;refine dv 6 ?_
  refine aBR 7 (o:=0+n*4) (z:=4) (bo:=⟨27,4,(((List.replicate (n) q).flatMap jI++(us.map Tr.v).drop ((n)*4)).map AV.t)⟩) (nn:=min n (c-n)) (l':=(((List.replicate (n+min n (c-n)) q).flatMap jI++(us.map Tr.v).drop ((n+min n (c-n))*4)).map AV.t)) (SrcA.sl (k:=0) (o:=0) (m:=n) (news:=(((List.replicate (n) q).flatMap jI).map AV.t)) rfl (JS q us n) (SR q n)) (JT q n) (AW q n) rfl (aAd q us n c hus (by omega)) (aBQ q us n c hus (by omega)) ?_
  refine df 8 ?_;refine Er 46 (n+min n (c-n)) ?_
  refine bM 9 ?_
  refine aJ ?_;exact⟨n+min n (c-n),by omega,⟨by omega,by omega⟩,aH h0 [0] ⟨aD rfl,rfl⟩⟩
 refine ex (sq (rl (o1 ?_)));refine o1 ?_;refine nl (rt ?_);have hn9:n=c:=by omega
 exact en (.inl rfl) rfl (bB (.one (.sl (trs:=(List.replicate (c) q).flatMap jI) rfl rfl (SS q us n c hn9) (MT q c)))) (by decide) (fun h=>by cases h) (by rfl)
theorem Jo {l R:List Nat}{c:Nat}(hl:Lim 256 l) (hR:l.dropWhile (· ==c)=R):aE true Tryz.prog 159 [] [.one (tv (.string (aN l))),.one (tv (.int .u8 ((c:Nat):Int)))] (aP (.one (tv (.string (aN R))))):=by
 refine bD Tryz.func159 Tryz.ntmps159 fun N9 w9 c0 h0=>?_
 refine sq (rl (o1 ?_));refine nl (sq (bl ?_))
 refine lp (γ:=List Nat) (fun l=>bP [(0,.one (tv (.string (aN l)))),(1,.one (tv (.int .u8 ((c:Nat):Int))))]) (fun _=>([]:List Ob).map some) (fun l=>Lim 256 l/\l.dropWhile (· ==c)=R) (fun l=>l.length) l ⟨hl,hR⟩ (aH h0 [] rfl) fun k hk=>?_
 refine sq (sq (rl (o1 ?_)));refine o1 ?_
 refine WL.cast (t:=6) (u':=.int .i64 ((k.length:Nat):Int)) rfl (congrArg (fun n:Nat=>Value.int .i64 (n:Int)) (aO _)) ?_
 refine o1 ?_;refine o1 ?_;refine WL.split (t:=8) rfl (fun h1=>?_) (fun h1=>?_)
 ·refine o1 ?_;refine o1 ?_ (hC:=(by rw[aO];show 0<k.length;omega))
  refine WL.cast (t:=10) (u':=.int .u8 (((nth k 0):Nat):Int)) rfl (congrArg (fun n:Nat=>Value.int .u8 (n:Int)) (jJ (i:=0) (by omega) (fE (k:=0) hk.1 (by omega)))) ?_
  (iterate 3 refine o1 ?_);refine nl ?_;refine aV rfl (fun h2=>?_) (fun h2=>?_)
  ·refine sk (bl (rl (o1 ?_)));refine o1 ?_ (hC:=(by rw[aO];show 1<=k.length;omega))
   refine lZ 15 (k.drop 1) rfl (Dk _ _) ?_;refine o1 ?_;refine nl ?_
   exact⟨k.drop 1,by rw[List.length_drop];omega,⟨Pa hk.1 1,(AX (by omega) (by omega)).trans hk.2⟩,aH h0 [] rfl⟩
  refine ex (sq (rl (o1 ?_)));refine o1 ?_;refine nl (rt ?_)
  exact fW (.inl rfl) rfl (congrArg aN ((Xn (by omega) (by omega)).trans hk.2))
 (iterate 4 refine aW ?_);refine o1 ?_;refine nl (dY rfl (ex (sq (rl (o1 ?_)))));refine o1 ?_;refine nl (rt ?_)
 exact fW (.inl rfl) rfl (congrArg aN ((Xo (by omega)).trans hk.2))
theorem Xp {l:List Nat}(hl:Lim 256 l):aE true Tryz.prog 152 [] [.one (tv (.string (aN l))),.one (tv (.string ⟨#[48]⟩))] (aP (.one (tv (.string (aN (l.dropWhile (· ==48))))))):=by
 refine bD Tryz.func152 Tryz.ntmps152 fun N9 w9 c0 h0=>?_
 refine sq (rl (o1 ?_));refine nl (sq (sq (rl (o1 ?_))));refine o1 ?_
 refine fU 8 (decide (l=[])) rfl (Br hl) ?_;refine o1 ?_;refine WL.splitb (t:=9) rfl (fun h1=>?_) (fun h1=>?_)
 ·refine aW ?_;refine aW ?_;refine o1 ?_;refine nl (eU rfl (sq (rl (o1 ?_))));refine o1 ?_;refine nl (rt ?_)
  exact fW (.inl rfl) rfl (congrArg aN (by rw[of_decide_eq_true h1];rfl))
 refine o1 ?_;refine o1 ?_;refine fU 11 false rfl (Br (l:=[48]) (Lim.cons (by omega) Lim.nil)) ?_
 refine o1 ?_;refine nl (dY rfl (sk (sq (sq (rl ?_)))));(iterate 3 refine o1 ?_)
 refine fU 16 true rfl rfl ?_;refine o1 ?_;refine o1 ?_;refine o1 ?_ (hC:=(by decide))
 refine o1 ?_;refine fU 20 true rfl rfl ?_;refine o1 ?_;refine nl (eU rfl (sq (rl (o1 ?_))));refine o1 ?_
 refine o1 ?_ (hC:=(by decide))
 refine WL.cast (t:=24) (u':=.int .u8 ((48:Nat):Int)) rfl rfl ?_
 refine ca (Jo (c:=48) hl rfl) aA (cO rfl rfl) _ ?_;refine o1 ?_;refine nl (rt ?_)
 exact fW (.inl rfl) rfl (rfl)
theorem AY {t n:Nat}{xs:List Nat}(hn:xs.length=n) (hn2:n<=100000000):aE false Tryz.prog 151 [⟨t,1,(bS xs).map .t⟩] [.one (.sl 0 0 n)] (Rt [⟨t,1,(bS xs.reverse).map .t⟩] (.tup [])):=by
 subst hn;refine Hj Tryz.func151 rfl Tryz.ntmps151 rfl aR rfl fun N9 M9 w9 c0 h0=>?_
 refine sq (rl ?_);(iterate 5 refine o1 ?_);refine nl (bl ?_)
 refine lp (γ:=Nat) (fun k=>bP [(0,.one (.sl 0 0 xs.length)),(2,iN k),(3,.one (tv (.int .i64 ((xs.length:Int)-1-(k:Int):Int))))]) (fun k=>[(⟨t,1,(bS (jS xs k)).map .t⟩:Ob)].map some) (fun k=>2*k<=xs.length+1) (fun k=>xs.length-k) 0 (by omega) (JU h0 [0] _ _ (by decide) rfl ⟨rfl,rfl,vK (by omega),trivial⟩ ⟨aD (congrArg (fun l=>some (⟨t,1,(bS l).map .t⟩:Ob)) (aAe xs)),rfl⟩) fun k hk=>?_
 have hrl:=oH xs k
 refine sq (sq (rl ?_));(iterate 3 refine o1 ?_);refine nl ?_;refine aV rfl (fun h1=>?_) (fun h1=>?_)
 ·refine sk (sq (bl ?_));refine bU [] [15] ?_
  refine dv 0 ?_;refine dv 1 ?_;refine dv 2 ?_;refine dv 3 ?_;refine Er 17 ((xs.length-1-k)) ?_
  refine dv 4 ?_;refine dv 5 ?_;refine Er 19 ((xs.length-1-k)) ?_
  refine dv 6 ?_;refine dv 8 ?_;refine dv 9 ?_;refine dv 10 ?_;refine dD 7 11 ?_ ?_
  ·refine Xq 7 (Nm (jS xs k) (k:=(xs.length-1-k)) (by omega)) ?_
   refine WO.one (by kernel_rfl) (Xq 11 (Nm (jS xs k) (k:=k) (by omega)) ?_)
   refine dv 12 ?_;refine JV 13 (Bs (jS xs k) (k:=k) (v:=nth (jS xs k) ((xs.length-1-k))) (by omega)) (Hl (jS xs k) (by omega)) ?_
   refine dv 14 ?_
   refine FU 15 (Bs ((jS xs k).set (k) (nth (jS xs k) ((xs.length-1-k)))) (k:=(xs.length-1-k)) (v:=nth (jS xs k) (k)) (by simp only[List.length_set];omega)) (Hl ((jS xs k).set (k) (nth (jS xs k) ((xs.length-1-k)))) (by simp only[List.length_set];omega)) ?_
   refine aJ ?_;refine rl (o1 ?_);refine o1 ?_;refine aY 11 (k+1) ?_
   (iterate 4 refine o1 ?_);refine nl ?_
   exact⟨k+1,by omega,by omega,JU h0 [0] _ _ (by decide) rfl ⟨rfl,rfl,vK (by omega),trivial⟩ ⟨aD (congrArg (fun l=>some (⟨t,1,(bS l).map .t⟩:Ob)) (JW (by omega))),rfl⟩⟩
  refine Xq 11 (Nm (jS xs k) (k:=k) (by omega)) ?_
  refine WO.one (by kernel_rfl) (Xq 7 (Nm (jS xs k) (k:=(xs.length-1-k)) (by omega)) ?_)
  refine dv 12 ?_;refine JV 13 (Bs (jS xs k) (k:=k) (v:=nth (jS xs k) ((xs.length-1-k))) (by omega)) (Hl (jS xs k) (by omega)) ?_
  refine dv 14 ?_
  refine FU 15 (Bs ((jS xs k).set (k) (nth (jS xs k) ((xs.length-1-k)))) (k:=(xs.length-1-k)) (v:=nth (jS xs k) (k)) (by simp only[List.length_set];omega)) (Hl ((jS xs k).set (k) (nth (jS xs k) ((xs.length-1-k)))) (by simp only[List.length_set];omega)) ?_
  refine aJ ?_;refine rl (o1 ?_);refine o1 ?_;refine aY 11 (k+1) ?_
  (iterate 4 refine o1 ?_);refine nl ?_
  exact⟨k+1,by omega,by omega,JU h0 [0] _ _ (by decide) rfl ⟨rfl,rfl,vK (by omega),trivial⟩ ⟨aD (congrArg (fun l=>some (⟨t,1,(bS l).map .t⟩:Ob)) (JW (by omega))),rfl⟩⟩
 refine ex ?_
 exact xY (lent':=[⟨t,1,(bS xs.reverse).map .t⟩]) (.inr rfl) rfl Pb (by decide) (fun _ h=>by cases h) ⟨⟨rfl,rfl⟩,trivial⟩ ⟨congrArg (fun l=>some (⟨t,1,(bS l).map .t⟩:Ob)) (MV (by omega)),trivial⟩ ⟨pE _,trivial⟩ (fun h=>by cases h) ⟨rfl,rfl⟩
theorem Xr {xs:List Nat}{v:Nat}(hx:xs.length<=1000000) (hl:Lim 4294967296 xs) (hv0:vl 4294967296 xs=v):aE true Tryz.prog 85 [] [.one (.t (sU false xs))] (aP (.one (tv (.string (aN (tx v)))))):=by
 refine bD Tryz.func85 Tryz.ntmps85 fun N9 w9 c0 h0=>?_
 have hvL:v<4294967296^xs.length:=hv0▸fY hl
 have hvl:=cW (k:=xs.length) (by omega) hvL
 refine sq (rl (o1 ?_));refine nl (sq (rl (alA 0 ?_)));refine nl (sq (rl (o1 ?_)));refine nl (sq (sq ?_))
 refine rl (o1 ?_);refine ca (MW hl (by omega) hv0) aA (bC rfl) _ ?_
 refine o1 ?_;refine nl (bl ?_)
 refine lp (γ:=(List Nat×List Nat)×Nat) (fun s=>bP [(0,.one (.t (sU false (dg 4294967296 s.2)))),(3,pN 0),(4,.one (.sl 1 0 s.1.1.length))]) (fun s=>[(⟨243,1,(bS s.1.2).map .t⟩:Ob),⟨5,1,(bS (eY s.1.1)).map .t⟩].map some) (fun s=>s.1.2.length=9/\Lim 10 s.1.1/\vl 10 s.1.1+10^s.1.1.length*s.2=v/\s.2<=v/\s.1.1.length<=10*xs.length+9) (fun s=>s.2) (([],List.replicate 9 0),v) ⟨rfl,Lim.nil,(by simp[vl]),aX _,Nat.zero_le _⟩ ((nr (i:=4) 1 5 1 rfl rfl rfl rfl).trans (aH h0 [0,1] ⟨aD rfl,aD (l:=[]) rfl,rfl⟩)) ?_
 rintro⟨⟨ds,iK⟩,u⟩ ⟨ho,hd,hv,hu,hdl⟩;dsimp only at ho hd hv hu hdl⊢;have hul:=eH hu
 refine sq (sq (rl ?_));(iterate 3 refine o1 ?_);refine nl ?_;refine aV rfl (fun h1=>?_) (fun h1=>?_)
 ·refine sk (bl (sq ?_));have hup:=zK (B:=4294967296) (u:=u) (by omega)
  refine rl (o1 ?_)
  refine ca (SU (u:=u) (d:=1000000000) (by omega) (by omega) (by omega)) aA (cO rfl rfl) _ ?_
  (iterate 7 refine o1 ?_);refine nl (sq (sq (rl (o1 ?_))));refine nl (bl ?_)
  refine lp (γ:=Nat) (fun i=>bP [(3,pN 0),(4,.one (.sl 1 0 ds.length)),(5,.one (.t (sU false (dg 4294967296 (u/1000000000))))),(6,.one (tv (.int .u32 ((u%1000000000/10^i:Nat):Int)))),(21,iN i)]) (fun i=>[(⟨243,1,(bS (eY (fd (i) (u%1000000000))++iK.drop (i))).map .t⟩:Ob),⟨5,1,(bS (eY ds)).map .t⟩].map some) (fun i=>i<=9) (fun i=>9-i) 0 (Nat.zero_le _) (dC h0 [0,1] _ _ (by decide) ⟨rfl,rfl,rfl,vK (by rw[Nat.pow_zero,Nat.div_one]),rfl,trivial⟩ ⟨aD rfl,aD rfl,rfl⟩) fun i hi=>?_
  have hlen:(eY (fd (i) (u%1000000000))++iK.drop (i)).length=9:=by rw[cJ,jK,tE,List.length_drop];omega
  have hdi:u%1000000000/10^i<=u%1000000000:=Nat.div_le_self _ _
  refine sq (rl (o1 ?_));refine nl (sq ?_);refine aV rfl (fun h2=>?_) (fun h2=>?_)
  ·refine sk (sq (bl (sq (rl (o1 ?_)))));refine o1 ?_;refine nl (sq (rl ?_));(iterate 3 refine o1 ?_)
   refine AZ 26 (u%1000000000/10^i%10) rfl (lG _ 10) ?_;refine o1 ?_
   refine Lh 27 (u%1000000000/10^i%10) rfl (by omega) ?_
   refine o1 ?_;refine Lh 28 (48+u%1000000000/10^i%10) rfl (by omega) ?_
   refine o1 ?_
   refine Li (Bs (eY (fd (i) (u%1000000000))++iK.drop (i)) (k:=i) (v:=48+u%1000000000/10^i%10) (by omega)) (Hl (eY (fd (i) (u%1000000000))++iK.drop (i)) (by omega)) ?_
   refine nl (rl (o1 ?_));refine o1 ?_ (hC:=(jC 10 (by omega) (aAf (Nat.lt_of_le_of_lt hdi (by omega)))))
   refine AZ 31 (u%1000000000/10^i/10) rfl (gI _ 10) ?_;refine o1 ?_;refine nl (rl (o1 ?_))
   refine aY 32 (i+1) ?_
   refine o1 ?_;refine nl ?_
   exact⟨i+1,by omega,by omega,dC h0 [0,1] _ _ (by decide) ⟨rfl,rfl,rfl,vK (by rw[Nat.pow_succ,Nat.div_div_eq_div_mul]),rfl,trivial⟩ ⟨aD (congrArg (fun l=>some (⟨243,1,(bS l).map .t⟩:Ob)) (SV (by omega) ho)),aD rfl,rfl⟩⟩
  refine ex ?_;have hi9:i=9:=by omega
  subst hi9;have he9:(eY (fd (9) (u%1000000000))++iK.drop (9))=eY (fd 9 (u%1000000000)):=by rw[List.drop_of_length_le (by omega),List.append_nil]
  refine sq (rl (o1 ?_))
  refine aAg (m:=9) (by_:=1) 2 (DstA.sl (k:=1) (n:=ds.length) (e:=5) (z:=1) rfl (by rw[zM,jK])) (Xs _) (MX _) (by rw[zM,hlen]) (by omega) (by omega) ?_
  refine o1 ?_;refine nl (rl (o1 ?_));refine o1 ?_;refine nl ?_
  exact⟨((ds++fd 9 (u%1000000000),eY (fd 9 (u%1000000000))),u/1000000000),by dsimp only;omega,⟨by dsimp only;rw[jK,tE],hd.append (SW _ _),aAh hv,by dsimp only;omega,by dsimp only;rw[cJ,tE];have:=MY hv hup hvL;omega⟩,dC h0 [0,2] _ _ (by decide) ⟨rfl,rfl,congrArg (fun n=>some (FV.one (.sl 2 0 n))) (show(ds++fd 9 (u%1000000000)).length=ds.length+9 by rw[cJ,tE]),trivial⟩ ⟨aD (congrArg (fun l=>some (⟨243,1,(bS l).map .t⟩:Ob)) he9),aD (congrArg (fun l=>some (⟨5,1,l⟩:Ob)) ((SX _ _).trans (congrArg (fun l:List Nat=>(bS l).map AV.t) (show eY ds++(eY (fd (9) (u%1000000000))++iK.drop (9))=eY (ds++fd 9 (u%1000000000)) by rw[he9,Ua])))),rfl⟩⟩
 refine ex (sq ?_);have hu0:u=0:=(fC (B:=4294967296) (by omega)).1 (List.eq_nil_of_length_eq_zero (by omega))
 subst hu0;rw[Nat.mul_zero,Nat.add_zero]at hv;refine rl (o1 ?_)
 refine cl 2 [1] (AY (t:=5) (xs:=eY ds) (n:=ds.length) (jK ds) (by omega)) aA ⟨aD rfl,rfl⟩ ⟨rfl,rfl⟩ (ok:=[some ⟨5,1,(bS (eY ds).reverse).map .t⟩]) ⟨aD rfl,rfl⟩ ?_
 refine nl (sq (sq (rl (o1 ?_))))
 refine b2s (xs:=(eY ds).reverse) (BA rfl (by rw[List.length_reverse,jK])) (by rw[List.length_reverse,jK]) ?_
 refine ca (Xp (rU (Dl hd))) aA (cO rfl rfl) _ ?_;refine o1 ?_;refine nl (sq ?_)
 refine rl (o1 ?_);refine o1 ?_
 refine fU 43 (!decide (((eY ds).reverse.dropWhile (· ==48))=[])) rfl (congrArg not (Br (Pc (rU (Dl hd))))) ?_;refine nl ?_
 refine rH rfl (fun h3=>?_) (fun h3=>?_)
 ·refine sq (rl (o1 ?_));refine o1 ?_;refine nl (rt ?_)
  exact fW (.inl rfl) rfl (congrArg aN (MZ hd hv h3))
 refine sk (sq (rl (o1 ?_)));refine nl (rt ?_)
 exact fW (.inl rfl) rfl (congrArg aN (SY hd hv h3))
def tF (c:Nat) (l:List Nat):Bool:=decide (l.drop (l.length-1)=[c])
def gO (c:Nat) (l:List Nat):List Nat:=if l.drop (l.length-1)=[c]then l.take (l.length-1)else l
theorem aAi {c:Nat}{l:List Nat}(hc:c<256) (h:Lim 256 l):((aN (l.drop (l.length-1))).toList==(aN [c]).toList)=tF c l:=Nn (Pa h _) (Lim.cons hc Lim.nil)
theorem aAj {c:Nat}{l:List Nat}(h:¬1<=l.length):false=tF c l:=by
 unfold tF
 rw[List.eq_nil_of_length_eq_zero (show l.length=0 by omega)]
 rfl
theorem SZ {c:Nat}{l:List Nat}(h:tF c l=true):1<=l.length:=by
 have:=congrArg List.length (of_decide_eq_true h)
 rw[List.length_drop]at this
 simp at this
 omega
theorem Hm {c:Nat}{l:List Nat}(h:tF c l=true):l.take (l.length-1)=gO c l:=(if_pos (of_decide_eq_true h)).symm
theorem aAk {c:Nat}{l:List Nat}(h:tF c l=false):l=gO c l:=(if_neg (of_decide_eq_false h)).symm
theorem BB {B c:Nat}{l:List Nat}(h:Lim B l):Lim B (gO c l):=by
 unfold gO
 split
 ·exact fun x hx=>h x (List.mem_of_mem_take hx)
 exact h
theorem Pd {c:Nat}{l:List Nat}:(gO c l).length<=l.length:=by
 unfold gO
 split
 ·rw[dU];omega
 exact aX _
theorem Pe {l:List Nat}(hl:Lim 256 l) (hn:l.length<=1000000000):aE true Tryz.prog 195 [] [.one (tv (.string (aN l))),.one (tv (.string ⟨#[46]⟩))] (aP (.one (tv (.bool (tF 46 l))))):=by
 refine bD Tryz.func195 Tryz.ntmps195 fun N9 w9 c0 h0=>?_
 refine sq (rl (o1 ?_));refine nl (sq (rl (o1 ?_)));refine o1 ?_
 refine WL.cast (t:=6) (u':=.int .i64 ((l.length:Nat):Int)) rfl (congrArg (fun n:Nat=>Value.int .i64 (n:Int)) (aO _)) ?_
 refine o1 ?_;refine o1 ?_;refine WL.cast (t:=8) (u':=.int .i64 ((1:Nat):Int)) rfl rfl ?_;refine o1 ?_;refine o1 ?_;refine WL.split (t:=10) rfl (fun h1=>?_) (fun h1=>?_)
 ·(iterate 3 refine o1 ?_);refine WL.cast (t:=13) (u':=.int .i64 ((l.length:Nat):Int)) rfl (congrArg (fun n:Nat=>Value.int .i64 (n:Int)) (aO _)) ?_
  refine o1 ?_;refine o1 ?_;refine WL.cast (t:=15) (u':=.int .i64 ((1:Nat):Int)) rfl rfl ?_;refine o1 ?_
  refine aY 16 (l.length-1) ?_
  refine o1 ?_ (hC:=(by rw[aO];omega))
  refine lZ 17 (l.drop (l.length-1)) rfl (Dk _ _) ?_;refine o1 ?_;refine o1 ?_
  refine fU 19 (tF 46 l) rfl (aAi (c:=46) (by omega) hl) ?_
  refine o1 ?_;refine o1 ?_;refine nl (rt ?_);exact cG (.inl rfl) rfl (rfl)
 (iterate 9 refine aW ?_);refine o1 ?_;refine o1 ?_;refine nl (rt ?_);exact cG (.inl rfl) rfl (aAj (by omega))
theorem Mz {l:List Nat}(hl:Lim 256 l) (hn:l.length<=1000000000):aE true Tryz.prog 141 [] [.one (tv (.string (aN l))),.one (tv (.string ⟨#[46]⟩))] (aP (.one (tv (.string (aN (gO 46 l)))))):=by
 refine bD Tryz.func141 Tryz.ntmps141 fun N9 w9 c0 h0=>?_
 refine sq (rl (o1 ?_));refine nl (sq (sq (rl (o1 ?_))));refine o1 ?_
 refine ca (Pe hl hn) aA (cO rfl rfl) _ ?_;refine nl ?_;refine rH rfl (fun h1=>?_) (fun h1=>?_)
 ·refine sq ?_;have h9:=SZ h1
  refine rl ?_;(iterate 3 refine o1 ?_);refine WL.cast (t:=10) (u':=.int .i64 ((l.length:Nat):Int)) rfl (congrArg (fun n:Nat=>Value.int .i64 (n:Int)) (aO _)) ?_
  refine o1 ?_;refine o1 ?_;refine WL.cast (t:=12) (u':=.int .i64 ((1:Nat):Int)) rfl rfl ?_;refine o1 ?_
  refine aY 13 (l.length-1) ?_
  refine o1 ?_ (hC:=(by rw[aO];omega))
  refine lZ 14 (l.take (l.length-1)) rfl ((Bt l 0 (l.length-1)).trans rfl) ?_;refine o1 ?_;refine nl (rt ?_)
  exact fW (.inl rfl) rfl (congrArg aN (Hm h1))
 refine sk (sq (rl (o1 ?_)));refine o1 ?_;refine nl (rt ?_)
 exact fW (.inl rfl) rfl (congrArg aN (aAk h1))
theorem Na {l:List Nat}(hl:Lim 256 l) (hn:l.length<=1000000000):aE true Tryz.prog 82 [] [.one (tv (.string (aN l))),.one (tv (.string ⟨#[46]⟩))] (aP (.one (tv (.string (aN (gO 46 l)))))):=by
 refine bD Tryz.func82 Tryz.ntmps82 fun N9 w9 c0 h0=>?_
 refine sq (rl (o1 ?_));refine nl (sq (rl (o1 ?_)));refine o1 ?_
 refine ca (Mz hl hn) aA (cO rfl rfl) _ ?_;refine o1 ?_;refine nl (rt ?_)
 exact fW (.inl rfl) rfl (rfl)
section
variable {α:Type}
def xZ (dl:α->Bool):List α->Nat
 | []=>0
 | x::l=>if dl x then 0 else xZ dl l+1
theorem Pf {dl:α->Bool}:∀(l:List α),xZ dl l<=l.length
 | []=>aX _
 | x::l=>by
  have:=Pf (dl:=dl) l
  unfold xZ
  split <;> simp <;> omega
theorem Fn {dl:α->Bool}{d:α}:∀{l:List α}{k:Nat},k<=xZ dl l->k<l.length->(dl (l.getD k d)=true->xZ dl l=k)/\(dl (l.getD k d)=false->k+1<=xZ dl l)
 | [],_,_,h=>by simp at h
 | x::l,0,_,_=>by
  have e:(x::l).getD 0 d=x:=rfl
  rw[e]
  unfold xZ
  exact⟨fun h=>by simp[h],fun h=>by simp[h]⟩
 | x::l,k+1,h,h2=>by
  have e:(x::l).getD (k+1) d=l.getD k d:=by simp
  rw[e]
  unfold xZ at h⊢
  by_cases hx:dl x=true
  ·simp[hx]at h
  simp only[if_neg hx]at h⊢
  have:=Fn (dl:=dl) (d:=d) (l:=l) (k:=k) (by omega) (by simpa using h2)
  exact⟨fun h=>by rw[this.1 h],fun h=>by have:=this.2 h;omega⟩
theorem Ub {dl:α->Bool}:∀(l:List α),l.any dl=decide (xZ dl l<l.length)
 | []=>rfl
 | x::l=>by
  unfold xZ
  by_cases hx:dl x=true
  ·simp[hx]
  simp only[if_neg hx,List.any_cons,Ub l,List.length_cons]
  simp[hx]
def BC (dl:α->Bool) (l:List α):Int:=if xZ dl l=l.length then-1 else(xZ dl l:Int)
theorem NA {dl:α->Bool}(l:List α):decide (0<=BC dl l)=l.any dl:=by
 have h:=Pf (dl:=dl) l
 rw[Ub]
 unfold BC
 split
 ·rw[decide_eq_decide];omega
 rw[decide_eq_decide];omega
end
section
variable {lt:Nat->Nat->Bool}{A B C D:List Nat}{x y j:Nat}
end
theorem TA {xs:List Fr4}{dl:Fr4->Bool}{fd:FuncId}{fst caps:List Tr}(hok:CallOk Tryz.prog fd) (hd:∀x∈xs,aE true Tryz.prog fd [] (fM fst++[.agg ((Fr4.tr false x).map .t)]++fM caps) (aP (.one (tv (.bool (dl x)))))) (hl:xs.length<=1073741823):aE true Tryz.prog 193 [] [.one (.t (sQ false xs)),.one (.t (.f fd fst caps))] (aP (.one (tv (.int .i64 (BC dl xs))))):=by
 refine bD Tryz.func193 Tryz.ntmps193 fun N w c0 h0=>?_
 refine sq (rl (o1 ?_));refine nl (sq (sq (rl ?_)));(iterate 3 refine o1 ?_);refine nl (bl ?_)
 refine lp (γ:=Nat) (fun k=>bP [(0,.one (.t (sQ false xs))),(1,.one (.t (.f fd fst caps))),(7,iN xs.length),(8,iN k)]) (fun k=>[].map some) (fun k=>k<=xs.length/\k<=xZ dl xs) (fun k=>xs.length-k) 0 (⟨Nat.zero_le _,Nat.zero_le _⟩) (aH h0 [] rfl) fun k hk=>?_
 refine sq (rl (o1 ?_));refine nl (sq ?_);refine aV rfl (fun h1=>?_) (fun h1=>?_)
 ·refine sk (sq (bl (sq (rl (o1 ?_)))));refine o1 ?_;refine nl (sq (rl ?_));(iterate 4 refine o1 ?_)
  refine cX ((Fr4.tr false) (lC xs (k))) (wH (f:=(Fr4.tr false)) (z:=4) (o:=0) (fun _=>rfl) (rV (by omega)) (Kz rfl) rfl) ?_
  refine ce 0 [.agg ((Fr4.tr false (lC xs (k))).map .t)] rfl (hd (lC xs (k)) (lU (by omega))) hok ⟨rfl,rfl⟩ ?_
  refine nl ?_;refine rH rfl (fun h2=>?_) (fun h2=>?_)
  ·refine sq (rl (o1 ?_));refine o1 ?_;refine nl (rt ?_);have hx9:=(Fn hk.2 (by omega)).1 h2
   exact Ho (.inl rfl) rfl (by unfold BC;rw[hx9,if_neg (by omega)])
  refine sk (rl (o1 ?_));refine aY 18 (k+1) ?_
  refine o1 ?_;refine nl ?_;exact⟨k+1,by omega,⟨by omega,(Fn hk.2 (by omega)).2 h2⟩,aH h0 [] rfl⟩
 refine ex (sq (rl (o1 ?_)));refine nl (rt ?_);have hx9:=Pf (dl:=dl) xs
 exact Ho (.inl rfl) rfl (by unfold BC;rw[if_pos (by omega)])
theorem TB {xs:List Fr4}{dl:Fr4->Bool}{fd:FuncId}{fst caps:List Tr}(hok:CallOk Tryz.prog fd) (hd:∀x∈xs,aE true Tryz.prog fd [] (fM fst++[.agg ((Fr4.tr false x).map .t)]++fM caps) (aP (.one (tv (.bool (dl x)))))) (hl:xs.length<=1073741823):aE true Tryz.prog 138 [] [.one (.t (sQ false xs)),.one (.t (.f fd fst caps))] (aP (.one (tv (.bool (xs.any dl))))):=by
 refine bD Tryz.func138 Tryz.ntmps138 fun N w c0 h0=>?_
 refine sq (rl (o1 ?_));refine nl (sq (rl (o1 ?_)));refine o1 ?_
 refine ca (TA hok hd hl) aA (cO rfl rfl) _ ?_;refine o1 ?_;refine o1 ?_;refine nl (rt ?_)
 exact en (.inl rfl) rfl (bB (bO _)) (by decide) (fun _=>trivial) (congrArg (fun z=>FV.one (tv (.bool z))) (NA xs))
section
variable {x:Cx}{g:Nat->FV}{ob:List (Option Ob)}{Q:Post}
theorem rdz {i t t' z n:Nat}{o:Bool}{l l':List Tr}(hi:Nat.blt i x.n=true) (h:g i=.one (.t (.s o t z n l))) (hr:rdTL l=l'):Sub x g ob (bG g i (.one (.t (.s false t' z n l')))) ob:=Pg hi fun W N cs u hu=>by
 subst hr
 rw[h]at hu
 simp only[bV,cE,AR]at hu⊢
 have h2:=Ph _ _ hu
 simp only[Es,FR]at h2⊢
 exact h2
end
section
variable {l:List Rat}{f:Rat->Rat}{k:Nat}
end
section
variable {l:List Rat}{k:Nat}{f:Int->Int}{z:List Int}
end
section
variable {x:Cx}{g:Nat->FV}{ob:List (Option Ob)}
end
section
variable {l:List Rat}{k i t:Nat}
end
section
variable {x:Cx}{g:Nat->FV}{ob ob':List (Option Ob)}{Q:Post}{ops:Array Oper}{rest:List Oper}{d:Nat}{ty:TypeId}{pos:String}{af:Array Edge}{gd:Option (Nat×Bool)}{T:List (Nat×TI)}
end
section
variable {x:Cx}{g:Nat->FV}{ob:List (Option Ob)}{ws:List Zi}{z:Zi}{l:List Rat}{i k n t:Nat}
theorem xE {i:Nat}{v v':FV}(hi:Nat.blt i x.n=true) (hg:g i=v) (h:v=v'):Sub x g ob (bG g i v') ob:=Pg hi fun W N cs u hu=>by
 rw[hg]at hu
 rwa[<-h]
end
section
variable {l:List Rat}{i t:Nat}
end
def oI (l:List Rat):Rat:=l.foldl (· * ·) 1
theorem Hp (l:List Rat) (q:Rat):oI (l++[q])=oI l*q:=by simp[oI]
theorem Lj (q:Rat):∀n:Nat,oI (List.replicate n q)=q^n
 | 0=>by rw[Rat.pow_zero];rfl
 | n+1=>by rw[List.replicate_succ',Hp,Lj q n,Rat.pow_succ]
theorem NB (n:Nat):(((10:Int):Rat))^n=((10^n:Nat):Rat):=by
 induction n with
 | zero=>rw[Rat.pow_zero];rfl
 | succ n ih=>rw[Rat.pow_succ,ih,Nat.pow_succ,Rat.natCast_mul];rfl
theorem iP (n:Nat):Sz (n+1) ((10^n:Nat):Rat):=by
 refine⟨?_,?_⟩
 ·rw[Rat.num_natCast,Int.natAbs_natCast]
  exact Uc n
 rw[Rat.den_natCast]
 exact Nat.le_trans (show(dg 4294967296 1).length<=1 by decide) (by omega)
theorem BD {xs:List Fr4}{B:Nat}(hB:2+xs.length*B<=34359738368) (hx:∀x∈xs,x.ok) (hz:∀x∈xs,Sz B x.q) (hl:xs.length<=1073741823):aE false Tryz.prog 148 [] [.one (.t (sQ false xs))] (aP (qF (.of (oI (xs.map Fr4.q))))):=by
 refine bD Tryz.func148 Tryz.ntmps148 fun N9 w9 c0 h0=>?_
 have h00:((1:Int):Rat)=oI ((xs.take 0).map Fr4.q):=by simp[oI]
 refine sq (rl (al 0 ?_));refine nl (sq (rl (ca (kN (z:=1) (by omega) (by omega)) aA (bC rfl) _ ?_)))
 refine al 1 ?_;refine st ?_;refine nl (sq (sq (rl ?_)));(iterate 3 refine o1 ?_);refine nl (bl ?_)
 refine lp (γ:=Nat) (fun k=>bP [(2,pN 0),(3,pN 1),(7,.one (.t (sQ false xs))),(8,iN xs.length),(9,iN k)]) (fun k=>[(⟨27,0,[tv (.bool false),tv (.slice none 0 0),tv (.bool false),tv (.slice none 0 0)]⟩:Ob),⟨27,0,((Fr4.of (oI ((xs.take (k)).map Fr4.q))).tr false).map .t⟩].map some) (fun k=>k<=xs.length/\Sz (2+k*B) (oI ((xs.take (k)).map Fr4.q))) (fun k=>xs.length-k) 0 ⟨Nat.zero_le _,by simpa[oI]using cU (z:=1) (by omega) (by omega)⟩ (aH h0 [0,1] ⟨oe rfl rfl,aD (congrArg (fun q=>some (⟨27,0,((Fr4.of q).tr false).map .t⟩:Ob)) h00),rfl⟩) fun k hk=>?_
 have hmul:k*B<=xs.length*B:=Nat.mul_le_mul hk.1 (aX _)
 refine sq (rl (o1 ?_));refine nl (sq ?_);refine aV rfl (fun h1=>?_) (fun h1=>?_)
 ·refine sk (sq (bl (sq (rl (o1 ?_)))));refine cX ((lC xs (k)).tr false) (Oy xs (k:=k) (by omega)) ?_
  refine al 2 ?_;refine st ?_;refine nl (rl (ld ?_));refine ld ?_
  refine ca (Hh (Qn.of (p:=(oI ((xs.take (k)).map Fr4.q))) (hk.2.mono (M:=68719476736) (by omega))) ⟨hx _ (lU (by omega)),rfl⟩) aA (bN rfl rfl) _ ?_
  refine st ?_;refine nl (rl (o1 ?_));refine aY 16 (k+1) ?_
  refine o1 ?_;refine nl ?_;have hst:(oI ((xs.take (k+1)).map Fr4.q))=(oI ((xs.take (k)).map Fr4.q))*(lC xs (k)).q:=by rw[Hi (by omega)];exact Hp _ _
  have hmul3:(k+1)*B=k*B+B:=Nat.succ_mul k B
  exact⟨k+1,by omega,⟨by omega,by rw[hst];exact(lM hk.2 (hz _ (lU (by omega)))).mono (by omega)⟩,aH h0 [0,1] ⟨oe rfl rfl,aD (congrArg (fun q=>some (⟨27,0,((Fr4.of q).tr false).map .t⟩:Ob)) hst.symm),rfl⟩⟩
 refine ex (sq (rl (ld ?_)));refine st ?_;refine nl (rt ?_)
 exact en (.inl rfl) rfl (bB (.agg (.cons (.id rfl) (.cons (.id rfl) (.cons (.id rfl) (.cons (.id rfl) .nil)))))) (by decide) (fun h=>by cases h) (by rw[cT (by omega)];rfl)
theorem TC {l:List Rat}{n:Nat}(hn:l.length=n):sQ false (xX l)=.s false 38 4 n (l.flatMap jI):=by
 unfold sQ
 rw[Ty,hn,MR]
theorem TD {c:Nat}(hc:c<=40):aE false Tryz.prog 148 [] [.one (.t (.s false 38 4 c ((List.replicate c ((10:Int):Rat)).flatMap jI)))] (aP (qF (.of ((10^c:Nat):Rat)))):=by
 have hz:∀q∈List.replicate c ((10:Int):Rat),Sz 2 q:=fun q hq=>by rw[List.eq_of_mem_replicate hq];exact cU (by omega) (by omega)
 have hl:(xX (List.replicate c ((10:Int):Rat))).length=c:=by rw[Ty,List.length_replicate]
 have h:=BD (xs:=xX (List.replicate c ((10:Int):Rat))) (B:=2) (by rw[hl];omega) (SL hz (by omega)) (SM hz) (by rw[hl];omega)
 rwa[ZZ,TC (List.length_replicate ..),Lj,NB]at h
theorem JX:∀l:List Rat,rdTL (l.flatMap jI)=l.flatMap jI
 | []=>rfl
 | q::l=>by
  rw[List.flatMap_cons]
  have h:=JX l
  have u32:∀xs:List Nat,rdTL (bF xs)=bF xs:=by
   intro xs
   induction xs with
   | nil=>rfl
   | cons x xs ih=>simpa[bF,rdTL,Es]using ih
  show rdTL (_::_::_::_::l.flatMap jI)=_
  simp only[rdTL,h,sU,Es,u32]
  rfl
theorem FW {a:Fr4}{p:Rat}{c:Nat}(ha:Qn a p) (hs:Sz 1000000 p) (hc:c<=40):aE false Tryz.prog 84 [] [qF a,.one (tv (.int .i64 ((c:Nat):Int)))] (aP (.tup [kF (hal (p*((10^c:Nat):Rat))),.one (tv (.int .i64 0))])):=by
 refine bD Tryz.func84 Tryz.ntmps84 fun N9 w9 c0 h0=>?_
 refine sq (rl (bx 0 ?_));refine al 1 ?_;refine o1 ?_;refine nl (sq (bl (sq (rl ?_))));(iterate 3 refine o1 ?_);refine nl ?_
 refine aV rfl (fun h1=>?_) (fun h1=>?_)
 ·exact absurd h1 (by omega)
 refine sq (rl ?_);(iterate 3 refine o1 ?_);refine nl ?_;refine aV rfl (fun h2=>?_) (fun h2=>?_)
 ·exact absurd h2 (by omega)
 refine sk (sq (rl (ca (kN (z:=10) (by omega) (by omega)) aA (bC rfl) _ ?_)))
 refine bs 2 ?_;refine WL.sub (wG (i:=16) (k:=2) (t:=27) (z:=4) (n:=1) (l:=(xX [((10:Int):Rat)]).flatMap (Fr4.tr false)) 38 rfl rfl rfl rfl (.one .sl)) ?_;refine o1 ?_
 refine ca (FT (q:=((10:Int):Rat)) (c:=c) (by omega)) aA (cO rfl rfl) _ ?_
 refine WL.sub (rdz (i:=18) (t':=38) rfl rfl (JX _)) ?_;refine o1 ?_;refine nl (sq ?_);refine bU [0,1] [5,6] ?_
 refine aF 0 ?_;refine dv 1 ?_;refine aG 2 rfl (TD (c:=c) hc) aA (bC rfl) _ ?_
 refine aG 3 rfl (Hh ha (Qn.of (p:=((10^c:Nat):Rat)) ((iP c).mono (M:=68719476736) (by omega)))) aA (bN rfl rfl) _ ?_
 refine aG 4 rfl (SQ (Qn.of (p:=(p*((10^c:Nat):Rat))) ((lM hs (iP c)).mono (M:=68719476736) (by omega)))) aA (aM rfl) _ ?_
 refine dst 5 ?_;refine bM 6 ?_
 refine aJ ?_;refine rt ?_;exact en (.inl rfl) rfl (gP (.cons (.agg (.cons (.id rfl) (.cons (.id rfl) .nil))) (.cons (bO _) .nil))) (by decide) (fun h=>by cases h) rfl
theorem Bu {n:Int}:aK n<=40:=by unfold aK;omega
theorem BE {v L:Nat}(h:(dg 4294967296 v).length<=L):(dg 10 v).length<=10*L:=by
 refine cW (by omega) ?_
 have h1:v<4294967296^L:=Nat.lt_of_lt_of_le (qP (B:=4294967296) (by omega)) (Nat.pow_le_pow_right (by omega) h)
 refine Nat.lt_of_lt_of_le h1 ?_
 rw[Nat.pow_mul]
 exact Nat.pow_le_pow_left (by omega) L
theorem rW {v L:Nat}(h:(dg 4294967296 v).length<=L):(tx v).length<=10*L+1:=by
 unfold tx
 split
 ·show 1<=_;omega
 rw[List.length_reverse,jK]
 have:=BE h
 omega
theorem BF {a b:List Nat}{d:Nat}(h:(a++b).length=a.length+d):((a++b).take ((a++b).length-d)).drop 0=a:=by
 rw[List.drop_zero,h,Nat.add_sub_cancel]
 exact List.take_left
theorem BG {a b:List Nat}{d:Nat}(h:(a++b).length=a.length+d):(a++b).drop ((a++b).length-d)=b:=by
 rw[h,Nat.add_sub_cancel]
 exact List.drop_left
theorem TE {n d:Nat}(h:d≠0):tx (n/10^d)++[46]++pd n d=wr n d:=by
 unfold wr
 rw[if_neg h,List.append_assoc]
 rfl
theorem TF {n d:Nat}(h:d=0):tx (n/10^d)++pd n d=wr n d:=by
 subst h
 rfl
theorem Hq {n d:Nat}:(wr n d).length=(tx (n/10^d)).length+(if d=0 then 0 else d+1):=by
 unfold wr
 rw[cJ]
 split
 ·rfl
 rw[List.length_cons,tG]
theorem aBS {z:Int}{d:Nat}(h:aZ z=true):45::wr z.natAbs d=pt z d:=(if_pos (of_decide_eq_true h)).symm
theorem aBT {z:Int}{d:Nat}(h:aZ z=false):wr z.natAbs d=pt z d:=(if_neg (of_decide_eq_false h)).symm
theorem Ud {p:Rat}{c L:Nat}(hs:Sz L p) (hc:c<=40) (hL:L+100<=1000000):(dg 4294967296 (hal (p*((10^c:Nat):Rat))).natAbs).length<=1000000:=by
 have h1:=(lM hs (iP c)).1
 have h2:(hal (p*((10^c:Nat):Rat))).natAbs<=(fl (p*((10^c:Nat):Rat))).natAbs+1:=by
  unfold hal
  rw[rS]
  split <;> omega
 have h3:=Bo (p*((10^c:Nat):Rat))
 generalize fl (p*((10^c:Nat):Rat))=f at h2 h3
 have h4:=iL (f.natAbs:Int) 1
 have h5:((f.natAbs:Int)+1).natAbs=f.natAbs+1:=by omega
 rw[h5,Int.natAbs_natCast]at h4
 have h6:(dg 4294967296 (1:Int).natAbs).length<=1:=by decide
 have h7:=eH h2
 omega
theorem Xt {a:Fr4}{p:Rat}{n:Int}{L:Nat}(ha:Qn a p) (hs:Sz L p) (hL:L+100<=1000000):aE true Tryz.prog 36 [] [qF a,.one (tv (.int .i64 n))] (aP (.one (tv (.string (aN (eI p (aK n))))))):=by
 refine bD Tryz.func36 Tryz.ntmps36 fun N9 w9 c0 h0=>?_
 have hD:(aK n)<=40:=Bu
 have hkl:(dg 4294967296 (hal (p*((10^(aK n):Nat):Rat))).natAbs).length<=1000000:=Ud hs hD hL
 have htl:(tx (hal (p*((10^(aK n):Nat):Rat))).natAbs).length<=10000001:=rW hkl
 have hpl:(pd (hal (p*((10^(aK n):Nat):Rat))).natAbs (aK n)).length=(aK n):=tG _ _
 have htq:(tx ((hal (p*((10^(aK n):Nat):Rat))).natAbs/10^(aK n))).length<=10000001:=rW (Nat.le_trans (eH (Nat.div_le_self _ _)) hkl)
 have htq1:1<=(tx ((hal (p*((10^(aK n):Nat):Rat))).natAbs/10^(aK n))).length:=List.length_pos_iff.2 (wI _)
 have hZl:((tx ((hal (p*((10^(aK n):Nat):Rat))).natAbs/10^(aK n)))++(pd (hal (p*((10^(aK n):Nat):Rat))).natAbs (aK n))).length=(tx ((hal (p*((10^(aK n):Nat):Rat))).natAbs/10^(aK n))).length+(aK n):=by rw[cJ,hpl]
 refine sq (rl (bx 0 ?_));refine o1 ?_;refine nl (sq (rl ?_));(iterate 3 refine o1 ?_)
 refine WL.cast (t:=10) (u':=.int .i64 (((aK n):Nat):Int)) rfl (dN (by unfold aK;omega)) ?_
 refine o1 ?_;refine nl (sq (rl (ld ?_)));refine o1 ?_
 refine ca (FW (c:=(aK n)) ha (hs.mono (by omega)) Bu) aA ⟨nD rfl,a1 rfl,rfl⟩ _ ?_
 (iterate 3 refine o1 ?_);refine al 1 ?_;refine st ?_;refine o1 ?_;refine nl (sq (rl (o1 ?_)));refine ld ?_
 refine ca (Xr (xs:=(dg 4294967296 (hal (p*((10^(aK n):Nat):Rat))).natAbs)) (v:=(hal (p*((10^(aK n):Nat):Rat))).natAbs) hkl (aU (by omega) _) (cL (by omega) _)) aA (bC rfl) _ ?_
 refine o1 ?_;refine nl (sq (rl (o1 ?_)));refine o1 ?_;refine aY 21 ((aK n)+1) ?_
 refine o1 ?_;refine o1 ?_
 refine WL.cast (t:=23) (u':=.int .i64 (((tx (hal (p*((10^(aK n):Nat):Rat))).natAbs).length:Nat):Int)) rfl (congrArg (fun n:Nat=>Value.int .i64 (n:Int)) (aO _)) ?_
 refine o1 ?_;refine WL.cast (t:=24) (u':=.int .i64 (((((aK n)+1:Nat):Int)-(((tx (hal (p*((10^(aK n):Nat):Rat))).natAbs).length:Nat):Int)))) rfl (dN (by omega)) ?_
 refine o1 ?_;refine WL.cast (t:=25) (u':=.int .i64 ((((aK n)+1-(tx (hal (p*((10^(aK n):Nat):Rat))).natAbs).length):Nat):Int)) rfl (dN (by omega)) ?_
 refine ca (BH (n:=(aK n)+1-(tx (hal (p*((10^(aK n):Nat):Rat))).natAbs).length) (by omega)) aA (cO rfl rfl) (.one (tv (.string (aN (List.replicate ((aK n)+1-(tx (hal (p*((10^(aK n):Nat):Rat))).natAbs).length) 48))))) ?_
 refine o1 ?_;refine o1 ?_ (hC:=(by rw[aO,aO,List.length_replicate];omega))
 refine lZ 28 ((tx ((hal (p*((10^(aK n):Nat):Rat))).natAbs/10^(aK n)))++(pd (hal (p*((10^(aK n):Nat):Rat))).natAbs (aK n))) rfl ((eK _ _).trans (congrArg aN (Pi (aK n) (hal (p*((10^(aK n):Nat):Rat))).natAbs))) ?_
 refine o1 ?_;refine nl ?_
 refine md (γ:=Unit) (fun _=>bP [(5,pN 0),(7,.one (tv (.string (aN (wr (hal (p*((10^(aK n):Nat):Rat))).natAbs (aK n))))))]) (fun _=>([⟨25,0,[tv (.bool (aZ ((hal (p*((10^(aK n):Nat):Rat)))))),.t (sU false (dg 4294967296 ((hal (p*((10^(aK n):Nat):Rat)))).natAbs))]⟩]:List Ob).map some) (fun _=>True) ?_ fun _ _=>?_
 ·refine sq (rl (o1 ?_));refine o1 ?_;refine nl ?_;refine aV rfl (fun h1=>?_) (fun h1=>?_)
  ·refine bU [0,1] [14] ?_
   refine dv 0 ?_;refine dv 1 ?_;refine dv 2 ?_
   refine WD.cast (t:=33) (u':=.int .i64 ((((tx ((hal (p*((10^(aK n):Nat):Rat))).natAbs/10^(aK n)))++(pd (hal (p*((10^(aK n):Nat):Rat))).natAbs (aK n))).length:Nat):Int)) rfl (congrArg (fun n:Nat=>Value.int .i64 (n:Int)) (aO _)) ?_
   refine dv 3 ?_;refine dv 4 ?_
   refine WD.cast (t:=35) (u':=.int .i64 ((((tx ((hal (p*((10^(aK n):Nat):Rat))).natAbs/10^(aK n)))++(pd (hal (p*((10^(aK n):Nat):Rat))).natAbs (aK n))).length-(aK n):Nat):Int)) rfl (dN (by omega)) ?_
   refine dv 5 ?_ (hC:=(by rw[aO];omega))
   refine Ba 36 (tx ((hal (p*((10^(aK n):Nat):Rat))).natAbs/10^(aK n))) rfl ((Bt _ 0 _).trans (congrArg aN (BF hZl))) ?_
   refine dv 6 ?_ (hC:=(by rw[aO];show _+1<=_;omega))
   refine Ba 37 ((tx ((hal (p*((10^(aK n):Nat):Rat))).natAbs/10^(aK n)))++[46]) rfl (eK _ [46]) ?_;refine dv 7 ?_
   refine dv 8 ?_;refine dv 9 ?_
   refine WD.cast (t:=40) (u':=.int .i64 ((((tx ((hal (p*((10^(aK n):Nat):Rat))).natAbs/10^(aK n)))++(pd (hal (p*((10^(aK n):Nat):Rat))).natAbs (aK n))).length:Nat):Int)) rfl (congrArg (fun n:Nat=>Value.int .i64 (n:Int)) (aO _)) ?_
   refine dv 10 ?_;refine dv 11 ?_
   refine WD.cast (t:=42) (u':=.int .i64 ((((tx ((hal (p*((10^(aK n):Nat):Rat))).natAbs/10^(aK n)))++(pd (hal (p*((10^(aK n):Nat):Rat))).natAbs (aK n))).length-(aK n):Nat):Int)) rfl (dN (by omega)) ?_
   refine dv 12 ?_ (hC:=(by rw[aO];omega))
   refine Ba 43 (pd (hal (p*((10^(aK n):Nat):Rat))).natAbs (aK n)) rfl ((Dk _ _).trans (congrArg aN (BG hZl))) ?_
   refine dv 13 ?_ (hC:=(by rw[aO,aO,cJ];show _+1+_<=_;omega))
   refine Ba 44 (wr (hal (p*((10^(aK n):Nat):Rat))).natAbs (aK n)) rfl ((eK _ _).trans (congrArg aN (TE (by omega)))) ?_
   refine bM 14 ?_
   refine aJ ?_;exact⟨(),trivial,aH h0 [1] ⟨oe rfl rfl,rfl⟩⟩
  refine sk ?_
  exact⟨(),trivial,dC h0 [1] _ _ (by decide) ⟨rfl,(congrArg (fun b=>some (FV.one (tv (.string (aN b))))) (TF (n:=(hal (p*((10^(aK n):Nat):Rat))).natAbs) (d:=(aK n)) (by omega)).symm),trivial⟩ ⟨oe rfl rfl,rfl⟩⟩
 refine sq (sq (rl (o1 ?_)));refine ld ?_;refine nl ?_;refine rH rfl (fun h2=>?_) (fun h2=>?_)
 ·refine rl (o1 ?_);refine o1 ?_ (hC:=(by rw[aO];show 1+_<=_;rw[Hq];split <;> omega))
  refine lZ 48 (45::(wr (hal (p*((10^(aK n):Nat):Rat))).natAbs (aK n))) rfl (eK [45] _) ?_;refine o1 ?_;refine nl ?_
  refine sq (rl (o1 ?_));refine o1 ?_;refine nl (rt ?_)
  exact fW (.inl rfl) rfl (congrArg aN (aBS h2))
 refine sk (sq (rl (o1 ?_)));refine o1 ?_;refine nl (rt ?_)
 exact fW (.inl rfl) rfl (congrArg aN (aBT h2))
theorem uT {a:Fr4}{p:Rat}{L:Nat}(ha:Qn a p) (hs:Sz L p) (hL:L+100<=1000000):aE true Tryz.prog 35 [] [qF a] (aP (.one (tv (.string (aN (eI p (aK 2))))))):=by
 refine bD Tryz.func35 Tryz.ntmps35 fun N9 w9 c0 h0=>?_
 refine sq (rl (bx 0 ?_));refine o1 ?_;refine nl (sq (rl (ld ?_)))
 refine ca (Xt (n:=2) ha hs hL) aA ⟨nD rfl,a1 rfl,rfl⟩ _ ?_;refine o1 ?_;refine nl (rt ?_)
 exact fW (.inl rfl) rfl (rfl)
theorem BI {xs:List Fr4}(hx:∀x∈xs,x.ok) (hl:xs.length<=1073741823):aE true Tryz.prog 80 [] [.one (.t (sQ false xs))] (aP (.one (tv (.bool (!(xs.any uL)))))):=by
 refine bD Tryz.func80 Tryz.ntmps80 fun N9 w9 c0 h0=>?_
 refine sq (rl (o1 ?_));refine nl (sq (rl (o1 ?_)))
 refine ca (TB (dl:=uL) (fst:=[]) (caps:=[]) aA (fun x h=>Xm ⟨hx x h,rfl⟩) hl) aA (cO rfl rfl) _ ?_
 refine o1 ?_;refine o1 ?_;refine nl (rt ?_);exact cG (.inl rfl) rfl (rfl)
theorem Xu {p:Rat}(hp:Sz 68719476736 p):aE true Tryz.prog 80 [] [.one (.t (sQ false [Fr4.of p]))] (aP (.one (tv (.bool (decide (p.den=1)))))):=by
 have h:=BI (xs:=[Fr4.of p]) (fun x hx=>by rw[List.mem_singleton]at hx;subst hx;exact(Qn.of hp).1) (by simp)
 have e:(!([Fr4.of p].any uL))=decide (p.den=1):=by
  rw[List.any_cons,List.any_nil,Bool.or_false,FP p (Lk p),Bool.not_not]
 rwa[e]at h
theorem TG {a:Fr4}{p:Rat}(ha:Qn a p) (hs9:Sz 68719476700 p):aE false Tryz.prog 76 [] [.one (.t (sQ false [a]))] (aP (qF (.of p))):=by
 have h:=aAb (xs:=[a]) (B:=68719476700) (by show 2+1*_<=_;omega) (fun x hx=>by rw[List.mem_singleton]at hx;subst hx;exact ha.1) (fun x hx=>by rw[List.mem_singleton]at hx;subst hx;rw[ha.2];exact hs9) (by simp)
 rwa[show rT ([a].map Fr4.q)=p by rw[List.map_cons,List.map_nil,ha.2];simp[rT,Rat.zero_add]]at h
theorem Jp {p:Nat->Bool}{l:List Nat}:(nE p l).length<=l.length:=by
 unfold nE
 rw[List.length_reverse]
 exact Nat.le_trans (List.dropWhile_sublist _).length_le (by rw[List.length_reverse];exact aX _)
theorem BJ (n d:Nat):Lim 256 (wr n d):=by
 unfold wr
 refine(Pj _).append ?_
 split
 ·exact Lim.nil
 exact Lim.cons (by omega) (fun c hc=>by have:=FX _ _ c hc;omega)
theorem Bv (z:Int) (d:Nat):Lim 256 (pt z d):=by
 unfold pt
 split
 ·exact Lim.cons (by omega) (BJ _ _)
 exact BJ _ _
theorem zN {p:Rat}{n:Int}{L:Nat}(hs:Sz L p) (hL:L+100<=1000000):(eI p (aK n)).length<=100000000:=by
 have h1:=Ud hs (Bu (n:=n)) hL
 have h2:=rW (Nat.le_trans (eH (Nat.div_le_self _ (10^aK n))) h1)
 have h3:=Bu (n:=n)
 have h4:=Hq (n:=(hal (p*((10^aK n:Nat):Rat))).natAbs) (d:=aK n)
 unfold eI pt
 split
 ·rw[List.length_cons,h4]
  split <;> omega
 rw[h4]
 split <;> omega
def Bb (p:Rat):List Nat:=if 0<=p/\p<=((1:Int):Rat)/\(p*((1000000:Int):Rat)).den=1 then gO 46 (nE p0 (eI (p*((100:Int):Rat)) (aK 4)))++[37]else []
theorem yA {p:Rat}(h:p<0\/((1:Int):Rat)<p\/¬(p*((1000000:Int):Rat)).den=1):Bb p=[]:=by
 unfold Bb
 rw[if_neg]
 rintro⟨h1,h2,h3⟩
 rcases h with h | h | h
 ·exact Rat.not_lt.2 h1 h
 ·exact Rat.not_lt.2 h2 h
 exact h h3
theorem JY {p:Rat}(h1:¬p<0) (h2:¬((1:Int):Rat)<p) (h3:(p*((1000000:Int):Rat)).den=1):Bb p=gO 46 (nE p0 (eI (p*((100:Int):Rat)) (aK 4)))++[37]:=if_pos ⟨Rat.not_lt.1 h1,Rat.not_lt.1 h2,h3⟩
theorem lO {a:Fr4}{p:Rat}{L:Nat}(ha:Qn a p) (hs:Sz L p) (hL:L+102<=1000000):aE true Tryz.prog 34 [] [qF a] (aP (.one (tv (.string (aN (Bb p)))))):=by
 refine bD Tryz.func34 Tryz.ntmps34 fun N9 w9 c0 h0=>?_
 have hm2:Sz (L+2) (p*((100:Int):Rat)):=lM hs (cU (by omega) (by omega))
 have hm6:Sz 68719476736 (p*((1000000:Int):Rat)):=(lM hs (cU (by omega) (by omega))).mono (by omega)
 have hWl:Lim 256 (eI (p*((100:Int):Rat)) (aK 4)):=Bv _ _
 have hWn:(eI (p*((100:Int):Rat)) (aK 4)).length<=100000000:=zN hm2 (by omega)
 refine sq (rl (bx 0 ?_));refine o1 ?_;refine nl (sq (rl (ld ?_)));refine bs 1 ?_
 refine WL.sub (wG (i:=5) (k:=1) (t:=27) (z:=4) (n:=1) (l:=[a].flatMap (Fr4.tr false)) 38 rfl rfl rfl rfl (.one .sl)) ?_
 refine ca (TG ha (hs.mono (by omega))) aA (bC rfl) _ ?_
 refine st ?_;refine nl (sq (sq ?_));refine bU [0] [] ?_
 refine aF 0 ?_;refine aG 1 rfl (Hc (Qn.of (p:=p) (hs.mono (M:=68719476736) (by omega)))) aA (aM rfl) _ ?_
 refine df 2 ?_;refine df 3 ?_;refine WD.split (t:=10) rfl rfl (fun h1=>?_) (fun h1=>?_)
 ·refine cF 4 ?_;refine cF 5 ?_;refine cF 6 ?_;refine cF 7 ?_;refine df 8 ?_;refine df 9 ?_;refine cF 10 ?_;refine cF 11 ?_;refine cF 12 ?_;refine cF 13 ?_;refine cF 14 ?_
  refine cF 15 ?_;refine df 16 ?_;refine aJ ?_;refine eU rfl (sq (rl (o1 ?_)));refine nl (rt ?_)
  exact fW (.inl rfl) rfl (congrArg aN (yA (.inl (qB.1 (Int.sign_neg_iff.1 h1)))).symm)
 refine aF 4 ?_;refine aG 5 rfl (kN (z:=1) (by omega) (by omega)) aA (bC rfl) _ ?_
 refine aG 6 rfl (Hg (Qn.of (p:=p) (hs.mono (M:=68719476736) (by omega))) (Qn.of (p:=((1:Int):Rat)) (cU (by omega) (by omega)))) aA (bN rfl rfl) _ ?_
 refine df 7 ?_;refine df 8 ?_;refine df 9 ?_;refine WD.split (t:=16) rfl rfl (fun h2=>?_) (fun h2=>?_)
 ·refine cF 10 ?_;refine cF 11 ?_;refine cF 12 ?_;refine cF 13 ?_;refine cF 14 ?_;refine cF 15 ?_;refine df 16 ?_;refine aJ ?_;refine eU rfl (sq (rl ?_))
  refine o1 ?_;refine nl (rt ?_)
  exact fW (.inl rfl) rfl (congrArg aN (yA (.inr (.inl (TH h2)))).symm)
 refine aF 10 ?_;refine aG 11 rfl (kN (z:=1000000) (by omega) (by omega)) aA (bC rfl) _ ?_
 refine aG 12 rfl (Hh (Qn.of (p:=p) (hs.mono (M:=68719476736) (by omega))) (Qn.of (p:=((1000000:Int):Rat)) (cU (by omega) (by omega)))) aA (bN rfl rfl) _ ?_
 refine dA (key:=2) 13 (by kernel_rfl) rfl rfl aR rfl ⟨rfl,trivial⟩ ?_
 refine wJ (i:=20) (k:=2) (t:=27) (t':=38) (z:=4) (n:=1) (l:=[Fr4.of (p*((1000000:Int):Rat))].flatMap (Fr4.tr false)) rfl rfl rfl rfl (.one .sl) (by rfl) (by rfl) ?_
 refine aG 14 rfl (Xu (p:=(p*((1000000:Int):Rat))) hm6) aA (bC rfl) _ ?_
 refine WD.splitb (t:=21) rfl (fun h3=>?_) (fun h3=>?_)
 ·refine df 15 ?_;refine df 16 ?_;refine aJ ?_;refine dY rfl (sk (sq ?_));refine bU [0] [2,4] ?_
  refine aF 0 ?_;refine aG 1 rfl (kN (z:=100) (by omega) (by omega)) aA (bC rfl) _ ?_
  refine aG 2 rfl (Hh (Qn.of (p:=p) (hs.mono (M:=68719476736) (by omega))) (Qn.of (p:=((100:Int):Rat)) (cU (by omega) (by omega)))) aA (bN rfl rfl) _ ?_
  refine aG 3 rfl (Xt (p:=p*((100:Int):Rat)) (n:=4) (Qn.of (p:=p*((100:Int):Rat)) (hm2.mono (M:=68719476736) (by omega))) hm2 (by omega)) aA ⟨nD rfl,a1 rfl,rfl⟩ _ ?_
  refine bM 4 ?_
  refine aJ ?_;refine sq (rl (o1 ?_))
  refine ca (FY hWl (by omega)) aA (cO rfl rfl) (.one (tv (.string (aN (nE p0 (eI (p*((100:Int):Rat)) (aK 4))))))) ?_
  refine ca (Na (Dm hWl) (Nat.le_trans Jp (by omega))) aA (cO rfl rfl) (.one (tv (.string (aN (gO 46 (nE p0 (eI (p*((100:Int):Rat)) (aK 4)))))))) ?_
  refine o1 ?_ (hC:=(by rw[aO];have h8:=Pd (c:=46) (l:=nE p0 (eI (p*((100:Int):Rat)) (aK 4)));have h9:=Jp (p:=p0) (l:=(eI (p*((100:Int):Rat)) (aK 4)));show _+1<=_;omega))
  refine lZ 31 (gO 46 (nE p0 (eI (p*((100:Int):Rat)) (aK 4)))++[37]) rfl (eK _ [37]) ?_;refine o1 ?_;refine nl ?_
  refine rt ?_
  exact fW (.inl rfl) rfl (congrArg aN (JY (fun h9=>h1 (Int.sign_neg_iff.2 (qB.2 h9))) (fun h9=>h2 (BK h9)) (of_decide_eq_true h3)).symm)
 refine df 15 ?_;refine df 16 ?_;refine aJ ?_;refine eU rfl (sq (rl (o1 ?_)));refine nl (rt ?_)
 exact fW (.inl rfl) rfl (congrArg aN (yA (.inr (.inr (of_decide_eq_false h3)))).symm)
end Go.Proofs.YtimiaildfkimfaaGreatDoor
