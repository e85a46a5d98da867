/- Part 14 of a proof: Ws to X3. -/
import Derived.Test.YtbbabfkgdnkehaaGreatM5
import Derived.Test.YtbbabfkgdnkehaaGreatM13
import Derived.Test.YtbbabfkgdnkehaaGreatM12
set_option maxRecDepth 100000
set_option linter.unusedVariables false
set_option linter.unusedSimpArgs false
namespace Go.Proofs.YtbbabfkgdnkehaaGreat
open Go Go.RowKit
section
variable {x:Cx}{g:Nat→FV}{ob:List (Option Ob)}{Q:Post}
theorem WP.sln {c:Code}{i t z n:Nat}{o:Bool}{l:List Tr}(hlk:lk x.n g (.tmp i)=.one (.t (.s o t z n l))) (k:n≤9223372036854775807→WP x c g ob Q):WP x c g ob Q:=fun ts W hR=>by
 obtain⟨cs,hR'⟩:=hR
 have h1:=hR'.lk (.tmp i)
 rw[hlk]at h1
 simp only[bC,bQ,AR,FR]at h1
 obtain⟨A,c9,_,h2,h3,_⟩:=h1
 exact k (by omega) ts W ⟨cs,hR'⟩
end
theorem qH {a:Fr4}(h:LimF a) (h3:a.len 3):a.ok:=by
 unfold Fr4.len at h3
 exact h.ok ⟨by omega,by omega⟩
def eC (fw:Int) (ys:List Yr):List Rl:=if eK fw ys=0 then(fB fw.toNat ys).rls ((fB fw.toNat ys).run ys.length) ys.length else []
def fY (fw:Int) (ys:List Yr):List Vn:=if eK fw ys=0 then(fB fw.toNat ys).vnE ys.length else []
def dL (fw:Int) (ys:List Yr):List Ur:=if eK fw ys=0 then(fB fw.toNat ys).run ys.length else []
theorem Ho {fw:Int}{ys:List Yr}(hf:jQ ys=true) (hy:∀y∈ys,pK y) (h:eK fw ys=0):(fB fw.toNat ys).Ok ys.length∧(∀t,t<ys.length→yrt (aP ys t)=(fB fw.toNat ys).yrq t)∧((fw.toNat:Nat):Int)=fw∧ys.length≤10∧∀t,t<ys.length→(aP ys t).m.length=(aP ys 0).m.length∧(aP ys t).b.length=(aP ys 0).m.length∧(∀a∈(aP ys t).b,a=Fr4.of a.q)∧(aP ys t).l=Fr4.of (aP ys t).l.q:=by
 obtain⟨h1,h2⟩:=yJ hf
 obtain⟨g1,g2,g3,g4⟩:=Xw (fun y hm=>⟨fun a ha=>qH ((hy y hm).1 a ha) ((h2 y hm).2.2.2 a ha),qH (hy y hm).2 (h2 y hm).2.2.1⟩) h
 have h10:ys.length≤10:=by omega
 refine⟨ER h10 (fun y hm=>(h2 y hm).1) (fun y hm=>(g4 y hm).2.1) (by omega) (fun y hm a ha=>⟨(g4 y hm).2.2.1 a ha,(h2 y hm).2.2.2 a ha⟩) (fun y hm=>⟨⟨(g4 y hm).2.2.2.1,(h2 y hm).2.2.1⟩,(g4 y hm).2.2.2.2⟩),fun t ht=>?_,by omega,h10,fun t ht=>?_⟩
 ·have h4:=g4 _ (iE ht)
  exact KM h4.1 h4.2.1 h4.2.2.1 h4.2.2.2.1
 have h4:=g4 _ (iE ht)
 exact⟨h4.1,h4.2.1,h4.2.2.1,h4.2.2.2.1⟩
theorem zZ {fw:Int}{ys:List Yr}(hf:jQ ys=true) (hy:∀y∈ys,pK y):aD false Tryz.prog 12 [] [.one (tv (.int .i64 fw)),.one (.t (kH ys))] (aN (.tup [.agg [.t (dB true (eC fw ys)),.t (cW true false (fY fw ys)),.t (cJ true false (dL fw ys))],.one (tv (.int .i64 (eK fw ys)))])):=by
 obtain⟨h1,h2⟩:=yJ hf
 have hb:∀y∈ys,(∀a∈y.b,a.ok)∧y.l.ok∧y.b.length≤1073741823:=fun y hm=>⟨fun a ha=>qH ((hy y hm).1 a ha) ((h2 y hm).2.2.2 a ha),qH (hy y hm).2 (h2 y hm).2.2.1,by have:=(h2 y hm).2.1;omega⟩
 by_cases h:eK fw ys=0
 ·obtain⟨g1,g2,g3,g4,_⟩:=Ho hf hy h
  have h9:=EV (R:=fB fw.toNat ys) hb (by rw[show(((fB fw.toNat ys).f:Nat):Int)=fw from g3];exact h) rfl g1 g2
  rw[show(((fB fw.toNat ys).f:Nat):Int)=fw from g3]at h9
  unfold eC fY dL
  rw[if_pos h,if_pos h,if_pos h,h]
  exact h9
 unfold eC fY dL
 rw[if_neg h,if_neg h,if_neg h]
 exact Xq hb (by omega) h
theorem lI {p q:Rat}(hp:Sz 68719476736 p) (hq:Sz 68719476736 q) (h:p=q):aD true Tryz.prog 19 [] [qF (.of p),qF (.of q)] (aN (.one (tv (.int .i64 0)))):=by
 have h1:=AZ (Qn.of hp) (Qn.of hq)
 subst h
 rwa[show(p-p).num.sign=0 by rw[Rat.sub_self];rfl]at h1
def oE (m:Bool) (b l:Int):Yr:=⟨[true,m],[Fr4.of (Rat.divInt 7 2),Fr4.of (Rat.divInt b 1)],Fr4.of (Rat.divInt l 1)⟩
theorem qI {a:Fr4}:aD true Tryz.prog 30 [] [qF a] (aN (.one (tv (.bool (eN a))))):=by
 refine cB Tryz.func30 rfl Tryz.ntmps30 rfl aA rfl fun N9 w9 c0 h0=>?_
 refine sq ?_;refine rl ?_;refine bx 0 ?_;refine o1 ?_;refine nl ?_;refine sq ?_;refine rl ?_;refine o1 ?_;refine o1 ?_;refine ld ?_;(iterate 3 refine o1 ?_)
 refine WL.split (t:=8) rfl (fun h1=>?_) (fun h1=>?_)
 ·refine o1 ?_;refine o1 ?_;refine ld ?_;(iterate 4 refine o1 ?_);refine nl ?_;refine rt ?_
  exact iJ (.inl rfl) rfl (Bool.eq_iff_iff.2 (by unfold eN;simp only[Bool.and_eq_true,decide_eq_true_eq,Bool.false_eq_true,false_iff];omega))
 (iterate 5 refine dM ?_);refine o1 ?_;refine o1 ?_;refine nl ?_;refine rt ?_
 exact iJ (.inl rfl) rfl (Bool.eq_iff_iff.2 (by unfold eN;simp only[Bool.and_eq_true,decide_eq_true_eq,Bool.false_eq_true,false_iff];omega))
theorem Yf {i n:Int}(hn:0<n) (hn2:n≤1000000):aD true Tryz.prog 18 [] [.one (tv (.int .i64 i)),.one (tv (.int .i64 n))] (aN (.one (tv (.int .i64 ((i.tmod n+n).tmod n))))):=by
 refine cB Tryz.func18 rfl Tryz.ntmps18 rfl aA rfl fun N w c0 h0=>?_
 have hp:=Mb (i:=i) hn
 refine sq ?_;refine rl ?_;refine o1 ?_;refine nl ?_;refine sq ?_;refine sq ?_;refine rl ?_;refine o1 ?_;refine o1 ?_;refine nl ?_;refine bN rfl (fun h1=>?_) (fun h1=>?_)
 ·exact absurd h1 (by omega)
 refine sk ?_;refine sq ?_;refine rl ?_;refine o1 ?_;refine o1 ?_;refine o1 ?_ (hC:=(by omega))
 (iterate 3 refine o1 ?_);refine o1 ?_ (hC:=(by omega))
 refine o1 ?_;refine nl ?_;refine rt ?_;exact en (.inl rfl) rfl (aX (cN _)) (by decide) (fun _=>trivial) rfl
theorem FF {ys:List Yr}:aD true Tryz.prog 8 [] [.one (.t (kH ys))] (aN (.one (tv (.bool (jQ ys))))):=by
 refine cB Tryz.func8 rfl Tryz.ntmps8 rfl aA rfl fun N9 w9 c0 h0=>?_
 refine WP.sln (i:=0) rfl fun hlen=>?_
 refine sq ?_;refine rl ?_;refine o1 ?_;refine nl ?_;refine sq ?_;refine sq ?_;refine rl ?_;(iterate 4 refine o1 ?_);refine WL.split (t:=8) rfl (fun h1=>?_) (fun h1=>?_)
 ·(iterate 5 refine o1 ?_);refine WL.split (t:=13) rfl (fun h2=>?_) (fun h2=>?_)
  ·(iterate 3 refine dM ?_);refine o1 ?_;refine nl ?_;refine iL rfl ?_;refine sq ?_;refine rl ?_;refine o1 ?_;refine nl ?_;refine rt ?_
   exact iJ (.inl rfl) rfl ((yI (by omega)).symm)
  (iterate 4 refine o1 ?_);refine nl ?_;refine bN rfl (fun h3=>?_) (fun h3=>?_)
  ·refine sq ?_;refine rl ?_;refine o1 ?_;refine nl ?_;refine rt ?_;exact iJ (.inl rfl) rfl ((yI (by omega)).symm)
  refine sk ?_;refine sq ?_;refine sq ?_;refine rl ?_;refine o1 ?_;refine nl ?_;refine bl ?_
  refine lp (γ:=Nat) (fun s=>cC [(0,.one (.t (kH ys))),(3,.one (tv (.int .i64 ((s:Nat):Int))))]) (fun s=>([]:List Ob).map some) (fun s=>s≤ys.length∧∀j,j<s→kJ (aP ys j)=true) (fun s=>ys.length-s) 0 ⟨Nat.zero_le _,fun j hj=>absurd hj (Nat.not_lt_zero j)⟩ (aU h0 [] _ _ (by decide) ⟨rfl,rfl,trivial⟩ rfl) ?_
  rintro i9 ⟨hi9,hA⟩;refine sq ?_;refine sq ?_;refine rl ?_;(iterate 4 refine o1 ?_);refine nl ?_;refine bN rfl (fun h4=>?_) (fun h4=>?_)
  ·refine sk ?_;refine sq ?_;refine bl ?_;refine sq ?_;refine sq ?_;refine rl ?_;(iterate 4 refine o1 ?_)
   refine eB ([gQ (aP ys (i9)).m]) (bV (f:=yrt) (z:=6) (o:=0) fP (eS (by omega)) (Nat.le_of_ble_eq_true rfl) rfl) ?_
   (iterate 3 refine o1 ?_);refine WL.split (t:=31) rfl (fun h5=>?_) (fun h5=>?_)
   ·(iterate 7 refine dM ?_);refine o1 ?_;refine o1 ?_;(iterate 7 refine dM ?_);refine o1 ?_;refine nl ?_;refine iL rfl ?_;refine sq ?_;refine rl ?_;refine o1 ?_;refine nl ?_
    refine rt ?_
    exact iJ (.inl rfl) rfl ((lH (k:=i9) (by omega) (mU (by first | exact .inl (by omega) | exact .inr (.inl (by omega)) | exact .inr (.inr (by simpa using h5))))).symm)
   (iterate 4 refine o1 ?_);refine eB ([sQ false (aP ys (i9)).b]) (bV (f:=yrt) (z:=6) (o:=1) fP (eS (by omega)) (Nat.le_of_ble_eq_true rfl) rfl) ?_
   (iterate 4 refine o1 ?_);refine WL.split (t:=40) rfl (fun h6=>?_) (fun h6=>?_)
   ·(iterate 7 refine dM ?_);refine o1 ?_;refine nl ?_;refine iL rfl ?_;refine sq ?_;refine rl ?_;refine o1 ?_;refine nl ?_;refine rt ?_
    exact iJ (.inl rfl) rfl ((lH (k:=i9) (by omega) (mU (by first | exact .inl (by omega) | exact .inr (.inl (by omega)) | exact .inr (.inr (by simpa using h6))))).symm)
   (iterate 4 refine o1 ?_);refine eB ((aP ys (i9)).l.tr false) (bV (f:=yrt) (z:=6) (o:=2) fP (eS (by omega)) (Nat.le_of_ble_eq_true rfl) rfl) ?_
   refine ca (qI (a:=(aP ys (i9)).l)) Pa ⟨aG rfl,rfl⟩ (.one (tv (.bool (eN (aP ys (i9)).l)))) ?_;refine WL.splitb (t:=46) rfl (fun h7=>?_) (fun h7=>?_)
   ·refine o1 ?_;refine o1 ?_;refine nl ?_;refine gE rfl ?_;refine sk ?_;refine sq ?_;have hm9:(aP ys (i9)).m.length≤6:=by omega
    have hb9:(aP ys (i9)).b.length≤6:=by omega
    have hl9:eN (aP ys (i9)).l=true:=by simpa using h7
    refine rl ?_;refine o1 ?_;refine nl ?_;refine bl ?_
    refine lp (γ:=Nat) (fun s=>cC [(0,.one (.t (kH ys))),(3,.one (tv (.int .i64 ((i9:Nat):Int)))),(4,.one (tv (.int .i64 ((s:Nat):Int))))]) (fun s=>([]:List Ob).map some) (fun s=>s≤(aP ys (i9)).b.length∧∀j,j<s→eN (dY (aP ys (i9)).b j)=true) (fun s=>(aP ys (i9)).b.length-s) 0 ⟨Nat.zero_le _,fun j hj=>absurd hj (Nat.not_lt_zero j)⟩ (aU h0 [] _ _ (by decide) ⟨rfl,rfl,rfl,trivial⟩ rfl) ?_
    rintro k9 ⟨hk9,hB⟩;refine sq ?_;refine sq ?_;refine rl ?_;(iterate 5 refine o1 ?_)
    refine eB ([sQ false (aP ys (i9)).b]) (bV (f:=yrt) (z:=6) (o:=1) fP (eS (by omega)) (Nat.le_of_ble_eq_true rfl) rfl) ?_
    refine o1 ?_;refine o1 ?_;refine nl ?_;refine bN rfl (fun h8=>?_) (fun h8=>?_)
    ·refine sk ?_;refine sq ?_;refine bl ?_;refine sq ?_;refine rl ?_;(iterate 4 refine o1 ?_)
     refine eB ([sQ false (aP ys (i9)).b]) (bV (f:=yrt) (z:=6) (o:=1) fP (eS (by omega)) (Nat.le_of_ble_eq_true rfl) rfl) ?_
     refine o1 ?_;refine o1 ?_;refine eB ((dY (aP ys (i9)).b (k9)).tr false) (rE (aP ys (i9)).b (k:=k9) (by omega)) ?_
     refine ca (qI (a:=(dY (aP ys (i9)).b (k9)))) Pa ⟨aG rfl,rfl⟩ (.one (tv (.bool (eN (dY (aP ys (i9)).b (k9)))))) ?_
     refine WL.splitb (t:=67) rfl (fun h9=>?_) (fun h9=>?_)
     ·refine o1 ?_;refine nl ?_;refine gE rfl ?_;refine sk ?_;refine rl ?_;refine o1 ?_;refine o1 ?_
      refine WL.cast (t:=58) (u':=.int .i64 ((k9+1:Nat):Int)) rfl (aC (by omega)) ?_
      refine o1 ?_;refine nl ?_
      exact⟨k9+1,by omega,⟨by omega,Ez (f:=fun j=>eN (dY (aP ys (i9)).b j)) hB (by simpa using h9)⟩,aU h0 [] _ _ (by decide) ⟨rfl,rfl,rfl,trivial⟩ rfl⟩
     refine o1 ?_;refine nl ?_;refine iL rfl ?_;refine sq ?_;refine rl ?_;refine o1 ?_;refine nl ?_;refine rt ?_
     exact iJ (.inl rfl) rfl ((lH (k:=i9) (by omega) (Lq (k:=k9) (by omega) (by simpa using h9))).symm)
    refine ex ?_;refine rl ?_;refine o1 ?_;refine o1 ?_;refine WL.cast (t:=23) (u':=.int .i64 ((i9+1:Nat):Int)) rfl (aC (by omega)) ?_
    refine o1 ?_;refine nl ?_
    exact⟨i9+1,by omega,⟨by omega,Ez (f:=fun j=>kJ (aP ys j)) hA (Hh hm9 hb9 hl9 (k:=k9) (by omega) hB)⟩,aU h0 [] _ _ (by decide) ⟨rfl,rfl,trivial⟩ rfl⟩
   refine o1 ?_;refine o1 ?_;refine nl ?_;refine iL rfl ?_;refine sq ?_;refine rl ?_;refine o1 ?_;refine nl ?_;refine rt ?_
   exact iJ (.inl rfl) rfl ((lH (k:=i9) (by omega) (mU (by first | exact .inl (by omega) | exact .inr (.inl (by omega)) | exact .inr (.inr (by simpa using h7))))).symm)
  refine ex ?_;refine sq ?_;refine rl ?_;refine o1 ?_;refine nl ?_;refine rt ?_;exact iJ (.inl rfl) rfl ((yH (k:=i9) (by omega) hA (by omega)).symm)
 (iterate 3 refine dM ?_);(iterate 6 refine o1 ?_);refine nl ?_;refine bN rfl (fun h10=>?_) (fun h10=>?_)
 ·refine sq ?_;refine rl ?_;refine o1 ?_;refine nl ?_;refine rt ?_;exact iJ (.inl rfl) rfl ((yI (by omega)).symm)
 refine sk ?_;refine sq ?_;refine sq ?_;refine rl ?_;refine o1 ?_;refine nl ?_;refine bl ?_
 refine lp (γ:=Nat) (fun s=>cC [(0,.one (.t (kH ys))),(3,.one (tv (.int .i64 ((s:Nat):Int))))]) (fun s=>([]:List Ob).map some) (fun s=>s≤ys.length∧∀j,j<s→kJ (aP ys j)=true) (fun s=>ys.length-s) 0 ⟨Nat.zero_le _,fun j hj=>absurd hj (Nat.not_lt_zero j)⟩ (aU h0 [] _ _ (by decide) ⟨rfl,rfl,trivial⟩ rfl) ?_
 rintro i9 ⟨hi9,hA⟩;refine sq ?_;refine sq ?_;refine rl ?_;(iterate 4 refine o1 ?_);refine nl ?_;refine bN rfl (fun h11=>?_) (fun h11=>?_)
 ·refine sk ?_;refine sq ?_;refine bl ?_;refine sq ?_;refine sq ?_;refine rl ?_;(iterate 4 refine o1 ?_)
  refine eB ([gQ (aP ys (i9)).m]) (bV (f:=yrt) (z:=6) (o:=0) fP (eS (by omega)) (Nat.le_of_ble_eq_true rfl) rfl) ?_
  (iterate 3 refine o1 ?_);refine WL.split (t:=31) rfl (fun h12=>?_) (fun h12=>?_)
  ·(iterate 7 refine dM ?_);refine o1 ?_;refine o1 ?_;(iterate 7 refine dM ?_);refine o1 ?_;refine nl ?_;refine iL rfl ?_;refine sq ?_;refine rl ?_;refine o1 ?_;refine nl ?_
   refine rt ?_
   exact iJ (.inl rfl) rfl ((lH (k:=i9) (by omega) (mU (by first | exact .inl (by omega) | exact .inr (.inl (by omega)) | exact .inr (.inr (by simpa using h12))))).symm)
  (iterate 4 refine o1 ?_);refine eB ([sQ false (aP ys (i9)).b]) (bV (f:=yrt) (z:=6) (o:=1) fP (eS (by omega)) (Nat.le_of_ble_eq_true rfl) rfl) ?_
  (iterate 4 refine o1 ?_);refine WL.split (t:=40) rfl (fun h13=>?_) (fun h13=>?_)
  ·(iterate 7 refine dM ?_);refine o1 ?_;refine nl ?_;refine iL rfl ?_;refine sq ?_;refine rl ?_;refine o1 ?_;refine nl ?_;refine rt ?_
   exact iJ (.inl rfl) rfl ((lH (k:=i9) (by omega) (mU (by first | exact .inl (by omega) | exact .inr (.inl (by omega)) | exact .inr (.inr (by simpa using h13))))).symm)
  (iterate 4 refine o1 ?_);refine eB ((aP ys (i9)).l.tr false) (bV (f:=yrt) (z:=6) (o:=2) fP (eS (by omega)) (Nat.le_of_ble_eq_true rfl) rfl) ?_
  refine ca (qI (a:=(aP ys (i9)).l)) Pa ⟨aG rfl,rfl⟩ (.one (tv (.bool (eN (aP ys (i9)).l)))) ?_;refine WL.splitb (t:=46) rfl (fun h14=>?_) (fun h14=>?_)
  ·refine o1 ?_;refine o1 ?_;refine nl ?_;refine gE rfl ?_;refine sk ?_;refine sq ?_;have hm9:(aP ys (i9)).m.length≤6:=by omega
   have hb9:(aP ys (i9)).b.length≤6:=by omega
   have hl9:eN (aP ys (i9)).l=true:=by simpa using h14
   refine rl ?_;refine o1 ?_;refine nl ?_;refine bl ?_
   refine lp (γ:=Nat) (fun s=>cC [(0,.one (.t (kH ys))),(3,.one (tv (.int .i64 ((i9:Nat):Int)))),(4,.one (tv (.int .i64 ((s:Nat):Int))))]) (fun s=>([]:List Ob).map some) (fun s=>s≤(aP ys (i9)).b.length∧∀j,j<s→eN (dY (aP ys (i9)).b j)=true) (fun s=>(aP ys (i9)).b.length-s) 0 ⟨Nat.zero_le _,fun j hj=>absurd hj (Nat.not_lt_zero j)⟩ (aU h0 [] _ _ (by decide) ⟨rfl,rfl,rfl,trivial⟩ rfl) ?_
   rintro k9 ⟨hk9,hB⟩;refine sq ?_;refine sq ?_;refine rl ?_;(iterate 5 refine o1 ?_)
   refine eB ([sQ false (aP ys (i9)).b]) (bV (f:=yrt) (z:=6) (o:=1) fP (eS (by omega)) (Nat.le_of_ble_eq_true rfl) rfl) ?_
   refine o1 ?_;refine o1 ?_;refine nl ?_;refine bN rfl (fun h15=>?_) (fun h15=>?_)
   ·refine sk ?_;refine sq ?_;refine bl ?_;refine sq ?_;refine rl ?_;(iterate 4 refine o1 ?_)
    refine eB ([sQ false (aP ys (i9)).b]) (bV (f:=yrt) (z:=6) (o:=1) fP (eS (by omega)) (Nat.le_of_ble_eq_true rfl) rfl) ?_
    refine o1 ?_;refine o1 ?_;refine eB ((dY (aP ys (i9)).b (k9)).tr false) (rE (aP ys (i9)).b (k:=k9) (by omega)) ?_
    refine ca (qI (a:=(dY (aP ys (i9)).b (k9)))) Pa ⟨aG rfl,rfl⟩ (.one (tv (.bool (eN (dY (aP ys (i9)).b (k9)))))) ?_
    refine WL.splitb (t:=67) rfl (fun h16=>?_) (fun h16=>?_)
    ·refine o1 ?_;refine nl ?_;refine gE rfl ?_;refine sk ?_;refine rl ?_;refine o1 ?_;refine o1 ?_
     refine WL.cast (t:=58) (u':=.int .i64 ((k9+1:Nat):Int)) rfl (aC (by omega)) ?_
     refine o1 ?_;refine nl ?_
     exact⟨k9+1,by omega,⟨by omega,Ez (f:=fun j=>eN (dY (aP ys (i9)).b j)) hB (by simpa using h16)⟩,aU h0 [] _ _ (by decide) ⟨rfl,rfl,rfl,trivial⟩ rfl⟩
    refine o1 ?_;refine nl ?_;refine iL rfl ?_;refine sq ?_;refine rl ?_;refine o1 ?_;refine nl ?_;refine rt ?_
    exact iJ (.inl rfl) rfl ((lH (k:=i9) (by omega) (Lq (k:=k9) (by omega) (by simpa using h16))).symm)
   refine ex ?_;refine rl ?_;refine o1 ?_;refine o1 ?_;refine WL.cast (t:=23) (u':=.int .i64 ((i9+1:Nat):Int)) rfl (aC (by omega)) ?_
   refine o1 ?_;refine nl ?_
   exact⟨i9+1,by omega,⟨by omega,Ez (f:=fun j=>kJ (aP ys j)) hA (Hh hm9 hb9 hl9 (k:=k9) (by omega) hB)⟩,aU h0 [] _ _ (by decide) ⟨rfl,rfl,trivial⟩ rfl⟩
  refine o1 ?_;refine o1 ?_;refine nl ?_;refine iL rfl ?_;refine sq ?_;refine rl ?_;refine o1 ?_;refine nl ?_;refine rt ?_
  exact iJ (.inl rfl) rfl ((lH (k:=i9) (by omega) (mU (by first | exact .inl (by omega) | exact .inr (.inl (by omega)) | exact .inr (.inr (by simpa using h14))))).symm)
 refine ex ?_;refine sq ?_;refine rl ?_;refine o1 ?_;refine nl ?_;refine rt ?_;exact iJ (.inl rfl) rfl ((yH (k:=i9) (by omega) hA (by omega)).symm)
theorem oK {n d:Int}(h1:-9223372036854775808≤n) (h2:n≤9223372036854775807) (h3:-9223372036854775808≤d) (h4:d≤9223372036854775807):aD false Tryz.prog 29 [] [.one (tv (.int .i64 n)),.one (tv (.int .i64 d))] (aN (qF (.of (Rat.divInt n d)))):=by
 refine cB Tryz.func29 rfl Tryz.ntmps29 rfl aA rfl fun N9 w9 c0 h0=>?_
 have hs:=tC h1 h2 h3 h4
 have hl:(Fr4.of (Rat.divInt n d)).len 1099511627776:=⟨Nat.le_trans hs.1 (by omega),Nat.le_trans hs.2 (by omega)⟩
 refine sq ?_;refine rl ?_;refine al 0 ?_;refine nl ?_;refine sq ?_;refine rl ?_;refine o1 ?_;refine o1 ?_
 refine ca (OV h1 h2 h3 h4) RW ⟨a1 rfl,a1 rfl,rfl⟩ (.tup [qF (.of (Rat.divInt n d)),.one (tv (.int .i64 (if d=0 then 20 else 0)))]) ?_;(iterate 3 refine o1 ?_);refine al 1 ?_;refine st ?_
 refine o1 ?_;refine nl ?_;refine sq ?_;refine rl ?_;refine ld ?_;refine ca (DT (a:=.of (Rat.divInt n d)) hl) RX ⟨aG rfl,rfl⟩ (qF (.of (Rat.divInt n d))) ?_;refine st ?_;refine nl ?_
 refine rt ?_;exact en (.inl rfl) rfl (aX (.agg (.cons (.id rfl) (.cons (.id rfl) (.cons (.id rfl) (.cons (.id rfl) .nil)))))) (by decide) (fun h=>by cases h) (rfl)
theorem kX {m:Bool}{b l:Int}(h1:-9223372036854775808≤b) (h2:b≤9223372036854775807) (h3:-9223372036854775808≤l) (h4:l≤9223372036854775807):aD false Tryz.prog 28 [] [.one (tv (.bool m)),.one (tv (.int .i64 b)),.one (tv (.int .i64 l))] (aN (.agg ((yrt (oE m b l)).map .t))):=by
 refine cB Tryz.func28 rfl Tryz.ntmps28 rfl aA rfl fun N9 w9 c0 h0=>?_
 refine sq ?_;refine rl ?_;refine al 0 ?_;refine nl ?_;refine sq ?_;refine rl ?_;refine o1 ?_;refine bs 1 ?_
 refine WL.sub (fz (i:=8) (k:=1) (t:=4) (z:=1) (n:=2) (l:=bT [true,m]) rfl rfl rfl rfl) ?_
 refine ca (oK (n:=7) (d:=2) (by omega) (by omega) (by omega) (by omega)) tD ⟨a1 rfl,a1 rfl,rfl⟩ (qF (.of (Rat.divInt 7 2))) ?_
 refine o1 ?_;refine ca (oK (n:=b) (d:=1) (by omega) (by omega) (by omega) (by omega)) tD ⟨a1 rfl,a1 rfl,rfl⟩ (qF (.of (Rat.divInt b 1))) ?_
 refine bs 2 ?_;refine WL.sub (TY (i:=12) (k:=2) (t:=48) (z:=4) (n:=2) (l:=([Fr4.of (Rat.divInt 7 2),Fr4.of (Rat.divInt b 1)]).flatMap (Fr4.tr false)) 52 rfl rfl rfl rfl (.one .sl)) ?_
 refine o1 ?_;refine ca (oK (n:=l) (d:=1) (by omega) (by omega) (by omega) (by omega)) tD ⟨a1 rfl,a1 rfl,rfl⟩ (qF (.of (Rat.divInt l 1))) ?_
 refine o1 ?_;refine st ?_;refine nl ?_;refine rt ?_
 exact en (.inl rfl) rfl (aX (.agg (.cons (.id rfl) (.cons (.id rfl) (.cons (.id rfl) (.cons (.id rfl) (.cons (.id rfl) (.cons (.id rfl) .nil)))))))) (by decide) (fun h=>by cases h) rfl
def pL:List Yr:=[oE false (-10) 0,oE true 4 100,oE true 8 100]
def xP:List Yr:=[oE false (-10) 0,oE true 4 3,oE false (-2) 9,oE true 8 100]
def pM:List Ur:=[⟨0,1,1,4⟩,⟨0,1,2,6⟩]
def uH:List Ur:=[⟨0,1,1,3⟩,⟨2,1,3,2⟩]
def Mc:List Vn:=[⟨0,1,10,3,7,0⟩,⟨2,1,2,2,0,0⟩]
theorem Md {m:Bool}{b l:Int}:pK (oE m b l):=⟨fun a ha=>by
 have h:∀q:Rat,LimF (Fr4.of q):=fun q=>⟨aL (by omega) _,aL (by omega) _⟩
 rcases List.mem_cons.1 ha with rfl | ha
 ·exact h _
 rw[List.mem_singleton]at ha
 rw[ha]
 exact h _,⟨aL (by omega) _,aL (by omega) _⟩⟩
theorem FG:∀y∈pL,pK y:=fun y hy=>by
 simp only[pL,List.mem_cons,List.not_mem_nil,or_false]at hy
 rcases hy with rfl | rfl | rfl <;> exact Md
theorem FH:∀y∈xP,pK y:=fun y hy=>by
 simp only[xP,List.mem_cons,List.not_mem_nil,or_false]at hy
 rcases hy with rfl | rfl | rfl | rfl <;> exact Md
theorem KV:aD false Tryz.prog 12 [] [.one (tv (.int .i64 2)),.one (.t (kH pL))] (aN (.tup [.agg [.t (dB true (eC 2 pL)),.t (cW true false (fY 2 pL)),.t (cJ true false pM)],.one (tv (.int .i64 0))])):=by
 have h:=zZ (fw:=2) (ys:=pL) (by kernel_rfl) FG
 rw[show eK 2 pL=0 by kernel_rfl,show dL 2 pL=pM by kernel_rfl]at h
 exact h
theorem KW:aD false Tryz.prog 12 [] [.one (tv (.int .i64 2)),.one (.t (kH xP))] (aN (.tup [.agg [.t (dB true (eC 2 xP)),.t (cW true false Mc),.t (cJ true false uH)],.one (tv (.int .i64 0))])):=by
 have h:=zZ (fw:=2) (ys:=xP) (by kernel_rfl) FH
 rw[show eK 2 xP=0 by kernel_rfl,show dL 2 xP=uH by kernel_rfl,show fY 2 xP=Mc by kernel_rfl]at h
 exact h
theorem Aa:∀u∈pM,Sz 300 u.n:=fun u hu=>by
 simp only[pM,List.mem_cons,List.not_mem_nil,or_false]at hu
 rcases hu with rfl | rfl <;> (unfold Sz;decide+kernel)
theorem Tc:∀u∈uH,Sz 300 u.n:=fun u hu=>by
 simp only[uH,List.mem_cons,List.not_mem_nil,or_false]at hu
 rcases hu with rfl | rfl <;> (unfold Sz;decide+kernel)
theorem qJ:aD true Tryz.prog 9 [] [] (aN (.one (tv (.bool true)))):=by
 refine cB Tryz.func9 rfl Tryz.ntmps9 rfl aA rfl fun N9 w9 c0 h0=>?_
 have hu1:pM.length=2:=rfl
 have hu2:uH.length=2:=rfl
 have hv2:Mc.length=2:=rfl
 refine sq ?_;refine rl ?_;refine o1 ?_;refine nl ?_;refine sq ?_;refine rl ?_;refine o1 ?_;refine nl ?_;refine sq ?_;refine rl ?_
 refine ca (kX (m:=false) (b:=(-10)) (l:=0) (by omega) (by omega) (by omega) (by omega)) yK ⟨a1 rfl,a1 rfl,a1 rfl,rfl⟩ (.agg ((yrt (oE false (-10) 0)).map .t)) ?_
 refine ca (kX (m:=true) (b:=4) (l:=100) (by omega) (by omega) (by omega) (by omega)) yK ⟨a1 rfl,a1 rfl,a1 rfl,rfl⟩ (.agg ((yrt (oE true 4 100)).map .t)) ?_
 refine ca (kX (m:=true) (b:=8) (l:=100) (by omega) (by omega) (by omega) (by omega)) yK ⟨a1 rfl,a1 rfl,a1 rfl,rfl⟩ (.agg ((yrt (oE true 8 100)).map .t)) ?_
 refine bs 0 ?_;refine WL.sub (fz (i:=10) (k:=0) (t:=67) (z:=6) (n:=3) (l:=pL.flatMap yrt) rfl rfl rfl rfl) ?_
 refine ca (KV) Pb ⟨a1 rfl,a1 rfl,rfl⟩ (.tup [.agg [.t (dB false (eC 2 pL)),.t (cW false false (fY 2 pL)),.t (cJ false false pM)],.one (tv (.int .i64 0))]) ?_
 (iterate 3 refine o1 ?_);refine al 1 ?_;refine st ?_;refine o1 ?_;refine nl ?_;refine sq ?_;refine rl ?_
 refine ca (kX (m:=false) (b:=(-10)) (l:=0) (by omega) (by omega) (by omega) (by omega)) yK ⟨a1 rfl,a1 rfl,a1 rfl,rfl⟩ (.agg ((yrt (oE false (-10) 0)).map .t)) ?_
 refine ca (kX (m:=true) (b:=4) (l:=3) (by omega) (by omega) (by omega) (by omega)) yK ⟨a1 rfl,a1 rfl,a1 rfl,rfl⟩ (.agg ((yrt (oE true 4 3)).map .t)) ?_
 refine ca (kX (m:=false) (b:=(-2)) (l:=9) (by omega) (by omega) (by omega) (by omega)) yK ⟨a1 rfl,a1 rfl,a1 rfl,rfl⟩ (.agg ((yrt (oE false (-2) 9)).map .t)) ?_
 refine ca (kX (m:=true) (b:=8) (l:=100) (by omega) (by omega) (by omega) (by omega)) yK ⟨a1 rfl,a1 rfl,a1 rfl,rfl⟩ (.agg ((yrt (oE true 8 100)).map .t)) ?_
 refine bs 2 ?_;refine WL.sub (fz (i:=19) (k:=2) (t:=67) (z:=6) (n:=4) (l:=xP.flatMap yrt) rfl rfl rfl rfl) ?_
 refine ca (KW) Pb ⟨a1 rfl,a1 rfl,rfl⟩ (.tup [.agg [.t (dB false (eC 2 xP)),.t (cW false false Mc),.t (cJ false false uH)],.one (tv (.int .i64 0))]) ?_;(iterate 3 refine o1 ?_)
 refine al 3 ?_;refine st ?_;refine o1 ?_;refine nl ?_;refine sq ?_;refine sq ?_;refine rl ?_;refine o1 ?_;refine o1 ?_
 refine WL.cast (t:=24) (u':=.bool false) rfl (congrArg Value.bool (by kernel_rfl)) ?_
 (iterate 3 refine o1 ?_);refine WL.cast (t:=27) (u':=.bool false) rfl (congrArg Value.bool (by kernel_rfl)) ?_
 (iterate 3 refine o1 ?_);refine ld ?_;refine o1 ?_;refine o1 ?_;refine WL.cast (t:=33) (u':=.bool false) rfl (congrArg Value.bool (by kernel_rfl)) ?_
 (iterate 3 refine o1 ?_);refine ld ?_;refine o1 ?_;refine o1 ?_;refine WL.cast (t:=39) (u':=.bool false) rfl (congrArg Value.bool (by kernel_rfl)) ?_
 (iterate 3 refine o1 ?_);refine ld ?_;refine o1 ?_;refine o1 ?_;refine WL.cast (t:=45) (u':=.bool false) rfl (congrArg Value.bool (by kernel_rfl)) ?_
 refine o1 ?_;refine nl ?_;refine gE rfl ?_;refine sk ?_;refine sq ?_;refine rd [1,3] (fun i=>[77].contains i) mixed ?_
 refine dv 0 ?_;refine aO 1 ?_;refine dv 2 ?_;refine dv 3 ?_
 refine iB 4 ((Fr4.of (dI pM (0)).n).tr false) (bV (f:=(iN false)) (z:=7) (o:=3) (fE false) (fF (by omega)) (Nat.le_of_ble_eq_true rfl) rfl) ?_
 refine dv 5 ?_
 refine uF 6 4 [.one (tv (.int .i64 ((4:Nat):Int))),.one (tv (.int .i64 ((1:Nat):Int)))] rfl rfl (oK (n:=4) (d:=1) (by omega) (by omega) (by omega) (by omega)) tD ⟨rfl,rfl,rfl⟩ ?_
 refine bD 7 rfl (lI (p:=(dI pM (0)).n) (q:=(Rat.divInt 4 1)) ((Aa _ (jM (by omega))).mono (M:=68719476736) (by omega)) ((tC (n:=4) (d:=1) (by omega) (by omega) (by omega) (by omega)).mono (M:=68719476736) (by omega)) (by kernel_rfl)) sP ⟨aG rfl,aG rfl,rfl⟩ (.one (tv (.int .i64 0))) ?_
 refine df 8 ?_;refine WD.cast (t:=55) (u':=.bool true) rfl (congrArg Value.bool (by kernel_rfl)) ?_
 refine df 9 ?_;refine dv 10 ?_;refine aO 11 ?_;refine dv 12 ?_;refine dv 13 ?_
 refine iB 14 ((Fr4.of (dI pM (1)).n).tr false) (bV (f:=(iN false)) (z:=7) (o:=3) (fE false) (fF (by omega)) (Nat.le_of_ble_eq_true rfl) rfl) ?_
 refine dv 15 ?_
 refine uF 16 4 [.one (tv (.int .i64 ((6:Nat):Int))),.one (tv (.int .i64 ((1:Nat):Int)))] rfl rfl (oK (n:=6) (d:=1) (by omega) (by omega) (by omega) (by omega)) tD ⟨rfl,rfl,rfl⟩ ?_
 refine bD 17 rfl (lI (p:=(dI pM (1)).n) (q:=(Rat.divInt 6 1)) ((Aa _ (jM (by omega))).mono (M:=68719476736) (by omega)) ((tC (n:=6) (d:=1) (by omega) (by omega) (by omega) (by omega)).mono (M:=68719476736) (by omega)) (by kernel_rfl)) sP ⟨aG rfl,aG rfl,rfl⟩ (.one (tv (.int .i64 0))) ?_
 refine df 18 ?_;refine WD.cast (t:=65) (u':=.bool true) rfl (congrArg Value.bool (by kernel_rfl)) ?_
 refine df 19 ?_;refine df 20 ?_;refine dv 21 ?_;refine aO 22 ?_;refine dv 23 ?_;refine dv 24 ?_
 refine iB 25 ((Fr4.of (dI uH (0)).n).tr false) (bV (f:=(iN false)) (z:=7) (o:=3) (fE false) (fF (by omega)) (Nat.le_of_ble_eq_true rfl) rfl) ?_
 refine dv 26 ?_
 refine uF 27 4 [.one (tv (.int .i64 ((3:Nat):Int))),.one (tv (.int .i64 ((1:Nat):Int)))] rfl rfl (oK (n:=3) (d:=1) (by omega) (by omega) (by omega) (by omega)) tD ⟨rfl,rfl,rfl⟩ ?_
 refine bD 28 rfl (lI (p:=(dI uH (0)).n) (q:=(Rat.divInt 3 1)) ((Tc _ (jM (by omega))).mono (M:=68719476736) (by omega)) ((tC (n:=3) (d:=1) (by omega) (by omega) (by omega) (by omega)).mono (M:=68719476736) (by omega)) (by kernel_rfl)) sP ⟨aG rfl,aG rfl,rfl⟩ (.one (tv (.int .i64 0))) ?_
 refine df 29 ?_;refine WD.cast (t:=76) (u':=.bool true) rfl (congrArg Value.bool (by kernel_rfl)) ?_
 refine df 30 ?_;refine df 31 ?_;refine dv 32 ?_;refine aO 33 ?_;refine dv 34 ?_;refine dv 35 ?_
 refine iB 36 ([.v (.int .i64 (dI uH (0)).y)]) (bV (f:=(iN false)) (z:=7) (o:=2) (fE false) (fF (by omega)) (Nat.le_of_ble_eq_true rfl) rfl) ?_
 refine dv 37 ?_;refine WD.cast (t:=84) (u':=.bool true) rfl (congrArg Value.bool (by kernel_rfl)) ?_
 refine df 38 ?_;refine df 39 ?_;refine dv 40 ?_;refine aO 41 ?_;refine dv 42 ?_;refine dv 43 ?_
 refine iB 44 ((Fr4.of (cS Mc (0)).x).tr false) (bV (f:=(eF false)) (z:=18) (o:=10) (eG false) (qB (by omega)) (Nat.le_of_ble_eq_true rfl) rfl) ?_
 refine dv 45 ?_
 refine uF 46 4 [.one (tv (.int .i64 ((7:Nat):Int))),.one (tv (.int .i64 ((1:Nat):Int)))] rfl rfl (oK (n:=7) (d:=1) (by omega) (by omega) (by omega) (by omega)) tD ⟨rfl,rfl,rfl⟩ ?_
 refine bD 47 rfl (lI (p:=(cS Mc (0)).x) (q:=(Rat.divInt 7 1)) (by unfold Sz;decide+kernel) ((tC (n:=7) (d:=1) (by omega) (by omega) (by omega) (by omega)).mono (M:=68719476736) (by omega)) (by kernel_rfl)) sP ⟨aG rfl,aG rfl,rfl⟩ (.one (tv (.int .i64 0))) ?_
 refine df 48 ?_;refine WD.cast (t:=95) (u':=.bool true) rfl (congrArg Value.bool (by kernel_rfl)) ?_
 refine df 49 ?_;refine df 50 ?_;refine dv 51 ?_;refine aO 52 ?_;refine dv 53 ?_;refine dv 54 ?_
 refine iB 55 ((Fr4.of (dI uH (1)).n).tr false) (bV (f:=(iN false)) (z:=7) (o:=3) (fE false) (fF (by omega)) (Nat.le_of_ble_eq_true rfl) rfl) ?_
 refine dv 56 ?_
 refine uF 57 4 [.one (tv (.int .i64 ((2:Nat):Int))),.one (tv (.int .i64 ((1:Nat):Int)))] rfl rfl (oK (n:=2) (d:=1) (by omega) (by omega) (by omega) (by omega)) tD ⟨rfl,rfl,rfl⟩ ?_
 refine bD 58 rfl (lI (p:=(dI uH (1)).n) (q:=(Rat.divInt 2 1)) ((Tc _ (jM (by omega))).mono (M:=68719476736) (by omega)) ((tC (n:=2) (d:=1) (by omega) (by omega) (by omega) (by omega)).mono (M:=68719476736) (by omega)) (by kernel_rfl)) sP ⟨aG rfl,aG rfl,rfl⟩ (.one (tv (.int .i64 0))) ?_
 refine df 59 ?_;refine WD.cast (t:=106) (u':=.bool true) rfl (congrArg Value.bool (by kernel_rfl)) ?_
 refine df 60 ?_;refine df 61 ?_;refine dv 62 ?_;refine aO 63 ?_;refine dv 64 ?_;refine dv 65 ?_
 refine iB 66 ([.v (.int .i64 (dI uH (1)).y)]) (bV (f:=(iN false)) (z:=7) (o:=2) (fE false) (fF (by omega)) (Nat.le_of_ble_eq_true rfl) rfl) ?_
 refine dv 67 ?_;refine WD.cast (t:=114) (u':=.bool true) rfl (congrArg Value.bool (by kernel_rfl)) ?_
 refine df 68 ?_;refine df 69 ?_;refine aO 70 ?_;refine dv 72 ?_
 refine bD 71 rfl (RS (us:=pM) (ent:=1) (rw9:=eC 2 pL) (vs:=fY 2 pL) (fun k=>EZ (B:=300) Aa (by show 2+2*301≤_;omega)) (fun u hu=>(Aa u hu).mono (by omega)) (by show 2≤_;omega)) RY ⟨aG (l:=[dB false (eC 2 pL),cW false false (fY 2 pL),cJ false false pM]) rfl,a1 rfl,rfl⟩ (qF (.of (mJ pM 1))) ?_
 refine uF 73 4 [.one (tv (.int .i64 ((10:Nat):Int))),.one (tv (.int .i64 ((1:Nat):Int)))] rfl rfl (oK (n:=10) (d:=1) (by omega) (by omega) (by omega) (by omega)) tD ⟨rfl,rfl,rfl⟩ ?_
 refine bD 74 rfl (lI (p:=(mJ pM 1)) (q:=(Rat.divInt 10 1)) (show Sz 68719476736 (mJ pM 1) from by unfold Sz;decide+kernel) ((tC (n:=10) (d:=1) (by omega) (by omega) (by omega) (by omega)).mono (M:=68719476736) (by omega)) (by kernel_rfl)) sP ⟨aG rfl,aG rfl,rfl⟩ (.one (tv (.int .i64 0))) ?_
 refine df 75 ?_;refine WD.cast (t:=122) (u':=.bool true) rfl (congrArg Value.bool (by kernel_rfl)) ?_
 refine df 76 ?_;refine eT 77 (by kernel_rfl) rfl rfl aA rfl (by trivial) ?_ (fun h=>by first | rfl | cases h)
 refine aQ ?_;refine rt ?_;exact iJ (.inl rfl) rfl (rfl)
theorem Yg {ys:List Yr}{p:Yr→Bool}{k:Nat}(h:ys.any p=false):(ys.take k).any p=false:=by
 rw[List.any_eq_false]at h⊢
 exact fun y hy=>h y (List.mem_of_mem_take hy)
theorem Td {fw:Int}{ys:List Yr}{k:Nat}(h:eK fw ys=0):eK fw (ys.take k)=0:=by
 unfold eK at h⊢
 split at h
 ·cases h
 rename_i h1
 split at h
 ·cases h
 rename_i h2
 simp only[Bool.or_eq_true,decide_eq_true_eq,not_or,Bool.not_eq_true]at h1
 have h3:(ys.take k).any (fun y=> !gR y (aP (ys.take k) 0).m.length)=false:=by
  by_cases h0:0<k
  ·rw[kC h0]
   exact Yg h1.2.2
  rw[show k=0 by omega]
  rfl
 rw[decide_eq_false h1.1,decide_eq_false h1.2.1,h3,if_neg (by simp),if_neg (by rw[List.length_take];omega)]
structure More (fw:Int) (ys:List Yr) (k:Nat):Prop where
 e:eK fw (ys.take k)=0
 r:(eC fw (ys.take k)).length=k
 rx:(eC fw ys).length=ys.length
 u:(dL fw (ys.take k)).length≤(dL fw ys).length
 v:(fY fw (ys.take k)).length≤(fY fw ys).length
 side:∀i,i<(dL fw ys).length→((dI (dL fw ys) i).y<(k:Int)↔i<(dL fw (ys.take k)).length)
 same:∀i,i<(dL fw (ys.take k)).length→dI (dL fw (ys.take k)) i=dI (dL fw ys) i
 row:∀i,i<k→(jY (eC fw ys) i).u=(jY (eC fw (ys.take k)) i).u
 us:∀u∈dL fw ys,Sz 300 u.n
 ul:(dL fw ys).length≤1000
 rs:∀i,i<ys.length→Sz 300 (jY (eC fw ys) i).u
theorem FI {fw:Int}{ys:List Yr}{k:Nat}(hf:jQ ys=true) (hy:∀y∈ys,pK y) (h:eK fw ys=0) (hk:k≤ys.length):More fw ys k:=by
 obtain⟨hOk,_,hfw,h10,_⟩:=Ho hf hy h
 have hE:=Td (k:=k) h
 have hl:(ys.take k).length=k:=by rw[List.length_take];omega
 have e1:dL fw ys=(fB fw.toNat ys).run ys.length:=if_pos h
 have e2:dL fw (ys.take k)=(fB fw.toNat ys).run k:=by
  unfold dL
  rw[if_pos hE,hl,Hk]
 have r1:eC fw ys=(fB fw.toNat ys).rls ((fB fw.toNat ys).run ys.length) ys.length:=if_pos h
 have r2:eC fw (ys.take k)=(fB fw.toNat (ys.take k)).rls ((fB fw.toNat ys).run k) k:=by
  unfold eC
  rw[if_pos hE,hl,Hk]
 have v1:(fY fw ys).length=((fB fw.toNat ys).vl ys.length).length:=by unfold fY;rw[if_pos h,Ls]
 have v2:(fY fw (ys.take k)).length=((fB fw.toNat ys).vl k).length:=by unfold fY;rw[if_pos hE,Ls,hl,EY]
 obtain⟨W,hW,hW2⟩:=Lr (R:=fB fw.toNat ys) hk
 have hsame:∀i,i<((fB fw.toNat ys).run k).length→dI ((fB fw.toNat ys).run k) i=dI ((fB fw.toNat ys).run ys.length) i:=fun i hi=>by
  unfold dI
  rw[hW,List.getD_eq_getElem?_getD,List.getD_eq_getElem?_getD,List.getElem?_append_left hi]
 have hrow:∀i,i<ys.length→(jY (eC fw ys) i).u=eW ((fB fw.toNat ys).run ys.length) i:=fun i hi=>by rw[r1,Ss hi];rfl
 refine⟨hE,by rw[r2,wI],by rw[r1,wI],by rw[e1,e2,hW,List.length_append];omega,by rw[v1,v2];exact KQ hk,?_,by rw[e1,e2];exact hsame,fun i hi=>?_,by rw[e1];exact Lu hOk (Nat.le_refl _),by rw[e1];exact Hd hOk (Nat.le_refl _),fun i hi=>by rw[hrow i hi];exact(hOk.run (Nat.le_refl _)).sz_yIn hOk hi⟩
 ·rw[e1,e2]
  intro i hi
  constructor
  ·intro h1
   by_cases h2:i<((fB fw.toNat ys).run k).length
   ·exact h2
   have h3:dI ((fB fw.toNat ys).run ys.length) i∈W:=by
    unfold dI
    rw[hW]at hi⊢
    rw[List.length_append]at hi
    rw[List.getD_eq_getElem?_getD,List.getElem?_append_right (by omega),List.getElem?_eq_getElem (by omega)]
    exact List.getElem_mem _
   have:=hW2 _ h3
   omega
  intro h2
  have h3:=jM h2
  obtain⟨_,_,t,_,_,h4,_,h5,_⟩:=rM h3
  rw[←hsame i h2]
  omega
 rw[hrow i (by omega),r2,Ss hi,EX hi hk]
 rfl
theorem Yh {ys:List Yr}{k:Nat}(hk:k≤ys.length):(.s false 67 6 k ((ys.flatMap yrt).take (k*6)):Tr)=kH (ys.take k):=by
 have hl:(ys.take k).length=k:=by rw[List.length_take];omega
 have h1:(ys.flatMap yrt).take (k*6)=(ys.take k).flatMap yrt:=by
  conv=>lhs;rw[←List.take_append_drop k ys,List.flatMap_append]
  exact List.take_left' (by rw[cG fP,hl])
 unfold kH
 rw[h1,hl]
set_option maxHeartbeats 4000000 in
theorem Pc {fw n:Int}{ys:List Yr}(hy:∀y∈ys,pK y):aD true Tryz.prog 4 [] [.one (tv (.int .i64 fw)),.one (.t (kH ys)),.one (tv (.int .i64 n))] (aN (.one (tv (.bool true)))):=by
 refine cB Tryz.func4 rfl Tryz.ntmps4 rfl aA rfl fun N9 w9 c0 h0=>?_
 refine WP.sln (i:=1) rfl fun hlen=>?_
 refine sq ?_;refine rl ?_;refine o1 ?_;refine nl ?_;refine sq ?_;refine sq ?_;refine rl ?_;refine o1 ?_;refine ca (FF (ys:=ys)) UD ⟨a1 rfl,rfl⟩ (.one (tv (.bool (jQ ys)))) ?_
 refine WL.splitb (t:=16) rfl (fun h1=>?_) (fun h1=>?_)
 ·(iterate 6 refine o1 ?_);refine nl ?_;refine bN rfl (fun h2=>?_) (fun h2=>?_)
  ·refine sq ?_;refine rl ?_;refine ca (qJ) BL rfl (.one (tv (.bool true))) ?_;refine o1 ?_;refine nl ?_;refine rt ?_;exact iJ (.inl rfl) rfl (rfl)
  refine sk ?_;refine sq ?_;have hf:jQ ys=true:=by simpa using h1
  have hl10:ys.length≤10:=by omega
  obtain⟨k9,hkv,hk9⟩:∃k:Nat,((n.tmod ((ys.length+1:Nat):Int)+((ys.length+1:Nat):Int)).tmod ((ys.length+1:Nat):Int))=(k:Int)∧k≤ys.length:=by
   have hp1:=Int.tmod_lt_of_pos (n.tmod ((ys.length+1:Nat):Int)+((ys.length+1:Nat):Int)) (show(0:Int)<((ys.length+1:Nat):Int) by omega)
   have hp2:=Mb (i:=n) (n:=((ys.length+1:Nat):Int)) (by omega)
   have hp3:=Int.tmod_nonneg ((ys.length+1:Nat):Int) (show 0≤n.tmod ((ys.length+1:Nat):Int)+((ys.length+1:Nat):Int) by omega)
   exact⟨((n.tmod ((ys.length+1:Nat):Int)+((ys.length+1:Nat):Int)).tmod ((ys.length+1:Nat):Int)).toNat,by omega,by omega⟩
  obtain⟨hq1,hq2⟩:=yJ hf
  have hl9:(ys.take k9).length=k9:=by rw[List.length_take];omega
  have hf2:jQ (ys.take k9)=true:=yH (k:=k9) (by omega) (fun j hj=>by rw[kC hj];unfold jQ at hf;rw[Bool.and_eq_true]at hf;exact List.all_eq_true.1 hf.2 _ (iE (by omega))) (by omega)
  have hy2:∀y∈(ys.take k9),pK y:=fun y hm=>hy y (List.mem_of_mem_take hm)
  refine rl ?_;(iterate 4 refine o1 ?_);refine WL.cast (t:=27) (u':=.int .i64 ((ys.length+1:Nat):Int)) rfl (aC (by omega)) ?_
  refine ca (Yf (i:=n) (n:=((ys.length+1:Nat):Int)) (by omega) (by omega)) RZ ⟨a1 rfl,a1 rfl,rfl⟩ (.one (tv (.int .i64 ((n.tmod ((ys.length+1:Nat):Int)+((ys.length+1:Nat):Int)).tmod ((ys.length+1:Nat):Int))))) ?_
  refine WL.cast (t:=28) (u':=.int .i64 ((k9:Nat):Int)) rfl (aC hkv) ?_;refine o1 ?_;refine nl ?_;refine sq ?_;refine rl ?_;refine o1 ?_;refine o1 ?_
  refine ca (zZ (fw:=fw) (ys:=ys) hf hy) Pb ⟨a1 rfl,a1 rfl,rfl⟩ (.tup [.agg [.t (dB false (eC fw ys)),.t (cW false false (fY fw ys)),.t (cJ false false (dL fw ys))],.one (tv (.int .i64 (eK fw ys)))]) ?_
  (iterate 3 refine o1 ?_);refine al 0 ?_;refine st ?_;refine o1 ?_;refine nl ?_;refine sq ?_;refine rl ?_;(iterate 4 refine o1 ?_)
  refine ca (zZ (fw:=fw) (ys:=(ys.take k9)) hf2 hy2) Pb ⟨a1 rfl,a1 (congrArg (fun t:Tr=>FV.one (.t t)) (Yh hk9)),rfl⟩ (.tup [.agg [.t (dB false (eC fw (ys.take k9))),.t (cW false false (fY fw (ys.take k9))),.t (cJ false false (dL fw (ys.take k9)))],.one (tv (.int .i64 (eK fw (ys.take k9))))]) ?_
  (iterate 3 refine o1 ?_);refine al 1 ?_;refine st ?_;refine o1 ?_;refine nl ?_;refine sq ?_;refine sq ?_;refine rl ?_;refine o1 ?_;refine o1 ?_;refine nl ?_
  refine bN rfl (fun h3=>?_) (fun h3=>?_)
  ·refine sq ?_;refine rl ?_;refine ca (qJ) BL rfl (.one (tv (.bool true))) ?_;refine o1 ?_;refine nl ?_;refine rt ?_;exact iJ (.inl rfl) rfl (rfl)
  refine sk ?_;refine sq ?_;refine sq ?_;have hE:eK fw ys=0:=by omega
  have hM:=FI hf hy hE hk9
  have hM1:=hM.e;have hM2:=hM.r;have hM3:=hM.rx;have hM4:=hM.u;have hM5:=hM.v;have hM6:=hM.ul
  have hsu:∀i,i<(dL fw ys).length→Sz 68719476736 (dI (dL fw ys) i).n:=fun i hi=>(hM.us _ (jM hi)).mono (by omega)
  have hsr:∀i,i<ys.length→Sz 68719476736 (jY (eC fw ys) i).u:=fun i hi=>(hM.rs i hi).mono (by omega)
  refine rl ?_;(iterate 3 refine o1 ?_);refine WL.split (t:=48) rfl (fun h4=>?_) (fun h4=>?_)
  ·exact absurd h4 (by omega)
  refine o1 ?_;refine ld ?_;(iterate 5 refine o1 ?_);refine WL.split (t:=55) rfl (fun h5=>?_) (fun h5=>?_)
  ·exact absurd h5 (by omega)
  refine o1 ?_;refine ld ?_;refine o1 ?_;refine o1 ?_;refine ld ?_;(iterate 4 refine o1 ?_);refine WL.split (t:=64) rfl (fun h6=>?_) (fun h6=>?_)
  ·exact absurd h6 (by omega)
  refine o1 ?_;refine ld ?_;refine o1 ?_;refine o1 ?_;refine ld ?_;(iterate 3 refine o1 ?_);refine nl ?_;refine bN rfl (fun h7=>?_) (fun h7=>?_)
  ·exact absurd h7 (by omega)
  refine sk ?_;refine sq ?_;refine sq ?_;refine rl ?_;refine o1 ?_;refine nl ?_;refine bl ?_
  refine lp (γ:=Nat) (fun s=>cC [(7,.one (tv (.int .i64 ((k9:Nat):Int)))),(8,.one (.pt 0 0)),(10,.one (.pt 1 0)),(12,.one (tv (.int .i64 ((s:Nat):Int))))]) (fun s=>[(⟨39,0,[.t (dB false (eC fw ys)),.t (cW false false (fY fw ys)),.t (cJ false false (dL fw ys))]⟩:Ob),⟨39,0,[.t (dB false (eC fw (ys.take k9))),.t (cW false false (fY fw (ys.take k9))),.t (cJ false false (dL fw (ys.take k9)))]⟩].map some) (fun s=>s≤(dL fw ys).length) (fun s=>(dL fw ys).length-s) 0 (Nat.zero_le _) (aU h0 [0,1] _ _ (by decide) ⟨rfl,rfl,rfl,rfl,trivial⟩ ⟨oe rfl rfl,oe rfl rfl,rfl⟩) ?_
  rintro i9 hi9;refine sq ?_;refine sq ?_;refine rl ?_;refine o1 ?_;refine o1 ?_;refine ld ?_;refine o1 ?_;refine o1 ?_;refine nl ?_;refine bN rfl (fun h8=>?_) (fun h8=>?_)
  ·refine sk ?_;refine sq ?_;refine bl ?_;refine sq ?_;refine rl ?_;refine o1 ?_;refine ld ?_;refine o1 ?_;refine o1 ?_
   refine eB ((iN false) (dI (dL fw ys) (i9))) (bV (f:=(iN false)) (z:=7) (o:=0) (fE false) (fF (by omega)) (Nat.le_of_ble_eq_true rfl) rfl) ?_
   refine al 2 ?_;refine st ?_;refine nl ?_;refine sq ?_;refine rd [0,1,2] (fun i=>[].contains i) mixed ?_
   refine dv 0 ?_;refine aO 1 ?_;refine dv 2 ?_;refine dv 3 ?_;refine dv 4 ?_;refine dv 5 ?_;refine aO 6 ?_;refine dv 7 ?_;refine dv 8 ?_;refine dv 9 ?_
   refine WD.cast (t:=94) (u':=.bool false) rfl (congrArg Value.bool (by have h8:=hM.side i9 (by omega);simp[h8])) ?_
   refine dv 10 ?_;refine dv 11 ?_;refine dv 12 ?_;refine aO 13 ?_;refine dv 14 ?_;refine dv 15 ?_;refine dv 16 ?_
   refine WD.split (t:=101) rfl rfl (fun h9=>?_) (fun h9=>?_)
   ·refine dv 17 ?_;refine aO 18 ?_;refine dv 19 ?_;refine dv 20 ?_;refine dv 21 ?_
    refine iB 22 ([.v (.int .i64 (dI (dL fw (ys.take k9)) (i9)).v)]) (bV (f:=(iN false)) (z:=7) (o:=0) (fE false) (fF (by omega)) (Nat.le_of_ble_eq_true rfl) rfl) ?_
    refine dv 23 ?_;refine aO 24 ?_;refine dv 25 ?_;refine dv 26 ?_;refine WD.split (t:=111) rfl rfl (fun h10=>?_) (fun h10=>?_)
    ·exact absurd (by rw[hM.same i9 (by omega)]) h10
    refine dv 27 ?_;refine aO 28 ?_;refine dv 29 ?_;refine dv 30 ?_;refine dv 31 ?_
    refine iB 32 ([.v (.int .i64 (dI (dL fw (ys.take k9)) (i9)).e)]) (bV (f:=(iN false)) (z:=7) (o:=1) (fE false) (fF (by omega)) (Nat.le_of_ble_eq_true rfl) rfl) ?_
    refine dv 33 ?_;refine aO 34 ?_;refine dv 35 ?_;refine dv 36 ?_;refine dv 37 ?_;refine WD.split (t:=122) rfl rfl (fun h11=>?_) (fun h11=>?_)
    ·exact absurd (by rw[hM.same i9 (by omega)]) h11
    refine dv 38 ?_;refine aO 39 ?_;refine dv 40 ?_;refine dv 41 ?_;refine dv 42 ?_
    refine iB 43 ([.v (.int .i64 (dI (dL fw (ys.take k9)) (i9)).y)]) (bV (f:=(iN false)) (z:=7) (o:=2) (fE false) (fF (by omega)) (Nat.le_of_ble_eq_true rfl) rfl) ?_
    refine dv 44 ?_;refine aO 45 ?_;refine dv 46 ?_;refine dv 47 ?_;refine dv 48 ?_;refine WD.split (t:=133) rfl rfl (fun h12=>?_) (fun h12=>?_)
    ·exact absurd (by rw[hM.same i9 (by omega)]) h12
    refine dv 49 ?_;refine aO 50 ?_;refine dv 51 ?_;refine dv 52 ?_;refine dv 53 ?_
    refine iB 54 ((Fr4.of (dI (dL fw (ys.take k9)) (i9)).n).tr false) (bV (f:=(iN false)) (z:=7) (o:=3) (fE false) (fF (by omega)) (Nat.le_of_ble_eq_true rfl) rfl) ?_
    refine dv 55 ?_;refine aO 56 ?_
    refine bD 57 rfl (lI (p:=(dI (dL fw (ys.take k9)) (i9)).n) (q:=(dI (dL fw ys) (i9)).n) (by rw[hM.same i9 (by omega)];exact hsu _ (by omega)) (hsu _ (by omega)) (by rw[hM.same i9 (by omega)])) sP ⟨aG rfl,aG rfl,rfl⟩ (.one (tv (.int .i64 0))) ?_
    refine df 58 ?_;refine WD.cast (t:=143) (u':=.bool false) rfl (congrArg Value.bool rfl) ?_;refine df 59 ?_;refine df 60 ?_;refine df 61 ?_;refine aQ ?_
    refine gE rfl ?_;refine sk ?_;refine rl ?_;refine o1 ?_;refine o1 ?_;refine WL.cast (t:=79) (u':=.int .i64 ((i9+1:Nat):Int)) rfl (aC (by omega)) ?_
    refine o1 ?_;refine nl ?_;exact⟨i9+1,by omega,by omega,aU h0 [0,1] _ _ (by decide) ⟨rfl,rfl,rfl,rfl,trivial⟩ ⟨oe rfl rfl,oe rfl rfl,rfl⟩⟩
   refine dK 17 ?_;refine dK 18 ?_;refine dK 19 ?_;refine dK 20 ?_;refine dK 21 ?_;refine dK 22 ?_;refine dK 23 ?_;refine dK 24 ?_;refine dK 25 ?_;refine dK 26 ?_
   refine dK 27 ?_;refine dK 28 ?_;refine dK 29 ?_;refine dK 30 ?_;refine dK 31 ?_;refine dK 32 ?_;refine dK 33 ?_;refine dK 34 ?_;refine dK 35 ?_;refine dK 36 ?_
   refine dK 37 ?_;refine dK 38 ?_;refine dK 39 ?_;refine dK 40 ?_;refine dK 41 ?_;refine dK 42 ?_;refine dK 43 ?_;refine dK 44 ?_;refine dK 45 ?_;refine dK 46 ?_
   refine dK 47 ?_;refine dK 48 ?_;refine dK 49 ?_;refine dK 50 ?_;refine dK 51 ?_;refine dK 52 ?_;refine dK 53 ?_;refine dK 54 ?_;refine dK 55 ?_;refine dK 56 ?_
   refine dK 57 ?_;refine dK 58 ?_;refine dK 59 ?_;refine dv 60 ?_;refine dv 61 ?_;refine aQ ?_;refine gE rfl ?_;refine sk ?_;refine rl ?_;refine o1 ?_;refine o1 ?_
   refine WL.cast (t:=79) (u':=.int .i64 ((i9+1:Nat):Int)) rfl (aC (by omega)) ?_
   refine o1 ?_;refine nl ?_;exact⟨i9+1,by omega,by omega,aU h0 [0,1] _ _ (by decide) ⟨rfl,rfl,rfl,rfl,trivial⟩ ⟨oe rfl rfl,oe rfl rfl,rfl⟩⟩
  refine ex ?_;refine sq ?_;refine sq ?_;refine rl ?_;refine o1 ?_;refine nl ?_;refine bl ?_
  refine lp (γ:=Nat) (fun s=>cC [(7,.one (tv (.int .i64 ((k9:Nat):Int)))),(8,.one (.pt 0 0)),(10,.one (.pt 1 0)),(14,.one (tv (.int .i64 ((s:Nat):Int))))]) (fun s=>[(⟨39,0,[.t (dB false (eC fw ys)),.t (cW false false (fY fw ys)),.t (cJ false false (dL fw ys))]⟩:Ob),⟨39,0,[.t (dB false (eC fw (ys.take k9))),.t (cW false false (fY fw (ys.take k9))),.t (cJ false false (dL fw (ys.take k9)))]⟩].map some) (fun s=>s≤k9) (fun s=>k9-s) 0 (Nat.zero_le _) (aU h0 [0,1] _ _ (by decide) ⟨rfl,rfl,rfl,rfl,trivial⟩ ⟨oe rfl rfl,oe rfl rfl,rfl⟩) ?_
  rintro i8 hi8;refine sq ?_;refine sq ?_;refine rl ?_;(iterate 3 refine o1 ?_);refine nl ?_;refine bN rfl (fun h13=>?_) (fun h13=>?_)
  ·refine sk ?_;refine sq ?_;refine bl ?_;refine sq ?_;refine rd [0,1] (fun i=>[].contains i) mixed ?_
   refine dv 0 ?_;refine aO 1 ?_;refine dv 2 ?_;refine dv 3 ?_;refine dv 4 ?_
   refine iB 5 ((Fr4.of (jY (eC fw ys) (i8)).u).tr false) (bV (f:=nI) (z:=5) (o:=0) mN (De (by omega)) (Nat.le_of_ble_eq_true rfl) rfl) ?_
   refine dv 6 ?_;refine aO 7 ?_;refine dv 8 ?_;refine dv 9 ?_;refine dv 10 ?_
   refine iB 11 ((Fr4.of (jY (eC fw (ys.take k9)) (i8)).u).tr false) (bV (f:=nI) (z:=5) (o:=0) mN (De (by omega)) (Nat.le_of_ble_eq_true rfl) rfl) ?_
   refine bD 12 rfl (lI (p:=(jY (eC fw ys) (i8)).u) (q:=(jY (eC fw (ys.take k9)) (i8)).u) (hsr _ (by omega)) (by rw[←hM.row i8 (by omega)];exact hsr _ (by omega)) (hM.row i8 (by omega))) sP ⟨aG rfl,aG rfl,rfl⟩ (.one (tv (.int .i64 0))) ?_
   refine df 13 ?_;refine WD.cast (t:=165) (u':=.bool false) rfl (congrArg Value.bool rfl) ?_;refine aQ ?_;refine gE rfl ?_;refine sk ?_;refine rl ?_;refine o1 ?_
   refine o1 ?_;refine WL.cast (t:=151) (u':=.int .i64 ((i8+1:Nat):Int)) rfl (aC (by omega)) ?_
   refine o1 ?_;refine nl ?_;exact⟨i8+1,by omega,by omega,aU h0 [0,1] _ _ (by decide) ⟨rfl,rfl,rfl,rfl,trivial⟩ ⟨oe rfl rfl,oe rfl rfl,rfl⟩⟩
  refine ex ?_;refine sq ?_;refine rl ?_;refine ca (qJ) BL rfl (.one (tv (.bool true))) ?_;refine o1 ?_;refine nl ?_;refine rt ?_;exact iJ (.inl rfl) rfl (rfl)
 refine o1 ?_;refine o1 ?_;(iterate 3 refine dM ?_);refine o1 ?_;refine nl ?_;refine iL rfl ?_;refine sq ?_;refine rl ?_;refine ca (qJ) BL rfl (.one (tv (.bool true))) ?_
 refine o1 ?_;refine nl ?_;refine rt ?_;exact iJ (.inl rfl) rfl (rfl)
end Go.Proofs.YtbbabfkgdnkehaaGreat
