/- Part 14 of a proof: X1 to Y4. -/
import Derived.Test.YtbbabfkgdnkehaaGreatM13
import Derived.Test.YtbbabfkgdnkehaaGreatM12
import Derived.Test.YtbbabfkgdnkehaaGreatM11
import Derived.Test.YtbbabfkgdnkehaaGreatM8
import Derived.Test.YtbbabfkgdnkehaaGreatM5
import Derived.Test.YtbbabfkgdnkehaaGreatM9
set_option maxRecDepth 100000
set_option linter.unusedVariables false
set_option linter.unusedSimpArgs false
namespace Go.Proofs.YtbbabfkgdnkehaaGreat
open Go Go.RowKit
theorem nI {a:Fr4}(h:LimF a) (h3:a.len 3):a.ok:=by
 unfold Fr4.len at h3
 exact h.ok ⟨by omega,by omega⟩
def fI (fw:Int) (ys:List Yr):List Rl:=if eZ fw ys=0 then(nZ fw.toNat ys).rls ((nZ fw.toNat ys).run ys.length) ys.length else []
def gN (fw:Int) (ys:List Yr):List Vn:=if eZ fw ys=0 then(nZ fw.toNat ys).vnE ys.length else []
def gB (fw:Int) (ys:List Yr):List Ur:=if eZ fw ys=0 then(nZ fw.toNat ys).run ys.length else []
theorem Ct {fw:Int}{ys:List Yr}(hf:lZ ys=true) (hy:∀y∈ys,sC y) (h:eZ fw ys=0):(nZ fw.toNat ys).Ok ys.length∧(∀t,t<ys.length→eG (aK ys t)=(nZ fw.toNat ys).yrq t)∧((fw.toNat:Nat):Int)=fw∧ys.length≤10∧∀t,t<ys.length→(aK ys t).m.length=(aK ys 0).m.length∧(aK ys t).b.length=(aK ys 0).m.length∧(∀a∈(aK ys t).b,a=Fr4.of a.q)∧(aK ys t).l=Fr4.of (aK ys t).l.q:=by
 obtain⟨h1,h2⟩:=wD hf
 obtain⟨g1,g2,g3,g4⟩:=EO (fun y hm=>⟨fun a ha=>nI ((hy y hm).1 a ha) ((h2 y hm).2.2.2 a ha),nI (hy y hm).2 (h2 y hm).2.2.1⟩) h
 have h10:ys.length≤10:=by omega
 refine⟨KR h10 (fun y hm=>(h2 y hm).1) (fun y hm=>(g4 y hm).2.1) (by omega) (fun y hm a ha=>⟨(g4 y hm).2.2.1 a ha,(h2 y hm).2.2.2 a ha⟩) (fun y hm=>⟨⟨(g4 y hm).2.2.2.1,(h2 y hm).2.2.1⟩,(g4 y hm).2.2.2.2⟩),fun t ht=>?_,by omega,h10,fun t ht=>?_⟩
 ·have h4:=g4 _ (fR ht)
  exact OZ h4.1 h4.2.1 h4.2.2.1 h4.2.2.2.1
 have h4:=g4 _ (fR ht)
 exact⟨h4.1,h4.2.1,h4.2.2.1,h4.2.2.2.1⟩
theorem rL {p q:Rat}(hp:Sz 68719476736 p) (hq:Sz 68719476736 q) (h:p=q):aG true Tryz.prog 19 [] [qF (.of p),qF (.of q)] (aU (.one (tv (.int .i64 0)))):=by
 have h1:=IA (Qn.of hp) (Qn.of hq)
 subst h
 rwa[show(p-p).num.sign=0 by rw[Rat.sub_self];rfl]at h1
def qW (m:Bool) (b l:Int):Yr:=⟨[true,m],[Fr4.of (Rat.divInt 7 2),Fr4.of (Rat.divInt b 1)],Fr4.of (Rat.divInt l 1)⟩
theorem tN {a:Fr4}:aG true Tryz.prog 30 [] [qF a] (aU (.one (tv (.bool (fS a))))):=by
 refine cC Tryz.func30 rfl Tryz.ntmps30 rfl aB rfl fun N9 w9 c0 h0=>?_
 refine sq (rl (bx 0 ?_));refine o1 ?_;refine nl (sq (rl (o1 ?_)));refine o1 ?_;refine ld ?_;(iterate 3 refine o1 ?_)
 refine WL.split (t:=8) rfl (fun h1=>?_) (fun h1=>?_)
 ·refine o1 ?_;refine o1 ?_;refine ld ?_;(iterate 4 refine o1 ?_);refine nl (rt ?_)
  exact jQ (.inl rfl) rfl (Bool.eq_iff_iff.2 (by unfold fS;simp only[Bool.and_eq_true,decide_eq_true_eq,Bool.false_eq_true,false_iff];omega))
 (iterate 5 refine dL ?_);refine o1 ?_;refine o1 ?_;refine nl (rt ?_)
 exact jQ (.inl rfl) rfl (Bool.eq_iff_iff.2 (by unfold fS;simp only[Bool.and_eq_true,decide_eq_true_eq,Bool.false_eq_true,false_iff];omega))
theorem LX {ys:List Yr}:aG true Tryz.prog 8 [] [.one (.t (kY ys))] (aU (.one (tv (.bool (lZ ys))))):=by
 refine cC Tryz.func8 rfl Tryz.ntmps8 rfl aB rfl fun N9 w9 c0 h0=>?_
 refine WP.sln (i:=0) rfl fun hlen=>?_
 refine sq (rl (o1 ?_));refine nl (sq (sq (rl ?_)));(iterate 4 refine o1 ?_);refine WL.split (t:=8) rfl (fun h1=>?_) (fun h1=>?_)
 ·(iterate 5 refine o1 ?_);refine WL.split (t:=13) rfl (fun h2=>?_) (fun h2=>?_)
  ·(iterate 3 refine dL ?_);refine o1 ?_;refine nl (jM rfl (sq (rl (o1 ?_))));refine nl (rt ?_)
   exact jQ (.inl rfl) rfl ((Ck (by omega)).symm)
  (iterate 4 refine o1 ?_);refine nl ?_;refine bL rfl (fun h3=>?_) (fun h3=>?_)
  ·refine sq (rl (o1 ?_));refine nl (rt ?_);exact jQ (.inl rfl) rfl ((Ck (by omega)).symm)
  refine sk (sq (sq (rl (o1 ?_))));refine nl (bl ?_)
  refine lp (γ:=Nat) (fun s=>bS [(0,.one (.t (kY ys))),(3,.one (tv (.int .i64 ((s:Nat):Int))))]) (fun s=>([]:List Ob).map some) (fun s=>s≤ys.length∧∀j,j<s→lY (aK ys j)=true) (fun s=>ys.length-s) 0 ⟨Nat.zero_le _,fun j hj=>absurd hj (Nat.not_lt_zero j)⟩ (aW h0 [] rfl) ?_
  rintro i9 ⟨hi9,hA⟩;refine sq (sq (rl ?_));(iterate 4 refine o1 ?_);refine nl ?_;refine bL rfl (fun h4=>?_) (fun h4=>?_)
  ·refine sk (sq (bl (sq (sq (rl ?_)))));(iterate 4 refine o1 ?_)
   refine eE ([gU (aK ys (i9)).m]) (bH (f:=eG) (z:=6) (o:=0) dS (cY (by omega)) (bN rfl) rfl) ?_
   (iterate 3 refine o1 ?_);refine WL.split (t:=31) rfl (fun h5=>?_) (fun h5=>?_)
   ·(iterate 7 refine dL ?_);refine o1 ?_;refine o1 ?_;(iterate 7 refine dL ?_);refine o1 ?_;refine nl (jM rfl (sq (rl (o1 ?_))));refine nl ?_
    refine rt ?_
    exact jQ (.inl rfl) rfl ((nE (k:=i9) (by omega) (pE (by first | exact .inl (by omega) | exact .inr (.inl (by omega)) | exact .inr (.inr (by simpa using h5))))).symm)
   (iterate 4 refine o1 ?_);refine eE ([sQ false (aK ys (i9)).b]) (bH (f:=eG) (z:=6) (o:=1) dS (cY (by omega)) (bN rfl) rfl) ?_
   (iterate 4 refine o1 ?_);refine WL.split (t:=40) rfl (fun h6=>?_) (fun h6=>?_)
   ·(iterate 7 refine dL ?_);refine o1 ?_;refine nl (jM rfl (sq (rl (o1 ?_))));refine nl (rt ?_)
    exact jQ (.inl rfl) rfl ((nE (k:=i9) (by omega) (pE (by first | exact .inl (by omega) | exact .inr (.inl (by omega)) | exact .inr (.inr (by simpa using h6))))).symm)
   (iterate 4 refine o1 ?_);refine eE ((aK ys (i9)).l.tr false) (bH (f:=eG) (z:=6) (o:=2) dS (cY (by omega)) (bN rfl) rfl) ?_
   refine ca (tN (a:=(aK ys (i9)).l)) Vf ⟨aD rfl,rfl⟩ (.one (tv (.bool (fS (aK ys (i9)).l)))) ?_;refine WL.splitb (t:=46) rfl (fun h7=>?_) (fun h7=>?_)
   ·refine o1 ?_;refine o1 ?_;refine nl (gD rfl (sk (sq ?_)));have hm9:(aK ys (i9)).m.length≤6:=by omega
    have hb9:(aK ys (i9)).b.length≤6:=by omega
    have hl9:fS (aK ys (i9)).l=true:=by simpa using h7
    refine rl (o1 ?_);refine nl (bl ?_)
    refine lp (γ:=Nat) (fun s=>bS [(0,.one (.t (kY ys))),(3,.one (tv (.int .i64 ((i9:Nat):Int)))),(4,.one (tv (.int .i64 ((s:Nat):Int))))]) (fun s=>([]:List Ob).map some) (fun s=>s≤(aK ys (i9)).b.length∧∀j,j<s→fS (cZ (aK ys (i9)).b j)=true) (fun s=>(aK ys (i9)).b.length-s) 0 ⟨Nat.zero_le _,fun j hj=>absurd hj (Nat.not_lt_zero j)⟩ (aW h0 [] rfl) ?_
    rintro k9 ⟨hk9,hB⟩;refine sq (sq (rl ?_));(iterate 5 refine o1 ?_)
    refine eE ([sQ false (aK ys (i9)).b]) (bH (f:=eG) (z:=6) (o:=1) dS (cY (by omega)) (bN rfl) rfl) ?_
    refine o1 ?_;refine o1 ?_;refine nl ?_;refine bL rfl (fun h8=>?_) (fun h8=>?_)
    ·refine sk (sq (bl (sq (rl ?_))));(iterate 4 refine o1 ?_)
     refine eE ([sQ false (aK ys (i9)).b]) (bH (f:=eG) (z:=6) (o:=1) dS (cY (by omega)) (bN rfl) rfl) ?_
     refine o1 ?_;refine o1 ?_;refine eE ((cZ (aK ys (i9)).b (k9)).tr false) (iE (aK ys (i9)).b (k:=k9) (by omega)) ?_
     refine ca (tN (a:=(cZ (aK ys (i9)).b (k9)))) Vf ⟨aD rfl,rfl⟩ (.one (tv (.bool (fS (cZ (aK ys (i9)).b (k9)))))) ?_
     refine WL.splitb (t:=67) rfl (fun h9=>?_) (fun h9=>?_)
     ·refine o1 ?_;refine nl (gD rfl (sk (rl (o1 ?_))));refine o1 ?_
      refine aZ 58 (k9+1) ?_
      refine o1 ?_;refine nl ?_
      exact⟨k9+1,by omega,⟨by omega,Ke (f:=fun j=>fS (cZ (aK ys (i9)).b j)) hB (by simpa using h9)⟩,aW h0 [] rfl⟩
     refine o1 ?_;refine nl (jM rfl (sq (rl (o1 ?_))));refine nl (rt ?_)
     exact jQ (.inl rfl) rfl ((nE (k:=i9) (by omega) (Ra (k:=k9) (by omega) (by simpa using h9))).symm)
    refine ex (rl (o1 ?_));refine o1 ?_;refine aZ 23 (i9+1) ?_
    refine o1 ?_;refine nl ?_
    exact⟨i9+1,by omega,⟨by omega,Ke (f:=fun j=>lY (aK ys j)) hA (Lu hm9 hb9 hl9 (k:=k9) (by omega) hB)⟩,aW h0 [] rfl⟩
   refine o1 ?_;refine o1 ?_;refine nl (jM rfl (sq (rl (o1 ?_))));refine nl (rt ?_)
   exact jQ (.inl rfl) rfl ((nE (k:=i9) (by omega) (pE (by first | exact .inl (by omega) | exact .inr (.inl (by omega)) | exact .inr (.inr (by simpa using h7))))).symm)
  refine ex (sq (rl (o1 ?_)));refine nl (rt ?_);exact jQ (.inl rfl) rfl ((Lw (k:=i9) (by omega) hA (by omega)).symm)
 (iterate 3 refine dL ?_);(iterate 6 refine o1 ?_);refine nl ?_;refine bL rfl (fun h10=>?_) (fun h10=>?_)
 ·refine sq (rl (o1 ?_));refine nl (rt ?_);exact jQ (.inl rfl) rfl ((Ck (by omega)).symm)
 refine sk (sq (sq (rl (o1 ?_))));refine nl (bl ?_)
 refine lp (γ:=Nat) (fun s=>bS [(0,.one (.t (kY ys))),(3,.one (tv (.int .i64 ((s:Nat):Int))))]) (fun s=>([]:List Ob).map some) (fun s=>s≤ys.length∧∀j,j<s→lY (aK ys j)=true) (fun s=>ys.length-s) 0 ⟨Nat.zero_le _,fun j hj=>absurd hj (Nat.not_lt_zero j)⟩ (aW h0 [] rfl) ?_
 rintro i9 ⟨hi9,hA⟩;refine sq (sq (rl ?_));(iterate 4 refine o1 ?_);refine nl ?_;refine bL rfl (fun h11=>?_) (fun h11=>?_)
 ·refine sk (sq (bl (sq (sq (rl ?_)))));(iterate 4 refine o1 ?_)
  refine eE ([gU (aK ys (i9)).m]) (bH (f:=eG) (z:=6) (o:=0) dS (cY (by omega)) (bN rfl) rfl) ?_
  (iterate 3 refine o1 ?_);refine WL.split (t:=31) rfl (fun h12=>?_) (fun h12=>?_)
  ·(iterate 7 refine dL ?_);refine o1 ?_;refine o1 ?_;(iterate 7 refine dL ?_);refine o1 ?_;refine nl (jM rfl (sq (rl (o1 ?_))));refine nl ?_
   refine rt ?_
   exact jQ (.inl rfl) rfl ((nE (k:=i9) (by omega) (pE (by first | exact .inl (by omega) | exact .inr (.inl (by omega)) | exact .inr (.inr (by simpa using h12))))).symm)
  (iterate 4 refine o1 ?_);refine eE ([sQ false (aK ys (i9)).b]) (bH (f:=eG) (z:=6) (o:=1) dS (cY (by omega)) (bN rfl) rfl) ?_
  (iterate 4 refine o1 ?_);refine WL.split (t:=40) rfl (fun h13=>?_) (fun h13=>?_)
  ·(iterate 7 refine dL ?_);refine o1 ?_;refine nl (jM rfl (sq (rl (o1 ?_))));refine nl (rt ?_)
   exact jQ (.inl rfl) rfl ((nE (k:=i9) (by omega) (pE (by first | exact .inl (by omega) | exact .inr (.inl (by omega)) | exact .inr (.inr (by simpa using h13))))).symm)
  (iterate 4 refine o1 ?_);refine eE ((aK ys (i9)).l.tr false) (bH (f:=eG) (z:=6) (o:=2) dS (cY (by omega)) (bN rfl) rfl) ?_
  refine ca (tN (a:=(aK ys (i9)).l)) Vf ⟨aD rfl,rfl⟩ (.one (tv (.bool (fS (aK ys (i9)).l)))) ?_;refine WL.splitb (t:=46) rfl (fun h14=>?_) (fun h14=>?_)
  ·refine o1 ?_;refine o1 ?_;refine nl (gD rfl (sk (sq ?_)));have hm9:(aK ys (i9)).m.length≤6:=by omega
   have hb9:(aK ys (i9)).b.length≤6:=by omega
   have hl9:fS (aK ys (i9)).l=true:=by simpa using h14
   refine rl (o1 ?_);refine nl (bl ?_)
   refine lp (γ:=Nat) (fun s=>bS [(0,.one (.t (kY ys))),(3,.one (tv (.int .i64 ((i9:Nat):Int)))),(4,.one (tv (.int .i64 ((s:Nat):Int))))]) (fun s=>([]:List Ob).map some) (fun s=>s≤(aK ys (i9)).b.length∧∀j,j<s→fS (cZ (aK ys (i9)).b j)=true) (fun s=>(aK ys (i9)).b.length-s) 0 ⟨Nat.zero_le _,fun j hj=>absurd hj (Nat.not_lt_zero j)⟩ (aW h0 [] rfl) ?_
   rintro k9 ⟨hk9,hB⟩;refine sq (sq (rl ?_));(iterate 5 refine o1 ?_)
   refine eE ([sQ false (aK ys (i9)).b]) (bH (f:=eG) (z:=6) (o:=1) dS (cY (by omega)) (bN rfl) rfl) ?_
   refine o1 ?_;refine o1 ?_;refine nl ?_;refine bL rfl (fun h15=>?_) (fun h15=>?_)
   ·refine sk (sq (bl (sq (rl ?_))));(iterate 4 refine o1 ?_)
    refine eE ([sQ false (aK ys (i9)).b]) (bH (f:=eG) (z:=6) (o:=1) dS (cY (by omega)) (bN rfl) rfl) ?_
    refine o1 ?_;refine o1 ?_;refine eE ((cZ (aK ys (i9)).b (k9)).tr false) (iE (aK ys (i9)).b (k:=k9) (by omega)) ?_
    refine ca (tN (a:=(cZ (aK ys (i9)).b (k9)))) Vf ⟨aD rfl,rfl⟩ (.one (tv (.bool (fS (cZ (aK ys (i9)).b (k9)))))) ?_
    refine WL.splitb (t:=67) rfl (fun h16=>?_) (fun h16=>?_)
    ·refine o1 ?_;refine nl (gD rfl (sk (rl (o1 ?_))));refine o1 ?_
     refine aZ 58 (k9+1) ?_
     refine o1 ?_;refine nl ?_
     exact⟨k9+1,by omega,⟨by omega,Ke (f:=fun j=>fS (cZ (aK ys (i9)).b j)) hB (by simpa using h16)⟩,aW h0 [] rfl⟩
    refine o1 ?_;refine nl (jM rfl (sq (rl (o1 ?_))));refine nl (rt ?_)
    exact jQ (.inl rfl) rfl ((nE (k:=i9) (by omega) (Ra (k:=k9) (by omega) (by simpa using h16))).symm)
   refine ex (rl (o1 ?_));refine o1 ?_;refine aZ 23 (i9+1) ?_
   refine o1 ?_;refine nl ?_
   exact⟨i9+1,by omega,⟨by omega,Ke (f:=fun j=>lY (aK ys j)) hA (Lu hm9 hb9 hl9 (k:=k9) (by omega) hB)⟩,aW h0 [] rfl⟩
  refine o1 ?_;refine o1 ?_;refine nl (jM rfl (sq (rl (o1 ?_))));refine nl (rt ?_)
  exact jQ (.inl rfl) rfl ((nE (k:=i9) (by omega) (pE (by first | exact .inl (by omega) | exact .inr (.inl (by omega)) | exact .inr (.inr (by simpa using h14))))).symm)
 refine ex (sq (rl (o1 ?_)));refine nl (rt ?_);exact jQ (.inl rfl) rfl ((Lw (k:=i9) (by omega) hA (by omega)).symm)
theorem rD {n d:Int}(h1:-9223372036854775808≤n) (h2:n≤9223372036854775807) (h3:-9223372036854775808≤d) (h4:d≤9223372036854775807):aG false Tryz.prog 29 [] [.one (tv (.int .i64 n)),.one (tv (.int .i64 d))] (aU (qF (.of (Rat.divInt n d)))):=by
 refine cC Tryz.func29 rfl Tryz.ntmps29 rfl aB rfl fun N9 w9 c0 h0=>?_
 have hs:=wS h1 h2 h3 h4
 have hl:(Fr4.of (Rat.divInt n d)).len 1099511627776:=⟨Nat.le_trans hs.1 (by omega),Nat.le_trans hs.2 (by omega)⟩
 refine sq (rl (al 0 ?_));refine nl (sq (rl (o1 ?_)));refine o1 ?_
 refine ca (VB h1 h2 h3 h4) XU ⟨a1 rfl,a1 rfl,rfl⟩ (.tup [qF (.of (Rat.divInt n d)),.one (tv (.int .i64 (if d=0 then 20 else 0)))]) ?_;(iterate 3 refine o1 ?_);refine al 1 ?_;refine st ?_
 refine o1 ?_;refine nl (sq (rl (ld ?_)));refine ca (KZ (a:=.of (Rat.divInt n d)) hl) XV ⟨aD rfl,rfl⟩ (qF (.of (Rat.divInt n d))) ?_;refine st ?_;refine nl ?_
 refine rt ?_;exact en (.inl rfl) rfl (bD (.agg (.cons (.id rfl) (.cons (.id rfl) (.cons (.id rfl) (.cons (.id rfl) .nil)))))) (by decide) (fun h=>by cases h) (rfl)
theorem mW {m:Bool}{b l:Int}(h1:-9223372036854775808≤b) (h2:b≤9223372036854775807) (h3:-9223372036854775808≤l) (h4:l≤9223372036854775807):aG false Tryz.prog 28 [] [.one (tv (.bool m)),.one (tv (.int .i64 b)),.one (tv (.int .i64 l))] (aU (.agg ((eG (qW m b l)).map .t))):=by
 refine cC Tryz.func28 rfl Tryz.ntmps28 rfl aB rfl fun N9 w9 c0 h0=>?_
 refine sq (rl (al 0 ?_));refine nl (sq (rl (o1 ?_)));refine bs 1 ?_
 refine WL.sub (fz (i:=8) (k:=1) (t:=4) (z:=1) (n:=2) (l:=bT [true,m]) rfl rfl rfl rfl) ?_
 refine ca (rD (n:=7) (d:=2) (by omega) (by omega) (by omega) (by omega)) wT ⟨a1 rfl,a1 rfl,rfl⟩ (qF (.of (Rat.divInt 7 2))) ?_
 refine o1 ?_;refine ca (rD (n:=b) (d:=1) (by omega) (by omega) (by omega) (by omega)) wT ⟨a1 rfl,a1 rfl,rfl⟩ (qF (.of (Rat.divInt b 1))) ?_
 refine bs 2 ?_;refine WL.sub (Xj (i:=12) (k:=2) (t:=48) (z:=4) (n:=2) (l:=([Fr4.of (Rat.divInt 7 2),Fr4.of (Rat.divInt b 1)]).flatMap (Fr4.tr false)) 52 rfl rfl rfl rfl (.one .sl)) ?_
 refine o1 ?_;refine ca (rD (n:=l) (d:=1) (by omega) (by omega) (by omega) (by omega)) wT ⟨a1 rfl,a1 rfl,rfl⟩ (qF (.of (Rat.divInt l 1))) ?_
 refine o1 ?_;refine st ?_;refine nl (rt ?_)
 exact en (.inl rfl) rfl (bD (.agg (.cons (.id rfl) (.cons (.id rfl) (.cons (.id rfl) (.cons (.id rfl) (.cons (.id rfl) (.cons (.id rfl) .nil)))))))) (by decide) (fun h=>by cases h) rfl
theorem VK {us:List Ur}{ent:Int}{rw9:List Rl}{vs:List Vn}(hz:∀k,Sz 17179869184 (fO (us.take k) ent)) (hu:∀u∈us,Sz 17179869184 u.n) (hl:us.length≤1073741823):aG true Tryz.prog 15 [] [.agg [.t (dJ false rw9),.t (dG false false vs),.t (dA false false us)],.one (tv (.int .i64 ent))] (aU (qO (fO us ent))):=by
 refine cC Tryz.func15 rfl Tryz.ntmps15 rfl aB rfl fun N9 w9 c0 h0=>?_
 have h00:((0:Int):Rat)=(fO (us.take 0) ent):=by simp[fO,lW,mR]
 refine sq (rl (bx 0 ?_));refine al 1 ?_;refine nl (sq (rl (iM 2 (iL (z:=0) (by omega) (by omega)) qN ⟨a1 rfl,rfl⟩ ?_)))
 refine al 4 ?_;refine st ?_;refine nl (sq (sq (rl (o1 ?_))));refine ld ?_;refine o1 ?_;refine o1 ?_;refine nl (bl ?_)
 refine lp (γ:=Nat) (fun s=>bS [(1,.one (tv (.int .i64 ent))),(4,.one (.pt 0 0)),(5,.one (.pt 1 0)),(10,.one (.t (dA false false us))),(11,.one (tv (.int .i64 ((us.length:Nat):Int)))),(12,.one (tv (.int .i64 ((s:Nat):Int))))]) (fun s=>[(⟨48,0,[tv (.bool false),tv (.slice none 0 0),tv (.bool false),tv (.slice none 0 0)]⟩:Ob),⟨48,0,[tv (.bool (aM (fO (us.take s) ent).num)),.sl 2 0 (dg 4294967296 (fO (us.take s) ent).num.natAbs).length,tv (.bool false),.sl 3 0 (dg 4294967296 (fO (us.take s) ent).den).length]⟩,⟨113,1,(aI (dg 4294967296 (fO (us.take s) ent).num.natAbs)).map .t⟩,⟨113,1,(aI (dg 4294967296 (fO (us.take s) ent).den)).map .t⟩].map some) (fun s=>s≤us.length) (fun s=>us.length-s) 0 (Nat.zero_le _) (aW h0 [1,4,2,3] ⟨oe rfl rfl,oe rfl (congrArg (fun q:Rat=>some (⟨48,0,[tv (.bool (aM q.num)),.sl 2 0 (dg 4294967296 q.num.natAbs).length,tv (.bool false),.sl 3 0 (dg 4294967296 q.den).length]⟩:Ob)) h00),aC (congrArg (fun q:Rat=>some (⟨113,1,(aI (dg 4294967296 q.num.natAbs)).map .t⟩:Ob)) h00),aC (congrArg (fun q:Rat=>some (⟨113,1,(aI (dg 4294967296 q.den)).map .t⟩:Ob)) h00),rfl⟩) ?_
 rintro k hk;refine sq (rl (o1 ?_));refine nl (sq ?_);refine bL rfl (fun h1=>?_) (fun h1=>?_)
 ·refine sk (sq (bl (sq (rl (o1 ?_)))))
  refine eE ((eM false) (fC us (k))) (bH (f:=(eM false)) (z:=7) (o:=0) (eF false) (gA (by omega)) (bN rfl) rfl) ?_
  refine al 4 ?_;refine st ?_;refine nl (sq (rl (o1 ?_)));refine ld ?_;refine o1 ?_;refine o1 ?_;refine nl ?_;refine bL rfl (fun h2=>?_) (fun h2=>?_)
  ·refine rl (ld ?_);refine o1 ?_;refine ld ?_
   refine iM 5 (Ar (Qn.of (p:=(fO (us.take k) ent)) ((hz k).mono (M:=68719476736) (by omega))) (Qn.of (p:=(fC us (k)).n) ((hu _ (iC (l:=us) (i:=k) (by omega))).mono (M:=68719476736) (by omega)))) Gd ⟨oV rfl (.cons .t (.cons (.sl rfl rfl (aN _ _ rfl) (aP _)) (.cons .t (.cons (.sl rfl rfl (aN _ _ rfl) (aP _)) .nil)))),aD rfl,rfl⟩ ?_
   refine st ?_;refine nl (rl (o1 ?_));refine aZ 24 (k+1) ?_
   refine o1 ?_;refine nl ?_;have hst:((fO (us.take k) ent)+(fC us (k)).n)=(fO (us.take (k+1)) ent):=by rw[Aq (by omega),if_pos h2]
   exact⟨k+1,by omega,by omega,aW h0 [0,1,5,6] ⟨oe rfl rfl,oe rfl (congrArg (fun q:Rat=>some (⟨48,0,[tv (.bool (aM q.num)),.sl 5 0 (dg 4294967296 q.num.natAbs).length,tv (.bool false),.sl 6 0 (dg 4294967296 q.den).length]⟩:Ob)) hst),aC (congrArg (fun q:Rat=>some (⟨113,1,(aI (dg 4294967296 q.num.natAbs)).map .t⟩:Ob)) hst),aC (congrArg (fun q:Rat=>some (⟨113,1,(aI (dg 4294967296 q.den)).map .t⟩:Ob)) hst),rfl⟩⟩
  refine sk (rl (o1 ?_));refine aZ 24 (k+1) ?_
  refine o1 ?_;refine nl ?_;have hst:(fO (us.take k) ent)=(fO (us.take (k+1)) ent):=by rw[Aq (by omega),if_neg h2]
  exact⟨k+1,by omega,by omega,aW h0 [0,1,2,3] ⟨oe rfl rfl,oe rfl (congrArg (fun q:Rat=>some (⟨48,0,[tv (.bool (aM q.num)),.sl 2 0 (dg 4294967296 q.num.natAbs).length,tv (.bool false),.sl 3 0 (dg 4294967296 q.den).length]⟩:Ob)) hst),aC (congrArg (fun q:Rat=>some (⟨113,1,(aI (dg 4294967296 q.num.natAbs)).map .t⟩:Ob)) hst),aC (congrArg (fun q:Rat=>some (⟨113,1,(aI (dg 4294967296 q.den)).map .t⟩:Ob)) hst),rfl⟩⟩
 refine ex (sq (rl (ld ?_)));refine st ?_;refine nl (rt ?_);have hkk:us.take k=us:=fF (by omega)
 exact en (.inl rfl) rfl (bD (.agg (.cons (.id rfl) (.cons (.sl (trs:=aI (dg 4294967296 (fO (us.take k) ent).num.natAbs)) rfl rfl (bP _) (aP _)) (.cons (.id rfl) (.cons (.sl (trs:=aI (dg 4294967296 (fO (us.take k) ent).den)) rfl rfl (bP _) (aP _)) .nil)))))) (by decide) (fun _=>by rw[hkk];exact sD _) (by rw[hkk];rfl)
theorem LY {ys:List Yr}(hy:∀y∈ys,y.l.len 1099511627776∧∀a∈y.b,a.len 1099511627776) (hs:∀y∈ys,y.m.length≤1000∧y.b.length≤1000) (hl:ys.length≤1000):aG false Tryz.prog 10 [] [.one (.t (kY ys))] (aU (.one (.t (sB true ys)))):=by
 refine QQ Tryz.func10 rfl Tryz.ntmps10 rfl aB rfl fun N9 w9 c0 h0=>?_
 refine sq (rl (o1 ?_));refine nl (sq (rl (o1 ?_)));refine nl (sq (sq (rl (o1 ?_))));refine nl (bl ?_)
 refine WP.sub (nr (i:=3) 0 83 6 rfl rfl rfl rfl) ?_
 refine lp (γ:=Nat) (fun s=>bS [(0,.one (.t (kY ys))),(3,.one (.sl 0 0 (s))),(4,.one (tv (.int .i64 ((s:Nat):Int))))]) (fun s=>[(⟨83,6,((ys.take s).flatMap eG).map .t⟩:Ob)].map some) (fun s=>s≤ys.length) (fun s=>ys.length-s) 0 (Nat.zero_le _) (aW h0 [0] ⟨aC rfl,rfl⟩) ?_
 rintro i hi;refine sq (sq (rl ?_));(iterate 4 refine o1 ?_);refine nl ?_;refine bL rfl (fun h1=>?_) (fun h1=>?_)
 ·refine sk (sq (bl (sq ?_)));have hi9:i<ys.length:=by omega
  obtain⟨hm6,hb6⟩:=hs _ (fR (l:=ys) hi9)
  refine rl ?_;(iterate 4 refine o1 ?_);refine eE ((aK ys (i)).l.tr false) (bH (f:=eG) (z:=6) (o:=2) dS (cY (by omega)) (bN rfl) rfl) ?_
  refine ca (Mm (a:=(aK ys (i)).l) (hy _ (fR (by omega))).1) QX ⟨aD rfl,rfl⟩ (qF (aK ys (i)).l) ?_
  refine o1 ?_;refine al 1 ?_;refine st ?_;refine nl (sq ?_);refine rd [1] (fun i=>[9].contains i) mixed ?_
  refine dv 0 ?_;refine aO 1 ?_;refine dv 2 ?_;refine dv 3 ?_;refine dv 4 ?_;refine dv 5 ?_
  refine fM 6 ([gU (aK ys (i)).m]) (bH (f:=eG) (z:=6) (o:=0) dS (cY (by omega)) (bN rfl) rfl) ?_
  refine kP (j:=2) (n:=0) (m:=(aK ys (i)).m.length) (l:=[]) (news:=(bT (aK ys (i)).m).map .t) 7 rfl aB rfl rfl rfl .nil .fz (Yy _) (Mx _) (by omega) (by omega) rfl ⟨rfl,trivial⟩ rfl (by kernel_rfl) rfl ?_
  refine dv 8 ?_;refine dst 9 ?_;refine aV ?_;refine sq (sq (rl (o1 ?_)));refine nl (bl ?_)
  refine WP.sub (yR (j:=1) (key:=3) (e:=52) (z:=4) rfl rfl rfl (.id (.sl (.id (.id (.id (.id .nil))))))) ?_
  refine lp (γ:=Nat) (fun s=>bS [(0,.one (.t (kY ys))),(3,.one (.sl 0 0 (i))),(4,.one (tv (.int .i64 ((i:Nat):Int)))),(5,.one (.pt 1 0)),(6,.one (tv (.int .i64 ((s:Nat):Int))))]) (fun s=>[(⟨83,6,((ys.take i).flatMap eG).map .t⟩:Ob),⟨83,0,([.sl 2 0 (aK ys (i)).m.length,.sl 3 0 s]:List AV)++((aK ys (i)).l.tr false).map .t⟩,⟨4,1,(bT (aK ys (i)).m).map .t⟩,⟨52,4,(((aK ys (i)).b.take s).flatMap (Fr4.tr false)).map .t⟩].map some) (fun s=>s≤(aK ys (i)).b.length) (fun s=>(aK ys (i)).b.length-s) 0 (Nat.zero_le _) (aW h0 [0,1,2,3] ⟨aC rfl,oe rfl (by have h9:(some ⟨83,0,([.sl 2 0 (0+(aK ys (i)).m.length),.sl 3 0 0]:List AV)++((aK ys (i)).l.tr false).map .t⟩:Option Ob)=some ⟨83,0,([.sl 2 0 (aK ys (i)).m.length,.sl 3 0 0]:List AV)++((aK ys (i)).l.tr false).map .t⟩:=(by rw[Nat.zero_add]);exact h9),aC rfl,aC rfl,rfl⟩) ?_
  rintro j hj;refine sq (sq (rl ?_));(iterate 5 refine o1 ?_)
  refine eE ([sQ false (aK ys (i)).b]) (bH (f:=eG) (z:=6) (o:=1) dS (cY (by omega)) (bN rfl) rfl) ?_
  refine o1 ?_;refine o1 ?_;refine nl ?_;refine bL rfl (fun h2=>?_) (fun h2=>?_)
  ·refine sk (sq (bl ?_));refine rd [1] (fun i=>[14].contains i) mixed ?_
   refine dv 0 ?_;refine aO 1 ?_;refine dv 2 ?_;refine dv 3 ?_;refine dv 4 ?_;refine dv 5 ?_
   refine fM 6 ([sQ false (aK ys (i)).b]) (bH (f:=eG) (z:=6) (o:=1) dS (cY (by omega)) (bN rfl) rfl) ?_
   refine dv 7 ?_;refine dv 8 ?_;refine fM 9 ((cZ (aK ys (i)).b (j)).tr false) (iE (aK ys (i)).b (k:=j) (by omega)) ?_
   refine aX 10 rfl (Mm (a:=(cZ (aK ys (i)).b (j))) ((hy _ (fR (by omega))).2 _ (fK (by omega)))) QX ⟨aD rfl,rfl⟩ (qF (cZ (aK ys (i)).b (j))) ?_
   refine iU (key:=4) 11 (by kernel_rfl) rfl rfl aB rfl ⟨rfl,trivial⟩ ?_
   refine kP (j:=5) (n:=j) (l:=(((aK ys (i)).b.take j).flatMap (Fr4.tr false)).map .t) 12 rfl aB rfl rfl rfl (.sl rfl (by rw[dF,bE (f:=Fr4.tr false) (z:=4) (fun _=>rfl),eA,Nat.min_eq_left (by omega)])) (.sl rfl rfl rfl) rfl rfl (by omega) (by omega) rfl ⟨rfl,trivial⟩ rfl (by kernel_rfl) rfl ?_
   refine dv 13 ?_;refine dst 14 ?_;refine aV ?_;refine rl (o1 ?_);refine o1 ?_;refine aZ 38 (j+1) ?_
   refine o1 ?_;refine nl ?_
   exact⟨j+1,by omega,by omega,aW h0 [0,1,2,5] ⟨aC rfl,oe rfl rfl,aC rfl,aC (congrArg (fun l:List AV=>some (⟨52,4,l⟩:Ob)) ((EQ _ _).trans (by rw[QS (by omega)]))),rfl⟩⟩
  refine ex (rl (o1 ?_));refine ld ?_;have hjb:j=(aK ys (i)).b.length:=by omega
  have htb:(aK ys (i)).b.take j=(aK ys (i)).b:=fF (by omega)
  refine WL.sub (Yw (i:=54) (k:=2) (t:=4) (z:=1) (n:=(aK ys (i)).m.length) (l:=bT (aK ys (i)).m) rfl rfl rfl (by rw[Xk,Nat.mul_one]) (.agg (.cons .sl (.cons .id (.cons .id (.cons .id (.cons .id (.cons .id .nil)))))))) ?_
  refine WL.sub (Yw (i:=54) (k:=3) (t:=52) (z:=4) (n:=j) (l:=((aK ys (i)).b.take j).flatMap (Fr4.tr false)) rfl rfl rfl (by rw[bE (f:=Fr4.tr false) (z:=4) (fun _=>rfl),eA,Nat.min_eq_left (by omega)]) (.agg (.cons .id (.cons .sl (.cons .id (.cons .id (.cons .id (.cons .id .nil)))))))) ?_
  refine bs 4 ?_
  refine iN (j:=5) (n:=i) (l:=((ys.take i).flatMap eG).map .t) aB rfl rfl rfl rfl (.sl rfl (by rw[dF,bE dS,eA,Nat.min_eq_left (by omega)])) (.sl rfl rfl rfl) rfl rfl rfl (by omega) (by omega) ?_
  refine o1 ?_;refine nl ?_
  have hrow:((ys.take i).flatMap eG).map AV.t++[.t (.s false 4 1 (aK ys (i)).m.length (bT (aK ys (i)).m)),.t (.s false 52 4 j (((aK ys (i)).b.take j).flatMap (Fr4.tr false)))]++((aK ys (i)).l.tr false).map .t=((ys.take (i+1)).flatMap eG).map AV.t:=by
   rw[QT hi9,←ER,htb,hjb,List.append_assoc];rfl
  rw[List.append_assoc]at hrow;refine rl (o1 ?_);refine o1 ?_;refine aZ 12 (i+1) ?_
  refine o1 ?_;refine nl ?_;exact⟨i+1,by omega,by omega,aW h0 [5] ⟨aC (congrArg (fun l:List AV=>some (⟨83,6,l⟩:Ob)) hrow),rfl⟩⟩
 refine ex (sq (rl (o1 ?_)));refine o1 ?_;refine nl (rt ?_);have htk:ys.take i=ys:=fF (by omega)
 have hil:i=ys.length:=by omega
 exact wK <| en (.inl rfl) rfl (bD (.one (.sl (trs:=(ys.take i).flatMap eG) rfl rfl (aN _ _ (by rw[bE dS,eA,Nat.min_eq_left (by omega)])) (by rw[bE dS,eA,Nat.min_eq_left (by omega)])))) (by decide) (fun h=>by cases h) (by rw[htk,hil];rfl)
theorem sE {a:Fr4}(h:a.len 1099511627776):aG true Tryz.prog 14 [] [qF a,qF a] (aU (.one (tv (.bool true)))):=by
 have h9:=LA h h
 rwa[decide_eq_true rfl]at h9
theorem Gp {xs:List Fr4}(hz:∀a∈xs,a.len 1099511627776) (hl:xs.length≤1073741823):aG true Tryz.prog 42 [] [.one (.t (sQ false xs)),.one (.t (sQ false xs))] (aU (.one (tv (.bool true)))):=by
 refine cC Tryz.func42 rfl Tryz.ntmps42 rfl aB rfl fun N9 w9 c0 h0=>?_
 refine sq (rl (o1 ?_));refine nl (sq (sq (rl ?_)));(iterate 5 refine o1 ?_);refine nl ?_;refine bL rfl (fun h1=>?_) (fun h1=>?_)
 ·exact absurd rfl h1
 refine sk (sq (sq (rl (o1 ?_))));refine nl (bl ?_)
 refine lp (γ:=Nat) (fun s=>bS [(0,.one (.t (sQ false xs))),(1,.one (.t (sQ false xs))),(5,.one (tv (.int .i64 ((s:Nat):Int))))]) (fun s=>([]:List Ob).map some) (fun s=>s≤xs.length) (fun s=>xs.length-s) 0 (Nat.zero_le _) (aW h0 [] rfl) ?_
 rintro k hk;refine sq (sq (rl ?_));(iterate 4 refine o1 ?_);refine nl ?_;refine bL rfl (fun h2=>?_) (fun h2=>?_)
 ·refine sk (sq (bl (sq ?_)));refine rd [] (fun i=>[].contains i) mixed ?_
  refine dv 0 ?_;refine dv 1 ?_;refine dv 2 ?_;refine fM 3 ((cZ xs (k)).tr false) (iE xs (k:=k) (by omega)) ?_
  refine dv 4 ?_;refine dv 5 ?_;refine dv 6 ?_;refine fM 7 ((cZ xs (k)).tr false) (iE xs (k:=k) (by omega)) ?_
  refine aX 8 rfl (sE (a:=(cZ xs (k))) (hz _ (fK (by omega)))) Mz ⟨aD rfl,aD rfl,rfl⟩ (.one (tv (.bool true))) ?_
  refine df 9 ?_;refine aV ?_;refine gD rfl (sk (rl (o1 ?_)));refine o1 ?_;refine aZ 16 (k+1) ?_
  refine o1 ?_;refine nl ?_;exact⟨k+1,by omega,by omega,kM h0 [] _ _ (by decide) ⟨rfl,rfl,qU (by omega),trivial⟩ rfl⟩
 refine ex (sq (rl (o1 ?_)));refine nl (rt ?_);exact jQ (.inl rfl) rfl (rfl)
theorem pK {q:Rat}(h:Sz 2000000 q):(Fr4.of q).len 1099511627776:=⟨Nat.le_trans h.1 (by omega),Nat.le_trans h.2 (by omega)⟩
theorem XW {l:List Rat}(h:∀q∈l,Sz 2000000 q):∀a∈l.map Fr4.of,a.len 1099511627776:=fun a ha=>by
 obtain⟨q,hq,rfl⟩:=List.mem_map.1 ha
 exact pK (h q hq)
theorem wU {l:List Rl}{i:Nat}(h:i<l.length):rA l i∈l:=mP h
theorem QY {rws:List Rl}{vs:List Vn}{us:List Ur}(hr:∀r∈rws,Sz 2000000 r.u∧(∀q∈r.b,Sz 2000000 q)∧r.b.length≤1073741823) (hv:∀v∈vs,Sz 2000000 v.l∧Sz 2000000 v.u∧Sz 2000000 v.x∧Sz 2000000 v.c) (hu:∀u∈us,Sz 2000000 u.n) (hlr:rws.length≤1073741823) (hlv:vs.length≤1073741823) (hlu:us.length≤1073741823):aG true Tryz.prog 13 [] [.agg [.t (dJ false rws),.t (dG false false vs),.t (dA false false us)],.agg [.t (kW false rws),.t (kU false vs),.t (kV false us)]] (aU (.one (tv (.bool true)))):=by
 refine cC Tryz.func13 rfl Tryz.ntmps13 rfl aB rfl fun N9 w9 c0 h0=>?_
 refine sq (rl (bx 0 ?_));refine bx 1 ?_;refine o1 ?_;refine nl (sq (sq (rl (o1 ?_))));refine ld ?_;refine o1 ?_;refine o1 ?_;refine ld ?_
 refine o1 ?_;refine o1 ?_;refine WL.cast (t:=18) (u':=.bool false) rfl (congrArg Value.bool (by simp)) ?_
 refine o1 ?_;refine o1 ?_;refine ld ?_;refine o1 ?_;refine o1 ?_;refine ld ?_;refine o1 ?_;refine o1 ?_;refine WL.cast (t:=26) (u':=.bool false) rfl (congrArg Value.bool (by simp)) ?_
 (iterate 3 refine o1 ?_);refine ld ?_;refine o1 ?_;refine o1 ?_;refine ld ?_;refine o1 ?_;refine o1 ?_;refine WL.cast (t:=35) (u':=.bool false) rfl (congrArg Value.bool (by simp)) ?_
 refine o1 ?_;refine nl (gD rfl (sk (sq (sq (rl (o1 ?_))))));refine nl (bl ?_)
 refine lp (γ:=Nat) (fun s=>bS [(2,.one (.pt 0 0)),(3,.one (.pt 1 0)),(5,.one (tv (.int .i64 ((s:Nat):Int))))]) (fun s=>[(⟨39,0,[.t (dJ false rws),.t (dG false false vs),.t (dA false false us)]⟩:Ob),⟨31,0,[.t (kW false rws),.t (kU false vs),.t (kV false us)]⟩].map some) (fun s=>s≤rws.length) (fun s=>rws.length-s) 0 (Nat.zero_le _) (aW h0 [0,1] ⟨oe rfl rfl,oe rfl rfl,rfl⟩) ?_
 rintro i hi;refine sq (sq (rl (o1 ?_)));refine o1 ?_;refine ld ?_;refine o1 ?_;refine o1 ?_;refine nl ?_;refine bL rfl (fun h1=>?_) (fun h1=>?_)
 ·refine sk (sq (bl (sq ?_)));refine rd [0,1] (fun i=>[].contains i) mixed ?_
  refine dv 0 ?_;refine aO 1 ?_;refine dv 2 ?_;refine dv 3 ?_;refine dv 4 ?_
  refine fM 5 ((Fr4.of (rA rws (i)).u).tr false) (bH (f:=rlt) (z:=5) (o:=0) gZ (tE (by omega)) (bN rfl) rfl) ?_
  refine dv 6 ?_;refine aO 7 ?_;refine dv 8 ?_;refine dv 9 ?_;refine dv 10 ?_
  refine fM 11 ((Fr4.of (rA rws (i)).u).tr false) (bH (f:=rlt) (z:=5) (o:=0) gZ (tE (by omega)) (bN rfl) rfl) ?_
  refine aX 12 rfl (sE (a:=.of (rA rws (i)).u) (pK (hr _ (wU (by omega))).1)) Mz ⟨aD rfl,aD rfl,rfl⟩ (.one (tv (.bool true))) ?_
  refine df 13 ?_;refine df 14 ?_;refine dv 15 ?_;refine aO 16 ?_;refine dv 17 ?_;refine dv 18 ?_;refine dv 19 ?_
  refine fM 20 ([sQ false ((rA rws (i)).b.map Fr4.of)]) (bH (f:=rlt) (z:=5) (o:=4) gZ (tE (by omega)) (bN rfl) rfl) ?_
  refine dv 21 ?_;refine aO 22 ?_;refine dv 23 ?_;refine dv 24 ?_;refine dv 25 ?_
  refine fM 26 ([sQ false ((rA rws (i)).b.map Fr4.of)]) (bH (f:=rlt) (z:=5) (o:=4) gZ (tE (by omega)) (bN rfl) rfl) ?_
  refine aX 27 rfl (Gp (xs:=((rA rws (i)).b.map Fr4.of)) (XW (hr _ (wU (by omega))).2.1) (by rw[dF];exact(hr _ (wU (by omega))).2.2)) EW ⟨a1 rfl,a1 rfl,rfl⟩ (.one (tv (.bool true))) ?_
  refine df 28 ?_;refine df 29 ?_;refine aV ?_;refine gD rfl (sk (rl (o1 ?_)));refine o1 ?_
  refine aZ 43 (i+1) ?_
  refine o1 ?_;refine nl ?_;exact⟨i+1,by omega,by omega,kM h0 [0,1] _ _ (by decide) ⟨rfl,rfl,qU (by omega),trivial⟩ ⟨oe rfl rfl,oe rfl rfl,rfl⟩⟩
 refine ex (sq (sq (rl (o1 ?_))));refine nl (bl ?_)
 refine lp (γ:=Nat) (fun s=>bS [(2,.one (.pt 0 0)),(3,.one (.pt 1 0)),(6,.one (tv (.int .i64 ((s:Nat):Int))))]) (fun s=>[(⟨39,0,[.t (dJ false rws),.t (dG false false vs),.t (dA false false us)]⟩:Ob),⟨31,0,[.t (kW false rws),.t (kU false vs),.t (kV false us)]⟩].map some) (fun s=>s≤vs.length) (fun s=>vs.length-s) 0 (Nat.zero_le _) (aW h0 [0,1] ⟨oe rfl rfl,oe rfl rfl,rfl⟩) ?_
 rintro j hj;refine sq (sq (rl (o1 ?_)));refine o1 ?_;refine ld ?_;refine o1 ?_;refine o1 ?_;refine nl ?_;refine bL rfl (fun h2=>?_) (fun h2=>?_)
 ·refine sk (sq (bl (sq ?_)));refine rd [0,1] (fun i=>[13].contains i) mixed ?_
  refine dv 0 ?_;refine aO 1 ?_;refine dv 2 ?_;refine dv 3 ?_
  refine fM 4 ((cF false) (bQ vs (j))) (bH (f:=(cF false)) (z:=18) (o:=0) (cQ false) (lE (by omega)) (bN rfl) rfl) ?_
  refine dv 5 ?_;refine aO 6 ?_;refine dv 7 ?_;refine dv 8 ?_
  refine fM 9 ((cF false) (bQ vs (j))) (bH (f:=(cF false)) (z:=18) (o:=0) (cQ false) (lE (by omega)) (bN rfl) rfl) ?_
  refine WO.two (i:=10) (j:=11) (by kernel_rfl) ?_ ?_
  ·refine cG (key:=2) 10 rfl rfl aB rfl ⟨rfl,rfl,trivial⟩ ?_;refine fU (key:=3) 11 (by kernel_rfl) rfl rfl aB rfl ⟨rfl,rfl,trivial⟩ ?_
   refine cA 12 (by kernel_rfl) rfl rfl aB rfl rfl rfl rfl ⟨rfl,rfl,trivial⟩ ?_
   refine dst 13 ?_;refine aV ?_;refine sq ?_;have hvj:=hv _ (tD (l:=vs) (i:=j) (by omega))
   have hv4:∀a∈[Fr4.of (bQ vs (j)).l,Fr4.of (bQ vs (j)).u,Fr4.of (bQ vs (j)).x,Fr4.of (bQ vs (j)).c],a.len 1099511627776:=fun a ha=>by
    simp only[Dh,List.not_mem_nil,or_false]at ha;rcases ha with rfl | rfl | rfl | rfl
    ·exact pK hvj.1
    ·exact pK hvj.2.1
    ·exact pK hvj.2.2.1
    exact pK hvj.2.2.2
   refine rl (o1 ?_);refine ld ?_;refine o1 ?_;refine ld ?_;refine o1 ?_;refine WL.cast (t:=95) (u':=.bool false) rfl (congrArg Value.bool (by simp)) ?_
   refine o1 ?_;refine o1 ?_;refine ld ?_;refine o1 ?_;refine ld ?_;refine o1 ?_;refine WL.cast (t:=101) (u':=.bool false) rfl (congrArg Value.bool (by simp)) ?_
   (iterate 3 refine o1 ?_);refine ld ?_;refine o1 ?_;refine ld ?_;refine o1 ?_;refine ld ?_;refine o1 ?_;refine ld ?_;refine bs 4 ?_
   refine WL.sub (Xj (i:=112) (k:=4) (t:=48) (z:=4) (n:=4) (l:=([Fr4.of (bQ vs (j)).l,Fr4.of (bQ vs (j)).u,Fr4.of (bQ vs (j)).x,Fr4.of (bQ vs (j)).c]).flatMap (Fr4.tr false)) 52 rfl rfl rfl rfl (.one .sl)) ?_
   refine o1 ?_;refine ld ?_;refine o1 ?_;refine ld ?_;refine o1 ?_;refine ld ?_;refine o1 ?_;refine ld ?_;refine bs 5 ?_
   refine WL.sub (Xj (i:=121) (k:=5) (t:=52) (z:=4) (n:=4) (l:=([Fr4.of (bQ vs (j)).l,Fr4.of (bQ vs (j)).u,Fr4.of (bQ vs (j)).x,Fr4.of (bQ vs (j)).c]).flatMap (Fr4.tr false)) 52 rfl rfl rfl rfl (.one .sl)) ?_
   refine ca (Gp (xs:=[Fr4.of (bQ vs (j)).l,Fr4.of (bQ vs (j)).u,Fr4.of (bQ vs (j)).x,Fr4.of (bQ vs (j)).c]) hv4 (by show 4≤_;omega)) EW ⟨a1 rfl,a1 rfl,rfl⟩ (.one (tv (.bool true))) ?_
   refine o1 ?_;refine o1 ?_;refine nl (gD rfl (sk (rl (o1 ?_))));refine o1 ?_
   refine aZ 80 (j+1) ?_
   refine o1 ?_;refine nl ?_;exact⟨j+1,by omega,by omega,kM h0 [0,1] _ _ (by decide) ⟨rfl,rfl,qU (by omega),trivial⟩ ⟨oe rfl rfl,oe rfl rfl,rfl⟩⟩
  refine cG (key:=2) 11 rfl rfl aB rfl ⟨rfl,rfl,trivial⟩ ?_;refine fU (key:=3) 10 (by kernel_rfl) rfl rfl aB rfl ⟨rfl,rfl,trivial⟩ ?_
  refine cA 12 (by kernel_rfl) rfl rfl aB rfl rfl rfl rfl ⟨rfl,rfl,trivial⟩ ?_
  refine dst 13 ?_;refine aV ?_;refine sq ?_;have hvj:=hv _ (tD (l:=vs) (i:=j) (by omega))
  have hv4:∀a∈[Fr4.of (bQ vs (j)).l,Fr4.of (bQ vs (j)).u,Fr4.of (bQ vs (j)).x,Fr4.of (bQ vs (j)).c],a.len 1099511627776:=fun a ha=>by
   simp only[Dh,List.not_mem_nil,or_false]at ha;rcases ha with rfl | rfl | rfl | rfl
   ·exact pK hvj.1
   ·exact pK hvj.2.1
   ·exact pK hvj.2.2.1
   exact pK hvj.2.2.2
  refine rl (o1 ?_);refine ld ?_;refine o1 ?_;refine ld ?_;refine o1 ?_;refine WL.cast (t:=95) (u':=.bool false) rfl (congrArg Value.bool (by simp)) ?_
  refine o1 ?_;refine o1 ?_;refine ld ?_;refine o1 ?_;refine ld ?_;refine o1 ?_;refine WL.cast (t:=101) (u':=.bool false) rfl (congrArg Value.bool (by simp)) ?_
  (iterate 3 refine o1 ?_);refine ld ?_;refine o1 ?_;refine ld ?_;refine o1 ?_;refine ld ?_;refine o1 ?_;refine ld ?_;refine bs 4 ?_
  refine WL.sub (Xj (i:=112) (k:=4) (t:=48) (z:=4) (n:=4) (l:=([Fr4.of (bQ vs (j)).l,Fr4.of (bQ vs (j)).u,Fr4.of (bQ vs (j)).x,Fr4.of (bQ vs (j)).c]).flatMap (Fr4.tr false)) 52 rfl rfl rfl rfl (.one .sl)) ?_
  refine o1 ?_;refine ld ?_;refine o1 ?_;refine ld ?_;refine o1 ?_;refine ld ?_;refine o1 ?_;refine ld ?_;refine bs 5 ?_
  refine WL.sub (Xj (i:=121) (k:=5) (t:=52) (z:=4) (n:=4) (l:=([Fr4.of (bQ vs (j)).l,Fr4.of (bQ vs (j)).u,Fr4.of (bQ vs (j)).x,Fr4.of (bQ vs (j)).c]).flatMap (Fr4.tr false)) 52 rfl rfl rfl rfl (.one .sl)) ?_
  refine ca (Gp (xs:=[Fr4.of (bQ vs (j)).l,Fr4.of (bQ vs (j)).u,Fr4.of (bQ vs (j)).x,Fr4.of (bQ vs (j)).c]) hv4 (by show 4≤_;omega)) EW ⟨a1 rfl,a1 rfl,rfl⟩ (.one (tv (.bool true))) ?_
  refine o1 ?_;refine o1 ?_;refine nl (gD rfl (sk (rl (o1 ?_))));refine o1 ?_
  refine aZ 80 (j+1) ?_
  refine o1 ?_;refine nl ?_;exact⟨j+1,by omega,by omega,kM h0 [0,1] _ _ (by decide) ⟨rfl,rfl,qU (by omega),trivial⟩ ⟨oe rfl rfl,oe rfl rfl,rfl⟩⟩
 refine ex (sq (sq (rl (o1 ?_))));refine nl (bl ?_)
 refine lp (γ:=Nat) (fun s=>bS [(2,.one (.pt 0 0)),(3,.one (.pt 1 0)),(9,.one (tv (.int .i64 ((s:Nat):Int))))]) (fun s=>[(⟨39,0,[.t (dJ false rws),.t (dG false false vs),.t (dA false false us)]⟩:Ob),⟨31,0,[.t (kW false rws),.t (kU false vs),.t (kV false us)]⟩].map some) (fun s=>s≤us.length) (fun s=>us.length-s) 0 (Nat.zero_le _) (aW h0 [0,1] ⟨oe rfl rfl,oe rfl rfl,rfl⟩) ?_
 rintro k hk;refine sq (sq (rl (o1 ?_)));refine o1 ?_;refine ld ?_;refine o1 ?_;refine o1 ?_;refine nl ?_;refine bL rfl (fun h3=>?_) (fun h3=>?_)
 ·refine sk (sq (bl (sq ?_)));refine rd [0,1] (fun i=>[13].contains i) mixed ?_
  refine dv 0 ?_;refine aO 1 ?_;refine dv 2 ?_;refine dv 3 ?_
  refine fM 4 ((eM false) (fC us (k))) (bH (f:=(eM false)) (z:=7) (o:=0) (eF false) (gA (by omega)) (bN rfl) rfl) ?_
  refine dv 5 ?_;refine aO 6 ?_;refine dv 7 ?_;refine dv 8 ?_
  refine fM 9 ((eM false) (fC us (k))) (bH (f:=(eM false)) (z:=7) (o:=0) (eF false) (gA (by omega)) (bN rfl) rfl) ?_
  refine WO.two (i:=10) (j:=11) (by kernel_rfl) ?_ ?_
  ·refine cG (key:=2) 10 rfl rfl aB rfl ⟨rfl,rfl,trivial⟩ ?_;refine fU (key:=3) 11 (by kernel_rfl) rfl rfl aB rfl ⟨rfl,rfl,trivial⟩ ?_
   refine cA 12 (by kernel_rfl) rfl rfl aB rfl rfl rfl rfl ⟨rfl,rfl,trivial⟩ ?_
   refine dst 13 ?_;refine aV ?_;refine sq (rl (o1 ?_));refine ld ?_;refine o1 ?_;refine ld ?_;refine o1 ?_
   refine WL.cast (t:=146) (u':=.bool false) rfl (congrArg Value.bool (by simp)) ?_
   refine o1 ?_;refine o1 ?_;refine ld ?_;refine o1 ?_;refine ld ?_;refine o1 ?_;refine WL.cast (t:=152) (u':=.bool false) rfl (congrArg Value.bool (by simp)) ?_
   (iterate 3 refine o1 ?_);refine ld ?_;refine o1 ?_;refine ld ?_;refine o1 ?_;refine WL.cast (t:=159) (u':=.bool false) rfl (congrArg Value.bool (by simp)) ?_
   (iterate 3 refine o1 ?_);refine ld ?_;refine o1 ?_;refine ld ?_
   refine ca (sE (a:=.of (fC us (k)).n) (pK (hu _ (iC (by omega))))) Mz ⟨aD rfl,aD rfl,rfl⟩ (.one (tv (.bool true))) ?_
   refine o1 ?_;refine o1 ?_;refine nl (gD rfl (sk (rl (o1 ?_))));refine o1 ?_
   refine aZ 131 (k+1) ?_
   refine o1 ?_;refine nl ?_;exact⟨k+1,by omega,by omega,kM h0 [0,1] _ _ (by decide) ⟨rfl,rfl,qU (by omega),trivial⟩ ⟨oe rfl rfl,oe rfl rfl,rfl⟩⟩
  refine cG (key:=2) 11 rfl rfl aB rfl ⟨rfl,rfl,trivial⟩ ?_;refine fU (key:=3) 10 (by kernel_rfl) rfl rfl aB rfl ⟨rfl,rfl,trivial⟩ ?_
  refine cA 12 (by kernel_rfl) rfl rfl aB rfl rfl rfl rfl ⟨rfl,rfl,trivial⟩ ?_
  refine dst 13 ?_;refine aV ?_;refine sq (rl (o1 ?_));refine ld ?_;refine o1 ?_;refine ld ?_;refine o1 ?_
  refine WL.cast (t:=146) (u':=.bool false) rfl (congrArg Value.bool (by simp)) ?_
  refine o1 ?_;refine o1 ?_;refine ld ?_;refine o1 ?_;refine ld ?_;refine o1 ?_;refine WL.cast (t:=152) (u':=.bool false) rfl (congrArg Value.bool (by simp)) ?_
  (iterate 3 refine o1 ?_);refine ld ?_;refine o1 ?_;refine ld ?_;refine o1 ?_;refine WL.cast (t:=159) (u':=.bool false) rfl (congrArg Value.bool (by simp)) ?_
  (iterate 3 refine o1 ?_);refine ld ?_;refine o1 ?_;refine ld ?_
  refine ca (sE (a:=.of (fC us (k)).n) (pK (hu _ (iC (by omega))))) Mz ⟨aD rfl,aD rfl,rfl⟩ (.one (tv (.bool true))) ?_
  refine o1 ?_;refine o1 ?_;refine nl (gD rfl (sk (rl (o1 ?_))));refine o1 ?_
  refine aZ 131 (k+1) ?_
  refine o1 ?_;refine nl ?_;exact⟨k+1,by omega,by omega,kM h0 [0,1] _ _ (by decide) ⟨rfl,rfl,qU (by omega),trivial⟩ ⟨oe rfl rfl,oe rfl rfl,rfl⟩⟩
 refine ex (sq (rl (o1 ?_)));refine nl (rt ?_);exact jQ (.inl rfl) rfl (rfl)
theorem Zh {n m:Nat}{tu0 tv0:List Tr}{rws:List Rl}(hU:Spg 7 4 n tu0) (hV:Spg 18 3 m tv0) (hn:n≤1073741823) (hm:m≤1073741823):aG false Tryz.prog 17 [⟨64,18,tv0.map .t⟩,⟨58,7,tu0.map .t⟩] [.agg [.t (dJ false rws),.sl 0 0 m,.sl 1 0 n]] (fun l r=>r=.tup []∧∃a b:List Tr,l=[⟨64,18,a.map .t⟩,⟨58,7,b.map .t⟩]):=by
 refine nG Tryz.func17 rfl Tryz.ntmps17 rfl aB rfl fun N9 M9 w9 c0 h0=>?_
 refine sq (rl (bx 2 ?_));refine nl (sq (sq (rl (o1 ?_))));refine nl (bl ?_)
 refine lp (γ:=Nat×List Tr) (fun s=>bS [(1,.one (.pt 2 0)),(2,.one (tv (.int .i64 ((s.1:Nat):Int))))]) (fun s=>[(⟨64,18,tv0.map .t⟩:Ob),⟨58,7,(s.2).map .t⟩,⟨39,0,[.t (dJ false rws),.sl 0 0 m,.sl 1 0 n]⟩].map some) (fun s=>s.1≤n∧Spg 7 4 n s.2) (fun s=>n-s.1) (0,tu0) ⟨Nat.zero_le _,hU⟩ (dH h0 [0,1,2] ⟨aC rfl,aC rfl,oe rfl rfl,rfl⟩) ?_
 rintro⟨i,trs⟩ ⟨hi,hP1⟩;dsimp only at hi hP1⊢;refine sq (sq (rl (o1 ?_)));refine o1 ?_;refine ld ?_;refine o1 ?_;refine o1 ?_;refine nl ?_
 refine bL rfl (fun h1=>?_) (fun h1=>?_)
 ·refine sk (sq (bl (sq (rl (o1 ?_)))));refine nl (bl ?_);obtain⟨xs,hxl1,hx1⟩:=hP1.2 i (by omega)
  refine WP.sub (oE (j:=1) (key:=3) (p:=i*7+4) (e:=113) (z:=1) (n:=xs.length) (trs:=aI xs) rfl rfl rfl (by rw[List.getElem?_map,hx1];rfl) rfl) ?_
  refine lp (γ:=Nat×List Nat) (fun s=>bS [(1,.one (.pt 2 0)),(2,.one (tv (.int .i64 ((i:Nat):Int)))),(3,.one (tv (.int .i64 ((s.1:Nat):Int))))]) (fun s=>[(⟨64,18,tv0.map .t⟩:Ob),⟨58,7,((trs.map AV.t).set (i*7+4) (.sl 3 0 xs.length))⟩,⟨39,0,[.t (dJ false rws),.sl 0 0 m,.sl 1 0 n]⟩,⟨113,1,(aI s.2).map .t⟩].map some) (fun s=>s.1≤xs.length∧s.2.length=xs.length) (fun s=>xs.length-s.1) (0,xs) ⟨Nat.zero_le _,rfl⟩ (dH h0 [0,1,2,3] ⟨aC rfl,⟨_,wQ rfl _ _ _ _,rfl⟩,oe rfl rfl,aC rfl,rfl⟩) ?_
  rintro⟨k,zs⟩ ⟨hk,hz1⟩;dsimp only at hk hz1⊢;refine sq (sq (rl (o1 ?_)));refine o1 ?_;refine ld ?_;(iterate 5 refine o1 ?_)
  refine Bp (o:=0+i*7+3+0+1) (l:=((trs.map AV.t).set (i*7+4) (.sl 3 0 xs.length))) (v:=.sl 3 0 xs.length) (by rw[show 0+i*7+3+0+1=i*7+4 by omega];exact List.getElem?_set_self (by rw[dF,hP1.1];omega)) ?_
  refine o1 ?_;refine o1 ?_;refine nl ?_;refine bL rfl (fun h2=>?_) (fun h2=>?_)
  ·refine sk (sq (bl (rl (o1 ?_))));refine ld ?_;(iterate 5 refine o1 ?_)
   refine Bp (o:=0+i*7+3+0+1) (l:=((trs.map AV.t).set (i*7+4) (.sl 3 0 xs.length))) (v:=.sl 3 0 xs.length) (by rw[show 0+i*7+3+0+1=i*7+4 by omega];exact List.getElem?_set_self (by rw[dF,hP1.1];omega)) ?_
   refine o1 ?_;refine o1 ?_;refine uI (zX zs (k:=k) (v:=77) (by omega)) (Ds zs (by omega)) ?_
   refine nl (rl (o1 ?_));refine o1 ?_;refine aZ 25 (k+1) ?_
   refine o1 ?_;refine nl ?_
   exact⟨(k+1,zs.set k 77),by dsimp only;omega,⟨by dsimp only;omega,by dsimp only;rw[List.length_set];exact hz1⟩,dH h0 [0,1,2,3] ⟨aC rfl,⟨_,wQ rfl _ _ _ _,rfl⟩,oe rfl rfl,aC rfl,rfl⟩⟩
  refine ex ?_
  refine WP.sub (iH (j:=1) (k:=3) (p:=i*7+4) (n:=xs.length) (trs:=aI zs) (l':=(trs.set (i*7+4) (sU true zs)).map .t) rfl rfl rfl rfl (List.getElem?_set_self (by rw[dF,hP1.1];omega)) (aN _ _ (by rw[gE,hz1,Nat.mul_one])) (by rw[gE,hz1,Nat.mul_one]) (by rw[List.set_set,←hz1,List.map_set];rfl)) ?_
  refine rl (o1 ?_);refine o1 ?_;refine aZ 12 (i+1) ?_
  refine o1 ?_;refine nl ?_
  exact⟨(i+1,trs.set (i*7+4) (sU true zs)),by dsimp only;omega,⟨by dsimp only;omega,hP1.step (by omega) (by omega) zs (by omega)⟩,dH h0 [0,1,2] ⟨aC rfl,aC rfl,oe rfl rfl,rfl⟩⟩
 refine ex (sq (rl (o1 ?_)));refine nl (bl ?_)
 refine lp (γ:=Nat×List Tr) (fun s=>bS [(1,.one (.pt 2 0)),(4,.one (tv (.int .i64 ((s.1:Nat):Int))))]) (fun s=>[(⟨64,18,(s.2).map .t⟩:Ob),⟨58,7,trs.map .t⟩,⟨39,0,[.t (dJ false rws),.sl 0 0 m,.sl 1 0 n]⟩].map some) (fun s=>s.1≤m∧Spg 18 3 m s.2) (fun s=>m-s.1) (0,tv0) ⟨Nat.zero_le _,hV⟩ (dH h0 [0,1,2] ⟨aC rfl,aC rfl,oe rfl rfl,rfl⟩) ?_
 rintro⟨i2,trs2⟩ ⟨hi2,hP0⟩;dsimp only at hi2 hP0⊢;refine sq (sq (rl (o1 ?_)));refine o1 ?_;refine ld ?_;refine o1 ?_;refine o1 ?_;refine nl ?_
 refine bL rfl (fun h3=>?_) (fun h3=>?_)
 ·refine sk (sq (bl (sq (rl (o1 ?_)))));refine nl (bl ?_);obtain⟨xs2,hxl0,hx0⟩:=hP0.2 i2 (by omega)
  refine WP.sub (oE (j:=0) (key:=3) (p:=i2*18+3) (e:=113) (z:=1) (n:=xs2.length) (trs:=aI xs2) rfl rfl rfl (by rw[List.getElem?_map,hx0];rfl) rfl) ?_
  refine lp (γ:=Nat×List Nat) (fun s=>bS [(1,.one (.pt 2 0)),(4,.one (tv (.int .i64 ((i2:Nat):Int)))),(5,.one (tv (.int .i64 ((s.1:Nat):Int))))]) (fun s=>[(⟨64,18,((trs2.map AV.t).set (i2*18+3) (.sl 3 0 xs2.length))⟩:Ob),⟨58,7,trs.map .t⟩,⟨39,0,[.t (dJ false rws),.sl 0 0 m,.sl 1 0 n]⟩,⟨113,1,(aI s.2).map .t⟩].map some) (fun s=>s.1≤xs2.length∧s.2.length=xs2.length) (fun s=>xs2.length-s.1) (0,xs2) ⟨Nat.zero_le _,rfl⟩ (dH h0 [0,1,2,3] ⟨⟨_,wQ rfl _ _ _ _,rfl⟩,aC rfl,oe rfl rfl,aC rfl,rfl⟩) ?_
  rintro⟨k2,zs2⟩ ⟨hk2,hz0⟩;dsimp only at hk2 hz0⊢;refine sq (sq (rl (o1 ?_)));refine o1 ?_;refine ld ?_;(iterate 5 refine o1 ?_)
  refine Bp (o:=0+i2*18+2+0+1) (l:=((trs2.map AV.t).set (i2*18+3) (.sl 3 0 xs2.length))) (v:=.sl 3 0 xs2.length) (by rw[show 0+i2*18+2+0+1=i2*18+3 by omega];exact List.getElem?_set_self (by rw[dF,hP0.1];omega)) ?_
  refine o1 ?_;refine o1 ?_;refine nl ?_;refine bL rfl (fun h4=>?_) (fun h4=>?_)
  ·refine sk (sq (bl (rl (o1 ?_))));refine ld ?_;(iterate 5 refine o1 ?_)
   refine Bp (o:=0+i2*18+2+0+1) (l:=((trs2.map AV.t).set (i2*18+3) (.sl 3 0 xs2.length))) (v:=.sl 3 0 xs2.length) (by rw[show 0+i2*18+2+0+1=i2*18+3 by omega];exact List.getElem?_set_self (by rw[dF,hP0.1];omega)) ?_
   refine o1 ?_;refine o1 ?_;refine uI (zX zs2 (k:=k2) (v:=78) (by omega)) (Ds zs2 (by omega)) ?_
   refine nl (rl (o1 ?_));refine o1 ?_;refine aZ 55 (k2+1) ?_
   refine o1 ?_;refine nl ?_
   exact⟨(k2+1,zs2.set k2 78),by dsimp only;omega,⟨by dsimp only;omega,by dsimp only;rw[List.length_set];exact hz0⟩,dH h0 [0,1,2,3] ⟨⟨_,wQ rfl _ _ _ _,rfl⟩,aC rfl,oe rfl rfl,aC rfl,rfl⟩⟩
  refine ex ?_
  refine WP.sub (iH (j:=0) (k:=3) (p:=i2*18+3) (n:=xs2.length) (trs:=aI zs2) (l':=(trs2.set (i2*18+3) (sU true zs2)).map .t) rfl rfl rfl rfl (List.getElem?_set_self (by rw[dF,hP0.1];omega)) (aN _ _ (by rw[gE,hz0,Nat.mul_one])) (by rw[gE,hz0,Nat.mul_one]) (by rw[List.set_set,←hz0,List.map_set];rfl)) ?_
  refine rl (o1 ?_);refine o1 ?_;refine aZ 42 (i2+1) ?_
  refine o1 ?_;refine nl ?_
  exact⟨(i2+1,trs2.set (i2*18+3) (sU true zs2)),by dsimp only;omega,⟨by dsimp only;omega,hP0.step (by omega) (by omega) zs2 (by omega)⟩,dH h0 [0,1,2] ⟨aC rfl,aC rfl,oe rfl rfl,rfl⟩⟩
 refine ex ?_
 exact hJ (lent':=[⟨64,18,trs2.map .t⟩,⟨58,7,trs.map .t⟩]) (.inr rfl) rfl qT (by decide) (fun _ h=>by cases h) ⟨⟨rfl,rfl⟩,⟨rfl,rfl⟩,trivial⟩ ⟨rfl,rfl,trivial⟩ ⟨cK _,cK _,trivial⟩ (fun h=>by cases h) ⟨rfl,trs2,trs,rfl⟩
def oH:List Yr:=[qW false (-10) 0,qW true 4 100,qW true 8 100]
def xU:List Yr:=[qW false (-10) 0,qW true 4 3,qW false (-2) 9,qW true 8 100]
def qB:List Ur:=[⟨0,1,1,4⟩,⟨0,1,2,6⟩]
def tO:List Ur:=[⟨0,1,1,3⟩,⟨2,1,3,2⟩]
def Ir:List Vn:=[⟨0,1,10,3,7,0⟩,⟨2,1,2,2,0,0⟩]
theorem Sf {m:Bool}{b l:Int}:sC (qW m b l):=⟨fun a ha=>by
 have h:∀q:Rat,LimF (Fr4.of q):=fun q=>⟨aR (by omega) _,aR (by omega) _⟩
 rcases List.mem_cons.1 ha with rfl | ha
 ·exact h _
 rw[List.mem_singleton]at ha
 rw[ha]
 exact h _,⟨aR (by omega) _,aR (by omega) _⟩⟩
theorem LZ:∀y∈oH,sC y:=fun y hy=>by
 simp only[oH,Dh,List.not_mem_nil,or_false]at hy
 rcases hy with rfl | rfl | rfl <;> exact Sf
theorem MA:∀y∈xU,sC y:=fun y hy=>by
 simp only[xU,Dh,List.not_mem_nil,or_false]at hy
 rcases hy with rfl | rfl | rfl | rfl <;> exact Sf
theorem Ek:∀u∈qB,Sz 300 u.n:=fun u hu=>by
 simp only[qB,Dh,List.not_mem_nil,or_false]at hu
 rcases hu with rfl | rfl <;> (unfold Sz;decide+kernel)
theorem Zj:∀u∈tO,Sz 300 u.n:=fun u hu=>by
 simp only[tO,Dh,List.not_mem_nil,or_false]at hu
 rcases hu with rfl | rfl <;> (unfold Sz;decide+kernel)
theorem Bt {vs:List Vn}{y e:Int}{m:Nat}{ra rb:Tr}{l3:List Tr}(hf:(dD (cP y e) vs)<vs.length) (hl:vs.length≤1073741823):aG false Tryz.prog 41 [⟨95,0,[.t ra,.sl 1 0 vs.length,.t rb,.sl 2 0 m]⟩,⟨64,18,(vs.flatMap (cF true)).map .t⟩,⟨96,1,(l3:List Tr).map .t⟩] [.one (.pt 0 0),.one (tv (.int .i64 y)),.one (tv (.int .i64 e))] (Rt [⟨95,0,[.t ra,.sl 1 0 vs.length,.t rb,.sl 2 0 m]⟩,⟨64,18,(vs.flatMap (cF true)).map .t⟩,⟨96,1,(l3:List Tr).map .t⟩] (.one (.pt 1 (0+(dD (cP y e) vs)*18)))):=by
 refine nG Tryz.func41 rfl Tryz.ntmps41 rfl aB rfl fun N9 M9 w9 c0 h0=>?_
 refine sq (rl (bx 3 ?_));refine WL.sub (Il (i:=4) (k:=3) (t:=3) (l:=[.v (.int .i64 y)]) rfl rfl rfl (.one .sl)) ?_;refine bx 4 ?_
 refine WL.sub (Il (i:=5) (k:=4) (t:=3) (l:=[.v (.int .i64 e)]) rfl rfl rfl (.one .sl)) ?_;refine o1 ?_;refine nl (sq (rl ?_));(iterate 4 refine o1 ?_);refine ld ?_
 refine o1 ?_
 refine ca (HZ (xs:=vs) (dl:=cP y e) (fd:=75) (fst:=[]) (caps:=[.p false 3 [.v (.int .i64 y)],.p false 3 [.v (.int .i64 e)]]) QZ (fun x _=>Ri) hl) RA ⟨xT rfl (.sr (trs:=vs.flatMap (cF true)) rfl rfl (aN _ _ rfl) (bE (cQ true) vs) (yN true vs)),a1 rfl,rfl⟩ (.one (tv (.int .i64 (pY (cP y e) vs)))) ?_
 refine WL.cast (t:=14) (u':=.int .i64 (((dD (cP y e) vs):Nat):Int)) rfl (dZ (show pY (cP y e) vs=_ from if_neg (by omega))) ?_
 refine o1 ?_;refine nl (sq (rl ?_));(iterate 4 refine o1 ?_);refine ld ?_;(iterate 3 refine o1 ?_);refine nl (rt ?_)
 exact hJ (lent':=[⟨95,0,[.t ra,.sl 1 0 vs.length,.t rb,.sl 2 0 m]⟩,⟨64,18,(vs.flatMap (cF true)).map .t⟩,⟨96,1,(l3:List Tr).map .t⟩]) (.inl rfl) rfl (bD (.one (.rf rfl rfl))) (by decide) (fun _ h=>by cases h) ⟨⟨rfl,rfl⟩,⟨rfl,rfl⟩,⟨rfl,rfl⟩,trivial⟩ ⟨rfl,rfl,rfl,trivial⟩ ⟨rfl,cK _,cK _,trivial⟩ (fun h=>by cases h) ⟨rfl,rfl⟩
theorem Pw {vs:List Vn}{y e:Int}{m n1 n2:Nat}{ra rb:Tr}{l2 l3 l4:List Tr}{w1 w2 w3 w4 w5:Value}(hf:(dD (cP y e) vs)<vs.length) (hl:vs.length≤1073741823):aG false Tryz.prog 41 [⟨95,0,[.t ra,.sl 1 0 vs.length,.sl 2 0 m,.t rb]⟩,⟨64,18,(vs.flatMap (cF true)).map .t⟩,⟨58,7,(l2:List Tr).map .t++[tv w1,tv w2,tv w3,tv w4,.sl 3 0 n1,tv w5,.sl 4 0 n2]⟩,⟨113,1,(l3:List Tr).map .t⟩,⟨113,1,(l4:List Tr).map .t⟩] [.one (.pt 0 0),.one (tv (.int .i64 y)),.one (tv (.int .i64 e))] (Rt [⟨95,0,[.t ra,.sl 1 0 vs.length,.sl 2 0 m,.t rb]⟩,⟨64,18,(vs.flatMap (cF true)).map .t⟩,⟨58,7,(l2:List Tr).map .t++[tv w1,tv w2,tv w3,tv w4,.sl 3 0 n1,tv w5,.sl 4 0 n2]⟩,⟨113,1,(l3:List Tr).map .t⟩,⟨113,1,(l4:List Tr).map .t⟩] (.one (.pt 1 (0+(dD (cP y e) vs)*18)))):=by
 refine nG Tryz.func41 rfl Tryz.ntmps41 rfl aB rfl fun N9 M9 w9 c0 h0=>?_
 refine sq (rl (bx 5 ?_));refine WL.sub (Il (i:=4) (k:=5) (t:=3) (l:=[.v (.int .i64 y)]) rfl rfl rfl (.one .sl)) ?_;refine bx 6 ?_
 refine WL.sub (Il (i:=5) (k:=6) (t:=3) (l:=[.v (.int .i64 e)]) rfl rfl rfl (.one .sl)) ?_;refine o1 ?_;refine nl (sq (rl ?_));(iterate 4 refine o1 ?_);refine ld ?_
 refine o1 ?_
 refine ca (HZ (xs:=vs) (dl:=cP y e) (fd:=75) (fst:=[]) (caps:=[.p false 3 [.v (.int .i64 y)],.p false 3 [.v (.int .i64 e)]]) QZ (fun x _=>Ri) hl) RA ⟨xT rfl (.sr (trs:=vs.flatMap (cF true)) rfl rfl (aN _ _ rfl) (bE (cQ true) vs) (yN true vs)),a1 rfl,rfl⟩ (.one (tv (.int .i64 (pY (cP y e) vs)))) ?_
 refine WL.cast (t:=14) (u':=.int .i64 (((dD (cP y e) vs):Nat):Int)) rfl (dZ (show pY (cP y e) vs=_ from if_neg (by omega))) ?_
 refine o1 ?_;refine nl (sq (rl ?_));(iterate 4 refine o1 ?_);refine ld ?_;(iterate 3 refine o1 ?_);refine nl (rt ?_)
 exact hJ (lent':=[⟨95,0,[.t ra,.sl 1 0 vs.length,.sl 2 0 m,.t rb]⟩,⟨64,18,(vs.flatMap (cF true)).map .t⟩,⟨58,7,(l2:List Tr).map .t++[tv w1,tv w2,tv w3,tv w4,.sl 3 0 n1,tv w5,.sl 4 0 n2]⟩,⟨113,1,(l3:List Tr).map .t⟩,⟨113,1,(l4:List Tr).map .t⟩]) (.inl rfl) rfl (bD (.one (.rf rfl rfl))) (by decide) (fun _ h=>by cases h) ⟨⟨rfl,rfl⟩,⟨rfl,rfl⟩,⟨rfl,rfl⟩,⟨rfl,rfl⟩,⟨rfl,rfl⟩,trivial⟩ ⟨rfl,rfl,rfl,rfl,rfl,trivial⟩ ⟨rfl,cK _,Ik (cK _) rfl,cK _,cK _,trivial⟩ (fun h=>by cases h) ⟨rfl,rfl⟩
theorem MB {a:Fr4}{p:Rat}{xs:List Fr4}(ha:Qn a p) (hx:∀x∈xs,x.ok) (hl:xs.length≤1099511627776):aG true Tryz.prog 51 [] [qF a,.one (.t (sQ false xs)),.one (.t (.f 147 [] []))] (aU (qO (aJ p (xs.map Fr4.q)))):=by
 refine cC Tryz.func51 rfl Tryz.ntmps51 rfl aB rfl fun N w c0 h0=>?_
 have hz:∀x∈xs,Sz 68719476736 x.q:=fun x h=>(show Qn x x.q from⟨hx x h,rfl⟩).sz
 refine sq (rl (bx 0 ?_));refine al 1 ?_;refine nl (sq (rl (ld ?_)));refine ca (kS ha) mT ⟨aD rfl,rfl⟩ (qF (.of p)) ?_
 refine ca (iL (z:=0) (by omega) (by omega)) qN ⟨a1 rfl,rfl⟩ (qF (.of ((0:Int):Rat))) ?_
 refine iM 2 (Eb ha.sz) Gc ⟨aD rfl,aD rfl,rfl⟩ ?_;refine al 4 ?_;refine st ?_;refine nl (sq (sq (rl ?_)));(iterate 3 refine o1 ?_);refine nl (bl ?_)
 refine lp (γ:=Nat) (fun k=>bS [(2,.one (.t (.f 147 [] []))),(6,.one (.pt 0 0)),(7,.one (.pt 1 0)),(14,.one (.t (sQ false xs))),(15,.one (tv (.int .i64 ((xs.length:Nat):Int)))),(16,.one (tv (.int .i64 ((k:Nat):Int))))]) (fun k=>[(⟨48,0,[tv (.bool false),tv (.slice none 0 0),tv (.bool false),tv (.slice none 0 0)]⟩:Ob),⟨48,0,[tv (.bool (aM (aJ p ((xs.take k).map Fr4.q)).num)),.sl 2 0 (dg 4294967296 (aJ p ((xs.take k).map Fr4.q)).num.natAbs).length,tv (.bool false),.sl 3 0 (dg 4294967296 (aJ p ((xs.take k).map Fr4.q)).den).length]⟩,⟨113,1,(aI (dg 4294967296 (aJ p ((xs.take k).map Fr4.q)).num.natAbs)).map .t⟩,⟨113,1,(aI (dg 4294967296 (aJ p ((xs.take k).map Fr4.q)).den)).map .t⟩].map some) (fun k=>k≤xs.length∧Sz 68719476736 (aJ p ((xs.take k).map Fr4.q))) (fun k=>xs.length-k) 0 ⟨Nat.zero_le _,ha.sz⟩ (aW h0 [1,4,2,3] ⟨oe rfl rfl,oe rfl rfl,aC rfl,aC rfl,rfl⟩) fun k hk=>?_
 refine sq (rl (o1 ?_));refine nl (sq ?_);refine bL rfl (fun h1=>?_) (fun h1=>?_)
 ·refine sk (sq (bl (sq (rl (o1 ?_)))));refine eE ((cZ xs (k)).tr false) (iE xs (k:=k) (by omega)) ?_
  refine al 4 ?_;refine st ?_;refine nl (sq ?_);refine rd [0,1,4] (fun i=>[].contains i) mixed ?_
  refine dv 0 ?_;refine aO 1 ?_;refine dv 2 ?_;refine aO 4 ?_
  refine dcc 3 5 rfl rfl rfl (Yd (a:=.of (aJ p ((xs.take k).map Fr4.q)))) IB (oV rfl (.cons .t (.cons (.sl rfl rfl (aN _ _ rfl) (aP _)) (.cons .t (.cons (.sl rfl rfl (aN _ _ rfl) (aP _)) .nil))))) (Yc (a:=.of (aJ p ((xs.take k).map Fr4.q))) (b:=cZ xs k) (Qn.of (p:=(aJ p ((xs.take k).map Fr4.q))) hk.2) ⟨hx _ (fK (by omega)),rfl⟩) IC (aD rfl) ?_
  refine aV ?_;refine bL rfl (fun h2=>?_) (fun h2=>?_)
  ·refine rl (ld ?_);refine ca (kS ⟨hx _ (fK (by omega)),rfl⟩) mT ⟨aD rfl,rfl⟩ (qF (.of (cZ xs (k)).q)) ?_
   refine ca (iL (z:=0) (by omega) (by omega)) qN ⟨a1 rfl,rfl⟩ (qF (.of ((0:Int):Rat))) ?_
   refine iM 5 (Eb (hz _ (fK (by omega)))) Gc ⟨aD rfl,aD rfl,rfl⟩ ?_
   refine st ?_;refine nl (rl (o1 ?_));refine aZ 30 (k+1) ?_
   refine o1 ?_;refine nl ?_;have hst:(aJ p ((xs.take (k+1)).map Fr4.q))=(cZ xs k).q:=by rw[uN (by omega),tI];exact if_pos h2
   exact⟨k+1,by omega,⟨by omega,by rw[hst];exact hz _ (fK (by omega))⟩,aW h0 [0,1,5,6] ⟨oe rfl rfl,oe rfl (congrArg (fun q:Rat=>some (⟨48,0,[tv (.bool (aM q.num)),.sl 5 0 (dg 4294967296 q.num.natAbs).length,tv (.bool false),.sl 6 0 (dg 4294967296 q.den).length]⟩:Ob)) hst.symm),aC (congrArg (fun q:Rat=>some (⟨113,1,(aI (dg 4294967296 q.num.natAbs)).map .t⟩:Ob)) hst.symm),aC (congrArg (fun q:Rat=>some (⟨113,1,(aI (dg 4294967296 q.den)).map .t⟩:Ob)) hst.symm),rfl⟩⟩
  refine sk (rl (o1 ?_));refine aZ 30 (k+1) ?_
  refine o1 ?_;refine nl ?_;have hst:(aJ p ((xs.take (k+1)).map Fr4.q))=(aJ p ((xs.take k).map Fr4.q)):=by rw[uN (by omega),tI];exact if_neg h2
  exact⟨k+1,by omega,⟨by omega,by rw[hst];exact hk.2⟩,aW h0 [0,1,2,3] ⟨oe rfl rfl,oe rfl (congrArg (fun q:Rat=>some (⟨48,0,[tv (.bool (aM q.num)),.sl 2 0 (dg 4294967296 q.num.natAbs).length,tv (.bool false),.sl 3 0 (dg 4294967296 q.den).length]⟩:Ob)) hst.symm),aC (congrArg (fun q:Rat=>some (⟨113,1,(aI (dg 4294967296 q.num.natAbs)).map .t⟩:Ob)) hst.symm),aC (congrArg (fun q:Rat=>some (⟨113,1,(aI (dg 4294967296 q.den)).map .t⟩:Ob)) hst.symm),rfl⟩⟩
 refine ex (sq (rl (ld ?_)));refine st ?_;refine nl (rt ?_);have hkk:xs.take k=xs:=fF (by omega)
 exact en (.inl rfl) rfl (bD (.agg (.cons (.id rfl) (.cons (.sl (trs:=aI (dg 4294967296 (aJ p ((xs.take k).map Fr4.q)).num.natAbs)) rfl rfl (bP _) (aP _)) (.cons (.id rfl) (.cons (.sl (trs:=aI (dg 4294967296 (aJ p ((xs.take k).map Fr4.q)).den)) rfl rfl (bP _) (aP _)) .nil)))))) (by decide) (fun _=>by rw[hkk];exact sD _) (by rw[hkk];rfl)
theorem Zk {a:Fr4}{p:Rat}{xs:List Fr4}(ha:Qn a p) (hx:∀x∈xs,x.ok) (hl:xs.length≤1099511627776):aG true Tryz.prog 129 [] [qF a,.one (.t (sQ false xs))] (aU (qO (aJ p (xs.map Fr4.q)))):=by
 refine cC Tryz.func129 rfl Tryz.ntmps129 rfl aB rfl fun N w c0 h0=>?_
 refine sq (rl (bx 0 ?_));refine al 1 ?_;refine nl (sq (rl (ld ?_)));refine o1 ?_
 refine iM 2 (MB ha hx hl) PK ⟨aD rfl,a1 rfl,a1 rfl,rfl⟩ ?_;refine st ?_;refine nl (rt ?_)
 exact en (.inl rfl) rfl (bD (.agg (.cons (.id rfl) (.cons (.sl (trs:=aI (dg 4294967296 (aJ p (xs.map Fr4.q)).num.natAbs)) rfl rfl (bP _) (aP _)) (.cons (.id rfl) (.cons (.sl (trs:=aI (dg 4294967296 (aJ p (xs.map Fr4.q)).den)) rfl rfl (bP _) (aP _)) .nil)))))) (by decide) (fun _=>sD _) rfl
theorem As {p q:Rat}(hp:Sz 68719476736 p) (hq:Sz 68719476736 q):aG true Tryz.prog 129 [] [qF (.of p),.one (.t (sQ false [Fr4.of q]))] (aU (qO (aJ p [q]))):=by
 have h:=Zk (a:=.of p) (p:=p) (xs:=[Fr4.of q]) (Qn.of hp) (fun x hx=>by rw[List.mem_singleton]at hx;subst hx;exact(Qn.of hq).1) (by show 1≤_;omega)
 rw[show [Fr4.of q].map Fr4.q=[q] by rw[List.map_cons,Fr4.q_of];rfl]at h
 exact h
theorem Na {a:Fr4}{p v:Rat}(ha:Qn a p) (hv:Sz 68719476736 v):aG true Tryz.prog 129 [] [qF (.of v),.one (.t (sQ false [a]))] (aU (qO (aJ v [p]))):=by
 have h:=Zk (a:=.of v) (xs:=[a]) (Qn.of hv) (fun x hx=>by rw[List.mem_singleton]at hx;rw[hx];exact ha.1) (by simp)
 have e:[a].map Fr4.q=[p]:=by rw[←ha.2];rfl
 rwa[e]at h
theorem MC {t0 i:Nat}{rest:List Tr}{vs:List (Int×Rat)}{a:Fr4}{p:Rat}(ha:Qn a p) (hi:i<vs.length) (hv:Sz 68719476736 (aH vs (i)).2) (hl:vs.length≤1073741823):aG false Tryz.prog 124 [⟨t0,0,.sl 1 0 vs.length::rest.map .t⟩,⟨102,5,eB vs⟩,⟨113,1,(aI a.x).map .t⟩,⟨113,1,(aI a.y).map .t⟩] [.one (.pt 0 0),.one (tv (.int .i64 ((i:Nat):Int))),.agg [tv (.bool a.s),.sl 2 0 a.x.length,tv (.bool a.t),.sl 3 0 a.y.length]] (Rt [⟨t0,0,.sl 1 0 vs.length::rest.map .t⟩,⟨102,5,eB (vs.set (i) ((aH vs (i)).1,((aH vs (i)).2-(aJ (aH vs (i)).2 [p]))))⟩,⟨113,1,(aI a.x).map .t⟩,⟨113,1,(aI a.y).map .t⟩] (.agg ((cT false ((aH vs (i)).1,(aJ (aH vs (i)).2 [p]))).map .t))):=by
 refine nG Tryz.func124 rfl Tryz.ntmps124 rfl aB rfl fun N M w c0 h0=>?_
 have hn:Sz 68719476736 (aJ (aH vs (i)).2 [p]):=pH hv fun q hq=>by rw[List.mem_singleton]at hq;rw[hq];exact ha.sz
 have hix:i<vs.length:=hi
 refine sq (rl (bx 4 ?_));refine al 5 ?_;refine nl (sq (rl ?_));(iterate 3 refine o1 ?_);refine ld ?_;(iterate 3 refine o1 ?_);refine nl ?_
 refine md (γ:=Unit) (fun _=>bS [(6,.one (.pt 4 0)),(7,.one (.pt 1 (0+i*5))),(8,.one (.pt 5 0))]) (fun _=>([⟨t0,0,.sl 1 0 vs.length::rest.map .t⟩,⟨102,5,eB vs⟩,⟨113,1,(aI a.x).map .t⟩,⟨113,1,(aI a.y).map .t⟩,⟨102,0,[tv (.int .i64 0),tv (.bool false),tv (.slice none 0 0),tv (.bool false),tv (.slice none 0 0)]⟩,⟨48,0,((Fr4.of (aJ (aH vs (i)).2 [p])).tr false).map .t⟩]:List Ob).map some) (fun _=>True) ?_ fun _ _=>?_
 ·refine rd [0,1,2,3,4,5] (fun i=>[8].contains i) mixed ?_
  refine dv 0 ?_;refine dv 1 ?_;refine dv 2 ?_;refine lH 3 (Ka (us:=vs) (k:=i) (by omega)) ?_
  refine aO 4 ?_;refine WO.two (i:=5) (j:=7) (by kernel_rfl) ?_ ?_
  ·refine Uv (key:=6) 5 rfl rfl ⟨rfl,rfl,rfl,rfl,rfl,rfl,trivial⟩ ?_;refine WO.two (i:=6) (j:=7) (by kernel_rfl) ?_ ?_
   ·refine fG 6 rfl (Na ha hv) oF ⟨aD rfl,RB rfl rfl rfl (.cons .t (.cons (.sl rfl rfl (aN _ _ rfl) (aP _)) (.cons .t (.cons (.sl rfl rfl (aN _ _ rfl) (aP _)) .nil)))) rfl,rfl⟩ (qF (.of (aJ (aH vs (i)).2 [p]))) ?_
    refine fU (key:=7) 7 (by kernel_rfl) rfl rfl aB rfl ⟨rfl,rfl,rfl,rfl,rfl,rfl,trivial⟩ ?_
    refine dst 8 ?_;refine aV ?_;exact⟨(),trivial,dH h0 [0,1,2,3,5,7] ⟨Rn rfl rfl,aC rfl,aC rfl,aC rfl,oe rfl rfl,aC rfl,rfl⟩⟩
   refine cG (key:=7) 7 rfl rfl aB rfl ⟨rfl,rfl,rfl,rfl,rfl,rfl,trivial⟩ ?_
   refine aX 6 rfl (Na ha hv) oF ⟨aD rfl,RB rfl rfl rfl (.cons .t (.cons (.sl rfl rfl (aN _ _ rfl) (aP _)) (.cons .t (.cons (.sl rfl rfl (aN _ _ rfl) (aP _)) .nil)))) rfl,rfl⟩ (qF (.of (aJ (aH vs (i)).2 [p]))) ?_
   refine dst 8 ?_;refine aV ?_;exact⟨(),trivial,dH h0 [0,1,2,3,5,7] ⟨Rn rfl rfl,aC rfl,aC rfl,aC rfl,oe rfl rfl,aC rfl,rfl⟩⟩
  refine cG (key:=6) 7 rfl rfl aB rfl ⟨rfl,rfl,rfl,rfl,rfl,rfl,trivial⟩ ?_;refine iU (key:=7) 5 (by kernel_rfl) rfl rfl aB rfl ⟨rfl,rfl,rfl,rfl,rfl,rfl,trivial⟩ ?_
  refine aX 6 rfl (Na ha hv) oF ⟨aD rfl,RB rfl rfl rfl (.cons .t (.cons (.sl rfl rfl (aN _ _ rfl) (aP _)) (.cons .t (.cons (.sl rfl rfl (aN _ _ rfl) (aP _)) .nil)))) rfl,rfl⟩ (qF (.of (aJ (aH vs (i)).2 [p]))) ?_
  refine dst 8 ?_;refine aV ?_;exact⟨(),trivial,dH h0 [0,1,2,3,5,6] ⟨Rn rfl rfl,aC rfl,aC rfl,aC rfl,oe rfl rfl,aC rfl,rfl⟩⟩
 refine sq ?_;refine rd [0,1,2,3,4,5] (fun i=>[7,8,9].contains i) mixed ?_
 refine dv 0 ?_;refine dv 1 ?_;refine dv 2 ?_;refine dv 3 ?_;refine lH 4 (Ka (us:=vs) (k:=i) (by omega)) ?_
 refine aO 5 ?_
 refine aX 6 rfl (Ak (Qn.of (p:=(aH vs (i)).2) hv) (Qn.of (p:=(aJ (aH vs (i)).2 [p])) hn)) Ge ⟨aD rfl,aD rfl,rfl⟩ (qF (.of ((aH vs (i)).2-(aJ (aH vs (i)).2 [p])))) ?_
 refine eQ 7 (by kernel_rfl) rfl rfl aB rfl (by trivial) ?_ (fun h=>by first | rfl | cases h)
 refine eQ 8 (by kernel_rfl) rfl rfl aB rfl (by trivial) ?_ (fun h=>by first | rfl | cases h)
 refine lX 9 (IF (us:=vs) (k:=i) (q:=((aH vs (i)).2-(aJ (aH vs (i)).2 [p]))) (by omega)) (Rp (us:=vs) (k:=i) (by omega)) ?_
 refine aV ?_;refine sq ?_;refine rd [0,1,2,3,4,5] (fun i=>[6].contains i) mixed ?_
 refine dv 0 ?_;refine dv 1 ?_;refine dv 2 ?_
 refine La 3 (Uw (us:=(vs.set (i) ((aH vs (i)).1,((aH vs (i)).2-(aJ (aH vs (i)).2 [p]))))) (k:=i) (by rw[List.length_set];omega)) ?_
 refine aO 4 ?_;refine dv 5 ?_;refine dst 6 ?_;refine aV ?_;refine rt ?_
 exact hJ (lent':=[⟨t0,0,.sl 1 0 vs.length::rest.map .t⟩,⟨102,5,eB (vs.set (i) ((aH vs (i)).1,((aH vs (i)).2-(aJ (aH vs (i)).2 [p]))))⟩,⟨113,1,(aI a.x).map .t⟩,⟨113,1,(aI a.y).map .t⟩]) (.inl rfl) rfl (bD (.agg (.cons (.id rfl) (.cons (.id rfl) (.cons (.id rfl) (.cons (.id rfl) (.cons (.id rfl) .nil))))))) (by decide) (fun _ h=>by cases h) ⟨⟨rfl,rfl⟩,⟨rfl,rfl⟩,⟨rfl,rfl⟩,⟨rfl,rfl⟩,trivial⟩ ⟨rfl,rfl,rfl,rfl,trivial⟩ ⟨cK rest,cK _,cK _,cK _,trivial⟩ (fun h=>by cases h) ⟨rfl,by rw[Cn hi];rfl⟩
theorem Is {t0 i:Nat}{rest:List Tr}{us vs:List (Int×Rat)}{x:Int×Rat}{a:Fr4}{p:Rat}(ha:Qn a p) (hnx:aH us i=x) (hi:i<us.length) (hul:us.length=vs.length) (hv:Sz 68719476736 x.2) (hl:vs.length≤1073741823):aG false Tryz.prog 124 [⟨t0,0,.sl 1 0 vs.length::rest.map .t⟩,⟨102,5,eB us⟩,⟨113,1,(aI a.x).map .t⟩,⟨113,1,(aI a.y).map .t⟩] [.one (.pt 0 0),.one (tv (.int .i64 ((i:Nat):Int))),.agg [tv (.bool a.s),.sl 2 0 a.x.length,tv (.bool a.t),.sl 3 0 a.y.length]] (Rt [⟨t0,0,.sl 1 0 vs.length::rest.map .t⟩,⟨102,5,eB (us.set i (x.1,x.2-aJ x.2 [p]))⟩,⟨113,1,(aI a.x).map .t⟩,⟨113,1,(aI a.y).map .t⟩] (.agg ((cT false (x.1,aJ x.2 [p])).map .t))):=by
 subst hnx
 rw[←hul]
 exact MC ha hi hv (by omega)
theorem RC {vs:List (Int×Rat)}{last fr:Int}{put:Bool}{a:Fr4}{p:Rat}(ha:Qn a p) (hl:vs.length≤1073741823) (hw:gP (vs.map Prod.snd)+wt p+2*vs.length≤17179869184) (hzU:∀x∈(aS fr vs p).1,Sz 68719476736 x.2):aG false Tryz.prog 100 [⟨137,0,[.t (sR 102 vs),tv (.int .i64 last),tv (.bool put)]⟩,⟨113,1,(aI a.x).map .t⟩,⟨113,1,(aI a.y).map .t⟩] [.one (.pt 0 0),.one (tv (.int .i64 fr)),.agg [tv (.bool a.s),.sl 1 0 a.x.length,tv (.bool a.t),.sl 2 0 a.y.length]] (Rt [⟨137,0,[.t (sR 102 (eI tJ (aS fr vs p).1)),tv (.int .i64 last),tv (.bool put)]⟩,⟨113,1,(aI a.x).map .t⟩,⟨113,1,(aI a.y).map .t⟩] (.one (.t (sO 102 (aS fr vs p).2.1)))):=by
 refine nG Tryz.func100 rfl Tryz.ntmps100 rfl aB rfl fun N M w c0 h0=>?_
 refine WP.sub (oE (j:=0) (key:=3) (p:=0) (e:=102) (z:=5) (n:=vs.length) (trs:=vs.flatMap (cT false)) rfl rfl rfl rfl rfl) ?_;refine sq (rl (bx 4 ?_));refine o1 ?_
 refine nl (sq (sq (rl (o1 ?_))));refine o1 ?_;refine nl (gD rfl (sk (sq (rl (o1 ?_)))));refine nl (sq ?_)
 refine sq (rl ?_);(iterate 4 refine o1 ?_);refine ld ?_;refine o1 ?_;refine o1 ?_;refine nl (bl ?_)
 refine lp (γ:=Nat×Fr4×Bool) (fun s=>bS [(0,.one (.pt 0 0)),(1,.one (tv (.int .i64 fr))),(5,.one (.pt 4 0)),(7,.one (.sl 5 0 ((aS fr (vs.take s.1) p).2.1.length))),(17,.one (.sl 3 0 (vs.length))),(18,.one (tv (.int .i64 ((vs.length:Nat):Int)))),(19,.one (tv (.int .i64 ((s.1:Nat):Int))))]) (fun s=>[(⟨137,0,[.sl 3 0 vs.length,tv (.int .i64 last),tv (.bool put)]⟩:Ob),⟨113,1,(aI a.x).map .t⟩,⟨113,1,(aI a.y).map .t⟩,⟨102,5,eB ((aS fr (vs.take s.1) p).1++vs.drop s.1)⟩,(bif s.2.2 then⟨48,0,((s.2.1).tr false).map .t⟩else⟨48,0,[tv (.bool a.s),.sl 1 0 a.x.length,tv (.bool a.t),.sl 2 0 a.y.length]⟩),⟨102,5,pZ (aS fr (vs.take s.1) p).2.1⟩].map some) (fun s=>s.1≤vs.length∧Qn s.2.1 (aS fr (vs.take s.1) p).2.2∧wt (aS fr (vs.take s.1) p).2.2≤gP ((vs.take s.1).map Prod.snd)+wt p+2*s.1∧(aS fr (vs.take s.1) p).2.1.length≤s.1∧(s.2.2=false→s.2.1=a)) (fun s=>vs.length-s.1) (0,a,false) ⟨Nat.zero_le _,ha,by simp[aS,gP],bC _,fun _=>rfl⟩ ((nr (i:=7) 5 102 5 rfl rfl rfl rfl).trans (dH h0 [0,1,2,3,4,5] ⟨oe rfl rfl,aC rfl,aC rfl,aC rfl,oe rfl rfl,oe rfl rfl,rfl⟩)) ?_
 rintro⟨k,m,b⟩ ⟨hk,hm,hb,hgl,hba⟩;dsimp only at hk hm hb hgl hba⊢;rcases b with _ | _
 ·obtain rfl:=(hba rfl).symm
  refine sq (rl (o1 ?_));refine nl (sq ?_);refine bL rfl (fun h1=>?_) (fun h1=>?_)
  ·refine sk (sq (bl (sq ?_)));have hal:(aS fr (vs.take k) p).1.length=k:=by rw[wV,eA,Nat.min_eq_left hk]
   have hul:((aS fr (vs.take k) p).1++vs.drop k).length=vs.length:=by rw[cO,hal,List.length_drop];omega
   have hnx:aH ((aS fr (vs.take k) p).1++vs.drop k) k=(aH vs k):=Nb (by rw[←qC (by omega)]) hal
   have hvw:wt (aH vs k).2≤gP (vs.map Prod.snd):=Gq (List.mem_map.2 ⟨_,mQ (by omega),rfl⟩)
   have hwk:gP ((vs.take (k+1)).map Prod.snd)=gP ((vs.take k).map Prod.snd)+wt (aH vs k).2:=by rw[lG (by omega),List.map_append,rE];simp[gP]
   have hwl:gP ((vs.take (k+1)).map Prod.snd)≤gP (vs.map Prod.snd):=Sg ((List.take_sublist _ _).map _)
   have hszv:Sz 17179869184 (aH vs k).2:=mH.2 (by have h9:wt (aH vs k).2=vD (aH vs k).2+1:=rfl;omega)
   have hszr:Sz 17179869184 (aS fr (vs.take k) p).2.2:=mH.2 (by have h9:wt (aS fr (vs.take k) p).2.2=vD (aS fr (vs.take k) p).2.2+1:=rfl;omega)
   have hszn:Sz 17179869184 (aJ (aH vs k).2 [(aS fr (vs.take k) p).2.2]):=pH hszv (fun q hq=>by rw[List.mem_singleton]at hq;rw[hq];exact hszr)
   have hszm:Sz 68719476736 ((aS fr (vs.take k) p).2.2-(aJ (aH vs k).2 [(aS fr (vs.take k) p).2.2])):=(jZ hszr hszn).mono (by omega)
   refine rl (o1 ?_);refine o1 ?_
   refine Mi (us:=(cT false (aH vs k)).map .t) (by have h9:=Ed (us:=((aS fr (vs.take k) p).1++vs.drop k)) (k:=k) (by rw[hul];omega);rwa[hnx]at h9) ?_
   refine al 6 ?_;refine o1 ?_;refine st ?_;refine nl (sq (rl (o1 ?_)));refine ld ?_;(iterate 3 refine o1 ?_)
   refine WL.split (t:=28) rfl (fun h2=>?_) (fun h2=>?_)
   ·refine ld ?_
    refine ca (oB hm) wH ⟨oV rfl (.cons .t (.cons (.sl rfl rfl (aN _ _ rfl) (aP _)) (.cons .t (.cons (.sl rfl rfl (aN _ _ rfl) (aP _)) .nil)))),rfl⟩ (.one (tv (.int .i64 (aS fr (vs.take k) p).2.2.num.sign))) ?_
    refine o1 ?_;refine o1 ?_;refine nl ?_;refine bL rfl (fun h3=>?_) (fun h3=>?_)
    ·refine md (γ:=Unit) (fun _=>bS [(0,.one (.pt 0 0)),(1,.one (tv (.int .i64 fr))),(5,.one (.pt 4 0)),(7,.one (.sl 5 0 ((aS fr (vs.take k) p).2.1.length))),(17,.one (.sl 3 0 (vs.length))),(18,.one (tv (.int .i64 ((vs.length:Nat):Int)))),(19,.one (tv (.int .i64 ((k:Nat):Int)))),(10,.one (.pt 6 0))]) (fun _=>([⟨137,0,[.sl 3 0 vs.length,tv (.int .i64 last),tv (.bool put)]⟩,⟨113,1,(aI a.x).map .t⟩,⟨113,1,(aI a.y).map .t⟩,⟨102,5,eB (((aS fr (vs.take k) p).1++vs.drop k).set (k) ((aH vs k).1,((aH vs k).2-(aJ (aH vs k).2 [(aS fr (vs.take k) p).2.2]))))⟩,⟨48,0,[tv (.bool a.s),.sl 1 0 a.x.length,tv (.bool a.t),.sl 2 0 a.y.length]⟩,⟨102,5,pZ (aS fr (vs.take k) p).2.1⟩,⟨102,0,(cT false ((aH vs k).1,(aJ (aH vs k).2 [(aS fr (vs.take k) p).2.2]))).map .t⟩]:List Ob).map some) (fun _=>True) ?_ fun _ _=>?_
     ·refine rd [4,6] (fun i=>[7].contains i) mixed ?_
      refine dv 0 ?_;refine dv 1 ?_;refine dv 2 ?_;refine dv 3 ?_;refine aO 4 ?_;refine WO.two (i:=5) (j:=6) (by kernel_rfl) ?_ ?_
      ·have htk:=Is (t0:=137) (rest:=[.v (.int .i64 last),.v (.bool put)]) (x:=(aH vs k)) hm (us:=((aS fr (vs.take k) p).1++vs.drop k)) (i:=k) hnx (by rw[hul];omega) hul (hszv.mono (by omega)) hl
       refine IJ 5 7 [0,3,1,2] rfl htk Kf ⟨oe rfl rfl,aC rfl,aC rfl,aC rfl,rfl⟩ ⟨rfl,rfl,rfl,rfl⟩ (ok:=[some ⟨137,0,[.sl 3 0 vs.length,tv (.int .i64 last),tv (.bool put)]⟩,some ⟨102,5,eB (((aS fr (vs.take k) p).1++vs.drop k).set (k) ((aH vs k).1,((aH vs k).2-(aJ (aH vs k).2 [(aS fr (vs.take k) p).2.2]))))⟩,some ⟨113,1,(aI a.x).map .t⟩,some ⟨113,1,(aI a.y).map .t⟩]) ⟨oe rfl rfl,aC rfl,aC rfl,aC rfl,rfl⟩ ⟨rfl,rfl,trivial⟩ ?_
       refine fU (key:=7) 6 (by kernel_rfl) rfl rfl aB rfl ⟨rfl,rfl,trivial⟩ ?_
       refine dst 7 ?_;refine aV ?_
       exact⟨(),trivial,dH h0 [0,1,2,3,4,5,7] ⟨oe rfl rfl,aC rfl,aC rfl,aC rfl,oe rfl rfl,aC rfl,aC rfl,rfl⟩⟩
      refine cG (key:=7) 6 rfl rfl aB rfl ⟨rfl,rfl,trivial⟩ ?_
      have htk:=Is (t0:=137) (rest:=[.v (.int .i64 last),.v (.bool put)]) (x:=(aH vs k)) hm (us:=((aS fr (vs.take k) p).1++vs.drop k)) (i:=k) hnx (by rw[hul];omega) hul (hszv.mono (by omega)) hl
      refine Rq 5 8 [0,3,1,2] rfl htk Kf ⟨oe rfl rfl,aC rfl,aC rfl,aC rfl,rfl⟩ ⟨rfl,rfl,rfl,rfl⟩ (ok:=[some ⟨137,0,[.sl 3 0 vs.length,tv (.int .i64 last),tv (.bool put)]⟩,some ⟨102,5,eB (((aS fr (vs.take k) p).1++vs.drop k).set (k) ((aH vs k).1,((aH vs k).2-(aJ (aH vs k).2 [(aS fr (vs.take k) p).2.2]))))⟩,some ⟨113,1,(aI a.x).map .t⟩,some ⟨113,1,(aI a.y).map .t⟩]) ⟨oe rfl rfl,aC rfl,aC rfl,aC rfl,rfl⟩ ⟨rfl,rfl,trivial⟩ ?_
      refine dst 7 ?_;refine aV ?_
      exact⟨(),trivial,dH h0 [0,1,2,3,4,5,7] ⟨oe rfl rfl,aC rfl,aC rfl,aC rfl,oe rfl rfl,aC rfl,aC rfl,rfl⟩⟩
     refine rd [0,4,6] (fun i=>[10].contains i) mixed ?_
     refine dv 0 ?_;refine aO 1 ?_;refine aO 5 ?_;refine dv 6 ?_;refine aO 7 ?_
     refine jX 7 2 rfl (uO (y:=(aH vs k).1) (Qn.of (p:=(aJ (aH vs k).2 [(aS fr (vs.take k) p).2.2])) hszn)) Ec ⟨aD rfl,rfl⟩ ?_
     refine iU (key:=9) 3 (by kernel_rfl) rfl rfl aB rfl ⟨rfl,rfl,rfl,trivial⟩ ?_
     refine kP (j:=10) 4 rfl aB rfl rfl rfl (.sl rfl (uQ _)) (.sl rfl rfl rfl) rfl rfl (by omega) (by omega) rfl ⟨rfl,rfl,rfl,trivial⟩ rfl (by kernel_rfl) rfl ?_
     refine aX 8 rfl (Ak hm (Qn.of (p:=(aJ (aH vs k).2 [(aS fr (vs.take k) p).2.2])) hszn)) Ge ⟨oV rfl (.cons .t (.cons (.sl rfl rfl (aN _ _ rfl) (aP _)) (.cons .t (.cons (.sl rfl rfl (aN _ _ rfl) (aP _)) .nil)))),aD rfl,rfl⟩ (qF (.of ((aS fr (vs.take k) p).2.2-(aJ (aH vs k).2 [(aS fr (vs.take k) p).2.2])))) ?_
     refine eQ 9 (by kernel_rfl) rfl rfl aB rfl (by trivial) ?_ (fun h=>by first | rfl | cases h)
     refine dst 10 ?_;refine aV ?_;refine rl (o1 ?_);refine aZ 48 (k+1) ?_
     refine o1 ?_;refine nl ?_;have hst:=(nJ (fr:=fr) p (by omega:k<vs.length)).trans (pL (s:=(aS fr (vs.take k) p)) (y:=(aH vs k).1) (q:=(aH vs k).2) h2 h3)
     refine⟨(k+1,Fr4.of ((aS fr (vs.take k) p).2.2-(aJ (aH vs k).2 [(aS fr (vs.take k) p).2.2])),true),by dsimp only;omega,?_,?_⟩
     ·dsimp only
      rw[hst]
      exact⟨by omega,Qn.of hszm,by dsimp only;have h9:=Si (aH vs k).2 (aS fr (vs.take k) p).2.2;omega,by dsimp only;rw[cO,List.length_singleton];omega,fun h9=>by cases h9⟩
     dsimp only
     rw[hst];dsimp only
     exact(PM (j:=10) (k1:=7) (k2:=8) (us:=(aS fr (vs.take k) p).2.1) (y:=(aH vs k).1) (q:=(aJ (aH vs k).2 [(aS fr (vs.take k) p).2.2])) rfl rfl rfl rfl rfl rfl).trans (mJ h0 [0,1,2,3,4,10] _ _ (by decide) rfl ⟨rfl,rfl,rfl,congrArg (fun n=>some (FV.one (.sl 10 0 n))) (show((aS fr (vs.take k) p).2.1++[((aH vs k).1,(aJ (aH vs k).2 [(aS fr (vs.take k) p).2.2]))]).length=(aS fr (vs.take k) p).2.1.length+1 by simp),rfl,rfl,rfl,trivial⟩ ⟨oe rfl rfl,aC rfl,aC rfl,aC (congrArg (fun l=>some (⟨102,5,eB l⟩:Ob)) (by rw[Nc (x:=(aH vs k)) (by rw[←qC (by omega)]) hal,List.append_assoc])),aC rfl,aC rfl,rfl⟩)
    refine sk (rl (o1 ?_));refine aZ 48 (k+1) ?_
    refine o1 ?_;refine nl ?_;have hst:=(nJ (fr:=fr) p (by omega:k<vs.length)).trans (nK (s:=(aS fr (vs.take k) p)) (x:=(aH vs k)) (fun hc=>h3 hc.2))
    refine⟨(k+1,a,false),by dsimp only;omega,?_,?_⟩
    ·dsimp only
     rw[hst];exact⟨by omega,hm,by dsimp only;omega,by dsimp only;omega,fun _=>rfl⟩
    dsimp only
    rw[hst];dsimp only
    exact(dH h0 [0,1,2,3,4,5] ⟨oe rfl rfl,aC rfl,aC rfl,aC (congrArg (fun l=>some (⟨102,5,eB l⟩:Ob)) (by rw[qC (k:=k) (by omega),List.append_assoc];rfl)),oe rfl rfl,aC rfl,rfl⟩)
   (iterate 3 refine dL ?_);refine o1 ?_;refine nl (gD rfl (sk (rl (o1 ?_))))
   refine aZ 48 (k+1) ?_
   refine o1 ?_;refine nl ?_;have hst:=(nJ (fr:=fr) p (by omega:k<vs.length)).trans (nK (s:=(aS fr (vs.take k) p)) (x:=(aH vs k)) (fun hc=>h2 hc.1))
   refine⟨(k+1,a,false),by dsimp only;omega,?_,?_⟩
   ·dsimp only
    rw[hst];exact⟨by omega,hm,by dsimp only;omega,by dsimp only;omega,fun _=>rfl⟩
   dsimp only
   rw[hst];dsimp only
   exact(dH h0 [0,1,2,3,4,5] ⟨oe rfl rfl,aC rfl,aC rfl,aC (congrArg (fun l=>some (⟨102,5,eB l⟩:Ob)) (by rw[qC (k:=k) (by omega),List.append_assoc];rfl)),oe rfl rfl,aC rfl,rfl⟩)
  refine ex (sq (rl ?_));(iterate 3 refine o1 ?_);have hkk:vs.take k=vs:=fF (by omega)
  have hU9:((aS fr (vs.take k) p).1++vs.drop k)=(aS fr vs p).1:=by rw[hkk,List.drop_of_length_le (by omega),List.append_nil]
  have hG9:(aS fr (vs.take k) p).2.1=(aS fr vs p).2.1:=by rw[hkk]
  have hul9:(aS fr vs p).1.length=vs.length:=wV fr vs p
  refine WL.sub (iH (j:=0) (k:=3) (p:=0) (n:=vs.length) (trs:=(aS fr vs p).1.flatMap (cT false)) rfl rfl rfl (congrArg (fun l=>some (⟨102,5,eB l⟩:Ob)) hU9) rfl (aN _ _ (by rw[bM,hul9])) (by rw[bM,hul9]) rfl) ?_
  have hsw:=Aj (t0:=137) (rest:=[.v (.int .i64 last),.v (.bool put)]) (vs:=(aS fr vs p).1) (dl:=tJ) (fst:=[]) (caps:=[]) IK (fun x hx=>Yj (y:=x.1) (q:=x.2) (hzU x hx)) (by rw[hul9];exact hl)
  rw[show sR 102 (aS fr vs p).1=.s true 102 5 vs.length ((aS fr vs p).1.flatMap (cT false)) by rw[←hul9];rfl]at hsw
  refine cl 6 [0] hsw Kb ⟨oe rfl rfl,rfl⟩ ⟨rfl,rfl,rfl⟩ (ok:=[some ⟨137,0,[.t (sR 102 (eI tJ (aS fr vs p).1)),tv (.int .i64 last),tv (.bool put)]⟩]) ⟨oe rfl rfl,rfl⟩ ?_
  refine nl (sq (rl (o1 ?_)));refine o1 ?_;refine nl (rt ?_)
  exact hJ (lent':=[⟨137,0,[.t (sR 102 (eI tJ (aS fr vs p).1)),tv (.int .i64 last),tv (.bool put)]⟩,⟨113,1,(aI a.x).map .t⟩,⟨113,1,(aI a.y).map .t⟩]) (.inl rfl) rfl (bD (.one (.sl (trs:=(aS fr (vs.take k) p).2.1.flatMap (cT true)) rfl rfl (aN _ _ (bM true _)) (bM true _)))) (by decide) (by simp) ⟨⟨rfl,rfl⟩,⟨rfl,rfl⟩,⟨rfl,rfl⟩,trivial⟩ ⟨rfl,rfl,rfl,trivial⟩ ⟨rfl,cK _,cK _,trivial⟩ (fun h=>by cases h) ⟨rfl,by rw[hG9];rfl⟩
 refine sq (rl (o1 ?_));refine nl (sq ?_);refine bL rfl (fun h4=>?_) (fun h4=>?_)
 ·refine sk (sq (bl (sq ?_)));have hal:(aS fr (vs.take k) p).1.length=k:=by rw[wV,eA,Nat.min_eq_left hk]
  have hul:((aS fr (vs.take k) p).1++vs.drop k).length=vs.length:=by rw[cO,hal,List.length_drop];omega
  have hnx:aH ((aS fr (vs.take k) p).1++vs.drop k) k=(aH vs k):=Nb (by rw[←qC (by omega)]) hal
  have hvw:wt (aH vs k).2≤gP (vs.map Prod.snd):=Gq (List.mem_map.2 ⟨_,mQ (by omega),rfl⟩)
  have hwk:gP ((vs.take (k+1)).map Prod.snd)=gP ((vs.take k).map Prod.snd)+wt (aH vs k).2:=by rw[lG (by omega),List.map_append,rE];simp[gP]
  have hwl:gP ((vs.take (k+1)).map Prod.snd)≤gP (vs.map Prod.snd):=Sg ((List.take_sublist _ _).map _)
  have hszv:Sz 17179869184 (aH vs k).2:=mH.2 (by have h9:wt (aH vs k).2=vD (aH vs k).2+1:=rfl;omega)
  have hszr:Sz 17179869184 (aS fr (vs.take k) p).2.2:=mH.2 (by have h9:wt (aS fr (vs.take k) p).2.2=vD (aS fr (vs.take k) p).2.2+1:=rfl;omega)
  have hszn:Sz 17179869184 (aJ (aH vs k).2 [(aS fr (vs.take k) p).2.2]):=pH hszv (fun q hq=>by rw[List.mem_singleton]at hq;rw[hq];exact hszr)
  have hszm:Sz 68719476736 ((aS fr (vs.take k) p).2.2-(aJ (aH vs k).2 [(aS fr (vs.take k) p).2.2])):=(jZ hszr hszn).mono (by omega)
  refine rl (o1 ?_);refine o1 ?_
  refine Mi (us:=(cT false (aH vs k)).map .t) (by have h9:=Ed (us:=((aS fr (vs.take k) p).1++vs.drop k)) (k:=k) (by rw[hul];omega);rwa[hnx]at h9) ?_
  refine al 6 ?_;refine o1 ?_;refine st ?_;refine nl (sq (rl (o1 ?_)));refine ld ?_;(iterate 3 refine o1 ?_)
  refine WL.split (t:=28) rfl (fun h5=>?_) (fun h5=>?_)
  ·refine ld ?_;refine ca (oB hm) wH ⟨aD rfl,rfl⟩ (.one (tv (.int .i64 (aS fr (vs.take k) p).2.2.num.sign))) ?_;refine o1 ?_;refine o1 ?_;refine nl ?_
   refine bL rfl (fun h6=>?_) (fun h6=>?_)
   ·refine md (γ:=Unit) (fun _=>bS [(0,.one (.pt 0 0)),(1,.one (tv (.int .i64 fr))),(5,.one (.pt 4 0)),(7,.one (.sl 5 0 ((aS fr (vs.take k) p).2.1.length))),(17,.one (.sl 3 0 (vs.length))),(18,.one (tv (.int .i64 ((vs.length:Nat):Int)))),(19,.one (tv (.int .i64 ((k:Nat):Int)))),(10,.one (.pt 6 0))]) (fun _=>([⟨137,0,[.sl 3 0 vs.length,tv (.int .i64 last),tv (.bool put)]⟩,⟨113,1,(aI a.x).map .t⟩,⟨113,1,(aI a.y).map .t⟩,⟨102,5,eB (((aS fr (vs.take k) p).1++vs.drop k).set (k) ((aH vs k).1,((aH vs k).2-(aJ (aH vs k).2 [(aS fr (vs.take k) p).2.2]))))⟩,⟨48,0,(m.tr false).map .t⟩,⟨102,5,pZ (aS fr (vs.take k) p).2.1⟩,⟨102,0,(cT false ((aH vs k).1,(aJ (aH vs k).2 [(aS fr (vs.take k) p).2.2]))).map .t⟩]:List Ob).map some) (fun _=>True) ?_ fun _ _=>?_
    ·refine rd [4,6] (fun i=>[7].contains i) mixed ?_
     refine dv 0 ?_;refine dv 1 ?_;refine dv 2 ?_;refine dv 3 ?_;refine aO 4 ?_;refine WO.two (i:=5) (j:=6) (by kernel_rfl) ?_ ?_
     ·have htk:=Mk (t0:=137) (rest:=[.v (.int .i64 last),.v (.bool put)]) (x:=(aH vs k)) hm (us:=((aS fr (vs.take k) p).1++vs.drop k)) (i:=k) hnx (by rw[hul];omega) hul (hszv.mono (by omega)) hl
      refine IJ 5 7 [0,3] rfl htk Kf ⟨oe rfl rfl,aC rfl,rfl⟩ ⟨rfl,rfl,rfl,rfl⟩ (ok:=[some ⟨137,0,[.sl 3 0 vs.length,tv (.int .i64 last),tv (.bool put)]⟩,some ⟨102,5,eB (((aS fr (vs.take k) p).1++vs.drop k).set (k) ((aH vs k).1,((aH vs k).2-(aJ (aH vs k).2 [(aS fr (vs.take k) p).2.2]))))⟩]) ⟨oe rfl rfl,aC rfl,rfl⟩ ⟨rfl,rfl,trivial⟩ ?_
      refine fU (key:=7) 6 (by kernel_rfl) rfl rfl aB rfl ⟨rfl,rfl,trivial⟩ ?_
      refine dst 7 ?_;refine aV ?_
      exact⟨(),trivial,dH h0 [0,1,2,3,4,5,7] ⟨oe rfl rfl,aC rfl,aC rfl,aC rfl,aC rfl,aC rfl,aC rfl,rfl⟩⟩
     refine cG (key:=7) 6 rfl rfl aB rfl ⟨rfl,rfl,trivial⟩ ?_
     have htk:=Mk (t0:=137) (rest:=[.v (.int .i64 last),.v (.bool put)]) (x:=(aH vs k)) hm (us:=((aS fr (vs.take k) p).1++vs.drop k)) (i:=k) hnx (by rw[hul];omega) hul (hszv.mono (by omega)) hl
     refine Rq 5 8 [0,3] rfl htk Kf ⟨oe rfl rfl,aC rfl,rfl⟩ ⟨rfl,rfl,rfl,rfl⟩ (ok:=[some ⟨137,0,[.sl 3 0 vs.length,tv (.int .i64 last),tv (.bool put)]⟩,some ⟨102,5,eB (((aS fr (vs.take k) p).1++vs.drop k).set (k) ((aH vs k).1,((aH vs k).2-(aJ (aH vs k).2 [(aS fr (vs.take k) p).2.2]))))⟩]) ⟨oe rfl rfl,aC rfl,rfl⟩ ⟨rfl,rfl,trivial⟩ ?_
     refine dst 7 ?_;refine aV ?_
     exact⟨(),trivial,dH h0 [0,1,2,3,4,5,7] ⟨oe rfl rfl,aC rfl,aC rfl,aC rfl,aC rfl,aC rfl,aC rfl,rfl⟩⟩
    refine rd [0,4,6] (fun i=>[10].contains i) mixed ?_
    refine dv 0 ?_;refine aO 1 ?_;refine aO 5 ?_;refine dv 6 ?_;refine aO 7 ?_
    refine jX 7 2 rfl (uO (y:=(aH vs k).1) (Qn.of (p:=(aJ (aH vs k).2 [(aS fr (vs.take k) p).2.2])) hszn)) Ec ⟨aD rfl,rfl⟩ ?_
    refine iU (key:=9) 3 (by kernel_rfl) rfl rfl aB rfl ⟨rfl,rfl,rfl,trivial⟩ ?_
    refine kP (j:=10) 4 rfl aB rfl rfl rfl (.sl rfl (uQ _)) (.sl rfl rfl rfl) rfl rfl (by omega) (by omega) rfl ⟨rfl,rfl,rfl,trivial⟩ rfl (by kernel_rfl) rfl ?_
    refine aX 8 rfl (Ak hm (Qn.of (p:=(aJ (aH vs k).2 [(aS fr (vs.take k) p).2.2])) hszn)) Ge ⟨aD rfl,aD rfl,rfl⟩ (qF (.of ((aS fr (vs.take k) p).2.2-(aJ (aH vs k).2 [(aS fr (vs.take k) p).2.2])))) ?_
    refine eQ 9 (by kernel_rfl) rfl rfl aB rfl (by trivial) ?_ (fun h=>by first | rfl | cases h)
    refine dst 10 ?_;refine aV ?_;refine rl (o1 ?_);refine aZ 48 (k+1) ?_
    refine o1 ?_;refine nl ?_;have hst:=(nJ (fr:=fr) p (by omega:k<vs.length)).trans (pL (s:=(aS fr (vs.take k) p)) (y:=(aH vs k).1) (q:=(aH vs k).2) h5 h6)
    refine⟨(k+1,Fr4.of ((aS fr (vs.take k) p).2.2-(aJ (aH vs k).2 [(aS fr (vs.take k) p).2.2])),true),by dsimp only;omega,?_,?_⟩
    ·dsimp only
     rw[hst]
     exact⟨by omega,Qn.of hszm,by dsimp only;have h9:=Si (aH vs k).2 (aS fr (vs.take k) p).2.2;omega,by dsimp only;rw[cO,List.length_singleton];omega,fun h9=>by cases h9⟩
    dsimp only
    rw[hst];dsimp only
    exact(PM (j:=10) (k1:=7) (k2:=8) (us:=(aS fr (vs.take k) p).2.1) (y:=(aH vs k).1) (q:=(aJ (aH vs k).2 [(aS fr (vs.take k) p).2.2])) rfl rfl rfl rfl rfl rfl).trans (mJ h0 [0,1,2,3,4,10] _ _ (by decide) rfl ⟨rfl,rfl,rfl,congrArg (fun n=>some (FV.one (.sl 10 0 n))) (show((aS fr (vs.take k) p).2.1++[((aH vs k).1,(aJ (aH vs k).2 [(aS fr (vs.take k) p).2.2]))]).length=(aS fr (vs.take k) p).2.1.length+1 by simp),rfl,rfl,rfl,trivial⟩ ⟨oe rfl rfl,aC rfl,aC rfl,aC (congrArg (fun l=>some (⟨102,5,eB l⟩:Ob)) (by rw[Nc (x:=(aH vs k)) (by rw[←qC (by omega)]) hal,List.append_assoc])),aC rfl,aC rfl,rfl⟩)
   refine sk (rl (o1 ?_));refine aZ 48 (k+1) ?_
   refine o1 ?_;refine nl ?_;have hst:=(nJ (fr:=fr) p (by omega:k<vs.length)).trans (nK (s:=(aS fr (vs.take k) p)) (x:=(aH vs k)) (fun hc=>h6 hc.2))
   refine⟨(k+1,m,true),by dsimp only;omega,?_,?_⟩
   ·dsimp only
    rw[hst];exact⟨by omega,hm,by dsimp only;omega,by dsimp only;omega,fun h9=>by cases h9⟩
   dsimp only
   rw[hst];dsimp only
   exact(dH h0 [0,1,2,3,4,5] ⟨oe rfl rfl,aC rfl,aC rfl,aC (congrArg (fun l=>some (⟨102,5,eB l⟩:Ob)) (by rw[qC (k:=k) (by omega),List.append_assoc];rfl)),aC rfl,aC rfl,rfl⟩)
  (iterate 3 refine dL ?_);refine o1 ?_;refine nl (gD rfl (sk (rl (o1 ?_))))
  refine aZ 48 (k+1) ?_
  refine o1 ?_;refine nl ?_;have hst:=(nJ (fr:=fr) p (by omega:k<vs.length)).trans (nK (s:=(aS fr (vs.take k) p)) (x:=(aH vs k)) (fun hc=>h5 hc.1))
  refine⟨(k+1,m,true),by dsimp only;omega,?_,?_⟩
  ·dsimp only
   rw[hst];exact⟨by omega,hm,by dsimp only;omega,by dsimp only;omega,fun h9=>by cases h9⟩
  dsimp only
  rw[hst];dsimp only
  exact(dH h0 [0,1,2,3,4,5] ⟨oe rfl rfl,aC rfl,aC rfl,aC (congrArg (fun l=>some (⟨102,5,eB l⟩:Ob)) (by rw[qC (k:=k) (by omega),List.append_assoc];rfl)),aC rfl,aC rfl,rfl⟩)
 refine ex (sq (rl ?_));(iterate 3 refine o1 ?_);have hkk:vs.take k=vs:=fF (by omega)
 have hU9:((aS fr (vs.take k) p).1++vs.drop k)=(aS fr vs p).1:=by rw[hkk,List.drop_of_length_le (by omega),List.append_nil]
 have hG9:(aS fr (vs.take k) p).2.1=(aS fr vs p).2.1:=by rw[hkk]
 have hul9:(aS fr vs p).1.length=vs.length:=wV fr vs p
 refine WL.sub (iH (j:=0) (k:=3) (p:=0) (n:=vs.length) (trs:=(aS fr vs p).1.flatMap (cT false)) rfl rfl rfl (congrArg (fun l=>some (⟨102,5,eB l⟩:Ob)) hU9) rfl (aN _ _ (by rw[bM,hul9])) (by rw[bM,hul9]) rfl) ?_
 have hsw:=Aj (t0:=137) (rest:=[.v (.int .i64 last),.v (.bool put)]) (vs:=(aS fr vs p).1) (dl:=tJ) (fst:=[]) (caps:=[]) IK (fun x hx=>Yj (y:=x.1) (q:=x.2) (hzU x hx)) (by rw[hul9];exact hl)
 rw[show sR 102 (aS fr vs p).1=.s true 102 5 vs.length ((aS fr vs p).1.flatMap (cT false)) by rw[←hul9];rfl]at hsw
 refine cl 6 [0] hsw Kb ⟨oe rfl rfl,rfl⟩ ⟨rfl,rfl,rfl⟩ (ok:=[some ⟨137,0,[.t (sR 102 (eI tJ (aS fr vs p).1)),tv (.int .i64 last),tv (.bool put)]⟩]) ⟨oe rfl rfl,rfl⟩ ?_
 refine nl (sq (rl (o1 ?_)));refine o1 ?_;refine nl (rt ?_)
 exact hJ (lent':=[⟨137,0,[.t (sR 102 (eI tJ (aS fr vs p).1)),tv (.int .i64 last),tv (.bool put)]⟩,⟨113,1,(aI a.x).map .t⟩,⟨113,1,(aI a.y).map .t⟩]) (.inl rfl) rfl (bD (.one (.sl (trs:=(aS fr (vs.take k) p).2.1.flatMap (cT true)) rfl rfl (aN _ _ (bM true _)) (bM true _)))) (by decide) (by simp) ⟨⟨rfl,rfl⟩,⟨rfl,rfl⟩,⟨rfl,rfl⟩,trivial⟩ ⟨rfl,rfl,rfl,trivial⟩ ⟨rfl,cK _,cK _,trivial⟩ (fun h=>by cases h) ⟨rfl,by rw[hG9];rfl⟩
theorem MD {vs:List (Int×Rat)}{last fr:Int}{put:Bool}{m:Rat}{n B:Nat}(hok:StOk vs n B) (hs:Sz 330 m) (hn:n≤50) (hB:B≤20000):aG false Tryz.prog 100 [⟨137,0,[.t (sR 102 vs),tv (.int .i64 last),tv (.bool put)]⟩,⟨113,1,(aI (dg 4294967296 m.num.natAbs)).map .t⟩,⟨113,1,(aI (dg 4294967296 m.den)).map .t⟩] [.one (.pt 0 0),.one (tv (.int .i64 fr)),.agg [tv (.bool (aM m.num)),.sl 1 0 (dg 4294967296 m.num.natAbs).length,tv (.bool false),.sl 2 0 (dg 4294967296 m.den).length]] (Rt [⟨137,0,[.t (sR 102 ((aS fr vs m).1.filter (fun x=> !nX x.1 x.2))),tv (.int .i64 last),tv (.bool put)]⟩,⟨113,1,(aI (dg 4294967296 m.num.natAbs)).map .t⟩,⟨113,1,(aI (dg 4294967296 m.den)).map .t⟩] (.one (.t (sO 102 (aS fr vs m).2.1)))):=by
 have h1:=mH.1 hs
 have h2:wt m=vD m+1:=rfl
 have h3:=hok.len
 have h4:=hok.size
 exact RC (fr:=fr) (a:=.of m) (Qn.of (p:=m) (hs.mono (M:=68719476736) (by omega))) (by omega) (by omega) (hok.zU (by omega))
set_option maxHeartbeats 4000000 in
theorem EX {vs:List Vn}{us:List Ur}{ls:List (List (Int×Rat)×Int×Bool)}{y e n B:Nat}{q m:Rat}{at9:Int}{ta:Tr}(he:e<ls.length) (hf:(dD (cP ((y:Nat):Int) ((e:Nat):Int)) vs)<vs.length) (hm3:Sz 320 m) (hu3:Sz 300 (bQ vs (dD (cP ((y:Nat):Int) ((e:Nat):Int)) vs)).u) (hok:StOk (dM ls e).1 n B) (hn:n≤50) (hB:B≤20000) (hlv:vs.length≤1073741823) (hlu:us.length≤1073741823) (hll:ls.length≤1073741823):rB false Tryz.prog 99 [⟨92,0,[.pt 2 0]⟩,⟨3,0,[tv (.int .i64 at9)]⟩,⟨95,0,[.t ta,.t (dG true true vs),.t (dA true true us),.t (eC ls)]⟩] [⟨113,1,(aI (dg 4294967296 m.num.natAbs)).map .t⟩,⟨113,1,(aI (dg 4294967296 m.den)).map .t⟩] [.agg ((aQ (⟨((y:Nat):Int),((e:Nat):Int),q⟩:Wv)).map .t),.agg [tv (.bool (aM m.num)),.sl 3 0 (dg 4294967296 m.num.natAbs).length,tv (.bool false),.sl 4 0 (dg 4294967296 m.den).length],.one (.pt 0 0),.one (.pt 1 0)] (Rt [⟨92,0,[.pt 2 0]⟩,⟨3,0,[tv (.int .i64 at9)]⟩,⟨95,0,[.t ta,.t (dG true true (vs.set (dD (cP ((y:Nat):Int) ((e:Nat):Int)) vs) (⟨(bQ vs (dD (cP ((y:Nat):Int) ((e:Nat):Int)) vs)).y,(bQ vs (dD (cP ((y:Nat):Int) ((e:Nat):Int)) vs)).e,(bQ vs (dD (cP ((y:Nat):Int) ((e:Nat):Int)) vs)).l,(bQ vs (dD (cP ((y:Nat):Int) ((e:Nat):Int)) vs)).u+m,(bQ vs (dD (cP ((y:Nat):Int) ((e:Nat):Int)) vs)).x,(bQ vs (dD (cP ((y:Nat):Int) ((e:Nat):Int)) vs)).c⟩:Vn))),.t (dA true true (us++[(⟨((y:Nat):Int),((e:Nat):Int),at9,m⟩:Ur)])),.t (eC (ls.set e (((aS ((y:Nat):Int) (dM ls e).1 m).1.filter (fun x=> !nX x.1 x.2)),(dM ls e).2.1,(dM ls e).2.2)))]⟩] (.tup [])):=by
 refine PA (lent:=[⟨92,0,[.pt 2 0]⟩,⟨3,0,[tv (.int .i64 at9)]⟩,⟨95,0,[.t ta,.t (dG true true vs),.t (dA true true us),.t (eC ls)]⟩]) Tryz.func99 rfl Tryz.ntmps99 rfl aB rfl fun N9 M9 w9 c0 h0=>?_
 have hm:Sz 68719476736 m:=hm3.mono (by omega)
 have hu:Sz 68719476736 (bQ vs (dD (cP ((y:Nat):Int) ((e:Nat):Int)) vs)).u:=hu3.mono (by omega)
 refine sq (rl (bx 5 ?_));refine bx 6 ?_;refine nl (sq ?_)
 refine WP.sub (oE (j:=2) (key:=7) (p:=3) (e:=96) (z:=1) (n:=ls.length) (trs:=ls.map eO) rfl rfl rfl rfl rfl) ?_
 refine WP.sub (Mr (j:=7) (key:=8) (p:=e) (e:=137) (trs:=[sR 102 (dM ls e).1,.v (.int .i64 (dM ls e).2.1),.v (.bool (dM ls e).2.2)]) rfl rfl (Ap he) rfl) ?_
 refine rd [0,1,2,5,6,7] (fun i=>[].contains i) mixed ?_
 refine aO 0 ?_;refine dv 1 ?_;refine dv 2 ?_;refine aO 3 ?_;refine dv 4 ?_;refine aO 5 ?_;refine WD.cast (t:=12) (u':=.int .i64 ((e:Nat):Int)) rfl (dZ rfl) ?_;refine dv 6 ?_
 refine La 7 (l:=((ls.map eO).map AV.t).set e (.pt 8 0)) (v:=.pt 8 0) (Eg (by rw[lJ];exact he)) ?_
 refine dv 8 ?_;refine aO 9 ?_;refine aO 10 ?_
 refine Rq 11 9 [8,3,4] rfl (MD (fr:=((y:Nat):Int)) (m:=m) hok (hm3.mono (by omega)) hn hB) VL ⟨oe rfl rfl,aC rfl,aC rfl,rfl⟩ ⟨rfl,rfl,rfl,rfl⟩ (ok:=[some ⟨137,0,[.t (sR 102 ((aS ((y:Nat):Int) (dM ls e).1 m).1.filter (fun x=> !nX x.1 x.2))),tv (.int .i64 (dM ls e).2.1),tv (.bool (dM ls e).2.2)]⟩,some ⟨113,1,(aI (dg 4294967296 m.num.natAbs)).map .t⟩,some ⟨113,1,(aI (dg 4294967296 m.den)).map .t⟩]) ⟨oe rfl rfl,aC rfl,aC rfl,rfl⟩ ⟨rfl,rfl,rfl,rfl,rfl,rfl,trivial⟩ ?_
 refine aV ?_;refine sq ?_
 refine WP.sub (Gj (j:=7) (k:=8) (p:=e) (e:=137) (trs:=[sR 102 ((aS ((y:Nat):Int) (dM ls e).1 m).1.filter (fun x=> !nX x.1 x.2)),.v (.int .i64 (dM ls e).2.1),.v (.bool (dM ls e).2.2)]) (l':=((ls.set e (((aS ((y:Nat):Int) (dM ls e).1 m).1.filter (fun x=> !nX x.1 x.2)),(dM ls e).2.1,(dM ls e).2.2)).map eO).map .t) rfl rfl rfl (List.getElem?_set_self (by rw[lJ];exact he)) (Mp (x:=(((aS ((y:Nat):Int) (dM ls e).1 m).1.filter (fun x=> !nX x.1 x.2)),(dM ls e).2.1,(dM ls e).2.2)))) ?_
 refine WP.sub (iH (j:=2) (k:=7) (p:=3) (e:=96) (z:=1) (n:=ls.length) (trs:=(ls.set e (((aS ((y:Nat):Int) (dM ls e).1 m).1.filter (fun x=> !nX x.1 x.2)),(dM ls e).2.1,(dM ls e).2.2)).map eO) rfl rfl rfl rfl rfl (aN _ _ (by simp)) (by simp) rfl) ?_
 refine WP.sub (oE (j:=2) (key:=10) (p:=2) (e:=58) (z:=7) (n:=us.length) (trs:=us.flatMap (eM true)) rfl rfl rfl rfl rfl) ?_
 refine WP.sub (mJ h0 [0,1,2,3,4,5,6,10] [(2,.one (.pt 0 0)),(3,.one (.pt 1 0)),(4,.one (.pt 5 0)),(5,.one (.pt 6 0))] [⟨92,0,[.pt 2 0]⟩,⟨3,0,[tv (.int .i64 at9)]⟩,⟨95,0,[.t ta,.t (dG true true vs),.sl 7 0 us.length,.t (.s true 96 1 ls.length ((ls.set e (((aS ((y:Nat):Int) (dM ls e).1 m).1.filter (fun x=> !nX x.1 x.2)),(dM ls e).2.1,(dM ls e).2.2)).map eO))]⟩,⟨113,1,(aI (dg 4294967296 m.num.natAbs)).map .t⟩,⟨113,1,(aI (dg 4294967296 m.den)).map .t⟩,⟨64,0,(aQ (⟨((y:Nat):Int),((e:Nat):Int),q⟩:Wv)).map .t⟩,⟨48,0,[tv (.bool (aM m.num)),.sl 3 0 (dg 4294967296 m.num.natAbs).length,tv (.bool false),.sl 4 0 (dg 4294967296 m.den).length]⟩,⟨58,7,(us.flatMap (eM true)).map .t⟩] (by decide) rfl ⟨rfl,rfl,rfl,rfl,trivial⟩ ⟨oe rfl rfl,oe rfl rfl,oe rfl rfl,aC rfl,aC rfl,aC rfl,oe rfl rfl,aC rfl,rfl⟩) ?_
 refine rd [0,1,2,5,6] (fun i=>[18].contains i) mixed ?_
 refine aO 0 ?_;refine aO 1 ?_;refine dv 2 ?_;refine dv 3 ?_;refine dv 4 ?_;refine aO 5 ?_;refine dv 6 ?_;refine aO 7 ?_;refine dv 8 ?_;refine aO 9 ?_;refine aO 10 ?_;refine aO 11 ?_
 refine dv 12 ?_;refine iU (key:=8) 13 (by kernel_rfl) rfl rfl aB rfl ⟨rfl,rfl,rfl,rfl,rfl,trivial⟩ ?_
 refine kP (j:=9) (n:=us.length) (l:=(us.flatMap (eM true)).map .t) 14 rfl aB rfl rfl rfl (.sl rfl (uL us true)) (.sl rfl rfl rfl) rfl rfl (by omega) (by omega) rfl ⟨rfl,rfl,rfl,rfl,rfl,trivial⟩ rfl (by kernel_rfl) rfl ?_
 refine eQ 15 (by kernel_rfl) rfl rfl aB rfl (by trivial) ?_ (fun h=>by first | rfl | cases h)
 refine eQ 16 (by kernel_rfl) rfl rfl aB rfl (by trivial) ?_ (fun h=>by first | rfl | cases h)
 refine df 17 ?_;refine dst 18 ?_;refine aV ?_;refine sq ?_
 refine WP.sub (oE (j:=2) (key:=10) (p:=1) (e:=64) (z:=18) (n:=vs.length) (trs:=vs.flatMap (cF true)) rfl rfl rfl rfl rfl) ?_
 refine WP.sub (mJ h0 [0,1,2,3,4,5,6,9,10] [(2,.one (.pt 0 0)),(3,.one (.pt 1 0)),(4,.one (.pt 5 0)),(5,.one (.pt 6 0))] [⟨92,0,[.pt 2 0]⟩,⟨3,0,[tv (.int .i64 at9)]⟩,⟨95,0,[.t ta,.sl 8 0 vs.length,.sl 7 0 (us.length+1),.t (.s true 96 1 ls.length ((ls.set e (((aS ((y:Nat):Int) (dM ls e).1 m).1.filter (fun x=> !nX x.1 x.2)),(dM ls e).2.1,(dM ls e).2.2)).map eO))]⟩,⟨113,1,(aI (dg 4294967296 m.num.natAbs)).map .t⟩,⟨113,1,(aI (dg 4294967296 m.den)).map .t⟩,⟨64,0,(aQ (⟨((y:Nat):Int),((e:Nat):Int),q⟩:Wv)).map .t⟩,⟨48,0,[tv (.bool (aM m.num)),.sl 3 0 (dg 4294967296 m.num.natAbs).length,tv (.bool false),.sl 4 0 (dg 4294967296 m.den).length]⟩,⟨58,7,(us.flatMap (eM true)).map .t++[tv (.int .i64 ((y:Nat):Int)),tv (.int .i64 ((e:Nat):Int)),tv (.int .i64 at9),tv (.bool (aM m.num)),.sl 3 0 (dg 4294967296 m.num.natAbs).length,tv (.bool false),.sl 4 0 (dg 4294967296 m.den).length]⟩,⟨64,18,(vs.flatMap (cF true)).map .t⟩] (by decide) rfl ⟨rfl,rfl,rfl,rfl,trivial⟩ ⟨oe rfl rfl,oe rfl rfl,oe rfl rfl,aC rfl,aC rfl,aC rfl,oe rfl rfl,PB rfl rfl,aC rfl,rfl⟩) ?_
 refine rl (ld ?_);refine o1 ?_;refine ld ?_;refine o1 ?_;refine ld ?_
 refine clp [2,8,7,3,4] (Pw (vs:=vs) (y:=((y:Nat):Int)) (e:=((e:Nat):Int)) (l2:=us.flatMap (eM true)) hf hlv) EY ⟨oe rfl rfl,aC rfl,PB rfl rfl,aC rfl,aC rfl,rfl⟩ ⟨rfl,rfl,rfl,rfl⟩ (ok:=[some ⟨95,0,[.t ta,.sl 8 0 vs.length,.sl 7 0 (us.length+1),.t (.s true 96 1 ls.length ((ls.set e (((aS ((y:Nat):Int) (dM ls e).1 m).1.filter (fun x=> !nX x.1 x.2)),(dM ls e).2.1,(dM ls e).2.2)).map eO))]⟩,some ⟨64,18,(vs.flatMap (cF true)).map .t⟩,some ⟨58,7,(us.flatMap (eM true)).map .t++[tv (.int .i64 ((y:Nat):Int)),tv (.int .i64 ((e:Nat):Int)),tv (.int .i64 at9),tv (.bool (aM m.num)),.sl 3 0 (dg 4294967296 m.num.natAbs).length,tv (.bool false),.sl 4 0 (dg 4294967296 m.den).length]⟩,some ⟨113,1,(aI (dg 4294967296 m.num.natAbs)).map .t⟩,some ⟨113,1,(aI (dg 4294967296 m.den)).map .t⟩]) ⟨oe rfl rfl,aC rfl,PB rfl rfl,aC rfl,aC rfl,rfl⟩ ?_
 refine o1 ?_;refine nl ?_;refine rd [0,1,2,5,6,8] (fun i=>[9].contains i) mixed ?_
 refine dv 0 ?_;refine dv 1 ?_;refine dv 2 ?_;refine dv 3 ?_
 refine lH 4 (cJ (f:=(cF true)) (z:=18) (o:=6) (us:=(Fr4.of (bQ vs (dD (cP ((y:Nat):Int) ((e:Nat):Int)) vs)).u).tr false) (cQ true) (lE hf) (bN rfl) rfl) ?_
 refine aO 5 ?_
 refine aX 6 rfl (Ar (Qn.of (p:=(bQ vs (dD (cP ((y:Nat):Int) ((e:Nat):Int)) vs)).u) hu) (Qn.of (p:=m) hm)) Gd ⟨aD rfl,oV rfl (.cons .t (.cons (.sl rfl rfl (aN _ _ rfl) (aP _)) (.cons .t (.cons (.sl rfl rfl (aN _ _ rfl) (aP _)) .nil)))),rfl⟩ (qF (.of ((bQ vs (dD (cP ((y:Nat):Int) ((e:Nat):Int)) vs)).u+m))) ?_
 refine eQ 7 (by kernel_rfl) rfl rfl aB rfl (by trivial) ?_ (fun h=>by first | rfl | cases h)
 refine df 8 ?_
 refine lX 9 (dN (xs:=vs) (k:=(dD (cP ((y:Nat):Int) ((e:Nat):Int)) vs)) (x:=(bQ vs (dD (cP ((y:Nat):Int) ((e:Nat):Int)) vs))) (f:=(cF true)) (z:=18) (o:=6) (x':=(⟨(bQ vs (dD (cP ((y:Nat):Int) ((e:Nat):Int)) vs)).y,(bQ vs (dD (cP ((y:Nat):Int) ((e:Nat):Int)) vs)).e,(bQ vs (dD (cP ((y:Nat):Int) ((e:Nat):Int)) vs)).l,((bQ vs (dD (cP ((y:Nat):Int) ((e:Nat):Int)) vs)).u+m),(bQ vs (dD (cP ((y:Nat):Int) ((e:Nat):Int)) vs)).x,(bQ vs (dD (cP ((y:Nat):Int) ((e:Nat):Int)) vs)).c⟩:Vn)) (us:=(Fr4.of ((bQ vs (dD (cP ((y:Nat):Int) ((e:Nat):Int)) vs)).u+m)).tr false) (cQ true) (lE hf) (bN rfl) rfl) (eP (xs:=vs) (k:=(dD (cP ((y:Nat):Int) ((e:Nat):Int)) vs)) (f:=(cF true)) (z:=18) (o:=6) (us:=(Fr4.of ((bQ vs (dD (cP ((y:Nat):Int) ((e:Nat):Int)) vs)).u+m)).tr false) (cQ true) (by omega) (bN rfl)) ?_
 refine aV ?_
 refine Ms (iH (j:=2) (k:=8) (p:=1) (e:=64) (z:=18) (n:=vs.length) (trs:=(vs.set (dD (cP ((y:Nat):Int) ((e:Nat):Int)) vs) (⟨(bQ vs (dD (cP ((y:Nat):Int) ((e:Nat):Int)) vs)).y,(bQ vs (dD (cP ((y:Nat):Int) ((e:Nat):Int)) vs)).e,(bQ vs (dD (cP ((y:Nat):Int) ((e:Nat):Int)) vs)).l,(bQ vs (dD (cP ((y:Nat):Int) ((e:Nat):Int)) vs)).u+m,(bQ vs (dD (cP ((y:Nat):Int) ((e:Nat):Int)) vs)).x,(bQ vs (dD (cP ((y:Nat):Int) ((e:Nat):Int)) vs)).c⟩:Vn)).flatMap (cF true)) rfl rfl rfl rfl rfl (aN _ _ (by rw[bE (cQ true),List.length_set])) (by rw[bE (cQ true),List.length_set]) rfl) ?_
 refine Ms (iH (j:=7) (k:=3) (p:=us.length*7+4) (e:=113) (z:=1) (n:=(dg 4294967296 m.num.natAbs).length) (trs:=aI (dg 4294967296 m.num.natAbs)) rfl rfl rfl rfl (Dz (uL us true)) (bP _) (aP _) (Ea (uL us true))) ?_
 refine Ms (iH (j:=7) (k:=4) (p:=us.length*7+6) (e:=113) (z:=1) (n:=(dg 4294967296 m.den).length) (trs:=aI (dg 4294967296 m.den)) rfl rfl rfl rfl (Dz (uL us true)) (bP _) (aP _) (Ea (uL us true))) ?_
 refine Ms (iH (j:=2) (k:=7) (p:=2) (e:=58) (z:=7) (n:=us.length+1) (trs:=(us++[(⟨((y:Nat):Int),((e:Nat):Int),at9,m⟩:Ur)]).flatMap (eM true)) rfl rfl rfl (congrArg (fun l:List AV=>some (⟨58,7,l⟩:Ob)) (DI us (⟨((y:Nat):Int),((e:Nat):Int),at9,m⟩:Ur))) rfl (aN _ _ (by rw[bE (eF true),cO];rfl)) (by rw[bE (eF true),cO];rfl) rfl) ?_
 exact wK <| hJ (lent':=[⟨92,0,[.pt 2 0]⟩,⟨3,0,[tv (.int .i64 at9)]⟩,⟨95,0,[.t ta,.t (dG true true (vs.set (dD (cP ((y:Nat):Int) ((e:Nat):Int)) vs) (⟨(bQ vs (dD (cP ((y:Nat):Int) ((e:Nat):Int)) vs)).y,(bQ vs (dD (cP ((y:Nat):Int) ((e:Nat):Int)) vs)).e,(bQ vs (dD (cP ((y:Nat):Int) ((e:Nat):Int)) vs)).l,(bQ vs (dD (cP ((y:Nat):Int) ((e:Nat):Int)) vs)).u+m,(bQ vs (dD (cP ((y:Nat):Int) ((e:Nat):Int)) vs)).x,(bQ vs (dD (cP ((y:Nat):Int) ((e:Nat):Int)) vs)).c⟩:Vn))),.t (dA true true (us++[(⟨((y:Nat):Int),((e:Nat):Int),at9,m⟩:Ur)])),.t (eC (ls.set e (((aS ((y:Nat):Int) (dM ls e).1 m).1.filter (fun x=> !nX x.1 x.2)),(dM ls e).2.1,(dM ls e).2.2)))]⟩]) (.inr rfl) rfl qT (by decide) (fun _ h=>by cases h) ⟨⟨rfl,rfl⟩,⟨rfl,rfl⟩,⟨rfl,rfl⟩,trivial⟩ ⟨rfl,rfl,(by rw[dG,dA,eC,List.length_set,List.length_set,cO];rfl),trivial⟩ ⟨rfl,rfl,rfl,trivial⟩ (fun h=>by cases h) ⟨rfl,rfl⟩
end Go.Proofs.YtbbabfkgdnkehaaGreat
