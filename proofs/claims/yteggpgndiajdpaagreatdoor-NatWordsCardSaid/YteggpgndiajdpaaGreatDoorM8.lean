/- Part 8 of a proof: N3 to Rib5. -/
import Derived.Test.YteggpgndiajdpaaGreatDoorM7
import Derived.Test.YteggpgndiajdpaaGreatDoorM4
import Derived.Test.YteggpgndiajdpaaGreatDoorM6
import Derived.ProofKit
import Derived.ChangeOld
import Derived.Deep.Slices
import Derived.Deep.Strs
import Derived.WalkKit
import Derived.OpenShut
import Derived.Below
import Derived.Carry
set_option maxRecDepth 100000
set_option linter.unusedVariables false
set_option linter.unusedSimpArgs false
namespace Go.Proofs.YteggpgndiajdpaaGreatDoor
open Go Go.RowKit
theorem Lh {l:List (List Nat)}{w:Nat}(hr:RL 1000 l) (hl:l.length≤100) (e:gL l=w):aQ true Tryz.prog 46 [] [.one (.t (.s false 23 1 l.length (rT l)))] (bG (nO w)):=e▸Nj hr hl
theorem No:((aJ (tx 4294967296)).toList==(⟨#[52,50,57,52,57,54,55,50,57,54]⟩:ByteArray).toList)=true:=by
 have h:=Kz (l:=[52,50,57,52,57,54,55,50,57,54]) (by decide)
 rw[show aT [52,50,57,52,57,54,55,50,57,54]=4294967296 by decide]at h
 rw[h]
 exact(yJ (l:=[52,50,57,52,57,54,55,50,57,54]) (l':=[52,50,57,52,57,54,55,50,57,54]) (fun d hd=>by revert d;decide) (fun d hd=>by revert d;decide)).trans (decide_eq_true rfl)
theorem dM:aQ true Tryz.prog 8 [] [] (bG (.one (tv (.bool true)))):=by
 refine dN Tryz.func8 rfl Tryz.ntmps8 rfl aX rfl fun N9 w9 c0 h0=>?_
 refine sq ?_;refine rl ?_;refine o1 ?_;refine nl ?_;refine sq ?_;refine rl ?_;refine bs 0 ?_;refine bs 1 ?_
 refine ca (Ew (w:=18446744065119617025) (Bp (l:=[4294967295]) (V:=4294967295) (by decide)) (Bp (l:=[4294967295]) (V:=4294967295) (by decide)) (by decide)) Je ⟨eD rfl (.sl (trs:=aS [4294967295]) rfl rfl rfl rfl),eD rfl (.sl (trs:=aS [4294967295]) rfl rfl rfl rfl),rfl⟩ (nF (dg 4294967296 (18446744065119617025))) ?_
 refine o1 ?_;refine nl ?_;refine sq ?_;refine rl ?_;refine bs 2 ?_;refine bs 3 ?_
 refine ca (uO (q:=6148914691236517205) (r:=1) (Bp (l:=[0,0,1]) (V:=18446744073709551616) (by decide)) (Bp (l:=[3]) (V:=3) (by decide)) (by decide) (by decide) (by decide)) Jf ⟨eD rfl (.sl (trs:=aS [0,0,1]) rfl rfl rfl rfl),eD rfl (.sl (trs:=aS [3]) rfl rfl rfl rfl),rfl⟩ (.tup [nF (dg 4294967296 (6148914691236517205)),nF (dg 4294967296 (1)),.one (tv (.int .i64 0))]) ?_
 (iterate 7 refine o1 ?_);refine nl ?_;refine sq ?_;refine rl ?_;refine bs 4 ?_;refine bs 5 ?_;refine bs 6 ?_;refine WL.sub (Bi (i:=24) (zs:=[12]) (zs':=[12]) rfl rfl rfl rfl rfl) ?_
 refine WL.sub (Bi (i:=25) (zs:=[18]) (zs':=[18]) rfl rfl rfl rfl rfl) ?_;refine WL.sub (Bi (i:=26) (zs:=[30]) (zs':=[30]) rfl rfl rfl rfl rfl) ?_;refine bs 7 ?_
 refine ca (Lh (l:=[[12],[18],[30]]) (w:=6) (Qe (by decide)) (by decide) (by decide)) Pa ⟨eD rfl (.sl (trs:=rT [[12],[18],[30]]) rfl rfl rfl rfl),rfl⟩ (nF (dg 4294967296 (6))) ?_
 refine o1 ?_;refine nl ?_;refine sq ?_;refine rl ?_
 refine ca (La (x:=10) (n:=10) (V:=10000000000) (e:=0) (by decide) (by decide) (by decide)) tO ⟨a1 rfl,a1 rfl,rfl⟩ (.tup [nF (dg 4294967296 (10000000000)),.one (tv (.int .i64 0))]) ?_
 (iterate 5 refine o1 ?_);refine nl ?_;refine sq ?_;refine rl ?_
 refine ca (nW (l:=[49,48,48,48,48,48,48,48,48,48,48]) (V:=10000000000) (e:=0) (fun x hx=>by revert x;decide) (by decide) (by decide) (by decide)) tN ⟨a1 rfl,rfl⟩ (.tup [nF (dg 4294967296 (10000000000)),.one (tv (.int .i64 0))]) ?_
 (iterate 5 refine o1 ?_);refine nl ?_;refine sq ?_;refine rl ?_
 refine ca (nW (l:=[48,49]) (V:=0) (e:=60) (fun x hx=>by revert x;decide) (by decide) (by decide) (by decide)) tN ⟨a1 rfl,rfl⟩ (.tup [nF (dg 4294967296 (0)),.one (tv (.int .i64 60))]) ?_
 (iterate 5 refine o1 ?_);refine nl ?_;refine sq ?_;refine rl ?_
 refine ca (nW (l:=[]) (V:=0) (e:=60) (fun x hx=>by revert x;decide) (by decide) (by decide) (by decide)) tN ⟨a1 rfl,rfl⟩ (.tup [nF (dg 4294967296 (0)),.one (tv (.int .i64 60))]) ?_
 (iterate 5 refine o1 ?_);refine nl ?_;refine sq ?_;refine rl ?_;refine o1 ?_;refine bs 8 ?_
 refine ca (fT (xs:=(dg 4294967296 (18446744065119617025))) (ys:=[1,4294967294]) (Nat.le_trans (aH (k:=100) (by omega) (by decide)) (by omega)) (Bq (l:=[1,4294967294]) (V:=18446744065119617025) (by decide))) nR ⟨a1 rfl,eD rfl (.sl (trs:=aS [1,4294967294]) rfl rfl rfl rfl),rfl⟩ (.one (tv (.bool true))) ?_
 (iterate 3 refine o1 ?_);refine WL.cast (t:=50) (u':=.bool true) rfl (congrArg Value.bool (decide_eq_true rfl)) ?_;(iterate 3 refine o1 ?_);refine bs 9 ?_
 refine ca (fT (xs:=(dg 4294967296 (6148914691236517205))) (ys:=[1431655765,1431655765]) (Nat.le_trans (aH (k:=100) (by omega) (by decide)) (by omega)) (Bq (l:=[1431655765,1431655765]) (V:=6148914691236517205) (by decide))) nR ⟨a1 rfl,eD rfl (.sl (trs:=aS [1431655765,1431655765]) rfl rfl rfl rfl),rfl⟩ (.one (tv (.bool true))) ?_
 (iterate 3 refine o1 ?_);refine bs 10 ?_
 refine ca (fT (xs:=(dg 4294967296 (1))) (ys:=[1]) (Nat.le_trans (aH (k:=100) (by omega) (by decide)) (by omega)) (Bq (l:=[1]) (V:=1) (by decide))) nR ⟨a1 rfl,eD rfl (.sl (trs:=aS [1]) rfl rfl rfl rfl),rfl⟩ (.one (tv (.bool true))) ?_
 (iterate 3 refine o1 ?_);refine bs 11 ?_
 refine ca (fT (xs:=(dg 4294967296 (6))) (ys:=[6]) (Nat.le_trans (aH (k:=100) (by omega) (by decide)) (by omega)) (Bq (l:=[6]) (V:=6) (by decide))) nR ⟨a1 rfl,eD rfl (.sl (trs:=aS [6]) rfl rfl rfl rfl),rfl⟩ (.one (tv (.bool true))) ?_
 (iterate 4 refine o1 ?_);refine WL.cast (t:=69) (u':=.bool true) rfl (congrArg Value.bool (decide_eq_true rfl)) ?_;(iterate 3 refine o1 ?_);refine bs 12 ?_
 refine ca (fT (xs:=(dg 4294967296 (10000000000))) (ys:=[1410065408,2]) (Nat.le_trans (aH (k:=100) (by omega) (by decide)) (by omega)) (Bq (l:=[1410065408,2]) (V:=10000000000) (by decide))) nR ⟨a1 rfl,eD rfl (.sl (trs:=aS [1410065408,2]) rfl rfl rfl rfl),rfl⟩ (.one (tv (.bool true))) ?_
 (iterate 4 refine o1 ?_);refine WL.cast (t:=78) (u':=.bool true) rfl (congrArg Value.bool (decide_eq_true rfl)) ?_;(iterate 4 refine o1 ?_)
 refine ca (fT (xs:=(dg 4294967296 (10000000000))) (ys:=(dg 4294967296 (10000000000))) (Nat.le_trans (aH (k:=100) (by omega) (by decide)) (by omega)) rfl) nR ⟨a1 rfl,a1 rfl,rfl⟩ (.one (tv (.bool true))) ?_
 (iterate 4 refine o1 ?_);refine WL.cast (t:=87) (u':=.bool true) rfl (congrArg Value.bool (decide_eq_true rfl)) ?_;(iterate 4 refine o1 ?_)
 refine WL.cast (t:=91) (u':=.bool true) rfl (congrArg Value.bool (decide_eq_true rfl)) ?_;refine o1 ?_;refine o1 ?_;refine bs 13 ?_
 refine ca (pF (Bp (l:=[0,1]) (V:=4294967296) (by decide))) tP ⟨eD rfl (.sl (trs:=aS [0,1]) rfl rfl rfl rfl),rfl⟩ (.one (tv (.string (aJ (tx 4294967296))))) ?_
 refine o1 ?_;refine WL.cast (t:=96) (u':=.bool true) rfl (congrArg Value.bool No) ?_;refine o1 ?_;refine o1 ?_;refine nl ?_;refine rt ?_;exact fK (.inl rfl) rfl (rfl)
theorem pK {xs:List Nat}(hl:Lim 4294967296 xs) (h:xs.length≤1000000):Nn xs (val xs):=⟨hl,h,rfl⟩
theorem kV {xs:List Nat}{L:Nat}(hl:Lim 4294967296 xs) (h:xs.length≤L):(dg 2 (val xs)).length≤32*L:=dT (by unfold val;rw[cZ (by omega) hl];exact Nat.le_trans (bQ _) h)
theorem iV {xs:List Nat}{u:Nat}(hx:xs.length≤1000000) (hu:(dg 2 (u)).length≤900000) (hxu:xs=(dg 4294967296 (u))):aQ true Tryz.prog 13 [] [nF xs,(bR (dg 2 (u)))] (bG (.one (tv (.bool true)))):=by
 refine dN Tryz.func13 rfl Tryz.ntmps13 rfl aX rfl fun N9 w9 c0 h0=>?_
 refine sq ?_;refine rl ?_;refine o1 ?_;refine nl ?_;refine sq ?_;refine rl ?_;refine o1 ?_;refine o1 ?_;refine ca (xL hu) Jj ⟨a1 rfl,rfl⟩ (nF (dg 4294967296 (u))) ?_
 refine ca (fT (xs:=xs) (ys:=(dg 4294967296 (u))) hx hxu) nR ⟨a1 rfl,a1 rfl,rfl⟩ (.one (tv (.bool true))) ?_;refine o1 ?_;refine nl ?_;refine rt ?_;exact fK (.inl rfl) rfl (rfl)
theorem kW {l:List Nat}(h:l.length≤60∨4096<l.length):(dg 4294967296 (eH l)).length≤60:=by
 rcases h with h | h
 ·exact Nat.le_trans (Hc l) h
 by_cases h0:eG l=0
 ·unfold eG at h0
  split at h0 <;> first | omega | (rw[if_pos h]at h0;omega)
 rw[eT h0];exact Nat.zero_le _
theorem mU {x:Nat}{n:Int}(hx:x<4294967296) (h:n≤40∨4096<n):(dg 4294967296 (dL x n)).length≤41:=by
 unfold dL
 by_cases h0:dO n=0
 ·rw[if_pos h0]
  have h1:n.toNat≤40:=by
   rcases h with h | h
   ·omega
   unfold dO at h0
   rw[if_neg (by omega),if_pos h]at h0
   cases h0
  exact Nat.le_trans (qM hx) (by omega)
 rw[if_neg h0];exact Nat.zero_le _
theorem zE {l xs:List Nat}{x:Nat}{n:Int}(hl:Lim 256 l) (hln:l.length≤9223372036854775807) (hx:x<4294967296) (hxs:Lim 4294967296 xs):aQ true Tryz.prog 3 [] [.one (tv (.string (aJ l))),.one (tv (.int .u32 ((x:Nat):Int))),.one (tv (.int .i64 n)),nF xs] (bG (.one (tv (.bool true)))):=by
 refine dN Tryz.func3 rfl Tryz.ntmps3 rfl aX rfl fun N9 w9 c0 h0=>?_
 refine sq ?_;refine rl ?_;refine o1 ?_;refine nl ?_;refine sq ?_;refine sq ?_;refine rl ?_;refine o1 ?_;refine o1 ?_
 refine WL.cast (t:=18) (u':=.int .i64 ((l.length:Nat):Int)) rfl (congrArg (fun n:Nat=>Value.int .i64 (n:Int)) (aP _)) ?_
 refine o1 ?_;refine o1 ?_;refine WL.split (t:=20) rfl (fun h1=>?_) (fun h1=>?_)
 ·refine o1 ?_;refine o1 ?_;refine WL.cast (t:=22) (u':=.int .i64 ((l.length:Nat):Int)) rfl (congrArg (fun n:Nat=>Value.int .i64 (n:Int)) (aP _)) ?_
  (iterate 3 refine o1 ?_);refine WL.split (t:=25) rfl (fun h2=>?_) (fun h2=>?_)
  ·(iterate 6 refine eE ?_);refine o1 ?_;refine o1 ?_;(iterate 3 refine eE ?_);refine o1 ?_;refine nl ?_;refine oH rfl ?_;refine sq ?_;refine rl ?_
   refine ca (dM) lW rfl (.one (tv (.bool true))) ?_;refine o1 ?_;refine nl ?_;refine rt ?_;exact fK (.inl rfl) rfl (rfl)
  (iterate 3 refine o1 ?_);refine WL.split (t:=28) rfl (fun h3=>?_) (fun h3=>?_)
  ·(iterate 5 refine o1 ?_);refine WL.split (t:=33) rfl (fun h4=>?_) (fun h4=>?_)
   ·(iterate 3 refine eE ?_);refine o1 ?_;refine nl ?_;refine oH rfl ?_;refine sq ?_;refine rl ?_;refine ca (dM) lW rfl (.one (tv (.bool true))) ?_;refine o1 ?_;refine nl ?_
    refine rt ?_;exact fK (.inl rfl) rfl (rfl)
   (iterate 4 refine o1 ?_);refine nl ?_;refine bM rfl (fun h5=>?_) (fun h5=>?_)
   ·refine sq ?_;refine rl ?_;refine ca (dM) lW rfl (.one (tv (.bool true))) ?_;refine o1 ?_;refine nl ?_;refine rt ?_;exact fK (.inl rfl) rfl (rfl)
   refine sk ?_;refine sq ?_;have hN:=pK hxs (by omega)
   have hb1:=kV (L:=8) hxs (by omega)
   have hq1:=kW (l:=l) (by omega)
   have hq2:=mU (x:=x) (n:=n) hx (by omega)
   have hq3:=dT hq1
   have hq4:=dT hq2
   refine rl ?_;refine o1 ?_;refine ca (jU hl hln) tN ⟨a1 rfl,rfl⟩ (.tup [nF (dg 4294967296 (eH l)),.one (tv (.int .i64 (eG l)))]) ?_;(iterate 5 refine o1 ?_);refine nl ?_
   refine sq ?_;refine rl ?_;refine o1 ?_;refine ca (mT hl hln) yC ⟨a1 rfl,rfl⟩ (.tup [(bR (dg 2 (eH l))),.one (tv (.int .i64 (eG l)))]) ?_;(iterate 5 refine o1 ?_)
   refine nl ?_;refine sq ?_;refine rl ?_;refine o1 ?_;refine o1 ?_;refine ca (pG hx) tO ⟨a1 rfl,a1 rfl,rfl⟩ (.tup [nF (dg 4294967296 (dL x n)),.one (tv (.int .i64 (dO n)))]) ?_
   (iterate 5 refine o1 ?_);refine nl ?_;refine sq ?_;refine rl ?_;refine o1 ?_;refine o1 ?_
   refine ca (sE hx) yD ⟨a1 rfl,a1 rfl,rfl⟩ (.tup [(bR (dg 2 (dL x n))),.one (tv (.int .i64 (dO n)))]) ?_;(iterate 5 refine o1 ?_);refine nl ?_;refine sq ?_;refine rl ?_
   (iterate 3 refine o1 ?_);refine WL.cast (t:=63) (u':=.bool true) rfl (congrArg Value.bool (decide_eq_true rfl)) ?_;(iterate 3 refine o1 ?_)
   refine ca (iV (xs:=(dg 4294967296 (eH l))) (u:=eH l) (by omega) (by omega) rfl) lX ⟨a1 rfl,a1 rfl,rfl⟩ (.one (tv (.bool true))) ?_
   (iterate 5 refine o1 ?_);refine WL.cast (t:=72) (u':=.bool true) rfl (congrArg Value.bool (decide_eq_true rfl)) ?_;(iterate 4 refine o1 ?_)
   refine ca (iV (xs:=(dg 4294967296 (dL x n))) (u:=dL x n) (by omega) (by omega) rfl) lX ⟨a1 rfl,a1 rfl,rfl⟩ (.one (tv (.bool true))) ?_
   (iterate 3 refine o1 ?_);refine ca (pF hN) tP ⟨a1 rfl,rfl⟩ (.one (tv (.string (aJ (tx (val xs)))))) ?_;refine o1 ?_
   refine ca (mF (xs:=xs) (u:=val xs) hxs (by omega) rfl) tQ ⟨a1 rfl,rfl⟩ ((bR (dg 2 (val xs)))) ?_
   refine ca (sF (u:=val xs) (by omega)) yE ⟨a1 rfl,rfl⟩ (.one (tv (.string (aJ (tx (val xs)))))) ?_
   refine o1 ?_;refine WL.cast (t:=85) (u':=.bool true) rfl (congrArg Value.bool (beq_self_eq_true _)) ?_;refine o1 ?_;refine o1 ?_
   refine ca (dM) lW rfl (.one (tv (.bool true))) ?_;refine o1 ?_;refine o1 ?_;refine nl ?_;refine rt ?_;exact fK (.inl rfl) rfl (rfl)
  refine eE ?_;refine eE ?_;(iterate 7 refine o1 ?_);refine nl ?_;refine bM rfl (fun h6=>?_) (fun h6=>?_)
  ·refine sq ?_;refine rl ?_;refine ca (dM) lW rfl (.one (tv (.bool true))) ?_;refine o1 ?_;refine nl ?_;refine rt ?_;exact fK (.inl rfl) rfl (rfl)
  refine sk ?_;refine sq ?_;have hN:=pK hxs (by omega)
  have hb1:=kV (L:=8) hxs (by omega)
  have hq1:=kW (l:=l) (by omega)
  have hq2:=mU (x:=x) (n:=n) hx (by omega)
  have hq3:=dT hq1
  have hq4:=dT hq2
  refine rl ?_;refine o1 ?_;refine ca (jU hl hln) tN ⟨a1 rfl,rfl⟩ (.tup [nF (dg 4294967296 (eH l)),.one (tv (.int .i64 (eG l)))]) ?_;(iterate 5 refine o1 ?_);refine nl ?_
  refine sq ?_;refine rl ?_;refine o1 ?_;refine ca (mT hl hln) yC ⟨a1 rfl,rfl⟩ (.tup [(bR (dg 2 (eH l))),.one (tv (.int .i64 (eG l)))]) ?_;(iterate 5 refine o1 ?_);refine nl ?_
  refine sq ?_;refine rl ?_;refine o1 ?_;refine o1 ?_;refine ca (pG hx) tO ⟨a1 rfl,a1 rfl,rfl⟩ (.tup [nF (dg 4294967296 (dL x n)),.one (tv (.int .i64 (dO n)))]) ?_
  (iterate 5 refine o1 ?_);refine nl ?_;refine sq ?_;refine rl ?_;refine o1 ?_;refine o1 ?_
  refine ca (sE hx) yD ⟨a1 rfl,a1 rfl,rfl⟩ (.tup [(bR (dg 2 (dL x n))),.one (tv (.int .i64 (dO n)))]) ?_;(iterate 5 refine o1 ?_);refine nl ?_;refine sq ?_;refine rl ?_
  (iterate 3 refine o1 ?_);refine WL.cast (t:=63) (u':=.bool true) rfl (congrArg Value.bool (decide_eq_true rfl)) ?_;(iterate 3 refine o1 ?_)
  refine ca (iV (xs:=(dg 4294967296 (eH l))) (u:=eH l) (by omega) (by omega) rfl) lX ⟨a1 rfl,a1 rfl,rfl⟩ (.one (tv (.bool true))) ?_
  (iterate 5 refine o1 ?_);refine WL.cast (t:=72) (u':=.bool true) rfl (congrArg Value.bool (decide_eq_true rfl)) ?_;(iterate 4 refine o1 ?_)
  refine ca (iV (xs:=(dg 4294967296 (dL x n))) (u:=dL x n) (by omega) (by omega) rfl) lX ⟨a1 rfl,a1 rfl,rfl⟩ (.one (tv (.bool true))) ?_
  (iterate 3 refine o1 ?_);refine ca (pF hN) tP ⟨a1 rfl,rfl⟩ (.one (tv (.string (aJ (tx (val xs)))))) ?_;refine o1 ?_
  refine ca (mF (xs:=xs) (u:=val xs) hxs (by omega) rfl) tQ ⟨a1 rfl,rfl⟩ ((bR (dg 2 (val xs)))) ?_
  refine ca (sF (u:=val xs) (by omega)) yE ⟨a1 rfl,rfl⟩ (.one (tv (.string (aJ (tx (val xs)))))) ?_
  refine o1 ?_;refine WL.cast (t:=85) (u':=.bool true) rfl (congrArg Value.bool (beq_self_eq_true _)) ?_;refine o1 ?_;refine o1 ?_
  refine ca (dM) lW rfl (.one (tv (.bool true))) ?_;refine o1 ?_;refine o1 ?_;refine nl ?_;refine rt ?_;exact fK (.inl rfl) rfl (rfl)
 (iterate 3 refine eE ?_);(iterate 5 refine o1 ?_);refine WL.split (t:=28) rfl (fun h7=>?_) (fun h7=>?_)
 ·(iterate 5 refine o1 ?_);refine WL.split (t:=33) rfl (fun h8=>?_) (fun h8=>?_)
  ·(iterate 3 refine eE ?_);refine o1 ?_;refine nl ?_;refine oH rfl ?_;refine sq ?_;refine rl ?_;refine ca (dM) lW rfl (.one (tv (.bool true))) ?_;refine o1 ?_;refine nl ?_
   refine rt ?_;exact fK (.inl rfl) rfl (rfl)
  (iterate 4 refine o1 ?_);refine nl ?_;refine bM rfl (fun h9=>?_) (fun h9=>?_)
  ·refine sq ?_;refine rl ?_;refine ca (dM) lW rfl (.one (tv (.bool true))) ?_;refine o1 ?_;refine nl ?_;refine rt ?_;exact fK (.inl rfl) rfl (rfl)
  refine sk ?_;refine sq ?_;have hN:=pK hxs (by omega)
  have hb1:=kV (L:=8) hxs (by omega)
  have hq1:=kW (l:=l) (by omega)
  have hq2:=mU (x:=x) (n:=n) hx (by omega)
  have hq3:=dT hq1
  have hq4:=dT hq2
  refine rl ?_;refine o1 ?_;refine ca (jU hl hln) tN ⟨a1 rfl,rfl⟩ (.tup [nF (dg 4294967296 (eH l)),.one (tv (.int .i64 (eG l)))]) ?_;(iterate 5 refine o1 ?_);refine nl ?_
  refine sq ?_;refine rl ?_;refine o1 ?_;refine ca (mT hl hln) yC ⟨a1 rfl,rfl⟩ (.tup [(bR (dg 2 (eH l))),.one (tv (.int .i64 (eG l)))]) ?_;(iterate 5 refine o1 ?_);refine nl ?_
  refine sq ?_;refine rl ?_;refine o1 ?_;refine o1 ?_;refine ca (pG hx) tO ⟨a1 rfl,a1 rfl,rfl⟩ (.tup [nF (dg 4294967296 (dL x n)),.one (tv (.int .i64 (dO n)))]) ?_
  (iterate 5 refine o1 ?_);refine nl ?_;refine sq ?_;refine rl ?_;refine o1 ?_;refine o1 ?_
  refine ca (sE hx) yD ⟨a1 rfl,a1 rfl,rfl⟩ (.tup [(bR (dg 2 (dL x n))),.one (tv (.int .i64 (dO n)))]) ?_;(iterate 5 refine o1 ?_);refine nl ?_;refine sq ?_;refine rl ?_
  (iterate 3 refine o1 ?_);refine WL.cast (t:=63) (u':=.bool true) rfl (congrArg Value.bool (decide_eq_true rfl)) ?_;(iterate 3 refine o1 ?_)
  refine ca (iV (xs:=(dg 4294967296 (eH l))) (u:=eH l) (by omega) (by omega) rfl) lX ⟨a1 rfl,a1 rfl,rfl⟩ (.one (tv (.bool true))) ?_
  (iterate 5 refine o1 ?_);refine WL.cast (t:=72) (u':=.bool true) rfl (congrArg Value.bool (decide_eq_true rfl)) ?_;(iterate 4 refine o1 ?_)
  refine ca (iV (xs:=(dg 4294967296 (dL x n))) (u:=dL x n) (by omega) (by omega) rfl) lX ⟨a1 rfl,a1 rfl,rfl⟩ (.one (tv (.bool true))) ?_
  (iterate 3 refine o1 ?_);refine ca (pF hN) tP ⟨a1 rfl,rfl⟩ (.one (tv (.string (aJ (tx (val xs)))))) ?_;refine o1 ?_
  refine ca (mF (xs:=xs) (u:=val xs) hxs (by omega) rfl) tQ ⟨a1 rfl,rfl⟩ ((bR (dg 2 (val xs)))) ?_
  refine ca (sF (u:=val xs) (by omega)) yE ⟨a1 rfl,rfl⟩ (.one (tv (.string (aJ (tx (val xs)))))) ?_
  refine o1 ?_;refine WL.cast (t:=85) (u':=.bool true) rfl (congrArg Value.bool (beq_self_eq_true _)) ?_;refine o1 ?_;refine o1 ?_
  refine ca (dM) lW rfl (.one (tv (.bool true))) ?_;refine o1 ?_;refine o1 ?_;refine nl ?_;refine rt ?_;exact fK (.inl rfl) rfl (rfl)
 refine eE ?_;refine eE ?_;(iterate 7 refine o1 ?_);refine nl ?_;refine bM rfl (fun h10=>?_) (fun h10=>?_)
 ·refine sq ?_;refine rl ?_;refine ca (dM) lW rfl (.one (tv (.bool true))) ?_;refine o1 ?_;refine nl ?_;refine rt ?_;exact fK (.inl rfl) rfl (rfl)
 refine sk ?_;refine sq ?_;have hN:=pK hxs (by omega)
 have hb1:=kV (L:=8) hxs (by omega)
 have hq1:=kW (l:=l) (by omega)
 have hq2:=mU (x:=x) (n:=n) hx (by omega)
 have hq3:=dT hq1
 have hq4:=dT hq2
 refine rl ?_;refine o1 ?_;refine ca (jU hl hln) tN ⟨a1 rfl,rfl⟩ (.tup [nF (dg 4294967296 (eH l)),.one (tv (.int .i64 (eG l)))]) ?_;(iterate 5 refine o1 ?_);refine nl ?_
 refine sq ?_;refine rl ?_;refine o1 ?_;refine ca (mT hl hln) yC ⟨a1 rfl,rfl⟩ (.tup [(bR (dg 2 (eH l))),.one (tv (.int .i64 (eG l)))]) ?_;(iterate 5 refine o1 ?_);refine nl ?_
 refine sq ?_;refine rl ?_;refine o1 ?_;refine o1 ?_;refine ca (pG hx) tO ⟨a1 rfl,a1 rfl,rfl⟩ (.tup [nF (dg 4294967296 (dL x n)),.one (tv (.int .i64 (dO n)))]) ?_
 (iterate 5 refine o1 ?_);refine nl ?_;refine sq ?_;refine rl ?_;refine o1 ?_;refine o1 ?_
 refine ca (sE hx) yD ⟨a1 rfl,a1 rfl,rfl⟩ (.tup [(bR (dg 2 (dL x n))),.one (tv (.int .i64 (dO n)))]) ?_;(iterate 5 refine o1 ?_);refine nl ?_;refine sq ?_;refine rl ?_
 (iterate 3 refine o1 ?_);refine WL.cast (t:=63) (u':=.bool true) rfl (congrArg Value.bool (decide_eq_true rfl)) ?_;(iterate 3 refine o1 ?_)
 refine ca (iV (xs:=(dg 4294967296 (eH l))) (u:=eH l) (by omega) (by omega) rfl) lX ⟨a1 rfl,a1 rfl,rfl⟩ (.one (tv (.bool true))) ?_
 (iterate 5 refine o1 ?_);refine WL.cast (t:=72) (u':=.bool true) rfl (congrArg Value.bool (decide_eq_true rfl)) ?_;(iterate 4 refine o1 ?_)
 refine ca (iV (xs:=(dg 4294967296 (dL x n))) (u:=dL x n) (by omega) (by omega) rfl) lX ⟨a1 rfl,a1 rfl,rfl⟩ (.one (tv (.bool true))) ?_
 (iterate 3 refine o1 ?_);refine ca (pF hN) tP ⟨a1 rfl,rfl⟩ (.one (tv (.string (aJ (tx (val xs)))))) ?_;refine o1 ?_
 refine ca (mF (xs:=xs) (u:=val xs) hxs (by omega) rfl) tQ ⟨a1 rfl,rfl⟩ ((bR (dg 2 (val xs)))) ?_
 refine ca (sF (u:=val xs) (by omega)) yE ⟨a1 rfl,rfl⟩ (.one (tv (.string (aJ (tx (val xs)))))) ?_
 refine o1 ?_;refine WL.cast (t:=85) (u':=.bool true) rfl (congrArg Value.bool (beq_self_eq_true _)) ?_;refine o1 ?_;refine o1 ?_;refine ca (dM) lW rfl (.one (tv (.bool true))) ?_
 refine o1 ?_;refine o1 ?_;refine nl ?_;refine rt ?_;exact fK (.inl rfl) rfl (rfl)
end Go.Proofs.YteggpgndiajdpaaGreatDoor
namespace Go.Proofs.YteggpgndiajdpaaGreatDoor
open Go Go.RowKit Go.ChangeShapes
def Reads (P:Program) (t:TypeId) (z:Nat) (T:List Tr→Prop):Prop:=
 P.cellsOf t=z∧∀(H:Type) (enc:TypeId×Value→H) (w:World) (fuel:Nat) (cs:List Value) (x:DataW H×List MemPlace),DataW.trod enc P w 0 (fun _=>true) true fuel t cs=some x→∃l,T l∧l.length=z∧FRL w (rJ w) l cs
theorem xM {W:World}{N:Nat→Prop}:∀{l l':List Tr}{us us':List Value},FRL W N l us→FRL W N l' us'→FRL W N (l++l') (us++us')
 | [],l',us,us',h,h'=>by simp only[FRL]at h;subst h;exact h'
 | x::l,l',u::us,us',h,h'=>by simp only[FRL,List.cons_append]at*;exact⟨h.1,xM h.2 h'⟩
 | _::_,_,[],_,h,_=>by simp only[FRL]at h
theorem xN {W:World}{N:Nat→Prop}:∀{l:List Tr}{us:List Value}{j:Nat}{x:Tr},FRL W N l us→l[j]? =some x→∃u,us[j]? =some u∧FR W N x u
 | [],_,_,_,_,h=>by simp at h
 | y::l,u::us,0,x,h,e=>by
  simp only[FRL]at h
  simp at e
  subst e
  exact⟨u,rfl,h.1⟩
 | y::l,u::us,j+1,x,h,e=>by
  simp only[FRL]at h
  exact xN (j:=j) h.2 (by simpa using e)
 | _::_,[],_,_,h,_=>by simp only[FRL]at h
section
variable {P:Program}{t e:TypeId}{k:IntKind}{z:Nat}{T T':List Tr→Prop}
theorem Reads.mono (h:Reads P t z T) (hi:∀l,T l→T' l):Reads P t z T':=⟨h.1,fun H enc w fuel cs x hx=>let ⟨l,a,b⟩:=h.2 H enc w fuel cs x hx;⟨l,hi l a,b⟩⟩
theorem uR (ht:P.underlying t=some (.int k)) (hz:P.cellsOf t=1):Reads P t 1 (fun l=>∃n,l=[.v (.int k n)]∧k.min≤n∧n≤k.max):=⟨hz,fun H enc w fuel cs x hx=>by
 obtain⟨n,rfl,_,h⟩:=DataW.trod_int ht hx
 simp only[Lit.wf,Bool.and_eq_true,decide_eq_true_eq]at h
 exact⟨_,⟨n,rfl,h⟩,rfl,by simp[FRL,FR]⟩⟩
inductive Flds (P:Program):Nat→List Field→Nat→(List Tr→Prop)→Prop
 | nil {o:Nat}:Flds P o [] 0 (· =[])
 | cons {o z z':Nat}{f:Field}{fs:List Field}{T T':List Tr→Prop}(ho:f.offset=o) (h:Reads P f.type z T) (h':Flds P (o+z) fs z' T'):Flds P o (f::fs) (z+z') (fun l=>∃a b,l=a++b∧T a∧T' b)
theorem Flds.read {H:Type}{enc:TypeId×Value→H}{w:World}{n o:Nat}{fs:List Field}(h:Flds P o fs z T):∀{cs:List Value},o+z≤cs.length→(∀f∈fs,∃x,DataW.trod enc P w 0 (fun _=>true) true n f.type ((cs.drop f.offset).take (P.cellsOf f.type))=some x)→∃l,T l∧l.length=z∧FRL w (rJ w) l ((cs.drop o).take z):=by
 induction h with
 | nil=>exact fun _ _=>⟨[],rfl,rfl,by simp[FRL]⟩
 | @cons o z z' f fs T T' ho hr _ ih=>
  intro cs hl hf
  obtain⟨b,h1,h2,h3⟩:=ih (cs:=cs) (by omega) fun f hm=>hf f (List.mem_cons_of_mem _ hm)
  obtain⟨x,hx⟩:=hf f List.mem_cons_self
  obtain⟨a,g1,g2,g3⟩:=hr.2 H enc w n _ x hx
  rw[ho,hr.1]at g3
  refine⟨a++b,⟨a,b,rfl,g1,h1⟩,by simp[g2,h2],?_⟩
  rw[List.take_add,List.drop_drop]
  exact xM g3 h3
theorem Dy (ht:P.underlying t=some (.slice e)) (hz:P.cellsOf t=1) (hz0:0<z) (h:Reads P e z T):Reads P t 1 (fun l=>∃rows:List (List Tr),(∀r∈rows,T r∧r.length=z)∧l=[.s false e z rows.length rows.flatten]):=⟨hz,fun H enc w fuel cs x hx=>by
 have hlen:∀(rows:List (List Tr)),(∀r∈rows,T r∧r.length=z)→rows.flatten.length=rows.length*z:=by
  intro rows
  induction rows with
  | nil=>intro _;simp
  | cons r rows ih=>
   intro hr
   rw[List.flatten_cons,List.length_append,(hr r List.mem_cons_self).2,ih fun r hm=>hr r (List.mem_cons_of_mem _ hm),List.length_cons,Nat.succ_mul,Nat.add_comm]
 rcases Deep.open_slice ht hx with⟨rfl,_⟩ | ⟨a,len,cap,m,n,D,Pl,rfl,_,hl,hm,hmm,_,hel⟩
 ·refine⟨_,⟨[],fun _ h=>(by cases h),rfl⟩,rfl,?_⟩
  simp only[FRL,FR,and_true]
  exact⟨none,0,rfl,Nat.le_refl _,by omega,by simp,.inl rfl⟩
 have hmc:m=cap:=by simpa using hmm
 rw[h.1]at hel
 have hex:∀i:Nat,∃l:List Tr,i<len→T l∧l.length=z∧∀j y,l[j]? =some y→∃u,w.cell? ((a.add (i*z)).add j)=some u∧FR w (rJ w) y u:=fun i=>by
  by_cases hi:i<len
  ·obtain⟨cs',h1,h2⟩:=hel i (by omega)
   obtain⟨l,g1,g2,g3⟩:=h.2 H enc w n cs' _ h2
   obtain⟨_,h3,h4⟩:=World.cells?_some h1
   refine⟨l,fun _=>⟨g1,g2,fun j y hj=>?_⟩⟩
   obtain⟨u,hu,hy⟩:=xN g3 hj
   have hjl:=(List.getElem?_eq_some_iff.1 hj).1
   exact⟨u,by rw[h4 j (by omega),hu],hy⟩
  exact⟨[],fun h=>absurd h hi⟩
 have hF:=fun i=>Classical.choose_spec (hex i)
 have hrow:∀r∈(List.range len).map (fun i=>Classical.choose (hex i)),T r∧r.length=z:=fun r hr=>by
  obtain⟨i,hi,rfl⟩:=List.mem_map.1 hr
  have:=hF i (List.mem_range.1 hi)
  exact⟨this.1,this.2.1⟩
 refine⟨_,⟨_,hrow,rfl⟩,rfl,?_⟩
 have h5:=hlen _ hrow
 simp only[FRL,and_true,FR]
 refine⟨some a,cap,by simp,by simpa using hl,by unfold maxLen at hm;omega,h5,?_⟩
 rcases Nat.eq_zero_or_pos len with h0 | h0
 ·exact .inl (by simp[h0])
 refine .inr ⟨a,rfl,?_,lH fun j y hj=>?_⟩
 ·obtain⟨_,g2,g3⟩:=hF 0 h0
  obtain⟨u,hu,_⟩:=g3 0 _ (List.getElem?_eq_getElem (by omega))
  have:=World.block_lt_of_cell? w ((a.add (0*z)).add 0) hu
  rwa[cQ,cQ]at this
 have hjl:=(List.getElem?_eq_some_iff.1 hj).1
 rw[h5,List.length_map,List.length_range]at hjl
 have hi:j/z<len:=Nat.div_lt_of_lt_mul (by rw[Nat.mul_comm];exact hjl)
 obtain⟨_,g2,g3⟩:=hF (j/z) hi
 have hz1:=Nat.mod_lt j hz0
 have hget:∀(rows:List (List Tr)),(∀r∈rows,T r∧r.length=z)→∀(i o:Nat) (r:List Tr),rows[i]? =some r→o<z→rows.flatten[i*z+o]? =r[o]? :=by
  intro rows
  induction rows with
  | nil=>intro _ i o r h;simp at h
  | cons r rows ih=>
   intro hr i o r' hi ho
   have hrl:=(hr r List.mem_cons_self).2
   cases i with
   | zero=>
    simp at hi
    subst hi
    rw[Nat.zero_mul,Nat.zero_add,List.flatten_cons,List.getElem?_append_left (by omega)]
   | succ i=>
    rw[List.flatten_cons,List.getElem?_append_right (by rw[Nat.succ_mul];omega),hrl,show(i+1)*z+o-z=i*z+o by rw[Nat.succ_mul];omega]
    exact ih (fun r hm=>hr r (List.mem_cons_of_mem _ hm)) i o r' (by simpa using hi) ho
 have hd:=Nat.div_add_mod j z
 rw[Nat.mul_comm]at hd
 rw[←hd,hget _ hrow (j/z) (j%z) (Classical.choose (hex (j/z))) (by simp[hi]) hz1]at hj
 obtain⟨u,hu,hy⟩:=g3 _ _ hj
 refine⟨u,?_,hy⟩
 rw[Nat.zero_add]
 have e2:(a.add (j/z*z)).add (j%z)=a.add j:=by rw[jE,hd]
 rwa[e2]at hu⟩
theorem xO {α:Type}(f:α→List Tr) (Q:α→Prop):∀{rows:List (List Tr)},(∀r∈rows,∃a,Q a∧r=f a)→∃xs:List α,(∀a∈xs,Q a)∧rows.flatten=xs.flatMap f∧rows.length=xs.length
 | [],_=>⟨[],fun _ h=>(by cases h),rfl,rfl⟩
 | r::rows,h=>by
  obtain⟨a,h1,rfl⟩:=h r List.mem_cons_self
  obtain⟨xs,h2,h3,h4⟩:=xO f Q fun r hm=>h r (List.mem_cons_of_mem _ hm)
  exact⟨a::xs,fun b hb=>(List.mem_cons.1 hb).elim (fun e=>e▸h1) (h2 b),by simp[h3],by simp[h4]⟩
theorem Dz (ht:P.underlying t=some (.slice e)) (he:P.underlying e=some (.int .u32)) (hz:P.cellsOf t=1) (hze:P.cellsOf e=1) (hn:e=22):Reads P t 1 (fun l=>∃xs:List Nat,Lim 4294967296 xs∧l=[sU false xs]):=
 (Dy ht hz (by omega) (uR he hze)).mono fun l ⟨rows,h1,h2⟩=>by
  obtain⟨xs,h3,h4,h5⟩:=xO (fun n:Nat=>[Tr.v (.int .u32 (n:Int))]) (fun n=>n<4294967296) (rows:=rows) fun r hr=>by
   obtain⟨⟨n,rfl,h1,h2⟩,_⟩:=h1 r hr
   have e1:IntKind.u32.min=0:=rfl
   have e2:IntKind.u32.max=4294967295:=rfl
   rw[e1]at h1
   rw[e2]at h2
   exact⟨n.toNat,by omega,by rw[Int.toNat_of_nonneg h1]⟩
  refine⟨xs,h3,?_⟩
  rw[h2,h4,h5,sU,hn]
  have:∀xs:List Nat,xs.flatMap (fun n:Nat=>[Tr.v (.int .u32 (n:Int))])=aS xs:=by
   intro xs
   induction xs with
   | nil=>rfl
   | cons n xs ih=>rw[List.flatMap_cons,ih];rfl
  rw[this]
end
def LimF (a:Fr4):Prop:=Lim 4294967296 a.x∧Lim 4294967296 a.y
theorem LimF.ok {a:Fr4}(h:LimF a) (h2:a.x.length≤6∧a.y.length≤6):a.ok:=⟨h.1,h.2,by omega,by omega⟩
end Go.Proofs.YteggpgndiajdpaaGreatDoor
namespace Go.Proofs.YteggpgndiajdpaaGreatDoor
open Go Go.ChangeShapes Go.WideShapes Go.ChangeAt Go.RowKit
theorem Bz:Tryz.prog.cellsOf 22=1:=by kernel_rfl
theorem Ea:Tryz.prog.cellsOf 23=1:=by kernel_rfl
theorem pL {W:World}{y:Tr}{u:Value}(hu:u.cells.toList=[u]) (h:FRL W (rJ W) [y] u.cells.toList):aN W (rJ W) [] (.one (.t y)) u:=by
 rw[hu]at h
 simp only[FRL,and_true]at h
 simpa only[aN,AR]using h
theorem Hh:Tryz.prog.cellsOf 9=1:=by kernel_rfl
theorem Hi:Tryz.prog.cellsOf 3=1:=by kernel_rfl
theorem Hj:Reads Tryz.prog 9 1 (fun l=>∃xs:List Nat,(Lim 256 xs∧xs.length≤9223372036854775807)∧l=[.v (.string (aJ xs))]):=⟨Hh,fun H enc w fuel cs x hx=>by
 obtain⟨s,rfl,_,h⟩:=DataW.trod_string Tryz.underlying9 hx
 obtain⟨e,hl⟩:=Mq s
 have h9:(s.data.toList.map UInt8.toNat).length≤9223372036854775807:=by
  rw[List.length_map,Array.length_toList]
  have h8:s.data.size≤maxLen:=h
  unfold maxLen at h8
  omega
 exact⟨_,⟨_,⟨hl,h9⟩,rfl⟩,rfl,by rw[←e];simp[FRL,FR]⟩⟩
theorem Li:Reads Tryz.prog 23 1 (fun l=>∃xs:List Nat,Lim 4294967296 xs∧l=[sU false xs]):=Dz Tryz.underlying23 Tryz.underlying22 Ea Bz rfl
theorem Lj:Reads Tryz.prog 22 1 (fun l=>∃n:Nat,n<4294967296∧l=[.v (.int .u32 (n:Int))]):=(uR Tryz.underlying22 Bz).mono fun l ⟨n,h1,h2,h3⟩=>by
 have e1:IntKind.u32.min=0:=rfl
 have e2:IntKind.u32.max=4294967295:=rfl
 rw[e1]at h2
 rw[e2]at h3
 exact⟨n.toNat,by omega,by rw[h1,Int.toNat_of_nonneg h2]⟩
theorem Hk:Reads Tryz.prog 3 1 (fun l=>∃n:Int,(-9223372036854775808≤n∧n≤9223372036854775807)∧l=[.v (.int .i64 n)]):=
 (uR Tryz.underlying3 Hi).mono fun l ⟨n,h1,h2,h3⟩=>⟨n,⟨h2,h3⟩,h1⟩
end Go.Proofs.YteggpgndiajdpaaGreatDoor
