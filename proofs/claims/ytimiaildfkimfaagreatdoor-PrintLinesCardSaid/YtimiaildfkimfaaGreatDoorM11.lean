/- Part 11 of a proof: L1 to P2. -/
import Derived.Test.YtimiaildfkimfaaGreatDoorM9
import Derived.Test.YtimiaildfkimfaaGreatDoorM10
import Derived.Test.YtimiaildfkimfaaGreatDoorM8
import Derived.Test.YtimiaildfkimfaaGreatDoorM7
set_option maxRecDepth 100000
set_option linter.unusedVariables false
set_option linter.unusedSimpArgs false
namespace Go.Proofs.YtimiaildfkimfaaGreatDoor
open Go Go.RowKit
theorem aAl {c:Nat}(hc:nmcB c=true):aE true Tryz.prog 92 [] [.one (tv (.int .i32 ((c:Nat):Int)))] (aP (.one (tv (.bool false)))):=by
 refine bD Tryz.func92 Tryz.ntmps92 fun N9 w9 c0 h0=>?_
 refine sq (rl (o1 ?_));refine nl (sq (rl (o1 ?_)));refine ca (TJ (Pm hc)) aA (cO rfl rfl) _ ?_
 refine WL.splitb (t:=4) rfl (fun h1=>?_) (fun h1=>?_)
 ·refine o1 ?_;refine o1 ?_;refine nl (rt ?_);exact cG (.inl rfl) rfl (by first | rfl | exact absurd (hc.symm.trans h1) (by decide))
 refine o1 ?_;refine o1 ?_;refine nl (rt ?_);exact cG (.inl rfl) rfl (by first | rfl | exact absurd (hc.symm.trans h1) (by decide))
theorem Tc {l:List Nat}(hl:∀c∈l,nmcB c=true):aE true Tryz.prog 162 [] [.one (tv (.string (aN l))),.one (.t (.f 92 [] []))] (aP (.one (tv (.int .i64 (-1))))):=by
 refine bD Tryz.func162 Tryz.ntmps162 fun N9 w9 c0 h0=>?_
 refine sq (rl (o1 ?_));refine nl (sq (rl (o1 ?_)));refine o1 ?_
 refine ca (aAm aA hl (fun c hc=>aAl hc)) aA ⟨a1 rfl,a1 rfl,a1 rfl,rfl⟩ _ ?_
 refine o1 ?_;refine nl (rt ?_);exact Ho (.inl rfl) rfl (rfl)
theorem aBU {l:List Nat}(hl:∀c∈l,nmcB c=true):aE true Tryz.prog 91 [] [.one (tv (.string (aN l))),.one (.t (.f 92 [] []))] (aP (.one (tv (.bool false)))):=by
 refine bD Tryz.func91 Tryz.ntmps91 fun N9 w9 c0 h0=>?_
 refine sq (rl (o1 ?_));refine nl (sq (rl (o1 ?_)));refine o1 ?_;refine ca (Tc hl) aA (cO rfl rfl) _ ?_
 refine o1 ?_;refine o1 ?_;refine nl (rt ?_);exact cG (.inl rfl) rfl (rfl)
theorem vL (l:List Nat):l.headD 0=nth l 0:=by cases l <;> rfl
theorem aAn {l:List Nat}(h:Lim 256 l):(!((aN l).toList==(⟨#[]⟩:ByteArray).toList))=decide (0<l.length):=by
 rw[show(⟨#[]⟩:ByteArray)=aN [] from rfl,Nn h Lim.nil]
 cases l <;> simp
theorem aAo {l:List Nat}(h:Lim 256 l):((aN ((nE nmcB l).dropWhile nmcB)).toList==(⟨#[]⟩:ByteArray).toList)=l.all nmcB:=by
 rw[show(⟨#[]⟩:ByteArray)=aN [] from rfl,Nn (Pc (Dm h)) Lim.nil]
 exact BL nmcB l
theorem jO {l:List Nat}(hl:pU l):aE true Tryz.prog 42 [] [.one (tv (.string (aN l)))] (aP (.one (tv (.bool (namB l))))):=by
 refine bD Tryz.func42 Tryz.ntmps42 fun N9 w9 c0 h0=>?_
 refine sq (rl (o1 ?_));refine nl (sq (rl (o1 ?_)));refine o1 ?_
 refine fU 4 (decide (0<l.length)) rfl (aAn hl.1) ?_;refine o1 ?_;refine WL.splitb (t:=5) rfl (fun h1=>?_) (fun h1=>?_)
 ·have hl0:=of_decide_eq_true h1
  refine o1 ?_;refine o1 ?_;refine WL.cast (t:=7) (u':=.int .i64 ((l.length:Nat):Int)) rfl (congrArg (fun n:Nat=>Value.int .i64 (n:Int)) (aO _)) ?_
  (iterate 3 refine o1 ?_);refine WL.split (t:=10) rfl (fun h2=>?_) (fun h2=>?_)
  ·refine o1 ?_;refine o1 ?_ (hC:=(by rw[aO];omega))
   refine WL.cast (t:=12) (u':=.int .u8 (((nth l 0):Nat):Int)) rfl (congrArg (fun n:Nat=>Value.int .u8 (n:Int)) (jJ (i:=0) (by omega) (fE hl.1 (by omega)))) ?_
   refine ca (aAp (c:=nth l 0) (fE hl.1 (by omega))) aA (cO rfl rfl) _ ?_
   refine o1 ?_;refine fU 14 (pV (nth l 0)) rfl (TL (fE hl.1 (by omega))) ?_
   refine o1 ?_;refine o1 ?_;refine WL.splitb (t:=16) rfl (fun h3=>?_) (fun h3=>?_)
   ·refine o1 ?_;refine ca (NC hl.1 hl.2) aA (cO rfl rfl) _ ?_;refine o1 ?_
    refine fU 19 (l.all nmcB) rfl (aAo hl.1) ?_;refine o1 ?_;refine o1 ?_;refine WL.splitb (t:=21) rfl (fun h4=>?_) (fun h4=>?_)
    ·have hall:=List.all_eq_true.1 h4
     refine o1 ?_;refine ca (aBU hall) aA (cO rfl rfl) _ ?_;refine WL.splitb (t:=23) rfl (fun h5=>?_) (fun h5=>?_)
     ·(iterate 3 refine o1 ?_);refine nl (rt ?_)
      exact cG (.inl rfl) rfl (by unfold namB;rw[vL];simp only[h1,decide_eq_true h2,h3,h4,h5,cP,cQ] <;> first | rfl | grind)
     (iterate 3 refine o1 ?_);refine nl (rt ?_)
     exact cG (.inl rfl) rfl (by unfold namB;rw[vL];simp only[h1,decide_eq_true h2,h3,h4,h5,cP,cQ] <;> first | rfl | grind)
    (iterate 3 refine aW ?_);refine o1 ?_;refine o1 ?_;refine nl (rt ?_)
    exact cG (.inl rfl) rfl (by unfold namB;rw[vL];simp only[h1,decide_eq_true h2,h3,h4,cP,cQ] <;> first | rfl | grind)
   (iterate 3 refine aW ?_);refine o1 ?_;refine o1 ?_;(iterate 3 refine aW ?_);refine o1 ?_;refine o1 ?_;refine nl (rt ?_)
   exact cG (.inl rfl) rfl (by unfold namB;rw[vL];simp only[h1,decide_eq_true h2,h3,cP,cQ] <;> first | rfl | grind)
  (iterate 4 refine aW ?_);refine o1 ?_;refine o1 ?_;(iterate 3 refine aW ?_);refine o1 ?_;refine o1 ?_;(iterate 3 refine aW ?_);refine o1 ?_;refine o1 ?_;refine nl (rt ?_)
  exact cG (.inl rfl) rfl (by unfold namB;rw[vL];simp only[h1,decide_eq_false h2,cP,cQ] <;> first | rfl | grind)
 (iterate 3 refine aW ?_);refine o1 ?_;refine o1 ?_;(iterate 4 refine aW ?_);refine o1 ?_;refine o1 ?_;(iterate 3 refine aW ?_);refine o1 ?_;refine o1 ?_;(iterate 3 refine aW ?_)
 refine o1 ?_;refine o1 ?_;refine nl (rt ?_)
 exact cG (.inl rfl) rfl (by unfold namB;rw[vL];simp only[h1,cP,cQ] <;> first | rfl | grind)
theorem Pn {a:Fr4}(ha:a.ok) (h:eC a.s a.x a.t a.y=true):∃p,Fr4.of p=a/\Sz 68719476736 p:=⟨a.q,Qn.right (a:=a) (p:=a.q) ⟨ha,rfl⟩ h,Qn.sz (a:=a) (p:=a.q) ⟨ha,rfl⟩⟩
theorem BM {m:Int}(p:Rat):(dg 4294967296 (m.fmod (p.den:Int)).natAbs).length<=(dg 4294967296 p.den).length:=eH (by
 have h0:(0:Int)<(p.den:Int):=by have:=p.den_pos;omega
 have h1:=Int.fmod_lt_of_pos m h0
 have h2:=Int.fmod_nonneg_of_pos m h0
 omega)
theorem sgi {k:Int}:decide (k.sign=0)=decide (k=0):=decide_eq_decide.2 Int.sign_eq_zero_iff_zero
theorem eS {m:Int}(h1:-9223372036854775808<=m) (h2:m<=9223372036854775807):(dg 4294967296 m.natAbs).length<=137438953472:=by
 have:=(cU h1 h2).1
 rw[Rat.num_intCast]at this
 omega
theorem Jq {a:Fr4}{m:Int}(ha:a.ok) (hm1:-9223372036854775808<=m) (hm2:m<=9223372036854775807):aE true Tryz.prog 97 [] [qF a,.one (tv (.int .i64 m))] (aP (.one (tv (.bool (tX a m))))):=by
 refine bD Tryz.func97 Tryz.ntmps97 fun N9 w9 c0 h0=>?_
 refine sq (rl (bx 0 ?_));refine o1 ?_;refine nl (sq (sq (rl (ld ?_))))
 refine ca (zH ha) aA (aM rfl) _ ?_;refine WL.splitb (t:=9) rfl (fun h1=>?_) (fun h1=>?_)
 ·refine o1 ?_;refine nl (dY rfl (sk ?_));obtain⟨p,rfl,hsz⟩:=Pn ha h1
  have hd0:(p.den:Int)≠0:=by have:=p.den_pos;omega
  have hsz2:=hsz.2
  refine md (γ:=Unit) (fun _=>bP [(6,pN 0),(7,iN 0)]) (fun _=>([⟨25,0,[tv (.bool (aZ ((m.fmod (p.den:Int))))),.t (sU false (dg 4294967296 ((m.fmod (p.den:Int))).natAbs))]⟩]:List Ob).map some) (fun _=>True) ?_ fun _ _=>?_
  ·refine bU [0] [13] ?_
   refine dv 0 ?_;refine dv 2 ?_;refine aF 3 ?_;refine wK 1 9 10 ?_ ?_ ?_
   ·refine dE 1 rfl (vI (n:=m) hm1 hm2) aA (bC rfl) _ ?_;refine wK 4 9 10 ?_ ?_ ?_
    ·refine dE 4 rfl (gD (Zn.of (k:=m) (eS hm1 hm2)).g (cY hsz).g hd0) aA (bN rfl rfl) _ ?_
     refine df 5 ?_;refine df 6 ?_;refine df 7 ?_;refine df 8 ?_;refine dD 9 10 ?_ ?_
     ·refine bQ 1 9 ?_;refine eE 2 10 ?_
      refine aT 11 ?_
      refine aT 12 ?_
      refine bM 13 ?_
      refine aJ ?_;exact⟨(),trivial,aH h0 [2] ⟨oe rfl rfl,rfl⟩⟩
     refine bQ 1 10 ?_;refine eE 2 9 ?_
     refine aT 11 ?_
     refine aT 12 ?_
     refine bM 13 ?_
     refine aJ ?_;exact⟨(),trivial,aH h0 [1] ⟨oe rfl rfl,rfl⟩⟩
    ·refine bQ 1 9 ?_;refine dD 4 10 ?_ ?_
     ·refine dE 4 rfl (gD (Zn.of (k:=m) (eS hm1 hm2)).g (cY hsz).g hd0) aA (bN rfl rfl) _ ?_
      refine df 5 ?_;refine df 6 ?_;refine df 7 ?_;refine df 8 ?_;refine eE 2 10 ?_
      refine aT 11 ?_
      refine aT 12 ?_
      refine bM 13 ?_
      refine aJ ?_;exact⟨(),trivial,aH h0 [2] ⟨oe rfl rfl,rfl⟩⟩
     refine bQ 2 10 ?_
     refine aG 4 rfl (gD (Zn.of (k:=m) (eS hm1 hm2)).g (cY hsz).g hd0) aA (bN rfl rfl) _ ?_
     refine df 5 ?_;refine df 6 ?_;refine df 7 ?_;refine df 8 ?_;refine aT 11 ?_
     refine aT 12 ?_
     refine bM 13 ?_
     refine aJ ?_;exact⟨(),trivial,aH h0 [2] ⟨oe rfl rfl,rfl⟩⟩
    refine bQ 1 10 ?_;refine dD 4 9 ?_ ?_
    ·refine dE 4 rfl (gD (Zn.of (k:=m) (eS hm1 hm2)).g (cY hsz).g hd0) aA (bN rfl rfl) _ ?_
     refine df 5 ?_;refine df 6 ?_;refine df 7 ?_;refine df 8 ?_;refine eE 2 9 ?_
     refine aT 11 ?_
     refine aT 12 ?_
     refine bM 13 ?_
     refine aJ ?_;exact⟨(),trivial,aH h0 [1] ⟨oe rfl rfl,rfl⟩⟩
    refine bQ 2 9 ?_
    refine aG 4 rfl (gD (Zn.of (k:=m) (eS hm1 hm2)).g (cY hsz).g hd0) aA (bN rfl rfl) _ ?_
    refine df 5 ?_;refine df 6 ?_;refine df 7 ?_;refine df 8 ?_;refine aT 11 ?_
    refine aT 12 ?_
    refine bM 13 ?_
    refine aJ ?_;exact⟨(),trivial,aH h0 [1] ⟨oe rfl rfl,rfl⟩⟩
   ·refine bQ 1 9 ?_;refine dD 1 10 ?_ ?_
    ·refine dE 1 rfl (vI (n:=m) hm1 hm2) aA (bC rfl) _ ?_;refine dD 4 10 ?_ ?_
     ·refine dE 4 rfl (gD (Zn.of (k:=m) (eS hm1 hm2)).g (cY hsz).g hd0) aA (bN rfl rfl) _ ?_
      refine df 5 ?_;refine df 6 ?_;refine df 7 ?_;refine df 8 ?_;refine eE 2 10 ?_
      refine aT 11 ?_
      refine aT 12 ?_
      refine bM 13 ?_
      refine aJ ?_;exact⟨(),trivial,aH h0 [2] ⟨oe rfl rfl,rfl⟩⟩
     refine bQ 2 10 ?_
     refine aG 4 rfl (gD (Zn.of (k:=m) (eS hm1 hm2)).g (cY hsz).g hd0) aA (bN rfl rfl) _ ?_
     refine df 5 ?_;refine df 6 ?_;refine df 7 ?_;refine df 8 ?_;refine aT 11 ?_
     refine aT 12 ?_
     refine bM 13 ?_
     refine aJ ?_;exact⟨(),trivial,aH h0 [2] ⟨oe rfl rfl,rfl⟩⟩
    refine bQ 2 10 ?_;refine aG 1 rfl (vI (n:=m) hm1 hm2) aA (bC rfl) _ ?_
    refine aG 4 rfl (gD (Zn.of (k:=m) (eS hm1 hm2)).g (cY hsz).g hd0) aA (bN rfl rfl) _ ?_
    refine df 5 ?_;refine df 6 ?_;refine df 7 ?_;refine df 8 ?_;refine aT 11 ?_
    refine aT 12 ?_
    refine bM 13 ?_
    refine aJ ?_;exact⟨(),trivial,aH h0 [2] ⟨oe rfl rfl,rfl⟩⟩
   refine bQ 1 10 ?_;refine dD 1 9 ?_ ?_
   ·refine dE 1 rfl (vI (n:=m) hm1 hm2) aA (bC rfl) _ ?_;refine dD 4 9 ?_ ?_
    ·refine dE 4 rfl (gD (Zn.of (k:=m) (eS hm1 hm2)).g (cY hsz).g hd0) aA (bN rfl rfl) _ ?_
     refine df 5 ?_;refine df 6 ?_;refine df 7 ?_;refine df 8 ?_;refine eE 2 9 ?_
     refine aT 11 ?_
     refine aT 12 ?_
     refine bM 13 ?_
     refine aJ ?_;exact⟨(),trivial,aH h0 [1] ⟨oe rfl rfl,rfl⟩⟩
    refine bQ 2 9 ?_
    refine aG 4 rfl (gD (Zn.of (k:=m) (eS hm1 hm2)).g (cY hsz).g hd0) aA (bN rfl rfl) _ ?_
    refine df 5 ?_;refine df 6 ?_;refine df 7 ?_;refine df 8 ?_;refine aT 11 ?_
    refine aT 12 ?_
    refine bM 13 ?_
    refine aJ ?_;exact⟨(),trivial,aH h0 [1] ⟨oe rfl rfl,rfl⟩⟩
   refine bQ 2 9 ?_;refine aG 1 rfl (vI (n:=m) hm1 hm2) aA (bC rfl) _ ?_
   refine aG 4 rfl (gD (Zn.of (k:=m) (eS hm1 hm2)).g (cY hsz).g hd0) aA (bN rfl rfl) _ ?_
   refine df 5 ?_;refine df 6 ?_;refine df 7 ?_;refine df 8 ?_;refine aT 11 ?_
   refine aT 12 ?_
   refine bM 13 ?_
   refine aJ ?_;exact⟨(),trivial,aH h0 [1] ⟨oe rfl rfl,rfl⟩⟩
  refine sq (rl ?_);(iterate 3 refine o1 ?_);refine WL.split (t:=22) rfl (fun h2=>?_) (fun h2=>?_)
  ·refine ld ?_;refine ca (xU (Zg.of (k:=(m.fmod (p.den:Int))) (Nat.le_trans (BM p) (by omega)))) aA (aM rfl) _ ?_
   refine o1 ?_;refine fU 25 (decide ((m.fmod (p.den:Int))=0)) rfl sgi ?_;refine o1 ?_;refine o1 ?_;refine nl (rt ?_)
   exact cG (.inl rfl) rfl (by unfold tX;(try rw[Fr4.q_of]);simp only[h1,decide_eq_true h2,cP,cQ] <;> first | rfl | grind)
  (iterate 3 refine aW ?_);refine o1 ?_;refine o1 ?_;refine nl (rt ?_)
  exact cG (.inl rfl) rfl (by unfold tX;(try rw[Fr4.q_of]);simp only[h1,decide_eq_false h2,cP,cQ] <;> first | rfl | grind)
 refine o1 ?_;refine nl (eU rfl (sq (rl (o1 ?_))));refine nl (rt ?_)
 exact cG (.inl rfl) rfl (by unfold tX;(try rw[Fr4.q_of]);simp only[h1,cP,cQ] <;> first | rfl | grind)
theorem TM {p q:Rat}:decide ((iM p [-p]-q).num.sign<0)=(decide (p<q)&&decide (-p<q)):=by
 have e:((iM p [-p]-q).num.sign<0)↔iM p [-p]<q:=by
  rw[pL]
  split
  ·simp[*]
  split <;> simp[*]
 rw[Bool.eq_iff_iff,decide_eq_true_eq,Bool.and_eq_true,decide_eq_true_eq,decide_eq_true_eq,e]
 unfold iM
 simp only[List.foldl_cons,List.foldl_nil]
 split <;> grind
theorem TN {a:Fr4}{p:Rat}(ha:Qn a p):aE false Tryz.prog 164 [] [qF a,.one (.t (sQ false [Fr4.of (-p)]))] (aP (qF (.of (iM p [-p])))):=by
 have h:=aAa (a:=a) (xs:=[Fr4.of (-p)]) ha (fun x hx=>by rw[List.mem_singleton]at hx;rw[hx];exact(Qn.of (tH ha.sz)).1) (by simp)
 rwa[List.map_cons,Fr4.q_of]at h
theorem qC {a:Fr4}(ha:a.ok):aE true Tryz.prog 94 [] [qF a] (aP (.one (tv (.bool (rX a))))):=by
 refine bD Tryz.func94 Tryz.ntmps94 fun N9 w9 c0 h0=>?_
 have hq:Qn a a.q:=⟨ha,rfl⟩
 have hst:Sz 68719476736 ((1000000000000000:Int):Rat):=(cU (z:=1000000000000000) (by omega) (by omega)).mono (by omega)
 have hs4:Sz 68719476736 topQ:=(lM (cU (z:=1000000000000000) (by omega) (by omega)) (cU (z:=1000000000000000) (by omega) (by omega))).mono (by omega)
 have hsm:Sz 68719476736 (iM a.q [-a.q]):=ND hq.sz (fun q h9=>by rw[List.mem_singleton]at h9;rw[h9];exact tH hq.sz)
 refine sq (rl (bx 0 ?_));refine o1 ?_;refine nl (sq (sq (rl (ld ?_))))
 refine ca (Jq (m:=100) ha (by omega) (by omega)) aA ⟨nD rfl,a1 rfl,rfl⟩ _ ?_
 refine WL.splitb (t:=5) rfl (fun h1=>?_) (fun h1=>?_)
 ·refine o1 ?_;refine nl (dY rfl (sk (sq (rl ?_))))
  refine ca (kN (z:=1000000000000000) (by omega) (by omega)) aA (bC rfl) _ ?_
  refine al 1 ?_;refine st ?_;refine nl (sq (rl (ld ?_)));refine ld ?_;refine ca (Hh (Qn.of hst) (Qn.of hst)) aA (bN rfl rfl) _ ?_
  refine st ?_;refine nl (sq ?_);refine bU [0,1] [8] ?_
  refine aF 0 ?_;refine aF 1 ?_;refine aF 5 ?_;refine aG 2 rfl (ZX hq) aA (aM rfl) _ ?_
  refine dA (key:=2) 3 (by kernel_rfl) rfl rfl aR rfl ⟨rfl,rfl,trivial⟩ ?_
  refine wJ (i:=14) (k:=2) (t:=27) (t':=38) (z:=4) (n:=1) (l:=[Fr4.of (-a.q)].flatMap (Fr4.tr false)) rfl rfl rfl rfl (.one .sl) (by rfl) (by rfl) ?_
  refine aG 4 rfl (TN hq) aA ⟨nD rfl,a1 rfl,rfl⟩ _ ?_
  refine aG 6 rfl (Hg (Qn.of hsm) (Qn.of hs4)) aA (bN rfl rfl) _ ?_;refine df 7 ?_
  refine qR 18 (decide (a.q<topQ)&&decide (-a.q<topQ)) rfl TM ?_
  refine bM 8 ?_
  refine aJ ?_;refine rt ?_
  exact cG (.inl rfl) rfl (by unfold rX;simp only[h1,cP,cQ] <;> first | rfl | grind)
 refine o1 ?_;refine nl (eU rfl (sq (rl (o1 ?_))));refine nl (rt ?_)
 exact cG (.inl rfl) rfl (by unfold rX;simp only[h1,cP,cQ] <;> first | rfl | grind)
theorem No {p:Rat}:decide (0<=p.num.sign)=decide (0<=p):=decide_eq_decide.2 (by rw[Int.sign_nonneg_iff,Rat.num_nonneg])
theorem Np {p q:Rat}:decide ((p-q).num.sign<=0)=decide (p<=q):=by
 refine decide_eq_decide.2 ?_
 rw[pL]
 split
 ·simp;grind
 split <;> simp <;> grind
theorem mS {a:Fr4}(ha:a.ok):aE true Tryz.prog 95 [] [qF a] (aP (.one (tv (.bool (oX a))))):=by
 refine bD Tryz.func95 Tryz.ntmps95 fun N9 w9 c0 h0=>?_
 have hq:Qn a a.q:=⟨ha,rfl⟩
 have hs1:Sz 68719476736 ((1:Int):Rat):=(cU (z:=1) (by omega) (by omega)).mono (by omega)
 refine sq (rl (bx 0 ?_));refine o1 ?_;refine nl (sq ?_);refine bU [0] [13] ?_
 refine aF 0 ?_;refine aG 1 rfl (Jq (m:=1000000) ha (by omega) (by omega)) aA ⟨nD rfl,a1 rfl,rfl⟩ _ ?_
 refine df 2 ?_;refine WD.splitb (t:=5) rfl (fun h1=>?_) (fun h1=>?_)
 ·refine aF 3 ?_;refine aG 4 rfl (Hc hq) aA (aM rfl) _ ?_;refine df 5 ?_
  refine qR 8 (decide (0<=a.q)) rfl No ?_;refine df 6 ?_;refine df 7 ?_;refine WD.splitb (t:=10) rfl (fun h2=>?_) (fun h2=>?_)
  ·refine aF 8 ?_;refine aG 9 rfl (kN (z:=1) (by omega) (by omega)) aA (bC rfl) _ ?_
   refine aG 10 rfl (Hg hq (Qn.of hs1)) aA (bN rfl rfl) _ ?_;refine df 11 ?_
   refine qR 14 (decide (a.q<=1)) rfl Np ?_;refine df 12 ?_
   refine bM 13 ?_
   refine aJ ?_;refine rt ?_
   exact cG (.inl rfl) rfl (by unfold oX;simp only[h1,h2,cP,cQ] <;> first | rfl | grind)
  refine cF 8 ?_;refine cF 9 ?_;refine cF 10 ?_;refine cF 11 ?_;refine df 12 ?_;refine bM 13 ?_
  refine aJ ?_;refine rt ?_
  exact cG (.inl rfl) rfl (by unfold oX;simp only[h1,h2,cP,cQ] <;> first | rfl | grind)
 refine cF 3 ?_;refine cF 4 ?_;refine cF 5 ?_;refine df 6 ?_;refine df 7 ?_;refine cF 8 ?_;refine cF 9 ?_;refine cF 10 ?_;refine cF 11 ?_;refine df 12 ?_
 refine bM 13 ?_
 refine aJ ?_;refine rt ?_
 exact cG (.inl rfl) rfl (by unfold oX;simp only[h1,cP,cQ] <;> first | rfl | grind)
theorem aBV {x:It}(hx:OkI x):aE true Tryz.prog 44 [] [.agg ((tI x).map .t)] (aP (.one (tv (.bool (brB x))))):=by
 refine bD Tryz.func44 Tryz.ntmps44 fun N9 w9 c0 h0=>?_
 refine sq (rl (bx 0 ?_));refine o1 ?_;refine nl (sq (rl (o1 ?_)));refine ld ?_
 refine ca (qC (hx.p).ok) aA (aM rfl) _ ?_;refine o1 ?_;refine WL.splitb (t:=6) rfl (fun h1=>?_) (fun h1=>?_)
 ·refine o1 ?_;refine ld ?_;refine ca (mS (hx.q).ok) aA (aM rfl) _ ?_;refine o1 ?_;refine o1 ?_;refine nl (rt ?_)
  exact cG (.inl rfl) rfl (by unfold brB;simp only[h1,cP,cQ] <;> first | rfl | grind)
 (iterate 3 refine aW ?_);refine o1 ?_;refine o1 ?_;refine nl (rt ?_)
 exact cG (.inl rfl) rfl (by unfold brB;simp only[h1,cP,cQ] <;> first | rfl | grind)
theorem aBW {x:It}(hx:OkI x):aE true Tryz.prog 100 [] [.agg ((fG x).map .t)] (aP (.one (tv (.bool (hlB x))))):=by
 refine bD Tryz.func100 Tryz.ntmps100 fun N9 w9 c0 h0=>?_
 refine sq (rl (bx 0 ?_));refine o1 ?_;refine nl (sq (rl (o1 ?_)));refine ld ?_
 refine ca (jO (hx.s).lim) aA (bC rfl) _ ?_;refine o1 ?_;refine WL.splitb (t:=6) rfl (fun h1=>?_) (fun h1=>?_)
 ·refine o1 ?_;refine ld ?_;refine ca (jO (hx.t).lim) aA (bC rfl) _ ?_;refine o1 ?_;refine o1 ?_
  refine WL.splitb (t:=11) rfl (fun h2=>?_) (fun h2=>?_)
  ·refine o1 ?_;refine ld ?_;refine ca (mS (hx.p).ok) aA (aM rfl) _ ?_;refine o1 ?_;refine o1 ?_;refine nl (rt ?_)
   exact cG (.inl rfl) rfl (by unfold hlB;simp only[h1,h2,cP,cQ] <;> first | rfl | grind)
  (iterate 3 refine aW ?_);refine o1 ?_;refine o1 ?_;refine nl (rt ?_)
  exact cG (.inl rfl) rfl (by unfold hlB;simp only[h1,h2,cP,cQ] <;> first | rfl | grind)
 (iterate 3 refine aW ?_);refine o1 ?_;refine o1 ?_;(iterate 3 refine aW ?_);refine o1 ?_;refine o1 ?_;refine nl (rt ?_)
 exact cG (.inl rfl) rfl (by unfold hlB;simp only[h1,cP,cQ] <;> first | rfl | grind)
theorem aBX {x:It}(hx:OkI x):aE true Tryz.prog 102 [] [.agg ((fG x).map .t)] (aP (.one (tv (.bool (bkB x))))):=by
 refine bD Tryz.func102 Tryz.ntmps102 fun N9 w9 c0 h0=>?_
 refine sq (rl (bx 0 ?_));refine o1 ?_;refine nl (sq (rl (o1 ?_)));refine ld ?_
 refine ca (jO (hx.s).lim) aA (bC rfl) _ ?_;refine o1 ?_;refine WL.splitb (t:=6) rfl (fun h1=>?_) (fun h1=>?_)
 ·refine o1 ?_;refine ld ?_;refine ca (jO (hx.t).lim) aA (bC rfl) _ ?_;refine o1 ?_;refine o1 ?_
  refine WL.splitb (t:=11) rfl (fun h2=>?_) (fun h2=>?_)
  ·refine o1 ?_;refine ld ?_;refine ca (qC (hx.p).ok) aA (aM rfl) _ ?_;refine o1 ?_;refine o1 ?_;refine nl (rt ?_)
   exact cG (.inl rfl) rfl (by unfold bkB;simp only[h1,h2,cP,cQ] <;> first | rfl | grind)
  (iterate 3 refine aW ?_);refine o1 ?_;refine o1 ?_;refine nl (rt ?_)
  exact cG (.inl rfl) rfl (by unfold bkB;simp only[h1,h2,cP,cQ] <;> first | rfl | grind)
 (iterate 3 refine aW ?_);refine o1 ?_;refine o1 ?_;(iterate 3 refine aW ?_);refine o1 ?_;refine o1 ?_;refine nl (rt ?_)
 exact cG (.inl rfl) rfl (by unfold bkB;simp only[h1,cP,cQ] <;> first | rfl | grind)
theorem aBY {x:It}(hx:OkI x):aE true Tryz.prog 106 [] [.agg ((oV x).map .t)] (aP (.one (tv (.bool (stB x))))):=by
 refine bD Tryz.func106 Tryz.ntmps106 fun N9 w9 c0 h0=>?_
 refine sq (rl (bx 0 ?_));refine o1 ?_;refine nl (sq (rl (o1 ?_)));refine ld ?_
 refine ca (jO (hx.s).lim) aA (bC rfl) _ ?_;refine o1 ?_;refine WL.splitb (t:=6) rfl (fun h1=>?_) (fun h1=>?_)
 ·refine o1 ?_;refine ld ?_;refine ca (qC (hx.p).ok) aA (aM rfl) _ ?_;refine o1 ?_;refine o1 ?_
  refine WL.splitb (t:=11) rfl (fun h2=>?_) (fun h2=>?_)
  ·refine o1 ?_;refine ld ?_;refine ca (mS (hx.q).ok) aA (aM rfl) _ ?_;refine o1 ?_;refine o1 ?_;refine nl (rt ?_)
   exact cG (.inl rfl) rfl (by unfold stB;simp only[h1,h2,cP,cQ] <;> first | rfl | grind)
  (iterate 3 refine aW ?_);refine o1 ?_;refine o1 ?_;refine nl (rt ?_)
  exact cG (.inl rfl) rfl (by unfold stB;simp only[h1,h2,cP,cQ] <;> first | rfl | grind)
 (iterate 3 refine aW ?_);refine o1 ?_;refine o1 ?_;(iterate 3 refine aW ?_);refine o1 ?_;refine o1 ?_;refine nl (rt ?_)
 exact cG (.inl rfl) rfl (by unfold stB;simp only[h1,cP,cQ] <;> first | rfl | grind)
theorem aBZ {x:It}(hx:OkI x):aE true Tryz.prog 108 [] [.agg ((pF x).map .t)] (aP (.one (tv (.bool (soB x))))):=by
 refine bD Tryz.func108 Tryz.ntmps108 fun N9 w9 c0 h0=>?_
 refine sq (rl (bx 0 ?_));refine o1 ?_;refine nl (sq (rl (o1 ?_)));refine ld ?_
 refine ca (jO (hx.s).lim) aA (bC rfl) _ ?_;refine o1 ?_;refine WL.splitb (t:=6) rfl (fun h1=>?_) (fun h1=>?_)
 ·refine o1 ?_;refine ld ?_;refine ca (mS (hx.p).ok) aA (aM rfl) _ ?_;refine o1 ?_;refine o1 ?_;refine nl (rt ?_)
  exact cG (.inl rfl) rfl (by unfold soB;simp only[h1,cP,cQ] <;> first | rfl | grind)
 (iterate 3 refine aW ?_);refine o1 ?_;refine o1 ?_;refine nl (rt ?_)
 exact cG (.inl rfl) rfl (by unfold soB;simp only[h1,cP,cQ] <;> first | rfl | grind)
theorem aCa {x:It}(hx:OkI x):aE true Tryz.prog 104 [] [.agg ((kP x).map .t)] (aP (.one (tv (.bool (dlB x))))):=by
 refine bD Tryz.func104 Tryz.ntmps104 fun N9 w9 c0 h0=>?_
 refine sq (rl (bx 0 ?_));refine o1 ?_;refine nl (sq (rl (o1 ?_)));refine ld ?_
 refine ca (jO (hx.s).lim) aA (bC rfl) _ ?_;refine o1 ?_;refine WL.splitb (t:=6) rfl (fun h1=>?_) (fun h1=>?_)
 ·refine o1 ?_;refine ld ?_;(iterate 3 refine o1 ?_);refine WL.split (t:=11) rfl (fun h2=>?_) (fun h2=>?_)
  ·refine o1 ?_;refine ld ?_;(iterate 3 refine o1 ?_);refine WL.split (t:=16) rfl (fun h3=>?_) (fun h3=>?_)
   ·refine o1 ?_;refine ld ?_;refine ca (jO (hx.t).lim) aA (bC rfl) _ ?_;refine o1 ?_;refine o1 ?_
    refine WL.splitb (t:=21) rfl (fun h4=>?_) (fun h4=>?_)
    ·refine o1 ?_;refine ld ?_;refine ca (jO (hx.u).lim) aA (bC rfl) _ ?_;refine o1 ?_;refine o1 ?_
     refine WL.splitb (t:=26) rfl (fun h5=>?_) (fun h5=>?_)
     ·refine o1 ?_;refine ld ?_;refine ca (jO (hx.v).lim) aA (bC rfl) _ ?_;refine o1 ?_;refine o1 ?_
      refine WL.splitb (t:=31) rfl (fun h6=>?_) (fun h6=>?_)
      ·refine o1 ?_;refine ld ?_;refine ca (qC (hx.p).ok) aA (aM rfl) _ ?_;refine o1 ?_;refine o1 ?_;refine nl (rt ?_)
       exact cG (.inl rfl) rfl (by unfold dlB;simp only[h1,decide_eq_true h2,decide_eq_true h3,h4,h5,h6,cP,cQ] <;> first | rfl | grind)
      (iterate 3 refine aW ?_);refine o1 ?_;refine o1 ?_;refine nl (rt ?_)
      exact cG (.inl rfl) rfl (by unfold dlB;simp only[h1,decide_eq_true h2,decide_eq_true h3,h4,h5,h6,cP,cQ] <;> first | rfl | grind)
     (iterate 3 refine aW ?_);refine o1 ?_;refine o1 ?_;(iterate 3 refine aW ?_);refine o1 ?_;refine o1 ?_;refine nl (rt ?_)
     exact cG (.inl rfl) rfl (by unfold dlB;simp only[h1,decide_eq_true h2,decide_eq_true h3,h4,h5,cP,cQ] <;> first | rfl | grind)
    (iterate 3 refine aW ?_);refine o1 ?_;refine o1 ?_;(iterate 3 refine aW ?_);refine o1 ?_;refine o1 ?_;(iterate 3 refine aW ?_);refine o1 ?_;refine o1 ?_;refine nl (rt ?_)
    exact cG (.inl rfl) rfl (by unfold dlB;simp only[h1,decide_eq_true h2,decide_eq_true h3,h4,cP,cQ] <;> first | rfl | grind)
   (iterate 3 refine aW ?_);refine o1 ?_;refine o1 ?_;(iterate 3 refine aW ?_);refine o1 ?_;refine o1 ?_;(iterate 3 refine aW ?_);refine o1 ?_;refine o1 ?_;(iterate 3 refine aW ?_)
   refine o1 ?_;refine o1 ?_;refine nl (rt ?_)
   exact cG (.inl rfl) rfl (by unfold dlB;simp only[h1,decide_eq_true h2,decide_eq_false h3,cP,cQ] <;> first | rfl | grind)
  (iterate 3 refine aW ?_);refine o1 ?_;refine o1 ?_;(iterate 3 refine aW ?_);refine o1 ?_;refine o1 ?_;(iterate 3 refine aW ?_);refine o1 ?_;refine o1 ?_;(iterate 3 refine aW ?_)
  refine o1 ?_;refine o1 ?_;(iterate 3 refine aW ?_);refine o1 ?_;refine o1 ?_;refine nl (rt ?_)
  exact cG (.inl rfl) rfl (by unfold dlB;simp only[h1,decide_eq_false h2,cP,cQ] <;> first | rfl | grind)
 (iterate 3 refine aW ?_);refine o1 ?_;refine o1 ?_;(iterate 3 refine aW ?_);refine o1 ?_;refine o1 ?_;(iterate 3 refine aW ?_);refine o1 ?_;refine o1 ?_;(iterate 3 refine aW ?_)
 refine o1 ?_;refine o1 ?_;(iterate 3 refine aW ?_);refine o1 ?_;refine o1 ?_;(iterate 3 refine aW ?_);refine o1 ?_;refine o1 ?_;refine nl (rt ?_)
 exact cG (.inl rfl) rfl (by unfold dlB;simp only[h1,cP,cQ] <;> first | rfl | grind)
theorem aCb {y:Yer}:aE true Tryz.prog 51 [] [.agg ((cV false y).map .t)] (aP (.one (tv (.bool (yrB y))))):=by
 refine bD Tryz.func51 Tryz.ntmps51 fun N9 w9 c0 h0=>?_
 refine sq (rl (bx 0 ?_));refine o1 ?_;refine nl (sq (rl (o1 ?_)));refine ld ?_;refine o1 ?_;refine o1 ?_
 refine WL.split (t:=6) rfl (fun h1=>?_) (fun h1=>?_)
 ·refine o1 ?_;refine ld ?_;(iterate 3 refine o1 ?_);refine nl (rt ?_)
  exact cG (.inl rfl) rfl (by unfold yrB;simp only[decide_eq_true h1,cP,cQ] <;> first | rfl | grind)
 (iterate 3 refine aW ?_);refine o1 ?_;refine o1 ?_;refine nl (rt ?_)
 exact cG (.inl rfl) rfl (by unfold yrB;simp only[decide_eq_false h1,cP,cQ] <;> first | rfl | grind)
theorem FZ {b:Bool}:aE true Tryz.prog 47 [] [.one (tv (.bool b))] (aP (.one (tv (.bool (id b))))):=by
 refine bD Tryz.func47 Tryz.ntmps47 fun N9 w9 c0 h0=>?_
 refine sq (rl (o1 ?_));refine nl (sq (rl (o1 ?_)));refine o1 ?_;refine nl (rt ?_)
 exact en (.inl rfl) rfl (bB (bO _)) (by decide) (fun _=>trivial) rfl
theorem JZ {p:Rat}:decide (p.num.sign=0)=decide (p=0):=decide_eq_decide.2 (by rw[Int.sign_eq_zero_iff_zero,Rat.num_eq_zero])
theorem aCc {x:It}(hx:OkI x):aE true Tryz.prog 49 [] [.agg ((nP x).map .t)] (aP (.one (tv (.bool (clB x))))):=by
 refine bD Tryz.func49 Tryz.ntmps49 fun N9 w9 c0 h0=>?_
 have hq:Qn x.p x.p.q:=⟨(hx.p).ok,rfl⟩
 have hs1:Sz 68719476736 ((40:Int):Rat):=(cU (z:=40) (by omega) (by omega)).mono (by omega)
 refine sq (rl (bx 0 ?_));refine o1 ?_;refine nl (sq (sq (rl (o1 ?_))));refine ld ?_
 refine ca (jO (hx.s).lim) aA (bC rfl) _ ?_;refine WL.splitb (t:=5) rfl (fun h1=>?_) (fun h1=>?_)
 ·refine o1 ?_;refine nl (dY rfl (sk (sq (sq (rl (o1 ?_))))));refine ld ?_;refine nl (bl (sq (rl ?_)))
  refine o1 ?_;refine o1 ?_;refine nl ?_;refine aV rfl (fun h2=>?_) (fun h2=>?_)
  ·refine sq (rl (o1 ?_));refine ld ?_;refine ca (mS (hx.p).ok) aA (aM rfl) _ ?_;refine o1 ?_;refine nl (rt ?_)
   exact cG (.inl rfl) rfl (by unfold clB;simp only[h1,decide_eq_true h2,cP,cQ] <;> first | rfl | grind)
  refine sq (rl (o1 ?_));refine o1 ?_;refine nl ?_;refine aV rfl (fun h3=>?_) (fun h3=>?_)
  ·refine sq (rl (o1 ?_));refine ld ?_;refine ca (qC (hx.p).ok) aA (aM rfl) _ ?_;refine o1 ?_;refine nl (rt ?_)
   exact cG (.inl rfl) rfl (by unfold clB;simp only[h1,decide_eq_false h2,decide_eq_true h3,cP,cQ] <;> first | rfl | grind)
  refine sq (rl (o1 ?_));refine o1 ?_;refine nl ?_;refine aV rfl (fun h4=>?_) (fun h4=>?_)
  ·refine sq ?_;refine bU [0] [16] ?_
   refine dv 0 ?_;refine aF 1 ?_;refine aG 2 rfl (Jq (m:=1) (hx.p).ok (by omega) (by omega)) aA ⟨nD rfl,a1 rfl,rfl⟩ _ ?_
   refine df 3 ?_;refine WD.splitb (t:=24) rfl (fun h5=>?_) (fun h5=>?_)
   ·refine dv 4 ?_;refine aF 5 ?_;refine aG 6 rfl (Hc hq) aA (aM rfl) _ ?_;refine df 7 ?_
    refine qR 28 (decide (0<=x.p.q)) rfl No ?_;refine df 8 ?_;refine df 9 ?_;refine WD.splitb (t:=30) rfl (fun h6=>?_) (fun h6=>?_)
    ·refine dv 10 ?_;refine aF 11 ?_;refine aG 12 rfl (kN (z:=40) (by omega) (by omega)) aA (bC rfl) _ ?_
     refine aG 13 rfl (Hg hq (Qn.of hs1)) aA (bN rfl rfl) _ ?_;refine df 14 ?_
     refine qR 35 (decide (x.p.q<=40)) rfl Np ?_;refine df 15 ?_
     refine bM 16 ?_
     refine aJ ?_;refine rt ?_
     exact cG (.inl rfl) rfl (by unfold clB;simp only[h1,decide_eq_false h2,decide_eq_false h3,decide_eq_true h4,h5,h6,cP,cQ] <;> first | rfl | grind)
    refine cF 10 ?_;refine cF 11 ?_;refine cF 12 ?_;refine cF 13 ?_;refine cF 14 ?_;refine df 15 ?_
    refine bM 16 ?_
    refine aJ ?_;refine rt ?_
    exact cG (.inl rfl) rfl (by unfold clB;simp only[h1,decide_eq_false h2,decide_eq_false h3,decide_eq_true h4,h5,h6,cP,cQ] <;> first | rfl | grind)
   refine cF 4 ?_;refine cF 5 ?_;refine cF 6 ?_;refine cF 7 ?_;refine df 8 ?_;refine df 9 ?_;refine cF 10 ?_;refine cF 11 ?_;refine cF 12 ?_;refine cF 13 ?_;refine cF 14 ?_
   refine df 15 ?_;refine bM 16 ?_
   refine aJ ?_;refine rt ?_
   exact cG (.inl rfl) rfl (by unfold clB;simp only[h1,decide_eq_false h2,decide_eq_false h3,decide_eq_true h4,h5,cP,cQ] <;> first | rfl | grind)
  refine sk (sq (rl (o1 ?_)));refine ld ?_;refine o1 ?_;refine o1 ?_;refine WL.split (t:=40) rfl (fun h7=>?_) (fun h7=>?_)
  ·refine o1 ?_;refine ld ?_;(iterate 3 refine o1 ?_);refine WL.split (t:=45) rfl (fun h8=>?_) (fun h8=>?_)
   ·refine o1 ?_;refine ld ?_;refine ca (zH (hx.p).ok) aA (aM rfl) _ ?_;refine o1 ?_;refine o1 ?_
    refine WL.splitb (t:=50) rfl (fun h9=>?_) (fun h9=>?_)
    ·refine o1 ?_;refine ld ?_;refine ca (Hc hq) aA (aM rfl) _ ?_;refine o1 ?_
     refine fU 54 (decide (x.p.q=0)) rfl JZ ?_;refine o1 ?_;refine o1 ?_;refine nl (rt ?_)
     exact cG (.inl rfl) rfl (by unfold clB;simp only[h1,decide_eq_false h2,decide_eq_false h3,decide_eq_false h4,decide_eq_true h7,decide_eq_true h8,h9,cP,cQ] <;> first | rfl | grind)
    (iterate 4 refine aW ?_);refine o1 ?_;refine o1 ?_;refine nl (rt ?_)
    exact cG (.inl rfl) rfl (by unfold clB;simp only[h1,decide_eq_false h2,decide_eq_false h3,decide_eq_false h4,decide_eq_true h7,decide_eq_true h8,h9,cP,cQ] <;> first | rfl | grind)
   (iterate 3 refine aW ?_);refine o1 ?_;refine o1 ?_;(iterate 4 refine aW ?_);refine o1 ?_;refine o1 ?_;refine nl (rt ?_)
   exact cG (.inl rfl) rfl (by unfold clB;simp only[h1,decide_eq_false h2,decide_eq_false h3,decide_eq_false h4,decide_eq_true h7,decide_eq_false h8,cP,cQ] <;> first | rfl | grind)
  (iterate 3 refine aW ?_);refine o1 ?_;refine o1 ?_;(iterate 3 refine aW ?_);refine o1 ?_;refine o1 ?_;(iterate 4 refine aW ?_);refine o1 ?_;refine o1 ?_;refine nl ?_
  refine rt ?_
  exact cG (.inl rfl) rfl (by unfold clB;simp only[h1,decide_eq_false h2,decide_eq_false h3,decide_eq_false h4,decide_eq_false h7,cP,cQ] <;> first | rfl | grind)
 refine o1 ?_;refine nl (eU rfl (sq (rl (o1 ?_))));refine nl (rt ?_)
 exact cG (.inl rfl) rfl (by unfold clB;simp only[h1,cP,cQ] <;> first | rfl | grind)
theorem BN {xs:List (List Nat)}{pt most:Nat}{yr:Int}(hx:∀x∈xs,OkS x) (hl:xs.length<=1073741823):aE true Tryz.prog 41 [] [.one (tv (.int .u8 ((pt:Nat):Int))),.one (tv (.int .i64 yr)),.one (.t (yB 9 xs)),.one (tv (.int .i64 ((most:Nat):Int))),.one (.t (.f 42 [] []))] (aP (.one (.t (fB true pt yr (dK most namB xs) (fK most namB xs))))):=by
 refine bD Tryz.func41 Tryz.ntmps41 fun N9 w9 c0 h0=>?_
 refine sq (rl (o1 ?_));refine nl (sq (sq (rl ?_)));(iterate 3 refine o1 ?_);refine nl (bl ?_)
 refine lp (γ:=Nat) (fun k=>bP [(0,.one (tv (.int .u8 ((pt:Nat):Int)))),(1,.one (tv (.int .i64 yr))),(3,iN most),(4,.one (.t (.f 42 [] []))),(13,.one (.t (yB 9 xs))),(14,iN xs.length),(15,iN k)]) (fun k=>([]:List Ob).map some) (fun k=>k<=xs.length/\mA most namB xs k) (fun k=>xs.length-k) 0 ⟨Nat.zero_le _,oJ⟩ (aH h0 [] rfl) fun k hk=>?_
 refine sq (rl (o1 ?_));refine nl (sq ?_);refine aV rfl (fun h1=>?_) (fun h1=>?_)
 ·refine sk (sq (bl (sq (rl (o1 ?_)))));refine o1 ?_;refine cX ([sT (eQ xs (k))]) (nF xs (k:=k) (by omega)) ?_
  refine o1 ?_;refine o1 ?_;refine nl (bl (sq (rl ?_)));(iterate 4 refine o1 ?_);refine nl ?_;refine aV rfl (fun h2=>?_) (fun h2=>?_)
  ·refine sq (rl ?_);(iterate 5 refine o1 ?_);refine bx 0 ?_;refine o1 ?_;refine nl (rt ?_);have h9:=nG (by omega) hk.2 (by omega)
   exact qD rfl (bB (.one (.pt (trs:=lE pt yr k 3) rfl))) (by rw[h9.1,h9.2];rfl)
  refine sq (rl (o1 ?_));refine o1 ?_
  refine ce 0 [.one (tv (.string (aN (eQ xs (k)))))] rfl (jO (hx (eQ xs (k)) (rZ (l:=xs) (by omega))).lim) aA ⟨rfl,rfl⟩ ?_
  refine WL.splitb (t:=33) rfl (fun h3=>?_) (fun h3=>?_)
  ·refine o1 ?_;refine o1 ?_;refine nl (dY rfl (sk (rl (o1 ?_))));refine aY 41 (k+1) ?_
   refine o1 ?_;refine nl ?_;exact⟨k+1,by omega,⟨by omega,iQ (d:=[]) (by omega) hk.2 (by omega) h3⟩,aH h0 [] rfl⟩
  refine o1 ?_;refine o1 ?_;refine nl (eU rfl (sq (rl ?_)));(iterate 5 refine o1 ?_);refine bx 0 ?_;refine o1 ?_;refine nl (rt ?_)
  have h9:=nH (d:=[]) (by omega) hk.2 (by omega) h3
  exact qD rfl (bB (.one (.pt (trs:=lE pt yr k 2) rfl))) (by rw[h9.1,h9.2];rfl)
 refine ex (sq (rl (o1 ?_)));refine nl (rt ?_);have hkn:k=xs.length:=by omega
 subst hkn;exact en (.inl rfl) rfl (bB (bO _)) (by decide) (fun _=>trivial) (by rw[nI hk.2];rfl)
theorem TO {xs:List It}{pt most:Nat}{yr:Int}(hx:∀x∈xs,OkI x) (hl:xs.length<=1073741823):aE true Tryz.prog 43 [] [.one (tv (.int .u8 ((pt:Nat):Int))),.one (tv (.int .i64 yr)),.one (.t (fN 70 8 tI xs)),.one (tv (.int .i64 ((most:Nat):Int))),.one (.t (.f 44 [] []))] (aP (.one (.t (fB true pt yr (dK most brB xs) (fK most brB xs))))):=by
 refine bD Tryz.func43 Tryz.ntmps43 fun N9 w9 c0 h0=>?_
 refine sq (rl (o1 ?_));refine nl (sq (sq (rl ?_)));(iterate 3 refine o1 ?_);refine nl (bl ?_)
 refine lp (γ:=Nat) (fun k=>bP [(0,.one (tv (.int .u8 ((pt:Nat):Int)))),(1,.one (tv (.int .i64 yr))),(3,iN most),(4,.one (.t (.f 44 [] []))),(13,.one (.t (fN 70 8 tI xs))),(14,iN xs.length),(15,iN k)]) (fun k=>([]:List Ob).map some) (fun k=>k<=xs.length/\mA most brB xs k) (fun k=>xs.length-k) 0 ⟨Nat.zero_le _,oJ⟩ (aH h0 [] rfl) fun k hk=>?_
 refine sq (rl (o1 ?_));refine nl (sq ?_);refine aV rfl (fun h1=>?_) (fun h1=>?_)
 ·refine sk (sq (bl (sq (rl (o1 ?_)))));refine o1 ?_
  refine cX (tI (aB xs (k))) (cM 8 0 gQ (aI (by omega)) rfl) ?_
  refine al 0 ?_;refine o1 ?_;refine st ?_;refine nl (bl (sq (rl ?_)));(iterate 4 refine o1 ?_);refine nl ?_;refine aV rfl (fun h2=>?_) (fun h2=>?_)
  ·refine sq (rl ?_);(iterate 5 refine o1 ?_);refine bx 1 ?_;refine o1 ?_;refine nl (rt ?_);have h9:=nG (by omega) hk.2 (by omega)
   exact qD rfl (bB (.one (.pt (trs:=lE pt yr k 3) rfl))) (by rw[h9.1,h9.2];rfl)
  refine sq (rl (o1 ?_));refine ld ?_
  refine ce 1 [.agg [tv (.bool (aB xs (k)).p.s),.t (sU false (aB xs (k)).p.x),tv (.bool (aB xs (k)).p.t),.t (sU false (aB xs (k)).p.y),tv (.bool (aB xs (k)).q.s),.t (sU false (aB xs (k)).q.x),tv (.bool (aB xs (k)).q.t),.t (sU false (aB xs (k)).q.y)]] rfl (aBV (hx (aB xs (k)) (aS (l:=xs) (by omega)))) aA ⟨rfl,rfl⟩ ?_
  refine WL.splitb (t:=33) rfl (fun h3=>?_) (fun h3=>?_)
  ·refine o1 ?_;refine o1 ?_;refine nl (dY rfl (sk (rl (o1 ?_))));refine aY 41 (k+1) ?_
   refine o1 ?_;refine nl ?_;exact⟨k+1,by omega,⟨by omega,iQ (d:=nilIt) (by omega) hk.2 (by omega) h3⟩,aH h0 [] rfl⟩
  refine o1 ?_;refine o1 ?_;refine nl (eU rfl (sq (rl ?_)));(iterate 5 refine o1 ?_);refine bx 1 ?_;refine o1 ?_;refine nl (rt ?_)
  have h9:=nH (d:=nilIt) (by omega) hk.2 (by omega) h3
  exact qD rfl (bB (.one (.pt (trs:=lE pt yr k 2) rfl))) (by rw[h9.1,h9.2];rfl)
 refine ex (sq (rl (o1 ?_)));refine nl (rt ?_);have hkn:k=xs.length:=by omega
 subst hkn;exact en (.inl rfl) rfl (bB (bO _)) (by decide) (fun _=>trivial) (by rw[nI hk.2];rfl)
theorem TP {xs:List Bool}{pt most:Nat}{yr:Int}(hl:xs.length<=1073741823):aE true Tryz.prog 45 [] [.one (tv (.int .u8 ((pt:Nat):Int))),.one (tv (.int .i64 yr)),.one (.t (TQ xs)),.one (tv (.int .i64 ((most:Nat):Int))),.one (.t (.f 47 [] []))] (aP (.one (.t (fB true pt yr (dK most id xs) (fK most id xs))))):=by
 refine bD Tryz.func45 Tryz.ntmps45 fun N9 w9 c0 h0=>?_
 refine sq (rl (o1 ?_));refine nl (sq (sq (rl ?_)));(iterate 3 refine o1 ?_);refine nl (bl ?_)
 refine lp (γ:=Nat) (fun k=>bP [(0,.one (tv (.int .u8 ((pt:Nat):Int)))),(1,.one (tv (.int .i64 yr))),(3,iN most),(4,.one (.t (.f 47 [] []))),(13,.one (.t (TQ xs))),(14,iN xs.length),(15,iN k)]) (fun k=>([]:List Ob).map some) (fun k=>k<=xs.length/\mA most id xs k) (fun k=>xs.length-k) 0 ⟨Nat.zero_le _,oJ⟩ (aH h0 [] rfl) fun k hk=>?_
 refine sq (rl (o1 ?_));refine nl (sq ?_);refine aV rfl (fun h1=>?_) (fun h1=>?_)
 ·refine sk (sq (bl (sq (rl (o1 ?_)))));refine o1 ?_;refine cX ([.v (.bool (jD xs (k)))]) (BO xs (k:=k) (by omega)) ?_
  refine o1 ?_;refine o1 ?_;refine nl (bl (sq (rl ?_)));(iterate 4 refine o1 ?_);refine nl ?_;refine aV rfl (fun h2=>?_) (fun h2=>?_)
  ·refine sq (rl ?_);(iterate 5 refine o1 ?_);refine bx 0 ?_;refine o1 ?_;refine nl (rt ?_);have h9:=nG (by omega) hk.2 (by omega)
   exact qD rfl (bB (.one (.pt (trs:=lE pt yr k 3) rfl))) (by rw[h9.1,h9.2];rfl)
  refine sq (rl (o1 ?_));refine o1 ?_;refine ce 0 [.one (tv (.bool (jD xs (k))))] rfl (FZ (b:=(jD xs (k)))) aA ⟨rfl,rfl⟩ ?_
  refine WL.splitb (t:=33) rfl (fun h3=>?_) (fun h3=>?_)
  ·refine o1 ?_;refine o1 ?_;refine nl (dY rfl (sk (rl (o1 ?_))));refine aY 41 (k+1) ?_
   refine o1 ?_;refine nl ?_;exact⟨k+1,by omega,⟨by omega,iQ (d:=false) (by omega) hk.2 (by omega) h3⟩,aH h0 [] rfl⟩
  refine o1 ?_;refine o1 ?_;refine nl (eU rfl (sq (rl ?_)));(iterate 5 refine o1 ?_);refine bx 0 ?_;refine o1 ?_;refine nl (rt ?_)
  have h9:=nH (d:=false) (by omega) hk.2 (by omega) h3
  exact qD rfl (bB (.one (.pt (trs:=lE pt yr k 2) rfl))) (by rw[h9.1,h9.2];rfl)
 refine ex (sq (rl (o1 ?_)));refine nl (rt ?_);have hkn:k=xs.length:=by omega
 subst hkn;exact en (.inl rfl) rfl (bB (bO _)) (by decide) (fun _=>trivial) (by rw[nI hk.2];rfl)
theorem TR {xs:List It}{pt most:Nat}{yr:Int}(hx:∀x∈xs,OkI x) (hl:xs.length<=1073741823):aE true Tryz.prog 48 [] [.one (tv (.int .u8 ((pt:Nat):Int))),.one (tv (.int .i64 yr)),.one (.t (fN 64 6 nP xs)),.one (tv (.int .i64 ((most:Nat):Int))),.one (.t (.f 49 [] []))] (aP (.one (.t (fB true pt yr (dK most clB xs) (fK most clB xs))))):=by
 refine bD Tryz.func48 Tryz.ntmps48 fun N9 w9 c0 h0=>?_
 refine sq (rl (o1 ?_));refine nl (sq (sq (rl ?_)));(iterate 3 refine o1 ?_);refine nl (bl ?_)
 refine lp (γ:=Nat) (fun k=>bP [(0,.one (tv (.int .u8 ((pt:Nat):Int)))),(1,.one (tv (.int .i64 yr))),(3,iN most),(4,.one (.t (.f 49 [] []))),(13,.one (.t (fN 64 6 nP xs))),(14,iN xs.length),(15,iN k)]) (fun k=>([]:List Ob).map some) (fun k=>k<=xs.length/\mA most clB xs k) (fun k=>xs.length-k) 0 ⟨Nat.zero_le _,oJ⟩ (aH h0 [] rfl) fun k hk=>?_
 refine sq (rl (o1 ?_));refine nl (sq ?_);refine aV rfl (fun h1=>?_) (fun h1=>?_)
 ·refine sk (sq (bl (sq (rl (o1 ?_)))));refine o1 ?_
  refine cX (nP (aB xs (k))) (cM 6 0 iH (aI (by omega)) rfl) ?_
  refine al 0 ?_;refine o1 ?_;refine st ?_;refine nl (bl (sq (rl ?_)));(iterate 4 refine o1 ?_);refine nl ?_;refine aV rfl (fun h2=>?_) (fun h2=>?_)
  ·refine sq (rl ?_);(iterate 5 refine o1 ?_);refine bx 1 ?_;refine o1 ?_;refine nl (rt ?_);have h9:=nG (by omega) hk.2 (by omega)
   exact qD rfl (bB (.one (.pt (trs:=lE pt yr k 3) rfl))) (by rw[h9.1,h9.2];rfl)
  refine sq (rl (o1 ?_));refine ld ?_
  refine ce 1 [.agg [tv (.string (aN (aB xs (k)).s)),tv (.int .u8 (((aB xs (k)).k:Nat):Int)),tv (.bool (aB xs (k)).p.s),.t (sU false (aB xs (k)).p.x),tv (.bool (aB xs (k)).p.t),.t (sU false (aB xs (k)).p.y)]] rfl (aCc (hx (aB xs (k)) (aS (l:=xs) (by omega)))) aA ⟨rfl,rfl⟩ ?_
  refine WL.splitb (t:=33) rfl (fun h3=>?_) (fun h3=>?_)
  ·refine o1 ?_;refine o1 ?_;refine nl (dY rfl (sk (rl (o1 ?_))));refine aY 41 (k+1) ?_
   refine o1 ?_;refine nl ?_;exact⟨k+1,by omega,⟨by omega,iQ (d:=nilIt) (by omega) hk.2 (by omega) h3⟩,aH h0 [] rfl⟩
  refine o1 ?_;refine o1 ?_;refine nl (eU rfl (sq (rl ?_)));(iterate 5 refine o1 ?_);refine bx 1 ?_;refine o1 ?_;refine nl (rt ?_)
  have h9:=nH (d:=nilIt) (by omega) hk.2 (by omega) h3
  exact qD rfl (bB (.one (.pt (trs:=lE pt yr k 2) rfl))) (by rw[h9.1,h9.2];rfl)
 refine ex (sq (rl (o1 ?_)));refine nl (rt ?_);have hkn:k=xs.length:=by omega
 subst hkn;exact en (.inl rfl) rfl (bB (bO _)) (by decide) (fun _=>trivial) (by rw[nI hk.2];rfl)
theorem TS {xs:List Yer}{pt most:Nat}{yr:Int}(hl:xs.length<=1073741823):aE true Tryz.prog 50 [] [.one (tv (.int .u8 ((pt:Nat):Int))),.one (tv (.int .i64 yr)),.one (.t (xF false xs)),.one (tv (.int .i64 ((most:Nat):Int))),.one (.t (.f 51 [] []))] (aP (.one (.t (fB true pt yr (dK most yrB xs) (fK most yrB xs))))):=by
 refine bD Tryz.func50 Tryz.ntmps50 fun N9 w9 c0 h0=>?_
 refine sq (rl (o1 ?_));refine nl (sq (sq (rl ?_)));(iterate 3 refine o1 ?_);refine nl (bl ?_)
 refine lp (γ:=Nat) (fun k=>bP [(0,.one (tv (.int .u8 ((pt:Nat):Int)))),(1,.one (tv (.int .i64 yr))),(3,iN most),(4,.one (.t (.f 51 [] []))),(13,.one (.t (xF false xs))),(14,iN xs.length),(15,iN k)]) (fun k=>([]:List Ob).map some) (fun k=>k<=xs.length/\mA most yrB xs k) (fun k=>xs.length-k) 0 ⟨Nat.zero_le _,oJ⟩ (aH h0 [] rfl) fun k hk=>?_
 refine sq (rl (o1 ?_));refine nl (sq ?_);refine aV rfl (fun h1=>?_) (fun h1=>?_)
 ·refine sk (sq (bl (sq (rl (o1 ?_)))));refine o1 ?_
  refine cX ((cV false) (aC xs (k))) (cM 6 0 (gE false) (fZ (by omega)) rfl) ?_
  refine al 0 ?_;refine o1 ?_;refine st ?_;refine nl (bl (sq (rl ?_)));(iterate 4 refine o1 ?_);refine nl ?_;refine aV rfl (fun h2=>?_) (fun h2=>?_)
  ·refine sq (rl ?_);(iterate 5 refine o1 ?_);refine bx 1 ?_;refine o1 ?_;refine nl (rt ?_);have h9:=nG (by omega) hk.2 (by omega)
   exact qD rfl (bB (.one (.pt (trs:=lE pt yr k 3) rfl))) (by rw[h9.1,h9.2];rfl)
  refine sq (rl (o1 ?_));refine ld ?_
  refine ce 1 [.agg [tv (.int .i64 (aC xs (k)).n),.t (fN 110 6 fG (aC xs (k)).h),.t (fN 112 6 fG (aC xs (k)).b),.t (fN 67 10 kP (aC xs (k)).d),.t (fN 114 9 oV (aC xs (k)).s),.t (fN 116 5 pF (aC xs (k)).o)]] rfl (aCb (y:=(aC xs (k)))) aA ⟨rfl,rfl⟩ ?_
  refine WL.splitb (t:=33) rfl (fun h3=>?_) (fun h3=>?_)
  ·refine o1 ?_;refine o1 ?_;refine nl (dY rfl (sk (rl (o1 ?_))));refine aY 41 (k+1) ?_
   refine o1 ?_;refine nl ?_;exact⟨k+1,by omega,⟨by omega,iQ (d:=tJ) (by omega) hk.2 (by omega) h3⟩,aH h0 [] rfl⟩
  refine o1 ?_;refine o1 ?_;refine nl (eU rfl (sq (rl ?_)));(iterate 5 refine o1 ?_);refine bx 1 ?_;refine o1 ?_;refine nl (rt ?_)
  have h9:=nH (d:=tJ) (by omega) hk.2 (by omega) h3
  exact qD rfl (bB (.one (.pt (trs:=lE pt yr k 2) rfl))) (by rw[h9.1,h9.2];rfl)
 refine ex (sq (rl (o1 ?_)));refine nl (rt ?_);have hkn:k=xs.length:=by omega
 subst hkn;exact en (.inl rfl) rfl (bB (bO _)) (by decide) (fun _=>trivial) (by rw[nI hk.2];rfl)
theorem TT {xs:List It}{pt most:Nat}{yr:Int}(hx:∀x∈xs,OkI x) (hl:xs.length<=1073741823):aE true Tryz.prog 99 [] [.one (tv (.int .u8 ((pt:Nat):Int))),.one (tv (.int .i64 yr)),.one (.t (fN 110 6 fG xs)),.one (tv (.int .i64 ((most:Nat):Int))),.one (.t (.f 100 [] []))] (aP (.one (.t (fB true pt yr (dK most hlB xs) (fK most hlB xs))))):=by
 refine bD Tryz.func99 Tryz.ntmps99 fun N9 w9 c0 h0=>?_
 refine sq (rl (o1 ?_));refine nl (sq (sq (rl ?_)));(iterate 3 refine o1 ?_);refine nl (bl ?_)
 refine lp (γ:=Nat) (fun k=>bP [(0,.one (tv (.int .u8 ((pt:Nat):Int)))),(1,.one (tv (.int .i64 yr))),(3,iN most),(4,.one (.t (.f 100 [] []))),(13,.one (.t (fN 110 6 fG xs))),(14,iN xs.length),(15,iN k)]) (fun k=>([]:List Ob).map some) (fun k=>k<=xs.length/\mA most hlB xs k) (fun k=>xs.length-k) 0 ⟨Nat.zero_le _,oJ⟩ (aH h0 [] rfl) fun k hk=>?_
 refine sq (rl (o1 ?_));refine nl (sq ?_);refine aV rfl (fun h1=>?_) (fun h1=>?_)
 ·refine sk (sq (bl (sq (rl (o1 ?_)))));refine o1 ?_
  refine cX (fG (aB xs (k))) (cM 6 0 dF (aI (by omega)) rfl) ?_
  refine al 0 ?_;refine o1 ?_;refine st ?_;refine nl (bl (sq (rl ?_)));(iterate 4 refine o1 ?_);refine nl ?_;refine aV rfl (fun h2=>?_) (fun h2=>?_)
  ·refine sq (rl ?_);(iterate 5 refine o1 ?_);refine bx 1 ?_;refine o1 ?_;refine nl (rt ?_);have h9:=nG (by omega) hk.2 (by omega)
   exact qD rfl (bB (.one (.pt (trs:=lE pt yr k 3) rfl))) (by rw[h9.1,h9.2];rfl)
  refine sq (rl (o1 ?_));refine ld ?_
  refine ce 1 [.agg [tv (.string (aN (aB xs (k)).s)),tv (.string (aN (aB xs (k)).t)),tv (.bool (aB xs (k)).p.s),.t (sU false (aB xs (k)).p.x),tv (.bool (aB xs (k)).p.t),.t (sU false (aB xs (k)).p.y)]] rfl (aBW (hx (aB xs (k)) (aS (l:=xs) (by omega)))) aA ⟨rfl,rfl⟩ ?_
  refine WL.splitb (t:=33) rfl (fun h3=>?_) (fun h3=>?_)
  ·refine o1 ?_;refine o1 ?_;refine nl (dY rfl (sk (rl (o1 ?_))));refine aY 41 (k+1) ?_
   refine o1 ?_;refine nl ?_;exact⟨k+1,by omega,⟨by omega,iQ (d:=nilIt) (by omega) hk.2 (by omega) h3⟩,aH h0 [] rfl⟩
  refine o1 ?_;refine o1 ?_;refine nl (eU rfl (sq (rl ?_)));(iterate 5 refine o1 ?_);refine bx 1 ?_;refine o1 ?_;refine nl (rt ?_)
  have h9:=nH (d:=nilIt) (by omega) hk.2 (by omega) h3
  exact qD rfl (bB (.one (.pt (trs:=lE pt yr k 2) rfl))) (by rw[h9.1,h9.2];rfl)
 refine ex (sq (rl (o1 ?_)));refine nl (rt ?_);have hkn:k=xs.length:=by omega
 subst hkn;exact en (.inl rfl) rfl (bB (bO _)) (by decide) (fun _=>trivial) (by rw[nI hk.2];rfl)
theorem TU {xs:List It}{pt most:Nat}{yr:Int}(hx:∀x∈xs,OkI x) (hl:xs.length<=1073741823):aE true Tryz.prog 101 [] [.one (tv (.int .u8 ((pt:Nat):Int))),.one (tv (.int .i64 yr)),.one (.t (fN 112 6 fG xs)),.one (tv (.int .i64 ((most:Nat):Int))),.one (.t (.f 102 [] []))] (aP (.one (.t (fB true pt yr (dK most bkB xs) (fK most bkB xs))))):=by
 refine bD Tryz.func101 Tryz.ntmps101 fun N9 w9 c0 h0=>?_
 refine sq (rl (o1 ?_));refine nl (sq (sq (rl ?_)));(iterate 3 refine o1 ?_);refine nl (bl ?_)
 refine lp (γ:=Nat) (fun k=>bP [(0,.one (tv (.int .u8 ((pt:Nat):Int)))),(1,.one (tv (.int .i64 yr))),(3,iN most),(4,.one (.t (.f 102 [] []))),(13,.one (.t (fN 112 6 fG xs))),(14,iN xs.length),(15,iN k)]) (fun k=>([]:List Ob).map some) (fun k=>k<=xs.length/\mA most bkB xs k) (fun k=>xs.length-k) 0 ⟨Nat.zero_le _,oJ⟩ (aH h0 [] rfl) fun k hk=>?_
 refine sq (rl (o1 ?_));refine nl (sq ?_);refine aV rfl (fun h1=>?_) (fun h1=>?_)
 ·refine sk (sq (bl (sq (rl (o1 ?_)))));refine o1 ?_
  refine cX (fG (aB xs (k))) (cM 6 0 dF (aI (by omega)) rfl) ?_
  refine al 0 ?_;refine o1 ?_;refine st ?_;refine nl (bl (sq (rl ?_)));(iterate 4 refine o1 ?_);refine nl ?_;refine aV rfl (fun h2=>?_) (fun h2=>?_)
  ·refine sq (rl ?_);(iterate 5 refine o1 ?_);refine bx 1 ?_;refine o1 ?_;refine nl (rt ?_);have h9:=nG (by omega) hk.2 (by omega)
   exact qD rfl (bB (.one (.pt (trs:=lE pt yr k 3) rfl))) (by rw[h9.1,h9.2];rfl)
  refine sq (rl (o1 ?_));refine ld ?_
  refine ce 1 [.agg [tv (.string (aN (aB xs (k)).s)),tv (.string (aN (aB xs (k)).t)),tv (.bool (aB xs (k)).p.s),.t (sU false (aB xs (k)).p.x),tv (.bool (aB xs (k)).p.t),.t (sU false (aB xs (k)).p.y)]] rfl (aBX (hx (aB xs (k)) (aS (l:=xs) (by omega)))) aA ⟨rfl,rfl⟩ ?_
  refine WL.splitb (t:=33) rfl (fun h3=>?_) (fun h3=>?_)
  ·refine o1 ?_;refine o1 ?_;refine nl (dY rfl (sk (rl (o1 ?_))));refine aY 41 (k+1) ?_
   refine o1 ?_;refine nl ?_;exact⟨k+1,by omega,⟨by omega,iQ (d:=nilIt) (by omega) hk.2 (by omega) h3⟩,aH h0 [] rfl⟩
  refine o1 ?_;refine o1 ?_;refine nl (eU rfl (sq (rl ?_)));(iterate 5 refine o1 ?_);refine bx 1 ?_;refine o1 ?_;refine nl (rt ?_)
  have h9:=nH (d:=nilIt) (by omega) hk.2 (by omega) h3
  exact qD rfl (bB (.one (.pt (trs:=lE pt yr k 2) rfl))) (by rw[h9.1,h9.2];rfl)
 refine ex (sq (rl (o1 ?_)));refine nl (rt ?_);have hkn:k=xs.length:=by omega
 subst hkn;exact en (.inl rfl) rfl (bB (bO _)) (by decide) (fun _=>trivial) (by rw[nI hk.2];rfl)
theorem TV {xs:List It}{pt most:Nat}{yr:Int}(hx:∀x∈xs,OkI x) (hl:xs.length<=1073741823):aE true Tryz.prog 103 [] [.one (tv (.int .u8 ((pt:Nat):Int))),.one (tv (.int .i64 yr)),.one (.t (fN 67 10 kP xs)),.one (tv (.int .i64 ((most:Nat):Int))),.one (.t (.f 104 [] []))] (aP (.one (.t (fB true pt yr (dK most dlB xs) (fK most dlB xs))))):=by
 refine bD Tryz.func103 Tryz.ntmps103 fun N9 w9 c0 h0=>?_
 refine sq (rl (o1 ?_));refine nl (sq (sq (rl ?_)));(iterate 3 refine o1 ?_);refine nl (bl ?_)
 refine lp (γ:=Nat) (fun k=>bP [(0,.one (tv (.int .u8 ((pt:Nat):Int)))),(1,.one (tv (.int .i64 yr))),(3,iN most),(4,.one (.t (.f 104 [] []))),(13,.one (.t (fN 67 10 kP xs))),(14,iN xs.length),(15,iN k)]) (fun k=>([]:List Ob).map some) (fun k=>k<=xs.length/\mA most dlB xs k) (fun k=>xs.length-k) 0 ⟨Nat.zero_le _,oJ⟩ (aH h0 [] rfl) fun k hk=>?_
 refine sq (rl (o1 ?_));refine nl (sq ?_);refine aV rfl (fun h1=>?_) (fun h1=>?_)
 ·refine sk (sq (bl (sq (rl (o1 ?_)))));refine o1 ?_
  refine cX (kP (aB xs (k))) (cM 10 0 lH (aI (by omega)) rfl) ?_
  refine al 0 ?_;refine o1 ?_;refine st ?_;refine nl (bl (sq (rl ?_)));(iterate 4 refine o1 ?_);refine nl ?_;refine aV rfl (fun h2=>?_) (fun h2=>?_)
  ·refine sq (rl ?_);(iterate 5 refine o1 ?_);refine bx 1 ?_;refine o1 ?_;refine nl (rt ?_);have h9:=nG (by omega) hk.2 (by omega)
   exact qD rfl (bB (.one (.pt (trs:=lE pt yr k 3) rfl))) (by rw[h9.1,h9.2];rfl)
  refine sq (rl (o1 ?_));refine ld ?_
  refine ce 1 [.agg [tv (.bool (aB xs (k)).b),tv (.string (aN (aB xs (k)).s)),tv (.int .u8 (((aB xs (k)).k:Nat):Int)),tv (.string (aN (aB xs (k)).t)),tv (.string (aN (aB xs (k)).u)),tv (.string (aN (aB xs (k)).v)),tv (.bool (aB xs (k)).p.s),.t (sU false (aB xs (k)).p.x),tv (.bool (aB xs (k)).p.t),.t (sU false (aB xs (k)).p.y)]] rfl (aCa (hx (aB xs (k)) (aS (l:=xs) (by omega)))) aA ⟨rfl,rfl⟩ ?_
  refine WL.splitb (t:=33) rfl (fun h3=>?_) (fun h3=>?_)
  ·refine o1 ?_;refine o1 ?_;refine nl (dY rfl (sk (rl (o1 ?_))));refine aY 41 (k+1) ?_
   refine o1 ?_;refine nl ?_;exact⟨k+1,by omega,⟨by omega,iQ (d:=nilIt) (by omega) hk.2 (by omega) h3⟩,aH h0 [] rfl⟩
  refine o1 ?_;refine o1 ?_;refine nl (eU rfl (sq (rl ?_)));(iterate 5 refine o1 ?_);refine bx 1 ?_;refine o1 ?_;refine nl (rt ?_)
  have h9:=nH (d:=nilIt) (by omega) hk.2 (by omega) h3
  exact qD rfl (bB (.one (.pt (trs:=lE pt yr k 2) rfl))) (by rw[h9.1,h9.2];rfl)
 refine ex (sq (rl (o1 ?_)));refine nl (rt ?_);have hkn:k=xs.length:=by omega
 subst hkn;exact en (.inl rfl) rfl (bB (bO _)) (by decide) (fun _=>trivial) (by rw[nI hk.2];rfl)
theorem TW {xs:List It}{pt most:Nat}{yr:Int}(hx:∀x∈xs,OkI x) (hl:xs.length<=1073741823):aE true Tryz.prog 105 [] [.one (tv (.int .u8 ((pt:Nat):Int))),.one (tv (.int .i64 yr)),.one (.t (fN 114 9 oV xs)),.one (tv (.int .i64 ((most:Nat):Int))),.one (.t (.f 106 [] []))] (aP (.one (.t (fB true pt yr (dK most stB xs) (fK most stB xs))))):=by
 refine bD Tryz.func105 Tryz.ntmps105 fun N9 w9 c0 h0=>?_
 refine sq (rl (o1 ?_));refine nl (sq (sq (rl ?_)));(iterate 3 refine o1 ?_);refine nl (bl ?_)
 refine lp (γ:=Nat) (fun k=>bP [(0,.one (tv (.int .u8 ((pt:Nat):Int)))),(1,.one (tv (.int .i64 yr))),(3,iN most),(4,.one (.t (.f 106 [] []))),(13,.one (.t (fN 114 9 oV xs))),(14,iN xs.length),(15,iN k)]) (fun k=>([]:List Ob).map some) (fun k=>k<=xs.length/\mA most stB xs k) (fun k=>xs.length-k) 0 ⟨Nat.zero_le _,oJ⟩ (aH h0 [] rfl) fun k hk=>?_
 refine sq (rl (o1 ?_));refine nl (sq ?_);refine aV rfl (fun h1=>?_) (fun h1=>?_)
 ·refine sk (sq (bl (sq (rl (o1 ?_)))));refine o1 ?_
  refine cX (oV (aB xs (k))) (cM 9 0 fI (aI (by omega)) rfl) ?_
  refine al 0 ?_;refine o1 ?_;refine st ?_;refine nl (bl (sq (rl ?_)));(iterate 4 refine o1 ?_);refine nl ?_;refine aV rfl (fun h2=>?_) (fun h2=>?_)
  ·refine sq (rl ?_);(iterate 5 refine o1 ?_);refine bx 1 ?_;refine o1 ?_;refine nl (rt ?_);have h9:=nG (by omega) hk.2 (by omega)
   exact qD rfl (bB (.one (.pt (trs:=lE pt yr k 3) rfl))) (by rw[h9.1,h9.2];rfl)
  refine sq (rl (o1 ?_));refine ld ?_
  refine ce 1 [.agg [tv (.string (aN (aB xs (k)).s)),tv (.bool (aB xs (k)).p.s),.t (sU false (aB xs (k)).p.x),tv (.bool (aB xs (k)).p.t),.t (sU false (aB xs (k)).p.y),tv (.bool (aB xs (k)).q.s),.t (sU false (aB xs (k)).q.x),tv (.bool (aB xs (k)).q.t),.t (sU false (aB xs (k)).q.y)]] rfl (aBY (hx (aB xs (k)) (aS (l:=xs) (by omega)))) aA ⟨rfl,rfl⟩ ?_
  refine WL.splitb (t:=33) rfl (fun h3=>?_) (fun h3=>?_)
  ·refine o1 ?_;refine o1 ?_;refine nl (dY rfl (sk (rl (o1 ?_))));refine aY 41 (k+1) ?_
   refine o1 ?_;refine nl ?_;exact⟨k+1,by omega,⟨by omega,iQ (d:=nilIt) (by omega) hk.2 (by omega) h3⟩,aH h0 [] rfl⟩
  refine o1 ?_;refine o1 ?_;refine nl (eU rfl (sq (rl ?_)));(iterate 5 refine o1 ?_);refine bx 1 ?_;refine o1 ?_;refine nl (rt ?_)
  have h9:=nH (d:=nilIt) (by omega) hk.2 (by omega) h3
  exact qD rfl (bB (.one (.pt (trs:=lE pt yr k 2) rfl))) (by rw[h9.1,h9.2];rfl)
 refine ex (sq (rl (o1 ?_)));refine nl (rt ?_);have hkn:k=xs.length:=by omega
 subst hkn;exact en (.inl rfl) rfl (bB (bO _)) (by decide) (fun _=>trivial) (by rw[nI hk.2];rfl)
theorem TX {xs:List It}{pt most:Nat}{yr:Int}(hx:∀x∈xs,OkI x) (hl:xs.length<=1073741823):aE true Tryz.prog 107 [] [.one (tv (.int .u8 ((pt:Nat):Int))),.one (tv (.int .i64 yr)),.one (.t (fN 116 5 pF xs)),.one (tv (.int .i64 ((most:Nat):Int))),.one (.t (.f 108 [] []))] (aP (.one (.t (fB true pt yr (dK most soB xs) (fK most soB xs))))):=by
 refine bD Tryz.func107 Tryz.ntmps107 fun N9 w9 c0 h0=>?_
 refine sq (rl (o1 ?_));refine nl (sq (sq (rl ?_)));(iterate 3 refine o1 ?_);refine nl (bl ?_)
 refine lp (γ:=Nat) (fun k=>bP [(0,.one (tv (.int .u8 ((pt:Nat):Int)))),(1,.one (tv (.int .i64 yr))),(3,iN most),(4,.one (.t (.f 108 [] []))),(13,.one (.t (fN 116 5 pF xs))),(14,iN xs.length),(15,iN k)]) (fun k=>([]:List Ob).map some) (fun k=>k<=xs.length/\mA most soB xs k) (fun k=>xs.length-k) 0 ⟨Nat.zero_le _,oJ⟩ (aH h0 [] rfl) fun k hk=>?_
 refine sq (rl (o1 ?_));refine nl (sq ?_);refine aV rfl (fun h1=>?_) (fun h1=>?_)
 ·refine sk (sq (bl (sq (rl (o1 ?_)))));refine o1 ?_
  refine cX (pF (aB xs (k))) (cM 5 0 gR (aI (by omega)) rfl) ?_
  refine al 0 ?_;refine o1 ?_;refine st ?_;refine nl (bl (sq (rl ?_)));(iterate 4 refine o1 ?_);refine nl ?_;refine aV rfl (fun h2=>?_) (fun h2=>?_)
  ·refine sq (rl ?_);(iterate 5 refine o1 ?_);refine bx 1 ?_;refine o1 ?_;refine nl (rt ?_);have h9:=nG (by omega) hk.2 (by omega)
   exact qD rfl (bB (.one (.pt (trs:=lE pt yr k 3) rfl))) (by rw[h9.1,h9.2];rfl)
  refine sq (rl (o1 ?_));refine ld ?_
  refine ce 1 [.agg [tv (.string (aN (aB xs (k)).s)),tv (.bool (aB xs (k)).p.s),.t (sU false (aB xs (k)).p.x),tv (.bool (aB xs (k)).p.t),.t (sU false (aB xs (k)).p.y)]] rfl (aBZ (hx (aB xs (k)) (aS (l:=xs) (by omega)))) aA ⟨rfl,rfl⟩ ?_
  refine WL.splitb (t:=33) rfl (fun h3=>?_) (fun h3=>?_)
  ·refine o1 ?_;refine o1 ?_;refine nl (dY rfl (sk (rl (o1 ?_))));refine aY 41 (k+1) ?_
   refine o1 ?_;refine nl ?_;exact⟨k+1,by omega,⟨by omega,iQ (d:=nilIt) (by omega) hk.2 (by omega) h3⟩,aH h0 [] rfl⟩
  refine o1 ?_;refine o1 ?_;refine nl (eU rfl (sq (rl ?_)));(iterate 5 refine o1 ?_);refine bx 1 ?_;refine o1 ?_;refine nl (rt ?_)
  have h9:=nH (d:=nilIt) (by omega) hk.2 (by omega) h3
  exact qD rfl (bB (.one (.pt (trs:=lE pt yr k 2) rfl))) (by rw[h9.1,h9.2];rfl)
 refine ex (sq (rl (o1 ?_)));refine nl (rt ?_);have hkn:k=xs.length:=by omega
 subst hkn;exact en (.inl rfl) rfl (bB (bO _)) (by decide) (fun _=>trivial) (by rw[nI hk.2];rfl)
theorem KA {l:List Nat}{k:Nat}(h:k<l.length):nth l k∈l:=List.mem_of_getElem? (Hf h)
theorem tK {l m:List Nat}{a n:Nat}(h:l.drop a=m):nth m n=nth l (a+n):=by
 subst h
 unfold nth
 rw[List.getD_eq_getElem?_getD,List.getD_eq_getElem?_getD,List.getElem?_drop]
theorem Xv:∀{m:List Nat}{n:Nat},n<=(wh m).length->n<m.length->(tL (nth m n)=true↔n<(wh m).length)
 | [],_,_,h=>by simp at h
 | x::m,0,_,_=>by
  show tL x=true↔_
  unfold wh
  rw[List.takeWhile_cons]
  by_cases h:tL x=true
  ·rw[if_pos h];simp[h]
  rw[if_neg h];simp[h]
 | x::m,n+1,h1,h2=>by
  show tL (nth m n)=true↔_
  have hx:tL x=true:=by
   unfold wh at h1
   rw[List.takeWhile_cons]at h1
   by_cases h:tL x=true
   ·exact h
   rw[if_neg h]at h1;simp at h1
  have e:wh (x::m)=x::wh m:=by unfold wh;rw[List.takeWhile_cons,if_pos hx]
  rw[e,List.length_cons]at h1⊢
  rw[Xv (m:=m) (n:=n) (by omega) (by simpa using h2)]
  omega
theorem aCd {l m:List Nat}{a n:Nat}(h:l.drop a=m) (h1:n<=(wh m).length) (h2:a+n<l.length) (h3:48<=nth l (a+n)) (h4:nth l (a+n)<=57):n+1<=(wh m).length:=by
 have hl:m.length=l.length-a:=by rw[<-h,List.length_drop]
 have h5:=(Xv h1 (by omega)).1 (by rw[tK h];exact decide_eq_true ⟨h3,h4⟩)
 omega
theorem GA {l m:List Nat}{a n:Nat}(h:l.drop a=m) (h1:n<=(wh m).length) (h2:l.length<=a+n\/¬(48<=nth l (a+n)/\nth l (a+n)<=57)):n=(wh m).length:=by
 have hl:m.length=l.length-a:=by rw[<-h,List.length_drop]
 have hw:=Hr m
 rcases Nat.lt_or_ge n (wh m).length with h3 | h3
 ·exfalso
  have h4:=(Xv h1 (by omega)).2 h3
  rw[tK h]at h4
  have h5:=Po h4
  rcases h2 with h2 | h2
  ·omega
  exact h2 h5
 omega
def kC (l:List Nat):Nat:=if l.take 1=[45]then 1 else 0
theorem zO (l:List Nat):l.drop (kC l)=bL l:=by
 unfold kC bL
 split <;> rfl
theorem zP {l:List Nat}{c:Nat}(h:0<l.length):l.take 1=[c]↔nth l 0=c:=by
 cases l with
 | nil=>simp at h
 | cons x l=>simp[nth]
theorem aAq {l:List Nat}(h:0<l.length) (h2:nth l 0=45):kC l=1:=if_pos ((zP h).2 h2)
theorem KB {l:List Nat}(h:¬(0<l.length/\nth l 0=45)):kC l=0:=if_neg fun h2=>by
 have h3:=congrArg List.length h2
 rw[dU]at h3
 have h4:0<l.length:=by simp at h3;omega
 exact h ⟨h4,(zP h4).1 h2⟩
theorem yC (l:List Nat):kC l+(bL l).length=l.length:=by
 rw[<-zO,List.length_drop]
 unfold kC
 split
 ·rename_i h
  have h3:=congrArg List.length h
  rw[dU]at h3
  simp at h3
  omega
 omega
theorem Fo (l:List Nat):l.drop (kC l+(wh (bL l)).length)=fH (bL l):=by
 rw[<-List.drop_drop,zO]
 conv=>lhs;rw[show bL l=wh (bL l)++fH (bL l) from(sA _).symm]
 rw[show wh (wh (bL l)++fH (bL l))=wh (bL l) by rw[sA]]
 exact List.drop_left
theorem KC {l:List Nat}(h:kC l+(wh (bL l)).length<l.length) (h2:nth l (kC l+(wh (bL l)).length)=46):nW (fH (bL l))=true:=by
 have hd:=Fo l
 have hl:=congrArg List.length hd
 rw[List.length_drop]at hl
 refine decide_eq_true ((zP (by omega)).2 ?_)
 rw[tK hd]
 exact h2
theorem Nq {l:List Nat}(h:¬(kC l+(wh (bL l)).length<l.length/\nth l (kC l+(wh (bL l)).length)=46)):nW (fH (bL l))=false:=by
 have hd:=Fo l
 have hl:=congrArg List.length hd
 rw[List.length_drop]at hl
 refine decide_eq_false fun h2=>?_
 have h3:=congrArg List.length h2
 rw[dU]at h3
 have h4:0<(fH (bL l)).length:=by simp at h3;omega
 refine h ⟨by omega,?_⟩
 have h5:=(zP h4).1 h2
 rwa[tK hd]at h5
theorem Ue {l:List Nat}(h:nW (fH (bL l))=true):l.drop (kC l+(wh (bL l)).length+1)=Ht (fH (bL l)):=by
 rw[<-List.drop_drop,Fo,Nr h]
theorem KD {m:List Nat}(h:nW (fH m)=true):wh (Ht (fH m))=pl m:=by unfold pl wh;rw[if_pos h]
theorem KE {l:List Nat}(h:nW (fH (bL l))=true):l.length=kC l+(wh (bL l)).length+1+(pl (bL l)).length+(rr (bL l)).length:=by
 have h1:=yC l
 have h2:=congrArg List.length (sA (bL l))
 have h3:=congrArg List.length (Bw h)
 rw[cJ]at h2
 rw[List.length_cons,cJ]at h3
 omega
theorem Ns {l:List Nat}(h:nW (fH (bL l))=false):l.length=kC l+(wh (bL l)).length+(rr (bL l)).length:=by
 have h1:=yC l
 have h2:=congrArg List.length (sA (bL l))
 rw[cJ]at h2
 rw[Xw h]
 omega
theorem Uf {m:List Nat}:rr m=[]↔(rr m).length=0:=List.length_eq_zero_iff.symm
def mH (m:List Nat):Bool:=b1 m || b2 m
def Bx (l:List Nat):Nat:=bif mH (bL l)then 0 else(wh (bL l)).length
def By (l:List Nat):Nat:=bif mH (bL l)then 0 else(pl (bL l)).length
def Hu (l:List Nat):Bool:=bif mH (bL l)then false else decide (rr (bL l)=[])
theorem Jr (l:List Nat):Hu l=pG (bL l):=by
 rw[KF]
 unfold Hu mH
 cases b1 (bL l) <;> cases b2 (bL l) <;> rfl
theorem TY {l:List Nat}(h:pG (bL l)=true):mH (bL l)=false:=by
 rw[KF]at h
 unfold mH
 cases h1:b1 (bL l) <;> cases h2:b2 (bL l) <;> simp_all
theorem KG {l:List Nat}(h:pG (bL l)=true):Bx l=(wh (bL l)).length/\By l=(pl (bL l)).length:=by
 unfold Bx By
 rw[TY h]
 exact⟨rfl,rfl⟩
theorem Ug {l:List Nat}(h:pG (bL l)=true):0<l.length:=by
 have h1:=(tM h).2
 have h2:=yC l
 have h3:=Hr (bL l)
 have h4:=List.length_pos_iff.2 h1
 omega
theorem Bz {l:List Nat}(h:0<l.length):decide (nth l 0=45)=iW l:=decide_eq_decide.2 (zP h).symm
theorem Nt {p:Nat->Bool}{l:List Nat}{k:Nat}(h:k<l.length):(l.take (k+1)).all p=((l.take k).all p&&p (nth l k)):=by
 rw[List.take_add_one,Hf h]
 simp
theorem Pp {l:List Nat}{k:Nat}(h:k<l.length):sD (l.take (k+1))=(if nth l k=46 then sD (l.take k)else if nth l k=45 then sD (l.take k)else sD (l.take k)*10+(nth l k-48)):=by
 rw[List.take_add_one,Hf h]
 simp[sD]
theorem Pq {l:List Nat}{k:Nat}(h:k<l.length):sP (l.take (k+1))=(if nth l k=46 then 0 else if nth l k=45 then sP (l.take k)else if 0<=sP (l.take k)then sP (l.take k)+1 else sP (l.take k)):=by
 rw[List.take_add_one,Hf h]
 unfold sP
 rw[List.foldl_append]
 rfl
theorem BP {l:List Nat}(h:pG (bL l)=true):∀c∈l,c=45\/c=46\/(48<=c/\c<=57):=by
 intro c hc
 rw[wL l]at hc
 rcases List.mem_append.1 hc with hc | hc
 ·split at hc
  ·exact .inl (List.mem_singleton.1 hc)
  cases hc
 rw[(tM h).1]at hc
 rcases List.mem_append.1 hc with hc | hc
 ·exact .inr (.inr (Pr _ c hc))
 split at hc
 ·rcases List.mem_cons.1 hc with rfl | hc
  ·exact .inr (.inl rfl)
  exact .inr (.inr (Ps _ c hc))
 cases hc
theorem aAr {l:List Nat}{k:Nat}(hk:k<=l.length) (hb:∀c∈l,c=45\/c=46\/(48<=c/\c<=57)):sD (l.take k)<10^k:=by
 induction k with
 | zero=>simp[sD]
 | succ k ih=>
  have h1:=ih (by omega)
  have h2:=hb _ (KA (l:=l) (k:=k) (by omega))
  rw[Pp (by omega),Nat.pow_succ]
  split
  ·omega
  split
  ·omega
  omega
theorem aAs {l:List Nat}{k:Nat}(hk:k<=l.length):-1<=sP (l.take k)/\sP (l.take k)<=k:=by
 induction k with
 | zero=>exact⟨by simp[sP],by simp[sP]⟩
 | succ k ih=>
  have h1:=ih (by omega)
  rw[Pq (by omega)]
  split
  ·omega
  split
  ·omega
  split <;> omega
theorem Hv {l:List Nat}(h:pG (bL l)=true):(if iW l then-(((sD l:Nat):Rat)/((10^(pl (bL l)).length:Nat):Rat))else((sD l:Nat):Rat)/((10^(pl (bL l)).length:Nat):Rat))=Et l:=by
 unfold Et
 rw[aAt h]
 have hd:((10^(pl (bL l)).length:Nat):Rat)≠0:=by
  have:0<10^(pl (bL l)).length:=Nat.pow_pos (by omega)
  exact_mod_cast (by omega:(10^(pl (bL l)).length:Nat)≠0)
 have hi:(((10^(pl (bL l)).length:Nat):Int))≠0:=by
  have:0<10^(pl (bL l)).length:=Nat.pow_pos (by omega)
  omega
 generalize jT (wh (bL l)++pl (bL l))=V
 have e:∀z:Int,Rat.divInt z ((10^(pl (bL l)).length:Nat):Int)=(z:Rat)/((10^(pl (bL l)).length:Nat):Rat):=fun z=>by
  refine Js hd ?_
  rw[Rat.div_mul_cancel hd]
  have h2:=xG z _ hi
  rw[Rat.intCast_natCast]at h2
  exact h2
 rw[e]
 cases iW l with
 | true=>
  show-(_/_)=((-(V:Int):Int):Rat)/_
  rw[Rat.intCast_neg,Rat.intCast_natCast,Rat.div_def,Rat.div_def,Rat.neg_mul]
 | false=>
  show _=(((V:Nat):Int):Rat)/_
  rw[Rat.intCast_natCast]
  rfl
theorem NE {l:List Nat}(h:decide (l=[])=false):0<l.length:=by
 cases l with
 | nil=>simp at h
 | cons _ _=>simp
theorem BQ {k:Int}(h:aZ k=true):k<0:=of_decide_eq_true h
theorem BR {k:Int}(h:aZ k=false):¬k<0:=of_decide_eq_false h
theorem TZ {v:Nat}(h:(dg 4294967296 v).length<=1000000):(tx v).length<=10000001:=by
 unfold tx
 split
 ·simp
 rw[List.length_reverse,jK]
 have h1:=qP (B:=4294967296) (n:=v) (by omega)
 have h2:v<10^(10*(dg 4294967296 v).length):=Nat.lt_of_lt_of_le h1 (by rw[Nat.pow_mul];exact Nat.pow_le_pow_left (by omega) _)
 have:=cW (B:=10) (by omega) h2
 omega
theorem aAu {a:Zi}{k:Int}(ha:Zn a k) (hs:(dg 4294967296 k.natAbs).length<=1000000):aE true Tryz.prog 110 [] [gF a] (aP (.one (tv (.string (aN (eB k)))))):=by
 refine bD Tryz.func110 Tryz.ntmps110 fun N9 w9 c0 h0=>?_
 refine sq (rl (bx 0 ?_));refine o1 ?_;refine nl (sq (rl (ld ?_)));refine ca (eW (ha).g) aA (aM rfl) _ ?_;refine al 1 ?_
 refine st ?_;refine nl (sq (sq (rl (o1 ?_))));refine o1 ?_;refine ld ?_;refine nl ?_;refine rH rfl (fun h1=>?_) (fun h1=>?_)
 ·refine sq (rl (o1 ?_));refine o1 ?_;refine ld ?_
  refine ca (Xr (xs:=dg 4294967296 k.natAbs) (v:=k.natAbs) hs (aU (by omega) _) (cL (by omega) _)) aA (bC rfl) (.one (tv (.string (aN (tx k.natAbs))))) ?_
  refine o1 ?_ (hC:=(by rw[aO];have:=TZ hs;show 1+(tx k.natAbs).length<=_;omega))
  refine lZ 13 (45::tx k.natAbs) rfl (eK [45] _) ?_;refine o1 ?_;refine nl (rt ?_)
  exact fW (.inl rfl) rfl (congrArg aN (by unfold eB;rw[if_pos (BQ h1)]))
 refine sk (sq (rl (o1 ?_)));refine o1 ?_;refine ld ?_
 refine ca (Xr (xs:=dg 4294967296 k.natAbs) (v:=k.natAbs) hs (aU (by omega) _) (cL (by omega) _)) aA (bC rfl) _ ?_
 refine o1 ?_;refine nl (rt ?_)
 exact fW (.inl rfl) rfl (congrArg aN (by unfold eB;rw[if_neg (BR h1)]))
section
variable {xs ys:List Nat}{u v w q r:Nat}
end
def val (xs:List Nat):Nat:=vl 4294967296 xs
theorem Xx {l:List Nat}{m:Nat}(h:uF l=false\/m<(pl (bL l)).length):oW l m=60:=by
 unfold oW
 rw[if_neg]
 rintro⟨h1,h2⟩
 rcases h with h | h
 ·rw[h]at h1;cases h1
 omega
theorem aCe {l:List Nat}{m:Nat}(h:uF l=true) (h2:(pl (bL l)).length<=m) (h3:40<(wh (bL l)).length+(pl (bL l)).length):oW l m=3:=by
 unfold oW
 rw[if_pos ⟨h,h2⟩,if_pos h3]
theorem aCf {l:List Nat}{m:Nat}(h:uF l=true) (h2:(pl (bL l)).length<=m) (h3:¬40<(wh (bL l)).length+(pl (bL l)).length):oW l m=0:=by
 unfold oW
 rw[if_pos ⟨h,h2⟩,if_neg h3]
def oY (l:List Nat):Int:=if tF 37 l=true/\oW (gO 37 l) 4=0/\0<=(mB (gO 37 l) 4)/\(mB (gO 37 l) 4)<=((100:Int):Rat)then 0 else 60
def kQ (l:List Nat):Rat:=if oY l=0 then(mB (gO 37 l) 4)/((100:Int):Rat)else 0
theorem zQ {l:List Nat}(h:tF 37 l=false\/oW (gO 37 l) 4≠0\/(mB (gO 37 l) 4)<0\/((100:Int):Rat)<(mB (gO 37 l) 4)):oY l=60:=by
 unfold oY
 rw[if_neg]
 rintro⟨h1,h2,h3,h4⟩
 rcases h with h | h | h | h
 ·rw[h]at h1;cases h1
 ·exact h h2
 ·exact Rat.not_lt.2 h3 h
 exact Rat.not_lt.2 h4 h
theorem GB {l:List Nat}(h1:tF 37 l=true) (h2:oW (gO 37 l) 4=0) (h3:¬(mB (gO 37 l) 4)<0) (h4:¬((100:Int):Rat)<(mB (gO 37 l) 4)):oY l=0:=if_pos ⟨h1,h2,Rat.not_lt.1 h3,Rat.not_lt.1 h4⟩
theorem UA {l:List Nat}(h:(wh (bL l)).length+(pl (bL l)).length<=40):Sz 41 (Et l):=by
 have h1:=GC (GD (bL l))
 rw[cJ]at h1
 have h2:=Uc (pl (bL l)).length
 have h3:0<10^(pl (bL l)).length:=Nat.pow_pos (by omega)
 have h5:=nU (a:=dV (iW l) (jT (wh (bL l)++pl (bL l)))) (b:=((10^(pl (bL l)).length:Nat):Int)) (L:=41) (M:=41) (by omega) (by unfold tA;cases iW l <;> simp only[dV,if_true,if_false,Bool.false_eq_true,Int.natAbs_neg,Int.natAbs_natCast] <;> omega) (by unfold tA;rw[Int.natAbs_natCast];omega)
 exact⟨h5.1,h5.2⟩
theorem BS (l:List Nat) (m:Nat):Sz 41 (mB l m):=by
 unfold mB
 split
 ·rename_i h
  refine UA ?_
  unfold oW at h
  split at h
  ·split at h
   ·cases h
   omega
  cases h
 exact(cU (z:=0) (by omega) (by omega)).mono (by omega)
theorem NF {a b:Zi}{k k':Int}(ha:Zn a k) (hb:Zn b k'):aE true Tryz.prog 180 [] [gF a,gF b] (aP (.one (tv (.bool (decide (k=k')))))):=by
 refine bD Tryz.func180 Tryz.ntmps180 fun N w c0 h0=>?_
 refine sq (rl (bx 0 ?_));refine bx 1 ?_;refine o1 ?_;refine nl (sq (rl (ld ?_)));refine ld ?_
 refine ca (Pt ha hb) aA (bN rfl rfl) _ ?_;refine o1 ?_;refine o1 ?_;refine nl (rt ?_)
 exact en (.inl rfl) rfl (bB (bO _)) (by decide) (fun _=>trivial) (congrArg (fun z=>FV.one (tv (.bool z))) (GF _ _))
theorem Fp {a:Fr4}{p:Rat}(ha:Qn a p):aE true Tryz.prog 121 [] [qF a] (aP (.one (tv (.bool (eC a.s a.x a.t a.y))))):=by
 refine bD Tryz.func121 Tryz.ntmps121 fun N w c0 h0=>?_
 have hzl:=(Ov ha).len
 have hzd:=(lT ha).len
 refine sq (rl (bx 0 ?_));refine o1 ?_;refine nl (sq (rl (o1 ?_)));refine ld ?_
 refine ca (Fq (Ov ha)) aA (aM rfl) _ ?_;refine o1 ?_;refine WL.splitb (t:=6) rfl (fun h1=>?_) (fun h1=>?_)
 ·refine o1 ?_;refine ld ?_;refine ca (Fq (lT ha)) aA (aM rfl) _ ?_;refine o1 ?_;refine o1 ?_
  refine WL.splitb (t:=11) rfl (fun h2=>?_) (fun h2=>?_)
  ·refine o1 ?_;refine ld ?_;refine ca (nK (lT ha)) aA (aM rfl) _ ?_;(iterate 3 refine o1 ?_)
   refine WL.split (t:=17) rfl (fun h3=>?_) (fun h3=>?_)
   ·refine o1 ?_;refine ld ?_;refine o1 ?_;refine ld ?_;have s3:0<eP a.t a.y:=Int.sign_pos_iff.1 h3
    have hn4:=Jt (k:=(eP a.s a.x)) (k':=(eP a.t a.y)) (by omega)
    refine ca (Pu (Ov ha) (lT ha)) aA (bN rfl rfl) _ ?_;have hn5:=tB (n:=(1:Int)) (by omega) (by omega)
    refine ca (jA (n:=(1:Int)) (by omega) (by omega)) aA (bC rfl) _ ?_
    refine ca (NF (Zn.of (k:=((Int.gcd (eP a.s a.x) (eP a.t a.y):Nat):Int)) (by omega)) (Zn.of (k:=(1:Int)) (by omega))) aA (bN rfl rfl) _ ?_
    refine o1 ?_;refine o1 ?_;refine nl (rt ?_)
    exact en (.inl rfl) rfl (bB (bO _)) (by decide) (fun _=>trivial) (congrArg (fun z=>FV.one (tv (.bool z))) (by simp[eC,h1,h2,s3,Uh]))
   (iterate 7 refine aW ?_);refine o1 ?_;refine o1 ?_;refine nl (rt ?_);have s3:¬(0<eP a.t a.y):=fun h=>h3 (Int.sign_pos_iff.2 h)
   exact en (.inl rfl) rfl (bB (bO _)) (by decide) (fun _=>trivial) (congrArg (fun z=>FV.one (tv (.bool z))) (by simp[eC,h1,h2,s3,Uh]))
  (iterate 4 refine aW ?_);refine o1 ?_;refine o1 ?_;(iterate 7 refine aW ?_);refine o1 ?_;refine o1 ?_;refine nl (rt ?_)
  exact en (.inl rfl) rfl (bB (bO _)) (by decide) (fun _=>trivial) (congrArg (fun z=>FV.one (tv (.bool z))) (by simp[eC,h1,h2]))
 (iterate 3 refine aW ?_);refine o1 ?_;refine o1 ?_;(iterate 4 refine aW ?_);refine o1 ?_;refine o1 ?_;(iterate 7 refine aW ?_);refine o1 ?_;refine o1 ?_;refine nl (rt ?_)
 exact en (.inl rfl) rfl (bB (bO _)) (by decide) (fun _=>trivial) (congrArg (fun z=>FV.one (tv (.bool z))) (by simp[eC,h1]))
theorem lI:aE false Tryz.prog 122 [] [] (aP (qF (.of 0))):=by
 refine bD Tryz.func122 Tryz.ntmps122 fun N w c0 h0=>?_
 refine sq (rl (al 0 ?_));refine nl (sq (rl ?_));have hn1:=tB (n:=(0:Int)) (by omega) (by omega)
 refine ca (jA (n:=(0:Int)) (by omega) (by omega)) aA (bC rfl) _ ?_
 have hn2:=tB (n:=(1:Int)) (by omega) (by omega)
 refine ca (jA (n:=(1:Int)) (by omega) (by omega)) aA (bC rfl) _ ?_
 refine o1 ?_;refine st ?_;refine nl (rt ?_)
 exact en (.inl rfl) rfl (bB (.agg (.cons (.id rfl) (.cons (.id rfl) (.cons (.id rfl) (.cons (.id rfl) .nil)))))) (by decide) (fun h=>by cases h) (Dn (q:=0) rfl rfl)
theorem jP {n:Int}(h1:-9223372036854775808<=n) (h2:n<=9223372036854775807):aE false Tryz.prog 63 [] [.one (tv (.int .i64 n))] (aP (qF (.of (n:Rat)))):=by
 refine bD Tryz.func63 Tryz.ntmps63 fun N w c0 h0=>?_
 refine sq (rl (al 0 ?_));refine nl (sq (rl (o1 ?_)));have hn1:=tB (n:=n) (by omega) (by omega)
 refine ca (jA (n:=n) (by omega) (by omega)) aA (bC rfl) _ ?_
 have hn2:=tB (n:=(1:Int)) (by omega) (by omega)
 refine ca (jA (n:=(1:Int)) (by omega) (by omega)) aA (bC rfl) _ ?_
 refine o1 ?_;refine st ?_;refine nl (rt ?_)
 exact en (.inl rfl) rfl (bB (.agg (.cons (.id rfl) (.cons (.id rfl) (.cons (.id rfl) (.cons (.id rfl) .nil)))))) (by decide) (fun h=>by cases h) (Dn (q:=(n:Rat)) (Rat.num_intCast n) (by rw[Rat.den_intCast];rfl))
theorem lV {a:Fr4}{p:Rat}(ha:Qn a p):aE false Tryz.prog 60 [] [qF a] (aP (qF (.of p))):=by
 refine bD Tryz.func60 Tryz.ntmps60 fun N w c0 h0=>?_
 refine sq (rl (bx 0 ?_));refine al 1 ?_;refine nl (sq (sq (rl (ld ?_))))
 refine ca (Fp ha) aA (aM rfl) _ ?_;refine WL.splitb (t:=4) rfl (fun h1=>?_) (fun h1=>?_)
 ·refine o1 ?_;refine nl (dY rfl (sk (sq (rl (ld ?_)))));refine st ?_;refine nl (rt ?_)
  exact en (.inl rfl) rfl (bB (.agg (.cons (.id rfl) (.cons (.id rfl) (.cons (.id rfl) (.cons (.id rfl) .nil)))))) (by decide) (fun h=>by cases h) (by rw[ha.right h1];rfl)
 refine o1 ?_;refine nl (eU rfl (sq (rl (ca (lI) aA rfl _ ?_))));refine st ?_;refine nl (rt ?_)
 exact en (.inl rfl) rfl (bB (.agg (.cons (.id rfl) (.cons (.id rfl) (.cons (.id rfl) (.cons (.id rfl) .nil)))))) (by decide) (fun h=>by cases h) (by rw[ha.wrong h1];rfl)
theorem fL {a b:Zi}{k k':Int}(ha:Zn a k) (hb:Zn b k') (h0:k'≠0):aE false Tryz.prog 117 [] [gF a,gF b] (aP (.tup [kF (k.fdiv k'),kF (k.fmod k'),.one (tv (.int .i64 0))])):=by
 have h:=iI ha hb
 rwa[if_neg h0,if_neg h0,if_neg h0]at h
theorem nJ {a b:Zi}{k k':Int}(ha:Zn a k) (hb:Zn b k'):aE false Tryz.prog 87 [] [gF a,gF b] (aP (.tup [qF (.of (Rat.divInt k k')),.one (tv (.int .i64 (if k'=0 then 20 else 0)))])):=by
 refine bD Tryz.func87 Tryz.ntmps87 fun N w c0 h0=>?_
 have hkl:=ha.len
 have hkl':=hb.len
 refine sq (rl (bx 0 ?_));refine bx 1 ?_;refine al 2 ?_;refine o1 ?_;refine nl (sq (sq (rl (ld ?_))))
 refine ca (nK hb) aA (aM rfl) _ ?_;refine o1 ?_;refine nl ?_;refine aV rfl (fun h1=>?_) (fun h1=>?_)
 ·refine sq (rl (ca (lI) aA rfl _ ?_));refine st ?_;refine o1 ?_;refine nl (rt ?_);have hk0:k'=0:=Int.sign_eq_zero_iff_zero.1 h1
  have hd0:Rat.divInt k k'=0:=by rw[hk0];simp
  exact en (.inl rfl) rfl (gP (.cons (.agg (.cons (.id rfl) (.cons (.id rfl) (.cons (.id rfl) (.cons (.id rfl) .nil))))) (.cons (bO _) .nil))) (by decide) (fun h=>by cases h) (by rw[if_pos hk0,hd0];rfl)
 refine sk (sq (sq ?_));have hk0:k'≠0:=fun h9=>h1 (by rw[h9];rfl)
 refine rl (ld ?_);refine ca (nK hb) aA (aM rfl) _ ?_;refine o1 ?_;refine nl ?_;refine aV rfl (fun h2=>?_) (fun h2=>?_)
 ·refine sq (rl (ld ?_));have hn3:=nS (k)
  refine ca (Hw ha) aA (aM rfl) _ ?_;refine st ?_;refine nl (rl (ld ?_));have hn4:=nS (k')
  refine ca (Hw hb) aA (aM rfl) _ ?_;refine st ?_;refine nl (sq ?_);have hkn:k'<0:=Int.sign_neg_iff.1 h2
  refine rl (ld ?_);refine ld ?_;have hn5:=Jt (k:=-k) (k':=-k') (by omega)
  refine ca (Pu (Zn.of (k:=-k) (by omega)) (Zn.of (k:=-k') (by omega))) aA (bN rfl rfl) _ ?_
  refine al 3 ?_;refine st ?_;refine nl (sq (rl (ld ?_)));refine ld ?_
  refine ca (fL (Zn.of (k:=-k) (by omega)) (Zn.of (k:=((Int.gcd (-k) (-k'):Nat):Int)) (by omega)) (Hz (by omega))) aA (bN rfl rfl) _ ?_
  (iterate 4 refine o1 ?_);refine al 4 ?_;refine al 5 ?_;refine st ?_;refine st ?_;refine o1 ?_;refine nl (sq (rl (ld ?_)));refine ld ?_
  refine ca (fL (Zn.of (k:=-k') (by omega)) (Zn.of (k:=((Int.gcd (-k) (-k'):Nat):Int)) (by omega)) (Hz (by omega))) aA (bN rfl rfl) _ ?_
  (iterate 4 refine o1 ?_);refine al 6 ?_;refine al 7 ?_;refine st ?_;refine st ?_;refine o1 ?_;refine nl (sq (rl (ld ?_)));refine ld ?_;refine o1 ?_
  refine st ?_;refine o1 ?_;refine nl (rt ?_);obtain⟨hp9,hn9⟩:=Pv (a:=k) hk0
  obtain⟨e1,e2⟩:=hn9 hkn
  exact en (.inl rfl) rfl (gP (.cons (.agg (.cons (.id rfl) (.cons (.id rfl) (.cons (.id rfl) (.cons (.id rfl) .nil))))) (.cons (bO _) .nil))) (by decide) (fun h=>by cases h) (by rw[if_neg hk0];exact congrArg (fun f=>FV.tup [f,.one (tv (.int .i64 0))]) (Dn e1 e2))
 refine sk (sq ?_);have hkp:0<k':=by have h9:=mt Int.sign_neg_iff.2 h2;omega
 refine rl (ld ?_);refine ld ?_;have hn6:=Jt (k:=k) (k':=k') (by omega)
 refine ca (Pu ha hb) aA (bN rfl rfl) _ ?_;refine al 3 ?_;refine st ?_;refine nl (sq (rl (ld ?_)));refine ld ?_
 refine ca (fL ha (Zn.of (k:=((Int.gcd k k':Nat):Int)) (by omega)) (Hz (by omega))) aA (bN rfl rfl) _ ?_
 (iterate 4 refine o1 ?_);refine al 4 ?_;refine al 5 ?_;refine st ?_;refine st ?_;refine o1 ?_;refine nl (sq (rl (ld ?_)));refine ld ?_
 refine ca (fL hb (Zn.of (k:=((Int.gcd k k':Nat):Int)) (by omega)) (Hz (by omega))) aA (bN rfl rfl) _ ?_
 (iterate 4 refine o1 ?_);refine al 6 ?_;refine al 7 ?_;refine st ?_;refine st ?_;refine o1 ?_;refine nl (sq (rl (ld ?_)));refine ld ?_;refine o1 ?_
 refine st ?_;refine o1 ?_;refine nl (rt ?_);obtain⟨hp9,hn9⟩:=Pv (a:=k) hk0
 obtain⟨e1,e2⟩:=hp9 hkp
 exact en (.inl rfl) rfl (gP (.cons (.agg (.cons (.id rfl) (.cons (.id rfl) (.cons (.id rfl) (.cons (.id rfl) .nil))))) (.cons (bO _) .nil))) (by decide) (fun h=>by cases h) (by rw[if_neg hk0];exact congrArg (fun f=>FV.tup [f,.one (tv (.int .i64 0))]) (Dn e1 e2))
theorem aAv {n d:Int}(h1:-9223372036854775808<=n) (h2:n<=9223372036854775807) (h3:-9223372036854775808<=d) (h4:d<=9223372036854775807):aE false Tryz.prog 37 [] [.one (tv (.int .i64 n)),.one (tv (.int .i64 d))] (aP (.tup [qF (.of (Rat.divInt n d)),.one (tv (.int .i64 (if d=0 then 20 else 0)))])):=by
 refine bD Tryz.func37 Tryz.ntmps37 fun N w c0 h0=>?_
 refine sq (rl (al 0 ?_));refine o1 ?_;refine nl (sq (rl (o1 ?_)));have hn1:=tB (n:=n) (by omega) (by omega)
 refine ca (jA (n:=n) (by omega) (by omega)) aA (bC rfl) _ ?_
 refine o1 ?_;have hn2:=tB (n:=d) (by omega) (by omega)
 refine ca (jA (n:=d) (by omega) (by omega)) aA (bC rfl) _ ?_
 refine ca (nJ (Zn.of (k:=n) (by omega)) (Zn.of (k:=d) (by omega))) aA (bN rfl rfl) _ ?_
 refine o1 ?_;refine o1 ?_;refine st ?_;refine o1 ?_;refine nl (rt ?_)
 exact en (.inl rfl) rfl (gP (.cons (.agg (.cons (.id rfl) (.cons (.id rfl) (.cons (.id rfl) (.cons (.id rfl) .nil))))) (.cons (bO _) .nil))) (by decide) (fun h=>by cases h) rfl
theorem Ca {a:Fr4}{p:Rat}(ha:Qn a p):aE false Tryz.prog 116 [] [qF a] (aP (qF (.of (-p)))):=by
 refine bD Tryz.func116 Tryz.ntmps116 fun N w c0 h0=>?_
 refine sq (rl (bx 0 ?_));refine al 1 ?_;refine nl (sq (rl (ld ?_)));refine ca (lV ha) aA (aM rfl) _ ?_;refine st ?_
 refine nl (sq ?_);refine bU [0,1] [6] ?_
 refine dv 0 ?_;refine aF 1 ?_;refine dv 3 ?_;refine aF 4 ?_;refine aG 2 rfl (Hw (gZ ha.sz)) aA (aM rfl) _ ?_;refine df 5 ?_;refine dst 6 ?_;refine aJ ?_
 refine rt ?_
 exact en (.inl rfl) rfl (bB (.agg (.cons (.id rfl) (.cons (.id rfl) (.cons (.id rfl) (.cons (.id rfl) .nil)))))) (by decide) (fun h=>by cases h) (by unfold qF Fr4.of;rw[Rat.neg_num,Rat.neg_den];rfl)
theorem BT {a b:Fr4}{p q:Rat}(ha:Qn a p) (hb:Qn b q) (hs:Sz 17179869184 p) (hs':Sz 17179869184 q):aE false Tryz.prog 181 [] [qF a,qF b] (aP (qF (.of (p+q)))):=by
 refine bD Tryz.func181 Tryz.ntmps181 fun N w c0 h0=>?_
 have hs1:=hs.1
 have hs2:(dg 4294967296 ((p.den:Int)).natAbs).length<=17179869184:=hs.2
 have hs3:=hs'.1
 have hs4:(dg 4294967296 ((q.den:Int)).natAbs).length<=17179869184:=hs'.2
 refine sq (rl (bx 0 ?_));refine bx 1 ?_;refine al 2 ?_;refine nl (sq (rl (ld ?_)));refine ca (lV ha) aA (aM rfl) _ ?_
 refine st ?_;refine nl (sq (rl (ld ?_)));refine ca (lV hb) aA (aM rfl) _ ?_;refine st ?_;refine nl ?_
 refine md (γ:=Unit) (fun _=>bP [(4,pN 0),(5,pN 1)]) (fun _=>([⟨38,0,[tv (.bool false),tv (.slice none 0 0),tv (.bool false),tv (.slice none 0 0)]⟩,⟨38,0,((Fr4.of (Rat.divInt (p.num*(q.den:Int)+q.num*(p.den:Int)) ((p.den:Int)*(q.den:Int)))).tr false).map .t⟩]:List Ob).map some) (fun _=>True) ?_ fun _ _=>?_
 ·refine bU [0,1,2] [22] ?_
  refine dv 0 ?_;refine aF 1 ?_;refine dv 2 ?_;refine aF 3 ?_;refine dv 5 ?_;refine aF 6 ?_;refine dv 7 ?_;refine aF 8 ?_;refine dv 11 ?_;refine aF 12 ?_;refine dv 13 ?_
  refine aF 14 ?_;refine dD 4 20 ?_ ?_
  ·have hn1:=eG (p.num) ((q.den:Int))
   refine dE 4 rfl (jE (gZ hs) (cY hs')) aA (bN rfl rfl) _ ?_;refine dD 9 20 ?_ ?_
   ·have hn2:=eG (q.num) ((p.den:Int))
    refine dE 9 rfl (jE (gZ hs') (cY hs)) aA (bN rfl rfl) _ ?_;refine dD 10 20 ?_ ?_
    ·have hn3:=iL (p.num*(q.den:Int)) (q.num*(p.den:Int))
     refine dE 10 rfl (qS (Zn.of (k:=p.num*(q.den:Int)) (by omega)) (Zn.of (k:=q.num*(p.den:Int)) (by omega))) aA (bN rfl rfl) _ ?_
     refine dD 15 20 ?_ ?_
     ·have hn4:=eG ((p.den:Int)) ((q.den:Int))
      refine dE 15 rfl (jE (cY hs) (cY hs')) aA (bN rfl rfl) _ ?_;refine dD 16 20 ?_ ?_
      ·refine dE 16 rfl (nJ (Zn.of (k:=p.num*(q.den:Int)+q.num*(p.den:Int)) (by omega)) (Zn.of (k:=(p.den:Int)*(q.den:Int)) (by omega))) aA (bN rfl rfl) _ ?_
       refine df 17 ?_;refine df 18 ?_;refine df 19 ?_;refine eE 3 20 ?_
       refine aT 21 ?_
       refine bM 22 ?_
       refine aJ ?_;exact⟨(),trivial,aH h0 [2,3] ⟨oe rfl rfl,oe rfl rfl,rfl⟩⟩
      refine bQ 3 20 ?_
      refine aG 16 rfl (nJ (Zn.of (k:=p.num*(q.den:Int)+q.num*(p.den:Int)) (by omega)) (Zn.of (k:=(p.den:Int)*(q.den:Int)) (by omega))) aA (bN rfl rfl) _ ?_
      refine df 17 ?_;refine df 18 ?_;refine df 19 ?_;refine aT 21 ?_
      refine bM 22 ?_
      refine aJ ?_;exact⟨(),trivial,aH h0 [2,3] ⟨oe rfl rfl,oe rfl rfl,rfl⟩⟩
     refine bQ 3 20 ?_;have hn5:=eG ((p.den:Int)) ((q.den:Int))
     refine aG 15 rfl (jE (cY hs) (cY hs')) aA (bN rfl rfl) _ ?_
     refine aG 16 rfl (nJ (Zn.of (k:=p.num*(q.den:Int)+q.num*(p.den:Int)) (by omega)) (Zn.of (k:=(p.den:Int)*(q.den:Int)) (by omega))) aA (bN rfl rfl) _ ?_
     refine df 17 ?_;refine df 18 ?_;refine df 19 ?_;refine aT 21 ?_
     refine bM 22 ?_
     refine aJ ?_;exact⟨(),trivial,aH h0 [2,3] ⟨oe rfl rfl,oe rfl rfl,rfl⟩⟩
    refine bQ 3 20 ?_;have hn6:=iL (p.num*(q.den:Int)) (q.num*(p.den:Int))
    refine aG 10 rfl (qS (Zn.of (k:=p.num*(q.den:Int)) (by omega)) (Zn.of (k:=q.num*(p.den:Int)) (by omega))) aA (bN rfl rfl) _ ?_
    have hn7:=eG ((p.den:Int)) ((q.den:Int))
    refine aG 15 rfl (jE (cY hs) (cY hs')) aA (bN rfl rfl) _ ?_
    refine aG 16 rfl (nJ (Zn.of (k:=p.num*(q.den:Int)+q.num*(p.den:Int)) (by omega)) (Zn.of (k:=(p.den:Int)*(q.den:Int)) (by omega))) aA (bN rfl rfl) _ ?_
    refine df 17 ?_;refine df 18 ?_;refine df 19 ?_;refine aT 21 ?_
    refine bM 22 ?_
    refine aJ ?_;exact⟨(),trivial,aH h0 [2,3] ⟨oe rfl rfl,oe rfl rfl,rfl⟩⟩
   refine bQ 3 20 ?_;have hn8:=eG (q.num) ((p.den:Int))
   refine aG 9 rfl (jE (gZ hs') (cY hs)) aA (bN rfl rfl) _ ?_;have hn9:=iL (p.num*(q.den:Int)) (q.num*(p.den:Int))
   refine aG 10 rfl (qS (Zn.of (k:=p.num*(q.den:Int)) (by omega)) (Zn.of (k:=q.num*(p.den:Int)) (by omega))) aA (bN rfl rfl) _ ?_
   have hn10:=eG ((p.den:Int)) ((q.den:Int))
   refine aG 15 rfl (jE (cY hs) (cY hs')) aA (bN rfl rfl) _ ?_
   refine aG 16 rfl (nJ (Zn.of (k:=p.num*(q.den:Int)+q.num*(p.den:Int)) (by omega)) (Zn.of (k:=(p.den:Int)*(q.den:Int)) (by omega))) aA (bN rfl rfl) _ ?_
   refine df 17 ?_;refine df 18 ?_;refine df 19 ?_;refine aT 21 ?_
   refine bM 22 ?_
   refine aJ ?_;exact⟨(),trivial,aH h0 [2,3] ⟨oe rfl rfl,oe rfl rfl,rfl⟩⟩
  refine bQ 3 20 ?_;have hn11:=eG (p.num) ((q.den:Int))
  refine aG 4 rfl (jE (gZ hs) (cY hs')) aA (bN rfl rfl) _ ?_;have hn12:=eG (q.num) ((p.den:Int))
  refine aG 9 rfl (jE (gZ hs') (cY hs)) aA (bN rfl rfl) _ ?_;have hn13:=iL (p.num*(q.den:Int)) (q.num*(p.den:Int))
  refine aG 10 rfl (qS (Zn.of (k:=p.num*(q.den:Int)) (by omega)) (Zn.of (k:=q.num*(p.den:Int)) (by omega))) aA (bN rfl rfl) _ ?_
  have hn14:=eG ((p.den:Int)) ((q.den:Int))
  refine aG 15 rfl (jE (cY hs) (cY hs')) aA (bN rfl rfl) _ ?_
  refine aG 16 rfl (nJ (Zn.of (k:=p.num*(q.den:Int)+q.num*(p.den:Int)) (by omega)) (Zn.of (k:=(p.den:Int)*(q.den:Int)) (by omega))) aA (bN rfl rfl) _ ?_
  refine df 17 ?_;refine df 18 ?_;refine df 19 ?_;refine aT 21 ?_
  refine bM 22 ?_
  refine aJ ?_;exact⟨(),trivial,aH h0 [2,3] ⟨oe rfl rfl,oe rfl rfl,rfl⟩⟩
 refine sq (rl (ld ?_));refine st ?_;refine nl (rt ?_)
 exact en (.inl rfl) rfl (bB (.agg (.cons (.id rfl) (.cons (.id rfl) (.cons (.id rfl) (.cons (.id rfl) .nil)))))) (by decide) (fun h=>by cases h) (by rw[<-wE];rfl)
theorem Cb {a b:Fr4}{p q:Rat}(ha:Qn a p) (hb:Qn b q) (hs:Sz 17179869184 p) (hs':Sz 17179869184 q):aE false Tryz.prog 64 [] [qF a,qF b] (aP (qF (.of (p*q)))):=by
 refine bD Tryz.func64 Tryz.ntmps64 fun N w c0 h0=>?_
 have hs1:=hs.1
 have hs2:(dg 4294967296 ((p.den:Int)).natAbs).length<=17179869184:=hs.2
 have hs3:=hs'.1
 have hs4:(dg 4294967296 ((q.den:Int)).natAbs).length<=17179869184:=hs'.2
 refine sq (rl (bx 0 ?_));refine bx 1 ?_;refine al 2 ?_;refine nl (sq (rl (ld ?_)));refine ca (lV ha) aA (aM rfl) _ ?_
 refine st ?_;refine nl (sq (rl (ld ?_)));refine ca (lV hb) aA (aM rfl) _ ?_;refine st ?_;refine nl ?_
 refine md (γ:=Unit) (fun _=>bP [(4,pN 0),(5,pN 1)]) (fun _=>([⟨38,0,[tv (.bool false),tv (.slice none 0 0),tv (.bool false),tv (.slice none 0 0)]⟩,⟨38,0,((Fr4.of (Rat.divInt (p.num*q.num) ((p.den:Int)*(q.den:Int)))).tr false).map .t⟩]:List Ob).map some) (fun _=>True) ?_ fun _ _=>?_
 ·refine bU [0,1,2] [16] ?_
  refine dv 0 ?_;refine aF 1 ?_;refine dv 2 ?_;refine aF 3 ?_;refine dv 5 ?_;refine aF 6 ?_;refine dv 7 ?_;refine aF 8 ?_;refine dD 4 14 ?_ ?_
  ·have hn1:=eG (p.num) (q.num)
   refine dE 4 rfl (jE (gZ hs) (gZ hs')) aA (bN rfl rfl) _ ?_;refine dD 9 14 ?_ ?_
   ·have hn2:=eG ((p.den:Int)) ((q.den:Int))
    refine dE 9 rfl (jE (cY hs) (cY hs')) aA (bN rfl rfl) _ ?_;refine dD 10 14 ?_ ?_
    ·refine dE 10 rfl (nJ (Zn.of (k:=p.num*q.num) (by omega)) (Zn.of (k:=(p.den:Int)*(q.den:Int)) (by omega))) aA (bN rfl rfl) _ ?_
     refine df 11 ?_;refine df 12 ?_;refine df 13 ?_;refine eE 3 14 ?_
     refine aT 15 ?_
     refine bM 16 ?_
     refine aJ ?_;exact⟨(),trivial,aH h0 [2,3] ⟨oe rfl rfl,oe rfl rfl,rfl⟩⟩
    refine bQ 3 14 ?_
    refine aG 10 rfl (nJ (Zn.of (k:=p.num*q.num) (by omega)) (Zn.of (k:=(p.den:Int)*(q.den:Int)) (by omega))) aA (bN rfl rfl) _ ?_
    refine df 11 ?_;refine df 12 ?_;refine df 13 ?_;refine aT 15 ?_
    refine bM 16 ?_
    refine aJ ?_;exact⟨(),trivial,aH h0 [2,3] ⟨oe rfl rfl,oe rfl rfl,rfl⟩⟩
   refine bQ 3 14 ?_;have hn3:=eG ((p.den:Int)) ((q.den:Int))
   refine aG 9 rfl (jE (cY hs) (cY hs')) aA (bN rfl rfl) _ ?_
   refine aG 10 rfl (nJ (Zn.of (k:=p.num*q.num) (by omega)) (Zn.of (k:=(p.den:Int)*(q.den:Int)) (by omega))) aA (bN rfl rfl) _ ?_
   refine df 11 ?_;refine df 12 ?_;refine df 13 ?_;refine aT 15 ?_
   refine bM 16 ?_
   refine aJ ?_;exact⟨(),trivial,aH h0 [2,3] ⟨oe rfl rfl,oe rfl rfl,rfl⟩⟩
  refine bQ 3 14 ?_;have hn4:=eG (p.num) (q.num)
  refine aG 4 rfl (jE (gZ hs) (gZ hs')) aA (bN rfl rfl) _ ?_;have hn5:=eG ((p.den:Int)) ((q.den:Int))
  refine aG 9 rfl (jE (cY hs) (cY hs')) aA (bN rfl rfl) _ ?_
  refine aG 10 rfl (nJ (Zn.of (k:=p.num*q.num) (by omega)) (Zn.of (k:=(p.den:Int)*(q.den:Int)) (by omega))) aA (bN rfl rfl) _ ?_
  refine df 11 ?_;refine df 12 ?_;refine df 13 ?_;refine aT 15 ?_
  refine bM 16 ?_
  refine aJ ?_;exact⟨(),trivial,aH h0 [2,3] ⟨oe rfl rfl,oe rfl rfl,rfl⟩⟩
 refine sq (rl (ld ?_));refine st ?_;refine nl (rt ?_)
 exact en (.inl rfl) rfl (bB (.agg (.cons (.id rfl) (.cons (.id rfl) (.cons (.id rfl) (.cons (.id rfl) .nil)))))) (by decide) (fun h=>by cases h) (congrArg (fun q=>qF (.of q)) (by rw[<-Rat.divInt_mul_divInt,Rat.num_divInt_den,Rat.num_divInt_den]))
theorem UB {a b:Fr4}{p q:Rat}(ha:Qn a p) (hb:Qn b q) (hs:Sz 17179869184 p) (hs':Sz 17179869184 q):aE false Tryz.prog 123 [] [qF a,qF b] (aP (qF (.of (p-q)))):=by
 refine bD Tryz.func123 Tryz.ntmps123 fun N w c0 h0=>?_
 refine sq (rl (bx 0 ?_));refine bx 1 ?_;refine al 2 ?_;refine nl (sq ?_);refine bU [0,1,2] [4] ?_
 refine aF 0 ?_;refine aF 1 ?_;refine aG 2 rfl (Ca hb) aA (aM rfl) _ ?_
 refine aG 3 rfl (BT ha (Qn.of (p:=(-q)) (tH hs')) hs (tH hs')) aA (bN rfl rfl) _ ?_;refine dst 4 ?_;refine aJ ?_;refine rt ?_
 exact en (.inl rfl) rfl (bB (.agg (.cons (.id rfl) (.cons (.id rfl) (.cons (.id rfl) (.cons (.id rfl) .nil)))))) (by decide) (fun h=>by cases h) (by rw[Rat.sub_eq_add_neg];rfl)
theorem uU {a:Fr4}{p:Rat}(ha:Qn a p):aE true Tryz.prog 61 [] [qF a] (aP (.one (tv (.int .i64 p.num.sign)))):=by
 refine bD Tryz.func61 Tryz.ntmps61 fun N w c0 h0=>?_
 refine sq (rl (bx 0 ?_));refine o1 ?_;refine nl (sq (rl (ld ?_)));refine ca (lV ha) aA (aM rfl) _ ?_;refine o1 ?_
 refine ca (nK (gZ ha.sz)) aA (aM rfl) _ ?_;refine o1 ?_;refine nl (rt ?_)
 exact en (.inl rfl) rfl (bB (bO _)) (by decide) (fun _=>trivial) rfl
theorem vM {a b:Fr4}{p q:Rat}(ha:Qn a p) (hb:Qn b q) (hs:Sz 17179869184 p) (hs':Sz 17179869184 q):aE true Tryz.prog 62 [] [qF a,qF b] (aP (.one (tv (.int .i64 (p-q).num.sign)))):=by
 refine bD Tryz.func62 Tryz.ntmps62 fun N w c0 h0=>?_
 refine sq (rl (bx 0 ?_));refine bx 1 ?_;refine o1 ?_;refine nl (sq (rl (ld ?_)));refine ld ?_
 refine ca (UB ha hb hs hs') aA (bN rfl rfl) _ ?_
 refine ca (uU (Qn.of (p:=(p-q)) (UC hs hs'))) aA (aM rfl) _ ?_;refine o1 ?_;refine nl (rt ?_)
 exact en (.inl rfl) rfl (bB (bO _)) (by decide) (fun _=>trivial) rfl
theorem Ia {a b:Fr4}{p q:Rat}(ha:Qn a p) (hb:Qn b q) (hs:Sz 17179869184 p) (hs':Sz 17179869184 q):aE false Tryz.prog 126 [] [qF a,qF b] (aP (.tup [qF (.of (p/q)),.one (tv (.int .i64 (if q=0 then 20 else 0)))])):=by
 refine bD Tryz.func126 Tryz.ntmps126 fun N9 w9 c0 h0=>?_
 have hs1:=hs.1
 have hs2:(dg 4294967296 ((p.den:Int)).natAbs).length<=17179869184:=hs.2
 have hs3:=hs'.1
 have hs4:(dg 4294967296 ((q.den:Int)).natAbs).length<=17179869184:=hs'.2
 refine sq (rl (bx 0 ?_));refine bx 1 ?_;refine al 2 ?_;refine o1 ?_;refine nl (sq (rl (ld ?_)))
 refine ca (lV ha) aA (aM rfl) _ ?_;refine st ?_;refine nl (sq (rl (ld ?_)));refine ca (lV hb) aA (aM rfl) _ ?_
 refine st ?_;refine nl (sq ?_);refine bU [0,1,2] [13,14] ?_
 refine dv 0 ?_;refine aF 1 ?_;refine dv 2 ?_;refine aF 3 ?_;refine dv 5 ?_;refine aF 6 ?_;refine dv 7 ?_;refine aF 8 ?_;have hn1:=eG (p.num) ((q.den:Int))
 refine aG 4 rfl (jE (gZ hs) (cY hs')) aA (bN rfl rfl) _ ?_;have hn2:=eG ((p.den:Int)) (q.num)
 refine aG 9 rfl (jE (cY hs) (gZ hs')) aA (bN rfl rfl) _ ?_
 refine aG 10 rfl (nJ (Zn.of (k:=(p.num*(q.den:Int))) (by omega)) (Zn.of (k:=((p.den:Int)*q.num)) (by omega))) aA (bN rfl rfl) _ ?_
 refine df 11 ?_;refine df 12 ?_;refine dst 13 ?_;refine bM 14 ?_
 refine aJ ?_;refine rt ?_
 exact en (.inl rfl) rfl (gP (.cons (.agg (.cons (.id rfl) (.cons (.id rfl) (.cons (.id rfl) (.cons (.id rfl) .nil))))) (.cons (bO _) .nil))) (by decide) (fun h=>by cases h) (by have e9:(if((p.den:Int)*q.num)=0 then(20:Int)else 0)=if q=0 then 20 else 0:=(by simp only[FO]);rw[e9,JR];rfl)
theorem GG {X os:List Nat}{k d rest:Nat}(h0:0<k) (hk:k<=X.length) (h:vl 65536 os*d+rest=vl 65536 (X.drop k)):
  vl 65536 (((65536*rest+nth X (k-1))/d)::os)*d+(65536*rest+nth X (k-1))%d=vl 65536 (X.drop (k-1)):=by
 rw[mI 65536 h0 hk,<-h,iF,Nat.add_mul,Nat.mul_add,Nat.mul_assoc]
 have h2:=Nat.div_add_mod (65536*rest+nth X (k-1)) d
 rw[Nat.mul_comm]at h2
 omega
theorem GH {X os:List Nat}{d rest:Nat}(hd:rest<d) (h:vl 65536 os*d+rest=vl 65536 (X.drop 0)):vl 65536 os=vl 65536 X/d/\rest=vl 65536 X%d:=by
 rw[List.drop_zero,Nat.mul_comm]at h
 refine⟨?_,?_⟩
 ·rw[<-h,Nat.mul_add_div (by omega),Nat.div_eq_of_lt hd,Nat.add_zero]
 rw[<-h,Nat.mul_add_mod,Nat.mod_eq_of_lt hd]
theorem BU {rest d x:Nat}(h:rest<d) (hx:x<65536):(65536*rest+x)/d<65536:=by
 rw[Nat.div_lt_iff_lt_mul (by omega)]
 have:65536*(rest+1)<=65536*d:=Nat.mul_le_mul_left _ h
 omega
theorem NG {k v:Nat}{os:List Nat}(h:0<k):(List.replicate k 0++os).set (k-1) v=List.replicate (k-1) 0++v::os:=by
 obtain⟨j,rfl⟩:∃j,k=j+1:=⟨k-1,by omega⟩
 rw[List.replicate_succ',List.append_assoc,List.set_append_right _ _ (by simp)]
 simp
theorem Td {xs:List Nat}{d:Nat}(hx:xs.length<=1099511627776) (hlx:Lim 4294967296 xs) (hd0:0<d) (hd:d<4294967296):aE true Tryz.prog 128 [] [.one (.t (sU false xs)),.one (tv (.int .u32 ((d:Nat):Int)))] (aP (.tup [.one (.t (sU true (dg 4294967296 (vl 4294967296 xs/d)))),.one (tv (.int .u32 ((vl 4294967296 xs%d:Nat):Int))),.one (tv (.int .i64 0))])):=by
 refine bD Tryz.func128 Tryz.ntmps128 fun N9 w9 c0 h0=>?_
 refine sq (rl ?_);(iterate 3 refine o1 ?_);refine nl (sq (sq (rl (o1 ?_))));refine o1 ?_;refine nl ?_;refine aV rfl (fun h1=>?_) (fun h1=>?_)
 ·omega
 refine sk (sq (rl (o1 ?_)));refine ca (mT hx hlx) aA (bC rfl) _ ?_;refine o1 ?_;refine nl ?_
 refine sq ?_;have hdx:=eZ (v:=vl 4294967296 xs) (L:=xs.length) (by rw[fR (by omega) hlx];exact dH _)
 have hX:=aU (B:=65536) (by omega) (vl 4294967296 xs)
 have hvX:=cL (B:=65536) (by omega) (vl 4294967296 xs)
 generalize dg 65536 (vl 4294967296 xs)=X at hdx hX hvX⊢;refine rl (o1 ?_);refine o1 ?_;refine mk (m:=X.length) 0 (by omega) (Fs _) ?_
 refine o1 ?_;refine nl (sq (rl (o1 ?_)));refine nl (sq (sq (rl ?_)));(iterate 4 refine o1 ?_);refine nl (bl ?_)
 refine lp (γ:=Nat×Nat×List Nat) (fun s=>bP [(1,.one (tv (.int .u32 ((d:Nat):Int)))),(7,.one (.t (sI false X))),(8,.one (.sl 0 0 (X.length))),(9,iN s.2.1),(10,.one (tv (.int .i64 (((s.1:Nat):Int)-1))))]) (fun s=>[(⟨3,1,(eR (List.replicate s.1 0++s.2.2)).map .t⟩:Ob)].map some) (fun s=>s.1<=X.length/\Lim 65536 s.2.2/\s.2.2.length+s.1=X.length/\s.2.1<d/\vl 65536 s.2.2*d+s.2.1=vl 65536 (X.drop s.1)) (fun s=>s.1) (X.length,0,[]) ⟨aX _,Lim.nil,Nat.zero_add _,hd0,(by rw[List.drop_length];simp[vl])⟩ (aH h0 [0] ⟨aD (congrArg (fun l:List Nat=>some (⟨3,1,(eR l).map .t⟩:Ob)) ((List.append_nil _).symm)),rfl⟩) ?_
 rintro⟨k,rest,os⟩ ⟨hk,hol,hos,hr,hv⟩;dsimp only at hk hol hos hr hv⊢;have hn:=hX.nth (by omega) (k-1)
 have hlen:(List.replicate k 0++os).length=X.length:=by rw[cJ,List.length_replicate];omega
 refine sq (sq (rl (o1 ?_)));refine o1 ?_;refine nl ?_;refine aV rfl (fun h2=>?_) (fun h2=>?_)
 ·refine sk (sq (bl (sq (rl (o1 ?_)))));refine o1 ?_;refine aY 27 (65536*rest) ?_
  refine o1 ?_;refine o1 ?_;refine aY 29 (k-1) ?_
  refine o1 ?_;refine cX ([.v (.int .i64 ((nth X (k-1):Nat):Int))]) (fD X (k:=k-1) (by omega)) ?_
  refine o1 ?_;refine aY 32 (65536*rest+(nth X (k-1))) ?_
  refine o1 ?_;refine nl (sq (rl (o1 ?_)));refine o1 ?_;refine aY 34 (k-1) ?_
  (iterate 3 refine o1 ?_);refine aY 37 (d) ?_
  refine o1 ?_ (hC:=(jC d (by omega) (by simp only[jU];omega)))
  refine WL.cast (t:=38) (u':=.int .i64 (((65536*rest+(nth X (k-1)))/d:Nat):Int)) rfl (dN (gI _ d)) ?_;refine o1 ?_
  refine Li (uV (List.replicate k 0++os) (k:=k-1) (v:=(65536*rest+(nth X (k-1)))/d) (by omega)) (yD (List.replicate k 0++os) (by omega)) ?_
  refine nl (rl ?_);(iterate 3 refine o1 ?_);refine aY 42 (d) ?_
  refine o1 ?_ (hC:=(by omega))
  refine WL.cast (t:=43) (u':=.int .i64 (((65536*rest+(nth X (k-1)))%d:Nat):Int)) rfl (dN (lG _ d)) ?_;refine o1 ?_;refine nl (rl ?_);(iterate 3 refine o1 ?_)
  refine nl ?_
  exact⟨(k-1,(65536*rest+nth X (k-1))%d,(65536*rest+nth X (k-1))/d::os),by dsimp only;omega,⟨by dsimp only;omega,Lim.cons (BU hr hn) hol,by dsimp only;rw[List.length_cons];omega,Nat.mod_lt _ (by omega),GG (by omega) hk hv⟩,dC h0 [0] _ _ (by decide) ⟨rfl,rfl,rfl,rfl,vK (by omega),trivial⟩ ⟨aD (congrArg (fun l:List Nat=>some (⟨3,1,(eR l).map .t⟩:Ob)) (NG (by omega))),rfl⟩⟩
 refine ex (sq (rl ?_));have hk0:k=0:=by omega
 subst hk0;obtain⟨e1,e2⟩:=GH hr hv
 rw[hvX]at e1 e2;refine WL.sub (Cc (i:=8) (zs':=os) rfl rfl rfl (by simp;omega) rfl) ?_
 refine o1 ?_;refine nC 1 (zR (by omega) (by assumption)) aA (bC rfl) ?_
 refine o1 ?_;refine o1 ?_;refine AZ 47 rest rfl (by omega) ?_
 (iterate 3 refine o1 ?_);refine nl (rt ?_)
 exact en (.inl rfl) rfl (lD (.cons (.one (.sl (trs:=bF (dg 4294967296 (vl 65536 os))) rfl rfl (cC _) (bT _))) (.cons (bO _) (.cons (bO _) .nil)))) (by decide) (fun _=>⟨.inl ⟨rfl,gW _⟩,trivial,trivial,trivial⟩) (by rw[e1,<-e2];rfl)
theorem NH {u d:Nat}(h:(dg 4294967296 u).length<=1099511627776) (hd0:0<d) (hd:d<4294967296):aE true Tryz.prog 128 [] [.one (.t (sU false (dg 4294967296 u))),.one (tv (.int .u32 ((d:Nat):Int)))] (aP (.tup [.one (.t (sU true (dg 4294967296 (u/d)))),.one (tv (.int .u32 ((u%d:Nat):Int))),.one (tv (.int .i64 0))])):=by
 have h1:=Td h (aU (by omega) u) hd0 hd
 rwa[cL (by omega)]at h1
theorem BV {a:Zi}{k:Int}(ha:Zn a k) (hs:(dg 4294967296 k.natAbs).length<=1000000):aE true Tryz.prog 67 [] [gF a] (aP (.one (tv (.string (aN (eB k)))))):=by
 refine bD Tryz.func67 Tryz.ntmps67 fun N9 w9 c0 h0=>?_
 have hdl:=GI hs
 refine sq (rl (bx 0 ?_));refine o1 ?_;refine nl (sq (rl (ld ?_)));refine ca (iR ha) aA (aM rfl) _ ?_;refine st ?_;refine nl ?_
 refine sq (rl (o1 ?_));refine nl (sq (rl (o1 ?_)));refine ld ?_;refine o1 ?_;refine nl (sq (bl ?_))
 refine lp (γ:=List Nat×Nat) (fun s=>bP [(1,pN 0),(3,.one (tv (.string (aN ((eY s.1).reverse))))),(4,.one (.t (sU false (dg 4294967296 s.2))))]) (fun s=>[(⟨36,0,[tv (.bool (aZ (k))),.t (sU false (dg 4294967296 (k).natAbs))]⟩:Ob)].map some) (fun s=>Lim 10 s.1/\s.1++dg 10 s.2=dg 10 (k).natAbs/\s.2<=(k).natAbs) (fun s=>s.2) ([],(k).natAbs) ⟨Lim.nil,rfl,aX _⟩ (aH h0 [0] ⟨oe rfl rfl,rfl⟩) ?_
 rintro⟨ds,u⟩ ⟨hd,hv,hu⟩;dsimp only at hd hv hu⊢;have hul:=eH hu
 have hdl2:=congrArg List.length hv
 rw[cJ]at hdl2;refine sq (sq (rl ?_));(iterate 3 refine o1 ?_);refine nl ?_;refine aV rfl (fun h1=>?_) (fun h1=>?_)
 ·refine sk (bl (sq ?_));have hup:=zK (B:=4294967296) (u:=u) (by omega)
  have hdp:=qN (B:=10) (n:=u) (by omega) (by omega)
  refine rl (o1 ?_)
  refine ca (NH (u:=u) (d:=10) (by omega) (by omega) (by omega)) aA (cO rfl rfl) _ ?_
  (iterate 7 refine o1 ?_);refine nl (sq (rl (o1 ?_)));refine o1 ?_;refine WL.cast (t:=22) (u':=.int .u32 ((48+(u%10):Nat):Int)) rfl (dN (by omega)) ?_
  refine o1 ?_;refine WL.cast (t:=23) (u':=.int .u8 ((48+(u%10):Nat):Int)) rfl (dN (by omega)) ?_
  refine bs 1 ?_;refine b2s (xs:=[48+(u%10)]) (BA rfl rfl) rfl ?_;refine o1 ?_
  refine o1 ?_ (hC:=(by rw[aO,aO,List.length_reverse,jK];show 1+ds.length<=_;omega))
  refine lZ 27 ((eY (ds++[u%10])).reverse) rfl ((eK _ _).trans (congrArg aN (by simp[eY]))) ?_
  refine o1 ?_;refine nl (rl (o1 ?_));refine o1 ?_;refine nl ?_
  exact⟨(ds++[u%10],u/10),by dsimp only;omega,⟨hd.append (Lim.cons (Nat.mod_lt _ (by omega)) Lim.nil),(by dsimp only;rw[List.append_assoc,<-hv,hdp];rfl),(by dsimp only;omega)⟩,aH h0 [0] ⟨oe rfl rfl,rfl⟩⟩
 refine ex (sq (sq ?_));have hu0:u=0:=(fC (B:=4294967296) (by omega)).1 (List.eq_nil_of_length_eq_zero (by omega))
 rw[hu0,kI,List.append_nil]at hv;refine rl (o1 ?_);refine o1 ?_
 refine fU 30 (decide ((eY ds).reverse=[])) rfl (Br (rU (Dl hd))) ?_;refine nl ?_;refine rH rfl (fun h2=>?_) (fun h2=>?_)
 ·refine sq (rl (o1 ?_));refine nl (rt ?_);have hk0:k=0:=by
   have h9:=congrArg List.length (of_decide_eq_true h2)
   rw[List.length_reverse,jK,hv,List.length_nil]at h9;have h8:=(fC (B:=10) (by omega)).1 (List.eq_nil_of_length_eq_zero h9)
   omega
  subst hk0;exact fW (.inl rfl) rfl (rfl)
 refine sk (sq (sq (rl (o1 ?_))));refine ld ?_;refine nl ?_;refine rH rfl (fun h3=>?_) (fun h3=>?_)
 ·refine sq (rl (o1 ?_));refine o1 ?_ (hC:=(by rw[aO,List.length_reverse,jK];show 1+ds.length<=_;omega))
  refine lZ 34 (45::(eY ds).reverse) rfl (eK [45] _) ?_;refine o1 ?_;refine nl (rt ?_)
  have hk0:(k).natAbs≠0:=fun h9=>by
   rw[h9,kI]at hv;rw[hv]at h2;simp[eY]at h2
  have ht:tx (k).natAbs=(eY ds).reverse:=by unfold tx;rw[if_neg hk0,hv]
  exact fW (.inl rfl) rfl (congrArg aN (by unfold eB;rw[if_pos (BQ h3),ht]))
 refine sk (sq (rl (o1 ?_)));refine o1 ?_;refine nl (rt ?_);have hk0:(k).natAbs≠0:=fun h9=>by
  rw[h9,kI]at hv;rw[hv]at h2;simp[eY]at h2
 have ht:tx (k).natAbs=(eY ds).reverse:=by unfold tx;rw[if_neg hk0,hv]
 exact fW (.inl rfl) rfl (congrArg aN (by unfold eB;rw[if_neg (BR h3),ht]))
end Go.Proofs.YtimiaildfkimfaaGreatDoor
