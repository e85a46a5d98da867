/- Part 13 of a proof: M1 to Lg. -/
import Derived.Test.YtimiaildfkimfaaGreatDoorM11
import Derived.Test.YtimiaildfkimfaaGreatDoorM12
import Derived.Test.YtimiaildfkimfaaGreatDoorM9
import Derived.Test.YtimiaildfkimfaaGreatDoorM8
import Derived.Test.YtimiaildfkimfaaGreatDoorM10
import Derived.Maps.OwnOps
set_option maxRecDepth 100000
set_option linter.unusedVariables false
set_option linter.unusedSimpArgs false
namespace Go.Proofs.YtimiaildfkimfaaGreatDoor
open Go Go.RowKit
def UV (i c:Nat):Prop:=pV c=true\/(i≠0/\((48<=c/\c<=57)\/c=95\/c=45))
theorem NX (c:Nat):pV c=true↔((97<=c/\c<=122)\/(65<=c/\c<=90)):=by simp[pV]
theorem Ig {c:Nat}{b:Bool}(h:b=true↔((97<=c/\c<=122)\/(65<=c/\c<=90))):b=pV c:=Bool.eq_iff_iff.2 (h.trans (NX c).symm)
def Uu (l:List Nat) (k:Nat):Prop:=∀j,j<k->UV j (nth l j)
theorem aCq {l:List Nat}:Uu l 0:=fun _ h=>absurd h (Nat.not_lt_zero _)
theorem Jx {l:List Nat}{k:Nat}(h:Uu l k) (h2:UV k (nth l k)):Uu l (k+1):=fun j hj=>by
 by_cases hk:j=k
 ·rw[hk];exact h2
 exact h j (by omega)
theorem Jy (c:Nat):nmcB c=true↔(pV c=true\/(48<=c/\c<=57)\/c=95\/c=45):=by
 simp[nmcB,or_assoc]
theorem NY (l:List Nat):l.all nmcB=true↔∀j,j<l.length->nmcB (nth l j)=true:=by
 rw[List.all_eq_true]
 constructor
 ·intro h j hj
  exact h _ (by simp[nth,hj])
 intro h x hx
 obtain⟨j,hj,rfl⟩:=List.getElem_of_mem hx
 have h2:=h j hj
 simpa[nth,hj]using h2
theorem Uv (l:List Nat):namB l=true↔0<l.length/\l.length<=32/\Uu l l.length:=by
 unfold namB
 rw[vL]
 simp only[Bool.and_eq_true,decide_eq_true_eq,NY]
 constructor
 ·rintro⟨h1,h2,h3,h4⟩
  refine⟨h1,h2,fun j hj=>?_⟩
  by_cases h0:j=0
  ·exact .inl (by rw[h0];exact h3)
  rcases(Jy _).1 (h4 j hj)with h | h
  ·exact .inl h
  exact .inr ⟨h0,h⟩
 rintro⟨h1,h2,h3⟩
 refine⟨h1,h2,?_,fun j hj=>?_⟩
 ·rcases h3 0 h1 with h | ⟨h,_⟩
  ·exact h
  exact absurd rfl h
 rcases h3 j hj with h | ⟨_,h⟩
 ·exact(Jy _).2 (.inl h)
 exact(Jy _).2 (.inr h)
theorem Jz {l:List Nat}{k:Nat}(hk:k<l.length) (h:¬UV k (nth l k)):false=namB l:=by
 symm
 rw[Bool.eq_false_iff]
 exact fun h2=>h (((Uv l).1 h2).2.2 k hk)
theorem KL {l:List Nat}{b:Bool}(h:Uu l l.length) (h2:b=true↔(0<l.length/\l.length<=32)):b=namB l:=by
 refine Bool.eq_iff_iff.2 (h2.trans ?_)
 rw[Uv]
 exact⟨fun h3=>⟨h3.1,h3.2,h⟩,fun h3=>⟨h3.1,h3.2.1⟩⟩
theorem UW {x y:Int}(h:y≠0):(x.fmod y).natAbs<y.natAbs:=by
 rw[Int.fmod_eq_emod]
 have h1:=Int.emod_nonneg x h
 have h2:=Int.emod_lt_of_pos x (show 0<(y.natAbs:Int) by omega)
 have h3:x%(y.natAbs:Int)=x%y:=by
  rcases Int.natAbs_eq y with h4 | h4
  ·rw[<-h4]
  conv=>rhs;rw[h4,Int.emod_neg]
 split
 ·omega
 rename_i h5
 have h6:¬x%y=0:=fun h7=>h5 (.inr (Int.dvd_of_emod_eq_zero h7))
 omega
theorem NZ {x y:Int}:(dg 4294967296 (if y=0 then 0 else x.fmod y).natAbs).length<=(dg 4294967296 y.natAbs).length:=eH (by
 split
 ·simp
 have:=UW (x:=x) ‹_›
 omega)
theorem Lr {a:Fr4}(ha:a.ok) (h:eC a.s a.x a.t a.y=true):eP a.t a.y=(a.q.den:Int):=by
 obtain⟨p,rfl,hz⟩:=Pn ha h
 rw[Fr4.q_of]
 exact(cY hz).2.2
theorem aAE {a:Fr4}{m:Int}(h:eC a.s a.x a.t a.y=false):false=tX a m:=by rw[tX,h];rfl
theorem aAF {a:Fr4}(ha:a.ok) (h:eC a.s a.x a.t a.y=true):(if eP a.t a.y=0 then(20:Int)else 0)=0:=by
 rw[Lr ha h,if_neg (by have:=a.q.den_pos;omega)]
theorem aAG {a:Fr4}{m:Int}(ha:a.ok) (h:eC a.s a.x a.t a.y=true):decide ((if eP a.t a.y=0 then 0 else m.fmod (eP a.t a.y)).sign=0)=tX a m:=by
 rw[tX,h,Bool.true_and,Lr ha h,if_neg (by have:=a.q.den_pos;omega),sgi]
theorem hH {l:List Nat}(hl:pU l):aE true Tryz.prog 55 [] [.one (tv (.string (aN l)))] (aP (.one (tv (.bool (namB l))))):=by
 refine bD Tryz.func55 Tryz.ntmps55 fun N9 w9 c0 h0=>?_
 have hl9:=hl.2
 refine sq (rl (o1 ?_));refine nl (sq (sq (rl (o1 ?_))));refine nl (bl ?_)
 refine lp (γ:=Nat) (fun k=>bP [(0,.one (tv (.string (aN l)))),(3,iN k)]) (fun k=>([]:List Ob).map some) (fun k=>k<=l.length/\Uu l k) (fun k=>l.length-k) 0 ⟨Nat.zero_le _,aCq⟩ (aH h0 [] rfl) fun k hk=>?_
 refine sq (sq (rl ?_));(iterate 3 refine o1 ?_)
 refine WL.cast (t:=8) (u':=.int .i64 ((l.length:Nat):Int)) rfl (congrArg (fun n:Nat=>Value.int .i64 (n:Int)) (aO _)) ?_
 refine o1 ?_;refine nl ?_;refine aV rfl (fun h1=>?_) (fun h1=>?_)
 ·refine sk (sq (bl (sq (rl (o1 ?_)))));refine o1 ?_;refine o1 ?_ (hC:=(by rw[aO];omega))
  refine WL.cast (t:=14) (u':=.int .u8 (((nth l (k)):Nat):Int)) rfl (congrArg (fun n:Nat=>Value.int .u8 (n:Int)) (jJ (i:=k) (by omega) (fE hl.1 (by omega)))) ?_
  refine o1 ?_;refine nl ?_
  refine md (γ:=Unit) (fun _=>bP [(0,.one (tv (.string (aN l)))),(3,iN k),(4,.one (tv (.int .u8 (((nth l (k)):Nat):Int)))),(5,.one (tv (.bool (pV (nth l (k))))))]) (fun _=>([]:List Ob).map some) (fun _=>True) ?_ fun _ _=>?_
  ·refine rl ?_;(iterate 3 refine o1 ?_);refine WL.split (t:=17) rfl (fun h2=>?_) (fun h2=>?_)
   ·(iterate 4 refine o1 ?_);refine WL.split (t:=21) rfl (fun h3=>?_) (fun h3=>?_)
    ·(iterate 6 refine aW ?_);refine o1 ?_;refine o1 ?_;refine nl ?_
     exact⟨(),trivial,dC h0 [] _ _ (by decide) ⟨rfl,rfl,rfl,Ew (by refine Eq.symm (Ig ?_);simp only[decide_eq_true_eq,Bool.false_eq_true,true_iff,false_iff,iff_true,iff_false,eq_self] <;> omega),trivial⟩ rfl⟩
    (iterate 3 refine o1 ?_);refine WL.split (t:=24) rfl (fun h4=>?_) (fun h4=>?_)
    ·(iterate 5 refine o1 ?_);refine nl ?_
     exact⟨(),trivial,dC h0 [] _ _ (by decide) ⟨rfl,rfl,rfl,Ew (by refine Eq.symm (Ig ?_);simp only[decide_eq_true_eq,Bool.false_eq_true,true_iff,false_iff,iff_true,iff_false,eq_self] <;> omega),trivial⟩ rfl⟩
    refine aW ?_;refine aW ?_;(iterate 3 refine o1 ?_);refine nl ?_
    exact⟨(),trivial,dC h0 [] _ _ (by decide) ⟨rfl,rfl,rfl,Ew (by refine Eq.symm (Ig ?_);simp only[decide_eq_true_eq,Bool.false_eq_true,true_iff,false_iff,iff_true,iff_false,eq_self] <;> omega),trivial⟩ rfl⟩
   refine aW ?_;refine aW ?_;(iterate 5 refine o1 ?_);refine WL.split (t:=24) rfl (fun h5=>?_) (fun h5=>?_)
   ·(iterate 5 refine o1 ?_);refine nl ?_
    exact⟨(),trivial,dC h0 [] _ _ (by decide) ⟨rfl,rfl,rfl,Ew (by refine Eq.symm (Ig ?_);simp only[decide_eq_true_eq,Bool.false_eq_true,true_iff,false_iff,iff_true,iff_false,eq_self] <;> omega),trivial⟩ rfl⟩
   refine aW ?_;refine aW ?_;(iterate 3 refine o1 ?_);refine nl ?_
   exact⟨(),trivial,dC h0 [] _ _ (by decide) ⟨rfl,rfl,rfl,Ew (by refine Eq.symm (Ig ?_);simp only[decide_eq_true_eq,Bool.false_eq_true,true_iff,false_iff,iff_true,iff_false,eq_self] <;> omega),trivial⟩ rfl⟩
  refine sq (rl (o1 ?_));refine WL.splitb (t:=29) rfl (fun h6=>?_) (fun h6=>?_)
  ·refine o1 ?_;refine o1 ?_;(iterate 19 refine aW ?_);refine o1 ?_;refine nl (dY rfl (sk (rl (o1 ?_))));refine o1 ?_
   refine aY 11 (k+1) ?_
   refine o1 ?_;refine nl ?_;exact⟨k+1,by omega,⟨by omega,Jx hk.2 (by first | exact .inl ‹_› | exact .inr ⟨by omega,by omega⟩)⟩,aH h0 [] rfl⟩
  (iterate 5 refine o1 ?_);refine WL.split (t:=34) rfl (fun h7=>?_) (fun h7=>?_)
  ·(iterate 15 refine aW ?_);refine o1 ?_;refine o1 ?_;refine nl (eU rfl (sq (rl (o1 ?_))));refine nl (rt ?_)
   exact cG (.inl rfl) rfl (Jz (k:=k) (by omega) (by rintro(h9 | ⟨h9,h8⟩) <;> first | exact absurd (h9.symm.trans ‹pV _=false›) (by decide) | omega))
  (iterate 3 refine o1 ?_);refine WL.split (t:=37) rfl (fun h8=>?_) (fun h8=>?_)
  ·(iterate 3 refine o1 ?_);refine WL.split (t:=40) rfl (fun h9=>?_) (fun h9=>?_)
   ·refine o1 ?_;refine o1 ?_;refine aW ?_;refine aW ?_;refine o1 ?_;refine o1 ?_;refine aW ?_;refine aW ?_;(iterate 3 refine o1 ?_);refine nl (dY rfl (sk ?_))
    refine rl (o1 ?_);refine o1 ?_;refine aY 11 (k+1) ?_
    refine o1 ?_;refine nl ?_;exact⟨k+1,by omega,⟨by omega,Jx hk.2 (by first | exact .inl ‹_› | exact .inr ⟨by omega,by omega⟩)⟩,aH h0 [] rfl⟩
   (iterate 6 refine o1 ?_);refine WL.split (t:=46) rfl (fun h10=>?_) (fun h10=>?_)
   ·(iterate 5 refine o1 ?_);refine nl ?_;refine aV rfl (fun h11=>?_) (fun h11=>?_)
    ·refine sq (rl (o1 ?_));refine nl (rt ?_)
     exact cG (.inl rfl) rfl (Jz (k:=k) (by omega) (by rintro(h9 | ⟨h9,h8⟩) <;> first | exact absurd (h9.symm.trans ‹pV _=false›) (by decide) | omega))
    refine sk (rl (o1 ?_));refine o1 ?_;refine aY 11 (k+1) ?_
    refine o1 ?_;refine nl ?_
    exact⟨k+1,by omega,⟨by omega,Jx hk.2 (by first | exact .inl ‹_› | exact .inr ⟨by omega,by omega⟩)⟩,aH h0 [] rfl⟩
   refine aW ?_;refine aW ?_;(iterate 3 refine o1 ?_);refine nl (dY rfl (sk (rl (o1 ?_))));refine o1 ?_
   refine aY 11 (k+1) ?_
   refine o1 ?_;refine nl ?_;exact⟨k+1,by omega,⟨by omega,Jx hk.2 (by first | exact .inl ‹_› | exact .inr ⟨by omega,by omega⟩)⟩,aH h0 [] rfl⟩
  refine aW ?_;refine aW ?_;(iterate 7 refine o1 ?_);refine WL.split (t:=46) rfl (fun h12=>?_) (fun h12=>?_)
  ·(iterate 5 refine o1 ?_);refine nl ?_;refine aV rfl (fun h13=>?_) (fun h13=>?_)
   ·refine sq (rl (o1 ?_));refine nl (rt ?_)
    exact cG (.inl rfl) rfl (Jz (k:=k) (by omega) (by rintro(h9 | ⟨h9,h8⟩) <;> first | exact absurd (h9.symm.trans ‹pV _=false›) (by decide) | omega))
   refine sk (rl (o1 ?_));refine o1 ?_;refine aY 11 (k+1) ?_
   refine o1 ?_;refine nl ?_;exact⟨k+1,by omega,⟨by omega,Jx hk.2 (by first | exact .inl ‹_› | exact .inr ⟨by omega,by omega⟩)⟩,aH h0 [] rfl⟩
  refine aW ?_;refine aW ?_;(iterate 3 refine o1 ?_);refine nl (dY rfl (sk (rl (o1 ?_))));refine o1 ?_
  refine aY 11 (k+1) ?_
  refine o1 ?_;refine nl ?_;exact⟨k+1,by omega,⟨by omega,Jx hk.2 (by first | exact .inl ‹_› | exact .inr ⟨by omega,by omega⟩)⟩,aH h0 [] rfl⟩
 refine ex (sq (rl (o1 ?_)));refine o1 ?_
 refine WL.cast (t:=53) (u':=.int .i64 ((l.length:Nat):Int)) rfl (congrArg (fun n:Nat=>Value.int .i64 (n:Int)) (aO _)) ?_
 refine o1 ?_;refine o1 ?_;refine WL.split (t:=55) rfl (fun h14=>?_) (fun h14=>?_)
 ·refine o1 ?_;refine o1 ?_;refine WL.cast (t:=57) (u':=.int .i64 ((l.length:Nat):Int)) rfl (congrArg (fun n:Nat=>Value.int .i64 (n:Int)) (aO _)) ?_
  (iterate 3 refine o1 ?_);refine nl (rt ?_);have hkn:k=l.length:=by omega
  subst hkn;exact cG (.inl rfl) rfl (KL hk.2 (by simp only[decide_eq_true_eq,Bool.false_eq_true,true_iff,false_iff,iff_true,iff_false,eq_self] <;> omega))
 (iterate 3 refine aW ?_);refine o1 ?_;refine o1 ?_;refine nl (rt ?_);have hkn:k=l.length:=by omega
 subst hkn;exact cG (.inl rfl) rfl (KL hk.2 (by simp only[decide_eq_true_eq,Bool.false_eq_true,true_iff,false_iff,iff_true,iff_false,eq_self] <;> omega))
theorem Ka {a:Fr4}{m:Int}(ha:a.ok) (hm1:-9223372036854775808<=m) (hm2:m<=9223372036854775807):aE true Tryz.prog 171 [] [qF a,.one (tv (.int .i64 m))] (aP (.one (tv (.bool (tX a m))))):=by
 refine bD Tryz.func171 Tryz.ntmps171 fun N9 w9 c0 h0=>?_
 have hq:Qn a a.q:=⟨ha,rfl⟩
 refine sq (rl (bx 0 ?_));refine o1 ?_;refine nl ?_
 refine md (γ:=Unit) (fun _=>bP [(2,pN 0),(6,pN 1),(7,.one (tv (.int .i64 (if eP a.t a.y=0 then 20 else 0))))]) (fun _=>([⟨38,0,(a.tr false).map .t⟩,⟨36,0,[tv (.bool (aZ ((if eP a.t a.y=0 then 0 else m.fmod (eP a.t a.y))))),.t (sU false (dg 4294967296 ((if eP a.t a.y=0 then 0 else m.fmod (eP a.t a.y))).natAbs))]⟩]:List Ob).map some) (fun _=>True) ?_ fun _ _=>?_
 ·refine bU [0] [13] ?_
  refine dv 0 ?_;refine dv 2 ?_;refine aF 3 ?_;refine wK 1 9 10 ?_ ?_ ?_
  ·refine dE 1 rfl (jA (n:=m) hm1 hm2) aA (bC rfl) _ ?_;refine wK 4 9 10 ?_ ?_ ?_
   ·refine dE 4 rfl (iI (Zn.of (k:=m) (eS hm1 hm2)) (lT hq)) aA (bN rfl rfl) _ ?_
    refine df 5 ?_;refine df 6 ?_;refine df 7 ?_;refine df 8 ?_;refine dD 9 10 ?_ ?_
    ·refine bQ 1 9 ?_;refine eE 2 10 ?_
     refine aT 11 ?_
     refine aT 12 ?_
     refine bM 13 ?_
     refine aJ ?_;exact⟨(),trivial,aH h0 [0,2] ⟨oe rfl rfl,oe rfl rfl,rfl⟩⟩
    refine bQ 1 10 ?_;refine eE 2 9 ?_
    refine aT 11 ?_
    refine aT 12 ?_
    refine bM 13 ?_
    refine aJ ?_;exact⟨(),trivial,aH h0 [0,1] ⟨oe rfl rfl,oe rfl rfl,rfl⟩⟩
   ·refine bQ 1 9 ?_;refine dD 4 10 ?_ ?_
    ·refine dE 4 rfl (iI (Zn.of (k:=m) (eS hm1 hm2)) (lT hq)) aA (bN rfl rfl) _ ?_
     refine df 5 ?_;refine df 6 ?_;refine df 7 ?_;refine df 8 ?_;refine eE 2 10 ?_
     refine aT 11 ?_
     refine aT 12 ?_
     refine bM 13 ?_
     refine aJ ?_;exact⟨(),trivial,aH h0 [0,2] ⟨oe rfl rfl,oe rfl rfl,rfl⟩⟩
    refine bQ 2 10 ?_
    refine aG 4 rfl (iI (Zn.of (k:=m) (eS hm1 hm2)) (lT hq)) aA (bN rfl rfl) _ ?_
    refine df 5 ?_;refine df 6 ?_;refine df 7 ?_;refine df 8 ?_;refine aT 11 ?_
    refine aT 12 ?_
    refine bM 13 ?_
    refine aJ ?_;exact⟨(),trivial,aH h0 [0,2] ⟨oe rfl rfl,oe rfl rfl,rfl⟩⟩
   refine bQ 1 10 ?_;refine dD 4 9 ?_ ?_
   ·refine dE 4 rfl (iI (Zn.of (k:=m) (eS hm1 hm2)) (lT hq)) aA (bN rfl rfl) _ ?_
    refine df 5 ?_;refine df 6 ?_;refine df 7 ?_;refine df 8 ?_;refine eE 2 9 ?_
    refine aT 11 ?_
    refine aT 12 ?_
    refine bM 13 ?_
    refine aJ ?_;exact⟨(),trivial,aH h0 [0,1] ⟨oe rfl rfl,oe rfl rfl,rfl⟩⟩
   refine bQ 2 9 ?_
   refine aG 4 rfl (iI (Zn.of (k:=m) (eS hm1 hm2)) (lT hq)) aA (bN rfl rfl) _ ?_
   refine df 5 ?_;refine df 6 ?_;refine df 7 ?_;refine df 8 ?_;refine aT 11 ?_
   refine aT 12 ?_
   refine bM 13 ?_
   refine aJ ?_;exact⟨(),trivial,aH h0 [0,1] ⟨oe rfl rfl,oe rfl rfl,rfl⟩⟩
  ·refine bQ 1 9 ?_;refine dD 1 10 ?_ ?_
   ·refine dE 1 rfl (jA (n:=m) hm1 hm2) aA (bC rfl) _ ?_;refine dD 4 10 ?_ ?_
    ·refine dE 4 rfl (iI (Zn.of (k:=m) (eS hm1 hm2)) (lT hq)) aA (bN rfl rfl) _ ?_
     refine df 5 ?_;refine df 6 ?_;refine df 7 ?_;refine df 8 ?_;refine eE 2 10 ?_
     refine aT 11 ?_
     refine aT 12 ?_
     refine bM 13 ?_
     refine aJ ?_;exact⟨(),trivial,aH h0 [0,2] ⟨oe rfl rfl,oe rfl rfl,rfl⟩⟩
    refine bQ 2 10 ?_
    refine aG 4 rfl (iI (Zn.of (k:=m) (eS hm1 hm2)) (lT hq)) aA (bN rfl rfl) _ ?_
    refine df 5 ?_;refine df 6 ?_;refine df 7 ?_;refine df 8 ?_;refine aT 11 ?_
    refine aT 12 ?_
    refine bM 13 ?_
    refine aJ ?_;exact⟨(),trivial,aH h0 [0,2] ⟨oe rfl rfl,oe rfl rfl,rfl⟩⟩
   refine bQ 2 10 ?_;refine aG 1 rfl (jA (n:=m) hm1 hm2) aA (bC rfl) _ ?_
   refine aG 4 rfl (iI (Zn.of (k:=m) (eS hm1 hm2)) (lT hq)) aA (bN rfl rfl) _ ?_
   refine df 5 ?_;refine df 6 ?_;refine df 7 ?_;refine df 8 ?_;refine aT 11 ?_
   refine aT 12 ?_
   refine bM 13 ?_
   refine aJ ?_;exact⟨(),trivial,aH h0 [0,2] ⟨oe rfl rfl,oe rfl rfl,rfl⟩⟩
  refine bQ 1 10 ?_;refine dD 1 9 ?_ ?_
  ·refine dE 1 rfl (jA (n:=m) hm1 hm2) aA (bC rfl) _ ?_;refine dD 4 9 ?_ ?_
   ·refine dE 4 rfl (iI (Zn.of (k:=m) (eS hm1 hm2)) (lT hq)) aA (bN rfl rfl) _ ?_
    refine df 5 ?_;refine df 6 ?_;refine df 7 ?_;refine df 8 ?_;refine eE 2 9 ?_
    refine aT 11 ?_
    refine aT 12 ?_
    refine bM 13 ?_
    refine aJ ?_;exact⟨(),trivial,aH h0 [0,1] ⟨oe rfl rfl,oe rfl rfl,rfl⟩⟩
   refine bQ 2 9 ?_
   refine aG 4 rfl (iI (Zn.of (k:=m) (eS hm1 hm2)) (lT hq)) aA (bN rfl rfl) _ ?_
   refine df 5 ?_;refine df 6 ?_;refine df 7 ?_;refine df 8 ?_;refine aT 11 ?_
   refine aT 12 ?_
   refine bM 13 ?_
   refine aJ ?_;exact⟨(),trivial,aH h0 [0,1] ⟨oe rfl rfl,oe rfl rfl,rfl⟩⟩
  refine bQ 2 9 ?_;refine aG 1 rfl (jA (n:=m) hm1 hm2) aA (bC rfl) _ ?_
  refine aG 4 rfl (iI (Zn.of (k:=m) (eS hm1 hm2)) (lT hq)) aA (bN rfl rfl) _ ?_
  refine df 5 ?_;refine df 6 ?_;refine df 7 ?_;refine df 8 ?_;refine aT 11 ?_
  refine aT 12 ?_
  refine bM 13 ?_
  refine aJ ?_;exact⟨(),trivial,aH h0 [0,1] ⟨oe rfl rfl,oe rfl rfl,rfl⟩⟩
 refine sq (rl (ld ?_));refine ca (Fp hq) aA (aM rfl) _ ?_;refine o1 ?_
 refine WL.splitb (t:=19) rfl (fun h1=>?_) (fun h1=>?_)
 ·(iterate 4 refine o1 ?_);refine WL.split (t:=23) rfl (fun h2=>?_) (fun h2=>?_)
  ·refine ld ?_
   refine ca (nK (Zn.of (k:=(if eP a.t a.y=0 then 0 else m.fmod (eP a.t a.y))) (Nat.le_trans NZ (lT hq).len))) aA (aM rfl) _ ?_
   (iterate 3 refine o1 ?_);refine nl (rt ?_);exact cG (.inl rfl) rfl (aAG ha h1)
  (iterate 3 refine aW ?_);refine o1 ?_;refine o1 ?_;refine nl (rt ?_);exact absurd (aAF ha h1) h2
 refine aW ?_;refine aW ?_;refine o1 ?_;refine o1 ?_;(iterate 3 refine aW ?_);refine o1 ?_;refine o1 ?_;refine nl (rt ?_);exact cG (.inl rfl) rfl (aAE h1)
theorem KM {p q:Rat}:decide ((p-q).num.sign<0)=decide (p<q):=by
 refine decide_eq_decide.2 ?_
 rw[pL]
 split
 ·simp;grind
 split <;> simp <;> grind
theorem gS {a:Fr4}(ha:Ok6 a):aE true Tryz.prog 113 [] [qF a] (aP (.one (tv (.bool (rX a))))):=by
 refine bD Tryz.func113 Tryz.ntmps113 fun N9 w9 c0 h0=>?_
 have hq:Qn a a.q:=ha.qn
 have hq4:Sz 17179869184 a.q:=ha.sz.mono (by omega)
 have hst0:Sz 2 ((1000000000000000:Int):Rat):=cU (z:=1000000000000000) (by omega) (by omega)
 have hst:Sz 68719476736 ((1000000000000000:Int):Rat):=hst0.mono (by omega)
 have hst4:Sz 17179869184 ((1000000000000000:Int):Rat):=hst0.mono (by omega)
 have hs4:Sz 68719476736 topQ:=(lM hst0 hst0).mono (by omega)
 have hs44:Sz 17179869184 topQ:=(lM hst0 hst0).mono (by omega)
 have hn:Sz 68719476736 (-a.q):=tH (ha.sz.mono (by omega))
 have hn4:Sz 17179869184 (-a.q):=tH hq4
 refine sq (rl (bx 0 ?_));refine o1 ?_;refine nl (sq (rl ?_))
 refine ca (jP (n:=1000000000000000) (by omega) (by omega)) aA (bC rfl) _ ?_
 refine al 1 ?_;refine st ?_;refine nl (sq (rl (ld ?_)));refine ld ?_
 refine ca (Cb (Qn.of hst) (Qn.of hst) hst4 hst4) aA (bN rfl rfl) _ ?_;refine st ?_;refine nl (sq ?_);refine bU [0,1] [15] ?_
 refine aF 0 ?_;refine aG 1 rfl (Ka (m:=100) ha.ok (by omega) (by omega)) aA ⟨nD rfl,a1 rfl,rfl⟩ _ ?_
 refine df 2 ?_;refine WD.splitb (t:=10) rfl (fun h1=>?_) (fun h1=>?_)
 ·refine aF 3 ?_;refine aF 4 ?_;refine aG 5 rfl (vM hq (Qn.of hs4) hq4 hs44) aA (bN rfl rfl) _ ?_;refine df 6 ?_
  refine qR 14 (decide (a.q<topQ)) rfl KM ?_;refine df 7 ?_;refine df 8 ?_;refine WD.splitb (t:=16) rfl (fun h2=>?_) (fun h2=>?_)
  ·refine aF 9 ?_;refine aF 11 ?_;refine aG 10 rfl (Ca hq) aA (aM rfl) _ ?_
   refine aG 12 rfl (vM (Qn.of hn) (Qn.of hs4) hn4 hs44) aA (bN rfl rfl) _ ?_;refine df 13 ?_
   refine qR 21 (decide (-a.q<topQ)) rfl KM ?_;refine df 14 ?_
   refine bM 15 ?_
   refine aJ ?_;refine rt ?_
   exact cG (.inl rfl) rfl (by unfold rX;simp only[h1,h2,cP,cQ] <;> first | rfl | grind)
  refine cF 9 ?_;refine cF 11 ?_;refine cF 10 ?_;refine cF 12 ?_;refine cF 13 ?_;refine df 14 ?_
  refine bM 15 ?_
  refine aJ ?_;refine rt ?_
  exact cG (.inl rfl) rfl (by unfold rX;simp only[h1,h2,cP,cQ] <;> first | rfl | grind)
 refine cF 3 ?_;refine cF 4 ?_;refine cF 5 ?_;refine cF 6 ?_;refine df 7 ?_;refine df 8 ?_;refine cF 9 ?_;refine cF 11 ?_;refine cF 10 ?_;refine cF 12 ?_;refine cF 13 ?_
 refine df 14 ?_;refine bM 15 ?_
 refine aJ ?_;refine rt ?_
 exact cG (.inl rfl) rfl (by unfold rX;simp only[h1,cP,cQ] <;> first | rfl | grind)
theorem mV {a:Fr4}(ha:Ok6 a):aE true Tryz.prog 112 [] [qF a] (aP (.one (tv (.bool (oX a))))):=by
 refine bD Tryz.func112 Tryz.ntmps112 fun N9 w9 c0 h0=>?_
 have hq:Qn a a.q:=ha.qn
 have hq4:Sz 17179869184 a.q:=ha.sz.mono (by omega)
 have hs1:Sz 68719476736 ((1:Int):Rat):=(cU (z:=1) (by omega) (by omega)).mono (by omega)
 have hs14:Sz 17179869184 ((1:Int):Rat):=(cU (z:=1) (by omega) (by omega)).mono (by omega)
 refine sq (rl (bx 0 ?_));refine o1 ?_;refine nl (sq ?_);refine bU [0] [13] ?_
 refine aF 0 ?_;refine aG 1 rfl (Ka (m:=1000000) ha.ok (by omega) (by omega)) aA ⟨nD rfl,a1 rfl,rfl⟩ _ ?_
 refine df 2 ?_;refine WD.splitb (t:=5) rfl (fun h1=>?_) (fun h1=>?_)
 ·refine aF 3 ?_;refine aG 4 rfl (uU hq) aA (aM rfl) _ ?_;refine df 5 ?_
  refine qR 8 (decide (0<=a.q)) rfl No ?_;refine df 6 ?_;refine df 7 ?_;refine WD.splitb (t:=10) rfl (fun h2=>?_) (fun h2=>?_)
  ·refine aF 8 ?_;refine aG 9 rfl (jP (n:=1) (by omega) (by omega)) aA (bC rfl) _ ?_
   refine aG 10 rfl (vM hq (Qn.of hs1) hq4 hs14) aA (bN rfl rfl) _ ?_;refine df 11 ?_
   refine qR 14 (decide (a.q<=1)) rfl Np ?_;refine df 12 ?_
   refine bM 13 ?_
   refine aJ ?_;refine rt ?_
   exact cG (.inl rfl) rfl (by unfold oX;simp only[h1,h2,cP,cQ] <;> first | rfl | grind)
  refine cF 8 ?_;refine cF 9 ?_;refine cF 10 ?_;refine cF 11 ?_;refine df 12 ?_;refine bM 13 ?_
  refine aJ ?_;refine rt ?_
  exact cG (.inl rfl) rfl (by unfold oX;simp only[h1,h2,cP,cQ] <;> first | rfl | grind)
 refine cF 3 ?_;refine cF 4 ?_;refine cF 5 ?_;refine df 6 ?_;refine df 7 ?_;refine cF 8 ?_;refine cF 9 ?_;refine cF 10 ?_;refine cF 11 ?_;refine df 12 ?_
 refine bM 13 ?_
 refine aJ ?_;refine rt ?_
 exact cG (.inl rfl) rfl (by unfold oX;simp only[h1,cP,cQ] <;> first | rfl | grind)
theorem OA {x:It}(hx:OkI x):aE true Tryz.prog 114 [] [.agg ((nP x).map .t)] (aP (.one (tv (.bool (clB x))))):=by
 refine bD Tryz.func114 Tryz.ntmps114 fun N9 w9 c0 h0=>?_
 have hq:Qn x.p x.p.q:=hx.p.qn
 have hq4:Sz 17179869184 x.p.q:=hx.p.sz.mono (by omega)
 have hs1:Sz 68719476736 ((40:Int):Rat):=(cU (z:=40) (by omega) (by omega)).mono (by omega)
 have hs14:Sz 17179869184 ((40:Int):Rat):=(cU (z:=40) (by omega) (by omega)).mono (by omega)
 refine sq (rl (bx 0 ?_));refine o1 ?_;refine nl (sq (sq (rl (o1 ?_))));refine ld ?_
 refine ca (hH hx.s.lim) aA (bC rfl) _ ?_;refine WL.splitb (t:=5) rfl (fun h1=>?_) (fun h1=>?_)
 ·(iterate 3 refine o1 ?_);refine ld ?_;(iterate 3 refine o1 ?_);refine WL.split (t:=12) rfl (fun h2=>?_) (fun h2=>?_)
  ·(iterate 3 refine aW ?_);refine o1 ?_;refine nl (eU rfl (sq (rl (o1 ?_))));refine nl (rt ?_)
   exact cG (.inl rfl) rfl (by unfold clB;simp only[h1,decide_eq_true h2,cP,cQ] <;> first | rfl | grind)
  refine o1 ?_;refine ld ?_;refine o1 ?_;refine o1 ?_;refine nl ?_;refine aV rfl (fun h3=>?_) (fun h3=>?_)
  ·refine sq (rl (o1 ?_));refine nl (rt ?_)
   exact cG (.inl rfl) rfl (by unfold clB;simp only[h1,decide_eq_false h2,decide_eq_true h3,cP,cQ] <;> first | rfl | grind)
  refine sk (sq (sq (rl (o1 ?_))));refine ld ?_;refine nl (bl (sq (rl (o1 ?_))));refine o1 ?_;refine nl ?_
  refine aV rfl (fun h4=>?_) (fun h4=>?_)
  ·refine sq (rl (o1 ?_));refine ld ?_;refine ca (mV hx.p) aA (aM rfl) _ ?_;refine o1 ?_;refine nl (rt ?_)
   exact cG (.inl rfl) rfl (by unfold clB;simp only[h1,decide_eq_false h2,decide_eq_false h3,decide_eq_true h4,cP,cQ] <;> first | rfl | grind)
  refine sq (rl (o1 ?_));refine o1 ?_;refine nl ?_;refine aV rfl (fun h5=>?_) (fun h5=>?_)
  ·refine sq (rl (o1 ?_));refine ld ?_;refine ca (gS hx.p) aA (aM rfl) _ ?_;refine o1 ?_;refine nl (rt ?_)
   exact cG (.inl rfl) rfl (by unfold clB;simp only[h1,decide_eq_false h2,decide_eq_false h3,decide_eq_false h4,decide_eq_true h5,cP,cQ] <;> first | rfl | grind)
  refine sq (rl (o1 ?_));refine o1 ?_;refine nl ?_;refine aV rfl (fun h6=>?_) (fun h6=>?_)
  ·refine sq ?_;refine bU [0] [16] ?_
   refine dv 0 ?_;refine aF 1 ?_;refine aG 2 rfl (Ka (m:=1) hx.p.ok (by omega) (by omega)) aA ⟨nD rfl,a1 rfl,rfl⟩ _ ?_
   refine df 3 ?_;refine WD.splitb (t:=34) rfl (fun h7=>?_) (fun h7=>?_)
   ·refine dv 4 ?_;refine aF 5 ?_;refine aG 6 rfl (uU hq) aA (aM rfl) _ ?_;refine df 7 ?_
    refine qR 38 (decide (0<=x.p.q)) rfl No ?_;refine df 8 ?_;refine df 9 ?_
    refine WD.splitb (t:=40) rfl (fun h8=>?_) (fun h8=>?_)
    ·refine dv 10 ?_;refine aF 11 ?_;refine aG 12 rfl (jP (n:=40) (by omega) (by omega)) aA (bC rfl) _ ?_
     refine aG 13 rfl (vM hq (Qn.of hs1) hq4 hs14) aA (bN rfl rfl) _ ?_;refine df 14 ?_
     refine qR 45 (decide (x.p.q<=40)) rfl Np ?_;refine df 15 ?_
     refine bM 16 ?_
     refine aJ ?_;refine rt ?_
     exact cG (.inl rfl) rfl (by unfold clB;simp only[h1,decide_eq_false h2,decide_eq_false h3,decide_eq_false h4,decide_eq_false h5,decide_eq_true h6,h7,h8,cP,cQ] <;> first | rfl | grind)
    refine cF 10 ?_;refine cF 11 ?_;refine cF 12 ?_;refine cF 13 ?_;refine cF 14 ?_;refine df 15 ?_
    refine bM 16 ?_
    refine aJ ?_;refine rt ?_
    exact cG (.inl rfl) rfl (by unfold clB;simp only[h1,decide_eq_false h2,decide_eq_false h3,decide_eq_false h4,decide_eq_false h5,decide_eq_true h6,h7,h8,cP,cQ] <;> first | rfl | grind)
   refine cF 4 ?_;refine cF 5 ?_;refine cF 6 ?_;refine cF 7 ?_;refine df 8 ?_;refine df 9 ?_;refine cF 10 ?_;refine cF 11 ?_;refine cF 12 ?_;refine cF 13 ?_
   refine cF 14 ?_;refine df 15 ?_;refine bM 16 ?_
   refine aJ ?_;refine rt ?_
   exact cG (.inl rfl) rfl (by unfold clB;simp only[h1,decide_eq_false h2,decide_eq_false h3,decide_eq_false h4,decide_eq_false h5,decide_eq_true h6,h7,cP,cQ] <;> first | rfl | grind)
  refine sk (sq (rl (o1 ?_)));refine ld ?_;refine ca (Fp hq) aA (aM rfl) _ ?_;refine o1 ?_
  refine WL.splitb (t:=50) rfl (fun h9=>?_) (fun h9=>?_)
  ·refine o1 ?_;refine ld ?_;refine ca (uU hq) aA (aM rfl) _ ?_;refine o1 ?_
   refine fU 54 (decide (x.p.q=0)) rfl JZ ?_;refine o1 ?_;refine o1 ?_;refine nl (rt ?_)
   exact cG (.inl rfl) rfl (by unfold clB;simp only[h1,decide_eq_false h2,decide_eq_false h3,decide_eq_false h4,decide_eq_false h5,decide_eq_false h6,h9,cP,cQ] <;> first | rfl | grind)
  (iterate 4 refine aW ?_);refine o1 ?_;refine o1 ?_;refine nl (rt ?_)
  exact cG (.inl rfl) rfl (by unfold clB;simp only[h1,decide_eq_false h2,decide_eq_false h3,decide_eq_false h4,decide_eq_false h5,decide_eq_false h6,h9,cP,cQ] <;> first | rfl | grind)
 refine o1 ?_;refine o1 ?_;(iterate 3 refine aW ?_);refine o1 ?_;refine o1 ?_;(iterate 3 refine aW ?_);refine o1 ?_;refine nl (eU rfl (sq (rl (o1 ?_))))
 refine nl (rt ?_)
 exact cG (.inl rfl) rfl (by unfold clB;simp only[h1,cP,cQ] <;> first | rfl | grind)
def gA (f:Fil) (p:Nat):List Bool:=if p=2 then f.br.map brB else if p=4 then f.cl.map clB else if p=5 then f.en.map namB else if p=6 then f.ys.map yrB else []
def iA (y:Yer) (p:Nat):List Bool:=if p=7 then y.h.map hlB else if p=8 then y.b.map bkB else if p=9 then y.d.map dlB else if p=10 then y.s.map stB else if p=11 then y.o.map soB else []
theorem mX {α:Type}{d:α}{r:α->Bool}{l:List α}{i:Nat}(h:i<l.length):jD (l.map r) i=r (l.getD i d):=by simp[jD,h]
def Ey (bs:List Bool):Nat:=(bs.takeWhile id).length
def CA (bs:List Bool) (k:Nat):Prop:=∀j,j<k->jD bs j=true
theorem aAH {bs:List Bool}:CA bs 0:=fun _ h=>absurd h (Nat.not_lt_zero _)
theorem aAI {bs:List Bool}{k:Nat}(h:CA bs k) (h2:jD bs k=true):CA bs (k+1):=fun j hj=>by
 by_cases hk:j=k
 ·rw[hk];exact h2
 exact h j (by omega)
theorem Qa:∀{bs:List Bool}{k:Nat},k<=bs.length->CA bs k->(k=bs.length\/jD bs k=false)->Ey bs=k
 | [],k,hk,_,_=>by
  have:k=0:=by simpa using hk
  rw[this]
  rfl
 | b::bs,0,_,_,h=>by
  have hb:b=false:=by
   rcases h with h | h
   ·simp at h
   exact h
  rw[hb]
  rfl
 | b::bs,k+1,hk,h,h2=>by
  have hb:b=true:=h 0 (by omega)
  rw[hb]
  have h3:Ey bs=k:=Qa (by simpa using hk) (fun j hj=>h (j+1) (by omega)) (by
   rcases h2 with h2 | h2
   ·exact .inl (by simpa using h2)
   exact .inr h2)
  show(List.takeWhile id (true::bs)).length=k+1
  rw[List.takeWhile_cons_of_pos rfl,List.length_cons]
  exact congrArg (· +1) h3
theorem Uw:∀{bs:List Bool}{m:Nat},bs.length<=m->dK m id bs=if Ey bs<bs.length then 2 else 0
 | [],m,_=>by simp[dK]
 | b::bs,0,h=>by simp at h
 | true::bs,m+1,h=>by
  have h3:=Uw (bs:=bs) (m:=m) (by simpa using h)
  show dK m id bs=_
  have h4:Ey (true::bs)=Ey bs+1:=by
   show(List.takeWhile id (true::bs)).length=_
   rw[List.takeWhile_cons_of_pos rfl,List.length_cons]
   rfl
  rw[h3,h4,List.length_cons]
  split <;> split <;> first | rfl | omega
 | false::bs,m+1,h=>by
  have h4:Ey (false::bs)=0:=rfl
  rw[h4,List.length_cons,if_pos (by omega)]
  rfl
theorem nL {α:Type}{r:α->Bool}:∀{l:List α}{m:Nat},dK m id (l.map r)=dK m r l
 | [],_=>by simp[dK]
 | x::l,0=>rfl
 | x::l,m+1=>by
  show(if id (r x)=true then dK m id (l.map r)else 2)=if r x=true then dK m r l else 2
  rw[nL (l:=l) (m:=m)]
  rfl
theorem Ls {f:Fil}(hf:OkF f):aE true Tryz.prog 56 [] [.agg ((cZ true f).map .t)] (aP (.one (tv (.int .i64 ((Ey (gM f):Nat):Int))))):=by
 refine bD Tryz.func56 Tryz.ntmps56 fun N9 w9 c0 h0=>?_
 refine sq (rl (bx 0 ?_));refine o1 ?_;refine nl ?_
 refine md (γ:=Unit) (fun _=>bP [(3,.one (.sl 0 0 (7)))]) (fun _=>([⟨4,1,((gM f).map fun b=>.v (.bool b)).map .t⟩]:List Ob).map some) (fun _=>True) ?_ fun _ _=>?_
 ·refine bU [0] [37] ?_
  refine dv 0 ?_;refine aF 1 ?_;refine dv 3 ?_;refine aF 4 ?_;refine dv 6 ?_;refine aF 7 ?_;refine dv 9 ?_;refine aF 10 ?_;refine dv 11 ?_;refine dv 17 ?_;refine aF 18 ?_
  refine dv 19 ?_;refine dv 25 ?_;refine aF 26 ?_;refine dv 27 ?_;refine dv 33 ?_;refine aF 34 ?_;refine aG 2 rfl (mV hf.th) aA (aM rfl) _ ?_
  refine aG 5 rfl (mV hf.cp) aA (aM rfl) _ ?_;refine aG 8 rfl (mV hf.it) aA (aM rfl) _ ?_
  refine dv 12 ?_;refine WD.split (t:=17) rfl rfl (fun h1=>?_) (fun h1=>?_)
  ·refine dv 13 ?_;refine aF 14 ?_;refine dv 15 ?_;refine dv 16 ?_;refine dv 20 ?_;refine WD.split (t:=25) rfl rfl (fun h2=>?_) (fun h2=>?_)
   ·refine dv 21 ?_;refine aF 22 ?_;refine dv 23 ?_;refine dv 24 ?_;refine dv 28 ?_;refine WD.split (t:=33) rfl rfl (fun h3=>?_) (fun h3=>?_)
    ·refine dv 29 ?_;refine aF 30 ?_;refine dv 31 ?_;refine dv 32 ?_;refine aG 35 rfl (gS hf.fl) aA (aM rfl) _ ?_
     refine dA (key:=1) 36 (by kernel_rfl) rfl rfl aR rfl ⟨rfl,trivial⟩ ?_
     refine bM 37 ?_
     refine aJ ?_
     exact⟨(),trivial,aH h0 [1] ⟨oe rfl (by simp only[gM,wO,List.map_cons,List.map_nil,decide_eq_true h1,decide_eq_true h2,decide_eq_true h3,cP,cQ] <;> rfl),rfl⟩⟩
    refine cF 29 ?_;refine cF 30 ?_;refine cF 31 ?_;refine dv 32 ?_;refine aG 35 rfl (gS hf.fl) aA (aM rfl) _ ?_
    refine dA (key:=1) 36 (by kernel_rfl) rfl rfl aR rfl ⟨rfl,trivial⟩ ?_
    refine bM 37 ?_
    refine aJ ?_
    exact⟨(),trivial,aH h0 [1] ⟨oe rfl (by simp only[gM,wO,List.map_cons,List.map_nil,decide_eq_true h1,decide_eq_true h2,decide_eq_false h3,cP,cQ] <;> rfl),rfl⟩⟩
   refine cF 21 ?_;refine cF 22 ?_;refine cF 23 ?_;refine dv 24 ?_;refine dv 28 ?_;refine WD.split (t:=33) rfl rfl (fun h4=>?_) (fun h4=>?_)
   ·refine dv 29 ?_;refine aF 30 ?_;refine dv 31 ?_;refine dv 32 ?_;refine aG 35 rfl (gS hf.fl) aA (aM rfl) _ ?_
    refine dA (key:=1) 36 (by kernel_rfl) rfl rfl aR rfl ⟨rfl,trivial⟩ ?_
    refine bM 37 ?_
    refine aJ ?_
    exact⟨(),trivial,aH h0 [1] ⟨oe rfl (by simp only[gM,wO,List.map_cons,List.map_nil,decide_eq_true h1,decide_eq_false h2,decide_eq_true h4,cP,cQ] <;> rfl),rfl⟩⟩
   refine cF 29 ?_;refine cF 30 ?_;refine cF 31 ?_;refine dv 32 ?_;refine aG 35 rfl (gS hf.fl) aA (aM rfl) _ ?_
   refine dA (key:=1) 36 (by kernel_rfl) rfl rfl aR rfl ⟨rfl,trivial⟩ ?_
   refine bM 37 ?_
   refine aJ ?_
   exact⟨(),trivial,aH h0 [1] ⟨oe rfl (by simp only[gM,wO,List.map_cons,List.map_nil,decide_eq_true h1,decide_eq_false h2,decide_eq_false h4,cP,cQ] <;> rfl),rfl⟩⟩
  refine cF 13 ?_;refine cF 14 ?_;refine cF 15 ?_;refine dv 16 ?_;refine dv 20 ?_;refine WD.split (t:=25) rfl rfl (fun h5=>?_) (fun h5=>?_)
  ·refine dv 21 ?_;refine aF 22 ?_;refine dv 23 ?_;refine dv 24 ?_;refine dv 28 ?_;refine WD.split (t:=33) rfl rfl (fun h6=>?_) (fun h6=>?_)
   ·refine dv 29 ?_;refine aF 30 ?_;refine dv 31 ?_;refine dv 32 ?_;refine aG 35 rfl (gS hf.fl) aA (aM rfl) _ ?_
    refine dA (key:=1) 36 (by kernel_rfl) rfl rfl aR rfl ⟨rfl,trivial⟩ ?_
    refine bM 37 ?_
    refine aJ ?_
    exact⟨(),trivial,aH h0 [1] ⟨oe rfl (by simp only[gM,wO,List.map_cons,List.map_nil,decide_eq_false h1,decide_eq_true h5,decide_eq_true h6,cP,cQ] <;> rfl),rfl⟩⟩
   refine cF 29 ?_;refine cF 30 ?_;refine cF 31 ?_;refine dv 32 ?_;refine aG 35 rfl (gS hf.fl) aA (aM rfl) _ ?_
   refine dA (key:=1) 36 (by kernel_rfl) rfl rfl aR rfl ⟨rfl,trivial⟩ ?_
   refine bM 37 ?_
   refine aJ ?_
   exact⟨(),trivial,aH h0 [1] ⟨oe rfl (by simp only[gM,wO,List.map_cons,List.map_nil,decide_eq_false h1,decide_eq_true h5,decide_eq_false h6,cP,cQ] <;> rfl),rfl⟩⟩
  refine cF 21 ?_;refine cF 22 ?_;refine cF 23 ?_;refine dv 24 ?_;refine dv 28 ?_;refine WD.split (t:=33) rfl rfl (fun h7=>?_) (fun h7=>?_)
  ·refine dv 29 ?_;refine aF 30 ?_;refine dv 31 ?_;refine dv 32 ?_;refine aG 35 rfl (gS hf.fl) aA (aM rfl) _ ?_
   refine dA (key:=1) 36 (by kernel_rfl) rfl rfl aR rfl ⟨rfl,trivial⟩ ?_
   refine bM 37 ?_
   refine aJ ?_
   exact⟨(),trivial,aH h0 [1] ⟨oe rfl (by simp only[gM,wO,List.map_cons,List.map_nil,decide_eq_false h1,decide_eq_false h5,decide_eq_true h7,cP,cQ] <;> rfl),rfl⟩⟩
  refine cF 29 ?_;refine cF 30 ?_;refine cF 31 ?_;refine dv 32 ?_;refine aG 35 rfl (gS hf.fl) aA (aM rfl) _ ?_
  refine dA (key:=1) 36 (by kernel_rfl) rfl rfl aR rfl ⟨rfl,trivial⟩ ?_
  refine bM 37 ?_
  refine aJ ?_
  exact⟨(),trivial,aH h0 [1] ⟨oe rfl (by simp only[gM,wO,List.map_cons,List.map_nil,decide_eq_false h1,decide_eq_false h5,decide_eq_false h7,cP,cQ] <;> rfl),rfl⟩⟩
 refine sq (sq ?_);refine WP.sub (wG (i:=3) (k:=0) (t:=4) (z:=1) (n:=7) (l:=(gM f).map fun b=>.v (.bool b)) 4 rfl rfl rfl rfl (.one .sl)) ?_
 refine rl (o1 ?_);refine nl (bl ?_)
 refine lp (γ:=Nat) (fun k=>bP [(3,.one (.t (TQ (gM f)))),(4,iN k)]) (fun k=>([]:List Ob).map some) (fun k=>k<=7/\CA (gM f) k) (fun k=>7-k) 0 ⟨Nat.zero_le _,aAH⟩ (aH h0 [] rfl) fun k hk=>?_
 have hk7:k<7->k<(gM f).length:=fun h=>h
 refine sq (sq (rl (o1 ?_)));refine o1 ?_;refine nl ?_;refine aV rfl (fun h8=>?_) (fun h8=>?_)
 ·refine sk (sq (bl (sq (rl ?_))));(iterate 3 refine o1 ?_);refine cX ([.v (.bool (jD (gM f) (k)))]) (BO (gM f) (k:=k) (by omega)) ?_
  refine WL.splitb (t:=49) rfl (fun h9=>?_) (fun h9=>?_)
  ·refine o1 ?_;refine nl (dY rfl (sk (rl (o1 ?_))));refine o1 ?_;refine aY 45 (k+1) ?_
   refine o1 ?_;refine nl ?_;exact⟨k+1,by omega,⟨by omega,aAI hk.2 h9⟩,aH h0 [] rfl⟩
  refine o1 ?_;refine nl (eU rfl (sq (rl (o1 ?_))));refine o1 ?_;refine nl (rt ?_)
  exact Ho (.inl rfl) rfl (congrArg Nat.cast (Qa (k:=k) (Nat.le_of_lt (hk7 (by omega))) hk.2 (.inr h9)).symm)
 refine ex (sq (rl (o1 ?_)));refine nl (rt ?_);have hkn:k=7:=by omega
 subst hkn
 exact Ho (.inl rfl) rfl (congrArg Nat.cast (Qa (bs:=gM f) (k:=7) (aX 7) hk.2 (.inl rfl)).symm)
theorem KN {f:Fil}{p i:Nat}(hf:OkF f) (hp:p=2\/p=4\/p=5\/p=6) (hi:i<(gA f p).length):aE true Tryz.prog 57 [] [.agg ((cZ true f).map .t),.one (tv (.int .i64 ((p:Nat):Int))),.one (tv (.int .i64 ((i:Nat):Int)))] (aP (.one (tv (.bool (jD (gA f p) i))))):=by
 refine bD Tryz.func57 Tryz.ntmps57 fun N9 w9 c0 h0=>?_
 refine sq (rl (bx 0 ?_));refine o1 ?_;refine nl (sq (sq (rl (o1 ?_))));refine nl (bl (sq (rl (o1 ?_))))
 refine o1 ?_;refine nl ?_;refine aV rfl (fun h1=>?_) (fun h1=>?_)
 ·refine sq ?_;have hR:gA f p=f.br.map brB:=by rw[show p=2 by omega];rfl
  have hi2:i<f.br.length:=by rw[hR,dP]at hi;exact hi
  have hM:brB (aB f.br i)=jD (gA f p) i:=by rw[hR];exact(mX (l:=f.br) hi2).symm
  have hE:=hf.br _ (aS (l:=f.br) hi2)
  refine rl (o1 ?_);refine ld ?_;(iterate 3 refine o1 ?_)
  refine cX ((aB f.br (i)).p.tr false) (cM 8 0 gQ (aI (by omega)) rfl) ?_
  refine ca (gS hE.p) aA (aM rfl) _ ?_;refine o1 ?_;refine WL.splitb (t:=17) rfl (fun h2=>?_) (fun h2=>?_)
  ·refine o1 ?_;refine ld ?_;(iterate 3 refine o1 ?_)
   refine cX ((aB f.br (i)).q.tr false) (cM 8 4 gQ (aI (by omega)) rfl) ?_
   refine ca (mV hE.q) aA (aM rfl) _ ?_;refine o1 ?_;refine o1 ?_;refine nl (rt ?_)
   exact cG (.inl rfl) rfl (by refine Eq.trans ?_ hM;first | rfl | (unfold brB;simp only[decide_eq_true h1,h2,cP,cQ] <;> first | rfl | grind) | (unfold yrB;simp only[decide_eq_true h1,h2,cP,cQ] <;> first | rfl | grind))
  (iterate 7 refine aW ?_);refine o1 ?_;refine o1 ?_;refine nl (rt ?_)
  exact cG (.inl rfl) rfl (by refine Eq.trans ?_ hM;first | rfl | (unfold brB;simp only[decide_eq_true h1,h2,cP,cQ] <;> first | rfl | grind) | (unfold yrB;simp only[decide_eq_true h1,h2,cP,cQ] <;> first | rfl | grind))
 refine sq (rl (o1 ?_));refine o1 ?_;refine nl ?_;refine aV rfl (fun h3=>?_) (fun h3=>?_)
 ·refine sq ?_;have hR:gA f p=f.cl.map clB:=by rw[show p=4 by omega];rfl
  have hi2:i<f.cl.length:=by rw[hR,dP]at hi;exact hi
  have hM:clB (aB f.cl i)=jD (gA f p) i:=by rw[hR];exact(mX (l:=f.cl) hi2).symm
  have hE:=hf.cl _ (aS (l:=f.cl) hi2)
  refine rl (o1 ?_);refine ld ?_;refine o1 ?_;refine o1 ?_
  refine cX (nP (aB f.cl (i))) (cM 6 0 iH (aI (by omega)) rfl) ?_
  refine ca (OA hE) aA (aM rfl) _ ?_;refine o1 ?_;refine nl (rt ?_)
  exact cG (.inl rfl) rfl (by refine Eq.trans ?_ hM;first | rfl | (unfold brB;simp only[decide_eq_false h1,decide_eq_true h3,cP,cQ] <;> first | rfl | grind) | (unfold yrB;simp only[decide_eq_false h1,decide_eq_true h3,cP,cQ] <;> first | rfl | grind))
 refine sq (rl (o1 ?_));refine o1 ?_;refine nl ?_;refine aV rfl (fun h4=>?_) (fun h4=>?_)
 ·refine sq ?_;have hR:gA f p=f.en.map namB:=by rw[show p=5 by omega];rfl
  have hi2:i<f.en.length:=by rw[hR,dP]at hi;exact hi
  have hM:namB (eQ f.en i)=jD (gA f p) i:=by rw[hR];exact(mX (l:=f.en) hi2).symm
  have hE:=hf.en _ (rZ (l:=f.en) hi2)
  refine rl (o1 ?_);refine ld ?_;refine o1 ?_;refine o1 ?_;refine cX ([sT (eQ f.en (i))]) (nF f.en (k:=i) (by omega)) ?_
  refine ca (hH hE.lim) aA (bC rfl) _ ?_;refine o1 ?_;refine nl (rt ?_)
  exact cG (.inl rfl) rfl (by refine Eq.trans ?_ hM;first | rfl | (unfold brB;simp only[decide_eq_false h1,decide_eq_false h3,decide_eq_true h4,cP,cQ] <;> first | rfl | grind) | (unfold yrB;simp only[decide_eq_false h1,decide_eq_false h3,decide_eq_true h4,cP,cQ] <;> first | rfl | grind))
 refine sk (sq ?_);have hR:gA f p=f.ys.map yrB:=by rw[show p=6 by omega];rfl
 have hi2:i<f.ys.length:=by rw[hR,dP]at hi;exact hi
 have hM:yrB (aC f.ys i)=jD (gA f p) i:=by rw[hR];exact(mX (l:=f.ys) hi2).symm
 refine rl (o1 ?_);refine ld ?_;(iterate 3 refine o1 ?_)
 refine cX ([.v (.int .i64 (aC f.ys (i)).n)]) (cM 6 0 (gE true) (fZ (by omega)) rfl) ?_
 refine o1 ?_;refine o1 ?_;refine WL.split (t:=49) rfl (fun h5=>?_) (fun h5=>?_)
 ·refine o1 ?_;refine ld ?_;(iterate 3 refine o1 ?_)
  refine cX ([.v (.int .i64 (aC f.ys (i)).n)]) (cM 6 0 (gE true) (fZ (by omega)) rfl) ?_
  (iterate 3 refine o1 ?_);refine nl (rt ?_)
  exact cG (.inl rfl) rfl (by refine Eq.trans ?_ hM;first | rfl | (unfold brB;simp only[decide_eq_false h1,decide_eq_false h3,decide_eq_false h4,decide_eq_true h5,cP,cQ] <;> first | rfl | grind) | (unfold yrB;simp only[decide_eq_false h1,decide_eq_false h3,decide_eq_false h4,decide_eq_true h5,cP,cQ] <;> first | rfl | grind))
 (iterate 7 refine aW ?_);refine o1 ?_;refine o1 ?_;refine nl (rt ?_)
 exact cG (.inl rfl) rfl (by refine Eq.trans ?_ hM;first | rfl | (unfold brB;simp only[decide_eq_false h1,decide_eq_false h3,decide_eq_false h4,decide_eq_false h5,cP,cQ] <;> first | rfl | grind) | (unfold yrB;simp only[decide_eq_false h1,decide_eq_false h3,decide_eq_false h4,decide_eq_false h5,cP,cQ] <;> first | rfl | grind))
theorem UX {y:Yer}{p i:Nat}(hy:OkY y) (hp:7<=p/\p<=11) (hi:i<(iA y p).length):aE true Tryz.prog 58 [] [.agg ((cV true y).map .t),.one (tv (.int .i64 ((p:Nat):Int))),.one (tv (.int .i64 ((i:Nat):Int)))] (aP (.one (tv (.bool (jD (iA y p) i))))):=by
 refine bD Tryz.func58 Tryz.ntmps58 fun N9 w9 c0 h0=>?_
 refine sq (rl (bx 0 ?_));refine o1 ?_;refine nl (sq (sq (rl (o1 ?_))));refine nl (bl (sq (rl (o1 ?_))))
 refine o1 ?_;refine nl ?_;refine aV rfl (fun h1=>?_) (fun h1=>?_)
 ·refine sq ?_;have hR:iA y p=y.h.map hlB:=by rw[show p=7 by omega];rfl
  have hi2:i<y.h.length:=by rw[hR,dP]at hi;exact hi
  have hM:hlB (aB y.h i)=jD (iA y p) i:=by rw[hR];exact(mX (l:=y.h) hi2).symm
  have hE:=hy.h _ (aS (l:=y.h) hi2)
  refine rl (o1 ?_);refine ld ?_;(iterate 3 refine o1 ?_)
  refine cX ([sT (aB y.h (i)).s]) (cM 6 0 dF (aI (by omega)) rfl) ?_
  refine ca (hH hE.s.lim) aA (bC rfl) _ ?_;refine o1 ?_;refine WL.splitb (t:=18) rfl (fun h2=>?_) (fun h2=>?_)
  ·refine o1 ?_;refine ld ?_;(iterate 3 refine o1 ?_)
   refine cX ([sT (aB y.h (i)).t]) (cM 6 1 dF (aI (by omega)) rfl) ?_
   refine ca (hH hE.t.lim) aA (bC rfl) _ ?_;refine o1 ?_;refine o1 ?_;refine WL.splitb (t:=27) rfl (fun h3=>?_) (fun h3=>?_)
   ·refine o1 ?_;refine ld ?_;(iterate 3 refine o1 ?_)
    refine cX ((aB y.h (i)).p.tr false) (cM 6 2 dF (aI (by omega)) rfl) ?_
    refine ca (mV hE.p) aA (aM rfl) _ ?_;refine o1 ?_;refine o1 ?_;refine nl (rt ?_)
    exact cG (.inl rfl) rfl (by refine Eq.trans ?_ hM;unfold hlB;simp only[decide_eq_true h1,h2,h3,cP,cQ] <;> first | rfl | grind)
   (iterate 7 refine aW ?_);refine o1 ?_;refine o1 ?_;refine nl (rt ?_)
   exact cG (.inl rfl) rfl (by refine Eq.trans ?_ hM;unfold hlB;simp only[decide_eq_true h1,h2,h3,cP,cQ] <;> first | rfl | grind)
  (iterate 7 refine aW ?_);refine o1 ?_;refine o1 ?_;(iterate 7 refine aW ?_);refine o1 ?_;refine o1 ?_;refine nl (rt ?_)
  exact cG (.inl rfl) rfl (by refine Eq.trans ?_ hM;unfold hlB;simp only[decide_eq_true h1,h2,cP,cQ] <;> first | rfl | grind)
 refine sq (rl (o1 ?_));refine o1 ?_;refine nl ?_;refine aV rfl (fun h4=>?_) (fun h4=>?_)
 ·refine sq ?_;have hR:iA y p=y.b.map bkB:=by rw[show p=8 by omega];rfl
  have hi2:i<y.b.length:=by rw[hR,dP]at hi;exact hi
  have hM:bkB (aB y.b i)=jD (iA y p) i:=by rw[hR];exact(mX (l:=y.b) hi2).symm
  have hE:=hy.b _ (aS (l:=y.b) hi2)
  refine rl (o1 ?_);refine ld ?_;(iterate 3 refine o1 ?_)
  refine cX ([sT (aB y.b (i)).s]) (cM 6 0 dF (aI (by omega)) rfl) ?_
  refine ca (hH hE.s.lim) aA (bC rfl) _ ?_;refine o1 ?_;refine WL.splitb (t:=45) rfl (fun h5=>?_) (fun h5=>?_)
  ·refine o1 ?_;refine ld ?_;(iterate 3 refine o1 ?_)
   refine cX ([sT (aB y.b (i)).t]) (cM 6 1 dF (aI (by omega)) rfl) ?_
   refine ca (hH hE.t.lim) aA (bC rfl) _ ?_;refine o1 ?_;refine o1 ?_;refine WL.splitb (t:=54) rfl (fun h6=>?_) (fun h6=>?_)
   ·refine o1 ?_;refine ld ?_;(iterate 3 refine o1 ?_)
    refine cX ((aB y.b (i)).p.tr false) (cM 6 2 dF (aI (by omega)) rfl) ?_
    refine ca (gS hE.p) aA (aM rfl) _ ?_;refine o1 ?_;refine o1 ?_;refine nl (rt ?_)
    exact cG (.inl rfl) rfl (by refine Eq.trans ?_ hM;unfold bkB;simp only[decide_eq_false h1,decide_eq_true h4,h5,h6,cP,cQ] <;> first | rfl | grind)
   (iterate 7 refine aW ?_);refine o1 ?_;refine o1 ?_;refine nl (rt ?_)
   exact cG (.inl rfl) rfl (by refine Eq.trans ?_ hM;unfold bkB;simp only[decide_eq_false h1,decide_eq_true h4,h5,h6,cP,cQ] <;> first | rfl | grind)
  (iterate 7 refine aW ?_);refine o1 ?_;refine o1 ?_;(iterate 7 refine aW ?_);refine o1 ?_;refine o1 ?_;refine nl (rt ?_)
  exact cG (.inl rfl) rfl (by refine Eq.trans ?_ hM;unfold bkB;simp only[decide_eq_false h1,decide_eq_true h4,h5,cP,cQ] <;> first | rfl | grind)
 refine sq (rl (o1 ?_));refine o1 ?_;refine nl ?_;refine aV rfl (fun h7=>?_) (fun h7=>?_)
 ·refine sq ?_;have hR:iA y p=y.d.map dlB:=by rw[show p=9 by omega];rfl
  have hi2:i<y.d.length:=by rw[hR,dP]at hi;exact hi
  have hM:dlB (aB y.d i)=jD (iA y p) i:=by rw[hR];exact(mX (l:=y.d) hi2).symm
  have hE:=hy.d _ (aS (l:=y.d) hi2)
  refine rl (o1 ?_);refine ld ?_;refine o1 ?_;refine o1 ?_
  refine cX (kP (aB y.d (i))) (cM 10 0 lH (aI (by omega)) rfl) ?_
  refine al 1 ?_;refine st ?_;refine nl (sq (rl (o1 ?_)));refine ld ?_
  refine ca (hH hE.s.lim) aA (bC rfl) _ ?_;refine o1 ?_;refine WL.splitb (t:=73) rfl (fun h8=>?_) (fun h8=>?_)
  ·refine o1 ?_;refine ld ?_;(iterate 3 refine o1 ?_);refine WL.split (t:=78) rfl (fun h9=>?_) (fun h9=>?_)
   ·refine o1 ?_;refine ld ?_;(iterate 3 refine o1 ?_);refine WL.split (t:=83) rfl (fun h10=>?_) (fun h10=>?_)
    ·refine o1 ?_;refine ld ?_;refine ca (hH hE.t.lim) aA (bC rfl) _ ?_;refine o1 ?_;refine o1 ?_
     refine WL.splitb (t:=88) rfl (fun h11=>?_) (fun h11=>?_)
     ·refine o1 ?_;refine ld ?_;refine ca (hH hE.u.lim) aA (bC rfl) _ ?_;refine o1 ?_;refine o1 ?_
      refine WL.splitb (t:=93) rfl (fun h12=>?_) (fun h12=>?_)
      ·refine o1 ?_;refine ld ?_;refine ca (hH hE.v.lim) aA (bC rfl) _ ?_;refine o1 ?_;refine o1 ?_
       refine WL.splitb (t:=98) rfl (fun h13=>?_) (fun h13=>?_)
       ·refine o1 ?_;refine ld ?_;refine ca (gS hE.p) aA (aM rfl) _ ?_;refine o1 ?_;refine o1 ?_;refine nl (rt ?_)
        exact cG (.inl rfl) rfl (by refine Eq.trans ?_ hM;unfold dlB;simp only[decide_eq_false h1,decide_eq_false h4,decide_eq_true h7,h8,decide_eq_true h9,decide_eq_true h10,h11,h12,h13,cP,cQ] <;> first | rfl | grind)
       (iterate 3 refine aW ?_);refine o1 ?_;refine o1 ?_;refine nl (rt ?_)
       exact cG (.inl rfl) rfl (by refine Eq.trans ?_ hM;unfold dlB;simp only[decide_eq_false h1,decide_eq_false h4,decide_eq_true h7,h8,decide_eq_true h9,decide_eq_true h10,h11,h12,h13,cP,cQ] <;> first | rfl | grind)
      (iterate 3 refine aW ?_);refine o1 ?_;refine o1 ?_;(iterate 3 refine aW ?_);refine o1 ?_;refine o1 ?_;refine nl (rt ?_)
      exact cG (.inl rfl) rfl (by refine Eq.trans ?_ hM;unfold dlB;simp only[decide_eq_false h1,decide_eq_false h4,decide_eq_true h7,h8,decide_eq_true h9,decide_eq_true h10,h11,h12,cP,cQ] <;> first | rfl | grind)
     (iterate 3 refine aW ?_);refine o1 ?_;refine o1 ?_;(iterate 3 refine aW ?_);refine o1 ?_;refine o1 ?_;(iterate 3 refine aW ?_);refine o1 ?_;refine o1 ?_;refine nl ?_
     refine rt ?_
     exact cG (.inl rfl) rfl (by refine Eq.trans ?_ hM;unfold dlB;simp only[decide_eq_false h1,decide_eq_false h4,decide_eq_true h7,h8,decide_eq_true h9,decide_eq_true h10,h11,cP,cQ] <;> first | rfl | grind)
    (iterate 3 refine aW ?_);refine o1 ?_;refine o1 ?_;(iterate 3 refine aW ?_);refine o1 ?_;refine o1 ?_;(iterate 3 refine aW ?_);refine o1 ?_;refine o1 ?_
    (iterate 3 refine aW ?_);refine o1 ?_;refine o1 ?_;refine nl (rt ?_)
    exact cG (.inl rfl) rfl (by refine Eq.trans ?_ hM;unfold dlB;simp only[decide_eq_false h1,decide_eq_false h4,decide_eq_true h7,h8,decide_eq_true h9,decide_eq_false h10,cP,cQ] <;> first | rfl | grind)
   (iterate 3 refine aW ?_);refine o1 ?_;refine o1 ?_;(iterate 3 refine aW ?_);refine o1 ?_;refine o1 ?_;(iterate 3 refine aW ?_);refine o1 ?_;refine o1 ?_
   (iterate 3 refine aW ?_);refine o1 ?_;refine o1 ?_;(iterate 3 refine aW ?_);refine o1 ?_;refine o1 ?_;refine nl (rt ?_)
   exact cG (.inl rfl) rfl (by refine Eq.trans ?_ hM;unfold dlB;simp only[decide_eq_false h1,decide_eq_false h4,decide_eq_true h7,h8,decide_eq_false h9,cP,cQ] <;> first | rfl | grind)
  (iterate 3 refine aW ?_);refine o1 ?_;refine o1 ?_;(iterate 3 refine aW ?_);refine o1 ?_;refine o1 ?_;(iterate 3 refine aW ?_);refine o1 ?_;refine o1 ?_;(iterate 3 refine aW ?_)
  refine o1 ?_;refine o1 ?_;(iterate 3 refine aW ?_);refine o1 ?_;refine o1 ?_;(iterate 3 refine aW ?_);refine o1 ?_;refine o1 ?_;refine nl (rt ?_)
  exact cG (.inl rfl) rfl (by refine Eq.trans ?_ hM;unfold dlB;simp only[decide_eq_false h1,decide_eq_false h4,decide_eq_true h7,h8,cP,cQ] <;> first | rfl | grind)
 refine sq (rl (o1 ?_));refine o1 ?_;refine nl ?_;refine aV rfl (fun h14=>?_) (fun h14=>?_)
 ·refine sq ?_;have hR:iA y p=y.s.map stB:=by rw[show p=10 by omega];rfl
  have hi2:i<y.s.length:=by rw[hR,dP]at hi;exact hi
  have hM:stB (aB y.s i)=jD (iA y p) i:=by rw[hR];exact(mX (l:=y.s) hi2).symm
  have hE:=hy.s _ (aS (l:=y.s) hi2)
  refine rl (o1 ?_);refine ld ?_;(iterate 3 refine o1 ?_)
  refine cX ([sT (aB y.s (i)).s]) (cM 9 0 fI (aI (by omega)) rfl) ?_
  refine ca (hH hE.s.lim) aA (bC rfl) _ ?_;refine o1 ?_;refine WL.splitb (t:=112) rfl (fun h15=>?_) (fun h15=>?_)
  ·refine o1 ?_;refine ld ?_;(iterate 3 refine o1 ?_)
   refine cX ((aB y.s (i)).p.tr false) (cM 9 1 fI (aI (by omega)) rfl) ?_
   refine ca (gS hE.p) aA (aM rfl) _ ?_;refine o1 ?_;refine o1 ?_;refine WL.splitb (t:=121) rfl (fun h16=>?_) (fun h16=>?_)
   ·refine o1 ?_;refine ld ?_;(iterate 3 refine o1 ?_)
    refine cX ((aB y.s (i)).q.tr false) (cM 9 5 fI (aI (by omega)) rfl) ?_
    refine ca (mV hE.q) aA (aM rfl) _ ?_;refine o1 ?_;refine o1 ?_;refine nl (rt ?_)
    exact cG (.inl rfl) rfl (by refine Eq.trans ?_ hM;unfold stB;simp only[decide_eq_false h1,decide_eq_false h4,decide_eq_false h7,decide_eq_true h14,h15,h16,cP,cQ] <;> first | rfl | grind)
   (iterate 7 refine aW ?_);refine o1 ?_;refine o1 ?_;refine nl (rt ?_)
   exact cG (.inl rfl) rfl (by refine Eq.trans ?_ hM;unfold stB;simp only[decide_eq_false h1,decide_eq_false h4,decide_eq_false h7,decide_eq_true h14,h15,h16,cP,cQ] <;> first | rfl | grind)
  (iterate 7 refine aW ?_);refine o1 ?_;refine o1 ?_;(iterate 7 refine aW ?_);refine o1 ?_;refine o1 ?_;refine nl (rt ?_)
  exact cG (.inl rfl) rfl (by refine Eq.trans ?_ hM;unfold stB;simp only[decide_eq_false h1,decide_eq_false h4,decide_eq_false h7,decide_eq_true h14,h15,cP,cQ] <;> first | rfl | grind)
 refine sk (sq ?_);have hR:iA y p=y.o.map soB:=by rw[show p=11 by omega];rfl
 have hi2:i<y.o.length:=by rw[hR,dP]at hi;exact hi
 have hM:soB (aB y.o i)=jD (iA y p) i:=by rw[hR];exact(mX (l:=y.o) hi2).symm
 have hE:=hy.o _ (aS (l:=y.o) hi2)
 refine rl (o1 ?_);refine ld ?_;(iterate 3 refine o1 ?_)
 refine cX ([sT (aB y.o (i)).s]) (cM 5 0 gR (aI (by omega)) rfl) ?_
 refine ca (hH hE.s.lim) aA (bC rfl) _ ?_;refine o1 ?_;refine WL.splitb (t:=137) rfl (fun h17=>?_) (fun h17=>?_)
 ·refine o1 ?_;refine ld ?_;(iterate 3 refine o1 ?_)
  refine cX ((aB y.o (i)).p.tr false) (cM 5 1 gR (aI (by omega)) rfl) ?_
  refine ca (mV hE.p) aA (aM rfl) _ ?_;refine o1 ?_;refine o1 ?_;refine nl (rt ?_)
  exact cG (.inl rfl) rfl (by refine Eq.trans ?_ hM;unfold soB;simp only[decide_eq_false h1,decide_eq_false h4,decide_eq_false h7,decide_eq_false h14,h17,cP,cQ] <;> first | rfl | grind)
 (iterate 7 refine aW ?_);refine o1 ?_;refine o1 ?_;refine nl (rt ?_)
 exact cG (.inl rfl) rfl (by refine Eq.trans ?_ hM;unfold soB;simp only[decide_eq_false h1,decide_eq_false h4,decide_eq_false h7,decide_eq_false h14,h17,cP,cQ] <;> first | rfl | grind)
def Be (f:Fil):List Nat:=[0,0,f.br.length,0,f.cl.length,f.en.length,f.ys.length]
def rJ:List Nat:=[0,0,16,0,64,256,40]
def Lu (y:Yer):List Nat:=[0,0,0,0,0,0,0,y.h.length,y.b.length,y.d.length,y.s.length,y.o.length]
theorem p5 {p:Nat}(h1:2<=p) (h2:p<=6):p=2\/p=3\/p=4\/p=5\/p=6:=by omega
theorem p5y {p:Nat}(h1:7<=p) (h2:p<=11):p=7\/p=8\/p=9\/p=10\/p=11:=by omega
theorem UY {f:Fil}{p:Nat}(h1:2<=p) (h2:p<=6):nth (Be f) p=(gA f p).length:=by
 rcases p5 h1 h2 with rfl | rfl | rfl | rfl | rfl <;> simp[gA,Be,nth]
theorem UZ {y:Yer}{p:Nat}(h1:7<=p) (h2:p<=11):nth (Lu y) p=(iA y p).length:=by
 rcases p5y h1 h2 with rfl | rfl | rfl | rfl | rfl <;> simp[iA,Lu,nth]
theorem VA {f:Fil}(hf:OkF f) (p:Nat):(gA f p).length<=260:=by
 have h1:=hf.brl
 have h2:=hf.cll
 have h3:=hf.enl
 have h4:=hf.ysl
 unfold gA
 split <;> (try split) <;> (try split) <;> (try split) <;> simp <;> omega
theorem VB {y:Yer}(hy:OkY y) (p:Nat):(iA y p).length<=40:=by
 have h1:=hy.hl
 have h2:=hy.bl
 have h3:=hy.dl
 have h4:=hy.sl
 have h5:=hy.ol
 unfold iA
 split <;> (try split) <;> (try split) <;> (try split) <;> (try split) <;> simp <;> omega
theorem Yf {f:Fil}{p i:Nat}(h:i<(gA f p).length):p=2\/p=4\/p=5\/p=6:=by
 unfold gA at h
 split at h
 ·omega
 split at h
 ·omega
 split at h
 ·omega
 split at h
 ·omega
 simp at h
def Qb (f:Fil) (p:Nat):Nat:=nth (fX (gJ f)) (p-1)
def VC (y:Yer) (p:Nat):Nat:=nth (fX (nQ y)) (p-7)
theorem KO (f:Fil):Qb f 3=if Ey (gM f)<7 then 2 else 0:=Uw (bs:=gM f) (m:=7) (aX 7)
theorem Yg {f:Fil}{p:Nat}(h:p=2\/p=4\/p=5\/p=6):Qb f p=dK (nth rJ p) id (gA f p):=by
 rcases h with rfl | rfl | rfl | rfl
 ·exact nL.symm
 ·exact nL.symm
 ·exact nL.symm
 exact nL.symm
theorem Yh {y:Yer}{p:Nat}(h1:7<=p) (h2:p<=11):VC y p=dK 4096 id (iA y p):=by
 rcases p5y h1 h2 with rfl | rfl | rfl | rfl | rfl
 ·exact nL.symm
 ·exact nL.symm
 ·exact nL.symm
 ·exact nL.symm
 exact nL.symm
theorem Qc {f:Fil}{p:Nat}(h1:2<=p) (h2:p<=6) (h:jL (fX (gJ f)) (p-1)) (hn:Qb f p≠0):iS f=Qb f p:=by
 have e:=oK (l:=fX (gJ f)) (k:=p-1) (show p-1<6 by omega) h hn
 exact(Do (by rw[e];exact hn)).trans e
theorem OB {f:Fil}{p:Nat}(h1:2<=p) (h2:p<=6) (h:jL (fX (gJ f)) (p-1)) (hn:Qb f p=0):jL (fX (gJ f)) (p+1-1):=by
 have e:=zV (l:=fX (gJ f)) (k:=p-1) (show p-1<6 by omega) h hn
 rwa[show p-1+1=p+1-1 by omega]at e
theorem KP {f:Fil}{p:Nat}(h1:2<=p) (h2:p<=6) (h3:p=3->¬Ey (gM f)<7) (hw:mA (nth rJ p) id (gA f p) (gA f p).length):Qb f p=0:=by
 by_cases h:p=3
 ·rw[h,KO,if_neg (h3 h)]
 rw[Yg (by omega)]
 exact nI hw
theorem CB {f:Fil}{p i:Nat}(h1:2<=p) (h2:p<=6) (h:jL (fX (gJ f)) (p-1)) (hi:i<(gA f p).length) (hw:mA (nth rJ p) id (gA f p) i) (e:i=nth rJ p):iS f=3:=by
 have h9:=(nG hi hw e).1
 rw[<-Yg (Yf hi)]at h9
 rw[Qc h1 h2 h (by omega),h9]
theorem CC {f:Fil}{p i:Nat}(h1:2<=p) (h2:p<=6) (h:jL (fX (gJ f)) (p-1)) (hi:i<(gA f p).length) (hw:mA (nth rJ p) id (gA f p) i) (hm:i≠nth rJ p) (hb:jD (gA f p) i=false):iS f=2:=by
 have h9:=(nH (d:=false) hi hw hm hb).1
 rw[<-Yg (Yf hi)]at h9
 rw[Qc h1 h2 h (by omega),h9]
theorem VD {f:Fil}(h:jL (fX (gJ f)) (3-1)) (h3:Ey (gM f)<7):iS f=2:=by
 have h9:=KO f
 rw[if_pos h3]at h9
 rw[Qc (p:=3) (by omega) (by omega) h (by omega),h9]
theorem aAJ {f:Fil}(h:namB f.nm=false):iS f=2:=by
 have h9:nth (fX (gJ f)) 0=2:=by show dK 2 namB [f.nm,f.pa]=2;simp[dK,h]
 have e:=oK (l:=fX (gJ f)) (k:=0) (show 0<6 by omega) wP (by omega)
 rw[(Do (by omega)).trans e,h9]
theorem aAK {f:Fil}(h1:namB f.nm=true) (h:namB f.pa=false):iS f=2:=by
 have h9:nth (fX (gJ f)) 0=2:=by show dK 2 namB [f.nm,f.pa]=2;simp[dK,h,h1]
 have e:=oK (l:=fX (gJ f)) (k:=0) (show 0<6 by omega) wP (by omega)
 rw[(Do (by omega)).trans e,h9]
theorem aAL {f:Fil}(h1:namB f.nm=true) (h:namB f.pa=true):jL (fX (gJ f)) 1:=
 zV (l:=fX (gJ f)) (k:=0) (show 0<6 by omega) wP (by show dK 2 namB [f.nm,f.pa]=0;simp[dK,h,h1])
theorem aAM {f:Fil}(h:jL (fX (gJ f)) 6):jZ (fX (gJ f))=0:=uW (l:=fX (gJ f)) h
theorem Qd {l:List Yer}{i:Nat}(h:i<l.length):nth (l.map kR) i=kR (aC l i):=by simp[nth,aC,h]
theorem CD {f:Fil}{k p:Nat}(h0:jZ (fX (gJ f))=0) (hk:k<f.ys.length) (hok:jL (f.ys.map kR) k) (h1:7<=p) (h2:p<=11) (h:jL (fX (nQ (aC f.ys k))) (p-7)) (hn:VC (aC f.ys k) p≠0):iS f=VC (aC f.ys k) p:=by
 have e:=oK (l:=fX (nQ (aC f.ys k))) (k:=p-7) (show p-7<5 by omega) h hn
 rw[Yi]at e
 have e2:=oK (l:=f.ys.map kR) (k:=k) (by rw[dP];exact hk) hok (by rw[Qd hk,e];exact hn)
 rw[Dp h0,e2,Qd hk,e]
 rfl
theorem VE {f:Fil}{k p i:Nat}(h0:jZ (fX (gJ f))=0) (hk:k<f.ys.length) (hok:jL (f.ys.map kR) k) (h1:7<=p) (h2:p<=11) (h:jL (fX (nQ (aC f.ys k))) (p-7)) (hi:i<(iA (aC f.ys k) p).length) (hw:mA 4096 id (iA (aC f.ys k) p) i) (e:i=4096):iS f=3:=by
 have h9:=(nG hi hw e).1
 rw[<-Yh h1 h2]at h9
 rw[CD h0 hk hok h1 h2 h (by omega),h9]
theorem VF {f:Fil}{k p i:Nat}(h0:jZ (fX (gJ f))=0) (hk:k<f.ys.length) (hok:jL (f.ys.map kR) k) (h1:7<=p) (h2:p<=11) (h:jL (fX (nQ (aC f.ys k))) (p-7)) (hi:i<(iA (aC f.ys k) p).length) (hw:mA 4096 id (iA (aC f.ys k) p) i) (hm:i≠4096) (hb:jD (iA (aC f.ys k) p) i=false):iS f=2:=by
 have h9:=(nH (d:=false) hi hw hm hb).1
 rw[<-Yh h1 h2]at h9
 rw[CD h0 hk hok h1 h2 h (by omega),h9]
theorem OC {y:Yer}{p:Nat}(h1:7<=p) (h2:p<=11) (h:jL (fX (nQ y)) (p-7)) (hw:mA 4096 id (iA y p) (iA y p).length):jL (fX (nQ y)) (p+1-7):=by
 have e:=zV (l:=fX (nQ y)) (k:=p-7) (show p-7<5 by omega) h ((Yh h1 h2).trans (nI hw))
 rwa[show p-7+1=p+1-7 by omega]at e
theorem aAN {f:Fil}{k:Nat}(hk:k<f.ys.length) (hok:jL (f.ys.map kR) k) (h:jL (fX (nQ (aC f.ys k))) 5):jL (f.ys.map kR) (k+1):=
 zV (by rw[dP];exact hk) hok ((Qd hk).trans (uW (l:=fX (nQ (aC f.ys k))) h))
theorem aCr {f:Fil}(h0:jZ (fX (gJ f))=0) (hok:jL (f.ys.map kR) f.ys.length):iS f=0:=by
 rw[Dp h0]
 exact uW (by rwa[dP])
theorem OD {f:Fil}(hf:OkF f):aE false Tryz.prog 23 [] [.agg ((cZ true f).map .t)] (fun _ r=>∃(a:Nat) (b:Int) (c:Nat),r=.tup [.agg [tv (.int .u8 (a:Int)),tv (.int .i64 b),tv (.int .i64 (c:Int))],.one (tv (.int .i64 ((iS f:Nat):Int)))]):=by
 refine bD Tryz.func23 Tryz.ntmps23 fun N9 w9 c0 h0=>?_
 have hysl:=hf.ysl
 refine sq (rl (bx 0 ?_));refine al 1 ?_;refine o1 ?_;refine nl (sq (sq (rl (o1 ?_))));refine ld ?_
 refine ca (hH hf.nm.lim) aA (bC rfl) _ ?_;refine WL.splitb (t:=15) rfl (fun h1=>?_) (fun h1=>?_)
 ·refine o1 ?_;refine nl (dY rfl (sk (sq (sq (rl (o1 ?_))))));refine ld ?_
  refine ca (hH hf.pa.lim) aA (bC rfl) _ ?_;refine WL.splitb (t:=20) rfl (fun h2=>?_) (fun h2=>?_)
  ·refine o1 ?_;refine nl (dY rfl (sk (sq (rl (o1 ?_)))));refine ld ?_;refine o1 ?_;refine o1 ?_;refine ld ?_;refine o1 ?_;refine o1 ?_
   refine ld ?_;refine o1 ?_;refine o1 ?_;refine ld ?_;refine o1 ?_;refine bs 2 ?_;refine o1 ?_;refine nl (sq (rl (bs 3 ?_)));refine o1 ?_;refine nl ?_
   refine sq (sq ?_);have hn0:=aAL h1 h2
   refine WP.sub (wG (i:=4) (k:=2) (t:=3) (z:=1) (n:=7) (l:=eR (Be f)) 3 rfl rfl rfl rfl (.one .sl)) ?_
   refine WP.sub (wG (i:=5) (k:=3) (t:=3) (z:=1) (n:=7) (l:=eR rJ) 3 rfl rfl rfl rfl (.one .sl)) ?_;refine rl (o1 ?_);refine nl (bl ?_)
   refine lp (γ:=Nat) (fun s=>bP [(1,pN 0),(2,pN 1),(4,.one (.t (sI false (Be f)))),(5,.one (.t (sI false rJ))),(6,iN s)]) (fun s=>[(⟨42,0,(cZ true f).map .t⟩:Ob),⟨99,0,[tv (.int .u8 ((0:Nat):Int)),tv (.int .i64 ((0:Nat):Int)),tv (.int .i64 ((0:Nat):Int))]⟩].map some) (fun s=>2<=s/\s<=7/\jL (fX (gJ f)) (s-1)) (fun s=>7-s) 2 (⟨by omega,by omega,hn0⟩) (aH h0 [0,1] ⟨aD rfl,oe rfl rfl,rfl⟩) ?_
   rintro p hp;refine sq (sq (rl (o1 ?_)));refine o1 ?_;refine nl ?_;refine aV rfl (fun h3=>?_) (fun h3=>?_)
   ·refine sk ?_
    refine md (γ:=Unit) (fun _=>bP [(1,pN 0),(2,pN 1),(4,.one (.t (sI false (Be f)))),(5,.one (.t (sI false rJ))),(6,iN p)]) (fun _=>([⟨42,0,(cZ true f).map .t⟩,⟨99,0,[tv (.int .u8 ((0:Nat):Int)),tv (.int .i64 ((0:Nat):Int)),tv (.int .i64 ((0:Nat):Int))]⟩]:List Ob).map some) (fun _=>Qb f p=0) ?_ fun _ hE0=>?_
    ·refine bl (sq (sq ?_));have hp6:p<=6:=by omega
     have hcn:=UY (f:=f) hp.1 hp6
     have hcl:=VA hf p
     have hc7:(Be f).length=7:=rfl
     have hm7:rJ.length=7:=rfl
     refine rl ?_;(iterate 3 refine o1 ?_);refine WL.split (t:=43) rfl (fun h4=>?_) (fun h4=>?_)
     ·refine ld ?_;refine ca (Ls hf) aA (aM rfl) _ ?_;refine o1 ?_;refine o1 ?_;refine nl ?_
      refine aV rfl (fun h5=>?_) (fun h5=>?_)
      ·refine sq (rl (ld ?_));refine ca (Ls hf) aA (aM rfl) _ ?_;refine o1 ?_;refine st ?_;refine o1 ?_
       refine nl (rt ?_);have e9:=VD (show jL (fX (gJ f)) (3-1) by have:=hp.2.2;rwa[show p=3 by omega]at this) (by omega)
       exact en (.inl rfl) rfl (gP (.cons (.agg (.cons (.id rfl) (.cons (.id rfl) (.cons (.id rfl) .nil)))) (.cons (bO _) .nil))) (by decide) (fun h=>by cases h) ⟨_,_,_,by rw[e9];rfl⟩
      refine sk (sq (rl (o1 ?_)));refine nl (bl ?_)
      refine lp (γ:=Nat) (fun s=>bP [(1,pN 0),(2,pN 1),(4,.one (.t (sI false (Be f)))),(5,.one (.t (sI false rJ))),(6,iN p),(7,iN s)]) (fun s=>[(⟨42,0,(cZ true f).map .t⟩:Ob),⟨99,0,[tv (.int .u8 ((0:Nat):Int)),tv (.int .i64 ((0:Nat):Int)),tv (.int .i64 ((0:Nat):Int))]⟩].map some) (fun s=>s<=(gA f p).length/\mA (nth rJ p) id (gA f p) s) (fun s=>(gA f p).length-s) 0 (⟨Nat.zero_le _,oJ⟩) (aH h0 [0,1] ⟨aD rfl,oe rfl rfl,rfl⟩) ?_
      rintro i hi;refine sq (sq (rl ?_));(iterate 4 refine o1 ?_);refine cX ([.v (.int .i64 ((nth (Be f) (p):Nat):Int))]) (fD (Be f) (k:=p) (by omega)) ?_
      refine o1 ?_;refine nl ?_;refine aV rfl (fun h6=>?_) (fun h6=>?_)
      ·refine sk (sq (bl (sq (sq (rl ?_)))));(iterate 4 refine o1 ?_)
       refine cX ([.v (.int .i64 ((nth rJ (p):Nat):Int))]) (fD rJ (k:=p) (by omega)) ?_
       refine o1 ?_;refine nl ?_;refine aV rfl (fun h7=>?_) (fun h7=>?_)
       ·refine sq (rl (o1 ?_));refine o1 ?_;refine Lh 66 p rfl (by omega) ?_
        refine o1 ?_;refine o1 ?_;refine st ?_;refine o1 ?_;refine nl (rt ?_);have e9:=CB hp.1 hp6 hp.2.2 (by omega) hi.2 (by omega)
        exact en (.inl rfl) rfl (gP (.cons (.agg (.cons (.id rfl) (.cons (.id rfl) (.cons (.id rfl) .nil)))) (.cons (bO _) .nil))) (by decide) (fun h=>by cases h) ⟨_,_,_,by rw[e9];rfl⟩
       refine sk (sq (rl (ld ?_)));refine o1 ?_;refine o1 ?_
       refine ca (KN hf (Yf (f:=f) (p:=p) (i:=i) (by omega)) (by omega)) aA ⟨nD rfl,a1 rfl,a1 rfl,rfl⟩ _ ?_
       refine WL.splitb (t:=72) rfl (fun h8=>?_) (fun h8=>?_)
       ·refine o1 ?_;refine nl (dY rfl (sk (rl (o1 ?_))));refine o1 ?_
        refine aY 58 (i+1) ?_
        refine o1 ?_;refine nl ?_
        exact⟨i+1,by omega,⟨by omega,iQ (d:=false) (by omega) hi.2 (by omega) h8⟩,aH h0 [0,1] ⟨aD rfl,oe rfl rfl,rfl⟩⟩
       refine o1 ?_;refine nl (eU rfl (sq (rl (o1 ?_))));refine o1 ?_
       refine Lh 75 p rfl (by omega) ?_
       refine o1 ?_;refine o1 ?_;refine st ?_;refine o1 ?_;refine nl (rt ?_);have e9:=CC hp.1 hp6 hp.2.2 (by omega) hi.2 (by omega) h8
       exact en (.inl rfl) rfl (gP (.cons (.agg (.cons (.id rfl) (.cons (.id rfl) (.cons (.id rfl) .nil)))) (.cons (bO _) .nil))) (by decide) (fun h=>by cases h) ⟨_,_,_,by rw[e9];rfl⟩
      refine ex ?_
      exact⟨(),KP hp.1 hp6 (fun _=>by omega) (show mA _ _ _ (gA f p).length by rw[<-show i=(gA f p).length by omega];exact hi.2),aH h0 [0,1] ⟨aD rfl,oe rfl rfl,rfl⟩⟩
     (iterate 3 refine aW ?_);refine o1 ?_;refine nl (dY rfl (sk (sq (rl (o1 ?_)))));refine nl (bl ?_)
     refine lp (γ:=Nat) (fun s=>bP [(1,pN 0),(2,pN 1),(4,.one (.t (sI false (Be f)))),(5,.one (.t (sI false rJ))),(6,iN p),(7,iN s)]) (fun s=>[(⟨42,0,(cZ true f).map .t⟩:Ob),⟨99,0,[tv (.int .u8 ((0:Nat):Int)),tv (.int .i64 ((0:Nat):Int)),tv (.int .i64 ((0:Nat):Int))]⟩].map some) (fun s=>s<=(gA f p).length/\mA (nth rJ p) id (gA f p) s) (fun s=>(gA f p).length-s) 0 (⟨Nat.zero_le _,oJ⟩) (aH h0 [0,1] ⟨aD rfl,oe rfl rfl,rfl⟩) ?_
     rintro i hi;refine sq (sq (rl ?_));(iterate 4 refine o1 ?_);refine cX ([.v (.int .i64 ((nth (Be f) (p):Nat):Int))]) (fD (Be f) (k:=p) (by omega)) ?_
     refine o1 ?_;refine nl ?_;refine aV rfl (fun h9=>?_) (fun h9=>?_)
     ·refine sk (sq (bl (sq (sq (rl ?_)))));(iterate 4 refine o1 ?_)
      refine cX ([.v (.int .i64 ((nth rJ (p):Nat):Int))]) (fD rJ (k:=p) (by omega)) ?_
      refine o1 ?_;refine nl ?_;refine aV rfl (fun h10=>?_) (fun h10=>?_)
      ·refine sq (rl (o1 ?_));refine o1 ?_;refine Lh 66 p rfl (by omega) ?_
       refine o1 ?_;refine o1 ?_;refine st ?_;refine o1 ?_;refine nl (rt ?_);have e9:=CB hp.1 hp6 hp.2.2 (by omega) hi.2 (by omega)
       exact en (.inl rfl) rfl (gP (.cons (.agg (.cons (.id rfl) (.cons (.id rfl) (.cons (.id rfl) .nil)))) (.cons (bO _) .nil))) (by decide) (fun h=>by cases h) ⟨_,_,_,by rw[e9];rfl⟩
      refine sk (sq (rl (ld ?_)));refine o1 ?_;refine o1 ?_
      refine ca (KN hf (Yf (f:=f) (p:=p) (i:=i) (by omega)) (by omega)) aA ⟨nD rfl,a1 rfl,a1 rfl,rfl⟩ _ ?_
      refine WL.splitb (t:=72) rfl (fun h11=>?_) (fun h11=>?_)
      ·refine o1 ?_;refine nl (dY rfl (sk (rl (o1 ?_))));refine o1 ?_
       refine aY 58 (i+1) ?_
       refine o1 ?_;refine nl ?_
       exact⟨i+1,by omega,⟨by omega,iQ (d:=false) (by omega) hi.2 (by omega) h11⟩,aH h0 [0,1] ⟨aD rfl,oe rfl rfl,rfl⟩⟩
      refine o1 ?_;refine nl (eU rfl (sq (rl (o1 ?_))));refine o1 ?_
      refine Lh 75 p rfl (by omega) ?_
      refine o1 ?_;refine o1 ?_;refine st ?_;refine o1 ?_;refine nl (rt ?_);have e9:=CC hp.1 hp6 hp.2.2 (by omega) hi.2 (by omega) h11
      exact en (.inl rfl) rfl (gP (.cons (.agg (.cons (.id rfl) (.cons (.id rfl) (.cons (.id rfl) .nil)))) (.cons (bO _) .nil))) (by decide) (fun h=>by cases h) ⟨_,_,_,by rw[e9];rfl⟩
     refine ex ?_
     exact⟨(),KP hp.1 hp6 (fun _=>by omega) (show mA _ _ _ (gA f p).length by rw[<-show i=(gA f p).length by omega];exact hi.2),aH h0 [0,1] ⟨aD rfl,oe rfl rfl,rfl⟩⟩
    refine rl (o1 ?_);refine o1 ?_;refine aY 40 (p+1) ?_
    refine o1 ?_;refine nl ?_
    exact⟨p+1,by omega,⟨by omega,by omega,OB hp.1 (by omega) hp.2.2 hE0⟩,aH h0 [0,1] ⟨aD rfl,oe rfl rfl,rfl⟩⟩
   refine ex (sq (sq ?_));have hp7:p=7:=by omega
   have h0f:=aAM (f:=f) (by have:=hp.2.2;rwa[hp7]at this)
   refine rl (o1 ?_);refine nl (bl ?_)
   refine lp (γ:=Nat) (fun s=>bP [(1,pN 0),(2,pN 1),(8,iN s)]) (fun s=>[(⟨42,0,(cZ true f).map .t⟩:Ob),⟨99,0,[tv (.int .u8 ((0:Nat):Int)),tv (.int .i64 ((0:Nat):Int)),tv (.int .i64 ((0:Nat):Int))]⟩].map some) (fun s=>s<=f.ys.length/\jL (f.ys.map kR) s) (fun s=>f.ys.length-s) 0 (⟨Nat.zero_le _,wP⟩) (aH h0 [0,1] ⟨aD rfl,oe rfl rfl,rfl⟩) ?_
   rintro k hk;refine sq (sq (rl (o1 ?_)));refine o1 ?_;refine ld ?_;refine o1 ?_;refine o1 ?_;refine nl ?_;refine aV rfl (fun h12=>?_) (fun h12=>?_)
   ·refine sk (sq (bl (sq ?_)));have hks:k<f.ys.length:=by omega
    refine rl (o1 ?_);refine ld ?_;refine o1 ?_;refine o1 ?_
    refine cX ((cV true) (aC f.ys (k))) (cM 6 0 (gE true) (fZ (by omega)) rfl) ?_
    refine al 2 ?_;refine st ?_;refine nl (sq (rl (o1 ?_)));refine ld ?_;refine o1 ?_;refine o1 ?_;refine ld ?_;refine o1 ?_;refine o1 ?_;refine ld ?_
    refine o1 ?_;refine o1 ?_;refine ld ?_;refine o1 ?_;refine o1 ?_;refine ld ?_;refine o1 ?_;refine bs 3 ?_;refine o1 ?_;refine nl (sq ?_)
    refine WP.sub (wG (i:=10) (k:=3) (t:=3) (z:=1) (n:=12) (l:=eR (Lu (aC f.ys (k)))) 3 rfl rfl rfl rfl (.one .sl)) ?_;have hc12:(Lu (aC f.ys (k))).length=12:=rfl
    refine rl (o1 ?_);refine nl (bl ?_)
    refine lp (γ:=Nat) (fun s=>bP [(1,pN 0),(2,pN 1),(8,iN k),(9,pN 2),(10,.one (.t (sI false (Lu (aC f.ys (k)))))),(11,iN s)]) (fun s=>[(⟨42,0,(cZ true f).map .t⟩:Ob),⟨99,0,[tv (.int .u8 ((0:Nat):Int)),tv (.int .i64 ((0:Nat):Int)),tv (.int .i64 ((0:Nat):Int))]⟩,⟨81,0,[tv (.int .i64 (aC f.ys (k)).n),.t (fN 127 6 fG (aC f.ys (k)).h),.t (fN 129 6 fG (aC f.ys (k)).b),.t (fN 131 10 kP (aC f.ys (k)).d),.t (fN 133 9 oV (aC f.ys (k)).s),.t (fN 135 5 pF (aC f.ys (k)).o)]⟩].map some) (fun s=>7<=s/\s<=12/\jL (fX (nQ (aC f.ys (k)))) (s-7)) (fun s=>12-s) 7 (⟨by omega,by omega,wP⟩) (aH h0 [0,1,2] ⟨aD rfl,oe rfl rfl,oe rfl rfl,rfl⟩) ?_
    rintro q hq;refine sq (sq (rl (o1 ?_)));refine o1 ?_;refine nl ?_;refine aV rfl (fun h13=>?_) (fun h13=>?_)
    ·refine sk (sq (bl (sq ?_)));have hq11:q<=11:=by omega
     have hcy:=UZ (y:=(aC f.ys (k))) hq.1 hq11
     have hcz:=VB (hf.ys _ (jB (l:=f.ys) (i:=k) hks)) q
     refine rl (o1 ?_);refine nl (bl ?_)
     refine lp (γ:=Nat) (fun s=>bP [(1,pN 0),(2,pN 1),(8,iN k),(9,pN 2),(10,.one (.t (sI false (Lu (aC f.ys (k)))))),(11,iN q),(12,iN s)]) (fun s=>[(⟨42,0,(cZ true f).map .t⟩:Ob),⟨99,0,[tv (.int .u8 ((0:Nat):Int)),tv (.int .i64 ((0:Nat):Int)),tv (.int .i64 ((0:Nat):Int))]⟩,⟨81,0,[tv (.int .i64 (aC f.ys (k)).n),.t (fN 127 6 fG (aC f.ys (k)).h),.t (fN 129 6 fG (aC f.ys (k)).b),.t (fN 131 10 kP (aC f.ys (k)).d),.t (fN 133 9 oV (aC f.ys (k)).s),.t (fN 135 5 pF (aC f.ys (k)).o)]⟩].map some) (fun s=>s<=(iA (aC f.ys (k)) q).length/\mA 4096 id (iA (aC f.ys (k)) q) s) (fun s=>(iA (aC f.ys (k)) q).length-s) 0 (⟨Nat.zero_le _,oJ⟩) (aH h0 [0,1,2] ⟨aD rfl,oe rfl rfl,oe rfl rfl,rfl⟩) ?_
     rintro j hj;refine sq (sq (rl ?_));(iterate 4 refine o1 ?_)
     refine cX ([.v (.int .i64 ((nth (Lu (aC f.ys (k))) (q):Nat):Int))]) (fD (Lu (aC f.ys (k))) (k:=q) (by omega)) ?_
     refine o1 ?_;refine nl ?_;refine aV rfl (fun h14=>?_) (fun h14=>?_)
     ·refine sk (sq (bl (sq (sq (rl (o1 ?_))))));refine o1 ?_;refine nl ?_;refine aV rfl (fun h15=>?_) (fun h15=>?_)
      ·refine sq (rl (o1 ?_));refine o1 ?_;refine Lh 121 q rfl (by omega) ?_
       (iterate 3 refine o1 ?_);refine st ?_;refine o1 ?_;refine nl (rt ?_);have e9:=VE h0f hks hk.2 hq.1 hq11 hq.2.2 (by omega) hj.2 (by omega)
       exact en (.inl rfl) rfl (gP (.cons (.agg (.cons (.id rfl) (.cons (.id rfl) (.cons (.id rfl) .nil)))) (.cons (bO _) .nil))) (by decide) (fun h=>by cases h) ⟨_,_,_,by rw[e9];rfl⟩
      refine sk (sq (rl (ld ?_)));refine o1 ?_;refine o1 ?_
      refine ca (UX (hf.ys _ (jB (l:=f.ys) (i:=k) (by omega))) ⟨by omega,by omega⟩ (by omega)) aA ⟨nD rfl,a1 rfl,a1 rfl,rfl⟩ _ ?_
      refine WL.splitb (t:=128) rfl (fun h16=>?_) (fun h16=>?_)
      ·refine o1 ?_;refine nl (dY rfl (sk (rl (o1 ?_))));refine o1 ?_
       refine aY 117 (j+1) ?_
       refine o1 ?_;refine nl ?_
       exact⟨j+1,by omega,⟨by omega,iQ (d:=false) (by omega) hj.2 (by omega) h16⟩,aH h0 [0,1,2] ⟨aD rfl,oe rfl rfl,oe rfl rfl,rfl⟩⟩
      refine o1 ?_;refine nl (eU rfl (sq (rl (o1 ?_))));refine o1 ?_
      refine Lh 131 q rfl (by omega) ?_
      (iterate 3 refine o1 ?_);refine st ?_;refine o1 ?_;refine nl (rt ?_);have e9:=VF h0f hks hk.2 hq.1 hq11 hq.2.2 (by omega) hj.2 (by omega) h16
      exact en (.inl rfl) rfl (gP (.cons (.agg (.cons (.id rfl) (.cons (.id rfl) (.cons (.id rfl) .nil)))) (.cons (bO _) .nil))) (by decide) (fun h=>by cases h) ⟨_,_,_,by rw[e9];rfl⟩
     refine ex ?_;have hjp:j=(iA (aC f.ys (k)) q).length:=by omega
     refine rl (o1 ?_);refine o1 ?_;refine aY 109 (q+1) ?_
     refine o1 ?_;refine nl ?_
     exact⟨q+1,by omega,⟨by omega,by omega,OC hq.1 (by omega) hq.2.2 (show mA _ _ _ (iA (aC f.ys (k)) q).length by rw[<-hjp];exact hj.2)⟩,aH h0 [0,1,2] ⟨aD rfl,oe rfl rfl,oe rfl rfl,rfl⟩⟩
    refine ex ?_;have hq12:q=12:=by omega
    refine rl (o1 ?_);refine o1 ?_;refine aY 84 (k+1) ?_
    refine o1 ?_;refine nl ?_
    exact⟨k+1,by omega,⟨by omega,aAN (by omega) hk.2 (by have:=hq.2.2;rwa[hq12]at this)⟩,aH h0 [0,1] ⟨aD rfl,oe rfl rfl,rfl⟩⟩
   refine ex (sq (rl (o1 ?_)));refine st ?_;refine o1 ?_;refine nl (rt ?_)
   have e9:=aCr h0f (show jL _ f.ys.length by have:=hk.2;rwa[show k=f.ys.length by omega]at this)
   exact en (.inl rfl) rfl (gP (.cons (.agg (.cons (.id rfl) (.cons (.id rfl) (.cons (.id rfl) .nil)))) (.cons (bO _) .nil))) (by decide) (fun h=>by cases h) ⟨_,_,_,by rw[e9];rfl⟩
  refine o1 ?_;refine nl (eU rfl (sq (rl (o1 ?_))));refine st ?_;refine o1 ?_;refine nl (rt ?_);have e9:=aAK h1 h2
  exact en (.inl rfl) rfl (gP (.cons (.agg (.cons (.id rfl) (.cons (.id rfl) (.cons (.id rfl) .nil)))) (.cons (bO _) .nil))) (by decide) (fun h=>by cases h) ⟨_,_,_,by rw[e9];rfl⟩
 refine o1 ?_;refine nl (eU rfl (sq (rl (o1 ?_))));refine st ?_;refine o1 ?_;refine nl (rt ?_);have e9:=aAJ h1
 exact en (.inl rfl) rfl (gP (.cons (.agg (.cons (.id rfl) (.cons (.id rfl) (.cons (.id rfl) .nil)))) (.cons (bO _) .nil))) (by decide) (fun h=>by cases h) ⟨_,_,_,by rw[e9];rfl⟩
theorem aAO {bs:List Nat}:aE false Tryz.prog 130 [⟨95,0,[tv (.pointer none),.t (.s true 5 1 bs.length (bS bs))]⟩] [.one (.pt 0 0)] (Rt [⟨95,0,[.pt 0 0,.t (.s true 5 1 bs.length (bS bs))]⟩] (.tup [])):=by
 refine Hj Tryz.func130 rfl Tryz.ntmps130 rfl aR rfl fun N9 M9 w9 c0 h0=>?_
 refine sq (rl ?_);(iterate 3 refine o1 ?_);refine ld ?_;refine o1 ?_;refine nl (eU rfl (rl (o1 ?_)));refine o1 ?_
 refine aAP (k:=0) Tryz.underlying88 Tryz.underlying275 (show _=some 2 by kernel_rfl) (by decide) rfl rfl (by simp) rfl ?_
 refine aAQ Tryz.func188 (by kernel_rfl) (by kernel_rfl) (by kernel_rfl) (by kernel_rfl) rfl rfl ?_
 refine aAR (k:=0) Tryz.underlying275 Tryz.underlying88 (show _=some 2 by kernel_rfl) rfl rfl (by kernel_rfl) rfl ?_
 refine o1 ?_;refine o1 ?_;refine st ?_;refine nl ?_
 exact xY (lent':=[⟨95,0,[.pt 0 0,.t (.s true 5 1 bs.length (bS bs))]⟩]) (.inr rfl) rfl Pb (by decide) (fun _ h=>by cases h) ⟨⟨rfl,rfl⟩,trivial⟩ ⟨rfl,trivial⟩ ⟨rfl,trivial⟩ (fun h=>by cases h) ⟨rfl,rfl⟩
theorem KQ {bs:List Nat}:aE false Tryz.prog 130 [⟨95,0,[.pt 0 0,.t (.s true 5 1 bs.length (bS bs))]⟩] [.one (.pt 0 0)] (Rt [⟨95,0,[.pt 0 0,.t (.s true 5 1 bs.length (bS bs))]⟩] (.tup [])):=by
 refine Hj Tryz.func130 rfl Tryz.ntmps130 rfl aR rfl fun N9 M9 w9 c0 h0=>?_
 refine sq (rl ?_);(iterate 3 refine o1 ?_);refine ld ?_;refine o1 ?_;refine nl (dY rfl (sq (rl ?_)));(iterate 3 refine o1 ?_);refine ld ?_;refine o1 ?_
 refine aAS Tryz.underlying88 (show _=some 2 by kernel_rfl) rfl rfl rfl ?_
 refine nl (dY rfl (sk ?_))
 exact xY (lent':=[⟨95,0,[.pt 0 0,.t (.s true 5 1 bs.length (bS bs))]⟩]) (.inr rfl) rfl Pb (by decide) (fun _ h=>by cases h) ⟨⟨rfl,rfl⟩,trivial⟩ ⟨rfl,trivial⟩ ⟨rfl,trivial⟩ (fun h=>by cases h) ⟨rfl,rfl⟩
theorem Kb (a b:List Nat){n:Nat}(hn:n=a.length+b.length):((bS a).map AV.t++(bS b).map AV.t).take (n*1)=(bS (a++b)).map .t:=by
 have e:(bS a).map AV.t++(bS b).map AV.t=(bS (a++b)).map .t:=by simp[bS]
 rw[e]
 exact cT (by rw[zM,cJ,hn];omega)
theorem Qe (l:List Nat):(bS l).length=l.length:=by simp[bS]
theorem aAT {bs s:List Nat}(hs:Lim 256 s) (hl:bs.length+s.length<=140737488355328):aE false Tryz.prog 73 [⟨95,0,[tv (.pointer none),.t (.s true 5 1 bs.length (bS bs))]⟩] [.one (.pt 0 0),.one (tv (.string (aN s)))] (Rt [⟨95,0,[.pt 0 0,.t (.s true 5 1 (bs++s).length (bS (bs++s)))]⟩] (.tup [.one (tv (.int .i64 ((s.length:Nat):Int))),.one (tv .nilIface)])):=by
 refine GN Tryz.func73 rfl Tryz.ntmps73 rfl aR rfl fun N9 M9 w9 c0 h0=>?_
 refine sq (rl (o1 ?_));refine o1 ?_;refine nl (sq (rl (o1 ?_)))
 refine cl 1 [0] aAO aA ⟨oe rfl rfl,rfl⟩ ⟨rfl,rfl⟩ (ok:=[some ⟨95,0,[.pt 0 0,.t (.s true 5 1 bs.length (bS bs))]⟩]) ⟨oe rfl rfl,rfl⟩ ?_;refine nl (sq ?_)
 refine WP.sub (VG (j:=0) (key:=1) (p:=1) (e:=5) (z:=1) (n:=bs.length) (trs:=bS bs) rfl rfl rfl rfl rfl) ?_;refine rl ?_;(iterate 4 refine o1 ?_);refine ld ?_;refine o1 ?_
 refine CE (j:=2) aR rfl rfl rfl rfl rfl rfl hs (.sl rfl (by rw[zM])) rfl (by omega) ?_
 refine o1 ?_;refine o1 ?_;refine st ?_;refine nl (sq (rl (o1 ?_)));refine o1 ?_
 refine WL.cast (t:=18) (u':=.int .i64 ((s.length:Nat):Int)) rfl (congrArg (fun n:Nat=>Value.int .i64 (n:Int)) (aO _)) ?_
 refine o1 ?_;refine o1 ?_;refine nl (rt ?_)
 refine AT (KR (j:=0) (k:=2) (p:=1) (e:=5) (z:=1) (n:=bs.length+s.length) (trs:=bS (bs++s)) rfl rfl rfl rfl rfl (Kb bs s rfl) (by rw[Qe,cJ,Nat.mul_one]) rfl) ?_
 exact zJ <| xY (lent':=[⟨95,0,[.pt 0 0,.t (.s true 5 1 (bs++s).length (bS (bs++s)))]⟩]) (.inl rfl) rfl (gP (.cons (bO _) (.cons (bO _) .nil))) (by decide) (fun _ h=>by cases h) ⟨⟨rfl,rfl⟩,trivial⟩ ⟨congrArg (fun n=>some (⟨95,0,[.pt 0 0,.t (.s true 5 1 n (bS (bs++s)))]⟩:Ob)) List.length_append.symm,trivial⟩ ⟨rfl,trivial⟩ (fun h=>by cases h) ⟨rfl,rfl⟩
theorem aAU {bs s:List Nat}(hs:Lim 256 s) (hl:bs.length+s.length<=140737488355328):aE false Tryz.prog 73 [⟨95,0,[.pt 0 0,.t (.s true 5 1 bs.length (bS bs))]⟩] [.one (.pt 0 0),.one (tv (.string (aN s)))] (Rt [⟨95,0,[.pt 0 0,.t (.s true 5 1 (bs++s).length (bS (bs++s)))]⟩] (.tup [.one (tv (.int .i64 ((s.length:Nat):Int))),.one (tv .nilIface)])):=by
 refine GN Tryz.func73 rfl Tryz.ntmps73 rfl aR rfl fun N9 M9 w9 c0 h0=>?_
 refine sq (rl (o1 ?_));refine o1 ?_;refine nl (sq (rl (o1 ?_)))
 refine cl 1 [0] KQ aA ⟨oe rfl rfl,rfl⟩ ⟨rfl,rfl⟩ (ok:=[some ⟨95,0,[.pt 0 0,.t (.s true 5 1 bs.length (bS bs))]⟩]) ⟨oe rfl rfl,rfl⟩ ?_;refine nl (sq ?_)
 refine WP.sub (VG (j:=0) (key:=1) (p:=1) (e:=5) (z:=1) (n:=bs.length) (trs:=bS bs) rfl rfl rfl rfl rfl) ?_;refine rl ?_;(iterate 4 refine o1 ?_);refine ld ?_;refine o1 ?_
 refine CE (j:=2) aR rfl rfl rfl rfl rfl rfl hs (.sl rfl (by rw[zM])) rfl (by omega) ?_
 refine o1 ?_;refine o1 ?_;refine st ?_;refine nl (sq (rl (o1 ?_)));refine o1 ?_
 refine WL.cast (t:=18) (u':=.int .i64 ((s.length:Nat):Int)) rfl (congrArg (fun n:Nat=>Value.int .i64 (n:Int)) (aO _)) ?_
 refine o1 ?_;refine o1 ?_;refine nl (rt ?_)
 refine AT (KR (j:=0) (k:=2) (p:=1) (e:=5) (z:=1) (n:=bs.length+s.length) (trs:=bS (bs++s)) rfl rfl rfl rfl rfl (Kb bs s rfl) (by rw[Qe,cJ,Nat.mul_one]) rfl) ?_
 exact zJ <| xY (lent':=[⟨95,0,[.pt 0 0,.t (.s true 5 1 (bs++s).length (bS (bs++s)))]⟩]) (.inl rfl) rfl (gP (.cons (bO _) (.cons (bO _) .nil))) (by decide) (fun _ h=>by cases h) ⟨⟨rfl,rfl⟩,trivial⟩ ⟨congrArg (fun n=>some (⟨95,0,[.pt 0 0,.t (.s true 5 1 n (bS (bs++s)))]⟩:Ob)) List.length_append.symm,trivial⟩ ⟨rfl,trivial⟩ (fun h=>by cases h) ⟨rfl,rfl⟩
theorem VH {zs:List Nat}{c:Nat}(hl:zs.length+1<=140737488355328):aE false Tryz.prog 109 [⟨95,0,[.pt 0 0,.t (.s true 5 1 zs.length (bS zs))]⟩] [.one (.pt 0 0),.one (tv (.int .u8 ((c:Nat):Int)))] (Rt [⟨95,0,[.pt 0 0,.t (.s true 5 1 (zs++[c]).length (bS (zs++[c])))]⟩] (.one (tv .nilIface))):=by
 refine GN Tryz.func109 rfl Tryz.ntmps109 rfl aR rfl fun N9 M9 w9 c0 h0=>?_
 refine sq (rl (o1 ?_));refine nl (sq (rl (o1 ?_)))
 refine cl 1 [0] KQ aA ⟨oe rfl rfl,rfl⟩ ⟨rfl,rfl⟩ (ok:=[some ⟨95,0,[.pt 0 0,.t (.s true 5 1 zs.length (bS zs))]⟩]) ⟨oe rfl rfl,rfl⟩ ?_;refine nl (sq ?_)
 refine WP.sub (VG (j:=0) (key:=1) (p:=1) (e:=5) (z:=1) (n:=zs.length) (trs:=bS zs) rfl rfl rfl rfl rfl) ?_;refine rl ?_;(iterate 4 refine o1 ?_);refine ld ?_;refine o1 ?_
 refine bs 2 ?_;refine fF (j:=3) aR rfl rfl rfl rfl (.sl rfl (by rw[zM])) (.sl rfl rfl rfl) rfl rfl rfl (by omega) (by omega) ?_
 refine o1 ?_;refine o1 ?_;refine st ?_;refine nl (sq (rl (o1 ?_)));refine nl (rt ?_)
 refine AT (KR (j:=0) (k:=3) (p:=1) (e:=5) (z:=1) (n:=zs.length+1) (trs:=bS (zs++[c])) rfl rfl rfl rfl rfl (Kb zs [c] rfl) (by rw[Qe,cJ,Nat.mul_one];rfl) rfl) ?_
 exact zJ <| xY (lent':=[⟨95,0,[.pt 0 0,.t (.s true 5 1 (zs++[c]).length (bS (zs++[c])))]⟩]) (.inl rfl) rfl (bB (bO _)) (by decide) (fun _ h=>by cases h) ⟨⟨rfl,rfl⟩,trivial⟩ ⟨congrArg (fun n=>some (⟨95,0,[.pt 0 0,.t (.s true 5 1 n (bS (zs++[c])))]⟩:Ob)) (show zs.length+1=(zs++[c]).length by simp),trivial⟩ ⟨rfl,trivial⟩ (fun h=>by cases h) ⟨rfl,rfl⟩
theorem VI {bs:List Nat}{ws:List (List Nat)}(hN:ws.length<=1000000) (hj8:Lim 256 (bJ ws)) (hl:bs.length+(bJ ws).length+1<=140737488355328):aE false Tryz.prog 53 [⟨95,0,[tv (.pointer none),.t (.s true 5 1 bs.length (bS bs))]⟩,⟨9,1,(ws.map sT).map .t⟩] [.one (.pt 0 0),.one (.sl 1 0 ws.length)] (Rt [⟨95,0,[.pt 0 0,.t (.s true 5 1 (bs++bJ ws++[10]).length (bS (bs++bJ ws++[10])))]⟩,⟨9,1,(ws.map sT).map .t⟩] (.tup [])):=by
 refine Hj Tryz.func53 rfl Tryz.ntmps53 rfl aR rfl fun N9 M9 w9 c0 h0=>?_
 refine sq ?_;refine bU [] [] ?_
 refine dv 0 ?_;refine dv 1 ?_;refine dv 2 ?_;refine dv 3 ?_;refine dJ (k:=1) (ws:=ws) 4 rfl Ih rfl hN (by omega) ?_
 refine uI 5 2 [0] rfl (aAT (bs:=bs) (s:=bJ ws) hj8 (by omega)) aA ⟨oe rfl rfl,rfl⟩ ⟨rfl,rfl,rfl⟩ (ok:=[some ⟨95,0,[.pt 0 0,.t (.s true 5 1 (bs++bJ ws).length (bS (bs++bJ ws)))]⟩]) ⟨oe rfl rfl,rfl⟩ trivial ?_
 refine aJ ?_;refine rl ?_;(iterate 3 refine o1 ?_)
 refine cl 2 [0] (VH (zs:=bs++bJ ws) (c:=10) (by rw[cJ];omega)) aA ⟨oe rfl rfl,rfl⟩ ⟨rfl,rfl,rfl⟩ (ok:=[some ⟨95,0,[.pt 0 0,.t (.s true 5 1 (bs++bJ ws++[10]).length (bS (bs++bJ ws++[10])))]⟩]) ⟨oe rfl rfl,rfl⟩ ?_
 refine nl ?_
 exact xY (lent':=[⟨95,0,[.pt 0 0,.t (.s true 5 1 (bs++bJ ws++[10]).length (bS (bs++bJ ws++[10])))]⟩,⟨9,1,(ws.map sT).map .t⟩]) (.inr rfl) rfl Pb (by decide) (fun _ h=>by cases h) ⟨⟨rfl,rfl⟩,⟨rfl,rfl⟩,trivial⟩ ⟨rfl,rfl,trivial⟩ ⟨rfl,pE _,trivial⟩ (fun h=>by cases h) ⟨rfl,rfl⟩
theorem VJ {bs:List Nat}{ws:List (List Nat)}(hN:ws.length<=1000000) (hj8:Lim 256 (bJ ws)) (hl:bs.length+(bJ ws).length+1<=140737488355328):aE false Tryz.prog 53 [⟨95,0,[.pt 0 0,.t (.s true 5 1 bs.length (bS bs))]⟩,⟨9,1,(ws.map sT).map .t⟩] [.one (.pt 0 0),.one (.sl 1 0 ws.length)] (Rt [⟨95,0,[.pt 0 0,.t (.s true 5 1 (bs++bJ ws++[10]).length (bS (bs++bJ ws++[10])))]⟩,⟨9,1,(ws.map sT).map .t⟩] (.tup [])):=by
 refine Hj Tryz.func53 rfl Tryz.ntmps53 rfl aR rfl fun N9 M9 w9 c0 h0=>?_
 refine sq ?_;refine bU [] [] ?_
 refine dv 0 ?_;refine dv 1 ?_;refine dv 2 ?_;refine dv 3 ?_;refine dJ (k:=1) (ws:=ws) 4 rfl Ih rfl hN (by omega) ?_
 refine uI 5 2 [0] rfl (aAU (bs:=bs) (s:=bJ ws) hj8 (by omega)) aA ⟨oe rfl rfl,rfl⟩ ⟨rfl,rfl,rfl⟩ (ok:=[some ⟨95,0,[.pt 0 0,.t (.s true 5 1 (bs++bJ ws).length (bS (bs++bJ ws)))]⟩]) ⟨oe rfl rfl,rfl⟩ trivial ?_
 refine aJ ?_;refine rl ?_;(iterate 3 refine o1 ?_)
 refine cl 2 [0] (VH (zs:=bs++bJ ws) (c:=10) (by rw[cJ];omega)) aA ⟨oe rfl rfl,rfl⟩ ⟨rfl,rfl,rfl⟩ (ok:=[some ⟨95,0,[.pt 0 0,.t (.s true 5 1 (bs++bJ ws++[10]).length (bS (bs++bJ ws++[10])))]⟩]) ⟨oe rfl rfl,rfl⟩ ?_
 refine nl ?_
 exact xY (lent':=[⟨95,0,[.pt 0 0,.t (.s true 5 1 (bs++bJ ws++[10]).length (bS (bs++bJ ws++[10])))]⟩,⟨9,1,(ws.map sT).map .t⟩]) (.inr rfl) rfl Pb (by decide) (fun _ h=>by cases h) ⟨⟨rfl,rfl⟩,⟨rfl,rfl⟩,trivial⟩ ⟨rfl,rfl,trivial⟩ ⟨rfl,pE _,trivial⟩ (fun h=>by cases h) ⟨rfl,rfl⟩
theorem VK {y:Yer}{at9:Int}(hy:OkY y):aE false Tryz.prog 52 [] [.agg ((cV false y).map .t),.one (tv (.int .i64 at9))] (fun _ r=>∃a c,r=.one (.t (fB false a at9 (kR y) c))):=by
 refine bD Tryz.func52 Tryz.ntmps52 fun N9 w9 c0 h0=>?_
 refine sq (rl (bx 0 ?_));refine o1 ?_;refine nl (sq (sq ?_));refine bU [0] [] ?_
 refine dv 0 ?_;refine dv 1 ?_;refine aF 2 ?_;refine dv 4 ?_;refine dv 5 ?_;refine aF 6 ?_;refine dv 8 ?_;refine dv 9 ?_;refine aF 10 ?_;refine dv 12 ?_;refine dv 13 ?_;refine aF 14 ?_
 refine dv 16 ?_;refine dv 17 ?_;refine aF 18 ?_;refine dv 22 ?_
 refine aG 3 rfl (TT (xs:=y.h) (pt:=7) (most:=4096) (yr:=at9) hy.h (by have:=hy.hl;omega)) aA ⟨a1 rfl,a1 rfl,a1 rfl,a1 rfl,a1 rfl,rfl⟩ _ ?_ (hv:=mK)
 refine aG 7 rfl (TU (xs:=y.b) (pt:=8) (most:=4096) (yr:=at9) hy.b (by have:=hy.bl;omega)) aA ⟨a1 rfl,a1 rfl,a1 rfl,a1 rfl,a1 rfl,rfl⟩ _ ?_ (hv:=mK)
 refine aG 11 rfl (TV (xs:=y.d) (pt:=9) (most:=4096) (yr:=at9) hy.d (by have:=hy.dl;omega)) aA ⟨a1 rfl,a1 rfl,a1 rfl,a1 rfl,a1 rfl,rfl⟩ _ ?_ (hv:=mK)
 refine aG 15 rfl (TW (xs:=y.s) (pt:=10) (most:=4096) (yr:=at9) hy.s (by have:=hy.sl;omega)) aA ⟨a1 rfl,a1 rfl,a1 rfl,a1 rfl,a1 rfl,rfl⟩ _ ?_ (hv:=mK)
 refine aG 19 rfl (TX (xs:=y.o) (pt:=11) (most:=4096) (yr:=at9) hy.o (by have:=hy.ol;omega)) aA ⟨a1 rfl,a1 rfl,a1 rfl,a1 rfl,a1 rfl,rfl⟩ _ ?_ (hv:=mK)
 refine dA (ob':=[some (⟨55,0,(cV false y).map .t⟩:Ob),some ⟨136,1,[.t (fB false 7 at9 (dK 4096 hlB y.h) (fK 4096 hlB y.h)),.t (fB false 8 at9 (dK 4096 bkB y.b) (fK 4096 bkB y.b)),.t (fB false 9 at9 (dK 4096 dlB y.d) (fK 4096 dlB y.d)),.t (fB false 10 at9 (dK 4096 stB y.s) (fK 4096 stB y.s)),.t (fB false 11 at9 (dK 4096 soB y.o) (fK 4096 soB y.o))]⟩]) (key:=1) 20 (by kernel_rfl) rfl rfl aR (by rcases nZ 7 (dK 4096 hlB y.h) (fK 4096 hlB y.h) at9 with g0 | g0 <;> rcases nZ 8 (dK 4096 bkB y.b) (fK 4096 bkB y.b) at9 with g1 | g1 <;> rcases nZ 9 (dK 4096 dlB y.d) (fK 4096 dlB y.d) at9 with g2 | g2 <;> rcases nZ 10 (dK 4096 stB y.s) (fK 4096 stB y.s) at9 with g3 | g3 <;> rcases nZ 11 (dK 4096 soB y.o) (fK 4096 soB y.o) at9 with g4 | g4 <;> (rw[g0,g1,g2,g3,g4];first | done | rfl)) ⟨rfl,trivial⟩ ?_
 refine df 21 ?_;refine aJ ?_;refine bl (WP.sub (wG (i:=27) (k:=1) (t:=136) (z:=1) (n:=5) (l:=Ii at9 (nQ y)) 136 rfl rfl rfl rfl (.one .sl)) ?_)
 refine lp (γ:=Nat) (fun k=>bP [(27,.one (.t (.s false 136 1 (nQ y).length (Ii at9 (nQ y))))),(28,iN 5),(29,iN k)]) (fun k=>([]:List Ob).map some) (fun k=>k<=5/\jL (fX (nQ y)) k) (fun k=>5-k) 0 ⟨Nat.zero_le _,wP⟩ (aH h0 [] rfl) fun k hk=>?_
 have hk5:k<5->k<(nQ y).length:=fun h=>h
 refine sq (rl (o1 ?_));refine nl (sq ?_);refine aV rfl (fun h1=>?_) (fun h1=>?_)
 ·refine sk (sq (bl (sq (rl (o1 ?_)))))
  refine cX ([fB false (jQ (nQ y) (k)).1 at9 (jQ (nQ y) (k)).2.1 (jQ (nQ y) (k)).2.2]) (CF at9 (nQ y) (k:=k) (by omega)) ?_
  refine o1 ?_;refine nl (sq (rl (o1 ?_)));by_cases h9:(jQ (nQ y) (k)).2.1=0
  ·refine WL.sub (xE (i:=33) rfl rfl (congrArg (fun z=>FV.one (.t z)) (uX h9))) ?_
   refine o1 ?_;refine nl (dY rfl (sk (rl (o1 ?_))));refine aY 36 (k+1) ?_
   refine o1 ?_;refine nl ?_;exact⟨k+1,by omega,⟨by omega,zV (by show k<5;omega) hk.2 ((qH _ _).trans h9)⟩,aH h0 [] rfl⟩
  refine WL.sub (xE (i:=33) rfl rfl (congrArg (fun z=>FV.one (.t z)) (Dq h9))) ?_
  refine WL.sub (VL (i:=33) rfl rfl) ?_;refine o1 ?_;refine nl (eU rfl (sq (rl (o1 ?_))));refine o1 ?_;refine nl (rt ?_)
  have e9:kR y=(jQ (nQ y) (k)).2.1:=(Yi y).symm.trans ((oK (by show k<5;omega) hk.2 (by rw[qH];exact h9)).trans (qH _ _))
  exact en (.inl rfl) rfl (bB (.one (.id VM))) (by decide) (fun h=>by cases h) ⟨_,_,by rw[e9]⟩
 refine ex (sq (rl (o1 ?_)));refine nl (rt ?_);have hkn:k=5:=by omega
 subst hkn;have e9:kR y=0:=(Yi y).symm.trans (uW (l:=fX (nQ y)) hk.2)
 exact en (.inl rfl) rfl (bB (bO _)) (by decide) (fun h=>by cases h) ⟨0,0,by rw[e9];rfl⟩
theorem Fu {n m:Int}:aE true Tryz.prog 96 [] [.one (tv (.int .i64 n)),.one (tv (.int .i64 m))] (aP (.one (tv (.bool (wO n m))))):=by
 refine bD Tryz.func96 Tryz.ntmps96 fun N9 w9 c0 h0=>?_
 refine sq (rl (o1 ?_));refine nl (sq (rl ?_));(iterate 3 refine o1 ?_);refine WL.split (t:=7) rfl (fun h1=>?_) (fun h1=>?_)
 ·(iterate 5 refine o1 ?_);refine nl (rt ?_)
  exact cG (.inl rfl) rfl (by unfold wO;simp only[decide_eq_true h1,cP,cQ] <;> first | rfl | grind)
 (iterate 3 refine aW ?_);refine o1 ?_;refine o1 ?_;refine nl (rt ?_)
 exact cG (.inl rfl) rfl (by unfold wO;simp only[decide_eq_false h1,cP,cQ] <;> first | rfl | grind)
theorem CG {f:Fil}(hf:OkF f):aE false Tryz.prog 46 [] [.agg ((cZ false f).map .t)] (aP (.one (.t (.s true 4 1 7 ((gM f).map fun b=>.v (.bool b)))))):=by
 refine bD Tryz.func46 Tryz.ntmps46 fun N9 w9 c0 h0=>?_
 refine sq (rl (bx 0 ?_));refine o1 ?_;refine nl (sq (rl (o1 ?_)));refine nl (sq ?_);refine bU [0] [25] ?_
 refine dv 0 ?_;refine aF 1 ?_;refine dv 3 ?_;refine aF 4 ?_;refine dv 6 ?_;refine aF 7 ?_;refine dv 9 ?_;refine dv 10 ?_;refine aF 11 ?_;refine dv 13 ?_;refine dv 14 ?_
 refine aF 15 ?_;refine dv 17 ?_;refine dv 18 ?_;refine aF 19 ?_;refine dv 21 ?_;refine aF 22 ?_;refine aG 2 rfl (mS (hf.th).ok) aA (aM rfl) _ ?_
 refine aG 5 rfl (mS (hf.cp).ok) aA (aM rfl) _ ?_;refine aG 8 rfl (mS (hf.it).ok) aA (aM rfl) _ ?_
 refine AP 12 1 [.one (tv (.int .i64 f.bk)),.one (tv (.int .i64 ((3:Nat):Int)))] rfl rfl (Fu (n:=f.bk) (m:=3)) aA ⟨rfl,rfl,rfl⟩ ?_
 refine AP 16 1 [.one (tv (.int .i64 f.fw)),.one (tv (.int .i64 ((40:Nat):Int)))] rfl rfl (Fu (n:=f.fw) (m:=40)) aA ⟨rfl,rfl,rfl⟩ ?_
 refine AP 20 1 [.one (tv (.int .i64 f.kp)),.one (tv (.int .i64 ((40:Nat):Int)))] rfl rfl (Fu (n:=f.kp) (m:=40)) aA ⟨rfl,rfl,rfl⟩ ?_
 refine aG 23 rfl (qC (hf.fl).ok) aA (aM rfl) _ ?_;refine dA (key:=1) 24 (by kernel_rfl) rfl rfl aR rfl ⟨rfl,trivial⟩ ?_
 refine bM 25 ?_
 refine aJ ?_;refine rt ?_;exact en (.inl rfl) rfl (bB (.one (.sl (trs:=(gM f).map fun b=>.v (.bool b)) rfl rfl rfl rfl))) (by decide) (fun h=>by cases h) rfl
theorem GO {pt e i:Nat}{yr:Int}:yF (.one (.t (fB false pt yr e i)))=.one (.t (fB false pt yr e i)):=by
 unfold fB
 split <;> rfl
theorem VN {f:Fil}(hf:OkF f):∀x∈[f.nm,f.pa],OkS x:=fun x hx=>by
 rcases List.mem_cons.1 hx with rfl | hx
 ·exact hf.nm
 rw[List.mem_singleton]at hx
 rw[hx]
 exact hf.pa
theorem Fv {l:List Yer}{i:Nat}(g:Yer->Nat) (h:i<l.length):nth (l.map g) i=g (aC l i):=by simp[nth,aC,h]
theorem OE {f:Fil}(hf:OkF f):aE false Tryz.prog 19 [] [.agg ((cZ false f).map .t)] (fun _ r=>∃(a:Nat) (b:Int) (c:Nat),r=.tup [.agg [tv (.int .u8 (a:Int)),tv (.int .i64 b),tv (.int .i64 (c:Int))],.one (tv (.int .i64 ((iS f:Nat):Int)))]):=by
 refine bD Tryz.func19 Tryz.ntmps19 fun N9 w9 c0 h0=>?_
 have hysl:=hf.ysl
 refine sq (rl (bx 0 ?_));refine al 1 ?_;refine o1 ?_;refine nl (sq (sq ?_));refine bU [0,1] [] ?_
 refine dv 0 ?_;refine aF 1 ?_;refine dv 2 ?_;refine aF 3 ?_;refine dv 6 ?_;refine aF 7 ?_;refine aF 9 ?_;refine dv 12 ?_;refine aF 13 ?_;refine dv 15 ?_;refine aF 16 ?_
 refine dv 18 ?_;refine aF 19 ?_;refine dv 23 ?_;refine dA (key:=2) 4 (by kernel_rfl) rfl rfl aR rfl ⟨rfl,rfl,trivial⟩ ?_
 refine aG 5 rfl (BN (xs:=[f.nm,f.pa]) (pt:=1) (most:=2) (yr:=(-1)) (VN hf) (by simp)) aA ⟨a1 rfl,a1 rfl,CH rfl (.sl rfl rfl rfl rfl),a1 rfl,a1 rfl,rfl⟩ _ ?_ (hv:=mK)
 refine aG 8 rfl (TO (xs:=f.br) (pt:=2) (most:=16) (yr:=(-1)) hf.br (by have:=hf.brl;omega)) aA ⟨a1 rfl,a1 rfl,a1 rfl,a1 rfl,a1 rfl,rfl⟩ _ ?_ (hv:=mK)
 refine aG 10 rfl (CG hf) aA (aM rfl) _ ?_
 refine aG 11 rfl (TP (xs:=(gM f)) (pt:=3) (most:=7) (yr:=(-1)) (by show 7<=_;omega)) aA ⟨a1 rfl,a1 rfl,a1 rfl,a1 rfl,a1 rfl,rfl⟩ _ ?_ (hv:=mK)
 refine aG 14 rfl (TR (xs:=f.cl) (pt:=4) (most:=64) (yr:=(-1)) hf.cl (by have:=hf.cll;omega)) aA ⟨a1 rfl,a1 rfl,a1 rfl,a1 rfl,a1 rfl,rfl⟩ _ ?_ (hv:=mK)
 refine aG 17 rfl (BN (xs:=f.en) (pt:=5) (most:=256) (yr:=(-1)) hf.en (by have:=hf.enl;omega)) aA ⟨a1 rfl,a1 rfl,a1 rfl,a1 rfl,a1 rfl,rfl⟩ _ ?_ (hv:=mK)
 refine aG 20 rfl (TS (xs:=f.ys) (pt:=6) (most:=40) (yr:=(-1)) (by have:=hf.ysl;omega)) aA ⟨a1 rfl,a1 rfl,a1 rfl,a1 rfl,a1 rfl,rfl⟩ _ ?_ (hv:=mK)
 refine dA (ob':=[some (⟨32,0,(cZ false f).map .t⟩:Ob),some (⟨84,0,[tv (.int .u8 ((0:Nat):Int)),tv (.int .i64 ((0:Nat):Int)),tv (.int .i64 ((0:Nat):Int))]⟩:Ob),some (⟨9,1,[.t (sT f.nm),.t (sT f.pa)]⟩:Ob),some ⟨136,1,[.t (fB false 1 (-1) (dK 2 namB [f.nm,f.pa]) (fK 2 namB [f.nm,f.pa])),.t (fB false 2 (-1) (dK 16 brB f.br) (fK 16 brB f.br)),.t (fB false 3 (-1) (dK 7 id (gM f)) (fK 7 id (gM f))),.t (fB false 4 (-1) (dK 64 clB f.cl) (fK 64 clB f.cl)),.t (fB false 5 (-1) (dK 256 namB f.en) (fK 256 namB f.en)),.t (fB false 6 (-1) (dK 40 yrB f.ys) (fK 40 yrB f.ys))]⟩]) (key:=3) 21 (by kernel_rfl) rfl rfl aR (by rcases nZ 1 (dK 2 namB [f.nm,f.pa]) (fK 2 namB [f.nm,f.pa]) (-1)with g0 | g0 <;> rcases nZ 2 (dK 16 brB f.br) (fK 16 brB f.br) (-1)with g1 | g1 <;> rcases nZ 3 (dK 7 id (gM f)) (fK 7 id (gM f)) (-1)with g2 | g2 <;> rcases nZ 4 (dK 64 clB f.cl) (fK 64 clB f.cl) (-1)with g3 | g3 <;> rcases nZ 5 (dK 256 namB f.en) (fK 256 namB f.en) (-1)with g4 | g4 <;> rcases nZ 6 (dK 40 yrB f.ys) (fK 40 yrB f.ys) (-1)with g5 | g5 <;> (rw[g0,g1,g2,g3,g4,g5];first | done | rfl)) ⟨rfl,rfl,trivial⟩ ?_
 refine df 22 ?_;refine aJ ?_;refine bl (WP.sub (wG (i:=30) (k:=3) (t:=136) (z:=1) (n:=6) (l:=Ii (-1) (gJ f)) 136 rfl rfl rfl rfl (.one .sl)) ?_)
 refine lp (γ:=Nat) (fun k=>bP [(1,pN 0),(2,pN 1),(30,.one (.t (.s false 136 1 (gJ f).length (Ii (-1) (gJ f))))),(31,iN 6),(32,iN k)]) (fun k=>[(⟨32,0,(cZ false f).map .t⟩:Ob),⟨84,0,[tv (.int .u8 ((0:Nat):Int)),tv (.int .i64 ((0:Nat):Int)),tv (.int .i64 ((0:Nat):Int))]⟩].map some) (fun k=>k<=6/\jL (fX (gJ f)) k) (fun k=>6-k) 0 ⟨Nat.zero_le _,wP⟩ (aH h0 [0,1] ⟨aD rfl,oe rfl rfl,rfl⟩) fun k hk=>?_
 have hk6:k<6->k<(gJ f).length:=fun h=>h
 refine sq (rl (o1 ?_));refine nl (sq ?_);refine aV rfl (fun h1=>?_) (fun h1=>?_)
 ·refine sk (sq (bl (sq (rl (o1 ?_)))))
  refine cX ([fB false (jQ (gJ f) (k)).1 (-1) (jQ (gJ f) (k)).2.1 (jQ (gJ f) (k)).2.2]) (CF (-1) (gJ f) (k:=k) (by omega)) ?_
  refine o1 ?_;refine nl (sq (rl (o1 ?_)));by_cases h9:(jQ (gJ f) (k)).2.1=0
  ·refine WL.sub (xE (i:=36) rfl rfl (congrArg (fun z=>FV.one (.t z)) (uX h9))) ?_
   refine WL.sub (xE (i:=5) rfl rfl (congrArg (fun z=>FV.one (.t z)) (uX h9))) ?_
   refine o1 ?_;refine nl (dY rfl (sk (rl (o1 ?_))));refine aY 46 (k+1) ?_
   refine o1 ?_;refine nl ?_
   exact⟨k+1,by omega,⟨by omega,zV (by show k<6;omega) hk.2 ((qH _ _).trans h9)⟩,aH h0 [0,1] ⟨aD rfl,oe rfl rfl,rfl⟩⟩
  refine WL.sub (xE (i:=36) rfl rfl (congrArg (fun z=>FV.one (.t z)) (Dq h9))) ?_
  refine WL.sub (xE (i:=5) rfl rfl (congrArg (fun z=>FV.one (.t z)) (Dq h9))) ?_
  refine WL.sub (VL (i:=36) rfl rfl) ?_;refine o1 ?_;refine nl (eU rfl (sq ?_));refine bU [0] [9] ?_
  refine dv 0 ?_;refine dv 1 ?_;refine dv 2 ?_
  refine dQ 3 ([.v (.int .u8 (((jQ (gJ f) (k)).1:Nat):Int)),.v (.int .i64 (-1)),.v (.int .i64 (((jQ (gJ f) (k)).2.2:Nat):Int))]) rfl ?_;refine dv 4 ?_;refine dv 5 ?_
  refine dv 6 ?_;refine dQ 7 ([.v (.int .i64 (((jQ (gJ f) (k)).2.1:Nat):Int))]) rfl ?_;refine aT 8 ?_
  refine bM 9 ?_
  refine aJ ?_;refine rt ?_
  have e9:iS f=(jQ (gJ f) (k)).2.1:=(Do (by rw[oK (by show k<6;omega) hk.2 (by rw[qH];exact h9),qH];exact h9)).trans ((oK (by show k<6;omega) hk.2 (by rw[qH];exact h9)).trans (qH _ _))
  exact en (.inl rfl) rfl (gP (.cons (.agg (.cons (.id rfl) (.cons (.id rfl) (.cons (.id rfl) .nil)))) (.cons (bO _) .nil))) (by decide) (fun h=>by cases h) ⟨_,_,_,by rw[e9];rfl⟩
 refine ex (sq (sq ?_));have hkn:k=6:=by omega
 subst hkn;have h0f:jZ (fX (gJ f))=0:=uW (l:=fX (gJ f)) hk.2
 refine rl (o1 ?_);refine ld ?_;refine o1 ?_;refine o1 ?_;refine nl (bl ?_)
 refine lp (γ:=Nat) (fun i=>bP [(2,pN 0),(48,.one (.t (xF false f.ys))),(49,iN f.ys.length),(50,iN i)]) (fun i=>[(⟨84,0,[tv (.int .u8 ((0:Nat):Int)),tv (.int .i64 ((0:Nat):Int)),tv (.int .i64 ((0:Nat):Int))]⟩:Ob)].map some) (fun i=>i<=f.ys.length/\jL (f.ys.map kR) i) (fun i=>f.ys.length-i) 0 ⟨Nat.zero_le _,wP⟩ (aH h0 [1] ⟨oe rfl rfl,rfl⟩) fun i hi=>?_
 refine sq (rl (o1 ?_));refine nl (sq ?_);refine aV rfl (fun h2=>?_) (fun h2=>?_)
 ·refine sk (sq (bl (sq (rl (o1 ?_)))));refine o1 ?_
  refine cX ((cV false) (aC f.ys (i))) (cM 6 0 (gE false) (fZ (by omega)) rfl) ?_
  refine al 1 ?_;refine o1 ?_;refine st ?_;refine nl (sq (rl (ld ?_)));refine o1 ?_
  refine VO (VK (y:=aC f.ys (i)) (at9:=((i:Nat):Int)) (hf.ys _ (jB (by omega)))) aA ⟨nD rfl,a1 rfl,rfl⟩ (fun r9 hr9=>?_)
  obtain⟨a9,c9,rfl⟩:=hr9
  rw[GO];refine o1 ?_;refine nl (sq (rl (o1 ?_)));by_cases h8:(kR (aC f.ys (i)))=0
  ·refine WL.sub (xE (i:=58) rfl rfl (congrArg (fun z=>FV.one (.t z)) (uX h8))) ?_
   refine WL.sub (xE (i:=8) rfl rfl (congrArg (fun z=>FV.one (.t z)) (uX h8))) ?_
   refine o1 ?_;refine nl (dY rfl (sk (rl (o1 ?_))));refine aY 68 (i+1) ?_
   refine o1 ?_;refine nl ?_
   exact⟨i+1,by omega,⟨by omega,zV (by rw[dP];omega) hi.2 ((Fv kR (by omega)).trans h8)⟩,aH h0 [0] ⟨oe rfl rfl,rfl⟩⟩
  refine WL.sub (xE (i:=58) rfl rfl (congrArg (fun z=>FV.one (.t z)) (Dq h8))) ?_
  refine WL.sub (xE (i:=8) rfl rfl (congrArg (fun z=>FV.one (.t z)) (Dq h8))) ?_
  refine WL.sub (VL (i:=58) rfl rfl) ?_;refine o1 ?_;refine nl (eU rfl (sq ?_));refine bU [1] [9] ?_
  refine dv 0 ?_;refine dv 1 ?_;refine dv 2 ?_;refine dQ 3 ([.v (.int .u8 ((a9:Nat):Int)),.v (.int .i64 ((i:Nat):Int)),.v (.int .i64 ((c9:Nat):Int))]) rfl ?_;refine dv 4 ?_
  refine dv 5 ?_;refine dv 6 ?_;refine dQ 7 ([.v (.int .i64 (((kR (aC f.ys (i))):Nat):Int))]) rfl ?_;refine aT 8 ?_
  refine bM 9 ?_
  refine aJ ?_;refine rt ?_
  have e9:iS f=(kR (aC f.ys (i))):=(Dp h0f).trans ((oK (by rw[dP];omega) hi.2 (by rw[Fv kR (by omega)];exact h8)).trans (Fv kR (by omega)))
  exact en (.inl rfl) rfl (gP (.cons (.agg (.cons (.id rfl) (.cons (.id rfl) (.cons (.id rfl) .nil)))) (.cons (bO _) .nil))) (by decide) (fun h=>by cases h) ⟨_,_,_,by rw[e9];rfl⟩
 refine ex (sq (rl (o1 ?_)));refine st ?_;refine o1 ?_;refine nl (rt ?_);have hin:i=f.ys.length:=by omega
 subst hin;have e9:iS f=0:=(Dp h0f).trans (uW (by rw[dP];exact hi.2))
 exact en (.inl rfl) rfl (gP (.cons (.agg (.cons (.id rfl) (.cons (.id rfl) (.cons (.id rfl) .nil)))) (.cons (bO _) .nil))) (by decide) (fun h=>by cases h) ⟨0,0,0,by rw[e9];rfl⟩
theorem Dr:∀ls:List (List Nat),NoFrL (ls.map sT)
 | []=>trivial
 | _::ls=>⟨trivial,Dr ls⟩
theorem CI:aE true Tryz.prog 75 [] [] (aP (.one (.t (.s true 9 1 12 (jY.map sT))))):=by
 refine bD Tryz.func75 Tryz.ntmps75 fun N9 w9 c0 h0=>?_
 refine sq (rl (o1 ?_));refine nl (sq (rl (bs 0 ?_)));refine o1 ?_;refine nl (rt ?_)
 exact en (.inl rfl) rfl (bB (.one (.sl (trs:=jY.map sT) rfl rfl rfl rfl))) (by decide) (fun _=>by exact .inl ⟨rfl,Dr _⟩) rfl
theorem OF:aE true Tryz.prog 88 [] [] (aP (.one (.t (.s true 9 1 5 (pW.map sT))))):=by
 refine bD Tryz.func88 Tryz.ntmps88 fun N9 w9 c0 h0=>?_
 refine sq (rl (o1 ?_));refine nl (sq (rl (bs 0 ?_)));refine o1 ?_;refine nl (rt ?_)
 exact en (.inl rfl) rfl (bB (.one (.sl (trs:=pW.map sT) rfl rfl rfl rfl))) (by decide) (fun _=>by exact .inl ⟨rfl,Dr _⟩) rfl
theorem VP {ls:List (List Nat)}{k:Nat}(_:k<ls.length):eQ ls k=ls.getD k []:=rfl
theorem VQ {ls:List (List Nat)}{k:Nat}(h:¬k<ls.length):[]=ls.getD k []:=by
 rw[List.getD_eq_getElem?_getD,List.getElem?_eq_none (by omega)]
 rfl
theorem VR {ls:List (List Nat)}{k:Nat}(hk:k<256):aE true Tryz.prog 74 [] [.one (.t (yB 9 ls)),.one (tv (.int .u8 ((k:Nat):Int)))] (aP (.one (tv (.string (aN (ls.getD k [])))))):=by
 refine bD Tryz.func74 Tryz.ntmps74 fun N9 w9 c0 h0=>?_
 refine sq (rl (o1 ?_));refine nl (sq (sq (rl (o1 ?_))));refine o1 ?_
 refine aY 6 (k) ?_
 (iterate 3 refine o1 ?_);refine nl ?_;refine aV rfl (fun h1=>?_) (fun h1=>?_)
 ·refine sq (rl ?_);(iterate 3 refine o1 ?_);refine cX ([sT (eQ ls (k))]) (nF ls (k:=k) (by omega)) ?_
  refine o1 ?_;refine nl (rt ?_);exact fW (.inl rfl) rfl (congrArg aN (VP (by omega)))
 refine sk (sq (rl (o1 ?_)));refine nl (rt ?_)
 exact fW (.inl rfl) rfl (congrArg aN (VQ (by omega)))
theorem Te {k:Nat}(hk:k<256):aE true Tryz.prog 33 [] [.one (tv (.int .u8 ((k:Nat):Int)))] (aP (.one (tv (.string (aN (jY.getD k [])))))):=by
 refine bD Tryz.func33 Tryz.ntmps33 fun N9 w9 c0 h0=>?_
 refine sq (rl (o1 ?_));refine nl (sq (rl (ca (CI) aA rfl _ ?_)));refine o1 ?_
 refine ca (VR (ls:=jY) hk) aA (cO rfl rfl) _ ?_;refine o1 ?_;refine nl (rt ?_)
 exact en (.inl rfl) rfl (bB (bO _)) (by decide) (fun _=>trivial) rfl
theorem Yj {k:Nat}(hk:k<256):aE true Tryz.prog 39 [] [.one (tv (.int .u8 ((k:Nat):Int)))] (aP (.one (tv (.string (aN (pW.getD k [])))))):=by
 refine bD Tryz.func39 Tryz.ntmps39 fun N9 w9 c0 h0=>?_
 refine sq (rl (o1 ?_));refine nl (sq (rl (ca (OF) aA rfl _ ?_)));refine o1 ?_
 refine ca (VR (ls:=pW) hk) aA (cO rfl rfl) _ ?_;refine o1 ?_;refine nl (rt ?_)
 exact en (.inl rfl) rfl (bB (bO _)) (by decide) (fun _=>trivial) rfl
theorem KS {m:Int}(h1:-9223372036854775808<=m) (h2:m<=9223372036854775807):(dg 4294967296 m.natAbs).length<=2:=by
 have:=(cU h1 h2).1
 rwa[Rat.num_intCast]at this
theorem zW {n:Int}(h1:-9223372036854775808<=n) (h2:n<=9223372036854775807):aE true Tryz.prog 54 [] [.one (tv (.int .i64 n))] (aP (.one (tv (.string (aN (eB n)))))):=by
 refine bD Tryz.func54 Tryz.ntmps54 fun N9 w9 c0 h0=>?_
 refine sq (rl (o1 ?_));refine nl (sq (rl (o1 ?_)));refine ca (vI (n:=n) h1 h2) aA (bC rfl) _ ?_
 refine ca (aAu (k:=n) (Zn.of (k:=n) (eS h1 h2)) (Nat.le_trans (KS h1 h2) (by omega))) aA (aM rfl) _ ?_
 refine o1 ?_;refine nl (rt ?_);exact en (.inl rfl) rfl (bB (bO _)) (by decide) (fun _=>trivial) rfl
theorem GP {x:It}{t:List Nat}(h:qG x=[t]):(bJ [rI,x.s,jY.getD x.k []])++([32]++t)=jV x:=by
 unfold jV
 rw[h,Fw (by simp)]
 rfl
theorem aCs {x:It}(h:qG x=[]):(bJ [rI,x.s,jY.getD x.k []])=jV x:=by
 unfold jV
 rw[h,List.append_nil]
theorem Kc {x:It}(hx:OkI x):aE true Tryz.prog 14 [] [.agg ((nP x).map .t)] (aP (.one (tv (.string (aN (jV x)))))):=by
 refine bD Tryz.func14 Tryz.ntmps14 fun N9 w9 c0 h0=>?_
 have hJ:=zT (Nv hx)
 have hJ2:(bJ [rI,x.s,jY.getD x.k []]).length<=600000003:=Nat.le_trans hJ.2 (by simp)
 have hA:=KJ hx
 refine sq (rl (bx 0 ?_));refine o1 ?_;refine nl (sq ?_);refine bU [0] [7] ?_
 refine dv 0 ?_;refine aF 1 ?_;refine dv 2 ?_;refine aF 3 ?_;refine aG 4 rfl (Te hx.k) aA (bC rfl) _ ?_
 refine dA (key:=1) 5 (by kernel_rfl) rfl rfl aR rfl ⟨rfl,trivial⟩ ?_
 refine dJ (k:=1) (ws:=[rI,x.s,jY.getD x.k []]) 6 rfl Ih rfl (by simp) (Nat.le_trans (zT (Nv hx)).2 (by simp)) ?_
 refine bM 7 ?_
 refine aJ ?_;refine sq (sq (rl (o1 ?_)));refine ld ?_;refine nl (bl (sq (rl (o1 ?_))));refine o1 ?_;refine nl ?_
 refine aV rfl (fun h1=>?_) (fun h1=>?_)
 ·refine rl (o1 ?_);refine o1 ?_;refine ld ?_;refine ca (lO (hx.p).qn (hx.p).sz (by omega)) aA (aM rfl) (.one (tv (.string (aN (bY x.p))))) ?_
  have hq9:=(mD hx.p).2
  refine o1 ?_ (hC:=(by rw[aO];show 1+_<=_;omega))
  refine lZ 19 ([32]++bY x.p) rfl (eK [32] _) ?_
  refine o1 ?_ (hC:=(by rw[aO,aO,cJ];simp only[List.length_cons,List.length_nil];omega))
  refine lZ 20 ((bJ [rI,x.s,jY.getD x.k []])++([32]++bY x.p)) rfl (eK _ _) ?_;refine o1 ?_;refine nl (sq ?_)
  refine rl (o1 ?_);refine o1 ?_;refine nl (rt ?_)
  exact fW (.inl rfl) rfl (congrArg aN (GP (by unfold qG;rw[if_pos (by omega)])))
 refine sq (rl (o1 ?_));refine o1 ?_;refine nl ?_;refine aV rfl (fun h2=>?_) (fun h2=>?_)
 ·refine rl (o1 ?_);refine o1 ?_;refine ld ?_;refine ca (uT (hx.p).qn (hx.p).sz (by omega)) aA (aM rfl) (.one (tv (.string (aN (dZ x.p))))) ?_
  have hq9:=(pM hx.p).2
  refine o1 ?_ (hC:=(by rw[aO];show 1+_<=_;omega))
  refine lZ 27 ([32]++dZ x.p) rfl (eK [32] _) ?_
  refine o1 ?_ (hC:=(by rw[aO,aO,cJ];simp only[List.length_cons,List.length_nil];omega))
  refine lZ 28 ((bJ [rI,x.s,jY.getD x.k []])++([32]++dZ x.p)) rfl (eK _ _) ?_;refine o1 ?_;refine nl (sq ?_)
  refine rl (o1 ?_);refine o1 ?_;refine nl (rt ?_)
  exact fW (.inl rfl) rfl (congrArg aN (GP (by unfold qG;rw[if_neg (by omega)];rw[if_pos (by omega)])))
 refine sq (rl (o1 ?_));refine o1 ?_;refine nl ?_;refine aV rfl (fun h3=>?_) (fun h3=>?_)
 ·refine rl (o1 ?_);refine o1 ?_;refine ld ?_;refine ca (Xt (n:=0) (hx.p).qn (hx.p).sz (by omega)) aA ⟨nD rfl,a1 rfl,rfl⟩ (.one (tv (.string (aN (Cd x.p))))) ?_
  have hq9:=(Yd hx.p).2
  refine o1 ?_ (hC:=(by rw[aO];show 1+_<=_;omega))
  refine lZ 35 ([32]++Cd x.p) rfl (eK [32] _) ?_
  refine o1 ?_ (hC:=(by rw[aO,aO,cJ];simp only[List.length_cons,List.length_nil];omega))
  refine lZ 36 ((bJ [rI,x.s,jY.getD x.k []])++([32]++Cd x.p)) rfl (eK _ _) ?_;refine o1 ?_;refine nl (sq ?_)
  refine rl (o1 ?_);refine o1 ?_;refine nl (rt ?_)
  exact fW (.inl rfl) rfl (congrArg aN (GP (by unfold qG;rw[if_neg (by omega)];rw[if_neg (by omega)];rw[if_pos (by omega)])))
 refine sk (sq (rl (o1 ?_)));refine o1 ?_;refine nl (rt ?_)
 exact fW (.inl rfl) rfl (congrArg aN (aCs (by unfold qG;rw[if_neg (by omega),if_neg (by omega),if_neg (by omega)])))
end Go.Proofs.YtimiaildfkimfaaGreatDoor
namespace Go.Proofs.YtimiaildfkimfaaGreatDoor
open Go Go.RowKit Go.Maps
def Yk:Value->Option (DataW Unit×List MemPlace)
 | .string s=>some (.lit (.string s.data.toList),[])
 | _=>none
theorem GQ {v:Value}{d:List UInt8}{ps:List MemPlace}(h:Yk v=some (.lit (.string d),ps)):v=.string ⟨d.toArray⟩:=by
 cases v <;> simp[Yk]at h
 rename_i s
 obtain⟨rfl,_⟩:=h
 rfl
section
variable {x:Cx}{g g':Nat->FV}{ob ob':List (Option Ob)}{cs cs':List Co}{ts ts':Array Value}{W W':World}{T:List (Nat×TI)}{Q:Post}{ops:Array Oper}{rest:List Oper}
variable {d:Nat}{ty:TypeId}{pos:String}{af:Array Edge}{gd:Option (Nat×Bool)}
def aAV (x:Cx) (t m:Nat) (A B:List UInt8) (ts:Array Value) (W:World):Prop:=∃r,ts[m]? =some (.map (some r))/\r<W.heap.size/\∀w3:World,w3.heap[r]? =W.heap[r]? ->∀q:Bool,(Instr.lookup t (.map (some r)) (.bool q) false).run x.P w3=.ok (.string ⟨(cond q A B).toArray⟩) w3
def WM (x:Cx) (t m:Nat) (A B:List UInt8) (ops:Array Oper) (rest:List Oper) (g:Nat->FV) (ob:List (Option Ob)) (Q:Post):Prop:=∀ts W,Gz x g ob ts W->aAV x t m A B ts W->wpList x.P ops (Lf x Q) rest ⟨ts,[]⟩ W
theorem KT {o:Oper}{t m:Nat}{A B:List UInt8}{R:(Nat->FV)->List (Option Ob)->Prop}(h:OS x o g ob [] R) (hd:o.dst≠some m) (hw:bK ops x.n g o.guard=some true) (k:∀g' ob',R g' ob'->WM x t m A B ops rest g' ob' Q):WM x t m A B ops (o::rest) g ob Q:=fun ts W ⟨cs,hR⟩ ⟨r,h1,h2,h3⟩=>
 Bk (lW hw hR) (h cs ts W hR _ _ fun g' ob' cs' ts' W' hr hR' ha=>k g' ob' hr ts' W' ⟨cs',hR'⟩ ⟨r,(ha.fr m hd).trans h1,Nat.lt_of_lt_of_le h2 ha.size,fun w3 e=>h3 w3 (e.trans (ha.keep r h2 (by simp)))⟩)
theorem VS {t m:Nat}{A B:List UInt8}{a b:Operand}{q:Bool}(ha:a=.tmp m) (hb:lk x.n g b=.one (tv (.bool q))) (hw:bK ops x.n g gd=some true) (k:WL x ops rest (bG g d (.one (tv (.string ⟨(cond q A B).toArray⟩)))) ob Q):WM x t m A B ops (⟨some d,.lookup t a b false,ty,pos,af,gd⟩::rest) g ob Q:=fun ts W ⟨cs,hR⟩ ⟨r,h1,h2,h3⟩=>by
 subst ha
 have e1:Act.eval ⟨ts,[]⟩ (.tmp m)=.map (some r):=by simp[Act.eval,h1]
 have e2:=hR.lk b
 rw[hb]at e2
 have e2:=bE e2
 refine Bk (lW hw hR) (eN (v:=.string ⟨(cond q A B).toArray⟩) (w':=W) ?_ (k _ _ ⟨cs,hR.put d (v:=.one (tv (.string ⟨(cond q A B).toArray⟩))) (by simp[bV,cE,tv,AR,FR])⟩))
 simp only[execOp,e1,e2,Sem.run_bind,h3 W rfl q,Result.andThen_ok,Sem.run_pure]
theorem aAW {t kt et d2:Nat}{A B:ByteArray}{ty1 ty2 ty3 ty4:TypeId}{p1 p2 p3 p4:String}{a1 a2 a3 a4:Array Edge}(ht:x.P.underlying t=some (.map kt et)) (hk:x.P.underlying kt=some .bool) (he:∀w,(zeroValue et).run x.P w=.ok (.string ⟨#[]⟩) w) (hne:d≠d2)
  (h9:bK ops x.n g none=some true) (hn:Nat.blt d x.n=true) (hn2:Nat.blt d2 x.n=true) (k:WM x t d2 A.data.toList B.data.toList ops rest (bG (bG g d .any) d2 .any) ob Q):
  WL x ops (⟨some d,.makeMap t none,ty1,p1,a1,none⟩::⟨none,.insert t (.tmp d) (.const (.bool true)) (.const (.string A)),ty2,p2,a2,none⟩::⟨none,.insert t (.tmp d) (.const (.bool false)) (.const (.string B)),ty3,p3,a3,none⟩::⟨some d2,.move (.tmp d),ty4,p4,a4,none⟩::rest) g ob Q:=fun ts W ⟨cs,hR⟩=>by
 have hs:ts.size=x.n:=hR.1
 have hdl:d<ts.size:=by rw[hs];simpa[Nat.blt_eq]using hn
 have hdl2:d2<ts.size:=by rw[hs];simpa[Nat.blt_eq]using hn2
 have K:Keyed x.P kt:=bool_keyed hk
 refine wpList_plain rfl fun K0 hK0=>eN (v:=.map (some W.heap.size)) (w':=W.alloc (.map #[] 0)) (by simp only[execOp,run_makeMap];first | rfl | simp) (hK0 _ _ ?_)
 have hm0:=World.ownsMap_made (H:=Unit) W x.P kt Yk
 obtain⟨w1,r1,hm1,g1⟩:=hm0.update K ht (by unfold maxLen;omega) (key:=.bool true) (val:=.string A) (keyOf_bool_mk hk true) rfl
 obtain⟨w2,r2,hm2,g2⟩:=hm1.update K ht (by unfold maxLen;omega) (key:=.bool false) (val:=.string B) (keyOf_bool_mk hk false) rfl
 have b0:Below W.heap.size W (W.alloc (.map #[] 0)):=(Below.refl _ W).alloc (aX _) _
 have hb2:Below W.heap.size W w2:=⟨g2.os.trans (g1.os.trans b0.os),g2.tape.trans (g1.tape.trans b0.tape),g2.output.trans (g1.output.trans b0.output),Nat.le_trans b0.size (Nat.le_trans g1.size g2.size),fun j hj=>by
  have hj1:j<(W.alloc (.map #[] 0)).heap.size:=Nat.lt_of_lt_of_le hj b0.size
  exact(g2.block j (Nat.lt_of_lt_of_le hj1 g1.size) (by simp;omega)).trans ((g1.block j hj1 (by simp;omega)).trans (b0.block j hj))⟩
 have e1:Act.eval ⟨ts.setIfInBounds d (.map (some W.heap.size)),[]⟩ (.tmp d)=.map (some W.heap.size):=by simp[Act.eval,hdl]
 have c1:Act.eval ⟨ts.setIfInBounds d (.map (some W.heap.size)),[]⟩ (.const (.bool true))=.bool true:=rfl
 have c2:Act.eval ⟨ts.setIfInBounds d (.map (some W.heap.size)),[]⟩ (.const (.bool false))=.bool false:=rfl
 have c3:Act.eval ⟨ts.setIfInBounds d (.map (some W.heap.size)),[]⟩ (.const (.string A))=.string A:=rfl
 have c4:Act.eval ⟨ts.setIfInBounds d (.map (some W.heap.size)),[]⟩ (.const (.string B))=.string B:=rfl
 refine wpList_plain rfl fun K1 hK1=>?_
 unfold Oper.wp
 simp only[execOp,Act.put,e1,c1,c3,Sem.run_bind,r1,Result.andThen_ok,Sem.run_pure]
 refine hK1 _ _ ?_
 refine wpList_plain rfl fun K2 hK2=>?_
 unfold Oper.wp
 simp only[execOp,Act.put,e1,c2,c4,Sem.run_bind,r2,Result.andThen_ok,Sem.run_pure]
 refine hK2 _ _ ?_
 refine wpList_plain rfl fun K3 hK3=>eN (v:=.map (some W.heap.size)) (w':=w2) (by simp only[execOp,Sem.run_pure];exact congrArg (fun z=>Result.ok (Next.value z) w2) e1) (hK3 _ _ ?_)
 refine k _ _ ⟨cs,((hR.ext hb2).put d (v:=.any) (by simp[bV,cE])).put d2 (v:=.any) (by simp[bV,cE])⟩ ⟨W.heap.size,by simp[Act.put,hdl2],hm2.lt,fun w3 hw q=>?_⟩
 have hm3:w3.ownsMap x.P kt Yk W.heap.size 2 (((DataW.map []).put (.bool true) (.lit (.string A.data.toList))).put (.bool false) (.lit (.string B.data.toList))):=by
  obtain⟨es,clock,q1,q2⟩:=hm2
  exact⟨es,clock,hw.trans q1,q2⟩
 obtain⟨v,ps,hrun,hv⟩:=hm3.lookup K ht (he w3) (zd:=.lit (.string [])) (zp:=[]) rfl (keyOf_bool_mk hk q)
 rw[hrun]
 have:v=.string ⟨(cond q A.data.toList B.data.toList).toArray⟩:=GQ (ps:=ps) (hv.trans (by cases q <;> rfl))
 rw[this]
end
end Go.Proofs.YtimiaildfkimfaaGreatDoor
