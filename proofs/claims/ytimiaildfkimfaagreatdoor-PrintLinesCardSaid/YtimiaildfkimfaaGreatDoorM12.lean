/- Part 12 of a proof: U5 to Lf. -/
import Derived.Test.YtimiaildfkimfaaGreatDoorM11
import Derived.Test.YtimiaildfkimfaaGreatDoorM10
import Derived.Test.YtimiaildfkimfaaGreatDoorM9
set_option maxRecDepth 100000
set_option linter.unusedVariables false
set_option linter.unusedSimpArgs false
namespace Go.Proofs.YtimiaildfkimfaaGreatDoor
open Go Go.RowKit
theorem Ft {l m:List Nat}{a:Nat}(hl:Lim 256 l) (hm:l.drop a=m) (ha:a<=10000000) (hn9:l.length<=10000000):aE true Tryz.prog 225 [] [.one (tv (.string (aN l))),.one (tv (.int .i64 ((a:Nat):Int)))] (aP (.one (tv (.int .i64 (((wh m).length:Nat):Int))))):=by
 refine bD Tryz.func225 Tryz.ntmps225 fun N9 w9 c0 h0=>?_
 have hwl9:(wh m).length<=l.length:=by rw[<-hm];exact Nat.le_trans (Hr _) (by rw[List.length_drop];omega)
 refine sq (rl (o1 ?_));refine nl (sq (rl (o1 ?_)));refine nl (sq (bl ?_))
 refine lp (γ:=Nat) (fun s=>bP [(0,.one (tv (.string (aN l)))),(1,iN a),(5,iN s)]) (fun s=>([]:List Ob).map some) (fun s=>s<=(wh m).length) (fun s=>l.length-s) 0 (Nat.zero_le _) (aH h0 [] rfl) ?_
 rintro n hn;refine sq (sq (rl ?_));(iterate 3 refine o1 ?_);refine aY 8 (a+n) ?_
 refine o1 ?_;refine o1 ?_;refine WL.cast (t:=10) (u':=.int .i64 ((l.length:Nat):Int)) rfl (congrArg (fun n:Nat=>Value.int .i64 (n:Int)) (aO _)) ?_
 refine o1 ?_;refine o1 ?_;refine WL.split (t:=12) rfl (fun h1=>?_) (fun h1=>?_)
 ·(iterate 4 refine o1 ?_);refine aY 16 (a+n) ?_
  refine o1 ?_ (hC:=(by rw[aO];omega))
  refine WL.cast (t:=17) (u':=.int .u8 (((nth l (a+n)):Nat):Int)) rfl (congrArg (fun n:Nat=>Value.int .u8 (n:Int)) (jJ (i:=a+n) (by omega) (fE hl (by omega)))) ?_
  (iterate 3 refine o1 ?_);refine WL.split (t:=20) rfl (fun h2=>?_) (fun h2=>?_)
  ·(iterate 4 refine o1 ?_);refine aY 24 (a+n) ?_
   refine o1 ?_ (hC:=(by rw[aO];omega))
   refine WL.cast (t:=25) (u':=.int .u8 (((nth l (a+n)):Nat):Int)) rfl (congrArg (fun n:Nat=>Value.int .u8 (n:Int)) (jJ (i:=a+n) (by omega) (fE hl (by omega)))) ?_
   refine o1 ?_;refine o1 ?_;refine nl ?_;refine aV rfl (fun h3=>?_) (fun h3=>?_)
   ·refine sk (bl (rl (o1 ?_)));refine o1 ?_;refine aY 29 (n+1) ?_
    refine o1 ?_;refine nl ?_;exact⟨n+1,by omega,aCd hm hn (by omega) (by omega) (by omega),aH h0 [] rfl⟩
   refine ex (sq (rl (o1 ?_)));refine o1 ?_;refine nl (rt ?_);have he:=GA hm hn (.inr (by omega))
   exact Ho (.inl rfl) rfl (by rw[he])
  (iterate 6 refine aW ?_);refine o1 ?_;refine nl (dY rfl (ex (sq (rl (o1 ?_)))));refine o1 ?_;refine nl (rt ?_)
  have he:=GA hm hn (.inr (by omega))
  exact Ho (.inl rfl) rfl (by rw[he])
 (iterate 6 refine aW ?_);refine o1 ?_;refine o1 ?_;(iterate 6 refine aW ?_);refine o1 ?_;refine nl (dY rfl (ex (sq (rl (o1 ?_)))));refine o1 ?_
 refine nl (rt ?_);have he:=GA hm hn (.inl (by omega))
 exact Ho (.inl rfl) rfl (by rw[he])
theorem UD {m:List Nat}(h:(wh m).length=0\/(1<(wh m).length/\nth m 0=48)):b1 m=true:=by
 unfold b1
 simpa using h
theorem UE {m:List Nat}(h:¬((wh m).length=0\/(1<(wh m).length/\nth m 0=48))):b1 m=false:=by
 unfold b1
 rw[Bool.eq_false_iff]
 intro h2
 exact h (by simpa using h2)
theorem Ui {l:List Nat}{a b:Nat}{c:Bool}(hB:mH (bL l)=false) (ha:a=(wh (bL l)).length) (hb:b=(pl (bL l)).length) (hc:c=decide ((rr (bL l))=[])):FV.tup [.one (tv (.int .i64 ((a:Nat):Int))),.one (tv (.int .i64 ((b:Nat):Int))),.one (tv (.bool c))]=FV.tup [.one (tv (.int .i64 ((Bx l:Nat):Int))),.one (tv (.int .i64 ((By l:Nat):Int))),.one (tv (.bool (Hu l)))]:=by
 unfold Bx By Hu
 rw[hB,ha,hb,hc]
 rfl
theorem UF {l:List Nat}(hl:Lim 256 l) (hn9:l.length<=1000000):aE true Tryz.prog 183 [] [.one (tv (.string (aN l)))] (aP (.tup [.one (tv (.int .i64 ((Bx l:Nat):Int))),.one (tv (.int .i64 ((By l:Nat):Int))),.one (tv (.bool (Hu l)))])):=by
 refine bD Tryz.func183 Tryz.ntmps183 fun N9 w9 c0 h0=>?_
 have hal:=yC l
 have hwl:=Hr (bL l)
 have ha1:kC l<=1:=by unfold kC;split <;> omega
 refine sq (rl ?_);(iterate 3 refine o1 ?_);refine nl (sq (rl (o1 ?_)));refine nl ?_
 refine md (γ:=Unit) (fun _=>bP [(0,.one (tv (.string (aN l)))),(5,iN (kC l))]) (fun _=>([]:List Ob).map some) (fun _=>True) ?_ fun _ _=>?_
 ·refine sq (rl (o1 ?_));refine o1 ?_;refine WL.cast (t:=10) (u':=.int .i64 ((l.length:Nat):Int)) rfl (congrArg (fun n:Nat=>Value.int .i64 (n:Int)) (aO _)) ?_
  refine o1 ?_;refine o1 ?_;refine WL.split (t:=12) rfl (fun h1=>?_) (fun h1=>?_)
  ·refine o1 ?_;refine o1 ?_ (hC:=(by rw[aO];show 0<l.length;omega))
   refine WL.cast (t:=14) (u':=.int .u8 (((nth l (0)):Nat):Int)) rfl (congrArg (fun n:Nat=>Value.int .u8 (n:Int)) (jJ (i:=0) (by omega) (fE hl (by omega)))) ?_
   refine o1 ?_;refine o1 ?_;refine nl ?_;refine aV rfl (fun h2=>?_) (fun h2=>?_)
   ·refine rl (o1 ?_);refine nl ?_;exact⟨(),trivial,dC h0 [] _ _ (by decide) ⟨rfl,vK (by rw[aAq (by omega) (by omega)];rfl),trivial⟩ rfl⟩
   refine sk ?_;exact⟨(),trivial,dC h0 [] _ _ (by decide) ⟨rfl,vK (by rw[KB (by omega)];rfl),trivial⟩ rfl⟩
  (iterate 3 refine aW ?_);refine o1 ?_;refine nl (dY rfl (sk ?_));exact⟨(),trivial,dC h0 [] _ _ (by decide) ⟨rfl,vK (by rw[KB (by omega)];rfl),trivial⟩ rfl⟩
 refine sq (rl (o1 ?_));refine o1 ?_
 refine ca (Ft (m:=bL l) hl (zO l) (by omega) (by omega)) aA (cO rfl rfl) _ ?_
 refine o1 ?_;refine nl (sq (sq ?_));have h00:nth (bL l) 0=nth l (kC l):=tK (n:=0) (zO l)
 refine rl ?_;(iterate 3 refine o1 ?_);refine WL.split (t:=22) rfl (fun h3=>?_) (fun h3=>?_)
 ·(iterate 8 refine aW ?_);refine o1 ?_;refine nl (eU rfl (sq (rl ?_)));(iterate 3 refine o1 ?_);refine nl (rt ?_)
  have hB:mH (bL l)=true:=by unfold mH;rw[UD (by omega)];rfl
  exact en (.inl rfl) rfl (lD (.cons (bO _) (.cons (bO _) (.cons (bO _) .nil)))) (by decide) (fun _=>⟨trivial,trivial,trivial,trivial⟩) (by unfold Bx By Hu;rw[hB];rfl)
 (iterate 3 refine o1 ?_);refine WL.split (t:=25) rfl (fun h4=>?_) (fun h4=>?_)
 ·refine o1 ?_;refine o1 ?_;refine o1 ?_ (hC:=(by rw[aO];omega))
  refine WL.cast (t:=28) (u':=.int .u8 (((nth l (kC l)):Nat):Int)) rfl (congrArg (fun n:Nat=>Value.int .u8 (n:Int)) (jJ (i:=kC l) (by omega) (fE hl (by omega)))) ?_
  (iterate 3 refine o1 ?_);refine nl ?_;refine aV rfl (fun h5=>?_) (fun h5=>?_)
  ·refine sq (rl ?_);(iterate 3 refine o1 ?_);refine nl (rt ?_);have hB:mH (bL l)=true:=by unfold mH;rw[UD (by omega)];rfl
   exact en (.inl rfl) rfl (lD (.cons (bO _) (.cons (bO _) (.cons (bO _) .nil)))) (by decide) (fun _=>⟨trivial,trivial,trivial,trivial⟩) (by unfold Bx By Hu;rw[hB];rfl)
  refine sk (sq ?_);have hb1:b1 (bL l)=false:=UE (by omega)
  refine rl ?_;(iterate 3 refine o1 ?_);refine aY 34 ((kC l)+((wh (bL l)).length)) ?_
  refine o1 ?_;refine nl (sq (rl (o1 ?_)));refine nl (sq (sq (rl ?_)));(iterate 3 refine o1 ?_)
  refine WL.cast (t:=37) (u':=.int .i64 ((l.length:Nat):Int)) rfl (congrArg (fun n:Nat=>Value.int .i64 (n:Int)) (aO _)) ?_
  refine o1 ?_;refine o1 ?_;refine WL.split (t:=39) rfl (fun h6=>?_) (fun h6=>?_)
  ·refine o1 ?_;refine o1 ?_;refine o1 ?_ (hC:=(by rw[aO];omega))
   refine WL.cast (t:=42) (u':=.int .u8 (((nth l (kC l+(wh (bL l)).length)):Nat):Int)) rfl (congrArg (fun n:Nat=>Value.int .u8 (n:Int)) (jJ (i:=kC l+(wh (bL l)).length) (by omega) (fE hl (by omega)))) ?_
   refine o1 ?_;refine o1 ?_;refine nl ?_;refine aV rfl (fun h7=>?_) (fun h7=>?_)
   ·refine sq ?_;have hp:=KC (l:=l) (by omega) (by omega)
    have hpw:=KD hp
    have hpwl:=congrArg List.length hpw
    have hly:=KE hp
    refine rl ?_;(iterate 3 refine o1 ?_);refine aY 47 ((kC l)+((wh (bL l)).length)+1) ?_
    refine ca (Ft (m:=Ht (fH (bL l))) hl (Ue hp) (by omega) (by omega)) aA (cO rfl rfl) _ ?_
    refine o1 ?_;refine nl (sq (sq (rl (o1 ?_))));refine o1 ?_;refine nl ?_;refine aV rfl (fun h8=>?_) (fun h8=>?_)
    ·refine sq (rl ?_);(iterate 3 refine o1 ?_);refine nl (rt ?_)
     have hB:mH (bL l)=true:=by unfold mH b2;rw[hp,<-hpw,decide_eq_true (by omega),Bool.true_and,Bool.or_true]
     exact en (.inl rfl) rfl (lD (.cons (bO _) (.cons (bO _) (.cons (bO _) .nil)))) (by decide) (fun _=>⟨trivial,trivial,trivial,trivial⟩) (by unfold Bx By Hu;rw[hB];rfl)
    refine sk (rl (o1 ?_));refine o1 ?_;refine aY 52 ((kC l)+((wh (bL l)).length)+1) ?_
    refine o1 ?_;refine o1 ?_;refine aY 54 ((kC l)+((wh (bL l)).length)+1+((wh (Ht (fH (bL l)))).length)) ?_
    refine o1 ?_;refine nl (sq (rl ?_));(iterate 5 refine o1 ?_)
    refine WL.cast (t:=59) (u':=.int .i64 ((l.length:Nat):Int)) rfl (congrArg (fun n:Nat=>Value.int .i64 (n:Int)) (aO _)) ?_
    (iterate 4 refine o1 ?_);refine nl (rt ?_);have hB:mH (bL l)=false:=by unfold mH b2;rw[hb1,hp,<-hpw,decide_eq_false (by omega)];rfl
    have hq9:=congrArg List.length hpw
    exact en (.inl rfl) rfl (lD (.cons (bO _) (.cons (bO _) (.cons (bO _) .nil)))) (by decide) (fun _=>⟨trivial,trivial,trivial,trivial⟩) (Ui hB rfl (congrArg List.length hpw) (decide_eq_decide.2 (by rw[Uf];omega)))
   refine sk (sq (rl ?_));(iterate 5 refine o1 ?_)
   refine WL.cast (t:=59) (u':=.int .i64 ((l.length:Nat):Int)) rfl (congrArg (fun n:Nat=>Value.int .i64 (n:Int)) (aO _)) ?_
   (iterate 4 refine o1 ?_);refine nl (rt ?_);have hp:=Nq (l:=l) (by omega)
   have hpl:=uM hp
   have hln:=Ns hp
   have hB:mH (bL l)=false:=by unfold mH b2;rw[hb1,hp];rfl
   exact en (.inl rfl) rfl (lD (.cons (bO _) (.cons (bO _) (.cons (bO _) .nil)))) (by decide) (fun _=>⟨trivial,trivial,trivial,trivial⟩) (Ui hB rfl (by rw[hpl];rfl) (decide_eq_decide.2 (by rw[Uf];omega)))
  (iterate 4 refine aW ?_);refine o1 ?_;refine nl (dY rfl (sk (sq (rl ?_))));(iterate 5 refine o1 ?_)
  refine WL.cast (t:=59) (u':=.int .i64 ((l.length:Nat):Int)) rfl (congrArg (fun n:Nat=>Value.int .i64 (n:Int)) (aO _)) ?_
  (iterate 4 refine o1 ?_);refine nl (rt ?_);have hp:=Nq (l:=l) (by omega)
  have hpl:=uM hp
  have hln:=Ns hp
  have hB:mH (bL l)=false:=by unfold mH b2;rw[hb1,hp];rfl
  exact en (.inl rfl) rfl (lD (.cons (bO _) (.cons (bO _) (.cons (bO _) .nil)))) (by decide) (fun _=>⟨trivial,trivial,trivial,trivial⟩) (Ui hB rfl (by rw[hpl];rfl) (decide_eq_decide.2 (by rw[Uf];omega)))
 (iterate 4 refine aW ?_);refine o1 ?_;refine o1 ?_;refine nl (dY rfl (sk (sq ?_)));have hb1:b1 (bL l)=false:=UE (by omega)
 refine rl ?_;(iterate 3 refine o1 ?_);refine aY 34 ((kC l)+((wh (bL l)).length)) ?_
 refine o1 ?_;refine nl (sq (rl (o1 ?_)));refine nl (sq (sq (rl ?_)));(iterate 3 refine o1 ?_)
 refine WL.cast (t:=37) (u':=.int .i64 ((l.length:Nat):Int)) rfl (congrArg (fun n:Nat=>Value.int .i64 (n:Int)) (aO _)) ?_
 refine o1 ?_;refine o1 ?_;refine WL.split (t:=39) rfl (fun h9=>?_) (fun h9=>?_)
 ·refine o1 ?_;refine o1 ?_;refine o1 ?_ (hC:=(by rw[aO];omega))
  refine WL.cast (t:=42) (u':=.int .u8 (((nth l (kC l+(wh (bL l)).length)):Nat):Int)) rfl (congrArg (fun n:Nat=>Value.int .u8 (n:Int)) (jJ (i:=kC l+(wh (bL l)).length) (by omega) (fE hl (by omega)))) ?_
  refine o1 ?_;refine o1 ?_;refine nl ?_;refine aV rfl (fun h10=>?_) (fun h10=>?_)
  ·refine sq ?_;have hp:=KC (l:=l) (by omega) (by omega)
   have hpw:=KD hp
   have hpwl:=congrArg List.length hpw
   have hly:=KE hp
   refine rl ?_;(iterate 3 refine o1 ?_);refine aY 47 ((kC l)+((wh (bL l)).length)+1) ?_
   refine ca (Ft (m:=Ht (fH (bL l))) hl (Ue hp) (by omega) (by omega)) aA (cO rfl rfl) _ ?_
   refine o1 ?_;refine nl (sq (sq (rl (o1 ?_))));refine o1 ?_;refine nl ?_;refine aV rfl (fun h11=>?_) (fun h11=>?_)
   ·refine sq (rl ?_);(iterate 3 refine o1 ?_);refine nl (rt ?_)
    have hB:mH (bL l)=true:=by unfold mH b2;rw[hp,<-hpw,decide_eq_true (by omega),Bool.true_and,Bool.or_true]
    exact en (.inl rfl) rfl (lD (.cons (bO _) (.cons (bO _) (.cons (bO _) .nil)))) (by decide) (fun _=>⟨trivial,trivial,trivial,trivial⟩) (by unfold Bx By Hu;rw[hB];rfl)
   refine sk (rl (o1 ?_));refine o1 ?_;refine aY 52 ((kC l)+((wh (bL l)).length)+1) ?_
   refine o1 ?_;refine o1 ?_;refine aY 54 ((kC l)+((wh (bL l)).length)+1+((wh (Ht (fH (bL l)))).length)) ?_
   refine o1 ?_;refine nl (sq (rl ?_));(iterate 5 refine o1 ?_)
   refine WL.cast (t:=59) (u':=.int .i64 ((l.length:Nat):Int)) rfl (congrArg (fun n:Nat=>Value.int .i64 (n:Int)) (aO _)) ?_
   (iterate 4 refine o1 ?_);refine nl (rt ?_);have hB:mH (bL l)=false:=by unfold mH b2;rw[hb1,hp,<-hpw,decide_eq_false (by omega)];rfl
   have hq9:=congrArg List.length hpw
   exact en (.inl rfl) rfl (lD (.cons (bO _) (.cons (bO _) (.cons (bO _) .nil)))) (by decide) (fun _=>⟨trivial,trivial,trivial,trivial⟩) (Ui hB rfl (congrArg List.length hpw) (decide_eq_decide.2 (by rw[Uf];omega)))
  refine sk (sq (rl ?_));(iterate 5 refine o1 ?_)
  refine WL.cast (t:=59) (u':=.int .i64 ((l.length:Nat):Int)) rfl (congrArg (fun n:Nat=>Value.int .i64 (n:Int)) (aO _)) ?_
  (iterate 4 refine o1 ?_);refine nl (rt ?_);have hp:=Nq (l:=l) (by omega)
  have hpl:=uM hp
  have hln:=Ns hp
  have hB:mH (bL l)=false:=by unfold mH b2;rw[hb1,hp];rfl
  exact en (.inl rfl) rfl (lD (.cons (bO _) (.cons (bO _) (.cons (bO _) .nil)))) (by decide) (fun _=>⟨trivial,trivial,trivial,trivial⟩) (Ui hB rfl (by rw[hpl];rfl) (decide_eq_decide.2 (by rw[Uf];omega)))
 (iterate 4 refine aW ?_);refine o1 ?_;refine nl (dY rfl (sk (sq (rl ?_))));(iterate 5 refine o1 ?_)
 refine WL.cast (t:=59) (u':=.int .i64 ((l.length:Nat):Int)) rfl (congrArg (fun n:Nat=>Value.int .i64 (n:Int)) (aO _)) ?_
 (iterate 4 refine o1 ?_);refine nl (rt ?_);have hp:=Nq (l:=l) (by omega)
 have hpl:=uM hp
 have hln:=Ns hp
 have hB:mH (bL l)=false:=by unfold mH b2;rw[hb1,hp];rfl
 exact en (.inl rfl) rfl (lD (.cons (bO _) (.cons (bO _) (.cons (bO _) .nil)))) (by decide) (fun _=>⟨trivial,trivial,trivial,trivial⟩) (Ui hB rfl (by rw[hpl];rfl) (decide_eq_decide.2 (by rw[Uf];omega)))
theorem aAw:((1:Int):Rat)=((10^0:Nat):Rat):=rfl
theorem aAx (k:Nat):((10^k:Nat):Rat)*((10:Int):Rat)=((10^(k+1):Nat):Rat):=by
 rw[Nat.pow_succ,Rat.natCast_mul]
 rfl
theorem Xy {c:Nat}(hc:c<=1000000):aE false Tryz.prog 115 [] [.one (tv (.int .i64 ((c:Nat):Int)))] (aP (qF (.of ((10^c:Nat):Rat)))):=by
 refine bD Tryz.func115 Tryz.ntmps115 fun N9 w9 c0 h0=>?_
 refine sq (rl (al 0 ?_));refine nl (sq (rl (ca (jP (n:=1) (by omega) (by omega)) aA (bC rfl) _ ?_)))
 refine al 1 ?_;refine st ?_;refine nl (sq (sq (rl (o1 ?_))));refine nl (bl ?_)
 refine lp (γ:=Nat) (fun s=>bP [(0,iN c),(2,pN 0),(3,pN 1),(4,iN s)]) (fun s=>[(⟨38,0,[tv (.bool false),tv (.slice none 0 0),tv (.bool false),tv (.slice none 0 0)]⟩:Ob),⟨38,0,((Fr4.of ((10^s:Nat):Rat)).tr false).map .t⟩].map some) (fun s=>s<=c) (fun s=>c-s) 0 (Nat.zero_le _) (aH h0 [0,1] ⟨oe rfl rfl,aD (congrArg (fun q=>some (⟨38,0,((Fr4.of q).tr false).map .t⟩:Ob)) aAw),rfl⟩) ?_
 rintro k hk;refine sq (sq (rl ?_));(iterate 3 refine o1 ?_);refine nl ?_;refine aV rfl (fun h1=>?_) (fun h1=>?_)
 ·refine sk (sq (bl ?_));refine bU [0,1] [2,3] ?_
  refine aF 0 ?_;refine aG 1 rfl (jP (n:=10) (by omega) (by omega)) aA (bC rfl) _ ?_
  refine aG 2 rfl (Cb (Qn.of (p:=((10^k:Nat):Rat)) ((iP k).mono (M:=68719476736) (by omega))) (Qn.of (p:=((10:Int):Rat)) (cU (by omega) (by omega))) ((iP k).mono (M:=17179869184) (by omega)) ((cU (by omega) (by omega)).mono (M:=17179869184) (by omega))) aA (bN rfl rfl) _ ?_
  refine dst 3 ?_;refine aJ ?_;refine rl (o1 ?_);refine o1 ?_;refine aY 10 (k+1) ?_
  refine o1 ?_;refine nl ?_
  exact⟨k+1,by omega,by omega,aH h0 [0,1] ⟨oe rfl rfl,aD (congrArg (fun q=>some (⟨38,0,((Fr4.of q).tr false).map .t⟩:Ob)) (aAx k)),rfl⟩⟩
 refine ex (sq (rl (ld ?_)));refine st ?_;refine nl (rt ?_)
 exact en (.inl rfl) rfl (bB (.agg (.cons (.id rfl) (.cons (.id rfl) (.cons (.id rfl) (.cons (.id rfl) .nil)))))) (by decide) (fun h=>by cases h) (by rw[show k=c by omega];rfl)
theorem aCg:(0:Rat)=((sD (([]:List Nat)):Nat):Rat):=rfl
theorem NI {L n:Nat}(h:(dg 4294967296 n).length<=L+1):Sz (L+1) ((n:Nat):Rat):=by
 refine⟨?_,?_⟩
 ·rw[Rat.num_natCast,Int.natAbs_natCast]
  exact h
 rw[Rat.den_natCast]
 exact Nat.le_trans (show(dg 4294967296 1).length<=1 by decide) (by omega)
theorem UG {u v d:Nat}(h:v=u*10+d):((u:Nat):Rat)*((10:Int):Rat)+(((d:Nat):Int):Rat)=((v:Nat):Rat):=by
 rw[h,Rat.natCast_add,Rat.natCast_mul]
 rfl
theorem UH {l:List Nat}(hl:Lim 256 l) (hn9:l.length<=1000000) (hf:pG (bL l)=true):aE false Tryz.prog 184 [] [.one (tv (.string (aN l)))] (aP (qF (.of (Et l)))):=by
 refine bD Tryz.func184 Tryz.ntmps184 fun N9 w9 c0 h0=>?_
 have hb:=BP hf
 have hpos:=Ug hf
 have hwp:=BW (bL l)
 have hal:=yC l
 refine sq (rl (al 0 ?_));refine nl (sq (rl (ca (lI) aA rfl _ ?_)));refine al 1 ?_;refine st ?_;refine nl (sq ?_)
 refine rl (o1 ?_);refine nl (sq (sq (rl (o1 ?_))));refine nl (bl ?_)
 refine lp (γ:=Nat) (fun s=>bP [(0,.one (tv (.string (aN l)))),(2,pN 0),(3,pN 1),(4,.one (tv (.int .i64 (sP (l.take s))))),(5,iN s)]) (fun s=>[(⟨38,0,[tv (.bool false),tv (.slice none 0 0),tv (.bool false),tv (.slice none 0 0)]⟩:Ob),⟨38,0,((Fr4.of ((sD (l.take s):Nat):Rat)).tr false).map .t⟩].map some) (fun s=>s<=l.length) (fun s=>l.length-s) 0 (Nat.zero_le _) (dC h0 [0,1] _ _ (by decide) ⟨rfl,rfl,rfl,vK rfl,rfl,trivial⟩ ⟨oe rfl rfl,aD (congrArg (fun q=>some (⟨38,0,((Fr4.of q).tr false).map .t⟩:Ob)) aCg),rfl⟩) ?_
 rintro k hk
 have hsd:Sz (k+2) ((sD (l.take k):Nat):Rat):=NI (cW (by omega) (Nat.lt_of_lt_of_le (aAr hk hb) (Nat.le_trans (Nat.pow_le_pow_left (show 10<=4294967296 by omega) k) (Nat.pow_le_pow_right (by omega) (by omega)))))
 have hspl:=aAs (l:=l) hk
 refine sq (sq (rl ?_));(iterate 3 refine o1 ?_)
 refine WL.cast (t:=9) (u':=.int .i64 ((l.length:Nat):Int)) rfl (congrArg (fun n:Nat=>Value.int .i64 (n:Int)) (aO _)) ?_
 refine o1 ?_;refine nl ?_;refine aV rfl (fun h1=>?_) (fun h1=>?_)
 ·refine sk (sq (bl (bl (sq (rl (o1 ?_))))));refine o1 ?_;refine o1 ?_ (hC:=(by rw[aO];omega))
  refine WL.cast (t:=16) (u':=.int .u8 (((nth l (k)):Nat):Int)) rfl (congrArg (fun n:Nat=>Value.int .u8 (n:Int)) (jJ (i:=k) (by omega) (fE hl (by omega)))) ?_
  refine o1 ?_;refine o1 ?_;refine nl ?_;refine aV rfl (fun h2=>?_) (fun h2=>?_)
  ·refine rl (o1 ?_);refine nl (rl (o1 ?_));refine o1 ?_;refine aY 12 (k+1) ?_
   refine o1 ?_;refine nl ?_;have hsd1:=Pp (l:=l) (k:=k) (by omega)
   have hsp1:=Pq (l:=l) (k:=k) (by omega)
   rw[if_pos (by omega)]at hsd1 hsp1
   exact⟨k+1,by omega,by omega,dC h0 [0,1] _ _ (by decide) ⟨rfl,rfl,rfl,vK (by rw[hsp1]),rfl,trivial⟩ ⟨oe rfl rfl,aD (congrArg (fun q=>some (⟨38,0,((Fr4.of q).tr false).map .t⟩:Ob)) (congrArg (fun n:Nat=>(n:Rat)) hsd1.symm)),rfl⟩⟩
  refine sq (rl (o1 ?_));refine o1 ?_;refine o1 ?_ (hC:=(by rw[aO];omega))
  refine WL.cast (t:=21) (u':=.int .u8 (((nth l (k)):Nat):Int)) rfl (congrArg (fun n:Nat=>Value.int .u8 (n:Int)) (jJ (i:=k) (by omega) (fE hl (by omega)))) ?_
  refine o1 ?_;refine o1 ?_;refine nl ?_;refine aV rfl (fun h3=>?_) (fun h3=>?_)
  ·refine sq ?_;have hck:=hb _ (KA (l:=l) (k:=k) (by omega))
   refine bU [0,1] [10] ?_
   refine aF 0 ?_;refine dv 3 ?_;refine dv 4 ?_;refine dv 5 ?_ (hC:=(by rw[aO];omega))
   refine WD.cast (t:=28) (u':=.int .u8 (((nth l (k)):Nat):Int)) rfl (congrArg (fun n:Nat=>Value.int .u8 (n:Int)) (jJ (i:=k) (by omega) (fE hl (by omega)))) ?_
   refine dv 6 ?_;refine WD.cast (t:=29) (u':=.int .u8 (((nth l (k))-48:Nat):Int)) rfl (dN (by omega)) ?_
   refine dv 7 ?_;refine Er 30 ((nth l (k))-48) ?_
   refine aG 1 rfl (jP (n:=10) (by omega) (by omega)) aA (bC rfl) _ ?_
   refine aG 2 rfl (Cb (Qn.of (p:=((sD (l.take k):Nat):Rat)) (hsd.mono (M:=68719476736) (by omega))) (Qn.of (p:=((10:Int):Rat)) ((cU (by omega) (by omega)).mono (M:=68719476736) (by omega))) (hsd.mono (M:=17179869184) (by omega)) ((cU (by omega) (by omega)).mono (M:=17179869184) (by omega))) aA (bN rfl rfl) _ ?_
   refine aG 8 rfl (jP (n:=(((nth l (k))-48:Nat):Int)) (by omega) (by omega)) aA (bC rfl) _ ?_
   refine aG 9 rfl (BT (Qn.of (p:=(((sD (l.take k):Nat):Rat)*((10:Int):Rat))) ((lM hsd (cU (by omega) (by omega))).mono (M:=68719476736) (by omega))) (Qn.of (p:=((((nth l (k))-48:Nat):Int):Rat)) ((cU (by omega) (by omega)).mono (M:=68719476736) (by omega))) ((lM hsd (cU (by omega) (by omega))).mono (M:=17179869184) (by omega)) ((cU (by omega) (by omega)).mono (M:=17179869184) (by omega))) aA (bN rfl rfl) _ ?_
   refine dst 10 ?_;refine aJ ?_;refine sq (rl (o1 ?_));refine o1 ?_;refine nl ?_;refine aV rfl (fun h4=>?_) (fun h4=>?_)
   ·refine rl (o1 ?_);refine o1 ?_;refine WL.cast (t:=36) (u':=.int .i64 ((sP (l.take k)+1))) rfl (dN (by rfl)) ?_
    refine o1 ?_;refine nl (rl (o1 ?_));refine o1 ?_;refine aY 12 (k+1) ?_
    refine o1 ?_;refine nl ?_;have hsd1:=Pp (l:=l) (k:=k) (by omega)
    have hsp1:=Pq (l:=l) (k:=k) (by omega)
    rw[if_neg (by omega),if_neg (by omega)]at hsd1 hsp1
    rw[if_pos (by omega)]at hsp1
    exact⟨k+1,by omega,by omega,dC h0 [0,1] _ _ (by decide) ⟨rfl,rfl,rfl,vK hsp1,rfl,trivial⟩ ⟨oe rfl rfl,aD (congrArg (fun q=>some (⟨38,0,((Fr4.of q).tr false).map .t⟩:Ob)) (UG hsd1)),rfl⟩⟩
   refine sk (rl (o1 ?_));refine o1 ?_;refine aY 12 (k+1) ?_
   refine o1 ?_;refine nl ?_;have hsd1:=Pp (l:=l) (k:=k) (by omega)
   have hsp1:=Pq (l:=l) (k:=k) (by omega)
   rw[if_neg (by omega),if_neg (by omega)]at hsd1 hsp1
   rw[if_neg (by omega)]at hsp1
   exact⟨k+1,by omega,by omega,dC h0 [0,1] _ _ (by decide) ⟨rfl,rfl,rfl,vK hsp1,rfl,trivial⟩ ⟨oe rfl rfl,aD (congrArg (fun q=>some (⟨38,0,((Fr4.of q).tr false).map .t⟩:Ob)) (UG hsd1)),rfl⟩⟩
  refine sk (rl (o1 ?_));refine o1 ?_;refine aY 12 (k+1) ?_
  refine o1 ?_;refine nl ?_;have hsd1:=Pp (l:=l) (k:=k) (by omega)
  have hsp1:=Pq (l:=l) (k:=k) (by omega)
  rw[if_neg (by omega),if_pos (by omega)]at hsd1 hsp1
  exact⟨k+1,by omega,by omega,dC h0 [0,1] _ _ (by decide) ⟨rfl,rfl,rfl,vK hsp1,rfl,trivial⟩ ⟨oe rfl rfl,aD (congrArg (fun q=>some (⟨38,0,((Fr4.of q).tr false).map .t⟩:Ob)) (congrArg (fun n:Nat=>(n:Rat)) hsd1.symm)),rfl⟩⟩
 refine ex (sq ?_);have hkk:k=l.length:=by omega
 have htk:l.take k=l:=cT (by omega)
 have hsl:Sz (k+2) ((sD l:Nat):Rat):=by rw[htk]at hsd;exact hsd
 have hmx:=aAy hf
 refine WP.sub (dC h0 [0,1] [(0,.one (tv (.string (aN l)))),(2,pN 0),(3,pN 1),(4,.one (tv (.int .i64 (sP l))))] [⟨38,0,[tv (.bool false),tv (.slice none 0 0),tv (.bool false),tv (.slice none 0 0)]⟩,⟨38,0,((Fr4.of ((sD l:Nat):Rat)).tr false).map .t⟩] (by decide) ⟨rfl,rfl,rfl,vK (by rw[htk]),trivial⟩ ⟨oe rfl rfl,aD (congrArg (fun t:List Nat=>some (⟨38,0,((Fr4.of ((sD t:Nat):Rat)).tr false).map .t⟩:Ob)) htk),rfl⟩) ?_
 refine bU [0] [] ?_
 refine dv 1 ?_;refine dv 2 ?_;refine WD.cast (t:=40) (u':=.int .i64 (((pl (bL l)).length:Nat):Int)) rfl (dN hmx) ?_;refine dD 0 3 ?_ ?_
 ·refine iK 0 ?_;refine aG 3 rfl (Xy (c:=(pl (bL l)).length) (by omega)) aA (bC rfl) _ ?_
  refine aG 4 rfl (Ia (Qn.of (p:=((sD l:Nat):Rat)) (hsl.mono (M:=68719476736) (by omega))) (Qn.of (p:=((10^(pl (bL l)).length:Nat):Rat)) ((iP _).mono (M:=68719476736) (by omega))) (hsl.mono (M:=17179869184) (by omega)) ((iP _).mono (M:=17179869184) (by omega))) aA (bN rfl rfl) (.tup [qF (.of (((sD l:Nat):Rat)/((10^(pl (bL l)).length:Nat):Rat))),.one (tv (.int .i64 (if((10^(pl (bL l)).length:Nat):Rat)=0 then 20 else 0)))]) ?_
  refine df 5 ?_;refine df 6 ?_;refine df 7 ?_;refine aT 8 ?_
  refine aJ ?_;refine sq (sq (rl (o1 ?_)));refine o1 ?_ (hC:=(by rw[aO];show 0<l.length;omega))
  refine WL.cast (t:=46) (u':=.int .u8 (((nth l (0)):Nat):Int)) rfl (congrArg (fun n:Nat=>Value.int .u8 (n:Int)) (jJ (i:=0) (by omega) (fE hl (by omega)))) ?_
  refine o1 ?_;refine nl ?_;refine aV rfl (fun h5=>?_) (fun h5=>?_)
  ·refine rl (ld ?_)
   refine ca (Ca (Qn.of (p:=(((sD l:Nat):Rat)/((10^(pl (bL l)).length:Nat):Rat))) ((Ox hsl (iP _)).mono (M:=68719476736) (by omega)))) aA (aM rfl) (qF (.of (-(((sD l:Nat):Rat)/((10^(pl (bL l)).length:Nat):Rat))))) ?_
   refine st ?_;refine nl (sq (rl (ld ?_)));refine st ?_;refine nl (rt ?_);have hng:iW l=true:=by rw[<-Bz hpos];exact decide_eq_true (by omega)
   have hq9:=Hv hf
   rw[hng]at hq9;exact en (.inl rfl) rfl (bB (.agg (.cons (.id rfl) (.cons (.id rfl) (.cons (.id rfl) (.cons (.id rfl) .nil)))))) (by decide) (fun h=>by cases h) (by rw[<-hq9];rfl)
  refine sk (sq (rl (ld ?_)));refine st ?_;refine nl (rt ?_);have hng:iW l=false:=by rw[<-Bz hpos];exact decide_eq_false (by omega)
  have hq9:=Hv hf
  rw[hng]at hq9;exact en (.inl rfl) rfl (bB (.agg (.cons (.id rfl) (.cons (.id rfl) (.cons (.id rfl) (.cons (.id rfl) .nil)))))) (by decide) (fun h=>by cases h) (by rw[<-hq9];rfl)
 refine dE 3 rfl (Xy (c:=(pl (bL l)).length) (by omega)) aA (bC rfl) _ ?_
 refine WO.one (by kernel_rfl) (iK 0 ?_)
 refine aG 4 rfl (Ia (Qn.of (p:=((sD l:Nat):Rat)) (hsl.mono (M:=68719476736) (by omega))) (Qn.of (p:=((10^(pl (bL l)).length:Nat):Rat)) ((iP _).mono (M:=68719476736) (by omega))) (hsl.mono (M:=17179869184) (by omega)) ((iP _).mono (M:=17179869184) (by omega))) aA (bN rfl rfl) (.tup [qF (.of (((sD l:Nat):Rat)/((10^(pl (bL l)).length:Nat):Rat))),.one (tv (.int .i64 (if((10^(pl (bL l)).length:Nat):Rat)=0 then 20 else 0)))]) ?_
 refine df 5 ?_;refine df 6 ?_;refine df 7 ?_;refine aT 8 ?_
 refine aJ ?_;refine sq (sq (rl (o1 ?_)));refine o1 ?_ (hC:=(by rw[aO];show 0<l.length;omega))
 refine WL.cast (t:=46) (u':=.int .u8 (((nth l (0)):Nat):Int)) rfl (congrArg (fun n:Nat=>Value.int .u8 (n:Int)) (jJ (i:=0) (by omega) (fE hl (by omega)))) ?_
 refine o1 ?_;refine nl ?_;refine aV rfl (fun h6=>?_) (fun h6=>?_)
 ·refine rl (ld ?_)
  refine ca (Ca (Qn.of (p:=(((sD l:Nat):Rat)/((10^(pl (bL l)).length:Nat):Rat))) ((Ox hsl (iP _)).mono (M:=68719476736) (by omega)))) aA (aM rfl) (qF (.of (-(((sD l:Nat):Rat)/((10^(pl (bL l)).length:Nat):Rat))))) ?_
  refine st ?_;refine nl (sq (rl (ld ?_)));refine st ?_;refine nl (rt ?_);have hng:iW l=true:=by rw[<-Bz hpos];exact decide_eq_true (by omega)
  have hq9:=Hv hf
  rw[hng]at hq9;exact en (.inl rfl) rfl (bB (.agg (.cons (.id rfl) (.cons (.id rfl) (.cons (.id rfl) (.cons (.id rfl) .nil)))))) (by decide) (fun h=>by cases h) (by rw[<-hq9];rfl)
 refine sk (sq (rl (ld ?_)));refine st ?_;refine nl (rt ?_);have hng:iW l=false:=by rw[<-Bz hpos];exact decide_eq_false (by omega)
 have hq9:=Hv hf
 rw[hng]at hq9;exact en (.inl rfl) rfl (bB (.agg (.cons (.id rfl) (.cons (.id rfl) (.cons (.id rfl) (.cons (.id rfl) .nil)))))) (by decide) (fun h=>by cases h) (by rw[<-hq9];rfl)
theorem aCh {l:List Nat}(h:pG (bL l)=false):uF l=false:=by unfold uF;rw[h];rfl
theorem aCi {l:List Nat}(h:(iW l&&Eu (bL l))=true):uF l=false:=by unfold uF;rw[h,Bool.not_true,Bool.and_false]
theorem UI {l:List Nat}(h1:pG (bL l)=true) (h:(iW l&&Eu (bL l))=false):uF l=true:=by unfold uF;rw[h1,h];rfl
theorem NJ {l:List Nat}{m:Nat}(hl:Lim 256 l) (hn9:l.length<=1000000):aE false Tryz.prog 125 [] [.one (tv (.string (aN l))),.one (tv (.int .i64 ((m:Nat):Int)))] (aP (.tup [qF (.of (mB l m)),.one (tv (.int .i64 (oW l m)))])):=by
 refine bD Tryz.func125 Tryz.ntmps125 fun N9 w9 c0 h0=>?_
 refine sq (rl (al 0 ?_));refine o1 ?_;refine nl (sq (rl (o1 ?_)))
 refine ca (UF hl hn9) aA (bC rfl) _ ?_;(iterate 7 refine o1 ?_)
 refine nl (sq (sq (rl (o1 ?_))));refine WL.splitb (t:=17) rfl (fun h1=>?_) (fun h1=>?_)
 ·(iterate 6 refine o1 ?_);refine nl ?_;refine aV rfl (fun h2=>?_) (fun h2=>?_)
  ·refine sq (rl (ca (lI) aA rfl _ ?_));refine st ?_;refine o1 ?_;refine nl (rt ?_)
   have he:oW l m=60:=Xx (.inr (by have h8:pG (bL l)=true:=(by rw[<-Jr];exact h1);have h9:=(KG h8).2;omega))
   have hq:mB l m=0:=(if_neg (by rw[he];decide))
   exact en (.inl rfl) rfl (gP (.cons (.agg (.cons (.id rfl) (.cons (.id rfl) (.cons (.id rfl) (.cons (.id rfl) .nil))))) (.cons (bO _) .nil))) (by decide) (fun h=>by cases h) (by rw[he,hq];rfl)
  refine sk (sq ?_);have hf:pG (bL l)=true:=by rw[<-Jr];exact h1
  have hpos:=Ug hf
  obtain⟨hfn,hfk⟩:=KG hf
  have hwp:=BW (bL l)
  have hal:=yC l
  refine rl (o1 ?_);refine o1 ?_ (hC:=(by rw[aO];show 0<l.length;omega))
  refine WL.cast (t:=26) (u':=.int .u8 (((nth l (0)):Nat):Int)) rfl (congrArg (fun n:Nat=>Value.int .u8 (n:Int)) (jJ (i:=0) (by omega) (fE hl (by omega)))) ?_
  refine o1 ?_;refine fU 27 (iW l) rfl ((Bz hpos)▸(decide_eq_decide.2 (by omega))) ?_
  refine o1 ?_;refine nl (sq (sq (rl (o1 ?_))));refine nl (bl ?_)
  refine lp (γ:=Nat) (fun s=>bP [(0,.one (tv (.string (aN l)))),(4,pN 0),(6,iN (Bx l)),(7,iN (By l)),(9,.one (tv (.bool (iW l&&(l.take s).all nX)))),(10,iN s)]) (fun s=>[(⟨38,0,[tv (.bool false),tv (.slice none 0 0),tv (.bool false),tv (.slice none 0 0)]⟩:Ob)].map some) (fun s=>s<=l.length) (fun s=>l.length-s) 0 (Nat.zero_le _) (dC h0 [0] _ _ (by decide) ⟨rfl,rfl,rfl,rfl,Ew (by rw[List.take_zero];exact Bool.and_true _),rfl,trivial⟩ ⟨oe rfl rfl,rfl⟩) ?_
  rintro k hk;refine sq (sq (rl ?_));(iterate 3 refine o1 ?_)
  refine WL.cast (t:=30) (u':=.int .i64 ((l.length:Nat):Int)) rfl (congrArg (fun n:Nat=>Value.int .i64 (n:Int)) (aO _)) ?_
  refine o1 ?_;refine nl ?_;refine aV rfl (fun h3=>?_) (fun h3=>?_)
  ·refine sk (sq (bl (rl (o1 ?_))));refine o1 ?_;refine WL.splitb (t:=35) rfl (fun h4=>?_) (fun h4=>?_)
   ·refine o1 ?_;refine o1 ?_;refine o1 ?_ (hC:=(by rw[aO];omega))
    refine WL.cast (t:=38) (u':=.int .u8 (((nth l (k)):Nat):Int)) rfl (congrArg (fun n:Nat=>Value.int .u8 (n:Int)) (jJ (i:=k) (by omega) (fE hl (by omega)))) ?_
    refine o1 ?_;refine o1 ?_;refine WL.split (t:=40) rfl (fun h5=>?_) (fun h5=>?_)
    ·(iterate 4 refine aW ?_);refine o1 ?_;refine o1 ?_;(iterate 4 refine aW ?_);(iterate 3 refine o1 ?_);refine nl (rl (o1 ?_));refine o1 ?_
     refine aY 33 (k+1) ?_
     refine o1 ?_;refine nl ?_;have hns:(iW l&&(l.take (k+1)).all nX)=((iW l&&(l.take k).all nX)&&nX (nth l k)):=by rw[Nt (by omega),Bool.and_assoc]
     exact⟨k+1,by omega,by omega,dC h0 [0] _ _ (by decide) ⟨rfl,rfl,rfl,rfl,Ew (by rw[hns,h4,Bool.true_and];unfold nX;rw[Bool.eq_iff_iff];simp only[Bool.or_eq_true,decide_eq_true_eq,eq_self_iff_true,iff_true];omega),rfl,trivial⟩ ⟨oe rfl rfl,rfl⟩⟩
    refine o1 ?_;refine o1 ?_;refine o1 ?_ (hC:=(by rw[aO];omega))
    refine WL.cast (t:=43) (u':=.int .u8 (((nth l (k)):Nat):Int)) rfl (congrArg (fun n:Nat=>Value.int .u8 (n:Int)) (jJ (i:=k) (by omega) (fE hl (by omega)))) ?_
    (iterate 3 refine o1 ?_);refine WL.split (t:=46) rfl (fun h6=>?_) (fun h6=>?_)
    ·(iterate 4 refine aW ?_);(iterate 3 refine o1 ?_);refine nl (rl (o1 ?_));refine o1 ?_
     refine aY 33 (k+1) ?_
     refine o1 ?_;refine nl ?_;have hns:(iW l&&(l.take (k+1)).all nX)=((iW l&&(l.take k).all nX)&&nX (nth l k)):=by rw[Nt (by omega),Bool.and_assoc]
     exact⟨k+1,by omega,by omega,dC h0 [0] _ _ (by decide) ⟨rfl,rfl,rfl,rfl,Ew (by rw[hns,h4,Bool.true_and];unfold nX;rw[Bool.eq_iff_iff];simp only[Bool.or_eq_true,decide_eq_true_eq,eq_self_iff_true,iff_true];omega),rfl,trivial⟩ ⟨oe rfl rfl,rfl⟩⟩
    refine o1 ?_;refine o1 ?_;refine o1 ?_ (hC:=(by rw[aO];omega))
    refine WL.cast (t:=49) (u':=.int .u8 (((nth l (k)):Nat):Int)) rfl (congrArg (fun n:Nat=>Value.int .u8 (n:Int)) (jJ (i:=k) (by omega) (fE hl (by omega)))) ?_
    (iterate 4 refine o1 ?_);refine nl (rl (o1 ?_));refine o1 ?_;refine aY 33 (k+1) ?_
    refine o1 ?_;refine nl ?_;have hns:(iW l&&(l.take (k+1)).all nX)=((iW l&&(l.take k).all nX)&&nX (nth l k)):=by rw[Nt (by omega),Bool.and_assoc]
    exact⟨k+1,by omega,by omega,dC h0 [0] _ _ (by decide) ⟨rfl,rfl,rfl,rfl,Ew (by rw[hns,h4,Bool.true_and];unfold nX;rw[Bool.eq_iff_iff];simp only[Bool.or_eq_true,decide_eq_true_eq,eq_self_iff_true,iff_true];omega),rfl,trivial⟩ ⟨oe rfl rfl,rfl⟩⟩
   (iterate 16 refine aW ?_);refine o1 ?_;refine o1 ?_;refine nl (rl (o1 ?_));refine o1 ?_
   refine aY 33 (k+1) ?_
   refine o1 ?_;refine nl ?_;have hns:(iW l&&(l.take (k+1)).all nX)=((iW l&&(l.take k).all nX)&&nX (nth l k)):=by rw[Nt (by omega),Bool.and_assoc]
   exact⟨k+1,by omega,by omega,dC h0 [0] _ _ (by decide) ⟨rfl,rfl,rfl,rfl,Ew (by rw[hns,h4];rfl),rfl,trivial⟩ ⟨oe rfl rfl,rfl⟩⟩
  refine ex (sq (sq ?_));have htk:l.take k=l:=cT (by omega)
  have hnu:(iW l&&(l.take k).all nX)=(iW l&&Eu (bL l)):=by rw[htk];exact UJ hf
  refine rl (o1 ?_);refine nl ?_;refine rH rfl (fun h7=>?_) (fun h7=>?_)
  ·refine sq (rl (ca (lI) aA rfl _ ?_));refine st ?_;refine o1 ?_;refine nl (rt ?_)
   have he:oW l m=60:=Xx (.inl (aCi (hnu.symm.trans h7)))
   have hq:mB l m=0:=(if_neg (by rw[he];decide))
   exact en (.inl rfl) rfl (gP (.cons (.agg (.cons (.id rfl) (.cons (.id rfl) (.cons (.id rfl) (.cons (.id rfl) .nil))))) (.cons (bO _) .nil))) (by decide) (fun h=>by cases h) (by rw[he,hq];rfl)
  refine sk (sq (sq (rl ?_)));(iterate 3 refine o1 ?_);refine aY 57 ((Bx l)+(By l)) ?_
  refine o1 ?_;refine nl ?_;refine aV rfl (fun h8=>?_) (fun h8=>?_)
  ·refine sq (rl (ca (lI) aA rfl _ ?_));refine st ?_;refine o1 ?_;refine nl (rt ?_);have hok:uF l=true:=UI hf (hnu.symm.trans h7)
   have he:oW l m=3:=aCe hok (by omega) (by omega)
   have hq:mB l m=0:=(if_neg (by rw[he];decide))
   exact en (.inl rfl) rfl (gP (.cons (.agg (.cons (.id rfl) (.cons (.id rfl) (.cons (.id rfl) (.cons (.id rfl) .nil))))) (.cons (bO _) .nil))) (by decide) (fun h=>by cases h) (by rw[he,hq];rfl)
  refine sk (sq (rl (o1 ?_)));refine ca (UH hl hn9 hf) aA (bC rfl) _ ?_;refine st ?_;refine o1 ?_;refine nl (rt ?_)
  have hok:uF l=true:=UI hf (hnu.symm.trans h7)
  have he:oW l m=0:=aCf hok (by omega) (by omega)
  have hq:mB l m=Et l:=if_pos he
  exact en (.inl rfl) rfl (gP (.cons (.agg (.cons (.id rfl) (.cons (.id rfl) (.cons (.id rfl) (.cons (.id rfl) .nil))))) (.cons (bO _) .nil))) (by decide) (fun h=>by cases h) (by rw[he,hq];rfl)
 refine o1 ?_;refine o1 ?_;(iterate 3 refine aW ?_);refine o1 ?_;refine nl (eU rfl (sq (rl (ca (lI) aA rfl _ ?_))));refine st ?_
 refine o1 ?_;refine nl (rt ?_);have he:oW l m=60:=Xx (.inl (aCh (by rw[<-Jr];exact h1)))
 have hq:mB l m=0:=(if_neg (by rw[he];decide))
 exact en (.inl rfl) rfl (gP (.cons (.agg (.cons (.id rfl) (.cons (.id rfl) (.cons (.id rfl) (.cons (.id rfl) .nil))))) (.cons (bO _) .nil))) (by decide) (fun h=>by cases h) (by rw[he,hq];rfl)
theorem Xz {l:List Nat}{c:Nat}(h:0<l.length):tF c l=true↔nth l (l.length-1)=c:=by
 unfold tF
 rw[decide_eq_true_eq]
 have e:l.drop (l.length-1)=[nth l (l.length-1)]:=by
  rw[List.drop_eq_getElem_cons (by omega),show l.length-1+1=l.length by omega,List.drop_length,dT (by omega)]
 rw[e]
 simp
theorem Ya {l:List Nat}(h:0<l.length) (h2:tF 37 l=true) (h3:¬nth l 0=45):iW (gO 37 l)=false:=by
 rw[<-Hm h2]
 refine decide_eq_false fun h4=>?_
 have h5:=congrArg List.length h4
 rw[dU,dU]at h5
 have h6:1<l.length:=by simp at h5;omega
 rw[List.take_take,Nat.min_eq_left (by omega)]at h4
 exact h3 ((zP h).1 h4)
theorem Pw {l:List Nat}{m:Nat}(h:iW l=false):¬mB l m<0:=by
 unfold mB
 split
 ·unfold Et
  rw[h,Rat.not_lt]
  exact Rat.divInt_nonneg (by show(0:Int)<=((_:Nat):Int);omega) (Int.natCast_nonneg _)
 exact Rat.not_lt.2 Rat.le_refl
theorem UK {l:List Nat}(h:0<l.length) (h2:nth l 0=45):oY l=60:=by
 cases hen:tF 37 l with
 | false=>exact zQ (.inl hen)
 | true=>
  have hn:iW (gO 37 l)=true:=by
   have h9:=(Xz h).1 hen
   rw[<-Hm hen]
   have h6:1<l.length:=by
    rcases Nat.lt_or_ge 1 l.length with h1 | h1
    ·exact h1
    rw[show l.length-1=0 by omega]at h9
    omega
   refine decide_eq_true ?_
   rw[List.take_take,Nat.min_eq_left (by omega)]
   exact(zP h).2 h2
  by_cases he:oW (gO 37 l) 4=0
  ·refine zQ (.inr (.inr (.inl ?_)))
   have hok:uF (gO 37 l)=true:=by
    unfold oW at he
    split at he
    ·rename_i h1;exact h1.1
    cases he
   unfold mB Et
   rw[if_pos he,hn]
   have hnz:jT (wh (bL (gO 37 l))++pl (bL (gO 37 l)))≠0:=fun h0=>by
    unfold uF Eu at hok
    rw[hn,Uj (GD _),h0]at hok
    simp at hok
   have hp:0<10^(pl (bL (gO 37 l))).length:=Nat.pow_pos (by omega)
   have e:∀V k:Nat,V≠0->0<k->Rat.divInt (-(V:Int)) (k:Int)<0:=fun V k hV hk=>by
    rw[<-qB]
    have h2:(0:Rat)<(k:Rat):=by exact_mod_cast hk
    have h3:=xG (-(V:Int)) (k:Int) (by omega)
    rw[qB]
    by_cases h4:Rat.divInt (-(V:Int)) (k:Int)<0
    ·exact h4
    exfalso
    have h4:=Rat.not_lt.1 h4
    have h5:=Rat.mul_nonneg h4 (Rat.le_of_lt h2)
    rw[Rat.intCast_natCast]at h3
    rw[h3]at h5
    have h6:(0:Int)<=-(V:Int):=by exact_mod_cast h5
    omega
   exact e _ _ hnz hp
  exact zQ (.inr (.inl he))
theorem NK {l:List Nat}(hl:Lim 256 l) (hn9:l.length<=1000000):aE false Tryz.prog 65 [] [.one (tv (.string (aN l)))] (aP (.tup [qF (.of (kQ l)),.one (tv (.int .i64 (oY l)))])):=by
 refine bD Tryz.func65 Tryz.ntmps65 fun N9 w9 c0 h0=>?_
 have hX:Sz 41 (mB (gO 37 l) 4):=BS _ 4
 refine sq (rl (al 0 ?_));refine o1 ?_;refine nl (sq (sq (rl (o1 ?_))));refine o1 ?_
 refine fU 9 (decide (l=[])) rfl (Br hl) ?_;refine o1 ?_;refine WL.splitb (t:=10) rfl (fun h1=>?_) (fun h1=>?_)
 ·(iterate 3 refine aW ?_);refine o1 ?_;refine o1 ?_;(iterate 6 refine aW ?_);refine o1 ?_;refine nl (eU rfl (sq (rl ?_)))
  refine ca (lI) aA rfl _ ?_;refine st ?_;refine o1 ?_;refine nl (rt ?_);have he:oY l=60:=zQ (.inl (by rw[of_decide_eq_true h1];rfl))
  have hq:kQ l=0:=if_neg (by rw[he];decide)
  exact en (.inl rfl) rfl (gP (.cons (.agg (.cons (.id rfl) (.cons (.id rfl) (.cons (.id rfl) (.cons (.id rfl) .nil))))) (.cons (bO _) .nil))) (by decide) (fun h=>by cases h) (by rw[he,hq];rfl)
 refine o1 ?_;have hp9:=NE h1
 refine o1 ?_ (hC:=(by rw[aO];show 0<l.length;omega))
 refine WL.cast (t:=12) (u':=.int .u8 (((nth l (0)):Nat):Int)) rfl (congrArg (fun n:Nat=>Value.int .u8 (n:Int)) (jJ (i:=0) (by omega) (fE hl (by omega)))) ?_
 (iterate 3 refine o1 ?_);refine WL.split (t:=15) rfl (fun h2=>?_) (fun h2=>?_)
 ·(iterate 6 refine aW ?_);refine o1 ?_;refine nl (eU rfl (sq (rl (ca (lI) aA rfl _ ?_))));refine st ?_;refine o1 ?_;refine nl ?_
  refine rt ?_;have he:oY l=60:=UK hp9 (by omega)
  have hq:kQ l=0:=if_neg (by rw[he];decide)
  exact en (.inl rfl) rfl (gP (.cons (.agg (.cons (.id rfl) (.cons (.id rfl) (.cons (.id rfl) (.cons (.id rfl) .nil))))) (.cons (bO _) .nil))) (by decide) (fun h=>by cases h) (by rw[he,hq];rfl)
 (iterate 3 refine o1 ?_);refine WL.cast (t:=18) (u':=.int .i64 ((l.length:Nat):Int)) rfl (congrArg (fun n:Nat=>Value.int .i64 (n:Int)) (aO _)) ?_
 refine o1 ?_;refine aY 19 (l.length-1) ?_
 refine o1 ?_ (hC:=(by rw[aO];omega))
 refine WL.cast (t:=20) (u':=.int .u8 (((nth l (l.length-1)):Nat):Int)) rfl (congrArg (fun n:Nat=>Value.int .u8 (n:Int)) (jJ (i:=l.length-1) (by omega) (fE hl (by omega)))) ?_
 refine o1 ?_;refine o1 ?_;refine nl ?_;refine aV rfl (fun h3=>?_) (fun h3=>?_)
 ·refine sq (rl (ca (lI) aA rfl _ ?_));refine st ?_;refine o1 ?_;refine nl (rt ?_)
  have he:oY l=60:=zQ (.inl (Bool.eq_false_iff.2 fun h9=>by have:=(Xz hp9).1 h9;omega))
  have hq:kQ l=0:=if_neg (by rw[he];decide)
  exact en (.inl rfl) rfl (gP (.cons (.agg (.cons (.id rfl) (.cons (.id rfl) (.cons (.id rfl) (.cons (.id rfl) .nil))))) (.cons (bO _) .nil))) (by decide) (fun h=>by cases h) (by rw[he,hq];rfl)
 refine sk (sq ?_);have hen:tF 37 l=true:=(Xz hp9).2 (by omega)
 refine rl ?_;(iterate 3 refine o1 ?_);refine WL.cast (t:=27) (u':=.int .i64 ((l.length:Nat):Int)) rfl (congrArg (fun n:Nat=>Value.int .i64 (n:Int)) (aO _)) ?_
 refine o1 ?_;refine aY 28 (l.length-1) ?_
 refine o1 ?_ (hC:=(by rw[aO];omega))
 refine lZ 29 (gO 37 l) rfl ((Bt _ 0 _).trans (congrArg aN (Hm hen))) ?_
 refine ca (NJ (l:=(gO 37 l)) (m:=4) (BB hl) (Nat.le_trans Pd hn9)) aA (cO rfl rfl) _ ?_
 (iterate 3 refine o1 ?_);refine al 1 ?_;refine st ?_;refine o1 ?_;refine nl (sq (sq ?_));refine bU [0,1] [] ?_
 refine dv 0 ?_;refine dv 1 ?_;refine dv 2 ?_;refine WD.split (t:=35) rfl rfl (fun h4=>?_) (fun h4=>?_)
 ·refine cF 3 ?_;refine cF 4 ?_;refine cF 5 ?_;refine cF 6 ?_;refine dv 7 ?_;refine aJ ?_;refine eU rfl (sq (rl (ca (lI) aA rfl _ ?_)))
  refine st ?_;refine o1 ?_;refine nl (rt ?_);have he:oY l=60:=zQ (.inr (.inl (by omega)))
  have hq:kQ l=0:=if_neg (by rw[he];decide)
  exact en (.inl rfl) rfl (gP (.cons (.agg (.cons (.id rfl) (.cons (.id rfl) (.cons (.id rfl) (.cons (.id rfl) .nil))))) (.cons (bO _) .nil))) (by decide) (fun h=>by cases h) (by rw[he,hq];rfl)
 refine aF 3 ?_;refine aG 4 rfl (jP (n:=100) (by omega) (by omega)) aA (bC rfl) _ ?_
 refine aG 5 rfl (vM (Qn.of (p:=(mB (gO 37 l) 4)) (hX.mono (M:=68719476736) (by omega))) (Qn.of (p:=((100:Int):Rat)) (cU (by omega) (by omega))) (hX.mono (M:=17179869184) (by omega)) ((cU (by omega) (by omega)).mono (M:=17179869184) (by omega))) aA (bN rfl rfl) _ ?_
 refine df 6 ?_;refine df 7 ?_;refine aJ ?_;refine aV rfl (fun h5=>?_) (fun h5=>?_)
 ·refine sq (rl (ca (lI) aA rfl _ ?_));refine st ?_;refine o1 ?_;refine nl (rt ?_)
  have he:oY l=60:=zQ (.inr (.inr (.inr (TH h5))))
  have hq:kQ l=0:=if_neg (by rw[he];decide)
  exact en (.inl rfl) rfl (gP (.cons (.agg (.cons (.id rfl) (.cons (.id rfl) (.cons (.id rfl) (.cons (.id rfl) .nil))))) (.cons (bO _) .nil))) (by decide) (fun h=>by cases h) (by rw[he,hq];rfl)
 refine sk (sq ?_);refine bU [0,1] [8] ?_
 refine aF 0 ?_;refine dD 1 6 ?_ ?_
 ·refine dE 1 rfl (jP (n:=100) (by omega) (by omega)) aA (bC rfl) _ ?_
  refine dD 2 6 ?_ ?_
  ·refine dE 2 rfl (Ia (Qn.of (p:=(mB (gO 37 l) 4)) (hX.mono (M:=68719476736) (by omega))) (Qn.of (p:=((100:Int):Rat)) (cU (by omega) (by omega))) (hX.mono (M:=17179869184) (by omega)) ((cU (by omega) (by omega)).mono (M:=17179869184) (by omega))) aA (bN rfl rfl) _ ?_
   refine df 3 ?_;refine df 4 ?_;refine df 5 ?_;refine eE 2 6 ?_
   refine aT 7 ?_
   refine bM 8 ?_
   refine aJ ?_;refine sq (rl (ld ?_));refine st ?_;refine o1 ?_;refine nl (rt ?_)
   have he:oY l=0:=GB hen (by omega) (Pw (Ya hp9 hen (by omega))) (fun h9=>h5 (BK h9))
   have hq:kQ l=(mB (gO 37 l) 4)/((100:Int):Rat):=if_pos he
   exact en (.inl rfl) rfl (gP (.cons (.agg (.cons (.id rfl) (.cons (.id rfl) (.cons (.id rfl) (.cons (.id rfl) .nil))))) (.cons (bO _) .nil))) (by decide) (fun h=>by cases h) (by rw[he,hq];rfl)
  refine bQ 2 6 ?_
  refine aG 2 rfl (Ia (Qn.of (p:=(mB (gO 37 l) 4)) (hX.mono (M:=68719476736) (by omega))) (Qn.of (p:=((100:Int):Rat)) (cU (by omega) (by omega))) (hX.mono (M:=17179869184) (by omega)) ((cU (by omega) (by omega)).mono (M:=17179869184) (by omega))) aA (bN rfl rfl) _ ?_
  refine df 3 ?_;refine df 4 ?_;refine df 5 ?_;refine aT 7 ?_
  refine bM 8 ?_
  refine aJ ?_;refine sq (rl (ld ?_));refine st ?_;refine o1 ?_;refine nl (rt ?_)
  have he:oY l=0:=GB hen (by omega) (Pw (Ya hp9 hen (by omega))) (fun h9=>h5 (BK h9))
  have hq:kQ l=(mB (gO 37 l) 4)/((100:Int):Rat):=if_pos he
  exact en (.inl rfl) rfl (gP (.cons (.agg (.cons (.id rfl) (.cons (.id rfl) (.cons (.id rfl) (.cons (.id rfl) .nil))))) (.cons (bO _) .nil))) (by decide) (fun h=>by cases h) (by rw[he,hq];rfl)
 refine bQ 2 6 ?_;refine aG 1 rfl (jP (n:=100) (by omega) (by omega)) aA (bC rfl) _ ?_
 refine aG 2 rfl (Ia (Qn.of (p:=(mB (gO 37 l) 4)) (hX.mono (M:=68719476736) (by omega))) (Qn.of (p:=((100:Int):Rat)) (cU (by omega) (by omega))) (hX.mono (M:=17179869184) (by omega)) ((cU (by omega) (by omega)).mono (M:=17179869184) (by omega))) aA (bN rfl rfl) _ ?_
 refine df 3 ?_;refine df 4 ?_;refine df 5 ?_;refine aT 7 ?_
 refine bM 8 ?_
 refine aJ ?_;refine sq (rl (ld ?_));refine st ?_;refine o1 ?_;refine nl (rt ?_)
 have he:oY l=0:=GB hen (by omega) (Pw (Ya hp9 hen (by omega))) (fun h9=>h5 (BK h9))
 have hq:kQ l=(mB (gO 37 l) 4)/((100:Int):Rat):=if_pos he
 exact en (.inl rfl) rfl (gP (.cons (.agg (.cons (.id rfl) (.cons (.id rfl) (.cons (.id rfl) (.cons (.id rfl) .nil))))) (.cons (bO _) .nil))) (by decide) (fun h=>by cases h) (by rw[he,hq];rfl)
theorem qT {q:Rat}(h:0<=q):0<=hal q:=by
 have h1:0<=q.num.fdiv (q.den:Int):=by rw[rS];have:=NL h;rwa[show fl 0=0 from UL 0]at this
 unfold hal
 split <;> omega
theorem UM {q:Rat}{m:Int}(h:q<=(m:Rat)):hal q<=m:=by
 have h2:=(GJ q).1
 rcases Int.lt_or_le m (hal q)with h3 | h3
 ·exfalso
  have h4:((m+1:Int):Rat)<=((hal q:Int):Rat):=by exact_mod_cast h3
  have h5:((m+1:Int):Rat)=(m:Rat)+1:=by push_cast;rfl
  rw[h5]at h4
  have h6:2*((m:Rat)+1)-2*q<=1:=by grind
  grind
 exact h3
def bI (q:Rat):Rat:=if q<0 then-q else q
theorem xH (q:Rat):0<=bI q:=by
 unfold bI
 split
 ·grind
 exact Rat.not_lt.1 ‹_›
theorem Px {q:Rat}(h:decide (q<0)=true):-q=bI q:=(if_pos (of_decide_eq_true h)).symm
theorem BX {q:Rat}(h:decide (q<0)=false):q=bI q:=(if_neg (of_decide_eq_false h)).symm
theorem NM {L:Nat}{q:Rat}(h:Sz L q):Sz L (bI q):=by
 unfold bI
 split
 ·exact tH h
 exact h
theorem NO {q:Rat}{d:Nat}(h:decide (q<0)=true) (h2:hal (bI q)≠0):45::wr (hal (bI q)).natAbs d=pt (hal q) d:=by
 have h1:=qT (xH q)
 rw[<-Px h,Uk]at*
 unfold pt
 rw[if_pos (by omega),Int.natAbs_neg]
theorem Ul {q:Rat}{d:Nat}(h:decide (q<0)=false\/hal (bI q)=0):wr (hal (bI q)).natAbs d=pt (hal q) d:=by
 have h1:=qT (xH q)
 unfold pt
 cases hq:decide (q<0)with
 | false=>
  rw[<-BX hq]at*
  rw[if_neg (by omega)]
 | true=>
  rw[hq]at h
  have h2:=h.elim (fun h=>by cases h) id
  rw[<-Px hq,Uk]at h2⊢
  rw[if_neg (by omega),Int.natAbs_neg]
def Bc (l:List Nat):List Nat:=dl9c (nE p0 l)
where dl9c (l:List Nat):List Nat:=if l.drop (l.length-1)=[46]then l.take (l.length-1)else l
theorem KH (l:List Nat):nE p0 (l++[48])=nE p0 l:=by
 unfold nE
 rw[List.reverse_append]
 rfl
theorem KI {l:List Nat}{c:Nat}(h:c≠48):nE p0 (l++[c])=l++[c]:=by
 unfold nE
 rw[List.reverse_append]
 show(List.dropWhile p0 (c::l.reverse)).reverse=_
 rw[List.dropWhile_cons,if_neg (by unfold p0;simp[h])]
 simp
theorem aCj {l:List Nat}{c:Nat}(h:c≠46):Bc.dl9c (l++[c])=l++[c]:=by
 unfold Bc.dl9c
 rw[if_neg]
 rw[cJ,List.length_singleton,Nat.add_sub_cancel,List.drop_left]
 intro h2
 injection h2 with h2
 exact h h2
theorem aCk (l:List Nat):Bc.dl9c (l++[46])=l:=by
 unfold Bc.dl9c
 rw[cJ,List.length_singleton,Nat.add_sub_cancel,if_pos List.drop_left,List.take_left]
theorem Ju (n d:Nat):wr n (d+1)=(if d=0 then tx (n/10)++[46]else wr (n/10) d)++[48+n%10]:=by
 unfold wr
 rw[if_neg (by omega),pd,Nat.pow_succ,Nat.mul_comm,<-Nat.div_div_eq_div_mul]
 by_cases h:d=0
 ·subst h
  rw[if_pos rfl,Nat.pow_zero,Nat.div_one]
  simp[pd]
 rw[if_neg h,if_neg h]
 simp
theorem Yb {n d:Nat}(h:n%10≠0):Bc (wr n (d+1))=wr n (d+1):=by
 unfold Bc
 rw[Ju,KI (by omega),aCj (by omega)]
theorem zS {n d:Nat}(h:n%10=0):Bc (wr n (d+2))=Bc (wr (n/10) (d+1)):=by
 unfold Bc
 rw[Ju,h,KH,if_neg (by omega)]
theorem aCl {n:Nat}(h:n%10=0):Bc (wr n 1)=wr (n/10) 0:=by
 unfold Bc
 rw[Ju,h,KH,if_pos rfl,KI (by omega),aCk]
 unfold wr
 rw[if_pos rfl,Nat.pow_zero,Nat.div_one,List.append_nil]
theorem aCm {N j:Nat}(hj:j<=4) (h:N%10^(4-j)=0) (h2:∀i,i<j->N%10^(4-i)≠0):Bc (wr N 4)=wr (N/10^(4-j)) j:=by
 match j,hj with
 | 4,_=>
  have:=h2 3 (by omega)
  rw[Yb (d:=3) (by simpa using this)]
  simp
 | 3,_=>
  have:=h2 2 (by omega)
  have e:10^(4-3)=10:=rfl
  rw[e]at h⊢
  simp only[show 10^(4-2)=100 from rfl]at this
  rw[zS (d:=2) h,Yb (d:=2) (by omega)]
 | 2,_=>
  have:=h2 1 (by omega)
  have e:10^(4-2)=100:=rfl
  rw[e]at h⊢
  simp only[show 10^(4-1)=1000 from rfl]at this
  rw[zS (d:=2) (by omega),zS (d:=1) (by omega),Yb (d:=1) (by omega),Nat.div_div_eq_div_mul]
 | 1,_=>
  have:=h2 0 (by omega)
  have e:10^(4-1)=1000:=rfl
  rw[e]at h⊢
  simp only[show 10^(4-0)=10000 from rfl]at this
  rw[zS (d:=2) (by omega),zS (d:=1) (by omega),zS (d:=0) (by omega),Yb (d:=0) (by omega),Nat.div_div_eq_div_mul,Nat.div_div_eq_div_mul]
 | 0,_=>
  have e:10^(4-0)=10000:=rfl
  rw[e]at h⊢
  rw[zS (d:=2) (by omega),zS (d:=1) (by omega),zS (d:=0) (by omega),aCl (by omega),Nat.div_div_eq_div_mul,Nat.div_div_eq_div_mul,Nat.div_div_eq_div_mul]
theorem tp0 (j:Nat):((10^j:Nat):Rat)≠0:=by
 have:0<10^j:=Nat.pow_pos (by omega)
 exact_mod_cast (by omega:(10^j:Nat)≠0)
theorem tpp (j:Nat):(0:Rat)<((10^j:Nat):Rat):=by
 have:0<10^j:=Nat.pow_pos (by omega)
 exact_mod_cast this
theorem UN (z:Int) (j:Nat):Rat.divInt z ((10^j:Nat):Int)*((10^j:Nat):Rat)=(z:Rat):=by
 have h:=xG z ((10^j:Nat):Int) (by have:0<10^j:=Nat.pow_pos (by omega);omega)
 rwa[Rat.intCast_natCast]at h
theorem NP {m:Nat}(h:m<1000):(tx m).length<=3:=by
 by_cases h1:m<10
 ·rw[Py h1];simp
 rw[Jv (by omega),cJ]
 by_cases h2:m/10<10
 ·rw[Py h2];simp
 rw[Jv (by omega),cJ,Py (by omega)];simp
theorem UO (l:List Nat):tF 37 (l++[37])=true/\gO 37 (l++[37])=l:=by
 have h:(l++[37]).drop ((l++[37]).length-1)=[37]:=by rw[cJ,List.length_singleton,Nat.add_sub_cancel,List.drop_left]
 refine⟨decide_eq_true h,?_⟩
 unfold gO
 rw[if_pos h,cJ,List.length_singleton,Nat.add_sub_cancel,List.take_left]
section
variable {p:Rat}{j:Nat}
theorem BY (h0:0<=p) (h1:p<=((1:Int):Rat)) (hj:j<=4):oY (eI (p*((100:Int):Rat)) j++[37])=0/\kQ (eI (p*((100:Int):Rat)) j++[37])=Rat.divInt (hal (p*((100:Int):Rat)*((10^j:Nat):Rat))) ((10^j:Nat):Int)/((100:Int):Rat):=by
 obtain⟨e1,e2⟩:=UO (eI (p*((100:Int):Rat)) j)
 have hT:=tpp j
 have hu:((100:Int):Rat)=100:=rfl
 have h1':p<=1:=h1
 have hz0:0<=hal (p*((100:Int):Rat)*((10^j:Nat):Rat)):=qT (by rw[hu];exact Rat.mul_nonneg (by grind) (Rat.le_of_lt hT))
 have hzm:hal (p*((100:Int):Rat)*((10^j:Nat):Rat))<=100*((10^j:Nat):Int):=UM (by
  rw[Rat.intCast_mul,Rat.intCast_natCast,hu]
  exact Rat.mul_le_mul_of_nonneg_right (by show p*100<=100;grind) (Rat.le_of_lt hT))
 have hE:oW (eI (p*((100:Int):Rat)) j) 4=0:=by
  unfold eI
  rw[aCn,if_pos hj,if_neg]
  generalize hal (p*((100:Int):Rat)*((10^j:Nat):Rat))=z at hz0 hzm
  have h2:z.natAbs/10^j<=100:=by
   have h3:z.natAbs<=100*10^j:=by omega
   calc z.natAbs/10^j<=100*10^j/10^j:=Nat.div_le_div_right h3
    _=100:=Nat.mul_div_cancel _ (Nat.pow_pos (by omega))
  have:=NP (m:=z.natAbs/10^j) (by omega)
  omega
 have hQ:mB (eI (p*((100:Int):Rat)) j) 4=Rat.divInt (hal (p*((100:Int):Rat)*((10^j:Nat):Rat))) ((10^j:Nat):Int):=by
  unfold mB
  rw[if_pos hE]
  exact aCo _ _
 have hv:=UN (hal (p*((100:Int):Rat)*((10^j:Nat):Rat))) j
 have hS:oY (eI (p*((100:Int):Rat)) j++[37])=0:=by
  refine if_pos ⟨e1,by rw[e2];exact hE,?_,?_⟩
  ·rw[e2,hQ]
   refine Rat.le_of_mul_le_mul_right ?_ hT
   rw[hv,Rat.zero_mul]
   exact_mod_cast hz0
  rw[e2,hQ]
  refine Rat.le_of_mul_le_mul_right ?_ hT
  rw[hv]
  have h9:((hal (p*((100:Int):Rat)*((10^j:Nat):Rat)):Int):Rat)<=((100*((10^j:Nat):Int):Int):Rat):=by exact_mod_cast hzm
  rwa[Rat.intCast_mul,Rat.intCast_natCast]at h9
 refine⟨hS,?_⟩
 unfold kQ
 rw[if_pos hS,e2,hQ]
theorem Um (h0:0<=p) (h1:p<=((1:Int):Rat)) (hj:j<=4) (h:p=kQ (eI (p*((100:Int):Rat)) j++[37])):p*((100:Int):Rat)*((10^j:Nat):Rat)=((hal (p*((100:Int):Rat)*((10^j:Nat):Rat)):Int):Rat):=by
 rw[(BY h0 h1 hj).2]at h
 have hv:=UN (hal (p*((100:Int):Rat)*((10^j:Nat):Rat))) j
 generalize hal (p*((100:Int):Rat)*((10^j:Nat):Rat))=z at h hv
 have h2:p*((100:Int):Rat)=Rat.divInt z ((10^j:Nat):Int):=by
  rw[h,Rat.div_mul_cancel]
  decide
 rw[h2]
 exact hv
theorem UP (h0:0<=p) (h1:p<=((1:Int):Rat)) (hj:j<=4){z:Int}(h:p*((100:Int):Rat)*((10^j:Nat):Rat)=(z:Rat)):p=kQ (eI (p*((100:Int):Rat)) j++[37]):=by
 rw[(BY h0 h1 hj).2,h,Un]
 have hv:=UN z j
 rw[<-h]at hv
 have h2:=Js (tp0 j) hv
 rw[h2]
 have h3:p*((100:Int):Rat)/((100:Int):Rat)=p:=by
  rw[Rat.div_def,Rat.mul_assoc,Rat.mul_inv_cancel _ (by decide),Rat.mul_one]
 exact h3.symm
theorem mil (hj:j<=4):p*((1000000:Int):Rat)=p*((100:Int):Rat)*((10^j:Nat):Rat)*((10^(4-j):Nat):Rat):=by
 rw[Rat.mul_assoc,Rat.mul_assoc]
 congr 1
 have:(1000000:Int)=100*((10^j:Nat)*(10^(4-j):Nat):Nat):=by
  rw[<-Nat.pow_add,show j+(4-j)=4 by omega]
  rfl
 rw[this,Rat.intCast_mul,Rat.intCast_natCast,Rat.natCast_mul]
theorem Uo (h0:0<=p) (h:(p*((1000000:Int):Rat)).den=1):∃N:Nat,p*((1000000:Int):Rat)=(((N:Nat):Int):Rat):=by
 have h1:=NQ h
 have h2:0<=(p*((1000000:Int):Rat)).num:=by
  rw[Rat.num_nonneg]
  exact Rat.mul_nonneg h0 (by decide)
 refine⟨(p*((1000000:Int):Rat)).num.toNat,?_⟩
 rw[Int.toNat_of_nonneg h2]
 exact h1.symm
theorem yE {N:Nat}(hN:p*((1000000:Int):Rat)=(((N:Nat):Int):Rat)) (h0:0<=p) (h1:p<=((1:Int):Rat)) (hj:j<=4):(p=kQ (eI (p*((100:Int):Rat)) j++[37])↔N%10^(4-j)=0)/\(N%10^(4-j)=0->eI (p*((100:Int):Rat)) j=wr (N/10^(4-j)) j):=by
 have hm:=mil (p:=p) hj
 rw[hN]at hm
 have back:N%10^(4-j)=0->p*((100:Int):Rat)*((10^j:Nat):Rat)=(((N/10^(4-j):Nat):Int):Rat):=fun h=>by
  refine Js (tp0 (4-j)) ?_
  rw[<-hm,Rat.intCast_natCast,Rat.intCast_natCast,<-Rat.natCast_mul]
  congr 1
  have:=Nat.div_add_mod' N (10^(4-j))
  omega
 refine⟨⟨fun h=>?_,fun h=>UP h0 h1 hj (back h)⟩,fun h=>?_⟩
 ·have h2:=Um h0 h1 hj h
  rw[h2]at hm
  have hz0:0<=hal (p*((100:Int):Rat)*((10^j:Nat):Rat)):=qT (Rat.mul_nonneg (Rat.mul_nonneg h0 (by decide)) (Rat.le_of_lt (tpp j)))
  generalize hal (p*((100:Int):Rat)*((10^j:Nat):Rat))=z at hm hz0
  obtain⟨q,rfl⟩:∃q:Nat,z=(q:Int):=⟨z.toNat,by omega⟩
  rw[Rat.intCast_natCast,Rat.intCast_natCast,<-Rat.natCast_mul]at hm
  have h3:N=q*10^(4-j):=by exact_mod_cast hm
  rw[h3,Nat.mul_mod_left]
 unfold eI
 rw[back h,Un]
 unfold pt
 rw[if_neg (Int.not_lt.2 (Int.natCast_nonneg _)),Int.natAbs_natCast]
theorem UQ (h0:0<=p) (h1:p<=((1:Int):Rat)) (hj:j<=4) (h:p=kQ (eI (p*((100:Int):Rat)) j++[37])) (hn:∀i,i<j->p≠kQ (eI (p*((100:Int):Rat)) i++[37])):eI (p*((100:Int):Rat)) j++[37]=Bb p:=by
 have hd:(p*((1000000:Int):Rat)).den=1:=by
  rw[mil hj,Um h0 h1 hj h]
  generalize hal (p*((100:Int):Rat)*((10^j:Nat):Rat))=z
  have e:(z:Rat)*((10^(4-j):Nat):Rat)=((z*((10^(4-j):Nat):Int):Int):Rat):=by rw[Rat.intCast_mul,Rat.intCast_natCast]
  rw[e]
  exact Rat.den_intCast _
 obtain⟨N,hN⟩:=Uo h0 hd
 have h2:=((yE hN h0 h1 hj).1.1 h)
 have h3:∀i,i<j->N%10^(4-i)≠0:=fun i hi h9=>hn i hi ((yE hN h0 h1 (by omega)).1.2 h9)
 have h4:=aCm hj h2 h3
 have h5:=(yE (j:=4) hN h0 h1 (aX _)).2 (by simp[Nat.mod_one])
 rw[JY (Rat.not_lt.2 h0) (Rat.not_lt.2 h1) hd]
 rw[show aK 4=4 from rfl,h5,(yE hN h0 h1 hj).2 h2,<-h4]
 simp only[Nat.sub_self,Nat.pow_zero,Nat.div_one]
 rfl
theorem NR (h0:0<=p) (h1:p<=((1:Int):Rat)) (hn:∀i,i<5->p≠kQ (eI (p*((100:Int):Rat)) i++[37])):[]=Bb p:=by
 refine(yA (.inr (.inr fun hd=>?_))).symm
 obtain⟨N,hN⟩:=Uo h0 hd
 exact hn 4 (by omega) ((yE (j:=4) hN h0 h1 (aX _)).1.2 (by simp[Nat.mod_one]))
end
theorem UR (p q:Rat):decide ((p-q).num.sign=0)=decide (p=q):=by
 refine decide_eq_decide.2 ?_
 rw[Int.sign_eq_zero_iff_zero,Rat.num_eq_zero]
 constructor
 ·intro h
  grind
 intro h
 rw[h]
 grind
theorem NS {a b:Fr4}{p q:Rat}(ha:Qn a p) (hb:Qn b q) (hs:Sz 10000000 p) (ht:Sz 10000000 q):aE true Tryz.prog 66 [] [qF a,qF b] (aP (.one (tv (.bool (decide (p=q)))))):=by
 refine bD Tryz.func66 Tryz.ntmps66 fun N w c0 h0=>?_
 refine sq (rl (bx 0 ?_));refine bx 1 ?_;refine o1 ?_;refine nl (sq (rl (ld ?_)));refine ld ?_
 refine ca (vM ha hb (hs.mono (M:=17179869184) (by omega)) (ht.mono (M:=17179869184) (by omega))) aA (bN rfl rfl) _ ?_
 refine o1 ?_;refine o1 ?_;refine nl (rt ?_);exact en (.inl rfl) rfl (bB (bO _)) (by decide) (fun _=>trivial) (congrArg (fun b=>FV.one (tv (.bool b))) (UR p q))
theorem GK {p:Rat}:p.num.sign<0↔p<0:=by rw[<-qB];exact Int.sign_neg_iff
theorem NT (z:Int):(dg 4294967296 (z.fmod 2).natAbs).length<=1:=by
 have h1:=Int.fmod_nonneg_of_pos z (show(0:Int)<2 by omega)
 have h2:=Int.fmod_lt_of_pos z (show(0:Int)<2 by omega)
 exact cW (by omega) (by omega)
theorem NU {q:Rat}{L:Nat}(h:Sz L q) (hL:L+2<=1000000):(dg 4294967296 (hal q).natAbs).length<=1000000:=by
 have h1:=h.1
 have h2:(hal q).natAbs<=(fl q).natAbs+1:=by
  unfold hal
  rw[rS]
  split <;> omega
 have h3:=Bo q
 generalize fl q=f at h2 h3
 have h4:=iL (f.natAbs:Int) 1
 have h5:((f.natAbs:Int)+1).natAbs=f.natAbs+1:=by omega
 rw[h5,Int.natAbs_natCast]at h4
 have h6:(dg 4294967296 (1:Int).natAbs).length<=1:=by decide
 have h7:=eH h2
 omega
section
variable {q:Rat}
theorem aAz (h:0<(q.num.fmod (q.den:Int)+q.num.fmod (q.den:Int)-(q.den:Int)).sign):q.num.fdiv (q.den:Int)+1=hal q:=by
 have h1:=Int.sign_pos_iff.1 h
 unfold hal
 rw[if_pos (.inl (by omega))]
theorem aAA (h:¬0<(q.num.fmod (q.den:Int)+q.num.fmod (q.den:Int)-(q.den:Int)).sign) (h2:¬(q.num.fmod (q.den:Int)+q.num.fmod (q.den:Int)-(q.den:Int)).sign=0):q.num.fdiv (q.den:Int)=hal q:=by
 have h3:¬0<q.num.fmod (q.den:Int)+q.num.fmod (q.den:Int)-(q.den:Int):=fun h9=>h (Int.sign_pos_iff.2 h9)
 have h4:¬q.num.fmod (q.den:Int)+q.num.fmod (q.den:Int)-(q.den:Int)=0:=fun h9=>h2 (Int.sign_eq_zero_iff_zero.2 h9)
 unfold hal
 rw[if_neg (by omega)]
theorem fm2 (z:Int):(z.fmod 2).sign=0↔z%2=0:=by
 rw[Int.sign_eq_zero_iff_zero,Int.fmod_eq_emod_of_nonneg _ (by omega)]
theorem aAB (h:(q.num.fmod (q.den:Int)+q.num.fmod (q.den:Int)-(q.den:Int)).sign=0) (h2:((q.num.fdiv (q.den:Int)).fmod 2).sign≠0):q.num.fdiv (q.den:Int)+1=hal q:=by
 have h1:=Int.sign_eq_zero_iff_zero.1 h
 unfold hal
 rw[if_pos (.inr ⟨by omega,fun h9=>h2 ((fm2 _).2 h9)⟩)]
theorem aAC (h:(q.num.fmod (q.den:Int)+q.num.fmod (q.den:Int)-(q.den:Int)).sign=0) (h2:¬((q.num.fdiv (q.den:Int)).fmod 2).sign≠0):q.num.fdiv (q.den:Int)=hal q:=by
 have h1:=Int.sign_eq_zero_iff_zero.1 h
 have h3:=(fm2 _).1 (Decidable.byContradiction h2)
 unfold hal
 rw[if_neg (by omega)]
end
theorem US {k:Int}(h:0<=k) (hs:(dg 4294967296 k.natAbs).length<=1000000):aE true Tryz.prog 67 [] [kF k] (aP (.one (tv (.string (aN (tx k.natAbs)))))):=by
 have h1:=BV (Zn.of (k:=k) (Nat.le_trans hs (by omega))) hs
 rwa[show eB k=tx k.natAbs by unfold eB;rw[if_neg (by omega)]]at h1
set_option maxHeartbeats 1000000 in
theorem Yc {a:Fr4}{p:Rat}{n:Int}{L:Nat}(ha:Qn a p) (hs:Sz L p) (hL:L+100<=1000000):aE true Tryz.prog 59 [] [qF a,.one (tv (.int .i64 n))] (aP (.one (tv (.string (aN (eI p (aK n))))))):=by
 refine bD Tryz.func59 Tryz.ntmps59 fun N9 w9 c0 h0=>?_
 have hD:(aK n)<=40:=Bu
 have hX:Sz (L+((aK n)+1)) (p*((10^(aK n):Nat):Rat)):=lM hs (iP _)
 have hA:Sz (L+((aK n)+1)) (bI (p*((10^(aK n):Nat):Rat))):=NM hX
 have hd0:((bI (p*((10^(aK n):Nat):Rat))).den:Int)≠0:=by have:=(bI (p*((10^(aK n):Nat):Rat))).den_pos;omega
 have hA1:=hA.1
 have hA2:=hA.2
 have hfl:(dg 4294967296 ((bI (p*((10^(aK n):Nat):Rat))).num.fdiv ((bI (p*((10^(aK n):Nat):Rat))).den:Int)).natAbs).length<=1000000:=by rw[rS];exact Nat.le_trans (Bo _) (by omega)
 have hfm:(dg 4294967296 ((bI (p*((10^(aK n):Nat):Rat))).num.fmod ((bI (p*((10^(aK n):Nat):Rat))).den:Int)).natAbs).length<=1000000:=Nat.le_trans (Fm _) (by omega)
 have hmm:(dg 4294967296 (((bI (p*((10^(aK n):Nat):Rat))).num.fmod ((bI (p*((10^(aK n):Nat):Rat))).den:Int))+((bI (p*((10^(aK n):Nat):Rat))).num.fmod ((bI (p*((10^(aK n):Nat):Rat))).den:Int))).natAbs).length<=2000001:=by have:=iL ((bI (p*((10^(aK n):Nat):Rat))).num.fmod ((bI (p*((10^(aK n):Nat):Rat))).den:Int)) ((bI (p*((10^(aK n):Nat):Rat))).num.fmod ((bI (p*((10^(aK n):Nat):Rat))).den:Int));omega
 have hod:(dg 4294967296 (((bI (p*((10^(aK n):Nat):Rat))).num.fdiv ((bI (p*((10^(aK n):Nat):Rat))).den:Int)).fmod 2).natAbs).length<=1:=NT _
 have hHl:(dg 4294967296 (hal (bI (p*((10^(aK n):Nat):Rat)))).natAbs).length<=1000000:=NU hA (by omega)
 have htl:(tx (hal (bI (p*((10^(aK n):Nat):Rat)))).natAbs).length<=10000001:=rW hHl
 have hpl:(pd (hal (bI (p*((10^(aK n):Nat):Rat)))).natAbs (aK n)).length=(aK n):=tG _ _
 have htq:(tx ((hal (bI (p*((10^(aK n):Nat):Rat)))).natAbs/10^(aK n))).length<=10000001:=rW (Nat.le_trans (eH (Nat.div_le_self _ _)) hHl)
 have htq1:1<=(tx ((hal (bI (p*((10^(aK n):Nat):Rat)))).natAbs/10^(aK n))).length:=List.length_pos_iff.2 (wI _)
 have hZl:((tx ((hal (bI (p*((10^(aK n):Nat):Rat)))).natAbs/10^(aK n)))++(pd (hal (bI (p*((10^(aK n):Nat):Rat)))).natAbs (aK n))).length=(tx ((hal (bI (p*((10^(aK n):Nat):Rat)))).natAbs/10^(aK n))).length+(aK n):=by rw[cJ,hpl]
 refine sq (rl (bx 0 ?_));refine o1 ?_;refine nl (sq (rl ?_));(iterate 3 refine o1 ?_)
 refine WL.cast (t:=16) (u':=.int .i64 (((aK n):Nat):Int)) rfl (dN (by unfold aK;omega)) ?_
 refine o1 ?_;refine nl (sq (rl (ld ?_)));refine ca (lV ha) aA (aM rfl) _ ?_;refine o1 ?_
 refine ca (Xy (c:=(aK n)) (by omega)) aA (bC rfl) _ ?_
 refine ca (Cb (Qn.of (p:=p) (hs.mono (M:=68719476736) (by omega))) (Qn.of (p:=((10^(aK n):Nat):Rat)) ((iP _).mono (M:=68719476736) (by omega))) (hs.mono (M:=17179869184) (by omega)) ((iP _).mono (M:=17179869184) (by omega))) aA (bN rfl rfl) _ ?_
 refine st ?_;refine nl (sq (rl (ld ?_)))
 refine ca (uU (Qn.of (p:=(p*((10^(aK n):Nat):Rat))) (hX.mono (M:=68719476736) (by omega)))) aA (aM rfl) _ ?_
 refine o1 ?_;refine fU 24 (decide ((p*((10^(aK n):Nat):Rat))<0)) rfl (decide_eq_decide.2 GK) ?_;refine o1 ?_;refine nl ?_
 refine md (γ:=Unit) (fun _=>bP [(1,iN (aK n)),(2,pN 0),(5,.one (tv (.bool (decide ((p*((10^(aK n):Nat):Rat))<0)))))]) (fun _=>([⟨38,0,((Fr4.of (bI (p*((10^(aK n):Nat):Rat)))).tr false).map .t⟩]:List Ob).map some) (fun _=>True) ?_ fun _ _=>?_
 ·refine sq (rl (o1 ?_));refine nl ?_;refine rH rfl (fun h1=>?_) (fun h1=>?_)
  ·refine rl (ld ?_)
   refine ca (Ca (Qn.of (p:=(p*((10^(aK n):Nat):Rat))) (hX.mono (M:=68719476736) (by omega)))) aA (aM rfl) _ ?_
   refine st ?_;refine nl ?_;exact⟨(),trivial,aH h0 [0] ⟨aD (congrArg (fun q=>some (⟨38,0,((Fr4.of q).tr false).map .t⟩:Ob)) (Px h1)),rfl⟩⟩
  refine sk ?_;exact⟨(),trivial,aH h0 [0] ⟨aD (congrArg (fun q=>some (⟨38,0,((Fr4.of q).tr false).map .t⟩:Ob)) (BX h1)),rfl⟩⟩
 refine sq (rl (o1 ?_));refine ld ?_;refine o1 ?_;refine ld ?_
 refine ca (fL (gZ hA) (cY hA) hd0) aA (bN rfl rfl) _ ?_
 (iterate 4 refine o1 ?_);refine al 1 ?_;refine al 2 ?_;refine st ?_;refine st ?_;refine o1 ?_;refine nl (sq ?_);refine bU [0,1,2] [6] ?_
 refine aF 0 ?_;refine aF 1 ?_;refine dv 3 ?_;refine aF 4 ?_
 refine aG 2 rfl (qS (Zn.of (k:=((bI (p*((10^(aK n):Nat):Rat))).num.fmod ((bI (p*((10^(aK n):Nat):Rat))).den:Int))) (Nat.le_trans hfm (by omega))) (Zn.of (k:=((bI (p*((10^(aK n):Nat):Rat))).num.fmod ((bI (p*((10^(aK n):Nat):Rat))).den:Int))) (Nat.le_trans hfm (by omega)))) aA (bN rfl rfl) _ ?_
 refine aG 5 rfl (Pt (Zn.of (k:=((bI (p*((10^(aK n):Nat):Rat))).num.fmod ((bI (p*((10^(aK n):Nat):Rat))).den:Int))+((bI (p*((10^(aK n):Nat):Rat))).num.fmod ((bI (p*((10^(aK n):Nat):Rat))).den:Int))) (Nat.le_trans hmm (by omega))) (cY hA)) aA (bN rfl rfl) _ ?_
 refine bM 6 ?_
 refine aJ ?_
 refine md (γ:=Unit) (fun _=>bP [(1,iN (aK n)),(5,.one (tv (.bool (decide ((p*((10^(aK n):Nat):Rat))<0))))),(6,pN 0),(9,.one (tv (.int .i64 ((((bI (p*((10^(aK n):Nat):Rat))).num.fmod ((bI (p*((10^(aK n):Nat):Rat))).den:Int))+((bI (p*((10^(aK n):Nat):Rat))).num.fmod ((bI (p*((10^(aK n):Nat):Rat))).den:Int))-((bI (p*((10^(aK n):Nat):Rat))).den:Int)).sign)))),(11,pN 1)]) (fun _=>([⟨36,0,[tv (.bool (aZ (((bI (p*((10^(aK n):Nat):Rat))).num.fdiv ((bI (p*((10^(aK n):Nat):Rat))).den:Int))))),.t (sU false (dg 4294967296 (((bI (p*((10^(aK n):Nat):Rat))).num.fdiv ((bI (p*((10^(aK n):Nat):Rat))).den:Int))).natAbs))]⟩,⟨36,0,[tv (.bool (aZ ((((bI (p*((10^(aK n):Nat):Rat))).num.fdiv ((bI (p*((10^(aK n):Nat):Rat))).den:Int)).fmod 2)))),.t (sU false (dg 4294967296 ((((bI (p*((10^(aK n):Nat):Rat))).num.fdiv ((bI (p*((10^(aK n):Nat):Rat))).den:Int)).fmod 2)).natAbs))]⟩]:List Ob).map some) (fun _=>True) ?_ fun _ _=>?_
 ·refine bU [0,1,2] [11] ?_
  refine aF 0 ?_;refine wK 1 7 8 ?_ ?_ ?_
  ·refine dE 1 rfl (jA (n:=2) (by omega) (by omega)) aA (bC rfl) _ ?_
   refine wK 2 7 8 ?_ ?_ ?_
   ·refine dE 2 rfl (fL (Zn.of (k:=((bI (p*((10^(aK n):Nat):Rat))).num.fdiv ((bI (p*((10^(aK n):Nat):Rat))).den:Int))) (Nat.le_trans hfl (by omega))) (Zn.of (k:=2) (by decide)) (by decide)) aA (bN rfl rfl) _ ?_
    refine df 3 ?_;refine df 4 ?_;refine df 5 ?_;refine df 6 ?_;refine dD 7 8 ?_ ?_
    ·refine bQ 3 7 ?_;refine eE 4 8 ?_
     refine aT 9 ?_
     refine aT 10 ?_
     refine bM 11 ?_
     refine aJ ?_;exact⟨(),trivial,aH h0 [1,4] ⟨oe rfl rfl,oe rfl rfl,rfl⟩⟩
    refine bQ 3 8 ?_;refine eE 4 7 ?_
    refine aT 9 ?_
    refine aT 10 ?_
    refine bM 11 ?_
    refine aJ ?_;exact⟨(),trivial,aH h0 [1,3] ⟨oe rfl rfl,oe rfl rfl,rfl⟩⟩
   ·refine bQ 3 7 ?_;refine dD 2 8 ?_ ?_
    ·refine dE 2 rfl (fL (Zn.of (k:=((bI (p*((10^(aK n):Nat):Rat))).num.fdiv ((bI (p*((10^(aK n):Nat):Rat))).den:Int))) (Nat.le_trans hfl (by omega))) (Zn.of (k:=2) (by decide)) (by decide)) aA (bN rfl rfl) _ ?_
     refine df 3 ?_;refine df 4 ?_;refine df 5 ?_;refine df 6 ?_;refine eE 4 8 ?_
     refine aT 9 ?_
     refine aT 10 ?_
     refine bM 11 ?_
     refine aJ ?_;exact⟨(),trivial,aH h0 [1,4] ⟨oe rfl rfl,oe rfl rfl,rfl⟩⟩
    refine bQ 4 8 ?_
    refine aG 2 rfl (fL (Zn.of (k:=((bI (p*((10^(aK n):Nat):Rat))).num.fdiv ((bI (p*((10^(aK n):Nat):Rat))).den:Int))) (Nat.le_trans hfl (by omega))) (Zn.of (k:=2) (by decide)) (by decide)) aA (bN rfl rfl) _ ?_
    refine df 3 ?_;refine df 4 ?_;refine df 5 ?_;refine df 6 ?_;refine aT 9 ?_
    refine aT 10 ?_
    refine bM 11 ?_
    refine aJ ?_;exact⟨(),trivial,aH h0 [1,4] ⟨oe rfl rfl,oe rfl rfl,rfl⟩⟩
   refine bQ 3 8 ?_;refine dD 2 7 ?_ ?_
   ·refine dE 2 rfl (fL (Zn.of (k:=((bI (p*((10^(aK n):Nat):Rat))).num.fdiv ((bI (p*((10^(aK n):Nat):Rat))).den:Int))) (Nat.le_trans hfl (by omega))) (Zn.of (k:=2) (by decide)) (by decide)) aA (bN rfl rfl) _ ?_
    refine df 3 ?_;refine df 4 ?_;refine df 5 ?_;refine df 6 ?_;refine eE 4 7 ?_
    refine aT 9 ?_
    refine aT 10 ?_
    refine bM 11 ?_
    refine aJ ?_;exact⟨(),trivial,aH h0 [1,3] ⟨oe rfl rfl,oe rfl rfl,rfl⟩⟩
   refine bQ 4 7 ?_
   refine aG 2 rfl (fL (Zn.of (k:=((bI (p*((10^(aK n):Nat):Rat))).num.fdiv ((bI (p*((10^(aK n):Nat):Rat))).den:Int))) (Nat.le_trans hfl (by omega))) (Zn.of (k:=2) (by decide)) (by decide)) aA (bN rfl rfl) _ ?_
   refine df 3 ?_;refine df 4 ?_;refine df 5 ?_;refine df 6 ?_;refine aT 9 ?_
   refine aT 10 ?_
   refine bM 11 ?_
   refine aJ ?_;exact⟨(),trivial,aH h0 [1,3] ⟨oe rfl rfl,oe rfl rfl,rfl⟩⟩
  ·refine bQ 3 7 ?_;refine dD 1 8 ?_ ?_
   ·refine dE 1 rfl (jA (n:=2) (by omega) (by omega)) aA (bC rfl) _ ?_
    refine dD 2 8 ?_ ?_
    ·refine dE 2 rfl (fL (Zn.of (k:=((bI (p*((10^(aK n):Nat):Rat))).num.fdiv ((bI (p*((10^(aK n):Nat):Rat))).den:Int))) (Nat.le_trans hfl (by omega))) (Zn.of (k:=2) (by decide)) (by decide)) aA (bN rfl rfl) _ ?_
     refine df 3 ?_;refine df 4 ?_;refine df 5 ?_;refine df 6 ?_;refine eE 4 8 ?_
     refine aT 9 ?_
     refine aT 10 ?_
     refine bM 11 ?_
     refine aJ ?_;exact⟨(),trivial,aH h0 [1,4] ⟨oe rfl rfl,oe rfl rfl,rfl⟩⟩
    refine bQ 4 8 ?_
    refine aG 2 rfl (fL (Zn.of (k:=((bI (p*((10^(aK n):Nat):Rat))).num.fdiv ((bI (p*((10^(aK n):Nat):Rat))).den:Int))) (Nat.le_trans hfl (by omega))) (Zn.of (k:=2) (by decide)) (by decide)) aA (bN rfl rfl) _ ?_
    refine df 3 ?_;refine df 4 ?_;refine df 5 ?_;refine df 6 ?_;refine aT 9 ?_
    refine aT 10 ?_
    refine bM 11 ?_
    refine aJ ?_;exact⟨(),trivial,aH h0 [1,4] ⟨oe rfl rfl,oe rfl rfl,rfl⟩⟩
   refine bQ 4 8 ?_;refine aG 1 rfl (jA (n:=2) (by omega) (by omega)) aA (bC rfl) _ ?_
   refine aG 2 rfl (fL (Zn.of (k:=((bI (p*((10^(aK n):Nat):Rat))).num.fdiv ((bI (p*((10^(aK n):Nat):Rat))).den:Int))) (Nat.le_trans hfl (by omega))) (Zn.of (k:=2) (by decide)) (by decide)) aA (bN rfl rfl) _ ?_
   refine df 3 ?_;refine df 4 ?_;refine df 5 ?_;refine df 6 ?_;refine aT 9 ?_
   refine aT 10 ?_
   refine bM 11 ?_
   refine aJ ?_;exact⟨(),trivial,aH h0 [1,4] ⟨oe rfl rfl,oe rfl rfl,rfl⟩⟩
  refine bQ 3 8 ?_;refine dD 1 7 ?_ ?_
  ·refine dE 1 rfl (jA (n:=2) (by omega) (by omega)) aA (bC rfl) _ ?_
   refine dD 2 7 ?_ ?_
   ·refine dE 2 rfl (fL (Zn.of (k:=((bI (p*((10^(aK n):Nat):Rat))).num.fdiv ((bI (p*((10^(aK n):Nat):Rat))).den:Int))) (Nat.le_trans hfl (by omega))) (Zn.of (k:=2) (by decide)) (by decide)) aA (bN rfl rfl) _ ?_
    refine df 3 ?_;refine df 4 ?_;refine df 5 ?_;refine df 6 ?_;refine eE 4 7 ?_
    refine aT 9 ?_
    refine aT 10 ?_
    refine bM 11 ?_
    refine aJ ?_;exact⟨(),trivial,aH h0 [1,3] ⟨oe rfl rfl,oe rfl rfl,rfl⟩⟩
   refine bQ 4 7 ?_
   refine aG 2 rfl (fL (Zn.of (k:=((bI (p*((10^(aK n):Nat):Rat))).num.fdiv ((bI (p*((10^(aK n):Nat):Rat))).den:Int))) (Nat.le_trans hfl (by omega))) (Zn.of (k:=2) (by decide)) (by decide)) aA (bN rfl rfl) _ ?_
   refine df 3 ?_;refine df 4 ?_;refine df 5 ?_;refine df 6 ?_;refine aT 9 ?_
   refine aT 10 ?_
   refine bM 11 ?_
   refine aJ ?_;exact⟨(),trivial,aH h0 [1,3] ⟨oe rfl rfl,oe rfl rfl,rfl⟩⟩
  refine bQ 4 7 ?_;refine aG 1 rfl (jA (n:=2) (by omega) (by omega)) aA (bC rfl) _ ?_
  refine aG 2 rfl (fL (Zn.of (k:=((bI (p*((10^(aK n):Nat):Rat))).num.fdiv ((bI (p*((10^(aK n):Nat):Rat))).den:Int))) (Nat.le_trans hfl (by omega))) (Zn.of (k:=2) (by decide)) (by decide)) aA (bN rfl rfl) _ ?_
  refine df 3 ?_;refine df 4 ?_;refine df 5 ?_;refine df 6 ?_;refine aT 9 ?_
  refine aT 10 ?_
  refine bM 11 ?_
  refine aJ ?_;exact⟨(),trivial,aH h0 [1,3] ⟨oe rfl rfl,oe rfl rfl,rfl⟩⟩
 refine md (γ:=Unit) (fun _=>bP [(1,iN (aK n)),(5,.one (tv (.bool (decide ((p*((10^(aK n):Nat):Rat))<0))))),(6,pN 0)]) (fun _=>([⟨36,0,[tv (.bool (aZ ((hal (bI (p*((10^(aK n):Nat):Rat))))))),.t (sU false (dg 4294967296 ((hal (bI (p*((10^(aK n):Nat):Rat))))).natAbs))]⟩]:List Ob).map some) (fun _=>True) ?_ fun _ _=>?_
 ·refine sq (rl ?_);(iterate 3 refine o1 ?_);refine WL.split (t:=52) rfl (fun h2=>?_) (fun h2=>?_)
  ·(iterate 7 refine aW ?_);refine o1 ?_;refine nl (eU rfl ?_);refine bU [0,1] [2,3] ?_
   refine aF 0 ?_;refine aG 1 rfl (jA (n:=1) (by omega) (by omega)) aA (bC rfl) _ ?_
   refine aG 2 rfl (qS (Zn.of (k:=((bI (p*((10^(aK n):Nat):Rat))).num.fdiv ((bI (p*((10^(aK n):Nat):Rat))).den:Int))) (Nat.le_trans hfl (by omega))) (Zn.of (k:=1) (by decide))) aA (bN rfl rfl) _ ?_
   refine dst 3 ?_;refine aJ ?_
   exact⟨(),trivial,aH h0 [0] ⟨oe rfl (congrArg (fun z:Int=>some (⟨36,0,[tv (.bool (aZ (z))),.t (sU false (dg 4294967296 (z).natAbs))]⟩:Ob)) (aAz h2)),rfl⟩⟩
  (iterate 3 refine o1 ?_);refine WL.split (t:=55) rfl (fun h3=>?_) (fun h3=>?_)
  ·refine ld ?_
   refine ca (nK (Zn.of (k:=(((bI (p*((10^(aK n):Nat):Rat))).num.fdiv ((bI (p*((10^(aK n):Nat):Rat))).den:Int)).fmod 2)) (Nat.le_trans hod (by omega)))) aA (aM rfl) _ ?_
   (iterate 3 refine o1 ?_);refine nl ?_;refine aV rfl (fun h4=>?_) (fun h4=>?_)
   ·refine bU [0,1] [2,3] ?_
    refine aF 0 ?_;refine aG 1 rfl (jA (n:=1) (by omega) (by omega)) aA (bC rfl) _ ?_
    refine aG 2 rfl (qS (Zn.of (k:=((bI (p*((10^(aK n):Nat):Rat))).num.fdiv ((bI (p*((10^(aK n):Nat):Rat))).den:Int))) (Nat.le_trans hfl (by omega))) (Zn.of (k:=1) (by decide))) aA (bN rfl rfl) _ ?_
    refine dst 3 ?_;refine aJ ?_
    exact⟨(),trivial,aH h0 [0] ⟨oe rfl (congrArg (fun z:Int=>some (⟨36,0,[tv (.bool (aZ (z))),.t (sU false (dg 4294967296 (z).natAbs))]⟩:Ob)) (aAB h3 h4)),rfl⟩⟩
   refine sk ?_
   exact⟨(),trivial,aH h0 [0] ⟨oe rfl (congrArg (fun z:Int=>some (⟨36,0,[tv (.bool (aZ (z))),.t (sU false (dg 4294967296 (z).natAbs))]⟩:Ob)) (aAC h3 h4)),rfl⟩⟩
  (iterate 3 refine aW ?_);refine o1 ?_;refine o1 ?_;refine nl (dY rfl (sk ?_))
  exact⟨(),trivial,aH h0 [0] ⟨oe rfl (congrArg (fun z:Int=>some (⟨36,0,[tv (.bool (aZ (z))),.t (sU false (dg 4294967296 (z).natAbs))]⟩:Ob)) (aAA h2 h3)),rfl⟩⟩
 refine sq (rl (ld ?_))
 refine ca (US (k:=(hal (bI (p*((10^(aK n):Nat):Rat))))) (qT (xH _)) (Nat.le_trans hHl (by omega))) aA (aM rfl) _ ?_
 refine o1 ?_;refine nl (sq (bl ?_))
 refine lp (γ:=Nat) (fun s=>bP [(1,iN (aK n)),(5,.one (tv (.bool (decide ((p*((10^(aK n):Nat):Rat))<0))))),(6,pN 0),(13,.one (tv (.string (aN (List.replicate s 48++tx (hal (bI (p*((10^(aK n):Nat):Rat)))).natAbs)))))]) (fun s=>[(⟨36,0,[tv (.bool (aZ ((hal (bI (p*((10^(aK n):Nat):Rat))))))),.t (sU false (dg 4294967296 ((hal (bI (p*((10^(aK n):Nat):Rat))))).natAbs))]⟩:Ob)].map some) (fun s=>s=0\/s+(tx (hal (bI (p*((10^(aK n):Nat):Rat)))).natAbs).length<=(aK n)+1) (fun s=>(aK n)+1-s) 0 (.inl rfl) (aH h0 [0] ⟨oe rfl rfl,rfl⟩) ?_
 rintro j hj
 have hjl:(List.replicate j 48++tx (hal (bI (p*((10^(aK n):Nat):Rat)))).natAbs).length=j+(tx (hal (bI (p*((10^(aK n):Nat):Rat)))).natAbs).length:=by rw[cJ,List.length_replicate]
 have htx1:1<=(tx (hal (bI (p*((10^(aK n):Nat):Rat)))).natAbs).length:=List.length_pos_iff.2 (wI _)
 refine sq (sq (rl (o1 ?_)));refine o1 ?_
 refine WL.cast (t:=67) (u':=.int .i64 (((List.replicate j 48++tx (hal (bI (p*((10^(aK n):Nat):Rat)))).natAbs).length:Nat):Int)) rfl (congrArg (fun n:Nat=>Value.int .i64 (n:Int)) (aO _)) ?_
 refine o1 ?_;refine o1 ?_;refine nl ?_;refine aV rfl (fun h5=>?_) (fun h5=>?_)
 ·refine sk (bl (rl (o1 ?_)));refine o1 ?_ (hC:=(by rw[aO];show 1+_<=_;omega))
  refine lZ 71 (List.replicate (j+1) 48++tx (hal (bI (p*((10^(aK n):Nat):Rat)))).natAbs) rfl ((eK [48] _).trans (congrArg aN (by rw[List.replicate_succ];rfl))) ?_
  refine o1 ?_;refine nl ?_;exact⟨j+1,by omega,by omega,aH h0 [0] ⟨oe rfl rfl,rfl⟩⟩
 refine ex ?_
 refine md (γ:=Unit) (fun _=>bP [(5,.one (tv (.bool (decide ((p*((10^(aK n):Nat):Rat))<0))))),(6,pN 0),(13,.one (tv (.string (aN (wr (hal (bI (p*((10^(aK n):Nat):Rat)))).natAbs (aK n))))))]) (fun _=>([⟨36,0,[tv (.bool (aZ ((hal (bI (p*((10^(aK n):Nat):Rat))))))),.t (sU false (dg 4294967296 ((hal (bI (p*((10^(aK n):Nat):Rat))))).natAbs))]⟩]:List Ob).map some) (fun _=>True) ?_ fun _ _=>?_
 ·refine sq ?_;have hje:j=(aK n)+1-(tx (hal (bI (p*((10^(aK n):Nat):Rat)))).natAbs).length:=by omega
  have hjz:(List.replicate j 48++tx (hal (bI (p*((10^(aK n):Nat):Rat)))).natAbs)=((tx ((hal (bI (p*((10^(aK n):Nat):Rat)))).natAbs/10^(aK n)))++(pd (hal (bI (p*((10^(aK n):Nat):Rat)))).natAbs (aK n))):=by rw[hje];exact Pi (aK n) (hal (bI (p*((10^(aK n):Nat):Rat)))).natAbs
  refine WP.sub (dC h0 [0] [(1,iN (aK n)),(5,.one (tv (.bool (decide ((p*((10^(aK n):Nat):Rat))<0))))),(6,pN 0),(13,.one (tv (.string (aN ((tx ((hal (bI (p*((10^(aK n):Nat):Rat)))).natAbs/10^(aK n)))++(pd (hal (bI (p*((10^(aK n):Nat):Rat)))).natAbs (aK n)))))))] [(⟨36,0,[tv (.bool (aZ ((hal (bI (p*((10^(aK n):Nat):Rat))))))),.t (sU false (dg 4294967296 ((hal (bI (p*((10^(aK n):Nat):Rat))))).natAbs))]⟩:Ob)] (by decide) ⟨rfl,rfl,rfl,(congrArg (fun b=>some (FV.one (tv (.string (aN b))))) hjz.symm),trivial⟩ ⟨oe rfl rfl,rfl⟩) ?_
  refine rl (o1 ?_);refine o1 ?_;refine nl ?_;refine aV rfl (fun h6=>?_) (fun h6=>?_)
  ·refine bU [0] [14] ?_
   refine dv 0 ?_;refine dv 1 ?_;refine dv 2 ?_
   refine WD.cast (t:=76) (u':=.int .i64 ((((tx ((hal (bI (p*((10^(aK n):Nat):Rat)))).natAbs/10^(aK n)))++(pd (hal (bI (p*((10^(aK n):Nat):Rat)))).natAbs (aK n))).length:Nat):Int)) rfl (congrArg (fun n:Nat=>Value.int .i64 (n:Int)) (aO _)) ?_
   refine dv 3 ?_;refine dv 4 ?_
   refine WD.cast (t:=78) (u':=.int .i64 ((((tx ((hal (bI (p*((10^(aK n):Nat):Rat)))).natAbs/10^(aK n)))++(pd (hal (bI (p*((10^(aK n):Nat):Rat)))).natAbs (aK n))).length-(aK n):Nat):Int)) rfl (dN (by omega)) ?_
   refine dv 5 ?_ (hC:=(by rw[aO];omega))
   refine Ba 79 (tx ((hal (bI (p*((10^(aK n):Nat):Rat)))).natAbs/10^(aK n))) rfl ((Bt _ 0 _).trans (congrArg aN (BF hZl))) ?_
   refine dv 6 ?_ (hC:=(by rw[aO];show _+1<=_;omega))
   refine Ba 80 ((tx ((hal (bI (p*((10^(aK n):Nat):Rat)))).natAbs/10^(aK n)))++[46]) rfl (eK _ [46]) ?_
   refine dv 7 ?_;refine dv 8 ?_;refine dv 9 ?_
   refine WD.cast (t:=83) (u':=.int .i64 ((((tx ((hal (bI (p*((10^(aK n):Nat):Rat)))).natAbs/10^(aK n)))++(pd (hal (bI (p*((10^(aK n):Nat):Rat)))).natAbs (aK n))).length:Nat):Int)) rfl (congrArg (fun n:Nat=>Value.int .i64 (n:Int)) (aO _)) ?_
   refine dv 10 ?_;refine dv 11 ?_
   refine WD.cast (t:=85) (u':=.int .i64 ((((tx ((hal (bI (p*((10^(aK n):Nat):Rat)))).natAbs/10^(aK n)))++(pd (hal (bI (p*((10^(aK n):Nat):Rat)))).natAbs (aK n))).length-(aK n):Nat):Int)) rfl (dN (by omega)) ?_
   refine dv 12 ?_ (hC:=(by rw[aO];omega))
   refine Ba 86 (pd (hal (bI (p*((10^(aK n):Nat):Rat)))).natAbs (aK n)) rfl ((Dk _ _).trans (congrArg aN (BG hZl))) ?_
   refine dv 13 ?_ (hC:=(by rw[aO,aO,cJ];show _+1+_<=_;omega))
   refine Ba 87 (wr (hal (bI (p*((10^(aK n):Nat):Rat)))).natAbs (aK n)) rfl ((eK _ _).trans (congrArg aN (TE (by omega)))) ?_
   refine bM 14 ?_
   refine aJ ?_;exact⟨(),trivial,aH h0 [0] ⟨oe rfl rfl,rfl⟩⟩
  refine sk ?_
  exact⟨(),trivial,dC h0 [0] _ _ (by decide) ⟨rfl,rfl,(congrArg (fun b=>some (FV.one (tv (.string (aN b))))) (TF (n:=(hal (bI (p*((10^(aK n):Nat):Rat)))).natAbs) (d:=(aK n)) (by omega)).symm),trivial⟩ ⟨oe rfl rfl,rfl⟩⟩
 refine sq (sq (rl (o1 ?_)));refine o1 ?_;refine WL.splitb (t:=89) rfl (fun h7=>?_) (fun h7=>?_)
 ·refine ld ?_
  refine ca (nK (Zn.of (k:=(hal (bI (p*((10^(aK n):Nat):Rat))))) (Nat.le_trans hHl (by omega)))) aA (aM rfl) (.one (tv (.int .i64 ((hal (bI (p*((10^(aK n):Nat):Rat))))).sign))) ?_
  refine o1 ?_;refine o1 ?_;refine nl ?_;refine aV rfl (fun h8=>?_) (fun h8=>?_)
  ·refine rl (o1 ?_);refine o1 ?_ (hC:=(by rw[aO];show 1+_<=_;rw[Hq];split <;> omega))
   refine lZ 95 (45::(wr (hal (bI (p*((10^(aK n):Nat):Rat)))).natAbs (aK n))) rfl (eK [45] _) ?_;refine o1 ?_
   refine nl (sq (rl (o1 ?_)));refine o1 ?_;refine nl (rt ?_)
   exact fW (.inl rfl) rfl (congrArg aN (NO h7 (fun h9=>h8 (by rw[h9];rfl))))
  refine sk (sq (rl (o1 ?_)));refine o1 ?_;refine nl (rt ?_)
  exact fW (.inl rfl) rfl (congrArg aN (Ul (.inr (Int.sign_eq_zero_iff_zero.1 (Decidable.byContradiction h8)))))
 (iterate 3 refine aW ?_);refine o1 ?_;refine nl (dY rfl (sk (sq (rl (o1 ?_)))));refine o1 ?_;refine nl (rt ?_)
 exact fW (.inl rfl) rfl (congrArg aN (Ul (.inl h7)))
theorem Up (l:List Nat):Sz 44 (kQ l):=by
 unfold kQ
 split
 ·exact(Ox (BS _ 4) (cU (z:=100) (by omega) (by omega))).mono (by omega)
 exact(cU (z:=0) (by omega) (by omega)).mono (by omega)
theorem UT {a:Fr4}{p:Rat}{j L:Nat}(hj:j<=40) (ha:Qn a p) (hs:Sz L p) (hL:L+100<=1000000):aE true Tryz.prog 59 [] [qF a,.one (tv (.int .i64 ((j:Nat):Int)))] (aP (.one (tv (.string (aN (eI p j)))))):=by
 have h:=Yc (n:=(j:Int)) ha hs hL
 rwa[show aK (j:Int)=j by unfold aK;omega]at h
theorem BZ {p:Rat}{j L:Nat}(hs:Sz L p) (hj:j<=40) (hL:L+100<=10000):(eI p j).length<=999999:=by
 have h1:(dg 4294967296 (hal (p*((10^j:Nat):Rat))).natAbs).length<=L+43:=by
  have h1:=(lM hs (iP j)).1
  have h2:(hal (p*((10^j:Nat):Rat))).natAbs<=(fl (p*((10^j:Nat):Rat))).natAbs+1:=by
   unfold hal
   rw[rS]
   split <;> omega
  have h3:=Bo (p*((10^j:Nat):Rat))
  generalize fl (p*((10^j:Nat):Rat))=f at h2 h3
  have h4:=iL (f.natAbs:Int) 1
  have h5:((f.natAbs:Int)+1).natAbs=f.natAbs+1:=by omega
  rw[h5,Int.natAbs_natCast]at h4
  have h6:(dg 4294967296 (1:Int).natAbs).length<=1:=by decide
  have h7:=eH h2
  omega
 have h2:=rW (Nat.le_trans (eH (Nat.div_le_self _ (10^j))) h1)
 have h4:=Hq (n:=(hal (p*((10^j:Nat):Rat))).natAbs) (d:=j)
 unfold eI pt
 split
 ·rw[List.length_cons,h4]
  split <;> omega
 rw[h4]
 split <;> omega
theorem lP {a:Fr4}{p:Rat}{L:Nat}(ha:Qn a p) (hs:Sz L p) (hL:L+102<=10000):aE true Tryz.prog 26 [] [qF a] (aP (.one (tv (.string (aN (Bb p)))))):=by
 refine bD Tryz.func26 Tryz.ntmps26 fun N9 w9 c0 h0=>?_
 have hX:Sz (L+2) (p*((100:Int):Rat)):=lM hs (cU (by omega) (by omega))
 refine sq (rl (bx 0 ?_));refine o1 ?_;refine nl (sq (rl (ld ?_)));refine ca (lV ha) aA (aM rfl) _ ?_;refine st ?_
 refine nl (sq (sq ?_));refine bU [0] [] ?_
 refine aF 0 ?_;refine aG 1 rfl (uU (Qn.of (p:=p) (hs.mono (M:=68719476736) (by omega)))) aA (aM rfl) _ ?_
 refine df 2 ?_;refine df 3 ?_;refine WD.split (t:=12) rfl rfl (fun h1=>?_) (fun h1=>?_)
 ·refine cF 4 ?_;refine cF 5 ?_;refine cF 6 ?_;refine cF 7 ?_;refine df 8 ?_;refine aJ ?_;refine eU rfl (sq (rl (o1 ?_)));refine nl (rt ?_)
  exact fW (.inl rfl) rfl (congrArg aN (yA (.inl (qB.1 (Int.sign_neg_iff.1 h1)))).symm)
 refine aF 4 ?_;refine aG 5 rfl (jP (n:=1) (by omega) (by omega)) aA (bC rfl) _ ?_
 refine aG 6 rfl (vM (Qn.of (p:=p) (hs.mono (M:=68719476736) (by omega))) (Qn.of (p:=((1:Int):Rat)) ((cU (by omega) (by omega)).mono (M:=68719476736) (by omega))) (hs.mono (M:=17179869184) (by omega)) ((cU (by omega) (by omega)).mono (M:=17179869184) (by omega))) aA (bN rfl rfl) _ ?_
 refine df 7 ?_;refine df 8 ?_;refine aJ ?_;refine aV rfl (fun h2=>?_) (fun h2=>?_)
 ·refine sq (rl (o1 ?_));refine nl (rt ?_)
  exact fW (.inl rfl) rfl (congrArg aN (yA (.inr (.inl (TH h2)))).symm)
 refine sk (sq (sq ?_));have h0p:0<=p:=Rat.not_lt.1 (fun h9=>h1 (Int.sign_neg_iff.2 (qB.2 h9)))
 have h1p:p<=((1:Int):Rat):=Rat.not_lt.1 (fun h9=>h2 (BK h9))
 refine rl (o1 ?_);refine nl (bl ?_)
 refine lp (γ:=Nat) (fun s=>bP [(1,pN 0),(3,iN s)]) (fun s=>[(⟨38,0,((Fr4.of p).tr false).map .t⟩:Ob)].map some) (fun s=>s<=5/\∀i,i<s->p≠kQ (eI (p*((100:Int):Rat)) i++[37])) (fun s=>5-s) 0 ⟨Nat.zero_le _,fun i hi=>absurd hi (Nat.not_lt_zero i)⟩ (aH h0 [0] ⟨oe rfl rfl,rfl⟩) ?_
 rintro j ⟨hj,hn⟩;refine sq (sq (rl (o1 ?_)));refine o1 ?_;refine nl ?_;refine aV rfl (fun h3=>?_) (fun h3=>?_)
 ·refine sk (sq (bl (sq ?_)));have hWl:Lim 256 ((eI (p*((100:Int):Rat)) j)++[37]):=(Bv _ _).append (Lim.cons (by omega) Lim.nil)
  have hWj:(eI (p*((100:Int):Rat)) j).length<=999999:=BZ hX (by omega) (by omega)
  have hWn:((eI (p*((100:Int):Rat)) j)++[37]).length<=1000000:=by rw[cJ];show _+1<=_;omega
  refine bU [0] [5] ?_
  refine aF 0 ?_;refine dv 3 ?_;refine aG 1 rfl (jP (n:=100) (by omega) (by omega)) aA (bC rfl) _ ?_
  refine aG 2 rfl (Cb (Qn.of (p:=p) (hs.mono (M:=68719476736) (by omega))) (Qn.of (p:=((100:Int):Rat)) ((cU (by omega) (by omega)).mono (M:=68719476736) (by omega))) (hs.mono (M:=17179869184) (by omega)) ((cU (by omega) (by omega)).mono (M:=17179869184) (by omega))) aA (bN rfl rfl) _ ?_
  refine aG 4 rfl (UT (p:=(p*((100:Int):Rat))) (j:=j) (by omega) (Qn.of (p:=(p*((100:Int):Rat))) (hX.mono (M:=68719476736) (by omega))) hX (by omega)) aA ⟨nD rfl,a1 rfl,rfl⟩ (.one (tv (.string (aN (eI (p*((100:Int):Rat)) j))))) ?_
  refine bM 5 ?_
  refine aJ ?_;refine sq (rl (o1 ?_));refine o1 ?_ (hC:=(by rw[aO];show _+1<=_;omega))
  refine lZ 29 ((eI (p*((100:Int):Rat)) j)++[37]) rfl (eK _ [37]) ?_
  refine ca (NK (l:=(eI (p*((100:Int):Rat)) j)++[37]) hWl hWn) aA (bC rfl) _ ?_
  (iterate 3 refine o1 ?_);refine al 1 ?_;refine st ?_;refine o1 ?_;refine nl (sq (rl (ld ?_)));refine ld ?_
  refine ca (NS (Qn.of (p:=p) (hs.mono (M:=68719476736) (by omega))) (Qn.of (p:=(kQ ((eI (p*((100:Int):Rat)) j)++[37]))) ((Up _).mono (M:=68719476736) (by omega))) (hs.mono (by omega)) ((Up _).mono (by omega))) aA (bN rfl rfl) (.one (tv (.bool (decide (p=(kQ ((eI (p*((100:Int):Rat)) j)++[37]))))))) ?_
  refine nl ?_;refine rH rfl (fun h4=>?_) (fun h4=>?_)
  ·refine sq (rl (o1 ?_));refine o1 ?_ (hC:=(by rw[aO];show _+1<=_;omega))
   refine lZ 37 ((eI (p*((100:Int):Rat)) j)++[37]) rfl (eK _ [37]) ?_;refine o1 ?_;refine nl (rt ?_)
   exact fW (.inl rfl) rfl (congrArg aN (UQ h0p h1p (by omega) (of_decide_eq_true h4) hn))
  refine sk (rl (o1 ?_));refine o1 ?_;refine aY 21 (j+1) ?_
  refine o1 ?_;refine nl ?_
  exact⟨j+1,by omega,⟨by omega,fun i hi=>(by rcases Nat.lt_or_ge i j with h9 | h9;exact hn i h9;rw[show i=j by omega];exact of_decide_eq_false h4)⟩,aH h0 [0] ⟨oe rfl rfl,rfl⟩⟩
 refine ex (sq (rl (o1 ?_)));refine nl (rt ?_);have hn5:∀i,i<5->p≠kQ (eI (p*((100:Int):Rat)) i++[37]):=fun i hi=>hn i (by omega)
 exact fW (.inl rfl) rfl (congrArg aN (NR h0p h1p hn5))
def xI:List Nat:=[102,105,108,105,110,103]
def Ll:List Nat:=[98,114,97,99,107,101,116]
def nY:List Nat:=[116,104,114,101,115,104,111,108,100]
def qE:List Nat:=[99,97,112]
def tN:List Nat:=[98,97,99,107]
def wM:List Nat:=[102,111,114,119,97,114,100]
def Bd:List Nat:=[105,110,116,101,114,101,115,116]
def rI:List Nat:=[99,108,97,115,115]
def Uq:List Nat:=[101,110,116,105,116,121]
def Lm:List Nat:=[121,101,97,114]
def Ln:List Nat:=[104,111,108,100]
def Lo:List Nat:=[98,111,111,107]
def Ur:List Nat:=[103,105,118,101]
def Us:List Nat:=[116,97,107,101]
def Lp:List Nat:=[115,116,111,99,107]
def Lq:List Nat:=[115,111,108,100]
def jY:List (List Nat):=[[],[105,110,99,111,109,101],[101,120,112,101,110,115,101],[101,120,101,109,112,116],[100,101,110,105,101,100],[99,97,112,112,101,100],[100,101,102,101,114,114,101,100],[100,101,112,114,101,99,105,97,116,105,111,110],[105,110,116,101,114,101,115,116,45,105,110],[105,110,116,101,114,101,115,116,45,111,117,116],[100,105,118,105,100,101,110,100],[100,105,115,116,114,105,98,117,116,105,111,110]]
def pW:List (List Nat):=[[],[103,111,111,100,115],[115,101,114,118,105,99,101],[105,110,116,101,114,101,115,116],[100,105,118,105,100,101,110,100]]
def dZ (a:Fr4):List Nat:=eI a.q (aK 2)
def bY (a:Fr4):List Nat:=Bb a.q
def Cd (a:Fr4):List Nat:=eI a.q (aK 0)
def iX (x:It):List Nat:=bJ [Ll,dZ x.p,bY x.q]
def qG (x:It):List (List Nat):=if x.k=4 then [bY x.p]else if x.k=5 then [dZ x.p]else if x.k=6 then [Cd x.p]else []
def jV (x:It):List Nat:=bJ ([rI,x.s,jY.getD x.k []]++qG x)
def tO (l:List Nat):List Nat:=bJ [Uq,l]
def wN (x:It):List Nat:=bJ [Ln,x.s,x.t,bY x.p]
def uG (x:It):List Nat:=bJ [Lo,x.s,x.t,dZ x.p]
def mU (x:It):List Nat:=bJ [cond x.b Ur Us,x.s,pW.getD x.k [],x.t,x.u,x.v,dZ x.p]
def uH (x:It):List Nat:=bJ [Lp,x.s,dZ x.p,bY x.q]
def tP (x:It):List Nat:=bJ [Lq,x.s,bY x.p]
def hd0 (f:Fil):List (List Nat):=[bJ [xI,f.nm,f.pa]]
def hd1 (f:Fil):List (List Nat):=hd0 f++f.br.map iX
def hd2 (f:Fil):List (List Nat):=hd1 f++[bJ [nY,bY f.th]]++[bJ [qE,bY f.cp]]++[bJ [tN,eB f.bk]]++[bJ [wM,eB f.fw]]++[bJ [Bd,bY f.it,dZ f.fl,eB f.kp]]
def lQ (f:Fil):List (List Nat):=hd2 f++f.cl.map jV
def iJ (f:Fil):List (List Nat):=lQ f++f.en.map tO
def mJ (y:Yer):List (List Nat):=[bJ [Lm,eB y.n]]
def kD (y:Yer):List (List Nat):=mJ y++y.h.map wN
def kE (y:Yer):List (List Nat):=kD y++y.b.map uG
def kG (y:Yer):List (List Nat):=kE y++y.d.map mU
def jW (y:Yer):List (List Nat):=kG y++y.s.map uH
def yrL (y:Yer):List (List Nat):=jW y++y.o.map tP
def Ce (f:Fil):List (List Nat):=iJ f++f.ys.flatMap yrL
theorem Pz (ls:List (List Nat)) (x:List Nat):cN (ls++[x])=cN ls++x++[10]:=by simp[cN]
def gK (l:List Nat):Prop:=Lim 256 l/\l.length<=200000000
def Ex (l:List Nat):Prop:=Lim 256 l/\l.length<=1500000000
def OkLs (ls:List (List Nat)):Prop:=∀l∈ls,Ex l
theorem OkS.w {l:List Nat}(h:OkS l):gK l:=⟨h.1,by have:=h.2;omega⟩
theorem zT:∀{ws:List (List Nat)},(∀w∈ws,gK w)->Lim 256 (bJ ws)/\(bJ ws).length<=ws.length*200000001
 | [],_=>⟨fun _ h=>(by cases h),by simp[bJ]⟩
 | [x],h=>⟨(h x (by simp)).1,by have:=(h x (by simp)).2;simp[bJ];omega⟩
 | x::y::l,h=>by
  have ih:=zT (ws:=y::l) fun w hw=>h w (by simp at hw⊢;exact .inr hw)
  have hx:=h x (by simp)
  have:=hx.2
  have:=ih.2
  refine⟨fun c hc=>?_,?_⟩
  ·rw[bJ,List.mem_append,RH]at hc
   rcases hc with hc | rfl | hc
   ·exact hx.1 c hc
   ·decide
   exact ih.1 c hc
  rw[bJ,cJ,List.length_cons]
  simp only[List.length_cons]at this⊢
  omega
theorem dG {ws:List (List Nat)}(h:∀w∈ws,gK w) (hn:ws.length<=7):Ex (bJ ws):=⟨(zT h).1,Nat.le_trans (zT h).2 (by omega)⟩
theorem UU {a:Fr4}{L:Nat}(ha:a.ok) (h1:a.x.length<=L) (h2:a.y.length<=L) (hL:2<=L):Sz L a.q:=by
 have hq:Qn a a.q:=⟨ha,rfl⟩
 cases hr:eC a.s a.x a.t a.y with
 | true=>
  have e:=hq.right hr
  have e1:dg 4294967296 a.q.num.natAbs=a.x:=congrArg Fr4.x e
  have e2:dg 4294967296 a.q.den=a.y:=congrArg Fr4.y e
  exact⟨by rw[e1];exact h1,by rw[e2];exact h2⟩
 | false=>
  rw[hq.wrong hr]
  exact(cU (z:=0) (by omega) (by omega)).mono hL
theorem Ok6.qn {a:Fr4}(h:Ok6 a):Qn a a.q:=⟨h.ok,rfl⟩
theorem Ok6.sz {a:Fr4}(h:Ok6 a):Sz 6 a.q:=UU h.ok h.2.1 h.2.2 (by omega)
theorem GL (p:Rat):Lim 256 (Bb p):=by
 unfold Bb
 split
 ·exact(BB (Dm (Bv _ _))).append (Lim.cons (by omega) Lim.nil)
 exact Lim.nil
theorem GM {p:Rat}(h:Sz 6 p):(Bb p).length<=100000001:=by
 unfold Bb
 split
 ·have h1:=zN (n:=4) (lM h (cU (z:=100) (by omega) (by omega))) (by omega)
  have h2:=Jp (p:=p0) (l:=eI (p*((100:Int):Rat)) (aK 4))
  have h3:=Pd (c:=46) (l:=nE p0 (eI (p*((100:Int):Rat)) (aK 4)))
  rw[cJ]
  simp only[List.length_cons,List.length_nil]
  omega
 simp
theorem pM {a:Fr4}(h:Ok6 a):gK (dZ a):=⟨Bv _ _,Nat.le_trans (zN (n:=2) h.sz (by omega)) (by omega)⟩
theorem Yd {a:Fr4}(h:Ok6 a):gK (Cd a):=⟨Bv _ _,Nat.le_trans (zN (n:=0) h.sz (by omega)) (by omega)⟩
theorem mD {a:Fr4}(h:Ok6 a):gK (bY a):=⟨GL _,Nat.le_trans (GM h.sz) (by omega)⟩
theorem pO {n:Int}(h1:-9223372036854775808<=n) (h2:n<=9223372036854775807):gK (eB n):=by
 refine⟨NW n,?_⟩
 have h3:=(cU h1 h2).1
 rw[Rat.num_intCast]at h3
 have h4:=rW h3
 unfold eB
 split
 ·rw[List.length_cons];omega
 omega
theorem zU {ls:List (List Nat)}(h:ls.all (fun l=>l.all (fun c=>decide (c<256))&&decide (l.length<=100))=true) (k:Nat):gK (ls.getD k []):=by
 rcases Nat.lt_or_ge k ls.length with hk | hk
 ·have:=List.all_eq_true.1 h (ls.getD k []) (Nu hk)
  rw[Bool.and_eq_true,decide_eq_true_eq,List.all_eq_true]at this
  exact⟨fun c hc=>by simpa using this.1 c hc,by omega⟩
 rw[List.getD_eq_getElem?_getD,List.getElem?_eq_none hk]
 exact⟨Lim.nil,by simp⟩
theorem hG {l:List Nat}(h:(l.all (fun c=>decide (c<256))&&decide (l.length<=100))=true):gK l:=by
 rw[Bool.and_eq_true,decide_eq_true_eq,List.all_eq_true]at h
 exact⟨fun c hc=>by simpa using h.1 c hc,by omega⟩
theorem bH {x:List Nat}{l:List (List Nat)}(h:gK x) (h2:∀w∈l,gK w):∀w∈x::l,gK w:=fun w hw=>by
 rcases List.mem_cons.1 hw with rfl | hw
 ·exact h
 exact h2 w hw
theorem eX:∀w∈([]:List (List Nat)),gK w:=fun _ h=>by cases h
theorem sR {x:It}(h:OkI x):∀w∈[Ll,dZ x.p,bY x.q],gK w:=bH (hG rfl) (bH (pM h.p) (bH (mD h.q) eX))
theorem Nv {x:It}(h:OkI x):∀w∈[rI,x.s,jY.getD x.k []],gK w:=bH (hG rfl) (bH h.s.w (bH (zU rfl _) eX))
theorem KJ {x:It}(h:OkI x):∀w∈qG x,gK w:=by
 unfold qG
 split
 ·exact bH (mD h.p) eX
 split
 ·exact bH (pM h.p) eX
 split
 ·exact bH (Yd h.p) eX
 exact eX
theorem aAD (x:It):(qG x).length<=1:=by
 unfold qG
 repeat' split
 all_goals simp
theorem aCp {x:It}(h:OkI x):∀w∈[rI,x.s,jY.getD x.k []]++qG x,gK w:=fun w hw=>by
 rcases List.mem_append.1 hw with hw | hw
 ·exact Nv h w hw
 exact KJ h w hw
theorem Ib {x:It}(h:OkI x):∀w∈[Ln,x.s,x.t,bY x.p],gK w:=bH (hG rfl) (bH h.s.w (bH h.t.w (bH (mD h.p) eX)))
theorem Ic {x:It}(h:OkI x):∀w∈[Lo,x.s,x.t,dZ x.p],gK w:=bH (hG rfl) (bH h.s.w (bH h.t.w (bH (pM h.p) eX)))
theorem KK {x:It}(h:OkI x):∀w∈[cond x.b Ur Us,x.s,pW.getD x.k [],x.t,x.u,x.v,dZ x.p],gK w:=bH (by cases x.b <;> exact hG rfl) (bH h.s.w (bH (zU rfl _) (bH h.t.w (bH h.u.w (bH h.v.w (bH (pM h.p) eX))))))
theorem Id {x:It}(h:OkI x):∀w∈[Lp,x.s,dZ x.p,bY x.q],gK w:=bH (hG rfl) (bH h.s.w (bH (pM h.p) (bH (mD h.q) eX)))
theorem Nw {x:It}(h:OkI x):∀w∈[Lq,x.s,bY x.p],gK w:=bH (hG rfl) (bH h.s.w (bH (mD h.p) eX))
theorem Ye {l:List Nat}(h:OkS l):∀w∈[Uq,l],gK w:=bH (hG rfl) (bH h.w eX)
theorem Ie {x:It}(h:OkI x):Ex (jV x):=dG (aCp h) (by have:=aAD x;rw[cJ];simp only[List.length_cons,List.length_nil];omega)
theorem If {x:It}(h:OkI x):Ex (mU x):=dG (KK h) (by simp)
theorem OkLs.app {a b:List (List Nat)}(ha:OkLs a) (hb:OkLs b):OkLs (a++b):=fun l hl=>(List.mem_append.1 hl).elim (ha l) (hb l)
theorem fO {l:List Nat}(h:Ex l):OkLs [l]:=fun x hx=>by rw[List.mem_singleton]at hx;rw[hx];exact h
theorem gL {α:Type}{g:α->List Nat}{xs:List α}(h:∀x∈xs,Ex (g x)):OkLs (xs.map g):=fun l hl=>by
 obtain⟨x,hx,rfl⟩:=List.mem_map.1 hl
 exact h x hx
theorem kK {α:Type}{g:α->List Nat}{xs:List α}(h:∀x∈xs,Ex (g x)) (k:Nat):OkLs ((xs.take k).map g):=gL fun x hx=>h x (List.mem_of_mem_take hx)
theorem Jw:∀{ls:List (List Nat)},OkLs ls->(cN ls).length<=ls.length*1500000001
 | [],_=>by simp[cN]
 | x::l,h=>by
  have ih:=Jw (ls:=l) fun y hy=>h y (by simp[hy])
  have:=(h x (by simp)).2
  have e:cN (x::l)=x++[10]++cN l:=by simp[cN]
  rw[e]
  simp only[cJ,List.length_cons,List.length_nil]at ih⊢
  omega
theorem Ut:∀{ls:List (List Nat)},OkLs ls->Lim 256 (cN ls)
 | [],_=>by simp[cN];exact Lim.nil
 | x::l,h=>by
  have ih:=Ut (ls:=l) fun y hy=>h y (by simp[hy])
  have e:cN (x::l)=x++[10]++cN l:=by simp[cN]
  rw[e]
  exact(((h x (by simp)).1).append (Lim.cons (by omega) Lim.nil)).append ih
theorem eT {α:Type}{d:α}{pre:List (List Nat)}{g:α->List Nat}{xs:List α}{k:Nat}(h:k<xs.length):pre++(xs.take k).map g++[g (xs.getD k d)]=pre++(xs.take (k+1)).map g:=by
 rw[List.append_assoc,List.take_add_one,List.map_append,fV h]
 simp[h]
end Go.Proofs.YtimiaildfkimfaaGreatDoor
