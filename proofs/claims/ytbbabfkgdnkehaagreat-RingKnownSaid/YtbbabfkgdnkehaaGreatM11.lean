/- Part 11 of a proof: B6 to O1. -/
import Derived.Test.YtbbabfkgdnkehaaGreatM10
import Derived.Test.YtbbabfkgdnkehaaGreatM7
import Derived.Test.YtbbabfkgdnkehaaGreatM9
import Derived.Test.YtbbabfkgdnkehaaGreatM8
import Derived.Test.YtbbabfkgdnkehaaGreatM5
set_option maxRecDepth 100000
set_option linter.unusedVariables false
set_option linter.unusedSimpArgs false
namespace Go.Proofs.YtbbabfkgdnkehaaGreat
open Go Go.RowKit
theorem AB {y b:Int}{q:Rat}:aE true Tryz.prog 104 [] [.agg ((cZ false (y,q)).map .t),.one (.t (.p false 3 [.v (.int .i64 b)]))] (aT (.one (tv (.bool (decide (y<b)))))):=by
 refine bV Tryz.func104 rfl Tryz.ntmps104 rfl aF rfl fun N w c0 h0=>?_
 refine WP.sub (Nw (i:=1) rfl rfl) ?_;refine sq (rl (bx 0 ?_));refine o1 ?_;refine nl (sq (rl (o1 ?_)));refine ld ?_
 refine dV ([.v (.int .i64 b)]) rfl ?_;refine o1 ?_;refine o1 ?_;refine nl (rt ?_);exact en (.inl rfl) rfl (bD (cX _)) (by decide) (fun _=>trivial) rfl
theorem RI {y b:Int}{q:Rat}:aE true Tryz.prog 107 [] [.agg ((cZ false (y,q)).map .t),.one (.t (.p false 170 [.f 104 [] [.p false 3 [.v (.int .i64 b)]]]))] (aT (.one (tv (.bool (!decide (y<b)))))):=by
 refine bV Tryz.func107 rfl Tryz.ntmps107 rfl aF rfl fun N w c0 h0=>?_
 refine WP.sub (Nw (i:=1) rfl rfl) ?_;refine sq (rl (bx 0 ?_));refine o1 ?_;refine nl (sq (rl ?_))
 refine dV ([.f 104 [] [.p false 3 [.v (.int .i64 b)]]]) rfl ?_;refine ld ?_
 refine ce 1 [.agg [tv (.int .i64 y),tv (.bool (aL q.num)),.t (sU false (dg 4294967296 q.num.natAbs)),tv (.bool false),.t (sU false (dg 4294967296 q.den))]] rfl (AB (y:=y) (q:=q) (b:=b)) JX ⟨rfl,rfl⟩ ?_
 refine o1 ?_;refine o1 ?_;refine nl (rt ?_);exact en (.inl rfl) rfl (bD (cX _)) (by decide) (fun _=>trivial) rfl
theorem FD {vs:List (Int×Rat)}{last b:Int}{put:Bool}(hl:vs.length≤1073741823) (hz:∀x∈vs,Sz 68719476736 x.2):aE false Tryz.prog 72 [⟨137,0,[.t (sR 102 vs),tv (.int .i64 last),tv (.bool put)]⟩] [.one (.pt 0 0),.one (tv (.int .i64 b))] (Rt [⟨137,0,[.t (sR 102 (eS (fun x:Int×Rat=>decide (x.1<b)) vs)),tv (.int .i64 last),tv (.bool put)]⟩] (.one (.t (sO 102 (eS (fun x:Int×Rat=> !decide (x.1<b)) vs))))):=by
 refine qS Tryz.func72 rfl Tryz.ntmps72 rfl aF rfl fun N M w c0 h0=>?_
 refine WP.sub (oU (j:=0) (key:=1) (p:=0) (e:=102) (z:=5) (n:=vs.length) (trs:=vs.flatMap (cZ false)) rfl rfl rfl rfl rfl) ?_;refine sq (rl (bx 2 ?_))
 refine WL.sub (Kc (i:=3) (k:=2) (t:=3) (l:=[.v (.int .i64 b)]) rfl rfl rfl (.one .sl)) ?_;refine o1 ?_;refine nl (sq (sq (rl (o1 ?_))));refine o1 ?_
 refine nl (dW rfl (sk (sq (rl (o1 ?_)))));refine al 3 ?_;refine st ?_
 refine WL.sub (Kc (i:=5) (k:=3) (t:=170) (l:=[.f 104 [] [.p false 3 [.v (.int .i64 b)]]]) rfl rfl rfl (.one .sl)) ?_;refine nl (sq (rl ?_));(iterate 4 refine o1 ?_)
 refine ld ?_;refine cl 4 [1] (FC hl) WH ⟨aB rfl,rfl⟩ ⟨rfl,rfl⟩ (ok:=[some ⟨102,5,eL vs⟩]) ⟨aB rfl,rfl⟩ ?_;refine o1 ?_;refine bx 5 ?_;refine o1 ?_;refine nl (sq ?_)
 refine rl (o1 ?_);refine o1 ?_
 refine WL.sub (iJ (j:=5) (k:=4) (p:=0) (n:=vs.length) (trs:=vs.flatMap (cZ false)) rfl rfl rfl rfl rfl (aN _ _ (bL false _)) (bL false _) rfl) ?_
 refine cl 6 [5] (Au (t0:=135) (rest:=[]) (dl:=(fun x:Int×Rat=> !decide (x.1<b))) (fst:=[]) (caps:=[.p false 170 [.f 104 [] [.p false 3 [.v (.int .i64 b)]]]]) WI (fun x _=>RI (y:=x.1) (q:=x.2)) hl) Lz ⟨oe rfl rfl,rfl⟩ ⟨rfl,rfl,rfl⟩ (ok:=[some ⟨135,0,[.t (sR 102 (eS (fun x:Int×Rat=> !decide (x.1<b)) vs))]⟩]) ⟨oe rfl rfl,rfl⟩ ?_
 refine nl (sq ?_)
 refine WP.sub (iJ (j:=0) (k:=1) (p:=0) (n:=vs.length) (trs:=vs.flatMap (cZ false)) rfl rfl rfl rfl rfl (aN _ _ (bL false _)) (bL false _) rfl) ?_
 refine WP.sub (Nw (i:=5) rfl rfl) ?_;refine cI [5] [] ?_
 refine dv 0 ?_;refine dv 1 ?_;refine dv 2 ?_;refine dD 3 ([.f 104 [] [.p false 3 [.v (.int .i64 b)]]]) rfl ?_
 refine Tv 4 6 [0] rfl (Au (t0:=137) (rest:=[.v (.int .i64 last),.v (.bool put)]) (dl:=(fun x:Int×Rat=>decide (x.1<b))) (fst:=[]) (caps:=[.p false 3 [.v (.int .i64 b)]]) JX (fun x _=>AB (y:=x.1) (q:=x.2)) hl) Lz ⟨oe rfl rfl,rfl⟩ ⟨rfl,rfl,rfl⟩ (ok:=[some ⟨137,0,[.t (sR 102 (eS (fun x:Int×Rat=>decide (x.1<b)) vs)),tv (.int .i64 last),tv (.bool put)]⟩]) ⟨oe rfl rfl,rfl⟩ ⟨rfl,trivial⟩ ?_
 refine aW ?_;refine sq (rl (o1 ?_))
 refine iS 6 (Zu (vs:=(eS (fun x:Int×Rat=> !decide (x.1<b)) vs)) (rest:=[]) (fun x hx=>hz x (List.mem_filter.1 hx).1) (Nat.le_trans (List.length_filter_le _ _) hl)) RD ⟨sS rfl (.pe (trs:=[sR 102 (eS (fun x:Int×Rat=> !decide (x.1<b)) vs)]) rfl rfl rfl (by simp[rdTL,oF,sR,sV,Av])),rfl⟩ ?_
 refine o1 ?_;refine nl (rt ?_)
 exact jS (lent':=[⟨137,0,[.t (sR 102 (eS (fun x:Int×Rat=>decide (x.1<b)) vs)),tv (.int .i64 last),tv (.bool put)]⟩]) (.inl rfl) rfl (bD (.one (.sl (trs:=(eS (fun x:Int×Rat=> !decide (x.1<b)) vs).flatMap (cZ true)) rfl rfl (aN _ _ (bL true _)) (bL true _)))) (by decide) (by simp) ⟨⟨rfl,rfl⟩,trivial⟩ ⟨rfl,trivial⟩ ⟨rfl,trivial⟩ (fun h=>by cases h) ⟨rfl,rfl⟩
theorem RJ {vs:List (Int×Rat)}{last y:Int}{put:Bool}{a:Fr4}{q:Rat}(ha:Qn a q) (hl:vs.length≤1073741822):aE false Tryz.prog 71 [⟨137,0,[.t (sR 102 vs),tv (.int .i64 last),tv (.bool put)]⟩,⟨113,1,(aJ a.x).map .t⟩,⟨113,1,(aJ a.y).map .t⟩] [.one (.pt 0 0),.one (tv (.int .i64 y)),.agg [tv (.bool a.s),.sl 1 0 a.x.length,tv (.bool a.t),.sl 2 0 a.y.length]] (Rt [⟨137,0,[.t (sR 102 (lP (eX (bY a.s a.x a.t a.y) q y last put) q y vs)),tv (.int .i64 (zA (eX (bY a.s a.x a.t a.y) q y last put) y last)),tv (.bool (zB (eX (bY a.s a.x a.t a.y) q y last put) put))]⟩,⟨113,1,(aJ a.x).map .t⟩,⟨113,1,(aJ a.y).map .t⟩] (.one (tv (.int .i64 (eX (bY a.s a.x a.t a.y) q y last put))))):=by
 refine qS Tryz.func71 rfl Tryz.ntmps71 rfl aF rfl fun N M w c0 h0=>?_
 refine WP.sub (oU (j:=0) (key:=3) (p:=0) (e:=102) (z:=5) (n:=vs.length) (trs:=vs.flatMap (cZ false)) rfl rfl rfl rfl rfl) ?_;refine sq (rl (bx 4 ?_));refine o1 ?_
 refine nl (sq (bl (sq (rl ?_))));(iterate 3 refine o1 ?_);refine nl (dW rfl (sq (rl (ld ?_))))
 refine ca (Nv ha.1) EW ⟨pM rfl (.cons .t (.cons (.sl rfl rfl (aN _ _ rfl) (aV _)) (.cons .t (.cons (.sl rfl rfl (aN _ _ rfl) (aV _)) .nil)))),rfl⟩ (.one (tv (.bool (bY a.s a.x a.t a.y)))) ?_
 refine WL.splitb (t:=12) rfl (fun h1=>?_) (fun h1=>?_)
 ·refine o1 ?_;refine o1 ?_;refine ld ?_
  refine ca (iZ ha) mU ⟨pM rfl (.cons .t (.cons (.sl rfl rfl (aN _ _ rfl) (aV _)) (.cons .t (.cons (.sl rfl rfl (aN _ _ rfl) (aV _)) .nil)))),rfl⟩ (.one (tv (.int .i64 q.num.sign))) ?_
  (iterate 3 refine o1 ?_);refine nl ?_;refine bF rfl (fun h2=>?_) (fun h2=>?_)
  ·refine sq (rl ?_)
   refine WL.sub (iJ (j:=0) (k:=3) (p:=0) (n:=vs.length) (trs:=vs.flatMap (cZ false)) rfl rfl rfl rfl rfl (aN _ _ (bL false _)) (bL false _) rfl) ?_;refine o1 ?_
   refine nl (rt ?_);have hpe:(eX (bY a.s a.x a.t a.y) q y last put)=2:=by unfold eX;rw[h1,decide_eq_true h2];rfl
   exact jS (lent':=[⟨137,0,[.t (sR 102 (lP (eX (bY a.s a.x a.t a.y) q y last put) q y vs)),tv (.int .i64 (zA (eX (bY a.s a.x a.t a.y) q y last put) y last)),tv (.bool (zB (eX (bY a.s a.x a.t a.y) q y last put) put))]⟩,⟨113,1,(aJ a.x).map .t⟩,⟨113,1,(aJ a.y).map .t⟩]) (.inl rfl) rfl (bD (cX _)) (by decide) (fun _ h=>by cases h) ⟨⟨rfl,rfl⟩,⟨rfl,rfl⟩,⟨rfl,rfl⟩,trivial⟩ ⟨(by rw[hpe];rfl),rfl,rfl,trivial⟩ ⟨rfl,dF _,dF _,trivial⟩ (fun h=>by cases h) ⟨rfl,by rw[hpe]⟩
  refine sq (rl ?_);(iterate 3 refine o1 ?_);refine ld ?_;refine o1 ?_;refine WL.splitb (t:=24) rfl (fun h3=>?_) (fun h3=>?_)
  ·(iterate 4 refine o1 ?_);refine ld ?_;(iterate 3 refine o1 ?_);refine nl ?_;refine bF rfl (fun h4=>?_) (fun h4=>?_)
   ·refine sq (rl ?_)
    refine WL.sub (iJ (j:=0) (k:=3) (p:=0) (n:=vs.length) (trs:=vs.flatMap (cZ false)) rfl rfl rfl rfl rfl (aN _ _ (bL false _)) (bL false _) rfl) ?_
    refine o1 ?_;refine nl (rt ?_);have hpe:(eX (bY a.s a.x a.t a.y) q y last put)=4:=by unfold eX;rw[h1,decide_eq_false h2,h3,decide_eq_true h4];rfl
    exact jS (lent':=[⟨137,0,[.t (sR 102 (lP (eX (bY a.s a.x a.t a.y) q y last put) q y vs)),tv (.int .i64 (zA (eX (bY a.s a.x a.t a.y) q y last put) y last)),tv (.bool (zB (eX (bY a.s a.x a.t a.y) q y last put) put))]⟩,⟨113,1,(aJ a.x).map .t⟩,⟨113,1,(aJ a.y).map .t⟩]) (.inl rfl) rfl (bD (cX _)) (by decide) (fun _ h=>by cases h) ⟨⟨rfl,rfl⟩,⟨rfl,rfl⟩,⟨rfl,rfl⟩,trivial⟩ ⟨(by rw[hpe];rfl),rfl,rfl,trivial⟩ ⟨rfl,dF _,dF _,trivial⟩ (fun h=>by cases h) ⟨rfl,by rw[hpe]⟩
   refine sk (sq (rl ?_));(iterate 5 refine o1 ?_);refine st ?_;refine o1 ?_;refine o1 ?_;refine st ?_;refine nl (sq (sq ?_))
   obtain rfl:=(ha.right h1).symm
   refine rl (ld ?_)
   refine ca (iZ ha) mU ⟨pM rfl (.cons .t (.cons (.sl rfl rfl (aN _ _ rfl) (aV _)) (.cons .t (.cons (.sl rfl rfl (aN _ _ rfl) (aV _)) .nil)))),rfl⟩ (.one (tv (.int .i64 q.num.sign))) ?_
   refine o1 ?_;refine nl ?_;refine bF rfl (fun h5=>?_) (fun h5=>?_)
   ·refine cI [0,4] [12,13,14,15] ?_
    refine dv 0 ?_;refine dv 1 ?_;refine dv 2 ?_;refine dv 3 ?_;refine dv 4 ?_;refine aK 5 ?_;refine dv 6 ?_;refine aK 7 ?_;refine dv 8 ?_
    refine aS 9 rfl (vG (y:=y) ha) Et ⟨pM rfl (.cons .t (.cons .t (.cons (.sl rfl rfl (aN _ _ rfl) (aV _)) (.cons .t (.cons (.sl rfl rfl (aN _ _ rfl) (aV _)) .nil))))),rfl⟩ (.agg ((cZ false (y,q)).map .t)) ?_
    refine iG (key:=5) 10 (by kernel_rfl) rfl rfl aF rfl ⟨rfl,rfl,trivial⟩ ?_
    refine kC (j:=6) (n:=vs.length) (l:=eL vs) 11 rfl aF rfl rfl rfl (.sl rfl (mP _)) (.sl rfl rfl rfl) rfl rfl (by omega) (by omega) rfl ⟨rfl,rfl,trivial⟩ rfl (by kernel_rfl) rfl ?_
    refine dI 12 ?_
    refine dI 13 ?_
    refine dI 14 ?_
    refine dst 15 ?_;refine aW ?_;refine sq (rl ?_)
    refine WL.sub (iJ (j:=0) (k:=6) (p:=0) (n:=vs.length+1) (trs:=(vs++[(y,q)]).flatMap (cZ false)) rfl rfl rfl (congrArg (fun l=>some (⟨102,5,l⟩:Ob)) (Og vs (y,q))) rfl (aN _ _ (by rw[bL,fE];rfl)) (by rw[bL,fE];rfl) rfl) ?_
    refine o1 ?_;refine nl (rt ?_)
    have hpe:(eX (bY (Fr4.of q).s (Fr4.of q).x (Fr4.of q).t (Fr4.of q).y) q y last put)=0:=by unfold eX;rw[h1,decide_eq_false h2,h3,decide_eq_false h4];rfl
    have hpl:lP 0 q y vs=(vs++[(y,q)]):=by unfold lP;rw[decide_eq_true h5];rfl
    exact jS (lent':=[⟨137,0,[.t (sR 102 (lP (eX (bY (Fr4.of q).s (Fr4.of q).x (Fr4.of q).t (Fr4.of q).y) q y last put) q y vs)),tv (.int .i64 (zA (eX (bY (Fr4.of q).s (Fr4.of q).x (Fr4.of q).t (Fr4.of q).y) q y last put) y last)),tv (.bool (zB (eX (bY (Fr4.of q).s (Fr4.of q).x (Fr4.of q).t (Fr4.of q).y) q y last put) put))]⟩,⟨113,1,(aJ (Fr4.of q).x).map .t⟩,⟨113,1,(aJ (Fr4.of q).y).map .t⟩]) (.inl rfl) rfl (bD (cX _)) (by decide) (fun _ h=>by cases h) ⟨⟨rfl,rfl⟩,⟨rfl,rfl⟩,⟨rfl,rfl⟩,trivial⟩ ⟨(by rw[hpe,hpl];rw[show sR 102 (vs++[(y,q)])=.s true 102 5 (vs.length+1) ((vs++[(y,q)]).flatMap (cZ false)) by rw[sR,fE];rfl];rfl),rfl,rfl,trivial⟩ ⟨rfl,dF _,dF _,trivial⟩ (fun h=>by cases h) ⟨rfl,by rw[hpe]⟩
   refine sk (sq (rl ?_))
   refine WL.sub (iJ (j:=0) (k:=3) (p:=0) (n:=vs.length) (trs:=vs.flatMap (cZ false)) rfl rfl rfl rfl rfl (aN _ _ (bL false _)) (bL false _) rfl) ?_
   refine o1 ?_;refine nl (rt ?_)
   have hpe:(eX (bY (Fr4.of q).s (Fr4.of q).x (Fr4.of q).t (Fr4.of q).y) q y last put)=0:=by unfold eX;rw[h1,decide_eq_false h2,h3,decide_eq_false h4];rfl
   have hpl:lP 0 q y vs=vs:=by unfold lP;rw[decide_eq_false h5];rfl
   exact jS (lent':=[⟨137,0,[.t (sR 102 (lP (eX (bY (Fr4.of q).s (Fr4.of q).x (Fr4.of q).t (Fr4.of q).y) q y last put) q y vs)),tv (.int .i64 (zA (eX (bY (Fr4.of q).s (Fr4.of q).x (Fr4.of q).t (Fr4.of q).y) q y last put) y last)),tv (.bool (zB (eX (bY (Fr4.of q).s (Fr4.of q).x (Fr4.of q).t (Fr4.of q).y) q y last put) put))]⟩,⟨113,1,(aJ (Fr4.of q).x).map .t⟩,⟨113,1,(aJ (Fr4.of q).y).map .t⟩]) (.inl rfl) rfl (bD (cX _)) (by decide) (fun _ h=>by cases h) ⟨⟨rfl,rfl⟩,⟨rfl,rfl⟩,⟨rfl,rfl⟩,trivial⟩ ⟨(by rw[hpe,hpl];rfl),rfl,rfl,trivial⟩ ⟨rfl,dF _,dF _,trivial⟩ (fun h=>by cases h) ⟨rfl,by rw[hpe]⟩
  (iterate 6 refine cY ?_);refine o1 ?_;refine o1 ?_;refine nl (dW rfl (sk (sq (rl ?_))));(iterate 5 refine o1 ?_);refine st ?_;refine o1 ?_
  refine o1 ?_;refine st ?_;refine nl (sq (sq ?_));obtain rfl:=(ha.right h1).symm
  refine rl (ld ?_)
  refine ca (iZ ha) mU ⟨pM rfl (.cons .t (.cons (.sl rfl rfl (aN _ _ rfl) (aV _)) (.cons .t (.cons (.sl rfl rfl (aN _ _ rfl) (aV _)) .nil)))),rfl⟩ (.one (tv (.int .i64 q.num.sign))) ?_
  refine o1 ?_;refine nl ?_;refine bF rfl (fun h6=>?_) (fun h6=>?_)
  ·refine cI [0,4] [12,13,14,15] ?_
   refine dv 0 ?_;refine dv 1 ?_;refine dv 2 ?_;refine dv 3 ?_;refine dv 4 ?_;refine aK 5 ?_;refine dv 6 ?_;refine aK 7 ?_;refine dv 8 ?_
   refine aS 9 rfl (vG (y:=y) ha) Et ⟨pM rfl (.cons .t (.cons .t (.cons (.sl rfl rfl (aN _ _ rfl) (aV _)) (.cons .t (.cons (.sl rfl rfl (aN _ _ rfl) (aV _)) .nil))))),rfl⟩ (.agg ((cZ false (y,q)).map .t)) ?_
   refine iG (key:=5) 10 (by kernel_rfl) rfl rfl aF rfl ⟨rfl,rfl,trivial⟩ ?_
   refine kC (j:=6) (n:=vs.length) (l:=eL vs) 11 rfl aF rfl rfl rfl (.sl rfl (mP _)) (.sl rfl rfl rfl) rfl rfl (by omega) (by omega) rfl ⟨rfl,rfl,trivial⟩ rfl (by kernel_rfl) rfl ?_
   refine dI 12 ?_
   refine dI 13 ?_
   refine dI 14 ?_
   refine dst 15 ?_;refine aW ?_;refine sq (rl ?_)
   refine WL.sub (iJ (j:=0) (k:=6) (p:=0) (n:=vs.length+1) (trs:=(vs++[(y,q)]).flatMap (cZ false)) rfl rfl rfl (congrArg (fun l=>some (⟨102,5,l⟩:Ob)) (Og vs (y,q))) rfl (aN _ _ (by rw[bL,fE];rfl)) (by rw[bL,fE];rfl) rfl) ?_
   refine o1 ?_;refine nl (rt ?_)
   have hpe:(eX (bY (Fr4.of q).s (Fr4.of q).x (Fr4.of q).t (Fr4.of q).y) q y last put)=0:=by unfold eX;rw[h1,decide_eq_false h2,h3];rfl
   have hpl:lP 0 q y vs=(vs++[(y,q)]):=by unfold lP;rw[decide_eq_true h6];rfl
   exact jS (lent':=[⟨137,0,[.t (sR 102 (lP (eX (bY (Fr4.of q).s (Fr4.of q).x (Fr4.of q).t (Fr4.of q).y) q y last put) q y vs)),tv (.int .i64 (zA (eX (bY (Fr4.of q).s (Fr4.of q).x (Fr4.of q).t (Fr4.of q).y) q y last put) y last)),tv (.bool (zB (eX (bY (Fr4.of q).s (Fr4.of q).x (Fr4.of q).t (Fr4.of q).y) q y last put) put))]⟩,⟨113,1,(aJ (Fr4.of q).x).map .t⟩,⟨113,1,(aJ (Fr4.of q).y).map .t⟩]) (.inl rfl) rfl (bD (cX _)) (by decide) (fun _ h=>by cases h) ⟨⟨rfl,rfl⟩,⟨rfl,rfl⟩,⟨rfl,rfl⟩,trivial⟩ ⟨(by rw[hpe,hpl];rw[show sR 102 (vs++[(y,q)])=.s true 102 5 (vs.length+1) ((vs++[(y,q)]).flatMap (cZ false)) by rw[sR,fE];rfl];rfl),rfl,rfl,trivial⟩ ⟨rfl,dF _,dF _,trivial⟩ (fun h=>by cases h) ⟨rfl,by rw[hpe]⟩
  refine sk (sq (rl ?_))
  refine WL.sub (iJ (j:=0) (k:=3) (p:=0) (n:=vs.length) (trs:=vs.flatMap (cZ false)) rfl rfl rfl rfl rfl (aN _ _ (bL false _)) (bL false _) rfl) ?_
  refine o1 ?_;refine nl (rt ?_)
  have hpe:(eX (bY (Fr4.of q).s (Fr4.of q).x (Fr4.of q).t (Fr4.of q).y) q y last put)=0:=by unfold eX;rw[h1,decide_eq_false h2,h3];rfl
  have hpl:lP 0 q y vs=vs:=by unfold lP;rw[decide_eq_false h6];rfl
  exact jS (lent':=[⟨137,0,[.t (sR 102 (lP (eX (bY (Fr4.of q).s (Fr4.of q).x (Fr4.of q).t (Fr4.of q).y) q y last put) q y vs)),tv (.int .i64 (zA (eX (bY (Fr4.of q).s (Fr4.of q).x (Fr4.of q).t (Fr4.of q).y) q y last put) y last)),tv (.bool (zB (eX (bY (Fr4.of q).s (Fr4.of q).x (Fr4.of q).t (Fr4.of q).y) q y last put) put))]⟩,⟨113,1,(aJ (Fr4.of q).x).map .t⟩,⟨113,1,(aJ (Fr4.of q).y).map .t⟩]) (.inl rfl) rfl (bD (cX _)) (by decide) (fun _ h=>by cases h) ⟨⟨rfl,rfl⟩,⟨rfl,rfl⟩,⟨rfl,rfl⟩,trivial⟩ ⟨(by rw[hpe,hpl];rfl),rfl,rfl,trivial⟩ ⟨rfl,dF _,dF _,trivial⟩ (fun h=>by cases h) ⟨rfl,by rw[hpe]⟩
 refine o1 ?_;refine o1 ?_;(iterate 3 refine cY ?_);refine o1 ?_;refine o1 ?_;refine nl (iC rfl (sq (rl ?_)))
 refine WL.sub (iJ (j:=0) (k:=3) (p:=0) (n:=vs.length) (trs:=vs.flatMap (cZ false)) rfl rfl rfl rfl rfl (aN _ _ (bL false _)) (bL false _) rfl) ?_;refine o1 ?_
 refine nl (rt ?_);have hpe:(eX (bY a.s a.x a.t a.y) q y last put)=2:=by unfold eX;rw[h1];rfl
 exact jS (lent':=[⟨137,0,[.t (sR 102 (lP (eX (bY a.s a.x a.t a.y) q y last put) q y vs)),tv (.int .i64 (zA (eX (bY a.s a.x a.t a.y) q y last put) y last)),tv (.bool (zB (eX (bY a.s a.x a.t a.y) q y last put) put))]⟩,⟨113,1,(aJ a.x).map .t⟩,⟨113,1,(aJ a.y).map .t⟩]) (.inl rfl) rfl (bD (cX _)) (by decide) (fun _ h=>by cases h) ⟨⟨rfl,rfl⟩,⟨rfl,rfl⟩,⟨rfl,rfl⟩,trivial⟩ ⟨(by rw[hpe];rfl),rfl,rfl,trivial⟩ ⟨rfl,dF _,dF _,trivial⟩ (fun h=>by cases h) ⟨rfl,by rw[hpe]⟩
theorem Aw {xs:List Nat}(hx:xs.length≤1099511627776):aE true Tryz.prog 60 [] [.one (.t (sU false xs))] (aT (.one (.t (sU true xs)))):=by
 refine bV Tryz.func60 rfl Tryz.ntmps60 rfl aF rfl fun N w c0 h0=>?_
 refine sq (rl (o1 ?_));refine nl (sq (rl (o1 ?_)));refine nl (sq (rl (o1 ?_)));refine o1 ?_
 refine iA (j:=0) aF rfl rfl rfl rfl .nil .fz (RK _) (FE _) rfl (by omega) (by omega) ?_
 refine o1 ?_;refine nl (rt ?_)
 exact en (.inl rfl) rfl (bD (.one (.sl rfl rfl (by rw[Nat.zero_add,Nat.mul_one,List.nil_append,fF (by simp[gK])]) (by simp[gK])))) (by decide) (fun _=>.inl ⟨rfl,gA xs⟩) (by simp[aT,sU])
theorem JY {xs ys:List Nat}(hx:xs.length≤1099511627776) (hy:ys.length≤1099511627776):aE true Tryz.prog 43 [] [.one (.t (sU false xs)),.one (.t (sU false ys))] (aT (.one (tv (.bool (decide (xs=ys)))))):=by
 refine bV Tryz.func43 rfl Tryz.ntmps43 rfl aF rfl fun N w c0 h0=>?_
 refine sq (rl (o1 ?_));refine nl (sq (sq (rl ?_)));(iterate 5 refine o1 ?_);refine nl ?_;refine bF rfl (fun h1=>?_) (fun h1=>?_)
 ·refine sq (rl (o1 ?_));refine nl (rt ?_);refine en (.inl rfl) rfl (bD (cX _)) (by decide) (fun _=>trivial) (congrArg (fun b=>FV.one (tv (.bool b))) ?_)
  exact(decide_eq_false (fun h=>h1 (by rw[h]))).symm
 refine sk (sq (sq (rl (o1 ?_))));refine nl (bl ?_)
 refine lp (γ:=Nat) (fun k=>bP [(0,.one (.t (sU false xs))),(1,.one (.t (sU false ys))),(5,iN k)]) (fun k=>[].map some) (fun k=>k≤xs.length∧xs.take k=ys.take k) (fun k=>xs.length-k) 0 (⟨Nat.zero_le _,rfl⟩) (aP h0 [] rfl) fun k hk=>?_
 refine sq (sq (rl ?_));(iterate 4 refine o1 ?_);refine nl ?_;refine bF rfl (fun h2=>?_) (fun h2=>?_)
 ·refine sk (sq (bl (sq ?_)));refine cI [] [] ?_
  refine dv 0 ?_;refine dv 1 ?_;refine dv 2 ?_;refine dD 3 ([.v (.int .u32 ((nth xs (k):Nat):Int))]) (oW xs (k:=k) (by omega)) ?_
  refine dv 4 ?_;refine dv 5 ?_;refine dv 6 ?_;refine dD 7 ([.v (.int .u32 ((nth ys (k):Nat):Int))]) (oW ys (k:=k) (by omega)) ?_
  refine dv 8 ?_;refine aW ?_;refine bF rfl (fun h3=>?_) (fun h3=>?_)
  ·refine sq (rl (o1 ?_));refine nl (rt ?_);refine en (.inl rfl) rfl (bD (cX _)) (by decide) (fun _=>trivial) (congrArg (fun b=>FV.one (tv (.bool b))) ?_)
   exact(decide_eq_false (fun h=>h3 (by rw[h]))).symm
  refine sk (rl ?_);(iterate 3 refine o1 ?_);refine nl ?_
  exact⟨k+1,by omega,⟨by omega,FF hk.2 (by omega) (by omega) (by omega)⟩,aP h0 [] rfl⟩
 refine ex (sq (rl (o1 ?_)));refine nl (rt ?_)
 refine en (.inl rfl) rfl (bD (cX _)) (by decide) (fun _=>trivial) (congrArg (fun b=>FV.one (tv (.bool b))) ?_)
 exact(decide_eq_true (by rw[←fF (i:=k) (l:=xs) (by omega),hk.2,fF (by omega)])).symm
theorem Oh {a:Fr4}(ha:a.len 1099511627776):aE true Tryz.prog 31 [] [qF a] (aT (rO a)):=by
 refine bV Tryz.func31 rfl Tryz.ntmps31 rfl aF rfl fun N w c0 h0=>?_
 refine sq (rl (bx 0 ?_));refine al 1 ?_;refine nl (sq ?_);refine cI [0,1] [17] ?_
 refine dv 0 ?_;refine dv 1 ?_;refine aK 2 ?_;refine dv 3 ?_;refine dv 4 ?_;refine aK 5 ?_;refine dv 8 ?_;refine dv 9 ?_;refine aK 10 ?_;refine dv 11 ?_;refine dv 12 ?_;refine aK 13 ?_
 refine kS 2 6 rfl (Aw ha.1) Wx ⟨a1 rfl,rfl⟩ ?_;refine df 7 ?_;refine kS 3 14 rfl (Aw ha.2) Wx ⟨a1 rfl,rfl⟩ ?_;refine df 15 ?_;refine df 16 ?_;refine dst 17 ?_;refine aW ?_
 refine rt ?_
 exact en (.inl rfl) rfl (bD (.agg (.cons (.id rfl) (.cons (.sl (trs:=aJ a.x) rfl rfl (bS _) (aV _)) (.cons (.id rfl) (.cons (.sl (trs:=aJ a.y) rfl rfl (bS _) (aV _)) .nil)))))) (by decide) (fun _=>vJ a) rfl
theorem MK {a:Fr4}(ha:a.len 1099511627776):aE true Tryz.prog 59 [] [qF a] (aT (rO a)):=by
 refine bV Tryz.func59 rfl Tryz.ntmps59 rfl aF rfl fun N w c0 h0=>?_
 refine sq (rl (bx 0 ?_));refine al 1 ?_;refine nl (sq ?_);refine cI [0,1] [17] ?_
 refine dv 0 ?_;refine dv 1 ?_;refine aK 2 ?_;refine dv 3 ?_;refine dv 4 ?_;refine aK 5 ?_;refine dv 8 ?_;refine dv 9 ?_;refine aK 10 ?_;refine dv 11 ?_;refine dv 12 ?_;refine aK 13 ?_
 refine kS 2 6 rfl (Aw ha.1) Wx ⟨a1 rfl,rfl⟩ ?_;refine df 7 ?_;refine kS 3 14 rfl (Aw ha.2) Wx ⟨a1 rfl,rfl⟩ ?_;refine df 15 ?_;refine df 16 ?_;refine dst 17 ?_;refine aW ?_
 refine rt ?_
 exact en (.inl rfl) rfl (bD (.agg (.cons (.id rfl) (.cons (.sl (trs:=aJ a.x) rfl rfl (bS _) (aV _)) (.cons (.id rfl) (.cons (.sl (trs:=aJ a.y) rfl rfl (bS _) (aV _)) .nil)))))) (by decide) (fun _=>vJ a) rfl
theorem ML {a b:Fr4}(ha:a.len 1099511627776) (hb:b.len 1099511627776):aE true Tryz.prog 14 [] [qF a,qF b] (aT (.one (tv (.bool (decide (a=b)))))):=by
 refine bV Tryz.func14 rfl Tryz.ntmps14 rfl aF rfl fun N w c0 h0=>?_
 refine sq (rl (bx 0 ?_));refine bx 1 ?_;refine o1 ?_;refine nl (sq (rl (o1 ?_)));refine o1 ?_;refine ld ?_;refine o1 ?_;refine o1 ?_;refine ld ?_
 refine o1 ?_;refine o1 ?_;refine WL.splitb (t:=12) rfl (fun h1=>?_) (fun h1=>?_)
 ·refine o1 ?_;refine o1 ?_;refine ld ?_;refine o1 ?_;refine o1 ?_;refine ld ?_;(iterate 3 refine o1 ?_);refine WL.splitb (t:=21) rfl (fun h2=>?_) (fun h2=>?_)
  ·refine o1 ?_;refine o1 ?_;refine ld ?_;refine o1 ?_;refine o1 ?_;refine ld ?_;refine ca (JY ha.1 hb.1) RL ⟨a1 rfl,a1 rfl,rfl⟩ (.one (tv (.bool (decide (a.x=b.x))))) ?_
   refine o1 ?_;refine o1 ?_;refine WL.split (t:=30) rfl (fun h3=>?_) (fun h3=>?_)
   ·refine o1 ?_;refine o1 ?_;refine ld ?_;refine o1 ?_;refine o1 ?_;refine ld ?_;refine ca (JY ha.2 hb.2) RL ⟨a1 rfl,a1 rfl,rfl⟩ (.one (tv (.bool (decide (a.y=b.y))))) ?_
    refine o1 ?_;refine o1 ?_;refine nl (rt ?_);exact en (.inl rfl) rfl (bD (cX _)) (by decide) (fun _=>trivial) (congrArg (fun b=>FV.one (tv (.bool b))) (by simp_all [zC]))
   (iterate 7 refine cY ?_);refine o1 ?_;refine o1 ?_;refine nl (rt ?_)
   exact en (.inl rfl) rfl (bD (cX _)) (by decide) (fun _=>trivial) (congrArg (fun b=>FV.one (tv (.bool b))) (by simp_all [zC]))
  (iterate 7 refine cY ?_);refine o1 ?_;refine o1 ?_;(iterate 7 refine cY ?_);refine o1 ?_;refine o1 ?_;refine nl (rt ?_)
  exact en (.inl rfl) rfl (bD (cX _)) (by decide) (fun _=>trivial) (congrArg (fun b=>FV.one (tv (.bool b))) (by simp_all [zC]))
 (iterate 7 refine cY ?_);refine o1 ?_;refine o1 ?_;(iterate 7 refine cY ?_);refine o1 ?_;refine o1 ?_;(iterate 7 refine cY ?_);refine o1 ?_;refine o1 ?_;refine nl (rt ?_)
 exact en (.inl rfl) rfl (bD (cX _)) (by decide) (fun _=>trivial) (congrArg (fun b=>FV.one (tv (.bool b))) (by simp_all [zC]))
theorem MM {a b:Zi}{k k':Int}(ha:Zn a k) (hb:Zn b k'):aE true Tryz.prog 92 [] [gF a,gF b] (aT (.one (tv (.bool (decide (k=k')))))):=by
 refine bV Tryz.func92 rfl Tryz.ntmps92 rfl aF rfl fun N w c0 h0=>?_
 refine sq (rl (bx 0 ?_));refine bx 1 ?_;refine o1 ?_;refine nl (sq (rl (ld ?_)));refine ld ?_
 refine ca (AC ha hb) JZ ⟨aC rfl,aC rfl,rfl⟩ (.one (tv (.int .i64 ((k)-(k')).sign))) ?_;refine o1 ?_;refine o1 ?_;refine nl (rt ?_)
 exact en (.inl rfl) rfl (bD (cX _)) (by decide) (fun _=>trivial) (congrArg (fun z=>FV.one (tv (.bool z))) (FG _ _))
theorem Dm {a:Fr4}{p:Rat}(ha:Qn a p):aE true Tryz.prog 61 [] [qF a] (aT (.one (tv (.bool (bY a.s a.x a.t a.y))))):=by
 refine bV Tryz.func61 rfl Tryz.ntmps61 rfl aF rfl fun N w c0 h0=>?_
 have hzl:=(Oi ha).len
 have hzd:=(zD ha).len
 refine sq (rl (bx 0 ?_));refine o1 ?_;refine nl (sq (rl (o1 ?_)));refine ld ?_
 refine ca (Dn (Oi ha)) FH ⟨aC rfl,rfl⟩ (.one (tv (.bool (eC a.s a.x)))) ?_;refine o1 ?_;refine WL.splitb (t:=6) rfl (fun h1=>?_) (fun h1=>?_)
 ·refine o1 ?_;refine ld ?_;refine ca (Dn (zD ha)) FH ⟨aC rfl,rfl⟩ (.one (tv (.bool (eC a.t a.y)))) ?_;refine o1 ?_;refine o1 ?_
  refine WL.splitb (t:=11) rfl (fun h2=>?_) (fun h2=>?_)
  ·refine o1 ?_;refine ld ?_;refine ca (pX (zD ha)) Do ⟨aC rfl,rfl⟩ (.one (tv (.int .i64 ((fG a.t a.y)).sign))) ?_;(iterate 3 refine o1 ?_)
   refine WL.split (t:=17) rfl (fun h3=>?_) (fun h3=>?_)
   ·refine o1 ?_;refine ld ?_;refine o1 ?_;refine ld ?_;have s3:0<fG a.t a.y:=Int.sign_pos_iff.1 h3
    have hn4:=Hd (k:=(fG a.s a.x)) (k':=(fG a.t a.y)) (by omega)
    refine ca (Oj (Oi ha) (zD ha)) FI ⟨aC rfl,aC rfl,rfl⟩ (kF (((Int.gcd (fG a.s a.x) (fG a.t a.y):Nat):Int))) ?_;have hn5:=vK (n:=(1:Int)) (by omega) (by omega)
    refine ca (Az (n:=(1:Int)) (by omega) (by omega)) Hf ⟨a1 rfl,rfl⟩ (kF ((1:Int))) ?_
    refine ca (MM (Zn.of (k:=((Int.gcd (fG a.s a.x) (fG a.t a.y):Nat):Int)) (by omega)) (Zn.of (k:=(1:Int)) (by omega))) ZE ⟨aC rfl,aC rfl,rfl⟩ (.one (tv (.bool (decide ((((Int.gcd (fG a.s a.x) (fG a.t a.y):Nat):Int))=((1:Int))))))) ?_
    refine o1 ?_;refine o1 ?_;refine nl (rt ?_)
    exact en (.inl rfl) rfl (bD (cX _)) (by decide) (fun _=>trivial) (congrArg (fun z=>FV.one (tv (.bool z))) (by simp[bY,h1,h2,s3,Tw]))
   (iterate 7 refine cY ?_);refine o1 ?_;refine o1 ?_;refine nl (rt ?_);have s3:¬(0<fG a.t a.y):=fun h=>h3 (Int.sign_pos_iff.2 h)
   exact en (.inl rfl) rfl (bD (cX _)) (by decide) (fun _=>trivial) (congrArg (fun z=>FV.one (tv (.bool z))) (by simp[bY,h1,h2,s3,Tw]))
  (iterate 4 refine cY ?_);refine o1 ?_;refine o1 ?_;(iterate 7 refine cY ?_);refine o1 ?_;refine o1 ?_;refine nl (rt ?_)
  exact en (.inl rfl) rfl (bD (cX _)) (by decide) (fun _=>trivial) (congrArg (fun z=>FV.one (tv (.bool z))) (by simp[bY,h1,h2]))
 (iterate 3 refine cY ?_);refine o1 ?_;refine o1 ?_;(iterate 4 refine cY ?_);refine o1 ?_;refine o1 ?_;(iterate 7 refine cY ?_);refine o1 ?_;refine o1 ?_;refine nl (rt ?_)
 exact en (.inl rfl) rfl (bD (cX _)) (by decide) (fun _=>trivial) (congrArg (fun z=>FV.one (tv (.bool z))) (by simp[bY,h1]))
theorem Ba:aE false Tryz.prog 44 [] [] (aT (qF (.of 0))):=by
 refine bV Tryz.func44 rfl Tryz.ntmps44 rfl aF rfl fun N w c0 h0=>?_
 refine sq (rl (al 0 ?_));refine nl (sq (rl ?_));have hn1:=vK (n:=(0:Int)) (by omega) (by omega)
 refine ca (Az (n:=(0:Int)) (by omega) (by omega)) Hf ⟨a1 rfl,rfl⟩ (kF ((0:Int))) ?_
 have hn2:=vK (n:=(1:Int)) (by omega) (by omega)
 refine ca (Az (n:=(1:Int)) (by omega) (by omega)) Hf ⟨a1 rfl,rfl⟩ (kF ((1:Int))) ?_
 refine o1 ?_;refine st ?_;refine nl (rt ?_)
 exact en (.inl rfl) rfl (bD (.agg (.cons (.id rfl) (.cons (.id rfl) (.cons (.id rfl) (.cons (.id rfl) .nil)))))) (by decide) (fun h=>by cases h) (Hg (q:=0) rfl rfl)
theorem pY {a:Fr4}{p:Rat}(ha:Qn a p):aE false Tryz.prog 77 [] [qF a] (aT (qF (.of p))):=by
 refine bV Tryz.func77 rfl Tryz.ntmps77 rfl aF rfl fun N w c0 h0=>?_
 refine sq (rl (bx 0 ?_));refine al 1 ?_;refine nl (sq (sq (rl (ld ?_))))
 refine ca (Dm ha) FJ ⟨aC rfl,rfl⟩ (.one (tv (.bool (bY a.s a.x a.t a.y)))) ?_;refine WL.splitb (t:=4) rfl (fun h1=>?_) (fun h1=>?_)
 ·refine o1 ?_;refine nl (dW rfl (sk (sq (rl (ld ?_)))));refine st ?_;refine nl (rt ?_)
  exact en (.inl rfl) rfl (bD (.agg (.cons (.id rfl) (.cons (.id rfl) (.cons (.id rfl) (.cons (.id rfl) .nil)))))) (by decide) (fun h=>by cases h) (by rw[ha.right h1];rfl)
 refine o1 ?_;refine nl (iC rfl (sq (rl (ca (Ba) Wy rfl (qF (.of 0)) ?_))));refine st ?_;refine nl (rt ?_)
 exact en (.inl rfl) rfl (bD (.agg (.cons (.id rfl) (.cons (.id rfl) (.cons (.id rfl) (.cons (.id rfl) .nil)))))) (by decide) (fun h=>by cases h) (by rw[ha.wrong h1];rfl)
theorem tW {a b:Zi}{k k':Int}(ha:Zn a k) (hb:Zn b k') (h0:k'≠0):aE false Tryz.prog 109 [] [gF a,gF b] (aT (.tup [kF (k.fdiv k'),kF (k.fmod k'),.one (tv (.int .i64 0))])):=by
 have h:=AD ha hb
 rwa[if_neg h0,if_neg h0,if_neg h0]at h
theorem sW {a b:Zi}{k k':Int}(ha:Zn a k) (hb:Zn b k'):aE false Tryz.prog 78 [] [gF a,gF b] (aT (.tup [qF (.of (Rat.divInt k k')),.one (tv (.int .i64 (if k'=0 then 20 else 0)))])):=by
 refine bV Tryz.func78 rfl Tryz.ntmps78 rfl aF rfl fun N w c0 h0=>?_
 have hkl:=ha.len
 have hkl':=hb.len
 refine sq (rl (bx 0 ?_));refine bx 1 ?_;refine al 2 ?_;refine o1 ?_;refine nl (sq (sq (rl (ld ?_))))
 refine ca (pX hb) Do ⟨aC rfl,rfl⟩ (.one (tv (.int .i64 (k').sign))) ?_;refine o1 ?_;refine nl ?_;refine bF rfl (fun h1=>?_) (fun h1=>?_)
 ·refine sq (rl (ca (Ba) Wy rfl (qF (.of 0)) ?_));refine st ?_;refine o1 ?_;refine nl (rt ?_);have hk0:k'=0:=Int.sign_eq_zero_iff_zero.1 h1
  have hd0:Rat.divInt k k'=0:=by rw[hk0];simp
  exact en (.inl rfl) rfl (sX (.cons (.agg (.cons (.id rfl) (.cons (.id rfl) (.cons (.id rfl) (.cons (.id rfl) .nil))))) (.cons (cX _) .nil))) (by decide) (fun h=>by cases h) (by rw[if_pos hk0,hd0];rfl)
 refine sk (sq (sq ?_));have hk0:k'≠0:=fun h9=>h1 (by rw[h9];rfl)
 refine rl (ld ?_);refine ca (pX hb) Do ⟨aC rfl,rfl⟩ (.one (tv (.int .i64 (k').sign))) ?_;refine o1 ?_;refine nl ?_;refine bF rfl (fun h2=>?_) (fun h2=>?_)
 ·refine sq (rl (ld ?_));have hn3:=mC (k)
  refine ca (Ex ha) Wz ⟨aC rfl,rfl⟩ (kF (-k)) ?_;refine st ?_;refine nl (rl (ld ?_));have hn4:=mC (k')
  refine ca (Ex hb) Wz ⟨aC rfl,rfl⟩ (kF (-k')) ?_;refine st ?_;refine nl (sq ?_);have hkn:k'<0:=Int.sign_neg_iff.1 h2
  refine rl (ld ?_);refine ld ?_;have hn5:=Hd (k:=-k) (k':=-k') (by omega)
  refine ca (Oj (Zn.of (k:=-k) (by omega)) (Zn.of (k:=-k') (by omega))) FI ⟨aC rfl,aC rfl,rfl⟩ (kF (((Int.gcd (-k) (-k'):Nat):Int))) ?_
  refine al 3 ?_;refine st ?_;refine nl (sq (rl (ld ?_)));refine ld ?_
  refine ca (tW (Zn.of (k:=-k) (by omega)) (Zn.of (k:=((Int.gcd (-k) (-k'):Nat):Int)) (by omega)) (Ey (by omega))) Ma ⟨aC rfl,aC rfl,rfl⟩ (.tup [kF ((-k).fdiv ((Int.gcd (-k) (-k'):Nat):Int)),kF ((-k).fmod ((Int.gcd (-k) (-k'):Nat):Int)),.one (tv (.int .i64 0))]) ?_
  (iterate 4 refine o1 ?_);refine al 4 ?_;refine al 5 ?_;refine st ?_;refine st ?_;refine o1 ?_;refine nl (sq (rl (ld ?_)));refine ld ?_
  refine ca (tW (Zn.of (k:=-k') (by omega)) (Zn.of (k:=((Int.gcd (-k) (-k'):Nat):Int)) (by omega)) (Ey (by omega))) Ma ⟨aC rfl,aC rfl,rfl⟩ (.tup [kF ((-k').fdiv ((Int.gcd (-k) (-k'):Nat):Int)),kF ((-k').fmod ((Int.gcd (-k) (-k'):Nat):Int)),.one (tv (.int .i64 0))]) ?_
  (iterate 4 refine o1 ?_);refine al 6 ?_;refine al 7 ?_;refine st ?_;refine st ?_;refine o1 ?_;refine nl (sq (rl (ld ?_)));refine ld ?_;refine o1 ?_
  refine st ?_;refine o1 ?_;refine nl (rt ?_);obtain⟨hp9,hn9⟩:=Ol (a:=k) hk0
  obtain⟨e1,e2⟩:=hn9 hkn
  exact en (.inl rfl) rfl (sX (.cons (.agg (.cons (.id rfl) (.cons (.id rfl) (.cons (.id rfl) (.cons (.id rfl) .nil))))) (.cons (cX _) .nil))) (by decide) (fun h=>by cases h) (by rw[if_neg hk0];exact congrArg (fun f=>FV.tup [f,.one (tv (.int .i64 0))]) (Hg e1 e2))
 refine sk (sq ?_);have hkp:0<k':=by have h9:=mt Int.sign_neg_iff.2 h2;omega
 refine rl (ld ?_);refine ld ?_;have hn6:=Hd (k:=k) (k':=k') (by omega)
 refine ca (Oj ha hb) FI ⟨aC rfl,aC rfl,rfl⟩ (kF (((Int.gcd k k':Nat):Int))) ?_;refine al 3 ?_;refine st ?_;refine nl (sq (rl (ld ?_)));refine ld ?_
 refine ca (tW ha (Zn.of (k:=((Int.gcd k k':Nat):Int)) (by omega)) (Ey (by omega))) Ma ⟨aC rfl,aC rfl,rfl⟩ (.tup [kF ((k).fdiv ((Int.gcd k k':Nat):Int)),kF ((k).fmod ((Int.gcd k k':Nat):Int)),.one (tv (.int .i64 0))]) ?_
 (iterate 4 refine o1 ?_);refine al 4 ?_;refine al 5 ?_;refine st ?_;refine st ?_;refine o1 ?_;refine nl (sq (rl (ld ?_)));refine ld ?_
 refine ca (tW hb (Zn.of (k:=((Int.gcd k k':Nat):Int)) (by omega)) (Ey (by omega))) Ma ⟨aC rfl,aC rfl,rfl⟩ (.tup [kF ((k').fdiv ((Int.gcd k k':Nat):Int)),kF ((k').fmod ((Int.gcd k k':Nat):Int)),.one (tv (.int .i64 0))]) ?_
 (iterate 4 refine o1 ?_);refine al 6 ?_;refine al 7 ?_;refine st ?_;refine st ?_;refine o1 ?_;refine nl (sq (rl (ld ?_)));refine ld ?_;refine o1 ?_
 refine st ?_;refine o1 ?_;refine nl (rt ?_);obtain⟨hp9,hn9⟩:=Ol (a:=k) hk0
 obtain⟨e1,e2⟩:=hp9 hkp
 exact en (.inl rfl) rfl (sX (.cons (.agg (.cons (.id rfl) (.cons (.id rfl) (.cons (.id rfl) (.cons (.id rfl) .nil))))) (.cons (cX _) .nil))) (by decide) (fun h=>by cases h) (by rw[if_neg hk0];exact congrArg (fun f=>FV.tup [f,.one (tv (.int .i64 0))]) (Hg e1 e2))
theorem WJ {n d:Int}(h1:-9223372036854775808≤n) (h2:n≤9223372036854775807) (h3:-9223372036854775808≤d) (h4:d≤9223372036854775807):aE false Tryz.prog 58 [] [.one (tv (.int .i64 n)),.one (tv (.int .i64 d))] (aT (.tup [qF (.of (Rat.divInt n d)),.one (tv (.int .i64 (if d=0 then 20 else 0)))])):=by
 refine bV Tryz.func58 rfl Tryz.ntmps58 rfl aF rfl fun N w c0 h0=>?_
 refine sq (rl (al 0 ?_));refine o1 ?_;refine nl (sq (rl (o1 ?_)));have hn1:=vK (n:=n) (by omega) (by omega)
 refine ca (Az (n:=n) (by omega) (by omega)) Hf ⟨a1 rfl,rfl⟩ (kF (n)) ?_
 refine o1 ?_;have hn2:=vK (n:=d) (by omega) (by omega)
 refine ca (Az (n:=d) (by omega) (by omega)) Hf ⟨a1 rfl,rfl⟩ (kF (d)) ?_
 refine ca (sW (Zn.of (k:=n) (by omega)) (Zn.of (k:=d) (by omega))) Dp ⟨aC rfl,aC rfl,rfl⟩ (.tup [qF (.of (Rat.divInt (n) (d))),.one (tv (.int .i64 (if(d)=0 then 20 else 0)))]) ?_
 refine o1 ?_;refine o1 ?_;refine st ?_;refine o1 ?_;refine nl (rt ?_)
 exact en (.inl rfl) rfl (sX (.cons (.agg (.cons (.id rfl) (.cons (.id rfl) (.cons (.id rfl) (.cons (.id rfl) .nil))))) (.cons (cX _) .nil))) (by decide) (fun h=>by cases h) rfl
theorem AE {a:Fr4}{p:Rat}(ha:Qn a p):aE false Tryz.prog 65 [] [qF a] (aT (qF (.of (-p)))):=by
 refine bV Tryz.func65 rfl Tryz.ntmps65 rfl aF rfl fun N w c0 h0=>?_
 refine sq (rl (bx 0 ?_));refine al 1 ?_;refine nl (sq (rl (ld ?_)));refine ca (pY ha) Hh ⟨aC rfl,rfl⟩ (qF (.of p)) ?_;refine st ?_
 refine nl (sq ?_);refine cI [0,1] [6] ?_
 refine dv 0 ?_;refine aK 1 ?_;refine dv 3 ?_;refine aK 4 ?_;refine aS 2 rfl (Ex (oR ha.sz)) Wz ⟨aC rfl,rfl⟩ (kF (-p.num)) ?_;refine df 5 ?_;refine dst 6 ?_;refine aW ?_
 refine rt ?_
 exact en (.inl rfl) rfl (bD (.agg (.cons (.id rfl) (.cons (.id rfl) (.cons (.id rfl) (.cons (.id rfl) .nil)))))) (by decide) (fun h=>by cases h) (by unfold qF Fr4.of;rw[Rat.neg_num,Rat.neg_den];rfl)
theorem vL {a b:Fr4}{p q:Rat}(ha:Qn a p) (hb:Qn b q) (hs:Sz 17179869184 p) (hs':Sz 17179869184 q):aE false Tryz.prog 45 [] [qF a,qF b] (aT (qF (.of (p+q)))):=by
 refine bV Tryz.func45 rfl Tryz.ntmps45 rfl aF rfl fun N w c0 h0=>?_
 have hs1:=hs.1
 have hs2:(dg 4294967296 ((p.den:Int)).natAbs).length≤17179869184:=hs.2
 have hs3:=hs'.1
 have hs4:(dg 4294967296 ((q.den:Int)).natAbs).length≤17179869184:=hs'.2
 refine sq (rl (bx 0 ?_));refine bx 1 ?_;refine al 2 ?_;refine nl (sq (rl (ld ?_)));refine ca (pY ha) Hh ⟨aC rfl,rfl⟩ (qF (.of p)) ?_
 refine st ?_;refine nl (sq (rl (ld ?_)));refine ca (pY hb) Hh ⟨aC rfl,rfl⟩ (qF (.of q)) ?_;refine st ?_;refine nl ?_
 refine md (γ:=Unit) (fun _=>bP [(4,pN 0),(5,pN 1)]) (fun _=>([⟨52,0,[tv (.bool false),tv (.slice none 0 0),tv (.bool false),tv (.slice none 0 0)]⟩,⟨52,0,((Fr4.of (Rat.divInt (p.num*(q.den:Int)+q.num*(p.den:Int)) ((p.den:Int)*(q.den:Int)))).tr false).map .t⟩]:List Ob).map some) (fun _=>True) ?_ fun _ _=>?_
 ·refine cI [0,1,2] [22] ?_
  refine dv 0 ?_;refine aK 1 ?_;refine dv 2 ?_;refine aK 3 ?_;refine dv 5 ?_;refine aK 6 ?_;refine dv 7 ?_;refine aK 8 ?_;refine dv 11 ?_;refine aK 12 ?_;refine dv 13 ?_
  refine aK 14 ?_;refine eR 4 20 ?_ ?_
  ·have hn1:=gJ (p.num) ((q.den:Int))
   refine fB 4 rfl (nD (oR hs) (iP hs')) uQ ⟨aC rfl,aC rfl,rfl⟩ (kF (p.num*(q.den:Int))) ?_;refine eR 9 20 ?_ ?_
   ·have hn2:=gJ (q.num) ((p.den:Int))
    refine fB 9 rfl (nD (oR hs') (iP hs)) uQ ⟨aC rfl,aC rfl,rfl⟩ (kF (q.num*(p.den:Int))) ?_;refine eR 10 20 ?_ ?_
    ·have hn3:=mD (p.num*(q.den:Int)) (q.num*(p.den:Int))
     refine fB 10 rfl (vM (Zn.of (k:=p.num*(q.den:Int)) (by omega)) (Zn.of (k:=q.num*(p.den:Int)) (by omega))) Hi ⟨aC rfl,aC rfl,rfl⟩ (kF (p.num*(q.den:Int)+q.num*(p.den:Int))) ?_
     refine eR 15 20 ?_ ?_
     ·have hn4:=gJ ((p.den:Int)) ((q.den:Int))
      refine fB 15 rfl (nD (iP hs) (iP hs')) uQ ⟨aC rfl,aC rfl,rfl⟩ (kF ((p.den:Int)*(q.den:Int))) ?_;refine eR 16 20 ?_ ?_
      ·refine fB 16 rfl (sW (Zn.of (k:=p.num*(q.den:Int)+q.num*(p.den:Int)) (by omega)) (Zn.of (k:=(p.den:Int)*(q.den:Int)) (by omega))) Dp ⟨aC rfl,aC rfl,rfl⟩ (.tup [qF (.of (Rat.divInt (p.num*(q.den:Int)+q.num*(p.den:Int)) ((p.den:Int)*(q.den:Int)))),.one (tv (.int .i64 (if((p.den:Int)*(q.den:Int))=0 then 20 else 0)))]) ?_
       refine df 17 ?_;refine df 18 ?_;refine df 19 ?_;refine fZ 3 20 ?_
       refine dC 21 ?_
       refine dI 22 ?_
       refine aW ?_;exact⟨(),trivial,aP h0 [2,3] ⟨oe rfl rfl,oe rfl rfl,rfl⟩⟩
      refine cQ 3 20 ?_
      refine aS 16 rfl (sW (Zn.of (k:=p.num*(q.den:Int)+q.num*(p.den:Int)) (by omega)) (Zn.of (k:=(p.den:Int)*(q.den:Int)) (by omega))) Dp ⟨aC rfl,aC rfl,rfl⟩ (.tup [qF (.of (Rat.divInt (p.num*(q.den:Int)+q.num*(p.den:Int)) ((p.den:Int)*(q.den:Int)))),.one (tv (.int .i64 (if((p.den:Int)*(q.den:Int))=0 then 20 else 0)))]) ?_
      refine df 17 ?_;refine df 18 ?_;refine df 19 ?_;refine dC 21 ?_
      refine dI 22 ?_
      refine aW ?_;exact⟨(),trivial,aP h0 [2,3] ⟨oe rfl rfl,oe rfl rfl,rfl⟩⟩
     refine cQ 3 20 ?_;have hn5:=gJ ((p.den:Int)) ((q.den:Int))
     refine aS 15 rfl (nD (iP hs) (iP hs')) uQ ⟨aC rfl,aC rfl,rfl⟩ (kF ((p.den:Int)*(q.den:Int))) ?_
     refine aS 16 rfl (sW (Zn.of (k:=p.num*(q.den:Int)+q.num*(p.den:Int)) (by omega)) (Zn.of (k:=(p.den:Int)*(q.den:Int)) (by omega))) Dp ⟨aC rfl,aC rfl,rfl⟩ (.tup [qF (.of (Rat.divInt (p.num*(q.den:Int)+q.num*(p.den:Int)) ((p.den:Int)*(q.den:Int)))),.one (tv (.int .i64 (if((p.den:Int)*(q.den:Int))=0 then 20 else 0)))]) ?_
     refine df 17 ?_;refine df 18 ?_;refine df 19 ?_;refine dC 21 ?_
     refine dI 22 ?_
     refine aW ?_;exact⟨(),trivial,aP h0 [2,3] ⟨oe rfl rfl,oe rfl rfl,rfl⟩⟩
    refine cQ 3 20 ?_;have hn6:=mD (p.num*(q.den:Int)) (q.num*(p.den:Int))
    refine aS 10 rfl (vM (Zn.of (k:=p.num*(q.den:Int)) (by omega)) (Zn.of (k:=q.num*(p.den:Int)) (by omega))) Hi ⟨aC rfl,aC rfl,rfl⟩ (kF (p.num*(q.den:Int)+q.num*(p.den:Int))) ?_
    have hn7:=gJ ((p.den:Int)) ((q.den:Int))
    refine aS 15 rfl (nD (iP hs) (iP hs')) uQ ⟨aC rfl,aC rfl,rfl⟩ (kF ((p.den:Int)*(q.den:Int))) ?_
    refine aS 16 rfl (sW (Zn.of (k:=p.num*(q.den:Int)+q.num*(p.den:Int)) (by omega)) (Zn.of (k:=(p.den:Int)*(q.den:Int)) (by omega))) Dp ⟨aC rfl,aC rfl,rfl⟩ (.tup [qF (.of (Rat.divInt (p.num*(q.den:Int)+q.num*(p.den:Int)) ((p.den:Int)*(q.den:Int)))),.one (tv (.int .i64 (if((p.den:Int)*(q.den:Int))=0 then 20 else 0)))]) ?_
    refine df 17 ?_;refine df 18 ?_;refine df 19 ?_;refine dC 21 ?_
    refine dI 22 ?_
    refine aW ?_;exact⟨(),trivial,aP h0 [2,3] ⟨oe rfl rfl,oe rfl rfl,rfl⟩⟩
   refine cQ 3 20 ?_;have hn8:=gJ (q.num) ((p.den:Int))
   refine aS 9 rfl (nD (oR hs') (iP hs)) uQ ⟨aC rfl,aC rfl,rfl⟩ (kF (q.num*(p.den:Int))) ?_;have hn9:=mD (p.num*(q.den:Int)) (q.num*(p.den:Int))
   refine aS 10 rfl (vM (Zn.of (k:=p.num*(q.den:Int)) (by omega)) (Zn.of (k:=q.num*(p.den:Int)) (by omega))) Hi ⟨aC rfl,aC rfl,rfl⟩ (kF (p.num*(q.den:Int)+q.num*(p.den:Int))) ?_
   have hn10:=gJ ((p.den:Int)) ((q.den:Int))
   refine aS 15 rfl (nD (iP hs) (iP hs')) uQ ⟨aC rfl,aC rfl,rfl⟩ (kF ((p.den:Int)*(q.den:Int))) ?_
   refine aS 16 rfl (sW (Zn.of (k:=p.num*(q.den:Int)+q.num*(p.den:Int)) (by omega)) (Zn.of (k:=(p.den:Int)*(q.den:Int)) (by omega))) Dp ⟨aC rfl,aC rfl,rfl⟩ (.tup [qF (.of (Rat.divInt (p.num*(q.den:Int)+q.num*(p.den:Int)) ((p.den:Int)*(q.den:Int)))),.one (tv (.int .i64 (if((p.den:Int)*(q.den:Int))=0 then 20 else 0)))]) ?_
   refine df 17 ?_;refine df 18 ?_;refine df 19 ?_;refine dC 21 ?_
   refine dI 22 ?_
   refine aW ?_;exact⟨(),trivial,aP h0 [2,3] ⟨oe rfl rfl,oe rfl rfl,rfl⟩⟩
  refine cQ 3 20 ?_;have hn11:=gJ (p.num) ((q.den:Int))
  refine aS 4 rfl (nD (oR hs) (iP hs')) uQ ⟨aC rfl,aC rfl,rfl⟩ (kF (p.num*(q.den:Int))) ?_;have hn12:=gJ (q.num) ((p.den:Int))
  refine aS 9 rfl (nD (oR hs') (iP hs)) uQ ⟨aC rfl,aC rfl,rfl⟩ (kF (q.num*(p.den:Int))) ?_;have hn13:=mD (p.num*(q.den:Int)) (q.num*(p.den:Int))
  refine aS 10 rfl (vM (Zn.of (k:=p.num*(q.den:Int)) (by omega)) (Zn.of (k:=q.num*(p.den:Int)) (by omega))) Hi ⟨aC rfl,aC rfl,rfl⟩ (kF (p.num*(q.den:Int)+q.num*(p.den:Int))) ?_
  have hn14:=gJ ((p.den:Int)) ((q.den:Int))
  refine aS 15 rfl (nD (iP hs) (iP hs')) uQ ⟨aC rfl,aC rfl,rfl⟩ (kF ((p.den:Int)*(q.den:Int))) ?_
  refine aS 16 rfl (sW (Zn.of (k:=p.num*(q.den:Int)+q.num*(p.den:Int)) (by omega)) (Zn.of (k:=(p.den:Int)*(q.den:Int)) (by omega))) Dp ⟨aC rfl,aC rfl,rfl⟩ (.tup [qF (.of (Rat.divInt (p.num*(q.den:Int)+q.num*(p.den:Int)) ((p.den:Int)*(q.den:Int)))),.one (tv (.int .i64 (if((p.den:Int)*(q.den:Int))=0 then 20 else 0)))]) ?_
  refine df 17 ?_;refine df 18 ?_;refine df 19 ?_;refine dC 21 ?_
  refine dI 22 ?_
  refine aW ?_;exact⟨(),trivial,aP h0 [2,3] ⟨oe rfl rfl,oe rfl rfl,rfl⟩⟩
 refine sq (rl (ld ?_));refine st ?_;refine nl (rt ?_)
 exact en (.inl rfl) rfl (bD (.agg (.cons (.id rfl) (.cons (.id rfl) (.cons (.id rfl) (.cons (.id rfl) .nil)))))) (by decide) (fun h=>by cases h) (by rw[←tX];rfl)
theorem oX {a b:Fr4}{p q:Rat}(ha:Qn a p) (hb:Qn b q) (hs:Sz 17179869184 p) (hs':Sz 17179869184 q):aE false Tryz.prog 64 [] [qF a,qF b] (aT (qF (.of (p-q)))):=by
 refine bV Tryz.func64 rfl Tryz.ntmps64 rfl aF rfl fun N w c0 h0=>?_
 refine sq (rl (bx 0 ?_));refine bx 1 ?_;refine al 2 ?_;refine nl (sq ?_);refine cI [0,1,2] [4] ?_
 refine aK 0 ?_;refine aK 1 ?_;refine aS 2 rfl (AE hb) RM ⟨aC rfl,rfl⟩ (qF (.of (-q))) ?_
 refine aS 3 rfl (vL ha (Qn.of (p:=(-q)) (sY hs')) hs (sY hs')) Hj ⟨aC rfl,aC rfl,rfl⟩ (qF (.of (p+(-q)))) ?_;refine dst 4 ?_;refine aW ?_;refine rt ?_
 exact en (.inl rfl) rfl (bD (.agg (.cons (.id rfl) (.cons (.id rfl) (.cons (.id rfl) (.cons (.id rfl) .nil)))))) (by decide) (fun h=>by cases h) (by rw[Rat.sub_eq_add_neg];rfl)
theorem Bb {a:Fr4}{p:Rat}(ha:Qn a p):aE true Tryz.prog 62 [] [qF a] (aT (.one (tv (.int .i64 p.num.sign)))):=by
 refine bV Tryz.func62 rfl Tryz.ntmps62 rfl aF rfl fun N w c0 h0=>?_
 refine sq (rl (bx 0 ?_));refine o1 ?_;refine nl (sq (rl (ld ?_)));refine ca (pY ha) Hh ⟨aC rfl,rfl⟩ (qF (.of p)) ?_;refine o1 ?_
 refine ca (pX (oR ha.sz)) Do ⟨aC rfl,rfl⟩ (.one (tv (.int .i64 (p.num).sign))) ?_;refine o1 ?_;refine nl (rt ?_)
 exact en (.inl rfl) rfl (bD (cX _)) (by decide) (fun _=>trivial) rfl
theorem RN {a b:Fr4}{p q:Rat}(ha:Qn a p) (hb:Qn b q) (hs:Sz 17179869184 p) (hs':Sz 17179869184 q):aE true Tryz.prog 94 [] [qF a,qF b] (aT (.one (tv (.int .i64 (p-q).num.sign)))):=by
 refine bV Tryz.func94 rfl Tryz.ntmps94 rfl aF rfl fun N w c0 h0=>?_
 refine sq (rl (bx 0 ?_));refine bx 1 ?_;refine o1 ?_;refine nl (sq (rl (ld ?_)));refine ld ?_
 refine ca (oX ha hb hs hs') wZ ⟨aC rfl,aC rfl,rfl⟩ (qF (.of (p-q))) ?_
 refine ca (Bb (Qn.of (p:=(p-q)) (kD hs hs'))) Xa ⟨aC rfl,rfl⟩ (.one (tv (.int .i64 (p-q).num.sign))) ?_;refine o1 ?_;refine nl (rt ?_)
 exact en (.inl rfl) rfl (bD (cX _)) (by decide) (fun _=>trivial) rfl
theorem AF {ms:List Bool}{Bs bs:List Rat}{L Us:Rat}{e:Nat}{at9:Int}{ta tb tc td:Tr}(he:e<Bs.length) (heb:e<bs.length) (hB3:Sz 1000 (fI Bs e)) (hY3:Sz 1000 (fI bs (e))) (hL3:Sz 1000 L) (hU3:Sz 1000 Us) (hlb:bs.length≤1073741823) (hlB:Bs.length≤1073741823):aE false Tryz.prog 130 [⟨165,0,[.t (gH ms),.t (sQ false (Bs.map Fr4.of))]++((Fr4.of L).tr false).map .t++((Fr4.of Us).tr false).map .t++[.sl 1 0 bs.length,.fn 99 [] [.pt 2 0,.pt 3 0]]⟩,⟨48,4,(bs.flatMap qt).map .t⟩,⟨92,0,[.pt 4 0]⟩,⟨3,0,[tv (.int .i64 at9)]⟩,⟨95,0,[.t ta,.t tb,.t tc,.t td]⟩] [.one (.pt 0 0),.one (tv (.int .i64 ((e:Nat):Int)))] (Rt [⟨165,0,[.t (gH ms),.t (sQ false (Bs.map Fr4.of))]++((Fr4.of L).tr false).map .t++((Fr4.of Us).tr false).map .t++[.sl 1 0 bs.length,.fn 99 [] [.pt 2 0,.pt 3 0]]⟩,⟨48,4,(bs.flatMap qt).map .t⟩,⟨92,0,[.pt 4 0]⟩,⟨3,0,[tv (.int .i64 at9)]⟩,⟨95,0,[.t ta,.t tb,.t tc,.t td]⟩] (qF (.of (aO ((fI Bs e)-(fI bs (e))) [(L-Us)])))):=by
 refine qS Tryz.func130 rfl Tryz.ntmps130 rfl aF rfl fun N9 M9 w9 c0 h0=>?_
 have hBl:(Bs.map Fr4.of).length=Bs.length:=dB _
 have hs1:Sz 68719476736 ((fI Bs e)-(fI bs (e))):=(kD hB3 hY3).mono (by omega)
 have hs2:Sz 68719476736 (L-Us):=(kD hL3 hU3).mono (by omega)
 have hB:Sz 68719476736 (fI Bs e):=hB3.mono (by omega)
 have hY:Sz 68719476736 (fI bs (e)):=hY3.mono (by omega)
 have hL:Sz 68719476736 L:=hL3.mono (by omega)
 have hU:Sz 68719476736 Us:=hU3.mono (by omega)
 refine sq (rl (al 5 ?_));refine nl (sq ?_);refine cI [0,1,2,3,4,5] [30] ?_
 refine dv 0 ?_;refine dv 1 ?_;refine dv 2 ?_;refine dv 3 ?_;refine aK 4 ?_;refine dv 5 ?_;refine dv 6 ?_
 refine dD 7 ((Fr4.of (fI Bs e)).tr false) ((by rw[←mE he];exact fL (Bs.map Fr4.of) (k:=e) (by rw[dB];exact he))) ?_
 refine dv 8 ?_;refine dv 9 ?_;refine dv 10 ?_;refine dv 11 ?_;refine aK 12 ?_;refine dv 13 ?_;refine dv 14 ?_
 refine sP 15 (fU (f:=qt) (z:=4) (o:=0) (us:=qt (fI bs (e))) mF (tY (by omega)) (bM rfl) rfl) ?_
 refine dv 17 ?_;refine dv 18 ?_;refine dv 19 ?_;refine dv 20 ?_;refine aK 21 ?_;refine dv 22 ?_;refine dv 23 ?_;refine dv 24 ?_;refine dv 25 ?_;refine aK 26 ?_
 refine aS 16 rfl (wY (Qn.of (p:=(fI Bs e)) hB) (Qn.of (p:=(fI bs (e))) hY)) Dk ⟨aC rfl,aC rfl,rfl⟩ (qF (.of ((fI Bs e)-(fI bs (e))))) ?_
 refine aS 27 rfl (wY (Qn.of (p:=L) hL) (Qn.of (p:=Us) hU)) Dk ⟨aC rfl,aC rfl,rfl⟩ (qF (.of (L-Us))) ?_
 refine iG (key:=6) 28 (by kernel_rfl) rfl rfl aF rfl ⟨rfl,rfl,rfl,rfl,rfl,rfl,trivial⟩ ?_
 refine qU (i:=33) (k:=6) (t:=48) (t':=52) (z:=4) (n:=1) (l:=([Fr4.of (L-Us)]).flatMap (Fr4.tr false)) rfl rfl rfl rfl (.one .sl) (by rfl) (by rfl) ?_
 refine aS 29 rfl (Ew (a:=.of (L-Us)) (Qn.of (hs2)) hs1) oV ⟨aC rfl,a1 rfl,rfl⟩ (qF (.of (aO ((fI Bs e)-(fI bs (e))) [(L-Us)]))) ?_;refine dst 30 ?_;refine aW ?_
 refine rt ?_
 exact jS (lent':=[⟨165,0,[.t (gH ms),.t (sQ false (Bs.map Fr4.of))]++((Fr4.of L).tr false).map .t++((Fr4.of Us).tr false).map .t++[.sl 1 0 bs.length,.fn 99 [] [.pt 2 0,.pt 3 0]]⟩,⟨48,4,(bs.flatMap qt).map .t⟩,⟨92,0,[.pt 4 0]⟩,⟨3,0,[tv (.int .i64 at9)]⟩,⟨95,0,[.t ta,.t tb,.t tc,.t td]⟩]) (.inl rfl) rfl (bD (.agg (.cons (.id rfl) (.cons (.id rfl) (.cons (.id rfl) (.cons (.id rfl) .nil)))))) (by decide) (fun _ h=>by cases h) ⟨⟨rfl,rfl⟩,⟨rfl,rfl⟩,⟨rfl,rfl⟩,⟨rfl,rfl⟩,⟨rfl,rfl⟩,trivial⟩ ⟨rfl,rfl,rfl,rfl,rfl,trivial⟩ ⟨rfl,dF _,rfl,rfl,rfl,trivial⟩ (fun h=>by cases h) ⟨rfl,rfl⟩
def eM (ls:List (List (Int×Rat)×Int×Bool)):Tr:=.s true 96 1 ls.length (ls.map eU)
theorem Bc {ls:List (List (Int×Rat)×Int×Bool)}{e:Nat}(he:e<ls.length):((ls.map eU).map AV.t)[e]? =some (.t (eU (dU ls e))):=by
 rw[List.getElem?_map,List.getElem?_map,Jy he]
 rfl
theorem Ez {l:List AV}{e:Nat}{a:AV}(he:e<l.length):(l.set e a)[0+e*1]? =some a:=by rw[show 0+e*1=e by omega];exact List.getElem?_set_self he
theorem mG {ls:List (List (Int×Rat)×Int×Bool)}:((ls.map eU).map AV.t).length=ls.length:=by simp
theorem Om {ls:List (List (Int×Rat)×Int×Bool)}{e:Nat}{a:AV}{x:List (Int×Rat)×Int×Bool}:(((ls.map eU).map AV.t).set e a).set e (.t (eU x))=((ls.set e x).map eU).map .t:=by rw[List.set_set,List.map_set,List.map_set]
theorem MN (us:List Ur) (u:Ur):(us.flatMap (dK false)).map AV.t++(dK false u).map .t=((us++[u]).flatMap (dK false)).map .t:=by simp[List.flatMap_append]
section
variable {x:Cx}{g:Nat→FV}{ob ob':List (Option Ob)}{Q:Post}{ops:Array Oper}{rest:List Oper}{d:Nat}{ty:TypeId}{pos:String}{af:Array Edge}{gd:Option (Nat×Bool)}{T:List (Nat×TI)}
theorem MO {k t z n:Nat}(t':Nat){l l':List Tr}(ho:cT ob k=some ⟨t,z,l.map .t⟩) (hz:l.length=n*z) (hl:rdTL l=l'):Mb x g ob k ⟨t,z,l.map .t⟩ (.sl k 0 n) (.s false t' z n l'):=fun cs ts W hR m2 m3 u e2=>by
 have h:=Fa t' ho hz cs ts W hR m2 m3 u e2
 simp only[AR]at h⊢
 have h9:=Fb _ _ h
 rw[oF,hl]at h9
 exact h9
theorem RP {i k t z n:Nat}(t':Nat){l l':List Tr}{fv fv':FV}(hi:Nat.blt i x.n=true) (hg:g i=fv) (ho:cT ob k=some ⟨t,z,l.map .t⟩) (hz:l.length=n*z) (hl:rdTL l=l') (hf:FzF (.sl k 0 n) (.s false t' z n l') fv fv'):Sub x g ob (bH g i fv') (ob.set k none):=Bd hi hg ho hf (MO t' ho hz hl)
variable {late:Nat→Bool}{K fr:List Nat}{on:Bool}{fuel:Nat}{listed:Array Bool}
end
def z4:List Tr:=[.v (.bool false),.v (.slice none 0 0),.v (.bool false),.v (.slice none 0 0)]
structure WhOk (Z vs:List (Int×Rat)) (last:Int) (put:Bool):Prop where
 pos:ZF Z=vs
 low:∀z∈Z,0≤z.2
 ok:StOk vs Z.length (100*Z.length)
 asc:Asc vs
 yrs:∀x∈vs,-9223372036854775808≤x.1
 last:∀x∈vs,put=true∧x.1≤last
section
variable {Z vs us vs':List (Int×Rat)}{last y:Int}{put rt:Bool}{p:Rat}
end
theorem Tx {ls:List (List (Int×Rat)×Int×Bool)}{e:Nat}{a:AV}{x:List (Int×Rat)×Int×Bool}(he:e<ls.length) (hx:dU ls e=x):(((ls.map eU).map AV.t).set e a).set e (.t (eU x))=(ls.map eU).map .t:=by
 subst hx
 rw[List.set_set]
 apply List.ext_getElem?
 intro i
 rw[List.getElem?_set]
 split
 ·rename_i h
  subst h
  rw[if_pos (by rw[mG];exact he)]
  exact(Bc he).symm
 rfl
theorem FK (xs:List Wv) (x:Wv):(xs.flatMap eF).map AV.t++(eF x).map .t=((xs++[x]).flatMap eF).map .t:=by simp[List.flatMap_append]
def Rg.wtk (R:Rg) (U:List Ur) (t e k:Nat):List Wv:=R.wt0 U t e++bif R.mem t e then((R.wl U e (R.I t)).take k).map (fun x=>(⟨x.1,e,x.2⟩:Wv))else []
section
variable {R:Rg}{U:List Ur}{t e k:Nat}
theorem On:R.wtk U t e 0=R.wt0 U t e:=by
 unfold Rg.wtk
 cases R.mem t e <;> simp
theorem MP (hm:R.mem t e=true) (hk:k<(R.wl U e (R.I t)).length):R.wtk U t e (k+1)=R.wtk U t e k++[⟨(aH (R.wl U e (R.I t)) k).1,e,(aH (R.wl U e (R.I t)) k).2⟩]:=by
 unfold Rg.wtk
 rw[hm,lY hk]
 simp
theorem RQ (hm:R.mem t e=false):R.wtk U t e (k+1)=R.wtk U t e k:=by
 unfold Rg.wtk
 rw[hm]
 rfl
theorem MQ (hk:(R.wl U e (R.I t)).length≤k):R.wtk U t e k=R.wt0 U t (e+1):=by
 unfold Rg.wtk Rg.wt0
 rw[List.range_succ,List.flatMap_append,fF hk]
 simp
theorem Hk:(R.wt0 U t k).length≤k*t:=by
 unfold Rg.wt0
 induction k with
 | zero=>simp
 | succ k ih=>
  rw[List.range_succ,List.flatMap_append,fE,Nat.succ_mul]
  have h1:=vN (R:=R) (U:=U) (e:=k) (I:=R.I t)
  have h2:=vO (R:=R) (k:=t)
  have h3:(List.flatMap (fun e=>bif R.mem t e then(R.wl U e (R.I t)).map (fun x=>(⟨x.1,e,x.2⟩:Wv))else []) [k]).length≤t:=by
   rw[List.flatMap_cons,List.flatMap_nil,List.append_nil]
   cases R.mem t k
   ·simp
   show((R.wl U k (R.I t)).map _).length≤t
   rw[dB]
   omega
  omega
end
def Rg.yrq (R:Rg) (t:Nat):List Tr:=[gH (R.ms t),sQ false ((R.bs t).map Fr4.of)]++(Fr4.of (R.lim t)).tr false
def Rg.uf (R:Rg) (U:List Ur) (t i:Nat):List Ur:=((R.wt U t).take i).foldl (fun U p=>R.use U p.1 p.2 t) U
theorem Hl (xs:List Rat) (q:Rat):(xs.flatMap qt).map AV.t++(qt q).map .t=((xs++[q]).flatMap qt).map .t:=by simp[List.flatMap_append]
theorem Ty (xs:List Rl) (x:Rl):(xs.flatMap rlt).map AV.t++(rlt x).map .t=((xs++[x]).flatMap rlt).map .t:=by simp[List.flatMap_append]
section
variable {R:Rg}{U:List Ur}{N t i e k:Nat}{p:Nat×Nat}
theorem AG (h:(R.wt U t)[i]? =some p):p∈R.vl t∧t≤p.1+R.f∧p.2<R.E∧cS ((R.wt U t).map (R.wv U)) i=R.wv U p:=by
 have h1:=List.mem_of_getElem? h
 unfold Rg.wt at h1
 rw[List.mem_filter]at h1
 obtain⟨h2,h3⟩:=h1
 unfold Rg.may at h3
 simp only[Bool.and_eq_true,decide_eq_true_eq]at h3
 refine⟨h2,h3.1.1,(fK.1 h2).2.1,?_⟩
 rw[cS,List.getD_eq_getElem?_getD,List.getElem?_map,h]
 rfl
theorem Hm (h:(R.wt U t)[i]? =some p):R.uf U t (i+1)=R.use (R.uf U t i) p.1 p.2 t:=by
 unfold Rg.uf
 rw[List.take_add_one,h,List.foldl_append]
 rfl
theorem FL:(R.wt U t).Nodup:=List.Pairwise.filter _ (gV t)
theorem MR (h:(R.wt U t)[i]? =some p):R.left (R.uf U t i) p.1 p.2=R.left U p.1 p.2:=by
 refine rR _ _ fun hm=>?_
 obtain⟨j,hj,e⟩:=List.getElem_of_mem hm
 rw[eJ]at hj
 rw[List.getElem_take]at e
 have hi:=(List.getElem?_eq_some_iff.1 h)
 have:=(List.getElem_inj (FL (R:=R) (U:=U) (t:=t))).1 (e.trans hi.2.symm)
 omega
theorem WK (h:(R.wt U t)[i]? =some p):cS ((R.wt U t).map (R.wv U)) i=R.wv (R.uf U t i) p:=by
 rw[(AG h).2.2.2]
 unfold Rg.wv
 rw[MR h]
theorem WM (hI:R.Iv N U) (ht:t<N):R.Iv N (R.uf U t i):=hI.fold ht _ fun p hp=>by
 have h1:=List.mem_of_mem_take hp
 unfold Rg.wt at h1
 have:=fK.1 (List.mem_filter.1 h1).1
 exact⟨by omega,this.2.1⟩
theorem RR:(R.uf U t i).length≤U.length+i:=by
 unfold Rg.uf
 have gen:∀(L:List (Nat×Nat)) (V:List Ur),(L.foldl (fun U p=>R.use U p.1 p.2 t) V).length≤V.length+L.length:=by
  intro L
  induction L with
  | nil=>intro V;simp
  | cons q L ih=>
   intro V
   have h1:=ih (R.use V q.1 q.2 t)
   have h2:(R.use V q.1 q.2 t).length≤V.length+1:=Gv
   rw[List.foldl_cons,List.length_cons]
   omega
 have:=gen ((R.wt U t).take i) U
 rw[eJ]at this
 omega
theorem RS (hI:R.Iv N U) (ht:t<N) (hi:(R.wt U t).length≤i):R.uf U t i=R.step U t:=by
 unfold Rg.uf
 rw[fF hi]
 exact(MS hI ht).symm
theorem MT:(R.wt U t).length≤(R.vl t).length:=List.length_filter_le ..
theorem FM:R.rls (R.step U t) t=R.rls U t:=by
 unfold Rg.step
 generalize (R.vl t).filter (R.may t)=L
 induction L generalizing U with
 | nil=>rfl
 | cons p L ih=>
  rw[List.foldl_cons,ih]
  exact RT (bC _)
theorem FN:R.rls U t++[R.rl U t]=R.rls U (t+1):=by simp[Rg.rls,List.range_succ]
theorem Oo (l:List Rat):l.flatMap qt=(l.map Fr4.of).flatMap (Fr4.tr false):=by
 induction l with
 | nil=>rfl
 | cons q l ih=>
  rw[List.flatMap_cons,List.map_cons,List.flatMap_cons,←ih]
  rfl
theorem FO (h:∀e,e<R.E→dT U t e=0):(List.range R.E).map (fun _=>((0:Int):Rat))=R.by9 U t:=List.map_congr_left fun e he=>(h e (List.mem_range.1 he)).symm
end
theorem pZ (q:Rat):q.num.sign<0↔q<0:=by
 rw[Int.sign_neg_iff]
 have:=Rat.num_nonneg (q:=q)
 constructor
 ·intro h
  rcases Rat.le_total (a:=0) (b:=q)with h1 | h1
  ·have:=this.2 h1;omega
  rcases Rat.le_iff_lt_or_eq.1 h1 with h2 | h2
  ·exact h2
  rw[h2]at h;cases h
 intro h
 rcases Int.lt_or_le q.num 0 with h1 | h1
 ·exact h1
 have:=this.1 h1;grind
theorem FP {q:Rat}{y last:Int}{put:Bool}(h0:0≤q) (hl:put=true→last<y):eX (bY (Fr4.of q).s (Fr4.of q).x (Fr4.of q).t (Fr4.of q).y) q y last put=0:=by
 have h1:bY (Fr4.of q).s (Fr4.of q).x (Fr4.of q).t (Fr4.of q).y=true:=Kd q
 have h2:¬q.num.sign<0:=by
  have:=Rat.num_nonneg.2 h0
  rw[Int.not_lt]
  exact Int.sign_nonneg_iff.2 this
 unfold eX
 rw[h1,if_neg (by simp),if_neg (by simp[h2])]
 cases put with
 | false=>rfl
 | true=>rw[if_neg (by have:=hl rfl;simp;omega)]
theorem FQ {q:Rat}{y:Int}{vs:List (Int×Rat)}:lP 0 q y vs=vs++(if 0<q then [(y,q)]else []):=by
 unfold lP
 rw[if_pos rfl]
 by_cases h:0<q
 ·rw[if_pos (decide_eq_true ((iT q).2 h)),if_pos h]
 rw[if_neg (by simpa using fun h9=>h ((iT q).1 h9)),if_neg h,List.append_nil]
theorem MU (xs:List Vn) (x:Vn):(xs.flatMap (cA false)).map AV.t++(cA false x).map .t=((xs++[x]).flatMap (cA false)).map .t:=by simp[List.flatMap_append]
theorem Oq {R:Rg}{U:List Ur}{x c:Nat→Nat→Rat}{L:List (Nat×Nat)}{p:Nat×Nat}:R.vns U x c L++[R.vn U x c p]=R.vns U x c (L++[p]):=by simp[Rg.vns]
theorem Ho {R:Rg}{t e:Nat}(h:R.E≤6) (he:e≤R.E):(R.vlk t e).length≤6*t+6:=by
 unfold Rg.vlk
 have h1:=lJ (R:=R) h t
 have h2:=List.length_filter_le (R.isV t) (List.range e)
 rw[List.length_range]at h2
 rw[fE,dB]
 omega
theorem nR {R:Rg}{N k:Nat}(h:R.Ok N) (hk:k≤N):(R.run k).length≤1000:=by
 have gen:∀k:Nat,k≤10→(R.run k).length≤60*k:=by
  intro k
  induction k with
  | zero=>intro _;exact bC _
  | succ k ih=>
   intro hk
   have h1:=ih (by omega)
   have h2:∀(L:List (Nat×Nat)) (V:List Ur),(L.foldl (fun U p=>R.use U p.1 p.2 k) V).length≤V.length+L.length:=by
    intro L
    induction L with
    | nil=>intro V;simp
    | cons q L ih2=>
     intro V
     have h1:=ih2 (R.use V q.1 q.2 k)
     have h2:(R.use V q.1 q.2 k).length≤V.length+1:=Gv
     rw[List.foldl_cons,List.length_cons]
     omega
   have h3:=h2 ((R.vl k).filter (R.may k)) (R.run k)
   have h4:=List.length_filter_le (R.may k) (R.vl k)
   have h5:=lJ (R:=R) h.e k
   show(R.step (R.run k) k).length≤_
   unfold Rg.step
   omega
 have h1:=h.n
 have:=gen k (by omega)
 omega
section
variable {x:Cx}{g:Nat→FV}{ob ob':List (Option Ob)}{Q:Post}{ops:Array Oper}{d:Nat}{ty:TypeId}{pos:String}{af:Array Edge}{gd:Option (Nat×Bool)}
theorem FS {fresh:Bool}{f:FuncId}{args:List FV}{R:List Lt→FV→Prop}{given:List Lt}{K:List Nat}{aa:Array Operand}{ats:Array TypeId}{key:Nat}(hS:nI fresh x.P f [] given args R) (hf:CallOk x.P f) (hK:eQ ob K K given) (hnd:K.Nodup) (ha:kM x.n g K aa.toList args) (hk:eN ob key=true) (hb:∀l r,R l r→l.length=0→(kB key r).isSome=true):
  OS x ⟨some d,.call ⟨.value (.func f),aa,ats⟩,ty,pos,af,gd⟩ g ob K (fun g' ob'=>∃l r v os,R l r∧kB key r=some (v,os)∧g'=bH g d v∧ob'=cE ob K (cC K)++os.map some):=by
 intro cs ts W hR K' Q kk
 have e9:dE []++args++dE []=args:=by simp[dE]
 obtain⟨us0,us,e0,hfst,hcap⟩:=(tZ f:Tz x g (.func f) f [] []) ob cs ts W hR
 unfold Oper.wp
 rw[kV hf e0]
 refine(rS (K1:=[]) (K2:=K) (by rw[e9];exact hS) rfl rfl hK hnd ha hfst hcap hR).mono fun e W' hE=>?_
 obtain⟨v,lent',r,ys,cl,N2,rfl,hr,hl1,hl2,hro,hok,hndy,fin⟩:=hE
 have hb1:=hb _ r hr hl1
 obtain⟨⟨v',os⟩,hbn⟩:=Option.isSome_iff_exists.1 hb1
 obtain⟨csn,e1,e2,e3,e4⟩:=yW (Lx hbn hro) hok hbn
 obtain rfl:=List.eq_nil_of_length_eq_zero hl1
 obtain rfl:=List.eq_nil_of_length_eq_zero hl2
 obtain⟨hN,hfin⟩:=fin [] rfl os csn e1 (fun b=>by rw[e2];exact bC _) e3
 have hk:=Nat.eq_of_beq_eq_true hk
 have hpl:(dS cs K ([]++K.map (co cs))).length=key:=by rw[kH,←hR.len,hk]
 obtain⟨g1,g2⟩:=e4 _ (dS cs K ([]++K.map (co cs))++csn) hN (by simp only[fE]at hpl⊢;omega) (fun i _=>by
  rw[Gz (by omega),hpl,show key+i-key=i by omega])
 obtain⟨m1,m2⟩:=hfin g2
 exact kk _ _ _ _ _ ⟨[],r,v',os,hr,hbn,rfl,rfl⟩ (m1.put d g1) ((m2 (some d)).then_put v)
theorem ZG {late:Nat→Bool}{K fr:List Nat}{fuel:Nat}{listed:Array Bool}{fresh:Bool}{f:FuncId}{given:List Lt}{args:List FV}{r v:FV}{os:List Ob}{aa:Array Operand}{ats:Array TypeId}(i key:Nat) (Kl:List Nat) (hi:ops[i]? =some ⟨some d,.call ⟨.value (.func f),aa,ats⟩,ty,pos,af,gd⟩) (hS:nI fresh x.P f [] given args (aT r)) (hf:CallOk x.P f) (hK:eQ ob Kl Kl given) (ha:kM x.n g Kl aa.toList args) (hke:jA ob (cE ob Kl (cC Kl)++os.map some) K) (k:WD x ops Q late K (d::fr) true fuel (listed.setIfInBounds i true) (bH g d v) (cE ob Kl (cC Kl)++os.map some)) (hr:Region.ready .any ops listed=[i]:=by kernel_rfl) (hw:bI ops x.n g gd=some true:=by rfl) (hk:eN ob key=true:=by rfl) (hnd:Kl.Nodup:=by decide) (hdis:∀k∈K,k∉Kl:=by decide) (hb:kB key r=some (v,os):=by rfl):
  WD x ops Q late K fr true (fuel+1) listed g ob:=by
 refine WO.one hr (El i hi rfl hw (FS hS hf hK hnd ha hk (by rintro _ _ rfl _;rw[hb];rfl)) hdis ?_ ?_)
 ·rintro _ _ ⟨l,r',v',os',rfl,h,rfl,rfl⟩
  rw[hb]at h
  injection h with h
  injection h with h1 h2
  subst h1 h2
  exact⟨⟨_,rfl⟩,gN hke⟩
 rintro _ _ ⟨l,r',v',os',rfl,h,rfl,rfl⟩
 rw[hb]at h
 injection h with h
 injection h with h1 h2
 subst h1 h2
 exact k
end
theorem AH {R:Rg}{U:List Ur}{t:Nat}(h:∀e,e<R.E→dT U t e=0):(List.range R.E).map (fun _=>(0:Rat))=R.by9 U t:=List.map_congr_left fun e he=>(h e (List.mem_range.1 he)).symm
theorem Ot {R:Rg}{U:List Ur}{t e:Nat}(he:e<R.E):(R.by9 U t)[e]? =some (dT U t e):=by rw[tY (by rw[jE];exact he),oD he]
def lR (o:Bool) (l:List Vn):Tr:=.s o 87 18 l.length (l.flatMap (cA false))
def lS (o:Bool) (l:List Ur):Tr:=.s o 109 7 l.length (l.flatMap (dK false))
def lT (o:Bool) (l:List Rl):Tr:=.s o 106 5 l.length (l.flatMap rlt)
def sZ (o:Bool) (l:List Yr):Tr:=.s o 83 6 l.length (l.flatMap yrt)
def aD (l:List (Nat×Nat)) (i:Nat):Nat×Nat:=l.getD i (0,0)
def Rg.lf (R:Rg) (U:List Ur) (x:Nat→Nat→Rat) (p:Nat×Nat):Rat:=R.los p.1 p.2-(cU U p.1 p.2+x p.1 p.2)
def Rg.fw (R:Rg) (t i:Nat):List Ur:=((R.vl t).take i).foldl (fun U p=>if R.may t p then R.use U p.1 p.2 t else U) (R.run t)
def Rg.n3 (R:Rg) (U:List Ur) (t:Nat) (p:Nat×Nat):Rat:=aO (R.lf U (R.ex (R.run t) t) p) [R.base t p.2-dT U t p.2,R.lim t-dZ U t]
def Rg.xk (R:Rg) (t i y e:Nat):Rat:=if(y,e)∈(R.vl (t+1)).take i then R.ex (R.run (t+1)) (t+1) y e else R.ex (R.run (t+1)) t y e
def Rg.ck (R:Rg) (n i y e:Nat):Rat:=if(y,e)∈(R.vl n).take i then R.cl (R.run n) n y e else 0
section
variable {R:Rg}{U:List Ur}{N t i k y e n:Nat}{p:Nat×Nat}
theorem nS {l:List (Nat×Nat)}(h:i<l.length):l[i]? =some (aD l i):=by simp[aD,h]
theorem Dq {l:List (Nat×Nat)}(h:i<l.length):aD l i∈l:=nO h
theorem RU:R.fw t (R.vl t).length=R.run (t+1):=by
 unfold Rg.fw
 rw[fF (bC _)]
 show _=R.step (R.run t) t
 unfold Rg.step
 rw[List.foldl_filter]
theorem Hp (hi:i<(R.vl t).length):R.fw t (i+1)=if R.may t (aD (R.vl t) i)then R.use (R.fw t i) (aD (R.vl t) i).1 (aD (R.vl t) i).2 t else R.fw t i:=by
 unfold Rg.fw
 rw[List.take_add_one,nS hi,List.foldl_append]
 rfl
theorem WN (h:R.Ok N) (ht:t<N):R.Iv N (R.fw t i):=by
 have gen:∀(L:List (Nat×Nat)) (U:List Ur),R.Iv N U→(∀p∈L,p.1<N∧p.2<R.E)→R.Iv N (L.foldl (fun U p=>if R.may t p then R.use U p.1 p.2 t else U) U):=by
  intro L
  induction L with
  | nil=>intro U hU _;exact hU
  | cons p L ih=>
   intro U hU hL
   have h1:=hL p (List.mem_cons_self ..)
   rw[List.foldl_cons]
   refine ih _ ?_ fun q hq=>hL q (List.mem_cons_of_mem _ hq)
   split
   ·exact hU.use h1.1 h1.2 ht
   exact hU
 refine gen _ _ (h.run (by omega)) fun p hp=>?_
 have:=fK.1 (List.mem_of_mem_take hp)
 exact⟨by omega,this.2.1⟩
theorem RW (hm:R.may t (y,e)=false):cU (R.fw t i) y e=cU (R.run t) y e:=by
 have gen:∀(L:List (Nat×Nat)) (U:List Ur),cU (L.foldl (fun U p=>if R.may t p then R.use U p.1 p.2 t else U) U) y e=cU U y e:=by
  intro L
  induction L with
  | nil=>intro U;rfl
  | cons p L ih=>
   intro U
   rw[List.foldl_cons,ih]
   split
   ·rename_i h
    refine zE fun h9=>?_
    have h1:p=(y,e):=Prod.ext (by omega) (by omega)
    rw[h1,hm]at h
    cases h
   rfl
 exact gen _ _
theorem Xb (a b c:Rat):aO a [b,c]=aO a [aO b [c]]:=by
 simp only[aO]
 repeat' split
 all_goals grind
theorem AI (h:R.may t p=true):R.lf U (R.ex (R.run t) t) p=R.left U p.1 p.2:=by
 unfold Rg.may at h
 simp only[Bool.and_eq_true,decide_eq_true_eq]at h
 unfold Rg.lf Rg.ex Rg.left
 rw[if_neg (by omega)]
 grind
theorem RX (hm:R.mem t p.2=true) (h:R.may t p=false):R.lf (R.fw t i) (R.ex (R.run t) t) p=0:=by
 have h2:p.1+R.f<t:=by
  unfold Rg.may at h
  rw[hm,Bool.and_true,decide_eq_false_iff_not]at h
  omega
 unfold Rg.lf Rg.ex
 rw[if_pos h2,RW h]
 unfold Rg.left
 grind
theorem WQ:R.n3 U t p≤R.lf U (R.ex (R.run t) t) p:=by
 unfold Rg.n3
 rw[Xb]
 exact pS _ _
theorem AJ (hi:i<(R.vl t).length) (h:R.mem t (aD (R.vl t) i).2=false):R.fw t (i+1)=R.fw t i:=by
 rw[Hp hi,if_neg (by unfold Rg.may;rw[h];simp)]
theorem WR (hi:i<(R.vl t).length) (h:¬0<R.n3 (R.fw t i) t (aD (R.vl t) i)):R.fw t (i+1)=R.fw t i:=by
 rw[Hp hi]
 split
 ·rename_i hm
  unfold Rg.n3 at h
  rw[AI hm,Xb]at h
  exact nJ h
 rfl
theorem RY (hi:i<(R.vl t).length) (hm:R.mem t (aD (R.vl t) i).2=true) (h:0<R.n3 (R.fw t i) t (aD (R.vl t) i)):R.may t (aD (R.vl t) i)=true∧R.fw t (i+1)=R.fw t i++[⟨((aD (R.vl t) i).1:Nat),((aD (R.vl t) i).2:Nat),(t:Nat),R.n3 (R.fw t i) t (aD (R.vl t) i)⟩]:=by
 have h1:R.may t (aD (R.vl t) i)=true:=by
  cases h2:R.may t (aD (R.vl t) i)
  ·have h3:=WQ (R:=R) (U:=R.fw t i) (t:=t) (p:=aD (R.vl t) i)
   rw[RX hm h2]at h3
   grind
  rfl
 refine⟨h1,?_⟩
 rw[Hp hi,if_pos h1]
 unfold Rg.n3 at h⊢
 rw[AI h1,Xb]at h⊢
 exact kP h
theorem Dr {U':List Ur}{x x' c c':Nat→Nat→Rat}{L:List (Nat×Nat)}(hn:L.Nodup) (hi:i<L.length) (h:∀q∈L,q≠aD L i→R.vn U x c q=R.vn U' x' c' q):(R.vns U x c L).set i (R.vn U' x' c' (aD L i))=R.vns U' x' c' L:=Cy hn (nS hi) h
theorem xA (hn:(R.vl n).Nodup) (hi:i<(R.vl n).length){q:Nat×Nat}:q∈(R.vl n).take (i+1)↔q∈(R.vl n).take i∨q=aD (R.vl n) i:=by
 rw[List.take_add_one,nS hi,List.mem_append]
 simp
theorem FT (hn:(R.vl n).Nodup) (hi:i<(R.vl n).length):aD (R.vl n) i∉(R.vl n).take i:=by
 intro h
 obtain⟨j,hj,e9⟩:=List.mem_take_iff_getElem.1 h
 have h1:=nS hi
 have h2:(R.vl n)[j]? =some (aD (R.vl n) i):=by rw[gG (by omega),e9]
 have h3:(R.vl n)[j]? =(R.vl n)[i]? :=by rw[h1,h2]
 have:=(List.getElem?_inj (by omega) hn).1 h3
 omega
theorem MV:R.xk t 0=R.ex (R.run (t+1)) t:=by
 funext y e
 unfold Rg.xk
 simp
theorem RZ (hp:p∈R.vl (t+1)):R.xk t (R.vl (t+1)).length p.1 p.2=R.ex (R.run (t+1)) (t+1) p.1 p.2:=by
 unfold Rg.xk
 rw[fF (bC _),if_pos hp]
theorem KA {q:Nat×Nat}(hi:i<(R.vl (t+1)).length) (h:q≠aD (R.vl (t+1)) i):R.xk t (i+1) q.1 q.2=R.xk t i q.1 q.2:=by
 unfold Rg.xk
 have h1:=xA (gV (R:=R) (t+1)) hi (q:=q)
 by_cases h2:q∈(R.vl (t+1)).take i
 ·rw[if_pos (h1.2 (.inl h2)),if_pos h2]
 rw[if_neg (fun h3=>(h1.1 h3).elim h2 h),if_neg h2]
theorem Xc (hi:i<(R.vl (t+1)).length):R.xk t i (aD (R.vl (t+1)) i).1 (aD (R.vl (t+1)) i).2=R.ex (R.run (t+1)) t (aD (R.vl (t+1)) i).1 (aD (R.vl (t+1)) i).2:=if_neg (FT (gV (t+1)) hi)
theorem AK (hi:i<(R.vl (t+1)).length):R.xk t (i+1) (aD (R.vl (t+1)) i).1 (aD (R.vl (t+1)) i).2=R.ex (R.run (t+1)) (t+1) (aD (R.vl (t+1)) i).1 (aD (R.vl (t+1)) i).2:=if_pos ((xA (gV (R:=R) (t+1)) hi).2 (.inr rfl))
theorem WS {c:Nat→Nat→Rat}(hi:i<(R.vl (t+1)).length) (h:(aD (R.vl (t+1)) i).1+R.f≠t):R.vns (R.run (t+1)) (R.xk t (i+1)) c (R.vl (t+1))=R.vns (R.run (t+1)) (R.xk t i) c (R.vl (t+1)):=by
 refine List.map_congr_left fun q _=>?_
 have:R.xk t (i+1) q.1 q.2=R.xk t i q.1 q.2:=by
  by_cases hq:q=aD (R.vl (t+1)) i
  ·subst hq
   rw[Xc hi,AK hi]
   unfold Rg.ex
   by_cases h1:(aD (R.vl (t+1)) i).1+R.f<t
   ·rw[if_pos h1,if_pos (by omega)]
   rw[if_neg h1,if_neg (by omega)]
  exact KA hi hq
 unfold Rg.vn
 rw[this]
theorem SA {c:Nat→Nat→Rat}(hi:i<(R.vl (t+1)).length) (h:(aD (R.vl (t+1)) i).1+R.f=t):(R.vns (R.run (t+1)) (R.xk t i) c (R.vl (t+1))).set i ⟨(aD (R.vl (t+1)) i).1,(aD (R.vl (t+1)) i).2,R.los (aD (R.vl (t+1)) i).1 (aD (R.vl (t+1)) i).2,cU (R.run (t+1)) (aD (R.vl (t+1)) i).1 (aD (R.vl (t+1)) i).2,R.lf (R.run (t+1)) (R.xk t i) (aD (R.vl (t+1)) i),c (aD (R.vl (t+1)) i).1 (aD (R.vl (t+1)) i).2⟩=R.vns (R.run (t+1)) (R.xk t (i+1)) c (R.vl (t+1)):=by
 have h1:=Dr (R:=R) (U:=R.run (t+1)) (U':=R.run (t+1)) (x:=R.xk t i) (x':=R.xk t (i+1)) (c:=c) (c':=c) (gV (t+1)) hi fun q _ hq=>by
  unfold Rg.vn
  rw[KA hi hq]
 rw[←h1]
 unfold Rg.vn
 rw[AK hi]
 unfold Rg.lf
 rw[Xc hi]
 unfold Rg.ex
 rw[if_neg (by omega),if_pos (by omega)]
 unfold Rg.left
 rw[show∀a b:Rat,a-(b+0)=a-b from fun a b=>by grind]
theorem MW:R.ck n 0=fun _ _=>0:=by
 funext y e
 unfold Rg.ck
 simp
theorem WT {q:Nat×Nat}(hi:i<(R.vl n).length) (h:q≠aD (R.vl n) i):R.ck n (i+1) q.1 q.2=R.ck n i q.1 q.2:=by
 unfold Rg.ck
 have h1:=xA (gV (R:=R) n) hi (q:=q)
 by_cases h2:q∈(R.vl n).take i
 ·rw[if_pos (h1.2 (.inl h2)),if_pos h2]
 rw[if_neg (fun h3=>(h1.1 h3).elim h2 h),if_neg h2]
theorem SB {U:List Ur}{x:Nat→Nat→Rat}:R.vns U x (R.ck n (R.vl n).length) (R.vl n)=R.vns U x (R.cl (R.run n) n) (R.vl n):=by
 refine List.map_congr_left fun q hq=>?_
 unfold Rg.vn Rg.ck
 rw[fF (bC _),if_pos hq]
theorem MX (hi:i<(R.vl n).length):(R.vns (R.run n) (R.ex (R.run n) n) (R.ck n i) (R.vl n)).set i ⟨(aD (R.vl n) i).1,(aD (R.vl n) i).2,R.los (aD (R.vl n) i).1 (aD (R.vl n) i).2,cU (R.run n) (aD (R.vl n) i).1 (aD (R.vl n) i).2,R.ex (R.run n) n (aD (R.vl n) i).1 (aD (R.vl n) i).2,R.lf (R.run n) (R.ex (R.run n) n) (aD (R.vl n) i)⟩=R.vns (R.run n) (R.ex (R.run n) n) (R.ck n (i+1)) (R.vl n):=by
 have h1:=Dr (R:=R) (U:=R.run n) (U':=R.run n) (x:=R.ex (R.run n) n) (x':=R.ex (R.run n) n) (c:=R.ck n i) (c':=R.ck n (i+1)) (gV n) hi fun q _ hq=>by
  unfold Rg.vn
  rw[WT hi hq]
 rw[←h1]
 unfold Rg.vn
 have h2:R.lf (R.run n) (R.ex (R.run n) n) (aD (R.vl n) i)=R.ck n (i+1) (aD (R.vl n) i).1 (aD (R.vl n) i).2:=by
  unfold Rg.ck
  rw[if_pos ((xA (gV (R:=R) n) hi).2 (.inr rfl))]
  unfold Rg.lf Rg.cl Rg.ex Rg.left
  by_cases h:(aD (R.vl n) i).1+R.f<n
  ·rw[if_pos h,if_neg (by omega)]
   grind
  rw[if_neg h,if_pos (by omega)]
  grind
 rw[h2]
theorem MY:R.rls (R.run t) t++[R.rl (R.run (t+1)) t]=R.rls (R.run (t+1)) (t+1):=by
 unfold Rg.rls
 rw[List.range_succ,List.map_append]
 congr 1
 refine List.map_congr_left fun y hy=>?_
 have hy:=List.mem_range.1 hy
 obtain⟨W,h1,h2⟩:=sC (R:=R) (show t≤t+1 by omega)
 have hz:∀p:Ur→Bool,(∀u∈W,p u=false)→iY (R.run (t+1)) p=iY (R.run t) p:=fun p hp=>by rw[h1,Ao,nN hp];grind
 unfold Rg.rl
 congr 1
 ·exact(hz _ fun u hu=>by have:=h2 u hu;exact decide_eq_false (by omega)).symm
 refine List.map_congr_left fun e _=>?_
 exact(hz _ fun u hu=>by have:=h2 u hu;rw[decide_eq_false (by omega)];rfl).symm
theorem MZ {R:Rg}{N t i:Nat}(h:R.Ok N) (ht:t<N):(R.fw t i).length≤2000:=by
 have gen:∀(L:List (Nat×Nat)) (V:List Ur),(L.foldl (fun U p=>if R.may t p then R.use U p.1 p.2 t else U) V).length≤V.length+L.length:=by
  intro L
  induction L with
  | nil=>intro V;simp
  | cons q L ih=>
   intro V
   rw[List.foldl_cons,List.length_cons]
   split
   ·have h1:=ih (R.use V q.1 q.2 t)
    have h2:(R.use V q.1 q.2 t).length≤V.length+1:=Gv
    omega
   have h1:=ih V
   omega
 have h1:=gen ((R.vl t).take i) (R.run t)
 have h2:=lJ (R:=R) h.e t
 have h3:=nR (R:=R) h (k:=t) (by omega)
 have h4:=h.n
 rw[eJ]at h1
 unfold Rg.fw
 omega
end
theorem Hq {us:List Ur}{k:Nat}(h:k<us.length):us.take (k+1)=us.take k++[bN us k]:=by rw[List.take_add_one,dG h];rfl
def fS (us:List Ur) (ent:Int):Rat:=iY us fun u=>decide (u.e=ent)
theorem Be {us:List Ur}{k:Nat}{ent:Int}(h:k<us.length):fS (us.take (k+1)) ent=if(bN us k).e=ent then fS (us.take k) ent+(bN us k).n else fS (us.take k) ent:=by
 unfold fS
 rw[Hq h,qA]
 simp only[decide_eq_true_eq]
theorem ZH {us:List Ur}{ent:Int}{rw9:List Rl}{vs:List Vn}(hz:∀k,Sz 17179869184 (fS (us.take k) ent)) (hu:∀u∈us,Sz 17179869184 u.n) (hl:us.length≤1073741823):aE false Tryz.prog 15 [] [.agg [.t (cR false rw9),.t (cO false false vs),.t (cF false false us)],.one (tv (.int .i64 ent))] (aT (qF (.of (fS us ent)))):=by
 refine bV Tryz.func15 rfl Tryz.ntmps15 rfl aF rfl fun N9 w9 c0 h0=>?_
 have h00:((0:Int):Rat)=(fS (us.take 0) ent):=by simp[fS,iY,fD]
 refine sq (rl (bx 0 ?_));refine al 1 ?_;refine nl (sq (rl ?_))
 refine ca (eW (z:=0) (by omega) (by omega)) kR ⟨a1 rfl,rfl⟩ (qF (.of ((0:Int):Rat))) ?_
 refine al 2 ?_;refine st ?_;refine nl (sq (sq (rl (o1 ?_))));refine ld ?_;refine o1 ?_;refine o1 ?_;refine nl (bl ?_)
 refine lp (γ:=Nat) (fun s=>bP [(1,.one (tv (.int .i64 ent))),(4,pN 0),(5,pN 1),(10,.one (.t (cF false false us))),(11,iN us.length),(12,iN s)]) (fun s=>[(⟨48,0,[tv (.bool false),tv (.slice none 0 0),tv (.bool false),tv (.slice none 0 0)]⟩:Ob),⟨48,0,((Fr4.of (fS (us.take s) ent)).tr false).map .t⟩].map some) (fun s=>s≤us.length) (fun s=>us.length-s) 0 (Nat.zero_le _) (aP h0 [1,2] ⟨oe rfl rfl,aB (congrArg (fun q:Rat=>some (⟨48,0,((Fr4.of q).tr false).map .t⟩:Ob)) h00),rfl⟩) ?_
 rintro k hk;refine sq (rl (o1 ?_));refine nl (sq ?_);refine bF rfl (fun h1=>?_) (fun h1=>?_)
 ·refine sk (sq (bl (sq (rl (o1 ?_)))))
  refine dV ((dK false) (bN us (k))) (aI (f:=(dK false)) (z:=7) (o:=0) (dA false) (dG (by omega)) (bM rfl) rfl) ?_
  refine al 2 ?_;refine st ?_;refine nl (sq (rl (o1 ?_)));refine ld ?_;refine o1 ?_;refine o1 ?_;refine nl ?_;refine bF rfl (fun h2=>?_) (fun h2=>?_)
  ·refine rl (ld ?_);refine o1 ?_;refine ld ?_
   refine ca (xB (Qn.of (p:=(fS (us.take k) ent)) ((hz k).mono (M:=68719476736) (by omega))) (Qn.of (p:=(bN us (k)).n) ((hu _ (eA (l:=us) (i:=k) (by omega))).mono (M:=68719476736) (by omega)))) Dj ⟨aC rfl,aC rfl,rfl⟩ (qF (.of ((fS (us.take k) ent)+(bN us (k)).n))) ?_
   refine st ?_;refine nl (rl (o1 ?_));refine bB 24 (k+1) ?_
   refine o1 ?_;refine nl ?_;have hst:((fS (us.take k) ent)+(bN us (k)).n)=(fS (us.take (k+1)) ent):=by rw[Be (by omega),if_pos h2]
   exact⟨k+1,by omega,by omega,aP h0 [0,1] ⟨oe rfl rfl,aB (congrArg (fun q:Rat=>some (⟨48,0,((Fr4.of q).tr false).map .t⟩:Ob)) hst),rfl⟩⟩
  refine sk (rl (o1 ?_));refine bB 24 (k+1) ?_
  refine o1 ?_;refine nl ?_;have hst:(fS (us.take k) ent)=(fS (us.take (k+1)) ent):=by rw[Be (by omega),if_neg h2]
  exact⟨k+1,by omega,by omega,aP h0 [0,1] ⟨oe rfl rfl,aB (congrArg (fun q:Rat=>some (⟨48,0,((Fr4.of q).tr false).map .t⟩:Ob)) hst),rfl⟩⟩
 refine ex (sq (rl (ld ?_)));refine st ?_;refine nl (rt ?_)
 exact en (.inl rfl) rfl (bD (.agg (.cons (.id rfl) (.cons (.id rfl) (.cons (.id rfl) (.cons (.id rfl) .nil)))))) (by decide) (fun h=>by cases h) (by rw[fF (by omega)];rfl)
def dJ (fw:Int) (ys:List Yr):Int:=if decide (fw<0)||(decide (40<fw)|| ys.any fun y=> !gW y (aG ys 0).m.length)then 2 else if 40<ys.length then 3 else 0
theorem FU {fw:Int}{ys:List Yr}(hb:∀y∈ys,(∀a∈y.b,a.ok)∧y.l.ok∧y.b.length≤1073741823) (hl:ys.length≤1073741823) (hno:dJ fw ys≠0):aE false Tryz.prog 12 [] [.one (tv (.int .i64 fw)),.one (.t (gT ys))] (aT (.tup [.agg [.t (cR true []),.t (cO true false []),.t (cF true false [])],.one (tv (.int .i64 (dJ fw ys)))])):=by
 refine bV Tryz.func12 rfl Tryz.ntmps12 rfl aF rfl fun N9 w9 c0 h0=>?_
 refine sq (rl (al 0 ?_));refine o1 ?_;refine nl (sq (rl (al 1 ?_)));refine st ?_;refine nl ?_
 refine md (γ:=Unit) (fun _=>bP [(0,.one (tv (.int .i64 fw))),(1,.one (.t (gT ys))),(4,pN 0),(6,pN 1)]) (fun _=>([⟨39,0,[tv (.slice none 0 0),tv (.slice none 0 0),tv (.slice none 0 0)]⟩,⟨3,0,[tv (.int .i64 (((aG ys 0).m.length:Nat):Int))]⟩]:List Ob).map some) (fun _=>True) ?_ fun _ _=>?_
 ·refine sq (rl ?_);(iterate 3 refine o1 ?_);refine nl ?_;refine bF rfl (fun h1=>?_) (fun h1=>?_)
  ·refine rl ?_;(iterate 3 refine o1 ?_);refine dV ([gH (aG ys (0)).m]) (aI (f:=yrt) (z:=6) (o:=0) cL (bR (by omega)) (bM rfl) rfl) ?_
   refine o1 ?_;refine st ?_;refine nl ?_;exact⟨(),trivial,aP h0 [0,1] ⟨oe rfl rfl,oe rfl rfl,rfl⟩⟩
  refine sk ?_
  exact⟨(),trivial,aP h0 [0,1] ⟨oe rfl rfl,oe rfl (by have h9:ys=[]:=(List.eq_nil_of_length_eq_zero (by omega));subst h9;rfl),rfl⟩⟩
 refine sq (bl (sq (WP.sub (Kc (i:=6) (k:=1) (t:=3) (l:=[.v (.int .i64 (((aG ys 0).m.length:Nat):Int))]) rfl rfl rfl (.one .sl)) ?_)));refine rl ?_
 (iterate 3 refine o1 ?_);refine WL.split (t:=25) rfl (fun h2=>?_) (fun h2=>?_)
 ·refine cY ?_;refine cY ?_;refine o1 ?_;refine o1 ?_;(iterate 3 refine cY ?_);refine o1 ?_;refine o1 ?_;refine nl (iC rfl (sq (rl (o1 ?_))))
  refine st ?_;refine o1 ?_;refine nl (rt ?_)
  exact en (.inl rfl) rfl (sX (.cons (.agg (.cons (.nil (t:=62) (z:=5)) (.cons (.nil (t:=64) (z:=18)) (.cons (.nil (t:=58) (z:=7)) .nil)))) (.cons (cX _) .nil))) (by decide) (fun h=>by cases h) (congrArg (fun z:Int=>FV.tup [.agg [.t (cR true []),.t (cO true false []),.t (cF true false [])],.one (tv (.int .i64 z))]) (by simp only[dJ,decide_eq_true h2,Bool.not_true,Bool.not_false,Bool.or_true,Bool.true_or,Bool.false_or,Bool.or_false,Bool.false_eq_true,if_true,if_false,ite_true,ite_false,Bool.and_true,Bool.true_and,Bool.false_and,Bool.and_false,Bool.not_not] <;> first | rfl | (simp;done) | (simp;omega)))
 (iterate 4 refine o1 ?_);refine WL.split (t:=29) rfl (fun h3=>?_) (fun h3=>?_)
 ·(iterate 3 refine cY ?_);refine o1 ?_;refine o1 ?_;refine nl (iC rfl (sq (rl (o1 ?_))));refine st ?_;refine o1 ?_;refine nl (rt ?_)
  exact en (.inl rfl) rfl (sX (.cons (.agg (.cons (.nil (t:=62) (z:=5)) (.cons (.nil (t:=64) (z:=18)) (.cons (.nil (t:=58) (z:=7)) .nil)))) (.cons (cX _) .nil))) (by decide) (fun h=>by cases h) (congrArg (fun z:Int=>FV.tup [.agg [.t (cR true []),.t (cO true false []),.t (cF true false [])],.one (tv (.int .i64 z))]) (by simp only[dJ,decide_eq_false h2,decide_eq_true h3,Bool.not_true,Bool.not_false,Bool.or_true,Bool.true_or,Bool.false_or,Bool.or_false,Bool.false_eq_true,if_true,if_false,ite_true,ite_false,Bool.and_true,Bool.true_and,Bool.false_and,Bool.and_false,Bool.not_not] <;> first | rfl | (simp;done) | (simp;omega)))
 refine o1 ?_;refine o1 ?_
 refine ca (JQ (xs:=ys) (dl:=(fun y=> !gW y (aG ys 0).m.length)) (fd:=36) (fst:=[]) (caps:=[.p false 3 [.v (.int .i64 (((aG ys 0).m.length:Nat):Int))]]) SC (fun y hy=>Zp (hb y hy).1 (hb y hy).2.1 (hb y hy).2.2) hl) SD ⟨a1 rfl,a1 rfl,rfl⟩ (.one (tv (.bool (ys.any (fun y=> !gW y (aG ys 0).m.length))))) ?_
 refine o1 ?_;refine o1 ?_;refine nl ?_;refine qR rfl (fun h4=>?_) (fun h4=>?_)
 ·refine sq (rl (o1 ?_));refine st ?_;refine o1 ?_;refine nl (rt ?_)
  exact en (.inl rfl) rfl (sX (.cons (.agg (.cons (.nil (t:=62) (z:=5)) (.cons (.nil (t:=64) (z:=18)) (.cons (.nil (t:=58) (z:=7)) .nil)))) (.cons (cX _) .nil))) (by decide) (fun h=>by cases h) (congrArg (fun z:Int=>FV.tup [.agg [.t (cR true []),.t (cO true false []),.t (cF true false [])],.one (tv (.int .i64 z))]) (by simp only[dJ,decide_eq_false h2,decide_eq_false h3,h4,Bool.not_true,Bool.not_false,Bool.or_true,Bool.true_or,Bool.false_or,Bool.or_false,Bool.false_eq_true,if_true,if_false,ite_true,ite_false,Bool.and_true,Bool.true_and,Bool.false_and,Bool.and_false,Bool.not_not] <;> first | rfl | (simp;done) | (simp;omega)))
 refine sq (rl ?_);(iterate 4 refine o1 ?_);refine nl ?_;refine bF rfl (fun h5=>?_) (fun h5=>?_)
 ·refine sq (rl (o1 ?_));refine st ?_;refine o1 ?_;refine nl (rt ?_)
  exact en (.inl rfl) rfl (sX (.cons (.agg (.cons (.nil (t:=62) (z:=5)) (.cons (.nil (t:=64) (z:=18)) (.cons (.nil (t:=58) (z:=7)) .nil)))) (.cons (cX _) .nil))) (by decide) (fun h=>by cases h) (congrArg (fun z:Int=>FV.tup [.agg [.t (cR true []),.t (cO true false []),.t (cF true false [])],.one (tv (.int .i64 z))]) (by simp only[dJ,decide_eq_false h2,decide_eq_false h3,h4,decide_eq_true h5,Bool.not_true,Bool.not_false,Bool.or_true,Bool.true_or,Bool.false_or,Bool.or_false,Bool.false_eq_true,if_true,if_false,ite_true,ite_false,Bool.and_true,Bool.true_and,Bool.false_and,Bool.and_false,Bool.not_not] <;> first | rfl | (simp;done) | (simp;omega)))
 refine sk ?_
 exact absurd (show dJ fw ys=0 by unfold dJ;simp only[decide_eq_false h2,decide_eq_false h3,h4,decide_eq_false h5,Bool.not_true,Bool.not_false,Bool.or_true,Bool.true_or,Bool.false_or,Bool.or_false,Bool.false_eq_true,if_true,if_false,ite_true,ite_false,Bool.and_true,Bool.true_and,Bool.false_and,Bool.and_false,Bool.not_not] <;> first | rfl | (simp;done) | (simp;omega)) hno
theorem SE {xs:List Fr4}(hne:0<xs.length) (hx:∀x∈xs,x.ok∧Sz 17179869184 x.q) (hl:xs.length≤1099511627776):aE false Tryz.prog 63 [] [.one (.t (sQ false xs))] (aT (qF (.of (lV (xs.map Fr4.q))))):=by
 refine bV Tryz.func63 rfl Tryz.ntmps63 rfl aF rfl fun N w c0 h0=>?_
 refine sq (rl (al 0 ?_));refine nl (sq (rl (o1 ?_)));refine o1 ?_;refine dV ((cM xs (0)).tr false) (fL xs (k:=0) (by omega)) ?_
 refine ca (pY ⟨(hx _ (eE (by omega))).1,rfl⟩) Hh ⟨aC rfl,rfl⟩ (qF (.of (cM xs (0)).q)) ?_
 refine al 1 ?_;refine st ?_;refine nl (sq (sq (rl (o1 ?_))));refine nl (bl ?_)
 refine lp (γ:=Nat) (fun k=>bP [(0,.one (.t (sQ false xs))),(2,pN 0),(3,pN 1),(4,iN k)]) (fun k=>[(⟨52,0,[tv (.bool false),tv (.slice none 0 0),tv (.bool false),tv (.slice none 0 0)]⟩:Ob),⟨52,0,((Fr4.of (lV ((xs.take k).map Fr4.q))).tr false).map .t⟩].map some) (fun k=>1≤k∧k≤xs.length∧Sz 17179869184 (lV ((xs.take k).map Fr4.q))) (fun k=>xs.length-k) 1 ⟨bC _,hne,by rw[Ke hne];exact(hx _ (eE hne)).2⟩ (aP h0 [0,1] ⟨oe rfl rfl,aB (congrArg (fun q=>some (⟨52,0,((Fr4.of q).tr false).map .t⟩:Ob)) (Ke hne).symm),rfl⟩) fun k hk=>?_
 refine sq (sq (rl ?_));(iterate 4 refine o1 ?_);refine nl ?_;refine bF rfl (fun h1=>?_) (fun h1=>?_)
 ·refine sk (sq (bl (sq ?_)));refine cI [0,1] [] ?_
  refine dv 0 ?_;refine dv 1 ?_;refine dv 2 ?_;refine dD 3 ((cM xs (k)).tr false) (fL xs (k:=k) (by omega)) ?_
  refine aK 4 ?_
  refine aS 5 rfl (RN ⟨(hx _ (eE (by omega))).1,rfl⟩ (Qn.of (p:=(lV ((xs.take k).map Fr4.q))) hk.2.2) (hx _ (eE (by omega))).2 hk.2.2) ZI ⟨aC rfl,aC rfl,rfl⟩ (.one (tv (.int .i64 ((cM xs (k)).q-(lV ((xs.take k).map Fr4.q))).num.sign))) ?_
  refine df 6 ?_;refine aW ?_;refine bF rfl (fun h2=>?_) (fun h2=>?_)
  ·refine rl ?_;(iterate 3 refine o1 ?_);refine dV ((cM xs (k)).tr false) (fL xs (k:=k) (by omega)) ?_
   refine ca (pY ⟨(hx _ (eE (by omega))).1,rfl⟩) Hh ⟨aC rfl,rfl⟩ (qF (.of (cM xs (k)).q)) ?_
   refine st ?_;refine nl (rl (o1 ?_));refine o1 ?_;refine bB 14 (k+1) ?_
   refine o1 ?_;refine nl ?_;have hst:(lV ((xs.take (k+1)).map Fr4.q))=(cM xs k).q:=(Fc hk.1 (by omega)).trans (if_pos ((AM _ _).1 h2))
   exact⟨k+1,by omega,⟨by omega,by omega,by rw[hst];exact(hx _ (eE (by omega))).2⟩,aP h0 [0,1] ⟨oe rfl rfl,aB (congrArg (fun q=>some (⟨52,0,((Fr4.of q).tr false).map .t⟩:Ob)) hst.symm),rfl⟩⟩
  refine sk (rl (o1 ?_));refine o1 ?_;refine bB 14 (k+1) ?_
  refine o1 ?_;refine nl ?_;have hst:(lV ((xs.take (k+1)).map Fr4.q))=(lV ((xs.take k).map Fr4.q)):=(Fc hk.1 (by omega)).trans (if_neg fun h8=>h2 ((AM _ _).2 h8))
  exact⟨k+1,by omega,⟨by omega,by omega,by rw[hst];exact hk.2.2⟩,aP h0 [0,1] ⟨oe rfl rfl,aB (congrArg (fun q=>some (⟨52,0,((Fr4.of q).tr false).map .t⟩:Ob)) hst.symm),rfl⟩⟩
 refine ex (sq (rl (ld ?_)));refine st ?_;refine nl (rt ?_)
 exact en (.inl rfl) rfl (bD (.agg (.cons (.id rfl) (.cons (.id rfl) (.cons (.id rfl) (.cons (.id rfl) .nil)))))) (by decide) (fun h=>by cases h) (by rw[fF (by omega)];rfl)
section
variable {x:Cx}{g:Nat→FV}{ob:List (Option Ob)}{Q:Post}
theorem WP.sln {c:Code}{i t z n:Nat}{o:Bool}{l:List Tr}(hlk:lk x.n g (.tmp i)=.one (.t (.s o t z n l))) (k:n≤9223372036854775807→WP x c g ob Q):WP x c g ob Q:=fun ts W hR=>by
 obtain⟨cs,hR'⟩:=hR
 have h1:=hR'.lk (.tmp i)
 rw[hlk]at h1
 simp only[bO,cD,AR,FR]at h1
 obtain⟨A,c9,_,h2,h3,_⟩:=h1
 exact k (by omega) ts W ⟨cs,hR'⟩
end
def xC (y:Yr) (E:Nat):Bool:=decide ((y.m.length:Int)=(E:Int))&&(decide ((y.b.length:Int)=(E:Int))&&(rM y.l&&decide (0≤y.l.q.num.sign)))
def nT (fw:Int) (ys:List Yr) (k:Nat):Bool:=(decide (0≤fw)&&decide (fw≤40))&&(ys.take k).all fun y=>gW y (aG ys 0).m.length
def xD (fw:Int) (ys:List Yr) (k j:Nat):Bool:=(nT fw ys k&&xC (aG ys k) (aG ys 0).m.length)&&((aG ys k).b.take j).all rM
theorem Kf {fw:Int}{ys:List Yr}:nT fw ys 0=(decide (0≤fw)&&decide (fw≤40)):=by simp[nT]
theorem qV {fw:Int}{ys:List Yr}{k:Nat}:xD fw ys k 0=(nT fw ys k&&xC (aG ys k) (aG ys 0).m.length):=by simp[xD]
theorem Kg {fw:Int}{ys:List Yr}{k j:Nat}(h:j<(aG ys k).b.length):xD fw ys k (j+1)=(xD fw ys k j&&rM (cM (aG ys k).b j)):=by
 have h1:(aG ys k).b.take (j+1)=(aG ys k).b.take j++[cM (aG ys k).b j]:=by
  rw[List.take_add_one,gG h]
  simp[cM,h]
 unfold xD
 rw[h1,List.all_append,List.all_cons,List.all_nil,Bool.and_true,Bool.and_assoc,Bool.and_assoc,Bool.and_assoc]
theorem Xd {y:Yr}{E:Nat}:(xC y E&&y.b.all rM)=gW y E:=by
 unfold xC gW
 rw[show(!(y.b.any fun a=> !rM a))=y.b.all rM by rw[List.any_eq_not_all_not];simp]
 cases decide ((y.m.length:Int)=(E:Int)) <;> cases decide ((y.b.length:Int)=(E:Int)) <;> cases rM y.l <;> cases decide (0≤y.l.q.num.sign) <;> cases y.b.all rM <;> rfl
theorem FW {fw:Int}{ys:List Yr}{k j:Nat}(hk:k<ys.length) (hj:(aG ys k).b.length≤j):xD fw ys k j=nT fw ys (k+1):=by
 have h1:ys.take (k+1)=ys.take k++[aG ys k]:=by
  rw[List.take_add_one,bR hk]
  rfl
 unfold xD nT
 rw[fF hj,h1,List.all_append,List.all_cons,List.all_nil,Bool.and_true,←Xd,Bool.and_assoc,Bool.and_assoc,Bool.and_assoc]
theorem Ou {fw:Int}{ys:List Yr}:(!nT fw ys ys.length)=(decide (fw<0)||(decide (40<fw)|| ys.any fun y=> !gW y (aG ys 0).m.length)):=by
 unfold nT
 rw[List.take_length,show(decide (fw<0))= !decide (0≤fw) by rw[←decide_not];exact decide_eq_decide.2 (by omega),show(decide (40<fw))= !decide (fw≤40) by rw[←decide_not];exact decide_eq_decide.2 (by omega),List.any_eq_not_all_not]
 cases decide (0≤fw) <;> cases decide (fw≤40) <;> simp
theorem Fd {v:Vn}(hl:Sz 1000 v.l) (hu:Sz 1000 v.u) (hx:Sz 1000 v.x):aE false Tryz.prog 34 [] [.agg ((cA false v).map .t)] (aT (qF (.of (v.l-(v.u+v.x))))):=by
 refine bV Tryz.func34 rfl Tryz.ntmps34 rfl aF rfl fun N9 w9 c0 h0=>?_
 refine sq (rl (bx 0 ?_));refine al 1 ?_;refine nl (sq ?_);refine cI [0,1] [8] ?_
 refine dv 0 ?_;refine aK 1 ?_;refine dv 2 ?_;refine aK 3 ?_;refine dv 4 ?_;refine aK 5 ?_
 refine aS 6 rfl (vL (Qn.of (L:=1000) hu) (Qn.of (L:=1000) hx) (hu.mono (by omega)) (hx.mono (by omega))) Hj ⟨aC rfl,aC rfl,rfl⟩ (qF (.of (v.u+v.x))) ?_
 refine aS 7 rfl (oX (Qn.of (L:=1000) hl) (Qn.of (L:=2001) (vB hu hx)) (hl.mono (by omega)) ((vB hu hx).mono (by omega))) wZ ⟨aC rfl,aC rfl,rfl⟩ (qF (.of (v.l-(v.u+v.x)))) ?_
 refine dst 8 ?_;refine aW ?_;refine rt ?_;exact en (.inl rfl) rfl (bD (.agg (.cons (.id rfl) (.cons (.id rfl) (.cons (.id rfl) (.cons (.id rfl) .nil)))))) (by decide) (fun h=>by cases h) (rfl)
theorem Ua {fw:Int}{ys:List Yr}(hb:∀y∈ys,(∀a∈y.b,a.ok)∧y.l.ok∧y.b.length≤1073741823):aE true Tryz.prog 32 [] [.one (tv (.int .i64 fw)),.one (.t (sZ false ys))] (aT (.one (tv (.bool (nT fw ys ys.length))))):=by
 refine bV Tryz.func32 rfl Tryz.ntmps32 rfl aF rfl fun N9 w9 c0 h0=>?_
 refine WP.sln (i:=1) rfl fun hlen=>?_
 refine sq (rl (o1 ?_));refine nl ?_
 refine md (γ:=Unit) (fun _=>bP [(1,.one (.t (sZ false ys))),(5,.one (tv (.bool (nT fw ys 0))))]) (fun _=>([]:List Ob).map some) (fun _=>True) ?_ fun _ _=>?_
 ·refine rl ?_;(iterate 3 refine o1 ?_);refine WL.split (t:=10) rfl (fun h1=>?_) (fun h1=>?_)
  ·(iterate 4 refine o1 ?_);refine nl ?_
   exact⟨(),trivial,iU h0 [] _ _ (by decide) ⟨rfl,uA (by rw[Kf];simp only[decide_eq_true h1,Bool.not_true,Bool.not_false,Bool.or_true,Bool.true_or,Bool.false_or,Bool.or_false,Bool.false_eq_true,if_true,if_false,ite_true,ite_false,Bool.and_true,Bool.true_and,Bool.false_and,Bool.and_false,Bool.not_not] <;> first | rfl | (simp;done) | grind),trivial⟩ rfl⟩
  refine cY ?_;refine cY ?_;refine o1 ?_;refine o1 ?_;refine nl ?_
  exact⟨(),trivial,iU h0 [] _ _ (by decide) ⟨rfl,uA (by rw[Kf];simp only[decide_eq_false h1,Bool.not_true,Bool.not_false,Bool.or_true,Bool.true_or,Bool.false_or,Bool.or_false,Bool.false_eq_true,if_true,if_false,ite_true,ite_false,Bool.and_true,Bool.true_and,Bool.false_and,Bool.and_false,Bool.not_not] <;> first | rfl | (simp;done) | grind),trivial⟩ rfl⟩
 refine sq (sq (rl (o1 ?_)));refine nl (bl ?_)
 refine lp (γ:=Nat) (fun s=>bP [(1,.one (.t (sZ false ys))),(5,.one (tv (.bool (nT fw ys s)))),(6,iN s)]) (fun s=>([]:List Ob).map some) (fun s=>s≤ys.length) (fun s=>ys.length-s) 0 (Nat.zero_le _) (aP h0 [] rfl) ?_
 rintro k hk;refine sq (sq (rl ?_));(iterate 4 refine o1 ?_);refine nl ?_;refine bF rfl (fun h2=>?_) (fun h2=>?_)
 ·refine sk (sq (bl ?_))
  refine md (γ:=Unit) (fun _=>bP [(1,.one (.t (sZ false ys))),(6,iN k),(5,.one (tv (.bool (xD fw ys k 0))))]) (fun _=>([]:List Ob).map some) (fun _=>True) ?_ fun _ _=>?_
  ·refine cI [] [46] ?_
   refine dv 0 ?_;refine dv 1 ?_;refine WD.splitb (t:=21) rfl (fun h3=>?_) (fun h3=>?_)
   ·refine dv 2 ?_;refine dv 3 ?_;refine dv 4 ?_;refine dv 5 ?_
    refine dD 6 ([gH (aG ys (k)).m]) (aI (f:=yrt) (z:=6) (o:=0) cL (bR (by omega)) (bM rfl) rfl) ?_
    refine dv 7 ?_;refine dv 8 ?_;refine dv 9 ?_;refine dv 10 ?_
    refine dD 11 ([gH (aG ys (0)).m]) (aI (f:=yrt) (z:=6) (o:=0) cL (bR (by omega)) (bM rfl) rfl) ?_
    refine dv 12 ?_;refine dv 13 ?_;refine dv 14 ?_;refine dv 15 ?_;refine WD.split (t:=35) rfl rfl (fun h4=>?_) (fun h4=>?_)
    ·refine dv 16 ?_;refine dv 17 ?_;refine dv 18 ?_;refine dv 19 ?_
     refine dD 20 ([sQ false (aG ys (k)).b]) (aI (f:=yrt) (z:=6) (o:=1) cL (bR (by omega)) (bM rfl) rfl) ?_
     refine dv 21 ?_;refine dv 22 ?_;refine dv 23 ?_;refine dv 24 ?_
     refine dD 25 ([gH (aG ys (0)).m]) (aI (f:=yrt) (z:=6) (o:=0) cL (bR (by omega)) (bM rfl) rfl) ?_
     refine dv 26 ?_;refine dv 27 ?_;refine dv 28 ?_;refine dv 29 ?_;refine WD.split (t:=49) rfl rfl (fun h5=>?_) (fun h5=>?_)
     ·refine dv 30 ?_;refine dv 31 ?_;refine dv 32 ?_;refine dv 33 ?_
      refine dD 34 ((aG ys (k)).l.tr false) (aI (f:=yrt) (z:=6) (o:=2) cL (bR (by omega)) (bM rfl) rfl) ?_
      refine aS 35 rfl (Dm (a:=(aG ys (k)).l) (p:=(aG ys (k)).l.q) ⟨(hb _ (fP (by omega))).2.1,rfl⟩) FJ ⟨aC rfl,rfl⟩ (.one (tv (.bool (rM (aG ys (k)).l)))) ?_
      refine df 36 ?_;refine df 37 ?_;refine WD.splitb (t:=57) rfl (fun h6=>?_) (fun h6=>?_)
      ·refine dv 38 ?_;refine dv 39 ?_;refine dv 40 ?_;refine dv 41 ?_
       refine dD 42 ((aG ys (k)).l.tr false) (aI (f:=yrt) (z:=6) (o:=2) cL (bR (by omega)) (bM rfl) rfl) ?_
       refine aS 43 rfl (Bb (a:=(aG ys (k)).l) (p:=(aG ys (k)).l.q) ⟨(hb _ (fP (by omega))).2.1,rfl⟩) Xa ⟨aC rfl,rfl⟩ (.one (tv (.int .i64 (aG ys (k)).l.q.num.sign))) ?_
       refine df 44 ?_;refine df 45 ?_;refine dI 46 ?_
       refine aW ?_
       exact⟨(),trivial,iU h0 [] _ _ (by decide) ⟨rfl,rfl,uA (by rw[qV];unfold xC;simp only[decide_eq_true h2,h3,decide_eq_true h4,decide_eq_true h5,h6,ge_iff_le,Bool.not_true,Bool.not_false,Bool.or_true,Bool.true_or,Bool.false_or,Bool.or_false,Bool.false_eq_true,if_true,if_false,ite_true,ite_false,Bool.and_true,Bool.true_and,Bool.false_and,Bool.and_false,Bool.not_not] <;> first | rfl | (simp;done) | grind),trivial⟩ rfl⟩
      refine aZ 38 ?_;refine aZ 39 ?_;refine aZ 40 ?_;refine aZ 41 ?_;refine aZ 42 ?_;refine aZ 43 ?_;refine aZ 44 ?_;refine df 45 ?_
      refine dI 46 ?_
      refine aW ?_
      exact⟨(),trivial,iU h0 [] _ _ (by decide) ⟨rfl,rfl,uA (by rw[qV];unfold xC;simp only[decide_eq_true h2,h3,decide_eq_true h4,decide_eq_true h5,h6,ge_iff_le,Bool.not_true,Bool.not_false,Bool.or_true,Bool.true_or,Bool.false_or,Bool.or_false,Bool.false_eq_true,if_true,if_false,ite_true,ite_false,Bool.and_true,Bool.true_and,Bool.false_and,Bool.and_false,Bool.not_not] <;> first | rfl | (simp;done) | grind),trivial⟩ rfl⟩
     refine aZ 30 ?_;refine aZ 31 ?_;refine aZ 32 ?_;refine aZ 33 ?_;refine aZ 34 ?_;refine aZ 35 ?_;refine dv 36 ?_;refine dv 37 ?_;refine aZ 38 ?_;refine aZ 39 ?_
     refine aZ 40 ?_;refine aZ 41 ?_;refine aZ 42 ?_;refine aZ 43 ?_;refine aZ 44 ?_;refine dv 45 ?_
     refine dI 46 ?_
     refine aW ?_
     exact⟨(),trivial,iU h0 [] _ _ (by decide) ⟨rfl,rfl,uA (by rw[qV];unfold xC;simp only[decide_eq_true h2,h3,decide_eq_true h4,decide_eq_false h5,ge_iff_le,Bool.not_true,Bool.not_false,Bool.or_true,Bool.true_or,Bool.false_or,Bool.or_false,Bool.false_eq_true,if_true,if_false,ite_true,ite_false,Bool.and_true,Bool.true_and,Bool.false_and,Bool.and_false,Bool.not_not] <;> first | rfl | (simp;done) | grind),trivial⟩ rfl⟩
    refine aZ 16 ?_;refine aZ 17 ?_;refine aZ 18 ?_;refine aZ 19 ?_;refine aZ 20 ?_;refine aZ 21 ?_;refine aZ 22 ?_;refine aZ 23 ?_;refine aZ 24 ?_;refine aZ 25 ?_
    refine aZ 26 ?_;refine aZ 27 ?_;refine dv 28 ?_;refine dv 29 ?_;refine aZ 30 ?_;refine aZ 31 ?_;refine aZ 32 ?_;refine aZ 33 ?_;refine aZ 34 ?_;refine aZ 35 ?_
    refine dv 36 ?_;refine dv 37 ?_;refine aZ 38 ?_;refine aZ 39 ?_;refine aZ 40 ?_;refine aZ 41 ?_;refine aZ 42 ?_;refine aZ 43 ?_;refine aZ 44 ?_;refine dv 45 ?_
    refine dI 46 ?_
    refine aW ?_
    exact⟨(),trivial,iU h0 [] _ _ (by decide) ⟨rfl,rfl,uA (by rw[qV];unfold xC;simp only[decide_eq_true h2,h3,decide_eq_false h4,ge_iff_le,Bool.not_true,Bool.not_false,Bool.or_true,Bool.true_or,Bool.false_or,Bool.or_false,Bool.false_eq_true,if_true,if_false,ite_true,ite_false,Bool.and_true,Bool.true_and,Bool.false_and,Bool.and_false,Bool.not_not] <;> first | rfl | (simp;done) | grind),trivial⟩ rfl⟩
   refine aZ 2 ?_;refine aZ 3 ?_;refine aZ 4 ?_;refine aZ 5 ?_;refine aZ 6 ?_;refine aZ 7 ?_;refine aZ 8 ?_;refine aZ 9 ?_;refine aZ 10 ?_;refine aZ 11 ?_;refine aZ 12 ?_
   refine aZ 13 ?_;refine dv 14 ?_;refine dv 15 ?_;refine aZ 16 ?_;refine aZ 17 ?_;refine aZ 18 ?_;refine aZ 19 ?_;refine aZ 20 ?_;refine aZ 21 ?_;refine aZ 22 ?_
   refine aZ 23 ?_;refine aZ 24 ?_;refine aZ 25 ?_;refine aZ 26 ?_;refine aZ 27 ?_;refine dv 28 ?_;refine dv 29 ?_;refine aZ 30 ?_;refine aZ 31 ?_;refine aZ 32 ?_
   refine aZ 33 ?_;refine aZ 34 ?_;refine aZ 35 ?_;refine dv 36 ?_;refine dv 37 ?_;refine aZ 38 ?_;refine aZ 39 ?_;refine aZ 40 ?_;refine aZ 41 ?_;refine aZ 42 ?_
   refine aZ 43 ?_;refine aZ 44 ?_;refine dv 45 ?_;refine dI 46 ?_
   refine aW ?_
   exact⟨(),trivial,iU h0 [] _ _ (by decide) ⟨rfl,rfl,uA (by rw[qV];unfold xC;simp only[decide_eq_true h2,h3,ge_iff_le,Bool.not_true,Bool.not_false,Bool.or_true,Bool.true_or,Bool.false_or,Bool.or_false,Bool.false_eq_true,if_true,if_false,ite_true,ite_false,Bool.and_true,Bool.true_and,Bool.false_and,Bool.and_false,Bool.not_not] <;> first | rfl | (simp;done) | grind),trivial⟩ rfl⟩
  refine sq ?_;have hbl:=(hb _ (fP (l:=ys) (i:=k) (by omega))).2.2
  refine rl (o1 ?_);refine nl (bl ?_)
  refine lp (γ:=Nat) (fun s=>bP [(1,.one (.t (sZ false ys))),(5,.one (tv (.bool (xD fw ys k s)))),(6,iN k),(7,iN s)]) (fun s=>([]:List Ob).map some) (fun s=>s≤(aG ys (k)).b.length) (fun s=>(aG ys (k)).b.length-s) 0 (Nat.zero_le _) (aP h0 [] rfl) ?_
  rintro j hj;refine sq (sq (rl ?_));(iterate 5 refine o1 ?_)
  refine dV ([sQ false (aG ys (k)).b]) (aI (f:=yrt) (z:=6) (o:=1) cL (bR (by omega)) (bM rfl) rfl) ?_
  refine o1 ?_;refine o1 ?_;refine nl ?_;refine bF rfl (fun h7=>?_) (fun h7=>?_)
  ·refine sk (sq (bl (rl (o1 ?_))));refine o1 ?_;refine WL.splitb (t:=77) rfl (fun h8=>?_) (fun h8=>?_)
   ·(iterate 4 refine o1 ?_);refine dV ([sQ false (aG ys (k)).b]) (aI (f:=yrt) (z:=6) (o:=1) cL (bR (by omega)) (bM rfl) rfl) ?_
    refine o1 ?_;refine o1 ?_;refine dV ((cM (aG ys (k)).b (j)).tr false) (fL (aG ys (k)).b (k:=j) (by omega)) ?_
    refine ca (Dm (a:=(cM (aG ys (k)).b (j))) (p:=(cM (aG ys (k)).b (j)).q) ⟨((hb _ (fP (by omega))).1 _ (eE (by omega))),rfl⟩) FJ ⟨aC rfl,rfl⟩ (.one (tv (.bool (rM (cM (aG ys (k)).b (j)))))) ?_
    refine o1 ?_;refine o1 ?_;refine nl (rl (o1 ?_));refine o1 ?_;refine bB 75 (j+1) ?_
    refine o1 ?_;refine nl ?_
    exact⟨j+1,by omega,by omega,iU h0 [] _ _ (by decide) ⟨rfl,uA (by rw[Kg (by omega)];simp only[decide_eq_true h7,h8,Bool.not_true,Bool.not_false,Bool.or_true,Bool.true_or,Bool.false_or,Bool.or_false,Bool.false_eq_true,if_true,if_false,ite_true,ite_false,Bool.and_true,Bool.true_and,Bool.false_and,Bool.and_false,Bool.not_not] <;> first | rfl | (simp;done) | grind),rfl,oG (by omega),trivial⟩ rfl⟩
   (iterate 9 refine cY ?_);refine o1 ?_;refine o1 ?_;refine nl (rl (o1 ?_));refine o1 ?_
   refine bB 75 (j+1) ?_
   refine o1 ?_;refine nl ?_
   exact⟨j+1,by omega,by omega,iU h0 [] _ _ (by decide) ⟨rfl,uA (by rw[Kg (by omega)];simp only[decide_eq_true h7,h8,Bool.not_true,Bool.not_false,Bool.or_true,Bool.true_or,Bool.false_or,Bool.or_false,Bool.false_eq_true,if_true,if_false,ite_true,ite_false,Bool.and_true,Bool.true_and,Bool.false_and,Bool.and_false,Bool.not_not] <;> first | rfl | (simp;done) | grind),rfl,oG (by omega),trivial⟩ rfl⟩
  refine ex (rl (o1 ?_));refine o1 ?_;refine bB 19 (k+1) ?_
  refine o1 ?_;refine nl ?_;exact⟨k+1,by omega,by omega,iU h0 [] _ _ (by decide) ⟨rfl,uA (FW (j:=j) (by omega) (by omega)).symm,oG (by omega),trivial⟩ rfl⟩
 refine ex (sq (rl (o1 ?_)));refine o1 ?_;refine nl (rt ?_);exact gO (.inl rfl) rfl (by rw[show k=ys.length by omega])
end Go.Proofs.YtbbabfkgdnkehaaGreat
