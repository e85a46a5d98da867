/- Part 12 of a proof: B6 to Ws. -/
import Derived.Test.YtbbabfkgdnkehaaGreatM11
import Derived.Test.YtbbabfkgdnkehaaGreatM7
import Derived.Test.YtbbabfkgdnkehaaGreatM10
import Derived.Test.YtbbabfkgdnkehaaGreatM8
import Derived.Test.YtbbabfkgdnkehaaGreatM9
import Derived.Test.YtbbabfkgdnkehaaGreatM5
set_option maxRecDepth 100000
set_option linter.unusedVariables false
set_option linter.unusedSimpArgs false
namespace Go.Proofs.YtbbabfkgdnkehaaGreat
open Go Go.RowKit
theorem Xu {y b:Int}{q:Rat}:aF true Tryz.prog 104 [] [.agg ((cL false (y,q)).map .t),.one (.t (.p false 3 [.v (.int .i64 b)]))] (aU (.one (tv (.bool (decide (y<b)))))):=by
 refine bX Tryz.func104 rfl Tryz.ntmps104 rfl aB rfl fun N w c0 h0=>?_
 refine WP.sub (Lm (i:=1) rfl rfl) ?_;refine sq (rl (bx 0 ?_));refine o1 ?_;refine nl (sq (rl (o1 ?_)));refine ld ?_
 refine dT ([.v (.int .i64 b)]) rfl ?_;refine o1 ?_;refine o1 ?_;refine nl (rt ?_);exact en (.inl rfl) rfl (aY (cM _)) (by decide) (fun _=>trivial) rfl
theorem PD {y b:Int}{q:Rat}:aF true Tryz.prog 107 [] [.agg ((cL false (y,q)).map .t),.one (.t (.p false 170 [.f 104 [] [.p false 3 [.v (.int .i64 b)]]]))] (aU (.one (tv (.bool (!decide (y<b)))))):=by
 refine bX Tryz.func107 rfl Tryz.ntmps107 rfl aB rfl fun N w c0 h0=>?_
 refine WP.sub (Lm (i:=1) rfl rfl) ?_;refine sq (rl (bx 0 ?_));refine o1 ?_;refine nl (sq (rl ?_))
 refine dT ([.f 104 [] [.p false 3 [.v (.int .i64 b)]]]) rfl ?_;refine ld ?_
 refine ce 1 [.agg [tv (.int .i64 y),tv (.bool (aS q.num)),.t (sU false (dg 4294967296 q.num.natAbs)),tv (.bool false),.t (sU false (dg 4294967296 q.den))]] rfl (Xu (y:=y) (q:=q) (b:=b)) HK ⟨rfl,rfl⟩ ?_
 refine o1 ?_;refine o1 ?_;refine nl (rt ?_);exact en (.inl rfl) rfl (aY (cM _)) (by decide) (fun _=>trivial) rfl
theorem DD {vs:List (Int×Rat)}{last b:Int}{put:Bool}(hl:vs.length≤1073741823) (hz:∀x∈vs,Sz 68719476736 x.2):aF false Tryz.prog 72 [⟨137,0,[.t (sR 102 vs),tv (.int .i64 last),tv (.bool put)]⟩] [.one (.pt 0 0),.one (tv (.int .i64 b))] (Rt [⟨137,0,[.t (sR 102 (dX (fun x:Int×Rat=>decide (x.1<b)) vs)),tv (.int .i64 last),tv (.bool put)]⟩] (.one (.t (sO 102 (dX (fun x:Int×Rat=> !decide (x.1<b)) vs))))):=by
 refine mS Tryz.func72 rfl Tryz.ntmps72 rfl aB rfl fun N M w c0 h0=>?_
 refine WP.sub (nQ (j:=0) (key:=1) (p:=0) (e:=102) (z:=5) (n:=vs.length) (trs:=vs.flatMap (cL false)) rfl rfl rfl rfl rfl) ?_;refine sq (rl (bx 2 ?_))
 refine WL.sub (Ht (i:=3) (k:=2) (t:=3) (l:=[.v (.int .i64 b)]) rfl rfl rfl (.one .sl)) ?_;refine o1 ?_;refine nl (sq (sq (rl (o1 ?_))));refine o1 ?_
 refine nl (fS rfl (sk (sq (rl (o1 ?_)))));refine al 3 ?_;refine st ?_
 refine WL.sub (Ht (i:=5) (k:=3) (t:=170) (l:=[.f 104 [] [.p false 3 [.v (.int .i64 b)]]]) rfl rfl rfl (.one .sl)) ?_;refine nl (sq (rl ?_));(iterate 4 refine o1 ?_)
 refine ld ?_;refine cl 4 [1] (DC hl) UL ⟨aC rfl,rfl⟩ ⟨rfl,rfl⟩ (ok:=[some ⟨102,5,dQ vs⟩]) ⟨aC rfl,rfl⟩ ?_;refine o1 ?_;refine bx 5 ?_;refine o1 ?_;refine nl (sq ?_)
 refine rl (o1 ?_);refine o1 ?_
 refine WL.sub (gS (j:=5) (k:=4) (p:=0) (n:=vs.length) (trs:=vs.flatMap (cL false)) rfl rfl rfl rfl rfl (aN _ _ (bI false _)) (bI false _) rfl) ?_
 refine cl 6 [5] (zR (t0:=135) (rest:=[]) (dl:=(fun x:Int×Rat=> !decide (x.1<b))) (fst:=[]) (caps:=[.p false 170 [.f 104 [] [.p false 3 [.v (.int .i64 b)]]]]) UM (fun x _=>PD (y:=x.1) (q:=x.2)) hl) Jn ⟨oe rfl rfl,rfl⟩ ⟨rfl,rfl,rfl⟩ (ok:=[some ⟨135,0,[.t (sR 102 (dX (fun x:Int×Rat=> !decide (x.1<b)) vs))]⟩]) ⟨oe rfl rfl,rfl⟩ ?_
 refine nl (sq ?_)
 refine WP.sub (gS (j:=0) (k:=1) (p:=0) (n:=vs.length) (trs:=vs.flatMap (cL false)) rfl rfl rfl rfl rfl (aN _ _ (bI false _)) (bI false _) rfl) ?_
 refine WP.sub (Lm (i:=5) rfl rfl) ?_;refine rd [5] (fun i=>[].contains i) mixed ?_
 refine dv 0 ?_;refine dv 1 ?_;refine dv 2 ?_;refine eV 3 ([.f 104 [] [.p false 3 [.v (.int .i64 b)]]]) rfl ?_
 refine Qt 4 6 [0] rfl (zR (t0:=137) (rest:=[.v (.int .i64 last),.v (.bool put)]) (dl:=(fun x:Int×Rat=>decide (x.1<b))) (fst:=[]) (caps:=[.p false 3 [.v (.int .i64 b)]]) HK (fun x _=>Xu (y:=x.1) (q:=x.2)) hl) Jn ⟨oe rfl rfl,rfl⟩ ⟨rfl,rfl,rfl⟩ (ok:=[some ⟨137,0,[.t (sR 102 (dX (fun x:Int×Rat=>decide (x.1<b)) vs)),tv (.int .i64 last),tv (.bool put)]⟩]) ⟨oe rfl rfl,rfl⟩ ⟨rfl,trivial⟩ ?_
 refine bO ?_;refine sq (rl (o1 ?_))
 refine gZ 6 (Xo (vs:=(dX (fun x:Int×Rat=> !decide (x.1<b)) vs)) (rest:=[]) (fun x hx=>hz x (List.mem_filter.1 hx).1) (Nat.le_trans (List.length_filter_le _ _) hl)) OY ⟨xC rfl (.pe (trs:=[sR 102 (dX (fun x:Int×Rat=> !decide (x.1<b)) vs)]) rfl rfl rfl (by simp[rdTL,mQ,sR,sV,zT])),rfl⟩ ?_
 refine o1 ?_;refine nl (rt ?_)
 exact gL (lent':=[⟨137,0,[.t (sR 102 (dX (fun x:Int×Rat=>decide (x.1<b)) vs)),tv (.int .i64 last),tv (.bool put)]⟩]) (.inl rfl) rfl (aY (.one (.sl (trs:=(dX (fun x:Int×Rat=> !decide (x.1<b)) vs).flatMap (cL true)) rfl rfl (aN _ _ (bI true _)) (bI true _)))) (by decide) (by simp) ⟨⟨rfl,rfl⟩,trivial⟩ ⟨rfl,trivial⟩ ⟨rfl,trivial⟩ (fun h=>by cases h) ⟨rfl,rfl⟩
theorem PE {vs:List (Int×Rat)}{last y:Int}{put:Bool}{a:Fr4}{q:Rat}(ha:Qn a q) (hl:vs.length≤1073741822):aF false Tryz.prog 71 [⟨137,0,[.t (sR 102 vs),tv (.int .i64 last),tv (.bool put)]⟩,⟨113,1,(aI a.x).map .t⟩,⟨113,1,(aI a.y).map .t⟩] [.one (.pt 0 0),.one (tv (.int .i64 y)),.agg [tv (.bool a.s),.sl 1 0 a.x.length,tv (.bool a.t),.sl 2 0 a.y.length]] (Rt [⟨137,0,[.t (sR 102 (kC (eG (bQ a.s a.x a.t a.y) q y last put) q y vs)),tv (.int .i64 (yB (eG (bQ a.s a.x a.t a.y) q y last put) y last)),tv (.bool (yC (eG (bQ a.s a.x a.t a.y) q y last put) put))]⟩,⟨113,1,(aI a.x).map .t⟩,⟨113,1,(aI a.y).map .t⟩] (.one (tv (.int .i64 (eG (bQ a.s a.x a.t a.y) q y last put))))):=by
 refine mS Tryz.func71 rfl Tryz.ntmps71 rfl aB rfl fun N M w c0 h0=>?_
 refine WP.sub (nQ (j:=0) (key:=3) (p:=0) (e:=102) (z:=5) (n:=vs.length) (trs:=vs.flatMap (cL false)) rfl rfl rfl rfl rfl) ?_;refine sq (rl (bx 4 ?_));refine o1 ?_
 refine nl (sq (bl (sq (rl ?_))));(iterate 3 refine o1 ?_);refine nl (fS rfl (sq (rl (ld ?_))))
 refine ca (Ll ha.1) CX ⟨oH rfl (.cons .t (.cons (.sl rfl rfl (aN _ _ rfl) (aP _)) (.cons .t (.cons (.sl rfl rfl (aN _ _ rfl) (aP _)) .nil)))),rfl⟩ (.one (tv (.bool (bQ a.s a.x a.t a.y)))) ?_
 refine WL.splitb (t:=12) rfl (fun h1=>?_) (fun h1=>?_)
 ·refine o1 ?_;refine o1 ?_;refine ld ?_
  refine ca (nN ha) vO ⟨oH rfl (.cons .t (.cons (.sl rfl rfl (aN _ _ rfl) (aP _)) (.cons .t (.cons (.sl rfl rfl (aN _ _ rfl) (aP _)) .nil)))),rfl⟩ (.one (tv (.int .i64 q.num.sign))) ?_
  (iterate 3 refine o1 ?_);refine nl ?_;refine bH rfl (fun h2=>?_) (fun h2=>?_)
  ·refine sq (rl ?_)
   refine WL.sub (gS (j:=0) (k:=3) (p:=0) (n:=vs.length) (trs:=vs.flatMap (cL false)) rfl rfl rfl rfl rfl (aN _ _ (bI false _)) (bI false _) rfl) ?_;refine o1 ?_
   refine nl (rt ?_);have hpe:(eG (bQ a.s a.x a.t a.y) q y last put)=2:=by unfold eG;rw[h1,decide_eq_true h2];rfl
   exact gL (lent':=[⟨137,0,[.t (sR 102 (kC (eG (bQ a.s a.x a.t a.y) q y last put) q y vs)),tv (.int .i64 (yB (eG (bQ a.s a.x a.t a.y) q y last put) y last)),tv (.bool (yC (eG (bQ a.s a.x a.t a.y) q y last put) put))]⟩,⟨113,1,(aI a.x).map .t⟩,⟨113,1,(aI a.y).map .t⟩]) (.inl rfl) rfl (aY (cM _)) (by decide) (fun _ h=>by cases h) ⟨⟨rfl,rfl⟩,⟨rfl,rfl⟩,⟨rfl,rfl⟩,trivial⟩ ⟨(by rw[hpe];rfl),rfl,rfl,trivial⟩ ⟨rfl,cE _,cE _,trivial⟩ (fun h=>by cases h) ⟨rfl,by rw[hpe]⟩
  refine sq (rl ?_);(iterate 3 refine o1 ?_);refine ld ?_;refine o1 ?_;refine WL.splitb (t:=24) rfl (fun h3=>?_) (fun h3=>?_)
  ·(iterate 4 refine o1 ?_);refine ld ?_;(iterate 3 refine o1 ?_);refine nl ?_;refine bH rfl (fun h4=>?_) (fun h4=>?_)
   ·refine sq (rl ?_)
    refine WL.sub (gS (j:=0) (k:=3) (p:=0) (n:=vs.length) (trs:=vs.flatMap (cL false)) rfl rfl rfl rfl rfl (aN _ _ (bI false _)) (bI false _) rfl) ?_
    refine o1 ?_;refine nl (rt ?_);have hpe:(eG (bQ a.s a.x a.t a.y) q y last put)=4:=by unfold eG;rw[h1,decide_eq_false h2,h3,decide_eq_true h4];rfl
    exact gL (lent':=[⟨137,0,[.t (sR 102 (kC (eG (bQ a.s a.x a.t a.y) q y last put) q y vs)),tv (.int .i64 (yB (eG (bQ a.s a.x a.t a.y) q y last put) y last)),tv (.bool (yC (eG (bQ a.s a.x a.t a.y) q y last put) put))]⟩,⟨113,1,(aI a.x).map .t⟩,⟨113,1,(aI a.y).map .t⟩]) (.inl rfl) rfl (aY (cM _)) (by decide) (fun _ h=>by cases h) ⟨⟨rfl,rfl⟩,⟨rfl,rfl⟩,⟨rfl,rfl⟩,trivial⟩ ⟨(by rw[hpe];rfl),rfl,rfl,trivial⟩ ⟨rfl,cE _,cE _,trivial⟩ (fun h=>by cases h) ⟨rfl,by rw[hpe]⟩
   refine sk (sq (rl ?_));(iterate 5 refine o1 ?_);refine st ?_;refine o1 ?_;refine o1 ?_;refine st ?_;refine nl (sq (sq ?_))
   obtain rfl:=(ha.right h1).symm
   refine rl (ld ?_)
   refine ca (nN ha) vO ⟨oH rfl (.cons .t (.cons (.sl rfl rfl (aN _ _ rfl) (aP _)) (.cons .t (.cons (.sl rfl rfl (aN _ _ rfl) (aP _)) .nil)))),rfl⟩ (.one (tv (.int .i64 q.num.sign))) ?_
   refine o1 ?_;refine nl ?_;refine bH rfl (fun h5=>?_) (fun h5=>?_)
   ·refine rd [0,4] (fun i=>[12,13,14,15].contains i) mixed ?_
    refine dv 0 ?_;refine dv 1 ?_;refine dv 2 ?_;refine dv 3 ?_;refine dv 4 ?_;refine aO 5 ?_;refine dv 6 ?_;refine aO 7 ?_;refine dv 8 ?_
    refine bU 9 rfl (tX (y:=y) ha) Dl ⟨oH rfl (.cons .t (.cons .t (.cons (.sl rfl rfl (aN _ _ rfl) (aP _)) (.cons .t (.cons (.sl rfl rfl (aN _ _ rfl) (aP _)) .nil))))),rfl⟩ (.agg ((cL false (y,q)).map .t)) ?_
    refine jH (key:=5) 10 (by kernel_rfl) rfl rfl aB rfl ⟨rfl,rfl,trivial⟩ ?_
    refine jY (j:=6) (n:=vs.length) (l:=dQ vs) 11 rfl aB rfl rfl rfl (.sl rfl (lG _)) (.sl rfl rfl rfl) rfl rfl (by omega) (by omega) rfl ⟨rfl,rfl,trivial⟩ rfl (by kernel_rfl) rfl ?_
    refine eE 12 (by kernel_rfl) rfl rfl aB rfl (by trivial) ?_ (fun h=>by first | rfl | cases h)
    refine eE 13 (by kernel_rfl) rfl rfl aB rfl (by trivial) ?_ (fun h=>by first | rfl | cases h)
    refine eE 14 (by kernel_rfl) rfl rfl aB rfl (by trivial) ?_ (fun h=>by first | rfl | cases h)
    refine dst 15 ?_;refine bO ?_;refine sq (rl ?_)
    refine WL.sub (gS (j:=0) (k:=6) (p:=0) (n:=vs.length+1) (trs:=(vs++[(y,q)]).flatMap (cL false)) rfl rfl rfl (congrArg (fun l=>some (⟨102,5,l⟩:Ob)) (Lw vs (y,q))) rfl (aN _ _ (by rw[bI,List.length_append];rfl)) (by rw[bI,List.length_append];rfl) rfl) ?_
    refine o1 ?_;refine nl (rt ?_)
    have hpe:(eG (bQ (Fr4.of q).s (Fr4.of q).x (Fr4.of q).t (Fr4.of q).y) q y last put)=0:=by unfold eG;rw[h1,decide_eq_false h2,h3,decide_eq_false h4];rfl
    have hpl:kC 0 q y vs=(vs++[(y,q)]):=by unfold kC;rw[decide_eq_true h5];rfl
    exact gL (lent':=[⟨137,0,[.t (sR 102 (kC (eG (bQ (Fr4.of q).s (Fr4.of q).x (Fr4.of q).t (Fr4.of q).y) q y last put) q y vs)),tv (.int .i64 (yB (eG (bQ (Fr4.of q).s (Fr4.of q).x (Fr4.of q).t (Fr4.of q).y) q y last put) y last)),tv (.bool (yC (eG (bQ (Fr4.of q).s (Fr4.of q).x (Fr4.of q).t (Fr4.of q).y) q y last put) put))]⟩,⟨113,1,(aI (Fr4.of q).x).map .t⟩,⟨113,1,(aI (Fr4.of q).y).map .t⟩]) (.inl rfl) rfl (aY (cM _)) (by decide) (fun _ h=>by cases h) ⟨⟨rfl,rfl⟩,⟨rfl,rfl⟩,⟨rfl,rfl⟩,trivial⟩ ⟨(by rw[hpe,hpl];rw[show sR 102 (vs++[(y,q)])=.s true 102 5 (vs.length+1) ((vs++[(y,q)]).flatMap (cL false)) by rw[sR,List.length_append];rfl];rfl),rfl,rfl,trivial⟩ ⟨rfl,cE _,cE _,trivial⟩ (fun h=>by cases h) ⟨rfl,by rw[hpe]⟩
   refine sk (sq (rl ?_))
   refine WL.sub (gS (j:=0) (k:=3) (p:=0) (n:=vs.length) (trs:=vs.flatMap (cL false)) rfl rfl rfl rfl rfl (aN _ _ (bI false _)) (bI false _) rfl) ?_
   refine o1 ?_;refine nl (rt ?_)
   have hpe:(eG (bQ (Fr4.of q).s (Fr4.of q).x (Fr4.of q).t (Fr4.of q).y) q y last put)=0:=by unfold eG;rw[h1,decide_eq_false h2,h3,decide_eq_false h4];rfl
   have hpl:kC 0 q y vs=vs:=by unfold kC;rw[decide_eq_false h5];rfl
   exact gL (lent':=[⟨137,0,[.t (sR 102 (kC (eG (bQ (Fr4.of q).s (Fr4.of q).x (Fr4.of q).t (Fr4.of q).y) q y last put) q y vs)),tv (.int .i64 (yB (eG (bQ (Fr4.of q).s (Fr4.of q).x (Fr4.of q).t (Fr4.of q).y) q y last put) y last)),tv (.bool (yC (eG (bQ (Fr4.of q).s (Fr4.of q).x (Fr4.of q).t (Fr4.of q).y) q y last put) put))]⟩,⟨113,1,(aI (Fr4.of q).x).map .t⟩,⟨113,1,(aI (Fr4.of q).y).map .t⟩]) (.inl rfl) rfl (aY (cM _)) (by decide) (fun _ h=>by cases h) ⟨⟨rfl,rfl⟩,⟨rfl,rfl⟩,⟨rfl,rfl⟩,trivial⟩ ⟨(by rw[hpe,hpl];rfl),rfl,rfl,trivial⟩ ⟨rfl,cE _,cE _,trivial⟩ (fun h=>by cases h) ⟨rfl,by rw[hpe]⟩
  (iterate 6 refine dD ?_);refine o1 ?_;refine o1 ?_;refine nl (fS rfl (sk (sq (rl ?_))));(iterate 5 refine o1 ?_);refine st ?_;refine o1 ?_
  refine o1 ?_;refine st ?_;refine nl (sq (sq ?_));obtain rfl:=(ha.right h1).symm
  refine rl (ld ?_)
  refine ca (nN ha) vO ⟨oH rfl (.cons .t (.cons (.sl rfl rfl (aN _ _ rfl) (aP _)) (.cons .t (.cons (.sl rfl rfl (aN _ _ rfl) (aP _)) .nil)))),rfl⟩ (.one (tv (.int .i64 q.num.sign))) ?_
  refine o1 ?_;refine nl ?_;refine bH rfl (fun h6=>?_) (fun h6=>?_)
  ·refine rd [0,4] (fun i=>[12,13,14,15].contains i) mixed ?_
   refine dv 0 ?_;refine dv 1 ?_;refine dv 2 ?_;refine dv 3 ?_;refine dv 4 ?_;refine aO 5 ?_;refine dv 6 ?_;refine aO 7 ?_;refine dv 8 ?_
   refine bU 9 rfl (tX (y:=y) ha) Dl ⟨oH rfl (.cons .t (.cons .t (.cons (.sl rfl rfl (aN _ _ rfl) (aP _)) (.cons .t (.cons (.sl rfl rfl (aN _ _ rfl) (aP _)) .nil))))),rfl⟩ (.agg ((cL false (y,q)).map .t)) ?_
   refine jH (key:=5) 10 (by kernel_rfl) rfl rfl aB rfl ⟨rfl,rfl,trivial⟩ ?_
   refine jY (j:=6) (n:=vs.length) (l:=dQ vs) 11 rfl aB rfl rfl rfl (.sl rfl (lG _)) (.sl rfl rfl rfl) rfl rfl (by omega) (by omega) rfl ⟨rfl,rfl,trivial⟩ rfl (by kernel_rfl) rfl ?_
   refine eE 12 (by kernel_rfl) rfl rfl aB rfl (by trivial) ?_ (fun h=>by first | rfl | cases h)
   refine eE 13 (by kernel_rfl) rfl rfl aB rfl (by trivial) ?_ (fun h=>by first | rfl | cases h)
   refine eE 14 (by kernel_rfl) rfl rfl aB rfl (by trivial) ?_ (fun h=>by first | rfl | cases h)
   refine dst 15 ?_;refine bO ?_;refine sq (rl ?_)
   refine WL.sub (gS (j:=0) (k:=6) (p:=0) (n:=vs.length+1) (trs:=(vs++[(y,q)]).flatMap (cL false)) rfl rfl rfl (congrArg (fun l=>some (⟨102,5,l⟩:Ob)) (Lw vs (y,q))) rfl (aN _ _ (by rw[bI,List.length_append];rfl)) (by rw[bI,List.length_append];rfl) rfl) ?_
   refine o1 ?_;refine nl (rt ?_)
   have hpe:(eG (bQ (Fr4.of q).s (Fr4.of q).x (Fr4.of q).t (Fr4.of q).y) q y last put)=0:=by unfold eG;rw[h1,decide_eq_false h2,h3];rfl
   have hpl:kC 0 q y vs=(vs++[(y,q)]):=by unfold kC;rw[decide_eq_true h6];rfl
   exact gL (lent':=[⟨137,0,[.t (sR 102 (kC (eG (bQ (Fr4.of q).s (Fr4.of q).x (Fr4.of q).t (Fr4.of q).y) q y last put) q y vs)),tv (.int .i64 (yB (eG (bQ (Fr4.of q).s (Fr4.of q).x (Fr4.of q).t (Fr4.of q).y) q y last put) y last)),tv (.bool (yC (eG (bQ (Fr4.of q).s (Fr4.of q).x (Fr4.of q).t (Fr4.of q).y) q y last put) put))]⟩,⟨113,1,(aI (Fr4.of q).x).map .t⟩,⟨113,1,(aI (Fr4.of q).y).map .t⟩]) (.inl rfl) rfl (aY (cM _)) (by decide) (fun _ h=>by cases h) ⟨⟨rfl,rfl⟩,⟨rfl,rfl⟩,⟨rfl,rfl⟩,trivial⟩ ⟨(by rw[hpe,hpl];rw[show sR 102 (vs++[(y,q)])=.s true 102 5 (vs.length+1) ((vs++[(y,q)]).flatMap (cL false)) by rw[sR,List.length_append];rfl];rfl),rfl,rfl,trivial⟩ ⟨rfl,cE _,cE _,trivial⟩ (fun h=>by cases h) ⟨rfl,by rw[hpe]⟩
  refine sk (sq (rl ?_))
  refine WL.sub (gS (j:=0) (k:=3) (p:=0) (n:=vs.length) (trs:=vs.flatMap (cL false)) rfl rfl rfl rfl rfl (aN _ _ (bI false _)) (bI false _) rfl) ?_
  refine o1 ?_;refine nl (rt ?_)
  have hpe:(eG (bQ (Fr4.of q).s (Fr4.of q).x (Fr4.of q).t (Fr4.of q).y) q y last put)=0:=by unfold eG;rw[h1,decide_eq_false h2,h3];rfl
  have hpl:kC 0 q y vs=vs:=by unfold kC;rw[decide_eq_false h6];rfl
  exact gL (lent':=[⟨137,0,[.t (sR 102 (kC (eG (bQ (Fr4.of q).s (Fr4.of q).x (Fr4.of q).t (Fr4.of q).y) q y last put) q y vs)),tv (.int .i64 (yB (eG (bQ (Fr4.of q).s (Fr4.of q).x (Fr4.of q).t (Fr4.of q).y) q y last put) y last)),tv (.bool (yC (eG (bQ (Fr4.of q).s (Fr4.of q).x (Fr4.of q).t (Fr4.of q).y) q y last put) put))]⟩,⟨113,1,(aI (Fr4.of q).x).map .t⟩,⟨113,1,(aI (Fr4.of q).y).map .t⟩]) (.inl rfl) rfl (aY (cM _)) (by decide) (fun _ h=>by cases h) ⟨⟨rfl,rfl⟩,⟨rfl,rfl⟩,⟨rfl,rfl⟩,trivial⟩ ⟨(by rw[hpe,hpl];rfl),rfl,rfl,trivial⟩ ⟨rfl,cE _,cE _,trivial⟩ (fun h=>by cases h) ⟨rfl,by rw[hpe]⟩
 refine o1 ?_;refine o1 ?_;(iterate 3 refine dD ?_);refine o1 ?_;refine o1 ?_;refine nl (iX rfl (sq (rl ?_)))
 refine WL.sub (gS (j:=0) (k:=3) (p:=0) (n:=vs.length) (trs:=vs.flatMap (cL false)) rfl rfl rfl rfl rfl (aN _ _ (bI false _)) (bI false _) rfl) ?_;refine o1 ?_
 refine nl (rt ?_);have hpe:(eG (bQ a.s a.x a.t a.y) q y last put)=2:=by unfold eG;rw[h1];rfl
 exact gL (lent':=[⟨137,0,[.t (sR 102 (kC (eG (bQ a.s a.x a.t a.y) q y last put) q y vs)),tv (.int .i64 (yB (eG (bQ a.s a.x a.t a.y) q y last put) y last)),tv (.bool (yC (eG (bQ a.s a.x a.t a.y) q y last put) put))]⟩,⟨113,1,(aI a.x).map .t⟩,⟨113,1,(aI a.y).map .t⟩]) (.inl rfl) rfl (aY (cM _)) (by decide) (fun _ h=>by cases h) ⟨⟨rfl,rfl⟩,⟨rfl,rfl⟩,⟨rfl,rfl⟩,trivial⟩ ⟨(by rw[hpe];rfl),rfl,rfl,trivial⟩ ⟨rfl,cE _,cE _,trivial⟩ (fun h=>by cases h) ⟨rfl,by rw[hpe]⟩
theorem zW {xs:List Nat}(hx:xs.length≤1099511627776):aF true Tryz.prog 60 [] [.one (.t (sU false xs))] (aU (.one (.t (sU true xs)))):=by
 refine bX Tryz.func60 rfl Tryz.ntmps60 rfl aB rfl fun N w c0 h0=>?_
 refine sq (rl (o1 ?_));refine nl (sq (rl (o1 ?_)));refine nl (sq (rl (o1 ?_)));refine o1 ?_
 refine hG (j:=0) aB rfl rfl rfl rfl .nil .fz (PF _) (DF _) rfl (by omega) (by omega) ?_
 refine o1 ?_;refine nl (rt ?_)
 exact en (.inl rfl) rfl (aY (.one (.sl rfl rfl (by rw[Nat.zero_add,Nat.mul_one,List.nil_append,List.take_of_length_le (by simp[fN])]) (by simp[fN])))) (by decide) (fun _=>.inl ⟨rfl,fE xs⟩) (by simp[aU,sU])
theorem HM {xs ys:List Nat}(hx:xs.length≤1099511627776) (hy:ys.length≤1099511627776):aF true Tryz.prog 43 [] [.one (.t (sU false xs)),.one (.t (sU false ys))] (aU (.one (tv (.bool (decide (xs=ys)))))):=by
 refine bX Tryz.func43 rfl Tryz.ntmps43 rfl aB rfl fun N w c0 h0=>?_
 refine sq (rl (o1 ?_));refine nl (sq (sq (rl ?_)));(iterate 5 refine o1 ?_);refine nl ?_;refine bH rfl (fun h1=>?_) (fun h1=>?_)
 ·refine sq (rl (o1 ?_));refine nl (rt ?_);refine en (.inl rfl) rfl (aY (cM _)) (by decide) (fun _=>trivial) (congrArg (fun b=>FV.one (tv (.bool b))) ?_)
  exact(decide_eq_false (fun h=>h1 (by rw[h]))).symm
 refine sk (sq (sq (rl (o1 ?_))));refine nl (bl ?_)
 refine lp (γ:=Nat) (fun k=>bP [(0,.one (.t (sU false xs))),(1,.one (.t (sU false ys))),(5,.one (tv (.int .i64 ((k:Nat):Int))))]) (fun k=>[].map some) (fun k=>k≤xs.length∧xs.take k=ys.take k) (fun k=>xs.length-k) 0 (⟨Nat.zero_le _,rfl⟩) (bD h0 [] _ _ (by decide) ⟨rfl,rfl,rfl,trivial⟩ rfl) fun k hk=>?_
 refine sq (sq (rl ?_));(iterate 4 refine o1 ?_);refine nl ?_;refine bH rfl (fun h2=>?_) (fun h2=>?_)
 ·refine sk (sq (bl (sq ?_)));refine rd [] (fun i=>[].contains i) mixed ?_
  refine dv 0 ?_;refine dv 1 ?_;refine dv 2 ?_;refine eV 3 ([.v (.int .u32 ((nth xs (k):Nat):Int))]) (nD xs (k:=k) (by omega)) ?_
  refine dv 4 ?_;refine dv 5 ?_;refine dv 6 ?_;refine eV 7 ([.v (.int .u32 ((nth ys (k):Nat):Int))]) (nD ys (k:=k) (by omega)) ?_
  refine dv 8 ?_;refine bO ?_;refine bH rfl (fun h3=>?_) (fun h3=>?_)
  ·refine sq (rl (o1 ?_));refine nl (rt ?_);refine en (.inl rfl) rfl (aY (cM _)) (by decide) (fun _=>trivial) (congrArg (fun b=>FV.one (tv (.bool b))) ?_)
   exact(decide_eq_false (fun h=>h3 (by rw[h]))).symm
  refine sk (rl ?_);(iterate 3 refine o1 ?_);refine nl ?_
  exact⟨k+1,by omega,⟨by omega,DG hk.2 (by omega) (by omega) (by omega)⟩,bD h0 [] _ _ (by decide) ⟨rfl,rfl,rfl,trivial⟩ rfl⟩
 refine ex (sq (rl (o1 ?_)));refine nl (rt ?_)
 refine en (.inl rfl) rfl (aY (cM _)) (by decide) (fun _=>trivial) (congrArg (fun b=>FV.one (tv (.bool b))) ?_)
 exact(decide_eq_true (by rw[←List.take_of_length_le (i:=k) (l:=xs) (by omega),hk.2,List.take_of_length_le (by omega)])).symm
theorem Lx {a:Fr4}(ha:a.len 1099511627776):aF true Tryz.prog 31 [] [qF a] (aU (rO a)):=by
 refine bX Tryz.func31 rfl Tryz.ntmps31 rfl aB rfl fun N w c0 h0=>?_
 refine sq (rl (bx 0 ?_));refine al 1 ?_;refine nl (sq ?_);refine rd [0,1] (fun i=>[17].contains i) mixed ?_
 refine dv 0 ?_;refine dv 1 ?_;refine aO 2 ?_;refine dv 3 ?_;refine dv 4 ?_;refine aO 5 ?_;refine dv 8 ?_;refine dv 9 ?_;refine aO 10 ?_;refine dv 11 ?_;refine dv 12 ?_;refine aO 13 ?_
 refine jI 2 6 rfl (zW ha.1) Ue ⟨a1 rfl,rfl⟩ ?_;refine df 7 ?_;refine jI 3 14 rfl (zW ha.2) Ue ⟨a1 rfl,rfl⟩ ?_;refine df 15 ?_;refine df 16 ?_;refine dst 17 ?_;refine bO ?_
 refine rt ?_
 exact en (.inl rfl) rfl (aY (.agg (.cons (.id rfl) (.cons (.sl (trs:=aI a.x) rfl rfl (bK _) (aP _)) (.cons (.id rfl) (.cons (.sl (trs:=aI a.y) rfl rfl (bK _) (aP _)) .nil)))))) (by decide) (fun _=>uA a) rfl
theorem KH {a:Fr4}(ha:a.len 1099511627776):aF true Tryz.prog 59 [] [qF a] (aU (rO a)):=by
 refine bX Tryz.func59 rfl Tryz.ntmps59 rfl aB rfl fun N w c0 h0=>?_
 refine sq (rl (bx 0 ?_));refine al 1 ?_;refine nl (sq ?_);refine rd [0,1] (fun i=>[17].contains i) mixed ?_
 refine dv 0 ?_;refine dv 1 ?_;refine aO 2 ?_;refine dv 3 ?_;refine dv 4 ?_;refine aO 5 ?_;refine dv 8 ?_;refine dv 9 ?_;refine aO 10 ?_;refine dv 11 ?_;refine dv 12 ?_;refine aO 13 ?_
 refine jI 2 6 rfl (zW ha.1) Ue ⟨a1 rfl,rfl⟩ ?_;refine df 7 ?_;refine jI 3 14 rfl (zW ha.2) Ue ⟨a1 rfl,rfl⟩ ?_;refine df 15 ?_;refine df 16 ?_;refine dst 17 ?_;refine bO ?_
 refine rt ?_
 exact en (.inl rfl) rfl (aY (.agg (.cons (.id rfl) (.cons (.sl (trs:=aI a.x) rfl rfl (bK _) (aP _)) (.cons (.id rfl) (.cons (.sl (trs:=aI a.y) rfl rfl (bK _) (aP _)) .nil)))))) (by decide) (fun _=>uA a) rfl
theorem KI {a b:Fr4}(ha:a.len 1099511627776) (hb:b.len 1099511627776):aF true Tryz.prog 14 [] [qF a,qF b] (aU (.one (tv (.bool (decide (a=b)))))):=by
 refine bX Tryz.func14 rfl Tryz.ntmps14 rfl aB rfl fun N w c0 h0=>?_
 refine sq (rl (bx 0 ?_));refine bx 1 ?_;refine o1 ?_;refine nl (sq (rl (o1 ?_)));refine o1 ?_;refine ld ?_;refine o1 ?_;refine o1 ?_;refine ld ?_
 refine o1 ?_;refine o1 ?_;refine WL.splitb (t:=12) rfl (fun h1=>?_) (fun h1=>?_)
 ·refine o1 ?_;refine o1 ?_;refine ld ?_;refine o1 ?_;refine o1 ?_;refine ld ?_;(iterate 3 refine o1 ?_);refine WL.splitb (t:=21) rfl (fun h2=>?_) (fun h2=>?_)
  ·refine o1 ?_;refine o1 ?_;refine ld ?_;refine o1 ?_;refine o1 ?_;refine ld ?_;refine ca (HM ha.1 hb.1) PG ⟨a1 rfl,a1 rfl,rfl⟩ (.one (tv (.bool (decide (a.x=b.x))))) ?_
   refine o1 ?_;refine o1 ?_;refine WL.split (t:=30) rfl (fun h3=>?_) (fun h3=>?_)
   ·refine o1 ?_;refine o1 ?_;refine ld ?_;refine o1 ?_;refine o1 ?_;refine ld ?_;refine ca (HM ha.2 hb.2) PG ⟨a1 rfl,a1 rfl,rfl⟩ (.one (tv (.bool (decide (a.y=b.y))))) ?_
    refine o1 ?_;refine o1 ?_;refine nl (rt ?_);exact en (.inl rfl) rfl (aY (cM _)) (by decide) (fun _=>trivial) (congrArg (fun b=>FV.one (tv (.bool b))) (by simp_all [yD]))
   (iterate 7 refine dD ?_);refine o1 ?_;refine o1 ?_;refine nl (rt ?_)
   exact en (.inl rfl) rfl (aY (cM _)) (by decide) (fun _=>trivial) (congrArg (fun b=>FV.one (tv (.bool b))) (by simp_all [yD]))
  (iterate 7 refine dD ?_);refine o1 ?_;refine o1 ?_;(iterate 7 refine dD ?_);refine o1 ?_;refine o1 ?_;refine nl (rt ?_)
  exact en (.inl rfl) rfl (aY (cM _)) (by decide) (fun _=>trivial) (congrArg (fun b=>FV.one (tv (.bool b))) (by simp_all [yD]))
 (iterate 7 refine dD ?_);refine o1 ?_;refine o1 ?_;(iterate 7 refine dD ?_);refine o1 ?_;refine o1 ?_;(iterate 7 refine dD ?_);refine o1 ?_;refine o1 ?_;refine nl (rt ?_)
 exact en (.inl rfl) rfl (aY (cM _)) (by decide) (fun _=>trivial) (congrArg (fun b=>FV.one (tv (.bool b))) (by simp_all [yD]))
theorem KJ {a b:Zi}{k k':Int}(ha:Zn a k) (hb:Zn b k'):aF true Tryz.prog 92 [] [gF a,gF b] (aU (.one (tv (.bool (decide (k=k')))))):=by
 refine bX Tryz.func92 rfl Tryz.ntmps92 rfl aB rfl fun N w c0 h0=>?_
 refine sq (rl (bx 0 ?_));refine bx 1 ?_;refine o1 ?_;refine nl (sq (rl (ld ?_)));refine ld ?_
 refine ca (Xv ha hb) HP ⟨aE rfl,aE rfl,rfl⟩ (.one (tv (.int .i64 ((k)-(k')).sign))) ?_;refine o1 ?_;refine o1 ?_;refine nl (rt ?_)
 exact en (.inl rfl) rfl (aY (cM _)) (by decide) (fun _=>trivial) (congrArg (fun z=>FV.one (tv (.bool z))) (DH _ _))
theorem Bz {a:Fr4}{p:Rat}(ha:Qn a p):aF true Tryz.prog 61 [] [qF a] (aU (.one (tv (.bool (bQ a.s a.x a.t a.y))))):=by
 refine bX Tryz.func61 rfl Tryz.ntmps61 rfl aB rfl fun N w c0 h0=>?_
 have hzl:=(Ly ha).len
 have hzd:=(yE ha).len
 refine sq (rl (bx 0 ?_));refine o1 ?_;refine nl (sq (rl (o1 ?_)));refine ld ?_
 refine ca (Ca (Ly ha)) DI ⟨aE rfl,rfl⟩ (.one (tv (.bool (dL a.s a.x)))) ?_;refine o1 ?_;refine WL.splitb (t:=6) rfl (fun h1=>?_) (fun h1=>?_)
 ·refine o1 ?_;refine ld ?_;refine ca (Ca (yE ha)) DI ⟨aE rfl,rfl⟩ (.one (tv (.bool (dL a.t a.y)))) ?_;refine o1 ?_;refine o1 ?_
  refine WL.splitb (t:=11) rfl (fun h2=>?_) (fun h2=>?_)
  ·refine o1 ?_;refine ld ?_;refine ca (oL (yE ha)) Bp ⟨aE rfl,rfl⟩ (.one (tv (.int .i64 ((eK a.t a.y)).sign))) ?_;(iterate 3 refine o1 ?_)
   refine WL.split (t:=17) rfl (fun h3=>?_) (fun h3=>?_)
   ·refine o1 ?_;refine ld ?_;refine o1 ?_;refine ld ?_;have s3:0<eK a.t a.y:=Int.sign_pos_iff.1 h3
    have hn4:=Fn (k:=(eK a.s a.x)) (k':=(eK a.t a.y)) (by omega)
    refine ca (Ks (Ly ha) (yE ha)) DJ ⟨aE rfl,aE rfl,rfl⟩ (kF (((Int.gcd (eK a.s a.x) (eK a.t a.y):Nat):Int))) ?_;have hn5:=uC (n:=(1:Int)) (by omega) (by omega)
    refine ca (zI (n:=(1:Int)) (by omega) (by omega)) Fb ⟨a1 rfl,rfl⟩ (kF ((1:Int))) ?_
    refine ca (KJ (Zn.of (k:=((Int.gcd (eK a.s a.x) (eK a.t a.y):Nat):Int)) (by omega)) (Zn.of (k:=(1:Int)) (by omega))) XC ⟨aE rfl,aE rfl,rfl⟩ (.one (tv (.bool (decide ((((Int.gcd (eK a.s a.x) (eK a.t a.y):Nat):Int))=((1:Int))))))) ?_
    refine o1 ?_;refine o1 ?_;refine nl (rt ?_)
    exact en (.inl rfl) rfl (aY (cM _)) (by decide) (fun _=>trivial) (congrArg (fun z=>FV.one (tv (.bool z))) (by simp[bQ,h1,h2,s3,Qu]))
   (iterate 7 refine dD ?_);refine o1 ?_;refine o1 ?_;refine nl (rt ?_);have s3:¬(0<eK a.t a.y):=fun h=>h3 (Int.sign_pos_iff.2 h)
   exact en (.inl rfl) rfl (aY (cM _)) (by decide) (fun _=>trivial) (congrArg (fun z=>FV.one (tv (.bool z))) (by simp[bQ,h1,h2,s3,Qu]))
  (iterate 4 refine dD ?_);refine o1 ?_;refine o1 ?_;(iterate 7 refine dD ?_);refine o1 ?_;refine o1 ?_;refine nl (rt ?_)
  exact en (.inl rfl) rfl (aY (cM _)) (by decide) (fun _=>trivial) (congrArg (fun z=>FV.one (tv (.bool z))) (by simp[bQ,h1,h2]))
 (iterate 3 refine dD ?_);refine o1 ?_;refine o1 ?_;(iterate 4 refine dD ?_);refine o1 ?_;refine o1 ?_;(iterate 7 refine dD ?_);refine o1 ?_;refine o1 ?_;refine nl (rt ?_)
 exact en (.inl rfl) rfl (aY (cM _)) (by decide) (fun _=>trivial) (congrArg (fun z=>FV.one (tv (.bool z))) (by simp[bQ,h1]))
theorem zX:aF false Tryz.prog 44 [] [] (aU (qF (.of 0))):=by
 refine bX Tryz.func44 rfl Tryz.ntmps44 rfl aB rfl fun N w c0 h0=>?_
 refine sq (rl (al 0 ?_));refine nl (sq (rl ?_));have hn1:=uC (n:=(0:Int)) (by omega) (by omega)
 refine ca (zI (n:=(0:Int)) (by omega) (by omega)) Fb ⟨a1 rfl,rfl⟩ (kF ((0:Int))) ?_
 have hn2:=uC (n:=(1:Int)) (by omega) (by omega)
 refine ca (zI (n:=(1:Int)) (by omega) (by omega)) Fb ⟨a1 rfl,rfl⟩ (kF ((1:Int))) ?_
 refine o1 ?_;refine st ?_;refine nl (rt ?_)
 exact en (.inl rfl) rfl (aY (.agg (.cons (.id rfl) (.cons (.id rfl) (.cons (.id rfl) (.cons (.id rfl) .nil)))))) (by decide) (fun h=>by cases h) (Fo (q:=0) rfl rfl)
theorem oU {a:Fr4}{p:Rat}(ha:Qn a p):aF false Tryz.prog 77 [] [qF a] (aU (qF (.of p))):=by
 refine bX Tryz.func77 rfl Tryz.ntmps77 rfl aB rfl fun N w c0 h0=>?_
 refine sq (rl (bx 0 ?_));refine al 1 ?_;refine nl (sq (sq (rl (ld ?_))))
 refine ca (Bz ha) DK ⟨aE rfl,rfl⟩ (.one (tv (.bool (bQ a.s a.x a.t a.y)))) ?_;refine WL.splitb (t:=4) rfl (fun h1=>?_) (fun h1=>?_)
 ·refine o1 ?_;refine nl (fS rfl (sk (sq (rl (ld ?_)))));refine st ?_;refine nl (rt ?_)
  exact en (.inl rfl) rfl (aY (.agg (.cons (.id rfl) (.cons (.id rfl) (.cons (.id rfl) (.cons (.id rfl) .nil)))))) (by decide) (fun h=>by cases h) (by rw[ha.right h1];rfl)
 refine o1 ?_;refine nl (iX rfl (sq (rl (ca (zX) Uf rfl (qF (.of 0)) ?_))));refine st ?_;refine nl (rt ?_)
 exact en (.inl rfl) rfl (aY (.agg (.cons (.id rfl) (.cons (.id rfl) (.cons (.id rfl) (.cons (.id rfl) .nil)))))) (by decide) (fun h=>by cases h) (by rw[ha.wrong h1];rfl)
theorem sS {a b:Zi}{k k':Int}(ha:Zn a k) (hb:Zn b k') (h0:k'≠0):aF false Tryz.prog 109 [] [gF a,gF b] (aU (.tup [kF (k.fdiv k'),kF (k.fmod k'),.one (tv (.int .i64 0))])):=by
 have h:=Wp ha hb
 rwa[if_neg h0,if_neg h0,if_neg h0]at h
theorem rK {a b:Zi}{k k':Int}(ha:Zn a k) (hb:Zn b k'):aF false Tryz.prog 78 [] [gF a,gF b] (aU (.tup [qF (.of (Rat.divInt k k')),.one (tv (.int .i64 (if k'=0 then 20 else 0)))])):=by
 refine bX Tryz.func78 rfl Tryz.ntmps78 rfl aB rfl fun N w c0 h0=>?_
 have hkl:=ha.len
 have hkl':=hb.len
 refine sq (rl (bx 0 ?_));refine bx 1 ?_;refine al 2 ?_;refine o1 ?_;refine nl (sq (sq (rl (ld ?_))))
 refine ca (oL hb) Bp ⟨aE rfl,rfl⟩ (.one (tv (.int .i64 (k').sign))) ?_;refine o1 ?_;refine nl ?_;refine bH rfl (fun h1=>?_) (fun h1=>?_)
 ·refine sq (rl (ca (zX) Uf rfl (qF (.of 0)) ?_));refine st ?_;refine o1 ?_;refine nl (rt ?_);have hk0:k'=0:=Int.sign_eq_zero_iff_zero.1 h1
  have hd0:Rat.divInt k k'=0:=by rw[hk0];simp
  exact en (.inl rfl) rfl (rH (.cons (.agg (.cons (.id rfl) (.cons (.id rfl) (.cons (.id rfl) (.cons (.id rfl) .nil))))) (.cons (cM _) .nil))) (by decide) (fun h=>by cases h) (by rw[if_pos hk0,hd0];rfl)
 refine sk (sq (sq ?_));have hk0:k'≠0:=fun h9=>h1 (by rw[h9];rfl)
 refine rl (ld ?_);refine ca (oL hb) Bp ⟨aE rfl,rfl⟩ (.one (tv (.int .i64 (k').sign))) ?_;refine o1 ?_;refine nl ?_;refine bH rfl (fun h2=>?_) (fun h2=>?_)
 ·refine sq (rl (ld ?_));have hn3:=kS (k)
  refine ca (Do ha) Ug ⟨aE rfl,rfl⟩ (kF (-k)) ?_;refine st ?_;refine nl (rl (ld ?_));have hn4:=kS (k')
  refine ca (Do hb) Ug ⟨aE rfl,rfl⟩ (kF (-k')) ?_;refine st ?_;refine nl (sq ?_);have hkn:k'<0:=Int.sign_neg_iff.1 h2
  refine rl (ld ?_);refine ld ?_;have hn5:=Fn (k:=-k) (k':=-k') (by omega)
  refine ca (Ks (Zn.of (k:=-k) (by omega)) (Zn.of (k:=-k') (by omega))) DJ ⟨aE rfl,aE rfl,rfl⟩ (kF (((Int.gcd (-k) (-k'):Nat):Int))) ?_
  refine al 3 ?_;refine st ?_;refine nl (sq (rl (ld ?_)));refine ld ?_
  refine ca (sS (Zn.of (k:=-k) (by omega)) (Zn.of (k:=((Int.gcd (-k) (-k'):Nat):Int)) (by omega)) (Dp (by omega))) Jo ⟨aE rfl,aE rfl,rfl⟩ (.tup [kF ((-k).fdiv ((Int.gcd (-k) (-k'):Nat):Int)),kF ((-k).fmod ((Int.gcd (-k) (-k'):Nat):Int)),.one (tv (.int .i64 0))]) ?_
  (iterate 4 refine o1 ?_);refine al 4 ?_;refine al 5 ?_;refine st ?_;refine st ?_;refine o1 ?_;refine nl (sq (rl (ld ?_)));refine ld ?_
  refine ca (sS (Zn.of (k:=-k') (by omega)) (Zn.of (k:=((Int.gcd (-k) (-k'):Nat):Int)) (by omega)) (Dp (by omega))) Jo ⟨aE rfl,aE rfl,rfl⟩ (.tup [kF ((-k').fdiv ((Int.gcd (-k) (-k'):Nat):Int)),kF ((-k').fmod ((Int.gcd (-k) (-k'):Nat):Int)),.one (tv (.int .i64 0))]) ?_
  (iterate 4 refine o1 ?_);refine al 6 ?_;refine al 7 ?_;refine st ?_;refine st ?_;refine o1 ?_;refine nl (sq (rl (ld ?_)));refine ld ?_;refine o1 ?_
  refine st ?_;refine o1 ?_;refine nl (rt ?_);obtain⟨hp9,hn9⟩:=Lz (a:=k) hk0
  obtain⟨e1,e2⟩:=hn9 hkn
  exact en (.inl rfl) rfl (rH (.cons (.agg (.cons (.id rfl) (.cons (.id rfl) (.cons (.id rfl) (.cons (.id rfl) .nil))))) (.cons (cM _) .nil))) (by decide) (fun h=>by cases h) (by rw[if_neg hk0];exact congrArg (fun f=>FV.tup [f,.one (tv (.int .i64 0))]) (Fo e1 e2))
 refine sk (sq ?_);have hkp:0<k':=by have h9:=mt Int.sign_neg_iff.2 h2;omega
 refine rl (ld ?_);refine ld ?_;have hn6:=Fn (k:=k) (k':=k') (by omega)
 refine ca (Ks ha hb) DJ ⟨aE rfl,aE rfl,rfl⟩ (kF (((Int.gcd k k':Nat):Int))) ?_;refine al 3 ?_;refine st ?_;refine nl (sq (rl (ld ?_)));refine ld ?_
 refine ca (sS ha (Zn.of (k:=((Int.gcd k k':Nat):Int)) (by omega)) (Dp (by omega))) Jo ⟨aE rfl,aE rfl,rfl⟩ (.tup [kF ((k).fdiv ((Int.gcd k k':Nat):Int)),kF ((k).fmod ((Int.gcd k k':Nat):Int)),.one (tv (.int .i64 0))]) ?_
 (iterate 4 refine o1 ?_);refine al 4 ?_;refine al 5 ?_;refine st ?_;refine st ?_;refine o1 ?_;refine nl (sq (rl (ld ?_)));refine ld ?_
 refine ca (sS hb (Zn.of (k:=((Int.gcd k k':Nat):Int)) (by omega)) (Dp (by omega))) Jo ⟨aE rfl,aE rfl,rfl⟩ (.tup [kF ((k').fdiv ((Int.gcd k k':Nat):Int)),kF ((k').fmod ((Int.gcd k k':Nat):Int)),.one (tv (.int .i64 0))]) ?_
 (iterate 4 refine o1 ?_);refine al 6 ?_;refine al 7 ?_;refine st ?_;refine st ?_;refine o1 ?_;refine nl (sq (rl (ld ?_)));refine ld ?_;refine o1 ?_
 refine st ?_;refine o1 ?_;refine nl (rt ?_);obtain⟨hp9,hn9⟩:=Lz (a:=k) hk0
 obtain⟨e1,e2⟩:=hp9 hkp
 exact en (.inl rfl) rfl (rH (.cons (.agg (.cons (.id rfl) (.cons (.id rfl) (.cons (.id rfl) (.cons (.id rfl) .nil))))) (.cons (cM _) .nil))) (by decide) (fun h=>by cases h) (by rw[if_neg hk0];exact congrArg (fun f=>FV.tup [f,.one (tv (.int .i64 0))]) (Fo e1 e2))
theorem UN {n d:Int}(h1:-9223372036854775808≤n) (h2:n≤9223372036854775807) (h3:-9223372036854775808≤d) (h4:d≤9223372036854775807):aF false Tryz.prog 58 [] [.one (tv (.int .i64 n)),.one (tv (.int .i64 d))] (aU (.tup [qF (.of (Rat.divInt n d)),.one (tv (.int .i64 (if d=0 then 20 else 0)))])):=by
 refine bX Tryz.func58 rfl Tryz.ntmps58 rfl aB rfl fun N w c0 h0=>?_
 refine sq (rl (al 0 ?_));refine o1 ?_;refine nl (sq (rl (o1 ?_)));have hn1:=uC (n:=n) (by omega) (by omega)
 refine ca (zI (n:=n) (by omega) (by omega)) Fb ⟨a1 rfl,rfl⟩ (kF (n)) ?_
 refine o1 ?_;have hn2:=uC (n:=d) (by omega) (by omega)
 refine ca (zI (n:=d) (by omega) (by omega)) Fb ⟨a1 rfl,rfl⟩ (kF (d)) ?_
 refine ca (rK (Zn.of (k:=n) (by omega)) (Zn.of (k:=d) (by omega))) Cb ⟨aE rfl,aE rfl,rfl⟩ (.tup [qF (.of (Rat.divInt (n) (d))),.one (tv (.int .i64 (if(d)=0 then 20 else 0)))]) ?_
 refine o1 ?_;refine o1 ?_;refine st ?_;refine o1 ?_;refine nl (rt ?_)
 exact en (.inl rfl) rfl (rH (.cons (.agg (.cons (.id rfl) (.cons (.id rfl) (.cons (.id rfl) (.cons (.id rfl) .nil))))) (.cons (cM _) .nil))) (by decide) (fun h=>by cases h) rfl
theorem Xw {a:Fr4}{p:Rat}(ha:Qn a p):aF false Tryz.prog 65 [] [qF a] (aU (qF (.of (-p)))):=by
 refine bX Tryz.func65 rfl Tryz.ntmps65 rfl aB rfl fun N w c0 h0=>?_
 refine sq (rl (bx 0 ?_));refine al 1 ?_;refine nl (sq (rl (ld ?_)));refine ca (oU ha) Fp ⟨aE rfl,rfl⟩ (qF (.of p)) ?_;refine st ?_
 refine nl (sq ?_);refine rd [0,1] (fun i=>[6].contains i) mixed ?_
 refine dv 0 ?_;refine aO 1 ?_;refine dv 3 ?_;refine aO 4 ?_;refine bU 2 rfl (Do (nO ha.sz)) Ug ⟨aE rfl,rfl⟩ (kF (-p.num)) ?_;refine df 5 ?_;refine dst 6 ?_;refine bO ?_
 refine rt ?_
 exact en (.inl rfl) rfl (aY (.agg (.cons (.id rfl) (.cons (.id rfl) (.cons (.id rfl) (.cons (.id rfl) .nil)))))) (by decide) (fun h=>by cases h) (by unfold qF Fr4.of;rw[Rat.neg_num,Rat.neg_den];rfl)
theorem uD {a b:Fr4}{p q:Rat}(ha:Qn a p) (hb:Qn b q) (hs:Sz 17179869184 p) (hs':Sz 17179869184 q):aF false Tryz.prog 45 [] [qF a,qF b] (aU (qF (.of (p+q)))):=by
 refine bX Tryz.func45 rfl Tryz.ntmps45 rfl aB rfl fun N w c0 h0=>?_
 have hs1:=hs.1
 have hs2:(dg 4294967296 ((p.den:Int)).natAbs).length≤17179869184:=hs.2
 have hs3:=hs'.1
 have hs4:(dg 4294967296 ((q.den:Int)).natAbs).length≤17179869184:=hs'.2
 refine sq (rl (bx 0 ?_));refine bx 1 ?_;refine al 2 ?_;refine nl (sq (rl (ld ?_)));refine ca (oU ha) Fp ⟨aE rfl,rfl⟩ (qF (.of p)) ?_
 refine st ?_;refine nl (sq (rl (ld ?_)));refine ca (oU hb) Fp ⟨aE rfl,rfl⟩ (qF (.of q)) ?_;refine st ?_;refine nl ?_
 refine md (γ:=Unit) (fun _=>bP [(4,.one (.pt 0 0)),(5,.one (.pt 1 0))]) (fun _=>([⟨52,0,[tv (.bool false),tv (.slice none 0 0),tv (.bool false),tv (.slice none 0 0)]⟩,⟨52,0,((Fr4.of (Rat.divInt (p.num*(q.den:Int)+q.num*(p.den:Int)) ((p.den:Int)*(q.den:Int)))).tr false).map .t⟩]:List Ob).map some) (fun _=>True) ?_ fun _ _=>?_
 ·refine rd [0,1,2] (fun i=>[22].contains i) mixed ?_
  refine dv 0 ?_;refine aO 1 ?_;refine dv 2 ?_;refine aO 3 ?_;refine dv 5 ?_;refine aO 6 ?_;refine dv 7 ?_;refine aO 8 ?_;refine dv 11 ?_;refine aO 12 ?_;refine dv 13 ?_
  refine aO 14 ?_;refine WO.two (i:=4) (j:=20) (by kernel_rfl) ?_ ?_
  ·have hn1:=fP (p.num) ((q.den:Int))
   refine mO 4 rfl (lR (nO hs) (gO hs')) tI ⟨aE rfl,aE rfl,rfl⟩ (kF (p.num*(q.den:Int))) ?_;refine WO.two (i:=9) (j:=20) (by kernel_rfl) ?_ ?_
   ·have hn2:=fP (q.num) ((p.den:Int))
    refine mO 9 rfl (lR (nO hs') (gO hs)) tI ⟨aE rfl,aE rfl,rfl⟩ (kF (q.num*(p.den:Int))) ?_;refine WO.two (i:=10) (j:=20) (by kernel_rfl) ?_ ?_
    ·have hn3:=kT (p.num*(q.den:Int)) (q.num*(p.den:Int))
     refine mO 10 rfl (tS (Zn.of (k:=p.num*(q.den:Int)) (by omega)) (Zn.of (k:=q.num*(p.den:Int)) (by omega))) Fc ⟨aE rfl,aE rfl,rfl⟩ (kF (p.num*(q.den:Int)+q.num*(p.den:Int))) ?_
     refine WO.two (i:=15) (j:=20) (by kernel_rfl) ?_ ?_
     ·have hn4:=fP ((p.den:Int)) ((q.den:Int))
      refine mO 15 rfl (lR (gO hs) (gO hs')) tI ⟨aE rfl,aE rfl,rfl⟩ (kF ((p.den:Int)*(q.den:Int))) ?_;refine WO.two (i:=16) (j:=20) (by kernel_rfl) ?_ ?_
      ·refine mO 16 rfl (rK (Zn.of (k:=p.num*(q.den:Int)+q.num*(p.den:Int)) (by omega)) (Zn.of (k:=(p.den:Int)*(q.den:Int)) (by omega))) Cb ⟨aE rfl,aE rfl,rfl⟩ (.tup [qF (.of (Rat.divInt (p.num*(q.den:Int)+q.num*(p.den:Int)) ((p.den:Int)*(q.den:Int)))),.one (tv (.int .i64 (if((p.den:Int)*(q.den:Int))=0 then 20 else 0)))]) ?_
       refine df 17 ?_;refine df 18 ?_;refine df 19 ?_;refine kM (key:=3) 20 (by kernel_rfl) rfl rfl aB rfl ⟨rfl,rfl,rfl,trivial⟩ ?_
       refine iM 21 (by kernel_rfl) rfl rfl aB rfl rfl rfl rfl ⟨rfl,rfl,rfl,trivial⟩ ?_
       refine eE 22 (by kernel_rfl) rfl rfl aB rfl (by trivial) ?_ (fun h=>by first | rfl | cases h)
       refine bO ?_;exact⟨(),trivial,bD h0 [2,3] _ _ (by decide) ⟨rfl,rfl,trivial⟩ ⟨oe rfl rfl,oe rfl rfl,rfl⟩⟩
      refine fK (key:=3) 20 rfl rfl aB rfl ⟨rfl,rfl,rfl,trivial⟩ ?_
      refine bU 16 rfl (rK (Zn.of (k:=p.num*(q.den:Int)+q.num*(p.den:Int)) (by omega)) (Zn.of (k:=(p.den:Int)*(q.den:Int)) (by omega))) Cb ⟨aE rfl,aE rfl,rfl⟩ (.tup [qF (.of (Rat.divInt (p.num*(q.den:Int)+q.num*(p.den:Int)) ((p.den:Int)*(q.den:Int)))),.one (tv (.int .i64 (if((p.den:Int)*(q.den:Int))=0 then 20 else 0)))]) ?_
      refine df 17 ?_;refine df 18 ?_;refine df 19 ?_;refine iM 21 (by kernel_rfl) rfl rfl aB rfl rfl rfl rfl ⟨rfl,rfl,rfl,trivial⟩ ?_
      refine eE 22 (by kernel_rfl) rfl rfl aB rfl (by trivial) ?_ (fun h=>by first | rfl | cases h)
      refine bO ?_;exact⟨(),trivial,bD h0 [2,3] _ _ (by decide) ⟨rfl,rfl,trivial⟩ ⟨oe rfl rfl,oe rfl rfl,rfl⟩⟩
     refine fK (key:=3) 20 rfl rfl aB rfl ⟨rfl,rfl,rfl,trivial⟩ ?_;have hn5:=fP ((p.den:Int)) ((q.den:Int))
     refine bU 15 rfl (lR (gO hs) (gO hs')) tI ⟨aE rfl,aE rfl,rfl⟩ (kF ((p.den:Int)*(q.den:Int))) ?_
     refine bU 16 rfl (rK (Zn.of (k:=p.num*(q.den:Int)+q.num*(p.den:Int)) (by omega)) (Zn.of (k:=(p.den:Int)*(q.den:Int)) (by omega))) Cb ⟨aE rfl,aE rfl,rfl⟩ (.tup [qF (.of (Rat.divInt (p.num*(q.den:Int)+q.num*(p.den:Int)) ((p.den:Int)*(q.den:Int)))),.one (tv (.int .i64 (if((p.den:Int)*(q.den:Int))=0 then 20 else 0)))]) ?_
     refine df 17 ?_;refine df 18 ?_;refine df 19 ?_;refine iM 21 (by kernel_rfl) rfl rfl aB rfl rfl rfl rfl ⟨rfl,rfl,rfl,trivial⟩ ?_
     refine eE 22 (by kernel_rfl) rfl rfl aB rfl (by trivial) ?_ (fun h=>by first | rfl | cases h)
     refine bO ?_;exact⟨(),trivial,bD h0 [2,3] _ _ (by decide) ⟨rfl,rfl,trivial⟩ ⟨oe rfl rfl,oe rfl rfl,rfl⟩⟩
    refine fK (key:=3) 20 rfl rfl aB rfl ⟨rfl,rfl,rfl,trivial⟩ ?_;have hn6:=kT (p.num*(q.den:Int)) (q.num*(p.den:Int))
    refine bU 10 rfl (tS (Zn.of (k:=p.num*(q.den:Int)) (by omega)) (Zn.of (k:=q.num*(p.den:Int)) (by omega))) Fc ⟨aE rfl,aE rfl,rfl⟩ (kF (p.num*(q.den:Int)+q.num*(p.den:Int))) ?_
    have hn7:=fP ((p.den:Int)) ((q.den:Int))
    refine bU 15 rfl (lR (gO hs) (gO hs')) tI ⟨aE rfl,aE rfl,rfl⟩ (kF ((p.den:Int)*(q.den:Int))) ?_
    refine bU 16 rfl (rK (Zn.of (k:=p.num*(q.den:Int)+q.num*(p.den:Int)) (by omega)) (Zn.of (k:=(p.den:Int)*(q.den:Int)) (by omega))) Cb ⟨aE rfl,aE rfl,rfl⟩ (.tup [qF (.of (Rat.divInt (p.num*(q.den:Int)+q.num*(p.den:Int)) ((p.den:Int)*(q.den:Int)))),.one (tv (.int .i64 (if((p.den:Int)*(q.den:Int))=0 then 20 else 0)))]) ?_
    refine df 17 ?_;refine df 18 ?_;refine df 19 ?_;refine iM 21 (by kernel_rfl) rfl rfl aB rfl rfl rfl rfl ⟨rfl,rfl,rfl,trivial⟩ ?_
    refine eE 22 (by kernel_rfl) rfl rfl aB rfl (by trivial) ?_ (fun h=>by first | rfl | cases h)
    refine bO ?_;exact⟨(),trivial,bD h0 [2,3] _ _ (by decide) ⟨rfl,rfl,trivial⟩ ⟨oe rfl rfl,oe rfl rfl,rfl⟩⟩
   refine fK (key:=3) 20 rfl rfl aB rfl ⟨rfl,rfl,rfl,trivial⟩ ?_;have hn8:=fP (q.num) ((p.den:Int))
   refine bU 9 rfl (lR (nO hs') (gO hs)) tI ⟨aE rfl,aE rfl,rfl⟩ (kF (q.num*(p.den:Int))) ?_;have hn9:=kT (p.num*(q.den:Int)) (q.num*(p.den:Int))
   refine bU 10 rfl (tS (Zn.of (k:=p.num*(q.den:Int)) (by omega)) (Zn.of (k:=q.num*(p.den:Int)) (by omega))) Fc ⟨aE rfl,aE rfl,rfl⟩ (kF (p.num*(q.den:Int)+q.num*(p.den:Int))) ?_
   have hn10:=fP ((p.den:Int)) ((q.den:Int))
   refine bU 15 rfl (lR (gO hs) (gO hs')) tI ⟨aE rfl,aE rfl,rfl⟩ (kF ((p.den:Int)*(q.den:Int))) ?_
   refine bU 16 rfl (rK (Zn.of (k:=p.num*(q.den:Int)+q.num*(p.den:Int)) (by omega)) (Zn.of (k:=(p.den:Int)*(q.den:Int)) (by omega))) Cb ⟨aE rfl,aE rfl,rfl⟩ (.tup [qF (.of (Rat.divInt (p.num*(q.den:Int)+q.num*(p.den:Int)) ((p.den:Int)*(q.den:Int)))),.one (tv (.int .i64 (if((p.den:Int)*(q.den:Int))=0 then 20 else 0)))]) ?_
   refine df 17 ?_;refine df 18 ?_;refine df 19 ?_;refine iM 21 (by kernel_rfl) rfl rfl aB rfl rfl rfl rfl ⟨rfl,rfl,rfl,trivial⟩ ?_
   refine eE 22 (by kernel_rfl) rfl rfl aB rfl (by trivial) ?_ (fun h=>by first | rfl | cases h)
   refine bO ?_;exact⟨(),trivial,bD h0 [2,3] _ _ (by decide) ⟨rfl,rfl,trivial⟩ ⟨oe rfl rfl,oe rfl rfl,rfl⟩⟩
  refine fK (key:=3) 20 rfl rfl aB rfl ⟨rfl,rfl,rfl,trivial⟩ ?_;have hn11:=fP (p.num) ((q.den:Int))
  refine bU 4 rfl (lR (nO hs) (gO hs')) tI ⟨aE rfl,aE rfl,rfl⟩ (kF (p.num*(q.den:Int))) ?_;have hn12:=fP (q.num) ((p.den:Int))
  refine bU 9 rfl (lR (nO hs') (gO hs)) tI ⟨aE rfl,aE rfl,rfl⟩ (kF (q.num*(p.den:Int))) ?_;have hn13:=kT (p.num*(q.den:Int)) (q.num*(p.den:Int))
  refine bU 10 rfl (tS (Zn.of (k:=p.num*(q.den:Int)) (by omega)) (Zn.of (k:=q.num*(p.den:Int)) (by omega))) Fc ⟨aE rfl,aE rfl,rfl⟩ (kF (p.num*(q.den:Int)+q.num*(p.den:Int))) ?_
  have hn14:=fP ((p.den:Int)) ((q.den:Int))
  refine bU 15 rfl (lR (gO hs) (gO hs')) tI ⟨aE rfl,aE rfl,rfl⟩ (kF ((p.den:Int)*(q.den:Int))) ?_
  refine bU 16 rfl (rK (Zn.of (k:=p.num*(q.den:Int)+q.num*(p.den:Int)) (by omega)) (Zn.of (k:=(p.den:Int)*(q.den:Int)) (by omega))) Cb ⟨aE rfl,aE rfl,rfl⟩ (.tup [qF (.of (Rat.divInt (p.num*(q.den:Int)+q.num*(p.den:Int)) ((p.den:Int)*(q.den:Int)))),.one (tv (.int .i64 (if((p.den:Int)*(q.den:Int))=0 then 20 else 0)))]) ?_
  refine df 17 ?_;refine df 18 ?_;refine df 19 ?_;refine iM 21 (by kernel_rfl) rfl rfl aB rfl rfl rfl rfl ⟨rfl,rfl,rfl,trivial⟩ ?_
  refine eE 22 (by kernel_rfl) rfl rfl aB rfl (by trivial) ?_ (fun h=>by first | rfl | cases h)
  refine bO ?_;exact⟨(),trivial,bD h0 [2,3] _ _ (by decide) ⟨rfl,rfl,trivial⟩ ⟨oe rfl rfl,oe rfl rfl,rfl⟩⟩
 refine sq (rl (ld ?_));refine st ?_;refine nl (rt ?_)
 exact en (.inl rfl) rfl (aY (.agg (.cons (.id rfl) (.cons (.id rfl) (.cons (.id rfl) (.cons (.id rfl) .nil)))))) (by decide) (fun h=>by cases h) (by rw[←sT];rfl)
theorem uE {a b:Fr4}{p q:Rat}(ha:Qn a p) (hb:Qn b q) (hs:Sz 17179869184 p) (hs':Sz 17179869184 q):aF false Tryz.prog 64 [] [qF a,qF b] (aU (qF (.of (p-q)))):=by
 refine bX Tryz.func64 rfl Tryz.ntmps64 rfl aB rfl fun N w c0 h0=>?_
 refine sq (rl (bx 0 ?_));refine bx 1 ?_;refine al 2 ?_;refine nl (sq ?_);refine rd [0,1,2] (fun i=>[4].contains i) mixed ?_
 refine aO 0 ?_;refine aO 1 ?_;refine bU 2 rfl (Xw hb) PH ⟨aE rfl,rfl⟩ (qF (.of (-q))) ?_
 refine bU 3 rfl (uD ha (Qn.of (p:=(-q)) (uF hs')) hs (uF hs')) Fq ⟨aE rfl,aE rfl,rfl⟩ (qF (.of (p+(-q)))) ?_;refine dst 4 ?_;refine bO ?_;refine rt ?_
 exact en (.inl rfl) rfl (aY (.agg (.cons (.id rfl) (.cons (.id rfl) (.cons (.id rfl) (.cons (.id rfl) .nil)))))) (by decide) (fun h=>by cases h) (by rw[Rat.sub_eq_add_neg];rfl)
theorem zY {a:Fr4}{p:Rat}(ha:Qn a p):aF true Tryz.prog 62 [] [qF a] (aU (.one (tv (.int .i64 p.num.sign)))):=by
 refine bX Tryz.func62 rfl Tryz.ntmps62 rfl aB rfl fun N w c0 h0=>?_
 refine sq (rl (bx 0 ?_));refine o1 ?_;refine nl (sq (rl (ld ?_)));refine ca (oU ha) Fp ⟨aE rfl,rfl⟩ (qF (.of p)) ?_;refine o1 ?_
 refine ca (oL (nO ha.sz)) Bp ⟨aE rfl,rfl⟩ (.one (tv (.int .i64 (p.num).sign))) ?_;refine o1 ?_;refine nl (rt ?_)
 exact en (.inl rfl) rfl (aY (cM _)) (by decide) (fun _=>trivial) rfl
theorem PI {a b:Fr4}{p q:Rat}(ha:Qn a p) (hb:Qn b q) (hs:Sz 17179869184 p) (hs':Sz 17179869184 q):aF true Tryz.prog 94 [] [qF a,qF b] (aU (.one (tv (.int .i64 (p-q).num.sign)))):=by
 refine bX Tryz.func94 rfl Tryz.ntmps94 rfl aB rfl fun N w c0 h0=>?_
 refine sq (rl (bx 0 ?_));refine bx 1 ?_;refine o1 ?_;refine nl (sq (rl (ld ?_)));refine ld ?_
 refine ca (uE ha hb hs hs') Fs ⟨aE rfl,aE rfl,rfl⟩ (qF (.of (p-q))) ?_
 refine ca (zY (Qn.of (p:=(p-q)) (jL hs hs'))) Uh ⟨aE rfl,rfl⟩ (.one (tv (.int .i64 (p-q).num.sign))) ?_;refine o1 ?_;refine nl (rt ?_)
 exact en (.inl rfl) rfl (aY (cM _)) (by decide) (fun _=>trivial) rfl
theorem Xx {ms:List Bool}{Bs bs:List Rat}{L Us:Rat}{e:Nat}{at9:Int}{ta tb tc td:Tr}(he:e<Bs.length) (heb:e<bs.length) (hB3:Sz 1000 (eM Bs e)) (hY3:Sz 1000 (eM bs (e))) (hL3:Sz 1000 L) (hU3:Sz 1000 Us) (hlb:bs.length≤1073741823) (hlB:Bs.length≤1073741823):aF false Tryz.prog 130 [⟨165,0,[.t (gE ms),.t (sQ false (Bs.map Fr4.of))]++((Fr4.of L).tr false).map .t++((Fr4.of Us).tr false).map .t++[.sl 1 0 bs.length,.fn 99 [] [.pt 2 0,.pt 3 0]]⟩,⟨48,4,(bs.flatMap qt).map .t⟩,⟨92,0,[.pt 4 0]⟩,⟨3,0,[tv (.int .i64 at9)]⟩,⟨95,0,[.t ta,.t tb,.t tc,.t td]⟩] [.one (.pt 0 0),.one (tv (.int .i64 ((e:Nat):Int)))] (Rt [⟨165,0,[.t (gE ms),.t (sQ false (Bs.map Fr4.of))]++((Fr4.of L).tr false).map .t++((Fr4.of Us).tr false).map .t++[.sl 1 0 bs.length,.fn 99 [] [.pt 2 0,.pt 3 0]]⟩,⟨48,4,(bs.flatMap qt).map .t⟩,⟨92,0,[.pt 4 0]⟩,⟨3,0,[tv (.int .i64 at9)]⟩,⟨95,0,[.t ta,.t tb,.t tc,.t td]⟩] (qF (.of (aJ ((eM Bs e)-(eM bs (e))) [(L-Us)])))):=by
 refine mS Tryz.func130 rfl Tryz.ntmps130 rfl aB rfl fun N9 M9 w9 c0 h0=>?_
 have hBl:(Bs.map Fr4.of).length=Bs.length:=List.length_map _
 have hs1:Sz 68719476736 ((eM Bs e)-(eM bs (e))):=(jL hB3 hY3).mono (by omega)
 have hs2:Sz 68719476736 (L-Us):=(jL hL3 hU3).mono (by omega)
 have hB:Sz 68719476736 (eM Bs e):=hB3.mono (by omega)
 have hY:Sz 68719476736 (eM bs (e)):=hY3.mono (by omega)
 have hL:Sz 68719476736 L:=hL3.mono (by omega)
 have hU:Sz 68719476736 Us:=hU3.mono (by omega)
 refine sq (rl (al 5 ?_));refine nl (sq ?_);refine rd [0,1,2,3,4,5] (fun i=>[30].contains i) mixed ?_
 refine dv 0 ?_;refine dv 1 ?_;refine dv 2 ?_;refine dv 3 ?_;refine aO 4 ?_;refine dv 5 ?_;refine dv 6 ?_
 refine eV 7 ((Fr4.of (eM Bs e)).tr false) ((by rw[←oM he];exact gP (Bs.map Fr4.of) (k:=e) (by rw[List.length_map];exact he))) ?_
 refine dv 8 ?_;refine dv 9 ?_;refine dv 10 ?_;refine dv 11 ?_;refine aO 12 ?_;refine dv 13 ?_;refine dv 14 ?_
 refine kR 15 (cD (f:=qt) (z:=4) (o:=0) (us:=qt (eM bs (e))) lS (sL (by omega)) (Nat.le_of_ble_eq_true rfl) rfl) ?_
 refine dv 17 ?_;refine dv 18 ?_;refine dv 19 ?_;refine dv 20 ?_;refine aO 21 ?_;refine dv 22 ?_;refine dv 23 ?_;refine dv 24 ?_;refine dv 25 ?_;refine aO 26 ?_
 refine bU 16 rfl (zS (Qn.of (p:=(eM Bs e)) hB) (Qn.of (p:=(eM bs (e))) hY)) Fm ⟨aE rfl,aE rfl,rfl⟩ (qF (.of ((eM Bs e)-(eM bs (e))))) ?_
 refine bU 27 rfl (zS (Qn.of (p:=L) hL) (Qn.of (p:=Us) hU)) Fm ⟨aE rfl,aE rfl,rfl⟩ (qF (.of (L-Us))) ?_
 refine jH (key:=6) 28 (by kernel_rfl) rfl rfl aB rfl ⟨rfl,rfl,rfl,rfl,rfl,rfl,trivial⟩ ?_
 refine Bd (i:=33) (k:=6) (t:=48) (t':=52) (z:=4) (n:=1) (l:=([Fr4.of (L-Us)]).flatMap (Fr4.tr false)) rfl rfl rfl rfl (.one .sl) (by rfl) (by rfl) ?_
 refine bU 29 rfl (Dn (a:=.of (L-Us)) (Qn.of (hs2)) hs1) nR ⟨aE rfl,a1 rfl,rfl⟩ (qF (.of (aJ ((eM Bs e)-(eM bs (e))) [(L-Us)]))) ?_;refine dst 30 ?_;refine bO ?_
 refine rt ?_
 exact gL (lent':=[⟨165,0,[.t (gE ms),.t (sQ false (Bs.map Fr4.of))]++((Fr4.of L).tr false).map .t++((Fr4.of Us).tr false).map .t++[.sl 1 0 bs.length,.fn 99 [] [.pt 2 0,.pt 3 0]]⟩,⟨48,4,(bs.flatMap qt).map .t⟩,⟨92,0,[.pt 4 0]⟩,⟨3,0,[tv (.int .i64 at9)]⟩,⟨95,0,[.t ta,.t tb,.t tc,.t td]⟩]) (.inl rfl) rfl (aY (.agg (.cons (.id rfl) (.cons (.id rfl) (.cons (.id rfl) (.cons (.id rfl) .nil)))))) (by decide) (fun _ h=>by cases h) ⟨⟨rfl,rfl⟩,⟨rfl,rfl⟩,⟨rfl,rfl⟩,⟨rfl,rfl⟩,⟨rfl,rfl⟩,trivial⟩ ⟨rfl,rfl,rfl,rfl,rfl,trivial⟩ ⟨rfl,cE _,rfl,rfl,rfl,trivial⟩ (fun h=>by cases h) ⟨rfl,rfl⟩
def dR (ls:List (List (Int×Rat)×Int×Bool)):Tr:=.s true 96 1 ls.length (ls.map eD)
theorem zZ {ls:List (List (Int×Rat)×Int×Bool)}{e:Nat}(he:e<ls.length):((ls.map eD).map AV.t)[e]? =some (.t (eD (dE ls e))):=by
 rw[List.getElem?_map,List.getElem?_map,Ho he]
 rfl
theorem Dq {l:List AV}{e:Nat}{a:AV}(he:e<l.length):(l.set e a)[0+e*1]? =some a:=by rw[show 0+e*1=e by omega];exact List.getElem?_set_self he
theorem kU {ls:List (List (Int×Rat)×Int×Bool)}:((ls.map eD).map AV.t).length=ls.length:=by simp
theorem Ma {ls:List (List (Int×Rat)×Int×Bool)}{e:Nat}{a:AV}{x:List (Int×Rat)×Int×Bool}:(((ls.map eD).map AV.t).set e a).set e (.t (eD x))=((ls.set e x).map eD).map .t:=by rw[List.set_set,List.map_set,List.map_set]
theorem KK (us:List Ur) (u:Ur):(us.flatMap (eB false)).map AV.t++(eB false u).map .t=((us++[u]).flatMap (eB false)).map .t:=by simp[List.flatMap_append]
section
variable {x:Cx}{g:Nat→FV}{ob ob':List (Option Ob)}{Q:Post}{ops:Array Oper}{rest:List Oper}{d:Nat}{ty:TypeId}{pos:String}{af:Array Edge}{gd:Option (Nat×Bool)}{T:List (Nat×TI)}
theorem KL {k t z n:Nat}(t':Nat){l l':List Tr}(ho:bR ob k=some ⟨t,z,l.map .t⟩) (hz:l.length=n*z) (hl:rdTL l=l'):Jp x g ob k ⟨t,z,l.map .t⟩ (.sl k 0 n) (.s false t' z n l'):=fun cs ts W hR m2 m3 u e2=>by
 have h:=Dd t' ho hz cs ts W hR m2 m3 u e2
 simp only[AR]at h⊢
 have h9:=Dr _ _ h
 rw[mQ,hl]at h9
 exact h9
theorem PJ {i k t z n:Nat}(t':Nat){l l':List Tr}{fv fv':FV}(hi:Nat.blt i x.n=true) (hg:g i=fv) (ho:bR ob k=some ⟨t,z,l.map .t⟩) (hz:l.length=n*z) (hl:rdTL l=l') (hf:FzF (.sl k 0 n) (.s false t' z n l') fv fv'):Sub x g ob (bC g i fv') (ob.set k none):=zJ hi hg ho hf (KL t' ho hz hl)
variable {late:Nat→Bool}{K fr:List Nat}{on:Bool}{fuel:Nat}{listed:Array Bool}
end
def z4:List Tr:=[.v (.bool false),.v (.slice none 0 0),.v (.bool false),.v (.slice none 0 0)]
structure WhOk (Z vs:List (Int×Rat)) (last:Int) (put:Bool):Prop where
 pos:XD Z=vs
 low:∀z∈Z,0≤z.2
 ok:StOk vs Z.length (100*Z.length)
 asc:ZW vs
 yrs:∀x∈vs,-9223372036854775808≤x.1
 last:∀x∈vs,put=true∧x.1≤last
section
variable {Z vs us vs':List (Int×Rat)}{last y:Int}{put rt:Bool}{p:Rat}
end
theorem Qv {ls:List (List (Int×Rat)×Int×Bool)}{e:Nat}{a:AV}{x:List (Int×Rat)×Int×Bool}(he:e<ls.length) (hx:dE ls e=x):(((ls.map eD).map AV.t).set e a).set e (.t (eD x))=(ls.map eD).map .t:=by
 subst hx
 rw[List.set_set]
 apply List.ext_getElem?
 intro i
 rw[List.getElem?_set]
 split
 ·rename_i h
  subst h
  rw[if_pos (by rw[kU];exact he)]
  exact(zZ he).symm
 rfl
theorem DL (xs:List Wv) (x:Wv):(xs.flatMap aW).map AV.t++(aW x).map .t=((xs++[x]).flatMap aW).map .t:=by simp[List.flatMap_append]
def Rg.wtk (R:Rg) (U:List Ur) (t e k:Nat):List Wv:=R.wt0 U t e++bif R.mem t e then((R.wl U e (R.I t)).take k).map (fun x=>(⟨x.1,e,x.2⟩:Wv))else []
section
variable {R:Rg}{U:List Ur}{t e k:Nat}
theorem Mb:R.wtk U t e 0=R.wt0 U t e:=by
 unfold Rg.wtk
 cases R.mem t e <;> simp
theorem KM (hm:R.mem t e=true) (hk:k<(R.wl U e (R.I t)).length):R.wtk U t e (k+1)=R.wtk U t e k++[⟨(aH (R.wl U e (R.I t)) k).1,e,(aH (R.wl U e (R.I t)) k).2⟩]:=by
 unfold Rg.wtk
 rw[hm,kQ hk]
 simp
theorem PK (hm:R.mem t e=false):R.wtk U t e (k+1)=R.wtk U t e k:=by
 unfold Rg.wtk
 rw[hm]
 rfl
theorem KN (hk:(R.wl U e (R.I t)).length≤k):R.wtk U t e k=R.wt0 U t (e+1):=by
 unfold Rg.wtk Rg.wt0
 rw[List.range_succ,List.flatMap_append,List.take_of_length_le hk]
 simp
theorem Qw:(R.wt0 U t k).length≤k*t:=by
 unfold Rg.wt0
 induction k with
 | zero=>simp
 | succ k ih=>
  rw[List.range_succ,List.flatMap_append,List.length_append,Nat.succ_mul]
  have h1:=uG (R:=R) (U:=U) (e:=k) (I:=R.I t)
  have h2:=uH (R:=R) (k:=t)
  have h3:(List.flatMap (fun e=>bif R.mem t e then(R.wl U e (R.I t)).map (fun x=>(⟨x.1,e,x.2⟩:Wv))else []) [k]).length≤t:=by
   rw[List.flatMap_cons,List.flatMap_nil,List.append_nil]
   cases R.mem t k
   ·simp
   show((R.wl U k (R.I t)).map _).length≤t
   rw[List.length_map]
   omega
  omega
end
theorem Xy {R:Rg}{U:List Ur}{N t:Nat}{ta tb tc:Tr}(hOk:R.Ok N) (hI:R.Iv N U) (ht:t<N):aF false Tryz.prog 101 [⟨95,0,[.t ta,.t tb,.t tc,.t (dR (R.own U (R.I t) t))]⟩] [.one (.pt 0 0),.one (.t (gE (R.ms t)))] (Rt [⟨95,0,[.t ta,.t tb,.t tc,.t (dR (R.own U (R.I t) t))]⟩] (.one (.t (.s true 64 18 ((R.wt U t).map (R.wv U)).length (((R.wt U t).map (R.wv U)).flatMap aW))))):=by
 refine DM Tryz.func101 rfl Tryz.ntmps101 rfl aB rfl fun N9 M9 w9 c0 h0=>?_
 have hll:(R.own U (R.I t) t).length=R.E:=kA
 have hms:(R.ms t).length=R.E:=Kt
 have hE:=hOk.e;have hN:=hOk.n
 refine sq (rl (o1 ?_));refine nl (sq (rl (o1 ?_)));refine nl (sq (sq ?_))
 refine WP.sub (nQ (j:=0) (key:=1) (p:=3) (e:=96) (z:=1) (n:=(R.own U (R.I t) t).length) (trs:=(R.own U (R.I t) t).map eD) rfl rfl rfl rfl rfl) ?_;refine rl ?_
 (iterate 3 refine o1 ?_);refine ld ?_;refine o1 ?_;refine o1 ?_;refine nl (bl ?_)
 refine lp (γ:=Nat) (fun s=>bP [(0,.one (.pt 0 0)),(1,.one (.t (gE (R.ms t)))),(5,.one (.sl 2 0 ((R.wt0 U t s).length))),(13,.one (.sl 1 0 ((R.own U (R.I t) t).length))),(14,.one (tv (.int .i64 (((R.own U (R.I t) t).length:Nat):Int)))),(15,.one (tv (.int .i64 ((s:Nat):Int))))]) (fun s=>[(⟨95,0,[.t ta,.t tb,.t tc,.sl 1 0 (R.own U (R.I t) t).length]⟩:Ob),⟨96,1,((R.own U (R.I t) t).map eD).map .t⟩,⟨64,18,((R.wt0 U t s).flatMap aW).map .t⟩].map some) (fun s=>s≤R.E) (fun s=>R.E-s) 0 (Nat.zero_le _) ((nr (i:=5) 2 64 18 rfl rfl rfl rfl).trans (cO h0 [0,1,2] _ _ (by decide) rfl ⟨rfl,rfl,rfl,rfl,rfl,rfl,trivial⟩ ⟨oe rfl rfl,aC rfl,aC rfl,rfl⟩)) ?_
 rintro e he;refine sq (rl (o1 ?_));refine nl (sq ?_);refine bH rfl (fun h1=>?_) (fun h1=>?_)
 ·refine sk (sq (bl (sq ?_)));have hwl:=uG (R:=R) (U:=U) (e:=e) (I:=R.I t)
  have hIl:=uH (R:=R) (k:=t)
  have hle9:dE (R.own U (R.I t) t) e=((R.wl U e (R.I t)),(R.lp e t).1,(R.lp e t).2):=Ff (by omega)
  have hzz:∀x∈(R.wl U e (R.I t)),Sz 68719476736 x.2:=fun x hx=>by obtain⟨i,hi,rfl,_⟩:=iQ.1 hx;exact(hI.sz_left hOk (by have:=(jX.1 hi).1;omega) (by omega)).mono (by omega)
  refine WP.sub (Mc (j:=1) (key:=3) (p:=e) (e:=137) (trs:=[sR 102 (R.wl U e (R.I t)),.v (.int .i64 (R.lp e t).1),.v (.bool (R.lp e t).2)]) rfl rfl (by rw[zZ (by omega),hle9];rfl) rfl) ?_
  refine rl (o1 ?_);refine o1 ?_;refine Ba (l:=(((R.own U (R.I t) t).map eD).map AV.t).set e (.pt 3 0)) (v:=.pt 3 0) (Dq (by rw[kU];omega)) ?_
  refine o1 ?_;refine o1 ?_;refine nl (sq (rl (o1 ?_)))
  refine gZ 4 (Xp (vs:=(R.wl U e (R.I t))) (rest:=[.v (.int .i64 (R.lp e t).1),.v (.bool (R.lp e t).2)]) hzz (by omega)) PL ⟨xC rfl (.pe (trs:=[sR 102 (R.wl U e (R.I t)),.v (.int .i64 (R.lp e t).1),.v (.bool (R.lp e t).2)]) rfl rfl rfl (by simp only[rdTL,mQ,sR,sV,zT])),rfl⟩ ?_
  refine o1 ?_;refine o1 ?_;refine nl (bl (WP.sub (PJ (i:=21) (k:=4) (n:=(R.wl U e (R.I t)).length) 102 rfl rfl rfl (bI true _) (zT true _) (.one .sl)) ?_))
  refine WP.sub (Ft (j:=1) (k:=3) (p:=e) (e:=137) (trs:=[sR 102 (R.wl U e (R.I t)),.v (.int .i64 (R.lp e t).1),.v (.bool (R.lp e t).2)]) (l':=((R.own U (R.I t) t).map eD).map .t) rfl rfl rfl (List.getElem?_set_self (by rw[kU];omega)) (Qv (x:=((R.wl U e (R.I t)),(R.lp e t).1,(R.lp e t).2)) (by omega) hle9)) ?_
  refine lp (γ:=Nat) (fun s=>bP [(0,.one (.pt 0 0)),(1,.one (.t (gE (R.ms t)))),(5,.one (.sl 2 0 ((R.wtk U t e s).length))),(6,.one (tv (.int .i64 ((e:Nat):Int)))),(13,.one (.sl 1 0 ((R.own U (R.I t) t).length))),(14,.one (tv (.int .i64 (((R.own U (R.I t) t).length:Nat):Int)))),(15,.one (tv (.int .i64 ((e:Nat):Int)))),(21,.one (.t (sV 102 false (R.wl U e (R.I t))))),(22,.one (tv (.int .i64 (((R.wl U e (R.I t)).length:Nat):Int)))),(23,.one (tv (.int .i64 ((s:Nat):Int))))]) (fun s=>[(⟨95,0,[.t ta,.t tb,.t tc,.sl 1 0 (R.own U (R.I t) t).length]⟩:Ob),⟨96,1,((R.own U (R.I t) t).map eD).map .t⟩,⟨64,18,((R.wtk U t e s).flatMap aW).map .t⟩].map some) (fun s=>s≤(R.wl U e (R.I t)).length) (fun s=>(R.wl U e (R.I t)).length-s) 0 (Nat.zero_le _) (cO h0 [0,1,2] _ _ (by decide) rfl ⟨rfl,rfl,(by rw[Mb];rfl),rfl,rfl,rfl,rfl,rfl,rfl,rfl,trivial⟩ ⟨oe rfl rfl,aC rfl,aC (congrArg (fun l:List Wv=>some (⟨64,18,(l.flatMap aW).map .t⟩:Ob)) Mb.symm),rfl⟩) ?_
  rintro k hk;refine sq (rl (o1 ?_));refine nl (sq ?_);refine bH rfl (fun h2=>?_) (fun h2=>?_)
  ·refine sk (sq (bl (sq (rl (o1 ?_)))));refine dT (cL false (aH (R.wl U e (R.I t)) (k))) (tY false (by omega)) ?_
   refine al 3 ?_;refine st ?_;refine nl (sq (rl ?_));(iterate 3 refine o1 ?_);refine dT ([.v (.bool (nH (R.ms t) (e)))]) (Jl (R.ms t) (k:=e) (by omega)) ?_
   refine nl ?_;refine mR rfl (fun h3=>?_) (fun h3=>?_)
   ·have hkl:(R.wtk U t e k).length≤1000:=by
     have h1:=Qw (R:=R) (U:=U) (t:=t) (k:=e)
     have h2:e*t≤6*10:=Nat.mul_le_mul (by omega) (by omega)
     unfold Rg.wtk;rw[List.length_append];have h3:(bif R.mem t e then((R.wl U e (R.I t)).take k).map (fun x=>(⟨x.1,e,x.2⟩:Wv))else []).length≤k:=by
      cases R.mem t e
      ·exact Nat.zero_le _
      show(((R.wl U e (R.I t)).take k).map _).length≤k
      rw[List.length_map,List.length_take];omega
     omega
    refine rl (o1 ?_);refine o1 ?_;refine ld ?_;refine o1 ?_;refine o1 ?_;refine ld ?_;refine o1 ?_;refine bs 4 ?_
    refine hG (j:=5) aB rfl rfl rfl rfl (.sl rfl (by rw[List.length_map,aZ cA])) (.sl rfl rfl rfl) rfl rfl rfl (by omega) (by omega) ?_
    refine o1 ?_;refine nl (rl (o1 ?_));refine WL.cast (t:=40) (u':=.int .i64 ((k+1:Nat):Int)) rfl (aG (by omega)) ?_
    refine o1 ?_;refine nl ?_
    have hX:(R.wtk U t e (k+1))=(R.wtk U t e k)++[(⟨(aH (R.wl U e (R.I t)) (k)).1,((e:Nat):Int),(aH (R.wl U e (R.I t)) (k)).2⟩:Wv)]:=KM (by have h9:=h3;rwa[rI (by omega)]at h9) (by omega)
    exact⟨k+1,by omega,by omega,cO h0 [0,1,5] _ _ (by decide) rfl ⟨rfl,rfl,(by rw[hX,List.length_append];rfl),rfl,rfl,rfl,rfl,rfl,rfl,rfl,trivial⟩ ⟨oe rfl rfl,aC rfl,aC (by rw[hX,←DL];rfl),rfl⟩⟩
   refine sk (rl (o1 ?_));refine WL.cast (t:=40) (u':=.int .i64 ((k+1:Nat):Int)) rfl (aG (by omega)) ?_
   refine o1 ?_;refine nl ?_;have hX:(R.wtk U t e (k+1))=(R.wtk U t e k):=PK (by have h9:=h3;rwa[rI (by omega)]at h9)
   exact⟨k+1,by omega,by omega,cO h0 [0,1,2] _ _ (by decide) rfl ⟨rfl,rfl,(by rw[hX];rfl),rfl,rfl,rfl,rfl,rfl,rfl,rfl,trivial⟩ ⟨oe rfl rfl,aC rfl,aC (by rw[hX];rfl),rfl⟩⟩
  refine ex (rl (o1 ?_));refine WL.cast (t:=41) (u':=.int .i64 ((e+1:Nat):Int)) rfl (aG (by omega)) ?_
  refine o1 ?_;refine nl ?_;have hfin:(R.wtk U t e k)=(R.wt0 U t (e+1)):=KN (by omega)
  exact⟨e+1,by omega,by omega,cO h0 [0,1,2] _ _ (by decide) rfl ⟨rfl,rfl,(by rw[hfin];rfl),rfl,rfl,rfl,trivial⟩ ⟨oe rfl rfl,aC rfl,aC (congrArg (fun l:List Wv=>some (⟨64,18,(l.flatMap aW).map .t⟩:Ob)) hfin),rfl⟩⟩
 refine ex (sq (rl (o1 ?_)))
 have hwl9:(R.wt0 U t e).length≤60:=Nat.le_trans (Qw (R:=R) (U:=U) (t:=t) (k:=e)) (Nat.mul_le_mul (show e≤6 by omega) (show t≤10 by omega))
 refine cl 3 [2] (KE (xs:=(R.wt0 U t e)) rfl (by omega)) UO ⟨aC rfl,rfl⟩ ⟨rfl,rfl,rfl⟩ (ok:=[some ⟨64,18,((dK (R.wt0 U t e)).flatMap aW).map .t⟩]) ⟨aC rfl,rfl⟩ ?_
 refine nl (sq (rl (o1 ?_)));refine o1 ?_;refine nl (rt ?_);have hee:e=R.E:=by omega
 have hso:dK (R.wt0 U t e)=((R.wt U t).map (R.wv U)):=by rw[hee];exact PM hI (by omega)
 have hln:(R.wt0 U t e).length=((R.wt U t).map (R.wv U)).length:=by rw[←hso,iB]
 refine Md (gS (j:=0) (k:=1) (p:=3) (e:=96) (z:=1) (n:=(R.own U (R.I t) t).length) (trs:=(R.own U (R.I t) t).map eD) rfl rfl rfl rfl rfl (aN _ _ (by simp)) (by simp) rfl) ?_
 exact vQ <| gL (lent':=[⟨95,0,[.t ta,.t tb,.t tc,.t (dR (R.own U (R.I t) t))]⟩]) (.inl rfl) rfl (aY (.one (.sl (trs:=(dK (R.wt0 U t e)).flatMap aW) rfl rfl (aN _ _ (by rw[aZ cA,iB])) (by rw[aZ cA,iB])))) (by decide) (by simp) ⟨⟨rfl,rfl⟩,trivial⟩ ⟨rfl,trivial⟩ ⟨rfl,trivial⟩ (fun h=>by cases h) ⟨rfl,by rw[hso,hln]⟩
def Rg.yrq (R:Rg) (t:Nat):List Tr:=[gE (R.ms t),sQ false ((R.bs t).map Fr4.of)]++(Fr4.of (R.lim t)).tr false
def Rg.uf (R:Rg) (U:List Ur) (t i:Nat):List Ur:=((R.wt U t).take i).foldl (fun U p=>R.use U p.1 p.2 t) U
theorem Qx (xs:List Rat) (q:Rat):(xs.flatMap qt).map AV.t++(qt q).map .t=((xs++[q]).flatMap qt).map .t:=by simp[List.flatMap_append]
theorem Qy (xs:List Rl) (x:Rl):(xs.flatMap rlt).map AV.t++(rlt x).map .t=((xs++[x]).flatMap rlt).map .t:=by simp[List.flatMap_append]
section
variable {R:Rg}{U:List Ur}{N t i e k:Nat}{p:Nat×Nat}
theorem Xz (h:(R.wt U t)[i]? =some p):p∈R.vl t∧t≤p.1+R.f∧p.2<R.E∧aK ((R.wt U t).map (R.wv U)) i=R.wv U p:=by
 have h1:=List.mem_of_getElem? h
 unfold Rg.wt at h1
 rw[List.mem_filter]at h1
 obtain⟨h2,h3⟩:=h1
 unfold Rg.may at h3
 simp only[Bool.and_eq_true,decide_eq_true_eq]at h3
 refine⟨h2,h3.1.1,(fT.1 h2).2.1,?_⟩
 rw[aK,List.getD_eq_getElem?_getD,List.getElem?_map,h]
 rfl
theorem Fu (h:(R.wt U t)[i]? =some p):R.uf U t (i+1)=R.use (R.uf U t i) p.1 p.2 t:=by
 unfold Rg.uf
 rw[List.take_add_one,h,List.foldl_append]
 rfl
theorem DN:(R.wt U t).Nodup:=List.Pairwise.filter _ (gJ t)
theorem KO (h:(R.wt U t)[i]? =some p):R.left (R.uf U t i) p.1 p.2=R.left U p.1 p.2:=by
 refine vJ _ _ fun hm=>?_
 obtain⟨j,hj,e⟩:=List.getElem_of_mem hm
 rw[List.length_take]at hj
 rw[List.getElem_take]at e
 have hi:=(List.getElem?_eq_some_iff.1 h)
 have:=(List.getElem_inj (DN (R:=R) (U:=U) (t:=t))).1 (e.trans hi.2.symm)
 omega
theorem UP (h:(R.wt U t)[i]? =some p):aK ((R.wt U t).map (R.wv U)) i=R.wv (R.uf U t i) p:=by
 rw[(Xz h).2.2.2]
 unfold Rg.wv
 rw[KO h]
theorem UQ (hI:R.Iv N U) (ht:t<N):R.Iv N (R.uf U t i):=hI.fold ht _ fun p hp=>by
 have h1:=List.mem_of_mem_take hp
 unfold Rg.wt at h1
 have:=fT.1 (List.mem_filter.1 h1).1
 exact⟨by omega,this.2.1⟩
theorem PN:(R.uf U t i).length≤U.length+i:=by
 unfold Rg.uf
 have gen:∀(L:List (Nat×Nat)) (V:List Ur),(L.foldl (fun U p=>R.use U p.1 p.2 t) V).length≤V.length+L.length:=by
  intro L
  induction L with
  | nil=>intro V;simp
  | cons q L ih=>
   intro V
   have h1:=ih (R.use V q.1 q.2 t)
   have h2:(R.use V q.1 q.2 t).length≤V.length+1:=Fg
   rw[List.foldl_cons,List.length_cons]
   omega
 have:=gen ((R.wt U t).take i) U
 rw[List.length_take]at this
 omega
theorem PO (hI:R.Iv N U) (ht:t<N) (hi:(R.wt U t).length≤i):R.uf U t i=R.step U t:=by
 unfold Rg.uf
 rw[List.take_of_length_le hi]
 exact(KP hI ht).symm
theorem KQ:(R.wt U t).length≤(R.vl t).length:=List.length_filter_le ..
theorem DO:R.rls (R.step U t) t=R.rls U t:=by
 unfold Rg.step
 generalize (R.vl t).filter (R.may t)=L
 induction L generalizing U with
 | nil=>rfl
 | cons p L ih=>
  rw[List.foldl_cons,ih]
  exact OC (Nat.le_refl _)
theorem DP:R.rls U t++[R.rl U t]=R.rls U (t+1):=by simp[Rg.rls,List.range_succ]
theorem Ya (l:List Rat):l.flatMap qt=(l.map Fr4.of).flatMap (Fr4.tr false):=by
 induction l with
 | nil=>rfl
 | cons q l ih=>
  rw[List.flatMap_cons,List.map_cons,List.flatMap_cons,←ih]
  rfl
theorem DQ (h:∀e,e<R.E→dP U t e=0):(List.range R.E).map (fun _=>((0:Int):Rat))=R.by9 U t:=List.map_congr_left fun e he=>(h e (List.mem_range.1 he)).symm
end
theorem rL (q:Rat):q.num.sign<0↔q<0:=by
 rw[Int.sign_neg_iff]
 have:=Rat.num_nonneg (q:=q)
 constructor
 ·intro h
  rcases Rat.le_total (a:=0) (b:=q)with h1 | h1
  ·have:=this.2 h1;omega
  rcases Rat.le_iff_lt_or_eq.1 h1 with h2 | h2
  ·exact h2
  rw[h2]at h;cases h
 intro h
 rcases Int.lt_or_le q.num 0 with h1 | h1
 ·exact h1
 have:=this.1 h1;grind
theorem DR {q:Rat}{y last:Int}{put:Bool}(h0:0≤q) (hl:put=true→last<y):eG (bQ (Fr4.of q).s (Fr4.of q).x (Fr4.of q).t (Fr4.of q).y) q y last put=0:=by
 have h1:bQ (Fr4.of q).s (Fr4.of q).x (Fr4.of q).t (Fr4.of q).y=true:=Hu q
 have h2:¬q.num.sign<0:=by
  have:=Rat.num_nonneg.2 h0
  rw[Int.not_lt]
  exact Int.sign_nonneg_iff.2 this
 unfold eG
 rw[h1,if_neg (by simp),if_neg (by simp[h2])]
 cases put with
 | false=>rfl
 | true=>rw[if_neg (by have:=hl rfl;simp;omega)]
theorem DS {q:Rat}{y:Int}{vs:List (Int×Rat)}:kC 0 q y vs=vs++(if 0<q then [(y,q)]else []):=by
 unfold kC
 rw[if_pos rfl]
 by_cases h:0<q
 ·rw[if_pos (decide_eq_true ((jM q).2 h)),if_pos h]
 rw[if_neg (by simpa using fun h9=>h ((jM q).1 h9)),if_neg h,List.append_nil]
theorem KR (xs:List Vn) (x:Vn):(xs.flatMap (bZ false)).map AV.t++(bZ false x).map .t=((xs++[x]).flatMap (bZ false)).map .t:=by simp[List.flatMap_append]
theorem Me {R:Rg}{U:List Ur}{x c:Nat→Nat→Rat}{L:List (Nat×Nat)}{p:Nat×Nat}:R.vns U x c L++[R.vn U x c p]=R.vns U x c (L++[p]):=by simp[Rg.vns]
theorem Fv {R:Rg}{t e:Nat}(h:R.E≤6) (he:e≤R.E):(R.vlk t e).length≤6*t+6:=by
 unfold Rg.vlk
 have h1:=kV (R:=R) h t
 have h2:=List.length_filter_le (R.isV t) (List.range e)
 rw[List.length_range]at h2
 rw[List.length_append,List.length_map]
 omega
theorem rM {R:Rg}{N k:Nat}(h:R.Ok N) (hk:k≤N):(R.run k).length≤1000:=by
 have gen:∀k:Nat,k≤10→(R.run k).length≤60*k:=by
  intro k
  induction k with
  | zero=>intro _;exact Nat.le_refl _
  | succ k ih=>
   intro hk
   have h1:=ih (by omega)
   have h2:∀(L:List (Nat×Nat)) (V:List Ur),(L.foldl (fun U p=>R.use U p.1 p.2 k) V).length≤V.length+L.length:=by
    intro L
    induction L with
    | nil=>intro V;simp
    | cons q L ih2=>
     intro V
     have h1:=ih2 (R.use V q.1 q.2 k)
     have h2:(R.use V q.1 q.2 k).length≤V.length+1:=Fg
     rw[List.foldl_cons,List.length_cons]
     omega
   have h3:=h2 ((R.vl k).filter (R.may k)) (R.run k)
   have h4:=List.length_filter_le (R.may k) (R.vl k)
   have h5:=kV (R:=R) h.e k
   show(R.step (R.run k) k).length≤_
   unfold Rg.step
   omega
 have h1:=h.n
 have:=gen k (by omega)
 omega
section
variable {x:Cx}{g:Nat→FV}{ob ob':List (Option Ob)}{Q:Post}{ops:Array Oper}{d:Nat}{ty:TypeId}{pos:String}{af:Array Edge}{gd:Option (Nat×Bool)}
theorem DT {fresh:Bool}{f:FuncId}{args:List FV}{R:List Lt→FV→Prop}{given:List Lt}{K:List Nat}{aa:Array Operand}{ats:Array TypeId}{key:Nat}(hS:qM fresh x.P f [] given args R) (hf:CallOk x.P f) (hK:dW ob K K given) (hnd:K.Nodup) (ha:jE x.n g K aa.toList args) (hk:dS ob key=true) (hb:∀l r,R l r→l.length=0→(iZ key r).isSome=true):
  OS x ⟨some d,.call ⟨.value (.func f),aa,ats⟩,ty,pos,af,gd⟩ g ob K (fun g' ob'=>∃l r v os,R l r∧iZ key r=some (v,os)∧g'=bC g d v∧ob'=aX ob K (bB K)++os.map some):=by
 intro cs ts W hR K' Q kk
 have e9:cK []++args++cK []=args:=by simp[cK]
 obtain⟨us0,us,e0,hfst,hcap⟩:=(sW f:Qz x g (.func f) f [] []) ob cs ts W hR
 unfold Oper.wp
 rw[jP hf e0]
 refine(Dg (K1:=[]) (K2:=K) (by rw[e9];exact hS) rfl rfl hK hnd ha hfst hcap hR).mono fun e W' hE=>?_
 obtain⟨v,lent',r,ys,cl,N2,rfl,hr,hl1,hl2,hro,hok,hndy,fin⟩:=hE
 have hb1:=hb _ r hr hl1
 obtain⟨⟨v',os⟩,hbn⟩:=Option.isSome_iff_exists.1 hb1
 obtain⟨csn,e1,e2,e3,e4⟩:=xV (Jg hbn hro) hok hbn
 obtain rfl:=List.eq_nil_of_length_eq_zero hl1
 obtain rfl:=List.eq_nil_of_length_eq_zero hl2
 obtain⟨hN,hfin⟩:=fin [] rfl os csn e1 (fun b=>by rw[e2];exact Nat.le_refl _) e3
 have hk:=Nat.eq_of_beq_eq_true hk
 have hpl:(cB cs K ([]++K.map (co cs))).length=key:=by rw[fO,←hR.len,hk]
 obtain⟨g1,g2⟩:=e4 _ (cB cs K ([]++K.map (co cs))++csn) hN (by simp only[List.length_append]at hpl⊢;omega) (fun i _=>by
  rw[Fj (by omega),hpl,show key+i-key=i by omega])
 obtain⟨m1,m2⟩:=hfin g2
 exact kk _ _ _ _ _ ⟨[],r,v',os,hr,hbn,rfl,rfl⟩ (m1.put d g1) ((m2 (some d)).then_put v)
theorem XE {late:Nat→Bool}{K fr:List Nat}{fuel:Nat}{listed:Array Bool}{fresh:Bool}{f:FuncId}{given:List Lt}{args:List FV}{r v:FV}{os:List Ob}{aa:Array Operand}{ats:Array TypeId}(i key:Nat) (Kl:List Nat) (hi:ops[i]? =some ⟨some d,.call ⟨.value (.func f),aa,ats⟩,ty,pos,af,gd⟩) (hS:qM fresh x.P f [] given args (aU r)) (hf:CallOk x.P f) (hK:dW ob Kl Kl given) (ha:jE x.n g Kl aa.toList args) (hke:jG ob (aX ob Kl (bB Kl)++os.map some) K) (k:WD x ops Q late K (d::fr) true fuel (listed.setIfInBounds i true) (bC g d v) (aX ob Kl (bB Kl)++os.map some)) (hr:Region.ready .any ops listed=[i]:=by kernel_rfl) (hw:bF ops x.n g gd=some true:=by rfl) (hk:dS ob key=true:=by rfl) (hnd:Kl.Nodup:=by decide) (hdis:∀k∈K,k∉Kl:=by decide) (hb:iZ key r=some (v,os):=by rfl):
  WD x ops Q late K fr true (fuel+1) listed g ob:=by
 refine WO.one hr (Dh i hi rfl hw (DT hS hf hK hnd ha hk (by rintro _ _ rfl _;rw[hb];rfl)) hdis ?_ ?_)
 ·rintro _ _ ⟨l,r',v',os',rfl,h,rfl,rfl⟩
  rw[hb]at h
  injection h with h
  injection h with h1 h2
  subst h1 h2
  exact⟨⟨_,rfl⟩,fU hke⟩
 rintro _ _ ⟨l,r',v',os',rfl,h,rfl,rfl⟩
 rw[hb]at h
 injection h with h
 injection h with h1 h2
 subst h1 h2
 exact k
end
theorem Yb {R:Rg}{U:List Ur}{t:Nat}(h:∀e,e<R.E→dP U t e=0):(List.range R.E).map (fun _=>(0:Rat))=R.by9 U t:=List.map_congr_left fun e he=>(h e (List.mem_range.1 he)).symm
theorem Mf {R:Rg}{U:List Ur}{t e:Nat}(he:e<R.E):(R.by9 U t)[e]? =some (dP U t e):=by rw[sL (by rw[tT];exact he),oO he]
def kD (o:Bool) (l:List Vn):Tr:=.s o 87 18 l.length (l.flatMap (bZ false))
def kE (o:Bool) (l:List Ur):Tr:=.s o 109 7 l.length (l.flatMap (eB false))
def kG (o:Bool) (l:List Rl):Tr:=.s o 106 5 l.length (l.flatMap rlt)
def rN (o:Bool) (l:List Yr):Tr:=.s o 83 6 l.length (l.flatMap dV)
def aA (l:List (Nat×Nat)) (i:Nat):Nat×Nat:=l.getD i (0,0)
def Rg.lf (R:Rg) (U:List Ur) (x:Nat→Nat→Rat) (p:Nat×Nat):Rat:=R.los p.1 p.2-(cS U p.1 p.2+x p.1 p.2)
def Rg.fw (R:Rg) (t i:Nat):List Ur:=((R.vl t).take i).foldl (fun U p=>if R.may t p then R.use U p.1 p.2 t else U) (R.run t)
def Rg.n3 (R:Rg) (U:List Ur) (t:Nat) (p:Nat×Nat):Rat:=aJ (R.lf U (R.ex (R.run t) t) p) [R.base t p.2-dP U t p.2,R.lim t-cV U t]
def Rg.xk (R:Rg) (t i y e:Nat):Rat:=if(y,e)∈(R.vl (t+1)).take i then R.ex (R.run (t+1)) (t+1) y e else R.ex (R.run (t+1)) t y e
def Rg.ck (R:Rg) (n i y e:Nat):Rat:=if(y,e)∈(R.vl n).take i then R.cl (R.run n) n y e else 0
section
variable {R:Rg}{U:List Ur}{N t i k y e n:Nat}{p:Nat×Nat}
theorem mF {l:List (Nat×Nat)}(h:i<l.length):l[i]? =some (aA l i):=by simp[aA,h]
theorem Cc {l:List (Nat×Nat)}(h:i<l.length):aA l i∈l:=mA h
theorem PP:R.fw t (R.vl t).length=R.run (t+1):=by
 unfold Rg.fw
 rw[List.take_of_length_le (Nat.le_refl _)]
 show _=R.step (R.run t) t
 unfold Rg.step
 rw[List.foldl_filter]
theorem Fw (hi:i<(R.vl t).length):R.fw t (i+1)=if R.may t (aA (R.vl t) i)then R.use (R.fw t i) (aA (R.vl t) i).1 (aA (R.vl t) i).2 t else R.fw t i:=by
 unfold Rg.fw
 rw[List.take_add_one,mF hi,List.foldl_append]
 rfl
theorem UR (h:R.Ok N) (ht:t<N):R.Iv N (R.fw t i):=by
 have gen:∀(L:List (Nat×Nat)) (U:List Ur),R.Iv N U→(∀p∈L,p.1<N∧p.2<R.E)→R.Iv N (L.foldl (fun U p=>if R.may t p then R.use U p.1 p.2 t else U) U):=by
  intro L
  induction L with
  | nil=>intro U hU _;exact hU
  | cons p L ih=>
   intro U hU hL
   have h1:=hL p (List.mem_cons_self ..)
   rw[List.foldl_cons]
   refine ih _ ?_ fun q hq=>hL q (List.mem_cons_of_mem _ hq)
   split
   ·exact hU.use h1.1 h1.2 ht
   exact hU
 refine gen _ _ (h.run (by omega)) fun p hp=>?_
 have:=fT.1 (List.mem_of_mem_take hp)
 exact⟨by omega,this.2.1⟩
theorem PQ (hm:R.may t (y,e)=false):cS (R.fw t i) y e=cS (R.run t) y e:=by
 have gen:∀(L:List (Nat×Nat)) (U:List Ur),cS (L.foldl (fun U p=>if R.may t p then R.use U p.1 p.2 t else U) U) y e=cS U y e:=by
  intro L
  induction L with
  | nil=>intro U;rfl
  | cons p L ih=>
   intro U
   rw[List.foldl_cons,ih]
   split
   ·rename_i h
    refine xT fun h9=>?_
    have h1:p=(y,e):=Prod.ext (by omega) (by omega)
    rw[h1,hm]at h
    cases h
   rfl
 exact gen _ _
theorem Ui (a b c:Rat):aJ a [b,c]=aJ a [aJ b [c]]:=by
 simp only[aJ]
 repeat' split
 all_goals grind
theorem Yc (h:R.may t p=true):R.lf U (R.ex (R.run t) t) p=R.left U p.1 p.2:=by
 unfold Rg.may at h
 simp only[Bool.and_eq_true,decide_eq_true_eq]at h
 unfold Rg.lf Rg.ex Rg.left
 rw[if_neg (by omega)]
 grind
theorem PR (hm:R.mem t p.2=true) (h:R.may t p=false):R.lf (R.fw t i) (R.ex (R.run t) t) p=0:=by
 have h2:p.1+R.f<t:=by
  unfold Rg.may at h
  rw[hm,Bool.and_true,decide_eq_false_iff_not]at h
  omega
 unfold Rg.lf Rg.ex
 rw[if_pos h2,PQ h]
 unfold Rg.left
 grind
theorem US:R.n3 U t p≤R.lf U (R.ex (R.run t) t) p:=by
 unfold Rg.n3
 rw[Ui]
 exact oR _ _
theorem Yd (hi:i<(R.vl t).length) (h:R.mem t (aA (R.vl t) i).2=false):R.fw t (i+1)=R.fw t i:=by
 rw[Fw hi,if_neg (by unfold Rg.may;rw[h];simp)]
theorem UT (hi:i<(R.vl t).length) (h:¬0<R.n3 (R.fw t i) t (aA (R.vl t) i)):R.fw t (i+1)=R.fw t i:=by
 rw[Fw hi]
 split
 ·rename_i hm
  unfold Rg.n3 at h
  rw[Yc hm,Ui]at h
  exact vL h
 rfl
theorem PS (hi:i<(R.vl t).length) (hm:R.mem t (aA (R.vl t) i).2=true) (h:0<R.n3 (R.fw t i) t (aA (R.vl t) i)):R.may t (aA (R.vl t) i)=true∧R.fw t (i+1)=R.fw t i++[⟨((aA (R.vl t) i).1:Nat),((aA (R.vl t) i).2:Nat),(t:Nat),R.n3 (R.fw t i) t (aA (R.vl t) i)⟩]:=by
 have h1:R.may t (aA (R.vl t) i)=true:=by
  cases h2:R.may t (aA (R.vl t) i)
  ·have h3:=US (R:=R) (U:=R.fw t i) (t:=t) (p:=aA (R.vl t) i)
   rw[PR hm h2]at h3
   grind
  rfl
 refine⟨h1,?_⟩
 rw[Fw hi,if_pos h1]
 unfold Rg.n3 at h⊢
 rw[Yc h1,Ui]at h⊢
 exact kP h
theorem Cd {U':List Ur}{x x' c c':Nat→Nat→Rat}{L:List (Nat×Nat)}(hn:L.Nodup) (hi:i<L.length) (h:∀q∈L,q≠aA L i→R.vn U x c q=R.vn U' x' c' q):(R.vns U x c L).set i (R.vn U' x' c' (aA L i))=R.vns U' x' c' L:=Bq hn (mF hi) h
theorem vR (hn:(R.vl n).Nodup) (hi:i<(R.vl n).length){q:Nat×Nat}:q∈(R.vl n).take (i+1)↔q∈(R.vl n).take i∨q=aA (R.vl n) i:=by
 rw[List.take_add_one,mF hi,List.mem_append]
 simp
theorem DU (hn:(R.vl n).Nodup) (hi:i<(R.vl n).length):aA (R.vl n) i∉(R.vl n).take i:=by
 intro h
 obtain⟨j,hj,e9⟩:=List.mem_take_iff_getElem.1 h
 have h1:=mF hi
 have h2:(R.vl n)[j]? =some (aA (R.vl n) i):=by rw[List.getElem?_eq_getElem (by omega),e9]
 have h3:(R.vl n)[j]? =(R.vl n)[i]? :=by rw[h1,h2]
 have:=(List.getElem?_inj (by omega) hn).1 h3
 omega
theorem KS:R.xk t 0=R.ex (R.run (t+1)) t:=by
 funext y e
 unfold Rg.xk
 simp
theorem PT (hp:p∈R.vl (t+1)):R.xk t (R.vl (t+1)).length p.1 p.2=R.ex (R.run (t+1)) (t+1) p.1 p.2:=by
 unfold Rg.xk
 rw[List.take_of_length_le (Nat.le_refl _),if_pos hp]
theorem HR {q:Nat×Nat}(hi:i<(R.vl (t+1)).length) (h:q≠aA (R.vl (t+1)) i):R.xk t (i+1) q.1 q.2=R.xk t i q.1 q.2:=by
 unfold Rg.xk
 have h1:=vR (gJ (R:=R) (t+1)) hi (q:=q)
 by_cases h2:q∈(R.vl (t+1)).take i
 ·rw[if_pos (h1.2 (.inl h2)),if_pos h2]
 rw[if_neg (fun h3=>(h1.1 h3).elim h2 h),if_neg h2]
theorem Uj (hi:i<(R.vl (t+1)).length):R.xk t i (aA (R.vl (t+1)) i).1 (aA (R.vl (t+1)) i).2=R.ex (R.run (t+1)) t (aA (R.vl (t+1)) i).1 (aA (R.vl (t+1)) i).2:=if_neg (DU (gJ (t+1)) hi)
theorem Ye (hi:i<(R.vl (t+1)).length):R.xk t (i+1) (aA (R.vl (t+1)) i).1 (aA (R.vl (t+1)) i).2=R.ex (R.run (t+1)) (t+1) (aA (R.vl (t+1)) i).1 (aA (R.vl (t+1)) i).2:=if_pos ((vR (gJ (R:=R) (t+1)) hi).2 (.inr rfl))
theorem UU {c:Nat→Nat→Rat}(hi:i<(R.vl (t+1)).length) (h:(aA (R.vl (t+1)) i).1+R.f≠t):R.vns (R.run (t+1)) (R.xk t (i+1)) c (R.vl (t+1))=R.vns (R.run (t+1)) (R.xk t i) c (R.vl (t+1)):=by
 refine List.map_congr_left fun q _=>?_
 have:R.xk t (i+1) q.1 q.2=R.xk t i q.1 q.2:=by
  by_cases hq:q=aA (R.vl (t+1)) i
  ·subst hq
   rw[Uj hi,Ye hi]
   unfold Rg.ex
   by_cases h1:(aA (R.vl (t+1)) i).1+R.f<t
   ·rw[if_pos h1,if_pos (by omega)]
   rw[if_neg h1,if_neg (by omega)]
  exact HR hi hq
 unfold Rg.vn
 rw[this]
theorem PU {c:Nat→Nat→Rat}(hi:i<(R.vl (t+1)).length) (h:(aA (R.vl (t+1)) i).1+R.f=t):(R.vns (R.run (t+1)) (R.xk t i) c (R.vl (t+1))).set i ⟨(aA (R.vl (t+1)) i).1,(aA (R.vl (t+1)) i).2,R.los (aA (R.vl (t+1)) i).1 (aA (R.vl (t+1)) i).2,cS (R.run (t+1)) (aA (R.vl (t+1)) i).1 (aA (R.vl (t+1)) i).2,R.lf (R.run (t+1)) (R.xk t i) (aA (R.vl (t+1)) i),c (aA (R.vl (t+1)) i).1 (aA (R.vl (t+1)) i).2⟩=R.vns (R.run (t+1)) (R.xk t (i+1)) c (R.vl (t+1)):=by
 have h1:=Cd (R:=R) (U:=R.run (t+1)) (U':=R.run (t+1)) (x:=R.xk t i) (x':=R.xk t (i+1)) (c:=c) (c':=c) (gJ (t+1)) hi fun q _ hq=>by
  unfold Rg.vn
  rw[HR hi hq]
 rw[←h1]
 unfold Rg.vn
 rw[Ye hi]
 unfold Rg.lf
 rw[Uj hi]
 unfold Rg.ex
 rw[if_neg (by omega),if_pos (by omega)]
 unfold Rg.left
 rw[show∀a b:Rat,a-(b+0)=a-b from fun a b=>by grind]
theorem KT:R.ck n 0=fun _ _=>0:=by
 funext y e
 unfold Rg.ck
 simp
theorem UV {q:Nat×Nat}(hi:i<(R.vl n).length) (h:q≠aA (R.vl n) i):R.ck n (i+1) q.1 q.2=R.ck n i q.1 q.2:=by
 unfold Rg.ck
 have h1:=vR (gJ (R:=R) n) hi (q:=q)
 by_cases h2:q∈(R.vl n).take i
 ·rw[if_pos (h1.2 (.inl h2)),if_pos h2]
 rw[if_neg (fun h3=>(h1.1 h3).elim h2 h),if_neg h2]
theorem PV {U:List Ur}{x:Nat→Nat→Rat}:R.vns U x (R.ck n (R.vl n).length) (R.vl n)=R.vns U x (R.cl (R.run n) n) (R.vl n):=by
 refine List.map_congr_left fun q hq=>?_
 unfold Rg.vn Rg.ck
 rw[List.take_of_length_le (Nat.le_refl _),if_pos hq]
theorem KU (hi:i<(R.vl n).length):(R.vns (R.run n) (R.ex (R.run n) n) (R.ck n i) (R.vl n)).set i ⟨(aA (R.vl n) i).1,(aA (R.vl n) i).2,R.los (aA (R.vl n) i).1 (aA (R.vl n) i).2,cS (R.run n) (aA (R.vl n) i).1 (aA (R.vl n) i).2,R.ex (R.run n) n (aA (R.vl n) i).1 (aA (R.vl n) i).2,R.lf (R.run n) (R.ex (R.run n) n) (aA (R.vl n) i)⟩=R.vns (R.run n) (R.ex (R.run n) n) (R.ck n (i+1)) (R.vl n):=by
 have h1:=Cd (R:=R) (U:=R.run n) (U':=R.run n) (x:=R.ex (R.run n) n) (x':=R.ex (R.run n) n) (c:=R.ck n i) (c':=R.ck n (i+1)) (gJ n) hi fun q _ hq=>by
  unfold Rg.vn
  rw[UV hi hq]
 rw[←h1]
 unfold Rg.vn
 have h2:R.lf (R.run n) (R.ex (R.run n) n) (aA (R.vl n) i)=R.ck n (i+1) (aA (R.vl n) i).1 (aA (R.vl n) i).2:=by
  unfold Rg.ck
  rw[if_pos ((vR (gJ (R:=R) n) hi).2 (.inr rfl))]
  unfold Rg.lf Rg.cl Rg.ex Rg.left
  by_cases h:(aA (R.vl n) i).1+R.f<n
  ·rw[if_pos h,if_neg (by omega)]
   grind
  rw[if_neg h,if_pos (by omega)]
  grind
 rw[h2]
theorem KV:R.rls (R.run t) t++[R.rl (R.run (t+1)) t]=R.rls (R.run (t+1)) (t+1):=by
 unfold Rg.rls
 rw[List.range_succ,List.map_append]
 congr 1
 refine List.map_congr_left fun y hy=>?_
 have hy:=List.mem_range.1 hy
 obtain⟨W,h1,h2⟩:=KC (R:=R) (show t≤t+1 by omega)
 have hz:∀p:Ur→Bool,(∀u∈W,p u=false)→lJ (R.run (t+1)) p=lJ (R.run t) p:=fun p hp=>by rw[h1,KB,vI hp];grind
 unfold Rg.rl
 congr 1
 ·exact(hz _ fun u hu=>by have:=h2 u hu;exact decide_eq_false (by omega)).symm
 refine List.map_congr_left fun e _=>?_
 exact(hz _ fun u hu=>by have:=h2 u hu;rw[decide_eq_false (by omega)];rfl).symm
theorem KW {R:Rg}{N t i:Nat}(h:R.Ok N) (ht:t<N):(R.fw t i).length≤2000:=by
 have gen:∀(L:List (Nat×Nat)) (V:List Ur),(L.foldl (fun U p=>if R.may t p then R.use U p.1 p.2 t else U) V).length≤V.length+L.length:=by
  intro L
  induction L with
  | nil=>intro V;simp
  | cons q L ih=>
   intro V
   rw[List.foldl_cons,List.length_cons]
   split
   ·have h1:=ih (R.use V q.1 q.2 t)
    have h2:(R.use V q.1 q.2 t).length≤V.length+1:=Fg
    omega
   have h1:=ih V
   omega
 have h1:=gen ((R.vl t).take i) (R.run t)
 have h2:=kV (R:=R) h.e t
 have h3:=rM (R:=R) h (k:=t) (by omega)
 have h4:=h.n
 rw[List.length_take]at h1
 unfold Rg.fw
 omega
end
theorem KX {us:List Ur}{k:Nat}(h:k<us.length):us.take (k+1)=us.take k++[eP us k]:=by rw[List.take_add_one,fJ h];rfl
def eZ (us:List Ur) (ent:Int):Rat:=lJ us fun u=>decide (u.e=ent)
theorem Aa {us:List Ur}{k:Nat}{ent:Int}(h:k<us.length):eZ (us.take (k+1)) ent=if(eP us k).e=ent then eZ (us.take k) ent+(eP us k).n else eZ (us.take k) ent:=by
 unfold eZ
 rw[KX h,vS]
 simp only[decide_eq_true_eq]
theorem XF {us:List Ur}{ent:Int}{rw9:List Rl}{vs:List Vn}(hz:∀k,Sz 17179869184 (eZ (us.take k) ent)) (hu:∀u∈us,Sz 17179869184 u.n) (hl:us.length≤1073741823):aF false Tryz.prog 15 [] [.agg [.t (dB false rw9),.t (cY false false vs),.t (cU false false us)],.one (tv (.int .i64 ent))] (aU (qF (.of (eZ us ent)))):=by
 refine bX Tryz.func15 rfl Tryz.ntmps15 rfl aB rfl fun N9 w9 c0 h0=>?_
 have h00:((0:Int):Rat)=(eZ (us.take 0) ent):=by simp[eZ,lJ,mC]
 refine sq (rl (bx 0 ?_));refine al 1 ?_;refine nl (sq (rl ?_))
 refine ca (gW (z:=0) (by omega) (by omega)) pY ⟨a1 rfl,rfl⟩ (qF (.of ((0:Int):Rat))) ?_
 refine al 2 ?_;refine st ?_;refine nl (sq (sq (rl (o1 ?_))));refine ld ?_;refine o1 ?_;refine o1 ?_;refine nl (bl ?_)
 refine lp (γ:=Nat) (fun s=>bP [(1,.one (tv (.int .i64 ent))),(4,.one (.pt 0 0)),(5,.one (.pt 1 0)),(10,.one (.t (cU false false us))),(11,.one (tv (.int .i64 ((us.length:Nat):Int)))),(12,.one (tv (.int .i64 ((s:Nat):Int))))]) (fun s=>[(⟨48,0,[tv (.bool false),tv (.slice none 0 0),tv (.bool false),tv (.slice none 0 0)]⟩:Ob),⟨48,0,((Fr4.of (eZ (us.take s) ent)).tr false).map .t⟩].map some) (fun s=>s≤us.length) (fun s=>us.length-s) 0 (Nat.zero_le _) (bD h0 [1,2] _ _ (by decide) ⟨rfl,rfl,rfl,rfl,rfl,rfl,trivial⟩ ⟨oe rfl rfl,aC (congrArg (fun q:Rat=>some (⟨48,0,((Fr4.of q).tr false).map .t⟩:Ob)) h00),rfl⟩) ?_
 rintro k hk;refine sq (rl (o1 ?_));refine nl (sq ?_);refine bH rfl (fun h1=>?_) (fun h1=>?_)
 ·refine sk (sq (bl (sq (rl (o1 ?_)))))
  refine dT ((eB false) (eP us (k))) (bE (f:=(eB false)) (z:=7) (o:=0) (dU false) (fJ (by omega)) (Nat.le_of_ble_eq_true rfl) rfl) ?_
  refine al 2 ?_;refine st ?_;refine nl (sq (rl (o1 ?_)));refine ld ?_;refine o1 ?_;refine o1 ?_;refine nl ?_;refine bH rfl (fun h2=>?_) (fun h2=>?_)
  ·refine rl (ld ?_);refine o1 ?_;refine ld ?_
   refine ca (Ab (Qn.of (p:=(eZ (us.take k) ent)) ((hz k).mono (M:=68719476736) (by omega))) (Qn.of (p:=(eP us (k)).n) ((hu _ (hJ (l:=us) (i:=k) (by omega))).mono (M:=68719476736) (by omega)))) Fl ⟨aE rfl,aE rfl,rfl⟩ (qF (.of ((eZ (us.take k) ent)+(eP us (k)).n))) ?_
   refine st ?_;refine nl (rl (o1 ?_));refine WL.cast (t:=24) (u':=.int .i64 ((k+1:Nat):Int)) rfl (aG (by omega)) ?_
   refine o1 ?_;refine nl ?_;have hst:((eZ (us.take k) ent)+(eP us (k)).n)=(eZ (us.take (k+1)) ent):=by rw[Aa (by omega),if_pos h2]
   exact⟨k+1,by omega,by omega,bD h0 [0,1] _ _ (by decide) ⟨rfl,rfl,rfl,rfl,rfl,rfl,trivial⟩ ⟨oe rfl rfl,aC (congrArg (fun q:Rat=>some (⟨48,0,((Fr4.of q).tr false).map .t⟩:Ob)) hst),rfl⟩⟩
  refine sk (rl (o1 ?_));refine WL.cast (t:=24) (u':=.int .i64 ((k+1:Nat):Int)) rfl (aG (by omega)) ?_
  refine o1 ?_;refine nl ?_;have hst:(eZ (us.take k) ent)=(eZ (us.take (k+1)) ent):=by rw[Aa (by omega),if_neg h2]
  exact⟨k+1,by omega,by omega,bD h0 [0,1] _ _ (by decide) ⟨rfl,rfl,rfl,rfl,rfl,rfl,trivial⟩ ⟨oe rfl rfl,aC (congrArg (fun q:Rat=>some (⟨48,0,((Fr4.of q).tr false).map .t⟩:Ob)) hst),rfl⟩⟩
 refine ex (sq (rl (ld ?_)));refine st ?_;refine nl (rt ?_)
 exact en (.inl rfl) rfl (aY (.agg (.cons (.id rfl) (.cons (.id rfl) (.cons (.id rfl) (.cons (.id rfl) .nil)))))) (by decide) (fun h=>by cases h) (by rw[List.take_of_length_le (by omega)];rfl)
def eJ (fw:Int) (ys:List Yr):Int:=if decide (fw<0)||(decide (40<fw)|| ys.any fun y=> !gG y (aL ys 0).m.length)then 2 else if 40<ys.length then 3 else 0
theorem DV {fw:Int}{ys:List Yr}(hb:∀y∈ys,(∀a∈y.b,a.ok)∧y.l.ok∧y.b.length≤1073741823) (hl:ys.length≤1073741823) (hno:eJ fw ys≠0):aF false Tryz.prog 12 [] [.one (tv (.int .i64 fw)),.one (.t (kI ys))] (aU (.tup [.agg [.t (dB true []),.t (cY true false []),.t (cU true false [])],.one (tv (.int .i64 (eJ fw ys)))])):=by
 refine bX Tryz.func12 rfl Tryz.ntmps12 rfl aB rfl fun N9 w9 c0 h0=>?_
 refine sq (rl (al 0 ?_));refine o1 ?_;refine nl (sq (rl (al 1 ?_)));refine st ?_;refine nl ?_
 refine md (γ:=Unit) (fun _=>bP [(0,.one (tv (.int .i64 fw))),(1,.one (.t (kI ys))),(4,.one (.pt 0 0)),(6,.one (.pt 1 0))]) (fun _=>([⟨39,0,[tv (.slice none 0 0),tv (.slice none 0 0),tv (.slice none 0 0)]⟩,⟨3,0,[tv (.int .i64 (((aL ys 0).m.length:Nat):Int))]⟩]:List Ob).map some) (fun _=>True) ?_ fun _ _=>?_
 ·refine sq (rl ?_);(iterate 3 refine o1 ?_);refine nl ?_;refine bH rfl (fun h1=>?_) (fun h1=>?_)
  ·refine rl ?_;(iterate 3 refine o1 ?_);refine dT ([gE (aL ys (0)).m]) (bE (f:=dV) (z:=6) (o:=0) dI (cR (by omega)) (Nat.le_of_ble_eq_true rfl) rfl) ?_
   refine o1 ?_;refine st ?_;refine nl ?_;exact⟨(),trivial,bD h0 [0,1] _ _ (by decide) ⟨rfl,rfl,rfl,rfl,trivial⟩ ⟨oe rfl rfl,oe rfl rfl,rfl⟩⟩
  refine sk ?_
  exact⟨(),trivial,bD h0 [0,1] _ _ (by decide) ⟨rfl,rfl,rfl,rfl,trivial⟩ ⟨oe rfl rfl,oe rfl (by have h9:ys=[]:=(List.eq_nil_of_length_eq_zero (by omega));subst h9;rfl),rfl⟩⟩
 refine sq (bl (sq (WP.sub (Ht (i:=6) (k:=1) (t:=3) (l:=[.v (.int .i64 (((aL ys 0).m.length:Nat):Int))]) rfl rfl rfl (.one .sl)) ?_)));refine rl ?_
 (iterate 3 refine o1 ?_);refine WL.split (t:=25) rfl (fun h2=>?_) (fun h2=>?_)
 ·refine dD ?_;refine dD ?_;refine o1 ?_;refine o1 ?_;(iterate 3 refine dD ?_);refine o1 ?_;refine o1 ?_;refine nl (iX rfl (sq (rl (o1 ?_))))
  refine st ?_;refine o1 ?_;refine nl (rt ?_)
  exact en (.inl rfl) rfl (rH (.cons (.agg (.cons (.nil (t:=62) (z:=5)) (.cons (.nil (t:=64) (z:=18)) (.cons (.nil (t:=58) (z:=7)) .nil)))) (.cons (cM _) .nil))) (by decide) (fun h=>by cases h) (congrArg (fun z:Int=>FV.tup [.agg [.t (dB true []),.t (cY true false []),.t (cU true false [])],.one (tv (.int .i64 z))]) (by simp only[eJ,decide_eq_true h2,Bool.not_true,Bool.not_false,Bool.or_true,Bool.true_or,Bool.false_or,Bool.or_false,Bool.false_eq_true,if_true,if_false,ite_true,ite_false,Bool.and_true,Bool.true_and,Bool.false_and,Bool.and_false,Bool.not_not] <;> first | rfl | (simp;done) | (simp;omega)))
 (iterate 4 refine o1 ?_);refine WL.split (t:=29) rfl (fun h3=>?_) (fun h3=>?_)
 ·(iterate 3 refine dD ?_);refine o1 ?_;refine o1 ?_;refine nl (iX rfl (sq (rl (o1 ?_))));refine st ?_;refine o1 ?_;refine nl (rt ?_)
  exact en (.inl rfl) rfl (rH (.cons (.agg (.cons (.nil (t:=62) (z:=5)) (.cons (.nil (t:=64) (z:=18)) (.cons (.nil (t:=58) (z:=7)) .nil)))) (.cons (cM _) .nil))) (by decide) (fun h=>by cases h) (congrArg (fun z:Int=>FV.tup [.agg [.t (dB true []),.t (cY true false []),.t (cU true false [])],.one (tv (.int .i64 z))]) (by simp only[eJ,decide_eq_false h2,decide_eq_true h3,Bool.not_true,Bool.not_false,Bool.or_true,Bool.true_or,Bool.false_or,Bool.or_false,Bool.false_eq_true,if_true,if_false,ite_true,ite_false,Bool.and_true,Bool.true_and,Bool.false_and,Bool.and_false,Bool.not_not] <;> first | rfl | (simp;done) | (simp;omega)))
 refine o1 ?_;refine o1 ?_
 refine ca (GZ (xs:=ys) (dl:=(fun y=> !gG y (aL ys 0).m.length)) (fd:=36) (fst:=[]) (caps:=[.p false 3 [.v (.int .i64 (((aL ys 0).m.length:Nat):Int))]]) PW (fun y hy=>Xj (hb y hy).1 (hb y hy).2.1 (hb y hy).2.2) hl) PX ⟨a1 rfl,a1 rfl,rfl⟩ (.one (tv (.bool (ys.any (fun y=> !gG y (aL ys 0).m.length))))) ?_
 refine o1 ?_;refine o1 ?_;refine nl ?_;refine mR rfl (fun h4=>?_) (fun h4=>?_)
 ·refine sq (rl (o1 ?_));refine st ?_;refine o1 ?_;refine nl (rt ?_)
  exact en (.inl rfl) rfl (rH (.cons (.agg (.cons (.nil (t:=62) (z:=5)) (.cons (.nil (t:=64) (z:=18)) (.cons (.nil (t:=58) (z:=7)) .nil)))) (.cons (cM _) .nil))) (by decide) (fun h=>by cases h) (congrArg (fun z:Int=>FV.tup [.agg [.t (dB true []),.t (cY true false []),.t (cU true false [])],.one (tv (.int .i64 z))]) (by simp only[eJ,decide_eq_false h2,decide_eq_false h3,h4,Bool.not_true,Bool.not_false,Bool.or_true,Bool.true_or,Bool.false_or,Bool.or_false,Bool.false_eq_true,if_true,if_false,ite_true,ite_false,Bool.and_true,Bool.true_and,Bool.false_and,Bool.and_false,Bool.not_not] <;> first | rfl | (simp;done) | (simp;omega)))
 refine sq (rl ?_);(iterate 4 refine o1 ?_);refine nl ?_;refine bH rfl (fun h5=>?_) (fun h5=>?_)
 ·refine sq (rl (o1 ?_));refine st ?_;refine o1 ?_;refine nl (rt ?_)
  exact en (.inl rfl) rfl (rH (.cons (.agg (.cons (.nil (t:=62) (z:=5)) (.cons (.nil (t:=64) (z:=18)) (.cons (.nil (t:=58) (z:=7)) .nil)))) (.cons (cM _) .nil))) (by decide) (fun h=>by cases h) (congrArg (fun z:Int=>FV.tup [.agg [.t (dB true []),.t (cY true false []),.t (cU true false [])],.one (tv (.int .i64 z))]) (by simp only[eJ,decide_eq_false h2,decide_eq_false h3,h4,decide_eq_true h5,Bool.not_true,Bool.not_false,Bool.or_true,Bool.true_or,Bool.false_or,Bool.or_false,Bool.false_eq_true,if_true,if_false,ite_true,ite_false,Bool.and_true,Bool.true_and,Bool.false_and,Bool.and_false,Bool.not_not] <;> first | rfl | (simp;done) | (simp;omega)))
 refine sk ?_
 exact absurd (show eJ fw ys=0 by unfold eJ;simp only[decide_eq_false h2,decide_eq_false h3,h4,decide_eq_false h5,Bool.not_true,Bool.not_false,Bool.or_true,Bool.true_or,Bool.false_or,Bool.or_false,Bool.false_eq_true,if_true,if_false,ite_true,ite_false,Bool.and_true,Bool.true_and,Bool.false_and,Bool.and_false,Bool.not_not] <;> first | rfl | (simp;done) | (simp;omega)) hno
theorem PY {xs:List Fr4}(hne:0<xs.length) (hx:∀x∈xs,x.ok∧Sz 17179869184 x.q) (hl:xs.length≤1099511627776):aF false Tryz.prog 63 [] [.one (.t (sQ false xs))] (aU (qF (.of (kJ (xs.map Fr4.q))))):=by
 refine bX Tryz.func63 rfl Tryz.ntmps63 rfl aB rfl fun N w c0 h0=>?_
 refine sq (rl (al 0 ?_));refine nl (sq (rl (o1 ?_)));refine o1 ?_;refine dT ((cT xs (0)).tr false) (gP xs (k:=0) (by omega)) ?_
 refine ca (oU ⟨(hx _ (eT (by omega))).1,rfl⟩) Fp ⟨aE rfl,rfl⟩ (qF (.of (cT xs (0)).q)) ?_
 refine al 1 ?_;refine st ?_;refine nl (sq (sq (rl (o1 ?_))));refine nl (bl ?_)
 refine lp (γ:=Nat) (fun k=>bP [(0,.one (.t (sQ false xs))),(2,.one (.pt 0 0)),(3,.one (.pt 1 0)),(4,.one (tv (.int .i64 ((k:Nat):Int))))]) (fun k=>[(⟨52,0,[tv (.bool false),tv (.slice none 0 0),tv (.bool false),tv (.slice none 0 0)]⟩:Ob),⟨52,0,((Fr4.of (kJ ((xs.take k).map Fr4.q))).tr false).map .t⟩].map some) (fun k=>1≤k∧k≤xs.length∧Sz 17179869184 (kJ ((xs.take k).map Fr4.q))) (fun k=>xs.length-k) 1 ⟨Nat.le_refl _,hne,by rw[Hv hne];exact(hx _ (eT hne)).2⟩ (bD h0 [0,1] _ _ (by decide) ⟨rfl,rfl,rfl,rfl,trivial⟩ ⟨oe rfl rfl,aC (congrArg (fun q=>some (⟨52,0,((Fr4.of q).tr false).map .t⟩:Ob)) (Hv hne).symm),rfl⟩) fun k hk=>?_
 refine sq (sq (rl ?_));(iterate 4 refine o1 ?_);refine nl ?_;refine bH rfl (fun h1=>?_) (fun h1=>?_)
 ·refine sk (sq (bl (sq ?_)));refine rd [0,1] (fun i=>[].contains i) mixed ?_
  refine dv 0 ?_;refine dv 1 ?_;refine dv 2 ?_;refine eV 3 ((cT xs (k)).tr false) (gP xs (k:=k) (by omega)) ?_
  refine aO 4 ?_
  refine bU 5 rfl (PI ⟨(hx _ (eT (by omega))).1,rfl⟩ (Qn.of (p:=(kJ ((xs.take k).map Fr4.q))) hk.2.2) (hx _ (eT (by omega))).2 hk.2.2) XG ⟨aE rfl,aE rfl,rfl⟩ (.one (tv (.int .i64 ((cT xs (k)).q-(kJ ((xs.take k).map Fr4.q))).num.sign))) ?_
  refine df 6 ?_;refine bO ?_;refine bH rfl (fun h2=>?_) (fun h2=>?_)
  ·refine rl ?_;(iterate 3 refine o1 ?_);refine dT ((cT xs (k)).tr false) (gP xs (k:=k) (by omega)) ?_
   refine ca (oU ⟨(hx _ (eT (by omega))).1,rfl⟩) Fp ⟨aE rfl,rfl⟩ (qF (.of (cT xs (k)).q)) ?_
   refine st ?_;refine nl (rl (o1 ?_));refine o1 ?_;refine WL.cast (t:=14) (u':=.int .i64 ((k+1:Nat):Int)) rfl (aG (by omega)) ?_
   refine o1 ?_;refine nl ?_;have hst:(kJ ((xs.take (k+1)).map Fr4.q))=(cT xs k).q:=(Ds hk.1 (by omega)).trans (if_pos ((Yf _ _).1 h2))
   exact⟨k+1,by omega,⟨by omega,by omega,by rw[hst];exact(hx _ (eT (by omega))).2⟩,bD h0 [0,1] _ _ (by decide) ⟨rfl,rfl,rfl,rfl,trivial⟩ ⟨oe rfl rfl,aC (congrArg (fun q=>some (⟨52,0,((Fr4.of q).tr false).map .t⟩:Ob)) hst.symm),rfl⟩⟩
  refine sk (rl (o1 ?_));refine o1 ?_;refine WL.cast (t:=14) (u':=.int .i64 ((k+1:Nat):Int)) rfl (aG (by omega)) ?_
  refine o1 ?_;refine nl ?_;have hst:(kJ ((xs.take (k+1)).map Fr4.q))=(kJ ((xs.take k).map Fr4.q)):=(Ds hk.1 (by omega)).trans (if_neg fun h8=>h2 ((Yf _ _).2 h8))
  exact⟨k+1,by omega,⟨by omega,by omega,by rw[hst];exact hk.2.2⟩,bD h0 [0,1] _ _ (by decide) ⟨rfl,rfl,rfl,rfl,trivial⟩ ⟨oe rfl rfl,aC (congrArg (fun q=>some (⟨52,0,((Fr4.of q).tr false).map .t⟩:Ob)) hst.symm),rfl⟩⟩
 refine ex (sq (rl (ld ?_)));refine st ?_;refine nl (rt ?_)
 exact en (.inl rfl) rfl (aY (.agg (.cons (.id rfl) (.cons (.id rfl) (.cons (.id rfl) (.cons (.id rfl) .nil)))))) (by decide) (fun h=>by cases h) (by rw[List.take_of_length_le (by omega)];rfl)
section
variable {x:Cx}{g:Nat→FV}{ob:List (Option Ob)}{Q:Post}
theorem WP.sln {c:Code}{i t z n:Nat}{o:Bool}{l:List Tr}(hlk:lk x.n g (.tmp i)=.one (.t (.s o t z n l))) (k:n≤9223372036854775807→WP x c g ob Q):WP x c g ob Q:=fun ts W hR=>by
 obtain⟨cs,hR'⟩:=hR
 have h1:=hR'.lk (.tmp i)
 rw[hlk]at h1
 simp only[bJ,bV,AR,FR]at h1
 obtain⟨A,c9,_,h2,h3,_⟩:=h1
 exact k (by omega) ts W ⟨cs,hR'⟩
end
end Go.Proofs.YtbbabfkgdnkehaaGreat
