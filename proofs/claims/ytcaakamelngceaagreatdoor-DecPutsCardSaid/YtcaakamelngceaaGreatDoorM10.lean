/- Part 10 of a proof: U1 to Q1. -/
import Derived.Test.YtcaakamelngceaaGreatDoorM9
import Derived.Test.YtcaakamelngceaaGreatDoorM7
import Derived.Test.YtcaakamelngceaaGreatDoorM5
set_option maxRecDepth 100000
set_option linter.unusedVariables false
set_option linter.unusedSimpArgs false
namespace Go.Proofs.YtcaakamelngceaaGreatDoor
open Go Go.RowKit
theorem AY {l:List Nat}(h:Lim 256 l):((aC (l.take 1)).toList==(⟨#[46]⟩:ByteArray).toList)=decide (l.take 1=[46]):=jB (l':=[46]) (Bn h 1) (Lim.cons (by omega) Lim.nil)
theorem AZ {l:List Nat}(h:¬1≤l.length):false=decide (l.take 1=[46]):=by
 rw[List.eq_nil_of_length_eq_zero (show l.length=0 by omega)];rfl
theorem Xy:CallOk Tryz.prog 128:=.mk Tryz.func128 (by decide) rfl
theorem PX:CallOk Tryz.prog 76:=.mk Tryz.func76 (by decide) rfl
theorem LN:CallOk Tryz.prog 111:=.mk Tryz.func111 (by decide) rfl
def iF (c:Nat) (l:List Nat):Bool:=decide (l.drop (l.length-1)=[c])
def cS (c:Nat) (l:List Nat):List Nat:=if l.drop (l.length-1)=[c]then l.take (l.length-1)else l
theorem Xz {c:Nat}{l:List Nat}(hc:c<256) (h:Lim 256 l):((aC (l.drop (l.length-1))).toList==(aC [c]).toList)=iF c l:=jB (lK h _) (Lim.cons hc Lim.nil)
theorem Ya {c:Nat}{l:List Nat}(h:¬1≤l.length):false=iF c l:=by
 unfold iF
 rw[List.eq_nil_of_length_eq_zero (show l.length=0 by omega)]
 rfl
theorem Qc {c:Nat}{l:List Nat}(h:iF c l=true):1≤l.length:=by
 have:=congrArg List.length (of_decide_eq_true h)
 rw[List.length_drop]at this
 simp at this
 omega
theorem tF {c:Nat}{l:List Nat}(h:iF c l=true):l.take (l.length-1)=cS c l:=(if_pos (of_decide_eq_true h)).symm
theorem Yb {c:Nat}{l:List Nat}(h:iF c l=false):l=cS c l:=(if_neg (of_decide_eq_false h)).symm
theorem Eb {B c:Nat}{l:List Nat}(h:Lim B l):Lim B (cS c l):=by
 unfold cS
 split
 ·exact fun x hx=>h x (List.mem_of_mem_take hx)
 exact h
theorem Ec {c:Nat}{l:List Nat}:(cS c l).length≤l.length:=by
 unfold cS
 split
 ·rw[List.length_take];omega
 exact Nat.le_refl _
theorem Ed {l:List Nat}(hl:Lim 256 l):aE true Tryz.prog 145 [] [.one (tv (.string (aC l))),.one (tv (.string ⟨#[46]⟩))] (aN (.one (tv (.bool (decide (l.take 1=[46])))))):=by
 refine bF Tryz.func145 rfl Tryz.ntmps145 rfl aA rfl fun N9 w9 c0 h0=>?_
 refine sq ?_;refine rl ?_;refine o1 ?_;refine nl ?_;refine sq ?_;refine rl ?_;refine o1 ?_;refine o1 ?_
 refine WL.cast (t:=6) (u':=.int .i64 ((l.length:Nat):Int)) rfl (congrArg (fun n:Nat=>Value.int .i64 (n:Int)) (aF _)) ?_
 refine o1 ?_;refine o1 ?_;refine WL.cast (t:=8) (u':=.int .i64 ((1:Nat):Int)) rfl rfl ?_;refine o1 ?_;refine o1 ?_;refine WL.split (t:=10) rfl (fun h1=>?_) (fun h1=>?_)
 ·(iterate 3 refine o1 ?_);refine WL.cast (t:=13) (u':=.int .i64 ((1:Nat):Int)) rfl rfl ?_;refine o1 ?_ (hC:=(by rw[aF];show 1≤l.length;omega))
  refine WL.cast (t:=14) (u':=.string (aC (l.take 1))) rfl (congrArg Value.string ((gV l 0 1).trans rfl)) ?_;refine o1 ?_;refine o1 ?_
  refine WL.cast (t:=16) (u':=.bool (decide (l.take 1=[46]))) rfl (congrArg Value.bool (AY hl)) ?_;refine o1 ?_;refine o1 ?_;refine nl ?_;refine rt ?_;exact nX (.inl rfl) rfl (rfl)
 (iterate 6 refine cH ?_);refine o1 ?_;refine o1 ?_;refine nl ?_;refine rt ?_;exact nX (.inl rfl) rfl (AZ (by omega))
theorem Ur {l:List Nat}(h:l.take 1=[46]):1≤l.length:=by
 have:=congrArg List.length h
 rw[List.length_take]at this
 simp at this
 omega
theorem Ee {l:List Nat}(hl:Lim 256 l):aE true Tryz.prog 179 [] [.one (tv (.string (aC l))),.one (tv (.string ⟨#[46]⟩))] (aN (.tup [.one (tv (.string (aC (if l.take 1=[46]then l.drop 1 else l)))),.one (tv (.bool (decide (l.take 1=[46]))))])):=by
 refine bF Tryz.func179 rfl Tryz.ntmps179 rfl aA rfl fun N9 w9 c0 h0=>?_
 refine sq ?_;refine rl ?_;refine o1 ?_;refine o1 ?_;refine nl ?_;refine sq ?_;refine sq ?_;refine rl ?_;refine o1 ?_;refine o1 ?_
 refine ca (Ed hl) Yc ⟨a1 rfl,a1 rfl,rfl⟩ (.one (tv (.bool (decide (l.take 1=[46]))))) ?_;refine WL.splitb (t:=8) rfl (fun h1=>?_) (fun h1=>?_)
 ·refine o1 ?_;refine nl ?_;refine fW rfl ?_;refine sk ?_;refine sq ?_;have h9:=of_decide_eq_true h1
  refine rl ?_;(iterate 3 refine o1 ?_);refine WL.cast (t:=13) (u':=.int .i64 ((1:Nat):Int)) rfl rfl ?_;refine o1 ?_ (hC:=(by rw[aF];show 1≤l.length;exact Ur h9))
  refine WL.cast (t:=14) (u':=.string (aC (l.drop 1))) rfl (congrArg Value.string (gW _ _)) ?_;refine o1 ?_;refine o1 ?_;refine nl ?_;refine rt ?_
  exact en (.inl rfl) rfl (dB (.cons (aO _) (.cons (aO _) .nil))) (by decide) (fun _=>⟨trivial,trivial,trivial⟩) (by rw[if_pos (of_decide_eq_true h1),h1];rfl)
 refine o1 ?_;refine nl ?_;refine fX rfl ?_;refine sq ?_;refine rl ?_;(iterate 3 refine o1 ?_);refine nl ?_;refine rt ?_
 exact en (.inl rfl) rfl (dB (.cons (aO _) (.cons (aO _) .nil))) (by decide) (fun _=>⟨trivial,trivial,trivial⟩) (by rw[if_neg (of_decide_eq_false h1),h1];rfl)
theorem Ef {l:List Nat}(hl:Lim 256 l):aE true Tryz.prog 163 [] [.one (tv (.string (aC l))),.one (tv (.string ⟨#[46]⟩))] (aN (.tup [.one (tv (.string (aC (if l.take 1=[46]then l.drop 1 else l)))),.one (tv (.bool (decide (l.take 1=[46]))))])):=by
 refine bF Tryz.func163 rfl Tryz.ntmps163 rfl aA rfl fun N9 w9 c0 h0=>?_
 refine sq ?_;refine rl ?_;refine o1 ?_;refine o1 ?_;refine nl ?_;refine sq ?_;refine rl ?_;refine o1 ?_;refine o1 ?_
 refine ca (Ee hl) Yd ⟨a1 rfl,a1 rfl,rfl⟩ (.tup [.one (tv (.string (aC (if l.take 1=[46]then l.drop 1 else l)))),.one (tv (.bool (decide (l.take 1=[46]))))]) ?_
 (iterate 4 refine o1 ?_);refine nl ?_;refine rt ?_;exact en (.inl rfl) rfl (dB (.cons (aO _) (.cons (aO _) .nil))) (by decide) (fun _=>⟨trivial,trivial,trivial⟩) rfl
theorem Eg {l:List Nat}(hl:Lim 256 l) (hn:l.length≤1000000000):aE true Tryz.prog 128 [] [.one (tv (.string (aC l))),.one (tv (.string ⟨#[37]⟩))] (aN (.one (tv (.bool (iF 37 l))))):=by
 refine bF Tryz.func128 rfl Tryz.ntmps128 rfl aA rfl fun N9 w9 c0 h0=>?_
 refine sq ?_;refine rl ?_;refine o1 ?_;refine nl ?_;refine sq ?_;refine rl ?_;refine o1 ?_;refine o1 ?_
 refine WL.cast (t:=6) (u':=.int .i64 ((l.length:Nat):Int)) rfl (congrArg (fun n:Nat=>Value.int .i64 (n:Int)) (aF _)) ?_
 refine o1 ?_;refine o1 ?_;refine WL.cast (t:=8) (u':=.int .i64 ((1:Nat):Int)) rfl rfl ?_;refine o1 ?_;refine o1 ?_;refine WL.split (t:=10) rfl (fun h1=>?_) (fun h1=>?_)
 ·(iterate 3 refine o1 ?_);refine WL.cast (t:=13) (u':=.int .i64 ((l.length:Nat):Int)) rfl (congrArg (fun n:Nat=>Value.int .i64 (n:Int)) (aF _)) ?_
  refine o1 ?_;refine o1 ?_;refine WL.cast (t:=15) (u':=.int .i64 ((1:Nat):Int)) rfl rfl ?_;refine o1 ?_
  refine WL.cast (t:=16) (u':=.int .i64 ((l.length-1:Nat):Int)) rfl (aI (by omega)) ?_
  refine o1 ?_ (hC:=(by rw[aF];omega))
  refine WL.cast (t:=17) (u':=.string (aC (l.drop (l.length-1)))) rfl (congrArg Value.string (gW _ _)) ?_;refine o1 ?_;refine o1 ?_
  refine WL.cast (t:=19) (u':=.bool (iF 37 l)) rfl (congrArg Value.bool (Xz (c:=37) (by omega) hl)) ?_
  refine o1 ?_;refine o1 ?_;refine nl ?_;refine rt ?_;exact nX (.inl rfl) rfl (rfl)
 (iterate 9 refine cH ?_);refine o1 ?_;refine o1 ?_;refine nl ?_;refine rt ?_;exact nX (.inl rfl) rfl (Ya (by omega))
theorem Eh {l:List Nat}(hl:Lim 256 l) (hn:l.length≤1000000000):aE true Tryz.prog 76 [] [.one (tv (.string (aC l))),.one (tv (.string ⟨#[37]⟩))] (aN (.tup [.one (tv (.string (aC (cS 37 l)))),.one (tv (.bool (iF 37 l)))])):=by
 refine bF Tryz.func76 rfl Tryz.ntmps76 rfl aA rfl fun N9 w9 c0 h0=>?_
 refine sq ?_;refine rl ?_;refine o1 ?_;refine o1 ?_;refine nl ?_;refine sq ?_;refine sq ?_;refine rl ?_;refine o1 ?_;refine o1 ?_
 refine ca (Eg hl hn) Xy ⟨a1 rfl,a1 rfl,rfl⟩ (.one (tv (.bool (iF 37 l)))) ?_;refine WL.splitb (t:=8) rfl (fun h1=>?_) (fun h1=>?_)
 ·refine o1 ?_;refine nl ?_;refine fW rfl ?_;refine sk ?_;refine sq ?_;have h9:=Qc h1
  refine rl ?_;(iterate 3 refine o1 ?_);refine WL.cast (t:=13) (u':=.int .i64 ((l.length:Nat):Int)) rfl (congrArg (fun n:Nat=>Value.int .i64 (n:Int)) (aF _)) ?_
  refine o1 ?_;refine o1 ?_;refine WL.cast (t:=15) (u':=.int .i64 ((1:Nat):Int)) rfl rfl ?_;refine o1 ?_
  refine WL.cast (t:=16) (u':=.int .i64 ((l.length-1:Nat):Int)) rfl (aI (by omega)) ?_
  refine o1 ?_ (hC:=(by rw[aF];omega))
  refine WL.cast (t:=17) (u':=.string (aC (l.take (l.length-1)))) rfl (congrArg Value.string ((gV l 0 (l.length-1)).trans rfl)) ?_;refine o1 ?_;refine o1 ?_;refine nl ?_;refine rt ?_
  exact en (.inl rfl) rfl (dB (.cons (aO _) (.cons (aO _) .nil))) (by decide) (fun _=>⟨trivial,trivial,trivial⟩) (by rw[←tF h1,h1];rfl)
 refine o1 ?_;refine nl ?_;refine fX rfl ?_;refine sq ?_;refine rl ?_;(iterate 3 refine o1 ?_);refine nl ?_;refine rt ?_
 exact en (.inl rfl) rfl (dB (.cons (aO _) (.cons (aO _) .nil))) (by decide) (fun _=>⟨trivial,trivial,trivial⟩) (by rw[←Yb h1,h1];rfl)
theorem Ei {l:List Nat}(hl:Lim 256 l) (hn:l.length≤1000000000):aE true Tryz.prog 32 [] [.one (tv (.string (aC l))),.one (tv (.string ⟨#[37]⟩))] (aN (.tup [.one (tv (.string (aC (cS 37 l)))),.one (tv (.bool (iF 37 l)))])):=by
 refine bF Tryz.func32 rfl Tryz.ntmps32 rfl aA rfl fun N9 w9 c0 h0=>?_
 refine sq ?_;refine rl ?_;refine o1 ?_;refine o1 ?_;refine nl ?_;refine sq ?_;refine rl ?_;refine o1 ?_;refine o1 ?_
 refine ca (Eh hl hn) PX ⟨a1 rfl,a1 rfl,rfl⟩ (.tup [.one (tv (.string (aC (cS 37 l)))),.one (tv (.bool (iF 37 l)))]) ?_;(iterate 4 refine o1 ?_);refine nl ?_;refine rt ?_
 exact en (.inl rfl) rfl (dB (.cons (aO _) (.cons (aO _) .nil))) (by decide) (fun _=>⟨trivial,trivial,trivial⟩) rfl
theorem Ej {l:List Nat}(hl:Lim 256 l) (hn:l.length≤1000000000):aE true Tryz.prog 128 [] [.one (tv (.string (aC l))),.one (tv (.string ⟨#[46]⟩))] (aN (.one (tv (.bool (iF 46 l))))):=by
 refine bF Tryz.func128 rfl Tryz.ntmps128 rfl aA rfl fun N9 w9 c0 h0=>?_
 refine sq ?_;refine rl ?_;refine o1 ?_;refine nl ?_;refine sq ?_;refine rl ?_;refine o1 ?_;refine o1 ?_
 refine WL.cast (t:=6) (u':=.int .i64 ((l.length:Nat):Int)) rfl (congrArg (fun n:Nat=>Value.int .i64 (n:Int)) (aF _)) ?_
 refine o1 ?_;refine o1 ?_;refine WL.cast (t:=8) (u':=.int .i64 ((1:Nat):Int)) rfl rfl ?_;refine o1 ?_;refine o1 ?_;refine WL.split (t:=10) rfl (fun h1=>?_) (fun h1=>?_)
 ·(iterate 3 refine o1 ?_);refine WL.cast (t:=13) (u':=.int .i64 ((l.length:Nat):Int)) rfl (congrArg (fun n:Nat=>Value.int .i64 (n:Int)) (aF _)) ?_
  refine o1 ?_;refine o1 ?_;refine WL.cast (t:=15) (u':=.int .i64 ((1:Nat):Int)) rfl rfl ?_;refine o1 ?_
  refine WL.cast (t:=16) (u':=.int .i64 ((l.length-1:Nat):Int)) rfl (aI (by omega)) ?_
  refine o1 ?_ (hC:=(by rw[aF];omega))
  refine WL.cast (t:=17) (u':=.string (aC (l.drop (l.length-1)))) rfl (congrArg Value.string (gW _ _)) ?_;refine o1 ?_;refine o1 ?_
  refine WL.cast (t:=19) (u':=.bool (iF 46 l)) rfl (congrArg Value.bool (Xz (c:=46) (by omega) hl)) ?_
  refine o1 ?_;refine o1 ?_;refine nl ?_;refine rt ?_;exact nX (.inl rfl) rfl (rfl)
 (iterate 9 refine cH ?_);refine o1 ?_;refine o1 ?_;refine nl ?_;refine rt ?_;exact nX (.inl rfl) rfl (Ya (by omega))
theorem Cp {l:List Nat}(hl:Lim 256 l) (hn:l.length≤1000000000):aE true Tryz.prog 111 [] [.one (tv (.string (aC l))),.one (tv (.string ⟨#[46]⟩))] (aN (.one (tv (.string (aC (cS 46 l)))))):=by
 refine bF Tryz.func111 rfl Tryz.ntmps111 rfl aA rfl fun N9 w9 c0 h0=>?_
 refine sq ?_;refine rl ?_;refine o1 ?_;refine nl ?_;refine sq ?_;refine sq ?_;refine rl ?_;refine o1 ?_;refine o1 ?_
 refine ca (Ej hl hn) Xy ⟨a1 rfl,a1 rfl,rfl⟩ (.one (tv (.bool (iF 46 l)))) ?_;refine nl ?_;refine iL rfl (fun h1=>?_) (fun h1=>?_)
 ·refine sq ?_;have h9:=Qc h1
  refine rl ?_;(iterate 3 refine o1 ?_);refine WL.cast (t:=10) (u':=.int .i64 ((l.length:Nat):Int)) rfl (congrArg (fun n:Nat=>Value.int .i64 (n:Int)) (aF _)) ?_
  refine o1 ?_;refine o1 ?_;refine WL.cast (t:=12) (u':=.int .i64 ((1:Nat):Int)) rfl rfl ?_;refine o1 ?_
  refine WL.cast (t:=13) (u':=.int .i64 ((l.length-1:Nat):Int)) rfl (aI (by omega)) ?_
  refine o1 ?_ (hC:=(by rw[aF];omega))
  refine WL.cast (t:=14) (u':=.string (aC (l.take (l.length-1)))) rfl (congrArg Value.string ((gV l 0 (l.length-1)).trans rfl)) ?_;refine o1 ?_;refine nl ?_;refine rt ?_
  exact en (.inl rfl) rfl (aV (aO _)) (by decide) (fun _=>trivial) (congrArg (fun z=>FV.one (tv (.string z))) (congrArg aC (tF h1)))
 refine sk ?_;refine sq ?_;refine rl ?_;refine o1 ?_;refine o1 ?_;refine nl ?_;refine rt ?_
 exact en (.inl rfl) rfl (aV (aO _)) (by decide) (fun _=>trivial) (congrArg (fun z=>FV.one (tv (.string z))) (congrArg aC (Yb h1)))
theorem Cq {l:List Nat}(hl:Lim 256 l) (hn:l.length≤1000000000):aE true Tryz.prog 57 [] [.one (tv (.string (aC l))),.one (tv (.string ⟨#[46]⟩))] (aN (.one (tv (.string (aC (cS 46 l)))))):=by
 refine bF Tryz.func57 rfl Tryz.ntmps57 rfl aA rfl fun N9 w9 c0 h0=>?_
 refine sq ?_;refine rl ?_;refine o1 ?_;refine nl ?_;refine sq ?_;refine rl ?_;refine o1 ?_;refine o1 ?_
 refine ca (Cp hl hn) LN ⟨a1 rfl,a1 rfl,rfl⟩ (.one (tv (.string (aC (cS 46 l))))) ?_;refine o1 ?_;refine nl ?_;refine rt ?_
 exact en (.inl rfl) rfl (aV (aO _)) (by decide) (fun _=>trivial) (congrArg (fun z=>FV.one (tv (.string z))) (rfl))
theorem pX {l:List Nat}(h:decide (l=[])=false):0<l.length:=by
 cases l with
 | nil=>simp at h
 | cons _ _=>simp
theorem Ji {l:List Nat}{j:Nat}(h:(!decide (l.drop j=[]))=true):j<l.length:=by
 rcases Nat.lt_or_ge j l.length with h1 | h1
 ·exact h1
 rw[List.drop_of_length_le h1]at h;simp at h
theorem Jj {l:List Nat}{j:Nat}(h:(!decide (l.drop j=[]))=false):l.length≤j:=by
 rcases Nat.lt_or_ge j l.length with h1 | h1
 ·have h2:=of_decide_eq_true (Qd h)
  have h3:=congrArg List.length h2
  rw[List.length_drop,List.length_nil]at h3
  omega
 exact h1
theorem BA {l:List Nat}(hl:Lim 256 l) (hn:l.length≤9223372036854775807):aE true Tryz.prog 126 [] [.one (tv (.string (aC l)))] (aN (.tup [.one (.t (sU true (dg 4294967296 (Jk l)))),.one (tv (.int .i64 (sN l)))])):=by
 refine bF Tryz.func126 rfl Tryz.ntmps126 rfl aA rfl fun N9 w9 c0 h0=>?_
 refine sq ?_;refine rl ?_;refine o1 ?_;refine o1 ?_;refine nl ?_;refine sq ?_;refine bl ?_;refine sq ?_;refine sq ?_;refine rl ?_;refine o1 ?_;refine o1 ?_
 refine WL.cast (t:=10) (u':=.bool (decide (l=[]))) rfl (congrArg Value.bool (gX hl)) ?_;refine o1 ?_;refine nl ?_;refine iL rfl (fun h1=>?_) (fun h1=>?_)
 ·refine sk ?_;refine fX (congrArg (fun b=>FV.one (tv (.bool b))) h1) ?_
  refine sq ?_;refine rl ?_;refine o1 ?_;refine o1 ?_;refine nl ?_;refine rt ?_;have he:=Cv (LO h1)
  exact en (.inl rfl) rfl (dB (.cons (.one (.nil (t:=115) (z:=1))) (.cons (aO _) .nil))) (by decide) (fun _=>⟨.inl ⟨rfl,trivial⟩,trivial,trivial⟩) (by rw[he,uU (by rw[he];decide)];rfl)
 refine sq ?_;have hp9:=pX h1
 refine rl ?_;refine o1 ?_;refine o1 ?_
 refine WL.cast (t:=12) (u':=.bool (!decide (l=[48]))) rfl (congrArg Value.bool (congrArg not (jB (l':=[48]) hl (Lim.cons (by omega) Lim.nil)))) ?_
 refine o1 ?_;refine WL.splitb (t:=13) rfl (fun h2=>?_) (fun h2=>?_)
 ·refine o1 ?_;refine o1 ?_ (hC:=(by rw[aF];show 0<l.length;omega))
  refine WL.cast (t:=15) (u':=.int .u8 (((nth l 0):Nat):Int)) rfl (congrArg (fun n:Nat=>Value.int .u8 (n:Int)) (eM (i:=0) (by omega) (dR hl (by omega)))) ?_
  (iterate 3 refine o1 ?_);refine nl ?_;refine bR rfl (fun h3=>?_) (fun h3=>?_)
  ·refine sk ?_;refine bR rfl (fun h4=>?_) (fun h4=>?_)
   ·refine sq ?_;refine rl ?_;refine o1 ?_;refine o1 ?_;refine nl ?_;refine rt ?_;have he:=Cv (LP (Jl h2) (by omega))
    exact en (.inl rfl) rfl (dB (.cons (.one (.nil (t:=115) (z:=1))) (.cons (aO _) .nil))) (by decide) (fun _=>⟨.inl ⟨rfl,trivial⟩,trivial,trivial⟩) (by rw[he,uU (by rw[he];decide)];rfl)
   omega
  refine rl ?_;refine o1 ?_;refine ca (Ek hn) Ms ⟨a1 rfl,a1 rfl,rfl⟩ (.one (tv (.string ⟨(Lib.trimS (aC l).data.toList [48,49,50,51,52,53,54,55,56,57]).toArray⟩))) ?_
  refine o1 ?_;refine WL.cast (t:=20) (u':=.bool (!sO l)) rfl (congrArg Value.bool (congrArg not (Jm hl))) ?_;refine o1 ?_;refine nl ?_;refine iL rfl (fun h5=>?_) (fun h5=>?_)
  ·refine sq ?_;refine rl ?_;refine o1 ?_;refine o1 ?_;refine nl ?_;refine rt ?_;have he:=Cv (Mt (Jl h5))
   exact en (.inl rfl) rfl (dB (.cons (.one (.nil (t:=115) (z:=1))) (.cons (aO _) .nil))) (by decide) (fun _=>⟨.inl ⟨rfl,trivial⟩,trivial,trivial⟩) (by rw[he,uU (by rw[he];decide)];rfl)
  refine sq ?_;have hg:=xN h1 (.inr (by omega)) (Qd h5)
  have hdg:=Qe hg
  refine rl ?_;refine o1 ?_;refine o1 ?_;refine WL.cast (t:=23) (u':=.int .i64 ((l.length:Nat):Int)) rfl (congrArg (fun n:Nat=>Value.int .i64 (n:Int)) (aF _)) ?_
  refine o1 ?_;refine o1 ?_;refine nl ?_;refine bR rfl (fun h6=>?_) (fun h6=>?_)
  ·refine sq ?_;refine rl ?_;refine o1 ?_;refine o1 ?_;refine nl ?_;refine rt ?_;have he:=FQ hg (by omega)
   exact en (.inl rfl) rfl (dB (.cons (.one (.nil (t:=115) (z:=1))) (.cons (aO _) .nil))) (by decide) (fun _=>⟨.inl ⟨rfl,trivial⟩,trivial,trivial⟩) (by rw[he,uU (by rw[he];decide)];rfl)
  refine sk ?_;refine sq ?_;refine rl ?_;refine o1 ?_;refine nl ?_;refine sq ?_;refine sq ?_;refine rl ?_;refine o1 ?_;refine o1 ?_
  refine WL.cast (t:=26) (u':=.int .i64 ((l.length:Nat):Int)) rfl (congrArg (fun n:Nat=>Value.int .i64 (n:Int)) (aF _)) ?_
  refine o1 ?_;refine WL.cast (t:=27) (u':=.int .i64 ((l.length%9:Nat):Int)) rfl (aI (fK _ 9)) ?_;refine o1 ?_;refine nl ?_;refine bl ?_
  refine lp (γ:=Nat×Nat) (fun s=>cE [(0,.one (tv (.string (aC (l.drop s.1))))),(4,.one (.sl 0 0 ((dg 4294967296 (bT (l.take s.1))).length))),(5,.one (tv (.int .i64 ((s.2:Nat):Int))))]) (fun s=>[(⟨115,1,(aR (dg 4294967296 (bT (l.take s.1)))).map .t⟩:Ob)].map some) (fun s=>s.1≤l.length∧(s.1=0∧s.2=l.length%9∨0<s.1∧s.2=9∧(l.length-s.1)%9=0)) (fun s=>l.length-s.1) (0,l.length%9) ⟨Nat.zero_le _,.inl ⟨rfl,rfl⟩⟩ ((nr (i:=4) 0 115 1 rfl rfl rfl rfl).trans (aQ h0 [0] _ _ (by decide) ⟨rfl,rfl,rfl,trivial⟩ ⟨cV (l:=[]) rfl,rfl⟩)) ?_
  rintro⟨j,f⟩ ⟨hj,hf⟩;dsimp only at hj hf⊢;refine sq ?_;refine sq ?_;refine rl ?_;refine o1 ?_;refine o1 ?_
  refine WL.cast (t:=29) (u':=.bool (!decide (l.drop j=[]))) rfl (congrArg Value.bool (congrArg not (gX (lK hl j)))) ?_;refine nl ?_
  refine iL rfl (fun h7=>?_) (fun h7=>?_)
  ·refine sk ?_;refine sq ?_;refine bl ?_;refine sq ?_;refine sq ?_;have hjl:=Ji h7
   refine rl ?_;refine o1 ?_;refine o1 ?_;refine nl ?_;refine bR rfl (fun h8=>?_) (fun h8=>?_)
   ·refine rl ?_;refine o1 ?_;refine nl ?_;refine sq ?_;refine rl ?_;refine o1 ?_;refine o1 ?_;refine o1 ?_ (hC:=(by rw[aF,List.length_drop];show 9≤l.length-j;omega))
    refine WL.cast (t:=35) (u':=.string (aC ((l.drop j).take 9))) rfl (congrArg Value.string ((gV _ 0 _).trans rfl)) ?_
    refine ca (xO (l:=((l.drop j).take 9)) (rD hdg j 9) (by rw[List.length_take,List.length_drop];omega) (by rw[List.length_take];omega)) Cw ⟨a1 rfl,rfl⟩ (.tup [.one (tv (.int .i64 ((bT ((l.drop j).take 9):Nat):Int))),.one (tv .nilIface)]) ?_
    (iterate 5 refine o1 ?_);refine nl ?_;refine sq ?_;have hpl:=rE hdg (j:=j) (f:=9) (by omega) (by omega)
    have hpc:=oS (l:=l) (j:=j) (f:=9) (by omega) (by omega)
    have hl1:=pY hdg hj
    have hl2:=kK (bT (l.take j)) 1000000000
    have hl3:(dg 4294967296 1000000000).length≤1:=bN (by omega) (by decide)
    refine rl ?_;refine o1 ?_
    refine ca (xP (u:=bT (l.take j)) (m:=1000000000) (by omega) (by omega)) xQ ⟨nY rfl (.sl rfl rfl (kL _) (aX _)),a1 rfl,rfl⟩ (.one (.t (sU false (dg 4294967296 (bT (l.take j)*1000000000))))) ?_
    refine o1 ?_;refine o1 ?_;refine WL.cast (t:=42) (u':=.int .u32 ((bT ((l.drop j).take 9):Nat):Int)) rfl (aI (by omega)) ?_
    refine bs 1 ?_
    refine gH 2 (xR (u:=bT (l.take j)*1000000000) (x:=bT ((l.drop j).take 9)) (by omega) (by omega)) uV ⟨a1 rfl,nY rfl (.sl (trs:=aR [bT ((l.drop j).take 9)]) rfl rfl rfl rfl),rfl⟩ ?_
    refine o1 ?_;refine nl ?_;refine rl ?_;refine o1 ?_;refine o1 ?_;refine o1 ?_ (hC:=(by rw[aF,List.length_drop];show 9≤l.length-j;omega))
    refine WL.cast (t:=47) (u':=.string (aC ((l.drop j).drop 9))) rfl (congrArg Value.string (gW _ _)) ?_;refine o1 ?_;refine nl ?_;refine rl ?_;refine o1 ?_;refine nl ?_
    exact⟨(j+9,9),by dsimp only;omega,⟨by dsimp only;omega,.inr ⟨by dsimp only;omega,rfl,by dsimp only;omega⟩⟩,aQ h0 [2] _ _ (by decide) ⟨(congrArg (fun l:List Nat=>some (FV.one (tv (.string (aC l))))) (by rw[List.drop_drop])),(congrArg (fun z:Nat=>some (FV.one (.sl 2 0 (dg 4294967296 z).length))) hpc.symm),rfl,trivial⟩ ⟨cV (congrArg (fun z:Nat=>some (⟨115,1,(aR (dg 4294967296 z)).map .t⟩:Ob)) hpc),rfl⟩⟩
   refine sk ?_;refine sq ?_;refine rl ?_;refine o1 ?_;refine o1 ?_;refine o1 ?_ (hC:=(by rw[aF,List.length_drop];show f≤l.length-j;omega))
   refine WL.cast (t:=35) (u':=.string (aC ((l.drop j).take f))) rfl (congrArg Value.string ((gV _ 0 _).trans rfl)) ?_
   refine ca (xO (l:=((l.drop j).take f)) (rD hdg j f) (by rw[List.length_take,List.length_drop];omega) (by rw[List.length_take];omega)) Cw ⟨a1 rfl,rfl⟩ (.tup [.one (tv (.int .i64 ((bT ((l.drop j).take f):Nat):Int))),.one (tv .nilIface)]) ?_
   (iterate 5 refine o1 ?_);refine nl ?_;refine sq ?_;have hpl:=rE hdg (j:=j) (f:=f) (by omega) (by omega)
   have hpc:=oS (l:=l) (j:=j) (f:=f) (by omega) (by omega)
   have hl1:=pY hdg hj
   have hl2:=kK (bT (l.take j)) 1000000000
   have hl3:(dg 4294967296 1000000000).length≤1:=bN (by omega) (by decide)
   refine rl ?_;refine o1 ?_
   refine ca (xP (u:=bT (l.take j)) (m:=1000000000) (by omega) (by omega)) xQ ⟨nY rfl (.sl rfl rfl (kL _) (aX _)),a1 rfl,rfl⟩ (.one (.t (sU false (dg 4294967296 (bT (l.take j)*1000000000))))) ?_
   refine o1 ?_;refine o1 ?_;refine WL.cast (t:=42) (u':=.int .u32 ((bT ((l.drop j).take f):Nat):Int)) rfl (aI (by omega)) ?_
   refine bs 1 ?_
   refine gH 2 (xR (u:=bT (l.take j)*1000000000) (x:=bT ((l.drop j).take f)) (by omega) (by omega)) uV ⟨a1 rfl,nY rfl (.sl (trs:=aR [bT ((l.drop j).take f)]) rfl rfl rfl rfl),rfl⟩ ?_
   refine o1 ?_;refine nl ?_;refine rl ?_;refine o1 ?_;refine o1 ?_;refine o1 ?_ (hC:=(by rw[aF,List.length_drop];show f≤l.length-j;omega))
   refine WL.cast (t:=47) (u':=.string (aC ((l.drop j).drop f))) rfl (congrArg Value.string (gW _ _)) ?_;refine o1 ?_;refine nl ?_;refine rl ?_;refine o1 ?_;refine nl ?_
   exact⟨(j+f,9),by dsimp only;omega,⟨by dsimp only;omega,.inr ⟨by dsimp only;omega,rfl,by dsimp only;omega⟩⟩,aQ h0 [2] _ _ (by decide) ⟨(congrArg (fun l:List Nat=>some (FV.one (tv (.string (aC l))))) (by rw[List.drop_drop])),(congrArg (fun z:Nat=>some (FV.one (.sl 2 0 (dg 4294967296 z).length))) hpc.symm),rfl,trivial⟩ ⟨cV (congrArg (fun z:Nat=>some (⟨115,1,(aR (dg 4294967296 z)).map .t⟩:Ob)) hpc),rfl⟩⟩
  refine ex ?_;refine sq ?_;refine rl ?_;(iterate 3 refine o1 ?_);refine nl ?_;refine rt ?_;have hjl:=Jj h7
  have he:=Us hg (by omega)
  exact en (.inl rfl) rfl (dB (.cons (.one (.sl (trs:=aR (dg 4294967296 (bT (l.take j)))) rfl rfl (bL _) (aX _))) (.cons (aO _) .nil))) (by decide) (fun _=>⟨.inl ⟨rfl,dU _⟩,trivial,trivial⟩) (by rw[he,Mu he,List.take_of_length_le hjl];rfl)
 (iterate 3 refine cH ?_);refine o1 ?_;refine o1 ?_;refine nl ?_;refine fW rfl ?_;refine rl ?_;refine o1 ?_
 refine ca (Ek hn) Ms ⟨a1 rfl,a1 rfl,rfl⟩ (.one (tv (.string ⟨(Lib.trimS (aC l).data.toList [48,49,50,51,52,53,54,55,56,57]).toArray⟩))) ?_;refine o1 ?_
 refine WL.cast (t:=20) (u':=.bool (!sO l)) rfl (congrArg Value.bool (congrArg not (Jm hl))) ?_;refine o1 ?_;refine nl ?_;refine iL rfl (fun h9=>?_) (fun h9=>?_)
 ·refine sq ?_;refine rl ?_;refine o1 ?_;refine o1 ?_;refine nl ?_;refine rt ?_;have he:=Cv (Mt (Jl h9))
  exact en (.inl rfl) rfl (dB (.cons (.one (.nil (t:=115) (z:=1))) (.cons (aO _) .nil))) (by decide) (fun _=>⟨.inl ⟨rfl,trivial⟩,trivial,trivial⟩) (by rw[he,uU (by rw[he];decide)];rfl)
 refine sq ?_;have hg:=xN h1 (.inl (Qd h2)) (Qd h9)
 have hdg:=Qe hg
 refine rl ?_;refine o1 ?_;refine o1 ?_;refine WL.cast (t:=23) (u':=.int .i64 ((l.length:Nat):Int)) rfl (congrArg (fun n:Nat=>Value.int .i64 (n:Int)) (aF _)) ?_
 refine o1 ?_;refine o1 ?_;refine nl ?_;refine bR rfl (fun h10=>?_) (fun h10=>?_)
 ·refine sq ?_;refine rl ?_;refine o1 ?_;refine o1 ?_;refine nl ?_;refine rt ?_;have he:=FQ hg (by omega)
  exact en (.inl rfl) rfl (dB (.cons (.one (.nil (t:=115) (z:=1))) (.cons (aO _) .nil))) (by decide) (fun _=>⟨.inl ⟨rfl,trivial⟩,trivial,trivial⟩) (by rw[he,uU (by rw[he];decide)];rfl)
 refine sk ?_;refine sq ?_;refine rl ?_;refine o1 ?_;refine nl ?_;refine sq ?_;refine sq ?_;refine rl ?_;refine o1 ?_;refine o1 ?_
 refine WL.cast (t:=26) (u':=.int .i64 ((l.length:Nat):Int)) rfl (congrArg (fun n:Nat=>Value.int .i64 (n:Int)) (aF _)) ?_
 refine o1 ?_;refine WL.cast (t:=27) (u':=.int .i64 ((l.length%9:Nat):Int)) rfl (aI (fK _ 9)) ?_;refine o1 ?_;refine nl ?_;refine bl ?_
 refine lp (γ:=Nat×Nat) (fun s=>cE [(0,.one (tv (.string (aC (l.drop s.1))))),(4,.one (.sl 0 0 ((dg 4294967296 (bT (l.take s.1))).length))),(5,.one (tv (.int .i64 ((s.2:Nat):Int))))]) (fun s=>[(⟨115,1,(aR (dg 4294967296 (bT (l.take s.1)))).map .t⟩:Ob)].map some) (fun s=>s.1≤l.length∧(s.1=0∧s.2=l.length%9∨0<s.1∧s.2=9∧(l.length-s.1)%9=0)) (fun s=>l.length-s.1) (0,l.length%9) ⟨Nat.zero_le _,.inl ⟨rfl,rfl⟩⟩ ((nr (i:=4) 0 115 1 rfl rfl rfl rfl).trans (aQ h0 [0] _ _ (by decide) ⟨rfl,rfl,rfl,trivial⟩ ⟨cV (l:=[]) rfl,rfl⟩)) ?_
 rintro⟨j,f⟩ ⟨hj,hf⟩;dsimp only at hj hf⊢;refine sq ?_;refine sq ?_;refine rl ?_;refine o1 ?_;refine o1 ?_
 refine WL.cast (t:=29) (u':=.bool (!decide (l.drop j=[]))) rfl (congrArg Value.bool (congrArg not (gX (lK hl j)))) ?_;refine nl ?_
 refine iL rfl (fun h11=>?_) (fun h11=>?_)
 ·refine sk ?_;refine sq ?_;refine bl ?_;refine sq ?_;refine sq ?_;have hjl:=Ji h11
  refine rl ?_;refine o1 ?_;refine o1 ?_;refine nl ?_;refine bR rfl (fun h12=>?_) (fun h12=>?_)
  ·refine rl ?_;refine o1 ?_;refine nl ?_;refine sq ?_;refine rl ?_;refine o1 ?_;refine o1 ?_;refine o1 ?_ (hC:=(by rw[aF,List.length_drop];show 9≤l.length-j;omega))
   refine WL.cast (t:=35) (u':=.string (aC ((l.drop j).take 9))) rfl (congrArg Value.string ((gV _ 0 _).trans rfl)) ?_
   refine ca (xO (l:=((l.drop j).take 9)) (rD hdg j 9) (by rw[List.length_take,List.length_drop];omega) (by rw[List.length_take];omega)) Cw ⟨a1 rfl,rfl⟩ (.tup [.one (tv (.int .i64 ((bT ((l.drop j).take 9):Nat):Int))),.one (tv .nilIface)]) ?_
   (iterate 5 refine o1 ?_);refine nl ?_;refine sq ?_;have hpl:=rE hdg (j:=j) (f:=9) (by omega) (by omega)
   have hpc:=oS (l:=l) (j:=j) (f:=9) (by omega) (by omega)
   have hl1:=pY hdg hj
   have hl2:=kK (bT (l.take j)) 1000000000
   have hl3:(dg 4294967296 1000000000).length≤1:=bN (by omega) (by decide)
   refine rl ?_;refine o1 ?_
   refine ca (xP (u:=bT (l.take j)) (m:=1000000000) (by omega) (by omega)) xQ ⟨nY rfl (.sl rfl rfl (kL _) (aX _)),a1 rfl,rfl⟩ (.one (.t (sU false (dg 4294967296 (bT (l.take j)*1000000000))))) ?_
   refine o1 ?_;refine o1 ?_;refine WL.cast (t:=42) (u':=.int .u32 ((bT ((l.drop j).take 9):Nat):Int)) rfl (aI (by omega)) ?_
   refine bs 1 ?_
   refine gH 2 (xR (u:=bT (l.take j)*1000000000) (x:=bT ((l.drop j).take 9)) (by omega) (by omega)) uV ⟨a1 rfl,nY rfl (.sl (trs:=aR [bT ((l.drop j).take 9)]) rfl rfl rfl rfl),rfl⟩ ?_
   refine o1 ?_;refine nl ?_;refine rl ?_;refine o1 ?_;refine o1 ?_;refine o1 ?_ (hC:=(by rw[aF,List.length_drop];show 9≤l.length-j;omega))
   refine WL.cast (t:=47) (u':=.string (aC ((l.drop j).drop 9))) rfl (congrArg Value.string (gW _ _)) ?_;refine o1 ?_;refine nl ?_;refine rl ?_;refine o1 ?_;refine nl ?_
   exact⟨(j+9,9),by dsimp only;omega,⟨by dsimp only;omega,.inr ⟨by dsimp only;omega,rfl,by dsimp only;omega⟩⟩,aQ h0 [2] _ _ (by decide) ⟨(congrArg (fun l:List Nat=>some (FV.one (tv (.string (aC l))))) (by rw[List.drop_drop])),(congrArg (fun z:Nat=>some (FV.one (.sl 2 0 (dg 4294967296 z).length))) hpc.symm),rfl,trivial⟩ ⟨cV (congrArg (fun z:Nat=>some (⟨115,1,(aR (dg 4294967296 z)).map .t⟩:Ob)) hpc),rfl⟩⟩
  refine sk ?_;refine sq ?_;refine rl ?_;refine o1 ?_;refine o1 ?_;refine o1 ?_ (hC:=(by rw[aF,List.length_drop];show f≤l.length-j;omega))
  refine WL.cast (t:=35) (u':=.string (aC ((l.drop j).take f))) rfl (congrArg Value.string ((gV _ 0 _).trans rfl)) ?_
  refine ca (xO (l:=((l.drop j).take f)) (rD hdg j f) (by rw[List.length_take,List.length_drop];omega) (by rw[List.length_take];omega)) Cw ⟨a1 rfl,rfl⟩ (.tup [.one (tv (.int .i64 ((bT ((l.drop j).take f):Nat):Int))),.one (tv .nilIface)]) ?_
  (iterate 5 refine o1 ?_);refine nl ?_;refine sq ?_;have hpl:=rE hdg (j:=j) (f:=f) (by omega) (by omega)
  have hpc:=oS (l:=l) (j:=j) (f:=f) (by omega) (by omega)
  have hl1:=pY hdg hj
  have hl2:=kK (bT (l.take j)) 1000000000
  have hl3:(dg 4294967296 1000000000).length≤1:=bN (by omega) (by decide)
  refine rl ?_;refine o1 ?_
  refine ca (xP (u:=bT (l.take j)) (m:=1000000000) (by omega) (by omega)) xQ ⟨nY rfl (.sl rfl rfl (kL _) (aX _)),a1 rfl,rfl⟩ (.one (.t (sU false (dg 4294967296 (bT (l.take j)*1000000000))))) ?_
  refine o1 ?_;refine o1 ?_;refine WL.cast (t:=42) (u':=.int .u32 ((bT ((l.drop j).take f):Nat):Int)) rfl (aI (by omega)) ?_
  refine bs 1 ?_
  refine gH 2 (xR (u:=bT (l.take j)*1000000000) (x:=bT ((l.drop j).take f)) (by omega) (by omega)) uV ⟨a1 rfl,nY rfl (.sl (trs:=aR [bT ((l.drop j).take f)]) rfl rfl rfl rfl),rfl⟩ ?_
  refine o1 ?_;refine nl ?_;refine rl ?_;refine o1 ?_;refine o1 ?_;refine o1 ?_ (hC:=(by rw[aF,List.length_drop];show f≤l.length-j;omega))
  refine WL.cast (t:=47) (u':=.string (aC ((l.drop j).drop f))) rfl (congrArg Value.string (gW _ _)) ?_;refine o1 ?_;refine nl ?_;refine rl ?_;refine o1 ?_;refine nl ?_
  exact⟨(j+f,9),by dsimp only;omega,⟨by dsimp only;omega,.inr ⟨by dsimp only;omega,rfl,by dsimp only;omega⟩⟩,aQ h0 [2] _ _ (by decide) ⟨(congrArg (fun l:List Nat=>some (FV.one (tv (.string (aC l))))) (by rw[List.drop_drop])),(congrArg (fun z:Nat=>some (FV.one (.sl 2 0 (dg 4294967296 z).length))) hpc.symm),rfl,trivial⟩ ⟨cV (congrArg (fun z:Nat=>some (⟨115,1,(aR (dg 4294967296 z)).map .t⟩:Ob)) hpc),rfl⟩⟩
 refine ex ?_;refine sq ?_;refine rl ?_;(iterate 3 refine o1 ?_);refine nl ?_;refine rt ?_;have hjl:=Jj h11
 have he:=Us hg (by omega)
 exact en (.inl rfl) rfl (dB (.cons (.one (.sl (trs:=aR (dg 4294967296 (bT (l.take j)))) rfl rfl (bL _) (aX _))) (.cons (aO _) .nil))) (by decide) (fun _=>⟨.inl ⟨rfl,dU _⟩,trivial,trivial⟩) (by rw[he,Mu he,List.take_of_length_le hjl];rfl)
theorem pZ {p:Rat}{L:Nat}(h:Sz L p) (hL:L≤68719476736:=by omega):Zg (.of p.num) p.num:=.of (Nat.le_trans h.1 (by omega))
theorem kM {p:Rat}{L:Nat}(h:Sz L p) (hL:L≤68719476736:=by omega):Zg ⟨false,dg 4294967296 p.den⟩ (p.den:Int):=⟨aM (by omega) _,Nat.le_trans h.2 (by omega),lL p.den⟩
theorem Mv {q:Rat}{n d:Int}(h1:q.num=n) (h2:(q.den:Int)=d):FV.agg [tv (.bool (aL n)),.t (sU true (dg 4294967296 n.natAbs)),tv (.bool (aL d)),.t (sU true (dg 4294967296 d.natAbs))]=qO q:=by
 subst h1 h2
 rw[uW]
 rfl
theorem tG {a b:Zi}{k k':Int}(ha:Zg a k) (hb:Zg b k') (hz0:k'≠0):aE true Tryz.prog 110 [] [gF a,gF b] (aN (qO (Rat.divInt k k'))):=by
 refine bF Tryz.func110 rfl Tryz.ntmps110 rfl aA rfl fun N w c0 h0=>?_
 have hkl:=ha.len
 have hkl':=hb.len
 have hgl:(dg 4294967296 ((Int.gcd k k':Nat):Int).natAbs).length≤300000000000:=Nat.le_trans (dC (Nat.le_of_dvd (by omega) (Nat.gcd_dvd_right ..))) hkl'
 have hng:=jY ((Int.gcd k k':Nat):Int)
 have hg0:((Int.gcd k k':Nat):Int)≠0:=fun e=>hz0 (Int.gcd_eq_zero_iff.1 (show Int.gcd k k'=0 by omega)).2
 refine sq ?_;refine rl ?_;refine bx 0 ?_;refine bx 1 ?_;refine al 2 ?_;refine nl ?_;refine sq ?_;refine rl ?_;refine ld ?_;refine ld ?_
 refine ca (Ye ha hb) Yf ⟨aB rfl,aB rfl,rfl⟩ (kF (((Int.gcd k k':Nat):Int))) ?_;refine al 3 ?_;refine st ?_;refine nl ?_;refine sq ?_;refine sq ?_;refine rl ?_;refine ld ?_
 refine ca (qA hb) zS ⟨aB rfl,rfl⟩ (.one (tv (.int .i64 k'.sign))) ?_;refine o1 ?_;refine nl ?_;refine bR rfl (fun h1=>?_) (fun h1=>?_)
 ·refine rl ?_;refine ld ?_;refine ca (LQ (Zg.of (k:=((Int.gcd k k':Nat):Int)) hgl)) PY ⟨aB rfl,rfl⟩ (kF (-(((Int.gcd k k':Nat):Int)))) ?_;refine st ?_;refine nl ?_;refine sq ?_
  refine rl ?_;refine ld ?_;refine ld ?_;refine gH 4 (nZ ha (Zg.of (k:=(-(((Int.gcd k k':Nat):Int)))) (by omega)) (by omega)) xS ⟨aB rfl,aB rfl,rfl⟩ ?_
  (iterate 4 refine o1 ?_);refine al 6 ?_;refine al 7 ?_;refine st ?_;refine st ?_;refine o1 ?_;refine nl ?_;refine sq ?_;refine rl ?_;refine ld ?_;refine ld ?_
  refine gH 8 (nZ hb (Zg.of (k:=(-(((Int.gcd k k':Nat):Int)))) (by omega)) (by omega)) xS ⟨aB rfl,aB rfl,rfl⟩ ?_
  (iterate 4 refine o1 ?_);refine al 10 ?_;refine al 11 ?_;refine st ?_;refine st ?_;refine o1 ?_;refine nl ?_;refine sq ?_;refine rl ?_;refine ld ?_;refine ld ?_;refine o1 ?_
  refine st ?_;refine nl ?_;refine rt ?_;have hk9:k'<0:=by
   rcases Int.lt_trichotomy k' 0 with h8 | h8 | h8
   ·exact h8
   ·exact absurd h8 hz0
   rw[Int.sign_eq_one_of_pos h8]at h1;omega
  have h9:=El (N:=k) (D:=k') hk9
  exact en (.inl rfl) rfl (aV (.agg (.cons (.id rfl) (.cons (.sl (trs:=aR (dg 4294967296 (((k).fdiv (-(((Int.gcd k k':Nat):Int))))).natAbs)) rfl rfl (bL _) (aX _)) (.cons (.id rfl) (.cons (.sl (trs:=aR (dg 4294967296 (((k').fdiv (-(((Int.gcd k k':Nat):Int))))).natAbs)) rfl rfl (bL _) (aX _)) (.nil))))))) (by decide) (fun _=>Em (⟨aL ((k).fdiv (-(((Int.gcd k k':Nat):Int)))),dg 4294967296 (((k).fdiv (-(((Int.gcd k k':Nat):Int))))).natAbs,aL ((k').fdiv (-(((Int.gcd k k':Nat):Int)))),dg 4294967296 (((k').fdiv (-(((Int.gcd k k':Nat):Int))))).natAbs⟩:Fr4)) (Mv h9.1 h9.2)
 refine sk ?_;refine sq ?_;refine rl ?_;refine ld ?_;refine ld ?_;refine gH 4 (nZ ha (Zg.of (k:=((Int.gcd k k':Nat):Int)) (by omega)) (by omega)) xS ⟨aB rfl,aB rfl,rfl⟩ ?_
 (iterate 4 refine o1 ?_);refine al 6 ?_;refine al 7 ?_;refine st ?_;refine st ?_;refine o1 ?_;refine nl ?_;refine sq ?_;refine rl ?_;refine ld ?_;refine ld ?_
 refine gH 8 (nZ hb (Zg.of (k:=((Int.gcd k k':Nat):Int)) (by omega)) (by omega)) xS ⟨aB rfl,aB rfl,rfl⟩ ?_
 (iterate 4 refine o1 ?_);refine al 10 ?_;refine al 11 ?_;refine st ?_;refine st ?_;refine o1 ?_;refine nl ?_;refine sq ?_;refine rl ?_;refine ld ?_;refine ld ?_;refine o1 ?_
 refine st ?_;refine nl ?_;refine rt ?_;have hk9:0<k':=by
  rcases Int.lt_trichotomy k' 0 with h8 | h8 | h8
  ·rw[Int.sign_eq_neg_one_of_neg h8]at h1;omega
  ·exact absurd h8 hz0
  exact h8
 have h9:=lM (N:=k) (D:=k') hk9
 exact en (.inl rfl) rfl (aV (.agg (.cons (.id rfl) (.cons (.sl (trs:=aR (dg 4294967296 (((k).fdiv ((Int.gcd k k':Nat):Int))).natAbs)) rfl rfl (bL _) (aX _)) (.cons (.id rfl) (.cons (.sl (trs:=aR (dg 4294967296 (((k').fdiv ((Int.gcd k k':Nat):Int))).natAbs)) rfl rfl (bL _) (aX _)) (.nil))))))) (by decide) (fun _=>Em (⟨aL ((k).fdiv ((Int.gcd k k':Nat):Int)),dg 4294967296 (((k).fdiv ((Int.gcd k k':Nat):Int))).natAbs,aL ((k').fdiv ((Int.gcd k k':Nat):Int)),dg 4294967296 (((k').fdiv ((Int.gcd k k':Nat):Int))).natAbs⟩:Fr4)) (Mv h9.1 h9.2)
theorem LR {p q:Rat}(hp:Sz 68719476736 p) (hq:Sz 68719476736 q):aE true Tryz.prog 66 [] [qF (.of p),qF (.of q)] (aN (qO (p+q))):=by
 refine bF Tryz.func66 rfl Tryz.ntmps66 rfl aA rfl fun N w c0 h0=>?_
 have z1:=(pZ hp).len;have z2:=(pZ hq).len;have z3:=(kM hp).len;have z4:=(kM hq).len
 have y1:(dg 4294967296 p.num.natAbs).length≤68719476736:=hp.1;have y2:(dg 4294967296 q.num.natAbs).length≤68719476736:=hq.1;have y3:(dg 4294967296 p.den).length≤68719476736:=hp.2;have y4:(dg 4294967296 q.den).length≤68719476736:=hq.2;have y5:(dg 4294967296 (p.den:Int).natAbs).length≤68719476736:=hp.2;have y6:(dg 4294967296 (q.den:Int).natAbs).length≤68719476736:=hq.2
 refine sq ?_;refine rl ?_;refine bx 0 ?_;refine bx 1 ?_;refine al 2 ?_;refine nl ?_;refine sq ?_;refine sq ?_;refine rl ?_;refine o1 ?_;refine ld ?_;refine o1 ?_;refine ld ?_
 refine ca (Cy (kM hp) (kM hq) (by have h8:=eW (p.den:Int) (-(q.den:Int));have h7:=jY (q.den:Int);rw[Int.natAbs_natCast]at h7 h8;rw[Int.sub_eq_add_neg];omega)) wI ⟨aB rfl,aB rfl,rfl⟩ (.one (tv (.int .i64 ((p.den:Int)-(q.den:Int)).sign))) ?_
 refine o1 ?_;refine nl ?_;refine bR rfl (fun h1=>?_) (fun h1=>?_)
 ·refine sq ?_;refine rd [0,1,2] (fun i=>[8].contains i) mixed ?_
  refine dv 0 ?_;refine aW 1 ?_;refine dv 2 ?_;refine aW 3 ?_;refine dv 5 ?_;refine aW 6 ?_;have hn2:=eW (p.num) (q.num)
  refine aJ 4 rfl (Cz (pZ hp) (pZ hq)) Da ⟨aB rfl,aB rfl,rfl⟩ (kF (p.num+q.num)) ?_
  refine oT 3 7 rfl (tG (Zg.of (k:=(p.num+q.num)) (by omega)) (kM hp) (by have h8:=p.den_nz;have h7:=q.den_nz;first | omega | exact Int.mul_ne_zero (by omega) (by omega))) Db ⟨aB rfl,aB rfl,rfl⟩ ?_
  refine dst 8 ?_;refine aU ?_;refine rt ?_
  exact en (.inl rfl) rfl (aV (.agg (.cons (.id rfl) (.cons (.sl (trs:=aR (dg 4294967296 (Rat.divInt ((p.num+q.num)) ((p.den:Int))).num.natAbs)) rfl rfl (bL _) (aX _)) (.cons (.id rfl) (.cons (.sl (trs:=aR (dg 4294967296 (Rat.divInt ((p.num+q.num)) ((p.den:Int))).den)) rfl rfl (bL _) (aX _)) .nil)))))) (by decide) (fun _=>En (Rat.divInt ((p.num+q.num)) ((p.den:Int)))) (by rw[show(Rat.divInt ((p.num+q.num)) ((p.den:Int)))=p+q from Ut (by have h8:=Int.sign_eq_zero_iff_zero.1 h1;omega)];rfl)
 refine sk ?_;refine sq ?_;refine rd [0,1,2] (fun i=>[17].contains i) mixed ?_
 refine dv 0 ?_;refine aW 1 ?_;refine dv 2 ?_;refine aW 3 ?_;refine dv 5 ?_;refine aW 6 ?_;refine dv 7 ?_;refine aW 8 ?_;refine dv 11 ?_;refine aW 12 ?_;refine dv 13 ?_
 refine aW 14 ?_;have hn3:=cI (p.num) ((q.den:Int))
 refine aJ 4 rfl (Dc (pZ hp) (kM hq)) rF ⟨aB rfl,aB rfl,rfl⟩ (kF (p.num*(q.den:Int))) ?_;have hn4:=cI (q.num) ((p.den:Int))
 refine aJ 9 rfl (Dc (pZ hq) (kM hp)) rF ⟨aB rfl,aB rfl,rfl⟩ (kF (q.num*(p.den:Int))) ?_;have hn5:=eW ((p.num*(q.den:Int))) ((q.num*(p.den:Int)))
 refine aJ 10 rfl (Cz (Zg.of (k:=(p.num*(q.den:Int))) (by omega)) (Zg.of (k:=(q.num*(p.den:Int))) (by omega))) Da ⟨aB rfl,aB rfl,rfl⟩ (kF ((p.num*(q.den:Int))+(q.num*(p.den:Int)))) ?_
 have hn6:=cI ((p.den:Int)) ((q.den:Int))
 refine aJ 15 rfl (Dc (kM hp) (kM hq)) rF ⟨aB rfl,aB rfl,rfl⟩ (kF ((p.den:Int)*(q.den:Int))) ?_
 refine oT 3 16 rfl (tG (Zg.of (k:=((p.num*(q.den:Int))+(q.num*(p.den:Int)))) (by omega)) (Zg.of (k:=((p.den:Int)*(q.den:Int))) (by omega)) (by have h8:=p.den_nz;have h7:=q.den_nz;first | omega | exact Int.mul_ne_zero (by omega) (by omega))) Db ⟨aB rfl,aB rfl,rfl⟩ ?_
 refine dst 17 ?_;refine aU ?_;refine rt ?_
 exact en (.inl rfl) rfl (aV (.agg (.cons (.id rfl) (.cons (.sl (trs:=aR (dg 4294967296 (Rat.divInt (((p.num*(q.den:Int))+(q.num*(p.den:Int)))) (((p.den:Int)*(q.den:Int)))).num.natAbs)) rfl rfl (bL _) (aX _)) (.cons (.id rfl) (.cons (.sl (trs:=aR (dg 4294967296 (Rat.divInt (((p.num*(q.den:Int))+(q.num*(p.den:Int)))) (((p.den:Int)*(q.den:Int)))).den)) rfl rfl (bL _) (aX _)) .nil)))))) (by decide) (fun _=>En (Rat.divInt (((p.num*(q.den:Int))+(q.num*(p.den:Int)))) (((p.den:Int)*(q.den:Int))))) (by rw[show(Rat.divInt (((p.num*(q.den:Int))+(q.num*(p.den:Int)))) (((p.den:Int)*(q.den:Int))))=p+q from oU p q];rfl)
theorem Qf {k:Int}{f:FuncId}{args:List FV}(h:∀(N:Nat→Prop) (w:World) us,cO w N [] args us→(∀b,N b→b<w.heap.size)→Calls Tryz.prog f us.toArray w (FS k w)):aE true Tryz.prog f [] args (aN (kO k)):=by
 intro N w cs us hL
 obtain⟨rfl,hf⟩:=oB hL
 refine(h _ w us hf (fun b hb=>hb.1)).mono ?_
 rintro e W ⟨A,n,c,rfl,ho,hb⟩
 obtain⟨y1,a1,a2,a3,a4⟩:=qB (N:=fun b=>true=false∧(b<W.heap.size∧b∉VT.fpL [])∧(N b∨w.heap.size≤b)) ho
 refine .mk0 (y:=[.w (.bool (aL k)),y1]) rfl hb (by simp only[VT.okL,VT.ok];exact⟨trivial,a3,trivial⟩) ?_ (fun b hb'=>?_) ?_
 ·simp only[VT.fpL,VT.fp,a4,List.nil_append,List.append_nil]
  exact tH A n c
 ·simp only[VT.fpL,VT.fp,a4,List.nil_append,List.append_nil]at hb'
  exact ho.blk b hb'
 refine⟨by simp only[List.map_cons,List.map_nil,a1];rfl,?_⟩
 simp only[List.map_cons,List.map_nil,bJ,CR,sU]
 exact⟨by simp[OR],iH (fun _ _=>rfl) (fun b hb=>absurd hb.1 (by simp)) _ _ a2,trivial⟩
theorem wJ {n:Int}(h1:-9223372036854775808≤n) (h2:n≤9223372036854775807):aE true Tryz.prog 62 [] [.one (tv (.int .i64 n))] (aN (kO n)):=Qf fun N w us hf hN=>by
 obtain⟨u,rfl,h3⟩:=Mw hf
 obtain rfl:=aT (dZ h3)
 exact FT n w h1 h2
theorem BB {m:Nat}:decide (((m:Int)-1).sign=0)=(m==1):=by
 rw[decide_eq_decide.2 Int.sign_eq_zero_iff_zero]
 rw[Bool.eq_iff_iff,decide_eq_true_eq,beq_iff_eq]
 omega
theorem Eo {z:Int}:0<z.sign↔0<z:=by
 rcases Int.lt_trichotomy z 0 with h | h | h
 ·rw[Int.sign_eq_neg_one_of_neg h];omega
 ·subst h;decide
 rw[Int.sign_eq_one_of_pos h];omega
theorem xT:aE true Tryz.prog 63 [] [] (aN (kO 1)):=by
 refine bF Tryz.func63 rfl Tryz.ntmps63 rfl aA rfl fun N w c0 h0=>?_
 refine sq ?_;refine rl ?_;refine al 0 ?_;refine nl ?_;refine sq ?_;refine rl ?_;refine gH 1 (wJ (n:=1) (by omega) (by omega)) wK ⟨a1 rfl,rfl⟩ ?_
 refine st ?_;refine nl ?_;refine rt ?_
 exact en (.inl rfl) rfl (aV (.agg (.cons (.id rfl) (.cons (.sl (trs:=aR (dg 4294967296 ((1:Int)).natAbs)) rfl rfl (bL _) (aX _)) .nil)))) (by decide) (fun _=>dV 1) rfl
theorem Ep {a:Fr4}{p:Rat}(ha:Qn a p):aE true Tryz.prog 109 [] [qF a] (aN (.one (tv (.bool (cW a.s a.x a.t a.y))))):=by
 refine bF Tryz.func109 rfl Tryz.ntmps109 rfl aA rfl fun N w c0 h0=>?_
 refine sq ?_;refine rl ?_;refine bx 0 ?_;refine o1 ?_;refine nl ?_;refine sq ?_;refine rl ?_;refine o1 ?_;refine ld ?_
 refine ca (zT (a:=⟨a.s,a.x⟩) ((Er ha).g)) Mx ⟨aB rfl,rfl⟩ (.one (tv (.bool (cK a.s a.x)))) ?_;refine o1 ?_;refine WL.splitb (t:=6) rfl (fun h1=>?_) (fun h1=>?_)
 ·refine o1 ?_;refine ld ?_;refine ca (zT (a:=⟨a.t,a.y⟩) ((rG ha).g)) Mx ⟨aB rfl,rfl⟩ (.one (tv (.bool (cK a.t a.y)))) ?_;refine o1 ?_;refine o1 ?_
  refine WL.splitb (t:=11) rfl (fun h2=>?_) (fun h2=>?_)
  ·refine o1 ?_;refine ld ?_;refine ca (qA (a:=⟨a.t,a.y⟩) ((rG ha).g)) zS ⟨aB rfl,rfl⟩ (.one (tv (.int .i64 (cY a.t a.y).sign))) ?_;(iterate 3 refine o1 ?_)
   refine WL.split (t:=17) rfl (fun h3=>?_) (fun h3=>?_)
   ·refine o1 ?_;refine ld ?_;refine o1 ?_;refine ld ?_;have hpos:0<cY a.t a.y:=Eo.1 h3
    have hyl:(dg 4294967296 (cY a.t a.y).natAbs).length≤137438953472:=Zn.len (rG (p:=p) ha)
    have hgl9:(dg 4294967296 ((Int.gcd (cY a.s a.x) (cY a.t a.y):Nat):Int).natAbs).length≤137438953472:=Nat.le_trans (dC (Nat.le_of_dvd (by omega) (Nat.gcd_dvd_right ..))) hyl
    have hgl:(dg 4294967296 ((Int.gcd (cY a.s a.x) (cY a.t a.y):Nat):Int).natAbs).length≤300000000000:=Nat.le_trans hgl9 (by omega)
    refine ca (Ye (a:=⟨a.s,a.x⟩) (b:=⟨a.t,a.y⟩) ((Er ha).g) ((rG ha).g)) Yf ⟨aB rfl,aB rfl,rfl⟩ (kF ((Int.gcd (cY a.s a.x) (cY a.t a.y):Nat):Int)) ?_
    refine ca (xT) My rfl (kF 1) ?_
    refine ca (Cy (Zg.of (k:=((Int.gcd (cY a.s a.x) (cY a.t a.y):Nat):Int)) hgl) (Zg.of (k:=1) (by decide)) (by have h8:=wL ((Int.gcd (cY a.s a.x) (cY a.t a.y):Nat):Int) 1;have h7:(dg 4294967296 (1:Int).natAbs).length=1:=rfl;omega)) wI ⟨aB rfl,aB rfl,rfl⟩ (.one (tv (.int .i64 (((Int.gcd (cY a.s a.x) (cY a.t a.y):Nat):Int)-1).sign))) ?_
    (iterate 3 refine o1 ?_);refine nl ?_;refine rt ?_
    exact en (.inl rfl) rfl (aV (aO _)) (by decide) (fun _=>trivial) (congrArg (fun b=>FV.one (tv (.bool b))) (by unfold cW;rw[h1,h2,decide_eq_true hpos,←BB];rfl))
   (iterate 8 refine cH ?_);refine o1 ?_;refine o1 ?_;refine nl ?_;refine rt ?_
   exact en (.inl rfl) rfl (aV (aO _)) (by decide) (fun _=>trivial) (congrArg (fun b=>FV.one (tv (.bool b))) (by unfold cW;rw[h1,h2,decide_eq_false (fun h9=>h3 (Eo.2 h9))];rfl))
  (iterate 4 refine cH ?_);refine o1 ?_;refine o1 ?_;(iterate 8 refine cH ?_);refine o1 ?_;refine o1 ?_;refine nl ?_;refine rt ?_
  exact en (.inl rfl) rfl (aV (aO _)) (by decide) (fun _=>trivial) (congrArg (fun b=>FV.one (tv (.bool b))) (by unfold cW;rw[h1,h2];rfl))
 (iterate 3 refine cH ?_);refine o1 ?_;refine o1 ?_;(iterate 4 refine cH ?_);refine o1 ?_;refine o1 ?_;(iterate 8 refine cH ?_);refine o1 ?_;refine o1 ?_;refine nl ?_;refine rt ?_
 exact en (.inl rfl) rfl (aV (aO _)) (by decide) (fun _=>trivial) (congrArg (fun b=>FV.one (tv (.bool b))) (by unfold cW;rw[h1];rfl))
theorem PI:FV.agg [tv (.bool false),.t (sU false []),tv (.bool (aL 1)),.t (sU false (dg 4294967296 (1:Int).natAbs))]=qF (.of 0):=rfl
theorem Es {a:Fr4}{p:Rat}(ha:Qn a p):aE false Tryz.prog 60 [] [qF a] (aN (qF (.of p))):=by
 refine bF Tryz.func60 rfl Tryz.ntmps60 rfl aA rfl fun N w c0 h0=>?_
 refine sq ?_;refine rl ?_;refine bx 0 ?_;refine al 1 ?_;refine nl ?_;refine sq ?_;refine sq ?_;refine rl ?_;refine ld ?_
 refine ca (Ep ha) Mz ⟨aB rfl,rfl⟩ (.one (tv (.bool (cW a.s a.x a.t a.y)))) ?_;refine WL.splitb (t:=4) rfl (fun h1=>?_) (fun h1=>?_)
 ·refine o1 ?_;refine nl ?_;refine fW rfl ?_;refine sk ?_;refine sq ?_;refine rl ?_;refine ld ?_;refine st ?_;refine nl ?_;refine rt ?_
  exact en (.inl rfl) rfl (aV (.agg (.cons (.id rfl) (.cons (.id rfl) (.cons (.id rfl) (.cons (.id rfl) .nil)))))) (by decide) (fun h=>by cases h) (by rw[ha.right h1];rfl)
 refine o1 ?_;refine nl ?_;refine fX rfl ?_;refine sq ?_;refine rl ?_;refine o1 ?_;refine ca (xT) My rfl (kF 1) ?_;refine o1 ?_;refine st ?_;refine nl ?_;refine rt ?_
 have hq9:=ha.wrong h1
 subst hq9;exact en (.inl rfl) rfl (aV (.agg (.cons (.id rfl) (.cons .nilf (.cons (.id rfl) (.cons (.id rfl) .nil)))))) (by decide) (fun h=>by cases h) PI
theorem BC {a:Fr4}{p:Rat}(ha:Qn a p):aE true Tryz.prog 29 [] [qF a] (aN (.one (tv (.int .i64 p.num.sign)))):=by
 refine bF Tryz.func29 rfl Tryz.ntmps29 rfl aA rfl fun N w c0 h0=>?_
 refine sq ?_;refine rl ?_;refine bx 0 ?_;refine o1 ?_;refine nl ?_;refine sq ?_;refine rl ?_;refine ld ?_;refine ca (Es ha) fD ⟨aB rfl,rfl⟩ (qF (.of p)) ?_;refine o1 ?_
 refine ca (qA (Zg.of (k:=p.num) (Nat.le_trans ha.sz.1 (by omega)))) zS ⟨aB rfl,rfl⟩ (.one (tv (.int .i64 p.num.sign))) ?_
 refine o1 ?_;refine nl ?_;refine rt ?_;exact en (.inl rfl) rfl (aV (aO _)) (by decide) (fun _=>trivial) rfl
theorem Uu {n:Int}(h1:-9223372036854775808≤n) (h2:n≤9223372036854775807):aE true Tryz.prog 22 [] [.one (tv (.int .i64 n))] (aN (qO ((n:Int):Rat))):=by
 refine bF Tryz.func22 rfl Tryz.ntmps22 rfl aA rfl fun N w c0 h0=>?_
 refine sq ?_;refine rl ?_;refine al 0 ?_;refine nl ?_;refine sq ?_;refine rl ?_;refine o1 ?_;refine gH 1 (wJ (n:=n) h1 h2) wK ⟨a1 rfl,rfl⟩ ?_;refine gH 2 (xT) My rfl ?_
 refine o1 ?_;refine st ?_;refine nl ?_;refine rt ?_
 exact en (.inl rfl) rfl (aV (.agg (.cons (.id rfl) (.cons (.sl (trs:=aR (dg 4294967296 n.natAbs)) rfl rfl (bL _) (aX _)) (.cons (.id rfl) (.cons (.sl (trs:=aR (dg 4294967296 (1:Int).natAbs)) rfl rfl (bL _) (aX _)) .nil)))))) (by decide) (fun _=>Em (⟨_,dg 4294967296 n.natAbs,_,dg 4294967296 (1:Int).natAbs⟩:Fr4)) (Mv (q:=((n:Int):Rat)) (n:=n) (d:=1) (by simp) (by simp))
theorem FU {k:Int}(h:aL k=true):k<0:=of_decide_eq_true h
theorem FW {k:Int}(h:aL k=false):¬k<0:=of_decide_eq_false h
def Nn (xs:List Nat) (u:Nat):Prop:=Lim 4294967296 xs∧xs.length≤1000000∧vl 4294967296 xs=u
theorem Nn.of {u:Nat}(h:(dg 4294967296 u).length≤1000000):Nn (dg 4294967296 u) u:=⟨aM (by omega) _,h,bK (by omega) _⟩
section
variable {xs ys:List Nat}{u v w q r:Nat}
abbrev nF (xs:List Nat):FV:=.one (.t (sU false xs))
abbrev nO (u:Nat):FV:=.one (.t (sU true (dg 4294967296 u)))
theorem LS (hx:Nn xs u) (hy:Nn ys v) (e:u*v=w):aE true Tryz.prog 119 [] [nF xs,nF ys] (aN (nO w)):=by
 obtain⟨a,b,rfl⟩:=hx
 obtain⟨c,d,rfl⟩:=hy
 exact e▸Yg a c (by omega) (by omega)
theorem Na {m:Nat}(hx:Nn xs u) (hm:m<4294967296) (e:u*m=w):aE true Tryz.prog 166 [] [nF xs,.one (tv (.int .u32 (m:Int)))] (aN (nO w)):=by
 obtain⟨a,b,rfl⟩:=hx
 exact e▸xU a (by omega) hm
end
def val (xs:List Nat):Nat:=vl 4294967296 xs
def tI (n:Int):Int:=if n<0 then 2 else if 4096<n then 3 else 0
def xV (x:Nat) (n:Int):Nat:=if tI n=0 then x^n.toNat else 0
theorem Jn {x m:Nat}(h:x<4294967296):(dg 4294967296 (x^m)).length≤m+1:=by
 refine bN (by omega) (Nat.lt_of_le_of_lt (Nat.pow_le_pow_left (Nat.le_of_lt h) m) ?_)
 exact Nat.pow_lt_pow_right (by omega) (by omega)
theorem Qg {j:Nat}(h:j≤12):4096/2^j=2^(12-j):=by
 rw[show(4096:Nat)=2^12 from rfl,Nat.pow_div h (by omega)]
theorem Uv (n i:Nat):n&&& 2^i=n/2^i%2*2^i:=by
 apply Nat.eq_of_testBit_eq
 intro k
 rw[Nat.testBit_and,Nat.testBit_two_pow]
 rcases Nat.mod_two_eq_zero_or_one (n/2^i)with h | h
 ·rw[h,Nat.zero_mul,Nat.zero_testBit]
  by_cases hk:i=k
  ·subst hk
   rw[Nat.testBit_eq_decide_div_mod_eq,h]
   rfl
  rw[decide_eq_false hk,Bool.and_false]
 rw[h,Nat.one_mul,Nat.testBit_two_pow]
 by_cases hk:i=k
 ·subst hk
  rw[Nat.testBit_eq_decide_div_mod_eq,h]
  rfl
 rw[decide_eq_false hk,Bool.and_false]
theorem Jo {n j:Nat}(h:j≤12):n&&&(4096/2^j)=n/2^(12-j)%2*2^(12-j):=by
 rw[Qg h,Uv]
theorem BD {a b:Nat}(ha:a<9223372036854775808) (hb:b<9223372036854775808):IntKind.i64.wrap ((BitVec.ofInt IntKind.i64.bits (a:Int)&&& BitVec.ofInt IntKind.i64.bits (b:Int)).toNat:Int)=((a&&& b:Nat):Int):=by
 have e:IntKind.i64.bits=64:=rfl
 rw[e,BitVec.toNat_and,BitVec.ofInt_natCast,BitVec.ofInt_natCast,BitVec.toNat_ofNat,BitVec.toNat_ofNat,Nat.mod_eq_of_lt (by omega),Nat.mod_eq_of_lt (by omega)]
 have h1:a&&& b≤a:=Nat.and_le_left
 simp[IntKind.wrap,IntKind.signed,IntKind.bits]
 omega
theorem Et {j:Nat}:Int.fdiv ((4096/2^j:Nat):Int) (2^(min (1:Int).toNat IntKind.i64.bits))=((4096/2^(j+1):Nat):Int):=by
 have e:(2:Int)^(min (1:Int).toNat IntKind.i64.bits)=((2:Nat):Int):=by decide
 rw[e,Int.fdiv_eq_ediv,if_pos (Or.inl (by omega)),Int.sub_zero,←Int.natCast_ediv,Nat.div_div_eq_div_mul,←Nat.pow_succ]
theorem Jp {n j:Nat}(h:j≤12):n/2^(12-j)=2*(n/2^(13-j))+n/2^(12-j)%2:=by
 have e:2^(13-j)=2^(12-j)*2:=by rw[show 13-j=(12-j)+1 by omega,Nat.pow_succ]
 rw[e,←Nat.div_div_eq_div_mul]
 omega
theorem LT {x n j:Nat}(h:j≤12) (hb:n&&&(4096/2^j)=0):x^(n/2^(13-j))*x^(n/2^(13-j))=x^(n/2^(12-j)):=by
 rw[Jo h]at hb
 have h1:n/2^(12-j)%2=0:=by
  rcases Nat.mul_eq_zero.1 hb with h2 | h2
  ·exact h2
  have:=Nat.pow_pos (n:=12-j) (show 0<2 by omega);omega
 rw[←Nat.pow_add,Jp h,h1]
 congr 1
 omega
theorem LU {x n j:Nat}(h:j≤12) (hb:n&&&(4096/2^j)≠0):x^(n/2^(13-j))*x^(n/2^(13-j))*x=x^(n/2^(12-j)):=by
 rw[Jo h]at hb
 have h1:n/2^(12-j)%2=1:=by
  rcases Nat.mod_two_eq_zero_or_one (n/2^(12-j))with h2 | h2
  ·rw[h2,Nat.zero_mul]at hb;exact absurd rfl hb
  exact h2
 rw[←Nat.pow_add,←Nat.pow_succ,Jp h,h1]
 congr 1
 omega
theorem LV {x:Nat}{n:Int}(hx:x<4294967296):aE true Tryz.prog 127 [] [.one (tv (.int .u32 ((x:Nat):Int))),.one (tv (.int .i64 n))] (aN (.tup [nO (xV x n),.one (tv (.int .i64 (tI n)))])):=by
 refine bF Tryz.func127 rfl Tryz.ntmps127 rfl aA rfl fun N9 w9 c0 h0=>?_
 refine sq ?_;refine rl ?_;refine o1 ?_;refine o1 ?_;refine nl ?_;refine sq ?_;refine bl ?_;refine sq ?_;refine rl ?_;(iterate 3 refine o1 ?_);refine nl ?_
 refine bR rfl (fun h1=>?_) (fun h1=>?_)
 ·refine sq ?_;refine rl ?_;refine o1 ?_;refine o1 ?_;refine nl ?_;refine rt ?_;have he:tI n=2:=by unfold tI;rw[if_pos (by omega)]
  exact en (.inl rfl) rfl (dB (.cons (.one (.nil (t:=115) (z:=1))) (.cons (aO _) .nil))) (by decide) (fun _=>⟨.inl ⟨rfl,trivial⟩,trivial,trivial⟩) (by rw[he,xV,he,if_neg (by decide)];rfl)
 refine sq ?_;refine rl ?_;(iterate 3 refine o1 ?_);refine nl ?_;refine bR rfl (fun h2=>?_) (fun h2=>?_)
 ·refine sq ?_;refine rl ?_;refine o1 ?_;refine o1 ?_;refine nl ?_;refine rt ?_;have he:tI n=3:=by unfold tI;rw[if_neg (by omega),if_pos (by omega)]
  exact en (.inl rfl) rfl (dB (.cons (.one (.nil (t:=115) (z:=1))) (.cons (aO _) .nil))) (by decide) (fun _=>⟨.inl ⟨rfl,trivial⟩,trivial,trivial⟩) (by rw[he,xV,he,if_neg (by decide)];rfl)
 refine sk ?_;refine sq ?_;refine rl ?_;refine bs 0 ?_;refine o1 ?_;refine nl ?_;refine sq ?_;refine sq ?_;refine rl ?_;refine o1 ?_;refine nl ?_;refine bl ?_
 have h1p:dg 4294967296 (x^(n.toNat/2^(13-0)))=[1]:=by rw[show n.toNat/2^(13-0)=0 from Nat.div_eq_of_lt (show n.toNat<8192 by omega),Nat.pow_zero];decide
 refine lp (γ:=Nat) (fun s=>cE [(0,.one (tv (.int .u32 ((x:Nat):Int)))),(1,.one (tv (.int .i64 n))),(6,.one (.sl 0 0 ((dg 4294967296 (x^(n.toNat/2^(13-s)))).length))),(7,.one (tv (.int .i64 ((4096/2^s:Nat):Int))))]) (fun s=>[(⟨115,1,(aR (dg 4294967296 (x^(n.toNat/2^(13-s))))).map .t⟩:Ob)].map some) (fun s=>s≤13) (fun s=>13-s) 0 (by omega) (aQ h0 [0] _ _ (by decide) ⟨rfl,rfl,(congrArg (fun l:List Nat=>some (FV.one (.sl 0 0 l.length))) h1p),rfl,trivial⟩ ⟨cV (congrArg (fun l:List Nat=>some (⟨115,1,(aR l).map .t⟩:Ob)) h1p.symm),rfl⟩) ?_
 rintro j hj;refine sq ?_;refine sq ?_;refine rl ?_;refine o1 ?_;refine o1 ?_;refine nl ?_;refine bR rfl (fun h3=>?_) (fun h3=>?_)
 ·refine sk ?_;refine sq ?_;refine bl ?_;refine sq ?_;have hj12:j≤12:=by
   rcases Nat.lt_or_ge 12 j with h9 | h9
   ·have h8:j=13:=by omega
    rw[h8]at h3;exact absurd h3 (by decide)
   exact h9
  have hpl:=Jn (m:=n.toNat/2^(13-j)) hx
  have hql:=Jn (m:=n.toNat/2^(13-j)+n.toNat/2^(13-j)) hx
  rw[Nat.pow_add]at hql;have hnl:n.toNat/2^(13-j)≤n.toNat:=Nat.div_le_self _ _
  have hbj:4096/2^j≤4096:=Nat.div_le_self _ _
  refine rl ?_;refine o1 ?_;refine o1 ?_
  refine gH 1 (LS (Nn.of (by omega)) (Nn.of (by omega)) rfl) Yh ⟨nY rfl (.sl rfl rfl (kL _) (aX _)),nY rfl (.sl rfl rfl (kL _) (aX _)),rfl⟩ ?_
  refine o1 ?_;refine nl ?_;refine sq ?_;refine rl ?_;(iterate 3 refine o1 ?_)
  refine WL.cast (t:=24) (u':=.int .i64 (((n.toNat&&& 4096/2^j):Nat):Int)) rfl (aI (by rw[show(n:Int)=((n.toNat:Nat):Int) by omega];exact BD (by omega) (by omega))) ?_
  refine o1 ?_;refine nl ?_;refine bR rfl (fun h4=>?_) (fun h4=>?_)
  ·refine rl ?_;refine o1 ?_;refine o1 ?_;refine gH 2 (Na (Nn.of (by omega)) hx (LU hj12 (by omega))) xQ ⟨nY rfl (.sl rfl rfl (kL _) (aX _)),a1 rfl,rfl⟩ ?_
   refine o1 ?_;refine nl ?_;refine rl ?_;refine o1 ?_;refine o1 ?_;refine WL.cast (t:=18) (u':=.int .i64 (((4096/2^(j+1)):Nat):Int)) rfl (aI Et) ?_;refine o1 ?_
   refine nl ?_;have hpw:x^(n.toNat/2^(12-j))=x^(n.toNat/2^(12-j)):=rfl
   exact⟨j+1,by omega,by omega,aQ h0 [2] _ _ (by decide) ⟨rfl,rfl,(congrArg (fun z:Nat=>some (FV.one (.sl 2 0 (dg 4294967296 z).length))) (show x^(n.toNat/2^(13-(j+1)))=_ from(by rw[show 13-(j+1)=12-j by omega]))),rfl,trivial⟩ ⟨cV (congrArg (fun z:Nat=>some (⟨115,1,(aR (dg 4294967296 z)).map .t⟩:Ob)) (show x^(n.toNat/2^(13-(j+1)))=_ from(by rw[show 13-(j+1)=12-j by omega])).symm),rfl⟩⟩
  refine sk ?_;refine rl ?_;refine o1 ?_;refine o1 ?_;refine WL.cast (t:=18) (u':=.int .i64 (((4096/2^(j+1)):Nat):Int)) rfl (aI Et) ?_;refine o1 ?_;refine nl ?_
  have hpw:x^(n.toNat/2^(12-j))=x^(n.toNat/2^(13-j))*x^(n.toNat/2^(13-j)):=(LT hj12 (by omega)).symm
  exact⟨j+1,by omega,by omega,aQ h0 [1] _ _ (by decide) ⟨rfl,rfl,(congrArg (fun z:Nat=>some (FV.one (.sl 1 0 (dg 4294967296 z).length))) (show x^(n.toNat/2^(13-(j+1)))=_ from(by rw[show 13-(j+1)=12-j by omega];exact hpw))),rfl,trivial⟩ ⟨cV (congrArg (fun z:Nat=>some (⟨115,1,(aR (dg 4294967296 z)).map .t⟩:Ob)) (show x^(n.toNat/2^(13-(j+1)))=_ from(by rw[show 13-(j+1)=12-j by omega];exact hpw)).symm),rfl⟩⟩
 refine ex ?_;refine sq ?_;refine rl ?_;(iterate 3 refine o1 ?_);refine nl ?_;refine rt ?_;have he:tI n=0:=by unfold tI;rw[if_neg (by omega),if_neg (by omega)]
 have hj13:j=13:=by
  rcases Nat.lt_or_ge 12 j with h9 | h9
  ·omega
  have h8:=Qg h9
  have h7:=Nat.pow_pos (n:=12-j) (show 0<2 by omega)
  omega
 subst hj13
 exact en (.inl rfl) rfl (dB (.cons (.one (.sl (trs:=aR (dg 4294967296 (x^(n.toNat/2^(13-13))))) rfl rfl (bL _) (aX _))) (.cons (aO _) .nil))) (by decide) (fun _=>⟨.inl ⟨rfl,dU _⟩,trivial,trivial⟩) (by rw[he,xV,he,if_pos rfl,show n.toNat/2^(13-13)=n.toNat by simp];rfl)
theorem xW (k:Int):iM (kO k):=by
 simp only[iM,kO,mK,List.map_cons,List.map_nil,iP,oV,sU,kN]
 exact⟨trivial,.inl ⟨trivial,dU _⟩,trivial⟩
section
variable {f:FuncId}{args:List FV}
end
section
variable {a b:Fr4}{p q:Rat}{x y:Zi}{k k':Int}
theorem LW:aE true Tryz.prog 63 [] [] (aN (kO 1)):=xT
theorem qC (h:Zn x k) (h':Zn y k'):aE true Tryz.prog 65 [] [gF x,gF y] (aN (kO (k*k'))):=Dc h.g h'.g
theorem xX (h:Zn x k) (h':Zn y k'):aE true Tryz.prog 61 [] [gF x,gF y] (aN (.one (tv (.int .i64 (k-k').sign)))):=Cy h.g h'.g (by have:=wL k k';have:=h.len;have:=h'.len;omega)
theorem Qh (h:Qn a p):aE true Tryz.prog 29 [] [qF a] (aN (.one (tv (.int .i64 p.num.sign)))):=BC h
theorem LX (hp:Sz 68719476736 p) (hq:Sz 68719476736 q):aE true Tryz.prog 66 [] [qF (.of p),qF (.of q)] (aN (qO (p+q))):=LR hp hq
theorem Eu (ha:a.ok):aE true Tryz.prog 109 [] [qF a] (aN (.one (tv (.bool (cW a.s a.x a.t a.y))))):=Ep ⟨ha,rfl⟩
theorem eB {z:Int}(h1:-9223372036854775808≤z) (h2:z≤9223372036854775807):aE true Tryz.prog 22 [] [.one (tv (.int .i64 z))] (aN (qO (z:Rat))):=Uu h1 h2
end
section
variable {x y:Zi}{k k':Int}
theorem Bo (h:Zn x k) (h':Zn y k') (h0:k'≠0):aE true Tryz.prog 110 [] [gF x,gF y] (aN (qO (Rat.divInt k k'))):=tG h.g h'.g h0
theorem Yi (p q:Rat):Rat.divInt (p.num*q.num) ((p.den:Int)*(q.den:Int))=p*q:=by
 rw[←Rat.divInt_mul_divInt,Rat.num_divInt_den,Rat.num_divInt_den]
theorem jR {L M:Nat}{p q:Rat}(hp:Sz L p) (hq:Sz M q):Sz (L+M) (p*q):=by
 rw[←Yi p q]
 have h5:=iQ (Int.mul_pos (show(0:Int)<p.den by have:=p.den_pos;omega) (show(0:Int)<q.den by have:=q.den_pos;omega)) (jC hp.1 hq.1) (jC (mD hp) (mD hq))
 exact⟨h5.1,h5.2⟩
theorem den_nz (p q:Rat):(p.den:Int)*(q.den:Int)≠0:=by
 have h1:=p.den_pos
 have h2:=q.den_pos
 exact Int.ne_of_gt (Int.mul_pos (by omega) (by omega))
theorem Ew {L:Nat}{k:Int}(h:mL L k):mL L (-k):=by
 unfold mL
 rw[Int.natAbs_neg]
 exact h
theorem xY {n:Int}(h1:-9223372036854775808≤n) (h2:n≤9223372036854775807):mL 2 n:=mM h1 h2
theorem gU {n d:Int}(h1:-9223372036854775808≤n) (h2:n≤9223372036854775807) (h3:-9223372036854775808≤d) (h4:d≤9223372036854775807):Sz 2 (Rat.divInt n d):=by
 rcases Int.lt_trichotomy d 0 with hd | hd | hd
 ·rw[←Rat.neg_divInt_neg]
  obtain⟨e1,e2⟩:=iQ (a:=-n) (b:=-d) (L:=2) (M:=2) (by omega) (Ew (xY h1 h2)) (Ew (xY h3 h4))
  exact⟨e1,e2⟩
 ·subst hd
  rw[Rat.divInt_zero]
  exact⟨Nat.zero_le _,by decide⟩
 obtain⟨e1,e2⟩:=iQ (a:=n) (b:=d) (L:=2) (M:=2) hd (xY h1 h2) (xY h3 h4)
 exact⟨e1,e2⟩
end
section
variable {x:Cx}{g g':Nat→FV}{ob ob':List (Option Ob)}{cs cs':List Co}{ts ts':Array Value}{W W' W1:World}{Q:Post}{ops:Array Oper}{late:Nat→Bool}{K fr fr':List Nat}{on:Bool}{fuel:Nat}{listed listed':Array Bool}
end
section
variable {x:Cx}{g:Nat→FV}{ob ob':List (Option Ob)}{Q:Post}{ops:Array Oper}{rest:List Oper}{d:Nat}{op:Op}{ty:TypeId}{pos:String}{af:Array Edge}{gd:Option (Nat×Bool)}{C:Prop}{v:FV}{T:List (Nat×TI)}
theorem SY {fresh:Bool}{f:FuncId}{lent lent':List Lt}{al:List FV}{fst caps:List Tr}{r:FV}{os:List Ob}{cf:Operand}{aa:Array Operand}{ats:Array TypeId}(key:Nat) (K:List Nat) (args:List FV) (hc:lk x.n g cf=.one (.t (.f f fst caps))) (hS:aE fresh x.P f lent al (Rt lent' r)) (hf:CallOk x.P f) (hK:fE ob K K lent) (ha:oW x.n g K aa.toList args){ok:List (Option Ob)}(hbk:eJ K lent' ok) (k:WL x ops rest (aZ g d v) (bP ob K ok++os.map some) Q) (hw:aY ops x.n g gd=some true:=by rfl) (hk:dT ob key=true:=by rfl) (hnd:K.Nodup:=by decide) (hb:kP key r=some (v,os):=by rfl) (he:eE fst++args++eE caps=al:=by rfl):
  WL x ops (⟨some d,.call ⟨.value cf,aa,ats⟩,ty,pos,af,gd⟩::rest) g ob Q:=by
 subst he
 refine fM (wM hS hf (Yj hc) hK hnd ha hk (by rintro _ _ ⟨rfl,rfl⟩ _;exact⟨by rw[hb];rfl,ok,hbk⟩)) hw ?_
 rintro _ _ ⟨l,r',v',os',ok',⟨rfl,rfl⟩,_,h,h9,rfl,rfl⟩
 obtain rfl:=tJ hbk h9
 rw[hb]at h
 injection h with h
 injection h with h1 h2
 subst h1 h2
 exact k
theorem LY {late:Nat→Bool}{K fr:List Nat}{fuel:Nat}{listed:Array Bool}{t key o:Nat}{ti:TI}{a b:Operand}(i:Nat) (hi:ops[i]? =some ⟨none,.store t a b,ty,pos,af,gd⟩) (hw:aY ops x.n g gd=some true) (hT:bQ x.P T) (hti:bB T t=some ti) (h:tK ti ob (lk x.n g b) (lk x.n g a)=some ob') (hlk:lk x.n g a=.one (.pt key o)) (hK:K.contains key=false) (hke:oX ob ob' K)
  (k:WD x ops Q late K fr true fuel (listed.setIfInBounds i true) g ob'):WO x ops Q late K fr true fuel listed i g ob:=by
 obtain⟨ky,hs,o2,hlk2⟩:=Dd (ty:=ty) (pos:=pos) (af:=af) (gd:=gd) hT hti h
 rw[hlk]at hlk2
 injection hlk2 with e
 injection e with e1 e2
 subst e1
 refine Yk i hi hw hs true (fun _=>⟨rfl,fun k hk hm=>?_⟩) (fun _=>rfl) (fun _ g' ob' hR=>?_) fun g' ob' hR=>?_
 ·rw[List.mem_singleton]at hm
  subst hm
  have:K.contains k=true:=by simpa using hk
  rw[hK]at this
  cases this
 ·obtain⟨rfl,rfl⟩:=hR
  exact⟨fun _ _=>rfl,iR hke⟩
 obtain⟨rfl,rfl⟩:=hR
 exact k
end
theorem Jq {n:Nat}(h:0<n):1≤(dg 4294967296 n).length:=by rw[kI (by omega) (by omega)];simp
theorem Bp {L:Nat}{k:Int}(h:mL L k):mL L (-k):=by unfold mL at*;rwa[Int.natAbs_neg]
theorem wN (p:Rat):(dg 4294967296 (p.num.fmod (p.den:Int)).natAbs).length≤(dg 4294967296 p.den).length:=by
 refine dC ?_
 have h1:=Int.fmod_nonneg_of_pos p.num (show(0:Int)<p.den by have:=p.den_pos;omega)
 have h2:=Int.fmod_lt_of_pos p.num (show(0:Int)<p.den by have:=p.den_pos;omega)
 omega
theorem tL (p:Rat):(dg 4294967296 (fl p).natAbs).length≤(dg 4294967296 p.num.natAbs).length:=by
 refine dC ?_
 rw[←lN,Int.fdiv_eq_ediv_of_nonneg _ (by omega)]
 exact Int.natAbs_ediv_le_natAbs _ _
theorem Ex {L M:Nat}{p q:Rat}(hp:Sz L p) (hq:Sz M q):Sz (L+M+1) (p/q):=by
 rw[←Nb p q]
 have hd:(0:Int)<p.den:=by have:=p.den_pos;omega
 have hd2:(0:Int)<q.den:=by have:=q.den_pos;omega
 by_cases h0:q.num=0
 ·rw[h0,Int.mul_zero,Rat.divInt_zero]
  exact(cB (z:=0) (by omega) (by omega)).mono (by
   have:=Jq q.den_pos
   have:=hq.2
   have:=Jq p.den_pos
   have:=hp.2
   omega)
 by_cases h1:0<q.num
 ·have h5:=iQ (Int.mul_pos hd h1) (jC hp.1 (mD hq)) (jC (mD hp) hq.1)
  exact⟨Nat.le_trans h5.1 (by omega),Nat.le_trans h5.2 (by omega)⟩
 have e:Rat.divInt (p.num*(q.den:Int)) ((p.den:Int)*q.num)=Rat.divInt (-(p.num*(q.den:Int))) (-((p.den:Int)*q.num)):=(Rat.neg_divInt_neg _ _).symm
 rw[e]
 have h6:0< -((p.den:Int)*q.num):=by
  have:=Int.mul_pos hd (show 0< -q.num by omega)
  rw[Int.mul_neg]at this
  exact this
 have h5:=iQ h6 (Bp (jC hp.1 (mD hq))) (Bp (jC (mD hp) hq.1))
 exact⟨Nat.le_trans h5.1 (by omega),Nat.le_trans h5.2 (by omega)⟩
theorem Ey {p q:Rat}:((p.den:Int)*q.num=0)↔q=0:=by
 have h1:=p.den_pos
 constructor
 ·intro h
  rcases Int.mul_eq_zero.1 h with h2 | h2
  ·omega
  exact Rat.num_eq_zero.1 h2
 rintro rfl
 simp
def qD (l:List Rat):List Fr4:=l.map Fr4.of
theorem LZ (l:List Rat):(qD l).map Fr4.q=l:=by
 unfold qD
 rw[List.map_map]
 exact(List.map_congr_left fun x _=>Fr4.q_of x).trans (List.map_id l)
theorem Jr (l:List Rat):(qD l).length=l.length:=by simp[qD]
theorem dA {a:Fr4}{p:Rat}(ha:Qn a p):aE false Tryz.prog 60 [] [qF a] (aN (qF (.of p))):=Es ha
theorem Nc {a b:Fr4}{p q:Rat}(ha:Qn a p) (hb:Qn b q):aE true Tryz.prog 27 [] [qF a,qF b] (aN (.one (tv (.int .i64 (p-q).num.sign)))):=by
 refine bF Tryz.func27 rfl Tryz.ntmps27 rfl aA rfl fun N w c0 h0=>?_
 have hs:=ha.sz;have hs':=hb.sz
 have hs1:=hs.1;have hs2:=hs.2;have hs3:=hs'.1;have hs4:=hs'.2
 have hs5:(dg 4294967296 ((p.den:Int)).natAbs).length≤68719476736:=hs2
 have hs6:(dg 4294967296 ((q.den:Int)).natAbs).length≤68719476736:=hs4
 refine sq ?_;refine rl ?_;refine bx 0 ?_;refine bx 1 ?_;refine o1 ?_;refine nl ?_
 refine md (γ:=Unit) (fun _=>cE [(2,.one (.pt 0 0)),(3,.one (.pt 1 0)),(4,.one (tv (.int .i64 ((0:Nat):Int))))]) (fun _=>([⟨27,0,((Fr4.of p).tr false).map .t⟩,⟨27,0,((Fr4.of q).tr false).map .t⟩]:List Ob).map some) (fun _=>True) ?_ fun _ _=>?_
 ·refine rd [0,1] (fun i=>[0,1,2,3,4,5].contains i) mixed ?_
  refine WO.two (i:=0) (j:=2) (by kernel_rfl) ?_ ?_
  ·refine eO 0 ?_;refine WO.two (i:=1) (j:=2) (by kernel_rfl) ?_ ?_
   ·refine cU 1 rfl (dA ha) fD ⟨aB rfl,rfl⟩ (qF (.of p)) ?_;refine WO.one (by kernel_rfl) (eO 2 ?_)
    refine aJ 3 rfl (dA hb) fD ⟨aB rfl,rfl⟩ (qF (.of q)) ?_;refine dst 4 ?_;refine dst 5 ?_;refine aU ?_
    exact⟨(),trivial,aQ h0 [0,1] _ _ (by decide) ⟨rfl,rfl,rfl,trivial⟩ ⟨oe rfl rfl,oe rfl rfl,rfl⟩⟩
   refine eO 2 ?_;refine aJ 1 rfl (dA ha) fD ⟨aB rfl,rfl⟩ (qF (.of p)) ?_;refine aJ 3 rfl (dA hb) fD ⟨aB rfl,rfl⟩ (qF (.of q)) ?_;refine dst 4 ?_;refine dst 5 ?_
   refine aU ?_;exact⟨(),trivial,aQ h0 [0,1] _ _ (by decide) ⟨rfl,rfl,rfl,trivial⟩ ⟨oe rfl rfl,oe rfl rfl,rfl⟩⟩
  refine eO 2 ?_;refine WO.one (by kernel_rfl) (eO 0 ?_)
  refine aJ 1 rfl (dA ha) fD ⟨aB rfl,rfl⟩ (qF (.of p)) ?_;refine aJ 3 rfl (dA hb) fD ⟨aB rfl,rfl⟩ (qF (.of q)) ?_;refine dst 4 ?_;refine dst 5 ?_;refine aU ?_
  exact⟨(),trivial,aQ h0 [0,1] _ _ (by decide) ⟨rfl,rfl,rfl,trivial⟩ ⟨oe rfl rfl,oe rfl rfl,rfl⟩⟩
 refine sq ?_;refine rd [0,1] (fun i=>[11].contains i) mixed ?_
 refine dv 0 ?_;refine aW 1 ?_;refine dv 2 ?_;refine aW 3 ?_;refine dv 5 ?_;refine aW 6 ?_;refine dv 7 ?_;refine aW 8 ?_;have hn1:=cI (p.num) ((q.den:Int))
 refine aJ 4 rfl (qC (dW hs) (cJ hs')) rF ⟨aB rfl,aB rfl,rfl⟩ (kF ((p.num*(q.den:Int)))) ?_;have hn2:=cI (q.num) ((p.den:Int))
 refine aJ 9 rfl (qC (dW hs') (cJ hs)) rF ⟨aB rfl,aB rfl,rfl⟩ (kF ((q.num*(p.den:Int)))) ?_
 refine aJ 10 rfl (xX (Zn.of (k:=(p.num*(q.den:Int))) (by omega)) (Zn.of (k:=(q.num*(p.den:Int))) (by omega))) wI ⟨aB rfl,aB rfl,rfl⟩ (.one (tv (.int .i64 ((p.num*(q.den:Int))-(q.num*(p.den:Int))).sign))) ?_
 refine cZ 11 (by kernel_rfl) rfl rfl aA rfl (by trivial) ?_ (fun h=>by first | rfl | cases h)
 refine aU ?_;refine rt ?_;exact en (.inl rfl) rfl (aV (aO _)) (by decide) (fun _=>trivial) (by rw[←Qi];rfl)
theorem Uw {p q:Rat}(h:(p.num-q.num).sign=0):decide (((p.den:Int)-(q.den:Int)).sign=0)=decide (p=q):=by
 have h1:=Int.sign_eq_zero_iff_zero.1 h
 rw[decide_eq_decide,Int.sign_eq_zero_iff_zero]
 exact⟨fun h2=>Rat.ext (by omega) (by omega),fun h2=>by subst h2;omega⟩
theorem BE {p q:Rat}(h:¬(p.num-q.num).sign=0):false=decide (p=q):=by
 refine(decide_eq_false fun h2=>h ?_).symm
 subst h2
 rw[Int.sub_self]
 rfl
theorem FX {a b:Fr4}{p q:Rat}(ha:Qn a p) (hb:Qn b q):aE true Tryz.prog 21 [] [qF a,qF b] (aN (.one (tv (.bool (decide (p=q)))))):=by
 refine bF Tryz.func21 rfl Tryz.ntmps21 rfl aA rfl fun N w c0 h0=>?_
 have hs:=ha.sz;have hs':=hb.sz
 refine sq ?_;refine rl ?_;refine bx 0 ?_;refine bx 1 ?_;refine o1 ?_;refine nl ?_
 refine md (γ:=Unit) (fun _=>cE [(2,.one (.pt 0 0)),(3,.one (.pt 1 0)),(4,.one (tv (.bool false)))]) (fun _=>([⟨27,0,((Fr4.of p).tr false).map .t⟩,⟨27,0,((Fr4.of q).tr false).map .t⟩]:List Ob).map some) (fun _=>True) ?_ fun _ _=>?_
 ·refine rd [0,1] (fun i=>[0,1,2,3,4,5].contains i) mixed ?_
  refine WO.two (i:=0) (j:=2) (by kernel_rfl) ?_ ?_
  ·refine eO 0 ?_;refine WO.two (i:=1) (j:=2) (by kernel_rfl) ?_ ?_
   ·refine cU 1 rfl (dA ha) fD ⟨aB rfl,rfl⟩ (qF (.of p)) ?_;refine WO.one (by kernel_rfl) (eO 2 ?_)
    refine aJ 3 rfl (dA hb) fD ⟨aB rfl,rfl⟩ (qF (.of q)) ?_;refine dst 4 ?_;refine dst 5 ?_;refine aU ?_
    exact⟨(),trivial,aQ h0 [0,1] _ _ (by decide) ⟨rfl,rfl,rfl,trivial⟩ ⟨oe rfl rfl,oe rfl rfl,rfl⟩⟩
   refine eO 2 ?_;refine aJ 1 rfl (dA ha) fD ⟨aB rfl,rfl⟩ (qF (.of p)) ?_;refine aJ 3 rfl (dA hb) fD ⟨aB rfl,rfl⟩ (qF (.of q)) ?_;refine dst 4 ?_;refine dst 5 ?_
   refine aU ?_;exact⟨(),trivial,aQ h0 [0,1] _ _ (by decide) ⟨rfl,rfl,rfl,trivial⟩ ⟨oe rfl rfl,oe rfl rfl,rfl⟩⟩
  refine eO 2 ?_;refine WO.one (by kernel_rfl) (eO 0 ?_)
  refine aJ 1 rfl (dA ha) fD ⟨aB rfl,rfl⟩ (qF (.of p)) ?_;refine aJ 3 rfl (dA hb) fD ⟨aB rfl,rfl⟩ (qF (.of q)) ?_;refine dst 4 ?_;refine dst 5 ?_;refine aU ?_
  exact⟨(),trivial,aQ h0 [0,1] _ _ (by decide) ⟨rfl,rfl,rfl,trivial⟩ ⟨oe rfl rfl,oe rfl rfl,rfl⟩⟩
 refine sq ?_;refine rl ?_;refine o1 ?_;refine ld ?_;refine o1 ?_;refine ld ?_
 refine ca (xX (dW hs) (dW hs')) wI ⟨aB rfl,aB rfl,rfl⟩ (.one (tv (.int .i64 (p.num-q.num).sign))) ?_;refine o1 ?_;refine o1 ?_
 refine WL.split (t:=15) rfl (fun h1=>?_) (fun h1=>?_)
 ·refine o1 ?_;refine ld ?_;refine o1 ?_;refine ld ?_;refine ca (xX (cJ hs) (cJ hs')) wI ⟨aB rfl,aB rfl,rfl⟩ (.one (tv (.int .i64 ((p.den:Int)-(q.den:Int)).sign))) ?_
  (iterate 3 refine o1 ?_);refine nl ?_;refine rt ?_;exact en (.inl rfl) rfl (aV (aO _)) (by decide) (fun _=>trivial) (congrArg (fun z=>FV.one (tv (.bool z))) (Uw h1))
 (iterate 6 refine cH ?_);refine o1 ?_;refine o1 ?_;refine nl ?_;refine rt ?_
 exact en (.inl rfl) rfl (aV (aO _)) (by decide) (fun _=>trivial) (congrArg (fun z=>FV.one (tv (.bool z))) (BE h1))
theorem De {a b:Fr4}{p q:Rat}(ha:Qn a p) (hb:Qn b q):aE true Tryz.prog 56 [] [qF a,qF b] (aN (qO (p*q))):=by
 refine bF Tryz.func56 rfl Tryz.ntmps56 rfl aA rfl fun N w c0 h0=>?_
 have hs:=ha.sz;have hs':=hb.sz
 have hs1:=hs.1;have hs2:=hs.2;have hs3:=hs'.1;have hs4:=hs'.2
 have hs5:(dg 4294967296 ((p.den:Int)).natAbs).length≤68719476736:=hs2
 have hs6:(dg 4294967296 ((q.den:Int)).natAbs).length≤68719476736:=hs4
 refine sq ?_;refine rl ?_;refine bx 0 ?_;refine bx 1 ?_;refine al 2 ?_;refine nl ?_
 refine md (γ:=Unit) (fun _=>cE [(2,.one (.pt 0 0)),(3,.one (.pt 1 0)),(4,.one (.pt 2 0))]) (fun _=>([⟨27,0,((Fr4.of p).tr false).map .t⟩,⟨27,0,((Fr4.of q).tr false).map .t⟩,⟨27,0,[tv (.bool false),tv (.slice none 0 0),tv (.bool false),tv (.slice none 0 0)]⟩]:List Ob).map some) (fun _=>True) ?_ fun _ _=>?_
 ·refine rd [0,1,2] (fun i=>[0,1,2,3,4,5].contains i) mixed ?_
  refine WO.two (i:=0) (j:=2) (by kernel_rfl) ?_ ?_
  ·refine eO 0 ?_;refine WO.two (i:=1) (j:=2) (by kernel_rfl) ?_ ?_
   ·refine cU 1 rfl (dA ha) fD ⟨aB rfl,rfl⟩ (qF (.of p)) ?_;refine WO.one (by kernel_rfl) (eO 2 ?_)
    refine aJ 3 rfl (dA hb) fD ⟨aB rfl,rfl⟩ (qF (.of q)) ?_;refine dst 4 ?_;refine dst 5 ?_;refine aU ?_
    exact⟨(),trivial,aQ h0 [0,1,2] _ _ (by decide) ⟨rfl,rfl,rfl,trivial⟩ ⟨oe rfl rfl,oe rfl rfl,oe rfl rfl,rfl⟩⟩
   refine eO 2 ?_;refine aJ 1 rfl (dA ha) fD ⟨aB rfl,rfl⟩ (qF (.of p)) ?_;refine aJ 3 rfl (dA hb) fD ⟨aB rfl,rfl⟩ (qF (.of q)) ?_;refine dst 4 ?_;refine dst 5 ?_
   refine aU ?_;exact⟨(),trivial,aQ h0 [0,1,2] _ _ (by decide) ⟨rfl,rfl,rfl,trivial⟩ ⟨oe rfl rfl,oe rfl rfl,oe rfl rfl,rfl⟩⟩
  refine eO 2 ?_;refine WO.one (by kernel_rfl) (eO 0 ?_)
  refine aJ 1 rfl (dA ha) fD ⟨aB rfl,rfl⟩ (qF (.of p)) ?_;refine aJ 3 rfl (dA hb) fD ⟨aB rfl,rfl⟩ (qF (.of q)) ?_;refine dst 4 ?_;refine dst 5 ?_;refine aU ?_
  exact⟨(),trivial,aQ h0 [0,1,2] _ _ (by decide) ⟨rfl,rfl,rfl,trivial⟩ ⟨oe rfl rfl,oe rfl rfl,oe rfl rfl,rfl⟩⟩
 refine sq ?_;refine rd [0,1,2] (fun i=>[11].contains i) mixed ?_
 refine dv 0 ?_;refine aW 1 ?_;refine dv 2 ?_;refine aW 3 ?_;refine dv 5 ?_;refine aW 6 ?_;refine dv 7 ?_;refine aW 8 ?_;have hn1:=cI (p.num) (q.num)
 refine aJ 4 rfl (qC (dW hs) (dW hs')) rF ⟨aB rfl,aB rfl,rfl⟩ (kF ((p.num*q.num))) ?_;have hn2:=cI ((p.den:Int)) ((q.den:Int))
 refine aJ 9 rfl (qC (cJ hs) (cJ hs')) rF ⟨aB rfl,aB rfl,rfl⟩ (kF (((p.den:Int)*(q.den:Int)))) ?_
 refine oT 3 10 rfl (Bo (Zn.of (k:=(p.num*q.num)) (by omega)) (Zn.of (k:=((p.den:Int)*(q.den:Int))) (by omega)) (den_nz p q)) Db ⟨aB rfl,aB rfl,rfl⟩ ?_
 refine dst 11 ?_;refine aU ?_;refine rt ?_
 exact en (.inl rfl) rfl (aV (.agg (.cons (.id rfl) (.cons (.sl (trs:=aR (dg 4294967296 (Rat.divInt (p.num*q.num) ((p.den:Int)*(q.den:Int))).num.natAbs)) rfl rfl (bL _) (aX _)) (.cons (.id rfl) (.cons (.sl (trs:=aR (dg 4294967296 (Rat.divInt (p.num*q.num) ((p.den:Int)*(q.den:Int))).den)) rfl rfl (bL _) (aX _)) .nil)))))) (by decide) (fun _=>En _) (congrArg qO (Yi p q))
theorem Nd {a b:Zi}{k k':Int}(ha:Zn a k) (hb:Zn b k'):aE false Tryz.prog 64 [] [gF a,gF b] (aN (.tup [qF (.of (Rat.divInt k k')),.one (tv (.int .i64 (if k'=0 then 20 else 0)))])):=by
 refine bF Tryz.func64 rfl Tryz.ntmps64 rfl aA rfl fun N9 w9 c0 h0=>?_
 refine sq ?_;refine rl ?_;refine bx 0 ?_;refine bx 1 ?_;refine al 2 ?_;refine o1 ?_;refine nl ?_;refine sq ?_;refine sq ?_;refine rl ?_;refine ld ?_
 refine ca (qA (hb).g) zS ⟨aB rfl,rfl⟩ (.one (tv (.int .i64 (k').sign))) ?_;refine o1 ?_;refine nl ?_;refine bR rfl (fun h1=>?_) (fun h1=>?_)
 ·refine sq ?_;refine rl ?_;refine o1 ?_;refine ca (LW) My rfl (kF 1) ?_;refine o1 ?_;refine st ?_;refine o1 ?_;refine nl ?_;refine rt ?_
  have hk0:k'=0:=Int.sign_eq_zero_iff_zero.1 h1
  have hd0:Rat.divInt k k'=0:=by rw[hk0];simp
  exact en (.inl rfl) rfl (dB (.cons (.agg (.cons (.id rfl) (.cons .nilf (.cons (.id rfl) (.cons (.id rfl) .nil))))) (.cons (aO _) .nil))) (by decide) (fun h=>by cases h) (by rw[if_pos hk0,hd0];exact congrArg (fun f=>FV.tup [f,.one (tv (.int .i64 20))]) PI)
 refine sk ?_;refine sq ?_;have hk0:k'≠0:=fun h9=>h1 (by rw[h9];rfl)
 refine rl ?_;refine ld ?_;refine ld ?_;refine ca (Bo ha hb hk0) Db ⟨aB rfl,aB rfl,rfl⟩ (qF (.of (Rat.divInt k k'))) ?_;refine st ?_;refine o1 ?_;refine nl ?_;refine rt ?_
 exact en (.inl rfl) rfl (dB (.cons (.agg (.cons (.id rfl) (.cons (.id rfl) (.cons (.id rfl) (.cons (.id rfl) .nil))))) (.cons (aO _) .nil))) (by decide) (fun h=>by cases h) (by rw[if_neg hk0];rfl)
theorem Yl {a b:Fr4}{p q:Rat}(ha:Qn a p) (hb:Qn b q):aE false Tryz.prog 23 [] [qF a,qF b] (aN (.tup [qF (.of (p/q)),.one (tv (.int .i64 (if q=0 then 20 else 0)))])):=by
 refine bF Tryz.func23 rfl Tryz.ntmps23 rfl aA rfl fun N w c0 h0=>?_
 have hs:=ha.sz;have hs':=hb.sz
 have hs1:=hs.1;have hs2:=hs.2;have hs3:=hs'.1;have hs4:=hs'.2
 have hs5:(dg 4294967296 ((p.den:Int)).natAbs).length≤68719476736:=hs2
 have hs6:(dg 4294967296 ((q.den:Int)).natAbs).length≤68719476736:=hs4
 refine sq ?_;refine rl ?_;refine bx 0 ?_;refine bx 1 ?_;refine al 2 ?_;refine o1 ?_;refine nl ?_
 refine md (γ:=Unit) (fun _=>cE [(2,.one (.pt 0 0)),(3,.one (.pt 1 0)),(4,.one (.pt 2 0)),(5,.one (tv (.int .i64 ((0:Nat):Int))))]) (fun _=>([⟨27,0,((Fr4.of p).tr false).map .t⟩,⟨27,0,((Fr4.of q).tr false).map .t⟩,⟨27,0,[tv (.bool false),tv (.slice none 0 0),tv (.bool false),tv (.slice none 0 0)]⟩]:List Ob).map some) (fun _=>True) ?_ fun _ _=>?_
 ·refine rd [0,1,2] (fun i=>[0,1,2,3,4,5].contains i) mixed ?_
  refine WO.two (i:=0) (j:=2) (by kernel_rfl) ?_ ?_
  ·refine eO 0 ?_;refine WO.two (i:=1) (j:=2) (by kernel_rfl) ?_ ?_
   ·refine cU 1 rfl (dA ha) fD ⟨aB rfl,rfl⟩ (qF (.of p)) ?_;refine WO.one (by kernel_rfl) (eO 2 ?_)
    refine aJ 3 rfl (dA hb) fD ⟨aB rfl,rfl⟩ (qF (.of q)) ?_;refine dst 4 ?_;refine dst 5 ?_;refine aU ?_
    exact⟨(),trivial,aQ h0 [0,1,2] _ _ (by decide) ⟨rfl,rfl,rfl,rfl,trivial⟩ ⟨oe rfl rfl,oe rfl rfl,oe rfl rfl,rfl⟩⟩
   refine eO 2 ?_;refine aJ 1 rfl (dA ha) fD ⟨aB rfl,rfl⟩ (qF (.of p)) ?_;refine aJ 3 rfl (dA hb) fD ⟨aB rfl,rfl⟩ (qF (.of q)) ?_;refine dst 4 ?_;refine dst 5 ?_
   refine aU ?_;exact⟨(),trivial,aQ h0 [0,1,2] _ _ (by decide) ⟨rfl,rfl,rfl,rfl,trivial⟩ ⟨oe rfl rfl,oe rfl rfl,oe rfl rfl,rfl⟩⟩
  refine eO 2 ?_;refine WO.one (by kernel_rfl) (eO 0 ?_)
  refine aJ 1 rfl (dA ha) fD ⟨aB rfl,rfl⟩ (qF (.of p)) ?_;refine aJ 3 rfl (dA hb) fD ⟨aB rfl,rfl⟩ (qF (.of q)) ?_;refine dst 4 ?_;refine dst 5 ?_;refine aU ?_
  exact⟨(),trivial,aQ h0 [0,1,2] _ _ (by decide) ⟨rfl,rfl,rfl,rfl,trivial⟩ ⟨oe rfl rfl,oe rfl rfl,oe rfl rfl,rfl⟩⟩
 refine sq ?_;refine rd [0,1,2] (fun i=>[13,14].contains i) mixed ?_
 refine dv 0 ?_;refine aW 1 ?_;refine dv 2 ?_;refine aW 3 ?_;refine dv 5 ?_;refine aW 6 ?_;refine dv 7 ?_;refine aW 8 ?_;have hn1:=cI (p.num) ((q.den:Int))
 refine aJ 4 rfl (qC (dW hs) (cJ hs')) rF ⟨aB rfl,aB rfl,rfl⟩ (kF ((p.num*(q.den:Int)))) ?_;have hn2:=cI ((p.den:Int)) (q.num)
 refine aJ 9 rfl (qC (cJ hs) (dW hs')) rF ⟨aB rfl,aB rfl,rfl⟩ (kF (((p.den:Int)*q.num))) ?_
 refine aJ 10 rfl (Nd (Zn.of (k:=(p.num*(q.den:Int))) (by omega)) (Zn.of (k:=((p.den:Int)*q.num)) (by omega))) Ux ⟨aB rfl,aB rfl,rfl⟩ (.tup [qF (.of (Rat.divInt ((p.num*(q.den:Int))) (((p.den:Int)*q.num)))),.one (tv (.int .i64 (if(((p.den:Int)*q.num))=0 then 20 else 0)))]) ?_
 refine df 11 ?_;refine df 12 ?_;refine dst 13 ?_;refine cZ 14 (by kernel_rfl) rfl rfl aA rfl (by trivial) ?_ (fun h=>by first | rfl | cases h)
 refine aU ?_;refine rt ?_
 exact en (.inl rfl) rfl (dB (.cons (.agg (.cons (.id rfl) (.cons (.id rfl) (.cons (.id rfl) (.cons (.id rfl) .nil))))) (.cons (aO _) .nil))) (by decide) (fun h=>by cases h) (by have e9:(if((p.den:Int)*q.num)=0 then(20:Int)else 0)=if q=0 then 20 else 0:=(by simp only[Ey]);rw[e9,Nb];rfl)
theorem MA {xs:List Fr4}{B:Nat}(hB:2+xs.length*(B+1)≤68719476736) (hx:∀x∈xs,x.ok) (hz:∀x∈xs,Sz B x.q) (hl:xs.length≤1073741823):aE false Tryz.prog 54 [] [.one (.t (sQ false xs))] (aN (qF (.of (kQ (xs.map Fr4.q))))):=by
 refine bF Tryz.func54 rfl Tryz.ntmps54 rfl aA rfl fun N9 w9 c0 h0=>?_
 have h00:((0:Int):Rat)=kQ ((xs.take 0).map Fr4.q):=by simp[kQ]
 refine sq ?_;refine rl ?_;refine al 0 ?_;refine nl ?_;refine sq ?_;refine rl ?_;refine ca (eB (z:=0) (by omega) (by omega)) jL ⟨a1 rfl,rfl⟩ (qF (.of ((0:Int):Rat))) ?_
 refine al 1 ?_;refine st ?_;refine nl ?_;refine sq ?_;refine sq ?_;refine rl ?_;(iterate 3 refine o1 ?_);refine nl ?_;refine bl ?_
 refine lp (γ:=Nat) (fun k=>cE [(2,.one (.pt 0 0)),(3,.one (.pt 1 0)),(7,.one (.t (sQ false xs))),(8,.one (tv (.int .i64 ((xs.length:Nat):Int)))),(9,.one (tv (.int .i64 ((k:Nat):Int))))]) (fun k=>[(⟨27,0,[tv (.bool false),tv (.slice none 0 0),tv (.bool false),tv (.slice none 0 0)]⟩:Ob),⟨27,0,((Fr4.of (kQ ((xs.take (k)).map Fr4.q))).tr false).map .t⟩].map some) (fun k=>k≤xs.length∧Sz (2+k*(B+1)) (kQ ((xs.take (k)).map Fr4.q))) (fun k=>xs.length-k) 0 ⟨Nat.zero_le _,by simpa[kQ]using cB (z:=0) (by omega) (by omega)⟩ (aQ h0 [0,1] _ _ (by decide) ⟨rfl,rfl,rfl,rfl,rfl,trivial⟩ ⟨oe rfl rfl,cV (congrArg (fun q=>some (⟨27,0,((Fr4.of q).tr false).map .t⟩:Ob)) h00),rfl⟩) fun k hk=>?_
 have hmul:k*(B+1)≤xs.length*(B+1):=Nat.mul_le_mul hk.1 (Nat.le_refl _)
 refine sq ?_;refine rl ?_;refine o1 ?_;refine nl ?_;refine sq ?_;refine bR rfl (fun h1=>?_) (fun h1=>?_)
 ·refine sk ?_;refine sq ?_;refine bl ?_;refine sq ?_;refine rl ?_;refine o1 ?_;refine kR ((jM xs (k)).tr false) (Qj xs (k:=k) (by omega)) ?_
  refine al 2 ?_;refine st ?_;refine nl ?_;have hmul2:(k+1)*(B+1)≤xs.length*(B+1):=Nat.mul_le_mul (by omega) (Nat.le_refl _)
  have hmul3:(k+1)*(B+1)=k*(B+1)+(B+1):=Nat.succ_mul k (B+1)
  refine rd [0,1,2] (fun i=>[4].contains i) mixed ?_
  refine aW 0 ?_;refine aW 1 ?_;refine aJ 2 rfl (dA ⟨hx _ (lO (by omega)),rfl⟩) fD ⟨aB rfl,rfl⟩ (qF (.of (jM xs (k)).q)) ?_
  refine aJ 3 rfl (LX (hk.2.mono (by omega)) ((hz _ (lO (by omega))).mono (by omega))) PZ ⟨aB rfl,aB rfl,rfl⟩ (qF (.of ((kQ ((xs.take (k)).map Fr4.q))+(jM xs (k)).q))) ?_
  refine dst 4 ?_;refine aU ?_;refine rl ?_;refine o1 ?_;refine WL.cast (t:=17) (u':=.int .i64 ((k+1:Nat):Int)) rfl (aI (by omega)) ?_
  refine o1 ?_;refine nl ?_;have hst:(kQ ((xs.take (k+1)).map Fr4.q))=(kQ ((xs.take (k)).map Fr4.q))+(jM xs (k)).q:=by rw[Qk (by omega)];exact Ql _ _
  exact⟨k+1,by omega,⟨by omega,by rw[hst];exact(Qm hk.2 (hz _ (lO (by omega)))).mono (by omega)⟩,aQ h0 [0,1] _ _ (by decide) ⟨rfl,rfl,rfl,rfl,rfl,trivial⟩ ⟨oe rfl rfl,cV (congrArg (fun q=>some (⟨27,0,((Fr4.of q).tr false).map .t⟩:Ob)) hst.symm),rfl⟩⟩
 refine ex ?_;refine sq ?_;refine rl ?_;refine ld ?_;refine st ?_;refine nl ?_;refine rt ?_
 exact en (.inl rfl) rfl (aV (.agg (.cons (.id rfl) (.cons (.id rfl) (.cons (.id rfl) (.cons (.id rfl) .nil)))))) (by decide) (fun h=>by cases h) (by rw[List.take_of_length_le (by omega)];rfl)
theorem BF {a:Fr4}{p:Rat}(ha:Qn a p):aE false Tryz.prog 167 [] [qF a] (aN (.tup [kO (p.num.fdiv (p.den:Int)),kO (p.num.fmod (p.den:Int)),.agg [tv (.bool false),.t (sU false (dg 4294967296 p.den))]])):=by
 refine QA Tryz.func167 rfl Tryz.ntmps167 rfl aA rfl fun N9 w9 c0 h0=>?_
 refine sq ?_;refine rl ?_;refine bx 0 ?_;refine al 1 ?_;refine al 2 ?_;refine al 3 ?_;refine nl ?_;refine sq ?_;refine sq ?_;refine rl ?_;refine ld ?_
 refine ca (Eu ha.1) Mz ⟨aB rfl,rfl⟩ (.one (tv (.bool (cW a.s a.x a.t a.y)))) ?_;refine WL.splitb (t:=6) rfl (fun h1=>?_) (fun h1=>?_)
 ·refine o1 ?_;refine nl ?_;refine fW rfl ?_;refine sk ?_;refine sq ?_;obtain rfl:=(ha.right h1).symm
  have hd0:(p.den:Int)≠0:=by have:=p.den_pos;omega
  refine rl ?_;refine o1 ?_;refine ld ?_;refine o1 ?_;refine ld ?_;refine gH 4 (nZ (dW ha.sz).g (cJ ha.sz).g hd0) xS ⟨aB rfl,aB rfl,rfl⟩ ?_;(iterate 4 refine o1 ?_)
  refine st ?_;refine st ?_;refine nl ?_;refine sq ?_;refine rd [0,3] (fun i=>[6].contains i) mixed ?_
  refine dv 2 ?_;refine aW 3 ?_;refine WO.two (i:=0) (j:=1) (by kernel_rfl) ?_ ?_
  ·refine eO 0 ?_;refine WO.two (i:=1) (j:=4) (by kernel_rfl) ?_ ?_
   ·refine eO 1 ?_;refine aS 4 (by kernel_rfl) rfl rfl aA rfl rfl rfl rfl ⟨rfl,rfl,trivial⟩ ?_
    refine aS 5 (by kernel_rfl) rfl rfl aA rfl rfl rfl rfl ⟨rfl,rfl,trivial⟩ ?_
    refine dst 6 ?_;refine aU ?_;refine rt ?_
    exact zU <| en (.inl rfl) rfl (gI (.cons (.agg (.cons (.id rfl) (.cons (.sl (trs:=aR (dg 4294967296 ((p.num.fdiv (p.den:Int))).natAbs)) rfl rfl (bL _) (aX _)) .nil))) (.cons (.agg (.cons (.id rfl) (.cons (.sl (trs:=aR (dg 4294967296 ((p.num.fmod (p.den:Int))).natAbs)) rfl rfl (bL _) (aX _)) .nil))) (.cons (.agg (.cons (.id rfl) (.cons (.id rfl) .nil))) .nil)))) (by simp) (fun h=>by cases h) rfl
   refine LY 4 rfl rfl aA rfl rfl rfl rfl ⟨rfl,rfl,trivial⟩ ?_;refine WO.one (by kernel_rfl) (eO 1 ?_)
   refine aS 5 (by kernel_rfl) rfl rfl aA rfl rfl rfl rfl ⟨rfl,rfl,trivial⟩ ?_
   refine dst 6 ?_;refine aU ?_;refine rt ?_
   exact zU <| en (.inl rfl) rfl (gI (.cons (.agg (.cons (.id rfl) (.cons (.sl (trs:=aR (dg 4294967296 ((p.num.fdiv (p.den:Int))).natAbs)) rfl rfl (bL _) (aX _)) .nil))) (.cons (.agg (.cons (.id rfl) (.cons (.sl (trs:=aR (dg 4294967296 ((p.num.fmod (p.den:Int))).natAbs)) rfl rfl (bL _) (aX _)) .nil))) (.cons (.agg (.cons (.id rfl) (.cons (.id rfl) .nil))) .nil)))) (by simp) (fun h=>by cases h) rfl
  refine eO 1 ?_;refine WO.one (by kernel_rfl) (eO 0 ?_)
  refine aS 4 (by kernel_rfl) rfl rfl aA rfl rfl rfl rfl ⟨rfl,rfl,trivial⟩ ?_
  refine aS 5 (by kernel_rfl) rfl rfl aA rfl rfl rfl rfl ⟨rfl,rfl,trivial⟩ ?_
  refine dst 6 ?_;refine aU ?_;refine rt ?_
  exact zU <| en (.inl rfl) rfl (gI (.cons (.agg (.cons (.id rfl) (.cons (.sl (trs:=aR (dg 4294967296 ((p.num.fdiv (p.den:Int))).natAbs)) rfl rfl (bL _) (aX _)) .nil))) (.cons (.agg (.cons (.id rfl) (.cons (.sl (trs:=aR (dg 4294967296 ((p.num.fmod (p.den:Int))).natAbs)) rfl rfl (bL _) (aX _)) .nil))) (.cons (.agg (.cons (.id rfl) (.cons (.id rfl) .nil))) .nil)))) (by simp) (fun h=>by cases h) rfl
 refine o1 ?_;refine nl ?_;refine fX rfl ?_;refine sq ?_;refine rl ?_;refine o1 ?_;refine o1 ?_;refine ca (wJ (n:=1) (by omega) (by omega)) wK ⟨a1 rfl,rfl⟩ (kF 1) ?_
 (iterate 3 refine st ?_);refine nl ?_;refine rt ?_;have hq9:=ha.wrong h1
 subst hq9;refine PJ (PK (j:=1) (key:=4) (e:=115) (z:=1) rfl rfl rfl (.id (.sl .nil))) ?_;refine PJ (PK (j:=2) (key:=5) (e:=115) (z:=1) rfl rfl rfl (.id (.sl .nil))) ?_
 exact zU <| en (.inl rfl) rfl (gI (.cons (.agg (.cons (.id rfl) (.cons (.sl (trs:=aR []) rfl rfl rfl rfl) .nil))) (.cons (.agg (.cons (.id rfl) (.cons (.sl (trs:=aR []) rfl rfl rfl rfl) .nil))) (.cons (.agg (.cons (.id rfl) (.cons (.id rfl) .nil))) .nil)))) (by simp) (fun h=>by cases h) rfl
def mE (a:Fr4):Bool:= !cW a.s a.x a.t a.y || decide (cY a.t a.y≠1)
theorem QB {a:Fr4}{p:Rat}(_:Qn a p) (h:cW a.s a.x a.t a.y=true):decide ((cY a.t a.y-1).sign≠0)=mE a:=by
 unfold mE
 rw[h]
 have e:((cY a.t a.y-1).sign=0)↔cY a.t a.y=1:=by rw[Int.sign_eq_zero_iff_zero];omega
 simp[e]
theorem Uy (p:Rat) (h:cW (Fr4.of p).s (Fr4.of p).x (Fr4.of p).t (Fr4.of p).y=true):mE (.of p)= !decide (p.den=1):=by
 unfold mE
 rw[h]
 have e:cY (Fr4.of p).t (Fr4.of p).y=(p.den:Int):=lL p.den
 rw[e]
 have e2:((p.den:Int)≠1)↔¬p.den=1:=by omega
 simp[e2]
theorem Nf {a:Fr4}{p:Rat}(ha:Qn a p):aE true Tryz.prog 108 [] [qF a] (aN (.one (tv (.bool (mE a))))):=by
 refine bF Tryz.func108 rfl Tryz.ntmps108 rfl aA rfl fun N9 w9 c0 h0=>?_
 refine sq ?_;refine rl ?_;refine bx 0 ?_;refine o1 ?_;refine nl ?_;refine sq ?_;refine rd [0] (fun i=>[10].contains i) mixed ?_
 refine aW 0 ?_;refine aJ 1 rfl (Eu ha.1) Mz ⟨aB rfl,rfl⟩ (.one (tv (.bool (cW a.s a.x a.t a.y)))) ?_;refine WD.splitb (t:=4) rfl (fun h1=>?_) (fun h1=>?_)
 ·refine df 2 ?_;refine df 3 ?_;refine dv 4 ?_;refine aW 5 ?_;refine aJ 6 rfl (wJ (n:=1) (by omega) (by omega)) wK ⟨a1 rfl,rfl⟩ (kF 1) ?_
  refine aJ 7 rfl (xX (rG ha) (Zn.of (k:=1) (by decide))) wI ⟨aB rfl,aB rfl,rfl⟩ (.one (tv (.int .i64 (cY a.t a.y-1).sign))) ?_
  refine df 8 ?_;refine df 9 ?_;refine cZ 10 (by kernel_rfl) rfl rfl aA rfl (by trivial) ?_ (fun h=>by first | rfl | cases h)
  refine aU ?_;refine rt ?_;have hr9:=ha.right h1
  exact en (.inl rfl) rfl (aV (aO _)) (by decide) (fun _=>trivial) (congrArg (fun z=>FV.one (tv (.bool z))) (QB ha h1))
 refine df 2 ?_;refine df 3 ?_;refine dH 4 ?_;refine dH 5 ?_;refine dH 6 ?_;refine dH 7 ?_;refine dH 8 ?_;refine df 9 ?_
 refine cZ 10 (by kernel_rfl) rfl rfl aA rfl (by trivial) ?_ (fun h=>by first | rfl | cases h)
 refine aU ?_;refine rt ?_;exact en (.inl rfl) rfl (aV (aO _)) (by decide) (fun _=>trivial) (congrArg (fun z=>FV.one (tv (.bool z))) (by unfold mE;rw[h1];rfl))
end Go.Proofs.YtcaakamelngceaaGreatDoor
