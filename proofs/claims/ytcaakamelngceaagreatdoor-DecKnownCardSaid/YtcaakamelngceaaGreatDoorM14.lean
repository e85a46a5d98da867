/- Part 14 of a proof: U6 to U9. -/
import Derived.Test.YtcaakamelngceaaGreatDoorM13
import Derived.Test.YtcaakamelngceaaGreatDoorM5
import Derived.Test.YtcaakamelngceaaGreatDoorM7
import Derived.ProofKit
import Derived.ChangeOld
import Derived.Deep.Slices
import Derived.Deep.Strs
set_option maxRecDepth 100000
set_option linter.unusedVariables false
set_option linter.unusedSimpArgs false
namespace Go.Proofs.YtcaakamelngceaaGreatDoor
open Go Go.RowKit
theorem LG (p q:Rat):decide ((p-q).num.sign=0)=decide (p=q):=by
 refine decide_eq_decide.2 ?_
 rw[Int.sign_eq_zero_iff_zero,Rat.num_eq_zero]
 constructor
 ·intro h
  grind
 intro h
 rw[h]
 grind
theorem Mq {a b:Fr4}{p q:Rat}(ha:Qn a p) (hb:Qn b q) (hs:Sz 10000000 p) (ht:Sz 10000000 q):aE true Tryz.prog 59 [] [qF a,qF b] (aM (.one (tv (.bool (decide (p=q)))))):=by
 refine bD Tryz.func59 rfl Tryz.ntmps59 rfl aA rfl fun N w c0 h0=>?_
 refine sq ?_;refine rl ?_;refine bx 0 ?_;refine bx 1 ?_;refine o1 ?_;refine nl ?_;refine sq ?_;refine rl ?_;refine ld ?_;refine ld ?_
 refine ca (Ia ha hb (hs.mono (M:=17179869184) (by omega)) (ht.mono (M:=17179869184) (by omega))) Yh ⟨aB rfl,aB rfl,rfl⟩ (.one (tv (.int .i64 (p-q).num.sign))) ?_
 refine o1 ?_;refine o1 ?_;refine nl ?_;refine rt ?_;exact en (.inl rfl) rfl (aV (aP _)) (by decide) (fun _=>trivial) (congrArg (fun b=>FV.one (tv (.bool b))) (LG p q))
theorem Yi {p:Rat}:p.num.sign<0↔p<0:=by rw[←iG];exact Int.sign_neg_iff
theorem FI (z:Int):(dg 4294967296 (z.fmod 2).natAbs).length≤1:=by
 have h1:=Int.fmod_nonneg_of_pos z (show(0:Int)<2 by omega)
 have h2:=Int.fmod_lt_of_pos z (show(0:Int)<2 by omega)
 exact bQ (by omega) (by omega)
theorem FJ {q:Rat}{L:Nat}(h:Sz L q) (hL:L+2≤1000000):(dg 4294967296 (hal q).natAbs).length≤1000000:=by
 have h1:=h.1
 have h2:(hal q).natAbs≤(fl q).natAbs+1:=by
  unfold hal
  rw[mM]
  split <;> omega
 have h3:=vA q
 generalize fl q=f at h2 h3
 have h4:=fG (f.natAbs:Int) 1
 have h5:((f.natAbs:Int)+1).natAbs=f.natAbs+1:=by omega
 rw[h5,Int.natAbs_natCast]at h4
 have h6:(dg 4294967296 (1:Int).natAbs).length≤1:=by decide
 have h7:=dG h2
 omega
section
variable {q:Rat}
theorem QG (h:0<(q.num.fmod (q.den:Int)+q.num.fmod (q.den:Int)-(q.den:Int)).sign):q.num.fdiv (q.den:Int)+1=hal q:=by
 have h1:=Int.sign_pos_iff.1 h
 unfold hal
 rw[if_pos (.inl (by omega))]
theorem QH (h:¬0<(q.num.fmod (q.den:Int)+q.num.fmod (q.den:Int)-(q.den:Int)).sign) (h2:¬(q.num.fmod (q.den:Int)+q.num.fmod (q.den:Int)-(q.den:Int)).sign=0):q.num.fdiv (q.den:Int)=hal q:=by
 have h3:¬0<q.num.fmod (q.den:Int)+q.num.fmod (q.den:Int)-(q.den:Int):=fun h9=>h (Int.sign_pos_iff.2 h9)
 have h4:¬q.num.fmod (q.den:Int)+q.num.fmod (q.den:Int)-(q.den:Int)=0:=fun h9=>h2 (Int.sign_eq_zero_iff_zero.2 h9)
 unfold hal
 rw[if_neg (by omega)]
theorem SN (z:Int):(z.fmod 2).sign=0↔z%2=0:=by
 rw[Int.sign_eq_zero_iff_zero,Int.fmod_eq_emod_of_nonneg _ (by omega)]
theorem QI (h:(q.num.fmod (q.den:Int)+q.num.fmod (q.den:Int)-(q.den:Int)).sign=0) (h2:((q.num.fdiv (q.den:Int)).fmod 2).sign≠0):q.num.fdiv (q.den:Int)+1=hal q:=by
 have h1:=Int.sign_eq_zero_iff_zero.1 h
 unfold hal
 rw[if_pos (.inr ⟨by omega,fun h9=>h2 ((SN _).2 h9)⟩)]
theorem QJ (h:(q.num.fmod (q.den:Int)+q.num.fmod (q.den:Int)-(q.den:Int)).sign=0) (h2:¬((q.num.fdiv (q.den:Int)).fmod 2).sign≠0):q.num.fdiv (q.den:Int)=hal q:=by
 have h1:=Int.sign_eq_zero_iff_zero.1 h
 have h3:=(SN _).1 (Decidable.byContradiction h2)
 unfold hal
 rw[if_neg (by omega)]
end
theorem LH {k:Int}(h:0≤k) (hs:(dg 4294967296 k.natAbs).length≤1000000):aE true Tryz.prog 53 [] [kF k] (aM (.one (tv (.string (aC (tx k.natAbs)))))):=by
 have h1:=KV (Zn.of (k:=k) (Nat.le_trans hs (by omega))) hs
 rwa[show Se k=tx k.natAbs by unfold Se;rw[if_neg (by omega)]]at h1
set_option maxHeartbeats 1000000 in
theorem Qi {a:Fr4}{p:Rat}{n:Int}{L:Nat}(ha:Qn a p) (hs:Sz L p) (hL:L+100≤1000000):aE true Tryz.prog 17 [] [qF a,.one (tv (.int .i64 n))] (aM (.one (tv (.string (aC (aX p (aD n))))))):=by
 refine bD Tryz.func17 rfl Tryz.ntmps17 rfl aA rfl fun N9 w9 c0 h0=>?_
 have hD:(aD n)≤40:=pJ
 have hX:Sz (L+((aD n)+1)) (p*((10^(aD n):Nat):Rat)):=jC hs (fC _)
 have hA:Sz (L+((aD n)+1)) (aJ (p*((10^(aD n):Nat):Rat))):=FE hX
 have hd0:((aJ (p*((10^(aD n):Nat):Rat))).den:Int)≠0:=by have:=(aJ (p*((10^(aD n):Nat):Rat))).den_pos;omega
 have hA1:=hA.1
 have hA2:=hA.2
 have hfl:(dg 4294967296 ((aJ (p*((10^(aD n):Nat):Rat))).num.fdiv ((aJ (p*((10^(aD n):Nat):Rat))).den:Int)).natAbs).length≤1000000:=by rw[mM];exact Nat.le_trans (vA _) (by omega)
 have hfm:(dg 4294967296 ((aJ (p*((10^(aD n):Nat):Rat))).num.fmod ((aJ (p*((10^(aD n):Nat):Rat))).den:Int)).natAbs).length≤1000000:=Nat.le_trans (xV _) (by omega)
 have hmm:(dg 4294967296 (((aJ (p*((10^(aD n):Nat):Rat))).num.fmod ((aJ (p*((10^(aD n):Nat):Rat))).den:Int))+((aJ (p*((10^(aD n):Nat):Rat))).num.fmod ((aJ (p*((10^(aD n):Nat):Rat))).den:Int))).natAbs).length≤2000001:=by have:=fG ((aJ (p*((10^(aD n):Nat):Rat))).num.fmod ((aJ (p*((10^(aD n):Nat):Rat))).den:Int)) ((aJ (p*((10^(aD n):Nat):Rat))).num.fmod ((aJ (p*((10^(aD n):Nat):Rat))).den:Int));omega
 have hod:(dg 4294967296 (((aJ (p*((10^(aD n):Nat):Rat))).num.fdiv ((aJ (p*((10^(aD n):Nat):Rat))).den:Int)).fmod 2).natAbs).length≤1:=FI _
 have hHl:(dg 4294967296 (hal (aJ (p*((10^(aD n):Nat):Rat)))).natAbs).length≤1000000:=FJ hA (by omega)
 have htl:(tx (hal (aJ (p*((10^(aD n):Nat):Rat)))).natAbs).length≤10000001:=oP hHl
 have hpl:(pd (hal (aJ (p*((10^(aD n):Nat):Rat)))).natAbs (aD n)).length=(aD n):=lL _ _
 have htq:(tx ((hal (aJ (p*((10^(aD n):Nat):Rat)))).natAbs/10^(aD n))).length≤10000001:=oP (Nat.le_trans (dG (Nat.div_le_self _ _)) hHl)
 have htq1:1≤(tx ((hal (aJ (p*((10^(aD n):Nat):Rat)))).natAbs/10^(aD n))).length:=List.length_pos_iff.2 (oI _)
 have hZl:((tx ((hal (aJ (p*((10^(aD n):Nat):Rat)))).natAbs/10^(aD n)))++(pd (hal (aJ (p*((10^(aD n):Nat):Rat)))).natAbs (aD n))).length=(tx ((hal (aJ (p*((10^(aD n):Nat):Rat)))).natAbs/10^(aD n))).length+(aD n):=by rw[List.length_append,hpl]
 refine sq ?_;refine rl ?_;refine bx 0 ?_;refine o1 ?_;refine nl ?_;refine sq ?_;refine rl ?_;(iterate 3 refine o1 ?_)
 refine WL.cast (t:=16) (u':=.int .i64 (((aD n):Nat):Int)) rfl (aH (by unfold aD;omega)) ?_
 refine o1 ?_;refine nl ?_;refine sq ?_;refine rl ?_;refine ld ?_;refine ca (hH ha) qP ⟨aB rfl,rfl⟩ (qF (.of p)) ?_;refine o1 ?_
 refine ca (Qd (c:=(aD n)) (by omega)) Ye ⟨a1 rfl,rfl⟩ (qF (.of ((10^(aD n):Nat):Rat))) ?_
 refine ca (Aa (Qn.of (p:=p) (hs.mono (M:=68719476736) (by omega))) (Qn.of (p:=((10^(aD n):Nat):Rat)) ((fC _).mono (M:=68719476736) (by omega))) (hs.mono (M:=17179869184) (by omega)) ((fC _).mono (M:=17179869184) (by omega))) Qe ⟨aB rfl,aB rfl,rfl⟩ (qF (.of (p*((10^(aD n):Nat):Rat)))) ?_
 refine st ?_;refine nl ?_;refine sq ?_;refine rl ?_;refine ld ?_
 refine ca (Bz (Qn.of (p:=(p*((10^(aD n):Nat):Rat))) (hX.mono (M:=68719476736) (by omega)))) Yb ⟨aB rfl,rfl⟩ (.one (tv (.int .i64 (p*((10^(aD n):Nat):Rat)).num.sign))) ?_
 refine o1 ?_;refine WL.cast (t:=24) (u':=.bool (decide ((p*((10^(aD n):Nat):Rat))<0))) rfl (congrArg Value.bool (decide_eq_decide.2 Yi)) ?_;refine o1 ?_;refine nl ?_
 refine md (γ:=Unit) (fun _=>cD [(1,.one (tv (.int .i64 (((aD n):Nat):Int)))),(2,.one (.pt 0 0)),(5,.one (tv (.bool (decide ((p*((10^(aD n):Nat):Rat))<0)))))]) (fun _=>([⟨33,0,((Fr4.of (aJ (p*((10^(aD n):Nat):Rat)))).tr false).map .t⟩]:List Ob).map some) (fun _=>True) ?_ fun _ _=>?_
 ·refine sq ?_;refine rl ?_;refine o1 ?_;refine nl ?_;refine iW rfl (fun h1=>?_) (fun h1=>?_)
  ·refine rl ?_;refine ld ?_
   refine ca (zZ (Qn.of (p:=(p*((10^(aD n):Nat):Rat))) (hX.mono (M:=68719476736) (by omega)))) Qb ⟨aB rfl,rfl⟩ (qF (.of (-(p*((10^(aD n):Nat):Rat))))) ?_
   refine st ?_;refine nl ?_;exact⟨(),trivial,aO h0 [0] _ _ (by decide) ⟨rfl,rfl,rfl,trivial⟩ ⟨cM (congrArg (fun q=>some (⟨33,0,((Fr4.of q).tr false).map .t⟩:Ob)) (Id h1)),rfl⟩⟩
  refine sk ?_;exact⟨(),trivial,aO h0 [0] _ _ (by decide) ⟨rfl,rfl,rfl,trivial⟩ ⟨cM (congrArg (fun q=>some (⟨33,0,((Fr4.of q).tr false).map .t⟩:Ob)) (Ty h1)),rfl⟩⟩
 refine sq ?_;refine rl ?_;refine o1 ?_;refine ld ?_;refine o1 ?_;refine ld ?_
 refine ca (dW (eA hA) (cN hA) hd0) kH ⟨aB rfl,aB rfl,rfl⟩ (.tup [kF ((aJ (p*((10^(aD n):Nat):Rat))).num.fdiv ((aJ (p*((10^(aD n):Nat):Rat))).den:Int)),kF ((aJ (p*((10^(aD n):Nat):Rat))).num.fmod ((aJ (p*((10^(aD n):Nat):Rat))).den:Int)),.one (tv (.int .i64 0))]) ?_
 (iterate 4 refine o1 ?_);refine al 1 ?_;refine al 2 ?_;refine st ?_;refine st ?_;refine o1 ?_;refine nl ?_;refine sq ?_;refine rd [0,1,2] (fun i=>[6].contains i) mixed ?_
 refine aU 0 ?_;refine aU 1 ?_;refine dv 3 ?_;refine aU 4 ?_
 refine aG 2 rfl (lT (Zn.of (k:=((aJ (p*((10^(aD n):Nat):Rat))).num.fmod ((aJ (p*((10^(aD n):Nat):Rat))).den:Int))) (Nat.le_trans hfm (by omega))) (Zn.of (k:=((aJ (p*((10^(aD n):Nat):Rat))).num.fmod ((aJ (p*((10^(aD n):Nat):Rat))).den:Int))) (Nat.le_trans hfm (by omega)))) sZ ⟨aB rfl,aB rfl,rfl⟩ (kF (((aJ (p*((10^(aD n):Nat):Rat))).num.fmod ((aJ (p*((10^(aD n):Nat):Rat))).den:Int))+((aJ (p*((10^(aD n):Nat):Rat))).num.fmod ((aJ (p*((10^(aD n):Nat):Rat))).den:Int)))) ?_
 refine aG 5 rfl (Hv (Zn.of (k:=((aJ (p*((10^(aD n):Nat):Rat))).num.fmod ((aJ (p*((10^(aD n):Nat):Rat))).den:Int))+((aJ (p*((10^(aD n):Nat):Rat))).num.fmod ((aJ (p*((10^(aD n):Nat):Rat))).den:Int))) (Nat.le_trans hmm (by omega))) (cN hA)) Ya ⟨aB rfl,aB rfl,rfl⟩ (.one (tv (.int .i64 ((((aJ (p*((10^(aD n):Nat):Rat))).num.fmod ((aJ (p*((10^(aD n):Nat):Rat))).den:Int))+((aJ (p*((10^(aD n):Nat):Rat))).num.fmod ((aJ (p*((10^(aD n):Nat):Rat))).den:Int))-((aJ (p*((10^(aD n):Nat):Rat))).den:Int)).sign)))) ?_
 refine cV 6 (by kernel_rfl) rfl rfl aA rfl (by trivial) ?_ (fun h=>by first | rfl | cases h)
 refine aS ?_
 refine md (γ:=Unit) (fun _=>cD [(1,.one (tv (.int .i64 (((aD n):Nat):Int)))),(5,.one (tv (.bool (decide ((p*((10^(aD n):Nat):Rat))<0))))),(6,.one (.pt 0 0)),(9,.one (tv (.int .i64 ((((aJ (p*((10^(aD n):Nat):Rat))).num.fmod ((aJ (p*((10^(aD n):Nat):Rat))).den:Int))+((aJ (p*((10^(aD n):Nat):Rat))).num.fmod ((aJ (p*((10^(aD n):Nat):Rat))).den:Int))-((aJ (p*((10^(aD n):Nat):Rat))).den:Int)).sign)))),(11,.one (.pt 1 0))]) (fun _=>([⟨31,0,[tv (.bool (aL (((aJ (p*((10^(aD n):Nat):Rat))).num.fdiv ((aJ (p*((10^(aD n):Nat):Rat))).den:Int))))),.t (sU false (dg 4294967296 (((aJ (p*((10^(aD n):Nat):Rat))).num.fdiv ((aJ (p*((10^(aD n):Nat):Rat))).den:Int))).natAbs))]⟩,⟨31,0,[tv (.bool (aL ((((aJ (p*((10^(aD n):Nat):Rat))).num.fdiv ((aJ (p*((10^(aD n):Nat):Rat))).den:Int)).fmod 2)))),.t (sU false (dg 4294967296 ((((aJ (p*((10^(aD n):Nat):Rat))).num.fdiv ((aJ (p*((10^(aD n):Nat):Rat))).den:Int)).fmod 2)).natAbs))]⟩]:List Ob).map some) (fun _=>True) ?_ fun _ _=>?_
 ·refine rd [0,1,2] (fun i=>[11].contains i) mixed ?_
  refine aU 0 ?_;refine WO.three (i:=1) (j:=7) (m:=8) (by kernel_rfl) ?_ ?_ ?_
  ·refine cZ 1 rfl (jX (n:=2) (by omega) (by omega)) mS ⟨a1 rfl,rfl⟩ (kF 2) ?_
   refine WO.three (i:=2) (j:=7) (m:=8) (by kernel_rfl) ?_ ?_ ?_
   ·refine cZ 2 rfl (dW (Zn.of (k:=((aJ (p*((10^(aD n):Nat):Rat))).num.fdiv ((aJ (p*((10^(aD n):Nat):Rat))).den:Int))) (Nat.le_trans hfl (by omega))) (Zn.of (k:=2) (by decide)) (by decide)) kH ⟨aB rfl,aB rfl,rfl⟩ (.tup [kF (((aJ (p*((10^(aD n):Nat):Rat))).num.fdiv ((aJ (p*((10^(aD n):Nat):Rat))).den:Int)).fdiv 2),kF (((aJ (p*((10^(aD n):Nat):Rat))).num.fdiv ((aJ (p*((10^(aD n):Nat):Rat))).den:Int)).fmod 2),.one (tv (.int .i64 0))]) ?_
    refine df 3 ?_;refine df 4 ?_;refine df 5 ?_;refine df 6 ?_;refine WO.two (i:=7) (j:=8) (by kernel_rfl) ?_ ?_
    ·refine bV (key:=3) 7 rfl rfl aA rfl ⟨rfl,rfl,rfl,trivial⟩ ?_;refine eP (key:=4) 8 (by kernel_rfl) rfl rfl aA rfl ⟨rfl,rfl,rfl,trivial⟩ ?_
     refine aT 9 (by kernel_rfl) rfl rfl aA rfl rfl rfl rfl ⟨rfl,rfl,rfl,trivial⟩ ?_
     refine aT 10 (by kernel_rfl) rfl rfl aA rfl rfl rfl rfl ⟨rfl,rfl,rfl,trivial⟩ ?_
     refine cV 11 (by kernel_rfl) rfl rfl aA rfl (by trivial) ?_ (fun h=>by first | rfl | cases h)
     refine aS ?_;exact⟨(),trivial,aO h0 [1,4] _ _ (by decide) ⟨rfl,rfl,rfl,rfl,rfl,trivial⟩ ⟨oe rfl rfl,oe rfl rfl,rfl⟩⟩
    refine bV (key:=3) 8 rfl rfl aA rfl ⟨rfl,rfl,rfl,trivial⟩ ?_;refine eP (key:=4) 7 (by kernel_rfl) rfl rfl aA rfl ⟨rfl,rfl,rfl,trivial⟩ ?_
    refine aT 9 (by kernel_rfl) rfl rfl aA rfl rfl rfl rfl ⟨rfl,rfl,rfl,trivial⟩ ?_
    refine aT 10 (by kernel_rfl) rfl rfl aA rfl rfl rfl rfl ⟨rfl,rfl,rfl,trivial⟩ ?_
    refine cV 11 (by kernel_rfl) rfl rfl aA rfl (by trivial) ?_ (fun h=>by first | rfl | cases h)
    refine aS ?_;exact⟨(),trivial,aO h0 [1,3] _ _ (by decide) ⟨rfl,rfl,rfl,rfl,rfl,trivial⟩ ⟨oe rfl rfl,oe rfl rfl,rfl⟩⟩
   ·refine bV (key:=3) 7 rfl rfl aA rfl ⟨rfl,rfl,rfl,trivial⟩ ?_;refine WO.two (i:=2) (j:=8) (by kernel_rfl) ?_ ?_
    ·refine cZ 2 rfl (dW (Zn.of (k:=((aJ (p*((10^(aD n):Nat):Rat))).num.fdiv ((aJ (p*((10^(aD n):Nat):Rat))).den:Int))) (Nat.le_trans hfl (by omega))) (Zn.of (k:=2) (by decide)) (by decide)) kH ⟨aB rfl,aB rfl,rfl⟩ (.tup [kF (((aJ (p*((10^(aD n):Nat):Rat))).num.fdiv ((aJ (p*((10^(aD n):Nat):Rat))).den:Int)).fdiv 2),kF (((aJ (p*((10^(aD n):Nat):Rat))).num.fdiv ((aJ (p*((10^(aD n):Nat):Rat))).den:Int)).fmod 2),.one (tv (.int .i64 0))]) ?_
     refine df 3 ?_;refine df 4 ?_;refine df 5 ?_;refine df 6 ?_;refine eP (key:=4) 8 (by kernel_rfl) rfl rfl aA rfl ⟨rfl,rfl,rfl,trivial⟩ ?_
     refine aT 9 (by kernel_rfl) rfl rfl aA rfl rfl rfl rfl ⟨rfl,rfl,rfl,trivial⟩ ?_
     refine aT 10 (by kernel_rfl) rfl rfl aA rfl rfl rfl rfl ⟨rfl,rfl,rfl,trivial⟩ ?_
     refine cV 11 (by kernel_rfl) rfl rfl aA rfl (by trivial) ?_ (fun h=>by first | rfl | cases h)
     refine aS ?_;exact⟨(),trivial,aO h0 [1,4] _ _ (by decide) ⟨rfl,rfl,rfl,rfl,rfl,trivial⟩ ⟨oe rfl rfl,oe rfl rfl,rfl⟩⟩
    refine bV (key:=4) 8 rfl rfl aA rfl ⟨rfl,rfl,rfl,trivial⟩ ?_
    refine aG 2 rfl (dW (Zn.of (k:=((aJ (p*((10^(aD n):Nat):Rat))).num.fdiv ((aJ (p*((10^(aD n):Nat):Rat))).den:Int))) (Nat.le_trans hfl (by omega))) (Zn.of (k:=2) (by decide)) (by decide)) kH ⟨aB rfl,aB rfl,rfl⟩ (.tup [kF (((aJ (p*((10^(aD n):Nat):Rat))).num.fdiv ((aJ (p*((10^(aD n):Nat):Rat))).den:Int)).fdiv 2),kF (((aJ (p*((10^(aD n):Nat):Rat))).num.fdiv ((aJ (p*((10^(aD n):Nat):Rat))).den:Int)).fmod 2),.one (tv (.int .i64 0))]) ?_
    refine df 3 ?_;refine df 4 ?_;refine df 5 ?_;refine df 6 ?_;refine aT 9 (by kernel_rfl) rfl rfl aA rfl rfl rfl rfl ⟨rfl,rfl,rfl,trivial⟩ ?_
    refine aT 10 (by kernel_rfl) rfl rfl aA rfl rfl rfl rfl ⟨rfl,rfl,rfl,trivial⟩ ?_
    refine cV 11 (by kernel_rfl) rfl rfl aA rfl (by trivial) ?_ (fun h=>by first | rfl | cases h)
    refine aS ?_;exact⟨(),trivial,aO h0 [1,4] _ _ (by decide) ⟨rfl,rfl,rfl,rfl,rfl,trivial⟩ ⟨oe rfl rfl,oe rfl rfl,rfl⟩⟩
   refine bV (key:=3) 8 rfl rfl aA rfl ⟨rfl,rfl,rfl,trivial⟩ ?_;refine WO.two (i:=2) (j:=7) (by kernel_rfl) ?_ ?_
   ·refine cZ 2 rfl (dW (Zn.of (k:=((aJ (p*((10^(aD n):Nat):Rat))).num.fdiv ((aJ (p*((10^(aD n):Nat):Rat))).den:Int))) (Nat.le_trans hfl (by omega))) (Zn.of (k:=2) (by decide)) (by decide)) kH ⟨aB rfl,aB rfl,rfl⟩ (.tup [kF (((aJ (p*((10^(aD n):Nat):Rat))).num.fdiv ((aJ (p*((10^(aD n):Nat):Rat))).den:Int)).fdiv 2),kF (((aJ (p*((10^(aD n):Nat):Rat))).num.fdiv ((aJ (p*((10^(aD n):Nat):Rat))).den:Int)).fmod 2),.one (tv (.int .i64 0))]) ?_
    refine df 3 ?_;refine df 4 ?_;refine df 5 ?_;refine df 6 ?_;refine eP (key:=4) 7 (by kernel_rfl) rfl rfl aA rfl ⟨rfl,rfl,rfl,trivial⟩ ?_
    refine aT 9 (by kernel_rfl) rfl rfl aA rfl rfl rfl rfl ⟨rfl,rfl,rfl,trivial⟩ ?_
    refine aT 10 (by kernel_rfl) rfl rfl aA rfl rfl rfl rfl ⟨rfl,rfl,rfl,trivial⟩ ?_
    refine cV 11 (by kernel_rfl) rfl rfl aA rfl (by trivial) ?_ (fun h=>by first | rfl | cases h)
    refine aS ?_;exact⟨(),trivial,aO h0 [1,3] _ _ (by decide) ⟨rfl,rfl,rfl,rfl,rfl,trivial⟩ ⟨oe rfl rfl,oe rfl rfl,rfl⟩⟩
   refine bV (key:=4) 7 rfl rfl aA rfl ⟨rfl,rfl,rfl,trivial⟩ ?_
   refine aG 2 rfl (dW (Zn.of (k:=((aJ (p*((10^(aD n):Nat):Rat))).num.fdiv ((aJ (p*((10^(aD n):Nat):Rat))).den:Int))) (Nat.le_trans hfl (by omega))) (Zn.of (k:=2) (by decide)) (by decide)) kH ⟨aB rfl,aB rfl,rfl⟩ (.tup [kF (((aJ (p*((10^(aD n):Nat):Rat))).num.fdiv ((aJ (p*((10^(aD n):Nat):Rat))).den:Int)).fdiv 2),kF (((aJ (p*((10^(aD n):Nat):Rat))).num.fdiv ((aJ (p*((10^(aD n):Nat):Rat))).den:Int)).fmod 2),.one (tv (.int .i64 0))]) ?_
   refine df 3 ?_;refine df 4 ?_;refine df 5 ?_;refine df 6 ?_;refine aT 9 (by kernel_rfl) rfl rfl aA rfl rfl rfl rfl ⟨rfl,rfl,rfl,trivial⟩ ?_
   refine aT 10 (by kernel_rfl) rfl rfl aA rfl rfl rfl rfl ⟨rfl,rfl,rfl,trivial⟩ ?_
   refine cV 11 (by kernel_rfl) rfl rfl aA rfl (by trivial) ?_ (fun h=>by first | rfl | cases h)
   refine aS ?_;exact⟨(),trivial,aO h0 [1,3] _ _ (by decide) ⟨rfl,rfl,rfl,rfl,rfl,trivial⟩ ⟨oe rfl rfl,oe rfl rfl,rfl⟩⟩
  ·refine bV (key:=3) 7 rfl rfl aA rfl ⟨rfl,rfl,rfl,trivial⟩ ?_;refine WO.two (i:=1) (j:=8) (by kernel_rfl) ?_ ?_
   ·refine cZ 1 rfl (jX (n:=2) (by omega) (by omega)) mS ⟨a1 rfl,rfl⟩ (kF 2) ?_
    refine WO.two (i:=2) (j:=8) (by kernel_rfl) ?_ ?_
    ·refine cZ 2 rfl (dW (Zn.of (k:=((aJ (p*((10^(aD n):Nat):Rat))).num.fdiv ((aJ (p*((10^(aD n):Nat):Rat))).den:Int))) (Nat.le_trans hfl (by omega))) (Zn.of (k:=2) (by decide)) (by decide)) kH ⟨aB rfl,aB rfl,rfl⟩ (.tup [kF (((aJ (p*((10^(aD n):Nat):Rat))).num.fdiv ((aJ (p*((10^(aD n):Nat):Rat))).den:Int)).fdiv 2),kF (((aJ (p*((10^(aD n):Nat):Rat))).num.fdiv ((aJ (p*((10^(aD n):Nat):Rat))).den:Int)).fmod 2),.one (tv (.int .i64 0))]) ?_
     refine df 3 ?_;refine df 4 ?_;refine df 5 ?_;refine df 6 ?_;refine eP (key:=4) 8 (by kernel_rfl) rfl rfl aA rfl ⟨rfl,rfl,rfl,trivial⟩ ?_
     refine aT 9 (by kernel_rfl) rfl rfl aA rfl rfl rfl rfl ⟨rfl,rfl,rfl,trivial⟩ ?_
     refine aT 10 (by kernel_rfl) rfl rfl aA rfl rfl rfl rfl ⟨rfl,rfl,rfl,trivial⟩ ?_
     refine cV 11 (by kernel_rfl) rfl rfl aA rfl (by trivial) ?_ (fun h=>by first | rfl | cases h)
     refine aS ?_;exact⟨(),trivial,aO h0 [1,4] _ _ (by decide) ⟨rfl,rfl,rfl,rfl,rfl,trivial⟩ ⟨oe rfl rfl,oe rfl rfl,rfl⟩⟩
    refine bV (key:=4) 8 rfl rfl aA rfl ⟨rfl,rfl,rfl,trivial⟩ ?_
    refine aG 2 rfl (dW (Zn.of (k:=((aJ (p*((10^(aD n):Nat):Rat))).num.fdiv ((aJ (p*((10^(aD n):Nat):Rat))).den:Int))) (Nat.le_trans hfl (by omega))) (Zn.of (k:=2) (by decide)) (by decide)) kH ⟨aB rfl,aB rfl,rfl⟩ (.tup [kF (((aJ (p*((10^(aD n):Nat):Rat))).num.fdiv ((aJ (p*((10^(aD n):Nat):Rat))).den:Int)).fdiv 2),kF (((aJ (p*((10^(aD n):Nat):Rat))).num.fdiv ((aJ (p*((10^(aD n):Nat):Rat))).den:Int)).fmod 2),.one (tv (.int .i64 0))]) ?_
    refine df 3 ?_;refine df 4 ?_;refine df 5 ?_;refine df 6 ?_;refine aT 9 (by kernel_rfl) rfl rfl aA rfl rfl rfl rfl ⟨rfl,rfl,rfl,trivial⟩ ?_
    refine aT 10 (by kernel_rfl) rfl rfl aA rfl rfl rfl rfl ⟨rfl,rfl,rfl,trivial⟩ ?_
    refine cV 11 (by kernel_rfl) rfl rfl aA rfl (by trivial) ?_ (fun h=>by first | rfl | cases h)
    refine aS ?_;exact⟨(),trivial,aO h0 [1,4] _ _ (by decide) ⟨rfl,rfl,rfl,rfl,rfl,trivial⟩ ⟨oe rfl rfl,oe rfl rfl,rfl⟩⟩
   refine bV (key:=4) 8 rfl rfl aA rfl ⟨rfl,rfl,rfl,trivial⟩ ?_;refine aG 1 rfl (jX (n:=2) (by omega) (by omega)) mS ⟨a1 rfl,rfl⟩ (kF 2) ?_
   refine aG 2 rfl (dW (Zn.of (k:=((aJ (p*((10^(aD n):Nat):Rat))).num.fdiv ((aJ (p*((10^(aD n):Nat):Rat))).den:Int))) (Nat.le_trans hfl (by omega))) (Zn.of (k:=2) (by decide)) (by decide)) kH ⟨aB rfl,aB rfl,rfl⟩ (.tup [kF (((aJ (p*((10^(aD n):Nat):Rat))).num.fdiv ((aJ (p*((10^(aD n):Nat):Rat))).den:Int)).fdiv 2),kF (((aJ (p*((10^(aD n):Nat):Rat))).num.fdiv ((aJ (p*((10^(aD n):Nat):Rat))).den:Int)).fmod 2),.one (tv (.int .i64 0))]) ?_
   refine df 3 ?_;refine df 4 ?_;refine df 5 ?_;refine df 6 ?_;refine aT 9 (by kernel_rfl) rfl rfl aA rfl rfl rfl rfl ⟨rfl,rfl,rfl,trivial⟩ ?_
   refine aT 10 (by kernel_rfl) rfl rfl aA rfl rfl rfl rfl ⟨rfl,rfl,rfl,trivial⟩ ?_
   refine cV 11 (by kernel_rfl) rfl rfl aA rfl (by trivial) ?_ (fun h=>by first | rfl | cases h)
   refine aS ?_;exact⟨(),trivial,aO h0 [1,4] _ _ (by decide) ⟨rfl,rfl,rfl,rfl,rfl,trivial⟩ ⟨oe rfl rfl,oe rfl rfl,rfl⟩⟩
  refine bV (key:=3) 8 rfl rfl aA rfl ⟨rfl,rfl,rfl,trivial⟩ ?_;refine WO.two (i:=1) (j:=7) (by kernel_rfl) ?_ ?_
  ·refine cZ 1 rfl (jX (n:=2) (by omega) (by omega)) mS ⟨a1 rfl,rfl⟩ (kF 2) ?_
   refine WO.two (i:=2) (j:=7) (by kernel_rfl) ?_ ?_
   ·refine cZ 2 rfl (dW (Zn.of (k:=((aJ (p*((10^(aD n):Nat):Rat))).num.fdiv ((aJ (p*((10^(aD n):Nat):Rat))).den:Int))) (Nat.le_trans hfl (by omega))) (Zn.of (k:=2) (by decide)) (by decide)) kH ⟨aB rfl,aB rfl,rfl⟩ (.tup [kF (((aJ (p*((10^(aD n):Nat):Rat))).num.fdiv ((aJ (p*((10^(aD n):Nat):Rat))).den:Int)).fdiv 2),kF (((aJ (p*((10^(aD n):Nat):Rat))).num.fdiv ((aJ (p*((10^(aD n):Nat):Rat))).den:Int)).fmod 2),.one (tv (.int .i64 0))]) ?_
    refine df 3 ?_;refine df 4 ?_;refine df 5 ?_;refine df 6 ?_;refine eP (key:=4) 7 (by kernel_rfl) rfl rfl aA rfl ⟨rfl,rfl,rfl,trivial⟩ ?_
    refine aT 9 (by kernel_rfl) rfl rfl aA rfl rfl rfl rfl ⟨rfl,rfl,rfl,trivial⟩ ?_
    refine aT 10 (by kernel_rfl) rfl rfl aA rfl rfl rfl rfl ⟨rfl,rfl,rfl,trivial⟩ ?_
    refine cV 11 (by kernel_rfl) rfl rfl aA rfl (by trivial) ?_ (fun h=>by first | rfl | cases h)
    refine aS ?_;exact⟨(),trivial,aO h0 [1,3] _ _ (by decide) ⟨rfl,rfl,rfl,rfl,rfl,trivial⟩ ⟨oe rfl rfl,oe rfl rfl,rfl⟩⟩
   refine bV (key:=4) 7 rfl rfl aA rfl ⟨rfl,rfl,rfl,trivial⟩ ?_
   refine aG 2 rfl (dW (Zn.of (k:=((aJ (p*((10^(aD n):Nat):Rat))).num.fdiv ((aJ (p*((10^(aD n):Nat):Rat))).den:Int))) (Nat.le_trans hfl (by omega))) (Zn.of (k:=2) (by decide)) (by decide)) kH ⟨aB rfl,aB rfl,rfl⟩ (.tup [kF (((aJ (p*((10^(aD n):Nat):Rat))).num.fdiv ((aJ (p*((10^(aD n):Nat):Rat))).den:Int)).fdiv 2),kF (((aJ (p*((10^(aD n):Nat):Rat))).num.fdiv ((aJ (p*((10^(aD n):Nat):Rat))).den:Int)).fmod 2),.one (tv (.int .i64 0))]) ?_
   refine df 3 ?_;refine df 4 ?_;refine df 5 ?_;refine df 6 ?_;refine aT 9 (by kernel_rfl) rfl rfl aA rfl rfl rfl rfl ⟨rfl,rfl,rfl,trivial⟩ ?_
   refine aT 10 (by kernel_rfl) rfl rfl aA rfl rfl rfl rfl ⟨rfl,rfl,rfl,trivial⟩ ?_
   refine cV 11 (by kernel_rfl) rfl rfl aA rfl (by trivial) ?_ (fun h=>by first | rfl | cases h)
   refine aS ?_;exact⟨(),trivial,aO h0 [1,3] _ _ (by decide) ⟨rfl,rfl,rfl,rfl,rfl,trivial⟩ ⟨oe rfl rfl,oe rfl rfl,rfl⟩⟩
  refine bV (key:=4) 7 rfl rfl aA rfl ⟨rfl,rfl,rfl,trivial⟩ ?_;refine aG 1 rfl (jX (n:=2) (by omega) (by omega)) mS ⟨a1 rfl,rfl⟩ (kF 2) ?_
  refine aG 2 rfl (dW (Zn.of (k:=((aJ (p*((10^(aD n):Nat):Rat))).num.fdiv ((aJ (p*((10^(aD n):Nat):Rat))).den:Int))) (Nat.le_trans hfl (by omega))) (Zn.of (k:=2) (by decide)) (by decide)) kH ⟨aB rfl,aB rfl,rfl⟩ (.tup [kF (((aJ (p*((10^(aD n):Nat):Rat))).num.fdiv ((aJ (p*((10^(aD n):Nat):Rat))).den:Int)).fdiv 2),kF (((aJ (p*((10^(aD n):Nat):Rat))).num.fdiv ((aJ (p*((10^(aD n):Nat):Rat))).den:Int)).fmod 2),.one (tv (.int .i64 0))]) ?_
  refine df 3 ?_;refine df 4 ?_;refine df 5 ?_;refine df 6 ?_;refine aT 9 (by kernel_rfl) rfl rfl aA rfl rfl rfl rfl ⟨rfl,rfl,rfl,trivial⟩ ?_
  refine aT 10 (by kernel_rfl) rfl rfl aA rfl rfl rfl rfl ⟨rfl,rfl,rfl,trivial⟩ ?_
  refine cV 11 (by kernel_rfl) rfl rfl aA rfl (by trivial) ?_ (fun h=>by first | rfl | cases h)
  refine aS ?_;exact⟨(),trivial,aO h0 [1,3] _ _ (by decide) ⟨rfl,rfl,rfl,rfl,rfl,trivial⟩ ⟨oe rfl rfl,oe rfl rfl,rfl⟩⟩
 refine md (γ:=Unit) (fun _=>cD [(1,.one (tv (.int .i64 (((aD n):Nat):Int)))),(5,.one (tv (.bool (decide ((p*((10^(aD n):Nat):Rat))<0))))),(6,.one (.pt 0 0))]) (fun _=>([⟨31,0,[tv (.bool (aL ((hal (aJ (p*((10^(aD n):Nat):Rat))))))),.t (sU false (dg 4294967296 ((hal (aJ (p*((10^(aD n):Nat):Rat))))).natAbs))]⟩]:List Ob).map some) (fun _=>True) ?_ fun _ _=>?_
 ·refine sq ?_;refine rl ?_;(iterate 3 refine o1 ?_);refine WL.split (t:=52) rfl (fun h2=>?_) (fun h2=>?_)
  ·(iterate 7 refine cG ?_);refine o1 ?_;refine nl ?_;refine fV rfl ?_;refine rd [0,1] (fun i=>[2,3].contains i) mixed ?_
   refine aU 0 ?_;refine aG 1 rfl (jX (n:=1) (by omega) (by omega)) mS ⟨a1 rfl,rfl⟩ (kF 1) ?_
   refine aG 2 rfl (lT (Zn.of (k:=((aJ (p*((10^(aD n):Nat):Rat))).num.fdiv ((aJ (p*((10^(aD n):Nat):Rat))).den:Int))) (Nat.le_trans hfl (by omega))) (Zn.of (k:=1) (by decide))) sZ ⟨aB rfl,aB rfl,rfl⟩ (kF (((aJ (p*((10^(aD n):Nat):Rat))).num.fdiv ((aJ (p*((10^(aD n):Nat):Rat))).den:Int))+1)) ?_
   refine dst 3 ?_;refine aS ?_
   exact⟨(),trivial,aO h0 [0] _ _ (by decide) ⟨rfl,rfl,rfl,trivial⟩ ⟨oe rfl (congrArg (fun z:Int=>some (⟨31,0,[tv (.bool (aL (z))),.t (sU false (dg 4294967296 (z).natAbs))]⟩:Ob)) (QG h2)),rfl⟩⟩
  (iterate 3 refine o1 ?_);refine WL.split (t:=55) rfl (fun h3=>?_) (fun h3=>?_)
  ·refine ld ?_
   refine ca (jW (Zn.of (k:=(((aJ (p*((10^(aD n):Nat):Rat))).num.fdiv ((aJ (p*((10^(aD n):Nat):Rat))).den:Int)).fmod 2)) (Nat.le_trans hod (by omega)))) sY ⟨aB rfl,rfl⟩ (.one (tv (.int .i64 ((((aJ (p*((10^(aD n):Nat):Rat))).num.fdiv ((aJ (p*((10^(aD n):Nat):Rat))).den:Int)).fmod 2)).sign))) ?_
   (iterate 3 refine o1 ?_);refine nl ?_;refine bN rfl (fun h4=>?_) (fun h4=>?_)
   ·refine rd [0,1] (fun i=>[2,3].contains i) mixed ?_
    refine aU 0 ?_;refine aG 1 rfl (jX (n:=1) (by omega) (by omega)) mS ⟨a1 rfl,rfl⟩ (kF 1) ?_
    refine aG 2 rfl (lT (Zn.of (k:=((aJ (p*((10^(aD n):Nat):Rat))).num.fdiv ((aJ (p*((10^(aD n):Nat):Rat))).den:Int))) (Nat.le_trans hfl (by omega))) (Zn.of (k:=1) (by decide))) sZ ⟨aB rfl,aB rfl,rfl⟩ (kF (((aJ (p*((10^(aD n):Nat):Rat))).num.fdiv ((aJ (p*((10^(aD n):Nat):Rat))).den:Int))+1)) ?_
    refine dst 3 ?_;refine aS ?_
    exact⟨(),trivial,aO h0 [0] _ _ (by decide) ⟨rfl,rfl,rfl,trivial⟩ ⟨oe rfl (congrArg (fun z:Int=>some (⟨31,0,[tv (.bool (aL (z))),.t (sU false (dg 4294967296 (z).natAbs))]⟩:Ob)) (QI h3 h4)),rfl⟩⟩
   refine sk ?_
   exact⟨(),trivial,aO h0 [0] _ _ (by decide) ⟨rfl,rfl,rfl,trivial⟩ ⟨oe rfl (congrArg (fun z:Int=>some (⟨31,0,[tv (.bool (aL (z))),.t (sU false (dg 4294967296 (z).natAbs))]⟩:Ob)) (QJ h3 h4)),rfl⟩⟩
  (iterate 3 refine cG ?_);refine o1 ?_;refine o1 ?_;refine nl ?_;refine fD rfl ?_;refine sk ?_
  exact⟨(),trivial,aO h0 [0] _ _ (by decide) ⟨rfl,rfl,rfl,trivial⟩ ⟨oe rfl (congrArg (fun z:Int=>some (⟨31,0,[tv (.bool (aL (z))),.t (sU false (dg 4294967296 (z).natAbs))]⟩:Ob)) (QH h2 h3)),rfl⟩⟩
 refine sq ?_;refine rl ?_;refine ld ?_
 refine ca (LH (k:=(hal (aJ (p*((10^(aD n):Nat):Rat))))) (lU (qQ _)) (Nat.le_trans hHl (by omega))) UM ⟨aB rfl,rfl⟩ (.one (tv (.string (aC (tx (hal (aJ (p*((10^(aD n):Nat):Rat)))).natAbs))))) ?_
 refine o1 ?_;refine nl ?_;refine sq ?_;refine bl ?_
 refine lp (γ:=Nat) (fun s=>cD [(1,.one (tv (.int .i64 (((aD n):Nat):Int)))),(5,.one (tv (.bool (decide ((p*((10^(aD n):Nat):Rat))<0))))),(6,.one (.pt 0 0)),(13,.one (tv (.string (aC (List.replicate s 48++tx (hal (aJ (p*((10^(aD n):Nat):Rat)))).natAbs)))))]) (fun s=>[(⟨31,0,[tv (.bool (aL ((hal (aJ (p*((10^(aD n):Nat):Rat))))))),.t (sU false (dg 4294967296 ((hal (aJ (p*((10^(aD n):Nat):Rat))))).natAbs))]⟩:Ob)].map some) (fun s=>s=0∨s+(tx (hal (aJ (p*((10^(aD n):Nat):Rat)))).natAbs).length≤(aD n)+1) (fun s=>(aD n)+1-s) 0 (.inl rfl) (aO h0 [0] _ _ (by decide) ⟨rfl,rfl,rfl,rfl,trivial⟩ ⟨oe rfl rfl,rfl⟩) ?_
 rintro j hj
 have hjl:(List.replicate j 48++tx (hal (aJ (p*((10^(aD n):Nat):Rat)))).natAbs).length=j+(tx (hal (aJ (p*((10^(aD n):Nat):Rat)))).natAbs).length:=by rw[List.length_append,List.length_replicate]
 have htx1:1≤(tx (hal (aJ (p*((10^(aD n):Nat):Rat)))).natAbs).length:=List.length_pos_iff.2 (oI _)
 refine sq ?_;refine sq ?_;refine rl ?_;refine o1 ?_;refine o1 ?_
 refine WL.cast (t:=67) (u':=.int .i64 (((List.replicate j 48++tx (hal (aJ (p*((10^(aD n):Nat):Rat)))).natAbs).length:Nat):Int)) rfl (congrArg (fun n:Nat=>Value.int .i64 (n:Int)) (aF _)) ?_
 refine o1 ?_;refine o1 ?_;refine nl ?_;refine bN rfl (fun h5=>?_) (fun h5=>?_)
 ·refine sk ?_;refine bl ?_;refine rl ?_;refine o1 ?_;refine o1 ?_ (hC:=(by rw[aF];show 1+_≤_;omega))
  refine WL.cast (t:=71) (u':=.string (aC (List.replicate (j+1) 48++tx (hal (aJ (p*((10^(aD n):Nat):Rat)))).natAbs))) rfl (congrArg Value.string ((fM [48] _).trans (congrArg aC (by rw[List.replicate_succ];rfl)))) ?_
  refine o1 ?_;refine nl ?_;exact⟨j+1,by omega,by omega,aO h0 [0] _ _ (by decide) ⟨rfl,rfl,rfl,rfl,trivial⟩ ⟨oe rfl rfl,rfl⟩⟩
 refine ex ?_
 refine md (γ:=Unit) (fun _=>cD [(5,.one (tv (.bool (decide ((p*((10^(aD n):Nat):Rat))<0))))),(6,.one (.pt 0 0)),(13,.one (tv (.string (aC (wr (hal (aJ (p*((10^(aD n):Nat):Rat)))).natAbs (aD n))))))]) (fun _=>([⟨31,0,[tv (.bool (aL ((hal (aJ (p*((10^(aD n):Nat):Rat))))))),.t (sU false (dg 4294967296 ((hal (aJ (p*((10^(aD n):Nat):Rat))))).natAbs))]⟩]:List Ob).map some) (fun _=>True) ?_ fun _ _=>?_
 ·refine sq ?_;have hje:j=(aD n)+1-(tx (hal (aJ (p*((10^(aD n):Nat):Rat)))).natAbs).length:=by omega
  have hjz:(List.replicate j 48++tx (hal (aJ (p*((10^(aD n):Nat):Rat)))).natAbs)=((tx ((hal (aJ (p*((10^(aD n):Nat):Rat)))).natAbs/10^(aD n)))++(pd (hal (aJ (p*((10^(aD n):Nat):Rat)))).natAbs (aD n))):=by rw[hje];exact Gk (aD n) (hal (aJ (p*((10^(aD n):Nat):Rat)))).natAbs
  refine WP.sub (aO h0 [0] [(1,.one (tv (.int .i64 (((aD n):Nat):Int)))),(5,.one (tv (.bool (decide ((p*((10^(aD n):Nat):Rat))<0))))),(6,.one (.pt 0 0)),(13,.one (tv (.string (aC ((tx ((hal (aJ (p*((10^(aD n):Nat):Rat)))).natAbs/10^(aD n)))++(pd (hal (aJ (p*((10^(aD n):Nat):Rat)))).natAbs (aD n)))))))] [(⟨31,0,[tv (.bool (aL ((hal (aJ (p*((10^(aD n):Nat):Rat))))))),.t (sU false (dg 4294967296 ((hal (aJ (p*((10^(aD n):Nat):Rat))))).natAbs))]⟩:Ob)] (by decide) ⟨rfl,rfl,rfl,(congrArg (fun b=>some (FV.one (tv (.string (aC b))))) hjz.symm),trivial⟩ ⟨oe rfl rfl,rfl⟩) ?_
  refine rl ?_;refine o1 ?_;refine o1 ?_;refine nl ?_;refine bN rfl (fun h6=>?_) (fun h6=>?_)
  ·refine rd [0] (fun i=>[14].contains i) mixed ?_
   refine dv 0 ?_;refine dv 1 ?_;refine dv 2 ?_
   refine WD.cast (t:=76) (u':=.int .i64 ((((tx ((hal (aJ (p*((10^(aD n):Nat):Rat)))).natAbs/10^(aD n)))++(pd (hal (aJ (p*((10^(aD n):Nat):Rat)))).natAbs (aD n))).length:Nat):Int)) rfl (congrArg (fun n:Nat=>Value.int .i64 (n:Int)) (aF _)) ?_
   refine dv 3 ?_;refine dv 4 ?_
   refine WD.cast (t:=78) (u':=.int .i64 ((((tx ((hal (aJ (p*((10^(aD n):Nat):Rat)))).natAbs/10^(aD n)))++(pd (hal (aJ (p*((10^(aD n):Nat):Rat)))).natAbs (aD n))).length-(aD n):Nat):Int)) rfl (aH (by omega)) ?_
   refine dv 5 ?_ (hC:=(by rw[aF];omega))
   refine WD.cast (t:=79) (u':=.string (aC (tx ((hal (aJ (p*((10^(aD n):Nat):Rat)))).natAbs/10^(aD n))))) rfl (congrArg Value.string ((iE _ 0 _).trans (congrArg aC (To hZl)))) ?_
   refine dv 6 ?_ (hC:=(by rw[aF];show _+1≤_;omega))
   refine WD.cast (t:=80) (u':=.string (aC ((tx ((hal (aJ (p*((10^(aD n):Nat):Rat)))).natAbs/10^(aD n)))++[46]))) rfl (congrArg Value.string (fM _ [46])) ?_
   refine dv 7 ?_;refine dv 8 ?_;refine dv 9 ?_
   refine WD.cast (t:=83) (u':=.int .i64 ((((tx ((hal (aJ (p*((10^(aD n):Nat):Rat)))).natAbs/10^(aD n)))++(pd (hal (aJ (p*((10^(aD n):Nat):Rat)))).natAbs (aD n))).length:Nat):Int)) rfl (congrArg (fun n:Nat=>Value.int .i64 (n:Int)) (aF _)) ?_
   refine dv 10 ?_;refine dv 11 ?_
   refine WD.cast (t:=85) (u':=.int .i64 ((((tx ((hal (aJ (p*((10^(aD n):Nat):Rat)))).natAbs/10^(aD n)))++(pd (hal (aJ (p*((10^(aD n):Nat):Rat)))).natAbs (aD n))).length-(aD n):Nat):Int)) rfl (aH (by omega)) ?_
   refine dv 12 ?_ (hC:=(by rw[aF];omega))
   refine WD.cast (t:=86) (u':=.string (aC (pd (hal (aJ (p*((10^(aD n):Nat):Rat)))).natAbs (aD n)))) rfl (congrArg Value.string ((iC _ _).trans (congrArg aC (Tp hZl)))) ?_
   refine dv 13 ?_ (hC:=(by rw[aF,aF,List.length_append];show _+1+_≤_;omega))
   refine WD.cast (t:=87) (u':=.string (aC (wr (hal (aJ (p*((10^(aD n):Nat):Rat)))).natAbs (aD n)))) rfl (congrArg Value.string ((fM _ _).trans (congrArg aC (KO (by omega))))) ?_
   refine cV 14 (by kernel_rfl) rfl rfl aA rfl (by trivial) ?_ (fun h=>by first | rfl | cases h)
   refine aS ?_;exact⟨(),trivial,aO h0 [0] _ _ (by decide) ⟨rfl,rfl,rfl,trivial⟩ ⟨oe rfl rfl,rfl⟩⟩
  refine sk ?_
  exact⟨(),trivial,aO h0 [0] _ _ (by decide) ⟨rfl,rfl,(congrArg (fun b=>some (FV.one (tv (.string (aC b))))) (KP (n:=(hal (aJ (p*((10^(aD n):Nat):Rat)))).natAbs) (d:=(aD n)) (by omega)).symm),trivial⟩ ⟨oe rfl rfl,rfl⟩⟩
 refine sq ?_;refine sq ?_;refine rl ?_;refine o1 ?_;refine o1 ?_;refine WL.splitb (t:=89) rfl (fun h7=>?_) (fun h7=>?_)
 ·refine ld ?_
  refine ca (jW (Zn.of (k:=(hal (aJ (p*((10^(aD n):Nat):Rat))))) (Nat.le_trans hHl (by omega)))) sY ⟨aB rfl,rfl⟩ (.one (tv (.int .i64 ((hal (aJ (p*((10^(aD n):Nat):Rat))))).sign))) ?_
  refine o1 ?_;refine o1 ?_;refine nl ?_;refine bN rfl (fun h8=>?_) (fun h8=>?_)
  ·refine rl ?_;refine o1 ?_;refine o1 ?_ (hC:=(by rw[aF];show 1+_≤_;rw[zX];split <;> omega))
   refine WL.cast (t:=95) (u':=.string (aC (45::(wr (hal (aJ (p*((10^(aD n):Nat):Rat)))).natAbs (aD n))))) rfl (congrArg Value.string (fM [45] _)) ?_;refine o1 ?_
   refine nl ?_;refine sq ?_;refine rl ?_;refine o1 ?_;refine o1 ?_;refine nl ?_;refine rt ?_
   exact en (.inl rfl) rfl (aV (aP _)) (by decide) (fun _=>trivial) (congrArg (fun z=>FV.one (tv (.string z))) (congrArg aC (FF h7 (fun h9=>h8 (by rw[h9];rfl)))))
  refine sk ?_;refine sq ?_;refine rl ?_;refine o1 ?_;refine o1 ?_;refine nl ?_;refine rt ?_
  exact en (.inl rfl) rfl (aV (aP _)) (by decide) (fun _=>trivial) (congrArg (fun z=>FV.one (tv (.string z))) (congrArg aC (Ml (.inr (Int.sign_eq_zero_iff_zero.1 (Decidable.byContradiction h8))))))
 (iterate 3 refine cG ?_);refine o1 ?_;refine nl ?_;refine fD rfl ?_;refine sk ?_;refine sq ?_;refine rl ?_;refine o1 ?_;refine o1 ?_;refine nl ?_;refine rt ?_
 exact en (.inl rfl) rfl (aV (aP _)) (by decide) (fun _=>trivial) (congrArg (fun z=>FV.one (tv (.string z))) (congrArg aC (Ml (.inl h7))))
theorem dI (l:List Nat):Sz 44 (aZ l):=by
 unfold aZ
 split
 ·exact(zT (lS _ 4) (bY (z:=100) (by omega) (by omega))).mono (by omega)
 exact(bY (z:=0) (by omega) (by omega)).mono (by omega)
theorem LI {a:Fr4}{p:Rat}{j L:Nat}(hj:j≤40) (ha:Qn a p) (hs:Sz L p) (hL:L+100≤1000000):aE true Tryz.prog 17 [] [qF a,.one (tv (.int .i64 ((j:Nat):Int)))] (aM (.one (tv (.string (aC (aX p j)))))):=by
 have h:=Qi (n:=(j:Int)) ha hs hL
 rwa[show aD (j:Int)=j by unfold aD;omega]at h
theorem qG {p:Rat}{j L:Nat}(hs:Sz L p) (hj:j≤40) (hL:L+100≤10000):(aX p j).length≤999999:=by
 have h1:(dg 4294967296 (hal (p*((10^j:Nat):Rat))).natAbs).length≤L+43:=by
  have h1:=(jC hs (fC j)).1
  have h2:(hal (p*((10^j:Nat):Rat))).natAbs≤(fl (p*((10^j:Nat):Rat))).natAbs+1:=by
   unfold hal
   rw[mM]
   split <;> omega
  have h3:=vA (p*((10^j:Nat):Rat))
  generalize fl (p*((10^j:Nat):Rat))=f at h2 h3
  have h4:=fG (f.natAbs:Int) 1
  have h5:((f.natAbs:Int)+1).natAbs=f.natAbs+1:=by omega
  rw[h5,Int.natAbs_natCast]at h4
  have h6:(dg 4294967296 (1:Int).natAbs).length≤1:=by decide
  have h7:=dG h2
  omega
 have h2:=oP (Nat.le_trans (dG (Nat.div_le_self _ (10^j))) h1)
 have h4:=zX (n:=(hal (p*((10^j:Nat):Rat))).natAbs) (d:=j)
 unfold aX pt
 split
 ·rw[List.length_cons,h4]
  split <;> omega
 rw[h4]
 split <;> omega
theorem Qj {a:Fr4}{p:Rat}{L:Nat}(ha:Qn a p) (hs:Sz L p) (hL:L+102≤10000):aE true Tryz.prog 20 [] [qF a] (aM (.one (tv (.string (aC (fO p)))))):=by
 refine bD Tryz.func20 rfl Tryz.ntmps20 rfl aA rfl fun N9 w9 c0 h0=>?_
 have hX:Sz (L+2) (p*((100:Int):Rat)):=jC hs (bY (by omega) (by omega))
 refine sq ?_;refine rl ?_;refine bx 0 ?_;refine o1 ?_;refine nl ?_;refine sq ?_;refine rl ?_;refine ld ?_;refine ca (hH ha) qP ⟨aB rfl,rfl⟩ (qF (.of p)) ?_;refine st ?_
 refine nl ?_;refine sq ?_;refine sq ?_;refine rd [0] (fun i=>[].contains i) mixed ?_
 refine aU 0 ?_;refine aG 1 rfl (Bz (Qn.of (p:=p) (hs.mono (M:=68719476736) (by omega)))) Yb ⟨aB rfl,rfl⟩ (.one (tv (.int .i64 p.num.sign))) ?_
 refine df 2 ?_;refine df 3 ?_;refine WD.split (t:=12) rfl rfl (fun h1=>?_) (fun h1=>?_)
 ·refine bR 4 ?_;refine bR 5 ?_;refine bR 6 ?_;refine bR 7 ?_;refine df 8 ?_;refine aS ?_;refine fV rfl ?_;refine sq ?_;refine rl ?_;refine o1 ?_;refine nl ?_;refine rt ?_
  exact en (.inl rfl) rfl (aV (aP _)) (by decide) (fun _=>trivial) (congrArg (fun z=>FV.one (tv (.string z))) (congrArg aC (rN (.inl (iG.1 (Int.sign_neg_iff.1 h1)))).symm))
 refine aU 4 ?_;refine aG 5 rfl (iO (n:=1) (by omega) (by omega)) tB ⟨a1 rfl,rfl⟩ (qF (.of ((1:Int):Rat))) ?_
 refine aG 6 rfl (Ia (Qn.of (p:=p) (hs.mono (M:=68719476736) (by omega))) (Qn.of (p:=((1:Int):Rat)) ((bY (by omega) (by omega)).mono (M:=68719476736) (by omega))) (hs.mono (M:=17179869184) (by omega)) ((bY (by omega) (by omega)).mono (M:=17179869184) (by omega))) Yh ⟨aB rfl,aB rfl,rfl⟩ (.one (tv (.int .i64 (p-((1:Int):Rat)).num.sign))) ?_
 refine df 7 ?_;refine df 8 ?_;refine aS ?_;refine bN rfl (fun h2=>?_) (fun h2=>?_)
 ·refine sq ?_;refine rl ?_;refine o1 ?_;refine nl ?_;refine rt ?_
  exact en (.inl rfl) rfl (aV (aP _)) (by decide) (fun _=>trivial) (congrArg (fun z=>FV.one (tv (.string z))) (congrArg aC (rN (.inr (.inl (Lp h2)))).symm))
 refine sk ?_;refine sq ?_;refine sq ?_;have h0p:0≤p:=Rat.not_lt.1 (fun h9=>h1 (Int.sign_neg_iff.2 (iG.2 h9)))
 have h1p:p≤((1:Int):Rat):=Rat.not_lt.1 (fun h9=>h2 (Gm h9))
 refine rl ?_;refine o1 ?_;refine nl ?_;refine bl ?_
 refine lp (γ:=Nat) (fun s=>cD [(1,.one (.pt 0 0)),(3,.one (tv (.int .i64 ((s:Nat):Int))))]) (fun s=>[(⟨33,0,((Fr4.of p).tr false).map .t⟩:Ob)].map some) (fun s=>s≤5∧∀i,i<s→p≠aZ (aX (p*((100:Int):Rat)) i++[37])) (fun s=>5-s) 0 ⟨Nat.zero_le _,fun i hi=>absurd hi (Nat.not_lt_zero i)⟩ (aO h0 [0] _ _ (by decide) ⟨rfl,rfl,trivial⟩ ⟨oe rfl rfl,rfl⟩) ?_
 rintro j ⟨hj,hn⟩;refine sq ?_;refine sq ?_;refine rl ?_;refine o1 ?_;refine o1 ?_;refine nl ?_;refine bN rfl (fun h3=>?_) (fun h3=>?_)
 ·refine sk ?_;refine sq ?_;refine bl ?_;refine sq ?_;have hWl:Lim 256 ((aX (p*((100:Int):Rat)) j)++[37]):=(kM _ _).append (Lim.cons (by omega) Lim.nil)
  have hWj:(aX (p*((100:Int):Rat)) j).length≤999999:=qG hX (by omega) (by omega)
  have hWn:((aX (p*((100:Int):Rat)) j)++[37]).length≤1000000:=by rw[List.length_append];show _+1≤_;omega
  refine rd [0] (fun i=>[5].contains i) mixed ?_
  refine aU 0 ?_;refine dv 3 ?_;refine aG 1 rfl (iO (n:=100) (by omega) (by omega)) tB ⟨a1 rfl,rfl⟩ (qF (.of ((100:Int):Rat))) ?_
  refine aG 2 rfl (Aa (Qn.of (p:=p) (hs.mono (M:=68719476736) (by omega))) (Qn.of (p:=((100:Int):Rat)) ((bY (by omega) (by omega)).mono (M:=68719476736) (by omega))) (hs.mono (M:=17179869184) (by omega)) ((bY (by omega) (by omega)).mono (M:=17179869184) (by omega))) Qe ⟨aB rfl,aB rfl,rfl⟩ (qF (.of (p*((100:Int):Rat)))) ?_
  refine aG 4 rfl (LI (p:=(p*((100:Int):Rat))) (j:=j) (by omega) (Qn.of (p:=(p*((100:Int):Rat))) (hX.mono (M:=68719476736) (by omega))) hX (by omega)) Yj ⟨aB rfl,a1 rfl,rfl⟩ (.one (tv (.string (aC (aX (p*((100:Int):Rat)) j))))) ?_
  refine cV 5 (by kernel_rfl) rfl rfl aA rfl (by trivial) ?_ (fun h=>by first | rfl | cases h)
  refine aS ?_;refine sq ?_;refine rl ?_;refine o1 ?_;refine o1 ?_ (hC:=(by rw[aF];show _+1≤_;omega))
  refine WL.cast (t:=29) (u':=.string (aC ((aX (p*((100:Int):Rat)) j)++[37]))) rfl (congrArg Value.string (fM _ [37])) ?_
  refine ca (Mk (l:=(aX (p*((100:Int):Rat)) j)++[37]) hWl hWn) LJ ⟨a1 rfl,rfl⟩ (.tup [qF (.of (aZ ((aX (p*((100:Int):Rat)) j)++[37]))),.one (tv (.int .i64 (dQ ((aX (p*((100:Int):Rat)) j)++[37]))))]) ?_
  (iterate 3 refine o1 ?_);refine al 1 ?_;refine st ?_;refine o1 ?_;refine nl ?_;refine sq ?_;refine rl ?_;refine ld ?_;refine ld ?_
  refine ca (Mq (Qn.of (p:=p) (hs.mono (M:=68719476736) (by omega))) (Qn.of (p:=(aZ ((aX (p*((100:Int):Rat)) j)++[37]))) ((dI _).mono (M:=68719476736) (by omega))) (hs.mono (by omega)) ((dI _).mono (by omega))) LK ⟨aB rfl,aB rfl,rfl⟩ (.one (tv (.bool (decide (p=(aZ ((aX (p*((100:Int):Rat)) j)++[37]))))))) ?_
  refine nl ?_;refine iW rfl (fun h4=>?_) (fun h4=>?_)
  ·refine sq ?_;refine rl ?_;refine o1 ?_;refine o1 ?_ (hC:=(by rw[aF];show _+1≤_;omega))
   refine WL.cast (t:=37) (u':=.string (aC ((aX (p*((100:Int):Rat)) j)++[37]))) rfl (congrArg Value.string (fM _ [37])) ?_;refine o1 ?_;refine nl ?_;refine rt ?_
   exact en (.inl rfl) rfl (aV (aP _)) (by decide) (fun _=>trivial) (congrArg (fun z=>FV.one (tv (.string z))) (congrArg aC (Ua h0p h1p (by omega) (of_decide_eq_true h4) hn)))
  refine sk ?_;refine rl ?_;refine o1 ?_;refine o1 ?_;refine WL.cast (t:=21) (u':=.int .i64 ((j+1:Nat):Int)) rfl (aH (by omega)) ?_
  refine o1 ?_;refine nl ?_
  exact⟨j+1,by omega,⟨by omega,fun i hi=>(by rcases Nat.lt_or_ge i j with h9 | h9;exact hn i h9;rw[show i=j by omega];exact of_decide_eq_false h4)⟩,aO h0 [0] _ _ (by decide) ⟨rfl,rfl,trivial⟩ ⟨oe rfl rfl,rfl⟩⟩
 refine ex ?_;refine sq ?_;refine rl ?_;refine o1 ?_;refine nl ?_;refine rt ?_;have hn5:∀i,i<5→p≠aZ (aX (p*((100:Int):Rat)) i++[37]):=fun i hi=>hn i (by omega)
 exact en (.inl rfl) rfl (aV (aP _)) (by decide) (fun _=>trivial) (congrArg (fun z=>FV.one (tv (.string z))) (congrArg aC (FH h0p h1p hn5)))
theorem Mr {a:Zi}(ha:a.x.length≤1000000):aE true Tryz.prog 39 [] [gF a] (aM (.agg [tv (.bool a.s),.t (sU true a.x)])):=by
 refine bD Tryz.func39 rfl Tryz.ntmps39 rfl aA rfl fun N9 w9 c0 h0=>?_
 refine sq ?_;refine rl ?_;refine bx 0 ?_;refine al 1 ?_;refine nl ?_;refine sq ?_;refine rl ?_;refine o1 ?_;refine nl ?_;refine sq ?_;refine rl ?_;refine o1 ?_;refine o1 ?_;refine ld ?_
 refine kR (j:=2) aA rfl rfl rfl rfl .nil .fz (LL _) (Yk _) rfl (by omega) (by omega) ?_
 refine o1 ?_;refine nl ?_;refine sq ?_;refine rl ?_;refine o1 ?_;refine ld ?_;refine o1 ?_;refine o1 ?_;refine st ?_;refine nl ?_;refine rt ?_
 exact en (.inl rfl) rfl (aV (.agg (.cons (.id rfl) (.cons (.sl (trs:=aR a.x) rfl rfl (by rw[Nat.zero_add,Nat.mul_one,List.nil_append,List.take_of_length_le (by simp[gK])]) (by simp[gK])) .nil)))) (by decide) (fun _=>⟨trivial,.inl ⟨rfl,eB a.x⟩,trivial⟩) (by simp[aM,sU,tv])
theorem Qk {a:Fr4}(h1:a.x.length≤1000000) (h2:a.y.length≤1000000):aE false Tryz.prog 15 [] [qF a] (aM (qF a)):=by
 refine bD Tryz.func15 rfl Tryz.ntmps15 rfl aA rfl fun N9 w9 c0 h0=>?_
 refine sq ?_;refine rl ?_;refine bx 0 ?_;refine al 1 ?_;refine nl ?_;refine sq ?_;refine rd [0,1] (fun i=>[7].contains i) mixed ?_
 refine dv 0 ?_;refine aU 1 ?_;refine dv 3 ?_;refine aU 4 ?_;refine aG 2 rfl (Mr (a:=⟨a.s,a.x⟩) h1) LM ⟨aB rfl,rfl⟩ (.agg [tv (.bool a.s),.t (sU false a.x)]) ?_
 refine aG 5 rfl (Mr (a:=⟨a.t,a.y⟩) h2) LM ⟨aB rfl,rfl⟩ (.agg [tv (.bool a.t),.t (sU false a.y)]) ?_;refine df 6 ?_;refine dst 7 ?_;refine aS ?_;refine rt ?_
 exact en (.inl rfl) rfl (aV (.agg (.cons (.id rfl) (.cons (.id rfl) (.cons (.id rfl) (.cons (.id rfl) .nil)))))) (by decide) (fun h=>by cases h) rfl
theorem Yl {p:Rat}(hs:Sz 68719476736 p):aE true Tryz.prog 82 [] [qF (.of p)] (aM (.one (tv (.bool true)))):=by
 have h:=Hw (Qn.of (p:=p) hs)
 rwa[show dC (Fr4.of p).s (Fr4.of p).x (Fr4.of p).t (Fr4.of p).y=true from vC p]at h
theorem UN {p q:Rat}(hs:Sz 1000000 p) (ht:Sz 1000000 q):aE true Tryz.prog 38 [] [qF (.of p),qF (.of q)] (aM (.one (tv (.bool (decide (p=q)))))):=by
 refine bD Tryz.func38 rfl Tryz.ntmps38 rfl aA rfl fun N9 w9 c0 h0=>?_
 refine sq ?_;refine rl ?_;refine bx 0 ?_;refine bx 1 ?_;refine o1 ?_;refine nl ?_;refine sq ?_;refine rd [0,1] (fun i=>[9].contains i) mixed ?_
 refine aU 0 ?_;refine aG 1 rfl (Qk (a:=.of p) (Nat.le_trans hs.1 (by omega)) (Nat.le_trans hs.2 (by omega))) Ym ⟨aB rfl,rfl⟩ (qF (.of p)) ?_
 refine aG 2 rfl (Yl (p:=p) (hs.mono (M:=68719476736) (by omega))) KT ⟨aB rfl,rfl⟩ (.one (tv (.bool true))) ?_
 refine df 3 ?_;refine aU 4 ?_;refine aU 6 ?_;refine aG 5 rfl (Qk (a:=.of p) (Nat.le_trans hs.1 (by omega)) (Nat.le_trans hs.2 (by omega))) Ym ⟨aB rfl,rfl⟩ (qF (.of p)) ?_
 refine aG 7 rfl (Mq (Qn.of (p:=p) (hs.mono (M:=68719476736) (by omega))) (Qn.of (p:=q) (ht.mono (M:=68719476736) (by omega))) (hs.mono (by omega)) (ht.mono (by omega))) LK ⟨aB rfl,aB rfl,rfl⟩ (.one (tv (.bool (decide (p=q))))) ?_
 refine df 8 ?_;refine cV 9 (by kernel_rfl) rfl rfl aA rfl (by trivial) ?_ (fun h=>by first | rfl | cases h)
 refine aS ?_;refine rt ?_;exact gJ (.inl rfl) rfl (rfl)
theorem Cc {p:Rat}{e:Int}(hs:Sz 1000000 p) (he:e≠0→p=0):aE true Tryz.prog 14 [] [qF (.of p),qF (.of p),.one (tv (.int .i64 e))] (aM (.one (tv (.bool true)))):=by
 refine bD Tryz.func14 rfl Tryz.ntmps14 rfl aA rfl fun N9 w9 c0 h0=>?_
 refine sq ?_;refine rl ?_;refine bx 0 ?_;refine bx 1 ?_;refine o1 ?_;refine nl ?_;refine sq ?_;refine sq ?_;refine rl ?_;refine o1 ?_;refine o1 ?_;refine nl ?_
 refine bN rfl (fun h1=>?_) (fun h1=>?_)
 ·refine sq ?_;refine rl ?_;refine ld ?_;refine ca (rJ (Qn.of (p:=p) (hs.mono (M:=68719476736) (by omega)))) Bx ⟨aB rfl,rfl⟩ (.one (tv (.int .i64 p.num.sign))) ?_
  refine o1 ?_;refine o1 ?_;refine nl ?_;refine rt ?_;exact gJ (.inl rfl) rfl ((decide_eq_true (show p.num.sign=0 by rw[he h1];rfl)))
 refine sk ?_;refine sq ?_;refine rl ?_;refine ld ?_;refine ld ?_;refine ca (UN hs hs) UO ⟨aB rfl,aB rfl,rfl⟩ (.one (tv (.bool (decide (p=p))))) ?_;refine o1 ?_;refine nl ?_
 refine rt ?_;exact gJ (.inl rfl) rfl (decide_eq_true rfl)
theorem QK {n d:Int}(h1:-9223372036854775808≤n) (h2:n≤9223372036854775807) (h3:-9223372036854775808≤d) (h4:d≤9223372036854775807):aE false Tryz.prog 73 [] [.one (tv (.int .i64 n)),.one (tv (.int .i64 d))] (aM (.tup [qF (.of (Rat.divInt n d)),.one (tv (.int .i64 (if d=0 then 20 else 0)))])):=by
 refine bD Tryz.func73 rfl Tryz.ntmps73 rfl aA rfl fun N9 w9 c0 h0=>?_
 refine sq ?_;refine rl ?_;refine al 0 ?_;refine o1 ?_;refine nl ?_;refine sq ?_;refine rl ?_;refine o1 ?_;refine ca (xS (n:=n) (by omega) (by omega)) xT ⟨a1 rfl,rfl⟩ (kF n) ?_
 refine o1 ?_;refine ca (xS (n:=d) (by omega) (by omega)) xT ⟨a1 rfl,rfl⟩ (kF d) ?_
 refine ca (Ps (Zn.of (k:=n) (Nat.le_trans (nM h1 h2) (by omega))) (Zn.of (k:=d) (Nat.le_trans (nM h3 h4) (by omega)))) Xr ⟨aB rfl,aB rfl,rfl⟩ (.tup [qF (.of (Rat.divInt n d)),.one (tv (.int .i64 (if d=0 then 20 else 0)))]) ?_
 refine o1 ?_;refine o1 ?_;refine st ?_;refine o1 ?_;refine nl ?_;refine rt ?_
 exact en (.inl rfl) rfl (dE (.cons (.agg (.cons (.id rfl) (.cons (.id rfl) (.cons (.id rfl) (.cons (.id rfl) .nil))))) (.cons (aP _) .nil))) (by decide) (fun h=>by cases h) rfl
theorem jH {n d:Int}(h1:-9223372036854775808≤n) (h2:n≤9223372036854775807) (h3:-9223372036854775808≤d) (h4:d≤9223372036854775807):aE false Tryz.prog 30 [] [.one (tv (.int .i64 n)),.one (tv (.int .i64 d))] (aM (qF (.of (Rat.divInt n d)))):=by
 refine bD Tryz.func30 rfl Tryz.ntmps30 rfl aA rfl fun N9 w9 c0 h0=>?_
 refine sq ?_;refine rl ?_;refine al 0 ?_;refine nl ?_;refine sq ?_;refine rl ?_;refine o1 ?_;refine o1 ?_
 refine ca (QK h1 h2 h3 h4) UP ⟨a1 rfl,a1 rfl,rfl⟩ (.tup [qF (.of (Rat.divInt n d)),.one (tv (.int .i64 (if d=0 then 20 else 0)))]) ?_;(iterate 3 refine o1 ?_);refine al 1 ?_;refine st ?_
 refine o1 ?_;refine nl ?_;refine sq ?_;refine rl ?_;refine ld ?_;refine st ?_;refine nl ?_;refine rt ?_
 exact en (.inl rfl) rfl (aV (.agg (.cons (.id rfl) (.cons (.id rfl) (.cons (.id rfl) (.cons (.id rfl) .nil)))))) (by decide) (fun h=>by cases h) (rfl)
theorem WI:aE false Tryz.prog 8 [] [.one (tv (.string ⟨#[45,49,50,46,53,48]⟩))] (aM (.tup [qF (.of (Rat.divInt (-25) 2)),.one (tv (.int .i64 0))])):=by
 have h:=rK (l:=[45,49,50,46,53,48]) (show∀x∈[45,49,50,46,53,48],x<256 by decide) (by decide)
 rwa[show cC [45,49,50,46,53,48] [45,49,50,46,53,48].length=(Rat.divInt (-25) 2) by decide+kernel,show dJ [45,49,50,46,53,48] [45,49,50,46,53,48].length=0 by decide+kernel]at h
theorem WJ:aE false Tryz.prog 9 [] [.one (tv (.string ⟨#[48,46,48,53]⟩))] (aM (.tup [qF (.of (Rat.divInt 1 20)),.one (tv (.int .i64 0))])):=by
 have h:=xX (l:=[48,46,48,53]) (show∀x∈[48,46,48,53],x<256 by decide) (by decide)
 rwa[show cC [48,46,48,53] 2=(Rat.divInt 1 20) by decide+kernel,show dJ [48,46,48,53] 2=0 by decide+kernel]at h
theorem WK:aE false Tryz.prog 9 [] [.one (tv (.string ⟨#[49,46,48,48,53]⟩))] (aM (.tup [qF (.of (0:Rat)),.one (tv (.int .i64 60))])):=by
 have h:=xX (l:=[49,46,48,48,53]) (show∀x∈[49,46,48,48,53],x<256 by decide) (by decide)
 rwa[show cC [49,46,48,48,53] 2=(0:Rat) by decide+kernel,show dJ [49,46,48,48,53] 2=60 by decide+kernel]at h
theorem WM:aE false Tryz.prog 10 [] [.one (tv (.string ⟨#[51,55,46,53,37]⟩))] (aM (.tup [qF (.of (Rat.divInt 3 8)),.one (tv (.int .i64 0))])):=by
 have h:=iF (l:=[51,55,46,53,37]) (show∀x∈[51,55,46,53,37],x<256 by decide) (by decide)
 rwa[show aZ [51,55,46,53,37]=(Rat.divInt 3 8) by decide+kernel,show dQ [51,55,46,53,37]=0 by decide+kernel]at h
theorem WN:aE false Tryz.prog 10 [] [.one (tv (.string ⟨#[49,48,48,37]⟩))] (aM (.tup [qF (.of (Rat.divInt 1 1)),.one (tv (.int .i64 0))])):=by
 have h:=iF (l:=[49,48,48,37]) (show∀x∈[49,48,48,37],x<256 by decide) (by decide)
 rwa[show aZ [49,48,48,37]=(Rat.divInt 1 1) by decide+kernel,show dQ [49,48,48,37]=0 by decide+kernel]at h
theorem WQ:aE false Tryz.prog 10 [] [.one (tv (.string ⟨#[49,48,48,46,49,37]⟩))] (aM (.tup [qF (.of (0:Rat)),.one (tv (.int .i64 60))])):=by
 have h:=iF (l:=[49,48,48,46,49,37]) (show∀x∈[49,48,48,46,49,37],x<256 by decide) (by decide)
 rwa[show aZ [49,48,48,46,49,37]=(0:Rat) by decide+kernel,show dQ [49,48,48,46,49,37]=60 by decide+kernel]at h
theorem WR:aE false Tryz.prog 10 [] [.one (tv (.string ⟨#[53]⟩))] (aM (.tup [qF (.of (0:Rat)),.one (tv (.int .i64 60))])):=by
 have h:=iF (l:=[53]) (show∀x∈[53],x<256 by decide) (by decide)
 rwa[show aZ [53]=(0:Rat) by decide+kernel,show dQ [53]=60 by decide+kernel]at h
theorem WS:aE true Tryz.prog 18 [] [qF (.of (Rat.divInt 1 8))] (aM (.one (tv (.string (aC [48,46,49,50]))))):=by
 have h:=wK (Qn.of (p:=(Rat.divInt 1 8)) ((iA (by omega) (by omega) (by omega) (by omega)).mono (M:=68719476736) (by omega))) (iA (by omega) (by omega) (by omega) (by omega)) (by omega)
 rwa[show(aX (Rat.divInt 1 8) (aD 2))=[48,46,49,50] by decide+kernel]at h
theorem WT:aE true Tryz.prog 18 [] [qF (.of (Rat.divInt 3 8))] (aM (.one (tv (.string (aC [48,46,51,56]))))):=by
 have h:=wK (Qn.of (p:=(Rat.divInt 3 8)) ((iA (by omega) (by omega) (by omega) (by omega)).mono (M:=68719476736) (by omega))) (iA (by omega) (by omega) (by omega) (by omega)) (by omega)
 rwa[show(aX (Rat.divInt 3 8) (aD 2))=[48,46,51,56] by decide+kernel]at h
theorem WU:aE true Tryz.prog 18 [] [qF (.of (Rat.divInt (-1) 1000))] (aM (.one (tv (.string (aC [48,46,48,48]))))):=by
 have h:=wK (Qn.of (p:=(Rat.divInt (-1) 1000)) ((iA (by omega) (by omega) (by omega) (by omega)).mono (M:=68719476736) (by omega))) (iA (by omega) (by omega) (by omega) (by omega)) (by omega)
 rwa[show(aX (Rat.divInt (-1) 1000) (aD 2))=[48,46,48,48] by decide+kernel]at h
theorem WV:aE true Tryz.prog 16 [] [qF (.of (Rat.divInt 7 2)),.one (tv (.int .i64 0))] (aM (.one (tv (.string (aC [52]))))):=by
 have h:=wJ (n:=0) (Qn.of (p:=(Rat.divInt 7 2)) ((iA (by omega) (by omega) (by omega) (by omega)).mono (M:=68719476736) (by omega))) (iA (by omega) (by omega) (by omega) (by omega)) (by omega)
 rwa[show(aX (Rat.divInt 7 2) (aD 0))=[52] by decide+kernel]at h
theorem WW:aE true Tryz.prog 19 [] [qF (.of (Rat.divInt 3 8))] (aM (.one (tv (.string (aC [51,55,46,53,37]))))):=by
 have h:=jV (Qn.of (p:=(Rat.divInt 3 8)) ((iA (by omega) (by omega) (by omega) (by omega)).mono (M:=68719476736) (by omega))) (iA (by omega) (by omega) (by omega) (by omega)) (by omega)
 rwa[show(fO (Rat.divInt 3 8))=[51,55,46,53,37] by decide+kernel]at h
theorem WX:aE true Tryz.prog 19 [] [qF (.of (Rat.divInt 1 3))] (aM (.one (tv (.string (aC []))))):=by
 have h:=jV (Qn.of (p:=(Rat.divInt 1 3)) ((iA (by omega) (by omega) (by omega) (by omega)).mono (M:=68719476736) (by omega))) (iA (by omega) (by omega) (by omega) (by omega)) (by omega)
 rwa[show(fO (Rat.divInt 1 3))=[] by decide+kernel]at h
theorem Ac {p:Rat}(h:Sz 68719476736 p):aE true Tryz.prog 27 [] [qF (.of p),qF (.of p)] (aM (.one (tv (.int .i64 0)))):=by
 have h1:=lP (Qn.of (p:=p) h) (Qn.of (p:=p) h)
 rwa[show p-p=0 by grind]at h1
theorem eH:aE true Tryz.prog 7 [] [] (aM (.one (tv (.bool true)))):=by
 refine bD Tryz.func7 rfl Tryz.ntmps7 rfl aA rfl fun N9 w9 c0 h0=>?_
 refine sq ?_;refine rl ?_;refine o1 ?_;refine nl ?_;refine sq ?_;refine rl ?_;refine ca (WI) Ub ⟨a1 rfl,rfl⟩ (.tup [qF (.of (Rat.divInt (-25) 2)),.one (tv (.int .i64 0))]) ?_
 (iterate 3 refine o1 ?_);refine al 0 ?_;refine st ?_;refine o1 ?_;refine nl ?_;refine sq ?_;refine rl ?_
 refine ca (WJ) LN ⟨a1 rfl,rfl⟩ (.tup [qF (.of (Rat.divInt 1 20)),.one (tv (.int .i64 0))]) ?_;(iterate 3 refine o1 ?_);refine al 1 ?_;refine st ?_;refine o1 ?_;refine nl ?_;refine sq ?_
 refine rl ?_;refine ca (WK) LN ⟨a1 rfl,rfl⟩ (.tup [qF (.of (0:Rat)),.one (tv (.int .i64 60))]) ?_;(iterate 3 refine o1 ?_);refine al 2 ?_;refine st ?_;refine o1 ?_;refine nl ?_
 refine sq ?_;refine rl ?_;refine ca (WM) pL ⟨a1 rfl,rfl⟩ (.tup [qF (.of (Rat.divInt 3 8)),.one (tv (.int .i64 0))]) ?_;(iterate 3 refine o1 ?_);refine al 3 ?_;refine st ?_;refine o1 ?_
 refine nl ?_;refine sq ?_;refine rl ?_;refine ca (WN) pL ⟨a1 rfl,rfl⟩ (.tup [qF (.of (Rat.divInt 1 1)),.one (tv (.int .i64 0))]) ?_;(iterate 3 refine o1 ?_);refine al 4 ?_;refine st ?_
 refine o1 ?_;refine nl ?_;refine sq ?_;refine rl ?_;refine ca (WQ) pL ⟨a1 rfl,rfl⟩ (.tup [qF (.of (0:Rat)),.one (tv (.int .i64 60))]) ?_;(iterate 3 refine o1 ?_);refine al 5 ?_
 refine st ?_;refine o1 ?_;refine nl ?_;refine sq ?_;refine rl ?_;refine ca (WR) pL ⟨a1 rfl,rfl⟩ (.tup [qF (.of (0:Rat)),.one (tv (.int .i64 60))]) ?_;(iterate 3 refine o1 ?_)
 refine al 6 ?_;refine st ?_;refine o1 ?_;refine nl ?_;refine sq ?_;refine rd [0,1,2,3,4,5,6] (fun i=>[80].contains i) mixed ?_
 refine dv 0 ?_;refine dv 1 ?_;refine dv 2 ?_;refine WD.split (t:=45) rfl rfl (fun h1=>?_) (fun h1=>?_)
 ·refine aU 3 ?_;refine aG 4 rfl (jH (n:=(-25)) (d:=2) (by omega) (by omega) (by omega) (by omega)) jI ⟨a1 rfl,a1 rfl,rfl⟩ (qF (.of (Rat.divInt (-25) 2))) ?_
  refine aG 5 rfl (Ac (p:=(Rat.divInt (-25) 2)) ((iA (by omega) (by omega) (by omega) (by omega)).mono (M:=68719476736) (by omega))) lQ ⟨aB rfl,aB rfl,rfl⟩ (.one (tv (.int .i64 0))) ?_
  refine df 6 ?_;refine df 7 ?_;refine df 8 ?_;refine WD.split (t:=51) rfl rfl (fun h2=>?_) (fun h2=>?_)
  ·refine dv 9 ?_;refine dv 10 ?_;refine df 11 ?_;refine df 12 ?_;refine WD.split (t:=55) rfl rfl (fun h3=>?_) (fun h3=>?_)
   ·refine aU 13 ?_;refine aG 14 rfl (jH (n:=1) (d:=20) (by omega) (by omega) (by omega) (by omega)) jI ⟨a1 rfl,a1 rfl,rfl⟩ (qF (.of (Rat.divInt 1 20))) ?_
    refine aG 15 rfl (Ac (p:=(Rat.divInt 1 20)) ((iA (by omega) (by omega) (by omega) (by omega)).mono (M:=68719476736) (by omega))) lQ ⟨aB rfl,aB rfl,rfl⟩ (.one (tv (.int .i64 0))) ?_
    refine df 16 ?_;refine df 17 ?_;refine df 18 ?_;refine WD.split (t:=61) rfl rfl (fun h4=>?_) (fun h4=>?_)
    ·refine dv 19 ?_;refine dv 20 ?_;refine df 21 ?_;refine df 22 ?_;refine WD.split (t:=65) rfl rfl (fun h5=>?_) (fun h5=>?_)
     ·refine dv 23 ?_;refine dv 24 ?_;refine df 25 ?_;refine df 26 ?_;refine WD.split (t:=69) rfl rfl (fun h6=>?_) (fun h6=>?_)
      ·refine aU 27 ?_;refine aG 28 rfl (jH (n:=3) (d:=8) (by omega) (by omega) (by omega) (by omega)) jI ⟨a1 rfl,a1 rfl,rfl⟩ (qF (.of (Rat.divInt 3 8))) ?_
       refine aG 29 rfl (Ac (p:=(Rat.divInt 3 8)) ((iA (by omega) (by omega) (by omega) (by omega)).mono (M:=68719476736) (by omega))) lQ ⟨aB rfl,aB rfl,rfl⟩ (.one (tv (.int .i64 0))) ?_
       refine df 30 ?_;refine df 31 ?_;refine df 32 ?_;refine WD.split (t:=75) rfl rfl (fun h7=>?_) (fun h7=>?_)
       ·refine dv 33 ?_;refine dv 34 ?_;refine df 35 ?_;refine df 36 ?_;refine WD.split (t:=79) rfl rfl (fun h8=>?_) (fun h8=>?_)
        ·refine aU 37 ?_;refine aG 38 rfl (jH (n:=1) (d:=1) (by omega) (by omega) (by omega) (by omega)) jI ⟨a1 rfl,a1 rfl,rfl⟩ (qF (.of (Rat.divInt 1 1))) ?_
         refine aG 39 rfl (Ac (p:=(Rat.divInt 1 1)) ((iA (by omega) (by omega) (by omega) (by omega)).mono (M:=68719476736) (by omega))) lQ ⟨aB rfl,aB rfl,rfl⟩ (.one (tv (.int .i64 0))) ?_
         refine df 40 ?_;refine df 41 ?_;refine df 42 ?_;refine WD.split (t:=85) rfl rfl (fun h9=>?_) (fun h9=>?_)
         ·refine dv 43 ?_;refine dv 44 ?_;refine df 45 ?_;refine df 46 ?_;refine WD.split (t:=89) rfl rfl (fun h10=>?_) (fun h10=>?_)
          ·refine dv 47 ?_;refine dv 48 ?_;refine df 49 ?_;refine df 50 ?_;refine WD.split (t:=93) rfl rfl (fun h11=>?_) (fun h11=>?_)
           ·refine aG 51 rfl (jH (n:=1) (d:=8) (by omega) (by omega) (by omega) (by omega)) jI ⟨a1 rfl,a1 rfl,rfl⟩ (qF (.of (Rat.divInt 1 8))) ?_
            refine aG 52 rfl (WS) Ql ⟨aB rfl,rfl⟩ (.one (tv (.string (aC [48,46,49,50])))) ?_;refine df 53 ?_
            refine WD.cast (t:=96) (u':=.bool true) rfl (congrArg Value.bool ((jS (l:=[48,46,49,50]) (l':=[48,46,49,50]) (show∀x∈([48,46,49,50]:List Nat),x<256 by decide) (show∀x∈([48,46,49,50]:List Nat),x<256 by decide)).trans (decide_eq_true rfl))) ?_
            refine df 54 ?_;refine df 55 ?_
            refine aG 56 rfl (jH (n:=3) (d:=8) (by omega) (by omega) (by omega) (by omega)) jI ⟨a1 rfl,a1 rfl,rfl⟩ (qF (.of (Rat.divInt 3 8))) ?_
            refine aG 57 rfl (WT) Ql ⟨aB rfl,rfl⟩ (.one (tv (.string (aC [48,46,51,56])))) ?_;refine df 58 ?_
            refine WD.cast (t:=101) (u':=.bool true) rfl (congrArg Value.bool ((jS (l:=[48,46,51,56]) (l':=[48,46,51,56]) (show∀x∈([48,46,51,56]:List Nat),x<256 by decide) (show∀x∈([48,46,51,56]:List Nat),x<256 by decide)).trans (decide_eq_true rfl))) ?_
            refine df 59 ?_;refine df 60 ?_
            refine aG 61 rfl (jH (n:=(-1)) (d:=1000) (by omega) (by omega) (by omega) (by omega)) jI ⟨a1 rfl,a1 rfl,rfl⟩ (qF (.of (Rat.divInt (-1) 1000))) ?_
            refine aG 62 rfl (WU) Ql ⟨aB rfl,rfl⟩ (.one (tv (.string (aC [48,46,48,48])))) ?_;refine df 63 ?_
            refine WD.cast (t:=106) (u':=.bool true) rfl (congrArg Value.bool ((jS (l:=[48,46,48,48]) (l':=[48,46,48,48]) (show∀x∈([48,46,48,48]:List Nat),x<256 by decide) (show∀x∈([48,46,48,48]:List Nat),x<256 by decide)).trans (decide_eq_true rfl))) ?_
            refine df 64 ?_;refine df 65 ?_
            refine aG 66 rfl (jH (n:=7) (d:=2) (by omega) (by omega) (by omega) (by omega)) jI ⟨a1 rfl,a1 rfl,rfl⟩ (qF (.of (Rat.divInt 7 2))) ?_
            refine aG 67 rfl (WV) xZ ⟨aB rfl,a1 rfl,rfl⟩ (.one (tv (.string (aC [52])))) ?_;refine df 68 ?_
            refine WD.cast (t:=111) (u':=.bool true) rfl (congrArg Value.bool ((jS (l:=[52]) (l':=[52]) (show∀x∈([52]:List Nat),x<256 by decide) (show∀x∈([52]:List Nat),x<256 by decide)).trans (decide_eq_true rfl))) ?_
            refine df 69 ?_;refine df 70 ?_
            refine aG 71 rfl (jH (n:=3) (d:=8) (by omega) (by omega) (by omega) (by omega)) jI ⟨a1 rfl,a1 rfl,rfl⟩ (qF (.of (Rat.divInt 3 8))) ?_
            refine aG 72 rfl (WW) Cd ⟨aB rfl,rfl⟩ (.one (tv (.string (aC [51,55,46,53,37])))) ?_;refine df 73 ?_
            refine WD.cast (t:=116) (u':=.bool true) rfl (congrArg Value.bool ((jS (l:=[51,55,46,53,37]) (l':=[51,55,46,53,37]) (show∀x∈([51,55,46,53,37]:List Nat),x<256 by decide) (show∀x∈([51,55,46,53,37]:List Nat),x<256 by decide)).trans (decide_eq_true rfl))) ?_
            refine df 74 ?_;refine df 75 ?_
            refine aG 76 rfl (jH (n:=1) (d:=3) (by omega) (by omega) (by omega) (by omega)) jI ⟨a1 rfl,a1 rfl,rfl⟩ (qF (.of (Rat.divInt 1 3))) ?_
            refine aG 77 rfl (WX) Cd ⟨aB rfl,rfl⟩ (.one (tv (.string (aC [])))) ?_;refine df 78 ?_
            refine WD.cast (t:=121) (u':=.bool true) rfl (congrArg Value.bool ((jS (l:=[]) (l':=[]) (show∀x∈([]:List Nat),x<256 by decide) (show∀x∈([]:List Nat),x<256 by decide)).trans (decide_eq_true rfl))) ?_
            refine df 79 ?_;refine cV 80 (by kernel_rfl) rfl rfl aA rfl (by trivial) ?_ (fun h=>by first | rfl | cases h)
            refine aS ?_;refine rt ?_;exact gJ (.inl rfl) rfl (rfl)
           exact absurd rfl h11
          exact absurd rfl h10
         exact absurd rfl h9
        exact absurd rfl h8
       exact absurd rfl h7
      exact absurd rfl h6
     exact absurd rfl h5
    exact absurd rfl h4
   exact absurd rfl h3
  exact absurd rfl h2
 exact absurd rfl h1
theorem BU (l:List Nat) (m:Nat) (h:dJ l m≠0):cC l m=0:=if_neg h
theorem QL (l:List Nat) (h:dQ l≠0):aZ l=0:=if_neg h
theorem tD {l:List Nat}(hl:Lim 256 l):aE true Tryz.prog 3 [] [.one (tv (.string (aC l)))] (aM (.one (tv (.bool true)))):=by
 refine bD Tryz.func3 rfl Tryz.ntmps3 rfl aA rfl fun N9 w9 c0 h0=>?_
 refine sq ?_;refine rl ?_;refine o1 ?_;refine nl ?_;refine sq ?_;refine sq ?_;refine rl ?_;refine o1 ?_;refine o1 ?_
 refine WL.cast (t:=16) (u':=.int .i64 ((l.length:Nat):Int)) rfl (congrArg (fun n:Nat=>Value.int .i64 (n:Int)) (aF _)) ?_
 refine o1 ?_;refine nl ?_;refine bN rfl (fun h1=>?_) (fun h1=>?_)
 ·refine sq ?_;refine rl ?_;refine ca (eH) oG rfl (.one (tv (.bool true))) ?_;refine o1 ?_;refine nl ?_;refine rt ?_;exact gJ (.inl rfl) rfl (rfl)
 refine sk ?_;refine sq ?_;refine rl ?_;refine o1 ?_;refine ca (rK hl (by omega)) Ub ⟨a1 rfl,rfl⟩ (.tup [qF (.of (cC l l.length)),.one (tv (.int .i64 (dJ l l.length)))]) ?_
 (iterate 3 refine o1 ?_);refine al 0 ?_;refine st ?_;refine o1 ?_;refine nl ?_;refine sq ?_;refine rl ?_;refine o1 ?_
 refine ca (xX hl (by omega)) LN ⟨a1 rfl,rfl⟩ (.tup [qF (.of (cC l 2)),.one (tv (.int .i64 (dJ l 2)))]) ?_
 (iterate 3 refine o1 ?_);refine al 1 ?_;refine st ?_;refine o1 ?_;refine nl ?_;refine sq ?_;refine rl ?_;refine o1 ?_
 refine ca (iF hl (by omega)) pL ⟨a1 rfl,rfl⟩ (.tup [qF (.of (aZ l)),.one (tv (.int .i64 (dQ l)))]) ?_
 (iterate 3 refine o1 ?_);refine al 2 ?_;refine st ?_;refine o1 ?_;refine nl ?_;refine sq ?_;refine rl ?_;refine o1 ?_
 refine ca (FD hl (by omega)) UQ ⟨a1 rfl,rfl⟩ (.tup [qF (.of (cC l l.length)),.one (tv (.int .i64 (dJ l l.length)))]) ?_
 (iterate 3 refine o1 ?_);refine al 3 ?_;refine st ?_;refine o1 ?_;refine nl ?_;refine sq ?_;refine rl ?_;refine o1 ?_
 refine ca (Yg hl (by omega)) UR ⟨a1 rfl,rfl⟩ (.tup [qF (.of (cC l 2)),.one (tv (.int .i64 (dJ l 2)))]) ?_
 (iterate 3 refine o1 ?_);refine al 4 ?_;refine st ?_;refine o1 ?_;refine nl ?_;refine sq ?_;refine rl ?_;refine o1 ?_
 refine ca (Mk hl (by omega)) LJ ⟨a1 rfl,rfl⟩ (.tup [qF (.of (aZ l)),.one (tv (.int .i64 (dQ l)))]) ?_
 (iterate 3 refine o1 ?_);refine al 5 ?_;refine st ?_;refine o1 ?_;refine nl ?_;refine sq ?_;refine rl ?_;(iterate 4 refine o1 ?_);refine WL.split (t:=52) rfl (fun h2=>?_) (fun h2=>?_)
 ·(iterate 5 refine o1 ?_);refine WL.split (t:=57) rfl (fun h3=>?_) (fun h3=>?_)
  ·(iterate 5 refine o1 ?_);refine WL.split (t:=62) rfl (fun h4=>?_) (fun h4=>?_)
   ·refine ld ?_;refine ld ?_;refine o1 ?_;refine ca (Cc ((lS l l.length).mono (by omega)) (BU l l.length)) Yn ⟨aB rfl,aB rfl,a1 rfl,rfl⟩ (.one (tv (.bool true))) ?_
    refine o1 ?_;refine o1 ?_;refine ld ?_;refine ld ?_;refine o1 ?_
    refine ca (Cc ((lS l 2).mono (by omega)) (BU l 2)) Yn ⟨aB rfl,aB rfl,a1 rfl,rfl⟩ (.one (tv (.bool true))) ?_
    refine o1 ?_;refine o1 ?_;refine ld ?_;refine ld ?_;refine o1 ?_
    refine ca (Cc ((dI l).mono (by omega)) (QL l)) Yn ⟨aB rfl,aB rfl,a1 rfl,rfl⟩ (.one (tv (.bool true))) ?_
    refine o1 ?_;refine o1 ?_;refine ca (eH) oG rfl (.one (tv (.bool true))) ?_;refine o1 ?_;refine o1 ?_;refine nl ?_;refine rt ?_;exact gJ (.inl rfl) rfl (rfl)
   exact absurd rfl h4
  exact absurd rfl h3
 exact absurd rfl h2
end Go.Proofs.YtcaakamelngceaaGreatDoor
namespace Go.Proofs.YtcaakamelngceaaGreatDoor
open Go Go.RowKit Go.ChangeShapes
def Reads (P:Program) (t:TypeId) (z:Nat) (T:List Tr→Prop):Prop:=
 P.cellsOf t=z∧∀(H:Type) (enc:TypeId×Value→H) (w:World) (fuel:Nat) (cs:List Value) (x:DataW H×List MemPlace),DataW.trod enc P w 0 (fun _=>true) true fuel t cs=some x→∃l,T l∧l.length=z∧FRL w (Rr w) l cs
theorem Ms {W:World}{N:Nat→Prop}:∀{l l':List Tr}{us us':List Value},FRL W N l us→FRL W N l' us'→FRL W N (l++l') (us++us')
 | [],l',us,us',h,h'=>by simp only[FRL]at h;subst h;exact h'
 | x::l,l',u::us,us',h,h'=>by simp only[FRL,List.cons_append]at*;exact⟨h.1,Ms h.2 h'⟩
 | _::_,_,[],_,h,_=>by simp only[FRL]at h
section
variable {P:Program}{t e:TypeId}{k:IntKind}{z:Nat}{T T':List Tr→Prop}
theorem Reads.mono (h:Reads P t z T) (hi:∀l,T l→T' l):Reads P t z T':=⟨h.1,fun H enc w fuel cs x hx=>let ⟨l,a,b⟩:=h.2 H enc w fuel cs x hx;⟨l,hi l a,b⟩⟩
inductive Flds (P:Program):Nat→List Field→Nat→(List Tr→Prop)→Prop
 | nil {o:Nat}:Flds P o [] 0 (· =[])
 | cons {o z z':Nat}{f:Field}{fs:List Field}{T T':List Tr→Prop}(ho:f.offset=o) (h:Reads P f.type z T) (h':Flds P (o+z) fs z' T'):Flds P o (f::fs) (z+z') (fun l=>∃a b,l=a++b∧T a∧T' b)
theorem Flds.read {H:Type}{enc:TypeId×Value→H}{w:World}{n o:Nat}{fs:List Field}(h:Flds P o fs z T):∀{cs:List Value},o+z≤cs.length→(∀f∈fs,∃x,DataW.trod enc P w 0 (fun _=>true) true n f.type ((cs.drop f.offset).take (P.cellsOf f.type))=some x)→∃l,T l∧l.length=z∧FRL w (Rr w) l ((cs.drop o).take z):=by
 induction h with
 | nil=>exact fun _ _=>⟨[],rfl,rfl,by simp[FRL]⟩
 | @cons o z z' f fs T T' ho hr _ ih=>
  intro cs hl hf
  obtain⟨b,h1,h2,h3⟩:=ih (cs:=cs) (by omega) fun f hm=>hf f (List.mem_cons_of_mem _ hm)
  obtain⟨x,hx⟩:=hf f List.mem_cons_self
  obtain⟨a,g1,g2,g3⟩:=hr.2 H enc w n _ x hx
  rw[ho,hr.1]at g3
  refine⟨a++b,⟨a,b,rfl,g1,h1⟩,by simp[g2,h2],?_⟩
  rw[List.take_add,List.drop_drop]
  exact Ms g3 h3
end
def LimF (a:Fr4):Prop:=Lim 4294967296 a.x∧Lim 4294967296 a.y
theorem LimF.ok {a:Fr4}(h:LimF a) (h2:a.x.length≤6∧a.y.length≤6):a.ok:=⟨h.1,h.2,by omega,by omega⟩
end Go.Proofs.YtcaakamelngceaaGreatDoor
namespace Go.Proofs.YtcaakamelngceaaGreatDoor
open Go Go.RowKit
theorem BV {a:Fr4}{L:Nat}(ha:LimF a) (h1:a.x.length≤L) (h2:a.y.length≤L) (hL:2≤L) (hL2:L≤1000000):Qn a a.q∧Sz L a.q:=by
 have hq:Qn a a.q:=⟨⟨ha.1,ha.2,by omega,by omega⟩,rfl⟩
 refine⟨hq,?_⟩
 cases hr:dC a.s a.x a.t a.y with
 | true=>
  have e:=hq.right hr
  have e1:dg 4294967296 a.q.num.natAbs=a.x:=congrArg Fr4.x e
  have e2:dg 4294967296 a.q.den=a.y:=congrArg Fr4.y e
  exact⟨by rw[e1];exact h1,by rw[e2];exact h2⟩
 | false=>
  rw[hq.wrong hr]
  exact(bY (z:=0) (by omega) (by omega)).mono hL
theorem wL (p:Rat):Lim 256 (fO p):=by
 unfold fO
 split
 ·exact(Gt (wG (kM _ _))).append (Lim.cons (by omega) Lim.nil)
 exact Lim.nil
theorem Ad {l:List Nat}(h:Lim 256 l):((aC l).toList==(aC l).toList)=true:=(jS h h).trans (decide_eq_true rfl)
theorem lC {a:Fr4}{m:Int}(ha:LimF a):aE true Tryz.prog 4 [] [qF a,.one (tv (.int .i64 m))] (aM (.one (tv (.bool true)))):=by
 refine bD Tryz.func4 rfl Tryz.ntmps4 rfl aA rfl fun N9 w9 c0 h0=>?_
 refine sq ?_;refine rl ?_;refine bx 0 ?_;refine o1 ?_;refine nl ?_;refine sq ?_;refine sq ?_;refine rl ?_;refine o1 ?_;refine o1 ?_;refine ld ?_;(iterate 3 refine o1 ?_)
 refine WL.split (t:=11) rfl (fun h1=>?_) (fun h1=>?_)
 ·(iterate 5 refine cG ?_);refine o1 ?_;refine nl ?_;refine fV rfl ?_;refine sq ?_;refine rl ?_;refine ca (eH) oG rfl (.one (tv (.bool true))) ?_;refine o1 ?_;refine nl ?_
  refine rt ?_;exact gJ (.inl rfl) rfl (rfl)
 refine o1 ?_;refine o1 ?_;refine ld ?_;(iterate 3 refine o1 ?_);refine nl ?_;refine bN rfl (fun h2=>?_) (fun h2=>?_)
 ·refine sq ?_;refine rl ?_;refine ca (eH) oG rfl (.one (tv (.bool true))) ?_;refine o1 ?_;refine nl ?_;refine rt ?_;exact gJ (.inl rfl) rfl (rfl)
 refine sk ?_;refine sq ?_;obtain⟨hq,hs⟩:=BV (L:=6) ha (by omega) (by omega) (by omega) (by omega)
 refine rl ?_;refine ld ?_;refine ca (Qk (a:=a) (by omega) (by omega)) Ym ⟨aB rfl,rfl⟩ (qF a) ?_
 refine al 1 ?_;refine st ?_;refine nl ?_;refine sq ?_;refine rd [0,1] (fun i=>[43].contains i) mixed ?_
 refine aU 0 ?_;refine dv 1 ?_;refine aU 3 ?_;refine dv 4 ?_;refine aG 2 rfl (wJ (n:=m) hq hs (by omega)) xZ ⟨aB rfl,a1 rfl,rfl⟩ (.one (tv (.string (aC (aX a.q (aD m)))))) ?_
 refine aG 5 rfl (Qi (n:=m) hq hs (by omega)) Yj ⟨aB rfl,a1 rfl,rfl⟩ (.one (tv (.string (aC (aX a.q (aD m)))))) ?_
 refine df 6 ?_;refine WD.cast (t:=27) (u':=.bool true) rfl (congrArg Value.bool (Ad (kM _ _))) ?_;refine df 7 ?_;refine aU 8 ?_;refine aU 10 ?_
 refine aG 9 rfl (wK hq hs (by omega)) Ql ⟨aB rfl,rfl⟩ (.one (tv (.string (aC (aX a.q (aD 2)))))) ?_
 refine aG 11 rfl (Qi (n:=2) hq hs (by omega)) Yj ⟨aB rfl,a1 rfl,rfl⟩ (.one (tv (.string (aC (aX a.q (aD 2)))))) ?_
 refine df 12 ?_;refine WD.cast (t:=33) (u':=.bool true) rfl (congrArg Value.bool (Ad (kM _ _))) ?_;refine df 13 ?_;refine df 14 ?_;refine aU 15 ?_;refine aU 17 ?_
 refine aG 16 rfl (jV hq hs (by omega)) Cd ⟨aB rfl,rfl⟩ (.one (tv (.string (aC (fO a.q))))) ?_
 refine aG 18 rfl (Qj hq hs (by omega)) US ⟨aB rfl,rfl⟩ (.one (tv (.string (aC (fO a.q))))) ?_
 refine df 19 ?_;refine WD.cast (t:=40) (u':=.bool true) rfl (congrArg Value.bool (Ad (wL _))) ?_;refine df 20 ?_;refine df 21 ?_;refine aU 22 ?_;refine dv 23 ?_
 refine dv 24 ?_;refine aU 25 ?_;refine dv 26 ?_;refine dv 27 ?_;refine aU 28 ?_;refine dv 29 ?_;refine dv 30 ?_;refine dv 31 ?_;refine aU 32 ?_;refine dv 33 ?_;refine dv 34 ?_
 refine aU 35 ?_;refine dv 36 ?_;refine dv 37 ?_;refine aG 38 rfl (JN hq hq) UT ⟨aB rfl,aB rfl,rfl⟩ (.one (tv (.bool (decide (a.q=a.q))))) ?_;refine df 39 ?_;refine df 40 ?_
 refine WD.splitb (t:=61) rfl (fun h3=>?_) (fun h3=>?_)
 ·refine aG 41 rfl (eH) oG rfl (.one (tv (.bool true))) ?_;refine df 42 ?_;refine cV 43 (by kernel_rfl) rfl rfl aA rfl (by trivial) ?_ (fun h=>by first | rfl | cases h)
  refine aS ?_;refine rt ?_;exact gJ (.inl rfl) rfl (rfl)
 exact absurd (show decide (a.q=a.q)=true from decide_eq_true rfl) (by rw[h3];decide)
def kN (l:List Nat):Nat:=(l.filter eW).length
theorem Yo {l:List Nat}{k:Nat}(h:k<l.length):kN (l.take (k+1))=kN (l.take k)+(if eW (nth l k)=true then 1 else 0):=by
 unfold kN
 rw[List.take_add_one,uP h,List.filter_append,List.length_append]
 congr 1
 show(List.filter eW [nth l k]).length=_
 by_cases h2:eW (nth l k)=true
 ·rw[if_pos h2,List.filter_cons_of_pos h2];rfl
 rw[if_neg h2,List.filter_cons_of_neg h2];rfl
theorem If (l m:List Nat):kN (l++m)=kN l+kN m:=by
 unfold kN
 rw[List.filter_append,List.length_append]
theorem LO {l:List Nat}(h:∀c∈l,48≤c∧c≤57):kN l=l.length:=by
 have e:l.filter eW=l:=List.filter_eq_self.2 fun c hc=>decide_eq_true (h c hc)
 unfold kN
 rw[e]
theorem BW (n d:Nat):kN (wr n d)=(tx (n/10^d)).length+d:=by
 unfold wr
 rw[If,LO (yX _)]
 split
 ·rename_i h;subst h;rfl
 show _+kN ([46]++pd n d)=_
 rw[If,LO (Pc _ _),lL]
 show _+(0+d)=_
 omega
theorem Fm (z:Int) (d:Nat):kN (pt z d)=(tx (z.natAbs/10^d)).length+d:=by
 unfold pt
 split
 ·show kN ([45]++wr z.natAbs d)=_
  rw[If,BW]
  show 0+_=_
  omega
 exact BW _ _
theorem QM {l:List Nat}{k:Nat}:kN (l.take k)≤k:=Nat.le_trans (List.length_filter_le _ _) (by rw[List.length_take];omega)
theorem Uc (z:Int) (d:Nat):d≤(pt z d).length:=by
 have h:=Fm z d
 have h2:kN (pt z d)≤(pt z d).length:=List.length_filter_le _ _
 omega
theorem Ud {q:Rat}{n:Nat}(h:40<kN (aX q n)):dJ (aX q n) (aX q n).length=3:=by
 unfold aX at*
 rw[Fm]at h
 rw[Xc,if_pos (Uc _ _),if_pos h]
theorem LP {q:Rat}{n:Nat}(h:¬40<kN (aX q n)):dJ (aX q n) (aX q n).length=0∧cC (aX q n) (aX q n).length=Rat.divInt (hal (q*((10^n:Nat):Rat))) ((10^n:Nat):Int):=by
 have h1:dJ (aX q n) (aX q n).length=0:=by
  unfold aX at*
  rw[Fm]at h
  rw[Xc,if_pos (Uc _ _),if_neg h]
 refine⟨h1,?_⟩
 unfold cC
 rw[if_pos h1]
 exact IQ _ _
def fZ (k:Nat):Rat:=((1:Int):Rat)/((10^k:Nat):Rat)
theorem LQ:((1:Int):Rat)=fZ 0:=by
 unfold fZ
 decide+kernel
theorem Ue (k:Nat):fZ k/((10:Int):Rat)=fZ (k+1):=by
 refine wF (Mm (k+1)) ?_
 unfold fZ
 rw[Rat.div_mul_cancel (Mm (k+1)),Nat.pow_succ,Rat.natCast_mul]
 have h1:((1:Int):Rat)/((10^k:Nat):Rat)/((10:Int):Rat)*(((10^k:Nat):Rat)*((10:Nat):Rat))=((1:Int):Rat)/((10^k:Nat):Rat)*((10^k:Nat):Rat)*(((10:Int):Rat)⁻¹*((10:Nat):Rat)):=by
  rw[Rat.div_def _ ((10:Int):Rat)]
  grind
 rw[h1,Rat.div_mul_cancel (Mm k)]
 decide+kernel
theorem Ce (k:Nat):Sz (k+5) (fZ k):=(zT (bY (z:=1) (by omega) (by omega)) (fC k)).mono (by omega)
theorem LR {q:Rat}{n:Nat}:¬0<(eE (q-Rat.divInt (hal (q*((10^n:Nat):Rat))) ((10^n:Nat):Int)) [-(q-Rat.divInt (hal (q*((10^n:Nat):Rat))) ((10^n:Nat):Int))]+eE (q-Rat.divInt (hal (q*((10^n:Nat):Rat))) ((10^n:Nat):Int)) [-(q-Rat.divInt (hal (q*((10^n:Nat):Rat))) ((10^n:Nat):Int))]-fZ n).num.sign:=by
 intro h
 have h1:=Lp h
 have hT:=LE n
 obtain⟨n1,n2⟩:=Gl (q*((10^n:Nat):Rat))
 have hv:=Mn (hal (q*((10^n:Nat):Rat))) n
 have hu:fZ n*((10^n:Nat):Rat)=1:=by
  unfold fZ
  rw[Rat.div_mul_cancel (Mm n)]
  rfl
 generalize hal (q*((10^n:Nat):Rat))=z at*
 generalize Rat.divInt z ((10^n:Nat):Int)=y at*
 generalize ((10^n:Nat):Rat)=t at*
 have key:∀x:Rat,(x+x)*t≤1→¬fZ n<x+x:=fun x hx hlt=>by
  have:=Rat.mul_lt_mul_of_pos_right hlt hT
  rw[hu]at this
  grind
 unfold eE at h1
 simp only[List.foldl_cons,List.foldl_nil]at h1
 split at h1
 ·exact key _ (by grind) h1
 exact key _ (by grind) h1
theorem LS {q:Rat}{n:Nat}:aX (Rat.divInt (hal (q*((10^n:Nat):Rat))) ((10^n:Nat):Int)) n=aX q n:=by
 unfold aX
 rw[Mn,Bo]
theorem BX (q:Rat):dJ (aX q 40) (aX q 40).length=3:=Ud (by
 unfold aX
 rw[Fm]
 have:=List.length_pos_iff.2 (oI ((hal (q*((10^40:Nat):Rat))).natAbs/10^40))
 omega)
theorem tE {l:List Nat}(h:dQ l=0):0≤aZ l∧aZ l≤((1:Int):Rat)∧dQ (fO (aZ l))=0∧aZ (fO (aZ l))=aZ l:=by
 have hq:aZ l=cC (cJ 37 l) 4/((100:Int):Rat):=if_pos h
 have hc:iK 37 l=true∧dJ (cJ 37 l) 4=0∧0≤cC (cJ 37 l) 4∧cC (cJ 37 l) 4≤((100:Int):Rat):=by
  unfold dQ at h
  split at h
  ·assumption
  cases h
 obtain⟨_,hE,h0,h1⟩:=hc
 have e100:aZ l*((100:Int):Rat)=cC (cJ 37 l) 4:=by
  rw[hq,Rat.div_mul_cancel (by decide)]
 have p0':0≤aZ l:=by
  refine Rat.le_of_mul_le_mul_right (c:=((100:Int):Rat)) ?_ (by decide)
  rw[e100,Rat.zero_mul]
  exact h0
 have p1':aZ l≤((1:Int):Rat):=by
  refine Rat.le_of_mul_le_mul_right (c:=((100:Int):Rat)) ?_ (by decide)
  rw[e100]
  refine Rat.le_trans h1 ?_
  decide+kernel
 have hk:(pl (aI (cJ 37 l))).length≤4:=by
  unfold dJ at hE
  split at hE
  ·rename_i h9;exact h9.2
  cases hE
 have hV:cC (cJ 37 l) 4=rB (cJ 37 l):=if_pos hE
 have hit:∃j,j≤4∧aZ l=aZ (aX (aZ l*((100:Int):Rat)) j++[37]):=by
  refine⟨_,hk,Tz (z:=bJ (dH (cJ 37 l)) (bX (wh (aI (cJ 37 l))++pl (aI (cJ 37 l))))) p0' p1' hk ?_⟩
  rw[e100,hV]
  exact Mn _ _
 have least:∀m:Nat,(∃j,j≤4∧j<m∧aZ l=aZ (aX (aZ l*((100:Int):Rat)) j++[37]))→∃j,j≤4∧aZ l=aZ (aX (aZ l*((100:Int):Rat)) j++[37])∧∀i,i<j→aZ l≠aZ (aX (aZ l*((100:Int):Rat)) i++[37]):=by
  intro m
  induction m with
  | zero=>rintro⟨j,_,h,_⟩;omega
  | succ m ih=>
   rintro⟨j,h1,h2,h3⟩
   by_cases h4:∃i,i≤4∧i<m∧aZ l=aZ (aX (aZ l*((100:Int):Rat)) i++[37])
   ·exact ih h4
   exact⟨j,h1,h3,fun i hi he=>h4 ⟨i,by omega,by omega,he⟩⟩
 obtain⟨j,j1,j2⟩:=hit
 obtain⟨j,j1,j2,j3⟩:=least (j+1) ⟨j,j1,by omega,j2⟩
 have e:=Ua p0' p1' j1 j2 j3
 refine⟨p0',p1',?_,?_⟩
 ·rw[←e];exact(Ie p0' p1' j1).1
 rw[←e];exact j2.symm
theorem Cf {p:Rat}{L:Nat}(hs:Sz L p) (hL:L+102≤10000):(fO p).length≤1000000:=by
 have h1:=qG (p:=p*((100:Int):Rat)) (j:=aD 4) (L:=L+2) (jC hs (bY (by omega) (by omega))) pJ (by omega)
 unfold fO
 split
 ·rw[List.length_append]
  have h2:=zJ (c:=46) (l:=iS p0 (aX (p*((100:Int):Rat)) (aD 4)))
  have h3:=By (p:=p0) (l:=aX (p*((100:Int):Rat)) (aD 4))
  show _+1≤_
  omega
 show 0≤_
 omega
theorem Uf {a:Fr4}{p:Rat}{j L:Nat}(hj:j≤40) (ha:Qn a p) (hs:Sz L p) (hL:L+100≤1000000):aE true Tryz.prog 16 [] [qF a,.one (tv (.int .i64 ((j:Nat):Int)))] (aM (.one (tv (.string (aC (aX p j)))))):=by
 have h:=wJ (n:=(j:Int)) ha hs hL
 rwa[show aD (j:Int)=j by unfold aD;omega]at h
theorem QN {l m:List Nat}(h:Lim 256 m) (e:l=m):(!((aC l).toList==(aC m).toList))=false:=by
 rw[e,Ad h]
 rfl
theorem LT {L:Nat}{d:Rat}(h:Sz L d):Sz L (eE d [-d]):=by
 unfold eE
 simp only[List.foldl_cons,List.foldl_nil]
 split
 ·exact pD h
 exact h
theorem LU {d:Rat}(h:Sz 3000 d):(∀x∈lO [-d],x.ok)∧(lO [-d]).length≤1099511627776:=by
 refine⟨Tj (L:=3000) (fun q hq=>?_) (by omega),by simp[lO]⟩
 rw[List.mem_singleton]at hq
 rw[hq]
 exact pD h
theorem LV {d:Rat}(h:Sz 3000 d):aE false Tryz.prog 25 [] [qF (.of d),.one (.t (sQ false (lO [-d])))] (aM (qF (.of (eE d [-d])))):=by
 obtain⟨h1,h2⟩:=LU h
 have h3:=PN (a:=.of d) (p:=d) (xs:=lO [-d]) (Qn.of (p:=d) (h.mono (M:=68719476736) (by omega))) h1 h2
 rwa[BK]at h3
theorem Ig {p:Rat}(h:0≤p):0≤p.num.sign:=Int.sign_nonneg_iff.2 (Rat.num_nonneg.2 h)
theorem Ih {p q:Rat}(h:p≤q):(p-q).num.sign≤0:=by
 rcases Int.lt_or_le 0 (p-q).num.sign with h1 | h1
 ·have:=Lp h1
  exact absurd h (Rat.not_le.2 this)
 exact h1
set_option maxHeartbeats 2000000 in
theorem Dr {a:Fr4}{m:Nat}{l:List Nat}(ha:LimF a) (hm:m<256) (hl:Lim 256 l):aE true Tryz.prog 5 [] [qF a,.one (tv (.int .u8 ((m:Nat):Int))),.one (tv (.string (aC l)))] (aM (.one (tv (.bool true)))):=by
 refine bD Tryz.func5 rfl Tryz.ntmps5 rfl aA rfl fun N9 w9 c0 h0=>?_
 refine sq ?_;refine rl ?_;refine bx 0 ?_;refine o1 ?_;refine nl ?_;refine sq ?_;refine sq ?_;refine rl ?_;refine o1 ?_;refine o1 ?_;refine ld ?_;(iterate 3 refine o1 ?_)
 refine WL.split (t:=29) rfl (fun h1=>?_) (fun h1=>?_)
 ·(iterate 5 refine cG ?_);refine o1 ?_;refine o1 ?_;(iterate 3 refine cG ?_);refine o1 ?_;refine nl ?_;refine fV rfl ?_;refine sq ?_;refine rl ?_
  refine ca (eH) oG rfl (.one (tv (.bool true))) ?_;refine o1 ?_;refine nl ?_;refine rt ?_;exact gJ (.inl rfl) rfl (rfl)
 refine o1 ?_;refine o1 ?_;refine ld ?_;(iterate 4 refine o1 ?_);refine WL.split (t:=36) rfl (fun h2=>?_) (fun h2=>?_)
 ·(iterate 3 refine cG ?_);refine o1 ?_;refine nl ?_;refine fV rfl ?_;refine sq ?_;refine rl ?_;refine ca (eH) oG rfl (.one (tv (.bool true))) ?_;refine o1 ?_;refine nl ?_
  refine rt ?_;exact gJ (.inl rfl) rfl (rfl)
 refine o1 ?_;refine o1 ?_;refine WL.cast (t:=38) (u':=.int .i64 ((l.length:Nat):Int)) rfl (congrArg (fun n:Nat=>Value.int .i64 (n:Int)) (aF _)) ?_
 refine o1 ?_;refine o1 ?_;refine nl ?_;refine bN rfl (fun h3=>?_) (fun h3=>?_)
 ·refine sq ?_;refine rl ?_;refine ca (eH) oG rfl (.one (tv (.bool true))) ?_;refine o1 ?_;refine nl ?_;refine rt ?_;exact gJ (.inl rfl) rfl (rfl)
 refine sk ?_;refine sq ?_;obtain⟨hq,hs⟩:=BV (L:=3) ha (by omega) (by omega) (by omega) (by omega)
 have hWl:(aX a.q (m%13)).length≤999999:=qG hs (by omega) (by omega)
 refine rl ?_;refine o1 ?_;refine o1 ?_;refine WL.cast (t:=43) (u':=.int .u8 ((m%13:Nat):Int)) rfl (aH (fF _ 13)) ?_;refine o1 ?_
 refine WL.cast (t:=44) (u':=.int .i64 ((m%13:Nat):Int)) rfl (aH (by omega)) ?_
 refine o1 ?_;refine nl ?_;refine sq ?_;refine rl ?_;refine ld ?_;refine o1 ?_
 refine ca (Uf (a:=a) (j:=(m%13)) (by omega) hq hs (by omega)) xZ ⟨aB rfl,a1 rfl,rfl⟩ (.one (tv (.string (aC (aX a.q (m%13)))))) ?_
 refine o1 ?_;refine nl ?_;refine sq ?_;refine rl ?_;refine o1 ?_
 refine ca (rK (l:=(aX a.q (m%13))) (kM _ _) (Nat.le_trans hWl (by omega))) Ub ⟨a1 rfl,rfl⟩ (.tup [qF (.of (cC (aX a.q (m%13)) (aX a.q (m%13)).length)),.one (tv (.int .i64 (dJ (aX a.q (m%13)) (aX a.q (m%13)).length)))]) ?_
 (iterate 3 refine o1 ?_);refine al 1 ?_;refine st ?_;refine o1 ?_;refine nl ?_;refine sq ?_;refine rl ?_;refine o1 ?_;refine nl ?_;refine sq ?_;refine sq ?_;refine rl ?_
 refine o1 ?_;refine nl ?_;refine bl ?_
 refine lp (γ:=Nat) (fun s=>cD [(2,.one (tv (.string (aC l)))),(3,.one (.pt 0 0)),(7,.one (tv (.int .i64 ((m%13:Nat):Int)))),(8,.one (tv (.string (aC (aX a.q (m%13)))))),(9,.one (.pt 1 0)),(10,.one (tv (.int .i64 (dJ (aX a.q (m%13)) (aX a.q (m%13)).length)))),(11,.one (tv (.int .i64 (((kN ((aX a.q (m%13)).take s)):Nat):Int)))),(12,.one (tv (.int .i64 ((s:Nat):Int))))]) (fun s=>[(⟨27,0,(a.tr false).map .t⟩:Ob),⟨27,0,((Fr4.of (cC (aX a.q (m%13)) (aX a.q (m%13)).length)).tr false).map .t⟩].map some) (fun s=>s≤(aX a.q (m%13)).length) (fun s=>(aX a.q (m%13)).length-s) 0 (Nat.zero_le _) (aO h0 [0,1] _ _ (by decide) ⟨rfl,rfl,rfl,rfl,rfl,rfl,kC rfl,rfl,trivial⟩ ⟨oe rfl rfl,oe rfl rfl,rfl⟩) ?_
 rintro k hk;have hcl:=QM (l:=(aX a.q (m%13))) (k:=k)
 refine sq ?_;refine sq ?_;refine rl ?_;(iterate 3 refine o1 ?_)
 refine WL.cast (t:=55) (u':=.int .i64 (((aX a.q (m%13)).length:Nat):Int)) rfl (congrArg (fun n:Nat=>Value.int .i64 (n:Int)) (aF _)) ?_
 refine o1 ?_;refine nl ?_;refine bN rfl (fun h4=>?_) (fun h4=>?_)
 ·refine sk ?_;refine sq ?_;refine bl ?_;refine sq ?_;refine rl ?_;refine o1 ?_;refine o1 ?_;refine o1 ?_ (hC:=(by rw[aF];omega))
  refine WL.cast (t:=61) (u':=.int .u8 (((nth (aX a.q (m%13)) (k)):Nat):Int)) rfl (congrArg (fun n:Nat=>Value.int .u8 (n:Int)) (eI (i:=k) (by omega) (dT (kM _ _) (by omega)))) ?_
  refine o1 ?_;refine o1 ?_;refine WL.split (t:=63) rfl (fun h5=>?_) (fun h5=>?_)
  ·refine o1 ?_;refine o1 ?_;refine o1 ?_ (hC:=(by rw[aF];omega))
   refine WL.cast (t:=66) (u':=.int .u8 (((nth (aX a.q (m%13)) (k)):Nat):Int)) rfl (congrArg (fun n:Nat=>Value.int .u8 (n:Int)) (eI (i:=k) (by omega) (dT (kM _ _) (by omega)))) ?_
   refine o1 ?_;refine o1 ?_;refine nl ?_;refine bN rfl (fun h6=>?_) (fun h6=>?_)
   ·refine rl ?_;refine o1 ?_;refine o1 ?_;refine WL.cast (t:=70) (u':=.int .i64 (((kN ((aX a.q (m%13)).take k))+1:Nat):Int)) rfl (aH (by omega)) ?_
    refine o1 ?_;refine nl ?_;refine rl ?_;refine o1 ?_;refine o1 ?_;refine WL.cast (t:=58) (u':=.int .i64 ((k+1:Nat):Int)) rfl (aH (by omega)) ?_
    refine o1 ?_;refine nl ?_;have hcs:=Yo (l:=(aX a.q (m%13))) (k:=k) (by omega)
    rw[if_pos (show eW (nth (aX a.q (m%13)) k)=true from decide_eq_true ⟨by omega,by omega⟩)]at hcs
    exact⟨k+1,by omega,by omega,aO h0 [0,1] _ _ (by decide) ⟨rfl,rfl,rfl,rfl,rfl,rfl,kC (by omega),rfl,trivial⟩ ⟨oe rfl rfl,oe rfl rfl,rfl⟩⟩
   refine sk ?_;refine rl ?_;refine o1 ?_;refine o1 ?_;refine WL.cast (t:=58) (u':=.int .i64 ((k+1:Nat):Int)) rfl (aH (by omega)) ?_
   refine o1 ?_;refine nl ?_;have hcs:=Yo (l:=(aX a.q (m%13))) (k:=k) (by omega)
   rw[if_neg (fun h9=>absurd (uL h9) (by omega))]at hcs
   exact⟨k+1,by omega,by omega,aO h0 [0,1] _ _ (by decide) ⟨rfl,rfl,rfl,rfl,rfl,rfl,kC (by omega),rfl,trivial⟩ ⟨oe rfl rfl,oe rfl rfl,rfl⟩⟩
  (iterate 4 refine cG ?_);refine o1 ?_;refine nl ?_;refine fD rfl ?_;refine sk ?_;refine rl ?_;refine o1 ?_;refine o1 ?_
  refine WL.cast (t:=58) (u':=.int .i64 ((k+1:Nat):Int)) rfl (aH (by omega)) ?_
  refine o1 ?_;refine nl ?_;have hcs:=Yo (l:=(aX a.q (m%13))) (k:=k) (by omega)
  rw[if_neg (fun h9=>absurd (uL h9) (by omega))]at hcs
  exact⟨k+1,by omega,by omega,aO h0 [0,1] _ _ (by decide) ⟨rfl,rfl,rfl,rfl,rfl,rfl,kC (by omega),rfl,trivial⟩ ⟨oe rfl rfl,oe rfl rfl,rfl⟩⟩
 refine ex ?_;refine sq ?_;refine sq ?_;have htk:(aX a.q (m%13)).take k=(aX a.q (m%13)):=List.take_of_length_le (by omega)
 have hct:kN ((aX a.q (m%13)).take k)=kN (aX a.q (m%13)):=by rw[htk]
 refine rl ?_;refine o1 ?_;refine o1 ?_;refine nl ?_;refine bN rfl (fun h7=>?_) (fun h7=>?_)
 ·refine sq ?_;have he3:=Ud (q:=a.q) (n:=(m%13)) (by omega)
  refine rl ?_;(iterate 3 refine o1 ?_);refine WL.split (t:=75) rfl (fun h8=>?_) (fun h8=>?_)
  ·refine ca (eH) oG rfl (.one (tv (.bool true))) ?_;refine o1 ?_;refine o1 ?_;refine nl ?_;refine rt ?_;exact gJ (.inl rfl) rfl (rfl)
  exact absurd he3 h8
 refine sk ?_;refine sq ?_;obtain⟨he0,hqY⟩:=LP (q:=a.q) (n:=(m%13)) (by omega)
 have hY:Sz 2000 (Rat.divInt (hal (a.q*((10^(m%13):Nat):Rat))) ((10^(m%13):Nat):Int)):=by rw[←hqY];exact(lS _ _).mono (by omega)
 have hDX:Sz 3000 (a.q-(Rat.divInt (hal (a.q*((10^(m%13):Nat):Rat))) ((10^(m%13):Nat):Int))):=(Tv hs hY).mono (by omega)
 have hMX:Sz 3000 (eE (a.q-(Rat.divInt (hal (a.q*((10^(m%13):Nat):Rat))) ((10^(m%13):Nat):Int))) [-(a.q-(Rat.divInt (hal (a.q*((10^(m%13):Nat):Rat))) ((10^(m%13):Nat):Int)))]):=LT hDX
 refine rl ?_;refine ca (cY (z:=1) (by omega) (by omega)) fY ⟨a1 rfl,rfl⟩ (qF (.of ((1:Int):Rat))) ?_
 refine al 2 ?_;refine st ?_;refine nl ?_;refine sq ?_;refine sq ?_;refine rl ?_;refine o1 ?_;refine nl ?_;refine bl ?_
 refine lp (γ:=Nat) (fun s=>cD [(2,.one (tv (.string (aC l)))),(3,.one (.pt 0 0)),(7,.one (tv (.int .i64 ((m%13:Nat):Int)))),(8,.one (tv (.string (aC (aX a.q (m%13)))))),(9,.one (.pt 1 0)),(10,.one (tv (.int .i64 (dJ (aX a.q (m%13)) (aX a.q (m%13)).length)))),(13,.one (.pt 2 0)),(14,.one (tv (.int .i64 ((s:Nat):Int))))]) (fun s=>[(⟨27,0,(a.tr false).map .t⟩:Ob),⟨27,0,((Fr4.of (cC (aX a.q (m%13)) (aX a.q (m%13)).length)).tr false).map .t⟩,⟨27,0,((Fr4.of (fZ s)).tr false).map .t⟩].map some) (fun s=>s≤(m%13)) (fun s=>(m%13)-s) 0 (Nat.zero_le _) (aO h0 [0,1,2] _ _ (by decide) ⟨rfl,rfl,rfl,rfl,rfl,rfl,rfl,rfl,trivial⟩ ⟨oe rfl rfl,oe rfl rfl,cM (congrArg (fun q=>some (⟨27,0,((Fr4.of q).tr false).map .t⟩:Ob)) LQ),rfl⟩) ?_
 rintro k hk;refine sq ?_;refine sq ?_;refine rl ?_;(iterate 3 refine o1 ?_);refine nl ?_;refine bN rfl (fun h9=>?_) (fun h9=>?_)
 ·refine sk ?_;refine sq ?_;refine bl ?_;refine rd [0,1] (fun i=>[].contains i) mixed ?_
  refine WO.two (i:=0) (j:=1) (by kernel_rfl) ?_ ?_
  ·refine eN 0 ?_;refine aG 1 rfl (cY (z:=10) (by omega) (by omega)) fY ⟨a1 rfl,rfl⟩ (qF (.of ((10:Int):Rat))) ?_
   refine aG 2 rfl (Fk (Qn.of (p:=fZ k) ((Ce k).mono (M:=68719476736) (by omega))) (Qn.of (p:=((10:Int):Rat)) ((bY (by omega) (by omega)).mono (M:=68719476736) (by omega)))) Pu ⟨aB rfl,aB rfl,rfl⟩ (.tup [qF (.of (fZ k/((10:Int):Rat))),.one (tv (.int .i64 (if((10:Int):Rat)=0 then 20 else 0)))]) ?_
   refine df 3 ?_;refine df 4 ?_;refine df 5 ?_;refine aT 6 (by kernel_rfl) rfl rfl aA rfl rfl rfl rfl ⟨rfl,rfl,trivial⟩ ?_
   refine aS ?_;refine rl ?_;refine o1 ?_;refine o1 ?_;refine WL.cast (t:=83) (u':=.int .i64 ((k+1:Nat):Int)) rfl (aH (by omega)) ?_
   refine o1 ?_;refine nl ?_
   exact⟨k+1,by omega,by omega,aO h0 [0,1,2] _ _ (by decide) ⟨rfl,rfl,rfl,rfl,rfl,rfl,rfl,rfl,trivial⟩ ⟨oe rfl rfl,oe rfl rfl,cM (congrArg (fun q=>some (⟨27,0,((Fr4.of q).tr false).map .t⟩:Ob)) (Ue k)),rfl⟩⟩
  refine cZ 1 rfl (cY (z:=10) (by omega) (by omega)) fY ⟨a1 rfl,rfl⟩ (qF (.of ((10:Int):Rat))) ?_
  refine WO.one (by kernel_rfl) (eN 0 ?_)
  refine aG 2 rfl (Fk (Qn.of (p:=fZ k) ((Ce k).mono (M:=68719476736) (by omega))) (Qn.of (p:=((10:Int):Rat)) ((bY (by omega) (by omega)).mono (M:=68719476736) (by omega)))) Pu ⟨aB rfl,aB rfl,rfl⟩ (.tup [qF (.of (fZ k/((10:Int):Rat))),.one (tv (.int .i64 (if((10:Int):Rat)=0 then 20 else 0)))]) ?_
  refine df 3 ?_;refine df 4 ?_;refine df 5 ?_;refine aT 6 (by kernel_rfl) rfl rfl aA rfl rfl rfl rfl ⟨rfl,rfl,trivial⟩ ?_
  refine aS ?_;refine rl ?_;refine o1 ?_;refine o1 ?_;refine WL.cast (t:=83) (u':=.int .i64 ((k+1:Nat):Int)) rfl (aH (by omega)) ?_
  refine o1 ?_;refine nl ?_
  exact⟨k+1,by omega,by omega,aO h0 [0,1,2] _ _ (by decide) ⟨rfl,rfl,rfl,rfl,rfl,rfl,rfl,rfl,trivial⟩ ⟨oe rfl rfl,oe rfl rfl,cM (congrArg (fun q=>some (⟨27,0,((Fr4.of q).tr false).map .t⟩:Ob)) (Ue k)),rfl⟩⟩
 refine ex ?_;refine sq ?_;have hk9:k=(m%13):=by omega
 refine WP.sub (aO h0 [0,1,2] [(2,.one (tv (.string (aC l)))),(3,.one (.pt 0 0)),(7,.one (tv (.int .i64 ((m%13:Nat):Int)))),(8,.one (tv (.string (aC (aX a.q (m%13)))))),(9,.one (.pt 1 0)),(10,.one (tv (.int .i64 ((0:Nat):Int)))),(13,.one (.pt 2 0))] [(⟨27,0,(a.tr false).map .t⟩:Ob),(⟨27,0,((Fr4.of (Rat.divInt (hal (a.q*((10^(m%13):Nat):Rat))) ((10^(m%13):Nat):Int))).tr false).map .t⟩:Ob),(⟨27,0,((Fr4.of (fZ (m%13))).tr false).map .t⟩:Ob)] (by decide) ⟨rfl,rfl,rfl,rfl,rfl,kC he0.symm,rfl,trivial⟩ ⟨oe rfl rfl,cM (congrArg (fun q=>some (⟨27,0,((Fr4.of q).tr false).map .t⟩:Ob)) hqY),cM (congrArg (fun q=>some (⟨27,0,((Fr4.of q).tr false).map .t⟩:Ob)) (congrArg fZ hk9)),rfl⟩) ?_
 refine rl ?_;refine ld ?_;refine ld ?_
 refine ca (PK hq (Qn.of (p:=(Rat.divInt (hal (a.q*((10^(m%13):Nat):Rat))) ((10^(m%13):Nat):Int))) (hY.mono (M:=68719476736) (by omega)))) UU ⟨aB rfl,aB rfl,rfl⟩ (qF (.of (a.q-(Rat.divInt (hal (a.q*((10^(m%13):Nat):Rat))) ((10^(m%13):Nat):Int))))) ?_
 refine al 3 ?_;refine st ?_;refine nl ?_;refine sq ?_;refine rd [0,1,2,3] (fun i=>[5].contains i) mixed ?_
 refine aU 0 ?_;refine aU 1 ?_
 refine aG 2 rfl (PL (Qn.of (p:=(a.q-(Rat.divInt (hal (a.q*((10^(m%13):Nat):Rat))) ((10^(m%13):Nat):Int)))) (hDX.mono (M:=68719476736) (by omega)))) JK ⟨aB rfl,rfl⟩ (qF (.of (-(a.q-(Rat.divInt (hal (a.q*((10^(m%13):Nat):Rat))) ((10^(m%13):Nat):Int)))))) ?_
 refine Hu (key:=4) 3 (by kernel_rfl) rfl rfl aA rfl ⟨rfl,rfl,rfl,rfl,trivial⟩ ?_
 refine KS (i:=96) (k:=4) (t:=27) (t':=33) (z:=4) (n:=1) (l:=(lO [-(a.q-(Rat.divInt (hal (a.q*((10^(m%13):Nat):Rat))) ((10^(m%13):Nat):Int)))]).flatMap (Fr4.tr false)) rfl rfl rfl rfl (.one .sl) (by rfl) (by rfl) ?_
 refine aG 4 rfl (LV hDX) UV ⟨aB rfl,a1 rfl,rfl⟩ (qF (.of (eE (a.q-(Rat.divInt (hal (a.q*((10^(m%13):Nat):Rat))) ((10^(m%13):Nat):Int))) [-(a.q-(Rat.divInt (hal (a.q*((10^(m%13):Nat):Rat))) ((10^(m%13):Nat):Int)))]))) ?_
 refine dst 5 ?_;refine aS ?_;refine sq ?_;refine sq ?_;refine rd [0,1,2,3] (fun i=>[].contains i) mixed ?_
 refine dv 0 ?_;refine dv 1 ?_;refine dv 2 ?_;refine WD.split (t:=100) rfl rfl (fun h10=>?_) (fun h10=>?_)
 ·exact absurd rfl h10
 refine aU 3 ?_;refine aU 4 ?_;refine aU 6 ?_
 refine aG 5 rfl (PJ (Qn.of (p:=(eE (a.q-(Rat.divInt (hal (a.q*((10^(m%13):Nat):Rat))) ((10^(m%13):Nat):Int))) [-(a.q-(Rat.divInt (hal (a.q*((10^(m%13):Nat):Rat))) ((10^(m%13):Nat):Int)))])) (hMX.mono (M:=68719476736) (by omega))) (Qn.of (p:=(eE (a.q-(Rat.divInt (hal (a.q*((10^(m%13):Nat):Rat))) ((10^(m%13):Nat):Int))) [-(a.q-(Rat.divInt (hal (a.q*((10^(m%13):Nat):Rat))) ((10^(m%13):Nat):Int)))])) (hMX.mono (M:=68719476736) (by omega)))) UW ⟨aB rfl,aB rfl,rfl⟩ (qF (.of ((eE (a.q-(Rat.divInt (hal (a.q*((10^(m%13):Nat):Rat))) ((10^(m%13):Nat):Int))) [-(a.q-(Rat.divInt (hal (a.q*((10^(m%13):Nat):Rat))) ((10^(m%13):Nat):Int)))])+(eE (a.q-(Rat.divInt (hal (a.q*((10^(m%13):Nat):Rat))) ((10^(m%13):Nat):Int))) [-(a.q-(Rat.divInt (hal (a.q*((10^(m%13):Nat):Rat))) ((10^(m%13):Nat):Int)))])))) ?_
 refine aG 7 rfl (lP (Qn.of (p:=((eE (a.q-(Rat.divInt (hal (a.q*((10^(m%13):Nat):Rat))) ((10^(m%13):Nat):Int))) [-(a.q-(Rat.divInt (hal (a.q*((10^(m%13):Nat):Rat))) ((10^(m%13):Nat):Int)))])+(eE (a.q-(Rat.divInt (hal (a.q*((10^(m%13):Nat):Rat))) ((10^(m%13):Nat):Int))) [-(a.q-(Rat.divInt (hal (a.q*((10^(m%13):Nat):Rat))) ((10^(m%13):Nat):Int)))]))) ((Hl hMX hMX).mono (M:=68719476736) (by omega))) (Qn.of (p:=(fZ (m%13))) ((Ce _).mono (M:=68719476736) (by omega)))) lQ ⟨aB rfl,aB rfl,rfl⟩ (.one (tv (.int .i64 (((eE (a.q-(Rat.divInt (hal (a.q*((10^(m%13):Nat):Rat))) ((10^(m%13):Nat):Int))) [-(a.q-(Rat.divInt (hal (a.q*((10^(m%13):Nat):Rat))) ((10^(m%13):Nat):Int)))])+(eE (a.q-(Rat.divInt (hal (a.q*((10^(m%13):Nat):Rat))) ((10^(m%13):Nat):Int))) [-(a.q-(Rat.divInt (hal (a.q*((10^(m%13):Nat):Rat))) ((10^(m%13):Nat):Int)))]))-(fZ (m%13))).num.sign))) ?_
 refine df 8 ?_;refine df 9 ?_;refine df 10 ?_;refine WD.split (t:=108) rfl rfl (fun h11=>?_) (fun h11=>?_)
 ·exact absurd h11 LR
 refine aU 11 ?_;refine dv 12 ?_;refine dv 14 ?_
 refine aG 13 rfl (Uf (a:=.of (Rat.divInt (hal (a.q*((10^(m%13):Nat):Rat))) ((10^(m%13):Nat):Int))) (j:=(m%13)) (by omega) (Qn.of (p:=(Rat.divInt (hal (a.q*((10^(m%13):Nat):Rat))) ((10^(m%13):Nat):Int))) (hY.mono (M:=68719476736) (by omega))) hY (by omega)) xZ ⟨aB rfl,a1 rfl,rfl⟩ (.one (tv (.string (aC (aX (Rat.divInt (hal (a.q*((10^(m%13):Nat):Rat))) ((10^(m%13):Nat):Int)) (m%13)))))) ?_
 refine df 15 ?_;refine WD.cast (t:=113) (u':=.bool false) rfl (congrArg Value.bool (QN (kM _ _) LS)) ?_;refine df 16 ?_;refine aS ?_;refine fD rfl ?_
 refine sk ?_;refine sq ?_;refine rl ?_;refine o1 ?_
 refine ca (rK (l:=l) hl (by omega)) Ub ⟨a1 rfl,rfl⟩ (.tup [qF (.of (cC l l.length)),.one (tv (.int .i64 (dJ l l.length)))]) ?_
 (iterate 3 refine o1 ?_);refine al 5 ?_;refine st ?_;refine o1 ?_;refine nl ?_;refine sq ?_;refine rl ?_;refine ld ?_
 refine ca (wJ (n:=40) (Qn.of (p:=(cC l l.length)) ((lS l _).mono (M:=68719476736) (by omega))) (lS l _) (by omega)) xZ ⟨aB rfl,a1 rfl,rfl⟩ (.one (tv (.string (aC (aX (cC l l.length) (aD 40)))))) ?_
 refine ca (rK (l:=(aX (cC l l.length) (aD 40))) (kM _ _) (Nat.le_trans (qG (lS l _) pJ (by omega)) (by omega))) Ub ⟨a1 rfl,rfl⟩ (.tup [qF (.of (cC (aX (cC l l.length) (aD 40)) (aX (cC l l.length) (aD 40)).length)),.one (tv (.int .i64 (dJ (aX (cC l l.length) (aD 40)) (aX (cC l l.length) (aD 40)).length)))]) ?_
 (iterate 3 refine o1 ?_);refine al 6 ?_;refine st ?_;refine o1 ?_;refine nl ?_;refine sq ?_;refine sq ?_;refine rl ?_;(iterate 3 refine o1 ?_)
 refine WL.split (t:=128) rfl (fun h12=>?_) (fun h12=>?_)
 ·(iterate 3 refine o1 ?_);refine WL.split (t:=131) rfl (fun h13=>?_) (fun h13=>?_)
  ·exact absurd ((BX _).symm.trans h13) (by decide)
  (iterate 4 refine cG ?_);(iterate 5 refine o1 ?_);refine WL.split (t:=140) rfl (fun h14=>?_) (fun h14=>?_)
  ·(iterate 5 refine o1 ?_);refine nl ?_;refine bN rfl (fun h15=>?_) (fun h15=>?_)
   ·exact absurd (BX _) h15
   refine sk ?_;refine sq ?_;refine rl ?_;refine o1 ?_
   refine ca (iF (l:=l) hl (by omega)) pL ⟨a1 rfl,rfl⟩ (.tup [qF (.of (aZ l)),.one (tv (.int .i64 (dQ l)))]) ?_
   (iterate 3 refine o1 ?_);refine al 7 ?_;refine st ?_;refine o1 ?_;refine nl ?_;refine sq ?_;refine rl ?_;refine ld ?_
   refine ca (jV (Qn.of (p:=aZ l) ((dI l).mono (M:=68719476736) (by omega))) (dI l) (by omega)) Cd ⟨aB rfl,rfl⟩ (.one (tv (.string (aC (fO (aZ l)))))) ?_
   refine ca (iF (l:=(fO (aZ l))) (wL _) (Cf (dI l) (by omega))) pL ⟨a1 rfl,rfl⟩ (.tup [qF (.of (aZ (fO (aZ l)))),.one (tv (.int .i64 (dQ (fO (aZ l)))))]) ?_
   (iterate 3 refine o1 ?_);refine al 8 ?_;refine st ?_;refine o1 ?_;refine nl ?_;refine sq ?_;refine rd [0,1,2,3,5,6,7,8] (fun i=>[26].contains i) mixed ?_
   refine dv 0 ?_;refine dv 1 ?_;refine dv 2 ?_;refine WD.split (t:=159) rfl rfl (fun h16=>?_) (fun h16=>?_)
   ·refine bR 3 ?_;refine bR 4 ?_;refine bR 5 ?_;refine bR 6 ?_;refine bR 7 ?_;refine bR 8 ?_;refine bR 9 ?_;refine bR 10 ?_;refine bR 11 ?_;refine bR 12 ?_
    refine bR 13 ?_;refine bR 14 ?_;refine bR 15 ?_;refine bR 16 ?_;refine bR 17 ?_;refine bR 18 ?_;refine bR 19 ?_;refine bR 20 ?_;refine bR 21 ?_
    refine dv 22 ?_;refine dv 23 ?_;refine aG 24 rfl (eH) oG rfl (.one (tv (.bool true))) ?_;refine df 25 ?_
    refine cV 26 (by kernel_rfl) rfl rfl aA rfl (by trivial) ?_ (fun h=>by first | rfl | cases h)
    refine aS ?_;refine rt ?_;exact gJ (.inl rfl) rfl (rfl)
   obtain⟨hp0,hp1,hp2,hp3⟩:=tE (l:=l) (Decidable.byContradiction h16)
   refine dv 3 ?_;refine dv 4 ?_;refine dv 5 ?_;refine WD.split (t:=162) rfl rfl (fun h17=>?_) (fun h17=>?_)
   ·refine aU 6 ?_;refine aU 7 ?_
    refine aG 8 rfl (lP (Qn.of (p:=(aZ l)) ((dI _).mono (M:=68719476736) (by omega))) (Qn.of (p:=(aZ (fO (aZ l)))) ((dI _).mono (M:=68719476736) (by omega)))) lQ ⟨aB rfl,aB rfl,rfl⟩ (.one (tv (.int .i64 ((aZ l)-(aZ (fO (aZ l)))).num.sign))) ?_
    refine df 9 ?_;refine df 10 ?_;refine df 11 ?_;refine WD.split (t:=168) rfl rfl (fun h18=>?_) (fun h18=>?_)
    ·refine aU 12 ?_
     refine aG 13 rfl (rJ (Qn.of (p:=(aZ l)) ((dI _).mono (M:=68719476736) (by omega)))) Bx ⟨aB rfl,rfl⟩ (.one (tv (.int .i64 (aZ l).num.sign))) ?_
     refine df 14 ?_;refine df 15 ?_;refine df 16 ?_;refine WD.split (t:=173) rfl rfl (fun h19=>?_) (fun h19=>?_)
     ·refine aU 17 ?_;refine aG 18 rfl (cY (z:=1) (by omega) (by omega)) fY ⟨a1 rfl,rfl⟩ (qF (.of ((1:Int):Rat))) ?_
      refine aG 19 rfl (lP (Qn.of (p:=(aZ l)) ((dI _).mono (M:=68719476736) (by omega))) (Qn.of (p:=((1:Int):Rat)) ((bY (by omega) (by omega)).mono (M:=68719476736) (by omega)))) lQ ⟨aB rfl,aB rfl,rfl⟩ (.one (tv (.int .i64 ((aZ l)-((1:Int):Rat)).num.sign))) ?_
      refine df 20 ?_;refine df 21 ?_;refine df 22 ?_;refine df 23 ?_;refine WD.split (t:=180) rfl rfl (fun h20=>?_) (fun h20=>?_)
      ·refine aG 24 rfl (eH) oG rfl (.one (tv (.bool true))) ?_;refine df 25 ?_
       refine cV 26 (by kernel_rfl) rfl rfl aA rfl (by trivial) ?_ (fun h=>by first | rfl | cases h)
       refine aS ?_;refine rt ?_;exact gJ (.inl rfl) rfl (rfl)
      exact absurd (Ih hp1) h20
     exact absurd (Ig hp0) h19
    exact absurd (by rw[hp3,Rat.sub_self];rfl) h18
   exact absurd hp2 h17
  refine cG ?_;refine cG ?_;(iterate 3 refine o1 ?_);refine nl ?_;refine fD rfl ?_;refine sk ?_;refine sq ?_;refine rl ?_;refine o1 ?_
  refine ca (iF (l:=l) hl (by omega)) pL ⟨a1 rfl,rfl⟩ (.tup [qF (.of (aZ l)),.one (tv (.int .i64 (dQ l)))]) ?_
  (iterate 3 refine o1 ?_);refine al 7 ?_;refine st ?_;refine o1 ?_;refine nl ?_;refine sq ?_;refine rl ?_;refine ld ?_
  refine ca (jV (Qn.of (p:=aZ l) ((dI l).mono (M:=68719476736) (by omega))) (dI l) (by omega)) Cd ⟨aB rfl,rfl⟩ (.one (tv (.string (aC (fO (aZ l)))))) ?_
  refine ca (iF (l:=(fO (aZ l))) (wL _) (Cf (dI l) (by omega))) pL ⟨a1 rfl,rfl⟩ (.tup [qF (.of (aZ (fO (aZ l)))),.one (tv (.int .i64 (dQ (fO (aZ l)))))]) ?_
  (iterate 3 refine o1 ?_);refine al 8 ?_;refine st ?_;refine o1 ?_;refine nl ?_;refine sq ?_;refine rd [0,1,2,3,5,6,7,8] (fun i=>[26].contains i) mixed ?_
  refine dv 0 ?_;refine dv 1 ?_;refine dv 2 ?_;refine WD.split (t:=159) rfl rfl (fun h21=>?_) (fun h21=>?_)
  ·refine bR 3 ?_;refine bR 4 ?_;refine bR 5 ?_;refine bR 6 ?_;refine bR 7 ?_;refine bR 8 ?_;refine bR 9 ?_;refine bR 10 ?_;refine bR 11 ?_;refine bR 12 ?_
   refine bR 13 ?_;refine bR 14 ?_;refine bR 15 ?_;refine bR 16 ?_;refine bR 17 ?_;refine bR 18 ?_;refine bR 19 ?_;refine bR 20 ?_;refine bR 21 ?_
   refine dv 22 ?_;refine dv 23 ?_;refine aG 24 rfl (eH) oG rfl (.one (tv (.bool true))) ?_;refine df 25 ?_
   refine cV 26 (by kernel_rfl) rfl rfl aA rfl (by trivial) ?_ (fun h=>by first | rfl | cases h)
   refine aS ?_;refine rt ?_;exact gJ (.inl rfl) rfl (rfl)
  obtain⟨hp0,hp1,hp2,hp3⟩:=tE (l:=l) (Decidable.byContradiction h21)
  refine dv 3 ?_;refine dv 4 ?_;refine dv 5 ?_;refine WD.split (t:=162) rfl rfl (fun h22=>?_) (fun h22=>?_)
  ·refine aU 6 ?_;refine aU 7 ?_
   refine aG 8 rfl (lP (Qn.of (p:=(aZ l)) ((dI _).mono (M:=68719476736) (by omega))) (Qn.of (p:=(aZ (fO (aZ l)))) ((dI _).mono (M:=68719476736) (by omega)))) lQ ⟨aB rfl,aB rfl,rfl⟩ (.one (tv (.int .i64 ((aZ l)-(aZ (fO (aZ l)))).num.sign))) ?_
   refine df 9 ?_;refine df 10 ?_;refine df 11 ?_;refine WD.split (t:=168) rfl rfl (fun h23=>?_) (fun h23=>?_)
   ·refine aU 12 ?_
    refine aG 13 rfl (rJ (Qn.of (p:=(aZ l)) ((dI _).mono (M:=68719476736) (by omega)))) Bx ⟨aB rfl,rfl⟩ (.one (tv (.int .i64 (aZ l).num.sign))) ?_
    refine df 14 ?_;refine df 15 ?_;refine df 16 ?_;refine WD.split (t:=173) rfl rfl (fun h24=>?_) (fun h24=>?_)
    ·refine aU 17 ?_;refine aG 18 rfl (cY (z:=1) (by omega) (by omega)) fY ⟨a1 rfl,rfl⟩ (qF (.of ((1:Int):Rat))) ?_
     refine aG 19 rfl (lP (Qn.of (p:=(aZ l)) ((dI _).mono (M:=68719476736) (by omega))) (Qn.of (p:=((1:Int):Rat)) ((bY (by omega) (by omega)).mono (M:=68719476736) (by omega)))) lQ ⟨aB rfl,aB rfl,rfl⟩ (.one (tv (.int .i64 ((aZ l)-((1:Int):Rat)).num.sign))) ?_
     refine df 20 ?_;refine df 21 ?_;refine df 22 ?_;refine df 23 ?_;refine WD.split (t:=180) rfl rfl (fun h25=>?_) (fun h25=>?_)
     ·refine aG 24 rfl (eH) oG rfl (.one (tv (.bool true))) ?_;refine df 25 ?_
      refine cV 26 (by kernel_rfl) rfl rfl aA rfl (by trivial) ?_ (fun h=>by first | rfl | cases h)
      refine aS ?_;refine rt ?_;exact gJ (.inl rfl) rfl (rfl)
     exact absurd (Ih hp1) h25
    exact absurd (Ig hp0) h24
   exact absurd (by rw[hp3,Rat.sub_self];rfl) h23
  exact absurd hp2 h22
 (iterate 16 refine cG ?_);refine o1 ?_;refine nl ?_;refine fD rfl ?_;refine sk ?_;refine sq ?_;refine rl ?_;refine o1 ?_
 refine ca (iF (l:=l) hl (by omega)) pL ⟨a1 rfl,rfl⟩ (.tup [qF (.of (aZ l)),.one (tv (.int .i64 (dQ l)))]) ?_
 (iterate 3 refine o1 ?_);refine al 7 ?_;refine st ?_;refine o1 ?_;refine nl ?_;refine sq ?_;refine rl ?_;refine ld ?_
 refine ca (jV (Qn.of (p:=aZ l) ((dI l).mono (M:=68719476736) (by omega))) (dI l) (by omega)) Cd ⟨aB rfl,rfl⟩ (.one (tv (.string (aC (fO (aZ l)))))) ?_
 refine ca (iF (l:=(fO (aZ l))) (wL _) (Cf (dI l) (by omega))) pL ⟨a1 rfl,rfl⟩ (.tup [qF (.of (aZ (fO (aZ l)))),.one (tv (.int .i64 (dQ (fO (aZ l)))))]) ?_
 (iterate 3 refine o1 ?_);refine al 8 ?_;refine st ?_;refine o1 ?_;refine nl ?_;refine sq ?_;refine rd [0,1,2,3,5,6,7,8] (fun i=>[26].contains i) mixed ?_
 refine dv 0 ?_;refine dv 1 ?_;refine dv 2 ?_;refine WD.split (t:=159) rfl rfl (fun h26=>?_) (fun h26=>?_)
 ·refine bR 3 ?_;refine bR 4 ?_;refine bR 5 ?_;refine bR 6 ?_;refine bR 7 ?_;refine bR 8 ?_;refine bR 9 ?_;refine bR 10 ?_;refine bR 11 ?_;refine bR 12 ?_
  refine bR 13 ?_;refine bR 14 ?_;refine bR 15 ?_;refine bR 16 ?_;refine bR 17 ?_;refine bR 18 ?_;refine bR 19 ?_;refine bR 20 ?_;refine bR 21 ?_;refine dv 22 ?_
  refine dv 23 ?_;refine aG 24 rfl (eH) oG rfl (.one (tv (.bool true))) ?_;refine df 25 ?_
  refine cV 26 (by kernel_rfl) rfl rfl aA rfl (by trivial) ?_ (fun h=>by first | rfl | cases h)
  refine aS ?_;refine rt ?_;exact gJ (.inl rfl) rfl (rfl)
 obtain⟨hp0,hp1,hp2,hp3⟩:=tE (l:=l) (Decidable.byContradiction h26)
 refine dv 3 ?_;refine dv 4 ?_;refine dv 5 ?_;refine WD.split (t:=162) rfl rfl (fun h27=>?_) (fun h27=>?_)
 ·refine aU 6 ?_;refine aU 7 ?_
  refine aG 8 rfl (lP (Qn.of (p:=(aZ l)) ((dI _).mono (M:=68719476736) (by omega))) (Qn.of (p:=(aZ (fO (aZ l)))) ((dI _).mono (M:=68719476736) (by omega)))) lQ ⟨aB rfl,aB rfl,rfl⟩ (.one (tv (.int .i64 ((aZ l)-(aZ (fO (aZ l)))).num.sign))) ?_
  refine df 9 ?_;refine df 10 ?_;refine df 11 ?_;refine WD.split (t:=168) rfl rfl (fun h28=>?_) (fun h28=>?_)
  ·refine aU 12 ?_
   refine aG 13 rfl (rJ (Qn.of (p:=(aZ l)) ((dI _).mono (M:=68719476736) (by omega)))) Bx ⟨aB rfl,rfl⟩ (.one (tv (.int .i64 (aZ l).num.sign))) ?_
   refine df 14 ?_;refine df 15 ?_;refine df 16 ?_;refine WD.split (t:=173) rfl rfl (fun h29=>?_) (fun h29=>?_)
   ·refine aU 17 ?_;refine aG 18 rfl (cY (z:=1) (by omega) (by omega)) fY ⟨a1 rfl,rfl⟩ (qF (.of ((1:Int):Rat))) ?_
    refine aG 19 rfl (lP (Qn.of (p:=(aZ l)) ((dI _).mono (M:=68719476736) (by omega))) (Qn.of (p:=((1:Int):Rat)) ((bY (by omega) (by omega)).mono (M:=68719476736) (by omega)))) lQ ⟨aB rfl,aB rfl,rfl⟩ (.one (tv (.int .i64 ((aZ l)-((1:Int):Rat)).num.sign))) ?_
    refine df 20 ?_;refine df 21 ?_;refine df 22 ?_;refine df 23 ?_;refine WD.split (t:=180) rfl rfl (fun h30=>?_) (fun h30=>?_)
    ·refine aG 24 rfl (eH) oG rfl (.one (tv (.bool true))) ?_;refine df 25 ?_
     refine cV 26 (by kernel_rfl) rfl rfl aA rfl (by trivial) ?_ (fun h=>by first | rfl | cases h)
     refine aS ?_;refine rt ?_;exact gJ (.inl rfl) rfl (rfl)
    exact absurd (Ih hp1) h30
   exact absurd (Ig hp0) h29
  exact absurd (by rw[hp3,Rat.sub_self];rfl) h28
 exact absurd hp2 h27
end Go.Proofs.YtcaakamelngceaaGreatDoor
