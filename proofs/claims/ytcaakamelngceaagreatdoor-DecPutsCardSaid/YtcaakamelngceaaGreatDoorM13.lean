/- Part 13 of a proof: U6 to Rib6. -/
import Derived.Test.YtcaakamelngceaaGreatDoorM12
import Derived.Test.YtcaakamelngceaaGreatDoorM5
import Derived.Test.YtcaakamelngceaaGreatDoorM7
import Derived.ProofKit
import Derived.ChangeOld
import Derived.Deep.Slices
import Derived.Deep.Strs
import Derived.Test.YtcaakamelngceaaGreatDoorM9
import Derived.WalkKit
import Derived.OpenShut
import Derived.Below
import Derived.Carry
set_option maxRecDepth 100000
set_option linter.unusedVariables false
set_option linter.unusedSimpArgs false
namespace Go.Proofs.YtcaakamelngceaaGreatDoor
open Go Go.RowKit
theorem IK (p q:Rat):decide ((p-q).num.sign=0)=decide (p=q):=by
 refine decide_eq_decide.2 ?_
 rw[Int.sign_eq_zero_iff_zero,Rat.num_eq_zero]
 constructor
 ·intro h
  grind
 intro h
 rw[h]
 grind
theorem CG {a b:Fr4}{p q:Rat}(ha:Qn a p) (hb:Qn b q) (hs:Sz 10000000 p) (ht:Sz 10000000 q):aE true Tryz.prog 59 [] [qF a,qF b] (aN (.one (tv (.bool (decide (p=q)))))):=by
 refine bF Tryz.func59 rfl Tryz.ntmps59 rfl aA rfl fun N w c0 h0=>?_
 refine sq ?_;refine rl ?_;refine bx 0 ?_;refine bx 1 ?_;refine o1 ?_;refine nl ?_;refine sq ?_;refine rl ?_;refine ld ?_;refine ld ?_
 refine ca (Fq ha hb (hs.mono (M:=17179869184) (by omega)) (ht.mono (M:=17179869184) (by omega))) Vt ⟨aB rfl,aB rfl,rfl⟩ (.one (tv (.int .i64 (p-q).num.sign))) ?_
 refine o1 ?_;refine o1 ?_;refine nl ?_;refine rt ?_;exact en (.inl rfl) rfl (aV (aO _)) (by decide) (fun _=>trivial) (congrArg (fun b=>FV.one (tv (.bool b))) (IK p q))
theorem Vv {p:Rat}:p.num.sign<0↔p<0:=by rw[←iI];exact Int.sign_neg_iff
theorem CH (z:Int):(dg 4294967296 (z.fmod 2).natAbs).length≤1:=by
 have h1:=Int.fmod_nonneg_of_pos z (show(0:Int)<2 by omega)
 have h2:=Int.fmod_lt_of_pos z (show(0:Int)<2 by omega)
 exact bN (by omega) (by omega)
theorem CI {q:Rat}{L:Nat}(h:Sz L q) (hL:L+2≤1000000):(dg 4294967296 (hal q).natAbs).length≤1000000:=by
 have h1:=h.1
 have h2:(hal q).natAbs≤(fl q).natAbs+1:=by
  unfold hal
  rw[lN]
  split <;> omega
 have h3:=tL q
 generalize fl q=f at h2 h3
 have h4:=eW (f.natAbs:Int) 1
 have h5:((f.natAbs:Int)+1).natAbs=f.natAbs+1:=by omega
 rw[h5,Int.natAbs_natCast]at h4
 have h6:(dg 4294967296 (1:Int).natAbs).length≤1:=by decide
 have h7:=dC h2
 omega
section
variable {q:Rat}
theorem MZ (h:0<(q.num.fmod (q.den:Int)+q.num.fmod (q.den:Int)-(q.den:Int)).sign):q.num.fdiv (q.den:Int)+1=hal q:=by
 have h1:=Int.sign_pos_iff.1 h
 unfold hal
 rw[if_pos (.inl (by omega))]
theorem NA (h:¬0<(q.num.fmod (q.den:Int)+q.num.fmod (q.den:Int)-(q.den:Int)).sign) (h2:¬(q.num.fmod (q.den:Int)+q.num.fmod (q.den:Int)-(q.den:Int)).sign=0):q.num.fdiv (q.den:Int)=hal q:=by
 have h3:¬0<q.num.fmod (q.den:Int)+q.num.fmod (q.den:Int)-(q.den:Int):=fun h9=>h (Int.sign_pos_iff.2 h9)
 have h4:¬q.num.fmod (q.den:Int)+q.num.fmod (q.den:Int)-(q.den:Int)=0:=fun h9=>h2 (Int.sign_eq_zero_iff_zero.2 h9)
 unfold hal
 rw[if_neg (by omega)]
theorem PR (z:Int):(z.fmod 2).sign=0↔z%2=0:=by
 rw[Int.sign_eq_zero_iff_zero,Int.fmod_eq_emod_of_nonneg _ (by omega)]
theorem NB (h:(q.num.fmod (q.den:Int)+q.num.fmod (q.den:Int)-(q.den:Int)).sign=0) (h2:((q.num.fdiv (q.den:Int)).fmod 2).sign≠0):q.num.fdiv (q.den:Int)+1=hal q:=by
 have h1:=Int.sign_eq_zero_iff_zero.1 h
 unfold hal
 rw[if_pos (.inr ⟨by omega,fun h9=>h2 ((PR _).2 h9)⟩)]
theorem NC (h:(q.num.fmod (q.den:Int)+q.num.fmod (q.den:Int)-(q.den:Int)).sign=0) (h2:¬((q.num.fdiv (q.den:Int)).fmod 2).sign≠0):q.num.fdiv (q.den:Int)=hal q:=by
 have h1:=Int.sign_eq_zero_iff_zero.1 h
 have h3:=(PR _).1 (Decidable.byContradiction h2)
 unfold hal
 rw[if_neg (by omega)]
end
theorem IL {k:Int}(h:0≤k) (hs:(dg 4294967296 k.natAbs).length≤1000000):aE true Tryz.prog 53 [] [kF k] (aN (.one (tv (.string (aC (tx k.natAbs)))))):=by
 have h1:=HS (Zn.of (k:=k) (Nat.le_trans hs (by omega))) hs
 rwa[show Rg k=tx k.natAbs by unfold Rg;rw[if_neg (by omega)]]at h1
set_option maxHeartbeats 1000000 in
theorem Nw {a:Fr4}{p:Rat}{n:Int}{L:Nat}(ha:Qn a p) (hs:Sz L p) (hL:L+100≤1000000):aE true Tryz.prog 17 [] [qF a,.one (tv (.int .i64 n))] (aN (.one (tv (.string (aC (cD p (aD n))))))):=by
 refine bF Tryz.func17 rfl Tryz.ntmps17 rfl aA rfl fun N9 w9 c0 h0=>?_
 have hD:(aD n)≤40:=tP
 have hX:Sz (L+((aD n)+1)) (p*((10^(aD n):Nat):Rat)):=jR hs (eX _)
 have hA:Sz (L+((aD n)+1)) (aH (p*((10^(aD n):Nat):Rat))):=CB hX
 have hd0:((aH (p*((10^(aD n):Nat):Rat))).den:Int)≠0:=by have:=(aH (p*((10^(aD n):Nat):Rat))).den_pos;omega
 have hA1:=hA.1
 have hA2:=hA.2
 have hfl:(dg 4294967296 ((aH (p*((10^(aD n):Nat):Rat))).num.fdiv ((aH (p*((10^(aD n):Nat):Rat))).den:Int)).natAbs).length≤1000000:=by rw[lN];exact Nat.le_trans (tL _) (by omega)
 have hfm:(dg 4294967296 ((aH (p*((10^(aD n):Nat):Rat))).num.fmod ((aH (p*((10^(aD n):Nat):Rat))).den:Int)).natAbs).length≤1000000:=Nat.le_trans (wN _) (by omega)
 have hmm:(dg 4294967296 (((aH (p*((10^(aD n):Nat):Rat))).num.fmod ((aH (p*((10^(aD n):Nat):Rat))).den:Int))+((aH (p*((10^(aD n):Nat):Rat))).num.fmod ((aH (p*((10^(aD n):Nat):Rat))).den:Int))).natAbs).length≤2000001:=by have:=eW ((aH (p*((10^(aD n):Nat):Rat))).num.fmod ((aH (p*((10^(aD n):Nat):Rat))).den:Int)) ((aH (p*((10^(aD n):Nat):Rat))).num.fmod ((aH (p*((10^(aD n):Nat):Rat))).den:Int));omega
 have hod:(dg 4294967296 (((aH (p*((10^(aD n):Nat):Rat))).num.fdiv ((aH (p*((10^(aD n):Nat):Rat))).den:Int)).fmod 2).natAbs).length≤1:=CH _
 have hHl:(dg 4294967296 (hal (aH (p*((10^(aD n):Nat):Rat)))).natAbs).length≤1000000:=CI hA (by omega)
 have htl:(tx (hal (aH (p*((10^(aD n):Nat):Rat)))).natAbs).length≤10000001:=nM hHl
 have hpl:(pd (hal (aH (p*((10^(aD n):Nat):Rat)))).natAbs (aD n)).length=(aD n):=mR _ _
 have htq:(tx ((hal (aH (p*((10^(aD n):Nat):Rat)))).natAbs/10^(aD n))).length≤10000001:=nM (Nat.le_trans (dC (Nat.div_le_self _ _)) hHl)
 have htq1:1≤(tx ((hal (aH (p*((10^(aD n):Nat):Rat)))).natAbs/10^(aD n))).length:=List.length_pos_iff.2 (pA _)
 have hZl:((tx ((hal (aH (p*((10^(aD n):Nat):Rat)))).natAbs/10^(aD n)))++(pd (hal (aH (p*((10^(aD n):Nat):Rat)))).natAbs (aD n))).length=(tx ((hal (aH (p*((10^(aD n):Nat):Rat)))).natAbs/10^(aD n))).length+(aD n):=by rw[List.length_append,hpl]
 refine sq ?_;refine rl ?_;refine bx 0 ?_;refine o1 ?_;refine nl ?_;refine sq ?_;refine rl ?_;(iterate 3 refine o1 ?_)
 refine WL.cast (t:=16) (u':=.int .i64 (((aD n):Nat):Int)) rfl (aI (by unfold aD;omega)) ?_
 refine o1 ?_;refine nl ?_;refine sq ?_;refine rl ?_;refine ld ?_;refine ca (gS ha) pJ ⟨aB rfl,rfl⟩ (qF (.of p)) ?_;refine o1 ?_
 refine ca (Nr (c:=(aD n)) (by omega)) Vs ⟨a1 rfl,rfl⟩ (qF (.of ((10^(aD n):Nat):Rat))) ?_
 refine ca (yI (Qn.of (p:=p) (hs.mono (M:=68719476736) (by omega))) (Qn.of (p:=((10^(aD n):Nat):Rat)) ((eX _).mono (M:=68719476736) (by omega))) (hs.mono (M:=17179869184) (by omega)) ((eX _).mono (M:=17179869184) (by omega))) Ns ⟨aB rfl,aB rfl,rfl⟩ (qF (.of (p*((10^(aD n):Nat):Rat)))) ?_
 refine st ?_;refine nl ?_;refine sq ?_;refine rl ?_;refine ld ?_
 refine ca (Ab (Qn.of (p:=(p*((10^(aD n):Nat):Rat))) (hX.mono (M:=68719476736) (by omega)))) Vn ⟨aB rfl,rfl⟩ (.one (tv (.int .i64 (p*((10^(aD n):Nat):Rat)).num.sign))) ?_
 refine o1 ?_;refine WL.cast (t:=24) (u':=.bool (decide ((p*((10^(aD n):Nat):Rat))<0))) rfl (congrArg Value.bool (decide_eq_decide.2 Vv)) ?_;refine o1 ?_;refine nl ?_
 refine md (γ:=Unit) (fun _=>cE [(1,.one (tv (.int .i64 (((aD n):Nat):Int)))),(2,.one (.pt 0 0)),(5,.one (tv (.bool (decide ((p*((10^(aD n):Nat):Rat))<0)))))]) (fun _=>([⟨33,0,((Fr4.of (aH (p*((10^(aD n):Nat):Rat)))).tr false).map .t⟩]:List Ob).map some) (fun _=>True) ?_ fun _ _=>?_
 ·refine sq ?_;refine rl ?_;refine o1 ?_;refine nl ?_;refine iL rfl (fun h1=>?_) (fun h1=>?_)
  ·refine rl ?_;refine ld ?_
   refine ca (yH (Qn.of (p:=(p*((10^(aD n):Nat):Rat))) (hX.mono (M:=68719476736) (by omega)))) Np ⟨aB rfl,rfl⟩ (qF (.of (-(p*((10^(aD n):Nat):Rat))))) ?_
   refine st ?_;refine nl ?_;exact⟨(),trivial,aQ h0 [0] _ _ (by decide) ⟨rfl,rfl,rfl,trivial⟩ ⟨cV (congrArg (fun q=>some (⟨33,0,((Fr4.of q).tr false).map .t⟩:Ob)) (Fw h1)),rfl⟩⟩
  refine sk ?_;exact⟨(),trivial,aQ h0 [0] _ _ (by decide) ⟨rfl,rfl,rfl,trivial⟩ ⟨cV (congrArg (fun q=>some (⟨33,0,((Fr4.of q).tr false).map .t⟩:Ob)) (Rk h1)),rfl⟩⟩
 refine sq ?_;refine rl ?_;refine o1 ?_;refine ld ?_;refine o1 ?_;refine ld ?_
 refine ca (dP (dW hA) (cJ hA) hd0) jN ⟨aB rfl,aB rfl,rfl⟩ (.tup [kF ((aH (p*((10^(aD n):Nat):Rat))).num.fdiv ((aH (p*((10^(aD n):Nat):Rat))).den:Int)),kF ((aH (p*((10^(aD n):Nat):Rat))).num.fmod ((aH (p*((10^(aD n):Nat):Rat))).den:Int)),.one (tv (.int .i64 0))]) ?_
 (iterate 4 refine o1 ?_);refine al 1 ?_;refine al 2 ?_;refine st ?_;refine st ?_;refine o1 ?_;refine nl ?_;refine sq ?_;refine rd [0,1,2] (fun i=>[6].contains i) mixed ?_
 refine aW 0 ?_;refine aW 1 ?_;refine dv 3 ?_;refine aW 4 ?_
 refine aJ 2 rfl (kU (Zn.of (k:=((aH (p*((10^(aD n):Nat):Rat))).num.fmod ((aH (p*((10^(aD n):Nat):Rat))).den:Int))) (Nat.le_trans hfm (by omega))) (Zn.of (k:=((aH (p*((10^(aD n):Nat):Rat))).num.fmod ((aH (p*((10^(aD n):Nat):Rat))).den:Int))) (Nat.le_trans hfm (by omega)))) rM ⟨aB rfl,aB rfl,rfl⟩ (kF (((aH (p*((10^(aD n):Nat):Rat))).num.fmod ((aH (p*((10^(aD n):Nat):Rat))).den:Int))+((aH (p*((10^(aD n):Nat):Rat))).num.fmod ((aH (p*((10^(aD n):Nat):Rat))).den:Int)))) ?_
 refine aJ 5 rfl (Fn (Zn.of (k:=((aH (p*((10^(aD n):Nat):Rat))).num.fmod ((aH (p*((10^(aD n):Nat):Rat))).den:Int))+((aH (p*((10^(aD n):Nat):Rat))).num.fmod ((aH (p*((10^(aD n):Nat):Rat))).den:Int))) (Nat.le_trans hmm (by omega))) (cJ hA)) Vk ⟨aB rfl,aB rfl,rfl⟩ (.one (tv (.int .i64 ((((aH (p*((10^(aD n):Nat):Rat))).num.fmod ((aH (p*((10^(aD n):Nat):Rat))).den:Int))+((aH (p*((10^(aD n):Nat):Rat))).num.fmod ((aH (p*((10^(aD n):Nat):Rat))).den:Int))-((aH (p*((10^(aD n):Nat):Rat))).den:Int)).sign)))) ?_
 refine cZ 6 (by kernel_rfl) rfl rfl aA rfl (by trivial) ?_ (fun h=>by first | rfl | cases h)
 refine aU ?_
 refine md (γ:=Unit) (fun _=>cE [(1,.one (tv (.int .i64 (((aD n):Nat):Int)))),(5,.one (tv (.bool (decide ((p*((10^(aD n):Nat):Rat))<0))))),(6,.one (.pt 0 0)),(9,.one (tv (.int .i64 ((((aH (p*((10^(aD n):Nat):Rat))).num.fmod ((aH (p*((10^(aD n):Nat):Rat))).den:Int))+((aH (p*((10^(aD n):Nat):Rat))).num.fmod ((aH (p*((10^(aD n):Nat):Rat))).den:Int))-((aH (p*((10^(aD n):Nat):Rat))).den:Int)).sign)))),(11,.one (.pt 1 0))]) (fun _=>([⟨31,0,[tv (.bool (aL (((aH (p*((10^(aD n):Nat):Rat))).num.fdiv ((aH (p*((10^(aD n):Nat):Rat))).den:Int))))),.t (sU false (dg 4294967296 (((aH (p*((10^(aD n):Nat):Rat))).num.fdiv ((aH (p*((10^(aD n):Nat):Rat))).den:Int))).natAbs))]⟩,⟨31,0,[tv (.bool (aL ((((aH (p*((10^(aD n):Nat):Rat))).num.fdiv ((aH (p*((10^(aD n):Nat):Rat))).den:Int)).fmod 2)))),.t (sU false (dg 4294967296 ((((aH (p*((10^(aD n):Nat):Rat))).num.fdiv ((aH (p*((10^(aD n):Nat):Rat))).den:Int)).fmod 2)).natAbs))]⟩]:List Ob).map some) (fun _=>True) ?_ fun _ _=>?_
 ·refine rd [0,1,2] (fun i=>[11].contains i) mixed ?_
  refine aW 0 ?_;refine WO.three (i:=1) (j:=7) (m:=8) (by kernel_rfl) ?_ ?_ ?_
  ·refine cU 1 rfl (jF (n:=2) (by omega) (by omega)) lP ⟨a1 rfl,rfl⟩ (kF 2) ?_
   refine WO.three (i:=2) (j:=7) (m:=8) (by kernel_rfl) ?_ ?_ ?_
   ·refine cU 2 rfl (dP (Zn.of (k:=((aH (p*((10^(aD n):Nat):Rat))).num.fdiv ((aH (p*((10^(aD n):Nat):Rat))).den:Int))) (Nat.le_trans hfl (by omega))) (Zn.of (k:=2) (by decide)) (by decide)) jN ⟨aB rfl,aB rfl,rfl⟩ (.tup [kF (((aH (p*((10^(aD n):Nat):Rat))).num.fdiv ((aH (p*((10^(aD n):Nat):Rat))).den:Int)).fdiv 2),kF (((aH (p*((10^(aD n):Nat):Rat))).num.fdiv ((aH (p*((10^(aD n):Nat):Rat))).den:Int)).fmod 2),.one (tv (.int .i64 0))]) ?_
    refine df 3 ?_;refine df 4 ?_;refine df 5 ?_;refine df 6 ?_;refine WO.two (i:=7) (j:=8) (by kernel_rfl) ?_ ?_
    ·refine bS (key:=3) 7 rfl rfl aA rfl ⟨rfl,rfl,rfl,trivial⟩ ?_;refine eH (key:=4) 8 (by kernel_rfl) rfl rfl aA rfl ⟨rfl,rfl,rfl,trivial⟩ ?_
     refine aS 9 (by kernel_rfl) rfl rfl aA rfl rfl rfl rfl ⟨rfl,rfl,rfl,trivial⟩ ?_
     refine aS 10 (by kernel_rfl) rfl rfl aA rfl rfl rfl rfl ⟨rfl,rfl,rfl,trivial⟩ ?_
     refine cZ 11 (by kernel_rfl) rfl rfl aA rfl (by trivial) ?_ (fun h=>by first | rfl | cases h)
     refine aU ?_;exact⟨(),trivial,aQ h0 [1,4] _ _ (by decide) ⟨rfl,rfl,rfl,rfl,rfl,trivial⟩ ⟨oe rfl rfl,oe rfl rfl,rfl⟩⟩
    refine bS (key:=3) 8 rfl rfl aA rfl ⟨rfl,rfl,rfl,trivial⟩ ?_;refine eH (key:=4) 7 (by kernel_rfl) rfl rfl aA rfl ⟨rfl,rfl,rfl,trivial⟩ ?_
    refine aS 9 (by kernel_rfl) rfl rfl aA rfl rfl rfl rfl ⟨rfl,rfl,rfl,trivial⟩ ?_
    refine aS 10 (by kernel_rfl) rfl rfl aA rfl rfl rfl rfl ⟨rfl,rfl,rfl,trivial⟩ ?_
    refine cZ 11 (by kernel_rfl) rfl rfl aA rfl (by trivial) ?_ (fun h=>by first | rfl | cases h)
    refine aU ?_;exact⟨(),trivial,aQ h0 [1,3] _ _ (by decide) ⟨rfl,rfl,rfl,rfl,rfl,trivial⟩ ⟨oe rfl rfl,oe rfl rfl,rfl⟩⟩
   ·refine bS (key:=3) 7 rfl rfl aA rfl ⟨rfl,rfl,rfl,trivial⟩ ?_;refine WO.two (i:=2) (j:=8) (by kernel_rfl) ?_ ?_
    ·refine cU 2 rfl (dP (Zn.of (k:=((aH (p*((10^(aD n):Nat):Rat))).num.fdiv ((aH (p*((10^(aD n):Nat):Rat))).den:Int))) (Nat.le_trans hfl (by omega))) (Zn.of (k:=2) (by decide)) (by decide)) jN ⟨aB rfl,aB rfl,rfl⟩ (.tup [kF (((aH (p*((10^(aD n):Nat):Rat))).num.fdiv ((aH (p*((10^(aD n):Nat):Rat))).den:Int)).fdiv 2),kF (((aH (p*((10^(aD n):Nat):Rat))).num.fdiv ((aH (p*((10^(aD n):Nat):Rat))).den:Int)).fmod 2),.one (tv (.int .i64 0))]) ?_
     refine df 3 ?_;refine df 4 ?_;refine df 5 ?_;refine df 6 ?_;refine eH (key:=4) 8 (by kernel_rfl) rfl rfl aA rfl ⟨rfl,rfl,rfl,trivial⟩ ?_
     refine aS 9 (by kernel_rfl) rfl rfl aA rfl rfl rfl rfl ⟨rfl,rfl,rfl,trivial⟩ ?_
     refine aS 10 (by kernel_rfl) rfl rfl aA rfl rfl rfl rfl ⟨rfl,rfl,rfl,trivial⟩ ?_
     refine cZ 11 (by kernel_rfl) rfl rfl aA rfl (by trivial) ?_ (fun h=>by first | rfl | cases h)
     refine aU ?_;exact⟨(),trivial,aQ h0 [1,4] _ _ (by decide) ⟨rfl,rfl,rfl,rfl,rfl,trivial⟩ ⟨oe rfl rfl,oe rfl rfl,rfl⟩⟩
    refine bS (key:=4) 8 rfl rfl aA rfl ⟨rfl,rfl,rfl,trivial⟩ ?_
    refine aJ 2 rfl (dP (Zn.of (k:=((aH (p*((10^(aD n):Nat):Rat))).num.fdiv ((aH (p*((10^(aD n):Nat):Rat))).den:Int))) (Nat.le_trans hfl (by omega))) (Zn.of (k:=2) (by decide)) (by decide)) jN ⟨aB rfl,aB rfl,rfl⟩ (.tup [kF (((aH (p*((10^(aD n):Nat):Rat))).num.fdiv ((aH (p*((10^(aD n):Nat):Rat))).den:Int)).fdiv 2),kF (((aH (p*((10^(aD n):Nat):Rat))).num.fdiv ((aH (p*((10^(aD n):Nat):Rat))).den:Int)).fmod 2),.one (tv (.int .i64 0))]) ?_
    refine df 3 ?_;refine df 4 ?_;refine df 5 ?_;refine df 6 ?_;refine aS 9 (by kernel_rfl) rfl rfl aA rfl rfl rfl rfl ⟨rfl,rfl,rfl,trivial⟩ ?_
    refine aS 10 (by kernel_rfl) rfl rfl aA rfl rfl rfl rfl ⟨rfl,rfl,rfl,trivial⟩ ?_
    refine cZ 11 (by kernel_rfl) rfl rfl aA rfl (by trivial) ?_ (fun h=>by first | rfl | cases h)
    refine aU ?_;exact⟨(),trivial,aQ h0 [1,4] _ _ (by decide) ⟨rfl,rfl,rfl,rfl,rfl,trivial⟩ ⟨oe rfl rfl,oe rfl rfl,rfl⟩⟩
   refine bS (key:=3) 8 rfl rfl aA rfl ⟨rfl,rfl,rfl,trivial⟩ ?_;refine WO.two (i:=2) (j:=7) (by kernel_rfl) ?_ ?_
   ·refine cU 2 rfl (dP (Zn.of (k:=((aH (p*((10^(aD n):Nat):Rat))).num.fdiv ((aH (p*((10^(aD n):Nat):Rat))).den:Int))) (Nat.le_trans hfl (by omega))) (Zn.of (k:=2) (by decide)) (by decide)) jN ⟨aB rfl,aB rfl,rfl⟩ (.tup [kF (((aH (p*((10^(aD n):Nat):Rat))).num.fdiv ((aH (p*((10^(aD n):Nat):Rat))).den:Int)).fdiv 2),kF (((aH (p*((10^(aD n):Nat):Rat))).num.fdiv ((aH (p*((10^(aD n):Nat):Rat))).den:Int)).fmod 2),.one (tv (.int .i64 0))]) ?_
    refine df 3 ?_;refine df 4 ?_;refine df 5 ?_;refine df 6 ?_;refine eH (key:=4) 7 (by kernel_rfl) rfl rfl aA rfl ⟨rfl,rfl,rfl,trivial⟩ ?_
    refine aS 9 (by kernel_rfl) rfl rfl aA rfl rfl rfl rfl ⟨rfl,rfl,rfl,trivial⟩ ?_
    refine aS 10 (by kernel_rfl) rfl rfl aA rfl rfl rfl rfl ⟨rfl,rfl,rfl,trivial⟩ ?_
    refine cZ 11 (by kernel_rfl) rfl rfl aA rfl (by trivial) ?_ (fun h=>by first | rfl | cases h)
    refine aU ?_;exact⟨(),trivial,aQ h0 [1,3] _ _ (by decide) ⟨rfl,rfl,rfl,rfl,rfl,trivial⟩ ⟨oe rfl rfl,oe rfl rfl,rfl⟩⟩
   refine bS (key:=4) 7 rfl rfl aA rfl ⟨rfl,rfl,rfl,trivial⟩ ?_
   refine aJ 2 rfl (dP (Zn.of (k:=((aH (p*((10^(aD n):Nat):Rat))).num.fdiv ((aH (p*((10^(aD n):Nat):Rat))).den:Int))) (Nat.le_trans hfl (by omega))) (Zn.of (k:=2) (by decide)) (by decide)) jN ⟨aB rfl,aB rfl,rfl⟩ (.tup [kF (((aH (p*((10^(aD n):Nat):Rat))).num.fdiv ((aH (p*((10^(aD n):Nat):Rat))).den:Int)).fdiv 2),kF (((aH (p*((10^(aD n):Nat):Rat))).num.fdiv ((aH (p*((10^(aD n):Nat):Rat))).den:Int)).fmod 2),.one (tv (.int .i64 0))]) ?_
   refine df 3 ?_;refine df 4 ?_;refine df 5 ?_;refine df 6 ?_;refine aS 9 (by kernel_rfl) rfl rfl aA rfl rfl rfl rfl ⟨rfl,rfl,rfl,trivial⟩ ?_
   refine aS 10 (by kernel_rfl) rfl rfl aA rfl rfl rfl rfl ⟨rfl,rfl,rfl,trivial⟩ ?_
   refine cZ 11 (by kernel_rfl) rfl rfl aA rfl (by trivial) ?_ (fun h=>by first | rfl | cases h)
   refine aU ?_;exact⟨(),trivial,aQ h0 [1,3] _ _ (by decide) ⟨rfl,rfl,rfl,rfl,rfl,trivial⟩ ⟨oe rfl rfl,oe rfl rfl,rfl⟩⟩
  ·refine bS (key:=3) 7 rfl rfl aA rfl ⟨rfl,rfl,rfl,trivial⟩ ?_;refine WO.two (i:=1) (j:=8) (by kernel_rfl) ?_ ?_
   ·refine cU 1 rfl (jF (n:=2) (by omega) (by omega)) lP ⟨a1 rfl,rfl⟩ (kF 2) ?_
    refine WO.two (i:=2) (j:=8) (by kernel_rfl) ?_ ?_
    ·refine cU 2 rfl (dP (Zn.of (k:=((aH (p*((10^(aD n):Nat):Rat))).num.fdiv ((aH (p*((10^(aD n):Nat):Rat))).den:Int))) (Nat.le_trans hfl (by omega))) (Zn.of (k:=2) (by decide)) (by decide)) jN ⟨aB rfl,aB rfl,rfl⟩ (.tup [kF (((aH (p*((10^(aD n):Nat):Rat))).num.fdiv ((aH (p*((10^(aD n):Nat):Rat))).den:Int)).fdiv 2),kF (((aH (p*((10^(aD n):Nat):Rat))).num.fdiv ((aH (p*((10^(aD n):Nat):Rat))).den:Int)).fmod 2),.one (tv (.int .i64 0))]) ?_
     refine df 3 ?_;refine df 4 ?_;refine df 5 ?_;refine df 6 ?_;refine eH (key:=4) 8 (by kernel_rfl) rfl rfl aA rfl ⟨rfl,rfl,rfl,trivial⟩ ?_
     refine aS 9 (by kernel_rfl) rfl rfl aA rfl rfl rfl rfl ⟨rfl,rfl,rfl,trivial⟩ ?_
     refine aS 10 (by kernel_rfl) rfl rfl aA rfl rfl rfl rfl ⟨rfl,rfl,rfl,trivial⟩ ?_
     refine cZ 11 (by kernel_rfl) rfl rfl aA rfl (by trivial) ?_ (fun h=>by first | rfl | cases h)
     refine aU ?_;exact⟨(),trivial,aQ h0 [1,4] _ _ (by decide) ⟨rfl,rfl,rfl,rfl,rfl,trivial⟩ ⟨oe rfl rfl,oe rfl rfl,rfl⟩⟩
    refine bS (key:=4) 8 rfl rfl aA rfl ⟨rfl,rfl,rfl,trivial⟩ ?_
    refine aJ 2 rfl (dP (Zn.of (k:=((aH (p*((10^(aD n):Nat):Rat))).num.fdiv ((aH (p*((10^(aD n):Nat):Rat))).den:Int))) (Nat.le_trans hfl (by omega))) (Zn.of (k:=2) (by decide)) (by decide)) jN ⟨aB rfl,aB rfl,rfl⟩ (.tup [kF (((aH (p*((10^(aD n):Nat):Rat))).num.fdiv ((aH (p*((10^(aD n):Nat):Rat))).den:Int)).fdiv 2),kF (((aH (p*((10^(aD n):Nat):Rat))).num.fdiv ((aH (p*((10^(aD n):Nat):Rat))).den:Int)).fmod 2),.one (tv (.int .i64 0))]) ?_
    refine df 3 ?_;refine df 4 ?_;refine df 5 ?_;refine df 6 ?_;refine aS 9 (by kernel_rfl) rfl rfl aA rfl rfl rfl rfl ⟨rfl,rfl,rfl,trivial⟩ ?_
    refine aS 10 (by kernel_rfl) rfl rfl aA rfl rfl rfl rfl ⟨rfl,rfl,rfl,trivial⟩ ?_
    refine cZ 11 (by kernel_rfl) rfl rfl aA rfl (by trivial) ?_ (fun h=>by first | rfl | cases h)
    refine aU ?_;exact⟨(),trivial,aQ h0 [1,4] _ _ (by decide) ⟨rfl,rfl,rfl,rfl,rfl,trivial⟩ ⟨oe rfl rfl,oe rfl rfl,rfl⟩⟩
   refine bS (key:=4) 8 rfl rfl aA rfl ⟨rfl,rfl,rfl,trivial⟩ ?_;refine aJ 1 rfl (jF (n:=2) (by omega) (by omega)) lP ⟨a1 rfl,rfl⟩ (kF 2) ?_
   refine aJ 2 rfl (dP (Zn.of (k:=((aH (p*((10^(aD n):Nat):Rat))).num.fdiv ((aH (p*((10^(aD n):Nat):Rat))).den:Int))) (Nat.le_trans hfl (by omega))) (Zn.of (k:=2) (by decide)) (by decide)) jN ⟨aB rfl,aB rfl,rfl⟩ (.tup [kF (((aH (p*((10^(aD n):Nat):Rat))).num.fdiv ((aH (p*((10^(aD n):Nat):Rat))).den:Int)).fdiv 2),kF (((aH (p*((10^(aD n):Nat):Rat))).num.fdiv ((aH (p*((10^(aD n):Nat):Rat))).den:Int)).fmod 2),.one (tv (.int .i64 0))]) ?_
   refine df 3 ?_;refine df 4 ?_;refine df 5 ?_;refine df 6 ?_;refine aS 9 (by kernel_rfl) rfl rfl aA rfl rfl rfl rfl ⟨rfl,rfl,rfl,trivial⟩ ?_
   refine aS 10 (by kernel_rfl) rfl rfl aA rfl rfl rfl rfl ⟨rfl,rfl,rfl,trivial⟩ ?_
   refine cZ 11 (by kernel_rfl) rfl rfl aA rfl (by trivial) ?_ (fun h=>by first | rfl | cases h)
   refine aU ?_;exact⟨(),trivial,aQ h0 [1,4] _ _ (by decide) ⟨rfl,rfl,rfl,rfl,rfl,trivial⟩ ⟨oe rfl rfl,oe rfl rfl,rfl⟩⟩
  refine bS (key:=3) 8 rfl rfl aA rfl ⟨rfl,rfl,rfl,trivial⟩ ?_;refine WO.two (i:=1) (j:=7) (by kernel_rfl) ?_ ?_
  ·refine cU 1 rfl (jF (n:=2) (by omega) (by omega)) lP ⟨a1 rfl,rfl⟩ (kF 2) ?_
   refine WO.two (i:=2) (j:=7) (by kernel_rfl) ?_ ?_
   ·refine cU 2 rfl (dP (Zn.of (k:=((aH (p*((10^(aD n):Nat):Rat))).num.fdiv ((aH (p*((10^(aD n):Nat):Rat))).den:Int))) (Nat.le_trans hfl (by omega))) (Zn.of (k:=2) (by decide)) (by decide)) jN ⟨aB rfl,aB rfl,rfl⟩ (.tup [kF (((aH (p*((10^(aD n):Nat):Rat))).num.fdiv ((aH (p*((10^(aD n):Nat):Rat))).den:Int)).fdiv 2),kF (((aH (p*((10^(aD n):Nat):Rat))).num.fdiv ((aH (p*((10^(aD n):Nat):Rat))).den:Int)).fmod 2),.one (tv (.int .i64 0))]) ?_
    refine df 3 ?_;refine df 4 ?_;refine df 5 ?_;refine df 6 ?_;refine eH (key:=4) 7 (by kernel_rfl) rfl rfl aA rfl ⟨rfl,rfl,rfl,trivial⟩ ?_
    refine aS 9 (by kernel_rfl) rfl rfl aA rfl rfl rfl rfl ⟨rfl,rfl,rfl,trivial⟩ ?_
    refine aS 10 (by kernel_rfl) rfl rfl aA rfl rfl rfl rfl ⟨rfl,rfl,rfl,trivial⟩ ?_
    refine cZ 11 (by kernel_rfl) rfl rfl aA rfl (by trivial) ?_ (fun h=>by first | rfl | cases h)
    refine aU ?_;exact⟨(),trivial,aQ h0 [1,3] _ _ (by decide) ⟨rfl,rfl,rfl,rfl,rfl,trivial⟩ ⟨oe rfl rfl,oe rfl rfl,rfl⟩⟩
   refine bS (key:=4) 7 rfl rfl aA rfl ⟨rfl,rfl,rfl,trivial⟩ ?_
   refine aJ 2 rfl (dP (Zn.of (k:=((aH (p*((10^(aD n):Nat):Rat))).num.fdiv ((aH (p*((10^(aD n):Nat):Rat))).den:Int))) (Nat.le_trans hfl (by omega))) (Zn.of (k:=2) (by decide)) (by decide)) jN ⟨aB rfl,aB rfl,rfl⟩ (.tup [kF (((aH (p*((10^(aD n):Nat):Rat))).num.fdiv ((aH (p*((10^(aD n):Nat):Rat))).den:Int)).fdiv 2),kF (((aH (p*((10^(aD n):Nat):Rat))).num.fdiv ((aH (p*((10^(aD n):Nat):Rat))).den:Int)).fmod 2),.one (tv (.int .i64 0))]) ?_
   refine df 3 ?_;refine df 4 ?_;refine df 5 ?_;refine df 6 ?_;refine aS 9 (by kernel_rfl) rfl rfl aA rfl rfl rfl rfl ⟨rfl,rfl,rfl,trivial⟩ ?_
   refine aS 10 (by kernel_rfl) rfl rfl aA rfl rfl rfl rfl ⟨rfl,rfl,rfl,trivial⟩ ?_
   refine cZ 11 (by kernel_rfl) rfl rfl aA rfl (by trivial) ?_ (fun h=>by first | rfl | cases h)
   refine aU ?_;exact⟨(),trivial,aQ h0 [1,3] _ _ (by decide) ⟨rfl,rfl,rfl,rfl,rfl,trivial⟩ ⟨oe rfl rfl,oe rfl rfl,rfl⟩⟩
  refine bS (key:=4) 7 rfl rfl aA rfl ⟨rfl,rfl,rfl,trivial⟩ ?_;refine aJ 1 rfl (jF (n:=2) (by omega) (by omega)) lP ⟨a1 rfl,rfl⟩ (kF 2) ?_
  refine aJ 2 rfl (dP (Zn.of (k:=((aH (p*((10^(aD n):Nat):Rat))).num.fdiv ((aH (p*((10^(aD n):Nat):Rat))).den:Int))) (Nat.le_trans hfl (by omega))) (Zn.of (k:=2) (by decide)) (by decide)) jN ⟨aB rfl,aB rfl,rfl⟩ (.tup [kF (((aH (p*((10^(aD n):Nat):Rat))).num.fdiv ((aH (p*((10^(aD n):Nat):Rat))).den:Int)).fdiv 2),kF (((aH (p*((10^(aD n):Nat):Rat))).num.fdiv ((aH (p*((10^(aD n):Nat):Rat))).den:Int)).fmod 2),.one (tv (.int .i64 0))]) ?_
  refine df 3 ?_;refine df 4 ?_;refine df 5 ?_;refine df 6 ?_;refine aS 9 (by kernel_rfl) rfl rfl aA rfl rfl rfl rfl ⟨rfl,rfl,rfl,trivial⟩ ?_
  refine aS 10 (by kernel_rfl) rfl rfl aA rfl rfl rfl rfl ⟨rfl,rfl,rfl,trivial⟩ ?_
  refine cZ 11 (by kernel_rfl) rfl rfl aA rfl (by trivial) ?_ (fun h=>by first | rfl | cases h)
  refine aU ?_;exact⟨(),trivial,aQ h0 [1,3] _ _ (by decide) ⟨rfl,rfl,rfl,rfl,rfl,trivial⟩ ⟨oe rfl rfl,oe rfl rfl,rfl⟩⟩
 refine md (γ:=Unit) (fun _=>cE [(1,.one (tv (.int .i64 (((aD n):Nat):Int)))),(5,.one (tv (.bool (decide ((p*((10^(aD n):Nat):Rat))<0))))),(6,.one (.pt 0 0))]) (fun _=>([⟨31,0,[tv (.bool (aL ((hal (aH (p*((10^(aD n):Nat):Rat))))))),.t (sU false (dg 4294967296 ((hal (aH (p*((10^(aD n):Nat):Rat))))).natAbs))]⟩]:List Ob).map some) (fun _=>True) ?_ fun _ _=>?_
 ·refine sq ?_;refine rl ?_;(iterate 3 refine o1 ?_);refine WL.split (t:=52) rfl (fun h2=>?_) (fun h2=>?_)
  ·(iterate 7 refine cH ?_);refine o1 ?_;refine nl ?_;refine fX rfl ?_;refine rd [0,1] (fun i=>[2,3].contains i) mixed ?_
   refine aW 0 ?_;refine aJ 1 rfl (jF (n:=1) (by omega) (by omega)) lP ⟨a1 rfl,rfl⟩ (kF 1) ?_
   refine aJ 2 rfl (kU (Zn.of (k:=((aH (p*((10^(aD n):Nat):Rat))).num.fdiv ((aH (p*((10^(aD n):Nat):Rat))).den:Int))) (Nat.le_trans hfl (by omega))) (Zn.of (k:=1) (by decide))) rM ⟨aB rfl,aB rfl,rfl⟩ (kF (((aH (p*((10^(aD n):Nat):Rat))).num.fdiv ((aH (p*((10^(aD n):Nat):Rat))).den:Int))+1)) ?_
   refine dst 3 ?_;refine aU ?_
   exact⟨(),trivial,aQ h0 [0] _ _ (by decide) ⟨rfl,rfl,rfl,trivial⟩ ⟨oe rfl (congrArg (fun z:Int=>some (⟨31,0,[tv (.bool (aL (z))),.t (sU false (dg 4294967296 (z).natAbs))]⟩:Ob)) (MZ h2)),rfl⟩⟩
  (iterate 3 refine o1 ?_);refine WL.split (t:=55) rfl (fun h3=>?_) (fun h3=>?_)
  ·refine ld ?_
   refine ca (jE (Zn.of (k:=(((aH (p*((10^(aD n):Nat):Rat))).num.fdiv ((aH (p*((10^(aD n):Nat):Rat))).den:Int)).fmod 2)) (Nat.le_trans hod (by omega)))) rL ⟨aB rfl,rfl⟩ (.one (tv (.int .i64 ((((aH (p*((10^(aD n):Nat):Rat))).num.fdiv ((aH (p*((10^(aD n):Nat):Rat))).den:Int)).fmod 2)).sign))) ?_
   (iterate 3 refine o1 ?_);refine nl ?_;refine bR rfl (fun h4=>?_) (fun h4=>?_)
   ·refine rd [0,1] (fun i=>[2,3].contains i) mixed ?_
    refine aW 0 ?_;refine aJ 1 rfl (jF (n:=1) (by omega) (by omega)) lP ⟨a1 rfl,rfl⟩ (kF 1) ?_
    refine aJ 2 rfl (kU (Zn.of (k:=((aH (p*((10^(aD n):Nat):Rat))).num.fdiv ((aH (p*((10^(aD n):Nat):Rat))).den:Int))) (Nat.le_trans hfl (by omega))) (Zn.of (k:=1) (by decide))) rM ⟨aB rfl,aB rfl,rfl⟩ (kF (((aH (p*((10^(aD n):Nat):Rat))).num.fdiv ((aH (p*((10^(aD n):Nat):Rat))).den:Int))+1)) ?_
    refine dst 3 ?_;refine aU ?_
    exact⟨(),trivial,aQ h0 [0] _ _ (by decide) ⟨rfl,rfl,rfl,trivial⟩ ⟨oe rfl (congrArg (fun z:Int=>some (⟨31,0,[tv (.bool (aL (z))),.t (sU false (dg 4294967296 (z).natAbs))]⟩:Ob)) (NB h3 h4)),rfl⟩⟩
   refine sk ?_
   exact⟨(),trivial,aQ h0 [0] _ _ (by decide) ⟨rfl,rfl,rfl,trivial⟩ ⟨oe rfl (congrArg (fun z:Int=>some (⟨31,0,[tv (.bool (aL (z))),.t (sU false (dg 4294967296 (z).natAbs))]⟩:Ob)) (NC h3 h4)),rfl⟩⟩
  (iterate 3 refine cH ?_);refine o1 ?_;refine o1 ?_;refine nl ?_;refine fW rfl ?_;refine sk ?_
  exact⟨(),trivial,aQ h0 [0] _ _ (by decide) ⟨rfl,rfl,rfl,trivial⟩ ⟨oe rfl (congrArg (fun z:Int=>some (⟨31,0,[tv (.bool (aL (z))),.t (sU false (dg 4294967296 (z).natAbs))]⟩:Ob)) (NA h2 h3)),rfl⟩⟩
 refine sq ?_;refine rl ?_;refine ld ?_
 refine ca (IL (k:=(hal (aH (p*((10^(aD n):Nat):Rat))))) (kV (pL _)) (Nat.le_trans hHl (by omega))) RN ⟨aB rfl,rfl⟩ (.one (tv (.string (aC (tx (hal (aH (p*((10^(aD n):Nat):Rat)))).natAbs))))) ?_
 refine o1 ?_;refine nl ?_;refine sq ?_;refine bl ?_
 refine lp (γ:=Nat) (fun s=>cE [(1,.one (tv (.int .i64 (((aD n):Nat):Int)))),(5,.one (tv (.bool (decide ((p*((10^(aD n):Nat):Rat))<0))))),(6,.one (.pt 0 0)),(13,.one (tv (.string (aC (List.replicate s 48++tx (hal (aH (p*((10^(aD n):Nat):Rat)))).natAbs)))))]) (fun s=>[(⟨31,0,[tv (.bool (aL ((hal (aH (p*((10^(aD n):Nat):Rat))))))),.t (sU false (dg 4294967296 ((hal (aH (p*((10^(aD n):Nat):Rat))))).natAbs))]⟩:Ob)].map some) (fun s=>s=0∨s+(tx (hal (aH (p*((10^(aD n):Nat):Rat)))).natAbs).length≤(aD n)+1) (fun s=>(aD n)+1-s) 0 (.inl rfl) (aQ h0 [0] _ _ (by decide) ⟨rfl,rfl,rfl,rfl,trivial⟩ ⟨oe rfl rfl,rfl⟩) ?_
 rintro j hj
 have hjl:(List.replicate j 48++tx (hal (aH (p*((10^(aD n):Nat):Rat)))).natAbs).length=j+(tx (hal (aH (p*((10^(aD n):Nat):Rat)))).natAbs).length:=by rw[List.length_append,List.length_replicate]
 have htx1:1≤(tx (hal (aH (p*((10^(aD n):Nat):Rat)))).natAbs).length:=List.length_pos_iff.2 (pA _)
 refine sq ?_;refine sq ?_;refine rl ?_;refine o1 ?_;refine o1 ?_
 refine WL.cast (t:=67) (u':=.int .i64 (((List.replicate j 48++tx (hal (aH (p*((10^(aD n):Nat):Rat)))).natAbs).length:Nat):Int)) rfl (congrArg (fun n:Nat=>Value.int .i64 (n:Int)) (aF _)) ?_
 refine o1 ?_;refine o1 ?_;refine nl ?_;refine bR rfl (fun h5=>?_) (fun h5=>?_)
 ·refine sk ?_;refine bl ?_;refine rl ?_;refine o1 ?_;refine o1 ?_ (hC:=(by rw[aF];show 1+_≤_;omega))
  refine WL.cast (t:=71) (u':=.string (aC (List.replicate (j+1) 48++tx (hal (aH (p*((10^(aD n):Nat):Rat)))).natAbs))) rfl (congrArg Value.string ((fZ [48] _).trans (congrArg aC (by rw[List.replicate_succ];rfl)))) ?_
  refine o1 ?_;refine nl ?_;exact⟨j+1,by omega,by omega,aQ h0 [0] _ _ (by decide) ⟨rfl,rfl,rfl,rfl,trivial⟩ ⟨oe rfl rfl,rfl⟩⟩
 refine ex ?_
 refine md (γ:=Unit) (fun _=>cE [(5,.one (tv (.bool (decide ((p*((10^(aD n):Nat):Rat))<0))))),(6,.one (.pt 0 0)),(13,.one (tv (.string (aC (wr (hal (aH (p*((10^(aD n):Nat):Rat)))).natAbs (aD n))))))]) (fun _=>([⟨31,0,[tv (.bool (aL ((hal (aH (p*((10^(aD n):Nat):Rat))))))),.t (sU false (dg 4294967296 ((hal (aH (p*((10^(aD n):Nat):Rat))))).natAbs))]⟩]:List Ob).map some) (fun _=>True) ?_ fun _ _=>?_
 ·refine sq ?_;have hje:j=(aD n)+1-(tx (hal (aH (p*((10^(aD n):Nat):Rat)))).natAbs).length:=by omega
  have hjz:(List.replicate j 48++tx (hal (aH (p*((10^(aD n):Nat):Rat)))).natAbs)=((tx ((hal (aH (p*((10^(aD n):Nat):Rat)))).natAbs/10^(aD n)))++(pd (hal (aH (p*((10^(aD n):Nat):Rat)))).natAbs (aD n))):=by rw[hje];exact Fm (aD n) (hal (aH (p*((10^(aD n):Nat):Rat)))).natAbs
  refine WP.sub (aQ h0 [0] [(1,.one (tv (.int .i64 (((aD n):Nat):Int)))),(5,.one (tv (.bool (decide ((p*((10^(aD n):Nat):Rat))<0))))),(6,.one (.pt 0 0)),(13,.one (tv (.string (aC ((tx ((hal (aH (p*((10^(aD n):Nat):Rat)))).natAbs/10^(aD n)))++(pd (hal (aH (p*((10^(aD n):Nat):Rat)))).natAbs (aD n)))))))] [(⟨31,0,[tv (.bool (aL ((hal (aH (p*((10^(aD n):Nat):Rat))))))),.t (sU false (dg 4294967296 ((hal (aH (p*((10^(aD n):Nat):Rat))))).natAbs))]⟩:Ob)] (by decide) ⟨rfl,rfl,rfl,(congrArg (fun b=>some (FV.one (tv (.string (aC b))))) hjz.symm),trivial⟩ ⟨oe rfl rfl,rfl⟩) ?_
  refine rl ?_;refine o1 ?_;refine o1 ?_;refine nl ?_;refine bR rfl (fun h6=>?_) (fun h6=>?_)
  ·refine rd [0] (fun i=>[14].contains i) mixed ?_
   refine dv 0 ?_;refine dv 1 ?_;refine dv 2 ?_
   refine WD.cast (t:=76) (u':=.int .i64 ((((tx ((hal (aH (p*((10^(aD n):Nat):Rat)))).natAbs/10^(aD n)))++(pd (hal (aH (p*((10^(aD n):Nat):Rat)))).natAbs (aD n))).length:Nat):Int)) rfl (congrArg (fun n:Nat=>Value.int .i64 (n:Int)) (aF _)) ?_
   refine dv 3 ?_;refine dv 4 ?_
   refine WD.cast (t:=78) (u':=.int .i64 ((((tx ((hal (aH (p*((10^(aD n):Nat):Rat)))).natAbs/10^(aD n)))++(pd (hal (aH (p*((10^(aD n):Nat):Rat)))).natAbs (aD n))).length-(aD n):Nat):Int)) rfl (aI (by omega)) ?_
   refine dv 5 ?_ (hC:=(by rw[aF];omega))
   refine WD.cast (t:=79) (u':=.string (aC (tx ((hal (aH (p*((10^(aD n):Nat):Rat)))).natAbs/10^(aD n))))) rfl (congrArg Value.string ((gV _ 0 _).trans (congrArg aC (Qx hZl)))) ?_
   refine dv 6 ?_ (hC:=(by rw[aF];show _+1≤_;omega))
   refine WD.cast (t:=80) (u':=.string (aC ((tx ((hal (aH (p*((10^(aD n):Nat):Rat)))).natAbs/10^(aD n)))++[46]))) rfl (congrArg Value.string (fZ _ [46])) ?_
   refine dv 7 ?_;refine dv 8 ?_;refine dv 9 ?_
   refine WD.cast (t:=83) (u':=.int .i64 ((((tx ((hal (aH (p*((10^(aD n):Nat):Rat)))).natAbs/10^(aD n)))++(pd (hal (aH (p*((10^(aD n):Nat):Rat)))).natAbs (aD n))).length:Nat):Int)) rfl (congrArg (fun n:Nat=>Value.int .i64 (n:Int)) (aF _)) ?_
   refine dv 10 ?_;refine dv 11 ?_
   refine WD.cast (t:=85) (u':=.int .i64 ((((tx ((hal (aH (p*((10^(aD n):Nat):Rat)))).natAbs/10^(aD n)))++(pd (hal (aH (p*((10^(aD n):Nat):Rat)))).natAbs (aD n))).length-(aD n):Nat):Int)) rfl (aI (by omega)) ?_
   refine dv 12 ?_ (hC:=(by rw[aF];omega))
   refine WD.cast (t:=86) (u':=.string (aC (pd (hal (aH (p*((10^(aD n):Nat):Rat)))).natAbs (aD n)))) rfl (congrArg Value.string ((gW _ _).trans (congrArg aC (Qy hZl)))) ?_
   refine dv 13 ?_ (hC:=(by rw[aF,aF,List.length_append];show _+1+_≤_;omega))
   refine WD.cast (t:=87) (u':=.string (aC (wr (hal (aH (p*((10^(aD n):Nat):Rat)))).natAbs (aD n)))) rfl (congrArg Value.string ((fZ _ _).trans (congrArg aC (HI (by omega))))) ?_
   refine cZ 14 (by kernel_rfl) rfl rfl aA rfl (by trivial) ?_ (fun h=>by first | rfl | cases h)
   refine aU ?_;exact⟨(),trivial,aQ h0 [0] _ _ (by decide) ⟨rfl,rfl,rfl,trivial⟩ ⟨oe rfl rfl,rfl⟩⟩
  refine sk ?_
  exact⟨(),trivial,aQ h0 [0] _ _ (by decide) ⟨rfl,rfl,(congrArg (fun b=>some (FV.one (tv (.string (aC b))))) (HJ (n:=(hal (aH (p*((10^(aD n):Nat):Rat)))).natAbs) (d:=(aD n)) (by omega)).symm),trivial⟩ ⟨oe rfl rfl,rfl⟩⟩
 refine sq ?_;refine sq ?_;refine rl ?_;refine o1 ?_;refine o1 ?_;refine WL.splitb (t:=89) rfl (fun h7=>?_) (fun h7=>?_)
 ·refine ld ?_
  refine ca (jE (Zn.of (k:=(hal (aH (p*((10^(aD n):Nat):Rat))))) (Nat.le_trans hHl (by omega)))) rL ⟨aB rfl,rfl⟩ (.one (tv (.int .i64 ((hal (aH (p*((10^(aD n):Nat):Rat))))).sign))) ?_
  refine o1 ?_;refine o1 ?_;refine nl ?_;refine bR rfl (fun h8=>?_) (fun h8=>?_)
  ·refine rl ?_;refine o1 ?_;refine o1 ?_ (hC:=(by rw[aF];show 1+_≤_;rw[yE];split <;> omega))
   refine WL.cast (t:=95) (u':=.string (aC (45::(wr (hal (aH (p*((10^(aD n):Nat):Rat)))).natAbs (aD n))))) rfl (congrArg Value.string (fZ [45] _)) ?_;refine o1 ?_
   refine nl ?_;refine sq ?_;refine rl ?_;refine o1 ?_;refine o1 ?_;refine nl ?_;refine rt ?_
   exact en (.inl rfl) rfl (aV (aO _)) (by decide) (fun _=>trivial) (congrArg (fun z=>FV.one (tv (.string z))) (congrArg aC (CC h7 (fun h9=>h8 (by rw[h9];rfl)))))
  refine sk ?_;refine sq ?_;refine rl ?_;refine o1 ?_;refine o1 ?_;refine nl ?_;refine rt ?_
  exact en (.inl rfl) rfl (aV (aO _)) (by decide) (fun _=>trivial) (congrArg (fun z=>FV.one (tv (.string z))) (congrArg aC (Kg (.inr (Int.sign_eq_zero_iff_zero.1 (Decidable.byContradiction h8))))))
 (iterate 3 refine cH ?_);refine o1 ?_;refine nl ?_;refine fW rfl ?_;refine sk ?_;refine sq ?_;refine rl ?_;refine o1 ?_;refine o1 ?_;refine nl ?_;refine rt ?_
 exact en (.inl rfl) rfl (aV (aO _)) (by decide) (fun _=>trivial) (congrArg (fun z=>FV.one (tv (.string z))) (congrArg aC (Kg (.inl h7))))
theorem Kk (l:List Nat):Sz 44 (dX l):=by
 unfold dX
 split
 ·exact(Ex (Ff _ 4) (cB (z:=100) (by omega) (by omega))).mono (by omega)
 exact(cB (z:=0) (by omega) (by omega)).mono (by omega)
theorem IM {a:Fr4}{p:Rat}{j L:Nat}(hj:j≤40) (ha:Qn a p) (hs:Sz L p) (hL:L+100≤1000000):aE true Tryz.prog 17 [] [qF a,.one (tv (.int .i64 ((j:Nat):Int)))] (aN (.one (tv (.string (aC (cD p j)))))):=by
 have h:=Nw (n:=(j:Int)) ha hs hL
 rwa[show aD (j:Int)=j by unfold aD;omega]at h
theorem Rm {p:Rat}{j L:Nat}(hs:Sz L p) (hj:j≤40) (hL:L+100≤10000):(cD p j).length≤999999:=by
 have h1:(dg 4294967296 (hal (p*((10^j:Nat):Rat))).natAbs).length≤L+43:=by
  have h1:=(jR hs (eX j)).1
  have h2:(hal (p*((10^j:Nat):Rat))).natAbs≤(fl (p*((10^j:Nat):Rat))).natAbs+1:=by
   unfold hal
   rw[lN]
   split <;> omega
  have h3:=tL (p*((10^j:Nat):Rat))
  generalize fl (p*((10^j:Nat):Rat))=f at h2 h3
  have h4:=eW (f.natAbs:Int) 1
  have h5:((f.natAbs:Int)+1).natAbs=f.natAbs+1:=by omega
  rw[h5,Int.natAbs_natCast]at h4
  have h6:(dg 4294967296 (1:Int).natAbs).length≤1:=by decide
  have h7:=dC h2
  omega
 have h2:=nM (Nat.le_trans (dC (Nat.div_le_self _ (10^j))) h1)
 have h4:=yE (n:=(hal (p*((10^j:Nat):Rat))).natAbs) (d:=j)
 unfold cD pt
 split
 ·rw[List.length_cons,h4]
  split <;> omega
 rw[h4]
 split <;> omega
theorem Nx {a:Fr4}{p:Rat}{L:Nat}(ha:Qn a p) (hs:Sz L p) (hL:L+102≤10000):aE true Tryz.prog 20 [] [qF a] (aN (.one (tv (.string (aC (qH p)))))):=by
 refine bF Tryz.func20 rfl Tryz.ntmps20 rfl aA rfl fun N9 w9 c0 h0=>?_
 have hX:Sz (L+2) (p*((100:Int):Rat)):=jR hs (cB (by omega) (by omega))
 refine sq ?_;refine rl ?_;refine bx 0 ?_;refine o1 ?_;refine nl ?_;refine sq ?_;refine rl ?_;refine ld ?_;refine ca (gS ha) pJ ⟨aB rfl,rfl⟩ (qF (.of p)) ?_;refine st ?_
 refine nl ?_;refine sq ?_;refine sq ?_;refine rd [0] (fun i=>[].contains i) mixed ?_
 refine aW 0 ?_;refine aJ 1 rfl (Ab (Qn.of (p:=p) (hs.mono (M:=68719476736) (by omega)))) Vn ⟨aB rfl,rfl⟩ (.one (tv (.int .i64 p.num.sign))) ?_
 refine df 2 ?_;refine df 3 ?_;refine WD.split (t:=12) rfl rfl (fun h1=>?_) (fun h1=>?_)
 ·refine dH 4 ?_;refine dH 5 ?_;refine dH 6 ?_;refine dH 7 ?_;refine df 8 ?_;refine aU ?_;refine fX rfl ?_;refine sq ?_;refine rl ?_;refine o1 ?_;refine nl ?_;refine rt ?_
  exact en (.inl rfl) rfl (aV (aO _)) (by decide) (fun _=>trivial) (congrArg (fun z=>FV.one (tv (.string z))) (congrArg aC (qI (.inl (iI.1 (Int.sign_neg_iff.1 h1)))).symm))
 refine aW 4 ?_;refine aJ 5 rfl (iC (n:=1) (by omega) (by omega)) rQ ⟨a1 rfl,rfl⟩ (qF (.of ((1:Int):Rat))) ?_
 refine aJ 6 rfl (Fq (Qn.of (p:=p) (hs.mono (M:=68719476736) (by omega))) (Qn.of (p:=((1:Int):Rat)) ((cB (by omega) (by omega)).mono (M:=68719476736) (by omega))) (hs.mono (M:=17179869184) (by omega)) ((cB (by omega) (by omega)).mono (M:=17179869184) (by omega))) Vt ⟨aB rfl,aB rfl,rfl⟩ (.one (tv (.int .i64 (p-((1:Int):Rat)).num.sign))) ?_
 refine df 7 ?_;refine df 8 ?_;refine aU ?_;refine bR rfl (fun h2=>?_) (fun h2=>?_)
 ·refine sq ?_;refine rl ?_;refine o1 ?_;refine nl ?_;refine rt ?_
  exact en (.inl rfl) rfl (aV (aO _)) (by decide) (fun _=>trivial) (congrArg (fun z=>FV.one (tv (.string z))) (congrArg aC (qI (.inr (.inl (Yn h2)))).symm))
 refine sk ?_;refine sq ?_;refine sq ?_;have h0p:0≤p:=Rat.not_lt.1 (fun h9=>h1 (Int.sign_neg_iff.2 (iI.2 h9)))
 have h1p:p≤((1:Int):Rat):=Rat.not_lt.1 (fun h9=>h2 (Fg h9))
 refine rl ?_;refine o1 ?_;refine nl ?_;refine bl ?_
 refine lp (γ:=Nat) (fun s=>cE [(1,.one (.pt 0 0)),(3,.one (tv (.int .i64 ((s:Nat):Int))))]) (fun s=>[(⟨33,0,((Fr4.of p).tr false).map .t⟩:Ob)].map some) (fun s=>s≤5∧∀i,i<s→p≠dX (cD (p*((100:Int):Rat)) i++[37])) (fun s=>5-s) 0 ⟨Nat.zero_le _,fun i hi=>absurd hi (Nat.not_lt_zero i)⟩ (aQ h0 [0] _ _ (by decide) ⟨rfl,rfl,trivial⟩ ⟨oe rfl rfl,rfl⟩) ?_
 rintro j ⟨hj,hn⟩;refine sq ?_;refine sq ?_;refine rl ?_;refine o1 ?_;refine o1 ?_;refine nl ?_;refine bR rfl (fun h3=>?_) (fun h3=>?_)
 ·refine sk ?_;refine sq ?_;refine bl ?_;refine sq ?_;have hWl:Lim 256 ((cD (p*((100:Int):Rat)) j)++[37]):=(tQ _ _).append (Lim.cons (by omega) Lim.nil)
  have hWj:(cD (p*((100:Int):Rat)) j).length≤999999:=Rm hX (by omega) (by omega)
  have hWn:((cD (p*((100:Int):Rat)) j)++[37]).length≤1000000:=by rw[List.length_append];show _+1≤_;omega
  refine rd [0] (fun i=>[5].contains i) mixed ?_
  refine aW 0 ?_;refine dv 3 ?_;refine aJ 1 rfl (iC (n:=100) (by omega) (by omega)) rQ ⟨a1 rfl,rfl⟩ (qF (.of ((100:Int):Rat))) ?_
  refine aJ 2 rfl (yI (Qn.of (p:=p) (hs.mono (M:=68719476736) (by omega))) (Qn.of (p:=((100:Int):Rat)) ((cB (by omega) (by omega)).mono (M:=68719476736) (by omega))) (hs.mono (M:=17179869184) (by omega)) ((cB (by omega) (by omega)).mono (M:=17179869184) (by omega))) Ns ⟨aB rfl,aB rfl,rfl⟩ (qF (.of (p*((100:Int):Rat)))) ?_
  refine aJ 4 rfl (IM (p:=(p*((100:Int):Rat))) (j:=j) (by omega) (Qn.of (p:=(p*((100:Int):Rat))) (hX.mono (M:=68719476736) (by omega))) hX (by omega)) Vx ⟨aB rfl,a1 rfl,rfl⟩ (.one (tv (.string (aC (cD (p*((100:Int):Rat)) j))))) ?_
  refine cZ 5 (by kernel_rfl) rfl rfl aA rfl (by trivial) ?_ (fun h=>by first | rfl | cases h)
  refine aU ?_;refine sq ?_;refine rl ?_;refine o1 ?_;refine o1 ?_ (hC:=(by rw[aF];show _+1≤_;omega))
  refine WL.cast (t:=29) (u':=.string (aC ((cD (p*((100:Int):Rat)) j)++[37]))) rfl (congrArg Value.string (fZ _ [37])) ?_
  refine ca (BZ (l:=(cD (p*((100:Int):Rat)) j)++[37]) hWl hWn) RP ⟨a1 rfl,rfl⟩ (.tup [qF (.of (dX ((cD (p*((100:Int):Rat)) j)++[37]))),.one (tv (.int .i64 (eU ((cD (p*((100:Int):Rat)) j)++[37]))))]) ?_
  (iterate 3 refine o1 ?_);refine al 1 ?_;refine st ?_;refine o1 ?_;refine nl ?_;refine sq ?_;refine rl ?_;refine ld ?_;refine ld ?_
  refine ca (CG (Qn.of (p:=p) (hs.mono (M:=68719476736) (by omega))) (Qn.of (p:=(dX ((cD (p*((100:Int):Rat)) j)++[37]))) ((Kk _).mono (M:=68719476736) (by omega))) (hs.mono (by omega)) ((Kk _).mono (by omega))) RQ ⟨aB rfl,aB rfl,rfl⟩ (.one (tv (.bool (decide (p=(dX ((cD (p*((100:Int):Rat)) j)++[37]))))))) ?_
  refine nl ?_;refine iL rfl (fun h4=>?_) (fun h4=>?_)
  ·refine sq ?_;refine rl ?_;refine o1 ?_;refine o1 ?_ (hC:=(by rw[aF];show _+1≤_;omega))
   refine WL.cast (t:=37) (u':=.string (aC ((cD (p*((100:Int):Rat)) j)++[37]))) rfl (congrArg Value.string (fZ _ [37])) ?_;refine o1 ?_;refine nl ?_;refine rt ?_
   exact en (.inl rfl) rfl (aV (aO _)) (by decide) (fun _=>trivial) (congrArg (fun z=>FV.one (tv (.string z))) (congrArg aC (IJ h0p h1p (by omega) (of_decide_eq_true h4) hn)))
  refine sk ?_;refine rl ?_;refine o1 ?_;refine o1 ?_;refine WL.cast (t:=21) (u':=.int .i64 ((j+1:Nat):Int)) rfl (aI (by omega)) ?_
  refine o1 ?_;refine nl ?_
  exact⟨j+1,by omega,⟨by omega,fun i hi=>(by rcases Nat.lt_or_ge i j with h9 | h9;exact hn i h9;rw[show i=j by omega];exact of_decide_eq_false h4)⟩,aQ h0 [0] _ _ (by decide) ⟨rfl,rfl,trivial⟩ ⟨oe rfl rfl,rfl⟩⟩
 refine ex ?_;refine sq ?_;refine rl ?_;refine o1 ?_;refine nl ?_;refine rt ?_;have hn5:∀i,i<5→p≠dX (cD (p*((100:Int):Rat)) i++[37]):=fun i hi=>hn i (by omega)
 exact en (.inl rfl) rfl (aV (aO _)) (by decide) (fun _=>trivial) (congrArg (fun z=>FV.one (tv (.string z))) (congrArg aC (CF h0p h1p hn5)))
theorem Km {a:Zi}(ha:a.x.length≤1000000):aE true Tryz.prog 39 [] [gF a] (aN (.agg [tv (.bool a.s),.t (sU true a.x)])):=by
 refine bF Tryz.func39 rfl Tryz.ntmps39 rfl aA rfl fun N9 w9 c0 h0=>?_
 refine sq ?_;refine rl ?_;refine bx 0 ?_;refine al 1 ?_;refine nl ?_;refine sq ?_;refine rl ?_;refine o1 ?_;refine nl ?_;refine sq ?_;refine rl ?_;refine o1 ?_;refine o1 ?_;refine ld ?_
 refine jU (j:=2) aA rfl rfl rfl rfl .nil .fz (IN _) (Vy _) rfl (by omega) (by omega) ?_
 refine o1 ?_;refine nl ?_;refine sq ?_;refine rl ?_;refine o1 ?_;refine ld ?_;refine o1 ?_;refine o1 ?_;refine st ?_;refine nl ?_;refine rt ?_
 exact en (.inl rfl) rfl (aV (.agg (.cons (.id rfl) (.cons (.sl (trs:=aR a.x) rfl rfl (by rw[Nat.zero_add,Nat.mul_one,List.nil_append,List.take_of_length_le (by simp[gA])]) (by simp[gA])) .nil)))) (by decide) (fun _=>⟨trivial,.inl ⟨rfl,dU a.x⟩,trivial⟩) (by simp[aN,sU,tv])
theorem ND {a:Fr4}(h1:a.x.length≤1000000) (h2:a.y.length≤1000000):aE false Tryz.prog 15 [] [qF a] (aN (qF a)):=by
 refine bF Tryz.func15 rfl Tryz.ntmps15 rfl aA rfl fun N9 w9 c0 h0=>?_
 refine sq ?_;refine rl ?_;refine bx 0 ?_;refine al 1 ?_;refine nl ?_;refine sq ?_;refine rd [0,1] (fun i=>[7].contains i) mixed ?_
 refine dv 0 ?_;refine aW 1 ?_;refine dv 3 ?_;refine aW 4 ?_;refine aJ 2 rfl (Km (a:=⟨a.s,a.x⟩) h1) IP ⟨aB rfl,rfl⟩ (.agg [tv (.bool a.s),.t (sU false a.x)]) ?_
 refine aJ 5 rfl (Km (a:=⟨a.t,a.y⟩) h2) IP ⟨aB rfl,rfl⟩ (.agg [tv (.bool a.t),.t (sU false a.y)]) ?_;refine df 6 ?_;refine dst 7 ?_;refine aU ?_;refine rt ?_
 exact en (.inl rfl) rfl (aV (.agg (.cons (.id rfl) (.cons (.id rfl) (.cons (.id rfl) (.cons (.id rfl) .nil)))))) (by decide) (fun h=>by cases h) rfl
theorem NE {n d:Int}(h1:-9223372036854775808≤n) (h2:n≤9223372036854775807) (h3:-9223372036854775808≤d) (h4:d≤9223372036854775807):aE false Tryz.prog 73 [] [.one (tv (.int .i64 n)),.one (tv (.int .i64 d))] (aN (.tup [qF (.of (Rat.divInt n d)),.one (tv (.int .i64 (if d=0 then 20 else 0)))])):=by
 refine bF Tryz.func73 rfl Tryz.ntmps73 rfl aA rfl fun N9 w9 c0 h0=>?_
 refine sq ?_;refine rl ?_;refine al 0 ?_;refine o1 ?_;refine nl ?_;refine sq ?_;refine rl ?_;refine o1 ?_;refine ca (wJ (n:=n) (by omega) (by omega)) wK ⟨a1 rfl,rfl⟩ (kF n) ?_
 refine o1 ?_;refine ca (wJ (n:=d) (by omega) (by omega)) wK ⟨a1 rfl,rfl⟩ (kF d) ?_
 refine ca (Nd (Zn.of (k:=n) (Nat.le_trans (mM h1 h2) (by omega))) (Zn.of (k:=d) (Nat.le_trans (mM h3 h4) (by omega)))) Ux ⟨aB rfl,aB rfl,rfl⟩ (.tup [qF (.of (Rat.divInt n d)),.one (tv (.int .i64 (if d=0 then 20 else 0)))]) ?_
 refine o1 ?_;refine o1 ?_;refine st ?_;refine o1 ?_;refine nl ?_;refine rt ?_
 exact en (.inl rfl) rfl (dB (.cons (.agg (.cons (.id rfl) (.cons (.id rfl) (.cons (.id rfl) (.cons (.id rfl) .nil))))) (.cons (aO _) .nil))) (by decide) (fun h=>by cases h) rfl
theorem pM {n d:Int}(h1:-9223372036854775808≤n) (h2:n≤9223372036854775807) (h3:-9223372036854775808≤d) (h4:d≤9223372036854775807):aE false Tryz.prog 30 [] [.one (tv (.int .i64 n)),.one (tv (.int .i64 d))] (aN (qF (.of (Rat.divInt n d)))):=by
 refine bF Tryz.func30 rfl Tryz.ntmps30 rfl aA rfl fun N9 w9 c0 h0=>?_
 refine sq ?_;refine rl ?_;refine al 0 ?_;refine nl ?_;refine sq ?_;refine rl ?_;refine o1 ?_;refine o1 ?_
 refine ca (NE h1 h2 h3 h4) RR ⟨a1 rfl,a1 rfl,rfl⟩ (.tup [qF (.of (Rat.divInt n d)),.one (tv (.int .i64 (if d=0 then 20 else 0)))]) ?_;(iterate 3 refine o1 ?_);refine al 1 ?_;refine st ?_
 refine o1 ?_;refine nl ?_;refine sq ?_;refine rl ?_;refine ld ?_;refine st ?_;refine nl ?_;refine rt ?_
 exact en (.inl rfl) rfl (aV (.agg (.cons (.id rfl) (.cons (.id rfl) (.cons (.id rfl) (.cons (.id rfl) .nil)))))) (by decide) (fun h=>by cases h) (rfl)
theorem TC:aE false Tryz.prog 8 [] [.one (tv (.string ⟨#[45,49,50,46,53,48]⟩))] (aN (.tup [qF (.of (Rat.divInt (-25) 2)),.one (tv (.int .i64 0))])):=by
 have h:=BN (l:=[45,49,50,46,53,48]) (show∀x∈[45,49,50,46,53,48],x<256 by decide) (by decide)
 rwa[show dE [45,49,50,46,53,48] [45,49,50,46,53,48].length=(Rat.divInt (-25) 2) by decide+kernel,show fB [45,49,50,46,53,48] [45,49,50,46,53,48].length=0 by decide+kernel]at h
theorem TD:aE false Tryz.prog 9 [] [.one (tv (.string ⟨#[48,46,48,53]⟩))] (aN (.tup [qF (.of (Rat.divInt 1 20)),.one (tv (.int .i64 0))])):=by
 have h:=Fd (l:=[48,46,48,53]) (show∀x∈[48,46,48,53],x<256 by decide) (by decide)
 rwa[show dE [48,46,48,53] 2=(Rat.divInt 1 20) by decide+kernel,show fB [48,46,48,53] 2=0 by decide+kernel]at h
theorem TE:aE false Tryz.prog 9 [] [.one (tv (.string ⟨#[49,46,48,48,53]⟩))] (aN (.tup [qF (.of (0:Rat)),.one (tv (.int .i64 60))])):=by
 have h:=Fd (l:=[49,46,48,48,53]) (show∀x∈[49,46,48,48,53],x<256 by decide) (by decide)
 rwa[show dE [49,46,48,48,53] 2=(0:Rat) by decide+kernel,show fB [49,46,48,48,53] 2=60 by decide+kernel]at h
theorem TF:aE false Tryz.prog 10 [] [.one (tv (.string ⟨#[51,55,46,53,37]⟩))] (aN (.tup [qF (.of (Rat.divInt 3 8)),.one (tv (.int .i64 0))])):=by
 have h:=uY (l:=[51,55,46,53,37]) (show∀x∈[51,55,46,53,37],x<256 by decide) (by decide)
 rwa[show dX [51,55,46,53,37]=(Rat.divInt 3 8) by decide+kernel,show eU [51,55,46,53,37]=0 by decide+kernel]at h
theorem TG:aE false Tryz.prog 10 [] [.one (tv (.string ⟨#[49,48,48,37]⟩))] (aN (.tup [qF (.of (Rat.divInt 1 1)),.one (tv (.int .i64 0))])):=by
 have h:=uY (l:=[49,48,48,37]) (show∀x∈[49,48,48,37],x<256 by decide) (by decide)
 rwa[show dX [49,48,48,37]=(Rat.divInt 1 1) by decide+kernel,show eU [49,48,48,37]=0 by decide+kernel]at h
theorem TH:aE false Tryz.prog 10 [] [.one (tv (.string ⟨#[49,48,48,46,49,37]⟩))] (aN (.tup [qF (.of (0:Rat)),.one (tv (.int .i64 60))])):=by
 have h:=uY (l:=[49,48,48,46,49,37]) (show∀x∈[49,48,48,46,49,37],x<256 by decide) (by decide)
 rwa[show dX [49,48,48,46,49,37]=(0:Rat) by decide+kernel,show eU [49,48,48,46,49,37]=60 by decide+kernel]at h
theorem TJ:aE false Tryz.prog 10 [] [.one (tv (.string ⟨#[53]⟩))] (aN (.tup [qF (.of (0:Rat)),.one (tv (.int .i64 60))])):=by
 have h:=uY (l:=[53]) (show∀x∈[53],x<256 by decide) (by decide)
 rwa[show dX [53]=(0:Rat) by decide+kernel,show eU [53]=60 by decide+kernel]at h
theorem TL:aE true Tryz.prog 18 [] [qF (.of (Rat.divInt 1 8))] (aN (.one (tv (.string (aC [48,46,49,50]))))):=by
 have h:=uZ (Qn.of (p:=(Rat.divInt 1 8)) ((gU (by omega) (by omega) (by omega) (by omega)).mono (M:=68719476736) (by omega))) (gU (by omega) (by omega) (by omega) (by omega)) (by omega)
 rwa[show(cD (Rat.divInt 1 8) (aD 2))=[48,46,49,50] by decide+kernel]at h
theorem TM:aE true Tryz.prog 18 [] [qF (.of (Rat.divInt 3 8))] (aN (.one (tv (.string (aC [48,46,51,56]))))):=by
 have h:=uZ (Qn.of (p:=(Rat.divInt 3 8)) ((gU (by omega) (by omega) (by omega) (by omega)).mono (M:=68719476736) (by omega))) (gU (by omega) (by omega) (by omega) (by omega)) (by omega)
 rwa[show(cD (Rat.divInt 3 8) (aD 2))=[48,46,51,56] by decide+kernel]at h
theorem TN:aE true Tryz.prog 18 [] [qF (.of (Rat.divInt (-1) 1000))] (aN (.one (tv (.string (aC [48,46,48,48]))))):=by
 have h:=uZ (Qn.of (p:=(Rat.divInt (-1) 1000)) ((gU (by omega) (by omega) (by omega) (by omega)).mono (M:=68719476736) (by omega))) (gU (by omega) (by omega) (by omega) (by omega)) (by omega)
 rwa[show(cD (Rat.divInt (-1) 1000) (aD 2))=[48,46,48,48] by decide+kernel]at h
theorem TO:aE true Tryz.prog 16 [] [qF (.of (Rat.divInt 7 2)),.one (tv (.int .i64 0))] (aN (.one (tv (.string (aC [52]))))):=by
 have h:=Dg (n:=0) (Qn.of (p:=(Rat.divInt 7 2)) ((gU (by omega) (by omega) (by omega) (by omega)).mono (M:=68719476736) (by omega))) (gU (by omega) (by omega) (by omega) (by omega)) (by omega)
 rwa[show(cD (Rat.divInt 7 2) (aD 0))=[52] by decide+kernel]at h
theorem TP:aE true Tryz.prog 19 [] [qF (.of (Rat.divInt 3 8))] (aN (.one (tv (.string (aC [51,55,46,53,37]))))):=by
 have h:=rK (Qn.of (p:=(Rat.divInt 3 8)) ((gU (by omega) (by omega) (by omega) (by omega)).mono (M:=68719476736) (by omega))) (gU (by omega) (by omega) (by omega) (by omega)) (by omega)
 rwa[show(qH (Rat.divInt 3 8))=[51,55,46,53,37] by decide+kernel]at h
theorem TQ:aE true Tryz.prog 19 [] [qF (.of (Rat.divInt 1 3))] (aN (.one (tv (.string (aC []))))):=by
 have h:=rK (Qn.of (p:=(Rat.divInt 1 3)) ((gU (by omega) (by omega) (by omega) (by omega)).mono (M:=68719476736) (by omega))) (gU (by omega) (by omega) (by omega) (by omega)) (by omega)
 rwa[show(qH (Rat.divInt 1 3))=[] by decide+kernel]at h
theorem yN {p:Rat}(h:Sz 68719476736 p):aE true Tryz.prog 27 [] [qF (.of p),qF (.of p)] (aN (.one (tv (.int .i64 0)))):=by
 have h1:=Nc (Qn.of (p:=p) h) (Qn.of (p:=p) h)
 rwa[show p-p=0 by grind]at h1
theorem wT:aE true Tryz.prog 7 [] [] (aN (.one (tv (.bool true)))):=by
 refine bF Tryz.func7 rfl Tryz.ntmps7 rfl aA rfl fun N9 w9 c0 h0=>?_
 refine sq ?_;refine rl ?_;refine o1 ?_;refine nl ?_;refine sq ?_;refine rl ?_;refine ca (TC) TR ⟨a1 rfl,rfl⟩ (.tup [qF (.of (Rat.divInt (-25) 2)),.one (tv (.int .i64 0))]) ?_
 (iterate 3 refine o1 ?_);refine al 0 ?_;refine st ?_;refine o1 ?_;refine nl ?_;refine sq ?_;refine rl ?_
 refine ca (TD) PS ⟨a1 rfl,rfl⟩ (.tup [qF (.of (Rat.divInt 1 20)),.one (tv (.int .i64 0))]) ?_;(iterate 3 refine o1 ?_);refine al 1 ?_;refine st ?_;refine o1 ?_;refine nl ?_;refine sq ?_
 refine rl ?_;refine ca (TE) PS ⟨a1 rfl,rfl⟩ (.tup [qF (.of (0:Rat)),.one (tv (.int .i64 60))]) ?_;(iterate 3 refine o1 ?_);refine al 2 ?_;refine st ?_;refine o1 ?_;refine nl ?_
 refine sq ?_;refine rl ?_;refine ca (TF) Ny ⟨a1 rfl,rfl⟩ (.tup [qF (.of (Rat.divInt 3 8)),.one (tv (.int .i64 0))]) ?_;(iterate 3 refine o1 ?_);refine al 3 ?_;refine st ?_;refine o1 ?_
 refine nl ?_;refine sq ?_;refine rl ?_;refine ca (TG) Ny ⟨a1 rfl,rfl⟩ (.tup [qF (.of (Rat.divInt 1 1)),.one (tv (.int .i64 0))]) ?_;(iterate 3 refine o1 ?_);refine al 4 ?_;refine st ?_
 refine o1 ?_;refine nl ?_;refine sq ?_;refine rl ?_;refine ca (TH) Ny ⟨a1 rfl,rfl⟩ (.tup [qF (.of (0:Rat)),.one (tv (.int .i64 60))]) ?_;(iterate 3 refine o1 ?_);refine al 5 ?_
 refine st ?_;refine o1 ?_;refine nl ?_;refine sq ?_;refine rl ?_;refine ca (TJ) Ny ⟨a1 rfl,rfl⟩ (.tup [qF (.of (0:Rat)),.one (tv (.int .i64 60))]) ?_;(iterate 3 refine o1 ?_)
 refine al 6 ?_;refine st ?_;refine o1 ?_;refine nl ?_;refine sq ?_;refine rd [0,1,2,3,4,5,6] (fun i=>[80].contains i) mixed ?_
 refine dv 0 ?_;refine dv 1 ?_;refine dv 2 ?_;refine WD.split (t:=45) rfl rfl (fun h1=>?_) (fun h1=>?_)
 ·refine aW 3 ?_;refine aJ 4 rfl (pM (n:=(-25)) (d:=2) (by omega) (by omega) (by omega) (by omega)) pN ⟨a1 rfl,a1 rfl,rfl⟩ (qF (.of (Rat.divInt (-25) 2))) ?_
  refine aJ 5 rfl (yN (p:=(Rat.divInt (-25) 2)) ((gU (by omega) (by omega) (by omega) (by omega)).mono (M:=68719476736) (by omega))) zZ ⟨aB rfl,aB rfl,rfl⟩ (.one (tv (.int .i64 0))) ?_
  refine df 6 ?_;refine df 7 ?_;refine df 8 ?_;refine WD.split (t:=51) rfl rfl (fun h2=>?_) (fun h2=>?_)
  ·refine dv 9 ?_;refine dv 10 ?_;refine df 11 ?_;refine df 12 ?_;refine WD.split (t:=55) rfl rfl (fun h3=>?_) (fun h3=>?_)
   ·refine aW 13 ?_;refine aJ 14 rfl (pM (n:=1) (d:=20) (by omega) (by omega) (by omega) (by omega)) pN ⟨a1 rfl,a1 rfl,rfl⟩ (qF (.of (Rat.divInt 1 20))) ?_
    refine aJ 15 rfl (yN (p:=(Rat.divInt 1 20)) ((gU (by omega) (by omega) (by omega) (by omega)).mono (M:=68719476736) (by omega))) zZ ⟨aB rfl,aB rfl,rfl⟩ (.one (tv (.int .i64 0))) ?_
    refine df 16 ?_;refine df 17 ?_;refine df 18 ?_;refine WD.split (t:=61) rfl rfl (fun h4=>?_) (fun h4=>?_)
    ·refine dv 19 ?_;refine dv 20 ?_;refine df 21 ?_;refine df 22 ?_;refine WD.split (t:=65) rfl rfl (fun h5=>?_) (fun h5=>?_)
     ·refine dv 23 ?_;refine dv 24 ?_;refine df 25 ?_;refine df 26 ?_;refine WD.split (t:=69) rfl rfl (fun h6=>?_) (fun h6=>?_)
      ·refine aW 27 ?_;refine aJ 28 rfl (pM (n:=3) (d:=8) (by omega) (by omega) (by omega) (by omega)) pN ⟨a1 rfl,a1 rfl,rfl⟩ (qF (.of (Rat.divInt 3 8))) ?_
       refine aJ 29 rfl (yN (p:=(Rat.divInt 3 8)) ((gU (by omega) (by omega) (by omega) (by omega)).mono (M:=68719476736) (by omega))) zZ ⟨aB rfl,aB rfl,rfl⟩ (.one (tv (.int .i64 0))) ?_
       refine df 30 ?_;refine df 31 ?_;refine df 32 ?_;refine WD.split (t:=75) rfl rfl (fun h7=>?_) (fun h7=>?_)
       ·refine dv 33 ?_;refine dv 34 ?_;refine df 35 ?_;refine df 36 ?_;refine WD.split (t:=79) rfl rfl (fun h8=>?_) (fun h8=>?_)
        ·refine aW 37 ?_;refine aJ 38 rfl (pM (n:=1) (d:=1) (by omega) (by omega) (by omega) (by omega)) pN ⟨a1 rfl,a1 rfl,rfl⟩ (qF (.of (Rat.divInt 1 1))) ?_
         refine aJ 39 rfl (yN (p:=(Rat.divInt 1 1)) ((gU (by omega) (by omega) (by omega) (by omega)).mono (M:=68719476736) (by omega))) zZ ⟨aB rfl,aB rfl,rfl⟩ (.one (tv (.int .i64 0))) ?_
         refine df 40 ?_;refine df 41 ?_;refine df 42 ?_;refine WD.split (t:=85) rfl rfl (fun h9=>?_) (fun h9=>?_)
         ·refine dv 43 ?_;refine dv 44 ?_;refine df 45 ?_;refine df 46 ?_;refine WD.split (t:=89) rfl rfl (fun h10=>?_) (fun h10=>?_)
          ·refine dv 47 ?_;refine dv 48 ?_;refine df 49 ?_;refine df 50 ?_;refine WD.split (t:=93) rfl rfl (fun h11=>?_) (fun h11=>?_)
           ·refine aJ 51 rfl (pM (n:=1) (d:=8) (by omega) (by omega) (by omega) (by omega)) pN ⟨a1 rfl,a1 rfl,rfl⟩ (qF (.of (Rat.divInt 1 8))) ?_
            refine aJ 52 rfl (TL) Nz ⟨aB rfl,rfl⟩ (.one (tv (.string (aC [48,46,49,50])))) ?_;refine df 53 ?_
            refine WD.cast (t:=96) (u':=.bool true) rfl (congrArg Value.bool ((jB (l:=[48,46,49,50]) (l':=[48,46,49,50]) (show∀x∈([48,46,49,50]:List Nat),x<256 by decide) (show∀x∈([48,46,49,50]:List Nat),x<256 by decide)).trans (decide_eq_true rfl))) ?_
            refine df 54 ?_;refine df 55 ?_
            refine aJ 56 rfl (pM (n:=3) (d:=8) (by omega) (by omega) (by omega) (by omega)) pN ⟨a1 rfl,a1 rfl,rfl⟩ (qF (.of (Rat.divInt 3 8))) ?_
            refine aJ 57 rfl (TM) Nz ⟨aB rfl,rfl⟩ (.one (tv (.string (aC [48,46,51,56])))) ?_;refine df 58 ?_
            refine WD.cast (t:=101) (u':=.bool true) rfl (congrArg Value.bool ((jB (l:=[48,46,51,56]) (l':=[48,46,51,56]) (show∀x∈([48,46,51,56]:List Nat),x<256 by decide) (show∀x∈([48,46,51,56]:List Nat),x<256 by decide)).trans (decide_eq_true rfl))) ?_
            refine df 59 ?_;refine df 60 ?_
            refine aJ 61 rfl (pM (n:=(-1)) (d:=1000) (by omega) (by omega) (by omega) (by omega)) pN ⟨a1 rfl,a1 rfl,rfl⟩ (qF (.of (Rat.divInt (-1) 1000))) ?_
            refine aJ 62 rfl (TN) Nz ⟨aB rfl,rfl⟩ (.one (tv (.string (aC [48,46,48,48])))) ?_;refine df 63 ?_
            refine WD.cast (t:=106) (u':=.bool true) rfl (congrArg Value.bool ((jB (l:=[48,46,48,48]) (l':=[48,46,48,48]) (show∀x∈([48,46,48,48]:List Nat),x<256 by decide) (show∀x∈([48,46,48,48]:List Nat),x<256 by decide)).trans (decide_eq_true rfl))) ?_
            refine df 64 ?_;refine df 65 ?_
            refine aJ 66 rfl (pM (n:=7) (d:=2) (by omega) (by omega) (by omega) (by omega)) pN ⟨a1 rfl,a1 rfl,rfl⟩ (qF (.of (Rat.divInt 7 2))) ?_
            refine aJ 67 rfl (TO) Ni ⟨aB rfl,a1 rfl,rfl⟩ (.one (tv (.string (aC [52])))) ?_;refine df 68 ?_
            refine WD.cast (t:=111) (u':=.bool true) rfl (congrArg Value.bool ((jB (l:=[52]) (l':=[52]) (show∀x∈([52]:List Nat),x<256 by decide) (show∀x∈([52]:List Nat),x<256 by decide)).trans (decide_eq_true rfl))) ?_
            refine df 69 ?_;refine df 70 ?_
            refine aJ 71 rfl (pM (n:=3) (d:=8) (by omega) (by omega) (by omega) (by omega)) pN ⟨a1 rfl,a1 rfl,rfl⟩ (qF (.of (Rat.divInt 3 8))) ?_
            refine aJ 72 rfl (TP) Vz ⟨aB rfl,rfl⟩ (.one (tv (.string (aC [51,55,46,53,37])))) ?_;refine df 73 ?_
            refine WD.cast (t:=116) (u':=.bool true) rfl (congrArg Value.bool ((jB (l:=[51,55,46,53,37]) (l':=[51,55,46,53,37]) (show∀x∈([51,55,46,53,37]:List Nat),x<256 by decide) (show∀x∈([51,55,46,53,37]:List Nat),x<256 by decide)).trans (decide_eq_true rfl))) ?_
            refine df 74 ?_;refine df 75 ?_
            refine aJ 76 rfl (pM (n:=1) (d:=3) (by omega) (by omega) (by omega) (by omega)) pN ⟨a1 rfl,a1 rfl,rfl⟩ (qF (.of (Rat.divInt 1 3))) ?_
            refine aJ 77 rfl (TQ) Vz ⟨aB rfl,rfl⟩ (.one (tv (.string (aC [])))) ?_;refine df 78 ?_
            refine WD.cast (t:=121) (u':=.bool true) rfl (congrArg Value.bool ((jB (l:=[]) (l':=[]) (show∀x∈([]:List Nat),x<256 by decide) (show∀x∈([]:List Nat),x<256 by decide)).trans (decide_eq_true rfl))) ?_
            refine df 79 ?_;refine cZ 80 (by kernel_rfl) rfl rfl aA rfl (by trivial) ?_ (fun h=>by first | rfl | cases h)
            refine aU ?_;refine rt ?_;exact nX (.inl rfl) rfl (rfl)
           exact absurd rfl h11
          exact absurd rfl h10
         exact absurd rfl h9
        exact absurd rfl h8
       exact absurd rfl h7
      exact absurd rfl h6
     exact absurd rfl h5
    exact absurd rfl h4
   exact absurd rfl h3
  exact absurd rfl h2
 exact absurd rfl h1
end Go.Proofs.YtcaakamelngceaaGreatDoor
namespace Go.Proofs.YtcaakamelngceaaGreatDoor
open Go Go.RowKit Go.ChangeShapes
def Reads (P:Program) (t:TypeId) (z:Nat) (T:List Tr→Prop):Prop:=
 P.cellsOf t=z∧∀(H:Type) (enc:TypeId×Value→H) (w:World) (fuel:Nat) (cs:List Value) (x:DataW H×List MemPlace),DataW.trod enc P w 0 (fun _=>true) true fuel t cs=some x→∃l,T l∧l.length=z∧FRL w (vS w) l cs
theorem Kn {W:World}{N:Nat→Prop}:∀{l l':List Tr}{us us':List Value},FRL W N l us→FRL W N l' us'→FRL W N (l++l') (us++us')
 | [],l',us,us',h,h'=>by simp only[FRL]at h;subst h;exact h'
 | x::l,l',u::us,us',h,h'=>by simp only[FRL,List.cons_append]at*;exact⟨h.1,Kn h.2 h'⟩
 | _::_,_,[],_,h,_=>by simp only[FRL]at h
theorem Ko {W:World}{N:Nat→Prop}:∀{l:List Tr}{us:List Value}{j:Nat}{x:Tr},FRL W N l us→l[j]? =some x→∃u,us[j]? =some u∧FR W N x u
 | [],_,_,_,_,h=>by simp at h
 | y::l,u::us,0,x,h,e=>by
  simp only[FRL]at h
  simp at e
  subst e
  exact⟨u,rfl,h.1⟩
 | y::l,u::us,j+1,x,h,e=>by
  simp only[FRL]at h
  exact Ko (j:=j) h.2 (by simpa using e)
 | _::_,[],_,_,h,_=>by simp only[FRL]at h
section
variable {P:Program}{t e:TypeId}{k:IntKind}{z:Nat}{T T':List Tr→Prop}
theorem Reads.mono (h:Reads P t z T) (hi:∀l,T l→T' l):Reads P t z T':=⟨h.1,fun H enc w fuel cs x hx=>let ⟨l,a,b⟩:=h.2 H enc w fuel cs x hx;⟨l,hi l a,b⟩⟩
theorem CJ (ht:P.underlying t=some .bool) (hz:P.cellsOf t=1):Reads P t 1 (fun l=>∃b,l=[.v (.bool b)]):=⟨hz,fun H enc w fuel cs x hx=>by
 obtain⟨b,rfl,_⟩:=DataW.trod_bool ht hx
 exact⟨_,⟨b,rfl⟩,rfl,by simp[FRL,FR]⟩⟩
theorem Rn (ht:P.underlying t=some (.int k)) (hz:P.cellsOf t=1):Reads P t 1 (fun l=>∃n,l=[.v (.int k n)]∧k.min≤n∧n≤k.max):=⟨hz,fun H enc w fuel cs x hx=>by
 obtain⟨n,rfl,_,h⟩:=DataW.trod_int ht hx
 simp only[Lit.wf,Bool.and_eq_true,decide_eq_true_eq]at h
 exact⟨_,⟨n,rfl,h⟩,rfl,by simp[FRL,FR]⟩⟩
inductive Flds (P:Program):Nat→List Field→Nat→(List Tr→Prop)→Prop
 | nil {o:Nat}:Flds P o [] 0 (· =[])
 | cons {o z z':Nat}{f:Field}{fs:List Field}{T T':List Tr→Prop}(ho:f.offset=o) (h:Reads P f.type z T) (h':Flds P (o+z) fs z' T'):Flds P o (f::fs) (z+z') (fun l=>∃a b,l=a++b∧T a∧T' b)
theorem Flds.read {H:Type}{enc:TypeId×Value→H}{w:World}{n o:Nat}{fs:List Field}(h:Flds P o fs z T):∀{cs:List Value},o+z≤cs.length→(∀f∈fs,∃x,DataW.trod enc P w 0 (fun _=>true) true n f.type ((cs.drop f.offset).take (P.cellsOf f.type))=some x)→∃l,T l∧l.length=z∧FRL w (vS w) l ((cs.drop o).take z):=by
 induction h with
 | nil=>exact fun _ _=>⟨[],rfl,rfl,by simp[FRL]⟩
 | @cons o z z' f fs T T' ho hr _ ih=>
  intro cs hl hf
  obtain⟨b,h1,h2,h3⟩:=ih (cs:=cs) (by omega) fun f hm=>hf f (List.mem_cons_of_mem _ hm)
  obtain⟨x,hx⟩:=hf f List.mem_cons_self
  obtain⟨a,g1,g2,g3⟩:=hr.2 H enc w n _ x hx
  rw[ho,hr.1]at g3
  refine⟨a++b,⟨a,b,rfl,g1,h1⟩,by simp[g2,h2],?_⟩
  rw[List.take_add,List.drop_drop]
  exact Kn g3 h3
theorem Bu {fs:List Field}{z':Nat}(ht:P.underlying t=some (.struct fs.toArray)) (hz:P.cellsOf t=z) (h:Flds P 0 fs z' T) (e:z'=z:=by rfl):Reads P t z T:=⟨hz,fun H enc w fuel cs x hx=>by
 subst e
 obtain⟨xs,n,_,rfl,hl,hlen,hf⟩:=DataW.trod_struct ht hx
 rw[hz]at hl
 obtain⟨l,h1,h2,h3⟩:=h.read (H:=H) (enc:=enc) (w:=w) (n:=n) (cs:=cs) (by omega) fun f hm=>by
  obtain⟨i,hi⟩:=List.mem_iff_getElem?.1 hm
  have h1:=hf i f (by simpa using hi)
  have h2:i<xs.length:=by
   have:=(List.getElem?_eq_some_iff.1 hi).1
   simp at hlen
   omega
  rw[List.getElem?_eq_getElem h2]at h1
  exact⟨_,h1⟩
 refine⟨l,h1,h2,?_⟩
 rw[List.drop_zero,List.take_of_length_le (by omega)]at h3
 exact h3⟩
theorem Wa (ht:P.underlying t=some (.slice e)) (hz:P.cellsOf t=1) (hz0:0<z) (h:Reads P e z T):Reads P t 1 (fun l=>∃rows:List (List Tr),(∀r∈rows,T r∧r.length=z)∧l=[.s false e z rows.length rows.flatten]):=⟨hz,fun H enc w fuel cs x hx=>by
 have hlen:∀(rows:List (List Tr)),(∀r∈rows,T r∧r.length=z)→rows.flatten.length=rows.length*z:=by
  intro rows
  induction rows with
  | nil=>intro _;simp
  | cons r rows ih=>
   intro hr
   rw[List.flatten_cons,List.length_append,(hr r List.mem_cons_self).2,ih fun r hm=>hr r (List.mem_cons_of_mem _ hm),List.length_cons,Nat.succ_mul,Nat.add_comm]
 rcases Deep.open_slice ht hx with⟨rfl,_⟩ | ⟨a,len,cap,m,n,D,Pl,rfl,_,hl,hm,hmm,_,hel⟩
 ·refine⟨_,⟨[],fun _ h=>(by cases h),rfl⟩,rfl,?_⟩
  simp only[FRL,FR,and_true]
  exact⟨none,0,rfl,Nat.le_refl _,by omega,by simp,.inl rfl⟩
 have hmc:m=cap:=by simpa using hmm
 rw[h.1]at hel
 have hex:∀i:Nat,∃l:List Tr,i<len→T l∧l.length=z∧∀j y,l[j]? =some y→∃u,w.cell? ((a.add (i*z)).add j)=some u∧FR w (vS w) y u:=fun i=>by
  by_cases hi:i<len
  ·obtain⟨cs',h1,h2⟩:=hel i (by omega)
   obtain⟨l,g1,g2,g3⟩:=h.2 H enc w n cs' _ h2
   obtain⟨_,h3,h4⟩:=World.cells?_some h1
   refine⟨l,fun _=>⟨g1,g2,fun j y hj=>?_⟩⟩
   obtain⟨u,hu,hy⟩:=Ko g3 hj
   have hjl:=(List.getElem?_eq_some_iff.1 hj).1
   exact⟨u,by rw[h4 j (by omega),hu],hy⟩
  exact⟨[],fun h=>absurd h hi⟩
 have hF:=fun i=>Classical.choose_spec (hex i)
 have hrow:∀r∈(List.range len).map (fun i=>Classical.choose (hex i)),T r∧r.length=z:=fun r hr=>by
  obtain⟨i,hi,rfl⟩:=List.mem_map.1 hr
  have:=hF i (List.mem_range.1 hi)
  exact⟨this.1,this.2.1⟩
 refine⟨_,⟨_,hrow,rfl⟩,rfl,?_⟩
 have h5:=hlen _ hrow
 simp only[FRL,and_true,FR]
 refine⟨some a,cap,by simp,by simpa using hl,by unfold maxLen at hm;omega,h5,?_⟩
 rcases Nat.eq_zero_or_pos len with h0 | h0
 ·exact .inl (by simp[h0])
 refine .inr ⟨a,rfl,?_,tT fun j y hj=>?_⟩
 ·obtain⟨_,g2,g3⟩:=hF 0 h0
  obtain⟨u,hu,_⟩:=g3 0 _ (List.getElem?_eq_getElem (by omega))
  have:=World.block_lt_of_cell? w ((a.add (0*z)).add 0) hu
  rwa[hH,hH]at this
 have hjl:=(List.getElem?_eq_some_iff.1 hj).1
 rw[h5,List.length_map,List.length_range]at hjl
 have hi:j/z<len:=Nat.div_lt_of_lt_mul (by rw[Nat.mul_comm];exact hjl)
 obtain⟨_,g2,g3⟩:=hF (j/z) hi
 have hz1:=Nat.mod_lt j hz0
 have hget:∀(rows:List (List Tr)),(∀r∈rows,T r∧r.length=z)→∀(i o:Nat) (r:List Tr),rows[i]? =some r→o<z→rows.flatten[i*z+o]? =r[o]? :=by
  intro rows
  induction rows with
  | nil=>intro _ i o r h;simp at h
  | cons r rows ih=>
   intro hr i o r' hi ho
   have hrl:=(hr r List.mem_cons_self).2
   cases i with
   | zero=>
    simp at hi
    subst hi
    rw[Nat.zero_mul,Nat.zero_add,List.flatten_cons,List.getElem?_append_left (by omega)]
   | succ i=>
    rw[List.flatten_cons,List.getElem?_append_right (by rw[Nat.succ_mul];omega),hrl,show(i+1)*z+o-z=i*z+o by rw[Nat.succ_mul];omega]
    exact ih (fun r hm=>hr r (List.mem_cons_of_mem _ hm)) i o r' (by simpa using hi) ho
 have hd:=Nat.div_add_mod j z
 rw[Nat.mul_comm]at hd
 rw[←hd,hget _ hrow (j/z) (j%z) (Classical.choose (hex (j/z))) (by simp[hi]) hz1]at hj
 obtain⟨u,hu,hy⟩:=g3 _ _ hj
 refine⟨u,?_,hy⟩
 rw[Nat.zero_add]
 have e2:(a.add (j/z*z)).add (j%z)=a.add j:=by rw[uQ,hd]
 rwa[e2]at hu⟩
theorem Kq {α:Type}(f:α→List Tr) (Q:α→Prop):∀{rows:List (List Tr)},(∀r∈rows,∃a,Q a∧r=f a)→∃xs:List α,(∀a∈xs,Q a)∧rows.flatten=xs.flatMap f∧rows.length=xs.length
 | [],_=>⟨[],fun _ h=>(by cases h),rfl,rfl⟩
 | r::rows,h=>by
  obtain⟨a,h1,rfl⟩:=h r List.mem_cons_self
  obtain⟨xs,h2,h3,h4⟩:=Kq f Q fun r hm=>h r (List.mem_cons_of_mem _ hm)
  exact⟨a::xs,fun b hb=>(List.mem_cons.1 hb).elim (fun e=>e▸h1) (h2 b),by simp[h3],by simp[h4]⟩
theorem Wb (ht:P.underlying t=some (.slice e)) (he:P.underlying e=some (.int .u32)) (hz:P.cellsOf t=1) (hze:P.cellsOf e=1) (hn:e=115):Reads P t 1 (fun l=>∃xs:List Nat,Lim 4294967296 xs∧l=[sU false xs]):=
 (Wa ht hz (by omega) (Rn he hze)).mono fun l ⟨rows,h1,h2⟩=>by
  obtain⟨xs,h3,h4,h5⟩:=Kq (fun n:Nat=>[Tr.v (.int .u32 (n:Int))]) (fun n=>n<4294967296) (rows:=rows) fun r hr=>by
   obtain⟨⟨n,rfl,h1,h2⟩,_⟩:=h1 r hr
   have e1:IntKind.u32.min=0:=rfl
   have e2:IntKind.u32.max=4294967295:=rfl
   rw[e1]at h1
   rw[e2]at h2
   exact⟨n.toNat,by omega,by rw[Int.toNat_of_nonneg h1]⟩
  refine⟨xs,h3,?_⟩
  rw[h2,h4,h5,sU,hn]
  have:∀xs:List Nat,xs.flatMap (fun n:Nat=>[Tr.v (.int .u32 (n:Int))])=aR xs:=by
   intro xs
   induction xs with
   | nil=>rfl
   | cons n xs ih=>rw[List.flatMap_cons,ih];rfl
  rw[this]
theorem CK (hb:Reads P t z (fun l=>∃a b,l=a++b∧(∃s,a=[.v (.bool s)])∧∃b' c',b=b'++c'∧(∃xs:List Nat,Lim 4294967296 xs∧b'=[sU false xs])∧c'=[])):Reads P t z (fun l=>∃(s:Bool) (xs:List Nat),Lim 4294967296 xs∧l=[.v (.bool s),sU false xs]):=
 hb.mono fun l ⟨a,b,h1,⟨s,h2⟩,b',c',h3,⟨xs,h4,h5⟩,h6⟩=>⟨s,xs,h4,by rw[h1,h2,h3,h5,h6];rfl⟩
end
def Wc (a:Fr4):Prop:=Lim 4294967296 a.x∧Lim 4294967296 a.y
end Go.Proofs.YtcaakamelngceaaGreatDoor
namespace Go.Proofs.YtcaakamelngceaaGreatDoor
open Go Go.RowKit
theorem NF {a:Fr4}{L:Nat}(ha:Wc a) (h1:a.x.length≤L) (h2:a.y.length≤L) (hL:2≤L) (hL2:L≤1000000):Qn a a.q∧Sz L a.q:=by
 have hq:Qn a a.q:=⟨⟨ha.1,ha.2,by omega,by omega⟩,rfl⟩
 refine⟨hq,?_⟩
 cases hr:cW a.s a.x a.t a.y with
 | true=>
  have e:=hq.right hr
  have e1:dg 4294967296 a.q.num.natAbs=a.x:=congrArg Fr4.x e
  have e2:dg 4294967296 a.q.den=a.y:=congrArg Fr4.y e
  exact⟨by rw[e1];exact h1,by rw[e2];exact h2⟩
 | false=>
  rw[hq.wrong hr]
  exact(cB (z:=0) (by omega) (by omega)).mono hL
theorem CL (p:Rat):Lim 256 (qH p):=by
 unfold qH
 split
 ·exact(Eb (uX (tQ _ _))).append (Lim.cons (by omega) Lim.nil)
 exact Lim.nil
theorem Fy {l:List Nat}(h:Lim 256 l):((aC l).toList==(aC l).toList)=true:=(jB h h).trans (decide_eq_true rfl)
theorem Ps {a:Fr4}{m:Int}(ha:Wc a):aE true Tryz.prog 4 [] [qF a,.one (tv (.int .i64 m))] (aN (.one (tv (.bool true)))):=by
 refine bF Tryz.func4 rfl Tryz.ntmps4 rfl aA rfl fun N9 w9 c0 h0=>?_
 refine sq ?_;refine rl ?_;refine bx 0 ?_;refine o1 ?_;refine nl ?_;refine sq ?_;refine sq ?_;refine rl ?_;refine o1 ?_;refine o1 ?_;refine ld ?_;(iterate 3 refine o1 ?_)
 refine WL.split (t:=11) rfl (fun h1=>?_) (fun h1=>?_)
 ·(iterate 5 refine cH ?_);refine o1 ?_;refine nl ?_;refine fX rfl ?_;refine sq ?_;refine rl ?_;refine ca (wT) IQ rfl (.one (tv (.bool true))) ?_;refine o1 ?_;refine nl ?_
  refine rt ?_;exact nX (.inl rfl) rfl (rfl)
 refine o1 ?_;refine o1 ?_;refine ld ?_;(iterate 3 refine o1 ?_);refine nl ?_;refine bR rfl (fun h2=>?_) (fun h2=>?_)
 ·refine sq ?_;refine rl ?_;refine ca (wT) IQ rfl (.one (tv (.bool true))) ?_;refine o1 ?_;refine nl ?_;refine rt ?_;exact nX (.inl rfl) rfl (rfl)
 refine sk ?_;refine sq ?_;obtain⟨hq,hs⟩:=NF (L:=6) ha (by omega) (by omega) (by omega) (by omega)
 refine rl ?_;refine ld ?_;refine ca (ND (a:=a) (by omega) (by omega)) RS ⟨aB rfl,rfl⟩ (qF a) ?_
 refine al 1 ?_;refine st ?_;refine nl ?_;refine sq ?_;refine rd [0,1] (fun i=>[43].contains i) mixed ?_
 refine aW 0 ?_;refine dv 1 ?_;refine aW 3 ?_;refine dv 4 ?_;refine aJ 2 rfl (Dg (n:=m) hq hs (by omega)) Ni ⟨aB rfl,a1 rfl,rfl⟩ (.one (tv (.string (aC (cD a.q (aD m)))))) ?_
 refine aJ 5 rfl (Nw (n:=m) hq hs (by omega)) Vx ⟨aB rfl,a1 rfl,rfl⟩ (.one (tv (.string (aC (cD a.q (aD m)))))) ?_
 refine df 6 ?_;refine WD.cast (t:=27) (u':=.bool true) rfl (congrArg Value.bool (Fy (tQ _ _))) ?_;refine df 7 ?_;refine aW 8 ?_;refine aW 10 ?_
 refine aJ 9 rfl (uZ hq hs (by omega)) Nz ⟨aB rfl,rfl⟩ (.one (tv (.string (aC (cD a.q (aD 2)))))) ?_
 refine aJ 11 rfl (Nw (n:=2) hq hs (by omega)) Vx ⟨aB rfl,a1 rfl,rfl⟩ (.one (tv (.string (aC (cD a.q (aD 2)))))) ?_
 refine df 12 ?_;refine WD.cast (t:=33) (u':=.bool true) rfl (congrArg Value.bool (Fy (tQ _ _))) ?_;refine df 13 ?_;refine df 14 ?_;refine aW 15 ?_;refine aW 17 ?_
 refine aJ 16 rfl (rK hq hs (by omega)) Vz ⟨aB rfl,rfl⟩ (.one (tv (.string (aC (qH a.q))))) ?_
 refine aJ 18 rfl (Nx hq hs (by omega)) RT ⟨aB rfl,rfl⟩ (.one (tv (.string (aC (qH a.q))))) ?_
 refine df 19 ?_;refine WD.cast (t:=40) (u':=.bool true) rfl (congrArg Value.bool (Fy (CL _))) ?_;refine df 20 ?_;refine df 21 ?_;refine aW 22 ?_;refine dv 23 ?_
 refine dv 24 ?_;refine aW 25 ?_;refine dv 26 ?_;refine dv 27 ?_;refine aW 28 ?_;refine dv 29 ?_;refine dv 30 ?_;refine dv 31 ?_;refine aW 32 ?_;refine dv 33 ?_;refine dv 34 ?_
 refine aW 35 ?_;refine dv 36 ?_;refine dv 37 ?_;refine aJ 38 rfl (FX hq hq) RU ⟨aB rfl,aB rfl,rfl⟩ (.one (tv (.bool (decide (a.q=a.q))))) ?_;refine df 39 ?_;refine df 40 ?_
 refine WD.splitb (t:=61) rfl (fun h3=>?_) (fun h3=>?_)
 ·refine aJ 41 rfl (wT) IQ rfl (.one (tv (.bool true))) ?_;refine df 42 ?_;refine cZ 43 (by kernel_rfl) rfl rfl aA rfl (by trivial) ?_ (fun h=>by first | rfl | cases h)
  refine aU ?_;refine rt ?_;exact nX (.inl rfl) rfl (rfl)
 exact absurd (show decide (a.q=a.q)=true from decide_eq_true rfl) (by rw[h3];decide)
end Go.Proofs.YtcaakamelngceaaGreatDoor
namespace Go.Proofs.YtcaakamelngceaaGreatDoor
open Go Go.ChangeShapes Go.WideShapes Go.ChangeAt Go.RowKit
theorem IR:Tryz.prog.cellsOf 25=2:=by kernel_rfl
theorem CM:Tryz.prog.cellsOf 4=1:=by kernel_rfl
theorem IS:Tryz.prog.cellsOf 115=1:=by kernel_rfl
theorem Wd:Tryz.prog.cellsOf 23=1:=by kernel_rfl
theorem Ro:Reads Tryz.prog 25 2 (fun l=>∃a:Zi,Lim 4294967296 a.x∧l=TS false a):=by
 have h1:=CJ Tryz.underlying4 CM
 have h2:=Wb Tryz.underlying23 Tryz.underlying115 Wd IS rfl
 have h3:=Bu Tryz.underlying25 IR (.cons rfl h1 (.cons rfl h2 .nil))
 exact(CK h3).mono fun l ⟨s,xs,h4,h5⟩=>⟨⟨s,xs⟩,h4,h5⟩
theorem Kr {W:World}{N:Nat→Prop}:∀{l:List Tr}{us:List Value},FRL W N l us→ARL W N [] (l.map .t) us
 | [],us,h=>by simpa[FRL,ARL]using h
 | x::l,u::us,h=>by
  simp only[FRL]at h
  simp only[List.map_cons,ARL,AR]
  exact⟨h.1,Kr h.2⟩
 | _::_,[],h=>by simp only[FRL]at h
theorem ES {W:World}{l:List Tr}{cs:Array Value}(h:FRL W (vS W) l (Value.agg cs).cells.toList):bO W (vS W) [] (.agg (l.map .t)) (.agg cs):=⟨cs.toList,by simp,Kr (by simpa[Value.cells]using h)⟩
theorem ET {W:World}{y:Tr}{u:Value}(hu:u.cells.toList=[u]) (h:FRL W (vS W) [y] u.cells.toList):bO W (vS W) [] (.one (.t y)) u:=by
 rw[hu]at h
 simp only[FRL,and_true]at h
 simpa only[bO,AR]using h
theorem IT:Tryz.prog.cellsOf 27=4:=by kernel_rfl
theorem ER:Reads Tryz.prog 27 4 (fun l=>∃a:Fr4,Wc a∧l=a.tr false):=
 (Bu Tryz.underlying27 IT (.cons rfl Ro (.cons rfl Ro .nil))).mono fun l ⟨a,b,h1,⟨z,h2,h3⟩,b',c',h4,⟨y,h5,h6⟩,h7⟩=>⟨⟨z.s,z.x,y.s,y.x⟩,⟨h2,h5⟩,by rw[h1,h3,h4,h6,h7];rfl⟩
theorem CN:Tryz.prog.cellsOf 3=1:=by kernel_rfl
theorem AH:Reads Tryz.prog 3 1 (fun l=>∃n:Int,(-9223372036854775808≤n∧n≤9223372036854775807)∧l=[.v (.int .i64 n)]):=
 (Rn Tryz.underlying3 CN).mono fun l ⟨n,h1,h2,h3⟩=>⟨n,⟨h2,h3⟩,h1⟩
end Go.Proofs.YtcaakamelngceaaGreatDoor
