/- Part 10 of a proof: U4 to Rib5. -/
import Derived.Test.YtcaakamelngceaaGreatDoorM9
import Derived.Test.YtcaakamelngceaaGreatDoorM8
import Derived.Test.YtcaakamelngceaaGreatDoorM7
import Derived.Test.YtcaakamelngceaaGreatDoorM5
import Derived.ProofKit
import Derived.ChangeOld
import Derived.Deep.Slices
import Derived.Deep.Strs
import Derived.WalkKit
import Derived.OpenShut
import Derived.Below
import Derived.Carry
set_option maxRecDepth 100000
set_option linter.unusedVariables false
set_option linter.unusedSimpArgs false
namespace Go.Proofs.YtcaakamelngceaaGreatDoor
open Go Go.RowKit
def fY (l:List Rat):Rat:=l.foldl (· * ·) 1
theorem tV (l:List Rat) (q:Rat):fY (l++[q])=fY l*q:=by simp[fY]
theorem xO (q:Rat):∀n:Nat,fY (List.replicate n q)=q^n
 | 0=>by rw[Rat.pow_zero];rfl
 | n+1=>by rw[List.replicate_succ',tV,xO q n,Rat.pow_succ]
theorem Tb (n:Nat):(((10:Int):Rat))^n=((10^n:Nat):Rat):=by
 induction n with
 | zero=>rw[Rat.pow_zero];rfl
 | succ n ih=>rw[Rat.pow_succ,ih,Nat.pow_succ,Rat.natCast_mul];rfl
theorem nJ (n:Nat):Sz (n+1) ((10^n:Nat):Rat):=by
 refine⟨?_,?_⟩
 ·rw[Rat.num_natCast,Int.natAbs_natCast]
  exact vW n
 rw[Rat.den_natCast]
 exact Nat.le_trans (show(dg 4294967296 1).length≤1 by decide) (by omega)
theorem Jt {xs:List Fr4}{B:Nat}(hB:2+xs.length*B≤34359738368) (hx:∀x∈xs,x.ok) (hz:∀x∈xs,Sz B x.q) (hl:xs.length≤1073741823):aE false Tryz.prog 85 [] [.one (.t (sQ false xs))] (aI (qF (.of (fY (xs.map Fr4.q))))):=by
 refine bQ Tryz.func85 rfl Tryz.ntmps85 rfl aB rfl fun N9 w9 c0 h0=>?_
 have h00:((1:Int):Rat)=fY ((xs.take 0).map Fr4.q):=by simp[fY]
 refine sq ?_;refine rl ?_;refine al 0 ?_;refine nl ?_;refine sq ?_;refine rl ?_;refine ca (cC (z:=1) (by omega) (by omega)) eM ⟨a1 rfl,rfl⟩ (qF (.of ((1:Int):Rat))) ?_
 refine al 1 ?_;refine st ?_;refine nl ?_;refine sq ?_;refine sq ?_;refine rl ?_;(iterate 3 refine o1 ?_);refine nl ?_;refine bl ?_
 refine lp (γ:=Nat) (fun k=>dD [(2,.one (.pt 0 0)),(3,.one (.pt 1 0)),(7,.one (.t (sQ false xs))),(8,.one (tv (.int .i64 ((xs.length:Nat):Int)))),(9,.one (tv (.int .i64 ((k:Nat):Int))))]) (fun k=>[(⟨27,0,[tv (.bool false),tv (.slice none 0 0),tv (.bool false),tv (.slice none 0 0)]⟩:Ob),⟨27,0,((Fr4.of (fY ((xs.take (k)).map Fr4.q))).tr false).map .t⟩].map some) (fun k=>k≤xs.length∧Sz (2+k*B) (fY ((xs.take (k)).map Fr4.q))) (fun k=>xs.length-k) 0 ⟨Nat.zero_le _,by simpa[fY]using cV (z:=1) (by omega) (by omega)⟩ (bS h0 [0,1] _ _ (by decide) ⟨rfl,rfl,rfl,rfl,rfl,trivial⟩ ⟨oe rfl rfl,cR (congrArg (fun q=>some (⟨27,0,((Fr4.of q).tr false).map .t⟩:Ob)) h00),rfl⟩) fun k hk=>?_
 have hmul:k*B≤xs.length*B:=Nat.mul_le_mul hk.1 (Nat.le_refl _)
 refine sq ?_;refine rl ?_;refine o1 ?_;refine nl ?_;refine sq ?_;refine cY rfl (fun h1=>?_) (fun h1=>?_)
 ·refine sk ?_;refine sq ?_;refine bl ?_;refine sq ?_;refine rl ?_;refine o1 ?_;refine xP ((eY xs (k)).tr false) (zX xs (k:=k) (by omega)) ?_
  refine al 2 ?_;refine st ?_;refine nl ?_;refine rl ?_;refine ld ?_;refine ld ?_
  refine ca (yT (Qn.of (p:=(fY ((xs.take (k)).map Fr4.q))) (hk.2.mono (M:=68719476736) (by omega))) ⟨hx _ (fF (by omega)),rfl⟩) Gz ⟨aD rfl,aD rfl,rfl⟩ (qF (.of ((fY ((xs.take (k)).map Fr4.q))*(eY xs (k)).q))) ?_
  refine st ?_;refine nl ?_;refine rl ?_;refine o1 ?_;refine WL.cast (t:=16) (u':=.int .i64 ((k+1:Nat):Int)) rfl (bO (by omega)) ?_
  refine o1 ?_;refine nl ?_;have hst:(fY ((xs.take (k+1)).map Fr4.q))=(fY ((xs.take (k)).map Fr4.q))*(eY xs (k)).q:=by rw[tW (by omega)];exact tV _ _
  have hmul3:(k+1)*B=k*B+B:=Nat.succ_mul k B
  exact⟨k+1,by omega,⟨by omega,by rw[hst];exact(lS hk.2 (hz _ (fF (by omega)))).mono (by omega)⟩,bS h0 [0,1] _ _ (by decide) ⟨rfl,rfl,rfl,rfl,rfl,trivial⟩ ⟨oe rfl rfl,cR (congrArg (fun q=>some (⟨27,0,((Fr4.of q).tr false).map .t⟩:Ob)) hst.symm),rfl⟩⟩
 refine ex ?_;refine sq ?_;refine rl ?_;refine ld ?_;refine st ?_;refine nl ?_;refine rt ?_
 exact en (.inl rfl) rfl (bI (.agg (.cons (.id rfl) (.cons (.id rfl) (.cons (.id rfl) (.cons (.id rfl) .nil)))))) (by decide) (fun h=>by cases h) (by rw[List.take_of_length_le (by omega)];rfl)
theorem Xc {l:List Rat}{n:Nat}(hn:l.length=n):sQ false (iR l)=.s false 33 4 n (l.flatMap eA):=by
 unfold sQ
 rw[Ee,hn,Tc]
theorem Xd {c:Nat}(hc:c≤40):aE false Tryz.prog 85 [] [.one (.t (.s false 33 4 c ((List.replicate c ((10:Int):Rat)).flatMap eA)))] (aI (qF (.of ((10^c:Nat):Rat)))):=by
 have hz:∀q∈List.replicate c ((10:Int):Rat),Sz 2 q:=fun q hq=>by rw[List.eq_of_mem_replicate hq];exact cV (by omega) (by omega)
 have hl:(iR (List.replicate c ((10:Int):Rat))).length=c:=by rw[Ee,List.length_replicate]
 have h:=Jt (xs:=iR (List.replicate c ((10:Int):Rat))) (B:=2) (by rw[hl];omega) (Ju hz (by omega)) (Xe hz) (by rw[hl];omega)
 rwa[Qj,Xc (List.length_replicate ..),xO,Tb]at h
theorem Qk:∀l:List Rat,rdTL (l.flatMap eA)=l.flatMap eA
 | []=>rfl
 | q::l=>by
  rw[List.flatMap_cons]
  have h:=Qk l
  have u32:∀xs:List Nat,rdTL (aJ xs)=aJ xs:=by
   intro xs
   induction xs with
   | nil=>rfl
   | cons x xs ih=>simpa[aJ,rdTL,sI]using ih
  show rdTL (_::_::_::_::l.flatMap eA)=_
  simp only[rdTL,h,sU,sI,u32]
  rfl
theorem Nt {a:Fr4}{p:Rat}{c:Nat}(ha:Qn a p) (hs:Sz 1000000 p) (hc:c≤40):aE false Tryz.prog 40 [] [qF a,.one (tv (.int .i64 ((c:Nat):Int)))] (aI (.tup [kF (hal (p*((10^c:Nat):Rat))),.one (tv (.int .i64 0))])):=by
 refine bQ Tryz.func40 rfl Tryz.ntmps40 rfl aB rfl fun N9 w9 c0 h0=>?_
 refine sq ?_;refine rl ?_;refine bx 0 ?_;refine al 1 ?_;refine o1 ?_;refine nl ?_;refine sq ?_;refine bl ?_;refine sq ?_;refine rl ?_;(iterate 3 refine o1 ?_);refine nl ?_
 refine cY rfl (fun h1=>?_) (fun h1=>?_)
 ·exact absurd h1 (by omega)
 refine sq ?_;refine rl ?_;(iterate 3 refine o1 ?_);refine nl ?_;refine cY rfl (fun h2=>?_) (fun h2=>?_)
 ·exact absurd h2 (by omega)
 refine sk ?_;refine sq ?_;refine rl ?_;refine ca (cC (z:=10) (by omega) (by omega)) eM ⟨a1 rfl,rfl⟩ (qF (.of ((10:Int):Rat))) ?_
 refine bs 2 ?_;refine WL.sub (FK (i:=16) (k:=2) (t:=27) (z:=4) (n:=1) (l:=(iR [((10:Int):Rat)]).flatMap (Fr4.tr false)) 33 rfl rfl rfl rfl (.one .sl)) ?_;refine o1 ?_
 refine ca (Nu (q:=((10:Int):Rat)) (c:=c) (by omega)) FW ⟨a1 rfl,a1 rfl,rfl⟩ (.one (.t (.s false 27 4 c ((List.replicate c ((10:Int):Rat)).flatMap eA)))) ?_
 refine WL.sub (JB (i:=18) (t':=33) rfl rfl (Qk _)) ?_;refine o1 ?_;refine nl ?_;refine sq ?_;refine rd [0,1] (fun i=>[5,6].contains i) mixed ?_
 refine bD 0 ?_;refine dv 1 ?_;refine aN 2 rfl (Xd (c:=c) hc) FX ⟨a1 rfl,rfl⟩ (qF (.of ((10^c:Nat):Rat))) ?_
 refine aN 3 rfl (yT ha (Qn.of (p:=((10^c:Nat):Rat)) ((nJ c).mono (M:=68719476736) (by omega)))) Gz ⟨aD rfl,aD rfl,rfl⟩ (qF (.of (p*((10^c:Nat):Rat)))) ?_
 refine aN 4 rfl (Xf (Qn.of (p:=(p*((10^c:Nat):Rat))) ((lS hs (nJ c)).mono (M:=68719476736) (by omega)))) FY ⟨aD rfl,rfl⟩ (kF (hal (p*((10^c:Nat):Rat)))) ?_
 refine dst 5 ?_;refine gA 6 (by kernel_rfl) rfl rfl aB rfl (by trivial) ?_ (fun h=>by first | rfl | cases h)
 refine bJ ?_;refine rt ?_;exact en (.inl rfl) rfl (dP (.cons (.agg (.cons (.id rfl) (.cons (.id rfl) .nil))) (.cons (aZ _) .nil))) (by decide) (fun h=>by cases h) rfl
theorem nK {n:Int}:aX n≤40:=by unfold aX;omega
theorem Jv {v L:Nat}(h:(dg 4294967296 v).length≤L):(dg 10 v).length≤10*L:=by
 refine bM (by omega) ?_
 have h1:v<4294967296^L:=Nat.lt_of_lt_of_le (mL (B:=4294967296) (by omega)) (Nat.pow_le_pow_right (by omega) h)
 refine Nat.lt_of_lt_of_le h1 ?_
 rw[Nat.pow_mul]
 exact Nat.pow_le_pow_left (by omega) L
theorem rN {v L:Nat}(h:(dg 4294967296 v).length≤L):(tx v).length≤10*L+1:=by
 unfold tx
 split
 ·show 1≤_;omega
 rw[List.length_reverse,fU]
 have:=Jv h
 omega
theorem Xg {a b:List Nat}{d:Nat}(h:(a++b).length=a.length+d):((a++b).take ((a++b).length-d)).drop 0=a:=by
 rw[List.drop_zero,h,Nat.add_sub_cancel]
 exact List.take_left
theorem Xh {a b:List Nat}{d:Nat}(h:(a++b).length=a.length+d):(a++b).drop ((a++b).length-d)=b:=by
 rw[h,Nat.add_sub_cancel]
 exact List.drop_left
theorem FZ {n d:Nat}(h:d≠0):tx (n/10^d)++[46]++pd n d=wr n d:=by
 unfold wr
 rw[if_neg h,List.append_assoc]
 rfl
theorem GA {n d:Nat}(h:d=0):tx (n/10^d)++pd n d=wr n d:=by
 subst h
 rfl
theorem zY {n d:Nat}:(wr n d).length=(tx (n/10^d)).length+(if d=0 then 0 else d+1):=by
 unfold wr
 rw[List.length_append]
 split
 ·rfl
 rw[List.length_cons,kG]
theorem GB {z:Int}{d:Nat}(h:aW z=true):45::wr z.natAbs d=pt z d:=(if_pos (of_decide_eq_true h)).symm
theorem GC {z:Int}{d:Nat}(h:aW z=false):wr z.natAbs d=pt z d:=(if_neg (of_decide_eq_false h)).symm
theorem Ef {p:Rat}{c L:Nat}(hs:Sz L p) (hc:c≤40) (hL:L+100≤1000000):(dg 4294967296 (hal (p*((10^c:Nat):Rat))).natAbs).length≤1000000:=by
 have h1:=(lS hs (nJ c)).1
 have h2:(hal (p*((10^c:Nat):Rat))).natAbs≤(fl (p*((10^c:Nat):Rat))).natAbs+1:=by
  unfold hal
  rw[nL]
  split <;> omega
 have h3:=zZ (p*((10^c:Nat):Rat))
 generalize fl (p*((10^c:Nat):Rat))=f at h2 h3
 have h4:=iH (f.natAbs:Int) 1
 have h5:((f.natAbs:Int)+1).natAbs=f.natAbs+1:=by omega
 rw[h5,Int.natAbs_natCast]at h4
 have h6:(dg 4294967296 (1:Int).natAbs).length≤1:=by decide
 have h7:=dK h2
 omega
theorem tX {a:Fr4}{p:Rat}{n:Int}{L:Nat}(ha:Qn a p) (hs:Sz L p) (hL:L+100≤1000000):aE true Tryz.prog 16 [] [qF a,.one (tv (.int .i64 n))] (aI (.one (tv (.string (aA (aK p (aX n))))))):=by
 refine bQ Tryz.func16 rfl Tryz.ntmps16 rfl aB rfl fun N9 w9 c0 h0=>?_
 have hD:(aX n)≤40:=nK
 have hkl:(dg 4294967296 (hal (p*((10^(aX n):Nat):Rat))).natAbs).length≤1000000:=Ef hs hD hL
 have htl:(tx (hal (p*((10^(aX n):Nat):Rat))).natAbs).length≤10000001:=rN hkl
 have hpl:(pd (hal (p*((10^(aX n):Nat):Rat))).natAbs (aX n)).length=(aX n):=kG _ _
 have htq:(tx ((hal (p*((10^(aX n):Nat):Rat))).natAbs/10^(aX n))).length≤10000001:=rN (Nat.le_trans (dK (Nat.div_le_self _ _)) hkl)
 have htq1:1≤(tx ((hal (p*((10^(aX n):Nat):Rat))).natAbs/10^(aX n))).length:=List.length_pos_iff.2 (oS _)
 have hZl:((tx ((hal (p*((10^(aX n):Nat):Rat))).natAbs/10^(aX n)))++(pd (hal (p*((10^(aX n):Nat):Rat))).natAbs (aX n))).length=(tx ((hal (p*((10^(aX n):Nat):Rat))).natAbs/10^(aX n))).length+(aX n):=by rw[List.length_append,hpl]
 refine sq ?_;refine rl ?_;refine bx 0 ?_;refine o1 ?_;refine nl ?_;refine sq ?_;refine rl ?_;(iterate 3 refine o1 ?_)
 refine WL.cast (t:=10) (u':=.int .i64 (((aX n):Nat):Int)) rfl (bO (by unfold aX;omega)) ?_
 refine o1 ?_;refine nl ?_;refine sq ?_;refine rl ?_;refine ld ?_;refine o1 ?_
 refine ca (Nt (c:=(aX n)) ha (hs.mono (by omega)) nK) GD ⟨aD rfl,a1 rfl,rfl⟩ (.tup [kF (hal (p*((10^(aX n):Nat):Rat))),.one (tv (.int .i64 0))]) ?_
 (iterate 3 refine o1 ?_);refine al 1 ?_;refine st ?_;refine o1 ?_;refine nl ?_;refine sq ?_;refine rl ?_;refine o1 ?_;refine ld ?_
 refine ca (CI (xs:=(dg 4294967296 (hal (p*((10^(aX n):Nat):Rat))).natAbs)) (v:=(hal (p*((10^(aX n):Nat):Rat))).natAbs) hkl (bC (by omega) _) (cU (by omega) _)) GF ⟨a1 rfl,rfl⟩ (.one (tv (.string (aA (tx (hal (p*((10^(aX n):Nat):Rat))).natAbs))))) ?_
 refine o1 ?_;refine nl ?_;refine sq ?_;refine rl ?_;refine o1 ?_;refine o1 ?_;refine WL.cast (t:=21) (u':=.int .i64 (((aX n)+1:Nat):Int)) rfl (bO (by omega)) ?_
 refine o1 ?_;refine o1 ?_
 refine WL.cast (t:=23) (u':=.int .i64 (((tx (hal (p*((10^(aX n):Nat):Rat))).natAbs).length:Nat):Int)) rfl (congrArg (fun n:Nat=>Value.int .i64 (n:Int)) (aH _)) ?_
 refine o1 ?_;refine WL.cast (t:=24) (u':=.int .i64 (((((aX n)+1:Nat):Int)-(((tx (hal (p*((10^(aX n):Nat):Rat))).natAbs).length:Nat):Int)))) rfl (bO (by omega)) ?_
 refine o1 ?_;refine WL.cast (t:=25) (u':=.int .i64 ((((aX n)+1-(tx (hal (p*((10^(aX n):Nat):Rat))).natAbs).length):Nat):Int)) rfl (bO (by omega)) ?_
 refine ca (Jw (n:=(aX n)+1-(tx (hal (p*((10^(aX n):Nat):Rat))).natAbs).length) (by omega)) GG ⟨a1 rfl,a1 rfl,rfl⟩ (.one (tv (.string (aA (List.replicate ((aX n)+1-(tx (hal (p*((10^(aX n):Nat):Rat))).natAbs).length) 48))))) ?_
 refine o1 ?_;refine o1 ?_ (hC:=(by rw[aH,aH,List.length_replicate];omega))
 refine WL.cast (t:=28) (u':=.string (aA ((tx ((hal (p*((10^(aX n):Nat):Rat))).natAbs/10^(aX n)))++(pd (hal (p*((10^(aX n):Nat):Rat))).natAbs (aX n))))) rfl (congrArg Value.string ((lT _ _).trans (congrArg aA (Jx (aX n) (hal (p*((10^(aX n):Nat):Rat))).natAbs)))) ?_
 refine o1 ?_;refine nl ?_
 refine md (γ:=Unit) (fun _=>dD [(5,.one (.pt 0 0)),(7,.one (tv (.string (aA (wr (hal (p*((10^(aX n):Nat):Rat))).natAbs (aX n))))))]) (fun _=>([⟨25,0,[tv (.bool (aW ((hal (p*((10^(aX n):Nat):Rat)))))),.t (sU false (dg 4294967296 ((hal (p*((10^(aX n):Nat):Rat)))).natAbs))]⟩]:List Ob).map some) (fun _=>True) ?_ fun _ _=>?_
 ·refine sq ?_;refine rl ?_;refine o1 ?_;refine o1 ?_;refine nl ?_;refine cY rfl (fun h1=>?_) (fun h1=>?_)
  ·refine rd [0,1] (fun i=>[14].contains i) mixed ?_
   refine dv 0 ?_;refine dv 1 ?_;refine dv 2 ?_
   refine WD.cast (t:=33) (u':=.int .i64 ((((tx ((hal (p*((10^(aX n):Nat):Rat))).natAbs/10^(aX n)))++(pd (hal (p*((10^(aX n):Nat):Rat))).natAbs (aX n))).length:Nat):Int)) rfl (congrArg (fun n:Nat=>Value.int .i64 (n:Int)) (aH _)) ?_
   refine dv 3 ?_;refine dv 4 ?_
   refine WD.cast (t:=35) (u':=.int .i64 ((((tx ((hal (p*((10^(aX n):Nat):Rat))).natAbs/10^(aX n)))++(pd (hal (p*((10^(aX n):Nat):Rat))).natAbs (aX n))).length-(aX n):Nat):Int)) rfl (bO (by omega)) ?_
   refine dv 5 ?_ (hC:=(by rw[aH];omega))
   refine WD.cast (t:=36) (u':=.string (aA (tx ((hal (p*((10^(aX n):Nat):Rat))).natAbs/10^(aX n))))) rfl (congrArg Value.string ((gB _ 0 _).trans (congrArg aA (Xg hZl)))) ?_
   refine dv 6 ?_ (hC:=(by rw[aH];show _+1≤_;omega))
   refine WD.cast (t:=37) (u':=.string (aA ((tx ((hal (p*((10^(aX n):Nat):Rat))).natAbs/10^(aX n)))++[46]))) rfl (congrArg Value.string (lT _ [46])) ?_;refine dv 7 ?_
   refine dv 8 ?_;refine dv 9 ?_
   refine WD.cast (t:=40) (u':=.int .i64 ((((tx ((hal (p*((10^(aX n):Nat):Rat))).natAbs/10^(aX n)))++(pd (hal (p*((10^(aX n):Nat):Rat))).natAbs (aX n))).length:Nat):Int)) rfl (congrArg (fun n:Nat=>Value.int .i64 (n:Int)) (aH _)) ?_
   refine dv 10 ?_;refine dv 11 ?_
   refine WD.cast (t:=42) (u':=.int .i64 ((((tx ((hal (p*((10^(aX n):Nat):Rat))).natAbs/10^(aX n)))++(pd (hal (p*((10^(aX n):Nat):Rat))).natAbs (aX n))).length-(aX n):Nat):Int)) rfl (bO (by omega)) ?_
   refine dv 12 ?_ (hC:=(by rw[aH];omega))
   refine WD.cast (t:=43) (u':=.string (aA (pd (hal (p*((10^(aX n):Nat):Rat))).natAbs (aX n)))) rfl (congrArg Value.string ((fV _ _).trans (congrArg aA (Xh hZl)))) ?_
   refine dv 13 ?_ (hC:=(by rw[aH,aH,List.length_append];show _+1+_≤_;omega))
   refine WD.cast (t:=44) (u':=.string (aA (wr (hal (p*((10^(aX n):Nat):Rat))).natAbs (aX n)))) rfl (congrArg Value.string ((lT _ _).trans (congrArg aA (FZ (by omega))))) ?_
   refine gA 14 (by kernel_rfl) rfl rfl aB rfl (by trivial) ?_ (fun h=>by first | rfl | cases h)
   refine bJ ?_;exact⟨(),trivial,bS h0 [1] _ _ (by decide) ⟨rfl,rfl,trivial⟩ ⟨oe rfl rfl,rfl⟩⟩
  refine sk ?_
  exact⟨(),trivial,bS h0 [1] _ _ (by decide) ⟨rfl,(congrArg (fun b=>some (FV.one (tv (.string (aA b))))) (GA (n:=(hal (p*((10^(aX n):Nat):Rat))).natAbs) (d:=(aX n)) (by omega)).symm),trivial⟩ ⟨oe rfl rfl,rfl⟩⟩
 refine sq ?_;refine sq ?_;refine rl ?_;refine o1 ?_;refine ld ?_;refine nl ?_;refine jG rfl (fun h2=>?_) (fun h2=>?_)
 ·refine rl ?_;refine o1 ?_;refine o1 ?_ (hC:=(by rw[aH];show 1+_≤_;rw[zY];split <;> omega))
  refine WL.cast (t:=48) (u':=.string (aA (45::(wr (hal (p*((10^(aX n):Nat):Rat))).natAbs (aX n))))) rfl (congrArg Value.string (lT [45] _)) ?_;refine o1 ?_;refine nl ?_
  refine sq ?_;refine rl ?_;refine o1 ?_;refine o1 ?_;refine nl ?_;refine rt ?_
  exact en (.inl rfl) rfl (bI (aZ _)) (by decide) (fun _=>trivial) (congrArg (fun z=>FV.one (tv (.string z))) (congrArg aA (GB h2)))
 refine sk ?_;refine sq ?_;refine rl ?_;refine o1 ?_;refine o1 ?_;refine nl ?_;refine rt ?_
 exact en (.inl rfl) rfl (bI (aZ _)) (by decide) (fun _=>trivial) (congrArg (fun z=>FV.one (tv (.string z))) (congrArg aA (GC h2)))
theorem vX {a:Fr4}{p:Rat}{L:Nat}(ha:Qn a p) (hs:Sz L p) (hL:L+100≤1000000):aE true Tryz.prog 18 [] [qF a] (aI (.one (tv (.string (aA (aK p (aX 2))))))):=by
 refine bQ Tryz.func18 rfl Tryz.ntmps18 rfl aB rfl fun N9 w9 c0 h0=>?_
 refine sq ?_;refine rl ?_;refine bx 0 ?_;refine o1 ?_;refine nl ?_;refine sq ?_;refine rl ?_;refine ld ?_
 refine ca (tX (n:=2) ha hs hL) vY ⟨aD rfl,a1 rfl,rfl⟩ (.one (tv (.string (aA (aK p (aX 2)))))) ?_;refine o1 ?_;refine nl ?_;refine rt ?_
 exact en (.inl rfl) rfl (bI (aZ _)) (by decide) (fun _=>trivial) (congrArg (fun z=>FV.one (tv (.string z))) (rfl))
theorem Jy {xs:List Fr4}(hx:∀x∈xs,x.ok) (hl:xs.length≤1073741823):aE true Tryz.prog 55 [] [.one (.t (sQ false xs))] (aI (.one (tv (.bool (!(xs.any jY)))))):=by
 refine bQ Tryz.func55 rfl Tryz.ntmps55 rfl aB rfl fun N9 w9 c0 h0=>?_
 refine sq ?_;refine rl ?_;refine o1 ?_;refine nl ?_;refine sq ?_;refine rl ?_;refine o1 ?_
 refine ca (Xi (dl:=jY) (fst:=[]) (caps:=[]) CJ (fun x h=>Ha ⟨hx x h,rfl⟩) hl) CK ⟨a1 rfl,a1 rfl,rfl⟩ (.one (tv (.bool (xs.any jY)))) ?_
 refine o1 ?_;refine o1 ?_;refine nl ?_;refine rt ?_;exact gV (.inl rfl) rfl (rfl)
theorem Hb {p:Rat}(hp:Sz 68719476736 p):aE true Tryz.prog 55 [] [.one (.t (sQ false [Fr4.of p]))] (aI (.one (tv (.bool (decide (p.den=1)))))):=by
 have h:=Jy (xs:=[Fr4.of p]) (fun x hx=>by rw[List.mem_singleton]at hx;subst hx;exact(Qn.of hp).1) (by simp)
 have e:(!([Fr4.of p].any jY))=decide (p.den=1):=by
  rw[List.any_cons,List.any_nil,Bool.or_false,Nv p (xQ p),Bool.not_not]
 rwa[e]at h
theorem Xj {a:Fr4}{p:Rat}(ha:Qn a p) (hs9:Sz 68719476700 p):aE false Tryz.prog 54 [] [.one (.t (sQ false [a]))] (aI (qF (.of p))):=by
 have h:=CL (xs:=[a]) (B:=68719476700) (by show 2+1*_≤_;omega) (fun x hx=>by rw[List.mem_singleton]at hx;subst hx;exact ha.1) (fun x hx=>by rw[List.mem_singleton]at hx;subst hx;rw[ha.2];exact hs9) (by simp)
 rwa[show iS ([a].map Fr4.q)=p by rw[List.map_cons,List.map_nil,ha.2];simp[iS,Rat.zero_add]]at h
theorem vZ {p:Nat→Bool}{l:List Nat}:(fS p l).length≤l.length:=by
 unfold fS
 rw[List.length_reverse]
 exact Nat.le_trans (List.dropWhile_sublist _).length_le (by rw[List.length_reverse];exact Nat.le_refl _)
theorem Jz (n d:Nat):Lim 256 (wr n d):=by
 unfold wr
 refine(Xk _).append ?_
 split
 ·exact Lim.nil
 exact Lim.cons (by omega) (fun c hc=>by have:=Hc _ _ c hc;omega)
theorem lU (z:Int) (d:Nat):Lim 256 (pt z d):=by
 unfold pt
 split
 ·exact Lim.cons (by omega) (Jz _ _)
 exact Jz _ _
theorem Nw {p:Rat}{n:Int}{L:Nat}(hs:Sz L p) (hL:L+100≤1000000):(aK p (aX n)).length≤100000000:=by
 have h1:=Ef hs (nK (n:=n)) hL
 have h2:=rN (Nat.le_trans (dK (Nat.div_le_self _ (10^aX n))) h1)
 have h3:=nK (n:=n)
 have h4:=zY (n:=(hal (p*((10^aX n:Nat):Rat))).natAbs) (d:=aX n)
 unfold aK pt
 split
 ·rw[List.length_cons,h4]
  split <;> omega
 rw[h4]
 split <;> omega
def eT (p:Rat):List Nat:=if 0≤p∧p≤((1:Int):Rat)∧(p*((1000000:Int):Rat)).den=1 then cK 46 (fS p0 (aK (p*((100:Int):Rat)) (aX 4)))++[37]else []
theorem Aa {p:Rat}(h:p<0∨((1:Int):Rat)<p∨¬(p*((1000000:Int):Rat)).den=1):eT p=[]:=by
 unfold eT
 rw[if_neg]
 rintro⟨h1,h2,h3⟩
 rcases h with h | h | h
 ·exact Rat.not_lt.2 h1 h
 ·exact Rat.not_lt.2 h2 h
 exact h h3
theorem Ql {p:Rat}(h1:¬p<0) (h2:¬((1:Int):Rat)<p) (h3:(p*((1000000:Int):Rat)).den=1):eT p=cK 46 (fS p0 (aK (p*((100:Int):Rat)) (aX 4)))++[37]:=if_pos ⟨Rat.not_lt.1 h1,Rat.not_lt.1 h2,h3⟩
theorem iT {a:Fr4}{p:Rat}{L:Nat}(ha:Qn a p) (hs:Sz L p) (hL:L+102≤1000000):aE true Tryz.prog 19 [] [qF a] (aI (.one (tv (.string (aA (eT p)))))):=by
 refine bQ Tryz.func19 rfl Tryz.ntmps19 rfl aB rfl fun N9 w9 c0 h0=>?_
 have hm2:Sz (L+2) (p*((100:Int):Rat)):=lS hs (cV (by omega) (by omega))
 have hm6:Sz 68719476736 (p*((1000000:Int):Rat)):=(lS hs (cV (by omega) (by omega))).mono (by omega)
 have hWl:Lim 256 (aK (p*((100:Int):Rat)) (aX 4)):=lU _ _
 have hWn:(aK (p*((100:Int):Rat)) (aX 4)).length≤100000000:=Nw hm2 (by omega)
 refine sq ?_;refine rl ?_;refine bx 0 ?_;refine o1 ?_;refine nl ?_;refine sq ?_;refine rl ?_;refine ld ?_;refine bs 1 ?_
 refine WL.sub (FK (i:=5) (k:=1) (t:=27) (z:=4) (n:=1) (l:=[a].flatMap (Fr4.tr false)) 33 rfl rfl rfl rfl (.one .sl)) ?_
 refine ca (Xj ha (hs.mono (by omega))) GH ⟨a1 rfl,rfl⟩ (qF (.of p)) ?_
 refine st ?_;refine nl ?_;refine sq ?_;refine sq ?_;refine rd [0] (fun i=>[].contains i) mixed ?_
 refine bD 0 ?_;refine aN 1 rfl (qE (Qn.of (p:=p) (hs.mono (M:=68719476736) (by omega)))) Ab ⟨aD rfl,rfl⟩ (.one (tv (.int .i64 p.num.sign))) ?_
 refine df 2 ?_;refine df 3 ?_;refine WD.split (t:=10) rfl rfl (fun h1=>?_) (fun h1=>?_)
 ·refine bF 4 ?_;refine bF 5 ?_;refine bF 6 ?_;refine bF 7 ?_;refine df 8 ?_;refine df 9 ?_;refine bF 10 ?_;refine bF 11 ?_;refine bF 12 ?_;refine bF 13 ?_;refine bF 14 ?_
  refine bF 15 ?_;refine df 16 ?_;refine bJ ?_;refine jH rfl ?_;refine sq ?_;refine rl ?_;refine o1 ?_;refine nl ?_;refine rt ?_
  exact en (.inl rfl) rfl (bI (aZ _)) (by decide) (fun _=>trivial) (congrArg (fun z=>FV.one (tv (.string z))) (congrArg aA (Aa (.inl (lH.1 (Int.sign_neg_iff.1 h1)))).symm))
 refine bD 4 ?_;refine aN 5 rfl (cC (z:=1) (by omega) (by omega)) eM ⟨a1 rfl,rfl⟩ (qF (.of ((1:Int):Rat))) ?_
 refine aN 6 rfl (iU (Qn.of (p:=p) (hs.mono (M:=68719476736) (by omega))) (Qn.of (p:=((1:Int):Rat)) (cV (by omega) (by omega)))) iV ⟨aD rfl,aD rfl,rfl⟩ (.one (tv (.int .i64 (p-((1:Int):Rat)).num.sign))) ?_
 refine df 7 ?_;refine df 8 ?_;refine df 9 ?_;refine WD.split (t:=16) rfl rfl (fun h2=>?_) (fun h2=>?_)
 ·refine bF 10 ?_;refine bF 11 ?_;refine bF 12 ?_;refine bF 13 ?_;refine bF 14 ?_;refine bF 15 ?_;refine df 16 ?_;refine bJ ?_;refine jH rfl ?_;refine sq ?_;refine rl ?_
  refine o1 ?_;refine nl ?_;refine rt ?_
  exact en (.inl rfl) rfl (bI (aZ _)) (by decide) (fun _=>trivial) (congrArg (fun z=>FV.one (tv (.string z))) (congrArg aA (Aa (.inr (.inl (Qm h2)))).symm))
 refine bD 10 ?_;refine aN 11 rfl (cC (z:=1000000) (by omega) (by omega)) eM ⟨a1 rfl,rfl⟩ (qF (.of ((1000000:Int):Rat))) ?_
 refine aN 12 rfl (yT (Qn.of (p:=p) (hs.mono (M:=68719476736) (by omega))) (Qn.of (p:=((1000000:Int):Rat)) (cV (by omega) (by omega)))) Gz ⟨aD rfl,aD rfl,rfl⟩ (qF (.of (p*((1000000:Int):Rat)))) ?_
 refine Nx (key:=2) 13 (by kernel_rfl) rfl rfl aB rfl ⟨rfl,trivial⟩ ?_
 refine Xl (i:=20) (k:=2) (t:=27) (t':=33) (z:=4) (n:=1) (l:=[Fr4.of (p*((1000000:Int):Rat))].flatMap (Fr4.tr false)) rfl rfl rfl rfl (.one .sl) (by rfl) (by rfl) ?_
 refine aN 14 rfl (Hb (p:=(p*((1000000:Int):Rat))) hm6) GI ⟨a1 rfl,rfl⟩ (.one (tv (.bool (decide ((p*((1000000:Int):Rat)).den=1))))) ?_
 refine WD.splitb (t:=21) rfl (fun h3=>?_) (fun h3=>?_)
 ·refine df 15 ?_;refine df 16 ?_;refine bJ ?_;refine kH rfl ?_;refine sk ?_;refine sq ?_;refine rd [0] (fun i=>[2,4].contains i) mixed ?_
  refine bD 0 ?_;refine aN 1 rfl (cC (z:=100) (by omega) (by omega)) eM ⟨a1 rfl,rfl⟩ (qF (.of ((100:Int):Rat))) ?_
  refine aN 2 rfl (yT (Qn.of (p:=p) (hs.mono (M:=68719476736) (by omega))) (Qn.of (p:=((100:Int):Rat)) (cV (by omega) (by omega)))) Gz ⟨aD rfl,aD rfl,rfl⟩ (qF (.of (p*((100:Int):Rat)))) ?_
  refine aN 3 rfl (tX (p:=p*((100:Int):Rat)) (n:=4) (Qn.of (p:=p*((100:Int):Rat)) (hm2.mono (M:=68719476736) (by omega))) hm2 (by omega)) vY ⟨aD rfl,a1 rfl,rfl⟩ (.one (tv (.string (aA (aK (p*((100:Int):Rat)) (aX 4)))))) ?_
  refine gA 4 (by kernel_rfl) rfl rfl aB rfl (by trivial) ?_ (fun h=>by first | rfl | cases h)
  refine bJ ?_;refine sq ?_;refine rl ?_;refine o1 ?_
  refine ca (Ny hWl (by omega)) GJ ⟨a1 rfl,a1 rfl,rfl⟩ (.one (tv (.string (aA (fS p0 (aK (p*((100:Int):Rat)) (aX 4))))))) ?_
  refine ca (yM (rP hWl) (Nat.le_trans vZ (by omega))) GK ⟨a1 rfl,a1 rfl,rfl⟩ (.one (tv (.string (aA (cK 46 (fS p0 (aK (p*((100:Int):Rat)) (aX 4)))))))) ?_
  refine o1 ?_ (hC:=(by rw[aH];have h8:=Ac (c:=46) (l:=fS p0 (aK (p*((100:Int):Rat)) (aX 4)));have h9:=vZ (p:=p0) (l:=(aK (p*((100:Int):Rat)) (aX 4)));show _+1≤_;omega))
  refine WL.cast (t:=31) (u':=.string (aA (cK 46 (fS p0 (aK (p*((100:Int):Rat)) (aX 4)))++[37]))) rfl (congrArg Value.string (lT _ [37])) ?_;refine o1 ?_;refine nl ?_
  refine rt ?_
  exact en (.inl rfl) rfl (bI (aZ _)) (by decide) (fun _=>trivial) (congrArg (fun z=>FV.one (tv (.string z))) (congrArg aA (Ql (fun h9=>h1 (Int.sign_neg_iff.2 (lH.2 h9))) (fun h9=>h2 (Xm h9)) (of_decide_eq_true h3)).symm))
 refine df 15 ?_;refine df 16 ?_;refine bJ ?_;refine jH rfl ?_;refine sq ?_;refine rl ?_;refine o1 ?_;refine nl ?_;refine rt ?_
 exact en (.inl rfl) rfl (bI (aZ _)) (by decide) (fun _=>trivial) (congrArg (fun z=>FV.one (tv (.string z))) (congrArg aA (Aa (.inr (.inr (of_decide_eq_false h3)))).symm))
theorem tY {q:Rat}(h:0≤q):0≤hal q:=by
 have h1:0≤q.num.fdiv (q.den:Int):=by rw[nL];have:=Td h;rwa[show fl 0=0 from Xn 0]at this
 unfold hal
 split <;> omega
theorem Xo {q:Rat}{m:Int}(h:q≤(m:Rat)):hal q≤m:=by
 have h2:=(Ad q).1
 rcases Int.lt_or_le m (hal q)with h3 | h3
 ·exfalso
  have h4:((m+1:Int):Rat)≤((hal q:Int):Rat):=by exact_mod_cast h3
  have h5:((m+1:Int):Rat)=(m:Rat)+1:=by push_cast;rfl
  rw[h5]at h4
  have h6:2*((m:Rat)+1)-2*q≤1:=by grind
  grind
 exact h3
def pU (l:List Nat):List Nat:=dl9c (fS p0 l)
where dl9c (l:List Nat):List Nat:=if l.drop (l.length-1)=[46]then l.take (l.length-1)else l
theorem Qo (l:List Nat):fS p0 (l++[48])=fS p0 l:=by
 unfold fS
 rw[List.reverse_append]
 rfl
theorem Qp {l:List Nat}{c:Nat}(h:c≠48):fS p0 (l++[c])=l++[c]:=by
 unfold fS
 rw[List.reverse_append]
 show(List.dropWhile p0 (c::l.reverse)).reverse=_
 rw[List.dropWhile_cons,if_neg (by unfold p0;simp[h])]
 simp
theorem GL {l:List Nat}{c:Nat}(h:c≠46):pU.dl9c (l++[c])=l++[c]:=by
 unfold pU.dl9c
 rw[if_neg]
 rw[List.length_append,List.length_singleton,Nat.add_sub_cancel,List.drop_left]
 intro h2
 injection h2 with h2
 exact h h2
theorem GM (l:List Nat):pU.dl9c (l++[46])=l:=by
 unfold pU.dl9c
 rw[List.length_append,List.length_singleton,Nat.add_sub_cancel,if_pos List.drop_left,List.take_left]
theorem wA (n d:Nat):wr n (d+1)=(if d=0 then tx (n/10)++[46]else wr (n/10) d)++[48+n%10]:=by
 unfold wr
 rw[if_neg (by omega),pd,Nat.pow_succ,Nat.mul_comm,←Nat.div_div_eq_div_mul]
 by_cases h:d=0
 ·subst h
  rw[if_pos rfl,Nat.pow_zero,Nat.div_one]
  simp[pd]
 rw[if_neg h,if_neg h]
 simp
theorem Hd {n d:Nat}(h:n%10≠0):pU (wr n (d+1))=wr n (d+1):=by
 unfold pU
 rw[wA,Qp (by omega),GL (by omega)]
theorem oT {n d:Nat}(h:n%10=0):pU (wr n (d+2))=pU (wr (n/10) (d+1)):=by
 unfold pU
 rw[wA,h,Qo,if_neg (by omega)]
theorem GN {n:Nat}(h:n%10=0):pU (wr n 1)=wr (n/10) 0:=by
 unfold pU
 rw[wA,h,Qo,if_pos rfl,Qp (by omega),GM]
 unfold wr
 rw[if_pos rfl,Nat.pow_zero,Nat.div_one,List.append_nil]
theorem GO {N j:Nat}(hj:j≤4) (h:N%10^(4-j)=0) (h2:∀i,i<j→N%10^(4-i)≠0):pU (wr N 4)=wr (N/10^(4-j)) j:=by
 match j,hj with
 | 4,_=>
  have:=h2 3 (by omega)
  rw[Hd (d:=3) (by simpa using this)]
  simp
 | 3,_=>
  have:=h2 2 (by omega)
  have e:10^(4-3)=10:=rfl
  rw[e]at h⊢
  simp only[show 10^(4-2)=100 from rfl]at this
  rw[oT (d:=2) h,Hd (d:=2) (by omega)]
 | 2,_=>
  have:=h2 1 (by omega)
  have e:10^(4-2)=100:=rfl
  rw[e]at h⊢
  simp only[show 10^(4-1)=1000 from rfl]at this
  rw[oT (d:=2) (by omega),oT (d:=1) (by omega),Hd (d:=1) (by omega),Nat.div_div_eq_div_mul]
 | 1,_=>
  have:=h2 0 (by omega)
  have e:10^(4-1)=1000:=rfl
  rw[e]at h⊢
  simp only[show 10^(4-0)=10000 from rfl]at this
  rw[oT (d:=2) (by omega),oT (d:=1) (by omega),oT (d:=0) (by omega),Hd (d:=0) (by omega),Nat.div_div_eq_div_mul,Nat.div_div_eq_div_mul]
 | 0,_=>
  have e:10^(4-0)=10000:=rfl
  rw[e]at h⊢
  rw[oT (d:=2) (by omega),oT (d:=1) (by omega),oT (d:=0) (by omega),GN (by omega),Nat.div_div_eq_div_mul,Nat.div_div_eq_div_mul,Nat.div_div_eq_div_mul]
theorem Eg (j:Nat):((10^j:Nat):Rat)≠0:=by
 have:0<10^j:=Nat.pow_pos (by omega)
 exact_mod_cast (by omega:(10^j:Nat)≠0)
theorem Xp (j:Nat):(0:Rat)<((10^j:Nat):Rat):=by
 have:0<10^j:=Nat.pow_pos (by omega)
 exact_mod_cast this
theorem Eh (z:Int) (j:Nat):Rat.divInt z ((10^j:Nat):Int)*((10^j:Nat):Rat)=(z:Rat):=by
 have h:=Dl z ((10^j:Nat):Int) (by have:0<10^j:=Nat.pow_pos (by omega);omega)
 rwa[Rat.intCast_natCast]at h
theorem Te {m:Nat}(h:m<1000):(tx m).length≤3:=by
 by_cases h1:m<10
 ·rw[Ae h1];simp
 rw[wB (by omega),List.length_append]
 by_cases h2:m/10<10
 ·rw[Ae h2];simp
 rw[wB (by omega),List.length_append,Ae (by omega)];simp
theorem Xq (l:List Nat):hH 37 (l++[37])=true∧cK 37 (l++[37])=l:=by
 have h:(l++[37]).drop ((l++[37]).length-1)=[37]:=by rw[List.length_append,List.length_singleton,Nat.add_sub_cancel,List.drop_left]
 refine⟨decide_eq_true h,?_⟩
 unfold cK
 rw[if_pos h,List.length_append,List.length_singleton,Nat.add_sub_cancel,List.take_left]
section
variable {p:Rat}{j:Nat}
theorem Af (h0:0≤p) (h1:p≤((1:Int):Rat)) (hj:j≤4):eB (aK (p*((100:Int):Rat)) j++[37])=0∧aP (aK (p*((100:Int):Rat)) j++[37])=Rat.divInt (hal (p*((100:Int):Rat)*((10^j:Nat):Rat))) ((10^j:Nat):Int)/((100:Int):Rat):=by
 obtain⟨e1,e2⟩:=Xq (aK (p*((100:Int):Rat)) j)
 have hT:=Xp j
 have hu:((100:Int):Rat)=100:=rfl
 have h1':p≤1:=h1
 have hz0:0≤hal (p*((100:Int):Rat)*((10^j:Nat):Rat)):=tY (by rw[hu];exact Rat.mul_nonneg (by grind) (Rat.le_of_lt hT))
 have hzm:hal (p*((100:Int):Rat)*((10^j:Nat):Rat))≤100*((10^j:Nat):Int):=Xo (by
  rw[Rat.intCast_mul,Rat.intCast_natCast,hu]
  exact Rat.mul_le_mul_of_nonneg_right (by show p*100≤100;grind) (Rat.le_of_lt hT))
 have hE:dU (aK (p*((100:Int):Rat)) j) 4=0:=by
  unfold aK
  rw[Nz,if_pos hj,if_neg]
  generalize hal (p*((100:Int):Rat)*((10^j:Nat):Rat))=z at hz0 hzm
  have h2:z.natAbs/10^j≤100:=by
   have h3:z.natAbs≤100*10^j:=by omega
   calc z.natAbs/10^j≤100*10^j/10^j:=Nat.div_le_div_right h3
    _=100:=Nat.mul_div_cancel _ (Nat.pow_pos (by omega))
  have:=Te (m:=z.natAbs/10^j) (by omega)
  omega
 have hQ:cL (aK (p*((100:Int):Rat)) j) 4=Rat.divInt (hal (p*((100:Int):Rat)*((10^j:Nat):Rat))) ((10^j:Nat):Int):=by
  unfold cL
  rw[if_pos hE]
  exact Xr _ _
 have hv:=Eh (hal (p*((100:Int):Rat)*((10^j:Nat):Rat))) j
 have hS:eB (aK (p*((100:Int):Rat)) j++[37])=0:=by
  refine if_pos ⟨e1,by rw[e2];exact hE,?_,?_⟩
  ·rw[e2,hQ]
   refine Rat.le_of_mul_le_mul_right ?_ hT
   rw[hv,Rat.zero_mul]
   exact_mod_cast hz0
  rw[e2,hQ]
  refine Rat.le_of_mul_le_mul_right ?_ hT
  rw[hv]
  have h9:((hal (p*((100:Int):Rat)*((10^j:Nat):Rat)):Int):Rat)≤((100*((10^j:Nat):Int):Int):Rat):=by exact_mod_cast hzm
  rwa[Rat.intCast_mul,Rat.intCast_natCast]at h9
 refine⟨hS,?_⟩
 unfold aP
 rw[if_pos hS,e2,hQ]
theorem Ei (h0:0≤p) (h1:p≤((1:Int):Rat)) (hj:j≤4) (h:p=aP (aK (p*((100:Int):Rat)) j++[37])):p*((100:Int):Rat)*((10^j:Nat):Rat)=((hal (p*((100:Int):Rat)*((10^j:Nat):Rat)):Int):Rat):=by
 rw[(Af h0 h1 hj).2]at h
 have hv:=Eh (hal (p*((100:Int):Rat)*((10^j:Nat):Rat))) j
 generalize hal (p*((100:Int):Rat)*((10^j:Nat):Rat))=z at h hv
 have h2:p*((100:Int):Rat)=Rat.divInt z ((10^j:Nat):Int):=by
  rw[h,Rat.div_mul_cancel]
  decide
 rw[h2]
 exact hv
theorem Ka (h0:0≤p) (h1:p≤((1:Int):Rat)) (hj:j≤4){z:Int}(h:p*((100:Int):Rat)*((10^j:Nat):Rat)=(z:Rat)):p=aP (aK (p*((100:Int):Rat)) j++[37]):=by
 rw[(Af h0 h1 hj).2,h,wC]
 have hv:=Eh z j
 rw[←h]at hv
 have h2:=wD (Eg j) hv
 rw[h2]
 have h3:p*((100:Int):Rat)/((100:Int):Rat)=p:=by
  rw[Rat.div_def,Rat.mul_assoc,Rat.mul_inv_cancel _ (by decide),Rat.mul_one]
 exact h3.symm
theorem FL (hj:j≤4):p*((1000000:Int):Rat)=p*((100:Int):Rat)*((10^j:Nat):Rat)*((10^(4-j):Nat):Rat):=by
 rw[Rat.mul_assoc,Rat.mul_assoc]
 congr 1
 have:(1000000:Int)=100*((10^j:Nat)*(10^(4-j):Nat):Nat):=by
  rw[←Nat.pow_add,show j+(4-j)=4 by omega]
  rfl
 rw[this,Rat.intCast_mul,Rat.intCast_natCast,Rat.natCast_mul]
theorem Tf (h0:0≤p) (h:(p*((1000000:Int):Rat)).den=1):∃N:Nat,p*((1000000:Int):Rat)=(((N:Nat):Int):Rat):=by
 have h1:=Tg h
 have h2:0≤(p*((1000000:Int):Rat)).num:=by
  rw[Rat.num_nonneg]
  exact Rat.mul_nonneg h0 (by decide)
 refine⟨(p*((1000000:Int):Rat)).num.toNat,?_⟩
 rw[Int.toNat_of_nonneg h2]
 exact h1.symm
theorem rQ {N:Nat}(hN:p*((1000000:Int):Rat)=(((N:Nat):Int):Rat)) (h0:0≤p) (h1:p≤((1:Int):Rat)) (hj:j≤4):(p=aP (aK (p*((100:Int):Rat)) j++[37])↔N%10^(4-j)=0)∧(N%10^(4-j)=0→aK (p*((100:Int):Rat)) j=wr (N/10^(4-j)) j):=by
 have hm:=FL (p:=p) hj
 rw[hN]at hm
 have back:N%10^(4-j)=0→p*((100:Int):Rat)*((10^j:Nat):Rat)=(((N/10^(4-j):Nat):Int):Rat):=fun h=>by
  refine wD (Eg (4-j)) ?_
  rw[←hm,Rat.intCast_natCast,Rat.intCast_natCast,←Rat.natCast_mul]
  congr 1
  have:=Nat.div_add_mod' N (10^(4-j))
  omega
 refine⟨⟨fun h=>?_,fun h=>Ka h0 h1 hj (back h)⟩,fun h=>?_⟩
 ·have h2:=Ei h0 h1 hj h
  rw[h2]at hm
  have hz0:0≤hal (p*((100:Int):Rat)*((10^j:Nat):Rat)):=tY (Rat.mul_nonneg (Rat.mul_nonneg h0 (by decide)) (Rat.le_of_lt (Xp j)))
  generalize hal (p*((100:Int):Rat)*((10^j:Nat):Rat))=z at hm hz0
  obtain⟨q,rfl⟩:∃q:Nat,z=(q:Int):=⟨z.toNat,by omega⟩
  rw[Rat.intCast_natCast,Rat.intCast_natCast,←Rat.natCast_mul]at hm
  have h3:N=q*10^(4-j):=by exact_mod_cast hm
  rw[h3,Nat.mul_mod_left]
 unfold aK
 rw[back h,wC]
 unfold pt
 rw[if_neg (Int.not_lt.2 (Int.natCast_nonneg _)),Int.natAbs_natCast]
theorem Xs (h0:0≤p) (h1:p≤((1:Int):Rat)) (hj:j≤4) (h:p=aP (aK (p*((100:Int):Rat)) j++[37])) (hn:∀i,i<j→p≠aP (aK (p*((100:Int):Rat)) i++[37])):aK (p*((100:Int):Rat)) j++[37]=eT p:=by
 have hd:(p*((1000000:Int):Rat)).den=1:=by
  rw[FL hj,Ei h0 h1 hj h]
  generalize hal (p*((100:Int):Rat)*((10^j:Nat):Rat))=z
  have e:(z:Rat)*((10^(4-j):Nat):Rat)=((z*((10^(4-j):Nat):Int):Int):Rat):=by rw[Rat.intCast_mul,Rat.intCast_natCast]
  rw[e]
  exact Rat.den_intCast _
 obtain⟨N,hN⟩:=Tf h0 hd
 have h2:=((rQ hN h0 h1 hj).1.1 h)
 have h3:∀i,i<j→N%10^(4-i)≠0:=fun i hi h9=>hn i hi ((rQ hN h0 h1 (by omega)).1.2 h9)
 have h4:=GO hj h2 h3
 have h5:=(rQ (j:=4) hN h0 h1 (Nat.le_refl _)).2 (by simp[Nat.mod_one])
 rw[Ql (Rat.not_lt.2 h0) (Rat.not_lt.2 h1) hd]
 rw[show aX 4=4 from rfl,h5,(rQ hN h0 h1 hj).2 h2,←h4]
 simp only[Nat.sub_self,Nat.pow_zero,Nat.div_one]
 rfl
end
section
variable {q:Rat}
end
theorem cS (l:List Nat):Sz 44 (aP l):=by
 unfold aP
 split
 ·exact(Kb (nM _ 4) (cV (z:=100) (by omega) (by omega))).mono (by omega)
 exact(cV (z:=0) (by omega) (by omega)).mono (by omega)
theorem qG {p:Rat}{j L:Nat}(hs:Sz L p) (hj:j≤40) (hL:L+100≤10000):(aK p j).length≤999999:=by
 have h1:(dg 4294967296 (hal (p*((10^j:Nat):Rat))).natAbs).length≤L+43:=by
  have h1:=(lS hs (nJ j)).1
  have h2:(hal (p*((10^j:Nat):Rat))).natAbs≤(fl (p*((10^j:Nat):Rat))).natAbs+1:=by
   unfold hal
   rw[nL]
   split <;> omega
  have h3:=zZ (p*((10^j:Nat):Rat))
  generalize fl (p*((10^j:Nat):Rat))=f at h2 h3
  have h4:=iH (f.natAbs:Int) 1
  have h5:((f.natAbs:Int)+1).natAbs=f.natAbs+1:=by omega
  rw[h5,Int.natAbs_natCast]at h4
  have h6:(dg 4294967296 (1:Int).natAbs).length≤1:=by decide
  have h7:=dK h2
  omega
 have h2:=rN (Nat.le_trans (dK (Nat.div_le_self _ (10^j))) h1)
 have h4:=zY (n:=(hal (p*((10^j:Nat):Rat))).natAbs) (d:=j)
 unfold aK pt
 split
 ·rw[List.length_cons,h4]
  split <;> omega
 rw[h4]
 split <;> omega
theorem CM {n d:Int}(h1:-9223372036854775808≤n) (h2:n≤9223372036854775807) (h3:-9223372036854775808≤d) (h4:d≤9223372036854775807):aE false Tryz.prog 73 [] [.one (tv (.int .i64 n)),.one (tv (.int .i64 d))] (aI (.tup [qF (.of (Rat.divInt n d)),.one (tv (.int .i64 (if d=0 then 20 else 0)))])):=by
 refine bQ Tryz.func73 rfl Tryz.ntmps73 rfl aB rfl fun N9 w9 c0 h0=>?_
 refine sq ?_;refine rl ?_;refine al 0 ?_;refine o1 ?_;refine nl ?_;refine sq ?_;refine rl ?_;refine o1 ?_;refine ca (sX (n:=n) (by omega) (by omega)) sY ⟨a1 rfl,rfl⟩ (kF n) ?_
 refine o1 ?_;refine ca (sX (n:=d) (by omega) (by omega)) sY ⟨a1 rfl,rfl⟩ (kF d) ?_
 refine ca (Hf (Zn.of (k:=n) (Nat.le_trans (Ag h1 h2) (by omega))) (Zn.of (k:=d) (Nat.le_trans (Ag h3 h4) (by omega)))) Oa ⟨aD rfl,aD rfl,rfl⟩ (.tup [qF (.of (Rat.divInt n d)),.one (tv (.int .i64 (if d=0 then 20 else 0)))]) ?_
 refine o1 ?_;refine o1 ?_;refine st ?_;refine o1 ?_;refine nl ?_;refine rt ?_
 exact en (.inl rfl) rfl (dP (.cons (.agg (.cons (.id rfl) (.cons (.id rfl) (.cons (.id rfl) (.cons (.id rfl) .nil))))) (.cons (aZ _) .nil))) (by decide) (fun h=>by cases h) rfl
theorem mY {n d:Int}(h1:-9223372036854775808≤n) (h2:n≤9223372036854775807) (h3:-9223372036854775808≤d) (h4:d≤9223372036854775807):aE false Tryz.prog 30 [] [.one (tv (.int .i64 n)),.one (tv (.int .i64 d))] (aI (qF (.of (Rat.divInt n d)))):=by
 refine bQ Tryz.func30 rfl Tryz.ntmps30 rfl aB rfl fun N9 w9 c0 h0=>?_
 refine sq ?_;refine rl ?_;refine al 0 ?_;refine nl ?_;refine sq ?_;refine rl ?_;refine o1 ?_;refine o1 ?_
 refine ca (CM h1 h2 h3 h4) GP ⟨a1 rfl,a1 rfl,rfl⟩ (.tup [qF (.of (Rat.divInt n d)),.one (tv (.int .i64 (if d=0 then 20 else 0)))]) ?_;(iterate 3 refine o1 ?_);refine al 1 ?_;refine st ?_
 refine o1 ?_;refine nl ?_;refine sq ?_;refine rl ?_;refine ld ?_;refine st ?_;refine nl ?_;refine rt ?_
 exact en (.inl rfl) rfl (bI (.agg (.cons (.id rfl) (.cons (.id rfl) (.cons (.id rfl) (.cons (.id rfl) .nil)))))) (by decide) (fun h=>by cases h) (rfl)
theorem JC:aE false Tryz.prog 8 [] [.one (tv (.string ⟨#[45,49,50,46,53,48]⟩))] (aI (.tup [qF (.of (Rat.divInt (-25) 2)),.one (tv (.int .i64 0))])):=by
 have h:=rR (l:=[45,49,50,46,53,48]) (show∀x∈[45,49,50,46,53,48],x<256 by decide) (by decide)
 rwa[show cL [45,49,50,46,53,48] [45,49,50,46,53,48].length=(Rat.divInt (-25) 2) by decide+kernel,show dU [45,49,50,46,53,48] [45,49,50,46,53,48].length=0 by decide+kernel]at h
theorem JD:aE false Tryz.prog 9 [] [.one (tv (.string ⟨#[48,46,48,53]⟩))] (aI (.tup [qF (.of (Rat.divInt 1 20)),.one (tv (.int .i64 0))])):=by
 have h:=Ah (l:=[48,46,48,53]) (show∀x∈[48,46,48,53],x<256 by decide) (by decide)
 rwa[show cL [48,46,48,53] 2=(Rat.divInt 1 20) by decide+kernel,show dU [48,46,48,53] 2=0 by decide+kernel]at h
theorem JE:aE false Tryz.prog 9 [] [.one (tv (.string ⟨#[49,46,48,48,53]⟩))] (aI (.tup [qF (.of (0:Rat)),.one (tv (.int .i64 60))])):=by
 have h:=Ah (l:=[49,46,48,48,53]) (show∀x∈[49,46,48,48,53],x<256 by decide) (by decide)
 rwa[show cL [49,46,48,48,53] 2=(0:Rat) by decide+kernel,show dU [49,46,48,48,53] 2=60 by decide+kernel]at h
theorem JF:aE false Tryz.prog 10 [] [.one (tv (.string ⟨#[51,55,46,53,37]⟩))] (aI (.tup [qF (.of (Rat.divInt 3 8)),.one (tv (.int .i64 0))])):=by
 have h:=fW (l:=[51,55,46,53,37]) (show∀x∈[51,55,46,53,37],x<256 by decide) (by decide)
 rwa[show aP [51,55,46,53,37]=(Rat.divInt 3 8) by decide+kernel,show eB [51,55,46,53,37]=0 by decide+kernel]at h
theorem JG:aE false Tryz.prog 10 [] [.one (tv (.string ⟨#[49,48,48,37]⟩))] (aI (.tup [qF (.of (Rat.divInt 1 1)),.one (tv (.int .i64 0))])):=by
 have h:=fW (l:=[49,48,48,37]) (show∀x∈[49,48,48,37],x<256 by decide) (by decide)
 rwa[show aP [49,48,48,37]=(Rat.divInt 1 1) by decide+kernel,show eB [49,48,48,37]=0 by decide+kernel]at h
theorem JH:aE false Tryz.prog 10 [] [.one (tv (.string ⟨#[49,48,48,46,49,37]⟩))] (aI (.tup [qF (.of (0:Rat)),.one (tv (.int .i64 60))])):=by
 have h:=fW (l:=[49,48,48,46,49,37]) (show∀x∈[49,48,48,46,49,37],x<256 by decide) (by decide)
 rwa[show aP [49,48,48,46,49,37]=(0:Rat) by decide+kernel,show eB [49,48,48,46,49,37]=60 by decide+kernel]at h
theorem JI:aE false Tryz.prog 10 [] [.one (tv (.string ⟨#[53]⟩))] (aI (.tup [qF (.of (0:Rat)),.one (tv (.int .i64 60))])):=by
 have h:=fW (l:=[53]) (show∀x∈[53],x<256 by decide) (by decide)
 rwa[show aP [53]=(0:Rat) by decide+kernel,show eB [53]=60 by decide+kernel]at h
theorem JJ:aE true Tryz.prog 18 [] [qF (.of (Rat.divInt 1 8))] (aI (.one (tv (.string (aA [48,46,49,50]))))):=by
 have h:=vX (Qn.of (p:=(Rat.divInt 1 8)) ((fJ (by omega) (by omega) (by omega) (by omega)).mono (M:=68719476736) (by omega))) (fJ (by omega) (by omega) (by omega) (by omega)) (by omega)
 rwa[show(aK (Rat.divInt 1 8) (aX 2))=[48,46,49,50] by decide+kernel]at h
theorem JK:aE true Tryz.prog 18 [] [qF (.of (Rat.divInt 3 8))] (aI (.one (tv (.string (aA [48,46,51,56]))))):=by
 have h:=vX (Qn.of (p:=(Rat.divInt 3 8)) ((fJ (by omega) (by omega) (by omega) (by omega)).mono (M:=68719476736) (by omega))) (fJ (by omega) (by omega) (by omega) (by omega)) (by omega)
 rwa[show(aK (Rat.divInt 3 8) (aX 2))=[48,46,51,56] by decide+kernel]at h
theorem JL:aE true Tryz.prog 18 [] [qF (.of (Rat.divInt (-1) 1000))] (aI (.one (tv (.string (aA [48,46,48,48]))))):=by
 have h:=vX (Qn.of (p:=(Rat.divInt (-1) 1000)) ((fJ (by omega) (by omega) (by omega) (by omega)).mono (M:=68719476736) (by omega))) (fJ (by omega) (by omega) (by omega) (by omega)) (by omega)
 rwa[show(aK (Rat.divInt (-1) 1000) (aX 2))=[48,46,48,48] by decide+kernel]at h
theorem JM:aE true Tryz.prog 16 [] [qF (.of (Rat.divInt 7 2)),.one (tv (.int .i64 0))] (aI (.one (tv (.string (aA [52]))))):=by
 have h:=tX (n:=0) (Qn.of (p:=(Rat.divInt 7 2)) ((fJ (by omega) (by omega) (by omega) (by omega)).mono (M:=68719476736) (by omega))) (fJ (by omega) (by omega) (by omega) (by omega)) (by omega)
 rwa[show(aK (Rat.divInt 7 2) (aX 0))=[52] by decide+kernel]at h
theorem JN:aE true Tryz.prog 19 [] [qF (.of (Rat.divInt 3 8))] (aI (.one (tv (.string (aA [51,55,46,53,37]))))):=by
 have h:=iT (Qn.of (p:=(Rat.divInt 3 8)) ((fJ (by omega) (by omega) (by omega) (by omega)).mono (M:=68719476736) (by omega))) (fJ (by omega) (by omega) (by omega) (by omega)) (by omega)
 rwa[show(eT (Rat.divInt 3 8))=[51,55,46,53,37] by decide+kernel]at h
theorem JO:aE true Tryz.prog 19 [] [qF (.of (Rat.divInt 1 3))] (aI (.one (tv (.string (aA []))))):=by
 have h:=iT (Qn.of (p:=(Rat.divInt 1 3)) ((fJ (by omega) (by omega) (by omega) (by omega)).mono (M:=68719476736) (by omega))) (fJ (by omega) (by omega) (by omega) (by omega)) (by omega)
 rwa[show(eT (Rat.divInt 1 3))=[] by decide+kernel]at h
theorem tZ {p:Rat}(h:Sz 68719476736 p):aE true Tryz.prog 27 [] [qF (.of p),qF (.of p)] (aI (.one (tv (.int .i64 0)))):=by
 have h1:=iU (Qn.of (p:=p) h) (Qn.of (p:=p) h)
 rwa[show p-p=0 by grind]at h1
theorem fG:aE true Tryz.prog 7 [] [] (aI (.one (tv (.bool true)))):=by
 refine bQ Tryz.func7 rfl Tryz.ntmps7 rfl aB rfl fun N9 w9 c0 h0=>?_
 refine sq ?_;refine rl ?_;refine o1 ?_;refine nl ?_;refine sq ?_;refine rl ?_;refine ca (JC) Qq ⟨a1 rfl,rfl⟩ (.tup [qF (.of (Rat.divInt (-25) 2)),.one (tv (.int .i64 0))]) ?_
 (iterate 3 refine o1 ?_);refine al 0 ?_;refine st ?_;refine o1 ?_;refine nl ?_;refine sq ?_;refine rl ?_
 refine ca (JD) FM ⟨a1 rfl,rfl⟩ (.tup [qF (.of (Rat.divInt 1 20)),.one (tv (.int .i64 0))]) ?_;(iterate 3 refine o1 ?_);refine al 1 ?_;refine st ?_;refine o1 ?_;refine nl ?_;refine sq ?_
 refine rl ?_;refine ca (JE) FM ⟨a1 rfl,rfl⟩ (.tup [qF (.of (0:Rat)),.one (tv (.int .i64 60))]) ?_;(iterate 3 refine o1 ?_);refine al 2 ?_;refine st ?_;refine o1 ?_;refine nl ?_
 refine sq ?_;refine rl ?_;refine ca (JF) mZ ⟨a1 rfl,rfl⟩ (.tup [qF (.of (Rat.divInt 3 8)),.one (tv (.int .i64 0))]) ?_;(iterate 3 refine o1 ?_);refine al 3 ?_;refine st ?_;refine o1 ?_
 refine nl ?_;refine sq ?_;refine rl ?_;refine ca (JG) mZ ⟨a1 rfl,rfl⟩ (.tup [qF (.of (Rat.divInt 1 1)),.one (tv (.int .i64 0))]) ?_;(iterate 3 refine o1 ?_);refine al 4 ?_;refine st ?_
 refine o1 ?_;refine nl ?_;refine sq ?_;refine rl ?_;refine ca (JH) mZ ⟨a1 rfl,rfl⟩ (.tup [qF (.of (0:Rat)),.one (tv (.int .i64 60))]) ?_;(iterate 3 refine o1 ?_);refine al 5 ?_
 refine st ?_;refine o1 ?_;refine nl ?_;refine sq ?_;refine rl ?_;refine ca (JI) mZ ⟨a1 rfl,rfl⟩ (.tup [qF (.of (0:Rat)),.one (tv (.int .i64 60))]) ?_;(iterate 3 refine o1 ?_)
 refine al 6 ?_;refine st ?_;refine o1 ?_;refine nl ?_;refine sq ?_;refine rd [0,1,2,3,4,5,6] (fun i=>[80].contains i) mixed ?_
 refine dv 0 ?_;refine dv 1 ?_;refine dv 2 ?_;refine WD.split (t:=45) rfl rfl (fun h1=>?_) (fun h1=>?_)
 ·refine bD 3 ?_;refine aN 4 rfl (mY (n:=(-25)) (d:=2) (by omega) (by omega) (by omega) (by omega)) nA ⟨a1 rfl,a1 rfl,rfl⟩ (qF (.of (Rat.divInt (-25) 2))) ?_
  refine aN 5 rfl (tZ (p:=(Rat.divInt (-25) 2)) ((fJ (by omega) (by omega) (by omega) (by omega)).mono (M:=68719476736) (by omega))) iV ⟨aD rfl,aD rfl,rfl⟩ (.one (tv (.int .i64 0))) ?_
  refine df 6 ?_;refine df 7 ?_;refine df 8 ?_;refine WD.split (t:=51) rfl rfl (fun h2=>?_) (fun h2=>?_)
  ·refine dv 9 ?_;refine dv 10 ?_;refine df 11 ?_;refine df 12 ?_;refine WD.split (t:=55) rfl rfl (fun h3=>?_) (fun h3=>?_)
   ·refine bD 13 ?_;refine aN 14 rfl (mY (n:=1) (d:=20) (by omega) (by omega) (by omega) (by omega)) nA ⟨a1 rfl,a1 rfl,rfl⟩ (qF (.of (Rat.divInt 1 20))) ?_
    refine aN 15 rfl (tZ (p:=(Rat.divInt 1 20)) ((fJ (by omega) (by omega) (by omega) (by omega)).mono (M:=68719476736) (by omega))) iV ⟨aD rfl,aD rfl,rfl⟩ (.one (tv (.int .i64 0))) ?_
    refine df 16 ?_;refine df 17 ?_;refine df 18 ?_;refine WD.split (t:=61) rfl rfl (fun h4=>?_) (fun h4=>?_)
    ·refine dv 19 ?_;refine dv 20 ?_;refine df 21 ?_;refine df 22 ?_;refine WD.split (t:=65) rfl rfl (fun h5=>?_) (fun h5=>?_)
     ·refine dv 23 ?_;refine dv 24 ?_;refine df 25 ?_;refine df 26 ?_;refine WD.split (t:=69) rfl rfl (fun h6=>?_) (fun h6=>?_)
      ·refine bD 27 ?_;refine aN 28 rfl (mY (n:=3) (d:=8) (by omega) (by omega) (by omega) (by omega)) nA ⟨a1 rfl,a1 rfl,rfl⟩ (qF (.of (Rat.divInt 3 8))) ?_
       refine aN 29 rfl (tZ (p:=(Rat.divInt 3 8)) ((fJ (by omega) (by omega) (by omega) (by omega)).mono (M:=68719476736) (by omega))) iV ⟨aD rfl,aD rfl,rfl⟩ (.one (tv (.int .i64 0))) ?_
       refine df 30 ?_;refine df 31 ?_;refine df 32 ?_;refine WD.split (t:=75) rfl rfl (fun h7=>?_) (fun h7=>?_)
       ·refine dv 33 ?_;refine dv 34 ?_;refine df 35 ?_;refine df 36 ?_;refine WD.split (t:=79) rfl rfl (fun h8=>?_) (fun h8=>?_)
        ·refine bD 37 ?_;refine aN 38 rfl (mY (n:=1) (d:=1) (by omega) (by omega) (by omega) (by omega)) nA ⟨a1 rfl,a1 rfl,rfl⟩ (qF (.of (Rat.divInt 1 1))) ?_
         refine aN 39 rfl (tZ (p:=(Rat.divInt 1 1)) ((fJ (by omega) (by omega) (by omega) (by omega)).mono (M:=68719476736) (by omega))) iV ⟨aD rfl,aD rfl,rfl⟩ (.one (tv (.int .i64 0))) ?_
         refine df 40 ?_;refine df 41 ?_;refine df 42 ?_;refine WD.split (t:=85) rfl rfl (fun h9=>?_) (fun h9=>?_)
         ·refine dv 43 ?_;refine dv 44 ?_;refine df 45 ?_;refine df 46 ?_;refine WD.split (t:=89) rfl rfl (fun h10=>?_) (fun h10=>?_)
          ·refine dv 47 ?_;refine dv 48 ?_;refine df 49 ?_;refine df 50 ?_;refine WD.split (t:=93) rfl rfl (fun h11=>?_) (fun h11=>?_)
           ·refine aN 51 rfl (mY (n:=1) (d:=8) (by omega) (by omega) (by omega) (by omega)) nA ⟨a1 rfl,a1 rfl,rfl⟩ (qF (.of (Rat.divInt 1 8))) ?_
            refine aN 52 rfl (JJ) Oc ⟨aD rfl,rfl⟩ (.one (tv (.string (aA [48,46,49,50])))) ?_;refine df 53 ?_
            refine WD.cast (t:=96) (u':=.bool true) rfl (congrArg Value.bool ((gO (l:=[48,46,49,50]) (l':=[48,46,49,50]) (show∀x∈([48,46,49,50]:List Nat),x<256 by decide) (show∀x∈([48,46,49,50]:List Nat),x<256 by decide)).trans (decide_eq_true rfl))) ?_
            refine df 54 ?_;refine df 55 ?_
            refine aN 56 rfl (mY (n:=3) (d:=8) (by omega) (by omega) (by omega) (by omega)) nA ⟨a1 rfl,a1 rfl,rfl⟩ (qF (.of (Rat.divInt 3 8))) ?_
            refine aN 57 rfl (JK) Oc ⟨aD rfl,rfl⟩ (.one (tv (.string (aA [48,46,51,56])))) ?_;refine df 58 ?_
            refine WD.cast (t:=101) (u':=.bool true) rfl (congrArg Value.bool ((gO (l:=[48,46,51,56]) (l':=[48,46,51,56]) (show∀x∈([48,46,51,56]:List Nat),x<256 by decide) (show∀x∈([48,46,51,56]:List Nat),x<256 by decide)).trans (decide_eq_true rfl))) ?_
            refine df 59 ?_;refine df 60 ?_
            refine aN 61 rfl (mY (n:=(-1)) (d:=1000) (by omega) (by omega) (by omega) (by omega)) nA ⟨a1 rfl,a1 rfl,rfl⟩ (qF (.of (Rat.divInt (-1) 1000))) ?_
            refine aN 62 rfl (JL) Oc ⟨aD rfl,rfl⟩ (.one (tv (.string (aA [48,46,48,48])))) ?_;refine df 63 ?_
            refine WD.cast (t:=106) (u':=.bool true) rfl (congrArg Value.bool ((gO (l:=[48,46,48,48]) (l':=[48,46,48,48]) (show∀x∈([48,46,48,48]:List Nat),x<256 by decide) (show∀x∈([48,46,48,48]:List Nat),x<256 by decide)).trans (decide_eq_true rfl))) ?_
            refine df 64 ?_;refine df 65 ?_
            refine aN 66 rfl (mY (n:=7) (d:=2) (by omega) (by omega) (by omega) (by omega)) nA ⟨a1 rfl,a1 rfl,rfl⟩ (qF (.of (Rat.divInt 7 2))) ?_
            refine aN 67 rfl (JM) vY ⟨aD rfl,a1 rfl,rfl⟩ (.one (tv (.string (aA [52])))) ?_;refine df 68 ?_
            refine WD.cast (t:=111) (u':=.bool true) rfl (congrArg Value.bool ((gO (l:=[52]) (l':=[52]) (show∀x∈([52]:List Nat),x<256 by decide) (show∀x∈([52]:List Nat),x<256 by decide)).trans (decide_eq_true rfl))) ?_
            refine df 69 ?_;refine df 70 ?_
            refine aN 71 rfl (mY (n:=3) (d:=8) (by omega) (by omega) (by omega) (by omega)) nA ⟨a1 rfl,a1 rfl,rfl⟩ (qF (.of (Rat.divInt 3 8))) ?_
            refine aN 72 rfl (JN) Aj ⟨aD rfl,rfl⟩ (.one (tv (.string (aA [51,55,46,53,37])))) ?_;refine df 73 ?_
            refine WD.cast (t:=116) (u':=.bool true) rfl (congrArg Value.bool ((gO (l:=[51,55,46,53,37]) (l':=[51,55,46,53,37]) (show∀x∈([51,55,46,53,37]:List Nat),x<256 by decide) (show∀x∈([51,55,46,53,37]:List Nat),x<256 by decide)).trans (decide_eq_true rfl))) ?_
            refine df 74 ?_;refine df 75 ?_
            refine aN 76 rfl (mY (n:=1) (d:=3) (by omega) (by omega) (by omega) (by omega)) nA ⟨a1 rfl,a1 rfl,rfl⟩ (qF (.of (Rat.divInt 1 3))) ?_
            refine aN 77 rfl (JO) Aj ⟨aD rfl,rfl⟩ (.one (tv (.string (aA [])))) ?_;refine df 78 ?_
            refine WD.cast (t:=121) (u':=.bool true) rfl (congrArg Value.bool ((gO (l:=[]) (l':=[]) (show∀x∈([]:List Nat),x<256 by decide) (show∀x∈([]:List Nat),x<256 by decide)).trans (decide_eq_true rfl))) ?_
            refine df 79 ?_;refine gA 80 (by kernel_rfl) rfl rfl aB rfl (by trivial) ?_ (fun h=>by first | rfl | cases h)
            refine bJ ?_;refine rt ?_;exact gV (.inl rfl) rfl (rfl)
           exact absurd rfl h11
          exact absurd rfl h10
         exact absurd rfl h9
        exact absurd rfl h8
       exact absurd rfl h7
      exact absurd rfl h6
     exact absurd rfl h5
    exact absurd rfl h4
   exact absurd rfl h3
  exact absurd rfl h2
 exact absurd rfl h1
end Go.Proofs.YtcaakamelngceaaGreatDoor
namespace Go.Proofs.YtcaakamelngceaaGreatDoor
open Go Go.RowKit Go.ChangeShapes
def Reads (P:Program) (t:TypeId) (z:Nat) (T:List Tr→Prop):Prop:=
 P.cellsOf t=z∧∀(H:Type) (enc:TypeId×Value→H) (w:World) (fuel:Nat) (cs:List Value) (x:DataW H×List MemPlace),DataW.trod enc P w 0 (fun _=>true) true fuel t cs=some x→∃l,T l∧l.length=z∧FRL w (sH w) l cs
theorem Ej {W:World}{N:Nat→Prop}:∀{l l':List Tr}{us us':List Value},FRL W N l us→FRL W N l' us'→FRL W N (l++l') (us++us')
 | [],l',us,us',h,h'=>by simp only[FRL]at h;subst h;exact h'
 | x::l,l',u::us,us',h,h'=>by simp only[FRL,List.cons_append]at*;exact⟨h.1,Ej h.2 h'⟩
 | _::_,_,[],_,h,_=>by simp only[FRL]at h
theorem Ek {W:World}{N:Nat→Prop}:∀{l:List Tr}{us:List Value}{j:Nat}{x:Tr},FRL W N l us→l[j]? =some x→∃u,us[j]? =some u∧FR W N x u
 | [],_,_,_,_,h=>by simp at h
 | y::l,u::us,0,x,h,e=>by
  simp only[FRL]at h
  simp at e
  subst e
  exact⟨u,rfl,h.1⟩
 | y::l,u::us,j+1,x,h,e=>by
  simp only[FRL]at h
  exact Ek (j:=j) h.2 (by simpa using e)
 | _::_,[],_,_,h,_=>by simp only[FRL]at h
section
variable {P:Program}{t e:TypeId}{k:IntKind}{z:Nat}{T T':List Tr→Prop}
theorem Reads.mono (h:Reads P t z T) (hi:∀l,T l→T' l):Reads P t z T':=⟨h.1,fun H enc w fuel cs x hx=>let ⟨l,a,b⟩:=h.2 H enc w fuel cs x hx;⟨l,hi l a,b⟩⟩
theorem Th (ht:P.underlying t=some .bool) (hz:P.cellsOf t=1):Reads P t 1 (fun l=>∃b,l=[.v (.bool b)]):=⟨hz,fun H enc w fuel cs x hx=>by
 obtain⟨b,rfl,_⟩:=DataW.trod_bool ht hx
 exact⟨_,⟨b,rfl⟩,rfl,by simp[FRL,FR]⟩⟩
theorem Kc (ht:P.underlying t=some (.int k)) (hz:P.cellsOf t=1):Reads P t 1 (fun l=>∃n,l=[.v (.int k n)]∧k.min≤n∧n≤k.max):=⟨hz,fun H enc w fuel cs x hx=>by
 obtain⟨n,rfl,_,h⟩:=DataW.trod_int ht hx
 simp only[Lit.wf,Bool.and_eq_true,decide_eq_true_eq]at h
 exact⟨_,⟨n,rfl,h⟩,rfl,by simp[FRL,FR]⟩⟩
inductive Flds (P:Program):Nat→List Field→Nat→(List Tr→Prop)→Prop
 | nil {o:Nat}:Flds P o [] 0 (· =[])
 | cons {o z z':Nat}{f:Field}{fs:List Field}{T T':List Tr→Prop}(ho:f.offset=o) (h:Reads P f.type z T) (h':Flds P (o+z) fs z' T'):Flds P o (f::fs) (z+z') (fun l=>∃a b,l=a++b∧T a∧T' b)
theorem Flds.read {H:Type}{enc:TypeId×Value→H}{w:World}{n o:Nat}{fs:List Field}(h:Flds P o fs z T):∀{cs:List Value},o+z≤cs.length→(∀f∈fs,∃x,DataW.trod enc P w 0 (fun _=>true) true n f.type ((cs.drop f.offset).take (P.cellsOf f.type))=some x)→∃l,T l∧l.length=z∧FRL w (sH w) l ((cs.drop o).take z):=by
 induction h with
 | nil=>exact fun _ _=>⟨[],rfl,rfl,by simp[FRL]⟩
 | @cons o z z' f fs T T' ho hr _ ih=>
  intro cs hl hf
  obtain⟨b,h1,h2,h3⟩:=ih (cs:=cs) (by omega) fun f hm=>hf f (List.mem_cons_of_mem _ hm)
  obtain⟨x,hx⟩:=hf f List.mem_cons_self
  obtain⟨a,g1,g2,g3⟩:=hr.2 H enc w n _ x hx
  rw[ho,hr.1]at g3
  refine⟨a++b,⟨a,b,rfl,g1,h1⟩,by simp[g2,h2],?_⟩
  rw[List.take_add,List.drop_drop]
  exact Ej g3 h3
theorem xR {fs:List Field}{z':Nat}(ht:P.underlying t=some (.struct fs.toArray)) (hz:P.cellsOf t=z) (h:Flds P 0 fs z' T) (e:z'=z:=by rfl):Reads P t z T:=⟨hz,fun H enc w fuel cs x hx=>by
 subst e
 obtain⟨xs,n,_,rfl,hl,hlen,hf⟩:=DataW.trod_struct ht hx
 rw[hz]at hl
 obtain⟨l,h1,h2,h3⟩:=h.read (H:=H) (enc:=enc) (w:=w) (n:=n) (cs:=cs) (by omega) fun f hm=>by
  obtain⟨i,hi⟩:=List.mem_iff_getElem?.1 hm
  have h1:=hf i f (by simpa using hi)
  have h2:i<xs.length:=by
   have:=(List.getElem?_eq_some_iff.1 hi).1
   simp at hlen
   omega
  rw[List.getElem?_eq_getElem h2]at h1
  exact⟨_,h1⟩
 refine⟨l,h1,h2,?_⟩
 rw[List.drop_zero,List.take_of_length_le (by omega)]at h3
 exact h3⟩
theorem Od (ht:P.underlying t=some (.slice e)) (hz:P.cellsOf t=1) (hz0:0<z) (h:Reads P e z T):Reads P t 1 (fun l=>∃rows:List (List Tr),(∀r∈rows,T r∧r.length=z)∧l=[.s false e z rows.length rows.flatten]):=⟨hz,fun H enc w fuel cs x hx=>by
 have hlen:∀(rows:List (List Tr)),(∀r∈rows,T r∧r.length=z)→rows.flatten.length=rows.length*z:=by
  intro rows
  induction rows with
  | nil=>intro _;simp
  | cons r rows ih=>
   intro hr
   rw[List.flatten_cons,List.length_append,(hr r List.mem_cons_self).2,ih fun r hm=>hr r (List.mem_cons_of_mem _ hm),List.length_cons,Nat.succ_mul,Nat.add_comm]
 rcases Deep.open_slice ht hx with⟨rfl,_⟩ | ⟨a,len,cap,m,n,D,Pl,rfl,_,hl,hm,hmm,_,hel⟩
 ·refine⟨_,⟨[],fun _ h=>(by cases h),rfl⟩,rfl,?_⟩
  simp only[FRL,FR,and_true]
  exact⟨none,0,rfl,Nat.le_refl _,by omega,by simp,.inl rfl⟩
 have hmc:m=cap:=by simpa using hmm
 rw[h.1]at hel
 have hex:∀i:Nat,∃l:List Tr,i<len→T l∧l.length=z∧∀j y,l[j]? =some y→∃u,w.cell? ((a.add (i*z)).add j)=some u∧FR w (sH w) y u:=fun i=>by
  by_cases hi:i<len
  ·obtain⟨cs',h1,h2⟩:=hel i (by omega)
   obtain⟨l,g1,g2,g3⟩:=h.2 H enc w n cs' _ h2
   obtain⟨_,h3,h4⟩:=World.cells?_some h1
   refine⟨l,fun _=>⟨g1,g2,fun j y hj=>?_⟩⟩
   obtain⟨u,hu,hy⟩:=Ek g3 hj
   have hjl:=(List.getElem?_eq_some_iff.1 hj).1
   exact⟨u,by rw[h4 j (by omega),hu],hy⟩
  exact⟨[],fun h=>absurd h hi⟩
 have hF:=fun i=>Classical.choose_spec (hex i)
 have hrow:∀r∈(List.range len).map (fun i=>Classical.choose (hex i)),T r∧r.length=z:=fun r hr=>by
  obtain⟨i,hi,rfl⟩:=List.mem_map.1 hr
  have:=hF i (List.mem_range.1 hi)
  exact⟨this.1,this.2.1⟩
 refine⟨_,⟨_,hrow,rfl⟩,rfl,?_⟩
 have h5:=hlen _ hrow
 simp only[FRL,and_true,FR]
 refine⟨some a,cap,by simp,by simpa using hl,by unfold maxLen at hm;omega,h5,?_⟩
 rcases Nat.eq_zero_or_pos len with h0 | h0
 ·exact .inl (by simp[h0])
 refine .inr ⟨a,rfl,?_,qH fun j y hj=>?_⟩
 ·obtain⟨_,g2,g3⟩:=hF 0 h0
  obtain⟨u,hu,_⟩:=g3 0 _ (List.getElem?_eq_getElem (by omega))
  have:=World.block_lt_of_cell? w ((a.add (0*z)).add 0) hu
  rwa[fM,fM]at this
 have hjl:=(List.getElem?_eq_some_iff.1 hj).1
 rw[h5,List.length_map,List.length_range]at hjl
 have hi:j/z<len:=Nat.div_lt_of_lt_mul (by rw[Nat.mul_comm];exact hjl)
 obtain⟨_,g2,g3⟩:=hF (j/z) hi
 have hz1:=Nat.mod_lt j hz0
 have hget:∀(rows:List (List Tr)),(∀r∈rows,T r∧r.length=z)→∀(i o:Nat) (r:List Tr),rows[i]? =some r→o<z→rows.flatten[i*z+o]? =r[o]? :=by
  intro rows
  induction rows with
  | nil=>intro _ i o r h;simp at h
  | cons r rows ih=>
   intro hr i o r' hi ho
   have hrl:=(hr r List.mem_cons_self).2
   cases i with
   | zero=>
    simp at hi
    subst hi
    rw[Nat.zero_mul,Nat.zero_add,List.flatten_cons,List.getElem?_append_left (by omega)]
   | succ i=>
    rw[List.flatten_cons,List.getElem?_append_right (by rw[Nat.succ_mul];omega),hrl,show(i+1)*z+o-z=i*z+o by rw[Nat.succ_mul];omega]
    exact ih (fun r hm=>hr r (List.mem_cons_of_mem _ hm)) i o r' (by simpa using hi) ho
 have hd:=Nat.div_add_mod j z
 rw[Nat.mul_comm]at hd
 rw[←hd,hget _ hrow (j/z) (j%z) (Classical.choose (hex (j/z))) (by simp[hi]) hz1]at hj
 obtain⟨u,hu,hy⟩:=g3 _ _ hj
 refine⟨u,?_,hy⟩
 rw[Nat.zero_add]
 have e2:(a.add (j/z*z)).add (j%z)=a.add j:=by rw[rJ,hd]
 rwa[e2]at hu⟩
theorem El {α:Type}(f:α→List Tr) (Q:α→Prop):∀{rows:List (List Tr)},(∀r∈rows,∃a,Q a∧r=f a)→∃xs:List α,(∀a∈xs,Q a)∧rows.flatten=xs.flatMap f∧rows.length=xs.length
 | [],_=>⟨[],fun _ h=>(by cases h),rfl,rfl⟩
 | r::rows,h=>by
  obtain⟨a,h1,rfl⟩:=h r List.mem_cons_self
  obtain⟨xs,h2,h3,h4⟩:=El f Q fun r hm=>h r (List.mem_cons_of_mem _ hm)
  exact⟨a::xs,fun b hb=>(List.mem_cons.1 hb).elim (fun e=>e▸h1) (h2 b),by simp[h3],by simp[h4]⟩
theorem Oe (ht:P.underlying t=some (.slice e)) (he:P.underlying e=some (.int .u32)) (hz:P.cellsOf t=1) (hze:P.cellsOf e=1) (hn:e=115):Reads P t 1 (fun l=>∃xs:List Nat,Lim 4294967296 xs∧l=[sU false xs]):=
 (Od ht hz (by omega) (Kc he hze)).mono fun l ⟨rows,h1,h2⟩=>by
  obtain⟨xs,h3,h4,h5⟩:=El (fun n:Nat=>[Tr.v (.int .u32 (n:Int))]) (fun n=>n<4294967296) (rows:=rows) fun r hr=>by
   obtain⟨⟨n,rfl,h1,h2⟩,_⟩:=h1 r hr
   have e1:IntKind.u32.min=0:=rfl
   have e2:IntKind.u32.max=4294967295:=rfl
   rw[e1]at h1
   rw[e2]at h2
   exact⟨n.toNat,by omega,by rw[Int.toNat_of_nonneg h1]⟩
  refine⟨xs,h3,?_⟩
  rw[h2,h4,h5,sU,hn]
  have:∀xs:List Nat,xs.flatMap (fun n:Nat=>[Tr.v (.int .u32 (n:Int))])=aJ xs:=by
   intro xs
   induction xs with
   | nil=>rfl
   | cons n xs ih=>rw[List.flatMap_cons,ih];rfl
  rw[this]
theorem Ti (hb:Reads P t z (fun l=>∃a b,l=a++b∧(∃s,a=[.v (.bool s)])∧∃b' c',b=b'++c'∧(∃xs:List Nat,Lim 4294967296 xs∧b'=[sU false xs])∧c'=[])):Reads P t z (fun l=>∃(s:Bool) (xs:List Nat),Lim 4294967296 xs∧l=[.v (.bool s),sU false xs]):=
 hb.mono fun l ⟨a,b,h1,⟨s,h2⟩,b',c',h3,⟨xs,h4,h5⟩,h6⟩=>⟨s,xs,h4,by rw[h1,h2,h3,h5,h6];rfl⟩
end
def Of (a:Fr4):Prop:=Lim 4294967296 a.x∧Lim 4294967296 a.y
end Go.Proofs.YtcaakamelngceaaGreatDoor
namespace Go.Proofs.YtcaakamelngceaaGreatDoor
open Go Go.RowKit
theorem CN {a:Fr4}{L:Nat}(ha:Of a) (h1:a.x.length≤L) (h2:a.y.length≤L) (hL:2≤L) (hL2:L≤1000000):Qn a a.q∧Sz L a.q:=by
 have hq:Qn a a.q:=⟨⟨ha.1,ha.2,by omega,by omega⟩,rfl⟩
 refine⟨hq,?_⟩
 cases hr:cW a.s a.x a.t a.y with
 | true=>
  have e:=hq.right hr
  have e1:dg 4294967296 a.q.num.natAbs=a.x:=congrArg Fr4.x e
  have e2:dg 4294967296 a.q.den=a.y:=congrArg Fr4.y e
  exact⟨by rw[e1];exact h1,by rw[e2];exact h2⟩
 | false=>
  rw[hq.wrong hr]
  exact(cV (z:=0) (by omega) (by omega)).mono hL
theorem wE (p:Rat):Lim 256 (eT p):=by
 unfold eT
 split
 ·exact(Kd (rP (lU _ _))).append (Lim.cons (by omega) Lim.nil)
 exact Lim.nil
theorem Xt {l:List Nat}(h:Lim 256 l):((aA l).toList==(aA l).toList)=true:=(gO h h).trans (decide_eq_true rfl)
def hJ (l:List Nat):Nat:=(l.filter eJ).length
theorem Og {l:List Nat}{k:Nat}(h:k<l.length):hJ (l.take (k+1))=hJ (l.take k)+(if eJ (nth l k)=true then 1 else 0):=by
 unfold hJ
 rw[List.take_add_one,Xu h,List.filter_append,List.length_append]
 congr 1
 show(List.filter eJ [nth l k]).length=_
 by_cases h2:eJ (nth l k)=true
 ·rw[if_pos h2,List.filter_cons_of_pos h2];rfl
 rw[if_neg h2,List.filter_cons_of_neg h2];rfl
theorem Ak (l m:List Nat):hJ (l++m)=hJ l+hJ m:=by
 unfold hJ
 rw[List.filter_append,List.length_append]
theorem Xv {l:List Nat}(h:∀c∈l,48≤c∧c≤57):hJ l=l.length:=by
 have e:l.filter eJ=l:=List.filter_eq_self.2 fun c hc=>decide_eq_true (h c hc)
 unfold hJ
 rw[e]
theorem Qr (n d:Nat):hJ (wr n d)=(tx (n/10^d)).length+d:=by
 unfold wr
 rw[Ak,Xv (uA _)]
 split
 ·rename_i h;subst h;rfl
 show _+hJ ([46]++pd n d)=_
 rw[Ak,Xv (Hc _ _),kG]
 show _+(0+d)=_
 omega
theorem yU (z:Int) (d:Nat):hJ (pt z d)=(tx (z.natAbs/10^d)).length+d:=by
 unfold pt
 split
 ·show hJ ([45]++wr z.natAbs d)=_
  rw[Ak,Qr]
  show 0+_=_
  omega
 exact Qr _ _
theorem CO {l:List Nat}{k:Nat}:hJ (l.take k)≤k:=Nat.le_trans (List.length_filter_le _ _) (by rw[List.length_take];omega)
theorem Ke (z:Int) (d:Nat):d≤(pt z d).length:=by
 have h:=yU z d
 have h2:hJ (pt z d)≤(pt z d).length:=List.length_filter_le _ _
 omega
theorem Kf {q:Rat}{n:Nat}(h:40<hJ (aK q n)):dU (aK q n) (aK q n).length=3:=by
 unfold aK at*
 rw[yU]at h
 rw[Nz,if_pos (Ke _ _),if_pos h]
theorem Xw {q:Rat}{n:Nat}(h:¬40<hJ (aK q n)):dU (aK q n) (aK q n).length=0∧cL (aK q n) (aK q n).length=Rat.divInt (hal (q*((10^n:Nat):Rat))) ((10^n:Nat):Int):=by
 have h1:dU (aK q n) (aK q n).length=0:=by
  unfold aK at*
  rw[yU]at h
  rw[Nz,if_pos (Ke _ _),if_neg h]
 refine⟨h1,?_⟩
 unfold cL
 rw[if_pos h1]
 exact Xr _ _
def eN (k:Nat):Rat:=((1:Int):Rat)/((10^k:Nat):Rat)
theorem Xx:((1:Int):Rat)=eN 0:=by
 unfold eN
 decide+kernel
theorem Kg (k:Nat):eN k/((10:Int):Rat)=eN (k+1):=by
 refine wD (Eg (k+1)) ?_
 unfold eN
 rw[Rat.div_mul_cancel (Eg (k+1)),Nat.pow_succ,Rat.natCast_mul]
 have h1:((1:Int):Rat)/((10^k:Nat):Rat)/((10:Int):Rat)*(((10^k:Nat):Rat)*((10:Nat):Rat))=((1:Int):Rat)/((10^k:Nat):Rat)*((10^k:Nat):Rat)*(((10:Int):Rat)⁻¹*((10:Nat):Rat)):=by
  rw[Rat.div_def _ ((10:Int):Rat)]
  grind
 rw[h1,Rat.div_mul_cancel (Eg k)]
 decide+kernel
theorem wF (k:Nat):Sz (k+5) (eN k):=(Kb (cV (z:=1) (by omega) (by omega)) (nJ k)).mono (by omega)
theorem Xy {q:Rat}{n:Nat}:¬0<(dA (q-Rat.divInt (hal (q*((10^n:Nat):Rat))) ((10^n:Nat):Int)) [-(q-Rat.divInt (hal (q*((10^n:Nat):Rat))) ((10^n:Nat):Int))]+dA (q-Rat.divInt (hal (q*((10^n:Nat):Rat))) ((10^n:Nat):Int)) [-(q-Rat.divInt (hal (q*((10^n:Nat):Rat))) ((10^n:Nat):Int))]-eN n).num.sign:=by
 intro h
 have h1:=Qm h
 have hT:=Xp n
 obtain⟨n1,n2⟩:=Ad (q*((10^n:Nat):Rat))
 have hv:=Eh (hal (q*((10^n:Nat):Rat))) n
 have hu:eN n*((10^n:Nat):Rat)=1:=by
  unfold eN
  rw[Rat.div_mul_cancel (Eg n)]
  rfl
 generalize hal (q*((10^n:Nat):Rat))=z at*
 generalize Rat.divInt z ((10^n:Nat):Int)=y at*
 generalize ((10^n:Nat):Rat)=t at*
 have key:∀x:Rat,(x+x)*t≤1→¬eN n<x+x:=fun x hx hlt=>by
  have:=Rat.mul_lt_mul_of_pos_right hlt hT
  rw[hu]at this
  grind
 unfold dA at h1
 simp only[List.foldl_cons,List.foldl_nil]at h1
 split at h1
 ·exact key _ (by grind) h1
 exact key _ (by grind) h1
theorem Xz {q:Rat}{n:Nat}:aK (Rat.divInt (hal (q*((10^n:Nat):Rat))) ((10^n:Nat):Int)) n=aK q n:=by
 unfold aK
 rw[Eh,wC]
theorem Qs (q:Rat):dU (aK q 40) (aK q 40).length=3:=Kf (by
 unfold aK
 rw[yU]
 have:=List.length_pos_iff.2 (oS ((hal (q*((10^40:Nat):Rat))).natAbs/10^40))
 omega)
theorem oU {l:List Nat}(h:eB l=0):0≤aP l∧aP l≤((1:Int):Rat)∧eB (eT (aP l))=0∧aP (eT (aP l))=aP l:=by
 have hq:aP l=cL (cK 37 l) 4/((100:Int):Rat):=if_pos h
 have hc:hH 37 l=true∧dU (cK 37 l) 4=0∧0≤cL (cK 37 l) 4∧cL (cK 37 l) 4≤((100:Int):Rat):=by
  unfold eB at h
  split at h
  ·assumption
  cases h
 obtain⟨_,hE,h0,h1⟩:=hc
 have e100:aP l*((100:Int):Rat)=cL (cK 37 l) 4:=by
  rw[hq,Rat.div_mul_cancel (by decide)]
 have p0':0≤aP l:=by
  refine Rat.le_of_mul_le_mul_right (c:=((100:Int):Rat)) ?_ (by decide)
  rw[e100,Rat.zero_mul]
  exact h0
 have p1':aP l≤((1:Int):Rat):=by
  refine Rat.le_of_mul_le_mul_right (c:=((100:Int):Rat)) ?_ (by decide)
  rw[e100]
  refine Rat.le_trans h1 ?_
  decide+kernel
 have hk:(pl (aV (cK 37 l))).length≤4:=by
  unfold dU at hE
  split at hE
  ·rename_i h9;exact h9.2
  cases hE
 have hV:cL (cK 37 l) 4=Em (cK 37 l):=if_pos hE
 have hit:∃j,j≤4∧aP l=aP (aK (aP l*((100:Int):Rat)) j++[37]):=by
  refine⟨_,hk,Ka (z:=cP (fK (cK 37 l)) (bK (wh (aV (cK 37 l))++pl (aV (cK 37 l))))) p0' p1' hk ?_⟩
  rw[e100,hV]
  exact Eh _ _
 have least:∀m:Nat,(∃j,j≤4∧j<m∧aP l=aP (aK (aP l*((100:Int):Rat)) j++[37]))→∃j,j≤4∧aP l=aP (aK (aP l*((100:Int):Rat)) j++[37])∧∀i,i<j→aP l≠aP (aK (aP l*((100:Int):Rat)) i++[37]):=by
  intro m
  induction m with
  | zero=>rintro⟨j,_,h,_⟩;omega
  | succ m ih=>
   rintro⟨j,h1,h2,h3⟩
   by_cases h4:∃i,i≤4∧i<m∧aP l=aP (aK (aP l*((100:Int):Rat)) i++[37])
   ·exact ih h4
   exact⟨j,h1,h3,fun i hi he=>h4 ⟨i,by omega,by omega,he⟩⟩
 obtain⟨j,j1,j2⟩:=hit
 obtain⟨j,j1,j2,j3⟩:=least (j+1) ⟨j,j1,by omega,j2⟩
 have e:=Xs p0' p1' j1 j2 j3
 refine⟨p0',p1',?_,?_⟩
 ·rw[←e];exact(Af p0' p1' j1).1
 rw[←e];exact j2.symm
theorem wG {p:Rat}{L:Nat}(hs:Sz L p) (hL:L+102≤10000):(eT p).length≤1000000:=by
 have h1:=qG (p:=p*((100:Int):Rat)) (j:=aX 4) (L:=L+2) (lS hs (cV (by omega) (by omega))) nK (by omega)
 unfold eT
 split
 ·rw[List.length_append]
  have h2:=Ac (c:=46) (l:=fS p0 (aK (p*((100:Int):Rat)) (aX 4)))
  have h3:=vZ (p:=p0) (l:=aK (p*((100:Int):Rat)) (aX 4))
  show _+1≤_
  omega
 show 0≤_
 omega
theorem Kh {a:Fr4}{p:Rat}{j L:Nat}(hj:j≤40) (ha:Qn a p) (hs:Sz L p) (hL:L+100≤1000000):aE true Tryz.prog 16 [] [qF a,.one (tv (.int .i64 ((j:Nat):Int)))] (aI (.one (tv (.string (aA (aK p j)))))):=by
 have h:=tX (n:=(j:Int)) ha hs hL
 rwa[show aX (j:Int)=j by unfold aX;omega]at h
theorem CP {l m:List Nat}(h:Lim 256 m) (e:l=m):(!((aA l).toList==(aA m).toList))=false:=by
 rw[e,Xt h]
 rfl
theorem Ya {L:Nat}{d:Rat}(h:Sz L d):Sz L (dA d [-d]):=by
 unfold dA
 simp only[List.foldl_cons,List.foldl_nil]
 split
 ·exact uC h
 exact h
theorem Yb {d:Rat}(h:Sz 3000 d):(∀x∈iR [-d],x.ok)∧(iR [-d]).length≤1099511627776:=by
 refine⟨Ju (L:=3000) (fun q hq=>?_) (by omega),by simp[iR]⟩
 rw[List.mem_singleton]at hq
 rw[hq]
 exact uC h
theorem Yc {d:Rat}(h:Sz 3000 d):aE false Tryz.prog 25 [] [qF (.of d),.one (.t (sQ false (iR [-d])))] (aI (qF (.of (dA d [-d])))):=by
 obtain⟨h1,h2⟩:=Yb h
 have h3:=CQ (a:=.of d) (p:=d) (xs:=iR [-d]) (Qn.of (p:=d) (h.mono (M:=68719476736) (by omega))) h1 h2
 rwa[Qj]at h3
theorem Al {p:Rat}(h:0≤p):0≤p.num.sign:=Int.sign_nonneg_iff.2 (Rat.num_nonneg.2 h)
theorem Am {p q:Rat}(h:p≤q):(p-q).num.sign≤0:=by
 rcases Int.lt_or_le 0 (p-q).num.sign with h1 | h1
 ·have:=Qm h1
  exact absurd h (Rat.not_le.2 this)
 exact h1
set_option maxHeartbeats 2000000 in
theorem Ji {a:Fr4}{m:Nat}{l:List Nat}(ha:Of a) (hm:m<256) (hl:Lim 256 l):aE true Tryz.prog 5 [] [qF a,.one (tv (.int .u8 ((m:Nat):Int))),.one (tv (.string (aA l)))] (aI (.one (tv (.bool true)))):=by
 refine bQ Tryz.func5 rfl Tryz.ntmps5 rfl aB rfl fun N9 w9 c0 h0=>?_
 refine sq ?_;refine rl ?_;refine bx 0 ?_;refine o1 ?_;refine nl ?_;refine sq ?_;refine sq ?_;refine rl ?_;refine o1 ?_;refine o1 ?_;refine ld ?_;(iterate 3 refine o1 ?_)
 refine WL.split (t:=29) rfl (fun h1=>?_) (fun h1=>?_)
 ·(iterate 5 refine dE ?_);refine o1 ?_;refine o1 ?_;(iterate 3 refine dE ?_);refine o1 ?_;refine nl ?_;refine jH rfl ?_;refine sq ?_;refine rl ?_
  refine ca (fG) sJ rfl (.one (tv (.bool true))) ?_;refine o1 ?_;refine nl ?_;refine rt ?_;exact gV (.inl rfl) rfl (rfl)
 refine o1 ?_;refine o1 ?_;refine ld ?_;(iterate 4 refine o1 ?_);refine WL.split (t:=36) rfl (fun h2=>?_) (fun h2=>?_)
 ·(iterate 3 refine dE ?_);refine o1 ?_;refine nl ?_;refine jH rfl ?_;refine sq ?_;refine rl ?_;refine ca (fG) sJ rfl (.one (tv (.bool true))) ?_;refine o1 ?_;refine nl ?_
  refine rt ?_;exact gV (.inl rfl) rfl (rfl)
 refine o1 ?_;refine o1 ?_;refine WL.cast (t:=38) (u':=.int .i64 ((l.length:Nat):Int)) rfl (congrArg (fun n:Nat=>Value.int .i64 (n:Int)) (aH _)) ?_
 refine o1 ?_;refine o1 ?_;refine nl ?_;refine cY rfl (fun h3=>?_) (fun h3=>?_)
 ·refine sq ?_;refine rl ?_;refine ca (fG) sJ rfl (.one (tv (.bool true))) ?_;refine o1 ?_;refine nl ?_;refine rt ?_;exact gV (.inl rfl) rfl (rfl)
 refine sk ?_;refine sq ?_;obtain⟨hq,hs⟩:=CN (L:=3) ha (by omega) (by omega) (by omega) (by omega)
 have hWl:(aK a.q (m%13)).length≤999999:=qG hs (by omega) (by omega)
 refine rl ?_;refine o1 ?_;refine o1 ?_;refine WL.cast (t:=43) (u':=.int .u8 ((m%13:Nat):Int)) rfl (bO (nN _ 13)) ?_;refine o1 ?_
 refine WL.cast (t:=44) (u':=.int .i64 ((m%13:Nat):Int)) rfl (bO (by omega)) ?_
 refine o1 ?_;refine nl ?_;refine sq ?_;refine rl ?_;refine ld ?_;refine o1 ?_
 refine ca (Kh (a:=a) (j:=(m%13)) (by omega) hq hs (by omega)) vY ⟨aD rfl,a1 rfl,rfl⟩ (.one (tv (.string (aA (aK a.q (m%13)))))) ?_
 refine o1 ?_;refine nl ?_;refine sq ?_;refine rl ?_;refine o1 ?_
 refine ca (rR (l:=(aK a.q (m%13))) (lU _ _) (Nat.le_trans hWl (by omega))) Qq ⟨a1 rfl,rfl⟩ (.tup [qF (.of (cL (aK a.q (m%13)) (aK a.q (m%13)).length)),.one (tv (.int .i64 (dU (aK a.q (m%13)) (aK a.q (m%13)).length)))]) ?_
 (iterate 3 refine o1 ?_);refine al 1 ?_;refine st ?_;refine o1 ?_;refine nl ?_;refine sq ?_;refine rl ?_;refine o1 ?_;refine nl ?_;refine sq ?_;refine sq ?_;refine rl ?_
 refine o1 ?_;refine nl ?_;refine bl ?_
 refine lp (γ:=Nat) (fun s=>dD [(2,.one (tv (.string (aA l)))),(3,.one (.pt 0 0)),(7,.one (tv (.int .i64 ((m%13:Nat):Int)))),(8,.one (tv (.string (aA (aK a.q (m%13)))))),(9,.one (.pt 1 0)),(10,.one (tv (.int .i64 (dU (aK a.q (m%13)) (aK a.q (m%13)).length)))),(11,.one (tv (.int .i64 (((hJ ((aK a.q (m%13)).take s)):Nat):Int)))),(12,.one (tv (.int .i64 ((s:Nat):Int))))]) (fun s=>[(⟨27,0,(a.tr false).map .t⟩:Ob),⟨27,0,((Fr4.of (cL (aK a.q (m%13)) (aK a.q (m%13)).length)).tr false).map .t⟩].map some) (fun s=>s≤(aK a.q (m%13)).length) (fun s=>(aK a.q (m%13)).length-s) 0 (Nat.zero_le _) (bS h0 [0,1] _ _ (by decide) ⟨rfl,rfl,rfl,rfl,rfl,rfl,qI rfl,rfl,trivial⟩ ⟨oe rfl rfl,oe rfl rfl,rfl⟩) ?_
 rintro k hk;have hcl:=CO (l:=(aK a.q (m%13))) (k:=k)
 refine sq ?_;refine sq ?_;refine rl ?_;(iterate 3 refine o1 ?_)
 refine WL.cast (t:=55) (u':=.int .i64 (((aK a.q (m%13)).length:Nat):Int)) rfl (congrArg (fun n:Nat=>Value.int .i64 (n:Int)) (aH _)) ?_
 refine o1 ?_;refine nl ?_;refine cY rfl (fun h4=>?_) (fun h4=>?_)
 ·refine sk ?_;refine sq ?_;refine bl ?_;refine sq ?_;refine rl ?_;refine o1 ?_;refine o1 ?_;refine o1 ?_ (hC:=(by rw[aH];omega))
  refine WL.cast (t:=61) (u':=.int .u8 (((nth (aK a.q (m%13)) (k)):Nat):Int)) rfl (congrArg (fun n:Nat=>Value.int .u8 (n:Int)) (lD (i:=k) (by omega) (nP (lU _ _) (by omega)))) ?_
  refine o1 ?_;refine o1 ?_;refine WL.split (t:=63) rfl (fun h5=>?_) (fun h5=>?_)
  ·refine o1 ?_;refine o1 ?_;refine o1 ?_ (hC:=(by rw[aH];omega))
   refine WL.cast (t:=66) (u':=.int .u8 (((nth (aK a.q (m%13)) (k)):Nat):Int)) rfl (congrArg (fun n:Nat=>Value.int .u8 (n:Int)) (lD (i:=k) (by omega) (nP (lU _ _) (by omega)))) ?_
   refine o1 ?_;refine o1 ?_;refine nl ?_;refine cY rfl (fun h6=>?_) (fun h6=>?_)
   ·refine rl ?_;refine o1 ?_;refine o1 ?_;refine WL.cast (t:=70) (u':=.int .i64 (((hJ ((aK a.q (m%13)).take k))+1:Nat):Int)) rfl (bO (by omega)) ?_
    refine o1 ?_;refine nl ?_;refine rl ?_;refine o1 ?_;refine o1 ?_;refine WL.cast (t:=58) (u':=.int .i64 ((k+1:Nat):Int)) rfl (bO (by omega)) ?_
    refine o1 ?_;refine nl ?_;have hcs:=Og (l:=(aK a.q (m%13))) (k:=k) (by omega)
    rw[if_pos (show eJ (nth (aK a.q (m%13)) k)=true from decide_eq_true ⟨by omega,by omega⟩)]at hcs
    exact⟨k+1,by omega,by omega,bS h0 [0,1] _ _ (by decide) ⟨rfl,rfl,rfl,rfl,rfl,rfl,qI (by omega),rfl,trivial⟩ ⟨oe rfl rfl,oe rfl rfl,rfl⟩⟩
   refine sk ?_;refine rl ?_;refine o1 ?_;refine o1 ?_;refine WL.cast (t:=58) (u':=.int .i64 ((k+1:Nat):Int)) rfl (bO (by omega)) ?_
   refine o1 ?_;refine nl ?_;have hcs:=Og (l:=(aK a.q (m%13))) (k:=k) (by omega)
   rw[if_neg (fun h9=>absurd (uD h9) (by omega))]at hcs
   exact⟨k+1,by omega,by omega,bS h0 [0,1] _ _ (by decide) ⟨rfl,rfl,rfl,rfl,rfl,rfl,qI (by omega),rfl,trivial⟩ ⟨oe rfl rfl,oe rfl rfl,rfl⟩⟩
  (iterate 4 refine dE ?_);refine o1 ?_;refine nl ?_;refine kH rfl ?_;refine sk ?_;refine rl ?_;refine o1 ?_;refine o1 ?_
  refine WL.cast (t:=58) (u':=.int .i64 ((k+1:Nat):Int)) rfl (bO (by omega)) ?_
  refine o1 ?_;refine nl ?_;have hcs:=Og (l:=(aK a.q (m%13))) (k:=k) (by omega)
  rw[if_neg (fun h9=>absurd (uD h9) (by omega))]at hcs
  exact⟨k+1,by omega,by omega,bS h0 [0,1] _ _ (by decide) ⟨rfl,rfl,rfl,rfl,rfl,rfl,qI (by omega),rfl,trivial⟩ ⟨oe rfl rfl,oe rfl rfl,rfl⟩⟩
 refine ex ?_;refine sq ?_;refine sq ?_;have htk:(aK a.q (m%13)).take k=(aK a.q (m%13)):=List.take_of_length_le (by omega)
 have hct:hJ ((aK a.q (m%13)).take k)=hJ (aK a.q (m%13)):=by rw[htk]
 refine rl ?_;refine o1 ?_;refine o1 ?_;refine nl ?_;refine cY rfl (fun h7=>?_) (fun h7=>?_)
 ·refine sq ?_;have he3:=Kf (q:=a.q) (n:=(m%13)) (by omega)
  refine rl ?_;(iterate 3 refine o1 ?_);refine WL.split (t:=75) rfl (fun h8=>?_) (fun h8=>?_)
  ·refine ca (fG) sJ rfl (.one (tv (.bool true))) ?_;refine o1 ?_;refine o1 ?_;refine nl ?_;refine rt ?_;exact gV (.inl rfl) rfl (rfl)
  exact absurd he3 h8
 refine sk ?_;refine sq ?_;obtain⟨he0,hqY⟩:=Xw (q:=a.q) (n:=(m%13)) (by omega)
 have hY:Sz 2000 (Rat.divInt (hal (a.q*((10^(m%13):Nat):Rat))) ((10^(m%13):Nat):Int)):=by rw[←hqY];exact(nM _ _).mono (by omega)
 have hDX:Sz 3000 (a.q-(Rat.divInt (hal (a.q*((10^(m%13):Nat):Rat))) ((10^(m%13):Nat):Int))):=(Yd hs hY).mono (by omega)
 have hMX:Sz 3000 (dA (a.q-(Rat.divInt (hal (a.q*((10^(m%13):Nat):Rat))) ((10^(m%13):Nat):Int))) [-(a.q-(Rat.divInt (hal (a.q*((10^(m%13):Nat):Rat))) ((10^(m%13):Nat):Int)))]):=Ya hDX
 refine rl ?_;refine ca (cC (z:=1) (by omega) (by omega)) eM ⟨a1 rfl,rfl⟩ (qF (.of ((1:Int):Rat))) ?_
 refine al 2 ?_;refine st ?_;refine nl ?_;refine sq ?_;refine sq ?_;refine rl ?_;refine o1 ?_;refine nl ?_;refine bl ?_
 refine lp (γ:=Nat) (fun s=>dD [(2,.one (tv (.string (aA l)))),(3,.one (.pt 0 0)),(7,.one (tv (.int .i64 ((m%13:Nat):Int)))),(8,.one (tv (.string (aA (aK a.q (m%13)))))),(9,.one (.pt 1 0)),(10,.one (tv (.int .i64 (dU (aK a.q (m%13)) (aK a.q (m%13)).length)))),(13,.one (.pt 2 0)),(14,.one (tv (.int .i64 ((s:Nat):Int))))]) (fun s=>[(⟨27,0,(a.tr false).map .t⟩:Ob),⟨27,0,((Fr4.of (cL (aK a.q (m%13)) (aK a.q (m%13)).length)).tr false).map .t⟩,⟨27,0,((Fr4.of (eN s)).tr false).map .t⟩].map some) (fun s=>s≤(m%13)) (fun s=>(m%13)-s) 0 (Nat.zero_le _) (bS h0 [0,1,2] _ _ (by decide) ⟨rfl,rfl,rfl,rfl,rfl,rfl,rfl,rfl,trivial⟩ ⟨oe rfl rfl,oe rfl rfl,cR (congrArg (fun q=>some (⟨27,0,((Fr4.of q).tr false).map .t⟩:Ob)) Xx),rfl⟩) ?_
 rintro k hk;refine sq ?_;refine sq ?_;refine rl ?_;(iterate 3 refine o1 ?_);refine nl ?_;refine cY rfl (fun h9=>?_) (fun h9=>?_)
 ·refine sk ?_;refine sq ?_;refine bl ?_;refine rd [0,1] (fun i=>[].contains i) mixed ?_
  refine WO.two (i:=0) (j:=1) (by kernel_rfl) ?_ ?_
  ·refine eC 0 ?_;refine aN 1 rfl (cC (z:=10) (by omega) (by omega)) eM ⟨a1 rfl,rfl⟩ (qF (.of ((10:Int):Rat))) ?_
   refine aN 2 rfl (yV (Qn.of (p:=eN k) ((wF k).mono (M:=68719476736) (by omega))) (Qn.of (p:=((10:Int):Rat)) ((cV (by omega) (by omega)).mono (M:=68719476736) (by omega)))) Hg ⟨aD rfl,aD rfl,rfl⟩ (.tup [qF (.of (eN k/((10:Int):Rat))),.one (tv (.int .i64 (if((10:Int):Rat)=0 then 20 else 0)))]) ?_
   refine df 3 ?_;refine df 4 ?_;refine df 5 ?_;refine cF 6 (by kernel_rfl) rfl rfl aB rfl rfl rfl rfl ⟨rfl,rfl,trivial⟩ ?_
   refine bJ ?_;refine rl ?_;refine o1 ?_;refine o1 ?_;refine WL.cast (t:=83) (u':=.int .i64 ((k+1:Nat):Int)) rfl (bO (by omega)) ?_
   refine o1 ?_;refine nl ?_
   exact⟨k+1,by omega,by omega,bS h0 [0,1,2] _ _ (by decide) ⟨rfl,rfl,rfl,rfl,rfl,rfl,rfl,rfl,trivial⟩ ⟨oe rfl rfl,oe rfl rfl,cR (congrArg (fun q=>some (⟨27,0,((Fr4.of q).tr false).map .t⟩:Ob)) (Kg k)),rfl⟩⟩
  refine iA 1 rfl (cC (z:=10) (by omega) (by omega)) eM ⟨a1 rfl,rfl⟩ (qF (.of ((10:Int):Rat))) ?_
  refine WO.one (by kernel_rfl) (eC 0 ?_)
  refine aN 2 rfl (yV (Qn.of (p:=eN k) ((wF k).mono (M:=68719476736) (by omega))) (Qn.of (p:=((10:Int):Rat)) ((cV (by omega) (by omega)).mono (M:=68719476736) (by omega)))) Hg ⟨aD rfl,aD rfl,rfl⟩ (.tup [qF (.of (eN k/((10:Int):Rat))),.one (tv (.int .i64 (if((10:Int):Rat)=0 then 20 else 0)))]) ?_
  refine df 3 ?_;refine df 4 ?_;refine df 5 ?_;refine cF 6 (by kernel_rfl) rfl rfl aB rfl rfl rfl rfl ⟨rfl,rfl,trivial⟩ ?_
  refine bJ ?_;refine rl ?_;refine o1 ?_;refine o1 ?_;refine WL.cast (t:=83) (u':=.int .i64 ((k+1:Nat):Int)) rfl (bO (by omega)) ?_
  refine o1 ?_;refine nl ?_
  exact⟨k+1,by omega,by omega,bS h0 [0,1,2] _ _ (by decide) ⟨rfl,rfl,rfl,rfl,rfl,rfl,rfl,rfl,trivial⟩ ⟨oe rfl rfl,oe rfl rfl,cR (congrArg (fun q=>some (⟨27,0,((Fr4.of q).tr false).map .t⟩:Ob)) (Kg k)),rfl⟩⟩
 refine ex ?_;refine sq ?_;have hk9:k=(m%13):=by omega
 refine WP.sub (bS h0 [0,1,2] [(2,.one (tv (.string (aA l)))),(3,.one (.pt 0 0)),(7,.one (tv (.int .i64 ((m%13:Nat):Int)))),(8,.one (tv (.string (aA (aK a.q (m%13)))))),(9,.one (.pt 1 0)),(10,.one (tv (.int .i64 ((0:Nat):Int)))),(13,.one (.pt 2 0))] [(⟨27,0,(a.tr false).map .t⟩:Ob),(⟨27,0,((Fr4.of (Rat.divInt (hal (a.q*((10^(m%13):Nat):Rat))) ((10^(m%13):Nat):Int))).tr false).map .t⟩:Ob),(⟨27,0,((Fr4.of (eN (m%13))).tr false).map .t⟩:Ob)] (by decide) ⟨rfl,rfl,rfl,rfl,rfl,qI he0.symm,rfl,trivial⟩ ⟨oe rfl rfl,cR (congrArg (fun q=>some (⟨27,0,((Fr4.of q).tr false).map .t⟩:Ob)) hqY),cR (congrArg (fun q=>some (⟨27,0,((Fr4.of q).tr false).map .t⟩:Ob)) (congrArg eN hk9)),rfl⟩) ?_
 refine rl ?_;refine ld ?_;refine ld ?_
 refine ca (CS hq (Qn.of (p:=(Rat.divInt (hal (a.q*((10^(m%13):Nat):Rat))) ((10^(m%13):Nat):Int))) (hY.mono (M:=68719476736) (by omega)))) GQ ⟨aD rfl,aD rfl,rfl⟩ (qF (.of (a.q-(Rat.divInt (hal (a.q*((10^(m%13):Nat):Rat))) ((10^(m%13):Nat):Int))))) ?_
 refine al 3 ?_;refine st ?_;refine nl ?_;refine sq ?_;refine rd [0,1,2,3] (fun i=>[5].contains i) mixed ?_
 refine bD 0 ?_;refine bD 1 ?_
 refine aN 2 rfl (CT (Qn.of (p:=(a.q-(Rat.divInt (hal (a.q*((10^(m%13):Nat):Rat))) ((10^(m%13):Nat):Int)))) (hDX.mono (M:=68719476736) (by omega)))) Ye ⟨aD rfl,rfl⟩ (qF (.of (-(a.q-(Rat.divInt (hal (a.q*((10^(m%13):Nat):Rat))) ((10^(m%13):Nat):Int)))))) ?_
 refine Nx (key:=4) 3 (by kernel_rfl) rfl rfl aB rfl ⟨rfl,rfl,rfl,rfl,trivial⟩ ?_
 refine Xl (i:=96) (k:=4) (t:=27) (t':=33) (z:=4) (n:=1) (l:=(iR [-(a.q-(Rat.divInt (hal (a.q*((10^(m%13):Nat):Rat))) ((10^(m%13):Nat):Int)))]).flatMap (Fr4.tr false)) rfl rfl rfl rfl (.one .sl) (by rfl) (by rfl) ?_
 refine aN 4 rfl (Yc hDX) GR ⟨aD rfl,a1 rfl,rfl⟩ (qF (.of (dA (a.q-(Rat.divInt (hal (a.q*((10^(m%13):Nat):Rat))) ((10^(m%13):Nat):Int))) [-(a.q-(Rat.divInt (hal (a.q*((10^(m%13):Nat):Rat))) ((10^(m%13):Nat):Int)))]))) ?_
 refine dst 5 ?_;refine bJ ?_;refine sq ?_;refine sq ?_;refine rd [0,1,2,3] (fun i=>[].contains i) mixed ?_
 refine dv 0 ?_;refine dv 1 ?_;refine dv 2 ?_;refine WD.split (t:=100) rfl rfl (fun h10=>?_) (fun h10=>?_)
 ·exact absurd rfl h10
 refine bD 3 ?_;refine bD 4 ?_;refine bD 6 ?_
 refine aN 5 rfl (CU (Qn.of (p:=(dA (a.q-(Rat.divInt (hal (a.q*((10^(m%13):Nat):Rat))) ((10^(m%13):Nat):Int))) [-(a.q-(Rat.divInt (hal (a.q*((10^(m%13):Nat):Rat))) ((10^(m%13):Nat):Int)))])) (hMX.mono (M:=68719476736) (by omega))) (Qn.of (p:=(dA (a.q-(Rat.divInt (hal (a.q*((10^(m%13):Nat):Rat))) ((10^(m%13):Nat):Int))) [-(a.q-(Rat.divInt (hal (a.q*((10^(m%13):Nat):Rat))) ((10^(m%13):Nat):Int)))])) (hMX.mono (M:=68719476736) (by omega)))) GS ⟨aD rfl,aD rfl,rfl⟩ (qF (.of ((dA (a.q-(Rat.divInt (hal (a.q*((10^(m%13):Nat):Rat))) ((10^(m%13):Nat):Int))) [-(a.q-(Rat.divInt (hal (a.q*((10^(m%13):Nat):Rat))) ((10^(m%13):Nat):Int)))])+(dA (a.q-(Rat.divInt (hal (a.q*((10^(m%13):Nat):Rat))) ((10^(m%13):Nat):Int))) [-(a.q-(Rat.divInt (hal (a.q*((10^(m%13):Nat):Rat))) ((10^(m%13):Nat):Int)))])))) ?_
 refine aN 7 rfl (iU (Qn.of (p:=((dA (a.q-(Rat.divInt (hal (a.q*((10^(m%13):Nat):Rat))) ((10^(m%13):Nat):Int))) [-(a.q-(Rat.divInt (hal (a.q*((10^(m%13):Nat):Rat))) ((10^(m%13):Nat):Int)))])+(dA (a.q-(Rat.divInt (hal (a.q*((10^(m%13):Nat):Rat))) ((10^(m%13):Nat):Int))) [-(a.q-(Rat.divInt (hal (a.q*((10^(m%13):Nat):Rat))) ((10^(m%13):Nat):Int)))]))) ((An hMX hMX).mono (M:=68719476736) (by omega))) (Qn.of (p:=(eN (m%13))) ((wF _).mono (M:=68719476736) (by omega)))) iV ⟨aD rfl,aD rfl,rfl⟩ (.one (tv (.int .i64 (((dA (a.q-(Rat.divInt (hal (a.q*((10^(m%13):Nat):Rat))) ((10^(m%13):Nat):Int))) [-(a.q-(Rat.divInt (hal (a.q*((10^(m%13):Nat):Rat))) ((10^(m%13):Nat):Int)))])+(dA (a.q-(Rat.divInt (hal (a.q*((10^(m%13):Nat):Rat))) ((10^(m%13):Nat):Int))) [-(a.q-(Rat.divInt (hal (a.q*((10^(m%13):Nat):Rat))) ((10^(m%13):Nat):Int)))]))-(eN (m%13))).num.sign))) ?_
 refine df 8 ?_;refine df 9 ?_;refine df 10 ?_;refine WD.split (t:=108) rfl rfl (fun h11=>?_) (fun h11=>?_)
 ·exact absurd h11 Xy
 refine bD 11 ?_;refine dv 12 ?_;refine dv 14 ?_
 refine aN 13 rfl (Kh (a:=.of (Rat.divInt (hal (a.q*((10^(m%13):Nat):Rat))) ((10^(m%13):Nat):Int))) (j:=(m%13)) (by omega) (Qn.of (p:=(Rat.divInt (hal (a.q*((10^(m%13):Nat):Rat))) ((10^(m%13):Nat):Int))) (hY.mono (M:=68719476736) (by omega))) hY (by omega)) vY ⟨aD rfl,a1 rfl,rfl⟩ (.one (tv (.string (aA (aK (Rat.divInt (hal (a.q*((10^(m%13):Nat):Rat))) ((10^(m%13):Nat):Int)) (m%13)))))) ?_
 refine df 15 ?_;refine WD.cast (t:=113) (u':=.bool false) rfl (congrArg Value.bool (CP (lU _ _) Xz)) ?_;refine df 16 ?_;refine bJ ?_;refine kH rfl ?_
 refine sk ?_;refine sq ?_;refine rl ?_;refine o1 ?_
 refine ca (rR (l:=l) hl (by omega)) Qq ⟨a1 rfl,rfl⟩ (.tup [qF (.of (cL l l.length)),.one (tv (.int .i64 (dU l l.length)))]) ?_
 (iterate 3 refine o1 ?_);refine al 5 ?_;refine st ?_;refine o1 ?_;refine nl ?_;refine sq ?_;refine rl ?_;refine ld ?_
 refine ca (tX (n:=40) (Qn.of (p:=(cL l l.length)) ((nM l _).mono (M:=68719476736) (by omega))) (nM l _) (by omega)) vY ⟨aD rfl,a1 rfl,rfl⟩ (.one (tv (.string (aA (aK (cL l l.length) (aX 40)))))) ?_
 refine ca (rR (l:=(aK (cL l l.length) (aX 40))) (lU _ _) (Nat.le_trans (qG (nM l _) nK (by omega)) (by omega))) Qq ⟨a1 rfl,rfl⟩ (.tup [qF (.of (cL (aK (cL l l.length) (aX 40)) (aK (cL l l.length) (aX 40)).length)),.one (tv (.int .i64 (dU (aK (cL l l.length) (aX 40)) (aK (cL l l.length) (aX 40)).length)))]) ?_
 (iterate 3 refine o1 ?_);refine al 6 ?_;refine st ?_;refine o1 ?_;refine nl ?_;refine sq ?_;refine sq ?_;refine rl ?_;(iterate 3 refine o1 ?_)
 refine WL.split (t:=128) rfl (fun h12=>?_) (fun h12=>?_)
 ·(iterate 3 refine o1 ?_);refine WL.split (t:=131) rfl (fun h13=>?_) (fun h13=>?_)
  ·exact absurd ((Qs _).symm.trans h13) (by decide)
  (iterate 4 refine dE ?_);(iterate 5 refine o1 ?_);refine WL.split (t:=140) rfl (fun h14=>?_) (fun h14=>?_)
  ·(iterate 5 refine o1 ?_);refine nl ?_;refine cY rfl (fun h15=>?_) (fun h15=>?_)
   ·exact absurd (Qs _) h15
   refine sk ?_;refine sq ?_;refine rl ?_;refine o1 ?_
   refine ca (fW (l:=l) hl (by omega)) mZ ⟨a1 rfl,rfl⟩ (.tup [qF (.of (aP l)),.one (tv (.int .i64 (eB l)))]) ?_
   (iterate 3 refine o1 ?_);refine al 7 ?_;refine st ?_;refine o1 ?_;refine nl ?_;refine sq ?_;refine rl ?_;refine ld ?_
   refine ca (iT (Qn.of (p:=aP l) ((cS l).mono (M:=68719476736) (by omega))) (cS l) (by omega)) Aj ⟨aD rfl,rfl⟩ (.one (tv (.string (aA (eT (aP l)))))) ?_
   refine ca (fW (l:=(eT (aP l))) (wE _) (wG (cS l) (by omega))) mZ ⟨a1 rfl,rfl⟩ (.tup [qF (.of (aP (eT (aP l)))),.one (tv (.int .i64 (eB (eT (aP l)))))]) ?_
   (iterate 3 refine o1 ?_);refine al 8 ?_;refine st ?_;refine o1 ?_;refine nl ?_;refine sq ?_;refine rd [0,1,2,3,5,6,7,8] (fun i=>[26].contains i) mixed ?_
   refine dv 0 ?_;refine dv 1 ?_;refine dv 2 ?_;refine WD.split (t:=159) rfl rfl (fun h16=>?_) (fun h16=>?_)
   ·refine bF 3 ?_;refine bF 4 ?_;refine bF 5 ?_;refine bF 6 ?_;refine bF 7 ?_;refine bF 8 ?_;refine bF 9 ?_;refine bF 10 ?_;refine bF 11 ?_;refine bF 12 ?_
    refine bF 13 ?_;refine bF 14 ?_;refine bF 15 ?_;refine bF 16 ?_;refine bF 17 ?_;refine bF 18 ?_;refine bF 19 ?_;refine bF 20 ?_;refine bF 21 ?_
    refine dv 22 ?_;refine dv 23 ?_;refine aN 24 rfl (fG) sJ rfl (.one (tv (.bool true))) ?_;refine df 25 ?_
    refine gA 26 (by kernel_rfl) rfl rfl aB rfl (by trivial) ?_ (fun h=>by first | rfl | cases h)
    refine bJ ?_;refine rt ?_;exact gV (.inl rfl) rfl (rfl)
   obtain⟨hp0,hp1,hp2,hp3⟩:=oU (l:=l) (Decidable.byContradiction h16)
   refine dv 3 ?_;refine dv 4 ?_;refine dv 5 ?_;refine WD.split (t:=162) rfl rfl (fun h17=>?_) (fun h17=>?_)
   ·refine bD 6 ?_;refine bD 7 ?_
    refine aN 8 rfl (iU (Qn.of (p:=(aP l)) ((cS _).mono (M:=68719476736) (by omega))) (Qn.of (p:=(aP (eT (aP l)))) ((cS _).mono (M:=68719476736) (by omega)))) iV ⟨aD rfl,aD rfl,rfl⟩ (.one (tv (.int .i64 ((aP l)-(aP (eT (aP l)))).num.sign))) ?_
    refine df 9 ?_;refine df 10 ?_;refine df 11 ?_;refine WD.split (t:=168) rfl rfl (fun h18=>?_) (fun h18=>?_)
    ·refine bD 12 ?_
     refine aN 13 rfl (qE (Qn.of (p:=(aP l)) ((cS _).mono (M:=68719476736) (by omega)))) Ab ⟨aD rfl,rfl⟩ (.one (tv (.int .i64 (aP l).num.sign))) ?_
     refine df 14 ?_;refine df 15 ?_;refine df 16 ?_;refine WD.split (t:=173) rfl rfl (fun h19=>?_) (fun h19=>?_)
     ·refine bD 17 ?_;refine aN 18 rfl (cC (z:=1) (by omega) (by omega)) eM ⟨a1 rfl,rfl⟩ (qF (.of ((1:Int):Rat))) ?_
      refine aN 19 rfl (iU (Qn.of (p:=(aP l)) ((cS _).mono (M:=68719476736) (by omega))) (Qn.of (p:=((1:Int):Rat)) ((cV (by omega) (by omega)).mono (M:=68719476736) (by omega)))) iV ⟨aD rfl,aD rfl,rfl⟩ (.one (tv (.int .i64 ((aP l)-((1:Int):Rat)).num.sign))) ?_
      refine df 20 ?_;refine df 21 ?_;refine df 22 ?_;refine df 23 ?_;refine WD.split (t:=180) rfl rfl (fun h20=>?_) (fun h20=>?_)
      ·refine aN 24 rfl (fG) sJ rfl (.one (tv (.bool true))) ?_;refine df 25 ?_
       refine gA 26 (by kernel_rfl) rfl rfl aB rfl (by trivial) ?_ (fun h=>by first | rfl | cases h)
       refine bJ ?_;refine rt ?_;exact gV (.inl rfl) rfl (rfl)
      exact absurd (Am hp1) h20
     exact absurd (Al hp0) h19
    exact absurd (by rw[hp3,Rat.sub_self];rfl) h18
   exact absurd hp2 h17
  refine dE ?_;refine dE ?_;(iterate 3 refine o1 ?_);refine nl ?_;refine kH rfl ?_;refine sk ?_;refine sq ?_;refine rl ?_;refine o1 ?_
  refine ca (fW (l:=l) hl (by omega)) mZ ⟨a1 rfl,rfl⟩ (.tup [qF (.of (aP l)),.one (tv (.int .i64 (eB l)))]) ?_
  (iterate 3 refine o1 ?_);refine al 7 ?_;refine st ?_;refine o1 ?_;refine nl ?_;refine sq ?_;refine rl ?_;refine ld ?_
  refine ca (iT (Qn.of (p:=aP l) ((cS l).mono (M:=68719476736) (by omega))) (cS l) (by omega)) Aj ⟨aD rfl,rfl⟩ (.one (tv (.string (aA (eT (aP l)))))) ?_
  refine ca (fW (l:=(eT (aP l))) (wE _) (wG (cS l) (by omega))) mZ ⟨a1 rfl,rfl⟩ (.tup [qF (.of (aP (eT (aP l)))),.one (tv (.int .i64 (eB (eT (aP l)))))]) ?_
  (iterate 3 refine o1 ?_);refine al 8 ?_;refine st ?_;refine o1 ?_;refine nl ?_;refine sq ?_;refine rd [0,1,2,3,5,6,7,8] (fun i=>[26].contains i) mixed ?_
  refine dv 0 ?_;refine dv 1 ?_;refine dv 2 ?_;refine WD.split (t:=159) rfl rfl (fun h21=>?_) (fun h21=>?_)
  ·refine bF 3 ?_;refine bF 4 ?_;refine bF 5 ?_;refine bF 6 ?_;refine bF 7 ?_;refine bF 8 ?_;refine bF 9 ?_;refine bF 10 ?_;refine bF 11 ?_;refine bF 12 ?_
   refine bF 13 ?_;refine bF 14 ?_;refine bF 15 ?_;refine bF 16 ?_;refine bF 17 ?_;refine bF 18 ?_;refine bF 19 ?_;refine bF 20 ?_;refine bF 21 ?_
   refine dv 22 ?_;refine dv 23 ?_;refine aN 24 rfl (fG) sJ rfl (.one (tv (.bool true))) ?_;refine df 25 ?_
   refine gA 26 (by kernel_rfl) rfl rfl aB rfl (by trivial) ?_ (fun h=>by first | rfl | cases h)
   refine bJ ?_;refine rt ?_;exact gV (.inl rfl) rfl (rfl)
  obtain⟨hp0,hp1,hp2,hp3⟩:=oU (l:=l) (Decidable.byContradiction h21)
  refine dv 3 ?_;refine dv 4 ?_;refine dv 5 ?_;refine WD.split (t:=162) rfl rfl (fun h22=>?_) (fun h22=>?_)
  ·refine bD 6 ?_;refine bD 7 ?_
   refine aN 8 rfl (iU (Qn.of (p:=(aP l)) ((cS _).mono (M:=68719476736) (by omega))) (Qn.of (p:=(aP (eT (aP l)))) ((cS _).mono (M:=68719476736) (by omega)))) iV ⟨aD rfl,aD rfl,rfl⟩ (.one (tv (.int .i64 ((aP l)-(aP (eT (aP l)))).num.sign))) ?_
   refine df 9 ?_;refine df 10 ?_;refine df 11 ?_;refine WD.split (t:=168) rfl rfl (fun h23=>?_) (fun h23=>?_)
   ·refine bD 12 ?_
    refine aN 13 rfl (qE (Qn.of (p:=(aP l)) ((cS _).mono (M:=68719476736) (by omega)))) Ab ⟨aD rfl,rfl⟩ (.one (tv (.int .i64 (aP l).num.sign))) ?_
    refine df 14 ?_;refine df 15 ?_;refine df 16 ?_;refine WD.split (t:=173) rfl rfl (fun h24=>?_) (fun h24=>?_)
    ·refine bD 17 ?_;refine aN 18 rfl (cC (z:=1) (by omega) (by omega)) eM ⟨a1 rfl,rfl⟩ (qF (.of ((1:Int):Rat))) ?_
     refine aN 19 rfl (iU (Qn.of (p:=(aP l)) ((cS _).mono (M:=68719476736) (by omega))) (Qn.of (p:=((1:Int):Rat)) ((cV (by omega) (by omega)).mono (M:=68719476736) (by omega)))) iV ⟨aD rfl,aD rfl,rfl⟩ (.one (tv (.int .i64 ((aP l)-((1:Int):Rat)).num.sign))) ?_
     refine df 20 ?_;refine df 21 ?_;refine df 22 ?_;refine df 23 ?_;refine WD.split (t:=180) rfl rfl (fun h25=>?_) (fun h25=>?_)
     ·refine aN 24 rfl (fG) sJ rfl (.one (tv (.bool true))) ?_;refine df 25 ?_
      refine gA 26 (by kernel_rfl) rfl rfl aB rfl (by trivial) ?_ (fun h=>by first | rfl | cases h)
      refine bJ ?_;refine rt ?_;exact gV (.inl rfl) rfl (rfl)
     exact absurd (Am hp1) h25
    exact absurd (Al hp0) h24
   exact absurd (by rw[hp3,Rat.sub_self];rfl) h23
  exact absurd hp2 h22
 (iterate 16 refine dE ?_);refine o1 ?_;refine nl ?_;refine kH rfl ?_;refine sk ?_;refine sq ?_;refine rl ?_;refine o1 ?_
 refine ca (fW (l:=l) hl (by omega)) mZ ⟨a1 rfl,rfl⟩ (.tup [qF (.of (aP l)),.one (tv (.int .i64 (eB l)))]) ?_
 (iterate 3 refine o1 ?_);refine al 7 ?_;refine st ?_;refine o1 ?_;refine nl ?_;refine sq ?_;refine rl ?_;refine ld ?_
 refine ca (iT (Qn.of (p:=aP l) ((cS l).mono (M:=68719476736) (by omega))) (cS l) (by omega)) Aj ⟨aD rfl,rfl⟩ (.one (tv (.string (aA (eT (aP l)))))) ?_
 refine ca (fW (l:=(eT (aP l))) (wE _) (wG (cS l) (by omega))) mZ ⟨a1 rfl,rfl⟩ (.tup [qF (.of (aP (eT (aP l)))),.one (tv (.int .i64 (eB (eT (aP l)))))]) ?_
 (iterate 3 refine o1 ?_);refine al 8 ?_;refine st ?_;refine o1 ?_;refine nl ?_;refine sq ?_;refine rd [0,1,2,3,5,6,7,8] (fun i=>[26].contains i) mixed ?_
 refine dv 0 ?_;refine dv 1 ?_;refine dv 2 ?_;refine WD.split (t:=159) rfl rfl (fun h26=>?_) (fun h26=>?_)
 ·refine bF 3 ?_;refine bF 4 ?_;refine bF 5 ?_;refine bF 6 ?_;refine bF 7 ?_;refine bF 8 ?_;refine bF 9 ?_;refine bF 10 ?_;refine bF 11 ?_;refine bF 12 ?_
  refine bF 13 ?_;refine bF 14 ?_;refine bF 15 ?_;refine bF 16 ?_;refine bF 17 ?_;refine bF 18 ?_;refine bF 19 ?_;refine bF 20 ?_;refine bF 21 ?_;refine dv 22 ?_
  refine dv 23 ?_;refine aN 24 rfl (fG) sJ rfl (.one (tv (.bool true))) ?_;refine df 25 ?_
  refine gA 26 (by kernel_rfl) rfl rfl aB rfl (by trivial) ?_ (fun h=>by first | rfl | cases h)
  refine bJ ?_;refine rt ?_;exact gV (.inl rfl) rfl (rfl)
 obtain⟨hp0,hp1,hp2,hp3⟩:=oU (l:=l) (Decidable.byContradiction h26)
 refine dv 3 ?_;refine dv 4 ?_;refine dv 5 ?_;refine WD.split (t:=162) rfl rfl (fun h27=>?_) (fun h27=>?_)
 ·refine bD 6 ?_;refine bD 7 ?_
  refine aN 8 rfl (iU (Qn.of (p:=(aP l)) ((cS _).mono (M:=68719476736) (by omega))) (Qn.of (p:=(aP (eT (aP l)))) ((cS _).mono (M:=68719476736) (by omega)))) iV ⟨aD rfl,aD rfl,rfl⟩ (.one (tv (.int .i64 ((aP l)-(aP (eT (aP l)))).num.sign))) ?_
  refine df 9 ?_;refine df 10 ?_;refine df 11 ?_;refine WD.split (t:=168) rfl rfl (fun h28=>?_) (fun h28=>?_)
  ·refine bD 12 ?_
   refine aN 13 rfl (qE (Qn.of (p:=(aP l)) ((cS _).mono (M:=68719476736) (by omega)))) Ab ⟨aD rfl,rfl⟩ (.one (tv (.int .i64 (aP l).num.sign))) ?_
   refine df 14 ?_;refine df 15 ?_;refine df 16 ?_;refine WD.split (t:=173) rfl rfl (fun h29=>?_) (fun h29=>?_)
   ·refine bD 17 ?_;refine aN 18 rfl (cC (z:=1) (by omega) (by omega)) eM ⟨a1 rfl,rfl⟩ (qF (.of ((1:Int):Rat))) ?_
    refine aN 19 rfl (iU (Qn.of (p:=(aP l)) ((cS _).mono (M:=68719476736) (by omega))) (Qn.of (p:=((1:Int):Rat)) ((cV (by omega) (by omega)).mono (M:=68719476736) (by omega)))) iV ⟨aD rfl,aD rfl,rfl⟩ (.one (tv (.int .i64 ((aP l)-((1:Int):Rat)).num.sign))) ?_
    refine df 20 ?_;refine df 21 ?_;refine df 22 ?_;refine df 23 ?_;refine WD.split (t:=180) rfl rfl (fun h30=>?_) (fun h30=>?_)
    ·refine aN 24 rfl (fG) sJ rfl (.one (tv (.bool true))) ?_;refine df 25 ?_
     refine gA 26 (by kernel_rfl) rfl rfl aB rfl (by trivial) ?_ (fun h=>by first | rfl | cases h)
     refine bJ ?_;refine rt ?_;exact gV (.inl rfl) rfl (rfl)
    exact absurd (Am hp1) h30
   exact absurd (Al hp0) h29
  exact absurd (by rw[hp3,Rat.sub_self];rfl) h28
 exact absurd hp2 h27
end Go.Proofs.YtcaakamelngceaaGreatDoor
namespace Go.Proofs.YtcaakamelngceaaGreatDoor
open Go Go.ChangeShapes Go.WideShapes Go.ChangeAt Go.RowKit
theorem Yf:Tryz.prog.cellsOf 25=2:=by kernel_rfl
theorem Tj:Tryz.prog.cellsOf 4=1:=by kernel_rfl
theorem Yg:Tryz.prog.cellsOf 115=1:=by kernel_rfl
theorem Oh:Tryz.prog.cellsOf 23=1:=by kernel_rfl
theorem Ki:Reads Tryz.prog 25 2 (fun l=>∃a:Zi,Lim 4294967296 a.x∧l=JP false a):=by
 have h1:=Th Tryz.underlying4 Tj
 have h2:=Oe Tryz.underlying23 Tryz.underlying115 Oh Yg rfl
 have h3:=xR Tryz.underlying25 Yf (.cons rfl h1 (.cons rfl h2 .nil))
 exact(Ti h3).mono fun l ⟨s,xs,h4,h5⟩=>⟨⟨s,xs⟩,h4,h5⟩
theorem En {W:World}{N:Nat→Prop}:∀{l:List Tr}{us:List Value},FRL W N l us→ARL W N [] (l.map .t) us
 | [],us,h=>by simpa[FRL,ARL]using h
 | x::l,u::us,h=>by
  simp only[FRL]at h
  simp only[List.map_cons,ARL,AR]
  exact⟨h.1,En h.2⟩
 | _::_,[],h=>by simp only[FRL]at h
theorem We {W:World}{l:List Tr}{cs:Array Value}(h:FRL W (sH W) l (Value.agg cs).cells.toList):bB W (sH W) [] (.agg (l.map .t)) (.agg cs):=⟨cs.toList,by simp,En (by simpa[Value.cells]using h)⟩
theorem Jh {W:World}{y:Tr}{u:Value}(hu:u.cells.toList=[u]) (h:FRL W (sH W) [y] u.cells.toList):bB W (sH W) [] (.one (.t y)) u:=by
 rw[hu]at h
 simp only[FRL,and_true]at h
 simpa only[bB,AR]using h
theorem Yh:Tryz.prog.cellsOf 27=4:=by kernel_rfl
theorem Wd:Reads Tryz.prog 27 4 (fun l=>∃a:Fr4,Of a∧l=a.tr false):=
 (xR Tryz.underlying27 Yh (.cons rfl Ki (.cons rfl Ki .nil))).mono fun l ⟨a,b,h1,⟨z,h2,h3⟩,b',c',h4,⟨y,h5,h6⟩,h7⟩=>⟨⟨z.s,z.x,y.s,y.x⟩,⟨h2,h5⟩,by rw[h1,h3,h4,h6,h7];rfl⟩
theorem Tk:Tryz.prog.cellsOf 9=1:=by kernel_rfl
theorem Yi:Tryz.prog.cellsOf 5=1:=by kernel_rfl
theorem Sl:Reads Tryz.prog 9 1 (fun l=>∃xs:List Nat,(Lim 256 xs∧xs.length≤9223372036854775807)∧l=[.v (.string (aA xs))]):=⟨Tk,fun H enc w fuel cs x hx=>by
 obtain⟨s,rfl,_,h⟩:=DataW.trod_string Tryz.underlying9 hx
 obtain⟨e,hl⟩:=CV s
 have h9:(s.data.toList.map UInt8.toNat).length≤9223372036854775807:=by
  rw[List.length_map,Array.length_toList]
  have h8:s.data.size≤maxLen:=h
  unfold maxLen at h8
  omega
 exact⟨_,⟨_,⟨hl,h9⟩,rfl⟩,rfl,by rw[←e];simp[FRL,FR]⟩⟩
theorem BY:Reads Tryz.prog 5 1 (fun l=>∃n:Nat,n<256∧l=[.v (.int .u8 (n:Int))]):=(Kc Tryz.underlying5 Yi).mono fun l ⟨n,h1,h2,h3⟩=>by
 have e1:IntKind.u8.min=0:=rfl
 have e2:IntKind.u8.max=255:=rfl
 rw[e1]at h2
 rw[e2]at h3
 exact⟨n.toNat,by omega,by rw[h1,Int.toNat_of_nonneg h2]⟩
end Go.Proofs.YtcaakamelngceaaGreatDoor
