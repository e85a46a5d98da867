/- Part 7 of a proof: Zl to S2. -/
import Derived.Test.YteggpgndiajdpaaGreatDoorM6
import Derived.Test.YteggpgndiajdpaaGreatDoorM4
import Derived.Test.YteggpgndiajdpaaGreatDoorM5
import Derived.Shelf.Strings.Trim
import Derived.Shelf.Strings.SlTrimAscii
import Derived.Test.YteggpgndiajdpaaGreatDoorProg
set_option maxRecDepth 100000
set_option linter.unusedVariables false
set_option linter.unusedSimpArgs false
namespace Go.Proofs.YteggpgndiajdpaaGreatDoor
open Go Go.RowKit
section
variable {l:List Nat}{k N:Nat}{z:Int}{xs:List Nat}{neg:Bool}
theorem qY (hr:bT neg xs=false):gS neg xs=0:=by simp[gS,hr]
theorem mR (h:xs.length=0):bT neg xs= !neg:=by
 rw[List.length_eq_zero_iff]at h
 subst h
 simp[bT]
theorem qZ {n:Nat}(hn:xs.length=n) (h:0<n):bT neg xs=decide (((nth xs (n-1):Nat):Int)≠0):=by
 subst hn
 rcases xs with _ | ⟨x,l⟩
 ·simp at h
 simp only[bT,List.isEmpty_cons,Bool.false_and,Bool.not_false,Bool.true_and,Bool.false_or]
 by_cases h0:nth (x::l) ((x::l).length-1)=0
 ·rw[h0];rfl
 rw[bne_iff_ne.2 h0,decide_eq_true (by omega)]
theorem Ir (k:Int):cG (!(aT k)) k.natAbs=-k:=by
 unfold cG aT
 by_cases h:k<0 <;> simp[h] <;> omega
theorem Is {xs ys:List Nat}(hx:Lim 4294967296 xs) (hy:Lim 4294967296 ys):(dg 4294967296 (vl 4294967296 xs+vl 4294967296 ys)).length≤xs.length+ys.length+1:=by
 refine bG (by omega) ?_
 have h1:=eE hx
 have h2:=eE hy
 have h3:4294967296^xs.length≤4294967296^(xs.length+ys.length):=Nat.pow_le_pow_right (by omega) (by omega)
 have h4:4294967296^ys.length≤4294967296^(xs.length+ys.length):=Nat.pow_le_pow_right (by omega) (by omega)
 rw[Nat.pow_succ]
 omega
theorem aY (k:Int):vl 4294967296 (dg 4294967296 k.natAbs)=k.natAbs:=cA (by omega) _
theorem kP {a b:Nat}(h:a≤b):(dg 4294967296 a).length≤(dg 4294967296 b).length:=fH (by omega) h
theorem vV (k:Int):(dg 4294967296 (-(k)).natAbs).length=(dg 4294967296 k.natAbs).length:=by rw[Int.natAbs_neg]
theorem Dl {k k':Int}{s:Bool}(h:s=aT k) (h':aT k=aT k'):cG s (k.natAbs+k'.natAbs)=k+k':=by
 subst h
 unfold aT at*
 unfold cG
 by_cases h1:k<0 <;> by_cases h2:k'<0 <;> simp[h1,h2]at h'⊢ <;> omega
theorem It {k k':Int}{s:Bool}(h:s=aT k) (h':aT k≠aT k') (hl:¬k.natAbs<k'.natAbs):cG s (k.natAbs-k'.natAbs)=k+k':=by
 subst h
 unfold aT at*
 unfold cG
 by_cases h1:k<0 <;> by_cases h2:k'<0 <;> simp[h1,h2]at h'⊢ <;> omega
theorem Iu {k k':Int}{s:Bool}(h:s=aT k') (h':aT k≠aT k') (hl:k.natAbs<k'.natAbs):cG s (k'.natAbs-k.natAbs)=k+k':=by
 subst h
 unfold aT at*
 unfold cG
 by_cases h1:k<0 <;> by_cases h2:k'<0 <;> simp[h1,h2]at h'⊢ <;> omega
end
structure Zi where
 s:Bool
 x:List Nat
def Zi.of (k:Int):Zi:=⟨aT k,dg 4294967296 k.natAbs⟩
def gF (a:Zi):FV:=.agg (([.v (.bool a.s),sU false a.x]:List Tr).map .t)
def kF (k:Int):FV:=.agg (([.v (.bool (aT k)),sU false (dg 4294967296 k.natAbs)]:List Tr).map .t)
def kO (k:Int):FV:=.agg (([.v (.bool (aT k)),sU true (dg 4294967296 k.natAbs)]:List Tr).map .t)
def Zn (a:Zi) (k:Int):Prop:=Lim 4294967296 a.x∧a.x.length≤137438953472∧gS a.s a.x=k
theorem Zn.of {k:Int}(h:(dg 4294967296 k.natAbs).length≤137438953472):Zn (.of k) k:=⟨aW (by omega) _,h,Dj k⟩
theorem Zn.len {a:Zi}{k:Int}(h:Zn a k):(dg 4294967296 k.natAbs).length≤137438953472:=by
 obtain⟨h1,h2,rfl⟩:=h
 exact Nat.le_trans (yP h1) h2
theorem Zn.right {a:Zi}{k:Int}(h:Zn a k) (hr:bT a.s a.x=true):aT k=a.s∧dg 4294967296 k.natAbs=a.x:=by
 obtain⟨h1,h2,rfl⟩:=h
 exact⟨sD h1 hr,lS h1 hr⟩
theorem Zn.wrong {a:Zi}{k:Int}(h:Zn a k) (hr:bT a.s a.x=false):k=0:=by
 obtain⟨h1,h2,rfl⟩:=h
 exact qY hr
theorem rA {b:Bool}{m:Nat}{k:Int}(h:b=aT k) (hm:m=k.natAbs):FV.agg [tv (.bool b),.t (sU true (dg 4294967296 m))]=kO k:=by subst h hm;rfl
theorem Iv:FV.agg [tv (.bool false),.t (sU false [])]=kF 0:=by
 unfold kF
 rw[show Int.natAbs 0=0 from rfl,hH]
 rfl
theorem cU (k:Int):kN (kO k):=by
 simp only[kN,kO,nS,List.map_cons,List.map_nil,iQ,qH,sU,jV]
 exact⟨trivial,.inl ⟨trivial,kB _⟩,trivial⟩
theorem Iw (b:Bool) (m:Nat):kN (.agg (([.v (.bool b),sU true (dg 4294967296 m)]:List Tr).map .t)):=by
 simp only[kN,nS,List.map_cons,List.map_nil,iQ,qH,sU,jV]
 exact⟨trivial,.inl ⟨trivial,kB _⟩,trivial⟩
theorem Ps:CallOk Tryz.prog 105:=.mk Tryz.func105 (by decide) rfl
def bF (l:List Nat):Nat:=l.foldl (fun n c=>n*10+(c-48)) 0
theorem Nj {l:List Nat}{k:Nat}(h:k<l.length):bF (l.take k)*10+(nth l k-48)=bF (l.take (k+1)):=by
 have e:l[k]? =some (nth l k):=by rw[bD h];simp[h]
 rw[List.take_add_one,e]
 simp[bF]
theorem tN:∀{l:List Nat}{k:Nat},(∀c∈l,48≤c∧c≤57)→k≤l.length→bF (l.take k)<10^k
 | l,0,_,_=>by simp[bF]
 | l,k+1,h,hk=>by
  have ih:=tN (k:=k) h (by omega)
  have h2:=h (nth l k) (by rw[bD (by omega)];exact List.getElem_mem _)
  rw[←Nj (by omega),Nat.pow_succ]
  omega
theorem Dm {l:List Nat}{k:Nat}(h:∀c∈l,48≤c∧c≤57) (hk:k<l.length):48≤nth l k∧nth l k≤57:=h _ (by rw[bD hk];exact List.getElem_mem hk)
theorem Ix {l:List Nat}(h:∀c∈l,48≤c∧c≤57):Lim 256 l:=fun c hc=>by have:=h c hc;omega
theorem Pt {k:Nat}(h:k≤17):10^k≤100000000000000000:=Nat.le_trans (Nat.pow_le_pow_right (by omega) h) (by decide)
theorem Iy {l:List Nat}(hd:∀c∈l,48≤c∧c≤57) (h0l:0<l.length) (h18:l.length≤18):aI true Tryz.prog 105 [] [.one (tv (.string (aS l)))] (aX (.tup [.one (tv (.int .i64 ((bF l:Nat):Int))),.one (tv .nilIface)])):=by
 refine dV Tryz.func105 rfl Tryz.ntmps105 rfl aD rfl fun N9 w9 c0 h0=>?_
 have hd0:=Dm hd h0l
 refine sq ?_;refine rl ?_;refine o1 ?_;refine o1 ?_;refine nl ?_;refine sq ?_;refine rl ?_;refine o1 ?_;refine o1 ?_
 refine WL.cast (t:=12) (u':=.int .i64 ((l.length:Nat):Int)) rfl (congrArg (fun n:Nat=>Value.int .i64 (n:Int)) (bO _)) ?_
 refine o1 ?_;refine nl ?_;refine sq ?_;refine sq ?_;refine rl ?_;refine o1 ?_;(iterate 6 refine dY ?_);(iterate 6 refine o1 ?_);refine WL.split (t:=25) rfl (fun h1=>?_) (fun h1=>?_)
 ·(iterate 5 refine o1 ?_);refine nl ?_;refine eL rfl (fun h2=>?_) (fun h2=>?_)
  ·refine sq ?_;refine rl ?_;refine o1 ?_;refine o1 ?_;refine nl ?_;refine sq ?_;refine sq ?_;refine rl ?_;refine o1 ?_;refine o1 ?_ (hC:=(by rw[bO];show 0<l.length;omega))
   refine WL.cast (t:=33) (u':=.int .u8 (((nth l 0):Nat):Int)) rfl (congrArg (fun n:Nat=>Value.int .u8 (n:Int)) (oO (i:=0) (by omega) (by omega))) ?_
   refine o1 ?_;refine o1 ?_;refine WL.split (t:=35) rfl (fun h3=>?_) (fun h3=>?_)
   ·omega
   refine o1 ?_;refine o1 ?_ (hC:=(by rw[bO];show 0<l.length;omega))
   refine WL.cast (t:=37) (u':=.int .u8 (((nth l 0):Nat):Int)) rfl (congrArg (fun n:Nat=>Value.int .u8 (n:Int)) (oO (i:=0) (by omega) (by omega))) ?_
   refine o1 ?_;refine o1 ?_;refine nl ?_;refine eL rfl (fun h4=>?_) (fun h4=>?_)
   ·omega
   refine sk ?_;refine sq ?_;refine rl ?_;refine o1 ?_;refine nl ?_;refine sq ?_;refine sq ?_;refine rl ?_;refine o1 ?_;refine Te (Ix hd) (by omega) ?_
   refine o1 ?_;refine o1 ?_;refine nl ?_;refine bl ?_
   refine lp (γ:=Nat) (fun k=>dU [(5,.one (tv (.string (aS l)))),(6,.one (tv (.int .i64 ((bF (l.take k):Nat):Int)))),(47,.one (.t (.s false 5 1 l.length (bX l)))),(48,.one (tv (.int .i64 ((l.length:Nat):Int)))),(49,.one (tv (.int .i64 ((k:Nat):Int))))]) (fun _=>([]:List Ob).map some) (fun k=>k≤l.length) (fun k=>l.length-k) 0 (Nat.zero_le _) (bZ h0 [] _ _ (by decide) ⟨rfl,rfl,rfl,rfl,rfl,trivial⟩ rfl) fun k hk=>?_
   refine sq ?_;refine rl ?_;refine o1 ?_;refine nl ?_;refine sq ?_;refine eL rfl (fun h5=>?_) (fun h5=>?_)
   ·refine sk ?_;refine sq ?_;refine bl ?_;refine sq ?_;have hdk:=Dm hd (k:=k) (by omega)
    have hvk:=Nat.lt_of_lt_of_le (tN (k:=k) hd hk) (Pt (by omega))
    refine rl ?_;refine o1 ?_;refine Ly ([.v (.int .u8 ((nth l (k):Nat):Int))]) (Pj l (k:=k) (by omega)) ?_
    refine o1 ?_;refine nl ?_;refine sq ?_;refine rl ?_;refine o1 ?_;refine o1 ?_;refine WL.cast (t:=54) (u':=.int .u8 (((nth l k-48):Nat):Int)) rfl (dN (by omega)) ?_
    refine o1 ?_;refine nl ?_;refine sq ?_;refine sq ?_;refine rl ?_;refine o1 ?_;refine o1 ?_;refine nl ?_;refine eL rfl (fun h6=>?_) (fun h6=>?_)
    ·omega
    refine sk ?_;refine rl ?_;refine o1 ?_;refine o1 ?_;refine WL.cast (t:=59) (u':=.int .i64 (((bF (l.take k)*10):Nat):Int)) rfl (dN (by omega)) ?_
    refine o1 ?_;refine o1 ?_;refine WL.cast (t:=61) (u':=.int .i64 (((nth l k-48):Nat):Int)) rfl (dN (by omega)) ?_
    refine o1 ?_;refine WL.cast (t:=62) (u':=.int .i64 (((bF (l.take k)*10+(nth l k-48)):Nat):Int)) rfl (dN (by omega)) ?_
    refine WL.cast (t:=62) (u':=.int .i64 (((bF (l.take k)*10)+(nth l k-48):Nat):Int)) rfl (dN (by omega)) ?_
    refine o1 ?_;refine nl ?_;refine rl ?_;refine o1 ?_;refine WL.cast (t:=63) (u':=.int .i64 ((k+1:Nat):Int)) rfl (dN (by omega)) ?_
    refine o1 ?_;refine nl ?_
    exact⟨k+1,by omega,by omega,bZ h0 [] _ _ (by decide) ⟨rfl,yF (congrArg (fun n:Nat=>(n:Int)) (Nj (by omega)).symm),rfl,rfl,rfl,trivial⟩ rfl⟩
   refine ex ?_;refine sq ?_;refine sq ?_;refine rl ?_;refine o1 ?_;refine o1 ?_ (hC:=(by rw[bO];show 0<l.length;omega))
   refine WL.cast (t:=65) (u':=.int .u8 (((nth l 0):Nat):Int)) rfl (congrArg (fun n:Nat=>Value.int .u8 (n:Int)) (oO (i:=0) (by omega) (by omega))) ?_
   refine o1 ?_;refine nl ?_;refine eL rfl (fun h7=>?_) (fun h7=>?_)
   ·omega
   refine sk ?_;refine sq ?_;refine rl ?_;(iterate 3 refine o1 ?_);refine nl ?_;refine rt ?_;have hk9:k=l.length:=by omega
   exact en (.inl rfl) rfl (gZ (.cons (cF _) (.cons (cF _) .nil))) (by decide) (fun _=>⟨trivial,trivial,trivial⟩) (by rw[hk9,List.take_of_length_le (Nat.le_refl _)];rfl)
  omega
 omega
theorem rB {l:List Nat}(hd:∀c∈l,48≤c∧c≤57) (h0l:0<l.length) (h18:l.length≤18):aI true Tryz.prog 49 [] [.one (tv (.string (aS l)))] (aX (.tup [.one (tv (.int .i64 ((bF l:Nat):Int))),.one (tv .nilIface)])):=by
 refine dV Tryz.func49 rfl Tryz.ntmps49 rfl aD rfl fun N9 w9 c0 h0=>?_
 refine sq ?_;refine rl ?_;refine o1 ?_;refine o1 ?_;refine nl ?_;refine sq ?_;refine rl ?_;refine o1 ?_
 refine ca (Iy hd h0l h18) Ps ⟨a1 rfl,rfl⟩ (.tup [.one (tv (.int .i64 ((bF l:Nat):Int))),.one (tv .nilIface)]) ?_;(iterate 5 refine o1 ?_);refine nl ?_;refine sq ?_;refine sq ?_
 refine rl ?_;refine o1 ?_;refine Tf ?_ (by kernel_rfl)
 refine nl ?_;refine gY rfl ?_;refine sk ?_;refine sq ?_;refine rl ?_;(iterate 3 refine o1 ?_);refine nl ?_;refine rt ?_
 exact en (.inl rfl) rfl (gZ (.cons (cF _) (.cons (cF _) .nil))) (by decide) (fun _=>⟨trivial,trivial,trivial⟩) rfl
end Go.Proofs.YteggpgndiajdpaaGreatDoor
namespace Go.Proofs.YteggpgndiajdpaaGreatDoor
open Go Go.Shelf
def lays160_ren:Go.Shelf.Ren:=⟨fun | 160=>48 | 232=>99 | 231=>98 | 227=>100 | 234=>102 | 233=>101 | 236=>104 | 235=>103 | 228=>134 | 271=>137 | 151=>136 | 197=>135 | 120=>153 | 152=>152 | 260=>151 | 137=>159 | 119=>160 | 224=>161 | 225=>162 | 217=>166 | 266=>168 | n=>n,fun | 9=>9 | 4=>4 | 3=>3 | 5=>5 | 117=>127 | 116=>126 | 0=>0 | 124=>130 | 21=>21 | 105=>151 | 46=>85 | 119=>175 | 139=>178 | 138=>177 | n=>n,fun | 3=>3 | 4=>4 | n=>n⟩
theorem Iz:Go.Proofs.Lays.n160 Tryz.prog lays160_ren:={
 mixed:=by kernel_rfl
 f119:=Tryz.func160.trans (congrArg some (by kernel_rfl))
 f120:=Tryz.func153.trans (congrArg some (by kernel_rfl))
 f137:=Tryz.func159.trans (congrArg some (by kernel_rfl))
 f151:=Tryz.func136.trans (congrArg some (by kernel_rfl))
 f152:=Tryz.func152.trans (congrArg some (by kernel_rfl))
 f160:=Tryz.func48.trans (congrArg some (by kernel_rfl))
 f197:=Tryz.func135.trans (congrArg some (by kernel_rfl))
 f217:=Tryz.func166.trans (congrArg some (by kernel_rfl))
 f224:=Tryz.func161.trans (congrArg some (by kernel_rfl))
 f225:=Tryz.func162.trans (congrArg some (by kernel_rfl))
 f227:=Tryz.func100.trans (congrArg some (by kernel_rfl))
 f228:=Tryz.func134.trans (congrArg some (by kernel_rfl))
 f231:=Tryz.func98.trans (congrArg some (by kernel_rfl))
 f232:=Tryz.func99.trans (congrArg some (by kernel_rfl))
 f233:=Tryz.func101.trans (congrArg some (by kernel_rfl))
 f234:=Tryz.func102.trans (congrArg some (by kernel_rfl))
 f235:=Tryz.func103.trans (congrArg some (by kernel_rfl))
 f236:=Tryz.func104.trans (congrArg some (by kernel_rfl))
 f260:=Tryz.func151.trans (congrArg some (by kernel_rfl))
 f266:=Tryz.func168.trans (congrArg some (by kernel_rfl))
 f271:=Tryz.func137.trans (congrArg some (by kernel_rfl))
 t0:=Tryz.underlying0
 a0:=Tryz.isAgg0
 z0:=Tryz.sizeOf0
 v0:=Tryz.zeroValue0
 t3:=Tryz.underlying3
 a3:=Tryz.isAgg3
 z3:=Tryz.sizeOf3
 v3:=Tryz.zeroValue3
 t4:=Tryz.underlying4
 a4:=Tryz.isAgg4
 z4:=Tryz.sizeOf4
 v4:=Tryz.zeroValue4
 t5:=Tryz.underlying5
 a5:=Tryz.isAgg5
 z5:=Tryz.sizeOf5
 v5:=Tryz.zeroValue5
 t9:=Tryz.underlying9
 a9:=Tryz.isAgg9
 z9:=Tryz.sizeOf9
 v9:=Tryz.zeroValue9
 t21:=Tryz.underlying21
 a21:=Tryz.isAgg21
 z21:=Tryz.sizeOf21
 v21:=Tryz.zeroValue21
 t46:=Tryz.underlying85
 a46:=Tryz.isAgg85
 z46:=Tryz.sizeOf85
 v46:=Tryz.zeroValue85
 t105:=Tryz.underlying151
 a105:=Tryz.isAgg151
 z105:=Tryz.sizeOf151
 v105:=Tryz.zeroValue151
 t116:=Tryz.underlying126
 a116:=Tryz.isAgg126
 z116:=Tryz.sizeOf126
 t117:=Tryz.underlying127
 a117:=Tryz.isAgg127
 z117:=Tryz.sizeOf127
 v117:=Tryz.zeroValue127
 t119:=Tryz.underlying175
 a119:=Tryz.isAgg175
 z119:=Tryz.sizeOf175
 t124:=Tryz.underlying130
 a124:=Tryz.isAgg130
 z124:=Tryz.sizeOf130
 v124:=Tryz.zeroValue130
 t138:=Tryz.underlying177
 a138:=Tryz.isAgg177
 z138:=Tryz.sizeOf177
 v138:=Tryz.zeroValue177
 t139:=Tryz.underlying178
 a139:=Tryz.isAgg178
 z139:=Tryz.sizeOf178
 v139:=Tryz.zeroValue178
 g3:=by kernel_rfl
 g4:=by kernel_rfl}
end Go.Proofs.YteggpgndiajdpaaGreatDoor
namespace Go.Proofs.YteggpgndiajdpaaGreatDoor
open Go Go.RowKit
section
variable {f:FuncId}{args:List FV}
theorem gB {xs:List Nat}(h:∀(N:Nat→Prop) (w:World) us,bM w N [] args us→(∀b,N b→b<w.heap.size)→Calls Tryz.prog f us.toArray w (gP xs w)):aI true Tryz.prog f [] args (aX (.one (.t (sU true xs)))):=by
 intro N w cs us hL
 obtain⟨rfl,hf⟩:=kC hL
 refine(h _ w us hf (fun b hb=>hb.1)).mono ?_
 rintro e W ⟨A,n,c,rfl,ho,hb⟩
 obtain⟨y1,a1,a2,a3,a4⟩:=iT (N:=fun b=>true=false∧(b<W.heap.size∧b∉VT.fpL [])∧(N b∨w.heap.size≤b)) ho
 refine .mk0 (y:=[y1]) rfl hb (by simp only[VT.okL];exact⟨a3,trivial⟩) ?_ (fun b hb'=>?_) ?_
 ·simp only[VT.fpL,a4,List.append_nil]
  cases A <;> simp[Value.ownBlock]
 ·simp only[VT.fpL,a4,List.append_nil]at hb'
  exact ho.blk b hb'
 exact⟨y1,rfl,a1.symm,eA (fun _ _=>rfl) (fun b hb=>absurd hb.1 (by simp)) _ _ a2⟩
variable {xs ys:List Nat}
theorem dL {W:World}{N:Nat→Prop}{v:Value}(h:aR W N [] (.one (.t (sU false xs))) v) (hl:Lim 4294967296 xs) (hN:∀b,N b→b<W.heap.size):∃A c,v=.slice A xs.length c∧U32 W W.heap.size A xs.length c xs:=by
 simp only[aR,AR]at h
 obtain⟨A,c,rfl,l⟩:=sE h hl
 exact⟨A,c,rfl,l.u32 hN⟩
theorem Nk (hx:Lim 4294967296 xs) (h:xs.length≤1099511627776):aI true Tryz.prog 56 [] [.one (.t (sU false xs))] (aX (.one (.t (sU true (trim xs))))):=gB fun N w us hf hN=>by
 obtain⟨u,rfl,h1⟩:=As hf
 obtain⟨A,c,rfl,u1⟩:=dL h1 hx hN
 exact cE A _ c xs w u1 h
theorem Ja (hx:Lim 4294967296 xs) (h:xs.length≤1099511627776):aI true Tryz.prog 79 [] [.one (.t (sU false xs))] (aX (.one (.t (sU true xs)))):=gB fun N w us hf hN=>by
 obtain⟨u,rfl,h1⟩:=As hf
 obtain⟨A,c,rfl,u1⟩:=dL h1 hx hN
 exact jM A _ c xs w u1 h
theorem Pu (hx:Lim 4294967296 xs) (hy:Lim 4294967296 ys):aI true Tryz.prog 67 [] [.one (.t (sU false xs)),.one (.t (sU false ys))] (aX (.one (tv (.int .i64 (gQ (vl 4294967296 xs) (vl 4294967296 ys)))))):=vU fun N w us hf hN=>by
 obtain⟨u,v,rfl,h1,h2⟩:=mQ hf
 obtain⟨A,c,rfl,u1⟩:=dL h1 hx hN
 obtain⟨B,d,rfl,u2⟩:=dL h2 hy hN
 exact(jZ A B _ _ c d xs ys _ w u1 u2).mono fun e W ⟨he,k,hk⟩=>⟨he,hk▸dB (Below.refl _ _) k⟩
theorem At (hx:Lim 4294967296 xs) (hy:Lim 4294967296 ys) (h:xs.length≤1099511627776) (h':ys.length≤1099511627776):aI true Tryz.prog 50 [] [.one (.t (sU false xs)),.one (.t (sU false ys))] (aX (.one (.t (sU true (dg 4294967296 (vl 4294967296 xs+vl 4294967296 ys)))))):=gB fun N w us hf hN=>by
 obtain⟨u,v,rfl,h1,h2⟩:=mQ hf
 obtain⟨A,c,rfl,u1⟩:=dL h1 hx hN
 obtain⟨B,d,rfl,u2⟩:=dL h2 hy hN
 exact Fk A B _ _ c d xs ys w u1 u2 h h'
theorem Pv (hx:Lim 4294967296 xs) (hy:Lim 4294967296 ys) (h:xs.length≤549755813888) (h':ys.length≤549755813888):aI true Tryz.prog 44 [] [.one (.t (sU false xs)),.one (.t (sU false ys))] (aX (.one (.t (sU true (dg 4294967296 (vl 4294967296 xs*vl 4294967296 ys)))))):=gB fun N w us hf hN=>by
 obtain⟨u,v,rfl,h1,h2⟩:=mQ hf
 obtain⟨A,c,rfl,u1⟩:=dL h1 hx hN
 obtain⟨B,d,rfl,u2⟩:=dL h2 hy hN
 exact If A B _ _ c d xs ys w u1 u2 h h'
theorem Ft {W:World}{N:Nat→Prop}{t:Nat}{v:Value}(h:aR W N [] (.one (.t (.s false t 1 2 [sU false xs,sU false ys]))) v) (hx:Lim 4294967296 xs) (hy:Lim 4294967296 ys) (hN:∀b,N b→b<W.heap.size):∃A c,v=.slice A 2 c∧URows W W.heap.size A 2 c [xs,ys]:=by
 simp only[aR,AR,FR]at h
 obtain⟨A,c,rfl,h1,h2,_,h4⟩:=h
 rcases h4 with h4 | ⟨ad,rfl,h5,h6⟩
 ·omega
 obtain⟨u0,e0,f0⟩:=iA h6 (j:=0) rfl
 obtain⟨u1,e1,f1⟩:=iA h6 (j:=1) rfl
 obtain⟨A0,c0,rfl,l0⟩:=sE f0 hx
 obtain⟨A1,c1,rfl,l1⟩:=sE f1 hy
 rw[Nat.zero_add]at e0 e1
 refine⟨_,c,rfl,rfl,h1,h2,fun k hk=>?_⟩
 obtain⟨b,o,sp⟩:=ad
 match k,hk with
 | 0,_=>exact⟨b,o,sp,A0,_,c0,rfl,hN _ h5,e0,l0.u32 hN⟩
 | 1,_=>exact⟨b,o,sp,A1,_,c1,rfl,hN _ h5,e1,l1.u32 hN⟩
theorem Pw {t:Nat}(hx:Lim 4294967296 xs) (hy:Lim 4294967296 ys) (h:xs.length≤549755813888) (h':ys.length≤549755813888):aI true Tryz.prog 46 [] [.one (.t (.s false t 1 2 [sU false xs,sU false ys]))] (aX (.one (.t (sU true (dg 4294967296 (kA [xs,ys])))))):=gB fun N w us hf hN=>by
 obtain⟨u,rfl,h1⟩:=As hf
 obtain⟨A,c,rfl,u1⟩:=Ft h1 hx hy hN
 exact Im A 2 c [xs,ys] w u1 (by omega) (fun k hk=>by match k,hk with | 0,_=>exact h | 1,_=>exact h')
theorem kD (A:Option Addr) (n c:Nat):((Value.slice A n c).ownBlock.toList).Nodup:=by cases A <;> simp[Value.ownBlock]
theorem Au (hx:Lim 4294967296 xs) (hy:Lim 4294967296 ys) (h:xs.length≤1099511627776) (hle:vl 4294967296 ys≤vl 4294967296 xs):aI true Tryz.prog 77 [] [.one (.t (sU false xs)),.one (.t (sU false ys))] (aX (.tup [.one (.t (sU true (dg 4294967296 (vl 4294967296 xs-vl 4294967296 ys)))),.one (tv (.int .i64 0))])):=by
 intro N w cs us hL
 obtain⟨rfl,hf⟩:=kC hL
 obtain⟨u,v,rfl,h1,h2⟩:=mQ hf
 obtain⟨A,c,rfl,u1⟩:=dL h1 hx fun b hb=>hb.1
 obtain⟨B,d,rfl,u2⟩:=dL h2 hy fun b hb=>hb.1
 refine(Fl A B _ _ c d xs ys w u1 u2 h hle).mono ?_
 rintro e W ⟨A,n,c,rfl,ho,hb⟩
 obtain⟨y1,a1,a2,a3,a4⟩:=iT (N:=fun b=>true=false∧(b<W.heap.size∧b∉VT.fpL [])∧(N b∨w.heap.size≤b)) ho
 refine .mk0 (y:=[y1,.w (.int .i64 0)]) rfl hb (by simp only[VT.okL,VT.ok];exact⟨a3,trivial,trivial⟩) ?_ (fun b hb'=>?_) ?_
 ·simp only[VT.fpL,VT.fp,a4,List.append_nil]
  exact kD A n c
 ·simp only[VT.fpL,VT.fp,a4,List.append_nil]at hb'
  exact ho.blk b hb'
 refine⟨[_,_],rfl,?_⟩
 exact⟨_,_,[y1],[.w (.int .i64 0)],rfl,rfl,⟨y1,rfl,a1.symm,eA (fun _ _=>rfl) (fun b hb=>absurd hb.1 (by simp)) _ _ a2⟩,_,_,[.w (.int .i64 0)],[],rfl,rfl,⟨_,rfl,rfl,by simp[CR,tv,OR]⟩,rfl,rfl⟩
theorem Fu (hx:Lim 4294967296 xs) (hy:Lim 4294967296 ys) (h:xs.length≤549755813888) (h':ys.length≤549755813888) (h0:vl 4294967296 ys≠0):aI true Tryz.prog 45 [] [.one (.t (sU false xs)),.one (.t (sU false ys))] (aX (.tup [.one (.t (sU true (dg 4294967296 (vl 4294967296 xs/vl 4294967296 ys)))),.one (.t (sU true (dg 4294967296 (vl 4294967296 xs%vl 4294967296 ys)))),.one (tv (.int .i64 0))])):=by
 intro N w cs us hL
 obtain⟨rfl,hf⟩:=kC hL
 obtain⟨u,v,rfl,h1,h2⟩:=mQ hf
 obtain⟨A,c,rfl,u1⟩:=dL h1 hx fun b hb=>hb.1
 obtain⟨B,d,rfl,u2⟩:=dL h2 hy fun b hb=>hb.1
 refine(qV A B _ _ c d xs ys w u1 u2 h h' h0).mono ?_
 rintro e W ⟨A1,n1,c1,A2,n2,c2,rfl,ho,ho2,hap,hb⟩
 obtain⟨y1,a1,a2,a3,a4⟩:=iT (N:=fun b=>true=false∧(b<W.heap.size∧b∉VT.fpL [])∧(N b∨w.heap.size≤b)) ho
 obtain⟨y2,b1,b2,b3,b4⟩:=iT (N:=fun b=>true=false∧(b<W.heap.size∧b∉VT.fpL [])∧(N b∨w.heap.size≤b)) ho2
 refine .mk0 (y:=[y1,y2,.w (.int .i64 0)]) rfl hb (by simp only[VT.okL,VT.ok];exact⟨a3,b3,trivial,trivial⟩) ?_ (fun b hb'=>?_) ?_
 ·simp only[VT.fpL,VT.fp,a4,b4,List.append_nil]
  rw[List.nodup_append]
  refine⟨kD ..,kD ..,fun x hx y hy e=>?_⟩
  subst e
  rcases A1 with _ | a
  ·simp[Value.ownBlock]at hx
  rcases A2 with _ | b
  ·simp[Value.ownBlock]at hy
  simp[Value.ownBlock]at hx hy
  exact hap a b rfl rfl (by rw[←hx,←hy])
 ·simp only[VT.fpL,VT.fp,a4,b4,List.append_nil]at hb'
  rcases List.mem_append.1 hb' with hb' | hb'
  ·exact ho.blk b hb'
  exact ho2.blk b hb'
 refine⟨[_,_,_],rfl,?_⟩
 exact⟨_,_,[y1],[y2,.w (.int .i64 0)],rfl,rfl,⟨y1,rfl,a1.symm,eA (fun _ _=>rfl) (fun b hb=>absurd hb.1 (by simp)) _ _ a2⟩,_,_,[y2],[.w (.int .i64 0)],rfl,rfl,⟨y2,rfl,b1.symm,eA (fun _ _=>rfl) (fun b hb=>absurd hb.1 (by simp)) _ _ b2⟩,_,_,[.w (.int .i64 0)],[],rfl,rfl,⟨_,rfl,rfl,by simp[CR,tv,OR]⟩,rfl,rfl⟩
end
section
variable {xs:List Nat}
theorem Av {d:Nat}(hx:Lim 4294967296 xs) (h:xs.length≤1099511627776) (hd0:0<d) (hd:d<4294967296):aI true Tryz.prog 57 [] [.one (.t (sU false xs)),.one (tv (.int .u32 (d:Int)))] (aX (.tup [.one (.t (sU true (dg 4294967296 (vl 4294967296 xs/d)))),.one (tv (.int .u32 ((vl 4294967296 xs%d:Nat):Int))),.one (tv (.int .i64 0))])):=by
 intro N w cs us hL
 obtain⟨rfl,hf⟩:=kC hL
 obtain⟨u,v,rfl,h1,h2⟩:=mQ hf
 obtain⟨A,c,rfl,u1⟩:=dL h1 hx fun b hb=>hb.1
 obtain rfl:=aF (fI h2)
 refine(iY A _ c d xs w u1 h hd0 hd).mono ?_
 rintro e W ⟨A,n,c,rfl,ho,hb⟩
 obtain⟨y1,a1,a2,a3,a4⟩:=iT (N:=fun b=>true=false∧(b<W.heap.size∧b∉VT.fpL [])∧(N b∨w.heap.size≤b)) ho
 refine .mk0 (y:=[y1,.w (.int .u32 ((vl 4294967296 xs%d:Nat):Int)),.w (.int .i64 0)]) rfl hb (by simp only[VT.okL,VT.ok];exact⟨a3,trivial,trivial,trivial⟩) ?_ (fun b hb'=>?_) ?_
 ·simp only[VT.fpL,VT.fp,a4,List.append_nil]
  exact kD A n c
 ·simp only[VT.fpL,VT.fp,a4,List.append_nil]at hb'
  exact ho.blk b hb'
 refine⟨[_,_,_],rfl,?_⟩
 exact⟨_,_,[y1],[.w _,.w (.int .i64 0)],rfl,rfl,⟨y1,rfl,a1.symm,eA (fun _ _=>rfl) (fun b hb=>absurd hb.1 (by simp)) _ _ a2⟩,_,_,[.w _],[.w (.int .i64 0)],rfl,rfl,⟨_,rfl,rfl,by simp[CR,tv,OR]⟩,_,_,[.w (.int .i64 0)],[],rfl,rfl,⟨_,rfl,rfl,by simp[CR,tv,OR]⟩,rfl,rfl⟩
theorem Jb {v:Nat}(hx:Lim 4294967296 xs) (h:xs.length≤1099511627776) (hv:vl 4294967296 xs=v):aI true Tryz.prog 56 [] [.one (.t (sU false xs))] (aX (.one (.t (sU true (dg 4294967296 v))))):=by
 have e:=eF (B:=4294967296) (by omega) hx
 rw[←hv,e]
 exact Nk hx h
theorem Nl {u d:Nat}(h:(dg 4294967296 u).length≤1099511627776) (hd0:0<d) (hd:d<4294967296):aI true Tryz.prog 57 [] [.one (.t (sU false (dg 4294967296 u))),.one (tv (.int .u32 (d:Int)))] (aX (.tup [.one (.t (sU true (dg 4294967296 (u/d)))),.one (tv (.int .u32 ((u%d:Nat):Int))),.one (tv (.int .i64 0))])):=by
 have e:=cA (B:=4294967296) (by omega) u
 have h2:=Av (xs:=dg 4294967296 u) (d:=d) (aW (by omega) _) h hd0 hd
 rw[e]at h2
 exact h2
end
theorem vW {l:List Nat}(hn:l.length≤1000000):aI true Tryz.prog 48 [] [.one (tv (.string (aS l))),.one (tv (.string ⟨#[48,49,50,51,52,53,54,55,56,57]⟩))] (aX (.one (tv (.string ⟨(Lib.trimS (aS l).data.toList [48,49,50,51,52,53,54,55,56,57]).toArray⟩)))):=vU fun N w us hf hN=>by
 obtain⟨u,v,rfl,h1,h2⟩:=mQ hf
 obtain rfl:=aF (fI h1)
 obtain rfl:=aF (fI h2)
 exact Go.Proofs.Any.strings_Trim_laid Iz (by kernel_rfl) (aS l) ⟨#[48,49,50,51,52,53,54,55,56,57]⟩ w (by rw[bO];omega) (by decide) (fun j b h=>(by decide:∀b∈([48,49,50,51,52,53,54,55,56,57]:List UInt8),b.toNat<128) b (List.mem_of_getElem? h))
theorem vX {α:Type}{p:α→Bool}:∀{l:List α},l.dropWhile p=[]↔∀x∈l,p x=true
 | []=>by simp
 | x::l=>by
  rw[List.dropWhile_cons]
  by_cases h:p x=true
  ·rw[if_pos h,vX];simp[h]
  rw[if_neg h];simp[h]
theorem Dn {l cs:List UInt8}:Lib.trimS l cs=[]↔∀x∈l,cs.contains x=true:=by
 unfold Lib.trimS Lib.trimLeftS Lib.trimRightS
 rw[vX]
 refine⟨fun h=>?_,fun h x hx=>h x (by simpa using(List.dropWhile_sublist _).subset (List.mem_reverse.1 hx))⟩
 cases hq:l.reverse.dropWhile (cs.contains ·)with
 | nil=>exact fun x hx=>vX.1 hq x (List.mem_reverse.2 hx)
 | cons y ys=>
  have h1:=h y (by rw[hq];simp)
  have h2:=List.head?_dropWhile_not (cs.contains ·) l.reverse
  rw[hq]at h2
  simp at h2
  exact absurd (by simpa using h1) h2
theorem Aw {xs:List Nat}{m:Nat}(hx:Lim 4294967296 xs) (h:xs.length≤1099511627776) (hm:m<4294967296):aI true Tryz.prog 51 [] [.one (.t (sU false xs)),.one (tv (.int .u32 (m:Int)))] (aX (.one (.t (sU true (dg 4294967296 (vl 4294967296 xs*m)))))):=gB fun N w us hf hN=>by
 obtain⟨u,v,rfl,h1,h2⟩:=mQ hf
 obtain⟨A,c,rfl,u1⟩:=dL h1 hx hN
 obtain rfl:=aF (fI h2)
 exact nC A _ c m xs w u1 h hm
def Zg (a:Zi) (k:Int):Prop:=Lim 4294967296 a.x∧a.x.length≤300000000000∧gS a.s a.x=k
theorem Zn.g {a:Zi}{k:Int}(h:Zn a k):Zg a k:=⟨h.1,Nat.le_trans h.2.1 (by omega),h.2.2⟩
theorem Zg.of {k:Int}(h:(dg 4294967296 k.natAbs).length≤300000000000):Zg (.of k) k:=⟨aW (by omega) _,h,Dj k⟩
theorem Zg.len {a:Zi}{k:Int}(h:Zg a k):(dg 4294967296 k.natAbs).length≤300000000000:=by
 obtain⟨h1,h2,rfl⟩:=h
 exact Nat.le_trans (yP h1) h2
theorem Zg.wrong {a:Zi}{k:Int}(h:Zg a k) (hr:bT a.s a.x=false):k=0:=by
 obtain⟨h1,h2,rfl⟩:=h
 exact qY hr
theorem Do {a:Zi}{k:Int}(h:Zg a k) (hr:bT a.s a.x=true):gF a=kF k:=by
 obtain⟨h1,h2,rfl⟩:=h
 unfold gF kF
 rw[sD h1 hr,lS h1 hr]
theorem oR {a:Zi}{k:Int}(ha:Zg a k):aI true Tryz.prog 32 [] [gF a] (aX (.one (tv (.bool (bT a.s a.x))))):=by
 refine dV Tryz.func32 rfl Tryz.ntmps32 rfl aD rfl fun N w c0 h0=>?_
 have hal:=ha.2.1
 refine sq ?_;refine rl ?_;refine bx 0 ?_;refine o1 ?_;refine nl ?_;refine sq ?_;refine rl ?_;refine o1 ?_;refine ld ?_;refine o1 ?_;refine o1 ?_;refine nl ?_;refine sq ?_;refine rl ?_
 (iterate 3 refine o1 ?_);refine WL.split (t:=9) rfl (fun h1=>?_) (fun h1=>?_)
 ·refine o1 ?_;refine ld ?_;refine WL.splitb (t:=11) rfl (fun h2=>?_) (fun h2=>?_)
  ·(iterate 6 refine o1 ?_);refine WL.split (t:=17) rfl (fun h3=>?_) (fun h3=>?_)
   ·refine o1 ?_;refine ld ?_;refine o1 ?_;refine o1 ?_;refine WL.cast (t:=21) (u':=.int .i64 ((a.x.length-1:Nat):Int)) rfl (dN (by omega)) ?_
    refine o1 ?_;refine Ly ([.v (.int .u32 ((nth a.x (a.x.length-1):Nat):Int))]) (qX a.x (k:=a.x.length-1) (by omega)) ?_
    (iterate 4 refine o1 ?_);refine nl ?_;refine rt ?_;refine en (.inl rfl) rfl (dF (cF _)) (by decide) (fun _=>trivial) (congrArg (fun b=>FV.one (tv (.bool b))) ?_)
    rw[mR (by omega)];simp_all
   (iterate 7 refine dY ?_);(iterate 3 refine o1 ?_);refine nl ?_;refine rt ?_
   refine en (.inl rfl) rfl (dF (cF _)) (by decide) (fun _=>trivial) (congrArg (fun b=>FV.one (tv (.bool b))) ?_)
   rw[mR (by omega)];simp_all
  (iterate 3 refine o1 ?_);(iterate 11 refine dY ?_);refine o1 ?_;refine o1 ?_;refine nl ?_;refine rt ?_
  refine en (.inl rfl) rfl (dF (cF _)) (by decide) (fun _=>trivial) (congrArg (fun b=>FV.one (tv (.bool b))) ?_)
  rw[mR (by omega)];simp_all
 (iterate 3 refine dY ?_);(iterate 5 refine o1 ?_);refine WL.split (t:=17) rfl (fun h4=>?_) (fun h4=>?_)
 ·refine o1 ?_;refine ld ?_;refine o1 ?_;refine o1 ?_;refine WL.cast (t:=21) (u':=.int .i64 ((a.x.length-1:Nat):Int)) rfl (dN (by omega)) ?_
  refine o1 ?_;refine Ly ([.v (.int .u32 ((nth a.x (a.x.length-1):Nat):Int))]) (qX a.x (k:=a.x.length-1) (by omega)) ?_
  (iterate 4 refine o1 ?_);refine nl ?_;refine rt ?_;refine en (.inl rfl) rfl (dF (cF _)) (by decide) (fun _=>trivial) (congrArg (fun b=>FV.one (tv (.bool b))) ?_)
  first | exact(qZ rfl (by omega)).symm | (unfold bT;simp_all;try omega)
 (iterate 7 refine dY ?_);(iterate 3 refine o1 ?_);refine nl ?_;refine rt ?_
 refine en (.inl rfl) rfl (dF (cF _)) (by decide) (fun _=>trivial) (congrArg (fun b=>FV.one (tv (.bool b))) ?_)
 first | exact(qZ rfl (by omega)).symm | (unfold bT;simp_all;try omega)
theorem bC {a:Zi}{k:Int}(ha:Zg a k):aI false Tryz.prog 73 [] [gF a] (aX (kF k)):=by
 refine dV Tryz.func73 rfl Tryz.ntmps73 rfl aD rfl fun N w c0 h0=>?_
 refine sq ?_;refine rl ?_;refine bx 0 ?_;refine al 1 ?_;refine nl ?_;refine sq ?_;refine sq ?_;refine rl ?_;refine ld ?_
 refine ca (oR ha) zU ⟨aA rfl,rfl⟩ (.one (tv (.bool (bT a.s a.x)))) ?_;refine WL.splitb (t:=4) rfl (fun h1=>?_) (fun h1=>?_)
 ·refine o1 ?_;refine nl ?_;refine gY rfl ?_;refine sk ?_;refine sq ?_;refine rl ?_;refine ld ?_;refine o1 ?_;refine st ?_;refine nl ?_;refine rt ?_
  exact en (.inl rfl) rfl (dF (.agg (.read _ (l:=[.v (.bool a.s),sU false a.x]) rfl))) (by decide) (fun h=>by cases h) (Do ha h1)
 refine o1 ?_;refine nl ?_;refine lG rfl ?_;refine sq ?_;refine rl ?_;refine o1 ?_;refine st ?_;refine nl ?_;refine rt ?_
 exact en (.inl rfl) rfl (dF (.agg (.cons (.id rfl) (.cons .nilf .nil)))) (by decide) (fun h=>by cases h) (by rw[ha.wrong h1];exact Iv)
theorem Dp {b:Bool}{m:Nat}{K:Int}(hK:cG b m=K):aI false Tryz.prog 69 [] [.one (tv (.bool b)),.one (.t (sU false (dg 4294967296 m)))] (aX (kF K)):=by
 refine dV Tryz.func69 rfl Tryz.ntmps69 rfl aD rfl fun N w c0 h0=>?_
 refine sq ?_;refine rl ?_;refine al 0 ?_;refine nl ?_;refine sq ?_;refine rl ?_;refine o1 ?_;refine o1 ?_;refine WL.splitb (t:=6) rfl (fun h1=>?_) (fun h1=>?_)
 ·(iterate 6 refine o1 ?_);refine st ?_;refine nl ?_;refine rt ?_
  exact en (.inl rfl) rfl (dF (.agg (.cons (.id rfl) (.cons (.id rfl) .nil)))) (by decide) (fun h=>by cases h) (hK▸congrArg oV (rA (by rw[lR,h1,Bool.true_and,←gA (m:=m) rfl];exact decide_eq_decide.2 (by omega)) (jO _ _).symm))
 (iterate 3 refine dY ?_);(iterate 3 refine o1 ?_);refine st ?_;refine nl ?_;refine rt ?_
 exact en (.inl rfl) rfl (dF (.agg (.cons (.id rfl) (.cons (.id rfl) .nil)))) (by decide) (fun h=>by cases h) (hK▸congrArg oV (rA (by rw[lR,h1];rfl) (jO _ _).symm))
theorem dA {b:Bool}{m:Nat}{K:Int}(hK:cG b m=K):mO false Tryz.prog 69 [⟨22,1,(aZ (dg 4294967296 m)).map .t⟩] [.one (tv (.bool b)),.one (.sl 0 0 (dg 4294967296 m).length)] (· =kO K):=by
 refine Tb Tryz.func69 rfl Tryz.ntmps69 rfl aD rfl fun N M w c0 h0=>?_
 refine sq ?_;refine rl ?_;refine al 1 ?_;refine nl ?_;refine sq ?_;refine rl ?_;refine o1 ?_;refine o1 ?_;refine WL.splitb (t:=6) rfl (fun h1=>?_) (fun h1=>?_)
 ·(iterate 6 refine o1 ?_);refine st ?_;refine nl ?_;refine rt ?_
  exact Mh (en (.inl rfl) rfl (dF (.agg (.cons (.id rfl) (.cons (.sl (trs:=aZ (dg 4294967296 m)) rfl rfl (cM _) (bV _)) .nil)))) (by decide) (fun h=>by cases h) (hK▸rA (by rw[lR,h1,Bool.true_and,←gA (m:=m) rfl];exact decide_eq_decide.2 (by omega)) (jO _ _).symm))
 (iterate 3 refine dY ?_);(iterate 3 refine o1 ?_);refine st ?_;refine nl ?_;refine rt ?_
 exact Mh (en (.inl rfl) rfl (dF (.agg (.cons (.id rfl) (.cons (.sl (trs:=aZ (dg 4294967296 m)) rfl rfl (cM _) (bV _)) .nil)))) (by decide) (fun h=>by cases h) (hK▸rA (by rw[lR,h1];rfl) (jO _ _).symm))
theorem Fv {k:Int}:aI false Tryz.prog 80 [] [kF k] (aX (kF (-k))):=by
 refine dV Tryz.func80 rfl Tryz.ntmps80 rfl aD rfl fun N w c0 h0=>?_
 refine sq ?_;refine rl ?_;refine bx 0 ?_;refine al 1 ?_;refine nl ?_;refine sq ?_;refine rl ?_;refine o1 ?_;refine o1 ?_;refine ld ?_;(iterate 3 refine o1 ?_);refine ld ?_
 refine ca (Dp (m:=k.natAbs) (K:=-k) (Ir k)) gM ⟨a1 rfl,a1 rfl,rfl⟩ (kF (-k)) ?_;refine o1 ?_;refine st ?_;refine nl ?_;refine rt ?_
 exact en (.inl rfl) rfl (dF (.agg (.cons (.id rfl) (.cons (.id rfl) .nil)))) (by decide) (fun h=>by cases h) rfl
theorem tO {a:Zi}{k:Int}(ha:Zg a k):aI true Tryz.prog 39 [] [gF a] (aX (kO (((k.natAbs:Nat):Int)))):=by
 refine dV Tryz.func39 rfl Tryz.ntmps39 rfl aD rfl fun N w c0 h0=>?_
 have hkl:=ha.len
 refine sq ?_;refine rl ?_;refine bx 0 ?_;refine al 1 ?_;refine nl ?_;refine sq ?_;refine rl ?_;refine ld ?_;refine ca (bC ha) bB ⟨aA rfl,rfl⟩ (kF (k)) ?_;refine o1 ?_;refine o1 ?_
 refine nY 2 (Ja (aW (by omega) _) (by have:=vV k;omega)) Sd ⟨a1 rfl,rfl⟩ ?_
 refine o1 ?_;refine st ?_;refine nl ?_;refine rt ?_
 exact en (.inl rfl) rfl (dF (.agg (.cons (.id rfl) (.cons (.sl (trs:=aZ (dg 4294967296 k.natAbs)) rfl rfl (cM _) (bV _)) .nil)))) (by decide) (fun _=>Iw _ _) (rA (by unfold aT;simp) (by omega))
theorem Dq {k k':Int}(hk:(dg 4294967296 k.natAbs).length≤500000000000) (hk':(dg 4294967296 k'.natAbs).length≤500000000000):aI true Tryz.prog 78 [] [kF k,kF k'] (aX (kO (k+k'))):=by
 refine dV Tryz.func78 rfl Tryz.ntmps78 rfl aD rfl fun N w c0 h0=>?_
 have hal:=Is (xs:=dg 4294967296 k.natAbs) (ys:=dg 4294967296 k'.natAbs) (aW (by omega) _) (aW (by omega) _)
 rw[aY,aY]at hal;refine sq ?_;refine rl ?_;refine bx 0 ?_;refine bx 1 ?_;refine al 2 ?_;refine nl ?_;refine sq ?_;refine sq ?_;refine rl ?_;refine o1 ?_;refine o1 ?_
 refine ld ?_;refine o1 ?_;refine o1 ?_;refine ld ?_;refine o1 ?_;refine nl ?_;refine mY rfl (fun h1=>?_) (fun h1=>?_)
 ·refine sq ?_;refine rd [0,1,2] (fun i=>[11].contains i) mixed ?_
  refine dv 0 ?_;refine dv 1 ?_;refine aP 2 ?_;refine dv 3 ?_;refine dv 4 ?_;refine aP 5 ?_;refine dv 6 ?_;refine dv 7 ?_;refine aP 8 ?_
  have hA:aI true Tryz.prog 50 [] [.one (.t (sU false (dg 4294967296 k.natAbs))),.one (.t (sU false (dg 4294967296 k'.natAbs)))] (aX (.one (.t (sU true (dg 4294967296 (k.natAbs+k'.natAbs)))))):=by have h9:=At (aW (by omega) k.natAbs) (aW (by omega) k'.natAbs) (by omega) (by omega);rwa[aY,aY]at h9
  refine Cc 3 9 rfl hA rX ⟨a1 rfl,a1 rfl,rfl⟩ ?_
  refine qM 10 4 [3] rfl (dA (m:=(k.natAbs+k'.natAbs)) (K:=k+k') (Dl rfl (eq_of_beq h1))) gM ⟨dS rfl,rfl⟩ ⟨rfl,rfl,rfl⟩ ⟨rfl,rfl,rfl,trivial⟩ ?_;refine dst 11 ?_
  refine bU ?_;refine rt ?_
  exact en (.inl rfl) rfl (dF (.agg (.cons (.id rfl) (.cons (.sl (trs:=aZ (dg 4294967296 (k+k').natAbs)) rfl rfl (cM _) (bV _)) .nil)))) (by decide) (fun _=>cU (k+k')) rfl
 refine sk ?_;refine sq ?_;refine sq ?_;refine rl ?_;refine o1 ?_;refine o1 ?_;refine ld ?_;refine o1 ?_;refine o1 ?_;refine ld ?_
 refine ca (Pu (aW (by omega) _) (aW (by omega) _)) Sb ⟨a1 rfl,a1 rfl,rfl⟩ (.one (tv (.int .i64 (gQ (vl 4294967296 (dg 4294967296 (k).natAbs)) (vl 4294967296 (dg 4294967296 (k').natAbs)))))) ?_
 refine o1 ?_;refine nl ?_;refine eL rfl (fun h2=>?_) (fun h2=>?_)
 ·refine rl ?_;refine ld ?_;refine ld ?_;refine st ?_;refine st ?_;refine nl ?_;refine sq ?_;refine rl ?_;refine o1 ?_;refine o1 ?_;refine ld ?_;refine o1 ?_;refine o1 ?_;refine ld ?_
  have hlt:k.natAbs<k'.natAbs:=Decidable.byContradiction fun h8=>by rw[aY,aY]at h2;rcases Nat.lt_or_ge k'.natAbs k.natAbs with h7 | h7;(rw[fZ h7]at h2;omega);(rw[lO (by omega)]at h2;omega)
  have hS:aI true Tryz.prog 77 [] [.one (.t (sU false (dg 4294967296 k'.natAbs))),.one (.t (sU false (dg 4294967296 k.natAbs)))] (aX (.tup [.one (.t (sU true (dg 4294967296 (k'.natAbs-k.natAbs)))),.one (tv (.int .i64 0))])):=by have h9:=Au (aW (by omega) k'.natAbs) (aW (by omega) k.natAbs) (by omega) (by rw[aY,aY];omega);rwa[aY,aY]at h9
  refine nY 3 hS Fe ⟨a1 rfl,a1 rfl,rfl⟩ ?_;(iterate 5 refine o1 ?_);refine nl ?_;refine sq ?_;refine rl ?_;refine o1 ?_;refine o1 ?_;refine ld ?_;refine o1 ?_
  refine cm 4 [3] (dA (m:=(k'.natAbs-k.natAbs)) (K:=k+k') (Iu rfl (ne_of_beq_false h1) hlt)) gM ⟨dS rfl,rfl⟩ ⟨rfl,rfl,rfl⟩ ?_;refine st ?_;refine nl ?_;refine rt ?_
  exact en (.inl rfl) rfl (dF (.agg (.cons (.id rfl) (.cons (.sl (trs:=aZ (dg 4294967296 (k+k').natAbs)) rfl rfl (cM _) (bV _)) .nil)))) (by decide) (fun _=>cU (k+k')) rfl
 refine sk ?_;refine sq ?_;refine rl ?_;refine o1 ?_;refine o1 ?_;refine ld ?_;refine o1 ?_;refine o1 ?_;refine ld ?_
 have hlt:¬k.natAbs<k'.natAbs:=fun h8=>h2 (by rw[aY,aY,jN h8];omega)
 have hS:aI true Tryz.prog 77 [] [.one (.t (sU false (dg 4294967296 k.natAbs))),.one (.t (sU false (dg 4294967296 k'.natAbs)))] (aX (.tup [.one (.t (sU true (dg 4294967296 (k.natAbs-k'.natAbs)))),.one (tv (.int .i64 0))])):=by have h9:=Au (aW (by omega) k.natAbs) (aW (by omega) k'.natAbs) (by omega) (by rw[aY,aY];omega);rwa[aY,aY]at h9
 refine nY 3 hS Fe ⟨a1 rfl,a1 rfl,rfl⟩ ?_;(iterate 5 refine o1 ?_);refine nl ?_;refine sq ?_;refine rl ?_;refine o1 ?_;refine o1 ?_;refine ld ?_;refine o1 ?_
 refine cm 4 [3] (dA (m:=(k.natAbs-k'.natAbs)) (K:=k+k') (It rfl (ne_of_beq_false h1) hlt)) gM ⟨dS rfl,rfl⟩ ⟨rfl,rfl,rfl⟩ ?_;refine st ?_;refine nl ?_;refine rt ?_
 exact en (.inl rfl) rfl (dF (.agg (.cons (.id rfl) (.cons (.sl (trs:=aZ (dg 4294967296 (k+k').natAbs)) rfl rfl (cM _) (bV _)) .nil)))) (by decide) (fun _=>cU (k+k')) rfl
theorem Px {a b:Zi}{k k':Int}(ha:Zg a k) (hb:Zg b k'):aI true Tryz.prog 36 [] [gF a,gF b] (aX (kO (k+k'))):=by
 refine dV Tryz.func36 rfl Tryz.ntmps36 rfl aD rfl fun N w c0 h0=>?_
 have hkl:=ha.len
 have hkl':=hb.len
 refine sq ?_;refine rl ?_;refine bx 0 ?_;refine bx 1 ?_;refine al 2 ?_;refine nl ?_;refine sq ?_;refine rd [0,1,2] (fun i=>[5].contains i) mixed ?_
 refine aP 0 ?_;refine aP 2 ?_;refine aO 1 rfl (bC ha) bB ⟨aA rfl,rfl⟩ (kF (k)) ?_;refine aO 3 rfl (bC hb) bB ⟨aA rfl,rfl⟩ (kF (k')) ?_
 refine Cc 3 4 rfl (Dq (k:=k) (k':=k') (by omega) (by omega)) Lx ⟨aA rfl,aA rfl,rfl⟩ ?_
 refine dst 5 ?_;refine bU ?_;refine rt ?_
 exact en (.inl rfl) rfl (dF (.agg (.cons (.id rfl) (.cons (.sl (trs:=aZ (dg 4294967296 ((k+k')).natAbs)) rfl rfl (cM _) (bV _)) .nil)))) (by decide) (fun _=>cU ((k+k'))) rfl
theorem Gu {a b:Zi}{k k':Int}(ha:Zg a k) (hb:Zg b k'):aI true Tryz.prog 40 [] [gF a,gF b] (aX (kO (k-k'))):=by
 refine dV Tryz.func40 rfl Tryz.ntmps40 rfl aD rfl fun N w c0 h0=>?_
 have hkl:=ha.len
 have hkl':=hb.len
 have hkn:=vV k'
 refine sq ?_;refine rl ?_;refine bx 0 ?_;refine bx 1 ?_;refine al 2 ?_;refine nl ?_;refine sq ?_;refine rd [0,1,2] (fun i=>[6].contains i) mixed ?_
 refine aP 0 ?_;refine aP 2 ?_;refine aO 1 rfl (bC ha) bB ⟨aA rfl,rfl⟩ (kF (k)) ?_;refine aO 3 rfl (bC hb) bB ⟨aA rfl,rfl⟩ (kF (k')) ?_
 refine aO 4 rfl (Fv (k:=k')) Se ⟨aA rfl,rfl⟩ (kF (-(k'))) ?_;refine Cc 3 5 rfl (Dq (k:=k) (k':=(-(k'))) (by omega) (by omega)) Lx ⟨aA rfl,aA rfl,rfl⟩ ?_
 refine dst 6 ?_;refine bU ?_;refine rt ?_
 exact en (.inl rfl) rfl (dF (.agg (.cons (.id rfl) (.cons (.sl (trs:=aZ (dg 4294967296 ((k+(-(k')))).natAbs)) rfl rfl (cM _) (bV _)) .nil)))) (by decide) (fun _=>cU ((k+(-(k'))))) (by rw[Int.sub_eq_add_neg];rfl)
theorem cB {a:Zi}{k:Int}(ha:Zg a k):aI true Tryz.prog 34 [] [gF a] (aX (.one (tv (.int .i64 k.sign)))):=by
 refine dV Tryz.func34 rfl Tryz.ntmps34 rfl aD rfl fun N w c0 h0=>?_
 refine sq ?_;refine rl ?_;refine bx 0 ?_;refine o1 ?_;refine nl ?_;refine sq ?_;refine sq ?_;refine rl ?_;refine ld ?_;refine ca (bC ha) bB ⟨aA rfl,rfl⟩ (kF (k)) ?_;refine al 1 ?_
 refine st ?_;refine nl ?_;refine bl ?_;refine sq ?_;refine rl ?_;refine o1 ?_;refine o1 ?_;refine ld ?_;refine o1 ?_;refine nl ?_;refine mY rfl (fun h1=>?_) (fun h1=>?_)
 ·refine sq ?_;refine rl ?_;refine o1 ?_;refine nl ?_;refine rt ?_;refine en (.inl rfl) rfl (dF (cF _)) (by decide) (fun _=>trivial) (congrArg (fun z=>FV.one (tv (.int .i64 z))) ?_)
  have h9:k<0:=of_decide_eq_true h1
  exact(Int.sign_eq_neg_one_of_neg h9).symm
 refine sq ?_;refine rl ?_;refine o1 ?_;refine o1 ?_;refine ld ?_;(iterate 3 refine o1 ?_);refine nl ?_;refine eL rfl (fun h2=>?_) (fun h2=>?_)
 ·refine sq ?_;refine rl ?_;refine o1 ?_;refine nl ?_;refine rt ?_;refine en (.inl rfl) rfl (dF (cF _)) (by decide) (fun _=>trivial) (congrArg (fun z=>FV.one (tv (.int .i64 z))) ?_)
  have h9:¬k<0:=of_decide_eq_false h1
  have h8:=gA (m:=k.natAbs) rfl
  have h7:decide (0<k.natAbs)=true:=by rw[←h8];exact decide_eq_true (by omega)
  have h6:=of_decide_eq_true h7
  exact(Int.sign_eq_one_of_pos (by omega)).symm
 refine sk ?_;refine sq ?_;refine rl ?_;refine o1 ?_;refine nl ?_;refine rt ?_
 refine en (.inl rfl) rfl (dF (cF _)) (by decide) (fun _=>trivial) (congrArg (fun z=>FV.one (tv (.int .i64 z))) ?_)
 have h9:¬k<0:=of_decide_eq_false h1
 have h8:=gA (m:=k.natAbs) rfl
 have h7:decide (0<k.natAbs)=false:=by rw[←h8];exact decide_eq_false (by omega)
 have h6:=of_decide_eq_false h7
 obtain rfl:k=0:=by omega
 rfl
theorem jF {a b:Zi}{k k':Int}(ha:Zg a k) (hb:Zg b k') (hs:(dg 4294967296 (k-k').natAbs).length≤300000000000):aI true Tryz.prog 38 [] [gF a,gF b] (aX (.one (tv (.int .i64 (k-k').sign)))):=by
 refine dV Tryz.func38 rfl Tryz.ntmps38 rfl aD rfl fun N w c0 h0=>?_
 have hkl:=ha.2.1;have hkl2:=ha.len;have hkl3:=hb.len
 refine sq ?_;refine rl ?_;refine bx 0 ?_;refine bx 1 ?_;refine o1 ?_;refine nl ?_;refine sq ?_;refine rl ?_;refine ld ?_;refine ld ?_
 refine ca (Gu ha hb) zW ⟨aA rfl,aA rfl,rfl⟩ (kF (k-k')) ?_;refine ca (cB (Zg.of (k:=k-k') hs)) dO ⟨aA rfl,rfl⟩ (.one (tv (.int .i64 (k-k').sign))) ?_;refine o1 ?_
 refine nl ?_;refine rt ?_;exact en (.inl rfl) rfl (dF (cF _)) (by decide) (fun _=>trivial) rfl
theorem Gv {a b:Zi}{k k':Int}(ha:Zg a k) (hb:Zg b k'):aI true Tryz.prog 37 [] [gF a,gF b] (aX (kO (k*k'))):=by
 refine dV Tryz.func37 rfl Tryz.ntmps37 rfl aD rfl fun N w c0 h0=>?_
 have hkl:=ha.len
 have hkl':=hb.len
 refine sq ?_;refine rl ?_;refine bx 0 ?_;refine bx 1 ?_;refine al 2 ?_;refine nl ?_
 refine md (γ:=Unit) (fun _=>dU [(4,.one (.pt 0 0)),(5,.one (.pt 1 0)),(6,.one (.pt 2 0))]) (fun _=>([⟨44,0,[tv (.bool false),tv (.slice none 0 0)]⟩,⟨103,0,[tv (.bool (aT k)),.t (sU false (dg 4294967296 k.natAbs))]⟩,⟨103,0,[tv (.bool (aT k')),.t (sU false (dg 4294967296 k'.natAbs))]⟩]:List Ob).map some) (fun _=>True) ?_ fun _ _=>?_
 ·refine rd [0,1,2] (fun i=>[7].contains i) mixed ?_
  refine aP 0 ?_;refine aP 2 ?_;refine WO.three (i:=1) (j:=4) (m:=5) (by kernel_rfl) ?_ ?_ ?_
  ·refine eY 1 rfl (bC ha) bB ⟨aA rfl,rfl⟩ (kF (k)) ?_;refine WO.three (i:=3) (j:=4) (m:=5) (by kernel_rfl) ?_ ?_ ?_
   ·refine eY 3 rfl (bC hb) bB ⟨aA rfl,rfl⟩ (kF (k')) ?_;refine WO.two (i:=4) (j:=5) (by kernel_rfl) ?_ ?_
    ·refine cC (key:=3) 4 rfl rfl aD rfl ⟨rfl,rfl,rfl,trivial⟩ ?_;refine eW (key:=4) 5 (by kernel_rfl) rfl rfl aD rfl ⟨rfl,rfl,rfl,trivial⟩ ?_
     refine bQ 6 (by kernel_rfl) rfl rfl aD rfl rfl rfl rfl ⟨rfl,rfl,rfl,trivial⟩ ?_
     refine dst 7 ?_;refine bU ?_;exact⟨(),trivial,bZ h0 [2,3,4] _ _ (by decide) ⟨rfl,rfl,rfl,trivial⟩ ⟨oe rfl rfl,oe rfl rfl,oe rfl rfl,rfl⟩⟩
    refine cC (key:=3) 5 rfl rfl aD rfl ⟨rfl,rfl,rfl,trivial⟩ ?_;refine eW (key:=4) 4 (by kernel_rfl) rfl rfl aD rfl ⟨rfl,rfl,rfl,trivial⟩ ?_
    refine bQ 6 (by kernel_rfl) rfl rfl aD rfl rfl rfl rfl ⟨rfl,rfl,rfl,trivial⟩ ?_
    refine dst 7 ?_;refine bU ?_;exact⟨(),trivial,bZ h0 [2,4,3] _ _ (by decide) ⟨rfl,rfl,rfl,trivial⟩ ⟨oe rfl rfl,oe rfl rfl,oe rfl rfl,rfl⟩⟩
   ·refine cC (key:=3) 4 rfl rfl aD rfl ⟨rfl,rfl,rfl,trivial⟩ ?_;refine WO.two (i:=3) (j:=5) (by kernel_rfl) ?_ ?_
    ·refine eY 3 rfl (bC hb) bB ⟨aA rfl,rfl⟩ (kF (k')) ?_;refine eW (key:=4) 5 (by kernel_rfl) rfl rfl aD rfl ⟨rfl,rfl,rfl,trivial⟩ ?_
     refine bQ 6 (by kernel_rfl) rfl rfl aD rfl rfl rfl rfl ⟨rfl,rfl,rfl,trivial⟩ ?_
     refine dst 7 ?_;refine bU ?_;exact⟨(),trivial,bZ h0 [2,3,4] _ _ (by decide) ⟨rfl,rfl,rfl,trivial⟩ ⟨oe rfl rfl,oe rfl rfl,oe rfl rfl,rfl⟩⟩
    refine cC (key:=4) 5 rfl rfl aD rfl ⟨rfl,rfl,rfl,trivial⟩ ?_;refine aO 3 rfl (bC hb) bB ⟨aA rfl,rfl⟩ (kF (k')) ?_
    refine bQ 6 (by kernel_rfl) rfl rfl aD rfl rfl rfl rfl ⟨rfl,rfl,rfl,trivial⟩ ?_
    refine dst 7 ?_;refine bU ?_;exact⟨(),trivial,bZ h0 [2,3,4] _ _ (by decide) ⟨rfl,rfl,rfl,trivial⟩ ⟨oe rfl rfl,oe rfl rfl,oe rfl rfl,rfl⟩⟩
   refine cC (key:=3) 5 rfl rfl aD rfl ⟨rfl,rfl,rfl,trivial⟩ ?_;refine WO.two (i:=3) (j:=4) (by kernel_rfl) ?_ ?_
   ·refine eY 3 rfl (bC hb) bB ⟨aA rfl,rfl⟩ (kF (k')) ?_;refine eW (key:=4) 4 (by kernel_rfl) rfl rfl aD rfl ⟨rfl,rfl,rfl,trivial⟩ ?_
    refine bQ 6 (by kernel_rfl) rfl rfl aD rfl rfl rfl rfl ⟨rfl,rfl,rfl,trivial⟩ ?_
    refine dst 7 ?_;refine bU ?_;exact⟨(),trivial,bZ h0 [2,4,3] _ _ (by decide) ⟨rfl,rfl,rfl,trivial⟩ ⟨oe rfl rfl,oe rfl rfl,oe rfl rfl,rfl⟩⟩
   refine cC (key:=4) 4 rfl rfl aD rfl ⟨rfl,rfl,rfl,trivial⟩ ?_;refine aO 3 rfl (bC hb) bB ⟨aA rfl,rfl⟩ (kF (k')) ?_
   refine bQ 6 (by kernel_rfl) rfl rfl aD rfl rfl rfl rfl ⟨rfl,rfl,rfl,trivial⟩ ?_
   refine dst 7 ?_;refine bU ?_;exact⟨(),trivial,bZ h0 [2,4,3] _ _ (by decide) ⟨rfl,rfl,rfl,trivial⟩ ⟨oe rfl rfl,oe rfl rfl,oe rfl rfl,rfl⟩⟩
  ·refine cC (key:=3) 4 rfl rfl aD rfl ⟨rfl,rfl,rfl,trivial⟩ ?_;refine WO.two (i:=1) (j:=5) (by kernel_rfl) ?_ ?_
   ·refine eY 1 rfl (bC ha) bB ⟨aA rfl,rfl⟩ (kF (k)) ?_;refine WO.two (i:=3) (j:=5) (by kernel_rfl) ?_ ?_
    ·refine eY 3 rfl (bC hb) bB ⟨aA rfl,rfl⟩ (kF (k')) ?_;refine eW (key:=4) 5 (by kernel_rfl) rfl rfl aD rfl ⟨rfl,rfl,rfl,trivial⟩ ?_
     refine bQ 6 (by kernel_rfl) rfl rfl aD rfl rfl rfl rfl ⟨rfl,rfl,rfl,trivial⟩ ?_
     refine dst 7 ?_;refine bU ?_;exact⟨(),trivial,bZ h0 [2,3,4] _ _ (by decide) ⟨rfl,rfl,rfl,trivial⟩ ⟨oe rfl rfl,oe rfl rfl,oe rfl rfl,rfl⟩⟩
    refine cC (key:=4) 5 rfl rfl aD rfl ⟨rfl,rfl,rfl,trivial⟩ ?_;refine aO 3 rfl (bC hb) bB ⟨aA rfl,rfl⟩ (kF (k')) ?_
    refine bQ 6 (by kernel_rfl) rfl rfl aD rfl rfl rfl rfl ⟨rfl,rfl,rfl,trivial⟩ ?_
    refine dst 7 ?_;refine bU ?_;exact⟨(),trivial,bZ h0 [2,3,4] _ _ (by decide) ⟨rfl,rfl,rfl,trivial⟩ ⟨oe rfl rfl,oe rfl rfl,oe rfl rfl,rfl⟩⟩
   refine cC (key:=4) 5 rfl rfl aD rfl ⟨rfl,rfl,rfl,trivial⟩ ?_;refine aO 1 rfl (bC ha) bB ⟨aA rfl,rfl⟩ (kF (k)) ?_;refine aO 3 rfl (bC hb) bB ⟨aA rfl,rfl⟩ (kF (k')) ?_
   refine bQ 6 (by kernel_rfl) rfl rfl aD rfl rfl rfl rfl ⟨rfl,rfl,rfl,trivial⟩ ?_
   refine dst 7 ?_;refine bU ?_;exact⟨(),trivial,bZ h0 [2,3,4] _ _ (by decide) ⟨rfl,rfl,rfl,trivial⟩ ⟨oe rfl rfl,oe rfl rfl,oe rfl rfl,rfl⟩⟩
  refine cC (key:=3) 5 rfl rfl aD rfl ⟨rfl,rfl,rfl,trivial⟩ ?_;refine WO.two (i:=1) (j:=4) (by kernel_rfl) ?_ ?_
  ·refine eY 1 rfl (bC ha) bB ⟨aA rfl,rfl⟩ (kF (k)) ?_;refine WO.two (i:=3) (j:=4) (by kernel_rfl) ?_ ?_
   ·refine eY 3 rfl (bC hb) bB ⟨aA rfl,rfl⟩ (kF (k')) ?_;refine eW (key:=4) 4 (by kernel_rfl) rfl rfl aD rfl ⟨rfl,rfl,rfl,trivial⟩ ?_
    refine bQ 6 (by kernel_rfl) rfl rfl aD rfl rfl rfl rfl ⟨rfl,rfl,rfl,trivial⟩ ?_
    refine dst 7 ?_;refine bU ?_;exact⟨(),trivial,bZ h0 [2,4,3] _ _ (by decide) ⟨rfl,rfl,rfl,trivial⟩ ⟨oe rfl rfl,oe rfl rfl,oe rfl rfl,rfl⟩⟩
   refine cC (key:=4) 4 rfl rfl aD rfl ⟨rfl,rfl,rfl,trivial⟩ ?_;refine aO 3 rfl (bC hb) bB ⟨aA rfl,rfl⟩ (kF (k')) ?_
   refine bQ 6 (by kernel_rfl) rfl rfl aD rfl rfl rfl rfl ⟨rfl,rfl,rfl,trivial⟩ ?_
   refine dst 7 ?_;refine bU ?_;exact⟨(),trivial,bZ h0 [2,4,3] _ _ (by decide) ⟨rfl,rfl,rfl,trivial⟩ ⟨oe rfl rfl,oe rfl rfl,oe rfl rfl,rfl⟩⟩
  refine cC (key:=4) 4 rfl rfl aD rfl ⟨rfl,rfl,rfl,trivial⟩ ?_;refine aO 1 rfl (bC ha) bB ⟨aA rfl,rfl⟩ (kF (k)) ?_;refine aO 3 rfl (bC hb) bB ⟨aA rfl,rfl⟩ (kF (k')) ?_
  refine bQ 6 (by kernel_rfl) rfl rfl aD rfl rfl rfl rfl ⟨rfl,rfl,rfl,trivial⟩ ?_
  refine dst 7 ?_;refine bU ?_;exact⟨(),trivial,bZ h0 [2,4,3] _ _ (by decide) ⟨rfl,rfl,rfl,trivial⟩ ⟨oe rfl rfl,oe rfl rfl,oe rfl rfl,rfl⟩⟩
 refine sq ?_;refine rd [0,1,2] (fun i=>[15].contains i) mixed ?_
 refine dv 0 ?_;refine dv 1 ?_;refine aP 2 ?_;refine dv 3 ?_;refine dv 4 ?_;refine aP 5 ?_;refine dv 6 ?_;refine dv 7 ?_;refine dv 8 ?_;refine aP 9 ?_;refine dv 10 ?_;refine dv 11 ?_
 refine aP 12 ?_
 have hA:aI true Tryz.prog 44 [] [.one (.t (sU false (dg 4294967296 k.natAbs))),.one (.t (sU false (dg 4294967296 k'.natAbs)))] (aX (.one (.t (sU true (dg 4294967296 (k.natAbs*k'.natAbs)))))):=by have h9:=Pv (aW (by omega) k.natAbs) (aW (by omega) k'.natAbs) (by omega) (by omega);rwa[aY,aY]at h9
 refine Cc 3 13 rfl hA Ru ⟨a1 rfl,a1 rfl,rfl⟩ ?_
 refine qM 14 4 [3] rfl (dA (b:=(aT k != aT k')) (m:=(k.natAbs*k'.natAbs)) (K:=k*k') (In k k')) gM ⟨dS rfl,rfl⟩ ⟨rfl,rfl,rfl⟩ ⟨rfl,rfl,rfl,trivial⟩ ?_
 refine dst 15 ?_;refine bU ?_;refine rt ?_
 exact en (.inl rfl) rfl (dF (.agg (.cons (.id rfl) (.cons (.sl (trs:=aZ (dg 4294967296 ((k*k')).natAbs)) rfl rfl (cM _) (bV _)) .nil)))) (by decide) (fun _=>cU ((k*k'))) rfl
theorem tP {a b:Zi}{k k':Int}(ha:Zg a k) (hb:Zg b k'):aI true Tryz.prog 41 [] [gF a,gF b] (aX (kO (((Int.gcd k k'):Nat):Int))):=by
 refine dV Tryz.func41 rfl Tryz.ntmps41 rfl aD rfl fun N w c0 h0=>?_
 have hkl:=ha.len
 have hkl':=hb.len
 refine sq ?_;refine rl ?_;refine bx 0 ?_;refine bx 1 ?_;refine al 2 ?_;refine nl ?_;refine sq ?_;refine rd [0,1,2] (fun i=>[11].contains i) mixed ?_
 refine aP 0 ?_;refine aP 4 ?_;refine aO 1 rfl (bC ha) bB ⟨aA rfl,rfl⟩ (kF (k)) ?_;refine df 2 ?_;refine df 3 ?_;refine aO 5 rfl (bC hb) bB ⟨aA rfl,rfl⟩ (kF (k')) ?_
 refine df 6 ?_;refine df 7 ?_;refine Ra (key:=3) 8 (by kernel_rfl) rfl rfl aD rfl ⟨rfl,rfl,rfl,trivial⟩ ?_
 refine Ta (i:=13) (k:=3) (t:=23) (t':=23) (z:=1) (n:=2) (l:=[sU false (dg 4294967296 k.natAbs),sU false (dg 4294967296 k'.natAbs)]) rfl rfl rfl rfl (.one .sl) (by rfl) (by rfl) ?_
 have hA:aI true Tryz.prog 46 [] [.one (.t (.s false 23 1 2 [sU false (dg 4294967296 k.natAbs),sU false (dg 4294967296 k'.natAbs)]))] (aX (.one (.t (sU true (dg 4294967296 (Int.gcd k k')))))):=by
  have h9:=Pw (t:=23) (aW (by omega) k.natAbs) (aW (by omega) k'.natAbs) (by omega) (by omega)
  rwa[show kA [dg 4294967296 k.natAbs,dg 4294967296 k'.natAbs]=(Int.gcd k k') by simp only[kA,List.foldl_cons,List.foldl_nil,aY,Nat.gcd_zero_left];rfl]at h9
 refine Cc 4 9 rfl hA Rw ⟨a1 rfl,rfl⟩ ?_
 refine qM 10 5 [4] rfl (dA (b:=false) (m:=(Int.gcd k k')) (K:=(((Int.gcd k k'):Nat):Int)) (by simp[cG])) gM ⟨dS rfl,rfl⟩ ⟨rfl,rfl,rfl⟩ ⟨rfl,rfl,rfl,trivial⟩ ?_
 refine dst 11 ?_;refine bU ?_;refine rt ?_
 exact en (.inl rfl) rfl (dF (.agg (.cons (.id rfl) (.cons (.sl (trs:=aZ (dg 4294967296 ((((Int.gcd k k'):Nat):Int)).natAbs)) rfl rfl (cM _) (bV _)) .nil)))) (by decide) (fun _=>cU ((((Int.gcd k k'):Nat):Int))) rfl
theorem lT (xs:List Nat):((aZ xs).map AV.t).take (aZ xs).length=(aZ xs).map .t:=List.take_of_length_le (by simp)
theorem vY {a b:Zi}{k k':Int}(ha:Zg a k) (hb:Zg b k') (hz0:k'≠0):aI true Tryz.prog 33 [] [gF a,gF b] (aX (.tup [kO (k.fdiv k'),kO (k.fmod k'),.one (tv (.int .i64 0))])):=by
 refine dV Tryz.func33 rfl Tryz.ntmps33 rfl aD rfl fun N w c0 h0=>?_
 have hkl:=ha.len
 have hkl':=hb.len
 have hq:(dg 4294967296 (k.natAbs/k'.natAbs)).length≤300000000000:=Nat.le_trans (kP (Nat.div_le_self _ _)) hkl
 have hr0:=Nat.mod_lt k.natAbs (show 0<k'.natAbs by omega)
 have hrl:(dg 4294967296 (k.natAbs%k'.natAbs)).length≤300000000000:=Nat.le_trans (kP (Nat.le_of_lt hr0)) hkl'
 refine sq ?_;refine rl ?_;refine bx 0 ?_;refine bx 1 ?_;refine al 2 ?_;refine al 3 ?_;refine o1 ?_;refine nl ?_
 refine md (γ:=Unit) (fun _=>dU [(4,.one (.pt 0 0)),(5,.one (.pt 1 0)),(6,.one (tv (.int .i64 ((0:Nat):Int)))),(7,.one (.pt 2 0)),(8,.one (.pt 3 0))]) (fun _=>([⟨44,0,[tv (.bool false),tv (.slice none 0 0)]⟩,⟨44,0,[tv (.bool false),tv (.slice none 0 0)]⟩,⟨103,0,[tv (.bool (aT k)),.t (sU false (dg 4294967296 k.natAbs))]⟩,⟨103,0,[tv (.bool (aT k')),.t (sU false (dg 4294967296 k'.natAbs))]⟩]:List Ob).map some) (fun _=>True) ?_ fun _ _=>?_
 ·refine rd [0,1,2,3] (fun i=>[7].contains i) mixed ?_
  refine aP 0 ?_;refine aP 2 ?_;refine WO.three (i:=1) (j:=4) (m:=5) (by kernel_rfl) ?_ ?_ ?_
  ·refine eY 1 rfl (bC ha) bB ⟨aA rfl,rfl⟩ (kF (k)) ?_;refine WO.three (i:=3) (j:=4) (m:=5) (by kernel_rfl) ?_ ?_ ?_
   ·refine eY 3 rfl (bC hb) bB ⟨aA rfl,rfl⟩ (kF (k')) ?_;refine WO.two (i:=4) (j:=5) (by kernel_rfl) ?_ ?_
    ·refine cC (key:=4) 4 rfl rfl aD rfl ⟨rfl,rfl,rfl,rfl,trivial⟩ ?_;refine eW (key:=5) 5 (by kernel_rfl) rfl rfl aD rfl ⟨rfl,rfl,rfl,rfl,trivial⟩ ?_
     refine bQ 6 (by kernel_rfl) rfl rfl aD rfl rfl rfl rfl ⟨rfl,rfl,rfl,rfl,trivial⟩ ?_
     refine dst 7 ?_;refine bU ?_;exact⟨(),trivial,bZ h0 [2,3,4,5] _ _ (by decide) ⟨rfl,rfl,rfl,rfl,rfl,trivial⟩ ⟨oe rfl rfl,oe rfl rfl,oe rfl rfl,oe rfl rfl,rfl⟩⟩
    refine cC (key:=4) 5 rfl rfl aD rfl ⟨rfl,rfl,rfl,rfl,trivial⟩ ?_;refine eW (key:=5) 4 (by kernel_rfl) rfl rfl aD rfl ⟨rfl,rfl,rfl,rfl,trivial⟩ ?_
    refine bQ 6 (by kernel_rfl) rfl rfl aD rfl rfl rfl rfl ⟨rfl,rfl,rfl,rfl,trivial⟩ ?_
    refine dst 7 ?_;refine bU ?_;exact⟨(),trivial,bZ h0 [2,3,5,4] _ _ (by decide) ⟨rfl,rfl,rfl,rfl,rfl,trivial⟩ ⟨oe rfl rfl,oe rfl rfl,oe rfl rfl,oe rfl rfl,rfl⟩⟩
   ·refine cC (key:=4) 4 rfl rfl aD rfl ⟨rfl,rfl,rfl,rfl,trivial⟩ ?_;refine WO.two (i:=3) (j:=5) (by kernel_rfl) ?_ ?_
    ·refine eY 3 rfl (bC hb) bB ⟨aA rfl,rfl⟩ (kF (k')) ?_;refine eW (key:=5) 5 (by kernel_rfl) rfl rfl aD rfl ⟨rfl,rfl,rfl,rfl,trivial⟩ ?_
     refine bQ 6 (by kernel_rfl) rfl rfl aD rfl rfl rfl rfl ⟨rfl,rfl,rfl,rfl,trivial⟩ ?_
     refine dst 7 ?_;refine bU ?_;exact⟨(),trivial,bZ h0 [2,3,4,5] _ _ (by decide) ⟨rfl,rfl,rfl,rfl,rfl,trivial⟩ ⟨oe rfl rfl,oe rfl rfl,oe rfl rfl,oe rfl rfl,rfl⟩⟩
    refine cC (key:=5) 5 rfl rfl aD rfl ⟨rfl,rfl,rfl,rfl,trivial⟩ ?_;refine aO 3 rfl (bC hb) bB ⟨aA rfl,rfl⟩ (kF (k')) ?_
    refine bQ 6 (by kernel_rfl) rfl rfl aD rfl rfl rfl rfl ⟨rfl,rfl,rfl,rfl,trivial⟩ ?_
    refine dst 7 ?_;refine bU ?_;exact⟨(),trivial,bZ h0 [2,3,4,5] _ _ (by decide) ⟨rfl,rfl,rfl,rfl,rfl,trivial⟩ ⟨oe rfl rfl,oe rfl rfl,oe rfl rfl,oe rfl rfl,rfl⟩⟩
   refine cC (key:=4) 5 rfl rfl aD rfl ⟨rfl,rfl,rfl,rfl,trivial⟩ ?_;refine WO.two (i:=3) (j:=4) (by kernel_rfl) ?_ ?_
   ·refine eY 3 rfl (bC hb) bB ⟨aA rfl,rfl⟩ (kF (k')) ?_;refine eW (key:=5) 4 (by kernel_rfl) rfl rfl aD rfl ⟨rfl,rfl,rfl,rfl,trivial⟩ ?_
    refine bQ 6 (by kernel_rfl) rfl rfl aD rfl rfl rfl rfl ⟨rfl,rfl,rfl,rfl,trivial⟩ ?_
    refine dst 7 ?_;refine bU ?_;exact⟨(),trivial,bZ h0 [2,3,5,4] _ _ (by decide) ⟨rfl,rfl,rfl,rfl,rfl,trivial⟩ ⟨oe rfl rfl,oe rfl rfl,oe rfl rfl,oe rfl rfl,rfl⟩⟩
   refine cC (key:=5) 4 rfl rfl aD rfl ⟨rfl,rfl,rfl,rfl,trivial⟩ ?_;refine aO 3 rfl (bC hb) bB ⟨aA rfl,rfl⟩ (kF (k')) ?_
   refine bQ 6 (by kernel_rfl) rfl rfl aD rfl rfl rfl rfl ⟨rfl,rfl,rfl,rfl,trivial⟩ ?_
   refine dst 7 ?_;refine bU ?_;exact⟨(),trivial,bZ h0 [2,3,5,4] _ _ (by decide) ⟨rfl,rfl,rfl,rfl,rfl,trivial⟩ ⟨oe rfl rfl,oe rfl rfl,oe rfl rfl,oe rfl rfl,rfl⟩⟩
  ·refine cC (key:=4) 4 rfl rfl aD rfl ⟨rfl,rfl,rfl,rfl,trivial⟩ ?_;refine WO.two (i:=1) (j:=5) (by kernel_rfl) ?_ ?_
   ·refine eY 1 rfl (bC ha) bB ⟨aA rfl,rfl⟩ (kF (k)) ?_;refine WO.two (i:=3) (j:=5) (by kernel_rfl) ?_ ?_
    ·refine eY 3 rfl (bC hb) bB ⟨aA rfl,rfl⟩ (kF (k')) ?_;refine eW (key:=5) 5 (by kernel_rfl) rfl rfl aD rfl ⟨rfl,rfl,rfl,rfl,trivial⟩ ?_
     refine bQ 6 (by kernel_rfl) rfl rfl aD rfl rfl rfl rfl ⟨rfl,rfl,rfl,rfl,trivial⟩ ?_
     refine dst 7 ?_;refine bU ?_;exact⟨(),trivial,bZ h0 [2,3,4,5] _ _ (by decide) ⟨rfl,rfl,rfl,rfl,rfl,trivial⟩ ⟨oe rfl rfl,oe rfl rfl,oe rfl rfl,oe rfl rfl,rfl⟩⟩
    refine cC (key:=5) 5 rfl rfl aD rfl ⟨rfl,rfl,rfl,rfl,trivial⟩ ?_;refine aO 3 rfl (bC hb) bB ⟨aA rfl,rfl⟩ (kF (k')) ?_
    refine bQ 6 (by kernel_rfl) rfl rfl aD rfl rfl rfl rfl ⟨rfl,rfl,rfl,rfl,trivial⟩ ?_
    refine dst 7 ?_;refine bU ?_;exact⟨(),trivial,bZ h0 [2,3,4,5] _ _ (by decide) ⟨rfl,rfl,rfl,rfl,rfl,trivial⟩ ⟨oe rfl rfl,oe rfl rfl,oe rfl rfl,oe rfl rfl,rfl⟩⟩
   refine cC (key:=5) 5 rfl rfl aD rfl ⟨rfl,rfl,rfl,rfl,trivial⟩ ?_;refine aO 1 rfl (bC ha) bB ⟨aA rfl,rfl⟩ (kF (k)) ?_
   refine aO 3 rfl (bC hb) bB ⟨aA rfl,rfl⟩ (kF (k')) ?_;refine bQ 6 (by kernel_rfl) rfl rfl aD rfl rfl rfl rfl ⟨rfl,rfl,rfl,rfl,trivial⟩ ?_
   refine dst 7 ?_;refine bU ?_;exact⟨(),trivial,bZ h0 [2,3,4,5] _ _ (by decide) ⟨rfl,rfl,rfl,rfl,rfl,trivial⟩ ⟨oe rfl rfl,oe rfl rfl,oe rfl rfl,oe rfl rfl,rfl⟩⟩
  refine cC (key:=4) 5 rfl rfl aD rfl ⟨rfl,rfl,rfl,rfl,trivial⟩ ?_;refine WO.two (i:=1) (j:=4) (by kernel_rfl) ?_ ?_
  ·refine eY 1 rfl (bC ha) bB ⟨aA rfl,rfl⟩ (kF (k)) ?_;refine WO.two (i:=3) (j:=4) (by kernel_rfl) ?_ ?_
   ·refine eY 3 rfl (bC hb) bB ⟨aA rfl,rfl⟩ (kF (k')) ?_;refine eW (key:=5) 4 (by kernel_rfl) rfl rfl aD rfl ⟨rfl,rfl,rfl,rfl,trivial⟩ ?_
    refine bQ 6 (by kernel_rfl) rfl rfl aD rfl rfl rfl rfl ⟨rfl,rfl,rfl,rfl,trivial⟩ ?_
    refine dst 7 ?_;refine bU ?_;exact⟨(),trivial,bZ h0 [2,3,5,4] _ _ (by decide) ⟨rfl,rfl,rfl,rfl,rfl,trivial⟩ ⟨oe rfl rfl,oe rfl rfl,oe rfl rfl,oe rfl rfl,rfl⟩⟩
   refine cC (key:=5) 4 rfl rfl aD rfl ⟨rfl,rfl,rfl,rfl,trivial⟩ ?_;refine aO 3 rfl (bC hb) bB ⟨aA rfl,rfl⟩ (kF (k')) ?_
   refine bQ 6 (by kernel_rfl) rfl rfl aD rfl rfl rfl rfl ⟨rfl,rfl,rfl,rfl,trivial⟩ ?_
   refine dst 7 ?_;refine bU ?_;exact⟨(),trivial,bZ h0 [2,3,5,4] _ _ (by decide) ⟨rfl,rfl,rfl,rfl,rfl,trivial⟩ ⟨oe rfl rfl,oe rfl rfl,oe rfl rfl,oe rfl rfl,rfl⟩⟩
  refine cC (key:=5) 4 rfl rfl aD rfl ⟨rfl,rfl,rfl,rfl,trivial⟩ ?_;refine aO 1 rfl (bC ha) bB ⟨aA rfl,rfl⟩ (kF (k)) ?_
  refine aO 3 rfl (bC hb) bB ⟨aA rfl,rfl⟩ (kF (k')) ?_;refine bQ 6 (by kernel_rfl) rfl rfl aD rfl rfl rfl rfl ⟨rfl,rfl,rfl,rfl,trivial⟩ ?_
  refine dst 7 ?_;refine bU ?_;exact⟨(),trivial,bZ h0 [2,3,5,4] _ _ (by decide) ⟨rfl,rfl,rfl,rfl,rfl,trivial⟩ ⟨oe rfl rfl,oe rfl rfl,oe rfl rfl,oe rfl rfl,rfl⟩⟩
 refine sq ?_;refine rl ?_;refine o1 ?_;refine o1 ?_;refine ld ?_;refine o1 ?_;refine o1 ?_;refine ld ?_
 have hD:aI true Tryz.prog 45 [] [.one (.t (sU false (dg 4294967296 k.natAbs))),.one (.t (sU false (dg 4294967296 k'.natAbs)))] (aX (.tup [.one (.t (sU true (dg 4294967296 (k.natAbs/k'.natAbs)))),.one (.t (sU true (dg 4294967296 (k.natAbs%k'.natAbs)))),.one (tv (.int .i64 0))])):=by
  have h9:=Fu (aW (by omega) k.natAbs) (aW (by omega) k'.natAbs) (by omega) (by omega) (by rw[aY];omega)
  rwa[aY,aY]at h9
 refine nY 4 hD Lu ⟨a1 rfl,a1 rfl,rfl⟩ ?_;(iterate 7 refine o1 ?_);refine nl ?_;refine sq ?_;refine sq ?_;refine rl ?_;refine o1 ?_;refine o1 ?_;refine nl ?_
 refine eL rfl (fun h1=>?_) (fun h1=>?_)
 ·exact absurd rfl h1
 refine sk ?_;refine sq ?_;refine sq ?_;refine rl ?_;refine o1 ?_;refine o1 ?_;refine ld ?_;refine o1 ?_;refine o1 ?_;refine ld ?_;refine o1 ?_;refine o1 ?_
 refine WL.splitb (t:=37) rfl (fun h2=>?_) (fun h2=>?_)
 ·(iterate 4 refine o1 ?_);refine nl ?_;refine eL rfl (fun h3=>?_) (fun h3=>?_)
  ·refine sq ?_;refine rl ?_;refine o1 ?_;refine bs 6 ?_
   have hA:aI true Tryz.prog 50 [] [.one (.t (sU false (dg 4294967296 (k.natAbs/k'.natAbs)))),.one (.t (sU false [1]))] (aX (.one (.t (sU true (dg 4294967296 ((k.natAbs/k'.natAbs)+1)))))):=by
    have h9:=At (aW (by omega) (k.natAbs/k'.natAbs)) (Lim.cons (show 1<4294967296 by omega) Lim.nil) (by omega) (by simp)
    rwa[cA (by omega),show vl 4294967296 [1]=1 from rfl]at h9
   refine nY 7 hA rX ⟨nA rfl (.sl rfl rfl (lT _) (bV _)),nA rfl (.sl (trs:=aZ [1]) rfl rfl rfl rfl),rfl⟩ ?_;refine o1 ?_;refine nl ?_;refine rl ?_;refine o1 ?_;refine o1 ?_
   refine ld ?_;refine o1 ?_
   have hS:aI true Tryz.prog 77 [] [.one (.t (sU false (dg 4294967296 k'.natAbs))),.one (.t (sU false (dg 4294967296 (k.natAbs%k'.natAbs))))] (aX (.tup [.one (.t (sU true (dg 4294967296 (k'.natAbs-(k.natAbs%k'.natAbs))))),.one (tv (.int .i64 0))])):=by
    have h9:=Au (aW (by omega) k'.natAbs) (aW (by omega) (k.natAbs%k'.natAbs)) (by omega) (by rw[aY,cA (by omega)];omega)
    rwa[aY,cA (by omega)]at h9
   refine nY 8 hS Fe ⟨a1 rfl,nA rfl (.sl rfl rfl (lT _) (bV _)),rfl⟩ ?_;(iterate 4 refine o1 ?_);refine nl ?_;refine sq ?_
   have hd:k.fdiv k'=cG (aT k != aT k') ((k.natAbs/k'.natAbs)+1)∧k.fmod k'=cG (aT k') (k'.natAbs-(k.natAbs%k'.natAbs)):=by
    have h9:aT k≠aT k':=by simpa using h2
    have h7:k.natAbs%k'.natAbs≠0:=by have h5:=gA (m:=(k.natAbs%k'.natAbs)) rfl;rw[decide_eq_true (by omega)]at h5;have h6:=of_decide_eq_true h5.symm;omega
    have h8:=Iq (a:=k) (b:=k') hz0 h9 h7
    rw[h2];exact h8
   refine rd [1,2,3,6] (fun i=>[15,16].contains i) mixed ?_
   refine dv 0 ?_;refine dv 1 ?_;refine aP 2 ?_;refine dv 3 ?_;refine dv 4 ?_;refine aP 5 ?_;refine dv 6 ?_;refine dv 7 ?_;refine dv 9 ?_;refine dv 10 ?_;refine aP 11 ?_
   refine dv 12 ?_
   refine qM 8 9 [7] rfl (dA (b:=(aT k != aT k')) (m:=((k.natAbs/k'.natAbs)+1)) (K:=(k.fdiv k')) hd.1.symm) gM ⟨dS rfl,rfl⟩ ⟨rfl,rfl,rfl⟩ ⟨rfl,rfl,rfl,rfl,trivial⟩ ?_
   refine qM 13 10 [8] rfl (dA (b:=(aT k')) (m:=(k'.natAbs-(k.natAbs%k'.natAbs))) (K:=(k.fmod k')) hd.2.symm) gM ⟨dS rfl,rfl⟩ ⟨rfl,rfl,rfl⟩ ⟨rfl,rfl,rfl,rfl,trivial⟩ ?_
   refine bQ 14 (by kernel_rfl) rfl rfl aD rfl rfl rfl rfl ⟨rfl,rfl,rfl,rfl,trivial⟩ ?_
   refine dst 15 ?_;refine Cb 16 (by kernel_rfl) rfl rfl aD rfl (by trivial) ?_ (fun h=>by first | rfl | cases h)
   refine bU ?_;refine rt ?_
   exact en (.inl rfl) rfl (zQ (.cons (.agg (.cons (.id rfl) (.cons (.sl (trs:=aZ (dg 4294967296 ((k.fdiv k')).natAbs)) rfl rfl (cM _) (bV _)) .nil))) (.cons (.agg (.cons (.id rfl) (.cons (.sl (trs:=aZ (dg 4294967296 ((k.fmod k')).natAbs)) rfl rfl (cM _) (bV _)) .nil))) (.cons (cF (.int .i64 0)) .nil)))) (by decide) (fun _=>⟨cU (k.fdiv k'),cU (k.fmod k'),trivial,trivial⟩) rfl
  refine sk ?_;refine sq ?_;have hd:k.fdiv k'=cG (aT k != aT k') (k.natAbs/k'.natAbs)∧k.fmod k'=cG (aT k') (k.natAbs%k'.natAbs):=by
   have h9:aT k≠aT k':=by simpa using h2
   have h7:k.natAbs%k'.natAbs=0:=by have h5:=gA (m:=(k.natAbs%k'.natAbs)) rfl;rw[decide_eq_false (by omega)]at h5;have h6:=of_decide_eq_false h5.symm;omega
   have h8:=Ip (a:=k) (b:=k') hz0 h9 h7
   rw[h2];exact h8
  refine rd [1,2,3] (fun i=>[15,16].contains i) mixed ?_
  refine dv 0 ?_;refine dv 1 ?_;refine aP 2 ?_;refine dv 3 ?_;refine dv 4 ?_;refine aP 5 ?_;refine dv 6 ?_;refine dv 7 ?_;refine dv 9 ?_;refine dv 10 ?_;refine aP 11 ?_
  refine dv 12 ?_
  refine qM 8 6 [4] rfl (dA (b:=(aT k != aT k')) (m:=(k.natAbs/k'.natAbs)) (K:=(k.fdiv k')) hd.1.symm) gM ⟨dS rfl,rfl⟩ ⟨rfl,rfl,rfl⟩ ⟨rfl,rfl,rfl,trivial⟩ ?_
  refine qM 13 7 [5] rfl (dA (b:=(aT k')) (m:=(k.natAbs%k'.natAbs)) (K:=(k.fmod k')) hd.2.symm) gM ⟨dS rfl,rfl⟩ ⟨rfl,rfl,rfl⟩ ⟨rfl,rfl,rfl,trivial⟩ ?_
  refine bQ 14 (by kernel_rfl) rfl rfl aD rfl rfl rfl rfl ⟨rfl,rfl,rfl,trivial⟩ ?_
  refine dst 15 ?_;refine Cb 16 (by kernel_rfl) rfl rfl aD rfl (by trivial) ?_ (fun h=>by first | rfl | cases h)
  refine bU ?_;refine rt ?_
  exact en (.inl rfl) rfl (zQ (.cons (.agg (.cons (.id rfl) (.cons (.sl (trs:=aZ (dg 4294967296 ((k.fdiv k')).natAbs)) rfl rfl (cM _) (bV _)) .nil))) (.cons (.agg (.cons (.id rfl) (.cons (.sl (trs:=aZ (dg 4294967296 ((k.fmod k')).natAbs)) rfl rfl (cM _) (bV _)) .nil))) (.cons (cF (.int .i64 0)) .nil)))) (by decide) (fun _=>⟨cU (k.fdiv k'),cU (k.fmod k'),trivial,trivial⟩) rfl
 (iterate 3 refine dY ?_);refine o1 ?_;refine nl ?_;refine gY rfl ?_;refine sk ?_;refine sq ?_
 have hd:k.fdiv k'=cG (aT k != aT k') (k.natAbs/k'.natAbs)∧k.fmod k'=cG (aT k') (k.natAbs%k'.natAbs):=by
  have h9:aT k=aT k':=by simpa using h2
  have h8:=Io (a:=k) (b:=k') hz0 h9
  rw[h2];exact h8
 refine rd [1,2,3] (fun i=>[15,16].contains i) mixed ?_
 refine dv 0 ?_;refine dv 1 ?_;refine aP 2 ?_;refine dv 3 ?_;refine dv 4 ?_;refine aP 5 ?_;refine dv 6 ?_;refine dv 7 ?_;refine dv 9 ?_;refine dv 10 ?_;refine aP 11 ?_
 refine dv 12 ?_
 refine qM 8 6 [4] rfl (dA (b:=(aT k != aT k')) (m:=(k.natAbs/k'.natAbs)) (K:=(k.fdiv k')) hd.1.symm) gM ⟨dS rfl,rfl⟩ ⟨rfl,rfl,rfl⟩ ⟨rfl,rfl,rfl,trivial⟩ ?_
 refine qM 13 7 [5] rfl (dA (b:=(aT k')) (m:=(k.natAbs%k'.natAbs)) (K:=(k.fmod k')) hd.2.symm) gM ⟨dS rfl,rfl⟩ ⟨rfl,rfl,rfl⟩ ⟨rfl,rfl,rfl,trivial⟩ ?_
 refine bQ 14 (by kernel_rfl) rfl rfl aD rfl rfl rfl rfl ⟨rfl,rfl,rfl,trivial⟩ ?_
 refine dst 15 ?_;refine Cb 16 (by kernel_rfl) rfl rfl aD rfl (by trivial) ?_ (fun h=>by first | rfl | cases h)
 refine bU ?_;refine rt ?_
 exact en (.inl rfl) rfl (zQ (.cons (.agg (.cons (.id rfl) (.cons (.sl (trs:=aZ (dg 4294967296 ((k.fdiv k')).natAbs)) rfl rfl (cM _) (bV _)) .nil))) (.cons (.agg (.cons (.id rfl) (.cons (.sl (trs:=aZ (dg 4294967296 ((k.fmod k')).natAbs)) rfl rfl (cM _) (bV _)) .nil))) (.cons (cF (.int .i64 0)) .nil)))) (by decide) (fun _=>⟨cU (k.fdiv k'),cU (k.fmod k'),trivial,trivial⟩) rfl
section
variable {α:Type}{f:α→List Tr}{z:Nat}{xs:List α}{k o:Nat}{x x' y:α}{us:List Tr}
end
def Ql (o:Bool) (a:Zi):List Tr:=[.v (.bool a.s),sU o a.x]
def gO (a:Zi):FV:=.agg ((Ql true a).map .t)
def zv (a:Zi):Int:=gS a.s a.x
def ZL (L:Nat) (a:Zi):Prop:=Lim 4294967296 a.x∧a.x.length≤L
theorem ZL.n {L:Nat}{a:Zi}(h:ZL L a) (hL:L≤137438953472):Zn a (zv a):=⟨h.1,Nat.le_trans h.2 hL,rfl⟩
theorem vZ {α:Type}{l:List α}{k:Nat}(h:l.length≤k):l.take k=l:=List.take_of_length_le h
def gU (a b:Zi):Bool:=(a.s==b.s)&&decide (a.x=b.x)
theorem Az (a:Zi):gU a a=true:=by simp[gU]
theorem Jc {a b:Zi}(h:(!(a.s==b.s))=true):false=gU a b:=by simp[gU,Gq h]
theorem Jd {a b:Zi}(h:¬a.x.length=b.x.length):false=gU a b:=by
 unfold gU
 rw[decide_eq_false fun e=>h (by rw[e]),Bool.and_false]
theorem Je {a b:Zi}{k:Nat}(h:¬nth a.x k=nth b.x k):false=gU a b:=by
 unfold gU
 rw[decide_eq_false fun e=>h (by rw[e]),Bool.and_false]
theorem Jf {a b:Zi}{k:Nat}(h:(!(a.s==b.s))=false) (hl:a.x.length=b.x.length) (hk:a.x.take k=b.x.take k) (hk2:a.x.length≤k):true=gU a b:=by
 rw[vZ hk2,vZ (by omega)]at hk
 simp[gU,yE h,hk]
def gC (k:Int):List Nat:=if k<0 then 45::tx k.natAbs else tx k.natAbs
theorem Jg (k:Int):Lim 256 (gC k):=by
 unfold gC
 split
 ·exact Lim.cons (by omega) (Cl _)
 exact Cl _
def nD (l:List Nat):Bool:=l.all fun c=>decide (48≤c∧c≤57)
theorem Jh {l:List Nat}(h:nD l=true):∀c∈l,48≤c∧c≤57:=by simpa[nD]using h
theorem Nm {l:List Nat}(h:∀c∈l,48≤c∧c≤57):nD l=true:=by simpa[nD]using h
theorem Dr:∀c<256,([48,49,50,51,52,53,54,55,56,57]:List UInt8).contains (UInt8.ofNat c)=decide (48≤c∧c≤57):=by decide+kernel
theorem yR {l:List Nat}(h:Lim 256 l):((⟨(Lib.trimS (aS l).data.toList [48,49,50,51,52,53,54,55,56,57]).toArray⟩:ByteArray).toList==(⟨#[]⟩:ByteArray).toList)=nD l:=by
 rw[ByteArray.toList_eq,ByteArray.toList_eq,Bool.eq_iff_iff,beq_iff_eq]
 show Lib.trimS _ _=[]↔_
 rw[Dn,iG]
 unfold nD
 rw[List.all_eq_true]
 refine⟨fun g c hc=>?_,fun g x hx=>?_⟩
 ·rw[←Dr c (h c hc)]
  exact g _ (List.mem_map.2 ⟨c,hc,rfl⟩)
 obtain⟨c,hc,rfl⟩:=List.mem_map.1 hx
 rw[Dr c (h c hc)]
 exact g c hc
def gV (l:List Nat):Bool:=decide (l=[])||(!decide (l=[48])&&decide (nth l 0=48))|| !nD l
def hG (l:List Nat):Int:=if gV l then 60 else if 4096<l.length then 3 else 0
def wA (l:List Nat):Nat:=if hG l=0 then bF l else 0
theorem Py {l:List Nat}(h:decide (l=[])=true):gV l=true:=by simp[gV,h]
theorem Pz {l:List Nat}(h:decide (l=[48])=false) (h2:nth l 0=48):gV l=true:=by simp[gV,h,h2]
theorem Ba {l:List Nat}(h:nD l=false):gV l=true:=by simp[gV,h]
theorem wB {l:List Nat}(h0:decide (l=[])=false) (h:decide (l=[48])=true∨¬nth l 0=48) (h2:nD l=true):gV l=false:=by
 rcases h with h | h <;> simp[gV,h0,h,h2]
theorem tQ {l:List Nat}(h:gV l=true):hG l=60:=by simp[hG,h]
theorem Nn {l:List Nat}(h:gV l=false) (h2:4096<l.length):hG l=3:=by simp[hG,h,h2]
theorem Bb {l:List Nat}(h:gV l=false) (h2:¬4096<l.length):hG l=0:=by simp[hG,h,h2]
theorem rC {l:List Nat}(h:hG l=0):wA l=bF l:=if_pos h
theorem oS {l:List Nat}(h:¬hG l=0):wA l=0:=if_neg h
theorem Ds {l:List Nat}(h:gV l=false):∀c∈l,48≤c∧c≤57:=by
 refine Jh ?_
 cases hq:nD l with
 | true=>rfl
 | false=>rw[Ba hq]at h;cases h
theorem Fw (m:List Nat):∀n:Nat,m.foldl (fun n c=>n*10+(c-48)) n=n*10^m.length+bF m:=by
 induction m with
 | nil=>intro n;simp[bF]
 | cons c m ih=>
  intro n
  have e:bF (c::m)=(0*10+(c-48))*10^m.length+bF m:=ih _
  rw[List.foldl_cons,ih,e,List.length_cons,Nat.pow_succ,Nat.zero_mul,Nat.zero_add,Nat.add_mul,Nat.mul_assoc,Nat.mul_comm 10,Nat.add_assoc]
theorem yS (l m:List Nat):bF (l++m)=bF l*10^m.length+bF m:=by
 show(l++m).foldl _ 0=_
 rw[List.foldl_append,Fw]
 rfl
theorem kQ {l:List Nat}{j f:Nat}(h:j+f≤l.length) (hf:j=0∨f=9):bF (l.take j)*1000000000+bF ((l.drop j).take f)=bF (l.take (j+f)):=by
 rw[List.take_add,yS,List.length_take,List.length_drop,Nat.min_eq_left (by omega)]
 rcases hf with rfl | rfl
 ·simp[bF]
 rfl
theorem Ji {l:List Nat}(h:∀c∈l,48≤c∧c≤57){j:Nat}(hj:j≤l.length):bF (l.take j)<4294967296^j:=Nat.lt_of_lt_of_le (tN h hj) (Nat.pow_le_pow_left (by omega) j)
theorem oT {l:List Nat}(h:∀c∈l,48≤c∧c≤57){j:Nat}(hj:j≤l.length):(dg 4294967296 (bF (l.take j))).length≤j:=bG (by omega) (Ji h hj)
theorem mS {l:List Nat}(h:∀c∈l,48≤c∧c≤57) (j f:Nat):∀c∈(l.drop j).take f,48≤c∧c≤57:=fun c hc=>h c (List.mem_of_mem_drop (List.mem_of_mem_take hc))
theorem mT {l:List Nat}(h:∀c∈l,48≤c∧c≤57){j f:Nat}(hj:j+f≤l.length) (hf:f≤9):bF ((l.drop j).take f)<1000000000:=
 Nat.lt_of_lt_of_le (tN (l:=l.drop j) (k:=f) (fun c hc=>h c (List.mem_of_mem_drop hc)) (by rw[List.length_drop];omega)) (Nat.le_trans (Nat.pow_le_pow_right (by omega) hf) (by decide))
theorem Jj (ds:List Nat):bF (cH ds).reverse=vl 10 ds:=by
 induction ds with
 | nil=>rfl
 | cons d ds ih=>
  have e:(cH (d::ds)).reverse=(cH ds).reverse++[48+d]:=by simp[cH]
  rw[e,yS,ih]
  simp[bF,vl]
  omega
theorem No (v:Nat):bF (tx v)=v:=by
 unfold tx
 split
 ·rename_i h;subst h;rfl
 rw[Jj,cA (by omega)]
theorem Dt (v:Nat):∀c∈tx v,48≤c∧c≤57:=by
 unfold tx
 split
 ·intro c hc
  simp at hc
  omega
 intro c hc
 rw[List.mem_reverse]at hc
 obtain⟨d,hd,rfl⟩:=List.mem_map.1 hc
 have:=aW (B:=10) (by omega) v d hd
 omega
theorem Jk {v:Nat}(h:v≠0):nth (tx v) 0≠48:=by
 have e:=Ag (l:=dg 10 v) (v:=v) (aW (by omega) v) (cA (by omega) v)
 rw[if_neg h]at e
 have e2:tx v=(cH (dg 10 v)).reverse:=by unfold tx;rw[if_neg h]
 rw[←e2]at e
 have h2:=Ah v
 generalize tx v=L at e h2
 cases L with
 | nil=>exact absurd rfl h2
 | cons x l=>
  intro h3
  have h4:x=48:=h3
  subst h4
  have h5:=(List.dropWhile_sublist (· ==48) (l:=l)).length_le
  rw[List.dropWhile_cons,if_pos (by rfl)]at e
  rw[e,List.length_cons]at h5
  omega
theorem Jl (v:Nat):gV (tx v)=false:=by
 by_cases h:v=0
 ·subst h;rfl
 exact wB (decide_eq_false (Ah v)) (.inr (Jk h)) (Nm (Dt v))
def fO (l:List Nat):List Nat:=if l.take 1=[45]then l.drop 1 else l
def kR (l:List Nat):Int:=if hG (fO l)=0 then(if l.take 1=[45]∧bF (fO l)=0 then 2 else 0)else hG (fO l)
def jB (l:List Nat):Int:=if kR l=0 then(if l.take 1=[45]then-((bF (fO l):Nat):Int)else(bF (fO l):Nat))else 0
theorem Qa {k:Int}(h:(gC k).length≤4096):kR (gC k)=0∧jB (gC k)=k:=by
 have hd:=Dt k.natAbs
 have hg:=Jl k.natAbs
 have hv:=No k.natAbs
 unfold gC at h⊢
 by_cases h0:k<0
 ·rw[if_pos h0]at h⊢
  have e1:(45::tx k.natAbs).take 1=[45]:=rfl
  have e2:fO (45::tx k.natAbs)=tx k.natAbs:=rfl
  have e3:hG (tx k.natAbs)=0:=Bb hg (by simp at h;omega)
  have e4:kR (45::tx k.natAbs)=0:=by
   unfold kR
   rw[e2,if_pos e3,hv,if_neg (by omega)]
  refine⟨e4,?_⟩
  unfold jB
  rw[if_pos e4,if_pos e1,e2,hv]
  omega
 rw[if_neg h0]at h⊢
 have e1:¬(tx k.natAbs).take 1=[45]:=by
  intro e
  have:45∈tx k.natAbs:=List.mem_of_mem_take (i:=1) (by rw[e];simp)
  have:=hd 45 this
  omega
 have e2:fO (tx k.natAbs)=tx k.natAbs:=if_neg e1
 have e3:hG (tx k.natAbs)=0:=Bb hg (by omega)
 have e4:kR (tx k.natAbs)=0:=by
  unfold kR
  rw[e2,if_pos e3,if_neg (fun h=>e1 h.1)]
 refine⟨e4,?_⟩
 unfold jB
 rw[if_pos e4,if_neg e1,e2,hv]
 omega
theorem rD {u m:Nat}(h:(dg 4294967296 u).length≤1099511627776) (hm:m<4294967296):aI true Tryz.prog 51 [] [.one (.t (sU false (dg 4294967296 u))),.one (tv (.int .u32 (m:Int)))] (aX (.one (.t (sU true (dg 4294967296 (u*m)))))):=by
 have h1:=Aw (aW (by omega) u) h hm
 rwa[cA (by omega)]at h1
theorem rE {u x:Nat}(h:(dg 4294967296 u).length≤1099511627776) (hx:x<4294967296):aI true Tryz.prog 50 [] [.one (.t (sU false (dg 4294967296 u))),.one (.t (sU false [x]))] (aX (.one (.t (sU true (dg 4294967296 (u+x)))))):=by
 have h1:=At (aW (by omega) u) (Lim.cons hx Lim.nil) h (by simp)
 rw[cA (by omega)]at h1
 have e:vl 4294967296 [x]=x:=by simp[vl]
 rwa[e]at h1
theorem Sg:CallOk Tryz.prog 98:=.mk Tryz.func98 (by decide) rfl
theorem sG {l R:List Nat}{c:Nat}(hl:Lim 256 l) (hR:l.dropWhile (· ==c)=R):aI true Tryz.prog 98 [] [.one (tv (.string (aS l))),.one (tv (.int .u8 ((c:Nat):Int)))] (aX (.one (tv (.string (aS R))))):=by
 refine dV Tryz.func98 rfl Tryz.ntmps98 rfl aD rfl fun N9 w9 c0 h0=>?_
 refine sq ?_;refine rl ?_;refine o1 ?_;refine nl ?_;refine sq ?_;refine bl ?_
 refine lp (γ:=List Nat) (fun l=>dU [(0,.one (tv (.string (aS l)))),(1,.one (tv (.int .u8 ((c:Nat):Int))))]) (fun _=>([]:List Ob).map some) (fun l=>Lim 256 l∧l.dropWhile (· ==c)=R) (fun l=>l.length) l ⟨hl,hR⟩ (bZ h0 [] _ _ (by decide) ⟨rfl,rfl,trivial⟩ rfl) fun k hk=>?_
 refine sq ?_;refine sq ?_;refine rl ?_;refine o1 ?_;refine o1 ?_
 refine WL.cast (t:=6) (u':=.int .i64 ((k.length:Nat):Int)) rfl (congrArg (fun n:Nat=>Value.int .i64 (n:Int)) (bO _)) ?_
 refine o1 ?_;refine o1 ?_;refine WL.split (t:=8) rfl (fun h1=>?_) (fun h1=>?_)
 ·refine o1 ?_;refine o1 ?_ (hC:=(by rw[bO];show 0<k.length;omega))
  refine WL.cast (t:=10) (u':=.int .u8 (((nth k 0):Nat):Int)) rfl (congrArg (fun n:Nat=>Value.int .u8 (n:Int)) (oO (i:=0) (by omega) (yG (k:=0) hk.1 (by omega)))) ?_
  (iterate 3 refine o1 ?_);refine nl ?_;refine eL rfl (fun h2=>?_) (fun h2=>?_)
  ·refine sk ?_;refine bl ?_;refine rl ?_;refine o1 ?_;refine o1 ?_ (hC:=(by rw[bO];show 1≤k.length;omega))
   refine WL.cast (t:=15) (u':=.string (aS (k.drop 1))) rfl (congrArg Value.string (jK _ _)) ?_;refine o1 ?_;refine nl ?_
   exact⟨k.drop 1,by rw[List.length_drop];omega,⟨mP hk.1 1,(Ck (by omega) (by omega)).trans hk.2⟩,bZ h0 [] _ _ (by decide) ⟨rfl,rfl,trivial⟩ rfl⟩
  refine ex ?_;refine sq ?_;refine rl ?_;refine o1 ?_;refine o1 ?_;refine nl ?_;refine rt ?_
  exact en (.inl rfl) rfl (dF (cF _)) (by decide) (fun _=>trivial) (congrArg (fun z=>FV.one (tv (.string z))) (congrArg aS ((Af (by omega) (by omega)).trans hk.2)))
 (iterate 4 refine dY ?_);refine o1 ?_;refine nl ?_;refine gY rfl ?_;refine ex ?_;refine sq ?_;refine rl ?_;refine o1 ?_;refine o1 ?_;refine nl ?_;refine rt ?_
 exact en (.inl rfl) rfl (dF (cF _)) (by decide) (fun _=>trivial) (congrArg (fun z=>FV.one (tv (.string z))) (congrArg aS ((Ae (by omega)).trans hk.2)))
theorem Bc {l:List Nat}(hl:Lim 256 l):aI true Tryz.prog 59 [] [.one (tv (.string (aS l))),.one (tv (.string ⟨#[48]⟩))] (aX (.one (tv (.string (aS (l.dropWhile (· ==48))))))):=by
 refine dV Tryz.func59 rfl Tryz.ntmps59 rfl aD rfl fun N9 w9 c0 h0=>?_
 refine sq ?_;refine rl ?_;refine o1 ?_;refine nl ?_;refine sq ?_;refine sq ?_;refine rl ?_;refine o1 ?_;refine o1 ?_
 refine WL.cast (t:=8) (u':=.bool (decide (l=[]))) rfl (congrArg Value.bool (lN hl)) ?_;refine o1 ?_;refine WL.splitb (t:=9) rfl (fun h1=>?_) (fun h1=>?_)
 ·refine dY ?_;refine dY ?_;refine o1 ?_;refine nl ?_;refine lG rfl ?_;refine sq ?_;refine rl ?_;refine o1 ?_;refine o1 ?_;refine nl ?_;refine rt ?_
  exact en (.inl rfl) rfl (dF (cF _)) (by decide) (fun _=>trivial) (congrArg (fun z=>FV.one (tv (.string z))) (congrArg aS (by rw[of_decide_eq_true h1];rfl)))
 refine o1 ?_;refine o1 ?_;refine WL.cast (t:=11) (u':=.bool false) rfl (congrArg Value.bool (lN (l:=[48]) (Lim.cons (by omega) Lim.nil))) ?_
 refine o1 ?_;refine nl ?_;refine gY rfl ?_;refine sk ?_;refine sq ?_;refine sq ?_;refine rl ?_;(iterate 3 refine o1 ?_)
 refine WL.cast (t:=16) (u':=.bool true) rfl (congrArg Value.bool rfl) ?_;refine o1 ?_;refine o1 ?_;refine o1 ?_ (hC:=(by decide))
 refine o1 ?_;refine WL.cast (t:=20) (u':=.bool true) rfl (congrArg Value.bool rfl) ?_;refine o1 ?_;refine nl ?_;refine lG rfl ?_;refine sq ?_;refine rl ?_;refine o1 ?_;refine o1 ?_
 refine o1 ?_ (hC:=(by decide))
 refine WL.cast (t:=24) (u':=.int .u8 ((48:Nat):Int)) rfl rfl ?_
 refine ca (sG (c:=48) hl rfl) Sg ⟨a1 rfl,a1 rfl,rfl⟩ (.one (tv (.string (aS (l.dropWhile (· ==48)))))) ?_;refine o1 ?_;refine nl ?_;refine rt ?_
 exact en (.inl rfl) rfl (dF (cF _)) (by decide) (fun _=>trivial) (congrArg (fun z=>FV.one (tv (.string z))) (rfl))
theorem Du {t n:Nat}{xs:List Nat}(hn:xs.length=n) (hn2:n≤100000000):aI false Tryz.prog 58 [⟨t,1,(bX xs).map .t⟩] [.one (.sl 0 0 n)] (Rt [⟨t,1,(bX xs.reverse).map .t⟩] (.tup [])):=by
 subst hn;refine So Tryz.func58 rfl Tryz.ntmps58 rfl aD rfl fun N9 M9 w9 c0 h0=>?_
 refine sq ?_;refine rl ?_;(iterate 5 refine o1 ?_);refine nl ?_;refine bl ?_
 refine lp (γ:=Nat) (fun k=>dU [(0,.one (.sl 0 0 xs.length)),(2,.one (tv (.int .i64 ((k:Nat):Int)))),(3,.one (tv (.int .i64 ((xs.length:Int)-1-(k:Int):Int))))]) (fun k=>[(⟨t,1,(bX (dK xs k)).map .t⟩:Ob)].map some) (fun k=>2*k≤xs.length+1) (fun k=>xs.length-k) 0 (by omega) (Mg h0 [0] _ _ (by decide) rfl ⟨rfl,rfl,yF (by omega),trivial⟩ ⟨dS (congrArg (fun l=>some (⟨t,1,(bX l).map .t⟩:Ob)) (Pn xs)),rfl⟩) fun k hk=>?_
 have hrl:=fL xs k
 refine sq ?_;refine sq ?_;refine rl ?_;(iterate 3 refine o1 ?_);refine nl ?_;refine eL rfl (fun h1=>?_) (fun h1=>?_)
 ·refine sk ?_;refine sq ?_;refine bl ?_;refine rd [] (fun i=>[15].contains i) mixed ?_
  refine dv 0 ?_;refine dv 1 ?_;refine dv 2 ?_;refine dv 3 ?_;refine WD.cast (t:=17) (u':=.int .i64 (((xs.length-1-k):Nat):Int)) rfl (dN (by omega)) ?_
  refine dv 4 ?_;refine dv 5 ?_;refine WD.cast (t:=19) (u':=.int .i64 (((xs.length-1-k):Nat):Int)) rfl (dN (by omega)) ?_
  refine dv 6 ?_;refine dv 8 ?_;refine dv 9 ?_;refine dv 10 ?_;refine WO.two (i:=7) (j:=11) (by kernel_rfl) ?_ ?_
  ·refine Ac 7 (tM (dK xs k) (k:=(xs.length-1-k)) (by omega)) ?_
   refine WO.one (by kernel_rfl) (Ac 11 (tM (dK xs k) (k:=k) (by omega)) ?_)
   refine dv 12 ?_;refine Gn 13 (oB (dK xs k) (k:=k) (v:=nth (dK xs k) ((xs.length-1-k))) (by omega)) (qN (dK xs k) (by omega)) ?_
   refine dv 14 ?_
   refine Ma 15 (oB ((dK xs k).set (k) (nth (dK xs k) ((xs.length-1-k)))) (k:=(xs.length-1-k)) (v:=nth (dK xs k) (k)) (by simp only[List.length_set];omega)) (qN ((dK xs k).set (k) (nth (dK xs k) ((xs.length-1-k)))) (by simp only[List.length_set];omega)) ?_
   refine bU ?_;refine rl ?_;refine o1 ?_;refine o1 ?_;refine WL.cast (t:=11) (u':=.int .i64 ((k+1:Nat):Int)) rfl (dN (by omega)) ?_
   (iterate 4 refine o1 ?_);refine nl ?_
   exact⟨k+1,by omega,by omega,Mg h0 [0] _ _ (by decide) rfl ⟨rfl,rfl,yF (by omega),trivial⟩ ⟨dS (congrArg (fun l=>some (⟨t,1,(bX l).map .t⟩:Ob)) (Gr (by omega))),rfl⟩⟩
  refine Ac 11 (tM (dK xs k) (k:=k) (by omega)) ?_
  refine WO.one (by kernel_rfl) (Ac 7 (tM (dK xs k) (k:=(xs.length-1-k)) (by omega)) ?_)
  refine dv 12 ?_;refine Gn 13 (oB (dK xs k) (k:=k) (v:=nth (dK xs k) ((xs.length-1-k))) (by omega)) (qN (dK xs k) (by omega)) ?_
  refine dv 14 ?_
  refine Ma 15 (oB ((dK xs k).set (k) (nth (dK xs k) ((xs.length-1-k)))) (k:=(xs.length-1-k)) (v:=nth (dK xs k) (k)) (by simp only[List.length_set];omega)) (qN ((dK xs k).set (k) (nth (dK xs k) ((xs.length-1-k)))) (by simp only[List.length_set];omega)) ?_
  refine bU ?_;refine rl ?_;refine o1 ?_;refine o1 ?_;refine WL.cast (t:=11) (u':=.int .i64 ((k+1:Nat):Int)) rfl (dN (by omega)) ?_
  (iterate 4 refine o1 ?_);refine nl ?_
  exact⟨k+1,by omega,by omega,Mg h0 [0] _ _ (by decide) rfl ⟨rfl,rfl,yF (by omega),trivial⟩ ⟨dS (congrArg (fun l=>some (⟨t,1,(bX l).map .t⟩:Ob)) (Gr (by omega))),rfl⟩⟩
 refine ex ?_
 exact Sp (lent':=[⟨t,1,(bX xs.reverse).map .t⟩]) (.inr rfl) rfl Sq (by decide) (fun _ h=>by cases h) ⟨⟨rfl,rfl⟩,trivial⟩ ⟨congrArg (fun l=>some (⟨t,1,(bX l).map .t⟩:Ob)) (Ib (by omega)),trivial⟩ ⟨Ca _,trivial⟩ (fun h=>by cases h) ⟨rfl,rfl⟩
theorem Gw {xs:List Nat}{v:Nat}(hx:xs.length≤1000000) (hl:Lim 4294967296 xs) (hv0:vl 4294967296 xs=v):aI true Tryz.prog 14 [] [.one (.t (sU false xs))] (aX (.one (tv (.string (aS (tx v)))))):=by
 refine dV Tryz.func14 rfl Tryz.ntmps14 rfl aD rfl fun N9 w9 c0 h0=>?_
 have hvL:v<4294967296^xs.length:=hv0▸eE hl
 have hvl:=bG (k:=xs.length) (by omega) hvL
 refine sq ?_;refine rl ?_;refine o1 ?_;refine nl ?_;refine sq ?_;refine rl ?_;refine Tc 0 ?_;refine nl ?_;refine sq ?_;refine rl ?_;refine o1 ?_;refine nl ?_;refine sq ?_;refine sq ?_
 refine rl ?_;refine o1 ?_;refine ca (Jb hl (by omega) hv0) Rx ⟨a1 rfl,rfl⟩ (.one (.t (sU false (dg 4294967296 v)))) ?_
 refine o1 ?_;refine nl ?_;refine bl ?_
 refine lp (γ:=(List Nat×List Nat)×Nat) (fun s=>dU [(0,.one (.t (sU false (dg 4294967296 s.2)))),(3,.one (.pt 0 0)),(4,.one (.sl 1 0 s.1.1.length))]) (fun s=>[(⟨87,1,(bX s.1.2).map .t⟩:Ob),⟨5,1,(bX (cH s.1.1)).map .t⟩].map some) (fun s=>s.1.2.length=9∧Lim 10 s.1.1∧vl 10 s.1.1+10^s.1.1.length*s.2=v∧s.2≤v∧s.1.1.length≤10*xs.length+9) (fun s=>s.2) (([],List.replicate 9 0),v) ⟨rfl,Lim.nil,(by simp[vl]),Nat.le_refl _,Nat.zero_le _⟩ ((nr (i:=4) 1 5 1 rfl rfl rfl rfl).trans (bZ h0 [0,1] _ _ (by decide) ⟨rfl,rfl,rfl,trivial⟩ ⟨dS rfl,dS (l:=[]) rfl,rfl⟩)) ?_
 rintro⟨⟨ds,nZ⟩,u⟩ ⟨ho,hd,hv,hu,hdl⟩;dsimp only at ho hd hv hu hdl⊢;have hul:=kP hu
 refine sq ?_;refine sq ?_;refine rl ?_;(iterate 3 refine o1 ?_);refine nl ?_;refine eL rfl (fun h1=>?_) (fun h1=>?_)
 ·refine sk ?_;refine bl ?_;refine sq ?_;have hup:=Aj (B:=4294967296) (u:=u) (by omega)
  refine rl ?_;refine o1 ?_
  refine ca (Nl (u:=u) (d:=1000000000) (by omega) (by omega) (by omega)) Ry ⟨a1 rfl,a1 rfl,rfl⟩ (.tup [.one (.t (sU false (dg 4294967296 (u/1000000000)))),.one (tv (.int .u32 ((u%1000000000:Nat):Int))),.one (tv (.int .i64 0))]) ?_
  (iterate 7 refine o1 ?_);refine nl ?_;refine sq ?_;refine sq ?_;refine rl ?_;refine o1 ?_;refine nl ?_;refine bl ?_
  refine lp (γ:=Nat) (fun i=>dU [(3,.one (.pt 0 0)),(4,.one (.sl 1 0 ds.length)),(5,.one (.t (sU false (dg 4294967296 (u/1000000000))))),(6,.one (tv (.int .u32 ((u%1000000000/10^i:Nat):Int)))),(21,.one (tv (.int .i64 ((i:Nat):Int))))]) (fun i=>[(⟨87,1,(bX (cH (fd (i) (u%1000000000))++nZ.drop (i))).map .t⟩:Ob),⟨5,1,(bX (cH ds)).map .t⟩].map some) (fun i=>i≤9) (fun i=>9-i) 0 (Nat.zero_le _) (bZ h0 [0,1] _ _ (by decide) ⟨rfl,rfl,rfl,yF (by rw[Nat.pow_zero,Nat.div_one]),rfl,trivial⟩ ⟨dS rfl,dS rfl,rfl⟩) fun i hi=>?_
  have hlen:(cH (fd (i) (u%1000000000))++nZ.drop (i)).length=9:=by rw[List.length_append,eO,iS,List.length_drop];omega
  have hdi:u%1000000000/10^i≤u%1000000000:=Nat.div_le_self _ _
  refine sq ?_;refine rl ?_;refine o1 ?_;refine nl ?_;refine sq ?_;refine eL rfl (fun h2=>?_) (fun h2=>?_)
  ·refine sk ?_;refine sq ?_;refine bl ?_;refine sq ?_;refine rl ?_;refine o1 ?_;refine o1 ?_;refine nl ?_;refine sq ?_;refine rl ?_;(iterate 3 refine o1 ?_)
   refine WL.cast (t:=26) (u':=.int .u32 (((u%1000000000/10^i%10):Nat):Int)) rfl (dN (sF _ 10)) ?_;refine o1 ?_
   refine WL.cast (t:=27) (u':=.int .u8 (((u%1000000000/10^i%10):Nat):Int)) rfl (dN (by omega)) ?_
   refine o1 ?_;refine WL.cast (t:=28) (u':=.int .u8 (((48+u%1000000000/10^i%10):Nat):Int)) rfl (dN (by omega)) ?_
   refine o1 ?_
   refine Sy (oB (cH (fd (i) (u%1000000000))++nZ.drop (i)) (k:=i) (v:=48+u%1000000000/10^i%10) (by omega)) (qN (cH (fd (i) (u%1000000000))++nZ.drop (i)) (by omega)) ?_
   refine nl ?_;refine rl ?_;refine o1 ?_;refine o1 ?_ (hC:=(Ni 10 (by omega) (Pq (Nat.lt_of_le_of_lt hdi (by omega)))))
   refine WL.cast (t:=31) (u':=.int .u32 (((u%1000000000/10^i/10):Nat):Int)) rfl (dN (yQ _ 10)) ?_;refine o1 ?_;refine nl ?_;refine rl ?_;refine o1 ?_
   refine WL.cast (t:=32) (u':=.int .i64 ((i+1:Nat):Int)) rfl (dN (by omega)) ?_
   refine o1 ?_;refine nl ?_
   exact⟨i+1,by omega,by omega,bZ h0 [0,1] _ _ (by decide) ⟨rfl,rfl,rfl,yF (by rw[Nat.pow_succ,Nat.div_div_eq_div_mul]),rfl,trivial⟩ ⟨dS (congrArg (fun l=>some (⟨87,1,(bX l).map .t⟩:Ob)) (Mq (by omega) ho)),dS rfl,rfl⟩⟩
  refine ex ?_;have hi9:i=9:=by omega
  subst hi9;have he9:(cH (fd (9) (u%1000000000))++nZ.drop (9))=cH (fd 9 (u%1000000000)):=by rw[List.drop_of_length_le (by omega),List.append_nil]
  refine sq ?_;refine rl ?_;refine o1 ?_
  refine Pi (m:=9) (by_:=1) 2 (DstA.sl (k:=1) (n:=ds.length) (e:=5) (z:=1) rfl (by rw[Ad,eO])) (Gp _) (Hz _) (by rw[Ad,hlen]) (by omega) (by omega) ?_
  refine o1 ?_;refine nl ?_;refine rl ?_;refine o1 ?_;refine o1 ?_;refine nl ?_
  exact⟨((ds++fd 9 (u%1000000000),cH (fd 9 (u%1000000000))),u/1000000000),by dsimp only;omega,⟨by dsimp only;rw[eO,iS],hd.append (Mp _ _),Pp hv,by dsimp only;omega,by dsimp only;rw[List.length_append,iS];have:=Ic hv hup hvL;omega⟩,bZ h0 [0,2] _ _ (by decide) ⟨rfl,rfl,congrArg (fun n=>some (FV.one (.sl 2 0 n))) (show(ds++fd 9 (u%1000000000)).length=ds.length+9 by rw[List.length_append,iS]),trivial⟩ ⟨dS (congrArg (fun l=>some (⟨87,1,(bX l).map .t⟩:Ob)) he9),dS (congrArg (fun l=>some (⟨5,1,l⟩:Ob)) ((Mn _ _).trans (congrArg (fun l:List Nat=>(bX l).map AV.t) (show cH ds++(cH (fd (9) (u%1000000000))++nZ.drop (9))=cH (ds++fd 9 (u%1000000000)) by rw[he9,yH])))),rfl⟩⟩
 refine ex ?_;refine sq ?_;have hu0:u=0:=(cV (B:=4294967296) (by omega)).1 (List.eq_nil_of_length_eq_zero (by omega))
 subst hu0;rw[Nat.mul_zero,Nat.add_zero]at hv;refine rl ?_;refine o1 ?_
 refine cl 2 [1] (Du (t:=5) (xs:=cH ds) (n:=ds.length) (eO ds) (by omega)) Rz ⟨dS rfl,rfl⟩ ⟨rfl,rfl⟩ (ok:=[some ⟨5,1,(bX (cH ds).reverse).map .t⟩]) ⟨dS rfl,rfl⟩ ?_
 refine nl ?_;refine sq ?_;refine sq ?_;refine rl ?_;refine o1 ?_
 refine Td (xs:=(cH ds).reverse) (Mt rfl (by rw[List.length_reverse,eO])) (by rw[List.length_reverse,eO]) ?_
 refine ca (Bc (rZ (sA hd))) Sa ⟨a1 rfl,a1 rfl,rfl⟩ (.one (tv (.string (aS ((cH ds).reverse.dropWhile (· ==48)))))) ?_;refine o1 ?_;refine nl ?_;refine sq ?_
 refine rl ?_;refine o1 ?_;refine o1 ?_
 refine WL.cast (t:=43) (u':=.bool (!decide (((cH ds).reverse.dropWhile (· ==48))=[]))) rfl (congrArg Value.bool (congrArg not (lN (Mr (rZ (sA hd)))))) ?_;refine nl ?_
 refine mY rfl (fun h3=>?_) (fun h3=>?_)
 ·refine sq ?_;refine rl ?_;refine o1 ?_;refine o1 ?_;refine nl ?_;refine rt ?_
  exact en (.inl rfl) rfl (dF (cF _)) (by decide) (fun _=>trivial) (congrArg (fun z=>FV.one (tv (.string z))) (congrArg aS (Id hd hv h3)))
 refine sk ?_;refine sq ?_;refine rl ?_;refine o1 ?_;refine nl ?_;refine rt ?_
 exact en (.inl rfl) rfl (dF (cF _)) (by decide) (fun _=>trivial) (congrArg (fun z=>FV.one (tv (.string z))) (congrArg aS (Ms hd hv h3)))
theorem Qb:CallOk Tryz.prog 145:=.mk Tryz.func145 (by decide) rfl
theorem Qc:CallOk Tryz.prog 118:=.mk Tryz.func118 (by decide) rfl
theorem Dv {B:Nat}{l:List Nat}(h:Lim B l) (k:Nat):Lim B (l.take k):=fun x hx=>h x (List.mem_of_mem_take hx)
theorem Np {l:List Nat}(h:Lim 256 l):((aS (l.take 1)).toList==(⟨#[45]⟩:ByteArray).toList)=decide (l.take 1=[45]):=tL (l':=[45]) (Dv h 1) (Lim.cons (by omega) Lim.nil)
theorem Nq {l:List Nat}(h:¬1≤l.length):false=decide (l.take 1=[45]):=by
 rw[List.eq_nil_of_length_eq_zero (show l.length=0 by omega)];rfl
theorem wV {l:List Nat}(hl:Lim 256 l):aI true Tryz.prog 145 [] [.one (tv (.string (aS l))),.one (tv (.string ⟨#[45]⟩))] (aX (.one (tv (.bool (decide (l.take 1=[45])))))):=by
 refine dV Tryz.func145 rfl Tryz.ntmps145 rfl aD rfl fun N9 w9 c0 h0=>?_
 refine sq ?_;refine rl ?_;refine o1 ?_;refine nl ?_;refine sq ?_;refine rl ?_;refine o1 ?_;refine o1 ?_
 refine WL.cast (t:=6) (u':=.int .i64 ((l.length:Nat):Int)) rfl (congrArg (fun n:Nat=>Value.int .i64 (n:Int)) (bO _)) ?_
 refine o1 ?_;refine o1 ?_;refine WL.cast (t:=8) (u':=.int .i64 ((1:Nat):Int)) rfl rfl ?_;refine o1 ?_;refine o1 ?_;refine WL.split (t:=10) rfl (fun h1=>?_) (fun h1=>?_)
 ·(iterate 3 refine o1 ?_);refine WL.cast (t:=13) (u':=.int .i64 ((1:Nat):Int)) rfl rfl ?_;refine o1 ?_ (hC:=(by rw[bO];show 1≤l.length;omega))
  refine WL.cast (t:=14) (u':=.string (aS (l.take 1))) rfl (congrArg Value.string ((lM l 0 1).trans rfl)) ?_;refine o1 ?_;refine o1 ?_
  refine WL.cast (t:=16) (u':=.bool (decide (l.take 1=[45]))) rfl (congrArg Value.bool (Np hl)) ?_;refine o1 ?_;refine o1 ?_;refine nl ?_;refine rt ?_;exact fY (.inl rfl) rfl (rfl)
 (iterate 6 refine dY ?_);refine o1 ?_;refine o1 ?_;refine nl ?_;refine rt ?_;exact fY (.inl rfl) rfl (Nq (by omega))
theorem Jm {l:List Nat}(h:l.take 1=[45]):1≤l.length:=by
 have:=congrArg List.length h
 rw[List.length_take]at this
 simp at this
 omega
theorem wW {l:List Nat}(hl:Lim 256 l):aI true Tryz.prog 118 [] [.one (tv (.string (aS l))),.one (tv (.string ⟨#[45]⟩))] (aX (.tup [.one (tv (.string (aS (if l.take 1=[45]then l.drop 1 else l)))),.one (tv (.bool (decide (l.take 1=[45]))))])):=by
 refine dV Tryz.func118 rfl Tryz.ntmps118 rfl aD rfl fun N9 w9 c0 h0=>?_
 refine sq ?_;refine rl ?_;refine o1 ?_;refine o1 ?_;refine nl ?_;refine sq ?_;refine sq ?_;refine rl ?_;refine o1 ?_;refine o1 ?_
 refine ca (wV hl) Qb ⟨a1 rfl,a1 rfl,rfl⟩ (.one (tv (.bool (decide (l.take 1=[45]))))) ?_;refine WL.splitb (t:=8) rfl (fun h1=>?_) (fun h1=>?_)
 ·refine o1 ?_;refine nl ?_;refine gY rfl ?_;refine sk ?_;refine sq ?_;have h9:=of_decide_eq_true h1
  refine rl ?_;(iterate 3 refine o1 ?_);refine WL.cast (t:=13) (u':=.int .i64 ((1:Nat):Int)) rfl rfl ?_;refine o1 ?_ (hC:=(by rw[bO];show 1≤l.length;exact Jm h9))
  refine WL.cast (t:=14) (u':=.string (aS (l.drop 1))) rfl (congrArg Value.string (jK _ _)) ?_;refine o1 ?_;refine o1 ?_;refine nl ?_;refine rt ?_
  exact en (.inl rfl) rfl (gZ (.cons (cF _) (.cons (cF _) .nil))) (by decide) (fun _=>⟨trivial,trivial,trivial⟩) (by rw[if_pos (of_decide_eq_true h1),h1];rfl)
 refine o1 ?_;refine nl ?_;refine lG rfl ?_;refine sq ?_;refine rl ?_;(iterate 3 refine o1 ?_);refine nl ?_;refine rt ?_
 exact en (.inl rfl) rfl (gZ (.cons (cF _) (.cons (cF _) .nil))) (by decide) (fun _=>⟨trivial,trivial,trivial⟩) (by rw[if_neg (of_decide_eq_false h1),h1];rfl)
theorem wX {l:List Nat}(hl:Lim 256 l):aI true Tryz.prog 68 [] [.one (tv (.string (aS l))),.one (tv (.string ⟨#[45]⟩))] (aX (.tup [.one (tv (.string (aS (if l.take 1=[45]then l.drop 1 else l)))),.one (tv (.bool (decide (l.take 1=[45]))))])):=by
 refine dV Tryz.func68 rfl Tryz.ntmps68 rfl aD rfl fun N9 w9 c0 h0=>?_
 refine sq ?_;refine rl ?_;refine o1 ?_;refine o1 ?_;refine nl ?_;refine sq ?_;refine rl ?_;refine o1 ?_;refine o1 ?_
 refine ca (wW hl) Qc ⟨a1 rfl,a1 rfl,rfl⟩ (.tup [.one (tv (.string (aS (if l.take 1=[45]then l.drop 1 else l)))),.one (tv (.bool (decide (l.take 1=[45]))))]) ?_
 (iterate 4 refine o1 ?_);refine nl ?_;refine rt ?_;exact en (.inl rfl) rfl (gZ (.cons (cF _) (.cons (cF _) .nil))) (by decide) (fun _=>⟨trivial,trivial,trivial⟩) rfl
theorem Dw {k:Int}{f:FuncId}{args:List FV}(h:∀(N:Nat→Prop) (w:World) us,bM w N [] args us→(∀b,N b→b<w.heap.size)→Calls Tryz.prog f us.toArray w (Nc k w)):aI true Tryz.prog f [] args (aX (kO k)):=by
 intro N w cs us hL
 obtain⟨rfl,hf⟩:=kC hL
 refine(h _ w us hf (fun b hb=>hb.1)).mono ?_
 rintro e W ⟨A,n,c,rfl,ho,hb⟩
 obtain⟨y1,a1,a2,a3,a4⟩:=iT (N:=fun b=>true=false∧(b<W.heap.size∧b∉VT.fpL [])∧(N b∨w.heap.size≤b)) ho
 refine .mk0 (y:=[.w (.bool (aT k)),y1]) rfl hb (by simp only[VT.okL,VT.ok];exact⟨trivial,a3,trivial⟩) ?_ (fun b hb'=>?_) ?_
 ·simp only[VT.fpL,VT.fp,a4,List.nil_append,List.append_nil]
  exact kD A n c
 ·simp only[VT.fpL,VT.fp,a4,List.nil_append,List.append_nil]at hb'
  exact ho.blk b hb'
 refine⟨by simp only[List.map_cons,List.map_nil,a1];rfl,?_⟩
 simp only[List.map_cons,List.map_nil,aN,CR,sU]
 exact⟨by simp[OR],eA (fun _ _=>rfl) (fun b hb=>absurd hb.1 (by simp)) _ _ a2,trivial⟩
theorem eP {n:Int}(h1:-9223372036854775808≤n) (h2:n≤9223372036854775807):aI true Tryz.prog 27 [] [.one (tv (.int .i64 n))] (aX (kO n)):=Dw fun N w us hf hN=>by
 obtain⟨u,rfl,h3⟩:=As hf
 obtain rfl:=aF (fI h3)
 exact Nd n w h1 h2
theorem Nr {k:Int}(h:aT k=true):k<0:=of_decide_eq_true h
theorem Ns {k:Int}(h:aT k=false):¬k<0:=of_decide_eq_false h
theorem Nt {v:Nat}(h:(dg 4294967296 v).length≤1000000):(tx v).length≤10000001:=by
 unfold tx
 split
 ·simp
 rw[List.length_reverse,eO]
 have h1:=iI (B:=4294967296) (n:=v) (by omega)
 have h2:v<10^(10*(dg 4294967296 v).length):=Nat.lt_of_lt_of_le h1 (by rw[Nat.pow_mul];exact Nat.pow_le_pow_left (by omega) _)
 have:=bG (B:=10) (by omega) h2
 omega
theorem tR {a:Zi}{k:Int}(ha:Zn a k) (hs:(dg 4294967296 k.natAbs).length≤1000000):aI true Tryz.prog 29 [] [gF a] (aX (.one (tv (.string (aS (gC k)))))):=by
 refine dV Tryz.func29 rfl Tryz.ntmps29 rfl aD rfl fun N9 w9 c0 h0=>?_
 refine sq ?_;refine rl ?_;refine bx 0 ?_;refine o1 ?_;refine nl ?_;refine sq ?_;refine rl ?_;refine ld ?_;refine ca (bC (ha).g) bB ⟨aA rfl,rfl⟩ (kF (k)) ?_;refine al 1 ?_;refine st ?_
 refine nl ?_;refine sq ?_;refine sq ?_;refine rl ?_;refine o1 ?_;refine o1 ?_;refine ld ?_;refine nl ?_;refine mY rfl (fun h1=>?_) (fun h1=>?_)
 ·refine sq ?_;refine rl ?_;refine o1 ?_;refine o1 ?_;refine ld ?_
  refine ca (Gw (xs:=dg 4294967296 k.natAbs) (v:=k.natAbs) hs (aW (by omega) _) (cA (by omega) _)) Ls ⟨a1 rfl,rfl⟩ (.one (tv (.string (aS (tx k.natAbs))))) ?_
  refine o1 ?_ (hC:=(by rw[bO];have:=Nt hs;show 1+(tx k.natAbs).length≤_;omega))
  refine WL.cast (t:=13) (u':=.string (aS (45::tx k.natAbs))) rfl (congrArg Value.string (Mi [45] _)) ?_;refine o1 ?_;refine nl ?_;refine rt ?_
  exact en (.inl rfl) rfl (dF (cF _)) (by decide) (fun _=>trivial) (congrArg (fun z=>FV.one (tv (.string z))) (congrArg aS (by unfold gC;rw[if_pos (Nr h1)])))
 refine sk ?_;refine sq ?_;refine rl ?_;refine o1 ?_;refine o1 ?_;refine ld ?_
 refine ca (Gw (xs:=dg 4294967296 k.natAbs) (v:=k.natAbs) hs (aW (by omega) _) (cA (by omega) _)) Ls ⟨a1 rfl,rfl⟩ (.one (tv (.string (aS (tx k.natAbs))))) ?_
 refine o1 ?_;refine nl ?_;refine rt ?_
 exact en (.inl rfl) rfl (dF (cF _)) (by decide) (fun _=>trivial) (congrArg (fun z=>FV.one (tv (.string z))) (congrArg aS (by unfold gC;rw[if_neg (Ns h1)])))
theorem Jn {a:Zi}{k:Int}(ha:Zn a k) (hs:2<(dg 4294967296 k.natAbs).length):aI true Tryz.prog 24 [] [gF a] (aX (.tup [.one (tv (.int .i64 0)),.one (tv (.bool false))])):=by
 refine dV Tryz.func24 rfl Tryz.ntmps24 rfl aD rfl fun N9 w9 c0 h0=>?_
 refine sq ?_;refine rl ?_;refine bx 0 ?_;refine o1 ?_;refine o1 ?_;refine nl ?_;refine sq ?_;refine rl ?_;refine ld ?_;refine ca (bC (ha).g) bB ⟨aA rfl,rfl⟩ (kF (k)) ?_;refine al 1 ?_
 refine st ?_;refine nl ?_;refine sq ?_;refine sq ?_;refine rl ?_;refine o1 ?_;refine o1 ?_;refine ld ?_;refine o1 ?_;refine o1 ?_;refine nl ?_;refine eL rfl (fun h1=>?_) (fun h1=>?_)
 ·refine sq ?_;refine rl ?_;refine o1 ?_;refine o1 ?_;refine nl ?_;refine rt ?_
  exact en (.inl rfl) rfl (gZ (.cons (cF _) (.cons (cF _) .nil))) (by decide) (fun _=>⟨trivial,trivial,trivial⟩) rfl
 exact absurd h1 (by omega)
theorem Qd {a:Zi}(hl:a.x.length≤1000000):aI true Tryz.prog 26 [] [gF a] (aX (gO a)):=by
 refine dV Tryz.func26 rfl Tryz.ntmps26 rfl aD rfl fun N9 w9 c0 h0=>?_
 refine sq ?_;refine rl ?_;refine bx 0 ?_;refine al 1 ?_;refine nl ?_;refine sq ?_;refine rl ?_;refine o1 ?_;refine ld ?_;refine o1 ?_;refine al 2 ?_;refine st ?_;refine nl ?_
 refine sq ?_;refine rl ?_;refine o1 ?_;refine ld ?_;refine o1 ?_;refine ld ?_;refine Ov (j:=3) aD rfl rfl rfl rfl .nil .fz (Ng _) (Fq _) rfl (by omega) (by omega) ?_
 refine o1 ?_;refine st ?_;refine nl ?_;refine sq ?_;refine rl ?_;refine ld ?_;refine st ?_;refine nl ?_;refine rt ?_
 exact en (.inl rfl) rfl (dF (.agg (.cons (.id rfl) (.cons (.sl (trs:=aZ a.x) rfl rfl (by rw[Nat.zero_add];exact cM _) (by rw[Nat.zero_add];exact bV _)) .nil)))) (by decide) (fun _=>⟨trivial,.inl ⟨rfl,kB _⟩,trivial⟩) (by rw[Nat.zero_add];rfl)
theorem Nu {a b:Zi}(ha:a.x.length≤1000000) (hb:b.x.length≤1000000):aI true Tryz.prog 28 [] [gF a,gF b] (aX (.one (tv (.bool (gU a b))))):=by
 refine dV Tryz.func28 rfl Tryz.ntmps28 rfl aD rfl fun N9 w9 c0 h0=>?_
 refine sq ?_;refine rl ?_;refine bx 0 ?_;refine bx 1 ?_;refine o1 ?_;refine nl ?_;refine sq ?_;refine sq ?_;refine rl ?_;refine o1 ?_;refine ld ?_;refine o1 ?_;refine ld ?_;refine o1 ?_
 refine WL.cast (t:=10) (u':=.bool (!(a.s==b.s))) rfl (congrArg Value.bool rfl) ?_;refine o1 ?_;refine WL.splitb (t:=11) rfl (fun h1=>?_) (fun h1=>?_)
 ·(iterate 7 refine dY ?_);refine o1 ?_;refine nl ?_;refine lG rfl ?_;refine sq ?_;refine rl ?_;refine o1 ?_;refine nl ?_;refine rt ?_;exact fY (.inl rfl) rfl (Jc h1)
 refine o1 ?_;refine ld ?_;refine o1 ?_;refine o1 ?_;refine ld ?_;(iterate 3 refine o1 ?_);refine nl ?_;refine eL rfl (fun h2=>?_) (fun h2=>?_)
 ·refine sq ?_;refine rl ?_;refine o1 ?_;refine nl ?_;refine rt ?_;exact fY (.inl rfl) rfl (Jd (by omega))
 refine sk ?_;refine sq ?_;refine sq ?_;refine rl ?_;refine o1 ?_;refine nl ?_;refine bl ?_
 refine lp (γ:=Nat) (fun k=>dU [(2,.one (.pt 0 0)),(3,.one (.pt 1 0)),(5,.one (tv (.int .i64 ((k:Nat):Int))))]) (fun k=>[(⟨44,0,[tv (.bool a.s),.t (sU false a.x)]⟩:Ob),⟨47,0,[tv (.bool b.s),.t (sU false b.x)]⟩].map some) (fun k=>k≤a.x.length∧a.x.take k=b.x.take k) (fun k=>a.x.length-k) 0 ⟨Nat.zero_le _,rfl⟩ (bZ h0 [0,1] _ _ (by decide) ⟨rfl,rfl,rfl,trivial⟩ ⟨oe rfl rfl,oe rfl rfl,rfl⟩) fun k hk=>?_
 refine sq ?_;refine sq ?_;refine rl ?_;refine o1 ?_;refine o1 ?_;refine ld ?_;refine o1 ?_;refine o1 ?_;refine nl ?_;refine eL rfl (fun h3=>?_) (fun h3=>?_)
 ·refine sk ?_;refine sq ?_;refine bl ?_;refine sq ?_;refine rd [0,1] (fun i=>[].contains i) mixed ?_
  refine dv 0 ?_;refine aP 1 ?_;refine dv 2 ?_;refine dv 3 ?_;refine Qk 4 ([.v (.int .u32 ((nth a.x (k):Nat):Int))]) (qX a.x (k:=k) (by omega)) ?_
  refine dv 5 ?_;refine aP 6 ?_;refine dv 7 ?_;refine dv 8 ?_;refine Qk 9 ([.v (.int .u32 ((nth b.x (k):Nat):Int))]) (qX b.x (k:=k) (by omega)) ?_
  refine dv 10 ?_;refine bU ?_;refine eL rfl (fun h4=>?_) (fun h4=>?_)
  ·refine sq ?_;refine rl ?_;refine o1 ?_;refine nl ?_;refine rt ?_;exact fY (.inl rfl) rfl (Je (k:=k) (by omega))
  refine sk ?_;refine rl ?_;refine o1 ?_;refine o1 ?_;refine WL.cast (t:=26) (u':=.int .i64 ((k+1:Nat):Int)) rfl (dN (by omega)) ?_
  refine o1 ?_;refine nl ?_
  exact⟨k+1,by omega,⟨by omega,Fs hk.2 (by omega) (by omega) (by omega)⟩,bZ h0 [0,1] _ _ (by decide) ⟨rfl,rfl,rfl,trivial⟩ ⟨oe rfl rfl,oe rfl rfl,rfl⟩⟩
 refine ex ?_;refine sq ?_;refine rl ?_;refine o1 ?_;refine nl ?_;refine rt ?_;exact fY (.inl rfl) rfl (Jf h1 (by omega) hk.2 (by omega))
end Go.Proofs.YteggpgndiajdpaaGreatDoor
