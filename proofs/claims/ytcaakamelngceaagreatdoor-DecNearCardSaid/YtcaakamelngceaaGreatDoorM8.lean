/- Part 8 of a proof: ShR to B1. -/
import Derived.Shelf.Strings.Repeat
import Derived.Shelf.Bits.Mul64
import Derived.Test.YtcaakamelngceaaGreatDoorProg
import Derived.Test.YtcaakamelngceaaGreatDoorM7
import Derived.Test.YtcaakamelngceaaGreatDoorM6
import Derived.Test.YtcaakamelngceaaGreatDoorM4
import Derived.Test.YtcaakamelngceaaGreatDoorM5
set_option maxRecDepth 100000
set_option linter.unusedVariables false
set_option linter.unusedSimpArgs false
namespace Go.Proofs.YtcaakamelngceaaGreatDoor
open Go Go.Shelf
def laysR_ren:Go.Shelf.Ren:=⟨fun | 99=>91 | 105=>42 | 165=>92 | 166=>93 | 169=>95 | 170=>94 | 206=>145 | 212=>90 | 240=>146 | 241=>147 | 263=>143 | 264=>144 | 276=>169 | 277=>170 | n=>n,fun | 0=>0 | 3=>3 | 4=>4 | 5=>5 | 9=>9 | 20=>20 | 37=>113 | 46=>119 | 51=>115 | 53=>152 | 70=>123 | 72=>125 | 75=>128 | 76=>129 | 80=>132 | 109=>120 | 127=>172 | 146=>167 | 148=>170 | 164=>189 | n=>n,fun | n=>n⟩
theorem jV:Go.Proofs.Lays.n105 Tryz.prog laysR_ren:={
 mixed:=by kernel_rfl
 f99:=Tryz.func91.trans (congrArg some (by kernel_rfl))
 f105:=Tryz.func42.trans (congrArg some (by kernel_rfl))
 f165:=Tryz.func92.trans (congrArg some (by kernel_rfl))
 f166:=Tryz.func93.trans (congrArg some (by kernel_rfl))
 f169:=Tryz.func95.trans (congrArg some (by kernel_rfl))
 f170:=Tryz.func94.trans (congrArg some (by kernel_rfl))
 f206:=Tryz.func145.trans (congrArg some (by kernel_rfl))
 f212:=Tryz.func90.trans (congrArg some (by kernel_rfl))
 f240:=Tryz.func146.trans (congrArg some (by kernel_rfl))
 f241:=Tryz.func147.trans (congrArg some (by kernel_rfl))
 f263:=Tryz.func143.trans (congrArg some (by kernel_rfl))
 f264:=Tryz.func144.trans (congrArg some (by kernel_rfl))
 f276:=Tryz.func169.trans (congrArg some (by kernel_rfl))
 f277:=Tryz.func170.trans (congrArg some (by kernel_rfl))
 t0:=Tryz.underlying0
 a0:=Tryz.isAgg0
 z0:=Tryz.sizeOf0
 v0:=Tryz.zeroValue0
 t3:=Tryz.underlying3
 a3:=Tryz.isAgg3
 z3:=Tryz.sizeOf3
 v3:=Tryz.zeroValue3
 t4:=Tryz.underlying4
 a4:=Tryz.isAgg4
 z4:=Tryz.sizeOf4
 v4:=Tryz.zeroValue4
 t5:=Tryz.underlying5
 a5:=Tryz.isAgg5
 z5:=Tryz.sizeOf5
 v5:=Tryz.zeroValue5
 t9:=Tryz.underlying9
 a9:=Tryz.isAgg9
 z9:=Tryz.sizeOf9
 v9:=Tryz.zeroValue9
 t20:=Tryz.underlying20
 a20:=Tryz.isAgg20
 z20:=Tryz.sizeOf20
 v20:=Tryz.zeroValue20
 t37:=Tryz.underlying113
 a37:=Tryz.isAgg113
 z37:=Tryz.sizeOf113
 v37:=Tryz.zeroValue113
 t46:=Tryz.underlying119
 a46:=Tryz.isAgg119
 z46:=Tryz.sizeOf119
 v46:=Tryz.zeroValue119
 t51:=Tryz.underlying115
 a51:=Tryz.isAgg115
 z51:=Tryz.sizeOf115
 v51:=Tryz.zeroValue115
 t53:=Tryz.underlying152
 a53:=Tryz.isAgg152
 z53:=Tryz.sizeOf152
 v53:=Tryz.zeroValue152
 t70:=Tryz.underlying123
 a70:=Tryz.isAgg123
 z70:=Tryz.sizeOf123
 v70:=Tryz.zeroValue123
 t72:=Tryz.underlying125
 a72:=Tryz.isAgg125
 z72:=Tryz.sizeOf125
 v72:=Tryz.zeroValue125
 t75:=Tryz.underlying128
 a75:=Tryz.isAgg128
 z75:=Tryz.sizeOf128
 v75:=Tryz.zeroValue128
 t76:=Tryz.underlying129
 a76:=Tryz.isAgg129
 z76:=Tryz.sizeOf129
 v76:=Tryz.zeroValue129
 t109:=Tryz.underlying120
 a109:=Tryz.isAgg120
 z109:=Tryz.sizeOf120
 v109:=Tryz.zeroValue120
 t127:=Tryz.underlying172
 a127:=Tryz.isAgg172
 z127:=Tryz.sizeOf172
 v127:=Tryz.zeroValue172
 t146:=Tryz.underlying167
 a146:=Tryz.isAgg167
 z146:=Tryz.sizeOf167
 v146:=Tryz.zeroValue167
 t148:=Tryz.underlying170
 a148:=Tryz.isAgg170
 z148:=Tryz.sizeOf170
 v148:=Tryz.zeroValue170
 t164:=Tryz.underlying189
 a164:=Tryz.isAgg189
 z164:=Tryz.sizeOf189
 v164:=Tryz.zeroValue189}
theorem Px:Go.Proofs.Lays.n212 Tryz.prog laysR_ren:={jV with
}
theorem Vm:Go.Proofs.Builder.Extra Tryz.prog laysR_ren where
 sizeBuilder:=by kernel_rfl
 liesBuilder:=by kernel_rfl
 t5:=jV.t5
 a5:=jV.a5
 z5:=jV.z5
 v5:=jV.v5
 infoByte:=by kernel_rfl
 cellsByte:=by kernel_rfl
 sizeByte:=by kernel_rfl
 neB5:=by decide
end Go.Proofs.YtcaakamelngceaaGreatDoor
namespace Go.Proofs.YtcaakamelngceaaGreatDoor
open Go Go.RowKit
section
variable {f:FuncId}{args:List FV}
theorem Mt {a b:Value}(h:∀(N:Nat→Prop) (w:World) us,cA w N [] args us→(∀b,N b→b<w.heap.size)→Calls Tryz.prog f us.toArray w (fun e w'=>e=.returned (.tuple #[a,b])∧Below w.heap.size w w')):aE true Tryz.prog f [] args (aI (.tup [.one (tv a),.one (tv b)])):=by
 intro N w cs us hL
 obtain⟨rfl,hf⟩:=mF hL
 refine(h _ w us hf (fun b hb=>hb.1)).mono ?_
 rintro e W ⟨rfl,hb⟩
 refine .mk0 (y:=[.w a]++([.w b]++[])) rfl hb (by simp[VT.okL,VT.ok]) (by simp[VT.fpL,VT.fp]) (by simp[VT.fpL,VT.fp]) ⟨[a,b],rfl,?_⟩
 exact⟨a,[b],[.w a],[.w b]++[],rfl,rfl,⟨.w a,rfl,rfl,by simp[CR,tv,OR]⟩,b,[],[.w b],[],rfl,rfl,⟨.w b,rfl,rfl,by simp[CR,tv,OR]⟩,rfl,rfl⟩
end
theorem pQ {cs:List UInt8}{p:Nat→Bool}(hp:∀c<256,cs.contains (UInt8.ofNat c)=p c):∀{l:List Nat},Lim 256 l→(l.map UInt8.ofNat).dropWhile (cs.contains ·)=(l.dropWhile p).map UInt8.ofNat
 | [],_=>rfl
 | x::l,h=>by
  rw[List.map_cons,List.dropWhile_cons,List.dropWhile_cons,hp x (h x (by simp))]
  split
  ·exact pQ hp (fun c hc=>h c (by simp[hc]))
  rfl
def p0 (c:Nat):Bool:=decide (c=48)
def fS (p:Nat→Bool) (l:List Nat):List Nat:=(l.reverse.dropWhile p).reverse
theorem rP {B:Nat}{p:Nat→Bool}{l:List Nat}(h:Lim B l):Lim B (fS p l):=lJ (iY (lJ h))
theorem Ry:∀c<256,([48]:List UInt8).contains (UInt8.ofNat c)=p0 c:=by decide+kernel
theorem KG {cs:List UInt8}{p:Nat→Bool}(hp:∀c<256,cs.contains (UInt8.ofNat c)=p c){l:List Nat}(h:Lim 256 l):(⟨(Lib.trimLeftS (aA l).data.toList cs).toArray⟩:ByteArray)=aA (l.dropWhile p):=by
 rw[fL]
 unfold Lib.trimLeftS
 rw[pQ hp h]
 rfl
theorem AZ {cs:List UInt8}{p:Nat→Bool}(hp:∀c<256,cs.contains (UInt8.ofNat c)=p c){l:List Nat}(h:Lim 256 l):Lib.trimRightS (l.map UInt8.ofNat) cs=(fS p l).map UInt8.ofNat:=by
 unfold Lib.trimRightS fS
 rw[←List.map_reverse,pQ hp (lJ h),List.map_reverse]
theorem KH {cs:List UInt8}{p:Nat→Bool}(hp:∀c<256,cs.contains (UInt8.ofNat c)=p c){l:List Nat}(h:Lim 256 l):(⟨(Lib.trimRightS (aA l).data.toList cs).toArray⟩:ByteArray)=aA (fS p l):=by
 rw[fL,AZ hp h]
 rfl
theorem KI {cs:List UInt8}{p:Nat→Bool}(hp:∀c<256,cs.contains (UInt8.ofNat c)=p c){l:List Nat}(h:Lim 256 l):(⟨(Lib.trimS (aA l).data.toList cs).toArray⟩:ByteArray)=aA ((fS p l).dropWhile p):=by
 rw[fL]
 unfold Lib.trimS
 rw[AZ hp h]
 unfold Lib.trimLeftS
 rw[pQ hp (rP h)]
 rfl
variable {l:List Nat}
theorem Mu (hl:Lim 256 l):aE true Tryz.prog 89 [] [.one (tv (.string (aA l))),.one (tv (.string ⟨#[48,49,50,51,52,53,54,55,56,57]⟩))] (aI (.one (tv (.string (aA (l.dropWhile eJ)))))):=jT fun N w us hf hN=>by
 obtain⟨u,v,rfl,h1,h2⟩:=jU hf
 obtain rfl:=aG (dB h1)
 obtain rfl:=aG (dB h2)
 have h:=Go.Proofs.Any.strings_TrimLeft_laid Pp (by kernel_rfl) (aA l) ⟨#[48,49,50,51,52,53,54,55,56,57]⟩ w (by decide) (fun j b h=>(by decide:∀b∈([48,49,50,51,52,53,54,55,56,57]:List UInt8),b.toNat<128) b (List.mem_of_getElem? h))
 rwa[KG (cs:=[48,49,50,51,52,53,54,55,56,57]) Ck hl]at h
theorem Ny (hl:Lim 256 l) (hn:l.length≤9223372036854775807):aE true Tryz.prog 58 [] [.one (tv (.string (aA l))),.one (tv (.string ⟨#[48]⟩))] (aI (.one (tv (.string (aA (fS p0 l)))))):=jT fun N w us hf hN=>by
 obtain⟨u,v,rfl,h1,h2⟩:=jU hf
 obtain rfl:=aG (dB h1)
 obtain rfl:=aG (dB h2)
 have h:=Go.Proofs.Any.strings_TrimRight_laid Pq (by kernel_rfl) (aA l) ⟨#[48]⟩ w (by rw[aH];omega) (by decide) (fun j b h=>(by decide:∀b∈([48]:List UInt8),b.toNat<128) b (List.mem_of_getElem? h))
 rwa[KH (cs:=[48]) Ry hl]at h
theorem Vn (hl:Lim 256 l) (hn:l.length≤9223372036854775807):aE true Tryz.prog 125 [] [.one (tv (.string (aA l))),.one (tv (.string ⟨#[48]⟩))] (aI (.one (tv (.string (aA ((fS p0 l).dropWhile p0)))))):=jT fun N w us hf hN=>by
 obtain⟨u,v,rfl,h1,h2⟩:=jU hf
 obtain rfl:=aG (dB h1)
 obtain rfl:=aG (dB h2)
 have h:=Go.Proofs.Any.strings_Trim_laid pL (by kernel_rfl) (aA l) ⟨#[48]⟩ w (by rw[aH];omega) (by decide) (fun j b h=>(by decide:∀b∈([48]:List UInt8),b.toNat<128) b (List.mem_of_getElem? h))
 rwa[KI (cs:=[48]) Ry hl]at h
theorem Jw {n:Nat}(hn:n≤1000000):aE true Tryz.prog 42 [] [.one (tv (.string ⟨#[48]⟩)),.one (tv (.int .i64 ((n:Nat):Int)))] (aI (.one (tv (.string (aA (List.replicate n 48)))))):=jT fun N w us hf hN=>by
 obtain⟨u,v,rfl,h1,h2⟩:=jU hf
 obtain rfl:=aG (dB h1)
 obtain rfl:=aG (dB h2)
 have h:=Go.Proofs.Any.strings_Repeat jV Vm ⟨#[48]⟩ n w (by omega) (by show 1*n≤_;omega)
 have e:(⟨(Lib.repeatL (⟨#[48]⟩:ByteArray).data.toList n).toArray⟩:ByteArray)=aA (List.replicate n 48):=by
  have:∀n,Lib.repeatL [48] n=(List.replicate n 48).map UInt8.ofNat:=fun n=>by
   induction n with
   | zero=>rfl
   | succ n ih=>rw[Lib.repeatL,ih,List.replicate_succ];rfl
  show(⟨(Lib.repeatL [48] n).toArray⟩:ByteArray)=_
  rw[this]
  rfl
 rwa[e]at h
theorem BA {a b:Nat}(ha:a<18446744073709551616) (hb:b<18446744073709551616):aE true Tryz.prog 90 [] [.one (tv (.int .u64 ((a:Nat):Int))),.one (tv (.int .u64 ((b:Nat):Int)))] (aI (.tup [.one (tv (.int .u64 ((a*b/18446744073709551616:Nat):Int))),.one (tv (.int .u64 ((a*b%18446744073709551616:Nat):Int)))])):=Mt fun N w us hf hN=>by
 obtain⟨u,v,rfl,h1,h2⟩:=jU hf
 obtain rfl:=aG (dB h1)
 obtain rfl:=aG (dB h2)
 exact(Go.Proofs.Any.bits_Mul Px a b ha hb w).mono fun e w' h=>⟨h.1,by first | exact h.2 | (rw[h.2];exact Below.refl _ _)⟩
theorem Py (l:List Nat):decide ((fS p0 l).dropWhile p0=[])=Gk l:=by
 unfold Gk
 rw[Bool.eq_iff_iff,decide_eq_true_eq,List.all_eq_true,rF]
 unfold fS
 constructor
 ·intro h c hc
  cases hq:l.reverse.dropWhile p0 with
  | nil=>exact rF.1 hq c (List.mem_reverse.2 hc)
  | cons y ys=>
   have h1:=h y (by rw[hq];simp)
   have h2:=List.head?_dropWhile_not p0 l.reverse
   rw[hq]at h2
   simp at h2
   rw[h1]at h2
   cases h2
 intro h c hc
 have h1:=(List.dropWhile_sublist p0).subset (List.mem_reverse.1 hc)
 exact h c (List.mem_reverse.1 h1)
theorem EY:CallOk Tryz.prog 140:=.mk Tryz.func140 (by decide) rfl
theorem xG {l R:List Nat}{c:Nat}(hl:Lim 256 l) (hR:l.dropWhile (· ==c)=R):aE true Tryz.prog 140 [] [.one (tv (.string (aA l))),.one (tv (.int .u8 ((c:Nat):Int)))] (aI (.one (tv (.string (aA R))))):=by
 refine bQ Tryz.func140 rfl Tryz.ntmps140 rfl aB rfl fun N9 w9 c0 h0=>?_
 refine sq ?_;refine rl ?_;refine o1 ?_;refine nl ?_;refine sq ?_;refine bl ?_
 refine lp (γ:=List Nat) (fun l=>dD [(0,.one (tv (.string (aA l)))),(1,.one (tv (.int .u8 ((c:Nat):Int))))]) (fun _=>([]:List Ob).map some) (fun l=>Lim 256 l∧l.dropWhile (· ==c)=R) (fun l=>l.length) l ⟨hl,hR⟩ (bS h0 [] _ _ (by decide) ⟨rfl,rfl,trivial⟩ rfl) fun k hk=>?_
 refine sq ?_;refine sq ?_;refine rl ?_;refine o1 ?_;refine o1 ?_
 refine WL.cast (t:=6) (u':=.int .i64 ((k.length:Nat):Int)) rfl (congrArg (fun n:Nat=>Value.int .i64 (n:Int)) (aH _)) ?_
 refine o1 ?_;refine o1 ?_;refine WL.split (t:=8) rfl (fun h1=>?_) (fun h1=>?_)
 ·refine o1 ?_;refine o1 ?_ (hC:=(by rw[aH];show 0<k.length;omega))
  refine WL.cast (t:=10) (u':=.int .u8 (((nth k 0):Nat):Int)) rfl (congrArg (fun n:Nat=>Value.int .u8 (n:Int)) (lD (i:=0) (by omega) (nP (k:=0) hk.1 (by omega)))) ?_
  (iterate 3 refine o1 ?_);refine nl ?_;refine cY rfl (fun h2=>?_) (fun h2=>?_)
  ·refine sk ?_;refine bl ?_;refine rl ?_;refine o1 ?_;refine o1 ?_ (hC:=(by rw[aH];show 1≤k.length;omega))
   refine WL.cast (t:=15) (u':=.string (aA (k.drop 1))) rfl (congrArg Value.string (fV _ _)) ?_;refine o1 ?_;refine nl ?_
   exact⟨k.drop 1,by rw[List.length_drop];omega,⟨jR hk.1 1,(Le (by omega) (by omega)).trans hk.2⟩,bS h0 [] _ _ (by decide) ⟨rfl,rfl,trivial⟩ rfl⟩
  refine ex ?_;refine sq ?_;refine rl ?_;refine o1 ?_;refine o1 ?_;refine nl ?_;refine rt ?_
  exact en (.inl rfl) rfl (bI (aZ _)) (by decide) (fun _=>trivial) (congrArg (fun z=>FV.one (tv (.string z))) (congrArg aA ((Il (by omega) (by omega)).trans hk.2)))
 (iterate 4 refine dE ?_);refine o1 ?_;refine nl ?_;refine kH rfl ?_;refine ex ?_;refine sq ?_;refine rl ?_;refine o1 ?_;refine o1 ?_;refine nl ?_;refine rt ?_
 exact en (.inl rfl) rfl (bI (aZ _)) (by decide) (fun _=>trivial) (congrArg (fun z=>FV.one (tv (.string z))) (congrArg aA ((Ik (by omega)).trans hk.2)))
theorem vL {l:List Nat}(hl:Lim 256 l):aE true Tryz.prog 89 [] [.one (tv (.string (aA l))),.one (tv (.string ⟨#[48]⟩))] (aI (.one (tv (.string (aA (l.dropWhile (· ==48))))))):=by
 refine bQ Tryz.func89 rfl Tryz.ntmps89 rfl aB rfl fun N9 w9 c0 h0=>?_
 refine sq ?_;refine rl ?_;refine o1 ?_;refine nl ?_;refine sq ?_;refine sq ?_;refine rl ?_;refine o1 ?_;refine o1 ?_
 refine WL.cast (t:=8) (u':=.bool (decide (l=[]))) rfl (congrArg Value.bool (gJ hl)) ?_;refine o1 ?_;refine WL.splitb (t:=9) rfl (fun h1=>?_) (fun h1=>?_)
 ·refine dE ?_;refine dE ?_;refine o1 ?_;refine nl ?_;refine jH rfl ?_;refine sq ?_;refine rl ?_;refine o1 ?_;refine o1 ?_;refine nl ?_;refine rt ?_
  exact en (.inl rfl) rfl (bI (aZ _)) (by decide) (fun _=>trivial) (congrArg (fun z=>FV.one (tv (.string z))) (congrArg aA (by rw[of_decide_eq_true h1];rfl)))
 refine o1 ?_;refine o1 ?_;refine WL.cast (t:=11) (u':=.bool false) rfl (congrArg Value.bool (gJ (l:=[48]) (Lim.cons (by omega) Lim.nil))) ?_
 refine o1 ?_;refine nl ?_;refine kH rfl ?_;refine sk ?_;refine sq ?_;refine sq ?_;refine rl ?_;(iterate 3 refine o1 ?_)
 refine WL.cast (t:=16) (u':=.bool true) rfl (congrArg Value.bool rfl) ?_;refine o1 ?_;refine o1 ?_;refine o1 ?_ (hC:=(by decide))
 refine o1 ?_;refine WL.cast (t:=20) (u':=.bool true) rfl (congrArg Value.bool rfl) ?_;refine o1 ?_;refine nl ?_;refine jH rfl ?_;refine sq ?_;refine rl ?_;refine o1 ?_;refine o1 ?_
 refine o1 ?_ (hC:=(by decide))
 refine WL.cast (t:=24) (u':=.int .u8 ((48:Nat):Int)) rfl rfl ?_
 refine ca (xG (c:=48) hl rfl) EY ⟨a1 rfl,a1 rfl,rfl⟩ (.one (tv (.string (aA (l.dropWhile (· ==48)))))) ?_;refine o1 ?_;refine nl ?_;refine rt ?_
 exact en (.inl rfl) rfl (bI (aZ _)) (by decide) (fun _=>trivial) (congrArg (fun z=>FV.one (tv (.string z))) (rfl))
theorem Mv {t n:Nat}{xs:List Nat}(hn:xs.length=n) (hn2:n≤100000000):aE false Tryz.prog 88 [⟨t,1,(cM xs).map .t⟩] [.one (.sl 0 0 n)] (Rt [⟨t,1,(cM xs.reverse).map .t⟩] (.tup [])):=by
 subst hn;refine Bj Tryz.func88 rfl Tryz.ntmps88 rfl aB rfl fun N9 M9 w9 c0 h0=>?_
 refine sq ?_;refine rl ?_;(iterate 5 refine o1 ?_);refine nl ?_;refine bl ?_
 refine lp (γ:=Nat) (fun k=>dD [(0,.one (.sl 0 0 xs.length)),(2,.one (tv (.int .i64 ((k:Nat):Int)))),(3,.one (tv (.int .i64 ((xs.length:Int)-1-(k:Int):Int))))]) (fun k=>[(⟨t,1,(cM (eK xs k)).map .t⟩:Ob)].map some) (fun k=>2*k≤xs.length+1) (fun k=>xs.length-k) 0 (by omega) (Bt h0 [0] _ _ (by decide) rfl ⟨rfl,rfl,qI (by omega),trivial⟩ ⟨cR (congrArg (fun l=>some (⟨t,1,(cM l).map .t⟩:Ob)) (EH xs)),rfl⟩) fun k hk=>?_
 have hrl:=gS xs k
 refine sq ?_;refine sq ?_;refine rl ?_;(iterate 3 refine o1 ?_);refine nl ?_;refine cY rfl (fun h1=>?_) (fun h1=>?_)
 ·refine sk ?_;refine sq ?_;refine bl ?_;refine rd [] (fun i=>[15].contains i) mixed ?_
  refine dv 0 ?_;refine dv 1 ?_;refine dv 2 ?_;refine dv 3 ?_;refine WD.cast (t:=17) (u':=.int .i64 (((xs.length-1-k):Nat):Int)) rfl (bO (by omega)) ?_
  refine dv 4 ?_;refine dv 5 ?_;refine WD.cast (t:=19) (u':=.int .i64 (((xs.length-1-k):Nat):Int)) rfl (bO (by omega)) ?_
  refine dv 6 ?_;refine dv 8 ?_;refine dv 9 ?_;refine dv 10 ?_;refine WO.two (i:=7) (j:=11) (by kernel_rfl) ?_ ?_
  ·refine Ii 7 (zC (eK xs k) (k:=(xs.length-1-k)) (by omega)) ?_
   refine WO.one (by kernel_rfl) (Ii 11 (zC (eK xs k) (k:=k) (by omega)) ?_)
   refine dv 12 ?_;refine Rk 13 (qX (eK xs k) (k:=k) (v:=nth (eK xs k) ((xs.length-1-k))) (by omega)) (uT (eK xs k) (by omega)) ?_
   refine dv 14 ?_
   refine Zc 15 (qX ((eK xs k).set (k) (nth (eK xs k) ((xs.length-1-k)))) (k:=(xs.length-1-k)) (v:=nth (eK xs k) (k)) (by simp only[List.length_set];omega)) (uT ((eK xs k).set (k) (nth (eK xs k) ((xs.length-1-k)))) (by simp only[List.length_set];omega)) ?_
   refine bJ ?_;refine rl ?_;refine o1 ?_;refine o1 ?_;refine WL.cast (t:=11) (u':=.int .i64 ((k+1:Nat):Int)) rfl (bO (by omega)) ?_
   (iterate 4 refine o1 ?_);refine nl ?_
   exact⟨k+1,by omega,by omega,Bt h0 [0] _ _ (by decide) rfl ⟨rfl,rfl,qI (by omega),trivial⟩ ⟨cR (congrArg (fun l=>some (⟨t,1,(cM l).map .t⟩:Ob)) (Rm (by omega))),rfl⟩⟩
  refine Ii 11 (zC (eK xs k) (k:=k) (by omega)) ?_
  refine WO.one (by kernel_rfl) (Ii 7 (zC (eK xs k) (k:=(xs.length-1-k)) (by omega)) ?_)
  refine dv 12 ?_;refine Rk 13 (qX (eK xs k) (k:=k) (v:=nth (eK xs k) ((xs.length-1-k))) (by omega)) (uT (eK xs k) (by omega)) ?_
  refine dv 14 ?_
  refine Zc 15 (qX ((eK xs k).set (k) (nth (eK xs k) ((xs.length-1-k)))) (k:=(xs.length-1-k)) (v:=nth (eK xs k) (k)) (by simp only[List.length_set];omega)) (uT ((eK xs k).set (k) (nth (eK xs k) ((xs.length-1-k)))) (by simp only[List.length_set];omega)) ?_
  refine bJ ?_;refine rl ?_;refine o1 ?_;refine o1 ?_;refine WL.cast (t:=11) (u':=.int .i64 ((k+1:Nat):Int)) rfl (bO (by omega)) ?_
  (iterate 4 refine o1 ?_);refine nl ?_
  exact⟨k+1,by omega,by omega,Bt h0 [0] _ _ (by decide) rfl ⟨rfl,rfl,qI (by omega),trivial⟩ ⟨cR (congrArg (fun l=>some (⟨t,1,(cM l).map .t⟩:Ob)) (Rm (by omega))),rfl⟩⟩
 refine ex ?_
 exact jI (lent':=[⟨t,1,(cM xs.reverse).map .t⟩]) (.inr rfl) rfl JU (by decide) (fun _ h=>by cases h) ⟨⟨rfl,rfl⟩,trivial⟩ ⟨congrArg (fun l=>some (⟨t,1,(cM l).map .t⟩:Ob)) (Ty (by omega)),trivial⟩ ⟨kM _,trivial⟩ (fun h=>by cases h) ⟨rfl,rfl⟩
theorem CI {xs:List Nat}{v:Nat}(hx:xs.length≤1000000) (hl:Lim 4294967296 xs) (hv0:vl 4294967296 xs=v):aE true Tryz.prog 41 [] [.one (.t (sU false xs))] (aI (.one (tv (.string (aA (tx v)))))):=by
 refine bQ Tryz.func41 rfl Tryz.ntmps41 rfl aB rfl fun N9 w9 c0 h0=>?_
 have hvL:v<4294967296^xs.length:=hv0▸eL hl
 have hvl:=bM (k:=xs.length) (by omega) hvL
 refine sq ?_;refine rl ?_;refine o1 ?_;refine nl ?_;refine sq ?_;refine rl ?_;refine KC 0 ?_;refine nl ?_;refine sq ?_;refine rl ?_;refine o1 ?_;refine nl ?_;refine sq ?_;refine sq ?_
 refine rl ?_;refine o1 ?_;refine ca (Uy hl (by omega) hv0) IG ⟨a1 rfl,rfl⟩ (.one (.t (sU false (dg 4294967296 v)))) ?_
 refine o1 ?_;refine nl ?_;refine bl ?_
 refine lp (γ:=(List Nat×List Nat)×Nat) (fun s=>dD [(0,.one (.t (sU false (dg 4294967296 s.2)))),(3,.one (.pt 0 0)),(4,.one (.sl 1 0 s.1.1.length))]) (fun s=>[(⟨112,1,(cM s.1.2).map .t⟩:Ob),⟨5,1,(cM (cZ s.1.1)).map .t⟩].map some) (fun s=>s.1.2.length=9∧Lim 10 s.1.1∧vl 10 s.1.1+10^s.1.1.length*s.2=v∧s.2≤v∧s.1.1.length≤10*xs.length+9) (fun s=>s.2) (([],List.replicate 9 0),v) ⟨rfl,Lim.nil,(by simp[vl]),Nat.le_refl _,Nat.zero_le _⟩ ((nr (i:=4) 1 5 1 rfl rfl rfl rfl).trans (bS h0 [0,1] _ _ (by decide) ⟨rfl,rfl,rfl,trivial⟩ ⟨cR rfl,cR (l:=[]) rfl,rfl⟩)) ?_
 rintro⟨⟨ds,eC⟩,u⟩ ⟨ho,hd,hv,hu,hdl⟩;dsimp only at ho hd hv hu hdl⊢;have hul:=dK hu
 refine sq ?_;refine sq ?_;refine rl ?_;(iterate 3 refine o1 ?_);refine nl ?_;refine cY rfl (fun h1=>?_) (fun h1=>?_)
 ·refine sk ?_;refine bl ?_;refine sq ?_;have hup:=uU (B:=4294967296) (u:=u) (by omega)
  refine rl ?_;refine o1 ?_
  refine ca (AN (u:=u) (d:=1000000000) (by omega) (by omega) (by omega)) IH ⟨a1 rfl,a1 rfl,rfl⟩ (.tup [.one (.t (sU false (dg 4294967296 (u/1000000000)))),.one (tv (.int .u32 ((u%1000000000:Nat):Int))),.one (tv (.int .i64 0))]) ?_
  (iterate 7 refine o1 ?_);refine nl ?_;refine sq ?_;refine sq ?_;refine rl ?_;refine o1 ?_;refine nl ?_;refine bl ?_
  refine lp (γ:=Nat) (fun i=>dD [(3,.one (.pt 0 0)),(4,.one (.sl 1 0 ds.length)),(5,.one (.t (sU false (dg 4294967296 (u/1000000000))))),(6,.one (tv (.int .u32 ((u%1000000000/10^i:Nat):Int)))),(21,.one (tv (.int .i64 ((i:Nat):Int))))]) (fun i=>[(⟨112,1,(cM (cZ (fd (i) (u%1000000000))++eC.drop (i))).map .t⟩:Ob),⟨5,1,(cM (cZ ds)).map .t⟩].map some) (fun i=>i≤9) (fun i=>9-i) 0 (Nat.zero_le _) (bS h0 [0,1] _ _ (by decide) ⟨rfl,rfl,rfl,qI (by rw[Nat.pow_zero,Nat.div_one]),rfl,trivial⟩ ⟨cR rfl,cR rfl,rfl⟩) fun i hi=>?_
  have hlen:(cZ (fd (i) (u%1000000000))++eC.drop (i)).length=9:=by rw[List.length_append,fU,kN,List.length_drop];omega
  have hdi:u%1000000000/10^i≤u%1000000000:=Nat.div_le_self _ _
  refine sq ?_;refine rl ?_;refine o1 ?_;refine nl ?_;refine sq ?_;refine cY rfl (fun h2=>?_) (fun h2=>?_)
  ·refine sk ?_;refine sq ?_;refine bl ?_;refine sq ?_;refine rl ?_;refine o1 ?_;refine o1 ?_;refine nl ?_;refine sq ?_;refine rl ?_;(iterate 3 refine o1 ?_)
   refine WL.cast (t:=26) (u':=.int .u32 (((u%1000000000/10^i%10):Nat):Int)) rfl (bO (nN _ 10)) ?_;refine o1 ?_
   refine WL.cast (t:=27) (u':=.int .u8 (((u%1000000000/10^i%10):Nat):Int)) rfl (bO (by omega)) ?_
   refine o1 ?_;refine WL.cast (t:=28) (u':=.int .u8 (((48+u%1000000000/10^i%10):Nat):Int)) rfl (bO (by omega)) ?_
   refine o1 ?_
   refine KA (qX (cZ (fd (i) (u%1000000000))++eC.drop (i)) (k:=i) (v:=48+u%1000000000/10^i%10) (by omega)) (uT (cZ (fd (i) (u%1000000000))++eC.drop (i)) (by omega)) ?_
   refine nl ?_;refine rl ?_;refine o1 ?_;refine o1 ?_ (hC:=(AJ 10 (by omega) (EK (Nat.lt_of_le_of_lt hdi (by omega)))))
   refine WL.cast (t:=31) (u':=.int .u32 (((u%1000000000/10^i/10):Nat):Int)) rfl (bO (Gf _ 10)) ?_;refine o1 ?_;refine nl ?_;refine rl ?_;refine o1 ?_
   refine WL.cast (t:=32) (u':=.int .i64 ((i+1:Nat):Int)) rfl (bO (by omega)) ?_
   refine o1 ?_;refine nl ?_
   exact⟨i+1,by omega,by omega,bS h0 [0,1] _ _ (by decide) ⟨rfl,rfl,rfl,qI (by rw[Nat.pow_succ,Nat.div_div_eq_div_mul]),rfl,trivial⟩ ⟨cR (congrArg (fun l=>some (⟨112,1,(cM l).map .t⟩:Ob)) (Zs (by omega) ho)),cR rfl,rfl⟩⟩
  refine ex ?_;have hi9:i=9:=by omega
  subst hi9;have he9:(cZ (fd (9) (u%1000000000))++eC.drop (9))=cZ (fd 9 (u%1000000000)):=by rw[List.drop_of_length_le (by omega),List.append_nil]
  refine sq ?_;refine rl ?_;refine o1 ?_
  refine EE (m:=9) (by_:=1) 2 (DstA.sl (k:=1) (n:=ds.length) (e:=5) (z:=1) rfl (by rw[Ij,fU])) (Rl _) (Tw _) (by rw[Ij,hlen]) (by omega) (by omega) ?_
  refine o1 ?_;refine nl ?_;refine rl ?_;refine o1 ?_;refine o1 ?_;refine nl ?_
  exact⟨((ds++fd 9 (u%1000000000),cZ (fd 9 (u%1000000000))),u/1000000000),by dsimp only;omega,⟨by dsimp only;rw[fU,kN],hd.append (Zr _ _),EJ hv,by dsimp only;omega,by dsimp only;rw[List.length_append,kN];have:=Tz hv hup hvL;omega⟩,bS h0 [0,2] _ _ (by decide) ⟨rfl,rfl,congrArg (fun n=>some (FV.one (.sl 2 0 n))) (show(ds++fd 9 (u%1000000000)).length=ds.length+9 by rw[List.length_append,kN]),trivial⟩ ⟨cR (congrArg (fun l=>some (⟨112,1,(cM l).map .t⟩:Ob)) he9),cR (congrArg (fun l=>some (⟨5,1,l⟩:Ob)) ((Zp _ _).trans (congrArg (fun l:List Nat=>(cM l).map AV.t) (show cZ ds++(cZ (fd (9) (u%1000000000))++eC.drop (9))=cZ (ds++fd 9 (u%1000000000)) by rw[he9,Fv])))),rfl⟩⟩
 refine ex ?_;refine sq ?_;have hu0:u=0:=(dJ (B:=4294967296) (by omega)).1 (List.eq_nil_of_length_eq_zero (by omega))
 subst hu0;rw[Nat.mul_zero,Nat.add_zero]at hv;refine rl ?_;refine o1 ?_
 refine cl 2 [1] (Mv (t:=5) (xs:=cZ ds) (n:=ds.length) (fU ds) (by omega)) II ⟨cR rfl,rfl⟩ ⟨rfl,rfl⟩ (ok:=[some ⟨5,1,(cM (cZ ds).reverse).map .t⟩]) ⟨cR rfl,rfl⟩ ?_
 refine nl ?_;refine sq ?_;refine sq ?_;refine rl ?_;refine o1 ?_
 refine KD (xs:=(cZ ds).reverse) (Zu rfl (by rw[List.length_reverse,fU])) (by rw[List.length_reverse,fU]) ?_
 refine ca (vL (lJ (wX hd))) Pc ⟨a1 rfl,a1 rfl,rfl⟩ (.one (tv (.string (aA ((cZ ds).reverse.dropWhile (· ==48)))))) ?_;refine o1 ?_;refine nl ?_;refine sq ?_
 refine rl ?_;refine o1 ?_;refine o1 ?_
 refine WL.cast (t:=43) (u':=.bool (!decide (((cZ ds).reverse.dropWhile (· ==48))=[]))) rfl (congrArg Value.bool (congrArg not (gJ (iY (lJ (wX hd)))))) ?_;refine nl ?_
 refine jG rfl (fun h3=>?_) (fun h3=>?_)
 ·refine sq ?_;refine rl ?_;refine o1 ?_;refine o1 ?_;refine nl ?_;refine rt ?_
  exact en (.inl rfl) rfl (bI (aZ _)) (by decide) (fun _=>trivial) (congrArg (fun z=>FV.one (tv (.string z))) (congrArg aA (Ua hd hv h3)))
 refine sk ?_;refine sq ?_;refine rl ?_;refine o1 ?_;refine nl ?_;refine rt ?_
 exact en (.inl rfl) rfl (bI (aZ _)) (by decide) (fun _=>trivial) (congrArg (fun z=>FV.one (tv (.string z))) (congrArg aA (Zt hd hv h3)))
theorem Rz:CallOk Tryz.prog 145:=.mk Tryz.func145 (by decide) rfl
theorem Sa:CallOk Tryz.prog 179:=.mk Tryz.func179 (by decide) rfl
theorem yF {B:Nat}{l:List Nat}(h:Lim B l) (k:Nat):Lim B (l.take k):=fun x hx=>h x (List.mem_of_mem_take hx)
theorem BB {l:List Nat}(h:Lim 256 l):((aA (l.take 1)).toList==(⟨#[45]⟩:ByteArray).toList)=decide (l.take 1=[45]):=gO (l':=[45]) (yF h 1) (Lim.cons (by omega) Lim.nil)
theorem BC {l:List Nat}(h:¬1≤l.length):false=decide (l.take 1=[45]):=by
 rw[List.eq_nil_of_length_eq_zero (show l.length=0 by omega)];rfl
theorem Dx {l:List Nat}(hl:Lim 256 l):aE true Tryz.prog 145 [] [.one (tv (.string (aA l))),.one (tv (.string ⟨#[45]⟩))] (aI (.one (tv (.bool (decide (l.take 1=[45])))))):=by
 refine bQ Tryz.func145 rfl Tryz.ntmps145 rfl aB rfl fun N9 w9 c0 h0=>?_
 refine sq ?_;refine rl ?_;refine o1 ?_;refine nl ?_;refine sq ?_;refine rl ?_;refine o1 ?_;refine o1 ?_
 refine WL.cast (t:=6) (u':=.int .i64 ((l.length:Nat):Int)) rfl (congrArg (fun n:Nat=>Value.int .i64 (n:Int)) (aH _)) ?_
 refine o1 ?_;refine o1 ?_;refine WL.cast (t:=8) (u':=.int .i64 ((1:Nat):Int)) rfl rfl ?_;refine o1 ?_;refine o1 ?_;refine WL.split (t:=10) rfl (fun h1=>?_) (fun h1=>?_)
 ·(iterate 3 refine o1 ?_);refine WL.cast (t:=13) (u':=.int .i64 ((1:Nat):Int)) rfl rfl ?_;refine o1 ?_ (hC:=(by rw[aH];show 1≤l.length;omega))
  refine WL.cast (t:=14) (u':=.string (aA (l.take 1))) rfl (congrArg Value.string ((gB l 0 1).trans rfl)) ?_;refine o1 ?_;refine o1 ?_
  refine WL.cast (t:=16) (u':=.bool (decide (l.take 1=[45]))) rfl (congrArg Value.bool (BB hl)) ?_;refine o1 ?_;refine o1 ?_;refine nl ?_;refine rt ?_;exact gV (.inl rfl) rfl (rfl)
 (iterate 6 refine dE ?_);refine o1 ?_;refine o1 ?_;refine nl ?_;refine rt ?_;exact gV (.inl rfl) rfl (BC (by omega))
theorem Vo {l:List Nat}(h:l.take 1=[45]):1≤l.length:=by
 have:=congrArg List.length h
 rw[List.length_take]at this
 simp at this
 omega
theorem Dy {l:List Nat}(hl:Lim 256 l):aE true Tryz.prog 179 [] [.one (tv (.string (aA l))),.one (tv (.string ⟨#[45]⟩))] (aI (.tup [.one (tv (.string (aA (if l.take 1=[45]then l.drop 1 else l)))),.one (tv (.bool (decide (l.take 1=[45]))))])):=by
 refine bQ Tryz.func179 rfl Tryz.ntmps179 rfl aB rfl fun N9 w9 c0 h0=>?_
 refine sq ?_;refine rl ?_;refine o1 ?_;refine o1 ?_;refine nl ?_;refine sq ?_;refine sq ?_;refine rl ?_;refine o1 ?_;refine o1 ?_
 refine ca (Dx hl) Rz ⟨a1 rfl,a1 rfl,rfl⟩ (.one (tv (.bool (decide (l.take 1=[45]))))) ?_;refine WL.splitb (t:=8) rfl (fun h1=>?_) (fun h1=>?_)
 ·refine o1 ?_;refine nl ?_;refine kH rfl ?_;refine sk ?_;refine sq ?_;have h9:=of_decide_eq_true h1
  refine rl ?_;(iterate 3 refine o1 ?_);refine WL.cast (t:=13) (u':=.int .i64 ((1:Nat):Int)) rfl rfl ?_;refine o1 ?_ (hC:=(by rw[aH];show 1≤l.length;exact Vo h9))
  refine WL.cast (t:=14) (u':=.string (aA (l.drop 1))) rfl (congrArg Value.string (fV _ _)) ?_;refine o1 ?_;refine o1 ?_;refine nl ?_;refine rt ?_
  exact en (.inl rfl) rfl (dP (.cons (aZ _) (.cons (aZ _) .nil))) (by decide) (fun _=>⟨trivial,trivial,trivial⟩) (by rw[if_pos (of_decide_eq_true h1),h1];rfl)
 refine o1 ?_;refine nl ?_;refine jH rfl ?_;refine sq ?_;refine rl ?_;(iterate 3 refine o1 ?_);refine nl ?_;refine rt ?_
 exact en (.inl rfl) rfl (dP (.cons (aZ _) (.cons (aZ _) .nil))) (by decide) (fun _=>⟨trivial,trivial,trivial⟩) (by rw[if_neg (of_decide_eq_false h1),h1];rfl)
theorem Dz {l:List Nat}(hl:Lim 256 l):aE true Tryz.prog 163 [] [.one (tv (.string (aA l))),.one (tv (.string ⟨#[45]⟩))] (aI (.tup [.one (tv (.string (aA (if l.take 1=[45]then l.drop 1 else l)))),.one (tv (.bool (decide (l.take 1=[45]))))])):=by
 refine bQ Tryz.func163 rfl Tryz.ntmps163 rfl aB rfl fun N9 w9 c0 h0=>?_
 refine sq ?_;refine rl ?_;refine o1 ?_;refine o1 ?_;refine nl ?_;refine sq ?_;refine rl ?_;refine o1 ?_;refine o1 ?_
 refine ca (Dy hl) Sa ⟨a1 rfl,a1 rfl,rfl⟩ (.tup [.one (tv (.string (aA (if l.take 1=[45]then l.drop 1 else l)))),.one (tv (.bool (decide (l.take 1=[45]))))]) ?_
 (iterate 4 refine o1 ?_);refine nl ?_;refine rt ?_;exact en (.inl rfl) rfl (dP (.cons (aZ _) (.cons (aZ _) .nil))) (by decide) (fun _=>⟨trivial,trivial,trivial⟩) rfl
theorem Vp {l:List Nat}(h:Lim 256 l):((aA (l.take 1)).toList==(⟨#[46]⟩:ByteArray).toList)=decide (l.take 1=[46]):=gO (l':=[46]) (yF h 1) (Lim.cons (by omega) Lim.nil)
theorem Vq {l:List Nat}(h:¬1≤l.length):false=decide (l.take 1=[46]):=by
 rw[List.eq_nil_of_length_eq_zero (show l.length=0 by omega)];rfl
theorem Sb:CallOk Tryz.prog 128:=.mk Tryz.func128 (by decide) rfl
theorem IP:CallOk Tryz.prog 76:=.mk Tryz.func76 (by decide) rfl
theorem EZ:CallOk Tryz.prog 111:=.mk Tryz.func111 (by decide) rfl
def hH (c:Nat) (l:List Nat):Bool:=decide (l.drop (l.length-1)=[c])
def cK (c:Nat) (l:List Nat):List Nat:=if l.drop (l.length-1)=[c]then l.take (l.length-1)else l
theorem Sc {c:Nat}{l:List Nat}(hc:c<256) (h:Lim 256 l):((aA (l.drop (l.length-1))).toList==(aA [c]).toList)=hH c l:=gO (jR h _) (Lim.cons hc Lim.nil)
theorem Sd {c:Nat}{l:List Nat}(h:¬1≤l.length):false=hH c l:=by
 unfold hH
 rw[List.eq_nil_of_length_eq_zero (show l.length=0 by omega)]
 rfl
theorem Mw {c:Nat}{l:List Nat}(h:hH c l=true):1≤l.length:=by
 have:=congrArg List.length (of_decide_eq_true h)
 rw[List.length_drop]at this
 simp at this
 omega
theorem Mx {c:Nat}{l:List Nat}(h:hH c l=true):l.take (l.length-1)=cK c l:=(if_pos (of_decide_eq_true h)).symm
theorem Se {c:Nat}{l:List Nat}(h:hH c l=false):l=cK c l:=(if_neg (of_decide_eq_false h)).symm
theorem Kd {B c:Nat}{l:List Nat}(h:Lim B l):Lim B (cK c l):=by
 unfold cK
 split
 ·exact fun x hx=>h x (List.mem_of_mem_take hx)
 exact h
theorem Ac {c:Nat}{l:List Nat}:(cK c l).length≤l.length:=by
 unfold cK
 split
 ·rw[List.length_take];omega
 exact Nat.le_refl _
theorem Cr {l:List Nat}(hl:Lim 256 l):aE true Tryz.prog 145 [] [.one (tv (.string (aA l))),.one (tv (.string ⟨#[46]⟩))] (aI (.one (tv (.bool (decide (l.take 1=[46])))))):=by
 refine bQ Tryz.func145 rfl Tryz.ntmps145 rfl aB rfl fun N9 w9 c0 h0=>?_
 refine sq ?_;refine rl ?_;refine o1 ?_;refine nl ?_;refine sq ?_;refine rl ?_;refine o1 ?_;refine o1 ?_
 refine WL.cast (t:=6) (u':=.int .i64 ((l.length:Nat):Int)) rfl (congrArg (fun n:Nat=>Value.int .i64 (n:Int)) (aH _)) ?_
 refine o1 ?_;refine o1 ?_;refine WL.cast (t:=8) (u':=.int .i64 ((1:Nat):Int)) rfl rfl ?_;refine o1 ?_;refine o1 ?_;refine WL.split (t:=10) rfl (fun h1=>?_) (fun h1=>?_)
 ·(iterate 3 refine o1 ?_);refine WL.cast (t:=13) (u':=.int .i64 ((1:Nat):Int)) rfl rfl ?_;refine o1 ?_ (hC:=(by rw[aH];show 1≤l.length;omega))
  refine WL.cast (t:=14) (u':=.string (aA (l.take 1))) rfl (congrArg Value.string ((gB l 0 1).trans rfl)) ?_;refine o1 ?_;refine o1 ?_
  refine WL.cast (t:=16) (u':=.bool (decide (l.take 1=[46]))) rfl (congrArg Value.bool (Vp hl)) ?_;refine o1 ?_;refine o1 ?_;refine nl ?_;refine rt ?_;exact gV (.inl rfl) rfl (rfl)
 (iterate 6 refine dE ?_);refine o1 ?_;refine o1 ?_;refine nl ?_;refine rt ?_;exact gV (.inl rfl) rfl (Vq (by omega))
theorem Pz {l:List Nat}(h:l.take 1=[46]):1≤l.length:=by
 have:=congrArg List.length h
 rw[List.length_take]at this
 simp at this
 omega
theorem Cs {l:List Nat}(hl:Lim 256 l):aE true Tryz.prog 179 [] [.one (tv (.string (aA l))),.one (tv (.string ⟨#[46]⟩))] (aI (.tup [.one (tv (.string (aA (if l.take 1=[46]then l.drop 1 else l)))),.one (tv (.bool (decide (l.take 1=[46]))))])):=by
 refine bQ Tryz.func179 rfl Tryz.ntmps179 rfl aB rfl fun N9 w9 c0 h0=>?_
 refine sq ?_;refine rl ?_;refine o1 ?_;refine o1 ?_;refine nl ?_;refine sq ?_;refine sq ?_;refine rl ?_;refine o1 ?_;refine o1 ?_
 refine ca (Cr hl) Rz ⟨a1 rfl,a1 rfl,rfl⟩ (.one (tv (.bool (decide (l.take 1=[46]))))) ?_;refine WL.splitb (t:=8) rfl (fun h1=>?_) (fun h1=>?_)
 ·refine o1 ?_;refine nl ?_;refine kH rfl ?_;refine sk ?_;refine sq ?_;have h9:=of_decide_eq_true h1
  refine rl ?_;(iterate 3 refine o1 ?_);refine WL.cast (t:=13) (u':=.int .i64 ((1:Nat):Int)) rfl rfl ?_;refine o1 ?_ (hC:=(by rw[aH];show 1≤l.length;exact Pz h9))
  refine WL.cast (t:=14) (u':=.string (aA (l.drop 1))) rfl (congrArg Value.string (fV _ _)) ?_;refine o1 ?_;refine o1 ?_;refine nl ?_;refine rt ?_
  exact en (.inl rfl) rfl (dP (.cons (aZ _) (.cons (aZ _) .nil))) (by decide) (fun _=>⟨trivial,trivial,trivial⟩) (by rw[if_pos (of_decide_eq_true h1),h1];rfl)
 refine o1 ?_;refine nl ?_;refine jH rfl ?_;refine sq ?_;refine rl ?_;(iterate 3 refine o1 ?_);refine nl ?_;refine rt ?_
 exact en (.inl rfl) rfl (dP (.cons (aZ _) (.cons (aZ _) .nil))) (by decide) (fun _=>⟨trivial,trivial,trivial⟩) (by rw[if_neg (of_decide_eq_false h1),h1];rfl)
theorem Ct {l:List Nat}(hl:Lim 256 l):aE true Tryz.prog 163 [] [.one (tv (.string (aA l))),.one (tv (.string ⟨#[46]⟩))] (aI (.tup [.one (tv (.string (aA (if l.take 1=[46]then l.drop 1 else l)))),.one (tv (.bool (decide (l.take 1=[46]))))])):=by
 refine bQ Tryz.func163 rfl Tryz.ntmps163 rfl aB rfl fun N9 w9 c0 h0=>?_
 refine sq ?_;refine rl ?_;refine o1 ?_;refine o1 ?_;refine nl ?_;refine sq ?_;refine rl ?_;refine o1 ?_;refine o1 ?_
 refine ca (Cs hl) Sa ⟨a1 rfl,a1 rfl,rfl⟩ (.tup [.one (tv (.string (aA (if l.take 1=[46]then l.drop 1 else l)))),.one (tv (.bool (decide (l.take 1=[46]))))]) ?_
 (iterate 4 refine o1 ?_);refine nl ?_;refine rt ?_;exact en (.inl rfl) rfl (dP (.cons (aZ _) (.cons (aZ _) .nil))) (by decide) (fun _=>⟨trivial,trivial,trivial⟩) rfl
theorem Cu {l:List Nat}(hl:Lim 256 l) (hn:l.length≤1000000000):aE true Tryz.prog 128 [] [.one (tv (.string (aA l))),.one (tv (.string ⟨#[37]⟩))] (aI (.one (tv (.bool (hH 37 l))))):=by
 refine bQ Tryz.func128 rfl Tryz.ntmps128 rfl aB rfl fun N9 w9 c0 h0=>?_
 refine sq ?_;refine rl ?_;refine o1 ?_;refine nl ?_;refine sq ?_;refine rl ?_;refine o1 ?_;refine o1 ?_
 refine WL.cast (t:=6) (u':=.int .i64 ((l.length:Nat):Int)) rfl (congrArg (fun n:Nat=>Value.int .i64 (n:Int)) (aH _)) ?_
 refine o1 ?_;refine o1 ?_;refine WL.cast (t:=8) (u':=.int .i64 ((1:Nat):Int)) rfl rfl ?_;refine o1 ?_;refine o1 ?_;refine WL.split (t:=10) rfl (fun h1=>?_) (fun h1=>?_)
 ·(iterate 3 refine o1 ?_);refine WL.cast (t:=13) (u':=.int .i64 ((l.length:Nat):Int)) rfl (congrArg (fun n:Nat=>Value.int .i64 (n:Int)) (aH _)) ?_
  refine o1 ?_;refine o1 ?_;refine WL.cast (t:=15) (u':=.int .i64 ((1:Nat):Int)) rfl rfl ?_;refine o1 ?_
  refine WL.cast (t:=16) (u':=.int .i64 ((l.length-1:Nat):Int)) rfl (bO (by omega)) ?_
  refine o1 ?_ (hC:=(by rw[aH];omega))
  refine WL.cast (t:=17) (u':=.string (aA (l.drop (l.length-1)))) rfl (congrArg Value.string (fV _ _)) ?_;refine o1 ?_;refine o1 ?_
  refine WL.cast (t:=19) (u':=.bool (hH 37 l)) rfl (congrArg Value.bool (Sc (c:=37) (by omega) hl)) ?_
  refine o1 ?_;refine o1 ?_;refine nl ?_;refine rt ?_;exact gV (.inl rfl) rfl (rfl)
 (iterate 9 refine dE ?_);refine o1 ?_;refine o1 ?_;refine nl ?_;refine rt ?_;exact gV (.inl rfl) rfl (Sd (by omega))
theorem Cv {l:List Nat}(hl:Lim 256 l) (hn:l.length≤1000000000):aE true Tryz.prog 76 [] [.one (tv (.string (aA l))),.one (tv (.string ⟨#[37]⟩))] (aI (.tup [.one (tv (.string (aA (cK 37 l)))),.one (tv (.bool (hH 37 l)))])):=by
 refine bQ Tryz.func76 rfl Tryz.ntmps76 rfl aB rfl fun N9 w9 c0 h0=>?_
 refine sq ?_;refine rl ?_;refine o1 ?_;refine o1 ?_;refine nl ?_;refine sq ?_;refine sq ?_;refine rl ?_;refine o1 ?_;refine o1 ?_
 refine ca (Cu hl hn) Sb ⟨a1 rfl,a1 rfl,rfl⟩ (.one (tv (.bool (hH 37 l)))) ?_;refine WL.splitb (t:=8) rfl (fun h1=>?_) (fun h1=>?_)
 ·refine o1 ?_;refine nl ?_;refine kH rfl ?_;refine sk ?_;refine sq ?_;have h9:=Mw h1
  refine rl ?_;(iterate 3 refine o1 ?_);refine WL.cast (t:=13) (u':=.int .i64 ((l.length:Nat):Int)) rfl (congrArg (fun n:Nat=>Value.int .i64 (n:Int)) (aH _)) ?_
  refine o1 ?_;refine o1 ?_;refine WL.cast (t:=15) (u':=.int .i64 ((1:Nat):Int)) rfl rfl ?_;refine o1 ?_
  refine WL.cast (t:=16) (u':=.int .i64 ((l.length-1:Nat):Int)) rfl (bO (by omega)) ?_
  refine o1 ?_ (hC:=(by rw[aH];omega))
  refine WL.cast (t:=17) (u':=.string (aA (l.take (l.length-1)))) rfl (congrArg Value.string ((gB l 0 (l.length-1)).trans rfl)) ?_;refine o1 ?_;refine o1 ?_;refine nl ?_;refine rt ?_
  exact en (.inl rfl) rfl (dP (.cons (aZ _) (.cons (aZ _) .nil))) (by decide) (fun _=>⟨trivial,trivial,trivial⟩) (by rw[←Mx h1,h1];rfl)
 refine o1 ?_;refine nl ?_;refine jH rfl ?_;refine sq ?_;refine rl ?_;(iterate 3 refine o1 ?_);refine nl ?_;refine rt ?_
 exact en (.inl rfl) rfl (dP (.cons (aZ _) (.cons (aZ _) .nil))) (by decide) (fun _=>⟨trivial,trivial,trivial⟩) (by rw[←Se h1,h1];rfl)
theorem Cw {l:List Nat}(hl:Lim 256 l) (hn:l.length≤1000000000):aE true Tryz.prog 32 [] [.one (tv (.string (aA l))),.one (tv (.string ⟨#[37]⟩))] (aI (.tup [.one (tv (.string (aA (cK 37 l)))),.one (tv (.bool (hH 37 l)))])):=by
 refine bQ Tryz.func32 rfl Tryz.ntmps32 rfl aB rfl fun N9 w9 c0 h0=>?_
 refine sq ?_;refine rl ?_;refine o1 ?_;refine o1 ?_;refine nl ?_;refine sq ?_;refine rl ?_;refine o1 ?_;refine o1 ?_
 refine ca (Cv hl hn) IP ⟨a1 rfl,a1 rfl,rfl⟩ (.tup [.one (tv (.string (aA (cK 37 l)))),.one (tv (.bool (hH 37 l)))]) ?_;(iterate 4 refine o1 ?_);refine nl ?_;refine rt ?_
 exact en (.inl rfl) rfl (dP (.cons (aZ _) (.cons (aZ _) .nil))) (by decide) (fun _=>⟨trivial,trivial,trivial⟩) rfl
theorem Cy {l:List Nat}(hl:Lim 256 l) (hn:l.length≤1000000000):aE true Tryz.prog 128 [] [.one (tv (.string (aA l))),.one (tv (.string ⟨#[46]⟩))] (aI (.one (tv (.bool (hH 46 l))))):=by
 refine bQ Tryz.func128 rfl Tryz.ntmps128 rfl aB rfl fun N9 w9 c0 h0=>?_
 refine sq ?_;refine rl ?_;refine o1 ?_;refine nl ?_;refine sq ?_;refine rl ?_;refine o1 ?_;refine o1 ?_
 refine WL.cast (t:=6) (u':=.int .i64 ((l.length:Nat):Int)) rfl (congrArg (fun n:Nat=>Value.int .i64 (n:Int)) (aH _)) ?_
 refine o1 ?_;refine o1 ?_;refine WL.cast (t:=8) (u':=.int .i64 ((1:Nat):Int)) rfl rfl ?_;refine o1 ?_;refine o1 ?_;refine WL.split (t:=10) rfl (fun h1=>?_) (fun h1=>?_)
 ·(iterate 3 refine o1 ?_);refine WL.cast (t:=13) (u':=.int .i64 ((l.length:Nat):Int)) rfl (congrArg (fun n:Nat=>Value.int .i64 (n:Int)) (aH _)) ?_
  refine o1 ?_;refine o1 ?_;refine WL.cast (t:=15) (u':=.int .i64 ((1:Nat):Int)) rfl rfl ?_;refine o1 ?_
  refine WL.cast (t:=16) (u':=.int .i64 ((l.length-1:Nat):Int)) rfl (bO (by omega)) ?_
  refine o1 ?_ (hC:=(by rw[aH];omega))
  refine WL.cast (t:=17) (u':=.string (aA (l.drop (l.length-1)))) rfl (congrArg Value.string (fV _ _)) ?_;refine o1 ?_;refine o1 ?_
  refine WL.cast (t:=19) (u':=.bool (hH 46 l)) rfl (congrArg Value.bool (Sc (c:=46) (by omega) hl)) ?_
  refine o1 ?_;refine o1 ?_;refine nl ?_;refine rt ?_;exact gV (.inl rfl) rfl (rfl)
 (iterate 9 refine dE ?_);refine o1 ?_;refine o1 ?_;refine nl ?_;refine rt ?_;exact gV (.inl rfl) rfl (Sd (by omega))
theorem yR {l:List Nat}(hl:Lim 256 l) (hn:l.length≤1000000000):aE true Tryz.prog 111 [] [.one (tv (.string (aA l))),.one (tv (.string ⟨#[46]⟩))] (aI (.one (tv (.string (aA (cK 46 l)))))):=by
 refine bQ Tryz.func111 rfl Tryz.ntmps111 rfl aB rfl fun N9 w9 c0 h0=>?_
 refine sq ?_;refine rl ?_;refine o1 ?_;refine nl ?_;refine sq ?_;refine sq ?_;refine rl ?_;refine o1 ?_;refine o1 ?_
 refine ca (Cy hl hn) Sb ⟨a1 rfl,a1 rfl,rfl⟩ (.one (tv (.bool (hH 46 l)))) ?_;refine nl ?_;refine jG rfl (fun h1=>?_) (fun h1=>?_)
 ·refine sq ?_;have h9:=Mw h1
  refine rl ?_;(iterate 3 refine o1 ?_);refine WL.cast (t:=10) (u':=.int .i64 ((l.length:Nat):Int)) rfl (congrArg (fun n:Nat=>Value.int .i64 (n:Int)) (aH _)) ?_
  refine o1 ?_;refine o1 ?_;refine WL.cast (t:=12) (u':=.int .i64 ((1:Nat):Int)) rfl rfl ?_;refine o1 ?_
  refine WL.cast (t:=13) (u':=.int .i64 ((l.length-1:Nat):Int)) rfl (bO (by omega)) ?_
  refine o1 ?_ (hC:=(by rw[aH];omega))
  refine WL.cast (t:=14) (u':=.string (aA (l.take (l.length-1)))) rfl (congrArg Value.string ((gB l 0 (l.length-1)).trans rfl)) ?_;refine o1 ?_;refine nl ?_;refine rt ?_
  exact en (.inl rfl) rfl (bI (aZ _)) (by decide) (fun _=>trivial) (congrArg (fun z=>FV.one (tv (.string z))) (congrArg aA (Mx h1)))
 refine sk ?_;refine sq ?_;refine rl ?_;refine o1 ?_;refine o1 ?_;refine nl ?_;refine rt ?_
 exact en (.inl rfl) rfl (bI (aZ _)) (by decide) (fun _=>trivial) (congrArg (fun z=>FV.one (tv (.string z))) (congrArg aA (Se h1)))
theorem yM {l:List Nat}(hl:Lim 256 l) (hn:l.length≤1000000000):aE true Tryz.prog 57 [] [.one (tv (.string (aA l))),.one (tv (.string ⟨#[46]⟩))] (aI (.one (tv (.string (aA (cK 46 l)))))):=by
 refine bQ Tryz.func57 rfl Tryz.ntmps57 rfl aB rfl fun N9 w9 c0 h0=>?_
 refine sq ?_;refine rl ?_;refine o1 ?_;refine nl ?_;refine sq ?_;refine rl ?_;refine o1 ?_;refine o1 ?_
 refine ca (yR hl hn) EZ ⟨a1 rfl,a1 rfl,rfl⟩ (.one (tv (.string (aA (cK 46 l))))) ?_;refine o1 ?_;refine nl ?_;refine rt ?_
 exact en (.inl rfl) rfl (bI (aZ _)) (by decide) (fun _=>trivial) (congrArg (fun z=>FV.one (tv (.string z))) (rfl))
theorem sG {l:List Nat}(h:decide (l=[])=false):0<l.length:=by
 cases l with
 | nil=>simp at h
 | cons _ _=>simp
theorem Gm {l:List Nat}{j:Nat}(h:(!decide (l.drop j=[]))=true):j<l.length:=by
 rcases Nat.lt_or_ge j l.length with h1 | h1
 ·exact h1
 rw[List.drop_of_length_le h1]at h;simp at h
theorem Gn {l:List Nat}{j:Nat}(h:(!decide (l.drop j=[]))=false):l.length≤j:=by
 rcases Nat.lt_or_ge j l.length with h1 | h1
 ·have h2:=of_decide_eq_true (Ld h)
  have h3:=congrArg List.length h2
  rw[List.length_drop,List.length_nil]at h3
  omega
 exact h1
theorem Vr {l:List Nat}(hl:Lim 256 l) (hn:l.length≤9223372036854775807):aE true Tryz.prog 126 [] [.one (tv (.string (aA l)))] (aI (.tup [.one (.t (sU true (dg 4294967296 (Gj l)))),.one (tv (.int .i64 (pZ l)))])):=by
 refine bQ Tryz.func126 rfl Tryz.ntmps126 rfl aB rfl fun N9 w9 c0 h0=>?_
 refine sq ?_;refine rl ?_;refine o1 ?_;refine o1 ?_;refine nl ?_;refine sq ?_;refine bl ?_;refine sq ?_;refine sq ?_;refine rl ?_;refine o1 ?_;refine o1 ?_
 refine WL.cast (t:=10) (u':=.bool (decide (l=[]))) rfl (congrArg Value.bool (gJ hl)) ?_;refine o1 ?_;refine nl ?_;refine jG rfl (fun h1=>?_) (fun h1=>?_)
 ·refine sk ?_;refine jH (congrArg (fun b=>FV.one (tv (.bool b))) h1) ?_
  refine sq ?_;refine rl ?_;refine o1 ?_;refine o1 ?_;refine nl ?_;refine rt ?_;have he:=zJ (ES h1)
  exact en (.inl rfl) rfl (dP (.cons (.one (.nil (t:=115) (z:=1))) (.cons (aZ _) .nil))) (by decide) (fun _=>⟨.inl ⟨rfl,trivial⟩,trivial,trivial⟩) (by rw[he,sE (by rw[he];decide)];rfl)
 refine sq ?_;have hp9:=sG h1
 refine rl ?_;refine o1 ?_;refine o1 ?_
 refine WL.cast (t:=12) (u':=.bool (!decide (l=[48]))) rfl (congrArg Value.bool (congrArg not (gO (l':=[48]) hl (Lim.cons (by omega) Lim.nil)))) ?_
 refine o1 ?_;refine WL.splitb (t:=13) rfl (fun h2=>?_) (fun h2=>?_)
 ·refine o1 ?_;refine o1 ?_ (hC:=(by rw[aH];show 0<l.length;omega))
  refine WL.cast (t:=15) (u':=.int .u8 (((nth l 0):Nat):Int)) rfl (congrArg (fun n:Nat=>Value.int .u8 (n:Int)) (lD (i:=0) (by omega) (nP hl (by omega)))) ?_
  (iterate 3 refine o1 ?_);refine nl ?_;refine cY rfl (fun h3=>?_) (fun h3=>?_)
  ·refine sk ?_;refine cY rfl (fun h4=>?_) (fun h4=>?_)
   ·refine sq ?_;refine rl ?_;refine o1 ?_;refine o1 ?_;refine nl ?_;refine rt ?_;have he:=zJ (ET (Fu h2) (by omega))
    exact en (.inl rfl) rfl (dP (.cons (.one (.nil (t:=115) (z:=1))) (.cons (aZ _) .nil))) (by decide) (fun _=>⟨.inl ⟨rfl,trivial⟩,trivial,trivial⟩) (by rw[he,sE (by rw[he];decide)];rfl)
   omega
  refine rl ?_;refine o1 ?_;refine ca (Ci hn) Ia ⟨a1 rfl,a1 rfl,rfl⟩ (.one (tv (.string ⟨(Lib.trimS (aA l).data.toList [48,49,50,51,52,53,54,55,56,57]).toArray⟩))) ?_
  refine o1 ?_;refine WL.cast (t:=20) (u':=.bool (!pY l)) rfl (congrArg Value.bool (congrArg not (Gi hl))) ?_;refine o1 ?_;refine nl ?_;refine jG rfl (fun h5=>?_) (fun h5=>?_)
  ·refine sq ?_;refine rl ?_;refine o1 ?_;refine o1 ?_;refine nl ?_;refine rt ?_;have he:=zJ (Jb (Fu h5))
   exact en (.inl rfl) rfl (dP (.cons (.one (.nil (t:=115) (z:=1))) (.cons (aZ _) .nil))) (by decide) (fun _=>⟨.inl ⟨rfl,trivial⟩,trivial,trivial⟩) (by rw[he,sE (by rw[he];decide)];rfl)
  refine sq ?_;have hg:=vH h1 (.inr (by omega)) (Ld h5)
  have hdg:=Mm hg
  refine rl ?_;refine o1 ?_;refine o1 ?_;refine WL.cast (t:=23) (u':=.int .i64 ((l.length:Nat):Int)) rfl (congrArg (fun n:Nat=>Value.int .i64 (n:Int)) (aH _)) ?_
  refine o1 ?_;refine o1 ?_;refine nl ?_;refine cY rfl (fun h6=>?_) (fun h6=>?_)
  ·refine sq ?_;refine rl ?_;refine o1 ?_;refine o1 ?_;refine nl ?_;refine rt ?_;have he:=AO hg (by omega)
   exact en (.inl rfl) rfl (dP (.cons (.one (.nil (t:=115) (z:=1))) (.cons (aZ _) .nil))) (by decide) (fun _=>⟨.inl ⟨rfl,trivial⟩,trivial,trivial⟩) (by rw[he,sE (by rw[he];decide)];rfl)
  refine sk ?_;refine sq ?_;refine rl ?_;refine o1 ?_;refine nl ?_;refine sq ?_;refine sq ?_;refine rl ?_;refine o1 ?_;refine o1 ?_
  refine WL.cast (t:=26) (u':=.int .i64 ((l.length:Nat):Int)) rfl (congrArg (fun n:Nat=>Value.int .i64 (n:Int)) (aH _)) ?_
  refine o1 ?_;refine WL.cast (t:=27) (u':=.int .i64 ((l.length%9:Nat):Int)) rfl (bO (nN _ 9)) ?_;refine o1 ?_;refine nl ?_;refine bl ?_
  refine lp (γ:=Nat×Nat) (fun s=>dD [(0,.one (tv (.string (aA (l.drop s.1))))),(4,.one (.sl 0 0 ((dg 4294967296 (bK (l.take s.1))).length))),(5,.one (tv (.int .i64 ((s.2:Nat):Int))))]) (fun s=>[(⟨115,1,(aJ (dg 4294967296 (bK (l.take s.1)))).map .t⟩:Ob)].map some) (fun s=>s.1≤l.length∧(s.1=0∧s.2=l.length%9∨0<s.1∧s.2=9∧(l.length-s.1)%9=0)) (fun s=>l.length-s.1) (0,l.length%9) ⟨Nat.zero_le _,.inl ⟨rfl,rfl⟩⟩ ((nr (i:=4) 0 115 1 rfl rfl rfl rfl).trans (bS h0 [0] _ _ (by decide) ⟨rfl,rfl,rfl,trivial⟩ ⟨cR (l:=[]) rfl,rfl⟩)) ?_
  rintro⟨j,f⟩ ⟨hj,hf⟩;dsimp only at hj hf⊢;refine sq ?_;refine sq ?_;refine rl ?_;refine o1 ?_;refine o1 ?_
  refine WL.cast (t:=29) (u':=.bool (!decide (l.drop j=[]))) rfl (congrArg Value.bool (congrArg not (gJ (jR hl j)))) ?_;refine nl ?_
  refine jG rfl (fun h7=>?_) (fun h7=>?_)
  ·refine sk ?_;refine sq ?_;refine bl ?_;refine sq ?_;refine sq ?_;have hjl:=Gm h7
   refine rl ?_;refine o1 ?_;refine o1 ?_;refine nl ?_;refine cY rfl (fun h8=>?_) (fun h8=>?_)
   ·refine rl ?_;refine o1 ?_;refine nl ?_;refine sq ?_;refine rl ?_;refine o1 ?_;refine o1 ?_;refine o1 ?_ (hC:=(by rw[aH,List.length_drop];show 9≤l.length-j;omega))
    refine WL.cast (t:=35) (u':=.string (aA ((l.drop j).take 9))) rfl (congrArg Value.string ((gB _ 0 _).trans rfl)) ?_
    refine ca (vF (l:=((l.drop j).take 9)) (pM hdg j 9) (by rw[List.length_take,List.length_drop];omega) (by rw[List.length_take];omega)) zB ⟨a1 rfl,rfl⟩ (.tup [.one (tv (.int .i64 ((bK ((l.drop j).take 9):Nat):Int))),.one (tv .nilIface)]) ?_
    (iterate 5 refine o1 ?_);refine nl ?_;refine sq ?_;have hpl:=pN hdg (j:=j) (f:=9) (by omega) (by omega)
    have hpc:=mV (l:=l) (j:=j) (f:=9) (by omega) (by omega)
    have hl1:=oH hdg hj
    have hl2:=jD (bK (l.take j)) 1000000000
    have hl3:(dg 4294967296 1000000000).length≤1:=bM (by omega) (by decide)
    refine rl ?_;refine o1 ?_
    refine ca (vI (u:=bK (l.take j)) (m:=1000000000) (by omega) (by omega)) uP ⟨lZ rfl (.sl rfl rfl (jE _) (aQ _)),a1 rfl,rfl⟩ (.one (.t (sU false (dg 4294967296 (bK (l.take j)*1000000000))))) ?_
    refine o1 ?_;refine o1 ?_;refine WL.cast (t:=42) (u':=.int .u32 ((bK ((l.drop j).take 9):Nat):Int)) rfl (bO (by omega)) ?_
    refine bs 1 ?_
    refine gW 2 (vJ (u:=bK (l.take j)*1000000000) (x:=bK ((l.drop j).take 9)) (by omega) (by omega)) rZ ⟨a1 rfl,lZ rfl (.sl (trs:=aJ [bK ((l.drop j).take 9)]) rfl rfl rfl rfl),rfl⟩ ?_
    refine o1 ?_;refine nl ?_;refine rl ?_;refine o1 ?_;refine o1 ?_;refine o1 ?_ (hC:=(by rw[aH,List.length_drop];show 9≤l.length-j;omega))
    refine WL.cast (t:=47) (u':=.string (aA ((l.drop j).drop 9))) rfl (congrArg Value.string (fV _ _)) ?_;refine o1 ?_;refine nl ?_;refine rl ?_;refine o1 ?_;refine nl ?_
    exact⟨(j+9,9),by dsimp only;omega,⟨by dsimp only;omega,.inr ⟨by dsimp only;omega,rfl,by dsimp only;omega⟩⟩,bS h0 [2] _ _ (by decide) ⟨(congrArg (fun l:List Nat=>some (FV.one (tv (.string (aA l))))) (by rw[List.drop_drop])),(congrArg (fun z:Nat=>some (FV.one (.sl 2 0 (dg 4294967296 z).length))) hpc.symm),rfl,trivial⟩ ⟨cR (congrArg (fun z:Nat=>some (⟨115,1,(aJ (dg 4294967296 z)).map .t⟩:Ob)) hpc),rfl⟩⟩
   refine sk ?_;refine sq ?_;refine rl ?_;refine o1 ?_;refine o1 ?_;refine o1 ?_ (hC:=(by rw[aH,List.length_drop];show f≤l.length-j;omega))
   refine WL.cast (t:=35) (u':=.string (aA ((l.drop j).take f))) rfl (congrArg Value.string ((gB _ 0 _).trans rfl)) ?_
   refine ca (vF (l:=((l.drop j).take f)) (pM hdg j f) (by rw[List.length_take,List.length_drop];omega) (by rw[List.length_take];omega)) zB ⟨a1 rfl,rfl⟩ (.tup [.one (tv (.int .i64 ((bK ((l.drop j).take f):Nat):Int))),.one (tv .nilIface)]) ?_
   (iterate 5 refine o1 ?_);refine nl ?_;refine sq ?_;have hpl:=pN hdg (j:=j) (f:=f) (by omega) (by omega)
   have hpc:=mV (l:=l) (j:=j) (f:=f) (by omega) (by omega)
   have hl1:=oH hdg hj
   have hl2:=jD (bK (l.take j)) 1000000000
   have hl3:(dg 4294967296 1000000000).length≤1:=bM (by omega) (by decide)
   refine rl ?_;refine o1 ?_
   refine ca (vI (u:=bK (l.take j)) (m:=1000000000) (by omega) (by omega)) uP ⟨lZ rfl (.sl rfl rfl (jE _) (aQ _)),a1 rfl,rfl⟩ (.one (.t (sU false (dg 4294967296 (bK (l.take j)*1000000000))))) ?_
   refine o1 ?_;refine o1 ?_;refine WL.cast (t:=42) (u':=.int .u32 ((bK ((l.drop j).take f):Nat):Int)) rfl (bO (by omega)) ?_
   refine bs 1 ?_
   refine gW 2 (vJ (u:=bK (l.take j)*1000000000) (x:=bK ((l.drop j).take f)) (by omega) (by omega)) rZ ⟨a1 rfl,lZ rfl (.sl (trs:=aJ [bK ((l.drop j).take f)]) rfl rfl rfl rfl),rfl⟩ ?_
   refine o1 ?_;refine nl ?_;refine rl ?_;refine o1 ?_;refine o1 ?_;refine o1 ?_ (hC:=(by rw[aH,List.length_drop];show f≤l.length-j;omega))
   refine WL.cast (t:=47) (u':=.string (aA ((l.drop j).drop f))) rfl (congrArg Value.string (fV _ _)) ?_;refine o1 ?_;refine nl ?_;refine rl ?_;refine o1 ?_;refine nl ?_
   exact⟨(j+f,9),by dsimp only;omega,⟨by dsimp only;omega,.inr ⟨by dsimp only;omega,rfl,by dsimp only;omega⟩⟩,bS h0 [2] _ _ (by decide) ⟨(congrArg (fun l:List Nat=>some (FV.one (tv (.string (aA l))))) (by rw[List.drop_drop])),(congrArg (fun z:Nat=>some (FV.one (.sl 2 0 (dg 4294967296 z).length))) hpc.symm),rfl,trivial⟩ ⟨cR (congrArg (fun z:Nat=>some (⟨115,1,(aJ (dg 4294967296 z)).map .t⟩:Ob)) hpc),rfl⟩⟩
  refine ex ?_;refine sq ?_;refine rl ?_;(iterate 3 refine o1 ?_);refine nl ?_;refine rt ?_;have hjl:=Gn h7
  have he:=Pu hg (by omega)
  exact en (.inl rfl) rfl (dP (.cons (.one (.sl (trs:=aJ (dg 4294967296 (bK (l.take j)))) rfl rfl (bE _) (aQ _))) (.cons (aZ _) .nil))) (by decide) (fun _=>⟨.inl ⟨rfl,fI _⟩,trivial,trivial⟩) (by rw[he,Jc he,List.take_of_length_le hjl];rfl)
 (iterate 3 refine dE ?_);refine o1 ?_;refine o1 ?_;refine nl ?_;refine kH rfl ?_;refine rl ?_;refine o1 ?_
 refine ca (Ci hn) Ia ⟨a1 rfl,a1 rfl,rfl⟩ (.one (tv (.string ⟨(Lib.trimS (aA l).data.toList [48,49,50,51,52,53,54,55,56,57]).toArray⟩))) ?_;refine o1 ?_
 refine WL.cast (t:=20) (u':=.bool (!pY l)) rfl (congrArg Value.bool (congrArg not (Gi hl))) ?_;refine o1 ?_;refine nl ?_;refine jG rfl (fun h9=>?_) (fun h9=>?_)
 ·refine sq ?_;refine rl ?_;refine o1 ?_;refine o1 ?_;refine nl ?_;refine rt ?_;have he:=zJ (Jb (Fu h9))
  exact en (.inl rfl) rfl (dP (.cons (.one (.nil (t:=115) (z:=1))) (.cons (aZ _) .nil))) (by decide) (fun _=>⟨.inl ⟨rfl,trivial⟩,trivial,trivial⟩) (by rw[he,sE (by rw[he];decide)];rfl)
 refine sq ?_;have hg:=vH h1 (.inl (Ld h2)) (Ld h9)
 have hdg:=Mm hg
 refine rl ?_;refine o1 ?_;refine o1 ?_;refine WL.cast (t:=23) (u':=.int .i64 ((l.length:Nat):Int)) rfl (congrArg (fun n:Nat=>Value.int .i64 (n:Int)) (aH _)) ?_
 refine o1 ?_;refine o1 ?_;refine nl ?_;refine cY rfl (fun h10=>?_) (fun h10=>?_)
 ·refine sq ?_;refine rl ?_;refine o1 ?_;refine o1 ?_;refine nl ?_;refine rt ?_;have he:=AO hg (by omega)
  exact en (.inl rfl) rfl (dP (.cons (.one (.nil (t:=115) (z:=1))) (.cons (aZ _) .nil))) (by decide) (fun _=>⟨.inl ⟨rfl,trivial⟩,trivial,trivial⟩) (by rw[he,sE (by rw[he];decide)];rfl)
 refine sk ?_;refine sq ?_;refine rl ?_;refine o1 ?_;refine nl ?_;refine sq ?_;refine sq ?_;refine rl ?_;refine o1 ?_;refine o1 ?_
 refine WL.cast (t:=26) (u':=.int .i64 ((l.length:Nat):Int)) rfl (congrArg (fun n:Nat=>Value.int .i64 (n:Int)) (aH _)) ?_
 refine o1 ?_;refine WL.cast (t:=27) (u':=.int .i64 ((l.length%9:Nat):Int)) rfl (bO (nN _ 9)) ?_;refine o1 ?_;refine nl ?_;refine bl ?_
 refine lp (γ:=Nat×Nat) (fun s=>dD [(0,.one (tv (.string (aA (l.drop s.1))))),(4,.one (.sl 0 0 ((dg 4294967296 (bK (l.take s.1))).length))),(5,.one (tv (.int .i64 ((s.2:Nat):Int))))]) (fun s=>[(⟨115,1,(aJ (dg 4294967296 (bK (l.take s.1)))).map .t⟩:Ob)].map some) (fun s=>s.1≤l.length∧(s.1=0∧s.2=l.length%9∨0<s.1∧s.2=9∧(l.length-s.1)%9=0)) (fun s=>l.length-s.1) (0,l.length%9) ⟨Nat.zero_le _,.inl ⟨rfl,rfl⟩⟩ ((nr (i:=4) 0 115 1 rfl rfl rfl rfl).trans (bS h0 [0] _ _ (by decide) ⟨rfl,rfl,rfl,trivial⟩ ⟨cR (l:=[]) rfl,rfl⟩)) ?_
 rintro⟨j,f⟩ ⟨hj,hf⟩;dsimp only at hj hf⊢;refine sq ?_;refine sq ?_;refine rl ?_;refine o1 ?_;refine o1 ?_
 refine WL.cast (t:=29) (u':=.bool (!decide (l.drop j=[]))) rfl (congrArg Value.bool (congrArg not (gJ (jR hl j)))) ?_;refine nl ?_
 refine jG rfl (fun h11=>?_) (fun h11=>?_)
 ·refine sk ?_;refine sq ?_;refine bl ?_;refine sq ?_;refine sq ?_;have hjl:=Gm h11
  refine rl ?_;refine o1 ?_;refine o1 ?_;refine nl ?_;refine cY rfl (fun h12=>?_) (fun h12=>?_)
  ·refine rl ?_;refine o1 ?_;refine nl ?_;refine sq ?_;refine rl ?_;refine o1 ?_;refine o1 ?_;refine o1 ?_ (hC:=(by rw[aH,List.length_drop];show 9≤l.length-j;omega))
   refine WL.cast (t:=35) (u':=.string (aA ((l.drop j).take 9))) rfl (congrArg Value.string ((gB _ 0 _).trans rfl)) ?_
   refine ca (vF (l:=((l.drop j).take 9)) (pM hdg j 9) (by rw[List.length_take,List.length_drop];omega) (by rw[List.length_take];omega)) zB ⟨a1 rfl,rfl⟩ (.tup [.one (tv (.int .i64 ((bK ((l.drop j).take 9):Nat):Int))),.one (tv .nilIface)]) ?_
   (iterate 5 refine o1 ?_);refine nl ?_;refine sq ?_;have hpl:=pN hdg (j:=j) (f:=9) (by omega) (by omega)
   have hpc:=mV (l:=l) (j:=j) (f:=9) (by omega) (by omega)
   have hl1:=oH hdg hj
   have hl2:=jD (bK (l.take j)) 1000000000
   have hl3:(dg 4294967296 1000000000).length≤1:=bM (by omega) (by decide)
   refine rl ?_;refine o1 ?_
   refine ca (vI (u:=bK (l.take j)) (m:=1000000000) (by omega) (by omega)) uP ⟨lZ rfl (.sl rfl rfl (jE _) (aQ _)),a1 rfl,rfl⟩ (.one (.t (sU false (dg 4294967296 (bK (l.take j)*1000000000))))) ?_
   refine o1 ?_;refine o1 ?_;refine WL.cast (t:=42) (u':=.int .u32 ((bK ((l.drop j).take 9):Nat):Int)) rfl (bO (by omega)) ?_
   refine bs 1 ?_
   refine gW 2 (vJ (u:=bK (l.take j)*1000000000) (x:=bK ((l.drop j).take 9)) (by omega) (by omega)) rZ ⟨a1 rfl,lZ rfl (.sl (trs:=aJ [bK ((l.drop j).take 9)]) rfl rfl rfl rfl),rfl⟩ ?_
   refine o1 ?_;refine nl ?_;refine rl ?_;refine o1 ?_;refine o1 ?_;refine o1 ?_ (hC:=(by rw[aH,List.length_drop];show 9≤l.length-j;omega))
   refine WL.cast (t:=47) (u':=.string (aA ((l.drop j).drop 9))) rfl (congrArg Value.string (fV _ _)) ?_;refine o1 ?_;refine nl ?_;refine rl ?_;refine o1 ?_;refine nl ?_
   exact⟨(j+9,9),by dsimp only;omega,⟨by dsimp only;omega,.inr ⟨by dsimp only;omega,rfl,by dsimp only;omega⟩⟩,bS h0 [2] _ _ (by decide) ⟨(congrArg (fun l:List Nat=>some (FV.one (tv (.string (aA l))))) (by rw[List.drop_drop])),(congrArg (fun z:Nat=>some (FV.one (.sl 2 0 (dg 4294967296 z).length))) hpc.symm),rfl,trivial⟩ ⟨cR (congrArg (fun z:Nat=>some (⟨115,1,(aJ (dg 4294967296 z)).map .t⟩:Ob)) hpc),rfl⟩⟩
  refine sk ?_;refine sq ?_;refine rl ?_;refine o1 ?_;refine o1 ?_;refine o1 ?_ (hC:=(by rw[aH,List.length_drop];show f≤l.length-j;omega))
  refine WL.cast (t:=35) (u':=.string (aA ((l.drop j).take f))) rfl (congrArg Value.string ((gB _ 0 _).trans rfl)) ?_
  refine ca (vF (l:=((l.drop j).take f)) (pM hdg j f) (by rw[List.length_take,List.length_drop];omega) (by rw[List.length_take];omega)) zB ⟨a1 rfl,rfl⟩ (.tup [.one (tv (.int .i64 ((bK ((l.drop j).take f):Nat):Int))),.one (tv .nilIface)]) ?_
  (iterate 5 refine o1 ?_);refine nl ?_;refine sq ?_;have hpl:=pN hdg (j:=j) (f:=f) (by omega) (by omega)
  have hpc:=mV (l:=l) (j:=j) (f:=f) (by omega) (by omega)
  have hl1:=oH hdg hj
  have hl2:=jD (bK (l.take j)) 1000000000
  have hl3:(dg 4294967296 1000000000).length≤1:=bM (by omega) (by decide)
  refine rl ?_;refine o1 ?_
  refine ca (vI (u:=bK (l.take j)) (m:=1000000000) (by omega) (by omega)) uP ⟨lZ rfl (.sl rfl rfl (jE _) (aQ _)),a1 rfl,rfl⟩ (.one (.t (sU false (dg 4294967296 (bK (l.take j)*1000000000))))) ?_
  refine o1 ?_;refine o1 ?_;refine WL.cast (t:=42) (u':=.int .u32 ((bK ((l.drop j).take f):Nat):Int)) rfl (bO (by omega)) ?_
  refine bs 1 ?_
  refine gW 2 (vJ (u:=bK (l.take j)*1000000000) (x:=bK ((l.drop j).take f)) (by omega) (by omega)) rZ ⟨a1 rfl,lZ rfl (.sl (trs:=aJ [bK ((l.drop j).take f)]) rfl rfl rfl rfl),rfl⟩ ?_
  refine o1 ?_;refine nl ?_;refine rl ?_;refine o1 ?_;refine o1 ?_;refine o1 ?_ (hC:=(by rw[aH,List.length_drop];show f≤l.length-j;omega))
  refine WL.cast (t:=47) (u':=.string (aA ((l.drop j).drop f))) rfl (congrArg Value.string (fV _ _)) ?_;refine o1 ?_;refine nl ?_;refine rl ?_;refine o1 ?_;refine nl ?_
  exact⟨(j+f,9),by dsimp only;omega,⟨by dsimp only;omega,.inr ⟨by dsimp only;omega,rfl,by dsimp only;omega⟩⟩,bS h0 [2] _ _ (by decide) ⟨(congrArg (fun l:List Nat=>some (FV.one (tv (.string (aA l))))) (by rw[List.drop_drop])),(congrArg (fun z:Nat=>some (FV.one (.sl 2 0 (dg 4294967296 z).length))) hpc.symm),rfl,trivial⟩ ⟨cR (congrArg (fun z:Nat=>some (⟨115,1,(aJ (dg 4294967296 z)).map .t⟩:Ob)) hpc),rfl⟩⟩
 refine ex ?_;refine sq ?_;refine rl ?_;(iterate 3 refine o1 ?_);refine nl ?_;refine rt ?_;have hjl:=Gn h11
 have he:=Pu hg (by omega)
 exact en (.inl rfl) rfl (dP (.cons (.one (.sl (trs:=aJ (dg 4294967296 (bK (l.take j)))) rfl rfl (bE _) (aQ _))) (.cons (aZ _) .nil))) (by decide) (fun _=>⟨.inl ⟨rfl,fI _⟩,trivial,trivial⟩) (by rw[he,Jc he,List.take_of_length_le hjl];rfl)
theorem oJ {p:Rat}{L:Nat}(h:Sz L p) (hL:L≤68719476736:=by omega):Zg (.of p.num) p.num:=.of (Nat.le_trans h.1 (by omega))
theorem iD {p:Rat}{L:Nat}(h:Sz L p) (hL:L≤68719476736:=by omega):Zg ⟨false,dg 4294967296 p.den⟩ (p.den:Int):=⟨bC (by omega) _,Nat.le_trans h.2 (by omega),jS p.den⟩
theorem zK {q:Rat}{n d:Int}(h1:q.num=n) (h2:(q.den:Int)=d):FV.agg [tv (.bool (aW n)),.t (sU true (dg 4294967296 n.natAbs)),tv (.bool (aW d)),.t (sU true (dg 4294967296 d.natAbs))]=qO q:=by
 subst h1 h2
 rw[sD]
 rfl
theorem rG {a b:Zi}{k k':Int}(ha:Zg a k) (hb:Zg b k') (hz0:k'≠0):aE true Tryz.prog 110 [] [gF a,gF b] (aI (qO (Rat.divInt k k'))):=by
 refine bQ Tryz.func110 rfl Tryz.ntmps110 rfl aB rfl fun N w c0 h0=>?_
 have hkl:=ha.len
 have hkl':=hb.len
 have hgl:(dg 4294967296 ((Int.gcd k k':Nat):Int).natAbs).length≤300000000000:=Nat.le_trans (dK (Nat.le_of_dvd (by omega) (Nat.gcd_dvd_right ..))) hkl'
 have hng:=mG ((Int.gcd k k':Nat):Int)
 have hg0:((Int.gcd k k':Nat):Int)≠0:=fun e=>hz0 (Int.gcd_eq_zero_iff.1 (show Int.gcd k k'=0 by omega)).2
 refine sq ?_;refine rl ?_;refine bx 0 ?_;refine bx 1 ?_;refine al 2 ?_;refine nl ?_;refine sq ?_;refine rl ?_;refine ld ?_;refine ld ?_
 refine ca (Rr ha hb) Rc ⟨aD rfl,aD rfl,rfl⟩ (kF (((Int.gcd k k':Nat):Int))) ?_;refine al 3 ?_;refine st ?_;refine nl ?_;refine sq ?_;refine sq ?_;refine rl ?_;refine ld ?_
 refine ca (oG hb) wT ⟨aD rfl,rfl⟩ (.one (tv (.int .i64 k'.sign))) ?_;refine o1 ?_;refine nl ?_;refine cY rfl (fun h1=>?_) (fun h1=>?_)
 ·refine rl ?_;refine ld ?_;refine ca (Rq (Zg.of (k:=((Int.gcd k k':Nat):Int)) hgl)) Za ⟨aD rfl,rfl⟩ (kF (-(((Int.gcd k k':Nat):Int)))) ?_;refine st ?_;refine nl ?_;refine sq ?_
  refine rl ?_;refine ld ?_;refine ld ?_;refine gW 4 (mH ha (Zg.of (k:=(-(((Int.gcd k k':Nat):Int)))) (by omega)) (by omega)) uO ⟨aD rfl,aD rfl,rfl⟩ ?_
  (iterate 4 refine o1 ?_);refine al 6 ?_;refine al 7 ?_;refine st ?_;refine st ?_;refine o1 ?_;refine nl ?_;refine sq ?_;refine rl ?_;refine ld ?_;refine ld ?_
  refine gW 8 (mH hb (Zg.of (k:=(-(((Int.gcd k k':Nat):Int)))) (by omega)) (by omega)) uO ⟨aD rfl,aD rfl,rfl⟩ ?_
  (iterate 4 refine o1 ?_);refine al 10 ?_;refine al 11 ?_;refine st ?_;refine st ?_;refine o1 ?_;refine nl ?_;refine sq ?_;refine rl ?_;refine ld ?_;refine ld ?_;refine o1 ?_
  refine st ?_;refine nl ?_;refine rt ?_;have hk9:k'<0:=by
   rcases Int.lt_trichotomy k' 0 with h8 | h8 | h8
   ·exact h8
   ·exact absurd h8 hz0
   rw[Int.sign_eq_one_of_pos h8]at h1;omega
  have h9:=Cf (N:=k) (D:=k') hk9
  exact en (.inl rfl) rfl (bI (.agg (.cons (.id rfl) (.cons (.sl (trs:=aJ (dg 4294967296 (((k).fdiv (-(((Int.gcd k k':Nat):Int))))).natAbs)) rfl rfl (bE _) (aQ _)) (.cons (.id rfl) (.cons (.sl (trs:=aJ (dg 4294967296 (((k').fdiv (-(((Int.gcd k k':Nat):Int))))).natAbs)) rfl rfl (bE _) (aQ _)) (.nil))))))) (by decide) (fun _=>vC (⟨aW ((k).fdiv (-(((Int.gcd k k':Nat):Int)))),dg 4294967296 (((k).fdiv (-(((Int.gcd k k':Nat):Int))))).natAbs,aW ((k').fdiv (-(((Int.gcd k k':Nat):Int)))),dg 4294967296 (((k').fdiv (-(((Int.gcd k k':Nat):Int))))).natAbs⟩:Fr4)) (zK h9.1 h9.2)
 refine sk ?_;refine sq ?_;refine rl ?_;refine ld ?_;refine ld ?_;refine gW 4 (mH ha (Zg.of (k:=((Int.gcd k k':Nat):Int)) (by omega)) (by omega)) uO ⟨aD rfl,aD rfl,rfl⟩ ?_
 (iterate 4 refine o1 ?_);refine al 6 ?_;refine al 7 ?_;refine st ?_;refine st ?_;refine o1 ?_;refine nl ?_;refine sq ?_;refine rl ?_;refine ld ?_;refine ld ?_
 refine gW 8 (mH hb (Zg.of (k:=((Int.gcd k k':Nat):Int)) (by omega)) (by omega)) uO ⟨aD rfl,aD rfl,rfl⟩ ?_
 (iterate 4 refine o1 ?_);refine al 10 ?_;refine al 11 ?_;refine st ?_;refine st ?_;refine o1 ?_;refine nl ?_;refine sq ?_;refine rl ?_;refine ld ?_;refine ld ?_;refine o1 ?_
 refine st ?_;refine nl ?_;refine rt ?_;have hk9:0<k':=by
  rcases Int.lt_trichotomy k' 0 with h8 | h8 | h8
  ·rw[Int.sign_eq_neg_one_of_neg h8]at h1;omega
  ·exact absurd h8 hz0
  exact h8
 have h9:=pJ (N:=k) (D:=k') hk9
 exact en (.inl rfl) rfl (bI (.agg (.cons (.id rfl) (.cons (.sl (trs:=aJ (dg 4294967296 (((k).fdiv ((Int.gcd k k':Nat):Int))).natAbs)) rfl rfl (bE _) (aQ _)) (.cons (.id rfl) (.cons (.sl (trs:=aJ (dg 4294967296 (((k').fdiv ((Int.gcd k k':Nat):Int))).natAbs)) rfl rfl (bE _) (aQ _)) (.nil))))))) (by decide) (fun _=>vC (⟨aW ((k).fdiv ((Int.gcd k k':Nat):Int)),dg 4294967296 (((k).fdiv ((Int.gcd k k':Nat):Int))).natAbs,aW ((k').fdiv ((Int.gcd k k':Nat):Int)),dg 4294967296 (((k').fdiv ((Int.gcd k k':Nat):Int))).natAbs⟩:Fr4)) (zK h9.1 h9.2)
theorem Jf {p q:Rat}(hp:Sz 68719476736 p) (hq:Sz 68719476736 q):aE true Tryz.prog 66 [] [qF (.of p),qF (.of q)] (aI (qO (p+q))):=by
 refine bQ Tryz.func66 rfl Tryz.ntmps66 rfl aB rfl fun N w c0 h0=>?_
 have z1:=(oJ hp).len;have z2:=(oJ hq).len;have z3:=(iD hp).len;have z4:=(iD hq).len
 have y1:(dg 4294967296 p.num.natAbs).length≤68719476736:=hp.1;have y2:(dg 4294967296 q.num.natAbs).length≤68719476736:=hq.1;have y3:(dg 4294967296 p.den).length≤68719476736:=hp.2;have y4:(dg 4294967296 q.den).length≤68719476736:=hq.2;have y5:(dg 4294967296 (p.den:Int).natAbs).length≤68719476736:=hp.2;have y6:(dg 4294967296 (q.den:Int).natAbs).length≤68719476736:=hq.2
 refine sq ?_;refine rl ?_;refine bx 0 ?_;refine bx 1 ?_;refine al 2 ?_;refine nl ?_;refine sq ?_;refine sq ?_;refine rl ?_;refine o1 ?_;refine ld ?_;refine o1 ?_;refine ld ?_
 refine ca (zH (iD hp) (iD hq) (by have h8:=iH (p.den:Int) (-(q.den:Int));have h7:=mG (q.den:Int);rw[Int.natAbs_natCast]at h7 h8;rw[Int.sub_eq_add_neg];omega)) Bm ⟨aD rfl,aD rfl,rfl⟩ (.one (tv (.int .i64 ((p.den:Int)-(q.den:Int)).sign))) ?_
 refine o1 ?_;refine nl ?_;refine cY rfl (fun h1=>?_) (fun h1=>?_)
 ·refine sq ?_;refine rd [0,1,2] (fun i=>[8].contains i) mixed ?_
  refine dv 0 ?_;refine bD 1 ?_;refine dv 2 ?_;refine bD 3 ?_;refine dv 5 ?_;refine bD 6 ?_;have hn2:=iH (p.num) (q.num)
  refine aN 4 rfl (zG (oJ hp) (oJ hq)) zA ⟨aD rfl,aD rfl,rfl⟩ (kF (p.num+q.num)) ?_
  refine mU 3 7 rfl (rG (Zg.of (k:=(p.num+q.num)) (by omega)) (iD hp) (by have h8:=p.den_nz;have h7:=q.den_nz;first | omega | exact Int.mul_ne_zero (by omega) (by omega))) yZ ⟨aD rfl,aD rfl,rfl⟩ ?_
  refine dst 8 ?_;refine bJ ?_;refine rt ?_
  exact en (.inl rfl) rfl (bI (.agg (.cons (.id rfl) (.cons (.sl (trs:=aJ (dg 4294967296 (Rat.divInt ((p.num+q.num)) ((p.den:Int))).num.natAbs)) rfl rfl (bE _) (aQ _)) (.cons (.id rfl) (.cons (.sl (trs:=aJ (dg 4294967296 (Rat.divInt ((p.num+q.num)) ((p.den:Int))).den)) rfl rfl (bE _) (aQ _)) .nil)))))) (by decide) (fun _=>rD (Rat.divInt ((p.num+q.num)) ((p.den:Int)))) (by rw[show(Rat.divInt ((p.num+q.num)) ((p.den:Int)))=p+q from Po (by have h8:=Int.sign_eq_zero_iff_zero.1 h1;omega)];rfl)
 refine sk ?_;refine sq ?_;refine rd [0,1,2] (fun i=>[17].contains i) mixed ?_
 refine dv 0 ?_;refine bD 1 ?_;refine dv 2 ?_;refine bD 3 ?_;refine dv 5 ?_;refine bD 6 ?_;refine dv 7 ?_;refine bD 8 ?_;refine dv 11 ?_;refine bD 12 ?_;refine dv 13 ?_
 refine bD 14 ?_;have hn3:=fR (p.num) ((q.den:Int))
 refine aN 4 rfl (zI (oJ hp) (iD hq)) pD ⟨aD rfl,aD rfl,rfl⟩ (kF (p.num*(q.den:Int))) ?_;have hn4:=fR (q.num) ((p.den:Int))
 refine aN 9 rfl (zI (oJ hq) (iD hp)) pD ⟨aD rfl,aD rfl,rfl⟩ (kF (q.num*(p.den:Int))) ?_;have hn5:=iH ((p.num*(q.den:Int))) ((q.num*(p.den:Int)))
 refine aN 10 rfl (zG (Zg.of (k:=(p.num*(q.den:Int))) (by omega)) (Zg.of (k:=(q.num*(p.den:Int))) (by omega))) zA ⟨aD rfl,aD rfl,rfl⟩ (kF ((p.num*(q.den:Int))+(q.num*(p.den:Int)))) ?_
 have hn6:=fR ((p.den:Int)) ((q.den:Int))
 refine aN 15 rfl (zI (iD hp) (iD hq)) pD ⟨aD rfl,aD rfl,rfl⟩ (kF ((p.den:Int)*(q.den:Int))) ?_
 refine mU 3 16 rfl (rG (Zg.of (k:=((p.num*(q.den:Int))+(q.num*(p.den:Int)))) (by omega)) (Zg.of (k:=((p.den:Int)*(q.den:Int))) (by omega)) (by have h8:=p.den_nz;have h7:=q.den_nz;first | omega | exact Int.mul_ne_zero (by omega) (by omega))) yZ ⟨aD rfl,aD rfl,rfl⟩ ?_
 refine dst 17 ?_;refine bJ ?_;refine rt ?_
 exact en (.inl rfl) rfl (bI (.agg (.cons (.id rfl) (.cons (.sl (trs:=aJ (dg 4294967296 (Rat.divInt (((p.num*(q.den:Int))+(q.num*(p.den:Int)))) (((p.den:Int)*(q.den:Int)))).num.natAbs)) rfl rfl (bE _) (aQ _)) (.cons (.id rfl) (.cons (.sl (trs:=aJ (dg 4294967296 (Rat.divInt (((p.num*(q.den:Int))+(q.num*(p.den:Int)))) (((p.den:Int)*(q.den:Int)))).den)) rfl rfl (bE _) (aQ _)) .nil)))))) (by decide) (fun _=>rD (Rat.divInt (((p.num*(q.den:Int))+(q.num*(p.den:Int)))) (((p.den:Int)*(q.den:Int))))) (by rw[show(Rat.divInt (((p.num*(q.den:Int))+(q.num*(p.den:Int)))) (((p.den:Int)*(q.den:Int))))=p+q from rC p q];rfl)
theorem My {k:Int}{f:FuncId}{args:List FV}(h:∀(N:Nat→Prop) (w:World) us,cA w N [] args us→(∀b,N b→b<w.heap.size)→Calls Tryz.prog f us.toArray w (AE k w)):aE true Tryz.prog f [] args (aI (kO k)):=by
 intro N w cs us hL
 obtain⟨rfl,hf⟩:=mF hL
 refine(h _ w us hf (fun b hb=>hb.1)).mono ?_
 rintro e W ⟨A,n,c,rfl,ho,hb⟩
 obtain⟨y1,a1,a2,a3,a4⟩:=oF (N:=fun b=>true=false∧(b<W.heap.size∧b∉VT.fpL [])∧(N b∨w.heap.size≤b)) ho
 refine .mk0 (y:=[.w (.bool (aW k)),y1]) rfl hb (by simp only[VT.okL,VT.ok];exact⟨trivial,a3,trivial⟩) ?_ (fun b hb'=>?_) ?_
 ·simp only[VT.fpL,VT.fp,a4,List.nil_append,List.append_nil]
  exact rE A n c
 ·simp only[VT.fpL,VT.fp,a4,List.nil_append,List.append_nil]at hb'
  exact ho.blk b hb'
 refine⟨by simp only[List.map_cons,List.map_nil,a1];rfl,?_⟩
 simp only[List.map_cons,List.map_nil,aU,CR,sU]
 exact⟨by simp[OR],fT (fun _ _=>rfl) (fun b hb=>absurd hb.1 (by simp)) _ _ a2,trivial⟩
theorem sX {n:Int}(h1:-9223372036854775808≤n) (h2:n≤9223372036854775807):aE true Tryz.prog 62 [] [.one (tv (.int .i64 n))] (aI (kO n)):=My fun N w us hf hN=>by
 obtain⟨u,rfl,h3⟩:=Iw hf
 obtain rfl:=aG (dB h3)
 exact AF n w h1 h2
theorem Vs {m:Nat}:decide (((m:Int)-1).sign=0)=(m==1):=by
 rw[decide_eq_decide.2 Int.sign_eq_zero_iff_zero]
 rw[Bool.eq_iff_iff,decide_eq_true_eq,beq_iff_eq]
 omega
theorem Cz {z:Int}:0<z.sign↔0<z:=by
 rcases Int.lt_trichotomy z 0 with h | h | h
 ·rw[Int.sign_eq_neg_one_of_neg h];omega
 ·subst h;decide
 rw[Int.sign_eq_one_of_pos h];omega
theorem vM:aE true Tryz.prog 63 [] [] (aI (kO 1)):=by
 refine bQ Tryz.func63 rfl Tryz.ntmps63 rfl aB rfl fun N w c0 h0=>?_
 refine sq ?_;refine rl ?_;refine al 0 ?_;refine nl ?_;refine sq ?_;refine rl ?_;refine gW 1 (sX (n:=1) (by omega) (by omega)) sY ⟨a1 rfl,rfl⟩ ?_
 refine st ?_;refine nl ?_;refine rt ?_
 exact en (.inl rfl) rfl (bI (.agg (.cons (.id rfl) (.cons (.sl (trs:=aJ (dg 4294967296 ((1:Int)).natAbs)) rfl rfl (bE _) (aQ _)) .nil)))) (by decide) (fun _=>eW 1) rfl
theorem Da {a:Fr4}{p:Rat}(ha:Qn a p):aE true Tryz.prog 109 [] [qF a] (aI (.one (tv (.bool (cW a.s a.x a.t a.y))))):=by
 refine bQ Tryz.func109 rfl Tryz.ntmps109 rfl aB rfl fun N w c0 h0=>?_
 refine sq ?_;refine rl ?_;refine bx 0 ?_;refine o1 ?_;refine nl ?_;refine sq ?_;refine rl ?_;refine o1 ?_;refine ld ?_
 refine ca (xC (a:=⟨a.s,a.x⟩) ((AX ha).g)) Ib ⟨aD rfl,rfl⟩ (.one (tv (.bool (cI a.s a.x)))) ?_;refine o1 ?_;refine WL.splitb (t:=6) rfl (fun h1=>?_) (fun h1=>?_)
 ·refine o1 ?_;refine ld ?_;refine ca (xC (a:=⟨a.t,a.y⟩) ((Cp ha).g)) Ib ⟨aD rfl,rfl⟩ (.one (tv (.bool (cI a.t a.y)))) ?_;refine o1 ?_;refine o1 ?_
  refine WL.splitb (t:=11) rfl (fun h2=>?_) (fun h2=>?_)
  ·refine o1 ?_;refine ld ?_;refine ca (oG (a:=⟨a.t,a.y⟩) ((Cp ha).g)) wT ⟨aD rfl,rfl⟩ (.one (tv (.int .i64 (cX a.t a.y).sign))) ?_;(iterate 3 refine o1 ?_)
   refine WL.split (t:=17) rfl (fun h3=>?_) (fun h3=>?_)
   ·refine o1 ?_;refine ld ?_;refine o1 ?_;refine ld ?_;have hpos:0<cX a.t a.y:=Cz.1 h3
    have hyl:(dg 4294967296 (cX a.t a.y).natAbs).length≤137438953472:=Zn.len (Cp (p:=p) ha)
    have hgl9:(dg 4294967296 ((Int.gcd (cX a.s a.x) (cX a.t a.y):Nat):Int).natAbs).length≤137438953472:=Nat.le_trans (dK (Nat.le_of_dvd (by omega) (Nat.gcd_dvd_right ..))) hyl
    have hgl:(dg 4294967296 ((Int.gcd (cX a.s a.x) (cX a.t a.y):Nat):Int).natAbs).length≤300000000000:=Nat.le_trans hgl9 (by omega)
    refine ca (Rr (a:=⟨a.s,a.x⟩) (b:=⟨a.t,a.y⟩) ((AX ha).g) ((Cp ha).g)) Rc ⟨aD rfl,aD rfl,rfl⟩ (kF ((Int.gcd (cX a.s a.x) (cX a.t a.y):Nat):Int)) ?_
    refine ca (vM) Hw rfl (kF 1) ?_
    refine ca (zH (Zg.of (k:=((Int.gcd (cX a.s a.x) (cX a.t a.y):Nat):Int)) hgl) (Zg.of (k:=1) (by decide)) (by have h8:=tM ((Int.gcd (cX a.s a.x) (cX a.t a.y):Nat):Int) 1;have h7:(dg 4294967296 (1:Int).natAbs).length=1:=rfl;omega)) Bm ⟨aD rfl,aD rfl,rfl⟩ (.one (tv (.int .i64 (((Int.gcd (cX a.s a.x) (cX a.t a.y):Nat):Int)-1).sign))) ?_
    (iterate 3 refine o1 ?_);refine nl ?_;refine rt ?_
    exact en (.inl rfl) rfl (bI (aZ _)) (by decide) (fun _=>trivial) (congrArg (fun b=>FV.one (tv (.bool b))) (by unfold cW;rw[h1,h2,decide_eq_true hpos,←Vs];rfl))
   (iterate 8 refine dE ?_);refine o1 ?_;refine o1 ?_;refine nl ?_;refine rt ?_
   exact en (.inl rfl) rfl (bI (aZ _)) (by decide) (fun _=>trivial) (congrArg (fun b=>FV.one (tv (.bool b))) (by unfold cW;rw[h1,h2,decide_eq_false (fun h9=>h3 (Cz.2 h9))];rfl))
  (iterate 4 refine dE ?_);refine o1 ?_;refine o1 ?_;(iterate 8 refine dE ?_);refine o1 ?_;refine o1 ?_;refine nl ?_;refine rt ?_
  exact en (.inl rfl) rfl (bI (aZ _)) (by decide) (fun _=>trivial) (congrArg (fun b=>FV.one (tv (.bool b))) (by unfold cW;rw[h1,h2];rfl))
 (iterate 3 refine dE ?_);refine o1 ?_;refine o1 ?_;(iterate 4 refine dE ?_);refine o1 ?_;refine o1 ?_;(iterate 8 refine dE ?_);refine o1 ?_;refine o1 ?_;refine nl ?_;refine rt ?_
 exact en (.inl rfl) rfl (bI (aZ _)) (by decide) (fun _=>trivial) (congrArg (fun b=>FV.one (tv (.bool b))) (by unfold cW;rw[h1];rfl))
theorem FS:FV.agg [tv (.bool false),.t (sU false []),tv (.bool (aW 1)),.t (sU false (dg 4294967296 (1:Int).natAbs))]=qF (.of 0):=rfl
theorem jW {a:Fr4}{p:Rat}(ha:Qn a p):aE false Tryz.prog 60 [] [qF a] (aI (qF (.of p))):=by
 refine bQ Tryz.func60 rfl Tryz.ntmps60 rfl aB rfl fun N w c0 h0=>?_
 refine sq ?_;refine rl ?_;refine bx 0 ?_;refine al 1 ?_;refine nl ?_;refine sq ?_;refine sq ?_;refine rl ?_;refine ld ?_
 refine ca (Da ha) Hz ⟨aD rfl,rfl⟩ (.one (tv (.bool (cW a.s a.x a.t a.y)))) ?_;refine WL.splitb (t:=4) rfl (fun h1=>?_) (fun h1=>?_)
 ·refine o1 ?_;refine nl ?_;refine kH rfl ?_;refine sk ?_;refine sq ?_;refine rl ?_;refine ld ?_;refine st ?_;refine nl ?_;refine rt ?_
  exact en (.inl rfl) rfl (bI (.agg (.cons (.id rfl) (.cons (.id rfl) (.cons (.id rfl) (.cons (.id rfl) .nil)))))) (by decide) (fun h=>by cases h) (by rw[ha.right h1];rfl)
 refine o1 ?_;refine nl ?_;refine jH rfl ?_;refine sq ?_;refine rl ?_;refine o1 ?_;refine ca (vM) Hw rfl (kF 1) ?_;refine o1 ?_;refine st ?_;refine nl ?_;refine rt ?_
 have hq9:=ha.wrong h1
 subst hq9;exact en (.inl rfl) rfl (bI (.agg (.cons (.id rfl) (.cons .nilf (.cons (.id rfl) (.cons (.id rfl) .nil)))))) (by decide) (fun h=>by cases h) FS
theorem BD {a b:Fr4}{p q:Rat}(ha:Qn a p) (hb:Qn b q):aE true Tryz.prog 28 [] [qF a,qF b] (aI (qO (p+q))):=by
 refine bQ Tryz.func28 rfl Tryz.ntmps28 rfl aB rfl fun N w c0 h0=>?_
 refine sq ?_;refine rl ?_;refine bx 0 ?_;refine bx 1 ?_;refine al 2 ?_;refine nl ?_;refine sq ?_;refine rd [0,1,2] (fun i=>[5].contains i) mixed ?_
 refine bD 0 ?_;refine bD 2 ?_;refine aN 1 rfl (jW ha) eF ⟨aD rfl,rfl⟩ (qF (.of p)) ?_;refine aN 3 rfl (jW hb) eF ⟨aD rfl,rfl⟩ (qF (.of q)) ?_
 refine mU 3 4 rfl (Jf ha.sz hb.sz) Bn ⟨aD rfl,aD rfl,rfl⟩ ?_;refine dst 5 ?_;refine bJ ?_;refine rt ?_
 exact en (.inl rfl) rfl (bI (.agg (.cons (.id rfl) (.cons (.sl (trs:=aJ (dg 4294967296 (p+q).num.natAbs)) rfl rfl (bE _) (aQ _)) (.cons (.id rfl) (.cons (.sl (trs:=aJ (dg 4294967296 (p+q).den)) rfl rfl (bE _) (aQ _)) .nil)))))) (by decide) (fun _=>rD (p+q)) rfl
theorem Vt {a:Fr4}{p:Rat}(ha:Qn a p):aE true Tryz.prog 29 [] [qF a] (aI (.one (tv (.int .i64 p.num.sign)))):=by
 refine bQ Tryz.func29 rfl Tryz.ntmps29 rfl aB rfl fun N w c0 h0=>?_
 refine sq ?_;refine rl ?_;refine bx 0 ?_;refine o1 ?_;refine nl ?_;refine sq ?_;refine rl ?_;refine ld ?_;refine ca (jW ha) eF ⟨aD rfl,rfl⟩ (qF (.of p)) ?_;refine o1 ?_
 refine ca (oG (Zg.of (k:=p.num) (Nat.le_trans ha.sz.1 (by omega)))) wT ⟨aD rfl,rfl⟩ (.one (tv (.int .i64 p.num.sign))) ?_
 refine o1 ?_;refine nl ?_;refine rt ?_;exact en (.inl rfl) rfl (bI (aZ _)) (by decide) (fun _=>trivial) rfl
theorem Mz {a:Fr4}{p:Rat}(ha:Qn a p):aE true Tryz.prog 26 [] [qF a] (aI (qO (-p))):=by
 refine bQ Tryz.func26 rfl Tryz.ntmps26 rfl aB rfl fun N w c0 h0=>?_
 refine sq ?_;refine rl ?_;refine bx 0 ?_;refine al 1 ?_;refine nl ?_;refine sq ?_;refine rl ?_;refine ld ?_;refine ca (jW ha) eF ⟨aD rfl,rfl⟩ (qF (.of p)) ?_;refine st ?_
 refine nl ?_;refine sq ?_;refine rd [0,1] (fun i=>[7].contains i) mixed ?_
 refine dv 0 ?_;refine bD 1 ?_;refine dv 3 ?_;refine bD 4 ?_;refine mU 2 2 rfl (Rq (Zg.of (k:=p.num) (Nat.le_trans ha.sz.1 (by omega)))) Za ⟨aD rfl,rfl⟩ ?_
 refine mU 3 5 rfl (EQ (iD ha.sz)) IF ⟨aD rfl,rfl⟩ ?_;refine df 6 ?_;refine dst 7 ?_;refine bJ ?_;refine rt ?_;have hda:(((p.den:Int).natAbs:Nat):Int).natAbs=p.den:=rfl
 exact en (.inl rfl) rfl (bI (.agg (.cons (.id rfl) (.cons (.sl (trs:=aJ (dg 4294967296 (-(p.num)).natAbs)) rfl rfl (bE _) (aQ _)) (.cons (.id rfl) (.cons (.sl (trs:=aJ (dg 4294967296 (((p.den:Int).natAbs:Nat):Int).natAbs)) rfl rfl (bE _) (aQ _)) .nil)))))) (by decide) (fun _=>vC (⟨_,dg 4294967296 (-(p.num)).natAbs,_,dg 4294967296 (((p.den:Int).natAbs:Nat):Int).natAbs⟩:Fr4)) (show FV.agg [tv (.bool (aW (-(p.num)))),.t (sU true (dg 4294967296 (-(p.num)).natAbs)),tv (.bool (aW (((p.den:Int).natAbs:Nat):Int))),.t (sU true (dg 4294967296 (((p.den:Int).natAbs:Nat):Int).natAbs))]=qO (-p) from zK (q:=-p) (by simp) (by simp))
theorem Qa {n:Int}(h1:-9223372036854775808≤n) (h2:n≤9223372036854775807):aE true Tryz.prog 22 [] [.one (tv (.int .i64 n))] (aI (qO ((n:Int):Rat))):=by
 refine bQ Tryz.func22 rfl Tryz.ntmps22 rfl aB rfl fun N w c0 h0=>?_
 refine sq ?_;refine rl ?_;refine al 0 ?_;refine nl ?_;refine sq ?_;refine rl ?_;refine o1 ?_;refine gW 1 (sX (n:=n) h1 h2) sY ⟨a1 rfl,rfl⟩ ?_;refine gW 2 (vM) Hw rfl ?_
 refine o1 ?_;refine st ?_;refine nl ?_;refine rt ?_
 exact en (.inl rfl) rfl (bI (.agg (.cons (.id rfl) (.cons (.sl (trs:=aJ (dg 4294967296 n.natAbs)) rfl rfl (bE _) (aQ _)) (.cons (.id rfl) (.cons (.sl (trs:=aJ (dg 4294967296 (1:Int).natAbs)) rfl rfl (bE _) (aQ _)) .nil)))))) (by decide) (fun _=>vC (⟨_,dg 4294967296 n.natAbs,_,dg 4294967296 (1:Int).natAbs⟩:Fr4)) (zK (q:=((n:Int):Rat)) (n:=n) (d:=1) (by simp) (by simp))
theorem BE {a b:Fr4}{p q:Rat}(ha:Qn a p) (hb:Qn b q):aE true Tryz.prog 24 [] [qF a,qF b] (aI (qO (p-q))):=by
 refine bQ Tryz.func24 rfl Tryz.ntmps24 rfl aB rfl fun N w c0 h0=>?_
 refine sq ?_;refine rl ?_;refine bx 0 ?_;refine bx 1 ?_;refine al 2 ?_;refine nl ?_;refine sq ?_;refine rd [0,1,2] (fun i=>[5].contains i) mixed ?_
 refine bD 0 ?_;refine bD 2 ?_;refine aN 1 rfl (jW ha) eF ⟨aD rfl,rfl⟩ (qF (.of p)) ?_;refine aN 3 rfl (Mz hb) Ye ⟨aD rfl,rfl⟩ (qF (.of (-q))) ?_
 refine mU 3 4 rfl (Jf ha.sz (uC hb.sz)) Bn ⟨aD rfl,aD rfl,rfl⟩ ?_;refine dst 5 ?_;refine bJ ?_;refine rt ?_
 exact en (.inl rfl) rfl (bI (.agg (.cons (.id rfl) (.cons (.sl (trs:=aJ (dg 4294967296 (p+-q).num.natAbs)) rfl rfl (bE _) (aQ _)) (.cons (.id rfl) (.cons (.sl (trs:=aJ (dg 4294967296 (p+-q).den)) rfl rfl (bE _) (aQ _)) .nil)))))) (by decide) (fun _=>rD (p+-q)) (by rw[Rat.sub_eq_add_neg];rfl)
def Nn (xs:List Nat) (u:Nat):Prop:=Lim 4294967296 xs∧xs.length≤1000000∧vl 4294967296 xs=u
theorem Nn.of {u:Nat}(h:(dg 4294967296 u).length≤1000000):Nn (dg 4294967296 u) u:=⟨bC (by omega) _,h,cU (by omega) _⟩
section
variable {xs ys:List Nat}{u v w q r:Nat}
abbrev nF (xs:List Nat):FV:=.one (.t (sU false xs))
abbrev nO (u:Nat):FV:=.one (.t (sU true (dg 4294967296 u)))
theorem FA (hx:Nn xs u) (hy:Nn ys v) (e:u*v=w):aE true Tryz.prog 119 [] [nF xs,nF ys] (aI (nO w)):=by
 obtain⟨a,b,rfl⟩:=hx
 obtain⟨c,d,rfl⟩:=hy
 exact e▸Rp a c (by omega) (by omega)
theorem Jg {m:Nat}(hx:Nn xs u) (hm:m<4294967296) (e:u*m=w):aE true Tryz.prog 166 [] [nF xs,.one (tv (.int .u32 (m:Int)))] (aI (nO w)):=by
 obtain⟨a,b,rfl⟩:=hx
 exact e▸vG a (by omega) hm
end
def val (xs:List Nat):Nat:=vl 4294967296 xs
def rH (n:Int):Int:=if n<0 then 2 else if 4096<n then 3 else 0
def vN (x:Nat) (n:Int):Nat:=if rH n=0 then x^n.toNat else 0
theorem Gp {x m:Nat}(h:x<4294967296):(dg 4294967296 (x^m)).length≤m+1:=by
 refine bM (by omega) (Nat.lt_of_le_of_lt (Nat.pow_le_pow_left (Nat.le_of_lt h) m) ?_)
 exact Nat.pow_lt_pow_right (by omega) (by omega)
theorem Na {j:Nat}(h:j≤12):4096/2^j=2^(12-j):=by
 rw[show(4096:Nat)=2^12 from rfl,Nat.pow_div h (by omega)]
theorem Qb (n i:Nat):n&&& 2^i=n/2^i%2*2^i:=by
 apply Nat.eq_of_testBit_eq
 intro k
 rw[Nat.testBit_and,Nat.testBit_two_pow]
 rcases Nat.mod_two_eq_zero_or_one (n/2^i)with h | h
 ·rw[h,Nat.zero_mul,Nat.zero_testBit]
  by_cases hk:i=k
  ·subst hk
   rw[Nat.testBit_eq_decide_div_mod_eq,h]
   rfl
  rw[decide_eq_false hk,Bool.and_false]
 rw[h,Nat.one_mul,Nat.testBit_two_pow]
 by_cases hk:i=k
 ·subst hk
  rw[Nat.testBit_eq_decide_div_mod_eq,h]
  rfl
 rw[decide_eq_false hk,Bool.and_false]
theorem Gq {n j:Nat}(h:j≤12):n&&&(4096/2^j)=n/2^(12-j)%2*2^(12-j):=by
 rw[Na h,Qb]
theorem Vu {a b:Nat}(ha:a<9223372036854775808) (hb:b<9223372036854775808):IntKind.i64.wrap ((BitVec.ofInt IntKind.i64.bits (a:Int)&&& BitVec.ofInt IntKind.i64.bits (b:Int)).toNat:Int)=((a&&& b:Nat):Int):=by
 have e:IntKind.i64.bits=64:=rfl
 rw[e,BitVec.toNat_and,BitVec.ofInt_natCast,BitVec.ofInt_natCast,BitVec.toNat_ofNat,BitVec.toNat_ofNat,Nat.mod_eq_of_lt (by omega),Nat.mod_eq_of_lt (by omega)]
 have h1:a&&& b≤a:=Nat.and_le_left
 simp[IntKind.wrap,IntKind.signed,IntKind.bits]
 omega
theorem Db {j:Nat}:Int.fdiv ((4096/2^j:Nat):Int) (2^(min (1:Int).toNat IntKind.i64.bits))=((4096/2^(j+1):Nat):Int):=by
 have e:(2:Int)^(min (1:Int).toNat IntKind.i64.bits)=((2:Nat):Int):=by decide
 rw[e,Int.fdiv_eq_ediv,if_pos (Or.inl (by omega)),Int.sub_zero,←Int.natCast_ediv,Nat.div_div_eq_div_mul,←Nat.pow_succ]
theorem Gr {n j:Nat}(h:j≤12):n/2^(12-j)=2*(n/2^(13-j))+n/2^(12-j)%2:=by
 have e:2^(13-j)=2^(12-j)*2:=by rw[show 13-j=(12-j)+1 by omega,Nat.pow_succ]
 rw[e,←Nat.div_div_eq_div_mul]
 omega
theorem FB {x n j:Nat}(h:j≤12) (hb:n&&&(4096/2^j)=0):x^(n/2^(13-j))*x^(n/2^(13-j))=x^(n/2^(12-j)):=by
 rw[Gq h]at hb
 have h1:n/2^(12-j)%2=0:=by
  rcases Nat.mul_eq_zero.1 hb with h2 | h2
  ·exact h2
  have:=Nat.pow_pos (n:=12-j) (show 0<2 by omega);omega
 rw[←Nat.pow_add,Gr h,h1]
 congr 1
 omega
theorem FC {x n j:Nat}(h:j≤12) (hb:n&&&(4096/2^j)≠0):x^(n/2^(13-j))*x^(n/2^(13-j))*x=x^(n/2^(12-j)):=by
 rw[Gq h]at hb
 have h1:n/2^(12-j)%2=1:=by
  rcases Nat.mod_two_eq_zero_or_one (n/2^(12-j))with h2 | h2
  ·rw[h2,Nat.zero_mul]at hb;exact absurd rfl hb
  exact h2
 rw[←Nat.pow_add,←Nat.pow_succ,Gr h,h1]
 congr 1
 omega
theorem FD {x:Nat}{n:Int}(hx:x<4294967296):aE true Tryz.prog 127 [] [.one (tv (.int .u32 ((x:Nat):Int))),.one (tv (.int .i64 n))] (aI (.tup [nO (vN x n),.one (tv (.int .i64 (rH n)))])):=by
 refine bQ Tryz.func127 rfl Tryz.ntmps127 rfl aB rfl fun N9 w9 c0 h0=>?_
 refine sq ?_;refine rl ?_;refine o1 ?_;refine o1 ?_;refine nl ?_;refine sq ?_;refine bl ?_;refine sq ?_;refine rl ?_;(iterate 3 refine o1 ?_);refine nl ?_
 refine cY rfl (fun h1=>?_) (fun h1=>?_)
 ·refine sq ?_;refine rl ?_;refine o1 ?_;refine o1 ?_;refine nl ?_;refine rt ?_;have he:rH n=2:=by unfold rH;rw[if_pos (by omega)]
  exact en (.inl rfl) rfl (dP (.cons (.one (.nil (t:=115) (z:=1))) (.cons (aZ _) .nil))) (by decide) (fun _=>⟨.inl ⟨rfl,trivial⟩,trivial,trivial⟩) (by rw[he,vN,he,if_neg (by decide)];rfl)
 refine sq ?_;refine rl ?_;(iterate 3 refine o1 ?_);refine nl ?_;refine cY rfl (fun h2=>?_) (fun h2=>?_)
 ·refine sq ?_;refine rl ?_;refine o1 ?_;refine o1 ?_;refine nl ?_;refine rt ?_;have he:rH n=3:=by unfold rH;rw[if_neg (by omega),if_pos (by omega)]
  exact en (.inl rfl) rfl (dP (.cons (.one (.nil (t:=115) (z:=1))) (.cons (aZ _) .nil))) (by decide) (fun _=>⟨.inl ⟨rfl,trivial⟩,trivial,trivial⟩) (by rw[he,vN,he,if_neg (by decide)];rfl)
 refine sk ?_;refine sq ?_;refine rl ?_;refine bs 0 ?_;refine o1 ?_;refine nl ?_;refine sq ?_;refine sq ?_;refine rl ?_;refine o1 ?_;refine nl ?_;refine bl ?_
 have h1p:dg 4294967296 (x^(n.toNat/2^(13-0)))=[1]:=by rw[show n.toNat/2^(13-0)=0 from Nat.div_eq_of_lt (show n.toNat<8192 by omega),Nat.pow_zero];decide
 refine lp (γ:=Nat) (fun s=>dD [(0,.one (tv (.int .u32 ((x:Nat):Int)))),(1,.one (tv (.int .i64 n))),(6,.one (.sl 0 0 ((dg 4294967296 (x^(n.toNat/2^(13-s)))).length))),(7,.one (tv (.int .i64 ((4096/2^s:Nat):Int))))]) (fun s=>[(⟨115,1,(aJ (dg 4294967296 (x^(n.toNat/2^(13-s))))).map .t⟩:Ob)].map some) (fun s=>s≤13) (fun s=>13-s) 0 (by omega) (bS h0 [0] _ _ (by decide) ⟨rfl,rfl,(congrArg (fun l:List Nat=>some (FV.one (.sl 0 0 l.length))) h1p),rfl,trivial⟩ ⟨cR (congrArg (fun l:List Nat=>some (⟨115,1,(aJ l).map .t⟩:Ob)) h1p.symm),rfl⟩) ?_
 rintro j hj;refine sq ?_;refine sq ?_;refine rl ?_;refine o1 ?_;refine o1 ?_;refine nl ?_;refine cY rfl (fun h3=>?_) (fun h3=>?_)
 ·refine sk ?_;refine sq ?_;refine bl ?_;refine sq ?_;have hj12:j≤12:=by
   rcases Nat.lt_or_ge 12 j with h9 | h9
   ·have h8:j=13:=by omega
    rw[h8]at h3;exact absurd h3 (by decide)
   exact h9
  have hpl:=Gp (m:=n.toNat/2^(13-j)) hx
  have hql:=Gp (m:=n.toNat/2^(13-j)+n.toNat/2^(13-j)) hx
  rw[Nat.pow_add]at hql;have hnl:n.toNat/2^(13-j)≤n.toNat:=Nat.div_le_self _ _
  have hbj:4096/2^j≤4096:=Nat.div_le_self _ _
  refine rl ?_;refine o1 ?_;refine o1 ?_
  refine gW 1 (FA (Nn.of (by omega)) (Nn.of (by omega)) rfl) Qz ⟨lZ rfl (.sl rfl rfl (jE _) (aQ _)),lZ rfl (.sl rfl rfl (jE _) (aQ _)),rfl⟩ ?_
  refine o1 ?_;refine nl ?_;refine sq ?_;refine rl ?_;(iterate 3 refine o1 ?_)
  refine WL.cast (t:=24) (u':=.int .i64 (((n.toNat&&& 4096/2^j):Nat):Int)) rfl (bO (by rw[show(n:Int)=((n.toNat:Nat):Int) by omega];exact Vu (by omega) (by omega))) ?_
  refine o1 ?_;refine nl ?_;refine cY rfl (fun h4=>?_) (fun h4=>?_)
  ·refine rl ?_;refine o1 ?_;refine o1 ?_;refine gW 2 (Jg (Nn.of (by omega)) hx (FC hj12 (by omega))) uP ⟨lZ rfl (.sl rfl rfl (jE _) (aQ _)),a1 rfl,rfl⟩ ?_
   refine o1 ?_;refine nl ?_;refine rl ?_;refine o1 ?_;refine o1 ?_;refine WL.cast (t:=18) (u':=.int .i64 (((4096/2^(j+1)):Nat):Int)) rfl (bO Db) ?_;refine o1 ?_
   refine nl ?_;have hpw:x^(n.toNat/2^(12-j))=x^(n.toNat/2^(12-j)):=rfl
   exact⟨j+1,by omega,by omega,bS h0 [2] _ _ (by decide) ⟨rfl,rfl,(congrArg (fun z:Nat=>some (FV.one (.sl 2 0 (dg 4294967296 z).length))) (show x^(n.toNat/2^(13-(j+1)))=_ from(by rw[show 13-(j+1)=12-j by omega]))),rfl,trivial⟩ ⟨cR (congrArg (fun z:Nat=>some (⟨115,1,(aJ (dg 4294967296 z)).map .t⟩:Ob)) (show x^(n.toNat/2^(13-(j+1)))=_ from(by rw[show 13-(j+1)=12-j by omega])).symm),rfl⟩⟩
  refine sk ?_;refine rl ?_;refine o1 ?_;refine o1 ?_;refine WL.cast (t:=18) (u':=.int .i64 (((4096/2^(j+1)):Nat):Int)) rfl (bO Db) ?_;refine o1 ?_;refine nl ?_
  have hpw:x^(n.toNat/2^(12-j))=x^(n.toNat/2^(13-j))*x^(n.toNat/2^(13-j)):=(FB hj12 (by omega)).symm
  exact⟨j+1,by omega,by omega,bS h0 [1] _ _ (by decide) ⟨rfl,rfl,(congrArg (fun z:Nat=>some (FV.one (.sl 1 0 (dg 4294967296 z).length))) (show x^(n.toNat/2^(13-(j+1)))=_ from(by rw[show 13-(j+1)=12-j by omega];exact hpw))),rfl,trivial⟩ ⟨cR (congrArg (fun z:Nat=>some (⟨115,1,(aJ (dg 4294967296 z)).map .t⟩:Ob)) (show x^(n.toNat/2^(13-(j+1)))=_ from(by rw[show 13-(j+1)=12-j by omega];exact hpw)).symm),rfl⟩⟩
 refine ex ?_;refine sq ?_;refine rl ?_;(iterate 3 refine o1 ?_);refine nl ?_;refine rt ?_;have he:rH n=0:=by unfold rH;rw[if_neg (by omega),if_neg (by omega)]
 have hj13:j=13:=by
  rcases Nat.lt_or_ge 12 j with h9 | h9
  ·omega
  have h8:=Na h9
  have h7:=Nat.pow_pos (n:=12-j) (show 0<2 by omega)
  omega
 subst hj13
 exact en (.inl rfl) rfl (dP (.cons (.one (.sl (trs:=aJ (dg 4294967296 (x^(n.toNat/2^(13-13))))) rfl rfl (bE _) (aQ _))) (.cons (aZ _) .nil))) (by decide) (fun _=>⟨.inl ⟨rfl,fI _⟩,trivial,trivial⟩) (by rw[he,vN,he,if_pos rfl,show n.toNat/2^(13-13)=n.toNat by simp];rfl)
theorem vO (k:Int):fZ (kO k):=by
 simp only[fZ,kO,kL,List.map_cons,List.map_nil,gH,mS,sU,iX]
 exact⟨trivial,.inl ⟨trivial,fI _⟩,trivial⟩
section
variable {f:FuncId}{args:List FV}
end
section
variable {a b:Fr4}{p q:Rat}{x y:Zi}{k k':Int}
theorem FE:aE true Tryz.prog 63 [] [] (aI (kO 1)):=vM
theorem oK (h:Zn x k) (h':Zn y k'):aE true Tryz.prog 65 [] [gF x,gF y] (aI (kO (k*k'))):=zI h.g h'.g
theorem Nb (h:Zn x k) (h':Zn y k'):aE true Tryz.prog 61 [] [gF x,gF y] (aI (.one (tv (.int .i64 (k-k').sign)))):=zH h.g h'.g (by have:=tM k k';have:=h.len;have:=h'.len;omega)
theorem CU (h:Qn a p) (h':Qn b q):aE true Tryz.prog 28 [] [qF a,qF b] (aI (qO (p+q))):=BD h h'
theorem CS (h:Qn a p) (h':Qn b q):aE true Tryz.prog 24 [] [qF a,qF b] (aI (qO (p-q))):=BE h h'
theorem qE (h:Qn a p):aE true Tryz.prog 29 [] [qF a] (aI (.one (tv (.int .i64 p.num.sign)))):=Vt h
theorem Sf (hp:Sz 68719476736 p) (hq:Sz 68719476736 q):aE true Tryz.prog 66 [] [qF (.of p),qF (.of q)] (aI (qO (p+q))):=Jf hp hq
theorem Dc (ha:a.ok):aE true Tryz.prog 109 [] [qF a] (aI (.one (tv (.bool (cW a.s a.x a.t a.y))))):=Da ⟨ha,rfl⟩
theorem cC {z:Int}(h1:-9223372036854775808≤z) (h2:z≤9223372036854775807):aE true Tryz.prog 22 [] [.one (tv (.int .i64 z))] (aI (qO (z:Rat))):=Qa h1 h2
theorem Nc (hp:Sz 68719476736 p):aE true Tryz.prog 66 [] [qF (.of p),qF (.of ((0:Int):Rat))] (aI (qO p)):=by
 have:=Sf hp ((cV (z:=0) (by omega) (by omega)).mono (by omega))
 rwa[show p+((0:Int):Rat)=p from Rat.add_zero p]at this
end
section
variable {x y:Zi}{k k':Int}
theorem yG (h:Zn x k) (h':Zn y k') (h0:k'≠0):aE true Tryz.prog 110 [] [gF x,gF y] (aI (qO (Rat.divInt k k'))):=rG h.g h'.g h0
theorem CT {a:Fr4}{p:Rat}(h:Qn a p):aE true Tryz.prog 26 [] [qF a] (aI (qO (-p))):=Mz h
theorem Sg (p q:Rat):Rat.divInt (p.num*q.num) ((p.den:Int)*(q.den:Int))=p*q:=by
 rw[←Rat.divInt_mul_divInt,Rat.num_divInt_den,Rat.num_divInt_den]
theorem lS {L M:Nat}{p q:Rat}(hp:Sz L p) (hq:Sz M q):Sz (L+M) (p*q):=by
 rw[←Sg p q]
 have h5:=gL (Int.mul_pos (show(0:Int)<p.den by have:=p.den_pos;omega) (show(0:Int)<q.den by have:=q.den_pos;omega)) (gU hp.1 hq.1) (gU (kB hp) (kB hq))
 exact⟨h5.1,h5.2⟩
theorem yH (p:Rat) (l:List Rat) (q:Rat):dA p (l++[q])=if dA p l<q then q else dA p l:=by
 unfold dA
 rw[List.foldl_append]
 rfl
theorem den_nz (p q:Rat):(p.den:Int)*(q.den:Int)≠0:=by
 have h1:=p.den_pos
 have h2:=q.den_pos
 exact Int.ne_of_gt (Int.mul_pos (by omega) (by omega))
theorem Dd {L:Nat}{k:Int}(h:kQ L k):kQ L (-k):=by
 unfold kQ
 rw[Int.natAbs_neg]
 exact h
theorem vP {n:Int}(h1:-9223372036854775808≤n) (h2:n≤9223372036854775807):kQ 2 n:=Ag h1 h2
theorem fJ {n d:Int}(h1:-9223372036854775808≤n) (h2:n≤9223372036854775807) (h3:-9223372036854775808≤d) (h4:d≤9223372036854775807):Sz 2 (Rat.divInt n d):=by
 rcases Int.lt_trichotomy d 0 with hd | hd | hd
 ·rw[←Rat.neg_divInt_neg]
  obtain⟨e1,e2⟩:=gL (a:=-n) (b:=-d) (L:=2) (M:=2) (by omega) (Dd (vP h1 h2)) (Dd (vP h3 h4))
  exact⟨e1,e2⟩
 ·subst hd
  rw[Rat.divInt_zero]
  exact⟨Nat.zero_le _,by decide⟩
 obtain⟨e1,e2⟩:=gL (a:=n) (b:=d) (L:=2) (M:=2) hd (vP h1 h2) (vP h3 h4)
 exact⟨e1,e2⟩
end
section
variable {x:Cx}{g g':Nat→FV}{ob ob':List (Option Ob)}{cs cs':List Co}{ts ts':Array Value}{W W' W1:World}{Q:Post}{ops:Array Oper}{late:Nat→Bool}{K fr fr':List Nat}{on:Bool}{fuel:Nat}{listed listed':Array Bool}
end
section
variable {x:Cx}{g:Nat→FV}{ob ob':List (Option Ob)}{Q:Post}{ops:Array Oper}{rest:List Oper}{d:Nat}{op:Op}{ty:TypeId}{pos:String}{af:Array Edge}{gd:Option (Nat×Bool)}{C:Prop}{v:FV}{T:List (Nat×TI)}
theorem KJ {fresh:Bool}{f:FuncId}{lent lent':List Lt}{al:List FV}{fst caps:List Tr}{r:FV}{os:List Ob}{cf:Operand}{aa:Array Operand}{ats:Array TypeId}(key:Nat) (K:List Nat) (args:List FV) (hc:lk x.n g cf=.one (.t (.f f fst caps))) (hS:aE fresh x.P f lent al (Rt lent' r)) (hf:CallOk x.P f) (hK:eG ob K K lent) (ha:mA x.n g K aa.toList args){ok:List (Option Ob)}(hbk:dL K lent' ok) (k:WL x ops rest (aM g d v) (aY ob K ok++os.map some) Q) (hw:aO ops x.n g gd=some true:=by rfl) (hk:dF ob key=true:=by rfl) (hnd:K.Nodup:=by decide) (hb:iL key r=some (v,os):=by rfl) (he:dC fst++args++dC caps=al:=by rfl):
  WL x ops (⟨some d,.call ⟨.value cf,aa,ats⟩,ty,pos,af,gd⟩::rest) g ob Q:=by
 subst he
 refine eO (pG hS hf (Ie hc) hK hnd ha hk (by rintro _ _ ⟨rfl,rfl⟩ _;exact⟨by rw[hb];rfl,ok,hbk⟩)) hw ?_
 rintro _ _ ⟨l,r',v',os',ok',⟨rfl,rfl⟩,_,h,h9,rfl,rfl⟩
 obtain rfl:=qW hbk h9
 rw[hb]at h
 injection h with h
 injection h with h1 h2
 subst h1 h2
 exact k
theorem FF {late:Nat→Bool}{K fr:List Nat}{fuel:Nat}{listed:Array Bool}{t key o:Nat}{ti:TI}{a b:Operand}(i:Nat) (hi:ops[i]? =some ⟨none,.store t a b,ty,pos,af,gd⟩) (hw:aO ops x.n g gd=some true) (hT:bG x.P T) (hti:aS T t=some ti) (h:qM ti ob (lk x.n g b) (lk x.n g a)=some ob') (hlk:lk x.n g a=.one (.pt key o)) (hK:K.contains key=false) (hke:mT ob ob' K)
  (k:WD x ops Q late K fr true fuel (listed.setIfInBounds i true) g ob'):WO x ops Q late K fr true fuel listed i g ob:=by
 obtain⟨ky,hs,o2,hlk2⟩:=yY (ty:=ty) (pos:=pos) (af:=af) (gd:=gd) hT hti h
 rw[hlk]at hlk2
 injection hlk2 with e
 injection e with e1 e2
 subst e1
 refine Qv i hi hw hs true (fun _=>⟨rfl,fun k hk hm=>?_⟩) (fun _=>rfl) (fun _ g' ob' hR=>?_) fun g' ob' hR=>?_
 ·rw[List.mem_singleton]at hm
  subst hm
  have:K.contains k=true:=by simpa using hk
  rw[hK]at this
  cases this
 ·obtain⟨rfl,rfl⟩:=hR
  exact⟨fun _ _=>rfl,gI hke⟩
 obtain⟨rfl,rfl⟩:=hR
 exact k
end
theorem Gs {n:Nat}(h:0<n):1≤(dg 4294967296 n).length:=by rw[kD (by omega) (by omega)];simp
theorem yI {L:Nat}{k:Int}(h:kQ L k):kQ L (-k):=by unfold kQ at*;rwa[Int.natAbs_neg]
theorem De (p:Rat):(dg 4294967296 (p.num.fmod (p.den:Int)).natAbs).length≤(dg 4294967296 p.den).length:=by
 refine dK ?_
 have h1:=Int.fmod_nonneg_of_pos p.num (show(0:Int)<p.den by have:=p.den_pos;omega)
 have h2:=Int.fmod_lt_of_pos p.num (show(0:Int)<p.den by have:=p.den_pos;omega)
 omega
theorem zZ (p:Rat):(dg 4294967296 (fl p).natAbs).length≤(dg 4294967296 p.num.natAbs).length:=by
 refine dK ?_
 rw[←nL,Int.fdiv_eq_ediv_of_nonneg _ (by omega)]
 exact Int.natAbs_ediv_le_natAbs _ _
theorem Kb {L M:Nat}{p q:Rat}(hp:Sz L p) (hq:Sz M q):Sz (L+M+1) (p/q):=by
 rw[←Rx p q]
 have hd:(0:Int)<p.den:=by have:=p.den_pos;omega
 have hd2:(0:Int)<q.den:=by have:=q.den_pos;omega
 by_cases h0:q.num=0
 ·rw[h0,Int.mul_zero,Rat.divInt_zero]
  exact(cV (z:=0) (by omega) (by omega)).mono (by
   have:=Gs q.den_pos
   have:=hq.2
   have:=Gs p.den_pos
   have:=hp.2
   omega)
 by_cases h1:0<q.num
 ·have h5:=gL (Int.mul_pos hd h1) (gU hp.1 (kB hq)) (gU (kB hp) hq.1)
  exact⟨Nat.le_trans h5.1 (by omega),Nat.le_trans h5.2 (by omega)⟩
 have e:Rat.divInt (p.num*(q.den:Int)) ((p.den:Int)*q.num)=Rat.divInt (-(p.num*(q.den:Int))) (-((p.den:Int)*q.num)):=(Rat.neg_divInt_neg _ _).symm
 rw[e]
 have h6:0< -((p.den:Int)*q.num):=by
  have:=Int.mul_pos hd (show 0< -q.num by omega)
  rw[Int.mul_neg]at this
  exact this
 have h5:=gL h6 (yI (gU hp.1 (kB hq))) (yI (gU (kB hp) hq.1))
 exact⟨Nat.le_trans h5.1 (by omega),Nat.le_trans h5.2 (by omega)⟩
theorem Qc {p q:Rat}:((p.den:Int)*q.num=0)↔q=0:=by
 have h1:=p.den_pos
 constructor
 ·intro h
  rcases Int.mul_eq_zero.1 h with h2 | h2
  ·omega
  exact Rat.num_eq_zero.1 h2
 rintro rfl
 simp
def iR (l:List Rat):List Fr4:=l.map Fr4.of
theorem Qj (l:List Rat):(iR l).map Fr4.q=l:=by
 unfold iR
 rw[List.map_map]
 exact(List.map_congr_left fun x _=>Fr4.q_of x).trans (List.map_id l)
theorem Ee (l:List Rat):(iR l).length=l.length:=by simp[iR]
theorem cT {a:Fr4}{p:Rat}(ha:Qn a p):aE false Tryz.prog 60 [] [qF a] (aI (qF (.of p))):=jW ha
theorem iU {a b:Fr4}{p q:Rat}(ha:Qn a p) (hb:Qn b q):aE true Tryz.prog 27 [] [qF a,qF b] (aI (.one (tv (.int .i64 (p-q).num.sign)))):=by
 refine bQ Tryz.func27 rfl Tryz.ntmps27 rfl aB rfl fun N w c0 h0=>?_
 have hs:=ha.sz;have hs':=hb.sz
 have hs1:=hs.1;have hs2:=hs.2;have hs3:=hs'.1;have hs4:=hs'.2
 have hs5:(dg 4294967296 ((p.den:Int)).natAbs).length≤68719476736:=hs2
 have hs6:(dg 4294967296 ((q.den:Int)).natAbs).length≤68719476736:=hs4
 refine sq ?_;refine rl ?_;refine bx 0 ?_;refine bx 1 ?_;refine o1 ?_;refine nl ?_
 refine md (γ:=Unit) (fun _=>dD [(2,.one (.pt 0 0)),(3,.one (.pt 1 0)),(4,.one (tv (.int .i64 ((0:Nat):Int))))]) (fun _=>([⟨27,0,((Fr4.of p).tr false).map .t⟩,⟨27,0,((Fr4.of q).tr false).map .t⟩]:List Ob).map some) (fun _=>True) ?_ fun _ _=>?_
 ·refine rd [0,1] (fun i=>[0,1,2,3,4,5].contains i) mixed ?_
  refine WO.two (i:=0) (j:=2) (by kernel_rfl) ?_ ?_
  ·refine eC 0 ?_;refine WO.two (i:=1) (j:=2) (by kernel_rfl) ?_ ?_
   ·refine iA 1 rfl (cT ha) eF ⟨aD rfl,rfl⟩ (qF (.of p)) ?_;refine WO.one (by kernel_rfl) (eC 2 ?_)
    refine aN 3 rfl (cT hb) eF ⟨aD rfl,rfl⟩ (qF (.of q)) ?_;refine dst 4 ?_;refine dst 5 ?_;refine bJ ?_
    exact⟨(),trivial,bS h0 [0,1] _ _ (by decide) ⟨rfl,rfl,rfl,trivial⟩ ⟨oe rfl rfl,oe rfl rfl,rfl⟩⟩
   refine eC 2 ?_;refine aN 1 rfl (cT ha) eF ⟨aD rfl,rfl⟩ (qF (.of p)) ?_;refine aN 3 rfl (cT hb) eF ⟨aD rfl,rfl⟩ (qF (.of q)) ?_;refine dst 4 ?_;refine dst 5 ?_
   refine bJ ?_;exact⟨(),trivial,bS h0 [0,1] _ _ (by decide) ⟨rfl,rfl,rfl,trivial⟩ ⟨oe rfl rfl,oe rfl rfl,rfl⟩⟩
  refine eC 2 ?_;refine WO.one (by kernel_rfl) (eC 0 ?_)
  refine aN 1 rfl (cT ha) eF ⟨aD rfl,rfl⟩ (qF (.of p)) ?_;refine aN 3 rfl (cT hb) eF ⟨aD rfl,rfl⟩ (qF (.of q)) ?_;refine dst 4 ?_;refine dst 5 ?_;refine bJ ?_
  exact⟨(),trivial,bS h0 [0,1] _ _ (by decide) ⟨rfl,rfl,rfl,trivial⟩ ⟨oe rfl rfl,oe rfl rfl,rfl⟩⟩
 refine sq ?_;refine rd [0,1] (fun i=>[11].contains i) mixed ?_
 refine dv 0 ?_;refine bD 1 ?_;refine dv 2 ?_;refine bD 3 ?_;refine dv 5 ?_;refine bD 6 ?_;refine dv 7 ?_;refine bD 8 ?_;have hn1:=fR (p.num) ((q.den:Int))
 refine aN 4 rfl (oK (mJ hs) (kS hs')) pD ⟨aD rfl,aD rfl,rfl⟩ (kF ((p.num*(q.den:Int)))) ?_;have hn2:=fR (q.num) ((p.den:Int))
 refine aN 9 rfl (oK (mJ hs') (kS hs)) pD ⟨aD rfl,aD rfl,rfl⟩ (kF ((q.num*(p.den:Int)))) ?_
 refine aN 10 rfl (Nb (Zn.of (k:=(p.num*(q.den:Int))) (by omega)) (Zn.of (k:=(q.num*(p.den:Int))) (by omega))) Bm ⟨aD rfl,aD rfl,rfl⟩ (.one (tv (.int .i64 ((p.num*(q.den:Int))-(q.num*(p.den:Int))).sign))) ?_
 refine gA 11 (by kernel_rfl) rfl rfl aB rfl (by trivial) ?_ (fun h=>by first | rfl | cases h)
 refine bJ ?_;refine rt ?_;exact en (.inl rfl) rfl (bI (aZ _)) (by decide) (fun _=>trivial) (by rw[←Md];rfl)
end Go.Proofs.YtcaakamelngceaaGreatDoor
