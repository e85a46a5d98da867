/- Part 5 of a proof: Av26 to Shelf. -/
import Derived.Test.YteggpgndiajdpaaGreatDoorM4
import Derived.Laws.BytesArg
import Derived.Lib.ConvBytes
import Derived.Lib.SmallJoins
import Derived.Stop.IfaceNil
import Derived.Test.YteggpgndiajdpaaGreatDoorProg
import Derived.WalkKit
import Derived.WalkSpells
import Derived.WalkLawsBesides
import Derived.Deep.QuietTactic
import Derived.BigQuiet
import Derived.Test.YteggpgndiajdpaaGreatDoorM1
import Derived.Lib.SliceRun
import Derived.KernelRfl
import Derived.Deep.RegionWith
import Derived.Lib.AppendZeros
import Derived.Deep.RegionHeld3
import Derived.Shelf.Small.Bits
set_option maxRecDepth 100000
set_option linter.unusedVariables false
set_option linter.unusedSimpArgs false
namespace Go.Proofs.YteggpgndiajdpaaGreatDoor
open Go Go.RowKit
def aJ (l:List Nat):ByteArray:=⟨(l.map UInt8.ofNat).toArray⟩
def aV (xs:List Nat):List Tr:=xs.map fun(n:Nat)=>.v (.int .u8 (n:Int))
section
variable {l l':List Nat}{i j:Nat}
theorem aP (l:List Nat):(aJ l).size=l.length:=by simp[aJ,ByteArray.size]
theorem fB (l:List Nat):(aJ l).data.toList=l.map UInt8.ofNat:=rfl
theorem oM {a b:ByteArray}(h:a.data.toList=b.data.toList):a=b:=by
 cases a;cases b
 simp only at h
 rw[Array.toList_inj]at h
 rw[h]
theorem Am (l l':List Nat):aJ l++aJ l'=aJ (l++l'):=oM (by simp[aJ])
theorem jN (l:List Nat) (i j:Nat):(aJ l).extract i j=aJ ((l.take j).drop i):=oM (by
 simp[aJ,List.map_drop,List.map_take,List.extract_eq_drop_take',List.extract_eq_take_drop])
theorem fX (h:i<l.length) (h2:nth l i<256):((aJ l).data[i]?.getD 0).toNat=nth l i:=by
 have e:(aJ l).data[i]? =some (UInt8.ofNat (nth l i)):=by
  rw[←Array.getElem?_toList,fB,List.getElem?_map]
  simp[nth,h]
 rw[e]
 simp
 omega
theorem Jr {a b:Nat}(ha:a<256) (hb:b<256) (h:UInt8.ofNat a=UInt8.ofNat b):a=b:=by
 have:=congrArg UInt8.toNat h
 simp at this
 omega
theorem Js (h:Lim 256 l) (h':Lim 256 l'):aJ l=aJ l'↔l=l':=by
 refine⟨fun e=>?_,fun e=>by rw[e]⟩
 have e2:=congrArg (fun a:ByteArray=>a.data.toList) e
 simp only[fB]at e2
 induction l generalizing l' with
 | nil=>cases l' with
  | nil=>rfl
  | cons x l'=>simp at e2
 | cons x l ih=>cases l' with
  | nil=>simp at e2
  | cons y l'=>
   simp only[List.map_cons,List.cons.injEq]at e2
   rw[Jr (h x (List.mem_cons_self ..)) (h' y (List.mem_cons_self ..)) e2.1,ih (fun z hz=>h z (List.mem_cons_of_mem _ hz)) (fun z hz=>h' z (List.mem_cons_of_mem _ hz)) (by unfold aJ;rw[e2.2]) e2.2]
theorem yJ (h:Lim 256 l) (h':Lim 256 l'):((aJ l).toList==(aJ l').toList)=decide (l=l'):=by
 rw[ByteArray.toList_eq,ByteArray.toList_eq,fB,fB,Bool.eq_iff_iff,decide_eq_true_eq,beq_iff_eq,←Js h h']
 exact⟨fun e=>oM e,fun e=>by rw[←fB,←fB,e]⟩
theorem Mq (a:ByteArray):a=aJ (a.data.toList.map UInt8.toNat)∧Lim 256 (a.data.toList.map UInt8.toNat):=by
 refine⟨oM ?_,fun x hx=>?_⟩
 ·rw[fB,List.map_map]
  have:UInt8.ofNat∘UInt8.toNat=id:=by funext x;simp
  rw[this,List.map_id]
 obtain⟨c,_,rfl⟩:=List.mem_map.1 hx
 exact c.toNat_lt
theorem Fz (xs:List Nat):strOfNums (xs.map fun(n:Nat)=>(n:Int))=aJ xs:=by simp[strOfNums,aJ]
end
section
variable {x:Cx}{g:Nat→FV}{ob ob':List (Option Ob)}{cs:List Co}{ts:Array Value}{W:World}{T:List (Nat×TI)}{Q:cH}{ops:Array Oper}{rest:List Oper}{d:Nat}{ty:TypeId}{pos:String}{af:Array Edge}{gd:Option (Nat×Bool)}
theorem eK (xs:List Nat):(aV xs).length=xs.length:=by simp[aV]
theorem yK (xs:List Nat):dU ((aV xs).map .t)=true:=by
 induction xs with
 | nil=>rfl
 | cons x xs ih=>simpa[aV,dU,iQ]using ih
theorem wL (xs:List Nat):bZ ((aV xs).map .t)=true:=by
 induction xs with
 | nil=>rfl
 | cons x xs ih=>simpa[aV,bZ,lone]using ih
theorem An {N:Nat→Prop}:∀{xs:List Nat}{us:List Value},ARL W N cs ((aV xs).map .t) us→us=xs.map fun(n:Nat)=>Value.int .u8 (n:Int)
 | [],us,h=>by simpa[aV,ARL]using h
 | x::xs,u::us,h=>by
  simp only[aV,List.map_cons,ARL,AR,FR]at h
  rw[h.1,An (xs:=xs) h.2]
  rfl
 | x::xs,[],h=>by simp[aV,ARL]at h
theorem Jt (hT:aW x.P T){t t2 e by_ ts0:Nat}{zz:Value}{ti:Bool}{z0:List Value}{ie i2:TI}{a:Operand}{av:AV}{xs:List Nat}(ht:aI T t=some ⟨ti,ts0,z0,.sl e 1 by_ zz⟩) (he:aI T e=some ie) (hek:ie.kd=.it .u8) (h2:aI T t2=some i2) (h2k:i2.kd=.str)
  (ha:lk x.n g a=.one av) (hs:SrcA ob 1 av xs.length ((aV xs).map .t)):OS x ⟨some d,.convert t t2 a,ty,pos,af,gd⟩ g ob [] (fun g' ob'=>g'=aK g d (.one (tv (.string (aJ xs))))∧ob'=ob):=by
 intro cs ts W hR K Q k
 have h1:=hR.lk a
 rw[ha]at h1
 obtain⟨A,c,us,eu,hrd,hus⟩:=hs.ok (yK xs) hR h1
 have hus:=An hus
 subst hus
 have k1:=(aY hT ht).2.2.2.1
 have k2:=(aY hT he).2.2.2
 have k3:=(aY hT h2).2.2.2
 rw[hek]at k2
 rw[h2k]at k3
 obtain⟨_,q1,_,_⟩:=k1
 have hrun:(execOp (Act.eval ⟨ts,[]⟩) ⟨some d,.convert t t2 a,ty,pos,af,gd⟩).run x.P W=.ok (.value (.string (aJ xs))) W:=by
  have hc:=run_convert_bytes_string (P:=x.P) W t t2 e A xs.length c q1 k2 k3
  have hb:(Conv.bytesToString (.slice A xs.length c)).run x.P W=.ok (.string (aJ xs)) W:=by
   cases A with
   | none=>
    have hx:xs.length=0:=by
     rcases Nat.eq_zero_or_pos xs.length with h | h
     ·exact h
     obtain⟨ad,q,_⟩:=hrd.cell h
     cases q
    obtain rfl:=List.eq_nil_of_length_eq_zero hx
    simp[Conv.bytesToString,aJ]
    rfl
   | some ad=>
    have hl:(loadCells ad xs.length).run x.P W=.ok ((xs.map fun(n:Nat)=>(n:Int)).map (Value.int .u8)).toArray W:=by
     have:=run_loadCells_list (P:=x.P) W ad ((xs.map fun(n:Nat)=>(n:Int)).map (Value.int .u8)) (fun j v hj=>by
      have hj2:=hj
      rw[List.map_map]at hj2
      have hlt:j<xs.length:=by
       have:=(List.getElem?_eq_some_iff.1 hj2).1
       simpa using this
      obtain⟨ad',q,_,q3⟩:=hrd.cell (by omega)
      injection q with q
      subst q
      exact q3 j v hj2)
     simpa using this
    rw[run_bytesToString W ad _ c _ hl,foldl_push_bytes,←Fz]
    simp[strOfNums]
  simp[execOp,eu,hc,hb]
 exact bT hrun (k _ _ _ _ _ ⟨rfl,rfl⟩ (hR.put d (v:=.one (tv (.string (aJ xs)))) (dG (by simp[tv,AR,FR]))) (.put d _))
theorem Ju (hT:aW x.P T){t k n sz ts0:Nat}{ti:Bool}{z0:List Value}(ht:aI T t=some ⟨ti,ts0,z0,.ar n sz⟩) (hk:dF ob k=true) (hz:z0.length=n*sz) (hs:Nat.beq sz 0=false) (hn:n≤1000):OS x ⟨some d,.alloc t,ty,pos,af,gd⟩ g ob [] (fun g' ob2=>g'=aK g d (.one (.pt k 0))∧ob2=ob++[some ⟨t,sz,z0.map tv⟩]):=by
 obtain⟨j,v,h1,h2,h3⟩:=(aY hT ht).2.2.1
 have hk:=Nat.eq_of_beq_eq_true hk
 subst hk
 intro cs ts W hR K Q kk
 have hrun:(execOp (Act.eval ⟨ts,[]⟩) ⟨some d,.alloc t,ty,pos,af,gd⟩).run x.P W=.ok (.value (.pointer (some ⟨W.heap.size,0,none⟩))) (W.alloc (.cells z0.toArray t)):=by
  simp[execOp,Instr.alloc,zeroValue,typeInfo,h1,h2,newVar,newRow,h3]
 obtain⟨m1,m2⟩:=hR.made (t:=t) (z:=sz) (c:=n) (fF z0) (lK _) (by rw[hs];exact hz) (by unfold maxLen;omega)
 refine bT hrun (kk _ _ _ _ _ ⟨rfl,rfl⟩ (m1.put d ?_) ((m2 (some d)).then_put _))
 refine dG ?_
 simp only[AR]
 exact⟨W.heap.size,by rw[hR.len,dH],rfl⟩
theorem Pz (key:Nat){t n sz ts0:Nat}{ti:Bool}{z0:List Value}(kk:WL x ops rest (aK g d (.one (.pt key 0))) (ob++[some ⟨t,sz,z0.map tv⟩]) Q) (hT:aW x.P ttab:=by exact aX) (hw:aR ops x.n g gd=some true:=by rfl) (ht:aI ttab t=some ⟨ti,ts0,z0,.ar n sz⟩:=by rfl) (hk:dF ob key=true:=by rfl) (hz:z0.length=n*sz:=by rfl) (hs:Nat.beq sz 0=false:=by rfl) (hn:n≤1000:=by decide):WL x ops (⟨some d,.alloc t,ty,pos,af,gd⟩::rest) g ob Q:=
 dZ (Ju hT ht hk hz hs hn) hw (by rintro _ _ ⟨rfl,rfl⟩;exact kk)
theorem Mr {ta t e z by_ n m k d1 t' ts2:Nat}{zz:Value}{ti ti2:Bool}{ts0:Nat}{z0 z2:List Value}{s a:Operand}{av:AV}{l la:List AV}{ty1:TypeId}{pos1:String}{af1:Array Edge}{gd1:Option (Nat×Bool)}(j:Nat) (hd:DstA ob e z av n ob' l) (hr:dU la=true) (hlo:bZ la=true) (hla:la.length=m*z) (hbytes:(n+m)*by_≤140737488355328) (h63:n+m≤140737488355328)
  (kk:WL x ops rest (aK (aK g d1 .any) d (.one (.sl j 0 (n+m)))) (ob'++[some ⟨e,z,l++la⟩]) Q)
  (hT:aW x.P ttab:=by exact aX) (hta:aI ttab ta=some ⟨ti2,ts2,z2,.ar m z⟩:=by rfl) (ht:aI ttab t=some ⟨ti,ts0,z0,.sl e z by_ zz⟩:=by rfl) (hsl:lk x.n g s=.one (.pt k 0):=by rfl) (hob:bB ob k=some ⟨t',z,la⟩:=by rfl) (ha:lk x.n (aK g d1 .any) a=.one av:=by rfl) (hj:dF ob j=true:=by rfl) (hd1:Nat.blt d1 x.n=true:=by rfl)
  (hw1:aR ops x.n g gd1=some true:=by rfl) (hw2:aR ops x.n (aK g d1 .any) gd=some true:=by rfl):
  WL x ops (⟨some d1,.slice ta s none none none,ty1,pos1,af1,gd1⟩::⟨some d,.call ⟨.builtin .append, #[a,.tmp d1], #[t,t]⟩,ty,pos,af,gd⟩::rest) g ob Q:=by
 intro ts W ⟨cs,hR⟩
 have hd1:d1<x.n:=by simpa using hd1
 have h1:=hR.lk s
 rw[hsl]at h1
 simp only[aD,aN,AR]at h1
 obtain⟨b,hb,e1⟩:=h1
 have k1:=(aY hT hta).2.2.2
 obtain⟨ee,ii,q1,q2,q3⟩:=k1
 have hb0:(Instr.sliceBounds false m m none none none).run x.P W=.ok (0,m,m) W:=by
  simp[Instr.sliceBounds]
 have hrun:(execOp (Act.eval ⟨ts,[]⟩) ⟨some d1,.slice ta s none none none,ty1,pos1,af1,gd1⟩).run x.P W=.ok (.value (.slice (some ⟨b,0,none⟩) m m)) W:=by
  simp[execOp,e1,Instr.sliceAt,run_underlying q1,Instr.sureAddr,hb0,sizeOf,typeInfo,q2,Addr.add]
 refine sP (fO hw1 hR) (bT hrun ?_)
 have hR1:=hR.put d1 (v:=.any) (u:=.slice (some ⟨b,0,none⟩) m m) trivial
 obtain⟨Wr,h,_⟩:=wF (x:=x) (g:=aK g d1 .any) (E:=fun cs ts=>∃b,(co cs k).b=some b∧Act.eval ⟨ts,[]⟩ (.tmp d1)=.slice (some ⟨b,0,none⟩) m m) (d:=d) (ty:=ty) (pos:=pos) (af:=af) (gd:=gd) (b:=.tmp d1) hT ht ha hd (fun cs ts W hR ⟨b,hb,e⟩=>by
  have hk:=bK hob
  obtain⟨k1,_,k3⟩:=hR.blk hk hb
  have hcl:=hR.crl hk
  have h4:=hG hcl hr
  refine⟨_,m,_,e,⟨by rw[cF h4,hla],Nat.le_refl _,by omega,fun h0=>⟨_,rfl,hR.blkS hk b (by simp[aB,hb]),fun j u hj=>?_⟩⟩,h4⟩
  have h6:=gX k1 hj
  simpa using h6) hr hlo hj hbytes h63
 refine sP (fO hw2 hR1) (h cs _ W hR1 ⟨b,hb,?_⟩ _ _ fun g' ob' cs' ts' W' hr hR' _=>?_)
 ·have:d1<ts.size:=by rw[hR.sz];exact hd1
  simp[Act.eval,this]
 obtain⟨rfl,rfl⟩:=hr
 exact kk ts' W' ⟨cs',hR'⟩
theorem yL {late:Nat→Bool}{K fr:List Nat}{fuel:Nat}{listed:Array Bool}{t ky o t' z':Nat}{ti:TI}{a:Operand}{l:List AV}{v:AV}(i:Nat) (hx:l[o]? =some v) (k:WD x ops Q late K (d::fr) true fuel (listed.setIfInBounds i true) (aK g d (.one v)) ob) (hT:aW x.P ttab:=by exact aX) (hi:ops[i]? =some ⟨some d,.load t a,ty,pos,af,gd⟩:=by rfl) (hw:aR ops x.n g gd=some true:=by rfl) (hti:aI ttab t=some ti:=by rfl) (hlk:lk x.n g a=.one (.pt ky o):=by rfl) (ho:bB ob ky=some ⟨t',z',l⟩:=by rfl) (ha:ti.agg=false:=by rfl) (hr:iQ v=true:=by rfl):WO x ops Q late K fr true fuel listed i g ob:=
 Jd (v:=.one v) i hi rfl hw (Eg hT hti (by rw[hlk];exact Ae ho hx ha hr)) (by rintro _ _ ⟨rfl,rfl⟩;exact⟨rfl,fun _ _=>rfl⟩) (by rintro _ _ ⟨rfl,rfl⟩;exact k)
theorem Qa {t t2 e by_ ts0:Nat}{zz:Value}{ti:Bool}{z0:List Value}{ie i2:TI}{a:Operand}{av:AV}{xs:List Nat}{m:Nat}(hs:SrcA ob 1 av m ((aV xs).map .t)) (hm:m=xs.length) (kk:WL x ops rest (aK g d (.one (tv (.string (aJ xs))))) ob Q) (hT:aW x.P ttab:=by exact aX) (hw:aR ops x.n g gd=some true:=by rfl) (ht:aI ttab t=some ⟨ti,ts0,z0,.sl e 1 by_ zz⟩:=by rfl) (he:aI ttab e=some ie:=by rfl) (hek:ie.kd=.it .u8:=by rfl) (h2:aI ttab t2=some i2:=by rfl) (h2k:i2.kd=.str:=by rfl) (ha:lk x.n g a=.one av:=by rfl):WL x ops (⟨some d,.convert t t2 a,ty,pos,af,gd⟩::rest) g ob Q:=
 dZ (Jt hT ht he hek h2 h2k ha (hm▸hs)) hw (by rintro _ _ ⟨rfl,rfl⟩;exact kk)
theorem fJ (xs:List Nat){k:Nat}(h:k<xs.length):((aV xs).drop (k*1)).take [Tr.v (.int .u8 ((nth xs k:Nat):Int))].length=[Tr.v (.int .u8 ((nth xs k:Nat):Int))]:=by
 rw[Nat.mul_one]
 have:(aV xs)[k]? =some (Tr.v (.int .u8 ((nth xs k:Nat):Int))):=by simp[aV,aU h,h]
 rw[List.length_singleton,List.take_one]
 simp[this]
theorem sA (xs:List Nat){k:Nat}(h:k<xs.length):((aV xs).map AV.t)[0+k*1]? =some (tv (.int .u8 ((nth xs k:Nat):Int))):=by simp[aV,aU h,h,tv]
theorem mA (xs:List Nat){k v:Nat}(h:k<xs.length):bP ((aV xs).map AV.t) (0+k*1) [tv (.int .u8 (v:Int))]=(aV (xs.set k v)).map .t:=by
 rw[Nat.zero_add,Nat.mul_one,List.set_eq_take_append_cons_drop,if_pos h]
 simp[bP,aV,tv,List.map_take,List.map_drop]
theorem oN (xs:List Nat){k:Nat}{a:AV}(h:k<xs.length):0+k*1+[a].length≤((aV xs).map AV.t).length:=by simp[aV];omega
theorem Ms (xs:List Nat):((aV xs).map AV.t).take (xs.length*1)=(aV xs).map .t:=by rw[Nat.mul_one,List.take_of_length_le (by simp[eK])]
theorem yM (xs:List Nat):((aV xs).map AV.t).length=xs.length*1:=by simp[eK]
theorem jO (xs ys:List Nat):(aV xs).map AV.t++(aV ys).map .t=(aV (xs++ys)).map .t:=by simp[aV]
end
theorem fK {fresh:Bool}{x:Cx}{T:List (Nat×TI)}{rv:List ResultVar}{e:Exit}{g:Nat→FV}{ob:List (Option Ob)}{b b':Bool}(he:e=.ret∨e=.normal) (res:iY T x.n g ob rv=some [.one (tv (.bool b))]) (hb:b=b'):qA x T rv fresh [] (bG (.one (tv (.bool b')))) e g ob:=en he res (eQ (cN _)) (by decide) (fun _=>trivial) (by rw[hb];rfl)
theorem Jv {b b':Bool}(h:b=b'):some (FV.one (tv (.bool b)))=some (FV.one (tv (.bool b'))):=by rw[h]
theorem wM {b:Bool}(h:(!b)=false):b=true:=by cases b <;> simp_all
theorem Es {b:Bool}(h:(!b)=true):b=false:=by cases b <;> simp_all
theorem mB {k:IntKind}{a b:Int}(h:a=b):some (FV.one (tv (.int k a)))=some (FV.one (tv (.int k b))):=by rw[h]
theorem jP (l:List Nat) (i:Nat):(aJ l).extract i (aJ l).size=aJ (l.drop i):=by
 rw[jN,aP,List.take_of_length_le (Nat.le_refl _)]
theorem iB {l:List Nat}(h:Lim 256 l):((aJ l).toList==(⟨#[]⟩:ByteArray).toList)=decide (l=[]):=yJ (l':=[]) h Lim.nil
theorem gQ {B:Nat}{l:List Nat}{k:Nat}(h:Lim B l) (hk:k<l.length):nth l k<B:=by
 rw[aU hk]
 exact h _ (List.getElem_mem hk)
theorem nT {B:Nat}{l:List Nat}(h:Lim B l) (k:Nat):Lim B (l.drop k):=fun x hx=>h x (List.mem_of_mem_drop hx)
theorem wN {B:Nat}{l:List Nat}(h:Lim B l):Lim B l.reverse:=fun x hx=>h x (List.mem_reverse.1 hx)
theorem Ao {l:List Nat}{c:Nat}(h1:0<l.length) (h2:nth l 0=c):(l.drop 1).dropWhile (· ==c)=l.dropWhile (· ==c):=by
 cases l with
 | nil=>simp at h1
 | cons x l=>
  have:x=c:=h2
  simp[this]
theorem yN {l:List Nat}{c:Nat}(h1:l.length=0):l=l.dropWhile (· ==c):=by
 rw[List.eq_nil_of_length_eq_zero h1];rfl
theorem yO {l:List Nat}{c:Nat}(h1:0<l.length) (h2:¬nth l 0=c):l=l.dropWhile (· ==c):=by
 cases l with
 | nil=>simp at h1
 | cons x l=>
  have:¬x=c:=h2
  simp[this]
def cO (xs:List Nat) (k:Nat):List Nat:=(List.range xs.length).map fun i=>if i<k∨xs.length-k≤i then nth xs (xs.length-1-i)else nth xs i
theorem eL (xs:List Nat) (k:Nat):(cO xs k).length=xs.length:=by simp[cO]
theorem gR {xs:List Nat}{k i:Nat}(h:i<xs.length):nth (cO xs k) i=if i<k∨xs.length-k≤i then nth xs (xs.length-1-i)else nth xs i:=by
 rw[aU (by rw[eL];exact h)]
 simp[cO]
theorem nU {xs ys:List Nat}(h:xs.length=ys.length) (h2:∀i,i<xs.length→nth xs i=nth ys i):xs=ys:=by
 refine List.ext_getElem h fun i h1 h3=>?_
 have:=h2 i h1
 rwa[aU h1,aU h3]at this
theorem Mt (xs:List Nat):xs=cO xs 0:=nU (by rw[eL]) fun i hi=>by
 rw[gR hi,if_neg (by omega)]
theorem Ga {xs:List Nat}{i:Nat}(h:i<xs.length):nth xs.reverse i=nth xs (xs.length-1-i):=by
 rw[aU (by simpa using h),aU (by omega),List.getElem_reverse]
theorem Gb {xs:List Nat}{k:Nat}(h:xs.length≤2*k+1):cO xs k=xs.reverse:=nU (by rw[eL,List.length_reverse]) fun i hi=>by
 rw[eL]at hi
 rw[gR hi,Ga hi]
 by_cases h1:i<k∨xs.length-k≤i
 ·rw[if_pos h1]
 rw[if_neg h1,show xs.length-1-i=i by omega]
theorem tZ {xs:List Nat}{k i v:Nat}(h:k<xs.length):nth (xs.set k v) i=if i=k then v else nth xs i:=by
 unfold nth
 rw[List.getD_eq_getElem?_getD,List.getD_eq_getElem?_getD,List.getElem?_set]
 by_cases h1:k=i
 ·subst h1
  simp[h]
 rw[if_neg h1,if_neg (fun e=>h1 e.symm)]
theorem Et {xs:List Nat}{k:Nat}(h:2*k+1<xs.length):((cO xs k).set k (nth (cO xs k) (xs.length-1-k))).set (xs.length-1-k) (nth (cO xs k) k)=cO xs (k+1):=by
 have e1:nth (cO xs k) k=nth xs k:=by rw[gR (by omega),if_neg (by omega)]
 have e2:nth (cO xs k) (xs.length-1-k)=nth xs (xs.length-1-k):=by rw[gR (by omega),if_neg (by omega)]
 rw[e1,e2]
 refine nU (by simp[eL]) fun i hi=>?_
 simp only[List.length_set,eL]at hi
 rw[tZ (by simp only[List.length_set,eL];omega),tZ (by rw[eL];omega),gR (k:=k+1) hi,gR (k:=k) hi]
 by_cases h1:i=xs.length-1-k
 ·subst h1
  rw[if_pos rfl,if_pos (by omega),show xs.length-1-(xs.length-1-k)=k by omega]
 rw[if_neg h1]
 by_cases h2:i=k
 ·subst h2
  rw[if_pos rfl,if_pos (by omega)]
 rw[if_neg h2]
 by_cases h3:i<k∨xs.length-k≤i
 ·rw[if_pos h3,if_pos (by omega)]
 rw[if_neg h3,if_neg (by omega)]
def fd (n v:Nat):List Nat:=(List.range n).map fun i=>v/10^i%10
theorem gC (n v:Nat):(fd n v).length=n:=by simp[fd]
theorem Jw (n v:Nat):fd (n+1) v=fd n v++[v/10^n%10]:=by simp[fd,List.range_succ]
theorem Jx (n v:Nat):Lim 10 (fd n v):=fun x hx=>by
 obtain⟨i,_,rfl⟩:=List.mem_map.1 hx
 exact Nat.mod_lt _ (by omega)
theorem Mu (n v:Nat):vl 10 (fd n v)=v%10^n:=by
 induction n with
 | zero=>simp[fd,vl,Nat.mod_one]
 | succ n ih=>rw[Jw,dX,ih,gC,Nat.pow_succ,Nat.mod_mul]
def bN (l:List Nat):List Nat:=l.map fun d=>48+d
theorem dI (l:List Nat):(bN l).length=l.length:=by simp[bN]
theorem wO (l m:List Nat):bN l++bN m=bN (l++m):=by simp[bN]
theorem wP {l:List Nat}(h:Lim 10 l):Lim 256 (bN l):=fun x hx=>by
 obtain⟨d,hd,rfl⟩:=List.mem_map.1 hx
 have:=h d hd
 omega
def tx (v:Nat):List Nat:=if v=0 then [48]else(bN (dg 10 v)).reverse
theorem Ap (l:List Nat):(bN l).reverse.dropWhile (· ==48)=(bN (trim l)).reverse:=by
 induction l with
 | nil=>rfl
 | cons d l ih=>
  have e:bN (d::l)=(48+d)::bN l:=rfl
  rw[e,List.reverse_cons,List.dropWhile_append,ih,cJ]
  by_cases h:trim l=[]
  ·rw[h]
   simp only[bN,List.map_nil,List.reverse_nil,List.isEmpty_nil,if_true,true_and]
   by_cases h0:d=0
   ·subst h0;simp
   rw[if_neg h0,List.dropWhile_cons,if_neg (by simp;omega)];rfl
  have h2:((bN (trim l)).reverse).isEmpty=false:=by
   cases hq:trim l with
   | nil=>exact absurd hq h
   | cons a b=>simp[bN]
  rw[h2,if_neg (by simp),if_neg (fun hh=>h hh.1)]
  simp[bN]
theorem yP {l:List Nat}{v:Nat}(h:Lim 10 l) (hv:vl 10 l=v):(bN l).reverse.dropWhile (· ==48)=(if v=0 then []else tx v):=by
 rw[Ap,fE (by omega) h hv]
 unfold tx
 by_cases h0:v=0
 ·rw[if_pos h0,h0,eI];rfl
 rw[if_neg h0,if_neg h0]
theorem Mv (v:Nat):tx v≠[]:=by
 unfold tx
 split
 ·simp
 rename_i h
 intro e
 have:=congrArg List.length e
 simp only[List.length_reverse,dI,List.length_nil]at this
 exact h ((bS (by omega)).1 (List.eq_nil_of_length_eq_zero this))
theorem Jy {i r:Nat}{lZ:List Nat}(hi:i<9) (ho:lZ.length=9):(bN (fd i r)++lZ.drop i).set i (48+r/10^i%10)=bN (fd (i+1) r)++lZ.drop (i+1):=by
 rw[List.set_append_right _ _ (by rw[dI,gC];omega),dI,gC,Nat.sub_self,List.drop_eq_getElem_cons (by omega),List.set_cons_zero,Jw,←wO,List.append_assoc]
 rfl
theorem Mw {ds:List Nat}{u v:Nat}(h:vl 10 ds+10^ds.length*u=v):vl 10 (ds++fd 9 (u%1000000000))+10^(ds++fd 9 (u%1000000000)).length*(u/1000000000)=v:=by
 rw[lD,Mu,List.length_append,gC,Nat.pow_add,←h,show(10:Nat)^9=1000000000 by rfl,Nat.mod_mod,Nat.mul_assoc,Nat.add_assoc,←Nat.mul_add,Nat.mod_add_div]
theorem Gc {ds:List Nat}{u v L:Nat}(h:vl 10 ds+10^ds.length*u=v) (hu:0<u) (hv:v<4294967296^L):ds.length≤10*L:=by
 have h1:10^ds.length≤v:=by
  have:=Nat.le_mul_of_pos_right (10^ds.length) hu
  omega
 have h2:(4294967296:Nat)^L≤10^(10*L):=by rw[Nat.pow_mul];exact Nat.pow_le_pow_left (by omega) L
 exact Nat.le_of_lt ((Nat.pow_lt_pow_iff_right (a:=10) (by omega)).1 (Nat.lt_of_le_of_lt h1 (Nat.lt_of_lt_of_le hv h2)))
theorem Jz {B:Nat}{l:List Nat}{p:Nat→Bool}(h:Lim B l):Lim B (l.dropWhile p):=fun x hx=>h x ((List.dropWhile_sublist p).subset hx)
theorem Gd {ds:List Nat}{v:Nat}(hd:Lim 10 ds) (hv:vl 10 ds=v) (h:(!decide ((bN ds).reverse.dropWhile (· ==48)=[]))=true):(bN ds).reverse.dropWhile (· ==48)=tx v:=by
 have h1:=of_decide_eq_false (by simpa using h:decide ((bN ds).reverse.dropWhile (· ==48)=[])=false)
 rw[yP hd hv]at h1⊢
 by_cases h0:v=0
 ·rw[if_pos h0]at h1;exact absurd rfl h1
 rw[if_neg h0]
theorem Ka {ds:List Nat}{v:Nat}(hd:Lim 10 ds) (hv:vl 10 ds=v) (h:(!decide ((bN ds).reverse.dropWhile (· ==48)=[]))=false):[48]=tx v:=by
 have h1:=of_decide_eq_true (wM h)
 rw[yP hd hv]at h1
 by_cases h0:v=0
 ·rw[h0];rfl
 rw[if_neg h0]at h1;exact absurd h1 (Mv v)
theorem kQ {B u:Nat}(h:0<(dg B u).length):0<u:=by
 rcases Nat.eq_zero_or_pos u with h0 | h0
 ·subst h0;simp[eI]at h
 exact h0
theorem Kb {ob:List (Option Ob)}{k t m:Nat}{xs:List Nat}(h:bB ob k=some ⟨t,1,(aV xs).map .t⟩) (hm:m=xs.length):SrcA ob 1 (.sl k 0 m) m ((aV xs).map .t):=by
 subst hm
 exact .sl h (by rw[List.drop_zero];exact Ms xs) (yM xs)
theorem Mx {n:Nat}(h:n<4294967296):fG .u32 (n:Int):=by simp only[fG];omega
section
variable {x:Cx}{g:Nat→FV}{ob ob':List (Option Ob)}{cs:List Co}{ts:Array Value}{W:World}{T:List (Nat×TI)}{Q:cH}{ops:Array Oper}{rest:List Oper}{d:Nat}{ty:TypeId}{pos:String}{af:Array Edge}{gd:Option (Nat×Bool)}
theorem Aq {N:Nat→Prop}{ad:Addr}:∀{l:List Nat}{o:Nat},(∀j,j<l.length→W.cell? (ad.add (o+j))=some (.int .u8 ((nth l j:Nat):Int)))→FRc W N ad o (aV l)
 | [],_,_=>by simp[aV,FRc]
 | y::l,o,h=>by
  have h0:=h 0 (by simp)
  have ih:=Aq (l:=l) (o:=o+1) (N:=N) (ad:=ad) fun j hj=>by
   have:=h (j+1) (by simpa using hj)
   rw[show o+1+j=o+(j+1) by omega]
   exact this
  simp only[aV,List.map_cons,FRc]
  exact⟨⟨_,h0,by simp[FR,nth]⟩,ih⟩
theorem Kc (hT:aW x.P T){t t2 e by_ ts0:Nat}{zz:Value}{ti:Bool}{z0:List Value}{ie i1:TI}{a:Operand}{l:List Nat}(h1:aI T t=some i1) (h1k:i1.kd=.str) (h2:aI T t2=some ⟨ti,ts0,z0,.sl e 1 by_ zz⟩) (he:aI T e=some ie) (hek:ie.kd=.it .u8) (ha:lk x.n g a=.one (tv (.string (aJ l)))) (hl:Lim 256 l) (hn:l.length≤1000000):
  OS x ⟨some d,.convert t t2 a,ty,pos,af,gd⟩ g ob [] (fun g' ob'=>g'=aK g d (.one (.t (.s false e 1 l.length (aV l))))∧ob'=ob):=by
 intro cs ts W hR K Q k
 have e1:=hR.lk a
 rw[ha]at e1
 have e1:=aC e1
 have k1:=(aY hT h1).2.2.2
 have k2:=(aY hT h2).2.2.2.1
 have k3:=(aY hT he).2.2.2
 rw[h1k]at k1
 rw[hek]at k3
 obtain⟨_,q1,_,_⟩:=k2
 have hc:=Lib.run_convert_string_bytes (P:=x.P) W t t2 e (aJ l) k1 q1 k3
 rw[aP]at hc
 have hrun:(execOp (Act.eval ⟨ts,[]⟩) ⟨some d,.convert t t2 a,ty,pos,af,gd⟩).run x.P W=.ok (.value (.slice (some ⟨W.heap.size,0,none⟩) l.length (grownCap W l.length 0 e))) (Lib.bytesWorld W e (aJ l)):=by
  simp[execOp,e1,hc]
 have hb:=Joins.below_bytesWorld W.heap.size W e (aJ l) (Nat.le_refl _)
 have hR':=hR.ext hb
 have hcap:=grownCap_ge W l.length 0 e
 have hcm:=grownCap_le_maxLen W l.length 0 e (by unfold maxLen;omega)
 have hfr:x.fr (Lib.bytesWorld W e (aJ l)) ob cs W.heap.size:=by
  refine⟨⟨by rw[Lib.bytesWorld_size];omega,fun hm=>?_⟩,.inr (.inr hR.2.chg.size)⟩
  exact absurd (hR.2.blk _ hm).2 (Nat.lt_irrefl _)
 refine bT hrun (k _ _ _ _ _ ⟨rfl,rfl⟩ (hR'.put d (v:=.one (.t (.s false e 1 l.length (aV l)))) (dG ?_)) ?_)
 ·simp only[AR,FR]
  refine⟨_,_,rfl,hcap,by unfold maxLen at hcm;omega,by simp[eK],.inr ⟨_,rfl,hfr,Aq fun j hj=>?_⟩⟩
  have:=Lib.bytesWorld_cell W e (aJ l) j (by rw[aP];exact hj)
  rw[Nat.zero_add,show(⟨W.heap.size,0,none⟩:Addr).add j=⟨W.heap.size,j,none⟩ by cases j <;> simp[Addr.add]]
  refine this.trans (congrArg (fun n:Nat=>some (Value.int .u8 (n:Int))) ?_)
  have h9:nth l j<256:=by
   rw[aU hj]
   exact hl _ (List.getElem_mem hj)
  rw[←fX hj h9,List.getD_eq_getElem?_getD,Array.getElem?_toList]
 exact(hR.below hb (some d)).then_put _
theorem Qb {t t2 e by_ ts0:Nat}{zz:Value}{ti:Bool}{z0:List Value}{ie i1:TI}{a:Operand}{l:List Nat}(hl:Lim 256 l) (hn:l.length≤1000000) (kk:WL x ops rest (aK g d (.one (.t (.s false e 1 l.length (aV l))))) ob Q) (hT:aW x.P ttab:=by exact aX) (hw:aR ops x.n g gd=some true:=by rfl) (h1:aI ttab t=some i1:=by rfl) (h1k:i1.kd=.str:=by rfl) (h2:aI ttab t2=some ⟨ti,ts0,z0,.sl e 1 by_ zz⟩:=by rfl) (he:aI ttab e=some ie:=by rfl) (hek:ie.kd=.it .u8:=by rfl) (ha:lk x.n g a=.one (tv (.string (aJ l))):=by rfl):WL x ops (⟨some d,.convert t t2 a,ty,pos,af,gd⟩::rest) g ob Q:=
 dZ (Kc hT h1 h1k h2 he hek ha hl hn) hw (by rintro _ _ ⟨rfl,rfl⟩;exact kk)
theorem Qc {t t2:Nat}{a:Operand}(kk:WL x ops rest (aK g d (.one (tv (.bool false)))) ob Q) (hi:x.P.isIface t=true) (hw:aR ops x.n g gd=some true:=by rfl) (ha:lk x.n g a=.one (tv .nilIface):=by rfl):WL x ops (⟨some d,.binOp .neq t a (.const .nilIface) t2,ty,pos,af,gd⟩::rest) g ob Q:=by
 refine dZ (Wr:=[]) (R:=fun g' ob'=>g'=aK g d (.one (tv (.bool false)))∧ob'=ob) (fun cs ts W hR K Q kk=>?_) hw (by rintro _ _ ⟨rfl,rfl⟩;exact kk)
 have e1:=hR.lk a
 rw[ha]at e1
 have e1:=aC e1
 have h2:=run_neq_nil_nil_at (P:=x.P) W t hi
 have hrun:(execOp (Act.eval ⟨ts,[]⟩) ⟨some d,.binOp .neq t a (.const .nilIface) t2,ty,pos,af,gd⟩).run x.P W=.ok (.value (.bool false)) W:=by
  have e2:Act.eval ⟨ts,[]⟩ (.const .nilIface)=.nilIface:=rfl
  simp[execOp,e1,e2,eqGuard,h2]
 exact bT hrun (kk _ _ _ _ _ ⟨rfl,rfl⟩ (hR.put d (v:=.one (tv (.bool false))) (dG (by simp[tv,AR,FR]))) (.put d _))
end
theorem Ar (x:Int) (w:World):Calls Tryz.prog 143 #[.int .i64 x] w fun e w'=>e=.returned (.bool false)∧w=w':=by
 go_enter Tryz.func143,Tryz.ntmps143
 go_wp2
 go_ret
 simp
theorem As (x:Int) (w:World):Calls Tryz.prog 144 #[.int .u32 x] w fun e w'=>e=.returned (.bool false)∧w=w':=by
 go_enter Tryz.func144,Tryz.ntmps144
 go_wp2
 go_ret
 simp
def gH (x y:Int):Int:=if x<y then-1 else if y<x then 1 else 0
theorem uX (x y:Int) (w:World):Calls Tryz.prog 116 #[.int .i64 x,.int .i64 y] w fun e w'=>e=.returned (.int .i64 (gH x y))∧w=w':=by
 go_enter Tryz.func116,Tryz.ntmps116
 go_wp2_with (first
  | (go_at_call 143;refine(Ar _ _).mono ?_;rintro e w' ⟨rfl,rfl⟩))
 all_goals (go_ret;refine⟨jF ?_,rfl⟩;show _=gH x y;unfold gH;(repeat' split) <;> first | rfl | omega)
theorem uY (x y:Int) (w:World):Calls Tryz.prog 117 #[.int .u32 x,.int .u32 y] w fun e w'=>e=.returned (.int .i64 (gH x y))∧w=w':=by
 go_enter Tryz.func117,Tryz.ntmps117
 go_wp2_with (first
  | (go_at_call 144;refine(As _ _).mono ?_;rintro e w' ⟨rfl,rfl⟩))
 all_goals (go_ret;refine⟨jF ?_,rfl⟩;show _=gH x y;unfold gH;(repeat' split) <;> first | rfl | omega)
theorem fL (x y c:Int) (w:World) (x0:0≤x) (x1:x<4294967296) (y0:0≤y) (y1:y<4294967296) (c0:0≤c) (c1:c<4294967296):
  Calls Tryz.prog 107 #[.int .u32 x,.int .u32 y,.int .u32 c] w fun e w'=>e=.returned (.tuple #[.int .u32 ((x+y+c)%4294967296),.int .u32 ((x+y+c)/4294967296)])∧w=w':=by
 go_enter Tryz.func107,Tryz.ntmps107
 go_wp2
 go_ret2
 exact⟨rfl,rfl⟩
theorem uA (x y:Int) (x0:0≤x) (x1:x<4294967296) (y0:0≤y) (y1:y<4294967296):0≤x*y∧x*y≤18446744065119617025:=by
 refine⟨Int.mul_nonneg x0 y0,?_⟩
 have:=Int.mul_le_mul (show x≤4294967295 by omega) (show y≤4294967295 by omega) y0 (by omega)
 omega
theorem yQ (x y:Int) (w:World) (x0:0≤x) (x1:x<4294967296) (y0:0≤y) (y1:y<4294967296):
  Calls Tryz.prog 109 #[.int .u32 x,.int .u32 y] w fun e w'=>e=.returned (.tuple #[.int .u32 (x*y/4294967296),.int .u32 (x*y%4294967296)])∧w=w':=by
 obtain⟨p0,p1⟩:=uA x y x0 x1 y0 y1
 go_enter Tryz.func109,Tryz.ntmps109
 go_wp2
 go_ret2
 exact⟨rfl,rfl⟩
theorem At (h l:Int) (h0:0≤h) (h1:h<4294967296) (l0:0≤l) (l1:l<4294967296):
  bits BinOp.or IntKind.u64 (h*4294967296) l=h*4294967296+l:=by
 obtain⟨a,rfl⟩:=Int.eq_ofNat_of_zero_le h0
 obtain⟨b,rfl⟩:=Int.eq_ofNat_of_zero_le l0
 have e:((a:Int)*4294967296)=((a*4294967296:Nat):Int):=by omega
 have e2:a*4294967296 ||| b=a*4294967296+b:=by
  have:=Nat.two_pow_add_eq_or_of_lt (i:=32) (b:=b) (by omega) a
  rw[Nat.mul_comm]at this
  simpa using this.symm
 rw[e,bits_or_u64_nat _ _ (by omega) (by omega),e2]
 omega
theorem Kd (h l d:Int) (h0:0≤h) (hd:h<d) (l0:0≤l) (l1:l<4294967296):
  0≤(h*4294967296+l)/d∧(h*4294967296+l)/d<4294967296∧0≤(h*4294967296+l)%d∧(h*4294967296+l)%d<d:=by
 have hp:0<d:=by omega
 refine⟨Int.ediv_nonneg (by omega) (by omega),Int.ediv_lt_of_lt_mul hp ?_,Int.emod_nonneg _ (by omega),Int.emod_lt_of_pos _ hp⟩
 have:(h+1)*4294967296≤d*4294967296:=Int.mul_le_mul_of_nonneg_right (by omega) (by omega)
 rw[Int.mul_comm 4294967296 d]
 omega
theorem yR (h l d:Int) (w:World) (h0:0≤h) (hd:h<d) (l0:0≤l) (l1:l<4294967296) (d1:d<4294967296):
  Calls Tryz.prog 112 #[.int .u32 h,.int .u32 l,.int .u32 d] w fun e w'=>
   e=.returned (.tuple #[.int .u32 ((h*4294967296+l)/d),.int .u32 ((h*4294967296+l)%d)])∧∃n,w'=w.drewN n:=by
 have hne:(d != 0)=true:=by rw[bne_iff_ne];omega
 have hne2:¬d=0:=by omega
 have hle:decide (d≤h)=false:=by simp;omega
 have hor:=At h l h0 (by omega) l0 l1
 obtain⟨q0,q1,r0,r1⟩:=Kd h l d h0 hd l0 l1
 go_enter Tryz.func112,Tryz.ntmps112
 go_wp2
 go_quiet (fail)
 go_wp2
 go_ret2
 exact⟨rfl,_,rfl⟩
def lenOf:Value→Nat | .slice _ n _=>n | _=>0
set_option maxHeartbeats 400000 in
theorem dJ (A:Option Addr) (n c:Nat) (xs:List Nat) (B:Nat) (w:World) (h:U32 w B A n c xs):
  Calls Tryz.prog 108 #[.slice A n c] w fun e w'=>e=.returned (.slice A (trim xs).length c)∧w=w':=by
 have hbig:=h.big
 have hcap:=h.cap
 go_enter Tryz.func108,Tryz.ntmps108
 go_wp2
 go_loop [0] (fun a=>∃k:Nat,k≤n∧a=.slice A k c∧Hid (trim (xs.take k)=trim xs)) (fun a=>lenOf a)
 case atStart=>exact⟨n,Nat.le_refl _,rfl,by have:=h.len;rw[List.take_of_length_le (by omega)];exact rfl⟩
 case round=>
  obtain⟨k,hk,rfl,ht⟩:=hrel
  by_cases h0:0<k
  ·obtain⟨b,o,sp,rfl,hb,hc⟩:=h.at_ (show k-1<n by omega)
   go_wp2
   ·have h1:((nth xs (k-1):Nat):Int)==0:=by assumption
    have hx:nth xs (k-1)=0:=by simpa using h1
    exact⟨⟨k-1,by omega,rfl,by rw[qN (by omega) (by rw[h.len];omega) hx];exact ht.out⟩,by simp only[lenOf];omega⟩
   have h1:(((nth xs (k-1):Nat):Int)==0)=false:=by assumption
   have hx:nth xs (k-1)≠0:=by simpa using h1
   go_ret
   exact⟨qP (by rw[←ht.out,lE (by omega) (by rw[h.len];omega) hx,List.length_take,h.len,Nat.min_eq_left hk]),rfl⟩
  go_wp2
  obtain rfl:k=0:=by omega
  go_ret
  exact⟨qP (by rw[←ht.out];rfl),rfl⟩
theorem rK (w:World) (e:TypeId):(w.alloc (.cells #[] e)).ownsRow w.heap.size e 1 (.slice (some ⟨w.heap.size,0,none⟩) 0 0) 0 []:=
 ⟨rfl,.inr ⟨w.heap.size,0, #[],rfl,Nat.le_refl _,heap_alloc_new w _,Nat.le_refl _,by unfold maxLen;omega,rfl,rfl⟩⟩
theorem eF (w:World) (o:Obj):Below w.heap.size w (w.alloc o):=(Below.refl _ _).alloc (Nat.le_refl _) _
theorem iC:IsEl Tryz.prog 23 22 (.int .u32 0) 1 4:=IsEl.mk Tryz.underlying23 (z:=.int .u32 0) (by kernel_rfl) rfl (by omega)
def fY (xs:List Nat) (w:World) (e:Ending) (w':World):Prop:=
 ∃A n c,e=.returned (.slice A n c)∧Own 22 w' w.heap.size A n c xs∧Below w.heap.size w w'
set_option maxHeartbeats 400000 in
theorem mQ (A:Option Addr) (n c:Nat) (xs:List Nat) (w:World) (h:U32 w w.heap.size A n c xs) (hn:n≤1099511627776):
    Calls Tryz.prog 79 #[.slice A n c] w (fY xs w):=by
  have q:∀(w:World) (a:Option Addr) (n c n' c':Nat),(binOp .eql 23 (.slice a n c) (.slice none n' c')).run Tryz.prog w=.ok (.bool a.isNone) w:=
    fun w a n c n' c'=>Lib.run_eql_slice_nil w _ _ a n c n' c' Tryz.underlying23
  rcases A with _ | ad
  · have h0:n=0:=by
      rcases Nat.eq_zero_or_pos n with h0 | h0
      · exact h0
      obtain⟨ad,e,_⟩:=h.rd.cell h0
      cases e
    subst h0
    have hx:xs=[]:=List.eq_nil_of_length_eq_zero h.len
    subst hx
    go_enter Tryz.func79,Tryz.ntmps79
    go_wp2
    go_ret
    exact⟨none,0,0,rfl,Own.nil,Below.refl _ _⟩
  go_enter Tryz.func79,Tryz.ntmps79
  go_wp2_with (first
    | (at_builtin
       refine gM _ iC rfl (.tmp 5) (.tmp 6) rfl w.heap.size (.slice (some ⟨w.heap.size,0,none⟩) 0 0) 0 [] rfl (rK _ _) w.heap.size (some ad) n c (cI xs) rfl (h.rd.below (eF w _)) (mH xs) (by omega) (by omega) (by simp) ?_
       intro A' c' w1 hown hg _))
  go_ret
  refine⟨A',n,c',rfl,⟨by simpa using hown,h.lim⟩,iM (eF w _) (rK _ _) hg (by simp) (Nat.le_refl _)⟩
set_option maxHeartbeats 400000 in
theorem cR (A:Option Addr) (n c:Nat) (xs:List Nat) (w:World) (h:U32 w w.heap.size A n c xs) (hn:n≤1099511627776):
  Calls Tryz.prog 56 #[.slice A n c] w (fY (trim xs) w):=by
 have hl:=bQ xs
 have hlen:=Lib.hid h.len
 go_enter Tryz.func56,Tryz.ntmps56
 go_wp2_with (first
  | (go_at_call 108;refine(dJ _ _ _ xs _ _ h).mono ?_;rintro e w' ⟨rfl,rfl⟩)
  | (go_at_call 79;refine(mQ _ _ _ (trim xs) _ h.trim ?_).mono ?_;(rw[hlen.out]at hl;omega);rintro e w1 ⟨A1,n1,c1,rfl,h1,hb1⟩))
 go_ret
 exact⟨A1,n1,c1,rfl,h1,hb1⟩
theorem Au {P:Program}{f:FuncId}{args:Array Value}{w:World}{a n:Nat}{v:Value}
  (h:Calls P f args (w.drewN (a+n)) fun e w'=>e=.returned v∧w.drewN (a+n)=w'):
  Calls P f args (w.drewN (a+n)) fun e w''=>e=.returned v∧∃m,w''=w.drewN (a+m):=
 h.mono fun _ _ ⟨he,hm⟩=>⟨he,n,hm.symm⟩
theorem Ke (w:World) (a b c:Nat):∃k,((w.drewN a).drewN b).drewN c=w.drewN k:=⟨_,by rw[World.drewN_drewN,World.drewN_drewN]⟩
theorem bU (A:Option Addr) (n c n':Nat) (xs:List Nat) (B:Nat) (w:World) (h:U32 w B A n c xs) (hn:(trim xs).length=n'):
  Calls Tryz.prog 108 #[.slice A n c] w fun e w'=>e=.returned (.slice A n' c)∧w=w':=by
 subst hn;exact dJ A n c xs B w h
def iD (x y:Nat):Int:=gH (x:Int) (y:Int)
theorem jQ {x y:Nat}(h:x<y):iD x y=-1:=by unfold iD gH;rw[if_pos (by omega)]
theorem gS {x y:Nat}(h:y<x):iD x y=1:=by unfold iD gH;rw[if_neg (by omega),if_pos (by omega)]
theorem qG {x y:Nat}(h:x=y):iD x y=0:=by unfold iD gH;rw[if_neg (by omega),if_neg (by omega)]
theorem uZ {xs ys:List Nat}(hx:Lim 4294967296 xs) (hy:Lim 4294967296 ys) (h:(trim xs).length≠(trim ys).length):
  gH ((trim xs).length:Int) ((trim ys).length:Int)=iD (vl 4294967296 xs) (vl 4294967296 ys):=by
 rcases Nat.lt_or_gt_of_ne h with h | h
 ·have:=iL (B:=4294967296) (by omega) hx.trim (iJ ys) h
  rw[bO,bO]at this
  rw[jQ this];exact jQ h
 have:=iL (B:=4294967296) (by omega) hy.trim (iJ xs) h
 rw[bO,bO]at this
 rw[gS this];exact gS h
theorem Ge {xs ys:List Nat}{k:Nat}(hx:Lim 4294967296 xs) (hy:Lim 4294967296 ys) (hl:xs.length=ys.length) (h0:0<k) (hk:k≤xs.length)
  (hd:xs.drop k=ys.drop k) (h:nth xs (k-1)≠nth ys (k-1)):gH (nth xs (k-1):Int) (nth ys (k-1):Int)=iD (vl 4294967296 xs) (vl 4294967296 ys):=by
 have e:k-1+1=k:=by omega
 rcases Nat.lt_or_gt_of_ne h with h | h
 ·have:=sJ (B:=4294967296) (k:=k-1) hx hl (by omega) (by rw[e];exact hd) (by rwa[aU (by omega),aU (by omega)]at h)
  rw[jQ this];exact jQ h
 have:=sJ (B:=4294967296) (k:=k-1) hy hl.symm (by omega) (by rw[e];exact hd.symm) (by rwa[aU (by omega),aU (by omega)]at h)
 rw[gS this];exact gS h
theorem Av {xs ys:List Nat}{k:Nat}(hl:xs.length=ys.length) (h0:0<k) (hk:k≤xs.length) (hd:xs.drop k=ys.drop k) (h:nth xs (k-1)=nth ys (k-1)):
  xs.drop (k-1)=ys.drop (k-1):=by
 have e:k-1+1=k:=by omega
 rw[List.drop_eq_getElem_cons (show k-1<xs.length by omega),List.drop_eq_getElem_cons (show k-1<ys.length by omega),e,hd,←aU,←aU,h]
set_option maxHeartbeats 800000 in
theorem nV (A B:Option Addr) (n m c d:Nat) (xs ys:List Nat) (bd:Nat) (w:World) (ha:U32 w bd A n c xs) (hb:U32 w bd B m d ys):
  Calls Tryz.prog 67 #[.slice A n c,.slice B m d] w fun e w'=>e=.returned (.int .i64 (iD (vl 4294967296 xs) (vl 4294967296 ys)))∧∃k,w'=w.drewN k:=by
 have ha1:=ha.trim
 have hb1:=hb.trim
 have hab:=ha.big
 have hbb:=hb.big
 have hac:=ha1.cap
 have hbc:=hb1.cap
 obtain⟨n1,hn1⟩:∃n1,(trim xs).length=n1:=⟨_,rfl⟩
 obtain⟨m1,hm1⟩:∃m1,(trim ys).length=m1:=⟨_,rfl⟩
 rw[hn1]at ha1 hac
 rw[hm1]at hb1 hbc
 have Hn1:=Lib.hid hn1
 have Hm1:=Lib.hid hm1
 clear hn1 hm1
 by_cases hne:n1=m1
 ·subst hne
  have hq:((n1:Int)!=(n1:Int))=false:=by simp
  go_enter Tryz.func67,Tryz.ntmps67
  go_wp2_with fail
  refine(bU _ _ _ n1 xs _ _ ha Hn1.out).mono ?_
  rintro e w' ⟨rfl,rfl⟩
  go_wp2_with fail
  refine(bU _ _ _ n1 ys _ _ hb Hm1.out).mono ?_
  rintro e w' ⟨rfl,rfl⟩
  go_wp2_with fail
  go_loopw [5] (fun i wr=>∃k:Nat,k≤n1∧i=.int .i64 ((k:Int)-1)∧Hid ((trim xs).drop k=(trim ys).drop k)∧∃q,wr=w.drewN q) (fun i _=>(intOf i+1).toNat)
  case atStart=>exact⟨n1,Nat.le_refl _,rfl,by rw[List.drop_eq_nil_of_le (by rw[Hn1.out];exact Nat.le_refl _),List.drop_eq_nil_of_le (by rw[Hm1.out];exact Nat.le_refl _)];exact rfl,0,rfl⟩
  case round=>
   obtain⟨k,hk,rfl,ht,q,rfl⟩:=hrel
   by_cases h0:0<k
   ·obtain⟨b,o,sp,rfl,hb',hc'⟩:=ha1.at_ (show k-1<n1 by omega)
    obtain⟨b2,o2,sp2,rfl,hb2',hc2'⟩:=hb1.at_ (show k-1<n1 by omega)
    by_cases he:nth (trim xs) (k-1)=nth (trim ys) (k-1)
    ·have he1:(((nth (trim xs) (k-1):Nat):Int)!=((nth (trim ys) (k-1):Nat):Int))=false:=by rw[he];simp
     have He:=Lib.hid he
     clear he
     go_wp2_with fail
     go_quiet (fail)
     go_wp2_with fail
     exact⟨⟨k-1,by omega,by go_num,Av (by rw[Hn1.out,Hm1.out]) h0 (by rw[Hn1.out];exact hk) ht.out He.out,_,rfl⟩,by simp[intOf];omega⟩
    have he1:(((nth (trim xs) (k-1):Nat):Int)!=((nth (trim ys) (k-1):Nat):Int))=true:=by rw[bne_iff_ne];omega
    have He:=Lib.hid he
    clear he
    go_wp2_with fail
    go_quiet (fail)
    go_wp2_with fail
    go_quiet ((go_at_call 117;exact Au (uY _ _ _)))
    go_wp2_with fail
    go_ret
    exact⟨jF (by rw[Ge ha1.lim hb1.lim (by rw[Hn1.out,Hm1.out]) h0 (by rw[Hn1.out];exact hk) ht.out He.out,bO,bO]),Ke _ _ _ _⟩
   obtain rfl:k=0:=by omega
   have he:trim xs=trim ys:=ht.out
   go_wp2_with fail
   go_ret
   exact⟨jF (by rw[←bO 4294967296 xs,he,bO];exact(qG rfl).symm),_,rfl⟩
 have hq:((n1:Int)!=(m1:Int))=true:=by rw[bne_iff_ne];omega
 go_enter Tryz.func67,Tryz.ntmps67
 go_wp2_with fail
 refine(bU _ _ _ n1 xs _ _ ha Hn1.out).mono ?_
 rintro e w' ⟨rfl,rfl⟩
 go_wp2_with fail
 refine(bU _ _ _ m1 ys _ _ hb Hm1.out).mono ?_
 rintro e w' ⟨rfl,rfl⟩
 go_wp2_with fail
 refine(uX _ _ _).mono ?_
 rintro e w' ⟨rfl,rfl⟩
 go_wp2_with fail
 go_ret
 refine⟨jF ?_,0,rfl⟩
 have:=uZ ha.lim hb.lim (by rw[Hn1.out,Hm1.out];exact hne)
 rw[Hn1.out,Hm1.out]at this
 exact this
def AddInv (xs ys os:List Nat) (k C:Nat):Prop:=
 C≤1∧vl 4294967296 (os.take k)+4294967296^k*C=vl 4294967296 (xs.take k)+vl 4294967296 (ys.take k)
theorem AddInv.zero (xs ys os:List Nat):AddInv xs ys os 0 0:=⟨by omega,by simp[vl]⟩
theorem AddInv.le {xs ys os:List Nat}{k C:Nat}(h:AddInv xs ys os k C):C≤1:=h.1
theorem AddInv.step {xs ys os:List Nat}{k C:Nat}(h:AddInv xs ys os k C) (hk:k<os.length) (hx:Lim 4294967296 xs) (hy:Lim 4294967296 ys):
  AddInv xs ys (os.set k ((nth xs k+nth ys k+C)%4294967296)) (k+1) ((nth xs k+nth ys k+C)/4294967296):=by
 obtain⟨h1,h2⟩:=h
 have x1:=hx.nth (by omega) k
 have y1:=hy.nth (by omega) k
 refine⟨by omega,?_⟩
 rw[cP _ _ hk,aF,aF,Nat.pow_succ]
 have e:=Nat.mod_add_div (nth xs k+nth ys k+C) 4294967296
 generalize 4294967296^k=p at*
 generalize (nth xs k+nth ys k+C)/4294967296=q at*
 generalize (nth xs k+nth ys k+C)%4294967296=r at*
 have e2:p*(r+4294967296*q)=p*(nth xs k+nth ys k+C):=by rw[e]
 grind
theorem AddInv.end_ {xs ys os:List Nat}{n C:Nat}(h:AddInv xs ys os n C) (hos:os.length=n+1) (hx:xs.length≤n) (hy:ys.length≤n):
  vl 4294967296 (os.set n C)=vl 4294967296 xs+vl 4294967296 ys:=by
 have h2:=h.2
 rw[aL _ hx,aL _ hy]at h2
 rw[←h2,←cP _ C (by omega),aL]
 rw[List.length_set];omega
set_option maxHeartbeats 1000000 in
theorem vA (A B:Option Addr) (n m c d:Nat) (xs ys:List Nat) (w:World) (ha:U32 w w.heap.size A n c xs) (hb:U32 w w.heap.size B m d ys) (hn:n≤1099511627776) (hmn:m≤n):
  Calls Tryz.prog 50 #[.slice A n c,.slice B m d] w (fY (dg 4294967296 (vl 4294967296 xs+vl 4294967296 ys)) w):=by
 have hlt':¬n<m:=by omega
 have Hx:=Lib.hid ha.len
 have Hy:=Lib.hid hb.len
 go_enter Tryz.func50,Tryz.ntmps50
 go_wp2_with (refine fZ _ iC rfl (.tmp 18) (.tmp 18) rfl .i64 .i64 _ _ (n+1) rfl rfl (by omega) (by omega) (by omega) (by omega) ?_;intro w1 hown hb1 hz1)
 have hO:=Own.made hown
 clear hown
 go_wp2_with fail
 go_loopw [6,22] (fun cy i wr=>∃(k C:Nat) (os:List Nat),k≤n∧i=.int .i64 (k:Int)∧cy=.int .u32 (C:Int)∧Own 22 wr w.heap.size (some ⟨w.heap.size,0,none⟩) (n+1) (n+1) os∧AddInv xs ys os k C∧Below w.heap.size w wr∧w.heap.size<wr.heap.size) (fun _ i _=>n-(intOf i).toNat)
 case atStart=>exact⟨0,0,_,Nat.zero_le _,rfl,rfl,hO,AddInv.zero _ _ _,hb1,hz1⟩
 case round=>
  obtain⟨k,C,os,hk,rfl,rfl,hown,hI,hbw,hz⟩:=hrel
  have hC:=hI.le
  by_cases hlt:k<n
  ·obtain⟨b,o,sp,rfl,hbb,hcc⟩:=(ha.below hbw).at_ hlt
   have ho1:=hown.cell (show k<n+1 by omega)
   have ho2:=hown.frozen k
   have hx1:=ha.lim.nth (by omega) k
   have hy1:=hb.lim.nth (by omega) k
   have hset:=hown.set k (v:=(nth xs k+nth ys k+C)%4294967296) (Nat.mod_lt _ (by omega))
   have hstep:=hI.step (by rw[hown.len];omega) ha.lim hb.lim
   by_cases hm:k<m
   ·obtain⟨b2,o2,sp2,rfl,hbb2,hcc2⟩:=(hb.below hbw).at_ hm
    go_wp2_with fail
    refine(fL _ _ _ _ ?_ ?_ ?_ ?_ ?_ ?_).mono ?_ <;> try omega
    rintro e w' ⟨rfl,rfl⟩
    go_wp2_with fail
    go_roundw
    case rel=>exact⟨k+1,_,_,by omega,by go_num,rfl,hset,hstep,hbw.setCell (Nat.le_refl _) _,by simpa using hz⟩
    case measure=>simp[intOf];omega
   have hy0:nth ys k=0:=cM (by rw[Hy.out];omega)
   rw[hy0]at hset hstep
   clear hy0
   go_wp2_with fail
   refine(fL _ _ _ _ ?_ ?_ ?_ ?_ ?_ ?_).mono ?_ <;> try omega
   rintro e w' ⟨rfl,rfl⟩
   go_wp2_with fail
   go_roundw
   case rel=>exact⟨k+1,_,_,by omega,by go_num,rfl,hset,hstep,hbw.setCell (Nat.le_refl _) _,by simpa using hz⟩
   case measure=>simp[intOf];omega
  obtain rfl:k=n:=by omega
  have ho1:=hown.cell (show k<k+1 by omega)
  have ho2:=hown.frozen k
  have hset:=hown.set k (v:=C) (by omega)
  have hend:=Lib.hid (hI.end_ hown.len (by rw[Hx.out];exact Nat.le_refl _) (by rw[Hy.out];omega))
  have hbe:=hbw.setCell (p:=⟨w.heap.size,k,none⟩) (Nat.le_refl _) (.int .u32 (C:Int))
  clear hb1 hbw hI hown hz1
  go_wp2_with fail
  refine(dJ _ _ _ _ _ _ hset.u32).mono ?_
  rintro e w' ⟨rfl,rfl⟩
  go_wp2_with fail
  go_ret
  exact⟨_,_,_,rfl,by rw[←hend.out,cZ (by omega) hset.lim];exact hset.trim,hbe⟩
set_option maxHeartbeats 1000000 in
theorem vB (A B:Option Addr) (n m c d:Nat) (xs ys:List Nat) (w:World) (ha:U32 w w.heap.size A n c xs) (hb:U32 w w.heap.size B m d ys) (hm:m≤1099511627776) (hmn:n<m):
  Calls Tryz.prog 50 #[.slice A n c,.slice B m d] w (fY (dg 4294967296 (vl 4294967296 xs+vl 4294967296 ys)) w):=by
 have hlt':n<m:=by omega
 have Hx:=Lib.hid hb.len
 have Hy:=Lib.hid ha.len
 go_enter Tryz.func50,Tryz.ntmps50
 go_wp2_with (refine fZ _ iC rfl (.tmp 18) (.tmp 18) rfl .i64 .i64 _ _ (m+1) rfl rfl (by omega) (by omega) (by omega) (by omega) ?_;intro w1 hown hb1 hz1)
 have hO:=Own.made hown
 clear hown
 go_wp2_with fail
 go_loopw [6,22] (fun cy i wr=>∃(k C:Nat) (os:List Nat),k≤m∧i=.int .i64 (k:Int)∧cy=.int .u32 (C:Int)∧Own 22 wr w.heap.size (some ⟨w.heap.size,0,none⟩) (m+1) (m+1) os∧AddInv ys xs os k C∧Below w.heap.size w wr∧w.heap.size<wr.heap.size) (fun _ i _=>m-(intOf i).toNat)
 case atStart=>exact⟨0,0,_,Nat.zero_le _,rfl,rfl,hO,AddInv.zero _ _ _,hb1,hz1⟩
 case round=>
  obtain⟨k,C,os,hk,rfl,rfl,hown,hI,hbw,hz⟩:=hrel
  have hC:=hI.le
  by_cases hlt:k<m
  ·obtain⟨b,o,sp,rfl,hbb,hcc⟩:=(hb.below hbw).at_ hlt
   have ho1:=hown.cell (show k<m+1 by omega)
   have ho2:=hown.frozen k
   have hx1:=hb.lim.nth (by omega) k
   have hy1:=ha.lim.nth (by omega) k
   have hset:=hown.set k (v:=(nth ys k+nth xs k+C)%4294967296) (Nat.mod_lt _ (by omega))
   have hstep:=hI.step (by rw[hown.len];omega) hb.lim ha.lim
   by_cases hm:k<n
   ·obtain⟨b2,o2,sp2,rfl,hbb2,hcc2⟩:=(ha.below hbw).at_ hm
    go_wp2_with fail
    refine(fL _ _ _ _ ?_ ?_ ?_ ?_ ?_ ?_).mono ?_ <;> try omega
    rintro e w' ⟨rfl,rfl⟩
    go_wp2_with fail
    go_roundw
    case rel=>exact⟨k+1,_,_,by omega,by go_num,rfl,hset,hstep,hbw.setCell (Nat.le_refl _) _,by simpa using hz⟩
    case measure=>simp[intOf];omega
   have hy0:nth xs k=0:=cM (by rw[Hy.out];omega)
   rw[hy0]at hset hstep
   clear hy0
   go_wp2_with fail
   refine(fL _ _ _ _ ?_ ?_ ?_ ?_ ?_ ?_).mono ?_ <;> try omega
   rintro e w' ⟨rfl,rfl⟩
   go_wp2_with fail
   go_roundw
   case rel=>exact⟨k+1,_,_,by omega,by go_num,rfl,hset,hstep,hbw.setCell (Nat.le_refl _) _,by simpa using hz⟩
   case measure=>simp[intOf];omega
  obtain rfl:k=m:=by omega
  have ho1:=hown.cell (show k<k+1 by omega)
  have ho2:=hown.frozen k
  have hset:=hown.set k (v:=C) (by omega)
  have hend:=Lib.hid (hI.end_ hown.len (by rw[Hx.out];exact Nat.le_refl _) (by rw[Hy.out];omega))
  have hbe:=hbw.setCell (p:=⟨w.heap.size,k,none⟩) (Nat.le_refl _) (.int .u32 (C:Int))
  clear hb1 hbw hI hown hz1
  go_wp2_with fail
  refine(dJ _ _ _ _ _ _ hset.u32).mono ?_
  rintro e w' ⟨rfl,rfl⟩
  go_wp2_with fail
  go_ret
  exact⟨_,_,_,rfl,by rw[Nat.add_comm (vl 4294967296 xs) (vl 4294967296 ys),←hend.out,cZ (by omega) hset.lim];exact hset.trim,hbe⟩
theorem Dg (A B:Option Addr) (n m c d:Nat) (xs ys:List Nat) (w:World) (ha:U32 w w.heap.size A n c xs) (hb:U32 w w.heap.size B m d ys) (hn:n≤1099511627776) (hm:m≤1099511627776):
  Calls Tryz.prog 50 #[.slice A n c,.slice B m d] w (fY (dg 4294967296 (vl 4294967296 xs+vl 4294967296 ys)) w):=by
 by_cases h:m≤n
 ·exact vA A B n m c d xs ys w ha hb hn h
 exact vB A B n m c d xs ys w ha hb hm (by omega)
def bX (n:Nat):Nat:=n%4294967296
def eA (n:Nat):Nat:=n/4294967296
theorem mR (n:Nat):bX n<4294967296:=Nat.mod_lt _ (by omega)
theorem yS (n:Nat):bX n+4294967296*eA n=n:=Nat.mod_add_div n 4294967296
theorem Eu {n:Nat}(h:n<18446744073709551616):eA n<4294967296:=by unfold eA;omega
def gI (x y c:Nat):Nat:=(x+8589934592-y-c)%4294967296
def iE (x y c:Nat):Nat:=if x<y+c then 1 else 0
theorem Gf (x y c:Nat):gI x y c<4294967296:=Nat.mod_lt _ (by omega)
theorem wQ (x y c:Nat):iE x y c≤1:=by unfold iE;split <;> omega
theorem Aw {x y c:Nat}(hx:x<4294967296) (hy:y<4294967296) (hc:c≤1):gI x y c+y+c=x+4294967296*iE x y c:=by
 unfold gI iE;split <;> omega
theorem jB (x y c:Nat) (w:World) (x1:x<4294967296) (y1:y<4294967296) (c1:c<4294967296):
  Calls Tryz.prog 107 #[.int .u32 (x:Int),.int .u32 (y:Int),.int .u32 (c:Int)] w fun e w'=>
   e=.returned (.tuple #[.int .u32 (bX (x+y+c):Nat),.int .u32 (eA (x+y+c):Nat)])∧w=w':=
 (fL _ _ _ w (by omega) (by omega) (by omega) (by omega) (by omega) (by omega)).mono fun _ _ ⟨h1,h2⟩=>⟨h1,h2⟩
theorem vC (x y:Nat) (w:World) (x1:x<4294967296) (y1:y<4294967296):
  Calls Tryz.prog 109 #[.int .u32 (x:Int),.int .u32 (y:Int)] w fun e w'=>
   e=.returned (.tuple #[.int .u32 (eA (x*y):Nat),.int .u32 (bX (x*y):Nat)])∧w=w':=
 (yQ _ _ w (by omega) (by omega) (by omega) (by omega)).mono fun _ _ ⟨h1,h2⟩=>⟨h1,h2⟩
theorem vD (h l d:Nat) (w:World) (hd:h<d) (l1:l<4294967296) (d1:d<4294967296):
  Calls Tryz.prog 112 #[.int .u32 (h:Int),.int .u32 (l:Int),.int .u32 (d:Int)] w fun e w'=>
   e=.returned (.tuple #[.int .u32 ((h*4294967296+l)/d:Nat),.int .u32 ((h*4294967296+l)%d:Nat)])∧∃n,w'=w.drewN n:=
 (yR _ _ _ w (by omega) (by omega) (by omega) (by omega) (by omega)).mono fun _ _ ⟨h1,h2⟩=>⟨h1,h2⟩
def SubInv (xs ys os:List Nat) (k C:Nat):Prop:=
 C≤1∧os.length=xs.length∧vl 4294967296 (os.take k)+vl 4294967296 (ys.take k)=vl 4294967296 (xs.take k)+4294967296^k*C∧∀j,k≤j→nth os j=nth xs j
theorem SubInv.zero (xs ys:List Nat):SubInv xs ys xs 0 0:=⟨by omega,rfl,by simp[vl],fun _ _=>rfl⟩
theorem SubInv.le {xs ys os:List Nat}{k C:Nat}(h:SubInv xs ys os k C):C≤1:=h.1
theorem SubInv.at_ {xs ys os:List Nat}{k C:Nat}(h:SubInv xs ys os k C):nth os k=nth xs k:=h.2.2.2 k (Nat.le_refl _)
theorem eM {l:List Nat}{i j v:Nat}(h:i≠j):nth (l.set i v) j=nth l j:=by
 unfold nth;rw[List.getD_eq_getElem?_getD,List.getD_eq_getElem?_getD,List.getElem?_set_ne h]
theorem oO {l:List Nat}{i v:Nat}(h:i<l.length):nth (l.set i v) i=v:=by
 rw[aU (by rw[List.length_set];exact h),List.getElem_set_self]
theorem SubInv.step {xs ys os:List Nat}{k C:Nat}(h:SubInv xs ys os k C) (hk:k<xs.length) (hx:Lim 4294967296 xs) (hy:Lim 4294967296 ys):
  SubInv xs ys (os.set k (gI (nth xs k) (nth ys k) C)) (k+1) (iE (nth xs k) (nth ys k) C):=by
 obtain⟨h1,hl,h2,h3⟩:=h
 have x1:=hx.nth (by omega) k
 have y1:=hy.nth (by omega) k
 have e:=Aw x1 y1 h1
 refine⟨wQ _ _ _,by rw[List.length_set,hl],?_,fun j hj=>by rw[eM (by omega)];exact h3 j (by omega)⟩
 rw[cP _ _ (by omega),aF,aF,Nat.pow_succ]
 generalize 4294967296^k=p at*
 generalize gI (nth xs k) (nth ys k) C=s at*
 generalize iE (nth xs k) (nth ys k) C=q at*
 have e2:p*(s+nth ys k+C)=p*(nth xs k+4294967296*q):=by rw[e]
 grind
theorem SubInv.end_ {xs ys os:List Nat}{C:Nat}(h:SubInv xs ys os xs.length C) (ho:Lim 4294967296 os) (hy:ys.length≤xs.length) (hle:vl 4294967296 ys≤vl 4294967296 xs):
  vl 4294967296 os=vl 4294967296 xs-vl 4294967296 ys:=by
 obtain⟨h1,hl,h2,_⟩:=h
 rw[aL _ hy,aL _ (Nat.le_refl _),aL _ (by omega)]at h2
 have:=cW ho
 rw[hl]at this
 have hC:C=0∨C=1:=by omega
 rcases hC with rfl | rfl
 ·omega
 omega
def MulInv (xs os:List Nat) (m k C:Nat):Prop:=C<4294967296∧vl 4294967296 (os.take k)+4294967296^k*C=vl 4294967296 (xs.take k)*m
theorem MulInv.zero (xs os:List Nat) (m:Nat):MulInv xs os m 0 0:=⟨by omega,by simp[vl]⟩
theorem MulInv.lt {xs os:List Nat}{m k C:Nat}(h:MulInv xs os m k C):C<4294967296:=h.1
theorem Kf {x m C:Nat}(hx:x<4294967296) (hm:m<4294967296) (hC:C<4294967296):x*m+C≤18446744069414584320:=by
 have:x*m≤4294967295*4294967295:=Nat.mul_le_mul (by omega) (by omega)
 omega
theorem uC {x m C:Nat}(hx:x<4294967296) (hm:m<4294967296) (hC:C<4294967296):
  eA (x*m)+eA (bX (x*m)+C)=eA (x*m+C)∧bX (bX (x*m)+C)=bX (x*m+C)∧eA (x*m+C)<4294967296:=by
 have:=Kf hx hm hC
 unfold eA bX
 omega
theorem MulInv.step {xs os:List Nat}{m k C:Nat}(h:MulInv xs os m k C) (hk:k<os.length) (hx:Lim 4294967296 xs) (hm:m<4294967296):
  MulInv xs (os.set k (bX (nth xs k*m+C))) m (k+1) (eA (nth xs k*m+C)):=by
 obtain⟨h1,h2⟩:=h
 have x1:=hx.nth (by omega) k
 refine⟨(uC x1 hm h1).2.2,?_⟩
 rw[cP _ _ hk,aF,Nat.pow_succ]
 have e:=yS (nth xs k*m+C)
 generalize 4294967296^k=p at*
 generalize bX (nth xs k*m+C)=s at*
 generalize eA (nth xs k*m+C)=q at*
 have e2:p*(s+4294967296*q)=p*(nth xs k*m+C):=by rw[e]
 grind
theorem MulInv.end_ {xs os:List Nat}{m n C:Nat}(h:MulInv xs os m n C) (hos:os.length=n+1) (hx:xs.length≤n):
  vl 4294967296 (os.set n C)=vl 4294967296 xs*m:=by
 have h2:=h.2
 rw[aL _ hx]at h2
 rw[←h2,←cP _ C (by omega),aL]
 rw[List.length_set];omega
def DivInv (xs os:List Nat) (d k r:Nat):Prop:=
 r<d∧os.length=xs.length∧vl 4294967296 (os.drop k)*d+r=vl 4294967296 (xs.drop k)∧∀j,j<k→nth os j=nth xs j
theorem DivInv.top (xs:List Nat){d:Nat}(hd:0<d):DivInv xs xs d xs.length 0:=⟨hd,rfl,by simp[vl],fun _ _=>rfl⟩
theorem DivInv.lt {xs os:List Nat}{d k r:Nat}(h:DivInv xs os d k r):r<d:=h.1
theorem DivInv.at_ {xs os:List Nat}{d k r:Nat}(h:DivInv xs os d k r) (h0:0<k):nth os (k-1)=nth xs (k-1):=h.2.2.2 _ (by omega)
theorem cU (B:Nat){l:List Nat}{k:Nat}(h0:0<k) (h:k≤l.length):vl B (l.drop (k-1))=nth l (k-1)+B*vl B (l.drop k):=by
 have e:=List.drop_eq_getElem_cons (show k-1<l.length by omega)
 rw[show k-1+1=k from by omega]at e
 rw[e,cC,aU]
theorem DivInv.step {xs os:List Nat}{d k r:Nat}(h:DivInv xs os d k r) (h0:0<k) (hk:k≤xs.length) (hd:0<d):
  DivInv xs (os.set (k-1) ((r*4294967296+nth xs (k-1))/d)) d (k-1) ((r*4294967296+nth xs (k-1))%d):=by
 obtain⟨h1,hl,h2,h3⟩:=h
 refine⟨Nat.mod_lt _ hd,by rw[List.length_set,hl],?_,fun j hj=>by rw[eM (by omega)];exact h3 j (by omega)⟩
 rw[cU _ h0 (by rw[List.length_set];omega),cU _ h0 hk,oO (by omega),List.drop_set_of_lt (by omega)]
 have e:=Nat.div_add_mod (r*4294967296+nth xs (k-1)) d
 generalize (r*4294967296+nth xs (k-1))/d=q at*
 generalize (r*4294967296+nth xs (k-1))%d=s at*
 grind
theorem DivInv.end_ {xs os:List Nat}{d r:Nat}(h:DivInv xs os d 0 r) (hd:0<d):vl 4294967296 os=vl 4294967296 xs/d∧r=vl 4294967296 xs%d:=by
 obtain⟨h1,_,h2,_⟩:=h
 simp only[List.drop_zero]at h2
 have e:vl 4294967296 xs=r+d*vl 4294967296 os:=by rw[←h2,Nat.mul_comm];omega
 rw[e,Nat.add_mul_div_left _ _ hd,Nat.add_mul_mod_self_left,Nat.div_eq_of_lt h1,Nat.mod_eq_of_lt h1]
 exact⟨by omega,rfl⟩
set_option maxHeartbeats 1000000 in
theorem lC (A:Option Addr) (n c m:Nat) (xs:List Nat) (w:World) (ha:U32 w w.heap.size A n c xs) (hn:n≤1099511627776) (hm:m<4294967296):
  Calls Tryz.prog 51 #[.slice A n c,.int .u32 (m:Int)] w (fY (dg 4294967296 (vl 4294967296 xs*m)) w):=by
 have Hx:=Lib.hid ha.len
 go_enter Tryz.func51,Tryz.ntmps51
 go_wp2_with (refine fZ _ iC rfl (.tmp 15) (.tmp 15) rfl .i64 .i64 _ _ (n+1) rfl rfl (by omega) (by omega) (by omega) (by omega) ?_;intro w1 hown hb1 hz1)
 have hO:=Own.made hown
 clear hown
 go_wp2_with fail
 go_loopw [6,19] (fun cy i wr=>∃(k C:Nat) (os:List Nat),k≤n∧i=.int .i64 (k:Int)∧cy=.int .u32 (C:Int)∧Own 22 wr w.heap.size (some ⟨w.heap.size,0,none⟩) (n+1) (n+1) os∧MulInv xs os m k C∧Below w.heap.size w wr∧w.heap.size<wr.heap.size) (fun _ i _=>n-(intOf i).toNat)
 case atStart=>exact⟨0,0,_,Nat.zero_le _,rfl,rfl,hO,MulInv.zero _ _ _,hb1,hz1⟩
 case round=>
  obtain⟨k,C,os,hk,rfl,rfl,hown,hI,hbw,hz⟩:=hrel
  have hC:=hI.lt
  by_cases hlt:k<n
  ·obtain⟨b,o,sp,rfl,hbb,hcc⟩:=(ha.below hbw).at_ hlt
   have ho1:=hown.cell (show k<n+1 by omega)
   have ho2:=hown.frozen k
   have hx1:=ha.lim.nth (by omega) k
   obtain⟨e1,e2,e3⟩:=uC hx1 hm hC
   have hset:=hown.set k (v:=bX (nth xs k*m+C)) (mR _)
   rw[←e2]at hset
   have hstep:=hI.step (by rw[hown.len];omega) ha.lim hm
   rw[←e2]at hstep
   rw[←e1]at e3 hstep
   clear e1 e2
   have hl1:=mR (nth xs k*m)
   go_wp2_with fail
   refine(vC _ _ _ hx1 hm).mono ?_
   rintro e w' ⟨rfl,rfl⟩
   go_wp2_with fail
   refine(jB _ _ 0 _ (mR _) hC (by omega)).mono ?_
   rintro e w' ⟨rfl,rfl⟩
   rw[Nat.add_zero]
   go_wp2_with fail
   go_roundw
   case rel=>exact⟨k+1,_,_,by omega,by go_num,by go_num,hset,hstep,hbw.setCell (Nat.le_refl _) _,by simpa using hz⟩
   case measure=>simp[intOf];omega
  obtain rfl:k=n:=by omega
  have ho1:=hown.cell (show k<k+1 by omega)
  have ho2:=hown.frozen k
  have hset:=hown.set k (v:=C) (by omega)
  have hend:=Lib.hid (hI.end_ hown.len (by rw[Hx.out];exact Nat.le_refl _))
  have hbe:=hbw.setCell (p:=⟨w.heap.size,k,none⟩) (Nat.le_refl _) (.int .u32 (C:Int))
  clear hb1 hbw hI hown hz1
  go_wp2_with fail
  refine(dJ _ _ _ _ _ _ hset.u32).mono ?_
  rintro e w' ⟨rfl,rfl⟩
  go_wp2_with fail
  go_ret
  exact⟨_,_,_,rfl,by rw[←hend.out,cZ (by omega) hset.lim];exact hset.trim,hbe⟩
def Kg (xs:List Nat) (r e1:Nat) (w:World) (e:Ending) (w':World):Prop:=
 ∃A n c,e=.returned (.tuple #[.slice A n c,.int .u32 (r:Int),.int .i64 (e1:Int)])∧Own 22 w' w.heap.size A n c xs∧Below w.heap.size w w'
set_option maxHeartbeats 1000000 in
theorem gJ (A:Option Addr) (n c d:Nat) (xs:List Nat) (w:World) (ha:U32 w w.heap.size A n c xs) (hn:n≤1099511627776) (hd0:0<d) (hd:d<4294967296):
  Calls Tryz.prog 57 #[.slice A n c,.int .u32 (d:Int)] w (Kg (dg 4294967296 (vl 4294967296 xs/d)) (vl 4294967296 xs%d) 0 w):=by
 have Hx:=Lib.hid ha.len
 have hne:((d:Int)==0)=false:=by rw[beq_eq_false_iff_ne];omega
 go_enter Tryz.func57,Tryz.ntmps57
 go_wp2_with fail
 refine(mQ _ _ _ xs _ ha hn).mono ?_
 rintro e w1 ⟨A1,n1,c1,rfl,hO,hb1⟩
 obtain rfl:n1=n:=by rw[←hO.len,Hx.out]
 go_wp2_with fail
 go_loopw [5,7] (fun r i wr=>∃(k R:Nat) (os:List Nat),k≤n1∧i=.int .i64 ((k:Int)-1)∧r=.int .u32 (R:Int)∧Own 22 wr w.heap.size A1 n1 c1 os∧DivInv xs os d k R∧Below w.heap.size w wr) (fun _ i _=>(intOf i+1).toNat)
 case atStart=>exact⟨n1,0,xs,Nat.le_refl _,by go_num,rfl,hO,by have:=DivInv.top xs hd0;rwa[Hx.out]at this,hb1⟩
 case round=>
  obtain⟨k,R,os,hk,rfl,rfl,hown,hI,hbw⟩:=hrel
  have hR:=hI.lt
  by_cases h0:0<k
  ·obtain⟨g,rfl,hg1,hg2⟩:=hown.form (by omega)
   have ho1:=hown.cell (show k-1<n1 by omega)
   rw[hI.at_ h0]at ho1
   have ho2:=hown.frozen (k-1)
   have hx1:=ha.lim.nth (by omega) (k-1)
   have hq:(R*4294967296+nth xs (k-1))/d<4294967296:=by
    apply Nat.div_lt_of_lt_mul
    have:(R+1)*4294967296≤d*4294967296:=Nat.mul_le_mul_right _ (by omega)
    omega
   have hset:=fun q=>(hown.drewN q).set (k-1) hq
   have hstep:=hI.step h0 (by rw[Hx.out];exact hk) hd0
   go_wp2_with fail
   refine(vD _ _ _ _ hR hx1 hd).mono ?_
   rintro e w' ⟨rfl,q,rfl⟩
   go_wp2_with fail
   go_roundw
   case rel=>exact⟨k-1,_,_,by omega,by go_num,rfl,hset q,hstep,(dY hbw _).setCell hg1 _⟩
   case measure=>simp[intOf];omega
  obtain rfl:k=0:=by omega
  obtain⟨h1,h2⟩:=hI.end_ hd0
  have H1:=Lib.hid h1
  have H2:=Lib.hid h2
  clear h1 h2
  go_wp2_with fail
  refine(dJ _ _ _ _ _ _ hown.u32).mono ?_
  rintro e w' ⟨rfl,rfl⟩
  go_wp2_with fail
  go_ret3
  exact⟨_,_,_,by rw[←H2.out];rfl,by rw[←H1.out,cZ (by omega) hown.lim];exact hown.trim,hbw⟩
def oP (xs:List Nat) (e1:Nat) (w:World) (e:Ending) (w':World):Prop:=
 ∃A n c,e=.returned (.tuple #[.slice A n c,.int .i64 (e1:Int)])∧Own 22 w' w.heap.size A n c xs∧Below w.heap.size w w'
theorem Own.drew_base {t:TypeId}{w:World}{base n c:Nat}{A:Option Addr}{xs:List Nat}{k:Nat}(h:Own t w base A n c xs):Own t (w.drewN k) base A n c xs:=⟨h.row,h.lim⟩
def Ax (xs:List Nat) (w:World) (e:Ending) (w':World):Prop:=
 ∃A n c,e=.returned (.slice A n c)∧U32 w' w'.heap.size A n c xs∧Below w.heap.size w w'
theorem wR (n:Nat) (h:n<32):(2:Int)^n%4294967296=((2^n:Nat):Int)∧2^n<4294967296∧0<2^n:=by
 have h1:2^n<2^32:=Nat.pow_lt_pow_right (by omega) h
 have h2:0<2^n:=Nat.pos_of_ne_zero (by simp)
 refine⟨?_,by omega,h2⟩
 have e:((2:Int)^n)=((2^n:Nat):Int):=by simp
 rw[e]
 omega
set_option maxHeartbeats 400000 in
theorem Ay (A:Option Addr) (n c v k:Nat) (w:World) (ha:U32 w w.heap.size A n c (dg 4294967296 v)) (hn:n≤1099511627776) (hk:k<32):
  Calls Tryz.prog 132 #[.slice A n c,.int .i64 (k:Int)] w (Ax (dg 4294967296 (v*2^k)) w):=by
 by_cases h0:k=0
 ·subst h0
  go_enter Tryz.func132,Tryz.ntmps132
  go_wp2_with fail
  go_ret
  exact⟨_,_,_,rfl,by simpa using ha,Below.refl _ _⟩
 have hne:((k:Int)==0)=false:=by rw[beq_eq_false_iff_ne];omega
 obtain⟨e1,e2,_⟩:=wR k hk
 have E1:=Lib.hid e1
 clear e1
 go_enter Tryz.func132,Tryz.ntmps132
 go_wp2_with fail
 rw[E1.out]
 refine(lC _ _ _ _ _ _ ha hn e2).mono ?_
 rintro e w1 ⟨A1,n1,c1,rfl,h1,hb1⟩
 go_wp2_with fail
 go_ret
 exact⟨_,_,_,rfl,by rw[bL (by omega)]at h1;exact h1.u32,hb1⟩
set_option maxHeartbeats 400000 in
theorem yT (A:Option Addr) (n c v k:Nat) (w:World) (ha:U32 w w.heap.size A n c (dg 4294967296 v)) (hn:n≤1099511627776) (hk:k<32):
  Calls Tryz.prog 133 #[.slice A n c,.int .i64 (k:Int)] w (Ax (dg 4294967296 (v/2^k)) w):=by
 by_cases h0:k=0
 ·subst h0
  go_enter Tryz.func133,Tryz.ntmps133
  go_wp2_with fail
  go_ret
  exact⟨_,_,_,rfl,by simpa using ha,Below.refl _ _⟩
 have hne:((k:Int)==0)=false:=by rw[beq_eq_false_iff_ne];omega
 obtain⟨e1,e2,e3⟩:=wR k hk
 have E1:=Lib.hid e1
 clear e1
 go_enter Tryz.func133,Tryz.ntmps133
 go_wp2_with fail
 rw[E1.out]
 refine(gJ _ _ _ _ _ _ ha hn e3 e2).mono ?_
 rintro e w1 ⟨A1,n1,c1,rfl,h1,hb1⟩
 go_wp2_with fail
 go_ret
 exact⟨_,_,_,rfl,by rw[bL (by omega)]at h1;exact h1.u32,hb1⟩
set_option maxHeartbeats 400000 in
theorem Kh (k:Int) (w:World) (h0:0<k) (hn:k≤2199023255552):
  Calls Tryz.prog 150 #[.slice none 0 0,.int .i64 k] w (fY [] w):=by
 obtain⟨n,rfl⟩:=Int.eq_ofNat_of_zero_le (show 0≤k by omega)
 obtain⟨ht,i,hi,hz,hs,hb,hzs,hp⟩:=iC
 have hi1:Tryz.prog.underlying 3=some (.int .i64):=Tryz.underlying3
 have hrun:=Lib.run_append_nil_zeros (P:=Tryz.prog) w 23 3 23 22 i (.int .u32 0) .i64 .i64 ht hi1 hi hz n (by omega) (by omega) (by omega) (by rw[hb];omega)
 have hc:=grownCap_ge w n 0 22
 have hc2:=grownCap_le_maxLen w n 0 22 (by unfold maxLen;omega)
 unfold maxLen at hc2
 have hn0:¬(n:Int)<0:=by omega
 generalize grownCap w n 0 22=cc at*
 go_enter Tryz.func150,Tryz.ntmps150
 go_wp2_with (at_builtin;refine Lib.wpList_append_run _ rfl (.tmp 20) (.tmp 21) _ _ rfl _ _ rfl rfl _ _ hrun ?_)
 go_ret
 refine⟨_,_,_,rfl,⟨⟨rfl,.inr ⟨w.heap.size,cc,_,rfl,Nat.le_refl _,heap_alloc_new w.drew _,Nat.zero_le _,by unfold maxLen;omega,?_,rfl⟩⟩,Lim.nil⟩,((Below.refl _ _).drew).alloc (Nat.le_refl _) _⟩
 simp[size_zeroCells]
 omega
set_option maxHeartbeats 1000000 in
theorem Dh (g:Nat) (A1 A2:Option Addr) (n1 c1 n2 c2:Nat) (xs ys:List Nat) (w:World) (hg:g<w.heap.size) (h0:w.cell? ⟨g,0,none⟩=some (.slice A1 n1 c1)) (h1:w.cell? ⟨g,1,none⟩=some (.slice A2 n2 c2))
  (hx:U32 w w.heap.size A1 n1 c1 xs) (hy:U32 w w.heap.size A2 n2 c2 ys) (b1:n1≤1099511627776) (b2:n2≤1099511627776) (hp:0<n1+n2):
  Calls Tryz.prog 131 #[.slice (some ⟨g,0,none⟩) 2 2] w (fY (xs++ys) w):=by
 go_enter Tryz.func131,Tryz.ntmps131
 go_wp2_with fail
 refine wp_loop_rounds 3 ?_
 rw[rounds_succ]
 go_wp2_with fail
 rw[rounds_succ]
 go_wp2_with fail
 rw[rounds_succ]
 go_wp2_with fail
 refine(Kh _ _ (by omega) (by omega)).mono ?_
 rintro e w1 ⟨A3,n3,c3,rfl,hO,hb1⟩
 obtain rfl:n3=0:=hO.len.symm
 have k0:=(hb1.cell (p:=⟨g,0,none⟩) hg).trans h0
 have k1:=(hb1.cell (p:=⟨g,1,none⟩) hg).trans h1
 have hz1:=hb1.size
 go_wp2_with fail
 refine wp_loop_rounds 3 ?_
 rw[rounds_succ]
 go_wp2_with (at_builtin;refine gM _ iC rfl (.tmp 31) (.tmp 32) rfl w.heap.size _ 0 [] rfl hO.row w.heap.size A1 n1 c1 (cI xs) rfl (hx.rd.below hb1) (mH xs) (by omega) (by omega) hz1 ?_;intro A4 c4 w2 hO2 hg2 _)
 have hb2:=iM hb1 hO.row hg2 hz1 (Nat.le_refl _)
 have k2:=(hb2.cell (p:=⟨g,1,none⟩) hg).trans h1
 have hz2:=hb2.size
 clear hg2
 have hO4:w2.ownsRow w.heap.size 22 1 (.slice A4 n1 c4) n1 (cI xs):=by simpa using hO2
 rw[rounds_succ]
 go_wp2_with (at_builtin;refine gM _ iC rfl (.tmp 31) (.tmp 32) rfl w.heap.size _ n1 _ rfl hO4 w.heap.size A2 n2 c2 (cI ys) rfl (hy.rd.below hb2) (mH ys) (by omega) (by omega) hz2 ?_;intro A5 c5 w3 hO3 hg3 _)
 have hb3:=iM hb2 hO4 hg3 hz2 (Nat.le_refl _)
 rw[rounds_succ]
 go_wp2_with fail
 go_ret
 exact⟨A5,n1+n2,c5,rfl,⟨by simpa[nY]using hO3,hx.lim.append hy.lim⟩,hb3⟩
theorem My (w:World):(Instr.makeSlice 23 (.int .i64 0) (.int .i64 0)).run Tryz.prog w=.ok (.slice (some ⟨w.heap.size,0,none⟩) 0 0) (w.alloc (.cells #[] 22)):=by
 obtain⟨ht,i,hi,hz,hs,hb,hzs,hp⟩:=iC
 have hr:=run_make (P:=Tryz.prog) w 23 22 i (.int .u32 0) ht hi hz .i64 .i64 0 0 (by omega) (by omega) (by omega) (by omega)
 have e:madeCells (Value.int .u32 0).cells (0*i.size)= #[]:=by rw[Nat.zero_mul];exact Array.eq_empty_of_size_eq_zero (size_madeCells _ _)
 rw[show(0:Int).toNat*i.size=0*i.size from rfl,e]at hr
 exact hr
theorem oR (A:Option Addr) (n c:Nat) (k:Int) (xs:List Nat) (w:World) (ha:U32 w w.heap.size A n c xs) (h0:vl 4294967296 xs=0):
  Calls Tryz.prog 95 #[.slice A n c,.int .i64 k] w (oP [] 0 w):=by
 have ht:trim xs=[]:=(cY 4294967296 (by omega) xs).2 h0
 go_enter Tryz.func95,Tryz.ntmps95
 go_wp2_with fail
 refine(bU _ _ _ 0 _ _ _ ha (by rw[ht];rfl)).mono ?_
 rintro e w' ⟨rfl,rfl⟩
 go_wp2_with fail
 go_ret2
 exact⟨_,_,_,rfl,Own.nil,Below.refl _ _⟩
set_option maxHeartbeats 1000000 in
theorem gK (A:Option Addr) (n0 c k v:Nat) (xs:List Nat) (w:World) (ha0:U32 w w.heap.size A n0 c xs) (hv:vl 4294967296 xs=v) (hn0':n0≤1099511627775) (hk:k<32) (h0:v≠0):
    Calls Tryz.prog 95 #[.slice A n0 c,.int .i64 (k:Int)] w (oP (dg 4294967296 (v*2^k)) 0 w):=by
  have ht:trim xs=dg 4294967296 v:=by rw[←hv,cZ (by omega) ha0.lim]
  have ha:=ha0.trim
  have hn:=bQ xs
  rw[ha0.len]at hn
  obtain⟨n,hn1⟩:∃n,(trim xs).length=n:=⟨_,rfl⟩
  rw[hn1]at ha hn
  have HT:=Lib.hid hn1
  rw[ht]at ha
  have hl:=ha.len
  clear hn1 ht
  have hn0:0<n:=by
    rcases Nat.eq_zero_or_pos n with h | h
    · subst h
      exact absurd ((bS (by omega)).1 (List.eq_nil_of_length_eq_zero hl)) h0
    exact h
  have HL:=Lib.hid hl
  clear hl
  have q1:((n:Int)==0)=false:=by rw[beq_eq_false_iff_ne];omega
  have q2:(k:Int)/32=0:=by omega
  have q3:(k:Int)%32=k:=by omega
  have mk:=My
  have q4:IntKind.i64.wrap 0=0:=rfl
  have q5:(k:Int).tmod 32=k:=by rw[Int.tmod_eq_emod_of_nonneg (by omega)];omega
  go_enter Tryz.func95,Tryz.ntmps95
  go_wp2_with fail
  refine(bU _ _ _ n _ _ _ ha0 HT.out).mono ?_
  rintro e w' ⟨rfl,rfl⟩
  go_wp2_with fail
  go_region_held3 (fun w'=>Below w.heap.size w w') ((repeat (first | exact Below.refl _ _ | assumption | refine Below.drew ?_ | refine Below.alloc ?_ (by first | exact Nat.le_refl _ | exact Below.size (by assumption) | (simp;done) | (simp;omega) | omega) _)))
    (first
      | (go_at_call 132
         refine qO (w0:=w) ?_ (fun hB=>?_)
         · (repeat (first | exact Below.refl _ _ | assumption | refine Below.drew ?_ | refine Below.alloc ?_ (by first | exact Nat.le_refl _ | exact Below.size (by assumption) | (simp;done) | (simp;omega) | omega) _))
         refine(Ay A n c v k _ (ha.now hB) (by omega) hk).mono ?_
         rintro e w1 ⟨A1,n1,c1,rfl,h1,hb1⟩
         have hb2:=hB.trans (hb1.mono hB.size)
         clear hB hb1)
      | (go_at_call 131
         refine qO (w0:=w) ?_ (fun hB=>?_)
         · (repeat (first | exact Below.refl _ _ | assumption | refine Below.drew ?_ | refine Below.alloc ?_ (by first | exact Nat.le_refl _ | exact Below.size (by assumption) | (simp;done) | (simp;omega) | omega) _))
         refine(Dh _ _ _ _ _ _ _ [] (dg 4294967296 (v*2^k)) _ ?_ (jW _ _ _ 0 ?_) (jW _ _ _ 1 ?_) (U32.empty ?_) (U32.now h1 ?_) ?_ ?_ ?_).mono ?_
         · simp
         · simp
         · simp
         · omega
         · (repeat (first | exact Below.refl _ _ | refine Below.alloc ?_ (by first | exact Nat.le_refl _ | (simp;done)) _))
         · omega
         · have hl:=aH (B:=4294967296) (n:=v*2^k) (k:=n+1) (by omega) (by
             rw[Nat.pow_succ]
             exact Nat.mul_lt_mul_of_lt_of_lt (by rw[←HL.out];exact eS (by omega)) (Nat.lt_of_lt_of_le (Nat.pow_lt_pow_right (by omega) hk) (by decide)))
           rw[h1.len]at hl
           omega
         · have hl:=h1.len
           rcases Nat.eq_zero_or_pos n1 with hz | hz
           · rw[hz]at hl
             have:=(bS (by omega)).1 (List.eq_nil_of_length_eq_zero hl)
             have h2:0<v*2^k:=Nat.mul_pos (by omega) (Nat.pos_of_ne_zero (by simp))
             omega
           omega
         rintro e w2 ⟨A2,n2,c2,rfl,h2,hb3⟩
         have hb4:=hB.trans (hb3.mono hB.size)
         have h3:=h2.base_le hB.size
         clear hB hb3 h2))
  all_goals
    go_wp2_with fail
    go_ret2
    exact⟨_,_,_,rfl,h3,hb4⟩
set_option maxHeartbeats 1000000 in
theorem oS (A:Option Addr) (n0 c k v:Nat) (xs:List Nat) (w:World) (ha0:U32 w w.heap.size A n0 c xs) (hv:vl 4294967296 xs=v) (hn0':n0≤1099511627775) (hk0:0<k) (hk:k<32) (h0:v≠0):
  Calls Tryz.prog 95 #[.slice A n0 c,.int .i64 (-(k:Int))] w (oP (dg 4294967296 (v/2^k)) 0 w):=by
 have ht:trim xs=dg 4294967296 v:=by rw[←hv,cZ (by omega) ha0.lim]
 have ha:=ha0.trim
 have hn:=bQ xs
 rw[ha0.len]at hn
 obtain⟨n,hn1⟩:∃n,(trim xs).length=n:=⟨_,rfl⟩
 rw[hn1]at ha hn
 have HT:=Lib.hid hn1
 rw[ht]at ha
 have hl:=ha.len
 clear hn1 ht
 have hn0:0<n:=by
  rcases Nat.eq_zero_or_pos n with h | h
  ·subst h
   exact absurd ((bS (by omega)).1 (List.eq_nil_of_length_eq_zero hl)) h0
  exact h
 have HL:=Lib.hid hl
 clear hl
 have hcap:=ha.cap
 have hbig:=ha.big
 have q1:((n:Int)==0)=false:=by rw[beq_eq_false_iff_ne];omega
 have q2:(k:Int)/32=0:=by omega
 have q3:(k:Int)%32=k:=by omega
 go_enter Tryz.func95,Tryz.ntmps95
 go_wp2_with fail
 refine(bU _ _ _ n _ _ _ ha0 HT.out).mono ?_
 rintro e w' ⟨rfl,rfl⟩
 go_wp2_with fail
 refine(yT _ _ _ _ _ _ ha (by omega) hk).mono ?_
 rintro e w1 ⟨A1,n1,c1,rfl,h1,hb1⟩
 go_wp2_with fail
 have hl2:n1≤n:=by
  rw[←h1.len,←HL.out]
  exact cD (by omega) (Nat.div_le_self _ _)
 refine(bU _ _ _ n1 _ _ _ h1 (by rw[vE (by omega)];exact h1.len)).mono ?_
 rintro e w' ⟨rfl,rfl⟩
 go_wp2_with fail
 refine(mQ _ _ _ _ _ h1 (by omega)).mono ?_
 rintro e w2 ⟨A2,n2,c2,rfl,h2,hb2⟩
 go_wp2_with fail
 go_ret2
 exact⟨_,_,_,rfl,h2.base_le hb1.size,hb1.trans (hb2.mono hb1.size)⟩
def RowInv (ys os0 os:List Nat) (x i k C:Nat):Prop:=
 C<4294967296∧os.length=os0.length∧vl 4294967296 (os.take (i+k))+4294967296^(i+k)*C=vl 4294967296 (os0.take (i+k))+4294967296^i*(x*vl 4294967296 (ys.take k))∧
  ∀j,i+k≤j→nth os j=nth os0 j
theorem RowInv.zero (ys os0:List Nat) (x i:Nat):RowInv ys os0 os0 x i 0 0:=⟨by omega,rfl,by simp[vl],fun _ _=>rfl⟩
theorem RowInv.lt {ys os0 os:List Nat}{x i k C:Nat}(h:RowInv ys os0 os x i k C):C<4294967296:=h.1
theorem RowInv.step {ys os0 os:List Nat}{x i k C:Nat}(h:RowInv ys os0 os x i k C) (hk:i+k<os.length) (hx:x<4294967296) (hy:Lim 4294967296 ys) (ho:Lim 4294967296 os):
  RowInv ys os0 (os.set (i+k) (bX (x*nth ys k+nth os (i+k)+C))) x i (k+1) (eA (x*nth ys k+nth os (i+k)+C)):=by
 obtain⟨h1,hl,h2,h3⟩:=h
 have y1:=hy.nth (by omega) k
 have o1:=ho.nth (by omega) (i+k)
 have hm:x*nth ys k≤4294967295*4294967295:=Nat.mul_le_mul (by omega) (by omega)
 refine⟨Eu (by omega),by rw[List.length_set,hl],?_,fun j hj=>by rw[eM (by omega)];exact h3 j (by omega)⟩
 rw[←Nat.add_assoc,cP _ _ hk,aF,aF,Nat.pow_succ,h3 (i+k) (Nat.le_refl _)]
 rw[h3 (i+k) (Nat.le_refl _)]at o1
 have e:=yS (x*nth ys k+nth os0 (i+k)+C)
 rw[Nat.pow_add]at*
 generalize 4294967296^i=p at*
 generalize 4294967296^k=r at*
 generalize bX (x*nth ys k+nth os0 (i+k)+C)=s at*
 generalize eA (x*nth ys k+nth os0 (i+k)+C)=q at*
 have e2:p*r*(s+4294967296*q)=p*r*(x*nth ys k+nth os0 (i+k)+C):=by rw[e]
 grind
def ProdInv (xs ys os:List Nat) (i:Nat):Prop:=
 os.length=xs.length+ys.length∧vl 4294967296 (os.take (i+ys.length))=vl 4294967296 (xs.take i)*vl 4294967296 ys∧∀j,i+ys.length≤j→nth os j=0
theorem rR (n j:Nat):nth (List.replicate n 0) j=0:=by
 unfold nth
 rw[List.getD_eq_getElem?_getD,List.getElem?_replicate]
 split <;> rfl
theorem ProdInv.zero (xs ys:List Nat):ProdInv xs ys (List.replicate (xs.length+ys.length) 0) 0:=
 ⟨by simp,by rw[List.take_replicate,sH];simp[vl],fun _ _=>rR _ _⟩
theorem ProdInv.step {xs ys os0 os:List Nat}{i C:Nat}(h:ProdInv xs ys os0 i) (hi:i<xs.length) (hr:RowInv ys os0 os (nth xs i) i ys.length C):ProdInv xs ys (os.set (i+ys.length) C) (i+1):=by
 obtain⟨h1,h2,h3⟩:=h
 obtain⟨r1,rl,r2,r3⟩:=hr
 refine⟨by rw[List.length_set,rl,h1],?_,fun j hj=>by rw[eM (by omega),r3 j (by omega)];exact h3 j (by omega)⟩
 rw[show i+1+ys.length=i+ys.length+1 from by omega,cP _ _ (by omega),r2,h2,aF,aL _ (Nat.le_refl _)]
 generalize 4294967296^i=p at*
 grind
theorem ProdInv.end_ {xs ys os:List Nat}(h:ProdInv xs ys os xs.length):vl 4294967296 os=vl 4294967296 xs*vl 4294967296 ys:=by
 obtain⟨h1,h2,_⟩:=h
 rw[aL _ (by omega),aL _ (Nat.le_refl _)]at h2
 exact h2
set_option maxHeartbeats 2000000 in
theorem Gg (A B:Option Addr) (n m c d:Nat) (xs ys:List Nat) (w:World) (ha:U32 w w.heap.size A n c xs) (hb:U32 w w.heap.size B m d ys) (hn:n≤549755813888) (hm:m≤549755813888):
  Calls Tryz.prog 44 #[.slice A n c,.slice B m d] w (fY (dg 4294967296 (vl 4294967296 xs*vl 4294967296 ys)) w):=by
 have Hx:=Lib.hid ha.len
 have Hy:=Lib.hid hb.len
 go_enter Tryz.func44,Tryz.ntmps44
 go_wp2_with (refine fZ _ iC rfl (.tmp 16) (.tmp 16) rfl .i64 .i64 _ _ (n+m) rfl rfl (by omega) (by omega) (by omega) (by omega) ?_;intro w1 hown hb1 hz1)
 have hO:=Own.made hown
 clear hown
 go_wp2_with fail
 go_loopw [20] (fun i wr=>∃(k:Nat) (os:List Nat),k≤n∧i=.int .i64 (k:Int)∧Own 22 wr w.heap.size (some ⟨w.heap.size,0,none⟩) (n+m) (n+m) os∧ProdInv xs ys os k∧Below w.heap.size w wr∧w.heap.size<wr.heap.size) (fun i _=>n-(intOf i).toNat)
 case atStart=>exact⟨0,_,Nat.zero_le _,rfl,hO,by have:=ProdInv.zero xs ys;rwa[Hx.out,Hy.out]at this,hb1,hz1⟩
 case round=>
  obtain⟨i,os,hi,rfl,hown,hI,hbw,hz⟩:=hrel
  by_cases hlt:i<n
  ·obtain⟨b,o,sp,rfl,hbb,hcc⟩:=(ha.below hbw).at_ hlt
   have hx1:=ha.lim.nth (by omega) i
   go_wp2_with fail
   obtain⟨wo,rfl⟩:∃wo:World,wo=wr:=⟨_,rfl⟩
   have hx2:(0:Int)≤(nth xs i:Int):=by omega
   go_loopw [8,27] (fun cy kk wr=>∃(k C:Nat) (oz:List Nat),k≤m∧kk=.int .i64 (k:Int)∧cy=.int .u64 (C:Int)∧Own 22 wr w.heap.size (some ⟨w.heap.size,0,none⟩) (n+m) (n+m) oz∧RowInv ys os oz (nth xs i) i k C∧Below w.heap.size w wr∧w.heap.size<wr.heap.size) (fun _ kk _=>m-(intOf kk).toNat)
   case atStart=>exact⟨0,0,os,Nat.zero_le _,rfl,rfl,hown,RowInv.zero _ _ _ _,hbw,hz⟩
   case round=>
    obtain⟨k,C,oz,hk,rfl,rfl,hown2,hR,hbw2,hz2⟩:=hrel
    have hC:=hR.lt
    by_cases hlk:k<m
    ·obtain⟨b2,o2,sp2,rfl,hbb2,hcc2⟩:=(hb.below hbw2).at_ hlk
     have hy1:=hb.lim.nth (by omega) k
     have ho0:=hown2.cell (show i+k<n+m by omega)
     have ho1:=hown2.lim.nth (by omega) (i+k)
     have ho2:=hown2.frozen (i+k)
     obtain⟨p0,p1⟩:=uA (nth xs i:Int) (nth ys k:Int) (by omega) (by omega) (by omega) (by omega)
     have hset:=hown2.set (i+k) (v:=bX (nth xs i*nth ys k+nth oz (i+k)+C)) (mR _)
     have hstep:=hR.step (by rw[hown2.len];omega) hx1 hb.lim hown2.lim
     go_wp2_with fail
     go_roundw
     case rel=>exact⟨k+1,_,_,by omega,by go_num,rfl,hset,hstep,hbw2.setCell (Nat.le_refl _) _,by simpa using hz2⟩
     case measure=>simp[intOf];omega
    obtain rfl:k=m:=by omega
    have ho0:=hown2.cell (show i+k<n+k by omega)
    have ho2:=hown2.frozen (i+k)
    have hset:=hown2.set (i+k) (v:=C) hC
    have hR2:=hR
    rw[←Hy.out]at hR2
    have hstep:=hI.step (by rw[Hx.out];exact hlt) hR2
    rw[Hy.out]at hstep
    clear hR2
    go_wp2_with fail
    go_roundw
    case rel=>exact⟨i+1,_,by omega,by go_num,hset,hstep,hbw2.setCell (Nat.le_refl _) _,by simpa using hz2⟩
    case measure=>simp[intOf];omega
  obtain rfl:i=n:=by omega
  have hI2:=hI
  rw[←Hx.out]at hI2
  have hend:=Lib.hid hI2.end_
  clear hI2
  go_wp2_with fail
  refine(cR _ _ _ os _ hown.u32 (by omega)).mono ?_
  rintro e w2 ⟨A2,n2,c2,rfl,h2,hb2⟩
  go_wp2_with fail
  go_ret
  exact⟨_,_,_,rfl,by rw[←hend.out,cZ (by omega) hown.lim];exact h2.base_le hbw.size,hbw.trans (hb2.mono hbw.size)⟩
def bY (u3 v2:Nat):Nat:=min 4294967295 (u3/v2)
def GuessInv (hi mid low first second q r:Nat):Prop:=
 q*first+r=hi*4294967296+mid∧r<4294967296∧bY ((hi*4294967296+mid)*4294967296+low) (first*4294967296+second)≤q∧q≤4294967297
theorem mY (u v:Nat):u/v*v≤u:=Nat.div_mul_le_self u v
theorem GuessInv.start {hi mid low first second:Nat}(h0:2147483648≤first) (hf:first<4294967296) (hh:hi≤first) (hm:mid<4294967296) (hl:low<4294967296):
  GuessInv hi mid low first second ((hi*4294967296+mid)/first) ((hi*4294967296+mid)%first):=by
 have hp:0<first:=by omega
 have hmod:=Nat.mod_lt (hi*4294967296+mid) hp
 refine⟨by rw[Nat.mul_comm];exact Nat.div_add_mod _ _,by omega,?_,?_⟩
 ·unfold bY
  refine Nat.le_trans (Nat.min_le_right _ _) ?_
  rw[Nat.le_div_iff_mul_le hp]
  have h1:=mY ((hi*4294967296+mid)*4294967296+low) (first*4294967296+second)
  generalize ((hi*4294967296+mid)*4294967296+low)/(first*4294967296+second)=q at*
  have h2:q*first*4294967296≤q*(first*4294967296+second):=by
   rw[Nat.mul_assoc];exact Nat.mul_le_mul_left _ (by omega)
  omega
 have:hi*4294967296+mid<(4294967297+1)*first:=by
  have:hi*4294967296≤first*4294967296:=Nat.mul_le_mul_right _ hh
  omega
 have:=Nat.div_lt_of_lt_mul (m:=hi*4294967296+mid) (n:=first) (k:=4294967298) (by omega)
 omega
theorem Az {B two low r x y z:Nat}(e:z=y*B+x) (h1:y+r=two) (hc:r*B+low<x):two*B+low<z:=by
 subst h1;subst e;rw[Nat.add_mul];omega
theorem GuessInv.down {hi mid low first second q r:Nat}(h:GuessInv hi mid low first second q r) (hc:4294967295<q∨r*4294967296+low<q*second):
  1≤q∧(q-1)*first+(r+first)=hi*4294967296+mid∧bY ((hi*4294967296+mid)*4294967296+low) (first*4294967296+second)≤q-1:=by
 obtain⟨h1,h2,h3,h4⟩:=h
 have hq:1≤q:=by
  rcases hc with hc | hc
  ·omega
  rcases Nat.eq_zero_or_pos q with h | h
  ·subst h;omega
  exact h
 refine⟨hq,?_,?_⟩
 ·have:(q-1)*first+first=q*first:=by rw[←Nat.succ_mul,show(q-1).succ=q by omega]
  omega
 rcases hc with hc | hc
 ·unfold bY;omega
 have hlt:bY ((hi*4294967296+mid)*4294967296+low) (first*4294967296+second)<q:=by
  unfold bY
  refine Nat.lt_of_le_of_lt (Nat.min_le_right _ _) ?_
  have e:q*(first*4294967296+second)=q*first*4294967296+q*second:=by rw[Nat.mul_add,Nat.mul_assoc]
  have hu:(hi*4294967296+mid)*4294967296+low<q*(first*4294967296+second):=by
   exact Az e h1 hc
  have hv:0<first*4294967296+second:=by
   rcases Nat.eq_zero_or_pos (first*4294967296+second)with h | h
   ·rw[h]at hu;omega
   exact h
  exact(Nat.div_lt_iff_lt_mul hv).2 hu
 omega
theorem GuessInv.next {hi mid low first second q r:Nat}(h:GuessInv hi mid low first second q r) (hc:4294967295<q∨r*4294967296+low<q*second) (hr:r+first<4294967296):
  GuessInv hi mid low first second (q-1) (r+first):=by
 obtain⟨d1,d2,d3⟩:=h.down hc
 exact⟨d2,hr,d3,by have:=h.2.2.2;omega⟩
theorem uD {u v q:Nat}(hv:0<v) (h1:q≤4294967295) (h2:q*v≤u):q≤bY u v:=by
 unfold bY
 have:=(Nat.le_div_iff_mul_le hv).2 h2
 omega
theorem GuessInv.brk {hi mid low first second q r:Nat}(h:GuessInv hi mid low first second q r) (hc:4294967295<q∨r*4294967296+low<q*second) (hr:4294967296≤r+first)
  (h0:2147483648≤first) (hh:hi≤first) (hm:mid<4294967296) (hs:second<4294967296):
  q-1=bY ((hi*4294967296+mid)*4294967296+low) (first*4294967296+second):=by
 obtain⟨d1,d2,d3⟩:=h.down hc
 refine Nat.le_antisymm ?_ d3
 have hq:q-1≤4294967295:=by
  rcases Nat.lt_or_ge 4294967295 (q-1)with h | h
  ·have h1:4294967296*first≤(q-1)*first:=Nat.mul_le_mul_right _ (by omega)
   have h2:hi*4294967296≤first*4294967296:=Nat.mul_le_mul_right _ hh
   omega
  exact h
 refine uD (by omega) hq ?_
 have e:(q-1)*(first*4294967296+second)=(q-1)*first*4294967296+(q-1)*second:=by rw[Nat.mul_add,Nat.mul_assoc]
 have hb:(q-1)*second≤4294967295*4294967295:=Nat.mul_le_mul hq (by omega)
 rw[e]
 omega
theorem GuessInv.done {hi mid low first second q r:Nat}(h:GuessInv hi mid low first second q r) (h1:q≤4294967295) (h2:q*second≤r*4294967296+low) (hf:0<first):
  q=bY ((hi*4294967296+mid)*4294967296+low) (first*4294967296+second):=by
 refine Nat.le_antisymm (uD (by omega) h1 ?_) h.2.2.1
 have e:q*(first*4294967296+second)=q*first*4294967296+q*second:=by rw[Nat.mul_add,Nat.mul_assoc]
 have:=h.1
 rw[e]
 omega
theorem yU {u v u3 v2 p ul vl':Nat}(hu:u=u3*p+ul) (hul:ul<p) (hv:v=v2*p+vl') (hvl:vl'<p) (hv2:4294967296≤v2) (hlt:u<v*4294967296):
  u/v≤bY u3 v2∧bY u3 v2≤u/v+1:=by
 have hp:0<p:=by omega
 have hvp:0<v:=by
  have:0<v2*p:=Nat.mul_pos (by omega) hp
  omega
 constructor
 ·unfold bY
  have h1:u/v<4294967296:=(Nat.div_lt_iff_lt_mul hvp).2 (by rw[Nat.mul_comm];exact hlt)
  have h2:u/v≤u3/v2:=by
   rw[Nat.le_div_iff_mul_le (by omega)]
   have h3:=mY u v
   generalize u/v=q at*
   have h4:q*v2*p≤q*v:=by rw[Nat.mul_assoc,hv];exact Nat.mul_le_mul_left _ (by omega)
   have h5:q*v2*p<(u3+1)*p:=by rw[Nat.add_mul];omega
   have:=Nat.lt_of_mul_lt_mul_right h5
   omega
  omega
 have hg1:bY u3 v2≤4294967295:=Nat.min_le_left _ _
 have hg2:bY u3 v2*v2≤u3:=by
  have:bY u3 v2≤u3/v2:=Nat.min_le_right _ _
  exact(Nat.le_div_iff_mul_le (by omega)).1 this
 generalize bY u3 v2=q at*
 rcases Nat.eq_zero_or_pos q with h | h
 ·rw[h];exact Nat.zero_le _
 have h6:q-1≤u/v:=by
  rw[Nat.le_div_iff_mul_le hvp]
  have h7:q*v2*p≤u3*p:=Nat.mul_le_mul_right _ hg2
  have h8:q*v=q*v2*p+q*vl':=by rw[hv,Nat.mul_add,Nat.mul_assoc]
  have h9:q*vl'≤4294967295*p:=Nat.mul_le_mul hg1 (by omega)
  have h10:4294967296*p≤v2*p:=Nat.mul_le_mul_right _ hv2
  have h11:(q-1)*v+v=q*v:=by rw[←Nat.succ_mul,show(q-1).succ=q by omega]
  omega
 generalize u/v=j at*
 omega
theorem wS (h l:Nat) (h1:h<4294967296) (l1:l<4294967296):bits BinOp.or IntKind.u64 ((h:Int)*4294967296) (l:Int)=(h:Int)*4294967296+(l:Int):=
 At _ _ (by omega) (by omega) (by omega) (by omega)
theorem wT {q s:Nat}(h1:q≤4294967295) (h2:s<4294967296):(0:Int)≤(q:Int)*(s:Int)∧(q:Int)*(s:Int)≤18446744065119617025:=
 uA _ _ (by omega) (by omega) (by omega) (by omega)
set_option maxHeartbeats 1000000 in
theorem Ba (hi mid low first second:Nat) (w:World) (h0:2147483648≤first) (hf:first<4294967296) (hh:hi≤first) (hm:mid<4294967296) (hl:low<4294967296) (hs:second<4294967296):
  Calls Tryz.prog 96 #[.int .u32 (hi:Int),.int .u32 (mid:Int),.int .u32 (low:Int),.int .u32 (first:Int),.int .u32 (second:Int)] w fun e w'=>
   e=.returned (.int .u64 (bY ((hi*4294967296+mid)*4294967296+low) (first*4294967296+second):Nat))∧∃k,w'=w.drewN k:=by
 have hs0:=GuessInv.start (low:=low) (second:=second) h0 hf hh hm hl
 have e1:=wS hi mid (by omega) hm
 have n1:¬(first:Int)=0:=by omega
 go_enter Tryz.func96,Tryz.ntmps96
 go_wp2_with fail
 go_step3
 go_wp2_with fail
 go_quiet (fail)
 clear e1 n1
 go_wp2_with fail
 go_step3
 go_wp2_with fail
 go_loop [12,13] (fun a b=>∃q r:Nat,a=.int .u64 (q:Int)∧b=.int .u64 (r:Int)∧GuessInv hi mid low first second q r) (fun a _=>(intOf a).toNat)
 case atStart=>exact⟨_,_,rfl,rfl,hs0⟩
 case round=>
  obtain⟨q,r,rfl,rfl,hI⟩:=hrel
  have hr:=hI.2.1
  have hq:=hI.2.2.2
  by_cases hc:4294967295<q
  ·obtain⟨d1,d2,d3⟩:=hI.down (.inl hc)
   by_cases hb:r+first<4294967296
   ·have hn:=hI.next (.inl hc) hb
    clear hI d2 d3
    have c1:decide ((4294967295:Int)<(q:Int))=true:=by simp;omega
    go_wp2_with fail
    go_round
    case rel=>exact⟨q-1,r+first,by go_num,by go_num,hn⟩
    case measure=>simp[intOf];omega
   have hn:=hI.brk (.inl hc) (by omega) h0 hh hm hs
   have Hn:=Lib.hid hn
   clear hI d2 d3 hn
   have c1:decide ((4294967295:Int)<(q:Int))=true:=by simp;omega
   go_wp2_with fail
   go_ret
   exact⟨by rw[←Hn.out];go_num,_,rfl⟩
  have c1:decide ((4294967295:Int)<(q:Int))=false:=by simp;omega
  have e2:=wS r low hr hl
  obtain⟨p0,p1⟩:=wT (q:=q) (s:=second) (by omega) hs
  by_cases hc2:r*4294967296+low<q*second
  ·obtain⟨d1,d2,d3⟩:=hI.down (.inr hc2)
   have c2:(r:Int)*4294967296+(low:Int)<(q:Int)*(second:Int):=by
    have:((r*4294967296+low:Nat):Int)<((q*second:Nat):Int):=by omega
    simpa using this
   by_cases hb:r+first<4294967296
   ·have hn:=hI.next (.inr hc2) hb
    clear hI d2 d3
    go_wp2_with fail
    go_round
    case rel=>exact⟨q-1,r+first,by go_num,by go_num,hn⟩
    case measure=>simp[intOf];omega
   have hn:=hI.brk (.inr hc2) (by omega) h0 hh hm hs
   have Hn:=Lib.hid hn
   clear hI d2 d3 hn
   go_wp2_with fail
   go_ret
   exact⟨by rw[←Hn.out];go_num,_,rfl⟩
  have hn:=Lib.hid (hI.done (by omega) (by omega) (by omega))
  have c2:¬(r:Int)*4294967296+(low:Int)<(q:Int)*(second:Int):=by
   have:¬((r*4294967296+low:Nat):Int)<((q*second:Nat):Int):=by omega
   simpa using this
  clear hI
  go_wp2_with fail
  go_ret
  exact⟨by rw[←hn.out];rfl,_,rfl⟩
def TakeInv (ax os ys:List Nat) (q k C b:Nat):Prop:=
 C≤4294967295∧b≤1∧os.length=ax.length∧vl 4294967296 (os.take k)+q*vl 4294967296 (ys.take k)=vl 4294967296 (ax.take k)+4294967296^k*(C+b)∧(∀j,k≤j→nth os j=nth ax j)∧(ys.length<k→C=0)
theorem TakeInv.zero (ax ys:List Nat) (q:Nat):TakeInv ax ax ys q 0 0 0:=⟨by omega,by omega,rfl,by simp[vl],fun _ _=>rfl,fun _=>rfl⟩
theorem TakeInv.at_ {ax os ys:List Nat}{q k C b:Nat}(h:TakeInv ax os ys q k C b):nth os k=nth ax k:=h.2.2.2.2.1 k (Nat.le_refl _)
theorem Gh {q y C:Nat}(hq:q≤4294967295) (hy:y<4294967296) (hC:C≤4294967295):q*y+C≤18446744069414584320:=by
 have:q*y≤4294967295*4294967295:=Nat.mul_le_mul hq (by omega)
 omega
theorem TakeInv.step {ax os ys:List Nat}{q k C b:Nat}(h:TakeInv ax os ys q k C b) (hk:k<ax.length) (hq:q≤4294967295) (ha:Lim 4294967296 ax) (hy:Lim 4294967296 ys):
  TakeInv ax (os.set k (gI (nth ax k) (bX (q*nth ys k+C)) b)) ys q (k+1) (eA (q*nth ys k+C)) (iE (nth ax k) (bX (q*nth ys k+C)) b):=by
 obtain⟨h1,h2,h3,h4,h5,h6⟩:=h
 have y1:=hy.nth (by omega) k
 have a1:=ha.nth (by omega) k
 have hp:=Gh hq y1 h1
 have e:=Aw a1 (mR (q*nth ys k+C)) h2
 have e1:=yS (q*nth ys k+C)
 have hh:=Eu (n:=q*nth ys k+C) (by omega)
 refine⟨by omega,wQ _ _ _,by rw[List.length_set,h3],?_,fun j hj=>by rw[eM (by omega)];exact h5 j (by omega),fun hj=>?_⟩
 ·rw[cP _ _ (by omega),aF,aF,Nat.pow_succ]
  generalize 4294967296^k=p at*
  generalize gI (nth ax k) (bX (q*nth ys k+C)) b=s at*
  generalize iE (nth ax k) (bX (q*nth ys k+C)) b=t at*
  generalize bX (q*nth ys k+C)=l at*
  generalize eA (q*nth ys k+C)=m at*
  have e2:p*(s+l+b)=p*(nth ax k+4294967296*t):=by rw[e]
  have e3:p*(l+4294967296*m)=p*(q*nth ys k+C):=by rw[e1]
  grind
 rw[cM (by omega),Nat.mul_zero,Nat.zero_add]
 unfold eA
 omega
theorem Bb {u v q r:Nat}(hv:0<v) (h:r+q*v=u) (hr:r<v):q=u/v∧r=u%v:=by
 subst h
 rw[Nat.mul_comm q v,Nat.add_mul_div_left _ _ hv,Nat.add_mul_mod_self_left,Nat.div_eq_of_lt hr,Nat.mod_eq_of_lt hr]
 exact⟨by omega,rfl⟩
theorem TakeInv.right {ax os ys:List Nat}{q n C:Nat}(h:TakeInv ax os ys q n C 0) (hn:ys.length<n) (hq:vl 4294967296 (ax.take n)/vl 4294967296 ys≤q) (hv:0<vl 4294967296 ys):
  q=vl 4294967296 (ax.take n)/vl 4294967296 ys∧vl 4294967296 (os.take n)=vl 4294967296 (ax.take n)%vl 4294967296 ys:=by
 obtain⟨h1,h2,h3,h4,h5,h6⟩:=h
 rw[h6 hn,aL 4294967296 (l:=ys) (by omega)]at h4
 simp only[Nat.add_zero,Nat.mul_zero]at h4
 refine Bb hv h4 ?_
 generalize vl 4294967296 (ax.take n)=u at*
 generalize vl 4294967296 (os.take n)=r at*
 generalize vl 4294967296 ys=v at*
 rcases Nat.lt_or_ge r v with h | h
 ·exact h
 have h7:(q+1)*v≤u:=by rw[Nat.succ_mul];omega
 have:=(Nat.le_div_iff_mul_le hv).2 h7
 omega
theorem TakeInv.over {ax os ys:List Nat}{q n C:Nat}(h:TakeInv ax os ys q n C 1) (hn:ys.length<n) (hl:n≤os.length) (hos:Lim 4294967296 os) (hys:Lim 4294967296 ys)
  (hq2:q≤vl 4294967296 (ax.take n)/vl 4294967296 ys+1) (hv:0<vl 4294967296 ys):
  1≤q∧q-1=vl 4294967296 (ax.take n)/vl 4294967296 ys∧∀r c,r<4294967296^n→c≤1→r+4294967296^n*c=vl 4294967296 (os.take n)+vl 4294967296 ys→r=vl 4294967296 (ax.take n)%vl 4294967296 ys:=by
 obtain⟨h1,h2,h3,h4,h5,h6⟩:=h
 rw[h6 hn,aL 4294967296 (l:=ys) (by omega)]at h4
 have ho:=cW (hos.take n)
 rw[List.length_take,Nat.min_eq_left hl]at ho
 have hy:=cW hys
 have hp:4294967296^ys.length≤4294967296^n:=Nat.pow_le_pow_right (by omega) (by omega)
 simp only[Nat.zero_add,Nat.mul_one]at h4
 generalize vl 4294967296 (ax.take n)=u at*
 generalize vl 4294967296 (os.take n)=o at*
 generalize vl 4294967296 ys=v at*
 generalize 4294967296^n=p at*
 have hq3:u<q*v:=by omega
 have hdm:=Nat.div_add_mod u v
 have hml:=Nat.mod_lt u hv
 have hq4:u/v<q:=by
  rcases Nat.lt_or_ge (u/v) q with h | h
  ·exact h
  have:q*v≤u/v*v:=Nat.mul_le_mul_right _ h
  rw[Nat.mul_comm (u/v)]at this
  omega
 generalize u/v=z at*
 generalize u%v=y at*
 obtain rfl:q=z+1:=by omega
 refine⟨by omega,by omega,fun r c hr hc he=>?_⟩
 rw[Nat.succ_mul,Nat.mul_comm z]at h4
 have hc':c=0∨c=1:=by omega
 rcases hc' with rfl | rfl
 ·omega
 omega
theorem uE (a l b:Int) (a0:0≤a) (a1:a<4294967296) (l0:0≤l) (l1:l<4294967296) (b0:0≤b) (b1:b≤1):
  IntKind.u64.wrap (IntKind.u64.wrap (a-l)-b)=if a<l+b then a-l-b+18446744073709551616 else a-l-b:=by
 rw[IntKind.wrap_u64,IntKind.wrap_u64]
 split <;> omega
theorem wU (a p b:Nat) (P:Int) (hP:P=(p:Int)) (a1:a<4294967296) (b1:b≤1):
  IntKind.u64.wrap (IntKind.u64.wrap ((a:Int)-P%4294967296)-(b:Int))%4294967296=((gI a (bX p) b:Nat):Int):=by
 subst hP
 rw[uE _ _ _ (by omega) (by omega) (by omega) (by omega) (by omega) (by omega)]
 unfold gI bX
 split <;> omega
theorem uF (a p b:Nat) (P:Int) (hP:P=(p:Int)) (a1:a<4294967296) (b1:b≤1):
  IntKind.u64.wrap (IntKind.u64.wrap ((a:Int)-P%4294967296)-(b:Int))/9223372036854775808=((iE a (bX p) b:Nat):Int):=by
 subst hP
 rw[uE _ _ _ (by omega) (by omega) (by omega) (by omega) (by omega) (by omega)]
 unfold iE bX
 split <;> split <;> omega
theorem Di (a l b:Nat) (a1:a<4294967296) (hl:l≤4294967295) (b1:b≤1):
  IntKind.u64.wrap (IntKind.u64.wrap ((a:Int)-(l:Int))-(b:Int))%4294967296=((gI a (bX l) b:Nat):Int):=by
 have:=wU a l b l rfl a1 b1
 rwa[show(l:Int)%4294967296=l by omega]at this
theorem Bc (a l b:Nat) (a1:a<4294967296) (hl:l≤4294967295) (b1:b≤1):
  IntKind.u64.wrap (IntKind.u64.wrap ((a:Int)-(l:Int))-(b:Int))/9223372036854775808=((iE a (bX l) b:Nat):Int):=by
 have:=uF a l b l rfl a1 b1
 rwa[show(l:Int)%4294967296=l by omega]at this
theorem cV (l:List Nat) (i k:Nat):nth (l.drop i) k=nth l (i+k):=by
 unfold nth;rw[List.getD_eq_getElem?_getD,List.getD_eq_getElem?_getD,List.getElem?_drop]
theorem mZ (l:List Nat) (i k v:Nat):(l.set (i+k) v).drop i=(l.drop i).set k v:=by
 rw[List.drop_set,if_neg (by omega),show i+k-i=k by omega]
theorem nA (l:List Nat) (i k v:Nat):(l.set (i+k) v).take i=l.take i:=by
 rw[List.take_set,List.set_eq_of_length_le (by rw[List.length_take];omega)]
def BackInv (o1 os ys:List Nat) (k C:Nat):Prop:=AddInv o1 ys os k C∧os.length=o1.length∧∀j,k≤j→nth os j=nth o1 j
theorem BackInv.zero (o1 ys:List Nat):BackInv o1 o1 ys 0 0:=⟨AddInv.zero _ _ _,rfl,fun _ _=>rfl⟩
theorem BackInv.at_ {o1 os ys:List Nat}{k C:Nat}(h:BackInv o1 os ys k C):nth os k=nth o1 k:=h.2.2 k (Nat.le_refl _)
theorem BackInv.step {o1 os ys:List Nat}{k C:Nat}(h:BackInv o1 os ys k C) (hk:k<o1.length) (hx:Lim 4294967296 o1) (hy:Lim 4294967296 ys):
  BackInv o1 (os.set k (bX (nth o1 k+nth ys k+C))) ys (k+1) (eA (nth o1 k+nth ys k+C)):=
 ⟨h.1.step (by rw[h.2.1];exact hk) hx hy,by rw[List.length_set];exact h.2.1,fun j hj=>by rw[eM (by omega)];exact h.2.2 j (by omega)⟩
def Gi (t:TypeId) (g off N c base n:Nat) (ax ys:List Nat) (w:World) (e:Ending) (w':World):Prop:=
 ∃os,e=.returned (.int .u32 ((vl 4294967296 ((ax.drop off).take n)/vl 4294967296 ys:Nat):Int))∧Own t w' base (some ⟨g,0,none⟩) N c os∧os.take off=ax.take off∧
  (∀j,off+n≤j→nth os j=nth ax j)∧vl 4294967296 ((os.drop off).take n)=vl 4294967296 ((ax.drop off).take n)%vl 4294967296 ys∧w.grownBy w' (some g)
set_option maxHeartbeats 2000000 in
theorem Dj (g off N m c d cc q:Nat) (B:Option Addr) (ax ys:List Nat) (n base:Nat) (w:World) (ha:Own 22 w base (some ⟨g,0,none⟩) N c ax) (hoff:off+n≤N) (hN:N≤1099511627776)
  (hb:U32 w g B m d ys) (hm:m<n) (hq:q≤4294967295) (hv:0<vl 4294967296 ys)
  (hq1:vl 4294967296 ((ax.drop off).take n)/vl 4294967296 ys≤q) (hq2:q≤vl 4294967296 ((ax.drop off).take n)/vl 4294967296 ys+1):
  Calls Tryz.prog 97 #[.slice (some ⟨g,off,none⟩) n cc,.slice B m d,.int .u64 (q:Int)] w (Gi 22 g off N c base n ax ys w):=by
 have HA:=Lib.hid ha.len
 have HB:=Lib.hid hb.len
 have hgs:g≤w.heap.size:=by
  obtain⟨g2,e,_,h2⟩:=ha.form (by omega)
  injection e with e;injection e with e;omega
 go_enter Tryz.func97,Tryz.ntmps97
 go_wp2_with fail
 go_loopw [7,8,18] (fun cy bo i wr=>∃(k C b:Nat) (os:List Nat),k≤n∧i=.int .i64 (k:Int)∧cy=.int .u64 (C:Int)∧bo=.int .u64 (b:Int)∧Own 22 wr base (some ⟨g,0,none⟩) N c os∧Hid (os.take off=ax.take off)∧TakeInv (ax.drop off) (os.drop off) ys q k C b∧w.grownBy wr (some g)) (fun _ _ i _=>n-(intOf i).toNat)
 case atStart=>exact⟨0,0,0,ax,Nat.zero_le _,rfl,rfl,rfl,ha,rfl,TakeInv.zero _ _ _,qQ _ _⟩
 case round=>
  obtain⟨k,C,b,os,hk,rfl,rfl,rfl,hown,ht,hI,hgr⟩:=hrel
  have hbw:=jX hgr hgs
  by_cases hlt:k<n
  ·have ho1:=hown.cell (show off+k<N by omega)
   have ho2:=hown.frozen (off+k)
   have ho3:=hown.lim.nth (by omega) (off+k)
   have hC:=hI.1
   have hb1:=hI.2.1
   have hat:=hI.at_
   rw[cV,cV]at hat
   have Hat:=Lib.hid hat
   have hset:=hown.set (off+k) (v:=gI (nth os (off+k)) (bX (q*nth ys k+C)) b) (Gf _ _ _)
   have hstep:=hI.step (by rw[List.length_drop,HA.out];omega) hq (ha.lim.drop off) hb.lim
   rw[cV,←hat,←mZ]at hstep
   clear hat
   have hts:=nA os off k (gI (nth os (off+k)) (bX (q*nth ys k+C)) b)
   rw[ht.out]at hts
   have Hts:=Lib.hid hts
   clear hts
   by_cases hkm:k<m
   ·obtain⟨b2,o2,sp2,rfl,hbb2,hcc2⟩:=(hb.below hbw).at_ hkm
    have hy1:=hb.lim.nth (by omega) k
    obtain⟨p0,p1⟩:=wT hq hy1
    go_wp2_with fail
    go_roundw
    case rel=>
     rw[wU (nth os (off+k)) (q*nth ys k+C) b ((q:Int)*(nth ys k:Int)+(C:Int)) (by simp) ho3 hb1,uF (nth os (off+k)) (q*nth ys k+C) b ((q:Int)*(nth ys k:Int)+(C:Int)) (by simp) ho3 hb1]
     exact⟨k+1,_,_,_,by omega,by go_num,rfl,rfl,hset,Hts,hstep,gW hgr _ _⟩
    case measure=>simp[intOf];omega
   have hy0:nth ys k=0:=cM (by rw[HB.out];omega)
   rw[hy0,Nat.mul_zero,Nat.zero_add]at hset hstep Hts
   clear hy0
   go_wp2_with fail
   go_roundw
   case rel=>
    rw[Di (nth os (off+k)) C b ho3 hC hb1,Bc (nth os (off+k)) C b ho3 hC hb1]
    exact⟨k+1,_,_,_,by omega,by go_num,rfl,rfl,hset,Hts,hstep,gW hgr _ _⟩
   case measure=>simp[intOf];omega
  obtain rfl:k=n:=by omega
  have hb1:=hI.2.1
  have hhi:∀j,off+k≤j→nth os j=nth ax j:=fun j hj=>by
   have:=hI.2.2.2.2.1 (j-off) (by omega)
   rwa[cV,cV,show off+(j-off)=j by omega]at this
  have Hhi:=Lib.hid hhi
  clear hhi
  rcases(show b=0∨b=1 by omega)with rfl | rfl
  ·obtain⟨r1,r2⟩:=hI.right (by rw[HB.out];exact hm) hq1 hv
   have R1:=Lib.hid r1
   have R2:=Lib.hid r2
   clear r1 r2 hI hq1 hq2
   go_wp2_with fail
   go_ret
   exact⟨os,by rw[←R1.out];rfl,hown,ht.out,Hhi.out,R2.out,hgr⟩
  obtain⟨hq0,r1,r2⟩:=hI.over (by rw[HB.out];exact hm) (by rw[List.length_drop,hown.len];omega) (hown.lim.drop off) hb.lim hq2 hv
  have R1:=Lib.hid r1
  have R2:=Lib.hid r2
  have HO:=Lib.hid hown.len
  have hol:=hown.lim.drop off
  clear r1 r2 hI hq1 hq2
  obtain⟨wo,rfl⟩:∃wo:World,wo=wr:=⟨_,rfl⟩
  rw[show((1:Nat):Int)=1 from rfl]
  go_wp2_with fail
  go_loopw [13,62] (fun cy i wr=>∃(j C2:Nat) (oz:List Nat),j≤k∧i=.int .i64 (j:Int)∧cy=.int .u32 (C2:Int)∧Own 22 wr base (some ⟨g,0,none⟩) N c oz∧Hid (oz.take off=ax.take off)∧BackInv (os.drop off) (oz.drop off) ys j C2∧w.grownBy wr (some g)) (fun _ i _=>k-(intOf i).toNat)
  case atStart=>exact⟨0,0,os,Nat.zero_le _,rfl,rfl,hown,ht,BackInv.zero _ _,hgr⟩
  case round=>
   obtain⟨j,C2,oz,hj,rfl,rfl,hown2,ht2,hK,hgr2⟩:=hrel
   have hbw2:=jX hgr2 hgs
   by_cases hlj:j<k
   ·have ho1:=hown2.cell (show off+j<N by omega)
    have ho2:=hown2.frozen (off+j)
    have ho3:=hown2.lim.nth (by omega) (off+j)
    have hC2:=hK.1.le
    have hat:=hK.at_
    rw[cV,cV]at hat
    have hset:=hown2.set (off+j) (v:=bX (nth oz (off+j)+nth ys j+C2)) (mR _)
    have hstep:=hK.step (by rw[List.length_drop,HO.out];omega) hol hb.lim
    rw[cV,←hat,←mZ]at hstep
    clear hat
    have hts:=nA oz off j (bX (nth oz (off+j)+nth ys j+C2))
    rw[ht2.out]at hts
    have Hts:=Lib.hid hts
    clear hts
    by_cases hkm:j<m
    ·obtain⟨b2,o2,sp2,rfl,hbb2,hcc2⟩:=(hb.below hbw2).at_ hkm
     have hy1:=hb.lim.nth (by omega) j
     go_wp2_with fail
     refine(jB _ _ _ _ ho3 hy1 (by omega)).mono ?_
     rintro e w' ⟨rfl,rfl⟩
     go_wp2_with fail
     go_roundw
     case rel=>exact⟨j+1,_,_,by omega,by go_num,rfl,hset,Hts,hstep,gW hgr2 _ _⟩
     case measure=>simp[intOf];omega
    have hy0:nth ys j=0:=cM (by rw[HB.out];omega)
    rw[hy0]at hset hstep Hts
    clear hy0
    go_wp2_with fail
    refine(jB _ 0 _ _ ho3 (by omega) (by omega)).mono ?_
    rintro e w' ⟨rfl,rfl⟩
    go_wp2_with fail
    go_roundw
    case rel=>exact⟨j+1,_,_,by omega,by go_num,rfl,hset,Hts,hstep,gW hgr2 _ _⟩
    case measure=>simp[intOf];omega
   obtain rfl:j=k:=by omega
   have h1:vl 4294967296 ((oz.drop off).take j)=vl 4294967296 ((ax.drop off).take j)%vl 4294967296 ys:=by
    refine R2.out _ C2 ?_ hK.1.le ?_
    ·have:=cW ((hown2.lim.drop off).take j)
     rwa[List.length_take,List.length_drop,hown2.len,Nat.min_eq_left (by omega)]at this
    have:=hK.1.2
    rwa[aL 4294967296 (l:=ys) (by rw[HB.out];omega)]at this
   have H1:=Lib.hid h1
   have h2:∀i,off+j≤i→nth oz i=nth ax i:=fun i hi=>by
    have:=hK.2.2 (i-off) (by omega)
    rw[cV,cV,show off+(i-off)=i by omega]at this
    rw[this];exact Hhi.out i hi
   have H2:=Lib.hid h2
   clear h1 h2 hK
   go_wp2_with fail
   go_ret
   exact⟨oz,by rw[←R1.out];go_num,hown2,ht2.out,H2.out,H1.out,hgr2⟩
end Go.Proofs.YteggpgndiajdpaaGreatDoor
namespace Go.Proofs.YteggpgndiajdpaaGreatDoor
open Go Go.Shelf
def laysLz_ren:Go.Shelf.Ren:=⟨fun | 133=>94 | 128=>130 | n=>n,fun | 51=>22 | 3=>3 | 4=>4 | 46=>85 | 5=>5 | 9=>9 | n=>n,fun | n=>n⟩
theorem Bd:Go.Proofs.Lays.n133 Tryz.prog laysLz_ren:={
 mixed:=by kernel_rfl
 f128:=Tryz.func130.trans (congrArg some (by kernel_rfl))
 f133:=Tryz.func94.trans (congrArg some (by kernel_rfl))
 t3:=Tryz.underlying3
 a3:=Tryz.isAgg3
 z3:=Tryz.sizeOf3
 v3:=Tryz.zeroValue3
 t4:=Tryz.underlying4
 a4:=Tryz.isAgg4
 z4:=Tryz.sizeOf4
 v4:=Tryz.zeroValue4
 t5:=Tryz.underlying5
 a5:=Tryz.isAgg5
 z5:=Tryz.sizeOf5
 v5:=Tryz.zeroValue5
 t9:=Tryz.underlying9
 a9:=Tryz.isAgg9
 z9:=Tryz.sizeOf9
 v9:=Tryz.zeroValue9
 t46:=Tryz.underlying85
 a46:=Tryz.isAgg85
 z46:=Tryz.sizeOf85
 v46:=Tryz.zeroValue85
 t51:=Tryz.underlying22
 a51:=Tryz.isAgg22
 z51:=Tryz.sizeOf22
 v51:=Tryz.zeroValue22}
theorem jR:∀(f x:Nat),x<2^f→x≠0→0<Lib.bitLenAux f x∧2^(Lib.bitLenAux f x-1)≤x∧x<2^Lib.bitLenAux f x∧Lib.bitLenAux f x≤f
 | 0,x,h,h0=>by simp at h;exact absurd h h0
 | f+1,x,h,h0=>by
  simp only[Lib.bitLenAux,if_neg h0]
  by_cases h1:x/2=0
  ·rw[h1]
   have:x=1:=by omega
   subst this
   cases f <;> simp[Lib.bitLenAux]
  obtain⟨a,b,c,d⟩:=jR f (x/2) (by rw[Nat.pow_succ]at h;omega) h1
  generalize Lib.bitLenAux f (x/2)=k at*
  have e:2^k=2*2^(k-1):=by
   rw[←Nat.pow_succ',show(k-1).succ=k by omega]
  refine⟨by omega,?_,?_,by omega⟩
  ·rw[show 1+k-1=k by omega];omega
  rw[Nat.add_comm,Nat.pow_succ];omega
theorem rL {x:Nat}(h:x<4294967296) (h0:x≠0):∃k:Nat,(32:Int)-(Lib.bitLen x:Int)=(k:Int)∧k<32∧2147483648≤x*2^k∧x*2^k<4294967296:=by
 have hx:x<2^64:=Nat.lt_trans h (by decide)
 obtain⟨a,b,c,_⟩:=jR 64 x hx h0
 have hl:Lib.bitLen x≤32:=Lib.bitLen_le x 32 (by omega) (by omega)
 have hd:Lib.bitLen x=Lib.bitLenAux 64 x:=rfl
 rw[←hd]at a b c
 generalize Lib.bitLen x=l at*
 have e1:2^(l-1)*2^(32-l)=2147483648:=by
  rw[←Nat.pow_add,show l-1+(32-l)=31 by omega]
 have e2:2^l*2^(32-l)=4294967296:=by
  rw[←Nat.pow_add,show l+(32-l)=32 by omega]
 have hp:0<2^(32-l):=Nat.pos_of_ne_zero (by simp)
 refine⟨32-l,by omega,by omega,?_,?_⟩
 ·rw[←e1];exact Nat.mul_le_mul_right _ b
 rw[←e2];exact Nat.mul_lt_mul_of_pos_right c hp
theorem bits_LeadingZeros32 (x:Nat) (w:World) (h:x<4294967296) (h0:x≠0):
  ∃k:Nat,k<32∧2147483648≤x*2^k∧x*2^k<4294967296∧
   Calls Tryz.prog 94 #[.int .u32 (x:Int)] w fun e w'=>e=.returned (.int .i64 (k:Int))∧w=w':=by
 obtain⟨k,e,k1,k2,k3⟩:=rL h h0
 refine⟨k,k1,k2,k3,(Any.bits_LeadingZeros32 Bd (x:Int) w (by omega) (by omega)).mono fun _ _ ⟨h1,h2⟩=>⟨?_,h2.symm⟩⟩
 rw[h1,←e]
 rfl
end Go.Proofs.YteggpgndiajdpaaGreatDoor
