/- Part 5 of a proof: We to Limb6. -/
import Derived.Test.YtcaakamelngceaaGreatDoorM4
import Derived.WalkKit
import Derived.ProofKit
import Derived.OpenShut
import Derived.ChangeOld
import Derived.Below
import Derived.Carry
import Derived.Laws.BytesArg
import Derived.Lib.ConvBytes
import Derived.Lib.SmallJoins
import Derived.Stop.IfaceNil
import Derived.Test.YtcaakamelngceaaGreatDoorProg
import Derived.WalkSpells
import Derived.WalkLawsBesides
import Derived.Deep.QuietTactic
import Derived.BigQuiet
import Derived.Test.YtcaakamelngceaaGreatDoorM1
import Derived.Lib.SliceRun
import Derived.KernelRfl
import Derived.Deep.RegionWith
set_option maxRecDepth 100000
set_option linter.unusedVariables false
set_option linter.unusedSimpArgs false
namespace Go.Proofs.YtcaakamelngceaaGreatDoor
open Go Go.RowKit
section
variable {x:Cx}{g:Nat→FV}{ob ob':List (Option Ob)}{Q:Post}{ops:Array Oper}{rest:List Oper}{d:Nat}{op:Op}{ty:TypeId}{pos:String}{af:Array Edge}{gd:Option (Nat×Bool)}{C:Prop}{v:FV}
theorem cl {fresh:Bool}{f:FuncId}{lent lent':List Lt}{args:List FV}{r:FV}{os:List Ob}{aa:Array Operand}{ats:Array TypeId}(key:Nat) (K:List Nat) (hS:aE fresh x.P f lent args (Rt lent' r)) (hf:CallOk x.P f) (hK:eG ob K K lent) (ha:mA x.n g K aa.toList args){ok:List (Option Ob)}(hbk:dL K lent' ok) (k:WL x ops rest (aM g d v) (aY ob K ok++os.map some) Q) (hw:aO ops x.n g gd=some true:=by rfl) (hk:dF ob key=true:=by rfl) (hnd:K.Nodup:=by decide) (hb:iL key r=some (v,os):=by rfl):
  WL x ops (⟨some d,.call ⟨.value (.func f),aa,ats⟩,ty,pos,af,gd⟩::rest) g ob Q:=by
 have e:dC []++args++dC []=args:=by simp[dC]
 refine eO (pG (by rw[e];exact hS) hf (Id f) hK hnd ha hk (by rintro _ _ ⟨rfl,rfl⟩ _;exact⟨by rw[hb];rfl,ok,hbk⟩)) hw ?_
 rintro _ _ ⟨l,r',v',os',ok',⟨rfl,rfl⟩,_,h,h9,rfl,rfl⟩
 obtain rfl:=qW hbk h9
 rw[hb]at h
 injection h with h
 injection h with h1 h2
 subst h1 h2
 exact k
theorem ce {fresh:Bool}{f:FuncId}{al:List FV}{fst caps:List Tr}{r:FV}{os:List Ob}{cf:Operand}{aa:Array Operand}{ats:Array TypeId}(key:Nat) (args:List FV) (hc:lk x.n g cf=.one (.t (.f f fst caps))) (hS:aE fresh x.P f [] al (aI r)) (hf:CallOk x.P f) (ha:mA x.n g [] aa.toList args) (k:WL x ops rest (aM g d v) (ob++os.map some) Q) (hw:aO ops x.n g gd=some true:=by rfl) (hk:dF ob key=true:=by rfl) (hb:iL key r=some (v,os):=by rfl) (he:dC fst++args++dC caps=al:=by rfl):
  WL x ops (⟨some d,.call ⟨.value cf,aa,ats⟩,ty,pos,af,gd⟩::rest) g ob Q:=by
 subst he
 refine eO (pG hS hf (Ie hc) (K:=[]) rfl (by simp) ha hk (by rintro l _ rfl h0;obtain rfl:=List.eq_nil_of_length_eq_zero h0;exact⟨by rw[hb];rfl,[],rfl⟩)) hw ?_
 rintro _ _ ⟨l,r',v',os',ok',rfl,_,h,_,rfl,rfl⟩
 rw[hb]at h
 injection h with h
 injection h with h1 h2
 subst h1 h2
 simpa only[aY]using k
theorem nq {t e z by_ m:Nat}{zz:Value}{ti:Bool}{ts0:Nat}{z0:List Value}{a:Operand}{t2:TypeId}(k1:m=0→WL x ops rest (aM g d (.one (tv (.bool true)))) ob Q) (k2:WL x ops rest (aM g d (.one (tv (.bool false)))) ob Q) (hT:bG x.P ttab:=by exact aB) (ht:aS ttab t=some ⟨ti,ts0,z0,.sl e z by_ zz⟩:=by rfl) (ha:gY (lk x.n g a)=some m:=by rfl) (hw:aO ops x.n g gd=some true:=by rfl):
  WL x ops (⟨some d,.binOp .eql t a (.const (.slice none 0 0)) t2,ty,pos,af,gd⟩::rest) g ob Q:=
 eO (Zh hT ht ha) hw (by
  rintro _ _ ⟨q,h,rfl,rfl⟩
  cases q with
  | true=>exact k1 (h rfl)
  | false=>exact k2)
theorem clear {t e z by_ ky o n t' z':Nat}{zz:Value}{ti:Bool}{ts0:Nat}{z0:List Value}{l l':List AV}{a:Operand}(hle:o+n*z≤l.length) (hl:cE l o ((fH zz.cells.toList n).map tv)=l') (k:WL x ops rest g (ob.set ky (some ⟨t',z',l'⟩)) Q) (hT:bG x.P ttab:=by exact aB) (ht:aS ttab t=some ⟨ti,ts0,z0,.sl e z by_ zz⟩:=by rfl) (ha:lk x.n g a=.one (.sl ky o n):=by rfl) (ho:bN ob ky=some ⟨t',z',l⟩:=by rfl) (hlo:cH (zz.cells.toList.map tv)=true:=by rfl) (hw:aO ops x.n g gd=some true:=by rfl):
  WL x ops (⟨none,.call ⟨.builtin .clear, #[a], #[t]⟩,ty,pos,af,gd⟩::rest) g ob Q:=
 eO (Zj hT ht ha ho hle hlo) hw (by rintro _ _ ⟨rfl,rfl⟩;subst hl;exact k)
variable {late:Nat→Bool}{K fr:List Nat}{on:Bool}{fuel:Nat}{listed:Array Bool}
theorem eC {t:Nat}{ti:TI}{a:Operand}(i:Nat) (k:WD x ops Q late K (d::fr) true fuel (listed.setIfInBounds i true) (aM g d v) ob) (hT:bG x.P ttab:=by exact aB) (hi:ops[i]? =some ⟨some d,.load t a,ty,pos,af,gd⟩:=by rfl) (hw:aO ops x.n g gd=some true:=by rfl) (hti:aS ttab t=some ti:=by rfl) (h:nR ob ti (lk x.n g a)=some (C,v):=by rfl):WO x ops Q late K fr true fuel listed i g ob:=
 Hv (v:=v) i hi rfl hw (Hk hT hti h) (by rintro _ _ ⟨rfl,rfl⟩;exact⟨rfl,fun _ _=>rfl⟩) (by rintro _ _ ⟨rfl,rfl⟩;exact k)
theorem FP {fresh:Bool}{f:FuncId}{al:List FV}{fst caps:List Tr}{r:FV}{cf:Operand}{aa:Array Operand}{ats:Array TypeId}(i key:Nat) (args:List FV) (hi:ops[i]? =some ⟨some d,.call ⟨.value cf,aa,ats⟩,ty,pos,af,gd⟩) (hc:lk x.n g cf=.one (.t (.f f fst caps))) (hS:aE fresh x.P f [] al (aI r)) (hf:CallOk x.P f) (ha:mA x.n g [] aa.toList args) (k:WD x ops Q late K (d::fr) true fuel (listed.setIfInBounds i true) (aM g d v) ob) (hr:Region.ready .any ops listed=[i]:=by kernel_rfl) (hw:aO ops x.n g gd=some true:=by rfl) (hk:dF ob key=true:=by rfl) (hb:iL key r=some (v,[]):=by rfl) (he:dC fst++args++dC caps=al:=by rfl):
  WD x ops Q late K fr true (fuel+1) listed g ob:=by
 subst he
 refine Ig i hr hi rfl hw (pG hS hf (Ie hc) (K:=[]) rfl (by simp) ha hk (by rintro l _ rfl h0;obtain rfl:=List.eq_nil_of_length_eq_zero h0;exact⟨by rw[hb];rfl,[],rfl⟩)) (by simp) ?_ ?_
 ·rintro _ _ ⟨l,r',v',os',ok',rfl,_,h,_,rfl,rfl⟩
  rw[hb]at h
  injection h with h
  injection h with h1 h2
  subst h1 h2
  simp only[List.map_nil,List.append_nil,aY]
  exact⟨⟨_,rfl⟩,fun _ _=>by trivial⟩
 rintro _ _ ⟨l,r',v',os',ok',rfl,_,h,_,rfl,rfl⟩
 rw[hb]at h
 injection h with h
 injection h with h1 h2
 subst h1 h2
 simpa only[List.map_nil,List.append_nil,aY]using k
theorem Bt {m:Nat}(h0:x.c0.length=m) (τ:List Nat) (live:List (Nat×FV)) (os:List Ob) (hn:τ.Nodup) (ht:τ.take m=List.range m) (h1:qN τ g live) (h2:fD τ ob τ os):Sub x g ob (dD live) (os.map some):=
 su τ (fun k hk=>by
  rw[h0]at hk
  have h3:=congrArg (·[k]?) ht
  simpa[List.getElem?_take,hk]using h3) live os hn h1 h2
theorem IK {i k:Nat}{a0:AV}{y:Tr}{o:Ob}{fv fv':FV}(hi:Nat.blt i x.n=true) (hg:g i=fv) (ho:bN ob k=some o) (hf:FzF a0 y fv fv') (key:Hq x g ob k o a0 y) (hfr:fr.any (Nat.beq i)=true) (hK:K.contains k=false) (kk:WD x ops Q late K fr on fuel listed (aM g i fv') (ob.set k none)):WD x ops Q late K fr on fuel listed g ob:=fun Kp W1 cs ts W hR h1 h2 h3=>by
 obtain⟨m1,m2⟩:=At hi hg ho hf hR (key _ _ _ hR)
 have hne:∀k'∈K,k≠k':=fun k' hk' e=>by
  subst e
  have:K.contains k=true:=by simpa using hk'
  rw[hK]at this
  cases this
 refine kk Kp W1 cs ts W m1 h1 h2 fun hon=>?_
 have hk:=h3 hon
 refine⟨hk.same,fun b hb=>?_,fun k' hk' o' ho'=>?_,fun j hj=>?_⟩
 ·rcases hk.free b hb with h4 | ⟨k2,hk2,o2,ho2,hb2⟩
  ·refine .inl fun hm=>h4 ?_
   have e:=wM (r':=aF none (co cs k)) (aT hR.len (cD ho)) b
   have e1:(aC ob cs).set k (aF none (co cs k))=aC (ob.set k none) cs:=by
    have h5:=jO (ob:=ob) (cs:=cs) (k:=k) (o:=none) (c:=co cs k)
    rw[nU (by have:=(List.getElem?_eq_some_iff.1 (cD ho)).1;have:=hR.len;omega)]at h5
    exact h5.symm
   have e2:(aF none (co cs k)).S=[]:=by cases hb:(co cs k).b <;> simp[aF]
   rw[e1,e2,List.count_nil]at e
   have h6:=List.count_pos_iff.2 hm
   unfold bP at h6⊢
   exact List.count_pos_iff.1 (by omega)
  exact .inr ⟨k2,hk2,o2,by rw[List.getElem?_set_ne (hne k2 hk2)];exact ho2,hb2⟩
 ·rw[List.getElem?_set_ne (hne k' hk')]at ho'
  obtain⟨q1,q2⟩:=hk.ks k' hk' o' ho'
  exact⟨q1,bZ (fun _ _=>rfl) (fun b hb=>⟨m2 b hb.1,hb.2⟩) .refl _ _ q2⟩
 obtain⟨u,q1,q2⟩:=hk.fv j hj
 refine⟨u,q1,?_⟩
 unfold kT at q2⊢
 cases hq:fr.any (Nat.beq j)with
 | true=>simp[aR,bB]
 | false=>
  rw[hq]at q2
  have hji:Nat.beq j i=false:=by
   cases hb:Nat.beq j i
   ·rfl
   rw[Nat.eq_of_beq_eq_true hb]at hq
   rw[hq]at hfr
   cases hfr
  simp only[cond_false,aM,hji]at q2⊢
  exact dH (fun _ _=>rfl) (fun b hb=>⟨m2 b hb.1,hb.2⟩) .refl _ _ q2
theorem Xl {i k t z n t':Nat}{l:List Tr}{fv fv':FV}(hi:Nat.blt i x.n=true) (hg:g i=fv) (ho:bN ob k=some ⟨t,z,l.map .t⟩) (hz:l.length=n*z) (hf:FzF (.sl k 0 n) (.s false t' z n l) fv fv') (hfr:fr.any (Nat.beq i)=true) (hK:K.contains k=false) (kk:WD x ops Q late K fr on fuel listed (aM g i fv') (ob.set k none)):WD x ops Q late K fr on fuel listed g ob:=IK hi hg ho hf (Au t' ho hz) hfr hK kk
end
end Go.Proofs.YtcaakamelngceaaGreatDoor
namespace Go.Proofs.YtcaakamelngceaaGreatDoor
open Go Go.ChangeShapes Go.WideShapes Go.ChangeAt Go.RowKit
def sH (w:World) (b:Nat):Prop:=b<w.heap.size
theorem Nk {P:Program}{f:FuncId}{args:List FV}{b:Bool}{us:List Value}{W:World}(h:aE true P f [] args (aI (.one (tv (.bool b))))) (ha:cA W (sH W) [] args us):Calls P f us.toArray W (fun e W'=>e=.returned (.bool b)∧Below W.heap.size W W'):=by
 have h1:=h (sH W) W [] us ⟨Chg.refl _ _,by simp[aL,aC],by simp[aL,aC],by simp[aL,aC],fun q hq=>by
  simp at hq
  subst hq
  refine⟨⟨rfl,fun k o hk=>by simp[aL]at hk⟩,?_⟩
  exact iG (fun _ _=>rfl) (fun b hb=>⟨⟨hb,by simp[aL,aC]⟩,hb⟩) .refl _ _ ha⟩
 refine h1.mono fun e W' hE=>?_
 obtain⟨v,lent',cs',r,ys,rfl,⟨_,rfl⟩,hl,_,hcl,_,hL⟩:=hE
 obtain rfl:lent'=[]:=List.eq_nil_of_length_eq_zero hl
 obtain rfl:cs'=[]:=List.eq_nil_of_length_eq_zero hcl
 refine⟨?_,⟨hL.chg.os,hL.chg.tape,hL.chg.output,hL.chg.size,fun k hk=>hL.chg.block k hk (by simp[aL,aC])⟩⟩
 have h2:=(Sh.off (hL.sh 0 rfl)).2
 obtain⟨z,rfl,rfl,h3⟩:=h2
 simp only[tv,CR,OR]at h3
 subst h3
 rfl
end Go.Proofs.YtcaakamelngceaaGreatDoor
namespace Go.Proofs.YtcaakamelngceaaGreatDoor
open Go Go.RowKit
def Pe (P:Program) (t n:Nat):Prop:=∃e,P.underlying t=some (.array n e)∧Ty1 P e
section
variable {P:Program}{w:World}{ρ:Operand→Value}{d:Option Nat}{ty:TypeId}{pos:String}{af:Array Edge}{gd:Option (Nat×Bool)}
theorem La {t n:Nat}{z us:List Value}{parts:Array (Nat×Operand)}{ps:List (Nat×Value)}(hT:Pe P t n) (hZ:TyZ P t z) (hps:(parts.map fun x=>(x.1,ρ x.2))=ps.toArray) (hf:fC (fun i=>some (i*1,1)) z ps=some us):
  (execOp ρ ⟨d,.build t parts,ty,pos,af,gd⟩).run P w=.ok (.value (.agg us.toArray)) w:=by
 obtain⟨e,e1,hu⟩:=hT
 obtain⟨dd,i',h8,h9,h10,h11⟩:=hu
 obtain⟨i,v,h3,h4,h5⟩:=hZ
 have hf':=rM _ ps z us hf
 simp only[Nat.mul_one]at hf'
 have hps':(parts.map fun(x:Nat×Operand)=>match x with | (i,x)=>(i,ρ x))=ps.toArray:=hps
 simp[execOp,Instr.build,zeroValue,sizeOf,typeInfo,h3,h4,run_underlying e1,hps',h5,h10,h11,hf']
end
def pH:List AV→List (Nat×FV)→Option (List AV)
 | l,[]=>some l
 | l,(i,.one a)::r=>match lone a&&Nat.blt i l.length with
  | true=>pH (l.set i a) r
  | false=>none
 | _,_=>none
section
variable {W:World}{N:Nat→Prop}{cs:List Co}
theorem Fs {a:AV}{u:Value}(ha:AR W N cs a u):∀{l:List AV}{us:List Value}{p:Nat},ARL W N cs l us→ARL W N cs (l.set p a) (us.set p u)
 | [],us,p,h=>by
  simp only[ARL]at h
  subst h
  simp[ARL]
 | b::l,[],p,h=>by simp only[ARL]at h
 | b::l,z::us,0,h=>by
  simp only[ARL]at h
  simp only[List.set_cons_zero,ARL]
  exact⟨ha,h.2⟩
 | b::l,z::us,p+1,h=>by
  simp only[ARL]at h
  simp only[List.set_cons_succ,ARL]
  exact⟨h.1,Fs ha h.2⟩
theorem Ft:∀{ps:List (Nat×FV)}{vs:List (Nat×Value)}{l l':List AV}{us:List Value},ARL W N cs l us→pH l ps=some l'→ps.length=vs.length→
  (∀(j:Nat) (p:Nat×FV) (q:Nat×Value),ps[j]? =some p→vs[j]? =some q→p.1=q.1∧aR W N cs p.2 q.2)→∃us',ARL W N cs l' us'∧fC (fun i=>some (i*1,1)) us vs=some us'
 | [],vs,l,l',us,hc,h,hl,_=>by
  obtain rfl:vs=[]:=List.eq_nil_of_length_eq_zero hl.symm
  simp only[pH,Option.some.injEq]at h
  subst h
  exact⟨us,hc,rfl⟩
 | (i,fv)::ps,vs,l,l',us,hc,h,hl,hp=>by
  obtain⟨⟨i',u⟩,vs,rfl⟩:∃q vs',vs=q::vs':=by
   cases vs with
   | nil=>simp at hl
   | cons q vs=>exact⟨q,vs,rfl⟩
  obtain⟨e0,h0⟩:=hp 0 _ _ rfl rfl
  dsimp only at e0 h0
  subst e0
  cases fv with
  | one a=>
   unfold pH at h
   cases hq:lone a&&Nat.blt i l.length with
   | false=>rw[hq]at h;cases h
   | true=>
    rw[hq]at h
    simp only[Bool.and_eq_true]at hq
    have hi:i<us.length:=by
     have h9:=hq.2
     rw[dT hc]
     simpa[Nat.blt,Nat.lt_iff_add_one_le]using h9
    have hu:u.cells.toList=[u]:=by rw[oY (cs:=cs) h0 hq.1]
    obtain⟨us',r1,r2⟩:=Ft (us:=us.set i u) (Fs h0 hc) h (by simpa using hl) (fun j p q h1 h2=>hp (j+1) p q (by simpa using h1) (by simpa using h2))
    refine⟨us',r1,?_⟩
    unfold fC
    dsimp only
    have e2:jX us (i*1) u.cells.toList=us.set i u:=by
     rw[hu,Nat.mul_one]
     unfold jX
     rw[List.set_eq_take_append_cons_drop,if_pos hi]
     simp
    have e3:(Nat.beq u.cells.toList.length 1&&Nat.ble (i*1+u.cells.toList.length) us.length)=true:=by
     rw[hu]
     simp
     omega
    rw[e2,e3]
    exact r2
  | any=>simp[pH]at h
  | agg _=>simp[pH]at h
  | tup _=>simp[pH]at h
end
section
variable {x:Cx}{g g':Nat→FV}{ob ob':List (Option Ob)}{cs cs':List Co}{ts ts':Array Value}{W W':World}{T:List (Nat×TI)}{Q:Post}{ops:Array Oper}{rest:List Oper}{d:Nat}{op:Op}{ty:TypeId}{pos:String}{af:Array Edge}{gd:Option (Nat×Bool)}{v:FV}
theorem ED {t n:Nat}{ti:Bool}{sz:Nat}{z:List Value}{kd:TK}{ps:Array (Nat×Operand)}{l:List AV}(hT:bG x.P T) (ht:aS T t=some ⟨ti,sz,z,kd⟩) (hA:Pe x.P t n) (h:pH (z.map tv) (ps.toList.map fun p=>(p.1,lk x.n g p.2))=some l):
  OS x ⟨some d,.build t ps,ty,pos,af,gd⟩ g ob [] (fun g' ob'=>g'=aM g d (.agg l)∧ob'=ob):=Km fun cs ts W hR=>by
 have hi:=bR hT ht
 obtain⟨us',h1,h2⟩:=Ft (W:=W) (N:=x.fr W ob cs) (cs:=cs) (us:=z) (vs:=ps.toList.map fun p=>(p.1,Act.eval ⟨ts,[]⟩ p.2)) (iB z) h (by simp) (fun j p q hp hq=>by
  simp only[List.getElem?_map,Option.map_eq_some_iff]at hp hq
  obtain⟨a,ha,rfl⟩:=hp
  obtain⟨b,hb,rfl⟩:=hq
  rw[ha]at hb
  injection hb with hb
  subst hb
  exact⟨rfl,hR.lk _⟩)
 exact⟨.agg us'.toArray,fun W'=>La hA hi.2.2.1 (ps:=ps.toList.map fun p=>(p.1,Act.eval ⟨ts,[]⟩ p.2)) (by apply Array.ext';simp only[Array.toList_map]) h2,us',rfl,h1⟩
theorem bA {t n:Nat}{ti:Bool}{sz:Nat}{z:List Value}{kd:TK}{ps:Array (Nat×Operand)}{l:List AV}(hA:Pe x.P t n) (k:WL x ops rest (aM g d (.agg l)) ob Q) (hT:bG x.P ttab:=by exact aB) (ht:aS ttab t=some ⟨ti,sz,z,kd⟩:=by rfl) (h:pH (z.map tv) (ps.toList.map fun p=>(p.1,lk x.n g p.2))=some l:=by rfl) (hw:aO ops x.n g gd=some true:=by rfl):
  WL x ops (⟨some d,.build t ps,ty,pos,af,gd⟩::rest) g ob Q:=eO (ED hT ht hA h) hw (by rintro _ _ ⟨rfl,rfl⟩;exact k)
inductive PutL (K:List Nat):List AV→List AV→Prop
 | nil:PutL K [] []
 | sl {i k o n:Nat}{l l':List AV}(h:K[i]? =some k) (h':PutL K l l'):PutL K (.sl i o n::l) (.sl k o n::l')
variable {late:Nat→Bool}{K fr:List Nat}{on:Bool}{fuel:Nat}{listed:Array Bool}
theorem Rk {t key o t' z':Nat}{ti:TI}{a b:Operand}{l l' us:List AV}(i:Nat) (hl:cE l o us=l') (hle:o+us.length≤l.length) (k:WD x ops Q late K fr true fuel (listed.setIfInBounds i true) g (ob.set key (some ⟨t',z',l'⟩))) (hT:bG x.P ttab:=by exact aB) (hr:Region.ready .any ops listed=[i]:=by kernel_rfl) (hi:ops[i]? =some ⟨none,.store t a b,ty,pos,af,gd⟩:=by rfl) (hw:aO ops x.n g gd=some true:=by rfl) (hti:aS ttab t=some ti:=by rfl)
  (hlk:lk x.n g a=.one (.pt key o):=by rfl) (ho:bN ob key=some ⟨t',z',l⟩:=by rfl) (hb:qL (lk x.n g b)=some us:=by rfl) (hlo:cH us=true:=by rfl) (hsz:Nat.beq us.length ti.size=true:=by rfl) (hK:K.contains key=false:=by rfl):WD x ops Q late K fr true (fuel+1) listed g ob:=by
 have hne:∀j∈K,j≠key:=fun j hj e=>by
  subst e
  have:K.contains j=true:=by simpa using hj
  rw[hK]at this
  cases this
 refine Ey i hr hi hw (uK (ty:=ty) (pos:=pos) (af:=af) (gd:=gd) hT hti hlk hb hlo hsz ho hle hl) true (fun _=>⟨rfl,fun j hj hm=>?_⟩) (fun _=>rfl) (fun _ g' ob' hR=>?_) fun g' ob' hR=>?_
 ·rw[List.mem_singleton]at hm
  exact hne j hj hm
 ·obtain⟨rfl,rfl⟩:=hR
  exact⟨fun _ _=>rfl,fun j hj=>List.getElem?_set_ne (fun e=>hne j hj e.symm)⟩
 obtain⟨rfl,rfl⟩:=hR
 exact k
end
abbrev wU (x:Cx) (Q:Post):Post:=fun e g ob=>∃g' ob',Sub x g ob g' ob'∧Q e g' ob'
theorem WP.subQ {x:Cx}{c:Code}{g:Nat→FV}{ob:List (Option Ob)}{Q:Post}(h:WP x c g ob (wU x Q)):WP x c g ob Q:=fun ts W hR=>wp_mono (h ts W hR) fun e a w hq=>by
 cases e with
 | panic c=>exact hq
 | _=>
  obtain⟨g,ob,ts,rfl,h1,g',ob',hs,h2⟩:=hq
  exact⟨g',ob',ts,rfl,hs _ _ h1,h2⟩
theorem FQ {x:Cx}{e:Exit}{g g':Nat→FV}{ob ob':List (Option Ob)}{Q:Post}(h:Sub x g ob g' ob') (k:wU x Q e g' ob'):wU x Q e g ob:=by
 obtain⟨g2,ob2,h2,h3⟩:=k
 exact⟨g2,ob2,fun ts W hR=>h2 ts W (h ts W hR),h3⟩
theorem wV {x:Cx}{e:Exit}{g:Nat→FV}{ob:List (Option Ob)}{Q:Post}(h:Q e g ob):wU x Q e g ob:=⟨g,ob,fun _ _ h=>h,h⟩
theorem IL {T:List (Nat×TI)}{fresh:Bool}{P:Program}{f:FuncId}{fn:Func}{c:Code}{n:Nat}{rv:List ResultVar}{args:List FV}{R:List Lt→FV→Prop}(hf:P.funcs[f]? =some fn) (hb:fn.body=some c) (hn:fn.ntmps=n) (hrv:fn.results.toList=rv) (hT:bG P T) (hle:Nat.ble args.length n=true)
  (h:∀N w c0,c0.length=0→WP ⟨P,N,[],w,n,c0⟩ c (dD (iJ 0 args)) [] (wU ⟨P,N,[],w,n,c0⟩ (pA ⟨P,N,[],w,n,c0⟩ T rv fresh [] R))):aE fresh P f [] args R:=
 bQ hf hb hn hrv hT hle fun N w c0 h0=>(h N w c0 h0).subQ
def Lb (fresh:Bool) (N:Nat→Prop) (M:List Nat) (w:World) (R:FV→Prop) (e:Ending) (W:World):Prop:=
 ∃v r y,e=.returned v∧R r∧Loc M w W [dO y] [(FN fresh [] [] r v y).on (fun b=>N b∨b∈M∨w.heap.size≤b)]
def pI (fresh:Bool) (P:Program) (f:FuncId) (lent:List Lt) (args:List FV) (R:FV→Prop):Prop:=
 ∀(N:Nat→Prop) (w:World) (cs:List Co) (us:List Value),Loc ((aC (aL lent) cs).flatMap Res.S) w w (aC (aL lent) cs) [(Ks lent cs args us).on N]→
  Calls P f us.toArray w (Lb fresh N ((aC (aL lent) cs).flatMap Res.S) w R)
section
variable {x:Cx}{g g':Nat→FV}{ob ob':List (Option Ob)}{cs cs':List Co}{ts ts':Array Value}{W W':World}{T:List (Nat×TI)}{Q:Post}{ops:Array Oper}{rest:List Oper}{d:Nat}{op:Op}{ty:TypeId}{pos:String}{af:Array Edge}{gd:Option (Nat×Bool)}{v:FV}
theorem Pf {fresh:Bool}{P:Program}{f:FuncId}{fn:Func}{c:Code}{lent:List Lt}{args:List FV}{R:FV→Prop}(hf:P.funcs[f]? =some fn) (hb:fn.body=some c) (T:List (Nat×TI)) (hT:bG P T) (hle:Nat.ble args.length fn.ntmps=true)
  (h:∀x:Cx,x.P=P→x.n=fn.ntmps→x.c0.length=lent.length→WP x c (dD (iJ 0 args)) (aL lent) (pA x T fn.results.toList fresh [] fun _=>R)):pI fresh P f lent args R:=by
 intro N w cs us hL
 refine calls_of_wp hf hb ?_
 have hs0:=Sh.off (hL.sh 0 rfl)
 obtain⟨hobs,hfv⟩:=hs0
 have hus:=nV hfv
 have hle:args.length≤fn.ntmps:=Nat.le_of_ble_eq_true hle
 let x:Cx:=⟨P,N,(aC (aL lent) cs).flatMap Res.S,w,fn.ntmps,cs⟩
 have hNx:∀b,(iQ w (aC (aL lent) cs) b∧N b)→x.fr w (aL lent) cs b:=fun b hb=>⟨hb.1,.inl hb.2⟩
 have hsz:(us.toArray++Array.replicate (fn.ntmps-us.toArray.size) undef).size=fn.ntmps:=by simp;omega
 have hR:RelC x (dD (iJ 0 args)) (aL lent) cs (us.toArray++Array.replicate (fn.ntmps-us.toArray.size) undef) w:=by
  refine .of hsz hL ⟨hobs.1,fun k o hk=>⟨bZ (fun _ _=>rfl) hNx .refl _ _ (hobs.2 k o hk).1,(hobs.2 k o hk).2⟩⟩ (fun i hi=>?_) .refl
  have hi':i<(us.toArray++Array.replicate (fn.ntmps-us.toArray.size) undef).size:=by rw[hsz];exact hi
  refine⟨_,Array.getElem?_eq_getElem hi',?_⟩
  by_cases hu:i<us.length
  ·have:=tD (j:=0) (i:=i) hfv us[i] (List.getElem?_eq_getElem hu)
   rw[Nat.zero_add]at this
   have e:(us.toArray++Array.replicate (fn.ntmps-us.toArray.size) undef)[i]=us[i]:=by
    rw[Array.getElem_append_left (by simpa using hu)]
    simp
   rw[e]
   exact dH (fun _ _=>rfl) hNx .refl _ _ this
  rw[tE (by omega)]
  trivial
 have hlen:=hR.len
 rw[fP]at hlen
 have hw:=h x rfl rfl hlen.symm _ w ⟨cs,hR⟩
 refine wp_mono hw fun e a W hq=>?_
 have main:∀g ob ts,a=⟨ts,[]⟩→xN x g ob ts W→(∃rs r ks lent',EndA x T fn.results.toList fresh [] (fun _=>R) g ob rs r ks lent')→a.defers=[]∧∃v,(results fn a.tmps).run P W=.ok v W∧Lb fresh N ((aC (aL lent) cs).flatMap Res.S) w R (.returned v) W:=by
  rintro g ob ts rfl ⟨cs2,hR2⟩ ⟨rs,r,ks,lent',hE⟩
  have hnt:∀v∈rs,∀l,v≠.tup l:=by
   rcases hE.pk with⟨v,rfl,hp⟩ | ⟨_,l,_,hp⟩
   ·intro v' hv' l
    simp at hv'
    subst hv'
    cases hp <;> simp
   exact qU hp
  obtain⟨us2,hrv,hfl⟩:=jZ hT hR2 hE.res hnt
  have hrun:=sK hrv
  refine⟨rfl,_,hrun,?_⟩
  have hcoe:nB ([]:List Lt).length cs2 []:=fun k hk=>absurd hk (Nat.not_lt_zero k)
  have hN0:∀b,x.fr W ob cs2 b→x.fr W ob cs2 b:=fun _ h=>h
  obtain⟨v,ys,hv,hro,hok,hsub⟩:∃(v:Value) (ys:List VT),v=(if h:us2.toArray.size=1 then us2.toArray[0]else .tuple us2.toArray)∧RO W (x.fr W ob cs2) [] r v ys∧VT.okL W ys∧(VT.fpL ys).Sublist (ks.flatMap fun k=>(aF (bN ob k) (co cs2 k)).S):=by
   rcases hE.pk with⟨v1,e1,hp⟩ | ⟨hne,l,rfl,hp⟩
   ·subst e1
    cases us2 with
    | nil=>simp only[cA]at hfl
    | cons u us2=>
     simp only[cA]at hfl
     obtain⟨hf1,hf2⟩:=hfl
     subst hf2
     obtain⟨ys,f2,f3,f4⟩:=hp.ok hcoe hR2 hN0 hf1
     exact⟨_,ys,rfl,by simpa using Kt f2,f3,f4⟩
   obtain⟨ys,f2,f3,f4⟩:=hp.ok hcoe hR2 hN0 hfl
   have hl:=nV hfl
   refine⟨_,ys,rfl,?_,f3,f4⟩
   rw[dif_neg (by simp;omega)]
   exact⟨us2,rfl,f2⟩
  have hks:∀k∈ks,(aC ob cs2)[k]? =some (aF (bN ob k) (co cs2 k))∨(aF (bN ob k) (co cs2 k)).S=[]:=fun k hk=>by
   cases hq:bN ob k with
   | none=>exact .inr (by simp[aF])
   | some o=>exact .inl (aT hR2.len (cD hq))
  have hS2:(ks.flatMap fun k=>(aF (bN ob k) (co cs2 k)).S)=(pick (aC ob cs2) ks).flatMap Res.S:=by
   clear hsub
   have hks':=hks
   clear hks hE
   induction ks with
   | nil=>rfl
   | cons k ks ih=>
    have ih:=ih (fun k' h=>hks' k' (List.mem_cons_of_mem _ h))
    unfold pick at ih⊢
    rw[List.flatMap_cons,ih,List.filterMap_cons]
    rcases hks' k (by simp)with h1 | h1
    ·rw[h1]
     simp
    rw[h1,List.nil_append]
    cases hq:(aC ob cs2)[k]? with
    | none=>rfl
    | some r'=>
     obtain⟨o,c,e1,e2,rfl⟩:=Fg hq
     have e3:(aF o c).S=[]:=by
      have hco2:co cs2 k=c:=by simp[co,e2]
      cases o with
      | none=>rfl
      | some o=>
       have:bN ob k=some o:=by simp[bN,e1]
       rw[this,hco2]at h1
       exact h1
     simp[e3]
  have hLp:=hR2.2.pick ks hE.nd
  have hsubS:(([dO ys]).flatMap Res.S).Sublist ((pick (aC ob cs2) ks).flatMap Res.S):=by
   rw[←hS2]
   simpa[dO]using hsub
  have hsubO:∀b,b∈([dO ys]).flatMap Res.S→b∈(aC ob cs2).flatMap Res.S:=fun b hb=>by
   have:=hsubS.subset hb
   obtain⟨r',hr',hb'⟩:=List.mem_flatMap.1 this
   obtain⟨i,_,hi⟩:=List.mem_filterMap.1 hr'
   exact List.mem_flatMap.2 ⟨r',List.mem_of_getElem? hi,hb'⟩
  have hfr:∀b,x.fr W ob cs2 b→iQ W [dO ys] b∧(N b∨b∈(aC (aL lent) cs).flatMap Res.S∨w.heap.size≤b):=fun b hb=>⟨⟨hb.1.1,fun hm=>hb.1.2 (hsubO b hm)⟩,hb.2⟩
  refine⟨_,r,ys,by rw[←hv],hE.post,?_⟩
  refine⟨hR2.2.chg,fun q hq=>?_,fun b hb=>hLp.blk b (hsubS.subset hb),hLp.nd.sublist hsubS,fun q hq=>?_⟩
  ·simp at hq
   subst hq
   exact hok
  rw[List.mem_singleton]at hq
  subst hq
  show tU W _ [] (aL [])∧RO W _ [] r _ ys
  refine⟨⟨rfl,fun k o hk=>by simp[aL]at hk⟩,?_⟩
  cases hfresh:fresh with
  | false=>exact lI (fun _ _=>rfl) (fun b hb=>⟨rfl,hfr b hb⟩) .refl hro
  | true=>exact Bb (hE.clean hfresh).1 hro
 cases e with
 | normal=>
  obtain⟨g,ob,ts,rfl,h1,h2⟩:=hq
  exact main g ob ts rfl h1 h2
 | ret=>
  obtain⟨g,ob,ts,rfl,h1,h2⟩:=hq
  exact main g ob ts rfl h1 h2
 | panic c=>exact hq.elim
 | exit id=>
  obtain⟨_,_,_,_,_,h2⟩:=hq
  exact h2.elim
 | goto l=>
  obtain⟨_,_,_,_,_,h2⟩:=hq
  exact h2.elim
 | outgrown=>
  obtain⟨_,_,_,_,_,h2⟩:=hq
  exact h2.elim
theorem Ih {fresh:Bool}{f:FuncId}{args:List FV}{R:FV→Prop}{lent:List Lt}{K:List Nat}{os:List Operand}{fst caps:List Tr}{fus cus:List Value}(hS:pI fresh x.P f lent (dC fst++args++dC caps) R) (hK:eG ob K K lent) (hnd:K.Nodup) (ha:mA x.n g K os args) (hfst:FRL W (x.fr W ob cs) fst fus) (hcap:FRL W (x.fr W ob cs) caps cus) (hR:RelC x g ob cs ts W):
  Calls x.P f (fus++os.map (Act.eval ⟨ts,[]⟩)++cus).toArray W (fun e W'=>∃v r ys N2,e=.returned v∧R r∧RO W' N2 [] r v ys∧VT.okL W' ys∧(VT.fpL ys).Nodup∧
   ∀(oz:List Ob) (csn:List Co),csn.length=oz.length→(∀b,((aC (oz.map some) csn).flatMap Res.S).count b≤(VT.fpL ys).count b)→(∀r∈aC (oz.map some) csn,r.φ W')→
    (∀b,N2 b→x.fr W' (aY ob K (bL K)++oz.map some) (cs++csn) b)∧
    ((∀i o,oz[i]? =some o→aU W' (x.fr W' (aY ob K (bL K)++oz.map some) (cs++csn)) (cs++csn) o.l (co csn i).l∧((co csn i).b=none→o.l=[]∧o.z≠0))→
     RelC x g (aY ob K (bL K)++oz.map some) (cs++csn) ts W'∧∀d,Aft K d ob cs ts W (aY ob K (bL K)++oz.map some) (cs++csn) ts W')):=by
 have hlen:=hR.len
 have hll:=pE hK
 have hKl:∀k∈K,k<ob.length:=fun k hk=>by
  obtain⟨i,hi⟩:=List.mem_iff_getElem?.1 hk
  obtain⟨a,l',_,_,h2⟩:=fQ hK hi
  exact(List.getElem?_eq_some_iff.1 h2).1
 have hlobs:(aL lent).length=K.length:=by rw[fP,hll]
 have hput0:aC (aY ob K (aL lent)) cs=aC ob cs:=by
  have hl0:(aY ob K (aL lent)).length=cs.length:=by rw[dS];exact hlen
  apply List.ext_getElem?
  intro j
  by_cases hjl:j<ob.length
  ·by_cases hj:j∈K
   ·obtain⟨i,hi⟩:=List.mem_iff_getElem?.1 hj
    obtain⟨a,l',h1,_,h2⟩:=fQ hK hi
    have h3:=gR hnd hlobs hi hjl
    rw[dW,h1]at h3
    rw[aT hl0 h3,aT hlen h2]
    exact congrArg some (gG _ _)
   have h3:=eI (l:=aL lent) (ob:=ob) hj
   rw[List.getElem?_eq_getElem hjl]at h3
   rw[aT hl0 h3,aT hlen (List.getElem?_eq_getElem hjl)]
  rw[List.getElem?_eq_none (by rw[dR hl0];omega),List.getElem?_eq_none (by rw[dR hlen];omega)]
 have hputc:cG cs K (K.map (co cs))=cs:=by
  have key:∀(K:List Nat),(∀k∈K,k<cs.length)→cG cs K (K.map (co cs))=cs:=by
   intro K
   induction K with
   | nil=>intro _;rfl
   | cons k K ih=>
    intro h
    simp only[List.map_cons,cG]
    rw[nU (h k (by simp))]
    exact ih fun j hj=>h j (List.mem_cons_of_mem _ hj)
  exact key K fun k hk=>by rw[←hlen];exact hKl k hk
 have hcnt0:=fun b=>sA b (l:=aL lent) (lc:=K.map (co cs)) (cs:=cs) hnd hlobs (by simp) hlen hKl
 unfold bP at hcnt0
 rw[hputc,hput0]at hcnt0
 have hfr0:∀b,x.fr W ob cs b→iQ W (aC (aL lent) (K.map (co cs))) b:=fun b hb=>And.intro hb.1.1 fun hm=>hb.1.2 (by
  have h1:=List.count_pos_iff.2 hm
  have h2:=hcnt0 b
  exact List.count_pos_iff.1 (show 0<((aC ob cs).flatMap Res.S).count b by omega))
 have hgetL:∀i k,K[i]? =some k→∃(a:Lt) (l':List AV),lent[i]? =some a∧renL K a.l=some l'∧ob[k]? =some (some (⟨a.t,a.z,l'⟩:Ob)):=fun i k hi=>fQ hK hi
 have hφ0:∀r∈aC (aL lent) (K.map (co cs)),r.φ W:=fun r hr=>by
  obtain⟨i,hi⟩:=List.mem_iff_getElem?.1 hr
  have hil:=(List.getElem?_eq_some_iff.1 hi).1
  have hil2:i<K.length:=by
   rw[dR (by simp[hlobs])]at hil
   simpa using hil
  obtain⟨a,l',h1,_,h2⟩:=hgetL i K[i] (List.getElem?_eq_getElem hil2)
  have e1:(aL lent)[i]? =some (some a.ob):=by rw[dW,h1];rfl
  rw[aT (by simp[hlobs]) e1,gE (List.getElem?_eq_getElem hil2)]at hi
  injection hi with hi
  subst hi
  rw[show aF (some a.ob) (co cs K[i])=aF (some ⟨a.t,a.z,l'⟩) (co cs K[i]) from gG _ _]
  exact hR.res h2
 have h1:Loc x.M x.w W (aC (aL lent) (K.map (co cs))++aC (aY ob K (bL K)) cs) []:=(hR.2.pickS []).cut (fun b=>by
  rw[List.flatMap_append,List.count_append]
  have:=hcnt0 b
  omega) (fun r hr=>by
  rcases List.mem_append.1 hr with hr | hr
  ·exact hφ0 r hr
  rcases iF hnd hlen hKl hr with hr | hr
  ·exact hR.2.res r hr
  exact hr.2 W)
 have h2:Loc ((aC (aL lent) (K.map (co cs))).flatMap Res.S) W W (aC (aL lent) (K.map (co cs))) [(Ks lent (K.map (co cs)) (dC fst++args++dC caps) (fus++os.map (Act.eval ⟨ts,[]⟩)++cus)).on (x.fr W ob cs)]:=by
  refine h1.focus.read _ ⟨⟨by simp[hlobs],fun k o hk=>?_⟩,nX (nX (mB (fun b hb=>⟨hfr0 b hb,hb⟩) hfst) (Bp hR (fun b hb=>⟨hfr0 b hb,hb⟩) ha)) (mB (fun b hb=>⟨hfr0 b hb,hb⟩) hcap)⟩
  rw[dW]at hk
  cases hq:lent[k]? with
  | none=>rw[hq]at hk;cases hk
  | some a=>
   rw[hq]at hk
   simp at hk
   subst hk
   have hkK:k<K.length:=by rw[←hll];exact(List.getElem?_eq_some_iff.1 hq).1
   obtain⟨a',l',q1,q0,q2⟩:=hgetL k K[k] (List.getElem?_eq_getElem hkK)
   rw[hq]at q1
   injection q1 with q1
   subst q1
   have q3:=hR.obs.2 _ _ q2
   rw[gE (List.getElem?_eq_getElem hkK)]
   exact⟨rX (fun b hb=>⟨hfr0 b hb,hb⟩) q0 q3.1,fun h=>⟨(tJ q0).2 (q3.2 h).1,(q3.2 h).2⟩⟩
 refine(hS _ W _ _ h2).mono fun e W' hE=>?_
 obtain⟨v,r,ys,rfl,hr,h3⟩:=hE
 have h4:=Loc.turn h1 h3
 have hsh:=Sh.off (h3.sh 0 rfl)
 refine⟨v,r,ys,_,rfl,hr,hsh.2,h3.res (dO ys) (by simp),?_,fun oz csn hlz hcz hφz=>?_⟩
 ·have:=h3.nd
  simpa[dO]using this
 have hlen2:(aY ob K (bL K)).length=cs.length:=by rw[dS];exact hlen
 have hrs:aC (aY ob K (bL K)++oz.map some) (cs++csn)=aC (aY ob K (bL K)) cs++aC (oz.map some) csn:=by
  unfold aC
  rw[List.zipWith_append hlen2]
 have hcnt2:∀b,(bP (aY ob K (bL K)++oz.map some) (cs++csn)).count b≤(([dO ys]++aC (aY ob K (bL K)) cs).flatMap Res.S).count b:=fun b=>by
  have q2:=hcz b
  unfold bP
  rw[hrs,List.flatMap_append,List.count_append,List.flatMap_append,List.count_append,List.flatMap_cons,List.flatMap_nil,List.append_nil]
  have q3:(dO ys).S=VT.fpL ys:=rfl
  rw[q3]
  omega
 have hin2:∀b,b∈bP (aY ob K (bL K)++oz.map some) (cs++csn)→b∈([dO ys]++aC (aY ob K (bL K)) cs).flatMap Res.S:=fun b hb=>List.count_pos_iff.1 (Nat.lt_of_lt_of_le (List.count_pos_iff.2 hb) (hcnt2 b))
 have hrest:∀b,b∈(aC (aY ob K (bL K)) cs).flatMap Res.S→b∈bP ob cs:=fun b hb=>by
  obtain⟨r,hr,hb⟩:=List.mem_flatMap.1 hb
  rcases iF hnd hlen hKl hr with hr | hr
  ·exact List.mem_flatMap.2 ⟨r,hr,hb⟩
  rw[hr.1]at hb
  cases hb
 have hlentS:∀b,b∈(aC (aL lent) (K.map (co cs))).flatMap Res.S→b∈bP ob cs:=fun b hb=>by
  have q1:=List.count_pos_iff.2 hb
  have q2:=hcnt0 b
  exact List.count_pos_iff.1 (show 0<((aC ob cs).flatMap Res.S).count b by omega)
 have hfree:∀b,iQ W' [dO ys] b→(x.fr W ob cs b∨b∈(aC (aL lent) (K.map (co cs))).flatMap Res.S∨W.heap.size≤b)→x.fr W' (aY ob K (bL K)++oz.map some) (cs++csn) b:=fun b hb hb'=>by
  refine⟨⟨hb.1,fun hm=>?_⟩,?_⟩
  ·have hm:=hin2 b hm
   rw[List.flatMap_append,List.mem_append]at hm
   rcases hm with hm | hm
   ·exact hb.2 hm
   have hm2:=hrest b hm
   rcases hb' with hb' | hb' | hb'
   ·exact hb'.1.2 hm2
   ·have q1:=hcnt0 b
    have q2:=List.nodup_iff_count.1 hR.2.nd b
    have q3:=List.count_pos_iff.2 hb'
    have q4:=List.count_pos_iff.2 hm
    unfold bP at q1
    omega
   have:=(hR.2.blk b hm2).2
   omega
  rcases hb' with hb' | hb' | hb'
  ·exact hb'.2
  ·exact .inr (hR.2.blk b (hlentS b hb')).1
  exact .inr (.inr (Nat.le_trans hR.2.chg.size hb'))
 have hsize:W.heap.size≤W'.heap.size:=h3.chg.size
 have hfr:∀b,x.fr W ob cs b→x.fr W' (aY ob K (bL K)++oz.map some) (cs++csn) b:=fun b hb=>by
  refine hfree b ⟨Nat.lt_of_lt_of_le hb.1.1 hsize,fun hm=>?_⟩ (.inl hb)
  have q1:=h3.blk b hm
  rcases q1.1 with q1 | q1
  ·exact hb.1.2 (hlentS b q1)
  have:=hb.1.1
  omega
 have hkeep:∀b,x.fr W ob cs b→W'.heap[b]? =W.heap[b]? :=fun b hb=>h3.chg.block b hb.1.1 (fun hm=>hb.1.2 (hlentS b hm))
 refine⟨fun b hb=>hfree b hb.2.1 hb.2.2,fun hoz=>?_⟩
 have happ:∀{k},k<cs.length→co (cs++csn) k=co cs k:=fun hk=>by simp[co,List.getElem?_append_left hk]
 have hsame3:Same cs (cs++csn):=⟨by simp,fun k hk=>by rw[happ hk];exact⟨rfl,rfl⟩⟩
 have hnone:∀{k:Nat},k∈K→k<ob.length→(aY ob K (bL K))[k]? =some none:=fun{k} hk hl=>by
  obtain⟨i,hi⟩:=List.mem_iff_getElem?.1 hk
  rw[gR hnd (by simp[bL]) hi hl]
  simp[bL,hi]
 have hLf:Loc x.M x.w W' (aC (aY ob K (bL K)++oz.map some) (cs++csn)) []:=h4.cut hcnt2 (fun r hr=>by
  rw[hrs]at hr
  rcases List.mem_append.1 hr with hr | hr
  ·exact h4.res _ (List.mem_append_right _ hr)
  exact hφz r hr)
 refine⟨.of hR.1 hLf ⟨by rw[List.length_append,List.length_append,hlen2,List.length_map,hlz],fun k o hk=>?_⟩ (fun i hi=>?_) (hR.3.trans hsame3),fun d=>⟨hsame3,fun k hk hkc=>?_,hsize,fun b hlt hb=>?_,fun b hb=>?_,fun _ _=>rfl⟩⟩
 ·rcases Nat.lt_or_ge k (aY ob K (bL K)).length with hlt | hge
  ·rw[List.getElem?_append_left hlt]at hk
   rw[happ (by rw[←hlen2];exact hlt)]
   rw[dS]at hlt
   by_cases hkK:k∈K
   ·rw[hnone hkK hlt]at hk
    injection hk with hk
    cases hk
   rw[eI hkK]at hk
   have q1:=hR.obs.2 k o hk
   exact⟨bZ hkeep hfr hsame3 _ _ q1.1,q1.2⟩
  rw[List.getElem?_append_right hge]at hk
  have ho:oz[k-(aY ob K (bL K)).length]? =some o:=by
   rw[List.getElem?_map]at hk
   cases hq:oz[k-(aY ob K (bL K)).length]? with
   | none=>rw[hq]at hk;cases hk
   | some o'=>
    rw[hq]at hk
    simp at hk
    rw[hk]
  have q1:=hoz _ o ho
  have e:co (cs++csn) k=co csn (k-(aY ob K (bL K)).length):=by
   unfold co
   rw[List.getElem?_append_right (by rw[←hlen2];exact hge),hlen2]
  rw[e]
  exact q1
 ·obtain⟨u,q1,q2⟩:=hR.fv hi
  exact⟨u,q1,dH hkeep hfr hsame3 _ _ q2⟩
 ·rw[happ hkc]
 ·refine h3.chg.block b hlt fun hm=>?_
  obtain⟨r,hr,hbr⟩:=List.mem_flatMap.1 hm
  obtain⟨i,hi⟩:=List.mem_iff_getElem?.1 hr
  have hil:=(List.getElem?_eq_some_iff.1 hi).1
  have hil2:i<K.length:=by
   rw[dR (by simp[hlobs])]at hil
   simpa using hil
  obtain⟨a,l',q1,_,q2⟩:=hgetL i K[i] (List.getElem?_eq_getElem hil2)
  have e1:(aL lent)[i]? =some (some a.ob):=by rw[dW,q1];rfl
  rw[aT (by simp[hlobs]) e1,gE (List.getElem?_eq_getElem hil2)]at hi
  injection hi with hi
  subst hi
  rw[show aF (some a.ob) (co cs K[i])=aF (some ⟨a.t,a.z,l'⟩) (co cs K[i]) from gG _ _]at hbr
  exact hb K[i] (List.getElem_mem hil2) _ q2 hbr
 have q1:=hin2 b hb
 rw[List.flatMap_append,List.mem_append]at q1
 rcases q1 with q1 | q1
 ·rcases(h3.blk b (by simpa using q1)).1 with q2 | q2
  ·exact .inl (hlentS b q2)
  exact .inr q2
 exact .inl (hrest b q1)
theorem Bu {fresh:Bool}{f:FuncId}{args:List FV}{R:FV→Prop}{lent:List Lt}{K:List Nat}{aa:Array Operand}{ats:Array TypeId}{cf:Operand}{fst caps:List Tr}{key:Nat}(hS:pI fresh x.P f lent (dC fst++args++dC caps) R) (hf:CallOk x.P f) (hc:Rg x g cf f fst caps) (hK:eG ob K K lent) (hnd:K.Nodup) (ha:mA x.n g K aa.toList args) (hk:dF ob key=true) (hb:∀r,R r→(iL key r).isSome=true):
  OS x ⟨some d,.call ⟨.value cf,aa,ats⟩,ty,pos,af,gd⟩ g ob K (fun g' ob'=>∃r v os,R r∧iL key r=some (v,os)∧g'=aM g d v∧ob'=aY ob K (bL K)++os.map some):=by
 intro cs ts W hR K' Q kk
 obtain⟨us0,us,e0,hfst,hcap⟩:=hc ob cs ts W hR
 unfold Oper.wp
 rw[yB hf e0]
 refine(Ih hS hK hnd ha hfst hcap hR).mono fun e W' hE=>?_
 obtain⟨v,r,ys,N2,rfl,hr,hro,hok,hndy,fin⟩:=hE
 have hb1:=hb r hr
 obtain⟨⟨v',os⟩,hbn⟩:=Option.isSome_iff_exists.1 hb1
 obtain⟨csn,e1,e2,e3,e4⟩:=Bk (Rj hbn hro) hok hbn
 obtain⟨hN,hfin⟩:=fin os csn e1 (fun b=>by rw[e2];exact Nat.le_refl _) e3
 have hk:=Nat.eq_of_beq_eq_true hk
 have hpl:cs.length=key:=by rw[←hR.len,hk]
 obtain⟨g1,g2⟩:=e4 _ (cs++csn) hN (by simp[hpl,e1]) (fun i _=>by
  unfold co
  rw[List.getElem?_append_right (by omega),hpl,show key+i-key=i by omega])
 obtain⟨m1,m2⟩:=hfin g2
 exact kk _ _ _ _ _ ⟨r,v',os,hr,hbn,rfl,rfl⟩ (m1.put d g1) ((m2 (some d)).then_put v)
theorem cm {fresh:Bool}{f:FuncId}{lent:List Lt}{args:List FV}{r:FV}{os:List Ob}{aa:Array Operand}{ats:Array TypeId}(key:Nat) (K:List Nat) (hS:pI fresh x.P f lent args (· =r)) (hf:CallOk x.P f) (hK:eG ob K K lent) (ha:mA x.n g K aa.toList args) (k:WL x ops rest (aM g d v) (aY ob K (bL K)++os.map some) Q) (hw:aO ops x.n g gd=some true:=by rfl) (hk:dF ob key=true:=by rfl) (hnd:K.Nodup:=by decide) (hb:iL key r=some (v,os):=by rfl):
  WL x ops (⟨some d,.call ⟨.value (.func f),aa,ats⟩,ty,pos,af,gd⟩::rest) g ob Q:=by
 have e:dC []++args++dC []=args:=by simp[dC]
 refine eO (Bu (by rw[e];exact hS) hf (Id f) hK hnd ha hk (by rintro _ rfl;rw[hb];rfl)) hw ?_
 rintro _ _ ⟨r',v',os',rfl,h,rfl,rfl⟩
 rw[hb]at h
 injection h with h
 injection h with h1 h2
 subst h1 h2
 exact k
theorem uR {late:Nat→Bool}{K fr:List Nat}{fuel:Nat}{listed:Array Bool}{fresh:Bool}{f:FuncId}{lent:List Lt}{args:List FV}{r:FV}{os:List Ob}{aa:Array Operand}{ats:Array TypeId}(i key:Nat) (Kl:List Nat) (hi:ops[i]? =some ⟨some d,.call ⟨.value (.func f),aa,ats⟩,ty,pos,af,gd⟩) (hS:pI fresh x.P f lent args (· =r)) (hf:CallOk x.P f) (hK:eG ob Kl Kl lent) (ha:mA x.n g Kl aa.toList args) (hke:mT ob (aY ob Kl (bL Kl)++os.map some) K) (k:WD x ops Q late K (d::fr) true fuel (listed.setIfInBounds i true) (aM g d v) (aY ob Kl (bL Kl)++os.map some)) (hr:Region.ready .any ops listed=[i]:=by kernel_rfl) (hw:aO ops x.n g gd=some true:=by rfl) (hk:dF ob key=true:=by rfl) (hnd:Kl.Nodup:=by decide) (hdis:∀k∈K,k∉Kl:=by decide) (hb:iL key r=some (v,os):=by rfl):
  WD x ops Q late K fr true (fuel+1) listed g ob:=by
 have e:dC []++args++dC []=args:=by simp[dC]
 refine Ig i hr hi rfl hw (Bu (by rw[e];exact hS) hf (Id f) hK hnd ha hk (by rintro _ rfl;rw[hb];rfl)) hdis ?_ ?_
 ·rintro _ _ ⟨r',v',os',rfl,h,rfl,rfl⟩
  rw[hb]at h
  injection h with h
  injection h with h1 h2
  subst h1 h2
  exact⟨⟨_,rfl⟩,gI hke⟩
 rintro _ _ ⟨r',v',os',rfl,h,rfl,rfl⟩
 rw[hb]at h
 injection h with h
 injection h with h1 h2
 subst h1 h2
 exact k
theorem KB {fresh:Bool}{P:Program}{f:FuncId}{fn:Func}{c:Code}{n:Nat}{rv:List ResultVar}{lent:List Lt}{args:List FV}{R:FV→Prop}(hf:P.funcs[f]? =some fn) (hb:fn.body=some c) (hn:fn.ntmps=n) (hrv:fn.results.toList=rv) (hT:bG P T) (hle:Nat.ble args.length n=true)
  (h:∀N M w c0,c0.length=lent.length→WP ⟨P,N,M,w,n,c0⟩ c (dD (iJ 0 args)) (aL lent) (wU ⟨P,N,M,w,n,c0⟩ (pA ⟨P,N,M,w,n,c0⟩ T rv fresh [] fun _=>R))):pI fresh P f lent args R:=by
 subst hn hrv
 refine Pf hf hb T hT hle ?_
 rintro⟨P',N,M,w,n,c0⟩ rfl rfl h0
 exact(h N M w c0 h0).subQ
end
def aA (l:List Nat):ByteArray:=⟨(l.map UInt8.ofNat).toArray⟩
def cM (xs:List Nat):List Tr:=xs.map fun(n:Nat)=>.v (.int .u8 (n:Int))
section
variable {l l':List Nat}{i j:Nat}
theorem aH (l:List Nat):(aA l).size=l.length:=by simp[aA,ByteArray.size]
theorem fL (l:List Nat):(aA l).data.toList=l.map UInt8.ofNat:=rfl
theorem uS {a b:ByteArray}(h:a.data.toList=b.data.toList):a=b:=by
 cases a;cases b
 simp only at h
 rw[Array.toList_inj]at h
 rw[h]
theorem lT (l l':List Nat):aA l++aA l'=aA (l++l'):=uS (by simp[aA])
theorem gB (l:List Nat) (i j:Nat):(aA l).extract i j=aA ((l.take j).drop i):=uS (by
 simp[aA,List.map_drop,List.map_take,List.extract_eq_drop_take',List.extract_eq_take_drop])
theorem lD (h:i<l.length) (h2:nth l i<256):((aA l).data[i]?.getD 0).toNat=nth l i:=by
 have e:(aA l).data[i]? =some (UInt8.ofNat (nth l i)):=by
  rw[←Array.getElem?_toList,fL,List.getElem?_map]
  simp[nth,h]
 rw[e]
 simp
 omega
theorem Zk {a b:Nat}(ha:a<256) (hb:b<256) (h:UInt8.ofNat a=UInt8.ofNat b):a=b:=by
 have:=congrArg UInt8.toNat h
 simp at this
 omega
theorem Zl (h:Lim 256 l) (h':Lim 256 l'):aA l=aA l'↔l=l':=by
 refine⟨fun e=>?_,fun e=>by rw[e]⟩
 have e2:=congrArg (fun a:ByteArray=>a.data.toList) e
 simp only[fL]at e2
 induction l generalizing l' with
 | nil=>cases l' with
  | nil=>rfl
  | cons x l'=>simp at e2
 | cons x l ih=>cases l' with
  | nil=>simp at e2
  | cons y l'=>
   simp only[List.map_cons,List.cons.injEq]at e2
   rw[Zk (h x (List.mem_cons_self ..)) (h' y (List.mem_cons_self ..)) e2.1,ih (fun z hz=>h z (List.mem_cons_of_mem _ hz)) (fun z hz=>h' z (List.mem_cons_of_mem _ hz)) (by unfold aA;rw[e2.2]) e2.2]
theorem gO (h:Lim 256 l) (h':Lim 256 l'):((aA l).toList==(aA l').toList)=decide (l=l'):=by
 rw[ByteArray.toList_eq,ByteArray.toList_eq,fL,fL,Bool.eq_iff_iff,decide_eq_true_eq,beq_iff_eq,←Zl h h']
 exact⟨fun e=>uS e,fun e=>by rw[←fL,←fL,e]⟩
theorem CV (a:ByteArray):a=aA (a.data.toList.map UInt8.toNat)∧Lim 256 (a.data.toList.map UInt8.toNat):=by
 refine⟨uS ?_,fun x hx=>?_⟩
 ·rw[fL,List.map_map]
  have:UInt8.ofNat∘UInt8.toNat=id:=by funext x;simp
  rw[this,List.map_id]
 obtain⟨c,_,rfl⟩:=List.mem_map.1 hx
 exact c.toNat_lt
theorem Tv (xs:List Nat):strOfNums (xs.map fun(n:Nat)=>(n:Int))=aA xs:=by simp[strOfNums,aA]
end
section
variable {x:Cx}{g:Nat→FV}{ob ob':List (Option Ob)}{cs:List Co}{ts:Array Value}{W:World}{T:List (Nat×TI)}{Q:Post}{ops:Array Oper}{rest:List Oper}{d:Nat}{ty:TypeId}{pos:String}{af:Array Edge}{gd:Option (Nat×Bool)}
theorem wW (xs:List Nat):(cM xs).length=xs.length:=by simp[cM]
theorem Rl (xs:List Nat):eD ((cM xs).map .t)=true:=by
 induction xs with
 | nil=>rfl
 | cons x xs ih=>simpa[cM,eD,nQ]using ih
theorem Tw (xs:List Nat):cH ((cM xs).map .t)=true:=by
 induction xs with
 | nil=>rfl
 | cons x xs ih=>simpa[cM,cH,lone]using ih
theorem Lc {N:Nat→Prop}:∀{xs:List Nat}{us:List Value},ARL W N cs ((cM xs).map .t) us→us=xs.map fun(n:Nat)=>Value.int .u8 (n:Int)
 | [],us,h=>by simpa[cM,ARL]using h
 | x::xs,u::us,h=>by
  simp only[cM,List.map_cons,ARL,AR,FR]at h
  rw[h.1,Lc (xs:=xs) h.2]
  rfl
 | x::xs,[],h=>by simp[cM,ARL]at h
theorem Zm (hT:bG x.P T){t t2 e by_ ts0:Nat}{zz:Value}{ti:Bool}{z0:List Value}{ie i2:TI}{a:Operand}{av:AV}{xs:List Nat}(ht:aS T t=some ⟨ti,ts0,z0,.sl e 1 by_ zz⟩) (he:aS T e=some ie) (hek:ie.kd=.it .u8) (h2:aS T t2=some i2) (h2k:i2.kd=.str)
  (ha:lk x.n g a=.one av) (hs:SrcA ob 1 av xs.length ((cM xs).map .t)):OS x ⟨some d,.convert t t2 a,ty,pos,af,gd⟩ g ob [] (fun g' ob'=>g'=aM g d (.one (tv (.string (aA xs))))∧ob'=ob):=by
 intro cs ts W hR K Q k
 have h1:=hR.lk a
 rw[ha]at h1
 obtain⟨A,c,us,eu,hrd,hus⟩:=hs.ok (Rl xs) hR h1
 have hus:=Lc hus
 subst hus
 have k1:=(bR hT ht).2.2.2.1
 have k2:=(bR hT he).2.2.2
 have k3:=(bR hT h2).2.2.2
 rw[hek]at k2
 rw[h2k]at k3
 obtain⟨_,q1,_,_⟩:=k1
 have hrun:(execOp (Act.eval ⟨ts,[]⟩) ⟨some d,.convert t t2 a,ty,pos,af,gd⟩).run x.P W=.ok (.value (.string (aA xs))) W:=by
  have hc:=run_convert_bytes_string (P:=x.P) W t t2 e A xs.length c q1 k2 k3
  have hb:(Conv.bytesToString (.slice A xs.length c)).run x.P W=.ok (.string (aA xs)) W:=by
   cases A with
   | none=>
    have hx:xs.length=0:=by
     rcases Nat.eq_zero_or_pos xs.length with h | h
     ·exact h
     obtain⟨ad,q,_⟩:=hrd.cell h
     cases q
    obtain rfl:=List.eq_nil_of_length_eq_zero hx
    simp[Conv.bytesToString,aA]
    rfl
   | some ad=>
    have hl:(loadCells ad xs.length).run x.P W=.ok ((xs.map fun(n:Nat)=>(n:Int)).map (Value.int .u8)).toArray W:=by
     have:=run_loadCells_list (P:=x.P) W ad ((xs.map fun(n:Nat)=>(n:Int)).map (Value.int .u8)) (fun j v hj=>by
      have hj2:=hj
      rw[List.map_map]at hj2
      have hlt:j<xs.length:=by
       have:=(List.getElem?_eq_some_iff.1 hj2).1
       simpa using this
      obtain⟨ad',q,_,q3⟩:=hrd.cell (by omega)
      injection q with q
      subst q
      exact q3 j v hj2)
     simpa using this
    rw[run_bytesToString W ad _ c _ hl,foldl_push_bytes,←Tv]
    simp[strOfNums]
  simp[execOp,eu,hc,hb]
 exact cO hrun (k _ _ _ _ _ ⟨rfl,rfl⟩ (hR.put d (v:=.one (tv (.string (aA xs)))) (dV (by simp[tv,AR,FR]))) (.put d _))
theorem Zo (hT:bG x.P T){t k n sz ts0:Nat}{ti:Bool}{z0:List Value}(ht:aS T t=some ⟨ti,ts0,z0,.ar n sz⟩) (hk:dF ob k=true) (hz:z0.length=n*sz) (hs:Nat.beq sz 0=false) (hn:n≤1000):OS x ⟨some d,.alloc t,ty,pos,af,gd⟩ g ob [] (fun g' ob2=>g'=aM g d (.one (.pt k 0))∧ob2=ob++[some ⟨t,sz,z0.map tv⟩]):=by
 obtain⟨j,v,h1,h2,h3⟩:=(bR hT ht).2.2.1
 have hk:=Nat.eq_of_beq_eq_true hk
 subst hk
 intro cs ts W hR K Q kk
 have hrun:(execOp (Act.eval ⟨ts,[]⟩) ⟨some d,.alloc t,ty,pos,af,gd⟩).run x.P W=.ok (.value (.pointer (some ⟨W.heap.size,0,none⟩))) (W.alloc (.cells z0.toArray t)):=by
  simp[execOp,Instr.alloc,zeroValue,typeInfo,h1,h2,newVar,newRow,h3]
 obtain⟨m1,m2⟩:=hR.made (t:=t) (z:=sz) (c:=n) (iB z0) (nS _) (by rw[hs];exact hz) (by unfold maxLen;omega)
 refine cO hrun (kk _ _ _ _ _ ⟨rfl,rfl⟩ (m1.put d ?_) ((m2 (some d)).then_put _))
 refine dV ?_
 simp only[AR]
 exact⟨W.heap.size,by rw[hR.len,eH],rfl⟩
theorem KC (key:Nat){t n sz ts0:Nat}{ti:Bool}{z0:List Value}(kk:WL x ops rest (aM g d (.one (.pt key 0))) (ob++[some ⟨t,sz,z0.map tv⟩]) Q) (hT:bG x.P ttab:=by exact aB) (hw:aO ops x.n g gd=some true:=by rfl) (ht:aS ttab t=some ⟨ti,ts0,z0,.ar n sz⟩:=by rfl) (hk:dF ob key=true:=by rfl) (hz:z0.length=n*sz:=by rfl) (hs:Nat.beq sz 0=false:=by rfl) (hn:n≤1000:=by decide):WL x ops (⟨some d,.alloc t,ty,pos,af,gd⟩::rest) g ob Q:=
 eO (Zo hT ht hk hz hs hn) hw (by rintro _ _ ⟨rfl,rfl⟩;exact kk)
theorem EE {ta t e z by_ n m k d1 t' ts2:Nat}{zz:Value}{ti ti2:Bool}{ts0:Nat}{z0 z2:List Value}{s a:Operand}{av:AV}{l la:List AV}{ty1:TypeId}{pos1:String}{af1:Array Edge}{gd1:Option (Nat×Bool)}(j:Nat) (hd:DstA ob e z av n ob' l) (hr:eD la=true) (hlo:cH la=true) (hla:la.length=m*z) (hbytes:(n+m)*by_≤140737488355328) (h63:n+m≤140737488355328)
  (kk:WL x ops rest (aM (aM g d1 .any) d (.one (.sl j 0 (n+m)))) (ob'++[some ⟨e,z,l++la⟩]) Q)
  (hT:bG x.P ttab:=by exact aB) (hta:aS ttab ta=some ⟨ti2,ts2,z2,.ar m z⟩:=by rfl) (ht:aS ttab t=some ⟨ti,ts0,z0,.sl e z by_ zz⟩:=by rfl) (hsl:lk x.n g s=.one (.pt k 0):=by rfl) (hob:bN ob k=some ⟨t',z,la⟩:=by rfl) (ha:lk x.n (aM g d1 .any) a=.one av:=by rfl) (hj:dF ob j=true:=by rfl) (hd1:Nat.blt d1 x.n=true:=by rfl)
  (hw1:aO ops x.n g gd1=some true:=by rfl) (hw2:aO ops x.n (aM g d1 .any) gd=some true:=by rfl):
  WL x ops (⟨some d1,.slice ta s none none none,ty1,pos1,af1,gd1⟩::⟨some d,.call ⟨.builtin .append, #[a,.tmp d1], #[t,t]⟩,ty,pos,af,gd⟩::rest) g ob Q:=by
 intro ts W ⟨cs,hR⟩
 have hd1:d1<x.n:=by simpa using hd1
 have h1:=hR.lk s
 rw[hsl]at h1
 simp only[aR,bB,AR]at h1
 obtain⟨b,hb,e1⟩:=h1
 have k1:=(bR hT hta).2.2.2
 obtain⟨ee,ii,q1,q2,q3⟩:=k1
 have hb0:(Instr.sliceBounds false m m none none none).run x.P W=.ok (0,m,m) W:=by
  simp[Instr.sliceBounds]
 have hrun:(execOp (Act.eval ⟨ts,[]⟩) ⟨some d1,.slice ta s none none none,ty1,pos1,af1,gd1⟩).run x.P W=.ok (.value (.slice (some ⟨b,0,none⟩) m m)) W:=by
  simp[execOp,e1,Instr.sliceAt,run_underlying q1,Instr.sureAddr,hb0,sizeOf,typeInfo,q2,Addr.add]
 refine zV (gD hw1 hR) (cO hrun ?_)
 have hR1:=hR.put d1 (v:=.any) (u:=.slice (some ⟨b,0,none⟩) m m) trivial
 obtain⟨Wr,h,_⟩:=Tq (x:=x) (g:=aM g d1 .any) (E:=fun cs ts=>∃b,(co cs k).b=some b∧Act.eval ⟨ts,[]⟩ (.tmp d1)=.slice (some ⟨b,0,none⟩) m m) (d:=d) (ty:=ty) (pos:=pos) (af:=af) (gd:=gd) (b:=.tmp d1) hT ht ha hd (fun cs ts W hR ⟨b,hb,e⟩=>by
  have hk:=cD hob
  obtain⟨k1,_,k3⟩:=hR.blk hk hb
  have hcl:=hR.crl hk
  have h4:=lX hcl hr
  refine⟨_,m,_,e,⟨by rw[dT h4,hla],Nat.le_refl _,by omega,fun h0=>⟨_,rfl,hR.blkS hk b (by simp[aF,hb]),fun j u hj=>?_⟩⟩,h4⟩
  have h6:=lR k1 hj
  simpa using h6) hr hlo hj hbytes h63
 refine zV (gD hw2 hR1) (h cs _ W hR1 ⟨b,hb,?_⟩ _ _ fun g' ob' cs' ts' W' hr hR' _=>?_)
 ·have:d1<ts.size:=by rw[hR.sz];exact hd1
  simp[Act.eval,this]
 obtain⟨rfl,rfl⟩:=hr
 exact kk ts' W' ⟨cs',hR'⟩
theorem Ii {late:Nat→Bool}{K fr:List Nat}{fuel:Nat}{listed:Array Bool}{t ky o t' z':Nat}{ti:TI}{a:Operand}{l:List AV}{v:AV}(i:Nat) (hx:l[o]? =some v) (k:WD x ops Q late K (d::fr) true fuel (listed.setIfInBounds i true) (aM g d (.one v)) ob) (hT:bG x.P ttab:=by exact aB) (hi:ops[i]? =some ⟨some d,.load t a,ty,pos,af,gd⟩:=by rfl) (hw:aO ops x.n g gd=some true:=by rfl) (hti:aS ttab t=some ti:=by rfl) (hlk:lk x.n g a=.one (.pt ky o):=by rfl) (ho:bN ob ky=some ⟨t',z',l⟩:=by rfl) (ha:ti.agg=false:=by rfl) (hr:nQ v=true:=by rfl):WO x ops Q late K fr true fuel listed i g ob:=
 Hv (v:=.one v) i hi rfl hw (Hk hT hti (by rw[hlk];exact Zb ho hx ha hr)) (by rintro _ _ ⟨rfl,rfl⟩;exact⟨rfl,fun _ _=>rfl⟩) (by rintro _ _ ⟨rfl,rfl⟩;exact k)
theorem KD {t t2 e by_ ts0:Nat}{zz:Value}{ti:Bool}{z0:List Value}{ie i2:TI}{a:Operand}{av:AV}{xs:List Nat}{m:Nat}(hs:SrcA ob 1 av m ((cM xs).map .t)) (hm:m=xs.length) (kk:WL x ops rest (aM g d (.one (tv (.string (aA xs))))) ob Q) (hT:bG x.P ttab:=by exact aB) (hw:aO ops x.n g gd=some true:=by rfl) (ht:aS ttab t=some ⟨ti,ts0,z0,.sl e 1 by_ zz⟩:=by rfl) (he:aS ttab e=some ie:=by rfl) (hek:ie.kd=.it .u8:=by rfl) (h2:aS ttab t2=some i2:=by rfl) (h2k:i2.kd=.str:=by rfl) (ha:lk x.n g a=.one av:=by rfl):WL x ops (⟨some d,.convert t t2 a,ty,pos,af,gd⟩::rest) g ob Q:=
 eO (Zm hT ht he hek h2 h2k ha (hm▸hs)) hw (by rintro _ _ ⟨rfl,rfl⟩;exact kk)
theorem EF (xs:List Nat){k:Nat}(h:k<xs.length):((cM xs).drop (k*1)).take [Tr.v (.int .u8 ((nth xs k:Nat):Int))].length=[Tr.v (.int .u8 ((nth xs k:Nat):Int))]:=by
 rw[Nat.mul_one]
 have:(cM xs)[k]? =some (Tr.v (.int .u8 ((nth xs k:Nat):Int))):=by simp[cM,bT h,h]
 rw[List.length_singleton,List.take_one]
 simp[this]
theorem zC (xs:List Nat){k:Nat}(h:k<xs.length):((cM xs).map AV.t)[0+k*1]? =some (tv (.int .u8 ((nth xs k:Nat):Int))):=by simp[cM,bT h,h,tv]
theorem qX (xs:List Nat){k v:Nat}(h:k<xs.length):cE ((cM xs).map AV.t) (0+k*1) [tv (.int .u8 (v:Int))]=(cM (xs.set k v)).map .t:=by
 rw[Nat.zero_add,Nat.mul_one,List.set_eq_take_append_cons_drop,if_pos h]
 simp[cE,cM,tv,List.map_take,List.map_drop]
theorem uT (xs:List Nat){k:Nat}{a:AV}(h:k<xs.length):0+k*1+[a].length≤((cM xs).map AV.t).length:=by simp[cM];omega
theorem EG (xs:List Nat):((cM xs).map AV.t).take (xs.length*1)=(cM xs).map .t:=by rw[Nat.mul_one,List.take_of_length_le (by simp[wW])]
theorem Ij (xs:List Nat):((cM xs).map AV.t).length=xs.length*1:=by simp[wW]
theorem Zp (xs ys:List Nat):(cM xs).map AV.t++(cM ys).map .t=(cM (xs++ys)).map .t:=by simp[cM]
end
theorem gV {fresh:Bool}{x:Cx}{T:List (Nat×TI)}{rv:List ResultVar}{e:Exit}{g:Nat→FV}{ob:List (Option Ob)}{b b':Bool}(he:e=.ret∨e=.normal) (res:nC T x.n g ob rv=some [.one (tv (.bool b))]) (hb:b=b'):pA x T rv fresh [] (aI (.one (tv (.bool b')))) e g ob:=en he res (bI (aZ _)) (by decide) (fun _=>trivial) (by rw[hb];rfl)
theorem Ld {b:Bool}(h:(!b)=false):b=true:=by cases b <;> simp_all
theorem Fu {b:Bool}(h:(!b)=true):b=false:=by cases b <;> simp_all
theorem f0 {f:Nat→Bool}{b:Bool}:∀j,j<0→f j=b:=fun j hj=>absurd hj (Nat.not_lt_zero j)
theorem qI {k:IntKind}{a b:Int}(h:a=b):some (FV.one (tv (.int k a)))=some (FV.one (tv (.int k b))):=by rw[h]
theorem fV (l:List Nat) (i:Nat):(aA l).extract i (aA l).size=aA (l.drop i):=by
 rw[gB,aH,List.take_of_length_le (Nat.le_refl _)]
theorem gJ {l:List Nat}(h:Lim 256 l):((aA l).toList==(⟨#[]⟩:ByteArray).toList)=decide (l=[]):=gO (l':=[]) h Lim.nil
theorem nP {B:Nat}{l:List Nat}{k:Nat}(h:Lim B l) (hk:k<l.length):nth l k<B:=by
 rw[bT hk]
 exact h _ (List.getElem_mem hk)
theorem jR {B:Nat}{l:List Nat}(h:Lim B l) (k:Nat):Lim B (l.drop k):=fun x hx=>h x (List.mem_of_mem_drop hx)
theorem lJ {B:Nat}{l:List Nat}(h:Lim B l):Lim B l.reverse:=fun x hx=>h x (List.mem_reverse.1 hx)
theorem Le {l:List Nat}{c:Nat}(h1:0<l.length) (h2:nth l 0=c):(l.drop 1).dropWhile (· ==c)=l.dropWhile (· ==c):=by
 cases l with
 | nil=>simp at h1
 | cons x l=>
  have:x=c:=h2
  simp[this]
theorem Ik {l:List Nat}{c:Nat}(h1:l.length=0):l=l.dropWhile (· ==c):=by
 rw[List.eq_nil_of_length_eq_zero h1];rfl
theorem Il {l:List Nat}{c:Nat}(h1:0<l.length) (h2:¬nth l 0=c):l=l.dropWhile (· ==c):=by
 cases l with
 | nil=>simp at h1
 | cons x l=>
  have:¬x=c:=h2
  simp[this]
def eK (xs:List Nat) (k:Nat):List Nat:=(List.range xs.length).map fun i=>if i<k∨xs.length-k≤i then nth xs (xs.length-1-i)else nth xs i
theorem gS (xs:List Nat) (k:Nat):(eK xs k).length=xs.length:=by simp[eK]
theorem lK {xs:List Nat}{k i:Nat}(h:i<xs.length):nth (eK xs k) i=if i<k∨xs.length-k≤i then nth xs (xs.length-1-i)else nth xs i:=by
 rw[bT (by rw[gS];exact h)]
 simp[eK]
theorem tK {xs ys:List Nat}(h:xs.length=ys.length) (h2:∀i,i<xs.length→nth xs i=nth ys i):xs=ys:=by
 refine List.ext_getElem h fun i h1 h3=>?_
 have:=h2 i h1
 rwa[bT h1,bT h3]at this
theorem EH (xs:List Nat):xs=eK xs 0:=tK (by rw[gS]) fun i hi=>by
 rw[lK hi,if_neg (by omega)]
theorem Tx {xs:List Nat}{i:Nat}(h:i<xs.length):nth xs.reverse i=nth xs (xs.length-1-i):=by
 rw[bT (by simpa using h),bT (by omega),List.getElem_reverse]
theorem Ty {xs:List Nat}{k:Nat}(h:xs.length≤2*k+1):eK xs k=xs.reverse:=tK (by rw[gS,List.length_reverse]) fun i hi=>by
 rw[gS]at hi
 rw[lK hi,Tx hi]
 by_cases h1:i<k∨xs.length-k≤i
 ·rw[if_pos h1]
 rw[if_neg h1,show xs.length-1-i=i by omega]
theorem Bv {xs:List Nat}{k i v:Nat}(h:k<xs.length):nth (xs.set k v) i=if i=k then v else nth xs i:=by
 unfold nth
 rw[List.getD_eq_getElem?_getD,List.getD_eq_getElem?_getD,List.getElem?_set]
 by_cases h1:k=i
 ·subst h1
  simp[h]
 rw[if_neg h1,if_neg (fun e=>h1 e.symm)]
theorem Rm {xs:List Nat}{k:Nat}(h:2*k+1<xs.length):((eK xs k).set k (nth (eK xs k) (xs.length-1-k))).set (xs.length-1-k) (nth (eK xs k) k)=eK xs (k+1):=by
 have e1:nth (eK xs k) k=nth xs k:=by rw[lK (by omega),if_neg (by omega)]
 have e2:nth (eK xs k) (xs.length-1-k)=nth xs (xs.length-1-k):=by rw[lK (by omega),if_neg (by omega)]
 rw[e1,e2]
 refine tK (by simp[gS]) fun i hi=>?_
 simp only[List.length_set,gS]at hi
 rw[Bv (by simp only[List.length_set,gS];omega),Bv (by rw[gS];omega),lK (k:=k+1) hi,lK (k:=k) hi]
 by_cases h1:i=xs.length-1-k
 ·subst h1
  rw[if_pos rfl,if_pos (by omega),show xs.length-1-(xs.length-1-k)=k by omega]
 rw[if_neg h1]
 by_cases h2:i=k
 ·subst h2
  rw[if_pos rfl,if_pos (by omega)]
 rw[if_neg h2]
 by_cases h3:i<k∨xs.length-k≤i
 ·rw[if_pos h3,if_pos (by omega)]
 rw[if_neg h3,if_neg (by omega)]
def fd (n v:Nat):List Nat:=(List.range n).map fun i=>v/10^i%10
theorem kN (n v:Nat):(fd n v).length=n:=by simp[fd]
theorem Zq (n v:Nat):fd (n+1) v=fd n v++[v/10^n%10]:=by simp[fd,List.range_succ]
theorem Zr (n v:Nat):Lim 10 (fd n v):=fun x hx=>by
 obtain⟨i,_,rfl⟩:=List.mem_map.1 hx
 exact Nat.mod_lt _ (by omega)
theorem EI (n v:Nat):vl 10 (fd n v)=v%10^n:=by
 induction n with
 | zero=>simp[fd,vl,Nat.mod_one]
 | succ n ih=>rw[Zq,lE,ih,kN,Nat.pow_succ,Nat.mod_mul]
def cZ (l:List Nat):List Nat:=l.map fun d=>48+d
theorem fU (l:List Nat):(cZ l).length=l.length:=by simp[cZ]
theorem Fv (l m:List Nat):cZ l++cZ m=cZ (l++m):=by simp[cZ]
theorem wX {l:List Nat}(h:Lim 10 l):Lim 256 (cZ l):=fun x hx=>by
 obtain⟨d,hd,rfl⟩:=List.mem_map.1 hx
 have:=h d hd
 omega
def tx (v:Nat):List Nat:=if v=0 then [48]else(cZ (dg 10 v)).reverse
theorem Xk (v:Nat):Lim 256 (tx v):=by
 unfold tx
 split
 ·exact Lim.cons (by omega) Lim.nil
 exact lJ (wX (bC (by omega) v))
theorem Lg (l:List Nat):(cZ l).reverse.dropWhile (· ==48)=(cZ (trim l)).reverse:=by
 induction l with
 | nil=>rfl
 | cons d l ih=>
  have e:cZ (d::l)=(48+d)::cZ l:=rfl
  rw[e,List.reverse_cons,List.dropWhile_append,ih,dZ]
  by_cases h:trim l=[]
  ·rw[h]
   simp only[cZ,List.map_nil,List.reverse_nil,List.isEmpty_nil,if_true,true_and]
   by_cases h0:d=0
   ·subst h0;simp
   rw[if_neg h0,List.dropWhile_cons,if_neg (by simp;omega)];rfl
  have h2:((cZ (trim l)).reverse).isEmpty=false:=by
   cases hq:trim l with
   | nil=>exact absurd hq h
   | cons a b=>simp[cZ]
  rw[h2,if_neg (by simp),if_neg (fun hh=>h hh.1)]
  simp[cZ]
theorem Im {l:List Nat}{v:Nat}(h:Lim 10 l) (hv:vl 10 l=v):(cZ l).reverse.dropWhile (· ==48)=(if v=0 then []else tx v):=by
 rw[Lg,CB (by omega) h hv]
 unfold tx
 by_cases h0:v=0
 ·rw[if_pos h0,h0,gN];rfl
 rw[if_neg h0,if_neg h0]
theorem oS (v:Nat):tx v≠[]:=by
 unfold tx
 split
 ·simp
 rename_i h
 intro e
 have:=congrArg List.length e
 simp only[List.length_reverse,fU,List.length_nil]at this
 exact h ((dJ (by omega)).1 (List.eq_nil_of_length_eq_zero this))
theorem Zs {i r:Nat}{eC:List Nat}(hi:i<9) (ho:eC.length=9):(cZ (fd i r)++eC.drop i).set i (48+r/10^i%10)=cZ (fd (i+1) r)++eC.drop (i+1):=by
 rw[List.set_append_right _ _ (by rw[fU,kN];omega),fU,kN,Nat.sub_self,List.drop_eq_getElem_cons (by omega),List.set_cons_zero,Zq,←Fv,List.append_assoc]
 rfl
theorem EJ {ds:List Nat}{u v:Nat}(h:vl 10 ds+10^ds.length*u=v):vl 10 (ds++fd 9 (u%1000000000))+10^(ds++fd 9 (u%1000000000)).length*(u/1000000000)=v:=by
 rw[qB,EI,List.length_append,kN,Nat.pow_add,←h,show(10:Nat)^9=1000000000 by rfl,Nat.mod_mod,Nat.mul_assoc,Nat.add_assoc,←Nat.mul_add,Nat.mod_add_div]
theorem Tz {ds:List Nat}{u v L:Nat}(h:vl 10 ds+10^ds.length*u=v) (hu:0<u) (hv:v<4294967296^L):ds.length≤10*L:=by
 have h1:10^ds.length≤v:=by
  have:=Nat.le_mul_of_pos_right (10^ds.length) hu
  omega
 have h2:(4294967296:Nat)^L≤10^(10*L):=by rw[Nat.pow_mul];exact Nat.pow_le_pow_left (by omega) L
 exact Nat.le_of_lt ((Nat.pow_lt_pow_iff_right (a:=10) (by omega)).1 (Nat.lt_of_le_of_lt h1 (Nat.lt_of_lt_of_le hv h2)))
theorem iY {B:Nat}{l:List Nat}{p:Nat→Bool}(h:Lim B l):Lim B (l.dropWhile p):=fun x hx=>h x ((List.dropWhile_sublist p).subset hx)
theorem Ua {ds:List Nat}{v:Nat}(hd:Lim 10 ds) (hv:vl 10 ds=v) (h:(!decide ((cZ ds).reverse.dropWhile (· ==48)=[]))=true):(cZ ds).reverse.dropWhile (· ==48)=tx v:=by
 have h1:=of_decide_eq_false (by simpa using h:decide ((cZ ds).reverse.dropWhile (· ==48)=[])=false)
 rw[Im hd hv]at h1⊢
 by_cases h0:v=0
 ·rw[if_pos h0]at h1;exact absurd rfl h1
 rw[if_neg h0]
theorem Zt {ds:List Nat}{v:Nat}(hd:Lim 10 ds) (hv:vl 10 ds=v) (h:(!decide ((cZ ds).reverse.dropWhile (· ==48)=[]))=false):[48]=tx v:=by
 have h1:=of_decide_eq_true (Ld h)
 rw[Im hd hv]at h1
 by_cases h0:v=0
 ·rw[h0];rfl
 rw[if_neg h0]at h1;exact absurd h1 (oS v)
theorem uU {B u:Nat}(h:0<(dg B u).length):0<u:=by
 rcases Nat.eq_zero_or_pos u with h0 | h0
 ·subst h0;simp[gN]at h
 exact h0
theorem Zu {ob:List (Option Ob)}{k t m:Nat}{xs:List Nat}(h:bN ob k=some ⟨t,1,(cM xs).map .t⟩) (hm:m=xs.length):SrcA ob 1 (.sl k 0 m) m ((cM xs).map .t):=by
 subst hm
 exact .sl h (by rw[List.drop_zero];exact EG xs) (Ij xs)
theorem EK {n:Nat}(h:n<4294967296):lB .u32 (n:Int):=by simp only[lB];omega
section
variable {x:Cx}{g:Nat→FV}{ob ob':List (Option Ob)}{cs:List Co}{ts:Array Value}{W:World}{T:List (Nat×TI)}{Q:Post}{ops:Array Oper}{rest:List Oper}{d:Nat}{ty:TypeId}{pos:String}{af:Array Edge}{gd:Option (Nat×Bool)}
theorem Lh {N:Nat→Prop}{ad:Addr}:∀{l:List Nat}{o:Nat},(∀j,j<l.length→W.cell? (ad.add (o+j))=some (.int .u8 ((nth l j:Nat):Int)))→FRc W N ad o (cM l)
 | [],_,_=>by simp[cM,FRc]
 | y::l,o,h=>by
  have h0:=h 0 (by simp)
  have ih:=Lh (l:=l) (o:=o+1) (N:=N) (ad:=ad) fun j hj=>by
   have:=h (j+1) (by simpa using hj)
   rw[show o+1+j=o+(j+1) by omega]
   exact this
  simp only[cM,List.map_cons,FRc]
  exact⟨⟨_,h0,by simp[FR,nth]⟩,ih⟩
theorem Zw (hT:bG x.P T){t t2 e by_ ts0:Nat}{zz:Value}{ti:Bool}{z0:List Value}{ie i1:TI}{a:Operand}{l:List Nat}(h1:aS T t=some i1) (h1k:i1.kd=.str) (h2:aS T t2=some ⟨ti,ts0,z0,.sl e 1 by_ zz⟩) (he:aS T e=some ie) (hek:ie.kd=.it .u8) (ha:lk x.n g a=.one (tv (.string (aA l)))) (hl:Lim 256 l) (hn:l.length≤1000000):
  OS x ⟨some d,.convert t t2 a,ty,pos,af,gd⟩ g ob [] (fun g' ob'=>g'=aM g d (.one (.t (.s false e 1 l.length (cM l))))∧ob'=ob):=by
 intro cs ts W hR K Q k
 have e1:=hR.lk a
 rw[ha]at e1
 have e1:=aG e1
 have k1:=(bR hT h1).2.2.2
 have k2:=(bR hT h2).2.2.2.1
 have k3:=(bR hT he).2.2.2
 rw[h1k]at k1
 rw[hek]at k3
 obtain⟨_,q1,_,_⟩:=k2
 have hc:=Lib.run_convert_string_bytes (P:=x.P) W t t2 e (aA l) k1 q1 k3
 rw[aH]at hc
 have hrun:(execOp (Act.eval ⟨ts,[]⟩) ⟨some d,.convert t t2 a,ty,pos,af,gd⟩).run x.P W=.ok (.value (.slice (some ⟨W.heap.size,0,none⟩) l.length (grownCap W l.length 0 e))) (Lib.bytesWorld W e (aA l)):=by
  simp[execOp,e1,hc]
 have hb:=Joins.below_bytesWorld W.heap.size W e (aA l) (Nat.le_refl _)
 have hR':=hR.ext hb
 have hcap:=grownCap_ge W l.length 0 e
 have hcm:=grownCap_le_maxLen W l.length 0 e (by unfold maxLen;omega)
 have hfr:x.fr (Lib.bytesWorld W e (aA l)) ob cs W.heap.size:=by
  refine⟨⟨by rw[Lib.bytesWorld_size];omega,fun hm=>?_⟩,.inr (.inr hR.2.chg.size)⟩
  exact absurd (hR.2.blk _ hm).2 (Nat.lt_irrefl _)
 refine cO hrun (k _ _ _ _ _ ⟨rfl,rfl⟩ (hR'.put d (v:=.one (.t (.s false e 1 l.length (cM l)))) (dV ?_)) ?_)
 ·simp only[AR,FR]
  refine⟨_,_,rfl,hcap,by unfold maxLen at hcm;omega,by simp[wW],.inr ⟨_,rfl,hfr,Lh fun j hj=>?_⟩⟩
  have:=Lib.bytesWorld_cell W e (aA l) j (by rw[aH];exact hj)
  rw[Nat.zero_add,show(⟨W.heap.size,0,none⟩:Addr).add j=⟨W.heap.size,j,none⟩ by cases j <;> simp[Addr.add]]
  refine this.trans (congrArg (fun n:Nat=>some (Value.int .u8 (n:Int))) ?_)
  have h9:nth l j<256:=by
   rw[bT hj]
   exact hl _ (List.getElem_mem hj)
  rw[←lD hj h9,List.getD_eq_getElem?_getD,Array.getElem?_toList]
 exact(hR.below hb (some d)).then_put _
theorem KE {t t2 e by_ ts0:Nat}{zz:Value}{ti:Bool}{z0:List Value}{ie i1:TI}{a:Operand}{l:List Nat}(hl:Lim 256 l) (hn:l.length≤1000000) (kk:WL x ops rest (aM g d (.one (.t (.s false e 1 l.length (cM l))))) ob Q) (hT:bG x.P ttab:=by exact aB) (hw:aO ops x.n g gd=some true:=by rfl) (h1:aS ttab t=some i1:=by rfl) (h1k:i1.kd=.str:=by rfl) (h2:aS ttab t2=some ⟨ti,ts0,z0,.sl e 1 by_ zz⟩:=by rfl) (he:aS ttab e=some ie:=by rfl) (hek:ie.kd=.it .u8:=by rfl) (ha:lk x.n g a=.one (tv (.string (aA l))):=by rfl):WL x ops (⟨some d,.convert t t2 a,ty,pos,af,gd⟩::rest) g ob Q:=
 eO (Zw hT h1 h1k h2 he hek ha hl hn) hw (by rintro _ _ ⟨rfl,rfl⟩;exact kk)
theorem KF {t t2:Nat}{a:Operand}(kk:WL x ops rest (aM g d (.one (tv (.bool false)))) ob Q) (hi:x.P.isIface t=true) (hw:aO ops x.n g gd=some true:=by rfl) (ha:lk x.n g a=.one (tv .nilIface):=by rfl):WL x ops (⟨some d,.binOp .neq t a (.const .nilIface) t2,ty,pos,af,gd⟩::rest) g ob Q:=by
 refine eO (Wr:=[]) (R:=fun g' ob'=>g'=aM g d (.one (tv (.bool false)))∧ob'=ob) (fun cs ts W hR K Q kk=>?_) hw (by rintro _ _ ⟨rfl,rfl⟩;exact kk)
 have e1:=hR.lk a
 rw[ha]at e1
 have e1:=aG e1
 have h2:=run_neq_nil_nil_at (P:=x.P) W t hi
 have hrun:(execOp (Act.eval ⟨ts,[]⟩) ⟨some d,.binOp .neq t a (.const .nilIface) t2,ty,pos,af,gd⟩).run x.P W=.ok (.value (.bool false)) W:=by
  have e2:Act.eval ⟨ts,[]⟩ (.const .nilIface)=.nilIface:=rfl
  simp[execOp,e1,e2,eqGuard,h2]
 exact cO hrun (kk _ _ _ _ _ ⟨rfl,rfl⟩ (hR.put d (v:=.one (tv (.bool false))) (dV (by simp[tv,AR,FR]))) (.put d _))
end
def Bw (x y c:Int):Int:=if x<y+c then 1 else 0
theorem Li (a b d:Nat):
  (((4294967295^^^a)&&& b)||| ((4294967295^^^(a^^^b))&&& d))/2147483648=
   (((1^^^(a/2147483648))&&&(b/2147483648))||| ((1^^^((a/2147483648)^^^(b/2147483648)))&&&(d/2147483648))):=by
 have e:∀v:Nat,v/2147483648=v>>>31:=fun v=>by rw[Nat.shiftRight_eq_div_pow]
 simp only[e,Nat.shiftRight_or_distrib,Nat.shiftRight_and_distrib,Nat.shiftRight_xor_distrib]
 rfl
theorem Bx (v:Nat) (h:v<4294967296):v/2147483648=0∨v/2147483648=1:=by omega
theorem Zx (x y c:Int) (x0:0≤x) (x1:x<4294967296) (y0:0≤y) (y1:y<4294967296) (c0:0≤c) (c1:c≤1):
  bits BinOp.or IntKind.u32 (bits BinOp.and IntKind.u32 (bits BinOp.xor IntKind.u32 IntKind.u32.max x) y)
   (bits BinOp.and IntKind.u32 (bits BinOp.xor IntKind.u32 IntKind.u32.max (bits BinOp.xor IntKind.u32 x y)) ((x-y-c)%4294967296))/2147483648=Bw x y c:=by
 obtain⟨a,rfl⟩:=Int.eq_ofNat_of_zero_le x0
 obtain⟨b,rfl⟩:=Int.eq_ofNat_of_zero_le y0
 have hdn:0≤((a:Int)-b-c)%4294967296:=by omega
 obtain⟨d,hd⟩:=Int.eq_ofNat_of_zero_le hdn
 rw[hd]
 have em:IntKind.u32.max=((4294967295:Nat):Int):=rfl
 have ha:a<4294967296:=by omega
 have hb:b<4294967296:=by omega
 have hd':d<4294967296:=by omega
 have x1:a^^^b<4294967296:=Nat.xor_lt_two_pow (n:=32) ha hb
 have x2:4294967295^^^a<4294967296:=Nat.xor_lt_two_pow (n:=32) (by omega) ha
 have x3:4294967295^^^(a^^^b)<4294967296:=Nat.xor_lt_two_pow (n:=32) (by omega) x1
 have x4:(4294967295^^^a)&&& b<4294967296:=Nat.and_lt_two_pow (n:=32) _ hb
 have x5:(4294967295^^^(a^^^b))&&& d<4294967296:=Nat.and_lt_two_pow (n:=32) _ hd'
 rw[em,u32_xor_nat _ _ (by omega) ha,u32_xor_nat _ _ ha hb,u32_xor_nat _ _ (by omega) x1,u32_and_nat _ _ x2 hb,u32_and_nat _ _ x3 hd',u32_or_nat _ _ x4 x5]
 have hs:=Li a b d
 have hh:((((4294967295^^^a)&&& b)||| ((4294967295^^^(a^^^b))&&& d):Nat):Int)/2147483648=(((((4294967295^^^a)&&& b)||| ((4294967295^^^(a^^^b))&&& d))/2147483648:Nat):Int):=rfl
 rw[hh,hs]
 unfold Bw
 rcases Bx a ha with ta | ta <;> rcases Bx b hb with tb | tb <;> rcases Bx d hd' with td | td <;> rw[ta,tb,td] <;> split <;> first | rfl | (exfalso;omega)
theorem Lj (x:Int) (w:World):Calls Tryz.prog 205 #[.int .i64 x] w fun e w'=>e=.returned (.bool false)∧w=w':=by
 go_enter Tryz.func205,Tryz.ntmps205
 go_wp2
 go_ret
 simp
theorem Lk (x:Int) (w:World):Calls Tryz.prog 206 #[.int .u32 x] w fun e w'=>e=.returned (.bool false)∧w=w':=by
 go_enter Tryz.func206,Tryz.ntmps206
 go_wp2
 go_ret
 simp
def kX (x y:Int):Int:=if x<y then-1 else if y<x then 1 else 0
theorem Dn (x y:Int) (w:World):Calls Tryz.prog 193 #[.int .i64 x,.int .i64 y] w fun e w'=>e=.returned (.int .i64 (kX x y))∧w=w':=by
 go_enter Tryz.func193,Tryz.ntmps193
 go_wp2_with (first
  | (go_at_call 205;refine(Lj _ _).mono ?_;rintro e w' ⟨rfl,rfl⟩))
 all_goals (go_ret;refine⟨nH ?_,rfl⟩;show _=kX x y;unfold kX;(repeat' split) <;> first | rfl | omega)
theorem Do (x y:Int) (w:World):Calls Tryz.prog 194 #[.int .u32 x,.int .u32 y] w fun e w'=>e=.returned (.int .i64 (kX x y))∧w=w':=by
 go_enter Tryz.func194,Tryz.ntmps194
 go_wp2_with (first
  | (go_at_call 206;refine(Lk _ _).mono ?_;rintro e w' ⟨rfl,rfl⟩))
 all_goals (go_ret;refine⟨nH ?_,rfl⟩;show _=kX x y;unfold kX;(repeat' split) <;> first | rfl | omega)
theorem iZ (x y c:Int) (w:World) (x0:0≤x) (x1:x<4294967296) (y0:0≤y) (y1:y<4294967296) (c0:0≤c) (c1:c<4294967296):
  Calls Tryz.prog 182 #[.int .u32 x,.int .u32 y,.int .u32 c] w fun e w'=>e=.returned (.tuple #[.int .u32 ((x+y+c)%4294967296),.int .u32 ((x+y+c)/4294967296)])∧w=w':=by
 go_enter Tryz.func182,Tryz.ntmps182
 go_wp2
 go_ret2
 exact⟨rfl,rfl⟩
theorem By (x y:Int) (x0:0≤x) (x1:x<4294967296) (y0:0≤y) (y1:y<4294967296):0≤x*y∧x*y≤18446744065119617025:=by
 refine⟨Int.mul_nonneg x0 y0,?_⟩
 have:=Int.mul_le_mul (show x≤4294967295 by omega) (show y≤4294967295 by omega) y0 (by omega)
 omega
theorem In (x y:Int) (w:World) (x0:0≤x) (x1:x<4294967296) (y0:0≤y) (y1:y<4294967296):
  Calls Tryz.prog 143 #[.int .u32 x,.int .u32 y] w fun e w'=>e=.returned (.tuple #[.int .u32 (x*y/4294967296),.int .u32 (x*y%4294967296)])∧w=w':=by
 obtain⟨p0,p1⟩:=By x y x0 x1 y0 y1
 go_enter Tryz.func143,Tryz.ntmps143
 go_wp2
 go_ret2
 exact⟨rfl,rfl⟩
theorem Io (x y c:Int) (w:World) (x0:0≤x) (x1:x<4294967296) (y0:0≤y) (y1:y<4294967296) (c0:0≤c) (c1:c≤1):
  Calls Tryz.prog 188 #[.int .u32 x,.int .u32 y,.int .u32 c] w fun e w'=>e=.returned (.tuple #[.int .u32 ((x-y-c)%4294967296),.int .u32 (Bw x y c)])∧w=w':=by
 have hb:=Lib.hid (Zx x y c x0 x1 y0 y1 c0 c1)
 go_enter Tryz.func188,Tryz.ntmps188
 go_wp2
 go_ret2
 rw[←hb.out]
 exact⟨rfl,rfl⟩
theorem Ll (h l:Int) (h0:0≤h) (h1:h<4294967296) (l0:0≤l) (l1:l<4294967296):
  bits BinOp.or IntKind.u64 (h*4294967296) l=h*4294967296+l:=by
 obtain⟨a,rfl⟩:=Int.eq_ofNat_of_zero_le h0
 obtain⟨b,rfl⟩:=Int.eq_ofNat_of_zero_le l0
 have e:((a:Int)*4294967296)=((a*4294967296:Nat):Int):=by omega
 have e2:a*4294967296 ||| b=a*4294967296+b:=by
  have:=Nat.two_pow_add_eq_or_of_lt (i:=32) (b:=b) (by omega) a
  rw[Nat.mul_comm]at this
  simpa using this.symm
 rw[e,bits_or_u64_nat _ _ (by omega) (by omega),e2]
 omega
theorem Zy (h l d:Int) (h0:0≤h) (hd:h<d) (l0:0≤l) (l1:l<4294967296):
  0≤(h*4294967296+l)/d∧(h*4294967296+l)/d<4294967296∧0≤(h*4294967296+l)%d∧(h*4294967296+l)%d<d:=by
 have hp:0<d:=by omega
 refine⟨Int.ediv_nonneg (by omega) (by omega),Int.ediv_lt_of_lt_mul hp ?_,Int.emod_nonneg _ (by omega),Int.emod_lt_of_pos _ hp⟩
 have:(h+1)*4294967296≤d*4294967296:=Int.mul_le_mul_of_nonneg_right (by omega) (by omega)
 rw[Int.mul_comm 4294967296 d]
 omega
theorem Ip (h l d:Int) (w:World) (h0:0≤h) (hd:h<d) (l0:0≤l) (l1:l<4294967296) (d1:d<4294967296):
  Calls Tryz.prog 139 #[.int .u32 h,.int .u32 l,.int .u32 d] w fun e w'=>
   e=.returned (.tuple #[.int .u32 ((h*4294967296+l)/d),.int .u32 ((h*4294967296+l)%d)])∧∃n,w'=w.drewN n:=by
 have hne:(d != 0)=true:=by rw[bne_iff_ne];omega
 have hne2:¬d=0:=by omega
 have hle:decide (d≤h)=false:=by simp;omega
 have hor:=Ll h l h0 (by omega) l0 l1
 obtain⟨q0,q1,r0,r1⟩:=Zy h l d h0 hd l0 l1
 go_enter Tryz.func139,Tryz.ntmps139
 go_wp2
 go_quiet (fail)
 go_wp2
 go_ret2
 exact⟨rfl,_,rfl⟩
def lenOf:Value→Nat | .slice _ n _=>n | _=>0
set_option maxHeartbeats 400000 in
theorem eU (A:Option Addr) (n c:Nat) (xs:List Nat) (B:Nat) (w:World) (h:U32 w B A n c xs):
  Calls Tryz.prog 138 #[.slice A n c] w fun e w'=>e=.returned (.slice A (trim xs).length c)∧w=w':=by
 have hbig:=h.big
 have hcap:=h.cap
 go_enter Tryz.func138,Tryz.ntmps138
 go_wp2
 go_loop [0] (fun a=>∃k:Nat,k≤n∧a=.slice A k c∧Hid (trim (xs.take k)=trim xs)) (fun a=>lenOf a)
 case atStart=>exact⟨n,Nat.le_refl _,rfl,by have:=h.len;rw[List.take_of_length_le (by omega)];exact rfl⟩
 case round=>
  obtain⟨k,hk,rfl,ht⟩:=hrel
  by_cases h0:0<k
  ·obtain⟨b,o,sp,rfl,hb,hc⟩:=h.at_ (show k-1<n by omega)
   go_wp2
   ·have h1:((nth xs (k-1):Nat):Int)==0:=by assumption
    have hx:nth xs (k-1)=0:=by simpa using h1
    exact⟨⟨k-1,by omega,rfl,by rw[Jk (by omega) (by rw[h.len];omega) hx];exact ht.out⟩,by simp only[lenOf];omega⟩
   have h1:(((nth xs (k-1):Nat):Int)==0)=false:=by assumption
   have hx:nth xs (k-1)≠0:=by simpa using h1
   go_ret
   exact⟨xK (by rw[←ht.out,xI (by omega) (by rw[h.len];omega) hx,List.length_take,h.len,Nat.min_eq_left hk]),rfl⟩
  go_wp2
  obtain rfl:k=0:=by omega
  go_ret
  exact⟨xK (by rw[←ht.out];rfl),rfl⟩
theorem yC (w:World) (e:TypeId):(w.alloc (.cells #[] e)).ownsRow w.heap.size e 1 (.slice (some ⟨w.heap.size,0,none⟩) 0 0) 0 []:=
 ⟨rfl,.inr ⟨w.heap.size,0, #[],rfl,Nat.le_refl _,heap_alloc_new w _,Nat.le_refl _,by unfold maxLen;omega,rfl,rfl⟩⟩
theorem kP (w:World) (o:Obj):Below w.heap.size w (w.alloc o):=(Below.refl _ _).alloc (Nat.le_refl _) _
theorem mC:IsEl Tryz.prog 23 115 (.int .u32 0) 1 4:=IsEl.mk Tryz.underlying23 (z:=.int .u32 0) (by kernel_rfl) rfl (by omega)
def jA (xs:List Nat) (w:World) (e:Ending) (w':World):Prop:=
 ∃A n c,e=.returned (.slice A n c)∧Own 115 w' w.heap.size A n c xs∧Below w.heap.size w w'
set_option maxHeartbeats 400000 in
theorem lL (A:Option Addr) (n c:Nat) (xs:List Nat) (w:World) (h:U32 w w.heap.size A n c xs) (hn:n≤1099511627776):
    Calls Tryz.prog 122 #[.slice A n c] w (jA xs w):=by
  have q:∀(w:World) (a:Option Addr) (n c n' c':Nat),(binOp .eql 23 (.slice a n c) (.slice none n' c')).run Tryz.prog w=.ok (.bool a.isNone) w:=
    fun w a n c n' c'=>Lib.run_eql_slice_nil w _ _ a n c n' c' Tryz.underlying23
  rcases A with _ | ad
  · have h0:n=0:=by
      rcases Nat.eq_zero_or_pos n with h0 | h0
      · exact h0
      obtain⟨ad,e,_⟩:=h.rd.cell h0
      cases e
    subst h0
    have hx:xs=[]:=List.eq_nil_of_length_eq_zero h.len
    subst hx
    go_enter Tryz.func122,Tryz.ntmps122
    go_wp2
    go_ret
    exact⟨none,0,0,rfl,Own.nil,Below.refl _ _⟩
  go_enter Tryz.func122,Tryz.ntmps122
  go_wp2_with (first
    | (at_builtin
       refine lC _ mC rfl (.tmp 5) (.tmp 6) rfl w.heap.size (.slice (some ⟨w.heap.size,0,none⟩) 0 0) 0 [] rfl (yC _ _) w.heap.size (some ad) n c (dX xs) rfl (h.rd.below (kP w _)) (rK xs) (by omega) (by omega) (by simp) ?_
       intro A' c' w1 hown hg _))
  go_ret
  refine⟨A',n,c',rfl,⟨by simpa using hown,h.lim⟩,mM (kP w _) (yC _ _) hg (by simp) (Nat.le_refl _)⟩
set_option maxHeartbeats 400000 in
theorem dM (A:Option Addr) (n c:Nat) (xs:List Nat) (w:World) (h:U32 w w.heap.size A n c xs) (hn:n≤1099511627776):
  Calls Tryz.prog 86 #[.slice A n c] w (jA (trim xs) w):=by
 have hl:=dG xs
 have hlen:=Lib.hid h.len
 go_enter Tryz.func86,Tryz.ntmps86
 go_wp2_with (first
  | (go_at_call 138;refine(eU _ _ _ xs _ _ h).mono ?_;rintro e w' ⟨rfl,rfl⟩)
  | (go_at_call 122;refine(lL _ _ _ (trim xs) _ h.trim ?_).mono ?_;(rw[hlen.out]at hl;omega);rintro e w1 ⟨A1,n1,c1,rfl,h1,hb1⟩))
 go_ret
 exact⟨A1,n1,c1,rfl,h1,hb1⟩
theorem Lm {P:Program}{f:FuncId}{args:Array Value}{w:World}{a n:Nat}{v:Value}
  (h:Calls P f args (w.drewN (a+n)) fun e w'=>e=.returned v∧w.drewN (a+n)=w'):
  Calls P f args (w.drewN (a+n)) fun e w''=>e=.returned v∧∃m,w''=w.drewN (a+m):=
 h.mono fun _ _ ⟨he,hm⟩=>⟨he,n,hm.symm⟩
theorem Zz (w:World) (a b c:Nat):∃k,((w.drewN a).drewN b).drewN c=w.drewN k:=⟨_,by rw[World.drewN_drewN,World.drewN_drewN]⟩
theorem cN (A:Option Addr) (n c n':Nat) (xs:List Nat) (B:Nat) (w:World) (h:U32 w B A n c xs) (hn:(trim xs).length=n'):
  Calls Tryz.prog 138 #[.slice A n c] w fun e w'=>e=.returned (.slice A n' c)∧w=w':=by
 subst hn;exact eU A n c xs B w h
def jB (x y:Nat):Int:=kX (x:Int) (y:Int)
theorem lM {x y:Nat}(h:x<y):jB x y=-1:=by unfold jB kX;rw[if_pos (by omega)]
theorem iM {x y:Nat}(h:y<x):jB x y=1:=by unfold jB kX;rw[if_neg (by omega),if_pos (by omega)]
theorem nY {x y:Nat}(h:x=y):jB x y=0:=by unfold jB kX;rw[if_neg (by omega),if_neg (by omega)]
theorem Dp {xs ys:List Nat}(hx:Lim 4294967296 xs) (hy:Lim 4294967296 ys) (h:(trim xs).length≠(trim ys).length):
  kX ((trim xs).length:Int) ((trim ys).length:Int)=jB (vl 4294967296 xs) (vl 4294967296 ys):=by
 rcases Nat.lt_or_gt_of_ne h with h | h
 ·have:=iP (B:=4294967296) (by omega) hx.trim (kC ys) h
  rw[cB,cB]at this
  rw[lM this];exact lM h
 have:=iP (B:=4294967296) (by omega) hy.trim (kC xs) h
 rw[cB,cB]at this
 rw[iM this];exact iM h
theorem Ub {xs ys:List Nat}{k:Nat}(hx:Lim 4294967296 xs) (hy:Lim 4294967296 ys) (hl:xs.length=ys.length) (h0:0<k) (hk:k≤xs.length)
  (hd:xs.drop k=ys.drop k) (h:nth xs (k-1)≠nth ys (k-1)):kX (nth xs (k-1):Int) (nth ys (k-1):Int)=jB (vl 4294967296 xs) (vl 4294967296 ys):=by
 have e:k-1+1=k:=by omega
 rcases Nat.lt_or_gt_of_ne h with h | h
 ·have:=zP (B:=4294967296) (k:=k-1) hx hl (by omega) (by rw[e];exact hd) (by rwa[bT (by omega),bT (by omega)]at h)
  rw[lM this];exact lM h
 have:=zP (B:=4294967296) (k:=k-1) hy hl.symm (by omega) (by rw[e];exact hd.symm) (by rwa[bT (by omega),bT (by omega)]at h)
 rw[iM this];exact iM h
theorem Ln {xs ys:List Nat}{k:Nat}(hl:xs.length=ys.length) (h0:0<k) (hk:k≤xs.length) (hd:xs.drop k=ys.drop k) (h:nth xs (k-1)=nth ys (k-1)):
  xs.drop (k-1)=ys.drop (k-1):=by
 have e:k-1+1=k:=by omega
 rw[List.drop_eq_getElem_cons (show k-1<xs.length by omega),List.drop_eq_getElem_cons (show k-1<ys.length by omega),e,hd,←bT,←bT,h]
set_option maxHeartbeats 800000 in
theorem mD (A B:Option Addr) (n m c d:Nat) (xs ys:List Nat) (bd:Nat) (w:World) (ha:U32 w bd A n c xs) (hb:U32 w bd B m d ys):
  Calls Tryz.prog 178 #[.slice A n c,.slice B m d] w fun e w'=>e=.returned (.int .i64 (jB (vl 4294967296 xs) (vl 4294967296 ys)))∧∃k,w'=w.drewN k:=by
 have ha1:=ha.trim
 have hb1:=hb.trim
 have hab:=ha.big
 have hbb:=hb.big
 have hac:=ha1.cap
 have hbc:=hb1.cap
 obtain⟨n1,hn1⟩:∃n1,(trim xs).length=n1:=⟨_,rfl⟩
 obtain⟨m1,hm1⟩:∃m1,(trim ys).length=m1:=⟨_,rfl⟩
 rw[hn1]at ha1 hac
 rw[hm1]at hb1 hbc
 have Hn1:=Lib.hid hn1
 have Hm1:=Lib.hid hm1
 clear hn1 hm1
 by_cases hne:n1=m1
 ·subst hne
  have hq:((n1:Int)!=(n1:Int))=false:=by simp
  go_enter Tryz.func178,Tryz.ntmps178
  go_wp2_with fail
  refine(cN _ _ _ n1 xs _ _ ha Hn1.out).mono ?_
  rintro e w' ⟨rfl,rfl⟩
  go_wp2_with fail
  refine(cN _ _ _ n1 ys _ _ hb Hm1.out).mono ?_
  rintro e w' ⟨rfl,rfl⟩
  go_wp2_with fail
  go_loopw [5] (fun i wr=>∃k:Nat,k≤n1∧i=.int .i64 ((k:Int)-1)∧Hid ((trim xs).drop k=(trim ys).drop k)∧∃q,wr=w.drewN q) (fun i _=>(intOf i+1).toNat)
  case atStart=>exact⟨n1,Nat.le_refl _,rfl,by rw[List.drop_eq_nil_of_le (by rw[Hn1.out];exact Nat.le_refl _),List.drop_eq_nil_of_le (by rw[Hm1.out];exact Nat.le_refl _)];exact rfl,0,rfl⟩
  case round=>
   obtain⟨k,hk,rfl,ht,q,rfl⟩:=hrel
   by_cases h0:0<k
   ·obtain⟨b,o,sp,rfl,hb',hc'⟩:=ha1.at_ (show k-1<n1 by omega)
    obtain⟨b2,o2,sp2,rfl,hb2',hc2'⟩:=hb1.at_ (show k-1<n1 by omega)
    by_cases he:nth (trim xs) (k-1)=nth (trim ys) (k-1)
    ·have he1:(((nth (trim xs) (k-1):Nat):Int)!=((nth (trim ys) (k-1):Nat):Int))=false:=by rw[he];simp
     have He:=Lib.hid he
     clear he
     go_wp2_with fail
     go_quiet (fail)
     go_wp2_with fail
     exact⟨⟨k-1,by omega,by go_num,Ln (by rw[Hn1.out,Hm1.out]) h0 (by rw[Hn1.out];exact hk) ht.out He.out,_,rfl⟩,by simp[intOf];omega⟩
    have he1:(((nth (trim xs) (k-1):Nat):Int)!=((nth (trim ys) (k-1):Nat):Int))=true:=by rw[bne_iff_ne];omega
    have He:=Lib.hid he
    clear he
    go_wp2_with fail
    go_quiet (fail)
    go_wp2_with fail
    go_quiet ((go_at_call 194;exact Lm (Do _ _ _)))
    go_wp2_with fail
    go_ret
    exact⟨nH (by rw[Ub ha1.lim hb1.lim (by rw[Hn1.out,Hm1.out]) h0 (by rw[Hn1.out];exact hk) ht.out He.out,cB,cB]),Zz _ _ _ _⟩
   obtain rfl:k=0:=by omega
   have he:trim xs=trim ys:=ht.out
   go_wp2_with fail
   go_ret
   exact⟨nH (by rw[←cB 4294967296 xs,he,cB];exact(nY rfl).symm),_,rfl⟩
 have hq:((n1:Int)!=(m1:Int))=true:=by rw[bne_iff_ne];omega
 go_enter Tryz.func178,Tryz.ntmps178
 go_wp2_with fail
 refine(cN _ _ _ n1 xs _ _ ha Hn1.out).mono ?_
 rintro e w' ⟨rfl,rfl⟩
 go_wp2_with fail
 refine(cN _ _ _ m1 ys _ _ hb Hm1.out).mono ?_
 rintro e w' ⟨rfl,rfl⟩
 go_wp2_with fail
 refine(Dn _ _ _).mono ?_
 rintro e w' ⟨rfl,rfl⟩
 go_wp2_with fail
 go_ret
 refine⟨nH ?_,0,rfl⟩
 have:=Dp ha.lim hb.lim (by rw[Hn1.out,Hm1.out];exact hne)
 rw[Hn1.out,Hm1.out]at this
 exact this
def AddInv (xs ys os:List Nat) (k C:Nat):Prop:=
 C≤1∧vl 4294967296 (os.take k)+4294967296^k*C=vl 4294967296 (xs.take k)+vl 4294967296 (ys.take k)
theorem AddInv.zero (xs ys os:List Nat):AddInv xs ys os 0 0:=⟨by omega,by simp[vl]⟩
theorem AddInv.le {xs ys os:List Nat}{k C:Nat}(h:AddInv xs ys os k C):C≤1:=h.1
theorem AddInv.step {xs ys os:List Nat}{k C:Nat}(h:AddInv xs ys os k C) (hk:k<os.length) (hx:Lim 4294967296 xs) (hy:Lim 4294967296 ys):
  AddInv xs ys (os.set k ((nth xs k+nth ys k+C)%4294967296)) (k+1) ((nth xs k+nth ys k+C)/4294967296):=by
 obtain⟨h1,h2⟩:=h
 have x1:=hx.nth (by omega) k
 have y1:=hy.nth (by omega) k
 refine⟨by omega,?_⟩
 rw[eQ _ _ hk,bX,bX,Nat.pow_succ]
 have e:=Nat.mod_add_div (nth xs k+nth ys k+C) 4294967296
 generalize 4294967296^k=p at*
 generalize (nth xs k+nth ys k+C)/4294967296=q at*
 generalize (nth xs k+nth ys k+C)%4294967296=r at*
 have e2:p*(r+4294967296*q)=p*(nth xs k+nth ys k+C):=by rw[e]
 grind
theorem AddInv.end_ {xs ys os:List Nat}{n C:Nat}(h:AddInv xs ys os n C) (hos:os.length=n+1) (hx:xs.length≤n) (hy:ys.length≤n):
  vl 4294967296 (os.set n C)=vl 4294967296 xs+vl 4294967296 ys:=by
 have h2:=h.2
 rw[bY _ hx,bY _ hy]at h2
 rw[←h2,←eQ _ C (by omega),bY]
 rw[List.length_set];omega
set_option maxHeartbeats 1000000 in
theorem Dq (A B:Option Addr) (n m c d:Nat) (xs ys:List Nat) (w:World) (ha:U32 w w.heap.size A n c xs) (hb:U32 w w.heap.size B m d ys) (hn:n≤1099511627776) (hmn:m≤n):
  Calls Tryz.prog 165 #[.slice A n c,.slice B m d] w (jA (dg 4294967296 (vl 4294967296 xs+vl 4294967296 ys)) w):=by
 have hlt':¬n<m:=by omega
 have Hx:=Lib.hid ha.len
 have Hy:=Lib.hid hb.len
 go_enter Tryz.func165,Tryz.ntmps165
 go_wp2_with (refine kE _ mC rfl (.tmp 18) (.tmp 18) rfl .i64 .i64 _ _ (n+1) rfl rfl (by omega) (by omega) (by omega) (by omega) ?_;intro w1 hown hb1 hz1)
 have hO:=Own.made hown
 clear hown
 go_wp2_with fail
 go_loopw [6,22] (fun cy i wr=>∃(k C:Nat) (os:List Nat),k≤n∧i=.int .i64 (k:Int)∧cy=.int .u32 (C:Int)∧Own 115 wr w.heap.size (some ⟨w.heap.size,0,none⟩) (n+1) (n+1) os∧AddInv xs ys os k C∧Below w.heap.size w wr∧w.heap.size<wr.heap.size) (fun _ i _=>n-(intOf i).toNat)
 case atStart=>exact⟨0,0,_,Nat.zero_le _,rfl,rfl,hO,AddInv.zero _ _ _,hb1,hz1⟩
 case round=>
  obtain⟨k,C,os,hk,rfl,rfl,hown,hI,hbw,hz⟩:=hrel
  have hC:=hI.le
  by_cases hlt:k<n
  ·obtain⟨b,o,sp,rfl,hbb,hcc⟩:=(ha.below hbw).at_ hlt
   have ho1:=hown.cell (show k<n+1 by omega)
   have ho2:=hown.frozen k
   have hx1:=ha.lim.nth (by omega) k
   have hy1:=hb.lim.nth (by omega) k
   have hset:=hown.set k (v:=(nth xs k+nth ys k+C)%4294967296) (Nat.mod_lt _ (by omega))
   have hstep:=hI.step (by rw[hown.len];omega) ha.lim hb.lim
   by_cases hm:k<m
   ·obtain⟨b2,o2,sp2,rfl,hbb2,hcc2⟩:=(hb.below hbw).at_ hm
    go_wp2_with fail
    refine(iZ _ _ _ _ ?_ ?_ ?_ ?_ ?_ ?_).mono ?_ <;> try omega
    rintro e w' ⟨rfl,rfl⟩
    go_wp2_with fail
    go_roundw
    case rel=>exact⟨k+1,_,_,by omega,by go_num,rfl,hset,hstep,hbw.setCell (Nat.le_refl _) _,by simpa using hz⟩
    case measure=>simp[intOf];omega
   have hy0:nth ys k=0:=lF (by rw[Hy.out];omega)
   rw[hy0]at hset hstep
   clear hy0
   go_wp2_with fail
   refine(iZ _ _ _ _ ?_ ?_ ?_ ?_ ?_ ?_).mono ?_ <;> try omega
   rintro e w' ⟨rfl,rfl⟩
   go_wp2_with fail
   go_roundw
   case rel=>exact⟨k+1,_,_,by omega,by go_num,rfl,hset,hstep,hbw.setCell (Nat.le_refl _) _,by simpa using hz⟩
   case measure=>simp[intOf];omega
  obtain rfl:k=n:=by omega
  have ho1:=hown.cell (show k<k+1 by omega)
  have ho2:=hown.frozen k
  have hset:=hown.set k (v:=C) (by omega)
  have hend:=Lib.hid (hI.end_ hown.len (by rw[Hx.out];exact Nat.le_refl _) (by rw[Hy.out];omega))
  have hbe:=hbw.setCell (p:=⟨w.heap.size,k,none⟩) (Nat.le_refl _) (.int .u32 (C:Int))
  clear hb1 hbw hI hown hz1
  go_wp2_with fail
  refine(eU _ _ _ _ _ _ hset.u32).mono ?_
  rintro e w' ⟨rfl,rfl⟩
  go_wp2_with fail
  go_ret
  exact⟨_,_,_,rfl,by rw[←hend.out,fB (by omega) hset.lim];exact hset.trim,hbe⟩
set_option maxHeartbeats 1000000 in
theorem Dr (A B:Option Addr) (n m c d:Nat) (xs ys:List Nat) (w:World) (ha:U32 w w.heap.size A n c xs) (hb:U32 w w.heap.size B m d ys) (hm:m≤1099511627776) (hmn:n<m):
  Calls Tryz.prog 165 #[.slice A n c,.slice B m d] w (jA (dg 4294967296 (vl 4294967296 xs+vl 4294967296 ys)) w):=by
 have hlt':n<m:=by omega
 have Hx:=Lib.hid hb.len
 have Hy:=Lib.hid ha.len
 go_enter Tryz.func165,Tryz.ntmps165
 go_wp2_with (refine kE _ mC rfl (.tmp 18) (.tmp 18) rfl .i64 .i64 _ _ (m+1) rfl rfl (by omega) (by omega) (by omega) (by omega) ?_;intro w1 hown hb1 hz1)
 have hO:=Own.made hown
 clear hown
 go_wp2_with fail
 go_loopw [6,22] (fun cy i wr=>∃(k C:Nat) (os:List Nat),k≤m∧i=.int .i64 (k:Int)∧cy=.int .u32 (C:Int)∧Own 115 wr w.heap.size (some ⟨w.heap.size,0,none⟩) (m+1) (m+1) os∧AddInv ys xs os k C∧Below w.heap.size w wr∧w.heap.size<wr.heap.size) (fun _ i _=>m-(intOf i).toNat)
 case atStart=>exact⟨0,0,_,Nat.zero_le _,rfl,rfl,hO,AddInv.zero _ _ _,hb1,hz1⟩
 case round=>
  obtain⟨k,C,os,hk,rfl,rfl,hown,hI,hbw,hz⟩:=hrel
  have hC:=hI.le
  by_cases hlt:k<m
  ·obtain⟨b,o,sp,rfl,hbb,hcc⟩:=(hb.below hbw).at_ hlt
   have ho1:=hown.cell (show k<m+1 by omega)
   have ho2:=hown.frozen k
   have hx1:=hb.lim.nth (by omega) k
   have hy1:=ha.lim.nth (by omega) k
   have hset:=hown.set k (v:=(nth ys k+nth xs k+C)%4294967296) (Nat.mod_lt _ (by omega))
   have hstep:=hI.step (by rw[hown.len];omega) hb.lim ha.lim
   by_cases hm:k<n
   ·obtain⟨b2,o2,sp2,rfl,hbb2,hcc2⟩:=(ha.below hbw).at_ hm
    go_wp2_with fail
    refine(iZ _ _ _ _ ?_ ?_ ?_ ?_ ?_ ?_).mono ?_ <;> try omega
    rintro e w' ⟨rfl,rfl⟩
    go_wp2_with fail
    go_roundw
    case rel=>exact⟨k+1,_,_,by omega,by go_num,rfl,hset,hstep,hbw.setCell (Nat.le_refl _) _,by simpa using hz⟩
    case measure=>simp[intOf];omega
   have hy0:nth xs k=0:=lF (by rw[Hy.out];omega)
   rw[hy0]at hset hstep
   clear hy0
   go_wp2_with fail
   refine(iZ _ _ _ _ ?_ ?_ ?_ ?_ ?_ ?_).mono ?_ <;> try omega
   rintro e w' ⟨rfl,rfl⟩
   go_wp2_with fail
   go_roundw
   case rel=>exact⟨k+1,_,_,by omega,by go_num,rfl,hset,hstep,hbw.setCell (Nat.le_refl _) _,by simpa using hz⟩
   case measure=>simp[intOf];omega
  obtain rfl:k=m:=by omega
  have ho1:=hown.cell (show k<k+1 by omega)
  have ho2:=hown.frozen k
  have hset:=hown.set k (v:=C) (by omega)
  have hend:=Lib.hid (hI.end_ hown.len (by rw[Hx.out];exact Nat.le_refl _) (by rw[Hy.out];omega))
  have hbe:=hbw.setCell (p:=⟨w.heap.size,k,none⟩) (Nat.le_refl _) (.int .u32 (C:Int))
  clear hb1 hbw hI hown hz1
  go_wp2_with fail
  refine(eU _ _ _ _ _ _ hset.u32).mono ?_
  rintro e w' ⟨rfl,rfl⟩
  go_wp2_with fail
  go_ret
  exact⟨_,_,_,rfl,by rw[Nat.add_comm (vl 4294967296 xs) (vl 4294967296 ys),←hend.out,fB (by omega) hset.lim];exact hset.trim,hbe⟩
theorem Pg (A B:Option Addr) (n m c d:Nat) (xs ys:List Nat) (w:World) (ha:U32 w w.heap.size A n c xs) (hb:U32 w w.heap.size B m d ys) (hn:n≤1099511627776) (hm:m≤1099511627776):
  Calls Tryz.prog 165 #[.slice A n c,.slice B m d] w (jA (dg 4294967296 (vl 4294967296 xs+vl 4294967296 ys)) w):=by
 by_cases h:m≤n
 ·exact Dq A B n m c d xs ys w ha hb hn h
 exact Dr A B n m c d xs ys w ha hb hm (by omega)
def dI (n:Nat):Nat:=n%4294967296
def fX (n:Nat):Nat:=n/4294967296
theorem sB (n:Nat):dI n<4294967296:=Nat.mod_lt _ (by omega)
theorem Iq (n:Nat):dI n+4294967296*fX n=n:=Nat.mod_add_div n 4294967296
theorem Rn {n:Nat}(h:n<18446744073709551616):fX n<4294967296:=by unfold fX;omega
def gZ (x y c:Nat):Nat:=(x+8589934592-y-c)%4294967296
def jC (x y c:Nat):Nat:=if x<y+c then 1 else 0
theorem Fw (x y c:Nat):gZ x y c<4294967296:=Nat.mod_lt _ (by omega)
theorem Fx (x y c:Nat):jC x y c≤1:=by unfold jC;split <;> omega
theorem Lo {x y c:Nat}(hx:x<4294967296) (hy:y<4294967296) (hc:c≤1):gZ x y c+y+c=x+4294967296*jC x y c:=by
 unfold gZ jC;split <;> omega
theorem nE (x y c:Nat) (w:World) (x1:x<4294967296) (y1:y<4294967296) (c1:c<4294967296):
  Calls Tryz.prog 182 #[.int .u32 (x:Int),.int .u32 (y:Int),.int .u32 (c:Int)] w fun e w'=>
   e=.returned (.tuple #[.int .u32 (dI (x+y+c):Nat),.int .u32 (fX (x+y+c):Nat)])∧w=w':=
 (iZ _ _ _ w (by omega) (by omega) (by omega) (by omega) (by omega) (by omega)).mono fun _ _ ⟨h1,h2⟩=>⟨h1,h2⟩
theorem Ds (x y:Nat) (w:World) (x1:x<4294967296) (y1:y<4294967296):
  Calls Tryz.prog 143 #[.int .u32 (x:Int),.int .u32 (y:Int)] w fun e w'=>
   e=.returned (.tuple #[.int .u32 (fX (x*y):Nat),.int .u32 (dI (x*y):Nat)])∧w=w':=
 (In _ _ w (by omega) (by omega) (by omega) (by omega)).mono fun _ _ ⟨h1,h2⟩=>⟨h1,h2⟩
theorem sM (x y c:Nat) (w:World) (x1:x<4294967296) (y1:y<4294967296) (c1:c≤1):
  Calls Tryz.prog 188 #[.int .u32 (x:Int),.int .u32 (y:Int),.int .u32 (c:Int)] w fun e w'=>
   e=.returned (.tuple #[.int .u32 (gZ x y c:Nat),.int .u32 (jC x y c:Nat)])∧w=w':=by
 have e1:((gZ x y c:Nat):Int)=((x:Int)-y-c)%4294967296:=by unfold gZ;omega
 have e2:((jC x y c:Nat):Int)=Bw x y c:=by unfold jC Bw;split <;> split <;> omega
 rw[e1,e2]
 exact Io _ _ _ w (by omega) (by omega) (by omega) (by omega) (by omega) (by omega)
theorem Dt (h l d:Nat) (w:World) (hd:h<d) (l1:l<4294967296) (d1:d<4294967296):
  Calls Tryz.prog 139 #[.int .u32 (h:Int),.int .u32 (l:Int),.int .u32 (d:Int)] w fun e w'=>
   e=.returned (.tuple #[.int .u32 ((h*4294967296+l)/d:Nat),.int .u32 ((h*4294967296+l)%d:Nat)])∧∃n,w'=w.drewN n:=
 (Ip _ _ _ w (by omega) (by omega) (by omega) (by omega) (by omega)).mono fun _ _ ⟨h1,h2⟩=>⟨h1,h2⟩
def SubInv (xs ys os:List Nat) (k C:Nat):Prop:=
 C≤1∧os.length=xs.length∧vl 4294967296 (os.take k)+vl 4294967296 (ys.take k)=vl 4294967296 (xs.take k)+4294967296^k*C∧∀j,k≤j→nth os j=nth xs j
theorem SubInv.zero (xs ys:List Nat):SubInv xs ys xs 0 0:=⟨by omega,rfl,by simp[vl],fun _ _=>rfl⟩
theorem SubInv.le {xs ys os:List Nat}{k C:Nat}(h:SubInv xs ys os k C):C≤1:=h.1
theorem SubInv.at_ {xs ys os:List Nat}{k C:Nat}(h:SubInv xs ys os k C):nth os k=nth xs k:=h.2.2.2 k (Nat.le_refl _)
theorem gT {l:List Nat}{i j v:Nat}(h:i≠j):nth (l.set i v) j=nth l j:=by
 unfold nth;rw[List.getD_eq_getElem?_getD,List.getD_eq_getElem?_getD,List.getElem?_set_ne h]
theorem uV {l:List Nat}{i v:Nat}(h:i<l.length):nth (l.set i v) i=v:=by
 rw[bT (by rw[List.length_set];exact h),List.getElem_set_self]
theorem SubInv.step {xs ys os:List Nat}{k C:Nat}(h:SubInv xs ys os k C) (hk:k<xs.length) (hx:Lim 4294967296 xs) (hy:Lim 4294967296 ys):
  SubInv xs ys (os.set k (gZ (nth xs k) (nth ys k) C)) (k+1) (jC (nth xs k) (nth ys k) C):=by
 obtain⟨h1,hl,h2,h3⟩:=h
 have x1:=hx.nth (by omega) k
 have y1:=hy.nth (by omega) k
 have e:=Lo x1 y1 h1
 refine⟨Fx _ _ _,by rw[List.length_set,hl],?_,fun j hj=>by rw[gT (by omega)];exact h3 j (by omega)⟩
 rw[eQ _ _ (by omega),bX,bX,Nat.pow_succ]
 generalize 4294967296^k=p at*
 generalize gZ (nth xs k) (nth ys k) C=s at*
 generalize jC (nth xs k) (nth ys k) C=q at*
 have e2:p*(s+nth ys k+C)=p*(nth xs k+4294967296*q):=by rw[e]
 grind
theorem SubInv.end_ {xs ys os:List Nat}{C:Nat}(h:SubInv xs ys os xs.length C) (ho:Lim 4294967296 os) (hy:ys.length≤xs.length) (hle:vl 4294967296 ys≤vl 4294967296 xs):
  vl 4294967296 os=vl 4294967296 xs-vl 4294967296 ys:=by
 obtain⟨h1,hl,h2,_⟩:=h
 rw[bY _ hy,bY _ (Nat.le_refl _),bY _ (by omega)]at h2
 have:=eL ho
 rw[hl]at this
 have hC:C=0∨C=1:=by omega
 rcases hC with rfl | rfl
 ·omega
 omega
def MulInv (xs os:List Nat) (m k C:Nat):Prop:=C<4294967296∧vl 4294967296 (os.take k)+4294967296^k*C=vl 4294967296 (xs.take k)*m
theorem MulInv.zero (xs os:List Nat) (m:Nat):MulInv xs os m 0 0:=⟨by omega,by simp[vl]⟩
theorem MulInv.lt {xs os:List Nat}{m k C:Nat}(h:MulInv xs os m k C):C<4294967296:=h.1
theorem AA {x m C:Nat}(hx:x<4294967296) (hm:m<4294967296) (hC:C<4294967296):x*m+C≤18446744069414584320:=by
 have:x*m≤4294967295*4294967295:=Nat.mul_le_mul (by omega) (by omega)
 omega
theorem Bz {x m C:Nat}(hx:x<4294967296) (hm:m<4294967296) (hC:C<4294967296):
  fX (x*m)+fX (dI (x*m)+C)=fX (x*m+C)∧dI (dI (x*m)+C)=dI (x*m+C)∧fX (x*m+C)<4294967296:=by
 have:=AA hx hm hC
 unfold fX dI
 omega
theorem MulInv.step {xs os:List Nat}{m k C:Nat}(h:MulInv xs os m k C) (hk:k<os.length) (hx:Lim 4294967296 xs) (hm:m<4294967296):
  MulInv xs (os.set k (dI (nth xs k*m+C))) m (k+1) (fX (nth xs k*m+C)):=by
 obtain⟨h1,h2⟩:=h
 have x1:=hx.nth (by omega) k
 refine⟨(Bz x1 hm h1).2.2,?_⟩
 rw[eQ _ _ hk,bX,Nat.pow_succ]
 have e:=Iq (nth xs k*m+C)
 generalize 4294967296^k=p at*
 generalize dI (nth xs k*m+C)=s at*
 generalize fX (nth xs k*m+C)=q at*
 have e2:p*(s+4294967296*q)=p*(nth xs k*m+C):=by rw[e]
 grind
theorem MulInv.end_ {xs os:List Nat}{m n C:Nat}(h:MulInv xs os m n C) (hos:os.length=n+1) (hx:xs.length≤n):
  vl 4294967296 (os.set n C)=vl 4294967296 xs*m:=by
 have h2:=h.2
 rw[bY _ hx]at h2
 rw[←h2,←eQ _ C (by omega),bY]
 rw[List.length_set];omega
def DivInv (xs os:List Nat) (d k r:Nat):Prop:=
 r<d∧os.length=xs.length∧vl 4294967296 (os.drop k)*d+r=vl 4294967296 (xs.drop k)∧∀j,j<k→nth os j=nth xs j
theorem DivInv.top (xs:List Nat){d:Nat}(hd:0<d):DivInv xs xs d xs.length 0:=⟨hd,rfl,by simp[vl],fun _ _=>rfl⟩
theorem DivInv.lt {xs os:List Nat}{d k r:Nat}(h:DivInv xs os d k r):r<d:=h.1
theorem DivInv.at_ {xs os:List Nat}{d k r:Nat}(h:DivInv xs os d k r) (h0:0<k):nth os (k-1)=nth xs (k-1):=h.2.2.2 _ (by omega)
theorem gK (B:Nat){l:List Nat}{k:Nat}(h0:0<k) (h:k≤l.length):vl B (l.drop (k-1))=nth l (k-1)+B*vl B (l.drop k):=by
 have e:=List.drop_eq_getElem_cons (show k-1<l.length by omega)
 rw[show k-1+1=k from by omega]at e
 rw[e,gM,bT]
theorem DivInv.step {xs os:List Nat}{d k r:Nat}(h:DivInv xs os d k r) (h0:0<k) (hk:k≤xs.length) (hd:0<d):
  DivInv xs (os.set (k-1) ((r*4294967296+nth xs (k-1))/d)) d (k-1) ((r*4294967296+nth xs (k-1))%d):=by
 obtain⟨h1,hl,h2,h3⟩:=h
 refine⟨Nat.mod_lt _ hd,by rw[List.length_set,hl],?_,fun j hj=>by rw[gT (by omega)];exact h3 j (by omega)⟩
 rw[gK _ h0 (by rw[List.length_set];omega),gK _ h0 hk,uV (by omega),List.drop_set_of_lt (by omega)]
 have e:=Nat.div_add_mod (r*4294967296+nth xs (k-1)) d
 generalize (r*4294967296+nth xs (k-1))/d=q at*
 generalize (r*4294967296+nth xs (k-1))%d=s at*
 grind
theorem DivInv.end_ {xs os:List Nat}{d r:Nat}(h:DivInv xs os d 0 r) (hd:0<d):vl 4294967296 os=vl 4294967296 xs/d∧r=vl 4294967296 xs%d:=by
 obtain⟨h1,_,h2,_⟩:=h
 simp only[List.drop_zero]at h2
 have e:vl 4294967296 xs=r+d*vl 4294967296 os:=by rw[←h2,Nat.mul_comm];omega
 rw[e,Nat.add_mul_div_left _ _ hd,Nat.add_mul_mod_self_left,Nat.div_eq_of_lt h1,Nat.mod_eq_of_lt h1]
 exact⟨by omega,rfl⟩
set_option maxHeartbeats 1000000 in
theorem pX (A:Option Addr) (n c m:Nat) (xs:List Nat) (w:World) (ha:U32 w w.heap.size A n c xs) (hn:n≤1099511627776) (hm:m<4294967296):
  Calls Tryz.prog 166 #[.slice A n c,.int .u32 (m:Int)] w (jA (dg 4294967296 (vl 4294967296 xs*m)) w):=by
 have Hx:=Lib.hid ha.len
 go_enter Tryz.func166,Tryz.ntmps166
 go_wp2_with (refine kE _ mC rfl (.tmp 15) (.tmp 15) rfl .i64 .i64 _ _ (n+1) rfl rfl (by omega) (by omega) (by omega) (by omega) ?_;intro w1 hown hb1 hz1)
 have hO:=Own.made hown
 clear hown
 go_wp2_with fail
 go_loopw [6,19] (fun cy i wr=>∃(k C:Nat) (os:List Nat),k≤n∧i=.int .i64 (k:Int)∧cy=.int .u32 (C:Int)∧Own 115 wr w.heap.size (some ⟨w.heap.size,0,none⟩) (n+1) (n+1) os∧MulInv xs os m k C∧Below w.heap.size w wr∧w.heap.size<wr.heap.size) (fun _ i _=>n-(intOf i).toNat)
 case atStart=>exact⟨0,0,_,Nat.zero_le _,rfl,rfl,hO,MulInv.zero _ _ _,hb1,hz1⟩
 case round=>
  obtain⟨k,C,os,hk,rfl,rfl,hown,hI,hbw,hz⟩:=hrel
  have hC:=hI.lt
  by_cases hlt:k<n
  ·obtain⟨b,o,sp,rfl,hbb,hcc⟩:=(ha.below hbw).at_ hlt
   have ho1:=hown.cell (show k<n+1 by omega)
   have ho2:=hown.frozen k
   have hx1:=ha.lim.nth (by omega) k
   obtain⟨e1,e2,e3⟩:=Bz hx1 hm hC
   have hset:=hown.set k (v:=dI (nth xs k*m+C)) (sB _)
   rw[←e2]at hset
   have hstep:=hI.step (by rw[hown.len];omega) ha.lim hm
   rw[←e2]at hstep
   rw[←e1]at e3 hstep
   clear e1 e2
   have hl1:=sB (nth xs k*m)
   go_wp2_with fail
   refine(Ds _ _ _ hx1 hm).mono ?_
   rintro e w' ⟨rfl,rfl⟩
   go_wp2_with fail
   refine(nE _ _ 0 _ (sB _) hC (by omega)).mono ?_
   rintro e w' ⟨rfl,rfl⟩
   rw[Nat.add_zero]
   go_wp2_with fail
   go_roundw
   case rel=>exact⟨k+1,_,_,by omega,by go_num,by go_num,hset,hstep,hbw.setCell (Nat.le_refl _) _,by simpa using hz⟩
   case measure=>simp[intOf];omega
  obtain rfl:k=n:=by omega
  have ho1:=hown.cell (show k<k+1 by omega)
  have ho2:=hown.frozen k
  have hset:=hown.set k (v:=C) (by omega)
  have hend:=Lib.hid (hI.end_ hown.len (by rw[Hx.out];exact Nat.le_refl _))
  have hbe:=hbw.setCell (p:=⟨w.heap.size,k,none⟩) (Nat.le_refl _) (.int .u32 (C:Int))
  clear hb1 hbw hI hown hz1
  go_wp2_with fail
  refine(eU _ _ _ _ _ _ hset.u32).mono ?_
  rintro e w' ⟨rfl,rfl⟩
  go_wp2_with fail
  go_ret
  exact⟨_,_,_,rfl,by rw[←hend.out,fB (by omega) hset.lim];exact hset.trim,hbe⟩
def AB (xs:List Nat) (r e1:Nat) (w:World) (e:Ending) (w':World):Prop:=
 ∃A n c,e=.returned (.tuple #[.slice A n c,.int .u32 (r:Int),.int .i64 (e1:Int)])∧Own 115 w' w.heap.size A n c xs∧Below w.heap.size w w'
set_option maxHeartbeats 1000000 in
theorem kY (A:Option Addr) (n c d:Nat) (xs:List Nat) (w:World) (ha:U32 w w.heap.size A n c xs) (hn:n≤1099511627776) (hd0:0<d) (hd:d<4294967296):
  Calls Tryz.prog 87 #[.slice A n c,.int .u32 (d:Int)] w (AB (dg 4294967296 (vl 4294967296 xs/d)) (vl 4294967296 xs%d) 0 w):=by
 have Hx:=Lib.hid ha.len
 have hne:((d:Int)==0)=false:=by rw[beq_eq_false_iff_ne];omega
 go_enter Tryz.func87,Tryz.ntmps87
 go_wp2_with fail
 refine(lL _ _ _ xs _ ha hn).mono ?_
 rintro e w1 ⟨A1,n1,c1,rfl,hO,hb1⟩
 obtain rfl:n1=n:=by rw[←hO.len,Hx.out]
 go_wp2_with fail
 go_loopw [5,7] (fun r i wr=>∃(k R:Nat) (os:List Nat),k≤n1∧i=.int .i64 ((k:Int)-1)∧r=.int .u32 (R:Int)∧Own 115 wr w.heap.size A1 n1 c1 os∧DivInv xs os d k R∧Below w.heap.size w wr) (fun _ i _=>(intOf i+1).toNat)
 case atStart=>exact⟨n1,0,xs,Nat.le_refl _,by go_num,rfl,hO,by have:=DivInv.top xs hd0;rwa[Hx.out]at this,hb1⟩
 case round=>
  obtain⟨k,R,os,hk,rfl,rfl,hown,hI,hbw⟩:=hrel
  have hR:=hI.lt
  by_cases h0:0<k
  ·obtain⟨g,rfl,hg1,hg2⟩:=hown.form (by omega)
   have ho1:=hown.cell (show k-1<n1 by omega)
   rw[hI.at_ h0]at ho1
   have ho2:=hown.frozen (k-1)
   have hx1:=ha.lim.nth (by omega) (k-1)
   have hq:(R*4294967296+nth xs (k-1))/d<4294967296:=by
    apply Nat.div_lt_of_lt_mul
    have:(R+1)*4294967296≤d*4294967296:=Nat.mul_le_mul_right _ (by omega)
    omega
   have hset:=fun q=>(hown.drewN q).set (k-1) hq
   have hstep:=hI.step h0 (by rw[Hx.out];exact hk) hd0
   go_wp2_with fail
   refine(Dt _ _ _ _ hR hx1 hd).mono ?_
   rintro e w' ⟨rfl,q,rfl⟩
   go_wp2_with fail
   go_roundw
   case rel=>exact⟨k-1,_,_,by omega,by go_num,rfl,hset q,hstep,(dY hbw _).setCell hg1 _⟩
   case measure=>simp[intOf];omega
  obtain rfl:k=0:=by omega
  obtain⟨h1,h2⟩:=hI.end_ hd0
  have H1:=Lib.hid h1
  have H2:=Lib.hid h2
  clear h1 h2
  go_wp2_with fail
  refine(eU _ _ _ _ _ _ hown.u32).mono ?_
  rintro e w' ⟨rfl,rfl⟩
  go_wp2_with fail
  go_ret3
  exact⟨_,_,_,by rw[←H2.out];rfl,by rw[←H1.out,fB (by omega) hown.lim];exact hown.trim,hbw⟩
def qY (xs:List Nat) (e1:Nat) (w:World) (e:Ending) (w':World):Prop:=
 ∃A n c,e=.returned (.tuple #[.slice A n c,.int .i64 (e1:Int)])∧Own 115 w' w.heap.size A n c xs∧Below w.heap.size w w'
theorem Own.drew_base {t:TypeId}{w:World}{base n c:Nat}{A:Option Addr}{xs:List Nat}{k:Nat}(h:Own t w base A n c xs):Own t (w.drewN k) base A n c xs:=⟨h.row,h.lim⟩
set_option maxHeartbeats 1000000 in
theorem Ph (A B:Option Addr) (n m c d:Nat) (xs ys:List Nat) (w:World) (ha:U32 w w.heap.size A n c xs) (hb:U32 w w.heap.size B m d ys) (hn:n≤1099511627776) (hle:vl 4294967296 ys≤vl 4294967296 xs):
  Calls Tryz.prog 175 #[.slice A n c,.slice B m d] w (qY (dg 4294967296 (vl 4294967296 xs-vl 4294967296 ys)) 0 w):=by
 have ha1:=ha.trim
 have hb1:=hb.trim
 have htl:=dG xs
 rw[ha.len]at htl
 obtain⟨n1,hn1⟩:∃n1,(trim xs).length=n1:=⟨_,rfl⟩
 obtain⟨m1,hm1⟩:∃m1,(trim ys).length=m1:=⟨_,rfl⟩
 have hyx:m1≤n1:=by
  rcases Nat.lt_or_ge n1 m1 with h | h
  ·have:=iP (B:=4294967296) (by omega) ha.lim.trim (kC ys) (by omega)
   rw[cB,cB]at this
   omega
  exact h
 rw[hn1]at ha1 htl
 rw[hm1]at hb1
 have Hn1:=Lib.hid hn1
 have Hm1:=Lib.hid hm1
 clear hn1 hm1
 have hge:¬jB (vl 4294967296 (trim xs)) (vl 4294967296 (trim ys))<0:=by
  rw[cB,cB]
  rcases Nat.lt_or_ge (vl 4294967296 ys) (vl 4294967296 xs)with h | h
  ·rw[iM h];omega
  rw[nY (by omega)];omega
 go_enter Tryz.func175,Tryz.ntmps175
 go_wp2_with fail
 refine(cN _ _ _ n1 _ _ _ ha Hn1.out).mono ?_
 rintro e w' ⟨rfl,rfl⟩
 go_wp2_with fail
 refine(cN _ _ _ m1 _ _ _ hb Hm1.out).mono ?_
 rintro e w' ⟨rfl,rfl⟩
 go_wp2_with fail
 refine(mD _ _ _ _ _ _ _ _ _ _ ha1 hb1).mono ?_
 rintro e w' ⟨rfl,q,rfl⟩
 go_wp2_with fail
 refine(lL _ _ _ (trim xs) (w.drewN q) (ha1.below (dY (Below.refl _ _) q)) (by omega)).mono ?_
 rintro e w1 ⟨A1,n2,c1,rfl,hO,hbw1⟩
 obtain rfl:n2=n1:=by rw[←hO.len,Hn1.out]
 have hbw2:Below w.heap.size w w1:=(dY (Below.refl _ _) q).trans hbw1
 clear hbw1
 go_wp2_with fail
 go_loopw [7,22] (fun cy i wr=>∃(k C:Nat) (os:List Nat),k≤n2∧i=.int .i64 (k:Int)∧cy=.int .u32 (C:Int)∧Own 115 wr w.heap.size A1 n2 c1 os∧SubInv (trim xs) (trim ys) os k C∧Below w.heap.size w wr) (fun _ i _=>n2-(intOf i).toNat)
 case atStart=>exact⟨0,0,_,Nat.zero_le _,rfl,rfl,hO,SubInv.zero _ _,hbw2⟩
 case round=>
  obtain⟨k,C,os,hk,rfl,rfl,hown,hI,hbw⟩:=hrel
  have hC:=hI.le
  by_cases hlt:k<n2
  ·obtain⟨g,rfl,hg1,hg2⟩:=hown.form (by omega)
   have ho1:=hown.cell hlt
   rw[hI.at_]at ho1
   have ho2:=hown.frozen k
   have hx1:=ha1.lim.nth (by omega) k
   have hy1:=hb1.lim.nth (by omega) k
   have hset:=hown.set k (v:=gZ (nth (trim xs) k) (nth (trim ys) k) C) (Fw _ _ _)
   have hstep:=hI.step (by rw[Hn1.out];exact hlt) ha1.lim hb1.lim
   by_cases hm:k<m1
   ·obtain⟨b2,o2,sp2,rfl,hbb2,hcc2⟩:=(hb1.below hbw).at_ hm
    go_wp2_with fail
    refine(sM _ _ _ _ hx1 hy1 hC).mono ?_
    rintro e w' ⟨rfl,rfl⟩
    go_wp2_with fail
    go_roundw
    case rel=>exact⟨k+1,_,_,by omega,by go_num,rfl,hset,hstep,hbw.setCell hg1 _⟩
    case measure=>simp[intOf];omega
   have hy0:nth (trim ys) k=0:=lF (by rw[Hm1.out];omega)
   rw[hy0]at hset hstep
   clear hy0
   go_wp2_with fail
   refine(sM _ 0 _ _ hx1 (by omega) hC).mono ?_
   rintro e w' ⟨rfl,rfl⟩
   go_wp2_with fail
   go_roundw
   case rel=>exact⟨k+1,_,_,by omega,by go_num,rfl,hset,hstep,hbw.setCell hg1 _⟩
   case measure=>simp[intOf];omega
  obtain rfl:k=n2:=by omega
  have hend:=hI
  rw[←Hn1.out]at hend
  have hend2:=Lib.hid (hend.end_ hown.lim (by rw[Hn1.out,Hm1.out];exact hyx) (by rw[cB,cB];exact hle))
  clear hend
  go_wp2_with fail
  refine(eU _ _ _ _ _ _ hown.u32).mono ?_
  rintro e w' ⟨rfl,rfl⟩
  go_wp2_with fail
  go_ret2
  exact⟨_,_,_,rfl,by rw[←cB 4294967296 xs,←cB 4294967296 ys,←hend2.out,fB (by omega) hown.lim];exact hown.trim,hbw⟩
end Go.Proofs.YtcaakamelngceaaGreatDoor
