/- Part 5 of a proof: Av24 to Nat2. -/
import Derived.Test.YteggpgndiajdpaaGreatDoorM4
import Derived.Laws.BytesArg
import Derived.Lib.ConvBytes
import Derived.Lib.SmallJoins
import Derived.Stop.IfaceNil
import Derived.Test.YteggpgndiajdpaaGreatDoorProg
import Derived.WalkKit
import Derived.WalkSpells
import Derived.WalkLawsBesides
import Derived.Deep.QuietTactic
import Derived.BigQuiet
import Derived.Test.YteggpgndiajdpaaGreatDoorM1
import Derived.Lib.SliceRun
import Derived.KernelRfl
import Derived.Deep.RegionWith
import Derived.Lib.AppendZeros
import Derived.Deep.RegionHeld3
set_option maxRecDepth 100000
set_option linter.unusedVariables false
set_option linter.unusedSimpArgs false
namespace Go.Proofs.YteggpgndiajdpaaGreatDoor
open Go Go.RowKit
def pZ (P:Program) (t n:Nat):Prop:=∃e,P.underlying t=some (.array n e)∧Ty1 P e
section
variable {P:Program}{w:World}{ρ:Operand→Value}{d:Option Nat}{ty:TypeId}{pos:String}{af:Array Edge}{gd:Option (Nat×Bool)}
theorem Dj {t n k:Nat}{x ix:Operand}{cs:List Value}{v:Value}{kk:IntKind}(hT:pZ P t n) (hx:ρ x=.agg cs.toArray) (hi:ρ ix=.int kk (k:Int)) (h1:k<n) (h:cs[k]? =some v):(execOp ρ ⟨d,.index t x ix,ty,pos,af,gd⟩).run P w=.ok (.value v) w:=by
 obtain⟨e,e1,hu⟩:=hT
 have hp:=Hi (w:=w) hu h
 obtain⟨dd,i,h3,h4,h5,h6⟩:=hu
 have h7:((k:Int)<(n:Int)):=by omega
 simp[execOp,hx,hi,Instr.index,asIntOf,run_underlying e1,h1,sizeOf,typeInfo,h5,h6,hp]
 all_goals (intro h9;omega)
theorem Dk {t n:Nat}{z us:List Value}{parts:Array (Nat×Operand)}{ps:List (Nat×Value)}(hT:pZ P t n) (hZ:TyZ P t z) (hps:(parts.map fun x=>(x.1,ρ x.2))=ps.toArray) (hf:dX (fun i=>some (i*1,1)) z ps=some us):
  (execOp ρ ⟨d,.build t parts,ty,pos,af,gd⟩).run P w=.ok (.value (.agg us.toArray)) w:=by
 obtain⟨e,e1,hu⟩:=hT
 obtain⟨dd,i',h8,h9,h10,h11⟩:=hu
 obtain⟨i,v,h3,h4,h5⟩:=hZ
 have hf':=oL _ ps z us hf
 simp only[Nat.mul_one]at hf'
 have hps':(parts.map fun(x:Nat×Operand)=>match x with | (i,x)=>(i,ρ x))=ps.toArray:=hps
 simp[execOp,Instr.build,zeroValue,sizeOf,typeInfo,h3,h4,run_underlying e1,hps',h5,h10,h11,hf']
end
def mN:List AV→List (Nat×FV)→Option (List AV)
 | l,[]=>some l
 | l,(i,.one a)::r=>match lone a&&Nat.blt i l.length with
  | true=>mN (l.set i a) r
  | false=>none
 | _,_=>none
section
variable {W:World}{N:Nat→Prop}{cs:List Co}
theorem yY {a:AV}{u:Value}(ha:AR W N cs a u):∀{l:List AV}{us:List Value}{p:Nat},ARL W N cs l us→ARL W N cs (l.set p a) (us.set p u)
 | [],us,p,h=>by
  simp only[ARL]at h
  subst h
  simp[ARL]
 | b::l,[],p,h=>by simp only[ARL]at h
 | b::l,z::us,0,h=>by
  simp only[ARL]at h
  simp only[List.set_cons_zero,ARL]
  exact⟨ha,h.2⟩
 | b::l,z::us,p+1,h=>by
  simp only[ARL]at h
  simp only[List.set_cons_succ,ARL]
  exact⟨h.1,yY ha h.2⟩
theorem yZ:∀{ps:List (Nat×FV)}{vs:List (Nat×Value)}{l l':List AV}{us:List Value},ARL W N cs l us→mN l ps=some l'→ps.length=vs.length→
  (∀(j:Nat) (p:Nat×FV) (q:Nat×Value),ps[j]? =some p→vs[j]? =some q→p.1=q.1∧aI W N cs p.2 q.2)→∃us',ARL W N cs l' us'∧dX (fun i=>some (i*1,1)) us vs=some us'
 | [],vs,l,l',us,hc,h,hl,_=>by
  obtain rfl:vs=[]:=List.eq_nil_of_length_eq_zero hl.symm
  simp only[mN,Option.some.injEq]at h
  subst h
  exact⟨us,hc,rfl⟩
 | (i,fv)::ps,vs,l,l',us,hc,h,hl,hp=>by
  obtain⟨⟨i',u⟩,vs,rfl⟩:∃q vs',vs=q::vs':=by
   cases vs with
   | nil=>simp at hl
   | cons q vs=>exact⟨q,vs,rfl⟩
  obtain⟨e0,h0⟩:=hp 0 _ _ rfl rfl
  dsimp only at e0 h0
  subst e0
  cases fv with
  | one a=>
   unfold mN at h
   cases hq:lone a&&Nat.blt i l.length with
   | false=>rw[hq]at h;cases h
   | true=>
    rw[hq]at h
    simp only[Bool.and_eq_true]at hq
    have hi:i<us.length:=by
     have h9:=hq.2
     rw[cV hc]
     simpa[Nat.blt,Nat.lt_iff_add_one_le]using h9
    have hu:u.cells.toList=[u]:=by rw[mD (cs:=cs) h0 hq.1]
    obtain⟨us',r1,r2⟩:=yZ (us:=us.set i u) (yY h0 hc) h (by simpa using hl) (fun j p q h1 h2=>hp (j+1) p q (by simpa using h1) (by simpa using h2))
    refine⟨us',r1,?_⟩
    unfold dX
    dsimp only
    have e2:iC us (i*1) u.cells.toList=us.set i u:=by
     rw[hu,Nat.mul_one]
     unfold iC
     rw[List.set_eq_take_append_cons_drop,if_pos hi]
     simp
    have e3:(Nat.beq u.cells.toList.length 1&&Nat.ble (i*1+u.cells.toList.length) us.length)=true:=by
     rw[hu]
     simp
     omega
    rw[e2,e3]
    exact r2
  | any=>simp[mN]at h
  | agg _=>simp[mN]at h
  | tup _=>simp[mN]at h
end
section
variable {x:Cx}{g g':Nat→FV}{ob ob':List (Option Ob)}{cs cs':List Co}{ts ts':Array Value}{W W':World}{T:List (Nat×TI)}{Q:cP}{ops:Array Oper}{rest:List Oper}{d:Nat}{op:Op}{ty:TypeId}{pos:String}{af:Array Edge}{gd:Option (Nat×Bool)}{v:FV}
theorem Qa {t n:Nat}{ti:Bool}{sz:Nat}{z:List Value}{kd:TK}{ps:Array (Nat×Operand)}{l:List AV}(hT:aU x.P T) (ht:aL T t=some ⟨ti,sz,z,kd⟩) (hA:pZ x.P t n) (h:mN (z.map tv) (ps.toList.map fun p=>(p.1,lk x.n g p.2))=some l):
  OS x ⟨some d,.build t ps,ty,pos,af,gd⟩ g ob [] (fun g' ob'=>g'=aK g d (.agg l)∧ob'=ob):=vJ fun cs ts W hR=>by
 have hi:=bF hT ht
 obtain⟨us',h1,h2⟩:=yZ (W:=W) (N:=x.fr W ob cs) (cs:=cs) (us:=z) (vs:=ps.toList.map fun p=>(p.1,Act.eval ⟨ts,[]⟩ p.2)) (gK z) h (by simp) (fun j p q hp hq=>by
  simp only[List.getElem?_map,Option.map_eq_some_iff]at hp hq
  obtain⟨a,ha,rfl⟩:=hp
  obtain⟨b,hb,rfl⟩:=hq
  rw[ha]at hb
  injection hb with hb
  subst hb
  exact⟨rfl,hR.lk _⟩)
 exact⟨.agg us'.toArray,fun W'=>Dk hA hi.2.2.1 (ps:=ps.toList.map fun p=>(p.1,Act.eval ⟨ts,[]⟩ p.2)) (by apply Array.ext';simp only[Array.toList_map]) h2,us',rfl,h1⟩
theorem Qb {t n k:Nat}{a i:Operand}{l:List AV}{kk:IntKind}{b:AV}(hA:pZ x.P t n) (ha:lk x.n g a=.agg l) (hi:lk x.n g i=.one (tv (.int kk (k:Int)))) (hk:k<n) (hb:l[k]? =some b):
  OS x ⟨some d,.index t a i,ty,pos,af,gd⟩ g ob [] (fun g' ob'=>g'=aK g d (.one b)∧ob'=ob):=vJ fun cs ts W hR=>by
 have h1:=hR.lk a
 rw[ha]at h1
 obtain⟨us,e1,h1⟩:=h1
 have h2:=hR.lk i
 rw[hi]at h2
 have h2:=aE (x:=.int kk (k:Int)) h2
 obtain⟨u,hu,hv⟩:=rX h1 hb
 exact⟨u,fun W'=>Dj hA e1 h2 hk hu,hv⟩
theorem bA {t n:Nat}{ti:Bool}{sz:Nat}{z:List Value}{kd:TK}{ps:Array (Nat×Operand)}{l:List AV}(hA:pZ x.P t n) (k:WL x ops rest (aK g d (.agg l)) ob Q) (hT:aU x.P ttab:=by exact aG) (ht:aL ttab t=some ⟨ti,sz,z,kd⟩:=by rfl) (h:mN (z.map tv) (ps.toList.map fun p=>(p.1,lk x.n g p.2))=some l:=by rfl) (hw:aO ops x.n g gd=some true:=by rfl):
  WL x ops (⟨some d,.build t ps,ty,pos,af,gd⟩::rest) g ob Q:=eU (Qa hT ht hA h) hw (by rintro _ _ ⟨rfl,rfl⟩;exact k)
theorem To {t n k:Nat}{a i:Operand}{l:List AV}{kk:IntKind}{b:AV}(hA:pZ x.P t n) (hk:k<n) (hb:l[k]? =some b) (kk':WL x ops rest (aK g d (.one b)) ob Q) (ha:lk x.n g a=.agg l:=by rfl) (hi:lk x.n g i=.one (tv (.int kk (k:Int))):=by rfl) (hw:aO ops x.n g gd=some true:=by rfl):
  WL x ops (⟨some d,.index t a i,ty,pos,af,gd⟩::rest) g ob Q:=eU (Qb hA ha hi hk hb) hw (by rintro _ _ ⟨rfl,rfl⟩;exact kk')
inductive PutL (K:List Nat):List AV→List AV→Prop
 | nil:PutL K [] []
 | sl {i k o n:Nat}{l l':List AV}(h:K[i]? =some k) (h':PutL K l l'):PutL K (.sl i o n::l) (.sl k o n::l')
variable {late:Nat→Bool}{K fr:List Nat}{on:Bool}{fuel:Nat}{listed:Array Bool}
theorem Hw {t key o t' z':Nat}{ti:TI}{a b:Operand}{l l' us:List AV}(i:Nat) (hl:cD l o us=l') (hle:o+us.length≤l.length) (k:WD x ops Q late K fr true fuel (listed.setIfInBounds i true) g (ob.set key (some ⟨t',z',l'⟩))) (hT:aU x.P ttab:=by exact aG) (hr:Region.ready .any ops listed=[i]:=by kernel_rfl) (hi:ops[i]? =some ⟨none,.store t a b,ty,pos,af,gd⟩:=by rfl) (hw:aO ops x.n g gd=some true:=by rfl) (hti:aL ttab t=some ti:=by rfl)
  (hlk:lk x.n g a=.one (.pt key o):=by rfl) (ho:bI ob key=some ⟨t',z',l⟩:=by rfl) (hb:pR (lk x.n g b)=some us:=by rfl) (hlo:cE us=true:=by rfl) (hsz:Nat.beq us.length ti.size=true:=by rfl) (hK:K.contains key=false:=by rfl):WD x ops Q late K fr true (fuel+1) listed g ob:=by
 have hne:∀j∈K,j≠key:=fun j hj e=>by
  subst e
  have:K.contains j=true:=by simpa using hj
  rw[hK]at this
  cases this
 refine Cp i hr hi hw (qO (ty:=ty) (pos:=pos) (af:=af) (gd:=gd) hT hti hlk hb hlo hsz ho hle hl) true (fun _=>⟨rfl,fun j hj hm=>?_⟩) (fun _=>rfl) (fun _ g' ob' hR=>?_) fun g' ob' hR=>?_
 ·rw[List.mem_singleton]at hm
  exact hne j hj hm
 ·obtain⟨rfl,rfl⟩:=hR
  exact⟨fun _ _=>rfl,fun j hj=>List.getElem?_set_ne (fun e=>hne j hj e.symm)⟩
 obtain⟨rfl,rfl⟩:=hR
 exact k
end
section
variable {x:Cx}{g g':Nat→FV}{ob ob':List (Option Ob)}{cs cs':List Co}{ts ts':Array Value}{W W':World}{T:List (Nat×TI)}{Q:cP}{ops:Array Oper}{rest:List Oper}{d:Nat}{op:Op}{ty:TypeId}{pos:String}{af:Array Edge}{gd:Option (Nat×Bool)}{v:FV}
end
def aH (l:List Nat):ByteArray:=⟨(l.map UInt8.ofNat).toArray⟩
def aV (xs:List Nat):List Tr:=xs.map fun(n:Nat)=>.v (.int .u8 (n:Int))
section
variable {l l':List Nat}{i j:Nat}
theorem aP (l:List Nat):(aH l).size=l.length:=by simp[aH,ByteArray.size]
theorem gZ (l:List Nat):(aH l).data.toList=l.map UInt8.ofNat:=rfl
theorem wN {a b:ByteArray}(h:a.data.toList=b.data.toList):a=b:=by
 cases a;cases b
 simp only at h
 rw[Array.toList_inj]at h
 rw[h]
theorem nW (l l':List Nat):aH l++aH l'=aH (l++l'):=wN (by simp[aH])
theorem lL (l:List Nat) (i j:Nat):(aH l).extract i j=aH ((l.take j).drop i):=wN (by
 simp[aH,List.map_drop,List.map_take,List.extract_eq_drop_take',List.extract_eq_take_drop])
theorem iE (h:i<l.length) (h2:nth l i<256):((aH l).data[i]?.getD 0).toNat=nth l i:=by
 have e:(aH l).data[i]? =some (UInt8.ofNat (nth l i)):=by
  rw[←Array.getElem?_toList,gZ,List.getElem?_map]
  simp[nth,h]
 rw[e]
 simp
 omega
theorem Mz {a b:Nat}(ha:a<256) (hb:b<256) (h:UInt8.ofNat a=UInt8.ofNat b):a=b:=by
 have:=congrArg UInt8.toNat h
 simp at this
 omega
theorem Na (h:Lim 256 l) (h':Lim 256 l'):aH l=aH l'↔l=l':=by
 refine⟨fun e=>?_,fun e=>by rw[e]⟩
 have e2:=congrArg (fun a:ByteArray=>a.data.toList) e
 simp only[gZ]at e2
 induction l generalizing l' with
 | nil=>cases l' with
  | nil=>rfl
  | cons x l'=>simp at e2
 | cons x l ih=>cases l' with
  | nil=>simp at e2
  | cons y l'=>
   simp only[List.map_cons,List.cons.injEq]at e2
   rw[Mz (h x (List.mem_cons_self ..)) (h' y (List.mem_cons_self ..)) e2.1,ih (fun z hz=>h z (List.mem_cons_of_mem _ hz)) (fun z hz=>h' z (List.mem_cons_of_mem _ hz)) (by unfold aH;rw[e2.2]) e2.2]
theorem Bb (h:Lim 256 l) (h':Lim 256 l'):((aH l).toList==(aH l').toList)=decide (l=l'):=by
 rw[ByteArray.toList_eq,ByteArray.toList_eq,gZ,gZ,Bool.eq_iff_iff,decide_eq_true_eq,beq_iff_eq,←Na h h']
 exact⟨fun e=>wN e,fun e=>by rw[←gZ,←gZ,e]⟩
theorem Jf (xs:List Nat):strOfNums (xs.map fun(n:Nat)=>(n:Int))=aH xs:=by simp[strOfNums,aH]
end
section
variable {x:Cx}{g:Nat→FV}{ob ob':List (Option Ob)}{cs:List Co}{ts:Array Value}{W:World}{T:List (Nat×TI)}{Q:cP}{ops:Array Oper}{rest:List Oper}{d:Nat}{ty:TypeId}{pos:String}{af:Array Edge}{gd:Option (Nat×Bool)}
theorem fN (xs:List Nat):(aV xs).length=xs.length:=by simp[aV]
theorem Bc (xs:List Nat):eL ((aV xs).map .t)=true:=by
 induction xs with
 | nil=>rfl
 | cons x xs ih=>simpa[aV,eL,jL]using ih
theorem zA (xs:List Nat):cE ((aV xs).map .t)=true:=by
 induction xs with
 | nil=>rfl
 | cons x xs ih=>simpa[aV,cE,lone]using ih
theorem Dl {N:Nat→Prop}:∀{xs:List Nat}{us:List Value},ARL W N cs ((aV xs).map .t) us→us=xs.map fun(n:Nat)=>Value.int .u8 (n:Int)
 | [],us,h=>by simpa[aV,ARL]using h
 | x::xs,u::us,h=>by
  simp only[aV,List.map_cons,ARL,AR,FR]at h
  rw[h.1,Dl (xs:=xs) h.2]
  rfl
 | x::xs,[],h=>by simp[aV,ARL]at h
theorem Nb (hT:aU x.P T){t t2 e by_ ts0:Nat}{zz:Value}{ti:Bool}{z0:List Value}{ie i2:TI}{a:Operand}{av:AV}{xs:List Nat}(ht:aL T t=some ⟨ti,ts0,z0,.sl e 1 by_ zz⟩) (he:aL T e=some ie) (hek:ie.kd=.it .u8) (h2:aL T t2=some i2) (h2k:i2.kd=.str)
  (ha:lk x.n g a=.one av) (hs:SrcA ob 1 av xs.length ((aV xs).map .t)):OS x ⟨some d,.convert t t2 a,ty,pos,af,gd⟩ g ob [] (fun g' ob'=>g'=aK g d (.one (tv (.string (aH xs))))∧ob'=ob):=by
 intro cs ts W hR K Q k
 have h1:=hR.lk a
 rw[ha]at h1
 obtain⟨A,c,us,eu,hrd,hus⟩:=hs.ok (Bc xs) hR h1
 have hus:=Dl hus
 subst hus
 have k1:=(bF hT ht).2.2.2.1
 have k2:=(bF hT he).2.2.2
 have k3:=(bF hT h2).2.2.2
 rw[hek]at k2
 rw[h2k]at k3
 obtain⟨_,q1,_,_⟩:=k1
 have hrun:(execOp (Act.eval ⟨ts,[]⟩) ⟨some d,.convert t t2 a,ty,pos,af,gd⟩).run x.P W=.ok (.value (.string (aH xs))) W:=by
  have hc:=run_convert_bytes_string (P:=x.P) W t t2 e A xs.length c q1 k2 k3
  have hb:(Conv.bytesToString (.slice A xs.length c)).run x.P W=.ok (.string (aH xs)) W:=by
   cases A with
   | none=>
    have hx:xs.length=0:=by
     rcases Nat.eq_zero_or_pos xs.length with h | h
     ·exact h
     obtain⟨ad,q,_⟩:=hrd.cell h
     cases q
    obtain rfl:=List.eq_nil_of_length_eq_zero hx
    simp[Conv.bytesToString,aH]
    rfl
   | some ad=>
    have hl:(loadCells ad xs.length).run x.P W=.ok ((xs.map fun(n:Nat)=>(n:Int)).map (Value.int .u8)).toArray W:=by
     have:=run_loadCells_list (P:=x.P) W ad ((xs.map fun(n:Nat)=>(n:Int)).map (Value.int .u8)) (fun j v hj=>by
      have hj2:=hj
      rw[List.map_map]at hj2
      have hlt:j<xs.length:=by
       have:=(List.getElem?_eq_some_iff.1 hj2).1
       simpa using this
      obtain⟨ad',q,_,q3⟩:=hrd.cell (by omega)
      injection q with q
      subst q
      exact q3 j v hj2)
     simpa using this
    rw[run_bytesToString W ad _ c _ hl,foldl_push_bytes,←Jf]
    simp[strOfNums]
  simp[execOp,eu,hc,hb]
 exact cC hrun (k _ _ _ _ _ ⟨rfl,rfl⟩ (hR.put d (v:=.one (tv (.string (aH xs)))) (dY (by simp[tv,AR,FR]))) (.put d _))
theorem Nc (hT:aU x.P T){t k n sz ts0:Nat}{ti:Bool}{z0:List Value}(ht:aL T t=some ⟨ti,ts0,z0,.ar n sz⟩) (hk:dS ob k=true) (hz:z0.length=n*sz) (hs:Nat.beq sz 0=false) (hn:n≤1000):OS x ⟨some d,.alloc t,ty,pos,af,gd⟩ g ob [] (fun g' ob2=>g'=aK g d (.one (.pt k 0))∧ob2=ob++[some ⟨t,sz,z0.map tv⟩]):=by
 obtain⟨j,v,h1,h2,h3⟩:=(bF hT ht).2.2.1
 have hk:=Nat.eq_of_beq_eq_true hk
 subst hk
 intro cs ts W hR K Q kk
 have hrun:(execOp (Act.eval ⟨ts,[]⟩) ⟨some d,.alloc t,ty,pos,af,gd⟩).run x.P W=.ok (.value (.pointer (some ⟨W.heap.size,0,none⟩))) (W.alloc (.cells z0.toArray t)):=by
  simp[execOp,Instr.alloc,zeroValue,typeInfo,h1,h2,newVar,newRow,h3]
 obtain⟨m1,m2⟩:=hR.made (t:=t) (z:=sz) (c:=n) (gK z0) (nI _) (by rw[hs];exact hz) (by unfold maxLen;omega)
 refine cC hrun (kk _ _ _ _ _ ⟨rfl,rfl⟩ (m1.put d ?_) ((m2 (some d)).then_put _))
 refine dY ?_
 simp only[AR]
 exact⟨W.heap.size,by rw[hR.len,dV],rfl⟩
theorem Tp (key:Nat){t n sz ts0:Nat}{ti:Bool}{z0:List Value}(kk:WL x ops rest (aK g d (.one (.pt key 0))) (ob++[some ⟨t,sz,z0.map tv⟩]) Q) (hT:aU x.P ttab:=by exact aG) (hw:aO ops x.n g gd=some true:=by rfl) (ht:aL ttab t=some ⟨ti,ts0,z0,.ar n sz⟩:=by rfl) (hk:dS ob key=true:=by rfl) (hz:z0.length=n*sz:=by rfl) (hs:Nat.beq sz 0=false:=by rfl) (hn:n≤1000:=by decide):WL x ops (⟨some d,.alloc t,ty,pos,af,gd⟩::rest) g ob Q:=
 eU (Nc hT ht hk hz hs hn) hw (by rintro _ _ ⟨rfl,rfl⟩;exact kk)
theorem Qc {ta t e z by_ n m k d1 t' ts2:Nat}{zz:Value}{ti ti2:Bool}{ts0:Nat}{z0 z2:List Value}{s a:Operand}{av:AV}{l la:List AV}{ty1:TypeId}{pos1:String}{af1:Array Edge}{gd1:Option (Nat×Bool)}(j:Nat) (hd:DstA ob e z av n ob' l) (hr:eL la=true) (hlo:cE la=true) (hla:la.length=m*z) (hbytes:(n+m)*by_≤140737488355328) (h63:n+m≤140737488355328)
  (kk:WL x ops rest (aK (aK g d1 .any) d (.one (.sl j 0 (n+m)))) (ob'++[some ⟨e,z,l++la⟩]) Q)
  (hT:aU x.P ttab:=by exact aG) (hta:aL ttab ta=some ⟨ti2,ts2,z2,.ar m z⟩:=by rfl) (ht:aL ttab t=some ⟨ti,ts0,z0,.sl e z by_ zz⟩:=by rfl) (hsl:lk x.n g s=.one (.pt k 0):=by rfl) (hob:bI ob k=some ⟨t',z,la⟩:=by rfl) (ha:lk x.n (aK g d1 .any) a=.one av:=by rfl) (hj:dS ob j=true:=by rfl) (hd1:Nat.blt d1 x.n=true:=by rfl)
  (hw1:aO ops x.n g gd1=some true:=by rfl) (hw2:aO ops x.n (aK g d1 .any) gd=some true:=by rfl):
  WL x ops (⟨some d1,.slice ta s none none none,ty1,pos1,af1,gd1⟩::⟨some d,.call ⟨.builtin .append, #[a,.tmp d1], #[t,t]⟩,ty,pos,af,gd⟩::rest) g ob Q:=by
 intro ts W ⟨cs,hR⟩
 have hd1:d1<x.n:=by simpa using hd1
 have h1:=hR.lk s
 rw[hsl]at h1
 simp only[aI,aR,AR]at h1
 obtain⟨b,hb,e1⟩:=h1
 have k1:=(bF hT hta).2.2.2
 obtain⟨ee,ii,q1,q2,q3⟩:=k1
 have hb0:(Instr.sliceBounds false m m none none none).run x.P W=.ok (0,m,m) W:=by
  simp[Instr.sliceBounds]
 have hrun:(execOp (Act.eval ⟨ts,[]⟩) ⟨some d1,.slice ta s none none none,ty1,pos1,af1,gd1⟩).run x.P W=.ok (.value (.slice (some ⟨b,0,none⟩) m m)) W:=by
  simp[execOp,e1,Instr.sliceAt,run_underlying q1,Instr.sureAddr,hb0,sizeOf,typeInfo,q2,Addr.add]
 refine vF (gA hw1 hR) (cC hrun ?_)
 have hR1:=hR.put d1 (v:=.any) (u:=.slice (some ⟨b,0,none⟩) m m) trivial
 obtain⟨Wr,h,_⟩:=yT (x:=x) (g:=aK g d1 .any) (E:=fun cs ts=>∃b,(co cs k).b=some b∧Act.eval ⟨ts,[]⟩ (.tmp d1)=.slice (some ⟨b,0,none⟩) m m) (d:=d) (ty:=ty) (pos:=pos) (af:=af) (gd:=gd) (b:=.tmp d1) hT ht ha hd (fun cs ts W hR ⟨b,hb,e⟩=>by
  have hk:=bS hob
  obtain⟨k1,_,k3⟩:=hR.blk hk hb
  have hcl:=hR.crl hk
  have h4:=jM hcl hr
  refine⟨_,m,_,e,⟨by rw[cV h4,hla],Nat.le_refl _,by omega,fun h0=>⟨_,rfl,hR.blkS hk b (by simp[aC,hb]),fun j u hj=>?_⟩⟩,h4⟩
  have h6:=jI k1 hj
  simpa using h6) hr hlo hj hbytes h63
 refine vF (gA hw2 hR1) (h cs _ W hR1 ⟨b,hb,?_⟩ _ _ fun g' ob' cs' ts' W' hr hR' _=>?_)
 ·have:d1<ts.size:=by rw[hR.sz];exact hd1
  simp[Act.eval,this]
 obtain⟨rfl,rfl⟩:=hr
 exact kk ts' W' ⟨cs',hR'⟩
theorem Bd {late:Nat→Bool}{K fr:List Nat}{fuel:Nat}{listed:Array Bool}{t ky o t' z':Nat}{ti:TI}{a:Operand}{l:List AV}{v:AV}(i:Nat) (hx:l[o]? =some v) (k:WD x ops Q late K (d::fr) true fuel (listed.setIfInBounds i true) (aK g d (.one v)) ob) (hT:aU x.P ttab:=by exact aG) (hi:ops[i]? =some ⟨some d,.load t a,ty,pos,af,gd⟩:=by rfl) (hw:aO ops x.n g gd=some true:=by rfl) (hti:aL ttab t=some ti:=by rfl) (hlk:lk x.n g a=.one (.pt ky o):=by rfl) (ho:bI ob ky=some ⟨t',z',l⟩:=by rfl) (ha:ti.agg=false:=by rfl) (hr:jL v=true:=by rfl):WO x ops Q late K fr true fuel listed i g ob:=
 sN (v:=.one v) i hi rfl hw (Hm hT hti (by rw[hlk];exact Db ho hx ha hr)) (by rintro _ _ ⟨rfl,rfl⟩;exact⟨rfl,fun _ _=>rfl⟩) (by rintro _ _ ⟨rfl,rfl⟩;exact k)
theorem Tq {t t2 e by_ ts0:Nat}{zz:Value}{ti:Bool}{z0:List Value}{ie i2:TI}{a:Operand}{av:AV}{xs:List Nat}{m:Nat}(hs:SrcA ob 1 av m ((aV xs).map .t)) (hm:m=xs.length) (kk:WL x ops rest (aK g d (.one (tv (.string (aH xs))))) ob Q) (hT:aU x.P ttab:=by exact aG) (hw:aO ops x.n g gd=some true:=by rfl) (ht:aL ttab t=some ⟨ti,ts0,z0,.sl e 1 by_ zz⟩:=by rfl) (he:aL ttab e=some ie:=by rfl) (hek:ie.kd=.it .u8:=by rfl) (h2:aL ttab t2=some i2:=by rfl) (h2k:i2.kd=.str:=by rfl) (ha:lk x.n g a=.one av:=by rfl):WL x ops (⟨some d,.convert t t2 a,ty,pos,af,gd⟩::rest) g ob Q:=
 eU (Nb hT ht he hek h2 h2k ha (hm▸hs)) hw (by rintro _ _ ⟨rfl,rfl⟩;exact kk)
theorem gP (xs:List Nat){k:Nat}(h:k<xs.length):((aV xs).drop (k*1)).take [Tr.v (.int .u8 ((nth xs k:Nat):Int))].length=[Tr.v (.int .u8 ((nth xs k:Nat):Int))]:=by
 rw[Nat.mul_one]
 have:(aV xs)[k]? =some (Tr.v (.int .u8 ((nth xs k:Nat):Int))):=by simp[aV,aY h,h]
 rw[List.length_singleton,List.take_one]
 simp[this]
theorem uR (xs:List Nat){k:Nat}(h:k<xs.length):((aV xs).map AV.t)[0+k*1]? =some (tv (.int .u8 ((nth xs k:Nat):Int))):=by simp[aV,aY h,h,tv]
theorem nX (xs:List Nat){k v:Nat}(h:k<xs.length):cD ((aV xs).map AV.t) (0+k*1) [tv (.int .u8 (v:Int))]=(aV (xs.set k v)).map .t:=by
 rw[Nat.zero_add,Nat.mul_one,List.set_eq_take_append_cons_drop,if_pos h]
 simp[cD,aV,tv,List.map_take,List.map_drop]
theorem qT (xs:List Nat){k:Nat}{a:AV}(h:k<xs.length):0+k*1+[a].length≤((aV xs).map AV.t).length:=by simp[aV];omega
theorem Qd (xs:List Nat):((aV xs).map AV.t).take (xs.length*1)=(aV xs).map .t:=by rw[Nat.mul_one,List.take_of_length_le (by simp[fN])]
theorem Be (xs:List Nat):((aV xs).map AV.t).length=xs.length*1:=by simp[fN]
theorem lM (xs ys:List Nat):(aV xs).map AV.t++(aV ys).map .t=(aV (xs++ys)).map .t:=by simp[aV]
end
theorem cL {fresh:Bool}{x:Cx}{T:List (Nat×TI)}{rv:List ResultVar}{e:Exit}{g:Nat→FV}{ob:List (Option Ob)}{b b':Bool}(he:e=.ret∨e=.normal) (res:kT T x.n g ob rv=some [.one (tv (.bool b))]) (hb:b=b'):sK x T rv fresh [] (bC (.one (tv (.bool b')))) e g ob:=en he res (eA (cY _)) (by decide) (fun _=>trivial) (by rw[hb];rfl)
theorem Nd {b b':Bool}(h:b=b'):some (FV.one (tv (.bool b)))=some (FV.one (tv (.bool b'))):=by rw[h]
theorem zB {b:Bool}(h:(!b)=false):b=true:=by cases b <;> simp_all
theorem Hz {b:Bool}(h:(!b)=true):b=false:=by cases b <;> simp_all
theorem nY {k:IntKind}{a b:Int}(h:a=b):some (FV.one (tv (.int k a)))=some (FV.one (tv (.int k b))):=by rw[h]
theorem lN (l:List Nat) (i:Nat):(aH l).extract i (aH l).size=aH (l.drop i):=by
 rw[lL,aP,List.take_of_length_le (Nat.le_refl _)]
theorem jT {l:List Nat}(h:Lim 256 l):((aH l).toList==(⟨#[]⟩:ByteArray).toList)=decide (l=[]):=Bb (l':=[]) h Lim.nil
theorem jB {B:Nat}{l:List Nat}{k:Nat}(h:Lim B l) (hk:k<l.length):nth l k<B:=by
 rw[aY hk]
 exact h _ (List.getElem_mem hk)
theorem qA {B:Nat}{l:List Nat}(h:Lim B l) (k:Nat):Lim B (l.drop k):=fun x hx=>h x (List.mem_of_mem_drop hx)
theorem sT {B:Nat}{l:List Nat}(h:Lim B l):Lim B l.reverse:=fun x hx=>h x (List.mem_reverse.1 hx)
theorem Dm {l:List Nat}{c:Nat}(h1:0<l.length) (h2:nth l 0=c):(l.drop 1).dropWhile (· ==c)=l.dropWhile (· ==c):=by
 cases l with
 | nil=>simp at h1
 | cons x l=>
  have:x=c:=h2
  simp[this]
theorem Bf {l:List Nat}{c:Nat}(h1:l.length=0):l=l.dropWhile (· ==c):=by
 rw[List.eq_nil_of_length_eq_zero h1];rfl
theorem Bg {l:List Nat}{c:Nat}(h1:0<l.length) (h2:¬nth l 0=c):l=l.dropWhile (· ==c):=by
 cases l with
 | nil=>simp at h1
 | cons x l=>
  have:¬x=c:=h2
  simp[this]
def dG (xs:List Nat) (k:Nat):List Nat:=(List.range xs.length).map fun i=>if i<k∨xs.length-k≤i then nth xs (xs.length-1-i)else nth xs i
theorem fO (xs:List Nat) (k:Nat):(dG xs k).length=xs.length:=by simp[dG]
theorem jC {xs:List Nat}{k i:Nat}(h:i<xs.length):nth (dG xs k) i=if i<k∨xs.length-k≤i then nth xs (xs.length-1-i)else nth xs i:=by
 rw[aY (by rw[fO];exact h)]
 simp[dG]
theorem qB {xs ys:List Nat}(h:xs.length=ys.length) (h2:∀i,i<xs.length→nth xs i=nth ys i):xs=ys:=by
 refine List.ext_getElem h fun i h1 h3=>?_
 have:=h2 i h1
 rwa[aY h1,aY h3]at this
theorem Qe (xs:List Nat):xs=dG xs 0:=qB (by rw[fO]) fun i hi=>by
 rw[jC hi,if_neg (by omega)]
theorem Jg {xs:List Nat}{i:Nat}(h:i<xs.length):nth xs.reverse i=nth xs (xs.length-1-i):=by
 rw[aY (by simpa using h),aY (by omega),List.getElem_reverse]
theorem Jh {xs:List Nat}{k:Nat}(h:xs.length≤2*k+1):dG xs k=xs.reverse:=qB (by rw[fO,List.length_reverse]) fun i hi=>by
 rw[fO]at hi
 rw[jC hi,Jg hi]
 by_cases h1:i<k∨xs.length-k≤i
 ·rw[if_pos h1]
 rw[if_neg h1,show xs.length-1-i=i by omega]
theorem wO {xs:List Nat}{k i v:Nat}(h:k<xs.length):nth (xs.set k v) i=if i=k then v else nth xs i:=by
 unfold nth
 rw[List.getD_eq_getElem?_getD,List.getD_eq_getElem?_getD,List.getElem?_set]
 by_cases h1:k=i
 ·subst h1
  simp[h]
 rw[if_neg h1,if_neg (fun e=>h1 e.symm)]
theorem Ia {xs:List Nat}{k:Nat}(h:2*k+1<xs.length):((dG xs k).set k (nth (dG xs k) (xs.length-1-k))).set (xs.length-1-k) (nth (dG xs k) k)=dG xs (k+1):=by
 have e1:nth (dG xs k) k=nth xs k:=by rw[jC (by omega),if_neg (by omega)]
 have e2:nth (dG xs k) (xs.length-1-k)=nth xs (xs.length-1-k):=by rw[jC (by omega),if_neg (by omega)]
 rw[e1,e2]
 refine qB (by simp[fO]) fun i hi=>?_
 simp only[List.length_set,fO]at hi
 rw[wO (by simp only[List.length_set,fO];omega),wO (by rw[fO];omega),jC (k:=k+1) hi,jC (k:=k) hi]
 by_cases h1:i=xs.length-1-k
 ·subst h1
  rw[if_pos rfl,if_pos (by omega),show xs.length-1-(xs.length-1-k)=k by omega]
 rw[if_neg h1]
 by_cases h2:i=k
 ·subst h2
  rw[if_pos rfl,if_pos (by omega)]
 rw[if_neg h2]
 by_cases h3:i<k∨xs.length-k≤i
 ·rw[if_pos h3,if_pos (by omega)]
 rw[if_neg h3,if_neg (by omega)]
def fd (n v:Nat):List Nat:=(List.range n).map fun i=>v/10^i%10
theorem iK (n v:Nat):(fd n v).length=n:=by simp[fd]
theorem Nf (n v:Nat):fd (n+1) v=fd n v++[v/10^n%10]:=by simp[fd,List.range_succ]
theorem Ng (n v:Nat):Lim 10 (fd n v):=fun x hx=>by
 obtain⟨i,_,rfl⟩:=List.mem_map.1 hx
 exact Nat.mod_lt _ (by omega)
theorem Qf (n v:Nat):vl 10 (fd n v)=v%10^n:=by
 induction n with
 | zero=>simp[fd,vl,Nat.mod_one]
 | succ n ih=>rw[Nf,fA,ih,iK,Nat.pow_succ,Nat.mod_mul]
def bT (l:List Nat):List Nat:=l.map fun d=>48+d
theorem dM (l:List Nat):(bT l).length=l.length:=by simp[bT]
theorem zC (l m:List Nat):bT l++bT m=bT (l++m):=by simp[bT]
theorem sV {l:List Nat}(h:Lim 10 l):Lim 256 (bT l):=fun x hx=>by
 obtain⟨d,hd,rfl⟩:=List.mem_map.1 hx
 have:=h d hd
 omega
def tx (v:Nat):List Nat:=if v=0 then [48]else(bT (dg 10 v)).reverse
theorem Dn (v:Nat):Lim 256 (tx v):=by
 unfold tx
 split
 ·exact Lim.cons (by omega) Lim.nil
 exact sT (sV (bE (by omega) v))
theorem Do (l:List Nat):(bT l).reverse.dropWhile (· ==48)=(bT (trim l)).reverse:=by
 induction l with
 | nil=>rfl
 | cons d l ih=>
  have e:bT (d::l)=(48+d)::bT l:=rfl
  rw[e,List.reverse_cons,List.dropWhile_append,ih,cZ]
  by_cases h:trim l=[]
  ·rw[h]
   simp only[bT,List.map_nil,List.reverse_nil,List.isEmpty_nil,if_true,true_and]
   by_cases h0:d=0
   ·subst h0;simp
   rw[if_neg h0,List.dropWhile_cons,if_neg (by simp;omega)];rfl
  have h2:((bT (trim l)).reverse).isEmpty=false:=by
   cases hq:trim l with
   | nil=>exact absurd hq h
   | cons a b=>simp[bT]
  rw[h2,if_neg (by simp),if_neg (fun hh=>h hh.1)]
  simp[bT]
theorem uS {l:List Nat}{v:Nat}(h:Lim 10 l) (hv:vl 10 l=v):(bT l).reverse.dropWhile (· ==48)=(if v=0 then []else tx v):=by
 rw[Do,fL (by omega) h hv]
 unfold tx
 by_cases h0:v=0
 ·rw[if_pos h0,h0,fK];rfl
 rw[if_neg h0,if_neg h0]
theorem Bh (v:Nat):tx v≠[]:=by
 unfold tx
 split
 ·simp
 rename_i h
 intro e
 have:=congrArg List.length e
 simp only[List.length_reverse,dM,List.length_nil]at this
 exact h ((bX (by omega)).1 (List.eq_nil_of_length_eq_zero this))
theorem Nh {i r:Nat}{nV:List Nat}(hi:i<9) (ho:nV.length=9):(bT (fd i r)++nV.drop i).set i (48+r/10^i%10)=bT (fd (i+1) r)++nV.drop (i+1):=by
 rw[List.set_append_right _ _ (by rw[dM,iK];omega),dM,iK,Nat.sub_self,List.drop_eq_getElem_cons (by omega),List.set_cons_zero,Nf,←zC,List.append_assoc]
 rfl
theorem Qg {ds:List Nat}{u v:Nat}(h:vl 10 ds+10^ds.length*u=v):vl 10 (ds++fd 9 (u%1000000000))+10^(ds++fd 9 (u%1000000000)).length*(u/1000000000)=v:=by
 rw[nB,Qf,List.length_append,iK,Nat.pow_add,←h,show(10:Nat)^9=1000000000 by rfl,Nat.mod_mod,Nat.mul_assoc,Nat.add_assoc,←Nat.mul_add,Nat.mod_add_div]
theorem Ji {ds:List Nat}{u v L:Nat}(h:vl 10 ds+10^ds.length*u=v) (hu:0<u) (hv:v<4294967296^L):ds.length≤10*L:=by
 have h1:10^ds.length≤v:=by
  have:=Nat.le_mul_of_pos_right (10^ds.length) hu
  omega
 have h2:(4294967296:Nat)^L≤10^(10*L):=by rw[Nat.pow_mul];exact Nat.pow_le_pow_left (by omega) L
 exact Nat.le_of_lt ((Nat.pow_lt_pow_iff_right (a:=10) (by omega)).1 (Nat.lt_of_le_of_lt h1 (Nat.lt_of_lt_of_le hv h2)))
theorem Ni {B:Nat}{l:List Nat}{p:Nat→Bool}(h:Lim B l):Lim B (l.dropWhile p):=fun x hx=>h x ((List.dropWhile_sublist p).subset hx)
theorem Jj {ds:List Nat}{v:Nat}(hd:Lim 10 ds) (hv:vl 10 ds=v) (h:(!decide ((bT ds).reverse.dropWhile (· ==48)=[]))=true):(bT ds).reverse.dropWhile (· ==48)=tx v:=by
 have h1:=of_decide_eq_false (by simpa using h:decide ((bT ds).reverse.dropWhile (· ==48)=[])=false)
 rw[uS hd hv]at h1⊢
 by_cases h0:v=0
 ·rw[if_pos h0]at h1;exact absurd rfl h1
 rw[if_neg h0]
theorem Nj {ds:List Nat}{v:Nat}(hd:Lim 10 ds) (hv:vl 10 ds=v) (h:(!decide ((bT ds).reverse.dropWhile (· ==48)=[]))=false):[48]=tx v:=by
 have h1:=of_decide_eq_true (zB h)
 rw[uS hd hv]at h1
 by_cases h0:v=0
 ·rw[h0];rfl
 rw[if_neg h0]at h1;exact absurd h1 (Bh v)
theorem iX {B u:Nat}(h:0<(dg B u).length):0<u:=by
 rcases Nat.eq_zero_or_pos u with h0 | h0
 ·subst h0;simp[fK]at h
 exact h0
theorem Nk {ob:List (Option Ob)}{k t m:Nat}{xs:List Nat}(h:bI ob k=some ⟨t,1,(aV xs).map .t⟩) (hm:m=xs.length):SrcA ob 1 (.sl k 0 m) m ((aV xs).map .t):=by
 subst hm
 exact .sl h (by rw[List.drop_zero];exact Qd xs) (Be xs)
theorem Qh {n:Nat}(h:n<4294967296):gG .u32 (n:Int):=by simp only[gG];omega
section
variable {x:Cx}{g:Nat→FV}{ob ob':List (Option Ob)}{cs:List Co}{ts:Array Value}{W:World}{T:List (Nat×TI)}{Q:cP}{ops:Array Oper}{rest:List Oper}{d:Nat}{ty:TypeId}{pos:String}{af:Array Edge}{gd:Option (Nat×Bool)}
theorem Dp {N:Nat→Prop}{ad:Addr}:∀{l:List Nat}{o:Nat},(∀j,j<l.length→W.cell? (ad.add (o+j))=some (.int .u8 ((nth l j:Nat):Int)))→FRc W N ad o (aV l)
 | [],_,_=>by simp[aV,FRc]
 | y::l,o,h=>by
  have h0:=h 0 (by simp)
  have ih:=Dp (l:=l) (o:=o+1) (N:=N) (ad:=ad) fun j hj=>by
   have:=h (j+1) (by simpa using hj)
   rw[show o+1+j=o+(j+1) by omega]
   exact this
  simp only[aV,List.map_cons,FRc]
  exact⟨⟨_,h0,by simp[FR,nth]⟩,ih⟩
theorem Nl (hT:aU x.P T){t t2 e by_ ts0:Nat}{zz:Value}{ti:Bool}{z0:List Value}{ie i1:TI}{a:Operand}{l:List Nat}(h1:aL T t=some i1) (h1k:i1.kd=.str) (h2:aL T t2=some ⟨ti,ts0,z0,.sl e 1 by_ zz⟩) (he:aL T e=some ie) (hek:ie.kd=.it .u8) (ha:lk x.n g a=.one (tv (.string (aH l)))) (hl:Lim 256 l) (hn:l.length≤1000000):
  OS x ⟨some d,.convert t t2 a,ty,pos,af,gd⟩ g ob [] (fun g' ob'=>g'=aK g d (.one (.t (.s false e 1 l.length (aV l))))∧ob'=ob):=by
 intro cs ts W hR K Q k
 have e1:=hR.lk a
 rw[ha]at e1
 have e1:=aE e1
 have k1:=(bF hT h1).2.2.2
 have k2:=(bF hT h2).2.2.2.1
 have k3:=(bF hT he).2.2.2
 rw[h1k]at k1
 rw[hek]at k3
 obtain⟨_,q1,_,_⟩:=k2
 have hc:=Lib.run_convert_string_bytes (P:=x.P) W t t2 e (aH l) k1 q1 k3
 rw[aP]at hc
 have hrun:(execOp (Act.eval ⟨ts,[]⟩) ⟨some d,.convert t t2 a,ty,pos,af,gd⟩).run x.P W=.ok (.value (.slice (some ⟨W.heap.size,0,none⟩) l.length (grownCap W l.length 0 e))) (Lib.bytesWorld W e (aH l)):=by
  simp[execOp,e1,hc]
 have hb:=Joins.below_bytesWorld W.heap.size W e (aH l) (Nat.le_refl _)
 have hR':=hR.ext hb
 have hcap:=grownCap_ge W l.length 0 e
 have hcm:=grownCap_le_maxLen W l.length 0 e (by unfold maxLen;omega)
 have hfr:x.fr (Lib.bytesWorld W e (aH l)) ob cs W.heap.size:=by
  refine⟨⟨by rw[Lib.bytesWorld_size];omega,fun hm=>?_⟩,.inr (.inr hR.2.chg.size)⟩
  exact absurd (hR.2.blk _ hm).2 (Nat.lt_irrefl _)
 refine cC hrun (k _ _ _ _ _ ⟨rfl,rfl⟩ (hR'.put d (v:=.one (.t (.s false e 1 l.length (aV l)))) (dY ?_)) ?_)
 ·simp only[AR,FR]
  refine⟨_,_,rfl,hcap,by unfold maxLen at hcm;omega,by simp[fN],.inr ⟨_,rfl,hfr,Dp fun j hj=>?_⟩⟩
  have:=Lib.bytesWorld_cell W e (aH l) j (by rw[aP];exact hj)
  rw[Nat.zero_add,show(⟨W.heap.size,0,none⟩:Addr).add j=⟨W.heap.size,j,none⟩ by cases j <;> simp[Addr.add]]
  refine this.trans (congrArg (fun n:Nat=>some (Value.int .u8 (n:Int))) ?_)
  have h9:nth l j<256:=by
   rw[aY hj]
   exact hl _ (List.getElem_mem hj)
  rw[←iE hj h9,List.getD_eq_getElem?_getD,Array.getElem?_toList]
 exact(hR.below hb (some d)).then_put _
theorem Ts {t t2 e by_ ts0:Nat}{zz:Value}{ti:Bool}{z0:List Value}{ie i1:TI}{a:Operand}{l:List Nat}(hl:Lim 256 l) (hn:l.length≤1000000) (kk:WL x ops rest (aK g d (.one (.t (.s false e 1 l.length (aV l))))) ob Q) (hT:aU x.P ttab:=by exact aG) (hw:aO ops x.n g gd=some true:=by rfl) (h1:aL ttab t=some i1:=by rfl) (h1k:i1.kd=.str:=by rfl) (h2:aL ttab t2=some ⟨ti,ts0,z0,.sl e 1 by_ zz⟩:=by rfl) (he:aL ttab e=some ie:=by rfl) (hek:ie.kd=.it .u8:=by rfl) (ha:lk x.n g a=.one (tv (.string (aH l))):=by rfl):WL x ops (⟨some d,.convert t t2 a,ty,pos,af,gd⟩::rest) g ob Q:=
 eU (Nl hT h1 h1k h2 he hek ha hl hn) hw (by rintro _ _ ⟨rfl,rfl⟩;exact kk)
theorem Tt {t t2:Nat}{a:Operand}(kk:WL x ops rest (aK g d (.one (tv (.bool false)))) ob Q) (hi:x.P.isIface t=true) (hw:aO ops x.n g gd=some true:=by rfl) (ha:lk x.n g a=.one (tv .nilIface):=by rfl):WL x ops (⟨some d,.binOp .neq t a (.const .nilIface) t2,ty,pos,af,gd⟩::rest) g ob Q:=by
 refine eU (Wr:=[]) (R:=fun g' ob'=>g'=aK g d (.one (tv (.bool false)))∧ob'=ob) (fun cs ts W hR K Q kk=>?_) hw (by rintro _ _ ⟨rfl,rfl⟩;exact kk)
 have e1:=hR.lk a
 rw[ha]at e1
 have e1:=aE e1
 have h2:=run_neq_nil_nil_at (P:=x.P) W t hi
 have hrun:(execOp (Act.eval ⟨ts,[]⟩) ⟨some d,.binOp .neq t a (.const .nilIface) t2,ty,pos,af,gd⟩).run x.P W=.ok (.value (.bool false)) W:=by
  have e2:Act.eval ⟨ts,[]⟩ (.const .nilIface)=.nilIface:=rfl
  simp[execOp,e1,e2,eqGuard,h2]
 exact cC hrun (kk _ _ _ _ _ ⟨rfl,rfl⟩ (hR.put d (v:=.one (tv (.bool false))) (dY (by simp[tv,AR,FR]))) (.put d _))
end
theorem Dq (x:Int) (w:World):Calls Tryz.prog 143 #[.int .i64 x] w fun e w'=>e=.returned (.bool false)∧w=w':=by
 go_enter Tryz.func143,Tryz.ntmps143
 go_wp2
 go_ret
 simp
theorem Dr (x:Int) (w:World):Calls Tryz.prog 144 #[.int .u32 x] w fun e w'=>e=.returned (.bool false)∧w=w':=by
 go_enter Tryz.func144,Tryz.ntmps144
 go_wp2
 go_ret
 simp
def hG (x y:Int):Int:=if x<y then-1 else if y<x then 1 else 0
theorem xQ (x y:Int) (w:World):Calls Tryz.prog 116 #[.int .i64 x,.int .i64 y] w fun e w'=>e=.returned (.int .i64 (hG x y))∧w=w':=by
 go_enter Tryz.func116,Tryz.ntmps116
 go_wp2_with (first
  | (go_at_call 143;refine(Dq _ _).mono ?_;rintro e w' ⟨rfl,rfl⟩))
 all_goals (go_ret;refine⟨lB ?_,rfl⟩;show _=hG x y;unfold hG;(repeat' split) <;> first | rfl | omega)
theorem xR (x y:Int) (w:World):Calls Tryz.prog 117 #[.int .u32 x,.int .u32 y] w fun e w'=>e=.returned (.int .i64 (hG x y))∧w=w':=by
 go_enter Tryz.func117,Tryz.ntmps117
 go_wp2_with (first
  | (go_at_call 144;refine(Dr _ _).mono ?_;rintro e w' ⟨rfl,rfl⟩))
 all_goals (go_ret;refine⟨lB ?_,rfl⟩;show _=hG x y;unfold hG;(repeat' split) <;> first | rfl | omega)
theorem gQ (x y c:Int) (w:World) (x0:0≤x) (x1:x<4294967296) (y0:0≤y) (y1:y<4294967296) (c0:0≤c) (c1:c<4294967296):
  Calls Tryz.prog 107 #[.int .u32 x,.int .u32 y,.int .u32 c] w fun e w'=>e=.returned (.tuple #[.int .u32 ((x+y+c)%4294967296),.int .u32 ((x+y+c)/4294967296)])∧w=w':=by
 go_enter Tryz.func107,Tryz.ntmps107
 go_wp2
 go_ret2
 exact⟨rfl,rfl⟩
theorem wP (x y:Int) (x0:0≤x) (x1:x<4294967296) (y0:0≤y) (y1:y<4294967296):0≤x*y∧x*y≤18446744065119617025:=by
 refine⟨Int.mul_nonneg x0 y0,?_⟩
 have:=Int.mul_le_mul (show x≤4294967295 by omega) (show y≤4294967295 by omega) y0 (by omega)
 omega
theorem Bi (x y:Int) (w:World) (x0:0≤x) (x1:x<4294967296) (y0:0≤y) (y1:y<4294967296):
  Calls Tryz.prog 109 #[.int .u32 x,.int .u32 y] w fun e w'=>e=.returned (.tuple #[.int .u32 (x*y/4294967296),.int .u32 (x*y%4294967296)])∧w=w':=by
 obtain⟨p0,p1⟩:=wP x y x0 x1 y0 y1
 go_enter Tryz.func109,Tryz.ntmps109
 go_wp2
 go_ret2
 exact⟨rfl,rfl⟩
theorem Ds (h l:Int) (h0:0≤h) (h1:h<4294967296) (l0:0≤l) (l1:l<4294967296):
  bits BinOp.or IntKind.u64 (h*4294967296) l=h*4294967296+l:=by
 obtain⟨a,rfl⟩:=Int.eq_ofNat_of_zero_le h0
 obtain⟨b,rfl⟩:=Int.eq_ofNat_of_zero_le l0
 have e:((a:Int)*4294967296)=((a*4294967296:Nat):Int):=by omega
 have e2:a*4294967296 ||| b=a*4294967296+b:=by
  have:=Nat.two_pow_add_eq_or_of_lt (i:=32) (b:=b) (by omega) a
  rw[Nat.mul_comm]at this
  simpa using this.symm
 rw[e,bits_or_u64_nat _ _ (by omega) (by omega),e2]
 omega
theorem Nm (h l d:Int) (h0:0≤h) (hd:h<d) (l0:0≤l) (l1:l<4294967296):
  0≤(h*4294967296+l)/d∧(h*4294967296+l)/d<4294967296∧0≤(h*4294967296+l)%d∧(h*4294967296+l)%d<d:=by
 have hp:0<d:=by omega
 refine⟨Int.ediv_nonneg (by omega) (by omega),Int.ediv_lt_of_lt_mul hp ?_,Int.emod_nonneg _ (by omega),Int.emod_lt_of_pos _ hp⟩
 have:(h+1)*4294967296≤d*4294967296:=Int.mul_le_mul_of_nonneg_right (by omega) (by omega)
 rw[Int.mul_comm 4294967296 d]
 omega
theorem Bj (h l d:Int) (w:World) (h0:0≤h) (hd:h<d) (l0:0≤l) (l1:l<4294967296) (d1:d<4294967296):
  Calls Tryz.prog 112 #[.int .u32 h,.int .u32 l,.int .u32 d] w fun e w'=>
   e=.returned (.tuple #[.int .u32 ((h*4294967296+l)/d),.int .u32 ((h*4294967296+l)%d)])∧∃n,w'=w.drewN n:=by
 have hne:(d != 0)=true:=by rw[bne_iff_ne];omega
 have hne2:¬d=0:=by omega
 have hle:decide (d≤h)=false:=by simp;omega
 have hor:=Ds h l h0 (by omega) l0 l1
 obtain⟨q0,q1,r0,r1⟩:=Nm h l d h0 hd l0 l1
 go_enter Tryz.func112,Tryz.ntmps112
 go_wp2
 go_quiet (fail)
 go_wp2
 go_ret2
 exact⟨rfl,_,rfl⟩
def lenOf:Value→Nat | .slice _ n _=>n | _=>0
set_option maxHeartbeats 400000 in
theorem eM (A:Option Addr) (n c:Nat) (xs:List Nat) (B:Nat) (w:World) (h:U32 w B A n c xs):
  Calls Tryz.prog 108 #[.slice A n c] w fun e w'=>e=.returned (.slice A (trim xs).length c)∧w=w':=by
 have hbig:=h.big
 have hcap:=h.cap
 go_enter Tryz.func108,Tryz.ntmps108
 go_wp2
 go_loop [0] (fun a=>∃k:Nat,k≤n∧a=.slice A k c∧Hid (trim (xs.take k)=trim xs)) (fun a=>lenOf a)
 case atStart=>exact⟨n,Nat.le_refl _,rfl,by have:=h.len;rw[List.take_of_length_le (by omega)];exact rfl⟩
 case round=>
  obtain⟨k,hk,rfl,ht⟩:=hrel
  by_cases h0:0<k
  ·obtain⟨b,o,sp,rfl,hb,hc⟩:=h.at_ (show k-1<n by omega)
   go_wp2
   ·have h1:((nth xs (k-1):Nat):Int)==0:=by assumption
    have hx:nth xs (k-1)=0:=by simpa using h1
    exact⟨⟨k-1,by omega,rfl,by rw[kG (by omega) (by rw[h.len];omega) hx];exact ht.out⟩,by simp only[lenOf];omega⟩
   have h1:(((nth xs (k-1):Nat):Int)==0)=false:=by assumption
   have hx:nth xs (k-1)≠0:=by simpa using h1
   go_ret
   exact⟨tF (by rw[←ht.out,kH (by omega) (by rw[h.len];omega) hx,List.length_take,h.len,Nat.min_eq_left hk]),rfl⟩
  go_wp2
  obtain rfl:k=0:=by omega
  go_ret
  exact⟨tF (by rw[←ht.out];rfl),rfl⟩
theorem tZ (w:World) (e:TypeId):(w.alloc (.cells #[] e)).ownsRow w.heap.size e 1 (.slice (some ⟨w.heap.size,0,none⟩) 0 0) 0 []:=
 ⟨rfl,.inr ⟨w.heap.size,0, #[],rfl,Nat.le_refl _,heap_alloc_new w _,Nat.le_refl _,by unfold maxLen;omega,rfl,rfl⟩⟩
theorem fH (w:World) (o:Obj):Below w.heap.size w (w.alloc o):=(Below.refl _ _).alloc (Nat.le_refl _) _
theorem jU:IsEl Tryz.prog 23 22 (.int .u32 0) 1 4:=IsEl.mk Tryz.underlying23 (z:=.int .u32 0) (by kernel_rfl) rfl (by omega)
def iF (xs:List Nat) (w:World) (e:Ending) (w':World):Prop:=
 ∃A n c,e=.returned (.slice A n c)∧Own 22 w' w.heap.size A n c xs∧Below w.heap.size w w'
set_option maxHeartbeats 400000 in
theorem oU (A:Option Addr) (n c:Nat) (xs:List Nat) (w:World) (h:U32 w w.heap.size A n c xs) (hn:n≤1099511627776):
    Calls Tryz.prog 79 #[.slice A n c] w (iF xs w):=by
  have q:∀(w:World) (a:Option Addr) (n c n' c':Nat),(binOp .eql 23 (.slice a n c) (.slice none n' c')).run Tryz.prog w=.ok (.bool a.isNone) w:=
    fun w a n c n' c'=>Lib.run_eql_slice_nil w _ _ a n c n' c' Tryz.underlying23
  rcases A with _ | ad
  · have h0:n=0:=by
      rcases Nat.eq_zero_or_pos n with h0 | h0
      · exact h0
      obtain⟨ad,e,_⟩:=h.rd.cell h0
      cases e
    subst h0
    have hx:xs=[]:=List.eq_nil_of_length_eq_zero h.len
    subst hx
    go_enter Tryz.func79,Tryz.ntmps79
    go_wp2
    go_ret
    exact⟨none,0,0,rfl,Own.nil,Below.refl _ _⟩
  go_enter Tryz.func79,Tryz.ntmps79
  go_wp2_with (first
    | (at_builtin
       refine iV _ jU rfl (.tmp 5) (.tmp 6) rfl w.heap.size (.slice (some ⟨w.heap.size,0,none⟩) 0 0) 0 [] rfl (tZ _ _) w.heap.size (some ad) n c (cX xs) rfl (h.rd.below (fH w _)) (oJ xs) (by omega) (by omega) (by simp) ?_
       intro A' c' w1 hown hg _))
  go_ret
  refine⟨A',n,c',rfl,⟨by simpa using hown,h.lim⟩,kI (fH w _) (tZ _ _) hg (by simp) (Nat.le_refl _)⟩
set_option maxHeartbeats 400000 in
theorem cO (A:Option Addr) (n c:Nat) (xs:List Nat) (w:World) (h:U32 w w.heap.size A n c xs) (hn:n≤1099511627776):
  Calls Tryz.prog 56 #[.slice A n c] w (iF (trim xs) w):=by
 have hl:=bV xs
 have hlen:=Lib.hid h.len
 go_enter Tryz.func56,Tryz.ntmps56
 go_wp2_with (first
  | (go_at_call 108;refine(eM _ _ _ xs _ _ h).mono ?_;rintro e w' ⟨rfl,rfl⟩)
  | (go_at_call 79;refine(oU _ _ _ (trim xs) _ h.trim ?_).mono ?_;(rw[hlen.out]at hl;omega);rintro e w1 ⟨A1,n1,c1,rfl,h1,hb1⟩))
 go_ret
 exact⟨A1,n1,c1,rfl,h1,hb1⟩
theorem Dt {P:Program}{f:FuncId}{args:Array Value}{w:World}{a n:Nat}{v:Value}
  (h:Calls P f args (w.drewN (a+n)) fun e w'=>e=.returned v∧w.drewN (a+n)=w'):
  Calls P f args (w.drewN (a+n)) fun e w''=>e=.returned v∧∃m,w''=w.drewN (a+m):=
 h.mono fun _ _ ⟨he,hm⟩=>⟨he,n,hm.symm⟩
theorem No (w:World) (a b c:Nat):∃k,((w.drewN a).drewN b).drewN c=w.drewN k:=⟨_,by rw[World.drewN_drewN,World.drewN_drewN]⟩
theorem cF (A:Option Addr) (n c n':Nat) (xs:List Nat) (B:Nat) (w:World) (h:U32 w B A n c xs) (hn:(trim xs).length=n'):
  Calls Tryz.prog 108 #[.slice A n c] w fun e w'=>e=.returned (.slice A n' c)∧w=w':=by
 subst hn;exact eM A n c xs B w h
def fS (x y:Nat):Int:=hG (x:Int) (y:Int)
theorem lO {x y:Nat}(h:x<y):fS x y=-1:=by unfold fS hG;rw[if_pos (by omega)]
theorem jD {x y:Nat}(h:y<x):fS x y=1:=by unfold fS hG;rw[if_neg (by omega),if_pos (by omega)]
theorem sW {x y:Nat}(h:x=y):fS x y=0:=by unfold fS hG;rw[if_neg (by omega),if_neg (by omega)]
theorem xS {xs ys:List Nat}(hx:Lim 4294967296 xs) (hy:Lim 4294967296 ys) (h:(trim xs).length≠(trim ys).length):
  hG ((trim xs).length:Int) ((trim ys).length:Int)=fS (vl 4294967296 xs) (vl 4294967296 ys):=by
 rcases Nat.lt_or_gt_of_ne h with h | h
 ·have:=kF (B:=4294967296) (by omega) hx.trim (kD ys) h
  rw[cA,cA]at this
  rw[lO this];exact lO h
 have:=kF (B:=4294967296) (by omega) hy.trim (kD xs) h
 rw[cA,cA]at this
 rw[jD this];exact jD h
theorem Jk {xs ys:List Nat}{k:Nat}(hx:Lim 4294967296 xs) (hy:Lim 4294967296 ys) (hl:xs.length=ys.length) (h0:0<k) (hk:k≤xs.length)
  (hd:xs.drop k=ys.drop k) (h:nth xs (k-1)≠nth ys (k-1)):hG (nth xs (k-1):Int) (nth ys (k-1):Int)=fS (vl 4294967296 xs) (vl 4294967296 ys):=by
 have e:k-1+1=k:=by omega
 rcases Nat.lt_or_gt_of_ne h with h | h
 ·have:=uZ (B:=4294967296) (k:=k-1) hx hl (by omega) (by rw[e];exact hd) (by rwa[aY (by omega),aY (by omega)]at h)
  rw[lO this];exact lO h
 have:=uZ (B:=4294967296) (k:=k-1) hy hl.symm (by omega) (by rw[e];exact hd.symm) (by rwa[aY (by omega),aY (by omega)]at h)
 rw[jD this];exact jD h
theorem Du {xs ys:List Nat}{k:Nat}(hl:xs.length=ys.length) (h0:0<k) (hk:k≤xs.length) (hd:xs.drop k=ys.drop k) (h:nth xs (k-1)=nth ys (k-1)):
  xs.drop (k-1)=ys.drop (k-1):=by
 have e:k-1+1=k:=by omega
 rw[List.drop_eq_getElem_cons (show k-1<xs.length by omega),List.drop_eq_getElem_cons (show k-1<ys.length by omega),e,hd,←aY,←aY,h]
set_option maxHeartbeats 800000 in
theorem mO (A B:Option Addr) (n m c d:Nat) (xs ys:List Nat) (bd:Nat) (w:World) (ha:U32 w bd A n c xs) (hb:U32 w bd B m d ys):
  Calls Tryz.prog 67 #[.slice A n c,.slice B m d] w fun e w'=>e=.returned (.int .i64 (fS (vl 4294967296 xs) (vl 4294967296 ys)))∧∃k,w'=w.drewN k:=by
 have ha1:=ha.trim
 have hb1:=hb.trim
 have hab:=ha.big
 have hbb:=hb.big
 have hac:=ha1.cap
 have hbc:=hb1.cap
 obtain⟨n1,hn1⟩:∃n1,(trim xs).length=n1:=⟨_,rfl⟩
 obtain⟨m1,hm1⟩:∃m1,(trim ys).length=m1:=⟨_,rfl⟩
 rw[hn1]at ha1 hac
 rw[hm1]at hb1 hbc
 have Hn1:=Lib.hid hn1
 have Hm1:=Lib.hid hm1
 clear hn1 hm1
 by_cases hne:n1=m1
 ·subst hne
  have hq:((n1:Int)!=(n1:Int))=false:=by simp
  go_enter Tryz.func67,Tryz.ntmps67
  go_wp2_with fail
  refine(cF _ _ _ n1 xs _ _ ha Hn1.out).mono ?_
  rintro e w' ⟨rfl,rfl⟩
  go_wp2_with fail
  refine(cF _ _ _ n1 ys _ _ hb Hm1.out).mono ?_
  rintro e w' ⟨rfl,rfl⟩
  go_wp2_with fail
  go_loopw [5] (fun i wr=>∃k:Nat,k≤n1∧i=.int .i64 ((k:Int)-1)∧Hid ((trim xs).drop k=(trim ys).drop k)∧∃q,wr=w.drewN q) (fun i _=>(intOf i+1).toNat)
  case atStart=>exact⟨n1,Nat.le_refl _,rfl,by rw[List.drop_eq_nil_of_le (by rw[Hn1.out];exact Nat.le_refl _),List.drop_eq_nil_of_le (by rw[Hm1.out];exact Nat.le_refl _)];exact rfl,0,rfl⟩
  case round=>
   obtain⟨k,hk,rfl,ht,q,rfl⟩:=hrel
   by_cases h0:0<k
   ·obtain⟨b,o,sp,rfl,hb',hc'⟩:=ha1.at_ (show k-1<n1 by omega)
    obtain⟨b2,o2,sp2,rfl,hb2',hc2'⟩:=hb1.at_ (show k-1<n1 by omega)
    by_cases he:nth (trim xs) (k-1)=nth (trim ys) (k-1)
    ·have he1:(((nth (trim xs) (k-1):Nat):Int)!=((nth (trim ys) (k-1):Nat):Int))=false:=by rw[he];simp
     have He:=Lib.hid he
     clear he
     go_wp2_with fail
     go_quiet (fail)
     go_wp2_with fail
     exact⟨⟨k-1,by omega,by go_num,Du (by rw[Hn1.out,Hm1.out]) h0 (by rw[Hn1.out];exact hk) ht.out He.out,_,rfl⟩,by simp[intOf];omega⟩
    have he1:(((nth (trim xs) (k-1):Nat):Int)!=((nth (trim ys) (k-1):Nat):Int))=true:=by rw[bne_iff_ne];omega
    have He:=Lib.hid he
    clear he
    go_wp2_with fail
    go_quiet (fail)
    go_wp2_with fail
    go_quiet ((go_at_call 117;exact Dt (xR _ _ _)))
    go_wp2_with fail
    go_ret
    exact⟨lB (by rw[Jk ha1.lim hb1.lim (by rw[Hn1.out,Hm1.out]) h0 (by rw[Hn1.out];exact hk) ht.out He.out,cA,cA]),No _ _ _ _⟩
   obtain rfl:k=0:=by omega
   have he:trim xs=trim ys:=ht.out
   go_wp2_with fail
   go_ret
   exact⟨lB (by rw[←cA 4294967296 xs,he,cA];exact(sW rfl).symm),_,rfl⟩
 have hq:((n1:Int)!=(m1:Int))=true:=by rw[bne_iff_ne];omega
 go_enter Tryz.func67,Tryz.ntmps67
 go_wp2_with fail
 refine(cF _ _ _ n1 xs _ _ ha Hn1.out).mono ?_
 rintro e w' ⟨rfl,rfl⟩
 go_wp2_with fail
 refine(cF _ _ _ m1 ys _ _ hb Hm1.out).mono ?_
 rintro e w' ⟨rfl,rfl⟩
 go_wp2_with fail
 refine(xQ _ _ _).mono ?_
 rintro e w' ⟨rfl,rfl⟩
 go_wp2_with fail
 go_ret
 refine⟨lB ?_,0,rfl⟩
 have:=xS ha.lim hb.lim (by rw[Hn1.out,Hm1.out];exact hne)
 rw[Hn1.out,Hm1.out]at this
 exact this
def AddInv (xs ys os:List Nat) (k C:Nat):Prop:=
 C≤1∧vl 4294967296 (os.take k)+4294967296^k*C=vl 4294967296 (xs.take k)+vl 4294967296 (ys.take k)
theorem AddInv.zero (xs ys os:List Nat):AddInv xs ys os 0 0:=⟨by omega,by simp[vl]⟩
theorem AddInv.le {xs ys os:List Nat}{k C:Nat}(h:AddInv xs ys os k C):C≤1:=h.1
theorem AddInv.step {xs ys os:List Nat}{k C:Nat}(h:AddInv xs ys os k C) (hk:k<os.length) (hx:Lim 4294967296 xs) (hy:Lim 4294967296 ys):
  AddInv xs ys (os.set k ((nth xs k+nth ys k+C)%4294967296)) (k+1) ((nth xs k+nth ys k+C)/4294967296):=by
 obtain⟨h1,h2⟩:=h
 have x1:=hx.nth (by omega) k
 have y1:=hy.nth (by omega) k
 refine⟨by omega,?_⟩
 rw[dI _ _ hk,aN,aN,Nat.pow_succ]
 have e:=Nat.mod_add_div (nth xs k+nth ys k+C) 4294967296
 generalize 4294967296^k=p at*
 generalize (nth xs k+nth ys k+C)/4294967296=q at*
 generalize (nth xs k+nth ys k+C)%4294967296=r at*
 have e2:p*(r+4294967296*q)=p*(nth xs k+nth ys k+C):=by rw[e]
 grind
theorem AddInv.end_ {xs ys os:List Nat}{n C:Nat}(h:AddInv xs ys os n C) (hos:os.length=n+1) (hx:xs.length≤n) (hy:ys.length≤n):
  vl 4294967296 (os.set n C)=vl 4294967296 xs+vl 4294967296 ys:=by
 have h2:=h.2
 rw[aQ _ hx,aQ _ hy]at h2
 rw[←h2,←dI _ C (by omega),aQ]
 rw[List.length_set];omega
set_option maxHeartbeats 1000000 in
theorem xT (A B:Option Addr) (n m c d:Nat) (xs ys:List Nat) (w:World) (ha:U32 w w.heap.size A n c xs) (hb:U32 w w.heap.size B m d ys) (hn:n≤1099511627776) (hmn:m≤n):
  Calls Tryz.prog 50 #[.slice A n c,.slice B m d] w (iF (dg 4294967296 (vl 4294967296 xs+vl 4294967296 ys)) w):=by
 have hlt':¬n<m:=by omega
 have Hx:=Lib.hid ha.len
 have Hy:=Lib.hid hb.len
 go_enter Tryz.func50,Tryz.ntmps50
 go_wp2_with (refine iH _ jU rfl (.tmp 18) (.tmp 18) rfl .i64 .i64 _ _ (n+1) rfl rfl (by omega) (by omega) (by omega) (by omega) ?_;intro w1 hown hb1 hz1)
 have hO:=Own.made hown
 clear hown
 go_wp2_with fail
 go_loopw [6,22] (fun cy i wr=>∃(k C:Nat) (os:List Nat),k≤n∧i=.int .i64 (k:Int)∧cy=.int .u32 (C:Int)∧Own 22 wr w.heap.size (some ⟨w.heap.size,0,none⟩) (n+1) (n+1) os∧AddInv xs ys os k C∧Below w.heap.size w wr∧w.heap.size<wr.heap.size) (fun _ i _=>n-(intOf i).toNat)
 case atStart=>exact⟨0,0,_,Nat.zero_le _,rfl,rfl,hO,AddInv.zero _ _ _,hb1,hz1⟩
 case round=>
  obtain⟨k,C,os,hk,rfl,rfl,hown,hI,hbw,hz⟩:=hrel
  have hC:=hI.le
  by_cases hlt:k<n
  ·obtain⟨b,o,sp,rfl,hbb,hcc⟩:=(ha.below hbw).at_ hlt
   have ho1:=hown.cell (show k<n+1 by omega)
   have ho2:=hown.frozen k
   have hx1:=ha.lim.nth (by omega) k
   have hy1:=hb.lim.nth (by omega) k
   have hset:=hown.set k (v:=(nth xs k+nth ys k+C)%4294967296) (Nat.mod_lt _ (by omega))
   have hstep:=hI.step (by rw[hown.len];omega) ha.lim hb.lim
   by_cases hm:k<m
   ·obtain⟨b2,o2,sp2,rfl,hbb2,hcc2⟩:=(hb.below hbw).at_ hm
    go_wp2_with fail
    refine(gQ _ _ _ _ ?_ ?_ ?_ ?_ ?_ ?_).mono ?_ <;> try omega
    rintro e w' ⟨rfl,rfl⟩
    go_wp2_with fail
    go_roundw
    case rel=>exact⟨k+1,_,_,by omega,by go_num,rfl,hset,hstep,hbw.setCell (Nat.le_refl _) _,by simpa using hz⟩
    case measure=>simp[intOf];omega
   have hy0:nth ys k=0:=dF (by rw[Hy.out];omega)
   rw[hy0]at hset hstep
   clear hy0
   go_wp2_with fail
   refine(gQ _ _ _ _ ?_ ?_ ?_ ?_ ?_ ?_).mono ?_ <;> try omega
   rintro e w' ⟨rfl,rfl⟩
   go_wp2_with fail
   go_roundw
   case rel=>exact⟨k+1,_,_,by omega,by go_num,rfl,hset,hstep,hbw.setCell (Nat.le_refl _) _,by simpa using hz⟩
   case measure=>simp[intOf];omega
  obtain rfl:k=n:=by omega
  have ho1:=hown.cell (show k<k+1 by omega)
  have ho2:=hown.frozen k
  have hset:=hown.set k (v:=C) (by omega)
  have hend:=Lib.hid (hI.end_ hown.len (by rw[Hx.out];exact Nat.le_refl _) (by rw[Hy.out];omega))
  have hbe:=hbw.setCell (p:=⟨w.heap.size,k,none⟩) (Nat.le_refl _) (.int .u32 (C:Int))
  clear hb1 hbw hI hown hz1
  go_wp2_with fail
  refine(eM _ _ _ _ _ _ hset.u32).mono ?_
  rintro e w' ⟨rfl,rfl⟩
  go_wp2_with fail
  go_ret
  exact⟨_,_,_,rfl,by rw[←hend.out,dR (by omega) hset.lim];exact hset.trim,hbe⟩
set_option maxHeartbeats 1000000 in
theorem xU (A B:Option Addr) (n m c d:Nat) (xs ys:List Nat) (w:World) (ha:U32 w w.heap.size A n c xs) (hb:U32 w w.heap.size B m d ys) (hm:m≤1099511627776) (hmn:n<m):
  Calls Tryz.prog 50 #[.slice A n c,.slice B m d] w (iF (dg 4294967296 (vl 4294967296 xs+vl 4294967296 ys)) w):=by
 have hlt':n<m:=by omega
 have Hx:=Lib.hid hb.len
 have Hy:=Lib.hid ha.len
 go_enter Tryz.func50,Tryz.ntmps50
 go_wp2_with (refine iH _ jU rfl (.tmp 18) (.tmp 18) rfl .i64 .i64 _ _ (m+1) rfl rfl (by omega) (by omega) (by omega) (by omega) ?_;intro w1 hown hb1 hz1)
 have hO:=Own.made hown
 clear hown
 go_wp2_with fail
 go_loopw [6,22] (fun cy i wr=>∃(k C:Nat) (os:List Nat),k≤m∧i=.int .i64 (k:Int)∧cy=.int .u32 (C:Int)∧Own 22 wr w.heap.size (some ⟨w.heap.size,0,none⟩) (m+1) (m+1) os∧AddInv ys xs os k C∧Below w.heap.size w wr∧w.heap.size<wr.heap.size) (fun _ i _=>m-(intOf i).toNat)
 case atStart=>exact⟨0,0,_,Nat.zero_le _,rfl,rfl,hO,AddInv.zero _ _ _,hb1,hz1⟩
 case round=>
  obtain⟨k,C,os,hk,rfl,rfl,hown,hI,hbw,hz⟩:=hrel
  have hC:=hI.le
  by_cases hlt:k<m
  ·obtain⟨b,o,sp,rfl,hbb,hcc⟩:=(hb.below hbw).at_ hlt
   have ho1:=hown.cell (show k<m+1 by omega)
   have ho2:=hown.frozen k
   have hx1:=hb.lim.nth (by omega) k
   have hy1:=ha.lim.nth (by omega) k
   have hset:=hown.set k (v:=(nth ys k+nth xs k+C)%4294967296) (Nat.mod_lt _ (by omega))
   have hstep:=hI.step (by rw[hown.len];omega) hb.lim ha.lim
   by_cases hm:k<n
   ·obtain⟨b2,o2,sp2,rfl,hbb2,hcc2⟩:=(ha.below hbw).at_ hm
    go_wp2_with fail
    refine(gQ _ _ _ _ ?_ ?_ ?_ ?_ ?_ ?_).mono ?_ <;> try omega
    rintro e w' ⟨rfl,rfl⟩
    go_wp2_with fail
    go_roundw
    case rel=>exact⟨k+1,_,_,by omega,by go_num,rfl,hset,hstep,hbw.setCell (Nat.le_refl _) _,by simpa using hz⟩
    case measure=>simp[intOf];omega
   have hy0:nth xs k=0:=dF (by rw[Hy.out];omega)
   rw[hy0]at hset hstep
   clear hy0
   go_wp2_with fail
   refine(gQ _ _ _ _ ?_ ?_ ?_ ?_ ?_ ?_).mono ?_ <;> try omega
   rintro e w' ⟨rfl,rfl⟩
   go_wp2_with fail
   go_roundw
   case rel=>exact⟨k+1,_,_,by omega,by go_num,rfl,hset,hstep,hbw.setCell (Nat.le_refl _) _,by simpa using hz⟩
   case measure=>simp[intOf];omega
  obtain rfl:k=m:=by omega
  have ho1:=hown.cell (show k<k+1 by omega)
  have ho2:=hown.frozen k
  have hset:=hown.set k (v:=C) (by omega)
  have hend:=Lib.hid (hI.end_ hown.len (by rw[Hx.out];exact Nat.le_refl _) (by rw[Hy.out];omega))
  have hbe:=hbw.setCell (p:=⟨w.heap.size,k,none⟩) (Nat.le_refl _) (.int .u32 (C:Int))
  clear hb1 hbw hI hown hz1
  go_wp2_with fail
  refine(eM _ _ _ _ _ _ hset.u32).mono ?_
  rintro e w' ⟨rfl,rfl⟩
  go_wp2_with fail
  go_ret
  exact⟨_,_,_,rfl,by rw[Nat.add_comm (vl 4294967296 xs) (vl 4294967296 ys),←hend.out,dR (by omega) hset.lim];exact hset.trim,hbe⟩
theorem Gj (A B:Option Addr) (n m c d:Nat) (xs ys:List Nat) (w:World) (ha:U32 w w.heap.size A n c xs) (hb:U32 w w.heap.size B m d ys) (hn:n≤1099511627776) (hm:m≤1099511627776):
  Calls Tryz.prog 50 #[.slice A n c,.slice B m d] w (iF (dg 4294967296 (vl 4294967296 xs+vl 4294967296 ys)) w):=by
 by_cases h:m≤n
 ·exact xT A B n m c d xs ys w ha hb hn h
 exact xU A B n m c d xs ys w ha hb hm (by omega)
def cI (n:Nat):Nat:=n%4294967296
def fD (n:Nat):Nat:=n/4294967296
theorem oV (n:Nat):cI n<4294967296:=Nat.mod_lt _ (by omega)
theorem Bk (n:Nat):cI n+4294967296*fD n=n:=Nat.mod_add_div n 4294967296
theorem Ib {n:Nat}(h:n<18446744073709551616):fD n<4294967296:=by unfold fD;omega
def iR (x y c:Nat):Nat:=(x+8589934592-y-c)%4294967296
def jV (x y c:Nat):Nat:=if x<y+c then 1 else 0
theorem Jl (x y c:Nat):iR x y c<4294967296:=Nat.mod_lt _ (by omega)
theorem zD (x y c:Nat):jV x y c≤1:=by unfold jV;split <;> omega
theorem Dv {x y c:Nat}(hx:x<4294967296) (hy:y<4294967296) (hc:c≤1):iR x y c+y+c=x+4294967296*jV x y c:=by
 unfold iR jV;split <;> omega
theorem kX (x y c:Nat) (w:World) (x1:x<4294967296) (y1:y<4294967296) (c1:c<4294967296):
  Calls Tryz.prog 107 #[.int .u32 (x:Int),.int .u32 (y:Int),.int .u32 (c:Int)] w fun e w'=>
   e=.returned (.tuple #[.int .u32 (cI (x+y+c):Nat),.int .u32 (fD (x+y+c):Nat)])∧w=w':=
 (gQ _ _ _ w (by omega) (by omega) (by omega) (by omega) (by omega) (by omega)).mono fun _ _ ⟨h1,h2⟩=>⟨h1,h2⟩
theorem xV (x y:Nat) (w:World) (x1:x<4294967296) (y1:y<4294967296):
  Calls Tryz.prog 109 #[.int .u32 (x:Int),.int .u32 (y:Int)] w fun e w'=>
   e=.returned (.tuple #[.int .u32 (fD (x*y):Nat),.int .u32 (cI (x*y):Nat)])∧w=w':=
 (Bi _ _ w (by omega) (by omega) (by omega) (by omega)).mono fun _ _ ⟨h1,h2⟩=>⟨h1,h2⟩
theorem xW (h l d:Nat) (w:World) (hd:h<d) (l1:l<4294967296) (d1:d<4294967296):
  Calls Tryz.prog 112 #[.int .u32 (h:Int),.int .u32 (l:Int),.int .u32 (d:Int)] w fun e w'=>
   e=.returned (.tuple #[.int .u32 ((h*4294967296+l)/d:Nat),.int .u32 ((h*4294967296+l)%d:Nat)])∧∃n,w'=w.drewN n:=
 (Bj _ _ _ w (by omega) (by omega) (by omega) (by omega) (by omega)).mono fun _ _ ⟨h1,h2⟩=>⟨h1,h2⟩
def SubInv (xs ys os:List Nat) (k C:Nat):Prop:=
 C≤1∧os.length=xs.length∧vl 4294967296 (os.take k)+vl 4294967296 (ys.take k)=vl 4294967296 (xs.take k)+4294967296^k*C∧∀j,k≤j→nth os j=nth xs j
theorem SubInv.zero (xs ys:List Nat):SubInv xs ys xs 0 0:=⟨by omega,rfl,by simp[vl],fun _ _=>rfl⟩
theorem SubInv.le {xs ys os:List Nat}{k C:Nat}(h:SubInv xs ys os k C):C≤1:=h.1
theorem SubInv.at_ {xs ys os:List Nat}{k C:Nat}(h:SubInv xs ys os k C):nth os k=nth xs k:=h.2.2.2 k (Nat.le_refl _)
theorem fP {l:List Nat}{i j v:Nat}(h:i≠j):nth (l.set i v) j=nth l j:=by
 unfold nth;rw[List.getD_eq_getElem?_getD,List.getD_eq_getElem?_getD,List.getElem?_set_ne h]
theorem qU {l:List Nat}{i v:Nat}(h:i<l.length):nth (l.set i v) i=v:=by
 rw[aY (by rw[List.length_set];exact h),List.getElem_set_self]
theorem SubInv.step {xs ys os:List Nat}{k C:Nat}(h:SubInv xs ys os k C) (hk:k<xs.length) (hx:Lim 4294967296 xs) (hy:Lim 4294967296 ys):
  SubInv xs ys (os.set k (iR (nth xs k) (nth ys k) C)) (k+1) (jV (nth xs k) (nth ys k) C):=by
 obtain⟨h1,hl,h2,h3⟩:=h
 have x1:=hx.nth (by omega) k
 have y1:=hy.nth (by omega) k
 have e:=Dv x1 y1 h1
 refine⟨zD _ _ _,by rw[List.length_set,hl],?_,fun j hj=>by rw[fP (by omega)];exact h3 j (by omega)⟩
 rw[dI _ _ (by omega),aN,aN,Nat.pow_succ]
 generalize 4294967296^k=p at*
 generalize iR (nth xs k) (nth ys k) C=s at*
 generalize jV (nth xs k) (nth ys k) C=q at*
 have e2:p*(s+nth ys k+C)=p*(nth xs k+4294967296*q):=by rw[e]
 grind
theorem SubInv.end_ {xs ys os:List Nat}{C:Nat}(h:SubInv xs ys os xs.length C) (ho:Lim 4294967296 os) (hy:ys.length≤xs.length) (hle:vl 4294967296 ys≤vl 4294967296 xs):
  vl 4294967296 os=vl 4294967296 xs-vl 4294967296 ys:=by
 obtain⟨h1,hl,h2,_⟩:=h
 rw[aQ _ hy,aQ _ (Nat.le_refl _),aQ _ (by omega)]at h2
 have:=dQ ho
 rw[hl]at this
 have hC:C=0∨C=1:=by omega
 rcases hC with rfl | rfl
 ·omega
 omega
def MulInv (xs os:List Nat) (m k C:Nat):Prop:=C<4294967296∧vl 4294967296 (os.take k)+4294967296^k*C=vl 4294967296 (xs.take k)*m
theorem MulInv.zero (xs os:List Nat) (m:Nat):MulInv xs os m 0 0:=⟨by omega,by simp[vl]⟩
theorem MulInv.lt {xs os:List Nat}{m k C:Nat}(h:MulInv xs os m k C):C<4294967296:=h.1
theorem Np {x m C:Nat}(hx:x<4294967296) (hm:m<4294967296) (hC:C<4294967296):x*m+C≤18446744069414584320:=by
 have:x*m≤4294967295*4294967295:=Nat.mul_le_mul (by omega) (by omega)
 omega
theorem wQ {x m C:Nat}(hx:x<4294967296) (hm:m<4294967296) (hC:C<4294967296):
  fD (x*m)+fD (cI (x*m)+C)=fD (x*m+C)∧cI (cI (x*m)+C)=cI (x*m+C)∧fD (x*m+C)<4294967296:=by
 have:=Np hx hm hC
 unfold fD cI
 omega
theorem MulInv.step {xs os:List Nat}{m k C:Nat}(h:MulInv xs os m k C) (hk:k<os.length) (hx:Lim 4294967296 xs) (hm:m<4294967296):
  MulInv xs (os.set k (cI (nth xs k*m+C))) m (k+1) (fD (nth xs k*m+C)):=by
 obtain⟨h1,h2⟩:=h
 have x1:=hx.nth (by omega) k
 refine⟨(wQ x1 hm h1).2.2,?_⟩
 rw[dI _ _ hk,aN,Nat.pow_succ]
 have e:=Bk (nth xs k*m+C)
 generalize 4294967296^k=p at*
 generalize cI (nth xs k*m+C)=s at*
 generalize fD (nth xs k*m+C)=q at*
 have e2:p*(s+4294967296*q)=p*(nth xs k*m+C):=by rw[e]
 grind
theorem MulInv.end_ {xs os:List Nat}{m n C:Nat}(h:MulInv xs os m n C) (hos:os.length=n+1) (hx:xs.length≤n):
  vl 4294967296 (os.set n C)=vl 4294967296 xs*m:=by
 have h2:=h.2
 rw[aQ _ hx]at h2
 rw[←h2,←dI _ C (by omega),aQ]
 rw[List.length_set];omega
def DivInv (xs os:List Nat) (d k r:Nat):Prop:=
 r<d∧os.length=xs.length∧vl 4294967296 (os.drop k)*d+r=vl 4294967296 (xs.drop k)∧∀j,j<k→nth os j=nth xs j
theorem DivInv.top (xs:List Nat){d:Nat}(hd:0<d):DivInv xs xs d xs.length 0:=⟨hd,rfl,by simp[vl],fun _ _=>rfl⟩
theorem DivInv.lt {xs os:List Nat}{d k r:Nat}(h:DivInv xs os d k r):r<d:=h.1
theorem DivInv.at_ {xs os:List Nat}{d k r:Nat}(h:DivInv xs os d k r) (h0:0<k):nth os (k-1)=nth xs (k-1):=h.2.2.2 _ (by omega)
theorem dO (B:Nat){l:List Nat}{k:Nat}(h0:0<k) (h:k≤l.length):vl B (l.drop (k-1))=nth l (k-1)+B*vl B (l.drop k):=by
 have e:=List.drop_eq_getElem_cons (show k-1<l.length by omega)
 rw[show k-1+1=k from by omega]at e
 rw[e,cT,aY]
theorem DivInv.step {xs os:List Nat}{d k r:Nat}(h:DivInv xs os d k r) (h0:0<k) (hk:k≤xs.length) (hd:0<d):
  DivInv xs (os.set (k-1) ((r*4294967296+nth xs (k-1))/d)) d (k-1) ((r*4294967296+nth xs (k-1))%d):=by
 obtain⟨h1,hl,h2,h3⟩:=h
 refine⟨Nat.mod_lt _ hd,by rw[List.length_set,hl],?_,fun j hj=>by rw[fP (by omega)];exact h3 j (by omega)⟩
 rw[dO _ h0 (by rw[List.length_set];omega),dO _ h0 hk,qU (by omega),List.drop_set_of_lt (by omega)]
 have e:=Nat.div_add_mod (r*4294967296+nth xs (k-1)) d
 generalize (r*4294967296+nth xs (k-1))/d=q at*
 generalize (r*4294967296+nth xs (k-1))%d=s at*
 grind
theorem DivInv.end_ {xs os:List Nat}{d r:Nat}(h:DivInv xs os d 0 r) (hd:0<d):vl 4294967296 os=vl 4294967296 xs/d∧r=vl 4294967296 xs%d:=by
 obtain⟨h1,_,h2,_⟩:=h
 simp only[List.drop_zero]at h2
 have e:vl 4294967296 xs=r+d*vl 4294967296 os:=by rw[←h2,Nat.mul_comm];omega
 rw[e,Nat.add_mul_div_left _ _ hd,Nat.add_mul_mod_self_left,Nat.div_eq_of_lt h1,Nat.mod_eq_of_lt h1]
 exact⟨by omega,rfl⟩
set_option maxHeartbeats 1000000 in
theorem nA (A:Option Addr) (n c m:Nat) (xs:List Nat) (w:World) (ha:U32 w w.heap.size A n c xs) (hn:n≤1099511627776) (hm:m<4294967296):
  Calls Tryz.prog 51 #[.slice A n c,.int .u32 (m:Int)] w (iF (dg 4294967296 (vl 4294967296 xs*m)) w):=by
 have Hx:=Lib.hid ha.len
 go_enter Tryz.func51,Tryz.ntmps51
 go_wp2_with (refine iH _ jU rfl (.tmp 15) (.tmp 15) rfl .i64 .i64 _ _ (n+1) rfl rfl (by omega) (by omega) (by omega) (by omega) ?_;intro w1 hown hb1 hz1)
 have hO:=Own.made hown
 clear hown
 go_wp2_with fail
 go_loopw [6,19] (fun cy i wr=>∃(k C:Nat) (os:List Nat),k≤n∧i=.int .i64 (k:Int)∧cy=.int .u32 (C:Int)∧Own 22 wr w.heap.size (some ⟨w.heap.size,0,none⟩) (n+1) (n+1) os∧MulInv xs os m k C∧Below w.heap.size w wr∧w.heap.size<wr.heap.size) (fun _ i _=>n-(intOf i).toNat)
 case atStart=>exact⟨0,0,_,Nat.zero_le _,rfl,rfl,hO,MulInv.zero _ _ _,hb1,hz1⟩
 case round=>
  obtain⟨k,C,os,hk,rfl,rfl,hown,hI,hbw,hz⟩:=hrel
  have hC:=hI.lt
  by_cases hlt:k<n
  ·obtain⟨b,o,sp,rfl,hbb,hcc⟩:=(ha.below hbw).at_ hlt
   have ho1:=hown.cell (show k<n+1 by omega)
   have ho2:=hown.frozen k
   have hx1:=ha.lim.nth (by omega) k
   obtain⟨e1,e2,e3⟩:=wQ hx1 hm hC
   have hset:=hown.set k (v:=cI (nth xs k*m+C)) (oV _)
   rw[←e2]at hset
   have hstep:=hI.step (by rw[hown.len];omega) ha.lim hm
   rw[←e2]at hstep
   rw[←e1]at e3 hstep
   clear e1 e2
   have hl1:=oV (nth xs k*m)
   go_wp2_with fail
   refine(xV _ _ _ hx1 hm).mono ?_
   rintro e w' ⟨rfl,rfl⟩
   go_wp2_with fail
   refine(kX _ _ 0 _ (oV _) hC (by omega)).mono ?_
   rintro e w' ⟨rfl,rfl⟩
   rw[Nat.add_zero]
   go_wp2_with fail
   go_roundw
   case rel=>exact⟨k+1,_,_,by omega,by go_num,by go_num,hset,hstep,hbw.setCell (Nat.le_refl _) _,by simpa using hz⟩
   case measure=>simp[intOf];omega
  obtain rfl:k=n:=by omega
  have ho1:=hown.cell (show k<k+1 by omega)
  have ho2:=hown.frozen k
  have hset:=hown.set k (v:=C) (by omega)
  have hend:=Lib.hid (hI.end_ hown.len (by rw[Hx.out];exact Nat.le_refl _))
  have hbe:=hbw.setCell (p:=⟨w.heap.size,k,none⟩) (Nat.le_refl _) (.int .u32 (C:Int))
  clear hb1 hbw hI hown hz1
  go_wp2_with fail
  refine(eM _ _ _ _ _ _ hset.u32).mono ?_
  rintro e w' ⟨rfl,rfl⟩
  go_wp2_with fail
  go_ret
  exact⟨_,_,_,rfl,by rw[←hend.out,dR (by omega) hset.lim];exact hset.trim,hbe⟩
def Nq (xs:List Nat) (r e1:Nat) (w:World) (e:Ending) (w':World):Prop:=
 ∃A n c,e=.returned (.tuple #[.slice A n c,.int .u32 (r:Int),.int .i64 (e1:Int)])∧Own 22 w' w.heap.size A n c xs∧Below w.heap.size w w'
set_option maxHeartbeats 1000000 in
theorem iS (A:Option Addr) (n c d:Nat) (xs:List Nat) (w:World) (ha:U32 w w.heap.size A n c xs) (hn:n≤1099511627776) (hd0:0<d) (hd:d<4294967296):
  Calls Tryz.prog 57 #[.slice A n c,.int .u32 (d:Int)] w (Nq (dg 4294967296 (vl 4294967296 xs/d)) (vl 4294967296 xs%d) 0 w):=by
 have Hx:=Lib.hid ha.len
 have hne:((d:Int)==0)=false:=by rw[beq_eq_false_iff_ne];omega
 go_enter Tryz.func57,Tryz.ntmps57
 go_wp2_with fail
 refine(oU _ _ _ xs _ ha hn).mono ?_
 rintro e w1 ⟨A1,n1,c1,rfl,hO,hb1⟩
 obtain rfl:n1=n:=by rw[←hO.len,Hx.out]
 go_wp2_with fail
 go_loopw [5,7] (fun r i wr=>∃(k R:Nat) (os:List Nat),k≤n1∧i=.int .i64 ((k:Int)-1)∧r=.int .u32 (R:Int)∧Own 22 wr w.heap.size A1 n1 c1 os∧DivInv xs os d k R∧Below w.heap.size w wr) (fun _ i _=>(intOf i+1).toNat)
 case atStart=>exact⟨n1,0,xs,Nat.le_refl _,by go_num,rfl,hO,by have:=DivInv.top xs hd0;rwa[Hx.out]at this,hb1⟩
 case round=>
  obtain⟨k,R,os,hk,rfl,rfl,hown,hI,hbw⟩:=hrel
  have hR:=hI.lt
  by_cases h0:0<k
  ·obtain⟨g,rfl,hg1,hg2⟩:=hown.form (by omega)
   have ho1:=hown.cell (show k-1<n1 by omega)
   rw[hI.at_ h0]at ho1
   have ho2:=hown.frozen (k-1)
   have hx1:=ha.lim.nth (by omega) (k-1)
   have hq:(R*4294967296+nth xs (k-1))/d<4294967296:=by
    apply Nat.div_lt_of_lt_mul
    have:(R+1)*4294967296≤d*4294967296:=Nat.mul_le_mul_right _ (by omega)
    omega
   have hset:=fun q=>(hown.drewN q).set (k-1) hq
   have hstep:=hI.step h0 (by rw[Hx.out];exact hk) hd0
   go_wp2_with fail
   refine(xW _ _ _ _ hR hx1 hd).mono ?_
   rintro e w' ⟨rfl,q,rfl⟩
   go_wp2_with fail
   go_roundw
   case rel=>exact⟨k-1,_,_,by omega,by go_num,rfl,hset q,hstep,(eF hbw _).setCell hg1 _⟩
   case measure=>simp[intOf];omega
  obtain rfl:k=0:=by omega
  obtain⟨h1,h2⟩:=hI.end_ hd0
  have H1:=Lib.hid h1
  have H2:=Lib.hid h2
  clear h1 h2
  go_wp2_with fail
  refine(eM _ _ _ _ _ _ hown.u32).mono ?_
  rintro e w' ⟨rfl,rfl⟩
  go_wp2_with fail
  go_ret3
  exact⟨_,_,_,by rw[←H2.out];rfl,by rw[←H1.out,dR (by omega) hown.lim];exact hown.trim,hbw⟩
def qV (xs:List Nat) (e1:Nat) (w:World) (e:Ending) (w':World):Prop:=
 ∃A n c,e=.returned (.tuple #[.slice A n c,.int .i64 (e1:Int)])∧Own 22 w' w.heap.size A n c xs∧Below w.heap.size w w'
theorem Own.drew_base {t:TypeId}{w:World}{base n c:Nat}{A:Option Addr}{xs:List Nat}{k:Nat}(h:Own t w base A n c xs):Own t (w.drewN k) base A n c xs:=⟨h.row,h.lim⟩
def Dw (xs:List Nat) (w:World) (e:Ending) (w':World):Prop:=
 ∃A n c,e=.returned (.slice A n c)∧U32 w' w'.heap.size A n c xs∧Below w.heap.size w w'
theorem zE (n:Nat) (h:n<32):(2:Int)^n%4294967296=((2^n:Nat):Int)∧2^n<4294967296∧0<2^n:=by
 have h1:2^n<2^32:=Nat.pow_lt_pow_right (by omega) h
 have h2:0<2^n:=Nat.pos_of_ne_zero (by simp)
 refine⟨?_,by omega,h2⟩
 have e:((2:Int)^n)=((2^n:Nat):Int):=by simp
 rw[e]
 omega
set_option maxHeartbeats 400000 in
theorem Dx (A:Option Addr) (n c v k:Nat) (w:World) (ha:U32 w w.heap.size A n c (dg 4294967296 v)) (hn:n≤1099511627776) (hk:k<32):
  Calls Tryz.prog 132 #[.slice A n c,.int .i64 (k:Int)] w (Dw (dg 4294967296 (v*2^k)) w):=by
 by_cases h0:k=0
 ·subst h0
  go_enter Tryz.func132,Tryz.ntmps132
  go_wp2_with fail
  go_ret
  exact⟨_,_,_,rfl,by simpa using ha,Below.refl _ _⟩
 have hne:((k:Int)==0)=false:=by rw[beq_eq_false_iff_ne];omega
 obtain⟨e1,e2,_⟩:=zE k hk
 have E1:=Lib.hid e1
 clear e1
 go_enter Tryz.func132,Tryz.ntmps132
 go_wp2_with fail
 rw[E1.out]
 refine(nA _ _ _ _ _ _ ha hn e2).mono ?_
 rintro e w1 ⟨A1,n1,c1,rfl,h1,hb1⟩
 go_wp2_with fail
 go_ret
 exact⟨_,_,_,rfl,by rw[bL (by omega)]at h1;exact h1.u32,hb1⟩
set_option maxHeartbeats 400000 in
theorem Bl (A:Option Addr) (n c v k:Nat) (w:World) (ha:U32 w w.heap.size A n c (dg 4294967296 v)) (hn:n≤1099511627776) (hk:k<32):
  Calls Tryz.prog 133 #[.slice A n c,.int .i64 (k:Int)] w (Dw (dg 4294967296 (v/2^k)) w):=by
 by_cases h0:k=0
 ·subst h0
  go_enter Tryz.func133,Tryz.ntmps133
  go_wp2_with fail
  go_ret
  exact⟨_,_,_,rfl,by simpa using ha,Below.refl _ _⟩
 have hne:((k:Int)==0)=false:=by rw[beq_eq_false_iff_ne];omega
 obtain⟨e1,e2,e3⟩:=zE k hk
 have E1:=Lib.hid e1
 clear e1
 go_enter Tryz.func133,Tryz.ntmps133
 go_wp2_with fail
 rw[E1.out]
 refine(iS _ _ _ _ _ _ ha hn e3 e2).mono ?_
 rintro e w1 ⟨A1,n1,c1,rfl,h1,hb1⟩
 go_wp2_with fail
 go_ret
 exact⟨_,_,_,rfl,by rw[bL (by omega)]at h1;exact h1.u32,hb1⟩
set_option maxHeartbeats 400000 in
theorem Nr (k:Int) (w:World) (h0:0<k) (hn:k≤2199023255552):
  Calls Tryz.prog 150 #[.slice none 0 0,.int .i64 k] w (iF [] w):=by
 obtain⟨n,rfl⟩:=Int.eq_ofNat_of_zero_le (show 0≤k by omega)
 obtain⟨ht,i,hi,hz,hs,hb,hzs,hp⟩:=jU
 have hi1:Tryz.prog.underlying 3=some (.int .i64):=Tryz.underlying3
 have hrun:=Lib.run_append_nil_zeros (P:=Tryz.prog) w 23 3 23 22 i (.int .u32 0) .i64 .i64 ht hi1 hi hz n (by omega) (by omega) (by omega) (by rw[hb];omega)
 have hc:=grownCap_ge w n 0 22
 have hc2:=grownCap_le_maxLen w n 0 22 (by unfold maxLen;omega)
 unfold maxLen at hc2
 have hn0:¬(n:Int)<0:=by omega
 generalize grownCap w n 0 22=cc at*
 go_enter Tryz.func150,Tryz.ntmps150
 go_wp2_with (at_builtin;refine Lib.wpList_append_run _ rfl (.tmp 20) (.tmp 21) _ _ rfl _ _ rfl rfl _ _ hrun ?_)
 go_ret
 refine⟨_,_,_,rfl,⟨⟨rfl,.inr ⟨w.heap.size,cc,_,rfl,Nat.le_refl _,heap_alloc_new w.drew _,Nat.zero_le _,by unfold maxLen;omega,?_,rfl⟩⟩,Lim.nil⟩,((Below.refl _ _).drew).alloc (Nat.le_refl _) _⟩
 simp[size_zeroCells]
 omega
set_option maxHeartbeats 1000000 in
theorem Gk (g:Nat) (A1 A2:Option Addr) (n1 c1 n2 c2:Nat) (xs ys:List Nat) (w:World) (hg:g<w.heap.size) (h0:w.cell? ⟨g,0,none⟩=some (.slice A1 n1 c1)) (h1:w.cell? ⟨g,1,none⟩=some (.slice A2 n2 c2))
  (hx:U32 w w.heap.size A1 n1 c1 xs) (hy:U32 w w.heap.size A2 n2 c2 ys) (b1:n1≤1099511627776) (b2:n2≤1099511627776) (hp:0<n1+n2):
  Calls Tryz.prog 131 #[.slice (some ⟨g,0,none⟩) 2 2] w (iF (xs++ys) w):=by
 go_enter Tryz.func131,Tryz.ntmps131
 go_wp2_with fail
 refine wp_loop_rounds 3 ?_
 rw[rounds_succ]
 go_wp2_with fail
 rw[rounds_succ]
 go_wp2_with fail
 rw[rounds_succ]
 go_wp2_with fail
 refine(Nr _ _ (by omega) (by omega)).mono ?_
 rintro e w1 ⟨A3,n3,c3,rfl,hO,hb1⟩
 obtain rfl:n3=0:=hO.len.symm
 have k0:=(hb1.cell (p:=⟨g,0,none⟩) hg).trans h0
 have k1:=(hb1.cell (p:=⟨g,1,none⟩) hg).trans h1
 have hz1:=hb1.size
 go_wp2_with fail
 refine wp_loop_rounds 3 ?_
 rw[rounds_succ]
 go_wp2_with (at_builtin;refine iV _ jU rfl (.tmp 31) (.tmp 32) rfl w.heap.size _ 0 [] rfl hO.row w.heap.size A1 n1 c1 (cX xs) rfl (hx.rd.below hb1) (oJ xs) (by omega) (by omega) hz1 ?_;intro A4 c4 w2 hO2 hg2 _)
 have hb2:=kI hb1 hO.row hg2 hz1 (Nat.le_refl _)
 have k2:=(hb2.cell (p:=⟨g,1,none⟩) hg).trans h1
 have hz2:=hb2.size
 clear hg2
 have hO4:w2.ownsRow w.heap.size 22 1 (.slice A4 n1 c4) n1 (cX xs):=by simpa using hO2
 rw[rounds_succ]
 go_wp2_with (at_builtin;refine iV _ jU rfl (.tmp 31) (.tmp 32) rfl w.heap.size _ n1 _ rfl hO4 w.heap.size A2 n2 c2 (cX ys) rfl (hy.rd.below hb2) (oJ ys) (by omega) (by omega) hz2 ?_;intro A5 c5 w3 hO3 hg3 _)
 have hb3:=kI hb2 hO4 hg3 hz2 (Nat.le_refl _)
 rw[rounds_succ]
 go_wp2_with fail
 go_ret
 exact⟨A5,n1+n2,c5,rfl,⟨by simpa[qG]using hO3,hx.lim.append hy.lim⟩,hb3⟩
theorem Qi (w:World):(Instr.makeSlice 23 (.int .i64 0) (.int .i64 0)).run Tryz.prog w=.ok (.slice (some ⟨w.heap.size,0,none⟩) 0 0) (w.alloc (.cells #[] 22)):=by
 obtain⟨ht,i,hi,hz,hs,hb,hzs,hp⟩:=jU
 have hr:=run_make (P:=Tryz.prog) w 23 22 i (.int .u32 0) ht hi hz .i64 .i64 0 0 (by omega) (by omega) (by omega) (by omega)
 have e:madeCells (Value.int .u32 0).cells (0*i.size)= #[]:=by rw[Nat.zero_mul];exact Array.eq_empty_of_size_eq_zero (size_madeCells _ _)
 rw[show(0:Int).toNat*i.size=0*i.size from rfl,e]at hr
 exact hr
theorem qW (A:Option Addr) (n c:Nat) (k:Int) (xs:List Nat) (w:World) (ha:U32 w w.heap.size A n c xs) (h0:vl 4294967296 xs=0):
  Calls Tryz.prog 95 #[.slice A n c,.int .i64 k] w (qV [] 0 w):=by
 have ht:trim xs=[]:=(dE 4294967296 (by omega) xs).2 h0
 go_enter Tryz.func95,Tryz.ntmps95
 go_wp2_with fail
 refine(cF _ _ _ 0 _ _ _ ha (by rw[ht];rfl)).mono ?_
 rintro e w' ⟨rfl,rfl⟩
 go_wp2_with fail
 go_ret2
 exact⟨_,_,_,rfl,Own.nil,Below.refl _ _⟩
set_option maxHeartbeats 1000000 in
theorem iT (A:Option Addr) (n0 c k v:Nat) (xs:List Nat) (w:World) (ha0:U32 w w.heap.size A n0 c xs) (hv:vl 4294967296 xs=v) (hn0':n0≤1099511627775) (hk:k<32) (h0:v≠0):
    Calls Tryz.prog 95 #[.slice A n0 c,.int .i64 (k:Int)] w (qV (dg 4294967296 (v*2^k)) 0 w):=by
  have ht:trim xs=dg 4294967296 v:=by rw[←hv,dR (by omega) ha0.lim]
  have ha:=ha0.trim
  have hn:=bV xs
  rw[ha0.len]at hn
  obtain⟨n,hn1⟩:∃n,(trim xs).length=n:=⟨_,rfl⟩
  rw[hn1]at ha hn
  have HT:=Lib.hid hn1
  rw[ht]at ha
  have hl:=ha.len
  clear hn1 ht
  have hn0:0<n:=by
    rcases Nat.eq_zero_or_pos n with h | h
    · subst h
      exact absurd ((bX (by omega)).1 (List.eq_nil_of_length_eq_zero hl)) h0
    exact h
  have HL:=Lib.hid hl
  clear hl
  have q1:((n:Int)==0)=false:=by rw[beq_eq_false_iff_ne];omega
  have q2:(k:Int)/32=0:=by omega
  have q3:(k:Int)%32=k:=by omega
  have mk:=Qi
  have q4:IntKind.i64.wrap 0=0:=rfl
  have q5:(k:Int).tmod 32=k:=by rw[Int.tmod_eq_emod_of_nonneg (by omega)];omega
  go_enter Tryz.func95,Tryz.ntmps95
  go_wp2_with fail
  refine(cF _ _ _ n _ _ _ ha0 HT.out).mono ?_
  rintro e w' ⟨rfl,rfl⟩
  go_wp2_with fail
  go_region_held3 (fun w'=>Below w.heap.size w w') ((repeat (first | exact Below.refl _ _ | assumption | refine Below.drew ?_ | refine Below.alloc ?_ (by first | exact Nat.le_refl _ | exact Below.size (by assumption) | (simp;done) | (simp;omega) | omega) _)))
    (first
      | (go_at_call 132
         refine tE (w0:=w) ?_ (fun hB=>?_)
         · (repeat (first | exact Below.refl _ _ | assumption | refine Below.drew ?_ | refine Below.alloc ?_ (by first | exact Nat.le_refl _ | exact Below.size (by assumption) | (simp;done) | (simp;omega) | omega) _))
         refine(Dx A n c v k _ (ha.now hB) (by omega) hk).mono ?_
         rintro e w1 ⟨A1,n1,c1,rfl,h1,hb1⟩
         have hb2:=hB.trans (hb1.mono hB.size)
         clear hB hb1)
      | (go_at_call 131
         refine tE (w0:=w) ?_ (fun hB=>?_)
         · (repeat (first | exact Below.refl _ _ | assumption | refine Below.drew ?_ | refine Below.alloc ?_ (by first | exact Nat.le_refl _ | exact Below.size (by assumption) | (simp;done) | (simp;omega) | omega) _))
         refine(Gk _ _ _ _ _ _ _ [] (dg 4294967296 (v*2^k)) _ ?_ (lU _ _ _ 0 ?_) (lU _ _ _ 1 ?_) (U32.empty ?_) (U32.now h1 ?_) ?_ ?_ ?_).mono ?_
         · simp
         · simp
         · simp
         · omega
         · (repeat (first | exact Below.refl _ _ | refine Below.alloc ?_ (by first | exact Nat.le_refl _ | (simp;done)) _))
         · omega
         · have hl:=aF (B:=4294967296) (n:=v*2^k) (k:=n+1) (by omega) (by
             rw[Nat.pow_succ]
             exact Nat.mul_lt_mul_of_lt_of_lt (by rw[←HL.out];exact dW (by omega)) (Nat.lt_of_lt_of_le (Nat.pow_lt_pow_right (by omega) hk) (by decide)))
           rw[h1.len]at hl
           omega
         · have hl:=h1.len
           rcases Nat.eq_zero_or_pos n1 with hz | hz
           · rw[hz]at hl
             have:=(bX (by omega)).1 (List.eq_nil_of_length_eq_zero hl)
             have h2:0<v*2^k:=Nat.mul_pos (by omega) (Nat.pos_of_ne_zero (by simp))
             omega
           omega
         rintro e w2 ⟨A2,n2,c2,rfl,h2,hb3⟩
         have hb4:=hB.trans (hb3.mono hB.size)
         have h3:=h2.base_le hB.size
         clear hB hb3 h2))
  all_goals
    go_wp2_with fail
    go_ret2
    exact⟨_,_,_,rfl,h3,hb4⟩
set_option maxHeartbeats 1000000 in
theorem qX (A:Option Addr) (n0 c k v:Nat) (xs:List Nat) (w:World) (ha0:U32 w w.heap.size A n0 c xs) (hv:vl 4294967296 xs=v) (hn0':n0≤1099511627775) (hk0:0<k) (hk:k<32) (h0:v≠0):
  Calls Tryz.prog 95 #[.slice A n0 c,.int .i64 (-(k:Int))] w (qV (dg 4294967296 (v/2^k)) 0 w):=by
 have ht:trim xs=dg 4294967296 v:=by rw[←hv,dR (by omega) ha0.lim]
 have ha:=ha0.trim
 have hn:=bV xs
 rw[ha0.len]at hn
 obtain⟨n,hn1⟩:∃n,(trim xs).length=n:=⟨_,rfl⟩
 rw[hn1]at ha hn
 have HT:=Lib.hid hn1
 rw[ht]at ha
 have hl:=ha.len
 clear hn1 ht
 have hn0:0<n:=by
  rcases Nat.eq_zero_or_pos n with h | h
  ·subst h
   exact absurd ((bX (by omega)).1 (List.eq_nil_of_length_eq_zero hl)) h0
  exact h
 have HL:=Lib.hid hl
 clear hl
 have hcap:=ha.cap
 have hbig:=ha.big
 have q1:((n:Int)==0)=false:=by rw[beq_eq_false_iff_ne];omega
 have q2:(k:Int)/32=0:=by omega
 have q3:(k:Int)%32=k:=by omega
 go_enter Tryz.func95,Tryz.ntmps95
 go_wp2_with fail
 refine(cF _ _ _ n _ _ _ ha0 HT.out).mono ?_
 rintro e w' ⟨rfl,rfl⟩
 go_wp2_with fail
 refine(Bl _ _ _ _ _ _ ha (by omega) hk).mono ?_
 rintro e w1 ⟨A1,n1,c1,rfl,h1,hb1⟩
 go_wp2_with fail
 have hl2:n1≤n:=by
  rw[←h1.len,←HL.out]
  exact cU (by omega) (Nat.div_le_self _ _)
 refine(cF _ _ _ n1 _ _ _ h1 (by rw[xX (by omega)];exact h1.len)).mono ?_
 rintro e w' ⟨rfl,rfl⟩
 go_wp2_with fail
 refine(oU _ _ _ _ _ h1 (by omega)).mono ?_
 rintro e w2 ⟨A2,n2,c2,rfl,h2,hb2⟩
 go_wp2_with fail
 go_ret2
 exact⟨_,_,_,rfl,h2.base_le hb1.size,hb1.trans (hb2.mono hb1.size)⟩
def RowInv (ys os0 os:List Nat) (x i k C:Nat):Prop:=
 C<4294967296∧os.length=os0.length∧vl 4294967296 (os.take (i+k))+4294967296^(i+k)*C=vl 4294967296 (os0.take (i+k))+4294967296^i*(x*vl 4294967296 (ys.take k))∧
  ∀j,i+k≤j→nth os j=nth os0 j
theorem RowInv.zero (ys os0:List Nat) (x i:Nat):RowInv ys os0 os0 x i 0 0:=⟨by omega,rfl,by simp[vl],fun _ _=>rfl⟩
theorem RowInv.lt {ys os0 os:List Nat}{x i k C:Nat}(h:RowInv ys os0 os x i k C):C<4294967296:=h.1
theorem RowInv.step {ys os0 os:List Nat}{x i k C:Nat}(h:RowInv ys os0 os x i k C) (hk:i+k<os.length) (hx:x<4294967296) (hy:Lim 4294967296 ys) (ho:Lim 4294967296 os):
  RowInv ys os0 (os.set (i+k) (cI (x*nth ys k+nth os (i+k)+C))) x i (k+1) (fD (x*nth ys k+nth os (i+k)+C)):=by
 obtain⟨h1,hl,h2,h3⟩:=h
 have y1:=hy.nth (by omega) k
 have o1:=ho.nth (by omega) (i+k)
 have hm:x*nth ys k≤4294967295*4294967295:=Nat.mul_le_mul (by omega) (by omega)
 refine⟨Ib (by omega),by rw[List.length_set,hl],?_,fun j hj=>by rw[fP (by omega)];exact h3 j (by omega)⟩
 rw[←Nat.add_assoc,dI _ _ hk,aN,aN,Nat.pow_succ,h3 (i+k) (Nat.le_refl _)]
 rw[h3 (i+k) (Nat.le_refl _)]at o1
 have e:=Bk (x*nth ys k+nth os0 (i+k)+C)
 rw[Nat.pow_add]at*
 generalize 4294967296^i=p at*
 generalize 4294967296^k=r at*
 generalize cI (x*nth ys k+nth os0 (i+k)+C)=s at*
 generalize fD (x*nth ys k+nth os0 (i+k)+C)=q at*
 have e2:p*r*(s+4294967296*q)=p*r*(x*nth ys k+nth os0 (i+k)+C):=by rw[e]
 grind
def ProdInv (xs ys os:List Nat) (i:Nat):Prop:=
 os.length=xs.length+ys.length∧vl 4294967296 (os.take (i+ys.length))=vl 4294967296 (xs.take i)*vl 4294967296 ys∧∀j,i+ys.length≤j→nth os j=0
theorem uI (n j:Nat):nth (List.replicate n 0) j=0:=by
 unfold nth
 rw[List.getD_eq_getElem?_getD,List.getElem?_replicate]
 split <;> rfl
theorem ProdInv.zero (xs ys:List Nat):ProdInv xs ys (List.replicate (xs.length+ys.length) 0) 0:=
 ⟨by simp,by rw[List.take_replicate,uX];simp[vl],fun _ _=>uI _ _⟩
theorem ProdInv.step {xs ys os0 os:List Nat}{i C:Nat}(h:ProdInv xs ys os0 i) (hi:i<xs.length) (hr:RowInv ys os0 os (nth xs i) i ys.length C):ProdInv xs ys (os.set (i+ys.length) C) (i+1):=by
 obtain⟨h1,h2,h3⟩:=h
 obtain⟨r1,rl,r2,r3⟩:=hr
 refine⟨by rw[List.length_set,rl,h1],?_,fun j hj=>by rw[fP (by omega),r3 j (by omega)];exact h3 j (by omega)⟩
 rw[show i+1+ys.length=i+ys.length+1 from by omega,dI _ _ (by omega),r2,h2,aN,aQ _ (Nat.le_refl _)]
 generalize 4294967296^i=p at*
 grind
theorem ProdInv.end_ {xs ys os:List Nat}(h:ProdInv xs ys os xs.length):vl 4294967296 os=vl 4294967296 xs*vl 4294967296 ys:=by
 obtain⟨h1,h2,_⟩:=h
 rw[aQ _ (by omega),aQ _ (Nat.le_refl _)]at h2
 exact h2
set_option maxHeartbeats 2000000 in
theorem Jm (A B:Option Addr) (n m c d:Nat) (xs ys:List Nat) (w:World) (ha:U32 w w.heap.size A n c xs) (hb:U32 w w.heap.size B m d ys) (hn:n≤549755813888) (hm:m≤549755813888):
  Calls Tryz.prog 44 #[.slice A n c,.slice B m d] w (iF (dg 4294967296 (vl 4294967296 xs*vl 4294967296 ys)) w):=by
 have Hx:=Lib.hid ha.len
 have Hy:=Lib.hid hb.len
 go_enter Tryz.func44,Tryz.ntmps44
 go_wp2_with (refine iH _ jU rfl (.tmp 16) (.tmp 16) rfl .i64 .i64 _ _ (n+m) rfl rfl (by omega) (by omega) (by omega) (by omega) ?_;intro w1 hown hb1 hz1)
 have hO:=Own.made hown
 clear hown
 go_wp2_with fail
 go_loopw [20] (fun i wr=>∃(k:Nat) (os:List Nat),k≤n∧i=.int .i64 (k:Int)∧Own 22 wr w.heap.size (some ⟨w.heap.size,0,none⟩) (n+m) (n+m) os∧ProdInv xs ys os k∧Below w.heap.size w wr∧w.heap.size<wr.heap.size) (fun i _=>n-(intOf i).toNat)
 case atStart=>exact⟨0,_,Nat.zero_le _,rfl,hO,by have:=ProdInv.zero xs ys;rwa[Hx.out,Hy.out]at this,hb1,hz1⟩
 case round=>
  obtain⟨i,os,hi,rfl,hown,hI,hbw,hz⟩:=hrel
  by_cases hlt:i<n
  ·obtain⟨b,o,sp,rfl,hbb,hcc⟩:=(ha.below hbw).at_ hlt
   have hx1:=ha.lim.nth (by omega) i
   go_wp2_with fail
   obtain⟨wo,rfl⟩:∃wo:World,wo=wr:=⟨_,rfl⟩
   have hx2:(0:Int)≤(nth xs i:Int):=by omega
   go_loopw [8,27] (fun cy kk wr=>∃(k C:Nat) (oz:List Nat),k≤m∧kk=.int .i64 (k:Int)∧cy=.int .u64 (C:Int)∧Own 22 wr w.heap.size (some ⟨w.heap.size,0,none⟩) (n+m) (n+m) oz∧RowInv ys os oz (nth xs i) i k C∧Below w.heap.size w wr∧w.heap.size<wr.heap.size) (fun _ kk _=>m-(intOf kk).toNat)
   case atStart=>exact⟨0,0,os,Nat.zero_le _,rfl,rfl,hown,RowInv.zero _ _ _ _,hbw,hz⟩
   case round=>
    obtain⟨k,C,oz,hk,rfl,rfl,hown2,hR,hbw2,hz2⟩:=hrel
    have hC:=hR.lt
    by_cases hlk:k<m
    ·obtain⟨b2,o2,sp2,rfl,hbb2,hcc2⟩:=(hb.below hbw2).at_ hlk
     have hy1:=hb.lim.nth (by omega) k
     have ho0:=hown2.cell (show i+k<n+m by omega)
     have ho1:=hown2.lim.nth (by omega) (i+k)
     have ho2:=hown2.frozen (i+k)
     obtain⟨p0,p1⟩:=wP (nth xs i:Int) (nth ys k:Int) (by omega) (by omega) (by omega) (by omega)
     have hset:=hown2.set (i+k) (v:=cI (nth xs i*nth ys k+nth oz (i+k)+C)) (oV _)
     have hstep:=hR.step (by rw[hown2.len];omega) hx1 hb.lim hown2.lim
     go_wp2_with fail
     go_roundw
     case rel=>exact⟨k+1,_,_,by omega,by go_num,rfl,hset,hstep,hbw2.setCell (Nat.le_refl _) _,by simpa using hz2⟩
     case measure=>simp[intOf];omega
    obtain rfl:k=m:=by omega
    have ho0:=hown2.cell (show i+k<n+k by omega)
    have ho2:=hown2.frozen (i+k)
    have hset:=hown2.set (i+k) (v:=C) hC
    have hR2:=hR
    rw[←Hy.out]at hR2
    have hstep:=hI.step (by rw[Hx.out];exact hlt) hR2
    rw[Hy.out]at hstep
    clear hR2
    go_wp2_with fail
    go_roundw
    case rel=>exact⟨i+1,_,by omega,by go_num,hset,hstep,hbw2.setCell (Nat.le_refl _) _,by simpa using hz2⟩
    case measure=>simp[intOf];omega
  obtain rfl:i=n:=by omega
  have hI2:=hI
  rw[←Hx.out]at hI2
  have hend:=Lib.hid hI2.end_
  clear hI2
  go_wp2_with fail
  refine(cO _ _ _ os _ hown.u32 (by omega)).mono ?_
  rintro e w2 ⟨A2,n2,c2,rfl,h2,hb2⟩
  go_wp2_with fail
  go_ret
  exact⟨_,_,_,rfl,by rw[←hend.out,dR (by omega) hown.lim];exact h2.base_le hbw.size,hbw.trans (hb2.mono hbw.size)⟩
def cJ (u3 v2:Nat):Nat:=min 4294967295 (u3/v2)
def GuessInv (hi mid low first second q r:Nat):Prop:=
 q*first+r=hi*4294967296+mid∧r<4294967296∧cJ ((hi*4294967296+mid)*4294967296+low) (first*4294967296+second)≤q∧q≤4294967297
theorem pG (u v:Nat):u/v*v≤u:=Nat.div_mul_le_self u v
theorem GuessInv.start {hi mid low first second:Nat}(h0:2147483648≤first) (hf:first<4294967296) (hh:hi≤first) (hm:mid<4294967296) (hl:low<4294967296):
  GuessInv hi mid low first second ((hi*4294967296+mid)/first) ((hi*4294967296+mid)%first):=by
 have hp:0<first:=by omega
 have hmod:=Nat.mod_lt (hi*4294967296+mid) hp
 refine⟨by rw[Nat.mul_comm];exact Nat.div_add_mod _ _,by omega,?_,?_⟩
 ·unfold cJ
  refine Nat.le_trans (Nat.min_le_right _ _) ?_
  rw[Nat.le_div_iff_mul_le hp]
  have h1:=pG ((hi*4294967296+mid)*4294967296+low) (first*4294967296+second)
  generalize ((hi*4294967296+mid)*4294967296+low)/(first*4294967296+second)=q at*
  have h2:q*first*4294967296≤q*(first*4294967296+second):=by
   rw[Nat.mul_assoc];exact Nat.mul_le_mul_left _ (by omega)
  omega
 have:hi*4294967296+mid<(4294967297+1)*first:=by
  have:hi*4294967296≤first*4294967296:=Nat.mul_le_mul_right _ hh
  omega
 have:=Nat.div_lt_of_lt_mul (m:=hi*4294967296+mid) (n:=first) (k:=4294967298) (by omega)
 omega
theorem Dy {B two low r x y z:Nat}(e:z=y*B+x) (h1:y+r=two) (hc:r*B+low<x):two*B+low<z:=by
 subst h1;subst e;rw[Nat.add_mul];omega
theorem GuessInv.down {hi mid low first second q r:Nat}(h:GuessInv hi mid low first second q r) (hc:4294967295<q∨r*4294967296+low<q*second):
  1≤q∧(q-1)*first+(r+first)=hi*4294967296+mid∧cJ ((hi*4294967296+mid)*4294967296+low) (first*4294967296+second)≤q-1:=by
 obtain⟨h1,h2,h3,h4⟩:=h
 have hq:1≤q:=by
  rcases hc with hc | hc
  ·omega
  rcases Nat.eq_zero_or_pos q with h | h
  ·subst h;omega
  exact h
 refine⟨hq,?_,?_⟩
 ·have:(q-1)*first+first=q*first:=by rw[←Nat.succ_mul,show(q-1).succ=q by omega]
  omega
 rcases hc with hc | hc
 ·unfold cJ;omega
 have hlt:cJ ((hi*4294967296+mid)*4294967296+low) (first*4294967296+second)<q:=by
  unfold cJ
  refine Nat.lt_of_le_of_lt (Nat.min_le_right _ _) ?_
  have e:q*(first*4294967296+second)=q*first*4294967296+q*second:=by rw[Nat.mul_add,Nat.mul_assoc]
  have hu:(hi*4294967296+mid)*4294967296+low<q*(first*4294967296+second):=by
   exact Dy e h1 hc
  have hv:0<first*4294967296+second:=by
   rcases Nat.eq_zero_or_pos (first*4294967296+second)with h | h
   ·rw[h]at hu;omega
   exact h
  exact(Nat.div_lt_iff_lt_mul hv).2 hu
 omega
theorem GuessInv.next {hi mid low first second q r:Nat}(h:GuessInv hi mid low first second q r) (hc:4294967295<q∨r*4294967296+low<q*second) (hr:r+first<4294967296):
  GuessInv hi mid low first second (q-1) (r+first):=by
 obtain⟨d1,d2,d3⟩:=h.down hc
 exact⟨d2,hr,d3,by have:=h.2.2.2;omega⟩
theorem wR {u v q:Nat}(hv:0<v) (h1:q≤4294967295) (h2:q*v≤u):q≤cJ u v:=by
 unfold cJ
 have:=(Nat.le_div_iff_mul_le hv).2 h2
 omega
theorem GuessInv.brk {hi mid low first second q r:Nat}(h:GuessInv hi mid low first second q r) (hc:4294967295<q∨r*4294967296+low<q*second) (hr:4294967296≤r+first)
  (h0:2147483648≤first) (hh:hi≤first) (hm:mid<4294967296) (hs:second<4294967296):
  q-1=cJ ((hi*4294967296+mid)*4294967296+low) (first*4294967296+second):=by
 obtain⟨d1,d2,d3⟩:=h.down hc
 refine Nat.le_antisymm ?_ d3
 have hq:q-1≤4294967295:=by
  rcases Nat.lt_or_ge 4294967295 (q-1)with h | h
  ·have h1:4294967296*first≤(q-1)*first:=Nat.mul_le_mul_right _ (by omega)
   have h2:hi*4294967296≤first*4294967296:=Nat.mul_le_mul_right _ hh
   omega
  exact h
 refine wR (by omega) hq ?_
 have e:(q-1)*(first*4294967296+second)=(q-1)*first*4294967296+(q-1)*second:=by rw[Nat.mul_add,Nat.mul_assoc]
 have hb:(q-1)*second≤4294967295*4294967295:=Nat.mul_le_mul hq (by omega)
 rw[e]
 omega
theorem GuessInv.done {hi mid low first second q r:Nat}(h:GuessInv hi mid low first second q r) (h1:q≤4294967295) (h2:q*second≤r*4294967296+low) (hf:0<first):
  q=cJ ((hi*4294967296+mid)*4294967296+low) (first*4294967296+second):=by
 refine Nat.le_antisymm (wR (by omega) h1 ?_) h.2.2.1
 have e:q*(first*4294967296+second)=q*first*4294967296+q*second:=by rw[Nat.mul_add,Nat.mul_assoc]
 have:=h.1
 rw[e]
 omega
theorem Bm {u v u3 v2 p ul vl':Nat}(hu:u=u3*p+ul) (hul:ul<p) (hv:v=v2*p+vl') (hvl:vl'<p) (hv2:4294967296≤v2) (hlt:u<v*4294967296):
  u/v≤cJ u3 v2∧cJ u3 v2≤u/v+1:=by
 have hp:0<p:=by omega
 have hvp:0<v:=by
  have:0<v2*p:=Nat.mul_pos (by omega) hp
  omega
 constructor
 ·unfold cJ
  have h1:u/v<4294967296:=(Nat.div_lt_iff_lt_mul hvp).2 (by rw[Nat.mul_comm];exact hlt)
  have h2:u/v≤u3/v2:=by
   rw[Nat.le_div_iff_mul_le (by omega)]
   have h3:=pG u v
   generalize u/v=q at*
   have h4:q*v2*p≤q*v:=by rw[Nat.mul_assoc,hv];exact Nat.mul_le_mul_left _ (by omega)
   have h5:q*v2*p<(u3+1)*p:=by rw[Nat.add_mul];omega
   have:=Nat.lt_of_mul_lt_mul_right h5
   omega
  omega
 have hg1:cJ u3 v2≤4294967295:=Nat.min_le_left _ _
 have hg2:cJ u3 v2*v2≤u3:=by
  have:cJ u3 v2≤u3/v2:=Nat.min_le_right _ _
  exact(Nat.le_div_iff_mul_le (by omega)).1 this
 generalize cJ u3 v2=q at*
 rcases Nat.eq_zero_or_pos q with h | h
 ·rw[h];exact Nat.zero_le _
 have h6:q-1≤u/v:=by
  rw[Nat.le_div_iff_mul_le hvp]
  have h7:q*v2*p≤u3*p:=Nat.mul_le_mul_right _ hg2
  have h8:q*v=q*v2*p+q*vl':=by rw[hv,Nat.mul_add,Nat.mul_assoc]
  have h9:q*vl'≤4294967295*p:=Nat.mul_le_mul hg1 (by omega)
  have h10:4294967296*p≤v2*p:=Nat.mul_le_mul_right _ hv2
  have h11:(q-1)*v+v=q*v:=by rw[←Nat.succ_mul,show(q-1).succ=q by omega]
  omega
 generalize u/v=j at*
 omega
theorem zG (h l:Nat) (h1:h<4294967296) (l1:l<4294967296):bits BinOp.or IntKind.u64 ((h:Int)*4294967296) (l:Int)=(h:Int)*4294967296+(l:Int):=
 Ds _ _ (by omega) (by omega) (by omega) (by omega)
theorem zH {q s:Nat}(h1:q≤4294967295) (h2:s<4294967296):(0:Int)≤(q:Int)*(s:Int)∧(q:Int)*(s:Int)≤18446744065119617025:=
 wP _ _ (by omega) (by omega) (by omega) (by omega)
set_option maxHeartbeats 1000000 in
theorem Dz (hi mid low first second:Nat) (w:World) (h0:2147483648≤first) (hf:first<4294967296) (hh:hi≤first) (hm:mid<4294967296) (hl:low<4294967296) (hs:second<4294967296):
  Calls Tryz.prog 96 #[.int .u32 (hi:Int),.int .u32 (mid:Int),.int .u32 (low:Int),.int .u32 (first:Int),.int .u32 (second:Int)] w fun e w'=>
   e=.returned (.int .u64 (cJ ((hi*4294967296+mid)*4294967296+low) (first*4294967296+second):Nat))∧∃k,w'=w.drewN k:=by
 have hs0:=GuessInv.start (low:=low) (second:=second) h0 hf hh hm hl
 have e1:=zG hi mid (by omega) hm
 have n1:¬(first:Int)=0:=by omega
 go_enter Tryz.func96,Tryz.ntmps96
 go_wp2_with fail
 go_step3
 go_wp2_with fail
 go_quiet (fail)
 clear e1 n1
 go_wp2_with fail
 go_step3
 go_wp2_with fail
 go_loop [12,13] (fun a b=>∃q r:Nat,a=.int .u64 (q:Int)∧b=.int .u64 (r:Int)∧GuessInv hi mid low first second q r) (fun a _=>(intOf a).toNat)
 case atStart=>exact⟨_,_,rfl,rfl,hs0⟩
 case round=>
  obtain⟨q,r,rfl,rfl,hI⟩:=hrel
  have hr:=hI.2.1
  have hq:=hI.2.2.2
  by_cases hc:4294967295<q
  ·obtain⟨d1,d2,d3⟩:=hI.down (.inl hc)
   by_cases hb:r+first<4294967296
   ·have hn:=hI.next (.inl hc) hb
    clear hI d2 d3
    have c1:decide ((4294967295:Int)<(q:Int))=true:=by simp;omega
    go_wp2_with fail
    go_round
    case rel=>exact⟨q-1,r+first,by go_num,by go_num,hn⟩
    case measure=>simp[intOf];omega
   have hn:=hI.brk (.inl hc) (by omega) h0 hh hm hs
   have Hn:=Lib.hid hn
   clear hI d2 d3 hn
   have c1:decide ((4294967295:Int)<(q:Int))=true:=by simp;omega
   go_wp2_with fail
   go_ret
   exact⟨by rw[←Hn.out];go_num,_,rfl⟩
  have c1:decide ((4294967295:Int)<(q:Int))=false:=by simp;omega
  have e2:=zG r low hr hl
  obtain⟨p0,p1⟩:=zH (q:=q) (s:=second) (by omega) hs
  by_cases hc2:r*4294967296+low<q*second
  ·obtain⟨d1,d2,d3⟩:=hI.down (.inr hc2)
   have c2:(r:Int)*4294967296+(low:Int)<(q:Int)*(second:Int):=by
    have:((r*4294967296+low:Nat):Int)<((q*second:Nat):Int):=by omega
    simpa using this
   by_cases hb:r+first<4294967296
   ·have hn:=hI.next (.inr hc2) hb
    clear hI d2 d3
    go_wp2_with fail
    go_round
    case rel=>exact⟨q-1,r+first,by go_num,by go_num,hn⟩
    case measure=>simp[intOf];omega
   have hn:=hI.brk (.inr hc2) (by omega) h0 hh hm hs
   have Hn:=Lib.hid hn
   clear hI d2 d3 hn
   go_wp2_with fail
   go_ret
   exact⟨by rw[←Hn.out];go_num,_,rfl⟩
  have hn:=Lib.hid (hI.done (by omega) (by omega) (by omega))
  have c2:¬(r:Int)*4294967296+(low:Int)<(q:Int)*(second:Int):=by
   have:¬((r*4294967296+low:Nat):Int)<((q*second:Nat):Int):=by omega
   simpa using this
  clear hI
  go_wp2_with fail
  go_ret
  exact⟨by rw[←hn.out];rfl,_,rfl⟩
end Go.Proofs.YteggpgndiajdpaaGreatDoor
