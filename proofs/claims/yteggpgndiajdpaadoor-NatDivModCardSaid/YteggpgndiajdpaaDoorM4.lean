/- Part 4 of a proof: Av19 to Av26. -/
import Derived.Test.YteggpgndiajdpaaDoorM3
import Derived.Test.YteggpgndiajdpaaDoorChecked
import Derived.WalkKit
import Derived.ProofKit
import Derived.OpenShut
import Derived.ChangeOld
import Derived.Below
import Derived.Carry
import Derived.Laws.BytesArg
set_option maxRecDepth 100000
set_option linter.unusedVariables false
set_option linter.unusedSimpArgs false
namespace Go.Proofs.YteggpgndiajdpaaDoor
open Go Go.RowKit
def pB (k:Nat):AV→Option (AV×List Ob)
 | .t (.s true t z n l)=>match Nat.beq z 0 with
  | false=>some (.sl k 0 n,[⟨t,z,l.map .t⟩])
  | true=>none
 | .t (.p true t l)=>some (.pt k 0,[⟨t,0,l.map .t⟩])
 | .t (.s false t z n l)=>some (.t (.s false t z n l),[])
 | .t (.p false t l)=>some (.t (.p false t l),[])
 | .t (.v v)=>some (.t (.v v),[])
 | .t (.f g l0 l)=>some (.t (.f g l0 l),[])
 | _=>none
def fW (k:Nat):List AV→Option (List AV×List Ob)
 | []=>some ([],[])
 | a::l=>match pB k a with
  | some (a',[])=>match fW k l with
   | some (l',os)=>some (a'::l',os)
   | none=>none
  | some (a',o::_)=>match fW (k+1) l with
   | some (l',os)=>some (a'::l',o::os)
   | none=>none
  | none=>none
def fC:VT→Co
 | .w _=>⟨none,0,[]⟩
 | .s b c _ _ _ l=>⟨some b,c,l⟩
 | .p b _ l=>⟨some b,0,l⟩
section
variable {W:World}{N:Nat→Prop}
theorem pC {k:Nat}{a a':AV}{os:List Ob}{y:VT}(hc:CR W N [] a y) (hok:y.ok W) (h:pB k a=some (a',os)):
  (os=[]∧y.fp=[]∧∀(N':Nat→Prop) (cs:List Co),(∀b,N b→N' b)→AR W N' cs a' y.val)∨
  (∃o,os=[o]∧(aB (some o) (fC y)).S=y.fp∧(aB (some o) (fC y)).φ W∧(∀(N':Nat→Prop) (cs:List Co),(∀b,N b→N' b)→k<cs.length→co cs k=fC y→AR W N' cs a' y.val∧aE W N' cs o.l (fC y).l)∧((fC y).b=none→o.l=[]∧o.z≠0)):=by
 unfold pB at h
 split at h
 ·rename_i t z n l
  split at h
  ·rename_i hz
   injection h with h
   injection h with h1 h2
   subst h1 h2
   refine .inr ⟨_,rfl,?_⟩
   have hz0:z≠0:=fun e=>by subst e;simp at hz
   simp only[CR]at hc
   cases y with
   | w u=>
    simp only[OR]at hc
    rcases hc with⟨_,rfl,rfl,rfl⟩ | ⟨hc,_⟩
    ·refine⟨rfl,by simp[aB,fC],fun N' cs hN hk hco=>⟨?_,by simp[aE,fC]⟩,fun _=>⟨rfl,hz0⟩⟩
     simp only[AR,hco,fC,VT.val]
     exact⟨hk,by trivial,by trivial,by trivial⟩
    cases hc
   | s b c t' z' n' l'=>
    simp only[OR]at hc
    obtain⟨_,rfl,rfl,rfl,hl⟩:=hc
    simp only[VT.ok]at hok
    obtain⟨k1,k2,k3,k4,k5⟩:=hok
    refine⟨rfl,?_,fun N' cs hN hk hco=>⟨?_,oZ (ORL_keep (fun _ _=>rfl) hN _ _ hl)⟩,fun h=>by cases h⟩
    ·simp only[aB,fC]
     rw[hz,cond_false]
     exact⟨k1,k5,k3⟩
    simp only[AR,hco,fC,VT.val]
    exact⟨hk,0,c,rfl,k2,by unfold maxLen at k3;omega,fun _=>rfl,fun _=>rfl⟩
   | p b t' l'=>simp only[OR]at hc
  cases h
 ·rename_i t l
  injection h with h
  injection h with h1 h2
  subst h1 h2
  refine .inr ⟨_,rfl,?_⟩
  simp only[CR]at hc
  cases y with
  | w u=>
   simp only[OR]at hc
   cases hc.1
  | s b c t' z' n' l'=>simp only[OR]at hc
  | p b t' l'=>
   simp only[OR]at hc
   obtain⟨_,rfl,hl⟩:=hc
   simp only[VT.ok]at hok
   refine⟨rfl,?_,fun N' cs hN hk hco=>⟨?_,oZ (ORL_keep (fun _ _=>rfl) hN _ _ hl)⟩,fun h=>by cases h⟩
   ·simp only[aB,fC]
    exact⟨hok.1,hok.2,Nat.zero_le _⟩
   simp only[AR,hco,fC,VT.val]
   exact⟨b,rfl,rfl⟩
 ·injection h with h
  injection h with h1 h2
  subst h1 h2
  have hr:=nL hc rfl
  refine .inl ⟨rfl,?_,fun N' cs hN=>cS (fun _ _=>rfl) hN ⟨Nat.zero_le _,fun k hk=>by simp at hk⟩ _ _ hr⟩
  simp only[CR]at hc
  cases y with
  | w u=>rfl
  | s=>simp only[OR]at hc;cases hc.1
  | p=>simp only[OR]at hc
 ·injection h with h
  injection h with h1 h2
  subst h1 h2
  have hr:=nL hc rfl
  refine .inl ⟨rfl,?_,fun N' cs hN=>cS (fun _ _=>rfl) hN ⟨Nat.zero_le _,fun k hk=>by simp at hk⟩ _ _ hr⟩
  simp only[CR]at hc
  cases y with
  | w u=>rfl
  | s=>simp only[OR]at hc
  | p=>simp only[OR]at hc;cases hc.1
 ·injection h with h
  injection h with h1 h2
  subst h1 h2
  have hr:=nL hc rfl
  refine .inl ⟨rfl,?_,fun N' cs hN=>cS (fun _ _=>rfl) hN ⟨Nat.zero_le _,fun k hk=>by simp at hk⟩ _ _ hr⟩
  simp only[CR,OR]at hc
  subst hc
  rfl
 ·injection h with h
  injection h with h1 h2
  subst h1 h2
  have hr:=nL hc rfl
  refine .inl ⟨rfl,?_,fun N' cs hN=>cS (fun _ _=>rfl) hN ⟨Nat.zero_le _,fun k hk=>by simp at hk⟩ _ _ hr⟩
  simp only[CR]at hc
  cases y with
  | w u=>rfl
  | s=>simp only[OR]at hc
  | p=>simp only[OR]at hc
 cases h
theorem lS:∀{l l':List AV}{k:Nat}{os:List Ob}{ys:List VT},aE W N [] l ys→VT.okL W ys→fW k l=some (l',os)→∃cs2:List Co,cs2.length=os.length∧(aA (os.map some) cs2).flatMap Res.S=VT.fpL ys∧(∀r∈aA (os.map some) cs2,r.φ W)∧
  ∀(N':Nat→Prop) (cs:List Co),(∀b,N b→N' b)→k+os.length≤cs.length→(∀i,i<os.length→co cs (k+i)=co cs2 i)→ARL W N' cs l' (ys.map VT.val)∧∀(i:Nat) (o:Ob),os[i]? =some o→aE W N' cs o.l (co cs2 i).l∧((co cs2 i).b=none→o.l=[]∧o.z≠0)
 | [],l',k,os,ys,hc,hok,h=>by
  simp only[aE]at hc
  subst hc
  simp[fW]at h
  obtain⟨rfl,rfl⟩:=h
  exact⟨[],rfl,rfl,by simp[aA],fun N' cs hN hk hco=>⟨by simp[ARL],fun i o ho=>by simp at ho⟩⟩
 | a::l,l',k,os,[],hc,hok,h=>by simp only[aE]at hc
 | a::l,l',k,os,y::ys,hc,hok,h=>by
  simp only[aE]at hc
  simp only[VT.okL]at hok
  unfold fW at h
  split at h
  ·rename_i a' ha
   split at h
   ·rename_i l2 os2 hl
    injection h with h
    injection h with h1 h2
    subst h1 h2
    obtain⟨cs2,e1,e2,e3,e4⟩:=lS hc.2 hok.2 hl
    rcases pC hc.1 hok.1 ha with⟨_,f1,f2⟩ | ⟨o,f1,_⟩
    ·refine⟨cs2,e1,by rw[e2];simp[VT.fpL,f1],e3,fun N' cs hN hk hco=>?_⟩
     obtain⟨g1,g2⟩:=e4 N' cs hN hk hco
     simp only[List.map_cons,ARL]
     exact⟨⟨f2 N' cs hN,g1⟩,g2⟩
    cases f1
   cases h
  ·rename_i a' o os0 ha
   split at h
   ·rename_i l2 os2 hl
    injection h with h
    injection h with h1 h2
    subst h1 h2
    obtain⟨cs2,e1,e2,e3,e4⟩:=lS hc.2 hok.2 hl
    rcases pC hc.1 hok.1 ha with⟨f1,_⟩ | ⟨o',f1,f2,f3,f4,f5⟩
    ·cases f1
    injection f1 with f1 _
    subst f1
    refine⟨fC y::cs2,by simp[e1],?_,?_,fun N' cs hN hk hco=>?_⟩
    ·unfold aA at e2⊢
     simp only[List.map_cons,List.zipWith_cons_cons,List.flatMap_cons,VT.fpL,f2,e2]
    ·unfold aA at e3⊢
     simp only[List.map_cons,List.zipWith_cons_cons]
     intro r hr
     rcases List.mem_cons.1 hr with rfl | hr
     ·exact f3
     exact e3 r hr
    simp only[List.length_cons]at hk hco
    have h0:=hco 0 (by omega)
    obtain⟨g1,g2⟩:=f4 N' cs hN (by omega) h0
    obtain⟨g3,g4⟩:=e4 N' cs hN (by omega) (fun i hi=>by
     have:=hco (i+1) (by omega)
     rw[show k+(i+1)=k+1+i by omega]at this
     rw[this]
     simp[co])
    simp only[List.map_cons,ARL]
    refine⟨⟨g1,g3⟩,fun i o ho=>?_⟩
    cases i with
    | zero=>
     simp at ho
     subst ho
     exact⟨g2,f5⟩
    | succ i=>
     have:=g4 i o (by simpa using ho)
     simpa[co]using this
   cases h
  cases h
end
def kX (k:Nat):FV→Option (FV×List Ob)
 | .one a=>match pB k a with
  | some (a',os)=>some (.one a',os)
  | none=>none
 | .agg l=>match fW k l with
  | some (l',os)=>some (.agg l',os)
  | none=>none
 | _=>none
def mS (k:Nat):List FV→Option (List FV×List Ob)
 | []=>some ([],[])
 | a::l=>match kX k a with
  | some (a',os)=>match mS (k+os.length) l with
   | some (l',os')=>some (a'::l',os++os')
   | none=>none
  | none=>none
def kY (k:Nat):FV→Option (FV×List Ob)
 | .tup l=>match mS k l with
  | some (l',os)=>some (.tup l',os)
  | none=>none
 | v=>kX k v
section
variable {W:World}{N:Nat→Prop}
def Bnd (W:World) (N:Nat→Prop) (k:Nat) (os:List Ob) (ys:List VT) (A:(Nat→Prop)→List Co→Prop):Prop:=∃cs2:List Co,cs2.length=os.length∧(aA (os.map some) cs2).flatMap Res.S=VT.fpL ys∧(∀r∈aA (os.map some) cs2,r.φ W)∧
  ∀(N':Nat→Prop) (cs:List Co),(∀b,N b→N' b)→k+os.length≤cs.length→(∀i,i<os.length→co cs (k+i)=co cs2 i)→A N' cs∧∀(i:Nat) (o:Ob),os[i]? =some o→aE W N' cs o.l (co cs2 i).l∧((co cs2 i).b=none→o.l=[]∧o.z≠0)
theorem pD {k:Nat}{r v:FV}{os:List Ob}{u:Value}{ys:List VT}(hr:kE W N [] r u ys) (hok:VT.okL W ys) (h:kX k r=some (v,os)):Bnd W N k os ys (fun N' cs=>aJ W N' cs v u):=by
 cases r with
 | any=>exact hr.elim
 | tup l=>exact hr.elim
 | one a=>
  obtain⟨z,rfl,rfl,hc⟩:=hr
  unfold kX at h
  dsimp only at h
  split at h
  ·rename_i a' os' ha
   injection h with h
   injection h with h1 h2
   subst h1 h2
   have hl:fW k [a]=some ([a'],os')∨∃o r,os'=o::r:=by
    cases os' with
    | nil=>left;simp[fW,ha]
    | cons o r=>exact .inr ⟨o,r,rfl⟩
   have hl2:fW k [a]=some ([a'],os'):=by
    rcases hl with hl | ⟨o,r,rfl⟩
    ·exact hl
    have hr':r=[]:=by
     rcases pC hc (by simpa[VT.okL]using hok) ha with⟨f1,_⟩ | ⟨o',f1,_⟩
     ·cases f1
     injection f1
    subst hr'
    simp[fW,ha]
   obtain⟨cs2,e1,e2,e3,e4⟩:=lS (l:=[a]) (ys:=[z]) (by simp only[aE];exact⟨hc,trivial⟩) hok hl2
   refine⟨cs2,e1,e2,e3,fun N' cs hN hk hco=>?_⟩
   obtain⟨g1,g2⟩:=e4 N' cs hN hk hco
   simp only[List.map_cons,ARL]at g1
   exact⟨g1.1,g2⟩
  cases h
 | agg l=>
  obtain⟨rfl,hc⟩:=hr
  unfold kX at h
  dsimp only at h
  split at h
  ·rename_i l' os' hl
   injection h with h
   injection h with h1 h2
   subst h1 h2
   obtain⟨cs2,e1,e2,e3,e4⟩:=lS hc hok hl
   refine⟨cs2,e1,e2,e3,fun N' cs hN hk hco=>?_⟩
   obtain⟨g1,g2⟩:=e4 N' cs hN hk hco
   exact⟨⟨_,rfl,g1⟩,g2⟩
  cases h
theorem Bnd.app {k:Nat}{os os':List Ob}{ys ys':List VT}{A B:(Nat→Prop)→List Co→Prop}(h:Bnd W N k os ys A) (h':Bnd W N (k+os.length) os' ys' B):Bnd W N k (os++os') (ys++ys') (fun N cs=>A N cs∧B N cs):=by
 obtain⟨c1,a1,a2,a3,a4⟩:=h
 obtain⟨c2,b1,b2,b3,b4⟩:=h'
 have hr:aA ((os++os').map some) (c1++c2)=aA (os.map some) c1++aA (os'.map some) c2:=by
  unfold aA
  rw[List.map_append,List.zipWith_append (by simp[a1])]
 have hc1:∀i,i<os.length→co (c1++c2) i=co c1 i:=fun i hi=>by simp[co,List.getElem?_append_left (show i<c1.length by omega)]
 have hc2:∀i,co (c1++c2) (os.length+i)=co c2 i:=fun i=>by
  unfold co
  rw[List.getElem?_append_right (by omega),show os.length+i-c1.length=i by omega]
 refine⟨c1++c2,by simp[a1,b1],by rw[hr,List.flatMap_append,a2,b2,eC],fun r hm=>?_,fun N' cs hN hk hco=>?_⟩
 ·rw[hr]at hm
  rcases List.mem_append.1 hm with hm | hm
  ·exact a3 r hm
  exact b3 r hm
 simp only[List.length_append]at hk hco
 obtain⟨g1,g2⟩:=a4 N' cs hN (by omega) (fun i hi=>by rw[hco i (by omega),hc1 i hi])
 obtain⟨g3,g4⟩:=b4 N' cs hN (by omega) (fun i hi=>by
  have:=hco (os.length+i) (by omega)
  rw[hc2,show k+(os.length+i)=k+os.length+i by omega]at this
  exact this)
 refine⟨⟨g1,g3⟩,fun i o ho=>?_⟩
 rcases Nat.lt_or_ge i os.length with hi | hi
 ·rw[List.getElem?_append_left hi]at ho
  rw[hc1 i hi]
  exact g2 i o ho
 rw[List.getElem?_append_right hi]at ho
 have:=g4 (i-os.length) o ho
 rw[←hc2,show os.length+(i-os.length)=i by omega]at this
 exact this
theorem vE:∀{l l':List FV}{k:Nat}{os:List Ob}{us:List Value}{ys:List VT},kT W N [] l us ys→VT.okL W ys→mS k l=some (l',os)→Bnd W N k os ys (fun N' cs=>bC W N' cs l' us)
 | [],l',k,os,us,ys,hr,hok,h=>by
  simp[mS]at h
  obtain⟨rfl,rfl⟩:=h
  obtain⟨rfl,rfl⟩:=hr
  exact⟨[],rfl,rfl,by simp[aA],fun N' cs hN hk hco=>⟨by simp[bC],fun i o ho=>by simp at ho⟩⟩
 | a::l,l',k,os,us,ys,⟨v,vs,y1,y2,h1,h2,h3,h4⟩,hok,h=>by
  subst h1 h2
  rw[fA]at hok
  unfold mS at h
  split at h
  ·rename_i a' os1 ha
   split at h
   ·rename_i l2 os2 hl
    injection h with h
    injection h with e1 e2
    subst e1 e2
    have q1:=pD h3 hok.1 ha
    have q2:=vE h4 hok.2 hl
    obtain⟨cs2,e1,e2,e3,e4⟩:=q1.app q2
    exact⟨cs2,e1,e2,e3,fun N' cs hN hk hco=>by
     obtain⟨g1,g2⟩:=e4 N' cs hN hk hco
     exact⟨by simp only[bC];exact g1,g2⟩⟩
   cases h
  cases h
theorem yV {k:Nat}{r v:FV}{os:List Ob}{u:Value}{ys:List VT}(hr:RO W N [] r u ys) (hok:VT.okL W ys) (h:kY k r=some (v,os)):Bnd W N k os ys (fun N' cs=>aD W N' cs v u):=by
 cases r with
 | tup l=>
  obtain⟨us,rfl,h2⟩:=hr
  unfold kY at h
  dsimp only at h
  split at h
  ·rename_i l' os' hl
   injection h with h
   injection h with h1 h2
   subst h1 h2
   obtain⟨cs2,e1,e2,e3,e4⟩:=vE h2 hok hl
   exact⟨cs2,e1,e2,e3,fun N' cs hN hk hco=>⟨⟨us,rfl,(e4 N' cs hN hk hco).1⟩,(e4 N' cs hN hk hco).2⟩⟩
  cases h
 | any=>exact hr.elim
 | one a=>
  obtain⟨cs2,e1,e2,e3,e4⟩:=pD (r:=.one a) hr hok h
  exact⟨cs2,e1,e2,e3,fun N' cs hN hk hco=>⟨eP (e4 N' cs hN hk hco).1,(e4 N' cs hN hk hco).2⟩⟩
 | agg l=>
  obtain⟨cs2,e1,e2,e3,e4⟩:=pD (r:=.agg l) hr hok h
  exact⟨cs2,e1,e2,e3,fun N' cs hN hk hco=>⟨eP (e4 N' cs hN hk hco).1,(e4 N' cs hN hk hco).2⟩⟩
end
section
variable {x:Cx}{g g':Nat→FV}{ob ob':List (Option Ob)}{cs cs':List Co}{ts ts':Array Value}{W W':World}{T:List (Nat×TI)}{Q:cG}{ops:Array Oper}{rest:List Oper}{d:Nat}{ty:TypeId}{pos:String}{af:Array Edge}{gd:Option (Nat×Bool)}
theorem Bw {fresh:Bool}{f:FuncId}{args:List FV}{R:List Lt→FV→Prop}{aa:Array Operand}{ats:Array TypeId}{key:Nat}(hS:aO fresh x.P f [] args R) (hf:CallOk x.P f) (ha:AL fresh x g ob aa.toList args) (hk:dE ob key=true) (hb:∀r,R [] r→(kY key r).isSome=true):
  OS x ⟨some d,.call ⟨.value (.func f),aa,ats⟩,ty,pos,af,gd⟩ g ob [] (fun g' ob'=>∃r v os,R [] r∧kY key r=some (v,os)∧g'=aH g d v∧ob'=ob++os.map some):=by
 intro cs ts W hR K Q kk
 have hC:=qC hS ha hR
 obtain⟨fn,c,h1,h2,h3⟩:=hf
 have hrun:(execOp (Act.eval ⟨ts,[]⟩) ⟨some d,.call ⟨.value (.func f),aa,ats⟩,ty,pos,af,gd⟩).run x.P W=.ok (.enter f (aa.toList.map (Act.eval ⟨ts,[]⟩)).toArray) W:=by
  have e0:Act.eval ⟨ts,[]⟩ (.func f)=.func (.func f) #[] #[]:=rfl
  have e1:aa.map (Act.eval ⟨ts,[]⟩)=(aa.toList.map (Act.eval ⟨ts,[]⟩)).toArray:=by apply Array.ext';simp only[Array.toList_map]
  simp[execOp,resolve,e0,Deferred.ofValue,invoke,e1,callFunc,h1,h3]
  intro hn
  rw[hn]at h2
  simp at h2
 unfold Oper.wp
 rw[hrun]
 refine hC.mono fun e W' hE=>?_
 obtain⟨u,r,ys,rfl,hr,hbel,hok,hnd,hfp,hro⟩:=hE
 obtain⟨⟨v,os⟩,hbn⟩:=Option.isSome_iff_exists.1 (hb r hr)
 obtain⟨cs2,e1,e2,e3,e4⟩:=yV hro hok hbn
 have hk:=Nat.eq_of_beq_eq_true hk
 have hlen:=hR.len
 have hrs:aA (ob++os.map some) (cs++cs2)=aA ob cs++aA (os.map some) cs2:=by
  unfold aA
  rw[List.zipWith_append hlen]
 have hext:=hR.2.ext hbel
 have hnew:∀b∈(aA (os.map some) cs2).flatMap Res.S,W.heap.size≤b∧b<W'.heap.size:=fun b hb=>hfp b (by rw[←e2];exact hb)
 have hL:Loc x.M x.w W' (aA (ob++os.map some) (cs++cs2)) []:=by
  rw[hrs]
  refine⟨hext.chg,fun q hq=>?_,fun b hb=>?_,?_,fun _ h=>by cases h⟩
  ·rcases List.mem_append.1 hq with hq | hq
   ·exact hext.res q hq
   exact e3 q hq
  ·rw[List.flatMap_append,List.mem_append]at hb
   rcases hb with hb | hb
   ·exact hext.blk b hb
   exact⟨.inr (Nat.le_trans hR.2.chg.size (hnew b hb).1),(hnew b hb).2⟩
  rw[List.flatMap_append,List.nodup_append]
  refine⟨hext.nd,by rw[e2];exact hnd,fun a ha b hb e=>?_⟩
  subst e
  have:=(hR.2.blk a ha).2
  have:=(hnew a hb).1
  omega
 have hown:∀b∈bD (ob++os.map some) (cs++cs2),b∈bD ob cs∨W.heap.size≤b:=fun b hb=>by
  unfold bD at hb
  rw[hrs,List.flatMap_append,List.mem_append]at hb
  rcases hb with hb | hb
  ·exact .inl hb
  exact .inr (hnew b hb).1
 have hsame:Same cs (cs++cs2):=⟨by simp,fun k hk=>by simp[co,List.getElem?_append_left hk]⟩
 have hcoA:∀k,k<cs.length→co (cs++cs2) k=co cs k:=fun k hk=>by simp[co,List.getElem?_append_left hk]
 have hcoB:∀i,co (cs++cs2) (key+i)=co cs2 i:=fun i=>by
  unfold co
  rw[List.getElem?_append_right (by omega),show key+i-cs.length=i by omega]
 have hN:∀b,x.fr W ob cs b→x.fr W' (ob++os.map some) (cs++cs2) b:=fun b h=>iE h hbel.size hown
 have hkeep:∀b,x.fr W ob cs b→W'.heap[b]? =W.heap[b]? :=fun b h=>hbel.block b h.1.1
 have hN2:∀b,(fresh=false∧b∉VT.fpL ys∧b<W'.heap.size∧(x.fr W ob cs b∨W.heap.size≤b))→x.fr W' (ob++os.map some) (cs++cs2) b:=fun b hb=>by
  obtain⟨_,h5,h6,h7⟩:=hb
  rcases h7 with h7 | h7
  ·exact hN b h7
  refine⟨⟨h6,fun hm=>?_⟩,.inr (.inr (Nat.le_trans hR.2.chg.size h7))⟩
  rw[hrs,List.flatMap_append,List.mem_append]at hm
  rcases hm with hm | hm
  ·have:=(hR.2.blk b hm).2
   omega
  exact h5 (by rw[←e2];exact hm)
 obtain⟨g1,g2⟩:=e4 _ (cs++cs2) hN2 (by simp[e1];omega) (fun i _=>hcoB i)
 have hR':RelC x g (ob++os.map some) (cs++cs2) ts W':=by
  refine .of hR.1 hL ⟨by simp[hlen,e1],fun k o hk'=>?_⟩ (fun i hi=>?_) (hR.3.trans hsame)
  ·rcases Nat.lt_or_ge k ob.length with hlt | hge
   ·rw[List.getElem?_append_left hlt]at hk'
    have h5:=hR.obs.2 k o hk'
    rw[hcoA k (by omega)]
    exact⟨bE hkeep hN hsame _ _ h5.1,h5.2⟩
   rw[List.getElem?_append_right hge]at hk'
   have ho:os[k-ob.length]? =some o:=by
    rw[List.getElem?_map]at hk'
    cases hq:os[k-ob.length]? with
    | none=>rw[hq]at hk';cases hk'
    | some o'=>
     rw[hq]at hk'
     simp at hk'
     rw[hk']
   have h5:=g2 _ o ho
   have e9:=hcoB (k-ob.length)
   rw[show key+(k-ob.length)=k by omega]at e9
   rw[e9]
   exact h5
  obtain⟨u,h5,h6⟩:=hR.fv hi
  exact⟨u,h5,cE hkeep hN hsame _ _ h6⟩
 exact kk _ _ _ _ _ ⟨r,v,os,hr,hbn,rfl,rfl⟩ (hR'.put d g1) ⟨hsame,fun k _ hk=>hcoA k hk,hbel.size,fun b hlt _=>hbel.block b hlt,hown,fun i hi=>Array.getElem?_setIfInBounds_ne (fun e=>hi (by rw[e]))⟩
theorem Fa {fresh:Bool}{f:FuncId}{args:List FV}{r v:FV}{os:List Ob}{aa:Array Operand}{ats:Array TypeId}{key:Nat}(hw:aP ops x.n g gd=some true) (hS:aO fresh x.P f [] args (bJ r)) (hf:CallOk x.P f) (ha:AL fresh x g ob aa.toList args) (hk:dE ob key=true) (hb:kY key r=some (v,os)) (k:WL x ops rest (aH g d v) (ob++os.map some) Q):
  WL x ops (⟨some d,.call ⟨.value (.func f),aa,ats⟩,ty,pos,af,gd⟩::rest) g ob Q:=
 dV (Bw hS hf ha hk (by rintro _ rfl;rw[hb];rfl)) hw (by
  rintro _ _ ⟨r',v',os',rfl,h,rfl,rfl⟩
  rw[hb]at h
  injection h with h
  injection h with h1 h2
  subst h1 h2
  exact k)
end
set_option maxRecDepth 100000
theorem TyArr.mk2 {P:Program}{t n size:Nat}(e:Nat) (h:P.underlying t=some (.array n e)) (h2:(P.info? e).map (·.size)=some size):TyArr P t n size:=by
 obtain⟨i,h3,h4⟩:=Option.map_eq_some_iff.1 h2
 exact⟨e,i,h,h3,h4⟩
theorem Ol:cM Tryd.prog 2 ⟨false,1,[.int .i64 0],.it .i64⟩:=⟨⟨.mk (by kernel_rfl) (by kernel_rfl),rfl⟩,.mk (by kernel_rfl),.mk (by kernel_rfl),.mk (by kernel_rfl)⟩
theorem Om:cM Tryd.prog 3 ⟨false,1,[.int .i64 0],.it .i64⟩:=⟨⟨.mk (by kernel_rfl) (by kernel_rfl),rfl⟩,.mk (by kernel_rfl),.mk (by kernel_rfl),.mk (by kernel_rfl)⟩
theorem On:cM Tryd.prog 4 ⟨false,1,[.bool false],.bl⟩:=⟨⟨.mk (by kernel_rfl) (by kernel_rfl),rfl⟩,.mk (by kernel_rfl),.mk (by kernel_rfl),.mk (by kernel_rfl)⟩
theorem Oo:cM Tryd.prog 5 ⟨false,1,[.int .u8 0],.it .u8⟩:=⟨⟨.mk (by kernel_rfl) (by kernel_rfl),rfl⟩,.mk (by kernel_rfl),.mk (by kernel_rfl),.mk (by kernel_rfl)⟩
theorem Oq:cM Tryd.prog 9 ⟨false,1,[.string ⟨#[]⟩],.str⟩:=⟨⟨.mk (by kernel_rfl) (by kernel_rfl),rfl⟩,.mk (by kernel_rfl),.mk (by kernel_rfl),.mk (by kernel_rfl)⟩
theorem Na:cM Tryd.prog 22 ⟨false,1,[.slice none 0 0],.sl 64 1 4 (.int .u32 0)⟩:=⟨⟨.mk (by kernel_rfl) (by kernel_rfl),rfl⟩,.mk (by kernel_rfl),.mk (by kernel_rfl),⟨.mk (by kernel_rfl) (by kernel_rfl),.mk (by kernel_rfl) (by kernel_rfl) rfl (by decide)⟩⟩
theorem Nb:cM Tryd.prog 24 ⟨true,2,[.bool false,.slice none 0 0],.st [(0,4,1),(1,22,1)]⟩:=⟨.mk (by kernel_rfl) (by kernel_rfl),.mk (by kernel_rfl),.mk (by kernel_rfl),⟨⟨.mk (by kernel_rfl),.mk (by kernel_rfl),⟨.mk (by kernel_rfl),.mk (by kernel_rfl),trivial⟩⟩,.mk (by kernel_rfl)⟩⟩
theorem Nc:cM Tryd.prog 26 ⟨true,2,[.bool false,.slice none 0 0],.st [(0,4,1),(1,22,1)]⟩:=⟨.mk (by kernel_rfl) (by kernel_rfl),.mk (by kernel_rfl),.mk (by kernel_rfl),⟨⟨.mk (by kernel_rfl),.mk (by kernel_rfl),⟨.mk (by kernel_rfl),.mk (by kernel_rfl),trivial⟩⟩,.mk (by kernel_rfl)⟩⟩
theorem Nd:cM Tryd.prog 28 ⟨false,1,[.int .i64 0],.it .i64⟩:=⟨⟨.mk (by kernel_rfl) (by kernel_rfl),rfl⟩,.mk (by kernel_rfl),.mk (by kernel_rfl),.mk (by kernel_rfl)⟩
theorem Nf:cM Tryd.prog 33 ⟨false,1,[.slice none 0 0],.sl 24 2 32 (.agg #[.bool false,.slice none 0 0])⟩:=⟨⟨.mk (by kernel_rfl) (by kernel_rfl),rfl⟩,.mk (by kernel_rfl),.mk (by kernel_rfl),⟨.mk (by kernel_rfl) (by kernel_rfl),.mk (by kernel_rfl) (by kernel_rfl) rfl (by decide)⟩⟩
theorem Ng:cM Tryd.prog 36 ⟨false,1,[.slice none 0 0],.sl 26 2 32 (.agg #[.bool false,.slice none 0 0])⟩:=⟨⟨.mk (by kernel_rfl) (by kernel_rfl),rfl⟩,.mk (by kernel_rfl),.mk (by kernel_rfl),⟨.mk (by kernel_rfl) (by kernel_rfl),.mk (by kernel_rfl) (by kernel_rfl) rfl (by decide)⟩⟩
theorem Nh:cM Tryd.prog 51 ⟨false,1,[.slice none 0 0],.sl 22 1 24 (.slice none 0 0)⟩:=⟨⟨.mk (by kernel_rfl) (by kernel_rfl),rfl⟩,.mk (by kernel_rfl),.mk (by kernel_rfl),⟨.mk (by kernel_rfl) (by kernel_rfl),.mk (by kernel_rfl) (by kernel_rfl) rfl (by decide)⟩⟩
theorem Ni:cM Tryd.prog 52 ⟨false,1,[.slice none 0 0],.sl 5 1 1 (.int .u8 0)⟩:=⟨⟨.mk (by kernel_rfl) (by kernel_rfl),rfl⟩,.mk (by kernel_rfl),.mk (by kernel_rfl),⟨.mk (by kernel_rfl) (by kernel_rfl),.mk (by kernel_rfl) (by kernel_rfl) rfl (by decide)⟩⟩
theorem Nj:cM Tryd.prog 64 ⟨false,1,[.int .u32 0],.it .u32⟩:=⟨⟨.mk (by kernel_rfl) (by kernel_rfl),rfl⟩,.mk (by kernel_rfl),.mk (by kernel_rfl),.mk (by kernel_rfl)⟩
theorem Nk:cM Tryd.prog 79 ⟨false,1,[.slice none 0 0],.sl 3 1 8 (.int .i64 0)⟩:=⟨⟨.mk (by kernel_rfl) (by kernel_rfl),rfl⟩,.mk (by kernel_rfl),.mk (by kernel_rfl),⟨.mk (by kernel_rfl) (by kernel_rfl),.mk (by kernel_rfl) (by kernel_rfl) rfl (by decide)⟩⟩
theorem Nl:cM Tryd.prog 87 ⟨true,2,[.bool false,.slice none 0 0],.st [(0,24,2)]⟩:=⟨.mk (by kernel_rfl) (by kernel_rfl),.mk (by kernel_rfl),.mk (by kernel_rfl),⟨⟨.mk (by kernel_rfl),.mk (by kernel_rfl),trivial⟩,.mk (by kernel_rfl)⟩⟩
theorem Nm:cM Tryd.prog 99 ⟨false,1,[.int .u64 0],.it .u64⟩:=⟨⟨.mk (by kernel_rfl) (by kernel_rfl),rfl⟩,.mk (by kernel_rfl),.mk (by kernel_rfl),.mk (by kernel_rfl)⟩
theorem Kw:cM Tryd.prog 107 ⟨false,1,[.nilIface],.ot⟩:=⟨⟨.mk (by kernel_rfl) (by kernel_rfl),rfl⟩,.mk (by kernel_rfl),.mk (by kernel_rfl),trivial⟩
theorem Kx:cM Tryd.prog 111 ⟨true,9,[.int .u8 0,.int .u8 0,.int .u8 0,.int .u8 0,.int .u8 0,.int .u8 0,.int .u8 0,.int .u8 0,.int .u8 0],.ar 9 1⟩:=⟨.mk (by kernel_rfl) (by kernel_rfl),.mk (by kernel_rfl),.mk (by kernel_rfl),TyArr.mk2 5 (by kernel_rfl) (by kernel_rfl)⟩
theorem Ky:cM Tryd.prog 113 ⟨false,1,[.int .u64 0],.it .u64⟩:=⟨⟨.mk (by kernel_rfl) (by kernel_rfl),rfl⟩,.mk (by kernel_rfl),.mk (by kernel_rfl),.mk (by kernel_rfl)⟩
theorem Kz:cM Tryd.prog 116 ⟨true,16,[.int .i64 0,.int .i64 0,.int .i64 0,.int .i64 0,.int .i64 0,.int .i64 0,.int .i64 0,.int .i64 0,.int .i64 0,.int .i64 0,.int .i64 0,.int .i64 0,.int .i64 0,.int .i64 0,.int .i64 0,.int .i64 0],.ar 16 1⟩:=⟨.mk (by kernel_rfl) (by kernel_rfl),.mk (by kernel_rfl),.mk (by kernel_rfl),TyArr.mk2 3 (by kernel_rfl) (by kernel_rfl)⟩
theorem La:cM Tryd.prog 180 ⟨true,32,[.int .u8 0,.int .u8 0,.int .u8 0,.int .u8 0,.int .u8 0,.int .u8 0,.int .u8 0,.int .u8 0,.int .u8 0,.int .u8 0,.int .u8 0,.int .u8 0,.int .u8 0,.int .u8 0,.int .u8 0,.int .u8 0,.int .u8 0,.int .u8 0,.int .u8 0,.int .u8 0,.int .u8 0,.int .u8 0,.int .u8 0,.int .u8 0,.int .u8 0,.int .u8 0,.int .u8 0,.int .u8 0,.int .u8 0,.int .u8 0,.int .u8 0,.int .u8 0],.ar 32 1⟩:=⟨.mk (by kernel_rfl) (by kernel_rfl),.mk (by kernel_rfl),.mk (by kernel_rfl),TyArr.mk2 5 (by kernel_rfl) (by kernel_rfl)⟩
theorem Lb:cM Tryd.prog 181 ⟨true,64,[.int .u8 0,.int .u8 0,.int .u8 0,.int .u8 0,.int .u8 0,.int .u8 0,.int .u8 0,.int .u8 0,.int .u8 0,.int .u8 0,.int .u8 0,.int .u8 0,.int .u8 0,.int .u8 0,.int .u8 0,.int .u8 0,.int .u8 0,.int .u8 0,.int .u8 0,.int .u8 0,.int .u8 0,.int .u8 0,.int .u8 0,.int .u8 0,.int .u8 0,.int .u8 0,.int .u8 0,.int .u8 0,.int .u8 0,.int .u8 0,.int .u8 0,.int .u8 0,.int .u8 0,.int .u8 0,.int .u8 0,.int .u8 0,.int .u8 0,.int .u8 0,.int .u8 0,.int .u8 0,.int .u8 0,.int .u8 0,.int .u8 0,.int .u8 0,.int .u8 0,.int .u8 0,.int .u8 0,.int .u8 0,.int .u8 0,.int .u8 0,.int .u8 0,.int .u8 0,.int .u8 0,.int .u8 0,.int .u8 0,.int .u8 0,.int .u8 0,.int .u8 0,.int .u8 0,.int .u8 0,.int .u8 0,.int .u8 0,.int .u8 0,.int .u8 0],.ar 64 1⟩:=⟨.mk (by kernel_rfl) (by kernel_rfl),.mk (by kernel_rfl),.mk (by kernel_rfl),TyArr.mk2 5 (by kernel_rfl) (by kernel_rfl)⟩
def ttab:List (Nat×TI):=[(2,⟨false,1,[.int .i64 0],.it .i64⟩),
 (3,⟨false,1,[.int .i64 0],.it .i64⟩),
 (4,⟨false,1,[.bool false],.bl⟩),
 (5,⟨false,1,[.int .u8 0],.it .u8⟩),
 (9,⟨false,1,[.string ⟨#[]⟩],.str⟩),
 (22,⟨false,1,[.slice none 0 0],.sl 64 1 4 (.int .u32 0)⟩),
 (24,⟨true,2,[.bool false,.slice none 0 0],.st [(0,4,1),(1,22,1)]⟩),
 (26,⟨true,2,[.bool false,.slice none 0 0],.st [(0,4,1),(1,22,1)]⟩),
 (28,⟨false,1,[.int .i64 0],.it .i64⟩),
 (33,⟨false,1,[.slice none 0 0],.sl 24 2 32 (.agg #[.bool false,.slice none 0 0])⟩),
 (36,⟨false,1,[.slice none 0 0],.sl 26 2 32 (.agg #[.bool false,.slice none 0 0])⟩),
 (51,⟨false,1,[.slice none 0 0],.sl 22 1 24 (.slice none 0 0)⟩),
 (52,⟨false,1,[.slice none 0 0],.sl 5 1 1 (.int .u8 0)⟩),
 (64,⟨false,1,[.int .u32 0],.it .u32⟩),
 (79,⟨false,1,[.slice none 0 0],.sl 3 1 8 (.int .i64 0)⟩),
 (87,⟨true,2,[.bool false,.slice none 0 0],.st [(0,24,2)]⟩),
 (99,⟨false,1,[.int .u64 0],.it .u64⟩),
 (107,⟨false,1,[.nilIface],.ot⟩),
 (111,⟨true,9,[.int .u8 0,.int .u8 0,.int .u8 0,.int .u8 0,.int .u8 0,.int .u8 0,.int .u8 0,.int .u8 0,.int .u8 0],.ar 9 1⟩),
 (113,⟨false,1,[.int .u64 0],.it .u64⟩),
 (116,⟨true,16,[.int .i64 0,.int .i64 0,.int .i64 0,.int .i64 0,.int .i64 0,.int .i64 0,.int .i64 0,.int .i64 0,.int .i64 0,.int .i64 0,.int .i64 0,.int .i64 0,.int .i64 0,.int .i64 0,.int .i64 0,.int .i64 0],.ar 16 1⟩),
 (180,⟨true,32,[.int .u8 0,.int .u8 0,.int .u8 0,.int .u8 0,.int .u8 0,.int .u8 0,.int .u8 0,.int .u8 0,.int .u8 0,.int .u8 0,.int .u8 0,.int .u8 0,.int .u8 0,.int .u8 0,.int .u8 0,.int .u8 0,.int .u8 0,.int .u8 0,.int .u8 0,.int .u8 0,.int .u8 0,.int .u8 0,.int .u8 0,.int .u8 0,.int .u8 0,.int .u8 0,.int .u8 0,.int .u8 0,.int .u8 0,.int .u8 0,.int .u8 0,.int .u8 0],.ar 32 1⟩),
 (181,⟨true,64,[.int .u8 0,.int .u8 0,.int .u8 0,.int .u8 0,.int .u8 0,.int .u8 0,.int .u8 0,.int .u8 0,.int .u8 0,.int .u8 0,.int .u8 0,.int .u8 0,.int .u8 0,.int .u8 0,.int .u8 0,.int .u8 0,.int .u8 0,.int .u8 0,.int .u8 0,.int .u8 0,.int .u8 0,.int .u8 0,.int .u8 0,.int .u8 0,.int .u8 0,.int .u8 0,.int .u8 0,.int .u8 0,.int .u8 0,.int .u8 0,.int .u8 0,.int .u8 0,.int .u8 0,.int .u8 0,.int .u8 0,.int .u8 0,.int .u8 0,.int .u8 0,.int .u8 0,.int .u8 0,.int .u8 0,.int .u8 0,.int .u8 0,.int .u8 0,.int .u8 0,.int .u8 0,.int .u8 0,.int .u8 0,.int .u8 0,.int .u8 0,.int .u8 0,.int .u8 0,.int .u8 0,.int .u8 0,.int .u8 0,.int .u8 0,.int .u8 0,.int .u8 0,.int .u8 0,.int .u8 0,.int .u8 0,.int .u8 0,.int .u8 0,.int .u8 0],.ar 64 1⟩)]
theorem aY:aR Tryd.prog ttab:=⟨Ol,Om,On,Oo,Oq,Na,Nb,Nc,Nd,Nf,Ng,Nh,Ni,Nj,Nk,Nl,Nm,Kw,Kx,Ky,Kz,La,Lb,trivial⟩
theorem pE:CallOk Tryd.prog 36:=.mk Tryd.func36 (by decide) rfl
theorem No:CallOk Tryd.prog 37:=.mk Tryd.func37 (by decide) rfl
theorem sJ:CallOk Tryd.prog 38:=.mk Tryd.func38 (by decide) rfl
theorem Ig:CallOk Tryd.prog 39:=.mk Tryd.func39 (by decide) rfl
theorem wY:CallOk Tryd.prog 40:=.mk Tryd.func40 (by decide) rfl
theorem wZ:CallOk Tryd.prog 41:=.mk Tryd.func41 (by decide) rfl
theorem Bx:CallOk Tryd.prog 42:=.mk Tryd.func42 (by decide) rfl
theorem gW:CallOk Tryd.prog 43:=.mk Tryd.func43 (by decide) rfl
theorem Ih:CallOk Tryd.prog 44:=.mk Tryd.func44 (by decide) rfl
theorem By:CallOk Tryd.prog 45:=.mk Tryd.func45 (by decide) rfl
theorem Np:CallOk Tryd.prog 46:=.mk Tryd.func46 (by decide) rfl
theorem Ii:CallOk Tryd.prog 47:=.mk Tryd.func47 (by decide) rfl
theorem Nq:CallOk Tryd.prog 48:=.mk Tryd.func48 (by decide) rfl
theorem Ij:CallOk Tryd.prog 49:=.mk Tryd.func49 (by decide) rfl
theorem xA:CallOk Tryd.prog 53:=.mk Tryd.func53 (by decide) rfl
theorem Nr:CallOk Tryd.prog 69:=.mk Tryd.func69 (by decide) rfl
theorem kZ:CallOk Tryd.prog 75:=.mk Tryd.func75 (by decide) rfl
theorem Ns:CallOk Tryd.prog 76:=.mk Tryd.func76 (by decide) rfl
theorem Nt:CallOk Tryd.prog 81:=.mk Tryd.func81 (by decide) rfl
theorem Bz:CallOk Tryd.prog 82:=.mk Tryd.func82 (by decide) rfl
theorem Nu:CallOk Tryd.prog 83:=.mk Tryd.func83 (by decide) rfl
theorem Nv:CallOk Tryd.prog 84:=.mk Tryd.func84 (by decide) rfl
theorem Ik:CallOk Tryd.prog 85:=.mk Tryd.func85 (by decide) rfl
theorem xB:CallOk Tryd.prog 86:=.mk Tryd.func86 (by decide) rfl
theorem sK:CallOk Tryd.prog 87:=.mk Tryd.func87 (by decide) rfl
theorem Nw:CallOk Tryd.prog 88:=.mk Tryd.func88 (by decide) rfl
theorem Nx:CallOk Tryd.prog 89:=.mk Tryd.func89 (by decide) rfl
theorem Dn:CallOk Tryd.prog 109:=.mk Tryd.func109 (by decide) rfl
theorem mixed:Tryd.prog.follows .mixedOrders=true:=by kernel_rfl
section
variable {x:Cx}{g:Nat→FV}{ob ob':List (Option Ob)}{Q:cG}{ops:Array Oper}{rest:List Oper}{d:Nat}{op:Op}{ty:TypeId}{pos:String}{af:Array Edge}{gd:Option (Nat×Bool)}{C:Prop}{v:FV}
theorem o1 (k:WL x ops rest (aH g d v) ob Q) (hT:aR x.P ttab:=by exact aY) (hw:aP ops x.n g gd=some true:=by rfl) (h:lY ttab x.n g op=some (C,v):=by rfl) (hC:C:=by first | trivial | omega | (simp only[eT];omega)):WL x ops (⟨some d,op,ty,pos,af,gd⟩::rest) g ob Q:=Oc hT hw h hC k
theorem qG {t:Nat}{i:TI}{a:Operand}{l:List Tr}{of:Nat}(us:List Tr) (hl:(l.drop of).take us.length=us) (k:WL x ops rest (aH g d v) ob Q) (hT:aR x.P ttab:=by exact aY) (hw:aP ops x.n g gd=some true:=by rfl) (hi:aF ttab t=some i:=by rfl) (h:lk x.n g a=.one (.ef l of):=by rfl) (hv:rR i us=some v:=by rfl):WL x ops (⟨some d,.load t a,ty,pos,af,gd⟩::rest) g ob Q:=Kt hT hw hi h hl hv k
theorem al {t:Nat}(key:Nat) (k:WL x ops rest (aH g d (.one (.pt key 0))) ob' Q) (hT:aR x.P ttab:=by exact aY) (hw:aP ops x.n g gd=some true:=by rfl) (h:wT ttab t key ob=some ob':=by rfl):WL x ops (⟨some d,.alloc t,ty,pos,af,gd⟩::rest) g ob Q:=Mw hT hw h k
theorem st {t:Nat}{i:TI}{a b:Operand}(k:WL x ops rest g ob' Q) (hT:aR x.P ttab:=by exact aY) (hw:aP ops x.n g gd=some true:=by rfl) (hi:aF ttab t=some i:=by rfl) (h:oT i ob (lk x.n g b) (lk x.n g a)=some ob':=by rfl):WL x ops (⟨none,.store t a b,ty,pos,af,gd⟩::rest) g ob Q:=Mx hT hw hi h k
theorem bs {t len:Nat}{ps:Array (Nat×Operand)}(key:Nat) (k:WL x ops rest (aH g d (.one (.sl key 0 len))) ob' Q) (hT:aR x.P ttab:=by exact aY) (hw:aP ops x.n g gd=some true:=by rfl) (h:wW ttab x.n g t len key ps.toList ob=some ob':=by rfl):WL x ops (⟨some d,.buildSlice t len ps,ty,pos,af,gd⟩::rest) g ob Q:=My hT hw h k
theorem nR {o:Oper}(k:WL x ops rest (aH g d (.one (tv undef))) ob Q) (hw:aP ops x.n g o.guard=some false:=by rfl) (hd:o.dst=some d:=by rfl):WL x ops (o::rest) g ob Q:=Mv hw hd k
theorem ca {fresh:Bool}{f:FuncId}{args:List FV}{r:FV}{aa:Array Operand}{ats:Array TypeId}(hS:aO fresh x.P f [] args (bJ r)) (hf:CallOk x.P f) (ha:AL fresh x g ob aa.toList args) (v:FV) (k:WL x ops rest (aH g d v) ob Q) (hw:aP ops x.n g gd=some true:=by rfl) (hv:Dk r=v:=by rfl):
  WL x ops (⟨some d,.call ⟨.value (.func f),aa,ats⟩,ty,pos,af,gd⟩::rest) g ob Q:=Ie hw hS hf ha hv k
variable {late:Nat→Bool}{K fr:List Nat}{on:Bool}{fuel:Nat}{listed:Array Bool}
theorem dv (i:Nat) (k:WD x ops Q late K fr true fuel (listed.setIfInBounds i true) (aH g d v) ob) (hT:aR x.P ttab:=by exact aY) (hi:ops[i]? =some ⟨some d,op,ty,pos,af,gd⟩:=by rfl) (hst:kP ops late listed i=true:=by kernel_rfl) (hw:aP ops x.n g gd=some true:=by rfl) (h:lY ttab x.n (gU fr g) op=some (C,v):=by rfl) (hC:C:=by first | trivial | omega | (simp only[eT];omega)) (hg:lY ttab x.n g op=some (C,v):=by rfl):WD x ops Q late K fr true (fuel+1) listed g ob:=dt i hT hi hst hw h hC hg k
theorem qH {t:Nat}{ti:TI}{a:Operand}{l:List Tr}{of:Nat}(i:Nat) (us:List Tr) (hl:(l.drop of).take us.length=us) (k:WD x ops Q late K fr true fuel (listed.setIfInBounds i true) (aH g d v) ob) (hT:aR x.P ttab:=by exact aY) (hi:ops[i]? =some ⟨some d,.load t a,ty,pos,af,gd⟩:=by rfl) (hst:kP ops late listed i=true:=by kernel_rfl) (hw:aP ops x.n g gd=some true:=by rfl) (hti:aF ttab t=some ti:=by rfl) (hlk:lk x.n (gU fr g) a=.one (.ef l of):=by rfl) (hv:rR ti us=some v:=by rfl):WD x ops Q late K fr true (fuel+1) listed g ob:=Od i hT hi hst hw hti hlk hl hv k
theorem dst {t:Nat}{ti:TI}{a b:Operand}(i:Nat) (k:WD x ops Q late K fr false fuel (listed.setIfInBounds i true) g ob') (hT:aR x.P ttab:=by exact aY) (hr:Region.ready .any ops listed=[i]:=by kernel_rfl) (hi:ops[i]? =some ⟨none,.store t a b,ty,pos,af,gd⟩:=by rfl) (hw:aP ops x.n g gd=some true:=by rfl) (hti:aF ttab t=some ti:=by rfl) (h:oT ti ob (lk x.n g b) (lk x.n g a)=some ob':=by rfl) (hl:late i=true:=by rfl):WD x ops Q late K fr on (fuel+1) listed g ob:=Mz i hr hi hw hT hti h hl k
theorem sL {fresh:Bool}{f:FuncId}{args:List FV}{r:FV}{os:List Ob}{aa:Array Operand}{ats:Array TypeId}(key:Nat) (hS:aO fresh x.P f [] args (bJ r)) (hf:CallOk x.P f) (ha:AL fresh x g ob aa.toList args) (k:WL x ops rest (aH g d v) (ob++os.map some) Q) (hw:aP ops x.n g gd=some true:=by rfl) (hk:dE ob key=true:=by rfl) (hb:kY key r=some (v,os):=by rfl):
  WL x ops (⟨some d,.call ⟨.value (.func f),aa,ats⟩,ty,pos,af,gd⟩::rest) g ob Q:=Fa hw hS hf ha hk hb k
theorem sM (h:Q .normal g ob) (hr:Region.ready .any ops listed=[]:=by kernel_rfl):WD x ops Q late K fr on fuel listed g ob:=dz hr h
end
theorem yW {β:Type}:∀{o:Nat}{l:List AV}{a:AV}{r:List AV}{k:List AV→Option β},l.drop o=a::r→dp o l k=k (a::r)
 | 0,l,a,r,k,h=>by rw[List.drop_zero]at h;subst h;rfl
 | o+1,[],a,r,k,h=>by simp at h
 | o+1,b::l,a,r,k,h=>by
  rw[List.drop_succ_cons]at h
  exact yW (o:=o) h
theorem yX {ob:List (Option Ob)}{i:TI}{k o t z:Nat}{l:List AV}{a:AV}(ho:aZ ob k=some ⟨t,z,l⟩) (hx:l[o]? =some a) (ha:i.agg=false) (hr:gR a=true):lZ ob i (.one (.pt k o))=some (True,.one a):=by
 obtain⟨h1,h2⟩:=List.getElem?_eq_some_iff.1 hx
 have h3:l.drop o=a::l.drop (o+1):=by rw[List.drop_eq_getElem_cons h1,h2]
 unfold lZ
 dsimp only
 rw[ho]
 dsimp only
 unfold Hu
 rw[yW h3,ha]
 simp[rQ,dH,hr,ev]
section
variable {x:Cx}{g:Nat→FV}{ob ob':List (Option Ob)}{Q:cG}{ops:Array Oper}{rest:List Oper}{d:Nat}{ty:TypeId}{pos:String}{af:Array Edge}{gd:Option (Nat×Bool)}{T:List (Nat×TI)}
theorem Lc {t e by_ k m:Nat}{ti:Bool}{ts0:Nat}{z0:List Value}{kk k1 k2:IntKind}{a b:Operand}(hT:aR x.P T) (ht:aF T t=some ⟨ti,ts0,z0,.sl e 1 by_ (.int kk 0)⟩) (ha:lk x.n g a=.one (tv (.int k1 (m:Int)))) (hb:lk x.n g b=.one (tv (.int k2 (m:Int)))) (hby:by_≤16) (hm:m≤8796093022208) (hk:dE ob k=true):
  OS x ⟨some d,.makeSlice t a b,ty,pos,af,gd⟩ g ob [] (fun g' ob2=>g'=aH g d (.one (.sl k 0 m))∧ob2=ob++[some ⟨e,1,(List.replicate m (Value.int kk 0)).map tv⟩]):=by
 obtain⟨_,hel⟩:=(aW hT ht).2.2.2
 obtain⟨hu,i,hi,hz,hsize,hby',hzs,hsz⟩:=hel
 subst hby'
 have hk:=Nat.eq_of_beq_eq_true hk
 subst hk
 intro cs ts W hR K Q' kk'
 have e1:=hR.lk a
 rw[ha]at e1
 have e1:=aC e1
 have e2:=hR.lk b
 rw[hb]at e2
 have e2:=aC e2
 have hmul:i.bytes*m≤16*8796093022208:=Nat.mul_le_mul hby hm
 obtain⟨w',hrun,h1,h2⟩:=run_make_full (P:=x.P) W 0 t e i (.int kk 0) 1 hu hi hz hsize k1 k2 m (by omega) (by unfold maxLen;omega) (Nat.zero_le _)
 have hrun':(execOp (Act.eval ⟨ts,[]⟩) ⟨some d,.makeSlice t a b,ty,pos,af,gd⟩).run x.P W=.ok (.value (.slice (some ⟨W.heap.size,0,none⟩) m m)) w':=by
  simp[execOp,e1,e2,hrun]
 have e0:(madeCells (Value.int kk 0).cells (m*1)).toList=List.replicate m (.int kk 0):=by
  rw[Nat.mul_one]
  show(madeCells #[Value.int kk 0] m).toList=_
  rw[toList_madeCells_one]
 rw[e0]at h1
 generalize hus:List.replicate m (Value.int kk 0)=us at h1 kk'
 have hbl:Below W.heap.size W w':=(Below.refl _ _).grown h2 (Nat.le_refl _) (fun k hk=>by cases hk)
 rcases h1.2 with⟨hh,_⟩ | ⟨g1,cap,cur,hv,_,hg,hnc,hcm,hcs,htake⟩
 ·injection hh with h3;cases h3
 injection hv with q1 q2 q3
 injection q1 with q1
 injection q1 with q1
 subst q1 q3
 have hlt:W.heap.size<w'.heap.size:=(Array.getElem?_eq_some_iff.1 hg).1
 have hcur:cur.toList=us:=by
  have h9:cur.toList.length=m*1:=by simpa using hcs
  rw[←htake,List.take_of_length_le (by omega)]
 have hS:∀b∈(aB (some ⟨e,1,us.map tv⟩) ⟨some W.heap.size,m,us.map .w⟩).S,W.heap.size≤b∧b<w'.heap.size:=by
  intro b hb
  simp[aB,eV]at hb
  subst hb
  exact⟨Nat.le_refl _,hlt⟩
 have hown:∀b∈bD (ob++[some ⟨e,1,us.map tv⟩]) (cs++[⟨some W.heap.size,m,us.map .w⟩]),b∈bD ob cs∨W.heap.size≤b:=by
  intro b hb
  unfold bD aA at hb
  rw[List.zipWith_append hR.len,List.flatMap_append,List.mem_append]at hb
  rcases hb with hb | hb
  ·exact .inl hb
  exact .inr (hS b (by simpa using hb)).1
 have m1:RelC x g (ob++[some ⟨e,1,us.map tv⟩]) (cs++[⟨some W.heap.size,m,us.map .w⟩]) ts w':=by
  refine hR.push hbl _ _ ?_ hS (by simp[aB,eV]) ?_ (fun e=>by cases e)
  ·have hul:us.length=m:=by rw[←hus,List.length_replicate]
   simp only[aB,jS]
   refine⟨⟨[],?_,by simp[hul]⟩,jR _,hcm⟩
   rw[List.append_nil,hg,←hcur]
  exact iU (eS _) (kO _)
 refine bP hrun' (kk' _ _ _ _ _ ⟨rfl,rfl⟩ (m1.put d ?_) ((Aft.mk .app (fun k _ hk=>gQ hk) hbl.size (fun b hlt _=>hbl.block b hlt) hown (fun _ _=>rfl):Aft [] (some d) ob cs ts W _ _ ts w').then_put _))
 refine dF ?_
 simp only[AR]
 rw[hR.len,dG]
 exact⟨by simp[hR.len],0,m,rfl,Nat.le_refl _,hcm,fun _=>rfl,fun _=>rfl⟩
inductive FzN (key:Nat):List AV→List AV→Prop
 | nil:FzN key [] []
 | id {a:AV}{l l':List AV}(h:FzN key l l'):FzN key (a::l) (a::l')
 | sl {l l':List AV}(h:FzN key l l'):FzN key (tv (.slice none 0 0)::l) (.sl key 0 0::l')
theorem FzN.ok {key:Nat}{W:World}{N:Nat→Prop}{cs:List Co}(hk:key<cs.length) (hb:(co cs key).b=none):∀{l l':List AV},FzN key l l'→∀{ys:List VT},aE W N cs l ys→aE W N cs l' ys
 | _,_,.nil,ys,h=>h
 | _,_,.id h',[],h=>by simp only[aE]at h
 | _,_,.id h',y::ys,h=>by
  simp only[aE]at h⊢
  exact⟨h.1,FzN.ok hk hb h' h.2⟩
 | _,_,.sl h',[],h=>by simp only[aE]at h
 | _,_,.sl h',y::ys,h=>by
  simp only[aE]at h⊢
  refine⟨?_,FzN.ok hk hb h' h.2⟩
  have h1:=h.1
  simp only[tv,CR,OR]at h1
  subst h1
  simp only[CR,AR,hb]
  exact⟨hk,trivial,trivial,trivial⟩
theorem FzN.nl {key:Nat}:∀{l l':List AV},FzN key l l'→(l=[]↔l'=[])
 | _,_,.nil=>Iff.rfl
 | _,_,.id h'=>by simp
 | _,_,.sl h'=>by simp
theorem mk {t e by_ m:Nat}{ti:Bool}{ts0:Nat}{z0:List Value}{kk k1 k2:IntKind}{a b:Operand}(key:Nat) (hm:m≤8796093022208){l:List AV}(hl:(List.replicate m (Value.int kk 0)).map tv=l) (k:WL x ops rest (aH g d (.one (.sl key 0 m))) (ob++[some ⟨e,1,l⟩]) Q) (hT:aR x.P ttab:=by exact aY) (hw:aP ops x.n g gd=some true:=by rfl)
  (ht:aF ttab t=some ⟨ti,ts0,z0,.sl e 1 by_ (.int kk 0)⟩:=by rfl) (ha:lk x.n g a=.one (tv (.int k1 (m:Int))):=by rfl) (hb:lk x.n g b=.one (tv (.int k2 (m:Int))):=by rfl) (hby:by_≤16:=by decide) (hk:dE ob key=true:=by rfl):WL x ops (⟨some d,.makeSlice t a b,ty,pos,af,gd⟩::rest) g ob Q:=by
 subst hl
 exact dV (Lc hT ht ha hb hby hm hk) hw (by rintro _ _ ⟨rfl,rfl⟩;exact k)
theorem Ot {t key o t' z':Nat}{ti:TI}{a b:Operand}{l l' us:List AV}(hl:bM l o us=l') (hle:o+us.length≤l.length) (k:WL x ops rest g (ob.set key (some ⟨t',z',l'⟩)) Q) (hT:aR x.P ttab:=by exact aY) (hw:aP ops x.n g gd=some true:=by rfl) (hti:aF ttab t=some ti:=by rfl) (hlk:lk x.n g a=.one (.pt key o):=by rfl) (ho:aZ ob key=some ⟨t',z',l⟩:=by rfl)
  (hb:mN (lk x.n g b)=some us:=by rfl) (hlo:bQ us=true:=by rfl) (hsz:Nat.beq us.length ti.size=true:=by rfl):WL x ops (⟨none,.store t a b,ty,pos,af,gd⟩::rest) g ob Q:=
 dV (nM hT hti hlk hb hlo hsz ho hle hl) hw (by rintro _ _ ⟨rfl,rfl⟩;exact k)
variable {late:Nat→Bool}{K fr:List Nat}{on:Bool}{fuel:Nat}{listed:Array Bool}
theorem Il {t key o t' z':Nat}{ti:TI}{a:Operand}{l:List AV}{v:AV}(i:Nat) (hx:l[o]? =some v) (k:WD x ops Q late K fr true fuel (listed.setIfInBounds i true) (aH g d (.one v)) ob) (hT:aR x.P ttab:=by exact aY) (hi:ops[i]? =some ⟨some d,.load t a,ty,pos,af,gd⟩:=by rfl) (hst:kP ops late listed i=true:=by kernel_rfl) (hw:aP ops x.n g gd=some true:=by rfl) (hti:aF ttab t=some ti:=by rfl)
  (hlk:lk x.n g a=.one (.pt key o):=by rfl) (hK:K.contains key=true:=by rfl) (ho:aZ ob key=some ⟨t',z',l⟩:=by rfl) (ha:ti.agg=false:=by rfl) (hr:gR v=true:=by rfl):WD x ops Q late K fr true (fuel+1) listed g ob:=dl i hT hi hst hw hti hlk hK (yX ho hx ha hr) k
theorem xC {t key o t' z':Nat}{ti:TI}{a b:Operand}{l l' us:List AV}(i:Nat) (hl:bM l o us=l') (hle:o+us.length≤l.length) (k:WD x ops Q late K fr false fuel (listed.setIfInBounds i true) g (ob.set key (some ⟨t',z',l'⟩))) (hT:aR x.P ttab:=by exact aY) (hr:Region.ready .any ops listed=[i]:=by kernel_rfl) (hi:ops[i]? =some ⟨none,.store t a b,ty,pos,af,gd⟩:=by rfl) (hw:aP ops x.n g gd=some true:=by rfl) (hti:aF ttab t=some ti:=by rfl)
  (hlk:lk x.n g a=.one (.pt key o):=by rfl) (ho:aZ ob key=some ⟨t',z',l⟩:=by rfl) (hb:mN (lk x.n g b)=some us:=by rfl) (hlo:bQ us=true:=by rfl) (hsz:Nat.beq us.length ti.size=true:=by rfl) (hlate:late i=true:=by rfl):WD x ops Q late K fr on (fuel+1) listed g ob:=by
 refine Di i hr hi hw (nM (ty:=ty) (pos:=pos) (af:=af) (gd:=gd) hT hti hlk hb hlo hsz ho hle hl) false (fun h=>by cases h) (fun h=>by rw[hlate]at h;cases h) (fun h=>by cases h) fun g' ob' hR=>?_
 obtain⟨rfl,rfl⟩:=hR
 exact k
end
theorem Loc.cut {M:List Nat}{w W:World}{L L':List Res}{F:List Sh}(h:Loc M w W L F) (hc:∀b,(L'.flatMap Res.S).count b≤(L.flatMap Res.S).count b) (hφ:∀r∈L',r.φ W):Loc M w W L' F:=by
 have hin:∀b,b∈L'.flatMap Res.S→b∈L.flatMap Res.S:=fun b hb=>List.count_pos_iff.1 (Nat.lt_of_lt_of_le (List.count_pos_iff.2 hb) (hc b))
 exact⟨h.chg,hφ,fun b hb=>h.blk b (hin b hb),List.nodup_iff_count.2 fun b=>Nat.le_trans (hc b) (List.nodup_iff_count.1 h.nd b),fun q hq=>q.mono _ _ _ (fun b hb=>⟨hb.1,fun hm=>hb.2 (hin b hm)⟩) (h.shr q hq)⟩
section
variable {x:Cx}{g g':Nat→FV}{ob ob':List (Option Ob)}{cs cs':List Co}{ts ts':Array Value}{W W':World}{T:List (Nat×TI)}{Q:cG}{ops:Array Oper}{rest:List Oper}
theorem Same.set {k:Nat}{c:Co}(hk:k<cs.length) (hb:c.b=(co cs k).b) (hc:c.c=(co cs k).c):Same cs (cs.set k c):=⟨by simp,fun j hj=>by
 rw[kN hk]
 split
 ·rename_i e
  subst e
  exact⟨hb,hc⟩
 exact⟨rfl,rfl⟩⟩
end
def dR (ob:List (Option Ob)) (K0:List Nat):List Nat→List Lt→Prop
 | [],l=>l=[]
 | _::_,[]=>False
 | k::K,a::l=>yN K0 (aZ ob k) a.ob∧dR ob K0 K l
def cA (K0:List Nat):List Lt→List (Option Ob)→Prop
 | [],l=>l=[]
 | _::_,[]=>False
 | a::l,o::os=>yN K0 o a.ob∧cA K0 l os
def bB:List (Option Ob)→List Nat→List (Option Ob)→List (Option Ob)
 | ob,k::K,a::l=>bB (ob.set k a) K l
 | ob,_,_=>ob
def bG:List Co→List Nat→List Co→List Co
 | cs,k::K,c::l=>bG (cs.set k c) K l
 | cs,_,_=>cs
def bY (K:List Nat):List (Option Ob):=K.map fun _=>none
def qI (n:Nat) (g:Nat→FV) (K:List Nat):List Operand→List FV→Prop
 | [],aa=>aa=[]
 | _::_,[]=>False
 | o::os,a::aa=>mO K a=some (lk n g o)∧qI n g K os aa
def Ml (x:Cx) (g:Nat→FV) (cf:Operand) (f:FuncId) (fst caps:List Tr):Prop:=∀ob cs ts W,RelC x g ob cs ts W→∃us0 us,Act.eval ⟨ts,[]⟩ cf=.func (.func f) us0.toArray us.toArray∧FRL W (x.fr W ob cs) fst us0∧FRL W (x.fr W ob cs) caps us
def Do:Tr→FV
 | .a l=>.agg (l.map .t)
 | c=>.one (.t c)
def fX (caps:List Tr):List FV:=caps.map Do
section
variable {x:Cx}{g g':Nat→FV}{ob ob':List (Option Ob)}{cs cs':List Co}{ts ts':Array Value}{W W':World}
theorem Ld (f:FuncId):Ml x g (.func f) f [] []:=fun _ _ _ _ _=>⟨[],[],rfl,by simp[FRL],by simp[FRL]⟩
theorem vF {N:Nat→Prop}:∀{l:List Tr}{us:List Value},FRL W N l us→ARL W N cs (l.map .t) us
 | [],us,h=>by simpa[FRL,ARL]using h
 | y::l,[],h=>by simp only[FRL]at h
 | y::l,u::us,h=>by
  simp only[FRL]at h
  simp only[List.map_cons,ARL,AR]
  exact⟨h.1,vF h.2⟩
theorem cU:∀{K:List Nat}{l:List (Option Ob)}{ob:List (Option Ob)},(bB ob K l).length=ob.length
 | [],l,ob=>by simp[bB]
 | k::K,[],ob=>by simp[bB]
 | k::K,a::l,ob=>by simp[bB,cU (K:=K)]
theorem eM:∀{K:List Nat}{l:List Co}{cs:List Co},(bG cs K l).length=cs.length
 | [],l,cs=>by simp[bG]
 | k::K,[],cs=>by simp[bG]
 | k::K,a::l,cs=>by simp[bG,eM (K:=K)]
theorem dD:∀{K:List Nat}{l:List (Option Ob)}{ob:List (Option Ob)}{j:Nat},j∉K→(bB ob K l)[j]? =ob[j]?
 | [],l,ob,j,_=>by simp[bB]
 | k::K,[],ob,j,_=>by simp[bB]
 | k::K,a::l,ob,j,h=>by
  simp only[List.mem_cons,not_or]at h
  simp only[bB]
  rw[dD h.2,List.getElem?_set_ne (fun e=>h.1 e.symm)]
theorem fD:∀{K:List Nat}{l:List Co}{cs:List Co}{j:Nat},j∉K→co (bG cs K l) j=co cs j
 | [],l,cs,j,_=>by simp[bG]
 | k::K,[],cs,j,_=>by simp[bG]
 | k::K,a::l,cs,j,h=>by
  simp only[List.mem_cons,not_or]at h
  simp only[bG]
  rw[fD h.2]
  unfold co
  rw[List.getElem?_set_ne (fun e=>h.1 e.symm)]
theorem fE:∀{K:List Nat}{l:List (Option Ob)}{ob:List (Option Ob)}{i k:Nat},K.Nodup→l.length=K.length→K[i]? =some k→k<ob.length→(bB ob K l)[k]? =l[i]?
 | [],l,ob,i,k,_,_,h,_=>by simp at h
 | k0::K,[],ob,i,k,_,hl,_,_=>by simp at hl
 | k0::K,a::l,ob,0,k,hn,hl,h,hk=>by
  simp at h
  subst h
  have hn:=List.nodup_cons.1 hn
  simp only[bB]
  rw[dD hn.1,List.getElem?_set_self hk]
  rfl
 | k0::K,a::l,ob,i+1,k,hn,hl,h,hk=>by
  have hn:=List.nodup_cons.1 hn
  simp only[bB]
  exact fE hn.2 (by simpa using hl) (by simpa using h) (by simpa using hk)
theorem vG:∀{K:List Nat}{l:List Co}{cs:List Co}{i k:Nat},K.Nodup→l.length=K.length→K[i]? =some k→k<cs.length→co (bG cs K l) k=co l i
 | [],l,cs,i,k,_,_,h,_=>by simp at h
 | k0::K,[],cs,i,k,_,hl,_,_=>by simp at hl
 | k0::K,a::l,cs,0,k,hn,hl,h,hk=>by
  simp at h
  subst h
  have hn:=List.nodup_cons.1 hn
  simp only[bG]
  rw[fD hn.1]
  simp[co,List.getElem?_set_self hk]
 | k0::K,a::l,cs,i+1,k,hn,hl,h,hk=>by
  have hn:=List.nodup_cons.1 hn
  simp only[bG]
  rw[vG hn.2 (by simpa using hl) (by simpa using h) (by simpa using hk)]
  simp[co]
theorem nS {K0:List Nat}:∀{K:List Nat}{l:List Lt},dR ob K0 K l→l.length=K.length
 | [],l,h=>by
  simp only[dR]at h
  simp[h]
 | k::K,[],h=>by simp only[dR]at h
 | k::K,a::l,h=>by
  simp only[dR]at h
  simp[nS h.2]
theorem gD {K0:List Nat}:∀{K:List Nat}{l:List Lt}{i k:Nat},dR ob K0 K l→K[i]? =some k→∃(a:Lt) (l':List AV),l[i]? =some a∧renL K0 a.l=some l'∧ob[k]? =some (some ⟨a.t,a.z,l'⟩)
 | [],l,i,k,_,h=>by simp at h
 | k0::K,[],i,k,h,_=>by simp only[dR]at h
 | k0::K,a::l,0,k,h,hk=>by
  simp only[dR]at h
  simp at hk
  subst hk
  obtain⟨⟨l',h1,h2⟩,_⟩:=h
  exact⟨a,l',rfl,h1,bI h2⟩
 | k0::K,a::l,i+1,k,h,hk=>by
  simp only[dR]at h
  exact gD (i:=i) h.2 (by simpa using hk)
theorem nT {K0:List Nat}:∀{l:List Lt}{os:List (Option Ob)},cA K0 l os→os.length=l.length
 | [],l,h=>by
  simp only[cA]at h
  simp[h]
 | k::K,[],h=>by simp only[cA]at h
 | k::K,a::l,h=>by
  simp only[cA]at h
  simp[nT h.2]
theorem jX {K0:List Nat}:∀{l:List Lt}{os:List (Option Ob)}{i:Nat}{a:Lt},cA K0 l os→l[i]? =some a→∃l',renL K0 a.l=some l'∧os[i]? =some (some ⟨a.t,a.z,l'⟩)
 | [],_,_,_,_,h=>by simp at h
 | b::l,[],_,_,h,_=>by simp only[cA]at h
 | b::l,o::os,0,a,h,ha=>by
  simp only[cA]at h
  simp at ha
  subst ha
  obtain⟨⟨l',h1,h2⟩,_⟩:=h
  exact⟨l',h1,by rw[h2];rfl⟩
 | b::l,o::os,i+1,a,h,ha=>by
  simp only[cA]at h
  obtain⟨l',h1,h2⟩:=jX (i:=i) h.2 (by simpa using ha)
  exact⟨l',h1,by simpa using h2⟩
def sN (K:List Nat) (cl cs2:List Co):Prop:=∀i k,K[i]? =some k→k<cs2.length∧co cs2 k=co cl i
mutual
theorem Dp {K:List Nat}{N:Nat→Prop}{cl cs2:List Co}(hc:sN K cl cs2):∀(a a':AV) (u:Value),cJ K a=some a'→AR W N cl a u→AR W N cs2 a' u
 | .t y,a',u,h,hr=>by
  simp only[cJ,Option.some.injEq]at h
  subst h
  simpa only[AR]using hr
 | .sl k o n,a',u,h,hr=>by
  simp only[cJ]at h
  split at h
  ·rename_i t ht
   simp only[Option.some.injEq]at h
   subst h
   simp only[AR]at hr⊢
   rw[(hc k t ht).2]
   exact⟨(hc k t ht).1,hr.2⟩
  cases h
 | .pt k o,a',u,h,hr=>by
  simp only[cJ]at h
  split at h
  ·rename_i t ht
   simp only[Option.some.injEq]at h
   subst h
   simp only[AR]at hr⊢
   rw[(hc k t ht).2]
   exact hr
  cases h
 | .ef l o,a',u,h,hr=>by
  simp only[cJ,Option.some.injEq]at h
  subst h
  simpa only[AR]using hr
 | .fn f a b,a',u,h,hr=>by
  simp only[cJ]at h
  split at h
  ·rename_i a1 b1 h1 h2
   simp only[Option.some.injEq]at h
   subst h
   simp only[AR]at hr⊢
   obtain⟨us,vs,e,r1,r2⟩:=hr
   exact⟨us,vs,e,ARL_to hc a a1 us h1 r1,ARL_to hc b b1 vs h2 r2⟩
  cases h
theorem ARL_to {K:List Nat}{N:Nat→Prop}{cl cs2:List Co}(hc:sN K cl cs2):∀(l l':List AV) (us:List Value),renL K l=some l'→ARL W N cl l us→ARL W N cs2 l' us
 | [],l',us,h,hr=>by
  simp only[renL,Option.some.injEq]at h
  subst h
  simpa only[ARL]using hr
 | a::l,l',us,h,hr=>by
  simp only[renL]at h
  split at h
  ·rename_i a1 l1 h1 h2
   simp only[Option.some.injEq]at h
   subst h
   cases us with
   | nil=>simp only[ARL]at hr
   | cons u us=>
    simp only[ARL]at hr⊢
    exact⟨Dp hc a a1 u h1 hr.1,ARL_to hc l l1 us h2 hr.2⟩
  cases h
end
theorem Im {N:Nat→Prop}{a:AV}{u:Value}(h:∀z,a≠.t z):CR W N cs a (.w u)↔AR W N cs a u:=by
 cases a with
 | t z=>exact absurd rfl (h z)
 | _=>simp only[CR]
theorem In {K:List Nat}{a a':AV}(h:cJ K a=some a') (hn:∀z,a≠.t z):∀z,a'≠.t z:=by
 intro z e
 subst e
 cases a with
 | t z=>exact hn z rfl
 | ef l o=>simp[cJ]at h
 | _=>
  simp only[cJ]at h
  split at h <;> simp at h
theorem Le {K:List Nat}{N:Nat→Prop}{cl cs2:List Co}(hc:sN K cl cs2){a a':AV}{y:VT}(h:cJ K a=some a') (hr:CR W N cl a y):CR W N cs2 a' y:=by
 by_cases ht:∃z,a=.t z
 ·obtain⟨z,rfl⟩:=ht
  simp only[cJ,Option.some.injEq]at h
  subst h
  simpa only[CR]using hr
 have hn:∀z,a≠.t z:=fun z e=>ht ⟨z,e⟩
 cases y with
 | w u=>exact(Im (In h hn)).2 (Dp hc _ _ u h ((Im hn).1 hr))
 | _=>
  cases a with
  | t z=>exact absurd rfl (hn z)
  | _=>simp only[CR]at hr
theorem yY {K:List Nat}{N:Nat→Prop}{cl cs2:List Co}(hc:sN K cl cs2):∀{l l':List AV}{ys:List VT},renL K l=some l'→aE W N cl l ys→aE W N cs2 l' ys
 | [],l',ys,h,hr=>by
  simp only[renL,Option.some.injEq]at h
  subst h
  simpa only[aE]using hr
 | a::l,l',ys,h,hr=>by
  simp only[renL]at h
  split at h
  ·rename_i a1 l1 h1 h2
   simp only[Option.some.injEq]at h
   subst h
   cases ys with
   | nil=>simp only[aE]at hr
   | cons y ys=>
    simp only[aE]at hr⊢
    exact⟨Le hc h1 hr.1,yY hc h2 hr.2⟩
  cases h
theorem sO {K:List Nat}{l l':List AV}(h:renL K l=some l'):l=[]↔l'=[]:=by
 cases l with
 | nil=>
  simp only[renL,Option.some.injEq]at h
  simp[←h]
 | cons a l=>
  simp only[renL]at h
  split at h
  ·simp only[Option.some.injEq]at h
   simp[←h]
  cases h
theorem pF (b:Nat):∀{K:List Nat}{l:List (Option Ob)}{lc:List Co}{ob:List (Option Ob)}{cs:List Co},K.Nodup→l.length=K.length→lc.length=K.length→ob.length=cs.length→(∀k∈K,k<ob.length)→
  (bD (bB ob K l) (bG cs K lc)).count b=(bD (bB ob K (bY K)) cs).count b+((aA l lc).flatMap Res.S).count b
 | [],l,lc,ob,cs,_,h1,h2,_,_=>by
  obtain rfl:=List.eq_nil_of_length_eq_zero h1
  obtain rfl:=List.eq_nil_of_length_eq_zero h2
  simp[bB,bG,bY,aA]
 | k::K,[],lc,ob,cs,_,h1,h2,_,_=>by simp at h1
 | k::K,a::l,[],ob,cs,_,h1,h2,_,_=>by simp at h2
 | k::K,a::l,c::lc,ob,cs,hn,h1,h2,h3,h4=>by
  have hn':=List.nodup_cons.1 hn
  have hk:=h4 k (by simp)
  have ih1:=pF b (K:=K) (l:=l) (lc:=lc) (ob:=ob.set k a) (cs:=cs.set k c) hn'.2 (by simpa using h1) (by simpa using h2) (by simpa using h3) (fun j hj=>by simpa using h4 j (List.mem_cons_of_mem _ hj))
  have e1:bY (k::K)=none::bY K:=rfl
  simp only[bB,bG,e1,aA,List.zipWith_cons_cons,List.flatMap_cons,List.count_append]
  unfold aA at ih1
  rw[ih1]
  -- the k-th of the others
  have e2:bB (ob.set k none) K (bY K)=(bB (ob.set k a) K (bY K)).set k none:=by
   apply List.ext_getElem?
   intro j
   by_cases hj:j∈K
   ·obtain⟨i,hi⟩:=List.mem_iff_getElem?.1 hj
    have hkj:k≠j:=fun e=>hn'.1 (e▸hj)
    rw[List.getElem?_set_ne hkj,fE hn'.2 (by simp[bY]) hi (by simpa using h4 j (List.mem_cons_of_mem _ hj)),fE hn'.2 (by simp[bY]) hi (by simpa using h4 j (List.mem_cons_of_mem _ hj))]
   rw[dD hj]
   by_cases hkj:k=j
   ·subst hkj
    rw[List.getElem?_set_self hk,List.getElem?_set_self (by rw[cU];simpa using hk)]
   rw[List.getElem?_set_ne hkj,List.getElem?_set_ne hkj,dD hj,List.getElem?_set_ne hkj]
  have e3:(bB (ob.set k a) K (bY K))[k]? =some a:=by rw[dD hn'.1,List.getElem?_set_self hk]
  have hck:co (cs.set k c) k=c:=by simp[co,List.getElem?_set_self (show k<cs.length by omega)]
  have hl0:(bB (ob.set k a) K (bY K)).length=(cs.set k c).length:=by rw[cU];simpa using h3
  have h5:=uS (r':=aB none (co cs k)) (aI hl0 e3) b
  rw[hck]at h5
  have e4:(aA (bB (ob.set k a) K (bY K)) (cs.set k c)).set k (aB none (co cs k))=aA (bB (ob.set k none) K (bY K)) cs:=by
   rw[e2,←gT]
   congr 1
   rw[List.set_set,oW (by omega)]
  have h6:(aB none (co cs k)).S=[]:=by cases hb:(co cs k).b <;> simp[aB]
  rw[e4,h6,List.count_nil]at h5
  unfold bD aA
  unfold aA at h5
  omega
theorem kF {K:List Nat}(hn:K.Nodup) (hl:ob.length=cs.length) (hK:∀k∈K,k<ob.length){r:Res}(h:r∈aA (bB ob K (bY K)) cs):r∈aA ob cs∨r.S=[]∧∀W,r.φ W:=by
 obtain⟨j,hj⟩:=List.mem_iff_getElem?.1 h
 by_cases hjK:j∈K
 ·obtain⟨i,hi⟩:=List.mem_iff_getElem?.1 hjK
  have h1:=fE (l:=bY K) hn (by simp[bY]) hi (hK j hjK)
  have h2:(bY K)[i]? =some none:=by simp[bY,hi]
  rw[h2]at h1
  rw[aI (by rw[cU];exact hl) h1]at hj
  injection hj with hj
  subst hj
  refine .inr ⟨?_,fun W=>?_⟩ <;> cases hb:(co cs j).b <;> simp[aB]
 left
 have h1:=dD (l:=bY K) (ob:=ob) hjK
 cases h2:ob[j]? with
 | none=>
  rw[h2]at h1
  have:¬j<(bB ob K (bY K)).length:=fun h=>by simp[h]at h1
  have h3:=(List.getElem?_eq_some_iff.1 hj).1
  rw[dB (by rw[cU];exact hl)]at h3
  rw[cU]at this
  omega
 | some o=>
  rw[h2]at h1
  rw[aI (by rw[cU];exact hl) h1]at hj
  injection hj with hj
  subst hj
  exact List.mem_of_getElem? (aI hl h2)
theorem yZ {K:List Nat}{N':Nat→Prop}(hR:RelC x g ob cs ts W) (hN:∀b,x.fr W ob cs b→N' b):∀{os:List Operand}{aa:List FV},qI x.n g K os aa→bC W N' (K.map (co cs)) aa (os.map (Act.eval ⟨ts,[]⟩))
 | [],aa,h=>by
  simp only[qI]at h
  simp[h,bC]
 | o::os,[],h=>by simp only[qI]at h
 | o::os,a::aa,h=>by
  simp only[qI]at h
  simp only[List.map_cons,bC]
  refine⟨?_,yZ hR hN h.2⟩
  have:=uQ hN h.1 (hR.lk o)
  cases a with
  | tup l=>simp[mO]at h
  | _=>exact this
theorem pG {N:Nat→Prop}:∀{l l':List FV}{us us':List Value},bC W N cs l us→bC W N cs l' us'→bC W N cs (l++l') (us++us')
 | [],l',us,us',h,h'=>by
  simp only[bC]at h
  subst h
  simpa using h'
 | a::l,l',u::us,us',h,h'=>by
  simp only[bC]at h
  simp only[List.cons_append,bC]
  exact⟨h.1,pG h.2 h'⟩
 | _::_,_,[],_,h,_=>by simp only[bC]at h
theorem mT {N N':Nat→Prop}(hN:∀b,N b→N' b):∀{caps:List Tr}{us:List Value},FRL W N caps us→bC W N' cs (fX caps) us
 | [],us,h=>by
  simp only[FRL]at h
  simp[h,fX,bC]
 | c::caps,[],h=>by simp only[FRL]at h
 | c::caps,u::us,h=>by
  simp only[FRL]at h
  simp only[fX,List.map_cons,bC]
  refine⟨?_,mT hN h.2⟩
  have h1:=cX (W':=W) (fun _ _=>rfl) hN _ _ h.1
  cases c with
  | a l=>
   simp only[FR]at h1
   obtain⟨us,e,h2⟩:=h1
   exact⟨us,e,vF h2⟩
  | _=>simpa only[Do,aJ,AR]using h1
theorem xD {fresh:Bool}{f:FuncId}{args:List FV}{R:List Lt→FV→Prop}{lent:List Lt}{K:List Nat}{os:List Operand}{fst caps:List Tr}{fus cus:List Value}(hS:aO fresh x.P f lent (fX fst++args++fX caps) R) (hK:dR ob K K lent) (hnd:K.Nodup) (ha:qI x.n g K os args) (hfst:FRL W (x.fr W ob cs) fst fus) (hcap:FRL W (x.fr W ob cs) caps cus) (hR:RelC x g ob cs ts W):
  Calls x.P f (fus++os.map (Act.eval ⟨ts,[]⟩)++cus).toArray W (fun e W'=>∃v lent' r ys cl N2,e=.returned v∧R lent' r∧lent'.length=K.length∧cl.length=K.length∧RO W' N2 cl r v ys∧VT.okL W' ys∧(VT.fpL ys).Nodup∧
   ∀(ok:List (Option Ob)),cA K lent' ok→∀(oz:List Ob) (csn:List Co),csn.length=oz.length→(∀b,((aA (oz.map some) csn).flatMap Res.S).count b≤(VT.fpL ys).count b)→(∀r∈aA (oz.map some) csn,r.φ W')→
    (∀b,N2 b→x.fr W' (bB ob K ok++oz.map some) (bG cs K cl++csn) b)∧
    ((∀i o,oz[i]? =some o→aE W' (x.fr W' (bB ob K ok++oz.map some) (bG cs K cl++csn)) (bG cs K cl++csn) o.l (co csn i).l∧((co csn i).b=none→o.l=[]∧o.z≠0))→
     RelC x g (bB ob K ok++oz.map some) (bG cs K cl++csn) ts W'∧∀d,Aft K d ob cs ts W (bB ob K ok++oz.map some) (bG cs K cl++csn) ts W')):=by
 have hlen:=hR.len
 have hll:=nS hK
 have hKl:∀k∈K,k<ob.length:=fun k hk=>by
  obtain⟨i,hi⟩:=List.mem_iff_getElem?.1 hk
  obtain⟨a,l',_,_,h2⟩:=gD hK hi
  exact(List.getElem?_eq_some_iff.1 h2).1
 have hlobs:(aK lent).length=K.length:=by rw[eL,hll]
 have hput0:aA (bB ob K (aK lent)) cs=aA ob cs:=by
  have hl0:(bB ob K (aK lent)).length=cs.length:=by rw[cU];exact hlen
  apply List.ext_getElem?
  intro j
  by_cases hjl:j<ob.length
  ·by_cases hj:j∈K
   ·obtain⟨i,hi⟩:=List.mem_iff_getElem?.1 hj
    obtain⟨a,l',h1,_,h2⟩:=gD hK hi
    have h3:=fE hnd hlobs hi hjl
    rw[dQ,h1]at h3
    rw[aI hl0 h3,aI hlen h2]
    exact congrArg some (kR _ _)
   have h3:=dD (l:=aK lent) (ob:=ob) hj
   rw[List.getElem?_eq_getElem hjl]at h3
   rw[aI hl0 h3,aI hlen (List.getElem?_eq_getElem hjl)]
  rw[List.getElem?_eq_none (by rw[dB hl0];omega),List.getElem?_eq_none (by rw[dB hlen];omega)]
 have hputc:bG cs K (K.map (co cs))=cs:=by
  have key:∀(K:List Nat),(∀k∈K,k<cs.length)→bG cs K (K.map (co cs))=cs:=by
   intro K
   induction K with
   | nil=>intro _;rfl
   | cons k K ih=>
    intro h
    simp only[List.map_cons,bG]
    rw[oW (h k (by simp))]
    exact ih fun j hj=>h j (List.mem_cons_of_mem _ hj)
  exact key K fun k hk=>by rw[←hlen];exact hKl k hk
 have hcnt0:=fun b=>pF b (l:=aK lent) (lc:=K.map (co cs)) (cs:=cs) hnd hlobs (by simp) hlen hKl
 unfold bD at hcnt0
 rw[hputc,hput0]at hcnt0
 have hfr0:∀b,x.fr W ob cs b→iJ W (aA (aK lent) (K.map (co cs))) b:=fun b hb=>And.intro hb.1.1 fun hm=>hb.1.2 (by
  have h1:=List.count_pos_iff.2 hm
  have h2:=hcnt0 b
  exact List.count_pos_iff.1 (show 0<((aA ob cs).flatMap Res.S).count b by omega))
 have hgetL:∀i k,K[i]? =some k→∃(a:Lt) (l':List AV),lent[i]? =some a∧renL K a.l=some l'∧ob[k]? =some (some (⟨a.t,a.z,l'⟩:Ob)):=fun i k hi=>gD hK hi
 have hφ0:∀r∈aA (aK lent) (K.map (co cs)),r.φ W:=fun r hr=>by
  obtain⟨i,hi⟩:=List.mem_iff_getElem?.1 hr
  have hil:=(List.getElem?_eq_some_iff.1 hi).1
  have hil2:i<K.length:=by
   rw[dB (by simp[hlobs])]at hil
   simpa using hil
  obtain⟨a,l',h1,_,h2⟩:=hgetL i K[i] (List.getElem?_eq_getElem hil2)
  have e1:(aK lent)[i]? =some (some a.ob):=by rw[dQ,h1];rfl
  rw[aI (by simp[hlobs]) e1,fS (List.getElem?_eq_getElem hil2)]at hi
  injection hi with hi
  subst hi
  rw[show aB (some a.ob) (co cs K[i])=aB (some ⟨a.t,a.z,l'⟩) (co cs K[i]) from kR _ _]
  exact hR.res h2
 have h1:Loc x.M x.w W (aA (aK lent) (K.map (co cs))++aA (bB ob K (bY K)) cs) []:=(hR.2.pickS []).cut (fun b=>by
  rw[List.flatMap_append,List.count_append]
  have:=hcnt0 b
  omega) (fun r hr=>by
  rcases List.mem_append.1 hr with hr | hr
  ·exact hφ0 r hr
  rcases kF hnd hlen hKl hr with hr | hr
  ·exact hR.2.res r hr
  exact hr.2 W)
 have h2:Loc ((aA (aK lent) (K.map (co cs))).flatMap Res.S) W W (aA (aK lent) (K.map (co cs))) [(Ib lent (K.map (co cs)) (fX fst++args++fX caps) (fus++os.map (Act.eval ⟨ts,[]⟩)++cus)).on (x.fr W ob cs)]:=by
  refine h1.focus.read _ ⟨⟨by simp[hlobs],fun k o hk=>?_⟩,pG (pG (mT (fun b hb=>⟨hfr0 b hb,hb⟩) hfst) (yZ hR (fun b hb=>⟨hfr0 b hb,hb⟩) ha)) (mT (fun b hb=>⟨hfr0 b hb,hb⟩) hcap)⟩
  rw[dQ]at hk
  cases hq:lent[k]? with
  | none=>rw[hq]at hk;cases hk
  | some a=>
   rw[hq]at hk
   simp at hk
   subst hk
   have hkK:k<K.length:=by rw[←hll];exact(List.getElem?_eq_some_iff.1 hq).1
   obtain⟨a',l',q1,q0,q2⟩:=hgetL k K[k] (List.getElem?_eq_getElem hkK)
   rw[hq]at q1
   injection q1 with q1
   subst q1
   have q3:=hR.obs.2 _ _ q2
   rw[fS (List.getElem?_eq_getElem hkK)]
   exact⟨oV (fun b hb=>⟨hfr0 b hb,hb⟩) q0 q3.1,fun h=>⟨(sO q0).2 (q3.2 h).1,(q3.2 h).2⟩⟩
 refine(hS _ W _ _ h2).mono fun e W' hE=>?_
 obtain⟨v,lent',cl,r,ys,rfl,hr,hl',hty,hcl,hsame,h3⟩:=hE
 have h4:=Loc.turn h1 h3
 have hsh:=Sh.off (h3.sh 0 rfl)
 have hcl':cl.length=K.length:=by simpa using hcl
 have hlK:lent'.length=K.length:=by rw[hl',hll]
 refine⟨v,lent',r,ys,cl,_,rfl,hr,hlK,hcl',hsh.2,h3.res (dP ys) (by simp),?_,fun ok hbk oz csn hlz hcz hφz=>?_⟩
 ·have:=h3.nd
  rw[List.flatMap_append,List.nodup_append]at this
  simpa[dP]using this.2.1
 have hlob':ok.length=K.length:=by rw[nT hbk,hlK]
 have hrk:aA ok cl=aA (aK lent') cl:=by
  apply List.ext_getElem?
  intro j
  by_cases hj:j<lent'.length
  ·obtain⟨l',q1,q2⟩:=jX hbk (List.getElem?_eq_getElem hj)
   rw[aI (by rw[hlob',hcl']) q2,aI (ob:=aK lent') (by rw[eL,hlK,hcl']) (o:=some (lent'[j]).ob) (by rw[dQ,List.getElem?_eq_getElem hj];rfl)]
   exact congrArg some (kR _ _)
  rw[List.getElem?_eq_none (by rw[dB (by rw[hlob',hcl'])];omega),List.getElem?_eq_none (by rw[dB (by rw[eL,hlK,hcl'])];omega)]
 have hlen2:(bB ob K ok).length=(bG cs K cl).length:=by rw[cU,eM];exact hlen
 have hrs:aA (bB ob K ok++oz.map some) (bG cs K cl++csn)=aA (bB ob K ok) (bG cs K cl)++aA (oz.map some) csn:=by
  unfold aA
  rw[List.zipWith_append hlen2]
 have hcnt2:∀b,(bD (bB ob K ok++oz.map some) (bG cs K cl++csn)).count b≤(((aA (aK lent') cl++[dP ys])++aA (bB ob K (bY K)) cs).flatMap Res.S).count b:=fun b=>by
  have q1:=pF b (l:=ok) (lc:=cl) (cs:=cs) hnd hlob' hcl' hlen hKl
  rw[hrk]at q1
  have q2:=hcz b
  unfold bD at q1⊢
  rw[hrs,List.flatMap_append,List.count_append,List.flatMap_append,List.count_append,List.flatMap_append,List.count_append,List.flatMap_cons,List.flatMap_nil,List.append_nil]
  have q3:(dP ys).S=VT.fpL ys:=rfl
  rw[q3]
  omega
 have hin2:∀b,b∈bD (bB ob K ok++oz.map some) (bG cs K cl++csn)→b∈((aA (aK lent') cl++[dP ys])++aA (bB ob K (bY K)) cs).flatMap Res.S:=fun b hb=>List.count_pos_iff.1 (Nat.lt_of_lt_of_le (List.count_pos_iff.2 hb) (hcnt2 b))
 have hrest:∀b,b∈(aA (bB ob K (bY K)) cs).flatMap Res.S→b∈bD ob cs:=fun b hb=>by
  obtain⟨r,hr,hb⟩:=List.mem_flatMap.1 hb
  rcases kF hnd hlen hKl hr with hr | hr
  ·exact List.mem_flatMap.2 ⟨r,hr,hb⟩
  rw[hr.1]at hb
  cases hb
 have hlentS:∀b,b∈(aA (aK lent) (K.map (co cs))).flatMap Res.S→b∈bD ob cs:=fun b hb=>by
  have q1:=List.count_pos_iff.2 hb
  have q2:=hcnt0 b
  exact List.count_pos_iff.1 (show 0<((aA ob cs).flatMap Res.S).count b by omega)
 have hfree:∀b,iJ W' (aA (aK lent') cl++[dP ys]) b→(x.fr W ob cs b∨b∈(aA (aK lent) (K.map (co cs))).flatMap Res.S∨W.heap.size≤b)→x.fr W' (bB ob K ok++oz.map some) (bG cs K cl++csn) b:=fun b hb hb'=>by
  refine⟨⟨hb.1,fun hm=>?_⟩,?_⟩
  ·have hm:=hin2 b hm
   rw[List.flatMap_append,List.mem_append]at hm
   rcases hm with hm | hm
   ·exact hb.2 hm
   have hm2:=hrest b hm
   rcases hb' with hb' | hb' | hb'
   ·exact hb'.1.2 hm2
   ·have q1:=hcnt0 b
    have q2:=List.nodup_iff_count.1 hR.2.nd b
    have q3:=List.count_pos_iff.2 hb'
    have q4:=List.count_pos_iff.2 hm
    unfold bD at q1
    omega
   have:=(hR.2.blk b hm2).2
   omega
  rcases hb' with hb' | hb' | hb'
  ·exact hb'.2
  ·exact .inr (hR.2.blk b (hlentS b hb')).1
  exact .inr (.inr (Nat.le_trans hR.2.chg.size hb'))
 have hsize:W.heap.size≤W'.heap.size:=h3.chg.size
 have hfr:∀b,x.fr W ob cs b→x.fr W' (bB ob K ok++oz.map some) (bG cs K cl++csn) b:=fun b hb=>by
  refine hfree b ⟨Nat.lt_of_lt_of_le hb.1.1 hsize,fun hm=>?_⟩ (.inl hb)
  have q1:=h3.blk b hm
  rcases q1.1 with q1 | q1
  ·exact hb.1.2 (hlentS b q1)
  have:=hb.1.1
  omega
 have hkeep:∀b,x.fr W ob cs b→W'.heap[b]? =W.heap[b]? :=fun b hb=>h3.chg.block b hb.1.1 (fun hm=>hb.1.2 (hlentS b hm))
 refine⟨fun b hb=>hfree b hb.2.1 hb.2.2,fun hoz=>?_⟩
 have hcoK:∀i k,K[i]? =some k→co (bG cs K cl) k=co cl i:=fun i k hi=>vG hnd hcl' hi (by rw[←hlen];exact hKl k (List.mem_of_getElem? hi))
 have hsame2:Same cs (bG cs K cl):=⟨by rw[eM];exact Nat.le_refl _,fun k hk=>by
  by_cases hkK:k∈K
  ·obtain⟨i,hi⟩:=List.mem_iff_getElem?.1 hkK
   have:=hsame.2 i (by simpa using(List.getElem?_eq_some_iff.1 hi).1)
   rw[fS hi]at this
   rw[hcoK i k hi]
   exact this
  rw[fD hkK]
  exact⟨rfl,rfl⟩⟩
 have happ:∀{k},k<(bG cs K cl).length→co (bG cs K cl++csn) k=co (bG cs K cl) k:=fun hk=>by simp[co,List.getElem?_append_left hk]
 have hsame3:Same cs (bG cs K cl++csn):=hsame2.trans ⟨by simp,fun k hk=>by rw[happ hk];exact⟨rfl,rfl⟩⟩
 have hLf:Loc x.M x.w W' (aA (bB ob K ok++oz.map some) (bG cs K cl++csn)) []:=h4.cut hcnt2 (fun r hr=>by
  rw[hrs]at hr
  rcases List.mem_append.1 hr with hr | hr
  ·obtain⟨j,hj⟩:=List.mem_iff_getElem?.1 hr
   have hjl:=(List.getElem?_eq_some_iff.1 hj).1
   rw[dB hlen2,eM,←hlen]at hjl
   by_cases hjK:j∈K
   ·obtain⟨i,hi⟩:=List.mem_iff_getElem?.1 hjK
    have q1:=fE hnd hlob' hi (hKl j hjK)
    have q2:i<ok.length:=by rw[hlob'];exact(List.getElem?_eq_some_iff.1 hi).1
    rw[List.getElem?_eq_getElem q2]at q1
    rw[aI hlen2 q1,hcoK i j hi]at hj
    injection hj with hj
    subst hj
    refine h3.res _ (List.mem_append_left _ (by rw[←hrk];exact List.mem_of_getElem? (aI (by rw[hlob',hcl']) (List.getElem?_eq_getElem q2))))
   have q1:(bB ob K ok)[j]? =ob[j]? :=dD hjK
   rw[List.getElem?_eq_getElem hjl]at q1
   rw[aI hlen2 q1,fD hjK]at hj
   injection hj with hj
   subst hj
   have q2:(bB ob K (bY K))[j]? =ob[j]? :=dD hjK
   rw[List.getElem?_eq_getElem hjl]at q2
   exact h4.res _ (List.mem_append_right _ (List.mem_of_getElem? (aI (by rw[cU];exact hlen) q2)))
  exact hφz r hr)
 refine⟨.of hR.1 hLf ⟨by rw[List.length_append,List.length_append,hlen2,List.length_map,hlz],fun k o hk=>?_⟩ (fun i hi=>?_) (hR.3.trans hsame3),fun d=>⟨hsame3,fun k hk hkc=>?_,hsize,fun b hlt hb=>?_,fun b hb=>?_,fun _ _=>rfl⟩⟩
 ·rcases Nat.lt_or_ge k (bB ob K ok).length with hlt | hge
  ·rw[List.getElem?_append_left hlt]at hk
   rw[happ (by rw[←hlen2];exact hlt)]
   rw[cU]at hlt
   by_cases hkK:k∈K
   ·obtain⟨i,hi⟩:=List.mem_iff_getElem?.1 hkK
    rw[fE hnd hlob' hi hlt]at hk
    have hil:i<lent'.length:=by rw[hlK];exact(List.getElem?_eq_some_iff.1 hi).1
    obtain⟨l',q0,q2⟩:=jX hbk (List.getElem?_eq_getElem hil)
    rw[q2]at hk
    injection hk with hk
    injection hk with hk
    subst hk
    have q1:=hsh.1.2 i (lent'[i]).ob (by rw[dQ,List.getElem?_eq_getElem hil];rfl)
    rw[hcoK i k hi]
    have q3:sN K cl (bG cs K cl++csn):=fun i k hi=>by
     have hkl:=hKl k (List.mem_of_getElem? hi)
     have hkp:k<(bG cs K cl).length:=by rw[eM,←hlen];exact hkl
     exact⟨by rw[List.length_append];omega,by rw[happ hkp,hcoK i k hi]⟩
    exact⟨bE (fun _ _=>rfl) (fun b hb=>hfree b hb.2.1 hb.2.2) .refl _ _ (yY q3 q0 q1.1),fun h=>⟨(sO q0).1 (q1.2 h).1,(q1.2 h).2⟩⟩
   rw[dD hkK]at hk
   rw[fD hkK]
   have q1:=hR.obs.2 k o hk
   exact⟨bE hkeep hfr hsame3 _ _ q1.1,q1.2⟩
  rw[List.getElem?_append_right hge]at hk
  have ho:oz[k-(bB ob K ok).length]? =some o:=by
   rw[List.getElem?_map]at hk
   cases hq:oz[k-(bB ob K ok).length]? with
   | none=>rw[hq]at hk;cases hk
   | some o'=>
    rw[hq]at hk
    simp at hk
    rw[hk]
  have q1:=hoz _ o ho
  have e:co (bG cs K cl++csn) k=co csn (k-(bB ob K ok).length):=by
   unfold co
   rw[List.getElem?_append_right (by rw[←hlen2];exact hge),hlen2]
  rw[e]
  exact q1
 ·obtain⟨u,q1,q2⟩:=hR.fv hi
  exact⟨u,q1,cE hkeep hfr hsame3 _ _ q2⟩
 ·rw[happ (by rw[eM];exact hkc),fD hk]
 ·refine h3.chg.block b hlt fun hm=>?_
  obtain⟨r,hr,hbr⟩:=List.mem_flatMap.1 hm
  obtain⟨i,hi⟩:=List.mem_iff_getElem?.1 hr
  have hil:=(List.getElem?_eq_some_iff.1 hi).1
  have hil2:i<K.length:=by
   rw[dB (by simp[hlobs])]at hil
   simpa using hil
  obtain⟨a,l',q1,_,q2⟩:=hgetL i K[i] (List.getElem?_eq_getElem hil2)
  have e1:(aK lent)[i]? =some (some a.ob):=by rw[dQ,q1];rfl
  rw[aI (by simp[hlobs]) e1,fS (List.getElem?_eq_getElem hil2)]at hi
  injection hi with hi
  subst hi
  rw[show aB (some a.ob) (co cs K[i])=aB (some ⟨a.t,a.z,l'⟩) (co cs K[i]) from kR _ _]at hbr
  exact hb K[i] (List.getElem_mem hil2) _ q2 hbr
 have q1:=hin2 b hb
 rw[List.flatMap_append,List.mem_append]at q1
 rcases q1 with q1 | q1
 ·rcases(h3.blk b q1).1 with q2 | q2
  ·exact .inl (hlentS b q2)
  exact .inr q2
 exact .inl (hrest b q1)
end
theorem sP {k:Nat}{a:AV}(h:(pB k a).isSome=true):∃y,a=.t y:=by
 cases a with
 | t y=>exact⟨y,rfl⟩
 | _=>simp[pB]at h
theorem sQ {W:World}{N:Nat→Prop}{cs:List Co}:∀{l:List AV}{k:Nat}{r:List AV×List Ob}{ys:List VT},fW k l=some r→aE W N cs l ys→aE W N [] l ys
 | [],_,_,ys,_,h=>by simpa[aE]using h
 | a::l,k,r,[],_,h=>by simp only[aE]at h
 | a::l,k,r,y::ys,hb,h=>by
  simp only[aE]at h⊢
  unfold fW at hb
  split at hb
  ·rename_i a' ha
   split at hb
   ·rename_i l' os hl
    obtain⟨z,rfl⟩:=sP (k:=k) (by rw[ha];rfl)
    exact⟨h.1,sQ hl h.2⟩
   cases hb
  ·rename_i a' o r' ha
   split at hb
   ·rename_i l' os hl
    obtain⟨z,rfl⟩:=sP (k:=k) (by rw[ha];rfl)
    exact⟨h.1,sQ hl h.2⟩
   cases hb
  cases hb
theorem sR {W:World}{N:Nat→Prop}{cs:List Co}{k:Nat}{r:FV}{b:FV×List Ob}{u:Value}{ys:List VT}(hb:kX k r=some b) (h:kE W N cs r u ys):kE W N [] r u ys:=by
 cases r with
 | any=>exact h.elim
 | tup l=>exact h.elim
 | one a=>
  unfold kX at hb
  dsimp only at hb
  split at hb
  ·rename_i a' os ha
   obtain⟨z,rfl⟩:=sP (k:=k) (by rw[ha];rfl)
   exact h
  cases hb
 | agg l=>
  unfold kX at hb
  dsimp only at hb
  split at hb
  ·rename_i l' os hl
   exact⟨h.1,sQ hl h.2⟩
  cases hb
theorem zA {W:World}{N:Nat→Prop}{cs:List Co}:∀{l:List FV}{k:Nat}{b:List FV×List Ob}{us:List Value}{ys:List VT},mS k l=some b→kT W N cs l us ys→kT W N [] l us ys
 | [],_,_,us,ys,_,h=>h
 | a::l,k,b,us,ys,hb,⟨v,vs,y1,y2,h1,h2,h3,h4⟩=>by
  unfold mS at hb
  split at hb
  ·rename_i a' os ha
   split at hb
   ·rename_i l' os' hl
    exact⟨v,vs,y1,y2,h1,h2,sR ha h3,zA hl h4⟩
   cases hb
  cases hb
theorem Lg {W:World}{N:Nat→Prop}{cs:List Co}{k:Nat}{r:FV}{b:FV×List Ob}{u:Value}{ys:List VT}(hb:kY k r=some b) (h:RO W N cs r u ys):RO W N [] r u ys:=by
 cases r with
 | tup l=>
  obtain⟨vs,e,h⟩:=h
  unfold kY at hb
  dsimp only at hb
  split at hb
  ·rename_i l' os hl
   exact⟨vs,e,zA hl h⟩
  cases hb
 | any=>exact h.elim
 | one a=>exact sR (r:=.one a) hb h
 | agg l=>exact sR (r:=.agg l) hb h
section
variable {x:Cx}{g g':Nat→FV}{ob ob':List (Option Ob)}{cs cs':List Co}{ts ts':Array Value}{W W':World}{T:List (Nat×TI)}{Q:cG}{ops:Array Oper}{rest:List Oper}{d:Nat}{op:Op}{ty:TypeId}{pos:String}{af:Array Edge}{gd:Option (Nat×Bool)}
theorem zB {cf:Operand}{f:FuncId}{us0 us:List Value}{aa:Array Operand}{ats:Array TypeId}(hf:CallOk x.P f) (e0:Act.eval ⟨ts,[]⟩ cf=.func (.func f) us0.toArray us.toArray):
  (execOp (Act.eval ⟨ts,[]⟩) ⟨some d,.call ⟨.value cf,aa,ats⟩,ty,pos,af,gd⟩).run x.P W=.ok (.enter f (us0++aa.toList.map (Act.eval ⟨ts,[]⟩)++us).toArray) W:=by
 obtain⟨fn,c,h1,h2,h3⟩:=hf
 have e1:aa.map (Act.eval ⟨ts,[]⟩)=(aa.toList.map (Act.eval ⟨ts,[]⟩)).toArray:=by apply Array.ext';simp only[Array.toList_map]
 simp[execOp,resolve,e0,Deferred.ofValue,invoke,e1,callFunc,h1,h3]
 intro hn
 rw[hn]at h2
 simp at h2
theorem Ca {fresh:Bool}{f:FuncId}{args:List FV}{R:List Lt→FV→Prop}{lent:List Lt}{K:List Nat}{aa:Array Operand}{ats:Array TypeId}{cf:Operand}{fst caps:List Tr}{key:Nat}(hS:aO fresh x.P f lent (fX fst++args++fX caps) R) (hf:CallOk x.P f) (hc:Ml x g cf f fst caps) (hK:dR ob K K lent) (hnd:K.Nodup) (ha:qI x.n g K aa.toList args) (hk:dE ob key=true) (hb:∀l r,R l r→l.length=K.length→(kY key r).isSome=true∧∃ok,cA K l ok):
  OS x ⟨some d,.call ⟨.value cf,aa,ats⟩,ty,pos,af,gd⟩ g ob K (fun g' ob'=>∃l r v os ok,R l r∧l.length=K.length∧kY key r=some (v,os)∧cA K l ok∧g'=aH g d v∧ob'=bB ob K ok++os.map some):=by
 intro cs ts W hR K' Q kk
 obtain⟨us0,us,e0,hfst,hcap⟩:=hc ob cs ts W hR
 unfold Oper.wp
 rw[zB hf e0]
 refine(xD hS hK hnd ha hfst hcap hR).mono fun e W' hE=>?_
 obtain⟨v,lent',r,ys,cl,N2,rfl,hr,hl1,hl2,hro,hok,hndy,fin⟩:=hE
 obtain⟨hb1,ok,hbk⟩:=hb _ r hr hl1
 obtain⟨⟨v',os⟩,hbn⟩:=Option.isSome_iff_exists.1 hb1
 obtain⟨csn,e1,e2,e3,e4⟩:=yV (Lg hbn hro) hok hbn
 obtain⟨hN,hfin⟩:=fin ok hbk os csn e1 (fun b=>by rw[e2];exact Nat.le_refl _) e3
 have hk:=Nat.eq_of_beq_eq_true hk
 have hpl:(bG cs K cl).length=key:=by rw[eM,←hR.len,hk]
 obtain⟨g1,g2⟩:=e4 _ (bG cs K cl++csn) hN (by simp[hpl,e1]) (fun i _=>by
  unfold co
  rw[List.getElem?_append_right (by omega),hpl,show key+i-key=i by omega])
 obtain⟨m1,m2⟩:=hfin g2
 exact kk _ _ _ _ _ ⟨lent',r,v',os,ok,hr,hl1,hbn,hbk,rfl,rfl⟩ (m1.put d g1) ((m2 (some d)).then_put v)
theorem qJ {K0:List Nat}:∀{l:List Lt}{a b:List (Option Ob)},cA K0 l a→cA K0 l b→a=b
 | [],a,b,h,h'=>by
  simp only[cA]at h h'
  rw[h,h']
 | x::l,[],b,h,_=>by simp only[cA]at h
 | x::l,a::al,[],_,h=>by simp only[cA]at h
 | x::l,a::al,b::bl,h,h'=>by
  simp only[cA]at h h'
  obtain⟨⟨l1,e1,e2⟩,h2⟩:=h
  obtain⟨⟨l2,f1,f2⟩,h3⟩:=h'
  rw[e1]at f1
  injection f1 with f1
  subst f1
  rw[e2,f2,qJ h2 h3]
def Rt (l0:List Lt) (r0:FV):List Lt→FV→Prop:=fun l r=>l=l0∧r=r0
theorem Io {i:Nat}{v:FV}(hi:Nat.blt i x.n=true) (h:∀W N cs u,aD W N cs (g i) u→aD W N cs v u):Sub x g ob (aH g i v) ob:=by
 rintro ts W ⟨cs,hR⟩
 have hi:i<x.n:=by simpa[Nat.blt,Nat.lt_iff_add_one_le]using hi
 obtain⟨u,e1,e2⟩:=hR.fv hi
 have e3:ts.setIfInBounds i u=ts:=by
  apply Array.ext_getElem?
  intro j
  by_cases hj:i=j
  ·subst hj
   have:i<ts.size:=by rw[hR.1];exact hi
   rw[Array.getElem?_setIfInBounds_self_of_lt this,e1]
  rw[Array.getElem?_setIfInBounds_ne hj]
 have:=hR.put i (h _ _ _ _ e2)
 rw[e3]at this
 exact⟨cs,this⟩
theorem Ip {t e z by_:Nat}{zz:Value}{ti:Bool}{ts0:Nat}{z0:List Value}{a:Operand}{t2:TypeId}{m:Nat}(hT:aR x.P T) (ht:aF T t=some ⟨ti,ts0,z0,.sl e z by_ zz⟩) (ha:eH (lk x.n g a)=some m):
  OS x ⟨some d,.binOp .eql t a (.const (.slice none 0 0)) t2,ty,pos,af,gd⟩ g ob [] (fun g' ob'=>∃q:Bool,(q=true→m=0)∧g'=aH g d (.one (tv (.bool q)))∧ob'=ob):=by
 obtain⟨hts,_⟩:=(aW hT ht).2.2.2
 obtain⟨i,e1,_,_⟩:=hts
 intro cs ts W hR K Q kk
 obtain⟨A,c,hu⟩:=uK (hR.lk a) ha
 have h0:∀A c,Act.eval ⟨ts,[]⟩ a=.slice A m c→(A=none→m=0):=by
  intro A c hu hA
  subst hA
  have hv:=hR.lk a
  rw[hu]at hv
  cases hlk:lk x.n g a with
  | any=>rw[hlk]at ha;simp[eH]at ha
  | agg l=>rw[hlk]at ha;simp[eH]at ha
  | tup l=>rw[hlk]at ha;simp[eH]at ha
  | one av=>
   rw[hlk]at hv ha
   cases av with
   | pt=>simp[eH]at ha
   | ef=>simp[eH]at ha
   | fn=>simp[eH]at ha
   | sl k o n=>
    simp only[aD,aJ,AR]at hv
    cases hb:(co cs k).b with
    | none=>
     rw[hb]at hv
     obtain⟨_,h1,_,h3⟩:=hv
     injection h3
    | some b=>
     rw[hb]at hv
     obtain⟨_,_,_,h3,_⟩:=hv
     injection h3 with h3
     cases h3
   | t y=>
    cases y with
    | p=>simp[eH]at ha
    | f=>simp[eH]at ha
    | a=>simp[eH]at ha
    | s o t z n l=>
     simp only[aD,aJ,AR,FR]at hv
     obtain⟨A,c,h1,_,_,_,h5⟩:=hv
     injection h1 with h1 h2 _
     subst h1
     rcases h5 with h5 | ⟨ad,h5,_⟩
     ·omega
     cases h5
    | v w=>
     simp only[aD,aJ,AR,FR]at hv
     subst hv
     unfold eH at ha
     split at ha
     ·rename_i h9
      cases h9
     ·rename_i h9
      cases h9
     ·rename_i h9
      injection ha with ha
      exact ha.symm
     cases ha
 have hrun:(execOp (Act.eval ⟨ts,[]⟩) ⟨some d,.binOp .eql t a (.const (.slice none 0 0)) t2,ty,pos,af,gd⟩).run x.P W=.ok (.value (.bool A.isNone)) W:=by
  have h3:∀A:Option Addr,(Op.equal t (.slice A m c) (.slice none 0 0)).run x.P W=.ok A.isNone W:=fun A=>by
   show(Op.equalIn (9999+1) t (.slice A m c) (.slice none 0 0)).run x.P W=_
   rw[Op.equalIn]
   simp only[Sem.run_bind,run_underlying e1,Result.andThen_ok]
   cases A <;> rfl
  have h4:Act.eval ⟨ts,[]⟩ (.const (.slice none 0 0))=.slice none 0 0:=rfl
  simp only[execOp,hu,h4,eqGuard_at_slice,binOp,Sem.run_bind,Sem.run_pure,Result.andThen_ok,h3]
 refine bP hrun (kk _ _ _ _ _ ⟨A.isNone,fun h=>h0 A c hu (by simpa using h),rfl,rfl⟩ (hR.put d (v:=.one (tv (.bool A.isNone))) (by simp[aD,aJ,tv,AR,FR])) (.put d _))
theorem Cb {z:Array Value}{n:Nat}(h0:0<z.size):(Builtin.zeroCells z n).toList=dC z.toList n:=by
 unfold Builtin.zeroCells
 apply List.ext_getElem?
 intro j
 simp only[Array.toList_map,Array.toList_range,List.getElem?_map]
 by_cases hj:j<n*z.size
 ·rw[List.getElem?_range hj,mR (by simpa using hj)]
  simp only[Option.map_some]
  have hm:j%z.size<z.size:=Nat.mod_lt _ h0
  rw[getElem!_pos z _ hm]
  simp[hm]
 rw[List.getElem?_eq_none (by simp;omega),List.getElem?_eq_none (by simp[jW];omega)]
 rfl
theorem zC:∀{us:List Value},bQ (us.map tv)=true→∀n,bQ ((dC us n).map tv)=true
 | us,h,0=>rfl
 | us,h,n+1=>by
  have ih:=zC h n
  have app:∀(a b:List AV),bQ a=true→bQ b=true→bQ (a++b)=true:=by
   intro a b
   induction a with
   | nil=>intro _ h;exact h
   | cons c a ih=>
    intro h1 h2
    simp only[bQ,Bool.and_eq_true]at h1
    simp only[List.cons_append,bQ,Bool.and_eq_true]
    exact⟨h1.1,ih h1.2 h2⟩
  unfold dC
  rw[List.map_append]
  exact app _ _ h ih
theorem Iq {t e z by_ k o n:Nat}{zz:Value}{ti:Bool}{ts0:Nat}{z0:List Value}{bo:Ob}{a:Operand}(hT:aR x.P T) (ht:aF T t=some ⟨ti,ts0,z0,.sl e z by_ zz⟩) (ha:lk x.n g a=.one (.sl k o n)) (ho:aZ ob k=some bo) (hle:o+n*z≤bo.l.length) (hlo:bQ (zz.cells.toList.map tv)=true):
  OS x ⟨none,.call ⟨.builtin .clear, #[a], #[t]⟩,ty,pos,af,gd⟩ g ob [k] (fun g' ob2=>g'=g∧ob2=ob.set k (some ⟨bo.t,bo.z,bM bo.l o ((dC zz.cells.toList n).map tv)⟩)):=by
 obtain⟨_,ht',i,hi,hz,hsize,hby,hzs,hsz⟩:=(aW hT ht).2.2.2
 have hk:=bI ho
 intro cs ts W hR K Q kk
 have hu:=hR.lk a
 rw[ha]at hu
 simp only[aD,aJ,AR]at hu
 have idle:n=0→(execOp (Act.eval ⟨ts,[]⟩) ⟨none,.call ⟨.builtin .clear, #[a], #[t]⟩,ty,pos,af,gd⟩).run x.P W=.ok (.value (.tuple #[])) W→Oper.wp x.P ⟨none,.call ⟨.builtin .clear, #[a], #[t]⟩,ty,pos,af,gd⟩ ⟨ts,[]⟩ W K Q:=fun h0 hrun=>by
  subst h0
  unfold Oper.wp
  rw[hrun]
  have e1:bM bo.l o ((dC zz.cells.toList 0).map tv)=bo.l:=by simp[bM,dC]
  have e2:ob.set k (some ⟨bo.t,bo.z,bM bo.l o ((dC zz.cells.toList 0).map tv)⟩)=ob:=by
   rw[e1]
   apply List.ext_getElem?
   intro j
   by_cases hj:k=j
   ·subst hj
    rw[List.getElem?_set_self (List.getElem?_eq_some_iff.1 hk).1,hk]
   rw[List.getElem?_set_ne hj]
  refine kk g _ cs ts W ⟨rfl,rfl⟩ (by rw[e2];exact hR) (by rw[e2];exact⟨.refl,fun _ _ _=>rfl,Nat.le_refl _,fun _ _ _=>rfl,fun _ h=>.inl h,fun _ _=>rfl⟩)
 cases hb:(co cs k).b with
 | none=>
  rw[hb]at hu
  obtain⟨_,h0,_,e⟩:=hu
  exact idle h0 (by simp[execOp,resolve,invoke,builtin,e,Builtin.clear_,run_underlying ht'])
 | some b=>
  rw[hb]at hu
  obtain⟨_,o',c,e,h1,h2,h3,_⟩:=hu
  rcases Nat.eq_zero_or_pos n with h0 | h0
  ·subst h0
   exact idle rfl (by simp[execOp,resolve,invoke,builtin,e,Builtin.clear_,run_underlying ht'])
  obtain rfl:=h3 (.inl h0)
  have hzl:((dC zz.cells.toList n).map tv).length=n*z:=by simp[jW,hzs]
  obtain⟨W',c',hst,m1,m2⟩:=hR.over (us:=(dC zz.cells.toList n).map tv) (vs:=dC zz.cells.toList n) (o:=o') hk hb (eS _) (kO _) (zC hlo n) (by rw[hzl];exact hle)
  have hd:∃m,n=m+1:=⟨n-1,by omega⟩
  obtain⟨m,hm⟩:=hd
  have hrun:(execOp (Act.eval ⟨ts,[]⟩) ⟨none,.call ⟨.builtin .clear, #[a], #[t]⟩,ty,pos,af,gd⟩).run x.P W=.ok (.value (.tuple #[])) W':=by
   rw[←Cb (by omega),hm]at hst
   rw[hm]at e
   simp[execOp,resolve,invoke,builtin,e,Builtin.clear_,run_underlying ht',zeroValue,typeInfo,hi,hz,hst]
  unfold Oper.wp
  rw[hrun]
  exact kk _ _ _ _ _ ⟨rfl,rfl⟩ m1 (m2 none)
end
section
variable {x:Cx}{g:Nat→FV}{ob ob':List (Option Ob)}{Q:cG}{ops:Array Oper}{rest:List Oper}{d:Nat}{op:Op}{ty:TypeId}{pos:String}{af:Array Edge}{gd:Option (Nat×Bool)}{C:Prop}{v:FV}
theorem cl {fresh:Bool}{f:FuncId}{lent lent':List Lt}{args:List FV}{r:FV}{os:List Ob}{aa:Array Operand}{ats:Array TypeId}(key:Nat) (K:List Nat) (hS:aO fresh x.P f lent args (Rt lent' r)) (hf:CallOk x.P f) (hK:dR ob K K lent) (ha:qI x.n g K aa.toList args){ok:List (Option Ob)}(hbk:cA K lent' ok) (k:WL x ops rest (aH g d v) (bB ob K ok++os.map some) Q) (hw:aP ops x.n g gd=some true:=by rfl) (hk:dE ob key=true:=by rfl) (hnd:K.Nodup:=by decide) (hb:kY key r=some (v,os):=by rfl):
  WL x ops (⟨some d,.call ⟨.value (.func f),aa,ats⟩,ty,pos,af,gd⟩::rest) g ob Q:=by
 have e:fX []++args++fX []=args:=by simp[fX]
 refine dV (Ca (by rw[e];exact hS) hf (Ld f) hK hnd ha hk (by rintro _ _ ⟨rfl,rfl⟩ _;exact⟨by rw[hb];rfl,ok,hbk⟩)) hw ?_
 rintro _ _ ⟨l,r',v',os',ok',⟨rfl,rfl⟩,_,h,h9,rfl,rfl⟩
 obtain rfl:=qJ hbk h9
 rw[hb]at h
 injection h with h
 injection h with h1 h2
 subst h1 h2
 exact k
theorem nq {t e z by_ m:Nat}{zz:Value}{ti:Bool}{ts0:Nat}{z0:List Value}{a:Operand}{t2:TypeId}(k1:m=0→WL x ops rest (aH g d (.one (tv (.bool true)))) ob Q) (k2:WL x ops rest (aH g d (.one (tv (.bool false)))) ob Q) (hT:aR x.P ttab:=by exact aY) (ht:aF ttab t=some ⟨ti,ts0,z0,.sl e z by_ zz⟩:=by rfl) (ha:eH (lk x.n g a)=some m:=by rfl) (hw:aP ops x.n g gd=some true:=by rfl):
  WL x ops (⟨some d,.binOp .eql t a (.const (.slice none 0 0)) t2,ty,pos,af,gd⟩::rest) g ob Q:=
 dV (Ip hT ht ha) hw (by
  rintro _ _ ⟨q,h,rfl,rfl⟩
  cases q with
  | true=>exact k1 (h rfl)
  | false=>exact k2)
theorem clear {t e z by_ ky o n t' z':Nat}{zz:Value}{ti:Bool}{ts0:Nat}{z0:List Value}{l l':List AV}{a:Operand}(hle:o+n*z≤l.length) (hl:bM l o ((dC zz.cells.toList n).map tv)=l') (k:WL x ops rest g (ob.set ky (some ⟨t',z',l'⟩)) Q) (hT:aR x.P ttab:=by exact aY) (ht:aF ttab t=some ⟨ti,ts0,z0,.sl e z by_ zz⟩:=by rfl) (ha:lk x.n g a=.one (.sl ky o n):=by rfl) (ho:aZ ob ky=some ⟨t',z',l⟩:=by rfl) (hlo:bQ (zz.cells.toList.map tv)=true:=by rfl) (hw:aP ops x.n g gd=some true:=by rfl):
  WL x ops (⟨none,.call ⟨.builtin .clear, #[a], #[t]⟩,ty,pos,af,gd⟩::rest) g ob Q:=
 dV (Iq hT ht ha ho hle hlo) hw (by rintro _ _ ⟨rfl,rfl⟩;subst hl;exact k)
variable {late:Nat→Bool}{K fr:List Nat}{on:Bool}{fuel:Nat}{listed:Array Bool}
theorem lB {t:Nat}{ti:TI}{a:Operand}(i:Nat) (k:WD x ops Q late K (d::fr) true fuel (listed.setIfInBounds i true) (aH g d v) ob) (hT:aR x.P ttab:=by exact aY) (hi:ops[i]? =some ⟨some d,.load t a,ty,pos,af,gd⟩:=by rfl) (hw:aP ops x.n g gd=some true:=by rfl) (hti:aF ttab t=some ti:=by rfl) (h:lZ ob ti (lk x.n g a)=some (C,v):=by rfl):WO x ops Q late K fr true fuel listed i g ob:=
 If (v:=v) i hi rfl hw (Dd hT hti h) (by rintro _ _ ⟨rfl,rfl⟩;exact⟨rfl,fun _ _=>rfl⟩) (by rintro _ _ ⟨rfl,rfl⟩;exact k)
theorem Ir {m:Nat}(h0:x.c0.length=m) (τ:List Nat) (live:List (Nat×FV)) (os:List Ob) (hn:τ.Nodup) (ht:τ.take m=List.range m) (h1:kQ τ g live) (h2:dA τ ob τ os):Sub x g ob (cC live) (os.map some):=
 su τ (fun k hk=>by
  rw[h0]at hk
  have h3:=congrArg (·[k]?) ht
  simpa[List.getElem?_take,hk]using h3) live os hn h1 h2
end
end Go.Proofs.YteggpgndiajdpaaDoor
namespace Go.Proofs.YteggpgndiajdpaaDoor
open Go Go.ChangeShapes Go.WideShapes Go.ChangeAt Go.RowKit
def qK (w:World) (b:Nat):Prop:=b<w.heap.size
theorem Cc {P:Program}{f:FuncId}{args:List FV}{b:Bool}{us:List Value}{W:World}(h:aO true P f [] args (bJ (.one (tv (.bool b))))) (ha:bC W (qK W) [] args us):Calls P f us.toArray W (fun e W'=>e=.returned (.bool b)∧Below W.heap.size W W'):=by
 have h1:=h (qK W) W [] us ⟨Chg.refl _ _,by simp[aK,aA],by simp[aK,aA],by simp[aK,aA],fun q hq=>by
  simp at hq
  subst hq
  refine⟨⟨rfl,fun k o hk=>by simp[aK]at hk⟩,?_⟩
  exact eJ (fun _ _=>rfl) (fun b hb=>⟨⟨hb,by simp[aK,aA]⟩,hb⟩) .refl _ _ ha⟩
 refine h1.mono fun e W' hE=>?_
 obtain⟨v,lent',cs',r,ys,rfl,⟨_,rfl⟩,hl,_,hcl,_,hL⟩:=hE
 obtain rfl:lent'=[]:=List.eq_nil_of_length_eq_zero hl
 obtain rfl:cs'=[]:=List.eq_nil_of_length_eq_zero hcl
 refine⟨?_,⟨hL.chg.os,hL.chg.tape,hL.chg.output,hL.chg.size,fun k hk=>hL.chg.block k hk (by simp[aK,aA])⟩⟩
 have h2:=(Sh.off (hL.sh 0 rfl)).2
 obtain⟨z,rfl,rfl,h3⟩:=h2
 simp only[tv,CR,OR]at h3
 subst h3
 rfl
end Go.Proofs.YteggpgndiajdpaaDoor
namespace Go.Proofs.YteggpgndiajdpaaDoor
open Go Go.RowKit
def Cd (P:Program) (t n:Nat):Prop:=∃e,P.underlying t=some (.array n e)∧Ty1 P e
section
variable {P:Program}{w:World}{ρ:Operand→Value}{d:Option Nat}{ty:TypeId}{pos:String}{af:Array Edge}{gd:Option (Nat×Bool)}
theorem zD {t n:Nat}{z us:List Value}{parts:Array (Nat×Operand)}{ps:List (Nat×Value)}(hT:Cd P t n) (hZ:TyZ P t z) (hps:(parts.map fun x=>(x.1,ρ x.2))=ps.toArray) (hf:cZ (fun i=>some (i*1,1)) z ps=some us):
  (execOp ρ ⟨d,.build t parts,ty,pos,af,gd⟩).run P w=.ok (.value (.agg us.toArray)) w:=by
 obtain⟨e,e1,hu⟩:=hT
 obtain⟨dd,i',h8,h9,h10,h11⟩:=hu
 obtain⟨i,v,h3,h4,h5⟩:=hZ
 have hf':=lM _ ps z us hf
 simp only[Nat.mul_one]at hf'
 have hps':(parts.map fun(x:Nat×Operand)=>match x with | (i,x)=>(i,ρ x))=ps.toArray:=hps
 simp[execOp,Instr.build,zeroValue,sizeOf,typeInfo,h3,h4,run_underlying e1,hps',h5,h10,h11,hf']
end
def jY:List AV→List (Nat×FV)→Option (List AV)
 | l,[]=>some l
 | l,(i,.one a)::r=>match lone a&&Nat.blt i l.length with
  | true=>jY (l.set i a) r
  | false=>none
 | _,_=>none
section
variable {W:World}{N:Nat→Prop}{cs:List Co}
theorem vH {a:AV}{u:Value}(ha:AR W N cs a u):∀{l:List AV}{us:List Value}{p:Nat},ARL W N cs l us→ARL W N cs (l.set p a) (us.set p u)
 | [],us,p,h=>by
  simp only[ARL]at h
  subst h
  simp[ARL]
 | b::l,[],p,h=>by simp only[ARL]at h
 | b::l,z::us,0,h=>by
  simp only[ARL]at h
  simp only[List.set_cons_zero,ARL]
  exact⟨ha,h.2⟩
 | b::l,z::us,p+1,h=>by
  simp only[ARL]at h
  simp only[List.set_cons_succ,ARL]
  exact⟨h.1,vH ha h.2⟩
theorem vI:∀{ps:List (Nat×FV)}{vs:List (Nat×Value)}{l l':List AV}{us:List Value},ARL W N cs l us→jY l ps=some l'→ps.length=vs.length→
  (∀(j:Nat) (p:Nat×FV) (q:Nat×Value),ps[j]? =some p→vs[j]? =some q→p.1=q.1∧aD W N cs p.2 q.2)→∃us',ARL W N cs l' us'∧cZ (fun i=>some (i*1,1)) us vs=some us'
 | [],vs,l,l',us,hc,h,hl,_=>by
  obtain rfl:vs=[]:=List.eq_nil_of_length_eq_zero hl.symm
  simp only[jY,Option.some.injEq]at h
  subst h
  exact⟨us,hc,rfl⟩
 | (i,fv)::ps,vs,l,l',us,hc,h,hl,hp=>by
  obtain⟨⟨i',u⟩,vs,rfl⟩:∃q vs',vs=q::vs':=by
   cases vs with
   | nil=>simp at hl
   | cons q vs=>exact⟨q,vs,rfl⟩
  obtain⟨e0,h0⟩:=hp 0 _ _ rfl rfl
  dsimp only at e0 h0
  subst e0
  cases fv with
  | one a=>
   unfold jY at h
   cases hq:lone a&&Nat.blt i l.length with
   | false=>rw[hq]at h;cases h
   | true=>
    rw[hq]at h
    simp only[Bool.and_eq_true]at hq
    have hi:i<us.length:=by
     have h9:=hq.2
     rw[cF hc]
     simpa[Nat.blt,Nat.lt_iff_add_one_le]using h9
    have hu:u.cells.toList=[u]:=by rw[jP (cs:=cs) h0 hq.1]
    obtain⟨us',r1,r2⟩:=vI (us:=us.set i u) (vH h0 hc) h (by simpa using hl) (fun j p q h1 h2=>hp (j+1) p q (by simpa using h1) (by simpa using h2))
    refine⟨us',r1,?_⟩
    unfold cZ
    dsimp only
    have e2:fM us (i*1) u.cells.toList=us.set i u:=by
     rw[hu,Nat.mul_one]
     unfold fM
     rw[List.set_eq_take_append_cons_drop,if_pos hi]
     simp
    have e3:(Nat.beq u.cells.toList.length 1&&Nat.ble (i*1+u.cells.toList.length) us.length)=true:=by
     rw[hu]
     simp
     omega
    rw[e2,e3]
    exact r2
  | any=>simp[jY]at h
  | agg _=>simp[jY]at h
  | tup _=>simp[jY]at h
end
section
variable {x:Cx}{g g':Nat→FV}{ob ob':List (Option Ob)}{cs cs':List Co}{ts ts':Array Value}{W W':World}{T:List (Nat×TI)}{Q:cG}{ops:Array Oper}{rest:List Oper}{d:Nat}{op:Op}{ty:TypeId}{pos:String}{af:Array Edge}{gd:Option (Nat×Bool)}{v:FV}
theorem Lh {t n:Nat}{ti:Bool}{sz:Nat}{z:List Value}{kd:TK}{ps:Array (Nat×Operand)}{l:List AV}(hT:aR x.P T) (ht:aF T t=some ⟨ti,sz,z,kd⟩) (hA:Cd x.P t n) (h:jY (z.map tv) (ps.toList.map fun p=>(p.1,lk x.n g p.2))=some l):
  OS x ⟨some d,.build t ps,ty,pos,af,gd⟩ g ob [] (fun g' ob'=>g'=aH g d (.agg l)∧ob'=ob):=yM fun cs ts W hR=>by
 have hi:=aW hT ht
 obtain⟨us',h1,h2⟩:=vI (W:=W) (N:=x.fr W ob cs) (cs:=cs) (us:=z) (vs:=ps.toList.map fun p=>(p.1,Act.eval ⟨ts,[]⟩ p.2)) (eS z) h (by simp) (fun j p q hp hq=>by
  simp only[List.getElem?_map,Option.map_eq_some_iff]at hp hq
  obtain⟨a,ha,rfl⟩:=hp
  obtain⟨b,hb,rfl⟩:=hq
  rw[ha]at hb
  injection hb with hb
  subst hb
  exact⟨rfl,hR.lk _⟩)
 exact⟨.agg us'.toArray,fun W'=>zD hA hi.2.2.1 (ps:=ps.toList.map fun p=>(p.1,Act.eval ⟨ts,[]⟩ p.2)) (by apply Array.ext';simp only[Array.toList_map]) h2,us',rfl,h1⟩
theorem bA {t n:Nat}{ti:Bool}{sz:Nat}{z:List Value}{kd:TK}{ps:Array (Nat×Operand)}{l:List AV}(hA:Cd x.P t n) (k:WL x ops rest (aH g d (.agg l)) ob Q) (hT:aR x.P ttab:=by exact aY) (ht:aF ttab t=some ⟨ti,sz,z,kd⟩:=by rfl) (h:jY (z.map tv) (ps.toList.map fun p=>(p.1,lk x.n g p.2))=some l:=by rfl) (hw:aP ops x.n g gd=some true:=by rfl):
  WL x ops (⟨some d,.build t ps,ty,pos,af,gd⟩::rest) g ob Q:=dV (Lh hT ht hA h) hw (by rintro _ _ ⟨rfl,rfl⟩;exact k)
inductive PutL (K:List Nat):List AV→List AV→Prop
 | nil:PutL K [] []
 | sl {i k o n:Nat}{l l':List AV}(h:K[i]? =some k) (h':PutL K l l'):PutL K (.sl i o n::l) (.sl k o n::l')
variable {late:Nat→Bool}{K fr:List Nat}{on:Bool}{fuel:Nat}{listed:Array Bool}
theorem Dq {t key o t' z':Nat}{ti:TI}{a b:Operand}{l l' us:List AV}(i:Nat) (hl:bM l o us=l') (hle:o+us.length≤l.length) (k:WD x ops Q late K fr true fuel (listed.setIfInBounds i true) g (ob.set key (some ⟨t',z',l'⟩))) (hT:aR x.P ttab:=by exact aY) (hr:Region.ready .any ops listed=[i]:=by kernel_rfl) (hi:ops[i]? =some ⟨none,.store t a b,ty,pos,af,gd⟩:=by rfl) (hw:aP ops x.n g gd=some true:=by rfl) (hti:aF ttab t=some ti:=by rfl)
  (hlk:lk x.n g a=.one (.pt key o):=by rfl) (ho:aZ ob key=some ⟨t',z',l⟩:=by rfl) (hb:mN (lk x.n g b)=some us:=by rfl) (hlo:bQ us=true:=by rfl) (hsz:Nat.beq us.length ti.size=true:=by rfl) (hK:K.contains key=false:=by rfl):WD x ops Q late K fr true (fuel+1) listed g ob:=by
 have hne:∀j∈K,j≠key:=fun j hj e=>by
  subst e
  have:K.contains j=true:=by simpa using hj
  rw[hK]at this
  cases this
 refine Di i hr hi hw (nM (ty:=ty) (pos:=pos) (af:=af) (gd:=gd) hT hti hlk hb hlo hsz ho hle hl) true (fun _=>⟨rfl,fun j hj hm=>?_⟩) (fun _=>rfl) (fun _ g' ob' hR=>?_) fun g' ob' hR=>?_
 ·rw[List.mem_singleton]at hm
  exact hne j hj hm
 ·obtain⟨rfl,rfl⟩:=hR
  exact⟨fun _ _=>rfl,fun j hj=>List.getElem?_set_ne (fun e=>hne j hj e.symm)⟩
 obtain⟨rfl,rfl⟩:=hR
 exact k
end
section
variable {x:Cx}{g g':Nat→FV}{ob ob':List (Option Ob)}{cs cs':List Co}{ts ts':Array Value}{W W':World}{T:List (Nat×TI)}{Q:cG}{ops:Array Oper}{rest:List Oper}{d:Nat}{op:Op}{ty:TypeId}{pos:String}{af:Array Edge}{gd:Option (Nat×Bool)}{v:FV}
end
def aT (l:List Nat):ByteArray:=⟨(l.map UInt8.ofNat).toArray⟩
def aU (xs:List Nat):List Tr:=xs.map fun(n:Nat)=>.v (.int .u8 (n:Int))
section
variable {l l':List Nat}{i j:Nat}
theorem bF (l:List Nat):(aT l).size=l.length:=by simp[aT,ByteArray.size]
theorem fF (l:List Nat):(aT l).data.toList=l.map UInt8.ofNat:=rfl
theorem zE {a b:ByteArray}(h:a.data.toList=b.data.toList):a=b:=by
 cases a;cases b
 simp only at h
 rw[Array.toList_inj]at h
 rw[h]
theorem lC (l:List Nat) (i j:Nat):(aT l).extract i j=aT ((l.take j).drop i):=zE (by
 simp[aT,List.map_drop,List.map_take,List.extract_eq_drop_take',List.extract_eq_take_drop])
theorem lT (h:i<l.length) (h2:nth l i<256):((aT l).data[i]?.getD 0).toNat=nth l i:=by
 have e:(aT l).data[i]? =some (UInt8.ofNat (nth l i)):=by
  rw[←Array.getElem?_toList,fF,List.getElem?_map]
  simp[nth,h]
 rw[e]
 simp
 omega
theorem Is {a b:Nat}(ha:a<256) (hb:b<256) (h:UInt8.ofNat a=UInt8.ofNat b):a=b:=by
 have:=congrArg UInt8.toNat h
 simp at this
 omega
theorem It (h:Lim 256 l) (h':Lim 256 l'):aT l=aT l'↔l=l':=by
 refine⟨fun e=>?_,fun e=>by rw[e]⟩
 have e2:=congrArg (fun a:ByteArray=>a.data.toList) e
 simp only[fF]at e2
 induction l generalizing l' with
 | nil=>cases l' with
  | nil=>rfl
  | cons x l'=>simp at e2
 | cons x l ih=>cases l' with
  | nil=>simp at e2
  | cons y l'=>
   simp only[List.map_cons,List.cons.injEq]at e2
   rw[Is (h x (List.mem_cons_self ..)) (h' y (List.mem_cons_self ..)) e2.1,ih (fun z hz=>h z (List.mem_cons_of_mem _ hz)) (fun z hz=>h' z (List.mem_cons_of_mem _ hz)) (by unfold aT;rw[e2.2]) e2.2]
theorem xE (h:Lim 256 l) (h':Lim 256 l'):((aT l).toList==(aT l').toList)=decide (l=l'):=by
 rw[ByteArray.toList_eq,ByteArray.toList_eq,fF,fF,Bool.eq_iff_iff,decide_eq_true_eq,beq_iff_eq,←It h h']
 exact⟨fun e=>zE e,fun e=>by rw[←fF,←fF,e]⟩
theorem Fb (xs:List Nat):strOfNums (xs.map fun(n:Nat)=>(n:Int))=aT xs:=by simp[strOfNums,aT]
end
section
variable {x:Cx}{g:Nat→FV}{ob ob':List (Option Ob)}{cs:List Co}{ts:Array Value}{W:World}{T:List (Nat×TI)}{Q:cG}{ops:Array Oper}{rest:List Oper}{d:Nat}{ty:TypeId}{pos:String}{af:Array Edge}{gd:Option (Nat×Bool)}
theorem gG (xs:List Nat):(aU xs).length=xs.length:=by simp[aU]
theorem xF (xs:List Nat):dH ((aU xs).map .t)=true:=by
 induction xs with
 | nil=>rfl
 | cons x xs ih=>simpa[aU,dH,gR]using ih
theorem vJ (xs:List Nat):bQ ((aU xs).map .t)=true:=by
 induction xs with
 | nil=>rfl
 | cons x xs ih=>simpa[aU,bQ,lone]using ih
theorem zG {N:Nat→Prop}:∀{xs:List Nat}{us:List Value},ARL W N cs ((aU xs).map .t) us→us=xs.map fun(n:Nat)=>Value.int .u8 (n:Int)
 | [],us,h=>by simpa[aU,ARL]using h
 | x::xs,u::us,h=>by
  simp only[aU,List.map_cons,ARL,AR,FR]at h
  rw[h.1,zG (xs:=xs) h.2]
  rfl
 | x::xs,[],h=>by simp[aU,ARL]at h
theorem Iu (hT:aR x.P T){t t2 e by_ ts0:Nat}{zz:Value}{ti:Bool}{z0:List Value}{ie i2:TI}{a:Operand}{av:AV}{xs:List Nat}(ht:aF T t=some ⟨ti,ts0,z0,.sl e 1 by_ zz⟩) (he:aF T e=some ie) (hek:ie.kd=.it .u8) (h2:aF T t2=some i2) (h2k:i2.kd=.str)
  (ha:lk x.n g a=.one av) (hs:SrcA ob 1 av xs.length ((aU xs).map .t)):OS x ⟨some d,.convert t t2 a,ty,pos,af,gd⟩ g ob [] (fun g' ob'=>g'=aH g d (.one (tv (.string (aT xs))))∧ob'=ob):=by
 intro cs ts W hR K Q k
 have h1:=hR.lk a
 rw[ha]at h1
 obtain⟨A,c,us,eu,hrd,hus⟩:=hs.ok (xF xs) hR h1
 have hus:=zG hus
 subst hus
 have k1:=(aW hT ht).2.2.2.1
 have k2:=(aW hT he).2.2.2
 have k3:=(aW hT h2).2.2.2
 rw[hek]at k2
 rw[h2k]at k3
 obtain⟨_,q1,_,_⟩:=k1
 have hrun:(execOp (Act.eval ⟨ts,[]⟩) ⟨some d,.convert t t2 a,ty,pos,af,gd⟩).run x.P W=.ok (.value (.string (aT xs))) W:=by
  have hc:=run_convert_bytes_string (P:=x.P) W t t2 e A xs.length c q1 k2 k3
  have hb:(Conv.bytesToString (.slice A xs.length c)).run x.P W=.ok (.string (aT xs)) W:=by
   cases A with
   | none=>
    have hx:xs.length=0:=by
     rcases Nat.eq_zero_or_pos xs.length with h | h
     ·exact h
     obtain⟨ad,q,_⟩:=hrd.cell h
     cases q
    obtain rfl:=List.eq_nil_of_length_eq_zero hx
    simp[Conv.bytesToString,aT]
    rfl
   | some ad=>
    have hl:(loadCells ad xs.length).run x.P W=.ok ((xs.map fun(n:Nat)=>(n:Int)).map (Value.int .u8)).toArray W:=by
     have:=run_loadCells_list (P:=x.P) W ad ((xs.map fun(n:Nat)=>(n:Int)).map (Value.int .u8)) (fun j v hj=>by
      have hj2:=hj
      rw[List.map_map]at hj2
      have hlt:j<xs.length:=by
       have:=(List.getElem?_eq_some_iff.1 hj2).1
       simpa using this
      obtain⟨ad',q,_,q3⟩:=hrd.cell (by omega)
      injection q with q
      subst q
      exact q3 j v hj2)
     simpa using this
    rw[run_bytesToString W ad _ c _ hl,foldl_push_bytes,←Fb]
    simp[strOfNums]
  simp[execOp,eu,hc,hb]
 exact bP hrun (k _ _ _ _ _ ⟨rfl,rfl⟩ (hR.put d (v:=.one (tv (.string (aT xs)))) (dF (by simp[tv,AR,FR]))) (.put d _))
theorem Iv (hT:aR x.P T){t k n sz ts0:Nat}{ti:Bool}{z0:List Value}(ht:aF T t=some ⟨ti,ts0,z0,.ar n sz⟩) (hk:dE ob k=true) (hz:z0.length=n*sz) (hs:Nat.beq sz 0=false) (hn:n≤1000):OS x ⟨some d,.alloc t,ty,pos,af,gd⟩ g ob [] (fun g' ob2=>g'=aH g d (.one (.pt k 0))∧ob2=ob++[some ⟨t,sz,z0.map tv⟩]):=by
 obtain⟨j,v,h1,h2,h3⟩:=(aW hT ht).2.2.1
 have hk:=Nat.eq_of_beq_eq_true hk
 subst hk
 intro cs ts W hR K Q kk
 have hrun:(execOp (Act.eval ⟨ts,[]⟩) ⟨some d,.alloc t,ty,pos,af,gd⟩).run x.P W=.ok (.value (.pointer (some ⟨W.heap.size,0,none⟩))) (W.alloc (.cells z0.toArray t)):=by
  simp[execOp,Instr.alloc,zeroValue,typeInfo,h1,h2,newVar,newRow,h3]
 obtain⟨m1,m2⟩:=hR.made (t:=t) (z:=sz) (c:=n) (eS z0) (kO _) (by rw[hs];exact hz) (by unfold maxLen;omega)
 refine bP hrun (kk _ _ _ _ _ ⟨rfl,rfl⟩ (m1.put d ?_) ((m2 (some d)).then_put _))
 refine dF ?_
 simp only[AR]
 exact⟨W.heap.size,by rw[hR.len,dG],rfl⟩
theorem Ou (key:Nat){t n sz ts0:Nat}{ti:Bool}{z0:List Value}(kk:WL x ops rest (aH g d (.one (.pt key 0))) (ob++[some ⟨t,sz,z0.map tv⟩]) Q) (hT:aR x.P ttab:=by exact aY) (hw:aP ops x.n g gd=some true:=by rfl) (ht:aF ttab t=some ⟨ti,ts0,z0,.ar n sz⟩:=by rfl) (hk:dE ob key=true:=by rfl) (hz:z0.length=n*sz:=by rfl) (hs:Nat.beq sz 0=false:=by rfl) (hn:n≤1000:=by decide):WL x ops (⟨some d,.alloc t,ty,pos,af,gd⟩::rest) g ob Q:=
 dV (Iv hT ht hk hz hs hn) hw (by rintro _ _ ⟨rfl,rfl⟩;exact kk)
theorem Li {ta t e z by_ n m k d1 t' ts2:Nat}{zz:Value}{ti ti2:Bool}{ts0:Nat}{z0 z2:List Value}{s a:Operand}{av:AV}{l la:List AV}{ty1:TypeId}{pos1:String}{af1:Array Edge}{gd1:Option (Nat×Bool)}(j:Nat) (hd:DstA ob e z av n ob' l) (hr:dH la=true) (hlo:bQ la=true) (hla:la.length=m*z) (hbytes:(n+m)*by_≤140737488355328) (h63:n+m≤140737488355328)
  (kk:WL x ops rest (aH (aH g d1 .any) d (.one (.sl j 0 (n+m)))) (ob'++[some ⟨e,z,l++la⟩]) Q)
  (hT:aR x.P ttab:=by exact aY) (hta:aF ttab ta=some ⟨ti2,ts2,z2,.ar m z⟩:=by rfl) (ht:aF ttab t=some ⟨ti,ts0,z0,.sl e z by_ zz⟩:=by rfl) (hsl:lk x.n g s=.one (.pt k 0):=by rfl) (hob:aZ ob k=some ⟨t',z,la⟩:=by rfl) (ha:lk x.n (aH g d1 .any) a=.one av:=by rfl) (hj:dE ob j=true:=by rfl) (hd1:Nat.blt d1 x.n=true:=by rfl)
  (hw1:aP ops x.n g gd1=some true:=by rfl) (hw2:aP ops x.n (aH g d1 .any) gd=some true:=by rfl):
  WL x ops (⟨some d1,.slice ta s none none none,ty1,pos1,af1,gd1⟩::⟨some d,.call ⟨.builtin .append, #[a,.tmp d1], #[t,t]⟩,ty,pos,af,gd⟩::rest) g ob Q:=by
 intro ts W ⟨cs,hR⟩
 have hd1:d1<x.n:=by simpa using hd1
 have h1:=hR.lk s
 rw[hsl]at h1
 simp only[aD,aJ,AR]at h1
 obtain⟨b,hb,e1⟩:=h1
 have k1:=(aW hT hta).2.2.2
 obtain⟨ee,ii,q1,q2,q3⟩:=k1
 have hb0:(Instr.sliceBounds false m m none none none).run x.P W=.ok (0,m,m) W:=by
  simp[Instr.sliceBounds]
 have hrun:(execOp (Act.eval ⟨ts,[]⟩) ⟨some d1,.slice ta s none none none,ty1,pos1,af1,gd1⟩).run x.P W=.ok (.value (.slice (some ⟨b,0,none⟩) m m)) W:=by
  simp[execOp,e1,Instr.sliceAt,run_underlying q1,Instr.sureAddr,hb0,sizeOf,typeInfo,q2,Addr.add]
 refine rL (fB hw1 hR) (bP hrun ?_)
 have hR1:=hR.put d1 (v:=.any) (u:=.slice (some ⟨b,0,none⟩) m m) trivial
 obtain⟨Wr,h,_⟩:=vD (x:=x) (g:=aH g d1 .any) (E:=fun cs ts=>∃b,(co cs k).b=some b∧Act.eval ⟨ts,[]⟩ (.tmp d1)=.slice (some ⟨b,0,none⟩) m m) (d:=d) (ty:=ty) (pos:=pos) (af:=af) (gd:=gd) (b:=.tmp d1) hT ht ha hd (fun cs ts W hR ⟨b,hb,e⟩=>by
  have hk:=bI hob
  obtain⟨k1,_,k3⟩:=hR.blk hk hb
  have hcl:=hR.crl hk
  have h4:=gS hcl hr
  refine⟨_,m,_,e,⟨by rw[cF h4,hla],Nat.le_refl _,by omega,fun h0=>⟨_,rfl,hR.blkS hk b (by simp[aB,hb]),fun j u hj=>?_⟩⟩,h4⟩
  have h6:=gO k1 hj
  simpa using h6) hr hlo hj hbytes h63
 refine rL (fB hw2 hR1) (h cs _ W hR1 ⟨b,hb,?_⟩ _ _ fun g' ob' cs' ts' W' hr hR' _=>?_)
 ·have:d1<ts.size:=by rw[hR.sz];exact hd1
  simp[Act.eval,this]
 obtain⟨rfl,rfl⟩:=hr
 exact kk ts' W' ⟨cs',hR'⟩
theorem xG {late:Nat→Bool}{K fr:List Nat}{fuel:Nat}{listed:Array Bool}{t ky o t' z':Nat}{ti:TI}{a:Operand}{l:List AV}{v:AV}(i:Nat) (hx:l[o]? =some v) (k:WD x ops Q late K (d::fr) true fuel (listed.setIfInBounds i true) (aH g d (.one v)) ob) (hT:aR x.P ttab:=by exact aY) (hi:ops[i]? =some ⟨some d,.load t a,ty,pos,af,gd⟩:=by rfl) (hw:aP ops x.n g gd=some true:=by rfl) (hti:aF ttab t=some ti:=by rfl) (hlk:lk x.n g a=.one (.pt ky o):=by rfl) (ho:aZ ob ky=some ⟨t',z',l⟩:=by rfl) (ha:ti.agg=false:=by rfl) (hr:gR v=true:=by rfl):WO x ops Q late K fr true fuel listed i g ob:=
 If (v:=.one v) i hi rfl hw (Dd hT hti (by rw[hlk];exact yX ho hx ha hr)) (by rintro _ _ ⟨rfl,rfl⟩;exact⟨rfl,fun _ _=>rfl⟩) (by rintro _ _ ⟨rfl,rfl⟩;exact k)
theorem Ov {t t2 e by_ ts0:Nat}{zz:Value}{ti:Bool}{z0:List Value}{ie i2:TI}{a:Operand}{av:AV}{xs:List Nat}{m:Nat}(hs:SrcA ob 1 av m ((aU xs).map .t)) (hm:m=xs.length) (kk:WL x ops rest (aH g d (.one (tv (.string (aT xs))))) ob Q) (hT:aR x.P ttab:=by exact aY) (hw:aP ops x.n g gd=some true:=by rfl) (ht:aF ttab t=some ⟨ti,ts0,z0,.sl e 1 by_ zz⟩:=by rfl) (he:aF ttab e=some ie:=by rfl) (hek:ie.kd=.it .u8:=by rfl) (h2:aF ttab t2=some i2:=by rfl) (h2k:i2.kd=.str:=by rfl) (ha:lk x.n g a=.one av:=by rfl):WL x ops (⟨some d,.convert t t2 a,ty,pos,af,gd⟩::rest) g ob Q:=
 dV (Iu hT ht he hek h2 h2k ha (hm▸hs)) hw (by rintro _ _ ⟨rfl,rfl⟩;exact kk)
theorem fO (xs:List Nat){k:Nat}(h:k<xs.length):((aU xs).drop (k*1)).take [Tr.v (.int .u8 ((nth xs k:Nat):Int))].length=[Tr.v (.int .u8 ((nth xs k:Nat):Int))]:=by
 rw[Nat.mul_one]
 have:(aU xs)[k]? =some (Tr.v (.int .u8 ((nth xs k:Nat):Int))):=by simp[aU,aS h,h]
 rw[List.length_singleton,List.take_one]
 simp[this]
theorem qY (xs:List Nat){k:Nat}(h:k<xs.length):((aU xs).map AV.t)[0+k*1]? =some (tv (.int .u8 ((nth xs k:Nat):Int))):=by simp[aU,aS h,h,tv]
theorem lD (xs:List Nat){k v:Nat}(h:k<xs.length):bM ((aU xs).map AV.t) (0+k*1) [tv (.int .u8 (v:Int))]=(aU (xs.set k v)).map .t:=by
 rw[Nat.zero_add,Nat.mul_one,List.set_eq_take_append_cons_drop,if_pos h]
 simp[bM,aU,tv,List.map_take,List.map_drop]
theorem nU (xs:List Nat){k:Nat}{a:AV}(h:k<xs.length):0+k*1+[a].length≤((aU xs).map AV.t).length:=by simp[aU];omega
theorem Lj (xs:List Nat):((aU xs).map AV.t).take (xs.length*1)=(aU xs).map .t:=by rw[Nat.mul_one,List.take_of_length_le (by simp[gG])]
theorem xH (xs:List Nat):((aU xs).map AV.t).length=xs.length*1:=by simp[gG]
theorem sS (xs ys:List Nat):(aU xs).map AV.t++(aU ys).map .t=(aU (xs++ys)).map .t:=by simp[aU]
end
theorem iH {fresh:Bool}{x:Cx}{T:List (Nat×TI)}{rv:List ResultVar}{e:Exit}{g:Nat→FV}{ob:List (Option Ob)}{b b':Bool}(he:e=.ret∨e=.normal) (res:iL T x.n g ob rv=some [.one (tv (.bool b))]) (hb:b=b'):pA x T rv fresh [] (bJ (.one (tv (.bool b')))) e g ob:=en he res (eY (dX _)) (by decide) (fun _=>trivial) (by rw[hb];rfl)
theorem vK {b:Bool}(h:(!b)=false):b=true:=by cases b <;> simp_all
theorem Dr {b:Bool}(h:(!b)=true):b=false:=by cases b <;> simp_all
theorem nV {k:IntKind}{a b:Int}(h:a=b):some (FV.one (tv (.int k a)))=some (FV.one (tv (.int k b))):=by rw[h]
end Go.Proofs.YteggpgndiajdpaaDoor
