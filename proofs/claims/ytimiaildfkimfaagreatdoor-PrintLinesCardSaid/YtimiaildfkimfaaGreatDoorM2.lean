/- Part 2 of a proof: Av3 to Av9. -/
import Derived.Test.YtimiaildfkimfaaGreatDoorM1
set_option maxRecDepth 100000
set_option linter.unusedVariables false
set_option linter.unusedSimpArgs false
namespace Go.Proofs.YtimiaildfkimfaaGreatDoor
open Go Go.RowKit
inductive TK
 | st (fld:List (Nat×Nat×Nat))
 | sl (e sz by_:Nat) (z:Value)
 | it (k:IntKind)
 | bl
 | pt
 | str
 | ar (n sz:Nat)
 | ot
structure TI where
 agg:Bool
 size:Nat
 zero:List Value
 kd:TK
def Im (P:Program) (t:Nat):Nat->List (Nat×Nat×Nat)->Prop
 | _,[]=>True
 | i,(off,u,_)::l=>TyF P t i off/\TyFt P t i off u/\Im P t (i+1) l
def Af (P:Program) (t:Nat):TK->Prop
 | .st fld=>Im P t 0 fld/\TyPl P t (fld.map fun x=>(x.1,x.2.2))
 | .sl e sz by_ z=>TyS P t e sz/\IsEl P t e z sz by_
 | .it k=>TyI P t k
 | .bl=>TyB P t
 | .pt=>TyP P t
 | .str=>TyStr P t
 | .ar n sz=>TyArr P t n sz
 | .ot=>True
def XL (P:Program) (t:Nat) (n:Nat):Bool->Prop
 | true=>TyA P t n
 | false=>Ty1 P t/\n=1
def Yp (P:Program) (t:Nat) (i:TI):Prop:=XL P t i.size i.agg/\TyN P t i.size/\TyZ P t i.zero/\Af P t i.kd
def bX:List (Nat×TI)->Nat->Option TI
 | [],_=>none
 | (k,i)::l,t=>bif Nat.beq k t then some i else bX l t
def cH (P:Program):List (Nat×TI)->Prop
 | []=>True
 | x::l=>Yp P x.1 x.2/\cH P l
theorem dX {P:Program}:∀{T:List (Nat×TI)}{t:Nat}{i:TI},cH P T->bX T t=some i->Yp P t i
 | [],_,_,_,h=>by simp[bX]at h
 | (k,j)::l,t,i,hT,h=>by
  unfold bX at h
  cases hb:Nat.beq k t with
  | true=>
   rw[hb]at h
   have:=Nat.eq_of_beq_eq_true hb
   simp at h
   subst this;subst h
   exact hT.1
  | false=>
   rw[hb]at h
   exact dX hT.2 h
theorem Dy {P:Program}{t:Nat}:∀{l:List (Nat×Nat×Nat)}{i f off u sz:Nat},Im P t i l->l[f]? =some (off,u,sz)->TyF P t (i+f) off/\TyFt P t (i+f) off u
 | [],_,_,_,_,_,_,h=>by simp at h
 | (a,b,c)::l,i,0,off,u,sz,hT,h=>by
  simp at h
  obtain⟨rfl,rfl,rfl⟩:=h
  exact⟨hT.1,hT.2.1⟩
 | (a,b,c)::l,i,f+1,off,u,sz,hT,h=>by
  have:=Dy (f:=f) hT.2.2 (by simpa using h)
  rwa[show i+1+f=i+(f+1) by omega]at this
def tv (v:Value):AV:=.t (.v v)
def lk (n:Nat) (g:Nat->FV):Operand->FV
 | .tmp t=>bif Nat.blt t n then g t else .any
 | .const v=>match v with
  | .agg cs=>.agg (cs.toList.map tv)
  | v=>.one (tv v)
 | .func f=>.one (.t (.f f [] []))
 | .global _=>.any
section
variable {W:World}{N:Nat->Prop}{cs:List Co}
theorem pH:∀(us:List Value),ARL W N cs (us.map tv) us
 | []=>by simp[ARL]
 | u::us=>by
  simp only[List.map_cons,ARL]
  exact⟨by simp[tv,AR,FR],pH us⟩
theorem Vf:∀{l:List AV}{us:List Value}{j:Nat}{a:AV},ARL W N cs l us->l[j]? =some a->∃u,us[j]? =some u/\AR W N cs a u
 | [],_,_,_,_,h=>by simp at h
 | b::l,u::us,0,a,h,hj=>by
  simp only[ARL]at h
  simp at hj
  subst hj
  exact⟨u,rfl,h.1⟩
 | b::l,u::us,j+1,a,h,hj=>by
  simp only[ARL]at h
  simpa using Vf h.2 (j:=j) (by simpa using hj)
 | _::_,[],_,_,h,_=>by simp only[ARL]at h
theorem Ag:∀{l:List AV}{us:List Value}(j:Nat),ARL W N cs l us->ARL W N cs (l.drop j) (us.drop j)
 | [],us,j,h=>by
  simp only[ARL]at h
  subst h
  simp[ARL]
 | b::l,u::us,0,h=>h
 | b::l,u::us,j+1,h=>by
  simp only[ARL]at h
  simpa using Ag j h.2
 | _::_,[],_,h=>by simp only[ARL]at h
theorem vQ:∀{l:List AV}{us:List Value}(j:Nat),ARL W N cs l us->ARL W N cs (l.take j) (us.take j)
 | [],us,j,h=>by
  simp only[ARL]at h
  subst h
  simp[ARL]
 | b::l,u::us,0,h=>by simp[ARL]
 | b::l,u::us,j+1,h=>by
  simp only[ARL]at h
  simp only[List.take_succ_cons,ARL]
  exact⟨h.1,vQ j h.2⟩
 | _::_,[],_,h=>by simp only[ARL]at h
theorem Dz:∀{l l':List AV}{us us':List Value},ARL W N cs l us->ARL W N cs l' us'->ARL W N cs (l++l') (us++us')
 | [],l',us,us',h,h'=>by
  simp only[ARL]at h
  subst h
  simpa using h'
 | b::l,l',u::us,us',h,h'=>by
  simp only[ARL]at h
  simp only[List.cons_append,ARL]
  exact⟨h.1,Dz h.2 h'⟩
 | _::_,_,[],_,h,_=>by simp only[ARL]at h
theorem Vg:∀{l:List FV}{us:List Value}{j:Nat}{a:FV},dM W N cs l us->l[j]? =some a->∃u,us[j]? =some u/\cE W N cs a u
 | [],_,_,_,_,h=>by simp at h
 | b::l,u::us,0,a,h,hj=>by
  simp only[dM]at h
  simp at hj
  subst hj
  exact⟨u,rfl,h.1⟩
 | b::l,u::us,j+1,a,h,hj=>by
  simp only[dM]at h
  simpa using Vg h.2 (j:=j) (by simpa using hj)
 | _::_,[],_,_,h,_=>by simp only[dM]at h
end
section
variable {x:Cx}{g:Nat->FV}{ob:List (Option Ob)}{cs:List Co}{ts:Array Value}{W:World}
theorem RelC.lk (h:RelC x g ob cs ts W) (o:Operand):bV W (x.fr W ob cs) cs (lk x.n g o) (Act.eval ⟨ts,[]⟩ o):=by
 cases o with
 | tmp t=>
  simp only[Go.Proofs.YtimiaildfkimfaaGreatDoor.lk,Act.eval]
  cases hb:Nat.blt t x.n with
  | false=>simp[bV,cE]
  | true=>
   have ht:t<x.n:=by simpa[Nat.blt,Nat.lt_iff_add_one_le]using hb
   obtain⟨u,h1,h2⟩:=h.fv ht
   simp[h1]
   exact h2
 | const v=>
  cases v <;> simp only[Go.Proofs.YtimiaildfkimfaaGreatDoor.lk,Act.eval] <;> first
   | (simp[bV,cE,AR,FR,tv];done)
   | exact⟨_,by simp,pH _⟩
 | func f=>exact⟨[],[],rfl,by simp[FRL],by simp[FRL]⟩
 | global _=>simp[Go.Proofs.YtimiaildfkimfaaGreatDoor.lk,bV,cE]
end
def jU:IntKind->Int->Prop
 | .i8,z=>-128<=z/\z<=127
 | .i16,z=>-32768<=z/\z<=32767
 | .i32,z=>-2147483648<=z/\z<=2147483647
 | .i64,z=>-9223372036854775808<=z/\z<=9223372036854775807
 | .u8,z=>0<=z/\z<=255
 | .u16,z=>0<=z/\z<=65535
 | .u32,z=>0<=z/\z<=4294967295
 | .u64,z=>0<=z/\z<=18446744073709551615
theorem sF {k:IntKind}{z:Int}(h:jU k z):k.wrap z=z:=by
 cases k <;> simp only[jU]at h <;> simp[IntKind.wrap,IntKind.bits,IntKind.signed] <;> omega
def kq:IntKind->IntKind->Bool
 | .i8,.i8 | .i16,.i16 | .i32,.i32 | .i64,.i64 | .u8,.u8 | .u16,.u16 | .u32,.u32 | .u64,.u64=>true
 | _,_=>false
theorem Nz {a b:IntKind}(h:kq a b=true):a=b:=by cases a <;> cases b <;> simp[kq]at h <;> rfl
abbrev Ev:=Option (Prop×FV)
def ev (v:FV):Ev:=some (True,v)
def tS (C:Prop) (k:IntKind) (z:Int):Ev:=some (C,.one (tv (.int k z)))
def vR (q:Bool):Ev:=some (True,.one (tv (.bool q)))
def Mb:FV->Ev
 | .one a=>ev (.one a)
 | .agg l=>ev (.agg l)
 | .tup l=>ev (.tup l)
 | .any=>none
def Qo:FV->FV->FV->Ev
 | .one (.t (.v (.bool true))),a,_=>Mb a
 | .one (.t (.v (.bool false))),_,b=>Mb b
 | _,_,_=>none
def tk {β:Type}:Nat->List AV->(List AV->Option β)->Option β
 | 0,_,k=>k []
 | n+1,a::l,k=>tk n l fun r=>k (a::r)
 | _+1,[],_=>none
def dp {β:Type}:Nat->List AV->(List AV->Option β)->Option β
 | 0,l,k=>k l
 | n+1,_::l,k=>dp n l k
 | _+1,[],_=>none
theorem Ah {β:Type}:∀{n:Nat}{l:List AV}{k:List AV->Option β}{r:β},tk n l k=some r->n<=l.length/\k (l.take n)=some r
 | 0,l,k,r,h=>by simpa[tk]using h
 | n+1,a::l,k,r,h=>by
  have:=Ah (n:=n) (k:=fun r=>k (a::r)) (by simpa[tk]using h)
  simpa using this
 | n+1,[],k,r,h=>by simp[tk]at h
theorem Aj {β:Type}:∀{n:Nat}{l:List AV}{k:List AV->Option β}{r:β},dp n l k=some r->n<=l.length/\k (l.drop n)=some r
 | 0,l,k,r,h=>by simpa[dp]using h
 | n+1,a::l,k,r,h=>by
  have:=Aj (n:=n) (k:=k) (by simpa[dp]using h)
  simpa using this
 | n+1,[],k,r,h=>by simp[dp]at h
def HE (fld:List (Nat×Nat×Nat)) (f:Nat):FV->Ev
 | .one (.pt k o)=>match fld[f]? with
  | some (off,_,_)=>ev (.one (.pt k (o+off)))
  | none=>none
 | .one (.ef l o)=>match fld[f]? with
  | some (off,_,_)=>ev (.one (.ef l (o+off)))
  | none=>none
 | _=>none
def XM (off:Nat) (i:TI):FV->Ev
 | .agg l=>dp off l fun l=>match i.agg with
  | true=>tk i.size l fun r=>ev (.agg r)
  | false=>match l with
   | a::_=>ev (.one a)
   | []=>none
 | _=>none
def Oa (op:BinOp) (t:TK):FV->FV->Ev
 | .one (.t (.v (.int k a))),.one (.t (.v (.int k' b)))=>match kq k k' with
  | true=>match op with
   | .add=>tS (jU k (a+b)) k (a+b)
   | .sub=>tS (jU k (a-b)) k (a-b)
   | .mul=>tS (jU k (a*b)) k (a*b)
   | .quo=>tS (b≠0/\jU k (a.tdiv b)) k (a.tdiv b)
   | .rem=>tS (b≠0) k (a.tmod b)
   | .lss=>vR (decide (a<b))
   | .leq=>vR (decide (a<=b))
   | .gtr=>vR (decide (b<a))
   | .geq=>vR (decide (b<=a))
   | .eql=>vR (decide (a=b))
   | .neq=>vR (decide (a≠b))
   | .and=>tS True k (k.wrap (BitVec.ofInt k.bits a&&& BitVec.ofInt k.bits b).toNat)
   | .or=>tS True k (k.wrap (BitVec.ofInt k.bits a ||| BitVec.ofInt k.bits b).toNat)
   | .shr=>tS (0<=b) k (a.fdiv (2^(min b.toNat k.bits)))
   | .shl=>tS (0<=b) k (k.wrap (a*2^(min b.toNat k.bits)))
   | _=>none
  | false=>match op with
   | .shr=>tS (0<=b) k (a.fdiv (2^(min b.toNat k.bits)))
   | .shl=>tS (0<=b) k (k.wrap (a*2^(min b.toNat k.bits)))
   | _=>none
 | .one (.t (.v (.string a))),.one (.t (.v (.string b)))=>match op with
  | .add=>some (a.size+b.size<=9223372036854775807,.one (tv (.string (a++b))))
  | .eql=>vR (a.toList==b.toList)
  | .neq=>vR (!(a.toList==b.toList))
  | _=>none
 | .one (.t (.v (.bool p))),.one (.t (.v (.bool q)))=>match t with
  | .bl=>match op with
   | .eql=>vR (p==q)
   | .neq=>vR (p != q)
   | _=>none
  | _=>none
 | .one (.pt _ _),.one (.t (.v (.pointer none))) | .one (.ef _ _),.one (.t (.v (.pointer none)))=>match t with
  | .pt=>match op with
   | .eql=>vR false
   | .neq=>vR true
   | _=>none
  | _=>none
 | .one (.t (.v (.pointer none))),.one (.t (.v (.pointer none)))=>match t with
  | .pt=>match op with
   | .eql=>vR true
   | .neq=>vR false
   | _=>none
  | _=>none
 | _,_=>none
def HF (op:UnOp):FV->Ev
 | .one (.t (.v (.int k a)))=>match op with
  | .neg=>tS (jU k (0-a)) k (0-a)
  | _=>none
 | .one (.t (.v (.bool p)))=>match op with
  | .not=>vR (!p)
  | _=>none
 | _=>none
def Qp:TK->TK->FV->Ev
 | .it k0,.it k',.one (.t (.v (.int k a)))=>match kq k0 k with
  | true=>tS (jU k' a) k' a
  | false=>none
 | _,_,_=>none
def HH:FV->Ev
 | .one (.pt k o)=>ev (.one (.pt k o))
 | .one (.ef l o)=>ev (.one (.ef l o))
 | .one (.t (.p _ _ l))=>ev (.one (.ef l 0))
 | _=>none
def HI (i:Nat):FV->Ev
 | .tup l=>match l[i]? with
  | some v=>Mb v
  | none=>none
 | _=>none
def pA:FV->Option Nat
 | .one (.sl _ _ n)=>some n
 | .one (.t (.s _ _ _ n _))=>some n
 | .one (.t (.v (.slice none 0 0)))=>some 0
 | _=>none
def HJ (sz:Nat):FV->FV->Ev
 | .one (.sl k o n),.one (.t (.v (.int _ (.ofNat i))))=>some (i<n,.one (.pt k (o+i*sz)))
 | .one (.t (.s _ _ _ n l)),.one (.t (.v (.int _ (.ofNat i))))=>some (i<n,.one (.ef l (i*sz)))
 | _,_=>none
def Yq (n sz:Nat):FV->FV->Ev
 | .one (.pt k o),.one (.t (.v (.int _ (.ofNat i))))=>some (i<n,.one (.pt k (o+i*sz)))
 | _,_=>none
def HK:FV->FV->Ev
 | .one (.t (.v (.string a))),.one (.t (.v (.int _ (.ofNat i))))=>some (i<a.size,.one (tv (.int .u8 ((a.data[i]?.getD 0).toNat:Int))))
 | _,_=>none
def HM:FV->Option FV->Option FV->Ev
 | .one (.t (.v (.string a))),some (.one (.t (.v (.int _ (.ofNat i))))),none=>some (i<=a.size,.one (tv (.string (a.extract i a.size))))
 | .one (.t (.v (.string a))),none,some (.one (.t (.v (.int _ (.ofNat i)))))=>some (i<=a.size,.one (tv (.string (a.extract 0 i))))
 | .one (.t (.v (.string a))),some (.one (.t (.v (.int _ (.ofNat i))))),some (.one (.t (.v (.int _ (.ofNat j)))))=>some (i<=j/\j<=a.size,.one (tv (.string (a.extract i j))))
 | _,_,_=>none
def HP:FV->Ev
 | .one (.t (.v (.string a)))=>tS True .i64 (a.size:Int)
 | _=>none
def lone:AV->Bool
 | .t (.v (.agg _))=>false
 | .t (.v (.tuple _))=>false
 | .t (.a _)=>false
 | _=>true
def Kd (fld:List (Nat×Nat×Nat)):List AV->List (Nat×FV)->(List AV->Ev)->Ev
 | cells,[],k=>k cells
 | cells,(i,v)::rest,k=>match fld[i]?,v with
  | some (off,_,sz),.agg l=>match Nat.beq l.length sz with
   | true=>dp (off+sz) cells fun r=>tk off cells fun h=>Kd fld (h++l++r) rest k
   | false=>none
  | some (off,_,1),.one a=>match lone a with
   | true=>dp (off+1) cells fun r=>tk off cells fun h=>Kd fld (h++a::r) rest k
   | false=>none
  | _,_=>none
def all {β:Type}:List AV->(List AV->Option β)->Option β
 | [],k=>k []
 | a::l,k=>all l fun r=>k (a::r)
theorem In {β:Type}:∀{l:List AV}{k:List AV->Option β}{r:β},all l k=some r->k l=some r
 | [],k,r,h=>h
 | a::l,k,r,h=>In (k:=fun r=>k (a::r)) h
def wW:List AV->Option (List Tr)
 | []=>some []
 | .t x::l=>match wW l with
  | some r=>some (x::r)
  | none=>none
 | _=>none
def XN (f:Nat) (l l':List AV):AV:=match wW l,wW l' with
 | some r,some r'=>.t (.f f r r')
 | _,_=>.fn f l l'
def Vh (n:Nat) (g:Nat->FV):List Operand->Option (List AV)
 | []=>some []
 | o::l=>match lk n g o,Vh n g l with
  | .one a,some r=>some (a::r)
  | .agg c,some r=>match wW c with
   | some c'=>some (.t (.a c')::r)
   | none=>none
  | _,_=>none
def HR (sz:Nat):FV->Option FV->Option FV->Ev
 | .one (.t (.s o t z n l)),some (.one (.t (.v (.int _ (.ofNat i))))),none=>match Nat.beq z sz with
  | true=>some (i<=n,.one (.t (.s false t z (n-i) (l.drop (i*z)))))
  | false=>none
 | .one (.t (.s o t z n l)),none,some (.one (.t (.v (.int _ (.ofNat i)))))=>match Nat.beq z sz with
  | true=>some (i<=n,.one (.t (.s false t z i (l.take (i*z)))))
  | false=>none
 | .one (.sl k o n),some (.one (.t (.v (.int _ (.ofNat i))))),none=>some (i<=n/\0<sz,.one (.sl k (o+i*sz) (n-i)))
 | .one (.sl k o n),none,some (.one (.t (.v (.int _ (.ofNat i)))))=>some (i<=n,.one (.sl k o i))
 | _,_,_=>none
def Yr:FV->FV->Ev
 | .one (.t (.v (.int k a))),.one (.t (.v (.int k' b)))=>match kq k k' with
  | true=>tS True k (max a b)
  | false=>none
 | _,_=>none
def Ys:FV->FV->Ev
 | .one (.t (.v (.int k a))),.one (.t (.v (.int k' b)))=>match kq k k' with
  | true=>tS True k (min a b)
  | false=>none
 | _,_=>none
def yP (T:List (Nat×TI)) (n:Nat) (g:Nat->FV):Op->Ev
 | .move a=>Mb (lk n g a)
 | .assign a=>Mb (lk n g a)
 | .pick c a b=>Qo (lk n g c) (lk n g a) (lk n g b)
 | .fieldAddr t a f=>match bX T t with
  | some ⟨_,_,_,.st fld⟩=>HE fld f (lk n g a)
  | _=>none
 | .field t a f=>match bX T t with
  | some ⟨_,_,_,.st fld⟩=>match fld[f]? with
   | some (off,u,_)=>match bX T u with
    | some i=>XM off i (lk n g a)
    | none=>none
   | none=>none
  | _=>none
 | .nilCheck a=>HH (lk n g a)
 | .binOp op t a b _=>match bX T t with
  | some i=>Oa op i.kd (lk n g a) (lk n g b)
  | none=>Oa op .ot (lk n g a) (lk n g b)
 | .unOp op _ a=>HF op (lk n g a)
 | .convert s d a=>match bX T s,bX T d with
  | some i,some j=>Qp i.kd j.kd (lk n g a)
  | _,_=>none
 | .extract a i=>HI i (lk n g a)
 | .indexAddr t a i=>match bX T t with
  | some ⟨_,_,_,.sl _ sz _ _⟩=>HJ sz (lk n g a) (lk n g i)
  | some ⟨_,_,_,.ar c sz⟩=>Yq c sz (lk n g a) (lk n g i)
  | _=>none
 | .index t a i=>match bX T t with
  | some ⟨_,_,_,.str⟩=>HK (lk n g a) (lk n g i)
  | _=>none
 | .build t ps=>match bX T t with
  | some ⟨_,_,z,.st fld⟩=>Kd fld (z.map tv) (ps.toList.map fun p=>(p.1,lk n g p.2)) fun l=>all l fun l=>ev (.agg l)
  | _=>none
 | .makeFunc (.func f) a b=>match Vh n g a.toList,Vh n g b.toList with
  | some l,some l'=>ev (.one (XN f l l'))
  | _,_=>none
 | .slice t a lo hi none=>match bX T t with
  | some ⟨_,_,_,.sl _ sz _ _⟩=>HR sz (lk n g a) (lo.map (lk n g)) (hi.map (lk n g))
  | some ⟨_,_,_,.str⟩=>HM (lk n g a) (lo.map (lk n g)) (hi.map (lk n g))
  | _=>none
 | .call ⟨.builtin .max,⟨[a,b]⟩,_⟩=>Yr (lk n g a) (lk n g b)
 | .call ⟨.builtin .min,⟨[a,b]⟩,_⟩=>Ys (lk n g a) (lk n g b)
 | .call ⟨.builtin .len,⟨[a]⟩,⟨[t]⟩⟩=>match bX T t with
  | some ⟨_,_,_,.sl _ _ _ _⟩=>match pA (lk n g a)with
   | some m=>tS True .i64 (m:Int)
   | none=>none
  | some ⟨_,_,_,.str⟩=>HP (lk n g a)
  | _=>none
 | _=>none
section
variable {W:World}{N:Nat->Prop}{cs:List Co}{P:Program}{ρ:Operand->Value}{d:Option Tmp}{ty:TypeId}{pos:String}{af:Array Edge}{gd:Option (Nat×Bool)}{C:Prop}{v:FV}
def pI (P:Program) (W:World) (N:Nat->Prop) (cs:List Co) (ρ:Operand->Value) (o:Oper) (v:FV):Prop:=∃u,(∀W',(execOp ρ o).run P W'=.ok (.value u) W')/\bV W N cs v u
theorem pr {C D:Prop}{v w:FV}(h:(some (C,v):Ev)=some (D,w)):C=D/\v=w:=by
 injection h with h
 injection h with h1 h2
 exact⟨h1,h2⟩
theorem Cj {a:FV}(h:Mb a=some (C,v)):v=a/\C=True:=by
 cases a with
 | any=>cases h
 | one a=>exact⟨(pr h).2.symm,(pr h).1.symm⟩
 | agg a=>exact⟨(pr h).2.symm,(pr h).1.symm⟩
 | tup a=>exact⟨(pr h).2.symm,(pr h).1.symm⟩
theorem jX {a:AV}{u:Value}(h:AR W N cs a u):bV W N cs (.one a) u:=h
theorem bE {x u:Value}(h:bV W N cs (.one (tv x)) u):u=x:=by simpa[bV,cE,tv,AR,FR]using h
theorem eA (x:Value):bV W N cs (.one (tv x)) x:=by simp[bV,cE,tv,AR,FR]
theorem gH {x:FV}{u:Value}(h:cE W N cs x u):bV W N cs x u:=by
 cases x <;> simp only[cE]at h <;> first | exact h | trivial | exact h.elim
variable {x y z:Operand}{a b c:FV}
theorem XO (hx:bV W N cs a (ρ x)) (h:Mb a=some (C,v)):pI P W N cs ρ ⟨d,.move x,ty,pos,af,gd⟩ v:=by
 obtain⟨rfl,rfl⟩:=Cj h
 exact⟨_,fun W'=>MA rfl,hx⟩
theorem HS (hx:bV W N cs a (ρ x)) (h:Mb a=some (C,v)):pI P W N cs ρ ⟨d,.assign x,ty,pos,af,gd⟩ v:=by
 obtain⟨rfl,rfl⟩:=Cj h
 exact⟨_,fun W'=>AB rfl,hx⟩
theorem XP (hx:bV W N cs a (ρ x)) (hy:bV W N cs b (ρ y)) (hz:bV W N cs c (ρ z)) (h:Qo a b c=some (C,v)):pI P W N cs ρ ⟨d,.pick x y z,ty,pos,af,gd⟩ v:=by
 unfold Qo at h
 split at h
 ·obtain⟨rfl,rfl⟩:=Cj h
  exact⟨_,fun W'=>Tv (bE hx) (if_pos rfl),hy⟩
 ·obtain⟨rfl,rfl⟩:=Cj h
  exact⟨_,fun W'=>Tv (bE hx) (if_neg (by simp)),hz⟩
 cases h
theorem aCH (hx:bV W N cs a (ρ x)) (h:HH a=some (C,v)):pI P W N cs ρ ⟨d,.nilCheck x,ty,pos,af,gd⟩ v:=by
 unfold HH at h
 split at h
 ·obtain⟨rfl,rfl⟩:=pr h
  have h2:=hx
  simp only[bV,cE,AR]at h2
  obtain⟨b,_,e⟩:=h2
  exact⟨_,fun W'=>(xD e),by rw[<-e];exact hx⟩
 ·obtain⟨rfl,rfl⟩:=pr h
  have h2:=hx
  simp only[bV,cE,AR]at h2
  obtain⟨ad,_,_,e⟩:=h2
  exact⟨_,fun W'=>(xD e),by rw[<-e];exact hx⟩
 ·obtain⟨rfl,rfl⟩:=pr h
  simp only[bV,cE,AR,FR]at hx
  obtain⟨ad,e,hN,hc⟩:=hx
  exact⟨_,fun W'=>(xD e),ad,hN,hc,by rw[Gx]⟩
 cases h
theorem Tf {t f:Nat}{fld:List (Nat×Nat×Nat)}(hT:Im P t 0 fld) (hx:bV W N cs a (ρ x)) (h:HE fld f a=some (C,v)):pI P W N cs ρ ⟨d,.fieldAddr t x f,ty,pos,af,gd⟩ v:=by
 unfold HE at h
 split at h
 ·split at h
  ·rename_i hf
   obtain⟨rfl,rfl⟩:=pr h
   have hg:=(Dy hT hf).1
   rw[Nat.zero_add]at hg
   simp only[bV,cE,AR]at hx
   obtain⟨b,hb,e⟩:=hx
   exact⟨_,fun W'=>Ok hg e,b,hb,rfl⟩
  cases h
 ·split at h
  ·rename_i hf
   obtain⟨rfl,rfl⟩:=pr h
   have hg:=(Dy hT hf).1
   rw[Nat.zero_add]at hg
   simp only[bV,cE,AR]at hx
   obtain⟨ad,hb,hr,e⟩:=hx
   exact⟨_,fun W'=>My hg e,ad,hb,hr,rfl⟩
  cases h
 cases h
theorem PG {t f off u sz:Nat}{i:TI}{fld:List (Nat×Nat×Nat)}(hT:Im P t 0 fld) (hf:fld[f]? =some (off,u,sz)) (hu:XL P u i.size i.agg) (hx:bV W N cs a (ρ x)) (h:XM off i a=some (C,v)):pI P W N cs ρ ⟨d,.field t x f,ty,pos,af,gd⟩ v:=by
 have hg:=(Dy hT hf).2
 rw[Nat.zero_add]at hg
 unfold XM at h
 split at h
 ·rename_i l
  obtain⟨h1,h2⟩:=Aj h
  obtain⟨us,e,hl⟩:=hx
  split at h2
  ·rename_i ha
   obtain⟨h3,h4⟩:=Ah h2
   obtain⟨rfl,rfl⟩:=pr h4
   rw[ha]at hu
   exact⟨_,fun W'=>AD hg hu e rfl,_,rfl,vQ _ (Ag _ hl)⟩
  rename_i ha
  split at h2
  ·rename_i b r hb
   obtain⟨rfl,rfl⟩:=pr h2
   rw[ha]at hu
   have hj:l[off]? =some b:=by
    have:=congrArg (·[0]?) hb
    simpa using this
   obtain⟨u',hu',hr⟩:=Vf hl hj
   exact⟨_,fun W'=>AC hg hu.1 e hu',hr⟩
  cases h2
 cases h
theorem CX {i:Nat}(hx:bV W N cs a (ρ x)) (h:HI i a=some (C,v)):pI P W N cs ρ ⟨d,.extract x i,ty,pos,af,gd⟩ v:=by
 unfold HI at h
 split at h
 ·split at h
  ·rename_i hv
   obtain⟨rfl,rfl⟩:=Cj h
   obtain⟨us,e,hl⟩:=hx
   obtain⟨u,hu,hr⟩:=Vg hl hv
   exact⟨u,fun W'=>Xh e hu,gH hr⟩
  cases h
 cases h
theorem XQ {t t2:Nat}{k1 k2:TK}(h1:Af P t k1) (h2:Af P t2 k2) (hx:bV W N cs a (ρ x)) (h:Qp k1 k2 a=some (C,v)) (hC:C):pI P W N cs ρ ⟨d,.convert t t2 x,ty,pos,af,gd⟩ v:=by
 unfold Qp at h
 split at h
 ·split at h
  ·rename_i hk
   have hk:=Nz hk
   subst hk
   obtain⟨rfl,rfl⟩:=pr h
   exact⟨_,fun W'=>MD h1 h2 (bE hx) (sF hC),eA _⟩
  cases h
 cases h
theorem aCI {t:Nat}{op:UnOp}(hx:bV W N cs a (ρ x)) (h:HF op a=some (C,v)) (hC:C):pI P W N cs ρ ⟨d,.unOp op t x,ty,pos,af,gd⟩ v:=by
 unfold HF at h
 split at h
 ·split at h
  ·obtain⟨rfl,rfl⟩:=pr h
   exact⟨_,fun W'=>SC (bE hx) (sF hC),eA _⟩
  cases h
 ·split at h
  ·obtain⟨rfl,rfl⟩:=pr h
   exact⟨_,fun W'=>SB (bE hx) rfl,eA _⟩
  cases h
 cases h
theorem LC {t t2:Nat}{op:BinOp}{k:TK}(hk:Af P t k) (hx:bV W N cs a (ρ x)) (hy:bV W N cs b (ρ y)) (h:Oa op k a b=some (C,v)) (hC:C):pI P W N cs ρ ⟨d,.binOp op t x y t2,ty,pos,af,gd⟩ v:=by
 unfold Oa at h
 split at h
 ·split at h
  ·rename_i hq
   have hq:=Nz hq
   subst hq
   cases op <;> first | (cases h;done) | skip
   all_goals obtain⟨rfl,rfl⟩:=pr h
   ·exact⟨_,fun W'=>RP (bE hx) (bE hy) (sF hC),eA _⟩
   ·exact⟨_,fun W'=>RQ (bE hx) (bE hy) (sF hC),eA _⟩
   ·exact⟨_,fun W'=>RR (bE hx) (bE hy) (sF hC),eA _⟩
   ·exact⟨_,fun W'=>RS (bE hx) (bE hy) hC.1 (sF hC.2),eA _⟩
   ·exact⟨_,fun W'=>RT (bE hx) (bE hy) hC rfl,eA _⟩
   ·exact⟨_,fun W'=>SE (bE hx) (bE hy),eA _⟩
   ·exact⟨_,fun W'=>ZU (bE hx) (bE hy),eA _⟩
   ·exact⟨_,fun W'=>AI (bE hx) (bE hy) hC,eA _⟩
   ·exact⟨_,fun W'=>AH (bE hx) (bE hy) hC,eA _⟩
   ·exact⟨_,fun W'=>RZ (bE hx) (bE hy) rfl,eA _⟩
   ·exact⟨_,fun W'=>(SA (bE hx) (bE hy) rfl),by first | exact eA _ | (simp only[decide_not];exact eA _) | (rw[decide_not];exact eA _)⟩
   ·exact⟨_,fun W'=>RU (bE hx) (bE hy) rfl,eA _⟩
   ·exact⟨_,fun W'=>RW (bE hx) (bE hy) rfl,eA _⟩
   ·exact⟨_,fun W'=>RX (bE hx) (bE hy) rfl,eA _⟩
   exact⟨_,fun W'=>RY (bE hx) (bE hy) rfl,eA _⟩
  cases op <;> first | (cases h;done) | skip
  all_goals obtain⟨rfl,rfl⟩:=pr h
  ·exact⟨_,fun W'=>AI (bE hx) (bE hy) hC,eA _⟩
  exact⟨_,fun W'=>AH (bE hx) (bE hy) hC,eA _⟩
 ·cases op <;> first | (cases h;done) | skip
  all_goals obtain⟨rfl,rfl⟩:=pr h
  ·exact⟨_,fun W'=>MG (bE hx) (bE hy) hC,eA _⟩
  ·exact⟨_,fun W'=>MH (bE hx) (bE hy),eA _⟩
  exact⟨_,fun W'=>MI (bE hx) (bE hy),eA _⟩
 ·split at h
  ·cases op <;> first | (cases h;done) | skip
   all_goals obtain⟨rfl,rfl⟩:=pr h
   ·exact⟨_,fun W'=>MB hk (bE hx) (bE hy) rfl,eA _⟩
   exact⟨_,fun W'=>MC hk (bE hx) (bE hy) rfl,eA _⟩
  cases h
 ·have e2:=bE hy
  simp only[bV,cE,AR]at hx
  obtain⟨b0,_,e1⟩:=hx
  split at h
  ·cases op <;> first | (cases h;done) | skip
   all_goals obtain⟨rfl,rfl⟩:=pr h
   ·exact⟨_,fun W'=>Fh hk e1 e2,eA _⟩
   exact⟨_,fun W'=>Fi hk e1 e2,eA _⟩
  cases h
 ·have e2:=bE hy
  simp only[bV,cE,AR]at hx
  obtain⟨ad,_,_,e1⟩:=hx
  split at h
  ·cases op <;> first | (cases h;done) | skip
   all_goals obtain⟨rfl,rfl⟩:=pr h
   ·exact⟨_,fun W'=>Fh hk e1 e2,eA _⟩
   exact⟨_,fun W'=>Fi hk e1 e2,eA _⟩
  cases h
 ·split at h
  ·cases op <;> first | (cases h;done) | skip
   all_goals obtain⟨rfl,rfl⟩:=pr h
   ·exact⟨_,fun W'=>Fh hk (bE hx) (bE hy),eA _⟩
   exact⟨_,fun W'=>Fi hk (bE hx) (bE hy),eA _⟩
  cases h
 cases h
theorem aBn {t n' sz:Nat}(hk:TyArr P t n' sz) (hx:bV W N cs a (ρ x)) (hy:bV W N cs b (ρ y)) (h:Yq n' sz a b=some (C,v)) (hC:C):pI P W N cs ρ ⟨d,.indexAddr t x y,ty,pos,af,gd⟩ v:=by
 unfold Yq at h
 split at h
 ·rename_i k o kk i
  obtain⟨rfl,rfl⟩:=pr h
  have e2:=bE (x:=.int kk (.ofNat i)) hy
  simp only[bV,cE,AR]at hx
  obtain⟨b0,hb,e1⟩:=hx
  refine⟨_,fun W'=>SF (i:=i) hk e1 e2 hC,jX ?_⟩
  simp only[AR]
  exact⟨b0,hb,by rw[kM]⟩
 cases h
theorem aCJ {t:Nat}(hk:TyStr P t) (hx:bV W N cs a (ρ x)) (hy:bV W N cs b (ρ y)) (h:HK a b=some (C,v)) (hC:C):pI P W N cs ρ ⟨d,.index t x y,ty,pos,af,gd⟩ v:=by
 unfold HK at h
 split at h
 ·rename_i s kk i
  obtain⟨rfl,rfl⟩:=pr h
  have e2:=bE (x:=.int kk (.ofNat i)) hy
  have hi:s[i]? =some (s.data[i]?.getD 0):=by
   have h1:i<s.data.size:=hC
   have h2:s[i]? =some s[i]:=getElem?_pos s i hC
   rw[h2,Array.getElem?_eq_getElem h1]
   rfl
  exact⟨_,fun W'=>MK (i:=i) hk (bE hx) e2 hi,eA _⟩
 cases h
theorem aCK {t:Nat}{lo hi:Option Operand}(hk:TyStr P t) (hx:bV W N cs a (ρ x)){n:Nat}{g:Nat->FV}(hlk:∀o,bV W N cs (lk n g o) (ρ o)) (h:HM a (lo.map (lk n g)) (hi.map (lk n g))=some (C,v)) (hC:C):pI P W N cs ρ ⟨d,.slice t x lo hi none,ty,pos,af,gd⟩ v:=by
 unfold HM at h
 split at h
 ·rename_i s kk i h1 h2
  obtain⟨rfl,rfl⟩:=pr h
  cases lo <;> simp at h1
  cases hi <;> simp at h2
  have e1:=hlk ‹_›
  rw[h1]at e1
  exact⟨_,fun W'=>FK (i:=i) hk (bE hx) (bE (x:=.int kk (.ofNat i)) e1) hC,eA _⟩
 ·rename_i s kk i h1 h2
  obtain⟨rfl,rfl⟩:=pr h
  cases lo <;> simp at h1
  cases hi <;> simp at h2
  have e1:=hlk ‹_›
  rw[h2]at e1
  exact⟨_,fun W'=>FL (i:=i) hk (bE hx) (bE (x:=.int kk (.ofNat i)) e1) hC,eA _⟩
 ·rename_i s kk i kk' j h1 h2
  obtain⟨rfl,rfl⟩:=pr h
  cases lo with
  | none=>simp at h1
  | some o1=>
   cases hi with
   | none=>simp at h2
   | some o2=>
    simp at h1 h2
    have e1:=hlk o1
    have e2:=hlk o2
    rw[h1]at e1
    rw[h2]at e2
    exact⟨_,fun W'=>ML (i:=i) (j:=j) hk (bE hx) (bE (x:=.int kk (.ofNat i)) e1) (bE (x:=.int kk' (.ofNat j)) e2) hC.1 hC.2,eA _⟩
 cases h
theorem aCL {t:Nat}(hk:TyStr P t) (hx:bV W N cs a (ρ x)) (h:HP a=some (C,v)):pI P W N cs ρ ⟨d,.call ⟨.builtin .len,⟨[x]⟩,⟨[t]⟩⟩,ty,pos,af,gd⟩ v:=by
 unfold HP at h
 split at h
 ·obtain⟨rfl,rfl⟩:=pr h
  exact⟨_,fun W'=>MJ hk (bE hx),eA _⟩
 cases h
theorem aCM {t e sz by_:Nat}{zz:Value}(hk:Af P t (.sl e sz by_ zz)) (hx:bV W N cs a (ρ x)) (hy:bV W N cs b (ρ y)) (h:HJ sz a b=some (C,v)) (hC:C):pI P W N cs ρ ⟨d,.indexAddr t x y,ty,pos,af,gd⟩ v:=by
 unfold HJ at h
 split at h
 ·rename_i k o n kk i
  obtain⟨rfl,rfl⟩:=pr h
  have e2:=bE (x:=.int kk (.ofNat i)) hy
  simp only[bV,cE,AR]at hx
  replace hx:=hx.2
  cases hb:(co cs k).b with
  | none=>
   rw[hb]at hx
   simp at hx
   omega
  | some b0=>
   rw[hb]at hx
   obtain⟨o',c,e1,h1,h2,h3,h4⟩:=hx
   obtain rfl:=h3 (.inl (by omega))
   refine⟨_,fun W'=>Az (k:=i) hk.1 e1 rfl e2 hC,?_⟩
   refine jX ?_
   simp only[AR]
   exact⟨b0,hb,by rw[kM]⟩
 ·rename_i n l kk i
  obtain⟨rfl,rfl⟩:=pr h
  have e2:=bE (x:=.int kk (.ofNat i)) hy
  simp only[bV,cE,AR,FR]at hx
  obtain⟨A,c,e1,h1,h2,h3,h4⟩:=hx
  rcases h4 with h4 | ⟨ad,rfl,h5,h6⟩
  ·omega
  exact⟨_,fun W'=>Az (k:=i) hk.1 e1 rfl e2 hC,ad,h5,h6,rfl⟩
 cases h
theorem Vi {m:Nat}{u:Value}(hx:bV W N cs a u) (h:pA a=some m):∃A c,u=.slice A m c:=by
 unfold pA at h
 split at h
 ·rename_i k o n
  simp at h
  subst h
  simp only[bV,cE,AR]at hx
  replace hx:=hx.2
  cases hb:(co cs k).b with
  | none=>
   rw[hb]at hx
   obtain⟨rfl,_,e⟩:=hx
   exact⟨_,_,e⟩
  | some b0=>
   rw[hb]at hx
   obtain⟨_,c,e,_⟩:=hx
   exact⟨_,_,e⟩
 ·simp at h
  subst h
  simp only[bV,cE,AR,FR]at hx
  obtain⟨A,c,e1,_⟩:=hx
  exact⟨A,c,e1⟩
 ·simp at h
  subst h
  exact⟨_,_,bE hx⟩
 cases h
theorem Ch {ad:Addr}:∀{trs:List Tr}{i:Nat},(∀(j:Nat) (y:Tr),trs[j]? =some y->∃u,W.cell? (ad.add (i+j))=some u/\FR W N y u)->FRc W N ad i trs
 | [],i,_=>by simp[FRc]
 | y::trs,i,h=>by
  simp only[FRc]
  refine⟨by simpa using h 0 y rfl,Ch fun j z hj=>?_⟩
  have:=h (j+1) z (by simpa using hj)
  rwa[show i+(j+1)=i+1+j by omega]at this
theorem HU {ad:Addr}{l:List Tr}(k:Nat) (h:FRc W N ad 0 l):FRc W N (ad.add k) 0 (l.drop k):=Ch fun j y hj=>by
 rw[List.getElem?_drop]at hj
 obtain⟨u,h1,h2⟩:=rP h hj
 exact⟨u,by rw[De];simpa using h1,h2⟩
theorem HV {ad:Addr}{l:List Tr}(k:Nat) (h:FRc W N ad 0 l):FRc W N ad 0 (l.take k):=Ch fun j y hj=>by
 rw[List.getElem?_take]at hj
 split at hj
 ·exact rP h hj
 cases hj
theorem PH {t e sz by_:Nat}{zz:Value}{lo hi:Option Operand}(hk:Af P t (.sl e sz by_ zz)) (hx:bV W N cs a (ρ x)){n:Nat}{g:Nat->FV}(hlk:∀o,bV W N cs (lk n g o) (ρ o)) (h:HR sz a (lo.map (lk n g)) (hi.map (lk n g))=some (C,v)) (hC:C):pI P W N cs ρ ⟨d,.slice t x lo hi none,ty,pos,af,gd⟩ v:=by
 unfold HR at h
 split at h
 ·rename_i o t' z m l kk i h1 h2
  split at h
  ·rename_i hz
   have hz:=Nat.eq_of_beq_eq_true hz
   subst hz
   obtain⟨rfl,rfl⟩:=pr h
   obtain⟨lo',rfl,e1⟩:=Option.map_eq_some_iff.1 h1
   obtain rfl:hi=none:=by cases hi <;> simp at h2 <;> rfl
   have e2:=hlk lo'
   rw[e1]at e2
   have e2:=bE (x:=.int kk (.ofNat i)) e2
   simp only[bV,cE,AR,FR]at hx
   obtain⟨A,c,e3,h3,h4,h5,h6⟩:=hx
   refine⟨_,fun W'=>zE (k:=i) hk.1 e3 e2 hC h3,?_⟩
   simp only[bV,cE,AR,FR]
   refine⟨_,_,rfl,by omega,by omega,by rw[List.length_drop,h5,Nat.sub_mul],?_⟩
   rcases Nat.eq_zero_or_pos (m-i)with h0 | h0
   ·exact .inl h0
   rcases h6 with h6 | ⟨ad,rfl,h7,h8⟩
   ·omega
   rw[if_neg (by omega)]
   exact .inr ⟨ad.add (i*z),rfl,by rw[mR];exact h7,HU _ h8⟩
  cases h
 ·rename_i o t' z m l kk i h1 h2
  split at h
  ·rename_i hz
   have hz:=Nat.eq_of_beq_eq_true hz
   subst hz
   obtain⟨rfl,rfl⟩:=pr h
   obtain⟨hi',rfl,e1⟩:=Option.map_eq_some_iff.1 h2
   obtain rfl:lo=none:=by cases lo <;> simp at h1 <;> rfl
   have e2:=hlk hi'
   rw[e1]at e2
   have e2:=bE (x:=.int kk (.ofNat i)) e2
   simp only[bV,cE,AR,FR]at hx
   obtain⟨A,c,e3,h3,h4,h5,h6⟩:=hx
   refine⟨_,fun W'=>zG (k:=i) hk.1 e3 e2 (Nat.le_trans hC h3),?_⟩
   simp only[bV,cE,AR,FR]
   refine⟨_,_,rfl,Nat.le_trans hC h3,h4,by rw[dU,h5,Nat.min_eq_left (Nat.mul_le_mul_right _ hC)],?_⟩
   rcases Nat.eq_zero_or_pos i with h0 | h0
   ·exact .inl h0
   rcases h6 with h6 | ⟨ad,rfl,h7,h8⟩
   ·omega
   exact .inr ⟨ad,rfl,h7,HV _ h8⟩
  cases h
 ·rename_i k o m kk i h1 h2
  obtain⟨rfl,rfl⟩:=pr h
  obtain⟨lo',rfl,e1⟩:=Option.map_eq_some_iff.1 h1
  obtain rfl:hi=none:=by cases hi <;> simp at h2 <;> rfl
  have e2:=hlk lo'
  rw[e1]at e2
  have e2:=bE (x:=.int kk (.ofNat i)) e2
  simp only[bV,cE,AR]at hx
  cases hb:(co cs k).b with
  | none=>
   rw[hb]at hx
   obtain⟨hlt,rfl,rfl,e3⟩:=hx
   have hi0:i=0:=by omega
   subst hi0
   refine⟨_,fun W'=>zE (k:=0) hk.1 e3 e2 (aX _) (aX _),?_⟩
   simp only[bV,cE,AR,hb]
   exact⟨hlt,by simp,by simp,by simp⟩
  | some b=>
   rw[hb]at hx
   obtain⟨hlt,o',c,e3,h3,h4,h5,h6⟩:=hx
   refine⟨_,fun W'=>zE (k:=i) hk.1 e3 e2 hC.1 h3,?_⟩
   simp only[bV,cE,AR,hb]
   refine⟨hlt,if c=i then o' else o'+i*sz,c-i,?_,by omega,by omega,fun h0=>?_,fun h0=>?_⟩
   ·by_cases hc:c=i
    ·simp[hc]
    simp[hc,kM]
   ·by_cases hc:c=i
    ·have hm:m=i:=by omega
     rw[if_pos hc]
     rcases h0 with h0 | h0
     ·omega
     have:i=0:=by
      rcases Nat.eq_zero_or_pos i with h9 | h9
      ·exact h9
      have:=Nat.mul_pos h9 hC.2
      omega
     subst this
     simpa using h5 (.inr (by omega))
    rw[if_neg hc]
    rcases h0 with h0 | h0
    ·rw[h5 (.inl (by omega))]
    rw[h5 (.inr (by omega))]
   have:i=0:=by
    rcases Nat.eq_zero_or_pos i with h9 | h9
    ·exact h9
    have:=Nat.mul_pos h9 hC.2
    omega
   subst this
   rw[Nat.sub_zero]
   exact h6 (by omega)
 ·rename_i k o m kk i h1 h2
  obtain⟨rfl,rfl⟩:=pr h
  obtain⟨hi',rfl,e1⟩:=Option.map_eq_some_iff.1 h2
  obtain rfl:lo=none:=by cases lo <;> simp at h1 <;> rfl
  have e2:=hlk hi'
  rw[e1]at e2
  have e2:=bE (x:=.int kk (.ofNat i)) e2
  simp only[bV,cE,AR]at hx
  cases hb:(co cs k).b with
  | none=>
   rw[hb]at hx
   obtain⟨hlt,rfl,rfl,e3⟩:=hx
   have hi0:i=0:=by omega
   subst hi0
   refine⟨_,fun W'=>zG (k:=0) hk.1 e3 e2 (aX _),?_⟩
   simp only[bV,cE,AR,hb]
   exact⟨hlt,by simp⟩
  | some b=>
   rw[hb]at hx
   obtain⟨hlt,o',c,e3,h3,h4,h5,h6⟩:=hx
   refine⟨_,fun W'=>zG (k:=i) hk.1 e3 e2 (Nat.le_trans hC h3),?_⟩
   simp only[bV,cE,AR,hb]
   exact⟨hlt,o',c,rfl,Nat.le_trans hC h3,h4,fun h0=>h5 (by omega),h6⟩
 cases h
theorem aBo {aa:Array TypeId}(hx:bV W N cs a (ρ x)) (hy:bV W N cs b (ρ y)) (h:Yr a b=some (C,v)):pI P W N cs ρ ⟨d,.call ⟨.builtin .max,⟨[x,y]⟩,aa⟩,ty,pos,af,gd⟩ v:=by
 unfold Yr at h
 split at h
 ·split at h
  ·rename_i hk
   have hk:=Nz hk
   subst hk
   obtain⟨rfl,rfl⟩:=pr h
   exact⟨_,fun W'=>ME (bE hx) (bE hy) (by omega),eA _⟩
  cases h
 cases h
theorem aBp {aa:Array TypeId}(hx:bV W N cs a (ρ x)) (hy:bV W N cs b (ρ y)) (h:Ys a b=some (C,v)):pI P W N cs ρ ⟨d,.call ⟨.builtin .min,⟨[x,y]⟩,aa⟩,ty,pos,af,gd⟩ v:=by
 unfold Ys at h
 split at h
 ·split at h
  ·rename_i hk
   have hk:=Nz hk
   subst hk
   obtain⟨rfl,rfl⟩:=pr h
   exact⟨_,fun W'=>MF (bE hx) (bE hy) (by omega),eA _⟩
  cases h
 cases h
theorem aBq {t e sz by_ m:Nat}{zz:Value}(hk:Af P t (.sl e sz by_ zz)) (hx:bV W N cs a (ρ x)) (hm:pA a=some m):pI P W N cs ρ ⟨d,.call ⟨.builtin .len,⟨[x]⟩,⟨[t]⟩⟩,ty,pos,af,gd⟩ (.one (tv (.int .i64 (m:Int)))):=by
 obtain⟨A,c,e⟩:=Vi hx hm
 exact⟨_,fun W'=>RN hk.1 e,eA _⟩
theorem Vj:∀(us:List Value),ARL W N cs (us.map tv) us:=pH
theorem CY {u:Value}:∀{l:List AV},bV W N cs (.agg l) u->∃us,u=.agg us.toArray/\u.cells.toList=us/\ARL W N cs l us:=fun⟨us,e,h⟩=>⟨us,e,by simp[e,Value.cells],h⟩
theorem Ak {al:AV}{u:Value}(h:AR W N cs al u) (hl:lone al=true):u.cells= #[u]:=by
 cases al with
 | t x=>
  cases x with
  | v w=>
   simp only[AR,FR]at h
   subst h
   cases u <;> first | rfl | (simp[lone]at hl)
  | s o t z n l=>
   simp only[AR,FR]at h
   obtain⟨A,c,rfl,_⟩:=h
   rfl
  | p o t l=>
   simp only[AR,FR]at h
   obtain⟨A,rfl,_⟩:=h
   rfl
  | f g l0 l=>
   simp only[AR,FR]at h
   obtain⟨A,B,rfl,_⟩:=h
   rfl
  | a l=>simp[lone]at hl
 | sl k o n=>
  simp only[AR]at h
  replace h:=h.2
  split at h
  ·obtain⟨_,_,rfl⟩:=h
   rfl
  obtain⟨_,_,rfl,_⟩:=h
  rfl
 | pt k o=>
  simp only[AR]at h
  obtain⟨_,_,rfl⟩:=h
  rfl
 | ef l o=>
  simp only[AR]at h
  obtain⟨_,_,_,rfl⟩:=h
  rfl
 | fn f a b=>
  simp only[AR]at h
  obtain⟨_,_,rfl,_⟩:=h
  rfl
theorem Ea {fld:List (Nat×Nat×Nat)}{k:List AV->Ev}:∀{ps:List (Nat×FV)}{vs:List (Nat×Value)}{cells:List AV}{us:List Value},ARL W N cs cells us->Kd fld cells ps k=some (C,v)->
  (ps.length=vs.length)->(∀(j:Nat) (p:Nat×FV) (q:Nat×Value),ps[j]? =some p->vs[j]? =some q->p.1=q.1/\bV W N cs p.2 q.2)->
  ∃l us',ARL W N cs l us'/\lL (fun i=>(fld.map fun x=>(x.1,x.2.2))[i]?) us vs=some us'/\k l=some (C,v)
 | [],vs,cells,us,hc,h,hl,_=>by
  obtain rfl:vs=[]:=List.eq_nil_of_length_eq_zero hl.symm
  exact⟨cells,us,hc,rfl,h⟩
 | (i,fv)::ps,vs,cells,us,hc,h,hl,hp=>by
  obtain⟨⟨i',u⟩,vs,rfl⟩:∃q vs',vs=q::vs':=by
   cases vs with
   | nil=>simp at hl
   | cons q vs=>exact⟨q,vs,rfl⟩
  have h0:=hp 0 _ _ rfl rfl
  obtain⟨e0,h0⟩:=h0
  dsimp only at e0 h0
  subst e0
  have hp':∀(j:Nat) (p:Nat×FV) (q:Nat×Value),ps[j]? =some p->vs[j]? =some q->p.1=q.1/\bV W N cs p.2 q.2:=fun j p q h1 h2=>hp (j+1) p q (by simpa using h1) (by simpa using h2)
  have hl':ps.length=vs.length:=by simpa using hl
  unfold Kd at h
  unfold lL
  have hlu:=iG hc
  split at h
  ·rename_i off _ sz l hf
   have hm:(fld.map fun x=>(x.1,x.2.2))[i]? =some (off,sz):=by simp[hf]
   rw[hm]
   split at h
   ·rename_i hq
    obtain⟨d1,d2⟩:=Aj h
    obtain⟨d3,d4⟩:=Ah d2
    obtain⟨us1,rfl,e2,e3⟩:=CY h0
    have hq:=Nat.eq_of_beq_eq_true hq
    have hz:us1.length=sz:=by rw[iG e3,hq]
    obtain⟨l',us',r1,r2,r3⟩:=Ea (ps:=ps) (vs:=vs) (us:=sN us off us1) (cells:=cells.take off++l++cells.drop (off+sz)) (by
     unfold sN
     rw[hz]
     exact Dz (Dz (vQ _ hc) e3) (Ag _ hc)) d4 hl' hp'
    refine⟨l',us',r1,?_,r3⟩
    simp only[e2]
    have b1:Nat.beq us1.length sz=true:=by simp[hz]
    have b2:Nat.ble (off+us1.length) us.length=true:=by simp[hz,hlu];omega
    rw[b1,b2]
    exact r2
   cases h
  ·rename_i off _ al hf
   have hm:(fld.map fun x=>(x.1,x.2.2))[i]? =some (off,1):=by simp[hf]
   rw[hm]
   split at h
   ·rename_i hlo
    obtain⟨d1,d2⟩:=Aj h
    obtain⟨d3,d4⟩:=Ah d2
    have e2:u.cells.toList=[u]:=by rw[Ak (cs:=cs) h0 hlo]
    obtain⟨l',us',r1,r2,r3⟩:=Ea (ps:=ps) (vs:=vs) (us:=sN us off [u]) (cells:=cells.take off++al::cells.drop (off+1)) (by
     unfold sN
     rw[List.append_assoc]
     refine Dz (vQ _ hc) ?_
     simp only[List.singleton_append,ARL]
     exact⟨h0,Ag _ hc⟩) d4 hl' hp'
    refine⟨l',us',r1,?_,r3⟩
    simp only[e2]
    have b1:Nat.beq [u].length 1=true:=rfl
    have b2:Nat.ble (off+[u].length) us.length=true:=by simp[hlu];omega
    rw[b1,b2]
    exact r2
   cases h
  cases h
theorem Al:∀{l:List AV}{r:List Tr}{us:List Value},wW l=some r->ARL W N cs l us->FRL W N r us
 | [],r,us,h,hu=>by
  simp[wW]at h
  subst h
  simpa[ARL,FRL]using hu
 | .t y::l,r,us,h,hu=>by
  simp only[wW]at h
  split at h
  ·rename_i r' hr
   injection h with h
   subst h
   cases us with
   | nil=>simp only[ARL]at hu
   | cons u us=>
    simp only[ARL,AR]at hu
    simp only[FRL]
    exact⟨hu.1,Al hr hu.2⟩
  cases h
 | .sl .. ::_,_,_,h,_ | .pt .. ::_,_,_,h,_ | .ef .. ::_,_,_,h,_ | .fn .. ::_,_,_,h,_=>by simp[wW]at h
theorem XR {f:Nat}{l l':List AV}{us vs:List Value}(h1:ARL W N cs l us) (h2:ARL W N cs l' vs):AR W N cs (XN f l l') (.func (.func f) us.toArray vs.toArray):=by
 unfold XN
 split
 ·rename_i r r' hr hr'
  simp only[AR,FR]
  exact⟨us,vs,rfl,Al hr h1,Al hr' h2⟩
 simp only[AR]
 exact⟨us,vs,rfl,h1,h2⟩
theorem Io {n:Nat}{g:Nat->FV}(hlk:∀o,bV W N cs (lk n g o) (ρ o)):∀{l:List Operand}{r:List AV},Vh n g l=some r->ARL W N cs r (l.map ρ)
 | [],r,h=>by
  simp[Vh]at h
  subst h
  simp[ARL]
 | o::l,r,h=>by
  unfold Vh at h
  split at h
  ·rename_i a r' h1 h2
   simp at h
   subst h
   simp only[List.map_cons,ARL]
   have:=hlk o
   rw[h1]at this
   exact⟨this,Io hlk h2⟩
  ·rename_i c r' h1 h2
   split at h
   ·rename_i c' hc
    simp at h
    subst h
    have:=hlk o
    rw[h1]at this
    obtain⟨us,e,h3⟩:=this
    simp only[List.map_cons,ARL,AR,FR]
    exact⟨⟨us,e,Al hc h3⟩,Io hlk h2⟩
   cases h
  cases h
theorem XS {k:List AV->Ev}{l:List AV}(h:all l k=some (C,v)):k l=some (C,v):=In h
theorem Ke {n:Nat}{g:Nat->FV}{T:List (Nat×TI)}(hT:cH P T) (hlk:∀o,bV W N cs (lk n g o) (ρ o)){o:Op}(h:yP T n g o=some (C,v)) (hC:C):pI P W N cs ρ ⟨d,o,ty,pos,af,gd⟩ v:=by
 unfold yP at h
 split at h
 ·exact XO (hlk _) h
 ·exact HS (hlk _) h
 ·exact XP (hlk _) (hlk _) (hlk _) h
 ·split at h
  ·rename_i ht
   exact Tf (dX hT ht).2.2.2.1 (hlk _) h
  cases h
 ·split at h
  ·rename_i ht
   split at h
   ·rename_i hf
    split at h
    ·rename_i hi
     exact PG (dX hT ht).2.2.2.1 hf (dX hT hi).1 (hlk _) h
    cases h
   cases h
  cases h
 ·exact aCH (hlk _) h
 ·split at h
  ·rename_i ht
   exact LC (dX hT ht).2.2.2 (hlk _) (hlk _) h hC
  exact LC (k:=.ot) trivial (hlk _) (hlk _) h hC
 ·exact aCI (hlk _) h hC
 ·split at h
  ·rename_i h1 h2
   exact XQ (dX hT h1).2.2.2 (dX hT h2).2.2.2 (hlk _) h hC
  cases h
 ·exact CX (hlk _) h
 ·split at h
  ·rename_i ht
   exact aCM (dX hT ht).2.2.2 (hlk _) (hlk _) h hC
  ·rename_i ht
   exact aBn (dX hT ht).2.2.2 (hlk _) (hlk _) h hC
  cases h
 ·split at h
  ·rename_i ht
   exact aCJ (dX hT ht).2.2.2 (hlk _) (hlk _) h hC
  cases h
 ·split at h
  ·rename_i t ps _ ag sz z fld ht
   have hi:=dX hT ht
   obtain⟨l,us',h1,h2,h3⟩:=Ea (W:=W) (N:=N) (cs:=cs) (us:=z) (vs:=ps.toList.map fun p=>(p.1,ρ p.2)) (Vj z) h (by simp) (fun j p q hp hq=>by
    simp only[List.getElem?_map,Option.map_eq_some_iff]at hp hq
    obtain⟨a,ha,rfl⟩:=hp
    obtain⟨b,hb,rfl⟩:=hq
    rw[ha]at hb
    injection hb with hb
    subst hb
    exact⟨rfl,hlk _⟩)
   have h4:=XS h3
   obtain⟨rfl,rfl⟩:=pr h4
   refine⟨.agg us'.toArray,fun W'=>FJ hi.2.2.2.2 hi.2.2.1 (ps:=ps.toList.map fun p=>(p.1,ρ p.2)) (by apply Array.ext';simp only[Array.toList_map]) h2,us',rfl,h1⟩
  cases h
 ·split at h
  ·rename_i h1 h2
   obtain⟨rfl,rfl⟩:=pr h
   refine⟨_,fun W'=>Tb (l1:=_) (l2:=_) (by apply Array.ext';simp only[Array.toList_map]) (by apply Array.ext';simp only[Array.toList_map]),XR (Io hlk h1) (Io hlk h2)⟩
  cases h
 ·split at h
  ·rename_i ht
   exact PH (dX hT ht).2.2.2 (hlk _) hlk h hC
  ·rename_i ht
   exact aCK (dX hT ht).2.2.2 (hlk _) hlk h hC
  cases h
 ·exact aBo (hlk _) (hlk _) h
 ·exact aBp (hlk _) (hlk _) h
 ·split at h
  ·rename_i ht
   split at h
   ·rename_i hm
    obtain⟨rfl,rfl⟩:=pr h
    exact aBq (dX hT ht).2.2.2 (hlk _) hm
   cases h
  ·rename_i ht
   exact aCL (dX hT ht).2.2.2 (hlk _) h
  cases h
 cases h
end
section
variable {x:Cx}{g g':Nat->FV}{ob ob':List (Option Ob)}{cs cs':List Co}{ts ts':Array Value}{W W':World}
theorem RelC.of {F:List Sh}(hs:ts.size=x.n) (hL:Loc x.M x.w W (aL ob cs) F) (ho:Gy W (x.fr W ob cs) cs ob) (hf:∀i,i<x.n->∃u,ts[i]? =some u/\bV W (x.fr W ob cs) cs (g i) u) (hi:Same x.c0 cs):RelC x g ob cs ts W:=
 ⟨hs,(hL.pickS []).read _ ⟨ho,hf⟩,hi⟩
theorem iD (h:ob.length=cs.length):(aL ob cs).length=cs.length:=by simp[aL,h]
theorem cA {k:Nat}{o:Option Ob}(h:ob.length=cs.length) (hk:ob[k]? =some o):(aL ob cs)[k]? =some (aQ o (co cs k)):=by
 have hlt:=(List.getElem?_eq_some_iff.1 hk).1
 have:cs[k]? =some cs[k]:=fV (by omega)
 simp[aL,List.getElem?_zipWith,hk,this,co]
theorem RelC.res (h:RelC x g ob cs ts W){k:Nat}{o:Option Ob}(hk:ob[k]? =some o):(aQ o (co cs k)).φ W:=h.2.get k (cA h.len hk)
theorem RelC.blk (h:RelC x g ob cs ts W){k b:Nat}{o:Ob}(hk:ob[k]? =some (some o)) (hb:(co cs k).b=some b):
  Blk W b o.t (bif Nat.beq o.z 0 then(co cs k).l.length else(co cs k).c*o.z) ((co cs k).l.map VT.val)/\VT.okL W (co cs k).l/\(co cs k).c<=maxLen:=by
 have:=h.res hk
 simpa only[aQ,hb]using this
theorem RelC.crl (h:RelC x g ob cs ts W){k:Nat}{o:Ob}(hk:ob[k]? =some (some o)):bZ W (x.fr W ob cs) cs o.l (co cs k).l:=(h.obs.2 k o hk).1
theorem pJ {c:Co}{k:Nat}(h:k<cs.length):co (cs++[c]) k=co cs k:=by simp[co,List.getElem?_append_left h]
theorem iT {c:Co}:co (cs++[c]) cs.length=c:=by simp[co]
theorem Same.app {c:Co}:Same cs (cs++[c]):=⟨by simp,fun k hk=>by rw[pJ hk];exact⟨rfl,rfl⟩⟩
def dO (ob:List (Option Ob)) (cs:List Co):List Nat:=(aL ob cs).flatMap Res.S
theorem wX {b:Nat}(h:x.fr W ob cs b) (hs:W.heap.size<=W'.heap.size) (ho:∀b∈dO ob' cs',b∈dO ob cs\/W.heap.size<=b):x.fr W' ob' cs' b:=by
 refine⟨⟨Nat.lt_of_lt_of_le h.1.1 hs,fun hm=>?_⟩,h.2⟩
 rcases ho b hm with h1 | h1
 ·exact h.1.2 h1
 have:=h.1.1
 omega
theorem RelC.push (h:RelC x g ob cs ts W) (hb:Below W.heap.size W W') (o:Ob) (c:Co) (hφ:(aQ (some o) c).φ W') (hS:∀b∈(aQ (some o) c).S,W.heap.size<=b/\b<W'.heap.size) (hn:(aQ (some o) c).S.Nodup)
  (hc:bZ W' (x.fr W' (ob++[some o]) (cs++[c])) (cs++[c]) o.l c.l) (hz:c.b=none->o.l=[]/\o.z≠0):RelC x g (ob++[some o]) (cs++[c]) ts W':=by
 have hlen:=h.len
 have hr:aL (ob++[some o]) (cs++[c])=aL ob cs++[aQ (some o) c]:=by
  unfold aL
  rw[List.zipWith_append hlen]
  rfl
 have hL:Loc x.M x.w W' (aL (ob++[some o]) (cs++[c])) []:=by
  rw[hr]
  exact(((h.2.push hb hφ hS hn).pickS [])).perm (List.perm_append_comm (l₁:=[aQ (some o) c]))
 have hown:∀b∈dO (ob++[some o]) (cs++[c]),b∈dO ob cs\/W.heap.size<=b:=by
  intro b hb
  unfold dO at hb
  rw[hr,List.flatMap_append,List.mem_append]at hb
  rcases hb with hb | hb
  ·exact .inl hb
  refine .inr (hS b ?_).1
  simpa using hb
 have hk:∀b,x.fr W ob cs b->W'.heap[b]? =W.heap[b]? :=fun b h=>hb.block b h.1.1
 have hN:∀b,x.fr W ob cs b->x.fr W' (ob++[some o]) (cs++[c]) b:=fun b h=>wX h hb.size hown
 refine .of h.1 hL ⟨by simp[hlen],fun k o' hk'=>?_⟩ (fun i hi=>?_) (h.3.trans .app)
 ·rw[List.getElem?_append]at hk'
  split at hk'
  ·rename_i hlt
   have h1:=h.obs.2 k o' hk'
   rw[pJ (by omega)]
   exact⟨dI hk hN .app _ _ h1.1,h1.2⟩
  rename_i hge
  have e:k=ob.length:=by
   have:=(List.getElem?_eq_some_iff.1 hk').1
   simp at this
   omega
  subst e
  simp at hk'
  subst hk'
  rw[hlen,iT]
  exact⟨hc,hz⟩
 obtain⟨u,h1,h2⟩:=h.fv hi
 exact⟨u,h1,gC hk hN .app _ _ h2⟩
structure Aft (Wr:List Nat) (d:Option Nat) (ob:List (Option Ob)) (cs:List Co) (ts:Array Value) (W:World) (ob':List (Option Ob)) (cs':List Co) (ts':Array Value) (W':World):Prop where
 same:Same cs cs'
 un:∀k,k∉Wr->k<cs.length->co cs' k=co cs k
 size:W.heap.size<=W'.heap.size
 keep:∀b,b<W.heap.size->(∀k∈Wr,∀o,ob[k]? =some o->b∉(aQ o (co cs k)).S)->W'.heap[b]? =W.heap[b]?
 own:∀b∈dO ob' cs',b∈dO ob cs\/W.heap.size<=b
 fr:∀i,d≠some i->ts'[i]? =ts[i]?
def OS (x:Cx) (o:Oper) (g:Nat->FV) (ob:List (Option Ob)) (Wr:List Nat) (R:(Nat->FV)->List (Option Ob)->Prop):Prop:=
 ∀cs ts W,RelC x g ob cs ts W->∀(K:Act->World->Prop) (Q:Exit->Act->World->Prop),
  (∀g' ob' cs' ts' W',R g' ob'->RelC x g' ob' cs' ts' W'->Aft Wr o.dst ob cs ts W ob' cs' ts' W'->K ⟨ts',[]⟩ W')->o.wp x.P ⟨ts,[]⟩ W K Q
theorem Aft.put (d:Nat) (u:Value):Aft [] (some d) ob cs ts W ob cs (ts.setIfInBounds d u) W:=
 ⟨.refl,fun _ _ _=>rfl,aX _,fun _ _ _=>rfl,fun _ h=>.inl h,fun i hi=>Array.getElem?_setIfInBounds_ne (fun e=>hi (by rw[e]))⟩
variable {d:Nat}{ty:TypeId}{pos:String}{af:Array Edge}{gd:Option (Nat×Bool)}{T:List (Nat×TI)}
theorem CZ {o:Op}{v:FV}(h:∀cs ts W,RelC x g ob cs ts W->pI x.P W (x.fr W ob cs) cs (Act.eval ⟨ts,[]⟩) ⟨some d,o,ty,pos,af,gd⟩ v):
  OS x ⟨some d,o,ty,pos,af,gd⟩ g ob [] (fun g' ob'=>g'=bG g d v/\ob'=ob):=by
 intro cs ts W hR K Q k
 obtain⟨u,hrun,hv⟩:=h cs ts W hR
 exact eN (hrun W) (k _ _ _ _ _ ⟨rfl,rfl⟩ (hR.put d hv) (.put d u))
theorem GR (hT:cH x.P T){o:Op}{C:Prop}{v:FV}(h:yP T x.n g o=some (C,v)) (hC:C):OS x ⟨some d,o,ty,pos,af,gd⟩ g ob [] (fun g' ob'=>g'=bG g d v/\ob'=ob):=
 CZ fun _ _ _ hR=>Ke hT hR.lk h hC
def rL:AV->Bool
 | .t (.s true _ _ _ _)=>false
 | .t (.p true _ _)=>false
 | _=>true
def fQ:List AV->Bool
 | []=>true
 | a::l=>rL a&&fQ l
def Qq (l:List AV) (v:FV):Ev:=match fQ l with
 | true=>ev v
 | false=>none
def XT (i:TI) (o:Nat) (l:List AV):Ev:=dp o l fun l=>match i.agg with
 | true=>tk i.size l fun r=>Qq r (.agg r)
 | false=>match l with
  | a::_=>Qq [a] (.one a)
  | []=>none
def cR (ob:List (Option Ob)) (k:Nat):Option Ob:=match ob[k]? with
 | some (some o)=>some o
 | _=>none
theorem dL {k:Nat}{o:Ob}(h:cR ob k=some o):ob[k]? =some (some o):=by
 unfold cR at h
 split at h
 ·rename_i h1
  injection h with h
  rw[h1,h]
 cases h
def yQ (ob:List (Option Ob)) (i:TI):FV->Ev
 | .one (.pt k o)=>match cR ob k with
  | some b=>XT i o b.l
  | none=>none
 | _=>none
theorem Ip {N:Nat->Prop}:∀{a:AV}{y:VT},CR W N cs a y->rL a=true->AR W N cs a y.val
 | .t (.v w),y,h,_=>by
  simp only[CR,OR]at h
  subst h
  simp[AR,FR,VT.val]
 | .t (.s false t z n l),.w u,h,_=>by
  simp only[CR,OR]at h
  rcases h with⟨h,_⟩ | ⟨_,h⟩
  ·cases h
  simpa only[AR,VT.val]using h
 | .t (.s false ..),.s ..,h,_=>by
  simp only[CR,OR]at h
  cases h.1
 | .t (.s _ ..),.p ..,h,_=>by simp only[CR,OR]at h
 | .t (.s true ..),_,_,h=>by simp[rL]at h
 | .t (.p true ..),_,_,h=>by simp[rL]at h
 | .t (.p false t l),.w u,h,_=>by
  simp only[CR,OR]at h
  simpa only[AR,VT.val]using h.2
 | .t (.p false ..),.p ..,h,_=>by
  simp only[CR,OR]at h
  cases h.1
 | .t (.p _ ..),.s ..,h,_=>by simp only[CR,OR]at h
 | .t (.f ..),.w u,h,_ | .t (.a ..),.w u,h,_=>by
  simp only[CR,OR]at h
  simpa only[AR,VT.val]using h
 | .t (.f ..),.s ..,h,_ | .t (.f ..),.p ..,h,_ | .t (.a ..),.s ..,h,_ | .t (.a ..),.p ..,h,_=>by simp only[CR,OR]at h
 | .sl ..,.w u,h,_ | .pt ..,.w u,h,_ | .ef ..,.w u,h,_ | .fn ..,.w u,h,_=>by simpa only[CR,VT.val]using h
 | .sl ..,.s ..,h,_ | .sl ..,.p ..,h,_ | .pt ..,.s ..,h,_ | .pt ..,.p ..,h,_ | .ef ..,.s ..,h,_ | .ef ..,.p ..,h,_ | .fn ..,.s ..,h,_ | .fn ..,.p ..,h,_=>by simp only[CR]at h
theorem tT {N:Nat->Prop}:∀{l:List AV}{l':List VT},bZ W N cs l l'->fQ l=true->ARL W N cs l (l'.map VT.val)
 | [],l',h,_=>by
  simp only[bZ]at h
  simp[h,ARL]
 | a::l,y::l',h,hr=>by
  simp only[bZ]at h
  simp only[fQ,Bool.and_eq_true]at hr
  simp only[List.map_cons,ARL]
  exact⟨Ip h.1 hr.1,tT h.2 hr.2⟩
 | _::_,[],h,_=>by simp only[bZ]at h
theorem pX {N:Nat->Prop}:∀{l:List AV}{us:List VT}(j:Nat),bZ W N cs l us->bZ W N cs (l.drop j) (us.drop j)
 | [],us,j,h=>by
  simp only[bZ]at h
  subst h
  simp[bZ]
 | b::l,u::us,0,h=>h
 | b::l,u::us,j+1,h=>by
  simp only[bZ]at h
  simpa using pX j h.2
 | _::_,[],_,h=>by simp only[bZ]at h
theorem mY {N:Nat->Prop}:∀{l:List AV}{us:List VT}(j:Nat),bZ W N cs l us->bZ W N cs (l.take j) (us.take j)
 | [],us,j,h=>by
  simp only[bZ]at h
  subst h
  simp[bZ]
 | b::l,u::us,0,h=>by simp[bZ]
 | b::l,u::us,j+1,h=>by
  simp only[bZ]at h
  simp only[List.take_succ_cons,bZ]
  exact⟨h.1,mY j h.2⟩
 | _::_,[],_,h=>by simp only[bZ]at h
theorem Eb {l:List AV}{w v:FV}{C:Prop}(h:Qq l w=some (C,v)):fQ l=true/\v=w:=by
 unfold Qq at h
 split at h
 ·rename_i e
  exact⟨e,(pr h).2.symm⟩
 cases h
def XU (P:Program) (W:World) (N:Nat->Prop) (cs:List Co) (ρ:Operand->Value) (o:Oper) (b:Nat) (v:FV):Prop:=∃u,(∀W',W'.heap[b]? =W.heap[b]? ->(execOp ρ o).run P W'=.ok (.value u) W')/\bV W N cs v u
theorem qX {b t m o:Nat}{vs us:List Value}(h:Blk W b t m vs) (hu:(vs.drop o).take us.length=us):zD W ⟨b,o,none⟩ us:=by
 intro j u hj
 have hlt:=(List.getElem?_eq_some_iff.1 hj).1
 have e:vs[o+j]? =some u:=by
  rw[<-hu]at hj
  rw[List.getElem?_take,if_pos hlt,List.getElem?_drop]at hj
  exact hj
 have:=rN h e
 rw[kM]at this
 rw[kM]
 simpa using this
theorem Kf (hT:cH x.P T){t:Nat}{i:TI}{a:Operand}(hi:bX T t=some i){C:Prop}{v:FV}(h:yQ ob i (lk x.n g a)=some (C,v)) (hR:RelC x g ob cs ts W){o:Oper}(ho:o.op=.load t a):
  ∃k o' b,lk x.n g a=.one (.pt k o')/\(co cs k).b=some b/\XU x.P W (x.fr W ob cs) cs (Act.eval ⟨ts,[]⟩) o b v:=by
 unfold yQ at h
 split at h
 ·rename_i k off hlk
  split at h
  ·rename_i b0 hb0
   have hk:=dL hb0
   have hp:=hR.lk a
   rw[hlk]at hp
   simp only[bV,cE,AR]at hp
   obtain⟨b,hb,e⟩:=hp
   refine⟨k,off,b,hlk,hb,?_⟩
   obtain⟨k1,_,_⟩:=hR.blk hk hb
   have hcl:=hR.crl hk
   obtain⟨d1,d2⟩:=Aj h
   have hty:=(dX hT hi).1
   obtain⟨od,oop,oty,opos,oaf,ogd⟩:=o
   subst ho
   split at d2
   ·rename_i hag
    obtain⟨d3,d4⟩:=Ah d2
    obtain⟨d5,rfl⟩:=Eb d4
    rw[hag]at hty
    have hcl2:=tT (mY i.size (pX off hcl)) d5
    rw[List.map_take,List.map_drop]at hcl2
    have hl:=iG hcl2
    have hl2:((((co cs k).l.map VT.val).drop off).take i.size).length=i.size:=by rw[hl,dU];omega
    refine⟨_,fun W' hW'=>Ff hty e (qX (k1.keep hW') (us:=(((co cs k).l.map VT.val).drop off).take i.size) (by rw[hl2])) hl2,_,rfl,hcl2⟩
   rename_i hag
   split at d2
   ·rename_i a0 r hb'
    obtain⟨d5,rfl⟩:=Eb d2
    rw[hag]at hty
    have hcl2:=tT (mY 1 (pX off hcl)) (by rw[hb'];exact d5)
    rw[List.map_take,List.map_drop,hb']at hcl2
    have hl:=iG hcl2
    cases hu:((((co cs k).l.map VT.val).drop off).take 1)with
    | nil=>
     rw[hu]at hl
     simp at hl
    | cons u us=>
     rw[hu]at hcl2 hl
     have:us=[]:=by simpa using hl
     subst this
     simp only[List.take_succ_cons,List.take_zero,ARL]at hcl2
     exact⟨u,fun W' hW'=>Fg hty.1 e (qX (k1.keep hW') (us:=[u]) (by simpa using hu)),hcl2.1⟩
   cases d2
  cases h
 cases h
theorem Nx (hT:cH x.P T){t:Nat}{i:TI}{a:Operand}(hi:bX T t=some i){C:Prop}{v:FV}(h:yQ ob i (lk x.n g a)=some (C,v)):OS x ⟨some d,.load t a,ty,pos,af,gd⟩ g ob [] (fun g' ob'=>g'=bG g d v/\ob'=ob):=by
 intro cs ts W hR K Q k
 obtain⟨_,_,b,_,_,u,hrun,hv⟩:=Kf hT hi h hR (o:=⟨some d,.load t a,ty,pos,af,gd⟩) rfl
 exact eN (hrun W rfl) (k _ _ _ _ _ ⟨rfl,rfl⟩ (hR.put d hv) (.put d u))
theorem Ck {N:Nat->Prop}{ad:Addr}:∀{us:List Tr}{l:List Tr}{o:Nat},FRc W N ad 0 l->(l.drop o).take us.length=us->∃vs,vs.length=us.length/\zD W (ad.add o) vs/\ARL W N cs (us.map .t) vs
 | [],l,o,_,_=>⟨[],rfl,fun j u h=>by simp at h,by simp[ARL]⟩
 | y::us,l,o,h,e=>by
  have e0:l[o]? =some y:=by
   have:=congrArg (·[0]?) e
   simpa[List.getElem?_take,List.getElem?_drop]using this
  have e1:(l.drop (o+1)).take us.length=us:=by
   have:=congrArg (·.drop 1) e
   simpa[List.drop_take,List.drop_drop,Nat.add_comm]using this
  obtain⟨u,h1,h2⟩:=rP h e0
  rw[Nat.zero_add]at h1
  obtain⟨vs,v1,v2,v3⟩:=Ck (us:=us) h e1
  refine⟨u::vs,by simp[v1],fun j w hj=>?_,?_⟩
  ·cases j with
   | zero=>
    simp at hj
    subst hj
    rw[Gx]
    exact h1
   | succ j=>
    have:=v2 j w (by simpa using hj)
    rw[De]at this⊢
    rwa[show o+(j+1)=o+1+j by omega]
  simp only[List.map_cons,ARL]
  exact⟨by simpa only[AR]using h2,v3⟩
def Qr (i:TI) (us:List Tr):Option FV:=match i.agg with
 | true=>match Nat.beq us.length i.size with
  | true=>some (.agg (us.map .t))
  | false=>none
 | false=>match us with
  | [y]=>some (.one (.t y))
  | _=>none
theorem Vk (hT:cH x.P T){t:Nat}{i:TI}{a:Operand}(hi:bX T t=some i){l us:List Tr}{of:Nat}{v:FV}{N:Nat->Prop}(h:lk x.n g a=.one (.ef l of)) (hl:(l.drop of).take us.length=us) (hv:Qr i us=some v) (hR:bV W N cs (lk x.n g a) (Act.eval ⟨ts,[]⟩ a)){o:Oper}(ho:o.op=.load t a):
  ∃b,N b/\XU x.P W N cs (Act.eval ⟨ts,[]⟩) o b v:=by
 have hp:=hR
 rw[h]at hp
 simp only[bV,cE,AR]at hp
 obtain⟨ad,h1,h2,e⟩:=hp
 refine⟨ad.block,h1,?_⟩
 obtain⟨vs,v1,v2,v3⟩:=Ck (cs:=cs) h2 hl
 have hty:=(dX hT hi).1
 obtain⟨od,oop,oty,opos,oaf,ogd⟩:=o
 subst ho
 have hck:∀W':World,W'.heap[ad.block]? =W.heap[ad.block]? ->zD W' (ad.add of) vs:=fun W' hW' j u hj=>by
  rw[<-v2 j u hj]
  apply World.cell?_of_block
  rw[mR,mR]
  exact hW'
 unfold Qr at hv
 split at hv
 ·rename_i hag
  split at hv
  ·rename_i hq
   injection hv with hv
   subst hv
   rw[hag]at hty
   exact⟨_,fun W' hW'=>Ff hty e (hck W' hW') (by rw[v1];exact Nat.eq_of_beq_eq_true hq),vs,rfl,v3⟩
  cases hv
 rename_i hag
 split at hv
 ·rename_i y
  injection hv with hv
  subst hv
  rw[hag]at hty
  match vs,v1 with
  | [u],_=>
   simp only[List.map_cons,List.map_nil,ARL]at v3
   exact⟨u,fun W' hW'=>Fg hty.1 e (hck W' hW'),v3.1⟩
 cases hv
theorem XV (hT:cH x.P T){t:Nat}{i:TI}{a:Operand}(hi:bX T t=some i){l us:List Tr}{of:Nat}{v:FV}(h:lk x.n g a=.one (.ef l of)) (hl:(l.drop of).take us.length=us) (hv:Qr i us=some v):OS x ⟨some d,.load t a,ty,pos,af,gd⟩ g ob [] (fun g' ob'=>g'=bG g d v/\ob'=ob):=by
 intro cs ts W hR K Q k
 obtain⟨b,_,u,hrun,hv⟩:=Vk hT hi h hl hv (hR.lk a) (o:=⟨some d,.load t a,ty,pos,af,gd⟩) rfl
 exact eN (hrun W rfl) (k _ _ _ _ _ ⟨rfl,rfl⟩ (hR.put d hv) (.put d u))
end
theorem oO:∀(a b:List VT),VT.fpL (a++b)=VT.fpL a++VT.fpL b
 | [],b=>by simp[VT.fpL]
 | y::a,b=>by simp[VT.fpL,oO a b]
theorem oP:∀(us:List Value),VT.fpL (us.map .w)=[]
 | []=>by simp[VT.fpL]
 | u::us=>by simp[VT.fpL,VT.fp,oP us]
theorem Qs:∀(l:List VT) (n:Nat),(VT.fpL (l.drop n)).Sublist (VT.fpL l)
 | [],n=>by simp
 | y::l,0=>by simp
 | y::l,n+1=>by
  simp only[List.drop_succ_cons,VT.fpL]
  exact(Qs l n).trans (List.sublist_append_right _ _)
theorem sG {W:World}:∀(a b:List VT),VT.okL W (a++b)↔VT.okL W a/\VT.okL W b
 | [],b=>by simp[VT.okL]
 | y::a,b=>by simp[VT.okL,sG a b,and_assoc]
theorem wY {W:World}:∀(us:List Value),VT.okL W (us.map .w)
 | []=>by simp[VT.okL]
 | u::us=>by simp[VT.okL,VT.ok,wY us]
theorem Qt {W:World}:∀(l:List VT) (n:Nat),VT.okL W l->VT.okL W (l.drop n)
 | [],n,h=>by simpa using h
 | y::l,0,h=>h
 | y::l,n+1,h=>by
  simp only[VT.okL]at h
  exact Qt l n h.2
theorem Am {W:World}:∀(l:List VT) (n:Nat),VT.okL W l->VT.okL W (l.take n)
 | [],n,h=>by simpa using h
 | y::l,0,h=>by simp[VT.okL]
 | y::l,n+1,h=>by
  simp only[VT.okL]at h
  simp only[List.take_succ_cons,VT.okL]
  exact⟨h.1,Am l n h.2⟩
theorem wZ (us:List Value):(us.map VT.w).map VT.val=us:=by
 induction us with
 | nil=>rfl
 | cons u us ih=>simp[VT.val,ih]
theorem Loc.conv {M:List Nat}{w W:World}{L L':List Res}{F:List Sh}(h:Loc M w W L F) (hp:List.Perm (L.flatMap Res.S) (L'.flatMap Res.S)) (hφ:(∀r∈L,r.φ W)->∀r∈L',r.φ W):Loc M w W L' F:=
 ⟨h.chg,hφ h.res,fun b hb=>h.blk b (hp.mem_iff.2 hb),(hp.nodup_iff).1 h.nd,fun q hq=>q.mono _ _ _ (fun b hb=>⟨hb.1,fun hm=>hb.2 (hp.mem_iff.2 hm)⟩) (h.shr q hq)⟩
theorem Loc.nd1 {M:List Nat}{w W:World}{L:List Res}{F:List Sh}(h:Loc M w W L F){r:Res}(hr:r∈L):r.S.Nodup:=by
 have hnd:List.Pairwise (· ≠ ·) (L.flatMap Res.S):=h.nd
 rw[List.pairwise_flatMap]at hnd
 exact hnd.1 r hr
section
variable {x:Cx}{g g':Nat->FV}{ob ob':List (Option Ob)}{cs cs':List Co}{ts ts':Array Value}{W W':World}
theorem pK {c:Co}{k:Nat}(hk:k<cs.length) (j:Nat):co (cs.set k c) j=if j=k then c else co cs j:=by
 unfold co
 by_cases e:j=k
 ·subst e
  simp[hk]
 rw[if_neg e,List.getElem?_set_ne (fun h=>e h.symm)]
theorem mZ {k:Nat}{o:Option Ob}{c:Co}:aL (ob.set k o) (cs.set k c)=(aL ob cs).set k (aQ o c):=by
 unfold aL
 induction ob generalizing cs k with
 | nil=>simp
 | cons a ob ih=>
  cases cs with
  | nil=>simp
  | cons b cs=>
   cases k with
   | zero=>simp
   | succ k=>simp[ih]
theorem RelC.upd (h:RelC x g ob cs ts W){k:Nat}{o:Ob}(hk:ob[k]? =some (some o)) (o':Ob) (c':Co) (hc:Chg (aQ (some o) (co cs k)).S W W') (hb:c'.b=(co cs k).b) (hcc:c'.c=(co cs k).c) (hφ:(aQ (some o') c').φ W')
  (hS:∀b∈(aQ (some o') c').S,b∈(aQ (some o) (co cs k)).S\/(W.heap.size<=b/\b<W'.heap.size)) (hn:(aQ (some o') c').S.Nodup)
  (hcr:(∀b,x.fr W ob cs b->W'.heap[b]? =W.heap[b]?)->(∀b,x.fr W ob cs b->x.fr W' (ob.set k (some o')) (cs.set k c') b)->Same cs (cs.set k c')->bZ W' (x.fr W' (ob.set k (some o')) (cs.set k c')) (cs.set k c') o'.l c'.l) (hz:c'.b=none->o'.l=[]/\o'.z≠0):
  RelC x g (ob.set k (some o')) (cs.set k c') ts W'/\∀d,Aft [k] d ob cs ts W (ob.set k (some o')) (cs.set k c') ts W':=by
 have hlen:=h.len
 have hkl:k<cs.length:=by
  have:=(List.getElem?_eq_some_iff.1 hk).1
  omega
 have hL:Loc x.M x.w W' (aL (ob.set k (some o')) (cs.set k c')) [(JL x.n g ob cs ts).on x.NN]:=by
  rw[mZ]
  exact h.2.set k (cA hlen hk) hc hφ hS hn
 have hown:∀b∈dO (ob.set k (some o')) (cs.set k c'),b∈dO ob cs\/W.heap.size<=b:=by
  intro b hb
  unfold dO at hb
  rw[mZ]at hb
  obtain⟨r,hr,hbr⟩:=List.mem_flatMap.1 hb
  rcases List.mem_or_eq_of_mem_set hr with hr | rfl
  ·exact .inl (List.mem_flatMap.2 ⟨r,hr,hbr⟩)
  rcases hS b hbr with h1 | h1
  ·exact .inl (List.mem_flatMap.2 ⟨_,List.mem_of_getElem? (cA hlen hk),h1⟩)
  exact .inr h1.1
 have hkeep:∀b,x.fr W ob cs b->W'.heap[b]? =W.heap[b]? :=fun b hb=>hc.block b hb.1.1 (fun hm=>hb.1.2 (List.mem_flatMap.2 ⟨_,List.mem_of_getElem? (cA hlen hk),hm⟩))
 have hN:∀b,x.fr W ob cs b->x.fr W' (ob.set k (some o')) (cs.set k c') b:=fun b h=>wX h hc.size hown
 have hsame:Same cs (cs.set k c'):=⟨by simp,fun j hj=>by
  rw[pK hkl]
  split
  ·rename_i e
   subst e
   exact⟨hb,hcc⟩
  exact⟨rfl,rfl⟩⟩
 refine⟨.of h.1 hL ⟨by simp[hlen],fun j o2 hj=>?_⟩ (fun i hi=>?_) (h.3.trans hsame),fun d=>⟨hsame,fun j hj _=>by rw[pK hkl,if_neg (by simpa using hj)],hc.size,fun b hb hne=>hc.block b hb (hne k (by simp) _ hk),hown,fun _ _=>rfl⟩⟩
 ·rw[List.getElem?_set]at hj
  split at hj
  ·rename_i e
   subst e
   split at hj
   ·injection hj with hj
    injection hj with hj
    subst hj
    rw[pK hkl,if_pos rfl]
    exact⟨hcr hkeep hN hsame,hz⟩
   cases hj
  rename_i e
  have h1:=h.obs.2 j o2 hj
  rw[pK hkl,if_neg (fun h=>e h.symm)]
  exact⟨dI hkeep hN hsame _ _ h1.1,h1.2⟩
 obtain⟨u,h1,h2⟩:=h.fv hi
 exact⟨u,h1,gC hkeep hN hsame _ _ h2⟩
theorem Aft.then_put {Wr:List Nat}{d:Nat}{ts0:Array Value}(h:Aft Wr (some d) ob cs ts0 W ob' cs' ts W') (u:Value):Aft Wr (some d) ob cs ts0 W ob' cs' (ts.setIfInBounds d u) W':=
 ⟨h.same,h.un,h.size,h.keep,h.own,fun i hi=>(Array.getElem?_setIfInBounds_ne (fun e=>hi (by rw[e]))).trans (h.fr i hi)⟩
theorem Yt {N:Nat->Prop}:∀{a:AV}{u:Value},AR W N cs a u->rL a=true->CR W N cs a (.w u)
 | .t (.v w),u,h,_=>by
  simp only[AR,FR]at h
  simp only[CR,OR,h]
 | .t (.s false t z n l),u,h,_=>by
  simp only[AR]at h
  simp only[CR,OR]
  exact .inr ⟨trivial,h⟩
 | .t (.s true ..),_,_,h=>by simp[rL]at h
 | .t (.p true ..),_,_,h=>by simp[rL]at h
 | .t (.p false t l),u,h,_=>by
  simp only[AR]at h
  simp only[CR,OR]
  exact⟨trivial,h⟩
 | .t (.f ..),u,h,_ | .t (.a ..),u,h,_=>by
  simp only[AR]at h
  simpa only[CR,OR]using h
 | .sl ..,u,h,_ | .pt ..,u,h,_ | .ef ..,u,h,_ | .fn ..,u,h,_=>by simpa only[CR]using h
theorem vS {N:Nat->Prop}:∀{l:List AV}{us:List Value},ARL W N cs l us->fQ l=true->bZ W N cs l (us.map .w)
 | [],us,h,_=>by
  simp only[ARL]at h
  simp[h,bZ]
 | a::l,u::us,h,hr=>by
  simp only[ARL]at h
  simp only[fQ,Bool.and_eq_true]at hr
  simp only[List.map_cons,bZ]
  exact⟨Yt h.1 hr.1,vS h.2 hr.2⟩
 | _::_,[],h,_=>by simp only[ARL]at h
theorem Ec {N:Nat->Prop}:∀{l l':List AV}{us us':List VT},bZ W N cs l us->bZ W N cs l' us'->bZ W N cs (l++l') (us++us')
 | [],l',us,us',h,h'=>by
  simp only[bZ]at h
  subst h
  simpa using h'
 | b::l,l',u::us,us',h,h'=>by
  simp only[bZ]at h
  simp only[List.cons_append,bZ]
  exact⟨h.1,Ec h.2 h'⟩
 | _::_,_,[],_,h,_=>by simp only[bZ]at h
def Cl:FV->Option (List AV)
 | .one a=>match lone a&&rL a with
  | true=>some [a]
  | false=>none
 | .agg l=>match fQ l with
  | true=>some l
  | false=>none
 | _=>none
def dR:List AV->Bool
 | []=>true
 | a::l=>lone a&&dR l
theorem HW {N:Nat->Prop}{al:AV}{u:Value}(h:AR W N cs al u) (hl:lone al=true):u.oneCell'=true:=by
 cases al with
 | t y=>
  cases y with
  | v w=>
   simp only[AR,FR]at h
   subst h
   cases u <;> first | rfl | (simp[lone]at hl)
  | s o t z n l=>
   simp only[AR,FR]at h
   obtain⟨A,c,rfl,_⟩:=h
   rfl
  | p o t l=>
   simp only[AR,FR]at h
   obtain⟨A,rfl,_⟩:=h
   rfl
  | f g l0 l=>
   simp only[AR,FR]at h
   obtain⟨A,B,rfl,_⟩:=h
   rfl
  | a l=>simp[lone]at hl
 | sl k o n=>
  simp only[AR]at h
  replace h:=h.2
  split at h
  ·obtain⟨_,_,rfl⟩:=h
   rfl
  obtain⟨_,_,rfl,_⟩:=h
  rfl
 | pt k o=>
  simp only[AR]at h
  obtain⟨_,_,rfl⟩:=h
  rfl
 | ef l o=>
  simp only[AR]at h
  obtain⟨_,_,_,rfl⟩:=h
  rfl
 | fn f a b=>
  simp only[AR]at h
  obtain⟨_,_,rfl,_⟩:=h
  rfl
theorem xA {N:Nat->Prop}:∀{l:List AV}{us:List Value},ARL W N cs l us->dR l=true->∀u∈us,u.oneCell'=true
 | [],us,h,_=>by
  simp only[ARL]at h
  simp[h]
 | a::l,u::us,h,hr=>by
  simp only[ARL]at h
  simp only[dR,Bool.and_eq_true]at hr
  intro v hv
  rcases List.mem_cons.1 hv with rfl | hv
  ·exact HW h.1 hr.1
  exact xA h.2 hr.2 v hv
 | _::_,[],h,_=>by simp only[ARL]at h
theorem Vl {N:Nat->Prop}{fv:FV}{l:List AV}{u:Value}(h:Cl fv=some l) (hv:bV W N cs fv u):∃us,u.cells=us.toArray/\ARL W N cs l us/\fQ l=true:=by
 unfold Cl at h
 split at h
 ·split at h
  ·rename_i a e
   rw[Bool.and_eq_true]at e
   injection h with h
   subst h
   refine⟨[u],Ak (cs:=cs) hv e.1,?_,by simp[fQ,e.2]⟩
   simp only[ARL,and_true]
   exact hv
  cases h
 ·split at h
  ·rename_i e
   injection h with h
   subst h
   obtain⟨us,rfl,h2⟩:=hv
   exact⟨us,rfl,h2,e⟩
  cases h
 cases h
end
section
variable {x:Cx}{g g':Nat->FV}{ob ob':List (Option Ob)}{cs cs':List Co}{ts ts':Array Value}{W W':World}{d:Nat}{ty:TypeId}{pos:String}{af:Array Edge}{gd:Option (Nat×Bool)}{T:List (Nat×TI)}
theorem yR:∀(us:List Value),fQ (us.map tv)=true
 | []=>rfl
 | u::us=>by
  simp only[List.map_cons,fQ,Bool.and_eq_true]
  exact⟨rfl,yR us⟩
theorem RelC.made (h:RelC x g ob cs ts W){t z c:Nat}{l:List AV}{us:List Value}(hl:ARL W (x.fr W ob cs) cs l us) (hr:fQ l=true) (hm:us.length=bif Nat.beq z 0 then us.length else c*z) (hc:c<=maxLen):
  RelC x g (ob++[some ⟨t,z,l⟩]) (cs++[⟨some W.heap.size,c,us.map .w⟩]) ts (W.alloc (.cells us.toArray t))/\∀d,Aft [] d ob cs ts W (ob++[some ⟨t,z,l⟩]) (cs++[⟨some W.heap.size,c,us.map .w⟩]) ts (W.alloc (.cells us.toArray t)):=by
 have hb:=AE W (.cells us.toArray t)
 have hS:∀b∈(aQ (some ⟨t,z,l⟩) ⟨some W.heap.size,c,us.map .w⟩).S,W.heap.size<=b/\b<(W.alloc (.cells us.toArray t)).heap.size:=by
  intro b hb
  simp[aQ,oP]at hb
  subst hb
  simp
 have hown:∀b∈dO (ob++[some ⟨t,z,l⟩]) (cs++[⟨some W.heap.size,c,us.map .w⟩]),b∈dO ob cs\/W.heap.size<=b:=by
  intro b hb
  unfold dO aL at hb
  rw[List.zipWith_append h.len,List.flatMap_append,List.mem_append]at hb
  rcases hb with hb | hb
  ·exact .inl hb
  exact .inr (hS b (by simpa using hb)).1
 refine⟨h.push hb _ _ ?_ hS (by simp[aQ,oP]) ?_ (fun e=>by cases e),fun d=>⟨.app,fun k _ hk=>pJ hk,hb.size,fun b hlt _=>hb.block b hlt,hown,fun _ _=>rfl⟩⟩
 ·simp only[aQ,dP,wZ]
  refine⟨⟨[],by simpa using heap_alloc_new W _,by simpa using hm⟩,wY us,hc⟩
 exact vS (ARL_keep (fun b h=>hb.block b h.1.1) (fun b h=>wX h hb.size hown) .app _ _ hl) hr
def eM (ob:List (Option Ob)) (k:Nat):Bool:=Nat.beq ob.length k
def DA {α β:Type}:List α->α->(List α->Option β)->Option β
 | [],a,k=>k [a]
 | b::l,a,k=>DA l a fun r=>k (b::r)
theorem Iq {α β:Type}:∀{l:List α}{a:α}{k:List α->Option β}{r:β},DA l a k=some r->k (l++[a])=some r
 | [],a,k,r,h=>h
 | b::l,a,k,r,h=>Iq (l:=l) (k:=fun r=>k (b::r)) h
def zF {β:Type}:List Value->(List AV->Option β)->Option β
 | [],k=>k []
 | v::l,k=>zF l fun r=>k (tv v::r)
theorem LD {β:Type}:∀{l:List Value}{k:List AV->Option β}{r:β},zF l k=some r->k (l.map tv)=some r
 | [],k,r,h=>h
 | b::l,k,r,h=>LD (l:=l) (k:=fun r=>k (tv b::r)) h
def Cm (T:List (Nat×TI)) (t k:Nat) (ob:List (Option Ob)):Option (List (Option Ob)):=match eM ob k with
 | true=>match bX T t with
  | some i=>zF i.zero fun l=>DA ob (some ⟨t,0,l⟩) some
  | none=>none
 | false=>none
theorem Yu (hT:cH x.P T){t k:Nat}(h:Cm T t k ob=some ob'):OS x ⟨some d,.alloc t,ty,pos,af,gd⟩ g ob [] (fun g' ob2=>g'=bG g d (.one (.pt k 0))/\ob2=ob'):=by
 unfold Cm at h
 split at h
 ·rename_i hk
  split at h
  ·rename_i i hi
   have h:=LD h
   have h:=Iq h
   injection h with h
   subst h
   obtain⟨j,v,h1,h2,h3⟩:=(dX hT hi).2.2.1
   have hk:=Nat.eq_of_beq_eq_true hk
   subst hk
   intro cs ts W hR K Q kk
   have hrun:(execOp (Act.eval ⟨ts,[]⟩) ⟨some d,.alloc t,ty,pos,af,gd⟩).run x.P W=.ok (.value (.pointer (some ⟨W.heap.size,0,none⟩))) (W.alloc (.cells i.zero.toArray t)):=by
    simp[execOp,Instr.alloc,zeroValue,typeInfo,h1,h2,newVar,newRow,h3]
   obtain⟨m1,m2⟩:=hR.made (t:=t) (z:=0) (c:=0) (pH i.zero) (yR _) (by simp) (Nat.zero_le _)
   refine eN hrun (kk _ _ _ _ _ ⟨rfl,rfl⟩ (m1.put d ?_) ((m2 (some d)).then_put _))
   refine jX ?_
   simp only[AR]
   exact⟨W.heap.size,by rw[hR.len,iT],rfl⟩
  cases h
 cases h
def Yv (t k:Nat) (v:FV) (ob:List (Option Ob)):Option (List (Option Ob)):=match eM ob k with
 | true=>match Cl v with
  | some l=>DA ob (some ⟨t,0,l⟩) some
  | none=>none
 | false=>none
theorem aBr {t k:Nat}{a:Operand}(h:Yv t k (lk x.n g a) ob=some ob'):OS x ⟨some d,.box t a,ty,pos,af,gd⟩ g ob [] (fun g' ob2=>g'=bG g d (.one (.pt k 0))/\ob2=ob'):=by
 unfold Yv at h
 split at h
 ·rename_i hk
  split at h
  ·rename_i l hl
   have h:=Iq h
   injection h with h
   subst h
   have hk:=Nat.eq_of_beq_eq_true hk
   subst hk
   intro cs ts W hR K Q kk
   obtain⟨us,e,hA,hr⟩:=Vl hl (hR.lk a)
   have hrun:(execOp (Act.eval ⟨ts,[]⟩) ⟨some d,.box t a,ty,pos,af,gd⟩).run x.P W=.ok (.value (.pointer (some ⟨W.heap.size,0,none⟩))) (W.alloc (.cells us.toArray t)):=by
    simp[execOp,Instr.box,newVar,newRow,e]
   obtain⟨m1,m2⟩:=hR.made (t:=t) (z:=0) (c:=0) hA hr (by simp) (Nat.zero_le _)
   refine eN hrun (kk _ _ _ _ _ ⟨rfl,rfl⟩ (m1.put d ?_) ((m2 (some d)).then_put _))
   refine jX ?_
   simp only[AR]
   exact⟨W.heap.size,by rw[hR.len,iT],rfl⟩
  cases h
 cases h
def eD {α:Type}(l:List α) (o:Nat) (us:List α):List α:=l.take o++us++l.drop (o+us.length)
theorem HZ {α β:Type}(f:α->β) (l:List α) (o:Nat) (us:List α):(eD l o us).map f=eD (l.map f) o (us.map f):=by simp[eD,List.map_take,List.map_drop]
theorem PI {N:Nat->Prop}{l us:List AV}{l' us':List VT}{o:Nat}(h:bZ W N cs l l') (h':bZ W N cs us us'):bZ W N cs (eD l o us) (eD l' o us'):=by
 unfold eD
 rw[rQ h']
 exact Ec (Ec (mY o h) h') (pX _ h)
theorem RelC.over (hR:RelC x g ob cs ts W){k bb o:Nat}{bo:Ob}{us:List AV}{vs:List Value}(hk:ob[k]? =some (some bo)) (hbb:(co cs k).b=some bb) (hA:ARL W (x.fr W ob cs) cs us vs) (hr:fQ us=true) (hlo:dR us=true) (hle:o+us.length<=bo.l.length):
  ∃W' c',(storeCells ⟨bb,o,none⟩ vs).run x.P W=.ok () W'/\RelC x g (ob.set k (some ⟨bo.t,bo.z,eD bo.l o us⟩)) (cs.set k c') ts W'/\∀d,Aft [k] d ob cs ts W (ob.set k (some ⟨bo.t,bo.z,eD bo.l o us⟩)) (cs.set k c') ts W':=by
 obtain⟨⟨rest,k1,k1l⟩,k2,k3⟩:=hR.blk hk hbb
 have hcl:=hR.crl hk
 have hl1:(co cs k).l.length=bo.l.length:=rQ hcl
 have hl2:vs.length=us.length:=iG hA
 have hst:=run_storeCells_at (P:=x.P) bb o bo.t vs 0 _ W k1 (by simp;omega) (xA hA hlo)
 have hput:((co cs k).l.map VT.val++rest).take o++vs++((co cs k).l.map VT.val++rest).drop (o+vs.length)=(eD (co cs k).l o (vs.map .w)).map VT.val++rest:=by
  rw[HZ,wZ]
  unfold eD
  rw[List.take_append_of_le_length (by simp;omega),List.drop_append_of_le_length (by simp;omega)]
  simp
 have hrun:(storeCells ⟨bb,o,none⟩ vs).run x.P W=.ok () (W.setRow bb ((eD (co cs k).l o (vs.map .w)).map VT.val++rest).toArray):=by
  simp only[List.size_toArray]at hst⊢
  rw[<-hput]
  simpa[hl2]using hst
 have hz0:((co cs k).l.map VT.val++rest).length=((eD (co cs k).l o (vs.map .w)).map VT.val++rest).length:=by
  rw[<-hput]
  simp
  omega
 have hfp:(VT.fpL (eD (co cs k).l o (vs.map .w))).Sublist (VT.fpL (co cs k).l):=by
  unfold eD
  rw[oO,oO,oP,List.append_nil]
  have e3:(co cs k).l=(co cs k).l.take o++(co cs k).l.drop o:=(List.take_append_drop o _).symm
  conv=>rhs;rw[e3,oO]
  refine List.Sublist.append (List.Sublist.refl _) ?_
  rw[<-List.drop_drop]
  exact Qs _ _
 have hnd:(aQ (some bo) (co cs k)).S.Nodup:=hR.2.nd1 (List.mem_of_getElem? (cA hR.len hk))
 simp only[aQ,hbb]at hnd
 have hbn:=(List.nodup_cons.1 hnd).1
 have hok:VT.okL (W.setRow bb ((eD (co cs k).l o (vs.map .w)).map VT.val++rest).toArray) (eD (co cs k).l o (vs.map .w)):=by
  refine VT.okL_keep _ (W:=W) (fun b hb=>setRow_other W bb b _ (fun e=>hbn (by rw[<-e];exact hfp.subset hb))) ?_
  unfold eD
  rw[sG,sG]
  exact⟨⟨Am _ _ k2,wY _⟩,Qt _ _ k2⟩
 exact⟨_,_,hrun,hR.upd (W':=W.setRow bb ((eD (co cs k).l o (vs.map .w)).map VT.val++rest).toArray) hk ⟨bo.t,bo.z,eD bo.l o us⟩ ⟨some bb,(co cs k).c,eD (co cs k).l o (vs.map .w)⟩
  ⟨rfl,rfl,rfl,by simp,fun j _ hj=>setRow_other W bb j _ (fun e=>hj (by simp[aQ,hbb,e]))⟩ hbb.symm rfl
  (by
   simp only[aQ]
   refine⟨⟨rest,setRow_heap W bb _ _ bo.t _ k1,?_⟩,hok,k3⟩
   rw[<-hz0,k1l]
   have:(eD (co cs k).l o (vs.map .w)).length=(co cs k).l.length:=by
    unfold eD
    simp
    omega
   rw[this])
  (fun b hb=>by
   simp only[aQ,hbb]at hb⊢
   rcases List.mem_cons.1 hb with rfl | hb
   ·exact .inl (by simp)
   exact .inl (List.mem_cons_of_mem _ (hfp.subset hb)))
  (by
   simp only[aQ]
   exact List.nodup_cons.2 ⟨fun h=>hbn (hfp.subset h),(List.nodup_cons.1 hnd).2.sublist hfp⟩)
  (fun hk' hN hs=>by
   have a1:=dI hk' hN hs _ _ hcl
   have a2:=vS (ARL_keep hk' hN hs _ _ hA) hr
   exact PI a1 a2)
  (fun e=>by cases e)⟩
theorem Ir {t k o:Nat}{i:TI}{a b:Operand}{bo:Ob}{us l':List AV}(hT:cH x.P T) (hi:bX T t=some i) (ha:lk x.n g a=.one (.pt k o)) (hb:Cl (lk x.n g b)=some us) (hlo:dR us=true) (hsz:Nat.beq us.length i.size=true) (ho:cR ob k=some bo)
  (hle:o+us.length<=bo.l.length) (hl:eD bo.l o us=l'):OS x ⟨none,.store t a b,ty,pos,af,gd⟩ g ob [k] (fun g' ob2=>g'=g/\ob2=ob.set k (some ⟨bo.t,bo.z,l'⟩)):=by
 subst hl
 have hk:=dL ho
 have hsz:=Nat.eq_of_beq_eq_true hsz
 obtain⟨ii,e1,e2⟩:=(dX hT hi).2.1
 intro cs ts W hR K Q kk
 have hp:=hR.lk a
 rw[ha]at hp
 simp only[bV,cE,AR]at hp
 obtain⟨bb,hbb,e⟩:=hp
 obtain⟨vs,ev,hA,hr⟩:=Vl hb (hR.lk b)
 have hl2:vs.length=us.length:=iG hA
 obtain⟨W',c',hst,m1,m2⟩:=hR.over hk hbb hA hr hlo hle
 have hrun:(execOp (Act.eval ⟨ts,[]⟩) ⟨none,.store t a b,ty,pos,af,gd⟩).run x.P W=.ok .skip W':=by
  simp[execOp,e,ev,Instr.storeAt,Instr.sureAddr,storeVar,sizeOf,typeInfo,e1,e2,hl2,hsz,hst]
 unfold Oper.wp
 rw[hrun]
 exact kk _ _ _ _ _ ⟨rfl,rfl⟩ m1 (m2 none)
def Kg {α β:Type}:List α->Nat->α->(List α->Option β)->Option β
 | [],_,_,k=>k []
 | _::l,0,a,k=>k (a::l)
 | b::l,n+1,a,k=>Kg l n a fun r=>k (b::r)
theorem Vm {α β:Type}:∀{l:List α}{n:Nat}{a:α}{k:List α->Option β}{r:β},Kg l n a k=some r->k (l.set n a)=some r
 | [],_,_,_,_,h=>by simpa[Kg]using h
 | _::_,0,_,_,_,h=>by simpa[Kg]using h
 | b::l,n+1,a,k,r,h=>by
  have:=Vm (l:=l) (n:=n) (k:=fun r=>k (b::r)) (by simpa[Kg]using h)
  simpa using this
def zI (i:TI) (ob:List (Option Ob)) (v:FV):FV->Option (List (Option Ob))
 | .one (.pt k o)=>match Cl v with
  | some us=>match dR us&&Nat.beq us.length i.size with
   | true=>match cR ob k with
    | some bo=>dp (o+us.length) bo.l fun r=>tk o bo.l fun h=>all (h++us++r) fun l=>Kg ob k (some ⟨bo.t,bo.z,l⟩) some
    | none=>none
   | false=>none
  | none=>none
 | _=>none
theorem Nl {t:Nat}{i:TI}{a b:Operand}(hT:cH x.P T) (hi:bX T t=some i) (h:zI i ob (lk x.n g b) (lk x.n g a)=some ob'):∃k,OS x ⟨none,.store t a b,ty,pos,af,gd⟩ g ob [k] (fun g' ob2=>g'=g/\ob2=ob')/\∃o,lk x.n g a=.one (.pt k o):=by
 unfold zI at h
 split at h
 ·rename_i k o ha
  split at h
  ·rename_i us hb
   split at h
   ·rename_i hc
    rw[Bool.and_eq_true]at hc
    split at h
    ·rename_i bo ho
     obtain⟨d1,d2⟩:=Aj h
     obtain⟨d3,d4⟩:=Ah d2
     have d5:=Vm (In d4)
     injection d5 with d5
     subst d5
     exact⟨k,Ir hT hi ha hb hc.1 hc.2 ho d1 rfl,o,ha⟩
    cases h
   cases h
  cases h
 cases h
end
abbrev Post:=Exit->(Nat->FV)->List (Option Ob)->Prop
def Lf (x:Cx) (Q:Post):Exit->Act->World->Prop
 | .panic _,_,_=>False
 | e,a,W=>∃g ob ts,a=⟨ts,[]⟩/\Gz x g ob ts W/\Q e g ob
def WP (x:Cx) (c:Code) (g:Nat->FV) (ob:List (Option Ob)) (Q:Post):Prop:=∀ts W,Gz x g ob ts W->c.wp x.P (Lf x Q) ⟨ts,[]⟩ W
def WL (x:Cx) (ops:Array Oper) (rest:List Oper) (g:Nat->FV) (ob:List (Option Ob)) (Q:Post):Prop:=∀ts W,Gz x g ob ts W->wpList x.P ops (Lf x Q) rest ⟨ts,[]⟩ W
abbrev Yw (K:(Nat->FV)->List (Option Ob)->Prop) (Q:Post):Post
 | .normal,g,ob=>K g ob
 | e,g,ob=>Q e g ob
abbrev IA (id:Nat) (Q:Post):Post
 | .exit id',g,ob=>bif Nat.beq id' id then Q .normal g ob else Q (.exit id') g ob
 | e,g,ob=>Q e g ob
section
variable {x:Cx}{g g':Nat->FV}{ob ob':List (Option Ob)}{cs cs':List Co}{ts ts':Array Value}{W W':World}{T:List (Nat×TI)}{Q:Post}{ops:Array Oper}{rest:List Oper}
theorem sq {a b:Code}(h:WP x a g ob (Yw (fun g ob=>WP x b g ob Q) Q)):WP x (.seq a b) g ob Q:=fun ts W hR=>
 wp_seq (wp_mono (h ts W hR) fun e a w hq=>by
  cases e with
  | normal=>
   obtain⟨g,ob,ts,rfl,h1,h2⟩:=hq
   exact h2 ts w h1
  | panic c=>exact hq
  | exit id=>exact hq
  | goto l=>exact hq
  | ret=>exact hq
  | outgrown=>exact hq)
theorem bl {id:Nat}{c:Code}(h:WP x c g ob (IA id Q)):WP x (.block id c) g ob Q:=fun ts W hR=>
 wp_block (wp_mono (h ts W hR) fun e a w hq=>by
  cases e with
  | normal=>exact hq
  | panic c=>exact hq
  | exit id'=>
   obtain⟨g,ob,ts,rfl,h1,h2⟩:=hq
   simp only[Exit.inBlock]
   split
   ·rename_i e
    subst e
    simp only[IA,Nat.beq_refl,cond_true]at h2
    exact⟨g,ob,ts,rfl,h1,h2⟩
   rename_i e
   have:Nat.beq id' id=false:=by
    cases hb:Nat.beq id' id
    ·rfl
    exact absurd (Nat.eq_of_beq_eq_true hb) e
   simp only[IA,this,cond_false]at h2
   exact⟨g,ob,ts,rfl,h1,h2⟩
  | goto l=>exact hq
  | ret=>exact hq
  | outgrown=>exact hq)
theorem sk (h:Q .normal g ob):WP x .skip g ob Q:=fun ts _ hR=>wp_skip ⟨g,ob,ts,rfl,hR,h⟩
theorem ex {id:Nat}(h:Q (.exit id) g ob):WP x (.exit id) g ob Q:=fun ts _ hR=>wp_exit ⟨g,ob,ts,rfl,hR,h⟩
theorem rt (h:Q .ret g ob):WP x .ret g ob Q:=fun ts _ hR=>wp_ret ⟨g,ob,ts,rfl,hR,h⟩
theorem rH {c:Operand}{a b:Code}{q:Bool}(h:lk x.n g c=.one (tv (.bool q))) (h1:q=true->WP x a g ob Q) (h2:q=false->WP x b g ob Q):WP x (.cond c a b) g ob Q:=fun ts W hR=>by
 obtain⟨cs,hC⟩:=hR
 have e:=hC.lk c
 rw[h]at e
 exact wp_cond_split (bE e) (fun hq=>h1 hq ts W ⟨cs,hC⟩) (fun hq=>h2 hq ts W ⟨cs,hC⟩)
theorem aV {c:Operand}{a b:Code}{p:Prop} [Decidable p] (h:lk x.n g c=.one (tv (.bool (decide p)))) (h1:p->WP x a g ob Q) (h2:¬p->WP x b g ob Q):WP x (.cond c a b) g ob Q:=
 rH h (fun hq=>h1 (of_decide_eq_true hq)) (fun hq=>h2 (of_decide_eq_false hq))
theorem eU {c:Operand}{a b:Code}(h:lk x.n g c=.one (tv (.bool true))) (h1:WP x a g ob Q):WP x (.cond c a b) g ob Q:=rH h (fun _=>h1) (fun h=>by cases h)
theorem dY {c:Operand}{a b:Code}(h:lk x.n g c=.one (tv (.bool false))) (h1:WP x b g ob Q):WP x (.cond c a b) g ob Q:=rH h (fun h=>by cases h) (fun _=>h1)
theorem rl {id:Nat}{l:List Oper}(h:WL x l.toArray l g ob Q):WP x (.region id l.toArray false) g ob Q:=fun ts W hR=>wp_region_lit (h ts W hR)
theorem nl (h:Q .normal g ob):WL x ops [] g ob Q:=fun ts _ hR=>wpList_nil ⟨g,ob,ts,rfl,hR,h⟩
def bK (ops:Array Oper) (n:Nat) (g:Nat->FV):Option (Nat×Bool)->Option Bool
 | none=>some true
 | some (gi,gb)=>match(ops[gi]?).bind (·.dst)with
  | some t=>match lk n g (.tmp t)with
   | .one (.t (.v (.bool b)))=>some (b==gb)
   | .one (.t (.v (.tuple _)))=>some false
   | _=>none
  | none=>none
theorem lW {o:Oper}{b:Bool}(h:bK ops x.n g o.guard=some b) (hR:RelC x g ob cs ts W):Region.wanted o (yielded ops ts)=b:=by
 obtain⟨d,op,ty,pos,af,gd⟩:=o
 cases gd with
 | none=>
  simp[bK]at h
  subst h
  rfl
 | some p=>
  obtain⟨gi,gb⟩:=p
  dsimp only[bK]at h
  split at h
  ·rename_i t ht
   split at h
   ·rename_i b' hb
    have e:=hR.lk (.tmp t)
    rw[hb]at e
    have e:=bE (x:=.bool b') e
    have e0:yielded ops ts gi=some b':=by
     have e1:ts[t]? =some (.bool b'):=by
      simp only[Act.eval]at e
      cases hq:ts[t]? with
      | none=>
       simp[hq]at e
       cases e
      | some u=>
       simp[hq]at e
       rw[e]
     simp[yielded,ht,e1]
    injection h with h
    subst h
    simp[Region.wanted,e0]
   ·rename_i r hb
    have e:=hR.lk (.tmp t)
    rw[hb]at e
    have e:=bE (x:=.tuple r) e
    have e0:yielded ops ts gi=none:=by
     simp only[yielded,ht,Option.bind_some]
     simp only[Act.eval]at e
     cases hq:ts[t]? with
     | none=>rfl
     | some u=>
      simp[hq]at e
      rw[e]
    injection h with h
    subst h
    simp[Region.wanted,e0]
   cases h
  cases h
theorem gY {o:Oper}{Wr:List Nat}{R:(Nat->FV)->List (Option Ob)->Prop}(h:OS x o g ob Wr R) (hw:bK ops x.n g o.guard=some true) (k:∀g' ob',R g' ob'->WL x ops rest g' ob' Q):WL x ops (o::rest) g ob Q:=fun ts W ⟨cs,hR⟩=>
 Bk (lW hw hR) (h cs ts W hR _ _ fun g' ob' cs' ts' W' hr hR' _=>k g' ob' hr ts' W' ⟨cs',hR'⟩)
theorem aCN {o:Oper}{d:Nat}(hw:bK ops x.n g o.guard=some false) (hd:o.dst=some d) (k:WL x ops rest (bG g d (.one (tv undef))) ob Q):WL x ops (o::rest) g ob Q:=fun ts W ⟨cs,hR⟩=>
 ZR (lW hw hR) (by rw[hd];exact k _ W ⟨cs,hR.put d (v:=.one (tv undef)) (jX (by simp[tv,AR,FR]))⟩)
theorem w_v {o:Op}{d:Nat}{ty:TypeId}{pos:String}{af:Array Edge}{gd:Option (Nat×Bool)}{C:Prop}{v:FV}(hT:cH x.P T) (hw:bK ops x.n g gd=some true) (h:yP T x.n g o=some (C,v)) (hC:C) (k:WL x ops rest (bG g d v) ob Q):WL x ops (⟨some d,o,ty,pos,af,gd⟩::rest) g ob Q:=
 gY (GR hT h hC) hw (by rintro _ _ ⟨rfl,rfl⟩;exact k)
theorem XW {t d:Nat}{ty:TypeId}{pos:String}{af:Array Edge}{gd:Option (Nat×Bool)}{i:TI}{a:Operand}{C:Prop}{v:FV}(hT:cH x.P T) (hw:bK ops x.n g gd=some true) (hi:bX T t=some i) (h:yQ ob i (lk x.n g a)=some (C,v)) (k:WL x ops rest (bG g d v) ob Q):WL x ops (⟨some d,.load t a,ty,pos,af,gd⟩::rest) g ob Q:=
 gY (Nx hT hi h) hw (by rintro _ _ ⟨rfl,rfl⟩;exact k)
theorem aBs {t d:Nat}{ty:TypeId}{pos:String}{af:Array Edge}{gd:Option (Nat×Bool)}{i:TI}{a:Operand}{v:FV}{l us:List Tr}{of:Nat}(hT:cH x.P T) (hw:bK ops x.n g gd=some true) (hi:bX T t=some i) (h:lk x.n g a=.one (.ef l of)) (hl:(l.drop of).take us.length=us) (hv:Qr i us=some v) (k:WL x ops rest (bG g d v) ob Q):WL x ops (⟨some d,.load t a,ty,pos,af,gd⟩::rest) g ob Q:=
 gY (XV hT hi h hl hv) hw (by rintro _ _ ⟨rfl,rfl⟩;exact k)
theorem aCO {t d k:Nat}{ty:TypeId}{pos:String}{af:Array Edge}{gd:Option (Nat×Bool)}(hT:cH x.P T) (hw:bK ops x.n g gd=some true) (h:Cm T t k ob=some ob') (kk:WL x ops rest (bG g d (.one (.pt k 0))) ob' Q):WL x ops (⟨some d,.alloc t,ty,pos,af,gd⟩::rest) g ob Q:=
 gY (Yu hT h) hw (by rintro _ _ ⟨rfl,rfl⟩;exact kk)
theorem aCP {t d k:Nat}{a:Operand}{ty:TypeId}{pos:String}{af:Array Edge}{gd:Option (Nat×Bool)}(hw:bK ops x.n g gd=some true) (h:Yv t k (lk x.n g a) ob=some ob') (kk:WL x ops rest (bG g d (.one (.pt k 0))) ob' Q):WL x ops (⟨some d,.box t a,ty,pos,af,gd⟩::rest) g ob Q:=
 gY (aBr h) hw (by rintro _ _ ⟨rfl,rfl⟩;exact kk)
theorem aCQ {t:Nat}{i:TI}{a b:Operand}{ty:TypeId}{pos:String}{af:Array Edge}{gd:Option (Nat×Bool)}(hT:cH x.P T) (hw:bK ops x.n g gd=some true) (hi:bX T t=some i) (h:zI i ob (lk x.n g b) (lk x.n g a)=some ob') (kk:WL x ops rest g ob' Q):WL x ops (⟨none,.store t a b,ty,pos,af,gd⟩::rest) g ob Q:=by
 obtain⟨k,hs,_⟩:=Nl (ty:=ty) (pos:=pos) (af:=af) (gd:=gd) hT hi h
 exact gY hs hw (by rintro _ _ ⟨rfl,rfl⟩;exact kk)
def Sub (x:Cx) (g:Nat->FV) (ob:List (Option Ob)) (g':Nat->FV) (ob':List (Option Ob)):Prop:=∀ts W,Gz x g ob ts W->Gz x g' ob' ts W
theorem lp {γ:Type}{c:Code}(I:γ->Nat->FV) (O:γ->List (Option Ob)) (p:γ->Prop) (m:γ->Nat) (s0:γ) (h0:p s0) (hs:Sub x g ob (I s0) (O s0)) (round:∀s,p s->WP x c (I s) (O s) (Yw (fun g ob=>∃s',m s'<m s/\p s'/\Sub x g ob (I s') (O s')) Q)):WP x (.loop c) g ob Q:=fun ts W hR=>by
 refine FI (fun k a W=>∃s ts,a=⟨ts,[]⟩/\k=m s/\p s/\Gz x (I s) (O s) ts W) (m s0) ⟨s0,ts,rfl,rfl,h0,hs ts W hR⟩ ?_
 rintro _ _ W ⟨s,ts,rfl,rfl,hp,hR⟩
 refine wp_mono (round s hp ts W hR) fun e a w hq=>?_
 cases e with
 | normal=>
  obtain⟨g,ob,ts,rfl,h1,s',h2,h3,h4⟩:=hq
  exact⟨m s',h2,s',ts,rfl,rfl,h3,h4 ts w h1⟩
 | panic c=>exact hq
 | exit id=>exact hq
 | goto l=>exact hq
 | ret=>exact hq
 | outgrown=>exact hq
theorem WP.sub {c:Code}(h:Sub x g ob g' ob') (k:WP x c g' ob' Q):WP x c g ob Q:=fun ts W hR=>k ts W (h ts W hR)
theorem md {γ:Type}{a b:Code}(I:γ->Nat->FV) (O:γ->List (Option Ob)) (p:γ->Prop) (h:WP x a g ob (Yw (fun g ob=>∃s,p s/\Sub x g ob (I s) (O s)) Q)) (k:∀s,p s->WP x b (I s) (O s) Q):WP x (.seq a b) g ob Q:=by
 refine sq fun ts W hR=>wp_mono (h ts W hR) fun e a w hq=>?_
 cases e with
 | normal=>
  obtain⟨g,ob,ts,rfl,h1,s,h2,h3⟩:=hq
  exact⟨g,ob,ts,rfl,h1,fun ts' W' hR'=>k s h2 ts' W' (h3 ts' W' hR')⟩
 | panic c=>exact hq
 | exit id=>exact hq
 | goto l=>exact hq
 | ret=>exact hq
 | outgrown=>exact hq
end
def qY (fr:List Nat) (g:Nat->FV) (i:Nat):FV:=bif fr.any (Nat.beq i)then .any else g i
structure Kept (x:Cx) (K fr:List Nat) (Kp:Nat->Prop) (W1:World) (g:Nat->FV) (ob:List (Option Ob)) (cs:List Co) (ts:Array Value) (W:World):Prop where
 same:∀b,Kp b->W.heap[b]? =W1.heap[b]?
 free:∀b,Kp b->b∉dO ob cs\/∃k∈K,∃o,ob[k]? =some (some o)/\(co cs k).b=some b
 ks:∀k∈K,∀o,ob[k]? =some (some o)->(∀b,(co cs k).b=some b->Kp b)/\bZ W (fun b=>x.fr W ob cs b/\Kp b) cs o.l (co cs k).l
 fv:∀i,i<x.n->∃u,ts[i]? =some u/\bV W (fun b=>x.fr W ob cs b/\Kp b) cs (qY fr g i) u
def Sw (Kp:Nat->Prop) (W1:World) (W:World):Prop:=∀b,Kp b->W.heap[b]? =W1.heap[b]?
def WD (x:Cx) (ops:Array Oper) (Q:Post) (late:Nat->Bool) (K fr:List Nat) (on:Bool) (fuel:Nat) (listed:Array Bool) (g:Nat->FV) (ob:List (Option Ob)):Prop:=
 ∀(Kp:Nat->Prop) (W1:World) cs ts W,RelC x g ob cs ts W->(∀b,Kp b->b<W1.heap.size)->W1.heap.size<=W.heap.size->(on=true->Kept x K fr Kp W1 g ob cs ts W)->xR x.P ops (Lf x Q) (Sw Kp W1) late fuel listed ⟨ts,[]⟩ W
section
variable {x:Cx}{g g':Nat->FV}{ob ob':List (Option Ob)}{cs cs':List Co}{ts ts':Array Value}{W W' W1:World}{T:List (Nat×TI)}{Q:Post}{ops:Array Oper}{late:Nat->Bool}{K fr:List Nat}{on:Bool}{fuel:Nat}{listed:Array Bool}{Kp:Nat->Prop}
theorem RelC.drew (h:RelC x g ob cs ts W):RelC x g ob cs ts W.drew:=⟨h.1,h.2.drew,h.3⟩
theorem rd {id:Nat}{l:List Oper}(K:List Nat) (late:Nat->Bool) (hm:x.P.follows .mixedOrders=true) (h:WD x l.toArray Q late K [] true l.toArray.size (Array.replicate l.toArray.size false) g ob):WP x (.region id l.toArray true) g ob Q:=fun ts W ⟨cs,hR⟩=>by
 refine Ta (Sw (fun b=>x.fr W.drew ob cs b\/∃k∈K,∃o,ob[k]? =some (some o)/\(co cs k).b=some b) W.drew) late hm ?_
 have hR':=hR.drew
 refine h _ _ cs ts W.drew hR' (fun b hb=>?_) (aX _) fun _=>⟨fun _ _=>rfl,fun b hb=>?_,fun k hk o ho=>⟨fun b hb=>.inr ⟨k,hk,o,ho,hb⟩,?_⟩,fun i hi=>?_⟩
 ·rcases hb with hb | ⟨k,_,o,ho,hb⟩
  ·exact hb.1.1
  obtain⟨⟨r,e,_⟩,_⟩:=hR'.blk ho hb
  exact(Array.getElem?_eq_some_iff.1 e).1
 ·rcases hb with hb | hb
  ·exact .inl hb.1.2
  exact .inr hb
 ·exact dI (fun _ _=>rfl) (fun b hb=>⟨hb,.inl hb⟩) .refl _ _ (hR'.crl ho)
 obtain⟨u,h1,h2⟩:=hR'.fv hi
 exact⟨u,h1,gC (fun _ _=>rfl) (fun b hb=>⟨hb,.inl hb⟩) .refl _ _ (by simpa[qY]using h2)⟩
def pY (ops:Array Oper) (late:Nat->Bool) (listed:Array Bool) (i:Nat):Bool:=Region.noSelect ops&&(Region.free .any ops listed i&&((Region.ready .any ops listed).contains i&&Tw ops late i))
theorem Kept.lk (h:Kept x K fr Kp W1 g ob cs ts W) (hs:ts.size=x.n) (o:Operand):bV W (fun b=>x.fr W ob cs b/\Kp b) cs (lk x.n (qY fr g) o) (Act.eval ⟨ts,[]⟩ o):=by
 cases o with
 | tmp t=>
  simp only[Go.Proofs.YtimiaildfkimfaaGreatDoor.lk,Act.eval]
  cases hb:Nat.blt t x.n with
  | false=>simp[bV,cE]
  | true=>
   have ht:t<x.n:=by simpa[Nat.blt,Nat.lt_iff_add_one_le]using hb
   obtain⟨u,h1,h2⟩:=h.fv t ht
   simp[h1]
   exact h2
 | const v=>
  cases v <;> simp only[Go.Proofs.YtimiaildfkimfaaGreatDoor.lk,Act.eval] <;> first
   | (simp[bV,cE,AR,FR,tv];done)
   | exact⟨_,by simp,pH _⟩
 | func f=>exact⟨[],[],rfl,by simp[FRL],by simp[FRL]⟩
 | global _=>simp[Go.Proofs.YtimiaildfkimfaaGreatDoor.lk,bV,cE]
theorem Kept.put (h:Kept x K fr Kp W1 g ob cs ts W) (hs:ts.size=x.n){d:Nat}{v:FV}{u:Value}(hv:bV W (fun b=>x.fr W ob cs b/\Kp b) cs v u):Kept x K fr Kp W1 (bG g d v) ob cs (ts.setIfInBounds d u) W:=by
 refine⟨h.same,h.free,h.ks,fun i hi=>?_⟩
 by_cases e:i=d
 ·subst e
  have:i<ts.size:=by rw[hs];exact hi
  refine⟨u,by simp[this],?_⟩
  unfold qY
  cases fr.any (Nat.beq i)
  ·simpa[bG]using hv
  simp[bV,cE]
 have hb:Nat.beq i d=false:=by
  cases hq:Nat.beq i d
  ·rfl
  exact absurd (Nat.eq_of_beq_eq_true hq) e
 rw[Array.getElem?_setIfInBounds_ne (fun h=>e h.symm)]
 obtain⟨u',h1,h2⟩:=h.fv i hi
 refine⟨u',h1,?_⟩
 unfold qY at h2⊢
 cases hq:fr.any (Nat.beq i)
 ·simpa[bG,hb,hq]using h2
 simp[bV,cE]
theorem Kept.putAny (h:Kept x K fr Kp W1 g ob cs ts W) (hs:ts.size=x.n) (d:Nat) (v:FV) (u:Value):Kept x K (d::fr) Kp W1 (bG g d v) ob cs (ts.setIfInBounds d u) W:=by
 refine⟨h.same,h.free,h.ks,fun i hi=>?_⟩
 by_cases e:i=d
 ·subst e
  have:i<ts.size:=by rw[hs];exact hi
  exact⟨u,by simp[this],by simp[qY,bV,cE]⟩
 have hb:Nat.beq i d=false:=by
  cases hq:Nat.beq i d
  ·rfl
  exact absurd (Nat.eq_of_beq_eq_true hq) e
 rw[Array.getElem?_setIfInBounds_ne (fun h=>e h.symm)]
 obtain⟨u',h1,h2⟩:=h.fv i hi
 refine⟨u',h1,?_⟩
 unfold qY at h2⊢
 simp only[List.any_cons,hb,Bool.false_or]
 cases hq:fr.any (Nat.beq i)
 ·simpa[bG,hb,hq]using h2
 simp[bV,cE]
variable {d:Nat}{op:Op}{ty:TypeId}{pos:String}{af:Array Edge}{gd:Option (Nat×Bool)}{i:Nat}
theorem Kh {v:FV}(hi:ops[i]? =some ⟨some d,op,ty,pos,af,gd⟩) (hst:pY ops late listed i=true) (hw:bK ops x.n g gd=some true)
  (hy:∀Kp W1 cs ts W,RelC x g ob cs ts W->Kept x K fr Kp W1 g ob cs ts W->∃u,(∀W',Sw Kp W1 W'->(execOp (Act.eval ⟨ts,[]⟩) ⟨some d,op,ty,pos,af,gd⟩).run x.P W'=.ok (.value u) W')/\bV W (x.fr W ob cs) cs v u/\bV W (fun b=>x.fr W ob cs b/\Kp b) cs v u)
  (k:WD x ops Q late K fr true fuel (listed.setIfInBounds i true) (bG g d v) ob):WD x ops Q late K fr true (fuel+1) listed g ob:=by
 intro Kp W1 cs ts W hR hK1 hK2 hon
 have hk:=hon rfl
 obtain⟨u,hrun,hv,hv'⟩:=hy Kp W1 cs ts W hR hk
 simp only[pY,Bool.and_eq_true]at hst
 obtain⟨s1,s2,s3,s4⟩:=hst
 exact Bl hi (Region.noSelect_spec s1) (fun c a w h=>h) (fun j oj hj hlj=>vG s4 j oj hj hlj) fuel listed _ W (Region.free_spec hi s2) (by simpa using s3) (.inl ⟨lW hw hR,fun W' hW'=>hrun W' hW'⟩) hk.same
  (k Kp W1 cs _ W (hR.put d hv) hK1 hK2 fun _=>hk.put hR.1 hv')
theorem dt {C:Prop}{v:FV}(i:Nat) (hT:cH x.P T) (hi:ops[i]? =some ⟨some d,op,ty,pos,af,gd⟩) (hst:pY ops late listed i=true) (hw:bK ops x.n g gd=some true) (h:yP T x.n (qY fr g) op=some (C,v)) (hC:C) (hg:yP T x.n g op=some (C,v))
  (k:WD x ops Q late K fr true fuel (listed.setIfInBounds i true) (bG g d v) ob):WD x ops Q late K fr true (fuel+1) listed g ob:=by
 refine Kh hi hst hw (fun Kp W1 cs ts W hR hk=>?_) k
 obtain⟨u,hrun,hv⟩:=Ke (d:=some d) (ty:=ty) (pos:=pos) (af:=af) (gd:=gd) hT (hk.lk hR.1) h hC
 exact⟨u,fun W' _=>hrun W',gC (fun _ _=>rfl) (fun b hb=>hb.1) .refl _ _ hv,hv⟩
theorem dtf {C:Prop}{v:FV}(i:Nat) (hT:cH x.P T) (hi:ops[i]? =some ⟨some d,op,ty,pos,af,gd⟩) (hst:pY ops late listed i=true) (hw:bK ops x.n g gd=some true) (h:yP T x.n g op=some (C,v)) (hC:C)
  (k:WD x ops Q late K (d::fr) true fuel (listed.setIfInBounds i true) (bG g d v) ob):WD x ops Q late K fr true (fuel+1) listed g ob:=by
 intro Kp W1 cs ts W hR hK1 hK2 hon
 have hk:=hon rfl
 obtain⟨u,hrun,hv⟩:=Ke (d:=some d) (ty:=ty) (pos:=pos) (af:=af) (gd:=gd) hT hR.lk h hC
 simp only[pY,Bool.and_eq_true]at hst
 obtain⟨s1,s2,s3,s4⟩:=hst
 exact Bl hi (Region.noSelect_spec s1) (fun c a w h=>h) (fun j oj hj hlj=>vG s4 j oj hj hlj) fuel listed _ W (Region.free_spec hi s2) (by simpa using s3) (.inl ⟨lW hw hR,fun W' _=>hrun W'⟩) hk.same
  (k Kp W1 cs _ W (hR.put d hv) hK1 hK2 fun _=>hk.putAny hR.1 d v u)
theorem dl {t:Nat}{ti:TI}{a:Operand}{C:Prop}{v:FV}(i:Nat) (hT:cH x.P T) (hi:ops[i]? =some ⟨some d,.load t a,ty,pos,af,gd⟩) (hst:pY ops late listed i=true) (hw:bK ops x.n g gd=some true) (hti:bX T t=some ti)
  {key off:Nat}(hlk:lk x.n g a=.one (.pt key off)) (hK:K.contains key=true) (h:yQ ob ti (.one (.pt key off))=some (C,v))
  (k:WD x ops Q late K fr true fuel (listed.setIfInBounds i true) (bG g d v) ob):WD x ops Q late K fr true (fuel+1) listed g ob:=by
 refine Kh hi hst hw (fun Kp W1 cs ts W hR hk=>?_) k
 rw[<-hlk]at h
 obtain⟨k',o',b,e1,hb,u,hrun,hv⟩:=Kf hT hti h hR (o:=⟨some d,.load t a,ty,pos,af,gd⟩) rfl
 rw[hlk]at e1
 injection e1 with e1
 injection e1 with e1 e2
 subst e1 e2
 have hmem:key∈K:=by simpa using hK
 have hob:∃o,ob[key]? =some (some o):=by
  rw[hlk]at h
  unfold yQ at h
  dsimp only at h
  split at h
  ·rename_i bo hbo
   exact⟨bo,dL hbo⟩
  cases h
 obtain⟨o,ho⟩:=hob
 obtain⟨kk1,kk2⟩:=hk.ks key hmem o ho
 have hKp:=kk1 b hb
 refine⟨u,fun W' hW'=>hrun W' ((hW' b hKp).trans (hk.same b hKp).symm),hv,?_⟩
 -- once more, by what is kept
 rw[hlk]at h
 unfold yQ at h
 dsimp only at h
 split at h
 ·rename_i bo hbo
  have:bo=o:=by
   have:=(dL hbo).symm.trans ho
   injection this with this
   injection this
  subst this
  have hp:=hR.lk a
  rw[hlk]at hp
  simp only[bV,cE,AR]at hp
  obtain⟨b',hb',e⟩:=hp
  rw[hb]at hb'
  injection hb' with hb'
  subst hb'
  obtain⟨k1,_,_⟩:=hR.blk ho hb
  obtain⟨d1,d2⟩:=Aj h
  have hty:=(dX hT hti).1
  have hcl:=kk2
  split at d2
  ·rename_i hag
   obtain⟨d3,d4⟩:=Ah d2
   obtain⟨d5,rfl⟩:=Eb d4
   rw[hag]at hty
   have hcl2:=tT (mY ti.size (pX off hcl)) d5
   rw[List.map_take,List.map_drop]at hcl2
   have hl:=iG hcl2
   have hl2:((((co cs key).l.map VT.val).drop off).take ti.size).length=ti.size:=by rw[hl,dU];omega
   have hr2:=Ff (P:=x.P) (w:=W) (d:=some d) (ty:=ty) (pos:=pos) (af:=af) (gd:=gd) hty e (qX k1 (us:=(((co cs key).l.map VT.val).drop off).take ti.size) (by rw[hl2])) hl2
   have hr1:=hrun W rfl
   rw[hr1]at hr2
   injection hr2 with hr2
   injection hr2 with hr2
   rw[hr2]
   exact⟨_,rfl,hcl2⟩
  rename_i hag
  split at d2
  ·rename_i a0 r hb'
   obtain⟨d5,rfl⟩:=Eb d2
   rw[hag]at hty
   have hcl2:=tT (mY 1 (pX off hcl)) (by rw[hb'];exact d5)
   rw[List.map_take,List.map_drop,hb']at hcl2
   have hl:=iG hcl2
   cases hu:((((co cs key).l.map VT.val).drop off).take 1)with
   | nil=>
    rw[hu]at hl
    simp at hl
   | cons u' us=>
    rw[hu]at hcl2 hl
    have:us=[]:=by simpa using hl
    subst this
    simp only[List.take_succ_cons,List.take_zero,ARL]at hcl2
    have hr2:=Fg (P:=x.P) (w:=W) (d:=some d) (ty:=ty) (pos:=pos) (af:=af) (gd:=gd) hty.1 e (qX k1 (us:=[u']) (by simpa using hu))
    have hr1:=hrun W rfl
    rw[hr1]at hr2
    injection hr2 with hr2
    injection hr2 with hr2
    rw[hr2]
    exact hcl2.1
  cases d2
 cases h
theorem dlf {t:Nat}{ti:TI}{a:Operand}{v:FV}(i:Nat) (hT:cH x.P T) (hi:ops[i]? =some ⟨some d,.load t a,ty,pos,af,gd⟩) (hst:pY ops late listed i=true) (hw:bK ops x.n g gd=some true) (hti:bX T t=some ti)
  {l us:List Tr}{of:Nat}(hlk:lk x.n (qY fr g) a=.one (.ef l of)) (hl:(l.drop of).take us.length=us) (hv:Qr ti us=some v)
  (k:WD x ops Q late K fr true fuel (listed.setIfInBounds i true) (bG g d v) ob):WD x ops Q late K fr true (fuel+1) listed g ob:=by
 refine Kh hi hst hw (fun Kp W1 cs ts W hR hk=>?_) k
 have hp:=hk.lk hR.1 a
 rw[hlk]at hp
 have hgen:∃g0:Nat->FV,lk x.n g0 a=.one (.ef l of):=⟨_,hlk⟩
 obtain⟨g0,hg0⟩:=hgen
 obtain⟨b,hb,u,hrun,hv'⟩:=Vk (x:=x) (g:=g0) (cs:=cs) (ts:=ts) (W:=W) (N:=fun b=>x.fr W ob cs b/\Kp b) hT hti hg0 hl hv (by rw[hg0];exact hp) (o:=⟨some d,.load t a,ty,pos,af,gd⟩) rfl
 exact⟨u,fun W' hW'=>hrun W' ((hW' b hb.2).trans (hk.same b hb.2).symm),gC (fun _ _=>rfl) (fun b hb=>hb.1) .refl _ _ hv',hv'⟩
def WO (x:Cx) (ops:Array Oper) (Q:Post) (late:Nat->Bool) (K fr:List Nat) (on:Bool) (fuel:Nat) (listed:Array Bool) (i:Nat) (g:Nat->FV) (ob:List (Option Ob)):Prop:=
 ∀(Kp:Nat->Prop) (W1:World) cs ts W,RelC x g ob cs ts W->(∀b,Kp b->b<W1.heap.size)->W1.heap.size<=W.heap.size->(on=true->Kept x K fr Kp W1 g ob cs ts W)->wpOp x.P ops (Lf x Q) i (fun a' w'=>(late i=false->Sw Kp W1 w')/\xR x.P ops (Lf x Q) (Sw Kp W1) late fuel (listed.setIfInBounds i true) a' w') ⟨ts,[]⟩ W
theorem WO.one {i:Nat}(hr:Region.ready .any ops listed=[i]) (h:WO x ops Q late K fr on fuel listed i g ob):WD x ops Q late K fr on (fuel+1) listed g ob:=fun Kp W1 cs ts W hR h1 h2 h3=>ZS hr (h Kp W1 cs ts W hR h1 h2 h3)
theorem WO.two {i j:Nat}(hr:Region.ready .any ops listed=[i,j]) (h:WO x ops Q late K fr on fuel listed i g ob) (h':WO x ops Q late K fr on fuel listed j g ob):WD x ops Q late K fr on (fuel+1) listed g ob:=fun Kp W1 cs ts W hR h1 h2 h3=>ZT hr (h Kp W1 cs ts W hR h1 h2 h3) (h' Kp W1 cs ts W hR h1 h2 h3)
theorem WO.three {i j m:Nat}(hr:Region.ready .any ops listed=[i,j,m]) (h:WO x ops Q late K fr on fuel listed i g ob) (h':WO x ops Q late K fr on fuel listed j g ob) (h'':WO x ops Q late K fr on fuel listed m g ob):WD x ops Q late K fr on (fuel+1) listed g ob:=fun Kp W1 cs ts W hR h1 h2 h3=>
 ⟨fun h0=>(by rw[hr]at h0;cases h0),fun k hk=>(by
  rw[hr]at hk
  rcases List.mem_cons.1 hk with rfl | hk
  ·exact h Kp W1 cs ts W hR h1 h2 h3
  rcases List.mem_cons.1 hk with rfl | hk
  ·exact h' Kp W1 cs ts W hR h1 h2 h3
  rw[List.mem_singleton]at hk;subst hk;exact h'' Kp W1 cs ts W hR h1 h2 h3)⟩
theorem JQ {o:Oper}{Wr:List Nat}{R:(Nat->FV)->List (Option Ob)->Prop}(i:Nat) (hi:ops[i]? =some o) (hw:bK ops x.n g o.guard=some true) (h:OS x o g ob Wr R) (on':Bool) (hon:on'=true->on=true/\(∀k∈K,k∉Wr)) (hl:late i=false->on'=true)
  (hg:on'=true->∀g' ob',R g' ob'->(∀j,o.dst≠some j->g' j=g j)/\∀k∈K,ob'[k]? =ob[k]?)
  (k:∀g' ob',R g' ob'->WD x ops Q late K (o.dst.toList++fr) on' fuel (listed.setIfInBounds i true) g' ob'):WO x ops Q late K fr on fuel listed i g ob:=by
 intro Kp W1 cs ts W hR hK1 hK2 hkk
 refine(aBJ hi (lW hw hR) (h cs ts W hR _ _ fun g' ob' cs' ts' W' hr' hR' ha=>?_))
 have key:on'=true->Kept x K (o.dst.toList++fr) Kp W1 g' ob' cs' ts' W':=by
  intro hon'
  obtain⟨h1,h2⟩:=hon hon'
  have hk:=hkk h1
  obtain⟨g1,g2⟩:=hg hon' g' ob' hr'
  have hwr:∀b,Kp b->∀k'∈Wr,∀o,ob[k']? =some o->b∉(aQ o (co cs k')).S:=by
   intro b hb k' hk' o' ho' hm
   have hmo:b∈dO ob cs:=List.mem_flatMap.2 ⟨_,List.mem_of_getElem? (cA hR.len ho'),hm⟩
   rcases hk.free b hb with h3 | ⟨k2,hk2,o2,ho2,hb2⟩
   ·exact h3 hmo
   have hne:k2≠k':=fun e=>h2 k2 hk2 (e▸hk')
   have hnd:List.Pairwise (· ≠ ·) ((aL ob cs).flatMap Res.S):=hR.2.nd
   rw[List.pairwise_flatMap]at hnd
   have hp:=List.pairwise_iff_getElem.1 hnd.2
   obtain⟨i1,e1⟩:=List.getElem?_eq_some_iff.1 (cA hR.len ho2)
   obtain⟨i2,e2⟩:=List.getElem?_eq_some_iff.1 (cA hR.len ho')
   have hm2:b∈(aQ (some o2) (co cs k2)).S:=by simp[aQ,hb2]
   rcases Nat.lt_or_gt_of_ne hne with hlt | hlt
   ·exact hp k2 k' i1 i2 hlt b (by rw[e1];exact hm2) b (by rw[e2];exact hm) rfl
   exact hp k' k2 i2 i1 hlt b (by rw[e2];exact hm) b (by rw[e1];exact hm2) rfl
  have hkeep:∀b,Kp b->W'.heap[b]? =W.heap[b]? :=fun b hb=>ha.keep b (Nat.lt_of_lt_of_le (hK1 b hb) hK2) (hwr b hb)
  have hN:∀b,(x.fr W ob cs b/\Kp b)->(x.fr W' ob' cs' b/\Kp b):=fun b hb=>⟨wX hb.1 ha.size ha.own,hb.2⟩
  refine⟨fun b hb=>(hkeep b hb).trans (hk.same b hb),fun b hb=>?_,fun k hkm o' ho'=>?_,fun j hj=>?_⟩
  ·rcases hk.free b hb with h3 | ⟨k2,hk2,o2,ho2,hb2⟩
   ·refine .inl fun hm=>?_
    rcases ha.own b hm with h4 | h4
    ·exact h3 h4
    have:=hK1 b hb
    omega
   have hlt:k2<cs.length:=JK hb2
   exact .inr ⟨k2,hk2,o2,by rw[g2 k2 hk2,ho2],by rw[(ha.same.2 k2 hlt).1,hb2]⟩
  ·have:ob[k]? =some (some o'):=by
    rw[<-g2 k hkm,ho']
   obtain⟨k1,k2⟩:=hk.ks k hkm o' this
   have hlt:k<cs.length:=by
    have:=(List.getElem?_eq_some_iff.1 this).1
    have:=hR.len
    omega
   rw[ha.un k (h2 k hkm) hlt]
   exact⟨k1,dI (fun b hb=>hkeep b hb.2) hN ha.same _ _ k2⟩
  obtain⟨u0,hu0⟩:=hR'.fv hj
  by_cases e:o.dst=some j
  ·exact⟨u0,hu0.1,by simp[qY,e,bV,cE]⟩
  obtain⟨u,h3,h4⟩:=hk.fv j hj
  refine⟨u,(ha.fr j e).trans h3,?_⟩
  unfold qY at h4⊢
  cases hq:(o.dst.toList++fr).any (Nat.beq j)with
  | true=>simp[bV,cE]
  | false=>
   rw[List.any_append,Bool.or_eq_false_iff]at hq
   rw[hq.2]at h4
   rw[cond_false,g1 j e]
   exact gC (fun b hb=>hkeep b hb.2) hN ha.same _ _ (by simpa using h4)
 exact⟨fun hl'=>(key (hl hl')).same,k g' ob' hr' Kp W1 cs' ts' W' hR' hK1 (Nat.le_trans hK2 ha.size) key⟩
theorem Mc {o:Oper}{Wr:List Nat}{R:(Nat->FV)->List (Option Ob)->Prop}(i:Nat) (hr:Region.ready .any ops listed=[i]) (hi:ops[i]? =some o) (hw:bK ops x.n g o.guard=some true) (h:OS x o g ob Wr R) (on':Bool) (hon:on'=true->on=true/\(∀k∈K,k∉Wr)) (hl:late i=false->on'=true)
  (hg:on'=true->∀g' ob',R g' ob'->(∀j,o.dst≠some j->g' j=g j)/\∀k∈K,ob'[k]? =ob[k]?)
  (k:∀g' ob',R g' ob'->WD x ops Q late K (o.dst.toList++fr) on' fuel (listed.setIfInBounds i true) g' ob'):WD x ops Q late K fr on (fuel+1) listed g ob:=
 WO.one hr (JQ i hi hw h on' hon hl hg k)
theorem dz (hr:Region.ready .any ops listed=[]) (h:Q .normal g ob):WD x ops Q late K fr on fuel listed g ob:=fun _ _ cs ts _ hR _ _ _=>SD hr ⟨g,ob,ts,rfl,⟨cs,hR⟩,h⟩
end
end Go.Proofs.YtimiaildfkimfaaGreatDoor
