/- Part 2 of a proof: Av3 to Av9. -/
import Derived.Test.YtbbabfkgdnkehaaGreatM1
set_option maxRecDepth 100000
set_option linter.unusedVariables false
set_option linter.unusedSimpArgs false
namespace Go.Proofs.YtbbabfkgdnkehaaGreat
open Go Go.RowKit
inductive TK
 | st (fld:List (Nat×Nat×Nat))
 | sl (e sz by_:Nat) (z:Value)
 | it (k:IntKind)
 | bl
 | pt
 | str
 | ar (n sz:Nat)
 | ot
structure TI where
 agg:Bool
 size:Nat
 zero:List Value
 kd:TK
def Fl (P:Program) (t:Nat):Nat→List (Nat×Nat×Nat)→Prop
 | _,[]=>True
 | i,(off,u,_)::l=>TyF P t i off∧TyFt P t i off u∧Fl P t (i+1) l
def Dt (P:Program) (t:Nat):TK→Prop
 | .st fld=>Fl P t 0 fld∧TyPl P t (fld.map fun x=>(x.1,x.2.2))
 | .sl e sz by_ z=>TyS P t e sz∧IsEl P t e z sz by_
 | .it k=>TyI P t k
 | .bl=>TyB P t
 | .pt=>TyP P t
 | .str=>TyStr P t
 | .ar n sz=>Wp P t n sz
 | .ot=>True
def TD (P:Program) (t:Nat) (n:Nat):Bool→Prop
 | true=>TyA P t n
 | false=>Ty1 P t∧n=1
def eB (P:Program) (t:Nat) (i:TI):Prop:=TD P t i.size i.agg∧TyN P t i.size∧TyZ P t i.zero∧Dt P t i.kd
def cP:List (Nat×TI)→Nat→Option TI
 | [],_=>none
 | (k,i)::l,t=>bif Nat.beq k t then some i else cP l t
def cN (P:Program):List (Nat×TI)→Prop
 | []=>True
 | x::l=>eB P x.1 x.2∧cN P l
theorem eY {P:Program}:∀{T:List (Nat×TI)}{t:Nat}{i:TI},cN P T→cP T t=some i→eB P t i
 | [],_,_,_,h=>by simp[cP]at h
 | (k,j)::l,t,i,hT,h=>by
  unfold cP at h
  cases hb:Nat.beq k t with
  | true=>
   rw[hb]at h
   have:=Nat.eq_of_beq_eq_true hb
   simp at h
   subst this;subst h
   exact hT.1
  | false=>
   rw[hb]at h
   exact eY hT.2 h
theorem Bl {P:Program}{t:Nat}:∀{l:List (Nat×Nat×Nat)}{i f off u sz:Nat},Fl P t i l→l[f]? =some (off,u,sz)→TyF P t (i+f) off∧TyFt P t (i+f) off u
 | [],_,_,_,_,_,_,h=>by simp at h
 | (a,b,c)::l,i,0,off,u,sz,hT,h=>by
  simp at h
  obtain⟨rfl,rfl,rfl⟩:=h
  exact⟨hT.1,hT.2.1⟩
 | (a,b,c)::l,i,f+1,off,u,sz,hT,h=>by
  have:=Bl (f:=f) hT.2.2 (by simpa using h)
  rwa[show i+1+f=i+(f+1) by omega]at this
def tv (v:Value):AV:=.t (.v v)
def lk (n:Nat) (g:Nat→FV):Operand→FV
 | .tmp t=>bif Nat.blt t n then g t else .any
 | .const v=>match v with
  | .agg cs=>.agg (cs.toList.map tv)
  | v=>.one (tv v)
 | .func f=>.one (.t (.f f [] []))
 | .global _=>.any
section
variable {W:World}{N:Nat→Prop}{cs:List Co}
theorem qY:∀(us:List Value),ARL W N cs (us.map tv) us
 | []=>by simp[ARL]
 | u::us=>by
  simp only[List.map_cons,ARL]
  exact⟨by simp[tv,AR,FR],qY us⟩
theorem Ui:∀{l:List AV}{us:List Value}{j:Nat}{a:AV},ARL W N cs l us→l[j]? =some a→∃u,us[j]? =some u∧AR W N cs a u
 | [],_,_,_,_,h=>by simp at h
 | b::l,u::us,0,a,h,hj=>by
  simp only[ARL]at h
  simp at hj
  subst hj
  exact⟨u,rfl,h.1⟩
 | b::l,u::us,j+1,a,h,hj=>by
  simp only[ARL]at h
  simpa using Ui h.2 (j:=j) (by simpa using hj)
 | _::_,[],_,_,h,_=>by simp only[ARL]at h
theorem xK:∀{l:List AV}{us:List Value}(j:Nat),ARL W N cs l us→ARL W N cs (l.drop j) (us.drop j)
 | [],us,j,h=>by
  simp only[ARL]at h
  subst h
  simp[ARL]
 | b::l,u::us,0,h=>h
 | b::l,u::us,j+1,h=>by
  simp only[ARL]at h
  simpa using xK j h.2
 | _::_,[],_,h=>by simp only[ARL]at h
theorem xL:∀{l:List AV}{us:List Value}(j:Nat),ARL W N cs l us→ARL W N cs (l.take j) (us.take j)
 | [],us,j,h=>by
  simp only[ARL]at h
  subst h
  simp[ARL]
 | b::l,u::us,0,h=>by simp[ARL]
 | b::l,u::us,j+1,h=>by
  simp only[ARL]at h
  simp only[List.take_succ_cons,ARL]
  exact⟨h.1,xL j h.2⟩
 | _::_,[],_,h=>by simp only[ARL]at h
theorem Bm:∀{l l':List AV}{us us':List Value},ARL W N cs l us→ARL W N cs l' us'→ARL W N cs (l++l') (us++us')
 | [],l',us,us',h,h'=>by
  simp only[ARL]at h
  subst h
  simpa using h'
 | b::l,l',u::us,us',h,h'=>by
  simp only[ARL]at h
  simp only[List.cons_append,ARL]
  exact⟨h.1,Bm h.2 h'⟩
 | _::_,_,[],_,h,_=>by simp only[ARL]at h
theorem Uj:∀{l:List FV}{us:List Value}{j:Nat}{a:FV},eG W N cs l us→l[j]? =some a→∃u,us[j]? =some u∧cD W N cs a u
 | [],_,_,_,_,h=>by simp at h
 | b::l,u::us,0,a,h,hj=>by
  simp only[eG]at h
  simp at hj
  subst hj
  exact⟨u,rfl,h.1⟩
 | b::l,u::us,j+1,a,h,hj=>by
  simp only[eG]at h
  simpa using Uj h.2 (j:=j) (by simpa using hj)
 | _::_,[],_,_,h,_=>by simp only[eG]at h
end
section
variable {x:Cx}{g:Nat→FV}{ob:List (Option Ob)}{cs:List Co}{ts:Array Value}{W:World}
theorem RelC.lk (h:RelC x g ob cs ts W) (o:Operand):bO W (x.fr W ob cs) cs (lk x.n g o) (Act.eval ⟨ts,[]⟩ o):=by
 cases o with
 | tmp t=>
  simp only[Go.Proofs.YtbbabfkgdnkehaaGreat.lk,Act.eval]
  cases hb:Nat.blt t x.n with
  | false=>simp[bO,cD]
  | true=>
   have ht:t<x.n:=by simpa[Nat.blt,Nat.lt_iff_add_one_le]using hb
   obtain⟨u,h1,h2⟩:=h.fv ht
   simp[h1]
   exact h2
 | const v=>
  cases v <;> simp only[Go.Proofs.YtbbabfkgdnkehaaGreat.lk,Act.eval] <;> first
   | (simp[bO,cD,AR,FR,tv];done)
   | exact⟨_,by simp,qY _⟩
 | func f=>exact⟨[],[],rfl,by simp[FRL],by simp[FRL]⟩
 | global _=>simp[Go.Proofs.YtbbabfkgdnkehaaGreat.lk,bO,cD]
end
def jJ:IntKind→Int→Prop
 | .i8,z=>-128≤z∧z≤127
 | .i16,z=>-32768≤z∧z≤32767
 | .i32,z=>-2147483648≤z∧z≤2147483647
 | .i64,z=>-9223372036854775808≤z∧z≤9223372036854775807
 | .u8,z=>0≤z∧z≤255
 | .u16,z=>0≤z∧z≤65535
 | .u32,z=>0≤z∧z≤4294967295
 | .u64,z=>0≤z∧z≤18446744073709551615
theorem qE {k:IntKind}{z:Int}(h:jJ k z):k.wrap z=z:=by
 cases k <;> simp only[jJ]at h <;> simp[IntKind.wrap,IntKind.bits,IntKind.signed] <;> omega
def kq:IntKind→IntKind→Bool
 | .i8,.i8 | .i16,.i16 | .i32,.i32 | .i64,.i64 | .u8,.u8 | .u16,.u16 | .u32,.u32 | .u64,.u64=>true
 | _,_=>false
theorem Mf {a b:IntKind}(h:kq a b=true):a=b:=by cases a <;> cases b <;> simp[kq]at h <;> rfl
abbrev Ev:=Option (Prop×FV)
def ev (v:FV):Ev:=some (True,v)
def qZ (C:Prop) (k:IntKind) (z:Int):Ev:=some (C,.one (tv (.int k z)))
def tC (q:Bool):Ev:=some (True,.one (tv (.bool q)))
def Km:FV→Ev
 | .one a=>ev (.one a)
 | .agg l=>ev (.agg l)
 | .tup l=>ev (.tup l)
 | .any=>none
def Pg:FV→FV→FV→Ev
 | .one (.t (.v (.bool true))),a,_=>Km a
 | .one (.t (.v (.bool false))),_,b=>Km b
 | _,_,_=>none
def tk {β:Type}:Nat→List AV→(List AV→Option β)→Option β
 | 0,_,k=>k []
 | n+1,a::l,k=>tk n l fun r=>k (a::r)
 | _+1,[],_=>none
def dp {β:Type}:Nat→List AV→(List AV→Option β)→Option β
 | 0,l,k=>k l
 | n+1,_::l,k=>dp n l k
 | _+1,[],_=>none
theorem xM {β:Type}:∀{n:Nat}{l:List AV}{k:List AV→Option β}{r:β},tk n l k=some r→n≤l.length∧k (l.take n)=some r
 | 0,l,k,r,h=>by simpa[tk]using h
 | n+1,a::l,k,r,h=>by
  have:=xM (n:=n) (k:=fun r=>k (a::r)) (by simpa[tk]using h)
  simpa using this
 | n+1,[],k,r,h=>by simp[tk]at h
theorem xN {β:Type}:∀{n:Nat}{l:List AV}{k:List AV→Option β}{r:β},dp n l k=some r→n≤l.length∧k (l.drop n)=some r
 | 0,l,k,r,h=>by simpa[dp]using h
 | n+1,a::l,k,r,h=>by
  have:=xN (n:=n) (k:=k) (by simpa[dp]using h)
  simpa using this
 | n+1,[],k,r,h=>by simp[dp]at h
def GV (fld:List (Nat×Nat×Nat)) (f:Nat):FV→Ev
 | .one (.pt k o)=>match fld[f]? with
  | some (off,_,_)=>ev (.one (.pt k (o+off)))
  | none=>none
 | .one (.ef l o)=>match fld[f]? with
  | some (off,_,_)=>ev (.one (.ef l (o+off)))
  | none=>none
 | _=>none
def TE (off:Nat) (i:TI):FV→Ev
 | .agg l=>dp off l fun l=>match i.agg with
  | true=>tk i.size l fun r=>ev (.agg r)
  | false=>match l with
   | a::_=>ev (.one a)
   | []=>none
 | _=>none
def Mg (op:BinOp) (t:TK):FV→FV→Ev
 | .one (.t (.v (.int k a))),.one (.t (.v (.int k' b)))=>match kq k k' with
  | true=>match op with
   | .add=>qZ (jJ k (a+b)) k (a+b)
   | .sub=>qZ (jJ k (a-b)) k (a-b)
   | .mul=>qZ (jJ k (a*b)) k (a*b)
   | .quo=>qZ (b≠0∧jJ k (a.tdiv b)) k (a.tdiv b)
   | .rem=>qZ (b≠0) k (a.tmod b)
   | .lss=>tC (decide (a<b))
   | .leq=>tC (decide (a≤b))
   | .gtr=>tC (decide (b<a))
   | .geq=>tC (decide (b≤a))
   | .eql=>tC (decide (a=b))
   | .neq=>tC (decide (a≠b))
   | .and=>qZ True k (k.wrap (BitVec.ofInt k.bits a&&& BitVec.ofInt k.bits b).toNat)
   | .or=>qZ True k (k.wrap (BitVec.ofInt k.bits a ||| BitVec.ofInt k.bits b).toNat)
   | .shr=>qZ (0≤b) k (a.fdiv (2^(min b.toNat k.bits)))
   | .shl=>qZ (0≤b) k (k.wrap (a*2^(min b.toNat k.bits)))
   | _=>none
  | false=>match op with
   | .shr=>qZ (0≤b) k (a.fdiv (2^(min b.toNat k.bits)))
   | .shl=>qZ (0≤b) k (k.wrap (a*2^(min b.toNat k.bits)))
   | _=>none
 | .one (.t (.v (.string a))),.one (.t (.v (.string b)))=>match op with
  | .add=>some (a.size+b.size≤9223372036854775807,.one (tv (.string (a++b))))
  | .eql=>tC (a.toList==b.toList)
  | .neq=>tC (!(a.toList==b.toList))
  | _=>none
 | .one (.t (.v (.bool p))),.one (.t (.v (.bool q)))=>match t with
  | .bl=>match op with
   | .eql=>tC (p==q)
   | .neq=>tC (p != q)
   | _=>none
  | _=>none
 | .one (.pt _ _),.one (.t (.v (.pointer none))) | .one (.ef _ _),.one (.t (.v (.pointer none)))=>match t with
  | .pt=>match op with
   | .eql=>tC false
   | .neq=>tC true
   | _=>none
  | _=>none
 | .one (.t (.v (.pointer none))),.one (.t (.v (.pointer none)))=>match t with
  | .pt=>match op with
   | .eql=>tC true
   | .neq=>tC false
   | _=>none
  | _=>none
 | _,_=>none
def GW (op:UnOp):FV→Ev
 | .one (.t (.v (.int k a)))=>match op with
  | .neg=>qZ (jJ k (0-a)) k (0-a)
  | _=>none
 | .one (.t (.v (.bool p)))=>match op with
  | .not=>tC (!p)
  | _=>none
 | _=>none
def Ph:TK→TK→FV→Ev
 | .it k0,.it k',.one (.t (.v (.int k a)))=>match kq k0 k with
  | true=>qZ (jJ k' a) k' a
  | false=>none
 | _,_,_=>none
def GX:FV→Ev
 | .one (.pt k o)=>ev (.one (.pt k o))
 | .one (.ef l o)=>ev (.one (.ef l o))
 | .one (.t (.p _ _ l))=>ev (.one (.ef l 0))
 | _=>none
def GY (i:Nat):FV→Ev
 | .tup l=>match l[i]? with
  | some v=>Km v
  | none=>none
 | _=>none
def mV:FV→Option Nat
 | .one (.sl _ _ n)=>some n
 | .one (.t (.s _ _ _ n _))=>some n
 | .one (.t (.v (.slice none 0 0)))=>some 0
 | _=>none
def GZ (sz:Nat):FV→FV→Ev
 | .one (.sl k o n),.one (.t (.v (.int _ (.ofNat i))))=>some (i<n,.one (.pt k (o+i*sz)))
 | .one (.t (.s _ _ _ n l)),.one (.t (.v (.int _ (.ofNat i))))=>some (i<n,.one (.ef l (i*sz)))
 | _,_=>none
def Xk (n sz:Nat):FV→FV→Ev
 | .one (.pt k o),.one (.t (.v (.int _ (.ofNat i))))=>some (i<n,.one (.pt k (o+i*sz)))
 | _,_=>none
def HC:FV→FV→Ev
 | .one (.t (.v (.string a))),.one (.t (.v (.int _ (.ofNat i))))=>some (i<a.size,.one (tv (.int .u8 ((a.data[i]?.getD 0).toNat:Int))))
 | _,_=>none
def HD:FV→Option FV→Option FV→Ev
 | .one (.t (.v (.string a))),some (.one (.t (.v (.int _ (.ofNat i))))),none=>some (i≤a.size,.one (tv (.string (a.extract i a.size))))
 | .one (.t (.v (.string a))),none,some (.one (.t (.v (.int _ (.ofNat i)))))=>some (i≤a.size,.one (tv (.string (a.extract 0 i))))
 | .one (.t (.v (.string a))),some (.one (.t (.v (.int _ (.ofNat i))))),some (.one (.t (.v (.int _ (.ofNat j)))))=>some (i≤j∧j≤a.size,.one (tv (.string (a.extract i j))))
 | _,_,_=>none
def HE:FV→Ev
 | .one (.t (.v (.string a)))=>qZ True .i64 (a.size:Int)
 | _=>none
def lone:AV→Bool
 | .t (.v (.agg _))=>false
 | .t (.v (.tuple _))=>false
 | .t (.a _)=>false
 | _=>true
def Ii (fld:List (Nat×Nat×Nat)):List AV→List (Nat×FV)→(List AV→Ev)→Ev
 | cells,[],k=>k cells
 | cells,(i,v)::rest,k=>match fld[i]?,v with
  | some (off,_,sz),.agg l=>match Nat.beq l.length sz with
   | true=>dp (off+sz) cells fun r=>tk off cells fun h=>Ii fld (h++l++r) rest k
   | false=>none
  | some (off,_,1),.one a=>match lone a with
   | true=>dp (off+1) cells fun r=>tk off cells fun h=>Ii fld (h++a::r) rest k
   | false=>none
  | _,_=>none
def all {β:Type}:List AV→(List AV→Option β)→Option β
 | [],k=>k []
 | a::l,k=>all l fun r=>k (a::r)
theorem Fm {β:Type}:∀{l:List AV}{k:List AV→Option β}{r:β},all l k=some r→k l=some r
 | [],k,r,h=>h
 | a::l,k,r,h=>Fm (k:=fun r=>k (a::r)) h
def uF:List AV→Option (List Tr)
 | []=>some []
 | .t x::l=>match uF l with
  | some r=>some (x::r)
  | none=>none
 | _=>none
def TF (f:Nat) (l l':List AV):AV:=match uF l,uF l' with
 | some r,some r'=>.t (.f f r r')
 | _,_=>.fn f l l'
def Uk (n:Nat) (g:Nat→FV):List Operand→Option (List AV)
 | []=>some []
 | o::l=>match lk n g o,Uk n g l with
  | .one a,some r=>some (a::r)
  | .agg c,some r=>match uF c with
   | some c'=>some (.t (.a c')::r)
   | none=>none
  | _,_=>none
def HF (sz:Nat):FV→Option FV→Option FV→Ev
 | .one (.t (.s o t z n l)),some (.one (.t (.v (.int _ (.ofNat i))))),none=>match Nat.beq z sz with
  | true=>some (i≤n,.one (.t (.s false t z (n-i) (l.drop (i*z)))))
  | false=>none
 | .one (.t (.s o t z n l)),none,some (.one (.t (.v (.int _ (.ofNat i)))))=>match Nat.beq z sz with
  | true=>some (i≤n,.one (.t (.s false t z i (l.take (i*z)))))
  | false=>none
 | .one (.sl k o n),some (.one (.t (.v (.int _ (.ofNat i))))),none=>some (i≤n∧0<sz,.one (.sl k (o+i*sz) (n-i)))
 | .one (.sl k o n),none,some (.one (.t (.v (.int _ (.ofNat i)))))=>some (i≤n,.one (.sl k o i))
 | _,_,_=>none
def Xl:FV→FV→Ev
 | .one (.t (.v (.int k a))),.one (.t (.v (.int k' b)))=>match kq k k' with
  | true=>qZ True k (max a b)
  | false=>none
 | _,_=>none
def Xm:FV→FV→Ev
 | .one (.t (.v (.int k a))),.one (.t (.v (.int k' b)))=>match kq k k' with
  | true=>qZ True k (min a b)
  | false=>none
 | _,_=>none
def vX (T:List (Nat×TI)) (n:Nat) (g:Nat→FV):Op→Ev
 | .move a=>Km (lk n g a)
 | .assign a=>Km (lk n g a)
 | .pick c a b=>Pg (lk n g c) (lk n g a) (lk n g b)
 | .fieldAddr t a f=>match cP T t with
  | some ⟨_,_,_,.st fld⟩=>GV fld f (lk n g a)
  | _=>none
 | .field t a f=>match cP T t with
  | some ⟨_,_,_,.st fld⟩=>match fld[f]? with
   | some (off,u,_)=>match cP T u with
    | some i=>TE off i (lk n g a)
    | none=>none
   | none=>none
  | _=>none
 | .nilCheck a=>GX (lk n g a)
 | .binOp op t a b _=>match cP T t with
  | some i=>Mg op i.kd (lk n g a) (lk n g b)
  | none=>Mg op .ot (lk n g a) (lk n g b)
 | .unOp op _ a=>GW op (lk n g a)
 | .convert s d a=>match cP T s,cP T d with
  | some i,some j=>Ph i.kd j.kd (lk n g a)
  | _,_=>none
 | .extract a i=>GY i (lk n g a)
 | .indexAddr t a i=>match cP T t with
  | some ⟨_,_,_,.sl _ sz _ _⟩=>GZ sz (lk n g a) (lk n g i)
  | some ⟨_,_,_,.ar c sz⟩=>Xk c sz (lk n g a) (lk n g i)
  | _=>none
 | .index t a i=>match cP T t with
  | some ⟨_,_,_,.str⟩=>HC (lk n g a) (lk n g i)
  | _=>none
 | .build t ps=>match cP T t with
  | some ⟨_,_,z,.st fld⟩=>Ii fld (z.map tv) (ps.toList.map fun p=>(p.1,lk n g p.2)) fun l=>all l fun l=>ev (.agg l)
  | _=>none
 | .makeFunc (.func f) a b=>match Uk n g a.toList,Uk n g b.toList with
  | some l,some l'=>ev (.one (TF f l l'))
  | _,_=>none
 | .slice t a lo hi none=>match cP T t with
  | some ⟨_,_,_,.sl _ sz _ _⟩=>HF sz (lk n g a) (lo.map (lk n g)) (hi.map (lk n g))
  | some ⟨_,_,_,.str⟩=>HD (lk n g a) (lo.map (lk n g)) (hi.map (lk n g))
  | _=>none
 | .call ⟨.builtin .max,⟨[a,b]⟩,_⟩=>Xl (lk n g a) (lk n g b)
 | .call ⟨.builtin .min,⟨[a,b]⟩,_⟩=>Xm (lk n g a) (lk n g b)
 | .call ⟨.builtin .len,⟨[a]⟩,⟨[t]⟩⟩=>match cP T t with
  | some ⟨_,_,_,.sl _ _ _ _⟩=>match mV (lk n g a)with
   | some m=>qZ True .i64 (m:Int)
   | none=>none
  | some ⟨_,_,_,.str⟩=>HE (lk n g a)
  | _=>none
 | _=>none
section
variable {W:World}{N:Nat→Prop}{cs:List Co}{P:Program}{ρ:Operand→Value}{d:Option Tmp}{ty:TypeId}{pos:String}{af:Array Edge}{gd:Option (Nat×Bool)}{C:Prop}{v:FV}
def nF (P:Program) (W:World) (N:Nat→Prop) (cs:List Co) (ρ:Operand→Value) (o:Oper) (v:FV):Prop:=∃u,(∀W',(execOp ρ o).run P W'=.ok (.value u) W')∧bO W N cs v u
theorem pr {C D:Prop}{v w:FV}(h:(some (C,v):Ev)=some (D,w)):C=D∧v=w:=by
 injection h with h
 injection h with h1 h2
 exact⟨h1,h2⟩
theorem zI {a:FV}(h:Km a=some (C,v)):v=a∧C=True:=by
 cases a with
 | any=>cases h
 | one a=>exact⟨(pr h).2.symm,(pr h).1.symm⟩
 | agg a=>exact⟨(pr h).2.symm,(pr h).1.symm⟩
 | tup a=>exact⟨(pr h).2.symm,(pr h).1.symm⟩
theorem jI {a:AV}{u:Value}(h:AR W N cs a u):bO W N cs (.one a) u:=h
theorem bK {x u:Value}(h:bO W N cs (.one (tv x)) u):u=x:=by simpa[bO,cD,tv,AR,FR]using h
theorem eD (x:Value):bO W N cs (.one (tv x)) x:=by simp[bO,cD,tv,AR,FR]
theorem vY {x:FV}{u:Value}(h:cD W N cs x u):bO W N cs x u:=by
 cases x <;> simp only[cD]at h <;> first | exact h | trivial | exact h.elim
variable {x y z:Operand}{a b c:FV}
theorem TG (hx:bO W N cs a (ρ x)) (h:Km a=some (C,v)):nF P W N cs ρ ⟨d,.move x,ty,pos,af,gd⟩ v:=by
 obtain⟨rfl,rfl⟩:=zI h
 exact⟨_,fun W'=>LM rfl,hx⟩
theorem HH (hx:bO W N cs a (ρ x)) (h:Km a=some (C,v)):nF P W N cs ρ ⟨d,.assign x,ty,pos,af,gd⟩ v:=by
 obtain⟨rfl,rfl⟩:=zI h
 exact⟨_,fun W'=>Yq rfl,hx⟩
theorem TH (hx:bO W N cs a (ρ x)) (hy:bO W N cs b (ρ y)) (hz:bO W N cs c (ρ z)) (h:Pg a b c=some (C,v)):nF P W N cs ρ ⟨d,.pick x y z,ty,pos,af,gd⟩ v:=by
 unfold Pg at h
 split at h
 ·obtain⟨rfl,rfl⟩:=zI h
  exact⟨_,fun W'=>Sv (bK hx) (if_pos rfl),hy⟩
 ·obtain⟨rfl,rfl⟩:=zI h
  exact⟨_,fun W'=>Sv (bK hx) (if_neg (by simp)),hz⟩
 cases h
theorem aAe (hx:bO W N cs a (ρ x)) (h:GX a=some (C,v)):nF P W N cs ρ ⟨d,.nilCheck x,ty,pos,af,gd⟩ v:=by
 unfold GX at h
 split at h
 ·obtain⟨rfl,rfl⟩:=pr h
  have h2:=hx
  simp only[bO,cD,AR]at h2
  obtain⟨b,_,e⟩:=h2
  exact⟨_,fun W'=>(uO e),by rw[←e];exact hx⟩
 ·obtain⟨rfl,rfl⟩:=pr h
  have h2:=hx
  simp only[bO,cD,AR]at h2
  obtain⟨ad,_,_,e⟩:=h2
  exact⟨_,fun W'=>(uO e),by rw[←e];exact hx⟩
 ·obtain⟨rfl,rfl⟩:=pr h
  simp only[bO,cD,AR,FR]at hx
  obtain⟨ad,e,hN,hc⟩:=hx
  exact⟨_,fun W'=>(uO e),ad,hN,hc,by rw[Ei]⟩
 cases h
theorem Sg {t f:Nat}{fld:List (Nat×Nat×Nat)}(hT:Fl P t 0 fld) (hx:bO W N cs a (ρ x)) (h:GV fld f a=some (C,v)):nF P W N cs ρ ⟨d,.fieldAddr t x f,ty,pos,af,gd⟩ v:=by
 unfold GV at h
 split at h
 ·split at h
  ·rename_i hf
   obtain⟨rfl,rfl⟩:=pr h
   have hg:=(Bl hT hf).1
   rw[Nat.zero_add]at hg
   simp only[bO,cD,AR]at hx
   obtain⟨b,hb,e⟩:=hx
   exact⟨_,fun W'=>Ms hg e,b,hb,rfl⟩
  cases h
 ·split at h
  ·rename_i hf
   obtain⟨rfl,rfl⟩:=pr h
   have hg:=(Bl hT hf).1
   rw[Nat.zero_add]at hg
   simp only[bO,cD,AR]at hx
   obtain⟨ad,hb,hr,e⟩:=hx
   exact⟨_,fun W'=>Ln hg e,ad,hb,hr,rfl⟩
  cases h
 cases h
theorem NU {t f off u sz:Nat}{i:TI}{fld:List (Nat×Nat×Nat)}(hT:Fl P t 0 fld) (hf:fld[f]? =some (off,u,sz)) (hu:TD P u i.size i.agg) (hx:bO W N cs a (ρ x)) (h:TE off i a=some (C,v)):nF P W N cs ρ ⟨d,.field t x f,ty,pos,af,gd⟩ v:=by
 have hg:=(Bl hT hf).2
 rw[Nat.zero_add]at hg
 unfold TE at h
 split at h
 ·rename_i l
  obtain⟨h1,h2⟩:=xN h
  obtain⟨us,e,hl⟩:=hx
  split at h2
  ·rename_i ha
   obtain⟨h3,h4⟩:=xM h2
   obtain⟨rfl,rfl⟩:=pr h4
   rw[ha]at hu
   exact⟨_,fun W'=>Yt hg hu e rfl,_,rfl,xL _ (xK _ hl)⟩
  rename_i ha
  split at h2
  ·rename_i b r hb
   obtain⟨rfl,rfl⟩:=pr h2
   rw[ha]at hu
   have hj:l[off]? =some b:=by
    have:=congrArg (·[0]?) hb
    simpa using this
   obtain⟨u',hu',hr⟩:=Ui hl hj
   exact⟨_,fun W'=>Ys hg hu.1 e hu',hr⟩
  cases h2
 cases h
theorem BC {i:Nat}(hx:bO W N cs a (ρ x)) (h:GY i a=some (C,v)):nF P W N cs ρ ⟨d,.extract x i,ty,pos,af,gd⟩ v:=by
 unfold GY at h
 split at h
 ·split at h
  ·rename_i hv
   obtain⟨rfl,rfl⟩:=zI h
   obtain⟨us,e,hl⟩:=hx
   obtain⟨u,hu,hr⟩:=Uj hl hv
   exact⟨u,fun W'=>Wm e hu,vY hr⟩
  cases h
 cases h
theorem TJ {t t2:Nat}{k1 k2:TK}(h1:Dt P t k1) (h2:Dt P t2 k2) (hx:bO W N cs a (ρ x)) (h:Ph k1 k2 a=some (C,v)) (hC:C):nF P W N cs ρ ⟨d,.convert t t2 x,ty,pos,af,gd⟩ v:=by
 unfold Ph at h
 split at h
 ·split at h
  ·rename_i hk
   have hk:=Mf hk
   subst hk
   obtain⟨rfl,rfl⟩:=pr h
   exact⟨_,fun W'=>LP h1 h2 (bK hx) (qE hC),eD _⟩
  cases h
 cases h
theorem aAf {t:Nat}{op:UnOp}(hx:bO W N cs a (ρ x)) (h:GW op a=some (C,v)) (hC:C):nF P W N cs ρ ⟨d,.unOp op t x,ty,pos,af,gd⟩ v:=by
 unfold GW at h
 split at h
 ·split at h
  ·obtain⟨rfl,rfl⟩:=pr h
   exact⟨_,fun W'=>QF (bK hx) (qE hC),eD _⟩
  cases h
 ·split at h
  ·obtain⟨rfl,rfl⟩:=pr h
   exact⟨_,fun W'=>QE (bK hx) rfl,eD _⟩
  cases h
 cases h
theorem KH {t t2:Nat}{op:BinOp}{k:TK}(hk:Dt P t k) (hx:bO W N cs a (ρ x)) (hy:bO W N cs b (ρ y)) (h:Mg op k a b=some (C,v)) (hC:C):nF P W N cs ρ ⟨d,.binOp op t x y t2,ty,pos,af,gd⟩ v:=by
 unfold Mg at h
 split at h
 ·split at h
  ·rename_i hq
   have hq:=Mf hq
   subst hq
   cases op <;> first | (cases h;done) | skip
   all_goals obtain⟨rfl,rfl⟩:=pr h
   ·exact⟨_,fun W'=>PT (bK hx) (bK hy) (qE hC),eD _⟩
   ·exact⟨_,fun W'=>PU (bK hx) (bK hy) (qE hC),eD _⟩
   ·exact⟨_,fun W'=>PV (bK hx) (bK hy) (qE hC),eD _⟩
   ·exact⟨_,fun W'=>PW (bK hx) (bK hy) hC.1 (qE hC.2),eD _⟩
   ·exact⟨_,fun W'=>PX (bK hx) (bK hy) hC rfl,eD _⟩
   ·exact⟨_,fun W'=>QI (bK hx) (bK hy),eD _⟩
   ·exact⟨_,fun W'=>VU (bK hx) (bK hy),eD _⟩
   ·exact⟨_,fun W'=>Yx (bK hx) (bK hy) hC,eD _⟩
   ·exact⟨_,fun W'=>Yw (bK hx) (bK hy) hC,eD _⟩
   ·exact⟨_,fun W'=>QC (bK hx) (bK hy) rfl,eD _⟩
   ·exact⟨_,fun W'=>(QD (bK hx) (bK hy) rfl),by first | exact eD _ | (simp only[decide_not];exact eD _) | (rw[decide_not];exact eD _)⟩
   ·exact⟨_,fun W'=>PY (bK hx) (bK hy) rfl,eD _⟩
   ·exact⟨_,fun W'=>PZ (bK hx) (bK hy) rfl,eD _⟩
   ·exact⟨_,fun W'=>QA (bK hx) (bK hy) rfl,eD _⟩
   exact⟨_,fun W'=>QB (bK hx) (bK hy) rfl,eD _⟩
  cases op <;> first | (cases h;done) | skip
  all_goals obtain⟨rfl,rfl⟩:=pr h
  ·exact⟨_,fun W'=>Yx (bK hx) (bK hy) hC,eD _⟩
  exact⟨_,fun W'=>Yw (bK hx) (bK hy) hC,eD _⟩
 ·cases op <;> first | (cases h;done) | skip
  all_goals obtain⟨rfl,rfl⟩:=pr h
  ·exact⟨_,fun W'=>LS (bK hx) (bK hy) hC,eD _⟩
  ·exact⟨_,fun W'=>LT (bK hx) (bK hy),eD _⟩
  exact⟨_,fun W'=>LU (bK hx) (bK hy),eD _⟩
 ·split at h
  ·cases op <;> first | (cases h;done) | skip
   all_goals obtain⟨rfl,rfl⟩:=pr h
   ·exact⟨_,fun W'=>LN hk (bK hx) (bK hy) rfl,eD _⟩
   exact⟨_,fun W'=>LO hk (bK hx) (bK hy) rfl,eD _⟩
  cases h
 ·have e2:=bK hy
  simp only[bO,cD,AR]at hx
  obtain⟨b0,_,e1⟩:=hx
  split at h
  ·cases op <;> first | (cases h;done) | skip
   all_goals obtain⟨rfl,rfl⟩:=pr h
   ·exact⟨_,fun W'=>Cu hk e1 e2,eD _⟩
   exact⟨_,fun W'=>Cv hk e1 e2,eD _⟩
  cases h
 ·have e2:=bK hy
  simp only[bO,cD,AR]at hx
  obtain⟨ad,_,_,e1⟩:=hx
  split at h
  ·cases op <;> first | (cases h;done) | skip
   all_goals obtain⟨rfl,rfl⟩:=pr h
   ·exact⟨_,fun W'=>Cu hk e1 e2,eD _⟩
   exact⟨_,fun W'=>Cv hk e1 e2,eD _⟩
  cases h
 ·split at h
  ·cases op <;> first | (cases h;done) | skip
   all_goals obtain⟨rfl,rfl⟩:=pr h
   ·exact⟨_,fun W'=>Cu hk (bK hx) (bK hy),eD _⟩
   exact⟨_,fun W'=>Cv hk (bK hx) (bK hy),eD _⟩
  cases h
 cases h
theorem XE {t n' sz:Nat}(hk:Wp P t n' sz) (hx:bO W N cs a (ρ x)) (hy:bO W N cs b (ρ y)) (h:Xk n' sz a b=some (C,v)) (hC:C):nF P W N cs ρ ⟨d,.indexAddr t x y,ty,pos,af,gd⟩ v:=by
 unfold Xk at h
 split at h
 ·rename_i k o kk i
  obtain⟨rfl,rfl⟩:=pr h
  have e2:=bK (x:=.int kk (.ofNat i)) hy
  simp only[bO,cD,AR]at hx
  obtain⟨b0,hb,e1⟩:=hx
  refine⟨_,fun W'=>QJ (i:=i) hk e1 e2 hC,jI ?_⟩
  simp only[AR]
  exact⟨b0,hb,by rw[jH]⟩
 cases h
theorem aAg {t:Nat}(hk:TyStr P t) (hx:bO W N cs a (ρ x)) (hy:bO W N cs b (ρ y)) (h:HC a b=some (C,v)) (hC:C):nF P W N cs ρ ⟨d,.index t x y,ty,pos,af,gd⟩ v:=by
 unfold HC at h
 split at h
 ·rename_i s kk i
  obtain⟨rfl,rfl⟩:=pr h
  have e2:=bK (x:=.int kk (.ofNat i)) hy
  have hi:s[i]? =some (s.data[i]?.getD 0):=by
   have h1:i<s.data.size:=hC
   have h2:s[i]? =some s[i]:=getElem?_pos s i hC
   rw[h2,Array.getElem?_eq_getElem h1]
   rfl
  exact⟨_,fun W'=>LW (i:=i) hk (bK hx) e2 hi,eD _⟩
 cases h
theorem aAh {t:Nat}{lo hi:Option Operand}(hk:TyStr P t) (hx:bO W N cs a (ρ x)){n:Nat}{g:Nat→FV}(hlk:∀o,bO W N cs (lk n g o) (ρ o)) (h:HD a (lo.map (lk n g)) (hi.map (lk n g))=some (C,v)) (hC:C):nF P W N cs ρ ⟨d,.slice t x lo hi none,ty,pos,af,gd⟩ v:=by
 unfold HD at h
 split at h
 ·rename_i s kk i h1 h2
  obtain⟨rfl,rfl⟩:=pr h
  cases lo <;> simp at h1
  cases hi <;> simp at h2
  have e1:=hlk ‹_›
  rw[h1]at e1
  exact⟨_,fun W'=>DX (i:=i) hk (bK hx) (bK (x:=.int kk (.ofNat i)) e1) hC,eD _⟩
 ·rename_i s kk i h1 h2
  obtain⟨rfl,rfl⟩:=pr h
  cases lo <;> simp at h1
  cases hi <;> simp at h2
  have e1:=hlk ‹_›
  rw[h2]at e1
  exact⟨_,fun W'=>DZ (i:=i) hk (bK hx) (bK (x:=.int kk (.ofNat i)) e1) hC,eD _⟩
 ·rename_i s kk i kk' j h1 h2
  obtain⟨rfl,rfl⟩:=pr h
  cases lo with
  | none=>simp at h1
  | some o1=>
   cases hi with
   | none=>simp at h2
   | some o2=>
    simp at h1 h2
    have e1:=hlk o1
    have e2:=hlk o2
    rw[h1]at e1
    rw[h2]at e2
    exact⟨_,fun W'=>LX (i:=i) (j:=j) hk (bK hx) (bK (x:=.int kk (.ofNat i)) e1) (bK (x:=.int kk' (.ofNat j)) e2) hC.1 hC.2,eD _⟩
 cases h
theorem aAi {t:Nat}(hk:TyStr P t) (hx:bO W N cs a (ρ x)) (h:HE a=some (C,v)):nF P W N cs ρ ⟨d,.call ⟨.builtin .len,⟨[x]⟩,⟨[t]⟩⟩,ty,pos,af,gd⟩ v:=by
 unfold HE at h
 split at h
 ·obtain⟨rfl,rfl⟩:=pr h
  exact⟨_,fun W'=>LV hk (bK hx),eD _⟩
 cases h
theorem aAj {t e sz by_:Nat}{zz:Value}(hk:Dt P t (.sl e sz by_ zz)) (hx:bO W N cs a (ρ x)) (hy:bO W N cs b (ρ y)) (h:GZ sz a b=some (C,v)) (hC:C):nF P W N cs ρ ⟨d,.indexAddr t x y,ty,pos,af,gd⟩ v:=by
 unfold GZ at h
 split at h
 ·rename_i k o n kk i
  obtain⟨rfl,rfl⟩:=pr h
  have e2:=bK (x:=.int kk (.ofNat i)) hy
  simp only[bO,cD,AR]at hx
  replace hx:=hx.2
  cases hb:(co cs k).b with
  | none=>
   rw[hb]at hx
   simp at hx
   omega
  | some b0=>
   rw[hb]at hx
   obtain⟨o',c,e1,h1,h2,h3,h4⟩:=hx
   obtain rfl:=h3 (.inl (by omega))
   refine⟨_,fun W'=>yG (k:=i) hk.1 e1 rfl e2 hC,?_⟩
   refine jI ?_
   simp only[AR]
   exact⟨b0,hb,by rw[jH]⟩
 ·rename_i n l kk i
  obtain⟨rfl,rfl⟩:=pr h
  have e2:=bK (x:=.int kk (.ofNat i)) hy
  simp only[bO,cD,AR,FR]at hx
  obtain⟨A,c,e1,h1,h2,h3,h4⟩:=hx
  rcases h4 with h4 | ⟨ad,rfl,h5,h6⟩
  ·omega
  exact⟨_,fun W'=>yG (k:=i) hk.1 e1 rfl e2 hC,ad,h5,h6,rfl⟩
 cases h
theorem Ul {m:Nat}{u:Value}(hx:bO W N cs a u) (h:mV a=some m):∃A c,u=.slice A m c:=by
 unfold mV at h
 split at h
 ·rename_i k o n
  simp at h
  subst h
  simp only[bO,cD,AR]at hx
  replace hx:=hx.2
  cases hb:(co cs k).b with
  | none=>
   rw[hb]at hx
   obtain⟨rfl,_,e⟩:=hx
   exact⟨_,_,e⟩
  | some b0=>
   rw[hb]at hx
   obtain⟨_,c,e,_⟩:=hx
   exact⟨_,_,e⟩
 ·simp at h
  subst h
  simp only[bO,cD,AR,FR]at hx
  obtain⟨A,c,e1,_⟩:=hx
  exact⟨A,c,e1⟩
 ·simp at h
  subst h
  exact⟨_,_,bK hx⟩
 cases h
theorem zJ {ad:Addr}:∀{trs:List Tr}{i:Nat},(∀(j:Nat) (y:Tr),trs[j]? =some y→∃u,W.cell? (ad.add (i+j))=some u∧FR W N y u)→FRc W N ad i trs
 | [],i,_=>by simp[FRc]
 | y::trs,i,h=>by
  simp only[FRc]
  refine⟨by simpa using h 0 y rfl,zJ fun j z hj=>?_⟩
  have:=h (j+1) z (by simpa using hj)
  rwa[show i+(j+1)=i+1+j by omega]at this
theorem HI {ad:Addr}{l:List Tr}(k:Nat) (h:FRc W N ad 0 l):FRc W N (ad.add k) 0 (l.drop k):=zJ fun j y hj=>by
 rw[List.getElem?_drop]at hj
 obtain⟨u,h1,h2⟩:=pQ h hj
 exact⟨u,by rw[Gp];simpa using h1,h2⟩
theorem HJ {ad:Addr}{l:List Tr}(k:Nat) (h:FRc W N ad 0 l):FRc W N ad 0 (l.take k):=zJ fun j y hj=>by
 rw[List.getElem?_take]at hj
 split at hj
 ·exact pQ h hj
 cases hj
theorem NW {t e sz by_:Nat}{zz:Value}{lo hi:Option Operand}(hk:Dt P t (.sl e sz by_ zz)) (hx:bO W N cs a (ρ x)){n:Nat}{g:Nat→FV}(hlk:∀o,bO W N cs (lk n g o) (ρ o)) (h:HF sz a (lo.map (lk n g)) (hi.map (lk n g))=some (C,v)) (hC:C):nF P W N cs ρ ⟨d,.slice t x lo hi none,ty,pos,af,gd⟩ v:=by
 unfold HF at h
 split at h
 ·rename_i o t' z m l kk i h1 h2
  split at h
  ·rename_i hz
   have hz:=Nat.eq_of_beq_eq_true hz
   subst hz
   obtain⟨rfl,rfl⟩:=pr h
   obtain⟨lo',rfl,e1⟩:=Option.map_eq_some_iff.1 h1
   obtain rfl:hi=none:=by cases hi <;> simp at h2 <;> rfl
   have e2:=hlk lo'
   rw[e1]at e2
   have e2:=bK (x:=.int kk (.ofNat i)) e2
   simp only[bO,cD,AR,FR]at hx
   obtain⟨A,c,e3,h3,h4,h5,h6⟩:=hx
   refine⟨_,fun W'=>wQ (k:=i) hk.1 e3 e2 hC h3,?_⟩
   simp only[bO,cD,AR,FR]
   refine⟨_,_,rfl,by omega,by omega,by rw[List.length_drop,h5,Nat.sub_mul],?_⟩
   rcases Nat.eq_zero_or_pos (m-i)with h0 | h0
   ·exact .inl h0
   rcases h6 with h6 | ⟨ad,rfl,h7,h8⟩
   ·omega
   rw[if_neg (by omega)]
   exact .inr ⟨ad.add (i*z),rfl,by rw[oC];exact h7,HI _ h8⟩
  cases h
 ·rename_i o t' z m l kk i h1 h2
  split at h
  ·rename_i hz
   have hz:=Nat.eq_of_beq_eq_true hz
   subst hz
   obtain⟨rfl,rfl⟩:=pr h
   obtain⟨hi',rfl,e1⟩:=Option.map_eq_some_iff.1 h2
   obtain rfl:lo=none:=by cases lo <;> simp at h1 <;> rfl
   have e2:=hlk hi'
   rw[e1]at e2
   have e2:=bK (x:=.int kk (.ofNat i)) e2
   simp only[bO,cD,AR,FR]at hx
   obtain⟨A,c,e3,h3,h4,h5,h6⟩:=hx
   refine⟨_,fun W'=>wR (k:=i) hk.1 e3 e2 (Nat.le_trans hC h3),?_⟩
   simp only[bO,cD,AR,FR]
   refine⟨_,_,rfl,Nat.le_trans hC h3,h4,by rw[eJ,h5,Nat.min_eq_left (Nat.mul_le_mul_right _ hC)],?_⟩
   rcases Nat.eq_zero_or_pos i with h0 | h0
   ·exact .inl h0
   rcases h6 with h6 | ⟨ad,rfl,h7,h8⟩
   ·omega
   exact .inr ⟨ad,rfl,h7,HJ _ h8⟩
  cases h
 ·rename_i k o m kk i h1 h2
  obtain⟨rfl,rfl⟩:=pr h
  obtain⟨lo',rfl,e1⟩:=Option.map_eq_some_iff.1 h1
  obtain rfl:hi=none:=by cases hi <;> simp at h2 <;> rfl
  have e2:=hlk lo'
  rw[e1]at e2
  have e2:=bK (x:=.int kk (.ofNat i)) e2
  simp only[bO,cD,AR]at hx
  cases hb:(co cs k).b with
  | none=>
   rw[hb]at hx
   obtain⟨hlt,rfl,rfl,e3⟩:=hx
   have hi0:i=0:=by omega
   subst hi0
   refine⟨_,fun W'=>wQ (k:=0) hk.1 e3 e2 (bC _) (bC _),?_⟩
   simp only[bO,cD,AR,hb]
   exact⟨hlt,by simp,by simp,by simp⟩
  | some b=>
   rw[hb]at hx
   obtain⟨hlt,o',c,e3,h3,h4,h5,h6⟩:=hx
   refine⟨_,fun W'=>wQ (k:=i) hk.1 e3 e2 hC.1 h3,?_⟩
   simp only[bO,cD,AR,hb]
   refine⟨hlt,if c=i then o' else o'+i*sz,c-i,?_,by omega,by omega,fun h0=>?_,fun h0=>?_⟩
   ·by_cases hc:c=i
    ·simp[hc]
    simp[hc,jH]
   ·by_cases hc:c=i
    ·have hm:m=i:=by omega
     rw[if_pos hc]
     rcases h0 with h0 | h0
     ·omega
     have:i=0:=by
      rcases Nat.eq_zero_or_pos i with h9 | h9
      ·exact h9
      have:=Nat.mul_pos h9 hC.2
      omega
     subst this
     simpa using h5 (.inr (by omega))
    rw[if_neg hc]
    rcases h0 with h0 | h0
    ·rw[h5 (.inl (by omega))]
    rw[h5 (.inr (by omega))]
   have:i=0:=by
    rcases Nat.eq_zero_or_pos i with h9 | h9
    ·exact h9
    have:=Nat.mul_pos h9 hC.2
    omega
   subst this
   rw[Nat.sub_zero]
   exact h6 (by omega)
 ·rename_i k o m kk i h1 h2
  obtain⟨rfl,rfl⟩:=pr h
  obtain⟨hi',rfl,e1⟩:=Option.map_eq_some_iff.1 h2
  obtain rfl:lo=none:=by cases lo <;> simp at h1 <;> rfl
  have e2:=hlk hi'
  rw[e1]at e2
  have e2:=bK (x:=.int kk (.ofNat i)) e2
  simp only[bO,cD,AR]at hx
  cases hb:(co cs k).b with
  | none=>
   rw[hb]at hx
   obtain⟨hlt,rfl,rfl,e3⟩:=hx
   have hi0:i=0:=by omega
   subst hi0
   refine⟨_,fun W'=>wR (k:=0) hk.1 e3 e2 (bC _),?_⟩
   simp only[bO,cD,AR,hb]
   exact⟨hlt,by simp⟩
  | some b=>
   rw[hb]at hx
   obtain⟨hlt,o',c,e3,h3,h4,h5,h6⟩:=hx
   refine⟨_,fun W'=>wR (k:=i) hk.1 e3 e2 (Nat.le_trans hC h3),?_⟩
   simp only[bO,cD,AR,hb]
   exact⟨hlt,o',c,rfl,Nat.le_trans hC h3,h4,fun h0=>h5 (by omega),h6⟩
 cases h
theorem XF {aa:Array TypeId}(hx:bO W N cs a (ρ x)) (hy:bO W N cs b (ρ y)) (h:Xl a b=some (C,v)):nF P W N cs ρ ⟨d,.call ⟨.builtin .max,⟨[x,y]⟩,aa⟩,ty,pos,af,gd⟩ v:=by
 unfold Xl at h
 split at h
 ·split at h
  ·rename_i hk
   have hk:=Mf hk
   subst hk
   obtain⟨rfl,rfl⟩:=pr h
   exact⟨_,fun W'=>LQ (bK hx) (bK hy) (by omega),eD _⟩
  cases h
 cases h
theorem XG {aa:Array TypeId}(hx:bO W N cs a (ρ x)) (hy:bO W N cs b (ρ y)) (h:Xm a b=some (C,v)):nF P W N cs ρ ⟨d,.call ⟨.builtin .min,⟨[x,y]⟩,aa⟩,ty,pos,af,gd⟩ v:=by
 unfold Xm at h
 split at h
 ·split at h
  ·rename_i hk
   have hk:=Mf hk
   subst hk
   obtain⟨rfl,rfl⟩:=pr h
   exact⟨_,fun W'=>LR (bK hx) (bK hy) (by omega),eD _⟩
  cases h
 cases h
theorem XH {t e sz by_ m:Nat}{zz:Value}(hk:Dt P t (.sl e sz by_ zz)) (hx:bO W N cs a (ρ x)) (hm:mV a=some m):nF P W N cs ρ ⟨d,.call ⟨.builtin .len,⟨[x]⟩,⟨[t]⟩⟩,ty,pos,af,gd⟩ (.one (tv (.int .i64 (m:Int)))):=by
 obtain⟨A,c,e⟩:=Ul hx hm
 exact⟨_,fun W'=>PS hk.1 e,eD _⟩
theorem Um:∀(us:List Value),ARL W N cs (us.map tv) us:=qY
theorem BD {u:Value}:∀{l:List AV},bO W N cs (.agg l) u→∃us,u=.agg us.toArray∧u.cells.toList=us∧ARL W N cs l us:=fun⟨us,e,h⟩=>⟨us,e,by simp[e,Value.cells],h⟩
theorem xO {al:AV}{u:Value}(h:AR W N cs al u) (hl:lone al=true):u.cells= #[u]:=by
 cases al with
 | t x=>
  cases x with
  | v w=>
   simp only[AR,FR]at h
   subst h
   cases u <;> first | rfl | (simp[lone]at hl)
  | s o t z n l=>
   simp only[AR,FR]at h
   obtain⟨A,c,rfl,_⟩:=h
   rfl
  | p o t l=>
   simp only[AR,FR]at h
   obtain⟨A,rfl,_⟩:=h
   rfl
  | f g l0 l=>
   simp only[AR,FR]at h
   obtain⟨A,B,rfl,_⟩:=h
   rfl
  | a l=>simp[lone]at hl
 | sl k o n=>
  simp only[AR]at h
  replace h:=h.2
  split at h
  ·obtain⟨_,_,rfl⟩:=h
   rfl
  obtain⟨_,_,rfl,_⟩:=h
  rfl
 | pt k o=>
  simp only[AR]at h
  obtain⟨_,_,rfl⟩:=h
  rfl
 | ef l o=>
  simp only[AR]at h
  obtain⟨_,_,_,rfl⟩:=h
  rfl
 | fn f a b=>
  simp only[AR]at h
  obtain⟨_,_,rfl,_⟩:=h
  rfl
theorem Bn {fld:List (Nat×Nat×Nat)}{k:List AV→Ev}:∀{ps:List (Nat×FV)}{vs:List (Nat×Value)}{cells:List AV}{us:List Value},ARL W N cs cells us→Ii fld cells ps k=some (C,v)→
  (ps.length=vs.length)→(∀(j:Nat) (p:Nat×FV) (q:Nat×Value),ps[j]? =some p→vs[j]? =some q→p.1=q.1∧bO W N cs p.2 q.2)→
  ∃l us',ARL W N cs l us'∧kA (fun i=>(fld.map fun x=>(x.1,x.2.2))[i]?) us vs=some us'∧k l=some (C,v)
 | [],vs,cells,us,hc,h,hl,_=>by
  obtain rfl:vs=[]:=List.eq_nil_of_length_eq_zero hl.symm
  exact⟨cells,us,hc,rfl,h⟩
 | (i,fv)::ps,vs,cells,us,hc,h,hl,hp=>by
  obtain⟨⟨i',u⟩,vs,rfl⟩:∃q vs',vs=q::vs':=by
   cases vs with
   | nil=>simp at hl
   | cons q vs=>exact⟨q,vs,rfl⟩
  have h0:=hp 0 _ _ rfl rfl
  obtain⟨e0,h0⟩:=h0
  dsimp only at e0 h0
  subst e0
  have hp':∀(j:Nat) (p:Nat×FV) (q:Nat×Value),ps[j]? =some p→vs[j]? =some q→p.1=q.1∧bO W N cs p.2 q.2:=fun j p q h1 h2=>hp (j+1) p q (by simpa using h1) (by simpa using h2)
  have hl':ps.length=vs.length:=by simpa using hl
  unfold Ii at h
  unfold kA
  have hlu:=iR hc
  split at h
  ·rename_i off _ sz l hf
   have hm:(fld.map fun x=>(x.1,x.2.2))[i]? =some (off,sz):=by simp[hf]
   rw[hm]
   split at h
   ·rename_i hq
    obtain⟨d1,d2⟩:=xN h
    obtain⟨d3,d4⟩:=xM d2
    obtain⟨us1,rfl,e2,e3⟩:=BD h0
    have hq:=Nat.eq_of_beq_eq_true hq
    have hz:us1.length=sz:=by rw[iR e3,hq]
    obtain⟨l',us',r1,r2,r3⟩:=Bn (ps:=ps) (vs:=vs) (us:=qK us off us1) (cells:=cells.take off++l++cells.drop (off+sz)) (by
     unfold qK
     rw[hz]
     exact Bm (Bm (xL _ hc) e3) (xK _ hc)) d4 hl' hp'
    refine⟨l',us',r1,?_,r3⟩
    simp only[e2]
    have b1:Nat.beq us1.length sz=true:=by simp[hz]
    have b2:Nat.ble (off+us1.length) us.length=true:=by simp[hz,hlu];omega
    rw[b1,b2]
    exact r2
   cases h
  ·rename_i off _ al hf
   have hm:(fld.map fun x=>(x.1,x.2.2))[i]? =some (off,1):=by simp[hf]
   rw[hm]
   split at h
   ·rename_i hlo
    obtain⟨d1,d2⟩:=xN h
    obtain⟨d3,d4⟩:=xM d2
    have e2:u.cells.toList=[u]:=by rw[xO (cs:=cs) h0 hlo]
    obtain⟨l',us',r1,r2,r3⟩:=Bn (ps:=ps) (vs:=vs) (us:=qK us off [u]) (cells:=cells.take off++al::cells.drop (off+1)) (by
     unfold qK
     rw[List.append_assoc]
     refine Bm (xL _ hc) ?_
     simp only[List.singleton_append,ARL]
     exact⟨h0,xK _ hc⟩) d4 hl' hp'
    refine⟨l',us',r1,?_,r3⟩
    simp only[e2]
    have b1:Nat.beq [u].length 1=true:=rfl
    have b2:Nat.ble (off+[u].length) us.length=true:=by simp[hlu];omega
    rw[b1,b2]
    exact r2
   cases h
  cases h
theorem xP:∀{l:List AV}{r:List Tr}{us:List Value},uF l=some r→ARL W N cs l us→FRL W N r us
 | [],r,us,h,hu=>by
  simp[uF]at h
  subst h
  simpa[ARL,FRL]using hu
 | .t y::l,r,us,h,hu=>by
  simp only[uF]at h
  split at h
  ·rename_i r' hr
   injection h with h
   subst h
   cases us with
   | nil=>simp only[ARL]at hu
   | cons u us=>
    simp only[ARL,AR]at hu
    simp only[FRL]
    exact⟨hu.1,xP hr hu.2⟩
  cases h
 | .sl .. ::_,_,_,h,_ | .pt .. ::_,_,_,h,_ | .ef .. ::_,_,_,h,_ | .fn .. ::_,_,_,h,_=>by simp[uF]at h
theorem TL {f:Nat}{l l':List AV}{us vs:List Value}(h1:ARL W N cs l us) (h2:ARL W N cs l' vs):AR W N cs (TF f l l') (.func (.func f) us.toArray vs.toArray):=by
 unfold TF
 split
 ·rename_i r r' hr hr'
  simp only[AR,FR]
  exact⟨us,vs,rfl,xP hr h1,xP hr' h2⟩
 simp only[AR]
 exact⟨us,vs,rfl,h1,h2⟩
theorem Fn {n:Nat}{g:Nat→FV}(hlk:∀o,bO W N cs (lk n g o) (ρ o)):∀{l:List Operand}{r:List AV},Uk n g l=some r→ARL W N cs r (l.map ρ)
 | [],r,h=>by
  simp[Uk]at h
  subst h
  simp[ARL]
 | o::l,r,h=>by
  unfold Uk at h
  split at h
  ·rename_i a r' h1 h2
   simp at h
   subst h
   simp only[List.map_cons,ARL]
   have:=hlk o
   rw[h1]at this
   exact⟨this,Fn hlk h2⟩
  ·rename_i c r' h1 h2
   split at h
   ·rename_i c' hc
    simp at h
    subst h
    have:=hlk o
    rw[h1]at this
    obtain⟨us,e,h3⟩:=this
    simp only[List.map_cons,ARL,AR,FR]
    exact⟨⟨us,e,xP hc h3⟩,Fn hlk h2⟩
   cases h
  cases h
theorem TM {k:List AV→Ev}{l:List AV}(h:all l k=some (C,v)):k l=some (C,v):=Fm h
theorem Ij {n:Nat}{g:Nat→FV}{T:List (Nat×TI)}(hT:cN P T) (hlk:∀o,bO W N cs (lk n g o) (ρ o)){o:Op}(h:vX T n g o=some (C,v)) (hC:C):nF P W N cs ρ ⟨d,o,ty,pos,af,gd⟩ v:=by
 unfold vX at h
 split at h
 ·exact TG (hlk _) h
 ·exact HH (hlk _) h
 ·exact TH (hlk _) (hlk _) (hlk _) h
 ·split at h
  ·rename_i ht
   exact Sg (eY hT ht).2.2.2.1 (hlk _) h
  cases h
 ·split at h
  ·rename_i ht
   split at h
   ·rename_i hf
    split at h
    ·rename_i hi
     exact NU (eY hT ht).2.2.2.1 hf (eY hT hi).1 (hlk _) h
    cases h
   cases h
  cases h
 ·exact aAe (hlk _) h
 ·split at h
  ·rename_i ht
   exact KH (eY hT ht).2.2.2 (hlk _) (hlk _) h hC
  exact KH (k:=.ot) trivial (hlk _) (hlk _) h hC
 ·exact aAf (hlk _) h hC
 ·split at h
  ·rename_i h1 h2
   exact TJ (eY hT h1).2.2.2 (eY hT h2).2.2.2 (hlk _) h hC
  cases h
 ·exact BC (hlk _) h
 ·split at h
  ·rename_i ht
   exact aAj (eY hT ht).2.2.2 (hlk _) (hlk _) h hC
  ·rename_i ht
   exact XE (eY hT ht).2.2.2 (hlk _) (hlk _) h hC
  cases h
 ·split at h
  ·rename_i ht
   exact aAg (eY hT ht).2.2.2 (hlk _) (hlk _) h hC
  cases h
 ·split at h
  ·rename_i t ps _ ag sz z fld ht
   have hi:=eY hT ht
   obtain⟨l,us',h1,h2,h3⟩:=Bn (W:=W) (N:=N) (cs:=cs) (us:=z) (vs:=ps.toList.map fun p=>(p.1,ρ p.2)) (Um z) h (by simp) (fun j p q hp hq=>by
    simp only[List.getElem?_map,Option.map_eq_some_iff]at hp hq
    obtain⟨a,ha,rfl⟩:=hp
    obtain⟨b,hb,rfl⟩:=hq
    rw[ha]at hb
    injection hb with hb
    subst hb
    exact⟨rfl,hlk _⟩)
   have h4:=TM h3
   obtain⟨rfl,rfl⟩:=pr h4
   refine⟨.agg us'.toArray,fun W'=>DW hi.2.2.2.2 hi.2.2.1 (ps:=ps.toList.map fun p=>(p.1,ρ p.2)) (by apply Array.ext';simp only[Array.toList_map]) h2,us',rfl,h1⟩
  cases h
 ·split at h
  ·rename_i h1 h2
   obtain⟨rfl,rfl⟩:=pr h
   refine⟨_,fun W'=>Sa (l1:=_) (l2:=_) (by apply Array.ext';simp only[Array.toList_map]) (by apply Array.ext';simp only[Array.toList_map]),TL (Fn hlk h1) (Fn hlk h2)⟩
  cases h
 ·split at h
  ·rename_i ht
   exact NW (eY hT ht).2.2.2 (hlk _) hlk h hC
  ·rename_i ht
   exact aAh (eY hT ht).2.2.2 (hlk _) hlk h hC
  cases h
 ·exact XF (hlk _) (hlk _) h
 ·exact XG (hlk _) (hlk _) h
 ·split at h
  ·rename_i ht
   split at h
   ·rename_i hm
    obtain⟨rfl,rfl⟩:=pr h
    exact XH (eY hT ht).2.2.2 (hlk _) hm
   cases h
  ·rename_i ht
   exact aAi (eY hT ht).2.2.2 (hlk _) h
  cases h
 cases h
end
section
variable {x:Cx}{g g':Nat→FV}{ob ob':List (Option Ob)}{cs cs':List Co}{ts ts':Array Value}{W W':World}
theorem RelC.of {F:List Sh}(hs:ts.size=x.n) (hL:Loc x.M x.w W (aQ ob cs) F) (ho:Jw W (x.fr W ob cs) cs ob) (hf:∀i,i<x.n→∃u,ts[i]? =some u∧bO W (x.fr W ob cs) cs (g i) u) (hi:Same x.c0 cs):RelC x g ob cs ts W:=
 ⟨hs,(hL.pickS []).read _ ⟨ho,hf⟩,hi⟩
theorem kJ (h:ob.length=cs.length):(aQ ob cs).length=cs.length:=by simp[aQ,h]
theorem cJ {k:Nat}{o:Option Ob}(h:ob.length=cs.length) (hk:ob[k]? =some o):(aQ ob cs)[k]? =some (aR o (co cs k)):=by
 have hlt:=(List.getElem?_eq_some_iff.1 hk).1
 have:cs[k]? =some cs[k]:=gG (by omega)
 simp[aQ,List.getElem?_zipWith,hk,this,co]
theorem RelC.res (h:RelC x g ob cs ts W){k:Nat}{o:Option Ob}(hk:ob[k]? =some o):(aR o (co cs k)).φ W:=h.2.get k (cJ h.len hk)
theorem RelC.blk (h:RelC x g ob cs ts W){k b:Nat}{o:Ob}(hk:ob[k]? =some (some o)) (hb:(co cs k).b=some b):
  Blk W b o.t (bif Nat.beq o.z 0 then(co cs k).l.length else(co cs k).c*o.z) ((co cs k).l.map VT.val)∧VT.okL W (co cs k).l∧(co cs k).c≤maxLen:=by
 have:=h.res hk
 simpa only[aR,hb]using this
theorem RelC.crl (h:RelC x g ob cs ts W){k:Nat}{o:Ob}(hk:ob[k]? =some (some o)):bU W (x.fr W ob cs) cs o.l (co cs k).l:=(h.obs.2 k o hk).1
theorem oZ {c:Co}{k:Nat}(h:k<cs.length):co (cs++[c]) k=co cs k:=by simp[co,List.getElem?_append_left h]
theorem iV {c:Co}:co (cs++[c]) cs.length=c:=by simp[co]
theorem Same.app {c:Co}:Same cs (cs++[c]):=⟨by simp,fun k hk=>by rw[oZ hk];exact⟨rfl,rfl⟩⟩
def eK (ob:List (Option Ob)) (cs:List Co):List Nat:=(aQ ob cs).flatMap Res.S
theorem rV {b:Nat}(h:x.fr W ob cs b) (hs:W.heap.size≤W'.heap.size) (ho:∀b∈eK ob' cs',b∈eK ob cs∨W.heap.size≤b):x.fr W' ob' cs' b:=by
 refine⟨⟨Nat.lt_of_lt_of_le h.1.1 hs,fun hm=>?_⟩,h.2⟩
 rcases ho b hm with h1 | h1
 ·exact h.1.2 h1
 have:=h.1.1
 omega
theorem RelC.push (h:RelC x g ob cs ts W) (hb:Below W.heap.size W W') (o:Ob) (c:Co) (hφ:(aR (some o) c).φ W') (hS:∀b∈(aR (some o) c).S,W.heap.size≤b∧b<W'.heap.size) (hn:(aR (some o) c).S.Nodup)
  (hc:bU W' (x.fr W' (ob++[some o]) (cs++[c])) (cs++[c]) o.l c.l) (hz:c.b=none→o.l=[]∧o.z≠0):RelC x g (ob++[some o]) (cs++[c]) ts W':=by
 have hlen:=h.len
 have hr:aQ (ob++[some o]) (cs++[c])=aQ ob cs++[aR (some o) c]:=by
  unfold aQ
  rw[List.zipWith_append hlen]
  rfl
 have hL:Loc x.M x.w W' (aQ (ob++[some o]) (cs++[c])) []:=by
  rw[hr]
  exact(((h.2.push hb hφ hS hn).pickS [])).perm (List.perm_append_comm (l₁:=[aR (some o) c]))
 have hown:∀b∈eK (ob++[some o]) (cs++[c]),b∈eK ob cs∨W.heap.size≤b:=by
  intro b hb
  unfold eK at hb
  rw[hr,List.flatMap_append,List.mem_append]at hb
  rcases hb with hb | hb
  ·exact .inl hb
  refine .inr (hS b ?_).1
  simpa using hb
 have hk:∀b,x.fr W ob cs b→W'.heap[b]? =W.heap[b]? :=fun b h=>hb.block b h.1.1
 have hN:∀b,x.fr W ob cs b→x.fr W' (ob++[some o]) (cs++[c]) b:=fun b h=>rV h hb.size hown
 refine .of h.1 hL ⟨by simp[hlen],fun k o' hk'=>?_⟩ (fun i hi=>?_) (h.3.trans .app)
 ·rw[List.getElem?_append]at hk'
  split at hk'
  ·rename_i hlt
   have h1:=h.obs.2 k o' hk'
   rw[oZ (by omega)]
   exact⟨dN hk hN .app _ _ h1.1,h1.2⟩
  rename_i hge
  have e:k=ob.length:=by
   have:=(List.getElem?_eq_some_iff.1 hk').1
   simp at this
   omega
  subst e
  simp at hk'
  subst hk'
  rw[hlen,iV]
  exact⟨hc,hz⟩
 obtain⟨u,h1,h2⟩:=h.fv hi
 exact⟨u,h1,gI hk hN .app _ _ h2⟩
structure Aft (Wr:List Nat) (d:Option Nat) (ob:List (Option Ob)) (cs:List Co) (ts:Array Value) (W:World) (ob':List (Option Ob)) (cs':List Co) (ts':Array Value) (W':World):Prop where
 same:Same cs cs'
 un:∀k,k∉Wr→k<cs.length→co cs' k=co cs k
 size:W.heap.size≤W'.heap.size
 keep:∀b,b<W.heap.size→(∀k∈Wr,∀o,ob[k]? =some o→b∉(aR o (co cs k)).S)→W'.heap[b]? =W.heap[b]?
 own:∀b∈eK ob' cs',b∈eK ob cs∨W.heap.size≤b
 fr:∀i,d≠some i→ts'[i]? =ts[i]?
def OS (x:Cx) (o:Oper) (g:Nat→FV) (ob:List (Option Ob)) (Wr:List Nat) (R:(Nat→FV)→List (Option Ob)→Prop):Prop:=
 ∀cs ts W,RelC x g ob cs ts W→∀(K:Act→World→Prop) (Q:Exit→Act→World→Prop),
  (∀g' ob' cs' ts' W',R g' ob'→RelC x g' ob' cs' ts' W'→Aft Wr o.dst ob cs ts W ob' cs' ts' W'→K ⟨ts',[]⟩ W')→o.wp x.P ⟨ts,[]⟩ W K Q
theorem Aft.put (d:Nat) (u:Value):Aft [] (some d) ob cs ts W ob cs (ts.setIfInBounds d u) W:=
 ⟨.refl,fun _ _ _=>rfl,bC _,fun _ _ _=>rfl,fun _ h=>.inl h,fun i hi=>Array.getElem?_setIfInBounds_ne (fun e=>hi (by rw[e]))⟩
variable {d:Nat}{ty:TypeId}{pos:String}{af:Array Edge}{gd:Option (Nat×Bool)}{T:List (Nat×TI)}
theorem BE {o:Op}{v:FV}(h:∀cs ts W,RelC x g ob cs ts W→nF x.P W (x.fr W ob cs) cs (Act.eval ⟨ts,[]⟩) ⟨some d,o,ty,pos,af,gd⟩ v):
  OS x ⟨some d,o,ty,pos,af,gd⟩ g ob [] (fun g' ob'=>g'=bH g d v∧ob'=ob):=by
 intro cs ts W hR K Q k
 obtain⟨u,hrun,hv⟩:=h cs ts W hR
 exact iL (hrun W) (k _ _ _ _ _ ⟨rfl,rfl⟩ (hR.put d hv) (.put d u))
theorem TN (hT:cN x.P T){o:Op}{C:Prop}{v:FV}(h:vX T x.n g o=some (C,v)) (hC:C):OS x ⟨some d,o,ty,pos,af,gd⟩ g ob [] (fun g' ob'=>g'=bH g d v∧ob'=ob):=
 BE fun _ _ _ hR=>Ij hT hR.lk h hC
def rA:AV→Bool
 | .t (.s true _ _ _ _)=>false
 | .t (.p true _ _)=>false
 | _=>true
def gU:List AV→Bool
 | []=>true
 | a::l=>rA a&&gU l
def Ik (l:List AV) (v:FV):Ev:=match gU l with
 | true=>ev v
 | false=>none
def HK (i:TI) (o:Nat) (l:List AV):Ev:=dp o l fun l=>match i.agg with
 | true=>tk i.size l fun r=>Ik r (.agg r)
 | false=>match l with
  | a::_=>Ik [a] (.one a)
  | []=>none
def cT (ob:List (Option Ob)) (k:Nat):Option Ob:=match ob[k]? with
 | some (some o)=>some o
 | _=>none
theorem dM {k:Nat}{o:Ob}(h:cT ob k=some o):ob[k]? =some (some o):=by
 unfold cT at h
 split at h
 ·rename_i h1
  injection h with h
  rw[h1,h]
 cases h
def tD (ob:List (Option Ob)) (i:TI):FV→Ev
 | .one (.pt k o)=>match cT ob k with
  | some b=>HK i o b.l
  | none=>none
 | _=>none
theorem Bo {N:Nat→Prop}:∀{a:AV}{y:VT},CR W N cs a y→rA a=true→AR W N cs a y.val
 | .t (.v w),y,h,_=>by
  simp only[CR,OR]at h
  subst h
  simp[AR,FR,VT.val]
 | .t (.s false t z n l),.w u,h,_=>by
  simp only[CR,OR]at h
  rcases h with⟨h,_⟩ | ⟨_,h⟩
  ·cases h
  simpa only[AR,VT.val]using h
 | .t (.s false ..),.s ..,h,_=>by
  simp only[CR,OR]at h
  cases h.1
 | .t (.s _ ..),.p ..,h,_=>by simp only[CR,OR]at h
 | .t (.s true ..),_,_,h=>by simp[rA]at h
 | .t (.p true ..),_,_,h=>by simp[rA]at h
 | .t (.p false t l),.w u,h,_=>by
  simp only[CR,OR]at h
  simpa only[AR,VT.val]using h.2
 | .t (.p false ..),.p ..,h,_=>by
  simp only[CR,OR]at h
  cases h.1
 | .t (.p _ ..),.s ..,h,_=>by simp only[CR,OR]at h
 | .t (.f ..),.w u,h,_ | .t (.a ..),.w u,h,_=>by
  simp only[CR,OR]at h
  simpa only[AR,VT.val]using h
 | .t (.f ..),.s ..,h,_ | .t (.f ..),.p ..,h,_ | .t (.a ..),.s ..,h,_ | .t (.a ..),.p ..,h,_=>by simp only[CR,OR]at h
 | .sl ..,.w u,h,_ | .pt ..,.w u,h,_ | .ef ..,.w u,h,_ | .fn ..,.w u,h,_=>by simpa only[CR,VT.val]using h
 | .sl ..,.s ..,h,_ | .sl ..,.p ..,h,_ | .pt ..,.s ..,h,_ | .pt ..,.p ..,h,_ | .ef ..,.s ..,h,_ | .ef ..,.p ..,h,_ | .fn ..,.s ..,h,_ | .fn ..,.p ..,h,_=>by simp only[CR]at h
theorem vZ {N:Nat→Prop}:∀{l:List AV}{l':List VT},bU W N cs l l'→gU l=true→ARL W N cs l (l'.map VT.val)
 | [],l',h,_=>by
  simp only[bU]at h
  simp[h,ARL]
 | a::l,y::l',h,hr=>by
  simp only[bU]at h
  simp only[gU,Bool.and_eq_true]at hr
  simp only[List.map_cons,ARL]
  exact⟨Bo h.1 hr.1,vZ h.2 hr.2⟩
 | _::_,[],h,_=>by simp only[bU]at h
theorem nY {N:Nat→Prop}:∀{l:List AV}{us:List VT}(j:Nat),bU W N cs l us→bU W N cs (l.drop j) (us.drop j)
 | [],us,j,h=>by
  simp only[bU]at h
  subst h
  simp[bU]
 | b::l,u::us,0,h=>h
 | b::l,u::us,j+1,h=>by
  simp only[bU]at h
  simpa using nY j h.2
 | _::_,[],_,h=>by simp only[bU]at h
theorem lB {N:Nat→Prop}:∀{l:List AV}{us:List VT}(j:Nat),bU W N cs l us→bU W N cs (l.take j) (us.take j)
 | [],us,j,h=>by
  simp only[bU]at h
  subst h
  simp[bU]
 | b::l,u::us,0,h=>by simp[bU]
 | b::l,u::us,j+1,h=>by
  simp only[bU]at h
  simp only[List.take_succ_cons,bU]
  exact⟨h.1,lB j h.2⟩
 | _::_,[],_,h=>by simp only[bU]at h
theorem Bp {l:List AV}{w v:FV}{C:Prop}(h:Ik l w=some (C,v)):gU l=true∧v=w:=by
 unfold Ik at h
 split at h
 ·rename_i e
  exact⟨e,(pr h).2.symm⟩
 cases h
def TO (P:Program) (W:World) (N:Nat→Prop) (cs:List Co) (ρ:Operand→Value) (o:Oper) (b:Nat) (v:FV):Prop:=∃u,(∀W',W'.heap[b]? =W.heap[b]? →(execOp ρ o).run P W'=.ok (.value u) W')∧bO W N cs v u
theorem pA {b t m o:Nat}{vs us:List Value}(h:Blk W b t m vs) (hu:(vs.drop o).take us.length=us):wP W ⟨b,o,none⟩ us:=by
 intro j u hj
 have hlt:=(List.getElem?_eq_some_iff.1 hj).1
 have e:vs[o+j]? =some u:=by
  rw[←hu]at hj
  rw[List.getElem?_take,if_pos hlt,List.getElem?_drop]at hj
  exact hj
 have:=sM h e
 rw[jH]at this
 rw[jH]
 simpa using this
theorem Il (hT:cN x.P T){t:Nat}{i:TI}{a:Operand}(hi:cP T t=some i){C:Prop}{v:FV}(h:tD ob i (lk x.n g a)=some (C,v)) (hR:RelC x g ob cs ts W){o:Oper}(ho:o.op=.load t a):
  ∃k o' b,lk x.n g a=.one (.pt k o')∧(co cs k).b=some b∧TO x.P W (x.fr W ob cs) cs (Act.eval ⟨ts,[]⟩) o b v:=by
 unfold tD at h
 split at h
 ·rename_i k off hlk
  split at h
  ·rename_i b0 hb0
   have hk:=dM hb0
   have hp:=hR.lk a
   rw[hlk]at hp
   simp only[bO,cD,AR]at hp
   obtain⟨b,hb,e⟩:=hp
   refine⟨k,off,b,hlk,hb,?_⟩
   obtain⟨k1,_,_⟩:=hR.blk hk hb
   have hcl:=hR.crl hk
   obtain⟨d1,d2⟩:=xN h
   have hty:=(eY hT hi).1
   obtain⟨od,oop,oty,opos,oaf,ogd⟩:=o
   subst ho
   split at d2
   ·rename_i hag
    obtain⟨d3,d4⟩:=xM d2
    obtain⟨d5,rfl⟩:=Bp d4
    rw[hag]at hty
    have hcl2:=vZ (lB i.size (nY off hcl)) d5
    rw[List.map_take,List.map_drop]at hcl2
    have hl:=iR hcl2
    have hl2:((((co cs k).l.map VT.val).drop off).take i.size).length=i.size:=by rw[hl,eJ];omega
    refine⟨_,fun W' hW'=>Cs hty e (pA (k1.keep hW') (us:=(((co cs k).l.map VT.val).drop off).take i.size) (by rw[hl2])) hl2,_,rfl,hcl2⟩
   rename_i hag
   split at d2
   ·rename_i a0 r hb'
    obtain⟨d5,rfl⟩:=Bp d2
    rw[hag]at hty
    have hcl2:=vZ (lB 1 (nY off hcl)) (by rw[hb'];exact d5)
    rw[List.map_take,List.map_drop,hb']at hcl2
    have hl:=iR hcl2
    cases hu:((((co cs k).l.map VT.val).drop off).take 1)with
    | nil=>
     rw[hu]at hl
     simp at hl
    | cons u us=>
     rw[hu]at hcl2 hl
     have:us=[]:=by simpa using hl
     subst this
     simp only[List.take_succ_cons,List.take_zero,ARL]at hcl2
     exact⟨u,fun W' hW'=>Ct hty.1 e (pA (k1.keep hW') (us:=[u]) (by simpa using hu)),hcl2.1⟩
   cases d2
  cases h
 cases h
theorem Xn (hT:cN x.P T){t:Nat}{i:TI}{a:Operand}(hi:cP T t=some i){C:Prop}{v:FV}(h:tD ob i (lk x.n g a)=some (C,v)):OS x ⟨some d,.load t a,ty,pos,af,gd⟩ g ob [] (fun g' ob'=>g'=bH g d v∧ob'=ob):=by
 intro cs ts W hR K Q k
 obtain⟨_,_,b,_,_,u,hrun,hv⟩:=Il hT hi h hR (o:=⟨some d,.load t a,ty,pos,af,gd⟩) rfl
 exact iL (hrun W rfl) (k _ _ _ _ _ ⟨rfl,rfl⟩ (hR.put d hv) (.put d u))
theorem zK {N:Nat→Prop}{ad:Addr}:∀{us:List Tr}{l:List Tr}{o:Nat},FRc W N ad 0 l→(l.drop o).take us.length=us→∃vs,vs.length=us.length∧wP W (ad.add o) vs∧ARL W N cs (us.map .t) vs
 | [],l,o,_,_=>⟨[],rfl,fun j u h=>by simp at h,by simp[ARL]⟩
 | y::us,l,o,h,e=>by
  have e0:l[o]? =some y:=by
   have:=congrArg (·[0]?) e
   simpa[List.getElem?_take,List.getElem?_drop]using this
  have e1:(l.drop (o+1)).take us.length=us:=by
   have:=congrArg (·.drop 1) e
   simpa[List.drop_take,List.drop_drop,Nat.add_comm]using this
  obtain⟨u,h1,h2⟩:=pQ h e0
  rw[Nat.zero_add]at h1
  obtain⟨vs,v1,v2,v3⟩:=zK (us:=us) h e1
  refine⟨u::vs,by simp[v1],fun j w hj=>?_,?_⟩
  ·cases j with
   | zero=>
    simp at hj
    subst hj
    rw[Ei]
    exact h1
   | succ j=>
    have:=v2 j w (by simpa using hj)
    rw[Gp]at this⊢
    rwa[show o+(j+1)=o+1+j by omega]
  simp only[List.map_cons,ARL]
  exact⟨by simpa only[AR]using h2,v3⟩
def Pi (i:TI) (us:List Tr):Option FV:=match i.agg with
 | true=>match Nat.beq us.length i.size with
  | true=>some (.agg (us.map .t))
  | false=>none
 | false=>match us with
  | [y]=>some (.one (.t y))
  | _=>none
theorem Un (hT:cN x.P T){t:Nat}{i:TI}{a:Operand}(hi:cP T t=some i){l us:List Tr}{of:Nat}{v:FV}{N:Nat→Prop}(h:lk x.n g a=.one (.ef l of)) (hl:(l.drop of).take us.length=us) (hv:Pi i us=some v) (hR:bO W N cs (lk x.n g a) (Act.eval ⟨ts,[]⟩ a)){o:Oper}(ho:o.op=.load t a):
  ∃b,N b∧TO x.P W N cs (Act.eval ⟨ts,[]⟩) o b v:=by
 have hp:=hR
 rw[h]at hp
 simp only[bO,cD,AR]at hp
 obtain⟨ad,h1,h2,e⟩:=hp
 refine⟨ad.block,h1,?_⟩
 obtain⟨vs,v1,v2,v3⟩:=zK (cs:=cs) h2 hl
 have hty:=(eY hT hi).1
 obtain⟨od,oop,oty,opos,oaf,ogd⟩:=o
 subst ho
 have hck:∀W':World,W'.heap[ad.block]? =W.heap[ad.block]? →wP W' (ad.add of) vs:=fun W' hW' j u hj=>by
  rw[←v2 j u hj]
  apply World.cell?_of_block
  rw[oC,oC]
  exact hW'
 unfold Pi at hv
 split at hv
 ·rename_i hag
  split at hv
  ·rename_i hq
   injection hv with hv
   subst hv
   rw[hag]at hty
   exact⟨_,fun W' hW'=>Cs hty e (hck W' hW') (by rw[v1];exact Nat.eq_of_beq_eq_true hq),vs,rfl,v3⟩
  cases hv
 rename_i hag
 split at hv
 ·rename_i y
  injection hv with hv
  subst hv
  rw[hag]at hty
  match vs,v1 with
  | [u],_=>
   simp only[List.map_cons,List.map_nil,ARL]at v3
   exact⟨u,fun W' hW'=>Ct hty.1 e (hck W' hW'),v3.1⟩
 cases hv
theorem TP (hT:cN x.P T){t:Nat}{i:TI}{a:Operand}(hi:cP T t=some i){l us:List Tr}{of:Nat}{v:FV}(h:lk x.n g a=.one (.ef l of)) (hl:(l.drop of).take us.length=us) (hv:Pi i us=some v):OS x ⟨some d,.load t a,ty,pos,af,gd⟩ g ob [] (fun g' ob'=>g'=bH g d v∧ob'=ob):=by
 intro cs ts W hR K Q k
 obtain⟨b,_,u,hrun,hv⟩:=Un hT hi h hl hv (hR.lk a) (o:=⟨some d,.load t a,ty,pos,af,gd⟩) rfl
 exact iL (hrun W rfl) (k _ _ _ _ _ ⟨rfl,rfl⟩ (hR.put d hv) (.put d u))
end
theorem mQ:∀(a b:List VT),VT.fpL (a++b)=VT.fpL a++VT.fpL b
 | [],b=>by simp[VT.fpL]
 | y::a,b=>by simp[VT.fpL,mQ a b]
theorem pB:∀(us:List Value),VT.fpL (us.map .w)=[]
 | []=>by simp[VT.fpL]
 | u::us=>by simp[VT.fpL,VT.fp,pB us]
theorem Pj:∀(l:List VT) (n:Nat),(VT.fpL (l.drop n)).Sublist (VT.fpL l)
 | [],n=>by simp
 | y::l,0=>by simp
 | y::l,n+1=>by
  simp only[List.drop_succ_cons,VT.fpL]
  exact(Pj l n).trans (List.sublist_append_right _ _)
theorem qG {W:World}:∀(a b:List VT),VT.okL W (a++b)↔VT.okL W a∧VT.okL W b
 | [],b=>by simp[VT.okL]
 | y::a,b=>by simp[VT.okL,qG a b,and_assoc]
theorem xQ {W:World}:∀(us:List Value),VT.okL W (us.map .w)
 | []=>by simp[VT.okL]
 | u::us=>by simp[VT.okL,VT.ok,xQ us]
theorem Pl {W:World}:∀(l:List VT) (n:Nat),VT.okL W l→VT.okL W (l.drop n)
 | [],n,h=>by simpa using h
 | y::l,0,h=>h
 | y::l,n+1,h=>by
  simp only[VT.okL]at h
  exact Pl l n h.2
theorem xR {W:World}:∀(l:List VT) (n:Nat),VT.okL W l→VT.okL W (l.take n)
 | [],n,h=>by simpa using h
 | y::l,0,h=>by simp[VT.okL]
 | y::l,n+1,h=>by
  simp only[VT.okL]at h
  simp only[List.take_succ_cons,VT.okL]
  exact⟨h.1,xR l n h.2⟩
theorem xS (us:List Value):(us.map VT.w).map VT.val=us:=by
 induction us with
 | nil=>rfl
 | cons u us ih=>simp[VT.val,ih]
theorem Loc.conv {M:List Nat}{w W:World}{L L':List Res}{F:List Sh}(h:Loc M w W L F) (hp:List.Perm (L.flatMap Res.S) (L'.flatMap Res.S)) (hφ:(∀r∈L,r.φ W)→∀r∈L',r.φ W):Loc M w W L' F:=
 ⟨h.chg,hφ h.res,fun b hb=>h.blk b (hp.mem_iff.2 hb),(hp.nodup_iff).1 h.nd,fun q hq=>q.mono _ _ _ (fun b hb=>⟨hb.1,fun hm=>hb.2 (hp.mem_iff.2 hm)⟩) (h.shr q hq)⟩
theorem Loc.nd1 {M:List Nat}{w W:World}{L:List Res}{F:List Sh}(h:Loc M w W L F){r:Res}(hr:r∈L):r.S.Nodup:=by
 have hnd:List.Pairwise (· ≠ ·) (L.flatMap Res.S):=h.nd
 rw[List.pairwise_flatMap]at hnd
 exact hnd.1 r hr
section
variable {x:Cx}{g g':Nat→FV}{ob ob':List (Option Ob)}{cs cs':List Co}{ts ts':Array Value}{W W':World}
theorem nG {c:Co}{k:Nat}(hk:k<cs.length) (j:Nat):co (cs.set k c) j=if j=k then c else co cs j:=by
 unfold co
 by_cases e:j=k
 ·subst e
  simp[hk]
 rw[if_neg e,List.getElem?_set_ne (fun h=>e h.symm)]
theorem lC {k:Nat}{o:Option Ob}{c:Co}:aQ (ob.set k o) (cs.set k c)=(aQ ob cs).set k (aR o c):=by
 unfold aQ
 induction ob generalizing cs k with
 | nil=>simp
 | cons a ob ih=>
  cases cs with
  | nil=>simp
  | cons b cs=>
   cases k with
   | zero=>simp
   | succ k=>simp[ih]
theorem RelC.upd (h:RelC x g ob cs ts W){k:Nat}{o:Ob}(hk:ob[k]? =some (some o)) (o':Ob) (c':Co) (hc:Chg (aR (some o) (co cs k)).S W W') (hb:c'.b=(co cs k).b) (hcc:c'.c=(co cs k).c) (hφ:(aR (some o') c').φ W')
  (hS:∀b∈(aR (some o') c').S,b∈(aR (some o) (co cs k)).S∨(W.heap.size≤b∧b<W'.heap.size)) (hn:(aR (some o') c').S.Nodup)
  (hcr:(∀b,x.fr W ob cs b→W'.heap[b]? =W.heap[b]?)→(∀b,x.fr W ob cs b→x.fr W' (ob.set k (some o')) (cs.set k c') b)→Same cs (cs.set k c')→bU W' (x.fr W' (ob.set k (some o')) (cs.set k c')) (cs.set k c') o'.l c'.l) (hz:c'.b=none→o'.l=[]∧o'.z≠0):
  RelC x g (ob.set k (some o')) (cs.set k c') ts W'∧∀d,Aft [k] d ob cs ts W (ob.set k (some o')) (cs.set k c') ts W':=by
 have hlen:=h.len
 have hkl:k<cs.length:=by
  have:=(List.getElem?_eq_some_iff.1 hk).1
  omega
 have hL:Loc x.M x.w W' (aQ (ob.set k (some o')) (cs.set k c')) [(JJ x.n g ob cs ts).on x.NN]:=by
  rw[lC]
  exact h.2.set k (cJ hlen hk) hc hφ hS hn
 have hown:∀b∈eK (ob.set k (some o')) (cs.set k c'),b∈eK ob cs∨W.heap.size≤b:=by
  intro b hb
  unfold eK at hb
  rw[lC]at hb
  obtain⟨r,hr,hbr⟩:=List.mem_flatMap.1 hb
  rcases List.mem_or_eq_of_mem_set hr with hr | rfl
  ·exact .inl (List.mem_flatMap.2 ⟨r,hr,hbr⟩)
  rcases hS b hbr with h1 | h1
  ·exact .inl (List.mem_flatMap.2 ⟨_,List.mem_of_getElem? (cJ hlen hk),h1⟩)
  exact .inr h1.1
 have hkeep:∀b,x.fr W ob cs b→W'.heap[b]? =W.heap[b]? :=fun b hb=>hc.block b hb.1.1 (fun hm=>hb.1.2 (List.mem_flatMap.2 ⟨_,List.mem_of_getElem? (cJ hlen hk),hm⟩))
 have hN:∀b,x.fr W ob cs b→x.fr W' (ob.set k (some o')) (cs.set k c') b:=fun b h=>rV h hc.size hown
 have hsame:Same cs (cs.set k c'):=⟨by simp,fun j hj=>by
  rw[nG hkl]
  split
  ·rename_i e
   subst e
   exact⟨hb,hcc⟩
  exact⟨rfl,rfl⟩⟩
 refine⟨.of h.1 hL ⟨by simp[hlen],fun j o2 hj=>?_⟩ (fun i hi=>?_) (h.3.trans hsame),fun d=>⟨hsame,fun j hj _=>by rw[nG hkl,if_neg (by simpa using hj)],hc.size,fun b hb hne=>hc.block b hb (hne k (by simp) _ hk),hown,fun _ _=>rfl⟩⟩
 ·rw[List.getElem?_set]at hj
  split at hj
  ·rename_i e
   subst e
   split at hj
   ·injection hj with hj
    injection hj with hj
    subst hj
    rw[nG hkl,if_pos rfl]
    exact⟨hcr hkeep hN hsame,hz⟩
   cases hj
  rename_i e
  have h1:=h.obs.2 j o2 hj
  rw[nG hkl,if_neg (fun h=>e h.symm)]
  exact⟨dN hkeep hN hsame _ _ h1.1,h1.2⟩
 obtain⟨u,h1,h2⟩:=h.fv hi
 exact⟨u,h1,gI hkeep hN hsame _ _ h2⟩
theorem Aft.then_put {Wr:List Nat}{d:Nat}{ts0:Array Value}(h:Aft Wr (some d) ob cs ts0 W ob' cs' ts W') (u:Value):Aft Wr (some d) ob cs ts0 W ob' cs' (ts.setIfInBounds d u) W':=
 ⟨h.same,h.un,h.size,h.keep,h.own,fun i hi=>(Array.getElem?_setIfInBounds_ne (fun e=>hi (by rw[e]))).trans (h.fr i hi)⟩
theorem Xo {N:Nat→Prop}:∀{a:AV}{u:Value},AR W N cs a u→rA a=true→CR W N cs a (.w u)
 | .t (.v w),u,h,_=>by
  simp only[AR,FR]at h
  simp only[CR,OR,h]
 | .t (.s false t z n l),u,h,_=>by
  simp only[AR]at h
  simp only[CR,OR]
  exact .inr ⟨trivial,h⟩
 | .t (.s true ..),_,_,h=>by simp[rA]at h
 | .t (.p true ..),_,_,h=>by simp[rA]at h
 | .t (.p false t l),u,h,_=>by
  simp only[AR]at h
  simp only[CR,OR]
  exact⟨trivial,h⟩
 | .t (.f ..),u,h,_ | .t (.a ..),u,h,_=>by
  simp only[AR]at h
  simpa only[CR,OR]using h
 | .sl ..,u,h,_ | .pt ..,u,h,_ | .ef ..,u,h,_ | .fn ..,u,h,_=>by simpa only[CR]using h
theorem wA {N:Nat→Prop}:∀{l:List AV}{us:List Value},ARL W N cs l us→gU l=true→bU W N cs l (us.map .w)
 | [],us,h,_=>by
  simp only[ARL]at h
  simp[h,bU]
 | a::l,u::us,h,hr=>by
  simp only[ARL]at h
  simp only[gU,Bool.and_eq_true]at hr
  simp only[List.map_cons,bU]
  exact⟨Xo h.1 hr.1,wA h.2 hr.2⟩
 | _::_,[],h,_=>by simp only[ARL]at h
theorem Bq {N:Nat→Prop}:∀{l l':List AV}{us us':List VT},bU W N cs l us→bU W N cs l' us'→bU W N cs (l++l') (us++us')
 | [],l',us,us',h,h'=>by
  simp only[bU]at h
  subst h
  simpa using h'
 | b::l,l',u::us,us',h,h'=>by
  simp only[bU]at h
  simp only[List.cons_append,bU]
  exact⟨h.1,Bq h.2 h'⟩
 | _::_,_,[],_,h,_=>by simp only[bU]at h
def zL:FV→Option (List AV)
 | .one a=>match lone a&&rA a with
  | true=>some [a]
  | false=>none
 | .agg l=>match gU l with
  | true=>some l
  | false=>none
 | _=>none
def fJ:List AV→Bool
 | []=>true
 | a::l=>lone a&&fJ l
theorem HM {N:Nat→Prop}{al:AV}{u:Value}(h:AR W N cs al u) (hl:lone al=true):u.oneCell'=true:=by
 cases al with
 | t y=>
  cases y with
  | v w=>
   simp only[AR,FR]at h
   subst h
   cases u <;> first | rfl | (simp[lone]at hl)
  | s o t z n l=>
   simp only[AR,FR]at h
   obtain⟨A,c,rfl,_⟩:=h
   rfl
  | p o t l=>
   simp only[AR,FR]at h
   obtain⟨A,rfl,_⟩:=h
   rfl
  | f g l0 l=>
   simp only[AR,FR]at h
   obtain⟨A,B,rfl,_⟩:=h
   rfl
  | a l=>simp[lone]at hl
 | sl k o n=>
  simp only[AR]at h
  replace h:=h.2
  split at h
  ·obtain⟨_,_,rfl⟩:=h
   rfl
  obtain⟨_,_,rfl,_⟩:=h
  rfl
 | pt k o=>
  simp only[AR]at h
  obtain⟨_,_,rfl⟩:=h
  rfl
 | ef l o=>
  simp only[AR]at h
  obtain⟨_,_,_,rfl⟩:=h
  rfl
 | fn f a b=>
  simp only[AR]at h
  obtain⟨_,_,rfl,_⟩:=h
  rfl
theorem uG {N:Nat→Prop}:∀{l:List AV}{us:List Value},ARL W N cs l us→fJ l=true→∀u∈us,u.oneCell'=true
 | [],us,h,_=>by
  simp only[ARL]at h
  simp[h]
 | a::l,u::us,h,hr=>by
  simp only[ARL]at h
  simp only[fJ,Bool.and_eq_true]at hr
  intro v hv
  rcases List.mem_cons.1 hv with rfl | hv
  ·exact HM h.1 hr.1
  exact uG h.2 hr.2 v hv
 | _::_,[],h,_=>by simp only[ARL]at h
theorem Uo {N:Nat→Prop}{fv:FV}{l:List AV}{u:Value}(h:zL fv=some l) (hv:bO W N cs fv u):∃us,u.cells=us.toArray∧ARL W N cs l us∧gU l=true:=by
 unfold zL at h
 split at h
 ·split at h
  ·rename_i a e
   rw[Bool.and_eq_true]at e
   injection h with h
   subst h
   refine⟨[u],xO (cs:=cs) hv e.1,?_,by simp[gU,e.2]⟩
   simp only[ARL,and_true]
   exact hv
  cases h
 ·split at h
  ·rename_i e
   injection h with h
   subst h
   obtain⟨us,rfl,h2⟩:=hv
   exact⟨us,rfl,h2,e⟩
  cases h
 cases h
end
section
variable {x:Cx}{g g':Nat→FV}{ob ob':List (Option Ob)}{cs cs':List Co}{ts ts':Array Value}{W W':World}{d:Nat}{ty:TypeId}{pos:String}{af:Array Edge}{gd:Option (Nat×Bool)}{T:List (Nat×TI)}
theorem Fo:∀(us:List Value),gU (us.map tv)=true
 | []=>rfl
 | u::us=>by
  simp only[List.map_cons,gU,Bool.and_eq_true]
  exact⟨rfl,Fo us⟩
theorem RelC.made (h:RelC x g ob cs ts W){t z c:Nat}{l:List AV}{us:List Value}(hl:ARL W (x.fr W ob cs) cs l us) (hr:gU l=true) (hm:us.length=bif Nat.beq z 0 then us.length else c*z) (hc:c≤maxLen):
  RelC x g (ob++[some ⟨t,z,l⟩]) (cs++[⟨some W.heap.size,c,us.map .w⟩]) ts (W.alloc (.cells us.toArray t))∧∀d,Aft [] d ob cs ts W (ob++[some ⟨t,z,l⟩]) (cs++[⟨some W.heap.size,c,us.map .w⟩]) ts (W.alloc (.cells us.toArray t)):=by
 have hb:=Yu W (.cells us.toArray t)
 have hS:∀b∈(aR (some ⟨t,z,l⟩) ⟨some W.heap.size,c,us.map .w⟩).S,W.heap.size≤b∧b<(W.alloc (.cells us.toArray t)).heap.size:=by
  intro b hb
  simp[aR,pB]at hb
  subst hb
  simp
 have hown:∀b∈eK (ob++[some ⟨t,z,l⟩]) (cs++[⟨some W.heap.size,c,us.map .w⟩]),b∈eK ob cs∨W.heap.size≤b:=by
  intro b hb
  unfold eK aQ at hb
  rw[List.zipWith_append h.len,List.flatMap_append,List.mem_append]at hb
  rcases hb with hb | hb
  ·exact .inl hb
  exact .inr (hS b (by simpa using hb)).1
 refine⟨h.push hb _ _ ?_ hS (by simp[aR,pB]) ?_ (fun e=>by cases e),fun d=>⟨.app,fun k _ hk=>oZ hk,hb.size,fun b hlt _=>hb.block b hlt,hown,fun _ _=>rfl⟩⟩
 ·simp only[aR,dB,xS]
  refine⟨⟨[],by simpa using heap_alloc_new W _,by simpa using hm⟩,xQ us,hc⟩
 exact wA (ARL_keep (fun b h=>hb.block b h.1.1) (fun b h=>rV h hb.size hown) .app _ _ hl) hr
def eN (ob:List (Option Ob)) (k:Nat):Bool:=Nat.beq ob.length k
def BF {α β:Type}:List α→α→(List α→Option β)→Option β
 | [],a,k=>k [a]
 | b::l,a,k=>BF l a fun r=>k (b::r)
theorem Fp {α β:Type}:∀{l:List α}{a:α}{k:List α→Option β}{r:β},BF l a k=some r→k (l++[a])=some r
 | [],a,k,r,h=>h
 | b::l,a,k,r,h=>Fp (l:=l) (k:=fun r=>k (b::r)) h
def zF {β:Type}:List Value→(List AV→Option β)→Option β
 | [],k=>k []
 | v::l,k=>zF l fun r=>k (tv v::r)
theorem KI {β:Type}:∀{l:List Value}{k:List AV→Option β}{r:β},zF l k=some r→k (l.map tv)=some r
 | [],k,r,h=>h
 | b::l,k,r,h=>KI (l:=l) (k:=fun r=>k (tv b::r)) h
def zM (T:List (Nat×TI)) (t k:Nat) (ob:List (Option Ob)):Option (List (Option Ob)):=match eN ob k with
 | true=>match cP T t with
  | some i=>zF i.zero fun l=>BF ob (some ⟨t,0,l⟩) some
  | none=>none
 | false=>none
theorem Xp (hT:cN x.P T){t k:Nat}(h:zM T t k ob=some ob'):OS x ⟨some d,.alloc t,ty,pos,af,gd⟩ g ob [] (fun g' ob2=>g'=bH g d (.one (.pt k 0))∧ob2=ob'):=by
 unfold zM at h
 split at h
 ·rename_i hk
  split at h
  ·rename_i i hi
   have h:=KI h
   have h:=Fp h
   injection h with h
   subst h
   obtain⟨j,v,h1,h2,h3⟩:=(eY hT hi).2.2.1
   have hk:=Nat.eq_of_beq_eq_true hk
   subst hk
   intro cs ts W hR K Q kk
   have hrun:(execOp (Act.eval ⟨ts,[]⟩) ⟨some d,.alloc t,ty,pos,af,gd⟩).run x.P W=.ok (.value (.pointer (some ⟨W.heap.size,0,none⟩))) (W.alloc (.cells i.zero.toArray t)):=by
    simp[execOp,Instr.alloc,zeroValue,typeInfo,h1,h2,newVar,newRow,h3]
   obtain⟨m1,m2⟩:=hR.made (t:=t) (z:=0) (c:=0) (qY i.zero) (Fo _) (by simp) (Nat.zero_le _)
   refine iL hrun (kk _ _ _ _ _ ⟨rfl,rfl⟩ (m1.put d ?_) ((m2 (some d)).then_put _))
   refine jI ?_
   simp only[AR]
   exact⟨W.heap.size,by rw[hR.len,iV],rfl⟩
  cases h
 cases h
def Pm (t k:Nat) (v:FV) (ob:List (Option Ob)):Option (List (Option Ob)):=match eN ob k with
 | true=>match zL v with
  | some l=>BF ob (some ⟨t,0,l⟩) some
  | none=>none
 | false=>none
theorem KJ {t k:Nat}{a:Operand}(h:Pm t k (lk x.n g a) ob=some ob'):OS x ⟨some d,.box t a,ty,pos,af,gd⟩ g ob [] (fun g' ob2=>g'=bH g d (.one (.pt k 0))∧ob2=ob'):=by
 unfold Pm at h
 split at h
 ·rename_i hk
  split at h
  ·rename_i l hl
   have h:=Fp h
   injection h with h
   subst h
   have hk:=Nat.eq_of_beq_eq_true hk
   subst hk
   intro cs ts W hR K Q kk
   obtain⟨us,e,hA,hr⟩:=Uo hl (hR.lk a)
   have hrun:(execOp (Act.eval ⟨ts,[]⟩) ⟨some d,.box t a,ty,pos,af,gd⟩).run x.P W=.ok (.value (.pointer (some ⟨W.heap.size,0,none⟩))) (W.alloc (.cells us.toArray t)):=by
    simp[execOp,Instr.box,newVar,newRow,e]
   obtain⟨m1,m2⟩:=hR.made (t:=t) (z:=0) (c:=0) hA hr (by simp) (Nat.zero_le _)
   refine iL hrun (kk _ _ _ _ _ ⟨rfl,rfl⟩ (m1.put d ?_) ((m2 (some d)).then_put _))
   refine jI ?_
   simp only[AR]
   exact⟨W.heap.size,by rw[hR.len,iV],rfl⟩
  cases h
 cases h
def eT {α:Type}(l:List α) (o:Nat) (us:List α):List α:=l.take o++us++l.drop (o+us.length)
theorem Pn {α β:Type}(f:α→β) (l:List α) (o:Nat) (us:List α):(eT l o us).map f=eT (l.map f) o (us.map f):=by simp[eT,List.map_take,List.map_drop]
theorem NX {N:Nat→Prop}{l us:List AV}{l' us':List VT}{o:Nat}(h:bU W N cs l l') (h':bU W N cs us us'):bU W N cs (eT l o us) (eT l' o us'):=by
 unfold eT
 rw[rZ h']
 exact Bq (Bq (lB o h) h') (nY _ h)
theorem RelC.over (hR:RelC x g ob cs ts W){k bb o:Nat}{bo:Ob}{us:List AV}{vs:List Value}(hk:ob[k]? =some (some bo)) (hbb:(co cs k).b=some bb) (hA:ARL W (x.fr W ob cs) cs us vs) (hr:gU us=true) (hlo:fJ us=true) (hle:o+us.length≤bo.l.length):
  ∃W' c',(storeCells ⟨bb,o,none⟩ vs).run x.P W=.ok () W'∧RelC x g (ob.set k (some ⟨bo.t,bo.z,eT bo.l o us⟩)) (cs.set k c') ts W'∧∀d,Aft [k] d ob cs ts W (ob.set k (some ⟨bo.t,bo.z,eT bo.l o us⟩)) (cs.set k c') ts W':=by
 obtain⟨⟨rest,k1,k1l⟩,k2,k3⟩:=hR.blk hk hbb
 have hcl:=hR.crl hk
 have hl1:(co cs k).l.length=bo.l.length:=rZ hcl
 have hl2:vs.length=us.length:=iR hA
 have hst:=run_storeCells_at (P:=x.P) bb o bo.t vs 0 _ W k1 (by simp;omega) (uG hA hlo)
 have hput:((co cs k).l.map VT.val++rest).take o++vs++((co cs k).l.map VT.val++rest).drop (o+vs.length)=(eT (co cs k).l o (vs.map .w)).map VT.val++rest:=by
  rw[Pn,xS]
  unfold eT
  rw[List.take_append_of_le_length (by simp;omega),List.drop_append_of_le_length (by simp;omega)]
  simp
 have hrun:(storeCells ⟨bb,o,none⟩ vs).run x.P W=.ok () (W.setRow bb ((eT (co cs k).l o (vs.map .w)).map VT.val++rest).toArray):=by
  simp only[List.size_toArray]at hst⊢
  rw[←hput]
  simpa[hl2]using hst
 have hz0:((co cs k).l.map VT.val++rest).length=((eT (co cs k).l o (vs.map .w)).map VT.val++rest).length:=by
  rw[←hput]
  simp
  omega
 have hfp:(VT.fpL (eT (co cs k).l o (vs.map .w))).Sublist (VT.fpL (co cs k).l):=by
  unfold eT
  rw[mQ,mQ,pB,List.append_nil]
  have e3:(co cs k).l=(co cs k).l.take o++(co cs k).l.drop o:=(List.take_append_drop o _).symm
  conv=>rhs;rw[e3,mQ]
  refine List.Sublist.append (List.Sublist.refl _) ?_
  rw[←List.drop_drop]
  exact Pj _ _
 have hnd:(aR (some bo) (co cs k)).S.Nodup:=hR.2.nd1 (List.mem_of_getElem? (cJ hR.len hk))
 simp only[aR,hbb]at hnd
 have hbn:=(List.nodup_cons.1 hnd).1
 have hok:VT.okL (W.setRow bb ((eT (co cs k).l o (vs.map .w)).map VT.val++rest).toArray) (eT (co cs k).l o (vs.map .w)):=by
  refine VT.okL_keep _ (W:=W) (fun b hb=>setRow_other W bb b _ (fun e=>hbn (by rw[←e];exact hfp.subset hb))) ?_
  unfold eT
  rw[qG,qG]
  exact⟨⟨xR _ _ k2,xQ _⟩,Pl _ _ k2⟩
 exact⟨_,_,hrun,hR.upd (W':=W.setRow bb ((eT (co cs k).l o (vs.map .w)).map VT.val++rest).toArray) hk ⟨bo.t,bo.z,eT bo.l o us⟩ ⟨some bb,(co cs k).c,eT (co cs k).l o (vs.map .w)⟩
  ⟨rfl,rfl,rfl,by simp,fun j _ hj=>setRow_other W bb j _ (fun e=>hj (by simp[aR,hbb,e]))⟩ hbb.symm rfl
  (by
   simp only[aR]
   refine⟨⟨rest,setRow_heap W bb _ _ bo.t _ k1,?_⟩,hok,k3⟩
   rw[←hz0,k1l]
   have:(eT (co cs k).l o (vs.map .w)).length=(co cs k).l.length:=by
    unfold eT
    simp
    omega
   rw[this])
  (fun b hb=>by
   simp only[aR,hbb]at hb⊢
   rcases List.mem_cons.1 hb with rfl | hb
   ·exact .inl (by simp)
   exact .inl (List.mem_cons_of_mem _ (hfp.subset hb)))
  (by
   simp only[aR]
   exact List.nodup_cons.2 ⟨fun h=>hbn (hfp.subset h),(List.nodup_cons.1 hnd).2.sublist hfp⟩)
  (fun hk' hN hs=>by
   have a1:=dN hk' hN hs _ _ hcl
   have a2:=wA (ARL_keep hk' hN hs _ _ hA) hr
   exact NX a1 a2)
  (fun e=>by cases e)⟩
theorem Fq {t k o:Nat}{i:TI}{a b:Operand}{bo:Ob}{us l':List AV}(hT:cN x.P T) (hi:cP T t=some i) (ha:lk x.n g a=.one (.pt k o)) (hb:zL (lk x.n g b)=some us) (hlo:fJ us=true) (hsz:Nat.beq us.length i.size=true) (ho:cT ob k=some bo)
  (hle:o+us.length≤bo.l.length) (hl:eT bo.l o us=l'):OS x ⟨none,.store t a b,ty,pos,af,gd⟩ g ob [k] (fun g' ob2=>g'=g∧ob2=ob.set k (some ⟨bo.t,bo.z,l'⟩)):=by
 subst hl
 have hk:=dM ho
 have hsz:=Nat.eq_of_beq_eq_true hsz
 obtain⟨ii,e1,e2⟩:=(eY hT hi).2.1
 intro cs ts W hR K Q kk
 have hp:=hR.lk a
 rw[ha]at hp
 simp only[bO,cD,AR]at hp
 obtain⟨bb,hbb,e⟩:=hp
 obtain⟨vs,ev,hA,hr⟩:=Uo hb (hR.lk b)
 have hl2:vs.length=us.length:=iR hA
 obtain⟨W',c',hst,m1,m2⟩:=hR.over hk hbb hA hr hlo hle
 have hrun:(execOp (Act.eval ⟨ts,[]⟩) ⟨none,.store t a b,ty,pos,af,gd⟩).run x.P W=.ok .skip W':=by
  simp[execOp,e,ev,Instr.storeAt,Instr.sureAddr,storeVar,sizeOf,typeInfo,e1,e2,hl2,hsz,hst]
 unfold Oper.wp
 rw[hrun]
 exact kk _ _ _ _ _ ⟨rfl,rfl⟩ m1 (m2 none)
def Im {α β:Type}:List α→Nat→α→(List α→Option β)→Option β
 | [],_,_,k=>k []
 | _::l,0,a,k=>k (a::l)
 | b::l,n+1,a,k=>Im l n a fun r=>k (b::r)
theorem Up {α β:Type}:∀{l:List α}{n:Nat}{a:α}{k:List α→Option β}{r:β},Im l n a k=some r→k (l.set n a)=some r
 | [],_,_,_,_,h=>by simpa[Im]using h
 | _::_,0,_,_,_,h=>by simpa[Im]using h
 | b::l,n+1,a,k,r,h=>by
  have:=Up (l:=l) (n:=n) (k:=fun r=>k (b::r)) (by simpa[Im]using h)
  simpa using this
def zN (i:TI) (ob:List (Option Ob)) (v:FV):FV→Option (List (Option Ob))
 | .one (.pt k o)=>match zL v with
  | some us=>match fJ us&&Nat.beq us.length i.size with
   | true=>match cT ob k with
    | some bo=>dp (o+us.length) bo.l fun r=>tk o bo.l fun h=>all (h++us++r) fun l=>Im ob k (some ⟨bo.t,bo.z,l⟩) some
    | none=>none
   | false=>none
  | none=>none
 | _=>none
theorem Xq {t:Nat}{i:TI}{a b:Operand}(hT:cN x.P T) (hi:cP T t=some i) (h:zN i ob (lk x.n g b) (lk x.n g a)=some ob'):∃k,OS x ⟨none,.store t a b,ty,pos,af,gd⟩ g ob [k] (fun g' ob2=>g'=g∧ob2=ob')∧∃o,lk x.n g a=.one (.pt k o):=by
 unfold zN at h
 split at h
 ·rename_i k o ha
  split at h
  ·rename_i us hb
   split at h
   ·rename_i hc
    rw[Bool.and_eq_true]at hc
    split at h
    ·rename_i bo ho
     obtain⟨d1,d2⟩:=xN h
     obtain⟨d3,d4⟩:=xM d2
     have d5:=Up (Fm d4)
     injection d5 with d5
     subst d5
     exact⟨k,Fq hT hi ha hb hc.1 hc.2 ho d1 rfl,o,ha⟩
    cases h
   cases h
  cases h
 cases h
end
abbrev Post:=Exit→(Nat→FV)→List (Option Ob)→Prop
def Lf (x:Cx) (Q:Post):Exit→Act→World→Prop
 | .panic _,_,_=>False
 | e,a,W=>∃g ob ts,a=⟨ts,[]⟩∧Mw x g ob ts W∧Q e g ob
def WP (x:Cx) (c:Code) (g:Nat→FV) (ob:List (Option Ob)) (Q:Post):Prop:=∀ts W,Mw x g ob ts W→c.wp x.P (Lf x Q) ⟨ts,[]⟩ W
def WL (x:Cx) (ops:Array Oper) (rest:List Oper) (g:Nat→FV) (ob:List (Option Ob)) (Q:Post):Prop:=∀ts W,Mw x g ob ts W→wpList x.P ops (Lf x Q) rest ⟨ts,[]⟩ W
abbrev Xr (K:(Nat→FV)→List (Option Ob)→Prop) (Q:Post):Post
 | .normal,g,ob=>K g ob
 | e,g,ob=>Q e g ob
abbrev HP (id:Nat) (Q:Post):Post
 | .exit id',g,ob=>bif Nat.beq id' id then Q .normal g ob else Q (.exit id') g ob
 | e,g,ob=>Q e g ob
section
variable {x:Cx}{g g':Nat→FV}{ob ob':List (Option Ob)}{cs cs':List Co}{ts ts':Array Value}{W W':World}{T:List (Nat×TI)}{Q:Post}{ops:Array Oper}{rest:List Oper}
theorem sq {a b:Code}(h:WP x a g ob (Xr (fun g ob=>WP x b g ob Q) Q)):WP x (.seq a b) g ob Q:=fun ts W hR=>
 wp_seq (wp_mono (h ts W hR) fun e a w hq=>by
  cases e with
  | normal=>
   obtain⟨g,ob,ts,rfl,h1,h2⟩:=hq
   exact h2 ts w h1
  | panic c=>exact hq
  | exit id=>exact hq
  | goto l=>exact hq
  | ret=>exact hq
  | outgrown=>exact hq)
theorem bl {id:Nat}{c:Code}(h:WP x c g ob (HP id Q)):WP x (.block id c) g ob Q:=fun ts W hR=>
 wp_block (wp_mono (h ts W hR) fun e a w hq=>by
  cases e with
  | normal=>exact hq
  | panic c=>exact hq
  | exit id'=>
   obtain⟨g,ob,ts,rfl,h1,h2⟩:=hq
   simp only[Exit.inBlock]
   split
   ·rename_i e
    subst e
    simp only[HP,Nat.beq_refl,cond_true]at h2
    exact⟨g,ob,ts,rfl,h1,h2⟩
   rename_i e
   have:Nat.beq id' id=false:=by
    cases hb:Nat.beq id' id
    ·rfl
    exact absurd (Nat.eq_of_beq_eq_true hb) e
   simp only[HP,this,cond_false]at h2
   exact⟨g,ob,ts,rfl,h1,h2⟩
  | goto l=>exact hq
  | ret=>exact hq
  | outgrown=>exact hq)
theorem sk (h:Q .normal g ob):WP x .skip g ob Q:=fun ts _ hR=>wp_skip ⟨g,ob,ts,rfl,hR,h⟩
theorem ex {id:Nat}(h:Q (.exit id) g ob):WP x (.exit id) g ob Q:=fun ts _ hR=>wp_exit ⟨g,ob,ts,rfl,hR,h⟩
theorem rt (h:Q .ret g ob):WP x .ret g ob Q:=fun ts _ hR=>wp_ret ⟨g,ob,ts,rfl,hR,h⟩
theorem qR {c:Operand}{a b:Code}{q:Bool}(h:lk x.n g c=.one (tv (.bool q))) (h1:q=true→WP x a g ob Q) (h2:q=false→WP x b g ob Q):WP x (.cond c a b) g ob Q:=fun ts W hR=>by
 obtain⟨cs,hC⟩:=hR
 have e:=hC.lk c
 rw[h]at e
 exact wp_cond_split (bK e) (fun hq=>h1 hq ts W ⟨cs,hC⟩) (fun hq=>h2 hq ts W ⟨cs,hC⟩)
theorem bF {c:Operand}{a b:Code}{p:Prop} [Decidable p] (h:lk x.n g c=.one (tv (.bool (decide p)))) (h1:p→WP x a g ob Q) (h2:¬p→WP x b g ob Q):WP x (.cond c a b) g ob Q:=
 qR h (fun hq=>h1 (of_decide_eq_true hq)) (fun hq=>h2 (of_decide_eq_false hq))
theorem iC {c:Operand}{a b:Code}(h:lk x.n g c=.one (tv (.bool true))) (h1:WP x a g ob Q):WP x (.cond c a b) g ob Q:=qR h (fun _=>h1) (fun h=>by cases h)
theorem dW {c:Operand}{a b:Code}(h:lk x.n g c=.one (tv (.bool false))) (h1:WP x b g ob Q):WP x (.cond c a b) g ob Q:=qR h (fun h=>by cases h) (fun _=>h1)
theorem rl {id:Nat}{l:List Oper}(h:WL x l.toArray l g ob Q):WP x (.region id l.toArray false) g ob Q:=fun ts W hR=>wp_region_lit (h ts W hR)
theorem nl (h:Q .normal g ob):WL x ops [] g ob Q:=fun ts _ hR=>wpList_nil ⟨g,ob,ts,rfl,hR,h⟩
def bI (ops:Array Oper) (n:Nat) (g:Nat→FV):Option (Nat×Bool)→Option Bool
 | none=>some true
 | some (gi,gb)=>match(ops[gi]?).bind (·.dst)with
  | some t=>match lk n g (.tmp t)with
   | .one (.t (.v (.bool b)))=>some (b==gb)
   | .one (.t (.v (.tuple _)))=>some false
   | _=>none
  | none=>none
theorem mI {o:Oper}{b:Bool}(h:bI ops x.n g o.guard=some b) (hR:RelC x g ob cs ts W):Region.wanted o (yielded ops ts)=b:=by
 obtain⟨d,op,ty,pos,af,gd⟩:=o
 cases gd with
 | none=>
  simp[bI]at h
  subst h
  rfl
 | some p=>
  obtain⟨gi,gb⟩:=p
  dsimp only[bI]at h
  split at h
  ·rename_i t ht
   split at h
   ·rename_i b' hb
    have e:=hR.lk (.tmp t)
    rw[hb]at e
    have e:=bK (x:=.bool b') e
    have e0:yielded ops ts gi=some b':=by
     have e1:ts[t]? =some (.bool b'):=by
      simp only[Act.eval]at e
      cases hq:ts[t]? with
      | none=>
       simp[hq]at e
       cases e
      | some u=>
       simp[hq]at e
       rw[e]
     simp[yielded,ht,e1]
    injection h with h
    subst h
    simp[Region.wanted,e0]
   ·rename_i r hb
    have e:=hR.lk (.tmp t)
    rw[hb]at e
    have e:=bK (x:=.tuple r) e
    have e0:yielded ops ts gi=none:=by
     simp only[yielded,ht,Option.bind_some]
     simp only[Act.eval]at e
     cases hq:ts[t]? with
     | none=>rfl
     | some u=>
      simp[hq]at e
      rw[e]
    injection h with h
    subst h
    simp[Region.wanted,e0]
   cases h
  cases h
theorem jT {o:Oper}{Wr:List Nat}{R:(Nat→FV)→List (Option Ob)→Prop}(h:OS x o g ob Wr R) (hw:bI ops x.n g o.guard=some true) (k:∀g' ob',R g' ob'→WL x ops rest g' ob' Q):WL x ops (o::rest) g ob Q:=fun ts W ⟨cs,hR⟩=>
 QG (mI hw hR) (h cs ts W hR _ _ fun g' ob' cs' ts' W' hr hR' _=>k g' ob' hr ts' W' ⟨cs',hR'⟩)
theorem aAk {o:Oper}{d:Nat}(hw:bI ops x.n g o.guard=some false) (hd:o.dst=some d) (k:WL x ops rest (bH g d (.one (tv undef))) ob Q):WL x ops (o::rest) g ob Q:=fun ts W ⟨cs,hR⟩=>
 VR (mI hw hR) (by rw[hd];exact k _ W ⟨cs,hR.put d (v:=.one (tv undef)) (jI (by simp[tv,AR,FR]))⟩)
theorem w_v {o:Op}{d:Nat}{ty:TypeId}{pos:String}{af:Array Edge}{gd:Option (Nat×Bool)}{C:Prop}{v:FV}(hT:cN x.P T) (hw:bI ops x.n g gd=some true) (h:vX T x.n g o=some (C,v)) (hC:C) (k:WL x ops rest (bH g d v) ob Q):WL x ops (⟨some d,o,ty,pos,af,gd⟩::rest) g ob Q:=
 jT (TN hT h hC) hw (by rintro _ _ ⟨rfl,rfl⟩;exact k)
theorem HR {t d:Nat}{ty:TypeId}{pos:String}{af:Array Edge}{gd:Option (Nat×Bool)}{i:TI}{a:Operand}{C:Prop}{v:FV}(hT:cN x.P T) (hw:bI ops x.n g gd=some true) (hi:cP T t=some i) (h:tD ob i (lk x.n g a)=some (C,v)) (k:WL x ops rest (bH g d v) ob Q):WL x ops (⟨some d,.load t a,ty,pos,af,gd⟩::rest) g ob Q:=
 jT (Xn hT hi h) hw (by rintro _ _ ⟨rfl,rfl⟩;exact k)
theorem XI {t d:Nat}{ty:TypeId}{pos:String}{af:Array Edge}{gd:Option (Nat×Bool)}{i:TI}{a:Operand}{v:FV}{l us:List Tr}{of:Nat}(hT:cN x.P T) (hw:bI ops x.n g gd=some true) (hi:cP T t=some i) (h:lk x.n g a=.one (.ef l of)) (hl:(l.drop of).take us.length=us) (hv:Pi i us=some v) (k:WL x ops rest (bH g d v) ob Q):WL x ops (⟨some d,.load t a,ty,pos,af,gd⟩::rest) g ob Q:=
 jT (TP hT hi h hl hv) hw (by rintro _ _ ⟨rfl,rfl⟩;exact k)
theorem aAl {t d k:Nat}{ty:TypeId}{pos:String}{af:Array Edge}{gd:Option (Nat×Bool)}(hT:cN x.P T) (hw:bI ops x.n g gd=some true) (h:zM T t k ob=some ob') (kk:WL x ops rest (bH g d (.one (.pt k 0))) ob' Q):WL x ops (⟨some d,.alloc t,ty,pos,af,gd⟩::rest) g ob Q:=
 jT (Xp hT h) hw (by rintro _ _ ⟨rfl,rfl⟩;exact kk)
theorem aAm {t d k:Nat}{a:Operand}{ty:TypeId}{pos:String}{af:Array Edge}{gd:Option (Nat×Bool)}(hw:bI ops x.n g gd=some true) (h:Pm t k (lk x.n g a) ob=some ob') (kk:WL x ops rest (bH g d (.one (.pt k 0))) ob' Q):WL x ops (⟨some d,.box t a,ty,pos,af,gd⟩::rest) g ob Q:=
 jT (KJ h) hw (by rintro _ _ ⟨rfl,rfl⟩;exact kk)
theorem aAn {t:Nat}{i:TI}{a b:Operand}{ty:TypeId}{pos:String}{af:Array Edge}{gd:Option (Nat×Bool)}(hT:cN x.P T) (hw:bI ops x.n g gd=some true) (hi:cP T t=some i) (h:zN i ob (lk x.n g b) (lk x.n g a)=some ob') (kk:WL x ops rest g ob' Q):WL x ops (⟨none,.store t a b,ty,pos,af,gd⟩::rest) g ob Q:=by
 obtain⟨k,hs,_⟩:=Xq (ty:=ty) (pos:=pos) (af:=af) (gd:=gd) hT hi h
 exact jT hs hw (by rintro _ _ ⟨rfl,rfl⟩;exact kk)
def Sub (x:Cx) (g:Nat→FV) (ob:List (Option Ob)) (g':Nat→FV) (ob':List (Option Ob)):Prop:=∀ts W,Mw x g ob ts W→Mw x g' ob' ts W
theorem lp {γ:Type}{c:Code}(I:γ→Nat→FV) (O:γ→List (Option Ob)) (p:γ→Prop) (m:γ→Nat) (s0:γ) (h0:p s0) (hs:Sub x g ob (I s0) (O s0)) (round:∀s,p s→WP x c (I s) (O s) (Xr (fun g ob=>∃s',m s'<m s∧p s'∧Sub x g ob (I s') (O s')) Q)):WP x (.loop c) g ob Q:=fun ts W hR=>by
 refine DV (fun k a W=>∃s ts,a=⟨ts,[]⟩∧k=m s∧p s∧Mw x (I s) (O s) ts W) (m s0) ⟨s0,ts,rfl,rfl,h0,hs ts W hR⟩ ?_
 rintro _ _ W ⟨s,ts,rfl,rfl,hp,hR⟩
 refine wp_mono (round s hp ts W hR) fun e a w hq=>?_
 cases e with
 | normal=>
  obtain⟨g,ob,ts,rfl,h1,s',h2,h3,h4⟩:=hq
  exact⟨m s',h2,s',ts,rfl,rfl,h3,h4 ts w h1⟩
 | panic c=>exact hq
 | exit id=>exact hq
 | goto l=>exact hq
 | ret=>exact hq
 | outgrown=>exact hq
theorem WP.sub {c:Code}(h:Sub x g ob g' ob') (k:WP x c g' ob' Q):WP x c g ob Q:=fun ts W hR=>k ts W (h ts W hR)
theorem md {γ:Type}{a b:Code}(I:γ→Nat→FV) (O:γ→List (Option Ob)) (p:γ→Prop) (h:WP x a g ob (Xr (fun g ob=>∃s,p s∧Sub x g ob (I s) (O s)) Q)) (k:∀s,p s→WP x b (I s) (O s) Q):WP x (.seq a b) g ob Q:=by
 refine sq fun ts W hR=>wp_mono (h ts W hR) fun e a w hq=>?_
 cases e with
 | normal=>
  obtain⟨g,ob,ts,rfl,h1,s,h2,h3⟩:=hq
  exact⟨g,ob,ts,rfl,h1,fun ts' W' hR'=>k s h2 ts' W' (h3 ts' W' hR')⟩
 | panic c=>exact hq
 | exit id=>exact hq
 | goto l=>exact hq
 | ret=>exact hq
 | outgrown=>exact hq
end
def mW (fr:List Nat) (g:Nat→FV) (i:Nat):FV:=bif fr.any (Nat.beq i)then .any else g i
structure Kept (x:Cx) (K fr:List Nat) (Kp:Nat→Prop) (W1:World) (g:Nat→FV) (ob:List (Option Ob)) (cs:List Co) (ts:Array Value) (W:World):Prop where
 same:∀b,Kp b→W.heap[b]? =W1.heap[b]?
 free:∀b,Kp b→b∉eK ob cs∨∃k∈K,∃o,ob[k]? =some (some o)∧(co cs k).b=some b
 ks:∀k∈K,∀o,ob[k]? =some (some o)→(∀b,(co cs k).b=some b→Kp b)∧bU W (fun b=>x.fr W ob cs b∧Kp b) cs o.l (co cs k).l
 fv:∀i,i<x.n→∃u,ts[i]? =some u∧bO W (fun b=>x.fr W ob cs b∧Kp b) cs (mW fr g i) u
def Sw (Kp:Nat→Prop) (W1:World) (W:World):Prop:=∀b,Kp b→W.heap[b]? =W1.heap[b]?
def WD (x:Cx) (ops:Array Oper) (Q:Post) (late:Nat→Bool) (K fr:List Nat) (on:Bool) (fuel:Nat) (listed:Array Bool) (g:Nat→FV) (ob:List (Option Ob)):Prop:=
 ∀(Kp:Nat→Prop) (W1:World) cs ts W,RelC x g ob cs ts W→(∀b,Kp b→b<W1.heap.size)→W1.heap.size≤W.heap.size→(on=true→Kept x K fr Kp W1 g ob cs ts W)→tQ x.P ops (Lf x Q) (Sw Kp W1) late fuel listed ⟨ts,[]⟩ W
section
variable {x:Cx}{g g':Nat→FV}{ob ob':List (Option Ob)}{cs cs':List Co}{ts ts':Array Value}{W W' W1:World}{T:List (Nat×TI)}{Q:Post}{ops:Array Oper}{late:Nat→Bool}{K fr:List Nat}{on:Bool}{fuel:Nat}{listed:Array Bool}{Kp:Nat→Prop}
theorem RelC.drew (h:RelC x g ob cs ts W):RelC x g ob cs ts W.drew:=⟨h.1,h.2.drew,h.3⟩
theorem rd {id:Nat}{l:List Oper}(K:List Nat) (late:Nat→Bool) (hm:x.P.follows .mixedOrders=true) (h:WD x l.toArray Q late K [] true l.toArray.size (Array.replicate l.toArray.size false) g ob):WP x (.region id l.toArray true) g ob Q:=fun ts W ⟨cs,hR⟩=>by
 refine Rz (Sw (fun b=>x.fr W.drew ob cs b∨∃k∈K,∃o,ob[k]? =some (some o)∧(co cs k).b=some b) W.drew) late hm ?_
 have hR':=hR.drew
 refine h _ _ cs ts W.drew hR' (fun b hb=>?_) (bC _) fun _=>⟨fun _ _=>rfl,fun b hb=>?_,fun k hk o ho=>⟨fun b hb=>.inr ⟨k,hk,o,ho,hb⟩,?_⟩,fun i hi=>?_⟩
 ·rcases hb with hb | ⟨k,_,o,ho,hb⟩
  ·exact hb.1.1
  obtain⟨⟨r,e,_⟩,_⟩:=hR'.blk ho hb
  exact(Array.getElem?_eq_some_iff.1 e).1
 ·rcases hb with hb | hb
  ·exact .inl hb.1.2
  exact .inr hb
 ·exact dN (fun _ _=>rfl) (fun b hb=>⟨hb,.inl hb⟩) .refl _ _ (hR'.crl ho)
 obtain⟨u,h1,h2⟩:=hR'.fv hi
 exact⟨u,h1,gI (fun _ _=>rfl) (fun b hb=>⟨hb,.inl hb⟩) .refl _ _ (by simpa[mW]using h2)⟩
def mX (ops:Array Oper) (late:Nat→Bool) (listed:Array Bool) (i:Nat):Bool:=Region.noSelect ops&&(Region.free .any ops listed i&&((Region.ready .any ops listed).contains i&&Sx ops late i))
theorem Kept.lk (h:Kept x K fr Kp W1 g ob cs ts W) (hs:ts.size=x.n) (o:Operand):bO W (fun b=>x.fr W ob cs b∧Kp b) cs (lk x.n (mW fr g) o) (Act.eval ⟨ts,[]⟩ o):=by
 cases o with
 | tmp t=>
  simp only[Go.Proofs.YtbbabfkgdnkehaaGreat.lk,Act.eval]
  cases hb:Nat.blt t x.n with
  | false=>simp[bO,cD]
  | true=>
   have ht:t<x.n:=by simpa[Nat.blt,Nat.lt_iff_add_one_le]using hb
   obtain⟨u,h1,h2⟩:=h.fv t ht
   simp[h1]
   exact h2
 | const v=>
  cases v <;> simp only[Go.Proofs.YtbbabfkgdnkehaaGreat.lk,Act.eval] <;> first
   | (simp[bO,cD,AR,FR,tv];done)
   | exact⟨_,by simp,qY _⟩
 | func f=>exact⟨[],[],rfl,by simp[FRL],by simp[FRL]⟩
 | global _=>simp[Go.Proofs.YtbbabfkgdnkehaaGreat.lk,bO,cD]
theorem Kept.put (h:Kept x K fr Kp W1 g ob cs ts W) (hs:ts.size=x.n){d:Nat}{v:FV}{u:Value}(hv:bO W (fun b=>x.fr W ob cs b∧Kp b) cs v u):Kept x K fr Kp W1 (bH g d v) ob cs (ts.setIfInBounds d u) W:=by
 refine⟨h.same,h.free,h.ks,fun i hi=>?_⟩
 by_cases e:i=d
 ·subst e
  have:i<ts.size:=by rw[hs];exact hi
  refine⟨u,by simp[this],?_⟩
  unfold mW
  cases fr.any (Nat.beq i)
  ·simpa[bH]using hv
  simp[bO,cD]
 have hb:Nat.beq i d=false:=by
  cases hq:Nat.beq i d
  ·rfl
  exact absurd (Nat.eq_of_beq_eq_true hq) e
 rw[Array.getElem?_setIfInBounds_ne (fun h=>e h.symm)]
 obtain⟨u',h1,h2⟩:=h.fv i hi
 refine⟨u',h1,?_⟩
 unfold mW at h2⊢
 cases hq:fr.any (Nat.beq i)
 ·simpa[bH,hb,hq]using h2
 simp[bO,cD]
theorem Kept.putAny (h:Kept x K fr Kp W1 g ob cs ts W) (hs:ts.size=x.n) (d:Nat) (v:FV) (u:Value):Kept x K (d::fr) Kp W1 (bH g d v) ob cs (ts.setIfInBounds d u) W:=by
 refine⟨h.same,h.free,h.ks,fun i hi=>?_⟩
 by_cases e:i=d
 ·subst e
  have:i<ts.size:=by rw[hs];exact hi
  exact⟨u,by simp[this],by simp[mW,bO,cD]⟩
 have hb:Nat.beq i d=false:=by
  cases hq:Nat.beq i d
  ·rfl
  exact absurd (Nat.eq_of_beq_eq_true hq) e
 rw[Array.getElem?_setIfInBounds_ne (fun h=>e h.symm)]
 obtain⟨u',h1,h2⟩:=h.fv i hi
 refine⟨u',h1,?_⟩
 unfold mW at h2⊢
 simp only[List.any_cons,hb,Bool.false_or]
 cases hq:fr.any (Nat.beq i)
 ·simpa[bH,hb,hq]using h2
 simp[bO,cD]
variable {d:Nat}{op:Op}{ty:TypeId}{pos:String}{af:Array Edge}{gd:Option (Nat×Bool)}{i:Nat}
theorem In {v:FV}(hi:ops[i]? =some ⟨some d,op,ty,pos,af,gd⟩) (hst:mX ops late listed i=true) (hw:bI ops x.n g gd=some true)
  (hy:∀Kp W1 cs ts W,RelC x g ob cs ts W→Kept x K fr Kp W1 g ob cs ts W→∃u,(∀W',Sw Kp W1 W'→(execOp (Act.eval ⟨ts,[]⟩) ⟨some d,op,ty,pos,af,gd⟩).run x.P W'=.ok (.value u) W')∧bO W (x.fr W ob cs) cs v u∧bO W (fun b=>x.fr W ob cs b∧Kp b) cs v u)
  (k:WD x ops Q late K fr true fuel (listed.setIfInBounds i true) (bH g d v) ob):WD x ops Q late K fr true (fuel+1) listed g ob:=by
 intro Kp W1 cs ts W hR hK1 hK2 hon
 have hk:=hon rfl
 obtain⟨u,hrun,hv,hv'⟩:=hy Kp W1 cs ts W hR hk
 simp only[mX,Bool.and_eq_true]at hst
 obtain⟨s1,s2,s3,s4⟩:=hst
 exact yS hi (Region.noSelect_spec s1) (fun c a w h=>h) (fun j oj hj hlj=>sL s4 j oj hj hlj) fuel listed _ W (Region.free_spec hi s2) (by simpa using s3) (.inl ⟨mI hw hR,fun W' hW'=>hrun W' hW'⟩) hk.same
  (k Kp W1 cs _ W (hR.put d hv) hK1 hK2 fun _=>hk.put hR.1 hv')
theorem dt {C:Prop}{v:FV}(i:Nat) (hT:cN x.P T) (hi:ops[i]? =some ⟨some d,op,ty,pos,af,gd⟩) (hst:mX ops late listed i=true) (hw:bI ops x.n g gd=some true) (h:vX T x.n (mW fr g) op=some (C,v)) (hC:C) (hg:vX T x.n g op=some (C,v))
  (k:WD x ops Q late K fr true fuel (listed.setIfInBounds i true) (bH g d v) ob):WD x ops Q late K fr true (fuel+1) listed g ob:=by
 refine In hi hst hw (fun Kp W1 cs ts W hR hk=>?_) k
 obtain⟨u,hrun,hv⟩:=Ij (d:=some d) (ty:=ty) (pos:=pos) (af:=af) (gd:=gd) hT (hk.lk hR.1) h hC
 exact⟨u,fun W' _=>hrun W',gI (fun _ _=>rfl) (fun b hb=>hb.1) .refl _ _ hv,hv⟩
theorem dtf {C:Prop}{v:FV}(i:Nat) (hT:cN x.P T) (hi:ops[i]? =some ⟨some d,op,ty,pos,af,gd⟩) (hst:mX ops late listed i=true) (hw:bI ops x.n g gd=some true) (h:vX T x.n g op=some (C,v)) (hC:C)
  (k:WD x ops Q late K (d::fr) true fuel (listed.setIfInBounds i true) (bH g d v) ob):WD x ops Q late K fr true (fuel+1) listed g ob:=by
 intro Kp W1 cs ts W hR hK1 hK2 hon
 have hk:=hon rfl
 obtain⟨u,hrun,hv⟩:=Ij (d:=some d) (ty:=ty) (pos:=pos) (af:=af) (gd:=gd) hT hR.lk h hC
 simp only[mX,Bool.and_eq_true]at hst
 obtain⟨s1,s2,s3,s4⟩:=hst
 exact yS hi (Region.noSelect_spec s1) (fun c a w h=>h) (fun j oj hj hlj=>sL s4 j oj hj hlj) fuel listed _ W (Region.free_spec hi s2) (by simpa using s3) (.inl ⟨mI hw hR,fun W' _=>hrun W'⟩) hk.same
  (k Kp W1 cs _ W (hR.put d hv) hK1 hK2 fun _=>hk.putAny hR.1 d v u)
theorem dl {t:Nat}{ti:TI}{a:Operand}{C:Prop}{v:FV}(i:Nat) (hT:cN x.P T) (hi:ops[i]? =some ⟨some d,.load t a,ty,pos,af,gd⟩) (hst:mX ops late listed i=true) (hw:bI ops x.n g gd=some true) (hti:cP T t=some ti)
  {key off:Nat}(hlk:lk x.n g a=.one (.pt key off)) (hK:K.contains key=true) (h:tD ob ti (.one (.pt key off))=some (C,v))
  (k:WD x ops Q late K fr true fuel (listed.setIfInBounds i true) (bH g d v) ob):WD x ops Q late K fr true (fuel+1) listed g ob:=by
 refine In hi hst hw (fun Kp W1 cs ts W hR hk=>?_) k
 rw[←hlk]at h
 obtain⟨k',o',b,e1,hb,u,hrun,hv⟩:=Il hT hti h hR (o:=⟨some d,.load t a,ty,pos,af,gd⟩) rfl
 rw[hlk]at e1
 injection e1 with e1
 injection e1 with e1 e2
 subst e1 e2
 have hmem:key∈K:=by simpa using hK
 have hob:∃o,ob[key]? =some (some o):=by
  rw[hlk]at h
  unfold tD at h
  dsimp only at h
  split at h
  ·rename_i bo hbo
   exact⟨bo,dM hbo⟩
  cases h
 obtain⟨o,ho⟩:=hob
 obtain⟨kk1,kk2⟩:=hk.ks key hmem o ho
 have hKp:=kk1 b hb
 refine⟨u,fun W' hW'=>hrun W' ((hW' b hKp).trans (hk.same b hKp).symm),hv,?_⟩
 -- once more, by what is kept
 rw[hlk]at h
 unfold tD at h
 dsimp only at h
 split at h
 ·rename_i bo hbo
  have:bo=o:=by
   have:=(dM hbo).symm.trans ho
   injection this with this
   injection this
  subst this
  have hp:=hR.lk a
  rw[hlk]at hp
  simp only[bO,cD,AR]at hp
  obtain⟨b',hb',e⟩:=hp
  rw[hb]at hb'
  injection hb' with hb'
  subst hb'
  obtain⟨k1,_,_⟩:=hR.blk ho hb
  obtain⟨d1,d2⟩:=xN h
  have hty:=(eY hT hti).1
  have hcl:=kk2
  split at d2
  ·rename_i hag
   obtain⟨d3,d4⟩:=xM d2
   obtain⟨d5,rfl⟩:=Bp d4
   rw[hag]at hty
   have hcl2:=vZ (lB ti.size (nY off hcl)) d5
   rw[List.map_take,List.map_drop]at hcl2
   have hl:=iR hcl2
   have hl2:((((co cs key).l.map VT.val).drop off).take ti.size).length=ti.size:=by rw[hl,eJ];omega
   have hr2:=Cs (P:=x.P) (w:=W) (d:=some d) (ty:=ty) (pos:=pos) (af:=af) (gd:=gd) hty e (pA k1 (us:=(((co cs key).l.map VT.val).drop off).take ti.size) (by rw[hl2])) hl2
   have hr1:=hrun W rfl
   rw[hr1]at hr2
   injection hr2 with hr2
   injection hr2 with hr2
   rw[hr2]
   exact⟨_,rfl,hcl2⟩
  rename_i hag
  split at d2
  ·rename_i a0 r hb'
   obtain⟨d5,rfl⟩:=Bp d2
   rw[hag]at hty
   have hcl2:=vZ (lB 1 (nY off hcl)) (by rw[hb'];exact d5)
   rw[List.map_take,List.map_drop,hb']at hcl2
   have hl:=iR hcl2
   cases hu:((((co cs key).l.map VT.val).drop off).take 1)with
   | nil=>
    rw[hu]at hl
    simp at hl
   | cons u' us=>
    rw[hu]at hcl2 hl
    have:us=[]:=by simpa using hl
    subst this
    simp only[List.take_succ_cons,List.take_zero,ARL]at hcl2
    have hr2:=Ct (P:=x.P) (w:=W) (d:=some d) (ty:=ty) (pos:=pos) (af:=af) (gd:=gd) hty.1 e (pA k1 (us:=[u']) (by simpa using hu))
    have hr1:=hrun W rfl
    rw[hr1]at hr2
    injection hr2 with hr2
    injection hr2 with hr2
    rw[hr2]
    exact hcl2.1
  cases d2
 cases h
theorem dlf {t:Nat}{ti:TI}{a:Operand}{v:FV}(i:Nat) (hT:cN x.P T) (hi:ops[i]? =some ⟨some d,.load t a,ty,pos,af,gd⟩) (hst:mX ops late listed i=true) (hw:bI ops x.n g gd=some true) (hti:cP T t=some ti)
  {l us:List Tr}{of:Nat}(hlk:lk x.n (mW fr g) a=.one (.ef l of)) (hl:(l.drop of).take us.length=us) (hv:Pi ti us=some v)
  (k:WD x ops Q late K fr true fuel (listed.setIfInBounds i true) (bH g d v) ob):WD x ops Q late K fr true (fuel+1) listed g ob:=by
 refine In hi hst hw (fun Kp W1 cs ts W hR hk=>?_) k
 have hp:=hk.lk hR.1 a
 rw[hlk]at hp
 have hgen:∃g0:Nat→FV,lk x.n g0 a=.one (.ef l of):=⟨_,hlk⟩
 obtain⟨g0,hg0⟩:=hgen
 obtain⟨b,hb,u,hrun,hv'⟩:=Un (x:=x) (g:=g0) (cs:=cs) (ts:=ts) (W:=W) (N:=fun b=>x.fr W ob cs b∧Kp b) hT hti hg0 hl hv (by rw[hg0];exact hp) (o:=⟨some d,.load t a,ty,pos,af,gd⟩) rfl
 exact⟨u,fun W' hW'=>hrun W' ((hW' b hb.2).trans (hk.same b hb.2).symm),gI (fun _ _=>rfl) (fun b hb=>hb.1) .refl _ _ hv',hv'⟩
def WO (x:Cx) (ops:Array Oper) (Q:Post) (late:Nat→Bool) (K fr:List Nat) (on:Bool) (fuel:Nat) (listed:Array Bool) (i:Nat) (g:Nat→FV) (ob:List (Option Ob)):Prop:=
 ∀(Kp:Nat→Prop) (W1:World) cs ts W,RelC x g ob cs ts W→(∀b,Kp b→b<W1.heap.size)→W1.heap.size≤W.heap.size→(on=true→Kept x K fr Kp W1 g ob cs ts W)→wpOp x.P ops (Lf x Q) i (fun a' w'=>(late i=false→Sw Kp W1 w')∧tQ x.P ops (Lf x Q) (Sw Kp W1) late fuel (listed.setIfInBounds i true) a' w') ⟨ts,[]⟩ W
theorem WO.one {i:Nat}(hr:Region.ready .any ops listed=[i]) (h:WO x ops Q late K fr on fuel listed i g ob):WD x ops Q late K fr on (fuel+1) listed g ob:=fun Kp W1 cs ts W hR h1 h2 h3=>Wn hr (h Kp W1 cs ts W hR h1 h2 h3)
theorem WO.two {i j:Nat}(hr:Region.ready .any ops listed=[i,j]) (h:WO x ops Q late K fr on fuel listed i g ob) (h':WO x ops Q late K fr on fuel listed j g ob):WD x ops Q late K fr on (fuel+1) listed g ob:=fun Kp W1 cs ts W hR h1 h2 h3=>VS hr (h Kp W1 cs ts W hR h1 h2 h3) (h' Kp W1 cs ts W hR h1 h2 h3)
theorem WO.three {i j m:Nat}(hr:Region.ready .any ops listed=[i,j,m]) (h:WO x ops Q late K fr on fuel listed i g ob) (h':WO x ops Q late K fr on fuel listed j g ob) (h'':WO x ops Q late K fr on fuel listed m g ob):WD x ops Q late K fr on (fuel+1) listed g ob:=fun Kp W1 cs ts W hR h1 h2 h3=>
 ⟨fun h0=>(by rw[hr]at h0;cases h0),fun k hk=>(by
  rw[hr]at hk
  rcases List.mem_cons.1 hk with rfl | hk
  ·exact h Kp W1 cs ts W hR h1 h2 h3
  rcases List.mem_cons.1 hk with rfl | hk
  ·exact h' Kp W1 cs ts W hR h1 h2 h3
  rw[List.mem_singleton]at hk;subst hk;exact h'' Kp W1 cs ts W hR h1 h2 h3)⟩
theorem TQ {o:Oper}{Wr:List Nat}{R:(Nat→FV)→List (Option Ob)→Prop}(i:Nat) (hi:ops[i]? =some o) (hw:bI ops x.n g o.guard=some true) (h:OS x o g ob Wr R) (on':Bool) (hon:on'=true→on=true∧(∀k∈K,k∉Wr)) (hl:late i=false→on'=true)
  (hg:on'=true→∀g' ob',R g' ob'→(∀j,o.dst≠some j→g' j=g j)∧∀k∈K,ob'[k]? =ob[k]?)
  (k:∀g' ob',R g' ob'→WD x ops Q late K (o.dst.toList++fr) on' fuel (listed.setIfInBounds i true) g' ob'):WO x ops Q late K fr on fuel listed i g ob:=by
 intro Kp W1 cs ts W hR hK1 hK2 hkk
 refine(DU hi (mI hw hR) (h cs ts W hR _ _ fun g' ob' cs' ts' W' hr' hR' ha=>?_))
 have key:on'=true→Kept x K (o.dst.toList++fr) Kp W1 g' ob' cs' ts' W':=by
  intro hon'
  obtain⟨h1,h2⟩:=hon hon'
  have hk:=hkk h1
  obtain⟨g1,g2⟩:=hg hon' g' ob' hr'
  have hwr:∀b,Kp b→∀k'∈Wr,∀o,ob[k']? =some o→b∉(aR o (co cs k')).S:=by
   intro b hb k' hk' o' ho' hm
   have hmo:b∈eK ob cs:=List.mem_flatMap.2 ⟨_,List.mem_of_getElem? (cJ hR.len ho'),hm⟩
   rcases hk.free b hb with h3 | ⟨k2,hk2,o2,ho2,hb2⟩
   ·exact h3 hmo
   have hne:k2≠k':=fun e=>h2 k2 hk2 (e▸hk')
   have hnd:List.Pairwise (· ≠ ·) ((aQ ob cs).flatMap Res.S):=hR.2.nd
   rw[List.pairwise_flatMap]at hnd
   have hp:=List.pairwise_iff_getElem.1 hnd.2
   obtain⟨i1,e1⟩:=List.getElem?_eq_some_iff.1 (cJ hR.len ho2)
   obtain⟨i2,e2⟩:=List.getElem?_eq_some_iff.1 (cJ hR.len ho')
   have hm2:b∈(aR (some o2) (co cs k2)).S:=by simp[aR,hb2]
   rcases Nat.lt_or_gt_of_ne hne with hlt | hlt
   ·exact hp k2 k' i1 i2 hlt b (by rw[e1];exact hm2) b (by rw[e2];exact hm) rfl
   exact hp k' k2 i2 i1 hlt b (by rw[e2];exact hm) b (by rw[e1];exact hm2) rfl
  have hkeep:∀b,Kp b→W'.heap[b]? =W.heap[b]? :=fun b hb=>ha.keep b (Nat.lt_of_lt_of_le (hK1 b hb) hK2) (hwr b hb)
  have hN:∀b,(x.fr W ob cs b∧Kp b)→(x.fr W' ob' cs' b∧Kp b):=fun b hb=>⟨rV hb.1 ha.size ha.own,hb.2⟩
  refine⟨fun b hb=>(hkeep b hb).trans (hk.same b hb),fun b hb=>?_,fun k hkm o' ho'=>?_,fun j hj=>?_⟩
  ·rcases hk.free b hb with h3 | ⟨k2,hk2,o2,ho2,hb2⟩
   ·refine .inl fun hm=>?_
    rcases ha.own b hm with h4 | h4
    ·exact h3 h4
    have:=hK1 b hb
    omega
   have hlt:k2<cs.length:=JI hb2
   exact .inr ⟨k2,hk2,o2,by rw[g2 k2 hk2,ho2],by rw[(ha.same.2 k2 hlt).1,hb2]⟩
  ·have:ob[k]? =some (some o'):=by
    rw[←g2 k hkm,ho']
   obtain⟨k1,k2⟩:=hk.ks k hkm o' this
   have hlt:k<cs.length:=by
    have:=(List.getElem?_eq_some_iff.1 this).1
    have:=hR.len
    omega
   rw[ha.un k (h2 k hkm) hlt]
   exact⟨k1,dN (fun b hb=>hkeep b hb.2) hN ha.same _ _ k2⟩
  obtain⟨u0,hu0⟩:=hR'.fv hj
  by_cases e:o.dst=some j
  ·exact⟨u0,hu0.1,by simp[mW,e,bO,cD]⟩
  obtain⟨u,h3,h4⟩:=hk.fv j hj
  refine⟨u,(ha.fr j e).trans h3,?_⟩
  unfold mW at h4⊢
  cases hq:(o.dst.toList++fr).any (Nat.beq j)with
  | true=>simp[bO,cD]
  | false=>
   rw[List.any_append,Bool.or_eq_false_iff]at hq
   rw[hq.2]at h4
   rw[cond_false,g1 j e]
   exact gI (fun b hb=>hkeep b hb.2) hN ha.same _ _ (by simpa using h4)
 exact⟨fun hl'=>(key (hl hl')).same,k g' ob' hr' Kp W1 cs' ts' W' hR' hK1 (Nat.le_trans hK2 ha.size) key⟩
theorem Kn {o:Oper}{Wr:List Nat}{R:(Nat→FV)→List (Option Ob)→Prop}(i:Nat) (hr:Region.ready .any ops listed=[i]) (hi:ops[i]? =some o) (hw:bI ops x.n g o.guard=some true) (h:OS x o g ob Wr R) (on':Bool) (hon:on'=true→on=true∧(∀k∈K,k∉Wr)) (hl:late i=false→on'=true)
  (hg:on'=true→∀g' ob',R g' ob'→(∀j,o.dst≠some j→g' j=g j)∧∀k∈K,ob'[k]? =ob[k]?)
  (k:∀g' ob',R g' ob'→WD x ops Q late K (o.dst.toList++fr) on' fuel (listed.setIfInBounds i true) g' ob'):WD x ops Q late K fr on (fuel+1) listed g ob:=
 WO.one hr (TQ i hi hw h on' hon hl hg k)
theorem dz (hr:Region.ready .any ops listed=[]) (h:Q .normal g ob):WD x ops Q late K fr on fuel listed g ob:=fun _ _ cs ts _ hR _ _ _=>QH hr ⟨g,ob,ts,rfl,⟨cs,hR⟩,h⟩
end
end Go.Proofs.YtbbabfkgdnkehaaGreat
