/- Part 2 of a proof: Av3 to Av9. -/
import Derived.Test.YteggpgndiajdpaaDoorM1
set_option maxRecDepth 100000
set_option linter.unusedVariables false
set_option linter.unusedSimpArgs false
namespace Go.Proofs.YteggpgndiajdpaaDoor
open Go Go.RowKit
inductive TK
 | st (fld:List (Nat×Nat×Nat))
 | sl (e sz by_:Nat) (z:Value)
 | it (k:IntKind)
 | bl
 | pt
 | str
 | ar (n sz:Nat)
 | ot
structure TI where
 agg:Bool
 size:Nat
 zero:List Value
 kd:TK
def nB (P:Program) (t:Nat):Nat→List (Nat×Nat×Nat)→Prop
 | _,[]=>True
 | i,(off,u,_)::l=>TyF P t i off∧TyFt P t i off u∧nB P t (i+1) l
def mI (P:Program) (t:Nat):TK→Prop
 | .st fld=>nB P t 0 fld∧TyPl P t (fld.map fun x=>(x.1,x.2.2))
 | .sl e sz by_ z=>TyS P t e sz∧IsEl P t e z sz by_
 | .it k=>TyI P t k
 | .bl=>TyB P t
 | .pt=>TyP P t
 | .str=>TyStr P t
 | .ar n sz=>TyArr P t n sz
 | .ot=>True
def Gm (P:Program) (t:Nat) (n:Nat):Bool→Prop
 | true=>TyA P t n
 | false=>Ty1 P t∧n=1
def cG (P:Program) (t:Nat) (i:TI):Prop:=Gm P t i.size i.agg∧TyN P t i.size∧TyZ P t i.zero∧mI P t i.kd
def aF:List (Nat×TI)→Nat→Option TI
 | [],_=>none
 | (k,i)::l,t=>bif Nat.beq k t then some i else aF l t
def aQ (P:Program):List (Nat×TI)→Prop
 | []=>True
 | x::l=>cG P x.1 x.2∧aQ P l
theorem aV {P:Program}:∀{T:List (Nat×TI)}{t:Nat}{i:TI},aQ P T→aF T t=some i→cG P t i
 | [],_,_,_,h=>by simp[aF]at h
 | (k,j)::l,t,i,hT,h=>by
  unfold aF at h
  cases hb:Nat.beq k t with
  | true=>
   rw[hb]at h
   have:=Nat.eq_of_beq_eq_true hb
   simp at h
   subst this;subst h
   exact hT.1
  | false=>
   rw[hb]at h
   exact aV hT.2 h
theorem lL {P:Program}{t:Nat}:∀{l:List (Nat×Nat×Nat)}{i f off u sz:Nat},nB P t i l→l[f]? =some (off,u,sz)→TyF P t (i+f) off∧TyFt P t (i+f) off u
 | [],_,_,_,_,_,_,h=>by simp at h
 | (a,b,c)::l,i,0,off,u,sz,hT,h=>by
  simp at h
  obtain⟨rfl,rfl,rfl⟩:=h
  exact⟨hT.1,hT.2.1⟩
 | (a,b,c)::l,i,f+1,off,u,sz,hT,h=>by
  have:=lL (f:=f) hT.2.2 (by simpa using h)
  rwa[show i+1+f=i+(f+1) by omega]at this
def tv (v:Value):AV:=.t (.v v)
def lk (n:Nat) (g:Nat→FV):Operand→FV
 | .tmp t=>bif Nat.blt t n then g t else .any
 | .const v=>match v with
  | .agg cs=>.agg (cs.toList.map tv)
  | v=>.one (tv v)
 | .func f=>.one (.t (.f f [] []))
 | .global _=>.any
section
variable {W:World}{N:Nat→Prop}{cs:List Co}
theorem eN:∀(us:List Value),ARL W N cs (us.map tv) us
 | []=>by simp[ARL]
 | u::us=>by
  simp only[List.map_cons,ARL]
  exact⟨by simp[tv,AR,FR],eN us⟩
theorem oL:∀{l:List AV}{us:List Value}{j:Nat}{a:AV},ARL W N cs l us→l[j]? =some a→∃u,us[j]? =some u∧AR W N cs a u
 | [],_,_,_,_,h=>by simp at h
 | b::l,u::us,0,a,h,hj=>by
  simp only[ARL]at h
  simp at hj
  subst hj
  exact⟨u,rfl,h.1⟩
 | b::l,u::us,j+1,a,h,hj=>by
  simp only[ARL]at h
  simpa using oL h.2 (j:=j) (by simpa using hj)
 | _::_,[],_,_,h,_=>by simp only[ARL]at h
theorem jG:∀{l:List AV}{us:List Value}(j:Nat),ARL W N cs l us→ARL W N cs (l.drop j) (us.drop j)
 | [],us,j,h=>by
  simp only[ARL]at h
  subst h
  simp[ARL]
 | b::l,u::us,0,h=>h
 | b::l,u::us,j+1,h=>by
  simp only[ARL]at h
  simpa using jG j h.2
 | _::_,[],_,h=>by simp only[ARL]at h
theorem jH:∀{l:List AV}{us:List Value}(j:Nat),ARL W N cs l us→ARL W N cs (l.take j) (us.take j)
 | [],us,j,h=>by
  simp only[ARL]at h
  subst h
  simp[ARL]
 | b::l,u::us,0,h=>by simp[ARL]
 | b::l,u::us,j+1,h=>by
  simp only[ARL]at h
  simp only[List.take_succ_cons,ARL]
  exact⟨h.1,jH j h.2⟩
 | _::_,[],_,h=>by simp only[ARL]at h
theorem lM:∀{l l':List AV}{us us':List Value},ARL W N cs l us→ARL W N cs l' us'→ARL W N cs (l++l') (us++us')
 | [],l',us,us',h,h'=>by
  simp only[ARL]at h
  subst h
  simpa using h'
 | b::l,l',u::us,us',h,h'=>by
  simp only[ARL]at h
  simp only[List.cons_append,ARL]
  exact⟨h.1,lM h.2 h'⟩
 | _::_,_,[],_,h,_=>by simp only[ARL]at h
theorem tW:∀{l:List FV}{us:List Value}{j:Nat}{a:FV},aX W N cs l us→l[j]? =some a→∃u,us[j]? =some u∧aJ W N cs a u
 | [],_,_,_,_,h=>by simp at h
 | b::l,u::us,0,a,h,hj=>by
  simp only[aX]at h
  simp at hj
  subst hj
  exact⟨u,rfl,h.1⟩
 | b::l,u::us,j+1,a,h,hj=>by
  simp only[aX]at h
  simpa using tW h.2 (j:=j) (by simpa using hj)
 | _::_,[],_,_,h,_=>by simp only[aX]at h
end
section
variable {x:Cx}{g:Nat→FV}{ob:List (Option Ob)}{cs:List Co}{ts:Array Value}{W:World}
theorem RelC.lk (h:RelC x g ob cs ts W) (o:Operand):aD W (x.fr W ob cs) cs (lk x.n g o) (Act.eval ⟨ts,[]⟩ o):=by
 cases o with
 | tmp t=>
  simp only[Go.Proofs.YteggpgndiajdpaaDoor.lk,Act.eval]
  cases hb:Nat.blt t x.n with
  | false=>simp[aD,aJ]
  | true=>
   have ht:t<x.n:=by simpa[Nat.blt,Nat.lt_iff_add_one_le]using hb
   obtain⟨u,h1,h2⟩:=h.fv ht
   simp[h1]
   exact h2
 | const v=>
  cases v <;> simp only[Go.Proofs.YteggpgndiajdpaaDoor.lk,Act.eval] <;> first
   | (simp[aD,aJ,AR,FR,tv];done)
   | exact⟨_,by simp,eN _⟩
 | func f=>exact⟨[],[],rfl,by simp[FRL],by simp[FRL]⟩
 | global _=>simp[Go.Proofs.YteggpgndiajdpaaDoor.lk,aD,aJ]
end
def gE:IntKind→Int→Prop
 | .i8,z=>-128≤z∧z≤127
 | .i16,z=>-32768≤z∧z≤32767
 | .i32,z=>-2147483648≤z∧z≤2147483647
 | .i64,z=>-9223372036854775808≤z∧z≤9223372036854775807
 | .u8,z=>0≤z∧z≤255
 | .u16,z=>0≤z∧z≤65535
 | .u32,z=>0≤z∧z≤4294967295
 | .u64,z=>0≤z∧z≤18446744073709551615
theorem eU {k:IntKind}{z:Int}(h:gE k z):k.wrap z=z:=by
 cases k <;> simp only[gE]at h <;> simp[IntKind.wrap,IntKind.bits,IntKind.signed] <;> omega
def kq:IntKind→IntKind→Bool
 | .i8,.i8 | .i16,.i16 | .i32,.i32 | .i64,.i64 | .u8,.u8 | .u16,.u16 | .u32,.u32 | .u64,.u64=>true
 | _,_=>false
theorem qO {a b:IntKind}(h:kq a b=true):a=b:=by cases a <;> cases b <;> simp[kq]at h <;> rfl
abbrev Ev:=Option (Prop×FV)
def ev (v:FV):Ev:=some (True,v)
def fI (C:Prop) (k:IntKind) (z:Int):Ev:=some (C,.one (tv (.int k z)))
def gF (q:Bool):Ev:=some (True,.one (tv (.bool q)))
def pS:FV→Ev
 | .one a=>ev (.one a)
 | .agg l=>ev (.agg l)
 | .tup l=>ev (.tup l)
 | .any=>none
def rI:FV→FV→FV→Ev
 | .one (.t (.v (.bool true))),a,_=>pS a
 | .one (.t (.v (.bool false))),_,b=>pS b
 | _,_,_=>none
def tk {β:Type}:Nat→List AV→(List AV→Option β)→Option β
 | 0,_,k=>k []
 | n+1,a::l,k=>tk n l fun r=>k (a::r)
 | _+1,[],_=>none
def dp {β:Type}:Nat→List AV→(List AV→Option β)→Option β
 | 0,l,k=>k l
 | n+1,_::l,k=>dp n l k
 | _+1,[],_=>none
theorem lN {β:Type}:∀{n:Nat}{l:List AV}{k:List AV→Option β}{r:β},tk n l k=some r→n≤l.length∧k (l.take n)=some r
 | 0,l,k,r,h=>by simpa[tk]using h
 | n+1,a::l,k,r,h=>by
  have:=lN (n:=n) (k:=fun r=>k (a::r)) (by simpa[tk]using h)
  simpa using this
 | n+1,[],k,r,h=>by simp[tk]at h
theorem lO {β:Type}:∀{n:Nat}{l:List AV}{k:List AV→Option β}{r:β},dp n l k=some r→n≤l.length∧k (l.drop n)=some r
 | 0,l,k,r,h=>by simpa[dp]using h
 | n+1,a::l,k,r,h=>by
  have:=lO (n:=n) (k:=k) (by simpa[dp]using h)
  simpa using this
 | n+1,[],k,r,h=>by simp[dp]at h
def An (fld:List (Nat×Nat×Nat)) (f:Nat):FV→Ev
 | .one (.pt k o)=>match fld[f]? with
  | some (off,_,_)=>ev (.one (.pt k (o+off)))
  | none=>none
 | .one (.ef l o)=>match fld[f]? with
  | some (off,_,_)=>ev (.one (.ef l (o+off)))
  | none=>none
 | _=>none
def Gn (off:Nat) (i:TI):FV→Ev
 | .agg l=>dp off l fun l=>match i.agg with
  | true=>tk i.size l fun r=>ev (.agg r)
  | false=>match l with
   | a::_=>ev (.one a)
   | []=>none
 | _=>none
def qP (op:BinOp) (t:TK):FV→FV→Ev
 | .one (.t (.v (.int k a))),.one (.t (.v (.int k' b)))=>match kq k k' with
  | true=>match op with
   | .add=>fI (gE k (a+b)) k (a+b)
   | .sub=>fI (gE k (a-b)) k (a-b)
   | .mul=>fI (gE k (a*b)) k (a*b)
   | .quo=>fI (b≠0∧gE k (a.tdiv b)) k (a.tdiv b)
   | .rem=>fI (b≠0) k (a.tmod b)
   | .lss=>gF (decide (a<b))
   | .leq=>gF (decide (a≤b))
   | .gtr=>gF (decide (b<a))
   | .geq=>gF (decide (b≤a))
   | .eql=>gF (decide (a=b))
   | .neq=>gF (decide (a≠b))
   | .and=>fI True k (k.wrap (BitVec.ofInt k.bits a&&& BitVec.ofInt k.bits b).toNat)
   | .or=>fI True k (k.wrap (BitVec.ofInt k.bits a ||| BitVec.ofInt k.bits b).toNat)
   | .shr=>fI (0≤b) k (a.fdiv (2^(min b.toNat k.bits)))
   | .shl=>fI (0≤b) k (k.wrap (a*2^(min b.toNat k.bits)))
   | _=>none
  | false=>match op with
   | .shr=>fI (0≤b) k (a.fdiv (2^(min b.toNat k.bits)))
   | .shl=>fI (0≤b) k (k.wrap (a*2^(min b.toNat k.bits)))
   | _=>none
 | .one (.t (.v (.string a))),.one (.t (.v (.string b)))=>match op with
  | .add=>some (a.size+b.size≤9223372036854775807,.one (tv (.string (a++b))))
  | .eql=>gF (a.toList==b.toList)
  | .neq=>gF (!(a.toList==b.toList))
  | _=>none
 | .one (.t (.v (.bool p))),.one (.t (.v (.bool q)))=>match t with
  | .bl=>match op with
   | .eql=>gF (p==q)
   | .neq=>gF (p != q)
   | _=>none
  | _=>none
 | .one (.pt _ _),.one (.t (.v (.pointer none))) | .one (.ef _ _),.one (.t (.v (.pointer none)))=>match t with
  | .pt=>match op with
   | .eql=>gF false
   | .neq=>gF true
   | _=>none
  | _=>none
 | .one (.t (.v (.pointer none))),.one (.t (.v (.pointer none)))=>match t with
  | .pt=>match op with
   | .eql=>gF true
   | .neq=>gF false
   | _=>none
  | _=>none
 | _,_=>none
def Ao (op:UnOp):FV→Ev
 | .one (.t (.v (.int k a)))=>match op with
  | .neg=>fI (gE k (0-a)) k (0-a)
  | _=>none
 | .one (.t (.v (.bool p)))=>match op with
  | .not=>gF (!p)
  | _=>none
 | _=>none
def rJ:TK→TK→FV→Ev
 | .it k0,.it k',.one (.t (.v (.int k a)))=>match kq k0 k with
  | true=>fI (gE k' a) k' a
  | false=>none
 | _,_,_=>none
def Ap:FV→Ev
 | .one (.pt k o)=>ev (.one (.pt k o))
 | .one (.ef l o)=>ev (.one (.ef l o))
 | .one (.t (.p _ _ l))=>ev (.one (.ef l 0))
 | _=>none
def Aq (i:Nat):FV→Ev
 | .tup l=>match l[i]? with
  | some v=>pS v
  | none=>none
 | _=>none
def eF:FV→Option Nat
 | .one (.sl _ _ n)=>some n
 | .one (.t (.s _ _ _ n _))=>some n
 | .one (.t (.v (.slice none 0 0)))=>some 0
 | _=>none
def Ar (sz:Nat):FV→FV→Ev
 | .one (.sl k o n),.one (.t (.v (.int _ (.ofNat i))))=>some (i<n,.one (.pt k (o+i*sz)))
 | .one (.t (.s _ _ _ n l)),.one (.t (.v (.int _ (.ofNat i))))=>some (i<n,.one (.ef l (i*sz)))
 | _,_=>none
def wE (n sz:Nat):FV→FV→Ev
 | .one (.pt k o),.one (.t (.v (.int _ (.ofNat i))))=>some (i<n,.one (.pt k (o+i*sz)))
 | _,_=>none
def As:FV→FV→Ev
 | .one (.t (.v (.string a))),.one (.t (.v (.int _ (.ofNat i))))=>some (i<a.size,.one (tv (.int .u8 ((a.data[i]?.getD 0).toNat:Int))))
 | _,_=>none
def At:FV→Option FV→Option FV→Ev
 | .one (.t (.v (.string a))),some (.one (.t (.v (.int _ (.ofNat i))))),none=>some (i≤a.size,.one (tv (.string (a.extract i a.size))))
 | .one (.t (.v (.string a))),none,some (.one (.t (.v (.int _ (.ofNat i)))))=>some (i≤a.size,.one (tv (.string (a.extract 0 i))))
 | .one (.t (.v (.string a))),some (.one (.t (.v (.int _ (.ofNat i))))),some (.one (.t (.v (.int _ (.ofNat j)))))=>some (i≤j∧j≤a.size,.one (tv (.string (a.extract i j))))
 | _,_,_=>none
def Au:FV→Ev
 | .one (.t (.v (.string a)))=>fI True .i64 (a.size:Int)
 | _=>none
def lone:AV→Bool
 | .t (.v (.agg _))=>false
 | .t (.v (.tuple _))=>false
 | .t (.a _)=>false
 | _=>true
def oM (fld:List (Nat×Nat×Nat)):List AV→List (Nat×FV)→(List AV→Ev)→Ev
 | cells,[],k=>k cells
 | cells,(i,v)::rest,k=>match fld[i]?,v with
  | some (off,_,sz),.agg l=>match Nat.beq l.length sz with
   | true=>dp (off+sz) cells fun r=>tk off cells fun h=>oM fld (h++l++r) rest k
   | false=>none
  | some (off,_,1),.one a=>match lone a with
   | true=>dp (off+1) cells fun r=>tk off cells fun h=>oM fld (h++a::r) rest k
   | false=>none
  | _,_=>none
def all {β:Type}:List AV→(List AV→Option β)→Option β
 | [],k=>k []
 | a::l,k=>all l fun r=>k (a::r)
theorem nC {β:Type}:∀{l:List AV}{k:List AV→Option β}{r:β},all l k=some r→k l=some r
 | [],k,r,h=>h
 | a::l,k,r,h=>nC (k:=fun r=>k (a::r)) h
def gW:List AV→Option (List Tr)
 | []=>some []
 | .t x::l=>match gW l with
  | some r=>some (x::r)
  | none=>none
 | _=>none
def Gp (f:Nat) (l l':List AV):AV:=match gW l,gW l' with
 | some r,some r'=>.t (.f f r r')
 | _,_=>.fn f l l'
def tX (n:Nat) (g:Nat→FV):List Operand→Option (List AV)
 | []=>some []
 | o::l=>match lk n g o,tX n g l with
  | .one a,some r=>some (a::r)
  | .agg c,some r=>match gW c with
   | some c'=>some (.t (.a c')::r)
   | none=>none
  | _,_=>none
def Av (sz:Nat):FV→Option FV→Option FV→Ev
 | .one (.t (.s o t z n l)),some (.one (.t (.v (.int _ (.ofNat i))))),none=>match Nat.beq z sz with
  | true=>some (i≤n,.one (.t (.s false t z (n-i) (l.drop (i*z)))))
  | false=>none
 | .one (.t (.s o t z n l)),none,some (.one (.t (.v (.int _ (.ofNat i)))))=>match Nat.beq z sz with
  | true=>some (i≤n,.one (.t (.s false t z i (l.take (i*z)))))
  | false=>none
 | .one (.sl k o n),some (.one (.t (.v (.int _ (.ofNat i))))),none=>some (i≤n∧0<sz,.one (.sl k (o+i*sz) (n-i)))
 | .one (.sl k o n),none,some (.one (.t (.v (.int _ (.ofNat i)))))=>some (i≤n,.one (.sl k o i))
 | _,_,_=>none
def wF:FV→FV→Ev
 | .one (.t (.v (.int k a))),.one (.t (.v (.int k' b)))=>match kq k k' with
  | true=>fI True k (max a b)
  | false=>none
 | _,_=>none
def wG:FV→FV→Ev
 | .one (.t (.v (.int k a))),.one (.t (.v (.int k' b)))=>match kq k k' with
  | true=>fI True k (min a b)
  | false=>none
 | _,_=>none
def lY (T:List (Nat×TI)) (n:Nat) (g:Nat→FV):Op→Ev
 | .move a=>pS (lk n g a)
 | .assign a=>pS (lk n g a)
 | .pick c a b=>rI (lk n g c) (lk n g a) (lk n g b)
 | .fieldAddr t a f=>match aF T t with
  | some ⟨_,_,_,.st fld⟩=>An fld f (lk n g a)
  | _=>none
 | .field t a f=>match aF T t with
  | some ⟨_,_,_,.st fld⟩=>match fld[f]? with
   | some (off,u,_)=>match aF T u with
    | some i=>Gn off i (lk n g a)
    | none=>none
   | none=>none
  | _=>none
 | .nilCheck a=>Ap (lk n g a)
 | .binOp op t a b _=>match aF T t with
  | some i=>qP op i.kd (lk n g a) (lk n g b)
  | none=>qP op .ot (lk n g a) (lk n g b)
 | .unOp op _ a=>Ao op (lk n g a)
 | .convert s d a=>match aF T s,aF T d with
  | some i,some j=>rJ i.kd j.kd (lk n g a)
  | _,_=>none
 | .extract a i=>Aq i (lk n g a)
 | .indexAddr t a i=>match aF T t with
  | some ⟨_,_,_,.sl _ sz _ _⟩=>Ar sz (lk n g a) (lk n g i)
  | some ⟨_,_,_,.ar c sz⟩=>wE c sz (lk n g a) (lk n g i)
  | _=>none
 | .index t a i=>match aF T t with
  | some ⟨_,_,_,.str⟩=>As (lk n g a) (lk n g i)
  | _=>none
 | .build t ps=>match aF T t with
  | some ⟨_,_,z,.st fld⟩=>oM fld (z.map tv) (ps.toList.map fun p=>(p.1,lk n g p.2)) fun l=>all l fun l=>ev (.agg l)
  | _=>none
 | .makeFunc (.func f) a b=>match tX n g a.toList,tX n g b.toList with
  | some l,some l'=>ev (.one (Gp f l l'))
  | _,_=>none
 | .slice t a lo hi none=>match aF T t with
  | some ⟨_,_,_,.sl _ sz _ _⟩=>Av sz (lk n g a) (lo.map (lk n g)) (hi.map (lk n g))
  | some ⟨_,_,_,.str⟩=>At (lk n g a) (lo.map (lk n g)) (hi.map (lk n g))
  | _=>none
 | .call ⟨.builtin .max,⟨[a,b]⟩,_⟩=>wF (lk n g a) (lk n g b)
 | .call ⟨.builtin .min,⟨[a,b]⟩,_⟩=>wG (lk n g a) (lk n g b)
 | .call ⟨.builtin .len,⟨[a]⟩,⟨[t]⟩⟩=>match aF T t with
  | some ⟨_,_,_,.sl _ _ _ _⟩=>match eF (lk n g a)with
   | some m=>fI True .i64 (m:Int)
   | none=>none
  | some ⟨_,_,_,.str⟩=>Au (lk n g a)
  | _=>none
 | _=>none
section
variable {W:World}{N:Nat→Prop}{cs:List Co}{P:Program}{ρ:Operand→Value}{d:Option Tmp}{ty:TypeId}{pos:String}{af:Array Edge}{gd:Option (Nat×Bool)}{C:Prop}{v:FV}
def eI (P:Program) (W:World) (N:Nat→Prop) (cs:List Co) (ρ:Operand→Value) (o:Oper) (v:FV):Prop:=∃u,(∀W',(execOp ρ o).run P W'=.ok (.value u) W')∧aD W N cs v u
theorem pr {C D:Prop}{v w:FV}(h:(some (C,v):Ev)=some (D,w)):C=D∧v=w:=by
 injection h with h
 injection h with h1 h2
 exact⟨h1,h2⟩
theorem kH {a:FV}(h:pS a=some (C,v)):v=a∧C=True:=by
 cases a with
 | any=>cases h
 | one a=>exact⟨(pr h).2.symm,(pr h).1.symm⟩
 | agg a=>exact⟨(pr h).2.symm,(pr h).1.symm⟩
 | tup a=>exact⟨(pr h).2.symm,(pr h).1.symm⟩
theorem dC {a:AV}{u:Value}(h:AR W N cs a u):aD W N cs (.one a) u:=h
theorem aC {x u:Value}(h:aD W N cs (.one (tv x)) u):u=x:=by simpa[aD,aJ,tv,AR,FR]using h
theorem aS (x:Value):aD W N cs (.one (tv x)) x:=by simp[aD,aJ,tv,AR,FR]
theorem eM {x:FV}{u:Value}(h:aJ W N cs x u):aD W N cs x u:=by
 cases x <;> simp only[aJ]at h <;> first | exact h | trivial | exact h.elim
variable {x y z:Operand}{a b c:FV}
theorem Gq (hx:aD W N cs a (ρ x)) (h:pS a=some (C,v)):eI P W N cs ρ ⟨d,.move x,ty,pos,af,gd⟩ v:=by
 obtain⟨rfl,rfl⟩:=kH h
 exact⟨_,fun W'=>Dg rfl,hx⟩
theorem Aw (hx:aD W N cs a (ρ x)) (h:pS a=some (C,v)):eI P W N cs ρ ⟨d,.assign x,ty,pos,af,gd⟩ v:=by
 obtain⟨rfl,rfl⟩:=kH h
 exact⟨_,fun W'=>xP rfl,hx⟩
theorem Gr (hx:aD W N cs a (ρ x)) (hy:aD W N cs b (ρ y)) (hz:aD W N cs c (ρ z)) (h:rI a b c=some (C,v)):eI P W N cs ρ ⟨d,.pick x y z,ty,pos,af,gd⟩ v:=by
 unfold rI at h
 split at h
 ·obtain⟨rfl,rfl⟩:=kH h
  exact⟨_,fun W'=>tU (aC hx) (if_pos rfl),hy⟩
 ·obtain⟨rfl,rfl⟩:=kH h
  exact⟨_,fun W'=>tU (aC hx) (if_neg (by simp)),hz⟩
 cases h
theorem Lk (hx:aD W N cs a (ρ x)) (h:Ap a=some (C,v)):eI P W N cs ρ ⟨d,.nilCheck x,ty,pos,af,gd⟩ v:=by
 unfold Ap at h
 split at h
 ·obtain⟨rfl,rfl⟩:=pr h
  have h2:=hx
  simp only[aD,aJ,AR]at h2
  obtain⟨b,_,e⟩:=h2
  exact⟨_,fun W'=>(iA e),by rw[←e];exact hx⟩
 ·obtain⟨rfl,rfl⟩:=pr h
  have h2:=hx
  simp only[aD,aJ,AR]at h2
  obtain⟨ad,_,_,e⟩:=h2
  exact⟨_,fun W'=>(iA e),by rw[←e];exact hx⟩
 ·obtain⟨rfl,rfl⟩:=pr h
  simp only[aD,aJ,AR,FR]at hx
  obtain⟨ad,e,hN,hc⟩:=hx
  exact⟨_,fun W'=>(iA e),ad,hN,hc,by rw[qN]⟩
 cases h
theorem tJ {t f:Nat}{fld:List (Nat×Nat×Nat)}(hT:nB P t 0 fld) (hx:aD W N cs a (ρ x)) (h:An fld f a=some (C,v)):eI P W N cs ρ ⟨d,.fieldAddr t x f,ty,pos,af,gd⟩ v:=by
 unfold An at h
 split at h
 ·split at h
  ·rename_i hf
   obtain⟨rfl,rfl⟩:=pr h
   have hg:=(lL hT hf).1
   rw[Nat.zero_add]at hg
   simp only[aD,aJ,AR]at hx
   obtain⟨b,hb,e⟩:=hx
   exact⟨_,fun W'=>rD hg e,b,hb,rfl⟩
  cases h
 ·split at h
  ·rename_i hf
   obtain⟨rfl,rfl⟩:=pr h
   have hg:=(lL hT hf).1
   rw[Nat.zero_add]at hg
   simp only[aD,aJ,AR]at hx
   obtain⟨ad,hb,hr,e⟩:=hx
   exact⟨_,fun W'=>qJ hg e,ad,hb,hr,rfl⟩
  cases h
 cases h
theorem Ds {t f off u sz:Nat}{i:TI}{fld:List (Nat×Nat×Nat)}(hT:nB P t 0 fld) (hf:fld[f]? =some (off,u,sz)) (hu:Gm P u i.size i.agg) (hx:aD W N cs a (ρ x)) (h:Gn off i a=some (C,v)):eI P W N cs ρ ⟨d,.field t x f,ty,pos,af,gd⟩ v:=by
 have hg:=(lL hT hf).2
 rw[Nat.zero_add]at hg
 unfold Gn at h
 split at h
 ·rename_i l
  obtain⟨h1,h2⟩:=lO h
  obtain⟨us,e,hl⟩:=hx
  split at h2
  ·rename_i ha
   obtain⟨h3,h4⟩:=lN h2
   obtain⟨rfl,rfl⟩:=pr h4
   rw[ha]at hu
   exact⟨_,fun W'=>xR hg hu e rfl,_,rfl,jH _ (jG _ hl)⟩
  rename_i ha
  split at h2
  ·rename_i b r hb
   obtain⟨rfl,rfl⟩:=pr h2
   rw[ha]at hu
   have hj:l[off]? =some b:=by
    have:=congrArg (·[0]?) hb
    simpa using this
   obtain⟨u',hu',hr⟩:=oL hl hj
   exact⟨_,fun W'=>xQ hg hu.1 e hu',hr⟩
  cases h2
 cases h
theorem xY {i:Nat}(hx:aD W N cs a (ρ x)) (h:Aq i a=some (C,v)):eI P W N cs ρ ⟨d,.extract x i,ty,pos,af,gd⟩ v:=by
 unfold Aq at h
 split at h
 ·split at h
  ·rename_i hv
   obtain⟨rfl,rfl⟩:=kH h
   obtain⟨us,e,hl⟩:=hx
   obtain⟨u,hu,hr⟩:=tW hl hv
   exact⟨u,fun W'=>wC e hu,eM hr⟩
  cases h
 cases h
theorem Gs {t t2:Nat}{k1 k2:TK}(h1:mI P t k1) (h2:mI P t2 k2) (hx:aD W N cs a (ρ x)) (h:rJ k1 k2 a=some (C,v)) (hC:C):eI P W N cs ρ ⟨d,.convert t t2 x,ty,pos,af,gd⟩ v:=by
 unfold rJ at h
 split at h
 ·split at h
  ·rename_i hk
   have hk:=qO hk
   subst hk
   obtain⟨rfl,rfl⟩:=pr h
   exact⟨_,fun W'=>Dj h1 h2 (aC hx) (eU hC),aS _⟩
  cases h
 cases h
theorem Ll {t:Nat}{op:UnOp}(hx:aD W N cs a (ρ x)) (h:Ao op a=some (C,v)) (hC:C):eI P W N cs ρ ⟨d,.unOp op t x,ty,pos,af,gd⟩ v:=by
 unfold Ao at h
 split at h
 ·split at h
  ·obtain⟨rfl,rfl⟩:=pr h
   exact⟨_,fun W'=>Gi (aC hx) (eU hC),aS _⟩
  cases h
 ·split at h
  ·obtain⟨rfl,rfl⟩:=pr h
   exact⟨_,fun W'=>Gh (aC hx) rfl,aS _⟩
  cases h
 cases h
theorem Ce {t t2:Nat}{op:BinOp}{k:TK}(hk:mI P t k) (hx:aD W N cs a (ρ x)) (hy:aD W N cs b (ρ y)) (h:qP op k a b=some (C,v)) (hC:C):eI P W N cs ρ ⟨d,.binOp op t x y t2,ty,pos,af,gd⟩ v:=by
 unfold qP at h
 split at h
 ·split at h
  ·rename_i hq
   have hq:=qO hq
   subst hq
   cases op <;> first | (cases h;done) | skip
   all_goals obtain⟨rfl,rfl⟩:=pr h
   ·exact⟨_,fun W'=>Fw (aC hx) (aC hy) (eU hC),aS _⟩
   ·exact⟨_,fun W'=>Fx (aC hx) (aC hy) (eU hC),aS _⟩
   ·exact⟨_,fun W'=>Fy (aC hx) (aC hy) (eU hC),aS _⟩
   ·exact⟨_,fun W'=>Fz (aC hx) (aC hy) hC.1 (eU hC.2),aS _⟩
   ·exact⟨_,fun W'=>Ga (aC hx) (aC hy) hC rfl,aS _⟩
   ·exact⟨_,fun W'=>Gk (aC hx) (aC hy),aS _⟩
   ·exact⟨_,fun W'=>Ji (aC hx) (aC hy),aS _⟩
   ·exact⟨_,fun W'=>xX (aC hx) (aC hy) hC,aS _⟩
   ·exact⟨_,fun W'=>xW (aC hx) (aC hy) hC,aS _⟩
   ·exact⟨_,fun W'=>Gf (aC hx) (aC hy) rfl,aS _⟩
   ·exact⟨_,fun W'=>(Gg (aC hx) (aC hy) rfl),by first | exact aS _ | (simp only[decide_not];exact aS _) | (rw[decide_not];exact aS _)⟩
   ·exact⟨_,fun W'=>Gb (aC hx) (aC hy) rfl,aS _⟩
   ·exact⟨_,fun W'=>Gc (aC hx) (aC hy) rfl,aS _⟩
   ·exact⟨_,fun W'=>Gd (aC hx) (aC hy) rfl,aS _⟩
   exact⟨_,fun W'=>Ge (aC hx) (aC hy) rfl,aS _⟩
  cases op <;> first | (cases h;done) | skip
  all_goals obtain⟨rfl,rfl⟩:=pr h
  ·exact⟨_,fun W'=>xX (aC hx) (aC hy) hC,aS _⟩
  exact⟨_,fun W'=>xW (aC hx) (aC hy) hC,aS _⟩
 ·cases op <;> first | (cases h;done) | skip
  all_goals obtain⟨rfl,rfl⟩:=pr h
  ·exact⟨_,fun W'=>Dm (aC hx) (aC hy) hC,aS _⟩
  ·exact⟨_,fun W'=>Dn (aC hx) (aC hy),aS _⟩
  exact⟨_,fun W'=>Do (aC hx) (aC hy),aS _⟩
 ·split at h
  ·cases op <;> first | (cases h;done) | skip
   all_goals obtain⟨rfl,rfl⟩:=pr h
   ·exact⟨_,fun W'=>Dh hk (aC hx) (aC hy) rfl,aS _⟩
   exact⟨_,fun W'=>Di hk (aC hx) (aC hy) rfl,aS _⟩
  cases h
 ·have e2:=aC hy
  simp only[aD,aJ,AR]at hx
  obtain⟨b0,_,e1⟩:=hx
  split at h
  ·cases op <;> first | (cases h;done) | skip
   all_goals obtain⟨rfl,rfl⟩:=pr h
   ·exact⟨_,fun W'=>mF hk e1 e2,aS _⟩
   exact⟨_,fun W'=>mG hk e1 e2,aS _⟩
  cases h
 ·have e2:=aC hy
  simp only[aD,aJ,AR]at hx
  obtain⟨ad,_,_,e1⟩:=hx
  split at h
  ·cases op <;> first | (cases h;done) | skip
   all_goals obtain⟨rfl,rfl⟩:=pr h
   ·exact⟨_,fun W'=>mF hk e1 e2,aS _⟩
   exact⟨_,fun W'=>mG hk e1 e2,aS _⟩
  cases h
 ·split at h
  ·cases op <;> first | (cases h;done) | skip
   all_goals obtain⟨rfl,rfl⟩:=pr h
   ·exact⟨_,fun W'=>mF hk (aC hx) (aC hy),aS _⟩
   exact⟨_,fun W'=>mG hk (aC hx) (aC hy),aS _⟩
  cases h
 cases h
theorem Jj {t n' sz:Nat}(hk:TyArr P t n' sz) (hx:aD W N cs a (ρ x)) (hy:aD W N cs b (ρ y)) (h:wE n' sz a b=some (C,v)) (hC:C):eI P W N cs ρ ⟨d,.indexAddr t x y,ty,pos,af,gd⟩ v:=by
 unfold wE at h
 split at h
 ·rename_i k o kk i
  obtain⟨rfl,rfl⟩:=pr h
  have e2:=aC (x:=.int kk (.ofNat i)) hy
  simp only[aD,aJ,AR]at hx
  obtain⟨b0,hb,e1⟩:=hx
  refine⟨_,fun W'=>Gl (i:=i) hk e1 e2 hC,dC ?_⟩
  simp only[AR]
  exact⟨b0,hb,by rw[dK]⟩
 cases h
theorem Lm {t:Nat}(hk:TyStr P t) (hx:aD W N cs a (ρ x)) (hy:aD W N cs b (ρ y)) (h:As a b=some (C,v)) (hC:C):eI P W N cs ρ ⟨d,.index t x y,ty,pos,af,gd⟩ v:=by
 unfold As at h
 split at h
 ·rename_i s kk i
  obtain⟨rfl,rfl⟩:=pr h
  have e2:=aC (x:=.int kk (.ofNat i)) hy
  have hi:s[i]? =some (s.data[i]?.getD 0):=by
   have h1:i<s.data.size:=hC
   have h2:s[i]? =some s[i]:=getElem?_pos s i hC
   rw[h2,Array.getElem?_eq_getElem h1]
   rfl
  exact⟨_,fun W'=>Dq (i:=i) hk (aC hx) e2 hi,aS _⟩
 cases h
theorem Ln {t:Nat}{lo hi:Option Operand}(hk:TyStr P t) (hx:aD W N cs a (ρ x)){n:Nat}{g:Nat→FV}(hlk:∀o,aD W N cs (lk n g o) (ρ o)) (h:At a (lo.map (lk n g)) (hi.map (lk n g))=some (C,v)) (hC:C):eI P W N cs ρ ⟨d,.slice t x lo hi none,ty,pos,af,gd⟩ v:=by
 unfold At at h
 split at h
 ·rename_i s kk i h1 h2
  obtain⟨rfl,rfl⟩:=pr h
  cases lo <;> simp at h1
  cases hi <;> simp at h2
  have e1:=hlk ‹_›
  rw[h1]at e1
  exact⟨_,fun W'=>Al (i:=i) hk (aC hx) (aC (x:=.int kk (.ofNat i)) e1) hC,aS _⟩
 ·rename_i s kk i h1 h2
  obtain⟨rfl,rfl⟩:=pr h
  cases lo <;> simp at h1
  cases hi <;> simp at h2
  have e1:=hlk ‹_›
  rw[h2]at e1
  exact⟨_,fun W'=>Am (i:=i) hk (aC hx) (aC (x:=.int kk (.ofNat i)) e1) hC,aS _⟩
 ·rename_i s kk i kk' j h1 h2
  obtain⟨rfl,rfl⟩:=pr h
  cases lo with
  | none=>simp at h1
  | some o1=>
   cases hi with
   | none=>simp at h2
   | some o2=>
    simp at h1 h2
    have e1:=hlk o1
    have e2:=hlk o2
    rw[h1]at e1
    rw[h2]at e2
    exact⟨_,fun W'=>Dr (i:=i) (j:=j) hk (aC hx) (aC (x:=.int kk (.ofNat i)) e1) (aC (x:=.int kk' (.ofNat j)) e2) hC.1 hC.2,aS _⟩
 cases h
theorem Lo {t:Nat}(hk:TyStr P t) (hx:aD W N cs a (ρ x)) (h:Au a=some (C,v)):eI P W N cs ρ ⟨d,.call ⟨.builtin .len,⟨[x]⟩,⟨[t]⟩⟩,ty,pos,af,gd⟩ v:=by
 unfold Au at h
 split at h
 ·obtain⟨rfl,rfl⟩:=pr h
  exact⟨_,fun W'=>Dp hk (aC hx),aS _⟩
 cases h
theorem Lp {t e sz by_:Nat}{zz:Value}(hk:mI P t (.sl e sz by_ zz)) (hx:aD W N cs a (ρ x)) (hy:aD W N cs b (ρ y)) (h:Ar sz a b=some (C,v)) (hC:C):eI P W N cs ρ ⟨d,.indexAddr t x y,ty,pos,af,gd⟩ v:=by
 unfold Ar at h
 split at h
 ·rename_i k o n kk i
  obtain⟨rfl,rfl⟩:=pr h
  have e2:=aC (x:=.int kk (.ofNat i)) hy
  simp only[aD,aJ,AR]at hx
  replace hx:=hx.2
  cases hb:(co cs k).b with
  | none=>
   rw[hb]at hx
   simp at hx
   omega
  | some b0=>
   rw[hb]at hx
   obtain⟨o',c,e1,h1,h2,h3,h4⟩:=hx
   obtain rfl:=h3 (.inl (by omega))
   refine⟨_,fun W'=>jZ (k:=i) hk.1 e1 rfl e2 hC,?_⟩
   refine dC ?_
   simp only[AR]
   exact⟨b0,hb,by rw[dK]⟩
 ·rename_i n l kk i
  obtain⟨rfl,rfl⟩:=pr h
  have e2:=aC (x:=.int kk (.ofNat i)) hy
  simp only[aD,aJ,AR,FR]at hx
  obtain⟨A,c,e1,h1,h2,h3,h4⟩:=hx
  rcases h4 with h4 | ⟨ad,rfl,h5,h6⟩
  ·omega
  exact⟨_,fun W'=>jZ (k:=i) hk.1 e1 rfl e2 hC,ad,h5,h6,rfl⟩
 cases h
theorem tY {m:Nat}{u:Value}(hx:aD W N cs a u) (h:eF a=some m):∃A c,u=.slice A m c:=by
 unfold eF at h
 split at h
 ·rename_i k o n
  simp at h
  subst h
  simp only[aD,aJ,AR]at hx
  replace hx:=hx.2
  cases hb:(co cs k).b with
  | none=>
   rw[hb]at hx
   obtain⟨rfl,_,e⟩:=hx
   exact⟨_,_,e⟩
  | some b0=>
   rw[hb]at hx
   obtain⟨_,c,e,_⟩:=hx
   exact⟨_,_,e⟩
 ·simp at h
  subst h
  simp only[aD,aJ,AR,FR]at hx
  obtain⟨A,c,e1,_⟩:=hx
  exact⟨A,c,e1⟩
 ·simp at h
  subst h
  exact⟨_,_,aC hx⟩
 cases h
theorem kI {ad:Addr}:∀{trs:List Tr}{i:Nat},(∀(j:Nat) (y:Tr),trs[j]? =some y→∃u,W.cell? (ad.add (i+j))=some u∧FR W N y u)→FRc W N ad i trs
 | [],i,_=>by simp[FRc]
 | y::trs,i,h=>by
  simp only[FRc]
  refine⟨by simpa using h 0 y rfl,kI fun j z hj=>?_⟩
  have:=h (j+1) z (by simpa using hj)
  rwa[show i+(j+1)=i+1+j by omega]at this
theorem Ax {ad:Addr}{l:List Tr}(k:Nat) (h:FRc W N ad 0 l):FRc W N (ad.add k) 0 (l.drop k):=kI fun j y hj=>by
 rw[List.getElem?_drop]at hj
 obtain⟨u,h1,h2⟩:=iK h hj
 exact⟨u,by rw[iH];simpa using h1,h2⟩
theorem Ay {ad:Addr}{l:List Tr}(k:Nat) (h:FRc W N ad 0 l):FRc W N ad 0 (l.take k):=kI fun j y hj=>by
 rw[List.getElem?_take]at hj
 split at hj
 ·exact iK h hj
 cases hj
theorem Dt {t e sz by_:Nat}{zz:Value}{lo hi:Option Operand}(hk:mI P t (.sl e sz by_ zz)) (hx:aD W N cs a (ρ x)){n:Nat}{g:Nat→FV}(hlk:∀o,aD W N cs (lk n g o) (ρ o)) (h:Av sz a (lo.map (lk n g)) (hi.map (lk n g))=some (C,v)) (hC:C):eI P W N cs ρ ⟨d,.slice t x lo hi none,ty,pos,af,gd⟩ v:=by
 unfold Av at h
 split at h
 ·rename_i o t' z m l kk i h1 h2
  split at h
  ·rename_i hz
   have hz:=Nat.eq_of_beq_eq_true hz
   subst hz
   obtain⟨rfl,rfl⟩:=pr h
   obtain⟨lo',rfl,e1⟩:=Option.map_eq_some_iff.1 h1
   obtain rfl:hi=none:=by cases hi <;> simp at h2 <;> rfl
   have e2:=hlk lo'
   rw[e1]at e2
   have e2:=aC (x:=.int kk (.ofNat i)) e2
   simp only[aD,aJ,AR,FR]at hx
   obtain⟨A,c,e3,h3,h4,h5,h6⟩:=hx
   refine⟨_,fun W'=>jE (k:=i) hk.1 e3 e2 hC h3,?_⟩
   simp only[aD,aJ,AR,FR]
   refine⟨_,_,rfl,by omega,by omega,by rw[List.length_drop,h5,Nat.sub_mul],?_⟩
   rcases Nat.eq_zero_or_pos (m-i)with h0 | h0
   ·exact .inl h0
   rcases h6 with h6 | ⟨ad,rfl,h7,h8⟩
   ·omega
   rw[if_neg (by omega)]
   exact .inr ⟨ad.add (i*z),rfl,by rw[cL];exact h7,Ax _ h8⟩
  cases h
 ·rename_i o t' z m l kk i h1 h2
  split at h
  ·rename_i hz
   have hz:=Nat.eq_of_beq_eq_true hz
   subst hz
   obtain⟨rfl,rfl⟩:=pr h
   obtain⟨hi',rfl,e1⟩:=Option.map_eq_some_iff.1 h2
   obtain rfl:lo=none:=by cases lo <;> simp at h1 <;> rfl
   have e2:=hlk hi'
   rw[e1]at e2
   have e2:=aC (x:=.int kk (.ofNat i)) e2
   simp only[aD,aJ,AR,FR]at hx
   obtain⟨A,c,e3,h3,h4,h5,h6⟩:=hx
   refine⟨_,fun W'=>jF (k:=i) hk.1 e3 e2 (Nat.le_trans hC h3),?_⟩
   simp only[aD,aJ,AR,FR]
   refine⟨_,_,rfl,Nat.le_trans hC h3,h4,by rw[List.length_take,h5,Nat.min_eq_left (Nat.mul_le_mul_right _ hC)],?_⟩
   rcases Nat.eq_zero_or_pos i with h0 | h0
   ·exact .inl h0
   rcases h6 with h6 | ⟨ad,rfl,h7,h8⟩
   ·omega
   exact .inr ⟨ad,rfl,h7,Ay _ h8⟩
  cases h
 ·rename_i k o m kk i h1 h2
  obtain⟨rfl,rfl⟩:=pr h
  obtain⟨lo',rfl,e1⟩:=Option.map_eq_some_iff.1 h1
  obtain rfl:hi=none:=by cases hi <;> simp at h2 <;> rfl
  have e2:=hlk lo'
  rw[e1]at e2
  have e2:=aC (x:=.int kk (.ofNat i)) e2
  simp only[aD,aJ,AR]at hx
  cases hb:(co cs k).b with
  | none=>
   rw[hb]at hx
   obtain⟨hlt,rfl,rfl,e3⟩:=hx
   have hi0:i=0:=by omega
   subst hi0
   refine⟨_,fun W'=>jE (k:=0) hk.1 e3 e2 (Nat.le_refl _) (Nat.le_refl _),?_⟩
   simp only[aD,aJ,AR,hb]
   exact⟨hlt,by simp,by simp,by simp⟩
  | some b=>
   rw[hb]at hx
   obtain⟨hlt,o',c,e3,h3,h4,h5,h6⟩:=hx
   refine⟨_,fun W'=>jE (k:=i) hk.1 e3 e2 hC.1 h3,?_⟩
   simp only[aD,aJ,AR,hb]
   refine⟨hlt,if c=i then o' else o'+i*sz,c-i,?_,by omega,by omega,fun h0=>?_,fun h0=>?_⟩
   ·by_cases hc:c=i
    ·simp[hc]
    simp[hc,dK]
   ·by_cases hc:c=i
    ·have hm:m=i:=by omega
     rw[if_pos hc]
     rcases h0 with h0 | h0
     ·omega
     have:i=0:=by
      rcases Nat.eq_zero_or_pos i with h9 | h9
      ·exact h9
      have:=Nat.mul_pos h9 hC.2
      omega
     subst this
     simpa using h5 (.inr (by omega))
    rw[if_neg hc]
    rcases h0 with h0 | h0
    ·rw[h5 (.inl (by omega))]
    rw[h5 (.inr (by omega))]
   have:i=0:=by
    rcases Nat.eq_zero_or_pos i with h9 | h9
    ·exact h9
    have:=Nat.mul_pos h9 hC.2
    omega
   subst this
   rw[Nat.sub_zero]
   exact h6 (by omega)
 ·rename_i k o m kk i h1 h2
  obtain⟨rfl,rfl⟩:=pr h
  obtain⟨hi',rfl,e1⟩:=Option.map_eq_some_iff.1 h2
  obtain rfl:lo=none:=by cases lo <;> simp at h1 <;> rfl
  have e2:=hlk hi'
  rw[e1]at e2
  have e2:=aC (x:=.int kk (.ofNat i)) e2
  simp only[aD,aJ,AR]at hx
  cases hb:(co cs k).b with
  | none=>
   rw[hb]at hx
   obtain⟨hlt,rfl,rfl,e3⟩:=hx
   have hi0:i=0:=by omega
   subst hi0
   refine⟨_,fun W'=>jF (k:=0) hk.1 e3 e2 (Nat.le_refl _),?_⟩
   simp only[aD,aJ,AR,hb]
   exact⟨hlt,by simp⟩
  | some b=>
   rw[hb]at hx
   obtain⟨hlt,o',c,e3,h3,h4,h5,h6⟩:=hx
   refine⟨_,fun W'=>jF (k:=i) hk.1 e3 e2 (Nat.le_trans hC h3),?_⟩
   simp only[aD,aJ,AR,hb]
   exact⟨hlt,o',c,rfl,Nat.le_trans hC h3,h4,fun h0=>h5 (by omega),h6⟩
 cases h
theorem Jk {aa:Array TypeId}(hx:aD W N cs a (ρ x)) (hy:aD W N cs b (ρ y)) (h:wF a b=some (C,v)):eI P W N cs ρ ⟨d,.call ⟨.builtin .max,⟨[x,y]⟩,aa⟩,ty,pos,af,gd⟩ v:=by
 unfold wF at h
 split at h
 ·split at h
  ·rename_i hk
   have hk:=qO hk
   subst hk
   obtain⟨rfl,rfl⟩:=pr h
   exact⟨_,fun W'=>Dk (aC hx) (aC hy) (by omega),aS _⟩
  cases h
 cases h
theorem Jl {aa:Array TypeId}(hx:aD W N cs a (ρ x)) (hy:aD W N cs b (ρ y)) (h:wG a b=some (C,v)):eI P W N cs ρ ⟨d,.call ⟨.builtin .min,⟨[x,y]⟩,aa⟩,ty,pos,af,gd⟩ v:=by
 unfold wG at h
 split at h
 ·split at h
  ·rename_i hk
   have hk:=qO hk
   subst hk
   obtain⟨rfl,rfl⟩:=pr h
   exact⟨_,fun W'=>Dl (aC hx) (aC hy) (by omega),aS _⟩
  cases h
 cases h
theorem Jm {t e sz by_ m:Nat}{zz:Value}(hk:mI P t (.sl e sz by_ zz)) (hx:aD W N cs a (ρ x)) (hm:eF a=some m):eI P W N cs ρ ⟨d,.call ⟨.builtin .len,⟨[x]⟩,⟨[t]⟩⟩,ty,pos,af,gd⟩ (.one (tv (.int .i64 (m:Int)))):=by
 obtain⟨A,c,e⟩:=tY hx hm
 exact⟨_,fun W'=>Fv hk.1 e,aS _⟩
theorem tZ:∀(us:List Value),ARL W N cs (us.map tv) us:=eN
theorem xZ {u:Value}:∀{l:List AV},aD W N cs (.agg l) u→∃us,u=.agg us.toArray∧u.cells.toList=us∧ARL W N cs l us:=fun⟨us,e,h⟩=>⟨us,e,by simp[e,Value.cells],h⟩
theorem jI {al:AV}{u:Value}(h:AR W N cs al u) (hl:lone al=true):u.cells= #[u]:=by
 cases al with
 | t x=>
  cases x with
  | v w=>
   simp only[AR,FR]at h
   subst h
   cases u <;> first | rfl | (simp[lone]at hl)
  | s o t z n l=>
   simp only[AR,FR]at h
   obtain⟨A,c,rfl,_⟩:=h
   rfl
  | p o t l=>
   simp only[AR,FR]at h
   obtain⟨A,rfl,_⟩:=h
   rfl
  | f g l0 l=>
   simp only[AR,FR]at h
   obtain⟨A,B,rfl,_⟩:=h
   rfl
  | a l=>simp[lone]at hl
 | sl k o n=>
  simp only[AR]at h
  replace h:=h.2
  split at h
  ·obtain⟨_,_,rfl⟩:=h
   rfl
  obtain⟨_,_,rfl,_⟩:=h
  rfl
 | pt k o=>
  simp only[AR]at h
  obtain⟨_,_,rfl⟩:=h
  rfl
 | ef l o=>
  simp only[AR]at h
  obtain⟨_,_,_,rfl⟩:=h
  rfl
 | fn f a b=>
  simp only[AR]at h
  obtain⟨_,_,rfl,_⟩:=h
  rfl
theorem lP {fld:List (Nat×Nat×Nat)}{k:List AV→Ev}:∀{ps:List (Nat×FV)}{vs:List (Nat×Value)}{cells:List AV}{us:List Value},ARL W N cs cells us→oM fld cells ps k=some (C,v)→
  (ps.length=vs.length)→(∀(j:Nat) (p:Nat×FV) (q:Nat×Value),ps[j]? =some p→vs[j]? =some q→p.1=q.1∧aD W N cs p.2 q.2)→
  ∃l us',ARL W N cs l us'∧cT (fun i=>(fld.map fun x=>(x.1,x.2.2))[i]?) us vs=some us'∧k l=some (C,v)
 | [],vs,cells,us,hc,h,hl,_=>by
  obtain rfl:vs=[]:=List.eq_nil_of_length_eq_zero hl.symm
  exact⟨cells,us,hc,rfl,h⟩
 | (i,fv)::ps,vs,cells,us,hc,h,hl,hp=>by
  obtain⟨⟨i',u⟩,vs,rfl⟩:∃q vs',vs=q::vs':=by
   cases vs with
   | nil=>simp at hl
   | cons q vs=>exact⟨q,vs,rfl⟩
  have h0:=hp 0 _ _ rfl rfl
  obtain⟨e0,h0⟩:=h0
  dsimp only at e0 h0
  subst e0
  have hp':∀(j:Nat) (p:Nat×FV) (q:Nat×Value),ps[j]? =some p→vs[j]? =some q→p.1=q.1∧aD W N cs p.2 q.2:=fun j p q h1 h2=>hp (j+1) p q (by simpa using h1) (by simpa using h2)
  have hl':ps.length=vs.length:=by simpa using hl
  unfold oM at h
  unfold cT
  have hlu:=cN hc
  split at h
  ·rename_i off _ sz l hf
   have hm:(fld.map fun x=>(x.1,x.2.2))[i]? =some (off,sz):=by simp[hf]
   rw[hm]
   split at h
   ·rename_i hq
    obtain⟨d1,d2⟩:=lO h
    obtain⟨d3,d4⟩:=lN d2
    obtain⟨us1,rfl,e2,e3⟩:=xZ h0
    have hq:=Nat.eq_of_beq_eq_true hq
    have hz:us1.length=sz:=by rw[cN e3,hq]
    obtain⟨l',us',r1,r2,r3⟩:=lP (ps:=ps) (vs:=vs) (us:=fE us off us1) (cells:=cells.take off++l++cells.drop (off+sz)) (by
     unfold fE
     rw[hz]
     exact lM (lM (jH _ hc) e3) (jG _ hc)) d4 hl' hp'
    refine⟨l',us',r1,?_,r3⟩
    simp only[e2]
    have b1:Nat.beq us1.length sz=true:=by simp[hz]
    have b2:Nat.ble (off+us1.length) us.length=true:=by simp[hz,hlu];omega
    rw[b1,b2]
    exact r2
   cases h
  ·rename_i off _ al hf
   have hm:(fld.map fun x=>(x.1,x.2.2))[i]? =some (off,1):=by simp[hf]
   rw[hm]
   split at h
   ·rename_i hlo
    obtain⟨d1,d2⟩:=lO h
    obtain⟨d3,d4⟩:=lN d2
    have e2:u.cells.toList=[u]:=by rw[jI (cs:=cs) h0 hlo]
    obtain⟨l',us',r1,r2,r3⟩:=lP (ps:=ps) (vs:=vs) (us:=fE us off [u]) (cells:=cells.take off++al::cells.drop (off+1)) (by
     unfold fE
     rw[List.append_assoc]
     refine lM (jH _ hc) ?_
     simp only[List.singleton_append,ARL]
     exact⟨h0,jG _ hc⟩) d4 hl' hp'
    refine⟨l',us',r1,?_,r3⟩
    simp only[e2]
    have b1:Nat.beq [u].length 1=true:=rfl
    have b2:Nat.ble (off+[u].length) us.length=true:=by simp[hlu];omega
    rw[b1,b2]
    exact r2
   cases h
  cases h
theorem jJ:∀{l:List AV}{r:List Tr}{us:List Value},gW l=some r→ARL W N cs l us→FRL W N r us
 | [],r,us,h,hu=>by
  simp[gW]at h
  subst h
  simpa[ARL,FRL]using hu
 | .t y::l,r,us,h,hu=>by
  simp only[gW]at h
  split at h
  ·rename_i r' hr
   injection h with h
   subst h
   cases us with
   | nil=>simp only[ARL]at hu
   | cons u us=>
    simp only[ARL,AR]at hu
    simp only[FRL]
    exact⟨hu.1,jJ hr hu.2⟩
  cases h
 | .sl .. ::_,_,_,h,_ | .pt .. ::_,_,_,h,_ | .ef .. ::_,_,_,h,_ | .fn .. ::_,_,_,h,_=>by simp[gW]at h
theorem Gt {f:Nat}{l l':List AV}{us vs:List Value}(h1:ARL W N cs l us) (h2:ARL W N cs l' vs):AR W N cs (Gp f l l') (.func (.func f) us.toArray vs.toArray):=by
 unfold Gp
 split
 ·rename_i r r' hr hr'
  simp only[AR,FR]
  exact⟨us,vs,rfl,jJ hr h1,jJ hr' h2⟩
 simp only[AR]
 exact⟨us,vs,rfl,h1,h2⟩
theorem nD {n:Nat}{g:Nat→FV}(hlk:∀o,aD W N cs (lk n g o) (ρ o)):∀{l:List Operand}{r:List AV},tX n g l=some r→ARL W N cs r (l.map ρ)
 | [],r,h=>by
  simp[tX]at h
  subst h
  simp[ARL]
 | o::l,r,h=>by
  unfold tX at h
  split at h
  ·rename_i a r' h1 h2
   simp at h
   subst h
   simp only[List.map_cons,ARL]
   have:=hlk o
   rw[h1]at this
   exact⟨this,nD hlk h2⟩
  ·rename_i c r' h1 h2
   split at h
   ·rename_i c' hc
    simp at h
    subst h
    have:=hlk o
    rw[h1]at this
    obtain⟨us,e,h3⟩:=this
    simp only[List.map_cons,ARL,AR,FR]
    exact⟨⟨us,e,jJ hc h3⟩,nD hlk h2⟩
   cases h
  cases h
theorem Gu {k:List AV→Ev}{l:List AV}(h:all l k=some (C,v)):k l=some (C,v):=nC h
theorem uA {n:Nat}{g:Nat→FV}{T:List (Nat×TI)}(hT:aQ P T) (hlk:∀o,aD W N cs (lk n g o) (ρ o)){o:Op}(h:lY T n g o=some (C,v)) (hC:C):eI P W N cs ρ ⟨d,o,ty,pos,af,gd⟩ v:=by
 unfold lY at h
 split at h
 ·exact Gq (hlk _) h
 ·exact Aw (hlk _) h
 ·exact Gr (hlk _) (hlk _) (hlk _) h
 ·split at h
  ·rename_i ht
   exact tJ (aV hT ht).2.2.2.1 (hlk _) h
  cases h
 ·split at h
  ·rename_i ht
   split at h
   ·rename_i hf
    split at h
    ·rename_i hi
     exact Ds (aV hT ht).2.2.2.1 hf (aV hT hi).1 (hlk _) h
    cases h
   cases h
  cases h
 ·exact Lk (hlk _) h
 ·split at h
  ·rename_i ht
   exact Ce (aV hT ht).2.2.2 (hlk _) (hlk _) h hC
  exact Ce (k:=.ot) trivial (hlk _) (hlk _) h hC
 ·exact Ll (hlk _) h hC
 ·split at h
  ·rename_i h1 h2
   exact Gs (aV hT h1).2.2.2 (aV hT h2).2.2.2 (hlk _) h hC
  cases h
 ·exact xY (hlk _) h
 ·split at h
  ·rename_i ht
   exact Lp (aV hT ht).2.2.2 (hlk _) (hlk _) h hC
  ·rename_i ht
   exact Jj (aV hT ht).2.2.2 (hlk _) (hlk _) h hC
  cases h
 ·split at h
  ·rename_i ht
   exact Lm (aV hT ht).2.2.2 (hlk _) (hlk _) h hC
  cases h
 ·split at h
  ·rename_i t ps _ ag sz z fld ht
   have hi:=aV hT ht
   obtain⟨l,us',h1,h2,h3⟩:=lP (W:=W) (N:=N) (cs:=cs) (us:=z) (vs:=ps.toList.map fun p=>(p.1,ρ p.2)) (tZ z) h (by simp) (fun j p q hp hq=>by
    simp only[List.getElem?_map,Option.map_eq_some_iff]at hp hq
    obtain⟨a,ha,rfl⟩:=hp
    obtain⟨b,hb,rfl⟩:=hq
    rw[ha]at hb
    injection hb with hb
    subst hb
    exact⟨rfl,hlk _⟩)
   have h4:=Gu h3
   obtain⟨rfl,rfl⟩:=pr h4
   refine⟨.agg us'.toArray,fun W'=>Ak hi.2.2.2.2 hi.2.2.1 (ps:=ps.toList.map fun p=>(p.1,ρ p.2)) (by apply Array.ext';simp only[Array.toList_map]) h2,us',rfl,h1⟩
  cases h
 ·split at h
  ·rename_i h1 h2
   obtain⟨rfl,rfl⟩:=pr h
   refine⟨_,fun W'=>tI (l1:=_) (l2:=_) (by apply Array.ext';simp only[Array.toList_map]) (by apply Array.ext';simp only[Array.toList_map]),Gt (nD hlk h1) (nD hlk h2)⟩
  cases h
 ·split at h
  ·rename_i ht
   exact Dt (aV hT ht).2.2.2 (hlk _) hlk h hC
  ·rename_i ht
   exact Ln (aV hT ht).2.2.2 (hlk _) hlk h hC
  cases h
 ·exact Jk (hlk _) (hlk _) h
 ·exact Jl (hlk _) (hlk _) h
 ·split at h
  ·rename_i ht
   split at h
   ·rename_i hm
    obtain⟨rfl,rfl⟩:=pr h
    exact Jm (aV hT ht).2.2.2 (hlk _) hm
   cases h
  ·rename_i ht
   exact Lo (aV hT ht).2.2.2 (hlk _) h
  cases h
 cases h
end
section
variable {x:Cx}{g g':Nat→FV}{ob ob':List (Option Ob)}{cs cs':List Co}{ts ts':Array Value}{W W':World}
theorem RelC.of {F:List Sh}(hs:ts.size=x.n) (hL:Loc x.M x.w W (aA ob cs) F) (ho:pQ W (x.fr W ob cs) cs ob) (hf:∀i,i<x.n→∃u,ts[i]? =some u∧aD W (x.fr W ob cs) cs (g i) u) (hi:Same x.c0 cs):RelC x g ob cs ts W:=
 ⟨hs,(hL.pickS []).read _ ⟨ho,hf⟩,hi⟩
theorem cZ (h:ob.length=cs.length):(aA ob cs).length=cs.length:=by simp[aA,h]
theorem aG {k:Nat}{o:Option Ob}(h:ob.length=cs.length) (hk:ob[k]? =some o):(aA ob cs)[k]? =some (aB o (co cs k)):=by
 have hlt:=(List.getElem?_eq_some_iff.1 hk).1
 have:cs[k]? =some cs[k]:=List.getElem?_eq_getElem (by omega)
 simp[aA,List.getElem?_zipWith,hk,this,co]
theorem RelC.res (h:RelC x g ob cs ts W){k:Nat}{o:Option Ob}(hk:ob[k]? =some o):(aB o (co cs k)).φ W:=h.2.get k (aG h.len hk)
theorem RelC.blk (h:RelC x g ob cs ts W){k b:Nat}{o:Ob}(hk:ob[k]? =some (some o)) (hb:(co cs k).b=some b):
  Blk W b o.t (bif Nat.beq o.z 0 then(co cs k).l.length else(co cs k).c*o.z) ((co cs k).l.map VT.val)∧VT.okL W (co cs k).l∧(co cs k).c≤maxLen:=by
 have:=h.res hk
 simpa only[aB,hb]using this
theorem RelC.crl (h:RelC x g ob cs ts W){k:Nat}{o:Ob}(hk:ob[k]? =some (some o)):aE W (x.fr W ob cs) cs o.l (co cs k).l:=(h.obs.2 k o hk).1
theorem gG {c:Co}{k:Nat}(h:k<cs.length):co (cs++[c]) k=co cs k:=by simp[co,List.getElem?_append_left h]
theorem dD {c:Co}:co (cs++[c]) cs.length=c:=by simp[co]
theorem Same.app {c:Co}:Same cs (cs++[c]):=⟨by simp,fun k hk=>by rw[gG hk];exact⟨rfl,rfl⟩⟩
def aZ (ob:List (Option Ob)) (cs:List Co):List Nat:=(aA ob cs).flatMap Res.S
theorem gX {b:Nat}(h:x.fr W ob cs b) (hs:W.heap.size≤W'.heap.size) (ho:∀b∈aZ ob' cs',b∈aZ ob cs∨W.heap.size≤b):x.fr W' ob' cs' b:=by
 refine⟨⟨Nat.lt_of_lt_of_le h.1.1 hs,fun hm=>?_⟩,h.2⟩
 rcases ho b hm with h1 | h1
 ·exact h.1.2 h1
 have:=h.1.1
 omega
theorem RelC.push (h:RelC x g ob cs ts W) (hb:Below W.heap.size W W') (o:Ob) (c:Co) (hφ:(aB (some o) c).φ W') (hS:∀b∈(aB (some o) c).S,W.heap.size≤b∧b<W'.heap.size) (hn:(aB (some o) c).S.Nodup)
  (hc:aE W' (x.fr W' (ob++[some o]) (cs++[c])) (cs++[c]) o.l c.l) (hz:c.b=none→o.l=[]∧o.z≠0):RelC x g (ob++[some o]) (cs++[c]) ts W':=by
 have hlen:=h.len
 have hr:aA (ob++[some o]) (cs++[c])=aA ob cs++[aB (some o) c]:=by
  unfold aA
  rw[List.zipWith_append hlen]
  rfl
 have hL:Loc x.M x.w W' (aA (ob++[some o]) (cs++[c])) []:=by
  rw[hr]
  exact(((h.2.push hb hφ hS hn).pickS [])).perm (List.perm_append_comm (l₁:=[aB (some o) c]))
 have hown:∀b∈aZ (ob++[some o]) (cs++[c]),b∈aZ ob cs∨W.heap.size≤b:=by
  intro b hb
  unfold aZ at hb
  rw[hr,List.flatMap_append,List.mem_append]at hb
  rcases hb with hb | hb
  ·exact .inl hb
  refine .inr (hS b ?_).1
  simpa using hb
 have hk:∀b,x.fr W ob cs b→W'.heap[b]? =W.heap[b]? :=fun b h=>hb.block b h.1.1
 have hN:∀b,x.fr W ob cs b→x.fr W' (ob++[some o]) (cs++[c]) b:=fun b h=>gX h hb.size hown
 refine .of h.1 hL ⟨by simp[hlen],fun k o' hk'=>?_⟩ (fun i hi=>?_) (h.3.trans .app)
 ·rw[List.getElem?_append]at hk'
  split at hk'
  ·rename_i hlt
   have h1:=h.obs.2 k o' hk'
   rw[gG (by omega)]
   exact⟨bB hk hN .app _ _ h1.1,h1.2⟩
  rename_i hge
  have e:k=ob.length:=by
   have:=(List.getElem?_eq_some_iff.1 hk').1
   simp at this
   omega
  subst e
  simp at hk'
  subst hk'
  rw[hlen,dD]
  exact⟨hc,hz⟩
 obtain⟨u,h1,h2⟩:=h.fv hi
 exact⟨u,h1,cA hk hN .app _ _ h2⟩
structure Aft (Wr:List Nat) (d:Option Nat) (ob:List (Option Ob)) (cs:List Co) (ts:Array Value) (W:World) (ob':List (Option Ob)) (cs':List Co) (ts':Array Value) (W':World):Prop where
 same:Same cs cs'
 un:∀k,k∉Wr→k<cs.length→co cs' k=co cs k
 size:W.heap.size≤W'.heap.size
 keep:∀b,b<W.heap.size→(∀k∈Wr,∀o,ob[k]? =some o→b∉(aB o (co cs k)).S)→W'.heap[b]? =W.heap[b]?
 own:∀b∈aZ ob' cs',b∈aZ ob cs∨W.heap.size≤b
 fr:∀i,d≠some i→ts'[i]? =ts[i]?
def OS (x:Cx) (o:Oper) (g:Nat→FV) (ob:List (Option Ob)) (Wr:List Nat) (R:(Nat→FV)→List (Option Ob)→Prop):Prop:=
 ∀cs ts W,RelC x g ob cs ts W→∀(K:Act→World→Prop) (Q:Exit→Act→World→Prop),
  (∀g' ob' cs' ts' W',R g' ob'→RelC x g' ob' cs' ts' W'→Aft Wr o.dst ob cs ts W ob' cs' ts' W'→K ⟨ts',[]⟩ W')→o.wp x.P ⟨ts,[]⟩ W K Q
theorem Aft.put (d:Nat) (u:Value):Aft [] (some d) ob cs ts W ob cs (ts.setIfInBounds d u) W:=
 ⟨.refl,fun _ _ _=>rfl,Nat.le_refl _,fun _ _ _=>rfl,fun _ h=>.inl h,fun i hi=>Array.getElem?_setIfInBounds_ne (fun e=>hi (by rw[e]))⟩
variable {d:Nat}{ty:TypeId}{pos:String}{af:Array Edge}{gd:Option (Nat×Bool)}{T:List (Nat×TI)}
theorem rK {o:Op}{v:FV}(h:∀cs ts W,RelC x g ob cs ts W→eI x.P W (x.fr W ob cs) cs (Act.eval ⟨ts,[]⟩) ⟨some d,o,ty,pos,af,gd⟩ v):
  OS x ⟨some d,o,ty,pos,af,gd⟩ g ob [] (fun g' ob'=>g'=aI g d v∧ob'=ob):=by
 intro cs ts W hR K Q k
 obtain⟨u,hrun,hv⟩:=h cs ts W hR
 exact bN (hrun W) (k _ _ _ _ _ ⟨rfl,rfl⟩ (hR.put d hv) (.put d u))
theorem Gv (hT:aQ x.P T){o:Op}{C:Prop}{v:FV}(h:lY T x.n g o=some (C,v)) (hC:C):OS x ⟨some d,o,ty,pos,af,gd⟩ g ob [] (fun g' ob'=>g'=aI g d v∧ob'=ob):=
 rK fun _ _ _ hR=>uA hT hR.lk h hC
def iL:AV→Bool
 | .t (.s true _ _ _ _)=>false
 | .t (.p true _ _)=>false
 | _=>true
def dX:List AV→Bool
 | []=>true
 | a::l=>iL a&&dX l
def rL (l:List AV) (v:FV):Ev:=match dX l with
 | true=>ev v
 | false=>none
def Gw (i:TI) (o:Nat) (l:List AV):Ev:=dp o l fun l=>match i.agg with
 | true=>tk i.size l fun r=>rL r (.agg r)
 | false=>match l with
  | a::_=>rL [a] (.one a)
  | []=>none
def aY (ob:List (Option Ob)) (k:Nat):Option Ob:=match ob[k]? with
 | some (some o)=>some o
 | _=>none
theorem bI {k:Nat}{o:Ob}(h:aY ob k=some o):ob[k]? =some (some o):=by
 unfold aY at h
 split at h
 ·rename_i h1
  injection h with h
  rw[h1,h]
 cases h
def rM (ob:List (Option Ob)) (i:TI):FV→Ev
 | .one (.pt k o)=>match aY ob k with
  | some b=>Gw i o b.l
  | none=>none
 | _=>none
theorem nE {N:Nat→Prop}:∀{a:AV}{y:VT},CR W N cs a y→iL a=true→AR W N cs a y.val
 | .t (.v w),y,h,_=>by
  simp only[CR,OR]at h
  subst h
  simp[AR,FR,VT.val]
 | .t (.s false t z n l),.w u,h,_=>by
  simp only[CR,OR]at h
  rcases h with⟨h,_⟩ | ⟨_,h⟩
  ·cases h
  simpa only[AR,VT.val]using h
 | .t (.s false ..),.s ..,h,_=>by
  simp only[CR,OR]at h
  cases h.1
 | .t (.s _ ..),.p ..,h,_=>by simp only[CR,OR]at h
 | .t (.s true ..),_,_,h=>by simp[iL]at h
 | .t (.p true ..),_,_,h=>by simp[iL]at h
 | .t (.p false t l),.w u,h,_=>by
  simp only[CR,OR]at h
  simpa only[AR,VT.val]using h.2
 | .t (.p false ..),.p ..,h,_=>by
  simp only[CR,OR]at h
  cases h.1
 | .t (.p _ ..),.s ..,h,_=>by simp only[CR,OR]at h
 | .t (.f ..),.w u,h,_ | .t (.a ..),.w u,h,_=>by
  simp only[CR,OR]at h
  simpa only[AR,VT.val]using h
 | .t (.f ..),.s ..,h,_ | .t (.f ..),.p ..,h,_ | .t (.a ..),.s ..,h,_ | .t (.a ..),.p ..,h,_=>by simp only[CR,OR]at h
 | .sl ..,.w u,h,_ | .pt ..,.w u,h,_ | .ef ..,.w u,h,_ | .fn ..,.w u,h,_=>by simpa only[CR,VT.val]using h
 | .sl ..,.s ..,h,_ | .sl ..,.p ..,h,_ | .pt ..,.s ..,h,_ | .pt ..,.p ..,h,_ | .ef ..,.s ..,h,_ | .ef ..,.p ..,h,_ | .fn ..,.s ..,h,_ | .fn ..,.p ..,h,_=>by simp only[CR]at h
theorem kJ {N:Nat→Prop}:∀{l:List AV}{l':List VT},aE W N cs l l'→dX l=true→ARL W N cs l (l'.map VT.val)
 | [],l',h,_=>by
  simp only[aE]at h
  simp[h,ARL]
 | a::l,y::l',h,hr=>by
  simp only[aE]at h
  simp only[dX,Bool.and_eq_true]at hr
  simp only[List.map_cons,ARL]
  exact⟨nE h.1 hr.1,kJ h.2 hr.2⟩
 | _::_,[],h,_=>by simp only[aE]at h
theorem gH {N:Nat→Prop}:∀{l:List AV}{us:List VT}(j:Nat),aE W N cs l us→aE W N cs (l.drop j) (us.drop j)
 | [],us,j,h=>by
  simp only[aE]at h
  subst h
  simp[aE]
 | b::l,u::us,0,h=>h
 | b::l,u::us,j+1,h=>by
  simp only[aE]at h
  simpa using gH j h.2
 | _::_,[],_,h=>by simp only[aE]at h
theorem eV {N:Nat→Prop}:∀{l:List AV}{us:List VT}(j:Nat),aE W N cs l us→aE W N cs (l.take j) (us.take j)
 | [],us,j,h=>by
  simp only[aE]at h
  subst h
  simp[aE]
 | b::l,u::us,0,h=>by simp[aE]
 | b::l,u::us,j+1,h=>by
  simp only[aE]at h
  simp only[List.take_succ_cons,aE]
  exact⟨h.1,eV j h.2⟩
 | _::_,[],_,h=>by simp only[aE]at h
theorem uC {l:List AV}{w v:FV}{C:Prop}(h:rL l w=some (C,v)):dX l=true∧v=w:=by
 unfold rL at h
 split at h
 ·rename_i e
  exact⟨e,(pr h).2.symm⟩
 cases h
def Gx (P:Program) (W:World) (N:Nat→Prop) (cs:List Co) (ρ:Operand→Value) (o:Oper) (b:Nat) (v:FV):Prop:=∃u,(∀W',W'.heap[b]? =W.heap[b]? →(execOp ρ o).run P W'=.ok (.value u) W')∧aD W N cs v u
theorem kK {b t m o:Nat}{vs us:List Value}(h:Blk W b t m vs) (hu:(vs.drop o).take us.length=us):jD W ⟨b,o,none⟩ us:=by
 intro j u hj
 have hlt:=(List.getElem?_eq_some_iff.1 hj).1
 have e:vs[o+j]? =some u:=by
  rw[←hu]at hj
  rw[List.getElem?_take,if_pos hlt,List.getElem?_drop]at hj
  exact hj
 have:=gD h e
 rw[dK]at this
 rw[dK]
 simpa using this
theorem uD (hT:aQ x.P T){t:Nat}{i:TI}{a:Operand}(hi:aF T t=some i){C:Prop}{v:FV}(h:rM ob i (lk x.n g a)=some (C,v)) (hR:RelC x g ob cs ts W){o:Oper}(ho:o.op=.load t a):
  ∃k o' b,lk x.n g a=.one (.pt k o')∧(co cs k).b=some b∧Gx x.P W (x.fr W ob cs) cs (Act.eval ⟨ts,[]⟩) o b v:=by
 unfold rM at h
 split at h
 ·rename_i k off hlk
  split at h
  ·rename_i b0 hb0
   have hk:=bI hb0
   have hp:=hR.lk a
   rw[hlk]at hp
   simp only[aD,aJ,AR]at hp
   obtain⟨b,hb,e⟩:=hp
   refine⟨k,off,b,hlk,hb,?_⟩
   obtain⟨k1,_,_⟩:=hR.blk hk hb
   have hcl:=hR.crl hk
   obtain⟨d1,d2⟩:=lO h
   have hty:=(aV hT hi).1
   obtain⟨od,oop,oty,opos,oaf,ogd⟩:=o
   subst ho
   split at d2
   ·rename_i hag
    obtain⟨d3,d4⟩:=lN d2
    obtain⟨d5,rfl⟩:=uC d4
    rw[hag]at hty
    have hcl2:=kJ (eV i.size (gH off hcl)) d5
    rw[List.map_take,List.map_drop]at hcl2
    have hl:=cN hcl2
    have hl2:((((co cs k).l.map VT.val).drop off).take i.size).length=i.size:=by rw[hl,List.length_take];omega
    refine⟨_,fun W' hW'=>rB hty e (kK (k1.keep hW') (us:=(((co cs k).l.map VT.val).drop off).take i.size) (by rw[hl2])) hl2,_,rfl,hcl2⟩
   rename_i hag
   split at d2
   ·rename_i a0 r hb'
    obtain⟨d5,rfl⟩:=uC d2
    rw[hag]at hty
    have hcl2:=kJ (eV 1 (gH off hcl)) (by rw[hb'];exact d5)
    rw[List.map_take,List.map_drop,hb']at hcl2
    have hl:=cN hcl2
    cases hu:((((co cs k).l.map VT.val).drop off).take 1)with
    | nil=>
     rw[hu]at hl
     simp at hl
    | cons u us=>
     rw[hu]at hcl2 hl
     have:us=[]:=by simpa using hl
     subst this
     simp only[List.take_succ_cons,List.take_zero,ARL]at hcl2
     exact⟨u,fun W' hW'=>rC hty.1 e (kK (k1.keep hW') (us:=[u]) (by simpa using hu)),hcl2.1⟩
   cases d2
  cases h
 cases h
theorem Cf (hT:aQ x.P T){t:Nat}{i:TI}{a:Operand}(hi:aF T t=some i){C:Prop}{v:FV}(h:rM ob i (lk x.n g a)=some (C,v)):OS x ⟨some d,.load t a,ty,pos,af,gd⟩ g ob [] (fun g' ob'=>g'=aI g d v∧ob'=ob):=by
 intro cs ts W hR K Q k
 obtain⟨_,_,b,_,_,u,hrun,hv⟩:=uD hT hi h hR (o:=⟨some d,.load t a,ty,pos,af,gd⟩) rfl
 exact bN (hrun W rfl) (k _ _ _ _ _ ⟨rfl,rfl⟩ (hR.put d hv) (.put d u))
theorem kL {N:Nat→Prop}{ad:Addr}:∀{us:List Tr}{l:List Tr}{o:Nat},FRc W N ad 0 l→(l.drop o).take us.length=us→∃vs,vs.length=us.length∧jD W (ad.add o) vs∧ARL W N cs (us.map .t) vs
 | [],l,o,_,_=>⟨[],rfl,fun j u h=>by simp at h,by simp[ARL]⟩
 | y::us,l,o,h,e=>by
  have e0:l[o]? =some y:=by
   have:=congrArg (·[0]?) e
   simpa[List.getElem?_take,List.getElem?_drop]using this
  have e1:(l.drop (o+1)).take us.length=us:=by
   have:=congrArg (·.drop 1) e
   simpa[List.drop_take,List.drop_drop,Nat.add_comm]using this
  obtain⟨u,h1,h2⟩:=iK h e0
  rw[Nat.zero_add]at h1
  obtain⟨vs,v1,v2,v3⟩:=kL (us:=us) h e1
  refine⟨u::vs,by simp[v1],fun j w hj=>?_,?_⟩
  ·cases j with
   | zero=>
    simp at hj
    subst hj
    rw[qN]
    exact h1
   | succ j=>
    have:=v2 j w (by simpa using hj)
    rw[iH]at this⊢
    rwa[show o+(j+1)=o+1+j by omega]
  simp only[List.map_cons,ARL]
  exact⟨by simpa only[AR]using h2,v3⟩
def rN (i:TI) (us:List Tr):Option FV:=match i.agg with
 | true=>match Nat.beq us.length i.size with
  | true=>some (.agg (us.map .t))
  | false=>none
 | false=>match us with
  | [y]=>some (.one (.t y))
  | _=>none
theorem uE (hT:aQ x.P T){t:Nat}{i:TI}{a:Operand}(hi:aF T t=some i){l us:List Tr}{of:Nat}{v:FV}{N:Nat→Prop}(h:lk x.n g a=.one (.ef l of)) (hl:(l.drop of).take us.length=us) (hv:rN i us=some v) (hR:aD W N cs (lk x.n g a) (Act.eval ⟨ts,[]⟩ a)){o:Oper}(ho:o.op=.load t a):
  ∃b,N b∧Gx x.P W N cs (Act.eval ⟨ts,[]⟩) o b v:=by
 have hp:=hR
 rw[h]at hp
 simp only[aD,aJ,AR]at hp
 obtain⟨ad,h1,h2,e⟩:=hp
 refine⟨ad.block,h1,?_⟩
 obtain⟨vs,v1,v2,v3⟩:=kL (cs:=cs) h2 hl
 have hty:=(aV hT hi).1
 obtain⟨od,oop,oty,opos,oaf,ogd⟩:=o
 subst ho
 have hck:∀W':World,W'.heap[ad.block]? =W.heap[ad.block]? →jD W' (ad.add of) vs:=fun W' hW' j u hj=>by
  rw[←v2 j u hj]
  apply World.cell?_of_block
  rw[cL,cL]
  exact hW'
 unfold rN at hv
 split at hv
 ·rename_i hag
  split at hv
  ·rename_i hq
   injection hv with hv
   subst hv
   rw[hag]at hty
   exact⟨_,fun W' hW'=>rB hty e (hck W' hW') (by rw[v1];exact Nat.eq_of_beq_eq_true hq),vs,rfl,v3⟩
  cases hv
 rename_i hag
 split at hv
 ·rename_i y
  injection hv with hv
  subst hv
  rw[hag]at hty
  match vs,v1 with
  | [u],_=>
   simp only[List.map_cons,List.map_nil,ARL]at v3
   exact⟨u,fun W' hW'=>rC hty.1 e (hck W' hW'),v3.1⟩
 cases hv
theorem Gy (hT:aQ x.P T){t:Nat}{i:TI}{a:Operand}(hi:aF T t=some i){l us:List Tr}{of:Nat}{v:FV}(h:lk x.n g a=.one (.ef l of)) (hl:(l.drop of).take us.length=us) (hv:rN i us=some v):OS x ⟨some d,.load t a,ty,pos,af,gd⟩ g ob [] (fun g' ob'=>g'=aI g d v∧ob'=ob):=by
 intro cs ts W hR K Q k
 obtain⟨b,_,u,hrun,hv⟩:=uE hT hi h hl hv (hR.lk a) (o:=⟨some d,.load t a,ty,pos,af,gd⟩) rfl
 exact bN (hrun W rfl) (k _ _ _ _ _ ⟨rfl,rfl⟩ (hR.put d hv) (.put d u))
end
theorem eB:∀(a b:List VT),VT.fpL (a++b)=VT.fpL a++VT.fpL b
 | [],b=>by simp[VT.fpL]
 | y::a,b=>by simp[VT.fpL,eB a b]
theorem eO:∀(us:List Value),VT.fpL (us.map .w)=[]
 | []=>by simp[VT.fpL]
 | u::us=>by simp[VT.fpL,VT.fp,eO us]
theorem rO:∀(l:List VT) (n:Nat),(VT.fpL (l.drop n)).Sublist (VT.fpL l)
 | [],n=>by simp
 | y::l,0=>by simp
 | y::l,n+1=>by
  simp only[List.drop_succ_cons,VT.fpL]
  exact(rO l n).trans (List.sublist_append_right _ _)
theorem eW {W:World}:∀(a b:List VT),VT.okL W (a++b)↔VT.okL W a∧VT.okL W b
 | [],b=>by simp[VT.okL]
 | y::a,b=>by simp[VT.okL,eW a b,and_assoc]
theorem jK {W:World}:∀(us:List Value),VT.okL W (us.map .w)
 | []=>by simp[VT.okL]
 | u::us=>by simp[VT.okL,VT.ok,jK us]
theorem rP {W:World}:∀(l:List VT) (n:Nat),VT.okL W l→VT.okL W (l.drop n)
 | [],n,h=>by simpa using h
 | y::l,0,h=>h
 | y::l,n+1,h=>by
  simp only[VT.okL]at h
  exact rP l n h.2
theorem mJ {W:World}:∀(l:List VT) (n:Nat),VT.okL W l→VT.okL W (l.take n)
 | [],n,h=>by simpa using h
 | y::l,0,h=>by simp[VT.okL]
 | y::l,n+1,h=>by
  simp only[VT.okL]at h
  simp only[List.take_succ_cons,VT.okL]
  exact⟨h.1,mJ l n h.2⟩
theorem jL (us:List Value):(us.map VT.w).map VT.val=us:=by
 induction us with
 | nil=>rfl
 | cons u us ih=>simp[VT.val,ih]
theorem Loc.conv {M:List Nat}{w W:World}{L L':List Res}{F:List Sh}(h:Loc M w W L F) (hp:List.Perm (L.flatMap Res.S) (L'.flatMap Res.S)) (hφ:(∀r∈L,r.φ W)→∀r∈L',r.φ W):Loc M w W L' F:=
 ⟨h.chg,hφ h.res,fun b hb=>h.blk b (hp.mem_iff.2 hb),(hp.nodup_iff).1 h.nd,fun q hq=>q.mono _ _ _ (fun b hb=>⟨hb.1,fun hm=>hb.2 (hp.mem_iff.2 hm)⟩) (h.shr q hq)⟩
theorem Loc.nd1 {M:List Nat}{w W:World}{L:List Res}{F:List Sh}(h:Loc M w W L F){r:Res}(hr:r∈L):r.S.Nodup:=by
 have hnd:List.Pairwise (· ≠ ·) (L.flatMap Res.S):=h.nd
 rw[List.pairwise_flatMap]at hnd
 exact hnd.1 r hr
section
variable {x:Cx}{g g':Nat→FV}{ob ob':List (Option Ob)}{cs cs':List Co}{ts ts':Array Value}{W W':World}
theorem kM {c:Co}{k:Nat}(hk:k<cs.length) (j:Nat):co (cs.set k c) j=if j=k then c else co cs j:=by
 unfold co
 by_cases e:j=k
 ·subst e
  simp[hk]
 rw[if_neg e,List.getElem?_set_ne (fun h=>e h.symm)]
theorem gI {k:Nat}{o:Option Ob}{c:Co}:aA (ob.set k o) (cs.set k c)=(aA ob cs).set k (aB o c):=by
 unfold aA
 induction ob generalizing cs k with
 | nil=>simp
 | cons a ob ih=>
  cases cs with
  | nil=>simp
  | cons b cs=>
   cases k with
   | zero=>simp
   | succ k=>simp[ih]
theorem RelC.upd (h:RelC x g ob cs ts W){k:Nat}{o:Ob}(hk:ob[k]? =some (some o)) (o':Ob) (c':Co) (hc:Chg (aB (some o) (co cs k)).S W W') (hb:c'.b=(co cs k).b) (hcc:c'.c=(co cs k).c) (hφ:(aB (some o') c').φ W')
  (hS:∀b∈(aB (some o') c').S,b∈(aB (some o) (co cs k)).S∨(W.heap.size≤b∧b<W'.heap.size)) (hn:(aB (some o') c').S.Nodup)
  (hcr:(∀b,x.fr W ob cs b→W'.heap[b]? =W.heap[b]?)→(∀b,x.fr W ob cs b→x.fr W' (ob.set k (some o')) (cs.set k c') b)→Same cs (cs.set k c')→aE W' (x.fr W' (ob.set k (some o')) (cs.set k c')) (cs.set k c') o'.l c'.l) (hz:c'.b=none→o'.l=[]∧o'.z≠0):
  RelC x g (ob.set k (some o')) (cs.set k c') ts W'∧∀d,Aft [k] d ob cs ts W (ob.set k (some o')) (cs.set k c') ts W':=by
 have hlen:=h.len
 have hkl:k<cs.length:=by
  have:=(List.getElem?_eq_some_iff.1 hk).1
  omega
 have hL:Loc x.M x.w W' (aA (ob.set k (some o')) (cs.set k c')) [(Cd x.n g ob cs ts).on x.NN]:=by
  rw[gI]
  exact h.2.set k (aG hlen hk) hc hφ hS hn
 have hown:∀b∈aZ (ob.set k (some o')) (cs.set k c'),b∈aZ ob cs∨W.heap.size≤b:=by
  intro b hb
  unfold aZ at hb
  rw[gI]at hb
  obtain⟨r,hr,hbr⟩:=List.mem_flatMap.1 hb
  rcases List.mem_or_eq_of_mem_set hr with hr | rfl
  ·exact .inl (List.mem_flatMap.2 ⟨r,hr,hbr⟩)
  rcases hS b hbr with h1 | h1
  ·exact .inl (List.mem_flatMap.2 ⟨_,List.mem_of_getElem? (aG hlen hk),h1⟩)
  exact .inr h1.1
 have hkeep:∀b,x.fr W ob cs b→W'.heap[b]? =W.heap[b]? :=fun b hb=>hc.block b hb.1.1 (fun hm=>hb.1.2 (List.mem_flatMap.2 ⟨_,List.mem_of_getElem? (aG hlen hk),hm⟩))
 have hN:∀b,x.fr W ob cs b→x.fr W' (ob.set k (some o')) (cs.set k c') b:=fun b h=>gX h hc.size hown
 have hsame:Same cs (cs.set k c'):=⟨by simp,fun j hj=>by
  rw[kM hkl]
  split
  ·rename_i e
   subst e
   exact⟨hb,hcc⟩
  exact⟨rfl,rfl⟩⟩
 refine⟨.of h.1 hL ⟨by simp[hlen],fun j o2 hj=>?_⟩ (fun i hi=>?_) (h.3.trans hsame),fun d=>⟨hsame,fun j hj _=>by rw[kM hkl,if_neg (by simpa using hj)],hc.size,fun b hb hne=>hc.block b hb (hne k (by simp) _ hk),hown,fun _ _=>rfl⟩⟩
 ·rw[List.getElem?_set]at hj
  split at hj
  ·rename_i e
   subst e
   split at hj
   ·injection hj with hj
    injection hj with hj
    subst hj
    rw[kM hkl,if_pos rfl]
    exact⟨hcr hkeep hN hsame,hz⟩
   cases hj
  rename_i e
  have h1:=h.obs.2 j o2 hj
  rw[kM hkl,if_neg (fun h=>e h.symm)]
  exact⟨bB hkeep hN hsame _ _ h1.1,h1.2⟩
 obtain⟨u,h1,h2⟩:=h.fv hi
 exact⟨u,h1,cA hkeep hN hsame _ _ h2⟩
theorem Aft.then_put {Wr:List Nat}{d:Nat}{ts0:Array Value}(h:Aft Wr (some d) ob cs ts0 W ob' cs' ts W') (u:Value):Aft Wr (some d) ob cs ts0 W ob' cs' (ts.setIfInBounds d u) W':=
 ⟨h.same,h.un,h.size,h.keep,h.own,fun i hi=>(Array.getElem?_setIfInBounds_ne (fun e=>hi (by rw[e]))).trans (h.fr i hi)⟩
theorem wH {N:Nat→Prop}:∀{a:AV}{u:Value},AR W N cs a u→iL a=true→CR W N cs a (.w u)
 | .t (.v w),u,h,_=>by
  simp only[AR,FR]at h
  simp only[CR,OR,h]
 | .t (.s false t z n l),u,h,_=>by
  simp only[AR]at h
  simp only[CR,OR]
  exact .inr ⟨trivial,h⟩
 | .t (.s true ..),_,_,h=>by simp[iL]at h
 | .t (.p true ..),_,_,h=>by simp[iL]at h
 | .t (.p false t l),u,h,_=>by
  simp only[AR]at h
  simp only[CR,OR]
  exact⟨trivial,h⟩
 | .t (.f ..),u,h,_ | .t (.a ..),u,h,_=>by
  simp only[AR]at h
  simpa only[CR,OR]using h
 | .sl ..,u,h,_ | .pt ..,u,h,_ | .ef ..,u,h,_ | .fn ..,u,h,_=>by simpa only[CR]using h
theorem iM {N:Nat→Prop}:∀{l:List AV}{us:List Value},ARL W N cs l us→dX l=true→aE W N cs l (us.map .w)
 | [],us,h,_=>by
  simp only[ARL]at h
  simp[h,aE]
 | a::l,u::us,h,hr=>by
  simp only[ARL]at h
  simp only[dX,Bool.and_eq_true]at hr
  simp only[List.map_cons,aE]
  exact⟨wH h.1 hr.1,iM h.2 hr.2⟩
 | _::_,[],h,_=>by simp only[ARL]at h
theorem lQ {N:Nat→Prop}:∀{l l':List AV}{us us':List VT},aE W N cs l us→aE W N cs l' us'→aE W N cs (l++l') (us++us')
 | [],l',us,us',h,h'=>by
  simp only[aE]at h
  subst h
  simpa using h'
 | b::l,l',u::us,us',h,h'=>by
  simp only[aE]at h
  simp only[List.cons_append,aE]
  exact⟨h.1,lQ h.2 h'⟩
 | _::_,_,[],_,h,_=>by simp only[aE]at h
def mK:FV→Option (List AV)
 | .one a=>match lone a&&iL a with
  | true=>some [a]
  | false=>none
 | .agg l=>match dX l with
  | true=>some l
  | false=>none
 | _=>none
def bZ:List AV→Bool
 | []=>true
 | a::l=>lone a&&bZ l
theorem Az {N:Nat→Prop}{al:AV}{u:Value}(h:AR W N cs al u) (hl:lone al=true):u.oneCell'=true:=by
 cases al with
 | t y=>
  cases y with
  | v w=>
   simp only[AR,FR]at h
   subst h
   cases u <;> first | rfl | (simp[lone]at hl)
  | s o t z n l=>
   simp only[AR,FR]at h
   obtain⟨A,c,rfl,_⟩:=h
   rfl
  | p o t l=>
   simp only[AR,FR]at h
   obtain⟨A,rfl,_⟩:=h
   rfl
  | f g l0 l=>
   simp only[AR,FR]at h
   obtain⟨A,B,rfl,_⟩:=h
   rfl
  | a l=>simp[lone]at hl
 | sl k o n=>
  simp only[AR]at h
  replace h:=h.2
  split at h
  ·obtain⟨_,_,rfl⟩:=h
   rfl
  obtain⟨_,_,rfl,_⟩:=h
  rfl
 | pt k o=>
  simp only[AR]at h
  obtain⟨_,_,rfl⟩:=h
  rfl
 | ef l o=>
  simp only[AR]at h
  obtain⟨_,_,_,rfl⟩:=h
  rfl
 | fn f a b=>
  simp only[AR]at h
  obtain⟨_,_,rfl,_⟩:=h
  rfl
theorem gY {N:Nat→Prop}:∀{l:List AV}{us:List Value},ARL W N cs l us→bZ l=true→∀u∈us,u.oneCell'=true
 | [],us,h,_=>by
  simp only[ARL]at h
  simp[h]
 | a::l,u::us,h,hr=>by
  simp only[ARL]at h
  simp only[bZ,Bool.and_eq_true]at hr
  intro v hv
  rcases List.mem_cons.1 hv with rfl | hv
  ·exact Az h.1 hr.1
  exact gY h.2 hr.2 v hv
 | _::_,[],h,_=>by simp only[ARL]at h
theorem Du {N:Nat→Prop}{fv:FV}{l:List AV}{u:Value}(h:mK fv=some l) (hv:aD W N cs fv u):∃us,u.cells=us.toArray∧ARL W N cs l us∧dX l=true:=by
 unfold mK at h
 split at h
 ·split at h
  ·rename_i a e
   rw[Bool.and_eq_true]at e
   injection h with h
   subst h
   refine⟨[u],jI (cs:=cs) hv e.1,?_,by simp[dX,e.2]⟩
   simp only[ARL,and_true]
   exact hv
  cases h
 ·split at h
  ·rename_i e
   injection h with h
   subst h
   obtain⟨us,rfl,h2⟩:=hv
   exact⟨us,rfl,h2,e⟩
  cases h
 cases h
end
section
variable {x:Cx}{g g':Nat→FV}{ob ob':List (Option Ob)}{cs cs':List Co}{ts ts':Array Value}{W W':World}{d:Nat}{ty:TypeId}{pos:String}{af:Array Edge}{gd:Option (Nat×Bool)}{T:List (Nat×TI)}
theorem kN:∀(us:List Value),dX (us.map tv)=true
 | []=>rfl
 | u::us=>by
  simp only[List.map_cons,dX,Bool.and_eq_true]
  exact⟨rfl,kN us⟩
theorem RelC.made (h:RelC x g ob cs ts W){t z c:Nat}{l:List AV}{us:List Value}(hl:ARL W (x.fr W ob cs) cs l us) (hr:dX l=true) (hm:us.length=bif Nat.beq z 0 then us.length else c*z) (hc:c≤maxLen):
  RelC x g (ob++[some ⟨t,z,l⟩]) (cs++[⟨some W.heap.size,c,us.map .w⟩]) ts (W.alloc (.cells us.toArray t))∧∀d,Aft [] d ob cs ts W (ob++[some ⟨t,z,l⟩]) (cs++[⟨some W.heap.size,c,us.map .w⟩]) ts (W.alloc (.cells us.toArray t)):=by
 have hb:=xS W (.cells us.toArray t)
 have hS:∀b∈(aB (some ⟨t,z,l⟩) ⟨some W.heap.size,c,us.map .w⟩).S,W.heap.size≤b∧b<(W.alloc (.cells us.toArray t)).heap.size:=by
  intro b hb
  simp[aB,eO]at hb
  subst hb
  simp
 have hown:∀b∈aZ (ob++[some ⟨t,z,l⟩]) (cs++[⟨some W.heap.size,c,us.map .w⟩]),b∈aZ ob cs∨W.heap.size≤b:=by
  intro b hb
  unfold aZ aA at hb
  rw[List.zipWith_append h.len,List.flatMap_append,List.mem_append]at hb
  rcases hb with hb | hb
  ·exact .inl hb
  exact .inr (hS b (by simpa using hb)).1
 refine⟨h.push hb _ _ ?_ hS (by simp[aB,eO]) ?_ (fun e=>by cases e),fun d=>⟨.app,fun k _ hk=>gG hk,hb.size,fun b hlt _=>hb.block b hlt,hown,fun _ _=>rfl⟩⟩
 ·simp only[aB,List.length_map,jL]
  refine⟨⟨[],by simpa using heap_alloc_new W _,by simpa using hm⟩,jK us,hc⟩
 exact iM (ARL_keep (fun b h=>hb.block b h.1.1) (fun b h=>gX h hb.size hown) .app _ _ hl) hr
def dS (ob:List (Option Ob)) (k:Nat):Bool:=Nat.beq ob.length k
def Cg {α β:Type}:List α→α→(List α→Option β)→Option β
 | [],a,k=>k [a]
 | b::l,a,k=>Cg l a fun r=>k (b::r)
theorem rQ {α β:Type}:∀{l:List α}{a:α}{k:List α→Option β}{r:β},Cg l a k=some r→k (l++[a])=some r
 | [],a,k,r,h=>h
 | b::l,a,k,r,h=>rQ (l:=l) (k:=fun r=>k (b::r)) h
def zF {β:Type}:List Value→(List AV→Option β)→Option β
 | [],k=>k []
 | v::l,k=>zF l fun r=>k (tv v::r)
theorem Ch {β:Type}:∀{l:List Value}{k:List AV→Option β}{r:β},zF l k=some r→k (l.map tv)=some r
 | [],k,r,h=>h
 | b::l,k,r,h=>Ch (l:=l) (k:=fun r=>k (tv b::r)) h
def wI (T:List (Nat×TI)) (t k:Nat) (ob:List (Option Ob)):Option (List (Option Ob)):=match dS ob k with
 | true=>match aF T t with
  | some i=>zF i.zero fun l=>Cg ob (some ⟨t,0,l⟩) some
  | none=>none
 | false=>none
theorem Jn (hT:aQ x.P T){t k:Nat}(h:wI T t k ob=some ob'):OS x ⟨some d,.alloc t,ty,pos,af,gd⟩ g ob [] (fun g' ob2=>g'=aI g d (.one (.pt k 0))∧ob2=ob'):=by
 unfold wI at h
 split at h
 ·rename_i hk
  split at h
  ·rename_i i hi
   have h:=Ch h
   have h:=rQ h
   injection h with h
   subst h
   obtain⟨j,v,h1,h2,h3⟩:=(aV hT hi).2.2.1
   have hk:=Nat.eq_of_beq_eq_true hk
   subst hk
   intro cs ts W hR K Q kk
   have hrun:(execOp (Act.eval ⟨ts,[]⟩) ⟨some d,.alloc t,ty,pos,af,gd⟩).run x.P W=.ok (.value (.pointer (some ⟨W.heap.size,0,none⟩))) (W.alloc (.cells i.zero.toArray t)):=by
    simp[execOp,Instr.alloc,zeroValue,typeInfo,h1,h2,newVar,newRow,h3]
   obtain⟨m1,m2⟩:=hR.made (t:=t) (z:=0) (c:=0) (eN i.zero) (kN _) (by simp) (Nat.zero_le _)
   refine bN hrun (kk _ _ _ _ _ ⟨rfl,rfl⟩ (m1.put d ?_) ((m2 (some d)).then_put _))
   refine dC ?_
   simp only[AR]
   exact⟨W.heap.size,by rw[hR.len,dD],rfl⟩
  cases h
 cases h
def bM {α:Type}(l:List α) (o:Nat) (us:List α):List α:=l.take o++us++l.drop (o+us.length)
theorem Ba {α β:Type}(f:α→β) (l:List α) (o:Nat) (us:List α):(bM l o us).map f=bM (l.map f) o (us.map f):=by simp[bM,List.map_take,List.map_drop]
theorem Dv {N:Nat→Prop}{l us:List AV}{l' us':List VT}{o:Nat}(h:aE W N cs l l') (h':aE W N cs us us'):aE W N cs (bM l o us) (bM l' o us'):=by
 unfold bM
 rw[fZ h']
 exact lQ (lQ (eV o h) h') (gH _ h)
theorem RelC.over (hR:RelC x g ob cs ts W){k bb o:Nat}{bo:Ob}{us:List AV}{vs:List Value}(hk:ob[k]? =some (some bo)) (hbb:(co cs k).b=some bb) (hA:ARL W (x.fr W ob cs) cs us vs) (hr:dX us=true) (hlo:bZ us=true) (hle:o+us.length≤bo.l.length):
  ∃W' c',(storeCells ⟨bb,o,none⟩ vs).run x.P W=.ok () W'∧RelC x g (ob.set k (some ⟨bo.t,bo.z,bM bo.l o us⟩)) (cs.set k c') ts W'∧∀d,Aft [k] d ob cs ts W (ob.set k (some ⟨bo.t,bo.z,bM bo.l o us⟩)) (cs.set k c') ts W':=by
 obtain⟨⟨rest,k1,k1l⟩,k2,k3⟩:=hR.blk hk hbb
 have hcl:=hR.crl hk
 have hl1:(co cs k).l.length=bo.l.length:=fZ hcl
 have hl2:vs.length=us.length:=cN hA
 have hst:=run_storeCells_at (P:=x.P) bb o bo.t vs 0 _ W k1 (by simp;omega) (gY hA hlo)
 have hput:((co cs k).l.map VT.val++rest).take o++vs++((co cs k).l.map VT.val++rest).drop (o+vs.length)=(bM (co cs k).l o (vs.map .w)).map VT.val++rest:=by
  rw[Ba,jL]
  unfold bM
  rw[List.take_append_of_le_length (by simp;omega),List.drop_append_of_le_length (by simp;omega)]
  simp
 have hrun:(storeCells ⟨bb,o,none⟩ vs).run x.P W=.ok () (W.setRow bb ((bM (co cs k).l o (vs.map .w)).map VT.val++rest).toArray):=by
  simp only[List.size_toArray]at hst⊢
  rw[←hput]
  simpa[hl2]using hst
 have hz0:((co cs k).l.map VT.val++rest).length=((bM (co cs k).l o (vs.map .w)).map VT.val++rest).length:=by
  rw[←hput]
  simp
  omega
 have hfp:(VT.fpL (bM (co cs k).l o (vs.map .w))).Sublist (VT.fpL (co cs k).l):=by
  unfold bM
  rw[eB,eB,eO,List.append_nil]
  have e3:(co cs k).l=(co cs k).l.take o++(co cs k).l.drop o:=(List.take_append_drop o _).symm
  conv=>rhs;rw[e3,eB]
  refine List.Sublist.append (List.Sublist.refl _) ?_
  rw[←List.drop_drop]
  exact rO _ _
 have hnd:(aB (some bo) (co cs k)).S.Nodup:=hR.2.nd1 (List.mem_of_getElem? (aG hR.len hk))
 simp only[aB,hbb]at hnd
 have hbn:=(List.nodup_cons.1 hnd).1
 have hok:VT.okL (W.setRow bb ((bM (co cs k).l o (vs.map .w)).map VT.val++rest).toArray) (bM (co cs k).l o (vs.map .w)):=by
  refine VT.okL_keep _ (W:=W) (fun b hb=>setRow_other W bb b _ (fun e=>hbn (by rw[←e];exact hfp.subset hb))) ?_
  unfold bM
  rw[eW,eW]
  exact⟨⟨mJ _ _ k2,jK _⟩,rP _ _ k2⟩
 exact⟨_,_,hrun,hR.upd (W':=W.setRow bb ((bM (co cs k).l o (vs.map .w)).map VT.val++rest).toArray) hk ⟨bo.t,bo.z,bM bo.l o us⟩ ⟨some bb,(co cs k).c,bM (co cs k).l o (vs.map .w)⟩
  ⟨rfl,rfl,rfl,by simp,fun j _ hj=>setRow_other W bb j _ (fun e=>hj (by simp[aB,hbb,e]))⟩ hbb.symm rfl
  (by
   simp only[aB]
   refine⟨⟨rest,setRow_heap W bb _ _ bo.t _ k1,?_⟩,hok,k3⟩
   rw[←hz0,k1l]
   have:(bM (co cs k).l o (vs.map .w)).length=(co cs k).l.length:=by
    unfold bM
    simp
    omega
   rw[this])
  (fun b hb=>by
   simp only[aB,hbb]at hb⊢
   rcases List.mem_cons.1 hb with rfl | hb
   ·exact .inl (by simp)
   exact .inl (List.mem_cons_of_mem _ (hfp.subset hb)))
  (by
   simp only[aB]
   exact List.nodup_cons.2 ⟨fun h=>hbn (hfp.subset h),(List.nodup_cons.1 hnd).2.sublist hfp⟩)
  (fun hk' hN hs=>by
   have a1:=bB hk' hN hs _ _ hcl
   have a2:=iM (ARL_keep hk' hN hs _ _ hA) hr
   exact Dv a1 a2)
  (fun e=>by cases e)⟩
theorem nG {t k o:Nat}{i:TI}{a b:Operand}{bo:Ob}{us l':List AV}(hT:aQ x.P T) (hi:aF T t=some i) (ha:lk x.n g a=.one (.pt k o)) (hb:mK (lk x.n g b)=some us) (hlo:bZ us=true) (hsz:Nat.beq us.length i.size=true) (ho:aY ob k=some bo)
  (hle:o+us.length≤bo.l.length) (hl:bM bo.l o us=l'):OS x ⟨none,.store t a b,ty,pos,af,gd⟩ g ob [k] (fun g' ob2=>g'=g∧ob2=ob.set k (some ⟨bo.t,bo.z,l'⟩)):=by
 subst hl
 have hk:=bI ho
 have hsz:=Nat.eq_of_beq_eq_true hsz
 obtain⟨ii,e1,e2⟩:=(aV hT hi).2.1
 intro cs ts W hR K Q kk
 have hp:=hR.lk a
 rw[ha]at hp
 simp only[aD,aJ,AR]at hp
 obtain⟨bb,hbb,e⟩:=hp
 obtain⟨vs,ev,hA,hr⟩:=Du hb (hR.lk b)
 have hl2:vs.length=us.length:=cN hA
 obtain⟨W',c',hst,m1,m2⟩:=hR.over hk hbb hA hr hlo hle
 have hrun:(execOp (Act.eval ⟨ts,[]⟩) ⟨none,.store t a b,ty,pos,af,gd⟩).run x.P W=.ok .skip W':=by
  simp[execOp,e,ev,Instr.storeAt,Instr.sureAddr,storeVar,sizeOf,typeInfo,e1,e2,hl2,hsz,hst]
 unfold Oper.wp
 rw[hrun]
 exact kk _ _ _ _ _ ⟨rfl,rfl⟩ m1 (m2 none)
def oN {α β:Type}:List α→Nat→α→(List α→Option β)→Option β
 | [],_,_,k=>k []
 | _::l,0,a,k=>k (a::l)
 | b::l,n+1,a,k=>oN l n a fun r=>k (b::r)
theorem uF {α β:Type}:∀{l:List α}{n:Nat}{a:α}{k:List α→Option β}{r:β},oN l n a k=some r→k (l.set n a)=some r
 | [],_,_,_,_,h=>by simpa[oN]using h
 | _::_,0,_,_,_,h=>by simpa[oN]using h
 | b::l,n+1,a,k,r,h=>by
  have:=uF (l:=l) (n:=n) (k:=fun r=>k (b::r)) (by simpa[oN]using h)
  simpa using this
def oO (i:TI) (ob:List (Option Ob)) (v:FV):FV→Option (List (Option Ob))
 | .one (.pt k o)=>match mK v with
  | some us=>match bZ us&&Nat.beq us.length i.size with
   | true=>match aY ob k with
    | some bo=>dp (o+us.length) bo.l fun r=>tk o bo.l fun h=>all (h++us++r) fun l=>oN ob k (some ⟨bo.t,bo.z,l⟩) some
    | none=>none
   | false=>none
  | none=>none
 | _=>none
theorem Ci {t:Nat}{i:TI}{a b:Operand}(hT:aQ x.P T) (hi:aF T t=some i) (h:oO i ob (lk x.n g b) (lk x.n g a)=some ob'):∃k,OS x ⟨none,.store t a b,ty,pos,af,gd⟩ g ob [k] (fun g' ob2=>g'=g∧ob2=ob')∧∃o,lk x.n g a=.one (.pt k o):=by
 unfold oO at h
 split at h
 ·rename_i k o ha
  split at h
  ·rename_i us hb
   split at h
   ·rename_i hc
    rw[Bool.and_eq_true]at hc
    split at h
    ·rename_i bo ho
     obtain⟨d1,d2⟩:=lO h
     obtain⟨d3,d4⟩:=lN d2
     have d5:=uF (nC d4)
     injection d5 with d5
     subst d5
     exact⟨k,nG hT hi ha hb hc.1 hc.2 ho d1 rfl,o,ha⟩
    cases h
   cases h
  cases h
 cases h
end
abbrev cB:=Exit→(Nat→FV)→List (Option Ob)→Prop
def Lf (x:Cx) (Q:cB):Exit→Act→World→Prop
 | .panic _,_,_=>False
 | e,a,W=>∃g ob ts,a=⟨ts,[]⟩∧pR x g ob ts W∧Q e g ob
def WP (x:Cx) (c:Code) (g:Nat→FV) (ob:List (Option Ob)) (Q:cB):Prop:=∀ts W,pR x g ob ts W→c.wp x.P (Lf x Q) ⟨ts,[]⟩ W
def WL (x:Cx) (ops:Array Oper) (rest:List Oper) (g:Nat→FV) (ob:List (Option Ob)) (Q:cB):Prop:=∀ts W,pR x g ob ts W→wpList x.P ops (Lf x Q) rest ⟨ts,[]⟩ W
abbrev Cj (K:(Nat→FV)→List (Option Ob)→Prop) (Q:cB):cB
 | .normal,g,ob=>K g ob
 | e,g,ob=>Q e g ob
abbrev Bb (id:Nat) (Q:cB):cB
 | .exit id',g,ob=>bif Nat.beq id' id then Q .normal g ob else Q (.exit id') g ob
 | e,g,ob=>Q e g ob
section
variable {x:Cx}{g g':Nat→FV}{ob ob':List (Option Ob)}{cs cs':List Co}{ts ts':Array Value}{W W':World}{T:List (Nat×TI)}{Q:cB}{ops:Array Oper}{rest:List Oper}
theorem Lf.mk {e:Exit}(he:∀c,e≠.panic c) (h:pR x g ob ts W) (hq:Q e g ob):Lf x Q e ⟨ts,[]⟩ W:=by
 cases e <;> first | exact⟨g,ob,ts,rfl,h,hq⟩ | exact absurd rfl (he _)
theorem sq {a b:Code}(h:WP x a g ob (Cj (fun g ob=>WP x b g ob Q) Q)):WP x (.seq a b) g ob Q:=fun ts W hR=>
 wp_seq (wp_mono (h ts W hR) fun e a w hq=>by
  cases e with
  | normal=>
   obtain⟨g,ob,ts,rfl,h1,h2⟩:=hq
   exact h2 ts w h1
  | panic c=>exact hq
  | exit id=>exact hq
  | goto l=>exact hq
  | ret=>exact hq
  | outgrown=>exact hq)
theorem bl {id:Nat}{c:Code}(h:WP x c g ob (Bb id Q)):WP x (.block id c) g ob Q:=fun ts W hR=>
 wp_block (wp_mono (h ts W hR) fun e a w hq=>by
  cases e with
  | normal=>exact hq
  | panic c=>exact hq
  | exit id'=>
   obtain⟨g,ob,ts,rfl,h1,h2⟩:=hq
   simp only[Exit.inBlock]
   split
   ·rename_i e
    subst e
    simp only[Bb,Nat.beq_refl,cond_true]at h2
    exact⟨g,ob,ts,rfl,h1,h2⟩
   rename_i e
   have:Nat.beq id' id=false:=by
    cases hb:Nat.beq id' id
    ·rfl
    exact absurd (Nat.eq_of_beq_eq_true hb) e
   simp only[Bb,this,cond_false]at h2
   exact⟨g,ob,ts,rfl,h1,h2⟩
  | goto l=>exact hq
  | ret=>exact hq
  | outgrown=>exact hq)
theorem sk (h:Q .normal g ob):WP x .skip g ob Q:=fun ts _ hR=>wp_skip ⟨g,ob,ts,rfl,hR,h⟩
theorem ex {id:Nat}(h:Q (.exit id) g ob):WP x (.exit id) g ob Q:=fun ts _ hR=>wp_exit ⟨g,ob,ts,rfl,hR,h⟩
theorem rt (h:Q .ret g ob):WP x .ret g ob Q:=fun ts _ hR=>wp_ret ⟨g,ob,ts,rfl,hR,h⟩
theorem nH {c:Operand}{a b:Code}{q:Bool}(h:lk x.n g c=.one (tv (.bool q))) (h1:q=true→WP x a g ob Q) (h2:q=false→WP x b g ob Q):WP x (.cond c a b) g ob Q:=fun ts W hR=>by
 obtain⟨cs,hC⟩:=hR
 have e:=hC.lk c
 rw[h]at e
 exact wp_cond_split (aC e) (fun hq=>h1 hq ts W ⟨cs,hC⟩) (fun hq=>h2 hq ts W ⟨cs,hC⟩)
theorem cU {c:Operand}{a b:Code}{p:Prop} [Decidable p] (h:lk x.n g c=.one (tv (.bool (decide p)))) (h1:p→WP x a g ob Q) (h2:¬p→WP x b g ob Q):WP x (.cond c a b) g ob Q:=
 nH h (fun hq=>h1 (of_decide_eq_true hq)) (fun hq=>h2 (of_decide_eq_false hq))
theorem uG {c:Operand}{a b:Code}(h:lk x.n g c=.one (tv (.bool true))) (h1:WP x a g ob Q):WP x (.cond c a b) g ob Q:=nH h (fun _=>h1) (fun h=>by cases h)
theorem lZ {c:Operand}{a b:Code}(h:lk x.n g c=.one (tv (.bool false))) (h1:WP x b g ob Q):WP x (.cond c a b) g ob Q:=nH h (fun h=>by cases h) (fun _=>h1)
theorem rl {id:Nat}{l:List Oper}(h:WL x l.toArray l g ob Q):WP x (.region id l.toArray false) g ob Q:=fun ts W hR=>wp_region_lit (h ts W hR)
theorem nl (h:Q .normal g ob):WL x ops [] g ob Q:=fun ts _ hR=>wpList_nil ⟨g,ob,ts,rfl,hR,h⟩
def aK (ops:Array Oper) (n:Nat) (g:Nat→FV):Option (Nat×Bool)→Option Bool
 | none=>some true
 | some (gi,gb)=>match(ops[gi]?).bind (·.dst)with
  | some t=>match lk n g (.tmp t)with
   | .one (.t (.v (.bool b)))=>some (b==gb)
   | .one (.t (.v (.tuple _)))=>some false
   | _=>none
  | none=>none
theorem eX {o:Oper}{b:Bool}(h:aK ops x.n g o.guard=some b) (hR:RelC x g ob cs ts W):Region.wanted o (yielded ops ts)=b:=by
 obtain⟨d,op,ty,pos,af,gd⟩:=o
 cases gd with
 | none=>
  simp[aK]at h
  subst h
  rfl
 | some p=>
  obtain⟨gi,gb⟩:=p
  dsimp only[aK]at h
  split at h
  ·rename_i t ht
   split at h
   ·rename_i b' hb
    have e:=hR.lk (.tmp t)
    rw[hb]at e
    have e:=aC (x:=.bool b') e
    have e0:yielded ops ts gi=some b':=by
     have e1:ts[t]? =some (.bool b'):=by
      simp only[Act.eval]at e
      cases hq:ts[t]? with
      | none=>
       simp[hq]at e
       cases e
      | some u=>
       simp[hq]at e
       rw[e]
     simp[yielded,ht,e1]
    injection h with h
    subst h
    simp[Region.wanted,e0]
   ·rename_i r hb
    have e:=hR.lk (.tmp t)
    rw[hb]at e
    have e:=aC (x:=.tuple r) e
    have e0:yielded ops ts gi=none:=by
     simp only[yielded,ht,Option.bind_some]
     simp only[Act.eval]at e
     cases hq:ts[t]? with
     | none=>rfl
     | some u=>
      simp[hq]at e
      rw[e]
    injection h with h
    subst h
    simp[Region.wanted,e0]
   cases h
  cases h
theorem dP {o:Oper}{Wr:List Nat}{R:(Nat→FV)→List (Option Ob)→Prop}(h:OS x o g ob Wr R) (hw:aK ops x.n g o.guard=some true) (k:∀g' ob',R g' ob'→WL x ops rest g' ob' Q):WL x ops (o::rest) g ob Q:=fun ts W ⟨cs,hR⟩=>
 rF (eX hw hR) (h cs ts W hR _ _ fun g' ob' cs' ts' W' hr hR' _=>k g' ob' hr ts' W' ⟨cs',hR'⟩)
theorem Lq {o:Oper}{d:Nat}(hw:aK ops x.n g o.guard=some false) (hd:o.dst=some d) (k:WL x ops rest (aI g d (.one (tv undef))) ob Q):WL x ops (o::rest) g ob Q:=fun ts W ⟨cs,hR⟩=>
 Jf (eX hw hR) (by rw[hd];exact k _ W ⟨cs,hR.put d (v:=.one (tv undef)) (dC (by simp[tv,AR,FR]))⟩)
theorem Mu {o:Op}{d:Nat}{ty:TypeId}{pos:String}{af:Array Edge}{gd:Option (Nat×Bool)}{C:Prop}{v:FV}(hT:aQ x.P T) (hw:aK ops x.n g gd=some true) (h:lY T x.n g o=some (C,v)) (hC:C) (k:WL x ops rest (aI g d v) ob Q):WL x ops (⟨some d,o,ty,pos,af,gd⟩::rest) g ob Q:=
 dP (Gv hT h hC) hw (by rintro _ _ ⟨rfl,rfl⟩;exact k)
theorem Jo {t d:Nat}{ty:TypeId}{pos:String}{af:Array Edge}{gd:Option (Nat×Bool)}{i:TI}{a:Operand}{v:FV}{l us:List Tr}{of:Nat}(hT:aQ x.P T) (hw:aK ops x.n g gd=some true) (hi:aF T t=some i) (h:lk x.n g a=.one (.ef l of)) (hl:(l.drop of).take us.length=us) (hv:rN i us=some v) (k:WL x ops rest (aI g d v) ob Q):WL x ops (⟨some d,.load t a,ty,pos,af,gd⟩::rest) g ob Q:=
 dP (Gy hT hi h hl hv) hw (by rintro _ _ ⟨rfl,rfl⟩;exact k)
theorem Lr {t d k:Nat}{ty:TypeId}{pos:String}{af:Array Edge}{gd:Option (Nat×Bool)}(hT:aQ x.P T) (hw:aK ops x.n g gd=some true) (h:wI T t k ob=some ob') (kk:WL x ops rest (aI g d (.one (.pt k 0))) ob' Q):WL x ops (⟨some d,.alloc t,ty,pos,af,gd⟩::rest) g ob Q:=
 dP (Jn hT h) hw (by rintro _ _ ⟨rfl,rfl⟩;exact kk)
theorem Ls {t:Nat}{i:TI}{a b:Operand}{ty:TypeId}{pos:String}{af:Array Edge}{gd:Option (Nat×Bool)}(hT:aQ x.P T) (hw:aK ops x.n g gd=some true) (hi:aF T t=some i) (h:oO i ob (lk x.n g b) (lk x.n g a)=some ob') (kk:WL x ops rest g ob' Q):WL x ops (⟨none,.store t a b,ty,pos,af,gd⟩::rest) g ob Q:=by
 obtain⟨k,hs,_⟩:=Ci (ty:=ty) (pos:=pos) (af:=af) (gd:=gd) hT hi h
 exact dP hs hw (by rintro _ _ ⟨rfl,rfl⟩;exact kk)
def Sub (x:Cx) (g:Nat→FV) (ob:List (Option Ob)) (g':Nat→FV) (ob':List (Option Ob)):Prop:=∀ts W,pR x g ob ts W→pR x g' ob' ts W
theorem lp {γ:Type}{c:Code}(I:γ→Nat→FV) (O:γ→List (Option Ob)) (p:γ→Prop) (m:γ→Nat) (s0:γ) (h0:p s0) (hs:Sub x g ob (I s0) (O s0)) (round:∀s,p s→WP x c (I s) (O s) (Cj (fun g ob=>∃s',m s'<m s∧p s'∧Sub x g ob (I s') (O s')) Q)):WP x (.loop c) g ob Q:=fun ts W hR=>by
 refine Aj (fun k a W=>∃s ts,a=⟨ts,[]⟩∧k=m s∧p s∧pR x (I s) (O s) ts W) (m s0) ⟨s0,ts,rfl,rfl,h0,hs ts W hR⟩ ?_
 rintro _ _ W ⟨s,ts,rfl,rfl,hp,hR⟩
 refine wp_mono (round s hp ts W hR) fun e a w hq=>?_
 cases e with
 | normal=>
  obtain⟨g,ob,ts,rfl,h1,s',h2,h3,h4⟩:=hq
  exact⟨m s',h2,s',ts,rfl,rfl,h3,h4 ts w h1⟩
 | panic c=>exact hq
 | exit id=>exact hq
 | goto l=>exact hq
 | ret=>exact hq
 | outgrown=>exact hq
theorem WP.sub {c:Code}(h:Sub x g ob g' ob') (k:WP x c g' ob' Q):WP x c g ob Q:=fun ts W hR=>k ts W (h ts W hR)
end
def gJ (fr:List Nat) (g:Nat→FV) (i:Nat):FV:=bif fr.any (Nat.beq i)then .any else g i
structure Kept (x:Cx) (K fr:List Nat) (Kp:Nat→Prop) (W1:World) (g:Nat→FV) (ob:List (Option Ob)) (cs:List Co) (ts:Array Value) (W:World):Prop where
 same:∀b,Kp b→W.heap[b]? =W1.heap[b]?
 free:∀b,Kp b→b∉aZ ob cs∨∃k∈K,∃o,ob[k]? =some (some o)∧(co cs k).b=some b
 ks:∀k∈K,∀o,ob[k]? =some (some o)→(∀b,(co cs k).b=some b→Kp b)∧aE W (fun b=>x.fr W ob cs b∧Kp b) cs o.l (co cs k).l
 fv:∀i,i<x.n→∃u,ts[i]? =some u∧aD W (fun b=>x.fr W ob cs b∧Kp b) cs (gJ fr g i) u
def Sw (Kp:Nat→Prop) (W1:World) (W:World):Prop:=∀b,Kp b→W.heap[b]? =W1.heap[b]?
def WD (x:Cx) (ops:Array Oper) (Q:cB) (late:Nat→Bool) (K fr:List Nat) (on:Bool) (fuel:Nat) (listed:Array Bool) (g:Nat→FV) (ob:List (Option Ob)):Prop:=
 ∀(Kp:Nat→Prop) (W1:World) cs ts W,RelC x g ob cs ts W→(∀b,Kp b→b<W1.heap.size)→W1.heap.size≤W.heap.size→(on=true→Kept x K fr Kp W1 g ob cs ts W)→iJ x.P ops (Lf x Q) (Sw Kp W1) late fuel listed ⟨ts,[]⟩ W
section
variable {x:Cx}{g g':Nat→FV}{ob ob':List (Option Ob)}{cs cs':List Co}{ts ts':Array Value}{W W' W1:World}{T:List (Nat×TI)}{Q:cB}{ops:Array Oper}{late:Nat→Bool}{K fr:List Nat}{on:Bool}{fuel:Nat}{listed:Array Bool}{Kp:Nat→Prop}
theorem RelC.drew (h:RelC x g ob cs ts W):RelC x g ob cs ts W.drew:=⟨h.1,h.2.drew,h.3⟩
theorem rd {id:Nat}{l:List Oper}(K:List Nat) (late:Nat→Bool) (hm:x.P.follows .mixedOrders=true) (h:WD x l.toArray Q late K [] true l.toArray.size (Array.replicate l.toArray.size false) g ob):WP x (.region id l.toArray true) g ob Q:=fun ts W ⟨cs,hR⟩=>by
 refine tH (Sw (fun b=>x.fr W.drew ob cs b∨∃k∈K,∃o,ob[k]? =some (some o)∧(co cs k).b=some b) W.drew) late hm ?_
 have hR':=hR.drew
 refine h _ _ cs ts W.drew hR' (fun b hb=>?_) (Nat.le_refl _) fun _=>⟨fun _ _=>rfl,fun b hb=>?_,fun k hk o ho=>⟨fun b hb=>.inr ⟨k,hk,o,ho,hb⟩,?_⟩,fun i hi=>?_⟩
 ·rcases hb with hb | ⟨k,_,o,ho,hb⟩
  ·exact hb.1.1
  obtain⟨⟨r,e,_⟩,_⟩:=hR'.blk ho hb
  exact(Array.getElem?_eq_some_iff.1 e).1
 ·rcases hb with hb | hb
  ·exact .inl hb.1.2
  exact .inr hb
 ·exact bB (fun _ _=>rfl) (fun b hb=>⟨hb,.inl hb⟩) .refl _ _ (hR'.crl ho)
 obtain⟨u,h1,h2⟩:=hR'.fv hi
 exact⟨u,h1,cA (fun _ _=>rfl) (fun b hb=>⟨hb,.inl hb⟩) .refl _ _ (by simpa[gJ]using h2)⟩
def oP (ops:Array Oper) (late:Nat→Bool) (listed:Array Bool) (i:Nat):Bool:=Region.noSelect ops&&(Region.free .any ops listed i&&((Region.ready .any ops listed).contains i&&tV ops late i))
theorem Kept.lk (h:Kept x K fr Kp W1 g ob cs ts W) (hs:ts.size=x.n) (o:Operand):aD W (fun b=>x.fr W ob cs b∧Kp b) cs (lk x.n (gJ fr g) o) (Act.eval ⟨ts,[]⟩ o):=by
 cases o with
 | tmp t=>
  simp only[Go.Proofs.YteggpgndiajdpaaDoor.lk,Act.eval]
  cases hb:Nat.blt t x.n with
  | false=>simp[aD,aJ]
  | true=>
   have ht:t<x.n:=by simpa[Nat.blt,Nat.lt_iff_add_one_le]using hb
   obtain⟨u,h1,h2⟩:=h.fv t ht
   simp[h1]
   exact h2
 | const v=>
  cases v <;> simp only[Go.Proofs.YteggpgndiajdpaaDoor.lk,Act.eval] <;> first
   | (simp[aD,aJ,AR,FR,tv];done)
   | exact⟨_,by simp,eN _⟩
 | func f=>exact⟨[],[],rfl,by simp[FRL],by simp[FRL]⟩
 | global _=>simp[Go.Proofs.YteggpgndiajdpaaDoor.lk,aD,aJ]
theorem Kept.put (h:Kept x K fr Kp W1 g ob cs ts W) (hs:ts.size=x.n){d:Nat}{v:FV}{u:Value}(hv:aD W (fun b=>x.fr W ob cs b∧Kp b) cs v u):Kept x K fr Kp W1 (aI g d v) ob cs (ts.setIfInBounds d u) W:=by
 refine⟨h.same,h.free,h.ks,fun i hi=>?_⟩
 by_cases e:i=d
 ·subst e
  have:i<ts.size:=by rw[hs];exact hi
  refine⟨u,by simp[this],?_⟩
  unfold gJ
  cases fr.any (Nat.beq i)
  ·simpa[aI]using hv
  simp[aD,aJ]
 have hb:Nat.beq i d=false:=by
  cases hq:Nat.beq i d
  ·rfl
  exact absurd (Nat.eq_of_beq_eq_true hq) e
 rw[Array.getElem?_setIfInBounds_ne (fun h=>e h.symm)]
 obtain⟨u',h1,h2⟩:=h.fv i hi
 refine⟨u',h1,?_⟩
 unfold gJ at h2⊢
 cases hq:fr.any (Nat.beq i)
 ·simpa[aI,hb,hq]using h2
 simp[aD,aJ]
variable {d:Nat}{op:Op}{ty:TypeId}{pos:String}{af:Array Edge}{gd:Option (Nat×Bool)}{i:Nat}
theorem uH {v:FV}(hi:ops[i]? =some ⟨some d,op,ty,pos,af,gd⟩) (hst:oP ops late listed i=true) (hw:aK ops x.n g gd=some true)
  (hy:∀Kp W1 cs ts W,RelC x g ob cs ts W→Kept x K fr Kp W1 g ob cs ts W→∃u,(∀W',Sw Kp W1 W'→(execOp (Act.eval ⟨ts,[]⟩) ⟨some d,op,ty,pos,af,gd⟩).run x.P W'=.ok (.value u) W')∧aD W (x.fr W ob cs) cs v u∧aD W (fun b=>x.fr W ob cs b∧Kp b) cs v u)
  (k:WD x ops Q late K fr true fuel (listed.setIfInBounds i true) (aI g d v) ob):WD x ops Q late K fr true (fuel+1) listed g ob:=by
 intro Kp W1 cs ts W hR hK1 hK2 hon
 have hk:=hon rfl
 obtain⟨u,hrun,hv,hv'⟩:=hy Kp W1 cs ts W hR hk
 simp only[oP,Bool.and_eq_true]at hst
 obtain⟨s1,s2,s3,s4⟩:=hst
 exact xT hi (Region.noSelect_spec s1) (fun c a w h=>h) (fun j oj hj hlj=>rG s4 j oj hj hlj) fuel listed _ W (Region.free_spec hi s2) (by simpa using s3) (.inl ⟨eX hw hR,fun W' hW'=>hrun W' hW'⟩) hk.same
  (k Kp W1 cs _ W (hR.put d hv) hK1 hK2 fun _=>hk.put hR.1 hv')
theorem dt {C:Prop}{v:FV}(i:Nat) (hT:aQ x.P T) (hi:ops[i]? =some ⟨some d,op,ty,pos,af,gd⟩) (hst:oP ops late listed i=true) (hw:aK ops x.n g gd=some true) (h:lY T x.n (gJ fr g) op=some (C,v)) (hC:C) (hg:lY T x.n g op=some (C,v))
  (k:WD x ops Q late K fr true fuel (listed.setIfInBounds i true) (aI g d v) ob):WD x ops Q late K fr true (fuel+1) listed g ob:=by
 refine uH hi hst hw (fun Kp W1 cs ts W hR hk=>?_) k
 obtain⟨u,hrun,hv⟩:=uA (d:=some d) (ty:=ty) (pos:=pos) (af:=af) (gd:=gd) hT (hk.lk hR.1) h hC
 exact⟨u,fun W' _=>hrun W',cA (fun _ _=>rfl) (fun b hb=>hb.1) .refl _ _ hv,hv⟩
theorem Mv {t:Nat}{ti:TI}{a:Operand}{v:FV}(i:Nat) (hT:aQ x.P T) (hi:ops[i]? =some ⟨some d,.load t a,ty,pos,af,gd⟩) (hst:oP ops late listed i=true) (hw:aK ops x.n g gd=some true) (hti:aF T t=some ti)
  {l us:List Tr}{of:Nat}(hlk:lk x.n (gJ fr g) a=.one (.ef l of)) (hl:(l.drop of).take us.length=us) (hv:rN ti us=some v)
  (k:WD x ops Q late K fr true fuel (listed.setIfInBounds i true) (aI g d v) ob):WD x ops Q late K fr true (fuel+1) listed g ob:=by
 refine uH hi hst hw (fun Kp W1 cs ts W hR hk=>?_) k
 have hp:=hk.lk hR.1 a
 rw[hlk]at hp
 have hgen:∃g0:Nat→FV,lk x.n g0 a=.one (.ef l of):=⟨_,hlk⟩
 obtain⟨g0,hg0⟩:=hgen
 obtain⟨b,hb,u,hrun,hv'⟩:=uE (x:=x) (g:=g0) (cs:=cs) (ts:=ts) (W:=W) (N:=fun b=>x.fr W ob cs b∧Kp b) hT hti hg0 hl hv (by rw[hg0];exact hp) (o:=⟨some d,.load t a,ty,pos,af,gd⟩) rfl
 exact⟨u,fun W' hW'=>hrun W' ((hW' b hb.2).trans (hk.same b hb.2).symm),cA (fun _ _=>rfl) (fun b hb=>hb.1) .refl _ _ hv',hv'⟩
def WO (x:Cx) (ops:Array Oper) (Q:cB) (late:Nat→Bool) (K fr:List Nat) (on:Bool) (fuel:Nat) (listed:Array Bool) (i:Nat) (g:Nat→FV) (ob:List (Option Ob)):Prop:=
 ∀(Kp:Nat→Prop) (W1:World) cs ts W,RelC x g ob cs ts W→(∀b,Kp b→b<W1.heap.size)→W1.heap.size≤W.heap.size→(on=true→Kept x K fr Kp W1 g ob cs ts W)→wpOp x.P ops (Lf x Q) i (fun a' w'=>(late i=false→Sw Kp W1 w')∧iJ x.P ops (Lf x Q) (Sw Kp W1) late fuel (listed.setIfInBounds i true) a' w') ⟨ts,[]⟩ W
theorem WO.one {i:Nat}(hr:Region.ready .any ops listed=[i]) (h:WO x ops Q late K fr on fuel listed i g ob):WD x ops Q late K fr on (fuel+1) listed g ob:=fun Kp W1 cs ts W hR h1 h2 h3=>Jg hr (h Kp W1 cs ts W hR h1 h2 h3)
theorem WO.two {i j:Nat}(hr:Region.ready .any ops listed=[i,j]) (h:WO x ops Q late K fr on fuel listed i g ob) (h':WO x ops Q late K fr on fuel listed j g ob):WD x ops Q late K fr on (fuel+1) listed g ob:=fun Kp W1 cs ts W hR h1 h2 h3=>Jh hr (h Kp W1 cs ts W hR h1 h2 h3) (h' Kp W1 cs ts W hR h1 h2 h3)
theorem Ld {o:Oper}{Wr:List Nat}{R:(Nat→FV)→List (Option Ob)→Prop}(i:Nat) (hi:ops[i]? =some o) (hw:aK ops x.n g o.guard=some true) (h:OS x o g ob Wr R) (on':Bool) (hon:on'=true→on=true∧(∀k∈K,k∉Wr)) (hl:late i=false→on'=true)
  (hg:on'=true→∀g' ob',R g' ob'→(∀j,o.dst≠some j→g' j=g j)∧∀k∈K,ob'[k]? =ob[k]?)
  (k:∀g' ob',R g' ob'→WD x ops Q late K (o.dst.toList++fr) on' fuel (listed.setIfInBounds i true) g' ob'):WO x ops Q late K fr on fuel listed i g ob:=by
 intro Kp W1 cs ts W hR hK1 hK2 hkk
 refine(Lj hi (eX hw hR) (h cs ts W hR _ _ fun g' ob' cs' ts' W' hr' hR' ha=>?_))
 have key:on'=true→Kept x K (o.dst.toList++fr) Kp W1 g' ob' cs' ts' W':=by
  intro hon'
  obtain⟨h1,h2⟩:=hon hon'
  have hk:=hkk h1
  obtain⟨g1,g2⟩:=hg hon' g' ob' hr'
  have hwr:∀b,Kp b→∀k'∈Wr,∀o,ob[k']? =some o→b∉(aB o (co cs k')).S:=by
   intro b hb k' hk' o' ho' hm
   have hmo:b∈aZ ob cs:=List.mem_flatMap.2 ⟨_,List.mem_of_getElem? (aG hR.len ho'),hm⟩
   rcases hk.free b hb with h3 | ⟨k2,hk2,o2,ho2,hb2⟩
   ·exact h3 hmo
   have hne:k2≠k':=fun e=>h2 k2 hk2 (e▸hk')
   have hnd:List.Pairwise (· ≠ ·) ((aA ob cs).flatMap Res.S):=hR.2.nd
   rw[List.pairwise_flatMap]at hnd
   have hp:=List.pairwise_iff_getElem.1 hnd.2
   obtain⟨i1,e1⟩:=List.getElem?_eq_some_iff.1 (aG hR.len ho2)
   obtain⟨i2,e2⟩:=List.getElem?_eq_some_iff.1 (aG hR.len ho')
   have hm2:b∈(aB (some o2) (co cs k2)).S:=by simp[aB,hb2]
   rcases Nat.lt_or_gt_of_ne hne with hlt | hlt
   ·exact hp k2 k' i1 i2 hlt b (by rw[e1];exact hm2) b (by rw[e2];exact hm) rfl
   exact hp k' k2 i2 i1 hlt b (by rw[e2];exact hm) b (by rw[e1];exact hm2) rfl
  have hkeep:∀b,Kp b→W'.heap[b]? =W.heap[b]? :=fun b hb=>ha.keep b (Nat.lt_of_lt_of_le (hK1 b hb) hK2) (hwr b hb)
  have hN:∀b,(x.fr W ob cs b∧Kp b)→(x.fr W' ob' cs' b∧Kp b):=fun b hb=>⟨gX hb.1 ha.size ha.own,hb.2⟩
  refine⟨fun b hb=>(hkeep b hb).trans (hk.same b hb),fun b hb=>?_,fun k hkm o' ho'=>?_,fun j hj=>?_⟩
  ·rcases hk.free b hb with h3 | ⟨k2,hk2,o2,ho2,hb2⟩
   ·refine .inl fun hm=>?_
    rcases ha.own b hm with h4 | h4
    ·exact h3 h4
    have:=hK1 b hb
    omega
   have hlt:k2<cs.length:=Cc hb2
   exact .inr ⟨k2,hk2,o2,by rw[g2 k2 hk2,ho2],by rw[(ha.same.2 k2 hlt).1,hb2]⟩
  ·have:ob[k]? =some (some o'):=by
    rw[←g2 k hkm,ho']
   obtain⟨k1,k2⟩:=hk.ks k hkm o' this
   have hlt:k<cs.length:=by
    have:=(List.getElem?_eq_some_iff.1 this).1
    have:=hR.len
    omega
   rw[ha.un k (h2 k hkm) hlt]
   exact⟨k1,bB (fun b hb=>hkeep b hb.2) hN ha.same _ _ k2⟩
  obtain⟨u0,hu0⟩:=hR'.fv hj
  by_cases e:o.dst=some j
  ·exact⟨u0,hu0.1,by simp[gJ,e,aD,aJ]⟩
  obtain⟨u,h3,h4⟩:=hk.fv j hj
  refine⟨u,(ha.fr j e).trans h3,?_⟩
  unfold gJ at h4⊢
  cases hq:(o.dst.toList++fr).any (Nat.beq j)with
  | true=>simp[aD,aJ]
  | false=>
   rw[List.any_append,Bool.or_eq_false_iff]at hq
   rw[hq.2]at h4
   rw[cond_false,g1 j e]
   exact cA (fun b hb=>hkeep b hb.2) hN ha.same _ _ (by simpa using h4)
 exact⟨fun hl'=>(key (hl hl')).same,k g' ob' hr' Kp W1 cs' ts' W' hR' hK1 (Nat.le_trans hK2 ha.size) key⟩
theorem Ck {o:Oper}{Wr:List Nat}{R:(Nat→FV)→List (Option Ob)→Prop}(i:Nat) (hr:Region.ready .any ops listed=[i]) (hi:ops[i]? =some o) (hw:aK ops x.n g o.guard=some true) (h:OS x o g ob Wr R) (on':Bool) (hon:on'=true→on=true∧(∀k∈K,k∉Wr)) (hl:late i=false→on'=true)
  (hg:on'=true→∀g' ob',R g' ob'→(∀j,o.dst≠some j→g' j=g j)∧∀k∈K,ob'[k]? =ob[k]?)
  (k:∀g' ob',R g' ob'→WD x ops Q late K (o.dst.toList++fr) on' fuel (listed.setIfInBounds i true) g' ob'):WD x ops Q late K fr on (fuel+1) listed g ob:=
 WO.one hr (Ld i hi hw h on' hon hl hg k)
theorem dz (hr:Region.ready .any ops listed=[]) (h:Q .normal g ob):WD x ops Q late K fr on fuel listed g ob:=fun _ _ cs ts _ hR _ _ _=>Gj hr ⟨g,ob,ts,rfl,⟨cs,hR⟩,h⟩
end
end Go.Proofs.YteggpgndiajdpaaDoor
