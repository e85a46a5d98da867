/- Part 14 of a proof: Rd to X5. -/
import Derived.Test.YtbbabfkgdnkehaaGreatM5
import Derived.Test.YtbbabfkgdnkehaaGreatM7
import Derived.ProofKit
import Derived.ChangeOld
import Derived.Deep.Slices
import Derived.Deep.Strs
import Derived.Test.YtbbabfkgdnkehaaGreatM10
import Derived.WalkKit
import Derived.OpenShut
import Derived.Below
import Derived.Carry
import Derived.Test.YtbbabfkgdnkehaaGreatM13
import Derived.Test.YtbbabfkgdnkehaaGreatM12
import Derived.Test.YtbbabfkgdnkehaaGreatM9
set_option maxRecDepth 100000
set_option linter.unusedVariables false
set_option linter.unusedSimpArgs false
namespace Go.Proofs.YtbbabfkgdnkehaaGreat
open Go Go.RowKit Go.ChangeShapes
def Reads (P:Program) (t:TypeId) (z:Nat) (T:List Tr→Prop):Prop:=
 P.cellsOf t=z∧∀(H:Type) (enc:TypeId×Value→H) (w:World) (fuel:Nat) (cs:List Value) (x:DataW H×List MemPlace),DataW.trod enc P w 0 (fun _=>true) true fuel t cs=some x→∃l,T l∧l.length=z∧FRL w (Ef w) l cs
theorem Mx {W:World}{N:Nat→Prop}:∀{l l':List Tr}{us us':List Value},FRL W N l us→FRL W N l' us'→FRL W N (l++l') (us++us')
 | [],l',us,us',h,h'=>by simp only[FRL]at h;subst h;exact h'
 | x::l,l',u::us,us',h,h'=>by simp only[FRL,List.cons_append]at*;exact⟨h.1,Mx h.2 h'⟩
 | _::_,_,[],_,h,_=>by simp only[FRL]at h
theorem My {W:World}{N:Nat→Prop}:∀{l:List Tr}{us:List Value}{j:Nat}{x:Tr},FRL W N l us→l[j]? =some x→∃u,us[j]? =some u∧FR W N x u
 | [],_,_,_,_,h=>by simp at h
 | y::l,u::us,0,x,h,e=>by
  simp only[FRL]at h
  simp at e
  subst e
  exact⟨u,rfl,h.1⟩
 | y::l,u::us,j+1,x,h,e=>by
  simp only[FRL]at h
  exact My (j:=j) h.2 (by simpa using e)
 | _::_,[],_,_,h,_=>by simp only[FRL]at h
section
variable {P:Program}{t e:TypeId}{k:IntKind}{z:Nat}{T T':List Tr→Prop}
theorem Reads.mono (h:Reads P t z T) (hi:∀l,T l→T' l):Reads P t z T':=⟨h.1,fun H enc w fuel cs x hx=>let ⟨l,a,b⟩:=h.2 H enc w fuel cs x hx;⟨l,hi l a,b⟩⟩
theorem Mz (ht:P.underlying t=some .bool) (hz:P.cellsOf t=1):Reads P t 1 (fun l=>∃b,l=[.v (.bool b)]):=⟨hz,fun H enc w fuel cs x hx=>by
 obtain⟨b,rfl,_⟩:=DataW.trod_bool ht hx
 exact⟨_,⟨b,rfl⟩,rfl,by simp[FRL,FR]⟩⟩
theorem Tq (ht:P.underlying t=some (.int k)) (hz:P.cellsOf t=1):Reads P t 1 (fun l=>∃n,l=[.v (.int k n)]∧k.min≤n∧n≤k.max):=⟨hz,fun H enc w fuel cs x hx=>by
 obtain⟨n,rfl,_,h⟩:=DataW.trod_int ht hx
 simp only[Lit.wf,Bool.and_eq_true,decide_eq_true_eq]at h
 exact⟨_,⟨n,rfl,h⟩,rfl,by simp[FRL,FR]⟩⟩
inductive Flds (P:Program):Nat→List Field→Nat→(List Tr→Prop)→Prop
 | nil {o:Nat}:Flds P o [] 0 (· =[])
 | cons {o z z':Nat}{f:Field}{fs:List Field}{T T':List Tr→Prop}(ho:f.offset=o) (h:Reads P f.type z T) (h':Flds P (o+z) fs z' T'):Flds P o (f::fs) (z+z') (fun l=>∃a b,l=a++b∧T a∧T' b)
theorem Flds.read {H:Type}{enc:TypeId×Value→H}{w:World}{n o:Nat}{fs:List Field}(h:Flds P o fs z T):∀{cs:List Value},o+z≤cs.length→(∀f∈fs,∃x,DataW.trod enc P w 0 (fun _=>true) true n f.type ((cs.drop f.offset).take (P.cellsOf f.type))=some x)→∃l,T l∧l.length=z∧FRL w (Ef w) l ((cs.drop o).take z):=by
 induction h with
 | nil=>exact fun _ _=>⟨[],rfl,rfl,by simp[FRL]⟩
 | @cons o z z' f fs T T' ho hr _ ih=>
  intro cs hl hf
  obtain⟨b,h1,h2,h3⟩:=ih (cs:=cs) (by omega) fun f hm=>hf f (List.mem_cons_of_mem _ hm)
  obtain⟨x,hx⟩:=hf f List.mem_cons_self
  obtain⟨a,g1,g2,g3⟩:=hr.2 H enc w n _ x hx
  rw[ho,hr.1]at g3
  refine⟨a++b,⟨a,b,rfl,g1,h1⟩,by simp[g2,h2],?_⟩
  rw[List.take_add,List.drop_drop]
  exact Mx g3 h3
theorem vV {fs:List Field}{z':Nat}(ht:P.underlying t=some (.struct fs.toArray)) (hz:P.cellsOf t=z) (h:Flds P 0 fs z' T) (e:z'=z:=by rfl):Reads P t z T:=⟨hz,fun H enc w fuel cs x hx=>by
 subst e
 obtain⟨xs,n,_,rfl,hl,hlen,hf⟩:=DataW.trod_struct ht hx
 rw[hz]at hl
 obtain⟨l,h1,h2,h3⟩:=h.read (H:=H) (enc:=enc) (w:=w) (n:=n) (cs:=cs) (by omega) fun f hm=>by
  obtain⟨i,hi⟩:=List.mem_iff_getElem?.1 hm
  have h1:=hf i f (by simpa using hi)
  have h2:i<xs.length:=by
   have:=(List.getElem?_eq_some_iff.1 hi).1
   simp at hlen
   omega
  rw[List.getElem?_eq_getElem h2]at h1
  exact⟨_,h1⟩
 refine⟨l,h1,h2,?_⟩
 rw[List.drop_zero,List.take_of_length_le (by omega)]at h3
 exact h3⟩
theorem tR (ht:P.underlying t=some (.slice e)) (hz:P.cellsOf t=1) (hz0:0<z) (h:Reads P e z T):Reads P t 1 (fun l=>∃rows:List (List Tr),(∀r∈rows,T r∧r.length=z)∧l=[.s false e z rows.length rows.flatten]):=⟨hz,fun H enc w fuel cs x hx=>by
 have hlen:∀(rows:List (List Tr)),(∀r∈rows,T r∧r.length=z)→rows.flatten.length=rows.length*z:=by
  intro rows
  induction rows with
  | nil=>intro _;simp
  | cons r rows ih=>
   intro hr
   rw[List.flatten_cons,List.length_append,(hr r List.mem_cons_self).2,ih fun r hm=>hr r (List.mem_cons_of_mem _ hm),List.length_cons,Nat.succ_mul,Nat.add_comm]
 rcases Deep.open_slice ht hx with⟨rfl,_⟩ | ⟨a,len,cap,m,n,D,Pl,rfl,_,hl,hm,hmm,_,hel⟩
 ·refine⟨_,⟨[],fun _ h=>(by cases h),rfl⟩,rfl,?_⟩
  simp only[FRL,FR,and_true]
  exact⟨none,0,rfl,Nat.le_refl _,by omega,by simp,.inl rfl⟩
 have hmc:m=cap:=by simpa using hmm
 rw[h.1]at hel
 have hex:∀i:Nat,∃l:List Tr,i<len→T l∧l.length=z∧∀j y,l[j]? =some y→∃u,w.cell? ((a.add (i*z)).add j)=some u∧FR w (Ef w) y u:=fun i=>by
  by_cases hi:i<len
  ·obtain⟨cs',h1,h2⟩:=hel i (by omega)
   obtain⟨l,g1,g2,g3⟩:=h.2 H enc w n cs' _ h2
   obtain⟨_,h3,h4⟩:=World.cells?_some h1
   refine⟨l,fun _=>⟨g1,g2,fun j y hj=>?_⟩⟩
   obtain⟨u,hu,hy⟩:=My g3 hj
   have hjl:=(List.getElem?_eq_some_iff.1 hj).1
   exact⟨u,by rw[h4 j (by omega),hu],hy⟩
  exact⟨[],fun h=>absurd h hi⟩
 have hF:=fun i=>Classical.choose_spec (hex i)
 have hrow:∀r∈(List.range len).map (fun i=>Classical.choose (hex i)),T r∧r.length=z:=fun r hr=>by
  obtain⟨i,hi,rfl⟩:=List.mem_map.1 hr
  have:=hF i (List.mem_range.1 hi)
  exact⟨this.1,this.2.1⟩
 refine⟨_,⟨_,hrow,rfl⟩,rfl,?_⟩
 have h5:=hlen _ hrow
 simp only[FRL,and_true,FR]
 refine⟨some a,cap,by simp,by simpa using hl,by unfold maxLen at hm;omega,h5,?_⟩
 rcases Nat.eq_zero_or_pos len with h0 | h0
 ·exact .inl (by simp[h0])
 refine .inr ⟨a,rfl,?_,vW fun j y hj=>?_⟩
 ·obtain⟨_,g2,g3⟩:=hF 0 h0
  obtain⟨u,hu,_⟩:=g3 0 _ (List.getElem?_eq_getElem (by omega))
  have:=World.block_lt_of_cell? w ((a.add (0*z)).add 0) hu
  rwa[jC,jC]at this
 have hjl:=(List.getElem?_eq_some_iff.1 hj).1
 rw[h5,List.length_map,List.length_range]at hjl
 have hi:j/z<len:=Nat.div_lt_of_lt_mul (by rw[Nat.mul_comm];exact hjl)
 obtain⟨_,g2,g3⟩:=hF (j/z) hi
 have hz1:=Nat.mod_lt j hz0
 have hget:∀(rows:List (List Tr)),(∀r∈rows,T r∧r.length=z)→∀(i o:Nat) (r:List Tr),rows[i]? =some r→o<z→rows.flatten[i*z+o]? =r[o]? :=by
  intro rows
  induction rows with
  | nil=>intro _ i o r h;simp at h
  | cons r rows ih=>
   intro hr i o r' hi ho
   have hrl:=(hr r List.mem_cons_self).2
   cases i with
   | zero=>
    simp at hi
    subst hi
    rw[Nat.zero_mul,Nat.zero_add,List.flatten_cons,List.getElem?_append_left (by omega)]
   | succ i=>
    rw[List.flatten_cons,List.getElem?_append_right (by rw[Nat.succ_mul];omega),hrl,show(i+1)*z+o-z=i*z+o by rw[Nat.succ_mul];omega]
    exact ih (fun r hm=>hr r (List.mem_cons_of_mem _ hm)) i o r' (by simpa using hi) ho
 have hd:=Nat.div_add_mod j z
 rw[Nat.mul_comm]at hd
 rw[←hd,hget _ hrow (j/z) (j%z) (Classical.choose (hex (j/z))) (by simp[hi]) hz1]at hj
 obtain⟨u,hu,hy⟩:=g3 _ _ hj
 refine⟨u,?_,hy⟩
 rw[Nat.zero_add]
 have e2:(a.add (j/z*z)).add (j%z)=a.add j:=by rw[wR,hd]
 rwa[e2]at hu⟩
theorem sF {α:Type}(f:α→List Tr) (Q:α→Prop):∀{rows:List (List Tr)},(∀r∈rows,∃a,Q a∧r=f a)→∃xs:List α,(∀a∈xs,Q a)∧rows.flatten=xs.flatMap f∧rows.length=xs.length
 | [],_=>⟨[],fun _ h=>(by cases h),rfl,rfl⟩
 | r::rows,h=>by
  obtain⟨a,h1,rfl⟩:=h r List.mem_cons_self
  obtain⟨xs,h2,h3,h4⟩:=sF f Q fun r hm=>h r (List.mem_cons_of_mem _ hm)
  exact⟨a::xs,fun b hb=>(List.mem_cons.1 hb).elim (fun e=>e▸h1) (h2 b),by simp[h3],by simp[h4]⟩
theorem Yy (ht:P.underlying t=some (.slice e)) (he:P.underlying e=some (.int .u32)) (hz:P.cellsOf t=1) (hze:P.cellsOf e=1) (hn:e=113):Reads P t 1 (fun l=>∃xs:List Nat,Lim 4294967296 xs∧l=[sU false xs]):=
 (tR ht hz (by omega) (Tq he hze)).mono fun l ⟨rows,h1,h2⟩=>by
  obtain⟨xs,h3,h4,h5⟩:=sF (fun n:Nat=>[Tr.v (.int .u32 (n:Int))]) (fun n=>n<4294967296) (rows:=rows) fun r hr=>by
   obtain⟨⟨n,rfl,h1,h2⟩,_⟩:=h1 r hr
   have e1:IntKind.u32.min=0:=rfl
   have e2:IntKind.u32.max=4294967295:=rfl
   rw[e1]at h1
   rw[e2]at h2
   exact⟨n.toNat,by omega,by rw[Int.toNat_of_nonneg h1]⟩
  refine⟨xs,h3,?_⟩
  rw[h2,h4,h5,sU,hn]
  have:∀xs:List Nat,xs.flatMap (fun n:Nat=>[Tr.v (.int .u32 (n:Int))])=aX xs:=by
   intro xs
   induction xs with
   | nil=>rfl
   | cons n xs ih=>rw[List.flatMap_cons,ih];rfl
  rw[this]
theorem FT (hb:Reads P t z (fun l=>∃a b,l=a++b∧(∃s,a=[.v (.bool s)])∧∃b' c',b=b'++c'∧(∃xs:List Nat,Lim 4294967296 xs∧b'=[sU false xs])∧c'=[])):Reads P t z (fun l=>∃(s:Bool) (xs:List Nat),Lim 4294967296 xs∧l=[.v (.bool s),sU false xs]):=
 hb.mono fun l ⟨a,b,h1,⟨s,h2⟩,b',c',h3,⟨xs,h4,h5⟩,h6⟩=>⟨s,xs,h4,by rw[h1,h2,h3,h5,h6];rfl⟩
end
def LimF (a:Fr4):Prop:=Lim 4294967296 a.x∧Lim 4294967296 a.y
theorem LimF.ok {a:Fr4}(h:LimF a) (h2:a.x.length≤6∧a.y.length≤6):a.ok:=⟨h.1,h.2,by omega,by omega⟩
end Go.Proofs.YtbbabfkgdnkehaaGreat
namespace Go.Proofs.YtbbabfkgdnkehaaGreat
open Go Go.ChangeShapes Go.WideShapes Go.ChangeAt Go.RowKit
theorem LO:Tryz.prog.cellsOf 46=2:=by kernel_rfl
theorem Na:Tryz.prog.cellsOf 4=1:=by kernel_rfl
theorem LP:Tryz.prog.cellsOf 113=1:=by kernel_rfl
theorem Yz:Tryz.prog.cellsOf 44=1:=by kernel_rfl
theorem Ts:Reads Tryz.prog 46 2 (fun l=>∃a:Zi,Lim 4294967296 a.x∧l=VA false a):=by
 have h1:=Mz Tryz.underlying4 Na
 have h2:=Yy Tryz.underlying44 Tryz.underlying113 Yz LP rfl
 have h3:=vV Tryz.underlying46 LO (.cons rfl h1 (.cons rfl h2 .nil))
 exact(FT h3).mono fun l ⟨s,xs,h4,h5⟩=>⟨⟨s,xs⟩,h4,h5⟩
theorem Tt {W:World}{y:Tr}{u:Value}(hu:u.cells.toList=[u]) (h:FRL W (Ef W) [y] u.cells.toList):bU W (Ef W) [] (.one (.t y)) u:=by
 rw[hu]at h
 simp only[FRL,and_true]at h
 simpa only[bU,AR]using h
theorem LQ:Tryz.prog.cellsOf 48=4:=by kernel_rfl
theorem FU:Tryz.prog.cellsOf 60=1:=by kernel_rfl
theorem Tu:Reads Tryz.prog 48 4 (fun l=>∃a:Fr4,LimF a∧l=a.tr false):=
 (vV Tryz.underlying48 LQ (.cons rfl Ts (.cons rfl Ts .nil))).mono fun l ⟨a,b,h1,⟨z,h2,h3⟩,b',c',h4,⟨y,h5,h6⟩,h7⟩=>⟨⟨z.s,z.x,y.s,y.x⟩,⟨h2,h5⟩,by rw[h1,h3,h4,h6,h7];rfl⟩
theorem FW:Reads Tryz.prog 60 1 (fun l=>∃xs:List Fr4,(∀x∈xs,LimF x)∧l=[sQ false xs]):=by
 have h:=tR Tryz.underlying60 FU (by omega) Tu
 refine⟨h.1,fun H enc w fuel cs x hx=>?_⟩
 obtain⟨l,⟨rows,h1,rfl⟩,h3,h4⟩:=h.2 H enc w fuel cs x hx
 obtain⟨xs,e1,e2,e3⟩:=sF (Fr4.tr false) (fun a:Fr4=>LimF a) (rows:=rows) fun r hr=>(h1 r hr).1
 refine⟨_,⟨xs,e1,rfl⟩,rfl,?_⟩
 rw[e2,e3]at h4
 cases cs with
 | nil=>simp only[FRL]at h4
 | cons v cs=>
  simp only[sQ,FRL,FR]at h4⊢
  exact h4
theorem FX:Tryz.prog.cellsOf 3=1:=by kernel_rfl
theorem FY:Reads Tryz.prog 3 1 (fun l=>∃n:Int,(-9223372036854775808≤n∧n≤9223372036854775807)∧l=[.v (.int .i64 n)]):=
 (Tq Tryz.underlying3 FX).mono fun l ⟨n,h1,h2,h3⟩=>⟨n,⟨h2,h3⟩,h1⟩
theorem FZ (xs:List Bool):xs.flatMap (fun b:Bool=>[Tr.v (.bool b)])=bT xs:=by
 unfold bT
 induction xs with
 | nil=>rfl
 | cons b xs ih=>rw[List.flatMap_cons,ih];rfl
theorem Tv:Tryz.prog.cellsOf 65=1:=by kernel_rfl
theorem Za:Tryz.prog.cellsOf 67=6:=by kernel_rfl
theorem Tw:Tryz.prog.cellsOf 22=1:=by kernel_rfl
theorem Tx:Reads Tryz.prog 65 1 (fun l=>∃xs:List Bool,True∧l=[gD xs]):=
 (tR Tryz.underlying65 Tv (by omega) (Mz Tryz.underlying4 Na)).mono fun l ⟨rows,h1,h2⟩=>by
  obtain⟨xs,h3,h4,h5⟩:=sF (fun b:Bool=>[.v (.bool b)]) (fun _=>True) (rows:=rows) fun r hr=>(h1 r hr).1.imp fun b hb=>⟨trivial,hb⟩
  refine⟨xs,trivial,?_⟩
  rw[h2,h4,h5,FZ]
  rfl
def rI (y:Yr):Prop:=(∀a∈y.b,LimF a)∧LimF y.l
theorem Zb:Reads Tryz.prog 67 6 (fun l=>∃y:Yr,rI y∧l=eP y):=
 (vV Tryz.underlying67 Za (.cons rfl Tx (.cons rfl FW (.cons rfl Tu .nil)))).mono
  fun l ⟨a1,b1,e1,⟨m,_,r1⟩,a2,b2,e2,⟨b,q2,r2⟩,a3,b3,e3,⟨c,q3,r3⟩,e4⟩=>⟨⟨m,b,c⟩,⟨q2,q3⟩,by rw[e1,r1,e2,r2,e3,r3,e4];rfl⟩
theorem Ty:Reads Tryz.prog 22 1 (fun l=>∃xs:List Yr,(∀x∈xs,rI x)∧l=[iX xs]):=
 (tR Tryz.underlying22 Tw (by omega) Zb).mono fun l ⟨rows,h1,h2⟩=>by
  obtain⟨xs,h3,h4,h5⟩:=sF eP rI (rows:=rows) fun r hr=>(h1 r hr).1
  exact⟨xs,h3,by rw[h2,h4,h5];rfl⟩
end Go.Proofs.YtbbabfkgdnkehaaGreat
namespace Go.Proofs.YtbbabfkgdnkehaaGreat
open Go Go.RowKit
section
variable {x:Cx}{g:Nat→FV}{ob:List (Option Ob)}{Q:Post}
theorem WP.sln {c:Code}{i t z n:Nat}{o:Bool}{l:List Tr}(hlk:lk x.n g (.tmp i)=.one (.t (.s o t z n l))) (k:n≤9223372036854775807→WP x c g ob Q):WP x c g ob Q:=fun ts W hR=>by
 obtain⟨cs,hR'⟩:=hR
 have h1:=hR'.lk (.tmp i)
 rw[hlk]at h1
 simp only[bG,bU,AR,FR]at h1
 obtain⟨A,c9,_,h2,h3,_⟩:=h1
 exact k (by omega) ts W ⟨cs,hR'⟩
end
theorem qY {a:Fr4}(h:LimF a) (h3:a.len 3):a.ok:=by
 unfold Fr4.len at h3
 exact h.ok ⟨by omega,by omega⟩
def fL (fw:Int) (ys:List Yr):List Rl:=if fG fw ys=0 then(cG fw.toNat ys).rls ((cG fw.toNat ys).run ys.length) ys.length else []
def cJ (fw:Int) (ys:List Yr):List Vn:=if fG fw ys=0 then(cG fw.toNat ys).vnE ys.length else []
def bF (fw:Int) (ys:List Yr):List Ur:=if fG fw ys=0 then(cG fw.toNat ys).run ys.length else []
theorem yZ {fw:Int}{ys:List Yr}(hf:lN ys=true) (hy:∀y∈ys,rI y) (h:fG fw ys=0):(cG fw.toNat ys).Ok ys.length∧(∀t,t<ys.length→eP (aT ys t)=(cG fw.toNat ys).yrq t)∧((fw.toNat:Nat):Int)=fw∧ys.length≤10∧∀t,t<ys.length→(aT ys t).m.length=(aT ys 0).m.length∧(aT ys t).b.length=(aT ys 0).m.length∧(∀a∈(aT ys t).b,a=Fr4.of a.q)∧(aT ys t).l=Fr4.of (aT ys t).l.q:=by
 obtain⟨h1,h2⟩:=Ih hf
 obtain⟨g1,g2,g3,g4⟩:=Yu (fun y hm=>⟨fun a ha=>qY ((hy y hm).1 a ha) ((h2 y hm).2.2.2 a ha),qY (hy y hm).2 (h2 y hm).2.2.1⟩) h
 have h10:ys.length≤10:=by omega
 refine⟨FL h10 (fun y hm=>(h2 y hm).1) (fun y hm=>(g4 y hm).2.1) (by omega) (fun y hm a ha=>⟨(g4 y hm).2.2.1 a ha,(h2 y hm).2.2.2 a ha⟩) (fun y hm=>⟨⟨(g4 y hm).2.2.2.1,(h2 y hm).2.2.1⟩,(g4 y hm).2.2.2.2⟩),fun t ht=>?_,by omega,h10,fun t ht=>?_⟩
 ·have h4:=g4 _ (jH ht)
  exact LD h4.1 h4.2.1 h4.2.2.1 h4.2.2.2.1
 have h4:=g4 _ (jH ht)
 exact⟨h4.1,h4.2.1,h4.2.2.1,h4.2.2.2.1⟩
theorem Ir {fw:Int}{ys:List Yr}(hf:lN ys=true) (hy:∀y∈ys,rI y):aD false Tryz.prog 12 [] [.one (tv (.int .i64 fw)),.one (.t (iX ys))] (aN (.tup [.agg [.t (dF true (fL fw ys)),.t (cZ true false (cJ fw ys)),.t (cN true false (bF fw ys))],.one (tv (.int .i64 (fG fw ys)))])):=by
 obtain⟨h1,h2⟩:=Ih hf
 have hb:∀y∈ys,(∀a∈y.b,a.ok)∧y.l.ok∧y.b.length≤1073741823:=fun y hm=>⟨fun a ha=>qY ((hy y hm).1 a ha) ((h2 y hm).2.2.2 a ha),qY (hy y hm).2 (h2 y hm).2.2.1,by have:=(h2 y hm).2.1;omega⟩
 by_cases h:fG fw ys=0
 ·obtain⟨g1,g2,g3,g4,_⟩:=yZ hf hy h
  have h9:=FO (R:=cG fw.toNat ys) hb (by rw[show(((cG fw.toNat ys).f:Nat):Int)=fw from g3];exact h) rfl g1 g2
  rw[show(((cG fw.toNat ys).f:Nat):Int)=fw from g3]at h9
  unfold fL cJ bF
  rw[if_pos h,if_pos h,if_pos h,h]
  exact h9
 unfold fL cJ bF
 rw[if_neg h,if_neg h,if_neg h]
 exact Yn hb (by omega) h
theorem jW {p q:Rat}(hp:Sz 68719476736 p) (hq:Sz 68719476736 q) (h:p=q):aD true Tryz.prog 19 [] [qF (.of p),qF (.of q)] (aN (.one (tv (.int .i64 0)))):=by
 have h1:=xB (Qn.of hp) (Qn.of hq)
 subst h
 rwa[show(p-p).num.sign=0 by rw[Rat.sub_self];rfl]at h1
def oT (m:Bool) (b l:Int):Yr:=⟨[true,m],[Fr4.of (Rat.divInt 7 2),Fr4.of (Rat.divInt b 1)],Fr4.of (Rat.divInt l 1)⟩
theorem qZ {a:Fr4}:aD true Tryz.prog 30 [] [qF a] (aN (.one (tv (.bool (eS a))))):=by
 refine cB Tryz.func30 rfl Tryz.ntmps30 rfl aA rfl fun N9 w9 c0 h0=>?_
 refine sq ?_;refine rl ?_;refine bx 0 ?_;refine o1 ?_;refine nl ?_;refine sq ?_;refine rl ?_;refine o1 ?_;refine o1 ?_;refine ld ?_;(iterate 3 refine o1 ?_)
 refine WL.split (t:=8) rfl (fun h1=>?_) (fun h1=>?_)
 ·refine o1 ?_;refine o1 ?_;refine ld ?_;(iterate 4 refine o1 ?_);refine nl ?_;refine rt ?_
  exact iS (.inl rfl) rfl (Bool.eq_iff_iff.2 (by unfold eS;simp only[Bool.and_eq_true,decide_eq_true_eq,Bool.false_eq_true,false_iff];omega))
 (iterate 5 refine dS ?_);refine o1 ?_;refine o1 ?_;refine nl ?_;refine rt ?_
 exact iS (.inl rfl) rfl (Bool.eq_iff_iff.2 (by unfold eS;simp only[Bool.and_eq_true,decide_eq_true_eq,Bool.false_eq_true,false_iff];omega))
theorem GA {ys:List Yr}:aD true Tryz.prog 8 [] [.one (.t (iX ys))] (aN (.one (tv (.bool (lN ys))))):=by
 refine cB Tryz.func8 rfl Tryz.ntmps8 rfl aA rfl fun N9 w9 c0 h0=>?_
 refine WP.sln (i:=0) rfl fun hlen=>?_
 refine sq ?_;refine rl ?_;refine o1 ?_;refine nl ?_;refine sq ?_;refine sq ?_;refine rl ?_;(iterate 4 refine o1 ?_);refine WL.split (t:=8) rfl (fun h1=>?_) (fun h1=>?_)
 ·(iterate 5 refine o1 ?_);refine WL.split (t:=13) rfl (fun h2=>?_) (fun h2=>?_)
  ·(iterate 3 refine dS ?_);refine o1 ?_;refine nl ?_;refine iU rfl ?_;refine sq ?_;refine rl ?_;refine o1 ?_;refine nl ?_;refine rt ?_
   exact iS (.inl rfl) rfl ((yX (by omega)).symm)
  (iterate 4 refine o1 ?_);refine nl ?_;refine bN rfl (fun h3=>?_) (fun h3=>?_)
  ·refine sq ?_;refine rl ?_;refine o1 ?_;refine nl ?_;refine rt ?_;exact iS (.inl rfl) rfl ((yX (by omega)).symm)
  refine sk ?_;refine sq ?_;refine sq ?_;refine rl ?_;refine o1 ?_;refine nl ?_;refine bl ?_
  refine lp (γ:=Nat) (fun s=>cC [(0,.one (.t (iX ys))),(3,.one (tv (.int .i64 ((s:Nat):Int))))]) (fun s=>([]:List Ob).map some) (fun s=>s≤ys.length∧∀j,j<s→kW (aT ys j)=true) (fun s=>ys.length-s) 0 ⟨Nat.zero_le _,fun j hj=>absurd hj (Nat.not_lt_zero j)⟩ (aP h0 [] _ _ (by decide) ⟨rfl,rfl,trivial⟩ rfl) ?_
  rintro i9 ⟨hi9,hA⟩;refine sq ?_;refine sq ?_;refine rl ?_;(iterate 4 refine o1 ?_);refine nl ?_;refine bN rfl (fun h4=>?_) (fun h4=>?_)
  ·refine sk ?_;refine sq ?_;refine bl ?_;refine sq ?_;refine sq ?_;refine rl ?_;(iterate 4 refine o1 ?_)
   refine dZ ([gD (aT ys (i9)).m]) (aS (f:=eP) (z:=6) (o:=0) dU (dA (by omega)) (Nat.le_of_ble_eq_true rfl) rfl) ?_
   (iterate 3 refine o1 ?_);refine WL.split (t:=31) rfl (fun h5=>?_) (fun h5=>?_)
   ·(iterate 7 refine dS ?_);refine o1 ?_;refine o1 ?_;(iterate 7 refine dS ?_);refine o1 ?_;refine nl ?_;refine iU rfl ?_;refine sq ?_;refine rl ?_;refine o1 ?_;refine nl ?_
    refine rt ?_
    exact iS (.inl rfl) rfl ((lY (k:=i9) (by omega) (nJ (by first | exact .inl (by omega) | exact .inr (.inl (by omega)) | exact .inr (.inr (by simpa using h5))))).symm)
   (iterate 4 refine o1 ?_);refine dZ ([sQ false (aT ys (i9)).b]) (aS (f:=eP) (z:=6) (o:=1) dU (dA (by omega)) (Nat.le_of_ble_eq_true rfl) rfl) ?_
   (iterate 4 refine o1 ?_);refine WL.split (t:=40) rfl (fun h6=>?_) (fun h6=>?_)
   ·(iterate 7 refine dS ?_);refine o1 ?_;refine nl ?_;refine iU rfl ?_;refine sq ?_;refine rl ?_;refine o1 ?_;refine nl ?_;refine rt ?_
    exact iS (.inl rfl) rfl ((lY (k:=i9) (by omega) (nJ (by first | exact .inl (by omega) | exact .inr (.inl (by omega)) | exact .inr (.inr (by simpa using h6))))).symm)
   (iterate 4 refine o1 ?_);refine dZ ((aT ys (i9)).l.tr false) (aS (f:=eP) (z:=6) (o:=2) dU (dA (by omega)) (Nat.le_of_ble_eq_true rfl) rfl) ?_
   refine ca (qZ (a:=(aT ys (i9)).l)) Qa ⟨aE rfl,rfl⟩ (.one (tv (.bool (eS (aT ys (i9)).l)))) ?_;refine WL.splitb (t:=46) rfl (fun h7=>?_) (fun h7=>?_)
   ·refine o1 ?_;refine o1 ?_;refine nl ?_;refine fW rfl ?_;refine sk ?_;refine sq ?_;have hm9:(aT ys (i9)).m.length≤6:=by omega
    have hb9:(aT ys (i9)).b.length≤6:=by omega
    have hl9:eS (aT ys (i9)).l=true:=by simpa using h7
    refine rl ?_;refine o1 ?_;refine nl ?_;refine bl ?_
    refine lp (γ:=Nat) (fun s=>cC [(0,.one (.t (iX ys))),(3,.one (tv (.int .i64 ((i9:Nat):Int)))),(4,.one (tv (.int .i64 ((s:Nat):Int))))]) (fun s=>([]:List Ob).map some) (fun s=>s≤(aT ys (i9)).b.length∧∀j,j<s→eS (dI (aT ys (i9)).b j)=true) (fun s=>(aT ys (i9)).b.length-s) 0 ⟨Nat.zero_le _,fun j hj=>absurd hj (Nat.not_lt_zero j)⟩ (aP h0 [] _ _ (by decide) ⟨rfl,rfl,rfl,trivial⟩ rfl) ?_
    rintro k9 ⟨hk9,hB⟩;refine sq ?_;refine sq ?_;refine rl ?_;(iterate 5 refine o1 ?_)
    refine dZ ([sQ false (aT ys (i9)).b]) (aS (f:=eP) (z:=6) (o:=1) dU (dA (by omega)) (Nat.le_of_ble_eq_true rfl) rfl) ?_
    refine o1 ?_;refine o1 ?_;refine nl ?_;refine bN rfl (fun h8=>?_) (fun h8=>?_)
    ·refine sk ?_;refine sq ?_;refine bl ?_;refine sq ?_;refine rl ?_;(iterate 4 refine o1 ?_)
     refine dZ ([sQ false (aT ys (i9)).b]) (aS (f:=eP) (z:=6) (o:=1) dU (dA (by omega)) (Nat.le_of_ble_eq_true rfl) rfl) ?_
     refine o1 ?_;refine o1 ?_;refine dZ ((dI (aT ys (i9)).b (k9)).tr false) (jR (aT ys (i9)).b (k:=k9) (by omega)) ?_
     refine ca (qZ (a:=(dI (aT ys (i9)).b (k9)))) Qa ⟨aE rfl,rfl⟩ (.one (tv (.bool (eS (dI (aT ys (i9)).b (k9)))))) ?_
     refine WL.splitb (t:=67) rfl (fun h9=>?_) (fun h9=>?_)
     ·refine o1 ?_;refine nl ?_;refine fW rfl ?_;refine sk ?_;refine rl ?_;refine o1 ?_;refine o1 ?_
      refine WL.cast (t:=58) (u':=.int .i64 ((k9+1:Nat):Int)) rfl (aC (by omega)) ?_
      refine o1 ?_;refine nl ?_
      exact⟨k9+1,by omega,⟨by omega,Fu (f:=fun j=>eS (dI (aT ys (i9)).b j)) hB (by simpa using h9)⟩,aP h0 [] _ _ (by decide) ⟨rfl,rfl,rfl,trivial⟩ rfl⟩
     refine o1 ?_;refine nl ?_;refine iU rfl ?_;refine sq ?_;refine rl ?_;refine o1 ?_;refine nl ?_;refine rt ?_
     exact iS (.inl rfl) rfl ((lY (k:=i9) (by omega) (Ms (k:=k9) (by omega) (by simpa using h9))).symm)
    refine ex ?_;refine rl ?_;refine o1 ?_;refine o1 ?_;refine WL.cast (t:=23) (u':=.int .i64 ((i9+1:Nat):Int)) rfl (aC (by omega)) ?_
    refine o1 ?_;refine nl ?_
    exact⟨i9+1,by omega,⟨by omega,Fu (f:=fun j=>kW (aT ys j)) hA (If hm9 hb9 hl9 (k:=k9) (by omega) hB)⟩,aP h0 [] _ _ (by decide) ⟨rfl,rfl,trivial⟩ rfl⟩
   refine o1 ?_;refine o1 ?_;refine nl ?_;refine iU rfl ?_;refine sq ?_;refine rl ?_;refine o1 ?_;refine nl ?_;refine rt ?_
   exact iS (.inl rfl) rfl ((lY (k:=i9) (by omega) (nJ (by first | exact .inl (by omega) | exact .inr (.inl (by omega)) | exact .inr (.inr (by simpa using h7))))).symm)
  refine ex ?_;refine sq ?_;refine rl ?_;refine o1 ?_;refine nl ?_;refine rt ?_;exact iS (.inl rfl) rfl ((Ig (k:=i9) (by omega) hA (by omega)).symm)
 (iterate 3 refine dS ?_);(iterate 6 refine o1 ?_);refine nl ?_;refine bN rfl (fun h10=>?_) (fun h10=>?_)
 ·refine sq ?_;refine rl ?_;refine o1 ?_;refine nl ?_;refine rt ?_;exact iS (.inl rfl) rfl ((yX (by omega)).symm)
 refine sk ?_;refine sq ?_;refine sq ?_;refine rl ?_;refine o1 ?_;refine nl ?_;refine bl ?_
 refine lp (γ:=Nat) (fun s=>cC [(0,.one (.t (iX ys))),(3,.one (tv (.int .i64 ((s:Nat):Int))))]) (fun s=>([]:List Ob).map some) (fun s=>s≤ys.length∧∀j,j<s→kW (aT ys j)=true) (fun s=>ys.length-s) 0 ⟨Nat.zero_le _,fun j hj=>absurd hj (Nat.not_lt_zero j)⟩ (aP h0 [] _ _ (by decide) ⟨rfl,rfl,trivial⟩ rfl) ?_
 rintro i9 ⟨hi9,hA⟩;refine sq ?_;refine sq ?_;refine rl ?_;(iterate 4 refine o1 ?_);refine nl ?_;refine bN rfl (fun h11=>?_) (fun h11=>?_)
 ·refine sk ?_;refine sq ?_;refine bl ?_;refine sq ?_;refine sq ?_;refine rl ?_;(iterate 4 refine o1 ?_)
  refine dZ ([gD (aT ys (i9)).m]) (aS (f:=eP) (z:=6) (o:=0) dU (dA (by omega)) (Nat.le_of_ble_eq_true rfl) rfl) ?_
  (iterate 3 refine o1 ?_);refine WL.split (t:=31) rfl (fun h12=>?_) (fun h12=>?_)
  ·(iterate 7 refine dS ?_);refine o1 ?_;refine o1 ?_;(iterate 7 refine dS ?_);refine o1 ?_;refine nl ?_;refine iU rfl ?_;refine sq ?_;refine rl ?_;refine o1 ?_;refine nl ?_
   refine rt ?_
   exact iS (.inl rfl) rfl ((lY (k:=i9) (by omega) (nJ (by first | exact .inl (by omega) | exact .inr (.inl (by omega)) | exact .inr (.inr (by simpa using h12))))).symm)
  (iterate 4 refine o1 ?_);refine dZ ([sQ false (aT ys (i9)).b]) (aS (f:=eP) (z:=6) (o:=1) dU (dA (by omega)) (Nat.le_of_ble_eq_true rfl) rfl) ?_
  (iterate 4 refine o1 ?_);refine WL.split (t:=40) rfl (fun h13=>?_) (fun h13=>?_)
  ·(iterate 7 refine dS ?_);refine o1 ?_;refine nl ?_;refine iU rfl ?_;refine sq ?_;refine rl ?_;refine o1 ?_;refine nl ?_;refine rt ?_
   exact iS (.inl rfl) rfl ((lY (k:=i9) (by omega) (nJ (by first | exact .inl (by omega) | exact .inr (.inl (by omega)) | exact .inr (.inr (by simpa using h13))))).symm)
  (iterate 4 refine o1 ?_);refine dZ ((aT ys (i9)).l.tr false) (aS (f:=eP) (z:=6) (o:=2) dU (dA (by omega)) (Nat.le_of_ble_eq_true rfl) rfl) ?_
  refine ca (qZ (a:=(aT ys (i9)).l)) Qa ⟨aE rfl,rfl⟩ (.one (tv (.bool (eS (aT ys (i9)).l)))) ?_;refine WL.splitb (t:=46) rfl (fun h14=>?_) (fun h14=>?_)
  ·refine o1 ?_;refine o1 ?_;refine nl ?_;refine fW rfl ?_;refine sk ?_;refine sq ?_;have hm9:(aT ys (i9)).m.length≤6:=by omega
   have hb9:(aT ys (i9)).b.length≤6:=by omega
   have hl9:eS (aT ys (i9)).l=true:=by simpa using h14
   refine rl ?_;refine o1 ?_;refine nl ?_;refine bl ?_
   refine lp (γ:=Nat) (fun s=>cC [(0,.one (.t (iX ys))),(3,.one (tv (.int .i64 ((i9:Nat):Int)))),(4,.one (tv (.int .i64 ((s:Nat):Int))))]) (fun s=>([]:List Ob).map some) (fun s=>s≤(aT ys (i9)).b.length∧∀j,j<s→eS (dI (aT ys (i9)).b j)=true) (fun s=>(aT ys (i9)).b.length-s) 0 ⟨Nat.zero_le _,fun j hj=>absurd hj (Nat.not_lt_zero j)⟩ (aP h0 [] _ _ (by decide) ⟨rfl,rfl,rfl,trivial⟩ rfl) ?_
   rintro k9 ⟨hk9,hB⟩;refine sq ?_;refine sq ?_;refine rl ?_;(iterate 5 refine o1 ?_)
   refine dZ ([sQ false (aT ys (i9)).b]) (aS (f:=eP) (z:=6) (o:=1) dU (dA (by omega)) (Nat.le_of_ble_eq_true rfl) rfl) ?_
   refine o1 ?_;refine o1 ?_;refine nl ?_;refine bN rfl (fun h15=>?_) (fun h15=>?_)
   ·refine sk ?_;refine sq ?_;refine bl ?_;refine sq ?_;refine rl ?_;(iterate 4 refine o1 ?_)
    refine dZ ([sQ false (aT ys (i9)).b]) (aS (f:=eP) (z:=6) (o:=1) dU (dA (by omega)) (Nat.le_of_ble_eq_true rfl) rfl) ?_
    refine o1 ?_;refine o1 ?_;refine dZ ((dI (aT ys (i9)).b (k9)).tr false) (jR (aT ys (i9)).b (k:=k9) (by omega)) ?_
    refine ca (qZ (a:=(dI (aT ys (i9)).b (k9)))) Qa ⟨aE rfl,rfl⟩ (.one (tv (.bool (eS (dI (aT ys (i9)).b (k9)))))) ?_
    refine WL.splitb (t:=67) rfl (fun h16=>?_) (fun h16=>?_)
    ·refine o1 ?_;refine nl ?_;refine fW rfl ?_;refine sk ?_;refine rl ?_;refine o1 ?_;refine o1 ?_
     refine WL.cast (t:=58) (u':=.int .i64 ((k9+1:Nat):Int)) rfl (aC (by omega)) ?_
     refine o1 ?_;refine nl ?_
     exact⟨k9+1,by omega,⟨by omega,Fu (f:=fun j=>eS (dI (aT ys (i9)).b j)) hB (by simpa using h16)⟩,aP h0 [] _ _ (by decide) ⟨rfl,rfl,rfl,trivial⟩ rfl⟩
    refine o1 ?_;refine nl ?_;refine iU rfl ?_;refine sq ?_;refine rl ?_;refine o1 ?_;refine nl ?_;refine rt ?_
    exact iS (.inl rfl) rfl ((lY (k:=i9) (by omega) (Ms (k:=k9) (by omega) (by simpa using h16))).symm)
   refine ex ?_;refine rl ?_;refine o1 ?_;refine o1 ?_;refine WL.cast (t:=23) (u':=.int .i64 ((i9+1:Nat):Int)) rfl (aC (by omega)) ?_
   refine o1 ?_;refine nl ?_
   exact⟨i9+1,by omega,⟨by omega,Fu (f:=fun j=>kW (aT ys j)) hA (If hm9 hb9 hl9 (k:=k9) (by omega) hB)⟩,aP h0 [] _ _ (by decide) ⟨rfl,rfl,trivial⟩ rfl⟩
  refine o1 ?_;refine o1 ?_;refine nl ?_;refine iU rfl ?_;refine sq ?_;refine rl ?_;refine o1 ?_;refine nl ?_;refine rt ?_
  exact iS (.inl rfl) rfl ((lY (k:=i9) (by omega) (nJ (by first | exact .inl (by omega) | exact .inr (.inl (by omega)) | exact .inr (.inr (by simpa using h14))))).symm)
 refine ex ?_;refine sq ?_;refine rl ?_;refine o1 ?_;refine nl ?_;refine rt ?_;exact iS (.inl rfl) rfl ((Ig (k:=i9) (by omega) hA (by omega)).symm)
theorem oZ {n d:Int}(h1:-9223372036854775808≤n) (h2:n≤9223372036854775807) (h3:-9223372036854775808≤d) (h4:d≤9223372036854775807):aD false Tryz.prog 29 [] [.one (tv (.int .i64 n)),.one (tv (.int .i64 d))] (aN (qF (.of (Rat.divInt n d)))):=by
 refine cB Tryz.func29 rfl Tryz.ntmps29 rfl aA rfl fun N9 w9 c0 h0=>?_
 have hs:=tS h1 h2 h3 h4
 have hl:(Fr4.of (Rat.divInt n d)).len 1099511627776:=⟨Nat.le_trans hs.1 (by omega),Nat.le_trans hs.2 (by omega)⟩
 refine sq ?_;refine rl ?_;refine al 0 ?_;refine nl ?_;refine sq ?_;refine rl ?_;refine o1 ?_;refine o1 ?_
 refine ca (PU h1 h2 h3 h4) SZ ⟨a1 rfl,a1 rfl,rfl⟩ (.tup [qF (.of (Rat.divInt n d)),.one (tv (.int .i64 (if d=0 then 20 else 0)))]) ?_;(iterate 3 refine o1 ?_);refine al 1 ?_;refine st ?_
 refine o1 ?_;refine nl ?_;refine sq ?_;refine rl ?_;refine ld ?_;refine ca (EP (a:=.of (Rat.divInt n d)) hl) TA ⟨aE rfl,rfl⟩ (qF (.of (Rat.divInt n d))) ?_;refine st ?_;refine nl ?_
 refine rt ?_;exact en (.inl rfl) rfl (aZ (.agg (.cons (.id rfl) (.cons (.id rfl) (.cons (.id rfl) (.cons (.id rfl) .nil)))))) (by decide) (fun h=>by cases h) (rfl)
theorem lO {m:Bool}{b l:Int}(h1:-9223372036854775808≤b) (h2:b≤9223372036854775807) (h3:-9223372036854775808≤l) (h4:l≤9223372036854775807):aD false Tryz.prog 28 [] [.one (tv (.bool m)),.one (tv (.int .i64 b)),.one (tv (.int .i64 l))] (aN (.agg ((eP (oT m b l)).map .t))):=by
 refine cB Tryz.func28 rfl Tryz.ntmps28 rfl aA rfl fun N9 w9 c0 h0=>?_
 refine sq ?_;refine rl ?_;refine al 0 ?_;refine nl ?_;refine sq ?_;refine rl ?_;refine o1 ?_;refine bs 1 ?_
 refine WL.sub (fz (i:=8) (k:=1) (t:=4) (z:=1) (n:=2) (l:=bT [true,m]) rfl rfl rfl rfl) ?_
 refine ca (oZ (n:=7) (d:=2) (by omega) (by omega) (by omega) (by omega)) tT ⟨a1 rfl,a1 rfl,rfl⟩ (qF (.of (Rat.divInt 7 2))) ?_
 refine o1 ?_;refine ca (oZ (n:=b) (d:=1) (by omega) (by omega) (by omega) (by omega)) tT ⟨a1 rfl,a1 rfl,rfl⟩ (qF (.of (Rat.divInt b 1))) ?_
 refine bs 2 ?_;refine WL.sub (RU (i:=12) (k:=2) (t:=48) (z:=4) (n:=2) (l:=([Fr4.of (Rat.divInt 7 2),Fr4.of (Rat.divInt b 1)]).flatMap (Fr4.tr false)) 52 rfl rfl rfl rfl (.one .sl)) ?_
 refine o1 ?_;refine ca (oZ (n:=l) (d:=1) (by omega) (by omega) (by omega) (by omega)) tT ⟨a1 rfl,a1 rfl,rfl⟩ (qF (.of (Rat.divInt l 1))) ?_
 refine o1 ?_;refine st ?_;refine nl ?_;refine rt ?_
 exact en (.inl rfl) rfl (aZ (.agg (.cons (.id rfl) (.cons (.id rfl) (.cons (.id rfl) (.cons (.id rfl) (.cons (.id rfl) (.cons (.id rfl) .nil)))))))) (by decide) (fun h=>by cases h) rfl
def qC:List Yr:=[oT false (-10) 0,oT true 4 100,oT true 8 100]
def yF:List Yr:=[oT false (-10) 0,oT true 4 3,oT false (-2) 9,oT true 8 100]
def qD:List Ur:=[⟨0,1,1,4⟩,⟨0,1,2,6⟩]
def uW:List Ur:=[⟨0,1,1,3⟩,⟨2,1,3,2⟩]
def Nb:List Vn:=[⟨0,1,10,3,7,0⟩,⟨2,1,2,2,0,0⟩]
theorem Nc {m:Bool}{b l:Int}:rI (oT m b l):=⟨fun a ha=>by
 have h:∀q:Rat,LimF (Fr4.of q):=fun q=>⟨aM (by omega) _,aM (by omega) _⟩
 rcases List.mem_cons.1 ha with rfl | ha
 ·exact h _
 rw[List.mem_singleton]at ha
 rw[ha]
 exact h _,⟨aM (by omega) _,aM (by omega) _⟩⟩
theorem GB:∀y∈qC,rI y:=fun y hy=>by
 simp only[qC,List.mem_cons,List.not_mem_nil,or_false]at hy
 rcases hy with rfl | rfl | rfl <;> exact Nc
theorem GC:∀y∈yF,rI y:=fun y hy=>by
 simp only[yF,List.mem_cons,List.not_mem_nil,or_false]at hy
 rcases hy with rfl | rfl | rfl | rfl <;> exact Nc
theorem LR:aD false Tryz.prog 12 [] [.one (tv (.int .i64 2)),.one (.t (iX qC))] (aN (.tup [.agg [.t (dF true (fL 2 qC)),.t (cZ true false (cJ 2 qC)),.t (cN true false qD)],.one (tv (.int .i64 0))])):=by
 have h:=Ir (fw:=2) (ys:=qC) (by kernel_rfl) GB
 rw[show fG 2 qC=0 by kernel_rfl,show bF 2 qC=qD by kernel_rfl]at h
 exact h
theorem LS:aD false Tryz.prog 12 [] [.one (tv (.int .i64 2)),.one (.t (iX yF))] (aN (.tup [.agg [.t (dF true (fL 2 yF)),.t (cZ true false Nb),.t (cN true false uW)],.one (tv (.int .i64 0))])):=by
 have h:=Ir (fw:=2) (ys:=yF) (by kernel_rfl) GC
 rw[show fG 2 yF=0 by kernel_rfl,show bF 2 yF=uW by kernel_rfl,show cJ 2 yF=Nb by kernel_rfl]at h
 exact h
theorem Ao:∀u∈qD,Sz 300 u.n:=fun u hu=>by
 simp only[qD,List.mem_cons,List.not_mem_nil,or_false]at hu
 rcases hu with rfl | rfl <;> (unfold Sz;decide+kernel)
theorem Tz:∀u∈uW,Sz 300 u.n:=fun u hu=>by
 simp only[uW,List.mem_cons,List.not_mem_nil,or_false]at hu
 rcases hu with rfl | rfl <;> (unfold Sz;decide+kernel)
theorem vX:aD true Tryz.prog 9 [] [] (aN (.one (tv (.bool true)))):=by
 refine cB Tryz.func9 rfl Tryz.ntmps9 rfl aA rfl fun N9 w9 c0 h0=>?_
 have hu1:qD.length=2:=rfl
 have hu2:uW.length=2:=rfl
 have hv2:Nb.length=2:=rfl
 refine sq ?_;refine rl ?_;refine o1 ?_;refine nl ?_;refine sq ?_;refine rl ?_;refine o1 ?_;refine nl ?_;refine sq ?_;refine rl ?_
 refine ca (lO (m:=false) (b:=(-10)) (l:=0) (by omega) (by omega) (by omega) (by omega)) zA ⟨a1 rfl,a1 rfl,a1 rfl,rfl⟩ (.agg ((eP (oT false (-10) 0)).map .t)) ?_
 refine ca (lO (m:=true) (b:=4) (l:=100) (by omega) (by omega) (by omega) (by omega)) zA ⟨a1 rfl,a1 rfl,a1 rfl,rfl⟩ (.agg ((eP (oT true 4 100)).map .t)) ?_
 refine ca (lO (m:=true) (b:=8) (l:=100) (by omega) (by omega) (by omega) (by omega)) zA ⟨a1 rfl,a1 rfl,a1 rfl,rfl⟩ (.agg ((eP (oT true 8 100)).map .t)) ?_
 refine bs 0 ?_;refine WL.sub (fz (i:=10) (k:=0) (t:=67) (z:=6) (n:=3) (l:=qC.flatMap eP) rfl rfl rfl rfl) ?_
 refine ca (LR) Zc ⟨a1 rfl,a1 rfl,rfl⟩ (.tup [.agg [.t (dF false (fL 2 qC)),.t (cZ false false (cJ 2 qC)),.t (cN false false qD)],.one (tv (.int .i64 0))]) ?_
 (iterate 3 refine o1 ?_);refine al 1 ?_;refine st ?_;refine o1 ?_;refine nl ?_;refine sq ?_;refine rl ?_
 refine ca (lO (m:=false) (b:=(-10)) (l:=0) (by omega) (by omega) (by omega) (by omega)) zA ⟨a1 rfl,a1 rfl,a1 rfl,rfl⟩ (.agg ((eP (oT false (-10) 0)).map .t)) ?_
 refine ca (lO (m:=true) (b:=4) (l:=3) (by omega) (by omega) (by omega) (by omega)) zA ⟨a1 rfl,a1 rfl,a1 rfl,rfl⟩ (.agg ((eP (oT true 4 3)).map .t)) ?_
 refine ca (lO (m:=false) (b:=(-2)) (l:=9) (by omega) (by omega) (by omega) (by omega)) zA ⟨a1 rfl,a1 rfl,a1 rfl,rfl⟩ (.agg ((eP (oT false (-2) 9)).map .t)) ?_
 refine ca (lO (m:=true) (b:=8) (l:=100) (by omega) (by omega) (by omega) (by omega)) zA ⟨a1 rfl,a1 rfl,a1 rfl,rfl⟩ (.agg ((eP (oT true 8 100)).map .t)) ?_
 refine bs 2 ?_;refine WL.sub (fz (i:=19) (k:=2) (t:=67) (z:=6) (n:=4) (l:=yF.flatMap eP) rfl rfl rfl rfl) ?_
 refine ca (LS) Zc ⟨a1 rfl,a1 rfl,rfl⟩ (.tup [.agg [.t (dF false (fL 2 yF)),.t (cZ false false Nb),.t (cN false false uW)],.one (tv (.int .i64 0))]) ?_;(iterate 3 refine o1 ?_)
 refine al 3 ?_;refine st ?_;refine o1 ?_;refine nl ?_;refine sq ?_;refine sq ?_;refine rl ?_;refine o1 ?_;refine o1 ?_
 refine WL.cast (t:=24) (u':=.bool false) rfl (congrArg Value.bool (by kernel_rfl)) ?_
 (iterate 3 refine o1 ?_);refine WL.cast (t:=27) (u':=.bool false) rfl (congrArg Value.bool (by kernel_rfl)) ?_
 (iterate 3 refine o1 ?_);refine ld ?_;refine o1 ?_;refine o1 ?_;refine WL.cast (t:=33) (u':=.bool false) rfl (congrArg Value.bool (by kernel_rfl)) ?_
 (iterate 3 refine o1 ?_);refine ld ?_;refine o1 ?_;refine o1 ?_;refine WL.cast (t:=39) (u':=.bool false) rfl (congrArg Value.bool (by kernel_rfl)) ?_
 (iterate 3 refine o1 ?_);refine ld ?_;refine o1 ?_;refine o1 ?_;refine WL.cast (t:=45) (u':=.bool false) rfl (congrArg Value.bool (by kernel_rfl)) ?_
 refine o1 ?_;refine nl ?_;refine fW rfl ?_;refine sk ?_;refine sq ?_;refine rd [1,3] (fun i=>[77].contains i) mixed ?_
 refine dv 0 ?_;refine aL 1 ?_;refine dv 2 ?_;refine dv 3 ?_
 refine eJ 4 ((Fr4.of (dH qD (0)).n).tr false) (aS (f:=(jE false)) (z:=7) (o:=3) (fR false) (fT (by omega)) (Nat.le_of_ble_eq_true rfl) rfl) ?_
 refine dv 5 ?_
 refine qV 6 4 [.one (tv (.int .i64 ((4:Nat):Int))),.one (tv (.int .i64 ((1:Nat):Int)))] rfl rfl (oZ (n:=4) (d:=1) (by omega) (by omega) (by omega) (by omega)) tT ⟨rfl,rfl,rfl⟩ ?_
 refine aR 7 rfl (jW (p:=(dH qD (0)).n) (q:=(Rat.divInt 4 1)) ((Ao _ (jG (by omega))).mono (M:=68719476736) (by omega)) ((tS (n:=4) (d:=1) (by omega) (by omega) (by omega) (by omega)).mono (M:=68719476736) (by omega)) (by kernel_rfl)) lL ⟨aE rfl,aE rfl,rfl⟩ (.one (tv (.int .i64 0))) ?_
 refine df 8 ?_;refine WD.cast (t:=55) (u':=.bool true) rfl (congrArg Value.bool (by kernel_rfl)) ?_
 refine df 9 ?_;refine dv 10 ?_;refine aL 11 ?_;refine dv 12 ?_;refine dv 13 ?_
 refine eJ 14 ((Fr4.of (dH qD (1)).n).tr false) (aS (f:=(jE false)) (z:=7) (o:=3) (fR false) (fT (by omega)) (Nat.le_of_ble_eq_true rfl) rfl) ?_
 refine dv 15 ?_
 refine qV 16 4 [.one (tv (.int .i64 ((6:Nat):Int))),.one (tv (.int .i64 ((1:Nat):Int)))] rfl rfl (oZ (n:=6) (d:=1) (by omega) (by omega) (by omega) (by omega)) tT ⟨rfl,rfl,rfl⟩ ?_
 refine aR 17 rfl (jW (p:=(dH qD (1)).n) (q:=(Rat.divInt 6 1)) ((Ao _ (jG (by omega))).mono (M:=68719476736) (by omega)) ((tS (n:=6) (d:=1) (by omega) (by omega) (by omega) (by omega)).mono (M:=68719476736) (by omega)) (by kernel_rfl)) lL ⟨aE rfl,aE rfl,rfl⟩ (.one (tv (.int .i64 0))) ?_
 refine df 18 ?_;refine WD.cast (t:=65) (u':=.bool true) rfl (congrArg Value.bool (by kernel_rfl)) ?_
 refine df 19 ?_;refine df 20 ?_;refine dv 21 ?_;refine aL 22 ?_;refine dv 23 ?_;refine dv 24 ?_
 refine eJ 25 ((Fr4.of (dH uW (0)).n).tr false) (aS (f:=(jE false)) (z:=7) (o:=3) (fR false) (fT (by omega)) (Nat.le_of_ble_eq_true rfl) rfl) ?_
 refine dv 26 ?_
 refine qV 27 4 [.one (tv (.int .i64 ((3:Nat):Int))),.one (tv (.int .i64 ((1:Nat):Int)))] rfl rfl (oZ (n:=3) (d:=1) (by omega) (by omega) (by omega) (by omega)) tT ⟨rfl,rfl,rfl⟩ ?_
 refine aR 28 rfl (jW (p:=(dH uW (0)).n) (q:=(Rat.divInt 3 1)) ((Tz _ (jG (by omega))).mono (M:=68719476736) (by omega)) ((tS (n:=3) (d:=1) (by omega) (by omega) (by omega) (by omega)).mono (M:=68719476736) (by omega)) (by kernel_rfl)) lL ⟨aE rfl,aE rfl,rfl⟩ (.one (tv (.int .i64 0))) ?_
 refine df 29 ?_;refine WD.cast (t:=76) (u':=.bool true) rfl (congrArg Value.bool (by kernel_rfl)) ?_
 refine df 30 ?_;refine df 31 ?_;refine dv 32 ?_;refine aL 33 ?_;refine dv 34 ?_;refine dv 35 ?_
 refine eJ 36 ([.v (.int .i64 (dH uW (0)).y)]) (aS (f:=(jE false)) (z:=7) (o:=2) (fR false) (fT (by omega)) (Nat.le_of_ble_eq_true rfl) rfl) ?_
 refine dv 37 ?_;refine WD.cast (t:=84) (u':=.bool true) rfl (congrArg Value.bool (by kernel_rfl)) ?_
 refine df 38 ?_;refine df 39 ?_;refine dv 40 ?_;refine aL 41 ?_;refine dv 42 ?_;refine dv 43 ?_
 refine eJ 44 ((Fr4.of (bD Nb (0)).x).tr false) (aS (f:=(eA false)) (z:=18) (o:=10) (dQ false) (jF (by omega)) (Nat.le_of_ble_eq_true rfl) rfl) ?_
 refine dv 45 ?_
 refine qV 46 4 [.one (tv (.int .i64 ((7:Nat):Int))),.one (tv (.int .i64 ((1:Nat):Int)))] rfl rfl (oZ (n:=7) (d:=1) (by omega) (by omega) (by omega) (by omega)) tT ⟨rfl,rfl,rfl⟩ ?_
 refine aR 47 rfl (jW (p:=(bD Nb (0)).x) (q:=(Rat.divInt 7 1)) (by unfold Sz;decide+kernel) ((tS (n:=7) (d:=1) (by omega) (by omega) (by omega) (by omega)).mono (M:=68719476736) (by omega)) (by kernel_rfl)) lL ⟨aE rfl,aE rfl,rfl⟩ (.one (tv (.int .i64 0))) ?_
 refine df 48 ?_;refine WD.cast (t:=95) (u':=.bool true) rfl (congrArg Value.bool (by kernel_rfl)) ?_
 refine df 49 ?_;refine df 50 ?_;refine dv 51 ?_;refine aL 52 ?_;refine dv 53 ?_;refine dv 54 ?_
 refine eJ 55 ((Fr4.of (dH uW (1)).n).tr false) (aS (f:=(jE false)) (z:=7) (o:=3) (fR false) (fT (by omega)) (Nat.le_of_ble_eq_true rfl) rfl) ?_
 refine dv 56 ?_
 refine qV 57 4 [.one (tv (.int .i64 ((2:Nat):Int))),.one (tv (.int .i64 ((1:Nat):Int)))] rfl rfl (oZ (n:=2) (d:=1) (by omega) (by omega) (by omega) (by omega)) tT ⟨rfl,rfl,rfl⟩ ?_
 refine aR 58 rfl (jW (p:=(dH uW (1)).n) (q:=(Rat.divInt 2 1)) ((Tz _ (jG (by omega))).mono (M:=68719476736) (by omega)) ((tS (n:=2) (d:=1) (by omega) (by omega) (by omega) (by omega)).mono (M:=68719476736) (by omega)) (by kernel_rfl)) lL ⟨aE rfl,aE rfl,rfl⟩ (.one (tv (.int .i64 0))) ?_
 refine df 59 ?_;refine WD.cast (t:=106) (u':=.bool true) rfl (congrArg Value.bool (by kernel_rfl)) ?_
 refine df 60 ?_;refine df 61 ?_;refine dv 62 ?_;refine aL 63 ?_;refine dv 64 ?_;refine dv 65 ?_
 refine eJ 66 ([.v (.int .i64 (dH uW (1)).y)]) (aS (f:=(jE false)) (z:=7) (o:=2) (fR false) (fT (by omega)) (Nat.le_of_ble_eq_true rfl) rfl) ?_
 refine dv 67 ?_;refine WD.cast (t:=114) (u':=.bool true) rfl (congrArg Value.bool (by kernel_rfl)) ?_
 refine df 68 ?_;refine df 69 ?_;refine aL 70 ?_;refine dv 72 ?_
 refine aR 71 rfl (SU (us:=qD) (ent:=1) (rw9:=fL 2 qC) (vs:=cJ 2 qC) (fun k=>Ck (B:=300) Ao (by show 2+2*301≤_;omega)) (fun u hu=>(Ao u hu).mono (by omega)) (by show 2≤_;omega)) TB ⟨aE (l:=[dF false (fL 2 qC),cZ false false (cJ 2 qC),cN false false qD]) rfl,a1 rfl,rfl⟩ (qF (.of (mZ qD 1))) ?_
 refine qV 73 4 [.one (tv (.int .i64 ((10:Nat):Int))),.one (tv (.int .i64 ((1:Nat):Int)))] rfl rfl (oZ (n:=10) (d:=1) (by omega) (by omega) (by omega) (by omega)) tT ⟨rfl,rfl,rfl⟩ ?_
 refine aR 74 rfl (jW (p:=(mZ qD 1)) (q:=(Rat.divInt 10 1)) (show Sz 68719476736 (mZ qD 1) from by unfold Sz;decide+kernel) ((tS (n:=10) (d:=1) (by omega) (by omega) (by omega) (by omega)).mono (M:=68719476736) (by omega)) (by kernel_rfl)) lL ⟨aE rfl,aE rfl,rfl⟩ (.one (tv (.int .i64 0))) ?_
 refine df 75 ?_;refine WD.cast (t:=122) (u':=.bool true) rfl (congrArg Value.bool (by kernel_rfl)) ?_
 refine df 76 ?_;refine eZ 77 (by kernel_rfl) rfl rfl aA rfl (by trivial) ?_ (fun h=>by first | rfl | cases h)
 refine aQ ?_;refine rt ?_;exact iS (.inl rfl) rfl (rfl)
theorem QH {xs:List Fr4}{B:Nat}(hB:2+xs.length*(B+1)≤68719476736) (hx:∀x∈xs,x.ok) (hz:∀x∈xs,Sz B x.q) (hl:xs.length≤1073741823):aD false Tryz.prog 26 [] [.one (.t (sQ false xs))] (aN (qF (.of (eG (xs.map Fr4.q))))):=by
 refine cB Tryz.func26 rfl Tryz.ntmps26 rfl aA rfl fun N9 w9 c0 h0=>?_
 have h00:((0:Int):Rat)=eG ((xs.take 0).map Fr4.q):=by simp[eG]
 refine sq ?_;refine rl ?_;refine al 0 ?_;refine nl ?_;refine sq ?_;refine rl ?_;refine ca (fF (z:=0) (by omega) (by omega)) lM ⟨a1 rfl,rfl⟩ (qF (.of ((0:Int):Rat))) ?_
 refine al 1 ?_;refine st ?_;refine nl ?_;refine sq ?_;refine sq ?_;refine rl ?_;(iterate 3 refine o1 ?_);refine nl ?_;refine bl ?_
 refine lp (γ:=Nat) (fun k=>cC [(2,.one (.pt 0 0)),(3,.one (.pt 1 0)),(7,.one (.t (sQ false xs))),(8,.one (tv (.int .i64 ((xs.length:Nat):Int)))),(9,.one (tv (.int .i64 ((k:Nat):Int))))]) (fun k=>[(⟨48,0,[tv (.bool false),tv (.slice none 0 0),tv (.bool false),tv (.slice none 0 0)]⟩:Ob),⟨48,0,((Fr4.of (eG ((xs.take (k)).map Fr4.q))).tr false).map .t⟩].map some) (fun k=>k≤xs.length∧Sz (2+k*(B+1)) (eG ((xs.take (k)).map Fr4.q))) (fun k=>xs.length-k) 0 ⟨Nat.zero_le _,by simpa[eG]using sE (z:=0) (by omega) (by omega)⟩ (aP h0 [0,1] _ _ (by decide) ⟨rfl,rfl,rfl,rfl,rfl,trivial⟩ ⟨oe rfl rfl,aI (congrArg (fun q=>some (⟨48,0,((Fr4.of q).tr false).map .t⟩:Ob)) h00),rfl⟩) fun k hk=>?_
 have hmul:k*(B+1)≤xs.length*(B+1):=Nat.mul_le_mul hk.1 (Nat.le_refl _)
 refine sq ?_;refine rl ?_;refine o1 ?_;refine nl ?_;refine sq ?_;refine bN rfl (fun h1=>?_) (fun h1=>?_)
 ·refine sk ?_;refine sq ?_;refine bl ?_;refine sq ?_;refine rl ?_;refine o1 ?_;refine dZ ((dI xs (k)).tr false) (jR xs (k:=k) (by omega)) ?_
  refine al 2 ?_;refine st ?_;refine nl ?_;have hmul2:(k+1)*(B+1)≤xs.length*(B+1):=Nat.mul_le_mul (by omega) (Nat.le_refl _)
  have hmul3:(k+1)*(B+1)=k*(B+1)+(B+1):=Nat.succ_mul k (B+1)
  refine rd [0,1,2] (fun i=>[4].contains i) mixed ?_
  refine aL 0 ?_;refine aL 1 ?_;refine aR 2 rfl (iY ⟨hx _ (gM (by omega)),rfl⟩) kV ⟨aE rfl,rfl⟩ (qF (.of (dI xs (k)).q)) ?_
  refine aR 3 rfl (CG (hk.2.mono (by omega)) ((hz _ (gM (by omega))).mono (by omega))) yT ⟨aE rfl,aE rfl,rfl⟩ (qF (.of ((eG ((xs.take (k)).map Fr4.q))+(dI xs (k)).q))) ?_
  refine dst 4 ?_;refine aQ ?_;refine rl ?_;refine o1 ?_;refine WL.cast (t:=17) (u':=.int .i64 ((k+1:Nat):Int)) rfl (aC (by omega)) ?_
  refine o1 ?_;refine nl ?_;have hst:(eG ((xs.take (k+1)).map Fr4.q))=(eG ((xs.take (k)).map Fr4.q))+(dI xs (k)).q:=by rw[vN (by omega)];exact Eg _ _
  exact⟨k+1,by omega,⟨by omega,by rw[hst];exact(Ij hk.2 (hz _ (gM (by omega)))).mono (by omega)⟩,aP h0 [0,1] _ _ (by decide) ⟨rfl,rfl,rfl,rfl,rfl,trivial⟩ ⟨oe rfl rfl,aI (congrArg (fun q=>some (⟨48,0,((Fr4.of q).tr false).map .t⟩:Ob)) hst.symm),rfl⟩⟩
 refine ex ?_;refine sq ?_;refine rl ?_;refine ld ?_;refine st ?_;refine nl ?_;refine rt ?_
 exact en (.inl rfl) rfl (aZ (.agg (.cons (.id rfl) (.cons (.id rfl) (.cons (.id rfl) (.cons (.id rfl) .nil)))))) (by decide) (fun h=>by cases h) (by rw[List.take_of_length_le (by omega)];rfl)
structure Cons (R:Rg) (U:List Ur) (rl:List Rl) (vn:List Vn) (ys:List Yr):Prop where
 ok:R.Ok ys.length
 un:U=R.run ys.length
 m:∀i,i<ys.length→(aT ys i).m=R.ms i
 b:∀i,i<ys.length→(aT ys i).b=(R.bs i).map Fr4.of
 l:∀i,i<ys.length→(aT ys i).l=Fr4.of (R.lim i)
 rl:rl=R.rls U ys.length
 vn:vn=R.vnE ys.length
theorem GD {fw:Int}{ys:List Yr}(hf:lN ys=true) (hy:∀y∈ys,rI y) (h:fG fw ys=0):Cons (cG fw.toNat ys) (bF fw ys) (fL fw ys) (cJ fw ys) ys:=by
 obtain⟨h1,_,_,_,h5⟩:=yZ hf hy h
 have e1:bF fw ys=(cG fw.toNat ys).run ys.length:=if_pos h
 refine⟨h1,e1,fun i hi=>(Ic (h5 i hi).1).symm,fun i hi=>(Tl (h5 i hi).2.1 (h5 i hi).2.2.1).symm,fun i hi=>(h5 i hi).2.2.2,?_,if_pos h⟩
 rw[e1]
 exact if_pos h
section
variable {R:Rg}{U:List Ur}{rw9:List Rl}{vn:List Vn}{ys:List Yr}{i:Nat}
theorem Cons.iv (h:Cons R U rw9 vn ys):R.Iv ys.length U:=by
 rw[h.un]
 exact h.ok.run (Nat.le_refl _)
theorem Cons.vat (h:Cons R U rw9 vn ys) (hi:i<vn.length):∃y e,(y,e)∈R.vl ys.length∧bD vn i=R.vn U (R.ex U ys.length) (R.cl U ys.length) (y,e):=by
 have h1:=h.vn
 subst h1
 obtain⟨y,e,h2,h3⟩:=LH hi
 exact⟨y,e,h2,by rw[h3,h.un]⟩
theorem Cons.uat (h:Cons R U rw9 vn ys) (hi:i<U.length):∃v e t:Nat,dH U i=⟨v,e,t,(dH U i).n⟩∧v<t∧t<ys.length∧t≤v+R.f∧e<R.E∧R.mem t e=true∧0<(dH U i).n∧Sz 300 (dH U i).n:=by
 have h0:=jG hi
 have h1:=h.un
 have h2:dH U i∈R.run ys.length:=by rw[←h1];exact h0
 obtain⟨v,e,t,a1,a2,a3,a4,a5,a6,a7⟩:=pF h2
 unfold Rg.may at a6
 simp only[Bool.and_eq_true,decide_eq_true_eq]at a6
 refine⟨v,e,t,?_,a4,a5,a6.1,a7,a6.2,Mt h2,Cj h.ok (Nat.le_refl _) _ h2⟩
 rw[←a1,←a2,←a3]
theorem Cons.usz (h:Cons R U rw9 vn ys):∀u∈U,Sz 300 u.n:=by
 rw[h.un]
 exact Cj h.ok (Nat.le_refl _)
theorem Cons.ul (h:Cons R U rw9 vn ys):U.length≤1000:=by
 rw[h.un]
 exact Ib h.ok (Nat.le_refl _)
theorem Cons.vl (h:Cons R U rw9 vn ys):vn.length≤60:=by
 rw[h.vn,Mw]
 have:=qA (R:=R) h.ok.e ys.length
 have:=h.ok.n
 omega
theorem Cons.rn (h:Cons R U rw9 vn ys):rw9.length=ys.length:=by rw[h.rl,Ca]
theorem Cons.rat (h:Cons R U rw9 vn ys) (hi:i<ys.length):mG rw9 i=R.rl U i:=by rw[h.rl,LL hi]
theorem LT (R:Rg){t e:Nat}(he:e<R.E):dI ((R.bs t).map Fr4.of) e=Fr4.of (R.base t e):=by rw[pT (by rw[jS];exact he),pX he]
theorem LU (R:Rg){U:List Ur}{t e:Nat}(he:e<R.E):dI ((R.by9 U t).map Fr4.of) e=Fr4.of (fN U t e):=by rw[pT (by rw[nH];exact he),nG he]
end
theorem Ua {qs:List Rat}(hz:∀q∈qs,Sz 1000 q) (hl:qs.length≤6):aD false Tryz.prog 26 [] [.one (.t (sQ false (qs.map Fr4.of)))] (aN (qF (.of (eG qs)))):=by
 have h:=QH (xs:=qs.map Fr4.of) (B:=1000) (by rw[List.length_map];have:=Nat.mul_le_mul hl (Nat.le_refl 1001);omega) (fun a ha=>by
  obtain⟨q,hq,rfl⟩:=List.mem_map.1 ha
  exact(Qn.of ((hz q hq).mono (M:=68719476736) (by omega))).1) (fun a ha=>by
  obtain⟨q,hq,rfl⟩:=List.mem_map.1 ha
  rw[Fr4.q_of]
  exact hz q hq) (by rw[List.length_map];omega)
 rw[show(qs.map Fr4.of).map Fr4.q=qs from by
  rw[List.map_map]
  conv=>rhs;rw[←List.map_id' qs]
  exact List.map_congr_left fun q _=>Fr4.q_of q]at h
 exact h
theorem Zd {R:Rg}{U:List Ur}{rw9:List Rl}{vn:List Vn}{ys:List Yr}{y e:Nat}(hC:Cons R U rw9 vn ys) (hv:(y,e)∈R.vl ys.length):aD true Tryz.prog 24 [] [.one (.t (iX ys)),.agg [tv (.int .i64 ((y:Nat):Int)),tv (.int .i64 ((e:Nat):Int)),tv (.bool (aH (R.los y e).num)),.t (sU false (dg 4294967296 (R.los y e).num.natAbs)),tv (.bool false),.t (sU false (dg 4294967296 (R.los y e).den)),tv (.bool (aH (fB U y e).num)),.t (sU false (dg 4294967296 (fB U y e).num.natAbs)),tv (.bool false),.t (sU false (dg 4294967296 (fB U y e).den)),tv (.bool (aH (R.ex U ys.length y e).num)),.t (sU false (dg 4294967296 (R.ex U ys.length y e).num.natAbs)),tv (.bool false),.t (sU false (dg 4294967296 (R.ex U ys.length y e).den)),tv (.bool (aH (R.cl U ys.length y e).num)),.t (sU false (dg 4294967296 (R.cl U ys.length y e).num.natAbs)),tv (.bool false),.t (sU false (dg 4294967296 (R.cl U ys.length y e).den))]] (aN (.one (tv (.bool true)))):=by
 refine cB Tryz.func24 rfl Tryz.ntmps24 rfl aA rfl fun N9 w9 c0 h0=>?_
 obtain⟨hyn,heE,hmem,hlo,hpos⟩:=To hv
 have hIv:=hC.iv
 have hmsl:(R.ms y).length=R.E:=oF
 have hbsl:((R.bs y).map Fr4.of).length=R.E:=by rw[List.length_map,jS]
 have hz1:Sz 68719476736 (R.los y e):=(hC.ok.sz_los hyn heE).mono (by omega)
 have hz2:Sz 68719476736 (fB U y e):=(hIv.sz_vOf hC.ok hyn heE).mono (by omega)
 have hz4:Sz 68719476736 (R.ex U ys.length y e):=(CE hC.ok hIv hyn heE).mono (by omega)
 have hz5:Sz 68719476736 (R.cl U ys.length y e):=(CF hC.ok hIv hyn heE).mono (by omega)
 have hz7:Sz 68719476736 (R.base (y) (e)):=(hC.ok.base y e hyn heE).mono (by omega)
 have hz8:Sz 68719476736 (-(R.base (y) (e))):=(vU (hC.ok.base y e hyn heE)).mono (by omega)
 have hz6:Sz 68719476736 (eG [(fB U y e),(R.ex U ys.length y e),(R.cl U ys.length y e)]):=by rw[Ed];exact hz1
 have hz3:∀q∈[(fB U y e),(R.ex U ys.length y e),(R.cl U ys.length y e)],Sz 1000 q:=fun q ha=>by
  simp only[List.mem_cons,List.not_mem_nil,or_false]at ha;rcases ha with rfl | rfl | rfl
  ·exact(hIv.sz_vOf hC.ok hyn heE).mono (by omega)
  ·exact(CE hC.ok hIv hyn heE).mono (by omega)
  exact(CF hC.ok hIv hyn heE).mono (by omega)
 refine sq ?_;refine rl ?_;refine bx 0 ?_;refine o1 ?_;refine nl ?_;refine sq ?_;refine sq ?_;refine rd [0] (fun i=>[].contains i) mixed ?_
 refine dv 0 ?_;refine aL 1 ?_;refine dv 2 ?_;refine dv 3 ?_;refine WD.split (t:=9) rfl rfl (fun h1=>?_) (fun h1=>?_)
 ·exact absurd h1 (by omega)
 refine dv 4 ?_;refine aL 5 ?_;refine dv 6 ?_;refine dv 7 ?_;refine dv 8 ?_;refine dv 9 ?_;refine dv 10 ?_;refine WD.split (t:=16) rfl rfl (fun h2=>?_) (fun h2=>?_)
 ·exact absurd h2 (by omega)
 refine dv 11 ?_;refine aL 12 ?_;refine dv 13 ?_;refine dv 14 ?_;refine dv 15 ?_;refine WD.split (t:=21) rfl rfl (fun h3=>?_) (fun h3=>?_)
 ·exact absurd h3 (by omega)
 refine dv 16 ?_;refine aL 17 ?_;refine dv 18 ?_;refine dv 19 ?_;refine aL 20 ?_;refine dv 21 ?_;refine dv 22 ?_
 refine eJ 23 ([gD (R.ms (y))]) ((by rw[←hC.m (y) (by omega)];exact(aS (f:=eP) (z:=6) (o:=0) dU (dA (by omega)) (Nat.le_of_ble_eq_true rfl) rfl))) ?_
 refine dv 24 ?_;refine WD.cast (t:=30) (u':=.int .i64 ((R.E:Nat):Int)) rfl (aC (by rw[oF])) ?_
 refine dv 25 ?_;refine dv 26 ?_;refine dv 27 ?_;refine WD.split (t:=33) rfl rfl (fun h4=>?_) (fun h4=>?_)
 ·exact absurd h4 (by omega)
 refine dv 28 ?_;refine dv 29 ?_;refine aL 30 ?_;refine dv 31 ?_;refine dv 32 ?_
 refine eJ 33 ([gD (R.ms (y))]) ((by rw[←hC.m (y) (by omega)];exact(aS (f:=eP) (z:=6) (o:=0) dU (dA (by omega)) (Nat.le_of_ble_eq_true rfl) rfl))) ?_
 refine dv 34 ?_;refine aL 35 ?_;refine dv 36 ?_
 refine eJ 37 ([.v (.bool (R.mem (y) (e)))]) ((by rw[←rZ (R:=R) (t:=(y)) (e:=e) (by omega)];exact Fn (R.ms (y)) (k:=e) (by rw[oF];omega))) ?_
 refine WD.cast (t:=43) (u':=.bool false) rfl (congrArg Value.bool hmem) ?_;refine dv 38 ?_;refine aQ ?_;refine fW rfl ?_;refine sk ?_;refine sq ?_;refine rl ?_;refine o1 ?_
 refine ld ?_;refine o1 ?_;refine ld ?_;refine o1 ?_;refine ld ?_;refine bs 1 ?_
 refine WL.sub (RU (i:=51) (k:=1) (t:=48) (z:=4) (n:=3) (l:=([Fr4.of (fB U y e),Fr4.of (R.ex U ys.length y e),Fr4.of (R.cl U ys.length y e)]).flatMap (Fr4.tr false)) 52 rfl rfl rfl rfl (.one .sl)) ?_
 refine ca (Ua (qs:=[(fB U y e),(R.ex U ys.length y e),(R.cl U ys.length y e)]) hz3 (by show 3≤_;omega)) LV ⟨a1 rfl,rfl⟩ (qF (.of (eG [(fB U y e),(R.ex U ys.length y e),(R.cl U ys.length y e)]))) ?_
 refine al 2 ?_;refine st ?_;refine nl ?_;refine sq ?_;refine rd [0,2] (fun i=>[46].contains i) mixed ?_
 refine aL 0 ?_;refine dv 1 ?_;refine aL 2 ?_
 refine aR 3 rfl (jW (p:=(eG [(fB U y e),(R.ex U ys.length y e),(R.cl U ys.length y e)])) (q:=(R.los y e)) hz6 hz1 Ed) lL ⟨aE rfl,aE rfl,rfl⟩ (.one (tv (.int .i64 0))) ?_
 refine df 4 ?_;refine WD.cast (t:=57) (u':=.bool true) rfl (congrArg Value.bool rfl) ?_;refine df 5 ?_;refine dv 6 ?_;refine aL 7 ?_;refine dv 8 ?_;refine dv 9 ?_;refine aL 10 ?_
 refine dv 11 ?_;refine dv 12 ?_
 refine eJ 13 ([sQ false ((R.bs (y)).map Fr4.of)]) ((by rw[←hC.b (y) (by omega)];exact(aS (f:=eP) (z:=6) (o:=1) dU (dA (by omega)) (Nat.le_of_ble_eq_true rfl) rfl))) ?_
 refine dv 14 ?_;refine aL 15 ?_;refine dv 16 ?_
 refine eJ 17 ((Fr4.of (R.base (y) (e))).tr false) ((by rw[←LT R (t:=(y)) (e:=e) (by omega)];exact jR ((R.bs (y)).map Fr4.of) (k:=e) (by rw[List.length_map,jS];omega))) ?_
 refine aR 18 rfl (CC (Qn.of (p:=(R.base (y) (e))) hz7)) Ym ⟨aE rfl,rfl⟩ (qF (.of (-(R.base (y) (e))))) ?_
 refine aR 19 rfl (jW (p:=(R.los y e)) (q:=(-(R.base (y) (e)))) hz1 hz8 hlo) lL ⟨aE rfl,aE rfl,rfl⟩ (.one (tv (.int .i64 0))) ?_;refine df 20 ?_
 refine WD.cast (t:=73) (u':=.bool true) rfl (congrArg Value.bool rfl) ?_;refine df 21 ?_;refine df 22 ?_;refine dv 23 ?_;refine aL 24 ?_
 refine aR 25 rfl (iN (Qn.of (p:=(R.los y e)) hz1)) mH ⟨aE rfl,rfl⟩ (.one (tv (.int .i64 (R.los y e).num.sign))) ?_;refine df 26 ?_
 refine WD.cast (t:=79) (u':=.bool true) rfl (congrArg Value.bool (decide_eq_true ((iF _).2 hpos))) ?_;refine df 27 ?_;refine df 28 ?_;refine dv 29 ?_;refine aL 30 ?_
 refine aR 31 rfl (iN (Qn.of (p:=(fB U y e)) hz2)) mH ⟨aE rfl,rfl⟩ (.one (tv (.int .i64 (fB U y e).num.sign))) ?_;refine df 32 ?_
 refine WD.cast (t:=85) (u':=.bool true) rfl (congrArg Value.bool (decide_eq_true (Int.sign_nonneg_iff.2 (Rat.num_nonneg.2 (LI hIv hyn heE))))) ?_;refine df 33 ?_;refine df 34 ?_
 refine dv 35 ?_;refine aL 36 ?_;refine aR 37 rfl (iN (Qn.of (p:=(R.ex U ys.length y e)) hz4)) mH ⟨aE rfl,rfl⟩ (.one (tv (.int .i64 (R.ex U ys.length y e).num.sign))) ?_
 refine df 38 ?_;refine WD.cast (t:=91) (u':=.bool true) rfl (congrArg Value.bool (decide_eq_true (Int.sign_nonneg_iff.2 (Rat.num_nonneg.2 (QE hIv hyn heE))))) ?_;refine df 39 ?_
 refine df 40 ?_;refine dv 41 ?_;refine aL 42 ?_
 refine aR 43 rfl (iN (Qn.of (p:=(R.cl U ys.length y e)) hz5)) mH ⟨aE rfl,rfl⟩ (.one (tv (.int .i64 (R.cl U ys.length y e).num.sign))) ?_;refine df 44 ?_
 refine WD.cast (t:=97) (u':=.bool true) rfl (congrArg Value.bool (decide_eq_true (Int.sign_nonneg_iff.2 (Rat.num_nonneg.2 (QF hIv hyn heE))))) ?_;refine df 45 ?_
 refine eZ 46 (by kernel_rfl) rfl rfl aA rfl (by trivial) ?_ (fun h=>by first | rfl | cases h)
 refine aQ ?_;refine rt ?_;exact iS (.inl rfl) rfl (rfl)
theorem Nd {q:Rat}(h:Sz 68719476736 q):aD false Tryz.prog 22 [] [qF (.of ((0:Int):Rat)),.one (.t (sQ false [Fr4.of q]))] (aN (qF (.of (fH 0 [q])))):=by
 have h1:=QG (a:=.of ((0:Int):Rat)) (p:=((0:Int):Rat)) (xs:=[Fr4.of q]) (Qn.of (tQ (M:=68719476736) (by omega))) (fun x hx=>by rw[List.mem_singleton]at hx;subst hx;exact(Qn.of h).1) (by show 1≤_;omega)
 rw[show [Fr4.of q].map Fr4.q=[q] by rw[List.map_cons,Fr4.q_of];rfl]at h1
 exact h1
theorem Eh {L:Nat}{q:Rat}(h:Sz L q) (hL:2≤L):Sz L (fH 0 [q]):=by
 show Sz L (if(0:Rat)<q then q else 0)
 split
 ·exact h
 exact tQ hL
theorem sG {p q:Rat}(h:p≤q):¬0<(p-q).num.sign:=fun h1=>by
 have:=(iF (p-q)).1 h1
 grind
theorem Cl {p:Rat}(h:0≤p):¬p.num.sign<0:=fun h1=>by
 have:=(tO p).1 h1
 grind
theorem lP {p:Rat}(h:0<p):¬p.num.sign≤0:=fun h1=>by
 have:=(iF p).2 h
 omega
theorem Qb {us:List Ur}{k:Nat}{y e:Int}(h:k<us.length):fB (us.take (k+1)) y e=if(dH us k).v=y∧(dH us k).e=e then fB (us.take k) y e+(dH us k).n else fB (us.take k) y e:=by
 unfold fB
 rw[Mr h,qB]
 simp only[Bool.and_eq_true,decide_eq_true_eq]
set_option maxHeartbeats 4000000 in
theorem Ap {fw:Int}{ys:List Yr}(hy:∀y∈ys,rI y):aD true Tryz.prog 6 [] [.one (tv (.int .i64 fw)),.one (.t (iX ys))] (aN (.one (tv (.bool true)))):=by
 refine cB Tryz.func6 rfl Tryz.ntmps6 rfl aA rfl fun N9 w9 c0 h0=>?_
 refine WP.sln (i:=1) rfl fun hlen=>?_
 refine sq ?_;refine rl ?_;refine o1 ?_;refine nl ?_;refine sq ?_;refine sq ?_;refine rl ?_;refine o1 ?_;refine ca (GA (ys:=ys)) VF ⟨a1 rfl,rfl⟩ (.one (tv (.bool (lN ys)))) ?_
 refine WL.splitb (t:=15) rfl (fun h1=>?_) (fun h1=>?_)
 ·refine o1 ?_;refine nl ?_;refine fW rfl ?_;refine sk ?_;refine sq ?_;have hf:lN ys=true:=by simpa using h1
  refine rl ?_;refine o1 ?_;refine o1 ?_
  refine ca (Ir (fw:=fw) (ys:=ys) hf hy) Zc ⟨a1 rfl,a1 rfl,rfl⟩ (.tup [.agg [.t (dF false (fL fw ys)),.t (cZ false false (cJ fw ys)),.t (cN false false (bF fw ys))],.one (tv (.int .i64 (fG fw ys)))]) ?_
  (iterate 3 refine o1 ?_);refine al 0 ?_;refine st ?_;refine o1 ?_;refine nl ?_;refine sq ?_;refine sq ?_;refine rl ?_;refine o1 ?_;refine o1 ?_;refine nl ?_
  refine bN rfl (fun h2=>?_) (fun h2=>?_)
  ·refine sq ?_;have hne:¬fG fw ys=0:=h2
   have hr0:(fL fw ys).length=0:=by unfold fL;rw[if_neg hne];rfl
   have hv0:(cJ fw ys).length=0:=by unfold cJ;rw[if_neg hne];rfl
   have hu0:(bF fw ys).length=0:=by unfold bF;rw[if_neg hne];rfl
   refine rl ?_;refine o1 ?_;refine ld ?_;refine o1 ?_;refine o1 ?_;refine WL.cast (t:=29) (u':=.bool true) rfl (congrArg Value.bool (decide_eq_true (by rw[hr0];rfl))) ?_
   refine o1 ?_;refine o1 ?_;refine ld ?_;refine o1 ?_;refine o1 ?_;refine WL.cast (t:=34) (u':=.bool true) rfl (congrArg Value.bool (decide_eq_true (by rw[hv0];rfl))) ?_
   (iterate 3 refine o1 ?_);refine ld ?_;refine o1 ?_;refine o1 ?_;refine WL.cast (t:=40) (u':=.bool true) rfl (congrArg Value.bool (decide_eq_true (by rw[hu0];rfl))) ?_
   refine o1 ?_;refine o1 ?_;refine ca (vX) LW rfl (.one (tv (.bool true))) ?_;refine o1 ?_;refine o1 ?_;refine nl ?_;refine rt ?_;exact iS (.inl rfl) rfl (rfl)
  refine sk ?_;refine sq ?_;refine sq ?_;have hE:fG fw ys=0:=by omega
  have hC:=GD hf hy hE
  have hIv:=hC.iv
  have hrn:=hC.rn;have hul:=hC.ul;have hvl:=hC.vl;have hn10:=hC.ok.n;have hE6:=hC.ok.e
  have hfw:((fw.toNat:Nat):Int)=fw:=(yZ hf hy hE).2.2.1
  have hms9:∀i,((cG fw.toNat ys).ms i).length=(cG fw.toNat ys).E:=fun _=>oF
  have hbs:∀i:Nat,eG ((cG fw.toNat ys).by9 (bF fw ys) i)=eI (bF fw ys) i:=fun i=>LK (by rw[hC.un];exact FP)
  have hby:∀i:Nat,i<ys.length→∀q∈(cG fw.toNat ys).by9 (bF fw ys) i,Sz 1000 q:=fun i hi q hq=>by
   obtain⟨e,he,rfl⟩:=List.mem_map.1 hq
   exact(hIv.sz_eIn hC.ok hi (List.mem_range.1 he)).mono (by omega)
  refine rl ?_;refine o1 ?_;refine ld ?_;(iterate 4 refine o1 ?_);refine WL.cast (t:=50) (u':=.bool false) rfl (congrArg Value.bool (decide_eq_false (fun h=>h (by rw[hrn])))) ?_
  refine nl ?_;refine fW rfl ?_;refine sk ?_;refine sq ?_;refine sq ?_;refine rl ?_;refine o1 ?_;refine nl ?_;refine bl ?_
  refine lp (γ:=Nat) (fun s=>cC [(0,.one (tv (.int .i64 fw))),(1,.one (.t (iX ys))),(5,.one (.pt 0 0)),(7,.one (tv (.int .i64 ((s:Nat):Int))))]) (fun s=>[(⟨39,0,[.t (dF false (fL fw ys)),.t (cZ false false (cJ fw ys)),.t (cN false false (bF fw ys))]⟩:Ob)].map some) (fun s=>s≤(cJ fw ys).length) (fun s=>(cJ fw ys).length-s) 0 (Nat.zero_le _) (aP h0 [0] _ _ (by decide) ⟨rfl,rfl,rfl,rfl,trivial⟩ ⟨oe rfl rfl,rfl⟩) ?_
  rintro i9 hi9;refine sq ?_;refine sq ?_;refine rl ?_;refine o1 ?_;refine o1 ?_;refine ld ?_;refine o1 ?_;refine o1 ?_;refine nl ?_;refine bN rfl (fun h3=>?_) (fun h3=>?_)
  ·refine sk ?_;refine sq ?_;refine bl ?_;refine sq ?_;refine sq ?_;obtain⟨y,e,hv,hV⟩:=hC.vat (i:=i9) (by omega)
   have hsm:aD true Tryz.prog 24 [] [.one (.t (iX ys)),.agg ((eA false (bD (cJ fw ys) (i9))).map .t)] (aN (.one (tv (.bool true)))):=by rw[hV];exact Zd hC hv
   obtain⟨hyn,heE,_⟩:=To hv
   refine rl ?_;refine o1 ?_;refine o1 ?_;refine ld ?_;refine o1 ?_;refine o1 ?_
   refine dZ ((eA false) (bD (cJ fw ys) (i9))) (aS (f:=(eA false)) (z:=18) (o:=0) (dQ false) (jF (by omega)) (Nat.le_of_ble_eq_true rfl) rfl) ?_
   refine ca (hsm) TC ⟨a1 rfl,aE rfl,rfl⟩ (.one (tv (.bool true))) ?_;refine o1 ?_;refine nl ?_;refine fW rfl ?_;refine sk ?_;refine sq ?_;refine rl ?_
   refine ca (fF (z:=0) (by omega) (by omega)) lM ⟨a1 rfl,rfl⟩ (qF (.of ((0:Int):Rat))) ?_
   refine al 1 ?_;refine st ?_;refine nl ?_;refine sq ?_;refine sq ?_;refine rl ?_;refine o1 ?_;refine nl ?_;refine bl ?_
   have h00:((0:Int):Rat)=(fB ((bF fw ys).take 0) (bD (cJ fw ys) (i9)).y (bD (cJ fw ys) (i9)).e):=rfl
   refine lp (γ:=Nat) (fun s=>cC [(0,.one (tv (.int .i64 fw))),(1,.one (.t (iX ys))),(5,.one (.pt 0 0)),(7,.one (tv (.int .i64 ((i9:Nat):Int)))),(8,.one (.pt 1 0)),(9,.one (tv (.int .i64 ((s:Nat):Int))))]) (fun s=>[(⟨39,0,[.t (dF false (fL fw ys)),.t (cZ false false (cJ fw ys)),.t (cN false false (bF fw ys))]⟩:Ob),⟨48,0,((Fr4.of (fB ((bF fw ys).take s) (bD (cJ fw ys) (i9)).y (bD (cJ fw ys) (i9)).e)).tr false).map .t⟩].map some) (fun s=>s≤(bF fw ys).length) (fun s=>(bF fw ys).length-s) 0 (Nat.zero_le _) (aP h0 [0,1] _ _ (by decide) ⟨rfl,rfl,rfl,rfl,rfl,rfl,trivial⟩ ⟨oe rfl rfl,aI (congrArg (fun q:Rat=>some (⟨48,0,((Fr4.of q).tr false).map .t⟩:Ob)) h00),rfl⟩) ?_
   rintro k9 hk9;refine sq ?_;refine sq ?_;refine rl ?_;refine o1 ?_;refine o1 ?_;refine ld ?_;refine o1 ?_;refine o1 ?_;refine nl ?_;refine bN rfl (fun h4=>?_) (fun h4=>?_)
   ·refine sk ?_;refine sq ?_;refine bl ?_;refine sq ?_;refine rd [0,1] (fun i=>[].contains i) mixed ?_
    refine dv 0 ?_;refine aL 1 ?_;refine dv 2 ?_;refine dv 3 ?_;refine dv 4 ?_
    refine eJ 5 ([.v (.int .i64 (dH (bF fw ys) (k9)).v)]) (aS (f:=(jE false)) (z:=7) (o:=0) (fR false) (fT (by omega)) (Nat.le_of_ble_eq_true rfl) rfl) ?_
    refine dv 6 ?_;refine aL 7 ?_;refine dv 8 ?_;refine dv 9 ?_;refine dv 10 ?_
    refine eJ 11 ([.v (.int .i64 (bD (cJ fw ys) (i9)).y)]) (aS (f:=(eA false)) (z:=18) (o:=0) (dQ false) (jF (by omega)) (Nat.le_of_ble_eq_true rfl) rfl) ?_
    refine dv 12 ?_;refine dv 13 ?_;refine WD.split (t:=87) rfl rfl (fun h5=>?_) (fun h5=>?_)
    ·refine dv 14 ?_;refine aL 15 ?_;refine dv 16 ?_;refine dv 17 ?_;refine dv 18 ?_
     refine eJ 19 ([.v (.int .i64 (dH (bF fw ys) (k9)).e)]) (aS (f:=(jE false)) (z:=7) (o:=1) (fR false) (fT (by omega)) (Nat.le_of_ble_eq_true rfl) rfl) ?_
     refine dv 20 ?_;refine aL 21 ?_;refine dv 22 ?_;refine dv 23 ?_;refine dv 24 ?_
     refine eJ 25 ([.v (.int .i64 (bD (cJ fw ys) (i9)).e)]) (aS (f:=(eA false)) (z:=18) (o:=1) (dQ false) (jF (by omega)) (Nat.le_of_ble_eq_true rfl) rfl) ?_
     refine dv 26 ?_;refine dv 27 ?_;refine aQ ?_;refine bN rfl (fun h6=>?_) (fun h6=>?_)
     ·refine rd [0,1] (fun i=>[8].contains i) mixed ?_
      refine aL 0 ?_;refine dv 1 ?_;refine aL 2 ?_;refine dv 3 ?_;refine dv 4 ?_;refine dv 5 ?_
      refine eJ 6 ((Fr4.of (dH (bF fw ys) (k9)).n).tr false) (aS (f:=(jE false)) (z:=7) (o:=3) (fR false) (fT (by omega)) (Nat.le_of_ble_eq_true rfl) rfl) ?_
      refine aR 7 rfl (xH (Qn.of (p:=(fB ((bF fw ys).take k9) (bD (cJ fw ys) (i9)).y (bD (cJ fw ys) (i9)).e)) ((Ck (k:=k9) (B:=300) (M:=400000) hC.usz (by have:=hC.ul;omega)).mono (M:=68719476736) (by omega))) (Qn.of (p:=(dH (bF fw ys) (k9)).n) ((hC.usz _ (jG (by omega))).mono (M:=68719476736) (by omega)))) Cc ⟨aE rfl,aE rfl,rfl⟩ (qF (.of ((fB ((bF fw ys).take k9) (bD (cJ fw ys) (i9)).y (bD (cJ fw ys) (i9)).e)+(dH (bF fw ys) (k9)).n))) ?_
      refine dst 8 ?_;refine aQ ?_;refine rl ?_;refine o1 ?_;refine o1 ?_;refine WL.cast (t:=73) (u':=.int .i64 ((k9+1:Nat):Int)) rfl (aC (by omega)) ?_
      refine o1 ?_;refine nl ?_
      have hst:((fB ((bF fw ys).take k9) (bD (cJ fw ys) (i9)).y (bD (cJ fw ys) (i9)).e)+(dH (bF fw ys) (k9)).n)=(fB ((bF fw ys).take (k9+1)) (bD (cJ fw ys) (i9)).y (bD (cJ fw ys) (i9)).e):=by rw[Qb (by omega)];exact(if_pos ⟨h5,h6⟩).symm
      exact⟨k9+1,by omega,by omega,aP h0 [0,1] _ _ (by decide) ⟨rfl,rfl,rfl,rfl,rfl,rfl,trivial⟩ ⟨oe rfl rfl,aI (congrArg (fun q:Rat=>some (⟨48,0,((Fr4.of q).tr false).map .t⟩:Ob)) hst),rfl⟩⟩
     refine sk ?_;refine rl ?_;refine o1 ?_;refine o1 ?_;refine WL.cast (t:=73) (u':=.int .i64 ((k9+1:Nat):Int)) rfl (aC (by omega)) ?_
     refine o1 ?_;refine nl ?_
     have hst:(fB ((bF fw ys).take k9) (bD (cJ fw ys) (i9)).y (bD (cJ fw ys) (i9)).e)=(fB ((bF fw ys).take (k9+1)) (bD (cJ fw ys) (i9)).y (bD (cJ fw ys) (i9)).e):=by rw[Qb (by omega)];exact(if_neg (fun h=>h6 h.2)).symm
     exact⟨k9+1,by omega,by omega,aP h0 [0,1] _ _ (by decide) ⟨rfl,rfl,rfl,rfl,rfl,rfl,trivial⟩ ⟨oe rfl rfl,aI (congrArg (fun q:Rat=>some (⟨48,0,((Fr4.of q).tr false).map .t⟩:Ob)) hst),rfl⟩⟩
    refine iD 14 ?_;refine iD 15 ?_;refine iD 16 ?_;refine iD 17 ?_;refine iD 18 ?_;refine iD 19 ?_;refine iD 20 ?_;refine iD 21 ?_;refine iD 22 ?_;refine iD 23 ?_
    refine iD 24 ?_;refine iD 25 ?_;refine iD 26 ?_;refine dv 27 ?_;refine aQ ?_;refine fW rfl ?_;refine sk ?_;refine rl ?_;refine o1 ?_;refine o1 ?_
    refine WL.cast (t:=73) (u':=.int .i64 ((k9+1:Nat):Int)) rfl (aC (by omega)) ?_
    refine o1 ?_;refine nl ?_
    have hst:(fB ((bF fw ys).take k9) (bD (cJ fw ys) (i9)).y (bD (cJ fw ys) (i9)).e)=(fB ((bF fw ys).take (k9+1)) (bD (cJ fw ys) (i9)).y (bD (cJ fw ys) (i9)).e):=by rw[Qb (by omega)];exact(if_neg (fun h=>h5 h.1)).symm
    exact⟨k9+1,by omega,by omega,aP h0 [0,1] _ _ (by decide) ⟨rfl,rfl,rfl,rfl,rfl,rfl,trivial⟩ ⟨oe rfl rfl,aI (congrArg (fun q:Rat=>some (⟨48,0,((Fr4.of q).tr false).map .t⟩:Ob)) hst),rfl⟩⟩
   refine ex ?_;refine sq ?_
   have huv:(fB ((bF fw ys).take k9) (bD (cJ fw ys) (i9)).y (bD (cJ fw ys) (i9)).e)=(bD (cJ fw ys) (i9)).u:=by rw[List.take_of_length_le (by omega),hV];rfl
   refine rd [0,1] (fun i=>[].contains i) mixed ?_
   refine aL 0 ?_;refine dv 1 ?_;refine aL 2 ?_;refine dv 3 ?_;refine dv 4 ?_;refine dv 5 ?_
   refine eJ 6 ((Fr4.of (bD (cJ fw ys) (i9)).u).tr false) (aS (f:=(eA false)) (z:=18) (o:=6) (dQ false) (jF (by omega)) (Nat.le_of_ble_eq_true rfl) rfl) ?_
   refine aR 7 rfl (jW (p:=(fB ((bF fw ys).take k9) (bD (cJ fw ys) (i9)).y (bD (cJ fw ys) (i9)).e)) (q:=(bD (cJ fw ys) (i9)).u) ((Ck (k:=k9) (B:=300) (M:=400000) hC.usz (by have:=hC.ul;omega)).mono (M:=68719476736) (by omega)) (by rw[hV];exact(hIv.sz_vOf hC.ok hyn heE).mono (M:=68719476736) (by omega)) huv) lL ⟨aE rfl,aE rfl,rfl⟩ (.one (tv (.int .i64 0))) ?_
   refine df 8 ?_;refine WD.cast (t:=118) (u':=.bool false) rfl (congrArg Value.bool rfl) ?_;refine aQ ?_;refine fW rfl ?_;refine sk ?_;refine rl ?_;refine o1 ?_;refine o1 ?_
   refine WL.cast (t:=57) (u':=.int .i64 ((i9+1:Nat):Int)) rfl (aC (by omega)) ?_
   refine o1 ?_;refine nl ?_;exact⟨i9+1,by omega,by omega,aP h0 [0] _ _ (by decide) ⟨rfl,rfl,rfl,rfl,trivial⟩ ⟨oe rfl rfl,rfl⟩⟩
  refine ex ?_;refine sq ?_;refine sq ?_;refine rl ?_;refine o1 ?_;refine nl ?_;refine bl ?_
  refine lp (γ:=Nat) (fun s=>cC [(0,.one (tv (.int .i64 fw))),(1,.one (.t (iX ys))),(5,.one (.pt 0 0)),(10,.one (tv (.int .i64 ((s:Nat):Int))))]) (fun s=>[(⟨39,0,[.t (dF false (fL fw ys)),.t (cZ false false (cJ fw ys)),.t (cN false false (bF fw ys))]⟩:Ob)].map some) (fun s=>s≤(bF fw ys).length) (fun s=>(bF fw ys).length-s) 0 (Nat.zero_le _) (aP h0 [0] _ _ (by decide) ⟨rfl,rfl,rfl,rfl,trivial⟩ ⟨oe rfl rfl,rfl⟩) ?_
  rintro k7 hk7;refine sq ?_;refine sq ?_;refine rl ?_;refine o1 ?_;refine o1 ?_;refine ld ?_;refine o1 ?_;refine o1 ?_;refine nl ?_;refine bN rfl (fun h7=>?_) (fun h7=>?_)
  ·refine sk ?_;refine sq ?_;refine bl ?_;refine sq ?_;obtain⟨v7,e7,t7,hu9,hvt,htn,htf,heE7,hmt,hpos,hsz7⟩:=hC.uat (i:=k7) (by omega)
   have hmsl:=hms9 t7
   have htf9:t7≤v7+fw.toNat:=htf
   refine rl ?_;refine o1 ?_;refine ld ?_;refine o1 ?_;refine o1 ?_
   refine dZ ((.v (.int .i64 ((v7:Nat):Int))::.v (.int .i64 ((e7:Nat):Int))::.v (.int .i64 ((t7:Nat):Int))::(Fr4.of (dH (bF fw ys) (k7)).n).tr false)) ((by rw[show((.v (.int .i64 ((v7:Nat):Int))::.v (.int .i64 ((e7:Nat):Int))::.v (.int .i64 ((t7:Nat):Int))::(Fr4.of (dH (bF fw ys) (k7)).n).tr false):List Tr)=jE false (dH (bF fw ys) (k7)) from by rw[hu9];rfl];exact(aS (f:=(jE false)) (z:=7) (o:=0) (fR false) (fT (by omega)) (Nat.le_of_ble_eq_true rfl) rfl))) ?_
   refine al 1 ?_;refine st ?_;refine nl ?_;refine sq ?_;refine rd [0,1] (fun i=>[].contains i) mixed ?_
   refine dv 0 ?_;refine aL 1 ?_;refine dv 2 ?_;refine dv 3 ?_;refine WD.split (t:=134) rfl rfl (fun h8=>?_) (fun h8=>?_)
   ·exact absurd h8 (by first | omega | exact lP hpos)
   refine dv 4 ?_;refine aL 5 ?_;refine dv 6 ?_;refine dv 7 ?_;refine dv 8 ?_;refine dv 9 ?_;refine dv 10 ?_;refine WD.split (t:=141) rfl rfl (fun h9=>?_) (fun h9=>?_)
   ·exact absurd h9 (by first | omega | exact lP hpos)
   refine dv 11 ?_;refine aL 12 ?_;refine dv 13 ?_;refine aL 14 ?_;refine dv 15 ?_;refine dv 16 ?_;refine dv 17 ?_;refine WD.split (t:=148) rfl rfl (fun h10=>?_) (fun h10=>?_)
   ·exact absurd h10 (by first | omega | exact lP hpos)
   refine dv 18 ?_;refine aL 19 ?_;refine dv 20 ?_;refine aL 21 ?_;refine dv 22 ?_;refine WD.cast (t:=153) (u':=.int .i64 ((t7-v7:Nat):Int)) rfl (aC (by omega)) ?_
   refine dv 23 ?_;refine dv 24 ?_;refine dv 25 ?_;refine dv 26 ?_;refine WD.split (t:=157) rfl rfl (fun h11=>?_) (fun h11=>?_)
   ·exact absurd h11 (by first | omega | exact lP hpos)
   refine dv 27 ?_;refine aL 28 ?_;refine dv 29 ?_;refine dv 30 ?_;refine dv 31 ?_;refine WD.split (t:=162) rfl rfl (fun h12=>?_) (fun h12=>?_)
   ·exact absurd h12 (by first | omega | exact lP hpos)
   refine dv 32 ?_;refine aL 33 ?_;refine dv 34 ?_;refine dv 35 ?_;refine aL 36 ?_;refine dv 37 ?_;refine dv 38 ?_
   refine eJ 39 ([gD ((cG fw.toNat ys).ms (t7))]) ((by rw[←hC.m (t7) (by omega)];exact(aS (f:=eP) (z:=6) (o:=0) dU (dA (by omega)) (Nat.le_of_ble_eq_true rfl) rfl))) ?_
   refine dv 40 ?_;refine WD.cast (t:=171) (u':=.int .i64 (((cG fw.toNat ys).E:Nat):Int)) rfl (aC (by rw[oF])) ?_
   refine dv 41 ?_;refine dv 42 ?_;refine dv 43 ?_;refine WD.split (t:=174) rfl rfl (fun h13=>?_) (fun h13=>?_)
   ·exact absurd h13 (by first | omega | exact lP hpos)
   refine dv 44 ?_;refine dv 45 ?_;refine aL 46 ?_;refine dv 47 ?_;refine dv 48 ?_
   refine eJ 49 ([gD ((cG fw.toNat ys).ms (t7))]) ((by rw[←hC.m (t7) (by omega)];exact(aS (f:=eP) (z:=6) (o:=0) dU (dA (by omega)) (Nat.le_of_ble_eq_true rfl) rfl))) ?_
   refine dv 50 ?_;refine aL 51 ?_;refine dv 52 ?_
   refine eJ 53 ([.v (.bool ((cG fw.toNat ys).mem (t7) (e7)))]) ((by rw[←rZ (R:=(cG fw.toNat ys)) (t:=(t7)) (e:=e7) (by omega)];exact Fn ((cG fw.toNat ys).ms (t7)) (k:=e7) (by rw[oF];omega))) ?_
   refine WD.cast (t:=184) (u':=.bool true) rfl (congrArg Value.bool hmt) ?_;refine dv 54 ?_;refine dv 55 ?_;refine dv 56 ?_;refine dv 57 ?_;refine aL 58 ?_
   refine aR 59 rfl (iN (Qn.of (p:=(dH (bF fw ys) (k7)).n) ((hC.usz _ (jG (by omega))).mono (M:=68719476736) (by omega)))) mH ⟨aE rfl,rfl⟩ (.one (tv (.int .i64 (dH (bF fw ys) (k7)).n.num.sign))) ?_
   refine df 60 ?_;refine df 61 ?_;refine aQ ?_;refine bN rfl (fun h14=>?_) (fun h14=>?_)
   ·exact absurd h14 (by first | omega | exact lP hpos)
   refine sk ?_;refine rl ?_;refine o1 ?_;refine o1 ?_;refine WL.cast (t:=125) (u':=.int .i64 ((k7+1:Nat):Int)) rfl (aC (by omega)) ?_
   refine o1 ?_;refine nl ?_;exact⟨k7+1,by omega,by omega,aP h0 [0] _ _ (by decide) ⟨rfl,rfl,rfl,rfl,trivial⟩ ⟨oe rfl rfl,rfl⟩⟩
  refine ex ?_;refine sq ?_;refine sq ?_;refine rl ?_;refine o1 ?_;refine nl ?_;refine bl ?_
  refine lp (γ:=Nat) (fun s=>cC [(1,.one (.t (iX ys))),(5,.one (.pt 0 0)),(12,.one (tv (.int .i64 ((s:Nat):Int))))]) (fun s=>[(⟨39,0,[.t (dF false (fL fw ys)),.t (cZ false false (cJ fw ys)),.t (cN false false (bF fw ys))]⟩:Ob)].map some) (fun s=>s≤ys.length) (fun s=>ys.length-s) 0 (Nat.zero_le _) (aP h0 [0] _ _ (by decide) ⟨rfl,rfl,rfl,trivial⟩ ⟨oe rfl rfl,rfl⟩) ?_
  rintro i6 hi6;refine sq ?_;refine sq ?_;refine rl ?_;(iterate 4 refine o1 ?_);refine nl ?_;refine bN rfl (fun h15=>?_) (fun h15=>?_)
  ·refine sk ?_;refine sq ?_;refine bl ?_;refine sq ?_;refine sq ?_;refine rd [0] (fun i=>[].contains i) mixed ?_
   refine dv 0 ?_;refine aL 1 ?_;refine dv 2 ?_;refine dv 3 ?_;refine dv 4 ?_
   refine eJ 5 ((Fr4.of (eI (bF fw ys) (i6))).tr false) ((by rw[show eI (bF fw ys) ((i6:Nat):Int)=(mG (fL fw ys) (i6)).u from by rw[hC.rat (i:=i6) (by omega)];rfl];exact(aS (f:=lB) (z:=5) (o:=0) iW (lW (by omega)) (Nat.le_of_ble_eq_true rfl) rfl))) ?_
   refine dv 6 ?_;refine dv 7 ?_;refine dv 8 ?_;refine dv 9 ?_
   refine eJ 10 ((Fr4.of ((cG fw.toNat ys).lim (i6))).tr false) ((by rw[←hC.l (i6) (by omega)];exact(aS (f:=eP) (z:=6) (o:=2) dU (dA (by omega)) (Nat.le_of_ble_eq_true rfl) rfl))) ?_
   refine aR 11 rfl (xB (Qn.of (p:=(eI (bF fw ys) (i6))) ((hIv.sz_yIn hC.ok (by omega)).mono (M:=68719476736) (by omega))) (Qn.of (p:=((cG fw.toNat ys).lim (i6))) ((hC.ok.lim _ (by omega)).mono (M:=68719476736) (by omega)))) lL ⟨aE rfl,aE rfl,rfl⟩ (.one (tv (.int .i64 ((eI (bF fw ys) (i6))-((cG fw.toNat ys).lim (i6))).num.sign))) ?_
   refine df 12 ?_;refine df 13 ?_;refine WD.split (t:=212) rfl rfl (fun h16=>?_) (fun h16=>?_)
   ·exact absurd h16 (by first | omega | exact sG (hIv.y i6 (by omega)).1.2)
   refine dv 14 ?_;refine aL 15 ?_;refine dv 16 ?_;refine dv 17 ?_;refine dv 18 ?_
   refine eJ 19 ([sQ false (((cG fw.toNat ys).by9 (bF fw ys) (i6)).map Fr4.of)]) ((by rw[show(cG fw.toNat ys).by9 (bF fw ys) (i6)=(mG (fL fw ys) (i6)).b from by rw[hC.rat (i:=i6) (by omega)];rfl];exact(aS (f:=lB) (z:=5) (o:=4) iW (lW (by omega)) (Nat.le_of_ble_eq_true rfl) rfl))) ?_
   refine dv 20 ?_;refine WD.cast (t:=219) (u':=.int .i64 (((cG fw.toNat ys).E:Nat):Int)) rfl (aC (by rw[List.length_map,nH])) ?_
   refine dv 21 ?_;refine dv 22 ?_;refine dv 23 ?_;refine dv 24 ?_
   refine eJ 25 ([sQ false (((cG fw.toNat ys).bs (i6)).map Fr4.of)]) ((by rw[←hC.b (i6) (by omega)];exact(aS (f:=eP) (z:=6) (o:=1) dU (dA (by omega)) (Nat.le_of_ble_eq_true rfl) rfl))) ?_
   refine dv 26 ?_;refine WD.cast (t:=225) (u':=.int .i64 (((cG fw.toNat ys).E:Nat):Int)) rfl (aC (by rw[List.length_map,jS])) ?_
   refine dv 27 ?_;refine df 28 ?_;refine df 29 ?_;refine WD.split (t:=228) rfl rfl (fun h17=>?_) (fun h17=>?_)
   ·exact absurd h17 (by first | omega | exact sG (hIv.y i6 (by omega)).1.2)
   refine dv 30 ?_;refine aL 31 ?_;refine dv 32 ?_;refine dv 33 ?_;refine dv 34 ?_
   refine eJ 35 ([sQ false (((cG fw.toNat ys).by9 (bF fw ys) (i6)).map Fr4.of)]) ((by rw[show(cG fw.toNat ys).by9 (bF fw ys) (i6)=(mG (fL fw ys) (i6)).b from by rw[hC.rat (i:=i6) (by omega)];rfl];exact(aS (f:=lB) (z:=5) (o:=4) iW (lW (by omega)) (Nat.le_of_ble_eq_true rfl) rfl))) ?_
   refine dv 37 ?_;refine aL 38 ?_;refine dv 39 ?_;refine dv 40 ?_;refine dv 41 ?_
   refine eJ 42 ((Fr4.of (eI (bF fw ys) (i6))).tr false) ((by rw[show eI (bF fw ys) ((i6:Nat):Int)=(mG (fL fw ys) (i6)).u from by rw[hC.rat (i:=i6) (by omega)];rfl];exact(aS (f:=lB) (z:=5) (o:=0) iW (lW (by omega)) (Nat.le_of_ble_eq_true rfl) rfl))) ?_
   refine aR 36 rfl (Ua (qs:=(cG fw.toNat ys).by9 (bF fw ys) (i6)) (hby i6 (by omega)) (by rw[nH];omega)) LV ⟨a1 rfl,rfl⟩ (qF (.of (eG ((cG fw.toNat ys).by9 (bF fw ys) (i6))))) ?_
   refine aR 43 rfl (jW (p:=(eG ((cG fw.toNat ys).by9 (bF fw ys) (i6)))) (q:=(eI (bF fw ys) (i6))) (by rw[hbs i6];exact((hIv.sz_yIn hC.ok (by omega)).mono (M:=68719476736) (by omega))) ((hIv.sz_yIn hC.ok (by omega)).mono (M:=68719476736) (by omega)) (hbs i6)) lL ⟨aE rfl,aE rfl,rfl⟩ (.one (tv (.int .i64 0))) ?_
   refine df 44 ?_;refine WD.cast (t:=243) (u':=.bool false) rfl (congrArg Value.bool rfl) ?_;refine df 45 ?_;refine aQ ?_;refine fW rfl ?_;refine sk ?_;refine sq ?_
   refine rl ?_;refine o1 ?_;refine nl ?_;refine bl ?_
   refine lp (γ:=Nat) (fun s=>cC [(1,.one (.t (iX ys))),(5,.one (.pt 0 0)),(12,.one (tv (.int .i64 ((i6:Nat):Int)))),(13,.one (tv (.int .i64 ((s:Nat):Int))))]) (fun s=>[(⟨39,0,[.t (dF false (fL fw ys)),.t (cZ false false (cJ fw ys)),.t (cN false false (bF fw ys))]⟩:Ob)].map some) (fun s=>s≤(cG fw.toNat ys).E) (fun s=>(cG fw.toNat ys).E-s) 0 (Nat.zero_le _) (aP h0 [0] _ _ (by decide) ⟨rfl,rfl,rfl,rfl,trivial⟩ ⟨oe rfl rfl,rfl⟩) ?_
   rintro i5 hi5;refine sq ?_;refine sq ?_;refine rl ?_;(iterate 5 refine o1 ?_)
   refine dZ ([sQ false (((cG fw.toNat ys).bs (i6)).map Fr4.of)]) ((by rw[←hC.b (i6) (by omega)];exact(aS (f:=eP) (z:=6) (o:=1) dU (dA (by omega)) (Nat.le_of_ble_eq_true rfl) rfl))) ?_
   refine o1 ?_;refine WL.cast (t:=251) (u':=.int .i64 (((cG fw.toNat ys).E:Nat):Int)) rfl (aC (by rw[List.length_map,jS])) ?_
   refine o1 ?_;refine nl ?_;refine bN rfl (fun h18=>?_) (fun h18=>?_)
   ·refine sk ?_;refine sq ?_;refine bl ?_;refine sq ?_
    have hb9l:(((cG fw.toNat ys).by9 (bF fw ys) (i6)).map Fr4.of).length=(cG fw.toNat ys).E:=by rw[List.length_map,nH]
    have hb8l:(((cG fw.toNat ys).bs (i6)).map Fr4.of).length=(cG fw.toNat ys).E:=by rw[List.length_map,jS]
    refine rd [0] (fun i=>[].contains i) mixed ?_
    refine dv 0 ?_;refine aL 1 ?_;refine dv 2 ?_;refine dv 3 ?_;refine dv 4 ?_
    refine eJ 5 ([sQ false (((cG fw.toNat ys).by9 (bF fw ys) (i6)).map Fr4.of)]) ((by rw[show(cG fw.toNat ys).by9 (bF fw ys) (i6)=(mG (fL fw ys) (i6)).b from by rw[hC.rat (i:=i6) (by omega)];rfl];exact(aS (f:=lB) (z:=5) (o:=4) iW (lW (by omega)) (Nat.le_of_ble_eq_true rfl) rfl))) ?_
    refine dv 6 ?_;refine dv 7 ?_
    refine eJ 8 ((Fr4.of (fN (bF fw ys) (i6) (i5))).tr false) ((by rw[←LU (cG fw.toNat ys) (U:=(bF fw ys)) (t:=(i6)) (e:=i5) (by omega)];exact jR (((cG fw.toNat ys).by9 (bF fw ys) (i6)).map Fr4.of) (k:=i5) (by rw[List.length_map,nH];omega))) ?_
    refine aR 9 rfl (iN (Qn.of (p:=(fN (bF fw ys) (i6) (i5))) ((hIv.sz_eIn hC.ok (by omega) (by omega)).mono (M:=68719476736) (by omega)))) mH ⟨aE rfl,rfl⟩ (.one (tv (.int .i64 (fN (bF fw ys) (i6) (i5)).num.sign))) ?_
    refine df 10 ?_;refine df 11 ?_;refine WD.split (t:=266) rfl rfl (fun h19=>?_) (fun h19=>?_)
    ·exact absurd h19 (by first | exact Cl (hIv.b i6 i5 (by omega) (by omega)).1.1 | exact sG (by rw[hC.un];exact Im))
    refine dv 12 ?_;refine aL 13 ?_;refine dv 14 ?_;refine dv 15 ?_;refine dv 16 ?_
    refine eJ 17 ([sQ false (((cG fw.toNat ys).by9 (bF fw ys) (i6)).map Fr4.of)]) ((by rw[show(cG fw.toNat ys).by9 (bF fw ys) (i6)=(mG (fL fw ys) (i6)).b from by rw[hC.rat (i:=i6) (by omega)];rfl];exact(aS (f:=lB) (z:=5) (o:=4) iW (lW (by omega)) (Nat.le_of_ble_eq_true rfl) rfl))) ?_
    refine dv 18 ?_;refine dv 19 ?_
    refine eJ 20 ((Fr4.of (fN (bF fw ys) (i6) (i5))).tr false) ((by rw[←LU (cG fw.toNat ys) (U:=(bF fw ys)) (t:=(i6)) (e:=i5) (by omega)];exact jR (((cG fw.toNat ys).by9 (bF fw ys) (i6)).map Fr4.of) (k:=i5) (by rw[List.length_map,nH];omega))) ?_
    refine dv 22 ?_;refine dv 23 ?_;refine dv 24 ?_;refine dv 25 ?_
    refine eJ 26 ([sQ false (((cG fw.toNat ys).bs (i6)).map Fr4.of)]) ((by rw[←hC.b (i6) (by omega)];exact(aS (f:=eP) (z:=6) (o:=1) dU (dA (by omega)) (Nat.le_of_ble_eq_true rfl) rfl))) ?_
    refine dv 27 ?_;refine dv 28 ?_
    refine eJ 29 ((Fr4.of ((cG fw.toNat ys).base (i6) (i5))).tr false) ((by rw[←LT (cG fw.toNat ys) (t:=(i6)) (e:=i5) (by omega)];exact jR (((cG fw.toNat ys).bs (i6)).map Fr4.of) (k:=i5) (by rw[List.length_map,jS];omega))) ?_
    refine WO.two (i:=21) (j:=30) (by kernel_rfl) ?_ ?_
    ·refine fA 21 rfl (fF (z:=0) (by omega) (by omega)) lM ⟨a1 rfl,rfl⟩ (qF (.of ((0:Int):Rat))) ?_
     refine kT (key:=1) 30 (by kernel_rfl) rfl rfl aA rfl ⟨rfl,trivial⟩ ?_
     refine yE (i:=285) (k:=1) (t:=48) (t':=52) (z:=4) (n:=1) (l:=([Fr4.of ((cG fw.toNat ys).base (i6) (i5))]).flatMap (Fr4.tr false)) rfl rfl rfl rfl (.one .sl) (by rfl) (by rfl) ?_
     refine aR 31 rfl (Nd (q:=((cG fw.toNat ys).base (i6) (i5))) ((hC.ok.base _ _ (by omega) (by omega)).mono (M:=68719476736) (by omega))) LX ⟨aE rfl,a1 rfl,rfl⟩ (qF (.of (fH 0 [((cG fw.toNat ys).base (i6) (i5))]))) ?_
     refine aR 32 rfl (xB (Qn.of (p:=(fN (bF fw ys) (i6) (i5))) ((hIv.sz_eIn hC.ok (by omega) (by omega)).mono (M:=68719476736) (by omega))) (Qn.of (p:=(fH 0 [((cG fw.toNat ys).base (i6) (i5))])) (Eh ((hC.ok.base _ _ (by omega) (by omega)).mono (M:=68719476736) (by omega)) (by omega)))) lL ⟨aE rfl,aE rfl,rfl⟩ (.one (tv (.int .i64 ((fN (bF fw ys) (i6) (i5))-(fH 0 [((cG fw.toNat ys).base (i6) (i5))])).num.sign))) ?_
     refine df 33 ?_;refine df 34 ?_;refine aQ ?_;refine bN rfl (fun h20=>?_) (fun h20=>?_)
     ·exact absurd h20 (by first | exact Cl (hIv.b i6 i5 (by omega) (by omega)).1.1 | exact sG (by rw[hC.un];exact Im))
     refine sk ?_;refine rl ?_;refine o1 ?_;refine o1 ?_;refine WL.cast (t:=254) (u':=.int .i64 ((i5+1:Nat):Int)) rfl (aC (by omega)) ?_
     refine o1 ?_;refine nl ?_;exact⟨i5+1,by omega,by omega,aP h0 [0] _ _ (by decide) ⟨rfl,rfl,rfl,rfl,trivial⟩ ⟨oe rfl rfl,rfl⟩⟩
    refine Xo (key:=1) 30 rfl rfl ⟨rfl,trivial⟩ ?_
    refine yE (i:=285) (k:=1) (t:=48) (t':=52) (z:=4) (n:=1) (l:=([Fr4.of ((cG fw.toNat ys).base (i6) (i5))]).flatMap (Fr4.tr false)) rfl rfl rfl rfl (.one .sl) (by rfl) (by rfl) ?_
    refine aR 21 rfl (fF (z:=0) (by omega) (by omega)) lM ⟨a1 rfl,rfl⟩ (qF (.of ((0:Int):Rat))) ?_
    refine aR 31 rfl (Nd (q:=((cG fw.toNat ys).base (i6) (i5))) ((hC.ok.base _ _ (by omega) (by omega)).mono (M:=68719476736) (by omega))) LX ⟨aE rfl,a1 rfl,rfl⟩ (qF (.of (fH 0 [((cG fw.toNat ys).base (i6) (i5))]))) ?_
    refine aR 32 rfl (xB (Qn.of (p:=(fN (bF fw ys) (i6) (i5))) ((hIv.sz_eIn hC.ok (by omega) (by omega)).mono (M:=68719476736) (by omega))) (Qn.of (p:=(fH 0 [((cG fw.toNat ys).base (i6) (i5))])) (Eh ((hC.ok.base _ _ (by omega) (by omega)).mono (M:=68719476736) (by omega)) (by omega)))) lL ⟨aE rfl,aE rfl,rfl⟩ (.one (tv (.int .i64 ((fN (bF fw ys) (i6) (i5))-(fH 0 [((cG fw.toNat ys).base (i6) (i5))])).num.sign))) ?_
    refine df 33 ?_;refine df 34 ?_;refine aQ ?_;refine bN rfl (fun h21=>?_) (fun h21=>?_)
    ·exact absurd h21 (by first | exact Cl (hIv.b i6 i5 (by omega) (by omega)).1.1 | exact sG (by rw[hC.un];exact Im))
    refine sk ?_;refine rl ?_;refine o1 ?_;refine o1 ?_;refine WL.cast (t:=254) (u':=.int .i64 ((i5+1:Nat):Int)) rfl (aC (by omega)) ?_
    refine o1 ?_;refine nl ?_;exact⟨i5+1,by omega,by omega,aP h0 [0] _ _ (by decide) ⟨rfl,rfl,rfl,rfl,trivial⟩ ⟨oe rfl rfl,rfl⟩⟩
   refine ex ?_;refine rl ?_;refine o1 ?_;refine o1 ?_;refine WL.cast (t:=198) (u':=.int .i64 ((i6+1:Nat):Int)) rfl (aC (by omega)) ?_
   refine o1 ?_;refine nl ?_;exact⟨i6+1,by omega,by omega,aP h0 [0] _ _ (by decide) ⟨rfl,rfl,rfl,trivial⟩ ⟨oe rfl rfl,rfl⟩⟩
  refine ex ?_;refine sq ?_;refine rl ?_;refine ca (vX) LW rfl (.one (tv (.bool true))) ?_;refine o1 ?_;refine nl ?_;refine rt ?_;exact iS (.inl rfl) rfl (rfl)
 refine o1 ?_;refine nl ?_;refine iU rfl ?_;refine sq ?_;refine rl ?_;refine ca (vX) LW rfl (.one (tv (.bool true))) ?_;refine o1 ?_;refine nl ?_;refine rt ?_
 exact iS (.inl rfl) rfl (rfl)
end Go.Proofs.YtbbabfkgdnkehaaGreat
