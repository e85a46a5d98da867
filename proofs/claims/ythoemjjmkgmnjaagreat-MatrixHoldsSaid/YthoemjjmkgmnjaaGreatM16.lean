/- Part 16 of a proof: Rd to Rim. -/
import Derived.Test.YthoemjjmkgmnjaaGreatM5
import Derived.Test.YthoemjjmkgmnjaaGreatM8
import Derived.ProofKit
import Derived.ChangeOld
import Derived.Deep.Slices
import Derived.Deep.Strs
import Derived.WalkKit
import Derived.OpenShut
import Derived.Below
import Derived.Carry
import Derived.Test.YthoemjjmkgmnjaaGreatM11
set_option maxRecDepth 100000
set_option linter.unusedVariables false
set_option linter.unusedSimpArgs false
namespace Go.Proofs.YthoemjjmkgmnjaaGreat
open Go Go.RowKit Go.ChangeShapes
def Reads (P:Program) (t:TypeId) (z:Nat) (T:List Tr→Prop):Prop:=
 P.cellsOf t=z∧∀(H:Type) (enc:TypeId×Value→H) (w:World) (fuel:Nat) (cs:List Value) (x:DataW H×List MemPlace),DataW.trod enc P w 0 (fun _=>true) true fuel t cs=some x→∃l,T l∧l.length=z∧FRL w (Bf w) l cs
theorem Qo {W:World}{N:Nat→Prop}:∀{l l':List Tr}{us us':List Value},FRL W N l us→FRL W N l' us'→FRL W N (l++l') (us++us')
 | [],l',us,us',h,h'=>by simp only[FRL]at h;subst h;exact h'
 | x::l,l',u::us,us',h,h'=>by simp only[FRL,List.cons_append]at*;exact⟨h.1,Qo h.2 h'⟩
 | _::_,_,[],_,h,_=>by simp only[FRL]at h
theorem Qp {W:World}{N:Nat→Prop}:∀{l:List Tr}{us:List Value}{j:Nat}{x:Tr},FRL W N l us→l[j]? =some x→∃u,us[j]? =some u∧FR W N x u
 | [],_,_,_,_,h=>by simp at h
 | y::l,u::us,0,x,h,e=>by
  simp only[FRL]at h
  simp at e
  subst e
  exact⟨u,rfl,h.1⟩
 | y::l,u::us,j+1,x,h,e=>by
  simp only[FRL]at h
  exact Qp (j:=j) h.2 (by simpa using e)
 | _::_,[],_,_,h,_=>by simp only[FRL]at h
section
variable {P:Program}{t e:TypeId}{k:IntKind}{z:Nat}{T T':List Tr→Prop}
theorem Reads.mono (h:Reads P t z T) (hi:∀l,T l→T' l):Reads P t z T':=⟨h.1,fun H enc w fuel cs x hx=>let ⟨l,a,b⟩:=h.2 H enc w fuel cs x hx;⟨l,hi l a,b⟩⟩
theorem JA (ht:P.underlying t=some .bool) (hz:P.cellsOf t=1):Reads P t 1 (fun l=>∃b,l=[.v (.bool b)]):=⟨hz,fun H enc w fuel cs x hx=>by
 obtain⟨b,rfl,_⟩:=DataW.trod_bool ht hx
 exact⟨_,⟨b,rfl⟩,rfl,by simp[FRL,FR]⟩⟩
theorem Lx (ht:P.underlying t=some (.int k)) (hz:P.cellsOf t=1):Reads P t 1 (fun l=>∃n,l=[.v (.int k n)]∧k.min≤n∧n≤k.max):=⟨hz,fun H enc w fuel cs x hx=>by
 obtain⟨n,rfl,_,h⟩:=DataW.trod_int ht hx
 simp only[Lit.wf,Bool.and_eq_true,decide_eq_true_eq]at h
 exact⟨_,⟨n,rfl,h⟩,rfl,by simp[FRL,FR]⟩⟩
inductive Flds (P:Program):Nat→List Field→Nat→(List Tr→Prop)→Prop
 | nil {o:Nat}:Flds P o [] 0 (· =[])
 | cons {o z z':Nat}{f:Field}{fs:List Field}{T T':List Tr→Prop}(ho:f.offset=o) (h:Reads P f.type z T) (h':Flds P (o+z) fs z' T'):Flds P o (f::fs) (z+z') (fun l=>∃a b,l=a++b∧T a∧T' b)
theorem Flds.read {H:Type}{enc:TypeId×Value→H}{w:World}{n o:Nat}{fs:List Field}(h:Flds P o fs z T):∀{cs:List Value},o+z≤cs.length→(∀f∈fs,∃x,DataW.trod enc P w 0 (fun _=>true) true n f.type ((cs.drop f.offset).take (P.cellsOf f.type))=some x)→∃l,T l∧l.length=z∧FRL w (Bf w) l ((cs.drop o).take z):=by
 induction h with
 | nil=>exact fun _ _=>⟨[],rfl,rfl,by simp[FRL]⟩
 | @cons o z z' f fs T T' ho hr _ ih=>
  intro cs hl hf
  obtain⟨b,h1,h2,h3⟩:=ih (cs:=cs) (by omega) fun f hm=>hf f (List.mem_cons_of_mem _ hm)
  obtain⟨x,hx⟩:=hf f List.mem_cons_self
  obtain⟨a,g1,g2,g3⟩:=hr.2 H enc w n _ x hx
  rw[ho,hr.1]at g3
  refine⟨a++b,⟨a,b,rfl,g1,h1⟩,by simp[g2,h2],?_⟩
  rw[List.take_add,List.drop_drop]
  exact Qo g3 h3
theorem sX {fs:List Field}{z':Nat}(ht:P.underlying t=some (.struct fs.toArray)) (hz:P.cellsOf t=z) (h:Flds P 0 fs z' T) (e:z'=z:=by rfl):Reads P t z T:=⟨hz,fun H enc w fuel cs x hx=>by
 subst e
 obtain⟨xs,n,_,rfl,hl,hlen,hf⟩:=DataW.trod_struct ht hx
 rw[hz]at hl
 obtain⟨l,h1,h2,h3⟩:=h.read (H:=H) (enc:=enc) (w:=w) (n:=n) (cs:=cs) (by omega) fun f hm=>by
  obtain⟨i,hi⟩:=List.mem_iff_getElem?.1 hm
  have h1:=hf i f (by simpa using hi)
  have h2:i<xs.length:=by
   have:=(List.getElem?_eq_some_iff.1 hi).1
   simp at hlen
   omega
  rw[List.getElem?_eq_getElem h2]at h1
  exact⟨_,h1⟩
 refine⟨l,h1,h2,?_⟩
 rw[List.drop_zero,List.take_of_length_le (by omega)]at h3
 exact h3⟩
theorem Ly (ht:P.underlying t=some (.slice e)) (hz:P.cellsOf t=1) (hz0:0<z) (h:Reads P e z T):Reads P t 1 (fun l=>∃rows:List (List Tr),(∀r∈rows,T r∧r.length=z)∧l=[.s false e z rows.length rows.flatten]):=⟨hz,fun H enc w fuel cs x hx=>by
 have hlen:∀(rows:List (List Tr)),(∀r∈rows,T r∧r.length=z)→rows.flatten.length=rows.length*z:=by
  intro rows
  induction rows with
  | nil=>intro _;simp
  | cons r rows ih=>
   intro hr
   rw[List.flatten_cons,List.length_append,(hr r List.mem_cons_self).2,ih fun r hm=>hr r (List.mem_cons_of_mem _ hm),List.length_cons,Nat.succ_mul,Nat.add_comm]
 rcases Deep.open_slice ht hx with⟨rfl,_⟩ | ⟨a,len,cap,m,n,D,Pl,rfl,_,hl,hm,hmm,_,hel⟩
 ·refine⟨_,⟨[],fun _ h=>(by cases h),rfl⟩,rfl,?_⟩
  simp only[FRL,FR,and_true]
  exact⟨none,0,rfl,Nat.le_refl _,by omega,by simp,.inl rfl⟩
 have hmc:m=cap:=by simpa using hmm
 rw[h.1]at hel
 have hex:∀i:Nat,∃l:List Tr,i<len→T l∧l.length=z∧∀j y,l[j]? =some y→∃u,w.cell? ((a.add (i*z)).add j)=some u∧FR w (Bf w) y u:=fun i=>by
  by_cases hi:i<len
  ·obtain⟨cs',h1,h2⟩:=hel i (by omega)
   obtain⟨l,g1,g2,g3⟩:=h.2 H enc w n cs' _ h2
   obtain⟨_,h3,h4⟩:=World.cells?_some h1
   refine⟨l,fun _=>⟨g1,g2,fun j y hj=>?_⟩⟩
   obtain⟨u,hu,hy⟩:=Qp g3 hj
   have hjl:=(List.getElem?_eq_some_iff.1 hj).1
   exact⟨u,by rw[h4 j (by omega),hu],hy⟩
  exact⟨[],fun h=>absurd h hi⟩
 have hF:=fun i=>Classical.choose_spec (hex i)
 have hrow:∀r∈(List.range len).map (fun i=>Classical.choose (hex i)),T r∧r.length=z:=fun r hr=>by
  obtain⟨i,hi,rfl⟩:=List.mem_map.1 hr
  have:=hF i (List.mem_range.1 hi)
  exact⟨this.1,this.2.1⟩
 refine⟨_,⟨_,hrow,rfl⟩,rfl,?_⟩
 have h5:=hlen _ hrow
 simp only[FRL,and_true,FR]
 refine⟨some a,cap,by simp,by simpa using hl,by unfold maxLen at hm;omega,h5,?_⟩
 rcases Nat.eq_zero_or_pos len with h0 | h0
 ·exact .inl (by simp[h0])
 refine .inr ⟨a,rfl,?_,yM fun j y hj=>?_⟩
 ·obtain⟨_,g2,g3⟩:=hF 0 h0
  obtain⟨u,hu,_⟩:=g3 0 _ (List.getElem?_eq_getElem (by omega))
  have:=World.block_lt_of_cell? w ((a.add (0*z)).add 0) hu
  rwa[jO,jO]at this
 have hjl:=(List.getElem?_eq_some_iff.1 hj).1
 rw[h5,List.length_map,List.length_range]at hjl
 have hi:j/z<len:=Nat.div_lt_of_lt_mul (by rw[Nat.mul_comm];exact hjl)
 obtain⟨_,g2,g3⟩:=hF (j/z) hi
 have hz1:=Nat.mod_lt j hz0
 have hget:∀(rows:List (List Tr)),(∀r∈rows,T r∧r.length=z)→∀(i o:Nat) (r:List Tr),rows[i]? =some r→o<z→rows.flatten[i*z+o]? =r[o]? :=by
  intro rows
  induction rows with
  | nil=>intro _ i o r h;simp at h
  | cons r rows ih=>
   intro hr i o r' hi ho
   have hrl:=(hr r List.mem_cons_self).2
   cases i with
   | zero=>
    simp at hi
    subst hi
    rw[Nat.zero_mul,Nat.zero_add,List.flatten_cons,List.getElem?_append_left (by omega)]
   | succ i=>
    rw[List.flatten_cons,List.getElem?_append_right (by rw[Nat.succ_mul];omega),hrl,show(i+1)*z+o-z=i*z+o by rw[Nat.succ_mul];omega]
    exact ih (fun r hm=>hr r (List.mem_cons_of_mem _ hm)) i o r' (by simpa using hi) ho
 have hd:=Nat.div_add_mod j z
 rw[Nat.mul_comm]at hd
 rw[←hd,hget _ hrow (j/z) (j%z) (Classical.choose (hex (j/z))) (by simp[hi]) hz1]at hj
 obtain⟨u,hu,hy⟩:=g3 _ _ hj
 refine⟨u,?_,hy⟩
 rw[Nat.zero_add]
 have e2:(a.add (j/z*z)).add (j%z)=a.add j:=by rw[zH,hd]
 rwa[e2]at hu⟩
theorem Gf {α:Type}(f:α→List Tr) (Q:α→Prop):∀{rows:List (List Tr)},(∀r∈rows,∃a,Q a∧r=f a)→∃xs:List α,(∀a∈xs,Q a)∧rows.flatten=xs.flatMap f∧rows.length=xs.length
 | [],_=>⟨[],fun _ h=>(by cases h),rfl,rfl⟩
 | r::rows,h=>by
  obtain⟨a,h1,rfl⟩:=h r List.mem_cons_self
  obtain⟨xs,h2,h3,h4⟩:=Gf f Q fun r hm=>h r (List.mem_cons_of_mem _ hm)
  exact⟨a::xs,fun b hb=>(List.mem_cons.1 hb).elim (fun e=>e▸h1) (h2 b),by simp[h3],by simp[h4]⟩
theorem CE (ht:P.underlying t=some (.slice e)) (he:P.underlying e=some (.int .u32)) (hz:P.cellsOf t=1) (hze:P.cellsOf e=1) (hn:e=109):Reads P t 1 (fun l=>∃xs:List Nat,Lim 4294967296 xs∧l=[sU false xs]):=
 (Ly ht hz (by omega) (Lx he hze)).mono fun l ⟨rows,h1,h2⟩=>by
  obtain⟨xs,h3,h4,h5⟩:=Gf (fun n:Nat=>[Tr.v (.int .u32 (n:Int))]) (fun n=>n<4294967296) (rows:=rows) fun r hr=>by
   obtain⟨⟨n,rfl,h1,h2⟩,_⟩:=h1 r hr
   have e1:IntKind.u32.min=0:=rfl
   have e2:IntKind.u32.max=4294967295:=rfl
   rw[e1]at h1
   rw[e2]at h2
   exact⟨n.toNat,by omega,by rw[Int.toNat_of_nonneg h1]⟩
  refine⟨xs,h3,?_⟩
  rw[h2,h4,h5,sU,hn]
  have:∀xs:List Nat,xs.flatMap (fun n:Nat=>[Tr.v (.int .u32 (n:Int))])=aV xs:=by
   intro xs
   induction xs with
   | nil=>rfl
   | cons n xs ih=>rw[List.flatMap_cons,ih];rfl
  rw[this]
theorem JB (hb:Reads P t z (fun l=>∃a b,l=a++b∧(∃s,a=[.v (.bool s)])∧∃b' c',b=b'++c'∧(∃xs:List Nat,Lim 4294967296 xs∧b'=[sU false xs])∧c'=[])):Reads P t z (fun l=>∃(s:Bool) (xs:List Nat),Lim 4294967296 xs∧l=[.v (.bool s),sU false xs]):=
 hb.mono fun l ⟨a,b,h1,⟨s,h2⟩,b',c',h3,⟨xs,h4,h5⟩,h6⟩=>⟨s,xs,h4,by rw[h1,h2,h3,h5,h6];rfl⟩
end
def LimF (a:Fr4):Prop:=Lim 4294967296 a.x∧Lim 4294967296 a.y
end Go.Proofs.YthoemjjmkgmnjaaGreat
namespace Go.Proofs.YthoemjjmkgmnjaaGreat
open Go Go.ChangeShapes Go.WideShapes Go.ChangeAt Go.RowKit
theorem OT:Tryz.prog.cellsOf 24=2:=by kernel_rfl
theorem JC:Tryz.prog.cellsOf 4=1:=by kernel_rfl
theorem Xj:Tryz.prog.cellsOf 3=1:=by kernel_rfl
theorem OU:Tryz.prog.cellsOf 109=1:=by kernel_rfl
theorem CF:Tryz.prog.cellsOf 22=1:=by kernel_rfl
theorem OV:Tryz.prog.cellsOf 26=4:=by kernel_rfl
theorem Xk:Reads Tryz.prog 24 2 (fun l=>∃(s:Bool) (xs:List Nat),Lim 4294967296 xs∧l=[.v (.bool s),sU false xs]):=by
 have h1:=JA Tryz.underlying4 JC
 have h2:=CE Tryz.underlying22 Tryz.underlying109 CF OU rfl
 have h3:=sX Tryz.underlying24 OT (.cons rfl h1 (.cons rfl h2 .nil))
 exact JB h3
theorem Lz:Reads Tryz.prog 26 4 (fun l=>∃a:Fr4,LimF a∧l=a.tr false):=
 (sX Tryz.underlying26 OV (.cons rfl Xk (.cons rfl Xk .nil))).mono fun l ⟨a,b,h1,⟨s,xs,h2,h3⟩,b',c',h4,⟨t,ys,h5,h6⟩,h7⟩=>⟨⟨s,xs,t,ys⟩,⟨h2,h5⟩,by rw[h1,h3,h4,h6,h7];rfl⟩
theorem Qq {W:World}{N:Nat→Prop}:∀{l:List Tr}{us:List Value},FRL W N l us→ARL W N [] (l.map .t) us
 | [],us,h=>by simpa[FRL,ARL]using h
 | x::l,u::us,h=>by
  simp only[FRL]at h
  simp only[List.map_cons,ARL,AR]
  exact⟨h.1,Qq h.2⟩
 | _::_,[],h=>by simp only[FRL]at h
theorem KQ {W:World}{l:List Tr}{cs:Array Value}(h:FRL W (Bf W) l (Value.agg cs).cells.toList):cB W (Bf W) [] (.agg (l.map .t)) (.agg cs):=⟨cs.toList,by simp,Qq (by simpa[Value.cells]using h)⟩
theorem KS {W:World}{y:Tr}{u:Value}(hu:u.cells.toList=[u]) (h:FRL W (Bf W) [y] u.cells.toList):cB W (Bf W) [] (.one (.t y)) u:=by
 rw[hu]at h
 simp only[FRL,and_true]at h
 simpa only[cB,AR]using h
theorem LimF.sh {a:Fr4}(h:LimF a):tK a:=fun h2=>by
 simp only[dR,Bool.and_eq_true,decide_eq_true_eq]at h2
 exact⟨h.1,h.2,by omega,by omega⟩
theorem SZ:Tryz.prog.cellsOf 70=8:=by kernel_rfl
theorem CG:Tryz.prog.cellsOf 28=6:=by kernel_rfl
theorem OW:Tryz.prog.cellsOf 29=1:=by kernel_rfl
theorem TA:Reads Tryz.prog 70 8 (fun l=>∃y:Fr4×Fr4,(LimF y.1∧LimF y.2)∧l=bV y):=
 (sX Tryz.underlying70 SZ (.cons rfl Lz (.cons rfl Lz .nil))).mono
  fun l ⟨a,b,h1,⟨p,h2,h3⟩,b',c',h4,⟨q,h5,h6⟩,h7⟩=>⟨(p,q),⟨h2,h5⟩,by rw[h1,h3,h4,h6,h7];rfl⟩
theorem KR:Reads Tryz.prog 29 1 (fun l=>∃xs:List (Fr4×Fr4),(∀x∈xs,LimF x.1∧LimF x.2)∧l=[fM xs]):=
 (Ly Tryz.underlying29 OW (by omega) TA).mono fun l ⟨rows,h1,h2⟩=>by
  obtain⟨xs,h3,h4,h5⟩:=Gf bV (fun y:Fr4×Fr4=>LimF y.1∧LimF y.2) (rows:=rows) fun r hr=>(h1 r hr).1
  exact⟨xs,h3,by rw[h2,h4,h5];rfl⟩
theorem Zt:Reads Tryz.prog 28 6 (fun l=>∃(c:Fr4) (bk fw:Int),LimF c∧l=c.tr false++[.v (.int .i64 bk),.v (.int .i64 fw)]):=
 (sX Tryz.underlying28 CG (.cons rfl Lz (.cons rfl (Lx Tryz.underlying3 Xj) (.cons rfl (Lx Tryz.underlying3 Xj) .nil)))).mono
  fun l ⟨a,b,h1,⟨c,h2,h3⟩,b',c',h4,⟨m,h5,_⟩,d,e,h6,⟨n,h7,_⟩,h8⟩=>⟨c,m,n,h2,by rw[h1,h3,h4,h5,h6,h7,h8];rfl⟩
end Go.Proofs.YthoemjjmkgmnjaaGreat
