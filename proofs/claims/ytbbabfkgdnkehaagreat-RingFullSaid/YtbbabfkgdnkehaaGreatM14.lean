/- Part 14 of a proof: Rd to X6. -/
import Derived.Test.YtbbabfkgdnkehaaGreatM5
import Derived.Test.YtbbabfkgdnkehaaGreatM7
import Derived.ProofKit
import Derived.ChangeOld
import Derived.Deep.Slices
import Derived.Deep.Strs
import Derived.Test.YtbbabfkgdnkehaaGreatM10
import Derived.WalkKit
import Derived.OpenShut
import Derived.Below
import Derived.Carry
import Derived.Test.YtbbabfkgdnkehaaGreatM13
import Derived.Test.YtbbabfkgdnkehaaGreatM12
import Derived.Test.YtbbabfkgdnkehaaGreatM9
set_option maxRecDepth 100000
set_option linter.unusedVariables false
set_option linter.unusedSimpArgs false
namespace Go.Proofs.YtbbabfkgdnkehaaGreat
open Go Go.RowKit Go.ChangeShapes
def Reads (P:Program) (t:TypeId) (z:Nat) (T:List Tr→Prop):Prop:=
 P.cellsOf t=z∧∀(H:Type) (enc:TypeId×Value→H) (w:World) (fuel:Nat) (cs:List Value) (x:DataW H×List MemPlace),DataW.trod enc P w 0 (fun _=>true) true fuel t cs=some x→∃l,T l∧l.length=z∧FRL w (Ek w) l cs
theorem Mv {W:World}{N:Nat→Prop}:∀{l l':List Tr}{us us':List Value},FRL W N l us→FRL W N l' us'→FRL W N (l++l') (us++us')
 | [],l',us,us',h,h'=>by simp only[FRL]at h;subst h;exact h'
 | x::l,l',u::us,us',h,h'=>by simp only[FRL,List.cons_append]at*;exact⟨h.1,Mv h.2 h'⟩
 | _::_,_,[],_,h,_=>by simp only[FRL]at h
theorem Mw {W:World}{N:Nat→Prop}:∀{l:List Tr}{us:List Value}{j:Nat}{x:Tr},FRL W N l us→l[j]? =some x→∃u,us[j]? =some u∧FR W N x u
 | [],_,_,_,_,h=>by simp at h
 | y::l,u::us,0,x,h,e=>by
  simp only[FRL]at h
  simp at e
  subst e
  exact⟨u,rfl,h.1⟩
 | y::l,u::us,j+1,x,h,e=>by
  simp only[FRL]at h
  exact Mw (j:=j) h.2 (by simpa using e)
 | _::_,[],_,_,h,_=>by simp only[FRL]at h
section
variable {P:Program}{t e:TypeId}{k:IntKind}{z:Nat}{T T':List Tr→Prop}
theorem Reads.mono (h:Reads P t z T) (hi:∀l,T l→T' l):Reads P t z T':=⟨h.1,fun H enc w fuel cs x hx=>let ⟨l,a,b⟩:=h.2 H enc w fuel cs x hx;⟨l,hi l a,b⟩⟩
theorem Mx (ht:P.underlying t=some .bool) (hz:P.cellsOf t=1):Reads P t 1 (fun l=>∃b,l=[.v (.bool b)]):=⟨hz,fun H enc w fuel cs x hx=>by
 obtain⟨b,rfl,_⟩:=DataW.trod_bool ht hx
 exact⟨_,⟨b,rfl⟩,rfl,by simp[FRL,FR]⟩⟩
theorem Tp (ht:P.underlying t=some (.int k)) (hz:P.cellsOf t=1):Reads P t 1 (fun l=>∃n,l=[.v (.int k n)]∧k.min≤n∧n≤k.max):=⟨hz,fun H enc w fuel cs x hx=>by
 obtain⟨n,rfl,_,h⟩:=DataW.trod_int ht hx
 simp only[Lit.wf,Bool.and_eq_true,decide_eq_true_eq]at h
 exact⟨_,⟨n,rfl,h⟩,rfl,by simp[FRL,FR]⟩⟩
inductive Flds (P:Program):Nat→List Field→Nat→(List Tr→Prop)→Prop
 | nil {o:Nat}:Flds P o [] 0 (· =[])
 | cons {o z z':Nat}{f:Field}{fs:List Field}{T T':List Tr→Prop}(ho:f.offset=o) (h:Reads P f.type z T) (h':Flds P (o+z) fs z' T'):Flds P o (f::fs) (z+z') (fun l=>∃a b,l=a++b∧T a∧T' b)
theorem Flds.read {H:Type}{enc:TypeId×Value→H}{w:World}{n o:Nat}{fs:List Field}(h:Flds P o fs z T):∀{cs:List Value},o+z≤cs.length→(∀f∈fs,∃x,DataW.trod enc P w 0 (fun _=>true) true n f.type ((cs.drop f.offset).take (P.cellsOf f.type))=some x)→∃l,T l∧l.length=z∧FRL w (Ek w) l ((cs.drop o).take z):=by
 induction h with
 | nil=>exact fun _ _=>⟨[],rfl,rfl,by simp[FRL]⟩
 | @cons o z z' f fs T T' ho hr _ ih=>
  intro cs hl hf
  obtain⟨b,h1,h2,h3⟩:=ih (cs:=cs) (by omega) fun f hm=>hf f (List.mem_cons_of_mem _ hm)
  obtain⟨x,hx⟩:=hf f List.mem_cons_self
  obtain⟨a,g1,g2,g3⟩:=hr.2 H enc w n _ x hx
  rw[ho,hr.1]at g3
  refine⟨a++b,⟨a,b,rfl,g1,h1⟩,by simp[g2,h2],?_⟩
  rw[List.take_add,List.drop_drop]
  exact Mv g3 h3
theorem vS {fs:List Field}{z':Nat}(ht:P.underlying t=some (.struct fs.toArray)) (hz:P.cellsOf t=z) (h:Flds P 0 fs z' T) (e:z'=z:=by rfl):Reads P t z T:=⟨hz,fun H enc w fuel cs x hx=>by
 subst e
 obtain⟨xs,n,_,rfl,hl,hlen,hf⟩:=DataW.trod_struct ht hx
 rw[hz]at hl
 obtain⟨l,h1,h2,h3⟩:=h.read (H:=H) (enc:=enc) (w:=w) (n:=n) (cs:=cs) (by omega) fun f hm=>by
  obtain⟨i,hi⟩:=List.mem_iff_getElem?.1 hm
  have h1:=hf i f (by simpa using hi)
  have h2:i<xs.length:=by
   have:=(List.getElem?_eq_some_iff.1 hi).1
   simp at hlen
   omega
  rw[List.getElem?_eq_getElem h2]at h1
  exact⟨_,h1⟩
 refine⟨l,h1,h2,?_⟩
 rw[List.drop_zero,List.take_of_length_le (by omega)]at h3
 exact h3⟩
theorem tM (ht:P.underlying t=some (.slice e)) (hz:P.cellsOf t=1) (hz0:0<z) (h:Reads P e z T):Reads P t 1 (fun l=>∃rows:List (List Tr),(∀r∈rows,T r∧r.length=z)∧l=[.s false e z rows.length rows.flatten]):=⟨hz,fun H enc w fuel cs x hx=>by
 have hlen:∀(rows:List (List Tr)),(∀r∈rows,T r∧r.length=z)→rows.flatten.length=rows.length*z:=by
  intro rows
  induction rows with
  | nil=>intro _;simp
  | cons r rows ih=>
   intro hr
   rw[List.flatten_cons,List.length_append,(hr r List.mem_cons_self).2,ih fun r hm=>hr r (List.mem_cons_of_mem _ hm),List.length_cons,Nat.succ_mul,Nat.add_comm]
 rcases Deep.open_slice ht hx with⟨rfl,_⟩ | ⟨a,len,cap,m,n,D,Pl,rfl,_,hl,hm,hmm,_,hel⟩
 ·refine⟨_,⟨[],fun _ h=>(by cases h),rfl⟩,rfl,?_⟩
  simp only[FRL,FR,and_true]
  exact⟨none,0,rfl,Nat.le_refl _,by omega,by simp,.inl rfl⟩
 have hmc:m=cap:=by simpa using hmm
 rw[h.1]at hel
 have hex:∀i:Nat,∃l:List Tr,i<len→T l∧l.length=z∧∀j y,l[j]? =some y→∃u,w.cell? ((a.add (i*z)).add j)=some u∧FR w (Ek w) y u:=fun i=>by
  by_cases hi:i<len
  ·obtain⟨cs',h1,h2⟩:=hel i (by omega)
   obtain⟨l,g1,g2,g3⟩:=h.2 H enc w n cs' _ h2
   obtain⟨_,h3,h4⟩:=World.cells?_some h1
   refine⟨l,fun _=>⟨g1,g2,fun j y hj=>?_⟩⟩
   obtain⟨u,hu,hy⟩:=Mw g3 hj
   have hjl:=(List.getElem?_eq_some_iff.1 hj).1
   exact⟨u,by rw[h4 j (by omega),hu],hy⟩
  exact⟨[],fun h=>absurd h hi⟩
 have hF:=fun i=>Classical.choose_spec (hex i)
 have hrow:∀r∈(List.range len).map (fun i=>Classical.choose (hex i)),T r∧r.length=z:=fun r hr=>by
  obtain⟨i,hi,rfl⟩:=List.mem_map.1 hr
  have:=hF i (List.mem_range.1 hi)
  exact⟨this.1,this.2.1⟩
 refine⟨_,⟨_,hrow,rfl⟩,rfl,?_⟩
 have h5:=hlen _ hrow
 simp only[FRL,and_true,FR]
 refine⟨some a,cap,by simp,by simpa using hl,by unfold maxLen at hm;omega,h5,?_⟩
 rcases Nat.eq_zero_or_pos len with h0 | h0
 ·exact .inl (by simp[h0])
 refine .inr ⟨a,rfl,?_,vT fun j y hj=>?_⟩
 ·obtain⟨_,g2,g3⟩:=hF 0 h0
  obtain⟨u,hu,_⟩:=g3 0 _ (List.getElem?_eq_getElem (by omega))
  have:=World.block_lt_of_cell? w ((a.add (0*z)).add 0) hu
  rwa[iX,iX]at this
 have hjl:=(List.getElem?_eq_some_iff.1 hj).1
 rw[h5,List.length_map,List.length_range]at hjl
 have hi:j/z<len:=Nat.div_lt_of_lt_mul (by rw[Nat.mul_comm];exact hjl)
 obtain⟨_,g2,g3⟩:=hF (j/z) hi
 have hz1:=Nat.mod_lt j hz0
 have hget:∀(rows:List (List Tr)),(∀r∈rows,T r∧r.length=z)→∀(i o:Nat) (r:List Tr),rows[i]? =some r→o<z→rows.flatten[i*z+o]? =r[o]? :=by
  intro rows
  induction rows with
  | nil=>intro _ i o r h;simp at h
  | cons r rows ih=>
   intro hr i o r' hi ho
   have hrl:=(hr r List.mem_cons_self).2
   cases i with
   | zero=>
    simp at hi
    subst hi
    rw[Nat.zero_mul,Nat.zero_add,List.flatten_cons,List.getElem?_append_left (by omega)]
   | succ i=>
    rw[List.flatten_cons,List.getElem?_append_right (by rw[Nat.succ_mul];omega),hrl,show(i+1)*z+o-z=i*z+o by rw[Nat.succ_mul];omega]
    exact ih (fun r hm=>hr r (List.mem_cons_of_mem _ hm)) i o r' (by simpa using hi) ho
 have hd:=Nat.div_add_mod j z
 rw[Nat.mul_comm]at hd
 rw[←hd,hget _ hrow (j/z) (j%z) (Classical.choose (hex (j/z))) (by simp[hi]) hz1]at hj
 obtain⟨u,hu,hy⟩:=g3 _ _ hj
 refine⟨u,?_,hy⟩
 rw[Nat.zero_add]
 have e2:(a.add (j/z*z)).add (j%z)=a.add j:=by rw[wO,hd]
 rwa[e2]at hu⟩
theorem sC {α:Type}(f:α→List Tr) (Q:α→Prop):∀{rows:List (List Tr)},(∀r∈rows,∃a,Q a∧r=f a)→∃xs:List α,(∀a∈xs,Q a)∧rows.flatten=xs.flatMap f∧rows.length=xs.length
 | [],_=>⟨[],fun _ h=>(by cases h),rfl,rfl⟩
 | r::rows,h=>by
  obtain⟨a,h1,rfl⟩:=h r List.mem_cons_self
  obtain⟨xs,h2,h3,h4⟩:=sC f Q fun r hm=>h r (List.mem_cons_of_mem _ hm)
  exact⟨a::xs,fun b hb=>(List.mem_cons.1 hb).elim (fun e=>e▸h1) (h2 b),by simp[h3],by simp[h4]⟩
theorem Zc (ht:P.underlying t=some (.slice e)) (he:P.underlying e=some (.int .u32)) (hz:P.cellsOf t=1) (hze:P.cellsOf e=1) (hn:e=113):Reads P t 1 (fun l=>∃xs:List Nat,Lim 4294967296 xs∧l=[sU false xs]):=
 (tM ht hz (by omega) (Tp he hze)).mono fun l ⟨rows,h1,h2⟩=>by
  obtain⟨xs,h3,h4,h5⟩:=sC (fun n:Nat=>[Tr.v (.int .u32 (n:Int))]) (fun n=>n<4294967296) (rows:=rows) fun r hr=>by
   obtain⟨⟨n,rfl,h1,h2⟩,_⟩:=h1 r hr
   have e1:IntKind.u32.min=0:=rfl
   have e2:IntKind.u32.max=4294967295:=rfl
   rw[e1]at h1
   rw[e2]at h2
   exact⟨n.toNat,by omega,by rw[Int.toNat_of_nonneg h1]⟩
  refine⟨xs,h3,?_⟩
  rw[h2,h4,h5,sU,hn]
  have:∀xs:List Nat,xs.flatMap (fun n:Nat=>[Tr.v (.int .u32 (n:Int))])=aY xs:=by
   intro xs
   induction xs with
   | nil=>rfl
   | cons n xs ih=>rw[List.flatMap_cons,ih];rfl
  rw[this]
theorem FS (hb:Reads P t z (fun l=>∃a b,l=a++b∧(∃s,a=[.v (.bool s)])∧∃b' c',b=b'++c'∧(∃xs:List Nat,Lim 4294967296 xs∧b'=[sU false xs])∧c'=[])):Reads P t z (fun l=>∃(s:Bool) (xs:List Nat),Lim 4294967296 xs∧l=[.v (.bool s),sU false xs]):=
 hb.mono fun l ⟨a,b,h1,⟨s,h2⟩,b',c',h3,⟨xs,h4,h5⟩,h6⟩=>⟨s,xs,h4,by rw[h1,h2,h3,h5,h6];rfl⟩
end
def LimF (a:Fr4):Prop:=Lim 4294967296 a.x∧Lim 4294967296 a.y
theorem LimF.ok {a:Fr4}(h:LimF a) (h2:a.x.length≤6∧a.y.length≤6):a.ok:=⟨h.1,h.2,by omega,by omega⟩
end Go.Proofs.YtbbabfkgdnkehaaGreat
namespace Go.Proofs.YtbbabfkgdnkehaaGreat
open Go Go.ChangeShapes Go.WideShapes Go.ChangeAt Go.RowKit
theorem LM:Tryz.prog.cellsOf 46=2:=by kernel_rfl
theorem My:Tryz.prog.cellsOf 4=1:=by kernel_rfl
theorem LN:Tryz.prog.cellsOf 113=1:=by kernel_rfl
theorem Zd:Tryz.prog.cellsOf 44=1:=by kernel_rfl
theorem Tq:Reads Tryz.prog 46 2 (fun l=>∃a:Zi,Lim 4294967296 a.x∧l=UV false a):=by
 have h1:=Mx Tryz.underlying4 My
 have h2:=Zc Tryz.underlying44 Tryz.underlying113 Zd LN rfl
 have h3:=vS Tryz.underlying46 LM (.cons rfl h1 (.cons rfl h2 .nil))
 exact(FS h3).mono fun l ⟨s,xs,h4,h5⟩=>⟨⟨s,xs⟩,h4,h5⟩
theorem Ts {W:World}{y:Tr}{u:Value}(hu:u.cells.toList=[u]) (h:FRL W (Ek W) [y] u.cells.toList):bU W (Ek W) [] (.one (.t y)) u:=by
 rw[hu]at h
 simp only[FRL,and_true]at h
 simpa only[bU,AR]using h
theorem LO:Tryz.prog.cellsOf 48=4:=by kernel_rfl
theorem FT:Tryz.prog.cellsOf 60=1:=by kernel_rfl
theorem Tt:Reads Tryz.prog 48 4 (fun l=>∃a:Fr4,LimF a∧l=a.tr false):=
 (vS Tryz.underlying48 LO (.cons rfl Tq (.cons rfl Tq .nil))).mono fun l ⟨a,b,h1,⟨z,h2,h3⟩,b',c',h4,⟨y,h5,h6⟩,h7⟩=>⟨⟨z.s,z.x,y.s,y.x⟩,⟨h2,h5⟩,by rw[h1,h3,h4,h6,h7];rfl⟩
theorem FU:Reads Tryz.prog 60 1 (fun l=>∃xs:List Fr4,(∀x∈xs,LimF x)∧l=[sQ false xs]):=by
 have h:=tM Tryz.underlying60 FT (by omega) Tt
 refine⟨h.1,fun H enc w fuel cs x hx=>?_⟩
 obtain⟨l,⟨rows,h1,rfl⟩,h3,h4⟩:=h.2 H enc w fuel cs x hx
 obtain⟨xs,e1,e2,e3⟩:=sC (Fr4.tr false) (fun a:Fr4=>LimF a) (rows:=rows) fun r hr=>(h1 r hr).1
 refine⟨_,⟨xs,e1,rfl⟩,rfl,?_⟩
 rw[e2,e3]at h4
 cases cs with
 | nil=>simp only[FRL]at h4
 | cons v cs=>
  simp only[sQ,FRL,FR]at h4⊢
  exact h4
theorem FW:Tryz.prog.cellsOf 3=1:=by kernel_rfl
theorem FX:Reads Tryz.prog 3 1 (fun l=>∃n:Int,(-9223372036854775808≤n∧n≤9223372036854775807)∧l=[.v (.int .i64 n)]):=
 (Tp Tryz.underlying3 FW).mono fun l ⟨n,h1,h2,h3⟩=>⟨n,⟨h2,h3⟩,h1⟩
theorem FY (xs:List Bool):xs.flatMap (fun b:Bool=>[Tr.v (.bool b)])=bT xs:=by
 unfold bT
 induction xs with
 | nil=>rfl
 | cons b xs ih=>rw[List.flatMap_cons,ih];rfl
theorem Tu:Tryz.prog.cellsOf 65=1:=by kernel_rfl
theorem Ze:Tryz.prog.cellsOf 67=6:=by kernel_rfl
theorem Tv:Tryz.prog.cellsOf 22=1:=by kernel_rfl
theorem Tw:Reads Tryz.prog 65 1 (fun l=>∃xs:List Bool,True∧l=[gQ xs]):=
 (tM Tryz.underlying65 Tu (by omega) (Mx Tryz.underlying4 My)).mono fun l ⟨rows,h1,h2⟩=>by
  obtain⟨xs,h3,h4,h5⟩:=sC (fun b:Bool=>[.v (.bool b)]) (fun _=>True) (rows:=rows) fun r hr=>(h1 r hr).1.imp fun b hb=>⟨trivial,hb⟩
  refine⟨xs,trivial,?_⟩
  rw[h2,h4,h5,FY]
  rfl
def rJ (y:Yr):Prop:=(∀a∈y.b,LimF a)∧LimF y.l
theorem Zf:Reads Tryz.prog 67 6 (fun l=>∃y:Yr,rJ y∧l=fD y):=
 (vS Tryz.underlying67 Ze (.cons rfl Tw (.cons rfl FU (.cons rfl Tt .nil)))).mono
  fun l ⟨a1,b1,e1,⟨m,_,r1⟩,a2,b2,e2,⟨b,q2,r2⟩,a3,b3,e3,⟨c,q3,r3⟩,e4⟩=>⟨⟨m,b,c⟩,⟨q2,q3⟩,by rw[e1,r1,e2,r2,e3,r3,e4];rfl⟩
theorem Tx:Reads Tryz.prog 22 1 (fun l=>∃xs:List Yr,(∀x∈xs,rJ x)∧l=[iZ xs]):=
 (tM Tryz.underlying22 Tv (by omega) Zf).mono fun l ⟨rows,h1,h2⟩=>by
  obtain⟨xs,h3,h4,h5⟩:=sC fD rJ (rows:=rows) fun r hr=>(h1 r hr).1
  exact⟨xs,h3,by rw[h2,h4,h5];rfl⟩
end Go.Proofs.YtbbabfkgdnkehaaGreat
namespace Go.Proofs.YtbbabfkgdnkehaaGreat
open Go Go.RowKit
section
variable {x:Cx}{g:Nat→FV}{ob:List (Option Ob)}{Q:Post}
theorem WP.sln {c:Code}{i t z n:Nat}{o:Bool}{l:List Tr}(hlk:lk x.n g (.tmp i)=.one (.t (.s o t z n l))) (k:n≤9223372036854775807→WP x c g ob Q):WP x c g ob Q:=fun ts W hR=>by
 obtain⟨cs,hR'⟩:=hR
 have h1:=hR'.lk (.tmp i)
 rw[hlk]at h1
 simp only[bF,bU,AR,FR]at h1
 obtain⟨A,c9,_,h2,h3,_⟩:=h1
 exact k (by omega) ts W ⟨cs,hR'⟩
end
theorem qZ {a:Fr4}(h:LimF a) (h3:a.len 3):a.ok:=by
 unfold Fr4.len at h3
 exact h.ok ⟨by omega,by omega⟩
def fV (fw:Int) (ys:List Yr):List Rl:=if fK fw ys=0 then(aQ fw.toNat ys).rls ((aQ fw.toNat ys).run ys.length) ys.length else []
def gD (fw:Int) (ys:List Yr):List Vn:=if fK fw ys=0 then(aQ fw.toNat ys).vnE ys.length else []
def aK (fw:Int) (ys:List Yr):List Ur:=if fK fw ys=0 then(aQ fw.toNat ys).run ys.length else []
theorem yX {fw:Int}{ys:List Yr}(hf:lE ys=true) (hy:∀y∈ys,rJ y) (h:fK fw ys=0):(aQ fw.toNat ys).Ok ys.length∧(∀t,t<ys.length→fD (aT ys t)=(aQ fw.toNat ys).yrq t)∧((fw.toNat:Nat):Int)=fw∧ys.length≤10∧∀t,t<ys.length→(aT ys t).m.length=(aT ys 0).m.length∧(aT ys t).b.length=(aT ys 0).m.length∧(∀a∈(aT ys t).b,a=Fr4.of a.q)∧(aT ys t).l=Fr4.of (aT ys t).l.q:=by
 obtain⟨h1,h2⟩:=Ik hf
 obtain⟨g1,g2,g3,g4⟩:=Yu (fun y hm=>⟨fun a ha=>qZ ((hy y hm).1 a ha) ((h2 y hm).2.2.2 a ha),qZ (hy y hm).2 (h2 y hm).2.2.1⟩) h
 have h10:ys.length≤10:=by omega
 refine⟨FI h10 (fun y hm=>(h2 y hm).1) (fun y hm=>(g4 y hm).2.1) (by omega) (fun y hm a ha=>⟨(g4 y hm).2.2.1 a ha,(h2 y hm).2.2.2 a ha⟩) (fun y hm=>⟨⟨(g4 y hm).2.2.2.1,(h2 y hm).2.2.1⟩,(g4 y hm).2.2.2.2⟩),fun t ht=>?_,by omega,h10,fun t ht=>?_⟩
 ·have h4:=g4 _ (jA ht)
  exact LB h4.1 h4.2.1 h4.2.2.1 h4.2.2.2.1
 have h4:=g4 _ (jA ht)
 exact⟨h4.1,h4.2.1,h4.2.2.1,h4.2.2.2.1⟩
theorem Ip {fw:Int}{ys:List Yr}(hf:lE ys=true) (hy:∀y∈ys,rJ y):aD false Tryz.prog 12 [] [.one (tv (.int .i64 fw)),.one (.t (iZ ys))] (aP (.tup [.agg [.t (dA true (fV fw ys)),.t (cU true false (gD fw ys)),.t (cI true false (aK fw ys))],.one (tv (.int .i64 (fK fw ys)))])):=by
 obtain⟨h1,h2⟩:=Ik hf
 have hb:∀y∈ys,(∀a∈y.b,a.ok)∧y.l.ok∧y.b.length≤1073741823:=fun y hm=>⟨fun a ha=>qZ ((hy y hm).1 a ha) ((h2 y hm).2.2.2 a ha),qZ (hy y hm).2 (h2 y hm).2.2.1,by have:=(h2 y hm).2.1;omega⟩
 by_cases h:fK fw ys=0
 ·obtain⟨g1,g2,g3,g4,_⟩:=yX hf hy h
  have h9:=FL (R:=aQ fw.toNat ys) hb (by rw[show(((aQ fw.toNat ys).f:Nat):Int)=fw from g3];exact h) rfl g1 g2
  rw[show(((aQ fw.toNat ys).f:Nat):Int)=fw from g3]at h9
  unfold fV gD aK
  rw[if_pos h,if_pos h,if_pos h,h]
  exact h9
 unfold fV gD aK
 rw[if_neg h,if_neg h,if_neg h]
 exact Yn hb (by omega) h
theorem pF {p q:Rat}(hp:Sz 68719476736 p) (hq:Sz 68719476736 q) (h:p=q):aD true Tryz.prog 19 [] [qF (.of p),qF (.of q)] (aP (.one (tv (.int .i64 0)))):=by
 have h1:=tH (Qn.of hp) (Qn.of hq)
 subst h
 rwa[show(p-p).num.sign=0 by rw[Rat.sub_self];rfl]at h1
def oP (m:Bool) (b l:Int):Yr:=⟨[true,m],[Fr4.of (Rat.divInt 7 2),Fr4.of (Rat.divInt b 1)],Fr4.of (Rat.divInt l 1)⟩
theorem rA {a:Fr4}:aD true Tryz.prog 30 [] [qF a] (aP (.one (tv (.bool (eT a))))):=by
 refine cC Tryz.func30 rfl Tryz.ntmps30 rfl aA rfl fun N9 w9 c0 h0=>?_
 refine sq ?_;refine rl ?_;refine bx 0 ?_;refine o1 ?_;refine nl ?_;refine sq ?_;refine rl ?_;refine o1 ?_;refine o1 ?_;refine ld ?_;(iterate 3 refine o1 ?_)
 refine WL.split (t:=8) rfl (fun h1=>?_) (fun h1=>?_)
 ·refine o1 ?_;refine o1 ?_;refine ld ?_;(iterate 4 refine o1 ?_);refine nl ?_;refine rt ?_
  exact iT (.inl rfl) rfl (Bool.eq_iff_iff.2 (by unfold eT;simp only[Bool.and_eq_true,decide_eq_true_eq,Bool.false_eq_true,false_iff];omega))
 (iterate 5 refine cM ?_);refine o1 ?_;refine o1 ?_;refine nl ?_;refine rt ?_
 exact iT (.inl rfl) rfl (Bool.eq_iff_iff.2 (by unfold eT;simp only[Bool.and_eq_true,decide_eq_true_eq,Bool.false_eq_true,false_iff];omega))
theorem FZ {ys:List Yr}:aD true Tryz.prog 8 [] [.one (.t (iZ ys))] (aP (.one (tv (.bool (lE ys))))):=by
 refine cC Tryz.func8 rfl Tryz.ntmps8 rfl aA rfl fun N9 w9 c0 h0=>?_
 refine WP.sln (i:=0) rfl fun hlen=>?_
 refine sq ?_;refine rl ?_;refine o1 ?_;refine nl ?_;refine sq ?_;refine sq ?_;refine rl ?_;(iterate 4 refine o1 ?_);refine WL.split (t:=8) rfl (fun h1=>?_) (fun h1=>?_)
 ·(iterate 5 refine o1 ?_);refine WL.split (t:=13) rfl (fun h2=>?_) (fun h2=>?_)
  ·(iterate 3 refine cM ?_);refine o1 ?_;refine nl ?_;refine gJ rfl ?_;refine sq ?_;refine rl ?_;refine o1 ?_;refine nl ?_;refine rt ?_
   exact iT (.inl rfl) rfl ((yV (by omega)).symm)
  (iterate 4 refine o1 ?_);refine nl ?_;refine bM rfl (fun h3=>?_) (fun h3=>?_)
  ·refine sq ?_;refine rl ?_;refine o1 ?_;refine nl ?_;refine rt ?_;exact iT (.inl rfl) rfl ((yV (by omega)).symm)
  refine sk ?_;refine sq ?_;refine sq ?_;refine rl ?_;refine o1 ?_;refine nl ?_;refine bl ?_
  refine lp (γ:=Nat) (fun s=>cA [(0,.one (.t (iZ ys))),(3,.one (tv (.int .i64 ((s:Nat):Int))))]) (fun s=>([]:List Ob).map some) (fun s=>s≤ys.length∧∀j,j<s→kQ (aT ys j)=true) (fun s=>ys.length-s) 0 ⟨Nat.zero_le _,fun j hj=>absurd hj (Nat.not_lt_zero j)⟩ (aN h0 [] _ _ (by decide) ⟨rfl,rfl,trivial⟩ rfl) ?_
  rintro i9 ⟨hi9,hA⟩;refine sq ?_;refine sq ?_;refine rl ?_;(iterate 4 refine o1 ?_);refine nl ?_;refine bM rfl (fun h4=>?_) (fun h4=>?_)
  ·refine sk ?_;refine sq ?_;refine bl ?_;refine sq ?_;refine sq ?_;refine rl ?_;(iterate 4 refine o1 ?_)
   refine dU ([gQ (aT ys (i9)).m]) (bL (f:=fD) (z:=6) (o:=0) eP (dP (by omega)) (Nat.le_of_ble_eq_true rfl) rfl) ?_
   (iterate 3 refine o1 ?_);refine WL.split (t:=31) rfl (fun h5=>?_) (fun h5=>?_)
   ·(iterate 7 refine cM ?_);refine o1 ?_;refine o1 ?_;(iterate 7 refine cM ?_);refine o1 ?_;refine nl ?_;refine gJ rfl ?_;refine sq ?_;refine rl ?_;refine o1 ?_;refine nl ?_
    refine rt ?_
    exact iT (.inl rfl) rfl ((lO (k:=i9) (by omega) (nE (by first | exact .inl (by omega) | exact .inr (.inl (by omega)) | exact .inr (.inr (by simpa using h5))))).symm)
   (iterate 4 refine o1 ?_);refine dU ([sQ false (aT ys (i9)).b]) (bL (f:=fD) (z:=6) (o:=1) eP (dP (by omega)) (Nat.le_of_ble_eq_true rfl) rfl) ?_
   (iterate 4 refine o1 ?_);refine WL.split (t:=40) rfl (fun h6=>?_) (fun h6=>?_)
   ·(iterate 7 refine cM ?_);refine o1 ?_;refine nl ?_;refine gJ rfl ?_;refine sq ?_;refine rl ?_;refine o1 ?_;refine nl ?_;refine rt ?_
    exact iT (.inl rfl) rfl ((lO (k:=i9) (by omega) (nE (by first | exact .inl (by omega) | exact .inr (.inl (by omega)) | exact .inr (.inr (by simpa using h6))))).symm)
   (iterate 4 refine o1 ?_);refine dU ((aT ys (i9)).l.tr false) (bL (f:=fD) (z:=6) (o:=2) eP (dP (by omega)) (Nat.le_of_ble_eq_true rfl) rfl) ?_
   refine ca (rA (a:=(aT ys (i9)).l)) Px ⟨aG rfl,rfl⟩ (.one (tv (.bool (eT (aT ys (i9)).l)))) ?_;refine WL.splitb (t:=46) rfl (fun h7=>?_) (fun h7=>?_)
   ·refine o1 ?_;refine o1 ?_;refine nl ?_;refine eN rfl ?_;refine sk ?_;refine sq ?_;have hm9:(aT ys (i9)).m.length≤6:=by omega
    have hb9:(aT ys (i9)).b.length≤6:=by omega
    have hl9:eT (aT ys (i9)).l=true:=by simpa using h7
    refine rl ?_;refine o1 ?_;refine nl ?_;refine bl ?_
    refine lp (γ:=Nat) (fun s=>cA [(0,.one (.t (iZ ys))),(3,.one (tv (.int .i64 ((i9:Nat):Int)))),(4,.one (tv (.int .i64 ((s:Nat):Int))))]) (fun s=>([]:List Ob).map some) (fun s=>s≤(aT ys (i9)).b.length∧∀j,j<s→eT (dM (aT ys (i9)).b j)=true) (fun s=>(aT ys (i9)).b.length-s) 0 ⟨Nat.zero_le _,fun j hj=>absurd hj (Nat.not_lt_zero j)⟩ (aN h0 [] _ _ (by decide) ⟨rfl,rfl,rfl,trivial⟩ rfl) ?_
    rintro k9 ⟨hk9,hB⟩;refine sq ?_;refine sq ?_;refine rl ?_;(iterate 5 refine o1 ?_)
    refine dU ([sQ false (aT ys (i9)).b]) (bL (f:=fD) (z:=6) (o:=1) eP (dP (by omega)) (Nat.le_of_ble_eq_true rfl) rfl) ?_
    refine o1 ?_;refine o1 ?_;refine nl ?_;refine bM rfl (fun h8=>?_) (fun h8=>?_)
    ·refine sk ?_;refine sq ?_;refine bl ?_;refine sq ?_;refine rl ?_;(iterate 4 refine o1 ?_)
     refine dU ([sQ false (aT ys (i9)).b]) (bL (f:=fD) (z:=6) (o:=1) eP (dP (by omega)) (Nat.le_of_ble_eq_true rfl) rfl) ?_
     refine o1 ?_;refine o1 ?_;refine dU ((dM (aT ys (i9)).b (k9)).tr false) (lX (aT ys (i9)).b (k:=k9) (by omega)) ?_
     refine ca (rA (a:=(dM (aT ys (i9)).b (k9)))) Px ⟨aG rfl,rfl⟩ (.one (tv (.bool (eT (dM (aT ys (i9)).b (k9)))))) ?_
     refine WL.splitb (t:=67) rfl (fun h9=>?_) (fun h9=>?_)
     ·refine o1 ?_;refine nl ?_;refine eN rfl ?_;refine sk ?_;refine rl ?_;refine o1 ?_;refine o1 ?_
      refine WL.cast (t:=58) (u':=.int .i64 ((k9+1:Nat):Int)) rfl (aC (by omega)) ?_
      refine o1 ?_;refine nl ?_
      exact⟨k9+1,by omega,⟨by omega,Fw (f:=fun j=>eT (dM (aT ys (i9)).b j)) hB (by simpa using h9)⟩,aN h0 [] _ _ (by decide) ⟨rfl,rfl,rfl,trivial⟩ rfl⟩
     refine o1 ?_;refine nl ?_;refine gJ rfl ?_;refine sq ?_;refine rl ?_;refine o1 ?_;refine nl ?_;refine rt ?_
     exact iT (.inl rfl) rfl ((lO (k:=i9) (by omega) (Mp (k:=k9) (by omega) (by simpa using h9))).symm)
    refine ex ?_;refine rl ?_;refine o1 ?_;refine o1 ?_;refine WL.cast (t:=23) (u':=.int .i64 ((i9+1:Nat):Int)) rfl (aC (by omega)) ?_
    refine o1 ?_;refine nl ?_
    exact⟨i9+1,by omega,⟨by omega,Fw (f:=fun j=>kQ (aT ys j)) hA (Ii hm9 hb9 hl9 (k:=k9) (by omega) hB)⟩,aN h0 [] _ _ (by decide) ⟨rfl,rfl,trivial⟩ rfl⟩
   refine o1 ?_;refine o1 ?_;refine nl ?_;refine gJ rfl ?_;refine sq ?_;refine rl ?_;refine o1 ?_;refine nl ?_;refine rt ?_
   exact iT (.inl rfl) rfl ((lO (k:=i9) (by omega) (nE (by first | exact .inl (by omega) | exact .inr (.inl (by omega)) | exact .inr (.inr (by simpa using h7))))).symm)
  refine ex ?_;refine sq ?_;refine rl ?_;refine o1 ?_;refine nl ?_;refine rt ?_;exact iT (.inl rfl) rfl ((Ij (k:=i9) (by omega) hA (by omega)).symm)
 (iterate 3 refine cM ?_);(iterate 6 refine o1 ?_);refine nl ?_;refine bM rfl (fun h10=>?_) (fun h10=>?_)
 ·refine sq ?_;refine rl ?_;refine o1 ?_;refine nl ?_;refine rt ?_;exact iT (.inl rfl) rfl ((yV (by omega)).symm)
 refine sk ?_;refine sq ?_;refine sq ?_;refine rl ?_;refine o1 ?_;refine nl ?_;refine bl ?_
 refine lp (γ:=Nat) (fun s=>cA [(0,.one (.t (iZ ys))),(3,.one (tv (.int .i64 ((s:Nat):Int))))]) (fun s=>([]:List Ob).map some) (fun s=>s≤ys.length∧∀j,j<s→kQ (aT ys j)=true) (fun s=>ys.length-s) 0 ⟨Nat.zero_le _,fun j hj=>absurd hj (Nat.not_lt_zero j)⟩ (aN h0 [] _ _ (by decide) ⟨rfl,rfl,trivial⟩ rfl) ?_
 rintro i9 ⟨hi9,hA⟩;refine sq ?_;refine sq ?_;refine rl ?_;(iterate 4 refine o1 ?_);refine nl ?_;refine bM rfl (fun h11=>?_) (fun h11=>?_)
 ·refine sk ?_;refine sq ?_;refine bl ?_;refine sq ?_;refine sq ?_;refine rl ?_;(iterate 4 refine o1 ?_)
  refine dU ([gQ (aT ys (i9)).m]) (bL (f:=fD) (z:=6) (o:=0) eP (dP (by omega)) (Nat.le_of_ble_eq_true rfl) rfl) ?_
  (iterate 3 refine o1 ?_);refine WL.split (t:=31) rfl (fun h12=>?_) (fun h12=>?_)
  ·(iterate 7 refine cM ?_);refine o1 ?_;refine o1 ?_;(iterate 7 refine cM ?_);refine o1 ?_;refine nl ?_;refine gJ rfl ?_;refine sq ?_;refine rl ?_;refine o1 ?_;refine nl ?_
   refine rt ?_
   exact iT (.inl rfl) rfl ((lO (k:=i9) (by omega) (nE (by first | exact .inl (by omega) | exact .inr (.inl (by omega)) | exact .inr (.inr (by simpa using h12))))).symm)
  (iterate 4 refine o1 ?_);refine dU ([sQ false (aT ys (i9)).b]) (bL (f:=fD) (z:=6) (o:=1) eP (dP (by omega)) (Nat.le_of_ble_eq_true rfl) rfl) ?_
  (iterate 4 refine o1 ?_);refine WL.split (t:=40) rfl (fun h13=>?_) (fun h13=>?_)
  ·(iterate 7 refine cM ?_);refine o1 ?_;refine nl ?_;refine gJ rfl ?_;refine sq ?_;refine rl ?_;refine o1 ?_;refine nl ?_;refine rt ?_
   exact iT (.inl rfl) rfl ((lO (k:=i9) (by omega) (nE (by first | exact .inl (by omega) | exact .inr (.inl (by omega)) | exact .inr (.inr (by simpa using h13))))).symm)
  (iterate 4 refine o1 ?_);refine dU ((aT ys (i9)).l.tr false) (bL (f:=fD) (z:=6) (o:=2) eP (dP (by omega)) (Nat.le_of_ble_eq_true rfl) rfl) ?_
  refine ca (rA (a:=(aT ys (i9)).l)) Px ⟨aG rfl,rfl⟩ (.one (tv (.bool (eT (aT ys (i9)).l)))) ?_;refine WL.splitb (t:=46) rfl (fun h14=>?_) (fun h14=>?_)
  ·refine o1 ?_;refine o1 ?_;refine nl ?_;refine eN rfl ?_;refine sk ?_;refine sq ?_;have hm9:(aT ys (i9)).m.length≤6:=by omega
   have hb9:(aT ys (i9)).b.length≤6:=by omega
   have hl9:eT (aT ys (i9)).l=true:=by simpa using h14
   refine rl ?_;refine o1 ?_;refine nl ?_;refine bl ?_
   refine lp (γ:=Nat) (fun s=>cA [(0,.one (.t (iZ ys))),(3,.one (tv (.int .i64 ((i9:Nat):Int)))),(4,.one (tv (.int .i64 ((s:Nat):Int))))]) (fun s=>([]:List Ob).map some) (fun s=>s≤(aT ys (i9)).b.length∧∀j,j<s→eT (dM (aT ys (i9)).b j)=true) (fun s=>(aT ys (i9)).b.length-s) 0 ⟨Nat.zero_le _,fun j hj=>absurd hj (Nat.not_lt_zero j)⟩ (aN h0 [] _ _ (by decide) ⟨rfl,rfl,rfl,trivial⟩ rfl) ?_
   rintro k9 ⟨hk9,hB⟩;refine sq ?_;refine sq ?_;refine rl ?_;(iterate 5 refine o1 ?_)
   refine dU ([sQ false (aT ys (i9)).b]) (bL (f:=fD) (z:=6) (o:=1) eP (dP (by omega)) (Nat.le_of_ble_eq_true rfl) rfl) ?_
   refine o1 ?_;refine o1 ?_;refine nl ?_;refine bM rfl (fun h15=>?_) (fun h15=>?_)
   ·refine sk ?_;refine sq ?_;refine bl ?_;refine sq ?_;refine rl ?_;(iterate 4 refine o1 ?_)
    refine dU ([sQ false (aT ys (i9)).b]) (bL (f:=fD) (z:=6) (o:=1) eP (dP (by omega)) (Nat.le_of_ble_eq_true rfl) rfl) ?_
    refine o1 ?_;refine o1 ?_;refine dU ((dM (aT ys (i9)).b (k9)).tr false) (lX (aT ys (i9)).b (k:=k9) (by omega)) ?_
    refine ca (rA (a:=(dM (aT ys (i9)).b (k9)))) Px ⟨aG rfl,rfl⟩ (.one (tv (.bool (eT (dM (aT ys (i9)).b (k9)))))) ?_
    refine WL.splitb (t:=67) rfl (fun h16=>?_) (fun h16=>?_)
    ·refine o1 ?_;refine nl ?_;refine eN rfl ?_;refine sk ?_;refine rl ?_;refine o1 ?_;refine o1 ?_
     refine WL.cast (t:=58) (u':=.int .i64 ((k9+1:Nat):Int)) rfl (aC (by omega)) ?_
     refine o1 ?_;refine nl ?_
     exact⟨k9+1,by omega,⟨by omega,Fw (f:=fun j=>eT (dM (aT ys (i9)).b j)) hB (by simpa using h16)⟩,aN h0 [] _ _ (by decide) ⟨rfl,rfl,rfl,trivial⟩ rfl⟩
    refine o1 ?_;refine nl ?_;refine gJ rfl ?_;refine sq ?_;refine rl ?_;refine o1 ?_;refine nl ?_;refine rt ?_
    exact iT (.inl rfl) rfl ((lO (k:=i9) (by omega) (Mp (k:=k9) (by omega) (by simpa using h16))).symm)
   refine ex ?_;refine rl ?_;refine o1 ?_;refine o1 ?_;refine WL.cast (t:=23) (u':=.int .i64 ((i9+1:Nat):Int)) rfl (aC (by omega)) ?_
   refine o1 ?_;refine nl ?_
   exact⟨i9+1,by omega,⟨by omega,Fw (f:=fun j=>kQ (aT ys j)) hA (Ii hm9 hb9 hl9 (k:=k9) (by omega) hB)⟩,aN h0 [] _ _ (by decide) ⟨rfl,rfl,trivial⟩ rfl⟩
  refine o1 ?_;refine o1 ?_;refine nl ?_;refine gJ rfl ?_;refine sq ?_;refine rl ?_;refine o1 ?_;refine nl ?_;refine rt ?_
  exact iT (.inl rfl) rfl ((lO (k:=i9) (by omega) (nE (by first | exact .inl (by omega) | exact .inr (.inl (by omega)) | exact .inr (.inr (by simpa using h14))))).symm)
 refine ex ?_;refine sq ?_;refine rl ?_;refine o1 ?_;refine nl ?_;refine rt ?_;exact iT (.inl rfl) rfl ((Ij (k:=i9) (by omega) hA (by omega)).symm)
theorem oX {n d:Int}(h1:-9223372036854775808≤n) (h2:n≤9223372036854775807) (h3:-9223372036854775808≤d) (h4:d≤9223372036854775807):aD false Tryz.prog 29 [] [.one (tv (.int .i64 n)),.one (tv (.int .i64 d))] (aP (qF (.of (Rat.divInt n d)))):=by
 refine cC Tryz.func29 rfl Tryz.ntmps29 rfl aA rfl fun N9 w9 c0 h0=>?_
 have hs:=tN h1 h2 h3 h4
 have hl:(Fr4.of (Rat.divInt n d)).len 1099511627776:=⟨Nat.le_trans hs.1 (by omega),Nat.le_trans hs.2 (by omega)⟩
 refine sq ?_;refine rl ?_;refine al 0 ?_;refine nl ?_;refine sq ?_;refine rl ?_;refine o1 ?_;refine o1 ?_
 refine ca (PP h1 h2 h3 h4) SS ⟨a1 rfl,a1 rfl,rfl⟩ (.tup [qF (.of (Rat.divInt n d)),.one (tv (.int .i64 (if d=0 then 20 else 0)))]) ?_;(iterate 3 refine o1 ?_);refine al 1 ?_;refine st ?_
 refine o1 ?_;refine nl ?_;refine sq ?_;refine rl ?_;refine ld ?_;refine ca (EN (a:=.of (Rat.divInt n d)) hl) ST ⟨aG rfl,rfl⟩ (qF (.of (Rat.divInt n d))) ?_;refine st ?_;refine nl ?_
 refine rt ?_;exact en (.inl rfl) rfl (aZ (.agg (.cons (.id rfl) (.cons (.id rfl) (.cons (.id rfl) (.cons (.id rfl) .nil)))))) (by decide) (fun h=>by cases h) (rfl)
theorem lF {m:Bool}{b l:Int}(h1:-9223372036854775808≤b) (h2:b≤9223372036854775807) (h3:-9223372036854775808≤l) (h4:l≤9223372036854775807):aD false Tryz.prog 28 [] [.one (tv (.bool m)),.one (tv (.int .i64 b)),.one (tv (.int .i64 l))] (aP (.agg ((fD (oP m b l)).map .t))):=by
 refine cC Tryz.func28 rfl Tryz.ntmps28 rfl aA rfl fun N9 w9 c0 h0=>?_
 refine sq ?_;refine rl ?_;refine al 0 ?_;refine nl ?_;refine sq ?_;refine rl ?_;refine o1 ?_;refine bs 1 ?_
 refine WL.sub (fz (i:=8) (k:=1) (t:=4) (z:=1) (n:=2) (l:=bT [true,m]) rfl rfl rfl rfl) ?_
 refine ca (oX (n:=7) (d:=2) (by omega) (by omega) (by omega) (by omega)) tO ⟨a1 rfl,a1 rfl,rfl⟩ (qF (.of (Rat.divInt 7 2))) ?_
 refine o1 ?_;refine ca (oX (n:=b) (d:=1) (by omega) (by omega) (by omega) (by omega)) tO ⟨a1 rfl,a1 rfl,rfl⟩ (qF (.of (Rat.divInt b 1))) ?_
 refine bs 2 ?_;refine WL.sub (UW (i:=12) (k:=2) (t:=48) (z:=4) (n:=2) (l:=([Fr4.of (Rat.divInt 7 2),Fr4.of (Rat.divInt b 1)]).flatMap (Fr4.tr false)) 52 rfl rfl rfl rfl (.one .sl)) ?_
 refine o1 ?_;refine ca (oX (n:=l) (d:=1) (by omega) (by omega) (by omega) (by omega)) tO ⟨a1 rfl,a1 rfl,rfl⟩ (qF (.of (Rat.divInt l 1))) ?_
 refine o1 ?_;refine st ?_;refine nl ?_;refine rt ?_
 exact en (.inl rfl) rfl (aZ (.agg (.cons (.id rfl) (.cons (.id rfl) (.cons (.id rfl) (.cons (.id rfl) (.cons (.id rfl) (.cons (.id rfl) .nil)))))))) (by decide) (fun h=>by cases h) rfl
def qC:List Yr:=[oP false (-10) 0,oP true 4 100,oP true 8 100]
def yD:List Yr:=[oP false (-10) 0,oP true 4 3,oP false (-2) 9,oP true 8 100]
def qD:List Ur:=[⟨0,1,1,4⟩,⟨0,1,2,6⟩]
def uR:List Ur:=[⟨0,1,1,3⟩,⟨2,1,3,2⟩]
def Mz:List Vn:=[⟨0,1,10,3,7,0⟩,⟨2,1,2,2,0,0⟩]
theorem Na {m:Bool}{b l:Int}:rJ (oP m b l):=⟨fun a ha=>by
 have h:∀q:Rat,LimF (Fr4.of q):=fun q=>⟨aM (by omega) _,aM (by omega) _⟩
 rcases List.mem_cons.1 ha with rfl | ha
 ·exact h _
 rw[List.mem_singleton]at ha
 rw[ha]
 exact h _,⟨aM (by omega) _,aM (by omega) _⟩⟩
theorem GA:∀y∈qC,rJ y:=fun y hy=>by
 simp only[qC,List.mem_cons,List.not_mem_nil,or_false]at hy
 rcases hy with rfl | rfl | rfl <;> exact Na
theorem GB:∀y∈yD,rJ y:=fun y hy=>by
 simp only[yD,List.mem_cons,List.not_mem_nil,or_false]at hy
 rcases hy with rfl | rfl | rfl | rfl <;> exact Na
theorem LP:aD false Tryz.prog 12 [] [.one (tv (.int .i64 2)),.one (.t (iZ qC))] (aP (.tup [.agg [.t (dA true (fV 2 qC)),.t (cU true false (gD 2 qC)),.t (cI true false qD)],.one (tv (.int .i64 0))])):=by
 have h:=Ip (fw:=2) (ys:=qC) (by kernel_rfl) GA
 rw[show fK 2 qC=0 by kernel_rfl,show aK 2 qC=qD by kernel_rfl]at h
 exact h
theorem LQ:aD false Tryz.prog 12 [] [.one (tv (.int .i64 2)),.one (.t (iZ yD))] (aP (.tup [.agg [.t (dA true (fV 2 yD)),.t (cU true false Mz),.t (cI true false uR)],.one (tv (.int .i64 0))])):=by
 have h:=Ip (fw:=2) (ys:=yD) (by kernel_rfl) GB
 rw[show fK 2 yD=0 by kernel_rfl,show aK 2 yD=uR by kernel_rfl,show gD 2 yD=Mz by kernel_rfl]at h
 exact h
theorem Ar:∀u∈qD,Sz 300 u.n:=fun u hu=>by
 simp only[qD,List.mem_cons,List.not_mem_nil,or_false]at hu
 rcases hu with rfl | rfl <;> (unfold Sz;decide+kernel)
theorem Ty:∀u∈uR,Sz 300 u.n:=fun u hu=>by
 simp only[uR,List.mem_cons,List.not_mem_nil,or_false]at hu
 rcases hu with rfl | rfl <;> (unfold Sz;decide+kernel)
theorem vU:aD true Tryz.prog 9 [] [] (aP (.one (tv (.bool true)))):=by
 refine cC Tryz.func9 rfl Tryz.ntmps9 rfl aA rfl fun N9 w9 c0 h0=>?_
 have hu1:qD.length=2:=rfl
 have hu2:uR.length=2:=rfl
 have hv2:Mz.length=2:=rfl
 refine sq ?_;refine rl ?_;refine o1 ?_;refine nl ?_;refine sq ?_;refine rl ?_;refine o1 ?_;refine nl ?_;refine sq ?_;refine rl ?_
 refine ca (lF (m:=false) (b:=(-10)) (l:=0) (by omega) (by omega) (by omega) (by omega)) yY ⟨a1 rfl,a1 rfl,a1 rfl,rfl⟩ (.agg ((fD (oP false (-10) 0)).map .t)) ?_
 refine ca (lF (m:=true) (b:=4) (l:=100) (by omega) (by omega) (by omega) (by omega)) yY ⟨a1 rfl,a1 rfl,a1 rfl,rfl⟩ (.agg ((fD (oP true 4 100)).map .t)) ?_
 refine ca (lF (m:=true) (b:=8) (l:=100) (by omega) (by omega) (by omega) (by omega)) yY ⟨a1 rfl,a1 rfl,a1 rfl,rfl⟩ (.agg ((fD (oP true 8 100)).map .t)) ?_
 refine bs 0 ?_;refine WL.sub (fz (i:=10) (k:=0) (t:=67) (z:=6) (n:=3) (l:=qC.flatMap fD) rfl rfl rfl rfl) ?_
 refine ca (LP) Zh ⟨a1 rfl,a1 rfl,rfl⟩ (.tup [.agg [.t (dA false (fV 2 qC)),.t (cU false false (gD 2 qC)),.t (cI false false qD)],.one (tv (.int .i64 0))]) ?_
 (iterate 3 refine o1 ?_);refine al 1 ?_;refine st ?_;refine o1 ?_;refine nl ?_;refine sq ?_;refine rl ?_
 refine ca (lF (m:=false) (b:=(-10)) (l:=0) (by omega) (by omega) (by omega) (by omega)) yY ⟨a1 rfl,a1 rfl,a1 rfl,rfl⟩ (.agg ((fD (oP false (-10) 0)).map .t)) ?_
 refine ca (lF (m:=true) (b:=4) (l:=3) (by omega) (by omega) (by omega) (by omega)) yY ⟨a1 rfl,a1 rfl,a1 rfl,rfl⟩ (.agg ((fD (oP true 4 3)).map .t)) ?_
 refine ca (lF (m:=false) (b:=(-2)) (l:=9) (by omega) (by omega) (by omega) (by omega)) yY ⟨a1 rfl,a1 rfl,a1 rfl,rfl⟩ (.agg ((fD (oP false (-2) 9)).map .t)) ?_
 refine ca (lF (m:=true) (b:=8) (l:=100) (by omega) (by omega) (by omega) (by omega)) yY ⟨a1 rfl,a1 rfl,a1 rfl,rfl⟩ (.agg ((fD (oP true 8 100)).map .t)) ?_
 refine bs 2 ?_;refine WL.sub (fz (i:=19) (k:=2) (t:=67) (z:=6) (n:=4) (l:=yD.flatMap fD) rfl rfl rfl rfl) ?_
 refine ca (LQ) Zh ⟨a1 rfl,a1 rfl,rfl⟩ (.tup [.agg [.t (dA false (fV 2 yD)),.t (cU false false Mz),.t (cI false false uR)],.one (tv (.int .i64 0))]) ?_;(iterate 3 refine o1 ?_)
 refine al 3 ?_;refine st ?_;refine o1 ?_;refine nl ?_;refine sq ?_;refine sq ?_;refine rl ?_;refine o1 ?_;refine o1 ?_
 refine WL.cast (t:=24) (u':=.bool false) rfl (congrArg Value.bool (by kernel_rfl)) ?_
 (iterate 3 refine o1 ?_);refine WL.cast (t:=27) (u':=.bool false) rfl (congrArg Value.bool (by kernel_rfl)) ?_
 (iterate 3 refine o1 ?_);refine ld ?_;refine o1 ?_;refine o1 ?_;refine WL.cast (t:=33) (u':=.bool false) rfl (congrArg Value.bool (by kernel_rfl)) ?_
 (iterate 3 refine o1 ?_);refine ld ?_;refine o1 ?_;refine o1 ?_;refine WL.cast (t:=39) (u':=.bool false) rfl (congrArg Value.bool (by kernel_rfl)) ?_
 (iterate 3 refine o1 ?_);refine ld ?_;refine o1 ?_;refine o1 ?_;refine WL.cast (t:=45) (u':=.bool false) rfl (congrArg Value.bool (by kernel_rfl)) ?_
 refine o1 ?_;refine nl ?_;refine eN rfl ?_;refine sk ?_;refine sq ?_;refine rd [1,3] (fun i=>[77].contains i) mixed ?_
 refine dv 0 ?_;refine aR 1 ?_;refine dv 2 ?_;refine dv 3 ?_
 refine gI 4 ((Fr4.of (dO qD (0)).n).tr false) (bL (f:=(hJ false)) (z:=7) (o:=3) (fH false) (fI (by omega)) (Nat.le_of_ble_eq_true rfl) rfl) ?_
 refine dv 5 ?_
 refine qW 6 4 [.one (tv (.int .i64 ((4:Nat):Int))),.one (tv (.int .i64 ((1:Nat):Int)))] rfl rfl (oX (n:=4) (d:=1) (by omega) (by omega) (by omega) (by omega)) tO ⟨rfl,rfl,rfl⟩ ?_
 refine bB 7 rfl (pF (p:=(dO qD (0)).n) (q:=(Rat.divInt 4 1)) ((Ar _ (fR (by omega))).mono (M:=68719476736) (by omega)) ((tN (n:=4) (d:=1) (by omega) (by omega) (by omega) (by omega)).mono (M:=68719476736) (by omega)) (by kernel_rfl)) oJ ⟨aG rfl,aG rfl,rfl⟩ (.one (tv (.int .i64 0))) ?_
 refine df 8 ?_;refine WD.cast (t:=55) (u':=.bool true) rfl (congrArg Value.bool (by kernel_rfl)) ?_
 refine df 9 ?_;refine dv 10 ?_;refine aR 11 ?_;refine dv 12 ?_;refine dv 13 ?_
 refine gI 14 ((Fr4.of (dO qD (1)).n).tr false) (bL (f:=(hJ false)) (z:=7) (o:=3) (fH false) (fI (by omega)) (Nat.le_of_ble_eq_true rfl) rfl) ?_
 refine dv 15 ?_
 refine qW 16 4 [.one (tv (.int .i64 ((6:Nat):Int))),.one (tv (.int .i64 ((1:Nat):Int)))] rfl rfl (oX (n:=6) (d:=1) (by omega) (by omega) (by omega) (by omega)) tO ⟨rfl,rfl,rfl⟩ ?_
 refine bB 17 rfl (pF (p:=(dO qD (1)).n) (q:=(Rat.divInt 6 1)) ((Ar _ (fR (by omega))).mono (M:=68719476736) (by omega)) ((tN (n:=6) (d:=1) (by omega) (by omega) (by omega) (by omega)).mono (M:=68719476736) (by omega)) (by kernel_rfl)) oJ ⟨aG rfl,aG rfl,rfl⟩ (.one (tv (.int .i64 0))) ?_
 refine df 18 ?_;refine WD.cast (t:=65) (u':=.bool true) rfl (congrArg Value.bool (by kernel_rfl)) ?_
 refine df 19 ?_;refine df 20 ?_;refine dv 21 ?_;refine aR 22 ?_;refine dv 23 ?_;refine dv 24 ?_
 refine gI 25 ((Fr4.of (dO uR (0)).n).tr false) (bL (f:=(hJ false)) (z:=7) (o:=3) (fH false) (fI (by omega)) (Nat.le_of_ble_eq_true rfl) rfl) ?_
 refine dv 26 ?_
 refine qW 27 4 [.one (tv (.int .i64 ((3:Nat):Int))),.one (tv (.int .i64 ((1:Nat):Int)))] rfl rfl (oX (n:=3) (d:=1) (by omega) (by omega) (by omega) (by omega)) tO ⟨rfl,rfl,rfl⟩ ?_
 refine bB 28 rfl (pF (p:=(dO uR (0)).n) (q:=(Rat.divInt 3 1)) ((Ty _ (fR (by omega))).mono (M:=68719476736) (by omega)) ((tN (n:=3) (d:=1) (by omega) (by omega) (by omega) (by omega)).mono (M:=68719476736) (by omega)) (by kernel_rfl)) oJ ⟨aG rfl,aG rfl,rfl⟩ (.one (tv (.int .i64 0))) ?_
 refine df 29 ?_;refine WD.cast (t:=76) (u':=.bool true) rfl (congrArg Value.bool (by kernel_rfl)) ?_
 refine df 30 ?_;refine df 31 ?_;refine dv 32 ?_;refine aR 33 ?_;refine dv 34 ?_;refine dv 35 ?_
 refine gI 36 ([.v (.int .i64 (dO uR (0)).y)]) (bL (f:=(hJ false)) (z:=7) (o:=2) (fH false) (fI (by omega)) (Nat.le_of_ble_eq_true rfl) rfl) ?_
 refine dv 37 ?_;refine WD.cast (t:=84) (u':=.bool true) rfl (congrArg Value.bool (by kernel_rfl)) ?_
 refine df 38 ?_;refine df 39 ?_;refine dv 40 ?_;refine aR 41 ?_;refine dv 42 ?_;refine dv 43 ?_
 refine gI 44 ((Fr4.of (cO Mz (0)).x).tr false) (bL (f:=(eE false)) (z:=18) (o:=10) (eH false) (nT (by omega)) (Nat.le_of_ble_eq_true rfl) rfl) ?_
 refine dv 45 ?_
 refine qW 46 4 [.one (tv (.int .i64 ((7:Nat):Int))),.one (tv (.int .i64 ((1:Nat):Int)))] rfl rfl (oX (n:=7) (d:=1) (by omega) (by omega) (by omega) (by omega)) tO ⟨rfl,rfl,rfl⟩ ?_
 refine bB 47 rfl (pF (p:=(cO Mz (0)).x) (q:=(Rat.divInt 7 1)) (by unfold Sz;decide+kernel) ((tN (n:=7) (d:=1) (by omega) (by omega) (by omega) (by omega)).mono (M:=68719476736) (by omega)) (by kernel_rfl)) oJ ⟨aG rfl,aG rfl,rfl⟩ (.one (tv (.int .i64 0))) ?_
 refine df 48 ?_;refine WD.cast (t:=95) (u':=.bool true) rfl (congrArg Value.bool (by kernel_rfl)) ?_
 refine df 49 ?_;refine df 50 ?_;refine dv 51 ?_;refine aR 52 ?_;refine dv 53 ?_;refine dv 54 ?_
 refine gI 55 ((Fr4.of (dO uR (1)).n).tr false) (bL (f:=(hJ false)) (z:=7) (o:=3) (fH false) (fI (by omega)) (Nat.le_of_ble_eq_true rfl) rfl) ?_
 refine dv 56 ?_
 refine qW 57 4 [.one (tv (.int .i64 ((2:Nat):Int))),.one (tv (.int .i64 ((1:Nat):Int)))] rfl rfl (oX (n:=2) (d:=1) (by omega) (by omega) (by omega) (by omega)) tO ⟨rfl,rfl,rfl⟩ ?_
 refine bB 58 rfl (pF (p:=(dO uR (1)).n) (q:=(Rat.divInt 2 1)) ((Ty _ (fR (by omega))).mono (M:=68719476736) (by omega)) ((tN (n:=2) (d:=1) (by omega) (by omega) (by omega) (by omega)).mono (M:=68719476736) (by omega)) (by kernel_rfl)) oJ ⟨aG rfl,aG rfl,rfl⟩ (.one (tv (.int .i64 0))) ?_
 refine df 59 ?_;refine WD.cast (t:=106) (u':=.bool true) rfl (congrArg Value.bool (by kernel_rfl)) ?_
 refine df 60 ?_;refine df 61 ?_;refine dv 62 ?_;refine aR 63 ?_;refine dv 64 ?_;refine dv 65 ?_
 refine gI 66 ([.v (.int .i64 (dO uR (1)).y)]) (bL (f:=(hJ false)) (z:=7) (o:=2) (fH false) (fI (by omega)) (Nat.le_of_ble_eq_true rfl) rfl) ?_
 refine dv 67 ?_;refine WD.cast (t:=114) (u':=.bool true) rfl (congrArg Value.bool (by kernel_rfl)) ?_
 refine df 68 ?_;refine df 69 ?_;refine aR 70 ?_;refine dv 72 ?_
 refine bB 71 rfl (SN (us:=qD) (ent:=1) (rw9:=fV 2 qC) (vs:=gD 2 qC) (fun k=>Mt (B:=300) Ar (by show 2+2*301≤_;omega)) (fun u hu=>(Ar u hu).mono (by omega)) (by show 2≤_;omega)) SU ⟨aG (l:=[dA false (fV 2 qC),cU false false (gD 2 qC),cI false false qD]) rfl,a1 rfl,rfl⟩ (qF (.of (mR qD 1))) ?_
 refine qW 73 4 [.one (tv (.int .i64 ((10:Nat):Int))),.one (tv (.int .i64 ((1:Nat):Int)))] rfl rfl (oX (n:=10) (d:=1) (by omega) (by omega) (by omega) (by omega)) tO ⟨rfl,rfl,rfl⟩ ?_
 refine bB 74 rfl (pF (p:=(mR qD 1)) (q:=(Rat.divInt 10 1)) (show Sz 68719476736 (mR qD 1) from by unfold Sz;decide+kernel) ((tN (n:=10) (d:=1) (by omega) (by omega) (by omega) (by omega)).mono (M:=68719476736) (by omega)) (by kernel_rfl)) oJ ⟨aG rfl,aG rfl,rfl⟩ (.one (tv (.int .i64 0))) ?_
 refine df 75 ?_;refine WD.cast (t:=122) (u':=.bool true) rfl (congrArg Value.bool (by kernel_rfl)) ?_
 refine df 76 ?_;refine eR 77 (by kernel_rfl) rfl rfl aA rfl (by trivial) ?_ (fun h=>by first | rfl | cases h)
 refine aS ?_;refine rt ?_;exact iT (.inl rfl) rfl (rfl)
structure Cons (R:Rg) (U:List Ur) (rl:List Rl) (vn:List Vn) (ys:List Yr):Prop where
 ok:R.Ok ys.length
 un:U=R.run ys.length
 m:∀i,i<ys.length→(aT ys i).m=R.ms i
 b:∀i,i<ys.length→(aT ys i).b=(R.bs i).map Fr4.of
 l:∀i,i<ys.length→(aT ys i).l=Fr4.of (R.lim i)
 rl:rl=R.rls U ys.length
 vn:vn=R.vnE ys.length
theorem GC {fw:Int}{ys:List Yr}(hf:lE ys=true) (hy:∀y∈ys,rJ y) (h:fK fw ys=0):Cons (aQ fw.toNat ys) (aK fw ys) (fV fw ys) (gD fw ys) ys:=by
 obtain⟨h1,_,_,_,h5⟩:=yX hf hy h
 have e1:aK fw ys=(aQ fw.toNat ys).run ys.length:=if_pos h
 refine⟨h1,e1,fun i hi=>(If (h5 i hi).1).symm,fun i hi=>(Tj (h5 i hi).2.1 (h5 i hi).2.2.1).symm,fun i hi=>(h5 i hi).2.2.2,?_,if_pos h⟩
 rw[e1]
 exact if_pos h
section
variable {R:Rg}{U:List Ur}{rw9:List Rl}{vn:List Vn}{ys:List Yr}{i:Nat}
theorem Cons.iv (h:Cons R U rw9 vn ys):R.Iv ys.length U:=by
 rw[h.un]
 exact h.ok.run (Nat.le_refl _)
theorem Cons.vat (h:Cons R U rw9 vn ys) (hi:i<vn.length):∃y e,(y,e)∈R.vl ys.length∧cO vn i=R.vn U (R.ex U ys.length) (R.cl U ys.length) (y,e):=by
 have h1:=h.vn
 subst h1
 obtain⟨y,e,h2,h3⟩:=LF hi
 exact⟨y,e,h2,by rw[h3,h.un]⟩
theorem Cons.usz (h:Cons R U rw9 vn ys):∀u∈U,Sz 300 u.n:=by
 rw[h.un]
 exact Ms h.ok (Nat.le_refl _)
theorem Cons.ul (h:Cons R U rw9 vn ys):U.length≤1000:=by
 rw[h.un]
 exact Ie h.ok (Nat.le_refl _)
theorem Cons.vl (h:Cons R U rw9 vn ys):vn.length≤60:=by
 rw[h.vn,Mr]
 have:=qA (R:=R) h.ok.e ys.length
 have:=h.ok.n
 omega
theorem Cons.rn (h:Cons R U rw9 vn ys):rw9.length=ys.length:=by rw[h.rl,Cd]
theorem Cons.rat (h:Cons R U rw9 vn ys) (hi:i<ys.length):qU rw9 i=R.rl U i:=by rw[h.rl,LJ hi]
theorem SV (R:Rg){t e:Nat}(he:e<R.E):dM ((R.bs t).map Fr4.of) e=Fr4.of (R.base t e):=by rw[pT (by rw[oC];exact he),pY he]
theorem SW (R:Rg){U:List Ur}{t e:Nat}(he:e<R.E):dM ((R.by9 U t).map Fr4.of) e=Fr4.of (dS U t e):=by rw[pT (by rw[xE];exact he),mZ he]
end
theorem Nb {q:Rat}(h:Sz 68719476736 q):aD false Tryz.prog 22 [] [qF (.of ((0:Int):Rat)),.one (.t (sQ false [Fr4.of q]))] (aP (qF (.of (dH 0 [q])))):=by
 have h1:=QA (a:=.of ((0:Int):Rat)) (p:=((0:Int):Rat)) (xs:=[Fr4.of q]) (Qn.of (Im (M:=68719476736) (by omega))) (fun x hx=>by rw[List.mem_singleton]at hx;subst hx;exact(Qn.of h).1) (by show 1≤_;omega)
 rw[show [Fr4.of q].map Fr4.q=[q] by rw[List.map_cons,Fr4.q_of];rfl]at h1
 exact h1
theorem El {L:Nat}{q:Rat}(h:Sz L q) (hL:2≤L):Sz L (dH 0 [q]):=by
 show Sz L (if(0:Rat)<q then q else 0)
 split
 ·exact h
 exact Im hL
theorem Fx {us:List Ur}{k:Nat}{l:Rat}{y e t:Int}(h:k<us.length):fY (us.take (k+1)) l y e t=if(dO us k).v=y∧(dO us k).e=e∧(dO us k).y≤t then fY (us.take k) l y e t-(dO us k).n else fY (us.take k) l y e t:=by
 unfold fY
 rw[Mo h,qB]
 by_cases h9:(dO us k).v=y∧(dO us k).e=e∧(dO us k).y≤t
 ·rw[if_pos h9,if_pos (by simp only[Bool.and_eq_true,decide_eq_true_eq];exact h9)]
  grind
 rw[if_neg h9,if_neg (by simp only[Bool.and_eq_true,decide_eq_true_eq];exact h9)]
theorem Tz {us:List Ur}{k:Nat}{l:Rat}{y e t:Int}(hl:Sz 300 l) (hu:∀u∈us,Sz 300 u.n) (hn:us.length≤1000):Sz 1000000 (fY (us.take k) l y e t):=by
 unfold fY
 exact(pW hl (Mt (B:=300) (M:=400000) hu (by omega))).mono (by omega)
theorem As {p q:Rat}:(p-q).num.sign=0↔p=q:=by
 rw[Int.sign_eq_zero_iff_zero,Rat.num_eq_zero]
 constructor <;> intro h <;> grind
theorem Ua {R:Rg}{U us:List Ur}{rw9:List Rl}{vs:List Vn}{ys:List Yr}{y e:Nat}{t9:Int}(hlz:Sz 300 (R.los y e)) (hu:∀u∈us,Sz 300 u.n) (hl:us.length≤1000):aD false Tryz.prog 21 [] [.agg [.t (dA false rw9),.t (cU false false vs),.t (cI false false us)],.agg [tv (.int .i64 ((y:Nat):Int)),tv (.int .i64 ((e:Nat):Int)),tv (.bool (aE (R.los y e).num)),.t (sU false (dg 4294967296 (R.los y e).num.natAbs)),tv (.bool false),.t (sU false (dg 4294967296 (R.los y e).den)),tv (.bool (aE (fS U y e).num)),.t (sU false (dg 4294967296 (fS U y e).num.natAbs)),tv (.bool false),.t (sU false (dg 4294967296 (fS U y e).den)),tv (.bool (aE (R.ex U ys.length y e).num)),.t (sU false (dg 4294967296 (R.ex U ys.length y e).num.natAbs)),tv (.bool false),.t (sU false (dg 4294967296 (R.ex U ys.length y e).den)),tv (.bool (aE (R.cl U ys.length y e).num)),.t (sU false (dg 4294967296 (R.cl U ys.length y e).num.natAbs)),tv (.bool false),.t (sU false (dg 4294967296 (R.cl U ys.length y e).den))],.one (tv (.int .i64 t9))] (aP (qF (.of (fY us (R.los y e) y e t9)))):=by
 refine cC Tryz.func21 rfl Tryz.ntmps21 rfl aA rfl fun N9 w9 c0 h0=>?_
 refine sq ?_;refine rl ?_;refine bx 0 ?_;refine bx 1 ?_;refine al 2 ?_;refine nl ?_;refine sq ?_;refine rl ?_;refine o1 ?_;refine ld ?_;refine al 3 ?_;refine st ?_;refine nl ?_
 refine sq ?_;refine sq ?_;refine rl ?_;refine o1 ?_;refine nl ?_;refine bl ?_
 have h00:(R.los y e)=(fY (us.take 0) (R.los y e) y e t9):=by unfold fY;rw[List.take_zero];show _=_-(0:Rat);grind
 refine lp (γ:=Nat) (fun s=>cA [(2,.one (tv (.int .i64 t9))),(3,.one (.pt 0 0)),(4,.one (.pt 1 0)),(6,.one (.pt 2 0)),(7,.one (.pt 3 0)),(8,.one (tv (.int .i64 ((s:Nat):Int))))]) (fun s=>[(⟨39,0,[.t ((dA false rw9)),.t ((cU false false vs)),.t (cI false false us)]⟩:Ob),⟨64,0,[tv (.int .i64 ((y:Nat):Int)),tv (.int .i64 ((e:Nat):Int)),tv (.bool (aE (R.los y e).num)),.t (sU false (dg 4294967296 (R.los y e).num.natAbs)),tv (.bool false),.t (sU false (dg 4294967296 (R.los y e).den)),tv (.bool (aE (fS U y e).num)),.t (sU false (dg 4294967296 (fS U y e).num.natAbs)),tv (.bool false),.t (sU false (dg 4294967296 (fS U y e).den)),tv (.bool (aE (R.ex U ys.length y e).num)),.t (sU false (dg 4294967296 (R.ex U ys.length y e).num.natAbs)),tv (.bool false),.t (sU false (dg 4294967296 (R.ex U ys.length y e).den)),tv (.bool (aE (R.cl U ys.length y e).num)),.t (sU false (dg 4294967296 (R.cl U ys.length y e).num.natAbs)),tv (.bool false),.t (sU false (dg 4294967296 (R.cl U ys.length y e).den))]⟩,⟨48,0,[tv (.bool false),tv (.slice none 0 0),tv (.bool false),tv (.slice none 0 0)]⟩,⟨48,0,((Fr4.of (fY (us.take s) (R.los y e) y e t9)).tr false).map .t⟩].map some) (fun s=>s≤us.length) (fun s=>us.length-s) 0 (Nat.zero_le _) (aN h0 [0,1,2,3] _ _ (by decide) ⟨rfl,rfl,rfl,rfl,rfl,rfl,trivial⟩ ⟨oe rfl rfl,oe rfl rfl,oe rfl rfl,aI (congrArg (fun q:Rat=>some (⟨48,0,((Fr4.of q).tr false).map .t⟩:Ob)) h00),rfl⟩) ?_
 rintro k9 hk9;refine sq ?_;refine sq ?_;refine rl ?_;refine o1 ?_;refine o1 ?_;refine ld ?_;refine o1 ?_;refine o1 ?_;refine nl ?_;refine bM rfl (fun h1=>?_) (fun h1=>?_)
 ·refine sk ?_;refine sq ?_;refine bl ?_;refine sq ?_;refine rl ?_;refine o1 ?_;refine ld ?_;refine o1 ?_;refine o1 ?_
  refine dU ((hJ false) (dO us (k9))) (bL (f:=(hJ false)) (z:=7) (o:=0) (fH false) (fI (by omega)) (Nat.le_of_ble_eq_true rfl) rfl) ?_
  refine al 4 ?_;refine st ?_;refine nl ?_;refine sq ?_;refine rl ?_;refine o1 ?_;refine ld ?_;refine o1 ?_;refine ld ?_;refine o1 ?_;refine o1 ?_
  refine WL.split (t:=29) rfl (fun h2=>?_) (fun h2=>?_)
  ·refine o1 ?_;refine ld ?_;refine o1 ?_;refine ld ?_;(iterate 3 refine o1 ?_);refine WL.split (t:=36) rfl (fun h3=>?_) (fun h3=>?_)
   ·refine o1 ?_;refine ld ?_;(iterate 3 refine o1 ?_);refine nl ?_;refine bM rfl (fun h4=>?_) (fun h4=>?_)
    ·refine rl ?_;refine ld ?_;refine o1 ?_;refine ld ?_
     refine ca (Ae (Qn.of (p:=(fY (us.take k9) (R.los y e) y e t9)) ((Tz hlz hu hl).mono (M:=68719476736) (by omega))) (Qn.of (p:=(dO us (k9)).n) ((hu _ (fR (by omega))).mono (M:=68719476736) (by omega)))) Hk ⟨aG rfl,aG rfl,rfl⟩ (qF (.of ((fY (us.take k9) (R.los y e) y e t9)-(dO us (k9)).n))) ?_
     refine st ?_;refine nl ?_;refine rl ?_;refine o1 ?_;refine o1 ?_;refine WL.cast (t:=18) (u':=.int .i64 ((k9+1:Nat):Int)) rfl (aC (by omega)) ?_
     refine o1 ?_;refine nl ?_
     have hst:((fY (us.take k9) (R.los y e) y e t9)-(dO us (k9)).n)=(fY (us.take (k9+1)) (R.los y e) y e t9):=by rw[Fx (by omega)];exact(if_pos ⟨h2,h3,h4⟩).symm
     exact⟨k9+1,by omega,by omega,aN h0 [0,1,2,3] _ _ (by decide) ⟨rfl,rfl,rfl,rfl,rfl,rfl,trivial⟩ ⟨oe rfl rfl,oe rfl rfl,oe rfl rfl,aI (congrArg (fun q:Rat=>some (⟨48,0,((Fr4.of q).tr false).map .t⟩:Ob)) hst),rfl⟩⟩
    refine sk ?_;refine rl ?_;refine o1 ?_;refine o1 ?_;refine WL.cast (t:=18) (u':=.int .i64 ((k9+1:Nat):Int)) rfl (aC (by omega)) ?_
    refine o1 ?_;refine nl ?_
    have hst:(fY (us.take k9) (R.los y e) y e t9)=(fY (us.take (k9+1)) (R.los y e) y e t9):=by rw[Fx (by omega)];exact(if_neg (fun h=>h4 h.2.2)).symm
    exact⟨k9+1,by omega,by omega,aN h0 [0,1,2,3] _ _ (by decide) ⟨rfl,rfl,rfl,rfl,rfl,rfl,trivial⟩ ⟨oe rfl rfl,oe rfl rfl,oe rfl rfl,aI (congrArg (fun q:Rat=>some (⟨48,0,((Fr4.of q).tr false).map .t⟩:Ob)) hst),rfl⟩⟩
   (iterate 4 refine cM ?_);refine o1 ?_;refine nl ?_;refine eN rfl ?_;refine sk ?_;refine rl ?_;refine o1 ?_;refine o1 ?_
   refine WL.cast (t:=18) (u':=.int .i64 ((k9+1:Nat):Int)) rfl (aC (by omega)) ?_
   refine o1 ?_;refine nl ?_;have hst:(fY (us.take k9) (R.los y e) y e t9)=(fY (us.take (k9+1)) (R.los y e) y e t9):=by rw[Fx (by omega)];exact(if_neg (fun h=>h3 h.2.1)).symm
   exact⟨k9+1,by omega,by omega,aN h0 [0,1,2,3] _ _ (by decide) ⟨rfl,rfl,rfl,rfl,rfl,rfl,trivial⟩ ⟨oe rfl rfl,oe rfl rfl,oe rfl rfl,aI (congrArg (fun q:Rat=>some (⟨48,0,((Fr4.of q).tr false).map .t⟩:Ob)) hst),rfl⟩⟩
  (iterate 5 refine cM ?_);refine o1 ?_;refine o1 ?_;(iterate 4 refine cM ?_);refine o1 ?_;refine nl ?_;refine eN rfl ?_;refine sk ?_;refine rl ?_;refine o1 ?_;refine o1 ?_
  refine WL.cast (t:=18) (u':=.int .i64 ((k9+1:Nat):Int)) rfl (aC (by omega)) ?_
  refine o1 ?_;refine nl ?_;have hst:(fY (us.take k9) (R.los y e) y e t9)=(fY (us.take (k9+1)) (R.los y e) y e t9):=by rw[Fx (by omega)];exact(if_neg (fun h=>h2 h.1)).symm
  exact⟨k9+1,by omega,by omega,aN h0 [0,1,2,3] _ _ (by decide) ⟨rfl,rfl,rfl,rfl,rfl,rfl,trivial⟩ ⟨oe rfl rfl,oe rfl rfl,oe rfl rfl,aI (congrArg (fun q:Rat=>some (⟨48,0,((Fr4.of q).tr false).map .t⟩:Ob)) hst),rfl⟩⟩
 refine ex ?_;refine sq ?_;refine rl ?_;refine ld ?_;refine st ?_;refine nl ?_;refine rt ?_
 exact en (.inl rfl) rfl (aZ (.agg (.cons (.id rfl) (.cons (.id rfl) (.cons (.id rfl) (.cons (.id rfl) .nil)))))) (by decide) (fun h=>by cases h) (by rw[List.take_of_length_le (by omega)];rfl)
set_option maxHeartbeats 4000000 in
theorem Py {fw:Int}{ys:List Yr}(hy:∀y∈ys,rJ y):aD true Tryz.prog 5 [] [.one (tv (.int .i64 fw)),.one (.t (iZ ys))] (aP (.one (tv (.bool true)))):=by
 refine cC Tryz.func5 rfl Tryz.ntmps5 rfl aA rfl fun N9 w9 c0 h0=>?_
 refine WP.sln (i:=1) rfl fun hlen=>?_
 refine sq ?_;refine rl ?_;refine o1 ?_;refine nl ?_;refine sq ?_;refine sq ?_;refine rl ?_;refine o1 ?_;refine ca (FZ (ys:=ys)) VB ⟨a1 rfl,rfl⟩ (.one (tv (.bool (lE ys)))) ?_
 refine WL.splitb (t:=14) rfl (fun h1=>?_) (fun h1=>?_)
 ·refine o1 ?_;refine nl ?_;refine eN rfl ?_;refine sk ?_;refine sq ?_;have hf:lE ys=true:=by simpa using h1
  refine rl ?_;refine o1 ?_;refine o1 ?_
  refine ca (Ip (fw:=fw) (ys:=ys) hf hy) Zh ⟨a1 rfl,a1 rfl,rfl⟩ (.tup [.agg [.t (dA false (fV fw ys)),.t (cU false false (gD fw ys)),.t (cI false false (aK fw ys))],.one (tv (.int .i64 (fK fw ys)))]) ?_
  (iterate 3 refine o1 ?_);refine al 0 ?_;refine st ?_;refine o1 ?_;refine nl ?_;refine sq ?_;refine sq ?_;refine rl ?_;refine o1 ?_;refine o1 ?_;refine nl ?_
  refine bM rfl (fun h2=>?_) (fun h2=>?_)
  ·refine sq ?_;refine rl ?_;refine ca (vU) LR rfl (.one (tv (.bool true))) ?_;refine o1 ?_;refine nl ?_;refine rt ?_;exact iT (.inl rfl) rfl (rfl)
  refine sk ?_;refine sq ?_;refine sq ?_;have hE:fK fw ys=0:=by omega
  have hC:=GC hf hy hE
  have hIv:=hC.iv
  have hrn:=hC.rn;have hul:=hC.ul;have hvl:=hC.vl;have hn10:=hC.ok.n;have hE6:=hC.ok.e
  have hfw:((fw.toNat:Nat):Int)=fw:=(yX hf hy hE).2.2.1
  have hms9:∀i,((aQ fw.toNat ys).ms i).length=(aQ fw.toNat ys).E:=fun _=>vQ
  refine rl ?_;refine o1 ?_;refine ld ?_;(iterate 4 refine o1 ?_);refine WL.cast (t:=31) (u':=.bool false) rfl (congrArg Value.bool (decide_eq_false (fun h=>h (by rw[hrn])))) ?_
  refine nl ?_;refine eN rfl ?_;refine sk ?_;refine sq ?_;refine sq ?_;refine rl ?_;refine o1 ?_;refine nl ?_;refine bl ?_
  refine lp (γ:=Nat) (fun s=>cA [(0,.one (tv (.int .i64 fw))),(1,.one (.t (iZ ys))),(5,.one (.pt 0 0)),(7,.one (tv (.int .i64 ((s:Nat):Int))))]) (fun s=>[(⟨39,0,[.t (dA false (fV fw ys)),.t (cU false false (gD fw ys)),.t (cI false false (aK fw ys))]⟩:Ob)].map some) (fun s=>s≤(gD fw ys).length) (fun s=>(gD fw ys).length-s) 0 (Nat.zero_le _) (aN h0 [0] _ _ (by decide) ⟨rfl,rfl,rfl,rfl,trivial⟩ ⟨oe rfl rfl,rfl⟩) ?_
  rintro i9 hi9;refine sq ?_;refine sq ?_;refine rl ?_;refine o1 ?_;refine o1 ?_;refine ld ?_;refine o1 ?_;refine o1 ?_;refine nl ?_;refine bM rfl (fun h3=>?_) (fun h3=>?_)
  ·refine sk ?_;refine sq ?_;refine bl ?_;refine sq ?_;obtain⟨y,e,hv,hV⟩:=hC.vat (i:=i9) (by omega)
   obtain⟨hyn,heE,_⟩:=LG hv
   have hlz:Sz 300 ((aQ fw.toNat ys).los y e):=hC.ok.sz_los hyn heE
   refine rl ?_;refine o1 ?_;refine ld ?_;refine o1 ?_;refine o1 ?_
   refine dU ((.v (.int .i64 ((y:Nat):Int))::.v (.int .i64 ((e:Nat):Int))::((Fr4.of ((aQ fw.toNat ys).los y e)).tr false++((Fr4.of (fS (aK fw ys) y e)).tr false++((Fr4.of ((aQ fw.toNat ys).ex (aK fw ys) ys.length y e)).tr false++(Fr4.of ((aQ fw.toNat ys).cl (aK fw ys) ys.length y e)).tr false))))) ((by rw[show((.v (.int .i64 ((y:Nat):Int))::.v (.int .i64 ((e:Nat):Int))::((Fr4.of ((aQ fw.toNat ys).los y e)).tr false++((Fr4.of (fS (aK fw ys) y e)).tr false++((Fr4.of ((aQ fw.toNat ys).ex (aK fw ys) ys.length y e)).tr false++(Fr4.of ((aQ fw.toNat ys).cl (aK fw ys) ys.length y e)).tr false)))):List Tr)=eE false (cO (gD fw ys) (i9)) from by rw[hV];rfl];exact(bL (f:=(eE false)) (z:=18) (o:=0) (eH false) (nT (by omega)) (Nat.le_of_ble_eq_true rfl) rfl))) ?_
   refine al 1 ?_;refine st ?_;refine nl ?_;refine sq ?_;refine rl ?_;refine o1 ?_;refine ld ?_;refine o1 ?_
   refine WL.cast (t:=46) (u':=.int .i64 ((y+1:Nat):Int)) rfl (aC (by omega)) ?_
   refine o1 ?_;refine nl ?_;refine bl ?_
   refine lp (γ:=Nat) (fun s=>cA [(0,.one (tv (.int .i64 fw))),(1,.one (.t (iZ ys))),(5,.one (.pt 0 0)),(7,.one (tv (.int .i64 ((i9:Nat):Int)))),(8,.one (.pt 1 0)),(9,.one (tv (.int .i64 ((s:Nat):Int))))]) (fun s=>[(⟨39,0,[.t (dA false (fV fw ys)),.t (cU false false (gD fw ys)),.t (cI false false (aK fw ys))]⟩:Ob),⟨64,0,[tv (.int .i64 ((y:Nat):Int)),tv (.int .i64 ((e:Nat):Int)),tv (.bool (aE ((aQ fw.toNat ys).los y e).num)),.t (sU false (dg 4294967296 ((aQ fw.toNat ys).los y e).num.natAbs)),tv (.bool false),.t (sU false (dg 4294967296 ((aQ fw.toNat ys).los y e).den)),tv (.bool (aE (fS (aK fw ys) y e).num)),.t (sU false (dg 4294967296 (fS (aK fw ys) y e).num.natAbs)),tv (.bool false),.t (sU false (dg 4294967296 (fS (aK fw ys) y e).den)),tv (.bool (aE ((aQ fw.toNat ys).ex (aK fw ys) ys.length y e).num)),.t (sU false (dg 4294967296 ((aQ fw.toNat ys).ex (aK fw ys) ys.length y e).num.natAbs)),tv (.bool false),.t (sU false (dg 4294967296 ((aQ fw.toNat ys).ex (aK fw ys) ys.length y e).den)),tv (.bool (aE ((aQ fw.toNat ys).cl (aK fw ys) ys.length y e).num)),.t (sU false (dg 4294967296 ((aQ fw.toNat ys).cl (aK fw ys) ys.length y e).num.natAbs)),tv (.bool false),.t (sU false (dg 4294967296 ((aQ fw.toNat ys).cl (aK fw ys) ys.length y e).den))]⟩].map some) (fun s=>y<s∧s≤ys.length) (fun s=>ys.length-s) (y+1) (⟨by omega,by omega⟩) (aN h0 [0,1] _ _ (by decide) ⟨rfl,rfl,rfl,rfl,rfl,rfl,trivial⟩ ⟨oe rfl rfl,oe rfl rfl,rfl⟩) ?_
   rintro t9 ht9;refine sq ?_;refine sq ?_;refine rl ?_;(iterate 5 refine o1 ?_);refine WL.split (t:=51) rfl (fun h4=>?_) (fun h4=>?_)
   ·refine o1 ?_;refine o1 ?_;refine ld ?_;refine o1 ?_;refine WL.cast (t:=55) (u':=.int .i64 ((t9-y:Nat):Int)) rfl (aC (by omega)) ?_
    (iterate 3 refine o1 ?_);refine nl ?_;refine bM rfl (fun h5=>?_) (fun h5=>?_)
    ·refine sk ?_;refine sq ?_;refine bl ?_;refine sq ?_;refine sq ?_;have hmsl:=hms9 t9
     have hwz:Sz 68719476736 (fY (aK fw ys) ((aQ fw.toNat ys).los y e) y e ((t9:Nat):Int)):=by
      have h9:=Tz (k:=(aK fw ys).length) (y:=y) (e:=e) (t:=((t9:Nat):Int)) hlz hC.usz hC.ul
      rw[List.take_of_length_le (Nat.le_refl _)]at h9;exact h9.mono (by omega)
     refine rd [0,1] (fun i=>[].contains i) mixed ?_
     refine dv 0 ?_;refine aR 1 ?_;refine dv 2 ?_;refine dv 3 ?_;refine dv 4 ?_;refine dv 5 ?_
     refine gI 6 ([gQ ((aQ fw.toNat ys).ms (t9))]) ((by rw[←hC.m (t9) (by omega)];exact(bL (f:=fD) (z:=6) (o:=0) eP (dP (by omega)) (Nat.le_of_ble_eq_true rfl) rfl))) ?_
     refine dv 7 ?_;refine WD.cast (t:=68) (u':=.int .i64 (((aQ fw.toNat ys).E:Nat):Int)) rfl (aC (by rw[vQ])) ?_
     refine dv 8 ?_;refine dv 9 ?_;refine WD.split (t:=70) rfl rfl (fun h6=>?_) (fun h6=>?_)
     ·exact absurd h6 (by omega)
     refine dv 10 ?_;refine dv 11 ?_;refine dv 12 ?_;refine dv 13 ?_
     refine gI 14 ([gQ ((aQ fw.toNat ys).ms (t9))]) ((by rw[←hC.m (t9) (by omega)];exact(bL (f:=fD) (z:=6) (o:=0) eP (dP (by omega)) (Nat.le_of_ble_eq_true rfl) rfl))) ?_
     refine dv 15 ?_;refine aR 16 ?_;refine dv 17 ?_
     refine gI 18 ([.v (.bool ((aQ fw.toNat ys).mem (t9) (e)))]) ((by rw[←vP (R:=(aQ fw.toNat ys)) (t:=(t9)) (e:=e) (by omega)];exact Pr ((aQ fw.toNat ys).ms (t9)) (k:=e) (by rw[vQ];omega))) ?_
     refine WD.splitb (t:=79) rfl (fun h7=>?_) (fun h7=>?_)
     ·refine dv 19 ?_;refine dv 20 ?_;refine dv 21 ?_;refine aR 22 ?_;refine aR 23 ?_;refine dv 24 ?_
      refine bB 25 rfl (Ua (R:=(aQ fw.toNat ys)) (U:=(aK fw ys)) (us:=(aK fw ys)) (rw9:=(fV fw ys)) (vs:=(gD fw ys)) (ys:=ys) (y:=y) (e:=e) (t9:=((t9:Nat):Int)) hlz hC.usz hC.ul) SX ⟨aG (l:=[dA false (fV fw ys),cU false false (gD fw ys),cI false false (aK fw ys)]) rfl,aG (l:=(eE false ((aQ fw.toNat ys).vn (aK fw ys) ((aQ fw.toNat ys).ex (aK fw ys) ys.length) ((aQ fw.toNat ys).cl (aK fw ys) ys.length) (y,e)))) rfl,a1 rfl,rfl⟩ (qF (.of (fY (aK fw ys) ((aQ fw.toNat ys).los y e) y e ((t9:Nat):Int)))) ?_
      refine bB 26 rfl (lW (Qn.of (p:=(fY (aK fw ys) ((aQ fw.toNat ys).los y e) y e ((t9:Nat):Int))) hwz)) tG ⟨aG rfl,rfl⟩ (.one (tv (.int .i64 (fY (aK fw ys) ((aQ fw.toNat ys).los y e) y e ((t9:Nat):Int)).num.sign))) ?_
      refine df 27 ?_;refine df 28 ?_;refine aS ?_;refine bM rfl (fun h8=>?_) (fun h8=>?_)
      ·refine ex ?_;refine rl ?_;refine o1 ?_;refine o1 ?_;refine WL.cast (t:=60) (u':=.int .i64 ((t9+1:Nat):Int)) rfl (aC (by omega)) ?_
       refine o1 ?_;refine nl ?_;exact⟨t9+1,by omega,⟨by omega,by omega⟩,aN h0 [0,1] _ _ (by decide) ⟨rfl,rfl,rfl,rfl,rfl,rfl,trivial⟩ ⟨oe rfl rfl,oe rfl rfl,rfl⟩⟩
      refine sk ?_;refine sq ?_;have hm9:(aQ fw.toNat ys).mem t9 e=true:=by simpa using h7
      have htf9:t9≤y+fw.toNat:=by omega
      have hw9:(aQ fw.toNat ys).left ((aQ fw.toNat ys).run (t9+1)) y e≠0:=fun h9=>h8 (by rw[show(fY (aK fw ys) ((aQ fw.toNat ys).los y e) y e ((t9:Nat):Int))=(0:Rat) from by rw[hC.un,Zb (by omega)];exact h9];rfl)
      have hfl:=To hC.ok hv (t:=t9) (by omega) (by omega) htf9 hm9 hw9
      rw[←hC.un]at hfl;have hb9l:(((aQ fw.toNat ys).by9 (aK fw ys) (t9)).map Fr4.of).length=(aQ fw.toNat ys).E:=by rw[List.length_map,xE]
      have hb8l:(((aQ fw.toNat ys).bs (t9)).map Fr4.of).length=(aQ fw.toNat ys).E:=by rw[List.length_map,oC]
      refine rd [0,1] (fun i=>[24].contains i) mixed ?_
      refine dv 0 ?_;refine aR 1 ?_;refine dv 2 ?_;refine dv 3 ?_;refine dv 4 ?_
      refine gI 5 ([sQ false (((aQ fw.toNat ys).by9 (aK fw ys) (t9)).map Fr4.of)]) ((by rw[show(aQ fw.toNat ys).by9 (aK fw ys) (t9)=(qU (fV fw ys) (t9)).b from by rw[hC.rat (i:=t9) (by omega)];rfl];exact(bL (f:=mP) (z:=5) (o:=4) lM (vE (by omega)) (Nat.le_of_ble_eq_true rfl) rfl))) ?_
      refine dv 6 ?_;refine aR 7 ?_;refine dv 8 ?_
      refine gI 9 ((Fr4.of (dS (aK fw ys) (t9) (e))).tr false) ((by rw[←SW (aQ fw.toNat ys) (U:=(aK fw ys)) (t:=(t9)) (e:=e) (by omega)];exact lX (((aQ fw.toNat ys).by9 (aK fw ys) (t9)).map Fr4.of) (k:=e) (by rw[List.length_map,xE];omega))) ?_
      refine dv 11 ?_;refine dv 12 ?_;refine dv 13 ?_;refine dv 14 ?_
      refine gI 15 ([sQ false (((aQ fw.toNat ys).bs (t9)).map Fr4.of)]) ((by rw[←hC.b (t9) (by omega)];exact(bL (f:=fD) (z:=6) (o:=1) eP (dP (by omega)) (Nat.le_of_ble_eq_true rfl) rfl))) ?_
      refine dv 16 ?_;refine aR 17 ?_;refine dv 18 ?_
      refine gI 19 ((Fr4.of ((aQ fw.toNat ys).base (t9) (e))).tr false) ((by rw[←SV (aQ fw.toNat ys) (t:=(t9)) (e:=e) (by omega)];exact lX (((aQ fw.toNat ys).bs (t9)).map Fr4.of) (k:=e) (by rw[List.length_map,oC];omega))) ?_
      refine WO.two (i:=10) (j:=20) (by kernel_rfl) ?_ ?_
      ·refine fA 10 rfl (fX (z:=0) (by omega) (by omega)) mX ⟨a1 rfl,rfl⟩ (qF (.of ((0:Int):Rat))) ?_
       refine kN (key:=2) 20 (by kernel_rfl) rfl rfl aA rfl ⟨rfl,rfl,trivial⟩ ?_
       refine yC (i:=110) (k:=2) (t:=48) (t':=52) (z:=4) (n:=1) (l:=([Fr4.of ((aQ fw.toNat ys).base (t9) (e))]).flatMap (Fr4.tr false)) rfl rfl rfl rfl (.one .sl) (by rfl) (by rfl) ?_
       refine bB 21 rfl (Nb (q:=((aQ fw.toNat ys).base (t9) (e))) ((hC.ok.base _ _ (by omega) (by omega)).mono (M:=68719476736) (by omega))) LS ⟨aG rfl,a1 rfl,rfl⟩ (qF (.of (dH 0 [((aQ fw.toNat ys).base (t9) (e))]))) ?_
       refine bB 22 rfl (tH (Qn.of (p:=(dS (aK fw ys) (t9) (e))) ((hIv.sz_eIn hC.ok (by omega) (by omega)).mono (M:=68719476736) (by omega))) (Qn.of (p:=(dH 0 [((aQ fw.toNat ys).base (t9) (e))])) (El ((hC.ok.base _ _ (by omega) (by omega)).mono (M:=68719476736) (by omega)) (by omega)))) oJ ⟨aG rfl,aG rfl,rfl⟩ (.one (tv (.int .i64 ((dS (aK fw ys) (t9) (e))-(dH 0 [((aQ fw.toNat ys).base (t9) (e))])).num.sign))) ?_
       refine df 23 ?_
       refine WD.cast (t:=113) (u':=.bool (decide ((dS (aK fw ys) (t9) (e))=(dH 0 [((aQ fw.toNat ys).base (t9) (e))])))) rfl (congrArg Value.bool (decide_eq_decide.2 As)) ?_
       refine eR 24 (by kernel_rfl) rfl rfl aA rfl (by trivial) ?_ (fun h=>by first | rfl | cases h)
       refine aS ?_;refine sq ?_;refine sq ?_;refine rd [0,1] (fun i=>[].contains i) mixed ?_
       refine dv 0 ?_;refine WD.splitb (t:=114) rfl (fun h9=>?_) (fun h9=>?_)
       ·refine dv 1 ?_;refine dv 2 ?_;refine eI 3 ?_;refine eI 4 ?_;refine eI 5 ?_;refine eI 6 ?_;refine eI 7 ?_;refine eI 8 ?_;refine eI 9 ?_;refine eI 10 ?_
        refine eI 11 ?_;refine eI 12 ?_;refine eI 13 ?_;refine eI 14 ?_;refine eI 15 ?_;refine dv 16 ?_;refine aS ?_;refine eN rfl ?_;refine sk ?_;refine sq ?_
        refine rl ?_;refine o1 ?_;refine nl ?_;refine bl ?_
        refine lp (γ:=Nat) (fun s=>cA [(0,.one (tv (.int .i64 fw))),(1,.one (.t (iZ ys))),(5,.one (.pt 0 0)),(7,.one (tv (.int .i64 ((i9:Nat):Int)))),(8,.one (.pt 1 0)),(9,.one (tv (.int .i64 ((t9:Nat):Int)))),(10,.one (tv (.bool (decide ((dS (aK fw ys) (t9) (e))=(dH 0 [((aQ fw.toNat ys).base (t9) (e))])))))),(11,.one (tv (.int .i64 ((s:Nat):Int))))]) (fun s=>[(⟨39,0,[.t (dA false (fV fw ys)),.t (cU false false (gD fw ys)),.t (cI false false (aK fw ys))]⟩:Ob),⟨64,0,[tv (.int .i64 ((y:Nat):Int)),tv (.int .i64 ((e:Nat):Int)),tv (.bool (aE ((aQ fw.toNat ys).los y e).num)),.t (sU false (dg 4294967296 ((aQ fw.toNat ys).los y e).num.natAbs)),tv (.bool false),.t (sU false (dg 4294967296 ((aQ fw.toNat ys).los y e).den)),tv (.bool (aE (fS (aK fw ys) y e).num)),.t (sU false (dg 4294967296 (fS (aK fw ys) y e).num.natAbs)),tv (.bool false),.t (sU false (dg 4294967296 (fS (aK fw ys) y e).den)),tv (.bool (aE ((aQ fw.toNat ys).ex (aK fw ys) ys.length y e).num)),.t (sU false (dg 4294967296 ((aQ fw.toNat ys).ex (aK fw ys) ys.length y e).num.natAbs)),tv (.bool false),.t (sU false (dg 4294967296 ((aQ fw.toNat ys).ex (aK fw ys) ys.length y e).den)),tv (.bool (aE ((aQ fw.toNat ys).cl (aK fw ys) ys.length y e).num)),.t (sU false (dg 4294967296 ((aQ fw.toNat ys).cl (aK fw ys) ys.length y e).num.natAbs)),tv (.bool false),.t (sU false (dg 4294967296 ((aQ fw.toNat ys).cl (aK fw ys) ys.length y e).den))]⟩].map some) (fun s=>s≤(aK fw ys).length) (fun s=>(aK fw ys).length-s) 0 (Nat.zero_le _) (aN h0 [0,1] _ _ (by decide) ⟨rfl,rfl,rfl,rfl,rfl,rfl,rfl,rfl,trivial⟩ ⟨oe rfl rfl,oe rfl rfl,rfl⟩) ?_
        rintro k8 hk8;refine sq ?_;refine sq ?_;refine rl ?_;refine o1 ?_;refine o1 ?_;refine ld ?_;refine o1 ?_;refine o1 ?_;refine nl ?_
        refine bM rfl (fun h10=>?_) (fun h10=>?_)
        ·refine sk ?_;refine sq ?_;refine bl ?_;refine sq ?_;refine rl ?_;refine o1 ?_;refine ld ?_;refine o1 ?_;refine o1 ?_
         refine dU ((hJ false) (dO (aK fw ys) (k8))) (bL (f:=(hJ false)) (z:=7) (o:=0) (fH false) (fI (by omega)) (Nat.le_of_ble_eq_true rfl) rfl) ?_
         refine al 2 ?_;refine st ?_;refine nl ?_;refine sq ?_;refine rl ?_;refine o1 ?_;refine ld ?_;(iterate 3 refine o1 ?_)
         refine WL.split (t:=147) rfl (fun h11=>?_) (fun h11=>?_)
         ·refine o1 ?_;refine ld ?_;refine o1 ?_;refine ld ?_;(iterate 3 refine o1 ?_);refine WL.split (t:=154) rfl (fun h12=>?_) (fun h12=>?_)
          ·refine o1 ?_;refine ld ?_;refine o1 ?_;refine ld ?_;refine o1 ?_;refine o1 ?_;refine WL.split (t:=160) rfl (fun h13=>?_) (fun h13=>?_)
           ·refine cM ?_;refine cM ?_;refine o1 ?_;refine o1 ?_;refine nl ?_;refine gJ rfl ?_;refine sq ?_;refine rl ?_;refine o1 ?_;refine nl ?_;refine rt ?_
            exact(hfl.2 _ (fR (l:=(aK fw ys)) (i:=k8) (by omega)) h11 h12 (.inl h13)).elim
           refine o1 ?_;refine WL.cast (t:=161) rfl (congrArg Value.bool h9) ?_;(iterate 3 refine o1 ?_);refine nl ?_;refine eN rfl ?_;refine sk ?_;refine rl ?_
           refine o1 ?_;refine o1 ?_;refine WL.cast (t:=137) (u':=.int .i64 ((k8+1:Nat):Int)) rfl (aC (by omega)) ?_
           refine o1 ?_;refine nl ?_
           exact⟨k8+1,by omega,by omega,aN h0 [0,1] _ _ (by decide) ⟨rfl,rfl,rfl,rfl,rfl,rfl,rfl,rfl,trivial⟩ ⟨oe rfl rfl,oe rfl rfl,rfl⟩⟩
          (iterate 9 refine cM ?_);refine o1 ?_;refine nl ?_;refine eN rfl ?_;refine sk ?_;refine rl ?_;refine o1 ?_;refine o1 ?_
          refine WL.cast (t:=137) (u':=.int .i64 ((k8+1:Nat):Int)) rfl (aC (by omega)) ?_
          refine o1 ?_;refine nl ?_;exact⟨k8+1,by omega,by omega,aN h0 [0,1] _ _ (by decide) ⟨rfl,rfl,rfl,rfl,rfl,rfl,rfl,rfl,trivial⟩ ⟨oe rfl rfl,oe rfl rfl,rfl⟩⟩
         (iterate 5 refine cM ?_);refine o1 ?_;refine o1 ?_;(iterate 9 refine cM ?_);refine o1 ?_;refine nl ?_;refine eN rfl ?_;refine sk ?_;refine rl ?_;refine o1 ?_
         refine o1 ?_;refine WL.cast (t:=137) (u':=.int .i64 ((k8+1:Nat):Int)) rfl (aC (by omega)) ?_
         refine o1 ?_;refine nl ?_;exact⟨k8+1,by omega,by omega,aN h0 [0,1] _ _ (by decide) ⟨rfl,rfl,rfl,rfl,rfl,rfl,rfl,rfl,trivial⟩ ⟨oe rfl rfl,oe rfl rfl,rfl⟩⟩
        refine ex ?_;refine rl ?_;refine o1 ?_;refine o1 ?_;refine WL.cast (t:=60) (u':=.int .i64 ((t9+1:Nat):Int)) rfl (aC (by omega)) ?_
        refine o1 ?_;refine nl ?_;exact⟨t9+1,by omega,⟨by omega,by omega⟩,aN h0 [0,1] _ _ (by decide) ⟨rfl,rfl,rfl,rfl,rfl,rfl,trivial⟩ ⟨oe rfl rfl,oe rfl rfl,rfl⟩⟩
       refine dv 1 ?_;refine dv 2 ?_;refine dv 3 ?_;refine aR 4 ?_;refine dv 5 ?_;refine dv 6 ?_;refine dv 7 ?_
       refine gI 8 ((Fr4.of (dR (aK fw ys) (t9))).tr false) ((by rw[show dR (aK fw ys) ((t9:Nat):Int)=(qU (fV fw ys) (t9)).u from by rw[hC.rat (i:=t9) (by omega)];rfl];exact(bL (f:=mP) (z:=5) (o:=0) lM (vE (by omega)) (Nat.le_of_ble_eq_true rfl) rfl))) ?_
       refine dv 9 ?_;refine dv 10 ?_;refine dv 11 ?_;refine dv 12 ?_
       refine gI 13 ((Fr4.of ((aQ fw.toNat ys).lim (t9))).tr false) ((by rw[←hC.l (t9) (by omega)];exact(bL (f:=fD) (z:=6) (o:=2) eP (dP (by omega)) (Nat.le_of_ble_eq_true rfl) rfl))) ?_
       refine bB 14 rfl (tH (Qn.of (p:=(dR (aK fw ys) (t9))) ((hIv.sz_yIn hC.ok (by omega)).mono (M:=68719476736) (by omega))) (Qn.of (p:=((aQ fw.toNat ys).lim (t9))) ((hC.ok.lim _ (by omega)).mono (M:=68719476736) (by omega)))) oJ ⟨aG rfl,aG rfl,rfl⟩ (.one (tv (.int .i64 ((dR (aK fw ys) (t9))-((aQ fw.toNat ys).lim (t9))).num.sign))) ?_
       refine df 15 ?_;refine df 16 ?_;refine aS ?_;refine bM rfl (fun h14=>?_) (fun h14=>?_)
       ·exact absurd (As.2 (hfl.1.resolve_left (by simpa using h9))) h14
       refine sk ?_;refine sq ?_;have hown9:(dS (aK fw ys) (t9) (e))≠(dH 0 [((aQ fw.toNat ys).base (t9) (e))]):=by simpa using h9
       refine rl ?_;refine o1 ?_;refine nl ?_;refine bl ?_
       refine lp (γ:=Nat) (fun s=>cA [(0,.one (tv (.int .i64 fw))),(1,.one (.t (iZ ys))),(5,.one (.pt 0 0)),(7,.one (tv (.int .i64 ((i9:Nat):Int)))),(8,.one (.pt 1 0)),(9,.one (tv (.int .i64 ((t9:Nat):Int)))),(10,.one (tv (.bool (decide ((dS (aK fw ys) (t9) (e))=(dH 0 [((aQ fw.toNat ys).base (t9) (e))])))))),(11,.one (tv (.int .i64 ((s:Nat):Int))))]) (fun s=>[(⟨39,0,[.t (dA false (fV fw ys)),.t (cU false false (gD fw ys)),.t (cI false false (aK fw ys))]⟩:Ob),⟨64,0,[tv (.int .i64 ((y:Nat):Int)),tv (.int .i64 ((e:Nat):Int)),tv (.bool (aE ((aQ fw.toNat ys).los y e).num)),.t (sU false (dg 4294967296 ((aQ fw.toNat ys).los y e).num.natAbs)),tv (.bool false),.t (sU false (dg 4294967296 ((aQ fw.toNat ys).los y e).den)),tv (.bool (aE (fS (aK fw ys) y e).num)),.t (sU false (dg 4294967296 (fS (aK fw ys) y e).num.natAbs)),tv (.bool false),.t (sU false (dg 4294967296 (fS (aK fw ys) y e).den)),tv (.bool (aE ((aQ fw.toNat ys).ex (aK fw ys) ys.length y e).num)),.t (sU false (dg 4294967296 ((aQ fw.toNat ys).ex (aK fw ys) ys.length y e).num.natAbs)),tv (.bool false),.t (sU false (dg 4294967296 ((aQ fw.toNat ys).ex (aK fw ys) ys.length y e).den)),tv (.bool (aE ((aQ fw.toNat ys).cl (aK fw ys) ys.length y e).num)),.t (sU false (dg 4294967296 ((aQ fw.toNat ys).cl (aK fw ys) ys.length y e).num.natAbs)),tv (.bool false),.t (sU false (dg 4294967296 ((aQ fw.toNat ys).cl (aK fw ys) ys.length y e).den))]⟩].map some) (fun s=>s≤(aK fw ys).length) (fun s=>(aK fw ys).length-s) 0 (Nat.zero_le _) (aN h0 [0,1] _ _ (by decide) ⟨rfl,rfl,rfl,rfl,rfl,rfl,rfl,rfl,trivial⟩ ⟨oe rfl rfl,oe rfl rfl,rfl⟩) ?_
       rintro k8 hk8;refine sq ?_;refine sq ?_;refine rl ?_;refine o1 ?_;refine o1 ?_;refine ld ?_;refine o1 ?_;refine o1 ?_;refine nl ?_
       refine bM rfl (fun h15=>?_) (fun h15=>?_)
       ·refine sk ?_;refine sq ?_;refine bl ?_;refine sq ?_;refine rl ?_;refine o1 ?_;refine ld ?_;refine o1 ?_;refine o1 ?_
        refine dU ((hJ false) (dO (aK fw ys) (k8))) (bL (f:=(hJ false)) (z:=7) (o:=0) (fH false) (fI (by omega)) (Nat.le_of_ble_eq_true rfl) rfl) ?_
        refine al 2 ?_;refine st ?_;refine nl ?_;refine sq ?_;refine rl ?_;refine o1 ?_;refine ld ?_;(iterate 3 refine o1 ?_)
        refine WL.split (t:=147) rfl (fun h16=>?_) (fun h16=>?_)
        ·refine o1 ?_;refine ld ?_;refine o1 ?_;refine ld ?_;(iterate 3 refine o1 ?_);refine WL.split (t:=154) rfl (fun h17=>?_) (fun h17=>?_)
         ·refine o1 ?_;refine ld ?_;refine o1 ?_;refine ld ?_;refine o1 ?_;refine o1 ?_;refine WL.split (t:=160) rfl (fun h18=>?_) (fun h18=>?_)
          ·refine cM ?_;refine cM ?_;refine o1 ?_;refine o1 ?_;refine nl ?_;refine gJ rfl ?_;refine sq ?_;refine rl ?_;refine o1 ?_;refine nl ?_;refine rt ?_
           exact(hfl.2 _ (fR (l:=(aK fw ys)) (i:=k8) (by omega)) h16 h17 (.inl h18)).elim
          refine o1 ?_;refine WL.cast (t:=161) rfl (congrArg Value.bool h9) ?_;(iterate 3 refine o1 ?_);refine nl ?_;refine gJ rfl ?_;refine sq ?_;refine rl ?_
          refine o1 ?_;refine nl ?_;refine rt ?_;exact(hfl.2 _ (fR (l:=(aK fw ys)) (i:=k8) (by omega)) h16 h17 (.inr hown9)).elim
         (iterate 9 refine cM ?_);refine o1 ?_;refine nl ?_;refine eN rfl ?_;refine sk ?_;refine rl ?_;refine o1 ?_;refine o1 ?_
         refine WL.cast (t:=137) (u':=.int .i64 ((k8+1:Nat):Int)) rfl (aC (by omega)) ?_
         refine o1 ?_;refine nl ?_
         exact⟨k8+1,by omega,by omega,aN h0 [0,1] _ _ (by decide) ⟨rfl,rfl,rfl,rfl,rfl,rfl,rfl,rfl,trivial⟩ ⟨oe rfl rfl,oe rfl rfl,rfl⟩⟩
        (iterate 5 refine cM ?_);refine o1 ?_;refine o1 ?_;(iterate 9 refine cM ?_);refine o1 ?_;refine nl ?_;refine eN rfl ?_;refine sk ?_;refine rl ?_;refine o1 ?_
        refine o1 ?_;refine WL.cast (t:=137) (u':=.int .i64 ((k8+1:Nat):Int)) rfl (aC (by omega)) ?_
        refine o1 ?_;refine nl ?_;exact⟨k8+1,by omega,by omega,aN h0 [0,1] _ _ (by decide) ⟨rfl,rfl,rfl,rfl,rfl,rfl,rfl,rfl,trivial⟩ ⟨oe rfl rfl,oe rfl rfl,rfl⟩⟩
       refine ex ?_;refine rl ?_;refine o1 ?_;refine o1 ?_;refine WL.cast (t:=60) (u':=.int .i64 ((t9+1:Nat):Int)) rfl (aC (by omega)) ?_
       refine o1 ?_;refine nl ?_;exact⟨t9+1,by omega,⟨by omega,by omega⟩,aN h0 [0,1] _ _ (by decide) ⟨rfl,rfl,rfl,rfl,rfl,rfl,trivial⟩ ⟨oe rfl rfl,oe rfl rfl,rfl⟩⟩
      refine Xp (key:=2) 20 rfl rfl ⟨rfl,rfl,trivial⟩ ?_
      refine yC (i:=110) (k:=2) (t:=48) (t':=52) (z:=4) (n:=1) (l:=([Fr4.of ((aQ fw.toNat ys).base (t9) (e))]).flatMap (Fr4.tr false)) rfl rfl rfl rfl (.one .sl) (by rfl) (by rfl) ?_
      refine bB 10 rfl (fX (z:=0) (by omega) (by omega)) mX ⟨a1 rfl,rfl⟩ (qF (.of ((0:Int):Rat))) ?_
      refine bB 21 rfl (Nb (q:=((aQ fw.toNat ys).base (t9) (e))) ((hC.ok.base _ _ (by omega) (by omega)).mono (M:=68719476736) (by omega))) LS ⟨aG rfl,a1 rfl,rfl⟩ (qF (.of (dH 0 [((aQ fw.toNat ys).base (t9) (e))]))) ?_
      refine bB 22 rfl (tH (Qn.of (p:=(dS (aK fw ys) (t9) (e))) ((hIv.sz_eIn hC.ok (by omega) (by omega)).mono (M:=68719476736) (by omega))) (Qn.of (p:=(dH 0 [((aQ fw.toNat ys).base (t9) (e))])) (El ((hC.ok.base _ _ (by omega) (by omega)).mono (M:=68719476736) (by omega)) (by omega)))) oJ ⟨aG rfl,aG rfl,rfl⟩ (.one (tv (.int .i64 ((dS (aK fw ys) (t9) (e))-(dH 0 [((aQ fw.toNat ys).base (t9) (e))])).num.sign))) ?_
      refine df 23 ?_
      refine WD.cast (t:=113) (u':=.bool (decide ((dS (aK fw ys) (t9) (e))=(dH 0 [((aQ fw.toNat ys).base (t9) (e))])))) rfl (congrArg Value.bool (decide_eq_decide.2 As)) ?_
      refine eR 24 (by kernel_rfl) rfl rfl aA rfl (by trivial) ?_ (fun h=>by first | rfl | cases h)
      refine aS ?_;refine sq ?_;refine sq ?_;refine rd [0,1] (fun i=>[].contains i) mixed ?_
      refine dv 0 ?_;refine WD.splitb (t:=114) rfl (fun h19=>?_) (fun h19=>?_)
      ·refine dv 1 ?_;refine dv 2 ?_;refine eI 3 ?_;refine eI 4 ?_;refine eI 5 ?_;refine eI 6 ?_;refine eI 7 ?_;refine eI 8 ?_;refine eI 9 ?_;refine eI 10 ?_
       refine eI 11 ?_;refine eI 12 ?_;refine eI 13 ?_;refine eI 14 ?_;refine eI 15 ?_;refine dv 16 ?_;refine aS ?_;refine eN rfl ?_;refine sk ?_;refine sq ?_
       refine rl ?_;refine o1 ?_;refine nl ?_;refine bl ?_
       refine lp (γ:=Nat) (fun s=>cA [(0,.one (tv (.int .i64 fw))),(1,.one (.t (iZ ys))),(5,.one (.pt 0 0)),(7,.one (tv (.int .i64 ((i9:Nat):Int)))),(8,.one (.pt 1 0)),(9,.one (tv (.int .i64 ((t9:Nat):Int)))),(10,.one (tv (.bool (decide ((dS (aK fw ys) (t9) (e))=(dH 0 [((aQ fw.toNat ys).base (t9) (e))])))))),(11,.one (tv (.int .i64 ((s:Nat):Int))))]) (fun s=>[(⟨39,0,[.t (dA false (fV fw ys)),.t (cU false false (gD fw ys)),.t (cI false false (aK fw ys))]⟩:Ob),⟨64,0,[tv (.int .i64 ((y:Nat):Int)),tv (.int .i64 ((e:Nat):Int)),tv (.bool (aE ((aQ fw.toNat ys).los y e).num)),.t (sU false (dg 4294967296 ((aQ fw.toNat ys).los y e).num.natAbs)),tv (.bool false),.t (sU false (dg 4294967296 ((aQ fw.toNat ys).los y e).den)),tv (.bool (aE (fS (aK fw ys) y e).num)),.t (sU false (dg 4294967296 (fS (aK fw ys) y e).num.natAbs)),tv (.bool false),.t (sU false (dg 4294967296 (fS (aK fw ys) y e).den)),tv (.bool (aE ((aQ fw.toNat ys).ex (aK fw ys) ys.length y e).num)),.t (sU false (dg 4294967296 ((aQ fw.toNat ys).ex (aK fw ys) ys.length y e).num.natAbs)),tv (.bool false),.t (sU false (dg 4294967296 ((aQ fw.toNat ys).ex (aK fw ys) ys.length y e).den)),tv (.bool (aE ((aQ fw.toNat ys).cl (aK fw ys) ys.length y e).num)),.t (sU false (dg 4294967296 ((aQ fw.toNat ys).cl (aK fw ys) ys.length y e).num.natAbs)),tv (.bool false),.t (sU false (dg 4294967296 ((aQ fw.toNat ys).cl (aK fw ys) ys.length y e).den))]⟩].map some) (fun s=>s≤(aK fw ys).length) (fun s=>(aK fw ys).length-s) 0 (Nat.zero_le _) (aN h0 [0,1] _ _ (by decide) ⟨rfl,rfl,rfl,rfl,rfl,rfl,rfl,rfl,trivial⟩ ⟨oe rfl rfl,oe rfl rfl,rfl⟩) ?_
       rintro k8 hk8;refine sq ?_;refine sq ?_;refine rl ?_;refine o1 ?_;refine o1 ?_;refine ld ?_;refine o1 ?_;refine o1 ?_;refine nl ?_
       refine bM rfl (fun h20=>?_) (fun h20=>?_)
       ·refine sk ?_;refine sq ?_;refine bl ?_;refine sq ?_;refine rl ?_;refine o1 ?_;refine ld ?_;refine o1 ?_;refine o1 ?_
        refine dU ((hJ false) (dO (aK fw ys) (k8))) (bL (f:=(hJ false)) (z:=7) (o:=0) (fH false) (fI (by omega)) (Nat.le_of_ble_eq_true rfl) rfl) ?_
        refine al 2 ?_;refine st ?_;refine nl ?_;refine sq ?_;refine rl ?_;refine o1 ?_;refine ld ?_;(iterate 3 refine o1 ?_)
        refine WL.split (t:=147) rfl (fun h21=>?_) (fun h21=>?_)
        ·refine o1 ?_;refine ld ?_;refine o1 ?_;refine ld ?_;(iterate 3 refine o1 ?_);refine WL.split (t:=154) rfl (fun h22=>?_) (fun h22=>?_)
         ·refine o1 ?_;refine ld ?_;refine o1 ?_;refine ld ?_;refine o1 ?_;refine o1 ?_;refine WL.split (t:=160) rfl (fun h23=>?_) (fun h23=>?_)
          ·refine cM ?_;refine cM ?_;refine o1 ?_;refine o1 ?_;refine nl ?_;refine gJ rfl ?_;refine sq ?_;refine rl ?_;refine o1 ?_;refine nl ?_;refine rt ?_
           exact(hfl.2 _ (fR (l:=(aK fw ys)) (i:=k8) (by omega)) h21 h22 (.inl h23)).elim
          refine o1 ?_;refine WL.cast (t:=161) rfl (congrArg Value.bool h19) ?_;(iterate 3 refine o1 ?_);refine nl ?_;refine eN rfl ?_;refine sk ?_;refine rl ?_
          refine o1 ?_;refine o1 ?_;refine WL.cast (t:=137) (u':=.int .i64 ((k8+1:Nat):Int)) rfl (aC (by omega)) ?_
          refine o1 ?_;refine nl ?_
          exact⟨k8+1,by omega,by omega,aN h0 [0,1] _ _ (by decide) ⟨rfl,rfl,rfl,rfl,rfl,rfl,rfl,rfl,trivial⟩ ⟨oe rfl rfl,oe rfl rfl,rfl⟩⟩
         (iterate 9 refine cM ?_);refine o1 ?_;refine nl ?_;refine eN rfl ?_;refine sk ?_;refine rl ?_;refine o1 ?_;refine o1 ?_
         refine WL.cast (t:=137) (u':=.int .i64 ((k8+1:Nat):Int)) rfl (aC (by omega)) ?_
         refine o1 ?_;refine nl ?_;exact⟨k8+1,by omega,by omega,aN h0 [0,1] _ _ (by decide) ⟨rfl,rfl,rfl,rfl,rfl,rfl,rfl,rfl,trivial⟩ ⟨oe rfl rfl,oe rfl rfl,rfl⟩⟩
        (iterate 5 refine cM ?_);refine o1 ?_;refine o1 ?_;(iterate 9 refine cM ?_);refine o1 ?_;refine nl ?_;refine eN rfl ?_;refine sk ?_;refine rl ?_;refine o1 ?_
        refine o1 ?_;refine WL.cast (t:=137) (u':=.int .i64 ((k8+1:Nat):Int)) rfl (aC (by omega)) ?_
        refine o1 ?_;refine nl ?_;exact⟨k8+1,by omega,by omega,aN h0 [0,1] _ _ (by decide) ⟨rfl,rfl,rfl,rfl,rfl,rfl,rfl,rfl,trivial⟩ ⟨oe rfl rfl,oe rfl rfl,rfl⟩⟩
       refine ex ?_;refine rl ?_;refine o1 ?_;refine o1 ?_;refine WL.cast (t:=60) (u':=.int .i64 ((t9+1:Nat):Int)) rfl (aC (by omega)) ?_
       refine o1 ?_;refine nl ?_;exact⟨t9+1,by omega,⟨by omega,by omega⟩,aN h0 [0,1] _ _ (by decide) ⟨rfl,rfl,rfl,rfl,rfl,rfl,trivial⟩ ⟨oe rfl rfl,oe rfl rfl,rfl⟩⟩
      refine dv 1 ?_;refine dv 2 ?_;refine dv 3 ?_;refine aR 4 ?_;refine dv 5 ?_;refine dv 6 ?_;refine dv 7 ?_
      refine gI 8 ((Fr4.of (dR (aK fw ys) (t9))).tr false) ((by rw[show dR (aK fw ys) ((t9:Nat):Int)=(qU (fV fw ys) (t9)).u from by rw[hC.rat (i:=t9) (by omega)];rfl];exact(bL (f:=mP) (z:=5) (o:=0) lM (vE (by omega)) (Nat.le_of_ble_eq_true rfl) rfl))) ?_
      refine dv 9 ?_;refine dv 10 ?_;refine dv 11 ?_;refine dv 12 ?_
      refine gI 13 ((Fr4.of ((aQ fw.toNat ys).lim (t9))).tr false) ((by rw[←hC.l (t9) (by omega)];exact(bL (f:=fD) (z:=6) (o:=2) eP (dP (by omega)) (Nat.le_of_ble_eq_true rfl) rfl))) ?_
      refine bB 14 rfl (tH (Qn.of (p:=(dR (aK fw ys) (t9))) ((hIv.sz_yIn hC.ok (by omega)).mono (M:=68719476736) (by omega))) (Qn.of (p:=((aQ fw.toNat ys).lim (t9))) ((hC.ok.lim _ (by omega)).mono (M:=68719476736) (by omega)))) oJ ⟨aG rfl,aG rfl,rfl⟩ (.one (tv (.int .i64 ((dR (aK fw ys) (t9))-((aQ fw.toNat ys).lim (t9))).num.sign))) ?_
      refine df 15 ?_;refine df 16 ?_;refine aS ?_;refine bM rfl (fun h24=>?_) (fun h24=>?_)
      ·exact absurd (As.2 (hfl.1.resolve_left (by simpa using h19))) h24
      refine sk ?_;refine sq ?_;have hown9:(dS (aK fw ys) (t9) (e))≠(dH 0 [((aQ fw.toNat ys).base (t9) (e))]):=by simpa using h19
      refine rl ?_;refine o1 ?_;refine nl ?_;refine bl ?_
      refine lp (γ:=Nat) (fun s=>cA [(0,.one (tv (.int .i64 fw))),(1,.one (.t (iZ ys))),(5,.one (.pt 0 0)),(7,.one (tv (.int .i64 ((i9:Nat):Int)))),(8,.one (.pt 1 0)),(9,.one (tv (.int .i64 ((t9:Nat):Int)))),(10,.one (tv (.bool (decide ((dS (aK fw ys) (t9) (e))=(dH 0 [((aQ fw.toNat ys).base (t9) (e))])))))),(11,.one (tv (.int .i64 ((s:Nat):Int))))]) (fun s=>[(⟨39,0,[.t (dA false (fV fw ys)),.t (cU false false (gD fw ys)),.t (cI false false (aK fw ys))]⟩:Ob),⟨64,0,[tv (.int .i64 ((y:Nat):Int)),tv (.int .i64 ((e:Nat):Int)),tv (.bool (aE ((aQ fw.toNat ys).los y e).num)),.t (sU false (dg 4294967296 ((aQ fw.toNat ys).los y e).num.natAbs)),tv (.bool false),.t (sU false (dg 4294967296 ((aQ fw.toNat ys).los y e).den)),tv (.bool (aE (fS (aK fw ys) y e).num)),.t (sU false (dg 4294967296 (fS (aK fw ys) y e).num.natAbs)),tv (.bool false),.t (sU false (dg 4294967296 (fS (aK fw ys) y e).den)),tv (.bool (aE ((aQ fw.toNat ys).ex (aK fw ys) ys.length y e).num)),.t (sU false (dg 4294967296 ((aQ fw.toNat ys).ex (aK fw ys) ys.length y e).num.natAbs)),tv (.bool false),.t (sU false (dg 4294967296 ((aQ fw.toNat ys).ex (aK fw ys) ys.length y e).den)),tv (.bool (aE ((aQ fw.toNat ys).cl (aK fw ys) ys.length y e).num)),.t (sU false (dg 4294967296 ((aQ fw.toNat ys).cl (aK fw ys) ys.length y e).num.natAbs)),tv (.bool false),.t (sU false (dg 4294967296 ((aQ fw.toNat ys).cl (aK fw ys) ys.length y e).den))]⟩].map some) (fun s=>s≤(aK fw ys).length) (fun s=>(aK fw ys).length-s) 0 (Nat.zero_le _) (aN h0 [0,1] _ _ (by decide) ⟨rfl,rfl,rfl,rfl,rfl,rfl,rfl,rfl,trivial⟩ ⟨oe rfl rfl,oe rfl rfl,rfl⟩) ?_
      rintro k8 hk8;refine sq ?_;refine sq ?_;refine rl ?_;refine o1 ?_;refine o1 ?_;refine ld ?_;refine o1 ?_;refine o1 ?_;refine nl ?_
      refine bM rfl (fun h25=>?_) (fun h25=>?_)
      ·refine sk ?_;refine sq ?_;refine bl ?_;refine sq ?_;refine rl ?_;refine o1 ?_;refine ld ?_;refine o1 ?_;refine o1 ?_
       refine dU ((hJ false) (dO (aK fw ys) (k8))) (bL (f:=(hJ false)) (z:=7) (o:=0) (fH false) (fI (by omega)) (Nat.le_of_ble_eq_true rfl) rfl) ?_
       refine al 2 ?_;refine st ?_;refine nl ?_;refine sq ?_;refine rl ?_;refine o1 ?_;refine ld ?_;(iterate 3 refine o1 ?_)
       refine WL.split (t:=147) rfl (fun h26=>?_) (fun h26=>?_)
       ·refine o1 ?_;refine ld ?_;refine o1 ?_;refine ld ?_;(iterate 3 refine o1 ?_);refine WL.split (t:=154) rfl (fun h27=>?_) (fun h27=>?_)
        ·refine o1 ?_;refine ld ?_;refine o1 ?_;refine ld ?_;refine o1 ?_;refine o1 ?_;refine WL.split (t:=160) rfl (fun h28=>?_) (fun h28=>?_)
         ·refine cM ?_;refine cM ?_;refine o1 ?_;refine o1 ?_;refine nl ?_;refine gJ rfl ?_;refine sq ?_;refine rl ?_;refine o1 ?_;refine nl ?_;refine rt ?_
          exact(hfl.2 _ (fR (l:=(aK fw ys)) (i:=k8) (by omega)) h26 h27 (.inl h28)).elim
         refine o1 ?_;refine WL.cast (t:=161) rfl (congrArg Value.bool h19) ?_;(iterate 3 refine o1 ?_);refine nl ?_;refine gJ rfl ?_;refine sq ?_;refine rl ?_
         refine o1 ?_;refine nl ?_;refine rt ?_;exact(hfl.2 _ (fR (l:=(aK fw ys)) (i:=k8) (by omega)) h26 h27 (.inr hown9)).elim
        (iterate 9 refine cM ?_);refine o1 ?_;refine nl ?_;refine eN rfl ?_;refine sk ?_;refine rl ?_;refine o1 ?_;refine o1 ?_
        refine WL.cast (t:=137) (u':=.int .i64 ((k8+1:Nat):Int)) rfl (aC (by omega)) ?_
        refine o1 ?_;refine nl ?_
        exact⟨k8+1,by omega,by omega,aN h0 [0,1] _ _ (by decide) ⟨rfl,rfl,rfl,rfl,rfl,rfl,rfl,rfl,trivial⟩ ⟨oe rfl rfl,oe rfl rfl,rfl⟩⟩
       (iterate 5 refine cM ?_);refine o1 ?_;refine o1 ?_;(iterate 9 refine cM ?_);refine o1 ?_;refine nl ?_;refine eN rfl ?_;refine sk ?_;refine rl ?_;refine o1 ?_
       refine o1 ?_;refine WL.cast (t:=137) (u':=.int .i64 ((k8+1:Nat):Int)) rfl (aC (by omega)) ?_
       refine o1 ?_;refine nl ?_;exact⟨k8+1,by omega,by omega,aN h0 [0,1] _ _ (by decide) ⟨rfl,rfl,rfl,rfl,rfl,rfl,rfl,rfl,trivial⟩ ⟨oe rfl rfl,oe rfl rfl,rfl⟩⟩
      refine ex ?_;refine rl ?_;refine o1 ?_;refine o1 ?_;refine WL.cast (t:=60) (u':=.int .i64 ((t9+1:Nat):Int)) rfl (aC (by omega)) ?_
      refine o1 ?_;refine nl ?_;exact⟨t9+1,by omega,⟨by omega,by omega⟩,aN h0 [0,1] _ _ (by decide) ⟨rfl,rfl,rfl,rfl,rfl,rfl,trivial⟩ ⟨oe rfl rfl,oe rfl rfl,rfl⟩⟩
     refine dv 19 ?_;refine dv 20 ?_;refine dv 21 ?_;refine eI 22 ?_;refine eI 23 ?_;refine eI 24 ?_;refine eI 25 ?_;refine eI 26 ?_;refine eI 27 ?_;refine dv 28 ?_
     refine aS ?_;refine gJ rfl ?_;refine ex ?_;refine rl ?_;refine o1 ?_;refine o1 ?_;refine WL.cast (t:=60) (u':=.int .i64 ((t9+1:Nat):Int)) rfl (aC (by omega)) ?_
     refine o1 ?_;refine nl ?_;exact⟨t9+1,by omega,⟨by omega,by omega⟩,aN h0 [0,1] _ _ (by decide) ⟨rfl,rfl,rfl,rfl,rfl,rfl,trivial⟩ ⟨oe rfl rfl,oe rfl rfl,rfl⟩⟩
    refine ex ?_;refine rl ?_;refine o1 ?_;refine o1 ?_;refine WL.cast (t:=38) (u':=.int .i64 ((i9+1:Nat):Int)) rfl (aC (by omega)) ?_
    refine o1 ?_;refine nl ?_;exact⟨i9+1,by omega,by omega,aN h0 [0] _ _ (by decide) ⟨rfl,rfl,rfl,rfl,trivial⟩ ⟨oe rfl rfl,rfl⟩⟩
   (iterate 6 refine cM ?_);refine o1 ?_;refine nl ?_;refine eN rfl ?_;refine ex ?_;refine rl ?_;refine o1 ?_;refine o1 ?_
   refine WL.cast (t:=38) (u':=.int .i64 ((i9+1:Nat):Int)) rfl (aC (by omega)) ?_
   refine o1 ?_;refine nl ?_;exact⟨i9+1,by omega,by omega,aN h0 [0] _ _ (by decide) ⟨rfl,rfl,rfl,rfl,trivial⟩ ⟨oe rfl rfl,rfl⟩⟩
  refine ex ?_;refine sq ?_;refine rl ?_;refine ca (vU) LR rfl (.one (tv (.bool true))) ?_;refine o1 ?_;refine nl ?_;refine rt ?_;exact iT (.inl rfl) rfl (rfl)
 refine o1 ?_;refine nl ?_;refine gJ rfl ?_;refine sq ?_;refine rl ?_;refine ca (vU) LR rfl (.one (tv (.bool true))) ?_;refine o1 ?_;refine nl ?_;refine rt ?_
 exact iT (.inl rfl) rfl (rfl)
end Go.Proofs.YtbbabfkgdnkehaaGreat
