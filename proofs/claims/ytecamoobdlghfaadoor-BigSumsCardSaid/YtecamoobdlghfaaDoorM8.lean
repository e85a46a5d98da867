/- Part 8 of a proof: Tc to Rib3. -/
import Derived.Test.YtecamoobdlghfaaDoorM7
import Derived.Test.YtecamoobdlghfaaDoorM6
import Derived.Test.YtecamoobdlghfaaDoorM4
import Derived.ProofKit
import Derived.ChangeOld
import Derived.Deep.Slices
import Derived.Deep.Strs
import Derived.WalkKit
import Derived.OpenShut
import Derived.Below
import Derived.Carry
set_option maxRecDepth 100000
set_option linter.unusedVariables false
set_option linter.unusedSimpArgs false
namespace Go.Proofs.YtecamoobdlghfaaDoor
open Go Go.RowKit
def eI (o:Bool) (a:Zi):List Tr:=[.v (.bool a.s),sU o a.x]
theorem fR (o:Bool) (a:Zi):(eI o a).length=2:=rfl
def gO (a:Zi):FV:=.agg ((eI true a).map .t)
def sZ (t:Nat) (zs:List Zi):Tr:=.s false t 2 zs.length (zs.flatMap (eI false))
def eB (zs:List Zi) (k:Nat):Zi:=zs.getD k ⟨false,[]⟩
theorem dS {zs:List Zi}{k:Nat}(h:k<zs.length):zs[k]? =some (eB zs k):=by simp[eB,h]
theorem Dz {zs:List Zi}{k:Nat}(h:k<zs.length):eB zs k∈zs:=List.mem_of_getElem? (dS h)
def zv (a:Zi):Int:=gG a.s a.x
def ZL (L:Nat) (a:Zi):Prop:=Lim 4294967296 a.x∧a.x.length≤L
theorem ZL.n {L:Nat}{a:Zi}(h:ZL L a) (hL:L≤137438953472):Zn a (zv a):=⟨h.1,Nat.le_trans h.2 hL,rfl⟩
theorem Bo {zs:List Zi}{k:Nat}(h:∀a∈zs,ZL 30 a) (hk:k<zs.length):Zn (eB zs k) (zv (eB zs k)):=(h _ (Dz hk)).n (by omega)
def bX:List Zi→Int
 | []=>0
 | a::l=>zv a+bX l
theorem uU (l m:List Zi):bX (l++m)=bX l+bX m:=by
 induction l with
 | nil=>simp[bX]
 | cons a l ih=>simp only[List.cons_append,bX,ih];omega
theorem Ea (l:List Zi):bX l.reverse=bX l:=by
 induction l with
 | nil=>rfl
 | cons a l ih=>rw[List.reverse_cons,uU,ih];simp only[bX];omega
theorem Bp {zs:List Zi}{k:Nat}(h:k<zs.length):bX (zs.take k)+zv (eB zs k)=bX (zs.take (k+1)):=by
 rw[List.take_add_one,dS h,uU]
 simp[bX]
theorem Nz {a:Zi}{L:Nat}(h:ZL L a):(zv a).natAbs<4294967296^L:=by
 have h1:(dg 4294967296 (zv a).natAbs).length≤a.x.length:=qW h.1
 have h2:=kW (B:=4294967296) (n:=(zv a).natAbs) (by omega)
 exact Nat.lt_of_lt_of_le h2 (Nat.pow_le_pow_right (by omega) (Nat.le_trans h1 h.2))
theorem Hi {zs:List Zi}(h:∀a∈zs,ZL 30 a):(bX zs).natAbs≤zs.length*4294967296^30:=by
 induction zs with
 | nil=>simp[bX]
 | cons a l ih=>
  have h1:=ih fun b hb=>h b (List.mem_cons_of_mem _ hb)
  have h2:=Nz (h a (List.mem_cons_self ..))
  have h3:=Int.natAbs_add_le (zv a) (bX l)
  rw[List.length_cons,Nat.add_mul]
  simp only[bX]
  omega
theorem oU {zs:List Zi}{k:Nat}(h:∀a∈zs,ZL 30 a) (hl:zs.length≤10):(dg 4294967296 (bX (zs.take k)).natAbs).length≤31:=by
 have h1:=Hi (zs:=zs.take k) fun a ha=>h a (List.mem_of_mem_take ha)
 refine bZ (by omega) (Nat.lt_of_le_of_lt h1 ?_)
 have h2:(zs.take k).length≤10:=by rw[List.length_take];omega
 exact Nat.lt_of_le_of_lt (Nat.mul_le_mul_right _ h2) (by decide)
theorem fL {α:Type}{l:List α}{k:Nat}(h:l.length≤k):l.take k=l:=List.take_of_length_le h
def gI (a b:Zi):Bool:=(a.s==b.s)&&decide (a.x=b.x)
theorem yW (a:Zi):gI a a=true:=by simp[gI]
theorem Hj {a b:Zi}(h:(!(a.s==b.s))=true):false=gI a b:=by simp[gI,Ro h]
theorem Hk {a b:Zi}(h:¬a.x.length=b.x.length):false=gI a b:=by
 unfold gI
 rw[decide_eq_false fun e=>h (by rw[e]),Bool.and_false]
theorem Hl {a b:Zi}{k:Nat}(h:¬nth a.x k=nth b.x k):false=gI a b:=by
 unfold gI
 rw[decide_eq_false fun e=>h (by rw[e]),Bool.and_false]
theorem Hm {a b:Zi}{k:Nat}(h:(!(a.s==b.s))=false) (hl:a.x.length=b.x.length) (hk:a.x.take k=b.x.take k) (hk2:a.x.length≤k):true=gI a b:=by
 rw[fL hk2,fL (by omega)]at hk
 simp[gI,Om h,hk]
def uV (k:Int):List Nat:=if k<0 then 45::tx k.natAbs else tx k.natAbs
theorem Bq {k:Int}{f:FuncId}{args:List FV}(h:∀(N:Nat→Prop) (w:World) us,bE w N [] args us→(∀b,N b→b<w.heap.size)→Calls Tryd.prog f us.toArray w (Lc k w)):aK true Tryd.prog f [] args (aY (kO k)):=by
 intro N w cs us hL
 obtain⟨rfl,hf⟩:=kR hL
 refine(h _ w us hf (fun b hb=>hb.1)).mono ?_
 rintro e W ⟨A,n,c,rfl,ho,hb⟩
 obtain⟨y1,a1,a2,a3,a4⟩:=kQ (N:=fun b=>true=false∧(b<W.heap.size∧b∉VT.fpL [])∧(N b∨w.heap.size≤b)) ho
 refine .mk0 (y:=[.w (.bool (aT k)),y1]) rfl hb (by simp only[VT.okL,VT.ok];exact⟨trivial,a3,trivial⟩) ?_ (fun b hb'=>?_) ?_
 ·simp only[VT.fpL,VT.fp,a4,List.nil_append,List.append_nil]
  exact nA A n c
 ·simp only[VT.fpL,VT.fp,a4,List.nil_append,List.append_nil]at hb'
  exact ho.blk b hb'
 refine⟨by simp only[List.map_cons,List.map_nil,a1];rfl,?_⟩
 simp only[List.map_cons,List.map_nil,aG,CR,sU]
 exact⟨by simp[OR],eQ (fun _ _=>rfl) (fun b hb=>absurd hb.1 (by simp)) _ _ a2,trivial⟩
theorem eH {n:Int}(h1:-9223372036854775808≤n) (h2:n≤9223372036854775807):aK true Tryd.prog 32 [] [.one (tv (.int .i64 n))] (aY (kO n)):=Bq fun N w us hf hN=>by
 obtain⟨u,rfl,h3⟩:=Dp hf
 obtain rfl:=aD (iP h3)
 exact Ld n w h1 h2
theorem Lw {k:Int}(h:aT k=true):k<0:=of_decide_eq_true h
theorem Lx {k:Int}(h:aT k=false):¬k<0:=of_decide_eq_false h
theorem Ly {v:Nat}(h:(dg 4294967296 v).length≤1000000):(tx v).length≤10000001:=by
 unfold tx
 split
 ·simp
 rw[List.length_reverse,eR]
 have h1:=kW (B:=4294967296) (n:=v) (by omega)
 have h2:v<10^(10*(dg 4294967296 v).length):=Nat.lt_of_lt_of_le h1 (by rw[Nat.pow_mul];exact Nat.pow_le_pow_left (by omega) _)
 have:=bZ (B:=10) (by omega) h2
 omega
theorem Oa {a:Zi}{k:Int}(ha:Zn a k) (hs:(dg 4294967296 k.natAbs).length≤1000000):aK true Tryd.prog 34 [] [gF a] (aY (.one (tv (.string (bU (uV k)))))):=by
 refine cX Tryd.func34 rfl Tryd.ntmps34 rfl aB rfl fun N9 w9 c0 h0=>?_
 refine sq ?_;refine rl ?_;refine bx 0 ?_;refine o1 ?_;refine nl ?_;refine sq ?_;refine rl ?_;refine ld ?_;refine ca (bO (ha).g) bN ⟨aR rfl,rfl⟩ (kF (k)) ?_;refine al 1 ?_;refine st ?_
 refine nl ?_;refine sq ?_;refine sq ?_;refine rl ?_;refine o1 ?_;refine o1 ?_;refine ld ?_;refine nl ?_;refine rL rfl (fun h1=>?_) (fun h1=>?_)
 ·refine sq ?_;refine rl ?_;refine o1 ?_;refine o1 ?_;refine ld ?_
  refine ca (Fg (xs:=dg 4294967296 k.natAbs) (v:=k.natAbs) hs (aL (by omega) _) (bJ (by omega) _)) Jv ⟨a1 rfl,rfl⟩ (.one (tv (.string (bU (tx k.natAbs))))) ?_
  refine o1 ?_ (hC:=(by rw[kJ];have:=Ly hs;show 1+(tx k.natAbs).length≤_;omega))
  refine WL.cast (t:=13) (u':=.string (bU (45::tx k.natAbs))) rfl (congrArg Value.string (Kg [45] _)) ?_;refine o1 ?_;refine nl ?_;refine rt ?_
  exact en (.inl rfl) rfl (bM (dF _)) (by decide) (fun _=>trivial) (congrArg (fun z=>FV.one (tv (.string z))) (congrArg bU (by unfold uV;rw[if_pos (Lw h1)])))
 refine sk ?_;refine sq ?_;refine rl ?_;refine o1 ?_;refine o1 ?_;refine ld ?_
 refine ca (Fg (xs:=dg 4294967296 k.natAbs) (v:=k.natAbs) hs (aL (by omega) _) (bJ (by omega) _)) Jv ⟨a1 rfl,rfl⟩ (.one (tv (.string (bU (tx k.natAbs))))) ?_
 refine o1 ?_;refine nl ?_;refine rt ?_
 exact en (.inl rfl) rfl (bM (dF _)) (by decide) (fun _=>trivial) (congrArg (fun z=>FV.one (tv (.string z))) (congrArg bU (by unfold uV;rw[if_neg (Lx h1)])))
theorem Ho {a:Zi}{k:Int}(ha:Zn a k) (hs:2<(dg 4294967296 k.natAbs).length):aK true Tryd.prog 33 [] [gF a] (aY (.tup [.one (tv (.int .i64 0)),.one (tv (.bool false))])):=by
 refine cX Tryd.func33 rfl Tryd.ntmps33 rfl aB rfl fun N9 w9 c0 h0=>?_
 refine sq ?_;refine rl ?_;refine bx 0 ?_;refine o1 ?_;refine o1 ?_;refine nl ?_;refine sq ?_;refine rl ?_;refine ld ?_;refine ca (bO (ha).g) bN ⟨aR rfl,rfl⟩ (kF (k)) ?_;refine al 1 ?_
 refine st ?_;refine nl ?_;refine sq ?_;refine sq ?_;refine rl ?_;refine o1 ?_;refine o1 ?_;refine ld ?_;refine o1 ?_;refine o1 ?_;refine nl ?_;refine dO rfl (fun h1=>?_) (fun h1=>?_)
 ·refine sq ?_;refine rl ?_;refine o1 ?_;refine o1 ?_;refine nl ?_;refine rt ?_
  exact en (.inl rfl) rfl (Ji (.cons (dF _) (.cons (dF _) .nil))) (by decide) (fun _=>⟨trivial,trivial,trivial⟩) rfl
 exact absurd h1 (by omega)
theorem yX {zs:List Zi}(hz:∀a∈zs,ZL 30 a) (hl:zs.length≤10):aK false Tryd.prog 29 [] [.one (.t (sZ 24 zs))] (aY (kF (bX zs))):=by
 refine cX Tryd.func29 rfl Tryd.ntmps29 rfl aB rfl fun N9 w9 c0 h0=>?_
 refine sq ?_;refine rl ?_;refine al 0 ?_;refine nl ?_;refine sq ?_;refine sq ?_;refine rl ?_;(iterate 3 refine o1 ?_);refine nl ?_;refine bl ?_
 refine WP.sub (Ol (j:=0) (p:=1) (e:=70) (z':=1) rfl rfl rfl) ?_
 refine lp (γ:=Nat) (fun k=>cW [(2,.one (.pt 0 0)),(5,.one (.t (sZ 24 zs))),(6,.one (tv (.int .i64 ((zs.length:Nat):Int)))),(7,.one (tv (.int .i64 ((k:Nat):Int))))]) (fun k=>[(⟨24,0,[tv (.bool (aT (bX (zs.take (k))))),.t (sU false (dg 4294967296 (bX (zs.take (k))).natAbs))]⟩:Ob)].map some) (fun k=>k≤zs.length∧True) (fun k=>zs.length-k) 0 ⟨Nat.zero_le _,trivial⟩ (bR h0 [0] _ _ (by decide) ⟨rfl,rfl,rfl,rfl,trivial⟩ ⟨oe rfl rfl,rfl⟩) fun k hk=>?_
 refine sq ?_;refine rl ?_;refine o1 ?_;refine nl ?_;refine sq ?_;refine dO rfl (fun h1=>?_) (fun h1=>?_)
 ·refine sk ?_;refine sq ?_;refine bl ?_;refine sq ?_;refine rl ?_;refine o1 ?_
  refine lZ ((eI false) (eB zs (k))) (iB (f:=(eI false)) (z:=2) (o:=0) (fR false) (dS (by omega)) (Nat.le_of_ble_eq_true rfl) rfl) ?_
  refine al 1 ?_;refine st ?_;refine nl ?_;refine rl ?_;refine ld ?_;refine ld ?_
  refine ca (Nu ((Zn.of (k:=bX (zs.take (k))) (by have:=oU (k:=k) hz hl;omega))).g ((Bo hz (k:=k) (by omega))).g) Rh ⟨aR rfl,aR rfl,rfl⟩ (kF (bX (zs.take (k))+(zv (eB zs (k))))) ?_
  refine st ?_;refine nl ?_;refine rl ?_;refine o1 ?_;refine WL.cast (t:=14) (u':=.int .i64 ((k+1:Nat):Int)) rfl (bQ (by omega)) ?_
  refine o1 ?_;refine nl ?_
  exact⟨k+1,by omega,⟨by omega,trivial⟩,bR h0 [0] _ _ (by decide) ⟨rfl,rfl,rfl,rfl,trivial⟩ ⟨oe rfl (congrArg (fun z:Int=>some (⟨24,0,[tv (.bool (aT z)),.t (sU false (dg 4294967296 z.natAbs))]⟩:Ob)) (Bp (by omega))),rfl⟩⟩
 refine ex ?_;refine sq ?_;refine rl ?_;refine ld ?_;refine st ?_;refine nl ?_;refine rt ?_;have hk9:k=zs.length:=by omega
 exact en (.inl rfl) rfl (bM (.agg (.cons (.id rfl) (.cons (.id rfl) .nil)))) (by decide) (fun h=>by cases h) (by rw[hk9,fL (Nat.le_refl _)];rfl)
theorem Lz {zs:List Zi}(hz:∀a∈zs,ZL 30 a) (hl:zs.length≤10):aK false Tryd.prog 30 [] [.one (.t (sZ 26 zs))] (aY (kF (bX zs))):=by
 refine cX Tryd.func30 rfl Tryd.ntmps30 rfl aB rfl fun N9 w9 c0 h0=>?_
 refine sq ?_;refine rl ?_;refine al 0 ?_;refine nl ?_;refine sq ?_;refine rl ?_;refine al 1 ?_;refine nl ?_;refine sq ?_;refine sq ?_;refine rl ?_;refine o1 ?_;refine nl ?_;refine bl ?_
 refine WP.sub (Ol (j:=1) (p:=1) (e:=70) (z':=1) rfl rfl rfl) ?_
 refine lp (γ:=Nat) (fun k=>cW [(0,.one (.t (sZ 26 zs))),(2,.one (.pt 0 0)),(3,.one (.pt 1 0)),(4,.one (tv (.int .i64 ((k:Nat):Int))))]) (fun k=>[(⟨26,0,[tv (.bool false),tv (.slice none 0 0)]⟩:Ob),⟨26,0,[tv (.bool (aT (bX (zs.take (k))))),.t (sU false (dg 4294967296 (bX (zs.take (k))).natAbs))]⟩].map some) (fun k=>k≤zs.length∧True) (fun k=>zs.length-k) 0 ⟨Nat.zero_le _,trivial⟩ (bR h0 [0,1] _ _ (by decide) ⟨rfl,rfl,rfl,rfl,trivial⟩ ⟨oe rfl rfl,oe rfl rfl,rfl⟩) fun k hk=>?_
 refine sq ?_;refine sq ?_;refine rl ?_;(iterate 4 refine o1 ?_);refine nl ?_;refine dO rfl (fun h1=>?_) (fun h1=>?_)
 ·refine sk ?_;refine sq ?_;refine bl ?_;refine rd [0,1] (fun i=>[6].contains i) mixed ?_
  refine cI 0 ?_;refine dv 1 ?_;refine dv 2 ?_;refine dv 3 ?_
  refine wI 4 ((eI false) (eB zs (k))) (iB (f:=(eI false)) (z:=2) (o:=0) (fR false) (dS (by omega)) (Nat.le_of_ble_eq_true rfl) rfl) ?_
  refine bT 5 rfl (Ls ((Zn.of (k:=bX (zs.take (k))) (by have:=oU (k:=k) hz hl;omega))) ((Bo hz (k:=k) (by omega)))) Pv ⟨aR rfl,aR rfl,rfl⟩ (kF (bX (zs.take (k))+(zv (eB zs (k))))) ?_
  refine dst 6 ?_;refine cL ?_;refine rl ?_;refine o1 ?_;refine o1 ?_;refine WL.cast (t:=10) (u':=.int .i64 ((k+1:Nat):Int)) rfl (bQ (by omega)) ?_
  refine o1 ?_;refine nl ?_
  exact⟨k+1,by omega,⟨by omega,trivial⟩,bR h0 [0,1] _ _ (by decide) ⟨rfl,rfl,rfl,rfl,trivial⟩ ⟨oe rfl rfl,oe rfl (congrArg (fun z:Int=>some (⟨26,0,[tv (.bool (aT z)),.t (sU false (dg 4294967296 z.natAbs))]⟩:Ob)) (Bp (by omega))),rfl⟩⟩
 refine ex ?_;refine sq ?_;refine rl ?_;refine ld ?_;refine st ?_;refine nl ?_;refine rt ?_;have hk9:k=zs.length:=by omega
 exact en (.inl rfl) rfl (bM (.agg (.cons (.id rfl) (.cons (.id rfl) .nil)))) (by decide) (fun h=>by cases h) (by rw[hk9,fL (Nat.le_refl _)];rfl)
theorem Fh {a:Zi}(hl:a.x.length≤1000000):aK true Tryd.prog 6 [] [gF a] (aY (gO a)):=by
 refine cX Tryd.func6 rfl Tryd.ntmps6 rfl aB rfl fun N9 w9 c0 h0=>?_
 refine sq ?_;refine rl ?_;refine bx 0 ?_;refine al 1 ?_;refine nl ?_;refine sq ?_;refine rl ?_;refine o1 ?_;refine ld ?_;refine o1 ?_;refine al 2 ?_;refine st ?_;refine nl ?_
 refine sq ?_;refine rl ?_;refine o1 ?_;refine ld ?_;refine o1 ?_;refine ld ?_;refine iM (j:=3) aB rfl rfl rfl rfl .nil .fz (Lg _) (Dn _) rfl (by omega) (by omega) ?_
 refine o1 ?_;refine st ?_;refine nl ?_;refine sq ?_;refine rl ?_;refine ld ?_;refine st ?_;refine nl ?_;refine rt ?_
 exact en (.inl rfl) rfl (bM (.agg (.cons (.id rfl) (.cons (.sl (trs:=aW a.x) rfl rfl (by rw[Nat.zero_add];exact bY _) (by rw[Nat.zero_add];exact bS _)) .nil)))) (by decide) (fun _=>⟨trivial,.inl ⟨rfl,fK _⟩,trivial⟩) (by rw[Nat.zero_add];rfl)
theorem Ma {a b:Zi}(ha:a.x.length≤1000000) (hb:b.x.length≤1000000):aK true Tryd.prog 21 [] [gF a,gF b] (aY (.one (tv (.bool (gI a b))))):=by
 refine cX Tryd.func21 rfl Tryd.ntmps21 rfl aB rfl fun N9 w9 c0 h0=>?_
 refine sq ?_;refine rl ?_;refine bx 0 ?_;refine bx 1 ?_;refine o1 ?_;refine nl ?_;refine sq ?_;refine sq ?_;refine rl ?_;refine o1 ?_;refine ld ?_;refine o1 ?_;refine ld ?_;refine o1 ?_
 refine WL.cast (t:=10) (u':=.bool (!(a.s==b.s))) rfl (congrArg Value.bool rfl) ?_;refine o1 ?_;refine WL.splitb (t:=11) rfl (fun h1=>?_) (fun h1=>?_)
 ·(iterate 7 refine jB ?_);refine o1 ?_;refine nl ?_;refine vT rfl ?_;refine sq ?_;refine rl ?_;refine o1 ?_;refine nl ?_;refine rt ?_;exact pP (.inl rfl) rfl (Hj h1)
 refine o1 ?_;refine ld ?_;refine o1 ?_;refine o1 ?_;refine ld ?_;(iterate 3 refine o1 ?_);refine nl ?_;refine dO rfl (fun h2=>?_) (fun h2=>?_)
 ·refine sq ?_;refine rl ?_;refine o1 ?_;refine nl ?_;refine rt ?_;exact pP (.inl rfl) rfl (Hk (by omega))
 refine sk ?_;refine sq ?_;refine sq ?_;refine rl ?_;refine o1 ?_;refine nl ?_;refine bl ?_
 refine lp (γ:=Nat) (fun k=>cW [(2,.one (.pt 0 0)),(3,.one (.pt 1 0)),(5,.one (tv (.int .i64 ((k:Nat):Int))))]) (fun k=>[(⟨24,0,[tv (.bool a.s),.t (sU false a.x)]⟩:Ob),⟨26,0,[tv (.bool b.s),.t (sU false b.x)]⟩].map some) (fun k=>k≤a.x.length∧a.x.take k=b.x.take k) (fun k=>a.x.length-k) 0 ⟨Nat.zero_le _,rfl⟩ (bR h0 [0,1] _ _ (by decide) ⟨rfl,rfl,rfl,trivial⟩ ⟨oe rfl rfl,oe rfl rfl,rfl⟩) fun k hk=>?_
 refine sq ?_;refine sq ?_;refine rl ?_;refine o1 ?_;refine o1 ?_;refine ld ?_;refine o1 ?_;refine o1 ?_;refine nl ?_;refine dO rfl (fun h3=>?_) (fun h3=>?_)
 ·refine sk ?_;refine sq ?_;refine bl ?_;refine sq ?_;refine rd [0,1] (fun i=>[].contains i) mixed ?_
  refine dv 0 ?_;refine cI 1 ?_;refine dv 2 ?_;refine dv 3 ?_;refine wI 4 ([.v (.int .u32 ((nth a.x (k):Nat):Int))]) (jG a.x (k:=k) (by omega)) ?_
  refine dv 5 ?_;refine cI 6 ?_;refine dv 7 ?_;refine dv 8 ?_;refine wI 9 ([.v (.int .u32 ((nth b.x (k):Nat):Int))]) (jG b.x (k:=k) (by omega)) ?_
  refine dv 10 ?_;refine cL ?_;refine dO rfl (fun h4=>?_) (fun h4=>?_)
  ·refine sq ?_;refine rl ?_;refine o1 ?_;refine nl ?_;refine rt ?_;exact pP (.inl rfl) rfl (Hl (k:=k) (by omega))
  refine sk ?_;refine rl ?_;refine o1 ?_;refine o1 ?_;refine WL.cast (t:=26) (u':=.int .i64 ((k+1:Nat):Int)) rfl (bQ (by omega)) ?_
  refine o1 ?_;refine nl ?_
  exact⟨k+1,by omega,⟨by omega,Dq hk.2 (by omega) (by omega) (by omega)⟩,bR h0 [0,1] _ _ (by decide) ⟨rfl,rfl,rfl,trivial⟩ ⟨oe rfl rfl,oe rfl rfl,rfl⟩⟩
 refine ex ?_;refine sq ?_;refine rl ?_;refine o1 ?_;refine nl ?_;refine rt ?_;exact pP (.inl rfl) rfl (Hm h1 (by omega) hk.2 (by omega))
theorem xJ {a:Zi}(ha:a.x.length≤1000000):aK true Tryd.prog 21 [] [gF a,gF a] (aY (.one (tv (.bool true)))):=yW a▸Ma ha ha
theorem Mb {a:Zi}{k:Int}(ha:Zn a k):aK true Tryd.prog 25 [] [gF a,gF a] (aY (.one (tv (.int .i64 0)))):=by
 have h:=Nw ha.g ha.g (by rw[Int.sub_self];exact Nat.zero_le _)
 rw[Int.sub_self]at h
 exact h
theorem nY {k:Int}(h:k.natAbs<4294967296^4):(dg 4294967296 k.natAbs).length≤4:=bZ (by omega) h
theorem iK {k:Int}(h:k.natAbs<4294967296^4):Zn (.of k) k:=Zn.of (Nat.le_trans (nY h) (by omega))
theorem Eb {a b q r:Int}(ha:a.natAbs<4294967296^4) (hb:b.natAbs<4294967296^4) (h0:b≠0) (hq:a.fdiv b=q) (hr:a.fmod b=r):aK true Tryd.prog 20 [] [kF a,kF b] (aY (.tup [kO q,kO r,.one (tv (.int .i64 0))])):=by
 subst hq hr
 exact Dx (iK ha).g (iK hb).g h0
theorem Oc {a b q:Int}(ha:a.natAbs<4294967296^4) (hb:b.natAbs<4294967296^4) (hq:a*b=q):aK true Tryd.prog 10 [] [kF a,kF b] (aY (kO q)):=by
 subst hq
 exact Nx (iK ha).g (iK hb).g
theorem Fi {a b q:Int}(ha:a.natAbs<4294967296^4) (hb:b.natAbs<4294967296^4) (hq:((Int.gcd a b:Nat):Int)=q):aK true Tryd.prog 13 [] [kF a,kF b] (aY (kO q)):=by
 subst hq
 exact Ny (iK ha).g (iK hb).g
theorem Mc {n k:Nat}(h:4294967296^k≤n):k<(dg 4294967296 n).length:=by
 have h1:=kW (B:=4294967296) (n:=n) (by omega)
 exact(Nat.pow_lt_pow_iff_right (a:=4294967296) (by omega)).1 (Nat.lt_of_le_of_lt h h1)
def wd:List Nat:=[6,1,6,1,5,5,9,0,7,3,7,0,4,4,7,6,4,4,8,1]
theorem Od:dg 10 18446744073709551616=wd:=(Eh (l:=wd) (by omega) (fun d hd=>by revert d;decide) (by decide)).symm.trans (by decide)
theorem Oe:uV (-18446744073709551616)=[45,49,56,52,52,54,55,52,52,48,55,51,55,48,57,53,53,49,54,49,54]:=by
 have e:(-18446744073709551616:Int).natAbs=18446744073709551616:=by decide
 unfold uV tx
 rw[if_pos (by decide),e,if_neg (by decide),Od]
 decide
theorem Of:((bU (uV (-18446744073709551616))).toList==(⟨#[45,49,56,52,52,54,55,52,52,48,55,51,55,48,57,53,53,49,54,49,54]⟩:ByteArray).toList)=true:=by
 rw[Oe]
 exact(Ew (l:=[45,49,56,52,52,54,55,52,52,48,55,51,55,48,57,53,53,49,54,49,54]) (l':=[45,49,56,52,52,54,55,52,52,48,55,51,55,48,57,53,53,49,54,49,54]) (fun d hd=>by revert d;decide) (fun d hd=>by revert d;decide)).trans (decide_eq_true rfl)
theorem Br {zs:List Zi}{k:Nat}(h:k<zs.length):((zs.take k).flatMap (eI false)).map AV.t++(eI false (eB zs k)).map .t=((zs.take (k+1)).flatMap (eI false)).map .t:=by
 rw[List.take_add_one,dS h]
 simp
theorem Fj {zs:List Zi}{k:Nat}(h:k≤zs.length):(((zs.take k).flatMap (eI false)).map AV.t).length=k*2:=by
 rw[List.length_map,lU (fR false),List.length_take,Nat.min_eq_left h]
theorem Ec {zs:List Zi}{k:Nat}(h:k<zs.length):eB zs (zs.length-1-k)=eB zs.reverse k:=by
 have h1:=dS (zs:=zs) (k:=zs.length-1-k) (by omega)
 have h2:=dS (zs:=zs.reverse) (k:=k) (by simpa using h)
 rw[List.getElem?_reverse h,h1]at h2
 exact Option.some.inj h2
theorem Og {zs:List Zi}{k:Nat}(hz:∀a∈zs,Lim 4294967296 a.x) (h:∀j,j<k→decide ((eB zs j).x.length≤30)=true) (hk:zs.length≤k):∀a∈zs,ZL 30 a:=fun a ha=>by
 refine⟨hz a ha,?_⟩
 obtain⟨j,hj⟩:=List.mem_iff_getElem?.1 ha
 have hl:=(List.getElem?_eq_some_iff.1 hj).1
 rw[dS hl]at hj
 injection hj with hj
 have:=of_decide_eq_true (h j (by omega))
 rwa[hj]at this
theorem lV {a:Zi}{k:Int}(ha:a.x.length≤1000000) (hk:Zn a k):aK true Tryd.prog 31 [] [gF a,gF a] (aY (.one (tv (.bool true)))):=by
 refine cX Tryd.func31 rfl Tryd.ntmps31 rfl aB rfl fun N9 w9 c0 h0=>?_
 refine sq ?_;refine rl ?_;refine bx 0 ?_;refine bx 1 ?_;refine o1 ?_;refine nl ?_;refine sq ?_;refine rd [0,1] (fun i=>[10].contains i) mixed ?_
 refine cI 0 ?_;refine cI 1 ?_;refine bT 2 rfl (Fh ha) Ok ⟨aR rfl,rfl⟩ (gF a) ?_;refine bT 3 rfl (xJ ha) Jq ⟨aR rfl,aR rfl,rfl⟩ (.one (tv (.bool true))) ?_;refine df 4 ?_
 refine cI 5 ?_;refine cI 6 ?_;refine bT 7 rfl (Mb hk) Py ⟨aR rfl,aR rfl,rfl⟩ (.one (tv (.int .i64 0))) ?_;refine df 8 ?_
 refine WD.cast (t:=13) (u':=.bool true) rfl (congrArg Value.bool rfl) ?_;refine df 9 ?_;refine tU 10 (by kernel_rfl) rfl rfl aB rfl (by trivial) ?_ (fun h=>by first | rfl | cases h)
 refine cL ?_;refine rt ?_;exact pP (.inl rfl) rfl (rfl)
theorem rC:aK true Tryd.prog 5 [] [] (aY (.one (tv (.bool true)))):=by
 refine cX Tryd.func5 rfl Tryd.ntmps5 rfl aB rfl fun N9 w9 c0 h0=>?_
 refine sq ?_;refine rl ?_;refine o1 ?_;refine nl ?_;refine sq ?_;refine rl ?_;refine ca (eH (n:=(-7)) (by omega) (by omega)) eF ⟨a1 rfl,rfl⟩ (kF (-7)) ?_
 refine ca (eH (n:=2) (by omega) (by omega)) eF ⟨a1 rfl,rfl⟩ (kF 2) ?_
 refine ca (Eb (a:=(-7)) (b:=2) (q:=(-4)) (r:=1) (by decide) (by decide) (by decide) (by decide) (by decide)) Cu ⟨aR rfl,aR rfl,rfl⟩ (.tup [kF (-4),kF 1,.one (tv (.int .i64 0))]) ?_
 (iterate 4 refine o1 ?_);refine al 0 ?_;refine al 1 ?_;refine st ?_;refine st ?_;refine o1 ?_;refine nl ?_;refine sq ?_;refine rl ?_
 refine ca (eH (n:=7) (by omega) (by omega)) eF ⟨a1 rfl,rfl⟩ (kF 7) ?_
 refine ca (eH (n:=(-2)) (by omega) (by omega)) eF ⟨a1 rfl,rfl⟩ (kF (-2)) ?_
 refine ca (Eb (a:=7) (b:=(-2)) (q:=(-4)) (r:=(-1)) (by decide) (by decide) (by decide) (by decide) (by decide)) Cu ⟨aR rfl,aR rfl,rfl⟩ (.tup [kF (-4),kF (-1),.one (tv (.int .i64 0))]) ?_
 (iterate 4 refine o1 ?_);refine al 2 ?_;refine al 3 ?_;refine st ?_;refine st ?_;refine o1 ?_;refine nl ?_;refine sq ?_;refine rl ?_
 refine ca (eH (n:=(-7)) (by omega) (by omega)) eF ⟨a1 rfl,rfl⟩ (kF (-7)) ?_
 refine ca (eH (n:=(-2)) (by omega) (by omega)) eF ⟨a1 rfl,rfl⟩ (kF (-2)) ?_
 refine ca (Eb (a:=(-7)) (b:=(-2)) (q:=3) (r:=(-1)) (by decide) (by decide) (by decide) (by decide) (by decide)) Cu ⟨aR rfl,aR rfl,rfl⟩ (.tup [kF 3,kF (-1),.one (tv (.int .i64 0))]) ?_
 (iterate 4 refine o1 ?_);refine al 4 ?_;refine al 5 ?_;refine st ?_;refine st ?_;refine o1 ?_;refine nl ?_;refine sq ?_;refine rl ?_
 refine ca (eH (n:=(-4294967296)) (by omega) (by omega)) eF ⟨a1 rfl,rfl⟩ (kF (-4294967296)) ?_
 refine ca (eH (n:=4294967296) (by omega) (by omega)) eF ⟨a1 rfl,rfl⟩ (kF 4294967296) ?_
 refine ca (Oc (a:=(-4294967296)) (b:=4294967296) (q:=(-18446744073709551616)) (by decide) (by decide) (by decide)) Pu ⟨aR rfl,aR rfl,rfl⟩ (kF (-18446744073709551616)) ?_
 refine al 6 ?_;refine st ?_;refine nl ?_;refine sq ?_;refine rl ?_;refine ld ?_
 refine ca (Ho (a:=.of (-18446744073709551616)) (k:=(-18446744073709551616)) (iK (by decide)) (Mc (by decide))) Qb ⟨aR rfl,rfl⟩ (.tup [.one (tv (.int .i64 0)),.one (tv (.bool false))]) ?_
 (iterate 5 refine o1 ?_);refine nl ?_;refine sq ?_;refine rd [0,1,2,3,4,5,6] (fun i=>[67].contains i) mixed ?_
 refine dv 0 ?_;refine dv 1 ?_;refine WD.cast (t:=43) (u':=.bool true) rfl (congrArg Value.bool rfl) ?_;refine dv 2 ?_;refine dv 3 ?_;refine dv 4 ?_
 refine WD.cast (t:=46) (u':=.bool true) rfl (congrArg Value.bool rfl) ?_;refine dv 5 ?_;refine dv 6 ?_;refine dv 7 ?_;refine dv 8 ?_
 refine WD.cast (t:=50) (u':=.bool true) rfl (congrArg Value.bool rfl) ?_;refine dv 9 ?_;refine dv 10 ?_;refine cI 11 ?_
 refine bT 12 rfl (eH (n:=(-4)) (by omega) (by omega)) eF ⟨a1 rfl,rfl⟩ (kF (-4)) ?_
 refine bT 13 rfl (lV (a:=.of (-4)) (k:=(-4)) (Nat.le_trans (nY (by decide)) (by omega)) (iK (by decide))) lN ⟨aR rfl,aR rfl,rfl⟩ (.one (tv (.bool true))) ?_
 refine df 14 ?_;refine df 15 ?_;refine cI 16 ?_;refine bT 17 rfl (eH (n:=1) (by omega) (by omega)) eF ⟨a1 rfl,rfl⟩ (kF 1) ?_
 refine bT 18 rfl (lV (a:=.of 1) (k:=1) (Nat.le_trans (nY (by decide)) (by omega)) (iK (by decide))) lN ⟨aR rfl,aR rfl,rfl⟩ (.one (tv (.bool true))) ?_
 refine df 19 ?_;refine df 20 ?_;refine cI 21 ?_;refine bT 22 rfl (eH (n:=(-4)) (by omega) (by omega)) eF ⟨a1 rfl,rfl⟩ (kF (-4)) ?_
 refine bT 23 rfl (lV (a:=.of (-4)) (k:=(-4)) (Nat.le_trans (nY (by decide)) (by omega)) (iK (by decide))) lN ⟨aR rfl,aR rfl,rfl⟩ (.one (tv (.bool true))) ?_
 refine df 24 ?_;refine df 25 ?_;refine cI 26 ?_;refine bT 27 rfl (eH (n:=(-1)) (by omega) (by omega)) eF ⟨a1 rfl,rfl⟩ (kF (-1)) ?_
 refine bT 28 rfl (lV (a:=.of (-1)) (k:=(-1)) (Nat.le_trans (nY (by decide)) (by omega)) (iK (by decide))) lN ⟨aR rfl,aR rfl,rfl⟩ (.one (tv (.bool true))) ?_
 refine df 29 ?_;refine df 30 ?_;refine cI 31 ?_;refine bT 32 rfl (eH (n:=3) (by omega) (by omega)) eF ⟨a1 rfl,rfl⟩ (kF 3) ?_
 refine bT 33 rfl (lV (a:=.of 3) (k:=3) (Nat.le_trans (nY (by decide)) (by omega)) (iK (by decide))) lN ⟨aR rfl,aR rfl,rfl⟩ (.one (tv (.bool true))) ?_
 refine df 34 ?_;refine df 35 ?_;refine cI 36 ?_;refine bT 37 rfl (eH (n:=(-1)) (by omega) (by omega)) eF ⟨a1 rfl,rfl⟩ (kF (-1)) ?_
 refine bT 38 rfl (lV (a:=.of (-1)) (k:=(-1)) (Nat.le_trans (nY (by decide)) (by omega)) (iK (by decide))) lN ⟨aR rfl,aR rfl,rfl⟩ (.one (tv (.bool true))) ?_
 refine df 39 ?_;refine df 40 ?_;refine bT 41 rfl (eH (n:=(-12)) (by omega) (by omega)) eF ⟨a1 rfl,rfl⟩ (kF (-12)) ?_
 refine bT 42 rfl (eH (n:=18) (by omega) (by omega)) eF ⟨a1 rfl,rfl⟩ (kF 18) ?_
 refine bT 43 rfl (Fi (a:=(-12)) (b:=18) (q:=6) (by decide) (by decide) (by decide)) Jp ⟨aR rfl,aR rfl,rfl⟩ (kF 6) ?_
 refine bT 44 rfl (eH (n:=6) (by omega) (by omega)) eF ⟨a1 rfl,rfl⟩ (kF 6) ?_
 refine bT 45 rfl (lV (a:=.of 6) (k:=6) (Nat.le_trans (nY (by decide)) (by omega)) (iK (by decide))) lN ⟨aR rfl,aR rfl,rfl⟩ (.one (tv (.bool true))) ?_
 refine df 46 ?_;refine df 47 ?_;refine bT 48 rfl (eH (n:=0) (by omega) (by omega)) eF ⟨a1 rfl,rfl⟩ (kF 0) ?_
 refine bT 49 rfl (eH (n:=(-5)) (by omega) (by omega)) eF ⟨a1 rfl,rfl⟩ (kF (-5)) ?_
 refine bT 50 rfl (Fi (a:=0) (b:=(-5)) (q:=5) (by decide) (by decide) (by decide)) Jp ⟨aR rfl,aR rfl,rfl⟩ (kF 5) ?_
 refine bT 51 rfl (eH (n:=5) (by omega) (by omega)) eF ⟨a1 rfl,rfl⟩ (kF 5) ?_
 refine bT 52 rfl (lV (a:=.of 5) (k:=5) (Nat.le_trans (nY (by decide)) (by omega)) (iK (by decide))) lN ⟨aR rfl,aR rfl,rfl⟩ (.one (tv (.bool true))) ?_
 refine df 53 ?_;refine df 54 ?_;refine cI 55 ?_
 refine bT 56 rfl (Oa (a:=.of (-18446744073709551616)) (k:=(-18446744073709551616)) (iK (by decide)) (Nat.le_trans (nY (by decide)) (by omega))) Qc ⟨aR rfl,rfl⟩ (.one (tv (.string (bU (uV (-18446744073709551616)))))) ?_
 refine df 57 ?_;refine WD.cast (t:=99) (u':=.bool true) rfl (congrArg Value.bool Of) ?_;refine df 58 ?_;refine df 59 ?_;refine dv 60 ?_;refine dv 61 ?_
 refine WD.cast (t:=103) (u':=.bool true) rfl (congrArg Value.bool rfl) ?_;refine df 62 ?_;refine df 63 ?_;refine dv 64 ?_;refine dv 65 ?_;refine df 66 ?_
 refine tU 67 (by kernel_rfl) rfl rfl aB rfl (by trivial) ?_ (fun h=>by first | rfl | cases h)
 refine cL ?_;refine rt ?_;exact pP (.inl rfl) rfl (rfl)
theorem Md {zs:List Zi}(hz:∀a∈zs,ZL 30 a) (hl:zs.length≤10):aK false Tryd.prog 29 [] [.one (.t (.s false 24 2 zs.length (zs.reverse.flatMap (eI false))))] (aY (kF (bX zs))):=by
 have h:=yX (zs:=zs.reverse) (fun a ha=>hz a (List.mem_reverse.1 ha)) (by rw[List.length_reverse];exact hl)
 rw[Ea,show sZ 24 zs.reverse=.s false 24 2 zs.length (zs.reverse.flatMap (eI false)) by rw[sZ,List.length_reverse]]at h
 exact h
theorem Bs {zs:List Zi}(hz:∀a∈zs,Lim 4294967296 a.x):aK true Tryd.prog 4 [] [.one (.t (sZ 24 zs))] (aY (.one (tv (.bool true)))):=by
 refine cX Tryd.func4 rfl Tryd.ntmps4 rfl aB rfl fun N9 w9 c0 h0=>?_
 refine sq ?_;refine rl ?_;refine o1 ?_;refine nl ?_;refine sq ?_;refine sq ?_;refine rl ?_;(iterate 3 refine o1 ?_);refine nl ?_;refine dO rfl (fun h1=>?_) (fun h1=>?_)
 ·refine sq ?_;refine rl ?_;refine ca (rC) Jo rfl (.one (tv (.bool true))) ?_;refine o1 ?_;refine nl ?_;refine rt ?_;exact pP (.inl rfl) rfl (rfl)
 refine sk ?_;refine sq ?_;refine rl ?_;refine o1 ?_;refine nl ?_;refine sq ?_;refine rl ?_;refine o1 ?_;refine nl ?_;refine sq ?_;refine sq ?_;refine rl ?_;refine o1 ?_;refine nl ?_
 refine bl ?_;have hl:zs.length≤10:=by omega
 refine lp (γ:=Nat) (fun k=>cW [(0,.one (.t (sZ 24 zs))),(3,.one (.sl 0 0 k)),(4,.one (.sl 1 0 k)),(5,.one (tv (.int .i64 ((k:Nat):Int))))]) (fun k=>[(⟨26,2,((zs.take (k)).flatMap (eI false)).map .t⟩:Ob),⟨24,2,((zs.reverse.take (k)).flatMap (eI false)).map .t⟩].map some) (fun k=>k≤zs.length∧∀j,j<k→decide ((eB zs j).x.length≤30)=true) (fun k=>zs.length-k) 0 ⟨Nat.zero_le _,f0⟩ (((nr (i:=3) 0 26 2 rfl rfl rfl rfl).trans (nr (i:=4) 1 24 2 rfl rfl rfl rfl)).trans (bR h0 [0,1] _ _ (by decide) ⟨rfl,rfl,rfl,rfl,trivial⟩ ⟨dD (l:=[]) rfl,dD (l:=[]) rfl,rfl⟩)) fun k hk=>?_
 refine sq ?_;refine sq ?_;refine rl ?_;(iterate 4 refine o1 ?_);refine nl ?_;refine dO rfl (fun h2=>?_) (fun h2=>?_)
 ·refine sk ?_;refine sq ?_;refine bl ?_;refine sq ?_;refine sq ?_;refine rl ?_;(iterate 4 refine o1 ?_)
  refine lZ ([sU false (eB zs (k)).x]) (iB (f:=(eI false)) (z:=2) (o:=1) (fR false) (dS (by omega)) (Nat.le_of_ble_eq_true rfl) rfl) ?_
  refine o1 ?_;refine o1 ?_;refine nl ?_;refine dO rfl (fun h3=>?_) (fun h3=>?_)
  ·refine sq ?_;refine rl ?_;refine ca (rC) Jo rfl (.one (tv (.bool true))) ?_;refine o1 ?_;refine nl ?_;refine rt ?_;exact pP (.inl rfl) rfl (rfl)
  refine sk ?_;refine sq ?_;refine rl ?_;(iterate 4 refine o1 ?_)
  refine lZ ((eI false) (eB zs (k))) (iB (f:=(eI false)) (z:=2) (o:=0) (fR false) (dS (by omega)) (Nat.le_of_ble_eq_true rfl) rfl) ?_
  refine ca (Fh (a:=(eB zs (k))) (by omega)) Ok ⟨aR rfl,rfl⟩ (gF (eB zs (k))) ?_
  refine bs 2 ?_;refine iM (j:=3) (n:=k) (m:=1) aB rfl rfl rfl rfl (.sl rfl (Fj (zs:=zs) (by omega))) (.sl rfl rfl rfl) rfl rfl rfl (by omega) (by omega) ?_
  refine o1 ?_;refine nl ?_;refine rl ?_;(iterate 5 refine o1 ?_);refine WL.cast (t:=36) (u':=.int .i64 ((zs.length-1:Nat):Int)) rfl (bQ (by omega)) ?_
  refine o1 ?_;refine o1 ?_;refine WL.cast (t:=38) (u':=.int .i64 ((zs.length-1-k:Nat):Int)) rfl (bQ (by omega)) ?_
  refine o1 ?_;refine lZ ((eI false) (eB zs (zs.length-1-k))) (iB (f:=(eI false)) (z:=2) (o:=0) (fR false) (dS (by omega)) (Nat.le_of_ble_eq_true rfl) rfl) ?_
  refine bs 4 ?_
  refine iM (j:=5) (n:=k) (m:=1) aB rfl rfl rfl rfl (.sl rfl (Fj (zs:=zs.reverse) (by rw[List.length_reverse];omega))) (.sl rfl rfl rfl) rfl rfl rfl (by omega) (by omega) ?_
  refine o1 ?_;refine nl ?_;refine rl ?_;refine o1 ?_;refine o1 ?_;refine WL.cast (t:=15) (u':=.int .i64 ((k+1:Nat):Int)) rfl (bQ (by omega)) ?_
  refine o1 ?_;refine nl ?_
  exact⟨k+1,by omega,⟨by omega,Ni (f:=fun j=>decide ((eB zs j).x.length≤30)) hk.2 (decide_eq_true (by omega))⟩,bR h0 [3,5] _ _ (by decide) ⟨rfl,rfl,rfl,rfl,trivial⟩ ⟨dD (congrArg (fun l:List AV=>some (⟨26,2,l⟩:Ob)) (Br (by omega))),dD (congrArg (fun l:List AV=>some (⟨24,2,l⟩:Ob)) (Ec (zs:=zs) (k:=k) (by omega)▸Br (by rw[List.length_reverse];omega))),rfl⟩⟩
 refine ex ?_;refine sq ?_;refine rl ?_;have hk9:k=zs.length:=by omega
 subst hk9;have hzz:=Og hz hk.2 (Nat.le_refl _)
 have hsl:=oU (k:=zs.length) hzz hl
 rw[fL (Nat.le_refl _)]at hsl
 refine WL.sub (fz (i:=3) (k:=0) (t:=26) (z:=2) (n:=zs.length) (l:=zs.flatMap (eI false)) rfl rfl (congrArg (fun l:List Zi=>some (⟨26,2,(l.flatMap (eI false)).map .t⟩:Ob)) (fL (l:=zs) (by simp))) (lU (fR false) zs)) ?_
 refine WL.sub (fz (i:=4) (k:=1) (t:=24) (z:=2) (n:=zs.length) (l:=zs.reverse.flatMap (eI false)) rfl rfl (congrArg (fun l:List Zi=>some (⟨24,2,(l.flatMap (eI false)).map .t⟩:Ob)) (fL (l:=zs.reverse) (by simp))) ((lU (fR false) zs.reverse).trans (by rw[List.length_reverse]))) ?_
 refine o1 ?_;refine ca (yX hzz hl) Cv ⟨a1 rfl,rfl⟩ (kF (bX zs)) ?_;refine o1 ?_;refine ca (Lz hzz hl) Qa ⟨a1 rfl,rfl⟩ (kF (bX zs)) ?_
 refine ca (xJ (a:=.of (bX zs)) (show(dg 4294967296 (bX zs).natAbs).length≤1000000 by omega)) Jq ⟨aR rfl,aR rfl,rfl⟩ (.one (tv (.bool true))) ?_
 refine o1 ?_;refine o1 ?_;refine ca (Md hzz hl) Cv ⟨a1 rfl,rfl⟩ (kF (bX zs)) ?_;refine o1 ?_;refine ca (yX hzz hl) Cv ⟨a1 rfl,rfl⟩ (kF (bX zs)) ?_
 refine ca (lV (a:=.of (bX zs)) (k:=bX zs) (show(dg 4294967296 (bX zs).natAbs).length≤1000000 by omega) (Zn.of (by omega))) lN ⟨aR rfl,aR rfl,rfl⟩ (.one (tv (.bool true))) ?_
 refine o1 ?_;refine o1 ?_;refine ca (rC) Jo rfl (.one (tv (.bool true))) ?_;refine o1 ?_;refine o1 ?_;refine nl ?_;refine rt ?_;exact pP (.inl rfl) rfl (rfl)
end Go.Proofs.YtecamoobdlghfaaDoor
namespace Go.Proofs.YtecamoobdlghfaaDoor
open Go Go.RowKit Go.ChangeShapes
def Reads (P:Program) (t:TypeId) (z:Nat) (T:List Tr→Prop):Prop:=
 P.cellsOf t=z∧∀(H:Type) (enc:TypeId×Value→H) (w:World) (fuel:Nat) (cs:List Value) (x:DataW H×List MemPlace),DataW.trod enc P w 0 (fun _=>true) true fuel t cs=some x→∃l,T l∧l.length=z∧FRL w (rX w) l cs
theorem xK {W:World}{N:Nat→Prop}:∀{l l':List Tr}{us us':List Value},FRL W N l us→FRL W N l' us'→FRL W N (l++l') (us++us')
 | [],l',us,us',h,h'=>by simp only[FRL]at h;subst h;exact h'
 | x::l,l',u::us,us',h,h'=>by simp only[FRL,List.cons_append]at*;exact⟨h.1,xK h.2 h'⟩
 | _::_,_,[],_,h,_=>by simp only[FRL]at h
theorem xL {W:World}{N:Nat→Prop}:∀{l:List Tr}{us:List Value}{j:Nat}{x:Tr},FRL W N l us→l[j]? =some x→∃u,us[j]? =some u∧FR W N x u
 | [],_,_,_,_,h=>by simp at h
 | y::l,u::us,0,x,h,e=>by
  simp only[FRL]at h
  simp at e
  subst e
  exact⟨u,rfl,h.1⟩
 | y::l,u::us,j+1,x,h,e=>by
  simp only[FRL]at h
  exact xL (j:=j) h.2 (by simpa using e)
 | _::_,[],_,_,h,_=>by simp only[FRL]at h
section
variable {P:Program}{t e:TypeId}{k:IntKind}{z:Nat}{T T':List Tr→Prop}
theorem Reads.mono (h:Reads P t z T) (hi:∀l,T l→T' l):Reads P t z T':=⟨h.1,fun H enc w fuel cs x hx=>let ⟨l,a,b⟩:=h.2 H enc w fuel cs x hx;⟨l,hi l a,b⟩⟩
theorem Hp (ht:P.underlying t=some .bool) (hz:P.cellsOf t=1):Reads P t 1 (fun l=>∃b,l=[.v (.bool b)]):=⟨hz,fun H enc w fuel cs x hx=>by
 obtain⟨b,rfl,_⟩:=DataW.trod_bool ht hx
 exact⟨_,⟨b,rfl⟩,rfl,by simp[FRL,FR]⟩⟩
theorem Me (ht:P.underlying t=some (.int k)) (hz:P.cellsOf t=1):Reads P t 1 (fun l=>∃n,l=[.v (.int k n)]∧k.min≤n∧n≤k.max):=⟨hz,fun H enc w fuel cs x hx=>by
 obtain⟨n,rfl,_,h⟩:=DataW.trod_int ht hx
 simp only[Lit.wf,Bool.and_eq_true,decide_eq_true_eq]at h
 exact⟨_,⟨n,rfl,h⟩,rfl,by simp[FRL,FR]⟩⟩
inductive Flds (P:Program):Nat→List Field→Nat→(List Tr→Prop)→Prop
 | nil {o:Nat}:Flds P o [] 0 (· =[])
 | cons {o z z':Nat}{f:Field}{fs:List Field}{T T':List Tr→Prop}(ho:f.offset=o) (h:Reads P f.type z T) (h':Flds P (o+z) fs z' T'):Flds P o (f::fs) (z+z') (fun l=>∃a b,l=a++b∧T a∧T' b)
theorem Flds.read {H:Type}{enc:TypeId×Value→H}{w:World}{n o:Nat}{fs:List Field}(h:Flds P o fs z T):∀{cs:List Value},o+z≤cs.length→(∀f∈fs,∃x,DataW.trod enc P w 0 (fun _=>true) true n f.type ((cs.drop f.offset).take (P.cellsOf f.type))=some x)→∃l,T l∧l.length=z∧FRL w (rX w) l ((cs.drop o).take z):=by
 induction h with
 | nil=>exact fun _ _=>⟨[],rfl,rfl,by simp[FRL]⟩
 | @cons o z z' f fs T T' ho hr _ ih=>
  intro cs hl hf
  obtain⟨b,h1,h2,h3⟩:=ih (cs:=cs) (by omega) fun f hm=>hf f (List.mem_cons_of_mem _ hm)
  obtain⟨x,hx⟩:=hf f List.mem_cons_self
  obtain⟨a,g1,g2,g3⟩:=hr.2 H enc w n _ x hx
  rw[ho,hr.1]at g3
  refine⟨a++b,⟨a,b,rfl,g1,h1⟩,by simp[g2,h2],?_⟩
  rw[List.take_add,List.drop_drop]
  exact xK g3 h3
theorem Bt {fs:List Field}{z':Nat}(ht:P.underlying t=some (.struct fs.toArray)) (hz:P.cellsOf t=z) (h:Flds P 0 fs z' T) (e:z'=z:=by rfl):Reads P t z T:=⟨hz,fun H enc w fuel cs x hx=>by
 subst e
 obtain⟨xs,n,_,rfl,hl,hlen,hf⟩:=DataW.trod_struct ht hx
 rw[hz]at hl
 obtain⟨l,h1,h2,h3⟩:=h.read (H:=H) (enc:=enc) (w:=w) (n:=n) (cs:=cs) (by omega) fun f hm=>by
  obtain⟨i,hi⟩:=List.mem_iff_getElem?.1 hm
  have h1:=hf i f (by simpa using hi)
  have h2:i<xs.length:=by
   have:=(List.getElem?_eq_some_iff.1 hi).1
   simp at hlen
   omega
  rw[List.getElem?_eq_getElem h2]at h1
  exact⟨_,h1⟩
 refine⟨l,h1,h2,?_⟩
 rw[List.drop_zero,List.take_of_length_le (by omega)]at h3
 exact h3⟩
theorem uW (ht:P.underlying t=some (.slice e)) (hz:P.cellsOf t=1) (hz0:0<z) (h:Reads P e z T):Reads P t 1 (fun l=>∃rows:List (List Tr),(∀r∈rows,T r∧r.length=z)∧l=[.s false e z rows.length rows.flatten]):=⟨hz,fun H enc w fuel cs x hx=>by
 have hlen:∀(rows:List (List Tr)),(∀r∈rows,T r∧r.length=z)→rows.flatten.length=rows.length*z:=by
  intro rows
  induction rows with
  | nil=>intro _;simp
  | cons r rows ih=>
   intro hr
   rw[List.flatten_cons,List.length_append,(hr r List.mem_cons_self).2,ih fun r hm=>hr r (List.mem_cons_of_mem _ hm),List.length_cons,Nat.succ_mul,Nat.add_comm]
 rcases Deep.open_slice ht hx with⟨rfl,_⟩ | ⟨a,len,cap,m,n,D,Pl,rfl,_,hl,hm,hmm,_,hel⟩
 ·refine⟨_,⟨[],fun _ h=>(by cases h),rfl⟩,rfl,?_⟩
  simp only[FRL,FR,and_true]
  exact⟨none,0,rfl,Nat.le_refl _,by omega,by simp,.inl rfl⟩
 have hmc:m=cap:=by simpa using hmm
 rw[h.1]at hel
 have hex:∀i:Nat,∃l:List Tr,i<len→T l∧l.length=z∧∀j y,l[j]? =some y→∃u,w.cell? ((a.add (i*z)).add j)=some u∧FR w (rX w) y u:=fun i=>by
  by_cases hi:i<len
  ·obtain⟨cs',h1,h2⟩:=hel i (by omega)
   obtain⟨l,g1,g2,g3⟩:=h.2 H enc w n cs' _ h2
   obtain⟨_,h3,h4⟩:=World.cells?_some h1
   refine⟨l,fun _=>⟨g1,g2,fun j y hj=>?_⟩⟩
   obtain⟨u,hu,hy⟩:=xL g3 hj
   have hjl:=(List.getElem?_eq_some_iff.1 hj).1
   exact⟨u,by rw[h4 j (by omega),hu],hy⟩
  exact⟨[],fun h=>absurd h hi⟩
 have hF:=fun i=>Classical.choose_spec (hex i)
 have hrow:∀r∈(List.range len).map (fun i=>Classical.choose (hex i)),T r∧r.length=z:=fun r hr=>by
  obtain⟨i,hi,rfl⟩:=List.mem_map.1 hr
  have:=hF i (List.mem_range.1 hi)
  exact⟨this.1,this.2.1⟩
 refine⟨_,⟨_,hrow,rfl⟩,rfl,?_⟩
 have h5:=hlen _ hrow
 simp only[FRL,and_true,FR]
 refine⟨some a,cap,by simp,by simpa using hl,by unfold maxLen at hm;omega,h5,?_⟩
 rcases Nat.eq_zero_or_pos len with h0 | h0
 ·exact .inl (by simp[h0])
 refine .inr ⟨a,rfl,?_,mG fun j y hj=>?_⟩
 ·obtain⟨_,g2,g3⟩:=hF 0 h0
  obtain⟨u,hu,_⟩:=g3 0 _ (List.getElem?_eq_getElem (by omega))
  have:=World.block_lt_of_cell? w ((a.add (0*z)).add 0) hu
  rwa[dM,dM]at this
 have hjl:=(List.getElem?_eq_some_iff.1 hj).1
 rw[h5,List.length_map,List.length_range]at hjl
 have hi:j/z<len:=Nat.div_lt_of_lt_mul (by rw[Nat.mul_comm];exact hjl)
 obtain⟨_,g2,g3⟩:=hF (j/z) hi
 have hz1:=Nat.mod_lt j hz0
 have hget:∀(rows:List (List Tr)),(∀r∈rows,T r∧r.length=z)→∀(i o:Nat) (r:List Tr),rows[i]? =some r→o<z→rows.flatten[i*z+o]? =r[o]? :=by
  intro rows
  induction rows with
  | nil=>intro _ i o r h;simp at h
  | cons r rows ih=>
   intro hr i o r' hi ho
   have hrl:=(hr r List.mem_cons_self).2
   cases i with
   | zero=>
    simp at hi
    subst hi
    rw[Nat.zero_mul,Nat.zero_add,List.flatten_cons,List.getElem?_append_left (by omega)]
   | succ i=>
    rw[List.flatten_cons,List.getElem?_append_right (by rw[Nat.succ_mul];omega),hrl,show(i+1)*z+o-z=i*z+o by rw[Nat.succ_mul];omega]
    exact ih (fun r hm=>hr r (List.mem_cons_of_mem _ hm)) i o r' (by simpa using hi) ho
 have hd:=Nat.div_add_mod j z
 rw[Nat.mul_comm]at hd
 rw[←hd,hget _ hrow (j/z) (j%z) (Classical.choose (hex (j/z))) (by simp[hi]) hz1]at hj
 obtain⟨u,hu,hy⟩:=g3 _ _ hj
 refine⟨u,?_,hy⟩
 rw[Nat.zero_add]
 have e2:(a.add (j/z*z)).add (j%z)=a.add j:=by rw[jY,hd]
 rwa[e2]at hu⟩
theorem rD {α:Type}(f:α→List Tr) (Q:α→Prop):∀{rows:List (List Tr)},(∀r∈rows,∃a,Q a∧r=f a)→∃xs:List α,(∀a∈xs,Q a)∧rows.flatten=xs.flatMap f∧rows.length=xs.length
 | [],_=>⟨[],fun _ h=>(by cases h),rfl,rfl⟩
 | r::rows,h=>by
  obtain⟨a,h1,rfl⟩:=h r List.mem_cons_self
  obtain⟨xs,h2,h3,h4⟩:=rD f Q fun r hm=>h r (List.mem_cons_of_mem _ hm)
  exact⟨a::xs,fun b hb=>(List.mem_cons.1 hb).elim (fun e=>e▸h1) (h2 b),by simp[h3],by simp[h4]⟩
theorem Ed (ht:P.underlying t=some (.slice e)) (he:P.underlying e=some (.int .u32)) (hz:P.cellsOf t=1) (hze:P.cellsOf e=1) (hn:e=70):Reads P t 1 (fun l=>∃xs:List Nat,Lim 4294967296 xs∧l=[sU false xs]):=
 (uW ht hz (by omega) (Me he hze)).mono fun l ⟨rows,h1,h2⟩=>by
  obtain⟨xs,h3,h4,h5⟩:=rD (fun n:Nat=>[Tr.v (.int .u32 (n:Int))]) (fun n=>n<4294967296) (rows:=rows) fun r hr=>by
   obtain⟨⟨n,rfl,h1,h2⟩,_⟩:=h1 r hr
   have e1:IntKind.u32.min=0:=rfl
   have e2:IntKind.u32.max=4294967295:=rfl
   rw[e1]at h1
   rw[e2]at h2
   exact⟨n.toNat,by omega,by rw[Int.toNat_of_nonneg h1]⟩
  refine⟨xs,h3,?_⟩
  rw[h2,h4,h5,sU,hn]
  have:∀xs:List Nat,xs.flatMap (fun n:Nat=>[Tr.v (.int .u32 (n:Int))])=aW xs:=by
   intro xs
   induction xs with
   | nil=>rfl
   | cons n xs ih=>rw[List.flatMap_cons,ih];rfl
  rw[this]
theorem Hq (hb:Reads P t z (fun l=>∃a b,l=a++b∧(∃s,a=[.v (.bool s)])∧∃b' c',b=b'++c'∧(∃xs:List Nat,Lim 4294967296 xs∧b'=[sU false xs])∧c'=[])):Reads P t z (fun l=>∃(s:Bool) (xs:List Nat),Lim 4294967296 xs∧l=[.v (.bool s),sU false xs]):=
 hb.mono fun l ⟨a,b,h1,⟨s,h2⟩,b',c',h3,⟨xs,h4,h5⟩,h6⟩=>⟨s,xs,h4,by rw[h1,h2,h3,h5,h6];rfl⟩
end
def LimF (a:Fr4):Prop:=Lim 4294967296 a.x∧Lim 4294967296 a.y
theorem LimF.ok {a:Fr4}(h:LimF a) (h2:a.x.length≤6∧a.y.length≤6):a.ok:=⟨h.1,h.2,by omega,by omega⟩
end Go.Proofs.YtecamoobdlghfaaDoor
namespace Go.Proofs.YtecamoobdlghfaaDoor
open Go Go.ChangeShapes Go.WideShapes Go.ChangeAt Go.RowKit
theorem Mf:Tryd.prog.cellsOf 24=2:=by kernel_rfl
theorem Hr:Tryd.prog.cellsOf 4=1:=by kernel_rfl
theorem Mg:Tryd.prog.cellsOf 70=1:=by kernel_rfl
theorem Ee:Tryd.prog.cellsOf 22=1:=by kernel_rfl
theorem Ht:Tryd.prog.cellsOf 33=1:=by kernel_rfl
theorem Mh:Reads Tryd.prog 24 2 (fun l=>∃a:Zi,Lim 4294967296 a.x∧l=eI false a):=by
 have h1:=Hp Tryd.underlying4 Hr
 have h2:=Ed Tryd.underlying22 Tryd.underlying70 Ee Mg rfl
 have h3:=Bt Tryd.underlying24 Mf (.cons rfl h1 (.cons rfl h2 .nil))
 exact(Hq h3).mono fun l ⟨s,xs,h4,h5⟩=>⟨⟨s,xs⟩,h4,h5⟩
theorem Hu:Reads Tryd.prog 33 1 (fun l=>∃xs:List Zi,(∀x∈xs,Lim 4294967296 x.x)∧l=[sZ 24 xs]):=
 (uW Tryd.underlying33 Ht (by omega) Mh).mono fun l ⟨rows,h1,h2⟩=>by
  obtain⟨xs,h3,h4,h5⟩:=rD (eI false) (fun a:Zi=>Lim 4294967296 a.x) (rows:=rows) fun r hr=>(h1 r hr).1
  exact⟨xs,h3,by rw[h2,h4,h5];rfl⟩
theorem Mi {W:World}{y:Tr}{u:Value}(hu:u.cells.toList=[u]) (h:FRL W (rX W) [y] u.cells.toList):aP W (rX W) [] (.one (.t y)) u:=by
 rw[hu]at h
 simp only[FRL,and_true]at h
 simpa only[aP,AR]using h
end Go.Proofs.YtecamoobdlghfaaDoor
