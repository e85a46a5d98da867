/- Part 5 of a proof: Ta to Nat5. -/
import Derived.Test.YteggpgndiajdpaaDoorM4
import Derived.Lib.ConvBytes
import Derived.Lib.SmallJoins
import Derived.Stop.IfaceNil
import Derived.Test.YteggpgndiajdpaaDoorProg
import Derived.WalkKit
import Derived.WalkSpells
import Derived.WalkLawsBesides
import Derived.Deep.QuietTactic
import Derived.BigQuiet
import Derived.Test.YteggpgndiajdpaaDoorM1
import Derived.Lib.SliceRun
import Derived.KernelRfl
import Derived.Deep.RegionWith
import Derived.Lib.AppendZeros
import Derived.Deep.RegionHeld3
import Derived.Shelf.Small.Bits
set_option maxRecDepth 100000
set_option linter.unusedVariables false
set_option linter.unusedSimpArgs false
namespace Go.Proofs.YteggpgndiajdpaaDoor
open Go Go.RowKit
theorem iZ (l:List Nat) (i:Nat):(aT l).extract i (aT l).size=aT (l.drop i):=by
 rw[lC,bF,List.take_of_length_le (Nat.le_refl _)]
theorem jA {l:List Nat}(h:Lim 256 l):((aT l).toList==(⟨#[]⟩:ByteArray).toList)=decide (l=[]):=xE (l':=[]) h Lim.nil
theorem vL {B:Nat}{l:List Nat}{k:Nat}(h:Lim B l) (hk:k<l.length):nth l k<B:=by
 rw[aS hk]
 exact h _ (List.getElem_mem hk)
theorem mU {B:Nat}{l:List Nat}(h:Lim B l) (k:Nat):Lim B (l.drop k):=fun x hx=>h x (List.mem_of_mem_drop hx)
theorem vM {B:Nat}{l:List Nat}(h:Lim B l):Lim B l.reverse:=fun x hx=>h x (List.mem_reverse.1 hx)
theorem zH {l:List Nat}{c:Nat}(h1:0<l.length) (h2:nth l 0=c):(l.drop 1).dropWhile (· ==c)=l.dropWhile (· ==c):=by
 cases l with
 | nil=>simp at h1
 | cons x l=>
  have:x=c:=h2
  simp[this]
theorem xI {l:List Nat}{c:Nat}(h1:l.length=0):l=l.dropWhile (· ==c):=by
 rw[List.eq_nil_of_length_eq_zero h1];rfl
theorem xJ {l:List Nat}{c:Nat}(h1:0<l.length) (h2:¬nth l 0=c):l=l.dropWhile (· ==c):=by
 cases l with
 | nil=>simp at h1
 | cons x l=>
  have:¬x=c:=h2
  simp[this]
def cO (xs:List Nat) (k:Nat):List Nat:=(List.range xs.length).map fun i=>if i<k∨xs.length-k≤i then nth xs (xs.length-1-i)else nth xs i
theorem eD (xs:List Nat) (k:Nat):(cO xs k).length=xs.length:=by simp[cO]
theorem gH {xs:List Nat}{k i:Nat}(h:i<xs.length):nth (cO xs k) i=if i<k∨xs.length-k≤i then nth xs (xs.length-1-i)else nth xs i:=by
 rw[aS (by rw[eD];exact h)]
 simp[cO]
theorem mV {xs ys:List Nat}(h:xs.length=ys.length) (h2:∀i,i<xs.length→nth xs i=nth ys i):xs=ys:=by
 refine List.ext_getElem h fun i h1 h3=>?_
 have:=h2 i h1
 rwa[aS h1,aS h3]at this
theorem Lk (xs:List Nat):xs=cO xs 0:=mV (by rw[eD]) fun i hi=>by
 rw[gH hi,if_neg (by omega)]
theorem Fc {xs:List Nat}{i:Nat}(h:i<xs.length):nth xs.reverse i=nth xs (xs.length-1-i):=by
 rw[aS (by simpa using h),aS (by omega),List.getElem_reverse]
theorem Fd {xs:List Nat}{k:Nat}(h:xs.length≤2*k+1):cO xs k=xs.reverse:=mV (by rw[eD,List.length_reverse]) fun i hi=>by
 rw[eD]at hi
 rw[gH hi,Fc hi]
 by_cases h1:i<k∨xs.length-k≤i
 ·rw[if_pos h1]
 rw[if_neg h1,show xs.length-1-i=i by omega]
theorem sT {xs:List Nat}{k i v:Nat}(h:k<xs.length):nth (xs.set k v) i=if i=k then v else nth xs i:=by
 unfold nth
 rw[List.getD_eq_getElem?_getD,List.getD_eq_getElem?_getD,List.getElem?_set]
 by_cases h1:k=i
 ·subst h1
  simp[h]
 rw[if_neg h1,if_neg (fun e=>h1 e.symm)]
theorem Ds {xs:List Nat}{k:Nat}(h:2*k+1<xs.length):((cO xs k).set k (nth (cO xs k) (xs.length-1-k))).set (xs.length-1-k) (nth (cO xs k) k)=cO xs (k+1):=by
 have e1:nth (cO xs k) k=nth xs k:=by rw[gH (by omega),if_neg (by omega)]
 have e2:nth (cO xs k) (xs.length-1-k)=nth xs (xs.length-1-k):=by rw[gH (by omega),if_neg (by omega)]
 rw[e1,e2]
 refine mV (by simp[eD]) fun i hi=>?_
 simp only[List.length_set,eD]at hi
 rw[sT (by simp only[List.length_set,eD];omega),sT (by rw[eD];omega),gH (k:=k+1) hi,gH (k:=k) hi]
 by_cases h1:i=xs.length-1-k
 ·subst h1
  rw[if_pos rfl,if_pos (by omega),show xs.length-1-(xs.length-1-k)=k by omega]
 rw[if_neg h1]
 by_cases h2:i=k
 ·subst h2
  rw[if_pos rfl,if_pos (by omega)]
 rw[if_neg h2]
 by_cases h3:i<k∨xs.length-k≤i
 ·rw[if_pos h3,if_pos (by omega)]
 rw[if_neg h3,if_neg (by omega)]
def fd (n v:Nat):List Nat:=(List.range n).map fun i=>v/10^i%10
theorem fT (n v:Nat):(fd n v).length=n:=by simp[fd]
theorem Iw (n v:Nat):fd (n+1) v=fd n v++[v/10^n%10]:=by simp[fd,List.range_succ]
theorem Ix (n v:Nat):Lim 10 (fd n v):=fun x hx=>by
 obtain⟨i,_,rfl⟩:=List.mem_map.1 hx
 exact Nat.mod_lt _ (by omega)
theorem Ll (n v:Nat):vl 10 (fd n v)=v%10^n:=by
 induction n with
 | zero=>simp[fd,vl,Nat.mod_one]
 | succ n ih=>rw[Iw,eB,ih,fT,Nat.pow_succ,Nat.mod_mul]
def bO (l:List Nat):List Nat:=l.map fun d=>48+d
theorem eE (l:List Nat):(bO l).length=l.length:=by simp[bO]
theorem vN (l m:List Nat):bO l++bO m=bO (l++m):=by simp[bO]
theorem vO {l:List Nat}(h:Lim 10 l):Lim 256 (bO l):=fun x hx=>by
 obtain⟨d,hd,rfl⟩:=List.mem_map.1 hx
 have:=h d hd
 omega
def tx (v:Nat):List Nat:=if v=0 then [48]else(bO (dg 10 v)).reverse
theorem zI (l:List Nat):(bO l).reverse.dropWhile (· ==48)=(bO (trim l)).reverse:=by
 induction l with
 | nil=>rfl
 | cons d l ih=>
  have e:bO (d::l)=(48+d)::bO l:=rfl
  rw[e,List.reverse_cons,List.dropWhile_append,ih,cI]
  by_cases h:trim l=[]
  ·rw[h]
   simp only[bO,List.map_nil,List.reverse_nil,List.isEmpty_nil,if_true,true_and]
   by_cases h0:d=0
   ·subst h0;simp
   rw[if_neg h0,List.dropWhile_cons,if_neg (by simp;omega)];rfl
  have h2:((bO (trim l)).reverse).isEmpty=false:=by
   cases hq:trim l with
   | nil=>exact absurd hq h
   | cons a b=>simp[bO]
  rw[h2,if_neg (by simp),if_neg (fun hh=>h hh.1)]
  simp[bO]
theorem xK {l:List Nat}{v:Nat}(h:Lim 10 l) (hv:vl 10 l=v):(bO l).reverse.dropWhile (· ==48)=(if v=0 then []else tx v):=by
 rw[zI,eR (by omega) h hv]
 unfold tx
 by_cases h0:v=0
 ·rw[if_pos h0,h0,eN];rfl
 rw[if_neg h0,if_neg h0]
theorem Lm (v:Nat):tx v≠[]:=by
 unfold tx
 split
 ·simp
 rename_i h
 intro e
 have:=congrArg List.length e
 simp only[List.length_reverse,eE,List.length_nil]at this
 exact h ((bV (by omega)).1 (List.eq_nil_of_length_eq_zero this))
theorem Iy {i r:Nat}{lB:List Nat}(hi:i<9) (ho:lB.length=9):(bO (fd i r)++lB.drop i).set i (48+r/10^i%10)=bO (fd (i+1) r)++lB.drop (i+1):=by
 rw[List.set_append_right _ _ (by rw[eE,fT];omega),eE,fT,Nat.sub_self,List.drop_eq_getElem_cons (by omega),List.set_cons_zero,Iw,←vN,List.append_assoc]
 rfl
theorem Ln {ds:List Nat}{u v:Nat}(h:vl 10 ds+10^ds.length*u=v):vl 10 (ds++fd 9 (u%1000000000))+10^(ds++fd 9 (u%1000000000)).length*(u/1000000000)=v:=by
 rw[kH,Ll,List.length_append,fT,Nat.pow_add,←h,show(10:Nat)^9=1000000000 by rfl,Nat.mod_mod,Nat.mul_assoc,Nat.add_assoc,←Nat.mul_add,Nat.mod_add_div]
theorem Fe {ds:List Nat}{u v L:Nat}(h:vl 10 ds+10^ds.length*u=v) (hu:0<u) (hv:v<4294967296^L):ds.length≤10*L:=by
 have h1:10^ds.length≤v:=by
  have:=Nat.le_mul_of_pos_right (10^ds.length) hu
  omega
 have h2:(4294967296:Nat)^L≤10^(10*L):=by rw[Nat.pow_mul];exact Nat.pow_le_pow_left (by omega) L
 exact Nat.le_of_lt ((Nat.pow_lt_pow_iff_right (a:=10) (by omega)).1 (Nat.lt_of_le_of_lt h1 (Nat.lt_of_lt_of_le hv h2)))
theorem Iz {B:Nat}{l:List Nat}{p:Nat→Bool}(h:Lim B l):Lim B (l.dropWhile p):=fun x hx=>h x ((List.dropWhile_sublist p).subset hx)
theorem Ff {ds:List Nat}{v:Nat}(hd:Lim 10 ds) (hv:vl 10 ds=v) (h:(!decide ((bO ds).reverse.dropWhile (· ==48)=[]))=true):(bO ds).reverse.dropWhile (· ==48)=tx v:=by
 have h1:=of_decide_eq_false (by simpa using h:decide ((bO ds).reverse.dropWhile (· ==48)=[])=false)
 rw[xK hd hv]at h1⊢
 by_cases h0:v=0
 ·rw[if_pos h0]at h1;exact absurd rfl h1
 rw[if_neg h0]
theorem Ja {ds:List Nat}{v:Nat}(hd:Lim 10 ds) (hv:vl 10 ds=v) (h:(!decide ((bO ds).reverse.dropWhile (· ==48)=[]))=false):[48]=tx v:=by
 have h1:=of_decide_eq_true (vK h)
 rw[xK hd hv]at h1
 by_cases h0:v=0
 ·rw[h0];rfl
 rw[if_neg h0]at h1;exact absurd h1 (Lm v)
theorem nW {B u:Nat}(h:0<(dg B u).length):0<u:=by
 rcases Nat.eq_zero_or_pos u with h0 | h0
 ·subst h0;simp[eN]at h
 exact h0
theorem Jb {ob:List (Option Ob)}{k t m:Nat}{xs:List Nat}(h:aZ ob k=some ⟨t,1,(aU xs).map .t⟩) (hm:m=xs.length):SrcA ob 1 (.sl k 0 m) m ((aU xs).map .t):=by
 subst hm
 exact .sl h (by rw[List.drop_zero];exact Lj xs) (xH xs)
theorem Lo {n:Nat}(h:n<4294967296):eT .u32 (n:Int):=by simp only[eT];omega
section
variable {x:Cx}{g:Nat→FV}{ob ob':List (Option Ob)}{cs:List Co}{ts:Array Value}{W:World}{T:List (Nat×TI)}{Q:cG}{ops:Array Oper}{rest:List Oper}{d:Nat}{ty:TypeId}{pos:String}{af:Array Edge}{gd:Option (Nat×Bool)}
theorem zJ {N:Nat→Prop}{ad:Addr}:∀{l:List Nat}{o:Nat},(∀j,j<l.length→W.cell? (ad.add (o+j))=some (.int .u8 ((nth l j:Nat):Int)))→FRc W N ad o (aU l)
 | [],_,_=>by simp[aU,FRc]
 | y::l,o,h=>by
  have h0:=h 0 (by simp)
  have ih:=zJ (l:=l) (o:=o+1) (N:=N) (ad:=ad) fun j hj=>by
   have:=h (j+1) (by simpa using hj)
   rw[show o+1+j=o+(j+1) by omega]
   exact this
  simp only[aU,List.map_cons,FRc]
  exact⟨⟨_,h0,by simp[FR,nth]⟩,ih⟩
theorem Jc (hT:aR x.P T){t t2 e by_ ts0:Nat}{zz:Value}{ti:Bool}{z0:List Value}{ie i1:TI}{a:Operand}{l:List Nat}(h1:aF T t=some i1) (h1k:i1.kd=.str) (h2:aF T t2=some ⟨ti,ts0,z0,.sl e 1 by_ zz⟩) (he:aF T e=some ie) (hek:ie.kd=.it .u8) (ha:lk x.n g a=.one (tv (.string (aT l)))) (hl:Lim 256 l) (hn:l.length≤1000000):
  OS x ⟨some d,.convert t t2 a,ty,pos,af,gd⟩ g ob [] (fun g' ob'=>g'=aH g d (.one (.t (.s false e 1 l.length (aU l))))∧ob'=ob):=by
 intro cs ts W hR K Q k
 have e1:=hR.lk a
 rw[ha]at e1
 have e1:=aC e1
 have k1:=(aW hT h1).2.2.2
 have k2:=(aW hT h2).2.2.2.1
 have k3:=(aW hT he).2.2.2
 rw[h1k]at k1
 rw[hek]at k3
 obtain⟨_,q1,_,_⟩:=k2
 have hc:=Lib.run_convert_string_bytes (P:=x.P) W t t2 e (aT l) k1 q1 k3
 rw[bF]at hc
 have hrun:(execOp (Act.eval ⟨ts,[]⟩) ⟨some d,.convert t t2 a,ty,pos,af,gd⟩).run x.P W=.ok (.value (.slice (some ⟨W.heap.size,0,none⟩) l.length (grownCap W l.length 0 e))) (Lib.bytesWorld W e (aT l)):=by
  simp[execOp,e1,hc]
 have hb:=Joins.below_bytesWorld W.heap.size W e (aT l) (Nat.le_refl _)
 have hR':=hR.ext hb
 have hcap:=grownCap_ge W l.length 0 e
 have hcm:=grownCap_le_maxLen W l.length 0 e (by unfold maxLen;omega)
 have hfr:x.fr (Lib.bytesWorld W e (aT l)) ob cs W.heap.size:=by
  refine⟨⟨by rw[Lib.bytesWorld_size];omega,fun hm=>?_⟩,.inr (.inr hR.2.chg.size)⟩
  exact absurd (hR.2.blk _ hm).2 (Nat.lt_irrefl _)
 refine bP hrun (k _ _ _ _ _ ⟨rfl,rfl⟩ (hR'.put d (v:=.one (.t (.s false e 1 l.length (aU l)))) (dF ?_)) ?_)
 ·simp only[AR,FR]
  refine⟨_,_,rfl,hcap,by unfold maxLen at hcm;omega,by simp[gG],.inr ⟨_,rfl,hfr,zJ fun j hj=>?_⟩⟩
  have:=Lib.bytesWorld_cell W e (aT l) j (by rw[bF];exact hj)
  rw[Nat.zero_add,show(⟨W.heap.size,0,none⟩:Addr).add j=⟨W.heap.size,j,none⟩ by cases j <;> simp[Addr.add]]
  refine this.trans (congrArg (fun n:Nat=>some (Value.int .u8 (n:Int))) ?_)
  have h9:nth l j<256:=by
   rw[aS hj]
   exact hl _ (List.getElem_mem hj)
  rw[←lT hj h9,List.getD_eq_getElem?_getD,Array.getElem?_toList]
 exact(hR.below hb (some d)).then_put _
theorem Ow {t t2 e by_ ts0:Nat}{zz:Value}{ti:Bool}{z0:List Value}{ie i1:TI}{a:Operand}{l:List Nat}(hl:Lim 256 l) (hn:l.length≤1000000) (kk:WL x ops rest (aH g d (.one (.t (.s false e 1 l.length (aU l))))) ob Q) (hT:aR x.P ttab:=by exact aY) (hw:aP ops x.n g gd=some true:=by rfl) (h1:aF ttab t=some i1:=by rfl) (h1k:i1.kd=.str:=by rfl) (h2:aF ttab t2=some ⟨ti,ts0,z0,.sl e 1 by_ zz⟩:=by rfl) (he:aF ttab e=some ie:=by rfl) (hek:ie.kd=.it .u8:=by rfl) (ha:lk x.n g a=.one (tv (.string (aT l))):=by rfl):WL x ops (⟨some d,.convert t t2 a,ty,pos,af,gd⟩::rest) g ob Q:=
 dV (Jc hT h1 h1k h2 he hek ha hl hn) hw (by rintro _ _ ⟨rfl,rfl⟩;exact kk)
theorem Ox {t t2:Nat}{a:Operand}(kk:WL x ops rest (aH g d (.one (tv (.bool false)))) ob Q) (hi:x.P.isIface t=true) (hw:aP ops x.n g gd=some true:=by rfl) (ha:lk x.n g a=.one (tv .nilIface):=by rfl):WL x ops (⟨some d,.binOp .neq t a (.const .nilIface) t2,ty,pos,af,gd⟩::rest) g ob Q:=by
 refine dV (Wr:=[]) (R:=fun g' ob'=>g'=aH g d (.one (tv (.bool false)))∧ob'=ob) (fun cs ts W hR K Q kk=>?_) hw (by rintro _ _ ⟨rfl,rfl⟩;exact kk)
 have e1:=hR.lk a
 rw[ha]at e1
 have e1:=aC e1
 have h2:=run_neq_nil_nil_at (P:=x.P) W t hi
 have hrun:(execOp (Act.eval ⟨ts,[]⟩) ⟨some d,.binOp .neq t a (.const .nilIface) t2,ty,pos,af,gd⟩).run x.P W=.ok (.value (.bool false)) W:=by
  have e2:Act.eval ⟨ts,[]⟩ (.const .nilIface)=.nilIface:=rfl
  simp[execOp,e1,e2,eqGuard,h2]
 exact bP hrun (kk _ _ _ _ _ ⟨rfl,rfl⟩ (hR.put d (v:=.one (tv (.bool false))) (dF (by simp[tv,AR,FR]))) (.put d _))
end
theorem zK (x:Int) (w:World):Calls Tryd.prog 120 #[.int .i64 x] w fun e w'=>e=.returned (.bool false)∧w=w':=by
 go_enter Tryd.func120,Tryd.ntmps120
 go_wp2
 go_ret
 simp
theorem zL (x:Int) (w:World):Calls Tryd.prog 121 #[.int .u32 x] w fun e w'=>e=.returned (.bool false)∧w=w':=by
 go_enter Tryd.func121,Tryd.ntmps121
 go_wp2
 go_ret
 simp
def fY (x y:Int):Int:=if x<y then-1 else if y<x then 1 else 0
theorem tU (x y:Int) (w:World):Calls Tryd.prog 94 #[.int .i64 x,.int .i64 y] w fun e w'=>e=.returned (.int .i64 (fY x y))∧w=w':=by
 go_enter Tryd.func94,Tryd.ntmps94
 go_wp2_with (first
  | (go_at_call 120;refine(zK _ _).mono ?_;rintro e w' ⟨rfl,rfl⟩))
 all_goals (go_ret;refine⟨iR ?_,rfl⟩;show _=fY x y;unfold fY;(repeat' split) <;> first | rfl | omega)
theorem tV (x y:Int) (w:World):Calls Tryd.prog 95 #[.int .u32 x,.int .u32 y] w fun e w'=>e=.returned (.int .i64 (fY x y))∧w=w':=by
 go_enter Tryd.func95,Tryd.ntmps95
 go_wp2_with (first
  | (go_at_call 121;refine(zL _ _).mono ?_;rintro e w' ⟨rfl,rfl⟩))
 all_goals (go_ret;refine⟨iR ?_,rfl⟩;show _=fY x y;unfold fY;(repeat' split) <;> first | rfl | omega)
theorem eW (x y c:Int) (w:World) (x0:0≤x) (x1:x<4294967296) (y0:0≤y) (y1:y<4294967296) (c0:0≤c) (c1:c<4294967296):
  Calls Tryd.prog 92 #[.int .u32 x,.int .u32 y,.int .u32 c] w fun e w'=>e=.returned (.tuple #[.int .u32 ((x+y+c)%4294967296),.int .u32 ((x+y+c)/4294967296)])∧w=w':=by
 go_enter Tryd.func92,Tryd.ntmps92
 go_wp2
 go_ret2
 exact⟨rfl,rfl⟩
theorem sV (x y:Int) (x0:0≤x) (x1:x<4294967296) (y0:0≤y) (y1:y<4294967296):0≤x*y∧x*y≤18446744065119617025:=by
 refine⟨Int.mul_nonneg x0 y0,?_⟩
 have:=Int.mul_le_mul (show x≤4294967295 by omega) (show y≤4294967295 by omega) y0 (by omega)
 omega
theorem xL (x y:Int) (w:World) (x0:0≤x) (x1:x<4294967296) (y0:0≤y) (y1:y<4294967296):
  Calls Tryd.prog 119 #[.int .u32 x,.int .u32 y] w fun e w'=>e=.returned (.tuple #[.int .u32 (x*y/4294967296),.int .u32 (x*y%4294967296)])∧w=w':=by
 obtain⟨p0,p1⟩:=sV x y x0 x1 y0 y1
 go_enter Tryd.func119,Tryd.ntmps119
 go_wp2
 go_ret2
 exact⟨rfl,rfl⟩
theorem zM (h l:Int) (h0:0≤h) (h1:h<4294967296) (l0:0≤l) (l1:l<4294967296):
  bits BinOp.or IntKind.u64 (h*4294967296) l=h*4294967296+l:=by
 obtain⟨a,rfl⟩:=Int.eq_ofNat_of_zero_le h0
 obtain⟨b,rfl⟩:=Int.eq_ofNat_of_zero_le l0
 have e:((a:Int)*4294967296)=((a*4294967296:Nat):Int):=by omega
 have e2:a*4294967296 ||| b=a*4294967296+b:=by
  have:=Nat.two_pow_add_eq_or_of_lt (i:=32) (b:=b) (by omega) a
  rw[Nat.mul_comm]at this
  simpa using this.symm
 rw[e,bits_or_u64_nat _ _ (by omega) (by omega),e2]
 omega
theorem Jd (h l d:Int) (h0:0≤h) (hd:h<d) (l0:0≤l) (l1:l<4294967296):
  0≤(h*4294967296+l)/d∧(h*4294967296+l)/d<4294967296∧0≤(h*4294967296+l)%d∧(h*4294967296+l)%d<d:=by
 have hp:0<d:=by omega
 refine⟨Int.ediv_nonneg (by omega) (by omega),Int.ediv_lt_of_lt_mul hp ?_,Int.emod_nonneg _ (by omega),Int.emod_lt_of_pos _ hp⟩
 have:(h+1)*4294967296≤d*4294967296:=Int.mul_le_mul_of_nonneg_right (by omega) (by omega)
 rw[Int.mul_comm 4294967296 d]
 omega
theorem xM (h l d:Int) (w:World) (h0:0≤h) (hd:h<d) (l0:0≤l) (l1:l<4294967296) (d1:d<4294967296):
  Calls Tryd.prog 104 #[.int .u32 h,.int .u32 l,.int .u32 d] w fun e w'=>
   e=.returned (.tuple #[.int .u32 ((h*4294967296+l)/d),.int .u32 ((h*4294967296+l)%d)])∧∃n,w'=w.drewN n:=by
 have hne:(d != 0)=true:=by rw[bne_iff_ne];omega
 have hne2:¬d=0:=by omega
 have hle:decide (d≤h)=false:=by simp;omega
 have hor:=zM h l h0 (by omega) l0 l1
 obtain⟨q0,q1,r0,r1⟩:=Jd h l d h0 hd l0 l1
 go_enter Tryd.func104,Tryd.ntmps104
 go_wp2
 go_quiet (fail)
 go_wp2
 go_ret2
 exact⟨rfl,_,rfl⟩
def lenOf:Value→Nat | .slice _ n _=>n | _=>0
set_option maxHeartbeats 400000 in
theorem dI (A:Option Addr) (n c:Nat) (xs:List Nat) (B:Nat) (w:World) (h:U32 w B A n c xs):
  Calls Tryd.prog 90 #[.slice A n c] w fun e w'=>e=.returned (.slice A (trim xs).length c)∧w=w':=by
 have hbig:=h.big
 have hcap:=h.cap
 go_enter Tryd.func90,Tryd.ntmps90
 go_wp2
 go_loop [0] (fun a=>∃k:Nat,k≤n∧a=.slice A k c∧Hid (trim (xs.take k)=trim xs)) (fun a=>lenOf a)
 case atStart=>exact⟨n,Nat.le_refl _,rfl,by have:=h.len;rw[List.take_of_length_le (by omega)];exact rfl⟩
 case round=>
  obtain⟨k,hk,rfl,ht⟩:=hrel
  by_cases h0:0<k
  ·obtain⟨b,o,sp,rfl,hb,hc⟩:=h.at_ (show k-1<n by omega)
   go_wp2
   ·have h1:((nth xs (k-1):Nat):Int)==0:=by assumption
    have hx:nth xs (k-1)=0:=by simpa using h1
    exact⟨⟨k-1,by omega,rfl,by rw[pO (by omega) (by rw[h.len];omega) hx];exact ht.out⟩,by simp only[lenOf];omega⟩
   have h1:(((nth xs (k-1):Nat):Int)==0)=false:=by assumption
   have hx:nth xs (k-1)≠0:=by simpa using h1
   go_ret
   exact⟨pQ (by rw[←ht.out,kI (by omega) (by rw[h.len];omega) hx,List.length_take,h.len,Nat.min_eq_left hk]),rfl⟩
  go_wp2
  obtain rfl:k=0:=by omega
  go_ret
  exact⟨pQ (by rw[←ht.out];rfl),rfl⟩
theorem qL (w:World) (e:TypeId):(w.alloc (.cells #[] e)).ownsRow w.heap.size e 1 (.slice (some ⟨w.heap.size,0,none⟩) 0 0) 0 []:=
 ⟨rfl,.inr ⟨w.heap.size,0, #[],rfl,Nat.le_refl _,heap_alloc_new w _,Nat.le_refl _,by unfold maxLen;omega,rfl,rfl⟩⟩
theorem eA (w:World) (o:Obj):Below w.heap.size w (w.alloc o):=(Below.refl _ _).alloc (Nat.le_refl _) _
theorem gX:IsEl Tryd.prog 22 64 (.int .u32 0) 1 4:=IsEl.mk Tryd.underlying22 (z:=.int .u32 0) (by kernel_rfl) rfl (by omega)
def fP (xs:List Nat) (w:World) (e:Ending) (w':World):Prop:=
 ∃A n c,e=.returned (.slice A n c)∧Own 64 w' w.heap.size A n c xs∧Below w.heap.size w w'
set_option maxHeartbeats 400000 in
theorem lU (A:Option Addr) (n c:Nat) (xs:List Nat) (w:World) (h:U32 w w.heap.size A n c xs) (hn:n≤1099511627776):
    Calls Tryd.prog 69 #[.slice A n c] w (fP xs w):=by
  have q:∀(w:World) (a:Option Addr) (n c n' c':Nat),(binOp .eql 22 (.slice a n c) (.slice none n' c')).run Tryd.prog w=.ok (.bool a.isNone) w:=
    fun w a n c n' c'=>Lib.run_eql_slice_nil w _ _ a n c n' c' Tryd.underlying22
  rcases A with _ | ad
  · have h0:n=0:=by
      rcases Nat.eq_zero_or_pos n with h0 | h0
      · exact h0
      obtain⟨ad,e,_⟩:=h.rd.cell h0
      cases e
    subst h0
    have hx:xs=[]:=List.eq_nil_of_length_eq_zero h.len
    subst hx
    go_enter Tryd.func69,Tryd.ntmps69
    go_wp2
    go_ret
    exact⟨none,0,0,rfl,Own.nil,Below.refl _ _⟩
  go_enter Tryd.func69,Tryd.ntmps69
  go_wp2_with (first
    | (at_builtin
       refine gC _ gX rfl (.tmp 5) (.tmp 6) rfl w.heap.size (.slice (some ⟨w.heap.size,0,none⟩) 0 0) 0 [] rfl (qL _ _) w.heap.size (some ad) n c (cH xs) rfl (h.rd.below (eA w _)) (lK xs) (by omega) (by omega) (by simp) ?_
       intro A' c' w1 hown hg _))
  go_ret
  refine⟨A',n,c',rfl,⟨by simpa using hown,h.lim⟩,iB (eA w _) (qL _ _) hg (by simp) (Nat.le_refl _)⟩
set_option maxHeartbeats 400000 in
theorem cB (A:Option Addr) (n c:Nat) (xs:List Nat) (w:World) (h:U32 w w.heap.size A n c xs) (hn:n≤1099511627776):
  Calls Tryd.prog 47 #[.slice A n c] w (fP (trim xs) w):=by
 have hl:=bN xs
 have hlen:=Lib.hid h.len
 go_enter Tryd.func47,Tryd.ntmps47
 go_wp2_with (first
  | (go_at_call 90;refine(dI _ _ _ xs _ _ h).mono ?_;rintro e w' ⟨rfl,rfl⟩)
  | (go_at_call 69;refine(lU _ _ _ (trim xs) _ h.trim ?_).mono ?_;(rw[hlen.out]at hl;omega);rintro e w1 ⟨A1,n1,c1,rfl,h1,hb1⟩))
 go_ret
 exact⟨A1,n1,c1,rfl,h1,hb1⟩
theorem zN {P:Program}{f:FuncId}{args:Array Value}{w:World}{a n:Nat}{v:Value}
  (h:Calls P f args (w.drewN (a+n)) fun e w'=>e=.returned v∧w.drewN (a+n)=w'):
  Calls P f args (w.drewN (a+n)) fun e w''=>e=.returned v∧∃m,w''=w.drewN (a+m):=
 h.mono fun _ _ ⟨he,hm⟩=>⟨he,n,hm.symm⟩
theorem Je (w:World) (a b c:Nat):∃k,((w.drewN a).drewN b).drewN c=w.drewN k:=⟨_,by rw[World.drewN_drewN,World.drewN_drewN]⟩
theorem bS (A:Option Addr) (n c n':Nat) (xs:List Nat) (B:Nat) (w:World) (h:U32 w B A n c xs) (hn:(trim xs).length=n'):
  Calls Tryd.prog 90 #[.slice A n c] w fun e w'=>e=.returned (.slice A n' c)∧w=w':=by
 subst hn;exact dI A n c xs B w h
def gY (x y:Nat):Int:=fY (x:Int) (y:Int)
theorem jB {x y:Nat}(h:x<y):gY x y=-1:=by unfold gY fY;rw[if_pos (by omega)]
theorem gI {x y:Nat}(h:y<x):gY x y=1:=by unfold gY fY;rw[if_neg (by omega),if_pos (by omega)]
theorem pH {x y:Nat}(h:x=y):gY x y=0:=by unfold gY fY;rw[if_neg (by omega),if_neg (by omega)]
theorem tW {xs ys:List Nat}(hx:Lim 4294967296 xs) (hy:Lim 4294967296 ys) (h:(trim xs).length≠(trim ys).length):
  fY ((trim xs).length:Int) ((trim ys).length:Int)=gY (vl 4294967296 xs) (vl 4294967296 ys):=by
 rcases Nat.lt_or_gt_of_ne h with h | h
 ·have:=iA (B:=4294967296) (by omega) hx.trim (hH ys) h
  rw[bL,bL]at this
  rw[jB this];exact jB h
 have:=iA (B:=4294967296) (by omega) hy.trim (hH xs) h
 rw[bL,bL]at this
 rw[gI this];exact gI h
theorem Fg {xs ys:List Nat}{k:Nat}(hx:Lim 4294967296 xs) (hy:Lim 4294967296 ys) (hl:xs.length=ys.length) (h0:0<k) (hk:k≤xs.length)
  (hd:xs.drop k=ys.drop k) (h:nth xs (k-1)≠nth ys (k-1)):fY (nth xs (k-1):Int) (nth ys (k-1):Int)=gY (vl 4294967296 xs) (vl 4294967296 ys):=by
 have e:k-1+1=k:=by omega
 rcases Nat.lt_or_gt_of_ne h with h | h
 ·have:=rF (B:=4294967296) (k:=k-1) hx hl (by omega) (by rw[e];exact hd) (by rwa[aS (by omega),aS (by omega)]at h)
  rw[jB this];exact jB h
 have:=rF (B:=4294967296) (k:=k-1) hy hl.symm (by omega) (by rw[e];exact hd.symm) (by rwa[aS (by omega),aS (by omega)]at h)
 rw[gI this];exact gI h
theorem zO {xs ys:List Nat}{k:Nat}(hl:xs.length=ys.length) (h0:0<k) (hk:k≤xs.length) (hd:xs.drop k=ys.drop k) (h:nth xs (k-1)=nth ys (k-1)):
  xs.drop (k-1)=ys.drop (k-1):=by
 have e:k-1+1=k:=by omega
 rw[List.drop_eq_getElem_cons (show k-1<xs.length by omega),List.drop_eq_getElem_cons (show k-1<ys.length by omega),e,hd,←aS,←aS,h]
set_option maxHeartbeats 800000 in
theorem mW (A B:Option Addr) (n m c d:Nat) (xs ys:List Nat) (bd:Nat) (w:World) (ha:U32 w bd A n c xs) (hb:U32 w bd B m d ys):
  Calls Tryd.prog 55 #[.slice A n c,.slice B m d] w fun e w'=>e=.returned (.int .i64 (gY (vl 4294967296 xs) (vl 4294967296 ys)))∧∃k,w'=w.drewN k:=by
 have ha1:=ha.trim
 have hb1:=hb.trim
 have hab:=ha.big
 have hbb:=hb.big
 have hac:=ha1.cap
 have hbc:=hb1.cap
 obtain⟨n1,hn1⟩:∃n1,(trim xs).length=n1:=⟨_,rfl⟩
 obtain⟨m1,hm1⟩:∃m1,(trim ys).length=m1:=⟨_,rfl⟩
 rw[hn1]at ha1 hac
 rw[hm1]at hb1 hbc
 have Hn1:=Lib.hid hn1
 have Hm1:=Lib.hid hm1
 clear hn1 hm1
 by_cases hne:n1=m1
 ·subst hne
  have hq:((n1:Int)!=(n1:Int))=false:=by simp
  go_enter Tryd.func55,Tryd.ntmps55
  go_wp2_with fail
  refine(bS _ _ _ n1 xs _ _ ha Hn1.out).mono ?_
  rintro e w' ⟨rfl,rfl⟩
  go_wp2_with fail
  refine(bS _ _ _ n1 ys _ _ hb Hm1.out).mono ?_
  rintro e w' ⟨rfl,rfl⟩
  go_wp2_with fail
  go_loopw [5] (fun i wr=>∃k:Nat,k≤n1∧i=.int .i64 ((k:Int)-1)∧Hid ((trim xs).drop k=(trim ys).drop k)∧∃q,wr=w.drewN q) (fun i _=>(intOf i+1).toNat)
  case atStart=>exact⟨n1,Nat.le_refl _,rfl,by rw[List.drop_eq_nil_of_le (by rw[Hn1.out];exact Nat.le_refl _),List.drop_eq_nil_of_le (by rw[Hm1.out];exact Nat.le_refl _)];exact rfl,0,rfl⟩
  case round=>
   obtain⟨k,hk,rfl,ht,q,rfl⟩:=hrel
   by_cases h0:0<k
   ·obtain⟨b,o,sp,rfl,hb',hc'⟩:=ha1.at_ (show k-1<n1 by omega)
    obtain⟨b2,o2,sp2,rfl,hb2',hc2'⟩:=hb1.at_ (show k-1<n1 by omega)
    by_cases he:nth (trim xs) (k-1)=nth (trim ys) (k-1)
    ·have he1:(((nth (trim xs) (k-1):Nat):Int)!=((nth (trim ys) (k-1):Nat):Int))=false:=by rw[he];simp
     have He:=Lib.hid he
     clear he
     go_wp2_with fail
     go_quiet (fail)
     go_wp2_with fail
     exact⟨⟨k-1,by omega,by go_num,zO (by rw[Hn1.out,Hm1.out]) h0 (by rw[Hn1.out];exact hk) ht.out He.out,_,rfl⟩,by simp[intOf];omega⟩
    have he1:(((nth (trim xs) (k-1):Nat):Int)!=((nth (trim ys) (k-1):Nat):Int))=true:=by rw[bne_iff_ne];omega
    have He:=Lib.hid he
    clear he
    go_wp2_with fail
    go_quiet (fail)
    go_wp2_with fail
    go_quiet ((go_at_call 95;exact zN (tV _ _ _)))
    go_wp2_with fail
    go_ret
    exact⟨iR (by rw[Fg ha1.lim hb1.lim (by rw[Hn1.out,Hm1.out]) h0 (by rw[Hn1.out];exact hk) ht.out He.out,bL,bL]),Je _ _ _ _⟩
   obtain rfl:k=0:=by omega
   have he:trim xs=trim ys:=ht.out
   go_wp2_with fail
   go_ret
   exact⟨iR (by rw[←bL 4294967296 xs,he,bL];exact(pH rfl).symm),_,rfl⟩
 have hq:((n1:Int)!=(m1:Int))=true:=by rw[bne_iff_ne];omega
 go_enter Tryd.func55,Tryd.ntmps55
 go_wp2_with fail
 refine(bS _ _ _ n1 xs _ _ ha Hn1.out).mono ?_
 rintro e w' ⟨rfl,rfl⟩
 go_wp2_with fail
 refine(bS _ _ _ m1 ys _ _ hb Hm1.out).mono ?_
 rintro e w' ⟨rfl,rfl⟩
 go_wp2_with fail
 refine(tU _ _ _).mono ?_
 rintro e w' ⟨rfl,rfl⟩
 go_wp2_with fail
 go_ret
 refine⟨iR ?_,0,rfl⟩
 have:=tW ha.lim hb.lim (by rw[Hn1.out,Hm1.out];exact hne)
 rw[Hn1.out,Hm1.out]at this
 exact this
def AddInv (xs ys os:List Nat) (k C:Nat):Prop:=
 C≤1∧vl 4294967296 (os.take k)+4294967296^k*C=vl 4294967296 (xs.take k)+vl 4294967296 (ys.take k)
theorem AddInv.zero (xs ys os:List Nat):AddInv xs ys os 0 0:=⟨by omega,by simp[vl]⟩
theorem AddInv.le {xs ys os:List Nat}{k C:Nat}(h:AddInv xs ys os k C):C≤1:=h.1
theorem AddInv.step {xs ys os:List Nat}{k C:Nat}(h:AddInv xs ys os k C) (hk:k<os.length) (hx:Lim 4294967296 xs) (hy:Lim 4294967296 ys):
  AddInv xs ys (os.set k ((nth xs k+nth ys k+C)%4294967296)) (k+1) ((nth xs k+nth ys k+C)/4294967296):=by
 obtain⟨h1,h2⟩:=h
 have x1:=hx.nth (by omega) k
 have y1:=hy.nth (by omega) k
 refine⟨by omega,?_⟩
 rw[cP _ _ hk,aG,aG,Nat.pow_succ]
 have e:=Nat.mod_add_div (nth xs k+nth ys k+C) 4294967296
 generalize 4294967296^k=p at*
 generalize (nth xs k+nth ys k+C)/4294967296=q at*
 generalize (nth xs k+nth ys k+C)%4294967296=r at*
 have e2:p*(r+4294967296*q)=p*(nth xs k+nth ys k+C):=by rw[e]
 grind
theorem AddInv.end_ {xs ys os:List Nat}{n C:Nat}(h:AddInv xs ys os n C) (hos:os.length=n+1) (hx:xs.length≤n) (hy:ys.length≤n):
  vl 4294967296 (os.set n C)=vl 4294967296 xs+vl 4294967296 ys:=by
 have h2:=h.2
 rw[aN _ hx,aN _ hy]at h2
 rw[←h2,←cP _ C (by omega),aN]
 rw[List.length_set];omega
set_option maxHeartbeats 1000000 in
theorem tX (A B:Option Addr) (n m c d:Nat) (xs ys:List Nat) (w:World) (ha:U32 w w.heap.size A n c xs) (hb:U32 w w.heap.size B m d ys) (hn:n≤1099511627776) (hmn:m≤n):
  Calls Tryd.prog 53 #[.slice A n c,.slice B m d] w (fP (dg 4294967296 (vl 4294967296 xs+vl 4294967296 ys)) w):=by
 have hlt':¬n<m:=by omega
 have Hx:=Lib.hid ha.len
 have Hy:=Lib.hid hb.len
 go_enter Tryd.func53,Tryd.ntmps53
 go_wp2_with (refine fQ _ gX rfl (.tmp 18) (.tmp 18) rfl .i64 .i64 _ _ (n+1) rfl rfl (by omega) (by omega) (by omega) (by omega) ?_;intro w1 hown hb1 hz1)
 have hO:=Own.made hown
 clear hown
 go_wp2_with fail
 go_loopw [6,22] (fun cy i wr=>∃(k C:Nat) (os:List Nat),k≤n∧i=.int .i64 (k:Int)∧cy=.int .u32 (C:Int)∧Own 64 wr w.heap.size (some ⟨w.heap.size,0,none⟩) (n+1) (n+1) os∧AddInv xs ys os k C∧Below w.heap.size w wr∧w.heap.size<wr.heap.size) (fun _ i _=>n-(intOf i).toNat)
 case atStart=>exact⟨0,0,_,Nat.zero_le _,rfl,rfl,hO,AddInv.zero _ _ _,hb1,hz1⟩
 case round=>
  obtain⟨k,C,os,hk,rfl,rfl,hown,hI,hbw,hz⟩:=hrel
  have hC:=hI.le
  by_cases hlt:k<n
  ·obtain⟨b,o,sp,rfl,hbb,hcc⟩:=(ha.below hbw).at_ hlt
   have ho1:=hown.cell (show k<n+1 by omega)
   have ho2:=hown.frozen k
   have hx1:=ha.lim.nth (by omega) k
   have hy1:=hb.lim.nth (by omega) k
   have hset:=hown.set k (v:=(nth xs k+nth ys k+C)%4294967296) (Nat.mod_lt _ (by omega))
   have hstep:=hI.step (by rw[hown.len];omega) ha.lim hb.lim
   by_cases hm:k<m
   ·obtain⟨b2,o2,sp2,rfl,hbb2,hcc2⟩:=(hb.below hbw).at_ hm
    go_wp2_with fail
    refine(eW _ _ _ _ ?_ ?_ ?_ ?_ ?_ ?_).mono ?_ <;> try omega
    rintro e w' ⟨rfl,rfl⟩
    go_wp2_with fail
    go_roundw
    case rel=>exact⟨k+1,_,_,by omega,by go_num,rfl,hset,hstep,hbw.setCell (Nat.le_refl _) _,by simpa using hz⟩
    case measure=>simp[intOf];omega
   have hy0:nth ys k=0:=eO (by rw[Hy.out];omega)
   rw[hy0]at hset hstep
   clear hy0
   go_wp2_with fail
   refine(eW _ _ _ _ ?_ ?_ ?_ ?_ ?_ ?_).mono ?_ <;> try omega
   rintro e w' ⟨rfl,rfl⟩
   go_wp2_with fail
   go_roundw
   case rel=>exact⟨k+1,_,_,by omega,by go_num,rfl,hset,hstep,hbw.setCell (Nat.le_refl _) _,by simpa using hz⟩
   case measure=>simp[intOf];omega
  obtain rfl:k=n:=by omega
  have ho1:=hown.cell (show k<k+1 by omega)
  have ho2:=hown.frozen k
  have hset:=hown.set k (v:=C) (by omega)
  have hend:=Lib.hid (hI.end_ hown.len (by rw[Hx.out];exact Nat.le_refl _) (by rw[Hy.out];omega))
  have hbe:=hbw.setCell (p:=⟨w.heap.size,k,none⟩) (Nat.le_refl _) (.int .u32 (C:Int))
  clear hb1 hbw hI hown hz1
  go_wp2_with fail
  refine(dI _ _ _ _ _ _ hset.u32).mono ?_
  rintro e w' ⟨rfl,rfl⟩
  go_wp2_with fail
  go_ret
  exact⟨_,_,_,rfl,by rw[←hend.out,cY (by omega) hset.lim];exact hset.trim,hbe⟩
set_option maxHeartbeats 1000000 in
theorem tY (A B:Option Addr) (n m c d:Nat) (xs ys:List Nat) (w:World) (ha:U32 w w.heap.size A n c xs) (hb:U32 w w.heap.size B m d ys) (hm:m≤1099511627776) (hmn:n<m):
  Calls Tryd.prog 53 #[.slice A n c,.slice B m d] w (fP (dg 4294967296 (vl 4294967296 xs+vl 4294967296 ys)) w):=by
 have hlt':n<m:=by omega
 have Hx:=Lib.hid hb.len
 have Hy:=Lib.hid ha.len
 go_enter Tryd.func53,Tryd.ntmps53
 go_wp2_with (refine fQ _ gX rfl (.tmp 18) (.tmp 18) rfl .i64 .i64 _ _ (m+1) rfl rfl (by omega) (by omega) (by omega) (by omega) ?_;intro w1 hown hb1 hz1)
 have hO:=Own.made hown
 clear hown
 go_wp2_with fail
 go_loopw [6,22] (fun cy i wr=>∃(k C:Nat) (os:List Nat),k≤m∧i=.int .i64 (k:Int)∧cy=.int .u32 (C:Int)∧Own 64 wr w.heap.size (some ⟨w.heap.size,0,none⟩) (m+1) (m+1) os∧AddInv ys xs os k C∧Below w.heap.size w wr∧w.heap.size<wr.heap.size) (fun _ i _=>m-(intOf i).toNat)
 case atStart=>exact⟨0,0,_,Nat.zero_le _,rfl,rfl,hO,AddInv.zero _ _ _,hb1,hz1⟩
 case round=>
  obtain⟨k,C,os,hk,rfl,rfl,hown,hI,hbw,hz⟩:=hrel
  have hC:=hI.le
  by_cases hlt:k<m
  ·obtain⟨b,o,sp,rfl,hbb,hcc⟩:=(hb.below hbw).at_ hlt
   have ho1:=hown.cell (show k<m+1 by omega)
   have ho2:=hown.frozen k
   have hx1:=hb.lim.nth (by omega) k
   have hy1:=ha.lim.nth (by omega) k
   have hset:=hown.set k (v:=(nth ys k+nth xs k+C)%4294967296) (Nat.mod_lt _ (by omega))
   have hstep:=hI.step (by rw[hown.len];omega) hb.lim ha.lim
   by_cases hm:k<n
   ·obtain⟨b2,o2,sp2,rfl,hbb2,hcc2⟩:=(ha.below hbw).at_ hm
    go_wp2_with fail
    refine(eW _ _ _ _ ?_ ?_ ?_ ?_ ?_ ?_).mono ?_ <;> try omega
    rintro e w' ⟨rfl,rfl⟩
    go_wp2_with fail
    go_roundw
    case rel=>exact⟨k+1,_,_,by omega,by go_num,rfl,hset,hstep,hbw.setCell (Nat.le_refl _) _,by simpa using hz⟩
    case measure=>simp[intOf];omega
   have hy0:nth xs k=0:=eO (by rw[Hy.out];omega)
   rw[hy0]at hset hstep
   clear hy0
   go_wp2_with fail
   refine(eW _ _ _ _ ?_ ?_ ?_ ?_ ?_ ?_).mono ?_ <;> try omega
   rintro e w' ⟨rfl,rfl⟩
   go_wp2_with fail
   go_roundw
   case rel=>exact⟨k+1,_,_,by omega,by go_num,rfl,hset,hstep,hbw.setCell (Nat.le_refl _) _,by simpa using hz⟩
   case measure=>simp[intOf];omega
  obtain rfl:k=m:=by omega
  have ho1:=hown.cell (show k<k+1 by omega)
  have ho2:=hown.frozen k
  have hset:=hown.set k (v:=C) (by omega)
  have hend:=Lib.hid (hI.end_ hown.len (by rw[Hx.out];exact Nat.le_refl _) (by rw[Hy.out];omega))
  have hbe:=hbw.setCell (p:=⟨w.heap.size,k,none⟩) (Nat.le_refl _) (.int .u32 (C:Int))
  clear hb1 hbw hI hown hz1
  go_wp2_with fail
  refine(dI _ _ _ _ _ _ hset.u32).mono ?_
  rintro e w' ⟨rfl,rfl⟩
  go_wp2_with fail
  go_ret
  exact⟨_,_,_,rfl,by rw[Nat.add_comm (vl 4294967296 xs) (vl 4294967296 ys),←hend.out,cY (by omega) hset.lim];exact hset.trim,hbe⟩
theorem Ce (A B:Option Addr) (n m c d:Nat) (xs ys:List Nat) (w:World) (ha:U32 w w.heap.size A n c xs) (hb:U32 w w.heap.size B m d ys) (hn:n≤1099511627776) (hm:m≤1099511627776):
  Calls Tryd.prog 53 #[.slice A n c,.slice B m d] w (fP (dg 4294967296 (vl 4294967296 xs+vl 4294967296 ys)) w):=by
 by_cases h:m≤n
 ·exact tX A B n m c d xs ys w ha hb hn h
 exact tY A B n m c d xs ys w ha hb hm (by omega)
def bU (n:Nat):Nat:=n%4294967296
def dW (n:Nat):Nat:=n/4294967296
theorem lV (n:Nat):bU n<4294967296:=Nat.mod_lt _ (by omega)
theorem xN (n:Nat):bU n+4294967296*dW n=n:=Nat.mod_add_div n 4294967296
theorem Dt {n:Nat}(h:n<18446744073709551616):dW n<4294967296:=by unfold dW;omega
def fZ (x y c:Nat):Nat:=(x+8589934592-y-c)%4294967296
def gZ (x y c:Nat):Nat:=if x<y+c then 1 else 0
theorem Fh (x y c:Nat):fZ x y c<4294967296:=Nat.mod_lt _ (by omega)
theorem vP (x y c:Nat):gZ x y c≤1:=by unfold gZ;split <;> omega
theorem zP {x y c:Nat}(hx:x<4294967296) (hy:y<4294967296) (hc:c≤1):fZ x y c+y+c=x+4294967296*gZ x y c:=by
 unfold fZ gZ;split <;> omega
theorem iO (x y c:Nat) (w:World) (x1:x<4294967296) (y1:y<4294967296) (c1:c<4294967296):
  Calls Tryd.prog 92 #[.int .u32 (x:Int),.int .u32 (y:Int),.int .u32 (c:Int)] w fun e w'=>
   e=.returned (.tuple #[.int .u32 (bU (x+y+c):Nat),.int .u32 (dW (x+y+c):Nat)])∧w=w':=
 (eW _ _ _ w (by omega) (by omega) (by omega) (by omega) (by omega) (by omega)).mono fun _ _ ⟨h1,h2⟩=>⟨h1,h2⟩
theorem tZ (x y:Nat) (w:World) (x1:x<4294967296) (y1:y<4294967296):
  Calls Tryd.prog 119 #[.int .u32 (x:Int),.int .u32 (y:Int)] w fun e w'=>
   e=.returned (.tuple #[.int .u32 (dW (x*y):Nat),.int .u32 (bU (x*y):Nat)])∧w=w':=
 (xL _ _ w (by omega) (by omega) (by omega) (by omega)).mono fun _ _ ⟨h1,h2⟩=>⟨h1,h2⟩
theorem uA (h l d:Nat) (w:World) (hd:h<d) (l1:l<4294967296) (d1:d<4294967296):
  Calls Tryd.prog 104 #[.int .u32 (h:Int),.int .u32 (l:Int),.int .u32 (d:Int)] w fun e w'=>
   e=.returned (.tuple #[.int .u32 ((h*4294967296+l)/d:Nat),.int .u32 ((h*4294967296+l)%d:Nat)])∧∃n,w'=w.drewN n:=
 (xM _ _ _ w (by omega) (by omega) (by omega) (by omega) (by omega)).mono fun _ _ ⟨h1,h2⟩=>⟨h1,h2⟩
def SubInv (xs ys os:List Nat) (k C:Nat):Prop:=
 C≤1∧os.length=xs.length∧vl 4294967296 (os.take k)+vl 4294967296 (ys.take k)=vl 4294967296 (xs.take k)+4294967296^k*C∧∀j,k≤j→nth os j=nth xs j
theorem SubInv.zero (xs ys:List Nat):SubInv xs ys xs 0 0:=⟨by omega,rfl,by simp[vl],fun _ _=>rfl⟩
theorem SubInv.le {xs ys os:List Nat}{k C:Nat}(h:SubInv xs ys os k C):C≤1:=h.1
theorem SubInv.at_ {xs ys os:List Nat}{k C:Nat}(h:SubInv xs ys os k C):nth os k=nth xs k:=h.2.2.2 k (Nat.le_refl _)
theorem eF {l:List Nat}{i j v:Nat}(h:i≠j):nth (l.set i v) j=nth l j:=by
 unfold nth;rw[List.getD_eq_getElem?_getD,List.getD_eq_getElem?_getD,List.getElem?_set_ne h]
theorem nX {l:List Nat}{i v:Nat}(h:i<l.length):nth (l.set i v) i=v:=by
 rw[aS (by rw[List.length_set];exact h),List.getElem_set_self]
theorem SubInv.step {xs ys os:List Nat}{k C:Nat}(h:SubInv xs ys os k C) (hk:k<xs.length) (hx:Lim 4294967296 xs) (hy:Lim 4294967296 ys):
  SubInv xs ys (os.set k (fZ (nth xs k) (nth ys k) C)) (k+1) (gZ (nth xs k) (nth ys k) C):=by
 obtain⟨h1,hl,h2,h3⟩:=h
 have x1:=hx.nth (by omega) k
 have y1:=hy.nth (by omega) k
 have e:=zP x1 y1 h1
 refine⟨vP _ _ _,by rw[List.length_set,hl],?_,fun j hj=>by rw[eF (by omega)];exact h3 j (by omega)⟩
 rw[cP _ _ (by omega),aG,aG,Nat.pow_succ]
 generalize 4294967296^k=p at*
 generalize fZ (nth xs k) (nth ys k) C=s at*
 generalize gZ (nth xs k) (nth ys k) C=q at*
 have e2:p*(s+nth ys k+C)=p*(nth xs k+4294967296*q):=by rw[e]
 grind
theorem SubInv.end_ {xs ys os:List Nat}{C:Nat}(h:SubInv xs ys os xs.length C) (ho:Lim 4294967296 os) (hy:ys.length≤xs.length) (hle:vl 4294967296 ys≤vl 4294967296 xs):
  vl 4294967296 os=vl 4294967296 xs-vl 4294967296 ys:=by
 obtain⟨h1,hl,h2,_⟩:=h
 rw[aN _ hy,aN _ (Nat.le_refl _),aN _ (by omega)]at h2
 have:=cW ho
 rw[hl]at this
 have hC:C=0∨C=1:=by omega
 rcases hC with rfl | rfl
 ·omega
 omega
def MulInv (xs os:List Nat) (m k C:Nat):Prop:=C<4294967296∧vl 4294967296 (os.take k)+4294967296^k*C=vl 4294967296 (xs.take k)*m
theorem MulInv.zero (xs os:List Nat) (m:Nat):MulInv xs os m 0 0:=⟨by omega,by simp[vl]⟩
theorem MulInv.lt {xs os:List Nat}{m k C:Nat}(h:MulInv xs os m k C):C<4294967296:=h.1
theorem Jf {x m C:Nat}(hx:x<4294967296) (hm:m<4294967296) (hC:C<4294967296):x*m+C≤18446744069414584320:=by
 have:x*m≤4294967295*4294967295:=Nat.mul_le_mul (by omega) (by omega)
 omega
theorem sW {x m C:Nat}(hx:x<4294967296) (hm:m<4294967296) (hC:C<4294967296):
  dW (x*m)+dW (bU (x*m)+C)=dW (x*m+C)∧bU (bU (x*m)+C)=bU (x*m+C)∧dW (x*m+C)<4294967296:=by
 have:=Jf hx hm hC
 unfold dW bU
 omega
theorem MulInv.step {xs os:List Nat}{m k C:Nat}(h:MulInv xs os m k C) (hk:k<os.length) (hx:Lim 4294967296 xs) (hm:m<4294967296):
  MulInv xs (os.set k (bU (nth xs k*m+C))) m (k+1) (dW (nth xs k*m+C)):=by
 obtain⟨h1,h2⟩:=h
 have x1:=hx.nth (by omega) k
 refine⟨(sW x1 hm h1).2.2,?_⟩
 rw[cP _ _ hk,aG,Nat.pow_succ]
 have e:=xN (nth xs k*m+C)
 generalize 4294967296^k=p at*
 generalize bU (nth xs k*m+C)=s at*
 generalize dW (nth xs k*m+C)=q at*
 have e2:p*(s+4294967296*q)=p*(nth xs k*m+C):=by rw[e]
 grind
theorem MulInv.end_ {xs os:List Nat}{m n C:Nat}(h:MulInv xs os m n C) (hos:os.length=n+1) (hx:xs.length≤n):
  vl 4294967296 (os.set n C)=vl 4294967296 xs*m:=by
 have h2:=h.2
 rw[aN _ hx]at h2
 rw[←h2,←cP _ C (by omega),aN]
 rw[List.length_set];omega
def DivInv (xs os:List Nat) (d k r:Nat):Prop:=
 r<d∧os.length=xs.length∧vl 4294967296 (os.drop k)*d+r=vl 4294967296 (xs.drop k)∧∀j,j<k→nth os j=nth xs j
theorem DivInv.top (xs:List Nat){d:Nat}(hd:0<d):DivInv xs xs d xs.length 0:=⟨hd,rfl,by simp[vl],fun _ _=>rfl⟩
theorem DivInv.lt {xs os:List Nat}{d k r:Nat}(h:DivInv xs os d k r):r<d:=h.1
theorem DivInv.at_ {xs os:List Nat}{d k r:Nat}(h:DivInv xs os d k r) (h0:0<k):nth os (k-1)=nth xs (k-1):=h.2.2.2 _ (by omega)
theorem dJ (B:Nat){l:List Nat}{k:Nat}(h0:0<k) (h:k≤l.length):vl B (l.drop (k-1))=nth l (k-1)+B*vl B (l.drop k):=by
 have e:=List.drop_eq_getElem_cons (show k-1<l.length by omega)
 rw[show k-1+1=k from by omega]at e
 rw[e,cD,aS]
theorem DivInv.step {xs os:List Nat}{d k r:Nat}(h:DivInv xs os d k r) (h0:0<k) (hk:k≤xs.length) (hd:0<d):
  DivInv xs (os.set (k-1) ((r*4294967296+nth xs (k-1))/d)) d (k-1) ((r*4294967296+nth xs (k-1))%d):=by
 obtain⟨h1,hl,h2,h3⟩:=h
 refine⟨Nat.mod_lt _ hd,by rw[List.length_set,hl],?_,fun j hj=>by rw[eF (by omega)];exact h3 j (by omega)⟩
 rw[dJ _ h0 (by rw[List.length_set];omega),dJ _ h0 hk,nX (by omega),List.drop_set_of_lt (by omega)]
 have e:=Nat.div_add_mod (r*4294967296+nth xs (k-1)) d
 generalize (r*4294967296+nth xs (k-1))/d=q at*
 generalize (r*4294967296+nth xs (k-1))%d=s at*
 grind
theorem DivInv.end_ {xs os:List Nat}{d r:Nat}(h:DivInv xs os d 0 r) (hd:0<d):vl 4294967296 os=vl 4294967296 xs/d∧r=vl 4294967296 xs%d:=by
 obtain⟨h1,_,h2,_⟩:=h
 simp only[List.drop_zero]at h2
 have e:vl 4294967296 xs=r+d*vl 4294967296 os:=by rw[←h2,Nat.mul_comm];omega
 rw[e,Nat.add_mul_div_left _ _ hd,Nat.add_mul_mod_self_left,Nat.div_eq_of_lt h1,Nat.mod_eq_of_lt h1]
 exact⟨by omega,rfl⟩
set_option maxHeartbeats 1000000 in
theorem kG (A:Option Addr) (n c m:Nat) (xs:List Nat) (w:World) (ha:U32 w w.heap.size A n c xs) (hn:n≤1099511627776) (hm:m<4294967296):
  Calls Tryd.prog 87 #[.slice A n c,.int .u32 (m:Int)] w (fP (dg 4294967296 (vl 4294967296 xs*m)) w):=by
 have Hx:=Lib.hid ha.len
 go_enter Tryd.func87,Tryd.ntmps87
 go_wp2_with (refine fQ _ gX rfl (.tmp 15) (.tmp 15) rfl .i64 .i64 _ _ (n+1) rfl rfl (by omega) (by omega) (by omega) (by omega) ?_;intro w1 hown hb1 hz1)
 have hO:=Own.made hown
 clear hown
 go_wp2_with fail
 go_loopw [6,19] (fun cy i wr=>∃(k C:Nat) (os:List Nat),k≤n∧i=.int .i64 (k:Int)∧cy=.int .u32 (C:Int)∧Own 64 wr w.heap.size (some ⟨w.heap.size,0,none⟩) (n+1) (n+1) os∧MulInv xs os m k C∧Below w.heap.size w wr∧w.heap.size<wr.heap.size) (fun _ i _=>n-(intOf i).toNat)
 case atStart=>exact⟨0,0,_,Nat.zero_le _,rfl,rfl,hO,MulInv.zero _ _ _,hb1,hz1⟩
 case round=>
  obtain⟨k,C,os,hk,rfl,rfl,hown,hI,hbw,hz⟩:=hrel
  have hC:=hI.lt
  by_cases hlt:k<n
  ·obtain⟨b,o,sp,rfl,hbb,hcc⟩:=(ha.below hbw).at_ hlt
   have ho1:=hown.cell (show k<n+1 by omega)
   have ho2:=hown.frozen k
   have hx1:=ha.lim.nth (by omega) k
   obtain⟨e1,e2,e3⟩:=sW hx1 hm hC
   have hset:=hown.set k (v:=bU (nth xs k*m+C)) (lV _)
   rw[←e2]at hset
   have hstep:=hI.step (by rw[hown.len];omega) ha.lim hm
   rw[←e2]at hstep
   rw[←e1]at e3 hstep
   clear e1 e2
   have hl1:=lV (nth xs k*m)
   go_wp2_with fail
   refine(tZ _ _ _ hx1 hm).mono ?_
   rintro e w' ⟨rfl,rfl⟩
   go_wp2_with fail
   refine(iO _ _ 0 _ (lV _) hC (by omega)).mono ?_
   rintro e w' ⟨rfl,rfl⟩
   rw[Nat.add_zero]
   go_wp2_with fail
   go_roundw
   case rel=>exact⟨k+1,_,_,by omega,by go_num,by go_num,hset,hstep,hbw.setCell (Nat.le_refl _) _,by simpa using hz⟩
   case measure=>simp[intOf];omega
  obtain rfl:k=n:=by omega
  have ho1:=hown.cell (show k<k+1 by omega)
  have ho2:=hown.frozen k
  have hset:=hown.set k (v:=C) (by omega)
  have hend:=Lib.hid (hI.end_ hown.len (by rw[Hx.out];exact Nat.le_refl _))
  have hbe:=hbw.setCell (p:=⟨w.heap.size,k,none⟩) (Nat.le_refl _) (.int .u32 (C:Int))
  clear hb1 hbw hI hown hz1
  go_wp2_with fail
  refine(dI _ _ _ _ _ _ hset.u32).mono ?_
  rintro e w' ⟨rfl,rfl⟩
  go_wp2_with fail
  go_ret
  exact⟨_,_,_,rfl,by rw[←hend.out,cY (by omega) hset.lim];exact hset.trim,hbe⟩
def Jg (xs:List Nat) (r e1:Nat) (w:World) (e:Ending) (w':World):Prop:=
 ∃A n c,e=.returned (.tuple #[.slice A n c,.int .u32 (r:Int),.int .i64 (e1:Int)])∧Own 64 w' w.heap.size A n c xs∧Below w.heap.size w w'
set_option maxHeartbeats 1000000 in
theorem gA (A:Option Addr) (n c d:Nat) (xs:List Nat) (w:World) (ha:U32 w w.heap.size A n c xs) (hn:n≤1099511627776) (hd0:0<d) (hd:d<4294967296):
  Calls Tryd.prog 76 #[.slice A n c,.int .u32 (d:Int)] w (Jg (dg 4294967296 (vl 4294967296 xs/d)) (vl 4294967296 xs%d) 0 w):=by
 have Hx:=Lib.hid ha.len
 have hne:((d:Int)==0)=false:=by rw[beq_eq_false_iff_ne];omega
 go_enter Tryd.func76,Tryd.ntmps76
 go_wp2_with fail
 refine(lU _ _ _ xs _ ha hn).mono ?_
 rintro e w1 ⟨A1,n1,c1,rfl,hO,hb1⟩
 obtain rfl:n1=n:=by rw[←hO.len,Hx.out]
 go_wp2_with fail
 go_loopw [5,7] (fun r i wr=>∃(k R:Nat) (os:List Nat),k≤n1∧i=.int .i64 ((k:Int)-1)∧r=.int .u32 (R:Int)∧Own 64 wr w.heap.size A1 n1 c1 os∧DivInv xs os d k R∧Below w.heap.size w wr) (fun _ i _=>(intOf i+1).toNat)
 case atStart=>exact⟨n1,0,xs,Nat.le_refl _,by go_num,rfl,hO,by have:=DivInv.top xs hd0;rwa[Hx.out]at this,hb1⟩
 case round=>
  obtain⟨k,R,os,hk,rfl,rfl,hown,hI,hbw⟩:=hrel
  have hR:=hI.lt
  by_cases h0:0<k
  ·obtain⟨g,rfl,hg1,hg2⟩:=hown.form (by omega)
   have ho1:=hown.cell (show k-1<n1 by omega)
   rw[hI.at_ h0]at ho1
   have ho2:=hown.frozen (k-1)
   have hx1:=ha.lim.nth (by omega) (k-1)
   have hq:(R*4294967296+nth xs (k-1))/d<4294967296:=by
    apply Nat.div_lt_of_lt_mul
    have:(R+1)*4294967296≤d*4294967296:=Nat.mul_le_mul_right _ (by omega)
    omega
   have hset:=fun q=>(hown.drewN q).set (k-1) hq
   have hstep:=hI.step h0 (by rw[Hx.out];exact hk) hd0
   go_wp2_with fail
   refine(uA _ _ _ _ hR hx1 hd).mono ?_
   rintro e w' ⟨rfl,q,rfl⟩
   go_wp2_with fail
   go_roundw
   case rel=>exact⟨k-1,_,_,by omega,by go_num,rfl,hset q,hstep,(dT hbw _).setCell hg1 _⟩
   case measure=>simp[intOf];omega
  obtain rfl:k=0:=by omega
  obtain⟨h1,h2⟩:=hI.end_ hd0
  have H1:=Lib.hid h1
  have H2:=Lib.hid h2
  clear h1 h2
  go_wp2_with fail
  refine(dI _ _ _ _ _ _ hown.u32).mono ?_
  rintro e w' ⟨rfl,rfl⟩
  go_wp2_with fail
  go_ret3
  exact⟨_,_,_,by rw[←H2.out];rfl,by rw[←H1.out,cY (by omega) hown.lim];exact hown.trim,hbw⟩
def nY (xs:List Nat) (e1:Nat) (w:World) (e:Ending) (w':World):Prop:=
 ∃A n c,e=.returned (.tuple #[.slice A n c,.int .i64 (e1:Int)])∧Own 64 w' w.heap.size A n c xs∧Below w.heap.size w w'
theorem Own.drew_base {t:TypeId}{w:World}{base n c:Nat}{A:Option Addr}{xs:List Nat}{k:Nat}(h:Own t w base A n c xs):Own t (w.drewN k) base A n c xs:=⟨h.row,h.lim⟩
def zQ (xs:List Nat) (w:World) (e:Ending) (w':World):Prop:=
 ∃A n c,e=.returned (.slice A n c)∧U32 w' w'.heap.size A n c xs∧Below w.heap.size w w'
theorem vQ (n:Nat) (h:n<32):(2:Int)^n%4294967296=((2^n:Nat):Int)∧2^n<4294967296∧0<2^n:=by
 have h1:2^n<2^32:=Nat.pow_lt_pow_right (by omega) h
 have h2:0<2^n:=Nat.pos_of_ne_zero (by simp)
 refine⟨?_,by omega,h2⟩
 have e:((2:Int)^n)=((2^n:Nat):Int):=by simp
 rw[e]
 omega
set_option maxHeartbeats 400000 in
theorem zR (A:Option Addr) (n c v k:Nat) (w:World) (ha:U32 w w.heap.size A n c (dg 4294967296 v)) (hn:n≤1099511627776) (hk:k<32):
  Calls Tryd.prog 107 #[.slice A n c,.int .i64 (k:Int)] w (zQ (dg 4294967296 (v*2^k)) w):=by
 by_cases h0:k=0
 ·subst h0
  go_enter Tryd.func107,Tryd.ntmps107
  go_wp2_with fail
  go_ret
  exact⟨_,_,_,rfl,by simpa using ha,Below.refl _ _⟩
 have hne:((k:Int)==0)=false:=by rw[beq_eq_false_iff_ne];omega
 obtain⟨e1,e2,_⟩:=vQ k hk
 have E1:=Lib.hid e1
 clear e1
 go_enter Tryd.func107,Tryd.ntmps107
 go_wp2_with fail
 rw[E1.out]
 refine(kG _ _ _ _ _ _ ha hn e2).mono ?_
 rintro e w1 ⟨A1,n1,c1,rfl,h1,hb1⟩
 go_wp2_with fail
 go_ret
 exact⟨_,_,_,rfl,by rw[bK (by omega)]at h1;exact h1.u32,hb1⟩
set_option maxHeartbeats 400000 in
theorem xO (A:Option Addr) (n c v k:Nat) (w:World) (ha:U32 w w.heap.size A n c (dg 4294967296 v)) (hn:n≤1099511627776) (hk:k<32):
  Calls Tryd.prog 108 #[.slice A n c,.int .i64 (k:Int)] w (zQ (dg 4294967296 (v/2^k)) w):=by
 by_cases h0:k=0
 ·subst h0
  go_enter Tryd.func108,Tryd.ntmps108
  go_wp2_with fail
  go_ret
  exact⟨_,_,_,rfl,by simpa using ha,Below.refl _ _⟩
 have hne:((k:Int)==0)=false:=by rw[beq_eq_false_iff_ne];omega
 obtain⟨e1,e2,e3⟩:=vQ k hk
 have E1:=Lib.hid e1
 clear e1
 go_enter Tryd.func108,Tryd.ntmps108
 go_wp2_with fail
 rw[E1.out]
 refine(gA _ _ _ _ _ _ ha hn e3 e2).mono ?_
 rintro e w1 ⟨A1,n1,c1,rfl,h1,hb1⟩
 go_wp2_with fail
 go_ret
 exact⟨_,_,_,rfl,by rw[bK (by omega)]at h1;exact h1.u32,hb1⟩
set_option maxHeartbeats 400000 in
theorem Jh (k:Int) (w:World) (h0:0<k) (hn:k≤2199023255552):
  Calls Tryd.prog 124 #[.slice none 0 0,.int .i64 k] w (fP [] w):=by
 obtain⟨n,rfl⟩:=Int.eq_ofNat_of_zero_le (show 0≤k by omega)
 obtain⟨ht,i,hi,hz,hs,hb,hzs,hp⟩:=gX
 have hi1:Tryd.prog.underlying 3=some (.int .i64):=Tryd.underlying3
 have hrun:=Lib.run_append_nil_zeros (P:=Tryd.prog) w 22 3 22 64 i (.int .u32 0) .i64 .i64 ht hi1 hi hz n (by omega) (by omega) (by omega) (by rw[hb];omega)
 have hc:=grownCap_ge w n 0 64
 have hc2:=grownCap_le_maxLen w n 0 64 (by unfold maxLen;omega)
 unfold maxLen at hc2
 have hn0:¬(n:Int)<0:=by omega
 generalize grownCap w n 0 64=cc at*
 go_enter Tryd.func124,Tryd.ntmps124
 go_wp2_with (at_builtin;refine Lib.wpList_append_run _ rfl (.tmp 20) (.tmp 21) _ _ rfl _ _ rfl rfl _ _ hrun ?_)
 go_ret
 refine⟨_,_,_,rfl,⟨⟨rfl,.inr ⟨w.heap.size,cc,_,rfl,Nat.le_refl _,heap_alloc_new w.drew _,Nat.zero_le _,by unfold maxLen;omega,?_,rfl⟩⟩,Lim.nil⟩,((Below.refl _ _).drew).alloc (Nat.le_refl _) _⟩
 simp[size_zeroCells]
 omega
set_option maxHeartbeats 1000000 in
theorem Cf (g:Nat) (A1 A2:Option Addr) (n1 c1 n2 c2:Nat) (xs ys:List Nat) (w:World) (hg:g<w.heap.size) (h0:w.cell? ⟨g,0,none⟩=some (.slice A1 n1 c1)) (h1:w.cell? ⟨g,1,none⟩=some (.slice A2 n2 c2))
  (hx:U32 w w.heap.size A1 n1 c1 xs) (hy:U32 w w.heap.size A2 n2 c2 ys) (b1:n1≤1099511627776) (b2:n2≤1099511627776) (hp:0<n1+n2):
  Calls Tryd.prog 106 #[.slice (some ⟨g,0,none⟩) 2 2] w (fP (xs++ys) w):=by
 go_enter Tryd.func106,Tryd.ntmps106
 go_wp2_with fail
 refine wp_loop_rounds 3 ?_
 rw[rounds_succ]
 go_wp2_with fail
 rw[rounds_succ]
 go_wp2_with fail
 rw[rounds_succ]
 go_wp2_with fail
 refine(Jh _ _ (by omega) (by omega)).mono ?_
 rintro e w1 ⟨A3,n3,c3,rfl,hO,hb1⟩
 obtain rfl:n3=0:=hO.len.symm
 have k0:=(hb1.cell (p:=⟨g,0,none⟩) hg).trans h0
 have k1:=(hb1.cell (p:=⟨g,1,none⟩) hg).trans h1
 have hz1:=hb1.size
 go_wp2_with fail
 refine wp_loop_rounds 3 ?_
 rw[rounds_succ]
 go_wp2_with (at_builtin;refine gC _ gX rfl (.tmp 31) (.tmp 32) rfl w.heap.size _ 0 [] rfl hO.row w.heap.size A1 n1 c1 (cH xs) rfl (hx.rd.below hb1) (lK xs) (by omega) (by omega) hz1 ?_;intro A4 c4 w2 hO2 hg2 _)
 have hb2:=iB hb1 hO.row hg2 hz1 (Nat.le_refl _)
 have k2:=(hb2.cell (p:=⟨g,1,none⟩) hg).trans h1
 have hz2:=hb2.size
 clear hg2
 have hO4:w2.ownsRow w.heap.size 64 1 (.slice A4 n1 c4) n1 (cH xs):=by simpa using hO2
 rw[rounds_succ]
 go_wp2_with (at_builtin;refine gC _ gX rfl (.tmp 31) (.tmp 32) rfl w.heap.size _ n1 _ rfl hO4 w.heap.size A2 n2 c2 (cH ys) rfl (hy.rd.below hb2) (lK ys) (by omega) (by omega) hz2 ?_;intro A5 c5 w3 hO3 hg3 _)
 have hb3:=iB hb2 hO4 hg3 hz2 (Nat.le_refl _)
 rw[rounds_succ]
 go_wp2_with fail
 go_ret
 exact⟨A5,n1+n2,c5,rfl,⟨by simpa[nE]using hO3,hx.lim.append hy.lim⟩,hb3⟩
theorem Lp (w:World):(Instr.makeSlice 22 (.int .i64 0) (.int .i64 0)).run Tryd.prog w=.ok (.slice (some ⟨w.heap.size,0,none⟩) 0 0) (w.alloc (.cells #[] 64)):=by
 obtain⟨ht,i,hi,hz,hs,hb,hzs,hp⟩:=gX
 have hr:=run_make (P:=Tryd.prog) w 22 64 i (.int .u32 0) ht hi hz .i64 .i64 0 0 (by omega) (by omega) (by omega) (by omega)
 have e:madeCells (Value.int .u32 0).cells (0*i.size)= #[]:=by rw[Nat.zero_mul];exact Array.eq_empty_of_size_eq_zero (size_madeCells _ _)
 rw[show(0:Int).toNat*i.size=0*i.size from rfl,e]at hr
 exact hr
theorem nZ (A:Option Addr) (n c:Nat) (k:Int) (xs:List Nat) (w:World) (ha:U32 w w.heap.size A n c xs) (h0:vl 4294967296 xs=0):
  Calls Tryd.prog 78 #[.slice A n c,.int .i64 k] w (nY [] 0 w):=by
 have ht:trim xs=[]:=(cL 4294967296 (by omega) xs).2 h0
 go_enter Tryd.func78,Tryd.ntmps78
 go_wp2_with fail
 refine(bS _ _ _ 0 _ _ _ ha (by rw[ht];rfl)).mono ?_
 rintro e w' ⟨rfl,rfl⟩
 go_wp2_with fail
 go_ret2
 exact⟨_,_,_,rfl,Own.nil,Below.refl _ _⟩
set_option maxHeartbeats 1000000 in
theorem gB (A:Option Addr) (n0 c k v:Nat) (xs:List Nat) (w:World) (ha0:U32 w w.heap.size A n0 c xs) (hv:vl 4294967296 xs=v) (hn0':n0≤1099511627775) (hk:k<32) (h0:v≠0):
    Calls Tryd.prog 78 #[.slice A n0 c,.int .i64 (k:Int)] w (nY (dg 4294967296 (v*2^k)) 0 w):=by
  have ht:trim xs=dg 4294967296 v:=by rw[←hv,cY (by omega) ha0.lim]
  have ha:=ha0.trim
  have hn:=bN xs
  rw[ha0.len]at hn
  obtain⟨n,hn1⟩:∃n,(trim xs).length=n:=⟨_,rfl⟩
  rw[hn1]at ha hn
  have HT:=Lib.hid hn1
  rw[ht]at ha
  have hl:=ha.len
  clear hn1 ht
  have hn0:0<n:=by
    rcases Nat.eq_zero_or_pos n with h | h
    · subst h
      exact absurd ((bV (by omega)).1 (List.eq_nil_of_length_eq_zero hl)) h0
    exact h
  have HL:=Lib.hid hl
  clear hl
  have q1:((n:Int)==0)=false:=by rw[beq_eq_false_iff_ne];omega
  have q2:(k:Int)/32=0:=by omega
  have q3:(k:Int)%32=k:=by omega
  have mk:=Lp
  have q4:IntKind.i64.wrap 0=0:=rfl
  have q5:(k:Int).tmod 32=k:=by rw[Int.tmod_eq_emod_of_nonneg (by omega)];omega
  go_enter Tryd.func78,Tryd.ntmps78
  go_wp2_with fail
  refine(bS _ _ _ n _ _ _ ha0 HT.out).mono ?_
  rintro e w' ⟨rfl,rfl⟩
  go_wp2_with fail
  go_region_held3 (fun w'=>Below w.heap.size w w') ((repeat (first | exact Below.refl _ _ | assumption | refine Below.drew ?_ | refine Below.alloc ?_ (by first | exact Nat.le_refl _ | exact Below.size (by assumption) | (simp;done) | (simp;omega) | omega) _)))
    (first
      | (go_at_call 107
         refine pP (w0:=w) ?_ (fun hB=>?_)
         · (repeat (first | exact Below.refl _ _ | assumption | refine Below.drew ?_ | refine Below.alloc ?_ (by first | exact Nat.le_refl _ | exact Below.size (by assumption) | (simp;done) | (simp;omega) | omega) _))
         refine(zR A n c v k _ (ha.now hB) (by omega) hk).mono ?_
         rintro e w1 ⟨A1,n1,c1,rfl,h1,hb1⟩
         have hb2:=hB.trans (hb1.mono hB.size)
         clear hB hb1)
      | (go_at_call 106
         refine pP (w0:=w) ?_ (fun hB=>?_)
         · (repeat (first | exact Below.refl _ _ | assumption | refine Below.drew ?_ | refine Below.alloc ?_ (by first | exact Nat.le_refl _ | exact Below.size (by assumption) | (simp;done) | (simp;omega) | omega) _))
         refine(Cf _ _ _ _ _ _ _ [] (dg 4294967296 (v*2^k)) _ ?_ (jG _ _ _ 0 ?_) (jG _ _ _ 1 ?_) (U32.empty ?_) (U32.now h1 ?_) ?_ ?_ ?_).mono ?_
         · simp
         · simp
         · simp
         · omega
         · (repeat (first | exact Below.refl _ _ | refine Below.alloc ?_ (by first | exact Nat.le_refl _ | (simp;done)) _))
         · omega
         · have hl:=aM (B:=4294967296) (n:=v*2^k) (k:=n+1) (by omega) (by
             rw[Nat.pow_succ]
             exact Nat.mul_lt_mul_of_lt_of_lt (by rw[←HL.out];exact fL (by omega)) (Nat.lt_of_lt_of_le (Nat.pow_lt_pow_right (by omega) hk) (by decide)))
           rw[h1.len]at hl
           omega
         · have hl:=h1.len
           rcases Nat.eq_zero_or_pos n1 with hz | hz
           · rw[hz]at hl
             have:=(bV (by omega)).1 (List.eq_nil_of_length_eq_zero hl)
             have h2:0<v*2^k:=Nat.mul_pos (by omega) (Nat.pos_of_ne_zero (by simp))
             omega
           omega
         rintro e w2 ⟨A2,n2,c2,rfl,h2,hb3⟩
         have hb4:=hB.trans (hb3.mono hB.size)
         have h3:=h2.base_le hB.size
         clear hB hb3 h2))
  all_goals
    go_wp2_with fail
    go_ret2
    exact⟨_,_,_,rfl,h3,hb4⟩
set_option maxHeartbeats 1000000 in
theorem oB (A:Option Addr) (n0 c k v:Nat) (xs:List Nat) (w:World) (ha0:U32 w w.heap.size A n0 c xs) (hv:vl 4294967296 xs=v) (hn0':n0≤1099511627775) (hk0:0<k) (hk:k<32) (h0:v≠0):
  Calls Tryd.prog 78 #[.slice A n0 c,.int .i64 (-(k:Int))] w (nY (dg 4294967296 (v/2^k)) 0 w):=by
 have ht:trim xs=dg 4294967296 v:=by rw[←hv,cY (by omega) ha0.lim]
 have ha:=ha0.trim
 have hn:=bN xs
 rw[ha0.len]at hn
 obtain⟨n,hn1⟩:∃n,(trim xs).length=n:=⟨_,rfl⟩
 rw[hn1]at ha hn
 have HT:=Lib.hid hn1
 rw[ht]at ha
 have hl:=ha.len
 clear hn1 ht
 have hn0:0<n:=by
  rcases Nat.eq_zero_or_pos n with h | h
  ·subst h
   exact absurd ((bV (by omega)).1 (List.eq_nil_of_length_eq_zero hl)) h0
  exact h
 have HL:=Lib.hid hl
 clear hl
 have hcap:=ha.cap
 have hbig:=ha.big
 have q1:((n:Int)==0)=false:=by rw[beq_eq_false_iff_ne];omega
 have q2:(k:Int)/32=0:=by omega
 have q3:(k:Int)%32=k:=by omega
 go_enter Tryd.func78,Tryd.ntmps78
 go_wp2_with fail
 refine(bS _ _ _ n _ _ _ ha0 HT.out).mono ?_
 rintro e w' ⟨rfl,rfl⟩
 go_wp2_with fail
 refine(xO _ _ _ _ _ _ ha (by omega) hk).mono ?_
 rintro e w1 ⟨A1,n1,c1,rfl,h1,hb1⟩
 go_wp2_with fail
 have hl2:n1≤n:=by
  rw[←h1.len,←HL.out]
  exact cR (by omega) (Nat.div_le_self _ _)
 refine(bS _ _ _ n1 _ _ _ h1 (by rw[uD (by omega)];exact h1.len)).mono ?_
 rintro e w' ⟨rfl,rfl⟩
 go_wp2_with fail
 refine(lU _ _ _ _ _ h1 (by omega)).mono ?_
 rintro e w2 ⟨A2,n2,c2,rfl,h2,hb2⟩
 go_wp2_with fail
 go_ret2
 exact⟨_,_,_,rfl,h2.base_le hb1.size,hb1.trans (hb2.mono hb1.size)⟩
def RowInv (ys os0 os:List Nat) (x i k C:Nat):Prop:=
 C<4294967296∧os.length=os0.length∧vl 4294967296 (os.take (i+k))+4294967296^(i+k)*C=vl 4294967296 (os0.take (i+k))+4294967296^i*(x*vl 4294967296 (ys.take k))∧
  ∀j,i+k≤j→nth os j=nth os0 j
theorem RowInv.zero (ys os0:List Nat) (x i:Nat):RowInv ys os0 os0 x i 0 0:=⟨by omega,rfl,by simp[vl],fun _ _=>rfl⟩
theorem RowInv.lt {ys os0 os:List Nat}{x i k C:Nat}(h:RowInv ys os0 os x i k C):C<4294967296:=h.1
theorem RowInv.step {ys os0 os:List Nat}{x i k C:Nat}(h:RowInv ys os0 os x i k C) (hk:i+k<os.length) (hx:x<4294967296) (hy:Lim 4294967296 ys) (ho:Lim 4294967296 os):
  RowInv ys os0 (os.set (i+k) (bU (x*nth ys k+nth os (i+k)+C))) x i (k+1) (dW (x*nth ys k+nth os (i+k)+C)):=by
 obtain⟨h1,hl,h2,h3⟩:=h
 have y1:=hy.nth (by omega) k
 have o1:=ho.nth (by omega) (i+k)
 have hm:x*nth ys k≤4294967295*4294967295:=Nat.mul_le_mul (by omega) (by omega)
 refine⟨Dt (by omega),by rw[List.length_set,hl],?_,fun j hj=>by rw[eF (by omega)];exact h3 j (by omega)⟩
 rw[←Nat.add_assoc,cP _ _ hk,aG,aG,Nat.pow_succ,h3 (i+k) (Nat.le_refl _)]
 rw[h3 (i+k) (Nat.le_refl _)]at o1
 have e:=xN (x*nth ys k+nth os0 (i+k)+C)
 rw[Nat.pow_add]at*
 generalize 4294967296^i=p at*
 generalize 4294967296^k=r at*
 generalize bU (x*nth ys k+nth os0 (i+k)+C)=s at*
 generalize dW (x*nth ys k+nth os0 (i+k)+C)=q at*
 have e2:p*r*(s+4294967296*q)=p*r*(x*nth ys k+nth os0 (i+k)+C):=by rw[e]
 grind
def ProdInv (xs ys os:List Nat) (i:Nat):Prop:=
 os.length=xs.length+ys.length∧vl 4294967296 (os.take (i+ys.length))=vl 4294967296 (xs.take i)*vl 4294967296 ys∧∀j,i+ys.length≤j→nth os j=0
theorem qR (n j:Nat):nth (List.replicate n 0) j=0:=by
 unfold nth
 rw[List.getD_eq_getElem?_getD,List.getElem?_replicate]
 split <;> rfl
theorem ProdInv.zero (xs ys:List Nat):ProdInv xs ys (List.replicate (xs.length+ys.length) 0) 0:=
 ⟨by simp,by rw[List.take_replicate,rD];simp[vl],fun _ _=>qR _ _⟩
theorem ProdInv.step {xs ys os0 os:List Nat}{i C:Nat}(h:ProdInv xs ys os0 i) (hi:i<xs.length) (hr:RowInv ys os0 os (nth xs i) i ys.length C):ProdInv xs ys (os.set (i+ys.length) C) (i+1):=by
 obtain⟨h1,h2,h3⟩:=h
 obtain⟨r1,rl,r2,r3⟩:=hr
 refine⟨by rw[List.length_set,rl,h1],?_,fun j hj=>by rw[eF (by omega),r3 j (by omega)];exact h3 j (by omega)⟩
 rw[show i+1+ys.length=i+ys.length+1 from by omega,cP _ _ (by omega),r2,h2,aG,aN _ (Nat.le_refl _)]
 generalize 4294967296^i=p at*
 grind
theorem ProdInv.end_ {xs ys os:List Nat}(h:ProdInv xs ys os xs.length):vl 4294967296 os=vl 4294967296 xs*vl 4294967296 ys:=by
 obtain⟨h1,h2,_⟩:=h
 rw[aN _ (by omega),aN _ (Nat.le_refl _)]at h2
 exact h2
set_option maxHeartbeats 2000000 in
theorem Fi (A B:Option Addr) (n m c d:Nat) (xs ys:List Nat) (w:World) (ha:U32 w w.heap.size A n c xs) (hb:U32 w w.heap.size B m d ys) (hn:n≤549755813888) (hm:m≤549755813888):
  Calls Tryd.prog 49 #[.slice A n c,.slice B m d] w (fP (dg 4294967296 (vl 4294967296 xs*vl 4294967296 ys)) w):=by
 have Hx:=Lib.hid ha.len
 have Hy:=Lib.hid hb.len
 go_enter Tryd.func49,Tryd.ntmps49
 go_wp2_with (refine fQ _ gX rfl (.tmp 16) (.tmp 16) rfl .i64 .i64 _ _ (n+m) rfl rfl (by omega) (by omega) (by omega) (by omega) ?_;intro w1 hown hb1 hz1)
 have hO:=Own.made hown
 clear hown
 go_wp2_with fail
 go_loopw [20] (fun i wr=>∃(k:Nat) (os:List Nat),k≤n∧i=.int .i64 (k:Int)∧Own 64 wr w.heap.size (some ⟨w.heap.size,0,none⟩) (n+m) (n+m) os∧ProdInv xs ys os k∧Below w.heap.size w wr∧w.heap.size<wr.heap.size) (fun i _=>n-(intOf i).toNat)
 case atStart=>exact⟨0,_,Nat.zero_le _,rfl,hO,by have:=ProdInv.zero xs ys;rwa[Hx.out,Hy.out]at this,hb1,hz1⟩
 case round=>
  obtain⟨i,os,hi,rfl,hown,hI,hbw,hz⟩:=hrel
  by_cases hlt:i<n
  ·obtain⟨b,o,sp,rfl,hbb,hcc⟩:=(ha.below hbw).at_ hlt
   have hx1:=ha.lim.nth (by omega) i
   go_wp2_with fail
   obtain⟨wo,rfl⟩:∃wo:World,wo=wr:=⟨_,rfl⟩
   have hx2:(0:Int)≤(nth xs i:Int):=by omega
   go_loopw [8,27] (fun cy kk wr=>∃(k C:Nat) (oz:List Nat),k≤m∧kk=.int .i64 (k:Int)∧cy=.int .u64 (C:Int)∧Own 64 wr w.heap.size (some ⟨w.heap.size,0,none⟩) (n+m) (n+m) oz∧RowInv ys os oz (nth xs i) i k C∧Below w.heap.size w wr∧w.heap.size<wr.heap.size) (fun _ kk _=>m-(intOf kk).toNat)
   case atStart=>exact⟨0,0,os,Nat.zero_le _,rfl,rfl,hown,RowInv.zero _ _ _ _,hbw,hz⟩
   case round=>
    obtain⟨k,C,oz,hk,rfl,rfl,hown2,hR,hbw2,hz2⟩:=hrel
    have hC:=hR.lt
    by_cases hlk:k<m
    ·obtain⟨b2,o2,sp2,rfl,hbb2,hcc2⟩:=(hb.below hbw2).at_ hlk
     have hy1:=hb.lim.nth (by omega) k
     have ho0:=hown2.cell (show i+k<n+m by omega)
     have ho1:=hown2.lim.nth (by omega) (i+k)
     have ho2:=hown2.frozen (i+k)
     obtain⟨p0,p1⟩:=sV (nth xs i:Int) (nth ys k:Int) (by omega) (by omega) (by omega) (by omega)
     have hset:=hown2.set (i+k) (v:=bU (nth xs i*nth ys k+nth oz (i+k)+C)) (lV _)
     have hstep:=hR.step (by rw[hown2.len];omega) hx1 hb.lim hown2.lim
     go_wp2_with fail
     go_roundw
     case rel=>exact⟨k+1,_,_,by omega,by go_num,rfl,hset,hstep,hbw2.setCell (Nat.le_refl _) _,by simpa using hz2⟩
     case measure=>simp[intOf];omega
    obtain rfl:k=m:=by omega
    have ho0:=hown2.cell (show i+k<n+k by omega)
    have ho2:=hown2.frozen (i+k)
    have hset:=hown2.set (i+k) (v:=C) hC
    have hR2:=hR
    rw[←Hy.out]at hR2
    have hstep:=hI.step (by rw[Hx.out];exact hlt) hR2
    rw[Hy.out]at hstep
    clear hR2
    go_wp2_with fail
    go_roundw
    case rel=>exact⟨i+1,_,by omega,by go_num,hset,hstep,hbw2.setCell (Nat.le_refl _) _,by simpa using hz2⟩
    case measure=>simp[intOf];omega
  obtain rfl:i=n:=by omega
  have hI2:=hI
  rw[←Hx.out]at hI2
  have hend:=Lib.hid hI2.end_
  clear hI2
  go_wp2_with fail
  refine(cB _ _ _ os _ hown.u32 (by omega)).mono ?_
  rintro e w2 ⟨A2,n2,c2,rfl,h2,hb2⟩
  go_wp2_with fail
  go_ret
  exact⟨_,_,_,rfl,by rw[←hend.out,cY (by omega) hown.lim];exact h2.base_le hbw.size,hbw.trans (hb2.mono hbw.size)⟩
def bX (u3 v2:Nat):Nat:=min 4294967295 (u3/v2)
def GuessInv (hi mid low first second q r:Nat):Prop:=
 q*first+r=hi*4294967296+mid∧r<4294967296∧bX ((hi*4294967296+mid)*4294967296+low) (first*4294967296+second)≤q∧q≤4294967297
theorem mB (u v:Nat):u/v*v≤u:=Nat.div_mul_le_self u v
theorem GuessInv.start {hi mid low first second:Nat}(h0:2147483648≤first) (hf:first<4294967296) (hh:hi≤first) (hm:mid<4294967296) (hl:low<4294967296):
  GuessInv hi mid low first second ((hi*4294967296+mid)/first) ((hi*4294967296+mid)%first):=by
 have hp:0<first:=by omega
 have hmod:=Nat.mod_lt (hi*4294967296+mid) hp
 refine⟨by rw[Nat.mul_comm];exact Nat.div_add_mod _ _,by omega,?_,?_⟩
 ·unfold bX
  refine Nat.le_trans (Nat.min_le_right _ _) ?_
  rw[Nat.le_div_iff_mul_le hp]
  have h1:=mB ((hi*4294967296+mid)*4294967296+low) (first*4294967296+second)
  generalize ((hi*4294967296+mid)*4294967296+low)/(first*4294967296+second)=q at*
  have h2:q*first*4294967296≤q*(first*4294967296+second):=by
   rw[Nat.mul_assoc];exact Nat.mul_le_mul_left _ (by omega)
  omega
 have:hi*4294967296+mid<(4294967297+1)*first:=by
  have:hi*4294967296≤first*4294967296:=Nat.mul_le_mul_right _ hh
  omega
 have:=Nat.div_lt_of_lt_mul (m:=hi*4294967296+mid) (n:=first) (k:=4294967298) (by omega)
 omega
theorem zS {B two low r x y z:Nat}(e:z=y*B+x) (h1:y+r=two) (hc:r*B+low<x):two*B+low<z:=by
 subst h1;subst e;rw[Nat.add_mul];omega
theorem GuessInv.down {hi mid low first second q r:Nat}(h:GuessInv hi mid low first second q r) (hc:4294967295<q∨r*4294967296+low<q*second):
  1≤q∧(q-1)*first+(r+first)=hi*4294967296+mid∧bX ((hi*4294967296+mid)*4294967296+low) (first*4294967296+second)≤q-1:=by
 obtain⟨h1,h2,h3,h4⟩:=h
 have hq:1≤q:=by
  rcases hc with hc | hc
  ·omega
  rcases Nat.eq_zero_or_pos q with h | h
  ·subst h;omega
  exact h
 refine⟨hq,?_,?_⟩
 ·have:(q-1)*first+first=q*first:=by rw[←Nat.succ_mul,show(q-1).succ=q by omega]
  omega
 rcases hc with hc | hc
 ·unfold bX;omega
 have hlt:bX ((hi*4294967296+mid)*4294967296+low) (first*4294967296+second)<q:=by
  unfold bX
  refine Nat.lt_of_le_of_lt (Nat.min_le_right _ _) ?_
  have e:q*(first*4294967296+second)=q*first*4294967296+q*second:=by rw[Nat.mul_add,Nat.mul_assoc]
  have hu:(hi*4294967296+mid)*4294967296+low<q*(first*4294967296+second):=by
   exact zS e h1 hc
  have hv:0<first*4294967296+second:=by
   rcases Nat.eq_zero_or_pos (first*4294967296+second)with h | h
   ·rw[h]at hu;omega
   exact h
  exact(Nat.div_lt_iff_lt_mul hv).2 hu
 omega
theorem GuessInv.next {hi mid low first second q r:Nat}(h:GuessInv hi mid low first second q r) (hc:4294967295<q∨r*4294967296+low<q*second) (hr:r+first<4294967296):
  GuessInv hi mid low first second (q-1) (r+first):=by
 obtain⟨d1,d2,d3⟩:=h.down hc
 exact⟨d2,hr,d3,by have:=h.2.2.2;omega⟩
theorem sX {u v q:Nat}(hv:0<v) (h1:q≤4294967295) (h2:q*v≤u):q≤bX u v:=by
 unfold bX
 have:=(Nat.le_div_iff_mul_le hv).2 h2
 omega
theorem GuessInv.brk {hi mid low first second q r:Nat}(h:GuessInv hi mid low first second q r) (hc:4294967295<q∨r*4294967296+low<q*second) (hr:4294967296≤r+first)
  (h0:2147483648≤first) (hh:hi≤first) (hm:mid<4294967296) (hs:second<4294967296):
  q-1=bX ((hi*4294967296+mid)*4294967296+low) (first*4294967296+second):=by
 obtain⟨d1,d2,d3⟩:=h.down hc
 refine Nat.le_antisymm ?_ d3
 have hq:q-1≤4294967295:=by
  rcases Nat.lt_or_ge 4294967295 (q-1)with h | h
  ·have h1:4294967296*first≤(q-1)*first:=Nat.mul_le_mul_right _ (by omega)
   have h2:hi*4294967296≤first*4294967296:=Nat.mul_le_mul_right _ hh
   omega
  exact h
 refine sX (by omega) hq ?_
 have e:(q-1)*(first*4294967296+second)=(q-1)*first*4294967296+(q-1)*second:=by rw[Nat.mul_add,Nat.mul_assoc]
 have hb:(q-1)*second≤4294967295*4294967295:=Nat.mul_le_mul hq (by omega)
 rw[e]
 omega
theorem GuessInv.done {hi mid low first second q r:Nat}(h:GuessInv hi mid low first second q r) (h1:q≤4294967295) (h2:q*second≤r*4294967296+low) (hf:0<first):
  q=bX ((hi*4294967296+mid)*4294967296+low) (first*4294967296+second):=by
 refine Nat.le_antisymm (sX (by omega) h1 ?_) h.2.2.1
 have e:q*(first*4294967296+second)=q*first*4294967296+q*second:=by rw[Nat.mul_add,Nat.mul_assoc]
 have:=h.1
 rw[e]
 omega
theorem xP {u v u3 v2 p ul vl':Nat}(hu:u=u3*p+ul) (hul:ul<p) (hv:v=v2*p+vl') (hvl:vl'<p) (hv2:4294967296≤v2) (hlt:u<v*4294967296):
  u/v≤bX u3 v2∧bX u3 v2≤u/v+1:=by
 have hp:0<p:=by omega
 have hvp:0<v:=by
  have:0<v2*p:=Nat.mul_pos (by omega) hp
  omega
 constructor
 ·unfold bX
  have h1:u/v<4294967296:=(Nat.div_lt_iff_lt_mul hvp).2 (by rw[Nat.mul_comm];exact hlt)
  have h2:u/v≤u3/v2:=by
   rw[Nat.le_div_iff_mul_le (by omega)]
   have h3:=mB u v
   generalize u/v=q at*
   have h4:q*v2*p≤q*v:=by rw[Nat.mul_assoc,hv];exact Nat.mul_le_mul_left _ (by omega)
   have h5:q*v2*p<(u3+1)*p:=by rw[Nat.add_mul];omega
   have:=Nat.lt_of_mul_lt_mul_right h5
   omega
  omega
 have hg1:bX u3 v2≤4294967295:=Nat.min_le_left _ _
 have hg2:bX u3 v2*v2≤u3:=by
  have:bX u3 v2≤u3/v2:=Nat.min_le_right _ _
  exact(Nat.le_div_iff_mul_le (by omega)).1 this
 generalize bX u3 v2=q at*
 rcases Nat.eq_zero_or_pos q with h | h
 ·rw[h];exact Nat.zero_le _
 have h6:q-1≤u/v:=by
  rw[Nat.le_div_iff_mul_le hvp]
  have h7:q*v2*p≤u3*p:=Nat.mul_le_mul_right _ hg2
  have h8:q*v=q*v2*p+q*vl':=by rw[hv,Nat.mul_add,Nat.mul_assoc]
  have h9:q*vl'≤4294967295*p:=Nat.mul_le_mul hg1 (by omega)
  have h10:4294967296*p≤v2*p:=Nat.mul_le_mul_right _ hv2
  have h11:(q-1)*v+v=q*v:=by rw[←Nat.succ_mul,show(q-1).succ=q by omega]
  omega
 generalize u/v=j at*
 omega
theorem vR (h l:Nat) (h1:h<4294967296) (l1:l<4294967296):bits BinOp.or IntKind.u64 ((h:Int)*4294967296) (l:Int)=(h:Int)*4294967296+(l:Int):=
 zM _ _ (by omega) (by omega) (by omega) (by omega)
theorem vS {q s:Nat}(h1:q≤4294967295) (h2:s<4294967296):(0:Int)≤(q:Int)*(s:Int)∧(q:Int)*(s:Int)≤18446744065119617025:=
 sV _ _ (by omega) (by omega) (by omega) (by omega)
set_option maxHeartbeats 1000000 in
theorem zT (hi mid low first second:Nat) (w:World) (h0:2147483648≤first) (hf:first<4294967296) (hh:hi≤first) (hm:mid<4294967296) (hl:low<4294967296) (hs:second<4294967296):
  Calls Tryd.prog 79 #[.int .u32 (hi:Int),.int .u32 (mid:Int),.int .u32 (low:Int),.int .u32 (first:Int),.int .u32 (second:Int)] w fun e w'=>
   e=.returned (.int .u64 (bX ((hi*4294967296+mid)*4294967296+low) (first*4294967296+second):Nat))∧∃k,w'=w.drewN k:=by
 have hs0:=GuessInv.start (low:=low) (second:=second) h0 hf hh hm hl
 have e1:=vR hi mid (by omega) hm
 have n1:¬(first:Int)=0:=by omega
 go_enter Tryd.func79,Tryd.ntmps79
 go_wp2_with fail
 go_step3
 go_wp2_with fail
 go_quiet (fail)
 clear e1 n1
 go_wp2_with fail
 go_step3
 go_wp2_with fail
 go_loop [12,13] (fun a b=>∃q r:Nat,a=.int .u64 (q:Int)∧b=.int .u64 (r:Int)∧GuessInv hi mid low first second q r) (fun a _=>(intOf a).toNat)
 case atStart=>exact⟨_,_,rfl,rfl,hs0⟩
 case round=>
  obtain⟨q,r,rfl,rfl,hI⟩:=hrel
  have hr:=hI.2.1
  have hq:=hI.2.2.2
  by_cases hc:4294967295<q
  ·obtain⟨d1,d2,d3⟩:=hI.down (.inl hc)
   by_cases hb:r+first<4294967296
   ·have hn:=hI.next (.inl hc) hb
    clear hI d2 d3
    have c1:decide ((4294967295:Int)<(q:Int))=true:=by simp;omega
    go_wp2_with fail
    go_round
    case rel=>exact⟨q-1,r+first,by go_num,by go_num,hn⟩
    case measure=>simp[intOf];omega
   have hn:=hI.brk (.inl hc) (by omega) h0 hh hm hs
   have Hn:=Lib.hid hn
   clear hI d2 d3 hn
   have c1:decide ((4294967295:Int)<(q:Int))=true:=by simp;omega
   go_wp2_with fail
   go_ret
   exact⟨by rw[←Hn.out];go_num,_,rfl⟩
  have c1:decide ((4294967295:Int)<(q:Int))=false:=by simp;omega
  have e2:=vR r low hr hl
  obtain⟨p0,p1⟩:=vS (q:=q) (s:=second) (by omega) hs
  by_cases hc2:r*4294967296+low<q*second
  ·obtain⟨d1,d2,d3⟩:=hI.down (.inr hc2)
   have c2:(r:Int)*4294967296+(low:Int)<(q:Int)*(second:Int):=by
    have:((r*4294967296+low:Nat):Int)<((q*second:Nat):Int):=by omega
    simpa using this
   by_cases hb:r+first<4294967296
   ·have hn:=hI.next (.inr hc2) hb
    clear hI d2 d3
    go_wp2_with fail
    go_round
    case rel=>exact⟨q-1,r+first,by go_num,by go_num,hn⟩
    case measure=>simp[intOf];omega
   have hn:=hI.brk (.inr hc2) (by omega) h0 hh hm hs
   have Hn:=Lib.hid hn
   clear hI d2 d3 hn
   go_wp2_with fail
   go_ret
   exact⟨by rw[←Hn.out];go_num,_,rfl⟩
  have hn:=Lib.hid (hI.done (by omega) (by omega) (by omega))
  have c2:¬(r:Int)*4294967296+(low:Int)<(q:Int)*(second:Int):=by
   have:¬((r*4294967296+low:Nat):Int)<((q*second:Nat):Int):=by omega
   simpa using this
  clear hI
  go_wp2_with fail
  go_ret
  exact⟨by rw[←hn.out];rfl,_,rfl⟩
def TakeInv (ax os ys:List Nat) (q k C b:Nat):Prop:=
 C≤4294967295∧b≤1∧os.length=ax.length∧vl 4294967296 (os.take k)+q*vl 4294967296 (ys.take k)=vl 4294967296 (ax.take k)+4294967296^k*(C+b)∧(∀j,k≤j→nth os j=nth ax j)∧(ys.length<k→C=0)
theorem TakeInv.zero (ax ys:List Nat) (q:Nat):TakeInv ax ax ys q 0 0 0:=⟨by omega,by omega,rfl,by simp[vl],fun _ _=>rfl,fun _=>rfl⟩
theorem TakeInv.at_ {ax os ys:List Nat}{q k C b:Nat}(h:TakeInv ax os ys q k C b):nth os k=nth ax k:=h.2.2.2.2.1 k (Nat.le_refl _)
theorem Fj {q y C:Nat}(hq:q≤4294967295) (hy:y<4294967296) (hC:C≤4294967295):q*y+C≤18446744069414584320:=by
 have:q*y≤4294967295*4294967295:=Nat.mul_le_mul hq (by omega)
 omega
theorem TakeInv.step {ax os ys:List Nat}{q k C b:Nat}(h:TakeInv ax os ys q k C b) (hk:k<ax.length) (hq:q≤4294967295) (ha:Lim 4294967296 ax) (hy:Lim 4294967296 ys):
  TakeInv ax (os.set k (fZ (nth ax k) (bU (q*nth ys k+C)) b)) ys q (k+1) (dW (q*nth ys k+C)) (gZ (nth ax k) (bU (q*nth ys k+C)) b):=by
 obtain⟨h1,h2,h3,h4,h5,h6⟩:=h
 have y1:=hy.nth (by omega) k
 have a1:=ha.nth (by omega) k
 have hp:=Fj hq y1 h1
 have e:=zP a1 (lV (q*nth ys k+C)) h2
 have e1:=xN (q*nth ys k+C)
 have hh:=Dt (n:=q*nth ys k+C) (by omega)
 refine⟨by omega,vP _ _ _,by rw[List.length_set,h3],?_,fun j hj=>by rw[eF (by omega)];exact h5 j (by omega),fun hj=>?_⟩
 ·rw[cP _ _ (by omega),aG,aG,Nat.pow_succ]
  generalize 4294967296^k=p at*
  generalize fZ (nth ax k) (bU (q*nth ys k+C)) b=s at*
  generalize gZ (nth ax k) (bU (q*nth ys k+C)) b=t at*
  generalize bU (q*nth ys k+C)=l at*
  generalize dW (q*nth ys k+C)=m at*
  have e2:p*(s+l+b)=p*(nth ax k+4294967296*t):=by rw[e]
  have e3:p*(l+4294967296*m)=p*(q*nth ys k+C):=by rw[e1]
  grind
 rw[eO (by omega),Nat.mul_zero,Nat.zero_add]
 unfold dW
 omega
theorem zU {u v q r:Nat}(hv:0<v) (h:r+q*v=u) (hr:r<v):q=u/v∧r=u%v:=by
 subst h
 rw[Nat.mul_comm q v,Nat.add_mul_div_left _ _ hv,Nat.add_mul_mod_self_left,Nat.div_eq_of_lt hr,Nat.mod_eq_of_lt hr]
 exact⟨by omega,rfl⟩
theorem TakeInv.right {ax os ys:List Nat}{q n C:Nat}(h:TakeInv ax os ys q n C 0) (hn:ys.length<n) (hq:vl 4294967296 (ax.take n)/vl 4294967296 ys≤q) (hv:0<vl 4294967296 ys):
  q=vl 4294967296 (ax.take n)/vl 4294967296 ys∧vl 4294967296 (os.take n)=vl 4294967296 (ax.take n)%vl 4294967296 ys:=by
 obtain⟨h1,h2,h3,h4,h5,h6⟩:=h
 rw[h6 hn,aN 4294967296 (l:=ys) (by omega)]at h4
 simp only[Nat.add_zero,Nat.mul_zero]at h4
 refine zU hv h4 ?_
 generalize vl 4294967296 (ax.take n)=u at*
 generalize vl 4294967296 (os.take n)=r at*
 generalize vl 4294967296 ys=v at*
 rcases Nat.lt_or_ge r v with h | h
 ·exact h
 have h7:(q+1)*v≤u:=by rw[Nat.succ_mul];omega
 have:=(Nat.le_div_iff_mul_le hv).2 h7
 omega
theorem TakeInv.over {ax os ys:List Nat}{q n C:Nat}(h:TakeInv ax os ys q n C 1) (hn:ys.length<n) (hl:n≤os.length) (hos:Lim 4294967296 os) (hys:Lim 4294967296 ys)
  (hq2:q≤vl 4294967296 (ax.take n)/vl 4294967296 ys+1) (hv:0<vl 4294967296 ys):
  1≤q∧q-1=vl 4294967296 (ax.take n)/vl 4294967296 ys∧∀r c,r<4294967296^n→c≤1→r+4294967296^n*c=vl 4294967296 (os.take n)+vl 4294967296 ys→r=vl 4294967296 (ax.take n)%vl 4294967296 ys:=by
 obtain⟨h1,h2,h3,h4,h5,h6⟩:=h
 rw[h6 hn,aN 4294967296 (l:=ys) (by omega)]at h4
 have ho:=cW (hos.take n)
 rw[List.length_take,Nat.min_eq_left hl]at ho
 have hy:=cW hys
 have hp:4294967296^ys.length≤4294967296^n:=Nat.pow_le_pow_right (by omega) (by omega)
 simp only[Nat.zero_add,Nat.mul_one]at h4
 generalize vl 4294967296 (ax.take n)=u at*
 generalize vl 4294967296 (os.take n)=o at*
 generalize vl 4294967296 ys=v at*
 generalize 4294967296^n=p at*
 have hq3:u<q*v:=by omega
 have hdm:=Nat.div_add_mod u v
 have hml:=Nat.mod_lt u hv
 have hq4:u/v<q:=by
  rcases Nat.lt_or_ge (u/v) q with h | h
  ·exact h
  have:q*v≤u/v*v:=Nat.mul_le_mul_right _ h
  rw[Nat.mul_comm (u/v)]at this
  omega
 generalize u/v=z at*
 generalize u%v=y at*
 obtain rfl:q=z+1:=by omega
 refine⟨by omega,by omega,fun r c hr hc he=>?_⟩
 rw[Nat.succ_mul,Nat.mul_comm z]at h4
 have hc':c=0∨c=1:=by omega
 rcases hc' with rfl | rfl
 ·omega
 omega
theorem sY (a l b:Int) (a0:0≤a) (a1:a<4294967296) (l0:0≤l) (l1:l<4294967296) (b0:0≤b) (b1:b≤1):
  IntKind.u64.wrap (IntKind.u64.wrap (a-l)-b)=if a<l+b then a-l-b+18446744073709551616 else a-l-b:=by
 rw[IntKind.wrap_u64,IntKind.wrap_u64]
 split <;> omega
theorem vT (a p b:Nat) (P:Int) (hP:P=(p:Int)) (a1:a<4294967296) (b1:b≤1):
  IntKind.u64.wrap (IntKind.u64.wrap ((a:Int)-P%4294967296)-(b:Int))%4294967296=((fZ a (bU p) b:Nat):Int):=by
 subst hP
 rw[sY _ _ _ (by omega) (by omega) (by omega) (by omega) (by omega) (by omega)]
 unfold fZ bU
 split <;> omega
theorem sZ (a p b:Nat) (P:Int) (hP:P=(p:Int)) (a1:a<4294967296) (b1:b≤1):
  IntKind.u64.wrap (IntKind.u64.wrap ((a:Int)-P%4294967296)-(b:Int))/9223372036854775808=((gZ a (bU p) b:Nat):Int):=by
 subst hP
 rw[sY _ _ _ (by omega) (by omega) (by omega) (by omega) (by omega) (by omega)]
 unfold gZ bU
 split <;> split <;> omega
theorem Cg (a l b:Nat) (a1:a<4294967296) (hl:l≤4294967295) (b1:b≤1):
  IntKind.u64.wrap (IntKind.u64.wrap ((a:Int)-(l:Int))-(b:Int))%4294967296=((fZ a (bU l) b:Nat):Int):=by
 have:=vT a l b l rfl a1 b1
 rwa[show(l:Int)%4294967296=l by omega]at this
theorem zV (a l b:Nat) (a1:a<4294967296) (hl:l≤4294967295) (b1:b≤1):
  IntKind.u64.wrap (IntKind.u64.wrap ((a:Int)-(l:Int))-(b:Int))/9223372036854775808=((gZ a (bU l) b:Nat):Int):=by
 have:=sZ a l b l rfl a1 b1
 rwa[show(l:Int)%4294967296=l by omega]at this
theorem cV (l:List Nat) (i k:Nat):nth (l.drop i) k=nth l (i+k):=by
 unfold nth;rw[List.getD_eq_getElem?_getD,List.getD_eq_getElem?_getD,List.getElem?_drop]
theorem mC (l:List Nat) (i k v:Nat):(l.set (i+k) v).drop i=(l.drop i).set k v:=by
 rw[List.drop_set,if_neg (by omega),show i+k-i=k by omega]
theorem mD (l:List Nat) (i k v:Nat):(l.set (i+k) v).take i=l.take i:=by
 rw[List.take_set,List.set_eq_of_length_le (by rw[List.length_take];omega)]
def BackInv (o1 os ys:List Nat) (k C:Nat):Prop:=AddInv o1 ys os k C∧os.length=o1.length∧∀j,k≤j→nth os j=nth o1 j
theorem BackInv.zero (o1 ys:List Nat):BackInv o1 o1 ys 0 0:=⟨AddInv.zero _ _ _,rfl,fun _ _=>rfl⟩
theorem BackInv.at_ {o1 os ys:List Nat}{k C:Nat}(h:BackInv o1 os ys k C):nth os k=nth o1 k:=h.2.2 k (Nat.le_refl _)
theorem BackInv.step {o1 os ys:List Nat}{k C:Nat}(h:BackInv o1 os ys k C) (hk:k<o1.length) (hx:Lim 4294967296 o1) (hy:Lim 4294967296 ys):
  BackInv o1 (os.set k (bU (nth o1 k+nth ys k+C))) ys (k+1) (dW (nth o1 k+nth ys k+C)):=
 ⟨h.1.step (by rw[h.2.1];exact hk) hx hy,by rw[List.length_set];exact h.2.1,fun j hj=>by rw[eF (by omega)];exact h.2.2 j (by omega)⟩
def Fk (t:TypeId) (g off N c base n:Nat) (ax ys:List Nat) (w:World) (e:Ending) (w':World):Prop:=
 ∃os,e=.returned (.int .u32 ((vl 4294967296 ((ax.drop off).take n)/vl 4294967296 ys:Nat):Int))∧Own t w' base (some ⟨g,0,none⟩) N c os∧os.take off=ax.take off∧
  (∀j,off+n≤j→nth os j=nth ax j)∧vl 4294967296 ((os.drop off).take n)=vl 4294967296 ((ax.drop off).take n)%vl 4294967296 ys∧w.grownBy w' (some g)
set_option maxHeartbeats 2000000 in
theorem Ch (g off N m c d cc q:Nat) (B:Option Addr) (ax ys:List Nat) (n base:Nat) (w:World) (ha:Own 64 w base (some ⟨g,0,none⟩) N c ax) (hoff:off+n≤N) (hN:N≤1099511627776)
  (hb:U32 w g B m d ys) (hm:m<n) (hq:q≤4294967295) (hv:0<vl 4294967296 ys)
  (hq1:vl 4294967296 ((ax.drop off).take n)/vl 4294967296 ys≤q) (hq2:q≤vl 4294967296 ((ax.drop off).take n)/vl 4294967296 ys+1):
  Calls Tryd.prog 80 #[.slice (some ⟨g,off,none⟩) n cc,.slice B m d,.int .u64 (q:Int)] w (Fk 64 g off N c base n ax ys w):=by
 have HA:=Lib.hid ha.len
 have HB:=Lib.hid hb.len
 have hgs:g≤w.heap.size:=by
  obtain⟨g2,e,_,h2⟩:=ha.form (by omega)
  injection e with e;injection e with e;omega
 go_enter Tryd.func80,Tryd.ntmps80
 go_wp2_with fail
 go_loopw [7,8,18] (fun cy bo i wr=>∃(k C b:Nat) (os:List Nat),k≤n∧i=.int .i64 (k:Int)∧cy=.int .u64 (C:Int)∧bo=.int .u64 (b:Int)∧Own 64 wr base (some ⟨g,0,none⟩) N c os∧Hid (os.take off=ax.take off)∧TakeInv (ax.drop off) (os.drop off) ys q k C b∧w.grownBy wr (some g)) (fun _ _ i _=>n-(intOf i).toNat)
 case atStart=>exact⟨0,0,0,ax,Nat.zero_le _,rfl,rfl,rfl,ha,rfl,TakeInv.zero _ _ _,pR _ _⟩
 case round=>
  obtain⟨k,C,b,os,hk,rfl,rfl,rfl,hown,ht,hI,hgr⟩:=hrel
  have hbw:=jH hgr hgs
  by_cases hlt:k<n
  ·have ho1:=hown.cell (show off+k<N by omega)
   have ho2:=hown.frozen (off+k)
   have ho3:=hown.lim.nth (by omega) (off+k)
   have hC:=hI.1
   have hb1:=hI.2.1
   have hat:=hI.at_
   rw[cV,cV]at hat
   have Hat:=Lib.hid hat
   have hset:=hown.set (off+k) (v:=fZ (nth os (off+k)) (bU (q*nth ys k+C)) b) (Fh _ _ _)
   have hstep:=hI.step (by rw[List.length_drop,HA.out];omega) hq (ha.lim.drop off) hb.lim
   rw[cV,←hat,←mC]at hstep
   clear hat
   have hts:=mD os off k (fZ (nth os (off+k)) (bU (q*nth ys k+C)) b)
   rw[ht.out]at hts
   have Hts:=Lib.hid hts
   clear hts
   by_cases hkm:k<m
   ·obtain⟨b2,o2,sp2,rfl,hbb2,hcc2⟩:=(hb.below hbw).at_ hkm
    have hy1:=hb.lim.nth (by omega) k
    obtain⟨p0,p1⟩:=vS hq hy1
    go_wp2_with fail
    go_roundw
    case rel=>
     rw[vT (nth os (off+k)) (q*nth ys k+C) b ((q:Int)*(nth ys k:Int)+(C:Int)) (by simp) ho3 hb1,sZ (nth os (off+k)) (q*nth ys k+C) b ((q:Int)*(nth ys k:Int)+(C:Int)) (by simp) ho3 hb1]
     exact⟨k+1,_,_,_,by omega,by go_num,rfl,rfl,hset,Hts,hstep,gN hgr _ _⟩
    case measure=>simp[intOf];omega
   have hy0:nth ys k=0:=eO (by rw[HB.out];omega)
   rw[hy0,Nat.mul_zero,Nat.zero_add]at hset hstep Hts
   clear hy0
   go_wp2_with fail
   go_roundw
   case rel=>
    rw[Cg (nth os (off+k)) C b ho3 hC hb1,zV (nth os (off+k)) C b ho3 hC hb1]
    exact⟨k+1,_,_,_,by omega,by go_num,rfl,rfl,hset,Hts,hstep,gN hgr _ _⟩
   case measure=>simp[intOf];omega
  obtain rfl:k=n:=by omega
  have hb1:=hI.2.1
  have hhi:∀j,off+k≤j→nth os j=nth ax j:=fun j hj=>by
   have:=hI.2.2.2.2.1 (j-off) (by omega)
   rwa[cV,cV,show off+(j-off)=j by omega]at this
  have Hhi:=Lib.hid hhi
  clear hhi
  rcases(show b=0∨b=1 by omega)with rfl | rfl
  ·obtain⟨r1,r2⟩:=hI.right (by rw[HB.out];exact hm) hq1 hv
   have R1:=Lib.hid r1
   have R2:=Lib.hid r2
   clear r1 r2 hI hq1 hq2
   go_wp2_with fail
   go_ret
   exact⟨os,by rw[←R1.out];rfl,hown,ht.out,Hhi.out,R2.out,hgr⟩
  obtain⟨hq0,r1,r2⟩:=hI.over (by rw[HB.out];exact hm) (by rw[List.length_drop,hown.len];omega) (hown.lim.drop off) hb.lim hq2 hv
  have R1:=Lib.hid r1
  have R2:=Lib.hid r2
  have HO:=Lib.hid hown.len
  have hol:=hown.lim.drop off
  clear r1 r2 hI hq1 hq2
  obtain⟨wo,rfl⟩:∃wo:World,wo=wr:=⟨_,rfl⟩
  rw[show((1:Nat):Int)=1 from rfl]
  go_wp2_with fail
  go_loopw [13,62] (fun cy i wr=>∃(j C2:Nat) (oz:List Nat),j≤k∧i=.int .i64 (j:Int)∧cy=.int .u32 (C2:Int)∧Own 64 wr base (some ⟨g,0,none⟩) N c oz∧Hid (oz.take off=ax.take off)∧BackInv (os.drop off) (oz.drop off) ys j C2∧w.grownBy wr (some g)) (fun _ i _=>k-(intOf i).toNat)
  case atStart=>exact⟨0,0,os,Nat.zero_le _,rfl,rfl,hown,ht,BackInv.zero _ _,hgr⟩
  case round=>
   obtain⟨j,C2,oz,hj,rfl,rfl,hown2,ht2,hK,hgr2⟩:=hrel
   have hbw2:=jH hgr2 hgs
   by_cases hlj:j<k
   ·have ho1:=hown2.cell (show off+j<N by omega)
    have ho2:=hown2.frozen (off+j)
    have ho3:=hown2.lim.nth (by omega) (off+j)
    have hC2:=hK.1.le
    have hat:=hK.at_
    rw[cV,cV]at hat
    have hset:=hown2.set (off+j) (v:=bU (nth oz (off+j)+nth ys j+C2)) (lV _)
    have hstep:=hK.step (by rw[List.length_drop,HO.out];omega) hol hb.lim
    rw[cV,←hat,←mC]at hstep
    clear hat
    have hts:=mD oz off j (bU (nth oz (off+j)+nth ys j+C2))
    rw[ht2.out]at hts
    have Hts:=Lib.hid hts
    clear hts
    by_cases hkm:j<m
    ·obtain⟨b2,o2,sp2,rfl,hbb2,hcc2⟩:=(hb.below hbw2).at_ hkm
     have hy1:=hb.lim.nth (by omega) j
     go_wp2_with fail
     refine(iO _ _ _ _ ho3 hy1 (by omega)).mono ?_
     rintro e w' ⟨rfl,rfl⟩
     go_wp2_with fail
     go_roundw
     case rel=>exact⟨j+1,_,_,by omega,by go_num,rfl,hset,Hts,hstep,gN hgr2 _ _⟩
     case measure=>simp[intOf];omega
    have hy0:nth ys j=0:=eO (by rw[HB.out];omega)
    rw[hy0]at hset hstep Hts
    clear hy0
    go_wp2_with fail
    refine(iO _ 0 _ _ ho3 (by omega) (by omega)).mono ?_
    rintro e w' ⟨rfl,rfl⟩
    go_wp2_with fail
    go_roundw
    case rel=>exact⟨j+1,_,_,by omega,by go_num,rfl,hset,Hts,hstep,gN hgr2 _ _⟩
    case measure=>simp[intOf];omega
   obtain rfl:j=k:=by omega
   have h1:vl 4294967296 ((oz.drop off).take j)=vl 4294967296 ((ax.drop off).take j)%vl 4294967296 ys:=by
    refine R2.out _ C2 ?_ hK.1.le ?_
    ·have:=cW ((hown2.lim.drop off).take j)
     rwa[List.length_take,List.length_drop,hown2.len,Nat.min_eq_left (by omega)]at this
    have:=hK.1.2
    rwa[aN 4294967296 (l:=ys) (by rw[HB.out];omega)]at this
   have H1:=Lib.hid h1
   have h2:∀i,off+j≤i→nth oz i=nth ax i:=fun i hi=>by
    have:=hK.2.2 (i-off) (by omega)
    rw[cV,cV,show off+(i-off)=i by omega]at this
    rw[this];exact Hhi.out i hi
   have H2:=Lib.hid h2
   clear h1 h2 hK
   go_wp2_with fail
   go_ret
   exact⟨oz,by rw[←R1.out];go_num,hown2,ht2.out,H2.out,H1.out,hgr2⟩
end Go.Proofs.YteggpgndiajdpaaDoor
namespace Go.Proofs.YteggpgndiajdpaaDoor
open Go Go.Shelf
def laysLz_ren:Go.Shelf.Ren:=⟨fun | 133=>77 | 128=>105 | n=>n,fun | 51=>64 | 3=>3 | 4=>4 | 46=>113 | 5=>5 | 9=>9 | n=>n,fun | n=>n⟩
theorem zW:Go.Proofs.Lays.n133 Tryd.prog laysLz_ren:={
 mixed:=by kernel_rfl
 f128:=Tryd.func105.trans (congrArg some (by kernel_rfl))
 f133:=Tryd.func77.trans (congrArg some (by kernel_rfl))
 t3:=Tryd.underlying3
 a3:=Tryd.isAgg3
 z3:=Tryd.sizeOf3
 v3:=Tryd.zeroValue3
 t4:=Tryd.underlying4
 a4:=Tryd.isAgg4
 z4:=Tryd.sizeOf4
 v4:=Tryd.zeroValue4
 t5:=Tryd.underlying5
 a5:=Tryd.isAgg5
 z5:=Tryd.sizeOf5
 v5:=Tryd.zeroValue5
 t9:=Tryd.underlying9
 a9:=Tryd.isAgg9
 z9:=Tryd.sizeOf9
 v9:=Tryd.zeroValue9
 t46:=Tryd.underlying113
 a46:=Tryd.isAgg113
 z46:=Tryd.sizeOf113
 v46:=Tryd.zeroValue113
 t51:=Tryd.underlying64
 a51:=Tryd.isAgg64
 z51:=Tryd.sizeOf64
 v51:=Tryd.zeroValue64}
theorem jC:∀(f x:Nat),x<2^f→x≠0→0<Lib.bitLenAux f x∧2^(Lib.bitLenAux f x-1)≤x∧x<2^Lib.bitLenAux f x∧Lib.bitLenAux f x≤f
 | 0,x,h,h0=>by simp at h;exact absurd h h0
 | f+1,x,h,h0=>by
  simp only[Lib.bitLenAux,if_neg h0]
  by_cases h1:x/2=0
  ·rw[h1]
   have:x=1:=by omega
   subst this
   cases f <;> simp[Lib.bitLenAux]
  obtain⟨a,b,c,d⟩:=jC f (x/2) (by rw[Nat.pow_succ]at h;omega) h1
  generalize Lib.bitLenAux f (x/2)=k at*
  have e:2^k=2*2^(k-1):=by
   rw[←Nat.pow_succ',show(k-1).succ=k by omega]
  refine⟨by omega,?_,?_,by omega⟩
  ·rw[show 1+k-1=k by omega];omega
  rw[Nat.add_comm,Nat.pow_succ];omega
theorem qM {x:Nat}(h:x<4294967296) (h0:x≠0):∃k:Nat,(32:Int)-(Lib.bitLen x:Int)=(k:Int)∧k<32∧2147483648≤x*2^k∧x*2^k<4294967296:=by
 have hx:x<2^64:=Nat.lt_trans h (by decide)
 obtain⟨a,b,c,_⟩:=jC 64 x hx h0
 have hl:Lib.bitLen x≤32:=Lib.bitLen_le x 32 (by omega) (by omega)
 have hd:Lib.bitLen x=Lib.bitLenAux 64 x:=rfl
 rw[←hd]at a b c
 generalize Lib.bitLen x=l at*
 have e1:2^(l-1)*2^(32-l)=2147483648:=by
  rw[←Nat.pow_add,show l-1+(32-l)=31 by omega]
 have e2:2^l*2^(32-l)=4294967296:=by
  rw[←Nat.pow_add,show l+(32-l)=32 by omega]
 have hp:0<2^(32-l):=Nat.pos_of_ne_zero (by simp)
 refine⟨32-l,by omega,by omega,?_,?_⟩
 ·rw[←e1];exact Nat.mul_le_mul_right _ b
 rw[←e2];exact Nat.mul_lt_mul_of_pos_right c hp
theorem bits_LeadingZeros32 (x:Nat) (w:World) (h:x<4294967296) (h0:x≠0):
  ∃k:Nat,k<32∧2147483648≤x*2^k∧x*2^k<4294967296∧
   Calls Tryd.prog 77 #[.int .u32 (x:Int)] w fun e w'=>e=.returned (.int .i64 (k:Int))∧w=w':=by
 obtain⟨k,e,k1,k2,k3⟩:=qM h h0
 refine⟨k,k1,k2,k3,(Any.bits_LeadingZeros32 zW (x:Int) w (by omega) (by omega)).mono fun _ _ ⟨h1,h2⟩=>⟨?_,h2.symm⟩⟩
 rw[h1,←e]
 rfl
end Go.Proofs.YteggpgndiajdpaaDoor
namespace Go.Proofs.YteggpgndiajdpaaDoor
open Go Go.RowKit
theorem qS {l:List Nat}{m:Nat}(h:vl 4294967296 l<4294967296^m):vl 4294967296 (l.take m)=vl 4294967296 l∧vl 4294967296 (l.drop m)=0:=by
 by_cases hm:m≤l.length
 ·have e:=gM 4294967296 l m hm
  have:vl 4294967296 (l.drop m)=0:=by
   rcases Nat.eq_zero_or_pos (vl 4294967296 (l.drop m))with h0 | h0
   ·exact h0
   have:4294967296^m*1≤4294967296^m*vl 4294967296 (l.drop m):=Nat.mul_le_mul_left _ h0
   omega
  rw[this,Nat.mul_zero,Nat.add_zero]at e
  exact⟨e.symm,this⟩
 rw[List.take_of_length_le (by omega),List.drop_eq_nil_of_le (by omega)]
 exact⟨rfl,rfl⟩
def DMInv (a0 os qs ys:List Nat) (k:Nat):Prop:=
 os.length=a0.length∧(∀j,j<k→nth os j=nth a0 j)∧vl 4294967296 (os.drop k)<vl 4294967296 ys∧vl 4294967296 (a0.drop k)=vl 4294967296 (qs.drop k)*vl 4294967296 ys+vl 4294967296 (os.drop k)
theorem DMInv.top {a ys:List Nat}{Q:Nat}(ha:Lim 4294967296 a) (hQ:Q+ys.length=a.length+1) (hy:ys.length≠0) (hv:4294967296^(ys.length-1)≤vl 4294967296 ys):
  DMInv (a++[0]) (a++[0]) (List.replicate Q 0) ys Q:=by
 refine⟨rfl,fun _ _=>rfl,?_,?_⟩
 ·have e:(a++[0]).drop Q=a.drop Q++[0]:=by rw[List.drop_append_of_le_length (by omega)]
  rw[e,eB,Nat.mul_zero,Nat.add_zero]
  have:=cW (ha.drop Q)
  rw[List.length_drop,show a.length-Q=ys.length-1 by omega]at this
  omega
 have e:(List.replicate Q 0).drop Q=[]:=List.drop_eq_nil_of_le (by simp)
 rw[e,Gm,Nat.zero_mul,Nat.zero_add]
theorem DMInv.window {a0 os qs ys:List Nat}{i:Nat}(h:DMInv a0 os qs ys (i+1)) (hi:i<os.length) (hy:Lim 4294967296 ys) (ho:Lim 4294967296 os):
  vl 4294967296 ((os.drop i).take (ys.length+1))=vl 4294967296 (os.drop i)∧vl 4294967296 (os.drop i)=nth os i+4294967296*vl 4294967296 (os.drop (i+1))∧
   vl 4294967296 (os.drop i)<vl 4294967296 ys*4294967296∧vl 4294967296 ((os.drop i).drop (ys.length+1))=0:=by
 obtain⟨h1,h2,h3,h4⟩:=h
 have e:=dJ 4294967296 (l:=os) (k:=i+1) (by omega) (by omega)
 rw[show i+1-1=i by omega]at e
 have o1:=ho.nth (by omega) i
 have hv:=cW hy
 have hlt:vl 4294967296 (os.drop i)<vl 4294967296 ys*4294967296:=by
  rw[e]
  generalize vl 4294967296 (os.drop (i+1))=r at*
  generalize vl 4294967296 ys=v at*
  omega
 have hp:vl 4294967296 (os.drop i)<4294967296^(ys.length+1):=by
  rw[Nat.pow_succ]
  exact Nat.lt_of_lt_of_le hlt (Nat.mul_le_mul_right _ (Nat.le_of_lt hv))
 obtain⟨t1,t2⟩:=qS hp
 exact⟨t1,e,hlt,t2⟩
theorem pI {a b:List Nat}(hl:a.length=b.length){k:Nat}(h:∀j,k≤j→nth a j=nth b j):a.drop k=b.drop k:=by
 apply List.ext_getElem
 ·simp[hl]
 intro i h1 h2
 rw[List.length_drop]at h1 h2
 have:=h (k+i) (by omega)
 rw[aS (by omega),aS (by omega)]at this
 simpa using this
theorem jD {a b:List Nat}{i:Nat}(h:a.take i=b.take i){j:Nat}(hj:j<i):nth a j=nth b j:=by
 have e:∀l:List Nat,nth (l.take i) j=nth l j:=fun l=>by
  unfold nth
  rw[List.getD_eq_getElem?_getD,List.getD_eq_getElem?_getD,List.getElem?_take,if_pos hj]
 rw[←e a,←e b,h]
theorem DMInv.step {a0 os qs ys os':List Nat}{i:Nat}(h:DMInv a0 os qs ys (i+1)) (hi:i<os.length) (hq:i<qs.length) (hy:Lim 4294967296 ys) (ho:Lim 4294967296 os) (hv:0<vl 4294967296 ys)
  (hl:os'.length=os.length) (ht:os'.take i=os.take i) (hhi:∀j,i+(ys.length+1)≤j→nth os' j=nth os j)
  (hr:vl 4294967296 ((os'.drop i).take (ys.length+1))=vl 4294967296 ((os.drop i).take (ys.length+1))%vl 4294967296 ys) (hN:i+(ys.length+1)≤os.length):
  DMInv a0 os' (qs.set i (vl 4294967296 ((os.drop i).take (ys.length+1))/vl 4294967296 ys)) ys i:=by
 obtain⟨w1,w2,w3,w4⟩:=h.window hi hy ho
 obtain⟨h1,h2,h3,h4⟩:=h
 have hd:(os'.drop i).drop (ys.length+1)=(os.drop i).drop (ys.length+1):=by
  rw[List.drop_drop,List.drop_drop]
  exact pI hl hhi
 have hv':vl 4294967296 (os'.drop i)=vl 4294967296 (os.drop i)%vl 4294967296 ys:=by
  rw[gM 4294967296 (os'.drop i) (ys.length+1) (by rw[List.length_drop];omega),hd,w4,hr,w1]
  omega
 have e:=dJ 4294967296 (l:=a0) (k:=i+1) (by omega) (by omega)
 rw[show i+1-1=i by omega]at e
 have e2:=dJ 4294967296 (l:=qs.set i (vl 4294967296 ((os.drop i).take (ys.length+1))/vl 4294967296 ys)) (k:=i+1) (by omega) (by rw[List.length_set];omega)
 have e3:(qs.set i (vl 4294967296 ((os.drop i).take (ys.length+1))/vl 4294967296 ys)).drop (i+1)=qs.drop (i+1):=by rw[List.drop_set,if_pos (by omega)]
 rw[show i+1-1=i by omega,nX hq,e3]at e2
 refine⟨by omega,fun j hj=>by rw[jD ht hj];exact h2 j (by omega),by rw[hv'];exact Nat.mod_lt _ hv,?_⟩
 rw[e,e2,hv',h4,←h2 i (by omega),w1]
 have hdm:=Nat.div_add_mod (vl 4294967296 (os.drop i)) (vl 4294967296 ys)
 rw[w2]at hdm⊢
 generalize vl 4294967296 (os.drop (i+1))=r at*
 generalize vl 4294967296 ys=v at*
 generalize vl 4294967296 (qs.drop (i+1))=q at*
 generalize (nth os i+4294967296*r)/v=d at*
 generalize (nth os i+4294967296*r)%v=m at*
 grind
theorem DMInv.end_ {a0 os qs ys:List Nat}(h:DMInv a0 os qs ys 0) (hv:0<vl 4294967296 ys):vl 4294967296 qs=vl 4294967296 a0/vl 4294967296 ys∧vl 4294967296 os=vl 4294967296 a0%vl 4294967296 ys:=by
 obtain⟨_,_,h3,h4⟩:=h
 simp only[List.drop_zero]at h3 h4
 exact zU hv (by omega) h3
theorem Fl {l:List Nat}{m:Nat}(h:l.length=m+3):vl 4294967296 l=((nth l (m+2)*4294967296+nth l (m+1))*4294967296+nth l m)*4294967296^m+vl 4294967296 (l.take m):=by
 have e1:=aG 4294967296 l m
 have e2:=aG 4294967296 l (m+1)
 have e3:=aG 4294967296 l (m+1+1)
 rw[aN 4294967296 (l:=l) (by omega)]at e3
 rw[e3,e2,e1]
 simp only[Nat.pow_succ]
 generalize 4294967296^m=p at*
 grind
theorem Fm {l:List Nat}{m:Nat}(h:l.length=m+2):vl 4294967296 l=(nth l (m+1)*4294967296+nth l m)*4294967296^m+vl 4294967296 (l.take m):=by
 have e1:=aG 4294967296 l m
 have e2:=aG 4294967296 l (m+1)
 rw[aN 4294967296 (l:=l) (by omega)]at e2
 rw[e2,e1]
 simp only[Nat.pow_succ]
 generalize 4294967296^m=p at*
 grind
theorem Fn {B p f s hi mid low v' ul:Nat}(hs:s<B) (hv:v'<p) (hlt:((hi*B+mid)*B+low)*p+ul<((f*B+s)*p+v')*B):hi≤f:=by
 rcases Nat.lt_or_ge f hi with h | h
 ·exfalso
  have hB:0<B:=by omega
  have h1:(f*B+s)*p+v'<(f*B+s+1)*p:=by rw[Nat.succ_mul];omega
  have h2:=Nat.mul_lt_mul_of_pos_right h1 hB
  have h3:f*B+s+1≤(f+1)*B:=by rw[Nat.succ_mul];omega
  have h4:=Nat.mul_le_mul_right B (Nat.mul_le_mul_right p h3)
  have h5:=Nat.mul_le_mul_right B (Nat.mul_le_mul_right p (Nat.mul_le_mul_right B h))
  have h6:hi*B*p*B=hi*B*B*p:=by rw[Nat.mul_assoc (hi*B) p B,Nat.mul_comm p B,←Nat.mul_assoc]
  have h7:hi*B*B*p≤((hi*B+mid)*B+low)*p:=Nat.mul_le_mul_right _ (by rw[Nat.add_mul];omega)
  have h8:(f+1)*B*p*B≤hi*B*p*B:=h5
  omega
 exact h
theorem tA {u:List Nat}{ys:List Nat}{m:Nat}(hu:Lim 4294967296 u) (hul:u.length=m+3) (hy:Lim 4294967296 ys) (hyl:ys.length=m+2) (hf:2147483648≤nth ys (m+1)) (hlt:vl 4294967296 u<vl 4294967296 ys*4294967296):
  nth u (m+2)≤nth ys (m+1)∧
  vl 4294967296 u/vl 4294967296 ys≤bX ((nth u (m+2)*4294967296+nth u (m+1))*4294967296+nth u m) (nth ys (m+1)*4294967296+nth ys m)∧
  bX ((nth u (m+2)*4294967296+nth u (m+1))*4294967296+nth u m) (nth ys (m+1)*4294967296+nth ys m)≤vl 4294967296 u/vl 4294967296 ys+1:=by
 have e1:=Fl hul
 have e2:=Fm hyl
 have l1:=cW (hu.take m)
 have l2:=cW (hy.take m)
 rw[List.length_take,Nat.min_eq_left (by omega)]at l1 l2
 have y1:=hy.nth (by omega) m
 refine⟨?_,xP e1 l1 e2 l2 (by omega) hlt⟩
 rw[e1,e2]at hlt
 exact Fn y1 l2 hlt
def Apart (A1 A2:Option Addr):Prop:=∀a b,A1=some a→A2=some b→a.block≠b.block
theorem Apart.left (A:Option Addr):Apart none A:=fun _ _ h=>by cases h
theorem Apart.right (A:Option Addr):Apart A none:=fun _ _ _ h=>by cases h
theorem Apart.symm {A1 A2:Option Addr}(h:Apart A1 A2):Apart A2 A1:=fun a b ha hb e=>h b a hb ha e.symm
theorem Apart.of {t:TypeId}{w0 w1:World}{b1 b2 n1 c1 n2 c2:Nat}{A1 A2:Option Addr}{xs ys:List Nat}(h1:Own t w0 b1 A1 n1 c1 xs) (h2:Own t w1 b2 A2 n2 c2 ys) (h:w0.heap.size≤b2):Apart A1 A2:=by
 rintro a b rfl rfl e
 rcases h1.row.2 with⟨hh,_⟩ | ⟨g,cap,cur,hv,_,hg,_⟩
 ·cases hh
 rcases h2.row.2 with⟨hh,_⟩ | ⟨g2,cap2,cur2,hv2,hb2,_⟩
 ·cases hh
 injection hv with e1
 injection e1 with e1
 injection hv2 with e2
 injection e2 with e2
 subst e1;subst e2
 have:=(Array.getElem?_eq_some_iff.1 hg).1
 dsimp only at e
 omega
def oC (q r:List Nat) (e1:Nat) (w:World) (e:Ending) (w':World):Prop:=
 ∃A1 n1 c1 A2 n2 c2,e=.returned (.tuple #[.slice A1 n1 c1,.slice A2 n2 c2,.int .i64 (e1:Int)])∧Own 64 w' w.heap.size A1 n1 c1 q∧Own 64 w' w.heap.size A2 n2 c2 r∧Apart A1 A2∧Below w.heap.size w w'
set_option maxHeartbeats 1000000 in
theorem oD (A B:Option Addr) (n m c d:Nat) (xs ys:List Nat) (w:World) (ha:U32 w w.heap.size A n c xs) (hb:U32 w w.heap.size B m d ys) (hn:n≤549755813888) (hm:m≤549755813888) (hy:vl 4294967296 ys=0):
  Calls Tryd.prog 40 #[.slice A n c,.slice B m d] w (oC [] [] 20 w):=by
 have ht:trim ys=[]:=(cL 4294967296 (by omega) ys).2 hy
 go_enter Tryd.func40,Tryd.ntmps40
 go_wp2_with fail
 refine(cB _ _ _ xs _ ha (by omega)).mono ?_
 rintro e w1 ⟨A1,n1,c1,rfl,h1,hb1⟩
 go_wp2_with fail
 refine(cB _ _ _ ys _ (hb.now hb1) (by omega)).mono ?_
 rintro e w2 ⟨A2,n2,c2,rfl,h2,hb2⟩
 obtain rfl:n2=0:=by rw[←h2.len,ht];rfl
 have hb3:=hb1.trans (hb2.mono hb1.size)
 go_wp2_with fail
 go_ret3
 exact⟨none,0,0,none,0,0,rfl,Own.nil,Own.nil,Apart.left _,hb3⟩
set_option maxHeartbeats 1000000 in
theorem qT (A B:Option Addr) (n m c d:Nat) (xs ys:List Nat) (w:World) (ha:U32 w w.heap.size A n c xs) (hb:U32 w w.heap.size B m d ys) (hn:n≤549755813888) (hm:m≤549755813888) (hlt:vl 4294967296 xs<vl 4294967296 ys):
  Calls Tryd.prog 40 #[.slice A n c,.slice B m d] w (oC (dg 4294967296 (vl 4294967296 xs/vl 4294967296 ys)) (dg 4294967296 (vl 4294967296 xs%vl 4294967296 ys)) 0 w):=by
 have e1:=Lib.hid (jB hlt)
 have e2:=Lib.hid (Nat.div_eq_of_lt hlt)
 have e3:=Lib.hid (Nat.mod_eq_of_lt hlt)
 have e4:=Lib.hid (cY (by omega) ha.lim:dg 4294967296 (vl 4294967296 xs)=trim xs)
 have hy:trim ys≠[]:=fun e=>by
  have:=(cL 4294967296 (by omega) ys).1 e
  omega
 go_enter Tryd.func40,Tryd.ntmps40
 go_wp2_with fail
 refine(cB _ _ _ xs _ ha (by omega)).mono ?_
 rintro e w1 ⟨A1,n1,c1,rfl,h1,hb1⟩
 go_wp2_with fail
 refine(cB _ _ _ ys _ (hb.now hb1) (by omega)).mono ?_
 rintro e w2 ⟨A2,n2,c2,rfl,h2,hb2⟩
 have hn2:0<n2:=by
  rw[←h2.len]
  exact List.length_pos_iff.2 hy
 have hq:((n2:Int)==0)=false:=by rw[beq_eq_false_iff_ne];omega
 have h3:=h1.below hb2
 have hb3:=hb1.trans (hb2.mono hb1.size)
 clear hy
 go_wp2_with fail
 refine(mW _ _ _ _ _ _ _ _ _ _ h3.u32 h2.u32).mono ?_
 rintro e w' ⟨rfl,q,rfl⟩
 rw[bL,bL,e1.out]
 go_wp2_with fail
 go_ret3
 refine⟨none,0,0,A1,n1,c1,rfl,by rw[e2.out];exact Own.nil,by rw[e3.out,e4.out];exact h3.drew_base,Apart.left _,dT hb3 _⟩
set_option maxHeartbeats 1000000 in
theorem pJ (A B:Option Addr) (n m c d y:Nat) (xs ys:List Nat) (w:World) (ha:U32 w w.heap.size A n c xs) (hb:U32 w w.heap.size B m d ys) (hn:n≤549755813888) (hm:m≤549755813888) (hle:vl 4294967296 ys≤vl 4294967296 xs) (ht:trim ys=[y]):
  Calls Tryd.prog 40 #[.slice A n c,.slice B m d] w (oC (dg 4294967296 (vl 4294967296 xs/vl 4294967296 ys)) (dg 4294967296 (vl 4294967296 xs%vl 4294967296 ys)) 0 w):=by
 have hy1:vl 4294967296 ys=y:=by rw[←bL,ht,rC]
 have hyl:y<4294967296:=by
  have:=hb.lim.trim
  rw[ht]at this
  exact this.head
 have hy0:y≠0:=by
  have:=hJ (hH ys) (by rw[ht];simp)
  simpa[ht]using this
 have hge:¬gY (vl 4294967296 (trim xs)) (vl 4294967296 (trim ys))<0:=by
  rw[bL,bL]
  rcases Nat.lt_or_ge (vl 4294967296 ys) (vl 4294967296 xs)with h | h
  ·rw[gI h];omega
  rw[pH (by omega)];omega
 have htl:=bN xs
 rw[ha.len]at htl
 have hx1:=bL 4294967296 xs
 rw[hy1]
 have HT:=Lib.hid ht
 clear ht hle hy1
 go_enter Tryd.func40,Tryd.ntmps40
 go_wp2_with fail
 refine(cB _ _ _ xs _ ha (by omega)).mono ?_
 rintro e w1 ⟨A1,n1,c1,rfl,h1,hb1⟩
 have H1:=Lib.hid h1.len
 go_wp2_with fail
 refine(cB _ _ _ ys _ (hb.now hb1) (by omega)).mono ?_
 rintro e w2 ⟨A2,n2,c2,rfl,h2,hb2⟩
 obtain rfl:n2=1:=by rw[←h2.len,HT.out];rfl
 have h3:=h1.below hb2
 have hb3:=hb1.trans (hb2.mono hb1.size)
 clear hb1 hb2 h1
 obtain⟨g,rfl,hg1,hg2⟩:=h2.form (by omega)
 have hc:=h2.cell (j:=0) (by omega)
 rw[HT.out,show nth [y] 0=y from rfl]at hc
 have HX:=Lib.hid hx1
 clear hx1
 go_wp2_with fail
 refine(mW _ _ _ _ _ _ _ _ _ _ h3.u32 h2.u32).mono ?_
 rintro e w' ⟨rfl,q,rfl⟩
 go_wp2_with fail
 refine(gA _ _ _ _ _ (w2.drewN q) h3.drew_base.u32 (by rw[←H1.out];omega) (by omega) hyl).mono ?_
 rintro e w3 ⟨A3,n3,c3,rfl,h4,hb4⟩
 have hb5:Below w.heap.size w w3:=(dT hb3 q).trans (hb4.mono hb3.size)
 have hr:vl 4294967296 (trim xs)%y<4294967296:=Nat.lt_trans (Nat.mod_lt _ (by omega)) hyl
 clear hb4
 go_wp2_with fail
 have hU:U32 (w3.alloc (.cells #[.int .u32 (vl 4294967296 (trim xs)%y:Nat)] 64)) (w3.alloc (.cells #[.int .u32 (vl 4294967296 (trim xs)%y:Nat)] 64)).heap.size (some ⟨w3.heap.size,0,none⟩) 1 1 [vl 4294967296 (trim xs)%y]:=by
  refine⟨⟨rfl,Nat.le_refl _,by omega,fun _=>⟨_,rfl,by simp,fun k u hu=>?_⟩⟩,Lim.cons hr Lim.nil⟩
  have hk:k=0:=by
   rcases Nat.eq_zero_or_pos k with h | h
   ·exact h
   rw[List.getElem?_eq_none (by rw[dN];exact h)]at hu;cases hu
  subst hk
  rw[show(⟨w3.heap.size,0,none⟩:Addr).add 0=⟨w3.heap.size,0,none⟩ from rfl,jG _ _ _ 0 rfl]
  exact hu
 refine(cB _ _ _ [vl 4294967296 (trim xs)%y] _ hU (by omega)).mono ?_
 rintro e w4 ⟨A4,n4,c4,rfl,h5,hb6⟩
 have hbA:Below w3.heap.size w3 (w3.alloc (.cells #[.int .u32 (vl 4294967296 (trim xs)%y:Nat)] 64)):=eA _ _
 have hb7:=hbA.trans (hb6.mono hbA.size)
 go_wp2_with fail
 go_ret3
 refine⟨_,_,_,_,_,_,rfl,?_,?_,?_,hb5.trans (hb7.mono hb5.size)⟩
 ·have:=(h4.below hb7).base_le hb3.size
  rwa[HX.out]at this
 ·have:=h5.base_le (base':=w.heap.size) (Nat.le_trans hb5.size hbA.size)
  rw[←cY (by omega) (Lim.cons hr Lim.nil),rC,HX.out]at this
  exact this
 exact Apart.of h4 h5 hbA.size
end Go.Proofs.YteggpgndiajdpaaDoor
